/- Part O10 of the proof. -/
import Derived.Test.YtdjfjpeoddmamaaGreatDoorO09
set_option linter.all false
namespace Go.Abs
abbrev MB:Nat:=1000000000
def u32(d:Nat):AV:= .v (.int .u32 d)
def i64(z:Int):AV:= .v (.int .i64 z)
def u64(z:Int):AV:= .v (.int .u64 z)
def bln(b:Bool):AV:= .v (.bool b)
def dE(l:List Nat):List (List AV):=l.map fun d=>[u32 d]
def mag(n:Nat):AV:= .arr (dE (digs MB n))
@[simp] theorem he_ (l:List Nat):(dE l).length=l.length:=by simp[dE]
theorem cs_{l:List Nat}{i d:Nat}(h:l[i]?=some d):(dE l)[i]?=some [u32 d]:=by simp[dE,h]
theorem tw_(l:List Nat)(k:Nat):(dE l).take k=dE (l.take k):=by simp[dE]
theorem fR_(l m:List Nat):dE (l++m)=dE l++dE m:=by simp[dE]
theorem eE_(l:List Nat)(i d:Nat):(dE l).set i [u32 d]=dE (l.set i d):=by simp[dE,List.map_set]
theorem dL_(k:Nat):List.replicate k [u32 0]=dE (List.replicate k 0):=by simp[dE]
theorem cK_(l:List Nat):(dE l).all (·.all AV.one)=true:=by simp[dE,u32,AV.one];intros;rfl
theorem oq_(l:List Nat):∀e∈dE l,e.length=1:=by intro e he;simp[dE] at he;obtain⟨d,_,rfl⟩:=he;rfl
theorem a8_(l:List Nat):∀e∈dE l,∀c∈e,Closed c:=by
 intro e he c hc;simp[dE] at he;obtain⟨d,_,rfl⟩:=he;simp at hc;subst hc;exact ad_ _
theorem bA_(l:List Nat):Closed (.arr (dE l)):=aL_ (a8_ l)
theorem bh_(n:Nat):Closed (mag n):=bA_ _
theorem ah_:∀a∈([]:List AV),Closed a:=fun _ h=>by cases h
theorem ab_{a:AV}{l:List AV}(h:Closed a)(h':∀a∈l,Closed a):∀b∈a::l,Closed b:=by
 intro b hb;rcases List.mem_cons.1 hb with rfl|hb
 exact h;exact h' b hb
theorem AEval.lenD{P:Program}{id:Nat}{ev:Operand→Option AV}{hp:Nat→Option ABlk}{c:Call}{x:Operand}{T:Nat}{d:Nat×Nat}{l:List Nat}(hc:c.callee= .builtin .len)(ha:c.args= #[x])(ht:c.argTypes= #[T])(hx:ev x=some (.arr (dE l)))(he:elOf P T=some d):
    AEval P id ev hp (.call c) ⟨.v (.int .i64 (l.length:Nat)),[]⟩ []:= .len hc ha ht hx (by simp[lenA]) he
theorem dV_(b:Nat)(s:List Nat)(v:Nat):ofD b (s++[v])=ofD b s+b^ s.length* v:=by rw[du_];simp[ofD]
theorem cv_{α:Type}{l:List α}{k:Nat}{x:α}(h:l[k]?=some x):l.take (k+1)=l.take k++[x]:=by
 rw[List.take_add_one,h];rfl
theorem bz_(b:Nat){l:List Nat}{k d:Nat}(h:l[k]?=some d):ofD b (l.take (k+1))=ofD b (l.take k)+b^ k* d:=by
 have hk:k< l.length:=(List.getElem?_eq_some_iff.1 h).1;rw[cv_ h,dV_,List.length_take,Nat.min_eq_left (by omega)]
theorem cA_(b:Nat)(l:List Nat)(k:Nat):ofD b (l.take (k+1))=ofD b (l.take k)+b^ k* (l[k]?.getD 0):=by
 cases h:l[k]? with
 |some d=>exact bz_ b h
 |none=>rw[List.getElem?_eq_none_iff] at h;rw[List.take_of_length_le (by omega),List.take_of_length_le (by omega)];simp
theorem dH_(b:Nat){l:List Nat}{k:Nat}(h:l.length≤k):ofD b (l.take k)=ofD b l:=by rw[List.take_of_length_le h]
theorem f5_(b:Nat){l:List Nat}{k d:Nat}(h:l[k]?=some d):ofD b (l.drop k)=d+b* ofD b (l.drop (k+1)):=by
 rw[List.drop_eq_getElem_cons (List.getElem?_eq_some_iff.1 h).1,ofD];grind
theorem iT_(b:Nat):∀{l:List Nat} {j d:Nat} (v:Nat),l[j]?=some d→ofD b (l.set j v)+b^ j* d=ofD b l+b^ j* v
 |[],_,_,_,h=>by grind
 |x::l,0,d,v,h=>by simp at h;simp[ofD];omega
 |x::l,j+1,d,v,h=>by
  simp only[List.getElem?_cons_succ] at h;have:=iT_ b v h;rw[List.set_cons_succ,ofD,ofD];grind
theorem k6_{l:List Nat}{j v:Nat}{p:Nat→Prop}(h:∀d∈l,p d)(hv:p v):∀d∈l.set j v,p d:=by grind
theorem rh_{α:Type}{cs vs:List α}(h:vs.length=cs.length):setAt cs 0 vs=vs:=by
 apply List.ext_getElem?;intro j;rw[cN_];grind
theorem nB_{α:Type}{cs vs:List α}(h:vs.length≤cs.length):setAt cs 0 vs=vs++cs.drop vs.length:=by
 apply List.ext_getElem?;intro j;rw[cN_];grind
theorem oK_(s:List Nat)(m v i:Nat)(hi:i=s.length):(s++List.replicate (m+1) 0).set i v=(s++[v])++List.replicate m 0:=by
 subst hi;grind
theorem pf_(s:List Nat)(m i:Nat)(hi:i=s.length):(s++List.replicate (m+1) 0)[i]?=some 0:=by grind
theorem bu_{b n i d:Nat}(hb:1< b)(h:(digs b n)[i]?=some d):d< b:=b6_ hb n d (List.mem_of_getElem? h)
theorem qG_{n:Nat}(h0:0< n)(h:n< MB):digs MB n=[n]:=by
 rw[cJ_ (by decide) h0,Nat.div_eq_of_lt h,bq_,Nat.mod_eq_of_lt h]
theorem ts_{b:Nat}(hb:1< b)(n k:Nat):(digs b n).drop k=digs b (ofD b ((digs b n).drop k)):=by
 symm;refine lC_ hb ⟨fun d hd=>b6_ hb n d (List.mem_of_mem_drop hd),?_⟩;by_cases hk:k< (digs b n).length;rw[List.getLast?_drop,if_neg (by omega)];exact jw_ hb n;grind
theorem jv_{b n:Nat}(hb:1< b):b^ ((digs b n).length- 1)≤n∨n=0:=by
 rcases Nat.eq_zero_or_pos n with h|h
 exact .inr h;have hne:digs b n≠[]:=fun e=>by have:=(dc_ hb).1 e;omega
 have hl:=jw_ hb n;obtain⟨s,x,e⟩:∃s x,digs b n=s++[x]:=⟨_,_,(List.dropLast_concat_getLast hne).symm⟩;have h1:=aZ_ hb n;rw[e,dV_] at h1;rw[e] at hl;simp at hl;rw[e];simp;have:b^ s.length* 1≤b^ s.length* x:=Nat.mul_le_mul_left _ (by omega);omega
theorem eN_{b m n:Nat}(hb:1< b)(h:(digs b m).length< (digs b n).length):m< n:=by
 have h1:=dI_ (b:=b) (b6_ hb m);rw[aZ_ hb] at h1;rcases jv_ (n:=n) hb with h2|h2
 have:b^ (digs b m).length≤b^ ((digs b n).length- 1):=Nat.pow_le_pow_right (by omega) (by omega);omega;subst h2;rw[bq_] at h;grind
theorem pb_{b m n:Nat}(hb:1< b)(h:m≤n):(digs b m).length≤(digs b n).length:=by
 rcases Nat.lt_or_ge (digs b n).length (digs b m).length with h1|h1
 have:=eN_ hb h1;omega;grind
def restD(n k:Nat):Nat:=ofD MB ((digs MB n).drop k)
def preD(n k:Nat):List Nat:=(digs MB n).take k
theorem kc_(n:Nat):restD n 0=n:=aZ_ (by decide) n
theorem ec_(n:Nat):preD n 0=[]:=rfl
theorem preD_end(n:Nat):preD n (digs MB n).length=digs MB n:=List.take_length
theorem gv_{n k:Nat}(h:k≤(digs MB n).length):(preD n k).length=k:=by simp[preD,Nat.min_eq_left h]
theorem kd_{n k:Nat}(h:k< (digs MB n).length):restD n (k+1)=restD n k/ MB∧preD n (k+1)=preD n k++[restD n k % MB]:=by
 have hd:(digs MB n)[k]?=some (digs MB n)[k]:=List.getElem?_eq_getElem h;have h1:=f5_ MB hd;have h2:(digs MB n)[k]< MB:=bu_ (by decide) hd;constructor;unfold restD;rw[h1,Nat.add_mul_div_left _ _ (by decide),Nat.div_eq_of_lt h2];omega;unfold preD restD;rw[cv_ hd,h1,Nat.add_mul_mod_self_left,Nat.mod_eq_of_lt h2]
theorem restD_le{n k:Nat}(hk:k≤(digs MB n).length):restD n k≤n:=by
 have:=cb_ MB k _ hk;rw[aZ_ (by decide)] at this;have h2:=Nat.le_mul_of_pos_left (ofD MB ((digs MB n).drop k)) (Nat.pow_pos (n:=k) (show 0< MB by decide));unfold restD;omega
theorem restD_eq{n k:Nat}(hk:k≤(digs MB n).length):restD n k=0↔k=(digs MB n).length:=by
 constructor;intro e;have:=ts_ (b:=MB) (by decide) n k;rw[show ofD MB ((digs MB n).drop k)=0 from e,bq_,List.drop_eq_nil_iff] at this;omega;intro e;unfold restD;rw[e,List.drop_length];rfl
def cmpZ(a b:Int):Int:=if a< b then -1 else if b< a then 1 else 0
theorem gH_{a b:Int}(h:a< b):cmpZ a b= -1:=by simp[cmpZ,h]
theorem hM_{a b:Int}(h:b< a):cmpZ a b=1:=by simp[cmpZ];omega
theorem tD_{a b:Int}(h:a=b):cmpZ a b=0:=by simp[cmpZ];omega
theorem lH_{a b:Int}:cmpZ a b≠0↔a≠b:=by unfold cmpZ;split <;>(try split)<;> omega
theorem gV_{b i x y:Nat}{l m:List Nat}(hl:∀d∈l,d< b)(hx:l[i]?=some x)(hy:m[i]?=some y)(hd:l.drop (i+1)=m.drop (i+1))(hlt:x< y):ofD b l< ofD b m:=by
 have hi:i< l.length:=(List.getElem?_eq_some_iff.1 hx).1;have hj:i< m.length:=(List.getElem?_eq_some_iff.1 hy).1;rw[cb_ b i l (by omega),cb_ b i m (by omega),f5_ b hx,f5_ b hy,hd]
 have h1:ofD b (l.take i)< b^ i:=by
  have:=dI_ (b:=b) (l:=l.take i) fun d hd=>hl d (List.mem_of_mem_take hd);rwa[List.length_take,Nat.min_eq_left (by omega)] at this
 have h2:b^ i* (x+b* ofD b (m.drop (i+1))+1)≤b^ i* (y+b* ofD b (m.drop (i+1))):=Nat.mul_le_mul_left _ (by omega);rw[Nat.mul_add _ _ 1] at h2;omega
theorem jg_(s t:List Nat)(x:Nat)(i:Nat)(hi:i=s.length):(s++x::t)[i]?=some x:=by subst hi;simp
theorem iH_(s t:List Nat)(x v:Nat)(i:Nat)(hi:i=s.length):(s++x::t).set i v=(s++[v])++t:=by
 subst hi;rw[List.set_append_right _ _ (Nat.le_refl _)];simp
theorem do_{l:List Nat}{i x:Nat}(h:l[i]?=some x):l.drop i=x::l.drop (i+1):=by
 rw[List.drop_eq_getElem_cons (List.getElem?_eq_some_iff.1 h).1,(List.getElem?_eq_some_iff.1 h).2]
def padD(b:Nat):Nat→Nat→List Nat
 |0,_=>[]
 |n+1,m=>m % b::padD b n (m/ b)
@[simp] theorem e8_ (b:Nat):∀n m,(padD b n m).length=n
 |0,_=>rfl
 |n+1,m=>by simp[padD,e8_ b n]
theorem k2_{b:Nat}(hb:0< b):∀n m,∀d∈padD b n m,d< b
 |0,_,d,h=>by cases h
 |n+1,m,d,h=>by
  rcases List.mem_cons.1 h with rfl|h
  exact Nat.mod_lt _ hb;exact k2_ hb n _ d h
theorem im_{b:Nat}(hb:0< b):∀{n m:Nat},m< b^ n→ofD b (padD b n m)=m
 |0,m,h=>by simp at h;subst h;rfl
 |n+1,m,h=>by
  rw[padD,ofD,im_ hb (by rw[Nat.div_lt_iff_lt_mul hb,←Nat.pow_succ];exact h)];exact Nat.mod_add_div m b
theorem oZ_{b:Nat}:∀{l:List Nat},(∀d∈l,d< b)→padD b l.length (ofD b l)=l
 |[],_=>rfl
 |d::l,h=>by
  have hd:=h d (List.mem_cons_self ..);have h1:ofD b (d::l) % b=d:=by rw[ofD,Nat.add_mul_mod_self_left];exact Nat.mod_eq_of_lt hd
  have h2:ofD b (d::l) / b=ofD b l:=by rw[ofD,Nat.add_mul_div_left _ _ (by omega),Nat.div_eq_of_lt hd];omega
  rw[List.length_cons,padD,h1,h2,oZ_ fun x hx=>h x (List.mem_cons_of_mem _ hx)]
theorem oh_{b n m:Nat}{l:List Nat}(h:∀d∈l,d< b)(hl:l.length=n)(hv:ofD b l=m):l=padD b n m:=by
 subst hl hv;exact(oZ_ h).symm
theorem ri_{v:Nat}(h1:1≤v)(h2:v< 1000000000):500000000≤v* (1000000000/ (v+1))∧(v+1) * (1000000000/ (v+1))≤1000000000∧1≤1000000000/ (v+1):=by
 have hq1:(v+1) * (1000000000/ (v+1))≤1000000000:=Nat.mul_div_le _ _;have hq2:1000000000< (v+1) * (1000000000/ (v+1))+(v+1):=Nat.lt_mul_div_succ _ (by omega);have hq3:1≤1000000000/ (v+1):=by rw[Nat.le_div_iff_mul_le (by omega)];omega
 refine⟨?_,hq1,hq3⟩;obtain⟨q,hq⟩:∃q,q=1000000000/ (v+1):=⟨_,rfl⟩;rw[←hq] at hq1 hq2 hq3⊢;rw[Nat.add_mul,Nat.one_mul] at hq1 hq2;by_cases c1:500000000≤v;have:=Nat.mul_le_mul_left v hq3;omega;by_cases c2:250000000≤v
 have:2≤q:=by
  rw[hq,Nat.le_div_iff_mul_le (by omega)];omega
 have:=Nat.mul_le_mul_left v this;omega;by_cases c3:166666666≤v
 have:4≤q:=by
  rw[hq,Nat.le_div_iff_mul_le (by omega)];omega
 have:=Nat.mul_le_mul_left v this;omega;by_cases c4:v=1;subst c4;omega
 have:q≤333333333:=by
  rw[hq];have:1000000000/ (v+1)≤1000000000/ 3:=Nat.div_le_div_left (by omega) (by omega);omega
 omega
theorem guess_ok{b n p w u v lo lw:Nat}(hb:0< b)(hp:p=lo+b^ n* u)(hlo:lo< b^ n)(hw:w=lw+b^ n* v)(hlw:lw< b^ n)(hv:b≤2* v)(hvb:v< b)(hq:p< w* b):
    p/ w≤min (u/ v) (b- 1)∧min (u/ v) (b- 1)≤p/ w+2:=by
 have hvp:0< v:=by omega
 have hbn:0< b^ n:=Nat.pow_pos hb;have hwp:0< w:=by rw[hw];have:=Nat.mul_pos hbn hvp;omega
 have q1:w* (p/ w)≤p:=Nat.mul_div_le _ _;have q2:p< w* (p/ w)+w:=Nat.lt_mul_div_succ _ hwp;have q3:p/ w< b:=by rw[Nat.div_lt_iff_lt_mul hwp,Nat.mul_comm];exact hq
 obtain⟨q,hqe⟩:∃q,q=p/ w:=⟨_,rfl⟩;rw[←hqe] at q1 q2 q3⊢;have g1:v* (u/ v)≤u:=Nat.mul_div_le _ _;obtain⟨g,hge⟩:∃g,g=u/ v:=⟨_,rfl⟩;rw[←hge] at g1;constructor;refine Nat.le_min.2 ⟨?_,by omega⟩;rw[←hge,hge,Nat.le_div_iff_mul_le hvp]
 -- q v≤u,for q v b^n≤q w≤p< (u+1) b^n
 have h1:b^ n* (q* v)≤w* q:=by rw[hw,Nat.add_mul];rw[Nat.mul_assoc,Nat.mul_comm v q];omega
 have h2:b^ n* (q* v)< b^ n* (u+1):=by rw[Nat.mul_add];omega
 have:=Nat.lt_of_mul_lt_mul_left h2;omega;rw[←hge]
 -- if min g (b- 1)≥q+3 then(q+3) v≤u and so p≥b^n (q+3) v,but p< w (q+1)
 refine Nat.le_of_not_lt fun hlt=>?_;have hg3:q+3≤g:=by have:=Nat.min_le_left g (b- 1);omega
 have hb3:q+3≤b- 1:=by have:=Nat.min_le_right g (b- 1);omega
 have h1:v* (q+3)≤u:=Nat.le_trans (Nat.mul_le_mul_left _ hg3) g1;have h2:b^ n* (v* (q+3))≤p:=by rw[hp];have:=Nat.mul_le_mul_left (b^ n) h1;omega
 have h3:w* (q+1)< b^ n* ((v+1) * (q+1))+1:=by
  have:w≤b^ n* (v+1):=by rw[hw,Nat.mul_add];omega
  have:=Nat.mul_le_mul_right (q+1) this;rw[Nat.mul_assoc] at this;omega
 have h4:p< w* (q+1):=by rw[Nat.mul_add];omega
 have h5:b^ n* (v* (q+3))< b^ n* ((v+1) * (q+1)):=by omega
 have h6:=Nat.lt_of_mul_lt_mul_left h5;rw[Nat.mul_add,Nat.add_mul,Nat.mul_add] at h6;omega
structure DivI (U v n L:Nat)(R T:List Nat)(k:Nat):Prop where
 len:R.length=L
 dig:∀d∈R,d< MB
 digT:∀d∈T,d< MB
 k_le:k+n+T.length=L
 val:U=ofD MB R+v* (MB^ k* ofD MB T)
 top:ofD MB (R.drop k)< v
theorem DivI.start{U v n L s b:Nat}{R:List Nat}(hR:R.length=L)(hd:∀d∈R,d< MB)(hU:ofD MB R=U)(hn:n≤L)(hb:MB^ (n- 1)≤b)(hn1:1≤n)(hv:v=b* s)(hlt:U< MB^ (L- 1) * s):DivI U v n L R [] (L- n):=by
 refine⟨hR,hd,by simp,by grind,by simp[ofD,hU],?_⟩;have h1:=cb_ MB (L- n) R (by omega);have h3:MB^ (L- 1)=MB^ (L- n) * MB^ (n- 1):=by rw[←Nat.pow_add];grind
 rw[h3,Nat.mul_assoc] at hlt;have h4:MB^ (L- n) * ofD MB (R.drop (L- n))< MB^ (L- n) * (MB^ (n- 1) * s):=by omega
 have h5:=Nat.lt_of_mul_lt_mul_left h4;have h6:MB^ (n- 1) * s≤b* s:=Nat.mul_le_mul_right _ hb;omega
theorem DivI.parts{U v n L k:Nat}{R T:List Nat}(h:DivI U v n L R T (k+1))(hv:v< MB^ n):
    ofD MB (R.drop (k+n+1))=0∧ofD MB ((R.drop k).take (n+1))=ofD MB (R.drop k)∧ofD MB (R.drop k)< v* MB∧((R.drop k).take (n+1)).length=n+1∧R=R.take k++(R.drop k).take (n+1)++R.drop (k+n+1):=by
 have hl:=h.k_le;have hlen:=h.len;have hk:k< R.length:=by omega
 obtain⟨x,hx⟩:∃x,R[k]?=some x:=⟨_,List.getElem?_eq_getElem hk⟩;have hx1:x< MB:=h.dig x (List.mem_of_getElem? hx);have e1:=f5_ MB hx;have htop:=h.top;have e2:=cb_ MB n (R.drop (k+1)) (by grind);rw[List.drop_drop,show k+1+n=k+n+1 by omega] at e2
 have hz:ofD MB (R.drop (k+n+1))=0:=by
  rcases Nat.eq_zero_or_pos (ofD MB (R.drop (k+n+1))) with h0|h0
  exact h0;have:MB^ n* 1≤MB^ n* ofD MB (R.drop (k+n+1)):=Nat.mul_le_mul_left _ h0;omega
 have e3:=cb_ MB (n+1) (R.drop k) (by grind);rw[List.drop_drop,show k+(n+1)=k+n+1 by omega,hz] at e3;refine⟨hz,by omega,?_,by grind,?_⟩;have:MB* (ofD MB (R.drop (k+1))+1)≤MB* v:=Nat.mul_le_mul_left _ htop;rw[Nat.mul_add] at this;rw[Nat.mul_comm v MB];omega;rw[List.append_assoc]
 conv=>lhs;rw[←List.take_append_drop k R]
 conv=>lhs;rw[←List.take_append_drop (n+1) (R.drop k)]
 rw[List.drop_drop,show k+(n+1)=k+n+1 by omega]
theorem DivI.next{U v n L k:Nat}{R T A:List Nat}(h:DivI U v n L R T (k+1))(hv:v< MB^ n)(hv0:0< v)(hA:A=padD MB (n+1) (ofD MB (R.drop k) % v)):
    DivI U v n L (R.take k++A++R.drop (k+n+1)) (ofD MB (R.drop k) / v::T) k:=by
 obtain⟨p1,p2,p3,p4,p5⟩:=h.parts hv;have hl:=h.k_le;have hlen:=h.len
 have hm:ofD MB (R.drop k) % v< MB^ (n+1):=by
  have:=Nat.mod_lt (ofD MB (R.drop k)) hv0;have h2:MB^ n≤MB^ (n+1):=Nat.pow_le_pow_right (by decide) (by omega);omega
 have hAl:A.length=n+1:=by rw[hA];simp
 have hAv:ofD MB A=ofD MB (R.drop k) % v:=by rw[hA];exact im_ (by decide) hm
 have hk:(R.take k).length=k:=by simp;omega
 have hval:ofD MB (R.take k++A++R.drop (k+n+1))=ofD MB (R.take k)+MB^ k* (ofD MB (R.drop k) % v):=by
  rw[du_,du_,p1,hk,hAv];simp
 refine⟨by simp[hAl];omega,?_,?_,by simp;omega,?_,?_⟩;intro d hd;rcases List.mem_append.1 hd with hd|hd
 rcases List.mem_append.1 hd with hd|hd
 exact h.dig d (List.mem_of_mem_take hd);rw[hA] at hd;exact k2_ (by decide) _ _ d hd;exact h.dig d (List.mem_of_mem_drop hd);intro d hd;rcases List.mem_cons.1 hd with rfl|hd
 rw[Nat.div_lt_iff_lt_mul hv0,Nat.mul_comm];exact p3;exact h.digT d hd;rw[hval,ofD,h.val,cb_ MB k R (by omega),Nat.pow_succ];have e:=Nat.mod_add_div (ofD MB (R.drop k)) v
 have e2:MB^ k* (ofD MB (R.drop k) % v)+v* (MB^ k* (ofD MB (R.drop k) / v))=MB^ k* ofD MB (R.drop k):=by
  rw[Nat.mul_left_comm,←Nat.mul_add,e]
 rw[Nat.mul_add,Nat.mul_add,←Nat.mul_assoc (MB^ k) MB];omega;rw[List.append_assoc,List.drop_append,hk,Nat.sub_self,List.drop_zero,List.drop_of_length_le (by omega),List.nil_append,du_,p1,hAv];simp;exact Nat.mod_lt _ hv0
theorem DivI.last{U v n L a b s:Nat}{R T:List Nat}(h:DivI U v n L R T 0)(hU:U=a* s)(hv:v=b* s)(hb:0< b)(hs:0< s):ofD MB T=a/ b∧ofD MB R/ s=a % b:=by
 have h1:=h.val;have h2:=h.top;rw[List.drop_zero,hv] at h2;rw[Nat.pow_zero,Nat.one_mul,hU,hv] at h1
 have hq:ofD MB T=a/ b:=by
  have e1:a/ b=a* s/ (b* s):=(Nat.mul_div_mul_right a b hs).symm;rw[e1,h1,Nat.add_mul_div_left _ _ (Nat.mul_pos hb hs),Nat.div_eq_of_lt h2];omega
 have e2:ofD MB R=(a % b) * s:=by
  rw[hq] at h1
  have e3:a* s=(a % b) * s+b* s* (a/ b):=by
   conv=>lhs;rw[←Nat.mod_add_div a b]
   grind
  omega
 simp_all
theorem pL_{n k:Nat}(hl:(digs MB n).length=k+1){d:Nat}(hd:(digs MB n)[k]?=some d):∃lo,n=lo+MB^ k* d∧lo< MB^ k:=by
 refine⟨ofD MB ((digs MB n).take k),?_,?_⟩;have h1:=bz_ MB hd;rw[←hl,List.take_length,aZ_ (by decide)] at h1;exact h1;have:=dI_ (b:=MB) (l:=(digs MB n).take k) fun d hd=>b6_ (by decide) n d (List.mem_of_mem_take hd);grind
theorem qE_{b s vt k:Nat}(hl:(digs MB b).length=k+1)(hvt:(digs MB b)[k]?=some vt)(h0:1≤vt)(h1:500000000≤vt* s)(h2:(vt+1) * s≤1000000000):
    (digs MB (b* s)).length=k+1∧MB^ k≤b∧b* s< MB^ (k+1)∧∃v lw,(digs MB (b* s))[k]?=some v∧b* s=lw+MB^ k* v∧lw< MB^ k∧500000000≤v∧v< 1000000000:=by
 obtain⟨lo,e1,e2⟩:=pL_ hl hvt
 have hb1:MB^ k≤b:=by
  have:=Nat.mul_le_mul_left (MB^ k) h0;omega
 have hb2:b< MB^ k* (vt+1):=by grind
 have hs0:0< s:=by grind
 have hv2:b* s< MB^ (k+1):=by
  have h3:b* s< MB^ k* (vt+1) * s:=Nat.mul_lt_mul_of_pos_right hb2 hs0;have h4:MB^ k* ((vt+1) * s)≤MB^ k* MB:=Nat.mul_le_mul_left _ h2;grind
 have hv1:MB^ k* 500000000≤b* s:=by
  have h3:MB^ k* vt* s≤b* s:=Nat.mul_le_mul_right _ (by omega);have h4:MB^ k* 500000000≤MB^ k* (vt* s):=Nat.mul_le_mul_left _ h1;grind
 have hlen:(digs MB (b* s)).length=k+1:=by
  have u1:=cC_ (b:=MB) (by decide) hv2
  have u2:k< (digs MB (b* s)).length:=by
   refine Nat.lt_of_not_le fun hle=>?_;have:=dI_ (b:=MB) (b6_ (by decide) (b* s));rw[aZ_ (by decide)] at this;have h5:MB^ (digs MB (b* s)).length≤MB^ k:=Nat.pow_le_pow_right (by decide) hle;omega
  omega
 obtain⟨v,hv⟩:∃v,(digs MB (b* s))[k]?=some v:=⟨_,List.getElem?_eq_getElem (by omega)⟩;obtain⟨lw,f1,f2⟩:=pL_ hlen hv;refine⟨hlen,hb1,hv2,v,lw,hv,f1,f2,?_,bu_ (by decide) hv⟩;have h6:MB^ k* 500000000< MB^ k* (v+1):=by grind
 have:=Nat.lt_of_mul_lt_mul_left h6;omega
theorem part_two{A:List Nat}{k x0 x1:Nat}(hA:A.length=k+2)(h0:A[k]?=some x0)(h1:A[k+1]?=some x1)(hd:∀d∈A,d< MB):∃lo,ofD MB A=lo+MB^ k* (x1* 1000000000+x0)∧lo< MB^ k:=by
 refine⟨ofD MB (A.take k),?_,?_⟩;have e1:=bz_ MB h1;rw[show k+1+1=A.length by omega,List.take_length] at e1;rw[e1,bz_ MB h0,Nat.pow_succ,Nat.mul_add,Nat.mul_assoc];have:MB^ k* (MB* x1)=MB^ k* (x1* 1000000000):=by grind
 omega;have:=dI_ (b:=MB) (l:=A.take k) fun d h=>hd d (List.mem_of_mem_take h);grind
def zI(z:Int):List AV:=[mag z.natAbs,bln (decide (z< 0))]
def qC(q:Rat):List AV:=[mag q.num.natAbs,bln (decide (q.num< 0)),mag (q.den- 1)]
def sgn(b:Bool)(m:Nat):Int:=if b then -(m:Int) else m
theorem ni_(z:Int):∀c∈zI z,Closed c:=ab_ (bh_ _) (ab_ (ad_ _) ah_)
theorem br_(q:Rat):∀c∈qC q,Closed c:=ab_ (bh_ _) (ab_ (ad_ _) (ab_ (bh_ _) ah_))
theorem el_(z:Int):Closed (.agg (zI z)):=au_ (ni_ z)
theorem aI_(q:Rat):Closed (.agg (qC q)):=au_ (br_ q)
theorem jD_(n:Nat):Closed (.agg [mag n]):=au_ (ab_ (bh_ n) ah_)
theorem ds_(b:Bool)(m:Nat):(sgn b m).natAbs=m:=by unfold sgn;grind
theorem sgn_neg(b:Bool)(m:Nat):decide (sgn b m< 0)=(b && !(m==0)):=by
 unfold sgn;grind
theorem ih_(z:Int):sgn (decide (z< 0)) z.natAbs=z:=by
 unfold sgn;grind
def qs(q:Rat):Nat:=max (bl q.num.natAbs) (bl q.den)
theorem fH_{n:Int}{d:Nat}(hd:0< d):(mkRat n d).num=n/ (Nat.gcd n.natAbs d:Int)∧(mkRat n d).den=d/ Nat.gcd n.natAbs d:=by
 unfold mkRat;rw[dif_neg (by omega),Rat.normalize_eq];grind
theorem eM_{n:Int}{d:Nat}(hd:0< d):(mkRat n d).num=sgn (decide (n< 0)) (n.natAbs/ Nat.gcd n.natAbs d):=by
 rw[(fH_ hd).1];have hg:0< Nat.gcd n.natAbs d:=Nat.gcd_pos_of_pos_right _ hd;obtain⟨k,hk⟩:=Nat.gcd_dvd_left n.natAbs d;generalize Nat.gcd n.natAbs d=g at hg hk⊢;rw[hk,Nat.mul_div_cancel_left _ hg];unfold sgn;split
 ·rename_i h
  have:=of_decide_eq_true h;have e:n=(g:Int) * (-(k:Int)):=by rw[Int.mul_neg,←Int.natCast_mul];omega
  rw[e,Int.mul_ediv_cancel_left _ (by omega)]
 ·have e:n=(g:Int) * (k:Int):=by grind
  rw[e,Int.mul_ediv_cancel_left _ (by omega)]
theorem c5_(a b:Nat):bl (a/ b)≤bl a:=b0_ (Nat.div_le_self _ _)
theorem c6_{n:Int}{d:Nat}(hd:0< d){k:Nat}(h1:bl n.natAbs≤k)(h2:bl d≤k):qs (mkRat n d)≤k:=by
 unfold qs;rw[eM_ hd,ds_,(fH_ hd).2];exact Nat.max_le.2 ⟨Nat.le_trans (c5_ _ _) h1,Nat.le_trans (c5_ _ _) h2⟩
theorem jP_(a b:Rat):a+b=mkRat (a.num* b.den+b.num* a.den) (a.den* b.den):=by
 rw[Rat.add_def];unfold mkRat;grind
theorem fF_(a b:Rat):a* b=mkRat (a.num* b.num) (a.den* b.den):=by
 rw[Rat.mul_def];unfold mkRat;grind
theorem b5_(a:Rat):bl a.num.natAbs≤qs a:=Nat.le_max_left _ _
theorem bU_(a:Rat):bl a.den≤qs a:=Nat.le_max_right _ _
theorem jI_{x y:Int}{k:Nat}(hx:bl x.natAbs≤k)(hy:bl y.natAbs≤k):bl (x+y).natAbs≤k+1:=by
 have h1:=b0_ (Int.natAbs_add_le x y);have h2:=tR_ x.natAbs y.natAbs;omega
theorem bx_{x y:Int}{j k:Nat}(hx:bl x.natAbs≤j)(hy:bl y.natAbs≤k):bl (x* y).natAbs≤j+k:=by
 rw[Int.natAbs_mul];have:=e0_ x.natAbs y.natAbs;omega
theorem jO_(a b:Rat):bl (a.num* b.den+b.num* a.den).natAbs≤qs a+qs b+1∧bl (a.den* b.den)≤qs a+qs b:=by
 have h1:=b5_ a;have h2:=bU_ a;have h3:=b5_ b;have h4:=bU_ b;refine⟨jI_ (bx_ h1 (by grind)) ?_,?_⟩;have:=bx_ (x:=b.num) (y:=a.den) h3 (by simpa using h2);omega;have:=e0_ a.den b.den;omega
theorem iX_(a b:Rat):bl (a.num* b.num).natAbs≤qs a+qs b∧bl (a.den* b.den)≤qs a+qs b:=by
 have h1:=b5_ a;have h2:=bU_ a;have h3:=b5_ b;have h4:=bU_ b;refine⟨bx_ h1 h3,?_⟩;have:=e0_ a.den b.den;omega
theorem gg_(a b:Rat):0< a.den* b.den:=Nat.mul_pos a.den_pos b.den_pos
theorem fC_(a b:Rat):qs (a+b)≤qs a+qs b+1:=by
 rw[jP_];have h:=jO_ a b;exact c6_ (gg_ a b) h.1 (by omega)
theorem bJ_(a b:Rat):qs (a* b)≤qs a+qs b:=by
 rw[fF_];have h:=iX_ a b;exact c6_ (gg_ a b) h.1 h.2
theorem dG_(a:Rat):qs (-a)=qs a:=by unfold qs;simp
theorem rS_(a b:Rat):qs (a- b)≤qs a+qs b+1:=by
 rw[Rat.sub_eq_add_neg];have:=fC_ a (-b);rwa[dG_] at this
theorem jt_(a b:Rat)(hb:b≠0):a/ b=mkRat (a.num* sgn (decide (b.num< 0)) b.den) (a.den* b.num.natAbs):=by
 rw[Rat.div_def,Rat.inv_def]
 conv=>lhs;rw[←Rat.num_divInt_den a]
 rw[Rat.divInt_mul_divInt];unfold sgn;split
 ·rename_i h
  have h':=of_decide_eq_true h;have hp:0< a.den* b.num.natAbs:=Nat.mul_pos a.den_pos (by omega);have e:(a.den:Int) * b.num= -((a.den* b.num.natAbs:Nat):Int):=by grind
  rw[e,Int.mul_neg];generalize a.den* b.num.natAbs=d at hp⊢;cases d with
  |zero=>omega
  |succ d=>
   rfl
 ·have e:(a.den:Int) * b.num=((a.den* b.num.natAbs:Nat):Int):=by grind
  rw[e];rfl
theorem m7_(a b:Rat):bl (a.num* sgn (decide (b.num< 0)) b.den).natAbs≤qs a+qs b∧bl (a.den* b.num.natAbs)≤qs a+qs b:=by
 have h1:=b5_ a;have h2:=bU_ a;have h3:=b5_ b;have h4:=bU_ b;refine⟨bx_ h1 (by rw[ds_];grind),?_⟩;have:=e0_ a.den b.num.natAbs;omega
theorem cX_(a b:Rat):qs (a/ b)≤qs a+qs b:=by
 by_cases hb:b=0;subst hb;rw[Rat.div_def,Rat.inv_zero,Rat.mul_zero];omega;rw[jt_ a b hb];have h:=m7_ a b;have hn:b.num≠0:=fun h=>hb (Rat.num_eq_zero.1 h);exact c6_ (Nat.mul_pos a.den_pos (by omega)) h.1 h.2
def sm(q:Rat):Prop:=qs q≤137438953472
instance (q:Rat):Decidable (sm q):=inferInstanceAs (Decidable (_≤_))
def ck(q:Rat):Option Rat:=if qs q≤137438953472 then some q else none
theorem sm2{a b:Rat}(ha:sm a)(hb:sm b):qs a+qs b≤549755813888:=by unfold sm at ha hb;omega
def sgZ(z:Int):Int:=if z=0 then 0 else if z< 0 then -1 else 1
def cmpQ(a b:Rat):Int:=if a< b then -1 else if a=b then 0 else 1
theorem sgZ_num_lt{q:Rat}:sgZ q.num< 0↔q< 0:=by
 unfold sgZ;have h1:q.num=0↔q=0:=Rat.num_eq_zero;have h2:0≤q.num↔0≤q:=Rat.num_nonneg;have h3:q< 0↔¬0≤q:=Rat.not_le.symm;rw[h3,←h2];split;omega;split <;> omega
theorem sgZ_num_eq{q:Rat}:sgZ q.num=0↔q=0:=by
 unfold sgZ;rw[←Rat.num_eq_zero];split;simp[*];split <;> simp[*]
theorem sgZ_num_gt{q:Rat}:0< sgZ q.num↔0< q:=by
 have h1:= @sgZ_num_lt q;have h2:= @sgZ_num_eq q
 have h3:0< q↔¬(q< 0∨q=0):=by
  rw[←Rat.not_le,Rat.le_iff_lt_or_eq]
 rw[h3,←h1,←h2];omega
theorem tE_(a b:Rat):cmpQ a b=if a.num* b.den< b.num* a.den then -1 else if a.num* b.den=b.num* a.den then 0 else 1:=by
 unfold cmpQ;have h1:=Rat.lt_iff a b
 have h2:a=b↔a.num* b.den=b.num* a.den:=by
  constructor;rintro rfl;rfl;intro h;have:=(Rat.mkRat_eq_iff (n₁:=a.num) (n₂:=b.num) a.den_nz b.den_nz).2 h;rwa[Rat.mkRat_self,Rat.mkRat_self] at this
 by_cases h:a< b;rw[if_pos h,if_pos (h1.1 h)];rw[if_neg h,if_neg (fun x=>h (h1.2 x))];by_cases h':a=b;rw[if_pos h',if_pos (h2.1 h')];rw[if_neg h',if_neg (fun x=>h' (h2.2 x))]
def fineQ(k:Nat):Rat:=mkRat 1 (2^ k)
theorem iU_(q:Rat):q.num< 0↔q< 0:=by
 rw[←sgZ_num_lt];unfold sgZ;split;omega;split <;> omega
def absQ(q:Rat):Rat:=mkRat q.num.natAbs q.den
theorem hO_(q:Rat):absQ q=if q< 0 then -q else q:=by
 unfold absQ;by_cases h:q< 0;have hn:q.num< 0:=(iU_ q).2 h;rw[if_pos h];have e:(q.num.natAbs:Int)=(-q).num:=by rw[Rat.neg_num];omega
 rw[e,←Rat.neg_den,Rat.mkRat_self];have hn:¬q.num< 0:=fun e=>h ((iU_ q).1 e);rw[if_neg h];have e:(q.num.natAbs:Int)=q.num:=by omega
 rw[e,Rat.mkRat_self]
theorem lN_(q:Rat):(absQ q).num=(q.num.natAbs:Int):=by
 rw[hO_];by_cases h:q< 0;rw[if_pos h,Rat.neg_num];have hn:q.num< 0:=(iU_ q).2 h;omega;rw[if_neg h];have hn:¬q.num< 0:=fun e=>h ((iU_ q).1 e);omega
theorem lO_(q:Rat):(absQ q).den=q.den:=by
 rw[hO_];split;exact Rat.neg_den ..;rfl
theorem qC_abs(q:Rat):qC (absQ q)=zI (sgn false q.num.natAbs)++[mag (q.den- 1)]:=by
 unfold qC zI;rw[lN_,lO_];rfl
def pE(l:List Rat):List (List AV):=l.map qC
def pA(l:List Rat):AV:= .arr (pE l)
def spC(a b:Rat):List AV:=qC a++qC b
@[simp] theorem qC_length (q:Rat):(qC q).length=3:=rfl
@[simp] theorem spC_length (a b:Rat):(spC a b).length=6:=rfl
@[simp] theorem mn_ (l:List Rat):(pE l).length=l.length:=by simp[pE]
theorem bK_{l:List Rat}{i:Nat}{q:Rat}(h:l[i]?=some q):(pE l)[i]?=some (qC q):=by simp[pE,h]
theorem nK_(l:List Rat)(k:Nat):(pE l).take k=pE (l.take k):=by simp[pE]
theorem mo_(l m:List Rat):pE (l++m)=pE l++pE m:=by simp[pE]
theorem iQ_(l:List Rat)(i:Nat)(q:Rat):(pE l).set i (qC q)=pE (l.set i q):=by simp[pE,List.map_set]
theorem cr_(l:List Rat):(pE l).all (·.all AV.one)=true:=by
 simp only[pE,List.all_map,List.all_eq_true];intro q _;rfl
theorem gw_(l:List Rat):∀e∈pE l,e.length=3:=by intro e he;simp[pE] at he;obtain⟨q,_,rfl⟩:=he;rfl
theorem aK_(l:List Rat):∀e∈pE l,∀c∈e,Closed c:=by
 intro e he c hc;simp[pE] at he;obtain⟨q,_,rfl⟩:=he;exact br_ q c hc
theorem aD_(l:List Rat):Closed (pA l):=aL_ (aK_ l)
theorem gi_(a b:Rat):∀c∈spC a b,Closed c:=fun c hc=>(List.mem_append.1 hc).elim (br_ a c) (br_ b c)
theorem gj_(a b:Rat):Closed (.agg (spC a b)):=au_ (gi_ a b)
def zC:List AV:=[.emp,bln false,.emp]
theorem mag0:mag 0= .arr []:=by unfold mag;rw[bq_];rfl
theorem qC0:qC 0=[.arr [],bln false,.arr []]:=by
 show [mag 0,bln (decide ((0:Int)< 0)),mag (1- 1)]=_;rw[mag0];rfl
def smL(l:List Rat):Prop:=∀q∈l,sm q
instance (l:List Rat):Decidable (smL l):=inferInstanceAs (Decidable (∀q∈l,sm q))
def cg_(bf:Int→Bool):List Rat→Rat
 |[]=>0
 |x::l=>l.foldl (fun o y=>if bf (cmpQ y o) then y else o) x
theorem ia_(bf:Int→Bool)(l:List Rat)(y:Rat):cg_ bf (l++[y])=if l=[]∨bf (cmpQ y (cg_ bf l))=true then y else cg_ bf l:=by
 cases l with
 |nil=>simp[cg_]
 |cons x l=>simp[cg_,List.foldl_append]
theorem qI_{bf:Int→Bool}:∀{l:List Rat},smL l→sm (cg_ bf l)
 |[],_=>(by decide:sm 0)
 |x::l,h=>by
  have key:∀(l:List Rat) (o:Rat),sm o→smL l→sm (l.foldl (fun o y=>if bf (cmpQ y o) then y else o) o):=by
   intro l
   induction l with
   |nil=>intro o ho _;exact ho
   |cons y l ih=>
    intro o ho hl;refine ih _ ?_ fun q hq=>hl q (List.mem_cons_of_mem _ hq);show sm (if bf (cmpQ y o)=true then y else o);split;exact hl y (List.mem_cons_self ..);exact ho
  exact key l x (h x (List.mem_cons_self ..)) fun q hq=>h q (List.mem_cons_of_mem _ hq)
def minL(l:List Rat):Rat:=cg_ (fun c=>decide (c< 0)) l
def maxL(l:List Rat):Rat:=cg_ (fun c=>decide (0< c)) l
theorem AEval.lenP{P:Program}{id:Nat}{ev:Operand→Option AV}{hp:Nat→Option ABlk}{c:Call}{x:Operand}{T:Nat}{d:Nat×Nat}{l:List Rat}(hc:c.callee= .builtin .len)(ha:c.args= #[x])(ht:c.argTypes= #[T])(hx:ev x=some (.arr (pE l)))(he:elOf P T=some d):
    AEval P id ev hp (.call c) ⟨.v (.int .i64 (l.length:Nat)),[]⟩ []:= .len hc ha ht hx (by simp[lenA]) he
def trimQ:List Rat→List Rat
 |[]=>[]
 |a::l=>match trimQ l with
  |[]=>if a=0 then [] else [a]
  |b::m=>a::b::m
theorem b7_(a:Rat)(l:List Rat):trimQ (a::l)=if trimQ l=[] then(if a=0 then [] else [a]) else a::trimQ l:=by
 rw[trimQ];cases h:trimQ l <;> simp
theorem f0_(l:List Rat)(a:Rat):trimQ (l++[a])=if a=0 then trimQ l else l++[a]:=by
 induction l with
 |nil=>simp[trimQ]
 |cons b l ih=>
  rw[List.cons_append,b7_,ih,b7_];by_cases h:a=0;simp only[if_pos h];simp[if_neg h]
theorem aB_(l:List Rat):(trimQ l).length≤l.length:=by
 induction l with
 |nil=>simp[trimQ]
 |cons a l ih=>rw[b7_];split <;>(try split)<;> simp <;> omega
theorem gL_(l:List Rat):trimQ l=l.take (trimQ l).length:=by
 induction l with
 |nil=>simp[trimQ]
 |cons a l ih=>
  rw[b7_];split;split <;> simp;simp[←ih]
theorem be_{l:List Rat}{q:Rat}(h:q∈trimQ l):q∈l:=by
 rw[gL_] at h;exact List.mem_of_mem_take h
theorem jY_{l:List Rat}{q:Rat}(h:(trimQ l).getLast?=some q):q≠0:=by
 induction l with
 |nil=>simp[trimQ] at h
 |cons a l ih=>
  rw[b7_] at h;split at h;split at h;cases h;simp at h;subst h;assumption
  ·rename_i h0
   rw[List.getLast?_cons_of_ne_nil h0] at h;exact ih h
theorem aO_(l:List Rat):trimQ (trimQ l)=trimQ l:=by
 rcases List.eq_nil_or_concat (trimQ l) with h|⟨m,q,h⟩
 rw[h];rfl;have hq:q≠0:=jY_ (l:=l) (by rw[h];simp);rw[h,List.concat_eq_append,f0_,if_neg hq]
theorem smL_trim{l:List Rat}(h:smL l):smL (trimQ l):=fun q hq=>h q (be_ hq)
def degP(l:List Rat):Int:=(trimQ l).length- 1
def leadP(l:List Rat):Rat:=(trimQ l).getLastD 0
theorem bw_{l:List Rat}(h:trimQ l≠[]):leadP l≠0:=by
 unfold leadP;refine jY_ (l:=l) (q:=(trimQ l).getLastD 0) ?_;rw[List.getLastD_eq_getLast?];cases hl:(trimQ l).getLast? with
 |none=>exact absurd (List.getLast?_eq_none_iff.1 hl) h
 |some q=>rfl
theorem i6_{l:List Rat}(h:trimQ l=[]):leadP l=0:=by unfold leadP;rw[h];rfl
theorem bD_{l:List Rat}{n:Nat}(h:(trimQ l).length=n+1):(trimQ l)[n]?=some (leadP l):=by
 unfold leadP;rw[List.getLastD_eq_getLast?,List.getLast?_eq_getElem?,h,Nat.add_sub_cancel,List.getElem?_eq_getElem (by omega)];rfl
theorem leadP_sm{l:List Rat}(h:smL l):sm (leadP l):=by
 by_cases h0:trimQ l=[];rw[i6_ h0];decide;obtain⟨n,hn⟩:∃n,(trimQ l).length=n+1:=⟨(trimQ l).length- 1,by have:=List.length_pos_iff.2 h0;omega⟩;exact h _ (be_ (List.mem_of_getElem? (bD_ hn)))
def tabP(n:Nat)(f:Nat→Rat):List Rat:=(List.range n).map f
@[simp] theorem d6_ (n:Nat)(f:Nat→Rat):(tabP n f).length=n:=by simp[tabP]
def coP(p:List Rat)(i:Nat):Rat:=p.getD i 0
def addP(p q:List Rat):List Rat:=trimQ (tabP (max p.length q.length) fun i=>coP p i+coP q i)
def av_(p:List Rat)(k:Rat):List Rat:=trimQ (tabP p.length fun i=>coP p i* k)
def subP(p q:List Rat):List Rat:=addP p (av_ q (-1))
def c3_(a:Rat):List Rat:=trimQ [a]
def at_(p:List Rat):List Rat:=trimQ (tabP (p.length- 1) fun i=>coP p (i+1) * ((i+1:Nat):Int))
def aF_(p:List Rat):List Rat:=trimQ (tabP (p.length+1) fun i=>if i=0 then 0 else coP p (i- 1) / ((i:Nat):Int))
def aG_(p:List Rat):List Rat:=if trimQ p=[] then [] else av_ p (1/ leadP p)
theorem h8_{p:List Rat}(h:smL p)(i:Nat):sm (coP p i):=by
 unfold coP;rw[List.getD_eq_getElem?_getD];cases hi:p[i]? with
 |none=>exact(by decide:sm 0)
 |some q=>exact h q (List.mem_of_getElem? hi)
theorem a9_{p:List Rat}{i:Nat}(h:i< p.length):p[i]?=some (coP p i):=by
 unfold coP;rw[List.getD_eq_getElem?_getD,List.getElem?_eq_getElem h];rfl
theorem co_{p:List Rat}{i:Nat}(h:p.length≤i):coP p i=0:=by
 unfold coP;rw[List.getD_eq_getElem?_getD,List.getElem?_eq_none h];rfl
theorem ek_:∀c∈zC,Closed c:=ab_ bc_ (ab_ (ad_ _) (ab_ bc_ ah_))
theorem le_zC:LeL zC (qC 0):=by rw[qC0];exact .cons .emp (.cons (.refl _) (.cons .emp .nil))
def bdL(l:List Rat)(n:Nat):Prop:=∀q∈l,qs q≤n
instance (l:List Rat) (n:Nat):Decidable (bdL l n):=inferInstanceAs (Decidable (∀q∈l,qs q≤n))
theorem ft_{l:List Rat}{n:Nat}(h:bdL l n)(hn:n≤137438953472):smL l:=fun q hq=>Nat.le_trans (h q hq) hn
theorem bj_{l:List Rat}{n:Nat}(h:bdL l n)(hn:1≤n)(i:Nat):qs (coP l i)≤n:=by
 unfold coP;rw[List.getD_eq_getElem?_getD];cases hi:l[i]? with
 |none=>exact Nat.le_trans (by decide:qs 0≤1) hn
 |some q=>exact h q (List.mem_of_getElem? hi)
def addAt(o:List Rat)(j:Nat)(x:Rat):List Rat:=o.set j (coP o j+x)
def rowP(o:List Rat)(a:Rat)(q:List Rat)(i:Nat):Nat→List Rat
 |0=>o
 |k+1=>addAt (rowP o a q i k) (i+k) (a* coP q k)
def mulR(p q:List Rat):Nat→List Rat
 |0=>List.replicate (p.length+q.length- 1) 0
 |i+1=>if coP p i=0 then mulR p q i else rowP (mulR p q i) (coP p i) q i q.length
def mulP(p q:List Rat):List Rat:=if p=[]∨q=[] then [] else trimQ (mulR p q p.length)
@[simp] theorem nt_ (o:List Rat)(j:Nat)(x:Rat):(addAt o j x).length=o.length:=by simp[addAt]
@[simp] theorem nG_ (o:List Rat)(a:Rat)(q:List Rat)(i k:Nat):(rowP o a q i k).length=o.length:=by
 induction k with
 |zero=>rfl
 |succ k ih=>rw[rowP,nt_,ih]
@[simp] theorem iY_ (p q:List Rat)(i:Nat):(mulR p q i).length=p.length+q.length- 1:=by
 induction i with
 |zero=>simp[mulR]
 |succ i ih=>rw[mulR];split <;> simp[ih]
theorem jA_(o:List Rat)(j n:Nat)(x:Rat):coP (addAt o j x) n=if n=j∧j< o.length then coP o j+x else coP o n:=by
 unfold addAt coP;rw[List.getD_eq_getElem?_getD,List.getElem?_set,List.getD_eq_getElem?_getD,List.getD_eq_getElem?_getD];by_cases h:j=n;subst h;by_cases h2:j< o.length;simp[h2];simp[h2];rw[if_neg h,if_neg (by omega)]
theorem dM_{o:List Rat}{n:Nat}(h:∀i,qs (coP o i)≤n):bdL o n:=by
 intro q hq;obtain⟨i,hi,rfl⟩:=List.getElem_of_mem hq;have:=h i;unfold coP at this;rwa[List.getD_eq_getElem?_getD,List.getElem?_eq_getElem hi] at this
theorem kW_(o:List Rat)(a:Rat)(q:List Rat)(i k n:Nat)(h:n< i∨i+k≤n):coP (rowP o a q i k) n=coP o n:=by
 induction k with
 |zero=>rfl
 |succ k ih=>rw[rowP,jA_,if_neg (by omega),ih (by omega)]
theorem rL_{o:List Rat}{a:Rat}{q:List Rat}{B s t:Nat}(i:Nat)(ho:∀n,qs (coP o n)≤B)(ha:qs a≤s)(hq:∀n,qs (coP q n)≤t):∀k n,qs (coP (rowP o a q i k) n)≤B+(s+t+1)
 |0,n=>Nat.le_trans (ho n) (by omega)
 |k+1,n=>by
  rw[rowP,jA_];split;rw[kW_ o a q i k (i+k) (by omega)];have h1:=fC_ (coP o (i+k)) (a* coP q k);have h2:=bJ_ a (coP q k);have h3:=ho (i+k);have h4:=hq k;omega;exact rL_ i ho ha hq k n
theorem k5_{p q:List Rat}{s t:Nat}(hp:∀n,qs (coP p n)≤s)(hq:∀n,qs (coP q n)≤t):∀i n,qs (coP (mulR p q i) n)≤i* (s+t+1)+1
 |0,n=>by
  have:coP (mulR p q 0) n=0:=by
   unfold mulR coP;rw[List.getD_eq_getElem?_getD,List.getElem?_replicate];split <;> rfl
  rw[this];exact Nat.le_add_left 1 _
 |i+1,n=>by
  rw[mulR,Nat.add_mul,Nat.one_mul];split;have:=k5_ hp hq i n;omega;have:=rL_ (B:=i* (s+t+1)+1) i (k5_ hp hq i) (hp i) hq q.length n;omega
theorem gz_{p q:List Rat}{s t:Nat}(hp:bdL p s)(hq:bdL q t)(hs:1≤s)(ht:1≤t):bdL (mulP p q) (p.length* (s+t+1)+1):=by
 unfold mulP;split;intro q hq;cases hq;intro x hx;exact dM_ (k5_ (bj_ hp hs) (bj_ hq ht) p.length) x (be_ hx)
theorem CvLL.zeros{r:Ren}{hp hp':Nat→Option ABlk}(h:Shr r hp hp')(n:Nat):CvLL r hp hp' (List.replicate n zC) (pE (List.replicate n 0)):=by
 induction n with
 |zero=>rfl
 |succ n ih=>
  refine⟨qC 0,_,rfl,?_,ih⟩;rw[qC0];exact ag_ (Cv.emp _) (ag_ (an_ h (ad_ _)) (ag_ (Cv.emp _) ao_))
def subAt(o:List Rat)(j:Nat)(x:Rat):List Rat:=o.set j (coP o j- x)
def rowM(o:List Rat)(k:Rat)(q:List Rat)(n:Nat):Nat→List Rat
 |0=>o
 |i+1=>subAt (rowM o k q n i) (n+i) (k* coP q i)
def divR(q:List Rat)(lead:Rat):Nat→List Rat→List Rat→List Rat×List Rat
 |0,u,o=>(u,o)
 |n+1,u,o=>divR q lead n (u.set n (coP o (n+q.length- 1) / lead)) (if coP o (n+q.length- 1) / lead=0 then o else rowM o (coP o (n+q.length- 1) / lead) q n q.length)
def divP(p q:List Rat):List Rat×List Rat:=
 let r:=divR (trimQ q) (leadP q) ((trimQ p).length+1- (trimQ q).length) (List.replicate ((trimQ p).length+1- (trimQ q).length) 0) (trimQ p)
 (trimQ r.1,trimQ r.2)
@[simp] theorem l6_ (o:List Rat)(j:Nat)(x:Rat):(subAt o j x).length=o.length:=by simp[subAt]
@[simp] theorem dt_ (o:List Rat)(a:Rat)(q:List Rat)(i k:Nat):(rowM o a q i k).length=o.length:=by
 induction k with
 |zero=>rfl
 |succ k ih=>rw[rowM,l6_,ih]
theorem ej_(q:List Rat)(lead:Rat):∀c u o,(divR q lead c u o).1.length=u.length∧(divR q lead c u o).2.length=o.length
 |0,u,o=>⟨rfl,rfl⟩
 |n+1,u,o=>by
  rw[divR];refine⟨(ej_ q lead n _ _).1.trans (by simp),(ej_ q lead n _ _).2.trans ?_⟩;split <;> simp
theorem lF_(o:List Rat)(j n:Nat)(x:Rat):coP (o.set j x) n=if n=j∧j< o.length then x else coP o n:=by
 unfold coP;rw[List.getD_eq_getElem?_getD,List.getElem?_set,List.getD_eq_getElem?_getD];by_cases h:j=n;subst h;by_cases h2:j< o.length;simp[h2];simp[h2];rw[if_neg h,if_neg (by omega)]
theorem hf_(o:List Rat)(j n:Nat)(x:Rat):coP (subAt o j x) n=if n=j∧j< o.length then coP o j- x else coP o n:=lF_ o j n _
theorem gO_(o:List Rat)(a:Rat)(q:List Rat)(i k n:Nat)(h:n< i∨i+k≤n):coP (rowM o a q i k) n=coP o n:=by
 induction k with
 |zero=>rfl
 |succ k ih=>rw[rowM,hf_,if_neg (by omega),ih (by omega)]
theorem rM_{o:List Rat}{a:Rat}{q:List Rat}{B s t:Nat}(i:Nat)(ho:∀n,qs (coP o n)≤B)(ha:qs a≤s)(hq:∀n,qs (coP q n)≤t):∀k n,qs (coP (rowM o a q i k) n)≤B+(s+t+1)
 |0,n=>Nat.le_trans (ho n) (by omega)
 |k+1,n=>by
  rw[rowM,hf_];split;rw[gO_ o a q i k (i+k) (by omega)];have h1:=rS_ (coP o (i+k)) (a* coP q k);have h2:=bJ_ a (coP q k);have h3:=ho (i+k);have h4:=hq k;omega;exact rM_ i ho ha hq k n
def divB(q:List Rat)(lead:Rat)(L c:Nat)(u o:List Rat):Prop:=
 ∃B t,(∀n,qs (coP o n)≤B)∧(∀n,qs (coP q n)≤t)∧qs lead≤t∧1≤t∧(∀n,qs (coP u n)≤L)∧2^ c* (B+2* t+1)≤L
theorem pK_{q:List Rat}{lead:Rat}{L c:Nat}{u o:List Rat}(h:divB q lead L c u o):∃B t,(∀n,qs (coP o n)≤B)∧(∀n,qs (coP q n)≤t)∧qs lead≤t∧B+2* t+1≤L:=by
 obtain⟨B,t,h1,h2,h3,h4,h5,h6⟩:=h;refine⟨B,t,h1,h2,h3,Nat.le_trans ?_ h6⟩;have:=Nat.mul_le_mul_right (B+2* t+1) (Nat.one_le_two_pow (n:=c));omega
theorem m9_{q:List Rat}{lead:Rat}{L n:Nat}{u o:List Rat}(h:divB q lead L (n+1) u o):
    divB q lead L n (u.set n (coP o (n+q.length- 1) / lead)) (if coP o (n+q.length- 1) / lead=0 then o else rowM o (coP o (n+q.length- 1) / lead) q n q.length):=by
 obtain⟨B,t,h1,h2,h3,h4,h5,h6⟩:=h;obtain⟨k,hk⟩:∃k,k=coP o (n+q.length- 1) / lead:=⟨_,rfl⟩
 have hkb:qs k≤B+t:=by
  have e1:=cX_ (coP o (n+q.length- 1)) lead;have e2:=h1 (n+q.length- 1);rw[hk];omega
 rw[←hk];obtain⟨W,hW⟩:∃W,W=2^ n:=⟨_,rfl⟩;have hW1:1≤W:=by rw[hW];exact Nat.one_le_two_pow
 rw[Nat.pow_succ,←hW] at h6
 have h7:W* (2* B+2* t+1+2* t+1)≤L:=by
  rw[Nat.mul_assoc] at h6;have e:2* B+2* t+1+2* t+1=2* (B+2* t+1):=by omega
  rw[e];exact h6
 have h8:2* B+2* t+1+2* t+1≤L:=by
  have:=Nat.mul_le_mul_right (2* B+2* t+1+2* t+1) hW1;omega
 refine⟨2* B+2* t+1,t,fun j=>?_,h2,h3,h4,fun j=>?_,by rw[←hW];exact h7⟩;split;have:=h1 j;omega;have:=rM_ n h1 hkb h2 q.length j;omega;rw[lF_];split;omega;exact h5 j
theorem ok_{q:List Rat}{lead:Rat}{L:Nat}:∀{c u o},divB q lead L c u o→(∀n,qs (coP (divR q lead c u o).1 n)≤L)∧(∀n,qs (coP (divR q lead c u o).2 n)≤L)
 |0,u,o,h=>by
  obtain⟨B,t,h1,h2,h3,h6⟩:=pK_ h;obtain⟨_,_,_,_,_,_,h5,_⟩:=h;exact⟨h5,fun n=>Nat.le_trans (h1 n) (by omega)⟩
 |n+1,u,o,h=>ok_ (c:=n) (m9_ h)
def mxL(l:List Rat):Nat:=l.foldr (fun q n=>max (qs q) n) 1
theorem bX_(l:List Rat):1≤mxL l:=by
 induction l with
 |nil=>exact Nat.le_refl _
 |cons q l ih=>exact Nat.le_trans ih (Nat.le_max_right _ _)
theorem ch_(l:List Rat):bdL l (mxL l):=by
 induction l with
 |nil=>intro q hq;cases hq
 |cons a l ih=>
  intro q hq;rcases List.mem_cons.1 hq with rfl|hq
  exact Nat.le_max_left _ _;exact Nat.le_trans (ih q hq) (Nat.le_max_right _ _)
theorem bN_{l:List Rat}{n:Nat}(h:bdL l n)(hn:1≤n):mxL l≤n:=by
 induction l with
 |nil=>exact hn
 |cons a l ih=>exact Nat.max_le.2 ⟨h a (List.mem_cons_self ..),ih fun q hq=>h q (List.mem_cons_of_mem _ hq)⟩
def okDiv(p q:List Rat):Prop:=2^ ((trimQ p).length+1- (trimQ q).length) * (mxL p+2* mxL q+1)≤137438953472∧p.length≤274877906944∧q.length≤274877906944
instance (p q:List Rat):Decidable (okDiv p q):=inferInstanceAs (Decidable (_∧_∧_))
theorem qF_{p q:List Rat}{s t L:Nat}(hp:bdL p s)(hq:bdL q t)(hs:1≤s)(ht:1≤t)(hq0:trimQ q≠[])(m:Nat)(h:2^ m* (s+2* t+1)≤L):divB (trimQ q) (leadP q) L m (List.replicate m 0) (trimQ p):=by
 have hL:1≤L:=by
  have h3:=Nat.mul_le_mul_right (s+2* t+1) (Nat.one_le_two_pow (n:=m));omega
 have hql:=List.length_pos_iff.2 hq0;refine⟨s,t,bj_ (fun x hx=>hp x (be_ hx)) hs,bj_ (fun x hx=>hq x (be_ hx)) ht,hq _ (be_ (List.mem_of_getElem? (bD_ (n:=(trimQ q).length- 1) (by omega)))),ht,fun n=>?_,h⟩
 have:coP (List.replicate m 0) n=0:=by
  unfold coP;rw[List.getD_eq_getElem?_getD,List.getElem?_replicate];split <;> rfl
 rw[this];exact Nat.le_trans (by decide:qs 0≤1) hL
theorem fk_{p q:List Rat}{s t L:Nat}(hp:bdL p s)(hq:bdL q t)(hs:1≤s)(ht:1≤t)(hq0:trimQ q≠[])(h:2^ ((trimQ p).length+1- (trimQ q).length) * (s+2* t+1)≤L):bdL (divP p q).1 L∧bdL (divP p q).2 L:=by
 have:=ok_ (qF_ hp hq hs ht hq0 _ h);exact⟨fun x hx=>dM_ this.1 x (be_ hx),fun x hx=>dM_ this.2 x (be_ hx)⟩
theorem ol_{p q:List Rat}(h:okDiv p q)(hq0:trimQ q≠[]):smL (divP p q).1∧smL (divP p q).2:=
 have:=fk_ (ch_ p) (ch_ q) (bX_ p) (bX_ q) hq0 h.1
 ⟨ft_ this.1 (Nat.le_refl _),ft_ this.2 (Nat.le_refl _)⟩
theorem fj_{p q:List Rat}:(divP p q).1.length≤p.length+1∧(divP p q).2.length≤p.length:=by
 have h1:=ej_ (trimQ q) (leadP q) ((trimQ p).length+1- (trimQ q).length) (List.replicate ((trimQ p).length+1- (trimQ q).length) 0) (trimQ p);have h2:=aB_ p;have h3:=aB_ (divR (trimQ q) (leadP q) ((trimQ p).length+1- (trimQ q).length) (List.replicate ((trimQ p).length+1- (trimQ q).length) 0) (trimQ p)).1;have h4:=aB_ (divR (trimQ q) (leadP q) ((trimQ p).length+1- (trimQ q).length) (List.replicate ((trimQ p).length+1- (trimQ q).length) 0) (trimQ p)).2;rw[h1.1,List.length_replicate] at h3;rw[h1.2] at h4;exact⟨by unfold divP;simp only;omega,by unfold divP;simp only;omega⟩
theorem bM_(p:List Rat)(k:Rat):(av_ p k).length≤p.length:=by
 have:=aB_ (tabP p.length fun i=>coP p i* k);simpa[av_] using this
theorem f7_(p:List Rat):(aG_ p).length≤p.length:=by
 unfold aG_;split;simp;exact bM_ _ _
def gcdM:Nat→List Rat→List Rat→Option (List Rat)
 |0,_,_=>none
 |f+1,p,q=>if trimQ q=[] then(if smL p then some (aG_ p) else none) else if okDiv p q then gcdM f q (aG_ (divP p q).2) else none
def evalP:List Rat→Rat→Rat
 |[],_=>0
 |a::l,x=>evalP l x* x+a
def backP(l:List Rat)(k:Nat):Option (List AV):=if k< l.length then some [i64 ((l.length- 1- k:Nat):Int),.agg (qC (coP l (l.length- 1- k)))] else none
theorem tm_{l:List Rat}{k:Nat}(h:k< l.length):l.drop (l.length- (k+1))=coP l (l.length- 1- k)::l.drop (l.length- k):=by
 have h1:l.length- (k+1)< l.length:=by omega
 rw[List.drop_eq_getElem_cons h1,show l.length- (k+1)+1=l.length- k by omega];congr 1;have:=a9_ h1;rw[List.getElem?_eq_getElem h1] at this;rw[show l.length- 1- k=l.length- (k+1) by omega];exact Option.some.inj this
theorem eC_{x:Rat}{s t:Nat}(hx:qs x≤t):∀{l:List Rat},bdL l s→qs (evalP l x)≤l.length* (s+t+1)+1
 |[],_=>by show qs 0≤_;exact Nat.le_trans (by decide:qs 0≤1) (Nat.le_add_left 1 _)
 |a::l,h=>by
  have ih:=eC_ (l:=l) hx fun q hq=>h q (List.mem_cons_of_mem _ hq);have ha:=h a (List.mem_cons_self ..);have h1:=fC_ (evalP l x* x) a;have h2:=bJ_ (evalP l x) x;show qs (evalP l x* x+a)≤(l.length+1) * (s+t+1)+1;rw[Nat.add_mul,Nat.one_mul];omega
def ed_(p:List Rat)(x:Rat):Prop:=p.length* (mxL p+qs x+1)+mxL p+qs x+2≤137438953472∧p.length≤274877906944
instance (p:List Rat) (x:Rat):Decidable (ed_ p x):=inferInstanceAs (Decidable (_∧_))
theorem qD_{p:List Rat}{x:Rat}(h:ed_ p x)(k:Nat)(hk:k< p.length):qs (evalP (p.drop (p.length- k)) x)+qs x≤549755813888∧qs (evalP (p.drop (p.length- k)) x* x)+qs (coP p (p.length- 1- k))≤549755813888:=by
 have h1:=eC_ (t:=qs x) (Nat.le_refl _) (l:=p.drop (p.length- k)) (s:=mxL p) fun q hq=>ch_ p q (List.mem_of_mem_drop hq);have h2:=bJ_ (evalP (p.drop (p.length- k)) x) x;have h3:=bj_ (ch_ p) (bX_ p) (p.length- 1- k);have h4:=h.1;have h5:(p.drop (p.length- k)).length* (mxL p+qs x+1)≤p.length* (mxL p+qs x+1):=Nat.mul_le_mul_right _ (by simp);omega
theorem pB_{p:List Rat}{x:Rat}(h:ed_ p x):sm (evalP p x):=by
 have h1:=eC_ (t:=qs x) (Nat.le_refl _) (ch_ p);have h2:=h.1;unfold sm;omega
abbrev Sp:=Rat×Rat
def prods(a b:Sp):List Rat:=[a.1* b.1,a.1* b.2,a.2* b.1,a.2* b.2]
def spMul(a b:Sp):Sp:=(minL (prods a b),maxL (prods a b))
def spAdd(a b:Sp):Sp:=(a.1+b.1,a.2+b.2)
def smS(a:Sp):Prop:=sm a.1∧sm a.2
instance (a:Sp):Decidable (smS a):=inferInstanceAs (Decidable (_∧_))
def ovP(v0 s:Sp):List Rat→Sp
 |[]=>v0
 |a::l=>spAdd (spMul (ovP v0 s l) s) (a,a)
def okOv(v0 s:Sp):List Rat→Prop
 |[]=>smS v0
 |a::l=>okOv v0 s l∧smL (prods (ovP v0 s l) s)∧sm a∧smS (spAdd (spMul (ovP v0 s l) s) (a,a))
instance okOv_dec (v0 s:Sp):(l:List Rat)→Decidable (okOv v0 s l)
 |[]=>inferInstanceAs (Decidable (smS v0))
 |a::l=> @instDecidableAnd _ _ (okOv_dec v0 s l) (inferInstanceAs (Decidable (_∧_∧_)))
def okOver(p:List Rat)(s:Sp):Prop:=smL p∧smS s∧p.length≤274877906944∧okOv (leadP p,leadP p) s ((trimQ p).take ((trimQ p).length- 1))
instance (p:List Rat) (s:Sp):Decidable (okOver p s):=inferInstanceAs (Decidable (_∧_∧_∧_))
def okMul(p q:List Rat):Prop:=p.length* (mxL p+mxL q+1)+1≤137438953472∧mxL q≤137438953472∧p.length≤274877906944∧q.length≤274877906944
instance (p q:List Rat):Decidable (okMul p q):=inferInstanceAs (Decidable (_∧_∧_∧_))
theorem hn_(p q:List Rat):(addP p q).length≤max p.length q.length:=by
 have:=aB_ (tabP (max p.length q.length) fun i=>coP p i+coP q i);simpa[addP] using this
def compP(q:List Rat):List Rat→List Rat
 |[]=>[]
 |a::l=>addP (mulP (compP q l) q) (c3_ a)
def okComp(q:List Rat):List Rat→Prop
 |[]=>True
 |a::l=>okComp q l∧okMul (compP q l) q∧sm a∧(mulP (compP q l) q).length≤274877906944
instance okComp_dec (q:List Rat):(l:List Rat)→Decidable (okComp q l)
 |[]=>inferInstanceAs (Decidable True)
 |a::l=> @instDecidableAnd _ _ (okComp_dec q l) (inferInstanceAs (Decidable (_∧_∧_)))
end Go.Abs
