/- Part W12 of the proof. -/
import Derived.Test.YtjmkjicckobojaaGreatDoorW11
set_option linter.all false
namespace Go.Abs
section
variable {α:Type}{k d b n:Nat}{l:Ln}
theorem iM(b:Nat)(s:Ln)(v:Nat):ofD b (s++[v])=ofD b s+b^ s.length* v:=by rw[ig];simp[ofD]
theorem cO{l:List α}{x:α}(h:l[k]?=some x):l.take (k+1)=l.take k++[x]:=by
 rw[List.take_add_one,h];rfl
theorem dp(b:Nat)(h:l[k]?=some d):ofD b (l.take (k+1))=ofD b (l.take k)+b^ k* d:=by
 have a:k< l.length:=(List.getElem?_eq_some_iff.1 h).1;rw[cO h,iM,List.length_take,Nat.min_eq_left ω]
theorem fm(b:Nat)(l:Ln)(k:Nat):ofD b (l.take (k+1))=ofD b (l.take k)+b^ k* (l[k]?.getD 0):=by
 cases h:l[k]? with
 |some d=>exact dp b h
 |none=>rw[List.getElem?_eq_none_iff] at h;rw[List.take_of_length_le ω,List.take_of_length_le ω];simp
theorem iL(b:Nat)(h:l.length<=k):ofD b (l.take k)=ofD b l:=by rw[List.take_of_length_le h]
theorem l3(b:Nat)(h:l[k]?=some d):ofD b (l.drop k)=d+b* ofD b (l.drop (k+1)):=by
 rw[List.drop_eq_getElem_cons (List.getElem?_eq_some_iff.1 h).1,ofD];grind
theorem rf(b:Nat):∀{l:Ln} {j d:Nat} (v:Nat),l[j]?=some d->ofD b (l.set j v)+b^ j* d=ofD b l+b^ j* v
 |[],_,_,_,h=>by grind
 |x::l,0,d,v,h=>by simp at h;simp[ofD];omega
 |x::l,j+1,d,v,h=>by
  simp only[List.getElem?_cons_succ] at h;have:=rf b v h;rw[List.set_cons_succ,ofD,ofD];grind
theorem uZ{j v:Nat}{p:Nat->Prop}(h:∀d∈l,p d)(hv:p v):∀d∈l.set j v,p d:=φ
theorem Hu{cs vs:List α}(h:vs.length=cs.length):fz cs 0 vs=vs:=by
 apply List.ext_getElem?;intro j;rw[fj];grind
theorem Bx{cs vs:List α}(h:vs.length<=cs.length):fz cs 0 vs=vs++cs.drop vs.length:=by
 apply List.ext_getElem?;intro j;rw[fj];grind
theorem Bu(s:Ln)(m v i:Nat)(hi:i=s.length):(s++List.replicate (m+1) 0).set i v=(s++[v])++List.replicate m 0:=by
 subst hi;grind
theorem B1(s:Ln)(m i:Nat)(hi:i=s.length):(s++List.replicate (m+1) 0)[i]?=some 0:=φ
theorem da{i:Nat}(hb:1< b)(h:(aw b n)[i]?=some d):d< b:=dU hb n d (List.mem_of_getElem? h)
theorem EQ(h0:0< n)(h:n< MB):aw MB n=[n]:=by
 rw[eY δ h0,Nat.div_eq_of_lt h,cI,Nat.mod_eq_of_lt h]
theorem Ip(hb:1< b)(n k:Nat):(aw b n).drop k=aw b (ofD b ((aw b n).drop k)):=by
 symm;refine xe hb ⟨λd a=>dU hb n d (List.mem_of_mem_drop a),?_⟩;by_cases hk:k< (aw b n).length;rw[List.getLast?_drop,if_neg ω];exact tR hb n;grind
theorem uG(hb:1< b):b^ ((aw b n).length- 1)<=n\/n=0:=by
 rcases Nat.eq_zero_or_pos n with h|h
 exact .inr h;have a:aw b n≠[]:=λe=>by have:=(gi hb).1 e;omega
 have c:=tR hb n;obtain⟨s,x,e⟩:∃s x,aw b n=s++[x]:=⟨_,_,(List.dropLast_concat_getLast a).symm⟩;have d:=bY hb n;rw[e,iM] at d;rw[e] at c;simp at c;rw[e];simp;have:b^ s.length* 1<=b^ s.length* x:=Nat.mul_le_mul_left _ ω;omega
theorem kw{m:Nat}(hb:1< b)(h:(aw b m).length< (aw b n).length):m< n:=by
 have c:=fX (b:=b) (dU hb m);rw[bY hb] at c;rcases uG (n:=n) hb with a|a
 have:b^ (aw b m).length<=b^ ((aw b n).length- 1):=Nat.pow_le_pow_right ω ω;omega;subst a;rw[cI] at h;grind
theorem BV{m:Nat}(hb:1< b)(h:m<=n):(aw b m).length<=(aw b n).length:=by
 rcases Nat.lt_or_ge (aw b n).length (aw b m).length with a|a
 have:=kw hb a;omega;grind
def lh(n k:Nat):Nat:=ofD MB ((aw MB n).drop k)
def xV(n k:Nat):Ln:=(aw MB n).take k
theorem v8(n:Nat):lh n 0=n:=bY δ n
theorem ji(n:Nat):xV n 0=[]:=rfl
theorem Jv(n:Nat):xV n (aw MB n).length=aw MB n:=List.take_length
theorem nO(h:k<=(aw MB n).length):(xV n k).length=k:=by simp[xV,Nat.min_eq_left h]
theorem wa(h:k< (aw MB n).length):lh n (k+1)=lh n k/ MB/\xV n (k+1)=xV n k++[lh n k % MB]:=by
 have a:(aw MB n)[k]?=some (aw MB n)[k]:=List.getElem?_eq_getElem h;have c:=l3 MB a;have b:(aw MB n)[k]< MB:=da δ a;constructor;unfold lh;rw[c,Nat.add_mul_div_left _ _ δ,Nat.div_eq_of_lt b];omega;unfold xV lh;rw[cO a,c,Nat.add_mul_mod_self_left,Nat.mod_eq_of_lt b]
theorem Jh(hk:k<=(aw MB n).length):lh n k<=n:=by
 have:=eF MB k _ hk;rw[bY δ] at this;have a:=Nat.le_mul_of_pos_left (ofD MB ((aw MB n).drop k)) (Nat.pow_pos (n:=k) (show 0< MB by decide));unfold lh;omega
theorem Ji(hk:k<=(aw MB n).length):lh n k=0↔k=(aw MB n).length:=by
 constructor;intro e;have:=Ip (b:=MB) δ n k;rw[show ofD MB ((aw MB n).drop k)=0 from e,cI,List.drop_eq_nil_iff] at this;omega;intro e;unfold lh;rw[e,List.drop_length];rfl
end
def fg(a b:Int):Int:=if a< b then -1 else if b< a then 1 else 0
theorem nq{a b:Int}(h:a< b):fg a b= -1:=by simp[fg,h]
theorem ph{a b:Int}(h:b< a):fg a b=1:=by simp[fg];omega
theorem GZ{a b:Int}(h:a=b):fg a b=0:=by simp[fg];omega
theorem vk{a b:Int}:fg a b≠0↔a≠b:=by unfold fg;split <;>(try split)<;> omega
theorem oW{b i x y:Nat}{l m:Ln}(hl:∀d∈l,d< b)(hx:l[i]?=some x)(hy:m[i]?=some y)(hd:l.drop (i+1)=m.drop (i+1))(hlt:x< y):ofD b l< ofD b m:=by
 have f:i< l.length:=(List.getElem?_eq_some_iff.1 hx).1;have c:i< m.length:=(List.getElem?_eq_some_iff.1 hy).1;rw[eF b i l ω,eF b i m ω,l3 b hx,l3 b hy,hd]
 have e:ofD b (l.take i)< b^ i:=by
  have:=fX (b:=b) (l:=l.take i) λd hd=>hl d (List.mem_of_mem_take hd);rwa[List.length_take,Nat.min_eq_left ω] at this
 have a:b^ i* (x+b* ofD b (m.drop (i+1))+1)<=b^ i* (y+b* ofD b (m.drop (i+1))):=Nat.mul_le_mul_left _ ω;rw[Nat.mul_add _ _ 1] at a;omega
theorem rG(s t:Ln)(x:Nat)(i:Nat)(hi:i=s.length):(s++x::t)[i]?=some x:=by subst hi;simp
theorem qN(s t:Ln)(x v:Nat)(i:Nat)(hi:i=s.length):(s++x::t).set i v=(s++[v])++t:=by
 subst hi;rw[List.set_append_right _ _ (Nat.le_refl _)];simp
theorem gD{l:Ln}{i x:Nat}(h:l[i]?=some x):l.drop i=x::l.drop (i+1):=by
 rw[List.drop_eq_getElem_cons (List.getElem?_eq_some_iff.1 h).1,(List.getElem?_eq_some_iff.1 h).2]
def jM(b:Nat):Nat->Nat->Ln
 |0,_=>[]
 |n+1,m=>m % b::jM b n (m/ b)
@[simp] theorem lm (b:Nat):∀n m,(jM b n m).length=n
 |0,_=>rfl
 |n+1,m=>by simp[jM,lm b n]
theorem uT{b:Nat}(hb:0< b):∀n m,∀d∈jM b n m,d< b
 |0,_,d,h=>by cases h
 |n+1,m,d,h=>by
  rcases List.mem_cons.1 h with rfl|h
  exact Nat.mod_lt _ hb;exact uT hb n _ d h
theorem ri{b:Nat}(hb:0< b):∀{n m:Nat},m< b^ n->ofD b (jM b n m)=m
 |0,m,h=>by simp at h;subst h;rfl
 |n+1,m,h=>by
  rw[jM,ofD,ri hb (by rw[Nat.div_lt_iff_lt_mul hb];exact h)];exact Nat.mod_add_div m b
theorem BJ{b:Nat}:∀{l:Ln},(∀d∈l,d< b)->jM b l.length (ofD b l)=l
 |[],_=>rfl
 |d::l,h=>by
  have a:=h d (List.mem_cons_self ..);have e:ofD b (d::l) % b=d:=by rw[ofD,Nat.add_mul_mod_self_left];exact Nat.mod_eq_of_lt a
  have c:ofD b (d::l) / b=ofD b l:=by rw[ofD,Nat.add_mul_div_left _ _ ω,Nat.div_eq_of_lt a];omega
  rw[List.length_cons,jM,e,c,BJ λx f=>h x (List.mem_cons_of_mem _ f)]
theorem AL{b n m:Nat}{l:Ln}(h:∀d∈l,d< b)(hl:l.length=n)(hv:ofD b l=m):l=jM b n m:=by
 subst hl hv;exact(BJ h).symm
theorem Hv{v:Nat}(h1:1<=v)(h2:v< 1000000000):500000000<=v* (1000000000/ (v+1))/\(v+1) * (1000000000/ (v+1))<=1000000000/\1<=1000000000/ (v+1):=by
 have a:(v+1) * (1000000000/ (v+1))<=1000000000:=Nat.mul_div_le _ _;have c:1000000000< (v+1) * (1000000000/ (v+1))+(v+1):=Nat.lt_mul_div_succ _ ω;have b:1<=1000000000/ (v+1):=φ
 refine⟨?_,a,b⟩;obtain⟨q,d⟩:∃q,q=1000000000/ (v+1):=⟨_,rfl⟩;rw[<-d] at a c b⊢;rw[Nat.add_mul] at a c;by_cases c1:500000000<=v;have:=Nat.mul_le_mul_left v b;omega;by_cases c2:250000000<=v;have:2<=q:=φ
 have:=Nat.mul_le_mul_left v this;omega;by_cases c3:166666666<=v
 have:4<=q:=by
  rw[d,Nat.le_div_iff_mul_le ω];omega
 have:=Nat.mul_le_mul_left v this;omega;by_cases c4:v=1;subst c4;omega
 have:q<=333333333:=by
  have:1000000000/ (v+1)<=1000000000/ 3:=Nat.div_le_div_left ω ω;omega
 omega
theorem J8{b n p w u v lo lw:Nat}(hb:0< b)(hp:p=lo+b^ n* u)(hlo:lo< b^ n)(hw:w=lw+b^ n* v)(hlw:lw< b^ n)(hv:b<=2* v)(hvb:v< b)(hq:p< w* b):
    p/ w<=min (u/ v) (b- 1)/\min (u/ v) (b- 1)<=p/ w+2:=by
 have e:0< v:=ω
 have m:0< b^ n:=Nat.pow_pos hb;have c:0< w:=φ
 have q1:w* (p/ w)<=p:=Nat.mul_div_le _ _;have q2:p< w* (p/ w)+w:=Nat.lt_mul_div_succ _ c;have q3:p/ w< b:=by rw[Nat.div_lt_iff_lt_mul c,Nat.mul_comm];grind
 obtain⟨q,f⟩:∃q,q=p/ w:=⟨_,rfl⟩;rw[<-f] at q1 q2 q3⊢;have j:v* (u/ v)<=u:=Nat.mul_div_le _ _;obtain⟨g,a⟩:∃g,g=u/ v:=⟨_,rfl⟩;rw[<-a] at j;constructor;refine Nat.le_min.2 ⟨?_,ω⟩;rw[<-a,a,Nat.le_div_iff_mul_le e]
 -- q v<=u,for q v b^n<=q w<=p< (u+1) b^n
 have i:b^ n* (q* v)<=w* q:=by rw[hw,Nat.add_mul,Nat.mul_assoc,Nat.mul_comm v q];omega
 have h:b^ n* (q* v)< b^ n* (u+1):=φ
 have:=Nat.lt_of_mul_lt_mul_left h;omega;rw[<-a]
 -- if min g (b- 1)≥q+3 then(q+3) v<=u and so p≥b^n (q+3) v,but p< w (q+1)
 refine Nat.le_of_not_lt λk=>?_;have d:q+3<=g:=φ
 have o:q+3<=b- 1:=φ
 have i:v* (q+3)<=u:=Nat.le_trans (Nat.mul_le_mul_left _ d) j;have h:b^ n* (v* (q+3))<=p:=by rw[hp];have:=Nat.mul_le_mul_left (b^ n) i;omega
 have s:w* (q+1)< b^ n* ((v+1) * (q+1))+1:=by
  have:w<=b^ n* (v+1):=φ
  have:=Nat.mul_le_mul_right (q+1) this;grind
 have r:p< w* (q+1):=φ
 have l:b^ n* (v* (q+3))< b^ n* ((v+1) * (q+1)):=ω
 have t:=Nat.lt_of_mul_lt_mul_left l;grind
section
variable {U v n L s b k:Nat}{R T:Ln}
structure DivI (U v n L:Nat)(R T:Ln)(k:Nat):Prop where
 len:R.length=L
 dig:∀d∈R,d< MB
 digT:∀d∈T,d< MB
 k_le:k+n+T.length=L
 val:U=ofD MB R+v* (MB^ k* ofD MB T)
 top:ofD MB (R.drop k)< v
theorem DivI.start(hR:R.length=L)(hd:∀d∈R,d< MB)(hU:ofD MB R=U)(hn:n<=L)(hb:MB^ (n- 1)<=b)(hn1:1<=n)(hv:v=b* s)(hlt:U< MB^ (L- 1) * s):DivI U v n L R [] (L- n):=by
 refine⟨hR,hd,ψ,φ,by simp[ofD,hU],?_⟩;have f:=eF MB (L- n) R ω;have c:MB^ (L- 1)=MB^ (L- n) * MB^ (n- 1):=by rw[<-Nat.pow_add];grind
 rw[c,Nat.mul_assoc] at hlt;have a:MB^ (L- n) * ofD MB (R.drop (L- n))< MB^ (L- n) * (MB^ (n- 1) * s):=ω
 have g:=Nat.lt_of_mul_lt_mul_left a;have e:MB^ (n- 1) * s<=b* s:=Nat.mul_le_mul_right _ hb;omega
theorem DivI.parts(h:DivI U v n L R T (k+1))(hv:v< MB^ n):
    ofD MB (R.drop (k+n+1))=0/\ofD MB ((R.drop k).take (n+1))=ofD MB (R.drop k)/\ofD MB (R.drop k)< v* MB/\((R.drop k).take (n+1)).length=n+1/\R=R.take k++(R.drop k).take (n+1)++R.drop (k+n+1):=by
 have j:=h.k_le;have c:=h.len;have f:k< R.length:=ω
 obtain⟨x,d⟩:∃x,R[k]?=some x:=⟨_,List.getElem?_eq_getElem f⟩;have i:x< MB:=h.dig x (List.mem_of_getElem? d);have e1:=l3 MB d;have a:=h.top;have e2:=eF MB n (R.drop (k+1)) φ;rw[List.drop_drop,show k+1+n=k+n+1 by omega] at e2
 have e:ofD MB (R.drop (k+n+1))=0:=by
  rcases Nat.eq_zero_or_pos (ofD MB (R.drop (k+n+1))) with b|b
  exact b;have:MB^ n* 1<=MB^ n* ofD MB (R.drop (k+n+1)):=Nat.mul_le_mul_left _ b;omega
 have g:=eF MB (n+1) (R.drop k) φ;rw[List.drop_drop,show k+(n+1)=k+n+1 by omega,e] at g;refine⟨e,ω,?_,φ,?_⟩;have:MB* (ofD MB (R.drop (k+1))+1)<=MB* v:=Nat.mul_le_mul_left _ a;rw[Nat.mul_add] at this;rw[Nat.mul_comm v MB];omega;rw[List.append_assoc]
 conv=>lhs;rw[<-List.take_append_drop k R]
 conv=>lhs;rw[<-List.take_append_drop (n+1) (R.drop k)]
 rw[List.drop_drop,show k+(n+1)=k+n+1 by omega]
theorem DivI.next{A:Ln}(h:DivI U v n L R T (k+1))(hv:v< MB^ n)(hv0:0< v)(hA:A=jM MB (n+1) (ofD MB (R.drop k) % v)):
    DivI U v n L (R.take k++A++R.drop (k+n+1)) (ofD MB (R.drop k) / v::T) k:=by
 obtain⟨p1,p2,l,m,o⟩:=h.parts hv;have p:=h.k_le;have i:=h.len
 have j:ofD MB (R.drop k) % v< MB^ (n+1):=by
  have:=Nat.mod_lt (ofD MB (R.drop k)) hv0;have q:MB^ n<=MB^ (n+1):=Nat.pow_le_pow_right δ ω;omega
 have f:A.length=n+1:=by rw[hA];simp
 have c:ofD MB A=ofD MB (R.drop k) % v:=by rw[hA];exact ri δ j
 have g:(R.take k).length=k:=χ
 have b:ofD MB (R.take k++A++R.drop (k+n+1))=ofD MB (R.take k)+MB^ k* (ofD MB (R.drop k) % v):=by
  rw[ig,ig,p1,g,c];simp
 refine⟨by simp[f];omega,?_,?_,χ,?_,?_⟩;intro d a;rcases List.mem_append.1 a with a|a
 rcases List.mem_append.1 a with a|a
 exact h.dig d (List.mem_of_mem_take a);rw[hA] at a;exact uT δ _ _ d a;exact h.dig d (List.mem_of_mem_drop a);intro d a;rcases List.mem_cons.1 a with rfl|a
 rw[Nat.div_lt_iff_lt_mul hv0,Nat.mul_comm];exact l;exact h.digT d a;rw[b,ofD,h.val,eF MB k R ω,Nat.pow_succ];have e:=Nat.mod_add_div (ofD MB (R.drop k)) v
 have e2:MB^ k* (ofD MB (R.drop k) % v)+v* (MB^ k* (ofD MB (R.drop k) / v))=MB^ k* ofD MB (R.drop k):=by
  rw[Nat.mul_left_comm,<-Nat.mul_add,e]
 rw[Nat.mul_add,Nat.mul_add,<-Nat.mul_assoc (MB^ k) MB];omega;rw[List.append_assoc,List.drop_append,g,Nat.sub_self,List.drop_zero,List.drop_of_length_le ω,List.nil_append,ig,p1,c];simp;exact Nat.mod_lt _ hv0
theorem DivI.last{a:Nat}(h:DivI U v n L R T 0)(hU:U=a* s)(hv:v=b* s)(hb:0< b)(hs:0< s):ofD MB T=a/ b/\ofD MB R/ s=a % b:=by
 have c:=h.val;have d:=h.top;rw[List.drop_zero,hv] at d;rw[Nat.pow_zero,Nat.one_mul,hU,hv] at c
 have e:ofD MB T=a/ b:=by
  have e1:a/ b=a* s/ (b* s):=(Nat.mul_div_mul_right a b hs).symm;rw[e1,c,Nat.add_mul_div_left _ _ (Nat.mul_pos hb hs),Nat.div_eq_of_lt d];omega
 have e2:ofD MB R=(a % b) * s:=by
  rw[e] at c
  have f:a* s=(a % b) * s+b* s* (a/ b):=by
   conv=>lhs;rw[<-Nat.mod_add_div a b]
   grind
  omega
 simp_all
theorem CK(hl:(aw MB n).length=k+1){d:Nat}(hd:(aw MB n)[k]?=some d):∃lo,n=lo+MB^ k* d/\lo< MB^ k:=by
 refine⟨ofD MB ((aw MB n).take k),?_,?_⟩;have a:=dp MB hd;rw[<-hl,List.take_length,bY δ] at a;exact a;have:=fX (b:=MB) (l:=(aw MB n).take k) λd hd=>dU δ n d (List.mem_of_mem_take hd);grind
theorem EN{vt:Nat}(hl:(aw MB b).length=k+1)(hvt:(aw MB b)[k]?=some vt)(h0:1<=vt)(h1:500000000<=vt* s)(h2:(vt+1) * s<=1000000000):
    (aw MB (b* s)).length=k+1/\MB^ k<=b/\b* s< MB^ (k+1)/\∃v lw,(aw MB (b* s))[k]?=some v/\b* s=lw+MB^ k* v/\lw< MB^ k/\500000000<=v/\v< 1000000000:=by
 obtain⟨lo,e1,e2⟩:=CK hl hvt
 have f:MB^ k<=b:=by
  have:=Nat.mul_le_mul_left (MB^ k) h0;omega
 have e:b< MB^ k* (vt+1):=φ
 have d:0< s:=φ
 have c:b* s< MB^ (k+1):=by
  have l:b* s< MB^ k* (vt+1) * s:=Nat.mul_lt_mul_of_pos_right e d;have j:MB^ k* ((vt+1) * s)<=MB^ k* MB:=Nat.mul_le_mul_left _ h2;grind
 have h:MB^ k* 500000000<=b* s:=by
  have l:MB^ k* vt* s<=b* s:=Nat.mul_le_mul_right _ ω;have j:MB^ k* 500000000<=MB^ k* (vt* s):=Nat.mul_le_mul_left _ h1;grind
 have a:(aw MB (b* s)).length=k+1:=by
  have u1:=ft (b:=MB) δ c
  have u2:k< (aw MB (b* s)).length:=by
   refine Nat.lt_of_not_le λg=>?_;have:=fX (b:=MB) (dU δ (b* s));rw[bY δ] at this;have o:MB^ (aw MB (b* s)).length<=MB^ k:=Nat.pow_le_pow_right δ g;omega
  omega
 obtain⟨v,hv⟩:∃v,(aw MB (b* s))[k]?=some v:=⟨_,List.getElem?_eq_getElem ω⟩;obtain⟨lw,i,m⟩:=CK a hv;refine⟨a,f,c,v,lw,hv,i,m,?_,da δ hv⟩;have n:MB^ k* 500000000< MB^ k* (v+1):=φ
 have:=Nat.lt_of_mul_lt_mul_left n;omega
theorem JC{A:Ln}{x0 x1:Nat}(hA:A.length=k+2)(h0:A[k]?=some x0)(h1:A[k+1]?=some x1)(hd:∀d∈A,d< MB):∃lo,ofD MB A=lo+MB^ k* (x1* 1000000000+x0)/\lo< MB^ k:=by
 refine⟨ofD MB (A.take k),?_,?_⟩;have e1:=dp MB h1;rw[show k+1+1=A.length by omega,List.take_length] at e1;rw[e1,dp MB h0,Nat.pow_succ,Nat.mul_add,Nat.mul_assoc];have:MB^ k* (MB* x1)=MB^ k* (x1* 1000000000):=φ
 omega;have:=fX (b:=MB) (l:=A.take k) λd h=>hd d (List.mem_of_mem_take h);grind
end
section
variable {n:Int}{d k:Nat}
def zI(z:Int):La:=[mag z.natAbs,bln (decide (z< 0))]
def qC(q:Rat):La:=[mag q.num.natAbs,bln (decide (q.num< 0)),mag (q.den- 1)]
def sgn(b:Bool)(m:Nat):Int:=if b then -(m:Int) else m
theorem y7(z:Int):∀c∈zI z,Closed c:=ae (cr _) (ae (ak _) af)
theorem bC(q:Rat):∀c∈qC q,Closed c:=ae (cr _) (ae (ak _) (ae (cr _) af))
theorem ju(z:Int):Closed (.agg (zI z)):=aE (y7 z)
theorem aP(q:Rat):Closed (.agg (qC q)):=aE (bC q)
theorem closed_mA(n:Nat):Closed (.agg [mag n]):=aE (ae (cr n) af)
theorem fT(b:Bool)(m:Nat):(sgn b m).natAbs=m:=by unfold sgn;grind
theorem sgn_neg(b:Bool)(m:Nat):decide (sgn b m< 0)=(b && !(m==0)):=by
 unfold sgn;grind
theorem qK(z:Int):sgn (decide (z< 0)) z.natAbs=z:=by
 unfold sgn;grind
def qs(q:Rat):Nat:=max (bl q.num.natAbs) (bl q.den)
theorem l5(hd:0< d):(mkRat n d).num=n/ (Nat.gcd n.natAbs d:Int)/\(mkRat n d).den=d/ Nat.gcd n.natAbs d:=by
 unfold mkRat;rw[dif_neg ω,Rat.normalize_eq];grind
theorem ku(hd:0< d):(mkRat n d).num=sgn (decide (n< 0)) (n.natAbs/ Nat.gcd n.natAbs d):=by
 rw[(l5 hd).1];have b:0< Nat.gcd n.natAbs d:=Nat.gcd_pos_of_pos_right _ hd;obtain⟨k,a⟩:=Nat.gcd_dvd_left n.natAbs d;generalize Nat.gcd n.natAbs d=g at b a⊢;rw[a,Nat.mul_div_cancel_left _ b];unfold sgn;split
 ·rename_i h
  have:=of_decide_eq_true h;have e:n=(g:Int) * (-(k:Int)):=by rw[Int.mul_neg,<-Int.natCast_mul];omega
  rw[e,Int.mul_ediv_cancel_left _ ω]
 ·have e:n=(g:Int) * (k:Int):=φ
  rw[e,Int.mul_ediv_cancel_left _ ω]
theorem fv(a b:Nat):bl (a/ b)<=bl a:=dO (Nat.div_le_self _ _)
theorem fW(hd:0< d)(h1:bl n.natAbs<=k)(h2:bl d<=k):qs (mkRat n d)<=k:=by
 unfold qs;rw[ku hd,fT,(l5 hd).2];exact Nat.max_le.2 ⟨Nat.le_trans (fv _ _) h1,Nat.le_trans (fv _ _) h2⟩
theorem ug(a b:Rat):a+b=mkRat (a.num* b.den+b.num* a.den) (a.den* b.den):=by
 rw[Rat.add_def];unfold mkRat;grind
theorem oT(a b:Rat):a* b=mkRat (a.num* b.num) (a.den* b.den):=by
 rw[Rat.mul_def];unfold mkRat;grind
theorem dA(a:Rat):bl a.num.natAbs<=qs a:=Nat.le_max_left _ _
theorem dr(a:Rat):bl a.den<=qs a:=Nat.le_max_right _ _
theorem ua{x y:Int}(hx:bl x.natAbs<=k)(hy:bl y.natAbs<=k):bl (x+y).natAbs<=k+1:=by
 have a:=dO (Int.natAbs_add_le x y);have b:=Bb x.natAbs y.natAbs;omega
theorem dc{x y:Int}{j:Nat}(hx:bl x.natAbs<=j)(hy:bl y.natAbs<=k):bl (x* y).natAbs<=j+k:=by
 rw[Int.natAbs_mul];have:=im x.natAbs y.natAbs;omega
theorem uf(a b:Rat):bl (a.num* b.den+b.num* a.den).natAbs<=qs a+qs b+1/\bl (a.den* b.den)<=qs a+qs b:=by
 have c:=dA a;have d:=dr a;have e:=dA b;have f:=dr b;refine⟨ua (dc c φ) ?_,?_⟩;have:=dc (x:=b.num) (y:=a.den) e (by simpa using d);omega;have:=im a.den b.den;omega
theorem th(a b:Rat):bl (a.num* b.num).natAbs<=qs a+qs b/\bl (a.den* b.den)<=qs a+qs b:=by
 have c:=dA a;have e:=dr a;have d:=dA b;have f:=dr b;refine⟨dc c d,?_⟩;have:=im a.den b.den;omega
theorem mj(a b:Rat):0< a.den* b.den:=Nat.mul_pos a.den_pos b.den_pos
theorem e9(a b:Rat):qs (a+b)<=qs a+qs b+1:=by
 rw[ug];have h:=uf a b;exact fW (mj a b) h.1 ω
theorem cx(a b:Rat):qs (a* b)<=qs a+qs b:=by
 rw[oT];have h:=th a b;exact fW (mj a b) h.1 h.2
theorem dJ(a:Rat):qs (-a)=qs a:=by unfold qs;simp
theorem lK(a b:Rat):qs (a- b)<=qs a+qs b+1:=by
 rw[Rat.sub_eq_add_neg];have:=e9 a (-b);rwa[dJ] at this
theorem tQ(a b:Rat)(hb:b≠0):a/ b=mkRat (a.num* sgn (decide (b.num< 0)) b.den) (a.den* b.num.natAbs):=by
 rw[Rat.div_def,Rat.inv_def]
 conv=>lhs;rw[<-Rat.num_divInt_den a]
 rw[Rat.divInt_mul_divInt];unfold sgn;split
 ·rename_i h
  have c:=of_decide_eq_true h;have hp:0< a.den* b.num.natAbs:=Nat.mul_pos a.den_pos ω;have e:(a.den:Int) * b.num= -((a.den* b.num.natAbs:Nat):Int):=φ
  rw[e,Int.mul_neg];generalize a.den* b.num.natAbs=d at hp⊢;cases d with
  |zero=>omega
  |succ d=>
   rfl
 ·have e:(a.den:Int) * b.num=((a.den* b.num.natAbs:Nat):Int):=φ
  rw[e];rfl
theorem y3(a b:Rat):bl (a.num* sgn (decide (b.num< 0)) b.den).natAbs<=qs a+qs b/\bl (a.den* b.num.natAbs)<=qs a+qs b:=by
 have c:=dA a;have d:=dr a;have f:=dA b;have e:=dr b;refine⟨dc c (by rw[fT];grind),?_⟩;have:=im a.den b.num.natAbs;omega
theorem fL(a b:Rat):qs (a/ b)<=qs a+qs b:=by
 by_cases hb:b=0;subst hb;rw[Rat.div_def,Rat.inv_zero,Rat.mul_zero];omega;rw[tQ a b hb];have h:=y3 a b;have c:b.num≠0:=λh=>hb (Rat.num_eq_zero.1 h);exact fW (Nat.mul_pos a.den_pos ω) h.1 h.2
end
def sm(q:Rat):Prop:=qs q<=137438953472
instance (q:Rat):Decidable (sm q):=inferInstanceAs (Decidable (_<=_))
theorem sm2{a b:Rat}(ha:sm a)(hb:sm b):qs a+qs b<=549755813888:=by unfold sm at ha hb;omega
def sgZ(z:Int):Int:=if z=0 then 0 else if z< 0 then -1 else 1
def fb(a b:Rat):Int:=if a< b then -1 else if a=b then 0 else 1
theorem sgZ_num_lt{q:Rat}:sgZ q.num< 0↔q< 0:=by
 unfold sgZ;have c:q.num=0↔q=0:=Rat.num_eq_zero;have a:0<=q.num↔0<=q:=Rat.num_nonneg;have b:q< 0↔¬0<=q:=Rat.not_le.symm;rw[b,<-a];split;omega;split <;> omega
theorem sgZ_num_eq{q:Rat}:sgZ q.num=0↔q=0:=by
 unfold sgZ;rw[<-Rat.num_eq_zero];split;simp[*];split <;> simp[*]
theorem sgZ_num_gt{q:Rat}:0< sgZ q.num↔0< q:=by
 have a:= @sgZ_num_lt q;have b:= @sgZ_num_eq q
 have c:0< q↔¬(q< 0\/q=0):=by
  rw[<-Rat.not_le,Rat.le_iff_lt_or_eq]
 rw[c,<-a,<-b];omega
theorem G0(a b:Rat):fb a b=if a.num* b.den< b.num* a.den then -1 else if a.num* b.den=b.num* a.den then 0 else 1:=by
 unfold fb;have d:=Rat.lt_iff a b
 have c:a=b↔a.num* b.den=b.num* a.den:=by
  constructor;rintro rfl;rfl;intro h;have:=(Rat.mkRat_eq_iff (n₁:=a.num) (n₂:=b.num) a.den_nz b.den_nz).2 h;rwa[Rat.mkRat_self,Rat.mkRat_self] at this
 by_cases h:a< b;rw[if_pos h,if_pos (d.1 h)];rw[if_neg h,if_neg (λx=>h (d.2 x))];by_cases h':a=b;rw[if_pos h',if_pos (c.1 h')];rw[if_neg h',if_neg (λx=>h' (c.2 x))]
def gX(k:Nat):Rat:=mkRat 1 (2^ k)
theorem rj(q:Rat):q.num< 0↔q< 0:=by
 rw[<-sgZ_num_lt];unfold sgZ;split;omega;split <;> omega
def eH(q:Rat):Rat:=mkRat q.num.natAbs q.den
theorem pn(q:Rat):eH q=if q< 0 then -q else q:=by
 unfold eH;by_cases h:q< 0;have a:q.num< 0:=(rj q).2 h;rw[if_pos h];have e:(q.num.natAbs:Int)=(-q).num:=by rw[Rat.neg_num];omega
 rw[e,<-Rat.neg_den,Rat.mkRat_self];have a:¬q.num< 0:=λe=>h ((rj q).1 e);rw[if_neg h];have e:(q.num.natAbs:Int)=q.num:=ω
 rw[e,Rat.mkRat_self]
theorem xN(q:Rat):(eH q).num=(q.num.natAbs:Int):=by
 rw[pn];by_cases h:q< 0;rw[if_pos h,Rat.neg_num];have a:q.num< 0:=(rj q).2 h;omega;rw[if_neg h];have a:¬q.num< 0:=λe=>h ((rj q).1 e);omega
theorem xO(q:Rat):(eH q).den=q.den:=by
 rw[pn];split;exact Rat.neg_den ..;rfl
theorem qC_abs(q:Rat):qC (eH q)=zI (sgn false q.num.natAbs)++[mag (q.den- 1)]:=by
 unfold qC zI;rw[xN,xO];rfl
def pE(l:Lq):Lc:=l.map qC
def pA(l:Lq):AV:= .arr (pE l)
def spC(a b:Rat):La:=qC a++qC b
@[simp] theorem qC_length (q:Rat):(qC q).length=3:=rfl
@[simp] theorem spC_length (a b:Rat):(spC a b).length=6:=rfl
@[simp] theorem HF (l:Lq):(pE l).length=l.length:=by simp[pE]
theorem pE_get{l:Lq}{i:Nat}{q:Rat}(h:l[i]?=some q):(pE l)[i]?=some (qC q):=by simp[pE,h]
theorem uU(l:Lq)(k:Nat):(pE l).take k=pE (l.take k):=by simp[pE]
theorem lZ(l m:Lq):pE (l++m)=pE l++pE m:=by simp[pE]
theorem mM(l:Lq)(i:Nat)(q:Rat):(pE l).set i (qC q)=pE (l.set i q):=by simp[pE,List.map_set]
theorem cD(l:Lq):(pE l).all (·.all AV.one)=true:=by
 simp only[pE,List.all_map,List.all_eq_true];intro q _;rfl
theorem mN(l:Lq):∀e∈pE l,e.length=3:=by intro e a;simp[pE] at a;obtain⟨q,_,rfl⟩:=a;rfl
theorem aQ(l:Lq):∀e∈pE l,∀c∈e,Closed c:=by
 intro e a c hc;simp[pE] at a;obtain⟨q,_,rfl⟩:=a;exact bC q c hc
theorem aD(l:Lq):Closed (pA l):=aK (aQ l)
theorem bt(a b:Rat):∀c∈spC a b,Closed c:=λc hc=>(List.mem_append.1 hc).elim (bC a c) (bC b c)
theorem b9(a b:Rat):Closed (.agg (spC a b)):=aE (bt a b)
def zC:La:=[.emp,bln false,.emp]
theorem mag0:mag 0= .arr []:=by unfold mag;rw[cI];rfl
theorem qC0:qC 0=[.arr [],bln false,.arr []]:=by
 show [mag 0,bln (decide ((0:Int)< 0)),mag (1- 1)]=_;rw[mag0];rfl
def smL(l:Lq):Prop:=∀q∈l,sm q
instance (l:Lq):Decidable (smL l):=inferInstanceAs (Decidable (∀q∈l,sm q))
def ef(bf:Int->Bool):Lq->Rat
 |[]=>0
 |x::l=>l.foldl (λo y=>if bf (fb y o) then y else o) x
theorem sk(bf:Int->Bool)(l:Lq)(y:Rat):ef bf (l++[y])=if l=[]\/bf (fb y (ef bf l))=true then y else ef bf l:=by
 cases l with
 |nil=>simp[ef]
 |cons x l=>simp[ef,List.foldl_append]
theorem qA{bf:Int->Bool}:∀{l:Lq},smL l->sm (ef bf l)
 |[],_=>(by decide:sm 0)
 |x::l,h=>by
  have a:∀(l:Lq) (o:Rat),sm o->smL l->sm (l.foldl (λo y=>if bf (fb y o) then y else o) o):=by
   intro l
   induction l with
   |nil=>intro o b _;exact b
   |cons y l e=>
    intro o b d;refine e _ ?_ λq c=>d q (List.mem_cons_of_mem _ c);show sm (if bf (fb y o)=true then y else o);split;exact d y (List.mem_cons_self ..);exact b
  exact a l x (h x (List.mem_cons_self ..)) λq c=>h q (List.mem_cons_of_mem _ c)
def DX(l:Lq):Rat:=ef (λc=>decide (c< 0)) l
def gQ(l:Lq):Rat:=ef (λc=>decide (0< c)) l
theorem AEval.lenP{P:Program}{id:Nat}{ev:Operand->Option AV}{hp:Hq}{c:Call}{x:Operand}{T:Nat}{d:Nat×Nat}{l:Lq}(hc:c.callee= .builtin .len)(ha:c.args= #[x])(ht:c.argTypes= #[T])(hx:ev x=some (.arr (pE l)))(he:eK P T=some d):
    AEval P id ev hp (.call c) ⟨.v (.int .i64 (l.length:Nat)),[]⟩ []:= .len hc ha ht hx (by simp[tl]) he
section
variable {l p:Lq}
def ap:Lq->Lq
 |[]=>[]
 |a::l=>match ap l with
  |[]=>if a=0 then [] else [a]
  |b::m=>a::b::m
theorem e8(a:Rat)(l:Lq):ap (a::l)=if ap l=[] then(if a=0 then [] else [a]) else a::ap l:=by
 rw[ap];grind
theorem mG(l:Lq)(a:Rat):ap (l++[a])=if a=0 then ap l else l++[a]:=by
 induction l with
 |nil=>simp[ap]
 |cons b l c=>
  rw[List.cons_append,e8,c,e8];by_cases h:a=0;simp only[if_pos h];simp_all
theorem bh(l:Lq):(ap l).length<=l.length:=by
 induction l with
 |nil=>simp[ap]
 |cons a l b=>rw[e8];grind
theorem oF(l:Lq):ap l=l.take (ap l).length:=by
 induction l with
 |nil=>simp[ap]
 |cons a l b=>
  rw[e8];grind
theorem cz{q:Rat}(h:q∈ap l):q∈l:=by
 rw[oF] at h;grind
theorem vz{q:Rat}(h:(ap l).getLast?=some q):q≠0:=by
 induction l with
 |nil=>simp[ap] at h
 |cons a l b=>
  rw[e8] at h;grind
theorem b6(l:Lq):ap (ap l)=ap l:=by
 rcases List.eq_nil_or_concat (ap l) with h|⟨m,q,h⟩
 rw[h];rfl;have a:q≠0:=vz (l:=l) φ;rw[h,List.concat_eq_append,mG,if_neg a]
theorem vM(h:smL l):smL (ap l):=λq a=>h q (cz a)
def dt(l:Lq):Int:=(ap l).length- 1
def aI(l:Lq):Rat:=(ap l).getLastD 0
theorem dd(h:ap l≠[]):aI l≠0:=by
 refine vz (l:=l) (q:=(ap l).getLastD 0) ?_;rw[List.getLastD_eq_getLast?];cases hl:(ap l).getLast? with
 |none=>simp_all
 |some q=>rfl
theorem tn(h:ap l=[]):aI l=0:=by unfold aI;grind
theorem dj{n:Nat}(h:(ap l).length=n+1):(ap l)[n]?=some (aI l):=by
 unfold aI;grind
theorem JU(h:smL l):sm (aI l):=by
 by_cases h0:ap l=[];rw[tn h0];decide;obtain⟨n,a⟩:∃n,(ap l).length=n+1:=⟨(ap l).length- 1,by have:=List.length_pos_iff.2 h0;omega⟩;exact h _ (cz (List.mem_of_getElem? (dj a)))
def aN(n:Nat)(f:Nat->Rat):Lq:=(List.range n).map f
@[simp] theorem uo (n:Nat)(f:Nat->Rat):(aN n f).length=n:=by simp[aN]
def coP(p:Lq)(i:Nat):Rat:=p.getD i 0
def fR(p q:Lq):Lq:=ap (aN (max p.length q.length) λi=>coP p i+coP q i)
def aR(p:Lq)(k:Rat):Lq:=ap (aN p.length λi=>coP p i* k)
def dQ(p q:Lq):Lq:=fR p (aR q (-1))
def eM(a:Rat):Lq:=ap [a]
def aV(p:Lq):Lq:=ap (aN (p.length- 1) λi=>coP p (i+1) * ((i+1:Nat):Int))
def aM(p:Lq):Lq:=ap (aN (p.length+1) λi=>if i=0 then 0 else coP p (i- 1) / ((i:Nat):Int))
def ce(p:Lq):Lq:=if ap p=[] then [] else aR p (1/ aI p)
theorem tV(h:smL p)(i:Nat):sm (coP p i):=by
 unfold coP;rw[List.getD_eq_getElem?_getD];cases hi:p[i]? with
 |none=>exact(by decide:sm 0)
 |some q=>exact h q (List.mem_of_getElem? hi)
theorem ci{i:Nat}(h:i< p.length):p[i]?=some (coP p i):=by
 unfold coP;grind
theorem ee{i:Nat}(h:p.length<=i):coP p i=0:=by
 unfold coP;grind
theorem pi:∀c∈zC,Closed c:=ae dw (ae (ak _) (ae dw af))
end
def bdL(l:Lq)(n:Nat):Prop:=∀q∈l,qs q<=n
instance (l:Lq) (n:Nat):Decidable (bdL l n):=inferInstanceAs (Decidable (∀q∈l,qs q<=n))
theorem io{l:Lq}{n:Nat}(h:bdL l n)(hn:n<=137438953472):smL l:=λq a=>Nat.le_trans (h q a) hn
theorem ej{l:Lq}{n:Nat}(h:bdL l n)(hn:1<=n)(i:Nat):qs (coP l i)<=n:=by
 unfold coP;rw[List.getD_eq_getElem?_getD];cases hi:l[i]? with
 |none=>exact Nat.le_trans (by decide:qs 0<=1) hn
 |some q=>exact h q (List.mem_of_getElem? hi)
def Dd(o:Lq)(j:Nat)(x:Rat):Lq:=o.set j (coP o j+x)
def kO(o:Lq)(a:Rat)(q:Lq)(i:Nat):Nat->Lq
 |0=>o
 |k+1=>Dd (kO o a q i k) (i+k) (a* coP q k)
def fy(p q:Lq):Nat->Lq
 |0=>List.replicate (p.length+q.length- 1) 0
 |i+1=>if coP p i=0 then fy p q i else kO (fy p q i) (coP p i) q i q.length
def aT(p q:Lq):Lq:=if p=[]\/q=[] then [] else ap (fy p q p.length)
@[simp] theorem Bc (o:Lq)(j:Nat)(x:Rat):(Dd o j x).length=o.length:=by simp[Dd]
@[simp] theorem Bz (o:Lq)(a:Rat)(q:Lq)(i k:Nat):(kO o a q i k).length=o.length:=by
 induction k with
 |zero=>rfl
 |succ k ih=>rw[kO,Bc,ih]
@[simp] theorem n0 (p q:Lq)(i:Nat):(fy p q i).length=p.length+q.length- 1:=by
 induction i with
 |zero=>simp[fy]
 |succ i ih=>rw[fy];split <;> simp[ih]
theorem tX(o:Lq)(j n:Nat)(x:Rat):coP (Dd o j x) n=if n=j/\j< o.length then coP o j+x else coP o n:=by
 unfold Dd coP;rw[List.getD_eq_getElem?_getD,List.getElem?_set,List.getD_eq_getElem?_getD,List.getD_eq_getElem?_getD];by_cases h:j=n;subst h;by_cases h2:j< o.length;simp[h2];simp[h2];rw[if_neg h,if_neg ω]
theorem fP{o:Lq}{n:Nat}(h:∀i,qs (coP o i)<=n):bdL o n:=by
 intro q a;obtain⟨i,b,rfl⟩:=List.getElem_of_mem a;have:=h i;unfold coP at this;rwa[List.getD_eq_getElem?_getD,List.getElem?_eq_getElem b] at this
theorem v6(o:Lq)(a:Rat)(q:Lq)(i k n:Nat)(h:n< i\/i+k<=n):coP (kO o a q i k) n=coP o n:=by
 induction k with
 |zero=>rfl
 |succ k b=>rw[kO,tX,if_neg ω,b ω]
theorem FQ{o:Lq}{a:Rat}{q:Lq}{B s t:Nat}(i:Nat)(ho:∀n,qs (coP o n)<=B)(ha:qs a<=s)(hq:∀n,qs (coP q n)<=t):∀k n,qs (coP (kO o a q i k) n)<=B+(s+t+1)
 |0,n=>Nat.le_trans (ho n) ω
 |k+1,n=>by
  rw[kO,tX];split;rw[v6 o a q i k (i+k) ω];have b:=e9 (coP o (i+k)) (a* coP q k);have c:=cx a (coP q k);have e:=ho (i+k);have d:=hq k;omega;exact FQ i ho ha hq k n
theorem uX{p q:Lq}{s t:Nat}(hp:∀n,qs (coP p n)<=s)(hq:∀n,qs (coP q n)<=t):∀i n,qs (coP (fy p q i) n)<=i* (s+t+1)+1
 |0,n=>by
  have:coP (fy p q 0) n=0:=by
   unfold fy coP;rw[List.getD_eq_getElem?_getD,List.getElem?_replicate];split <;> rfl
  rw[this];exact Nat.le_add_left 1 _
 |i+1,n=>by
  rw[fy,Nat.add_mul,Nat.one_mul];split;have:=uX hp hq i n;omega;have:=FQ (B:=i* (s+t+1)+1) i (uX hp hq i) (hp i) hq q.length n;omega
theorem uY{p q:Lq}{s t:Nat}(hp:bdL p s)(hq:bdL q t)(hs:1<=s)(ht:1<=t):bdL (aT p q) (p.length* (s+t+1)+1):=by
 unfold aT;split;intro q hq;cases hq;intro x a;exact fP (uX (ej hp hs) (ej hq ht) p.length) x (cz a)
theorem CvLL.zeros{r:Ren}{hp hp':Hq}(h:Shr r hp hp')(n:Nat):CvLL r hp hp' (List.replicate n zC) (pE (List.replicate n 0)):=by
 induction n with
 |zero=>rfl
 |succ n a=>
  refine⟨qC 0,_,rfl,?_,a⟩;rw[qC0];exact am (Cv.emp _) (am (ao h (ak _)) (am (Cv.emp _) av))
def Bn(o:Lq)(j:Nat)(x:Rat):Lq:=o.set j (coP o j- x)
def fU(o:Lq)(k:Rat)(q:Lq)(n:Nat):Nat->Lq
 |0=>o
 |i+1=>Bn (fU o k q n i) (n+i) (k* coP q i)
def k6(q:Lq)(lead:Rat):Nat->Lq->Lq->Lq×Lq
 |0,u,o=>(u,o)
 |n+1,u,o=>k6 q lead n (u.set n (coP o (n+q.length- 1) / lead)) (if coP o (n+q.length- 1) / lead=0 then o else fU o (coP o (n+q.length- 1) / lead) q n q.length)
def cu(p q:Lq):Lq×Lq:=
 let r:=k6 (ap q) (aI q) ((ap p).length+1- (ap q).length) (List.replicate ((ap p).length+1- (ap q).length) 0) (ap p)
 (ap r.1,ap r.2)
@[simp] theorem zx (o:Lq)(j:Nat)(x:Rat):(Bn o j x).length=o.length:=by simp[Bn]
@[simp] theorem iu (o:Lq)(a:Rat)(q:Lq)(i k:Nat):(fU o a q i k).length=o.length:=by
 induction k with
 |zero=>rfl
 |succ k ih=>rw[fU,zx,ih]
theorem lD(q:Lq)(lead:Rat):∀c u o,(k6 q lead c u o).1.length=u.length/\(k6 q lead c u o).2.length=o.length
 |0,u,o=>⟨rfl,rfl⟩
 |n+1,u,o=>by
  refine⟨(lD q lead n _ _).1.trans ψ,(lD q lead n _ _).2.trans ?_⟩;split <;> simp
theorem vi(o:Lq)(j n:Nat)(x:Rat):coP (o.set j x) n=if n=j/\j< o.length then x else coP o n:=by
 unfold coP;grind
theorem pe(o:Lq)(j n:Nat)(x:Rat):coP (Bn o j x) n=if n=j/\j< o.length then coP o j- x else coP o n:=vi o j n _
theorem nM(o:Lq)(a:Rat)(q:Lq)(i k n:Nat)(h:n< i\/i+k<=n):coP (fU o a q i k) n=coP o n:=by
 induction k with
 |zero=>rfl
 |succ k b=>rw[fU,pe,if_neg ω,b ω]
theorem FT{o:Lq}{a:Rat}{q:Lq}{B s t:Nat}(i:Nat)(ho:∀n,qs (coP o n)<=B)(ha:qs a<=s)(hq:∀n,qs (coP q n)<=t):∀k n,qs (coP (fU o a q i k) n)<=B+(s+t+1)
 |0,n=>Nat.le_trans (ho n) ω
 |k+1,n=>by
  rw[fU,pe];split;rw[nM o a q i k (i+k) ω];have b:=lK (coP o (i+k)) (a* coP q k);have c:=cx a (coP q k);have e:=ho (i+k);have d:=hq k;omega;exact FT i ho ha hq k n
def EP(q:Lq)(lead:Rat)(L c:Nat)(u o:Lq):Prop:=
 ∃B t,(∀n,qs (coP o n)<=B)/\(∀n,qs (coP q n)<=t)/\qs lead<=t/\1<=t/\(∀n,qs (coP u n)<=L)/\2^ c* (B+2* t+1)<=L
theorem CJ{q:Lq}{lead:Rat}{L c:Nat}{u o:Lq}(h:EP q lead L c u o):∃B t,(∀n,qs (coP o n)<=B)/\(∀n,qs (coP q n)<=t)/\qs lead<=t/\B+2* t+1<=L:=by
 obtain⟨B,t,d,b,e,f,g,a⟩:=h;refine⟨B,t,d,b,e,Nat.le_trans ?_ a⟩;have:=Nat.mul_le_mul_right (B+2* t+1) (Nat.one_le_two_pow (n:=c));omega
theorem y5{q:Lq}{lead:Rat}{L n:Nat}{u o:Lq}(h:EP q lead L (n+1) u o):
    EP q lead L n (u.set n (coP o (n+q.length- 1) / lead)) (if coP o (n+q.length- 1) / lead=0 then o else fU o (coP o (n+q.length- 1) / lead) q n q.length):=by
 obtain⟨B,t,d,c,i,g,r,e⟩:=h;obtain⟨k,f⟩:∃k,k=coP o (n+q.length- 1) / lead:=⟨_,rfl⟩
 have b:qs k<=B+t:=by
  have e1:=fL (coP o (n+q.length- 1)) lead;grind
 rw[<-f];obtain⟨W,l⟩:∃W,W=2^ n:=⟨_,rfl⟩;have a:1<=W:=φ
 rw[Nat.pow_succ] at e;have p:W* (2* B+2* t+1+2* t+1)<=L:=φ
 have m:2* B+2* t+1+2* t+1<=L:=by
  have:=Nat.mul_le_mul_right (2* B+2* t+1+2* t+1) a;omega
 refine⟨2* B+2* t+1,t,λj=>?_,c,i,g,λj=>?_,φ⟩;split;have:=d j;omega;have:=FT n d b c q.length j;omega;rw[vi];grind
theorem AQ{q:Lq}{lead:Rat}{L:Nat}:∀{c u o},EP q lead L c u o->(∀n,qs (coP (k6 q lead c u o).1 n)<=L)/\(∀n,qs (coP (k6 q lead c u o).2 n)<=L)
 |0,u,o,h=>by
  obtain⟨B,t,a,e,f,d⟩:=CJ h;obtain⟨_,_,_,_,_,_,b,_⟩:=h;exact⟨b,λn=>Nat.le_trans (a n) ω⟩
 |n+1,u,o,h=>AQ (c:=n) (y5 h)
section
variable {p q:Lq}
def mxL(l:Lq):Nat:=l.foldr (λq n=>max (qs q) n) 1
theorem fh(l:Lq):1<=mxL l:=by
 induction l with
 |nil=>exact Nat.le_refl _
 |cons q l a=>exact Nat.le_trans a (Nat.le_max_right _ _)
theorem fx(l:Lq):bdL l (mxL l):=by
 induction l with
 |nil=>intro q b;grind
 |cons a l c=>
  intro q b;rcases List.mem_cons.1 b with rfl|b
  exact Nat.le_max_left _ _;exact Nat.le_trans (c q b) (Nat.le_max_right _ _)
theorem mxL_le{l:Lq}{n:Nat}(h:bdL l n)(hn:1<=n):mxL l<=n:=by
 induction l with
 |nil=>exact hn
 |cons a l c=>exact Nat.max_le.2 ⟨h a (List.mem_cons_self ..),c λq b=>h q (List.mem_cons_of_mem _ b)⟩
def wt(p q:Lq):Prop:=2^ ((ap p).length+1- (ap q).length) * (mxL p+2* mxL q+1)<=137438953472/\p.length<=274877906944/\q.length<=274877906944
instance (p q:Lq):Decidable (wt p q):=inferInstanceAs (Decidable (_/\_/\_))
theorem EO{s t L:Nat}(hp:bdL p s)(hq:bdL q t)(hs:1<=s)(ht:1<=t)(hq0:ap q≠[])(m:Nat)(h:2^ m* (s+2* t+1)<=L):EP (ap q) (aI q) L m (List.replicate m 0) (ap p):=by
 have b:1<=L:=by
  have d:=Nat.mul_le_mul_right (s+2* t+1) (Nat.one_le_two_pow (n:=m));omega
 have c:=List.length_pos_iff.2 hq0;refine⟨s,t,ej (λx a=>hp x (cz a)) hs,ej (λx a=>hq x (cz a)) ht,hq _ (cz (List.mem_of_getElem? (dj (n:=(ap q).length- 1) ω))),ht,λn=>?_,h⟩
 have:coP (List.replicate m 0) n=0:=by
  unfold coP;rw[List.getD_eq_getElem?_getD,List.getElem?_replicate];split <;> rfl
 rw[this];exact Nat.le_trans (by decide:qs 0<=1) b
theorem sf{s t L:Nat}(hp:bdL p s)(hq:bdL q t)(hs:1<=s)(ht:1<=t)(hq0:ap q≠[])(h:2^ ((ap p).length+1- (ap q).length) * (s+2* t+1)<=L):bdL (cu p q).1 L/\bdL (cu p q).2 L:=by
 have:=AQ (EO hp hq hs ht hq0 _ h);exact⟨λx a=>fP this.1 x (cz a),λx a=>fP this.2 x (cz a)⟩
theorem AS(h:wt p q)(hq0:ap q≠[]):smL (cu p q).1/\smL (cu p q).2:=
 have:=sf (fx p) (fx q) (fh p) (fh q) hq0 h.1
 ⟨io this.1 (Nat.le_refl _),io this.2 (Nat.le_refl _)⟩
theorem oq:(cu p q).1.length<=p.length+1/\(cu p q).2.length<=p.length:=by
 have a:=lD (ap q) (aI q) ((ap p).length+1- (ap q).length) (List.replicate ((ap p).length+1- (ap q).length) 0) (ap p);have d:=bh p;have c:=bh (k6 (ap q) (aI q) ((ap p).length+1- (ap q).length) (List.replicate ((ap p).length+1- (ap q).length) 0) (ap p)).1;have b:=bh (k6 (ap q) (aI q) ((ap p).length+1- (ap q).length) (List.replicate ((ap p).length+1- (ap q).length) 0) (ap p)).2;rw[a.1,List.length_replicate] at c;rw[a.2] at b;exact⟨by unfold cu;simp only;omega,by unfold cu;simp only;omega⟩
theorem dW(p:Lq)(k:Rat):(aR p k).length<=p.length:=by
 have:=bh (aN p.length λi=>coP p i* k);simpa[aR] using this
theorem mQ(p:Lq):(ce p).length<=p.length:=by
 unfold ce;split;simp;exact dW _ _
def ld:Nat->Lq->Lq->Option Lq
 |0,_,_=>none
 |f+1,p,q=>if ap q=[] then(if smL p then some (ce p) else none) else if wt p q then ld f q (ce (cu p q).2) else none
end
def an:Lq->Rat->Rat
 |[],_=>0
 |a::l,x=>an l x* x+a
def mB(l:Lq)(k:Nat):Option La:=if k< l.length then some [i64 ((l.length- 1- k:Nat):Int),.agg (qC (coP l (l.length- 1- k)))] else none
theorem tO{l:Lq}{k:Nat}(h:k< l.length):l.drop (l.length- (k+1))=coP l (l.length- 1- k)::l.drop (l.length- k):=by
 have a:l.length- (k+1)< l.length:=ω
 rw[List.drop_eq_getElem_cons a,show l.length- (k+1)+1=l.length- k by omega];congr 1;have:=ci a;rw[List.getElem?_eq_getElem a] at this;rw[show l.length- 1- k=l.length- (k+1) by omega];exact Option.some.inj this
theorem iW{x:Rat}{s t:Nat}(hx:qs x<=t):∀{l:Lq},bdL l s->qs (an l x)<=l.length* (s+t+1)+1
 |[],_=>by show qs 0<=_;exact Nat.le_trans (by decide:qs 0<=1) (Nat.le_add_left 1 _)
 |a::l,h=>by
  have c:=iW (l:=l) hx λq b=>h q (List.mem_cons_of_mem _ b);have ha:=h a (List.mem_cons_self ..);have e:=e9 (an l x* x) a;have d:=cx (an l x) x;show qs (an l x* x+a)<=(l.length+1) * (s+t+1)+1;rw[Nat.add_mul,Nat.one_mul];omega
def fM(p:Lq)(x:Rat):Prop:=p.length* (mxL p+qs x+1)+mxL p+qs x+2<=137438953472/\p.length<=274877906944
instance (p:Lq) (x:Rat):Decidable (fM p x):=inferInstanceAs (Decidable (_/\_))
theorem EH{p:Lq}{x:Rat}(h:fM p x)(k:Nat)(hk:k< p.length):qs (an (p.drop (p.length- k)) x)+qs x<=549755813888/\qs (an (p.drop (p.length- k)) x* x)+qs (coP p (p.length- 1- k))<=549755813888:=by
 have d:=iW (t:=qs x) (Nat.le_refl _) (l:=p.drop (p.length- k)) (s:=mxL p) λq a=>fx p q (List.mem_of_mem_drop a);have b:=cx (an (p.drop (p.length- k)) x) x;have f:=ej (fx p) (fh p) (p.length- 1- k);have c:=h.1;have e:(p.drop (p.length- k)).length* (mxL p+qs x+1)<=p.length* (mxL p+qs x+1):=Nat.mul_le_mul_right _ ψ;omega
theorem xa{p:Lq}{x:Rat}(h:fM p x):sm (an p x):=by
 have a:=iW (t:=qs x) (Nat.le_refl _) (fx p);have b:=h.1;unfold sm;omega
abbrev Sp:=Rat×Rat
def BI(a b:Sp):Lq:=[a.1* b.1,a.1* b.2,a.2* b.1,a.2* b.2]
def vL(a b:Sp):Sp:=(DX (BI a b),gQ (BI a b))
def FE(a b:Sp):Sp:=(a.1+b.1,a.2+b.2)
def smS(a:Sp):Prop:=sm a.1/\sm a.2
instance (a:Sp):Decidable (smS a):=inferInstanceAs (Decidable (_/\_))
def ovP(v0 s:Sp):Lq->Sp
 |[]=>v0
 |a::l=>FE (vL (ovP v0 s l) s) (a,a)
def HH(v0 s:Sp):Lq->Prop
 |[]=>smS v0
 |a::l=>HH v0 s l/\smL (BI (ovP v0 s l) s)/\sm a/\smS (FE (vL (ovP v0 s l) s) (a,a))
instance okOv_dec (v0 s:Sp):(l:Lq)->Decidable (HH v0 s l)
 |[]=>inferInstanceAs (Decidable (smS v0))
 |a::l=> @instDecidableAnd _ _ (okOv_dec v0 s l) (inferInstanceAs (Decidable (_/\_/\_)))
theorem okOv_sm{v0 s:Sp}:∀{l:Lq},HH v0 s l->smS (ovP v0 s l)
 |[],h=>h
 |_::_,h=>h.2.2.2
theorem yv{v0 s:Sp}:∀{l:Lq} (n:Nat),HH v0 s l->HH v0 s (l.drop n)
 |_,0,h=>h
 |[],_+1,h=>h
 |_::_,n+1,h=>yv n h.1
def je(p:Lq)(s:Sp):Sp:=if¬fb s.1 s.2<=0\/ap p=[] then(0,0) else ovP (aI p,aI p) s ((ap p).take ((ap p).length- 1))
def z8(p:Lq)(s:Sp):Prop:=smL p/\smS s/\p.length<=274877906944/\HH (aI p,aI p) s ((ap p).take ((ap p).length- 1))
instance (p:Lq) (s:Sp):Decidable (z8 p s):=inferInstanceAs (Decidable (_/\_/\_/\_))
def ls(p q:Lq):Prop:=p.length* (mxL p+mxL q+1)+1<=137438953472/\mxL q<=137438953472/\p.length<=274877906944/\q.length<=274877906944
instance (p q:Lq):Decidable (ls p q):=inferInstanceAs (Decidable (_/\_/\_/\_))
theorem ws{p q:Lq}(h:ls p q):smL (aT p q):=
 io (uY (fx p) (fx q) (fh p) (fh q)) h.1
theorem jX(p q:Lq):(fR p q).length<=max p.length q.length:=by
 have:=bh (aN (max p.length q.length) λi=>coP p i+coP q i);simpa[fR] using this
theorem wz(p q:Lq):(aT p q).length<=p.length+q.length:=by
 unfold aT;split;simp;have:=bh (fy p q p.length);rw[n0] at this;omega
theorem nk(a:Rat):(eM a).length<=1:=bh [a]
def cw(q:Lq):Lq->Lq
 |[]=>[]
 |a::l=>fR (aT (cw q l) q) (eM a)
def ie(q:Lq):Lq->Prop
 |[]=>True
 |a::l=>ie q l/\ls (cw q l) q/\sm a/\(aT (cw q l) q).length<=274877906944
instance okComp_dec (q:Lq):(l:Lq)->Decidable (ie q l)
 |[]=>inferInstanceAs (Decidable True)
 |a::l=> @instDecidableAnd _ _ (okComp_dec q l) (inferInstanceAs (Decidable (_/\_/\_)))
theorem ux{q:Lq}:∀{l:Lq} (n:Nat),ie q l->ie q (l.drop n)
 |_,0,h=>h
 |[],_+1,h=>h
 |_::_,n+1,h=>ux n h.1
section
variable {l:Ln}
abbrev UB:Nat:=32768
def iE(l:Ln):Lc:=l.map fun(d:Nat)=>[i64 d]
def hv(l:Ln):Nat:=ofD UB l.reverse
def zd(n:Nat):Ln:=(aw UB n).reverse
def zZ(z:Int):La:=[i64 (sgZ z),.arr (iE (zd z.natAbs))]
def gI:Ln->Ln
 |[]=>[]
 |d::l=>if d=0 then gI l else d::l
@[simp] theorem tv (l:Ln):(iE l).length=l.length:=by simp[iE]
theorem lL{i d:Nat}(h:l[i]?=some d):(iE l)[i]?=some [i64 d]:=by simp[iE,h]
theorem iE_take(l:Ln)(k:Nat):(iE l).take k=iE (l.take k):=by simp[iE]
theorem oZ(l m:Ln):iE (l++m)=iE l++iE m:=by simp[iE]
theorem pO(l:Ln)(i d:Nat):(iE l).set i [i64 d]=iE (l.set i d):=by simp[iE,List.map_set]
theorem kf(k:Nat):List.replicate k [i64 0]=iE (List.replicate k 0):=by simp[iE]
theorem cY(l:Ln):(iE l).all (·.all AV.one)=true:=by
 simp only[iE,List.all_map,List.all_eq_true];intro d _;rfl
theorem mW(l:Ln):∀e∈iE l,e.length=1:=by intro e a;simp[iE] at a;obtain⟨d,_,rfl⟩:=a;rfl
theorem dY(l:Ln):∀e∈iE l,∀c∈e,Closed c:=by
 intro e a c hc;simp[iE] at a;obtain⟨d,_,rfl⟩:=a;simp at hc;subst hc;exact ak _
theorem fu(l:Ln):Closed (.arr (iE l)):=aK (dY l)
theorem dy(z:Int):∀c∈zZ z,Closed c:=ae (ak _) (ae (fu _) af)
theorem cV(z:Int):Closed (.agg (zZ z)):=aE (dy z)
theorem Dn(m:Ln)(d:Nat):fH (m++[d])=if d=0 then fH m else m++[d]:=by
 induction m with
 |nil=>simp[fH]
 |cons a m b=>
  rw[List.cons_append,fH,b];by_cases hd:d=0;rw[if_pos hd,if_pos hd];rfl;rw[if_neg hd,if_neg hd];cases m <;> rfl
theorem Bo(l:Ln):gI l=(fH l.reverse).reverse:=by
 induction l with
 |nil=>rfl
 |cons d l a=>
  rw[gI,List.reverse_cons,Dn];split;exact a;simp
theorem gw(h:∀d∈l,d< UB):gI l=zd (hv l):=by
 rw[Bo,kH (b:=UB) δ (λd a=>h d (List.mem_reverse.1 a))];rfl
theorem lx(n:Nat):hv (zd n)=n:=by unfold hv zd;rw[List.reverse_reverse,bY δ]
theorem j7(n:Nat):∀d∈zd n,d< UB:=λd a=>dU δ n d (List.mem_reverse.1 a)
theorem c7(n:Nat):(zd n).length=(aw UB n).length:=List.length_reverse
theorem rD(d:Nat)(l:Ln):hv (d::l)=hv l+UB^ l.length* d:=by
 unfold hv;rw[List.reverse_cons,iM,List.length_reverse]
theorem rA(l:Ln)(d:Nat):hv (l++[d])=hv l* UB+d:=by
 unfold hv;simp[ofD];rw[Nat.mul_comm,Nat.add_comm]
theorem wL:hv []=0:=rfl
theorem oD:zd 0=[]:=by unfold zd;rw[cI];rfl
theorem zd_eq_nil{n:Nat}:zd n=[]↔n=0:=by
 unfold zd;rw[List.reverse_eq_nil_iff];exact gi δ
theorem vJ(h:∀d∈l,d< UB):gI l=[]↔hv l=0:=by rw[gw h];exact zd_eq_nil
theorem Fp:zZ 0=[i64 0,.arr []]:=by unfold zZ;show [i64 0,AV.arr (iE (zd 0))]=_;rw[oD];rfl
theorem Gs(h:∀d∈l,d< UB):hv l< UB^ l.length:=by
 have:=fX (b:=UB) (l:=l.reverse) λd a=>h d (List.mem_reverse.1 a);rwa[List.length_reverse] at this
theorem AEval.lenI{P:Program}{id:Nat}{ev:Operand->Option AV}{hp:Hq}{c:Call}{x:Operand}{T:Nat}{d:Nat×Nat}(hc:c.callee= .builtin .len)(ha:c.args= #[x])(ht:c.argTypes= #[T])(hx:ev x=some (.arr (iE l)))(he:eK P T=some d):
    AEval P id ev hp (.call c) ⟨.v (.int .i64 (l.length:Nat)),[]⟩ []:= .len hc ha ht hx (by simp[tl]) he
end
end Go.Abs
