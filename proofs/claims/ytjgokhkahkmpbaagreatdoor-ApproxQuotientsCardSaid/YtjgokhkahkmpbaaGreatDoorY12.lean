/- Part Y12 of the proof. -/
import Derived.Test.YtjgokhkahkmpbaaGreatDoorY11
set_option linter.all false
namespace Go.Abs
section
variable {α:Type}{k d b n:Nat}{l:Ln}
theorem gL(b:Nat)(s:Ln)(v:Nat):ofD b (s++[v])=ofD b s+b^ s.length* v:=by rw[fV];simp[ofD]
theorem dO{l:List α}{x:α}(h:l[k]?=some x):l.take (k+1)=l.take k++[x]:=by
 rw[List.take_add_one,h];rfl
theorem c7(b:Nat)(h:l[k]?=some d):ofD b (l.take (k+1))=ofD b (l.take k)+b^ k* d:=by
 have hk:k< l.length:=(List.getElem?_eq_some_iff.1 h).1;rw[dO h,gL,List.length_take,Nat.min_eq_left ω]
theorem eI(b:Nat)(l:Ln)(k:Nat):ofD b (l.take (k+1))=ofD b (l.take k)+b^ k* (l[k]?.getD 0):=by
 cases h:l[k]? with
 |some d=>exact c7 b h
 |none=>rw[List.getElem?_eq_none_iff] at h;rw[List.take_of_length_le ω,List.take_of_length_le ω];simp
theorem gI(b:Nat)(h:l.length<=k):ofD b (l.take k)=ofD b l:=by rw[List.take_of_length_le h]
theorem kG(b:Nat)(h:l[k]?=some d):ofD b (l.drop k)=d+b* ofD b (l.drop (k+1)):=by
 rw[List.drop_eq_getElem_cons (List.getElem?_eq_some_iff.1 h).1,ofD];grind
theorem px(b:Nat):∀{l:Ln} {j d:Nat} (v:Nat),l[j]?=some d->ofD b (l.set j v)+b^ j* d=ofD b l+b^ j* v
 |[],_,_,_,h=>by grind
 |x::l,0,d,v,h=>by simp at h;simp[ofD];omega
 |x::l,j+1,d,v,h=>by
  simp only[List.getElem?_cons_succ] at h;have:=px b v h;rw[List.set_cons_succ,ofD,ofD];grind
theorem sO{j v:Nat}{p:Nat->Prop}(h:∀d∈l,p d)(hv:p v):∀d∈l.set j v,p d:=φ
theorem Ef{cs vs:List α}(h:vs.length=cs.length):eR cs 0 vs=vs:=by
 apply List.ext_getElem?;intro j;rw[eF];grind
theorem yV{cs vs:List α}(h:vs.length<=cs.length):eR cs 0 vs=vs++cs.drop vs.length:=by
 apply List.ext_getElem?;intro j;rw[eF];grind
theorem yS(s:Ln)(m v i:Nat)(hi:i=s.length):(s++List.replicate (m+1) 0).set i v=(s++[v])++List.replicate m 0:=by
 subst hi;grind
theorem zM(s:Ln)(m i:Nat)(hi:i=s.length):(s++List.replicate (m+1) 0)[i]?=some 0:=φ
theorem cQ{i:Nat}(hb:1< b)(h:(az b n)[i]?=some d):d< b:=dD hb n d (List.mem_of_getElem? h)
theorem CA(h0:0< n)(h:n< MB):az MB n=[n]:=by
 rw[ez δ h0,Nat.div_eq_of_lt h,cz,Nat.mod_eq_of_lt h]
theorem E8(hb:1< b)(n k:Nat):(az b n).drop k=az b (ofD b ((az b n).drop k)):=by
 symm;refine uK hb ⟨λd hd=>dD hb n d (List.mem_of_mem_drop hd),?_⟩;by_cases hk:k< (az b n).length;rw[List.getLast?_drop,if_neg ω];exact rl hb n;grind
theorem sd(hb:1< b):b^ ((az b n).length- 1)<=n\/n=0:=by
 rcases Nat.eq_zero_or_pos n with h|h
 exact .inr h;have hne:az b n≠[]:=λe=>by have:=(fC hb).1 e;omega
 have hl:=rl hb n;obtain⟨s,x,e⟩:∃s x,az b n=s++[x]:=⟨_,_,(List.dropLast_concat_getLast hne).symm⟩;have h1:=bC hb n;rw[e,gL] at h1;rw[e] at hl;simp at hl;rw[e];simp;have:b^ s.length* 1<=b^ s.length* x:=Nat.mul_le_mul_left _ ω;omega
theorem jq{m:Nat}(hb:1< b)(h:(az b m).length< (az b n).length):m< n:=by
 have h1:=fw (b:=b) (dD hb m);rw[bC hb] at h1;rcases sd (n:=n) hb with h2|h2
 have:b^ (az b m).length<=b^ ((az b n).length- 1):=Nat.pow_le_pow_right ω ω;omega;subst h2;rw[cz] at h;grind
theorem zF{m:Nat}(hb:1< b)(h:m<=n):(az b m).length<=(az b n).length:=by
 rcases Nat.lt_or_ge (az b n).length (az b m).length with h1|h1
 have:=jq hb h1;omega;grind
def jQ(n k:Nat):Nat:=ofD MB ((az MB n).drop k)
def vv(n k:Nat):Ln:=(az MB n).take k
theorem tO(n:Nat):jQ n 0=n:=bC δ n
theorem ik(n:Nat):vv n 0=[]:=rfl
theorem Gm(n:Nat):vv n (az MB n).length=az MB n:=List.take_length
theorem mj(h:k<=(az MB n).length):(vv n k).length=k:=by simp[vv,Nat.min_eq_left h]
theorem tP(h:k< (az MB n).length):jQ n (k+1)=jQ n k/ MB/\vv n (k+1)=vv n k++[jQ n k % MB]:=by
 have hd:(az MB n)[k]?=some (az MB n)[k]:=List.getElem?_eq_getElem h;have h1:=kG MB hd;have h2:(az MB n)[k]< MB:=cQ δ hd;constructor;unfold jQ;rw[h1,Nat.add_mul_div_left _ _ δ,Nat.div_eq_of_lt h2];omega;unfold vv jQ;rw[dO hd,h1,Nat.add_mul_mod_self_left,Nat.mod_eq_of_lt h2]
theorem F9(hk:k<=(az MB n).length):jQ n k<=n:=by
 have:=ed MB k _ hk;rw[bC δ] at this;have h2:=Nat.le_mul_of_pos_left (ofD MB ((az MB n).drop k)) (Nat.pow_pos (n:=k) (show 0< MB by decide));unfold jQ;omega
theorem Ga(hk:k<=(az MB n).length):jQ n k=0↔k=(az MB n).length:=by
 constructor;intro e;have:=E8 (b:=MB) δ n k;rw[show ofD MB ((az MB n).drop k)=0 from e,cz,List.drop_eq_nil_iff] at this;omega;intro e;unfold jQ;rw[e,List.drop_length];rfl
end
def fk(a b:Int):Int:=if a< b then -1 else if b< a then 1 else 0
theorem lK{a b:Int}(h:a< b):fk a b= -1:=by simp[fk,h]
theorem nH{a b:Int}(h:b< a):fk a b=1:=by simp[fk];omega
theorem D3{a b:Int}(h:a=b):fk a b=0:=by simp[fk];omega
theorem sX{a b:Int}:fk a b≠0↔a≠b:=by unfold fk;split <;>(try split)<;> omega
theorem nq{b i x y:Nat}{l m:Ln}(hl:∀d∈l,d< b)(hx:l[i]?=some x)(hy:m[i]?=some y)(hd:l.drop (i+1)=m.drop (i+1))(hlt:x< y):ofD b l< ofD b m:=by
 have hi:i< l.length:=(List.getElem?_eq_some_iff.1 hx).1;have hj:i< m.length:=(List.getElem?_eq_some_iff.1 hy).1;rw[ed b i l ω,ed b i m ω,kG b hx,kG b hy,hd]
 have h1:ofD b (l.take i)< b^ i:=by
  have:=fw (b:=b) (l:=l.take i) λd hd=>hl d (List.mem_of_mem_take hd);rwa[List.length_take,Nat.min_eq_left ω] at this
 have h2:b^ i* (x+b* ofD b (m.drop (i+1))+1)<=b^ i* (y+b* ofD b (m.drop (i+1))):=Nat.mul_le_mul_left _ ω;rw[Nat.mul_add _ _ 1] at h2;omega
theorem pL(s t:Ln)(x:Nat)(i:Nat)(hi:i=s.length):(s++x::t)[i]?=some x:=by subst hi;simp
theorem pe(s t:Ln)(x v:Nat)(i:Nat)(hi:i=s.length):(s++x::t).set i v=(s++[v])++t:=by
 subst hi;rw[List.set_append_right _ _ (Nat.le_refl _)];simp
theorem fG{l:Ln}{i x:Nat}(h:l[i]?=some x):l.drop i=x::l.drop (i+1):=by
 rw[List.drop_eq_getElem_cons (List.getElem?_eq_some_iff.1 h).1,(List.getElem?_eq_some_iff.1 h).2]
def iF(b:Nat):Nat->Nat->Ln
 |0,_=>[]
 |n+1,m=>m % b::iF b n (m/ b)
@[simp] theorem jS (b:Nat):∀n m,(iF b n m).length=n
 |0,_=>rfl
 |n+1,m=>by simp[iF,jS b n]
theorem sC{b:Nat}(hb:0< b):∀n m,∀d∈iF b n m,d< b
 |0,_,d,h=>by cases h
 |n+1,m,d,h=>by
  rcases List.mem_cons.1 h with rfl|h
  exact Nat.mod_lt _ hb;exact sC hb n _ d h
theorem py{b:Nat}(hb:0< b):∀{n m:Nat},m< b^ n->ofD b (iF b n m)=m
 |0,m,h=>by simp at h;subst h;rfl
 |n+1,m,h=>by
  rw[iF,ofD,py hb (by rw[Nat.div_lt_iff_lt_mul hb];exact h)];exact Nat.mod_add_div m b
theorem zk{b:Nat}:∀{l:Ln},(∀d∈l,d< b)->iF b l.length (ofD b l)=l
 |[],_=>rfl
 |d::l,h=>by
  have hd:=h d (List.mem_cons_self ..);have h1:ofD b (d::l) % b=d:=by rw[ofD,Nat.add_mul_mod_self_left];exact Nat.mod_eq_of_lt hd
  have h2:ofD b (d::l) / b=ofD b l:=by rw[ofD,Nat.add_mul_div_left _ _ ω,Nat.div_eq_of_lt hd];omega
  rw[List.length_cons,iF,h1,h2,zk λx hx=>h x (List.mem_cons_of_mem _ hx)]
theorem x9{b n m:Nat}{l:Ln}(h:∀d∈l,d< b)(hl:l.length=n)(hv:ofD b l=m):l=iF b n m:=by
 subst hl hv;exact(zk h).symm
theorem Eg{v:Nat}(h1:1<=v)(h2:v< 1000000000):500000000<=v* (1000000000/ (v+1))/\(v+1) * (1000000000/ (v+1))<=1000000000/\1<=1000000000/ (v+1):=by
 have hq1:(v+1) * (1000000000/ (v+1))<=1000000000:=Nat.mul_div_le _ _;have hq2:1000000000< (v+1) * (1000000000/ (v+1))+(v+1):=Nat.lt_mul_div_succ _ ω;have hq3:1<=1000000000/ (v+1):=φ
 refine⟨?_,hq1,hq3⟩;obtain⟨q,hq⟩:∃q,q=1000000000/ (v+1):=⟨_,rfl⟩;rw[<-hq] at hq1 hq2 hq3⊢;rw[Nat.add_mul] at hq1 hq2;by_cases c1:500000000<=v;have:=Nat.mul_le_mul_left v hq3;omega;by_cases c2:250000000<=v;have:2<=q:=φ
 have:=Nat.mul_le_mul_left v this;omega;by_cases c3:166666666<=v
 have:4<=q:=by
  rw[hq,Nat.le_div_iff_mul_le ω];omega
 have:=Nat.mul_le_mul_left v this;omega;by_cases c4:v=1;subst c4;omega
 have:q<=333333333:=by
  have:1000000000/ (v+1)<=1000000000/ 3:=Nat.div_le_div_left ω ω;omega
 omega
theorem G8{b n p w u v lo lw:Nat}(hb:0< b)(hp:p=lo+b^ n* u)(hlo:lo< b^ n)(hw:w=lw+b^ n* v)(hlw:lw< b^ n)(hv:b<=2* v)(hvb:v< b)(hq:p< w* b):
    p/ w<=min (u/ v) (b- 1)/\min (u/ v) (b- 1)<=p/ w+2:=by
 have hvp:0< v:=ω
 have hbn:0< b^ n:=Nat.pow_pos hb;have hwp:0< w:=φ
 have q1:w* (p/ w)<=p:=Nat.mul_div_le _ _;have q2:p< w* (p/ w)+w:=Nat.lt_mul_div_succ _ hwp;have q3:p/ w< b:=by rw[Nat.div_lt_iff_lt_mul hwp,Nat.mul_comm];grind
 obtain⟨q,hqe⟩:∃q,q=p/ w:=⟨_,rfl⟩;rw[<-hqe] at q1 q2 q3⊢;have g1:v* (u/ v)<=u:=Nat.mul_div_le _ _;obtain⟨g,hge⟩:∃g,g=u/ v:=⟨_,rfl⟩;rw[<-hge] at g1;constructor;refine Nat.le_min.2 ⟨?_,ω⟩;rw[<-hge,hge,Nat.le_div_iff_mul_le hvp]
 -- q v<=u,for q v b^n<=q w<=p< (u+1) b^n
 have h1:b^ n* (q* v)<=w* q:=by rw[hw,Nat.add_mul,Nat.mul_assoc,Nat.mul_comm v q];omega
 have h2:b^ n* (q* v)< b^ n* (u+1):=φ
 have:=Nat.lt_of_mul_lt_mul_left h2;omega;rw[<-hge]
 -- if min g (b- 1)≥q+3 then(q+3) v<=u and so p≥b^n (q+3) v,but p< w (q+1)
 refine Nat.le_of_not_lt λhlt=>?_;have hg3:q+3<=g:=φ
 have hb3:q+3<=b- 1:=φ
 have h1:v* (q+3)<=u:=Nat.le_trans (Nat.mul_le_mul_left _ hg3) g1;have h2:b^ n* (v* (q+3))<=p:=by rw[hp];have:=Nat.mul_le_mul_left (b^ n) h1;omega
 have h3:w* (q+1)< b^ n* ((v+1) * (q+1))+1:=by
  have:w<=b^ n* (v+1):=φ
  have:=Nat.mul_le_mul_right (q+1) this;grind
 have h4:p< w* (q+1):=φ
 have h5:b^ n* (v* (q+3))< b^ n* ((v+1) * (q+1)):=ω
 have h6:=Nat.lt_of_mul_lt_mul_left h5;grind
section
variable {U v n L s b k:Nat}{R T:Ln}
structure DivI (U v n L:Nat)(R T:Ln)(k:Nat):Prop where
 len:R.length=L
 dig:∀d∈R,d< MB
 digT:∀d∈T,d< MB
 k_le:k+n+T.length=L
 val:U=ofD MB R+v* (MB^ k* ofD MB T)
 top:ofD MB (R.drop k)< v
theorem DivI.start(hR:R.length=L)(hd:∀d∈R,d< MB)(hU:ofD MB R=U)(hn:n<=L)(hb:MB^ (n- 1)<=b)(hn1:1<=n)(hv:v=b* s)(hlt:U< MB^ (L- 1) * s):DivI U v n L R [] (L- n):=by
 refine⟨hR,hd,ψ,φ,by simp[ofD,hU],?_⟩;have h1:=ed MB (L- n) R ω;have h3:MB^ (L- 1)=MB^ (L- n) * MB^ (n- 1):=by rw[<-Nat.pow_add];grind
 rw[h3,Nat.mul_assoc] at hlt;have h4:MB^ (L- n) * ofD MB (R.drop (L- n))< MB^ (L- n) * (MB^ (n- 1) * s):=ω
 have h5:=Nat.lt_of_mul_lt_mul_left h4;have h6:MB^ (n- 1) * s<=b* s:=Nat.mul_le_mul_right _ hb;omega
theorem DivI.parts(h:DivI U v n L R T (k+1))(hv:v< MB^ n):
    ofD MB (R.drop (k+n+1))=0/\ofD MB ((R.drop k).take (n+1))=ofD MB (R.drop k)/\ofD MB (R.drop k)< v* MB/\((R.drop k).take (n+1)).length=n+1/\R=R.take k++(R.drop k).take (n+1)++R.drop (k+n+1):=by
 have hl:=h.k_le;have hlen:=h.len;have hk:k< R.length:=ω
 obtain⟨x,hx⟩:∃x,R[k]?=some x:=⟨_,List.getElem?_eq_getElem hk⟩;have hx1:x< MB:=h.dig x (List.mem_of_getElem? hx);have e1:=kG MB hx;have htop:=h.top;have e2:=ed MB n (R.drop (k+1)) φ;rw[List.drop_drop,show k+1+n=k+n+1 by omega] at e2
 have hz:ofD MB (R.drop (k+n+1))=0:=by
  rcases Nat.eq_zero_or_pos (ofD MB (R.drop (k+n+1))) with h0|h0
  exact h0;have:MB^ n* 1<=MB^ n* ofD MB (R.drop (k+n+1)):=Nat.mul_le_mul_left _ h0;omega
 have e3:=ed MB (n+1) (R.drop k) φ;rw[List.drop_drop,show k+(n+1)=k+n+1 by omega,hz] at e3;refine⟨hz,ω,?_,φ,?_⟩;have:MB* (ofD MB (R.drop (k+1))+1)<=MB* v:=Nat.mul_le_mul_left _ htop;rw[Nat.mul_add] at this;rw[Nat.mul_comm v MB];omega;rw[List.append_assoc]
 conv=>lhs;rw[<-List.take_append_drop k R]
 conv=>lhs;rw[<-List.take_append_drop (n+1) (R.drop k)]
 rw[List.drop_drop,show k+(n+1)=k+n+1 by omega]
theorem DivI.next{A:Ln}(h:DivI U v n L R T (k+1))(hv:v< MB^ n)(hv0:0< v)(hA:A=iF MB (n+1) (ofD MB (R.drop k) % v)):
    DivI U v n L (R.take k++A++R.drop (k+n+1)) (ofD MB (R.drop k) / v::T) k:=by
 obtain⟨p1,p2,p3,p4,p5⟩:=h.parts hv;have hl:=h.k_le;have hlen:=h.len
 have hm:ofD MB (R.drop k) % v< MB^ (n+1):=by
  have:=Nat.mod_lt (ofD MB (R.drop k)) hv0;have h2:MB^ n<=MB^ (n+1):=Nat.pow_le_pow_right δ ω;omega
 have hAl:A.length=n+1:=by rw[hA];simp
 have hAv:ofD MB A=ofD MB (R.drop k) % v:=by rw[hA];exact py δ hm
 have hk:(R.take k).length=k:=χ
 have hval:ofD MB (R.take k++A++R.drop (k+n+1))=ofD MB (R.take k)+MB^ k* (ofD MB (R.drop k) % v):=by
  rw[fV,fV,p1,hk,hAv];simp
 refine⟨by simp[hAl];omega,?_,?_,χ,?_,?_⟩;intro d hd;rcases List.mem_append.1 hd with hd|hd
 rcases List.mem_append.1 hd with hd|hd
 exact h.dig d (List.mem_of_mem_take hd);rw[hA] at hd;exact sC δ _ _ d hd;exact h.dig d (List.mem_of_mem_drop hd);intro d hd;rcases List.mem_cons.1 hd with rfl|hd
 rw[Nat.div_lt_iff_lt_mul hv0,Nat.mul_comm];exact p3;exact h.digT d hd;rw[hval,ofD,h.val,ed MB k R ω,Nat.pow_succ];have e:=Nat.mod_add_div (ofD MB (R.drop k)) v
 have e2:MB^ k* (ofD MB (R.drop k) % v)+v* (MB^ k* (ofD MB (R.drop k) / v))=MB^ k* ofD MB (R.drop k):=by
  rw[Nat.mul_left_comm,<-Nat.mul_add,e]
 rw[Nat.mul_add,Nat.mul_add,<-Nat.mul_assoc (MB^ k) MB];omega;rw[List.append_assoc,List.drop_append,hk,Nat.sub_self,List.drop_zero,List.drop_of_length_le ω,List.nil_append,fV,p1,hAv];simp;exact Nat.mod_lt _ hv0
theorem DivI.last{a:Nat}(h:DivI U v n L R T 0)(hU:U=a* s)(hv:v=b* s)(hb:0< b)(hs:0< s):ofD MB T=a/ b/\ofD MB R/ s=a % b:=by
 have h1:=h.val;have h2:=h.top;rw[List.drop_zero,hv] at h2;rw[Nat.pow_zero,Nat.one_mul,hU,hv] at h1
 have hq:ofD MB T=a/ b:=by
  have e1:a/ b=a* s/ (b* s):=(Nat.mul_div_mul_right a b hs).symm;rw[e1,h1,Nat.add_mul_div_left _ _ (Nat.mul_pos hb hs),Nat.div_eq_of_lt h2];omega
 have e2:ofD MB R=(a % b) * s:=by
  rw[hq] at h1
  have e3:a* s=(a % b) * s+b* s* (a/ b):=by
   conv=>lhs;rw[<-Nat.mod_add_div a b]
   grind
  omega
 simp_all
theorem AA(hl:(az MB n).length=k+1){d:Nat}(hd:(az MB n)[k]?=some d):∃lo,n=lo+MB^ k* d/\lo< MB^ k:=by
 refine⟨ofD MB ((az MB n).take k),?_,?_⟩;have h1:=c7 MB hd;rw[<-hl,List.take_length,bC δ] at h1;exact h1;have:=fw (b:=MB) (l:=(az MB n).take k) λd hd=>dD δ n d (List.mem_of_mem_take hd);grind
theorem Cw{vt:Nat}(hl:(az MB b).length=k+1)(hvt:(az MB b)[k]?=some vt)(h0:1<=vt)(h1:500000000<=vt* s)(h2:(vt+1) * s<=1000000000):
    (az MB (b* s)).length=k+1/\MB^ k<=b/\b* s< MB^ (k+1)/\∃v lw,(az MB (b* s))[k]?=some v/\b* s=lw+MB^ k* v/\lw< MB^ k/\500000000<=v/\v< 1000000000:=by
 obtain⟨lo,e1,e2⟩:=AA hl hvt
 have hb1:MB^ k<=b:=by
  have:=Nat.mul_le_mul_left (MB^ k) h0;omega
 have hb2:b< MB^ k* (vt+1):=φ
 have hs0:0< s:=φ
 have hv2:b* s< MB^ (k+1):=by
  have h3:b* s< MB^ k* (vt+1) * s:=Nat.mul_lt_mul_of_pos_right hb2 hs0;have h4:MB^ k* ((vt+1) * s)<=MB^ k* MB:=Nat.mul_le_mul_left _ h2;grind
 have hv1:MB^ k* 500000000<=b* s:=by
  have h3:MB^ k* vt* s<=b* s:=Nat.mul_le_mul_right _ ω;have h4:MB^ k* 500000000<=MB^ k* (vt* s):=Nat.mul_le_mul_left _ h1;grind
 have hlen:(az MB (b* s)).length=k+1:=by
  have u1:=eJ (b:=MB) δ hv2
  have u2:k< (az MB (b* s)).length:=by
   refine Nat.lt_of_not_le λhle=>?_;have:=fw (b:=MB) (dD δ (b* s));rw[bC δ] at this;have h5:MB^ (az MB (b* s)).length<=MB^ k:=Nat.pow_le_pow_right δ hle;omega
  omega
 obtain⟨v,hv⟩:∃v,(az MB (b* s))[k]?=some v:=⟨_,List.getElem?_eq_getElem ω⟩;obtain⟨lw,f1,f2⟩:=AA hlen hv;refine⟨hlen,hb1,hv2,v,lw,hv,f1,f2,?_,cQ δ hv⟩;have h6:MB^ k* 500000000< MB^ k* (v+1):=φ
 have:=Nat.lt_of_mul_lt_mul_left h6;omega
theorem Gs{A:Ln}{x0 x1:Nat}(hA:A.length=k+2)(h0:A[k]?=some x0)(h1:A[k+1]?=some x1)(hd:∀d∈A,d< MB):∃lo,ofD MB A=lo+MB^ k* (x1* 1000000000+x0)/\lo< MB^ k:=by
 refine⟨ofD MB (A.take k),?_,?_⟩;have e1:=c7 MB h1;rw[show k+1+1=A.length by omega,List.take_length] at e1;rw[e1,c7 MB h0,Nat.pow_succ,Nat.mul_add,Nat.mul_assoc];have:MB^ k* (MB* x1)=MB^ k* (x1* 1000000000):=φ
 omega;have:=fw (b:=MB) (l:=A.take k) λd h=>hd d (List.mem_of_mem_take h);grind
end
section
variable {n:Int}{d k:Nat}
def zI(z:Int):La:=[mag z.natAbs,bln (decide (z< 0))]
def qC(q:Rat):La:=[mag q.num.natAbs,bln (decide (q.num< 0)),mag (q.den- 1)]
def sgn(b:Bool)(m:Nat):Int:=if b then -(m:Int) else m
theorem wA(z:Int):∀c∈zI z,Closed c:=ae (cg _) (ae (ag _) ai)
theorem bo(q:Rat):∀c∈qC q,Closed c:=ae (cg _) (ae (ag _) (ae (cg _) ai))
theorem iu(z:Int):Closed (.agg (zI z)):=aN (wA z)
theorem aS(q:Rat):Closed (.agg (qC q)):=aN (bo q)
theorem closed_mA(n:Nat):Closed (.agg [mag n]):=aN (ae (cg n) ai)
theorem fq(b:Bool)(m:Nat):(sgn b m).natAbs=m:=by unfold sgn;grind
theorem sgn_neg(b:Bool)(m:Nat):decide (sgn b m< 0)=(b && !(m==0)):=by
 unfold sgn;grind
theorem pc(z:Int):sgn (decide (z< 0)) z.natAbs=z:=by
 unfold sgn;grind
def qs(q:Rat):Nat:=max (bl q.num.natAbs) (bl q.den)
theorem kH(hd:0< d):(mkRat n d).num=n/ (Nat.gcd n.natAbs d:Int)/\(mkRat n d).den=d/ Nat.gcd n.natAbs d:=by
 unfold mkRat;rw[dif_neg ω,Rat.normalize_eq];grind
theorem jp(hd:0< d):(mkRat n d).num=sgn (decide (n< 0)) (n.natAbs/ Nat.gcd n.natAbs d):=by
 rw[(kH hd).1];have hg:0< Nat.gcd n.natAbs d:=Nat.gcd_pos_of_pos_right _ hd;obtain⟨k,hk⟩:=Nat.gcd_dvd_left n.natAbs d;generalize Nat.gcd n.natAbs d=g at hg hk⊢;rw[hk,Nat.mul_div_cancel_left _ hg];unfold sgn;split
 ·rename_i h
  have:=of_decide_eq_true h;have e:n=(g:Int) * (-(k:Int)):=by rw[Int.mul_neg,<-Int.natCast_mul];omega
  rw[e,Int.mul_ediv_cancel_left _ ω]
 ·have e:n=(g:Int) * (k:Int):=φ
  rw[e,Int.mul_ediv_cancel_left _ ω]
theorem eP(a b:Nat):bl (a/ b)<=bl a:=dL (Nat.div_le_self _ _)
theorem gG(hd:0< d)(h1:bl n.natAbs<=k)(h2:bl d<=k):qs (mkRat n d)<=k:=by
 unfold qs;rw[jp hd,fq,(kH hd).2];exact Nat.max_le.2 ⟨Nat.le_trans (eP _ _) h1,Nat.le_trans (eP _ _) h2⟩
theorem rF(a b:Rat):a+b=mkRat (a.num* b.den+b.num* a.den) (a.den* b.den):=by
 rw[Rat.add_def];unfold mkRat;grind
theorem nn(a b:Rat):a* b=mkRat (a.num* b.num) (a.den* b.den):=by
 rw[Rat.mul_def];unfold mkRat;grind
theorem dB(a:Rat):bl a.num.natAbs<=qs a:=Nat.le_max_left _ _
theorem dp(a:Rat):bl a.den<=qs a:=Nat.le_max_right _ _
theorem Fe{x y:Int}(hx:bl x.natAbs<=k)(hy:bl y.natAbs<=k):bl (x+y).natAbs<=k+1:=by
 have h1:=dL (Int.natAbs_add_le x y);have h2:=yy x.natAbs y.natAbs;omega
theorem eC{x y:Int}{j:Nat}(hx:bl x.natAbs<=j)(hy:bl y.natAbs<=k):bl (x* y).natAbs<=j+k:=by
 rw[Int.natAbs_mul];have:=gV x.natAbs y.natAbs;omega
theorem rD(a b:Rat):bl (a.num* b.den+b.num* a.den).natAbs<=qs a+qs b+1/\bl (a.den* b.den)<=qs a+qs b:=by
 have h1:=dB a;have h2:=dp a;have h3:=dB b;have h4:=dp b;refine⟨Fe (eC h1 φ) ?_,?_⟩;have:=eC (x:=b.num) (y:=a.den) h3 (by simpa using h2);omega;have:=gV a.den b.den;omega
theorem qK(a b:Rat):bl (a.num* b.num).natAbs<=qs a+qs b/\bl (a.den* b.den)<=qs a+qs b:=by
 have h1:=dB a;have h2:=dp a;have h3:=dB b;have h4:=dp b;refine⟨eC h1 h3,?_⟩;have:=gV a.den b.den;omega
theorem kN(a b:Rat):0< a.den* b.den:=Nat.mul_pos a.den_pos b.den_pos
theorem qD(a b:Rat):qs (a+b)<=qs a+qs b+1:=by
 rw[rF];have h:=rD a b;exact gG (kN a b) h.1 ω
theorem eV(a b:Rat):qs (a* b)<=qs a+qs b:=by
 rw[nn];have h:=qK a b;exact gG (kN a b) h.1 h.2
theorem ij(a:Rat):qs (-a)=qs a:=by unfold qs;simp
theorem tT(a b:Rat):qs (a- b)<=qs a+qs b+1:=by
 rw[Rat.sub_eq_add_neg];have:=qD a (-b);rwa[ij] at this
theorem rk(a b:Rat)(hb:b≠0):a/ b=mkRat (a.num* sgn (decide (b.num< 0)) b.den) (a.den* b.num.natAbs):=by
 rw[Rat.div_def,Rat.inv_def]
 conv=>lhs;rw[<-Rat.num_divInt_den a]
 rw[Rat.divInt_mul_divInt];unfold sgn;split
 ·rename_i h
  have h':=of_decide_eq_true h;have hp:0< a.den* b.num.natAbs:=Nat.mul_pos a.den_pos ω;have e:(a.den:Int) * b.num= -((a.den* b.num.natAbs:Nat):Int):=φ
  rw[e,Int.mul_neg];generalize a.den* b.num.natAbs=d at hp⊢;cases d with
  |zero=>omega
  |succ d=>
   rfl
 ·have e:(a.den:Int) * b.num=((a.den* b.num.natAbs:Nat):Int):=φ
  rw[e];rfl
theorem ww(a b:Rat):bl (a.num* sgn (decide (b.num< 0)) b.den).natAbs<=qs a+qs b/\bl (a.den* b.num.natAbs)<=qs a+qs b:=by
 have h1:=dB a;have h2:=dp a;have h3:=dB b;have h4:=dp b;refine⟨eC h1 (by rw[fq];grind),?_⟩;have:=gV a.den b.num.natAbs;omega
theorem fu(a b:Rat):qs (a/ b)<=qs a+qs b:=by
 by_cases hb:b=0;subst hb;rw[Rat.div_def,Rat.inv_zero,Rat.mul_zero];omega;rw[rk a b hb];have h:=ww a b;have hn:b.num≠0:=λh=>hb (Rat.num_eq_zero.1 h);exact gG (Nat.mul_pos a.den_pos ω) h.1 h.2
end
def sm(q:Rat):Prop:=qs q<=137438953472
instance (q:Rat):Decidable (sm q):=inferInstanceAs (Decidable (_<=_))
theorem sm2{a b:Rat}(ha:sm a)(hb:sm b):qs a+qs b<=549755813888:=by unfold sm at ha hb;omega
def sgZ(z:Int):Int:=if z=0 then 0 else if z< 0 then -1 else 1
def dr(a b:Rat):Int:=if a< b then -1 else if a=b then 0 else 1
theorem lf{q:Rat}:sgZ q.num< 0↔q< 0:=by
 unfold sgZ;have h1:q.num=0↔q=0:=Rat.num_eq_zero;have h2:0<=q.num↔0<=q:=Rat.num_nonneg;have h3:q< 0↔¬0<=q:=Rat.not_le.symm;rw[h3,<-h2];split;omega;split <;> omega
theorem sgZ_num_eq{q:Rat}:sgZ q.num=0↔q=0:=by
 unfold sgZ;rw[<-Rat.num_eq_zero];split;simp[*];split <;> simp[*]
theorem tC{q:Rat}:0< sgZ q.num↔0< q:=by
 have h1:= @lf q;have h2:= @sgZ_num_eq q
 have h3:0< q↔¬(q< 0\/q=0):=by
  rw[<-Rat.not_le,Rat.le_iff_lt_or_eq]
 rw[h3,<-h1,<-h2];omega
theorem cmpQ_eq(a b:Rat):dr a b=if a.num* b.den< b.num* a.den then -1 else if a.num* b.den=b.num* a.den then 0 else 1:=by
 unfold dr;have h1:=Rat.lt_iff a b
 have h2:a=b↔a.num* b.den=b.num* a.den:=by
  constructor;rintro rfl;rfl;intro h;have:=(Rat.mkRat_eq_iff (n₁:=a.num) (n₂:=b.num) a.den_nz b.den_nz).2 h;rwa[Rat.mkRat_self,Rat.mkRat_self] at this
 by_cases h:a< b;rw[if_pos h,if_pos (h1.1 h)];rw[if_neg h,if_neg (λx=>h (h1.2 x))];by_cases h':a=b;rw[if_pos h',if_pos (h2.1 h')];rw[if_neg h',if_neg (λx=>h' (h2.2 x))]
def cw(k:Nat):Rat:=mkRat 1 (2^ k)
theorem pz(q:Rat):q.num< 0↔q< 0:=by
 rw[<-lf];unfold sgZ;split;omega;split <;> omega
def c8(q:Rat):Rat:=mkRat q.num.natAbs q.den
theorem sY(q:Rat):c8 q=if q< 0 then -q else q:=by
 unfold c8;by_cases h:q< 0;have hn:q.num< 0:=(pz q).2 h;rw[if_pos h];have e:(q.num.natAbs:Int)=(-q).num:=by rw[Rat.neg_num];omega
 rw[e,<-Rat.neg_den,Rat.mkRat_self];have hn:¬q.num< 0:=λe=>h ((pz q).1 e);rw[if_neg h];have e:(q.num.natAbs:Int)=q.num:=ω
 rw[e,Rat.mkRat_self]
theorem AT(q:Rat):(c8 q).num=(q.num.natAbs:Int):=by
 rw[sY];by_cases h:q< 0;rw[if_pos h,Rat.neg_num];have hn:q.num< 0:=(pz q).2 h;omega;rw[if_neg h];have hn:¬q.num< 0:=λe=>h ((pz q).1 e);omega
theorem AU(q:Rat):(c8 q).den=q.den:=by
 rw[sY];split;exact Rat.neg_den ..;rfl
theorem qC_abs(q:Rat):qC (c8 q)=zI (sgn false q.num.natAbs)++[mag (q.den- 1)]:=by
 unfold qC zI;rw[AT,AU];rfl
def pE(l:Lq):Lc:=l.map qC
def pA(l:Lq):AV:= .arr (pE l)
def spC(a b:Rat):La:=qC a++qC b
@[simp] theorem qC_length (q:Rat):(qC q).length=3:=rfl
@[simp] theorem spC_length (a b:Rat):(spC a b).length=6:=rfl
@[simp] theorem nj (l:Lq):(pE l).length=l.length:=by simp[pE]
theorem cj{l:Lq}{i:Nat}{q:Rat}(h:l[i]?=some q):(pE l)[i]?=some (qC q):=by simp[pE,h]
theorem li(l:Lq)(k:Nat):(pE l).take k=pE (l.take k):=by simp[pE]
theorem vZ(l m:Lq):pE (l++m)=pE l++pE m:=by simp[pE]
theorem j5(l:Lq)(i:Nat)(q:Rat):(pE l).set i (qC q)=pE (l.set i q):=by simp[pE,List.map_set]
theorem cy(l:Lq):(pE l).all (·.all AV.one)=true:=by
 simp only[pE,List.all_map,List.all_eq_true];intro q _;rfl
theorem fl(l:Lq):∀e∈pE l,e.length=3:=by intro e he;simp[pE] at he;obtain⟨q,_,rfl⟩:=he;rfl
theorem aJ(l:Lq):∀e∈pE l,∀c∈e,Closed c:=by
 intro e he c hc;simp[pE] at he;obtain⟨q,_,rfl⟩:=he;exact bo q c hc
theorem aq(l:Lq):Closed (pA l):=aU (aJ l)
theorem cu(a b:Rat):∀c∈spC a b,Closed c:=λc hc=>(List.mem_append.1 hc).elim (bo a c) (bo b c)
theorem bK(a b:Rat):Closed (.agg (spC a b)):=aN (cu a b)
def zC:La:=[.emp,bln false,.emp]
theorem mag0:mag 0= .arr []:=by unfold mag;rw[cz];rfl
theorem qC0:qC 0=[.arr [],bln false,.arr []]:=by
 show [mag 0,bln (decide ((0:Int)< 0)),mag (1- 1)]=_;rw[mag0];rfl
def smL(l:Lq):Prop:=∀q∈l,sm q
instance (l:Lq):Decidable (smL l):=inferInstanceAs (Decidable (∀q∈l,sm q))
def eo(bf:Int->Bool):Lq->Rat
 |[]=>0
 |x::l=>l.foldl (λo y=>if bf (dr y o) then y else o) x
theorem yo(bf:Int->Bool)(l:Lq)(y:Rat):eo bf (l++[y])=if l=[]\/bf (dr y (eo bf l))=true then y else eo bf l:=by
 cases l with
 |nil=>simp[eo]
 |cons x l=>simp[eo,List.foldl_append]
theorem iw{bf:Int->Bool}:∀{l:Lq},smL l->sm (eo bf l)
 |[],_=>(by decide:sm 0)
 |x::l,h=>by
  have key:∀(l:Lq) (o:Rat),sm o->smL l->sm (l.foldl (λo y=>if bf (dr y o) then y else o) o):=by
   intro l
   induction l with
   |nil=>intro o ho _;exact ho
   |cons y l ih=>
    intro o ho hl;refine ih _ ?_ λq hq=>hl q (List.mem_cons_of_mem _ hq);show sm (if bf (dr y o)=true then y else o);split;exact hl y (List.mem_cons_self ..);exact ho
  exact key l x (h x (List.mem_cons_self ..)) λq hq=>h q (List.mem_cons_of_mem _ hq)
def GP(l:Lq):Rat:=eo (λc=>decide (c< 0)) l
def oc(l:Lq):Rat:=eo (λc=>decide (0< c)) l
theorem AEval.lenP{P:Program}{id:Nat}{ev:Operand->Option AV}{hp:Hq}{c:Call}{x:Operand}{T:Nat}{d:Nat×Nat}{l:Lq}(hc:c.callee= .builtin .len)(ha:c.args= #[x])(ht:c.argTypes= #[T])(hx:ev x=some (.arr (pE l)))(he:eg P T=some d):
    AEval P id ev hp (.call c) ⟨.v (.int .i64 (l.length:Nat)),[]⟩ []:= .len hc ha ht hx (by simp[qN]) he
section
variable {l p:Lq}
def aA:Lq->Lq
 |[]=>[]
 |a::l=>match aA l with
  |[]=>if a=0 then [] else [a]
  |b::m=>a::b::m
theorem eA(a:Rat)(l:Lq):aA (a::l)=if aA l=[] then(if a=0 then [] else [a]) else a::aA l:=by
 rw[aA];grind
theorem kY(l:Lq)(a:Rat):aA (l++[a])=if a=0 then aA l else l++[a]:=by
 induction l with
 |nil=>simp[aA]
 |cons b l ih=>
  rw[List.cons_append,eA,ih,eA];by_cases h:a=0;simp only[if_pos h];simp_all
theorem cv(l:Lq):(aA l).length<=l.length:=by
 induction l with
 |nil=>simp[aA]
 |cons a l ih=>rw[eA];grind
theorem qq(l:Lq):aA l=l.take (aA l).length:=by
 induction l with
 |nil=>simp[aA]
 |cons a l ih=>
  rw[eA];grind
theorem dy{q:Rat}(h:q∈aA l):q∈l:=by
 rw[qq] at h;grind
theorem tg{q:Rat}(h:(aA l).getLast?=some q):q≠0:=by
 induction l with
 |nil=>simp[aA] at h
 |cons a l ih=>
  rw[eA] at h;grind
theorem ju(l:Lq):aA (aA l)=aA l:=by
 rcases List.eq_nil_or_concat (aA l) with h|⟨m,q,h⟩
 rw[h];rfl;have hq:q≠0:=tg (l:=l) φ;rw[h,List.concat_eq_append,kY,if_neg hq]
theorem tu(h:smL l):smL (aA l):=λq hq=>h q (dy hq)
def db(l:Lq):Int:=(aA l).length- 1
def bu(l:Lq):Rat:=(aA l).getLastD 0
theorem pD(h:aA l≠[]):bu l≠0:=by
 refine tg (l:=l) (q:=(aA l).getLastD 0) ?_;rw[List.getLastD_eq_getLast?];cases hl:(aA l).getLast? with
 |none=>simp_all
 |some q=>rfl
theorem v8(h:aA l=[]):bu l=0:=by unfold bu;grind
theorem gq{n:Nat}(h:(aA l).length=n+1):(aA l)[n]?=some (bu l):=by
 unfold bu;grind
theorem ug(h:smL l):sm (bu l):=by
 by_cases h0:aA l=[];rw[v8 h0];decide;obtain⟨n,hn⟩:∃n,(aA l).length=n+1:=⟨(aA l).length- 1,by have:=List.length_pos_iff.2 h0;omega⟩;exact h _ (dy (List.mem_of_getElem? (gq hn)))
def aH(n:Nat)(f:Nat->Rat):Lq:=(List.range n).map f
@[simp] theorem jP (n:Nat)(f:Nat->Rat):(aH n f).length=n:=by simp[aH]
def coP(p:Lq)(i:Nat):Rat:=p.getD i 0
def lR(p q:Lq):Lq:=aA (aH (max p.length q.length) λi=>coP p i+coP q i)
def cI(p:Lq)(k:Rat):Lq:=aA (aH p.length λi=>coP p i* k)
def gz(p q:Lq):Lq:=lR p (cI q (-1))
def fY(a:Rat):Lq:=aA [a]
def fc(p:Lq):Lq:=aA (aH (p.length- 1) λi=>coP p (i+1) * ((i+1:Nat):Int))
def j7(p:Lq):Lq:=if aA p=[] then [] else cI p (1/ bu p)
theorem iX(h:smL p)(i:Nat):sm (coP p i):=by
 unfold coP;rw[List.getD_eq_getElem?_getD];cases hi:p[i]? with
 |none=>exact(by decide:sm 0)
 |some q=>exact h q (List.mem_of_getElem? hi)
theorem bJ{i:Nat}(h:i< p.length):p[i]?=some (coP p i):=by
 unfold coP;grind
theorem lJ{i:Nat}(h:p.length<=i):coP p i=0:=by
 unfold coP;grind
theorem b7:∀c∈zC,Closed c:=ae aK (ae (ag _) (ae aK ai))
end
def bdL(l:Lq)(n:Nat):Prop:=∀q∈l,qs q<=n
instance (l:Lq) (n:Nat):Decidable (bdL l n):=inferInstanceAs (Decidable (∀q∈l,qs q<=n))
theorem vj{l:Lq}{n:Nat}(h:bdL l n)(hn:n<=137438953472):smL l:=λq hq=>Nat.le_trans (h q hq) hn
theorem gY{l:Lq}{n:Nat}(h:bdL l n)(hn:1<=n)(i:Nat):qs (coP l i)<=n:=by
 unfold coP;rw[List.getD_eq_getElem?_getD];cases hi:l[i]? with
 |none=>exact Nat.le_trans (by decide:qs 0<=1) hn
 |some q=>exact h q (List.mem_of_getElem? hi)
def AS(o:Lq)(j:Nat)(x:Rat):Lq:=o.set j (coP o j+x)
def jC(o:Lq)(a:Rat)(q:Lq)(i:Nat):Nat->Lq
 |0=>o
 |k+1=>AS (jC o a q i k) (i+k) (a* coP q k)
def eW(p q:Lq):Nat->Lq
 |0=>List.replicate (p.length+q.length- 1) 0
 |i+1=>if coP p i=0 then eW p q i else jC (eW p q i) (coP p i) q i q.length
def ep(p q:Lq):Lq:=if p=[]\/q=[] then [] else aA (eW p q p.length)
@[simp] theorem yC (o:Lq)(j:Nat)(x:Rat):(AS o j x).length=o.length:=by simp[AS]
@[simp] theorem y7 (o:Lq)(a:Rat)(q:Lq)(i k:Nat):(jC o a q i k).length=o.length:=by
 induction k with
 |zero=>rfl
 |succ k ih=>rw[jC,yC,ih]
@[simp] theorem rZ (p q:Lq)(i:Nat):(eW p q i).length=p.length+q.length- 1:=by
 induction i with
 |zero=>simp[eW]
 |succ i ih=>rw[eW];split <;> simp[ih]
theorem rn(o:Lq)(j n:Nat)(x:Rat):coP (AS o j x) n=if n=j/\j< o.length then coP o j+x else coP o n:=by
 unfold AS coP;rw[List.getD_eq_getElem?_getD,List.getElem?_set,List.getD_eq_getElem?_getD,List.getD_eq_getElem?_getD];by_cases h:j=n;subst h;by_cases h2:j< o.length;simp[h2];simp[h2];rw[if_neg h,if_neg ω]
theorem uZ{o:Lq}{n:Nat}(h:∀i,qs (coP o i)<=n):bdL o n:=by
 intro q hq;obtain⟨i,hi,rfl⟩:=List.getElem_of_mem hq;have:=h i;unfold coP at this;rwa[List.getD_eq_getElem?_getD,List.getElem?_eq_getElem hi] at this
theorem tM(o:Lq)(a:Rat)(q:Lq)(i k n:Nat)(h:n< i\/i+k<=n):coP (jC o a q i k) n=coP o n:=by
 induction k with
 |zero=>rfl
 |succ k ih=>rw[jC,rn,if_neg ω,ih ω]
theorem Df{o:Lq}{a:Rat}{q:Lq}{B s t:Nat}(i:Nat)(ho:∀n,qs (coP o n)<=B)(ha:qs a<=s)(hq:∀n,qs (coP q n)<=t):∀k n,qs (coP (jC o a q i k) n)<=B+(s+t+1)
 |0,n=>Nat.le_trans (ho n) ω
 |k+1,n=>by
  rw[jC,rn];split;rw[tM o a q i k (i+k) ω];have h1:=qD (coP o (i+k)) (a* coP q k);have h2:=eV a (coP q k);have h3:=ho (i+k);have h4:=hq k;omega;exact Df i ho ha hq k n
theorem sM{p q:Lq}{s t:Nat}(hp:∀n,qs (coP p n)<=s)(hq:∀n,qs (coP q n)<=t):∀i n,qs (coP (eW p q i) n)<=i* (s+t+1)+1
 |0,n=>by
  have:coP (eW p q 0) n=0:=by
   unfold eW coP;rw[List.getD_eq_getElem?_getD,List.getElem?_replicate];split <;> rfl
  rw[this];exact Nat.le_add_left 1 _
 |i+1,n=>by
  rw[eW,Nat.add_mul,Nat.one_mul];split;have:=sM hp hq i n;omega;have:=Df (B:=i* (s+t+1)+1) i (sM hp hq i) (hp i) hq q.length n;omega
theorem mulP_bd{p q:Lq}{s t:Nat}(hp:bdL p s)(hq:bdL q t)(hs:1<=s)(ht:1<=t):bdL (ep p q) (p.length* (s+t+1)+1):=by
 unfold ep;split;intro q hq;cases hq;intro x hx;exact uZ (sM (gY hp hs) (gY hq ht) p.length) x (dy hx)
theorem CvLL.zeros{r:Ren}{hp hp':Hq}(h:Shr r hp hp')(n:Nat):CvLL r hp hp' (List.replicate n zC) (pE (List.replicate n 0)):=by
 induction n with
 |zero=>rfl
 |succ n ih=>
  refine⟨qC 0,_,rfl,?_,ih⟩;rw[qC0];exact af (Cv.emp _) (af (ah h (ag _)) (af (Cv.emp _) ax))
def C3(o:Lq)(j:Nat)(x:Rat):Lq:=o.set j (coP o j- x)
def jD(o:Lq)(k:Rat)(q:Lq)(n:Nat):Nat->Lq
 |0=>o
 |i+1=>C3 (jD o k q n i) (n+i) (k* coP q i)
def qf(q:Lq)(lead:Rat):Nat->Lq->Lq->Lq×Lq
 |0,u,o=>(u,o)
 |n+1,u,o=>qf q lead n (u.set n (coP o (n+q.length- 1) / lead)) (if coP o (n+q.length- 1) / lead=0 then o else jD o (coP o (n+q.length- 1) / lead) q n q.length)
def kj(p q:Lq):Lq×Lq:=
 let r:=qf (aA q) (bu q) ((aA p).length+1- (aA q).length) (List.replicate ((aA p).length+1- (aA q).length) 0) (aA p)
 (aA r.1,aA r.2)
@[simp] theorem wQ (o:Lq)(j:Nat)(x:Rat):(C3 o j x).length=o.length:=by simp[C3]
@[simp] theorem l9 (o:Lq)(a:Rat)(q:Lq)(i k:Nat):(jD o a q i k).length=o.length:=by
 induction k with
 |zero=>rfl
 |succ k ih=>rw[jD,wQ,ih]
theorem jY(q:Lq)(lead:Rat):∀c u o,(qf q lead c u o).1.length=u.length/\(qf q lead c u o).2.length=o.length
 |0,u,o=>⟨rfl,rfl⟩
 |n+1,u,o=>by
  refine⟨(jY q lead n _ _).1.trans ψ,(jY q lead n _ _).2.trans ?_⟩;split <;> simp
theorem D1(o:Lq)(j n:Nat)(x:Rat):coP (o.set j x) n=if n=j/\j< o.length then x else coP o n:=by
 unfold coP;grind
theorem wz(o:Lq)(j n:Nat)(x:Rat):coP (C3 o j x) n=if n=j/\j< o.length then coP o j- x else coP o n:=D1 o j n _
theorem y8(o:Lq)(a:Rat)(q:Lq)(i k n:Nat)(h:n< i\/i+k<=n):coP (jD o a q i k) n=coP o n:=by
 induction k with
 |zero=>rfl
 |succ k ih=>rw[jD,wz,if_neg ω,ih ω]
theorem Dh{o:Lq}{a:Rat}{q:Lq}{B s t:Nat}(i:Nat)(ho:∀n,qs (coP o n)<=B)(ha:qs a<=s)(hq:∀n,qs (coP q n)<=t):∀k n,qs (coP (jD o a q i k) n)<=B+(s+t+1)
 |0,n=>Nat.le_trans (ho n) ω
 |k+1,n=>by
  rw[jD,wz];split;rw[y8 o a q i k (i+k) ω];have h1:=tT (coP o (i+k)) (a* coP q k);have h2:=eV a (coP q k);have h3:=ho (i+k);have h4:=hq k;omega;exact Dh i ho ha hq k n
def Cz(q:Lq)(lead:Rat)(L c:Nat)(u o:Lq):Prop:=
 ∃B t,(∀n,qs (coP o n)<=B)/\(∀n,qs (coP q n)<=t)/\qs lead<=t/\1<=t/\(∀n,qs (coP u n)<=L)/\2^ c* (B+2* t+1)<=L
theorem Az{q:Lq}{lead:Rat}{L c:Nat}{u o:Lq}(h:Cz q lead L c u o):∃B t,(∀n,qs (coP o n)<=B)/\(∀n,qs (coP q n)<=t)/\qs lead<=t/\B+2* t+1<=L:=by
 obtain⟨B,t,h1,h2,h3,h4,h5,h6⟩:=h;refine⟨B,t,h1,h2,h3,Nat.le_trans ?_ h6⟩;have:=Nat.mul_le_mul_right (B+2* t+1) (Nat.one_le_two_pow (n:=c));omega
theorem wx{q:Lq}{lead:Rat}{L n:Nat}{u o:Lq}(h:Cz q lead L (n+1) u o):
    Cz q lead L n (u.set n (coP o (n+q.length- 1) / lead)) (if coP o (n+q.length- 1) / lead=0 then o else jD o (coP o (n+q.length- 1) / lead) q n q.length):=by
 obtain⟨B,t,h1,h2,h3,h4,h5,h6⟩:=h;obtain⟨k,hk⟩:∃k,k=coP o (n+q.length- 1) / lead:=⟨_,rfl⟩
 have hkb:qs k<=B+t:=by
  have e1:=fu (coP o (n+q.length- 1)) lead;grind
 rw[<-hk];obtain⟨W,hW⟩:∃W,W=2^ n:=⟨_,rfl⟩;have hW1:1<=W:=φ
 rw[Nat.pow_succ] at h6;have h7:W* (2* B+2* t+1+2* t+1)<=L:=φ
 have h8:2* B+2* t+1+2* t+1<=L:=by
  have:=Nat.mul_le_mul_right (2* B+2* t+1+2* t+1) hW1;omega
 refine⟨2* B+2* t+1,t,λj=>?_,h2,h3,h4,λj=>?_,φ⟩;split;have:=h1 j;omega;have:=Dh n h1 hkb h2 q.length j;omega;rw[D1];grind
theorem yc{q:Lq}{lead:Rat}{L:Nat}:∀{c u o},Cz q lead L c u o->(∀n,qs (coP (qf q lead c u o).1 n)<=L)/\(∀n,qs (coP (qf q lead c u o).2 n)<=L)
 |0,u,o,h=>by
  obtain⟨B,t,h1,h2,h3,h6⟩:=Az h;obtain⟨_,_,_,_,_,_,h5,_⟩:=h;exact⟨h5,λn=>Nat.le_trans (h1 n) ω⟩
 |n+1,u,o,h=>yc (c:=n) (wx h)
section
variable {p q:Lq}
def mxL(l:Lq):Nat:=l.foldr (λq n=>max (qs q) n) 1
theorem dR(l:Lq):1<=mxL l:=by
 induction l with
 |nil=>exact Nat.le_refl _
 |cons q l ih=>exact Nat.le_trans ih (Nat.le_max_right _ _)
theorem eb(l:Lq):bdL l (mxL l):=by
 induction l with
 |nil=>intro q hq;grind
 |cons a l ih=>
  intro q hq;rcases List.mem_cons.1 hq with rfl|hq
  exact Nat.le_max_left _ _;exact Nat.le_trans (ih q hq) (Nat.le_max_right _ _)
theorem GK{l:Lq}{n:Nat}(h:bdL l n)(hn:1<=n):mxL l<=n:=by
 induction l with
 |nil=>exact hn
 |cons a l ih=>exact Nat.max_le.2 ⟨h a (List.mem_cons_self ..),ih λq hq=>h q (List.mem_cons_of_mem _ hq)⟩
def zr(p q:Lq):Prop:=2^ ((aA p).length+1- (aA q).length) * (mxL p+2* mxL q+1)<=137438953472/\p.length<=274877906944/\q.length<=274877906944
instance (p q:Lq):Decidable (zr p q):=inferInstanceAs (Decidable (_/\_/\_))
theorem Cy{s t L:Nat}(hp:bdL p s)(hq:bdL q t)(hs:1<=s)(ht:1<=t)(hq0:aA q≠[])(m:Nat)(h:2^ m* (s+2* t+1)<=L):Cz (aA q) (bu q) L m (List.replicate m 0) (aA p):=by
 have hL:1<=L:=by
  have h3:=Nat.mul_le_mul_right (s+2* t+1) (Nat.one_le_two_pow (n:=m));omega
 have hql:=List.length_pos_iff.2 hq0;refine⟨s,t,gY (λx hx=>hp x (dy hx)) hs,gY (λx hx=>hq x (dy hx)) ht,hq _ (dy (List.mem_of_getElem? (gq (n:=(aA q).length- 1) ω))),ht,λn=>?_,h⟩
 have:coP (List.replicate m 0) n=0:=by
  unfold coP;rw[List.getD_eq_getElem?_getD,List.getElem?_replicate];split <;> rfl
 rw[this];exact Nat.le_trans (by decide:qs 0<=1) hL
theorem divP_bd{s t L:Nat}(hp:bdL p s)(hq:bdL q t)(hs:1<=s)(ht:1<=t)(hq0:aA q≠[])(h:2^ ((aA p).length+1- (aA q).length) * (s+2* t+1)<=L):bdL (kj p q).1 L/\bdL (kj p q).2 L:=by
 have:=yc (Cy hp hq hs ht hq0 _ h);exact⟨λx hx=>uZ this.1 x (dy hx),λx hx=>uZ this.2 x (dy hx)⟩
theorem yd(h:zr p q)(hq0:aA q≠[]):smL (kj p q).1/\smL (kj p q).2:=
 have:=divP_bd (eb p) (eb q) (dR p) (dR q) hq0 h.1
 ⟨vj this.1 (Nat.le_refl _),vj this.2 (Nat.le_refl _)⟩
theorem uJ:(kj p q).1.length<=p.length+1/\(kj p q).2.length<=p.length:=by
 have h1:=jY (aA q) (bu q) ((aA p).length+1- (aA q).length) (List.replicate ((aA p).length+1- (aA q).length) 0) (aA p);have h2:=cv p;have h3:=cv (qf (aA q) (bu q) ((aA p).length+1- (aA q).length) (List.replicate ((aA p).length+1- (aA q).length) 0) (aA p)).1;have h4:=cv (qf (aA q) (bu q) ((aA p).length+1- (aA q).length) (List.replicate ((aA p).length+1- (aA q).length) 0) (aA p)).2;rw[h1.1,List.length_replicate] at h3;rw[h1.2] at h4;exact⟨by unfold kj;simp only;omega,by unfold kj;simp only;omega⟩
theorem eB(p:Lq)(k:Rat):(cI p k).length<=p.length:=by
 have:=cv (aH p.length λi=>coP p i* k);simpa[cI] using this
theorem BB(p:Lq):(j7 p).length<=p.length:=by
 unfold j7;split;simp;exact eB _ _
def ED:Nat->Lq->Lq->Option Lq
 |0,_,_=>none
 |f+1,p,q=>if aA q=[] then(if smL p then some (j7 p) else none) else if zr p q then ED f q (j7 (kj p q).2) else none
end
def aO:Lq->Rat->Rat
 |[],_=>0
 |a::l,x=>aO l x* x+a
def kU(l:Lq)(k:Nat):Option La:=if k< l.length then some [i64 ((l.length- 1- k:Nat):Int),.agg (qC (coP l (l.length- 1- k)))] else none
theorem ri{l:Lq}{k:Nat}(h:k< l.length):l.drop (l.length- (k+1))=coP l (l.length- 1- k)::l.drop (l.length- k):=by
 have h1:l.length- (k+1)< l.length:=ω
 rw[List.drop_eq_getElem_cons h1,show l.length- (k+1)+1=l.length- k by omega];congr 1;have:=bJ h1;rw[List.getElem?_eq_getElem h1] at this;rw[show l.length- 1- k=l.length- (k+1) by omega];exact Option.some.inj this
theorem uG{x:Rat}{s t:Nat}(hx:qs x<=t):∀{l:Lq},bdL l s->qs (aO l x)<=l.length* (s+t+1)+1
 |[],_=>by show qs 0<=_;exact Nat.le_trans (by decide:qs 0<=1) (Nat.le_add_left 1 _)
 |a::l,h=>by
  have ih:=uG (l:=l) hx λq hq=>h q (List.mem_cons_of_mem _ hq);have ha:=h a (List.mem_cons_self ..);have h1:=qD (aO l x* x) a;have h2:=eV (aO l x) x;show qs (aO l x* x+a)<=(l.length+1) * (s+t+1)+1;rw[Nat.add_mul,Nat.one_mul];omega
def ea(p:Lq)(x:Rat):Prop:=p.length* (mxL p+qs x+1)+mxL p+qs x+2<=137438953472/\p.length<=274877906944
instance (p:Lq) (x:Rat):Decidable (ea p x):=inferInstanceAs (Decidable (_/\_))
theorem Cq{p:Lq}{x:Rat}(h:ea p x)(k:Nat)(hk:k< p.length):qs (aO (p.drop (p.length- k)) x)+qs x<=549755813888/\qs (aO (p.drop (p.length- k)) x* x)+qs (coP p (p.length- 1- k))<=549755813888:=by
 have h1:=uG (t:=qs x) (Nat.le_refl _) (l:=p.drop (p.length- k)) (s:=mxL p) λq hq=>eb p q (List.mem_of_mem_drop hq);have h2:=eV (aO (p.drop (p.length- k)) x) x;have h3:=gY (eb p) (dR p) (p.length- 1- k);have h4:=h.1;have h5:(p.drop (p.length- k)).length* (mxL p+qs x+1)<=p.length* (mxL p+qs x+1):=Nat.mul_le_mul_right _ ψ;omega
theorem Aq{p:Lq}{x:Rat}(h:ea p x):sm (aO p x):=by
 have h1:=uG (t:=qs x) (Nat.le_refl _) (eb p);have h2:=h.1;unfold sm;omega
abbrev Sp:=Rat×Rat
def zj(a b:Sp):Lq:=[a.1* b.1,a.1* b.2,a.2* b.1,a.2* b.2]
def tp(a b:Sp):Sp:=(GP (zj a b),oc (zj a b))
def C4(a b:Sp):Sp:=(a.1+b.1,a.2+b.2)
def smS(a:Sp):Prop:=sm a.1/\sm a.2
instance (a:Sp):Decidable (smS a):=inferInstanceAs (Decidable (_/\_))
def ovP(v0 s:Sp):Lq->Sp
 |[]=>v0
 |a::l=>C4 (tp (ovP v0 s l) s) (a,a)
def Eo(v0 s:Sp):Lq->Prop
 |[]=>smS v0
 |a::l=>Eo v0 s l/\smL (zj (ovP v0 s l) s)/\sm a/\smS (C4 (tp (ovP v0 s l) s) (a,a))
instance okOv_dec (v0 s:Sp):(l:Lq)->Decidable (Eo v0 s l)
 |[]=>inferInstanceAs (Decidable (smS v0))
 |a::l=> @instDecidableAnd _ _ (okOv_dec v0 s l) (inferInstanceAs (Decidable (_/\_/\_)))
theorem okOv_sm{v0 s:Sp}:∀{l:Lq},Eo v0 s l->smS (ovP v0 s l)
 |[],h=>h
 |_::_,h=>h.2.2.2
theorem v7{v0 s:Sp}:∀{l:Lq} (n:Nat),Eo v0 s l->Eo v0 s (l.drop n)
 |_,0,h=>h
 |[],_+1,h=>h
 |_::_,n+1,h=>v7 n h.1
def ie(p:Lq)(s:Sp):Sp:=if¬dr s.1 s.2<=0\/aA p=[] then(0,0) else ovP (bu p,bu p) s ((aA p).take ((aA p).length- 1))
def xm(p:Lq)(s:Sp):Prop:=smL p/\smS s/\p.length<=274877906944/\Eo (bu p,bu p) s ((aA p).take ((aA p).length- 1))
instance (p:Lq) (s:Sp):Decidable (xm p s):=inferInstanceAs (Decidable (_/\_/\_/\_))
def nT(p q:Lq):Prop:=p.length* (mxL p+mxL q+1)+1<=137438953472/\mxL q<=137438953472/\p.length<=274877906944/\q.length<=274877906944
instance (p q:Lq):Decidable (nT p q):=inferInstanceAs (Decidable (_/\_/\_/\_))
theorem zq{p q:Lq}(h:nT p q):smL (ep p q):=
 vj (mulP_bd (eb p) (eb q) (dR p) (dR q)) h.1
theorem AQ(p q:Lq):(lR p q).length<=max p.length q.length:=by
 have:=cv (aH (max p.length q.length) λi=>coP p i+coP q i);simpa[lR] using this
theorem GN(p q:Lq):(ep p q).length<=p.length+q.length:=by
 unfold ep;split;simp;have:=cv (eW p q p.length);rw[rZ] at this;omega
theorem uT(a:Rat):(fY a).length<=1:=cv [a]
def lX(q:Lq):Lq->Lq
 |[]=>[]
 |a::l=>lR (ep (lX q l) q) (fY a)
def mu(q:Lq):Lq->Prop
 |[]=>True
 |a::l=>mu q l/\nT (lX q l) q/\sm a/\(ep (lX q l) q).length<=274877906944
instance okComp_dec (q:Lq):(l:Lq)->Decidable (mu q l)
 |[]=>inferInstanceAs (Decidable True)
 |a::l=> @instDecidableAnd _ _ (okComp_dec q l) (inferInstanceAs (Decidable (_/\_/\_)))
theorem rW{q:Lq}:∀{l:Lq} (n:Nat),mu q l->mu q (l.drop n)
 |_,0,h=>h
 |[],_+1,h=>h
 |_::_,n+1,h=>rW n h.1
section
variable {l:Ln}
abbrev UB:Nat:=32768
def iE(l:Ln):Lc:=l.map fun(d:Nat)=>[i64 d]
def hv(l:Ln):Nat:=ofD UB l.reverse
def zd(n:Nat):Ln:=(az UB n).reverse
def zZ(z:Int):La:=[i64 (sgZ z),.arr (iE (zd z.natAbs))]
def fK:Ln->Ln
 |[]=>[]
 |d::l=>if d=0 then fK l else d::l
@[simp] theorem qS (l:Ln):(iE l).length=l.length:=by simp[iE]
theorem j8{i d:Nat}(h:l[i]?=some d):(iE l)[i]?=some [i64 d]:=by simp[iE,h]
theorem iE_take(l:Ln)(k:Nat):(iE l).take k=iE (l.take k):=by simp[iE]
theorem nw(l m:Ln):iE (l++m)=iE l++iE m:=by simp[iE]
theorem og(l:Ln)(i d:Nat):(iE l).set i [i64 d]=iE (l.set i d):=by simp[iE,List.map_set]
theorem ji(k:Nat):List.replicate k [i64 0]=iE (List.replicate k 0):=by simp[iE]
theorem cU(l:Ln):(iE l).all (·.all AV.one)=true:=by
 simp only[iE,List.all_map,List.all_eq_true];intro d _;rfl
theorem lC(l:Ln):∀e∈iE l,e.length=1:=by intro e he;simp[iE] at he;obtain⟨d,_,rfl⟩:=he;rfl
theorem dH(l:Ln):∀e∈iE l,∀c∈e,Closed c:=by
 intro e he c hc;simp[iE] at he;obtain⟨d,_,rfl⟩:=he;simp at hc;subst hc;exact ag _
theorem eM(l:Ln):Closed (.arr (iE l)):=aU (dH l)
theorem dV(z:Int):∀c∈zZ z,Closed c:=ae (ag _) (ae (eM _) ai)
theorem dk(z:Int):Closed (.agg (zZ z)):=aN (dV z)
theorem A5(m:Ln)(d:Nat):ff (m++[d])=if d=0 then ff m else m++[d]:=by
 induction m with
 |nil=>simp[ff]
 |cons a m ih=>
  rw[List.cons_append,ff,ih];by_cases hd:d=0;rw[if_pos hd,if_pos hd];rfl;rw[if_neg hd,if_neg hd];cases m <;> rfl
theorem yL(l:Ln):fK l=(ff l.reverse).reverse:=by
 induction l with
 |nil=>rfl
 |cons d l ih=>
  rw[fK,List.reverse_cons,A5];split;exact ih;simp
theorem fD(h:∀d∈l,d< UB):fK l=zd (hv l):=by
 rw[yL,jv (b:=UB) δ (λd hd=>h d (List.mem_reverse.1 hd))];rfl
theorem jT(n:Nat):hv (zd n)=n:=by unfold hv zd;rw[List.reverse_reverse,bC δ]
theorem jb(n:Nat):∀d∈zd n,d< UB:=λd hd=>dD δ n d (List.mem_reverse.1 hd)
theorem cP(n:Nat):(zd n).length=(az UB n).length:=List.length_reverse
theorem pI(d:Nat)(l:Ln):hv (d::l)=hv l+UB^ l.length* d:=by
 unfold hv;rw[List.reverse_cons,gL,List.length_reverse]
theorem pH(l:Ln)(d:Nat):hv (l++[d])=hv l* UB+d:=by
 unfold hv;simp[ofD];rw[Nat.mul_comm,Nat.add_comm]
theorem uj:hv []=0:=rfl
theorem mT:zd 0=[]:=by unfold zd;rw[cz];rfl
theorem zd_eq_nil{n:Nat}:zd n=[]↔n=0:=by
 unfold zd;rw[List.reverse_eq_nil_iff];exact fC δ
theorem tl(h:∀d∈l,d< UB):fK l=[]↔hv l=0:=by rw[fD h];exact zd_eq_nil
theorem CR:zZ 0=[i64 0,.arr []]:=by unfold zZ;show [i64 0,AV.arr (iE (zd 0))]=_;rw[mT];rfl
theorem DG(h:∀d∈l,d< UB):hv l< UB^ l.length:=by
 have:=fw (b:=UB) (l:=l.reverse) λd hd=>h d (List.mem_reverse.1 hd);rwa[List.length_reverse] at this
theorem AEval.lenI{P:Program}{id:Nat}{ev:Operand->Option AV}{hp:Hq}{c:Call}{x:Operand}{T:Nat}{d:Nat×Nat}(hc:c.callee= .builtin .len)(ha:c.args= #[x])(ht:c.argTypes= #[T])(hx:ev x=some (.arr (iE l)))(he:eg P T=some d):
    AEval P id ev hp (.call c) ⟨.v (.int .i64 (l.length:Nat)),[]⟩ []:= .len hc ha ht hx (by simp[qN]) he
end
end Go.Abs
