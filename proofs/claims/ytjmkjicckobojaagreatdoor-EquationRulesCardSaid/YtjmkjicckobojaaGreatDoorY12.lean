/- Part Y12 of the proof. -/
import Derived.Test.YtjmkjicckobojaaGreatDoorY11
set_option linter.all false
namespace Go.Abs
abbrev MB:Nat:=1000000000
def u32(d:Nat):AV:= .v (.int .u32 d)
def i64(z:Int):AV:= .v (.int .i64 z)
def u64(z:Int):AV:= .v (.int .u64 z)
def bln(b:Bool):AV:= .v (.bool b)
def dE(l:Ln):Lc:=l.map λd=>[u32 d]
def mag(n:Nat):AV:= .arr (dE (ax MB n))
@[simp] theorem tI (l:Ln):(dE l).length=l.length:=by simp[dE]
theorem ei{l:Ln}{i d:Nat}(h:l[i]?=some d):(dE l)[i]?=some [u32 d]:=by simp[dE,h]
theorem Hh(l:Ln)(k:Nat):(dE l).take k=dE (l.take k):=by simp[dE]
theorem mj(l m:Ln):dE (l++m)=dE l++dE m:=by simp[dE]
theorem iT(l:Ln)(i d:Nat):(dE l).set i [u32 d]=dE (l.set i d):=by simp[dE,OW]
theorem iU(k:Nat):List.replicate k [u32 0]=dE (List.replicate k 0):=by simp[dE]
theorem fV(l:Ln):(dE l).all (·.all AV.one)=true:=by simp[dE,u32,AV.one];intros;rfl
theorem AP(l:Ln):∀e∈dE l,e.length=1:=by intro e a;simp[dE] at a;obtain⟨d,_,rfl⟩:=a;rfl
theorem cf(l:Ln):∀e∈dE l,∀c∈e,Closed c:=by
 intro e a c b;simp[dE] at a;obtain⟨d,_,rfl⟩:=a;simp at b;subst b;exact ah _
theorem dr(l:Ln):Closed (.arr (dE l)):=aP (cf l)
theorem cz(n:Nat):Closed (mag n):=dr _
theorem af:∀a∈([]:La),Closed a:=λ_ h=>by cases h
theorem ac{a:AV}{l:La}(h:Closed a)(h':∀a∈l,Closed a):∀b∈a::l,Closed b:=by
 intro b hb;rcases pY.1 hb with rfl|hb
 exact h;exact h' b hb
theorem AEval.lenD{P:Program}{id:Nat}{ev:Operand->Option AV}{hp:Hq}{c:Call}{x:Operand}{T:Nat}{d:Nat×Nat}{l:Ln}(hc:c.callee= .builtin .len)(ha:c.args= #[x])(ht:c.argTypes= #[T])(hx:ev x=some (.arr (dE l)))(he:eQ P T=some d):
    AEval P id ev hp (.call c) ⟨.v (.int .i64 (l.length:Nat)),[]⟩ []:= .len hc ha ht hx (by simp[sI]) he
section
variable {α:Type}{k d b n:Nat}{l:Ln}
theorem iM(b:Nat)(s:Ln)(v:Nat):ofD b (s++[v])=ofD b s+b^ s.length* v:=by rw[im];simp[ofD]
theorem cZ{l:List α}{x:α}(h:l[k]?=some x):l.take (k+1)=l.take k++[x]:=by
 rw[NT,h];rfl
theorem dh(b:Nat)(h:l[k]?=some d):ofD b (l.take (k+1))=ofD b (l.take k)+b^ k* d:=by
 have a:k< l.length:=(jY.1 h).1;rw[cZ h,iM,yv,KM ω]
theorem fq(b:Nat)(l:Ln)(k:Nat):ofD b (l.take (k+1))=ofD b (l.take k)+b^ k* (l[k]?.getD 0):=by
 cases h:l[k]? with
 |some d=>exact dh b h
 |none=>rw[List.getElem?_eq_none_iff] at h;rw[nk ω,nk ω];simp
theorem iL(b:Nat)(h:l.length<=k):ofD b (l.take k)=ofD b l:=by rw[nk h]
theorem lS(b:Nat)(h:l[k]?=some d):ofD b (l.drop k)=d+b* ofD b (l.drop (k+1)):=by
 rw[DA (jY.1 h).1,ofD];grind
theorem qy(b:Nat):∀{l:Ln} {j d:Nat} (v:Nat),l[j]?=some d->ofD b (l.set j v)+b^ j* d=ofD b l+b^ j* v
 |[],_,_,_,h=>by grind
 |x::l,0,d,v,h=>by simp at h;simp[ofD];omega
 |x::l,j+1,d,v,h=>by
  simp only[A6] at h;have:=qy b v h;rw[List.set_cons_succ,ofD,ofD];grind
theorem uJ{j v:Nat}{p:Nat->Prop}(h:∀d∈l,p d)(hv:p v):∀d∈l.set j v,p d:=φ
theorem HO{cs vs:List α}(h:vs.length=cs.length):fD cs 0 vs=vs:=by
 apply DE;intro j;rw[fk];grind
theorem Bx{cs vs:List α}(h:vs.length<=cs.length):fD cs 0 vs=vs++cs.drop vs.length:=by
 apply DE;intro j;rw[fk];grind
theorem Bu(s:Ln)(m v i:Nat)(hi:i=s.length):(s++List.replicate (m+1) 0).set i v=(s++[v])++List.replicate m 0:=by
 subst hi;grind
theorem Cf(s:Ln)(m i:Nat)(hi:i=s.length):(s++List.replicate (m+1) 0)[i]?=some 0:=φ
theorem da{i:Nat}(hb:1< b)(h:(ax b n)[i]?=some d):d< b:=er hb n d (mc h)
theorem Fi(h0:0< n)(h:n< MB):ax MB n=[n]:=by
 rw[fM δ h0,Fw h,c8,Fz h]
theorem IS(hb:1< b)(n k:Nat):(ax b n).drop k=ax b (ofD b ((ax b n).drop k)):=by
 symm;refine wT hb ⟨λd a=>er hb n d (Hc a),?_⟩;by_cases hk:k< (ax b n).length;rw[List.getLast?_drop,if_neg ω];exact tG hb n;grind
theorem uf(hb:1< b):b^ ((ax b n).length- 1)<=n\/n=0:=by
 rcases zW n with h|h
 exact .inr h;have a:ax b n≠[]:=λe=>by have:=(jR hb).1 e;omega
 have c:=tG hb n;obtain⟨s,x,e⟩:∃s x,ax b n=s++[x]:=⟨_,_,(Gu a).symm⟩;have d:=bO hb n;rw[e,iM] at d;rw[e] at c;simp at c;rw[e];simp;have:b^ s.length* 1<=b^ s.length* x:=sO _ ω;omega
theorem ko{m:Nat}(hb:1< b)(h:(ax b m).length< (ax b n).length):m< n:=by
 have c:=gi (b:=b) (er hb m);rw[bO hb] at c;rcases uf (n:=n) hb with a|a
 have:b^ (ax b m).length<=b^ ((ax b n).length- 1):=vi ω ω;omega;subst a;rw[c8] at h;grind
theorem B6{m:Nat}(hb:1< b)(h:m<=n):(ax b m).length<=(ax b n).length:=by
 rcases Po (ax b n).length (ax b m).length with a|a
 have:=ko hb a;omega;grind
def k8(n k:Nat):Nat:=ofD MB ((ax MB n).drop k)
def xq(n k:Nat):Ln:=(ax MB n).take k
theorem vM(n:Nat):k8 n 0=n:=bO δ n
theorem je(n:Nat):xq n 0=[]:=rfl
theorem JW(n:Nat):xq n (ax MB n).length=ax MB n:=qj
theorem nA(h:k<=(ax MB n).length):(xq n k).length=k:=by simp[xq,KM h]
theorem vN(h:k< (ax MB n).length):k8 n (k+1)=k8 n k/ MB/\xq n (k+1)=xq n k++[k8 n k % MB]:=by
 have a:(ax MB n)[k]?=some (ax MB n)[k]:=eT h;have c:=lS MB a;have b:(ax MB n)[k]< MB:=da δ a;constructor;unfold k8;rw[c,N4 _ _ δ,Fw b];omega;unfold xq k8;rw[cZ a,c,On,Fz b]
theorem JM(hk:k<=(ax MB n).length):k8 n k<=n:=by
 have:=eF MB k _ hk;rw[bO δ] at this;have a:=NS (ofD MB ((ax MB n).drop k)) (NB (n:=k) (show 0< MB by decide));unfold k8;omega
theorem JN(hk:k<=(ax MB n).length):k8 n k=0↔k=(ax MB n).length:=by
 constructor;intro e;have:=IS (b:=MB) δ n k;rw[show ofD MB ((ax MB n).drop k)=0 from e,c8,List.drop_eq_nil_iff] at this;omega;intro e;unfold k8;rw[e,DJ];rfl
end
def ff(a b:Int):Int:=if a< b then -1 else if b< a then 1 else 0
theorem mW{a b:Int}(h:a< b):ff a b= -1:=by simp[ff,h]
theorem oU{a b:Int}(h:b< a):ff a b=1:=by simp[ff];omega
theorem Hl{a b:Int}(h:a=b):ff a b=0:=by simp[ff];omega
theorem u6{a b:Int}:ff a b≠0↔a≠b:=by unfold ff;split <;>(try split)<;> omega
theorem oD{b i x y:Nat}{l m:Ln}(hl:∀d∈l,d< b)(hx:l[i]?=some x)(hy:m[i]?=some y)(hd:l.drop (i+1)=m.drop (i+1))(hlt:x< y):ofD b l< ofD b m:=by
 have f:i< l.length:=(jY.1 hx).1;have c:i< m.length:=(jY.1 hy).1;rw[eF b i l ω,eF b i m ω,lS b hx,lS b hy,hd]
 have e:ofD b (l.take i)< b^ i:=by
  have:=gi (b:=b) (l:=l.take i) λd hd=>hl d (AG hd);rwa[yv,KM ω] at this
 have a:b^ i* (x+b* ofD b (m.drop (i+1))+1)<=b^ i* (y+b* ofD b (m.drop (i+1))):=sO _ ω;rw[zM _ _ 1] at a;omega
theorem qS(s t:Ln)(x:Nat)(i:Nat)(hi:i=s.length):(s++x::t)[i]?=some x:=by subst hi;simp
theorem qg(s t:Ln)(x v:Nat)(i:Nat)(hi:i=s.length):(s++x::t).set i v=(s++[v])++t:=by
 subst hi;rw[Nw _ _ (ir _)];simp
theorem gI{l:Ln}{i x:Nat}(h:l[i]?=some x):l.drop i=x::l.drop (i+1):=by
 rw[DA (jY.1 h).1,(jY.1 h).2]
def jM(b:Nat):Nat->Nat->Ln
 |0,_=>[]
 |n+1,m=>m % b::jM b n (m/ b)
@[simp] theorem lb (b:Nat):∀n m,(jM b n m).length=n
 |0,_=>rfl
 |n+1,m=>by simp[jM,lb b n]
theorem uE{b:Nat}(hb:0< b):∀n m,∀d∈jM b n m,d< b
 |0,_,d,h=>by cases h
 |n+1,m,d,h=>by
  rcases pY.1 h with rfl|h
  exact EC _ hb;exact uE hb n _ d h
theorem qz{b:Nat}(hb:0< b):∀{n m:Nat},m< b^ n->ofD b (jM b n m)=m
 |0,m,h=>by simp at h;subst h;rfl
 |n+1,m,h=>by
  rw[jM,ofD,qz hb (by rw[DB hb];exact h)];exact MW m b
theorem BN{b:Nat}:∀{l:Ln},(∀d∈l,d< b)->jM b l.length (ofD b l)=l
 |[],_=>rfl
 |d::l,h=>by
  have a:=h d (mu ..);have e:ofD b (d::l) % b=d:=by rw[ofD,On];exact Fz a
  have c:ofD b (d::l) / b=ofD b l:=by rw[ofD,N4 _ _ ω,Fw a];omega
  rw[vX,jM,e,c,BN λx f=>h x (lQ _ f)]
theorem AC{b n m:Nat}{l:Ln}(h:∀d∈l,d< b)(hl:l.length=n)(hv:ofD b l=m):l=jM b n m:=by
 subst hl hv;exact(BN h).symm
theorem HP{v:Nat}(h1:1<=v)(h2:v< 1000000000):500000000<=v* (1000000000/ (v+1))/\(v+1) * (1000000000/ (v+1))<=1000000000/\1<=1000000000/ (v+1):=by
 have a:(v+1) * (1000000000/ (v+1))<=1000000000:=OJ _ _;have c:1000000000< (v+1) * (1000000000/ (v+1))+(v+1):=ON _ ω;have b:1<=1000000000/ (v+1):=φ
 refine⟨?_,a,b⟩;obtain⟨q,d⟩:∃q,q=1000000000/ (v+1):=⟨_,rfl⟩;rw[<-d] at a c b⊢;rw[zu] at a c;by_cases c1:500000000<=v;have:=sO v b;omega;by_cases c2:250000000<=v;have:2<=q:=φ
 have:=sO v this;omega;by_cases c3:166666666<=v
 have:4<=q:=by
  rw[d,OD ω];omega
 have:=sO v this;omega;by_cases c4:v=1;subst c4;omega
 have:q<=333333333:=by
  have:1000000000/ (v+1)<=1000000000/ 3:=OP ω ω;omega
 omega
theorem KQ{b n p w u v lo lw:Nat}(hb:0< b)(hp:p=lo+b^ n* u)(hlo:lo< b^ n)(hw:w=lw+b^ n* v)(hlw:lw< b^ n)(hv:b<=2* v)(hvb:v< b)(hq:p< w* b):
    p/ w<=min (u/ v) (b- 1)/\min (u/ v) (b- 1)<=p/ w+2:=by
 have e:0< v:=ω
 have m:0< b^ n:=NB hb;have c:0< w:=φ
 have q1:w* (p/ w)<=p:=OJ _ _;have q2:p< w* (p/ w)+w:=ON _ c;have q3:p/ w< b:=by rw[DB c,Eg];grind
 obtain⟨q,f⟩:∃q,q=p/ w:=⟨_,rfl⟩;rw[<-f] at q1 q2 q3⊢;have j:v* (u/ v)<=u:=OJ _ _;obtain⟨g,a⟩:∃g,g=u/ v:=⟨_,rfl⟩;rw[<-a] at j;constructor;refine Nat.le_min.2 ⟨?_,ω⟩;rw[<-a,a,OD e]
 -- q v<=u,for q v b^n<=q w<=p< (u+1) b^n
 have i:b^ n* (q* v)<=w* q:=by rw[hw,zu,EB,Eg v q];omega
 have h:b^ n* (q* v)< b^ n* (u+1):=φ
 have:=NH h;omega;rw[<-a]
 -- if min g (b- 1)≥q+3 then(q+3) v<=u and so p≥b^n (q+3) v,but p< w (q+1)
 refine Ez λk=>?_;have d:q+3<=g:=φ
 have o:q+3<=b- 1:=φ
 have i:v* (q+3)<=u:=fo (sO _ d) j;have h:b^ n* (v* (q+3))<=p:=by rw[hp];have:=sO (b^ n) i;omega
 have s:w* (q+1)< b^ n* ((v+1) * (q+1))+1:=by
  have:w<=b^ n* (v+1):=φ
  have:=mC (q+1) this;grind
 have r:p< w* (q+1):=φ
 have l:b^ n* (v* (q+3))< b^ n* ((v+1) * (q+1)):=ω
 have t:=NH l;grind
section
variable {U v n L s b k:Nat}{R T:Ln}
structure DivI (U v n L:Nat)(R T:Ln)(k:Nat):Prop where
 len:R.length=L
 dig:∀d∈R,d< MB
 digT:∀d∈T,d< MB
 k_le:k+n+T.length=L
 val:U=ofD MB R+v* (MB^ k* ofD MB T)
 top:ofD MB (R.drop k)< v
theorem DivI.start(hR:R.length=L)(hd:∀d∈R,d< MB)(hU:ofD MB R=U)(hn:n<=L)(hb:MB^ (n- 1)<=b)(hn1:1<=n)(hv:v=b* s)(hlt:U< MB^ (L- 1) * s):DivI U v n L R [] (L- n):=by
 refine⟨hR,hd,ψ,φ,by simp[ofD,hU],?_⟩;have f:=eF MB (L- n) R ω;have c:MB^ (L- 1)=MB^ (L- n) * MB^ (n- 1):=by rw[<-N3];grind
 rw[c,EB] at hlt;have a:MB^ (L- n) * ofD MB (R.drop (L- n))< MB^ (L- n) * (MB^ (n- 1) * s):=ω
 have g:=NH a;have e:MB^ (n- 1) * s<=b* s:=mC _ hb;omega
theorem DivI.parts(h:DivI U v n L R T (k+1))(hv:v< MB^ n):
    ofD MB (R.drop (k+n+1))=0/\ofD MB ((R.drop k).take (n+1))=ofD MB (R.drop k)/\ofD MB (R.drop k)< v* MB/\((R.drop k).take (n+1)).length=n+1/\R=R.take k++(R.drop k).take (n+1)++R.drop (k+n+1):=by
 have j:=h.k_le;have c:=h.len;have f:k< R.length:=ω
 obtain⟨x,d⟩:∃x,R[k]?=some x:=⟨_,eT f⟩;have i:x< MB:=h.dig x (mc d);have e1:=lS MB d;have a:=h.top;have e2:=eF MB n (R.drop (k+1)) φ;rw[Ph,show k+1+n=k+n+1 by omega] at e2
 have e:ofD MB (R.drop (k+n+1))=0:=by
  rcases zW (ofD MB (R.drop (k+n+1))) with b|b
  exact b;have:MB^ n* 1<=MB^ n* ofD MB (R.drop (k+n+1)):=sO _ b;omega
 have g:=eF MB (n+1) (R.drop k) φ;rw[Ph,show k+(n+1)=k+n+1 by omega,e] at g;refine⟨e,ω,?_,φ,?_⟩;have:MB* (ofD MB (R.drop (k+1))+1)<=MB* v:=sO _ a;rw[zM] at this;rw[Eg v MB];omega;rw[MT]
 conv=>lhs;rw[<-KO k R]
 conv=>lhs;rw[<-KO (n+1) (R.drop k)]
 rw[Ph,show k+(n+1)=k+n+1 by omega]
theorem DivI.next{A:Ln}(h:DivI U v n L R T (k+1))(hv:v< MB^ n)(hv0:0< v)(hA:A=jM MB (n+1) (ofD MB (R.drop k) % v)):
    DivI U v n L (R.take k++A++R.drop (k+n+1)) (ofD MB (R.drop k) / v::T) k:=by
 obtain⟨p1,p2,l,m,o⟩:=h.parts hv;have p:=h.k_le;have i:=h.len
 have j:ofD MB (R.drop k) % v< MB^ (n+1):=by
  have:=EC (ofD MB (R.drop k)) hv0;have q:MB^ n<=MB^ (n+1):=vi δ ω;omega
 have f:A.length=n+1:=by rw[hA];simp
 have c:ofD MB A=ofD MB (R.drop k) % v:=by rw[hA];exact qz δ j
 have g:(R.take k).length=k:=χ
 have b:ofD MB (R.take k++A++R.drop (k+n+1))=ofD MB (R.take k)+MB^ k* (ofD MB (R.drop k) % v):=by
  rw[im,im,p1,g,c];simp
 refine⟨by simp[f];omega,?_,?_,χ,?_,?_⟩;intro d a;rcases n7.1 a with a|a
 rcases n7.1 a with a|a
 exact h.dig d (AG a);rw[hA] at a;exact uE δ _ _ d a;exact h.dig d (Hc a);intro d a;rcases pY.1 a with rfl|a
 rw[DB hv0,Eg];exact l;exact h.digT d a;rw[b,ofD,h.val,eF MB k R ω,D7];have e:=MW (ofD MB (R.drop k)) v
 have e2:MB^ k* (ofD MB (R.drop k) % v)+v* (MB^ k* (ofD MB (R.drop k) / v))=MB^ k* ofD MB (R.drop k):=by
  rw[NQ,<-zM,e]
 rw[zM,zM,<-EB (MB^ k) MB];omega;rw[MT,List.drop_append,g,Nj,sr,List.drop_of_length_le ω,Nf,im,p1,c];simp;exact EC _ hv0
theorem DivI.last{a:Nat}(h:DivI U v n L R T 0)(hU:U=a* s)(hv:v=b* s)(hb:0< b)(hs:0< s):ofD MB T=a/ b/\ofD MB R/ s=a % b:=by
 have c:=h.val;have d:=h.top;rw[sr,hv] at d;rw[Nat.pow_zero,Kk,hU,hv] at c
 have e:ofD MB T=a/ b:=by
  have e1:a/ b=a* s/ (b* s):=(Nat.mul_div_mul_right a b hs).symm;rw[e1,c,N4 _ _ (M7 hb hs),Fw d];omega
 have e2:ofD MB R=(a % b) * s:=by
  rw[e] at c
  have f:a* s=(a % b) * s+b* s* (a/ b):=by
   conv=>lhs;rw[<-MW a b]
   grind
  omega
 simp_all
theorem CZ(hl:(ax MB n).length=k+1){d:Nat}(hd:(ax MB n)[k]?=some d):∃lo,n=lo+MB^ k* d/\lo< MB^ k:=by
 refine⟨ofD MB ((ax MB n).take k),?_,?_⟩;have a:=dh MB hd;rw[<-hl,qj,bO δ] at a;exact a;have:=gi (b:=MB) (l:=(ax MB n).take k) λd hd=>er δ n d (AG hd);grind
theorem Ff{vt:Nat}(hl:(ax MB b).length=k+1)(hvt:(ax MB b)[k]?=some vt)(h0:1<=vt)(h1:500000000<=vt* s)(h2:(vt+1) * s<=1000000000):
    (ax MB (b* s)).length=k+1/\MB^ k<=b/\b* s< MB^ (k+1)/\∃v lw,(ax MB (b* s))[k]?=some v/\b* s=lw+MB^ k* v/\lw< MB^ k/\500000000<=v/\v< 1000000000:=by
 obtain⟨lo,e1,e2⟩:=CZ hl hvt
 have f:MB^ k<=b:=by
  have:=sO (MB^ k) h0;omega
 have e:b< MB^ k* (vt+1):=φ
 have d:0< s:=φ
 have c:b* s< MB^ (k+1):=by
  have l:b* s< MB^ k* (vt+1) * s:=Od e d;have j:MB^ k* ((vt+1) * s)<=MB^ k* MB:=sO _ h2;grind
 have h:MB^ k* 500000000<=b* s:=by
  have l:MB^ k* vt* s<=b* s:=mC _ ω;have j:MB^ k* 500000000<=MB^ k* (vt* s):=sO _ h1;grind
 have a:(ax MB (b* s)).length=k+1:=by
  have u1:=gw (b:=MB) δ c
  have u2:k< (ax MB (b* s)).length:=by
   refine Np λg=>?_;have:=gi (b:=MB) (er δ (b* s));rw[bO δ] at this;have o:MB^ (ax MB (b* s)).length<=MB^ k:=vi δ g;omega
  omega
 obtain⟨v,hv⟩:∃v,(ax MB (b* s))[k]?=some v:=⟨_,eT ω⟩;obtain⟨lw,i,m⟩:=CZ a hv;refine⟨a,f,c,v,lw,hv,i,m,?_,da δ hv⟩;have n:MB^ k* 500000000< MB^ k* (v+1):=φ
 have:=NH n;omega
theorem J6{A:Ln}{x0 x1:Nat}(hA:A.length=k+2)(h0:A[k]?=some x0)(h1:A[k+1]?=some x1)(hd:∀d∈A,d< MB):∃lo,ofD MB A=lo+MB^ k* (x1* 1000000000+x0)/\lo< MB^ k:=by
 refine⟨ofD MB (A.take k),?_,?_⟩;have e1:=dh MB h1;rw[show k+1+1=A.length by omega,qj] at e1;rw[e1,dh MB h0,D7,zM,EB];have:MB^ k* (MB* x1)=MB^ k* (x1* 1000000000):=φ
 omega;have:=gi (b:=MB) (l:=A.take k) λd h=>hd d (AG h);grind
end
section
variable {n:Int}{d k:Nat}
def zI(z:Int):La:=[mag z.natAbs,bln (decide (z< 0))]
def qC(q:Rat):La:=[mag q.num.natAbs,bln (decide (q.num< 0)),mag (q.den- 1)]
def sgn(b:Bool)(m:Nat):Int:=if b then -(m:Int) else m
theorem yF(z:Int):∀c∈zI z,Closed c:=ac (cz _) (ac (ah _) af)
theorem bi(q:Rat):∀c∈qC q,Closed c:=ac (cz _) (ac (ah _) (ac (cz _) af))
theorem jt(z:Int):Closed (.agg (zI z)):=aD (yF z)
theorem aU(q:Rat):Closed (.agg (qC q)):=aD (bi q)
theorem closed_mA(n:Nat):Closed (.agg [mag n]):=aD (ac (cz n) af)
theorem ga(b:Bool)(m:Nat):(sgn b m).natAbs=m:=by unfold sgn;grind
theorem sgn_neg(b:Bool)(m:Nat):decide (sgn b m< 0)=(b && !(m==0)):=by
 unfold sgn;grind
theorem qf(z:Int):sgn (decide (z< 0)) z.natAbs=z:=by
 unfold sgn;grind
def qs(q:Rat):Nat:=max (bl q.num.natAbs) (bl q.den)
theorem lX(hd:0< d):(mkRat n d).num=n/ (Nat.gcd n.natAbs d:Int)/\(mkRat n d).den=d/ Nat.gcd n.natAbs d:=by
 unfold mkRat;rw[dif_neg ω,Rat.normalize_eq];grind
theorem kj(hd:0< d):(mkRat n d).num=sgn (decide (n< 0)) (n.natAbs/ Nat.gcd n.natAbs d):=by
 rw[(lX hd).1];have b:0< Nat.gcd n.natAbs d:=NK _ hd;obtain⟨k,a⟩:=O4 n.natAbs d;generalize Nat.gcd n.natAbs d=g at b a⊢;rw[a,NP _ b];unfold sgn;split
 ·rename_i h
  have:=of_decide_eq_true h;have e:n=(g:Int) * (-(k:Int)):=by rw[Pt,<-EA];omega
  rw[e,Int.mul_ediv_cancel_left _ ω]
 ·have e:n=(g:Int) * (k:Int):=φ
  rw[e,Int.mul_ediv_cancel_left _ ω]
theorem fy(a b:Nat):bl (a/ b)<=bl a:=dQ (Nat.div_le_self _ _)
theorem gf(hd:0< d)(h1:bl n.natAbs<=k)(h2:bl d<=k):qs (mkRat n d)<=k:=by
 unfold qs;rw[kj hd,ga,(lX hd).2];exact OT.2 ⟨fo (fy _ _) h1,fo (fy _ _) h2⟩
theorem yR(a b:Rat):a+b=mkRat (a.num* b.den+b.num* a.den) (a.den* b.den):=by
 rw[Rat.add_def];unfold mkRat;grind
theorem oC(a b:Rat):a* b=mkRat (a.num* b.num) (a.den* b.den):=by
 rw[Rat.mul_def];unfold mkRat;grind
theorem eJ(a:Rat):bl a.num.natAbs<=qs a:=OA _ _
theorem eu(a:Rat):bl a.den<=qs a:=NX _ _
theorem tP{x y:Int}(hx:bl x.natAbs<=k)(hy:bl y.natAbs<=k):bl (x+y).natAbs<=k+1:=by
 have a:=dQ (Int.natAbs_add_le x y);have b:=A7 x.natAbs y.natAbs;omega
theorem dI{x y:Int}{j:Nat}(hx:bl x.natAbs<=j)(hy:bl y.natAbs<=k):bl (x* y).natAbs<=j+k:=by
 rw[NV];have:=jy x.natAbs y.natAbs;omega
theorem yQ(a b:Rat):bl (a.num* b.den+b.num* a.den).natAbs<=qs a+qs b+1/\bl (a.den* b.den)<=qs a+qs b:=by
 have c:=eJ a;have d:=eu a;have e:=eJ b;have f:=eu b;refine⟨tP (dI c φ) ?_,?_⟩;have:=dI (x:=b.num) (y:=a.den) e (by simpa using d);omega;have:=jy a.den b.den;omega
theorem sE(a b:Rat):bl (a.num* b.num).natAbs<=qs a+qs b/\bl (a.den* b.den)<=qs a+qs b:=by
 have c:=eJ a;have e:=eu a;have d:=eJ b;have f:=eu b;refine⟨dI c d,?_⟩;have:=jy a.den b.den;omega
theorem n8(a b:Rat):0< a.den* b.den:=M7 a.den_pos b.den_pos
theorem gT(a b:Rat):qs (a+b)<=qs a+qs b+1:=by
 rw[yR];have h:=yQ a b;exact gf (n8 a b) h.1 ω
theorem cP(a b:Rat):qs (a* b)<=qs a+qs b:=by
 rw[oC];have h:=sE a b;exact gf (n8 a b) h.1 h.2
theorem fa(a:Rat):qs (-a)=qs a:=by unfold qs;simp
theorem po(a b:Rat):qs (a- b)<=qs a+qs b+1:=by
 rw[Rat.sub_eq_add_neg];have:=gT a (-b);rwa[fa] at this
theorem tF(a b:Rat)(hb:b≠0):a/ b=mkRat (a.num* sgn (decide (b.num< 0)) b.den) (a.den* b.num.natAbs):=by
 rw[LK,Rat.inv_def]
 conv=>lhs;rw[<-OS a]
 rw[Rat.divInt_mul_divInt];unfold sgn;split
 ·rename_i h
  have c:=of_decide_eq_true h;have hp:0< a.den* b.num.natAbs:=M7 a.den_pos ω;have e:(a.den:Int) * b.num= -((a.den* b.num.natAbs:Nat):Int):=φ
  rw[e,Pt];generalize a.den* b.num.natAbs=d at hp⊢;cases d with
  |zero=>omega
  |succ d=>
   rfl
 ·have e:(a.den:Int) * b.num=((a.den* b.num.natAbs:Nat):Int):=φ
  rw[e];rfl
theorem yA(a b:Rat):bl (a.num* sgn (decide (b.num< 0)) b.den).natAbs<=qs a+qs b/\bl (a.den* b.num.natAbs)<=qs a+qs b:=by
 have c:=eJ a;have d:=eu a;have f:=eJ b;have e:=eu b;refine⟨dI c (by rw[ga];grind),?_⟩;have:=jy a.den b.num.natAbs;omega
theorem fS(a b:Rat):qs (a/ b)<=qs a+qs b:=by
 by_cases hb:b=0;subst hb;rw[LK,Rat.inv_zero,Pn];omega;rw[tF a b hb];have h:=yA a b;have c:b.num≠0:=λh=>hb (MV.1 h);exact gf (M7 a.den_pos ω) h.1 h.2
end
def sm(q:Rat):Prop:=qs q<=137438953472
instance (q:Rat):Decidable (sm q):=inferInstanceAs (Decidable (_<=_))
theorem sm2{a b:Rat}(ha:sm a)(hb:sm b):qs a+qs b<=549755813888:=by unfold sm at ha hb;omega
def sgZ(z:Int):Int:=if z=0 then 0 else if z< 0 then -1 else 1
def eD(a b:Rat):Int:=if a< b then -1 else if a=b then 0 else 1
theorem sgZ_num_lt{q:Rat}:sgZ q.num< 0↔q< 0:=by
 unfold sgZ;have c:q.num=0↔q=0:=MV;have a:0<=q.num↔0<=q:=Rat.num_nonneg;have b:q< 0↔¬0<=q:=Rat.not_le.symm;rw[b,<-a];split;omega;split <;> omega
theorem sgZ_num_eq{q:Rat}:sgZ q.num=0↔q=0:=by
 unfold sgZ;rw[<-MV];split;simp[*];split <;> simp[*]
theorem sgZ_num_gt{q:Rat}:0< sgZ q.num↔0< q:=by
 have a:= @sgZ_num_lt q;have b:= @sgZ_num_eq q
 have c:0< q↔¬(q< 0\/q=0):=by
  rw[<-Rat.not_le,Rat.le_iff_lt_or_eq]
 rw[c,<-a,<-b];omega
theorem Hm(a b:Rat):eD a b=if a.num* b.den< b.num* a.den then -1 else if a.num* b.den=b.num* a.den then 0 else 1:=by
 unfold eD;have d:=Rat.lt_iff a b
 have c:a=b↔a.num* b.den=b.num* a.den:=by
  constructor;rintro rfl;rfl;intro h;have:=(O1 (n₁:=a.num) (n₂:=b.num) a.den_nz b.den_nz).2 h;rwa[OI,OI] at this
 by_cases h:a< b;rw[if_pos h,if_pos (d.1 h)];rw[if_neg h,if_neg (λx=>h (d.2 x))];by_cases h':a=b;rw[if_pos h',if_pos (c.1 h')];rw[if_neg h',if_neg (λx=>h' (c.2 x))]
def ic(k:Nat):Rat:=mkRat 1 (2^ k)
theorem qA(q:Rat):q.num< 0↔q< 0:=by
 rw[<-sgZ_num_lt];unfold sgZ;split;omega;split <;> omega
def fN(q:Rat):Rat:=mkRat q.num.natAbs q.den
theorem oX(q:Rat):fN q=if q< 0 then -q else q:=by
 unfold fN;by_cases h:q< 0;have a:q.num< 0:=(qA q).2 h;rw[if_pos h];have e:(q.num.natAbs:Int)=(-q).num:=by rw[O7];omega
 rw[e,<-O8,OI];have a:¬q.num< 0:=λe=>h ((qA q).1 e);rw[if_neg h];have e:(q.num.natAbs:Int)=q.num:=ω
 rw[e,OI]
theorem Du(q:Rat):(fN q).num=(q.num.natAbs:Int):=by
 rw[oX];by_cases h:q< 0;rw[if_pos h,O7];have a:q.num< 0:=(qA q).2 h;omega;rw[if_neg h];have a:¬q.num< 0:=λe=>h ((qA q).1 e);omega
theorem Dw(q:Rat):(fN q).den=q.den:=by
 rw[oX];split;exact O8 ..;rfl
theorem qC_abs(q:Rat):qC (fN q)=zI (sgn false q.num.natAbs)++[mag (q.den- 1)]:=by
 unfold qC zI;rw[Du,Dw];rfl
def pE(l:Lq):Lc:=l.map qC
def pA(l:Lq):AV:= .arr (pE l)
def spC(a b:Rat):La:=qC a++qC b
@[simp] theorem qC_length (q:Rat):(qC q).length=3:=rfl
@[simp] theorem spC_length (a b:Rat):(spC a b).length=6:=rfl
@[simp] theorem xZ (l:Lq):(pE l).length=l.length:=by simp[pE]
theorem pE_get{l:Lq}{i:Nat}{q:Rat}(h:l[i]?=some q):(pE l)[i]?=some (qC q):=by simp[pE,h]
theorem uF(l:Lq)(k:Nat):(pE l).take k=pE (l.take k):=by simp[pE]
theorem ki(l m:Lq):pE (l++m)=pE l++pE m:=by simp[pE]
theorem jg(l:Lq)(i:Nat)(q:Rat):(pE l).set i (qC q)=pE (l.set i q):=by simp[pE,OW]
theorem eR(l:Lq):(pE l).all (·.all AV.one)=true:=by
 simp only[pE,OY,pZ];intro q _;rfl
theorem mM(l:Lq):∀e∈pE l,e.length=3:=by intro e a;simp[pE] at a;obtain⟨q,_,rfl⟩:=a;rfl
theorem aK(l:Lq):∀e∈pE l,∀c∈e,Closed c:=by
 intro e a c b;simp[pE] at a;obtain⟨q,_,rfl⟩:=a;exact bi q c b
theorem aw(l:Lq):Closed (pA l):=aP (aK l)
theorem bh(a b:Rat):∀c∈spC a b,Closed c:=λc d=>(n7.1 d).elim (bi a c) (bi b c)
theorem ca(a b:Rat):Closed (.agg (spC a b)):=aD (bh a b)
def zC:La:=[.emp,bln false,.emp]
theorem mag0:mag 0= .arr []:=by unfold mag;rw[c8];rfl
theorem qC0:qC 0=[.arr [],bln false,.arr []]:=by
 show [mag 0,bln (decide ((0:Int)< 0)),mag (1- 1)]=_;rw[mag0];rfl
def smL(l:Lq):Prop:=∀q∈l,sm q
instance (l:Lq):Decidable (smL l):=inferInstanceAs (Decidable (∀q∈l,sm q))
def eE(bf:Int->Bool):Lq->Rat
 |[]=>0
 |x::l=>l.foldl (λo y=>if bf (eD y o) then y else o) x
theorem A3(bf:Int->Bool)(l:Lq)(y:Rat):eE bf (l++[y])=if l=[]\/bf (eD y (eE bf l))=true then y else eE bf l:=by
 cases l with
 |nil=>simp[eE]
 |cons x l=>simp[eE,Ot]
theorem pO{bf:Int->Bool}:∀{l:Lq},smL l->sm (eE bf l)
 |[],_=>(by decide:sm 0)
 |x::l,h=>by
  have a:∀(l:Lq) (o:Rat),sm o->smL l->sm (l.foldl (λo y=>if bf (eD y o) then y else o) o):=by
   intro l
   induction l with
   |nil=>intro o b _;exact b
   |cons y l e=>
    intro o b d;refine e _ ?_ λq c=>d q (lQ _ c);show sm (if bf (eD y o)=true then y else o);split;exact d y (mu ..);exact b
  exact a l x (h x (mu ..)) λq c=>h q (lQ _ c)
def Ep(l:Lq):Rat:=eE (λc=>decide (c< 0)) l
def lY(l:Lq):Rat:=eE (λc=>decide (0< c)) l
theorem AEval.lenP{P:Program}{id:Nat}{ev:Operand->Option AV}{hp:Hq}{c:Call}{x:Operand}{T:Nat}{d:Nat×Nat}{l:Lq}(hc:c.callee= .builtin .len)(ha:c.args= #[x])(ht:c.argTypes= #[T])(hx:ev x=some (.arr (pE l)))(he:eQ P T=some d):
    AEval P id ev hp (.call c) ⟨.v (.int .i64 (l.length:Nat)),[]⟩ []:= .len hc ha ht hx (by simp[sI]) he
section
variable {l p:Lq}
def am:Lq->Lq
 |[]=>[]
 |a::l=>match am l with
  |[]=>if a=0 then [] else [a]
  |b::m=>a::b::m
theorem e9(a:Rat)(l:Lq):am (a::l)=if am l=[] then(if a=0 then [] else [a]) else a::am l:=by
 rw[am];grind
theorem mF(l:Lq)(a:Rat):am (l++[a])=if a=0 then am l else l++[a]:=by
 induction l with
 |nil=>simp[am]
 |cons b l c=>
  rw[LJ,e9,c,e9];by_cases h:a=0;simp only[if_pos h];simp_all
theorem bm(l:Lq):(am l).length<=l.length:=by
 induction l with
 |nil=>simp[am]
 |cons a l b=>rw[e9];grind
theorem r7(l:Lq):am l=l.take (am l).length:=by
 induction l with
 |nil=>simp[am]
 |cons a l b=>
  rw[e9];grind
theorem cS{q:Rat}(h:q∈am l):q∈l:=by
 rw[r7] at h;grind
theorem vg{q:Rat}(h:(am l).getLast?=some q):q≠0:=by
 induction l with
 |nil=>simp[am] at h
 |cons a l b=>
  rw[e9] at h;grind
theorem bU(l:Lq):am (am l)=am l:=by
 rcases List.eq_nil_or_concat (am l) with h|⟨m,q,h⟩
 rw[h];rfl;have a:q≠0:=vg (l:=l) φ;rw[h,List.concat_eq_append,mF,if_neg a]
theorem vr(h:smL l):smL (am l):=λq a=>h q (cS a)
def a8(l:Lq):Int:=(am l).length- 1
def aL(l:Lq):Rat:=(am l).getLastD 0
theorem df(h:am l≠[]):aL l≠0:=by
 refine vg (l:=l) (q:=(am l).getLastD 0) ?_;rw[List.getLastD_eq_getLast?];cases hl:(am l).getLast? with
 |none=>simp_all
 |some q=>rfl
theorem sJ(h:am l=[]):aL l=0:=by unfold aL;grind
theorem dt{n:Nat}(h:(am l).length=n+1):(am l)[n]?=some (aL l):=by
 unfold aL;grind
theorem KC(h:smL l):sm (aL l):=by
 by_cases h0:am l=[];rw[sJ h0];decide;obtain⟨n,a⟩:∃n,(am l).length=n+1:=⟨(am l).length- 1,by have:=nB.2 h0;omega⟩;exact h _ (cS (mc (dt a)))
def aI(n:Nat)(f:Nat->Rat):Lq:=(List.range n).map f
@[simp] theorem fY (n:Nat)(f:Nat->Rat):(aI n f).length=n:=by simp[aI]
def coP(p:Lq)(i:Nat):Rat:=p.getD i 0
def ec(p q:Lq):Lq:=am (aI (max p.length q.length) λi=>coP p i+coP q i)
def aW(p:Lq)(k:Rat):Lq:=am (aI p.length λi=>coP p i* k)
def dC(p q:Lq):Lq:=ec p (aW q (-1))
def dk(a:Rat):Lq:=am [a]
def aQ(p:Lq):Lq:=am (aI (p.length- 1) λi=>coP p (i+1) * ((i+1:Nat):Int))
def aH(p:Lq):Lq:=am (aI (p.length+1) λi=>if i=0 then 0 else coP p (i- 1) / ((i:Nat):Int))
def cV(p:Lq):Lq:=if am p=[] then [] else aW p (1/ aL p)
theorem pL(h:smL p)(i:Nat):sm (coP p i):=by
 unfold coP;rw[jH];cases hi:p[i]? with
 |none=>exact(by decide:sm 0)
 |some q=>exact h q (mc hi)
theorem cm{i:Nat}(h:i< p.length):p[i]?=some (coP p i):=by
 unfold coP;grind
theorem eC{i:Nat}(h:p.length<=i):coP p i=0:=by
 unfold coP;grind
theorem gM:∀c∈zC,Closed c:=ac dy (ac (ah _) (ac dy af))
theorem le_zC:LeL zC (qC 0):=by rw[qC0];exact .cons .emp (.cons (.refl _) (.cons .emp .nil))
end
def bdL(l:Lq)(n:Nat):Prop:=∀q∈l,qs q<=n
instance (l:Lq) (n:Nat):Decidable (bdL l n):=inferInstanceAs (Decidable (∀q∈l,qs q<=n))
theorem ek{l:Lq}{n:Nat}(h:bdL l n)(hn:n<=137438953472):smL l:=λq a=>fo (h q a) hn
theorem dc{l:Lq}{n:Nat}(h:bdL l n)(hn:1<=n)(i:Nat):qs (coP l i)<=n:=by
 unfold coP;rw[jH];cases hi:l[i]? with
 |none=>exact fo (by decide:qs 0<=1) hn
 |some q=>exact h q (mc hi)
def Dt(o:Lq)(j:Nat)(x:Rat):Lq:=o.set j (coP o j+x)
def kN(o:Lq)(a:Rat)(q:Lq)(i:Nat):Nat->Lq
 |0=>o
 |k+1=>Dt (kN o a q i k) (i+k) (a* coP q k)
def fC(p q:Lq):Nat->Lq
 |0=>List.replicate (p.length+q.length- 1) 0
 |i+1=>if coP p i=0 then fC p q i else kN (fC p q i) (coP p i) q i q.length
def aG(p q:Lq):Lq:=if p=[]\/q=[] then [] else am (fC p q p.length)
@[simp] theorem A9 (o:Lq)(j:Nat)(x:Rat):(Dt o j x).length=o.length:=by simp[Dt]
@[simp] theorem BA (o:Lq)(a:Rat)(q:Lq)(i k:Nat):(kN o a q i k).length=o.length:=by
 induction k with
 |zero=>rfl
 |succ k ih=>rw[kN,A9,ih]
@[simp] theorem nF (p q:Lq)(i:Nat):(fC p q i).length=p.length+q.length- 1:=by
 induction i with
 |zero=>simp[fC]
 |succ i ih=>rw[fC];split <;> simp[ih]
theorem tK(o:Lq)(j n:Nat)(x:Rat):coP (Dt o j x) n=if n=j/\j< o.length then coP o j+x else coP o n:=by
 unfold Dt coP;rw[jH,Aa,jH,jH];by_cases h:j=n;subst h;by_cases h2:j< o.length;simp[h2];simp[h2];rw[if_neg h,if_neg ω]
theorem iV{o:Lq}{n:Nat}(h:∀i,qs (coP o i)<=n):bdL o n:=by
 intro q a;obtain⟨i,b,rfl⟩:=List.getElem_of_mem a;have:=h i;unfold coP at this;rwa[jH,eT b] at this
theorem vI(o:Lq)(a:Rat)(q:Lq)(i k n:Nat)(h:n< i\/i+k<=n):coP (kN o a q i k) n=coP o n:=by
 induction k with
 |zero=>rfl
 |succ k b=>rw[kN,tK,if_neg ω,b ω]
theorem Gh{o:Lq}{a:Rat}{q:Lq}{B s t:Nat}(i:Nat)(ho:∀n,qs (coP o n)<=B)(ha:qs a<=s)(hq:∀n,qs (coP q n)<=t):∀k n,qs (coP (kN o a q i k) n)<=B+(s+t+1)
 |0,n=>fo (ho n) ω
 |k+1,n=>by
  rw[kN,tK];split;rw[vI o a q i k (i+k) ω];have b:=gT (coP o (i+k)) (a* coP q k);have c:=cP a (coP q k);have e:=ho (i+k);have d:=hq k;omega;exact Gh i ho ha hq k n
theorem uH{p q:Lq}{s t:Nat}(hp:∀n,qs (coP p n)<=s)(hq:∀n,qs (coP q n)<=t):∀i n,qs (coP (fC p q i) n)<=i* (s+t+1)+1
 |0,n=>by
  have:coP (fC p q 0) n=0:=by
   unfold fC coP;rw[jH,MS];split <;> rfl
  rw[this];exact Nd 1 _
 |i+1,n=>by
  rw[fC,zu,Kk];split;have:=uH hp hq i n;omega;have:=Gh (B:=i* (s+t+1)+1) i (uH hp hq i) (hp i) hq q.length n;omega
theorem mO{p q:Lq}{s t:Nat}(hp:bdL p s)(hq:bdL q t)(hs:1<=s)(ht:1<=t):bdL (aG p q) (p.length* (s+t+1)+1):=by
 unfold aG;split;intro q hq;cases hq;intro x a;exact iV (uH (dc hp hs) (dc hq ht) p.length) x (cS a)
theorem CvLL.zeros{r:Ren}{hp hp':Hq}(h:Shr r hp hp')(n:Nat):CvLL r hp hp' (List.replicate n zC) (pE (List.replicate n 0)):=by
 induction n with
 |zero=>rfl
 |succ n a=>
  refine⟨qC 0,_,rfl,?_,a⟩;rw[qC0];exact ai (Cv.emp _) (ai (ao h (ah _)) (ai (Cv.emp _) av))
def Bk(o:Lq)(j:Nat)(x:Rat):Lq:=o.set j (coP o j- x)
def gd(o:Lq)(k:Rat)(q:Lq)(n:Nat):Nat->Lq
 |0=>o
 |i+1=>Bk (gd o k q n i) (n+i) (k* coP q i)
def j9(q:Lq)(lead:Rat):Nat->Lq->Lq->Lq×Lq
 |0,u,o=>(u,o)
 |n+1,u,o=>j9 q lead n (u.set n (coP o (n+q.length- 1) / lead)) (if coP o (n+q.length- 1) / lead=0 then o else gd o (coP o (n+q.length- 1) / lead) q n q.length)
def bJ(p q:Lq):Lq×Lq:=
 let r:=j9 (am q) (aL q) ((am p).length+1- (am q).length) (List.replicate ((am p).length+1- (am q).length) 0) (am p)
 (am r.1,am r.2)
@[simp] theorem y5 (o:Lq)(j:Nat)(x:Rat):(Bk o j x).length=o.length:=by simp[Bk]
@[simp] theorem iy (o:Lq)(a:Rat)(q:Lq)(i k:Nat):(gd o a q i k).length=o.length:=by
 induction k with
 |zero=>rfl
 |succ k ih=>rw[gd,y5,ih]
theorem jQ(q:Lq)(lead:Rat):∀c u o,(j9 q lead c u o).1.length=u.length/\(j9 q lead c u o).2.length=o.length
 |0,u,o=>⟨rfl,rfl⟩
 |n+1,u,o=>by
  refine⟨(jQ q lead n _ _).1.trans ψ,(jQ q lead n _ _).2.trans ?_⟩;split <;> simp
theorem u0(o:Lq)(j n:Nat)(x:Rat):coP (o.set j x) n=if n=j/\j< o.length then x else coP o n:=by
 unfold coP;grind
theorem oR(o:Lq)(j n:Nat)(x:Rat):coP (Bk o j x) n=if n=j/\j< o.length then coP o j- x else coP o n:=u0 o j n _
theorem nw(o:Lq)(a:Rat)(q:Lq)(i k n:Nat)(h:n< i\/i+k<=n):coP (gd o a q i k) n=coP o n:=by
 induction k with
 |zero=>rfl
 |succ k b=>rw[gd,oR,if_neg ω,b ω]
theorem Gi{o:Lq}{a:Rat}{q:Lq}{B s t:Nat}(i:Nat)(ho:∀n,qs (coP o n)<=B)(ha:qs a<=s)(hq:∀n,qs (coP q n)<=t):∀k n,qs (coP (gd o a q i k) n)<=B+(s+t+1)
 |0,n=>fo (ho n) ω
 |k+1,n=>by
  rw[gd,oR];split;rw[nw o a q i k (i+k) ω];have b:=po (coP o (i+k)) (a* coP q k);have c:=cP a (coP q k);have e:=ho (i+k);have d:=hq k;omega;exact Gi i ho ha hq k n
def Fh(q:Lq)(lead:Rat)(L c:Nat)(u o:Lq):Prop:=
 ∃B t,(∀n,qs (coP o n)<=B)/\(∀n,qs (coP q n)<=t)/\qs lead<=t/\1<=t/\(∀n,qs (coP u n)<=L)/\2^ c* (B+2* t+1)<=L
theorem CY{q:Lq}{lead:Rat}{L c:Nat}{u o:Lq}(h:Fh q lead L c u o):∃B t,(∀n,qs (coP o n)<=B)/\(∀n,qs (coP q n)<=t)/\qs lead<=t/\B+2* t+1<=L:=by
 obtain⟨B,t,d,b,e,f,g,a⟩:=h;refine⟨B,t,d,b,e,fo ?_ a⟩;have:=mC (B+2* t+1) (Og (n:=c));omega
theorem yC{q:Lq}{lead:Rat}{L n:Nat}{u o:Lq}(h:Fh q lead L (n+1) u o):
    Fh q lead L n (u.set n (coP o (n+q.length- 1) / lead)) (if coP o (n+q.length- 1) / lead=0 then o else gd o (coP o (n+q.length- 1) / lead) q n q.length):=by
 obtain⟨B,t,d,c,i,g,r,e⟩:=h;obtain⟨k,f⟩:∃k,k=coP o (n+q.length- 1) / lead:=⟨_,rfl⟩
 have b:qs k<=B+t:=by
  have e1:=fS (coP o (n+q.length- 1)) lead;grind
 rw[<-f];obtain⟨W,l⟩:∃W,W=2^ n:=⟨_,rfl⟩;have a:1<=W:=φ
 rw[D7] at e;have p:W* (2* B+2* t+1+2* t+1)<=L:=φ
 have m:2* B+2* t+1+2* t+1<=L:=by
  have:=mC (2* B+2* t+1+2* t+1) a;omega
 refine⟨2* B+2* t+1,t,λj=>?_,c,i,g,λj=>?_,φ⟩;split;have:=d j;omega;have:=Gi n d b c q.length j;omega;rw[u0];grind
theorem AK{q:Lq}{lead:Rat}{L:Nat}:∀{c u o},Fh q lead L c u o->(∀n,qs (coP (j9 q lead c u o).1 n)<=L)/\(∀n,qs (coP (j9 q lead c u o).2 n)<=L)
 |0,u,o,h=>by
  obtain⟨B,t,a,e,f,d⟩:=CY h;obtain⟨_,_,_,_,_,_,b,_⟩:=h;exact⟨b,λn=>fo (a n) ω⟩
 |n+1,u,o,h=>AK (c:=n) (yC h)
section
variable {p q:Lq}
def mxL(l:Lq):Nat:=l.foldr (λq n=>max (qs q) n) 1
theorem dB(l:Lq):1<=mxL l:=by
 induction l with
 |nil=>exact ir _
 |cons q l a=>exact fo a (NX _ _)
theorem dO(l:Lq):bdL l (mxL l):=by
 induction l with
 |nil=>intro q b;grind
 |cons a l c=>
  intro q b;rcases pY.1 b with rfl|b
  exact OA _ _;exact fo (c q b) (NX _ _)
theorem mxL_le{l:Lq}{n:Nat}(h:bdL l n)(hn:1<=n):mxL l<=n:=by
 induction l with
 |nil=>exact hn
 |cons a l c=>exact OT.2 ⟨h a (mu ..),c λq b=>h q (lQ _ b)⟩
def iz(p q:Lq):Prop:=2^ ((am p).length+1- (am q).length) * (mxL p+2* mxL q+1)<=137438953472/\p.length<=274877906944/\q.length<=274877906944
instance (p q:Lq):Decidable (iz p q):=inferInstanceAs (Decidable (_/\_/\_))
theorem Fg{s t L:Nat}(hp:bdL p s)(hq:bdL q t)(hs:1<=s)(ht:1<=t)(hq0:am q≠[])(m:Nat)(h:2^ m* (s+2* t+1)<=L):Fh (am q) (aL q) L m (List.replicate m 0) (am p):=by
 have b:1<=L:=by
  have d:=mC (s+2* t+1) (Og (n:=m));omega
 have c:=nB.2 hq0;refine⟨s,t,dc (λx a=>hp x (cS a)) hs,dc (λx a=>hq x (cS a)) ht,hq _ (cS (mc (dt (n:=(am q).length- 1) ω))),ht,λn=>?_,h⟩
 have:coP (List.replicate m 0) n=0:=by
  unfold coP;rw[jH,MS];split <;> rfl
 rw[this];exact fo (by decide:qs 0<=1) b
theorem oQ{s t L:Nat}(hp:bdL p s)(hq:bdL q t)(hs:1<=s)(ht:1<=t)(hq0:am q≠[])(h:2^ ((am p).length+1- (am q).length) * (s+2* t+1)<=L):bdL (bJ p q).1 L/\bdL (bJ p q).2 L:=by
 have:=AK (Fg hp hq hs ht hq0 _ h);exact⟨λx a=>iV this.1 x (cS a),λx a=>iV this.2 x (cS a)⟩
theorem AL(h:iz p q)(hq0:am q≠[]):smL (bJ p q).1/\smL (bJ p q).2:=
 have:=oQ (dO p) (dO q) (dB p) (dB q) hq0 h.1
 ⟨ek this.1 (ir _),ek this.2 (ir _)⟩
theorem me:(bJ p q).1.length<=p.length+1/\(bJ p q).2.length<=p.length:=by
 have a:=jQ (am q) (aL q) ((am p).length+1- (am q).length) (List.replicate ((am p).length+1- (am q).length) 0) (am p);have d:=bm p;have c:=bm (j9 (am q) (aL q) ((am p).length+1- (am q).length) (List.replicate ((am p).length+1- (am q).length) 0) (am p)).1;have b:=bm (j9 (am q) (aL q) ((am p).length+1- (am q).length) (List.replicate ((am p).length+1- (am q).length) 0) (am p)).2;rw[a.1,OG] at c;rw[a.2] at b;exact⟨by unfold bJ;simp only;omega,by unfold bJ;simp only;omega⟩
theorem du(p:Lq)(k:Rat):(aW p k).length<=p.length:=by
 have:=bm (aI p.length λi=>coP p i* k);simpa[aW] using this
theorem pr(p:Lq):(cV p).length<=p.length:=by
 unfold cV;split;simp;exact du _ _
def ut:Nat->Lq->Lq->Option Lq
 |0,_,_=>none
 |f+1,p,q=>if am q=[] then(if smL p then some (cV p) else none) else if iz p q then ut f q (cV (bJ p q).2) else none
end
def ag:Lq->Rat->Rat
 |[],_=>0
 |a::l,x=>ag l x* x+a
def mA(l:Lq)(k:Nat):Option La:=if k< l.length then some [i64 ((l.length- 1- k:Nat):Int),.agg (qC (coP l (l.length- 1- k)))] else none
theorem tD{l:Lq}{k:Nat}(h:k< l.length):l.drop (l.length- (k+1))=coP l (l.length- 1- k)::l.drop (l.length- k):=by
 have a:l.length- (k+1)< l.length:=ω
 rw[DA a,show l.length- (k+1)+1=l.length- k by omega];congr 1;have:=cm a;rw[eT a] at this;rw[show l.length- 1- k=l.length- (k+1) by omega];exact Option.some.inj this
theorem jP{x:Rat}{s t:Nat}(hx:qs x<=t):∀{l:Lq},bdL l s->qs (ag l x)<=l.length* (s+t+1)+1
 |[],_=>by show qs 0<=_;exact fo (by decide:qs 0<=1) (Nd 1 _)
 |a::l,h=>by
  have c:=jP (l:=l) hx λq b=>h q (lQ _ b);have ha:=h a (mu ..);have e:=gT (ag l x* x) a;have d:=cP (ag l x) x;show qs (ag l x* x+a)<=(l.length+1) * (s+t+1)+1;rw[zu,Kk];omega
def eg(p:Lq)(x:Rat):Prop:=p.length* (mxL p+qs x+1)+mxL p+qs x+2<=137438953472/\p.length<=274877906944
instance (p:Lq) (x:Rat):Decidable (eg p x):=inferInstanceAs (Decidable (_/\_))
theorem Fa{p:Lq}{x:Rat}(h:eg p x)(k:Nat)(hk:k< p.length):qs (ag (p.drop (p.length- k)) x)+qs x<=549755813888/\qs (ag (p.drop (p.length- k)) x* x)+qs (coP p (p.length- 1- k))<=549755813888:=by
 have d:=jP (t:=qs x) (ir _) (l:=p.drop (p.length- k)) (s:=mxL p) λq a=>dO p q (Hc a);have b:=cP (ag (p.drop (p.length- k)) x) x;have f:=dc (dO p) (dB p) (p.length- 1- k);have c:=h.1;have e:(p.drop (p.length- k)).length* (mxL p+qs x+1)<=p.length* (mxL p+qs x+1):=mC _ ψ;omega
theorem nZ{p:Lq}{x:Rat}(h:eg p x):sm (ag p x):=by
 have a:=jP (t:=qs x) (ir _) (dO p);have b:=h.1;unfold sm;omega
abbrev Sp:=Rat×Rat
def BM(a b:Sp):Lq:=[a.1* b.1,a.1* b.2,a.2* b.1,a.2* b.2]
def vp(a b:Sp):Sp:=(Ep (BM a b),lY (BM a b))
def F3(a b:Sp):Sp:=(a.1+b.1,a.2+b.2)
def smS(a:Sp):Prop:=sm a.1/\sm a.2
instance (a:Sp):Decidable (smS a):=inferInstanceAs (Decidable (_/\_))
def ovP(v0 s:Sp):Lq->Sp
 |[]=>v0
 |a::l=>F3 (vp (ovP v0 s l) s) (a,a)
def HW(v0 s:Sp):Lq->Prop
 |[]=>smS v0
 |a::l=>HW v0 s l/\smL (BM (ovP v0 s l) s)/\sm a/\smS (F3 (vp (ovP v0 s l) s) (a,a))
instance okOv_dec (v0 s:Sp):(l:Lq)->Decidable (HW v0 s l)
 |[]=>inferInstanceAs (Decidable (smS v0))
 |a::l=> @instDecidableAnd _ _ (okOv_dec v0 s l) (inferInstanceAs (Decidable (_/\_/\_)))
theorem okOv_sm{v0 s:Sp}:∀{l:Lq},HW v0 s l->smS (ovP v0 s l)
 |[],h=>h
 |_::_,h=>h.2.2.2
theorem x8{v0 s:Sp}:∀{l:Lq} (n:Nat),HW v0 s l->HW v0 s (l.drop n)
 |_,0,h=>h
 |[],_+1,h=>h
 |_::_,n+1,h=>x8 n h.1
def ja(p:Lq)(s:Sp):Sp:=if¬eD s.1 s.2<=0\/am p=[] then(0,0) else ovP (aL p,aL p) s ((am p).take ((am p).length- 1))
def zP(p:Lq)(s:Sp):Prop:=smL p/\smS s/\p.length<=274877906944/\HW (aL p,aL p) s ((am p).take ((am p).length- 1))
instance (p:Lq) (s:Sp):Decidable (zP p s):=inferInstanceAs (Decidable (_/\_/\_/\_))
def gQ(p q:Lq):Prop:=p.length* (mxL p+mxL q+1)+1<=137438953472/\mxL q<=137438953472/\p.length<=274877906944/\q.length<=274877906944
instance (p q:Lq):Decidable (gQ p q):=inferInstanceAs (Decidable (_/\_/\_/\_))
theorem v8{p q:Lq}(h:gQ p q):smL (aG p q):=
 ek (mO (dO p) (dO q) (dB p) (dB q)) h.1
theorem k6(p q:Lq):(ec p q).length<=max p.length q.length:=by
 have:=bm (aI (max p.length q.length) λi=>coP p i+coP q i);simpa[ec] using this
theorem B1(p q:Lq):(aG p q).length<=p.length+q.length:=by
 unfold aG;split;simp;have:=bm (fC p q p.length);rw[nF] at this;omega
theorem pK(a:Rat):(dk a).length<=1:=bm [a]
def cJ(q:Lq):Lq->Lq
 |[]=>[]
 |a::l=>ec (aG (cJ q l) q) (dk a)
def ik(q:Lq):Lq->Prop
 |[]=>True
 |a::l=>ik q l/\gQ (cJ q l) q/\sm a/\(aG (cJ q l) q).length<=274877906944
instance okComp_dec (q:Lq):(l:Lq)->Decidable (ik q l)
 |[]=>inferInstanceAs (Decidable True)
 |a::l=> @instDecidableAnd _ _ (okComp_dec q l) (inferInstanceAs (Decidable (_/\_/\_)))
theorem ua{q:Lq}:∀{l:Lq} (n:Nat),ik q l->ik q (l.drop n)
 |_,0,h=>h
 |[],_+1,h=>h
 |_::_,n+1,h=>ua n h.1
section
variable {l:Ln}
abbrev UB:Nat:=32768
def iE(l:Ln):Lc:=l.map fun(d:Nat)=>[i64 d]
def hv(l:Ln):Nat:=ofD UB l.reverse
def zd(n:Nat):Ln:=(ax UB n).reverse
def zZ(z:Int):La:=[i64 (sgZ z),.arr (iE (zd z.natAbs))]
def gS:Ln->Ln
 |[]=>[]
 |d::l=>if d=0 then gS l else d::l
@[simp] theorem sM (l:Ln):(iE l).length=l.length:=by simp[iE]
theorem ly{i d:Nat}(h:l[i]?=some d):(iE l)[i]?=some [i64 d]:=by simp[iE,h]
theorem iE_take(l:Ln)(k:Nat):(iE l).take k=iE (l.take k):=by simp[iE]
theorem oG(l m:Ln):iE (l++m)=iE l++iE m:=by simp[iE]
theorem px(l:Ln)(i d:Nat):(iE l).set i [i64 d]=iE (l.set i d):=by simp[iE,OW]
theorem j7(k:Nat):List.replicate k [i64 0]=iE (List.replicate k 0):=by simp[iE]
theorem fU(l:Ln):(iE l).all (·.all AV.one)=true:=by
 simp only[iE,OY,pZ];intro d _;rfl
theorem mP(l:Ln):∀e∈iE l,e.length=1:=by intro e a;simp[iE] at a;obtain⟨d,_,rfl⟩:=a;rfl
theorem dU(l:Ln):∀e∈iE l,∀c∈e,Closed c:=by
 intro e a c b;simp[iE] at a;obtain⟨d,_,rfl⟩:=a;simp at b;subst b;exact ah _
theorem fw(l:Ln):Closed (.arr (iE l)):=aP (dU l)
theorem gL(z:Int):∀c∈zZ z,Closed c:=ac (ah _) (ac (fw _) af)
theorem dl(z:Int):Closed (.agg (zZ z)):=aD (gL z)
theorem DM(m:Ln)(d:Nat):fL (m++[d])=if d=0 then fL m else m++[d]:=by
 induction m with
 |nil=>simp[fL]
 |cons a m b=>
  rw[LJ,fL,b];by_cases hd:d=0;rw[if_pos hd,if_pos hd];rfl;rw[if_neg hd,if_neg hd];cases m <;> rfl
theorem Bl(l:Ln):gS l=(fL l.reverse).reverse:=by
 induction l with
 |nil=>rfl
 |cons d l a=>
  rw[gS,Oq,DM];split;exact a;simp
theorem gD(h:∀d∈l,d< UB):gS l=zd (hv l):=by
 rw[Bl,kH (b:=UB) δ (λd a=>h d (N2.1 a))];rfl
theorem l9(n:Nat):hv (zd n)=n:=by unfold hv zd;rw[Nl,bO δ]
theorem kD(n:Nat):∀d∈zd n,d< UB:=λd a=>er δ n d (N2.1 a)
theorem dj(n:Nat):(zd n).length=(ax UB n).length:=Ob
theorem qP(d:Nat)(l:Ln):hv (d::l)=hv l+UB^ l.length* d:=by
 unfold hv;rw[Oq,iM,Ob]
theorem qO(l:Ln)(d:Nat):hv (l++[d])=hv l* UB+d:=by
 unfold hv;simp[ofD];rw[Eg,Pp]
theorem wm:hv []=0:=rfl
theorem pS:zd 0=[]:=by unfold zd;rw[c8];rfl
theorem zd_eq_nil{n:Nat}:zd n=[]↔n=0:=by
 unfold zd;rw[List.reverse_eq_nil_iff];exact jR δ
theorem vm(h:∀d∈l,d< UB):gS l=[]↔hv l=0:=by rw[gD h];exact zd_eq_nil
theorem zZ_zero:zZ 0=[i64 0,.arr []]:=by unfold zZ;show [i64 0,AV.arr (iE (zd 0))]=_;rw[pS];rfl
theorem GU(h:∀d∈l,d< UB):hv l< UB^ l.length:=by
 have:=gi (b:=UB) (l:=l.reverse) λd a=>h d (N2.1 a);rwa[Ob] at this
theorem AEval.lenI{P:Program}{id:Nat}{ev:Operand->Option AV}{hp:Hq}{c:Call}{x:Operand}{T:Nat}{d:Nat×Nat}(hc:c.callee= .builtin .len)(ha:c.args= #[x])(ht:c.argTypes= #[T])(hx:ev x=some (.arr (iE l)))(he:eQ P T=some d):
    AEval P id ev hp (.call c) ⟨.v (.int .i64 (l.length:Nat)),[]⟩ []:= .len hc ha ht hx (by simp[sI]) he
end
end Go.Abs
