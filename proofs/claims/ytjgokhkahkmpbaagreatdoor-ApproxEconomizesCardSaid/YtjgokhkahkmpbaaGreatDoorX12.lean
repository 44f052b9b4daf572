/- Part X12 of the proof. -/
import Derived.Test.YtjgokhkahkmpbaaGreatDoorX11
set_option linter.all false
namespace Go.Abs
def iw(b:Nat):Nat→Nat→Ln
 |0,_=>[]
 |n+1,m=>m % b::iw b n (m/ b)
@[simp] theorem jL (b:Nat):∀n m,(iw b n m).length=n
 |0,_=>rfl
 |n+1,m=>by simp[iw,jL b n]
theorem rF{b:Nat}(hb:0< b):∀n m,∀d∈iw b n m,d< b
 |0,_,d,h=>by cases h
 |n+1,m,d,h=>by
  rcases List.mem_cons.1 h with rfl|h
  exact Nat.mod_lt _ hb;exact rF hb n _ d h
theorem oT{b:Nat}(hb:0< b):∀{n m:Nat},m< b^ n→ofD b (iw b n m)=m
 |0,m,h=>by simp at h;subst h;rfl
 |n+1,m,h=>by
  rw[iw,ofD,oT hb (by rw[Nat.div_lt_iff_lt_mul hb];exact h)];exact Nat.mod_add_div m b
theorem yb{b:Nat}:∀{l:Ln},(∀d∈l,d< b)→iw b l.length (ofD b l)=l
 |[],_=>rfl
 |d::l,h=>by
  have hd:=h d (List.mem_cons_self ..);have h1:ofD b (d::l) % b=d:=by rw[ofD,Nat.add_mul_mod_self_left];exact Nat.mod_eq_of_lt hd
  have h2:ofD b (d::l) / b=ofD b l:=by rw[ofD,Nat.add_mul_div_left _ _ (by omega),Nat.div_eq_of_lt hd];omega
  rw[List.length_cons,iw,h1,h2,yb fun x hx=>h x (List.mem_cons_of_mem _ hx)]
theorem wV{b n m:Nat}{l:Ln}(h:∀d∈l,d< b)(hl:l.length=n)(hv:ofD b l=m):l=iw b n m:=by
 subst hl hv;exact(yb h).symm
theorem De{v:Nat}(h1:1≤v)(h2:v< 1000000000):500000000≤v* (1000000000/ (v+1))∧(v+1) * (1000000000/ (v+1))≤1000000000∧1≤1000000000/ (v+1):=by
 have hq1:(v+1) * (1000000000/ (v+1))≤1000000000:=Nat.mul_div_le _ _;have hq2:1000000000< (v+1) * (1000000000/ (v+1))+(v+1):=Nat.lt_mul_div_succ _ (by omega);have hq3:1≤1000000000/ (v+1):=by grind
 refine⟨?_,hq1,hq3⟩;obtain⟨q,hq⟩:∃q,q=1000000000/ (v+1):=⟨_,rfl⟩;rw[←hq] at hq1 hq2 hq3⊢;rw[Nat.add_mul] at hq1 hq2;by_cases c1:500000000≤v;have:=Nat.mul_le_mul_left v hq3;omega;by_cases c2:250000000≤v;have:2≤q:=by grind
 have:=Nat.mul_le_mul_left v this;omega;by_cases c3:166666666≤v
 have:4≤q:=by
  rw[hq,Nat.le_div_iff_mul_le (by omega)];omega
 have:=Nat.mul_le_mul_left v this;omega;by_cases c4:v=1;subst c4;omega
 have:q≤333333333:=by
  have:1000000000/ (v+1)≤1000000000/ 3:=Nat.div_le_div_left (by omega) (by omega);omega
 omega
theorem Fh{b n p w u v lo lw:Nat}(hb:0< b)(hp:p=lo+b^ n* u)(hlo:lo< b^ n)(hw:w=lw+b^ n* v)(hlw:lw< b^ n)(hv:b≤2* v)(hvb:v< b)(hq:p< w* b):
    p/ w≤min (u/ v) (b- 1)∧min (u/ v) (b- 1)≤p/ w+2:=by
 have hvp:0< v:=by omega
 have hbn:0< b^ n:=Nat.pow_pos hb;have hwp:0< w:=by grind
 have q1:w* (p/ w)≤p:=Nat.mul_div_le _ _;have q2:p< w* (p/ w)+w:=Nat.lt_mul_div_succ _ hwp;have q3:p/ w< b:=by rw[Nat.div_lt_iff_lt_mul hwp,Nat.mul_comm];grind
 obtain⟨q,hqe⟩:∃q,q=p/ w:=⟨_,rfl⟩;rw[←hqe] at q1 q2 q3⊢;have g1:v* (u/ v)≤u:=Nat.mul_div_le _ _;obtain⟨g,hge⟩:∃g,g=u/ v:=⟨_,rfl⟩;rw[←hge] at g1;constructor;refine Nat.le_min.2 ⟨?_,by omega⟩;rw[←hge,hge,Nat.le_div_iff_mul_le hvp]
 -- q v≤u,for q v b^n≤q w≤p< (u+1) b^n
 have h1:b^ n* (q* v)≤w* q:=by rw[hw,Nat.add_mul,Nat.mul_assoc,Nat.mul_comm v q];omega
 have h2:b^ n* (q* v)< b^ n* (u+1):=by grind
 have:=Nat.lt_of_mul_lt_mul_left h2;omega;rw[←hge]
 -- if min g (b- 1)≥q+3 then(q+3) v≤u and so p≥b^n (q+3) v,but p< w (q+1)
 refine Nat.le_of_not_lt fun hlt=>?_;have hg3:q+3≤g:=by grind
 have hb3:q+3≤b- 1:=by grind
 have h1:v* (q+3)≤u:=Nat.le_trans (Nat.mul_le_mul_left _ hg3) g1;have h2:b^ n* (v* (q+3))≤p:=by rw[hp];have:=Nat.mul_le_mul_left (b^ n) h1;omega
 have h3:w* (q+1)< b^ n* ((v+1) * (q+1))+1:=by
  have:w≤b^ n* (v+1):=by grind
  have:=Nat.mul_le_mul_right (q+1) this;grind
 have h4:p< w* (q+1):=by grind
 have h5:b^ n* (v* (q+3))< b^ n* ((v+1) * (q+1)):=by omega
 have h6:=Nat.lt_of_mul_lt_mul_left h5;grind
section
variable {U v n L s b k:Nat}{R T:Ln}
structure DivI (U v n L:Nat)(R T:Ln)(k:Nat):Prop where
 len:R.length=L
 dig:∀d∈R,d< MB
 digT:∀d∈T,d< MB
 k_le:k+n+T.length=L
 val:U=ofD MB R+v* (MB^ k* ofD MB T)
 top:ofD MB (R.drop k)< v
theorem DivI.start(hR:R.length=L)(hd:∀d∈R,d< MB)(hU:ofD MB R=U)(hn:n≤L)(hb:MB^ (n- 1)≤b)(hn1:1≤n)(hv:v=b* s)(hlt:U< MB^ (L- 1) * s):DivI U v n L R [] (L- n):=by
 refine⟨hR,hd,by simp,by grind,by simp[ofD,hU],?_⟩;have h1:=dQ MB (L- n) R (by omega);have h3:MB^ (L- 1)=MB^ (L- n) * MB^ (n- 1):=by rw[←Nat.pow_add];grind
 rw[h3,Nat.mul_assoc] at hlt;have h4:MB^ (L- n) * ofD MB (R.drop (L- n))< MB^ (L- n) * (MB^ (n- 1) * s):=by omega
 have h5:=Nat.lt_of_mul_lt_mul_left h4;have h6:MB^ (n- 1) * s≤b* s:=Nat.mul_le_mul_right _ hb;omega
theorem DivI.parts(h:DivI U v n L R T (k+1))(hv:v< MB^ n):
    ofD MB (R.drop (k+n+1))=0∧ofD MB ((R.drop k).take (n+1))=ofD MB (R.drop k)∧ofD MB (R.drop k)< v* MB∧((R.drop k).take (n+1)).length=n+1∧R=R.take k++(R.drop k).take (n+1)++R.drop (k+n+1):=by
 have hl:=h.k_le;have hlen:=h.len;have hk:k< R.length:=by omega
 obtain⟨x,hx⟩:∃x,R[k]?=some x:=⟨_,List.getElem?_eq_getElem hk⟩;have hx1:x< MB:=h.dig x (List.mem_of_getElem? hx);have e1:=kp MB hx;have htop:=h.top;have e2:=dQ MB n (R.drop (k+1)) (by grind);rw[List.drop_drop,show k+1+n=k+n+1 by omega] at e2
 have hz:ofD MB (R.drop (k+n+1))=0:=by
  rcases Nat.eq_zero_or_pos (ofD MB (R.drop (k+n+1))) with h0|h0
  exact h0;have:MB^ n* 1≤MB^ n* ofD MB (R.drop (k+n+1)):=Nat.mul_le_mul_left _ h0;omega
 have e3:=dQ MB (n+1) (R.drop k) (by grind);rw[List.drop_drop,show k+(n+1)=k+n+1 by omega,hz] at e3;refine⟨hz,by omega,?_,by grind,?_⟩;have:MB* (ofD MB (R.drop (k+1))+1)≤MB* v:=Nat.mul_le_mul_left _ htop;rw[Nat.mul_add] at this;rw[Nat.mul_comm v MB];omega;rw[List.append_assoc]
 conv=>lhs;rw[←List.take_append_drop k R]
 conv=>lhs;rw[←List.take_append_drop (n+1) (R.drop k)]
 rw[List.drop_drop,show k+(n+1)=k+n+1 by omega]
theorem DivI.next{A:Ln}(h:DivI U v n L R T (k+1))(hv:v< MB^ n)(hv0:0< v)(hA:A=iw MB (n+1) (ofD MB (R.drop k) % v)):
    DivI U v n L (R.take k++A++R.drop (k+n+1)) (ofD MB (R.drop k) / v::T) k:=by
 obtain⟨p1,p2,p3,p4,p5⟩:=h.parts hv;have hl:=h.k_le;have hlen:=h.len
 have hm:ofD MB (R.drop k) % v< MB^ (n+1):=by
  have:=Nat.mod_lt (ofD MB (R.drop k)) hv0;have h2:MB^ n≤MB^ (n+1):=Nat.pow_le_pow_right (by decide) (by omega);omega
 have hAl:A.length=n+1:=by rw[hA];simp
 have hAv:ofD MB A=ofD MB (R.drop k) % v:=by rw[hA];exact oT (by decide) hm
 have hk:(R.take k).length=k:=by simp;omega
 have hval:ofD MB (R.take k++A++R.drop (k+n+1))=ofD MB (R.take k)+MB^ k* (ofD MB (R.drop k) % v):=by
  rw[fY,fY,p1,hk,hAv];simp
 refine⟨by simp[hAl];omega,?_,?_,by simp;omega,?_,?_⟩;intro d hd;rcases List.mem_append.1 hd with hd|hd
 rcases List.mem_append.1 hd with hd|hd
 exact h.dig d (List.mem_of_mem_take hd);rw[hA] at hd;exact rF (by decide) _ _ d hd;exact h.dig d (List.mem_of_mem_drop hd);intro d hd;rcases List.mem_cons.1 hd with rfl|hd
 rw[Nat.div_lt_iff_lt_mul hv0,Nat.mul_comm];exact p3;exact h.digT d hd;rw[hval,ofD,h.val,dQ MB k R (by omega),Nat.pow_succ];have e:=Nat.mod_add_div (ofD MB (R.drop k)) v
 have e2:MB^ k* (ofD MB (R.drop k) % v)+v* (MB^ k* (ofD MB (R.drop k) / v))=MB^ k* ofD MB (R.drop k):=by
  rw[Nat.mul_left_comm,←Nat.mul_add,e]
 rw[Nat.mul_add,Nat.mul_add,←Nat.mul_assoc (MB^ k) MB];omega;rw[List.append_assoc,List.drop_append,hk,Nat.sub_self,List.drop_zero,List.drop_of_length_le (by omega),List.nil_append,fY,p1,hAv];simp;exact Nat.mod_lt _ hv0
theorem DivI.last{a:Nat}(h:DivI U v n L R T 0)(hU:U=a* s)(hv:v=b* s)(hb:0< b)(hs:0< s):ofD MB T=a/ b∧ofD MB R/ s=a % b:=by
 have h1:=h.val;have h2:=h.top;rw[List.drop_zero,hv] at h2;rw[Nat.pow_zero,Nat.one_mul,hU,hv] at h1
 have hq:ofD MB T=a/ b:=by
  have e1:a/ b=a* s/ (b* s):=(Nat.mul_div_mul_right a b hs).symm;rw[e1,h1,Nat.add_mul_div_left _ _ (Nat.mul_pos hb hs),Nat.div_eq_of_lt h2];omega
 have e2:ofD MB R=(a % b) * s:=by
  rw[hq] at h1
  have e3:a* s=(a % b) * s+b* s* (a/ b):=by
   conv=>lhs;rw[←Nat.mod_add_div a b]
   grind
  omega
 simp_all
theorem zi(hl:(az MB n).length=k+1){d:Nat}(hd:(az MB n)[k]?=some d):∃lo,n=lo+MB^ k* d∧lo< MB^ k:=by
 refine⟨ofD MB ((az MB n).take k),?_,?_⟩;have h1:=cV MB hd;rw[←hl,List.take_length,bt (by decide)] at h1;exact h1;have:=fv (b:=MB) (l:=(az MB n).take k) fun d hd=>dn (by decide) n d (List.mem_of_mem_take hd);grind
theorem Bo{vt:Nat}(hl:(az MB b).length=k+1)(hvt:(az MB b)[k]?=some vt)(h0:1≤vt)(h1:500000000≤vt* s)(h2:(vt+1) * s≤1000000000):
    (az MB (b* s)).length=k+1∧MB^ k≤b∧b* s< MB^ (k+1)∧∃v lw,(az MB (b* s))[k]?=some v∧b* s=lw+MB^ k* v∧lw< MB^ k∧500000000≤v∧v< 1000000000:=by
 obtain⟨lo,e1,e2⟩:=zi hl hvt
 have hb1:MB^ k≤b:=by
  have:=Nat.mul_le_mul_left (MB^ k) h0;omega
 have hb2:b< MB^ k* (vt+1):=by grind
 have hs0:0< s:=by grind
 have hv2:b* s< MB^ (k+1):=by
  have h3:b* s< MB^ k* (vt+1) * s:=Nat.mul_lt_mul_of_pos_right hb2 hs0;have h4:MB^ k* ((vt+1) * s)≤MB^ k* MB:=Nat.mul_le_mul_left _ h2;grind
 have hv1:MB^ k* 500000000≤b* s:=by
  have h3:MB^ k* vt* s≤b* s:=Nat.mul_le_mul_right _ (by omega);have h4:MB^ k* 500000000≤MB^ k* (vt* s):=Nat.mul_le_mul_left _ h1;grind
 have hlen:(az MB (b* s)).length=k+1:=by
  have u1:=eH (b:=MB) (by decide) hv2
  have u2:k< (az MB (b* s)).length:=by
   refine Nat.lt_of_not_le fun hle=>?_;have:=fv (b:=MB) (dn (by decide) (b* s));rw[bt (by decide)] at this;have h5:MB^ (az MB (b* s)).length≤MB^ k:=Nat.pow_le_pow_right (by decide) hle;omega
  omega
 obtain⟨v,hv⟩:∃v,(az MB (b* s))[k]?=some v:=⟨_,List.getElem?_eq_getElem (by omega)⟩;obtain⟨lw,f1,f2⟩:=zi hlen hv;refine⟨hlen,hb1,hv2,v,lw,hv,f1,f2,?_,cJ (by decide) hv⟩;have h6:MB^ k* 500000000< MB^ k* (v+1):=by grind
 have:=Nat.lt_of_mul_lt_mul_left h6;omega
theorem EP{A:Ln}{x0 x1:Nat}(hA:A.length=k+2)(h0:A[k]?=some x0)(h1:A[k+1]?=some x1)(hd:∀d∈A,d< MB):∃lo,ofD MB A=lo+MB^ k* (x1* 1000000000+x0)∧lo< MB^ k:=by
 refine⟨ofD MB (A.take k),?_,?_⟩;have e1:=cV MB h1;rw[show k+1+1=A.length by omega,List.take_length] at e1;rw[e1,cV MB h0,Nat.pow_succ,Nat.mul_add,Nat.mul_assoc];have:MB^ k* (MB* x1)=MB^ k* (x1* 1000000000):=by grind
 omega;have:=fv (b:=MB) (l:=A.take k) fun d h=>hd d (List.mem_of_mem_take h);grind
end
section
variable {n:Int}{d k:Nat}
def zI(z:Int):La:=[mag z.natAbs,bln (decide (z< 0))]
def qC(q:Rat):La:=[mag q.num.natAbs,bln (decide (q.num< 0)),mag (q.den- 1)]
def sgn(b:Bool)(m:Nat):Int:=if b then -(m:Int) else m
theorem vv(z:Int):∀c∈zI z,Closed c:=ae (bU _) (ae (ag _) ai)
theorem aZ(q:Rat):∀c∈qC q,Closed c:=ae (bU _) (ae (ag _) (ae (bU _) ai))
theorem ii(z:Int):Closed (.agg (zI z)):=aG (vv z)
theorem aO(q:Rat):Closed (.agg (qC q)):=aG (aZ q)
theorem kK(n:Nat):Closed (.agg [mag n]):=aG (ae (bU n) ai)
theorem fu(b:Bool)(m:Nat):(sgn b m).natAbs=m:=by unfold sgn;grind
theorem sgn_neg(b:Bool)(m:Nat):decide (sgn b m< 0)=(b && !(m==0)):=by
 unfold sgn;grind
theorem ow(z:Int):sgn (decide (z< 0)) z.natAbs=z:=by
 unfold sgn;grind
def qs(q:Rat):Nat:=max (bl q.num.natAbs) (bl q.den)
theorem kq(hd:0< d):(mkRat n d).num=n/ (Nat.gcd n.natAbs d:Int)∧(mkRat n d).den=d/ Nat.gcd n.natAbs d:=by
 unfold mkRat;rw[dif_neg (by omega),Rat.normalize_eq];grind
theorem jl(hd:0< d):(mkRat n d).num=sgn (decide (n< 0)) (n.natAbs/ Nat.gcd n.natAbs d):=by
 rw[(kq hd).1];have hg:0< Nat.gcd n.natAbs d:=Nat.gcd_pos_of_pos_right _ hd;obtain⟨k,hk⟩:=Nat.gcd_dvd_left n.natAbs d;generalize Nat.gcd n.natAbs d=g at hg hk⊢;rw[hk,Nat.mul_div_cancel_left _ hg];unfold sgn;split
 ·rename_i h
  have:=of_decide_eq_true h;have e:n=(g:Int) * (-(k:Int)):=by rw[Int.mul_neg,←Int.natCast_mul];omega
  rw[e,Int.mul_ediv_cancel_left _ (by omega)]
 ·have e:n=(g:Int) * (k:Int):=by grind
  rw[e,Int.mul_ediv_cancel_left _ (by omega)]
theorem eO(a b:Nat):bl (a/ b)≤bl a:=dw (Nat.div_le_self _ _)
theorem gE(hd:0< d)(h1:bl n.natAbs≤k)(h2:bl d≤k):qs (mkRat n d)≤k:=by
 unfold qs;rw[jl hd,fu,(kq hd).2];exact Nat.max_le.2 ⟨Nat.le_trans (eO _ _) h1,Nat.le_trans (eO _ _) h2⟩
theorem qP(a b:Rat):a+b=mkRat (a.num* b.den+b.num* a.den) (a.den* b.den):=by
 rw[Rat.add_def];unfold mkRat;grind
theorem mK(a b:Rat):a* b=mkRat (a.num* b.num) (a.den* b.den):=by
 rw[Rat.mul_def];unfold mkRat;grind
theorem c9(a:Rat):bl a.num.natAbs≤qs a:=Nat.le_max_left _ _
theorem c7(a:Rat):bl a.den≤qs a:=Nat.le_max_right _ _
theorem D0{x y:Int}(hx:bl x.natAbs≤k)(hy:bl y.natAbs≤k):bl (x+y).natAbs≤k+1:=by
 have h1:=dw (Int.natAbs_add_le x y);have h2:=xq x.natAbs y.natAbs;omega
theorem dJ{x y:Int}{j:Nat}(hx:bl x.natAbs≤j)(hy:bl y.natAbs≤k):bl (x* y).natAbs≤j+k:=by
 rw[Int.natAbs_mul];have:=gT x.natAbs y.natAbs;omega
theorem qO(a b:Rat):bl (a.num* b.den+b.num* a.den).natAbs≤qs a+qs b+1∧bl (a.den* b.den)≤qs a+qs b:=by
 have h1:=c9 a;have h2:=c7 a;have h3:=c9 b;have h4:=c7 b;refine⟨D0 (dJ h1 (by grind)) ?_,?_⟩;have:=dJ (x:=b.num) (y:=a.den) h3 (by simpa using h2);omega;have:=gT a.den b.den;omega
theorem pZ(a b:Rat):bl (a.num* b.num).natAbs≤qs a+qs b∧bl (a.den* b.den)≤qs a+qs b:=by
 have h1:=c9 a;have h2:=c7 a;have h3:=c9 b;have h4:=c7 b;refine⟨dJ h1 h3,?_⟩;have:=gT a.den b.den;omega
theorem kG(a b:Rat):0< a.den* b.den:=Nat.mul_pos a.den_pos b.den_pos
theorem iM(a b:Rat):qs (a+b)≤qs a+qs b+1:=by
 rw[qP];have h:=qO a b;exact gE (kG a b) h.1 (by omega)
theorem eV(a b:Rat):qs (a* b)≤qs a+qs b:=by
 rw[mK];have h:=pZ a b;exact gE (kG a b) h.1 h.2
theorem fX(a:Rat):qs (-a)=qs a:=by unfold qs;simp
theorem nZ(a b:Rat):qs (a- b)≤qs a+qs b+1:=by
 rw[Rat.sub_eq_add_neg];have:=iM a (-b);rwa[fX] at this
theorem qE(a b:Rat)(hb:b≠0):a/ b=mkRat (a.num* sgn (decide (b.num< 0)) b.den) (a.den* b.num.natAbs):=by
 rw[Rat.div_def,Rat.inv_def]
 conv=>lhs;rw[←Rat.num_divInt_den a]
 rw[Rat.divInt_mul_divInt];unfold sgn;split
 ·rename_i h
  have h':=of_decide_eq_true h;have hp:0< a.den* b.num.natAbs:=Nat.mul_pos a.den_pos (by omega);have e:(a.den:Int) * b.num= -((a.den* b.num.natAbs:Nat):Int):=by grind
  rw[e,Int.mul_neg];generalize a.den* b.num.natAbs=d at hp⊢;cases d with
  |zero=>omega
  |succ d=>
   rfl
 ·have e:(a.den:Int) * b.num=((a.den* b.num.natAbs:Nat):Int):=by grind
  rw[e];rfl
theorem vo(a b:Rat):bl (a.num* sgn (decide (b.num< 0)) b.den).natAbs≤qs a+qs b∧bl (a.den* b.num.natAbs)≤qs a+qs b:=by
 have h1:=c9 a;have h2:=c7 a;have h3:=c9 b;have h4:=c7 b;refine⟨dJ h1 (by rw[fu];grind),?_⟩;have:=gT a.den b.num.natAbs;omega
theorem fP(a b:Rat):qs (a/ b)≤qs a+qs b:=by
 by_cases hb:b=0;subst hb;rw[Rat.div_def,Rat.inv_zero,Rat.mul_zero];omega;rw[qE a b hb];have h:=vo a b;have hn:b.num≠0:=fun h=>hb (Rat.num_eq_zero.1 h);exact gE (Nat.mul_pos a.den_pos (by omega)) h.1 h.2
end
def sm(q:Rat):Prop:=qs q≤137438953472
instance (q:Rat):Decidable (sm q):=inferInstanceAs (Decidable (_≤_))
theorem sm2{a b:Rat}(ha:sm a)(hb:sm b):qs a+qs b≤549755813888:=by unfold sm at ha hb;omega
def sgZ(z:Int):Int:=if z=0 then 0 else if z< 0 then -1 else 1
def cZ(a b:Rat):Int:=if a< b then -1 else if a=b then 0 else 1
theorem kX{q:Rat}:sgZ q.num< 0↔q< 0:=by
 unfold sgZ;have h1:q.num=0↔q=0:=Rat.num_eq_zero;have h2:0≤q.num↔0≤q:=Rat.num_nonneg;have h3:q< 0↔¬0≤q:=Rat.not_le.symm;rw[h3,←h2];split;omega;split <;> omega
theorem sgZ_num_eq{q:Rat}:sgZ q.num=0↔q=0:=by
 unfold sgZ;rw[←Rat.num_eq_zero];split;simp[*];split <;> simp[*]
theorem sD{q:Rat}:0< sgZ q.num↔0< q:=by
 have h1:= @kX q;have h2:= @sgZ_num_eq q
 have h3:0< q↔¬(q< 0∨q=0):=by
  rw[←Rat.not_le,Rat.le_iff_lt_or_eq]
 rw[h3,←h1,←h2];omega
theorem C3(a b:Rat):cZ a b=if a.num* b.den< b.num* a.den then -1 else if a.num* b.den=b.num* a.den then 0 else 1:=by
 unfold cZ;have h1:=Rat.lt_iff a b
 have h2:a=b↔a.num* b.den=b.num* a.den:=by
  constructor;rintro rfl;rfl;intro h;have:=(Rat.mkRat_eq_iff (n₁:=a.num) (n₂:=b.num) a.den_nz b.den_nz).2 h;rwa[Rat.mkRat_self,Rat.mkRat_self] at this
 by_cases h:a< b;rw[if_pos h,if_pos (h1.1 h)];rw[if_neg h,if_neg (fun x=>h (h1.2 x))];by_cases h':a=b;rw[if_pos h',if_pos (h2.1 h')];rw[if_neg h',if_neg (fun x=>h' (h2.2 x))]
def ci(k:Nat):Rat:=mkRat 1 (2^ k)
theorem oU(q:Rat):q.num< 0↔q< 0:=by
 rw[←kX];unfold sgZ;split;omega;split <;> omega
def cj(q:Rat):Rat:=mkRat q.num.natAbs q.den
theorem rX(q:Rat):cj q=if q< 0 then -q else q:=by
 unfold cj;by_cases h:q< 0;have hn:q.num< 0:=(oU q).2 h;rw[if_pos h];have e:(q.num.natAbs:Int)=(-q).num:=by rw[Rat.neg_num];omega
 rw[e,←Rat.neg_den,Rat.mkRat_self];have hn:¬q.num< 0:=fun e=>h ((oU q).1 e);rw[if_neg h];have e:(q.num.natAbs:Int)=q.num:=by omega
 rw[e,Rat.mkRat_self]
theorem ux(q:Rat):(cj q).num=(q.num.natAbs:Int):=by
 rw[rX];by_cases h:q< 0;rw[if_pos h,Rat.neg_num];have hn:q.num< 0:=(oU q).2 h;omega;rw[if_neg h];have hn:¬q.num< 0:=fun e=>h ((oU q).1 e);omega
theorem uy(q:Rat):(cj q).den=q.den:=by
 rw[rX];split;exact Rat.neg_den ..;rfl
theorem qC_abs(q:Rat):qC (cj q)=zI (sgn false q.num.natAbs)++[mag (q.den- 1)]:=by
 unfold qC zI;rw[ux,uy];rfl
def pE(l:Lq):Lc:=l.map qC
def pA(l:Lq):AV:= .arr (pE l)
def spC(a b:Rat):La:=qC a++qC b
@[simp] theorem qC_length (q:Rat):(qC q).length=3:=rfl
@[simp] theorem spC_length (a b:Rat):(spC a b).length=6:=rfl
@[simp] theorem pT (l:Lq):(pE l).length=l.length:=by simp[pE]
theorem b7{l:Lq}{i:Nat}{q:Rat}(h:l[i]?=some q):(pE l)[i]?=some (qC q):=by simp[pE,h]
theorem kZ(l:Lq)(k:Nat):(pE l).take k=pE (l.take k):=by simp[pE]
theorem uY(l m:Lq):pE (l++m)=pE l++pE m:=by simp[pE]
theorem lc(l:Lq)(i:Nat)(q:Rat):(pE l).set i (qC q)=pE (l.set i q):=by simp[pE,List.map_set]
theorem ec(l:Lq):(pE l).all (·.all AV.one)=true:=by
 simp only[pE,List.all_map,List.all_eq_true];intro q _;rfl
theorem gF(l:Lq):∀e∈pE l,e.length=3:=by intro e he;simp[pE] at he;obtain⟨q,_,rfl⟩:=he;rfl
theorem aL(l:Lq):∀e∈pE l,∀c∈e,Closed c:=by
 intro e he c hc;simp[pE] at he;obtain⟨q,_,rfl⟩:=he;exact aZ q c hc
theorem ap(l:Lq):Closed (pA l):=aR (aL l)
theorem cf(a b:Rat):∀c∈spC a b,Closed c:=fun c hc=>(List.mem_append.1 hc).elim (aZ a c) (aZ b c)
theorem bq(a b:Rat):Closed (.agg (spC a b)):=aG (cf a b)
def zC:La:=[.emp,bln false,.emp]
theorem mag0:mag 0= .arr []:=by unfold mag;rw[ct];rfl
theorem qC0:qC 0=[.arr [],bln false,.arr []]:=by
 show [mag 0,bln (decide ((0:Int)< 0)),mag (1- 1)]=_;rw[mag0];rfl
def smL(l:Lq):Prop:=∀q∈l,sm q
instance (l:Lq):Decidable (smL l):=inferInstanceAs (Decidable (∀q∈l,sm q))
def eb(bf:Int→Bool):Lq→Rat
 |[]=>0
 |x::l=>l.foldl (fun o y=>if bf (cZ y o) then y else o) x
theorem xg(bf:Int→Bool)(l:Lq)(y:Rat):eb bf (l++[y])=if l=[]∨bf (cZ y (eb bf l))=true then y else eb bf l:=by
 cases l with
 |nil=>simp[eb]
 |cons x l=>simp[eb,List.foldl_append]
theorem ij{bf:Int→Bool}:∀{l:Lq},smL l→sm (eb bf l)
 |[],_=>(by decide:sm 0)
 |x::l,h=>by
  have key:∀(l:Lq) (o:Rat),sm o→smL l→sm (l.foldl (fun o y=>if bf (cZ y o) then y else o) o):=by
   intro l
   induction l with
   |nil=>intro o ho _;exact ho
   |cons y l ih=>
    intro o ho hl;refine ih _ ?_ fun q hq=>hl q (List.mem_cons_of_mem _ hq);show sm (if bf (cZ y o)=true then y else o);split;exact hl y (List.mem_cons_self ..);exact ho
  exact key l x (h x (List.mem_cons_self ..)) fun q hq=>h q (List.mem_cons_of_mem _ hq)
def E6(l:Lq):Rat:=eb (fun c=>decide (c< 0)) l
def n5(l:Lq):Rat:=eb (fun c=>decide (0< c)) l
theorem AEval.lenP{P:Program}{id:Nat}{ev:Operand→Option AV}{hp:Hq}{c:Call}{x:Operand}{T:Nat}{d:Nat×Nat}{l:Lq}(hc:c.callee= .builtin .len)(ha:c.args= #[x])(ht:c.argTypes= #[T])(hx:ev x=some (.arr (pE l)))(he:dT P T=some d):
    AEval P id ev hp (.call c) ⟨.v (.int .i64 (l.length:Nat)),[]⟩ []:= .len hc ha ht hx (by simp[rn]) he
section
variable {l p:Lq}
def av:Lq→Lq
 |[]=>[]
 |a::l=>match av l with
  |[]=>if a=0 then [] else [a]
  |b::m=>a::b::m
theorem ej(a:Rat)(l:Lq):av (a::l)=if av l=[] then(if a=0 then [] else [a]) else a::av l:=by
 rw[av];grind
theorem kU(l:Lq)(a:Rat):av (l++[a])=if a=0 then av l else l++[a]:=by
 induction l with
 |nil=>simp[av]
 |cons b l ih=>
  rw[List.cons_append,ej,ih,ej];by_cases h:a=0;simp only[if_pos h];simp_all
theorem b9(l:Lq):(av l).length≤l.length:=by
 induction l with
 |nil=>simp[av]
 |cons a l ih=>rw[ej];grind
theorem pM(l:Lq):av l=l.take (av l).length:=by
 induction l with
 |nil=>simp[av]
 |cons a l ih=>
  rw[ej];grind
theorem dj{q:Rat}(h:q∈av l):q∈l:=by
 rw[pM] at h;grind
theorem sd{q:Rat}(h:(av l).getLast?=some q):q≠0:=by
 induction l with
 |nil=>simp[av] at h
 |cons a l ih=>
  rw[ej] at h;grind
theorem ft(l:Lq):av (av l)=av l:=by
 rcases List.eq_nil_or_concat (av l) with h|⟨m,q,h⟩
 rw[h];rfl;have hq:q≠0:=sd (l:=l) (by grind);rw[h,List.concat_eq_append,kU,if_neg hq]
theorem sr(h:smL l):smL (av l):=fun q hq=>h q (dj hq)
def cC(l:Lq):Int:=(av l).length- 1
def aT(l:Lq):Rat:=(av l).getLastD 0
theorem l9(h:av l≠[]):aT l≠0:=by
 refine sd (l:=l) (q:=(av l).getLastD 0) ?_;rw[List.getLastD_eq_getLast?];cases hl:(av l).getLast? with
 |none=>simp_all
 |some q=>rfl
theorem u6(h:av l=[]):aT l=0:=by unfold aT;grind
theorem fi{n:Nat}(h:(av l).length=n+1):(av l)[n]?=some (aT l):=by
 unfold aT;grind
theorem tl(h:smL l):sm (aT l):=by
 by_cases h0:av l=[];rw[u6 h0];decide;obtain⟨n,hn⟩:∃n,(av l).length=n+1:=⟨(av l).length- 1,by have:=List.length_pos_iff.2 h0;omega⟩;exact h _ (dj (List.mem_of_getElem? (fi hn)))
def bR(n:Nat)(f:Nat→Rat):Lq:=(List.range n).map f
@[simp] theorem tabP_length (n:Nat)(f:Nat→Rat):(bR n f).length=n:=by simp[bR]
def coP(p:Lq)(i:Nat):Rat:=p.getD i 0
def ik(p q:Lq):Lq:=av (bR (max p.length q.length) fun i=>coP p i+coP q i)
def aW(p:Lq)(k:Rat):Lq:=av (bR p.length fun i=>coP p i* k)
def dH(p q:Lq):Lq:=ik p (aW q (-1))
def fe(a:Rat):Lq:=av [a]
def fc(p:Lq):Lq:=av (bR (p.length- 1) fun i=>coP p (i+1) * ((i+1:Nat):Int))
def jV(p:Lq):Lq:=if av p=[] then [] else aW p (1/ aT p)
theorem iS(h:smL p)(i:Nat):sm (coP p i):=by
 unfold coP;rw[List.getD_eq_getElem?_getD];cases hi:p[i]? with
 |none=>exact(by decide:sm 0)
 |some q=>exact h q (List.mem_of_getElem? hi)
theorem bv{i:Nat}(h:i< p.length):p[i]?=some (coP p i):=by
 unfold coP;grind
theorem jf{i:Nat}(h:p.length≤i):coP p i=0:=by
 unfold coP;grind
theorem bH:∀c∈zC,Closed c:=ae aS (ae (ag _) (ae aS ai))
end
def bdL(l:Lq)(n:Nat):Prop:=∀q∈l,qs q≤n
instance (l:Lq) (n:Nat):Decidable (bdL l n):=inferInstanceAs (Decidable (∀q∈l,qs q≤n))
theorem jD{l:Lq}{n:Nat}(h:bdL l n)(hn:n≤137438953472):smL l:=fun q hq=>Nat.le_trans (h q hq) hn
theorem dL{l:Lq}{n:Nat}(h:bdL l n)(hn:1≤n)(i:Nat):qs (coP l i)≤n:=by
 unfold coP;rw[List.getD_eq_getElem?_getD];cases hi:l[i]? with
 |none=>exact Nat.le_trans (by decide:qs 0≤1) hn
 |some q=>exact h q (List.mem_of_getElem? hi)
def zK(o:Lq)(j:Nat)(x:Rat):Lq:=o.set j (coP o j+x)
def ju(o:Lq)(a:Rat)(q:Lq)(i:Nat):Nat→Lq
 |0=>o
 |k+1=>zK (ju o a q i k) (i+k) (a* coP q k)
def eW(p q:Lq):Nat→Lq
 |0=>List.replicate (p.length+q.length- 1) 0
 |i+1=>if coP p i=0 then eW p q i else ju (eW p q i) (coP p i) q i q.length
def ef(p q:Lq):Lq:=if p=[]∨q=[] then [] else av (eW p q p.length)
@[simp] theorem xz (o:Lq)(j:Nat)(x:Rat):(zK o j x).length=o.length:=by simp[zK]
@[simp] theorem xR (o:Lq)(a:Rat)(q:Lq)(i k:Nat):(ju o a q i k).length=o.length:=by
 induction k with
 |zero=>rfl
 |succ k ih=>rw[ju,xz,ih]
@[simp] theorem qZ (p q:Lq)(i:Nat):(eW p q i).length=p.length+q.length- 1:=by
 induction i with
 |zero=>simp[eW]
 |succ i ih=>rw[eW];split <;> simp[ih]
theorem qI(o:Lq)(j n:Nat)(x:Rat):coP (zK o j x) n=if n=j∧j< o.length then coP o j+x else coP o n:=by
 unfold zK coP;rw[List.getD_eq_getElem?_getD,List.getElem?_set,List.getD_eq_getElem?_getD,List.getD_eq_getElem?_getD];by_cases h:j=n;subst h;by_cases h2:j< o.length;simp[h2];simp[h2];rw[if_neg h,if_neg (by omega)]
theorem j7{o:Lq}{n:Nat}(h:∀i,qs (coP o i)≤n):bdL o n:=by
 intro q hq;obtain⟨i,hi,rfl⟩:=List.getElem_of_mem hq;have:=h i;unfold coP at this;rwa[List.getD_eq_getElem?_getD,List.getElem?_eq_getElem hi] at this
theorem sT(o:Lq)(a:Rat)(q:Lq)(i k n:Nat)(h:n< i∨i+k≤n):coP (ju o a q i k) n=coP o n:=by
 induction k with
 |zero=>rfl
 |succ k ih=>rw[ju,qI,if_neg (by omega),ih (by omega)]
theorem B9{o:Lq}{a:Rat}{q:Lq}{B s t:Nat}(i:Nat)(ho:∀n,qs (coP o n)≤B)(ha:qs a≤s)(hq:∀n,qs (coP q n)≤t):∀k n,qs (coP (ju o a q i k) n)≤B+(s+t+1)
 |0,n=>Nat.le_trans (ho n) (by omega)
 |k+1,n=>by
  rw[ju,qI];split;rw[sT o a q i k (i+k) (by omega)];have h1:=iM (coP o (i+k)) (a* coP q k);have h2:=eV a (coP q k);have h3:=ho (i+k);have h4:=hq k;omega;exact B9 i ho ha hq k n
theorem rH{p q:Lq}{s t:Nat}(hp:∀n,qs (coP p n)≤s)(hq:∀n,qs (coP q n)≤t):∀i n,qs (coP (eW p q i) n)≤i* (s+t+1)+1
 |0,n=>by
  have:coP (eW p q 0) n=0:=by
   unfold eW coP;rw[List.getD_eq_getElem?_getD,List.getElem?_replicate];split <;> rfl
  rw[this];exact Nat.le_add_left 1 _
 |i+1,n=>by
  rw[eW,Nat.add_mul,Nat.one_mul];split;have:=rH hp hq i n;omega;have:=B9 (B:=i* (s+t+1)+1) i (rH hp hq i) (hp i) hq q.length n;omega
theorem mulP_bd{p q:Lq}{s t:Nat}(hp:bdL p s)(hq:bdL q t)(hs:1≤s)(ht:1≤t):bdL (ef p q) (p.length* (s+t+1)+1):=by
 unfold ef;split;intro q hq;cases hq;intro x hx;exact j7 (rH (dL hp hs) (dL hq ht) p.length) x (dj hx)
theorem CvLL.zeros{r:Ren}{hp hp':Hq}(h:Shr r hp hp')(n:Nat):CvLL r hp hp' (List.replicate n zC) (pE (List.replicate n 0)):=by
 induction n with
 |zero=>rfl
 |succ n ih=>
  refine⟨qC 0,_,rfl,?_,ih⟩;rw[qC0];exact af (Cv.emp _) (af (ah h (ag _)) (af (Cv.emp _) ax))
def BX(o:Lq)(j:Nat)(x:Rat):Lq:=o.set j (coP o j- x)
def jv(o:Lq)(k:Rat)(q:Lq)(n:Nat):Nat→Lq
 |0=>o
 |i+1=>BX (jv o k q n i) (n+i) (k* coP q i)
def pz(q:Lq)(lead:Rat):Nat→Lq→Lq→Lq×Lq
 |0,u,o=>(u,o)
 |n+1,u,o=>pz q lead n (u.set n (coP o (n+q.length- 1) / lead)) (if coP o (n+q.length- 1) / lead=0 then o else jv o (coP o (n+q.length- 1) / lead) q n q.length)
def j6(p q:Lq):Lq×Lq:=
 let r:=pz (av q) (aT q) ((av p).length+1- (av q).length) (List.replicate ((av p).length+1- (av q).length) 0) (av p)
 (av r.1,av r.2)
@[simp] theorem vJ (o:Lq)(j:Nat)(x:Rat):(BX o j x).length=o.length:=by simp[BX]
@[simp] theorem lZ (o:Lq)(a:Rat)(q:Lq)(i k:Nat):(jv o a q i k).length=o.length:=by
 induction k with
 |zero=>rfl
 |succ k ih=>rw[jv,vJ,ih]
theorem jQ(q:Lq)(lead:Rat):∀c u o,(pz q lead c u o).1.length=u.length∧(pz q lead c u o).2.length=o.length
 |0,u,o=>⟨rfl,rfl⟩
 |n+1,u,o=>by
  refine⟨(jQ q lead n _ _).1.trans (by simp),(jQ q lead n _ _).2.trans ?_⟩;split <;> simp
theorem C0(o:Lq)(j n:Nat)(x:Rat):coP (o.set j x) n=if n=j∧j< o.length then x else coP o n:=by
 unfold coP;grind
theorem vu(o:Lq)(j n:Nat)(x:Rat):coP (BX o j x) n=if n=j∧j< o.length then coP o j- x else coP o n:=C0 o j n _
theorem xT(o:Lq)(a:Rat)(q:Lq)(i k n:Nat)(h:n< i∨i+k≤n):coP (jv o a q i k) n=coP o n:=by
 induction k with
 |zero=>rfl
 |succ k ih=>rw[jv,vu,if_neg (by omega),ih (by omega)]
theorem Cb{o:Lq}{a:Rat}{q:Lq}{B s t:Nat}(i:Nat)(ho:∀n,qs (coP o n)≤B)(ha:qs a≤s)(hq:∀n,qs (coP q n)≤t):∀k n,qs (coP (jv o a q i k) n)≤B+(s+t+1)
 |0,n=>Nat.le_trans (ho n) (by omega)
 |k+1,n=>by
  rw[jv,vu];split;rw[xT o a q i k (i+k) (by omega)];have h1:=nZ (coP o (i+k)) (a* coP q k);have h2:=eV a (coP q k);have h3:=ho (i+k);have h4:=hq k;omega;exact Cb i ho ha hq k n
def Br(q:Lq)(lead:Rat)(L c:Nat)(u o:Lq):Prop:=
 ∃B t,(∀n,qs (coP o n)≤B)∧(∀n,qs (coP q n)≤t)∧qs lead≤t∧1≤t∧(∀n,qs (coP u n)≤L)∧2^ c* (B+2* t+1)≤L
theorem zg{q:Lq}{lead:Rat}{L c:Nat}{u o:Lq}(h:Br q lead L c u o):∃B t,(∀n,qs (coP o n)≤B)∧(∀n,qs (coP q n)≤t)∧qs lead≤t∧B+2* t+1≤L:=by
 obtain⟨B,t,h1,h2,h3,h4,h5,h6⟩:=h;refine⟨B,t,h1,h2,h3,Nat.le_trans ?_ h6⟩;have:=Nat.mul_le_mul_right (B+2* t+1) (Nat.one_le_two_pow (n:=c));omega
theorem vp{q:Lq}{lead:Rat}{L n:Nat}{u o:Lq}(h:Br q lead L (n+1) u o):
    Br q lead L n (u.set n (coP o (n+q.length- 1) / lead)) (if coP o (n+q.length- 1) / lead=0 then o else jv o (coP o (n+q.length- 1) / lead) q n q.length):=by
 obtain⟨B,t,h1,h2,h3,h4,h5,h6⟩:=h;obtain⟨k,hk⟩:∃k,k=coP o (n+q.length- 1) / lead:=⟨_,rfl⟩
 have hkb:qs k≤B+t:=by
  have e1:=fP (coP o (n+q.length- 1)) lead;grind
 rw[←hk];obtain⟨W,hW⟩:∃W,W=2^ n:=⟨_,rfl⟩;have hW1:1≤W:=by grind
 rw[Nat.pow_succ] at h6;have h7:W* (2* B+2* t+1+2* t+1)≤L:=by grind
 have h8:2* B+2* t+1+2* t+1≤L:=by
  have:=Nat.mul_le_mul_right (2* B+2* t+1+2* t+1) hW1;omega
 refine⟨2* B+2* t+1,t,fun j=>?_,h2,h3,h4,fun j=>?_,by grind⟩;split;have:=h1 j;omega;have:=Cb n h1 hkb h2 q.length j;omega;rw[C0];grind
theorem w4{q:Lq}{lead:Rat}{L:Nat}:∀{c u o},Br q lead L c u o→(∀n,qs (coP (pz q lead c u o).1 n)≤L)∧(∀n,qs (coP (pz q lead c u o).2 n)≤L)
 |0,u,o,h=>by
  obtain⟨B,t,h1,h2,h3,h6⟩:=zg h;obtain⟨_,_,_,_,_,_,h5,_⟩:=h;exact⟨h5,fun n=>Nat.le_trans (h1 n) (by omega)⟩
 |n+1,u,o,h=>w4 (c:=n) (vp h)
section
variable {p q:Lq}
def mxL(l:Lq):Nat:=l.foldr (fun q n=>max (qs q) n) 1
theorem dZ(l:Lq):1≤mxL l:=by
 induction l with
 |nil=>exact Nat.le_refl _
 |cons q l ih=>exact Nat.le_trans ih (Nat.le_max_right _ _)
theorem dK(l:Lq):bdL l (mxL l):=by
 induction l with
 |nil=>intro q hq;grind
 |cons a l ih=>
  intro q hq;rcases List.mem_cons.1 hq with rfl|hq
  exact Nat.le_max_left _ _;exact Nat.le_trans (ih q hq) (Nat.le_max_right _ _)
theorem E4{l:Lq}{n:Nat}(h:bdL l n)(hn:1≤n):mxL l≤n:=by
 induction l with
 |nil=>exact hn
 |cons a l ih=>exact Nat.max_le.2 ⟨h a (List.mem_cons_self ..),ih fun q hq=>h q (List.mem_cons_of_mem _ hq)⟩
def yf(p q:Lq):Prop:=2^ ((av p).length+1- (av q).length) * (mxL p+2* mxL q+1)≤137438953472∧p.length≤274877906944∧q.length≤274877906944
instance (p q:Lq):Decidable (yf p q):=inferInstanceAs (Decidable (_∧_∧_))
theorem Bp{s t L:Nat}(hp:bdL p s)(hq:bdL q t)(hs:1≤s)(ht:1≤t)(hq0:av q≠[])(m:Nat)(h:2^ m* (s+2* t+1)≤L):Br (av q) (aT q) L m (List.replicate m 0) (av p):=by
 have hL:1≤L:=by
  have h3:=Nat.mul_le_mul_right (s+2* t+1) (Nat.one_le_two_pow (n:=m));omega
 have hql:=List.length_pos_iff.2 hq0;refine⟨s,t,dL (fun x hx=>hp x (dj hx)) hs,dL (fun x hx=>hq x (dj hx)) ht,hq _ (dj (List.mem_of_getElem? (fi (n:=(av q).length- 1) (by omega)))),ht,fun n=>?_,h⟩
 have:coP (List.replicate m 0) n=0:=by
  unfold coP;rw[List.getD_eq_getElem?_getD,List.getElem?_replicate];split <;> rfl
 rw[this];exact Nat.le_trans (by decide:qs 0≤1) hL
theorem divP_bd{s t L:Nat}(hp:bdL p s)(hq:bdL q t)(hs:1≤s)(ht:1≤t)(hq0:av q≠[])(h:2^ ((av p).length+1- (av q).length) * (s+2* t+1)≤L):bdL (j6 p q).1 L∧bdL (j6 p q).2 L:=by
 have:=w4 (Bp hp hq hs ht hq0 _ h);exact⟨fun x hx=>j7 this.1 x (dj hx),fun x hx=>j7 this.2 x (dj hx)⟩
theorem w6(h:yf p q)(hq0:av q≠[]):smL (j6 p q).1∧smL (j6 p q).2:=
 have:=divP_bd (dK p) (dK q) (dZ p) (dZ q) hq0 h.1
 ⟨jD this.1 (Nat.le_refl _),jD this.2 (Nat.le_refl _)⟩
theorem tW:(j6 p q).1.length≤p.length+1∧(j6 p q).2.length≤p.length:=by
 have h1:=jQ (av q) (aT q) ((av p).length+1- (av q).length) (List.replicate ((av p).length+1- (av q).length) 0) (av p);have h2:=b9 p;have h3:=b9 (pz (av q) (aT q) ((av p).length+1- (av q).length) (List.replicate ((av p).length+1- (av q).length) 0) (av p)).1;have h4:=b9 (pz (av q) (aT q) ((av p).length+1- (av q).length) (List.replicate ((av p).length+1- (av q).length) 0) (av p)).2;rw[h1.1,List.length_replicate] at h3;rw[h1.2] at h4;exact⟨by unfold j6;simp only;omega,by unfold j6;simp only;omega⟩
theorem cm(p:Lq)(k:Rat):(aW p k).length≤p.length:=by
 have:=b9 (bR p.length fun i=>coP p i* k);simpa[aW] using this
theorem Aw(p:Lq):(jV p).length≤p.length:=by
 unfold jV;split;simp;exact cm _ _
def Dz:Nat→Lq→Lq→Option Lq
 |0,_,_=>none
 |f+1,p,q=>if av q=[] then(if smL p then some (jV p) else none) else if yf p q then Dz f q (jV (j6 p q).2) else none
end
def aF:Lq→Rat→Rat
 |[],_=>0
 |a::l,x=>aF l x* x+a
def kO(l:Lq)(k:Nat):Option La:=if k< l.length then some [i64 ((l.length- 1- k:Nat):Int),.agg (qC (coP l (l.length- 1- k)))] else none
theorem qB{l:Lq}{k:Nat}(h:k< l.length):l.drop (l.length- (k+1))=coP l (l.length- 1- k)::l.drop (l.length- k):=by
 have h1:l.length- (k+1)< l.length:=by omega
 rw[List.drop_eq_getElem_cons h1,show l.length- (k+1)+1=l.length- k by omega];congr 1;have:=bv h1;rw[List.getElem?_eq_getElem h1] at this;rw[show l.length- 1- k=l.length- (k+1) by omega];exact Option.some.inj this
theorem tT{x:Rat}{s t:Nat}(hx:qs x≤t):∀{l:Lq},bdL l s→qs (aF l x)≤l.length* (s+t+1)+1
 |[],_=>by show qs 0≤_;exact Nat.le_trans (by decide:qs 0≤1) (Nat.le_add_left 1 _)
 |a::l,h=>by
  have ih:=tT (l:=l) hx fun q hq=>h q (List.mem_cons_of_mem _ hq);have ha:=h a (List.mem_cons_self ..);have h1:=iM (aF l x* x) a;have h2:=eV (aF l x) x;show qs (aF l x* x+a)≤(l.length+1) * (s+t+1)+1;rw[Nat.add_mul,Nat.one_mul];omega
def dP(p:Lq)(x:Rat):Prop:=p.length* (mxL p+qs x+1)+mxL p+qs x+2≤137438953472∧p.length≤274877906944
instance (p:Lq) (x:Rat):Decidable (dP p x):=inferInstanceAs (Decidable (_∧_))
theorem Bh{p:Lq}{x:Rat}(h:dP p x)(k:Nat)(hk:k< p.length):qs (aF (p.drop (p.length- k)) x)+qs x≤549755813888∧qs (aF (p.drop (p.length- k)) x* x)+qs (coP p (p.length- 1- k))≤549755813888:=by
 have h1:=tT (t:=qs x) (Nat.le_refl _) (l:=p.drop (p.length- k)) (s:=mxL p) fun q hq=>dK p q (List.mem_of_mem_drop hq);have h2:=eV (aF (p.drop (p.length- k)) x) x;have h3:=dL (dK p) (dZ p) (p.length- 1- k);have h4:=h.1;have h5:(p.drop (p.length- k)).length* (mxL p+qs x+1)≤p.length* (mxL p+qs x+1):=Nat.mul_le_mul_right _ (by simp);omega
theorem y7{p:Lq}{x:Rat}(h:dP p x):sm (aF p x):=by
 have h1:=tT (t:=qs x) (Nat.le_refl _) (dK p);have h2:=h.1;unfold sm;omega
abbrev Sp:=Rat×Rat
def ya(a b:Sp):Lq:=[a.1* b.1,a.1* b.2,a.2* b.1,a.2* b.2]
def sk(a b:Sp):Sp:=(E6 (ya a b),n5 (ya a b))
def BY(a b:Sp):Sp:=(a.1+b.1,a.2+b.2)
def smS(a:Sp):Prop:=sm a.1∧sm a.2
instance (a:Sp):Decidable (smS a):=inferInstanceAs (Decidable (_∧_))
def ovP(v0 s:Sp):Lq→Sp
 |[]=>v0
 |a::l=>BY (sk (ovP v0 s l) s) (a,a)
def Dl(v0 s:Sp):Lq→Prop
 |[]=>smS v0
 |a::l=>Dl v0 s l∧smL (ya (ovP v0 s l) s)∧sm a∧smS (BY (sk (ovP v0 s l) s) (a,a))
instance okOv_dec (v0 s:Sp):(l:Lq)→Decidable (Dl v0 s l)
 |[]=>inferInstanceAs (Decidable (smS v0))
 |a::l=> @instDecidableAnd _ _ (okOv_dec v0 s l) (inferInstanceAs (Decidable (_∧_∧_)))
theorem okOv_sm{v0 s:Sp}:∀{l:Lq},Dl v0 s l→smS (ovP v0 s l)
 |[],h=>h
 |_::_,h=>h.2.2.2
theorem u5{v0 s:Sp}:∀{l:Lq} (n:Nat),Dl v0 s l→Dl v0 s (l.drop n)
 |_,0,h=>h
 |[],_+1,h=>h
 |_::_,n+1,h=>u5 n h.1
def gX(p:Lq)(s:Sp):Sp:=if¬cZ s.1 s.2≤0∨av p=[] then(0,0) else ovP (aT p,aT p) s ((av p).take ((av p).length- 1))
def wl(p:Lq)(s:Sp):Prop:=smL p∧smS s∧p.length≤274877906944∧Dl (aT p,aT p) s ((av p).take ((av p).length- 1))
instance (p:Lq) (s:Sp):Decidable (wl p s):=inferInstanceAs (Decidable (_∧_∧_∧_))
def tc(p q:Lq):Prop:=p.length* (mxL p+mxL q+1)+1≤137438953472∧mxL q≤137438953472∧p.length≤274877906944∧q.length≤274877906944
instance (p q:Lq):Decidable (tc p q):=inferInstanceAs (Decidable (_∧_∧_∧_))
theorem ye{p q:Lq}(h:tc p q):smL (ef p q):=
 jD (mulP_bd (dK p) (dK q) (dZ p) (dZ q)) h.1
theorem iG(p q:Lq):(ik p q).length≤max p.length q.length:=by
 have:=b9 (bR (max p.length q.length) fun i=>coP p i+coP q i);simpa[ik] using this
theorem og(a:Rat):(fe a).length≤1:=b9 [a]
def cM(q:Lq):Lq→Lq
 |[]=>[]
 |a::l=>ik (ef (cM q l) q) (fe a)
def lf(q:Lq):Lq→Prop
 |[]=>True
 |a::l=>lf q l∧tc (cM q l) q∧sm a∧(ef (cM q l) q).length≤274877906944
instance okComp_dec (q:Lq):(l:Lq)→Decidable (lf q l)
 |[]=>inferInstanceAs (Decidable True)
 |a::l=> @instDecidableAnd _ _ (okComp_dec q l) (inferInstanceAs (Decidable (_∧_∧_)))
theorem qX{q:Lq}:∀{l:Lq} (n:Nat),lf q l→lf q (l.drop n)
 |_,0,h=>h
 |[],_+1,h=>h
 |_::_,n+1,h=>qX n h.1
section
variable {l:Ln}
abbrev UB:Nat:=32768
def iE(l:Ln):Lc:=l.map fun(d:Nat)=>[i64 d]
def hv(l:Ln):Nat:=ofD UB l.reverse
def zd(n:Nat):Ln:=(az UB n).reverse
def zZ(z:Int):La:=[i64 (sgZ z),.arr (iE (zd z.natAbs))]
def fN:Ln→Ln
 |[]=>[]
 |d::l=>if d=0 then fN l else d::l
@[simp] theorem qk (l:Ln):(iE l).length=l.length:=by simp[iE]
theorem jW{i d:Nat}(h:l[i]?=some d):(iE l)[i]?=some [i64 d]:=by simp[iE,h]
theorem iE_take(l:Ln)(k:Nat):(iE l).take k=iE (l.take k):=by simp[iE]
theorem mS(l m:Ln):iE (l++m)=iE l++iE m:=by simp[iE]
theorem n8(l:Ln)(i d:Nat):(iE l).set i [i64 d]=iE (l.set i d):=by simp[iE,List.map_set]
theorem ja(k:Nat):List.replicate k [i64 0]=iE (List.replicate k 0):=by simp[iE]
theorem eF(l:Ln):(iE l).all (·.all AV.one)=true:=by
 simp only[iE,List.all_map,List.all_eq_true];intro d _;rfl
theorem lA(l:Ln):∀e∈iE l,e.length=1:=by intro e he;simp[iE] at he;obtain⟨d,_,rfl⟩:=he;rfl
theorem dq(l:Ln):∀e∈iE l,∀c∈e,Closed c:=by
 intro e he c hc;simp[iE] at he;obtain⟨d,_,rfl⟩:=he;simp at hc;subst hc;exact ag _
theorem eK(l:Ln):Closed (.arr (iE l)):=aR (dq l)
theorem dk(z:Int):∀c∈zZ z,Closed c:=ae (ag _) (ae (eK _) ai)
theorem cP(z:Int):Closed (.agg (zZ z)):=aG (dk z)
theorem zQ(m:Ln)(d:Nat):fg (m++[d])=if d=0 then fg m else m++[d]:=by
 induction m with
 |nil=>simp[fg]
 |cons a m ih=>
  rw[List.cons_append,fg,ih];by_cases hd:d=0;rw[if_pos hd,if_pos hd];rfl;rw[if_neg hd,if_neg hd];cases m <;> rfl
theorem xJ(l:Ln):fN l=(fg l.reverse).reverse:=by
 induction l with
 |nil=>rfl
 |cons d l ih=>
  rw[fN,List.reverse_cons,zQ];split;exact ih;simp
theorem fE(h:∀d∈l,d< UB):fN l=zd (hv l):=by
 rw[xJ,jr (b:=UB) (by decide) (fun d hd=>h d (List.mem_reverse.1 hd))];rfl
theorem jM(n:Nat):hv (zd n)=n:=by unfold hv zd;rw[List.reverse_reverse,bt (by decide)]
theorem iV(n:Nat):∀d∈zd n,d< UB:=fun d hd=>dn (by decide) n d (List.mem_reverse.1 hd)
theorem cI(n:Nat):(zd n).length=(az UB n).length:=List.length_reverse
theorem oY(d:Nat)(l:Ln):hv (d::l)=hv l+UB^ l.length* d:=by
 unfold hv;rw[List.reverse_cons,gI,List.length_reverse]
theorem oX(l:Ln)(d:Nat):hv (l++[d])=hv l* UB+d:=by
 unfold hv;simp[ofD];rw[Nat.mul_comm,Nat.add_comm]
theorem tu:hv []=0:=rfl
theorem mB:zd 0=[]:=by unfold zd;rw[ct];rfl
theorem zd_eq_nil{n:Nat}:zd n=[]↔n=0:=by
 unfold zd;rw[List.reverse_eq_nil_iff];exact fC (by decide)
theorem si(h:∀d∈l,d< UB):fN l=[]↔hv l=0:=by rw[fE h];exact zd_eq_nil
theorem BK:zZ 0=[i64 0,.arr []]:=by unfold zZ;show [i64 0,AV.arr (iE (zd 0))]=_;rw[mB];rfl
theorem CE(h:∀d∈l,d< UB):hv l< UB^ l.length:=by
 have:=fv (b:=UB) (l:=l.reverse) fun d hd=>h d (List.mem_reverse.1 hd);rwa[List.length_reverse] at this
theorem AEval.lenI{P:Program}{id:Nat}{ev:Operand→Option AV}{hp:Hq}{c:Call}{x:Operand}{T:Nat}{d:Nat×Nat}(hc:c.callee= .builtin .len)(ha:c.args= #[x])(ht:c.argTypes= #[T])(hx:ev x=some (.arr (iE l)))(he:dT P T=some d):
    AEval P id ev hp (.call c) ⟨.v (.int .i64 (l.length:Nat)),[]⟩ []:= .len hc ha ht hx (by simp[rn]) he
end
abbrev RQ:=Rat×Bool
def rok(x:RQ):Prop:=x.2=true→x.1=0
def rC(x:RQ):La:=zZ x.1.num++zZ (if x.2 then 0 else(x.1.den:Int))
def rq(q:Rat):RQ:=(q,false)
def r0:RQ:=(0,true)
theorem cY(q:Rat):rok (rq q):=fun h=>by cases h
theorem rok_r0:rok r0:=fun _=>rfl
@[simp] theorem rC_length (x:RQ):(rC x).length=4:=rfl
theorem c8(x:RQ):∀c∈rC x,Closed c:=fun c hc=>(List.mem_append.1 hc).elim (dk _ c) (dk _ c)
theorem fj(x:RQ):Closed (.agg (rC x)):=aG (c8 x)
theorem Cf(q:Rat):rC (rq q)=zZ q.num++zZ (q.den:Int):=rfl
theorem rC_r0:rC r0=[i64 0,.arr [],i64 0,.arr []]:=by
 show zZ 0++zZ 0=_;rw[BK];rfl
def rE(l:List RQ):Lc:=l.map rC
@[simp] theorem rE_length (l:List RQ):(rE l).length=l.length:=by simp[rE]
theorem jT{l:List RQ}{i:Nat}{q:RQ}(h:l[i]?=some q):(rE l)[i]?=some (rC q):=by simp[rE,h]
theorem rE_take(l:List RQ)(k:Nat):(rE l).take k=rE (l.take k):=by simp[rE]
theorem eo(l:List RQ):(rE l).all (·.all AV.one)=true:=by
 simp only[rE,List.all_map,List.all_eq_true];intro q _;rfl
theorem rA(l:List RQ):∀e∈rE l,e.length=4:=by
 intro e he;obtain⟨q,_,rfl⟩:=List.mem_map.1 he;rfl
theorem fJ(l:List RQ):∀e∈rE l,∀c∈e,Closed c:=by
 intro e he c hc;obtain⟨q,_,rfl⟩:=List.mem_map.1 he;exact c8 q c hc
theorem b8(l:List RQ):Closed (.arr (rE l)):=aR (fJ l)
theorem AEval.lenR{P:Program}{id:Nat}{ev:Operand→Option AV}{hp:Hq}{c:Call}{x:Operand}{T:Nat}{d:Nat×Nat}{l:List RQ}(hc:c.callee= .builtin .len)(ha:c.args= #[x])(ht:c.argTypes= #[T])(hx:ev x=some (.arr (rE l)))(he:dT P T=some d):
    AEval P id ev hp (.call c) ⟨.v (.int .i64 (l.length:Nat)),[]⟩ []:= .len hc ha ht hx (by simp[rn]) he
theorem Dc{n:Int}{d:Nat}(hd:0< d):sgZ (mkRat n d).num=sgZ n:=by
 rw[jl hd];have hg:0< Nat.gcd n.natAbs d:=Nat.gcd_pos_of_pos_right _ hd;have h1:n≠0→0< n.natAbs/ Nat.gcd n.natAbs d:=fun h=>Nat.div_pos (Nat.gcd_le_left _ (by omega)) hg;unfold sgZ sgn;by_cases h0:n=0;subst h0;simp;have:=h1 h0;by_cases hn:n< 0;simp[hn,h0];omega;simp[hn,h0];omega
theorem oe(n d:Int)(hd:d< 0):Rat.divInt n d=mkRat (-n) d.natAbs:=by
 obtain⟨m,rfl⟩:∃m:Nat,d=Int.negSucc m:=⟨d.natAbs- 1,by omega⟩;rfl
theorem od(n d:Int)(hd:0< d):Rat.divInt n d=mkRat n d.natAbs:=by
 obtain⟨m,rfl⟩:∃m:Nat,d=(m:Int):=⟨d.natAbs,by omega⟩;rfl
theorem tV(a b:Rat):a/ b=Rat.divInt (a.num* b.den) (a.den* b.num):=by
 rw[Rat.div_def,Rat.inv_def]
 conv=>lhs;rw[←Rat.num_divInt_den a]
 rw[Rat.divInt_mul_divInt]
abbrev nQ(n:Nat):Rat:=((n:Int):Rat)
theorem nQ_eq(n:Nat):nQ n=mkRat n 1:=(Rat.mkRat_one n).symm
theorem nQ_zero{n:Nat}:nQ n=0↔n=0:=by simp
theorem nO{n k:Nat}(h:bl n≤k)(hk:1≤k):qs (nQ n)≤k:=by
 refine Nat.max_le.2 ⟨?_,?_⟩;show bl ((n:Int)).natAbs≤k;rwa[Int.natAbs_natCast];show bl 1≤k;rw[j9];grind
theorem E2(a b:Nat):nQ a* nQ b=nQ (a* b):=by grind
theorem nQ_sub{a b:Nat}(h:b≤a):nQ a- nQ b=nQ (a- b):=by
 rw[←Rat.intCast_sub];congr 1;omega
theorem Av(a b:Nat)(hb:b≠0):nQ a/ nQ b=mkRat a b:=by
 rw[tV];simp
theorem Dw(a b:Nat)(hb:b≠0)(h:b∣a):mkRat a b=nQ (a/ b):=by
 obtain⟨k,rfl⟩:=h;rw[Nat.mul_div_cancel_left _ (by omega),nQ_eq,Rat.mkRat_eq_iff hb (by decide),Int.natCast_mul,Int.mul_comm (b:Int)];simp
theorem yk(a b:Nat)(hb:b≠0):(mkRat a b).floor=((a/ b:Nat):Int):=by
 have h:=kq (n:=(a:Int)) (d:=b) (by omega);rw[Int.natAbs_natCast] at h;rw[Rat.floor_def,h.1,h.2,←Int.natCast_ediv,←Int.natCast_ediv,Nat.div_div_eq_div_mul,Nat.mul_div_cancel' (Nat.gcd_dvd_right a b)]
def tZ:Lq→Nat→Nat
 |[],d=>d
 |c::l,d=>tZ l (Nat.lcm d c.den)
def rp(c:Rat)(D:Nat):Nat:=c.num.natAbs* (D/ c.den)
def Do(D:Nat):Lq→Nat→Nat
 |[],n=>n
 |c::l,n=>Do D l (Nat.gcd n (rp c D))
def er(p:Lq):Lq:=aW (av p) (nQ (tZ (av p) 1) / nQ (Do (tZ (av p) 1) (av p) 0))
def wj(p:Lq):Prop:=(p.length+4) * mxL p≤34359738368∧p.length≤274877906944
instance (p:Lq):Decidable (wj p):=inferInstanceAs (Decidable (_∧_))
theorem Cz{a b:Nat}(ha:a≠0)(hb:b≠0):Nat.lcm a b≠0:=by simp_all
theorem CV:∀(l:Lq) {d:Nat},d≠0→tZ l d≠0
 |[],_,h=>h
 |c::l,_,h=>CV l (Cz h c.den_nz)
theorem tY:∀(l:Lq) (d:Nat),d∣tZ l d∧∀c∈l,c.den∣tZ l d
 |[],d=>⟨Nat.dvd_refl d,fun _ h=>by cases h⟩
 |c::l,d=>by
  obtain⟨h1,h2⟩:=tY l (Nat.lcm d c.den);refine⟨Nat.dvd_trans (Nat.dvd_lcm_left d c.den) h1,fun x hx=>?_⟩;rcases List.mem_cons.1 hx with rfl|hx
  exact Nat.dvd_trans (Nat.dvd_lcm_right d x.den) h1;exact h2 x hx
theorem bl_lcm(a b:Nat):bl (Nat.lcm a b)≤bl a+bl b:=
 Nat.le_trans (eO _ _) (gT a b)
theorem CW{s:Nat}:∀(l:Lq) (d:Nat),bdL l s→bl (tZ l d)≤bl d+l.length* s
 |[],d,_=>by simp[tZ]
 |c::l,d,h=>by
  have h1:=CW l (Nat.lcm d c.den) fun q hq=>h q (List.mem_cons_of_mem _ hq);have h2:=bl_lcm d c.den;have h3:=c7 c;have h4:=h c (List.mem_cons_self ..);rw[List.length_cons,Nat.add_mul];unfold tZ;omega
theorem E5(c:Rat)(D:Nat)(h:c.den∣D):cj (c* nQ D)=nQ (rp c D):=by
 obtain⟨k,rfl⟩:=h;have hd:=c.den_nz
 have e:c* nQ (c.den* k)=((c.num* (k:Int):Int):Rat):=by
  rw[mK];show mkRat (c.num* ((c.den* k:Nat):Int)) (c.den* 1)=_;rw[show((c.num* (k:Int):Int):Rat)=mkRat (c.num* k) 1 from(Rat.mkRat_one _).symm,Rat.mkRat_eq_iff (by omega) (by decide)];grind
 rw[e];unfold cj rp;show mkRat (((c.num* (k:Int)).natAbs:Nat):Int) 1=_;rw[Nat.mul_div_cancel_left _ (by omega),Int.natAbs_mul,Int.natAbs_natCast,nQ_eq]
theorem yh(D:Nat):∀(l:Lq) (n:Nat),Do D l n∣n∧∀c∈l,Do D l n∣rp c D
 |[],n=>⟨Nat.dvd_refl n,fun _ h=>by cases h⟩
 |c::l,n=>by
  obtain⟨h1,h2⟩:=yh D l (Nat.gcd n (rp c D));refine⟨Nat.dvd_trans h1 (Nat.gcd_dvd_left _ _),fun x hx=>?_⟩;rcases List.mem_cons.1 hx with rfl|hx
  exact Nat.dvd_trans h1 (Nat.gcd_dvd_right _ _);exact h2 x hx
theorem intC_ne{c:Rat}{D:Nat}(h:c.den∣D)(hD:D≠0)(hc:c≠0):rp c D≠0:=by
 obtain⟨k,rfl⟩:=h;unfold rp;rw[Nat.mul_div_cancel_left _ c.den_pos];have h1:c.num≠0:=fun e=>hc (Rat.num_eq_zero.1 e);refine Nat.mul_ne_zero (by omega) fun e=>hD (by grind)
theorem CC(c:Rat)(D:Nat):bl (rp c D)≤qs c+bl D:=by
 have h1:=gT c.num.natAbs (D/ c.den);have h2:=eO D c.den;have h3:=c9 c;unfold rp;omega
end Go.Abs
