/- Part V13 of the proof. -/
import Derived.Test.YtdgbhlkabelmbaaGreatDoorV12
set_option linter.all false
namespace Go.Abs
def iO(b:Nat):Nat→Nat→List Nat
 |0,_=>[]
 |n+1,m=>m % b::iO b n (m/ b)
@[simp] theorem j2 (b:Nat):∀n m,(iO b n m).length=n
 |0,_=>rfl
 |n+1,m=>by simp[iO,j2 b n]
theorem si{b:Nat}(hb:0< b):∀n m,∀d∈iO b n m,d< b
 |0,_,d,h=>by cases h
 |n+1,m,d,h=>by
  rcases List.mem_cons.1 h with rfl|h
  exact Nat.mod_lt _ hb;exact si hb n _ d h
theorem pi{b:Nat}(hb:0< b):∀{n m:Nat},m< b^ n→ofD b (iO b n m)=m
 |0,m,h=>by simp at h;subst h;rfl
 |n+1,m,h=>by
  rw[iO,ofD,pi hb (by rw[Nat.div_lt_iff_lt_mul hb];exact h)];exact Nat.mod_add_div m b
theorem zj{b:Nat}:∀{l:List Nat},(∀d∈l,d< b)→iO b l.length (ofD b l)=l
 |[],_=>rfl
 |d::l,h=>by
  have a:=h d (List.mem_cons_self ..);have h1:ofD b (d::l) % b=d:=by rw[ofD,Nat.add_mul_mod_self_left];exact Nat.mod_eq_of_lt a
  have e:ofD b (d::l) / b=ofD b l:=by rw[ofD,Nat.add_mul_div_left _ _ (by omega),Nat.div_eq_of_lt a];omega
  rw[List.length_cons,iO,h1,e,zj fun x c=>h x (List.mem_cons_of_mem _ c)]
theorem yh{b n m:Nat}{l:List Nat}(h:∀d∈l,d< b)(hl:l.length=n)(hv:ofD b l=m):l=iO b n m:=by
 subst hl hv;exact(zj h).symm
theorem EG{v:Nat}(h1:1≤v)(h2:v< 1000000000):500000000≤v* (1000000000/ (v+1))∧(v+1) * (1000000000/ (v+1))≤1000000000∧1≤1000000000/ (v+1):=by
 have hq1:(v+1) * (1000000000/ (v+1))≤1000000000:=Nat.mul_div_le _ _;have b:1000000000< (v+1) * (1000000000/ (v+1))+(v+1):=Nat.lt_mul_div_succ _ (by omega);have a:1≤1000000000/ (v+1):=by grind
 refine⟨?_,hq1,a⟩;obtain⟨q,c⟩:∃q,q=1000000000/ (v+1):=⟨_,rfl⟩;rw[←c] at hq1 b a⊢;rw[Nat.add_mul] at hq1 b;by_cases c1:500000000≤v;have:=Nat.mul_le_mul_left v a;omega;by_cases c2:250000000≤v;have:2≤q:=by grind
 have:=Nat.mul_le_mul_left v this;omega;by_cases c3:166666666≤v
 have:4≤q:=by
  rw[c,Nat.le_div_iff_mul_le (by omega)];omega
 have:=Nat.mul_le_mul_left v this;omega;by_cases c4:v=1;subst c4;omega
 have:q≤333333333:=by
  have:1000000000/ (v+1)≤1000000000/ 3:=Nat.div_le_div_left (by omega) (by omega);omega
 omega
theorem Hd{b n p w u v lo lw:Nat}(hb:0< b)(hp:p=lo+b^ n* u)(hlo:lo< b^ n)(hw:w=lw+b^ n* v)(hlw:lw< b^ n)(hv:b≤2* v)(hvb:v< b)(hq:p< w* b):
    p/ w≤min (u/ v) (b- 1)∧min (u/ v) (b- 1)≤p/ w+2:=by
 have f:0< v:=by omega
 have m:0< b^ n:=Nat.pow_pos hb;have c:0< w:=by grind
 have q1:w* (p/ w)≤p:=Nat.mul_div_le _ _;have q2:p< w* (p/ w)+w:=Nat.lt_mul_div_succ _ c;have q3:p/ w< b:=by rw[Nat.div_lt_iff_lt_mul c,Nat.mul_comm];grind
 obtain⟨q,e⟩:∃q,q=p/ w:=⟨_,rfl⟩;rw[←e] at q1 q2 q3⊢;have h:v* (u/ v)≤u:=Nat.mul_div_le _ _;obtain⟨g,a⟩:∃g,g=u/ v:=⟨_,rfl⟩;rw[←a] at h;constructor;refine Nat.le_min.2 ⟨?_,by omega⟩;rw[←a,a,Nat.le_div_iff_mul_le f]
 -- q v≤u,for q v b^n≤q w≤p< (u+1) b^n
 have h1:b^ n* (q* v)≤w* q:=by rw[hw,Nat.add_mul,Nat.mul_assoc,Nat.mul_comm v q];omega
 have i:b^ n* (q* v)< b^ n* (u+1):=by grind
 have:=Nat.lt_of_mul_lt_mul_left i;omega;rw[←a]
 -- if min g (b- 1)≥q+3 then(q+3) v≤u and so p≥b^n (q+3) v,but p< w (q+1)
 refine Nat.le_of_not_lt fun l=>?_;have d:q+3≤g:=by grind
 have k:q+3≤b- 1:=by grind
 have h1:v* (q+3)≤u:=Nat.le_trans (Nat.mul_le_mul_left _ d) h;have i:b^ n* (v* (q+3))≤p:=by rw[hp];have:=Nat.mul_le_mul_left (b^ n) h1;omega
 have o:w* (q+1)< b^ n* ((v+1) * (q+1))+1:=by
  have:w≤b^ n* (v+1):=by grind
  have:=Nat.mul_le_mul_right (q+1) this;grind
 have r:p< w* (q+1):=by grind
 have j:b^ n* (v* (q+3))< b^ n* ((v+1) * (q+1)):=by omega
 have s:=Nat.lt_of_mul_lt_mul_left j;grind
structure DivI (U v n L:Nat)(R T:List Nat)(k:Nat):Prop where
 len:R.length=L
 dig:∀d∈R,d< MB
 digT:∀d∈T,d< MB
 k_le:k+n+T.length=L
 val:U=ofD MB R+v* (MB^ k* ofD MB T)
 top:ofD MB (R.drop k)< v
theorem DivI.start{U v n L s b:Nat}{R:List Nat}(hR:R.length=L)(hd:∀d∈R,d< MB)(hU:ofD MB R=U)(hn:n≤L)(hb:MB^ (n- 1)≤b)(hn1:1≤n)(hv:v=b* s)(hlt:U< MB^ (L- 1) * s):DivI U v n L R [] (L- n):=by
 refine⟨hR,hd,by simp,by grind,by simp[ofD,hU],?_⟩;have h1:=dS MB (L- n) R (by omega);have c:MB^ (L- 1)=MB^ (L- n) * MB^ (n- 1):=by rw[←Nat.pow_add];grind
 rw[c,Nat.mul_assoc] at hlt;have a:MB^ (L- n) * ofD MB (R.drop (L- n))< MB^ (L- n) * (MB^ (n- 1) * s):=by omega
 have f:=Nat.lt_of_mul_lt_mul_left a;have e:MB^ (n- 1) * s≤b* s:=Nat.mul_le_mul_right _ hb;omega
theorem DivI.parts{U v n L k:Nat}{R T:List Nat}(h:DivI U v n L R T (k+1))(hv:v< MB^ n):
    ofD MB (R.drop (k+n+1))=0∧ofD MB ((R.drop k).take (n+1))=ofD MB (R.drop k)∧ofD MB (R.drop k)< v* MB∧((R.drop k).take (n+1)).length=n+1∧R=R.take k++(R.drop k).take (n+1)++R.drop (k+n+1):=by
 have j:=h.k_le;have d:=h.len;have g:k< R.length:=by omega
 obtain⟨x,c⟩:∃x,R[k]?=some x:=⟨_,List.getElem?_eq_getElem g⟩;have f:x< MB:=h.dig x (List.mem_of_getElem? c);have e1:=kF MB c;have a:=h.top;have e2:=dS MB n (R.drop (k+1)) (by grind);rw[List.drop_drop,show k+1+n=k+n+1 by omega] at e2
 have e:ofD MB (R.drop (k+n+1))=0:=by
  rcases Nat.eq_zero_or_pos (ofD MB (R.drop (k+n+1))) with b|b
  exact b;have:MB^ n* 1≤MB^ n* ofD MB (R.drop (k+n+1)):=Nat.mul_le_mul_left _ b;omega
 have i:=dS MB (n+1) (R.drop k) (by grind);rw[List.drop_drop,show k+(n+1)=k+n+1 by omega,e] at i;refine⟨e,by omega,?_,by grind,?_⟩;have:MB* (ofD MB (R.drop (k+1))+1)≤MB* v:=Nat.mul_le_mul_left _ a;rw[Nat.mul_add] at this;rw[Nat.mul_comm v MB];omega;rw[List.append_assoc]
 conv=>lhs;rw[←List.take_append_drop k R]
 conv=>lhs;rw[←List.take_append_drop (n+1) (R.drop k)]
 rw[List.drop_drop,show k+(n+1)=k+n+1 by omega]
theorem DivI.next{U v n L k:Nat}{R T A:List Nat}(h:DivI U v n L R T (k+1))(hv:v< MB^ n)(hv0:0< v)(hA:A=iO MB (n+1) (ofD MB (R.drop k) % v)):
    DivI U v n L (R.take k++A++R.drop (k+n+1)) (ofD MB (R.drop k) / v::T) k:=by
 obtain⟨p1,p2,j,m,q⟩:=h.parts hv;have o:=h.k_le;have i:=h.len
 have l:ofD MB (R.drop k) % v< MB^ (n+1):=by
  have:=Nat.mod_lt (ofD MB (R.drop k)) hv0;have p:MB^ n≤MB^ (n+1):=Nat.pow_le_pow_right (by decide) (by omega);omega
 have f:A.length=n+1:=by rw[hA];simp
 have c:ofD MB A=ofD MB (R.drop k) % v:=by rw[hA];exact pi (by decide) l
 have g:(R.take k).length=k:=by simp;omega
 have b:ofD MB (R.take k++A++R.drop (k+n+1))=ofD MB (R.take k)+MB^ k* (ofD MB (R.drop k) % v):=by
  rw[gw,gw,p1,g,c];simp
 refine⟨by simp[f];omega,?_,?_,by simp;omega,?_,?_⟩;intro d a;rcases List.mem_append.1 a with a|a
 rcases List.mem_append.1 a with a|a
 exact h.dig d (List.mem_of_mem_take a);rw[hA] at a;exact si (by decide) _ _ d a;exact h.dig d (List.mem_of_mem_drop a);intro d a;rcases List.mem_cons.1 a with rfl|a
 rw[Nat.div_lt_iff_lt_mul hv0,Nat.mul_comm];exact j;exact h.digT d a;rw[b,ofD,h.val,dS MB k R (by omega),Nat.pow_succ];have e:=Nat.mod_add_div (ofD MB (R.drop k)) v
 have e2:MB^ k* (ofD MB (R.drop k) % v)+v* (MB^ k* (ofD MB (R.drop k) / v))=MB^ k* ofD MB (R.drop k):=by
  rw[Nat.mul_left_comm,←Nat.mul_add,e]
 rw[Nat.mul_add,Nat.mul_add,←Nat.mul_assoc (MB^ k) MB];omega;rw[List.append_assoc,List.drop_append,g,Nat.sub_self,List.drop_zero,List.drop_of_length_le (by omega),List.nil_append,gw,p1,c];simp;exact Nat.mod_lt _ hv0
theorem DivI.last{U v n L a b s:Nat}{R T:List Nat}(h:DivI U v n L R T 0)(hU:U=a* s)(hv:v=b* s)(hb:0< b)(hs:0< s):ofD MB T=a/ b∧ofD MB R/ s=a % b:=by
 have h1:=h.val;have c:=h.top;rw[List.drop_zero,hv] at c;rw[Nat.pow_zero,Nat.one_mul,hU,hv] at h1
 have d:ofD MB T=a/ b:=by
  have e1:a/ b=a* s/ (b* s):=(Nat.mul_div_mul_right a b hs).symm;rw[e1,h1,Nat.add_mul_div_left _ _ (Nat.mul_pos hb hs),Nat.div_eq_of_lt c];omega
 have e2:ofD MB R=(a % b) * s:=by
  rw[d] at h1
  have e:a* s=(a % b) * s+b* s* (a/ b):=by
   conv=>lhs;rw[←Nat.mod_add_div a b]
   grind
  omega
 simp_all
theorem Az{n k:Nat}(hl:(aw MB n).length=k+1){d:Nat}(hd:(aw MB n)[k]?=some d):∃lo,n=lo+MB^ k* d∧lo< MB^ k:=by
 refine⟨ofD MB ((aw MB n).take k),?_,?_⟩;have h1:=cC MB hd;rw[←hl,List.take_length,bt (by decide)] at h1;exact h1;have:=fq (b:=MB) (l:=(aw MB n).take k) fun d hd=>dI (by decide) n d (List.mem_of_mem_take hd);grind
theorem CH{b s vt k:Nat}(hl:(aw MB b).length=k+1)(hvt:(aw MB b)[k]?=some vt)(h0:1≤vt)(h1:500000000≤vt* s)(h2:(vt+1) * s≤1000000000):
    (aw MB (b* s)).length=k+1∧MB^ k≤b∧b* s< MB^ (k+1)∧∃v lw,(aw MB (b* s))[k]?=some v∧b* s=lw+MB^ k* v∧lw< MB^ k∧500000000≤v∧v< 1000000000:=by
 obtain⟨lo,e1,e2⟩:=Az hl hvt
 have d:MB^ k≤b:=by
  have:=Nat.mul_le_mul_left (MB^ k) h0;omega
 have hb2:b< MB^ k* (vt+1):=by grind
 have e:0< s:=by grind
 have c:b* s< MB^ (k+1):=by
  have h:b* s< MB^ k* (vt+1) * s:=Nat.mul_lt_mul_of_pos_right hb2 e;have j:MB^ k* ((vt+1) * s)≤MB^ k* MB:=Nat.mul_le_mul_left _ h2;grind
 have g:MB^ k* 500000000≤b* s:=by
  have h:MB^ k* vt* s≤b* s:=Nat.mul_le_mul_right _ (by omega);have j:MB^ k* 500000000≤MB^ k* (vt* s):=Nat.mul_le_mul_left _ h1;grind
 have a:(aw MB (b* s)).length=k+1:=by
  have u1:=fw (b:=MB) (by decide) c
  have u2:k< (aw MB (b* s)).length:=by
   refine Nat.lt_of_not_le fun f=>?_;have:=fq (b:=MB) (dI (by decide) (b* s));rw[bt (by decide)] at this;have n:MB^ (aw MB (b* s)).length≤MB^ k:=Nat.pow_le_pow_right (by decide) f;omega
  omega
 obtain⟨v,hv⟩:∃v,(aw MB (b* s))[k]?=some v:=⟨_,List.getElem?_eq_getElem (by omega)⟩;obtain⟨lw,i,m⟩:=Az a hv;refine⟨a,d,c,v,lw,hv,i,m,?_,cv (by decide) hv⟩;have l:MB^ k* 500000000< MB^ k* (v+1):=by grind
 have:=Nat.lt_of_mul_lt_mul_left l;omega
theorem GE{A:List Nat}{k x0 x1:Nat}(hA:A.length=k+2)(h0:A[k]?=some x0)(h1:A[k+1]?=some x1)(hd:∀d∈A,d< MB):∃lo,ofD MB A=lo+MB^ k* (x1* 1000000000+x0)∧lo< MB^ k:=by
 refine⟨ofD MB (A.take k),?_,?_⟩;have e1:=cC MB h1;rw[show k+1+1=A.length by omega,List.take_length] at e1;rw[e1,cC MB h0,Nat.pow_succ,Nat.mul_add,Nat.mul_assoc];have:MB^ k* (MB* x1)=MB^ k* (x1* 1000000000):=by grind
 omega;have:=fq (b:=MB) (l:=A.take k) fun d h=>hd d (List.mem_of_mem_take h);grind
def zI(z:Int):List AV:=[mag z.natAbs,bln (decide (z< 0))]
def qC(q:Rat):List AV:=[mag q.num.natAbs,bln (decide (q.num< 0)),mag (q.den- 1)]
def sgn(b:Bool)(m:Nat):Int:=if b then -(m:Int) else m
theorem wD(z:Int):∀c∈zI z,Closed c:=ac (b6 _) (ac (ag _) af)
theorem aZ(q:Rat):∀c∈qC q,Closed c:=ac (b6 _) (ac (ag _) (ac (b6 _) af))
theorem iD(z:Int):Closed (.agg (zI z)):=aC (wD z)
theorem aT(q:Rat):Closed (.agg (qC q)):=aC (aZ q)
theorem closed_mA(n:Nat):Closed (.agg [mag n]):=aC (ac (b6 n) af)
theorem fl(b:Bool)(m:Nat):(sgn b m).natAbs=m:=by unfold sgn;grind
theorem sgn_neg(b:Bool)(m:Nat):decide (sgn b m< 0)=(b && !(m==0)):=by
 unfold sgn;grind
theorem oT(z:Int):sgn (decide (z< 0)) z.natAbs=z:=by
 unfold sgn;grind
def qs(q:Rat):Nat:=max (bl q.num.natAbs) (bl q.den)
theorem kG{n:Int}{d:Nat}(hd:0< d):(mkRat n d).num=n/ (Nat.gcd n.natAbs d:Int)∧(mkRat n d).den=d/ Nat.gcd n.natAbs d:=by
 unfold mkRat;rw[dif_neg (by omega),Rat.normalize_eq];grind
theorem jl{n:Int}{d:Nat}(hd:0< d):(mkRat n d).num=sgn (decide (n< 0)) (n.natAbs/ Nat.gcd n.natAbs d):=by
 rw[(kG hd).1];have hg:0< Nat.gcd n.natAbs d:=Nat.gcd_pos_of_pos_right _ hd;obtain⟨k,a⟩:=Nat.gcd_dvd_left n.natAbs d;generalize Nat.gcd n.natAbs d=g at hg a⊢;rw[a,Nat.mul_div_cancel_left _ hg];unfold sgn;split
 ·rename_i h
  have:=of_decide_eq_true h;have e:n=(g:Int) * (-(k:Int)):=by rw[Int.mul_neg,←Int.natCast_mul];omega
  rw[e,Int.mul_ediv_cancel_left _ (by omega)]
 ·have e:n=(g:Int) * (k:Int):=by grind
  rw[e,Int.mul_ediv_cancel_left _ (by omega)]
theorem eM(a b:Nat):bl (a/ b)≤bl a:=dJ (Nat.div_le_self _ _)
theorem fo{n:Int}{d:Nat}(hd:0< d){k:Nat}(h1:bl n.natAbs≤k)(h2:bl d≤k):qs (mkRat n d)≤k:=by
 unfold qs;rw[jl hd,fl,(kG hd).2];exact Nat.max_le.2 ⟨Nat.le_trans (eM _ _) h1,Nat.le_trans (eM _ _) h2⟩
theorem wM(a b:Rat):a+b=mkRat (a.num* b.den+b.num* a.den) (a.den* b.den):=by
 rw[Rat.add_def];unfold mkRat;grind
theorem mS(a b:Rat):a* b=mkRat (a.num* b.num) (a.den* b.den):=by
 rw[Rat.mul_def];unfold mkRat;grind
theorem dW(a:Rat):bl a.num.natAbs≤qs a:=Nat.le_max_left _ _
theorem dM(a:Rat):bl a.den≤qs a:=Nat.le_max_right _ _
theorem wH{x y:Int}{k:Nat}(hx:bl x.natAbs≤k)(hy:bl y.natAbs≤k):bl (x+y).natAbs≤k+1:=by
 have h1:=dJ (Int.natAbs_add_le x y);have a:=yC x.natAbs y.natAbs;omega
theorem eY{x y:Int}{j k:Nat}(hx:bl x.natAbs≤j)(hy:bl y.natAbs≤k):bl (x* y).natAbs≤j+k:=by
 rw[Int.natAbs_mul];have:=iH x.natAbs y.natAbs;omega
theorem wL(a b:Rat):bl (a.num* b.den+b.num* a.den).natAbs≤qs a+qs b+1∧bl (a.den* b.den)≤qs a+qs b:=by
 have h1:=dW a;have d:=dM a;have c:=dW b;have e:=dM b;refine⟨wH (eY h1 (by grind)) ?_,?_⟩;have:=eY (x:=b.num) (y:=a.den) c (by simpa using d);omega;have:=iH a.den b.den;omega
theorem qD(a b:Rat):bl (a.num* b.num).natAbs≤qs a+qs b∧bl (a.den* b.den)≤qs a+qs b:=by
 have h1:=dW a;have e:=dM a;have c:=dW b;have d:=dM b;refine⟨eY h1 c,?_⟩;have:=iH a.den b.den;omega
theorem mA(a b:Rat):0< a.den* b.den:=Nat.mul_pos a.den_pos b.den_pos
theorem kg(a b:Rat):qs (a+b)≤qs a+qs b+1:=by
 rw[wM];have h:=wL a b;exact fo (mA a b) h.1 (by omega)
theorem dK(a b:Rat):qs (a* b)≤qs a+qs b:=by
 rw[mS];have h:=qD a b;exact fo (mA a b) h.1 h.2
theorem iW(a:Rat):qs (-a)=qs a:=by unfold qs;simp
theorem qw(a b:Rat):qs (a- b)≤qs a+qs b+1:=by
 rw[Rat.sub_eq_add_neg];have:=kg a (-b);rwa[iW] at this
theorem qZ(a b:Rat)(hb:b≠0):a/ b=mkRat (a.num* sgn (decide (b.num< 0)) b.den) (a.den* b.num.natAbs):=by
 rw[Rat.div_def,Rat.inv_def]
 conv=>lhs;rw[←Rat.num_divInt_den a]
 rw[Rat.divInt_mul_divInt];unfold sgn;split
 ·rename_i h
  have c:=of_decide_eq_true h;have hp:0< a.den* b.num.natAbs:=Nat.mul_pos a.den_pos (by omega);have e:(a.den:Int) * b.num= -((a.den* b.num.natAbs:Nat):Int):=by grind
  rw[e,Int.mul_neg];generalize a.den* b.num.natAbs=d at hp⊢;cases d with
  |zero=>omega
  |succ d=>
   rfl
 ·have e:(a.den:Int) * b.num=((a.den* b.num.natAbs:Nat):Int):=by grind
  rw[e];rfl
theorem wz(a b:Rat):bl (a.num* sgn (decide (b.num< 0)) b.den).natAbs≤qs a+qs b∧bl (a.den* b.num.natAbs)≤qs a+qs b:=by
 have h1:=dW a;have e:=dM a;have d:=dW b;have c:=dM b;refine⟨eY h1 (by rw[fl];grind),?_⟩;have:=iH a.den b.num.natAbs;omega
theorem gO(a b:Rat):qs (a/ b)≤qs a+qs b:=by
 by_cases hb:b=0;subst hb;rw[Rat.div_def,Rat.inv_zero,Rat.mul_zero];omega;rw[qZ a b hb];have h:=wz a b;have c:b.num≠0:=fun h=>hb (Rat.num_eq_zero.1 h);exact fo (Nat.mul_pos a.den_pos (by omega)) h.1 h.2
def sm(q:Rat):Prop:=qs q≤137438953472
instance (q:Rat):Decidable (sm q):=inferInstanceAs (Decidable (_≤_))
theorem sm2{a b:Rat}(ha:sm a)(hb:sm b):qs a+qs b≤549755813888:=by unfold sm at ha hb;omega
def sgZ(z:Int):Int:=if z=0 then 0 else if z< 0 then -1 else 1
def fy(a b:Rat):Int:=if a< b then -1 else if a=b then 0 else 1
theorem sgZ_num_lt{q:Rat}:sgZ q.num< 0↔q< 0:=by
 unfold sgZ;have h1:q.num=0↔q=0:=Rat.num_eq_zero;have b:0≤q.num↔0≤q:=Rat.num_nonneg;have a:q< 0↔¬0≤q:=Rat.not_le.symm;rw[a,←b];split;omega;split <;> omega
theorem sgZ_num_eq{q:Rat}:sgZ q.num=0↔q=0:=by
 unfold sgZ;rw[←Rat.num_eq_zero];split;simp[*];split <;> simp[*]
theorem sgZ_num_gt{q:Rat}:0< sgZ q.num↔0< q:=by
 have h1:= @sgZ_num_lt q;have b:= @sgZ_num_eq q
 have a:0< q↔¬(q< 0∨q=0):=by
  rw[←Rat.not_le,Rat.le_iff_lt_or_eq]
 rw[a,←h1,←b];omega
theorem Eo(a b:Rat):fy a b=if a.num* b.den< b.num* a.den then -1 else if a.num* b.den=b.num* a.den then 0 else 1:=by
 unfold fy;have h1:=Rat.lt_iff a b
 have c:a=b↔a.num* b.den=b.num* a.den:=by
  constructor;rintro rfl;rfl;intro h;have:=(Rat.mkRat_eq_iff (n₁:=a.num) (n₂:=b.num) a.den_nz b.den_nz).2 h;rwa[Rat.mkRat_self,Rat.mkRat_self] at this
 by_cases h:a< b;rw[if_pos h,if_pos (h1.1 h)];rw[if_neg h,if_neg (fun x=>h (h1.2 x))];by_cases h':a=b;rw[if_pos h',if_pos (c.1 h')];rw[if_neg h',if_neg (fun x=>h' (c.2 x))]
def gf(k:Nat):Rat:=mkRat 1 (2^ k)
theorem pj(q:Rat):q.num< 0↔q< 0:=by
 rw[←sgZ_num_lt];unfold sgZ;split;omega;split <;> omega
def fS(q:Rat):Rat:=mkRat q.num.natAbs q.den
theorem yH(q:Rat):fS q=if q< 0 then -q else q:=by
 unfold fS;by_cases h:q< 0;have a:q.num< 0:=(pj q).2 h;rw[if_pos h];have e:(q.num.natAbs:Int)=(-q).num:=by rw[Rat.neg_num];omega
 rw[e,←Rat.neg_den,Rat.mkRat_self];have a:¬q.num< 0:=fun e=>h ((pj q).1 e);rw[if_neg h];have e:(q.num.natAbs:Int)=q.num:=by omega
 rw[e,Rat.mkRat_self]
theorem A5(q:Rat):(fS q).num=(q.num.natAbs:Int):=by
 rw[yH];by_cases h:q< 0;rw[if_pos h,Rat.neg_num];have a:q.num< 0:=(pj q).2 h;omega;rw[if_neg h];have a:¬q.num< 0:=fun e=>h ((pj q).1 e);omega
theorem A6(q:Rat):(fS q).den=q.den:=by
 rw[yH];split;exact Rat.neg_den ..;rfl
theorem qC_abs(q:Rat):qC (fS q)=zI (sgn false q.num.natAbs)++[mag (q.den- 1)]:=by
 unfold qC zI;rw[A5,A6];rfl
def pE(l:List Rat):List (List AV):=l.map qC
def pA(l:List Rat):AV:= .arr (pE l)
def spC(a b:Rat):List AV:=qC a++qC b
@[simp] theorem qC_length (q:Rat):(qC q).length=3:=rfl
@[simp] theorem spC_length (a b:Rat):(spC a b).length=6:=rfl
@[simp] theorem EK (l:List Rat):(pE l).length=l.length:=by simp[pE]
theorem pE_get{l:List Rat}{i:Nat}{q:Rat}(h:l[i]?=some q):(pE l)[i]?=some (qC q):=by simp[pE,h]
theorem sj(l:List Rat)(k:Nat):(pE l).take k=pE (l.take k):=by simp[pE]
theorem kD(l m:List Rat):pE (l++m)=pE l++pE m:=by simp[pE]
theorem iY(l:List Rat)(i:Nat)(q:Rat):(pE l).set i (qC q)=pE (l.set i q):=by simp[pE,List.map_set]
theorem cW(l:List Rat):(pE l).all (·.all AV.one)=true:=by
 simp only[pE,List.all_map,List.all_eq_true];intro q _;rfl
theorem lh(l:List Rat):∀e∈pE l,e.length=3:=by intro e a;simp[pE] at a;obtain⟨q,_,rfl⟩:=a;rfl
theorem aJ(l:List Rat):∀e∈pE l,∀c∈e,Closed c:=by
 intro e a c hc;simp[pE] at a;obtain⟨q,_,rfl⟩:=a;exact aZ q c hc
theorem ax(l:List Rat):Closed (pA l):=aH (aJ l)
theorem aY(a b:Rat):∀c∈spC a b,Closed c:=fun c hc=>(List.mem_append.1 hc).elim (aZ a c) (aZ b c)
theorem bG(a b:Rat):Closed (.agg (spC a b)):=aC (aY a b)
def zC:List AV:=[.emp,bln false,.emp]
theorem mag0:mag 0= .arr []:=by unfold mag;rw[ct];rfl
theorem qC0:qC 0=[.arr [],bln false,.arr []]:=by
 show [mag 0,bln (decide ((0:Int)< 0)),mag (1- 1)]=_;rw[mag0];rfl
def smL(l:List Rat):Prop:=∀q∈l,sm q
instance (l:List Rat):Decidable (smL l):=inferInstanceAs (Decidable (∀q∈l,sm q))
def ea(bf:Int→Bool):List Rat→Rat
 |[]=>0
 |x::l=>l.foldl (fun o y=>if bf (fy y o) then y else o) x
theorem yy(bf:Int→Bool)(l:List Rat)(y:Rat):ea bf (l++[y])=if l=[]∨bf (fy y (ea bf l))=true then y else ea bf l:=by
 cases l with
 |nil=>simp[ea]
 |cons x l=>simp[ea,List.foldl_append]
theorem oC{bf:Int→Bool}:∀{l:List Rat},smL l→sm (ea bf l)
 |[],_=>(by decide:sm 0)
 |x::l,h=>by
  have a:∀(l:List Rat) (o:Rat),sm o→smL l→sm (l.foldl (fun o y=>if bf (fy y o) then y else o) o):=by
   intro l
   induction l with
   |nil=>intro o c _;exact c
   |cons y l e=>
    intro o c d;refine e _ ?_ fun q b=>d q (List.mem_cons_of_mem _ b);show sm (if bf (fy y o)=true then y else o);split;exact d y (List.mem_cons_self ..);exact c
  exact a l x (h x (List.mem_cons_self ..)) fun q b=>h q (List.mem_cons_of_mem _ b)
def BS(l:List Rat):Rat:=ea (fun c=>decide (c< 0)) l
def nO(l:List Rat):Rat:=ea (fun c=>decide (0< c)) l
theorem AEval.lenP{P:Program}{id:Nat}{ev:Operand→Option AV}{hp:Nat→Option ABlk}{c:Call}{x:Operand}{T:Nat}{d:Nat×Nat}{l:List Rat}(hc:c.callee= .builtin .len)(ha:c.args= #[x])(ht:c.argTypes= #[T])(hx:ev x=some (.arr (pE l)))(he:ec P T=some d):
    AEval P id ev hp (.call c) ⟨.v (.int .i64 (l.length:Nat)),[]⟩ []:= .len hc ha ht hx (by simp[qF]) he
def aq:List Rat→List Rat
 |[]=>[]
 |a::l=>match aq l with
  |[]=>if a=0 then [] else [a]
  |b::m=>a::b::m
theorem em(a:Rat)(l:List Rat):aq (a::l)=if aq l=[] then(if a=0 then [] else [a]) else a::aq l:=by
 rw[aq];grind
theorem jt(l:List Rat)(a:Rat):aq (l++[a])=if a=0 then aq l else l++[a]:=by
 induction l with
 |nil=>simp[aq]
 |cons b l c=>
  rw[List.cons_append,em,c,em];by_cases h:a=0;simp only[if_pos h];simp_all
theorem bF(l:List Rat):(aq l).length≤l.length:=by
 induction l with
 |nil=>simp[aq]
 |cons a l b=>rw[em];grind
theorem vz(l:List Rat):aq l=l.take (aq l).length:=by
 induction l with
 |nil=>simp[aq]
 |cons a l b=>
  rw[em];grind
theorem c7{l:List Rat}{q:Rat}(h:q∈aq l):q∈l:=by
 rw[vz] at h;grind
theorem tc{l:List Rat}{q:Rat}(h:(aq l).getLast?=some q):q≠0:=by
 induction l with
 |nil=>simp[aq] at h
 |cons a l b=>
  rw[em] at h;grind
theorem eU(l:List Rat):aq (aq l)=aq l:=by
 rcases List.eq_nil_or_concat (aq l) with h|⟨m,q,h⟩
 rw[h];rfl;have a:q≠0:=tc (l:=l) (by grind);rw[h,List.concat_eq_append,jt,if_neg a]
theorem lP{l:List Rat}(h:smL l):smL (aq l):=fun q a=>h q (c7 a)
def bD(l:List Rat):Int:=(aq l).length- 1
def aS(l:List Rat):Rat:=(aq l).getLastD 0
theorem fZ{l:List Rat}(h:aq l≠[]):aS l≠0:=by
 refine tc (l:=l) (q:=(aq l).getLastD 0) ?_;rw[List.getLastD_eq_getLast?];cases hl:(aq l).getLast? with
 |none=>simp_all
 |some q=>rfl
theorem qG{l:List Rat}(h:aq l=[]):aS l=0:=by unfold aS;grind
theorem ef{l:List Rat}{n:Nat}(h:(aq l).length=n+1):(aq l)[n]?=some (aS l):=by
 unfold aS;grind
theorem G3{l:List Rat}(h:smL l):sm (aS l):=by
 by_cases h0:aq l=[];rw[qG h0];decide;obtain⟨n,a⟩:∃n,(aq l).length=n+1:=⟨(aq l).length- 1,by have:=List.length_pos_iff.2 h0;omega⟩;exact h _ (c7 (List.mem_of_getElem? (ef a)))
def aO(n:Nat)(f:Nat→Rat):List Rat:=(List.range n).map f
@[simp] theorem rz (n:Nat)(f:Nat→Rat):(aO n f).length=n:=by simp[aO]
def coP(p:List Rat)(i:Nat):Rat:=p.getD i 0
def fR(p q:List Rat):List Rat:=aq (aO (max p.length q.length) fun i=>coP p i+coP q i)
def aX(p:List Rat)(k:Rat):List Rat:=aq (aO p.length fun i=>coP p i* k)
def cK(p q:List Rat):List Rat:=fR p (aX q (-1))
def ed(a:Rat):List Rat:=aq [a]
def dZ(p:List Rat):List Rat:=aq (aO (p.length- 1) fun i=>coP p (i+1) * ((i+1:Nat):Int))
def aK(p:List Rat):List Rat:=aq (aO (p.length+1) fun i=>if i=0 then 0 else coP p (i- 1) / ((i:Nat):Int))
def Dj(p q:List Rat):Bool:=decide (aq p=aq q)
def ki(p:List Rat):List Rat:=if aq p=[] then [] else aX p (1/ aS p)
theorem mB{p:List Rat}(h:smL p)(i:Nat):sm (coP p i):=by
 unfold coP;rw[List.getD_eq_getElem?_getD];cases hi:p[i]? with
 |none=>exact(by decide:sm 0)
 |some q=>exact h q (List.mem_of_getElem? hi)
theorem ca{p:List Rat}{i:Nat}(h:i< p.length):p[i]?=some (coP p i):=by
 unfold coP;grind
theorem fO{p:List Rat}{i:Nat}(h:p.length≤i):coP p i=0:=by
 unfold coP;grind
theorem nh:∀c∈zC,Closed c:=ac c5 (ac (ag _) (ac c5 af))
def bdL(l:List Rat)(n:Nat):Prop:=∀q∈l,qs q≤n
instance (l:List Rat) (n:Nat):Decidable (bdL l n):=inferInstanceAs (Decidable (∀q∈l,qs q≤n))
theorem c6{l:List Rat}{n:Nat}(h:bdL l n)(hn:n≤137438953472):smL l:=fun q a=>Nat.le_trans (h q a) hn
theorem eP{l:List Rat}{n:Nat}(h:bdL l n)(hn:1≤n)(i:Nat):qs (coP l i)≤n:=by
 unfold coP;rw[List.getD_eq_getElem?_getD];cases hi:l[i]? with
 |none=>exact Nat.le_trans (by decide:qs 0≤1) hn
 |some q=>exact h q (List.mem_of_getElem? hi)
def A4(o:List Rat)(j:Nat)(x:Rat):List Rat:=o.set j (coP o j+x)
def jD(o:List Rat)(a:Rat)(q:List Rat)(i:Nat):Nat→List Rat
 |0=>o
 |k+1=>A4 (jD o a q i k) (i+k) (a* coP q k)
def eQ(p q:List Rat):Nat→List Rat
 |0=>List.replicate (p.length+q.length- 1) 0
 |i+1=>if coP p i=0 then eQ p q i else jD (eQ p q i) (coP p i) q i q.length
def aL(p q:List Rat):List Rat:=if p=[]∨q=[] then [] else aq (eQ p q p.length)
@[simp] theorem yG (o:List Rat)(j:Nat)(x:Rat):(A4 o j x).length=o.length:=by simp[A4]
@[simp] theorem y4 (o:List Rat)(a:Rat)(q:List Rat)(i k:Nat):(jD o a q i k).length=o.length:=by
 induction k with
 |zero=>rfl
 |succ k ih=>rw[jD,yG,ih]
@[simp] theorem lZ (p q:List Rat)(i:Nat):(eQ p q i).length=p.length+q.length- 1:=by
 induction i with
 |zero=>simp[eQ]
 |succ i ih=>rw[eQ];split <;> simp[ih]
theorem rj(o:List Rat)(j n:Nat)(x:Rat):coP (A4 o j x) n=if n=j∧j< o.length then coP o j+x else coP o n:=by
 unfold A4 coP;rw[List.getD_eq_getElem?_getD,List.getElem?_set,List.getD_eq_getElem?_getD,List.getD_eq_getElem?_getD];by_cases h:j=n;subst h;by_cases h2:j< o.length;simp[h2];simp[h2];rw[if_neg h,if_neg (by omega)]
theorem lx{o:List Rat}{n:Nat}(h:∀i,qs (coP o i)≤n):bdL o n:=by
 intro q a;obtain⟨i,b,rfl⟩:=List.getElem_of_mem a;have:=h i;unfold coP at this;rwa[List.getD_eq_getElem?_getD,List.getElem?_eq_getElem b] at this
theorem tG(o:List Rat)(a:Rat)(q:List Rat)(i k n:Nat)(h:n< i∨i+k≤n):coP (jD o a q i k) n=coP o n:=by
 induction k with
 |zero=>rfl
 |succ k b=>rw[jD,rj,if_neg (by omega),b (by omega)]
theorem Dr{o:List Rat}{a:Rat}{q:List Rat}{B s t:Nat}(i:Nat)(ho:∀n,qs (coP o n)≤B)(ha:qs a≤s)(hq:∀n,qs (coP q n)≤t):∀k n,qs (coP (jD o a q i k) n)≤B+(s+t+1)
 |0,n=>Nat.le_trans (ho n) (by omega)
 |k+1,n=>by
  rw[jD,rj];split;rw[tG o a q i k (i+k) (by omega)];have h1:=kg (coP o (i+k)) (a* coP q k);have d:=dK a (coP q k);have c:=ho (i+k);have b:=hq k;omega;exact Dr i ho ha hq k n
theorem sw{p q:List Rat}{s t:Nat}(hp:∀n,qs (coP p n)≤s)(hq:∀n,qs (coP q n)≤t):∀i n,qs (coP (eQ p q i) n)≤i* (s+t+1)+1
 |0,n=>by
  have:coP (eQ p q 0) n=0:=by
   unfold eQ coP;rw[List.getD_eq_getElem?_getD,List.getElem?_replicate];split <;> rfl
  rw[this];exact Nat.le_add_left 1 _
 |i+1,n=>by
  rw[eQ,Nat.add_mul,Nat.one_mul];split;have:=sw hp hq i n;omega;have:=Dr (B:=i* (s+t+1)+1) i (sw hp hq i) (hp i) hq q.length n;omega
theorem DJ{p q:List Rat}{s t:Nat}(hp:bdL p s)(hq:bdL q t)(hs:1≤s)(ht:1≤t):bdL (aL p q) (p.length* (s+t+1)+1):=by
 unfold aL;split;intro q hq;cases hq;intro x a;exact lx (sw (eP hp hs) (eP hq ht) p.length) x (c7 a)
theorem CvLL.zeros{r:Ren}{hp hp':Nat→Option ABlk}(h:Shr r hp hp')(n:Nat):CvLL r hp hp' (List.replicate n zC) (pE (List.replicate n 0)):=by
 induction n with
 |zero=>rfl
 |succ n a=>
  refine⟨qC 0,_,rfl,?_,a⟩;rw[qC0];exact ah (Cv.emp _) (ah (am h (ag _)) (ah (Cv.emp _) av))
def Df(o:List Rat)(j:Nat)(x:Rat):List Rat:=o.set j (coP o j- x)
def jE(o:List Rat)(k:Rat)(q:List Rat)(n:Nat):Nat→List Rat
 |0=>o
 |i+1=>Df (jE o k q n i) (n+i) (k* coP q i)
def pY(q:List Rat)(lead:Rat):Nat→List Rat→List Rat→List Rat×List Rat
 |0,u,o=>(u,o)
 |n+1,u,o=>pY q lead n (u.set n (coP o (n+q.length- 1) / lead)) (if coP o (n+q.length- 1) / lead=0 then o else jE o (coP o (n+q.length- 1) / lead) q n q.length)
def fW(p q:List Rat):List Rat×List Rat:=
 let r:=pY (aq q) (aS q) ((aq p).length+1- (aq q).length) (List.replicate ((aq p).length+1- (aq q).length) 0) (aq p)
 (aq r.1,aq r.2)
@[simp] theorem wW (o:List Rat)(j:Nat)(x:Rat):(Df o j x).length=o.length:=by simp[Df]
@[simp] theorem lS (o:List Rat)(a:Rat)(q:List Rat)(i k:Nat):(jE o a q i k).length=o.length:=by
 induction k with
 |zero=>rfl
 |succ k ih=>rw[jE,wW,ih]
theorem j7(q:List Rat)(lead:Rat):∀c u o,(pY q lead c u o).1.length=u.length∧(pY q lead c u o).2.length=o.length
 |0,u,o=>⟨rfl,rfl⟩
 |n+1,u,o=>by
  refine⟨(j7 q lead n _ _).1.trans (by simp),(j7 q lead n _ _).2.trans ?_⟩;split <;> simp
theorem Ek(o:List Rat)(j n:Nat)(x:Rat):coP (o.set j x) n=if n=j∧j< o.length then x else coP o n:=by
 unfold coP;grind
theorem wB(o:List Rat)(j n:Nat)(x:Rat):coP (Df o j x) n=if n=j∧j< o.length then coP o j- x else coP o n:=Ek o j n _
theorem y5(o:List Rat)(a:Rat)(q:List Rat)(i k n:Nat)(h:n< i∨i+k≤n):coP (jE o a q i k) n=coP o n:=by
 induction k with
 |zero=>rfl
 |succ k b=>rw[jE,wB,if_neg (by omega),b (by omega)]
theorem Dt{o:List Rat}{a:Rat}{q:List Rat}{B s t:Nat}(i:Nat)(ho:∀n,qs (coP o n)≤B)(ha:qs a≤s)(hq:∀n,qs (coP q n)≤t):∀k n,qs (coP (jE o a q i k) n)≤B+(s+t+1)
 |0,n=>Nat.le_trans (ho n) (by omega)
 |k+1,n=>by
  rw[jE,wB];split;rw[y5 o a q i k (i+k) (by omega)];have h1:=qw (coP o (i+k)) (a* coP q k);have d:=dK a (coP q k);have c:=ho (i+k);have b:=hq k;omega;exact Dt i ho ha hq k n
def CJ(q:List Rat)(lead:Rat)(L c:Nat)(u o:List Rat):Prop:=
 ∃B t,(∀n,qs (coP o n)≤B)∧(∀n,qs (coP q n)≤t)∧qs lead≤t∧1≤t∧(∀n,qs (coP u n)≤L)∧2^ c* (B+2* t+1)≤L
theorem Ay{q:List Rat}{lead:Rat}{L c:Nat}{u o:List Rat}(h:CJ q lead L c u o):∃B t,(∀n,qs (coP o n)≤B)∧(∀n,qs (coP q n)≤t)∧qs lead≤t∧B+2* t+1≤L:=by
 obtain⟨B,t,h1,a,d,e,f,b⟩:=h;refine⟨B,t,h1,a,d,Nat.le_trans ?_ b⟩;have:=Nat.mul_le_mul_right (B+2* t+1) (Nat.one_le_two_pow (n:=c));omega
theorem wA{q:List Rat}{lead:Rat}{L n:Nat}{u o:List Rat}(h:CJ q lead L (n+1) u o):
    CJ q lead L n (u.set n (coP o (n+q.length- 1) / lead)) (if coP o (n+q.length- 1) / lead=0 then o else jE o (coP o (n+q.length- 1) / lead) q n q.length):=by
 obtain⟨B,t,h1,c,g,e,p,f⟩:=h;obtain⟨k,d⟩:∃k,k=coP o (n+q.length- 1) / lead:=⟨_,rfl⟩
 have a:qs k≤B+t:=by
  have e1:=gO (coP o (n+q.length- 1)) lead;grind
 rw[←d];obtain⟨W,l⟩:∃W,W=2^ n:=⟨_,rfl⟩;have b:1≤W:=by grind
 rw[Nat.pow_succ] at f;have m:W* (2* B+2* t+1+2* t+1)≤L:=by grind
 have i:2* B+2* t+1+2* t+1≤L:=by
  have:=Nat.mul_le_mul_right (2* B+2* t+1+2* t+1) b;omega
 refine⟨2* B+2* t+1,t,fun j=>?_,c,g,e,fun j=>?_,by grind⟩;split;have:=h1 j;omega;have:=Dt n h1 a c q.length j;omega;rw[Ek];grind
theorem yp{q:List Rat}{lead:Rat}{L:Nat}:∀{c u o},CJ q lead L c u o→(∀n,qs (coP (pY q lead c u o).1 n)≤L)∧(∀n,qs (coP (pY q lead c u o).2 n)≤L)
 |0,u,o,h=>by
  obtain⟨B,t,h1,b,e,d⟩:=Ay h;obtain⟨_,_,_,_,_,_,a,_⟩:=h;exact⟨a,fun n=>Nat.le_trans (h1 n) (by omega)⟩
 |n+1,u,o,h=>yp (c:=n) (wA h)
def mxL(l:List Rat):Nat:=l.foldr (fun q n=>max (qs q) n) 1
theorem ew(l:List Rat):1≤mxL l:=by
 induction l with
 |nil=>exact Nat.le_refl _
 |cons q l a=>exact Nat.le_trans a (Nat.le_max_right _ _)
theorem eO(l:List Rat):bdL l (mxL l):=by
 induction l with
 |nil=>intro q b;grind
 |cons a l c=>
  intro q b;rcases List.mem_cons.1 b with rfl|b
  exact Nat.le_max_left _ _;exact Nat.le_trans (c q b) (Nat.le_max_right _ _)
theorem mxL_le{l:List Rat}{n:Nat}(h:bdL l n)(hn:1≤n):mxL l≤n:=by
 induction l with
 |nil=>exact hn
 |cons a l c=>exact Nat.max_le.2 ⟨h a (List.mem_cons_self ..),c fun q b=>h q (List.mem_cons_of_mem _ b)⟩
def lG(p q:List Rat):Prop:=2^ ((aq p).length+1- (aq q).length) * (mxL p+2* mxL q+1)≤137438953472∧p.length≤274877906944∧q.length≤274877906944
instance (p q:List Rat):Decidable (lG p q):=inferInstanceAs (Decidable (_∧_∧_))
theorem CI{p q:List Rat}{s t L:Nat}(hp:bdL p s)(hq:bdL q t)(hs:1≤s)(ht:1≤t)(hq0:aq q≠[])(m:Nat)(h:2^ m* (s+2* t+1)≤L):CJ (aq q) (aS q) L m (List.replicate m 0) (aq p):=by
 have c:1≤L:=by
  have d:=Nat.mul_le_mul_right (s+2* t+1) (Nat.one_le_two_pow (n:=m));omega
 have b:=List.length_pos_iff.2 hq0;refine⟨s,t,eP (fun x a=>hp x (c7 a)) hs,eP (fun x a=>hq x (c7 a)) ht,hq _ (c7 (List.mem_of_getElem? (ef (n:=(aq q).length- 1) (by omega)))),ht,fun n=>?_,h⟩
 have:coP (List.replicate m 0) n=0:=by
  unfold coP;rw[List.getD_eq_getElem?_getD,List.getElem?_replicate];split <;> rfl
 rw[this];exact Nat.le_trans (by decide:qs 0≤1) c
theorem divP_bd{p q:List Rat}{s t L:Nat}(hp:bdL p s)(hq:bdL q t)(hs:1≤s)(ht:1≤t)(hq0:aq q≠[])(h:2^ ((aq p).length+1- (aq q).length) * (s+2* t+1)≤L):bdL (fW p q).1 L∧bdL (fW p q).2 L:=by
 have:=yp (CI hp hq hs ht hq0 _ h);exact⟨fun x a=>lx this.1 x (c7 a),fun x a=>lx this.2 x (c7 a)⟩
theorem yq{p q:List Rat}(h:lG p q)(hq0:aq q≠[]):smL (fW p q).1∧smL (fW p q).2:=
 have:=divP_bd (eO p) (eO q) (ew p) (ew q) hq0 h.1
 ⟨c6 this.1 (Nat.le_refl _),c6 this.2 (Nat.le_refl _)⟩
theorem uK{p q:List Rat}:(fW p q).1.length≤p.length+1∧(fW p q).2.length≤p.length:=by
 have h1:=j7 (aq q) (aS q) ((aq p).length+1- (aq q).length) (List.replicate ((aq p).length+1- (aq q).length) 0) (aq p);have c:=bF p;have b:=bF (pY (aq q) (aS q) ((aq p).length+1- (aq q).length) (List.replicate ((aq p).length+1- (aq q).length) 0) (aq p)).1;have a:=bF (pY (aq q) (aS q) ((aq p).length+1- (aq q).length) (List.replicate ((aq p).length+1- (aq q).length) 0) (aq p)).2;rw[h1.1,List.length_replicate] at b;rw[h1.2] at a;exact⟨by unfold fW;simp only;omega,by unfold fW;simp only;omega⟩
theorem cL(p:List Rat)(k:Rat):(aX p k).length≤p.length:=by
 have:=bF (aO p.length fun i=>coP p i* k);simpa[aX] using this
theorem BQ(p:List Rat):(ki p).length≤p.length:=by
 unfold ki;split;simp;exact cL _ _
def EX:Nat→List Rat→List Rat→Option (List Rat)
 |0,_,_=>none
 |f+1,p,q=>if aq q=[] then(if smL p then some (ki p) else none) else if lG p q then EX f q (ki (fW p q).2) else none
def au:List Rat→Rat→Rat
 |[],_=>0
 |a::l,x=>au l x* x+a
def kX(l:List Rat)(k:Nat):Option (List AV):=if k< l.length then some [i64 ((l.length- 1- k:Nat):Int),.agg (qC (coP l (l.length- 1- k)))] else none
theorem qX{l:List Rat}{k:Nat}(h:k< l.length):l.drop (l.length- (k+1))=coP l (l.length- 1- k)::l.drop (l.length- k):=by
 have h1:l.length- (k+1)< l.length:=by omega
 rw[List.drop_eq_getElem_cons h1,show l.length- (k+1)+1=l.length- k by omega];congr 1;have:=ca h1;rw[List.getElem?_eq_getElem h1] at this;rw[show l.length- 1- k=l.length- (k+1) by omega];exact Option.some.inj this
theorem pV{x:Rat}{s t:Nat}(hx:qs x≤t):∀{l:List Rat},bdL l s→qs (au l x)≤l.length* (s+t+1)+1
 |[],_=>by show qs 0≤_;exact Nat.le_trans (by decide:qs 0≤1) (Nat.le_add_left 1 _)
 |a::l,h=>by
  have d:=pV (l:=l) hx fun q b=>h q (List.mem_cons_of_mem _ b);have ha:=h a (List.mem_cons_self ..);have h1:=kg (au l x* x) a;have c:=dK (au l x) x;show qs (au l x* x+a)≤(l.length+1) * (s+t+1)+1;rw[Nat.add_mul,Nat.one_mul];omega
def ff(p:List Rat)(x:Rat):Prop:=p.length* (mxL p+qs x+1)+mxL p+qs x+2≤137438953472∧p.length≤274877906944
instance (p:List Rat) (x:Rat):Decidable (ff p x):=inferInstanceAs (Decidable (_∧_))
theorem CC{p:List Rat}{x:Rat}(h:ff p x)(k:Nat)(hk:k< p.length):qs (au (p.drop (p.length- k)) x)+qs x≤549755813888∧qs (au (p.drop (p.length- k)) x* x)+qs (coP p (p.length- 1- k))≤549755813888:=by
 have h1:=pV (t:=qs x) (Nat.le_refl _) (l:=p.drop (p.length- k)) (s:=mxL p) fun q a=>eO p q (List.mem_of_mem_drop a);have b:=dK (au (p.drop (p.length- k)) x) x;have d:=eP (eO p) (ew p) (p.length- 1- k);have c:=h.1;have e:(p.drop (p.length- k)).length* (mxL p+qs x+1)≤p.length* (mxL p+qs x+1):=Nat.mul_le_mul_right _ (by simp);omega
theorem uE{p:List Rat}{x:Rat}(h:ff p x):sm (au p x):=by
 have h1:=pV (t:=qs x) (Nat.le_refl _) (eO p);have a:=h.1;unfold sm;omega
abbrev Sp:=Rat×Rat
def zi(a b:Sp):List Rat:=[a.1* b.1,a.1* b.2,a.2* b.1,a.2* b.2]
def tp(a b:Sp):Sp:=(BS (zi a b),nO (zi a b))
def Dg(a b:Sp):Sp:=(a.1+b.1,a.2+b.2)
def smS(a:Sp):Prop:=sm a.1∧sm a.2
instance (a:Sp):Decidable (smS a):=inferInstanceAs (Decidable (_∧_))
def ovP(v0 s:Sp):List Rat→Sp
 |[]=>v0
 |a::l=>Dg (tp (ovP v0 s l) s) (a,a)
def EL(v0 s:Sp):List Rat→Prop
 |[]=>smS v0
 |a::l=>EL v0 s l∧smL (zi (ovP v0 s l) s)∧sm a∧smS (Dg (tp (ovP v0 s l) s) (a,a))
instance okOv_dec (v0 s:Sp):(l:List Rat)→Decidable (EL v0 s l)
 |[]=>inferInstanceAs (Decidable (smS v0))
 |a::l=> @instDecidableAnd _ _ (okOv_dec v0 s l) (inferInstanceAs (Decidable (_∧_∧_)))
theorem okOv_sm{v0 s:Sp}:∀{l:List Rat},EL v0 s l→smS (ovP v0 s l)
 |[],h=>h
 |_::_,h=>h.2.2.2
theorem vS{v0 s:Sp}:∀{l:List Rat} (n:Nat),EL v0 s l→EL v0 s (l.drop n)
 |_,0,h=>h
 |[],_+1,h=>h
 |_::_,n+1,h=>vS n h.1
def ii(p:List Rat)(s:Sp):Sp:=if¬fy s.1 s.2≤0∨aq p=[] then(0,0) else ovP (aS p,aS p) s ((aq p).take ((aq p).length- 1))
def xy(p:List Rat)(s:Sp):Prop:=smL p∧smS s∧p.length≤274877906944∧EL (aS p,aS p) s ((aq p).take ((aq p).length- 1))
instance (p:List Rat) (s:Sp):Decidable (xy p s):=inferInstanceAs (Decidable (_∧_∧_∧_))
def eS(p q:List Rat):Prop:=p.length* (mxL p+mxL q+1)+1≤137438953472∧mxL q≤137438953472∧p.length≤274877906944∧q.length≤274877906944
instance (p q:List Rat):Decidable (eS p q):=inferInstanceAs (Decidable (_∧_∧_∧_))
theorem tW{p q:List Rat}(h:eS p q):smL (aL p q):=
 c6 (DJ (eO p) (eO q) (ew p) (ew q)) h.1
theorem jV(p q:List Rat):(fR p q).length≤max p.length q.length:=by
 have:=bF (aO (max p.length q.length) fun i=>coP p i+coP q i);simpa[fR] using this
theorem ua(p q:List Rat):(aL p q).length≤p.length+q.length:=by
 unfold aL;split;simp;have:=bF (eQ p q p.length);rw[lZ] at this;omega
theorem ow(a:Rat):(ed a).length≤1:=bF [a]
def ce(q:List Rat):List Rat→List Rat
 |[]=>[]
 |a::l=>fR (aL (ce q l) q) (ed a)
def gu(q:List Rat):List Rat→Prop
 |[]=>True
 |a::l=>gu q l∧eS (ce q l) q∧sm a∧(aL (ce q l) q).length≤274877906944
instance okComp_dec (q:List Rat):(l:List Rat)→Decidable (gu q l)
 |[]=>inferInstanceAs (Decidable True)
 |a::l=> @instDecidableAnd _ _ (okComp_dec q l) (inferInstanceAs (Decidable (_∧_∧_)))
theorem rI{q:List Rat}:∀{l:List Rat} (n:Nat),gu q l→gu q (l.drop n)
 |_,0,h=>h
 |[],_+1,h=>h
 |_::_,n+1,h=>rI n h.1
abbrev UB:Nat:=32768
def iE(l:List Nat):List (List AV):=l.map fun(d:Nat)=>[i64 d]
def hv(l:List Nat):Nat:=ofD UB l.reverse
def zd(n:Nat):List Nat:=(aw UB n).reverse
def zZ(z:Int):List AV:=[i64 (sgZ z),.arr (iE (zd z.natAbs))]
def fU:List Nat→List Nat
 |[]=>[]
 |d::l=>if d=0 then fU l else d::l
@[simp] theorem qI (l:List Nat):(iE l).length=l.length:=by simp[iE]
theorem ko{l:List Nat}{i d:Nat}(h:l[i]?=some d):(iE l)[i]?=some [i64 d]:=by simp[iE,h]
theorem iE_take(l:List Nat)(k:Nat):(iE l).take k=iE (l.take k):=by simp[iE]
theorem mW(l m:List Nat):iE (l++m)=iE l++iE m:=by simp[iE]
theorem nT(l:List Nat)(i d:Nat):(iE l).set i [i64 d]=iE (l.set i d):=by simp[iE,List.map_set]
theorem jd(k:Nat):List.replicate k [i64 0]=iE (List.replicate k 0):=by simp[iE]
theorem dp(l:List Nat):(iE l).all (·.all AV.one)=true:=by
 simp only[iE,List.all_map,List.all_eq_true];intro d _;rfl
theorem lj(l:List Nat):∀e∈iE l,e.length=1:=by intro e a;simp[iE] at a;obtain⟨d,_,rfl⟩:=a;rfl
theorem dw(l:List Nat):∀e∈iE l,∀c∈e,Closed c:=by
 intro e a c hc;simp[iE] at a;obtain⟨d,_,rfl⟩:=a;simp at hc;subst hc;exact ag _
theorem eK(l:List Nat):Closed (.arr (iE l)):=aH (dw l)
theorem fP(z:Int):∀c∈zZ z,Closed c:=ac (ag _) (ac (eK _) af)
theorem cM(z:Int):Closed (.agg (zZ z)):=aC (fP z)
theorem Bk(m:List Nat)(d:Nat):e9 (m++[d])=if d=0 then e9 m else m++[d]:=by
 induction m with
 |nil=>simp[e9]
 |cons a m b=>
  rw[List.cons_append,e9,b];by_cases hd:d=0;rw[if_pos hd,if_pos hd];rfl;rw[if_neg hd,if_neg hd];cases m <;> rfl
theorem yP(l:List Nat):fU l=(e9 l.reverse).reverse:=by
 induction l with
 |nil=>rfl
 |cons d l a=>
  rw[fU,List.reverse_cons,Bk];split;exact a;simp
theorem fH{l:List Nat}(h:∀d∈l,d< UB):fU l=zd (hv l):=by
 rw[yP,ju (b:=UB) (by decide) (fun d a=>h d (List.mem_reverse.1 a))];rfl
theorem kM(n:Nat):hv (zd n)=n:=by unfold hv zd;rw[List.reverse_reverse,bt (by decide)]
theorem js(n:Nat):∀d∈zd n,d< UB:=fun d a=>dI (by decide) n d (List.mem_reverse.1 a)
theorem cI(n:Nat):(zd n).length=(aw UB n).length:=List.length_reverse
theorem pt(d:Nat)(l:List Nat):hv (d::l)=hv l+UB^ l.length* d:=by
 unfold hv;rw[List.reverse_cons,gR,List.length_reverse]
theorem pq(l:List Nat)(d:Nat):hv (l++[d])=hv l* UB+d:=by
 unfold hv;simp[ofD];rw[Nat.mul_comm,Nat.add_comm]
theorem ue:hv []=0:=rfl
theorem oF:zd 0=[]:=by unfold zd;rw[ct];rfl
theorem zd_eq_nil{n:Nat}:zd n=[]↔n=0:=by
 unfold zd;rw[List.reverse_eq_nil_iff];exact iQ (by decide)
theorem tl{l:List Nat}(h:∀d∈l,d< UB):fU l=[]↔hv l=0:=by rw[fH h];exact zd_eq_nil
theorem zZ_zero:zZ 0=[i64 0,.arr []]:=by unfold zZ;show [i64 0,AV.arr (iE (zd 0))]=_;rw[oF];rfl
theorem DV{l:List Nat}(h:∀d∈l,d< UB):hv l< UB^ l.length:=by
 have:=fq (b:=UB) (l:=l.reverse) fun d a=>h d (List.mem_reverse.1 a);rwa[List.length_reverse] at this
theorem AEval.lenI{P:Program}{id:Nat}{ev:Operand→Option AV}{hp:Nat→Option ABlk}{c:Call}{x:Operand}{T:Nat}{d:Nat×Nat}{l:List Nat}(hc:c.callee= .builtin .len)(ha:c.args= #[x])(ht:c.argTypes= #[T])(hx:ev x=some (.arr (iE l)))(he:ec P T=some d):
    AEval P id ev hp (.call c) ⟨.v (.int .i64 (l.length:Nat)),[]⟩ []:= .len hc ha ht hx (by simp[qF]) he
abbrev RQ:=Rat×Bool
def rok(x:RQ):Prop:=x.2=true→x.1=0
def rC(x:RQ):List AV:=zZ x.1.num++zZ (if x.2 then 0 else(x.1.den:Int))
def rq(q:Rat):RQ:=(q,false)
theorem tJ(q:Rat):rok (rq q):=fun h=>by cases h
@[simp] theorem rC_length (x:RQ):(rC x).length=4:=rfl
theorem fQ(x:RQ):∀c∈rC x,Closed c:=fun c hc=>(List.mem_append.1 hc).elim (fP _ c) (fP _ c)
theorem kT(x:RQ):Closed (.agg (rC x)):=aC (fQ x)
theorem rC_rq(q:Rat):rC (rq q)=zZ q.num++zZ (q.den:Int):=rfl
def rE(l:List RQ):List (List AV):=l.map rC
@[simp] theorem rE_length (l:List RQ):(rE l).length=l.length:=by simp[rE]
theorem rE_get{l:List RQ}{i:Nat}{q:RQ}(h:l[i]?=some q):(rE l)[i]?=some (rC q):=by simp[rE,h]
theorem rE_take(l:List RQ)(k:Nat):(rE l).take k=rE (l.take k):=by simp[rE]
theorem dn(l:List RQ):(rE l).all (·.all AV.one)=true:=by
 simp only[rE,List.all_map,List.all_eq_true];intro q _;rfl
theorem xn(l:List RQ):∀e∈rE l,e.length=4:=by
 intro e a;obtain⟨q,_,rfl⟩:=List.mem_map.1 a;rfl
theorem jo(l:List RQ):∀e∈rE l,∀c∈e,Closed c:=by
 intro e a c hc;obtain⟨q,_,rfl⟩:=List.mem_map.1 a;exact fQ q c hc
theorem eX(l:List RQ):Closed (.arr (rE l)):=aH (jo l)
theorem AEval.lenR{P:Program}{id:Nat}{ev:Operand→Option AV}{hp:Nat→Option ABlk}{c:Call}{x:Operand}{T:Nat}{d:Nat×Nat}{l:List RQ}(hc:c.callee= .builtin .len)(ha:c.args= #[x])(ht:c.argTypes= #[T])(hx:ev x=some (.arr (rE l)))(he:ec P T=some d):
    AEval P id ev hp (.call c) ⟨.v (.int .i64 (l.length:Nat)),[]⟩ []:= .len hc ha ht hx (by simp[qF]) he
theorem EE{n:Int}{d:Nat}(hd:0< d):sgZ (mkRat n d).num=sgZ n:=by
 rw[jl hd];have hg:0< Nat.gcd n.natAbs d:=Nat.gcd_pos_of_pos_right _ hd;have h1:n≠0→0< n.natAbs/ Nat.gcd n.natAbs d:=fun h=>Nat.div_pos (Nat.gcd_le_left _ (by omega)) hg;unfold sgZ sgn;by_cases h0:n=0;subst h0;simp;have:=h1 h0;by_cases hn:n< 0;simp[hn,h0];omega;simp[hn,h0];omega
theorem ov(n d:Int)(hd:d< 0):Rat.divInt n d=mkRat (-n) d.natAbs:=by
 obtain⟨m,rfl⟩:∃m:Nat,d=Int.negSucc m:=⟨d.natAbs- 1,by omega⟩;rfl
theorem ou(n d:Int)(hd:0< d):Rat.divInt n d=mkRat n d.natAbs:=by
 obtain⟨m,rfl⟩:∃m:Nat,d=(m:Int):=⟨d.natAbs,by omega⟩;rfl
theorem ot(a b:Rat):a/ b=Rat.divInt (a.num* b.den) (a.den* b.num):=by
 rw[Rat.div_def,Rat.inv_def]
 conv=>lhs;rw[←Rat.num_divInt_den a]
 rw[Rat.divInt_mul_divInt]
abbrev nQ(n:Nat):Rat:=((n:Int):Rat)
theorem nQ_eq(n:Nat):nQ n=mkRat n 1:=(Rat.mkRat_one n).symm
theorem nQ_zero{n:Nat}:nQ n=0↔n=0:=by simp
theorem ns{n k:Nat}(h:bl n≤k)(hk:1≤k):qs (nQ n)≤k:=by
 refine Nat.max_le.2 ⟨?_,?_⟩;show bl ((n:Int)).natAbs≤k;rwa[Int.natAbs_natCast];show bl 1≤k;rw[jS];grind
theorem GW(a b:Nat):nQ a* nQ b=nQ (a* b):=by grind
theorem nQ_sub{a b:Nat}(h:b≤a):nQ a- nQ b=nQ (a- b):=by
 rw[←Rat.intCast_sub];congr 1;omega
theorem BP(a b:Nat)(hb:b≠0):nQ a/ nQ b=mkRat a b:=by
 rw[ot];simp
theorem ER(a b:Nat)(hb:b≠0)(h:b∣a):mkRat a b=nQ (a/ b):=by
 obtain⟨k,rfl⟩:=h;rw[Nat.mul_div_cancel_left _ (by omega),nQ_eq,Rat.mkRat_eq_iff hb (by decide),Int.natCast_mul,Int.mul_comm (b:Int)];simp
theorem zA(a b:Nat)(hb:b≠0):(mkRat a b).floor=((a/ b:Nat):Int):=by
 have h:=kG (n:=(a:Int)) (d:=b) (by omega);rw[Int.natAbs_natCast] at h;rw[Rat.floor_def,h.1,h.2,←Int.natCast_ediv,←Int.natCast_ediv,Nat.div_div_eq_div_mul,Nat.mul_div_cancel' (Nat.gcd_dvd_right a b)]
def uN:List Rat→Nat→Nat
 |[],d=>d
 |c::l,d=>uN l (Nat.lcm d c.den)
def rZ(c:Rat)(D:Nat):Nat:=c.num.natAbs* (D/ c.den)
def EM(D:Nat):List Rat→Nat→Nat
 |[],n=>n
 |c::l,n=>EM D l (Nat.gcd n (rZ c D))
def er(p:List Rat):List Rat:=aX (aq p) (nQ (uN (aq p) 1) / nQ (EM (uN (aq p) 1) (aq p) 0))
def xw(p:List Rat):Prop:=(p.length+4) * mxL p≤34359738368∧p.length≤274877906944
instance (p:List Rat):Decidable (xw p):=inferInstanceAs (Decidable (_∧_))
theorem DN{a b:Nat}(ha:a≠0)(hb:b≠0):Nat.lcm a b≠0:=by simp_all
theorem Ee:∀(l:List Rat) {d:Nat},d≠0→uN l d≠0
 |[],_,h=>h
 |c::l,_,h=>Ee l (DN h c.den_nz)
theorem uM:∀(l:List Rat) (d:Nat),d∣uN l d∧∀c∈l,c.den∣uN l d
 |[],d=>⟨Nat.dvd_refl d,fun _ h=>by cases h⟩
 |c::l,d=>by
  obtain⟨h1,b⟩:=uM l (Nat.lcm d c.den);refine⟨Nat.dvd_trans (Nat.dvd_lcm_left d c.den) h1,fun x a=>?_⟩;rcases List.mem_cons.1 a with rfl|a
  exact Nat.dvd_trans (Nat.dvd_lcm_right d x.den) h1;exact b x a
theorem bl_lcm(a b:Nat):bl (Nat.lcm a b)≤bl a+bl b:=
 Nat.le_trans (eM _ _) (iH a b)
theorem Ef{s:Nat}:∀(l:List Rat) (d:Nat),bdL l s→bl (uN l d)≤bl d+l.length* s
 |[],d,_=>by simp[uN]
 |c::l,d,h=>by
  have h1:=Ef l (Nat.lcm d c.den) fun q a=>h q (List.mem_cons_of_mem _ a);have b:=bl_lcm d c.den;have f:=dM c;have e:=h c (List.mem_cons_self ..);rw[List.length_cons,Nat.add_mul];unfold uN;omega
theorem GY(c:Rat)(D:Nat)(h:c.den∣D):fS (c* nQ D)=nQ (rZ c D):=by
 obtain⟨k,rfl⟩:=h;have a:=c.den_nz
 have e:c* nQ (c.den* k)=((c.num* (k:Int):Int):Rat):=by
  rw[mS];show mkRat (c.num* ((c.den* k:Nat):Int)) (c.den* 1)=_;rw[show((c.num* (k:Int):Int):Rat)=mkRat (c.num* k) 1 from(Rat.mkRat_one _).symm,Rat.mkRat_eq_iff (by omega) (by decide)];grind
 rw[e];unfold fS rZ;show mkRat (((c.num* (k:Int)).natAbs:Nat):Int) 1=_;rw[Nat.mul_div_cancel_left _ (by omega),Int.natAbs_mul,Int.natAbs_natCast,nQ_eq]
theorem zr(D:Nat):∀(l:List Rat) (n:Nat),EM D l n∣n∧∀c∈l,EM D l n∣rZ c D
 |[],n=>⟨Nat.dvd_refl n,fun _ h=>by cases h⟩
 |c::l,n=>by
  obtain⟨h1,b⟩:=zr D l (Nat.gcd n (rZ c D));refine⟨Nat.dvd_trans h1 (Nat.gcd_dvd_left _ _),fun x a=>?_⟩;rcases List.mem_cons.1 a with rfl|a
  exact Nat.dvd_trans h1 (Nat.gcd_dvd_right _ _);exact b x a
theorem intC_ne{c:Rat}{D:Nat}(h:c.den∣D)(hD:D≠0)(hc:c≠0):rZ c D≠0:=by
 obtain⟨k,rfl⟩:=h;unfold rZ;rw[Nat.mul_div_cancel_left _ c.den_pos];have h1:c.num≠0:=fun e=>hc (Rat.num_eq_zero.1 e);refine Nat.mul_ne_zero (by omega) fun e=>hD (by grind)
theorem DS(c:Rat)(D:Nat):bl (rZ c D)≤qs c+bl D:=by
 have h1:=iH c.num.natAbs (D/ c.den);have b:=eM D c.den;have a:=dW c;unfold rZ;omega
end Go.Abs
