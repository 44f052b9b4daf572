/- Part V10 of the proof. -/
import Derived.Test.YtjjllafelolfoaaGreatDoorV09
set_option linter.all false
namespace Go.Abs
def padD(b:Nat):Nat→Nat→List Nat
 |0,_=>[]
 |n+1,m=>m % b::padD b n (m/ b)
@[simp] theorem eI_ (b:Nat):∀n m,(padD b n m).length=n
 |0,_=>rfl
 |n+1,m=>by simp[padD,eI_ b n]
theorem kb_{b:Nat}(hb:0< b):∀n m,∀d∈padD b n m,d< b
 |0,_,d,h=>by cases h
 |n+1,m,d,h=>by
  rcases List.mem_cons.1 h with rfl|h
  exact Nat.mod_lt _ hb;exact kb_ hb n _ d h
theorem hn_{b:Nat}(hb:0< b):∀{n m:Nat},m< b^ n→ofD b (padD b n m)=m
 |0,m,h=>by simp at h;subst h;rfl
 |n+1,m,h=>by
  rw[padD,ofD,hn_ hb (by rw[Nat.div_lt_iff_lt_mul hb];exact h)];exact Nat.mod_add_div m b
theorem ni_{b:Nat}:∀{l:List Nat},(∀d∈l,d< b)→padD b l.length (ofD b l)=l
 |[],_=>rfl
 |d::l,h=>by
  have hd:=h d (List.mem_cons_self ..);have h1:ofD b (d::l) % b=d:=by rw[ofD,Nat.add_mul_mod_self_left];exact Nat.mod_eq_of_lt hd
  have h2:ofD b (d::l) / b=ofD b l:=by rw[ofD,Nat.add_mul_div_left _ _ (by omega),Nat.div_eq_of_lt hd];omega
  rw[List.length_cons,padD,h1,h2,ni_ fun x hx=>h x (List.mem_cons_of_mem _ hx)]
theorem mG_{b n m:Nat}{l:List Nat}(h:∀d∈l,d< b)(hl:l.length=n)(hv:ofD b l=m):l=padD b n m:=by
 subst hl hv;exact(ni_ h).symm
theorem px_{v:Nat}(h1:1≤v)(h2:v< 1000000000):500000000≤v* (1000000000/ (v+1))∧(v+1) * (1000000000/ (v+1))≤1000000000∧1≤1000000000/ (v+1):=by
 have hq1:(v+1) * (1000000000/ (v+1))≤1000000000:=Nat.mul_div_le _ _;have hq2:1000000000< (v+1) * (1000000000/ (v+1))+(v+1):=Nat.lt_mul_div_succ _ (by omega);have hq3:1≤1000000000/ (v+1):=by grind
 refine⟨?_,hq1,hq3⟩;obtain⟨q,hq⟩:∃q,q=1000000000/ (v+1):=⟨_,rfl⟩;rw[←hq] at hq1 hq2 hq3⊢;rw[Nat.add_mul] at hq1 hq2;by_cases c1:500000000≤v;have:=Nat.mul_le_mul_left v hq3;omega;by_cases c2:250000000≤v;have:2≤q:=by grind
 have:=Nat.mul_le_mul_left v this;omega;by_cases c3:166666666≤v
 have:4≤q:=by
  rw[hq,Nat.le_div_iff_mul_le (by omega)];omega
 have:=Nat.mul_le_mul_left v this;omega;by_cases c4:v=1;subst c4;omega
 have:q≤333333333:=by
  have:1000000000/ (v+1)≤1000000000/ 3:=Nat.div_le_div_left (by omega) (by omega);omega
 omega
theorem guess_ok{b n p w u v lo lw:Nat}(hb:0< b)(hp:p=lo+b^ n* u)(hlo:lo< b^ n)(hw:w=lw+b^ n* v)(hlw:lw< b^ n)(hv:b≤2* v)(hvb:v< b)(hq:p< w* b):
    p/ w≤min (u/ v) (b- 1)∧min (u/ v) (b- 1)≤p/ w+2:=by
 have hvp:0< v:=by omega
 have hbn:0< b^ n:=Nat.pow_pos hb;have hwp:0< w:=by grind
 have q1:w* (p/ w)≤p:=Nat.mul_div_le _ _;have q2:p< w* (p/ w)+w:=Nat.lt_mul_div_succ _ hwp;have q3:p/ w< b:=by rw[Nat.div_lt_iff_lt_mul hwp,Nat.mul_comm];grind
 obtain⟨q,hqe⟩:∃q,q=p/ w:=⟨_,rfl⟩;rw[←hqe] at q1 q2 q3⊢;have g1:v* (u/ v)≤u:=Nat.mul_div_le _ _;obtain⟨g,hge⟩:∃g,g=u/ v:=⟨_,rfl⟩;rw[←hge] at g1;constructor;refine Nat.le_min.2 ⟨?_,by omega⟩;rw[←hge,hge,Nat.le_div_iff_mul_le hvp]
 -- q v≤u,for q v b^n≤q w≤p< (u+1) b^n
 have h1:b^ n* (q* v)≤w* q:=by rw[hw,Nat.add_mul,Nat.mul_assoc,Nat.mul_comm v q];omega
 have h2:b^ n* (q* v)< b^ n* (u+1):=by grind
 have:=Nat.lt_of_mul_lt_mul_left h2;omega;rw[←hge]
 -- if min g (b- 1)≥q+3 then(q+3) v≤u and so p≥b^n (q+3) v,but p< w (q+1)
 refine Nat.le_of_not_lt fun hlt=>?_;have hg3:q+3≤g:=by grind
 have hb3:q+3≤b- 1:=by grind
 have h1:v* (q+3)≤u:=Nat.le_trans (Nat.mul_le_mul_left _ hg3) g1;have h2:b^ n* (v* (q+3))≤p:=by rw[hp];have:=Nat.mul_le_mul_left (b^ n) h1;omega
 have h3:w* (q+1)< b^ n* ((v+1) * (q+1))+1:=by
  have:w≤b^ n* (v+1):=by grind
  have:=Nat.mul_le_mul_right (q+1) this;grind
 have h4:p< w* (q+1):=by grind
 have h5:b^ n* (v* (q+3))< b^ n* ((v+1) * (q+1)):=by omega
 have h6:=Nat.lt_of_mul_lt_mul_left h5;grind
structure DivI (U v n L:Nat)(R T:List Nat)(k:Nat):Prop where
 len:R.length=L
 dig:∀d∈R,d< MB
 digT:∀d∈T,d< MB
 k_le:k+n+T.length=L
 val:U=ofD MB R+v* (MB^ k* ofD MB T)
 top:ofD MB (R.drop k)< v
theorem DivI.start{U v n L s b:Nat}{R:List Nat}(hR:R.length=L)(hd:∀d∈R,d< MB)(hU:ofD MB R=U)(hn:n≤L)(hb:MB^ (n- 1)≤b)(hn1:1≤n)(hv:v=b* s)(hlt:U< MB^ (L- 1) * s):DivI U v n L R [] (L- n):=by
 refine⟨hR,hd,by simp,by grind,by simp[ofD,hU],?_⟩;have h1:=bX_ MB (L- n) R (by omega);have h3:MB^ (L- 1)=MB^ (L- n) * MB^ (n- 1):=by rw[←Nat.pow_add];grind
 rw[h3,Nat.mul_assoc] at hlt;have h4:MB^ (L- n) * ofD MB (R.drop (L- n))< MB^ (L- n) * (MB^ (n- 1) * s):=by omega
 have h5:=Nat.lt_of_mul_lt_mul_left h4;have h6:MB^ (n- 1) * s≤b* s:=Nat.mul_le_mul_right _ hb;omega
theorem DivI.parts{U v n L k:Nat}{R T:List Nat}(h:DivI U v n L R T (k+1))(hv:v< MB^ n):
    ofD MB (R.drop (k+n+1))=0∧ofD MB ((R.drop k).take (n+1))=ofD MB (R.drop k)∧ofD MB (R.drop k)< v* MB∧((R.drop k).take (n+1)).length=n+1∧R=R.take k++(R.drop k).take (n+1)++R.drop (k+n+1):=by
 have hl:=h.k_le;have hlen:=h.len;have hk:k< R.length:=by omega
 obtain⟨x,hx⟩:∃x,R[k]?=some x:=⟨_,List.getElem?_eq_getElem hk⟩;have hx1:x< MB:=h.dig x (List.mem_of_getElem? hx);have e1:=fs_ MB hx;have htop:=h.top;have e2:=bX_ MB n (R.drop (k+1)) (by grind);rw[List.drop_drop,show k+1+n=k+n+1 by omega] at e2
 have hz:ofD MB (R.drop (k+n+1))=0:=by
  rcases Nat.eq_zero_or_pos (ofD MB (R.drop (k+n+1))) with h0|h0
  exact h0;have:MB^ n* 1≤MB^ n* ofD MB (R.drop (k+n+1)):=Nat.mul_le_mul_left _ h0;omega
 have e3:=bX_ MB (n+1) (R.drop k) (by grind);rw[List.drop_drop,show k+(n+1)=k+n+1 by omega,hz] at e3;refine⟨hz,by omega,?_,by grind,?_⟩;have:MB* (ofD MB (R.drop (k+1))+1)≤MB* v:=Nat.mul_le_mul_left _ htop;rw[Nat.mul_add] at this;rw[Nat.mul_comm v MB];omega;rw[List.append_assoc]
 conv=>lhs;rw[←List.take_append_drop k R]
 conv=>lhs;rw[←List.take_append_drop (n+1) (R.drop k)]
 rw[List.drop_drop,show k+(n+1)=k+n+1 by omega]
theorem DivI.next{U v n L k:Nat}{R T A:List Nat}(h:DivI U v n L R T (k+1))(hv:v< MB^ n)(hv0:0< v)(hA:A=padD MB (n+1) (ofD MB (R.drop k) % v)):
    DivI U v n L (R.take k++A++R.drop (k+n+1)) (ofD MB (R.drop k) / v::T) k:=by
 obtain⟨p1,p2,p3,p4,p5⟩:=h.parts hv;have hl:=h.k_le;have hlen:=h.len
 have hm:ofD MB (R.drop k) % v< MB^ (n+1):=by
  have:=Nat.mod_lt (ofD MB (R.drop k)) hv0;have h2:MB^ n≤MB^ (n+1):=Nat.pow_le_pow_right (by decide) (by omega);omega
 have hAl:A.length=n+1:=by rw[hA];simp
 have hAv:ofD MB A=ofD MB (R.drop k) % v:=by rw[hA];exact hn_ (by decide) hm
 have hk:(R.take k).length=k:=by simp;omega
 have hval:ofD MB (R.take k++A++R.drop (k+n+1))=ofD MB (R.take k)+MB^ k* (ofD MB (R.drop k) % v):=by
  rw[di_,di_,p1,hk,hAv];simp
 refine⟨by simp[hAl];omega,?_,?_,by simp;omega,?_,?_⟩;intro d hd;rcases List.mem_append.1 hd with hd|hd
 rcases List.mem_append.1 hd with hd|hd
 exact h.dig d (List.mem_of_mem_take hd);rw[hA] at hd;exact kb_ (by decide) _ _ d hd;exact h.dig d (List.mem_of_mem_drop hd);intro d hd;rcases List.mem_cons.1 hd with rfl|hd
 rw[Nat.div_lt_iff_lt_mul hv0,Nat.mul_comm];exact p3;exact h.digT d hd;rw[hval,ofD,h.val,bX_ MB k R (by omega),Nat.pow_succ];have e:=Nat.mod_add_div (ofD MB (R.drop k)) v
 have e2:MB^ k* (ofD MB (R.drop k) % v)+v* (MB^ k* (ofD MB (R.drop k) / v))=MB^ k* ofD MB (R.drop k):=by
  rw[Nat.mul_left_comm,←Nat.mul_add,e]
 rw[Nat.mul_add,Nat.mul_add,←Nat.mul_assoc (MB^ k) MB];omega;rw[List.append_assoc,List.drop_append,hk,Nat.sub_self,List.drop_zero,List.drop_of_length_le (by omega),List.nil_append,di_,p1,hAv];simp;exact Nat.mod_lt _ hv0
theorem DivI.last{U v n L a b s:Nat}{R T:List Nat}(h:DivI U v n L R T 0)(hU:U=a* s)(hv:v=b* s)(hb:0< b)(hs:0< s):ofD MB T=a/ b∧ofD MB R/ s=a % b:=by
 have h1:=h.val;have h2:=h.top;rw[List.drop_zero,hv] at h2;rw[Nat.pow_zero,Nat.one_mul,hU,hv] at h1
 have hq:ofD MB T=a/ b:=by
  have e1:a/ b=a* s/ (b* s):=(Nat.mul_div_mul_right a b hs).symm;rw[e1,h1,Nat.add_mul_div_left _ _ (Nat.mul_pos hb hs),Nat.div_eq_of_lt h2];omega
 have e2:ofD MB R=(a % b) * s:=by
  rw[hq] at h1
  have e3:a* s=(a % b) * s+b* s* (a/ b):=by
   conv=>lhs;rw[←Nat.mod_add_div a b]
   grind
  omega
 simp_all
theorem nX_{n k:Nat}(hl:(digs MB n).length=k+1){d:Nat}(hd:(digs MB n)[k]?=some d):∃lo,n=lo+MB^ k* d∧lo< MB^ k:=by
 refine⟨ofD MB ((digs MB n).take k),?_,?_⟩;have h1:=bi_ MB hd;rw[←hl,List.take_length,aO_ (by decide)] at h1;exact h1;have:=dx_ (b:=MB) (l:=(digs MB n).take k) fun d hd=>b8_ (by decide) n d (List.mem_of_mem_take hd);grind
theorem oR_{b s vt k:Nat}(hl:(digs MB b).length=k+1)(hvt:(digs MB b)[k]?=some vt)(h0:1≤vt)(h1:500000000≤vt* s)(h2:(vt+1) * s≤1000000000):
    (digs MB (b* s)).length=k+1∧MB^ k≤b∧b* s< MB^ (k+1)∧∃v lw,(digs MB (b* s))[k]?=some v∧b* s=lw+MB^ k* v∧lw< MB^ k∧500000000≤v∧v< 1000000000:=by
 obtain⟨lo,e1,e2⟩:=nX_ hl hvt
 have hb1:MB^ k≤b:=by
  have:=Nat.mul_le_mul_left (MB^ k) h0;omega
 have hb2:b< MB^ k* (vt+1):=by grind
 have hs0:0< s:=by grind
 have hv2:b* s< MB^ (k+1):=by
  have h3:b* s< MB^ k* (vt+1) * s:=Nat.mul_lt_mul_of_pos_right hb2 hs0;have h4:MB^ k* ((vt+1) * s)≤MB^ k* MB:=Nat.mul_le_mul_left _ h2;grind
 have hv1:MB^ k* 500000000≤b* s:=by
  have h3:MB^ k* vt* s≤b* s:=Nat.mul_le_mul_right _ (by omega);have h4:MB^ k* 500000000≤MB^ k* (vt* s):=Nat.mul_le_mul_left _ h1;grind
 have hlen:(digs MB (b* s)).length=k+1:=by
  have u1:=cK_ (b:=MB) (by decide) hv2
  have u2:k< (digs MB (b* s)).length:=by
   refine Nat.lt_of_not_le fun hle=>?_;have:=dx_ (b:=MB) (b8_ (by decide) (b* s));rw[aO_ (by decide)] at this;have h5:MB^ (digs MB (b* s)).length≤MB^ k:=Nat.pow_le_pow_right (by decide) hle;omega
  omega
 obtain⟨v,hv⟩:∃v,(digs MB (b* s))[k]?=some v:=⟨_,List.getElem?_eq_getElem (by omega)⟩;obtain⟨lw,f1,f2⟩:=nX_ hlen hv;refine⟨hlen,hb1,hv2,v,lw,hv,f1,f2,?_,be_ (by decide) hv⟩;have h6:MB^ k* 500000000< MB^ k* (v+1):=by grind
 have:=Nat.lt_of_mul_lt_mul_left h6;omega
theorem part_two{A:List Nat}{k x0 x1:Nat}(hA:A.length=k+2)(h0:A[k]?=some x0)(h1:A[k+1]?=some x1)(hd:∀d∈A,d< MB):∃lo,ofD MB A=lo+MB^ k* (x1* 1000000000+x0)∧lo< MB^ k:=by
 refine⟨ofD MB (A.take k),?_,?_⟩;have e1:=bi_ MB h1;rw[show k+1+1=A.length by omega,List.take_length] at e1;rw[e1,bi_ MB h0,Nat.pow_succ,Nat.mul_add,Nat.mul_assoc];have:MB^ k* (MB* x1)=MB^ k* (x1* 1000000000):=by grind
 omega;have:=dx_ (b:=MB) (l:=A.take k) fun d h=>hd d (List.mem_of_mem_take h);grind
def zI(z:Int):List AV:=[mag z.natAbs,bln (decide (z< 0))]
def qC(q:Rat):List AV:=[mag q.num.natAbs,bln (decide (q.num< 0)),mag (q.den- 1)]
def sgn(b:Bool)(m:Nat):Int:=if b then -(m:Int) else m
theorem lS_(z:Int):∀c∈zI z,Closed c:=aa_ (a5_ _) (aa_ (af_ _) ac_)
theorem aN_(q:Rat):∀c∈qC q,Closed c:=aa_ (a5_ _) (aa_ (af_ _) (aa_ (a5_ _) ac_))
theorem dZ_(z:Int):Closed (.agg (zI z)):=aB_ (lS_ z)
theorem az_(q:Rat):Closed (.agg (qC q)):=aB_ (aN_ q)
theorem fk_(n:Nat):Closed (.agg [mag n]):=aB_ (aa_ (a5_ n) ac_)
theorem cP_(b:Bool)(m:Nat):(sgn b m).natAbs=m:=by unfold sgn;grind
theorem sgn_neg(b:Bool)(m:Nat):decide (sgn b m< 0)=(b && !(m==0)):=by
 unfold sgn;grind
theorem hh_(z:Int):sgn (decide (z< 0)) z.natAbs=z:=by
 unfold sgn;grind
def qs(q:Rat):Nat:=max (bl q.num.natAbs) (bl q.den)
theorem e7_{n:Int}{d:Nat}(hd:0< d):(mkRat n d).num=n/ (Nat.gcd n.natAbs d:Int)∧(mkRat n d).den=d/ Nat.gcd n.natAbs d:=by
 unfold mkRat;rw[dif_neg (by omega),Rat.normalize_eq];grind
theorem em_{n:Int}{d:Nat}(hd:0< d):(mkRat n d).num=sgn (decide (n< 0)) (n.natAbs/ Nat.gcd n.natAbs d):=by
 rw[(e7_ hd).1];have hg:0< Nat.gcd n.natAbs d:=Nat.gcd_pos_of_pos_right _ hd;obtain⟨k,hk⟩:=Nat.gcd_dvd_left n.natAbs d;generalize Nat.gcd n.natAbs d=g at hg hk⊢;rw[hk,Nat.mul_div_cancel_left _ hg];unfold sgn;split
 ·rename_i h
  have:=of_decide_eq_true h;have e:n=(g:Int) * (-(k:Int)):=by rw[Int.mul_neg,←Int.natCast_mul];omega
  rw[e,Int.mul_ediv_cancel_left _ (by omega)]
 ·have e:n=(g:Int) * (k:Int):=by grind
  rw[e,Int.mul_ediv_cancel_left _ (by omega)]
theorem cC_(a b:Nat):bl (a/ b)≤bl a:=b1_ (Nat.div_le_self _ _)
theorem c2_{n:Int}{d:Nat}(hd:0< d){k:Nat}(h1:bl n.natAbs≤k)(h2:bl d≤k):qs (mkRat n d)≤k:=by
 unfold qs;rw[em_ hd,cP_,(e7_ hd).2];exact Nat.max_le.2 ⟨Nat.le_trans (cC_ _ _) h1,Nat.le_trans (cC_ _ _) h2⟩
theorem l4_(a b:Rat):a+b=mkRat (a.num* b.den+b.num* a.den) (a.den* b.den):=by
 rw[Rat.add_def];unfold mkRat;grind
theorem ge_(a b:Rat):a* b=mkRat (a.num* b.num) (a.den* b.den):=by
 rw[Rat.mul_def];unfold mkRat;grind
theorem co_(a:Rat):bl a.num.natAbs≤qs a:=Nat.le_max_left _ _
theorem cv_(a:Rat):bl a.den≤qs a:=Nat.le_max_right _ _
theorem gB_{x y:Int}{k:Nat}(hx:bl x.natAbs≤k)(hy:bl y.natAbs≤k):bl (x+y).natAbs≤k+1:=by
 have h1:=b1_ (Int.natAbs_add_le x y);have h2:=rE_ x.natAbs y.natAbs;omega
theorem bW_{x y:Int}{j k:Nat}(hx:bl x.natAbs≤j)(hy:bl y.natAbs≤k):bl (x* y).natAbs≤j+k:=by
 rw[Int.natAbs_mul];have:=eB_ x.natAbs y.natAbs;omega
theorem l3_(a b:Rat):bl (a.num* b.den+b.num* a.den).natAbs≤qs a+qs b+1∧bl (a.den* b.den)≤qs a+qs b:=by
 have h1:=co_ a;have h2:=cv_ a;have h3:=co_ b;have h4:=cv_ b;refine⟨gB_ (bW_ h1 (by grind)) ?_,?_⟩;have:=bW_ (x:=b.num) (y:=a.den) h3 (by simpa using h2);omega;have:=eB_ a.den b.den;omega
theorem h8_(a b:Rat):bl (a.num* b.num).natAbs≤qs a+qs b∧bl (a.den* b.den)≤qs a+qs b:=by
 have h1:=co_ a;have h2:=cv_ a;have h3:=co_ b;have h4:=cv_ b;refine⟨bW_ h1 h3,?_⟩;have:=eB_ a.den b.den;omega
theorem gw_(a b:Rat):0< a.den* b.den:=Nat.mul_pos a.den_pos b.den_pos
theorem c3_(a b:Rat):qs (a+b)≤qs a+qs b+1:=by
 rw[l4_];have h:=l3_ a b;exact c2_ (gw_ a b) h.1 (by omega)
theorem bK_(a b:Rat):qs (a* b)≤qs a+qs b:=by
 rw[ge_];have h:=h8_ a b;exact c2_ (gw_ a b) h.1 h.2
theorem cQ_(a:Rat):qs (-a)=qs a:=by unfold qs;simp
theorem jr_(a b:Rat):qs (a- b)≤qs a+qs b+1:=by
 rw[Rat.sub_eq_add_neg];have:=c3_ a (-b);rwa[cQ_] at this
theorem iz_(a b:Rat)(hb:b≠0):a/ b=mkRat (a.num* sgn (decide (b.num< 0)) b.den) (a.den* b.num.natAbs):=by
 rw[Rat.div_def,Rat.inv_def]
 conv=>lhs;rw[←Rat.num_divInt_den a]
 rw[Rat.divInt_mul_divInt];unfold sgn;split
 ·rename_i h
  have h':=of_decide_eq_true h;have hp:0< a.den* b.num.natAbs:=Nat.mul_pos a.den_pos (by omega);have e:(a.den:Int) * b.num= -((a.den* b.num.natAbs:Nat):Int):=by grind
  rw[e,Int.mul_neg];generalize a.den* b.num.natAbs=d at hp⊢;cases d with
  |zero=>omega
  |succ d=>
   rfl
 ·have e:(a.den:Int) * b.num=((a.den* b.num.natAbs:Nat):Int):=by grind
  rw[e];rfl
theorem lJ_(a b:Rat):bl (a.num* sgn (decide (b.num< 0)) b.den).natAbs≤qs a+qs b∧bl (a.den* b.num.natAbs)≤qs a+qs b:=by
 have h1:=co_ a;have h2:=cv_ a;have h3:=co_ b;have h4:=cv_ b;refine⟨bW_ h1 (by rw[cP_];grind),?_⟩;have:=eB_ a.den b.num.natAbs;omega
theorem d6_(a b:Rat):qs (a/ b)≤qs a+qs b:=by
 by_cases hb:b=0;subst hb;rw[Rat.div_def,Rat.inv_zero,Rat.mul_zero];omega;rw[iz_ a b hb];have h:=lJ_ a b;have hn:b.num≠0:=fun h=>hb (Rat.num_eq_zero.1 h);exact c2_ (Nat.mul_pos a.den_pos (by omega)) h.1 h.2
def sm(q:Rat):Prop:=qs q≤137438953472
instance (q:Rat):Decidable (sm q):=inferInstanceAs (Decidable (_≤_))
def ck(q:Rat):Option Rat:=if qs q≤137438953472 then some q else none
theorem sm2{a b:Rat}(ha:sm a)(hb:sm b):qs a+qs b≤549755813888:=by unfold sm at ha hb;omega
def sgZ(z:Int):Int:=if z=0 then 0 else if z< 0 then -1 else 1
def cmpQ(a b:Rat):Int:=if a< b then -1 else if a=b then 0 else 1
theorem sgZ_num_lt{q:Rat}:sgZ q.num< 0↔q< 0:=by
 unfold sgZ;have h1:q.num=0↔q=0:=Rat.num_eq_zero;have h2:0≤q.num↔0≤q:=Rat.num_nonneg;have h3:q< 0↔¬0≤q:=Rat.not_le.symm;rw[h3,←h2];split;omega;split <;> omega
theorem sgZ_num_eq{q:Rat}:sgZ q.num=0↔q=0:=by
 unfold sgZ;rw[←Rat.num_eq_zero];split;simp[*];split <;> simp[*]
theorem sgZ_num_gt{q:Rat}:0< sgZ q.num↔0< q:=by
 have h1:= @sgZ_num_lt q;have h2:= @sgZ_num_eq q
 have h3:0< q↔¬(q< 0∨q=0):=by
  rw[←Rat.not_le,Rat.le_iff_lt_or_eq]
 rw[h3,←h1,←h2];omega
theorem cmpQ_eq(a b:Rat):cmpQ a b=if a.num* b.den< b.num* a.den then -1 else if a.num* b.den=b.num* a.den then 0 else 1:=by
 unfold cmpQ;have h1:=Rat.lt_iff a b
 have h2:a=b↔a.num* b.den=b.num* a.den:=by
  constructor;rintro rfl;rfl;intro h;have:=(Rat.mkRat_eq_iff (n₁:=a.num) (n₂:=b.num) a.den_nz b.den_nz).2 h;rwa[Rat.mkRat_self,Rat.mkRat_self] at this
 by_cases h:a< b;rw[if_pos h,if_pos (h1.1 h)];rw[if_neg h,if_neg (fun x=>h (h1.2 x))];by_cases h':a=b;rw[if_pos h',if_pos (h2.1 h')];rw[if_neg h',if_neg (fun x=>h' (h2.2 x))]
def fineQ(k:Nat):Rat:=mkRat 1 (2^ k)
theorem kd_(q:Rat):q.num< 0↔q< 0:=by
 rw[←sgZ_num_lt];unfold sgZ;split;omega;split <;> omega
def absQ(q:Rat):Rat:=mkRat q.num.natAbs q.den
theorem gY_(q:Rat):absQ q=if q< 0 then -q else q:=by
 unfold absQ;by_cases h:q< 0;have hn:q.num< 0:=(kd_ q).2 h;rw[if_pos h];have e:(q.num.natAbs:Int)=(-q).num:=by rw[Rat.neg_num];omega
 rw[e,←Rat.neg_den,Rat.mkRat_self];have hn:¬q.num< 0:=fun e=>h ((kd_ q).1 e);rw[if_neg h];have e:(q.num.natAbs:Int)=q.num:=by omega
 rw[e,Rat.mkRat_self]
theorem oi_(q:Rat):(absQ q).num=(q.num.natAbs:Int):=by
 rw[gY_];by_cases h:q< 0;rw[if_pos h,Rat.neg_num];have hn:q.num< 0:=(kd_ q).2 h;omega;rw[if_neg h];have hn:¬q.num< 0:=fun e=>h ((kd_ q).1 e);omega
theorem oj_(q:Rat):(absQ q).den=q.den:=by
 rw[gY_];split;exact Rat.neg_den ..;rfl
theorem qC_abs(q:Rat):qC (absQ q)=zI (sgn false q.num.natAbs)++[mag (q.den- 1)]:=by
 unfold qC zI;rw[oi_,oj_];rfl
def pE(l:List Rat):List (List AV):=l.map qC
def pA(l:List Rat):AV:= .arr (pE l)
def spC(a b:Rat):List AV:=qC a++qC b
@[simp] theorem qC_length (q:Rat):(qC q).length=3:=rfl
@[simp] theorem spC_length (a b:Rat):(spC a b).length=6:=rfl
@[simp] theorem k8_ (l:List Rat):(pE l).length=l.length:=by simp[pE]
theorem bG_{l:List Rat}{i:Nat}{q:Rat}(h:l[i]?=some q):(pE l)[i]?=some (qC q):=by simp[pE,h]
theorem kc_(l:List Rat)(k:Nat):(pE l).take k=pE (l.take k):=by simp[pE]
theorem k9_(l m:List Rat):pE (l++m)=pE l++pE m:=by simp[pE]
theorem js_(l:List Rat)(i:Nat)(q:Rat):(pE l).set i (qC q)=pE (l.set i q):=by simp[pE,List.map_set]
theorem d7_(l:List Rat):(pE l).all (·.all AV.one)=true:=by
 simp only[pE,List.all_map,List.all_eq_true];intro q _;rfl
theorem fP_(l:List Rat):∀e∈pE l,e.length=3:=by intro e he;simp[pE] at he;obtain⟨q,_,rfl⟩:=he;rfl
theorem aF_(l:List Rat):∀e∈pE l,∀c∈e,Closed c:=by
 intro e he c hc;simp[pE] at he;obtain⟨q,_,rfl⟩:=he;exact aN_ q c hc
theorem ap_(l:List Rat):Closed (pA l):=aL_ (aF_ l)
theorem cU_(a b:Rat):∀c∈spC a b,Closed c:=fun c hc=>(List.mem_append.1 hc).elim (aN_ a c) (aN_ b c)
theorem aP_(a b:Rat):Closed (.agg (spC a b)):=aB_ (cU_ a b)
def zC:List AV:=[.emp,bln false,.emp]
theorem mag0:mag 0= .arr []:=by unfold mag;rw[bh_];rfl
theorem qC0:qC 0=[.arr [],bln false,.arr []]:=by
 show [mag 0,bln (decide ((0:Int)< 0)),mag (1- 1)]=_;rw[mag0];rfl
def smL(l:List Rat):Prop:=∀q∈l,sm q
instance (l:List Rat):Decidable (smL l):=inferInstanceAs (Decidable (∀q∈l,sm q))
def bS_(bf:Int→Bool):List Rat→Rat
 |[]=>0
 |x::l=>l.foldl (fun o y=>if bf (cmpQ y o) then y else o) x
theorem lV_(bf:Int→Bool)(l:List Rat)(y:Rat):bS_ bf (l++[y])=if l=[]∨bf (cmpQ y (bS_ bf l))=true then y else bS_ bf l:=by
 cases l with
 |nil=>simp[bS_]
 |cons x l=>simp[bS_,List.foldl_append]
theorem gV_{bf:Int→Bool}:∀{l:List Rat},smL l→sm (bS_ bf l)
 |[],_=>(by decide:sm 0)
 |x::l,h=>by
  have key:∀(l:List Rat) (o:Rat),sm o→smL l→sm (l.foldl (fun o y=>if bf (cmpQ y o) then y else o) o):=by
   intro l
   induction l with
   |nil=>intro o ho _;exact ho
   |cons y l ih=>
    intro o ho hl;refine ih _ ?_ fun q hq=>hl q (List.mem_cons_of_mem _ hq);show sm (if bf (cmpQ y o)=true then y else o);split;exact hl y (List.mem_cons_self ..);exact ho
  exact key l x (h x (List.mem_cons_self ..)) fun q hq=>h q (List.mem_cons_of_mem _ hq)
def minL(l:List Rat):Rat:=bS_ (fun c=>decide (c< 0)) l
def maxL(l:List Rat):Rat:=bS_ (fun c=>decide (0< c)) l
theorem AEval.lenP{P:Program}{id:Nat}{ev:Operand→Option AV}{hp:Nat→Option ABlk}{c:Call}{x:Operand}{T:Nat}{d:Nat×Nat}{l:List Rat}(hc:c.callee= .builtin .len)(ha:c.args= #[x])(ht:c.argTypes= #[T])(hx:ev x=some (.arr (pE l)))(he:elOf P T=some d):
    AEval P id ev hp (.call c) ⟨.v (.int .i64 (l.length:Nat)),[]⟩ []:= .len hc ha ht hx (by simp[lenA]) he
def trimQ:List Rat→List Rat
 |[]=>[]
 |a::l=>match trimQ l with
  |[]=>if a=0 then [] else [a]
  |b::m=>a::b::m
theorem ck_(a:Rat)(l:List Rat):trimQ (a::l)=if trimQ l=[] then(if a=0 then [] else [a]) else a::trimQ l:=by
 rw[trimQ];grind
theorem gE_(l:List Rat)(a:Rat):trimQ (l++[a])=if a=0 then trimQ l else l++[a]:=by
 induction l with
 |nil=>simp[trimQ]
 |cons b l ih=>
  rw[List.cons_append,ck_,ih,ck_];by_cases h:a=0;simp only[if_pos h];simp_all
theorem aD_(l:List Rat):(trimQ l).length≤l.length:=by
 induction l with
 |nil=>simp[trimQ]
 |cons a l ih=>rw[ck_];grind
theorem pa_(l:List Rat):trimQ l=l.take (trimQ l).length:=by
 induction l with
 |nil=>simp[trimQ]
 |cons a l ih=>
  rw[ck_];grind
theorem ba_{l:List Rat}{q:Rat}(h:q∈trimQ l):q∈l:=by
 rw[pa_] at h;grind
theorem jg_{l:List Rat}{q:Rat}(h:(trimQ l).getLast?=some q):q≠0:=by
 induction l with
 |nil=>simp[trimQ] at h
 |cons a l ih=>
  rw[ck_] at h;grind
theorem aY_(l:List Rat):trimQ (trimQ l)=trimQ l:=by
 rcases List.eq_nil_or_concat (trimQ l) with h|⟨m,q,h⟩
 rw[h];rfl;have hq:q≠0:=jg_ (l:=l) (by grind);rw[h,List.concat_eq_append,gE_,if_neg hq]
theorem f7_{l:List Rat}(h:smL l):smL (trimQ l):=fun q hq=>h q (ba_ hq)
def degP(l:List Rat):Int:=(trimQ l).length- 1
def leadP(l:List Rat):Rat:=(trimQ l).getLastD 0
theorem bj_{l:List Rat}(h:trimQ l≠[]):leadP l≠0:=by
 refine jg_ (l:=l) (q:=(trimQ l).getLastD 0) ?_;rw[List.getLastD_eq_getLast?];cases hl:(trimQ l).getLast? with
 |none=>simp_all
 |some q=>rfl
theorem ig_{l:List Rat}(h:trimQ l=[]):leadP l=0:=by unfold leadP;grind
theorem bk_{l:List Rat}{n:Nat}(h:(trimQ l).length=n+1):(trimQ l)[n]?=some (leadP l):=by
 unfold leadP;grind
theorem leadP_sm{l:List Rat}(h:smL l):sm (leadP l):=by
 by_cases h0:trimQ l=[];rw[ig_ h0];decide;obtain⟨n,hn⟩:∃n,(trimQ l).length=n+1:=⟨(trimQ l).length- 1,by have:=List.length_pos_iff.2 h0;omega⟩;exact h _ (ba_ (List.mem_of_getElem? (bk_ hn)))
def tabP(n:Nat)(f:Nat→Rat):List Rat:=(List.range n).map f
@[simp] theorem tabP_length (n:Nat)(f:Nat→Rat):(tabP n f).length=n:=by simp[tabP]
def coP(p:List Rat)(i:Nat):Rat:=p.getD i 0
def addP(p q:List Rat):List Rat:=trimQ (tabP (max p.length q.length) fun i=>coP p i+coP q i)
def aw_(p:List Rat)(k:Rat):List Rat:=trimQ (tabP p.length fun i=>coP p i* k)
def subP(p q:List Rat):List Rat:=addP p (aw_ q (-1))
def a0_(a:Rat):List Rat:=trimQ [a]
def ao_(p:List Rat):List Rat:=trimQ (tabP (p.length- 1) fun i=>coP p (i+1) * ((i+1:Nat):Int))
def aj_(p:List Rat):List Rat:=trimQ (tabP (p.length+1) fun i=>if i=0 then 0 else coP p (i- 1) / ((i:Nat):Int))
def sameP(p q:List Rat):Bool:=decide (trimQ p=trimQ q)
def a4_(p:List Rat):List Rat:=if trimQ p=[] then [] else aw_ p (1/ leadP p)
theorem g9_{p:List Rat}(h:smL p)(i:Nat):sm (coP p i):=by
 unfold coP;rw[List.getD_eq_getElem?_getD];cases hi:p[i]? with
 |none=>exact(by decide:sm 0)
 |some q=>exact h q (List.mem_of_getElem? hi)
theorem bd_{p:List Rat}{i:Nat}(h:i< p.length):p[i]?=some (coP p i):=by
 unfold coP;grind
theorem ca_{p:List Rat}{i:Nat}(h:p.length≤i):coP p i=0:=by
 unfold coP;grind
theorem dY_:∀c∈zC,Closed c:=aa_ cb_ (aa_ (af_ _) (aa_ cb_ ac_))
theorem le_zC:LeL zC (qC 0):=by rw[qC0];exact .cons .emp (.cons (.refl _) (.cons .emp .nil))
def bdL(l:List Rat)(n:Nat):Prop:=∀q∈l,qs q≤n
instance (l:List Rat) (n:Nat):Decidable (bdL l n):=inferInstanceAs (Decidable (∀q∈l,qs q≤n))
theorem bI_{l:List Rat}{n:Nat}(h:bdL l n)(hn:n≤137438953472):smL l:=fun q hq=>Nat.le_trans (h q hq) hn
theorem bL_{l:List Rat}{n:Nat}(h:bdL l n)(hn:1≤n)(i:Nat):qs (coP l i)≤n:=by
 unfold coP;rw[List.getD_eq_getElem?_getD];cases hi:l[i]? with
 |none=>exact Nat.le_trans (by decide:qs 0≤1) hn
 |some q=>exact h q (List.mem_of_getElem? hi)
def addAt(o:List Rat)(j:Nat)(x:Rat):List Rat:=o.set j (coP o j+x)
def rowP(o:List Rat)(a:Rat)(q:List Rat)(i:Nat):Nat→List Rat
 |0=>o
 |k+1=>addAt (rowP o a q i k) (i+k) (a* coP q k)
def mulR(p q:List Rat):Nat→List Rat
 |0=>List.replicate (p.length+q.length- 1) 0
 |i+1=>if coP p i=0 then mulR p q i else rowP (mulR p q i) (coP p i) q i q.length
def mulP(p q:List Rat):List Rat:=if p=[]∨q=[] then [] else trimQ (mulR p q p.length)
@[simp] theorem l5_ (o:List Rat)(j:Nat)(x:Rat):(addAt o j x).length=o.length:=by simp[addAt]
@[simp] theorem mc_ (o:List Rat)(a:Rat)(q:List Rat)(i k:Nat):(rowP o a q i k).length=o.length:=by
 induction k with
 |zero=>rfl
 |succ k ih=>rw[rowP,l5_,ih]
@[simp] theorem fR_ (p q:List Rat)(i:Nat):(mulR p q i).length=p.length+q.length- 1:=by
 induction i with
 |zero=>simp[mulR]
 |succ i ih=>rw[mulR];split <;> simp[ih]
theorem iH_(o:List Rat)(j n:Nat)(x:Rat):coP (addAt o j x) n=if n=j∧j< o.length then coP o j+x else coP o n:=by
 unfold addAt coP;rw[List.getD_eq_getElem?_getD,List.getElem?_set,List.getD_eq_getElem?_getD,List.getD_eq_getElem?_getD];by_cases h:j=n;subst h;by_cases h2:j< o.length;simp[h2];simp[h2];rw[if_neg h,if_neg (by omega)]
theorem ew_{o:List Rat}{n:Nat}(h:∀i,qs (coP o i)≤n):bdL o n:=by
 intro q hq;obtain⟨i,hi,rfl⟩:=List.getElem_of_mem hq;have:=h i;unfold coP at this;rwa[List.getD_eq_getElem?_getD,List.getElem?_eq_getElem hi] at this
theorem j5_(o:List Rat)(a:Rat)(q:List Rat)(i k n:Nat)(h:n< i∨i+k≤n):coP (rowP o a q i k) n=coP o n:=by
 induction k with
 |zero=>rfl
 |succ k ih=>rw[rowP,iH_,if_neg (by omega),ih (by omega)]
theorem pC_{o:List Rat}{a:Rat}{q:List Rat}{B s t:Nat}(i:Nat)(ho:∀n,qs (coP o n)≤B)(ha:qs a≤s)(hq:∀n,qs (coP q n)≤t):∀k n,qs (coP (rowP o a q i k) n)≤B+(s+t+1)
 |0,n=>Nat.le_trans (ho n) (by omega)
 |k+1,n=>by
  rw[rowP,iH_];split;rw[j5_ o a q i k (i+k) (by omega)];have h1:=c3_ (coP o (i+k)) (a* coP q k);have h2:=bK_ a (coP q k);have h3:=ho (i+k);have h4:=hq k;omega;exact pC_ i ho ha hq k n
theorem ke_{p q:List Rat}{s t:Nat}(hp:∀n,qs (coP p n)≤s)(hq:∀n,qs (coP q n)≤t):∀i n,qs (coP (mulR p q i) n)≤i* (s+t+1)+1
 |0,n=>by
  have:coP (mulR p q 0) n=0:=by
   unfold mulR coP;rw[List.getD_eq_getElem?_getD,List.getElem?_replicate];split <;> rfl
  rw[this];exact Nat.le_add_left 1 _
 |i+1,n=>by
  rw[mulR,Nat.add_mul,Nat.one_mul];split;have:=ke_ hp hq i n;omega;have:=pC_ (B:=i* (s+t+1)+1) i (ke_ hp hq i) (hp i) hq q.length n;omega
theorem p5_{p q:List Rat}{s t:Nat}(hp:bdL p s)(hq:bdL q t)(hs:1≤s)(ht:1≤t):bdL (mulP p q) (p.length* (s+t+1)+1):=by
 unfold mulP;split;intro q hq;cases hq;intro x hx;exact ew_ (ke_ (bL_ hp hs) (bL_ hq ht) p.length) x (ba_ hx)
theorem CvLL.zeros{r:Ren}{hp hp':Nat→Option ABlk}(h:Shr r hp hp')(n:Nat):CvLL r hp hp' (List.replicate n zC) (pE (List.replicate n 0)):=by
 induction n with
 |zero=>rfl
 |succ n ih=>
  refine⟨qC 0,_,rfl,?_,ih⟩;rw[qC0];exact ah_ (Cv.emp _) (ah_ (au_ h (af_ _)) (ah_ (Cv.emp _) aq_))
def subAt(o:List Rat)(j:Nat)(x:Rat):List Rat:=o.set j (coP o j- x)
def rowM(o:List Rat)(k:Rat)(q:List Rat)(n:Nat):Nat→List Rat
 |0=>o
 |i+1=>subAt (rowM o k q n i) (n+i) (k* coP q i)
def divR(q:List Rat)(lead:Rat):Nat→List Rat→List Rat→List Rat×List Rat
 |0,u,o=>(u,o)
 |n+1,u,o=>divR q lead n (u.set n (coP o (n+q.length- 1) / lead)) (if coP o (n+q.length- 1) / lead=0 then o else rowM o (coP o (n+q.length- 1) / lead) q n q.length)
def divP(p q:List Rat):List Rat×List Rat:=
 let r:=divR (trimQ q) (leadP q) ((trimQ p).length+1- (trimQ q).length) (List.replicate ((trimQ p).length+1- (trimQ q).length) 0) (trimQ p)
 (trimQ r.1,trimQ r.2)
@[simp] theorem kZ_ (o:List Rat)(j:Nat)(x:Rat):(subAt o j x).length=o.length:=by simp[subAt]
@[simp] theorem dh_ (o:List Rat)(a:Rat)(q:List Rat)(i k:Nat):(rowM o a q i k).length=o.length:=by
 induction k with
 |zero=>rfl
 |succ k ih=>rw[rowM,kZ_,ih]
theorem dT_(q:List Rat)(lead:Rat):∀c u o,(divR q lead c u o).1.length=u.length∧(divR q lead c u o).2.length=o.length
 |0,u,o=>⟨rfl,rfl⟩
 |n+1,u,o=>by
  refine⟨(dT_ q lead n _ _).1.trans (by simp),(dT_ q lead n _ _).2.trans ?_⟩;split <;> simp
theorem kv_(o:List Rat)(j n:Nat)(x:Rat):coP (o.set j x) n=if n=j∧j< o.length then x else coP o n:=by
 unfold coP;grind
theorem gx_(o:List Rat)(j n:Nat)(x:Rat):coP (subAt o j x) n=if n=j∧j< o.length then coP o j- x else coP o n:=kv_ o j n _
theorem gc_(o:List Rat)(a:Rat)(q:List Rat)(i k n:Nat)(h:n< i∨i+k≤n):coP (rowM o a q i k) n=coP o n:=by
 induction k with
 |zero=>rfl
 |succ k ih=>rw[rowM,gx_,if_neg (by omega),ih (by omega)]
theorem pD_{o:List Rat}{a:Rat}{q:List Rat}{B s t:Nat}(i:Nat)(ho:∀n,qs (coP o n)≤B)(ha:qs a≤s)(hq:∀n,qs (coP q n)≤t):∀k n,qs (coP (rowM o a q i k) n)≤B+(s+t+1)
 |0,n=>Nat.le_trans (ho n) (by omega)
 |k+1,n=>by
  rw[rowM,gx_];split;rw[gc_ o a q i k (i+k) (by omega)];have h1:=jr_ (coP o (i+k)) (a* coP q k);have h2:=bK_ a (coP q k);have h3:=ho (i+k);have h4:=hq k;omega;exact pD_ i ho ha hq k n
def divB(q:List Rat)(lead:Rat)(L c:Nat)(u o:List Rat):Prop:=
 ∃B t,(∀n,qs (coP o n)≤B)∧(∀n,qs (coP q n)≤t)∧qs lead≤t∧1≤t∧(∀n,qs (coP u n)≤L)∧2^ c* (B+2* t+1)≤L
theorem nW_{q:List Rat}{lead:Rat}{L c:Nat}{u o:List Rat}(h:divB q lead L c u o):∃B t,(∀n,qs (coP o n)≤B)∧(∀n,qs (coP q n)≤t)∧qs lead≤t∧B+2* t+1≤L:=by
 obtain⟨B,t,h1,h2,h3,h4,h5,h6⟩:=h;refine⟨B,t,h1,h2,h3,Nat.le_trans ?_ h6⟩;have:=Nat.mul_le_mul_right (B+2* t+1) (Nat.one_le_two_pow (n:=c));omega
theorem lL_{q:List Rat}{lead:Rat}{L n:Nat}{u o:List Rat}(h:divB q lead L (n+1) u o):
    divB q lead L n (u.set n (coP o (n+q.length- 1) / lead)) (if coP o (n+q.length- 1) / lead=0 then o else rowM o (coP o (n+q.length- 1) / lead) q n q.length):=by
 obtain⟨B,t,h1,h2,h3,h4,h5,h6⟩:=h;obtain⟨k,hk⟩:∃k,k=coP o (n+q.length- 1) / lead:=⟨_,rfl⟩
 have hkb:qs k≤B+t:=by
  have e1:=d6_ (coP o (n+q.length- 1)) lead;grind
 rw[←hk];obtain⟨W,hW⟩:∃W,W=2^ n:=⟨_,rfl⟩;have hW1:1≤W:=by grind
 rw[Nat.pow_succ] at h6;have h7:W* (2* B+2* t+1+2* t+1)≤L:=by grind
 have h8:2* B+2* t+1+2* t+1≤L:=by
  have:=Nat.mul_le_mul_right (2* B+2* t+1+2* t+1) hW1;omega
 refine⟨2* B+2* t+1,t,fun j=>?_,h2,h3,h4,fun j=>?_,by grind⟩;split;have:=h1 j;omega;have:=pD_ n h1 hkb h2 q.length j;omega;rw[kv_];grind
theorem mK_{q:List Rat}{lead:Rat}{L:Nat}:∀{c u o},divB q lead L c u o→(∀n,qs (coP (divR q lead c u o).1 n)≤L)∧(∀n,qs (coP (divR q lead c u o).2 n)≤L)
 |0,u,o,h=>by
  obtain⟨B,t,h1,h2,h3,h6⟩:=nW_ h;obtain⟨_,_,_,_,_,_,h5,_⟩:=h;exact⟨h5,fun n=>Nat.le_trans (h1 n) (by omega)⟩
 |n+1,u,o,h=>mK_ (c:=n) (lL_ h)
def mxL(l:List Rat):Nat:=l.foldr (fun q n=>max (qs q) n) 1
theorem br_(l:List Rat):1≤mxL l:=by
 induction l with
 |nil=>exact Nat.le_refl _
 |cons q l ih=>exact Nat.le_trans ih (Nat.le_max_right _ _)
theorem bB_(l:List Rat):bdL l (mxL l):=by
 induction l with
 |nil=>intro q hq;grind
 |cons a l ih=>
  intro q hq;rcases List.mem_cons.1 hq with rfl|hq
  exact Nat.le_max_left _ _;exact Nat.le_trans (ih q hq) (Nat.le_max_right _ _)
theorem bz_{l:List Rat}{n:Nat}(h:bdL l n)(hn:1≤n):mxL l≤n:=by
 induction l with
 |nil=>exact hn
 |cons a l ih=>exact Nat.max_le.2 ⟨h a (List.mem_cons_self ..),ih fun q hq=>h q (List.mem_cons_of_mem _ hq)⟩
def okDiv(p q:List Rat):Prop:=2^ ((trimQ p).length+1- (trimQ q).length) * (mxL p+2* mxL q+1)≤137438953472∧p.length≤274877906944∧q.length≤274877906944
instance (p q:List Rat):Decidable (okDiv p q):=inferInstanceAs (Decidable (_∧_∧_))
theorem oS_{p q:List Rat}{s t L:Nat}(hp:bdL p s)(hq:bdL q t)(hs:1≤s)(ht:1≤t)(hq0:trimQ q≠[])(m:Nat)(h:2^ m* (s+2* t+1)≤L):divB (trimQ q) (leadP q) L m (List.replicate m 0) (trimQ p):=by
 have hL:1≤L:=by
  have h3:=Nat.mul_le_mul_right (s+2* t+1) (Nat.one_le_two_pow (n:=m));omega
 have hql:=List.length_pos_iff.2 hq0;refine⟨s,t,bL_ (fun x hx=>hp x (ba_ hx)) hs,bL_ (fun x hx=>hq x (ba_ hx)) ht,hq _ (ba_ (List.mem_of_getElem? (bk_ (n:=(trimQ q).length- 1) (by omega)))),ht,fun n=>?_,h⟩
 have:coP (List.replicate m 0) n=0:=by
  unfold coP;rw[List.getD_eq_getElem?_getD,List.getElem?_replicate];split <;> rfl
 rw[this];exact Nat.le_trans (by decide:qs 0≤1) hL
theorem rf_{p q:List Rat}{s t L:Nat}(hp:bdL p s)(hq:bdL q t)(hs:1≤s)(ht:1≤t)(hq0:trimQ q≠[])(h:2^ ((trimQ p).length+1- (trimQ q).length) * (s+2* t+1)≤L):bdL (divP p q).1 L∧bdL (divP p q).2 L:=by
 have:=mK_ (oS_ hp hq hs ht hq0 _ h);exact⟨fun x hx=>ew_ this.1 x (ba_ hx),fun x hx=>ew_ this.2 x (ba_ hx)⟩
theorem mL_{p q:List Rat}(h:okDiv p q)(hq0:trimQ q≠[]):smL (divP p q).1∧smL (divP p q).2:=
 have:=rf_ (bB_ p) (bB_ q) (br_ p) (br_ q) hq0 h.1
 ⟨bI_ this.1 (Nat.le_refl _),bI_ this.2 (Nat.le_refl _)⟩
theorem gv_{p q:List Rat}:(divP p q).1.length≤p.length+1∧(divP p q).2.length≤p.length:=by
 have h1:=dT_ (trimQ q) (leadP q) ((trimQ p).length+1- (trimQ q).length) (List.replicate ((trimQ p).length+1- (trimQ q).length) 0) (trimQ p);have h2:=aD_ p;have h3:=aD_ (divR (trimQ q) (leadP q) ((trimQ p).length+1- (trimQ q).length) (List.replicate ((trimQ p).length+1- (trimQ q).length) 0) (trimQ p)).1;have h4:=aD_ (divR (trimQ q) (leadP q) ((trimQ p).length+1- (trimQ q).length) (List.replicate ((trimQ p).length+1- (trimQ q).length) 0) (trimQ p)).2;rw[h1.1,List.length_replicate] at h3;rw[h1.2] at h4;exact⟨by unfold divP;simp only;omega,by unfold divP;simp only;omega⟩
theorem a3_(p:List Rat)(k:Rat):(aw_ p k).length≤p.length:=by
 have:=aD_ (tabP p.length fun i=>coP p i* k);simpa[aw_] using this
theorem gH_(p:List Rat):(a4_ p).length≤p.length:=by
 unfold a4_;split;simp;exact a3_ _ _
def gcdM:Nat→List Rat→List Rat→Option (List Rat)
 |0,_,_=>none
 |f+1,p,q=>if trimQ q=[] then(if smL p then some (a4_ p) else none) else if okDiv p q then gcdM f q (a4_ (divP p q).2) else none
def evalP:List Rat→Rat→Rat
 |[],_=>0
 |a::l,x=>evalP l x* x+a
def backP(l:List Rat)(k:Nat):Option (List AV):=if k< l.length then some [i64 ((l.length- 1- k:Nat):Int),.agg (qC (coP l (l.length- 1- k)))] else none
theorem iy_{l:List Rat}{k:Nat}(h:k< l.length):l.drop (l.length- (k+1))=coP l (l.length- 1- k)::l.drop (l.length- k):=by
 have h1:l.length- (k+1)< l.length:=by omega
 rw[List.drop_eq_getElem_cons h1,show l.length- (k+1)+1=l.length- k by omega];congr 1;have:=bd_ h1;rw[List.getElem?_eq_getElem h1] at this;rw[show l.length- 1- k=l.length- (k+1) by omega];exact Option.some.inj this
theorem fv_{x:Rat}{s t:Nat}(hx:qs x≤t):∀{l:List Rat},bdL l s→qs (evalP l x)≤l.length* (s+t+1)+1
 |[],_=>by show qs 0≤_;exact Nat.le_trans (by decide:qs 0≤1) (Nat.le_add_left 1 _)
 |a::l,h=>by
  have ih:=fv_ (l:=l) hx fun q hq=>h q (List.mem_cons_of_mem _ hq);have ha:=h a (List.mem_cons_self ..);have h1:=c3_ (evalP l x* x) a;have h2:=bK_ (evalP l x) x;show qs (evalP l x* x+a)≤(l.length+1) * (s+t+1)+1;rw[Nat.add_mul,Nat.one_mul];omega
def b2_(p:List Rat)(x:Rat):Prop:=p.length* (mxL p+qs x+1)+mxL p+qs x+2≤137438953472∧p.length≤274877906944
instance (p:List Rat) (x:Rat):Decidable (b2_ p x):=inferInstanceAs (Decidable (_∧_))
theorem oQ_{p:List Rat}{x:Rat}(h:b2_ p x)(k:Nat)(hk:k< p.length):qs (evalP (p.drop (p.length- k)) x)+qs x≤549755813888∧qs (evalP (p.drop (p.length- k)) x* x)+qs (coP p (p.length- 1- k))≤549755813888:=by
 have h1:=fv_ (t:=qs x) (Nat.le_refl _) (l:=p.drop (p.length- k)) (s:=mxL p) fun q hq=>bB_ p q (List.mem_of_mem_drop hq);have h2:=bK_ (evalP (p.drop (p.length- k)) x) x;have h3:=bL_ (bB_ p) (br_ p) (p.length- 1- k);have h4:=h.1;have h5:(p.drop (p.length- k)).length* (mxL p+qs x+1)≤p.length* (mxL p+qs x+1):=Nat.mul_le_mul_right _ (by simp);omega
theorem eT_{p:List Rat}{x:Rat}(h:b2_ p x):sm (evalP p x):=by
 have h1:=fv_ (t:=qs x) (Nat.le_refl _) (bB_ p);have h2:=h.1;unfold sm;omega
abbrev Sp:=Rat×Rat
def prods(a b:Sp):List Rat:=[a.1* b.1,a.1* b.2,a.2* b.1,a.2* b.2]
def spMul(a b:Sp):Sp:=(minL (prods a b),maxL (prods a b))
def spAdd(a b:Sp):Sp:=(a.1+b.1,a.2+b.2)
def smS(a:Sp):Prop:=sm a.1∧sm a.2
instance (a:Sp):Decidable (smS a):=inferInstanceAs (Decidable (_∧_))
def ovP(v0 s:Sp):List Rat→Sp
 |[]=>v0
 |a::l=>spAdd (spMul (ovP v0 s l) s) (a,a)
def okOv(v0 s:Sp):List Rat→Prop
 |[]=>smS v0
 |a::l=>okOv v0 s l∧smL (prods (ovP v0 s l) s)∧sm a∧smS (spAdd (spMul (ovP v0 s l) s) (a,a))
instance okOv_dec (v0 s:Sp):(l:List Rat)→Decidable (okOv v0 s l)
 |[]=>inferInstanceAs (Decidable (smS v0))
 |a::l=> @instDecidableAnd _ _ (okOv_dec v0 s l) (inferInstanceAs (Decidable (_∧_∧_)))
theorem okOv_sm{v0 s:Sp}:∀{l:List Rat},okOv v0 s l→smS (ovP v0 s l)
 |[],h=>h
 |_::_,h=>h.2.2.2
theorem le_{v0 s:Sp}:∀{l:List Rat} (n:Nat),okOv v0 s l→okOv v0 s (l.drop n)
 |_,0,h=>h
 |[],_+1,h=>h
 |_::_,n+1,h=>le_ n h.1
def overP(p:List Rat)(s:Sp):Sp:=if¬cmpQ s.1 s.2≤0∨trimQ p=[] then(0,0) else ovP (leadP p,leadP p) s ((trimQ p).take ((trimQ p).length- 1))
def ld_(p:List Rat)(s:Sp):Prop:=smL p∧smS s∧p.length≤274877906944∧okOv (leadP p,leadP p) s ((trimQ p).take ((trimQ p).length- 1))
instance (p:List Rat) (s:Sp):Decidable (ld_ p s):=inferInstanceAs (Decidable (_∧_∧_∧_))
def okMul(p q:List Rat):Prop:=p.length* (mxL p+mxL q+1)+1≤137438953472∧mxL q≤137438953472∧p.length≤274877906944∧q.length≤274877906944
instance (p q:List Rat):Decidable (okMul p q):=inferInstanceAs (Decidable (_∧_∧_∧_))
theorem gd_{p q:List Rat}(h:okMul p q):smL (mulP p q):=
 bI_ (p5_ (bB_ p) (bB_ q) (br_ p) (br_ q)) h.1
theorem ds_(p q:List Rat):(addP p q).length≤max p.length q.length:=by
 have:=aD_ (tabP (max p.length q.length) fun i=>coP p i+coP q i);simpa[addP] using this
theorem ns_(p q:List Rat):(mulP p q).length≤p.length+q.length:=by
 unfold mulP;split;simp;have:=aD_ (mulR p q p.length);rw[fR_] at this;omega
theorem et_(a:Rat):(a0_ a).length≤1:=aD_ [a]
def compP(q:List Rat):List Rat→List Rat
 |[]=>[]
 |a::l=>addP (mulP (compP q l) q) (a0_ a)
def dv_(q:List Rat):List Rat→Prop
 |[]=>True
 |a::l=>dv_ q l∧okMul (compP q l) q∧sm a∧(mulP (compP q l) q).length≤274877906944
instance okComp_dec (q:List Rat):(l:List Rat)→Decidable (dv_ q l)
 |[]=>inferInstanceAs (Decidable True)
 |a::l=> @instDecidableAnd _ _ (okComp_dec q l) (inferInstanceAs (Decidable (_∧_∧_)))
theorem h4_{q:List Rat}:∀{l:List Rat} (n:Nat),dv_ q l→dv_ q (l.drop n)
 |_,0,h=>h
 |[],_+1,h=>h
 |_::_,n+1,h=>h4_ n h.1
abbrev UB:Nat:=32768
def iE(l:List Nat):List (List AV):=l.map fun(d:Nat)=>[i64 d]
def hv(l:List Nat):Nat:=ofD UB l.reverse
def zd(n:Nat):List Nat:=(digs UB n).reverse
def zZ(z:Int):List AV:=[i64 (sgZ z),.arr (iE (zd z.natAbs))]
def dD_:List Nat→List Nat
 |[]=>[]
 |d::l=>if d=0 then dD_ l else d::l
@[simp] theorem ij_ (l:List Nat):(iE l).length=l.length:=by simp[iE]
theorem fG_{l:List Nat}{i d:Nat}(h:l[i]?=some d):(iE l)[i]?=some [i64 d]:=by simp[iE,h]
theorem iE_take(l:List Nat)(k:Nat):(iE l).take k=iE (l.take k):=by simp[iE]
theorem gk_(l m:List Nat):iE (l++m)=iE l++iE m:=by simp[iE]
theorem ii_(l:List Nat)(i d:Nat):(iE l).set i [i64 d]=iE (l.set i d):=by simp[iE,List.map_set]
theorem d8_(k:Nat):List.replicate k [i64 0]=iE (List.replicate k 0):=by simp[iE]
theorem d9_(l:List Nat):(iE l).all (·.all AV.one)=true:=by
 simp only[iE,List.all_map,List.all_eq_true];intro d _;rfl
theorem fT_(l:List Nat):∀e∈iE l,e.length=1:=by intro e he;simp[iE] at he;obtain⟨d,_,rfl⟩:=he;rfl
theorem bR_(l:List Nat):∀e∈iE l,∀c∈e,Closed c:=by
 intro e he c hc;simp[iE] at he;obtain⟨d,_,rfl⟩:=he;simp at hc;subst hc;exact af_ _
theorem cA_(l:List Nat):Closed (.arr (iE l)):=aL_ (bR_ l)
theorem dc_(z:Int):∀c∈zZ z,Closed c:=aa_ (af_ _) (aa_ (cA_ _) ac_)
theorem cm_(z:Int):Closed (.agg (zZ z)):=aB_ (dc_ z)
theorem ol_(m:List Nat)(d:Nat):trimD (m++[d])=if d=0 then trimD m else m++[d]:=by
 induction m with
 |nil=>simp[trimD]
 |cons a m ih=>
  rw[List.cons_append,trimD,ih];by_cases hd:d=0;rw[if_pos hd,if_pos hd];rfl;rw[if_neg hd,if_neg hd];cases m <;> rfl
theorem l6_(l:List Nat):dD_ l=(trimD l.reverse).reverse:=by
 induction l with
 |nil=>rfl
 |cons d l ih=>
  rw[dD_,List.reverse_cons,ol_];split;exact ih;simp
theorem cY_{l:List Nat}(h:∀d∈l,d< UB):dD_ l=zd (hv l):=by
 rw[l6_,eF_ (b:=UB) (by decide) (fun d hd=>h d (List.mem_reverse.1 hd))];rfl
theorem hv_zd(n:Nat):hv (zd n)=n:=by unfold hv zd;rw[List.reverse_reverse,aO_ (by decide)]
theorem zd_lt(n:Nat):∀d∈zd n,d< UB:=fun d hd=>b8_ (by decide) n d (List.mem_reverse.1 hd)
theorem bw_(n:Nat):(zd n).length=(digs UB n).length:=List.length_reverse
theorem il_(d:Nat)(l:List Nat):hv (d::l)=hv l+UB^ l.length* d:=by
 unfold hv;rw[List.reverse_cons,dE_,List.length_reverse]
theorem ik_(l:List Nat)(d:Nat):hv (l++[d])=hv l* UB+d:=by
 unfold hv;simp[ofD];rw[Nat.mul_comm,Nat.add_comm]
theorem lo_:hv []=0:=rfl
theorem hK_:zd 0=[]:=by unfold zd;rw[bh_];rfl
theorem zd_eq_nil{n:Nat}:zd n=[]↔n=0:=by
 unfold zd;rw[List.reverse_eq_nil_iff];exact dU_ (by decide)
theorem jj_{l:List Nat}(h:∀d∈l,d< UB):dD_ l=[]↔hv l=0:=by rw[cY_ h];exact zd_eq_nil
theorem zZ_zero:zZ 0=[i64 0,.arr []]:=by unfold zZ;show [i64 0,AV.arr (iE (zd 0))]=_;rw[hK_];rfl
theorem hv_lt{l:List Nat}(h:∀d∈l,d< UB):hv l< UB^ l.length:=by
 have:=dx_ (b:=UB) (l:=l.reverse) fun d hd=>h d (List.mem_reverse.1 hd);rwa[List.length_reverse] at this
theorem AEval.lenI{P:Program}{id:Nat}{ev:Operand→Option AV}{hp:Nat→Option ABlk}{c:Call}{x:Operand}{T:Nat}{d:Nat×Nat}{l:List Nat}(hc:c.callee= .builtin .len)(ha:c.args= #[x])(ht:c.argTypes= #[T])(hx:ev x=some (.arr (iE l)))(he:elOf P T=some d):
    AEval P id ev hp (.call c) ⟨.v (.int .i64 (l.length:Nat)),[]⟩ []:= .len hc ha ht hx (by simp[lenA]) he
abbrev RQ:=Rat×Bool
def rok(x:RQ):Prop:=x.2=true→x.1=0
def rC(x:RQ):List AV:=zZ x.1.num++zZ (if x.2 then 0 else(x.1.den:Int))
def rq(q:Rat):RQ:=(q,false)
def r0:RQ:=(0,true)
theorem rok_rq(q:Rat):rok (rq q):=fun h=>by cases h
@[simp] theorem rC_length (x:RQ):(rC x).length=4:=rfl
theorem fi_(x:RQ):∀c∈rC x,Closed c:=fun c hc=>(List.mem_append.1 hc).elim (dc_ _ c) (dc_ _ c)
theorem fj_(x:RQ):Closed (.agg (rC x)):=aB_ (fi_ x)
theorem rC_rq(q:Rat):rC (rq q)=zZ q.num++zZ (q.den:Int):=rfl
def rE(l:List RQ):List (List AV):=l.map rC
@[simp] theorem rE_length (l:List RQ):(rE l).length=l.length:=by simp[rE]
theorem d5_(l:List RQ):(rE l).all (·.all AV.one)=true:=by
 simp only[rE,List.all_map,List.all_eq_true];intro q _;rfl
theorem gy_(l:List RQ):∀e∈rE l,∀c∈e,Closed c:=by
 intro e he c hc;obtain⟨q,_,rfl⟩:=List.mem_map.1 he;exact fi_ q c hc
theorem AEval.lenR{P:Program}{id:Nat}{ev:Operand→Option AV}{hp:Nat→Option ABlk}{c:Call}{x:Operand}{T:Nat}{d:Nat×Nat}{l:List RQ}(hc:c.callee= .builtin .len)(ha:c.args= #[x])(ht:c.argTypes= #[T])(hx:ev x=some (.arr (rE l)))(he:elOf P T=some d):
    AEval P id ev hp (.call c) ⟨.v (.int .i64 (l.length:Nat)),[]⟩ []:= .len hc ha ht hx (by simp[lenA]) he
theorem ps_{n:Int}{d:Nat}(hd:0< d):sgZ (mkRat n d).num=sgZ n:=by
 rw[em_ hd];have hg:0< Nat.gcd n.natAbs d:=Nat.gcd_pos_of_pos_right _ hd;have h1:n≠0→0< n.natAbs/ Nat.gcd n.natAbs d:=fun h=>Nat.div_pos (Nat.gcd_le_left _ (by omega)) hg;unfold sgZ sgn;by_cases h0:n=0;subst h0;simp;have:=h1 h0;by_cases hn:n< 0;simp[hn,h0];omega;simp[hn,h0];omega
theorem gP_(n d:Int)(hd:d< 0):Rat.divInt n d=mkRat (-n) d.natAbs:=by
 obtain⟨m,rfl⟩:∃m:Nat,d=Int.negSucc m:=⟨d.natAbs- 1,by omega⟩;rfl
theorem gO_(n d:Int)(hd:0< d):Rat.divInt n d=mkRat n d.natAbs:=by
 obtain⟨m,rfl⟩:∃m:Nat,d=(m:Int):=⟨d.natAbs,by omega⟩;rfl
theorem fw_(a b:Rat):a/ b=Rat.divInt (a.num* b.den) (a.den* b.num):=by
 rw[Rat.div_def,Rat.inv_def]
 conv=>lhs;rw[←Rat.num_divInt_den a]
 rw[Rat.divInt_mul_divInt]
abbrev nQ(n:Nat):Rat:=((n:Int):Rat)
theorem nQ_eq(n:Nat):nQ n=mkRat n 1:=(Rat.mkRat_one n).symm
theorem nQ_zero{n:Nat}:nQ n=0↔n=0:=by simp
theorem qs_nQ{n k:Nat}(h:bl n≤k)(hk:1≤k):qs (nQ n)≤k:=by
 refine Nat.max_le.2 ⟨?_,?_⟩;show bl ((n:Int)).natAbs≤k;rwa[Int.natAbs_natCast];show bl 1≤k;rw[fl_];grind
theorem nQ_mul(a b:Nat):nQ a* nQ b=nQ (a* b):=by grind
theorem nQ_sub{a b:Nat}(h:b≤a):nQ a- nQ b=nQ (a- b):=by
 rw[←Rat.intCast_sub];congr 1;omega
theorem nr_(a b:Nat)(hb:b≠0):nQ a/ nQ b=mkRat a b:=by
 rw[fw_];simp
theorem li_(a b:Nat)(hb:b≠0)(h:b∣a):mkRat a b=nQ (a/ b):=by
 obtain⟨k,rfl⟩:=h;rw[Nat.mul_div_cancel_left _ (by omega),nQ_eq,Rat.mkRat_eq_iff hb (by decide),Int.natCast_mul,Int.mul_comm (b:Int)];simp
theorem ml_(a b:Nat)(hb:b≠0):(mkRat a b).floor=((a/ b:Nat):Int):=by
 have h:=e7_ (n:=(a:Int)) (d:=b) (by omega);rw[Int.natAbs_natCast] at h;rw[Rat.floor_def,h.1,h.2,←Int.natCast_ediv,←Int.natCast_ediv,Nat.div_div_eq_div_mul,Nat.mul_div_cancel' (Nat.gcd_dvd_right a b)]
def denL:List Rat→Nat→Nat
 |[],d=>d
 |c::l,d=>denL l (Nat.lcm d c.den)
def intC(c:Rat)(D:Nat):Nat:=c.num.natAbs* (D/ c.den)
def numL(D:Nat):List Rat→Nat→Nat
 |[],n=>n
 |c::l,n=>numL D l (Nat.gcd n (intC c D))
def primP(p:List Rat):List Rat:=aw_ (trimQ p) (nQ (denL (trimQ p) 1) / nQ (numL (denL (trimQ p) 1) (trimQ p) 0))
def lc_(p:List Rat):Prop:=(p.length+4) * mxL p≤34359738368∧p.length≤274877906944
instance (p:List Rat):Decidable (lc_ p):=inferInstanceAs (Decidable (_∧_))
theorem qf_{a b:Nat}(ha:a≠0)(hb:b≠0):Nat.lcm a b≠0:=by simp_all
theorem iE_:∀(l:List Rat) {d:Nat},d≠0→denL l d≠0
 |[],_,h=>h
 |c::l,_,h=>iE_ l (qf_ h c.den_nz)
theorem fy_:∀(l:List Rat) (d:Nat),d∣denL l d∧∀c∈l,c.den∣denL l d
 |[],d=>⟨Nat.dvd_refl d,fun _ h=>by cases h⟩
 |c::l,d=>by
  obtain⟨h1,h2⟩:=fy_ l (Nat.lcm d c.den);refine⟨Nat.dvd_trans (Nat.dvd_lcm_left d c.den) h1,fun x hx=>?_⟩;rcases List.mem_cons.1 hx with rfl|hx
  exact Nat.dvd_trans (Nat.dvd_lcm_right d x.den) h1;exact h2 x hx
theorem bl_lcm(a b:Nat):bl (Nat.lcm a b)≤bl a+bl b:=
 Nat.le_trans (cC_ _ _) (eB_ a b)
theorem mM_{s:Nat}:∀(l:List Rat) (d:Nat),bdL l s→bl (denL l d)≤bl d+l.length* s
 |[],d,_=>by simp[denL]
 |c::l,d,h=>by
  have h1:=mM_ l (Nat.lcm d c.den) fun q hq=>h q (List.mem_cons_of_mem _ hq);have h2:=bl_lcm d c.den;have h3:=cv_ c;have h4:=h c (List.mem_cons_self ..);rw[List.length_cons,Nat.add_mul];unfold denL;omega
theorem hp_(c:Rat)(D:Nat)(h:c.den∣D):absQ (c* nQ D)=nQ (intC c D):=by
 obtain⟨k,rfl⟩:=h;have hd:=c.den_nz
 have e:c* nQ (c.den* k)=((c.num* (k:Int):Int):Rat):=by
  rw[ge_];show mkRat (c.num* ((c.den* k:Nat):Int)) (c.den* 1)=_;rw[show((c.num* (k:Int):Int):Rat)=mkRat (c.num* k) 1 from(Rat.mkRat_one _).symm,Rat.mkRat_eq_iff (by omega) (by decide)];grind
 rw[e];unfold absQ intC;show mkRat (((c.num* (k:Int)).natAbs:Nat):Int) 1=_;rw[Nat.mul_div_cancel_left _ (by omega),Int.natAbs_mul,Int.natAbs_natCast,nQ_eq]
theorem ho_(D:Nat):∀(l:List Rat) (n:Nat),numL D l n∣n∧∀c∈l,numL D l n∣intC c D
 |[],n=>⟨Nat.dvd_refl n,fun _ h=>by cases h⟩
 |c::l,n=>by
  obtain⟨h1,h2⟩:=ho_ D l (Nat.gcd n (intC c D));refine⟨Nat.dvd_trans h1 (Nat.gcd_dvd_left _ _),fun x hx=>?_⟩;rcases List.mem_cons.1 hx with rfl|hx
  exact Nat.dvd_trans h1 (Nat.gcd_dvd_right _ _);exact h2 x hx
theorem ms_{c:Rat}{D:Nat}(h:c.den∣D)(hD:D≠0)(hc:c≠0):intC c D≠0:=by
 obtain⟨k,rfl⟩:=h;unfold intC;rw[Nat.mul_div_cancel_left _ c.den_pos];have h1:c.num≠0:=fun e=>hc (Rat.num_eq_zero.1 e);refine Nat.mul_ne_zero (by omega) fun e=>hD (by grind)
theorem mt_(c:Rat)(D:Nat):bl (intC c D)≤qs c+bl D:=by
 have h1:=eB_ c.num.natAbs (D/ c.den);have h2:=cC_ D c.den;have h3:=co_ c;unfold intC;omega
end Go.Abs
