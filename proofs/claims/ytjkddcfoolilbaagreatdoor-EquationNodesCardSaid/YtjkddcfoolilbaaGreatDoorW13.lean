/- Part W13 of the proof. -/
import Derived.Test.YtjkddcfoolilbaaGreatDoorW12
set_option linter.all false
namespace Go.Abs
structure DivI (U v n L:Nat)(R T:List Nat)(k:Nat):Prop where
 len:R.length=L
 dig:∀d∈R,d< MB
 digT:∀d∈T,d< MB
 k_le:k+n+T.length=L
 val:U=ofD MB R+v* (MB^ k* ofD MB T)
 top:ofD MB (R.drop k)< v
theorem DivI.start{U v n L s b:Nat}{R:List Nat}(hR:R.length=L)(hd:∀d∈R,d< MB)(hU:ofD MB R=U)(hn:n≤L)(hb:MB^ (n- 1)≤b)(hn1:1≤n)(hv:v=b* s)(hlt:U< MB^ (L- 1) * s):DivI U v n L R [] (L- n):=by
 refine⟨hR,hd,by simp,by grind,by simp[ofD,hU],?_⟩;have h1:=bV_ MB (L- n) R (by omega);have h3:MB^ (L- 1)=MB^ (L- n) * MB^ (n- 1):=by rw[←Nat.pow_add];grind
 rw[h3,Nat.mul_assoc] at hlt;have h4:MB^ (L- n) * ofD MB (R.drop (L- n))< MB^ (L- n) * (MB^ (n- 1) * s):=by omega
 have h5:=Nat.lt_of_mul_lt_mul_left h4;have h6:MB^ (n- 1) * s≤b* s:=Nat.mul_le_mul_right _ hb;omega
theorem DivI.parts{U v n L k:Nat}{R T:List Nat}(h:DivI U v n L R T (k+1))(hv:v< MB^ n):
    ofD MB (R.drop (k+n+1))=0∧ofD MB ((R.drop k).take (n+1))=ofD MB (R.drop k)∧ofD MB (R.drop k)< v* MB∧((R.drop k).take (n+1)).length=n+1∧R=R.take k++(R.drop k).take (n+1)++R.drop (k+n+1):=by
 have hl:=h.k_le;have hlen:=h.len;have hk:k< R.length:=by omega
 obtain⟨x,hx⟩:∃x,R[k]?=some x:=⟨_,List.getElem?_eq_getElem hk⟩;have hx1:x< MB:=h.dig x (List.mem_of_getElem? hx);have e1:=fd_ MB hx;have htop:=h.top;have e2:=bV_ MB n (R.drop (k+1)) (by grind);rw[List.drop_drop,show k+1+n=k+n+1 by omega] at e2
 have hz:ofD MB (R.drop (k+n+1))=0:=by
  rcases Nat.eq_zero_or_pos (ofD MB (R.drop (k+n+1))) with h0|h0
  exact h0;have:MB^ n* 1≤MB^ n* ofD MB (R.drop (k+n+1)):=Nat.mul_le_mul_left _ h0;omega
 have e3:=bV_ MB (n+1) (R.drop k) (by grind);rw[List.drop_drop,show k+(n+1)=k+n+1 by omega,hz] at e3;refine⟨hz,by omega,?_,by grind,?_⟩;have:MB* (ofD MB (R.drop (k+1))+1)≤MB* v:=Nat.mul_le_mul_left _ htop;rw[Nat.mul_add] at this;rw[Nat.mul_comm v MB];omega;rw[List.append_assoc]
 conv=>lhs;rw[←List.take_append_drop k R]
 conv=>lhs;rw[←List.take_append_drop (n+1) (R.drop k)]
 rw[List.drop_drop,show k+(n+1)=k+n+1 by omega]
theorem DivI.next{U v n L k:Nat}{R T A:List Nat}(h:DivI U v n L R T (k+1))(hv:v< MB^ n)(hv0:0< v)(hA:A=padD MB (n+1) (ofD MB (R.drop k) % v)):
    DivI U v n L (R.take k++A++R.drop (k+n+1)) (ofD MB (R.drop k) / v::T) k:=by
 obtain⟨p1,p2,p3,p4,p5⟩:=h.parts hv;have hl:=h.k_le;have hlen:=h.len
 have hm:ofD MB (R.drop k) % v< MB^ (n+1):=by
  have:=Nat.mod_lt (ofD MB (R.drop k)) hv0;have h2:MB^ n≤MB^ (n+1):=Nat.pow_le_pow_right (by decide) (by omega);omega
 have hAl:A.length=n+1:=by rw[hA];simp
 have hAv:ofD MB A=ofD MB (R.drop k) % v:=by rw[hA];exact hU_ (by decide) hm
 have hk:(R.take k).length=k:=by simp;omega
 have hval:ofD MB (R.take k++A++R.drop (k+n+1))=ofD MB (R.take k)+MB^ k* (ofD MB (R.drop k) % v):=by
  rw[dd_,dd_,p1,hk,hAv];simp
 refine⟨by simp[hAl];omega,?_,?_,by simp;omega,?_,?_⟩;intro d hd;rcases List.mem_append.1 hd with hd|hd
 rcases List.mem_append.1 hd with hd|hd
 exact h.dig d (List.mem_of_mem_take hd);rw[hA] at hd;exact kn_ (by decide) _ _ d hd;exact h.dig d (List.mem_of_mem_drop hd);intro d hd;rcases List.mem_cons.1 hd with rfl|hd
 rw[Nat.div_lt_iff_lt_mul hv0,Nat.mul_comm];exact p3;exact h.digT d hd;rw[hval,ofD,h.val,bV_ MB k R (by omega),Nat.pow_succ];have e:=Nat.mod_add_div (ofD MB (R.drop k)) v
 have e2:MB^ k* (ofD MB (R.drop k) % v)+v* (MB^ k* (ofD MB (R.drop k) / v))=MB^ k* ofD MB (R.drop k):=by
  rw[Nat.mul_left_comm,←Nat.mul_add,e]
 rw[Nat.mul_add,Nat.mul_add,←Nat.mul_assoc (MB^ k) MB];omega;rw[List.append_assoc,List.drop_append,hk,Nat.sub_self,List.drop_zero,List.drop_of_length_le (by omega),List.nil_append,dd_,p1,hAv];simp;exact Nat.mod_lt _ hv0
theorem DivI.last{U v n L a b s:Nat}{R T:List Nat}(h:DivI U v n L R T 0)(hU:U=a* s)(hv:v=b* s)(hb:0< b)(hs:0< s):ofD MB T=a/ b∧ofD MB R/ s=a % b:=by
 have h1:=h.val;have h2:=h.top;rw[List.drop_zero,hv] at h2;rw[Nat.pow_zero,Nat.one_mul,hU,hv] at h1
 have hq:ofD MB T=a/ b:=by
  have e1:a/ b=a* s/ (b* s):=(Nat.mul_div_mul_right a b hs).symm;rw[e1,h1,Nat.add_mul_div_left _ _ (Nat.mul_pos hb hs),Nat.div_eq_of_lt h2];omega
 have e2:ofD MB R=(a % b) * s:=by
  rw[hq] at h1
  have e3:a* s=(a % b) * s+b* s* (a/ b):=by
   conv=>lhs;rw[←Nat.mod_add_div a b]
   grind
  omega
 simp_all
theorem oK_{n k:Nat}(hl:(digs MB n).length=k+1){d:Nat}(hd:(digs MB n)[k]?=some d):∃lo,n=lo+MB^ k* d∧lo< MB^ k:=by
 refine⟨ofD MB ((digs MB n).take k),?_,?_⟩;have h1:=bn_ MB hd;rw[←hl,List.take_length,aY_ (by decide)] at h1;exact h1;have:=dr_ (b:=MB) (l:=(digs MB n).take k) fun d hd=>bR_ (by decide) n d (List.mem_of_mem_take hd);grind
theorem pK_{b s vt k:Nat}(hl:(digs MB b).length=k+1)(hvt:(digs MB b)[k]?=some vt)(h0:1≤vt)(h1:500000000≤vt* s)(h2:(vt+1) * s≤1000000000):
    (digs MB (b* s)).length=k+1∧MB^ k≤b∧b* s< MB^ (k+1)∧∃v lw,(digs MB (b* s))[k]?=some v∧b* s=lw+MB^ k* v∧lw< MB^ k∧500000000≤v∧v< 1000000000:=by
 obtain⟨lo,e1,e2⟩:=oK_ hl hvt
 have hb1:MB^ k≤b:=by
  have:=Nat.mul_le_mul_left (MB^ k) h0;omega
 have hb2:b< MB^ k* (vt+1):=by grind
 have hs0:0< s:=by grind
 have hv2:b* s< MB^ (k+1):=by
  have h3:b* s< MB^ k* (vt+1) * s:=Nat.mul_lt_mul_of_pos_right hb2 hs0;have h4:MB^ k* ((vt+1) * s)≤MB^ k* MB:=Nat.mul_le_mul_left _ h2;grind
 have hv1:MB^ k* 500000000≤b* s:=by
  have h3:MB^ k* vt* s≤b* s:=Nat.mul_le_mul_right _ (by omega);have h4:MB^ k* 500000000≤MB^ k* (vt* s):=Nat.mul_le_mul_left _ h1;grind
 have hlen:(digs MB (b* s)).length=k+1:=by
  have u1:=cm_ (b:=MB) (by decide) hv2
  have u2:k< (digs MB (b* s)).length:=by
   refine Nat.lt_of_not_le fun hle=>?_;have:=dr_ (b:=MB) (bR_ (by decide) (b* s));rw[aY_ (by decide)] at this;have h5:MB^ (digs MB (b* s)).length≤MB^ k:=Nat.pow_le_pow_right (by decide) hle;omega
  omega
 obtain⟨v,hv⟩:∃v,(digs MB (b* s))[k]?=some v:=⟨_,List.getElem?_eq_getElem (by omega)⟩;obtain⟨lw,f1,f2⟩:=oK_ hlen hv;refine⟨hlen,hb1,hv2,v,lw,hv,f1,f2,?_,bi_ (by decide) hv⟩;have h6:MB^ k* 500000000< MB^ k* (v+1):=by grind
 have:=Nat.lt_of_mul_lt_mul_left h6;omega
theorem part_two{A:List Nat}{k x0 x1:Nat}(hA:A.length=k+2)(h0:A[k]?=some x0)(h1:A[k+1]?=some x1)(hd:∀d∈A,d< MB):∃lo,ofD MB A=lo+MB^ k* (x1* 1000000000+x0)∧lo< MB^ k:=by
 refine⟨ofD MB (A.take k),?_,?_⟩;have e1:=bn_ MB h1;rw[show k+1+1=A.length by omega,List.take_length] at e1;rw[e1,bn_ MB h0,Nat.pow_succ,Nat.mul_add,Nat.mul_assoc];have:MB^ k* (MB* x1)=MB^ k* (x1* 1000000000):=by grind
 omega;have:=dr_ (b:=MB) (l:=A.take k) fun d h=>hd d (List.mem_of_mem_take h);grind
def zI(z:Int):List AV:=[mag z.natAbs,bln (decide (z< 0))]
def qC(q:Rat):List AV:=[mag q.num.natAbs,bln (decide (q.num< 0)),mag (q.den- 1)]
def sgn(b:Bool)(m:Nat):Int:=if b then -(m:Int) else m
theorem mm_(z:Int):∀c∈zI z,Closed c:=aa_ (ba_ _) (aa_ (ad_ _) ac_)
theorem aN_(q:Rat):∀c∈qC q,Closed c:=aa_ (ba_ _) (aa_ (ad_ _) (aa_ (ba_ _) ac_))
theorem dX_(z:Int):Closed (.agg (zI z)):=aw_ (mm_ z)
theorem aC_(q:Rat):Closed (.agg (qC q)):=aw_ (aN_ q)
theorem closed_mA(n:Nat):Closed (.agg [mag n]):=aw_ (aa_ (ba_ n) ac_)
theorem cS_(b:Bool)(m:Nat):(sgn b m).natAbs=m:=by unfold sgn;grind
theorem sgn_neg(b:Bool)(m:Nat):decide (sgn b m< 0)=(b && !(m==0)):=by
 unfold sgn;grind
theorem hL_(z:Int):sgn (decide (z< 0)) z.natAbs=z:=by
 unfold sgn;grind
def qs(q:Rat):Nat:=max (bl q.num.natAbs) (bl q.den)
theorem eZ_{n:Int}{d:Nat}(hd:0< d):(mkRat n d).num=n/ (Nat.gcd n.natAbs d:Int)∧(mkRat n d).den=d/ Nat.gcd n.natAbs d:=by
 unfold mkRat;rw[dif_neg (by omega),Rat.normalize_eq];grind
theorem eh_{n:Int}{d:Nat}(hd:0< d):(mkRat n d).num=sgn (decide (n< 0)) (n.natAbs/ Nat.gcd n.natAbs d):=by
 rw[(eZ_ hd).1];have hg:0< Nat.gcd n.natAbs d:=Nat.gcd_pos_of_pos_right _ hd;obtain⟨k,hk⟩:=Nat.gcd_dvd_left n.natAbs d;generalize Nat.gcd n.natAbs d=g at hg hk⊢;rw[hk,Nat.mul_div_cancel_left _ hg];unfold sgn;split
 ·rename_i h
  have:=of_decide_eq_true h;have e:n=(g:Int) * (-(k:Int)):=by rw[Int.mul_neg,←Int.natCast_mul];omega
  rw[e,Int.mul_ediv_cancel_left _ (by omega)]
 ·have e:n=(g:Int) * (k:Int):=by grind
  rw[e,Int.mul_ediv_cancel_left _ (by omega)]
theorem cG_(a b:Nat):bl (a/ b)≤bl a:=b4_ (Nat.div_le_self _ _)
theorem c0_{n:Int}{d:Nat}(hd:0< d){k:Nat}(h1:bl n.natAbs≤k)(h2:bl d≤k):qs (mkRat n d)≤k:=by
 unfold qs;rw[eh_ hd,cS_,(eZ_ hd).2];exact Nat.max_le.2 ⟨Nat.le_trans (cG_ _ _) h1,Nat.le_trans (cG_ _ _) h2⟩
theorem jl_(a b:Rat):a+b=mkRat (a.num* b.den+b.num* a.den) (a.den* b.den):=by
 rw[Rat.add_def];unfold mkRat;grind
theorem ge_(a b:Rat):a* b=mkRat (a.num* b.num) (a.den* b.den):=by
 rw[Rat.mul_def];unfold mkRat;grind
theorem b5_(a:Rat):bl a.num.natAbs≤qs a:=Nat.le_max_left _ _
theorem bP_(a:Rat):bl a.den≤qs a:=Nat.le_max_right _ _
theorem mw_{x y:Int}{k:Nat}(hx:bl x.natAbs≤k)(hy:bl y.natAbs≤k):bl (x+y).natAbs≤k+1:=by
 have h1:=b4_ (Int.natAbs_add_le x y);have h2:=oV_ x.natAbs y.natAbs;omega
theorem cb_{x y:Int}{j k:Nat}(hx:bl x.natAbs≤j)(hy:bl y.natAbs≤k):bl (x* y).natAbs≤j+k:=by
 rw[Int.natAbs_mul];have:=es_ x.natAbs y.natAbs;omega
theorem jk_(a b:Rat):bl (a.num* b.den+b.num* a.den).natAbs≤qs a+qs b+1∧bl (a.den* b.den)≤qs a+qs b:=by
 have h1:=b5_ a;have h2:=bP_ a;have h3:=b5_ b;have h4:=bP_ b;refine⟨mw_ (cb_ h1 (by grind)) ?_,?_⟩;have:=cb_ (x:=b.num) (y:=a.den) h3 (by simpa using h2);omega;have:=es_ a.den b.den;omega
theorem iD_(a b:Rat):bl (a.num* b.num).natAbs≤qs a+qs b∧bl (a.den* b.den)≤qs a+qs b:=by
 have h1:=b5_ a;have h2:=bP_ a;have h3:=b5_ b;have h4:=bP_ b;refine⟨cb_ h1 h3,?_⟩;have:=es_ a.den b.den;omega
theorem fo_(a b:Rat):0< a.den* b.den:=Nat.mul_pos a.den_pos b.den_pos
theorem fD_(a b:Rat):qs (a+b)≤qs a+qs b+1:=by
 rw[jl_];have h:=jk_ a b;exact c0_ (fo_ a b) h.1 (by omega)
theorem bH_(a b:Rat):qs (a* b)≤qs a+qs b:=by
 rw[ge_];have h:=iD_ a b;exact c0_ (fo_ a b) h.1 h.2
theorem dA_(a:Rat):qs (-a)=qs a:=by unfold qs;simp
theorem nX_(a b:Rat):qs (a- b)≤qs a+qs b+1:=by
 rw[Rat.sub_eq_add_neg];have:=fD_ a (-b);rwa[dA_] at this
theorem ja_(a b:Rat)(hb:b≠0):a/ b=mkRat (a.num* sgn (decide (b.num< 0)) b.den) (a.den* b.num.natAbs):=by
 rw[Rat.div_def,Rat.inv_def]
 conv=>lhs;rw[←Rat.num_divInt_den a]
 rw[Rat.divInt_mul_divInt];unfold sgn;split
 ·rename_i h
  have h':=of_decide_eq_true h;have hp:0< a.den* b.num.natAbs:=Nat.mul_pos a.den_pos (by omega);have e:(a.den:Int) * b.num= -((a.den* b.num.natAbs:Nat):Int):=by grind
  rw[e,Int.mul_neg];generalize a.den* b.num.natAbs=d at hp⊢;cases d with
  |zero=>omega
  |succ d=>
   rfl
 ·have e:(a.den:Int) * b.num=((a.den* b.num.natAbs:Nat):Int):=by grind
  rw[e];rfl
theorem mg_(a b:Rat):bl (a.num* sgn (decide (b.num< 0)) b.den).natAbs≤qs a+qs b∧bl (a.den* b.num.natAbs)≤qs a+qs b:=by
 have h1:=b5_ a;have h2:=bP_ a;have h3:=b5_ b;have h4:=bP_ b;refine⟨cb_ h1 (by rw[cS_];grind),?_⟩;have:=es_ a.den b.num.natAbs;omega
theorem eM_(a b:Rat):qs (a/ b)≤qs a+qs b:=by
 by_cases hb:b=0;subst hb;rw[Rat.div_def,Rat.inv_zero,Rat.mul_zero];omega;rw[ja_ a b hb];have h:=mg_ a b;have hn:b.num≠0:=fun h=>hb (Rat.num_eq_zero.1 h);exact c0_ (Nat.mul_pos a.den_pos (by omega)) h.1 h.2
def sm(q:Rat):Prop:=qs q≤137438953472
instance (q:Rat):Decidable (sm q):=inferInstanceAs (Decidable (_≤_))
theorem sm2{a b:Rat}(ha:sm a)(hb:sm b):qs a+qs b≤549755813888:=by unfold sm at ha hb;omega
def sgZ(z:Int):Int:=if z=0 then 0 else if z< 0 then -1 else 1
def cmpQ(a b:Rat):Int:=if a< b then -1 else if a=b then 0 else 1
theorem sgZ_num_lt{q:Rat}:sgZ q.num< 0↔q< 0:=by
 unfold sgZ;have h1:q.num=0↔q=0:=Rat.num_eq_zero;have h2:0≤q.num↔0≤q:=Rat.num_nonneg;have h3:q< 0↔¬0≤q:=Rat.not_le.symm;rw[h3,←h2];split;omega;split <;> omega
theorem sgZ_num_eq{q:Rat}:sgZ q.num=0↔q=0:=by
 unfold sgZ;rw[←Rat.num_eq_zero];split;simp[*];split <;> simp[*]
theorem sgZ_num_gt{q:Rat}:0< sgZ q.num↔0< q:=by
 have h1:= @sgZ_num_lt q;have h2:= @sgZ_num_eq q
 have h3:0< q↔¬(q< 0∨q=0):=by
  rw[←Rat.not_le,Rat.le_iff_lt_or_eq]
 rw[h3,←h1,←h2];omega
theorem cmpQ_eq(a b:Rat):cmpQ a b=if a.num* b.den< b.num* a.den then -1 else if a.num* b.den=b.num* a.den then 0 else 1:=by
 unfold cmpQ;have h1:=Rat.lt_iff a b
 have h2:a=b↔a.num* b.den=b.num* a.den:=by
  constructor;rintro rfl;rfl;intro h;have:=(Rat.mkRat_eq_iff (n₁:=a.num) (n₂:=b.num) a.den_nz b.den_nz).2 h;rwa[Rat.mkRat_self,Rat.mkRat_self] at this
 by_cases h:a< b;rw[if_pos h,if_pos (h1.1 h)];rw[if_neg h,if_neg (fun x=>h (h1.2 x))];by_cases h':a=b;rw[if_pos h',if_pos (h2.1 h')];rw[if_neg h',if_neg (fun x=>h' (h2.2 x))]
def fineQ(k:Nat):Rat:=mkRat 1 (2^ k)
theorem iz_(q:Rat):q.num< 0↔q< 0:=by
 rw[←sgZ_num_lt];unfold sgZ;split;omega;split <;> omega
def absQ(q:Rat):Rat:=mkRat q.num.natAbs q.den
theorem nw_(q:Rat):absQ q=if q< 0 then -q else q:=by
 unfold absQ;by_cases h:q< 0;have hn:q.num< 0:=(iz_ q).2 h;rw[if_pos h];have e:(q.num.natAbs:Int)=(-q).num:=by rw[Rat.neg_num];omega
 rw[e,←Rat.neg_den,Rat.mkRat_self];have hn:¬q.num< 0:=fun e=>h ((iz_ q).1 e);rw[if_neg h];have e:(q.num.natAbs:Int)=q.num:=by omega
 rw[e,Rat.mkRat_self]
theorem o5_(q:Rat):(absQ q).num=(q.num.natAbs:Int):=by
 rw[nw_];by_cases h:q< 0;rw[if_pos h,Rat.neg_num];have hn:q.num< 0:=(iz_ q).2 h;omega;rw[if_neg h];have hn:¬q.num< 0:=fun e=>h ((iz_ q).1 e);omega
theorem o6_(q:Rat):(absQ q).den=q.den:=by
 rw[nw_];split;exact Rat.neg_den ..;rfl
theorem qC_abs(q:Rat):qC (absQ q)=zI (sgn false q.num.natAbs)++[mag (q.den- 1)]:=by
 unfold qC zI;rw[o5_,o6_];rfl
def pE(l:List Rat):List (List AV):=l.map qC
def pA(l:List Rat):AV:= .arr (pE l)
def spC(a b:Rat):List AV:=qC a++qC b
@[simp] theorem qC_length (q:Rat):(qC q).length=3:=rfl
@[simp] theorem spC_length (a b:Rat):(spC a b).length=6:=rfl
@[simp] theorem qP_ (l:List Rat):(pE l).length=l.length:=by simp[pE]
theorem pE_get{l:List Rat}{i:Nat}{q:Rat}(h:l[i]?=some q):(pE l)[i]?=some (qC q):=by simp[pE,h]
theorem ko_(l:List Rat)(k:Nat):(pE l).take k=pE (l.take k):=by simp[pE]
theorem eg_(l m:List Rat):pE (l++m)=pE l++pE m:=by simp[pE]
theorem gb_(l:List Rat)(i:Nat)(q:Rat):(pE l).set i (qC q)=pE (l.set i q):=by simp[pE,List.map_set]
theorem b6_(l:List Rat):(pE l).all (·.all AV.one)=true:=by
 simp only[pE,List.all_map,List.all_eq_true];intro q _;rfl
theorem fS_(l:List Rat):∀e∈pE l,e.length=3:=by intro e he;simp[pE] at he;obtain⟨q,_,rfl⟩:=he;rfl
theorem aG_(l:List Rat):∀e∈pE l,∀c∈e,Closed c:=by
 intro e he c hc;simp[pE] at he;obtain⟨q,_,rfl⟩:=he;exact aN_ q c hc
theorem ap_(l:List Rat):Closed (pA l):=ax_ (aG_ l)
theorem a4_(a b:Rat):∀c∈spC a b,Closed c:=fun c hc=>(List.mem_append.1 hc).elim (aN_ a c) (aN_ b c)
theorem a0_(a b:Rat):Closed (.agg (spC a b)):=aw_ (a4_ a b)
def zC:List AV:=[.emp,bln false,.emp]
theorem mag0:mag 0= .arr []:=by unfold mag;rw[be_];rfl
theorem qC0:qC 0=[.arr [],bln false,.arr []]:=by
 show [mag 0,bln (decide ((0:Int)< 0)),mag (1- 1)]=_;rw[mag0];rfl
def smL(l:List Rat):Prop:=∀q∈l,sm q
instance (l:List Rat):Decidable (smL l):=inferInstanceAs (Decidable (∀q∈l,sm q))
def cr_(bf:Int→Bool):List Rat→Rat
 |[]=>0
 |x::l=>l.foldl (fun o y=>if bf (cmpQ y o) then y else o) x
theorem mr_(bf:Int→Bool)(l:List Rat)(y:Rat):cr_ bf (l++[y])=if l=[]∨bf (cmpQ y (cr_ bf l))=true then y else cr_ bf l:=by
 cases l with
 |nil=>simp[cr_]
 |cons x l=>simp[cr_,List.foldl_append]
theorem g6_{bf:Int→Bool}:∀{l:List Rat},smL l→sm (cr_ bf l)
 |[],_=>(by decide:sm 0)
 |x::l,h=>by
  have key:∀(l:List Rat) (o:Rat),sm o→smL l→sm (l.foldl (fun o y=>if bf (cmpQ y o) then y else o) o):=by
   intro l
   induction l with
   |nil=>intro o ho _;exact ho
   |cons y l ih=>
    intro o ho hl;refine ih _ ?_ fun q hq=>hl q (List.mem_cons_of_mem _ hq);show sm (if bf (cmpQ y o)=true then y else o);split;exact hl y (List.mem_cons_self ..);exact ho
  exact key l x (h x (List.mem_cons_self ..)) fun q hq=>h q (List.mem_cons_of_mem _ hq)
def minL(l:List Rat):Rat:=cr_ (fun c=>decide (c< 0)) l
def maxL(l:List Rat):Rat:=cr_ (fun c=>decide (0< c)) l
theorem AEval.lenP{P:Program}{id:Nat}{ev:Operand→Option AV}{hp:Nat→Option ABlk}{c:Call}{x:Operand}{T:Nat}{d:Nat×Nat}{l:List Rat}(hc:c.callee= .builtin .len)(ha:c.args= #[x])(ht:c.argTypes= #[T])(hx:ev x=some (.arr (pE l)))(he:elOf P T=some d):
    AEval P id ev hp (.call c) ⟨.v (.int .i64 (l.length:Nat)),[]⟩ []:= .len hc ha ht hx (by simp[lenA]) he
def trimQ:List Rat→List Rat
 |[]=>[]
 |a::l=>match trimQ l with
  |[]=>if a=0 then [] else [a]
  |b::m=>a::b::m
theorem cj_(a:Rat)(l:List Rat):trimQ (a::l)=if trimQ l=[] then(if a=0 then [] else [a]) else a::trimQ l:=by
 rw[trimQ];grind
theorem e9_(l:List Rat)(a:Rat):trimQ (l++[a])=if a=0 then trimQ l else l++[a]:=by
 induction l with
 |nil=>simp[trimQ]
 |cons b l ih=>
  rw[List.cons_append,cj_,ih,cj_];by_cases h:a=0;simp only[if_pos h];simp_all
theorem bc_(l:List Rat):(trimQ l).length≤l.length:=by
 induction l with
 |nil=>simp[trimQ]
 |cons a l ih=>rw[cj_];grind
theorem lo_(l:List Rat):trimQ l=l.take (trimQ l).length:=by
 induction l with
 |nil=>simp[trimQ]
 |cons a l ih=>
  rw[cj_];grind
theorem bD_{l:List Rat}{q:Rat}(h:q∈trimQ l):q∈l:=by
 rw[lo_] at h;grind
theorem jo_{l:List Rat}{q:Rat}(h:(trimQ l).getLast?=some q):q≠0:=by
 induction l with
 |nil=>simp[trimQ] at h
 |cons a l ih=>
  rw[cj_] at h;grind
theorem c8_(l:List Rat):trimQ (trimQ l)=trimQ l:=by
 rcases List.eq_nil_or_concat (trimQ l) with h|⟨m,q,h⟩
 rw[h];rfl;have hq:q≠0:=jo_ (l:=l) (by grind);rw[h,List.concat_eq_append,e9_,if_neg hq]
theorem kb_{l:List Rat}(h:smL l):smL (trimQ l):=fun q hq=>h q (bD_ hq)
def degP(l:List Rat):Int:=(trimQ l).length- 1
def leadP(l:List Rat):Rat:=(trimQ l).getLastD 0
theorem fi_{l:List Rat}(h:trimQ l≠[]):leadP l≠0:=by
 refine jo_ (l:=l) (q:=(trimQ l).getLastD 0) ?_;rw[List.getLastD_eq_getLast?];cases hl:(trimQ l).getLast? with
 |none=>simp_all
 |some q=>rfl
theorem iH_{l:List Rat}(h:trimQ l=[]):leadP l=0:=by unfold leadP;grind
theorem cB_{l:List Rat}{n:Nat}(h:(trimQ l).length=n+1):(trimQ l)[n]?=some (leadP l):=by
 unfold leadP;grind
theorem leadP_sm{l:List Rat}(h:smL l):sm (leadP l):=by
 by_cases h0:trimQ l=[];rw[iH_ h0];decide;obtain⟨n,hn⟩:∃n,(trimQ l).length=n+1:=⟨(trimQ l).length- 1,by have:=List.length_pos_iff.2 h0;omega⟩;exact h _ (bD_ (List.mem_of_getElem? (cB_ hn)))
def tabP(n:Nat)(f:Nat→Rat):List Rat:=(List.range n).map f
@[simp] theorem dM_ (n:Nat)(f:Nat→Rat):(tabP n f).length=n:=by simp[tabP]
def coP(p:List Rat)(i:Nat):Rat:=p.getD i 0
def addP(p q:List Rat):List Rat:=trimQ (tabP (max p.length q.length) fun i=>coP p i+coP q i)
def bd_(p:List Rat)(k:Rat):List Rat:=trimQ (tabP p.length fun i=>coP p i* k)
def subP(p q:List Rat):List Rat:=addP p (bd_ q (-1))
def cK_(a:Rat):List Rat:=trimQ [a]
def cq_(p:List Rat):List Rat:=trimQ (tabP (p.length- 1) fun i=>coP p (i+1) * ((i+1:Nat):Int))
def aJ_(p:List Rat):List Rat:=trimQ (tabP (p.length+1) fun i=>if i=0 then 0 else coP p (i- 1) / ((i:Nat):Int))
def fE_(p:List Rat):List Rat:=if trimQ p=[] then [] else bd_ p (1/ leadP p)
theorem jY_{p:List Rat}(h:smL p)(i:Nat):sm (coP p i):=by
 unfold coP;rw[List.getD_eq_getElem?_getD];cases hi:p[i]? with
 |none=>exact(by decide:sm 0)
 |some q=>exact h q (List.mem_of_getElem? hi)
theorem bo_{p:List Rat}{i:Nat}(h:i< p.length):p[i]?=some (coP p i):=by
 unfold coP;grind
theorem ec_{p:List Rat}{i:Nat}(h:p.length≤i):coP p i=0:=by
 unfold coP;grind
theorem gw_:∀c∈zC,Closed c:=aa_ bq_ (aa_ (ad_ _) (aa_ bq_ ac_))
def bdL(l:List Rat)(n:Nat):Prop:=∀q∈l,qs q≤n
instance (l:List Rat) (n:Nat):Decidable (bdL l n):=inferInstanceAs (Decidable (∀q∈l,qs q≤n))
theorem fI_{l:List Rat}{n:Nat}(h:bdL l n)(hn:n≤137438953472):smL l:=fun q hq=>Nat.le_trans (h q hq) hn
theorem dv_{l:List Rat}{n:Nat}(h:bdL l n)(hn:1≤n)(i:Nat):qs (coP l i)≤n:=by
 unfold coP;rw[List.getD_eq_getElem?_getD];cases hi:l[i]? with
 |none=>exact Nat.le_trans (by decide:qs 0≤1) hn
 |some q=>exact h q (List.mem_of_getElem? hi)
def addAt(o:List Rat)(j:Nat)(x:Rat):List Rat:=o.set j (coP o j+x)
def rowP(o:List Rat)(a:Rat)(q:List Rat)(i:Nat):Nat→List Rat
 |0=>o
 |k+1=>addAt (rowP o a q i k) (i+k) (a* coP q k)
def mulR(p q:List Rat):Nat→List Rat
 |0=>List.replicate (p.length+q.length- 1) 0
 |i+1=>if coP p i=0 then mulR p q i else rowP (mulR p q i) (coP p i) q i q.length
def mulP(p q:List Rat):List Rat:=if p=[]∨q=[] then [] else trimQ (mulR p q p.length)
@[simp] theorem mB_ (o:List Rat)(j:Nat)(x:Rat):(addAt o j x).length=o.length:=by simp[addAt]
@[simp] theorem mP_ (o:List Rat)(a:Rat)(q:List Rat)(i k:Nat):(rowP o a q i k).length=o.length:=by
 induction k with
 |zero=>rfl
 |succ k ih=>rw[rowP,mB_,ih]
@[simp] theorem fU_ (p q:List Rat)(i:Nat):(mulR p q i).length=p.length+q.length- 1:=by
 induction i with
 |zero=>simp[mulR]
 |succ i ih=>rw[mulR];split <;> simp[ih]
theorem je_(o:List Rat)(j n:Nat)(x:Rat):coP (addAt o j x) n=if n=j∧j< o.length then coP o j+x else coP o n:=by
 unfold addAt coP;rw[List.getD_eq_getElem?_getD,List.getElem?_set,List.getD_eq_getElem?_getD,List.getD_eq_getElem?_getD];by_cases h:j=n;subst h;by_cases h2:j< o.length;simp[h2];simp[h2];rw[if_neg h,if_neg (by omega)]
theorem j0_{o:List Rat}{n:Nat}(h:∀i,qs (coP o i)≤n):bdL o n:=by
 intro q hq;obtain⟨i,hi,rfl⟩:=List.getElem_of_mem hq;have:=h i;unfold coP at this;rwa[List.getD_eq_getElem?_getD,List.getElem?_eq_getElem hi] at this
theorem kj_(o:List Rat)(a:Rat)(q:List Rat)(i k n:Nat)(h:n< i∨i+k≤n):coP (rowP o a q i k) n=coP o n:=by
 induction k with
 |zero=>rfl
 |succ k ih=>rw[rowP,je_,if_neg (by omega),ih (by omega)]
theorem qD_{o:List Rat}{a:Rat}{q:List Rat}{B s t:Nat}(i:Nat)(ho:∀n,qs (coP o n)≤B)(ha:qs a≤s)(hq:∀n,qs (coP q n)≤t):∀k n,qs (coP (rowP o a q i k) n)≤B+(s+t+1)
 |0,n=>Nat.le_trans (ho n) (by omega)
 |k+1,n=>by
  rw[rowP,je_];split;rw[kj_ o a q i k (i+k) (by omega)];have h1:=fD_ (coP o (i+k)) (a* coP q k);have h2:=bH_ a (coP q k);have h3:=ho (i+k);have h4:=hq k;omega;exact qD_ i ho ha hq k n
theorem ks_{p q:List Rat}{s t:Nat}(hp:∀n,qs (coP p n)≤s)(hq:∀n,qs (coP q n)≤t):∀i n,qs (coP (mulR p q i) n)≤i* (s+t+1)+1
 |0,n=>by
  have:coP (mulR p q 0) n=0:=by
   unfold mulR coP;rw[List.getD_eq_getElem?_getD,List.getElem?_replicate];split <;> rfl
  rw[this];exact Nat.le_add_left 1 _
 |i+1,n=>by
  rw[mulR,Nat.add_mul,Nat.one_mul];split;have:=ks_ hp hq i n;omega;have:=qD_ (B:=i* (s+t+1)+1) i (ks_ hp hq i) (hp i) hq q.length n;omega
theorem mulP_bd{p q:List Rat}{s t:Nat}(hp:bdL p s)(hq:bdL q t)(hs:1≤s)(ht:1≤t):bdL (mulP p q) (p.length* (s+t+1)+1):=by
 unfold mulP;split;intro q hq;cases hq;intro x hx;exact j0_ (ks_ (dv_ hp hs) (dv_ hq ht) p.length) x (bD_ hx)
theorem CvLL.zeros{r:Ren}{hp hp':Nat→Option ABlk}(h:Shr r hp hp')(n:Nat):CvLL r hp hp' (List.replicate n zC) (pE (List.replicate n 0)):=by
 induction n with
 |zero=>rfl
 |succ n ih=>
  refine⟨qC 0,_,rfl,?_,ih⟩;rw[qC0];exact ae_ (Cv.emp _) (ae_ (ai_ h (ad_ _)) (ae_ (Cv.emp _) am_))
def subAt(o:List Rat)(j:Nat)(x:Rat):List Rat:=o.set j (coP o j- x)
def rowM(o:List Rat)(k:Rat)(q:List Rat)(n:Nat):Nat→List Rat
 |0=>o
 |i+1=>subAt (rowM o k q n i) (n+i) (k* coP q i)
def divR(q:List Rat)(lead:Rat):Nat→List Rat→List Rat→List Rat×List Rat
 |0,u,o=>(u,o)
 |n+1,u,o=>divR q lead n (u.set n (coP o (n+q.length- 1) / lead)) (if coP o (n+q.length- 1) / lead=0 then o else rowM o (coP o (n+q.length- 1) / lead) q n q.length)
def divP(p q:List Rat):List Rat×List Rat:=
 let r:=divR (trimQ q) (leadP q) ((trimQ p).length+1- (trimQ q).length) (List.replicate ((trimQ p).length+1- (trimQ q).length) 0) (trimQ p)
 (trimQ r.1,trimQ r.2)
@[simp] theorem lw_ (o:List Rat)(j:Nat)(x:Rat):(subAt o j x).length=o.length:=by simp[subAt]
@[simp] theorem fN_ (o:List Rat)(a:Rat)(q:List Rat)(i k:Nat):(rowM o a q i k).length=o.length:=by
 induction k with
 |zero=>rfl
 |succ k ih=>rw[rowM,lw_,ih]
theorem eI_(q:List Rat)(lead:Rat):∀c u o,(divR q lead c u o).1.length=u.length∧(divR q lead c u o).2.length=o.length
 |0,u,o=>⟨rfl,rfl⟩
 |n+1,u,o=>by
  refine⟨(eI_ q lead n _ _).1.trans (by simp),(eI_ q lead n _ _).2.trans ?_⟩;split <;> simp
theorem sn_(o:List Rat)(j n:Nat)(x:Rat):coP (o.set j x) n=if n=j∧j< o.length then x else coP o n:=by
 unfold coP;grind
theorem mk_(o:List Rat)(j n:Nat)(x:Rat):coP (subAt o j x) n=if n=j∧j< o.length then coP o j- x else coP o n:=sn_ o j n _
theorem nQ_(o:List Rat)(a:Rat)(q:List Rat)(i k n:Nat)(h:n< i∨i+k≤n):coP (rowM o a q i k) n=coP o n:=by
 induction k with
 |zero=>rfl
 |succ k ih=>rw[rowM,mk_,if_neg (by omega),ih (by omega)]
theorem qE_{o:List Rat}{a:Rat}{q:List Rat}{B s t:Nat}(i:Nat)(ho:∀n,qs (coP o n)≤B)(ha:qs a≤s)(hq:∀n,qs (coP q n)≤t):∀k n,qs (coP (rowM o a q i k) n)≤B+(s+t+1)
 |0,n=>Nat.le_trans (ho n) (by omega)
 |k+1,n=>by
  rw[rowM,mk_];split;rw[nQ_ o a q i k (i+k) (by omega)];have h1:=nX_ (coP o (i+k)) (a* coP q k);have h2:=bH_ a (coP q k);have h3:=ho (i+k);have h4:=hq k;omega;exact qE_ i ho ha hq k n
def divB(q:List Rat)(lead:Rat)(L c:Nat)(u o:List Rat):Prop:=
 ∃B t,(∀n,qs (coP o n)≤B)∧(∀n,qs (coP q n)≤t)∧qs lead≤t∧1≤t∧(∀n,qs (coP u n)≤L)∧2^ c* (B+2* t+1)≤L
theorem oJ_{q:List Rat}{lead:Rat}{L c:Nat}{u o:List Rat}(h:divB q lead L c u o):∃B t,(∀n,qs (coP o n)≤B)∧(∀n,qs (coP q n)≤t)∧qs lead≤t∧B+2* t+1≤L:=by
 obtain⟨B,t,h1,h2,h3,h4,h5,h6⟩:=h;refine⟨B,t,h1,h2,h3,Nat.le_trans ?_ h6⟩;have:=Nat.mul_le_mul_right (B+2* t+1) (Nat.one_le_two_pow (n:=c));omega
theorem mh_{q:List Rat}{lead:Rat}{L n:Nat}{u o:List Rat}(h:divB q lead L (n+1) u o):
    divB q lead L n (u.set n (coP o (n+q.length- 1) / lead)) (if coP o (n+q.length- 1) / lead=0 then o else rowM o (coP o (n+q.length- 1) / lead) q n q.length):=by
 obtain⟨B,t,h1,h2,h3,h4,h5,h6⟩:=h;obtain⟨k,hk⟩:∃k,k=coP o (n+q.length- 1) / lead:=⟨_,rfl⟩
 have hkb:qs k≤B+t:=by
  have e1:=eM_ (coP o (n+q.length- 1)) lead;grind
 rw[←hk];obtain⟨W,hW⟩:∃W,W=2^ n:=⟨_,rfl⟩;have hW1:1≤W:=by grind
 rw[Nat.pow_succ] at h6;have h7:W* (2* B+2* t+1+2* t+1)≤L:=by grind
 have h8:2* B+2* t+1+2* t+1≤L:=by
  have:=Nat.mul_le_mul_right (2* B+2* t+1+2* t+1) hW1;omega
 refine⟨2* B+2* t+1,t,fun j=>?_,h2,h3,h4,fun j=>?_,by grind⟩;split;have:=h1 j;omega;have:=qE_ n h1 hkb h2 q.length j;omega;rw[sn_];grind
theorem nk_{q:List Rat}{lead:Rat}{L:Nat}:∀{c u o},divB q lead L c u o→(∀n,qs (coP (divR q lead c u o).1 n)≤L)∧(∀n,qs (coP (divR q lead c u o).2 n)≤L)
 |0,u,o,h=>by
  obtain⟨B,t,h1,h2,h3,h6⟩:=oJ_ h;obtain⟨_,_,_,_,_,_,h5,_⟩:=h;exact⟨h5,fun n=>Nat.le_trans (h1 n) (by omega)⟩
 |n+1,u,o,h=>nk_ (c:=n) (mh_ h)
def mxL(l:List Rat):Nat:=l.foldr (fun q n=>max (qs q) n) 1
theorem cL_(l:List Rat):1≤mxL l:=by
 induction l with
 |nil=>exact Nat.le_refl _
 |cons q l ih=>exact Nat.le_trans ih (Nat.le_max_right _ _)
theorem cW_(l:List Rat):bdL l (mxL l):=by
 induction l with
 |nil=>intro q hq;grind
 |cons a l ih=>
  intro q hq;rcases List.mem_cons.1 hq with rfl|hq
  exact Nat.le_max_left _ _;exact Nat.le_trans (ih q hq) (Nat.le_max_right _ _)
theorem mxL_le{l:List Rat}{n:Nat}(h:bdL l n)(hn:1≤n):mxL l≤n:=by
 induction l with
 |nil=>exact hn
 |cons a l ih=>exact Nat.max_le.2 ⟨h a (List.mem_cons_self ..),ih fun q hq=>h q (List.mem_cons_of_mem _ hq)⟩
def okDiv(p q:List Rat):Prop:=2^ ((trimQ p).length+1- (trimQ q).length) * (mxL p+2* mxL q+1)≤137438953472∧p.length≤274877906944∧q.length≤274877906944
instance (p q:List Rat):Decidable (okDiv p q):=inferInstanceAs (Decidable (_∧_∧_))
theorem pL_{p q:List Rat}{s t L:Nat}(hp:bdL p s)(hq:bdL q t)(hs:1≤s)(ht:1≤t)(hq0:trimQ q≠[])(m:Nat)(h:2^ m* (s+2* t+1)≤L):divB (trimQ q) (leadP q) L m (List.replicate m 0) (trimQ p):=by
 have hL:1≤L:=by
  have h3:=Nat.mul_le_mul_right (s+2* t+1) (Nat.one_le_two_pow (n:=m));omega
 have hql:=List.length_pos_iff.2 hq0;refine⟨s,t,dv_ (fun x hx=>hp x (bD_ hx)) hs,dv_ (fun x hx=>hq x (bD_ hx)) ht,hq _ (bD_ (List.mem_of_getElem? (cB_ (n:=(trimQ q).length- 1) (by omega)))),ht,fun n=>?_,h⟩
 have:coP (List.replicate m 0) n=0:=by
  unfold coP;rw[List.getD_eq_getElem?_getD,List.getElem?_replicate];split <;> rfl
 rw[this];exact Nat.le_trans (by decide:qs 0≤1) hL
theorem divP_bd{p q:List Rat}{s t L:Nat}(hp:bdL p s)(hq:bdL q t)(hs:1≤s)(ht:1≤t)(hq0:trimQ q≠[])(h:2^ ((trimQ p).length+1- (trimQ q).length) * (s+2* t+1)≤L):bdL (divP p q).1 L∧bdL (divP p q).2 L:=by
 have:=nk_ (pL_ hp hq hs ht hq0 _ h);exact⟨fun x hx=>j0_ this.1 x (bD_ hx),fun x hx=>j0_ this.2 x (bD_ hx)⟩
theorem nl_{p q:List Rat}(h:okDiv p q)(hq0:trimQ q≠[]):smL (divP p q).1∧smL (divP p q).2:=
 have:=divP_bd (cW_ p) (cW_ q) (cL_ p) (cL_ q) hq0 h.1
 ⟨fI_ this.1 (Nat.le_refl _),fI_ this.2 (Nat.le_refl _)⟩
theorem kW_{p q:List Rat}:(divP p q).1.length≤p.length+1∧(divP p q).2.length≤p.length:=by
 have h1:=eI_ (trimQ q) (leadP q) ((trimQ p).length+1- (trimQ q).length) (List.replicate ((trimQ p).length+1- (trimQ q).length) 0) (trimQ p);have h2:=bc_ p;have h3:=bc_ (divR (trimQ q) (leadP q) ((trimQ p).length+1- (trimQ q).length) (List.replicate ((trimQ p).length+1- (trimQ q).length) 0) (trimQ p)).1;have h4:=bc_ (divR (trimQ q) (leadP q) ((trimQ p).length+1- (trimQ q).length) (List.replicate ((trimQ p).length+1- (trimQ q).length) 0) (trimQ p)).2;rw[h1.1,List.length_replicate] at h3;rw[h1.2] at h4;exact⟨by unfold divP;simp only;omega,by unfold divP;simp only;omega⟩
theorem db_(p:List Rat)(k:Rat):(bd_ p k).length≤p.length:=by
 have:=bc_ (tabP p.length fun i=>coP p i* k);simpa[bd_] using this
theorem pj_(p:List Rat):(fE_ p).length≤p.length:=by
 unfold fE_;split;simp;exact db_ _ _
def gcdM:Nat→List Rat→List Rat→Option (List Rat)
 |0,_,_=>none
 |f+1,p,q=>if trimQ q=[] then(if smL p then some (fE_ p) else none) else if okDiv p q then gcdM f q (fE_ (divP p q).2) else none
def evalP:List Rat→Rat→Rat
 |[],_=>0
 |a::l,x=>evalP l x* x+a
def backP(l:List Rat)(k:Nat):Option (List AV):=if k< l.length then some [i64 ((l.length- 1- k:Nat):Int),.agg (qC (coP l (l.length- 1- k)))] else none
theorem i9_{l:List Rat}{k:Nat}(h:k< l.length):l.drop (l.length- (k+1))=coP l (l.length- 1- k)::l.drop (l.length- k):=by
 have h1:l.length- (k+1)< l.length:=by omega
 rw[List.drop_eq_getElem_cons h1,show l.length- (k+1)+1=l.length- k by omega];congr 1;have:=bo_ h1;rw[List.getElem?_eq_getElem h1] at this;rw[show l.length- 1- k=l.length- (k+1) by omega];exact Option.some.inj this
theorem gr_{x:Rat}{s t:Nat}(hx:qs x≤t):∀{l:List Rat},bdL l s→qs (evalP l x)≤l.length* (s+t+1)+1
 |[],_=>by show qs 0≤_;exact Nat.le_trans (by decide:qs 0≤1) (Nat.le_add_left 1 _)
 |a::l,h=>by
  have ih:=gr_ (l:=l) hx fun q hq=>h q (List.mem_cons_of_mem _ hq);have ha:=h a (List.mem_cons_self ..);have h1:=fD_ (evalP l x* x) a;have h2:=bH_ (evalP l x) x;show qs (evalP l x* x+a)≤(l.length+1) * (s+t+1)+1;rw[Nat.add_mul,Nat.one_mul];omega
def cO_(p:List Rat)(x:Rat):Prop:=p.length* (mxL p+qs x+1)+mxL p+qs x+2≤137438953472∧p.length≤274877906944
instance (p:List Rat) (x:Rat):Decidable (cO_ p x):=inferInstanceAs (Decidable (_∧_))
theorem pJ_{p:List Rat}{x:Rat}(h:cO_ p x)(k:Nat)(hk:k< p.length):qs (evalP (p.drop (p.length- k)) x)+qs x≤549755813888∧qs (evalP (p.drop (p.length- k)) x* x)+qs (coP p (p.length- 1- k))≤549755813888:=by
 have h1:=gr_ (t:=qs x) (Nat.le_refl _) (l:=p.drop (p.length- k)) (s:=mxL p) fun q hq=>cW_ p q (List.mem_of_mem_drop hq);have h2:=bH_ (evalP (p.drop (p.length- k)) x) x;have h3:=dv_ (cW_ p) (cL_ p) (p.length- 1- k);have h4:=h.1;have h5:(p.drop (p.length- k)).length* (mxL p+qs x+1)≤p.length* (mxL p+qs x+1):=Nat.mul_le_mul_right _ (by simp);omega
theorem kV_{p:List Rat}{x:Rat}(h:cO_ p x):sm (evalP p x):=by
 have h1:=gr_ (t:=qs x) (Nat.le_refl _) (cW_ p);have h2:=h.1;unfold sm;omega
abbrev Sp:=Rat×Rat
def prods(a b:Sp):List Rat:=[a.1* b.1,a.1* b.2,a.2* b.1,a.2* b.2]
def spMul(a b:Sp):Sp:=(minL (prods a b),maxL (prods a b))
def spAdd(a b:Sp):Sp:=(a.1+b.1,a.2+b.2)
def smS(a:Sp):Prop:=sm a.1∧sm a.2
instance (a:Sp):Decidable (smS a):=inferInstanceAs (Decidable (_∧_))
def ovP(v0 s:Sp):List Rat→Sp
 |[]=>v0
 |a::l=>spAdd (spMul (ovP v0 s l) s) (a,a)
def okOv(v0 s:Sp):List Rat→Prop
 |[]=>smS v0
 |a::l=>okOv v0 s l∧smL (prods (ovP v0 s l) s)∧sm a∧smS (spAdd (spMul (ovP v0 s l) s) (a,a))
instance okOv_dec (v0 s:Sp):(l:List Rat)→Decidable (okOv v0 s l)
 |[]=>inferInstanceAs (Decidable (smS v0))
 |a::l=> @instDecidableAnd _ _ (okOv_dec v0 s l) (inferInstanceAs (Decidable (_∧_∧_)))
theorem okOv_sm{v0 s:Sp}:∀{l:List Rat},okOv v0 s l→smS (ovP v0 s l)
 |[],h=>h
 |_::_,h=>h.2.2.2
theorem lM_{v0 s:Sp}:∀{l:List Rat} (n:Nat),okOv v0 s l→okOv v0 s (l.drop n)
 |_,0,h=>h
 |[],_+1,h=>h
 |_::_,n+1,h=>lM_ n h.1
def overP(p:List Rat)(s:Sp):Sp:=if¬cmpQ s.1 s.2≤0∨trimQ p=[] then(0,0) else ovP (leadP p,leadP p) s ((trimQ p).take ((trimQ p).length- 1))
def oa_(p:List Rat)(s:Sp):Prop:=smL p∧smS s∧p.length≤274877906944∧okOv (leadP p,leadP p) s ((trimQ p).take ((trimQ p).length- 1))
instance (p:List Rat) (s:Sp):Decidable (oa_ p s):=inferInstanceAs (Decidable (_∧_∧_∧_))
def okMul(p q:List Rat):Prop:=p.length* (mxL p+mxL q+1)+1≤137438953472∧mxL q≤137438953472∧p.length≤274877906944∧q.length≤274877906944
instance (p q:List Rat):Decidable (okMul p q):=inferInstanceAs (Decidable (_∧_∧_∧_))
theorem kq_{p q:List Rat}(h:okMul p q):smL (mulP p q):=
 fI_ (mulP_bd (cW_ p) (cW_ q) (cL_ p) (cL_ q)) h.1
theorem gE_(p q:List Rat):(addP p q).length≤max p.length q.length:=by
 have:=bc_ (tabP (max p.length q.length) fun i=>coP p i+coP q i);simpa[addP] using this
theorem of_(p q:List Rat):(mulP p q).length≤p.length+q.length:=by
 unfold mulP;split;simp;have:=bc_ (mulR p q p.length);rw[fU_] at this;omega
theorem g3_(a:Rat):(cK_ a).length≤1:=bc_ [a]
def compP(q:List Rat):List Rat→List Rat
 |[]=>[]
 |a::l=>addP (mulP (compP q l) q) (cK_ a)
def dS_(q:List Rat):List Rat→Prop
 |[]=>True
 |a::l=>dS_ q l∧okMul (compP q l) q∧sm a∧(mulP (compP q l) q).length≤274877906944
instance okComp_dec (q:List Rat):(l:List Rat)→Decidable (dS_ q l)
 |[]=>inferInstanceAs (Decidable True)
 |a::l=> @instDecidableAnd _ _ (okComp_dec q l) (inferInstanceAs (Decidable (_∧_∧_)))
theorem iv_{q:List Rat}:∀{l:List Rat} (n:Nat),dS_ q l→dS_ q (l.drop n)
 |_,0,h=>h
 |[],_+1,h=>h
 |_::_,n+1,h=>iv_ n h.1
abbrev UB:Nat:=32768
def iE(l:List Nat):List (List AV):=l.map fun(d:Nat)=>[i64 d]
def hv(l:List Nat):Nat:=ofD UB l.reverse
def zd(n:Nat):List Nat:=(digs UB n).reverse
def zZ(z:Int):List AV:=[i64 (sgZ z),.arr (iE (zd z.natAbs))]
def dz_:List Nat→List Nat
 |[]=>[]
 |d::l=>if d=0 then dz_ l else d::l
@[simp] theorem iK_ (l:List Nat):(iE l).length=l.length:=by simp[iE]
theorem fG_{l:List Nat}{i d:Nat}(h:l[i]?=some d):(iE l)[i]?=some [i64 d]:=by simp[iE,h]
theorem iE_take(l:List Nat)(k:Nat):(iE l).take k=iE (l.take k):=by simp[iE]
theorem gk_(l m:List Nat):iE (l++m)=iE l++iE m:=by simp[iE]
theorem iJ_(l:List Nat)(i d:Nat):(iE l).set i [i64 d]=iE (l.set i d):=by simp[iE,List.map_set]
theorem d4_(k:Nat):List.replicate k [i64 0]=iE (List.replicate k 0):=by simp[iE]
theorem cu_(l:List Nat):(iE l).all (·.all AV.one)=true:=by
 simp only[iE,List.all_map,List.all_eq_true];intro d _;rfl
theorem fW_(l:List Nat):∀e∈iE l,e.length=1:=by intro e he;simp[iE] at he;obtain⟨d,_,rfl⟩:=he;rfl
theorem bM_(l:List Nat):∀e∈iE l,∀c∈e,Closed c:=by
 intro e he c hc;simp[iE] at he;obtain⟨d,_,rfl⟩:=he;simp at hc;subst hc;exact ad_ _
theorem cE_(l:List Nat):Closed (.arr (iE l)):=ax_ (bM_ l)
theorem bZ_(z:Int):∀c∈zZ z,Closed c:=aa_ (ad_ _) (aa_ (cE_ _) ac_)
theorem bz_(z:Int):Closed (.agg (zZ z)):=aw_ (bZ_ z)
theorem pa_(m:List Nat)(d:Nat):trimD (m++[d])=if d=0 then trimD m else m++[d]:=by
 induction m with
 |nil=>simp[trimD]
 |cons a m ih=>
  rw[List.cons_append,trimD,ih];by_cases hd:d=0;rw[if_pos hd,if_pos hd];rfl;rw[if_neg hd,if_neg hd];cases m <;> rfl
theorem mG_(l:List Nat):dz_ l=(trimD l.reverse).reverse:=by
 induction l with
 |nil=>rfl
 |cons d l ih=>
  rw[dz_,List.reverse_cons,pa_];split;exact ih;simp
theorem cX_{l:List Nat}(h:∀d∈l,d< UB):dz_ l=zd (hv l):=by
 rw[mG_,et_ (b:=UB) (by decide) (fun d hd=>h d (List.mem_reverse.1 hd))];rfl
theorem hv_zd(n:Nat):hv (zd n)=n:=by unfold hv zd;rw[List.reverse_reverse,aY_ (by decide)]
theorem zd_lt(n:Nat):∀d∈zd n,d< UB:=fun d hd=>bR_ (by decide) n d (List.mem_reverse.1 hd)
theorem bm_(n:Nat):(zd n).length=(digs UB n).length:=List.length_reverse
theorem iM_(d:Nat)(l:List Nat):hv (d::l)=hv l+UB^ l.length* d:=by
 unfold hv;rw[List.reverse_cons,dC_,List.length_reverse]
theorem iL_(l:List Nat)(d:Nat):hv (l++[d])=hv l* UB+d:=by
 unfold hv;simp[ofD];rw[Nat.mul_comm,Nat.add_comm]
theorem lV_:hv []=0:=rfl
theorem gH_:zd 0=[]:=by unfold zd;rw[be_];rfl
theorem zd_eq_nil{n:Nat}:zd n=[]↔n=0:=by
 unfold zd;rw[List.reverse_eq_nil_iff];exact cR_ (by decide)
theorem jr_{l:List Nat}(h:∀d∈l,d< UB):dz_ l=[]↔hv l=0:=by rw[cX_ h];exact zd_eq_nil
theorem zZ_zero:zZ 0=[i64 0,.arr []]:=by unfold zZ;show [i64 0,AV.arr (iE (zd 0))]=_;rw[gH_];rfl
theorem hv_lt{l:List Nat}(h:∀d∈l,d< UB):hv l< UB^ l.length:=by
 have:=dr_ (b:=UB) (l:=l.reverse) fun d hd=>h d (List.mem_reverse.1 hd);rwa[List.length_reverse] at this
theorem AEval.lenI{P:Program}{id:Nat}{ev:Operand→Option AV}{hp:Nat→Option ABlk}{c:Call}{x:Operand}{T:Nat}{d:Nat×Nat}{l:List Nat}(hc:c.callee= .builtin .len)(ha:c.args= #[x])(ht:c.argTypes= #[T])(hx:ev x=some (.arr (iE l)))(he:elOf P T=some d):
    AEval P id ev hp (.call c) ⟨.v (.int .i64 (l.length:Nat)),[]⟩ []:= .len hc ha ht hx (by simp[lenA]) he
abbrev RQ:=Rat×Bool
def rok(x:RQ):Prop:=x.2=true→x.1=0
def rC(x:RQ):List AV:=zZ x.1.num++zZ (if x.2 then 0 else(x.1.den:Int))
def rq(q:Rat):RQ:=(q,false)
theorem bO_(q:Rat):rok (rq q):=fun h=>by cases h
@[simp] theorem rC_length (x:RQ):(rC x).length=4:=rfl
theorem bL_(x:RQ):∀c∈rC x,Closed c:=fun c hc=>(List.mem_append.1 hc).elim (bZ_ _ c) (bZ_ _ c)
theorem b0_(x:RQ):Closed (.agg (rC x)):=aw_ (bL_ x)
theorem rC_rq(q:Rat):rC (rq q)=zZ q.num++zZ (q.den:Int):=rfl
def rE(l:List RQ):List (List AV):=l.map rC
@[simp] theorem lI_ (l:List RQ):(rE l).length=l.length:=by simp[rE]
theorem qI_{l:List RQ}{i:Nat}{q:RQ}(h:l[i]?=some q):(rE l)[i]?=some (rC q):=by simp[rE,h]
theorem rE_take(l:List RQ)(k:Nat):(rE l).take k=rE (l.take k):=by simp[rE]
theorem it_(l m:List RQ):rE (l++m)=rE l++rE m:=by simp[rE]
theorem rE_set(l:List RQ)(i:Nat)(q:RQ):(rE l).set i (rC q)=rE (l.set i q):=by simp[rE,List.map_set]
theorem ct_(l:List RQ):(rE l).all (·.all AV.one)=true:=by
 simp only[rE,List.all_map,List.all_eq_true];intro q _;rfl
theorem is_(l:List RQ):∀e∈rE l,e.length=4:=by
 intro e he;obtain⟨q,_,rfl⟩:=List.mem_map.1 he;rfl
theorem a9_(l:List RQ):∀e∈rE l,∀c∈e,Closed c:=by
 intro e he c hc;obtain⟨q,_,rfl⟩:=List.mem_map.1 he;exact bL_ q c hc
theorem aR_(l:List RQ):Closed (.arr (rE l)):=ax_ (a9_ l)
theorem AEval.lenR{P:Program}{id:Nat}{ev:Operand→Option AV}{hp:Nat→Option ABlk}{c:Call}{x:Operand}{T:Nat}{d:Nat×Nat}{l:List RQ}(hc:c.callee= .builtin .len)(ha:c.args= #[x])(ht:c.argTypes= #[T])(hx:ev x=some (.arr (rE l)))(he:elOf P T=some d):
    AEval P id ev hp (.call c) ⟨.v (.int .i64 (l.length:Nat)),[]⟩ []:= .len hc ha ht hx (by simp[lenA]) he
theorem qn_{n:Int}{d:Nat}(hd:0< d):sgZ (mkRat n d).num=sgZ n:=by
 rw[eh_ hd];have hg:0< Nat.gcd n.natAbs d:=Nat.gcd_pos_of_pos_right _ hd;have h1:n≠0→0< n.natAbs/ Nat.gcd n.natAbs d:=fun h=>Nat.div_pos (Nat.gcd_le_left _ (by omega)) hg;unfold sgZ sgn;by_cases h0:n=0;subst h0;simp;have:=h1 h0;by_cases hn:n< 0;simp[hn,h0];omega;simp[hn,h0];omega
theorem g2_(n d:Int)(hd:d< 0):Rat.divInt n d=mkRat (-n) d.natAbs:=by
 obtain⟨m,rfl⟩:∃m:Nat,d=Int.negSucc m:=⟨d.natAbs- 1,by omega⟩;rfl
theorem g1_(n d:Int)(hd:0< d):Rat.divInt n d=mkRat n d.natAbs:=by
 obtain⟨m,rfl⟩:∃m:Nat,d=(m:Int):=⟨d.natAbs,by omega⟩;rfl
theorem fn_(a b:Rat):a/ b=Rat.divInt (a.num* b.den) (a.den* b.num):=by
 rw[Rat.div_def,Rat.inv_def]
 conv=>lhs;rw[←Rat.num_divInt_den a]
 rw[Rat.divInt_mul_divInt]
abbrev nQ(n:Nat):Rat:=((n:Int):Rat)
theorem nQ_eq(n:Nat):nQ n=mkRat n 1:=(Rat.mkRat_one n).symm
theorem nQ_zero{n:Nat}:nQ n=0↔n=0:=by simp
theorem qs_nQ{n k:Nat}(h:bl n≤k)(hk:1≤k):qs (nQ n)≤k:=by
 refine Nat.max_le.2 ⟨?_,?_⟩;show bl ((n:Int)).natAbs≤k;rwa[Int.natAbs_natCast];show bl 1≤k;rw[fH_];grind
theorem nQ_mul(a b:Nat):nQ a* nQ b=nQ (a* b):=by grind
theorem nQ_sub{a b:Nat}(h:b≤a):nQ a- nQ b=nQ (a- b):=by
 rw[←Rat.intCast_sub];congr 1;omega
theorem qV_(a b:Nat)(hb:b≠0):nQ a/ nQ b=mkRat a b:=by
 rw[fn_];simp
theorem q1_(a b:Nat)(hb:b≠0)(h:b∣a):mkRat a b=nQ (a/ b):=by
 obtain⟨k,rfl⟩:=h;rw[Nat.mul_div_cancel_left _ (by omega),nQ_eq,Rat.mkRat_eq_iff hb (by decide),Int.natCast_mul,Int.mul_comm (b:Int)];simp
theorem mX_(a b:Nat)(hb:b≠0):(mkRat a b).floor=((a/ b:Nat):Int):=by
 have h:=eZ_ (n:=(a:Int)) (d:=b) (by omega);rw[Int.natAbs_natCast] at h;rw[Rat.floor_def,h.1,h.2,←Int.natCast_ediv,←Int.natCast_ediv,Nat.div_div_eq_div_mul,Nat.mul_div_cancel' (Nat.gcd_dvd_right a b)]
def denL:List Rat→Nat→Nat
 |[],d=>d
 |c::l,d=>denL l (Nat.lcm d c.den)
def intC(c:Rat)(D:Nat):Nat:=c.num.natAbs* (D/ c.den)
def numL(D:Nat):List Rat→Nat→Nat
 |[],n=>n
 |c::l,n=>numL D l (Nat.gcd n (intC c D))
def primP(p:List Rat):List Rat:=bd_ (trimQ p) (nQ (denL (trimQ p) 1) / nQ (numL (denL (trimQ p) 1) (trimQ p) 0))
def n9_(p:List Rat):Prop:=(p.length+4) * mxL p≤34359738368∧p.length≤274877906944
instance (p:List Rat):Decidable (n9_ p):=inferInstanceAs (Decidable (_∧_))
theorem rc_{a b:Nat}(ha:a≠0)(hb:b≠0):Nat.lcm a b≠0:=by simp_all
theorem si_:∀(l:List Rat) {d:Nat},d≠0→denL l d≠0
 |[],_,h=>h
 |c::l,_,h=>si_ l (rc_ h c.den_nz)
theorem kY_:∀(l:List Rat) (d:Nat),d∣denL l d∧∀c∈l,c.den∣denL l d
 |[],d=>⟨Nat.dvd_refl d,fun _ h=>by cases h⟩
 |c::l,d=>by
  obtain⟨h1,h2⟩:=kY_ l (Nat.lcm d c.den);refine⟨Nat.dvd_trans (Nat.dvd_lcm_left d c.den) h1,fun x hx=>?_⟩;rcases List.mem_cons.1 hx with rfl|hx
  exact Nat.dvd_trans (Nat.dvd_lcm_right d x.den) h1;exact h2 x hx
theorem bl_lcm(a b:Nat):bl (Nat.lcm a b)≤bl a+bl b:=
 Nat.le_trans (cG_ _ _) (es_ a b)
theorem sj_{s:Nat}:∀(l:List Rat) (d:Nat),bdL l s→bl (denL l d)≤bl d+l.length* s
 |[],d,_=>by simp[denL]
 |c::l,d,h=>by
  have h1:=sj_ l (Nat.lcm d c.den) fun q hq=>h q (List.mem_cons_of_mem _ hq);have h2:=bl_lcm d c.den;have h3:=bP_ c;have h4:=h c (List.mem_cons_self ..);rw[List.length_cons,Nat.add_mul];unfold denL;omega
theorem mul_intC(c:Rat)(D:Nat)(h:c.den∣D):absQ (c* nQ D)=nQ (intC c D):=by
 obtain⟨k,rfl⟩:=h;have hd:=c.den_nz
 have e:c* nQ (c.den* k)=((c.num* (k:Int):Int):Rat):=by
  rw[ge_];show mkRat (c.num* ((c.den* k:Nat):Int)) (c.den* 1)=_;rw[show((c.num* (k:Int):Int):Rat)=mkRat (c.num* k) 1 from(Rat.mkRat_one _).symm,Rat.mkRat_eq_iff (by omega) (by decide)];grind
 rw[e];unfold absQ intC;show mkRat (((c.num* (k:Int)).natAbs:Nat):Int) 1=_;rw[Nat.mul_div_cancel_left _ (by omega),Int.natAbs_mul,Int.natAbs_natCast,nQ_eq]
theorem oc_(D:Nat):∀(l:List Rat) (n:Nat),numL D l n∣n∧∀c∈l,numL D l n∣intC c D
 |[],n=>⟨Nat.dvd_refl n,fun _ h=>by cases h⟩
 |c::l,n=>by
  obtain⟨h1,h2⟩:=oc_ D l (Nat.gcd n (intC c D));refine⟨Nat.dvd_trans h1 (Nat.gcd_dvd_left _ _),fun x hx=>?_⟩;rcases List.mem_cons.1 hx with rfl|hx
  exact Nat.dvd_trans h1 (Nat.gcd_dvd_right _ _);exact h2 x hx
theorem intC_ne{c:Rat}{D:Nat}(h:c.den∣D)(hD:D≠0)(hc:c≠0):intC c D≠0:=by
 obtain⟨k,rfl⟩:=h;unfold intC;rw[Nat.mul_div_cancel_left _ c.den_pos];have h1:c.num≠0:=fun e=>hc (Rat.num_eq_zero.1 e);refine Nat.mul_ne_zero (by omega) fun e=>hD (by grind)
theorem rj_(c:Rat)(D:Nat):bl (intC c D)≤qs c+bl D:=by
 have h1:=es_ c.num.natAbs (D/ c.den);have h2:=cG_ D c.den;have h3:=b5_ c;unfold intC;omega
theorem f1_(p:List Rat):(cq_ p).length≤p.length- 1:=by
 have:=bc_ (tabP (p.length- 1) fun i=>coP p (i+1) * ((i+1:Nat):Int));simpa[cq_] using this
def sqfM(f:Nat)(p:List Rat):Option (List Rat):=
 if smL p∧p.length≤274877906944 then(gcdM f p (cq_ p)).bind fun g=>if trimQ g≠[]∧okDiv p g then some (fE_ (divP p g).1) else none
 else none
def boL(lead:Rat):List Rat→Rat→Rat
 |[],m=>m
 |c::l,m=>boL lead l (maxL [m,absQ (c/ lead)])
def dZ_(p:List Rat):Rat:=boL (leadP p) ((trimQ p).take ((trimQ p).length- 1)) 0+1
def iw_(p:List Rat):Prop:=mxL p≤34359738368∧p.length≤274877906944
instance (p:List Rat):Decidable (iw_ p):=inferInstanceAs (Decidable (_∧_))
theorem qs_abs(q:Rat):qs (absQ q)=qs q:=by
 unfold qs;rw[o5_,o6_,Int.natAbs_natCast]
theorem maxL_le{l:List Rat}{n:Nat}(h:bdL l n)(hn:1≤n):qs (maxL l)≤n:=by
 unfold maxL
 have key:∀(bf:Int→Bool) (l:List Rat) (o:Rat),qs o≤n→bdL l n→qs (l.foldl (fun o y=>if bf (cmpQ y o) then y else o) o)≤n:=by
  intro bf l
  induction l with
  |nil=>intro o ho _;exact ho
  |cons y l ih=>
   intro o ho hl;refine ih _ ?_ fun q hq=>hl q (List.mem_cons_of_mem _ hq);show qs (if bf (cmpQ y o)=true then y else o)≤n;split;exact hl y (List.mem_cons_self ..);exact ho
 cases l with
 |nil=>exact Nat.le_trans (by decide:qs 0≤1) hn
 |cons x l=>exact key (fun c=>decide (0< c)) l x (h x (List.mem_cons_self ..)) fun q hq=>h q (List.mem_cons_of_mem _ hq)
theorem pl_(p:List Rat):leadP (trimQ p)=leadP p:=by unfold leadP;rw[c8_]
def chL:List Int→Int→Int→Int
 |[],n,_=>n
 |s::l,n,last=>if s≠0 then chL l (if s= -last then n+1 else n) s else chL l n last
def oP_(f:Nat):Nat→List Rat→List Rat→List (List Rat)→Option (List (List Rat))
 |0,_,_,_=>none
 |k+1,last,next,acc=>
  if trimQ next=[] then some acc
  else if n9_ next∧okDiv last (primP next)∧trimQ (primP next)≠[] then oP_ f k (primP next) (bd_ (divP last (primP next)).2 (-1)) (acc++[primP next])
  else none
def qg_(f:Nat)(p:List Rat):Option (List (List Rat)):=
 if smL p∧n9_ p∧trimQ p≠[] then oP_ f f (primP p) (cq_ p) [primP p] else none
def cE(l:List (List Rat)):List (List AV):=l.map fun p=>[.arr (pE p)]
@[simp] theorem cE_length (l:List (List Rat)):(cE l).length=l.length:=by simp[cE]
theorem su_{l:List (List Rat)}{i:Nat}{p:List Rat}(h:l[i]?=some p):(cE l)[i]?=some [.arr (pE p)]:=by simp[cE,h]
theorem cx_(l:List (List Rat)):(cE l).all (·.all AV.one)=true:=by
 simp only[cE,List.all_map,List.all_eq_true];intro q _;rfl
theorem ep_(l:List (List Rat)):∀e∈cE l,∀c∈e,Closed c:=by
 intro e he c hc;obtain⟨q,_,rfl⟩:=List.mem_map.1 he;rw[List.mem_singleton.1 hc];exact ap_ q
theorem gz_(l:List (List Rat)):Closed (.arr (cE l)):=ax_ (ep_ l)
theorem cE_snoc(l:List (List Rat))(p:List Rat):cE (l++[p])=cE l++[[.arr (pE p)]]:=by simp[cE]
theorem AEval.lenC{P:Program}{id:Nat}{ev:Operand→Option AV}{hp:Nat→Option ABlk}{c:Call}{x:Operand}{T:Nat}{d:Nat×Nat}{l:List (List Rat)}(hc:c.callee= .builtin .len)(ha:c.args= #[x])(ht:c.argTypes= #[T])(hx:ev x=some (.arr (cE l)))(he:elOf P T=some d):
    AEval P id ev hp (.call c) ⟨.v (.int .i64 (l.length:Nat)),[]⟩ []:= .len hc ha ht hx (by simp[lenA]) he
end Go.Abs
