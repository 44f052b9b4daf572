/- Part V14 of the proof. -/
import Derived.Test.YtjkddcfoolilbaaGreatDoorV13
import Derived.Lib.ItoaNum
set_option linter.all false
namespace Go.Abs
theorem ry_{p:List Rat}{t:Nat}(h:bdL p t)(ht:1≤t):qs (leadP p)≤t:=by
 by_cases h0:trimQ p=[];rw[iL_ h0];exact Nat.le_trans (by decide:qs 0≤1) ht;have hl:=List.length_pos_iff.2 h0;exact h _ (bp_ (List.mem_of_getElem? (cG_ (n:=(trimQ p).length- 1) (by omega))))
def lag(v:List Rat):Nat→Rat
 |0=>0
 |m+1=>coP v m
theorem coP_line(v:List Rat)(c:Rat)(n:Nat):coP (mulP v [c,1]) n=coP v n* c+lag v n:=by
 have e:trimQ (mulP v [c,1])=trimQ (mulP [c,1] v):=dK_ fun x=>by rw[cX_,cX_];grind
 rw[trim_iff.1 e n,ny_];show coP (addL (gk_ v c) (0::addL (gk_ v 1) (0::[]))) n=_;rw[fD_,et_];cases n with
 |zero=>rw[dc_];rfl
 |succ m=>
  rw[cO_,fD_,et_];have:coP [(0:Rat)] m=0:=by cases m <;> rfl
  rw[this];show _+(coP v m* 1+0)=_+coP v m;grind
theorem eE_(v:List Rat)(c:Rat):(mulP v [c,1]).length≤v.length+1:=by
 by_cases h:v=[];subst h;unfold mulP;simp;have:=rn_ v [c,1] h;simpa using this
theorem gw_(p:List Rat):(am_ p).length≤p.length+1:=by
 have:=a8_ (tabP (p.length+1) fun i=>if i=0 then 0 else coP p (i- 1) / ((i:Nat):Int));simp at this;unfold am_;omega
theorem nU_(p q:List Rat):(subP p q).length≤max p.length q.length:=by
 have h1:=dM_ p (aN_ q (-1));have h2:=bG_ q (-1);unfold subP;omega
theorem ii_{l:List Rat}{a b:Nat}(h:bdL l a)(hab:a≤b):bdL l b:=fun q hq=>Nat.le_trans (h q hq) hab
def pd:Nat→Nat→List UInt8
 |0,_=>[]
 |k+1,n=>pd k (n/ 10)++[UInt8.ofNat (48+n % 10)]
theorem lN_(k n:Nat):(pd k n).length=k:=by
 induction k generalizing n with
 |zero=>rfl
 |succ k ih=>rw[pd,List.length_append,ih];rfl
theorem pd_add(j k n:Nat):pd (j+k) n=pd j (n/ 10^ k)++pd k n:=by
 induction k generalizing n with
 |zero=>rw[Nat.add_zero,Nat.pow_zero,Nat.div_one];simp[pd]
 |succ k ih=>rw[←Nat.add_assoc,pd,pd,ih,Nat.div_div_eq_div_mul,Nat.pow_succ,Nat.mul_comm 10,List.append_assoc]
theorem pd_mod(k n:Nat):pd k (n % 10^ k)=pd k n:=by
 induction k generalizing n with
 |zero=>rfl
 |succ k ih=>
  rw[pd,pd,Nat.pow_succ]
  have e1:n % (10^ k* 10) / 10=n/ 10 % 10^ k:=by
   rw[Nat.mul_comm,Nat.mod_mul_right_div_self]
  have e2:n % (10^ k* 10) % 10=n % 10:=by rw[Nat.mod_mul_left_mod]
  rw[e1,e2,ih]
theorem pd_front(k n:Nat):pd (k+1) n=UInt8.ofNat (48+n/ 10^ k % 10)::pd k n:=by
 rw[Nat.add_comm,pd_add];rfl
theorem rb_(k:Nat):pd k 0=List.replicate k 48:=by
 induction k with
 |zero=>rfl
 |succ k ih=>rw[pd,ih,List.replicate_succ'];rfl
def dropZ:List UInt8→List UInt8
 |[]=>[]
 |c::l=>if c=48 then dropZ l else c::l
theorem mm_{a b:List UInt8}(h:dropZ a≠[]):dropZ (a++b)=dropZ a++b:=by
 induction a with
 |nil=>exact absurd rfl h
 |cons c a ih=>
  rw[List.cons_append,dropZ,dropZ];rw[dropZ] at h;by_cases hc:c=48;rw[if_pos hc] at h;rw[if_pos hc,if_pos hc,ih h];rw[if_neg hc,if_neg hc];rfl
theorem nq_(k:Nat)(l:List UInt8):dropZ (List.replicate k 48++l)=dropZ l:=by
 induction k with
 |zero=>rfl
 |succ k ih=>rw[List.replicate_succ,List.cons_append,dropZ,if_pos rfl,ih]
theorem dig_ne{n:Nat}(h0:n≠0)(h:n< 10):UInt8.ofNat (48+n)≠48:=by
 have:∀n,n< 10→n≠0→UInt8.ofNat (48+n)≠48:=by decide
 exact this n h h0
theorem hI_(n:Nat):Lib.decDigits n≠[]:=by
 intro e;have h1:=Lib.decDigits_length n;rw[e] at h1;have:=Lib.nDigits_pos n;simp at h1;omega
theorem oW_:∀(k n:Nat),0< n→n< 10^ k→dropZ (pd k n)=Lib.decDigits n
 |0,n,h,h2=>by rw[Nat.pow_zero] at h2;omega
 |k+1,n,h,h2=>by
  rw[pd,Lib.decDigits];by_cases h10:n< 10;rw[dif_pos h10,Nat.div_eq_of_lt h10,rb_,nq_,Nat.mod_eq_of_lt h10,dropZ,if_neg (dig_ne (by omega) h10)];rw[dif_neg h10];have ih:=oW_ k (n/ 10) (by omega) (by rw[Nat.pow_succ] at h2;omega);rw[mm_ (by rw[ih];exact hI_ _),ih]
theorem mp_:∀(k a b:Nat),0< a→b< 10^ k→Lib.decDigits (a* 10^ k+b)=Lib.decDigits a++pd k b
 |0,a,b,h,hb=>by
  have:b=0:=by rw[Nat.pow_zero] at hb;omega
  subst this;simp[pd]
 |k+1,a,b,h,hb=>by
  have hp:1≤10^ k:=Nat.one_le_pow _ _ (by decide);have hap:1≤a* 10^ k:=Nat.mul_le_mul h hp;have e:a* 10^ (k+1)+b=(a* 10^ k) * 10+b:=by rw[Nat.pow_succ,Nat.mul_assoc]
  rw[e,Lib.decDigits,dif_neg (by omega),show(a* 10^ k* 10+b) / 10=a* 10^ k+b/ 10 by omega,show(a* 10^ k* 10+b) % 10=b % 10 by omega,mp_ k a (b/ 10) h (by rw[Nat.pow_succ] at hb;omega),pd,List.append_assoc]
theorem pd_dec:∀(k n:Nat),0< n→n< 10^ k→pd k n=List.replicate (k- (Lib.decDigits n).length) 48++Lib.decDigits n
 |0,n,h,h2=>by rw[Nat.pow_zero] at h2;omega
 |k+1,n,h,h2=>by
  rw[pd,Lib.decDigits];by_cases h10:n< 10;rw[dif_pos h10,Nat.div_eq_of_lt h10,rb_,Nat.mod_eq_of_lt h10];rfl;rw[dif_neg h10,pd_dec k (n/ 10) (by omega) (by rw[Nat.pow_succ] at h2;omega),List.length_append,List.append_assoc];congr 2;simp
theorem bd_co'{p:List Rat}{s:Nat}(h:bdL p s)(hs:1≤s):∀i,qs (coP p i)≤s:=fun i=>de_ h hs i
theorem qe_{p:List Rat}{k:Rat}{s:Nat}(h:bdL p s)(hs:1≤s):bdL (aN_ p k) (s+qs k):=fQ_ fun i=>by
 rw[bO_];have:=cE_ (coP p i) k;have:=bd_co' h hs i;omega
theorem sU_{p:List Rat}{s:Nat}(h:bdL p s)(hs:1≤s):bdL (aN_ p (-1)) s:=fQ_ fun i=>by
 rw[bO_,show coP p i* (-1)= -coP p i by grind,eQ_];exact bd_co' h hs i
theorem pf_{p q:List Rat}{s t:Nat}(hp:bdL p s)(hq:bdL q t)(hs:1≤s)(ht:1≤t):bdL (addP p q) (s+t+1):=fQ_ fun i=>by
 rw[cu_];have:=fN_ (coP p i) (coP q i);have:=bd_co' hp hs i;have:=bd_co' hq ht i;omega
theorem pe_{p q:List Rat}{s t:Nat}(hp:bdL p s)(hq:bdL q t)(hs:1≤s)(ht:1≤t):bdL (subP p q) (s+t+1):=pf_ hp (sU_ hq ht) hs ht
def shP(i:Nat)(v:List Rat):List Rat:=List.replicate i 0++v
theorem fn_(i:Nat)(v:List Rat):(shP i v).length=i+v.length:=by simp[shP]
theorem nY_(i:Nat)(v:List Rat):shP (i+1) v=0::shP i v:=by simp[shP,List.replicate_succ]
theorem oQ_(v:List Rat)(x:Rat):∀i,evalP (shP i v) x=evalP v x* x^ i
 |0=>by simp[shP]
 |i+1=>by
  rw[nY_,aW_,oQ_ v x i,Rat.pow_succ];grind
theorem jk_(v:List Rat)(i n:Nat):coP (shP i v) n=if n< i then 0 else coP v (n- i):=by
 induction i generalizing n with
 |zero=>simp[shP]
 |succ i ih=>
  rw[nY_];cases n with
  |zero=>rw[dc_,if_pos (by omega)]
  |succ n=>
   rw[cO_,ih,Nat.add_sub_add_right];by_cases h:n< i;rw[if_pos h,if_pos (by omega)];rw[if_neg h,if_neg (by omega)]
def mR(p q:List Rat):Nat→List Rat
 |0=>[]
 |n+1=>addP (mR p q n) (shP n (aN_ p (coP q n)))
theorem oR_(p q:List Rat)(x:Rat):∀n,n≤q.length→evalP (mR p q n) x=evalP p x* evalP (q.take n) x
 |0,_=>by simp[mR,bM_]
 |n+1,h=>by
  rw[mR,bN_,oR_ p q x n (by omega),oQ_,bL_,g3_ q x n (by omega)];grind
theorem trim_mR(p q:List Rat):∀n,trimQ (mR p q n)=mR p q n
 |0=>rfl
 |n+1=>ck_ _
theorem qz_(p q:List Rat):trimQ (mulP p q)=mulP p q:=by
 unfold mulP;split;rfl;exact ck_ _
theorem oq_(p q:List Rat):mR p q q.length=mulP p q:=by
 rw[←trim_mR,←qz_];refine dK_ fun x=>?_;rw[oR_ p q x _ (Nat.le_refl _),List.take_length,cX_]
theorem mR_len(p q:List Rat):∀n,(mR p q n).length≤n+p.length
 |0=>Nat.zero_le _
 |n+1=>by
  have h1:=mR_len p q n;have h2:=dM_ (mR p q n) (shP n (aN_ p (coP q n)));have h3:=bG_ p (coP q n);rw[fn_] at h2;rw[mR];omega
theorem mR_bd{p q:List Rat}{s t:Nat}(hp:bdL p s)(hq:bdL q t)(hs:1≤s)(ht:1≤t):∀n,bdL (mR p q n) (n* (s+t+1)+1)
 |0=>fun _ h=>by cases h
 |n+1=>fQ_ fun i=>by
  rw[mR,cu_,jk_,Nat.succ_mul];have h1:=bd_co' (mR_bd hp hq hs ht n) (by omega) i;have h2:=bd_co' hq ht n
  have h3:qs (if i< n then 0 else coP (aN_ p (coP q n)) (i- n))≤s+t:=by
   split;have:qs 0=1:=by decide
   omega;rw[bO_];have:=cE_ (coP p (i- n)) (coP q n);have:=bd_co' hp hs (i- n);omega
  have:=fN_ (coP (mR p q n) i) (if i< n then 0 else coP (aN_ p (coP q n)) (i- n));omega
theorem kA_{p:List Rat}{a:Rat}{d:Nat}:∀n,n≤d→mR p (shP d [a]) n=[]
 |0,_=>rfl
 |n+1,h=>by
  rw[mR,kA_ n (by omega)];refine trim_nil_iff.2 fun i=>?_;have h1:coP (shP d [a]) n=0:=by rw[jk_,if_pos (by omega)]
  have h2:coP (tabP (max ([]:List Rat).length (shP n (aN_ p (coP (shP d [a]) n))).length) fun i=>coP [] i+coP (shP n (aN_ p (coP (shP d [a]) n))) i) i=coP [] i+coP (shP n (aN_ p (coP (shP d [a]) n))) i:=by
   rw[←cy_];exact cu_ _ _ i
  rw[h2,gb_,jk_,bO_,h1];split <;> grind
theorem py_{p:List Rat}{a:Rat}{d s:Nat}(hp:bdL p s)(hs:1≤s)(n:Nat)(hn:n≤d+1):bdL (mR p (shP d [a]) n) (s+qs a+2):=by
 by_cases h:n≤d;rw[kA_ n h];exact fun _ h=>by cases h
 have:n=d+1:=by omega
 subst this;refine fQ_ fun i=>?_;rw[mR,cu_,kA_ d (Nat.le_refl _),gb_,Rat.zero_add,jk_];split;have:qs 0=1:=by decide
 omega;rw[bO_,jk_,if_neg (by omega),Nat.sub_self,dc_];have:=cE_ (coP p (i- d)) a;have:=bd_co' hp hs (i- d);omega
theorem coP_mono(d:List Rat)(a:Rat)(k j:Nat):coP (mulP d (shP k [a])) j=if j< k then 0 else coP d (j- k) * a:=by
 have e:mR d (shP k [a]) (shP k [a]).length=mulP d (shP k [a]):=oq_ _ _;rw[←e,show(shP k [a]).length=k+1 by rw[fn_];rfl,mR,cu_,kA_ k (Nat.le_refl _),gb_,Rat.zero_add,jk_,bO_,jk_,if_neg (Nat.lt_irrefl k),Nat.sub_self,dc_]
theorem ot_{v:List Rat}{n:Nat}(h:trimQ v=v)(hn:v.length=n+1):coP v n=leadP v:=by
 have:=cG_ (l:=v) (n:=n) (by rw[h];exact hn);rw[h,bw_ (by omega)] at this;exact Option.some.inj this
theorem step_len{v d:List Rat}(hv:trimQ v=v)(hd:trimQ d=d)(hd0:d≠[])(hl:d.length≤v.length):(subP v (mulP d (shP (v.length- d.length) [leadP v/ leadP d]))).length< v.length:=by
 have hdl:=List.length_pos_iff.2 hd0;obtain⟨m,hm⟩:∃m,d.length=m+1:=⟨d.length- 1,by omega⟩;obtain⟨n,hn⟩:∃n,v.length=n+1:=⟨v.length- 1,by omega⟩;have hld:leadP d≠0:=fu_ (by rw[hd];exact hd0)
 have key:∀j,n≤j→coP (subP v (mulP d (shP (v.length- d.length) [leadP v/ leadP d]))) j=0:=fun j hj=>by
  rw[hp_,coP_mono,if_neg (by omega)];by_cases h:j=n;subst h;rw[ot_ hv hn,show j- (v.length- d.length)=m by omega,ot_ hd hm];grind;rw[dh_ (p:=v) (by omega),dh_ (p:=d) (by omega)];grind
 have h1:=lt_ key;have h2:trimQ (subP v (mulP d (shP (v.length- d.length) [leadP v/ leadP d])))=subP v (mulP d (shP (v.length- d.length) [leadP v/ leadP d])):=ck_ _;rw[h2] at h1;omega
theorem qy_(p q:List Rat):trimQ (subP p q)=subP p q:=ck_ _
theorem step_bd{v d:List Rat}{b t:Nat}(hv:bdL v b)(hd:bdL d t)(hb:1≤b)(ht:1≤t)(hd0:d≠[])(k:Nat):qs (leadP v/ leadP d)≤b+t∧bdL (mulP d (shP k [leadP v/ leadP d])) (2* t+b+2)∧bdL (subP v (mulP d (shP k [leadP v/ leadP d]))) (2* b+2* t+3):=by
 have h1:=ry_ hv hb;have h2:=ry_ hd ht;have h3:=e1_ (leadP v) (leadP d)
 have h4:bdL (mulP d (shP k [leadP v/ leadP d])) (2* t+b+2):=by
  have:=py_ (a:=leadP v/ leadP d) (d:=k) hd ht (k+1) (Nat.le_refl _);rw[show k+1=(shP k [leadP v/ leadP d]).length by rw[fn_];rfl,oq_] at this;exact ii_ this (by omega)
 exact⟨by omega,h4,ii_ (pe_ hv h4 hb (by omega)) (by omega)⟩
theorem bdL_sh{v:List Rat}{b:Nat}(h:bdL v b)(hb:1≤b)(k:Nat):bdL (shP k v) b:=fun q hq=>by
 rcases List.mem_append.1 hq with h'|h'
 rw[List.eq_of_mem_replicate h'];have:qs 0=1:=by decide
 omega;exact h q h'
def ab(x:Rat):Rat:=if x< 0 then -x else x
theorem ab_nn(x:Rat):0≤ab x:=by unfold ab;grind
theorem ab_le{x c:Rat}:ab x≤c↔ -c≤x∧x≤c:=by unfold ab;grind
theorem kd_(x y:Rat):ab (x+y)≤ab x+ab y:=by unfold ab;grind
theorem ab_neg(x:Rat):ab (-x)=ab x:=by unfold ab;grind
theorem eU_(x y:Rat):ab (x* y)=ab x* ab y:=by
 have key:∀a b:Rat,0≤a→0≤b→ab (a* b)=a* b:=fun a b ha hb=>by
  have:=Rat.mul_nonneg ha hb;unfold ab;grind
 by_cases hx:x< 0;by_cases hy:y< 0;have:=key (-x) (-y) (by grind) (by grind);rw[show x* y= -x* -y by grind,this];unfold ab;rw[if_pos hx,if_pos hy];have:=key (-x) y (by grind) (by grind);rw[show x* y= -(-x* y) by grind,ab_neg,this];unfold ab;rw[if_pos hx,if_neg hy];by_cases hy:y< 0;have:=key x (-y) (by grind) (by grind);rw[show x* y= -(x* -y) by grind,ab_neg,this];unfold ab;rw[if_neg hx,if_pos hy];have:=key x y (by grind) (by grind);rw[this];unfold ab;grind
theorem dm_{a b c d:Rat}(h1:a≤b)(h2:c≤d)(h3:0≤c)(h4:0≤b):a* c≤b* d:=by
 have e1:=Rat.mul_le_mul_of_nonneg_right h1 h3;have e2:=Rat.mul_le_mul_of_nonneg_left h2 h4;grind
def bV(R:Rat):List Rat→Rat
 |[]=>0
 |a::l=>bV R l* R+ab a
theorem bV_nn{R:Rat}(hR:0≤R):∀l,0≤bV R l
 |[]=>by simp[bV]
 |a::l=>by
  have h1:=Rat.mul_nonneg (bV_nn hR l) hR;have h2:=ab_nn a;rw[bV];grind
theorem dL_{R x:Rat}(hR:0≤R)(hx:ab x≤R):∀l,ab (evalP l x)≤bV R l
 |[]=>by rw[bM_,bV];decide
 |a::l=>by
  have h1:=dL_ hR hx l;have h2:=dm_ h1 hx (ab_nn x) (bV_nn hR l);have h3:=kd_ (evalP l x* x) a;rw[eU_] at h3;rw[aW_,bV];grind
def bL(R:Rat):List Rat→Rat
 |[]=>0
 |_::l=>bL R l* R+bV R l
theorem bL_nn{R:Rat}(hR:0≤R):∀l,0≤bL R l
 |[]=>by simp[bL]
 |a::l=>by
  have h1:=Rat.mul_nonneg (bL_nn hR l) hR;have h2:=bV_nn hR l;rw[bL];grind
theorem gD_{R x y:Rat}(hR:0≤R)(hx:ab x≤R)(hy:ab y≤R):∀l,ab (evalP l y- evalP l x)≤bL R l* ab (y- x)
 |[]=>by
  rw[bM_,bM_,bL,Rat.zero_mul];decide+kernel
 |a::l=>by
  have h1:=gD_ hR hx hy l;have h2:=dL_ hR hx l;have e:evalP (a::l) y- evalP (a::l) x=(evalP l y- evalP l x) * y+evalP l x* (y- x):=by rw[aW_,aW_];grind
  have h3:=kd_ ((evalP l y- evalP l x) * y) (evalP l x* (y- x));rw[eU_,eU_] at h3;have hd:=ab_nn (y- x);have h4:=dm_ h1 hy (ab_nn y) (Rat.mul_nonneg (bL_nn hR l) hd);have h5:=Rat.mul_le_mul_of_nonneg_right h2 hd;rw[bL];grind
def bT(R:Rat):List Rat→Rat
 |[]=>0
 |_::l=>bT R l* R+bL R l
theorem bT_nn{R:Rat}(hR:0≤R):∀l,0≤bT R l
 |[]=>by simp[bT]
 |a::l=>by
  have h1:=Rat.mul_nonneg (bT_nn hR l) hR;have h2:=bL_nn hR l;rw[bT];grind
theorem jc_{R x y:Rat}(hR:0≤R)(hx:ab x≤R)(hy:ab y≤R):∀l,ab (evalP l y- evalP l x- (y- x) * dvE l x)≤bT R l* (ab (y- x) * ab (y- x))
 |[]=>by
  rw[bM_,bM_,bT,show dvE [] x=0 from rfl,Rat.zero_mul,Rat.mul_zero];decide+kernel
 |a::l=>by
  have h1:=jc_ hR hx hy l;have h2:=gD_ hR hx hy l;have e:evalP (a::l) y- evalP (a::l) x- (y- x) * dvE (a::l) x=(evalP l y- evalP l x- (y- x) * dvE l x) * x+(evalP l y- evalP l x) * (y- x):=by rw[aW_,aW_,cN_];grind
  have h3:=kd_ ((evalP l y- evalP l x- (y- x) * dvE l x) * x) ((evalP l y- evalP l x) * (y- x));rw[eU_,eU_] at h3;have hd:=ab_nn (y- x);have h4:=dm_ h1 hx (ab_nn x) (Rat.mul_nonneg (bT_nn hR l) (Rat.mul_nonneg hd hd));have h5:=Rat.mul_le_mul_of_nonneg_right h2 hd;rw[e,bT];grind
inductive Gsn:Int→List Int→List Int→Prop
 |nil {t:Int}:Gsn t [] []
 |solid {t s:Int} {l l':List Int}:s≠0→Gsn s l l'→Gsn t (s::l) (s::l')
 |weak {t x y:Int} {l l':List Int}:(x=0∨x=t∨x= -t)→(y=0∨y=t∨y= -t)→Gsn (-t) l l'→Gsn t (x:: -t::l) (y:: -t::l')
theorem hu_:∀(l:List Int) (n t:Int),chL l n t=n+chL l 0 t
 |[],n,t=>by simp[chL]
 |s::l,n,t=>by
  unfold chL;by_cases hs:s≠0;rw[if_pos hs,if_pos hs,hu_ l (if s= -t then n+1 else n),hu_ l (if s= -t then 0+1 else 0)];split <;> omega;rw[if_neg hs,if_neg hs];exact hu_ l n t
theorem o4_{t x:Int}(ht:t≠0)(hx:x=0∨x=t∨x= -t)(l:List Int)(n:Int):chL (x:: -t::l) n t=chL l (n+1) (-t):=by
 rcases hx with rfl|rfl|rfl
 rw[chL,if_neg (by simp),chL,if_pos (by omega),if_pos rfl];rw[chL,if_pos ht,if_neg (by omega),chL,if_pos (by omega),if_pos rfl];rw[chL,if_pos (by omega),if_pos rfl,chL,if_pos (by omega),if_neg (by omega)]
theorem la_{t:Int}{l l':List Int}(h:Gsn t l l'):t≠0→∀n,chL l n t=chL l' n t:=by
 induction h with
 |nil=>exact fun _ _=>rfl
 |solid hs _ ih=>
  intro ht n;rw[chL,if_pos hs,chL,if_pos hs];exact ih hs _
 |weak hx hy _ ih=>
  intro ht n;rw[o4_ ht hx,o4_ ht hy];exact ih (by omega) _
theorem k9_{s:Int}{l l':List Int}(hs:s≠0)(h:Gsn s l l'):chL (s::l) 0 0=chL (s::l') 0 0:=by
 rw[chL,if_pos hs,chL,if_pos hs];exact la_ h hs _
theorem o6_{s s' t:Int}{l l':List Int}(ht:t=1∨t= -1)(hs: -1≤s∧s≤1)(hs': -1≤s'∧s'≤1)(hm:t* s≤t* s')(h:Gsn t l l'):chL (s'::t::l') 0 0≤chL (s::t::l) 0 0:=by
 have ht0:t≠0:=by omega
 have key:∀(u:Int) (k:List Int),-1≤u∧u≤1→chL (u::t::k) 0 0=(if u= -t then 1 else 0)+chL k 0 t:=fun u k hu=>by
  by_cases h0:u=0;subst h0;rw[chL,if_neg (by simp),chL,if_pos ht0,if_neg (by omega),if_neg (by omega)];omega;rw[chL,if_pos h0,if_neg (by omega),chL,if_pos ht0,hu_];by_cases h1:u= -t;rw[if_pos (by omega),if_pos h1];omega;rw[if_neg (by omega),if_neg h1]
 rw[key s l hs,key s' l' hs',la_ h ht0 0];rcases ht with rfl|rfl <;> split <;> split <;> omega
theorem num_pos{q:Rat}:0< q.num↔0< q:=by
 have h2:0≤q.num↔0≤q:=Rat.num_nonneg;have h3:q.num=0↔q=0:=Rat.num_eq_zero;grind
theorem fV_{q:List Rat}{x:Rat}(h:0< evalP q x):sgE x q=1:=by
 have:=sgZ_num_gt.2 h;have:=gS_ (evalP q x).num;unfold sgE;omega
theorem ip_{q:List Rat}{x:Rat}(h:evalP q x< 0):sgE x q= -1:=by
 have:=sgZ_num_lt.2 h;have:=gS_ (evalP q x).num;unfold sgE;omega
theorem hT_{q:List Rat}{x:Rat}(h:evalP q x=0):sgE x q=0:=sgZ_num_eq.2 h
theorem ds_(x:Rat)(q:List Rat): -1≤sgE x q∧sgE x q≤1:=gS_ _
theorem bt_(x:Rat)(q:List Rat):(sgE x q=1∧0< evalP q x)∨(sgE x q= -1∧evalP q x< 0)∨(sgE x q=0∧evalP q x=0):=by
 by_cases h:0< evalP q x;exact .inl ⟨fV_ h,h⟩;by_cases h':evalP q x< 0;exact .inr (.inl ⟨ip_ h',h'⟩);have e:evalP q x=0:=by grind
 exact .inr (.inr ⟨hT_ e,e⟩)
theorem hU_{q:List Rat}{x y:Rat}(h:evalP q x≤evalP q y):sgE x q≤sgE y q:=by
 rcases bt_ x q with⟨a,b⟩|⟨a,b⟩|⟨a,b⟩
 rw[a,fV_ (by grind)];decide;have:=ds_ y q;omega;by_cases h0:0< evalP q y;rw[a,fV_ h0];decide;rw[a,hT_ (by grind)];decide
theorem part(e:Rat){d:Rat}(he:0< e)(hd:0< d):∃h:Rat,0< h∧h* d=e:=by
 refine⟨e/ d,?_,Rat.div_mul_cancel (by grind)⟩;have e1:e/ d* d=e:=Rat.div_mul_cancel (by grind);by_cases h:0< e/ d;exact h;have h2:e/ d* d≤0* d:=Rat.mul_le_mul_of_nonneg_right (by grind) (by grind);grind
theorem less(a b:Rat)(ha:0< a)(hb:0< b):∃h:Rat,0< h∧h≤a∧h≤b:=by grind
theorem keep(u:List Rat){R e:Rat}(hR:0≤R)(he:0< e):∃h:Rat,0< h∧∀x y:Rat,ab x≤R→ab y≤R→ab (y- x)≤h→e≤ab (evalP u x)→sgE y u=sgE x u∧sgE x u≠0:=by
 have hL:=bL_nn hR u;obtain⟨h,h0,h1⟩:=part e (d:=2* (bL R u+1)) he (by grind);refine⟨h,h0,fun x y hx hy hd ha=>?_⟩;have h2:=gD_ hR hx hy u;have h3:=Rat.mul_le_mul_of_nonneg_left hd hL;have h5:=ab_le (x:=evalP u y- evalP u x) (c:=ab (evalP u y- evalP u x))|>.1 (by grind);rcases bt_ x u with⟨a,b⟩|⟨a,b⟩|⟨a,b⟩
 have h6:ab (evalP u x)=evalP u x:=by unfold ab;grind
 rw[a,fV_ (by grind)];decide;have h6:ab (evalP u x)= -evalP u x:=by unfold ab;grind
 rw[a,ip_ (by grind)];decide;have h6:ab (evalP u x)=0:=by rw[b];decide
 grind
inductive Ch:List Rat→List (List Rat)→Prop
 |one {u:List Rat} {c:Rat}:c≠0→(∀x,evalP u x=c)→Ch u []
 |pair {u v:List Rat}:Ch v []→Ch u [v]
 |step {u v w:List Rat} {L:List (List Rat)} {a c:Rat} {q:List Rat}:0< a→0< c→(∀x,a* evalP u x+c* evalP w x=evalP q x* evalP v x)→Ch v (w::L)→Ch u (v::w::L)
def Cl(u:List Rat)(L:List (List Rat)):Prop:=∀R e:Rat,0≤R→0< e→∃h:Rat,0< h∧∀x y:Rat,ab x≤R→ab y≤R→ab (y- x)≤h→e≤ab (evalP u x)→
 sgE y u=sgE x u∧sgE x u≠0∧Gsn (sgE x u) (L.map (sgE x)) (L.map (sgE y))
theorem Ch.const{v:List Rat}(h:Ch v []):∃c:Rat,c≠0∧∀x,evalP v x=c:=by
 cases h with
 |one hc h=>simp_all
theorem Ch.sg{v:List Rat}(h:Ch v [])(x y:Rat):sgE y v=sgE x v∧sgE x v≠0:=by
 obtain⟨c,hc,h⟩:=h.const;have e:sgE y v=sgE x v:=by unfold sgE;grind
 rcases bt_ x v with⟨a,b⟩|⟨a,b⟩|⟨a,b⟩
 omega;omega;grind
theorem Ch.cl{u:List Rat}{L:List (List Rat)}(H:Ch u L):Cl u L∧∀v L',L=v::L'→Cl v L':=by
 induction H with
 | @one u c hc hu=>
  refine⟨fun R e hR he=>?_,fun _ _ h=>by cases h⟩;obtain⟨h,h0,h1⟩:=keep u hR he;exact⟨h,h0,fun x y hx hy hd ha=>⟨(h1 x y hx hy hd ha).1,(h1 x y hx hy hd ha).2,.nil⟩⟩
 | @pair u v hv ih=>
  refine⟨fun R e hR he=>?_,fun _ _ h=>by grind⟩;obtain⟨h,h0,h1⟩:=keep u hR he;refine⟨h,h0,fun x y hx hy hd ha=>⟨(h1 x y hx hy hd ha).1,(h1 x y hx hy hd ha).2,?_⟩⟩;simp only[List.map_cons,List.map_nil];rw[(hv.sg x y).1];exact .solid (hv.sg x y).2 .nil
 | @step u v w L a c q ha hc hrel hv ih=>
  refine⟨fun R e hR he=>?_,fun _ _ h=>by cases h;exact ih.1⟩;have hQ:=bV_nn hR q;have hae:=Rat.mul_pos ha he;obtain⟨e1,he1,he1'⟩:=part (a* e) (d:=2* (bV R q+1)) hae (by grind);obtain⟨e2,he2,he2'⟩:=part (a* e) (d:=2* c) hae (by grind);obtain⟨h0,p0,k0⟩:=keep u hR he;obtain⟨h1,p1,k1⟩:=ih.1 R e1 hR he1;obtain⟨h2,p2,k2⟩:=ih.2 w L rfl R e2 hR he2;obtain⟨h3,p3,l3,m3⟩:=less h0 h1 p0 p1;obtain⟨h,p,l,m⟩:=less h3 h2 p3 p2;refine⟨h,p,fun x y hx hy hd hu=>?_⟩;obtain⟨s1,s2⟩:=k0 x y hx hy (by grind) hu;refine⟨s1,s2,?_⟩;by_cases hvx:e1≤ab (evalP v x);obtain⟨t1,t2,t3⟩:=k1 x y hx hy (by grind) hvx;simp only[List.map_cons] at t3⊢;rw[t1];exact .solid t2 t3;have b1:=dm_ (dL_ hR hx q) (show ab (evalP v x)≤e1 by grind) (ab_nn _) hQ;rw[←eU_,←hrel x] at b1;have b2:=ab_le.1 b1;have b3:bV R q* e1+e1=a* e/ 2:=by grind
  have key:sgE x w= -sgE x u∧e2≤ab (evalP w x):=by
   rcases bt_ x u with⟨g1,g2⟩|⟨g1,g2⟩|⟨g1,g2⟩
   have g3:ab (evalP u x)=evalP u x:=by unfold ab;rw[if_neg (by grind)]
   rw[g3] at hu;have g4:=Rat.mul_le_mul_of_nonneg_left hu (show 0≤a by grind)
   have g5:evalP w x≤ -e2:=by
    by_cases g:evalP w x≤ -e2;exact g;have:=Rat.mul_pos hc (show 0< evalP w x+e2 by grind);grind
   refine⟨by rw[g1,ip_ (by grind)],?_⟩;unfold ab;rw[if_pos (by grind)];grind;have g3:ab (evalP u x)= -evalP u x:=by unfold ab;rw[if_pos g2]
   rw[g3] at hu;have g4:=Rat.mul_le_mul_of_nonneg_left hu (show 0≤a by grind)
   have g5:e2≤evalP w x:=by
    by_cases g:e2≤evalP w x;exact g;have:=Rat.mul_pos hc (show 0< e2- evalP w x by grind);grind
   refine⟨by rw[g1,fV_ (by grind)];decide,?_⟩;unfold ab;rw[if_neg (by grind)];grind;exact absurd g1 s2
  obtain⟨t1,t2,t3⟩:=k2 x y hx hy (by grind) key.2;simp only[List.map_cons];rw[t1,key.1];rw[key.1] at t3;have c1:=ds_ x u;have c2:=ds_ x v;have c3:=ds_ y v;exact .weak (by omega) (by omega) t3
theorem Ch.bez{u:List Rat}{M:List (List Rat)}(H:Ch u M):∀v L,M=v::L→∃a b:List Rat,∀x,evalP a x* evalP u x+evalP b x* evalP v x=1:=by
 induction H with
 |one hc hu=>grind
 | @pair u v hv ih=>
  intro v' L h;cases h;obtain⟨c,hc,h⟩:=hv.const;refine⟨[],[1/ c],fun x=>?_⟩;rw[aW_,bM_];grind
 | @step u v w L a c q ha hc hrel hv ih=>
  intro v' L' h;obtain⟨a',b',h⟩:=ih w L rfl;refine⟨aN_ b' (-(a/ c)),addP a' (aN_ (mulP b' q) (1/ c)),fun x=>?_⟩;rw[bL_,bN_,bL_,cX_];grind
theorem arch(c:Rat){h:Rat}(hh:0< h):∃n:Nat,c≤((n:Int):Rat) * h:=by
 by_cases hc:c≤0;exact⟨0,by grind⟩;obtain⟨k,hk,e⟩:=part c (d:=h) (by grind) hh
 have h1:k≤((k.num.natAbs:Int):Rat):=by
  have hn:0< k.num:=num_pos.2 hk;rw[Rat.le_iff];show k.num* 1≤(k.num.natAbs:Int) * (k.den:Int);have h4:=Int.mul_le_mul_of_nonneg_left (show(1:Int)≤(k.den:Int) by have:=k.den_pos;omega) (show 0≤k.num by omega);grind
 have h5:=Rat.mul_le_mul_of_nonneg_right h1 (show 0≤h by grind);grind
theorem grid {f:Rat→Int} (r:Int→Int→Prop) (hr:∀a,r a a) (ht:∀a b c,r a b→r b c→r a c) {lo hi h:Rat} (hh:0< h)
    (hs:∀x y,lo≤x→x≤y→y≤hi→y- x≤h→r (f x) (f y)):∀(n:Nat) (x y:Rat),lo≤x→x≤y→y≤hi→y- x≤((n:Int):Rat) * h→r (f x) (f y)
 |0,x,y,h1,h2,h3,h4=>by grind
 |n+1,x,y,h1,h2,h3,h4=>by
  by_cases hd:y- x≤h;exact hs x y h1 h2 h3 hd;exact ht _ _ _ (hs x (x+h) h1 (by grind) (by grind) (by grind)) (grid r hr ht hh hs n (x+h) y (by grind) (by grind) h3 ((by grind)))
theorem way {f:Rat→Int} (r:Int→Int→Prop) (hr:∀a,r a a) (ht:∀a b c,r a b→r b c→r a c) {x y h:Rat} (hh:0< h) (hxy:x≤y)
    (hs:∀u v,x≤u→u≤v→v≤y→v- u≤h→r (f u) (f v)):r (f x) (f y):=by
 obtain⟨n,hn⟩:=arch (y- x) hh;exact grid r hr ht hh hs n x y (by grind) hxy (by grind) hn
def chV(l:List (List Rat))(x:Rat):Int:=chL (l.map (sgE x)) 0 0
theorem ab_in{x y u:Rat}(h1:x≤u)(h2:u≤y):ab u≤ab x+ab y:=by
 have a1:=ab_le (x:=x) (c:=ab x)|>.1 (by grind);have a2:=ab_le (x:=y) (c:=ab y)|>.1 (by grind);exact ab_le.2 ⟨by grind,by grind⟩
theorem ab_sub{u v h:Rat}(h1:u≤v)(h2:v- u≤h):ab (v- u)≤h:=by
 unfold ab;grind
theorem Ch.same{u:List Rat}{L:List (List Rat)}(H:Ch u L){e x y:Rat}(he:0< e)(hxy:x≤y)(ha:∀z,x≤z→z≤y→e≤ab (evalP u z)):chV (u::L) x=chV (u::L) y:=by
 obtain⟨h,h0,h1⟩:=H.cl.1 (ab x+ab y) e (by have:=ab_nn x;have:=ab_nn y;grind) he;refine way (f:=chV (u::L)) (· = ·) (fun _=>rfl) (fun _ _ _=>Eq.trans) h0 hxy fun z w a b c d=>?_;obtain⟨s1,s2,s3⟩:=h1 z w (ab_in a (by grind)) (ab_in (by grind) c) (ab_sub b d) (ha z a (by grind));unfold chV;simp only[List.map_cons];rw[s1];exact k9_ s2 s3
theorem outweigh{k T d uz uw D e v:Rat}(hk:0< k)(h1:k* -T≤k* (uw- uz- d* D))(h2:T* k≤d* e)(h3:d* e≤d* v)(h4:v=k* D):uz≤uw:=by
 subst h4;by_cases h:uz≤uw;exact h;have:=Rat.mul_pos hk (show 0< uz- uw by grind);grind
theorem outweigh'{k T d uz uw D e v:Rat}(hk:0< k)(h1:k* (uw- uz- d* D)≤k* T)(h2:T* k≤d* e)(h3:d* e≤d* -v)(h4:v=k* D):uw≤uz:=by
 subst h4;by_cases h:uw≤uz;exact h;have:=Rat.mul_pos hk (show 0< uw- uz by grind);grind
theorem Ch.fall{u v:List Rat}{L:List (List Rat)}{k:Rat}(H:Ch u (v::L))(hk:0< k)(hd:∀x,evalP v x=k* dvE u x){x y:Rat}(hxy:x≤y):chV (u::v::L) y≤chV (u::v::L) x:=by
 have hR:0≤ab x+ab y:=by have:=ab_nn x;have:=ab_nn y;grind
 generalize hRe:ab x+ab y=R at hR;obtain⟨a,b,hb⟩:=H.bez v L rfl;have hA:=bV_nn hR a;have hB:=bV_nn hR b;obtain⟨e,he,he'⟩:=part 1 (d:=2* (bV R a+bV R b+1)) (by decide+kernel) (by grind);obtain⟨h1,p1,k1⟩:=H.cl.1 R e hR he;obtain⟨h2,p2,k2⟩:=H.cl.2 v L rfl R e hR he;have hT:=bT_nn hR u;obtain⟨h3,p3,e3⟩:=part e (d:=k* (bT R u+1)) he (Rat.mul_pos hk (by grind));obtain⟨h4,p4,l4,m4⟩:=less h1 h2 p1 p2;obtain⟨h,p,l,m⟩:=less h4 h3 p4 p3;refine way (f:=chV (u::v::L)) (fun s t=>t≤s) (fun _=>Int.le_refl _) (fun _ _ _ g1 g2=>Int.le_trans g2 g1) p hxy fun z w g1 g2 g3 g4=>?_;have hz:ab z≤R:=by rw[←hRe];exact ab_in g1 (by grind)
 have hw:ab w≤R:=by rw[←hRe];exact ab_in (by grind) g3
 have hzw:ab (w- z)=w- z:=by unfold ab;rw[if_neg (by grind)]
 by_cases hu:e≤ab (evalP u z);obtain⟨s1,s2,s3⟩:=k1 z w hz hw (by grind) hu;refine Int.le_of_eq ?_;unfold chV;simp only[List.map_cons] at s3⊢;rw[s1];exact(k9_ s2 s3).symm
 have hv:e≤ab (evalP v z):=by
  by_cases hv:e≤ab (evalP v z);exact hv;have n1:=dm_ (dL_ hR hz a) (show ab (evalP u z)≤e by grind) (ab_nn _) hA;have n2:=dm_ (dL_ hR hz b) (show ab (evalP v z)≤e by grind) (ab_nn _) hB;have n3:=kd_ (evalP a z* evalP u z) (evalP b z* evalP v z);rw[hb z,eU_,eU_,show ab 1=1 by decide+kernel] at n3;grind
 obtain⟨s1,s2,s3⟩:=k2 z w hz hw (by grind) hv;have htan:=jc_ hR hz hw u;rw[hzw] at htan;have ht2:=ab_le.1 htan;have hvz:=hd z
 -- the derivative outweighs what leaves the tangent
 have small:bT R u* ((w- z) * (w- z)) * k≤(w- z) * e:=by
  have q1:=Rat.mul_le_mul_of_nonneg_right (show w- z≤h3 by grind) (show 0≤w- z by grind);have q2:=Rat.mul_le_mul_of_nonneg_left q1 hT;have q3:=Rat.mul_le_mul_of_nonneg_right q2 (show 0≤k by grind);have q4:(w- z) * e=bT R u* (h3* (w- z)) * k+(w- z) * h3* k:=by rw[←e3];grind
  have q5:=Rat.mul_nonneg (Rat.mul_nonneg (show 0≤w- z by grind) (show 0≤h3 by grind)) (show 0≤k by grind);grind
 have hwz:0≤w- z:=by grind
 unfold chV;simp only[List.map_cons];rw[s1];rcases bt_ z v with⟨c1,c2⟩|⟨c1,c2⟩|⟨c1,c2⟩
 have c3:ab (evalP v z)=evalP v z:=by unfold ab;rw[if_neg (by grind)]
 rw[c3] at hv;have c4:=Rat.mul_le_mul_of_nonneg_left hv hwz;have up:evalP u z≤evalP u w:=outweigh hk (Rat.mul_le_mul_of_nonneg_left ht2.1 (by grind)) small c4 hvz;exact o6_ (.inl c1) (ds_ z u) (ds_ w u) (by rw[c1];have:=hU_ up;omega) s3;have c3:ab (evalP v z)= -evalP v z:=by unfold ab;rw[if_pos c2]
 rw[c3] at hv;have c4:=Rat.mul_le_mul_of_nonneg_left hv hwz;have up:evalP u w≤evalP u z:=outweigh' hk (Rat.mul_le_mul_of_nonneg_left ht2.2 (by grind)) small c4 hvz;exact o6_ (.inr c1) (ds_ z u) (ds_ w u) (by rw[c1];have:=hU_ up;omega) s3;exact absurd c1 s2

def pw(d:List Rat):Nat→List Rat
 |0=>[1]
 |k+1=>mulP (pw d k) d
inductive Cx:List Rat→List Rat→List (List Rat)→Prop
 |nil {u n:List Rat}:¬nz n→Cx u n []
 |cons {u n v n' q:List Rat} {L:List (List Rat)} {c:Rat}:0< c→(∀x,evalP v x=evalP n x* c)→nz v→(∀x,evalP n' x=evalP q x* evalP v x- evalP u x)→Cx v n' L→Cx u n (v::L)
theorem sO_(u:List Rat)(x:Rat):chV [u] x=0:=by
 unfold chV chL chL;grind
def HtF(f:Nat→Rat)(k:Rat)(h:Nat):Prop:=∀i,∃z:Int,f i* k=(z:Rat)∧bl z.natAbs≤h
def Ht(p:List Rat)(h:Nat):Prop:=∃k:Rat,k≠0∧HtF (coP p) k h
theorem Ht.quot{p:List Rat}{h:Nat}(H:Ht p h)(i j:Nat)(hj:coP p j≠0)(h1:1≤h):qs (coP p i/ coP p j)≤h:=by
 obtain⟨k,k0,H⟩:=H;obtain⟨z,z1,z2⟩:=H i;obtain⟨w,w1,w2⟩:=H j
 have w0:w≠0:=fun e=>by
  rw[e] at w1;grind
 have e:coP p i/ coP p j=(z:Rat) / (w:Rat):=by grind
 have hpos:0< w.natAbs:=by omega
 by_cases hw:0< w
 have e2:(z:Rat) / (w:Rat)=mkRat z w.natAbs:=by
  rw[fA_];show Rat.divInt (z* ((1:Nat):Int)) (((1:Nat):Int) * w)=_;rw[←Rat.divInt_ofNat];grind
 rw[e,e2];exact c7_ hpos z2 w2
 have e2:(z:Rat) / (w:Rat)=mkRat (-z) w.natAbs:=by
  have e3:(z:Rat) / (w:Rat)=((-z:Int):Rat) / ((-w:Int):Rat):=by grind
  rw[e3,fA_];show Rat.divInt (-z* ((1:Nat):Int)) (((1:Nat):Int) * -w)=_;rw[←Rat.divInt_ofNat];grind
 rw[e,e2];exact c7_ hpos (by grind) w2
def hG:Nat→Nat→Nat→Nat→Nat→Nat→Bool
 |0,_,_,_,_,_=>false
 |f+1,m,n,s,t,X=>if n=0 then decide (s≤X) else
  decide (2^ (m+1- n) * (s+2* t+1)≤137438953472) && (List.range n).all fun k=>hG f n k t (s+(m+1- n) * (t+1)) X
def cB:Nat→Nat→Nat→Nat→Nat→Nat→Nat→Bool
 |0,_,_,_,_,_,_=>false
 |f+1,m,n,s,t,b,T=>if n=0 then true else
  decide (t≤T) && decide ((n+4) * b≤34359738368) && decide (2^ (m+1- n) * (s+2* t+1)≤137438953472) &&
   (List.range n).all fun k=>cB f n k t (s+(m+1- n) * (t+1)) (2^ (m+1- n) * (s+2* t+1)) T
def gsz:Nat→List Rat→List Rat→Nat→Prop
 |0,_,_,_=>False
 |f+1,p,q,B=>bdL p B∧(nz q→bdL q B∧gsz f q (e3_ (divP p q).2) B)


def chi(s t:Int):Int:=if s≠0∧t≠s then 1 else 0
theorem chi_nn(s t:Int):0≤chi s t:=by unfold chi;grind
theorem ie_(s:Int):chi s s=0:=by unfold chi;grind
theorem o5_{s t:Int}{l:List Int}(ht:t=1∨t= -1)(hs: -1≤s∧s≤1):chL (s::t::l) 0 0=(if s= -t then 1 else 0)+chL l 0 t:=by
 have ht0:t≠0:=by omega
 by_cases h0:s=0;subst h0;rw[chL,if_neg (by simp),chL,if_pos ht0,if_neg (by omega)];omega;rw[chL,if_pos h0,chL,hu_];grind
def Sq(u:List Rat)(L:List (List Rat)):Prop:=Ch u L∧∀v M,L=v::M→∃k:Rat,0< k∧∀x,evalP v x=k* dvE u x
theorem sZ_{x c:Rat}(h:c≤ab x):c≤x∨x≤ -c:=by unfold ab at h;grind
theorem ab_ge{x c:Rat}(h:c≤x∨x≤ -c)(hc:0≤c):c≤ab x:=by unfold ab;grind
theorem lT_{k a b:Rat}(hk:0< k)(h:k* a≤k* b):a≤b:=by
 by_cases h':a≤b;exact h';have:=Rat.mul_pos hk (show 0< a- b by grind);grind
theorem Sq.tiny{u:List Rat}{L:List (List Rat)}(H:Sq u L){R:Rat}(hR:0≤R):∃h e ρ:Rat,0< h∧0< e∧0< ρ∧∀z w:Rat,ab z≤R→ab w≤R→z≤w→w- z≤h→
    chV (u::L) z- chV (u::L) w=chi (sgE z u) (sgE w u)∧((e≤ab (evalP u z)∧e≤ab (evalP u w))∨∃s:Rat,(s=1∨s= -1)∧0< s* dvE u z∧0< s* dvE u w∧ρ* (w- z)≤s* (evalP u w- evalP u z)):=by
 obtain⟨H,hv⟩:=H;cases L with
 |nil=>
  obtain⟨c,c0,hc⟩:=H.const;have hp:0< ab c:=by unfold ab;grind
  refine⟨1,ab c,1,by grind,hp,by grind,fun z w _ _ _ _=>⟨?_,.inl ⟨by grind,by grind⟩⟩⟩;rw[sO_,sO_,(H.sg z w).1,ie_];rfl
 |cons v L=>
 obtain⟨k,hk,hd⟩:=hv v L rfl;obtain⟨a,b,hb⟩:=H.bez v L rfl;have hA:=bV_nn hR a;have hB:=bV_nn hR b;obtain⟨e,he,he'⟩:=part 1 (d:=2* (bV R a+bV R b+1)) (by decide+kernel) (by grind);obtain⟨h1,p1,k1⟩:=H.cl.1 R e hR he;obtain⟨h2,p2,k2⟩:=H.cl.2 v L rfl R e hR he;have hT:=bT_nn hR u;have hL:=bL_nn hR u;obtain⟨ρ,pρ,eρ⟩:=part e (d:=2* k) he (by grind);obtain⟨h3,p3,e3⟩:=part ρ (d:=bT R u+1) pρ (by grind);obtain⟨h5,p5,e5⟩:=part (e/ 2) (d:=bL R u+1) (by grind) (by grind);obtain⟨h4,p4,l4,m4⟩:=less h1 h2 p1 p2;obtain⟨h6,p6,l6,m6⟩:=less h3 h5 p3 p5;obtain⟨h,p,l,m⟩:=less h4 h6 p4 p6;refine⟨h,e/ 2,ρ,p,by grind,pρ,fun z w hz hw g2 g4=>?_⟩;have hzw:ab (w- z)=w- z:=by unfold ab;rw[if_neg (by grind)]
 by_cases hu:e≤ab (evalP u z);obtain⟨s1,s2,s3⟩:=k1 z w hz hw (by grind) hu;refine⟨?_,.inl ⟨by grind,?_⟩⟩;rw[s1,ie_]
 have:chV (u::v::L) z=chV (u::v::L) w:=by
  unfold chV;simp only[List.map_cons] at s3⊢;rw[s1];exact k9_ s2 s3
 omega;have q1:=gD_ hR hz hw u;have q2:=Rat.mul_le_mul_of_nonneg_left (show w- z≤h5 by grind) hL;have q3:ab (evalP u w- evalP u z)≤e/ 2:=by rw[hzw] at q1;grind
 have q4:=ab_le.1 q3;rcases sZ_ hu with q|q
 exact ab_ge (.inl (by grind)) (by grind);exact ab_ge (.inr (by grind)) (by grind)
 have hv:e≤ab (evalP v z):=by
  by_cases hv:e≤ab (evalP v z);exact hv;have n1:=dm_ (dL_ hR hz a) (show ab (evalP u z)≤e by grind) (ab_nn _) hA;have n2:=dm_ (dL_ hR hz b) (show ab (evalP v z)≤e by grind) (ab_nn _) hB;have n3:=kd_ (evalP a z* evalP u z) (evalP b z* evalP v z);rw[hb z,eU_,eU_,show ab 1=1 by decide+kernel] at n3;grind
 obtain⟨s1,s2,s3⟩:=k2 z w hz hw (by grind) hv;have htan:=jc_ hR hz hw u;rw[hzw] at htan;have ht2:=ab_le.1 htan;have hwz:0≤w- z:=by grind
 have small:bT R u* ((w- z) * (w- z))≤ρ* (w- z):=by
  have q1:=Rat.mul_le_mul_of_nonneg_left (show w- z≤h3 by grind) hT;have q2:bT R u* (w- z)≤ρ:=by grind
  have q3:=Rat.mul_le_mul_of_nonneg_right q2 hwz;grind
 have tail:∀t:Int,(t=1∨t= -1)→sgE z v=t→chV (u::v::L) z- chV (u::v::L) w=(if sgE z u= -t then 1 else 0)- (if sgE w u= -t then 1 else 0):=fun t ht e=>by
  have s4:=s3;rw[e] at s4;unfold chV;simp only[List.map_cons];rw[s1,e,o5_ ht (ds_ z u),o5_ ht (ds_ w u),la_ s4 (by omega)];omega
 have bz:=ds_ z u;have bw:=ds_ w u;rcases bt_ z v with⟨c1,c2⟩|⟨c1,c2⟩|⟨c1,c2⟩
 have c3:e≤evalP v z:=by rcases sZ_ hv with q|q <;> grind
 have d1:2* ρ≤dvE u z:=lT_ hk (by rw[←hd];grind);have c4:=Rat.mul_le_mul_of_nonneg_left d1 hwz;have up:ρ* (w- z)≤evalP u w- evalP u z:=by grind
 have nn:=Rat.mul_nonneg (show 0≤ρ by grind) hwz;have mo:=hU_ (q:=u) (x:=z) (y:=w) (by grind);refine⟨?_,.inr ⟨1,.inl rfl,by grind,?_,by grind⟩⟩;rw[tail 1 (.inl rfl) c1];unfold chi;split <;> split <;> split <;> omega;rcases bt_ w v with⟨f1,f2⟩|⟨f1,f2⟩|⟨f1,f2⟩
 rw[hd] at f2;by_cases f3:0< dvE u w;grind;have:=Rat.mul_nonneg (show 0≤k by grind) (show 0≤ -dvE u w by grind);grind;omega;omega;have c3:evalP v z≤ -e:=by rcases sZ_ hv with q|q <;> grind
 have d1:2* ρ≤ -dvE u z:=lT_ hk (by have:=hd z;grind);have c4:=Rat.mul_le_mul_of_nonneg_left d1 hwz;have up:ρ* (w- z)≤evalP u z- evalP u w:=by grind
 have nn:=Rat.mul_nonneg (show 0≤ρ by grind) hwz;have mo:=hU_ (q:=u) (x:=w) (y:=z) (by grind);refine⟨?_,.inr ⟨-1,.inr rfl,by grind,?_,by grind⟩⟩;rw[tail (-1) (.inr rfl) c1];unfold chi;split <;> split <;> split <;> omega;rcases bt_ w v with⟨f1,f2⟩|⟨f1,f2⟩|⟨f1,f2⟩
 omega;rw[hd] at f2;by_cases f3:0< -dvE u w;grind;have:=Rat.mul_nonneg (show 0≤k by grind) (show 0≤dvE u w by grind);grind;omega;exact absurd c1 s2
theorem ab_rng(x y:Rat):0≤ab x+ab y:=by have:=ab_nn x;have:=ab_nn y;grind
theorem Sq.mono{u:List Rat}{L:List (List Rat)}(H:Sq u L){x y:Rat}(hxy:x≤y):chV (u::L) y≤chV (u::L) x:=by
 obtain⟨h,e,ρ,h0,_,_,ht⟩:=H.tiny (ab_rng x y);refine way (f:=chV (u::L)) (fun s t=>t≤s) (fun _=>Int.le_refl _) (fun _ _ _ g1 g2=>Int.le_trans g2 g1) h0 hxy fun z w g1 g2 g3 g4=>?_;have:=(ht z w (ab_in g1 (by grind)) (ab_in (by grind) g3) g2 g4).1;have:=chi_nn (sgE z u) (sgE w u);omega
theorem gj_{q r:List Rat}{x c:Rat}(e:evalP r x=c* evalP q x):(0< c→sgE x r=sgE x q)∧(c< 0→sgE x r= -sgE x q):=by
 constructor;intro hc;rcases bt_ x q with⟨a,b⟩|⟨a,b⟩|⟨a,b⟩
 rw[a];exact fV_ (by rw[e];exact Rat.mul_pos hc b);rw[a];exact ip_ (by have:=Rat.mul_pos hc (show 0< -evalP q x by grind);grind);rw[a];exact hT_ (by rw[e,b];grind);intro hc;rcases bt_ x q with⟨a,b⟩|⟨a,b⟩|⟨a,b⟩
 rw[a];exact ip_ (by have:=Rat.mul_pos (show 0< -c by grind) b;grind);rw[a];exact fV_ (by have:=Rat.mul_pos (show 0< -c by grind) (show 0< -evalP q x by grind);grind);rw[a,hT_ (by rw[e,b];grind)];rfl
theorem sN_(s t:Int):chi (-s) (-t)=chi s t:=by unfold chi;split <;> split <;> omega
theorem Sq.add{S A B a b:List Rat}{LS LA LB:List (List Rat)}{κ:Rat}(hS:Sq S LS)(hA:Sq A LA)(hB:Sq B LB)(hκ:κ≠0)(hm:∀x,evalP S x=κ* (evalP A x* evalP B x))(hb:∀x,evalP a x* evalP A x+evalP b x* evalP B x=1){x y:Rat}(hxy:x≤y):
    chV (S::LS) x- chV (S::LS) y=(chV (A::LA) x- chV (A::LA) y)+(chV (B::LB) x- chV (B::LB) y):=by
 have hR:=ab_rng x y;obtain⟨h1,_,_,p1,_,_,t1⟩:=hS.tiny hR;obtain⟨h2,_,_,p2,_,_,t2⟩:=hA.tiny hR;obtain⟨h3,_,_,p3,_,_,t3⟩:=hB.tiny hR;have nA:=bV_nn hR a;have nB:=bV_nn hR b;obtain⟨e,he,he'⟩:=part 1 (d:=2* (bV (ab x+ab y) a+bV (ab x+ab y) b+1)) (by decide+kernel) (by grind);obtain⟨h4,p4,k4⟩:=keep A hR he;obtain⟨h5,p5,k5⟩:=keep B hR he;obtain⟨i1,j1,l1,m1⟩:=less h1 h2 p1 p2;obtain⟨i2,j2,l2,m2⟩:=less h3 h4 p3 p4;obtain⟨i3,j3,l3,m3⟩:=less i1 i2 j1 j2;obtain⟨h,h0,l,m⟩:=less i3 h5 j3 p5
 have w:=way (f:=fun z=>chV (S::LS) z- chV (A::LA) z- chV (B::LB) z) (· = ·) (fun _=>rfl) (fun _ _ _=>Eq.trans) h0 hxy fun z w g1 g2 g3 g4=>by
  have hz:=ab_in g1 (show z≤y by grind);have hw:=ab_in (show x≤w by grind) g3;have q1:=(t1 z w hz hw g2 (by grind)).1;have q2:=(t2 z w hz hw g2 (by grind)).1;have q3:=(t3 z w hz hw g2 (by grind)).1;have hzw:=ab_sub g2 g4;have flip:∀c:Rat,c≠0→(0< c∨c< 0):=fun c hc=>by grind
  by_cases hA':e≤ab (evalP A z);obtain⟨r1,r2⟩:=k4 z w hz hw (by grind) hA';rw[r1,ie_] at q2
  have:chi (sgE z S) (sgE w S)=chi (sgE z B) (sgE w B):=by
   have ez:=gj_ (q:=B) (r:=S) (x:=z) (c:=κ* evalP A z) (by rw[hm];grind);have ew:=gj_ (q:=B) (r:=S) (x:=w) (c:=κ* evalP A w) (by rw[hm];grind)
   have sg:(0< κ* evalP A z∧0< κ* evalP A w)∨(κ* evalP A z< 0∧κ* evalP A w< 0):=by
    rcases bt_ z A with⟨a1,a2⟩|⟨a1,a2⟩|⟨a1,a2⟩
    have a3:0< evalP A w:=by rcases bt_ w A with⟨_,g⟩|⟨g,_⟩|⟨g,_⟩<;> first|exact g|omega
    rcases flip κ hκ with g|g
    exact .inl ⟨Rat.mul_pos g a2,Rat.mul_pos g a3⟩;have:=Rat.mul_pos (show 0< -κ by grind) a2;have:=Rat.mul_pos (show 0< -κ by grind) a3;exact .inr ⟨by grind,by grind⟩;have a3:evalP A w< 0:=by rcases bt_ w A with⟨g,_⟩|⟨_,g⟩|⟨g,_⟩<;> first|exact g|omega
    rcases flip κ hκ with g|g
    have:=Rat.mul_pos g (show 0< -evalP A z by grind);have:=Rat.mul_pos g (show 0< -evalP A w by grind);exact .inr ⟨by grind,by grind⟩;have:=Rat.mul_pos (show 0< -κ by grind) (show 0< -evalP A z by grind);have:=Rat.mul_pos (show 0< -κ by grind) (show 0< -evalP A w by grind);exact .inl ⟨by grind,by grind⟩;exact absurd a1 r2
   rcases sg with⟨g1,g2⟩|⟨g1,g2⟩
   rw[ez.1 g1,ew.1 g2];rw[ez.2 g1,ew.2 g2,sN_]
  show _=_;omega
  have hB':e≤ab (evalP B z):=by
   by_cases hB':e≤ab (evalP B z);exact hB';have n1:=dm_ (dL_ hR hz a) (show ab (evalP A z)≤e by grind) (ab_nn _) nA;have n2:=dm_ (dL_ hR hz b) (show ab (evalP B z)≤e by grind) (ab_nn _) nB;have n3:=kd_ (evalP a z* evalP A z) (evalP b z* evalP B z);rw[hb z,eU_,eU_,show ab 1=1 by decide+kernel] at n3;grind
  obtain⟨r1,r2⟩:=k5 z w hz hw (by grind) hB';rw[r1,ie_] at q3
  have:chi (sgE z S) (sgE w S)=chi (sgE z A) (sgE w A):=by
   have ez:=gj_ (q:=A) (r:=S) (x:=z) (c:=κ* evalP B z) (by rw[hm];grind);have ew:=gj_ (q:=A) (r:=S) (x:=w) (c:=κ* evalP B w) (by rw[hm];grind)
   have sg:(0< κ* evalP B z∧0< κ* evalP B w)∨(κ* evalP B z< 0∧κ* evalP B w< 0):=by
    rcases bt_ z B with⟨a1,a2⟩|⟨a1,a2⟩|⟨a1,a2⟩
    have a3:0< evalP B w:=by rcases bt_ w B with⟨_,g⟩|⟨g,_⟩|⟨g,_⟩<;> first|exact g|omega
    rcases flip κ hκ with g|g
    exact .inl ⟨Rat.mul_pos g a2,Rat.mul_pos g a3⟩;have:=Rat.mul_pos (show 0< -κ by grind) a2;have:=Rat.mul_pos (show 0< -κ by grind) a3;exact .inr ⟨by grind,by grind⟩;have a3:evalP B w< 0:=by rcases bt_ w B with⟨g,_⟩|⟨_,g⟩|⟨g,_⟩<;> first|exact g|omega
    rcases flip κ hκ with g|g
    have:=Rat.mul_pos g (show 0< -evalP B z by grind);have:=Rat.mul_pos g (show 0< -evalP B w by grind);exact .inr ⟨by grind,by grind⟩;have:=Rat.mul_pos (show 0< -κ by grind) (show 0< -evalP B z by grind);have:=Rat.mul_pos (show 0< -κ by grind) (show 0< -evalP B w by grind);exact .inl ⟨by grind,by grind⟩;exact absurd a1 r2
   rcases sg with⟨g1,g2⟩|⟨g1,g2⟩
   rw[ez.1 g1,ew.1 g2];rw[ez.2 g1,ew.2 g2,sN_]
  show _=_;omega
 omega
structure CN (p:List Rat)(c:Cnt):Prop where
 np:nz p
 pl:p.length≤7
 pb:bdL p 20
 hc:ek_ 9 p=some c
 ok:okCnt c
 cl:c.ch.length≤8
 all:∀q∈c.ch,nz q∧q.length≤7∧bdL q 20000000
 sn:nz c.p
 sl:c.p.length≤7
 sb:bdL c.p 140168
 sz:gsz 9 p (bz_ p) 20000
 gb:∀g,gcdM 9 p (bz_ p)=some g→bdL g 20000∧g.length≤1000
section
variable {f:Nat}{p:List Rat}{c:Cnt}(h:ek_ f p=some c)(hp:nz p)
include h hp
end
def ofQ(p m:List Rat):Nat→Rat
 |0=>0
 |n+1=>ofQ p m n+coP p n* coP m n
def gK(f:List Rat):Nat→List Rat
 |0=>f
 |k+1=>mulP (gK f k) [0,1]
def moQ(f:List Rat)(s:Sp)(k:Nat):Rat:=evalP (am_ (gK f k)) s.2- evalP (am_ (gK f k)) s.1
def okMo(f:List Rat)(s:Sp)(k:Nat):Prop:=smL (gK f k)∧(gK f k).length≤1000000∧dv_ (am_ (gK f k)) s.1∧dv_ (am_ (gK f k)) s.2∧okMul (gK f k) [0,1]
def sqL(sq:Nat→Rat)(n:Nat):List Rat:=(List.range n).map sq
@[simp] theorem sqL_length (sq:Nat→Rat)(n:Nat):(sqL sq n).length=n:=by simp[sqL]
def ofP(m p:List Rat):Rat:=ofQ (trimQ p) m (trimQ p).length
def okOf(m p:List Rat):Prop:=p.length≤1000000∧(trimQ p).length≤m.length∧(p.length+2) * (mxL p+mxL m+1)≤137438953472
instance (m p:List Rat):Decidable (okOf m p):=inferInstanceAs (Decidable (_∧_∧_))
def ldN(m p:List Rat):Rat:=ofP m (mulP p p)
def ldA(m p:List Rat):Rat:=ofP m (mulP (mulP p p) [0,1]) / ldN m p
def ldr(m:List Rat):Nat→List Rat×List Rat×Rat
 |0=>([1],[],0)
 |k+1=>(subP (mulP (ldr m k).1 [-ldA m (ldr m k).1,1]) (aN_ (ldr m k).2.1 (if k=0 then 0 else ldN m (ldr m k).1/ (ldr m k).2.2)),(ldr m k).1,ldN m (ldr m k).1)
def ldB(m:List Rat)(k:Nat):Rat:=if k=0 then 0 else ldN m (ldr m k).1/ (ldr m k).2.2
def ldAk(m:List Rat)(k:Nat):Rat:=ldA m (ldr m k).1
def okLd(m:List Rat)(k:Nat):Prop:=
 okMul (ldr m k).1 (ldr m k).1∧okOf m (mulP (ldr m k).1 (ldr m k).1)∧0< ldN m (ldr m k).1∧okMul (mulP (ldr m k).1 (ldr m k).1) [0,1]∧okOf m (mulP (mulP (ldr m k).1 (ldr m k).1) [0,1])∧
 qs (ofP m (mulP (mulP (ldr m k).1 (ldr m k).1) [0,1]))+qs (ldN m (ldr m k).1)≤549755813888∧qs (ldN m (ldr m k).1)+qs (ldr m k).2.2≤549755813888∧
 okMul (ldr m k).1 [-ldAk m k,1]∧(∀q∈(ldr m k).2.1,sm q)∧sm (ldB m k)∧(∀q∈mulP (ldr m k).1 [-ldAk m k,1],sm q)∧(∀q∈aN_ (ldr m k).2.1 (ldB m k),sm q)∧
 (ldr m k).2.1.length≤1099511627776∧(mulP (ldr m k).1 [-ldAk m k,1]).length≤1099511627776∧(aN_ (ldr m k).2.1 (ldB m k)).length≤1099511627776
instance (m:List Rat) (k:Nat):Decidable (okLd m k):=by unfold okLd;infer_instance
def okBs(g nx a c:List Rat):Prop:=okDiv g nx∧okMul (divP g nx).1 c∧(∀q∈a,sm q)∧(∀q∈mulP (divP g nx).1 c,sm q)∧a.length≤1099511627776∧(mulP (divP g nx).1 c).length≤1099511627776
instance (g nx a c:List Rat):Decidable (okBs g nx a c):=by unfold okBs;infer_instance
def bzG(g:List Rat):List Rat:=aN_ g (((1:Int):Rat) / leadP g)
def bzA(q g a:List Rat):List Rat:=(divP (aN_ a (((1:Int):Rat) / leadP g)) (divP q (bzG g)).1).2
def okBz(p q g a:List Rat):Prop:=
 trimQ g≠[]∧g.length≤1099511627776∧a.length≤1099511627776∧(∀x∈g,sm x)∧(∀x∈a,sm x)∧qs (leadP g)≤68719476736∧okDiv q (bzG g)∧trimQ (bzG g)≠[]∧
 okDiv (aN_ a (((1:Int):Rat) / leadP g)) (divP q (bzG g)).1∧trimQ (divP q (bzG g)).1≠[]∧okMul (bzA q g a) p∧(∀x∈bzG g,sm x)∧(∀x∈mulP (bzA q g a) p,sm x)∧
 (bzG g).length≤1099511627776∧(mulP (bzA q g a) p).length≤1099511627776∧okDiv (subP (bzG g) (mulP (bzA q g a) p)) q
instance (p q g a:List Rat):Decidable (okBz p q g a):=by unfold okBz;infer_instance
def tpV(p m:List Rat)(i:Nat):Nat→Rat
 |0=>0
 |j+1=>if i< j then tpV p m i j+coP p j* coP m (j- 1- i) else tpV p m i j
def tpQ(p m:List Rat):List Rat:=tabP (p.length- 1) fun i=>tpV p m i p.length
def apR(p w f:List Rat):List Rat:=(divP (mulP w (divP f p).2) p).2
def nwA(T:List Rat)(n:Nat)(out:List Rat)(k:Nat):Nat→Rat
 |0=>coP T (n- k) * ((k:Int):Rat)
 |i+1=>nwA T n out k i+coP T (n- (i+1)) * coP out (k- (i+1))
def suL(T:List Rat)(n:Nat):Nat→List Rat
 |0=>[((n:Int):Rat)]
 |k+1=>suL T n k++[-(nwA T n (suL T n k) (k+1) k)]
def okSu(T:List Rat)(n k:Nat):Prop:=qs (coP T (n- (k+1)))+qs (((k+1:Nat):Int):Rat)≤549755813888∧
 ∀i,i< k→qs (coP T (n- (i+1)))+qs (coP (suL T n k) (k+1- (i+1)))≤549755813888∧qs (nwA T n (suL T n k) (k+1) i)+qs (coP T (n- (i+1)) * coP (suL T n k) (k+1- (i+1)))≤549755813888
def krS(e m:List Rat)(k:Nat):Nat→Rat
 |0=>0
 |j+1=>krS e m k j+coP e j* coP m (j+k)
def krE(m:List Rat)(n:Nat):Nat→List Rat
 |0=>List.replicate (n+1) 0++[((1:Int):Rat)]
 |k+1=>(krE m n k).set (n- k) (-(krS (krE m n k) m k (n+2) / coP m n))
def okKr(m:List Rat)(n k:Nat):Prop:=(∀j,j< n+2→qs (coP (krE m n k) j)+qs (coP m (j+k))≤549755813888∧qs (krS (krE m n k) m k j)+qs (coP (krE m n k) j* coP m (j+k))≤549755813888)∧
 qs (krS (krE m n k) m k (n+2))+qs (coP m n)≤549755813888
end Go.Abs
