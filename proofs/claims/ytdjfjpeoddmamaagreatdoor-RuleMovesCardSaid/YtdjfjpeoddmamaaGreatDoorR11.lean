/- Part R11 of the proof. -/
import Derived.Test.YtdjfjpeoddmamaaGreatDoorR10
set_option linter.all false
namespace Go.Abs
structure Lin (φ:List Rat→Rat):Prop where
 eqv:∀{p q},Eqv p q→φ p=φ q
 add:∀p q,φ (addP p q)=φ p+φ q
 scale:∀p k,φ (ay_ p k)=φ p* k
theorem Lin.zero{φ:List Rat→Rat}(H:Lin φ):φ []=0:=by
 have h:=H.scale [] 0
 rw[H.eqv (p:=ay_ [] 0) (q:=[]) fun x=>by rw[ar_,az_];grind] at h
 rw[h];grind
theorem lin_it(a b:Rat):Lin (itP a b):=⟨fun h=>il_ h a b,oz_ a b,d2_ a b⟩
theorem Lin.ofQ{φ:List Rat→Rat}(H:Lin φ){m:List Rat}{N:Nat}(hm:∀i,i< N→coP m i=φ (gK [1] i))(p:List Rat):∀n,n≤N→n≤p.length→ofQ p m n=φ (p.take n)
 |0,_,_=>H.zero.symm
 |n+1,h1,h2=>by
  rw[Go.Abs.ofQ,Lin.ofQ H hm p n (by omega) (by omega),hm n (by omega),H.eqv (p:=p.take (n+1)) (q:=addP (p.take n) (ay_ (gK [1] n) (coP p n))) (fun x=>by
   rw[c8_ _ _ _ (by omega),a7_,ar_,fh_];grind),H.add,H.scale]
  grind
theorem md_lin{p q r N:List Rat}{u v:Rat}(hN:nz N)(h:∀x,evalP r x=evalP p x* u+evalP q x* v):∀x,evalP (md r N) x=evalP (md p N) x* u+evalP (md q N) x* v:=by
 obtain⟨a1,a2⟩:=cf_ p hN
 obtain⟨b1,b2⟩:=cf_ q hN
 have hl:∀w:List Rat,(nz w→dg w< dg N)→∀i,dg N≤i→coP w i=0:=fun w hw i hi=>by
  by_cases h:nz w
  exact(bC_ h).1.2 i (by have:=hw h;omega)
  exact trim_nil_iff.1 (Classical.not_not.1 h) i
 have:=dB_ (p:=r) (q:=N) (u:=addP (ay_ (divP p N).1 u) (ay_ (divP q N).1 v)) (v:=addP (ay_ (md p N) u) (ay_ (md q N) v)) hN (fun x=>by
  rw[h,a1,b1,a7_,a7_,ar_,ar_,ar_,ar_];grind) (fun hz=>by
   refine Nat.lt_of_not_le fun hle=>?_
   have h1:=(bC_ hz).1.1
   rw[dm_,bc_,bc_,hl _ a2 _ hle,hl _ b2 _ hle] at h1
   exact h1 (by grind))
 intro x
 rw[this,a7_,ar_,ar_]
def trP(N g:List Rat):Rat:=coP (md (mulP g (ao_ N)) N) (dg N- 1)
theorem or_{N:List Rat}(hN:nz N):Lin (trP N) where
 eqv {p q} h:=by
  unfold trP
  rw[md_eqv (p:=mulP p (ao_ N)) (p':=mulP q (ao_ N)) (q:=N) (q':=N) (fun x=>by rw[aq_,aq_,h]) fun _=>rfl]
 add p q:=by
  have h:=md_lin (p:=mulP p (ao_ N)) (q:=mulP q (ao_ N)) (r:=mulP (addP p q) (ao_ N)) (u:=1) (v:=1) hN fun x=>by rw[aq_,aq_,aq_,a7_];grind
  have e:Eqv (md (mulP (addP p q) (ao_ N)) N) (addP (md (mulP p (ao_ N)) N) (md (mulP q (ao_ N)) N)):=fun x=>by rw[h,a7_];grind
  unfold trP
  rw[trim_iff.1 (eqv_trim.1 e),dm_]
 scale p k:=by
  have h:=md_lin (p:=mulP p (ao_ N)) (q:=[]) (r:=mulP (ay_ p k) (ao_ N)) (u:=k) (v:=0) hN fun x=>by rw[aq_,aq_,ar_];grind
  have e:Eqv (md (mulP (ay_ p k) (ao_ N)) N) (ay_ (md (mulP p (ao_ N)) N) k):=fun x=>by rw[h,ar_];grind
  unfold trP
  rw[trim_iff.1 (eqv_trim.1 e),bc_]
theorem trP_md{N g h u:List Rat}(hN:nz N)(e:∀x,evalP g x=evalP u x* evalP N x+evalP h x):trP N g=trP N h:=by
 unfold trP
 refine trim_iff.1 (eqv_trim.1 (md_add (u:=mulP u (ao_ N)) hN fun x=>?_)) _
 rw[aq_,aq_,aq_,e];grind
def eL(N:List Rat):Nat→List Rat
 |0=>ao_ N
 |k+1=>subP (mulP (eL N k) [0,1]) (ay_ N (coP (eL N k) (dg N- 1)))
def sL(N:List Rat)(k:Nat):Rat:=coP (eL N k) (dg N- 1)
theorem coP_x(p:List Rat)(j:Nat):coP (mulP p [0,1]) j=lag p j:=by rw[coP_line];grind
theorem eL_mod(N:List Rat):∀k,∃u,∀x,evalP (mulP (gK [1] k) (ao_ N)) x=evalP u x* evalP N x+evalP (eL N k) x
 |0=>⟨[],fun x=>by rw[aq_,fh_,az_];show x^ 0* _=_+evalP (ao_ N) x;rw[Rat.pow_zero];grind⟩
 |k+1=>by
  obtain⟨u,hu⟩:=eL_mod N k
  refine⟨addP (mulP u [0,1]) (bT_ (coP (eL N k) (dg N- 1))),fun x=>?_⟩
  have h:=hu x
  rw[aq_,fh_] at h
  rw[aq_,fh_,eL,bp_,aq_,ar_,be_,a7_,aq_,be_,d4_,Rat.pow_succ]
  grind
theorem eL_deg{N:List Rat}(hN:nz N)(hm:leadP N=1)(h1:1≤dg N):∀k i,dg N≤i→coP (eL N k) i=0
 |0,i,hi=>by rw[eL,bl_,(bC_ hN).1.2 (i+1) (by omega)];grind
 |k+1,i,hi=>by
  rw[eL,ge_,coP_x,bc_]
  cases i with
  |zero=>omega
  |succ i=>
   show coP (eL N k) i- _=0
   by_cases hd:dg N=i+1
   rw[←hd,(bC_ hN).2,hm,hd,Nat.add_sub_cancel];grind
   rw[eL_deg hN hm h1 k i (by omega),(bC_ hN).1.2 (i+1) (by omega)];grind
theorem md_eL{N:List Rat}(hN:nz N)(hm:leadP N=1)(h1:1≤dg N)(k:Nat):Eqv (md (mulP (gK [1] k) (ao_ N)) N) (eL N k):=by
 obtain⟨u,hu⟩:=eL_mod N k
 refine dB_ hN hu fun hz=>Nat.lt_of_not_le fun hle=>(bC_ hz).1.1 (eL_deg hN hm h1 k _ hle)
theorem trP_pow{N:List Rat}(hN:nz N)(hm:leadP N=1)(h1:1≤dg N)(k:Nat):trP N (gK [1] k)=sL N k:=
 trim_iff.1 (eqv_trim.1 (md_eL hN hm h1 k)) _
theorem n0_{N:List Rat}(hN:nz N)(hm:leadP N=1){k:Nat}(hk:k< dg N){S:List Rat}(hS:∀j,j< k→coP S j=sL N j)(hk0:k≠0):sL N k= -(nwA N (dg N) S k (k- 1)):=by
 have key:∀i,i≤k- 1→coP (eL N k) (dg N- 1)=coP (eL N (k- i)) (dg N- 1- i)- (nwA N (dg N) S k i- coP N (dg N- k) * ((k:Int):Rat)):=fun i=>by
  induction i with
  |zero=>intro _;rw[nwA];show coP (eL N k) (dg N- 1)=coP (eL N k) (dg N- 1)- _;grind
  |succ i ih=>
   intro hi
   rw[ih (by omega),nwA,hS (k- (i+1)) (by omega),show k- i=(k- (i+1))+1 by omega,show dg N- 1- i=(dg N- 1- (i+1))+1 by omega,eL,ge_,coP_x,bc_]
   show coP (eL N (k- (i+1))) (dg N- 1- (i+1))- coP N (dg N- 1- (i+1)+1) * sL N (k- (i+1))- _=_
   rw[show dg N- 1- (i+1)+1=dg N- (i+1) by omega]
   grind
 have h:=key (k- 1) (Nat.le_refl _)
 rw[show k- (k- 1)=0+1 by omega,show dg N- 1- (k- 1)=(dg N- 1- k)+1 by omega,eL,ge_,coP_x,bc_] at h
 have h2:coP (eL N k) (dg N- 1)=coP (ao_ N) (dg N- 1- k)- coP N (dg N- 1- k+1) * coP (ao_ N) (dg N- 1)- (nwA N (dg N) S k (k- 1)- coP N (dg N- k) * ((k:Int):Rat)):=h
 unfold sL
 rw[h2,bl_,bl_,show dg N- 1+1=dg N by omega,(bC_ hN).2,hm,show dg N- 1- k+1=dg N- k by omega]
 have e:((dg N:Int):Rat)=(((dg N- k:Nat):Int):Rat)+((k:Int):Rat):=by
  rw[←Rat.intCast_add];congr 1;omega
 rw[e];grind
theorem nv_(a b:List Rat)(j:Nat):coP (a++b) j=if j< a.length then coP a j else coP b (j- a.length):=by
 unfold coP
 rw[List.getD_eq_getElem?_getD,List.getD_eq_getElem?_getD,List.getD_eq_getElem?_getD,List.getElem?_append]
 split <;> rfl
theorem suL_sL{N:List Rat}(hN:nz N)(hm:leadP N=1)(ht:trimQ N=N):∀k,k< dg N→∀j,j≤k→coP (suL N (dg N) k) j=sL N j
 |0,hk,j,hj=>by
  have:j=0:=by omega
  subst this
  show((dg N:Int):Rat)=coP (ao_ N) (dg N- 1)
  rw[bl_,show dg N- 1+1=dg N by omega,(bC_ hN).2,hm];grind
 |k+1,hk,j,hj=>by
  have ih:=suL_sL hN hm ht k (by omega)
  rw[suL,nv_,cK_]
  by_cases h:j< k+1
  rw[if_pos h];exact ih j (by omega)
  have:j=k+1:=by omega
  subst this
  rw[if_neg h,Nat.sub_self]
  show -(nwA N (dg N) (suL N (dg N) k) (k+1) k)=_
  rw[n0_ hN hm hk (S:=suL N (dg N) k) (fun j hj=>ih j (by omega)) (by omega)]
  rfl
theorem apply_tr{N W f:List Rat}(hN:nz N)(hm:leadP N=1)(ht:trimQ N=N)(h1:1≤dg N):ofQ (apR N W f) (suL N (dg N) (dg N- 1)) (apR N W f).length=trP N (mulP W f):=by
 have hs1:=cf_ f hN
 have hs2:=cf_ (mulP W (divP f N).2) hN
 have hlen:(apR N W f).length≤dg N:=by
  have:(trimQ (apR N W f)).length< (trimQ N).length:=(bS_ _ N hN).2
  have e:trimQ (apR N W f)=apR N W f:=(dX_ _ N).2
  rw[e] at this
  unfold dg;omega
 rw[(or_ hN).ofQ (N:=dg N) (fun i hi=>by rw[trP_pow hN hm h1,suL_sL hN hm ht (dg N- 1) (by omega) i (by omega)]) _ _ hlen (Nat.le_refl _),List.take_length]
 refine((trP_md (u:=addP (divP (mulP W (divP f N).2) N).1 (mulP W (divP f N).1)) hN fun x=>?_):trP N (mulP W f)=_).symm
 have e1:=hs1.1 x
 have e2:=hs2.1 x
 unfold md at e1 e2
 rw[aq_] at e2
 rw[aq_,a7_,aq_]
 show _=_+evalP (apR N W f) x
 unfold apR
 rw[e1]
 grind
theorem dl_(u v:Rat):∀l:List Rat,(compP [u,v] l).length≤l.length
 |[]=>Nat.le_refl _
 |a::l=>by
  have h:=dl_ u v l
  show(addP (mulP (compP [u,v] l) [u,v]) (bT_ a)).length≤l.length+1
  have g1:=f1_ (mulP (compP [u,v] l) [u,v]) (bT_ a)
  have g2:=iy_ a
  have g3:=mulP_line_len' (compP [u,v] l) u v
  omega
theorem hO_(p:List Rat)(u v:Rat)(n:Nat):coP (mulP p [u,v]) n=coP p n* u+lag p n* v:=by
 have e:trimQ (mulP p [u,v])=trimQ (mulP [u,v] p):=eM_ fun x=>by rw[aq_,aq_];grind
 rw[trim_iff.1 e n,fl_]
 show coP (addL (dF_ p u) (0::addL (dF_ p v) (0::[]))) n=_
 rw[cv_,b8_]
 cases n with
 |zero=>rw[cu_];show _=_+0* v;grind
 |succ m=>
  rw[bM_,cv_,b8_]
  have:coP [(0:Rat)] m=0:=by cases m <;> rfl
  rw[this];show _+(coP p m* v+0)=_+coP p m* v;grind
theorem ji_(u v:Rat):∀(n:Nat) (l:List Rat),l.length≤n+1→coP (compP [u,v] l) n=v^ n* coP l n
 |_,[],_=>by show(0:Rat)=_* 0;grind
 |0,a::l,h=>by
  have:l=[]:=List.length_eq_zero_iff.1 (by simpa using h)
  subst this
  show coP (addP (mulP (compP [u,v] []) [u,v]) (bT_ a)) 0=_
  rw[dm_,hP_,hO_,if_pos rfl,Rat.pow_zero]
  show(0:Rat) * u+0* v+a=1* a
  grind
 |n+1,a::l,h=>by
  have hl:l.length≤n+1:=by simpa using h
  show coP (addP (mulP (compP [u,v] l) [u,v]) (bT_ a)) (n+1)=_
  rw[dm_,hP_,hO_,if_neg (by omega),b9_ (Nat.le_trans (dl_ u v l) (by omega):(compP [u,v] l).length≤n+1)]
  show 0* u+coP (compP [u,v] l) n* v+0=v^ (n+1) * coP l n
  rw[ji_ u v n l hl,Rat.pow_succ];grind
theorem trP_comp{N N':List Rat}{u v κ:Rat}(hN:nz N)(hv:v≠0)(hκ:κ=v^ dg N)(h1:1≤dg N)(h:∀x,evalP N (u+v* x)=κ* evalP N' x)(hN':nz N')(hd:dg N'=dg N)(g:List Rat):trP N' (compP [u,v] g)=trP N g:=by
 have hs:=cf_ (mulP g (ao_ N)) hN
 have hκ0:κ≠0:=by rw[hκ];exact ih_ hv _
 have hdv:∀x,dvE N (u+v* x) * v=κ* dvE N' x:=fun x=>by
  have h1:=gQ_ [u,v] x N
  have h2:=dvE_k (p:=N') (r:=compP [u,v] N) (k:=κ) (fun x=>by rw[a5_,be_,h];grind) x
  rw[be_,ph_] at h1
  rw[←h1,h2];grind
 obtain⟨R,hR⟩:∃R,R=md (mulP g (ao_ N)) N:=⟨_,rfl⟩
 rw[←hR] at hs
 have hRl:R.length≤dg N:=by
  have a:(trimQ R).length< (trimQ N).length:=by rw[hR];exact(bS_ _ N hN).2
  have b:trimQ R=R:=by rw[hR];exact(dX_ _ N).2
  rw[b] at a;unfold dg;omega
 have hm:Eqv (md (mulP (compP [u,v] g) (ao_ N')) N') (ay_ (compP [u,v] R) (v/ κ)):=dB_ (u:=ay_ (compP [u,v] (divP (mulP g (ao_ N)) N).1) v) hN' (fun x=>by
  have h2:=hs.1 (u+v* x)
  have h3:=hdv x
  rw[aq_,a1_,h] at h2
  rw[aq_,a5_,be_,a1_,ar_,ar_,a5_,a5_,be_]
  generalize evalP g (u+v* x)=a at *
  generalize dvE N (u+v* x)=b at *
  generalize dvE N' x=b' at *
  generalize evalP N' x=c at *
  generalize evalP (divP (mulP g (ao_ N)) N).1 (u+v* x)=d at *
  generalize evalP R (u+v* x)=w at *
  have:b'=b* v/ κ:=by rw[h3];grind
  rw[this]
  grind) (fun hz=>Nat.lt_of_not_le fun hle=>(bC_ hz).1.1 (by
   rw[bc_,b9_ (Nat.le_trans (dl_ u v R) (by omega))];grind))
 unfold trP
 rw[trim_iff.1 (eqv_trim.1 hm),bc_,hd,ji_ u v (dg N- 1) R (by omega),←hR,hκ]
 have:v^ dg N=v^ (dg N- 1) * v:=by rw[←Rat.pow_succ];congr 1;omega
 rw[this]
 have:=ih_ hv (dg N- 1)
 generalize v^ (dg N- 1)=z at *
 grind
theorem nz_line(r:Rat):nz [-r,1]∧dg [-r,1]=1:=by
 have h:=eG_ (p:=[-r,1]) (n:=1) ⟨by show(1:Rat)≠0;decide+kernel,fun i hi=>b9_ (by simp;omega)⟩
 exact⟨h.1,h.2.1⟩
theorem cancel{X Y:List Rat}{r:Rat}(h:∀x,evalP X x* (x- r)=evalP Y x* (x- r)):Eqv X Y:=by
 have hz:¬nz (subP X Y):=fun hz=>by
  have h2:=(pp_ hz (nz_line r).1).1
  refine h2 (trim_nil_iff.2 (gx_ fun x=>?_))
  have:=h x
  rw[aq_,bp_,be_];grind
 intro x
 have:=dH_ hz x
 rw[bp_] at this;grind
def gJ(m:List Rat):Nat→List Rat
 |0=>[]
 |j+1=>coP m j::gJ m j
theorem coP_gJ(m:List Rat):∀j i,coP (gJ m j) i=if i< j then coP m (j- 1- i) else 0
 |0,i=>by rw[if_neg (by omega)];rfl
 |j+1,0=>by rw[if_pos (by omega)];rfl
 |j+1,i+1=>by
  show coP (gJ m j) i=_
  rw[coP_gJ m j i]
  by_cases h:i< j
  rw[if_pos h,if_pos (by omega)];congr 1;omega
  rw[if_neg h,if_neg (by omega)]
def tL(p m:List Rat):Nat→List Rat
 |0=>[]
 |j+1=>addL (tL p m j) (dF_ (gJ m j) (coP p j))
theorem coP_tL(p m:List Rat)(i:Nat):∀j,coP (tL p m j) i=tpV p m i j
 |0=>rfl
 |j+1=>by
  rw[tL,cv_,b8_,coP_tL p m i j,coP_gJ,tpV]
  by_cases h:i< j
  rw[if_pos h,if_pos h];grind
  rw[if_neg h,if_neg h];grind
theorem nI_(p m:List Rat)(i:Nat):∀j,j≤i+1→tpV p m i j=0
 |0,_=>rfl
 |j+1,h=>by rw[tpV,if_neg (by omega),nI_ p m i j (by omega)]
theorem pc_(p m:List Rat)(x:Rat):evalP (tpQ p m) x=evalP (tL p m p.length) x:=ci_ (fun i=>by
 unfold tpQ
 rw[hN_,coP_tL]
 by_cases h:i< p.length- 1
 rw[if_pos h]
 rw[if_neg h,nI_ _ _ _ _ (by omega)]) x
def GL(x:Rat):Nat→List Rat
 |0=>[]
 |j+1=>addP (ay_ (GL x j) x) (gK [1] j)
theorem pL_(x t:Rat):∀j,evalP (GL x j) t* (t- x)=t^ j- x^ j
 |0=>by show(0:Rat) * _=_;rw[Rat.pow_zero,Rat.pow_zero];grind
 |j+1=>by
  have:=pL_ x t j
  rw[GL,a7_,ar_,fh_,Rat.pow_succ,Rat.pow_succ];grind
theorem nK_{φ:List Rat→Rat}(H:Lin φ){m:List Rat}{N:Nat}(hm:∀i,i< N→coP m i=φ (gK [1] i))(p:List Rat)(hp:p.length≤N+1)(x:Rat):evalP (tpQ p m) x=φ (synD p x):=by
 have hG:∀j,j≤N→φ (GL x j)=evalP (gJ m j) x:=fun j=>by
  induction j with
  |zero=>intro _;exact H.zero
  |succ j ih=>intro hj;rw[GL,H.add,H.scale,ih (by omega),←hm j (by omega),gJ,ap_]
 have key:∀j,j≤p.length→φ (synD (p.take j) x)=evalP (tL p m j) x:=fun j=>by
  induction j with
  |zero=>intro _;exact H.zero
  |succ j ih=>
   intro hj
   rw[H.eqv (p:=synD (p.take (j+1)) x) (q:=addP (synD (p.take j) x) (ay_ (GL x j) (coP p j))) (cancel (r:=x) fun t=>by
    have a1:=dD_ (p.take (j+1)) x t
    have a2:=dD_ (p.take j) x t
    have a3:=pL_ x t j
    rw[c8_ _ _ _ (by omega),c8_ _ _ _ (by omega)] at a1
    rw[a7_,ar_]
    generalize evalP (synD (p.take (j+1)) x) t=w1 at *
    generalize evalP (synD (p.take j) x) t=w2 at *
    generalize evalP (GL x j) t=w3 at *
    grind),H.add,H.scale,ih (by omega),hG j (by omega),tL,dO_,cY_]
 rw[pc_,←key p.length (Nat.le_refl _),List.take_length]
theorem Mv.top{m m0:List Rat}{c r:Rat}{N:Nat}(H:Mv m m0 c r N){p p0:List Rat}{κ:Rat}(hp:p.length≤N+1)(hp0:p0.length≤N+1)(e:∀y,evalP p (c+r* y)=κ* evalP p0 y)(y:Rat):evalP (tpQ p m) (c+r* y)=κ* evalP (tpQ p0 m0) y:=by
 rw[nK_ (lin_it _ _) H.h p hp,nK_ (lin_it _ _) H.h0 p0 hp0,oy_,il_ (p:=compP [c,r] (synD p (c+r* y))) (q:=ay_ (synD p0 y) (κ/ r)) (cancel (r:=y) fun t=>by
  have a1:=dD_ p (c+r* y) (c+r* t)
  have a2:=dD_ p0 y t
  have h0:=H.r0
  rw[e,e] at a1
  rw[a5_,be_,ar_]
  generalize evalP (synD p (c+r* y)) (c+r* t)=w1 at *
  generalize evalP (synD p0 y) t=w2 at *
  have:w1* (t- y) * r=κ* (w2* (t- y)):=by grind
  generalize w1* (t- y)=z at *
  have:z=κ* (w2* (t- y)) / r:=by rw[←this];exact(Rat.mul_div_cancel h0).symm
  rw[this];grind),d2_]
 have h0:=H.r0
 generalize itP (-1) 1 (synD p0 y)=z
 grind
theorem wt_uniq {N T W V A B:List Rat} (hN:nz N) (hco:∀x,evalP A x* evalP N x+evalP B x* dvE N x=1) (hW:∃z,∀x,evalP W x* dvE N x=evalP T x+evalP z x* evalP N x) (hV:∃z,∀x,evalP V x* dvE N x=evalP T x+evalP z x* evalP N x)
    (dW:nz W→dg W< dg N) (dV:nz V→dg V< dg N):Eqv W V:=by
 obtain⟨z,hz⟩:=hW
 obtain⟨z',hz'⟩:=hV
 have h1:=dB_ (p:=W) (u:=addP (mulP A (subP W V)) (mulP B (subP z z'))) hN (fun x=>by
  have a:=hz x
  have b:=hz' x
  have c:=hco x
  rw[a7_,aq_,aq_,bp_,bp_]
  generalize evalP W x=w at *
  generalize evalP V x=v at *
  generalize dvE N x=d at *
  generalize evalP N x=n at *
  generalize evalP T x=t at *
  have e1:(w- v) * d=(evalP z x- evalP z' x) * n:=by grind
  have e2:(w- v) * (evalP A x* n+evalP B x* d)=w- v:=by rw[c];grind
  have e3:evalP B x* ((w- v) * d)=evalP B x* ((evalP z x- evalP z' x) * n):=by rw[e1]
  grind) dV
 have h2:=md_less hN dW
 intro x
 rw[←h2,h1]
theorem wt_spec{N T iv:List Rat}(hN:nz N){w:List Rat}(h:∀x,evalP iv x* dvE N x=1+evalP w x* evalP N x):(∃z,∀x,evalP (divP (mulP T iv) N).2 x* dvE N x=evalP T x+evalP z x* evalP N x)∧(nz (divP (mulP T iv) N).2→dg (divP (mulP T iv) N).2< dg N):=by
 obtain⟨m1,m2⟩:=cf_ (mulP T iv) hN
 refine⟨⟨subP (mulP T w) (mulP (divP (mulP T iv) N).1 (ao_ N)),fun x=>?_⟩,m2⟩
 have a:=m1 x
 have b:=h x
 unfold md at a
 rw[aq_] at a
 rw[bp_,aq_,aq_,a1_]
 generalize evalP (divP (mulP T iv) N).2 x=u at *
 generalize evalP (divP (mulP T iv) N).1 x=k at *
 generalize evalP iv x=i at *
 generalize dvE N x=d at *
 have e:evalP T x* (i* d)=evalP T x* (1+evalP w x* evalP N x):=by rw[b]
 have e2:evalP T x* i* d=(k* evalP N x+u) * d:=by rw[a]
 grind
def bN:Nat→List Rat
 |1=>[0,1]
 |2=>[mkRat (-1) 3,0,1]
 |3=>[0,mkRat (-3) 5,0,1]
 |4=>[mkRat 3 35,0,mkRat (-6) 7,0,1]
 |_=>[1]
def bWt:Nat→List Rat
 |1=>[2]
 |2=>[1]
 |3=>[mkRat 8 9,0,mkRat (-5) 9]
 |4=>[mkRat 17 24,0,mkRat (-35) 72]
 |_=>[]
def bA:Nat→List Rat
 |2=>[-3]
 |3=>[0,mkRat (-25) 2]
 |4=>[mkRat 35 3,0,mkRat (-1225) 24]
 |_=>[]
def bB:Nat→List Rat
 |1=>[1]
 |2=>[0,mkRat 3 2]
 |3=>[mkRat (-5) 3,0,mkRat 25 6]
 |4=>[0,mkRat (-805) 96,0,mkRat 1225 96]
 |_=>[]
def bX(k i:Nat):Rat:=
 if i=0 then -1 else if i=k then 1 else if k=2 then 0 else if i=1 then mkRat (-1) 2 else if k=4∧i=2 then 0 else mkRat 1 2
def m0K(k:Nat):List Rat:=sqL (moQ [1] (-1,1)) (2* k)
def baseC(k:Nat):Prop:=
 (∀j,j< k+1→(ldr (m0K k) j).1=bN j)∧(∀j,j< k→0< ldN (m0K k) (ldr (m0K k) j).1)∧(bN k).length=k+1∧coP (bN k) k=1∧addP (mulP (bA k) (bN k)) (mulP (bB k) (ao_ (bN k)))=[1]∧
 (divP (subP (mulP (bWt k) (ao_ (bN k))) (tpQ (bN k) (m0K k))) (bN k)).2=[]∧(bWt k).length≤k∧(∀i,i< k→bX k i< bX k (i+1))∧(∀i,i< k→evalP (bN k) (bX k i) * evalP (bN k) (bX k (i+1))< 0)∧
 (∀j,j< k+1→bdL (bN j) 8∧(bN j).length≤5)∧bdL (bWt k) 8
instance (k:Nat):Decidable (baseC k):=by unfold baseC;infer_instance
theorem fo_(k:Nat)(h:1≤k∧k≤4):baseC k:=by
 have:k=1∨k=2∨k=3∨k=4:=by omega
 rcases this with rfl|rfl|rfl|rfl
 decide+kernel
 decide+kernel
 decide+kernel
 decide+kernel
theorem jf_(u v:Rat)(s t:Nat)(hs:1≤s)(hu:qs u≤t)(hv:qs v≤t)(ht:1≤t)(hlim:8* (256* (s+2* t+4)+t+2)+1≤137438953472):∀l:List Rat,l.length≤8→bdL l s→
    fx_ [u,v] l∧bdL (compP [u,v] l) (2^ l.length* (s+2* t+4)- (s+2* t+2))
 |[],_,_=>⟨trivial,(fun q hq=>by cases hq)⟩
 |a::l,hl,hb=>by
  have hl':l.length≤7:=by simpa using hl
  obtain⟨h1,h2⟩:=jf_ u v s t hs hu hv ht hlim l (by omega) fun q hq=>hb q (List.mem_cons_of_mem _ hq)
  have h3:=dl_ u v l
  have ha:=hb a (List.mem_cons_self ..)
  have hp1:1≤2^ l.length:=Nat.one_le_two_pow
  have hp2:2^ l.length≤2^ 7:=Nat.pow_le_pow_right (by decide) hl'
  obtain⟨W,hW⟩:∃W,W=2^ l.length:=⟨_,rfl⟩
  obtain⟨e,he⟩:∃e,e=s+2* t+4:=⟨_,rfl⟩
  rw[←hW,←he] at h2
  rw[←hW] at hp1 hp2
  have hWu:e≤W* e:=by have:=Nat.mul_le_mul_right e hp1;omega
  have hWu2:W* e≤128* e:=Nat.mul_le_mul_right e hp2
  have hB:1≤W* e- (s+2* t+2):=by omega
  have hmx:=bi_ h2 hB
  have hmc:mxL [u,v]≤t:=bi_ (fun q hq=>by
   rcases List.mem_cons.1 hq with rfl|hq
   exact hu
   rw[List.mem_singleton.1 hq];exact hv) ht
  have hml:=mulP_line_len' (compP [u,v] l) u v
  have hok:okMul (compP [u,v] l) [u,v]:=by
   have h5:(compP [u,v] l).length* (mxL (compP [u,v] l)+mxL [u,v]+1)≤8* (256* e+t+2):=Nat.mul_le_mul (by omega) (by omega)
   exact⟨by omega,by omega,by omega,by simp⟩
  refine⟨⟨h1,hok,by unfold sm;omega,by omega⟩,?_⟩
  show bdL (addP (mulP (compP [u,v] l) [u,v]) (bT_ a)) _
  have g1:bdL (mulP (compP [u,v] l) [u,v]) (2* (W* e- (s+2* t+2))+2* t+1):=ee_ fun i=>by
   rw[hO_]
   have a1:=bz_ h2 hB i
   have a2:qs (lag (compP [u,v] l) i)≤W* e- (s+2* t+2):=by
    cases i with
    |zero=>exact Nat.le_trans (by decide:qs 0≤1) hB
    |succ m=>exact bz_ h2 hB m
   have a3:=cd_ (coP (compP [u,v] l) i) u
   have a4:=cd_ (lag (compP [u,v] l) i) v
   have a5:=el_ (coP (compP [u,v] l) i* u) (lag (compP [u,v] l) i* v)
   omega
  have g2:bdL (bT_ a) s:=fun q hq=>by
   have:=a9_ (l:=[a]) hq
   rw[List.mem_singleton.1 this];exact ha
  have g3:=addP_bd g1 g2 (by omega) hs
  intro q hq
  have:=g3 q hq
  rw[List.length_cons,Nat.pow_succ,←hW,←he,Nat.mul_right_comm]
  omega
def mAB(a b:Rat)(k:Nat):List Rat:=sqL (moQ [1] (a,b)) (2* k)
def gN(a b:Rat)(k:Nat):List Rat:=(ldr (mAB a b k) k).1
def cAB(a b:Rat):Rat:=(a+b) / 2
def rAB(a b:Rat):Rat:=(b- a) / 2
def gW(a b:Rat)(k:Nat):List Rat:=trimQ (ay_ (compP [-(cAB a b/ rAB a b),1/ rAB a b] (bWt k)) (rAB a b))
theorem hb_{a b:Rat}(h:a< b):0< rAB a b:=by
 unfold rAB
 have:=Rat.mul_pos (show 0< b- a by grind) (show(0:Rat)< 1/ 2 by decide+kernel)
 grind
theorem g_mv{a b:Rat}(h:a< b)(k:Nat):Mv (mAB a b k) (m0K k) (cAB a b) (rAB a b) (2* k) where
 r0:=fun e=>by have:=hb_ h;grind
 h i hi:=by
  unfold mAB
  rw[pu_ _ _ _ hi]
  show itP a b _=_
  rw[show cAB a b- rAB a b=a by unfold cAB rAB;grind,show cAB a b+rAB a b=b by unfold cAB rAB;grind]
 h0 i hi:=by
  unfold m0K
  rw[pu_ _ _ _ hi]
  rfl
theorem mh_(m:List Rat):∀k,trimQ (ldr m k).1=(ldr m k).1
 |0=>by show trimQ [1]=[1];decide+kernel
 |k+1=>aS_ _
section
variable {a b:Rat}(h:a< b){k:Nat}(hk:1≤k∧k≤4)
include h hk
theorem dC_{j:Nat}(hj:j≤k)(y:Rat):evalP (ldr (mAB a b k) j).1 (cAB a b+rAB a b* y)=rAB a b^ j* evalP (bN j) y:=by
 obtain⟨b1,b2,_⟩:=fo_ k hk
 have:=((g_mv h k).ldr j (by omega) fun i hi e=>by have:=b2 i (by omega);rw[e] at this;exact absurd this (by decide+kernel)).1 y
 rw[b1 j (by omega)] at this
 exact this
theorem g_list{j:Nat}(hj:j≤k):(ldr (mAB a b k) j).1=trimQ (ay_ (compP [-(cAB a b/ rAB a b),1/ rAB a b] (bN j)) (rAB a b^ j)):=by
 rw[←mh_]
 refine eqv_trim.1 fun x=>?_
 have h0:=(g_mv h k).r0
 have:=dC_ h hk hj ((x- cAB a b) / rAB a b)
 rw[show cAB a b+rAB a b* ((x- cAB a b) / rAB a b)=x by generalize cAB a b=c at *;generalize rAB a b=r at *;grind] at this
 rw[this,ar_,a5_,be_,show -(cAB a b/ rAB a b)+1/ rAB a b* x=(x- cAB a b) / rAB a b by generalize cAB a b=c at *;generalize rAB a b=r at *;grind]
 grind
theorem g_norm{j:Nat}(hj:j< k):0< ldN (mAB a b k) (ldr (mAB a b k) j).1:=by
 obtain⟨b1,b2,_⟩:=fo_ k hk
 have r0:=hb_ h
 have hl:=(d1_ (mAB a b k) j).1
 have hl0:=(d1_ (m0K k) j).1
 have t1:∀p:List Rat,p.length≤j+1→(trimQ (mulP p p)).length≤2* k:=fun p hp=>by
  have a:=dI_ p p j hp hp
  have b:=aD_ (mulP p p)
  omega
 have e:ldN (mAB a b k) (ldr (mAB a b k) j).1=rAB a b* (rAB a b^ j* rAB a b^ j) * ldN (m0K k) (ldr (m0K k) j).1:=(g_mv h k).of (t1 _ hl) (t1 _ hl0) fun y=>by
  rw[aq_,aq_,dC_ h hk (by omega),b1 j (by omega)];grind
 rw[e]
 have hp:=Rat.pow_pos (n:=j) r0
 exact Rat.mul_pos (Rat.mul_pos r0 (Rat.mul_pos hp hp)) (b2 j hj)
theorem g_len:(gN a b k).length=k+1∧coP (gN a b k) k=1∧nz (gN a b k)∧dg (gN a b k)=k∧leadP (gN a b k)=1∧trimQ (gN a b k)=gN a b k:=by
 obtain⟨b1,b2,b3,b4,_⟩:=fo_ k hk
 have r0:=hb_ h
 have hl:(gN a b k).length≤k+1:=(d1_ (mAB a b k) k).1
 have e:trimQ (compP [cAB a b,rAB a b] (gN a b k))=trimQ (ay_ (bN k) (rAB a b^ k)):=eqv_trim.1 fun y=>by
  rw[a5_,be_,ar_]
  show evalP (ldr (mAB a b k) k).1 _=_
  rw[dC_ h hk (Nat.le_refl k)];grind
 have h1:=trim_iff.1 e k
 rw[ji_ _ _ k _ hl,bc_,b4] at h1
 have hp:=Rat.pow_pos (n:=k) r0
 have h2:coP (gN a b k) k=1:=by
  generalize rAB a b^ k=z at *
  generalize coP (gN a b k) k=w at *
  grind
 have h3:=eG_ (p:=gN a b k) (n:=k) ⟨by rw[h2];decide+kernel,fun i hi=>b9_ (Nat.le_trans hl hi)⟩
 have h4:trimQ (gN a b k)=gN a b k:=mh_ _ _
 refine⟨?_,h2,h3.1,h3.2.1,h3.2.2.trans h2,h4⟩
 have h5:=h3.2.1
 have h6:=List.length_pos_iff.2 h3.1
 unfold dg at h5
 rw[h4] at h5 h6
 omega
theorem g_dv(y:Rat):dvE (gN a b k) (cAB a b+rAB a b* y) * rAB a b=rAB a b^ k* dvE (bN k) y:=by
 have h1:=gQ_ [cAB a b,rAB a b] y (gN a b k)
 have h2:=dvE_k (p:=bN k) (r:=compP [cAB a b,rAB a b] (gN a b k)) (k:=rAB a b^ k) (fun x=>by
  rw[a5_,be_]
  show evalP (ldr (mAB a b k) k).1 _=_
  rw[dC_ h hk (Nat.le_refl k)];grind) y
 rw[be_,ph_] at h1
 rw[←h1,h2];grind
theorem g_co:∃A B:List Rat,∀x,evalP A x* evalP (gN a b k) x+evalP B x* dvE (gN a b k) x=1:=by
 obtain⟨b1,b2,b3,b4,b5,_⟩:=fo_ k hk
 have h0:=(g_mv h k).r0
 have hp:=ih_ h0 k
 refine⟨ay_ (compP [-(cAB a b/ rAB a b),1/ rAB a b] (bA k)) (1/ rAB a b^ k),ay_ (compP [-(cAB a b/ rAB a b),1/ rAB a b] (bB k)) (rAB a b/ rAB a b^ k),fun x=>?_⟩
 have e1:=dC_ h hk (Nat.le_refl k) ((x- cAB a b) / rAB a b)
 have e2:=g_dv h hk ((x- cAB a b) / rAB a b)
 rw[show cAB a b+rAB a b* ((x- cAB a b) / rAB a b)=x by generalize cAB a b=c at *;generalize rAB a b=r at *;grind] at e1 e2
 have e3:evalP (addP (mulP (bA k) (bN k)) (mulP (bB k) (ao_ (bN k)))) ((x- cAB a b) / rAB a b)=1:=by rw[b5,ap_,az_];grind
 rw[a7_,aq_,aq_,a1_] at e3
 rw[ar_,ar_,a5_,a5_,be_,show -(cAB a b/ rAB a b)+1/ rAB a b* x=(x- cAB a b) / rAB a b by generalize cAB a b=c at *;generalize rAB a b=r at *;grind]
 have e1':evalP (gN a b k) x=rAB a b^ k* evalP (bN k) ((x- cAB a b) / rAB a b):=e1
 rw[e1']
 generalize (x- cAB a b) / rAB a b=y at *
 generalize evalP (bN k) y=n at *
 generalize dvE (bN k) y=d at *
 generalize dvE (gN a b k) x=D at *
 generalize rAB a b^ k=z at *
 generalize rAB a b=r at *
 generalize evalP (bA k) y=A at *
 generalize evalP (bB k) y=B at *
 have:D=z* d/ r:=by rw[←e2];exact(Rat.mul_div_cancel h0).symm
 rw[this]
 grind
theorem g_wt:(∃z,∀x,evalP (gW a b k) x* dvE (gN a b k) x=evalP (tpQ (gN a b k) (mAB a b k)) x+evalP z x* evalP (gN a b k) x)∧(nz (gW a b k)→dg (gW a b k)< dg (gN a b k))∧(gW a b k).length≤k∧trimQ (gW a b k)=gW a b k∧∀y,evalP (gW a b k) (cAB a b+rAB a b* y)=rAB a b* evalP (bWt k) y:=by
 obtain⟨b1,b2,b3,b4,b5,b6,b7,_⟩:=fo_ k hk
 have h0:=(g_mv h k).r0
 have hp:=ih_ h0 k
 have hN:=g_len h hk
 have hlen:(gW a b k).length≤k:=by
  have e1:=aD_ (ay_ (compP [-(cAB a b/ rAB a b),1/ rAB a b] (bWt k)) (rAB a b))
  have e2:=by_ (compP [-(cAB a b/ rAB a b),1/ rAB a b] (bWt k)) (rAB a b)
  have e3:=dl_ (-(cAB a b/ rAB a b)) (1/ rAB a b) (bWt k)
  unfold gW;omega
 have htr:trimQ (gW a b k)=gW a b k:=aS_ _
 have heq:∀x,evalP (gW a b k) x=rAB a b* evalP (bWt k) ((x- cAB a b) / rAB a b):=fun x=>by
  unfold gW
  rw[a4_,ar_,a5_,be_,show -(cAB a b/ rAB a b)+1/ rAB a b* x=(x- cAB a b) / rAB a b by generalize cAB a b=c at *;generalize rAB a b=r at *;grind]
  grind
 have hnb:nz (bN k):=(eG_ (p:=bN k) (n:=k) ⟨by rw[b4];decide+kernel,fun i hi=>b9_ (by omega)⟩).1
 have m1:=(bS_ (subP (mulP (bWt k) (ao_ (bN k))) (tpQ (bN k) (m0K k))) (bN k) hnb).1
 rw[b6] at m1
 refine⟨⟨ay_ (compP [-(cAB a b/ rAB a b),1/ rAB a b] (divP (subP (mulP (bWt k) (ao_ (bN k))) (tpQ (bN k) (m0K k))) (bN k)).1) 1,fun x=>?_⟩,fun hz=>?_,hlen,htr,fun y=>?_⟩
 have e1:=dC_ h hk (Nat.le_refl k) ((x- cAB a b) / rAB a b)
 have e2:=g_dv h hk ((x- cAB a b) / rAB a b)
 have e3:=(g_mv h k).top (p:=gN a b k) (p0:=bN k) (κ:=rAB a b^ k) (by rw[hN.1];omega) (by rw[b3];omega) (fun y=>dC_ h hk (Nat.le_refl k) y) ((x- cAB a b) / rAB a b)
 have e4:=m1 ((x- cAB a b) / rAB a b)
 rw[show cAB a b+rAB a b* ((x- cAB a b) / rAB a b)=x by generalize cAB a b=c at *;generalize rAB a b=r at *;grind] at e1 e2 e3
 rw[bp_,aq_,a1_,az_] at e4
 have e1':evalP (gN a b k) x=rAB a b^ k* evalP (bN k) ((x- cAB a b) / rAB a b):=e1
 rw[heq,e3,e1',ar_,a5_,be_,show -(cAB a b/ rAB a b)+1/ rAB a b* x=(x- cAB a b) / rAB a b by generalize cAB a b=c at *;generalize rAB a b=r at *;grind]
 generalize (x- cAB a b) / rAB a b=y at *
 generalize evalP (bN k) y=n at *
 generalize dvE (bN k) y=d at *
 generalize dvE (gN a b k) x=D at *
 generalize rAB a b^ k=z at *
 generalize rAB a b=r at *
 generalize evalP (bWt k) y=w at *
 generalize evalP (tpQ (bN k) (m0K k)) y=t at *
 generalize evalP (divP (subP (mulP (bWt k) (ao_ (bN k))) (tpQ (bN k) (m0K k))) (bN k)).1 y=q at *
 have:r* w* D=w* (D* r):=by grind
 rw[this,e2]
 grind
 have h1:=List.length_pos_iff.2 hz
 rw[hN.2.2.2.1]
 unfold dg
 rw[htr] at h1⊢
 omega
 rw[heq,show(cAB a b+rAB a b* y- cAB a b) / rAB a b=y by generalize cAB a b=c at *;generalize rAB a b=r at *;grind]
end
def cOK(N s X Y T:Nat):Bool:=
 decide (N≤7) &&
 decide (1≤s) && decide (1≤X) && decide (X≤137438953472) && decide (s+1+N* s+N* (X+1)≤Y) && decide (2^ 7* (s+2* X+1)≤137438953472) && decide (11* Y≤34359738368) && decide (Y≤T) && decide (7* (T+10000000+1)+T+10000000+2≤137438953472) &&
 ((List.range (N+1)).all fun m=>(List.range m).all fun n=>hG 9 m n (s+1+N* s) (s+1+N* s+4) X) &&
 ((List.range (N+1)).all fun m=>(List.range m).all fun n=>cB 9 m n Y (Y+4) (Y+4) T)
theorem sqfM_gen{N s X Y T:Nat}(hc:cOK N s X Y T=true){p:List Rat}(np:nz p)(hl:(trimQ p).length≤N)(hp:p.length≤1000)(hb:bdL p s):∃q,sqfM 9 p=some q∧nz q∧q.length≤N∧Ht q Y∧bdL q Y:=by
 unfold cOK at hc
 simp only[Bool.and_eq_true,decide_eq_true_eq,List.all_eq_true,List.mem_range] at hc
 obtain⟨⟨⟨⟨⟨⟨⟨⟨⟨⟨c0',c1⟩,c2⟩,c3⟩,c4⟩,c5⟩,c6⟩,c7⟩,c8⟩,hg⟩,hC⟩:=hc
 have hH:Ht p (s+1+N* s):=(Ht.of (s:=s) (p:=trimQ p) fun q hq=>hb q (a9_ hq)).untrim.mono (by have:=Nat.mul_le_mul_right s hl;omega)
 have hlp:=List.length_pos_iff.2 np
 have hdl:=ev_ np
 have hdt:trimQ (ao_ p)=ao_ p:=aS_ _
 have hd0:=dP_ (by omega) hb c1 hH
 generalize hE:s+1+N* s=E at *
 have hd:bdL (ao_ p) (E+4)∧Ht (ao_ p) (E+4):=⟨fun x hx=>Nat.le_trans (hd0.1 x hx) (by omega),hd0.2⟩
 obtain⟨g,g1,g2,g3,g4⟩:=iX_ 9 _ _ E (E+4) X p (ao_ p) (hg _ (by omega) _ (by rw[hdt];exact hdl)) rfl rfl (fun x hx=>Nat.le_trans (hb x hx) (by omega)) hd.1 hH hd.2 (by omega) (by omega) hp (by omega) c3
 obtain⟨z0,z1,z2,a,b,z3⟩:=fI_ 9 _ _ _ g1 (.inl np)
 obtain⟨u,hu⟩:=z1
 obtain⟨m1,m2⟩:=cf_ p z0
 have hm:=dB_ (u:=u) (v:=[]) z0 (fun x=>by rw[hu x,az_];exact(Rat.add_zero _).symm) (fun e=>absurd rfl e)
 have hs:∀x,evalP p x=evalP (divP p g).1 x* evalP g x:=fun x=>by
  have:=m1 x
  rw[hm x,az_] at this
  rw[this];grind
 obtain⟨n1,n2⟩:=dG_ hs np
 have e1:=(dg_mul' n1 n2 hs).2.1
 have e2:=(ce_ n1).2.2
 have e3:=(ce_ n1).2.1
 have hlg:=List.length_pos_iff.2 z0
 have hls:=List.length_pos_iff.2 e3
 have h1:=bi_ hb c1
 have h2:=bi_ g4 c2
 have hpow:2^ ((trimQ p).length+1- (trimQ g).length)≤2^ 7:=Nat.pow_le_pow_right (by decide) (by omega)
 generalize hNX:N* (X+1)=NX at *
 have hmul:=Nat.mul_le_mul hpow (show mxL p+2* mxL g+1≤s+2* X+1 by omega)
 have hq:=(hH_ hH g3 z0).1
 have hrw:((trimQ p).length+1- (trimQ g).length) * (X+1)≤NX:=by rw[←hNX];exact Nat.mul_le_mul_right _ (by omega)
 obtain⟨q1,q2⟩:=(hq.mono (show _≤Y by omega)).monic (by omega)
 refine⟨aW_ (divP p g).1,?_,e3,?_,q2,q1⟩
 unfold sqfM
 rw[if_pos ⟨cJ_ hb (by omega),by omega⟩,g1,Option.bind_some,if_pos ⟨z0,by omega,by omega,by omega⟩]
 have:=dV_ (divP p g).1
 rw[←this]
 unfold dg at e1 e2;omega
theorem lH_{N s X Y T:Nat}(hc:cOK N s X Y T=true){p:List Rat}(np:nz p)(hl:(trimQ p).length≤N)(hp:p.length≤1000)(hb:bdL p s):
    ∃c,cn_ 9 p=some c∧(∀x,qs x≤10000000→okUp c x∧okBe c x):=by
 obtain⟨q,s1,s2,s3,s4,s5⟩:=sqfM_gen hc np hl hp hb
 unfold cOK at hc
 simp only[Bool.and_eq_true,decide_eq_true_eq,List.all_eq_true,List.mem_range] at hc
 obtain⟨⟨⟨⟨⟨⟨⟨⟨⟨⟨c0',c1⟩,c2⟩,c3⟩,c4⟩,c5⟩,c6⟩,c7⟩,c8⟩,hg⟩,hC⟩:=hc
 have hst:=aD_ q
 have hsp:=List.length_pos_iff.2 s2
 have hY:1≤Y:=by omega
 obtain⟨p1,p2⟩:=s4.prim s2 hY
 obtain⟨c,c0,hc⟩:=em_ s2
 obtain⟨d1,d2,_⟩:=cG_ s2 (show c≠0 by grind) hc
 have hpn:(trimQ (primP q)).length=(trimQ q).length:=by
  have a1:=List.length_pos_iff.2 d1
  unfold dg at d2;omega
 have hpl:(primP q).length=(trimQ (primP q)).length:=by unfold primP;rw[ck_]
 have hdl:=ev_ s2
 have hdt:trimQ (ao_ q)=ao_ q:=aS_ _
 have hd:=dP_ (by omega) s5 hY s4
 obtain⟨out,o1,o2,o3⟩:=hU_ 9 9 _ _ Y (Y+4) (Y+4) T (primP q) (ao_ q) [primP q] (hC (trimQ q).length (by omega) (ao_ q).length hdl) hpn (by rw[hdt]) rfl p1 p2 hd.2 hd.1 hY (by omega) (by omega) (by omega) (by omega)
 have hmx:=bi_ s5 hY
 have hmul:=Nat.mul_le_mul (show q.length+4≤11 by omega) hmx
 have hst':d6_ 9 q=some out:=by
  unfold d6_
  rw[if_pos ⟨cJ_ s5 (by omega),⟨by omega,by omega⟩,s2⟩]
  exact o1
 have hall:∀r∈out,nz r∧r.length≤7∧bdL r T:=fun r hr=>by
  rcases o3 r hr with h|⟨a,b,d⟩
  rw[List.mem_singleton.1 h]
  exact⟨d1,by omega,fun x hx=>Nat.le_trans (p1 x hx) c7⟩
  exact⟨a,by omega,d⟩
 rw[List.length_singleton] at o2
 have hok:okCnt ⟨q,out,chL (out.map sgI) 0 0⟩:=⟨fun r hr=>⟨(hall r hr).1,by have:=(hall r hr).2.1;omega⟩,by show out.length≤_;omega,rfl⟩
 have hup:∀x,qs x≤10000000→okUp ⟨q,out,chL (out.map sgI) 0 0⟩ x:=fun x hx=>⟨hok,fun r hr=>by
  obtain⟨_,a,b⟩:=hall r hr
  have:=bi_ b (by omega)
  have h2:=Nat.mul_le_mul a (show mxL r+qs x+1≤T+10000000+1 by omega)
  exact⟨by omega,by omega⟩⟩
 refine⟨⟨q,out,chL (out.map sgI) 0 0⟩,?_,fun x hx=>⟨hup x hx,hup x hx,?_⟩⟩
 unfold cn_
 rw[s1,Option.bind_some,hst',Option.bind_some,if_pos hok]
 have h2:=Nat.mul_le_mul (show q.length≤7 by omega) (show mxL q+qs x+1≤T+10000000+1 by omega)
 exact⟨by show q.length* (mxL q+qs x+1)+mxL q+qs x+2≤_;omega,by show q.length≤_;omega⟩
theorem qs_pow'{x:Rat}{t:Nat}(h:qs x≤t):∀n,qs (x^ n)≤n* t+1
 |0=>by rw[Rat.pow_zero];exact Nat.le_trans (by decide:qs 1≤1) (by omega)
 |n+1=>by
  have h1:=qs_pow' h n
  have h2:=cd_ (x^ n) x
  rw[Rat.pow_succ,Nat.succ_mul];omega
theorem bdL_mono'{l:List Rat}{a b:Nat}(h:bdL l a)(hab:a≤b):bdL l b:=fun q hq=>Nat.le_trans (h q hq) hab
theorem ne_{N:List Rat}(hN:nz N)(hm:leadP N=1)(ht:trimQ N=N):aW_ N=N:=by
 unfold aW_
 rw[if_neg hN,hm]
 have:trimQ (ay_ N (1/ 1))=trimQ N:=eqv_trim.1 fun x=>by rw[ar_];grind
 rw[ck_,ht] at this
 exact this
section
variable {a b:Rat}(h:a< b){k:Nat}(hk:1≤k∧k≤4)(ha:qs a≤20)(hb:qs b≤20)
include ha hb
theorem g_qs:qs (cAB a b)≤43∧qs (rAB a b)≤43:=by
 have h1:=el_ a b
 have h2:=cI_ (a+b) 2
 have h3:=go_ b a
 have h4:=cI_ (b- a) 2
 have h5:qs 2=2:=by decide
 unfold cAB rAB
 omega
theorem g_uv:qs (-(cAB a b/ rAB a b))≤86∧qs (1/ rAB a b)≤86:=by
 obtain⟨h1,h2⟩:=g_qs ha hb
 have h3:=cI_ (cAB a b) (rAB a b)
 have h4:=cI_ 1 (rAB a b)
 have h5:=qs_one
 rw[d9_];omega
include h hk
theorem g_bd:(∀j,j≤k→bdL (ldr (mAB a b k) j).1 6100)∧bdL (gW a b k) 6100:=by
 obtain⟨b1,b2,b3,b4,b5,b6,b7,b8,b9,b10,b11⟩:=fo_ k hk
 obtain⟨u1,u2⟩:=g_uv ha hb
 obtain⟨c1,c2⟩:=g_qs ha hb
 have key:∀l:List Rat,l.length≤5→bdL l 8→bdL (compP [-(cAB a b/ rAB a b),1/ rAB a b] l) 5888:=fun l hl hbl=>by
  have h1:=(jf_ (-(cAB a b/ rAB a b)) (1/ rAB a b) 8 86 (by decide) u1 u2 (by decide) (by decide) l (by omega) hbl).2
  have h2:2^ l.length≤2^ 5:=Nat.pow_le_pow_right (by decide) hl
  have h3:=Nat.mul_le_mul_right (8+2* 86+4) h2
  exact bdL_mono' h1 (by omega)
 constructor
 intro j hj
 rw[g_list h hk hj]
 refine eZ_ fun q hq=>?_
 obtain⟨d1,d2⟩:=b10 j (by omega)
 have h1:=e0_ (k:=rAB a b^ j) (key _ d2 d1) (by decide) q hq
 have h2:=qs_pow' c2 j
 have h3:j* 43≤4* 43:=Nat.mul_le_mul_right _ (by omega)
 omega
 unfold gW
 refine eZ_ fun q hq=>?_
 have h1:=e0_ (k:=rAB a b) (key _ (by omega) b11) (by decide) q hq
 omega
theorem g_N:bdL (gN a b k) 6100:=(g_bd h hk ha hb).1 k (Nat.le_refl k)
omit h hk in
theorem g_mom(i:Nat)(hi:i< 8):okMo [1] (a,b) i∧qs (moQ [1] (a,b) i)≤500:=by
 have hc:∀i,i< 8→bdL (gK [1] i) 1∧(gK [1] i).length≤8∧bdL (aO_ (gK [1] i)) 4∧(aO_ (gK [1] i)).length≤9:=by decide+kernel
 obtain⟨c1,c2,c3,c4⟩:=hc i hi
 have m1:=bi_ c1 (by decide)
 have m2:=bi_ c3 (by decide)
 have e1:=fO_ (x:=a) (s:=4) ha c3
 have e2:=fO_ (x:=b) (s:=4) hb c3
 have e3:=Nat.mul_le_mul_right (4+20+1) c4
 have e4:=Nat.mul_le_mul c4 (show mxL (aO_ (gK [1] i))+qs a+1≤25 by omega)
 have e5:=Nat.mul_le_mul c4 (show mxL (aO_ (gK [1] i))+qs b+1≤25 by omega)
 have e7:mxL [0,1]=1:=by decide+kernel
 have e6:=Nat.mul_le_mul c2 (show mxL (gK [1] i)+mxL [0,1]+1≤10 by omega)
 refine⟨⟨fun q hq=>Nat.le_trans (c1 q hq) (by decide),by omega,⟨by show _* (_+qs a+1)+_+qs a+2≤_;omega,by omega⟩,⟨by show _* (_+qs b+1)+_+qs b+2≤_;omega,by omega⟩,⟨by omega,by omega,by omega,by simp⟩⟩,?_⟩
 have:=go_ (evalP (aO_ (gK [1] i)) b) (evalP (aO_ (gK [1] i)) a)
 show qs (evalP (aO_ (gK [1] i)) b- evalP (aO_ (gK [1] i)) a)≤500
 omega
omit h in
theorem g_m:bdL (mAB a b k) 500∧(mAB a b k).length=2* k:=by
 constructor
 intro q hq
 unfold mAB sqL at hq
 obtain⟨i,hi,rfl⟩:=List.mem_map.1 hq
 exact(g_mom ha hb i (by have:=List.mem_range.1 hi;omega)).2
 unfold mAB;simp
theorem g_okLd(j:Nat)(hj:j< k):okLd (mAB a b k) j:=by
 obtain⟨d1,d2⟩:=g_m hk ha hb
 have hn:=g_norm h hk hj
 have hbj:=(g_bd h hk ha hb).1 j (by omega)
 have hl:=(d1_ (mAB a b k) j).1
 have hl2:=(d1_ (mAB a b k) j).2
 have hb2:bdL (ldr (mAB a b k) j).2.1 6100:=by
  cases j with
  |zero=>intro q hq;cases hq
  |succ i=>exact(g_bd h hk ha hb).1 i (by omega)
 have hv2:qs (ldr (mAB a b k) j).2.2≤10000000:=by
  cases j with
  |zero=>exact Nat.le_trans (Nat.le_of_eq (by decide+kernel:qs (0:Rat)=1)) (by omega)
  |succ i=>
   show qs (ldN (mAB a b k) (ldr (mAB a b k) i).1)≤_
   have hbi:=(g_bd h hk ha hb).1 i (by omega)
   have hli:=(d1_ (mAB a b k) i).1
   have a1:=dA_ hbi hbi (by omega) (by omega)
   have a3:bdL (mulP (ldr (mAB a b k) i).1 (ldr (mAB a b k) i).1) 70000:=bdL_mono' a1 (by omega)
   have a4:=dI_ _ _ i hli hli
   have a5:=hf_ (eZ_ a3) d1 (by omega) (by omega) (trimQ (mulP (ldr (mAB a b k) i).1 (ldr (mAB a b k) i).1)).length
   have a6:=aD_ (mulP (ldr (mAB a b k) i).1 (ldr (mAB a b k) i).1)
   unfold ldN ofP;omega
 have q0:qs (0:Rat)=1:=by decide+kernel
 have x1:mxL [0,1]=1:=by decide+kernel
 have a1:=dA_ hbj hbj (by omega) (by omega)
 have a3:bdL (mulP (ldr (mAB a b k) j).1 (ldr (mAB a b k) j).1) 70000:=bdL_mono' a1 (by omega)
 have a4:=dI_ _ _ j hl hl
 have b1:=dA_ (q:=[0,1]) (t:=1) a3 (by intro q hq;rcases List.mem_cons.1 hq with rfl|hq;exact Nat.le_of_eq q0;rw[List.mem_singleton.1 hq];exact Nat.le_refl _) (by omega) (by omega)
 have b3:bdL (mulP (mulP (ldr (mAB a b k) j).1 (ldr (mAB a b k) j).1) [0,1]) 700000:=bdL_mono' b1 (by omega)
 have b4:=mulP_line_len' (mulP (ldr (mAB a b k) j).1 (ldr (mAB a b k) j).1) 0 1
 have hmd:=bi_ d1 (by omega)
 have m0:=bi_ hbj (by omega)
 have m1:=bi_ a3 (by omega)
 have m2:=bi_ b3 (by omega)
 have t1:=aD_ (mulP (ldr (mAB a b k) j).1 (ldr (mAB a b k) j).1)
 have t2:=aD_ (mulP (mulP (ldr (mAB a b k) j).1 (ldr (mAB a b k) j).1) [0,1])
 have t1':(trimQ (mulP (ldr (mAB a b k) j).1 (ldr (mAB a b k) j).1)).length≤9:=by omega
 have t2':(trimQ (mulP (mulP (ldr (mAB a b k) j).1 (ldr (mAB a b k) j).1) [0,1])).length≤10:=by omega
 have hl5:(ldr (mAB a b k) j).1.length≤5:=by omega
 have e1:=hf_ (eZ_ a3) d1 (by omega) (by omega) (trimQ (mulP (ldr (mAB a b k) j).1 (ldr (mAB a b k) j).1)).length
 have e3:=hf_ (eZ_ b3) d1 (by omega) (by omega) (trimQ (mulP (mulP (ldr (mAB a b k) j).1 (ldr (mAB a b k) j).1) [0,1])).length
 have hN:qs (ldN (mAB a b k) (ldr (mAB a b k) j).1)≤10000000:=by unfold ldN ofP;omega
 have hA:qs (ofP (mAB a b k) (mulP (mulP (ldr (mAB a b k) j).1 (ldr (mAB a b k) j).1) [0,1]))≤10000000:=by unfold ofP;omega
 have hAk:qs (ldAk (mAB a b k) j)≤20000000:=by
  have:=cI_ (ofP (mAB a b k) (mulP (mulP (ldr (mAB a b k) j).1 (ldr (mAB a b k) j).1) [0,1])) (ldN (mAB a b k) (ldr (mAB a b k) j).1)
  unfold ldAk ldA;omega
 have hBv:∀w:Rat,qs w≤10000000→qs (if j=0 then 0 else ldN (mAB a b k) (ldr (mAB a b k) j).1/ w)≤20000000:=fun w hw=>by
  split
  omega
  have:=cI_ (ldN (mAB a b k) (ldr (mAB a b k) j).1) w;omega
 have hBk:qs (ldB (mAB a b k) j)≤20000000:=by
  unfold ldB
  exact hBv _ hv2
 have l1:bdL [-ldAk (mAB a b k) j,1] 20000000:=by
  intro q hq
  rcases List.mem_cons.1 hq with rfl|hq
  rw[d9_];exact hAk
  rw[List.mem_singleton.1 hq];exact(by omega:1≤20000000)
 have ml:=bi_ l1 (by omega)
 have f1:=dA_ hbj l1 (by omega) (by omega)
 have f3:=mulP_line_len' (ldr (mAB a b k) j).1 (-ldAk (mAB a b k) j) 1
 have f4:=by_ (ldr (mAB a b k) j).2.1 (ldB (mAB a b k) j)
 have f5:=e0_ (k:=ldB (mAB a b k) j) hb2 (by omega)
 have g1:=Nat.mul_le_mul (show(ldr (mAB a b k) j).1.length≤5 by omega) (show mxL (ldr (mAB a b k) j).1+mxL (ldr (mAB a b k) j).1+1≤12201 by omega)
 have g2:=Nat.mul_le_mul (show(mulP (ldr (mAB a b k) j).1 (ldr (mAB a b k) j).1).length+2≤11 by omega) (show mxL (mulP (ldr (mAB a b k) j).1 (ldr (mAB a b k) j).1)+mxL (mAB a b k)+1≤70501 by omega)
 have g3:=Nat.mul_le_mul (show(mulP (ldr (mAB a b k) j).1 (ldr (mAB a b k) j).1).length≤9 by omega) (show mxL (mulP (ldr (mAB a b k) j).1 (ldr (mAB a b k) j).1)+mxL [0,1]+1≤70002 by omega)
 have g4:=Nat.mul_le_mul (show(mulP (mulP (ldr (mAB a b k) j).1 (ldr (mAB a b k) j).1) [0,1]).length+2≤12 by omega) (show mxL (mulP (mulP (ldr (mAB a b k) j).1 (ldr (mAB a b k) j).1) [0,1])+mxL (mAB a b k)+1≤700501 by omega)
 have g5:=Nat.mul_le_mul (show(ldr (mAB a b k) j).1.length≤5 by omega) (show mxL (ldr (mAB a b k) j).1+mxL [-ldAk (mAB a b k) j,1]+1≤20006101 by omega)
 refine⟨⟨by omega,by omega,by omega,by omega⟩,⟨by omega,by omega,by omega⟩,hn,⟨by omega,by omega,by omega,by simp⟩,⟨by omega,by omega,by omega⟩,by omega,by omega,⟨by omega,by omega,by omega,by simp⟩,fun q hq=>Nat.le_trans (hb2 q hq) (by omega),by unfold sm;omega,fun q hq=>Nat.le_trans (f1 q hq) (by omega),fun q hq=>Nat.le_trans (f5 q hq) (by omega),by omega,by omega,by omega⟩
end
theorem cOK_g:cOK 5 6200 632481 3199611 54393451=true:=by decide+kernel
theorem zOK_g:zOK 5 6200 32391177=true:=by decide+kernel
def suB(s:Nat):Nat→Nat
 |0=>13
 |k+1=>(k+1) * (s+suB s k+14)
theorem qs_k{k:Nat}(h:k≤1000):qs ((k:Int):Rat)≤13:=qs_nQ (n:=k) (k:=13) (bl_le (by omega)) (by decide)
theorem oi_{T out:List Rat}{s S n k:Nat}(hT:bdL T s)(hs:1≤s)(ho:bdL out S)(hS:1≤S)(hk:k≤1000):∀i,qs (nwA T n out k i)≤s+13+i* (s+S+1)
 |0=>by
  have h1:=cd_ (coP T (n- k)) ((k:Int):Rat)
  have h2:=bz_ hT hs (n- k)
  have h3:=qs_k hk
  rw[nwA];omega
 |i+1=>by
  have h1:=oi_ (n:=n) hT hs ho hS hk i
  have h2:=cd_ (coP T (n- (i+1))) (coP out (k- (i+1)))
  have h3:=bz_ hT hs (n- (i+1))
  have h4:=bz_ ho hS (k- (i+1))
  have h5:=el_ (nwA T n out k i) (coP T (n- (i+1)) * coP out (k- (i+1)))
  rw[nwA,Nat.succ_mul];omega
theorem nO_{T:List Rat}{n s:Nat}(hT:bdL T s)(hs:1≤s)(hn:n≤1000):∀k,k≤999→bdL (suL T n k) (suB s k)∧13≤suB s k
 |0,_=>⟨fun q hq=>by
    rw[List.mem_singleton.1 hq]
    exact qs_k hn,Nat.le_refl _⟩
 |k+1,hk=>by
  obtain⟨h1,h2⟩:=nO_ hT hs hn k (by omega)
  have h3:s+suB s k+14≤suB s (k+1):=by
   rw[suB]
   exact Nat.le_mul_of_pos_left _ (Nat.succ_pos k)
  refine⟨fun q hq=>?_,by omega⟩
  rcases List.mem_append.1 hq with hq|hq
  have:=h1 q hq;omega
  rw[List.mem_singleton.1 hq,d9_]
  have h4:=oi_ (n:=n) (k:=k+1) hT hs h1 (by omega) (by omega) k
  have h5:k* (s+suB s k+1)≤k* (s+suB s k+14):=Nat.mul_le_mul_left _ (by omega)
  rw[suB,Nat.succ_mul];omega
theorem okSu_of{T:List Rat}{n s k:Nat}(hT:bdL T s)(hs:1≤s)(hn:n≤1000)(hk:k≤900)(hB:suB s (k+1)≤137438953472):okSu T n k:=by
 obtain⟨h1,h2⟩:=nO_ hT hs hn k (by omega)
 have h3:s+suB s k+14≤suB s (k+1):=by
  rw[suB]
  exact Nat.le_mul_of_pos_left _ (Nat.succ_pos k)
 have e1:=bz_ hT hs (n- (k+1))
 have e2:=qs_k (k:=k+1) (by omega)
 refine⟨by omega,fun i hi=>?_⟩
 have e3:=bz_ hT hs (n- (i+1))
 have e4:=bz_ h1 (by omega) (k+1- (i+1))
 have e5:=oi_ (n:=n) (k:=k+1) hT hs h1 (by omega) (by omega) i
 have e6:=cd_ (coP T (n- (i+1))) (coP (suL T n k) (k+1- (i+1)))
 have e7:i* (s+suB s k+1)≤k* (s+suB s k+14):=Nat.mul_le_mul (by omega) (by omega)
 have e8:suB s (k+1)=k* (s+suB s k+14)+(s+suB s k+14):=by rw[suB,Nat.succ_mul]
 omega
section
variable {a b:Rat}(h:a< b){k:Nat}(hk:1≤k∧k≤4)
include h hk
theorem g_alt:∃xs:Nat→Rat,(∀i,i< k→xs i< xs (i+1))∧∀i,i< k→evalP (gN a b k) (xs i) * evalP (gN a b k) (xs (i+1))< 0:=by
 obtain⟨b1,b2,b3,b4,b5,b6,b7,b8,b9,_⟩:=fo_ k hk
 have r0:=hb_ h
 have hp:=Rat.pow_pos (n:=k) r0
 refine⟨fun i=>cAB a b+rAB a b* bX k i,fun i hi=>?_,fun i hi=>?_⟩
 have:=Rat.mul_pos r0 (show 0< bX k (i+1)- bX k i by have:=b8 i hi;grind)
 grind
 have e:∀y,evalP (gN a b k) (cAB a b+rAB a b* y)=rAB a b^ k* evalP (bN k) y:=fun y=>dC_ h hk (Nat.le_refl k) y
 rw[e,e]
 have:=Rat.mul_pos (Rat.mul_pos hp hp) (show 0< -(evalP (bN k) (bX k i) * evalP (bN k) (bX k (i+1))) by have:=b9 i hi;grind)
 grind
variable (ha:qs a≤20)(hb:qs b≤20)
include ha hb
theorem g_count:∃c,cn_ 9 (gN a b k)=some c∧okBe c (-aU_ (gN a b k))∧okUp c (aU_ (gN a b k))∧uptoV c (aU_ (gN a b k))- dy_ c (-aU_ (gN a b k))=k∧smS (-aU_ (gN a b k),aU_ (gN a b k))∧d0_ (gN a b k):=by
 obtain⟨n1,n2,n3,n4,n5,n6⟩:=g_len h hk
 have hN:=g_N h hk ha hb
 obtain⟨c,h1,h2⟩:=lH_ cOK_g n3 (by rw[n6,n1];omega) (by omega) (bdL_mono' hN (by omega))
 have hbq:=bound_qs hN (by omega)
 obtain⟨A,B,hco⟩:=g_co h hk
 obtain⟨xs,x1,x2⟩:=g_alt h hk
 have hm:=bi_ hN (by omega)
 refine⟨c,h1,(h2 _ (by rw[d9_];omega)).2,(h2 _ (by omega)).1,?_,⟨by show qs (-aU_ (gN a b k))≤_;rw[d9_];omega,by show qs (aU_ (gN a b k))≤_;omega⟩,⟨by omega,by omega⟩⟩
 have:=nu_ h1 n3 hco xs (by rw[n4];exact x1) (by rw[n4];exact x2) (by omega)
 rw[this,n4]
theorem g_bez:∃G A,bzL 8 (ao_ (gN a b k)) (gN a b k) (bT_ ((1:Int):Rat)) []=some (G,A)∧okBz (ao_ (gN a b k)) (gN a b k) G A∧okMul (tpQ (gN a b k) (mAB a b k)) (bzA (gN a b k) G A)∧okDiv (mulP (tpQ (gN a b k) (mAB a b k)) (bzA (gN a b k) G A)) (gN a b k)∧
    (divP (mulP (tpQ (gN a b k) (mAB a b k)) (bzA (gN a b k) G A)) (gN a b k)).2=gW a b k:=by
 obtain⟨n1,n2,n3,n4,n5,n6⟩:=g_len h hk
 have hN:=g_N h hk ha hb
 obtain⟨d1,d2⟩:=g_m hk ha hb
 obtain⟨A,B,hco⟩:=g_co h hk
 have hdl:=dk_ (gN a b k)
 have hH:Ht (gN a b k) (6100+1+5* 6100):=(Ht.of hN).mono (by rw[n1];have:=Nat.mul_le_mul_right 6100 (show k+1≤5 by omega);omega)
 have hdd:=(dP_ (by rw[n6,n1];omega) hN (by omega) hH).1
 obtain⟨G,A',g1,g2,g3,g4,g5⟩:=okBz_of zOK_g (p:=ao_ (gN a b k)) (q:=gN a b k) (B:=B) (C:=A) (bdL_mono' hdd (by omega)) (bdL_mono' hN (by omega)) (by omega) (by omega) (by omega) n3 n6 fun x=>by rw[a1_];have:=hco x;grind
 have hinv:=bzA_inv g1 n3 (B:=B) (C:=A) fun x=>by rw[a1_];have:=hco x;grind
 obtain⟨w,hw⟩:=hinv
 have htl:(tpQ (gN a b k) (mAB a b k)).length=k:=by unfold tpQ tabP;simp[n1]
 have htb:bdL (tpQ (gN a b k) (mAB a b k)) 40000:=by
  intro q hq
  unfold tpQ tabP at hq
  obtain⟨i,hi,rfl⟩:=List.mem_map.1 hq
  have:=nJ_ hN d1 (by omega) (by omega) i (gN a b k).length
  rw[n1] at this⊢
  have hk5:k+1≤5:=by omega
  omega
 have m1:=bi_ htb (by omega)
 have m2:=bi_ g3 (by omega)
 have m3:=bi_ hN (by omega)
 have hiv:(bzA (gN a b k) G A').length≤4:=by omega
 have p1:=dA_ htb g3 (by omega) (by omega)
 have p2:=fy_ (tpQ (gN a b k) (mAB a b k)) (bzA (gN a b k) G A')
 rw[htl] at p1 p2
 have hk4:k≤4:=hk.2
 have p3:bdL (mulP (tpQ (gN a b k) (mAB a b k)) (bzA (gN a b k) G A')) 300000000:=bdL_mono' p1 (by omega)
 have m4:=bi_ p3 (by omega)
 have p4:=aD_ (mulP (tpQ (gN a b k) (mAB a b k)) (bzA (gN a b k) G A'))
 refine⟨G,A',g1,g2,⟨?_,by omega,by omega,by omega⟩,⟨?_,by omega,by omega⟩,?_⟩
 rw[htl]
 have:=Nat.mul_le_mul hk4 (show mxL (tpQ (gN a b k) (mAB a b k))+mxL (bzA (gN a b k) G A')+1≤70000000 by omega)
 omega
 have:=Nat.mul_le_mul (Nat.pow_le_pow_right (n:=2) (by decide) (show(trimQ (mulP (tpQ (gN a b k) (mAB a b k)) (bzA (gN a b k) G A'))).length+1- (trimQ (gN a b k)).length≤3 by rw[n6];omega)) (show mxL (mulP (tpQ (gN a b k) (mAB a b k)) (bzA (gN a b k) G A'))+2* mxL (gN a b k)+1≤310000000 by omega)
 omega
 obtain⟨w1,w2,w3,w4,w5⟩:=g_wt h hk
 obtain⟨v1,v2⟩:=wt_spec (T:=tpQ (gN a b k) (mAB a b k)) n3 (iv:=bzA (gN a b k) G A') (w:=w) fun x=>by rw[←a1_];exact hw x
 have:=wt_uniq n3 hco v1 w1 v2 w2
 rw[←w4,←eqv_trim.1 this]
 exact(dX_ _ _).2.symm
end
section
variable {a b:Rat}(h:a< b){k:Nat}(hk:1≤k∧k≤4)(ha:qs a≤20)(hb:qs b≤20)
include h hk ha hb
theorem g_su:bdL (suL (gN a b k) k (k- 1)) 100000∧∀j,j< k- 1→okSu (gN a b k) k j:=by
 have hN:=g_N h hk ha hb
 have hB:∀j,j< 4→suB 6100 j≤100000:=by decide+kernel
 refine⟨bdL_mono' (nO_ hN (by omega) (by omega) (k- 1) (by omega)).1 (hB _ (by omega)),fun j hj=>okSu_of hN (by omega) (by omega) (by omega) (Nat.le_trans (hB _ (by omega)) (by omega))⟩
theorem g_apply{f:List Rat}(hf:f.length≤6)(hfb:bdL f 40000):okDiv f (gN a b k)∧okMul (gW a b k) (divP f (gN a b k)).2∧okDiv (mulP (gW a b k) (divP f (gN a b k)).2) (gN a b k)∧bdL (apR (gN a b k) (gW a b k) f) 60000000∧
    (apR (gN a b k) (gW a b k) f).length≤k∧qs (ofQ (apR (gN a b k) (gW a b k) f) (suL (gN a b k) k (k- 1)) (apR (gN a b k) (gW a b k) f).length)≤300000000∧
    ofQ (apR (gN a b k) (gW a b k) f) (suL (gN a b k) k (k- 1)) (apR (gN a b k) (gW a b k) f).length=trP (gN a b k) (mulP (gW a b k) f):=by
 obtain⟨n1,n2,n3,n4,n5,n6⟩:=g_len h hk
 have hN:=g_N h hk ha hb
 have hW:=(g_bd h hk ha hb).2
 obtain⟨w1,w2,w3,w4,w5⟩:=g_wt h hk
 obtain⟨s1,s2⟩:=g_su h hk ha hb
 have hk4:k≤4:=hk.2
 have m1:=bi_ hN (by omega)
 have m2:=bi_ hfb (by omega)
 have m3:=bi_ hW (by omega)
 have tf:=aD_ f
 have e1:2^ ((trimQ f).length+1- (trimQ (gN a b k)).length)≤2^ 5:=Nat.pow_le_pow_right (by decide) (by rw[n6];omega)
 have e2:=Nat.mul_le_mul e1 (show mxL f+2* mxL (gN a b k)+1≤52201 by omega)
 have r1:bdL (divP f (gN a b k)).2 1700000:=(gd_ hfb hN (by omega) (by omega) n3 (by
  have:=Nat.mul_le_mul e1 (show 40000+2* 6100+1≤52201 by omega)
  omega)).2
 have rl:(divP f (gN a b k)).2.length≤k:=by
  have a:=(bS_ f (gN a b k) n3).2
  rw[(dX_ _ _).2,n6] at a
  omega
 have m4:=bi_ r1 (by omega)
 have p1:=dA_ hW r1 (by omega) (by omega)
 have p2:=fy_ (gW a b k) (divP f (gN a b k)).2
 have hwl:(gW a b k).length≤4:=by omega
 have p3:bdL (mulP (gW a b k) (divP f (gN a b k)).2) 7000000:=bdL_mono' p1 (by omega)
 have m5:=bi_ p3 (by omega)
 have p4:=aD_ (mulP (gW a b k) (divP f (gN a b k)).2)
 have e3:2^ ((trimQ (mulP (gW a b k) (divP f (gN a b k)).2)).length+1- (trimQ (gN a b k)).length)≤2^ 3:=Nat.pow_le_pow_right (by decide) (by rw[n6];omega)
 have e4:=Nat.mul_le_mul e3 (show mxL (mulP (gW a b k) (divP f (gN a b k)).2)+2* mxL (gN a b k)+1≤7012201 by omega)
 have r2:bdL (apR (gN a b k) (gW a b k) f) 60000000:=(gd_ p3 hN (by omega) (by omega) n3 (by
  have:=Nat.mul_le_mul e3 (show 7000000+2* 6100+1≤7012201 by omega)
  omega)).2
 have rl2:(apR (gN a b k) (gW a b k) f).length≤k:=by
  have q:(trimQ (apR (gN a b k) (gW a b k) f)).length< (trimQ (gN a b k)).length:=(bS_ _ (gN a b k) n3).2
  have e:trimQ (apR (gN a b k) (gW a b k) f)=apR (gN a b k) (gW a b k) f:=(dX_ _ _).2
  rw[e,n6] at q
  omega
 have e5:=Nat.mul_le_mul hwl (show mxL (gW a b k)+mxL (divP f (gN a b k)).2+1≤1706101 by omega)
 have o1:=hf_ r2 s1 (by omega) (by omega) (apR (gN a b k) (gW a b k) f).length
 have hl4:(apR (gN a b k) (gW a b k) f).length≤4:=by omega
 have tr:=apply_tr (W:=gW a b k) (f:=f) n3 n5 n6 (by omega)
 rw[n4] at tr
 exact⟨⟨by omega,by omega,by omega⟩,⟨by omega,by omega,by omega,by omega⟩,⟨by omega,by omega,by omega⟩,r2,rl2,by omega,tr⟩
end
def scT(a b a' b':Rat):Rat:=(b'- a') / (b- a)
def shT(a b a' b':Rat):Rat:=a'- scT a b a' b'* a
section
variable {a b a' b':Rat}(h:a< b)(h':a'< b'){k:Nat}(hk:1≤k∧k≤4)
include h h'
theorem gm_:0< scT a b a' b'∧scT a b a' b'* rAB a b=rAB a' b'∧shT a b a' b'+scT a b a' b'* cAB a b=cAB a' b':=by
 have e:scT a b a' b'* (b- a)=b'- a':=Rat.div_mul_cancel (by grind)
 refine⟨?_,?_,?_⟩
 have h1:0< b- a:=by grind
 have h2:0< b'- a':=by grind
 obtain⟨m,m0,m1⟩:=part (b'- a') h2 h1
 unfold scT
 rw[←m1,Rat.mul_div_cancel (by grind)]
 exact m0
 unfold rAB;grind
 unfold shT cAB;grind
theorem mv_pt(x:Rat):shT a b a' b'+scT a b a' b'* x=cAB a' b'+rAB a' b'* ((x- cAB a b) / rAB a b)∧x=cAB a b+rAB a b* ((x- cAB a b) / rAB a b):=by
 obtain⟨s0,s1,s2⟩:=gm_ h h'
 have r0:=hb_ h
 have e:x=cAB a b+rAB a b* ((x- cAB a b) / rAB a b):=by
  generalize cAB a b=c at *;generalize rAB a b=r at *;grind
 refine⟨?_,e⟩
 generalize (x- cAB a b) / rAB a b=y at *
 rw[e,←s2,←s1];grind
include hk
theorem mv_N(x:Rat):evalP (gN a' b' k) (shT a b a' b'+scT a b a' b'* x)=scT a b a' b'^ k* evalP (gN a b k) x:=by
 obtain⟨e1,e2⟩:=mv_pt h h' x
 have h1:evalP (gN a' b' k) _=_:=dC_ h' hk (Nat.le_refl k) ((x- cAB a b) / rAB a b)
 have h2:evalP (gN a b k) _=_:=dC_ h hk (Nat.le_refl k) ((x- cAB a b) / rAB a b)
 rw[←e2] at h2
 rw[e1,h1,h2,←(gm_ h h').2.1,pow_mul'];grind
theorem mv_W(x:Rat):evalP (gW a' b' k) (shT a b a' b'+scT a b a' b'* x)=scT a b a' b'* evalP (gW a b k) x:=by
 obtain⟨e1,e2⟩:=mv_pt h h' x
 have h1:=(g_wt h' hk).2.2.2.2 ((x- cAB a b) / rAB a b)
 have h2:=(g_wt h hk).2.2.2.2 ((x- cAB a b) / rAB a b)
 rw[←e2] at h2
 rw[e1,h1,h2,←(gm_ h h').2.1];grind
omit hk in
theorem bk_pt(x:Rat):shT a b a' b'+scT a b a' b'* evalP (bkM (scT a b a' b') (shT a b a' b')) x=x:=by
 have s0:=(gm_ h h').1
 unfold bkM
 rw[be_,show((1:Int):Rat)=1 from rfl]
 generalize scT a b a' b'=s at *
 generalize shT a b a' b'=u at *
 grind
theorem mv_nodes:nz (compP (bkM (scT a b a' b') (shT a b a' b')) (gN a b k))∧aW_ (compP (bkM (scT a b a' b') (shT a b a' b')) (gN a b k))=gN a' b' k:=by
 obtain⟨n1,n2,n3,n4,n5,n6⟩:=g_len h' hk
 have s0:=(gm_ h h').1
 have hp:=ih_ (show scT a b a' b'≠0 by grind) k
 have e:∀x,evalP (compP (bkM (scT a b a' b') (shT a b a' b')) (gN a b k)) x=evalP (gN a' b' k) x* (1/ scT a b a' b'^ k):=fun x=>by
  rw[a5_]
  have:=mv_N h h' hk (evalP (bkM (scT a b a' b') (shT a b a' b')) x)
  rw[bk_pt h h'] at this
  rw[this]
  generalize scT a b a' b'^ k=z at *
  grind
 have hz:(1/ scT a b a' b'^ k:Rat)≠0:=fun e=>by
  generalize scT a b a' b'^ k=z at *
  have:=Rat.div_mul_cancel (a:=1) hp
  rw[e] at this;grind
 obtain⟨d1,d2,d3⟩:=cG_ n3 hz e
 refine⟨d1,?_⟩
 obtain⟨f1,f2,f3⟩:=ce_ d1
 have:=(eqv_trim (p:=aW_ (compP (bkM (scT a b a' b') (shT a b a' b')) (gN a b k))) (q:=gN a' b' k)).1 fun x=>by
  rw[f1,e,d3,n5]
  generalize (1/ scT a b a' b'^ k:Rat)=z at *
  grind
 rw[dV_,n6] at this
 exact this
theorem nd_:ay_ (compP (bkM (scT a b a' b') (shT a b a' b')) (gW a b k)) (absQ (scT a b a' b'))=gW a' b' k:=by
 have s0:=(gm_ h h').1
 have w4:=(g_wt h' hk).2.2.2.1
 have:=(eqv_trim (p:=ay_ (compP (bkM (scT a b a' b') (shT a b a' b')) (gW a b k)) (absQ (scT a b a' b'))) (q:=gW a' b' k)).1 fun x=>by
  have:=mv_W h h' hk (evalP (bkM (scT a b a' b') (shT a b a' b')) x)
  rw[bk_pt h h'] at this
  rw[ar_,a5_,hZ_,show ab (scT a b a' b')=scT a b a' b' by unfold ab;rw[if_neg (by grind)],this];grind
 rw[ck_,w4] at this
 exact this
theorem mv_trace(f:List Rat):trP (gN a' b' k) (mulP (gW a' b' k) f)=trP (gN a b k) (mulP (gW a b k) (compP [shT a b a' b',scT a b a' b'] f)) * scT a b a' b':=by
 obtain⟨n1,n2,n3,n4,n5,n6⟩:=g_len h' hk
 obtain⟨m1,m2,m3,m4,m5,m6⟩:=g_len h hk
 have s0:=(gm_ h h').1
 rw[←trP_comp (N:=gN a' b' k) (N':=gN a b k) (u:=shT a b a' b') (v:=scT a b a' b') (κ:=scT a b a' b'^ k) n3 (by grind) (by rw[n4]) (by omega) (mv_N h h' hk) m3 (by omega),←(or_ m3).scale]
 refine(or_ m3).eqv fun x=>?_
 rw[a5_,be_,aq_,mv_W h h' hk,ar_,aq_,a5_,be_];grind
end
section
variable {a b a' b':Rat}(ha:qs a≤20)(hb:qs b≤20)(ha':qs a'≤20)(hb':qs b'≤20)
include ha hb ha' hb'
theorem sc_qs:qs (scT a b a' b')≤84∧qs (shT a b a' b')≤130:=by
 have h1:=go_ b' a'
 have h2:=go_ b a
 have h3:=cI_ (b'- a') (b- a)
 have h4:=cd_ (scT a b a' b') a
 have h5:=go_ a' (scT a b a' b'* a)
 have e:qs (scT a b a' b')≤84:=by unfold scT;omega
 refine⟨e,?_⟩
 unfold shT;omega
theorem bk_qs:qs (-(shT a b a' b'/ scT a b a' b'))≤220∧qs (((1:Int):Rat) / scT a b a' b')≤220:=by
 obtain⟨h1,h2⟩:=sc_qs ha hb ha' hb'
 have h3:=cI_ (shT a b a' b') (scT a b a' b')
 have h4:=cI_ ((1:Int):Rat) (scT a b a' b')
 have h5:qs ((1:Int):Rat)=1:=by decide
 rw[d9_];omega
theorem pE_{l:List Rat}(hl:l.length≤5)(hb:bdL l 6100):fx_ (bkM (scT a b a' b') (shT a b a' b')) l∧bdL (compP (bkM (scT a b a' b') (shT a b a' b')) l) 1000000∧(compP (bkM (scT a b a' b') (shT a b a' b')) l).length≤5:=by
 obtain⟨h1,h2⟩:=bk_qs ha ‹qs b≤20› ha' hb'
 obtain⟨c1,c2⟩:=jf_ _ _ 6100 220 (by omega) h1 h2 (by omega) (by omega) l (by omega) hb
 have h3:2^ l.length≤2^ 5:=Nat.pow_le_pow_right (by decide) hl
 have h4:=Nat.mul_le_mul h3 (show 6100+2* 220+4≤6544 by omega)
 exact⟨c1,bdL_mono' c2 (by omega),Nat.le_trans (dl_ _ _ l) hl⟩
theorem fw_comp{l:List Rat}(hl:l.length≤6)(hb:bdL l 256):fx_ [shT a b a' b',scT a b a' b'] l∧bdL (compP [shT a b a' b',scT a b a' b'] l) 40000∧(compP [shT a b a' b',scT a b a' b'] l).length≤6:=by
 obtain⟨h1,h2⟩:=sc_qs ha ‹qs b≤20› ha' hb'
 obtain⟨c1,c2⟩:=jf_ (shT a b a' b') (scT a b a' b') 256 130 (by omega) h2 (by omega) (by omega) (by omega) l (by omega) hb
 have h3:2^ l.length≤2^ 6:=Nat.pow_le_pow_right (by decide) hl
 have h4:=Nat.mul_le_mul h3 (show 256+2* 130+4≤520 by omega)
 exact⟨c1,bdL_mono' c2 (by omega),Nat.le_trans (dl_ _ _ l) hl⟩
end
def okReC(c:Cnt)(p:List Rat):Prop:=okBe c (-aU_ p)∧okUp c (aU_ p)∧smS (-aU_ p,aU_ p)∧d0_ p∧p.length≤1000∧1≤degP p∧degP p≤25
instance (c:Cnt) (p:List Rat):Decidable (okReC c p):=by unfold okReC;infer_instance
def realM(f:Nat)(p:List Rat):Option Bool:=(cn_ f p).bind fun c=>if okReC c p then some (decide (uptoV c (aU_ p)- dy_ c (-aU_ p)=degP p)) else none
def okOnC(p m G A:List Rat):Prop:=okBz (ao_ p) p G A∧okMul (tpQ p m) (bzA p G A)∧okDiv (mulP (tpQ p m) (bzA p G A)) p∧trimQ p=p∧2≤p.length∧p.length≤1000∧p.length≤m.length+1∧(p.length+1) * (mxL p+mxL m+1)≤137438953472∧smL p
instance (p m G A:List Rat):Decidable (okOnC p m G A):=by unfold okOnC;infer_instance
def onM(f:Nat)(p m:List Rat):Option (List Rat):=(bzL f (ao_ p) p (bT_ ((1:Int):Rat)) []).bind fun x=>if okOnC p m x.1 x.2 then some (divP (mulP (tpQ p m) (bzA p x.1 x.2)) p).2 else none
def suP(p:List Rat):List Rat:=suL (trimQ p) (dg p) (dg p- 1)
def apV(p w f:List Rat):Rat:=ofQ (apR p w f) (suP p) (apR p w f).length
instance (T:List Rat) (n k:Nat):Decidable (okSu T n k):=by unfold okSu;infer_instance
instance (f:List Rat) (s:Sp) (k:Nat):Decidable (okMo f s k):=by unfold okMo smL;infer_instance
def okAp(p w f:List Rat):Prop:=okDiv f p∧okMul w (divP f p).2∧okDiv (mulP w (divP f p).2) p∧1≤dg p∧dg p≤1000∧p.length≤1000∧(∀k,k< dg p- 1→okSu (trimQ p) (dg p) k)∧(apR p w f).length≤dg p∧((apR p w f).length+2) * (mxL (apR p w f)+mxL (suP p)+1)≤137438953472∧sm (apV p w f)
instance (p w f:List Rat):Decidable (okAp p w f):=by unfold okAp;infer_instance
def m6:List Rat:=sqL (moQ [1] (-1,1)) 6
def p13:List Rat:=[mkRat (-1) 3,0,1]
def p35:List Rat:=[0,mkRat (-3) 5,0,1]
def w35:List Rat:=[mkRat 8 9,0,mkRat (-5) 9]
def pRa:List Rat:=[mkRat (-1) 3,mkRat 2 3,1]
def wRa:List Rat:=[mkRat 5 4,mkRat 3 4]
def mRa:List Rat:=sqL (tmQ (enM (-1)) m6) (m6.length+1- (trimQ (enM (-1))).length)
def mKr:List Rat:=sqL (tmQ (ldr m6 1).1 m6) (m6.length+1- (trimQ (ldr m6 1).1).length)
theorem c_m6:m6=[2,0,mkRat 2 3,0,mkRat 2 5,0]:=by decide+kernel
theorem c_ok:(∀k,k< 2→okLd m6 k)∧(∀k,k< 6→okMo [1] (-1,1) k):=by decide+kernel
theorem c_g:(ldr m6 2).1=p13∧realM 9 p13=some true∧onM 9 p13 m6=some [1]∧aW_ p13=p13∧bdL p13 100∧trimQ p13≠[]:=by decide+kernel
theorem c_d:(∀k,k< 5→okAp p13 [1] (List.replicate k 0++[((1:Int):Rat)]))∧(∀k,k< 4→apV p13 [1] (List.replicate k 0++[((1:Int):Rat)])=coP m6 k)∧apV p13 [1] (List.replicate 4 0++[((1:Int):Rat)])≠coP m6 4:=by decide+kernel
theorem c_k:okMul (ldr m6 1).1 (ldr m6 1).1∧okOf m6 (mulP (ldr m6 1).1 (ldr m6 1).1)∧0< ldN m6 (ldr m6 1).1∧4≤mKr.length∧coP mKr 1≠0∧okMul (ldr m6 1).1 (krE mKr 1 2)∧mulP (ldr m6 1).1 (krE mKr 1 2)=p35∧bdL (ldr m6 1).1 100∧bdL m6 100∧(ldr m6 1).1.length≤1000:=by decide+kernel
instance (m:List Rat) (n k:Nat):Decidable (okKr m n k):=by unfold okKr;infer_instance
theorem c_kk:∀k,k< 2→okKr mKr 1 k:=by decide+kernel
theorem c_kp:realM 9 p35=some true∧onM 9 p35 m6=some w35∧aW_ p35=p35∧bdL p35 100∧trimQ p35≠[]:=by decide+kernel
theorem c_r:(∀k,k< 1→okLd mRa k)∧okMul (enM (-1)) (ldr mRa 1).1∧mulP (enM (-1)) (ldr mRa 1).1=pRa∧realM 9 pRa=some true∧onM 9 pRa m6=some wRa∧aW_ pRa=pRa∧bdL pRa 100∧trimQ pRa≠[]∧bdL (enM (-1)) 100:=by decide+kernel
end Go.Abs
