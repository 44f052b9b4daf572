/- Part V14 of the proof. -/
import Derived.Test.YtjjllafelolfoaaGreatDoorV13
set_option linter.all false
namespace Go.Abs
theorem mV_{e:Int}(he:e=1∨e= -1):∀(l:List Int) (t:Int),(t=1∨t= -1)→(∀s∈l,-1≤s∧s≤1)→(t::l).getLast?=some e→chL l 0 t % 2=if t=e then 0 else 1
 |[],t,ht,_,h=>by
  have:t=e:=by grind
  rw[if_pos this];rfl
 |s::l,t,ht,hs,h=>by
  have h0:=hs s (List.mem_cons_self ..);by_cases hz:s≠0;have ih:=mV_ he l s (by omega) (fun x hx=>hs x (List.mem_cons_of_mem _ hx)) (by grind);rw[chL,if_pos hz,gX_];by_cases h1:s=e;by_cases h2:s= -t;omega;omega;by_cases h2:s= -t;omega;omega;rw[chL,if_neg hz];refine mV_ he l t ht (fun x hx=>hs x (List.mem_cons_of_mem _ hx)) ?_;grind
theorem Ch.last{u:List Rat}{L:List (List Rat)}(H:Ch u L):∃e:Int,(e=1∨e= -1)∧∀x,((u::L).map (sgE x)).getLast?=some e:=by
 induction H with
 | @one u c hc hu=>
  have h:=Ch.sg (.one hc hu) 0;have hb:=cH_ 0 u;exact⟨sgE 0 u,by have:=(h 0).2;omega,fun x=>((by grind))⟩
 | @pair u v _ ih=>
  simp_all
 | @step u v w L a c q _ _ _ _ ih=>
  simp_all
theorem Ch.drop{u v:List Rat}{L:List (List Rat)}{k:Rat}(H:Ch u (v::L))(hk:0< k)(hd:∀x,evalP v x=k* dvE u x){x y:Rat}(hxy:x≤y)(hs:evalP u x* evalP u y< 0):chV (u::v::L) y+1≤chV (u::v::L) x:=by
 have h1:=H.fall hk hd hxy;obtain⟨e,he,h⟩:=H.last
 have key:∀z,sgE z u≠0→chV (u::v::L) z % 2=if sgE z u=e then 0 else 1:=fun z hz=>by
  have hb:=cH_ z u;unfold chV;rw[List.map_cons,chL,if_pos hz,if_neg (by omega)]
  exact mV_ he _ _ (by omega) (fun s hs=>by
   obtain⟨q,_,rfl⟩:=List.mem_map.1 hs;exact cH_ z q) (by grind)
 have hx0:sgE x u≠0∧sgE y u≠0∧sgE x u≠sgE y u:=by
  rcases aS_ x u with⟨a,b⟩|⟨a,b⟩|⟨a,b⟩<;> rcases aS_ y u with⟨a',b'⟩|⟨a',b'⟩|⟨a',b'⟩
  have:=Rat.mul_pos b b';grind;omega;rw[b'] at hs;grind;omega;have:=Rat.mul_pos (show 0< -evalP u x by grind) (show 0< -evalP u y by grind);grind;rw[b'] at hs;grind;rw[b] at hs;grind;rw[b] at hs;grind;rw[b] at hs;grind
 have kx:=key x hx0.1;have ky:=key y hx0.2.1;have bx:=cH_ x u;have bY:=cH_ y u;grind
theorem oc_{B x:Rat}(hB:1≤B)(hx:B≤x):∀(l:List Rat) (lead:Rat),l.getLast?=some lead→lead≠0→(∀c∈l.dropLast,ab c≤(B- 1) * ab lead)→
    ab lead≤ab (evalP l x)
 |[],_,h,_,_=>by cases h
 |[a],lead,h,h0,_=>by
  have e:a=lead:=by simpa using h
  subst e;have e:evalP [a] x=a:=by rw[al_,am_];grind
  rw[e];grind
 |a::b::m,lead,h,h0,hc=>by
  rw[List.getLast?_cons_cons] at h;rw[List.dropLast_cons_cons] at hc;have i1:=oc_ hB hx (b::m) lead h h0 fun c hcm=>hc c (List.mem_cons_of_mem _ hcm);have ha:=hc a (List.mem_cons_self ..);have e:evalP (a::b::m) x=evalP (b::m) x* x+a:=al_ ..;generalize evalP (b::m) x=w at *
  have h1:=Rat.mul_le_mul_of_nonneg_left i1 (show 0≤B- 1 by grind);have h2:=d1_ (w* x+a) (-a);rw[jR_,show w* x+a+ -a=w* x by grind,bx_] at h2;have h3:ab x=x:=by unfold ab;rw[if_neg (by grind)]
  have h4:=Rat.mul_le_mul_of_nonneg_left (show B≤ab x by rw[h3];exact hx) (ab_nn w);rw[e];grind
theorem jQ_{q:List Rat}(h:nz q){x:Rat}(hx:a1_ q≤x):ab (leadP q)≤ab (evalP q x):=by
 have hl:=List.length_pos_iff.2 h;have hg:=bk_ (l:=q) (n:=(trimQ q).length- 1) (by omega)
 have h1:=oc_ (gA_ q) hx (trimQ q) (leadP q) (by rw[List.getLast?_eq_getElem?];exact hg) (bj_ h) fun c hc=>by
  rw[List.dropLast_eq_take] at hc;have h2:=(hC_ (leadP q) _ 0).2 c hc;have h3:=bx_ (c/ leadP q) (leadP q);rw[Rat.div_mul_cancel (bj_ h)] at h3;rw[h3];have h4:=Rat.mul_le_mul_of_nonneg_right h2 (ab_nn (leadP q));unfold a1_;grind
 rwa[aT_] at h1
theorem el_(p q:List Rat):(mulP p q).length≤p.length+q.length- 1:=by
 by_cases h:p=[];subst h;unfold mulP;simp;exact e6_ p q h
theorem div_one(q:List Rat):(divP q [1]).1=trimQ q:=by
 have h1:nz [1]:=nz_one;obtain⟨m1,m2⟩:=dC_ q h1;have hd1:dg [1]=0:=by decide+kernel
 have hz:¬nz (md q [1]):=fun e=>by grind
 have:trimQ (divP q [1]).1=trimQ q:=eqv_trim.1 fun x=>by
  have:=m1 x;rw[cR_ hz,al_,am_] at this;grind
 rw[←this];exact(trim_div q [1]).1.symm
structure Lin (φ:List Rat→Rat):Prop where
 eqv:∀{p q},Eqv p q→φ p=φ q
 add:∀p q,φ (addP p q)=φ p+φ q
 scale:∀p k,φ (aw_ p k)=φ p* k
theorem Lin.zero{φ:List Rat→Rat}(H:Lin φ):φ []=0:=by
 have h:=H.scale [] 0;rw[H.eqv (p:=aw_ [] 0) (q:=[]) fun x=>by rw[an_,am_];grind] at h;grind
theorem lin_it(a b:Rat):Lin (itP a b):=⟨fun h=>jv_ h a b,qj_ a b,eL_ a b⟩
theorem Lin.ofQ{φ:List Rat→Rat}(H:Lin φ){m:List Rat}{N:Nat}(hm:∀i,i< N→coP m i=φ (gK [1] i))(p:List Rat):∀n,n≤N→n≤p.length→ofQ p m n=φ (p.take n)
 |0,_,_=>H.zero.symm
 |n+1,h1,h2=>by
  rw[Go.Abs.ofQ,Lin.ofQ H hm p n (by omega) (by omega),H.eqv (p:=p.take (n+1)) (q:=addP (p.take n) (aw_ (gK [1] n) (coP p n))) (fun x=>by
   rw[dK_ _ _ _ (by omega),bl_,an_,kh_];grind),H.add,H.scale]
  grind
theorem nz_line(r:Rat):nz [-r,1]∧dg [-r,1]=1:=by
 have h:=eJ_ (p:=[-r,1]) (n:=1) ⟨by show(1:Rat)≠0;grind,fun i hi=>ca_ (by grind)⟩;grind
theorem cancel{X Y:List Rat}{r:Rat}(h:∀x,evalP X x* (x- r)=evalP Y x* (x- r)):Eqv X Y:=by
 have hz:¬nz (subP X Y):=fun hz=>by
  have h2:=(rk_ hz (nz_line r).1).1;refine h2 (trim_nil_iff.2 (fe_ fun x=>?_));rw[ax_,a8_,dq_];grind
 intro x;have:=cR_ hz x;rw[a8_] at this;grind
def gJ(m:List Rat):Nat→List Rat
 |0=>[]
 |j+1=>coP m j::gJ m j
theorem coP_gJ(m:List Rat):∀j i,coP (gJ m j) i=if i< j then coP m (j- 1- i) else 0
 |0,i=>by rfl
 |j+1,0=>by rfl
 |j+1,i+1=>by
  show coP (gJ m j) i=_;rw[coP_gJ m j i];grind
def tL(p m:List Rat):Nat→List Rat
 |0=>[]
 |j+1=>addL (tL p m j) (ci_ (gJ m j) (coP p j))
theorem coP_tL(p m:List Rat)(i:Nat):∀j,coP (tL p m j) i=tpV p m i j
 |0=>rfl
 |j+1=>by
  rw[tL,da_,cE_,coP_tL p m i j,coP_gJ,tpV];grind
theorem pb_(p m:List Rat)(i:Nat):∀j,j≤i+1→tpV p m i j=0
 |0,_=>rfl
 |j+1,h=>by rw[tpV,if_neg (by omega),pb_ p m i j (by omega)]
theorem q8_(p m:List Rat)(x:Rat):evalP (tpQ p m) x=evalP (tL p m p.length) x:=bZ_ (fun i=>by
 unfold tpQ;rw[iG_,coP_tL];by_cases h:i< p.length- 1;rw[if_pos h];rw[if_neg h,pb_ _ _ _ _ (by omega)]) x
def GL(x:Rat):Nat→List Rat
 |0=>[]
 |j+1=>addP (aw_ (GL x j) x) (gK [1] j)
theorem rL_(x t:Rat):∀j,evalP (GL x j) t* (t- x)=t^ j- x^ j
 |0=>by show(0:Rat) * _=_;grind
 |j+1=>by
  have:=rL_ x t j;rw[GL,bl_,an_,kh_];grind
theorem pc_{φ:List Rat→Rat}(H:Lin φ){m:List Rat}{N:Nat}(hm:∀i,i< N→coP m i=φ (gK [1] i))(p:List Rat)(hp:p.length≤N+1)(x:Rat):evalP (tpQ p m) x=φ (synD p x):=by
 have hG:∀j,j≤N→φ (GL x j)=evalP (gJ m j) x:=fun j=>by
  induction j with
  |zero=>intro _;exact H.zero
  |succ j ih=>intro hj;rw[GL,H.add,H.scale,ih (by omega),←hm j (by omega),gJ,al_]
 have key:∀j,j≤p.length→φ (synD (p.take j) x)=evalP (tL p m j) x:=fun j=>by
  induction j with
  |zero=>intro _;exact H.zero
  |succ j ih=>
   intro hj
   rw[H.eqv (p:=synD (p.take (j+1)) x) (q:=addP (synD (p.take j) x) (aw_ (GL x j) (coP p j))) (cancel (r:=x) fun t=>by
    have a1:=dt_ (p.take (j+1)) x t;have a2:=dt_ (p.take j) x t;have a3:=rL_ x t j;rw[dK_ _ _ _ (by omega),dK_ _ _ _ (by omega)] at a1;rw[bl_,an_];grind),H.add,H.scale,ih (by omega),hG j (by omega),tL,bv_,a6_]
 rw[q8_,←key p.length (Nat.le_refl _),List.take_length]
theorem Mv.top{m m0:List Rat}{c r:Rat}{N:Nat}(H:Mv m m0 c r N){p p0:List Rat}{κ:Rat}(hp:p.length≤N+1)(hp0:p0.length≤N+1)(e:∀y,evalP p (c+r* y)=κ* evalP p0 y)(y:Rat):evalP (tpQ p m) (c+r* y)=κ* evalP (tpQ p0 m0) y:=by
 rw[pc_ (lin_it _ _) H.h p hp,pc_ (lin_it _ _) H.h0 p0 hp0,qi_,jv_ (p:=compP [c,r] (synD p (c+r* y))) (q:=aw_ (synD p0 y) (κ/ r)) (cancel (r:=y) fun t=>by
  have a1:=dt_ p (c+r* y) (c+r* t);have a2:=dt_ p0 y t;have h0:=H.r0;rw[bu_,dq_,an_];grind),eL_]
 have h0:=H.r0;grind
def bN:Nat→List Rat
 |1=>[0,1]
 |2=>[mkRat (-1) 3,0,1]
 |3=>[0,mkRat (-3) 5,0,1]
 |4=>[mkRat 3 35,0,mkRat (-6) 7,0,1]
 |_=>[1]
def bWt:Nat→List Rat
 |1=>[2]
 |2=>[1]
 |3=>[mkRat 8 9,0,mkRat (-5) 9]
 |4=>[mkRat 17 24,0,mkRat (-35) 72]
 |_=>[]
def bA:Nat→List Rat
 |2=>[-3]
 |3=>[0,mkRat (-25) 2]
 |4=>[mkRat 35 3,0,mkRat (-1225) 24]
 |_=>[]
def bB:Nat→List Rat
 |1=>[1]
 |2=>[0,mkRat 3 2]
 |3=>[mkRat (-5) 3,0,mkRat 25 6]
 |4=>[0,mkRat (-805) 96,0,mkRat 1225 96]
 |_=>[]
def bX(k i:Nat):Rat:=
 if i=0 then -1 else if i=k then 1 else if k=2 then 0 else if i=1 then mkRat (-1) 2 else if k=4∧i=2 then 0 else mkRat 1 2
def m0K(k:Nat):List Rat:=sqL (moQ [1] (-1,1)) (2* k)
def baseC(k:Nat):Prop:=
 (∀j,j< k+1→(ldr (m0K k) j).1=bN j)∧(∀j,j< k→0< ldN (m0K k) (ldr (m0K k) j).1)∧(bN k).length=k+1∧coP (bN k) k=1∧addP (mulP (bA k) (bN k)) (mulP (bB k) (ao_ (bN k)))=[1]∧
 (divP (subP (mulP (bWt k) (ao_ (bN k))) (tpQ (bN k) (m0K k))) (bN k)).2=[]∧(bWt k).length≤k∧(∀i,i< k→bX k i< bX k (i+1))∧(∀i,i< k→evalP (bN k) (bX k i) * evalP (bN k) (bX k (i+1))< 0)∧
 (∀j,j< k+1→bdL (bN j) 8∧(bN j).length≤5)∧bdL (bWt k) 8
instance (k:Nat):Decidable (baseC k):=by unfold baseC;infer_instance
section
variable {a b:Rat}(h:a< b){k:Nat}(hk:1≤k∧k≤4)
include h hk
end

theorem bdL_mono'{l:List Rat}{a b:Nat}(h:bdL l a)(hab:a≤b):bdL l b:=fun q hq=>Nat.le_trans (h q hq) hab
section
variable {a b:Rat}(h:a< b){k:Nat}(hk:1≤k∧k≤4)(ha:qs a≤20)(hb:qs b≤20)
include ha hb
end
section
variable {a b:Rat}(h:a< b){k:Nat}(hk:1≤k∧k≤4)
include h hk
variable (ha:qs a≤20)(hb:qs b≤20)
include ha hb
end
section
variable {a b:Rat}(h:a< b){k:Nat}(hk:1≤k∧k≤4)(ha:qs a≤20)(hb:qs b≤20)
include h hk ha hb
end
section
variable {a b a' b':Rat}(h:a< b)(h':a'< b'){k:Nat}(hk:1≤k∧k≤4)
include h h'
end
section
variable {a b a' b':Rat}(ha:qs a≤20)(hb:qs b≤20)(ha':qs a'≤20)(hb':qs b'≤20)
include ha hb ha' hb'
end
def okReC(c:Cnt)(p:List Rat):Prop:=okBe c (-a1_ p)∧okUp c (a1_ p)∧smS (-a1_ p,a1_ p)∧e5_ p∧p.length≤1000∧1≤degP p∧degP p≤25
instance (c:Cnt) (p:List Rat):Decidable (okReC c p):=by unfold okReC;infer_instance
def realM(f:Nat)(p:List Rat):Option Bool:=(b9_ f p).bind fun c=>if okReC c p then some (decide (uptoV c (a1_ p)- aM_ c (-a1_ p)=degP p)) else none
def okOnC(p m G A:List Rat):Prop:=okBz (ao_ p) p G A∧okMul (tpQ p m) (bzA p G A)∧okDiv (mulP (tpQ p m) (bzA p G A)) p∧trimQ p=p∧2≤p.length∧p.length≤1000∧p.length≤m.length+1∧(p.length+1) * (mxL p+mxL m+1)≤137438953472∧smL p
instance (p m G A:List Rat):Decidable (okOnC p m G A):=by unfold okOnC;infer_instance
def onM(f:Nat)(p m:List Rat):Option (List Rat):=(bzL f (ao_ p) p (a0_ ((1:Int):Rat)) []).bind fun x=>if okOnC p m x.1 x.2 then some (divP (mulP (tpQ p m) (bzA p x.1 x.2)) p).2 else none
def suP(p:List Rat):List Rat:=suL (trimQ p) (dg p) (dg p- 1)
def apV(p w f:List Rat):Rat:=ofQ (apR p w f) (suP p) (apR p w f).length
instance (T:List Rat) (n k:Nat):Decidable (okSu T n k):=by unfold okSu;infer_instance
instance (f:List Rat) (s:Sp) (k:Nat):Decidable (okMo f s k):=by unfold okMo smL;infer_instance
def okAp(p w f:List Rat):Prop:=okDiv f p∧okMul w (divP f p).2∧okDiv (mulP w (divP f p).2) p∧1≤dg p∧dg p≤1000∧p.length≤1000∧(∀k,k< dg p- 1→okSu (trimQ p) (dg p) k)∧(apR p w f).length≤dg p∧((apR p w f).length+2) * (mxL (apR p w f)+mxL (suP p)+1)≤137438953472∧sm (apV p w f)
instance (p w f:List Rat):Decidable (okAp p w f):=by unfold okAp;infer_instance
instance (m:List Rat) (n k:Nat):Decidable (okKr m n k):=by unfold okKr;infer_instance
theorem gS_{l:List Rat}{q:Rat}(h:q∈l):∃i,i< l.length∧coP l i=q:=by
 obtain⟨i,hi,e⟩:=List.getElem_of_mem h;exact⟨i,hi,by rw[←e];unfold coP;rw[List.getD_eq_getElem?_getD,List.getElem?_eq_getElem hi];rfl⟩
section
variable {a b:Rat}{p q:Nat}(ha:qs a≤256)(hb:qs b≤256)(hp:p≤8)(hq:q≤8)
include ha in
end

theorem coP_past(p:List Rat):∀i,(trimQ p).length≤i→coP p i=0:=fun i hi=>by
 rw[←aU_];unfold coP;rw[List.getD_eq_getElem?_getD,List.getElem?_eq_none (by omega)];rfl
theorem Lin.nil{φ:List Rat→Rat}(H:Lin φ){p:List Rat}(h:∀x,evalP p x=0):φ p=0:=by
 rw[H.eqv (p:=p) (q:=[]) fun x=>by rw[h,am_],H.zero]
abbrev oP(m:List Rat)(k:Nat):List Rat:=(ldr m k).1
abbrev oN(m:List Rat)(k:Nat):Rat:=ldN m (oP m k)
def Mon(p:List Rat)(n:Nat):Prop:=coP p n=1∧∀i,n< i→coP p i=0
section
variable {N:List Rat}(hN:nz N)(hm:leadP N=1)(h1:1≤dg N)
include hN hm h1
end

def IB(x:Rat)(h:Nat):Prop:=∃z:Int,x=(z:Rat)∧bl z.natAbs≤h
theorem IB.mono{x:Rat}{h k:Nat}(H:IB x h)(hk:h≤k):IB x k:=by obtain⟨z,e,b⟩:=H;exact⟨z,e,by omega⟩
theorem IB.zero(h:Nat):IB 0 h:=⟨0,rfl,Nat.zero_le _⟩
theorem IB.one:IB 1 1:=⟨1,rfl,by decide⟩
theorem IB.mul{x y:Rat}{h k:Nat}(H:IB x h)(K:IB y k):IB (x* y) (h+k):=by
 obtain⟨z,e,b⟩:=H;obtain⟨w,e',b'⟩:=K;exact⟨z* w,by grind,bW_ b b'⟩
theorem IB.add{x y:Rat}{h:Nat}(H:IB x h)(K:IB y h):IB (x+y) (h+1):=by
 obtain⟨z,e,b⟩:=H;obtain⟨w,e',b'⟩:=K;exact⟨z+w,by grind,gB_ b b'⟩
theorem IB.neg{x:Rat}{h:Nat}(H:IB x h):IB (-x) h:=by
 obtain⟨z,e,b⟩:=H;exact⟨-z,by grind,by grind⟩
theorem IB.eq{x y:Rat}{h:Nat}(H:IB x h)(e:x=y):IB y h:=e▸H
structure HS (p:List Rat)(K:Rat)(h:Nat):Prop where
 ne:K≠0
 sc:IB K h
 co:∀i,IB (coP p i* K) h
theorem HS.ht{p:List Rat}{K:Rat}{h:Nat}(H:HS p K h):Ht p h:=⟨K,H.ne,fun i=>by
 obtain⟨z,e,b⟩:=H.co i;grind⟩
theorem HS.bd{p:List Rat}{K:Rat}{h n:Nat}(H:HS p K h)(hp:Mon p n)(h1:1≤h):bdL p h:=fun q hq=>by
 obtain⟨i,hi,e⟩:=gS_ hq;have:=H.ht.quot i n (by rw[hp.1];decide) h1;rw[hp.1] at this;grind
theorem hz_(p q:List Rat)(n:Nat):coP (mulP p q) n=convP p q p.length n:=by
 rw[←kw_];exact trim_iff.1 (c6_ fun x=>by rw[ax_,gM_]) n
theorem rq_{p q:List Rat}{K K':Rat}{h h':Nat}(H:HS p K h)(H':HS q K' h')(n:Nat):∀i,IB (convP p q i n* (K* K')) (h+h'+i)
 |0=>(IB.zero _).eq (by show 0=0* _;grind)
 |i+1=>by
  have ih:=rq_ H H' n i
  have hx:IB ((if i≤n then coP p i* coP q (n- i) else 0) * (K* K')) (h+h'+i):=by
   split;exact(((H.co i).mul (H'.co (n- i))).eq (by grind)).mono (by omega);exact(IB.zero _).eq (by grind)
  exact((ih.add hx).eq (by rw[convP];grind)).mono (by omega)
theorem HS.mul{p q:List Rat}{K K':Rat}{h h' L:Nat}(H:HS p K h)(H':HS q K' h')(hl:p.length≤L):HS (mulP p q) (K* K') (h+h'+L) where
 ne e:=(Rat.mul_eq_zero.1 e).elim H.ne H'.ne
 sc:=(H.sc.mul H'.sc).mono (by omega)
 co i:=by
  rw[hz_];exact(rq_ H H' i p.length).mono (by omega)
theorem HS.step {p l r:List Rat} {K K' A B B' a b:Rat} {h h' M:Nat} (H:HS p K h) (H':HS l K' h') (hB:IB B (2* h+M)) (hA:IB A (2* h+M)) (hB':IB B' (2* h'+M)) (b0:B≠0) (b0':B'≠0) (ha:a* B=A)
    (hb:∀i,coP l i* b* (B'* K* K)=coP l i* K'* K'* B) (hr:∀i,coP r i=coP p i* -a+lag p i- coP l i* b):HS r (K* K* B* B') (4* h+2* h'+2* M+2) where
 ne e:=by
  rcases Rat.mul_eq_zero.1 e with e|e
  rcases Rat.mul_eq_zero.1 e with e|e
  rcases Rat.mul_eq_zero.1 e with e|e <;> exact H.ne e
  exact b0 e;grind
 sc:=(((H.sc.mul H.sc).mul hB).mul hB').mono (by omega)
 co i:=by
  have hlag:IB (lag p i* K) h:=by
   cases i with
   |zero=>exact(IB.zero h).eq (by show 0=0* K;grind)
   |succ i=>exact H.co i
  have t1:=((((H.co i).mul H.sc).mul hB').mul hA).neg;have t2:=((hlag.mul H.sc).mul hB').mul hB;have t3:=((((H'.co i).mul H'.sc).mul hB).mul hB).neg;have s1:=(t1.mono (show _≤4* h+2* h'+2* M by omega)).add (t2.mono (show _≤4* h+2* h'+2* M by omega));have s2:=s1.add (t3.mono (show _≤4* h+2* h'+2* M+1 by omega));grind
def p2(n:Nat):Rat:=((2^ n:Nat):Int)
theorem cp_(a b:Nat):p2 (a+b)=p2 a* p2 b:=by unfold p2;grind
theorem h3_:p2 0=1:=rfl
theorem e4_:p2 1=2:=rfl
theorem cw_{a b:Nat}(h:a≤b):p2 a≤p2 b:=by
 unfold p2;rw[Rat.intCast_le_intCast];have:=Nat.pow_le_pow_right (n:=2) (by omega) h;omega
theorem bH_(a:Nat):0< p2 a:=by have:=cw_ (Nat.zero_le a);rw[h3_] at this;grind
theorem p2_ge(a:Nat):1≤p2 a:=by have:=cw_ (Nat.zero_le a);rwa[h3_] at this
theorem IB.ab{x:Rat}{h:Nat}(H:IB x h):Abs.ab x≤p2 h:=by
 obtain⟨z,e,b⟩:=H;have h1:z.natAbs≤2^ h:=Nat.le_trans (Nat.le_of_lt (lt_bl z.natAbs)) (Nat.pow_le_pow_right (by omega) b);rw[e,ab_le];unfold p2;rw[←Rat.intCast_neg,Rat.intCast_le_intCast,Rat.intCast_le_intCast];omega
theorem IB.one_le{x:Rat}{h:Nat}(H:IB x h)(h0:x≠0):1≤Abs.ab x:=by
 obtain⟨z,e,_⟩:=H;have hz:z≠0:=fun g=>h0 (by simp_all);have e1:(1:Rat)=((1:Int):Rat):=rfl;rw[e,e1];refine ab_ge ?_ (by decide);rw[←Rat.intCast_neg,Rat.intCast_le_intCast,Rat.intCast_le_intCast];omega
theorem bV_p2{r H:Nat}:∀l:List Rat,(∀c∈l,ab c≤p2 H)→bV (p2 r) l≤p2 (H+(r+1) * l.length)
 |[],_=>by exact Rat.le_of_lt (bH_ _)
 |a::l,h=>by
  have h1:=bV_p2 (r:=r) l fun c hc=>h c (List.mem_cons_of_mem _ hc);have h3:=Rat.mul_le_mul_of_nonneg_right h1 (show 0≤p2 r from Rat.le_of_lt (bH_ r));have h4:p2 H≤p2 (H+(r+1) * l.length+r):=cw_ (by omega);have e:H+(r+1) * (a::l).length=H+(r+1) * l.length+r+1:=by grind
  rw[bV,e,cp_ _ 1,e4_,cp_ _ r] at *
  grind
theorem bL_p2{r H:Nat}:∀l:List Rat,(∀c∈l,ab c≤p2 H)→bL (p2 r) l≤p2 (H+(r+2) * l.length)
 |[],_=>by exact Rat.le_of_lt (bH_ _)
 |a::l,h=>by
  have h1:=bL_p2 (r:=r) l fun c hc=>h c (List.mem_cons_of_mem _ hc);have h0:=bV_p2 (r:=r) l fun c hc=>h c (List.mem_cons_of_mem _ hc);have h3:=Rat.mul_le_mul_of_nonneg_right h1 (show 0≤p2 r from Rat.le_of_lt (bH_ r));have h4:p2 (H+(r+1) * l.length)≤p2 (H+(r+2) * l.length+r):=cw_ (by grind);have e:H+(r+2) * (a::l).length=H+(r+2) * l.length+r+1+1:=by grind
  have h5:p2 (H+(r+2) * l.length+r) * 2≤p2 (H+(r+2) * l.length+r+1+1):=by
   rw[cp_ _ 1,cp_ _ 1,e4_];have:=bH_ (H+(r+2) * l.length+r);grind
  rw[bL];rw[cp_ _ r] at h4 h5;grind
def sF:Nat→Nat→Nat→Nat→Nat→Nat→Nat
 |0,_,_,_,_,_=>0
 |f+1,m,n,h,g,r=>(h+(m+1- n) * (g+1))+g+(r+1) * (m+1- n)+1+((List.range n).map fun k=>if k=0 then 0 else sF f n k g (h+(m+1- n) * (g+1)) r).foldl max 0
theorem lD_:∀(l:List Nat) (a:Nat),a≤l.foldl max a∧∀x∈l,x≤l.foldl max a
 |[],a=>⟨Nat.le_refl _,fun x h=>by cases h⟩
 |b::l,a=>by
  obtain⟨h1,h2⟩:=lD_ l (max a b);grind
theorem sF_sub{f m n h g r k:Nat}(hk:k< n)(h0:k≠0):sF f n k g (h+(m+1- n) * (g+1)) r+((h+(m+1- n) * (g+1))+g+(r+1) * (m+1- n)+1)≤sF (f+1) m n h g r:=by
 rw[sF];have:=(lD_ ((List.range n).map fun k=>if k=0 then 0 else sF f n k g (h+(m+1- n) * (g+1)) r) 0).2 (sF f n k g (h+(m+1- n) * (g+1)) r) (List.mem_map.2 ⟨k,List.mem_range.2 hk,by grind⟩);omega
theorem tri{a b c A B:Rat}(h:a≤b+c)(h1:b≤A)(h2:c≤B):a≤A+B:=by grind
theorem two_le{A B a b w M:Rat}(h1:A* a≤A* w)(h2:B* b≤B* w)(h3:(A+B) * w≤M* w):A* a+B* b≤M* w:=by grind
theorem last_le{T w N N' M S:Rat}(h1:1≤T* N')(h2:T* N'≤S* N')(h3:S* N'≤M* w* N')(h4:w* (N'* M)≤w* N)(h5:w* N< 1):False:=by grind
theorem low:∀(f m n h g r:Nat) (p q:List Rat) (k l:Rat),n< f→(trimQ p).length=m→(trimQ q).length=n→n≤m→nz q→k≠0→l≠0→HtF (coP p) k h→HtF (coP q) l g→(∀d,nz d→Dv d p→Dv d q→dg d=0)→
    ∀x,ab x≤p2 r→1≤ab (k* evalP p x) * p2 (sF f m n h g r)∨1≤ab (l* evalP q x) * p2 (sF f m n h g r)
 |0,_,_,_,_,_,_,_,_,_,hf,_,_,_,_,_,_,_,_,_,_,_=>by omega
 |f+1,m,n,h,g,r,p,q,k,l,hf,hm,hn,hnm,nq,k0,l0,hp,hq,hco,x,hx=>by
  have hqI:∀i,IB (coP q i* l) g:=fun i=>hq i;have hpI:∀i,IB (coP p i* k) h:=fun i=>hp i;have np:nz p:=fun e=>by rw[e] at hm;have:=List.length_pos_iff.2 nq;grind
  obtain⟨m1,m2⟩:=dC_ p nq;by_cases hw:nz (md p q);rotate_left
  -- the second one is a number
  have hd:dg q=0:=hco q nq ⟨(divP p q).1,fun x=>by have:=m1 x;rw[cR_ hw] at this;grind⟩ (.refl q);obtain⟨c,c0,hc⟩:=g1_ nq hd
  have h0:coP q 0=c:=by
   have:trimQ q=trimQ [c]:=eqv_trim.1 fun x=>by rw[hc,al_,am_];grind
   exact trim_iff.1 this 0
  right;have h1:=(hqI 0).one_le (by rw[h0];intro e;rcases Rat.mul_eq_zero.1 e with e|e;exact c0 e;exact l0 e);rw[hc,←h0];have h2:=Rat.mul_le_mul_of_nonneg_left (p2_ge (sF (f+1) m n h g r)) (ab_nn (coP q 0* l));rw[show l* coP q 0=coP q 0* l by grind];grind
  -- one step of the division
  have hl1:=List.length_pos_iff.2 nq;have hgq:=bk_ (l:=q) (n:=(trimQ q).length- 1) (by omega);have hc:coP (trimQ q) ((trimQ q).length- 1)=leadP q:=by unfold coP;rw[List.getD_eq_getElem?_getD,hgq];rfl
  obtain⟨k',k1,k2,k3⟩:=mJ_ hc (bj_ nq) l0 (fun i=>by rw[aU_];exact hq i) (m+1- n) (List.replicate (m+1- n) 0) (trimQ p) k h k0 (fun i=>by rw[aU_];exact hp i) fun i=>by
   refine⟨0,?_,Nat.zero_le _⟩
   have:coP (List.replicate (m+1- n) (0:Rat)) i=0:=by
    unfold coP;rw[List.getD_eq_getElem?_getD,List.getElem?_replicate];split <;> rfl
   rw[this,Rat.zero_mul];rfl
  have q1:∀i,IB (coP (divP p q).1 i* (k'/ l)) (h+(m+1- n) * (g+1)):=fun i=>by
   have:(divP p q).1=trimQ (divR (trimQ q) (leadP q) (m+1- n) (List.replicate (m+1- n) 0) (trimQ p)).1:=by unfold divP;simp only[hm,hn]
   rw[this,aU_];exact k2 i
  have q2:HtF (coP (md p q)) k' (h+(m+1- n) * (g+1)):=fun i=>by
   have:md p q=trimQ (divR (trimQ q) (leadP q) (m+1- n) (List.replicate (m+1- n) 0) (trimQ p)).2:=by unfold md divP;simp only[hm,hn]
   rw[this,aU_];exact k3 i
  have hwl:(trimQ (md p q)).length< n:=by have:=m2 hw;unfold dg at this;have:=List.length_pos_iff.2 hw;omega
  have hwl0:(trimQ (md p q)).length≠0:=by have:=List.length_pos_iff.2 hw;omega
  generalize hH:h+(m+1- n) * (g+1)=H at *
  have ih:=low f n (trimQ (md p q)).length g H r q (md p q) l k' (by omega) hn rfl (by omega) hw l0 k1 hq q2 (fun d d0 d1 d2=>hco d d0 (d1.lin d2 (u:=(divP p q).1) (v:=[1]) fun x=>by rw[m1 x,al_,am_];grind) d1) x hx;have hF:=sF_sub (f:=f) (m:=m) (h:=h) (g:=g) (r:=r) hwl hwl0;rw[hH] at hF
  -- the quotient's first number
  have nQ1:nz (divP p q).1∧leadP p=leadP (divP p q).1* leadP q∧dg (divP p q).1+dg q=dg p:=by
   have hQ:nz (divP p q).1:=fun e=>by
    have e':∀x,evalP (divP p q).1 x=0:=cR_ fun h=>h e;have:dg p=dg (md p q):=dg_eqv fun x=>by rw[m1 x,e'];grind
    have:=m2 hw;unfold dg at *;omega
   have hs:=dg_mul' (r:=mulP (divP p q).1 q) hQ nq (fun x=>ax_ _ _ x);have:=dg_add (q:=md p q) (r:=p) hs.1 (fun _=>by rw[hs.2.1];have:=m2 hw;omega) (fun x=>by rw[m1 x,ax_]);exact⟨hQ,by rw[this.2.2,hs.2.2],by rw[this.2.1,hs.2.1]⟩
  have hkk:k'/ l* l=k':=Rat.div_mul_cancel l0;obtain⟨κ,eκ⟩:∃κ,κ* k=k':=⟨k'/ k,Rat.div_mul_cancel k0⟩
  have hκ:ab κ≤p2 (H+g):=by
   have a1:=(q1 (dg (divP p q).1)).ab;have a2:=(hqI (dg q)).ab;have a3:=(hpI (dg p)).one_le (by rw[(b3_ np).2];intro e;rcases Rat.mul_eq_zero.1 e with e|e;exact bj_ np e;exact k0 e);rw[(b3_ nQ1.1).2] at a1;rw[(b3_ nq).2] at a2;rw[(b3_ np).2] at a3
   have a4:κ* (leadP p* k)=leadP (divP p q).1* (k'/ l) * (leadP q* l):=by
    rw[nQ1.2.1];have:leadP (divP p q).1* (k'/ l) * (leadP q* l)=leadP (divP p q).1* leadP q* (k'/ l* l):=by grind
    rw[this,hkk,←eκ];grind
   have a5:=bC_ a1 a2 (ab_nn _) (Rat.le_of_lt (bH_ H));rw[←bx_,←a4,bx_,←cp_] at a5;have a6:=Rat.mul_le_mul_of_nonneg_left a3 (ab_nn κ);grind
  have hQv:ab (k'/ l* evalP (divP p q).1 x)≤p2 (H+(r+1) * (m+1- n)):=by
   have b1:(aw_ (divP p q).1 (k'/ l)).length≤m+1- n:=by
    have c1:=dT_ (trimQ q) (leadP q) ((trimQ p).length+1- (trimQ q).length) (List.replicate ((trimQ p).length+1- (trimQ q).length) 0) (trimQ p);have c2:=aD_ (divR (trimQ q) (leadP q) ((trimQ p).length+1- (trimQ q).length) (List.replicate ((trimQ p).length+1- (trimQ q).length) 0) (trimQ p)).1;rw[c1.1,List.length_replicate,hm,hn] at c2;have c3:(divP p q).1.length≤m+1- n:=by unfold divP;simp only[hm,hn];exact c2
    have c4:=a3_ (divP p q).1 (k'/ l);omega
   have b2:=bV_p2 (r:=r) (H:=H) (aw_ (divP p q).1 (k'/ l)) fun c hc=>by
    obtain⟨i,_,e⟩:=gS_ hc;rw[←e,bA_];exact(q1 i).ab
   have b3:=cr_ (Rat.le_of_lt (bH_ r)) hx (aw_ (divP p q).1 (k'/ l));rw[an_] at b3;have b4:p2 (H+(r+1) * (aw_ (divP p q).1 (k'/ l)).length)≤p2 (H+(r+1) * (m+1- n)):=cw_ (by have:=Nat.mul_le_mul_left (r+1) b1;omega);rw[show k'/ l* evalP (divP p q).1 x=evalP (divP p q).1 x* (k'/ l) by grind];grind
  generalize hN:sF (f+1) m n h g r=N at *
  generalize hN':sF f n (trimQ (md p q)).length g H r=N' at *
  have hM:p2 N'* p2 (H+g+(r+1) * (m+1- n)+1)≤p2 N:=by rw[←cp_];exact cw_ (by omega)
  have hM1:p2 (H+g)+p2 (H+(r+1) * (m+1- n))≤p2 (H+g+(r+1) * (m+1- n)+1):=by
   have:=cw_ (show H+g≤H+g+(r+1) * (m+1- n) by omega);have:=cw_ (show H+(r+1) * (m+1- n)≤H+g+(r+1) * (m+1- n) by omega);rw[cp_ _ 1,e4_];grind
  have hM2:=p2_ge (H+g+(r+1) * (m+1- n)+1);generalize p2 (H+g+(r+1) * (m+1- n)+1)=M at *
  have pN:=bH_ N;have pN':=bH_ N';by_cases hq1:1≤ab (l* evalP q x) * p2 N;exact .inr hq1;left;by_cases hp1:1≤ab (k* evalP p x) * p2 N;exact hp1;exfalso;have nP:=ab_nn (k* evalP p x);have nQ:=ab_nn (l* evalP q x);have s1:p2 N'≤p2 N:=by have:=Rat.mul_le_mul_of_nonneg_left hM2 (Rat.le_of_lt pN');grind
  rcases ih with g1|g1
  have:=Rat.mul_le_mul_of_nonneg_left s1 nQ;grind
  have e1:k'* evalP (md p q) x=κ* (k* evalP p x)- k'/ l* evalP (divP p q).1 x* (l* evalP q x):=by
   have z1:=m1 x;have:k'/ l* evalP (divP p q).1 x* (l* evalP q x)=(k'/ l* l) * (evalP (divP p q).1 x* evalP q x):=by grind
   rw[this,hkk,←eκ,z1];grind
  have e2:=d1_ (κ* (k* evalP p x)) (-(k'/ l* evalP (divP p q).1 x* (l* evalP q x)));rw[jR_,←Rat.sub_eq_add_neg,←e1,bx_ κ,bx_ (k'/ l* evalP (divP p q).1 x)] at e2
  -- both are less than 1/ N
  have t1:=Rat.mul_le_mul_of_nonneg_right hκ nP;have t2:=Rat.mul_le_mul_of_nonneg_right hQv nQ;have t3:ab (k'* evalP (md p q) x) * p2 N'≤(p2 (H+g) * ab (k* evalP p x)+p2 (H+(r+1) * (m+1- n)) * ab (l* evalP q x)) * p2 N':=Rat.mul_le_mul_of_nonneg_right (tri e2 t1 t2) (Rat.le_of_lt pN')
  obtain⟨w,hw1,hw2,hw3⟩:∃w,ab (k* evalP p x)≤w∧ab (l* evalP q x)≤w∧w* p2 N< 1:=by
   by_cases g:ab (k* evalP p x)≤ab (l* evalP q x);exact⟨_,g,by grind,by grind⟩;exact⟨_,by grind,by grind,show ab (k* evalP p x) * p2 N< 1 by grind⟩
  have w0:0≤w:=by grind
  have t4:=Rat.mul_le_mul_of_nonneg_left hw1 (Rat.le_of_lt (bH_ (H+g)));have t5:=Rat.mul_le_mul_of_nonneg_left hw2 (Rat.le_of_lt (bH_ (H+(r+1) * (m+1- n))));have t6:=Rat.mul_le_mul_of_nonneg_right hM1 w0;have t7:=Rat.mul_le_mul_of_nonneg_right (two_le t4 t5 t6) (Rat.le_of_lt pN');have t8:=Rat.mul_le_mul_of_nonneg_left hM w0;grind
theorem near_far{U:List Rat}{H F r L:Nat}(hU:∀c∈U,ab c≤p2 H)(hl:U.length≤L){x y:Rat}(hx:ab x≤p2 r)(hy:ab y≤p2 r)(h1:1≤ab (evalP U x) * p2 F)(hd:(y- x) * p2 (F+(H+(r+2) * L)+1)≤1):Far U x y:=by
 have hR:=Rat.le_of_lt (bH_ r);have pF:=bH_ F;obtain⟨e,he,e1⟩:=part 1 (d:=p2 F* 2) (by grind) (by grind);refine⟨e,he,fun z a b=>?_⟩;have hz:ab z≤p2 r:=by rw[ab_le] at *;grind
 have q1:=dz_ hR hx hz U;rw[show ab (z- x)=z- x by unfold ab;grind] at q1
 have q2:bL (p2 r) U≤p2 (H+(r+2) * L):=by
  have:=bL_p2 (r:=r) U hU;have:=cw_ (show H+(r+2) * U.length≤H+(r+2) * L by have:=Nat.mul_le_mul_left (r+2) hl;omega);grind
 have q3:=Rat.mul_le_mul_of_nonneg_right q2 (show 0≤z- x by grind);have q4:=Rat.mul_le_mul_of_nonneg_left (show z- x≤y- x by grind) (Rat.le_of_lt (bH_ (H+(r+2) * L)));rw[cp_,cp_,e4_] at hd;generalize p2 (H+(r+2) * L)=D at *
 have q5:D* (y- x)≤e:=dy_ (show 0< p2 F* 2 by grind) (by grind);have q6:2* e≤ab (evalP U x):=dy_ pF (by grind);have q7:=ab_le.1 (show ab (evalP U z- evalP U x)≤e by grind);rcases iR_ q6 with g|g
 exact ab_ge (.inl (by grind)) (by grind);exact ab_ge (.inr (by grind)) (by grind)
theorem pu_ {p q:List Rat} {k l:Rat} {m n h g r J:Nat} (hm:(trimQ p).length=m) (hn:(trimQ q).length=n) (hnm:n≤m) (nq:nz q) (k0:k≠0) (l0:l≠0) (hp:HtF (coP p) k h) (hq:HtF (coP q) l g) (hco:∀d,nz d→Dv d p→Dv d q→dg d=0)
    (hJ1:sF (n+1) m n h g r+(h+(r+2) * m)+1≤J) (hJ2:sF (n+1) m n h g r+(g+(r+2) * m)+1≤J) {x y:Rat} (hxy:x≤y) (hx:ab x≤p2 r) (hy:ab y≤p2 r) (hd:(y- x) * p2 J≤1):Far p x y∨Far q x y:=by
 have one:∀(u:List Rat) (k:Rat) (h:Nat),k≠0→HtF (coP u) k h→(trimQ u).length≤m→sF (n+1) m n h g r=sF (n+1) m n h g r→∀F,F+(h+(r+2) * m)+1≤J→1≤ab (k* evalP u x) * p2 F→Far u x y:=fun u k h k0 hu hl _ F hF h1=>by
  have dv:Dv u (aw_ (trimQ u) k):=⟨[k],fun x=>by rw[an_,aT_,al_,am_];grind⟩;refine Far.dv (near_far (U:=aw_ (trimQ u) k) (H:=h) (F:=F) (r:=r) (L:=m) (fun c hc=>?_) (Nat.le_trans (a3_ _ _) hl) hx hy ?_ ?_) dv;obtain⟨i,_,e⟩:=gS_ hc;rw[←e,bA_,aU_];exact IB.ab (h:=h) (hu i);rw[an_,aT_,show evalP u x* k=k* evalP u x by grind];exact h1;have:=Rat.mul_le_mul_of_nonneg_left (cw_ hF) (show 0≤y- x by grind);grind
 rcases low (n+1) m n h g r p q k l (by omega) hm hn hnm nq k0 l0 hp hq hco x hx with h1|h1
 exact .inl (one p k h k0 hp (by omega) rfl _ hJ1 h1);grind
theorem Far.ext{p:List Rat}{x y:Rat}(h:Far p x y)(hxy:x≤y):∃δ:Rat,0< δ∧Far p (x- δ) (y+δ):=by
 obtain⟨e,he,hf⟩:=h;have hR:0≤ab x+ab y+1:=by have:=fo_ x y;grind
 have hL:=bL_nn hR p;obtain⟨d,d0,d1⟩:=part (e/ 2) (d:=bL (ab x+ab y+1) p+1) (by grind) (by grind);obtain⟨δ,e0,e1,e2⟩:=less d 1 d0 (by grind);refine⟨δ,e0,e/ 2,by grind,fun z a b=>?_⟩
 have hin:∀w,x- 1≤w→w≤y+1→ab w≤ab x+ab y+1:=fun w w1 w2=>by
  have a1:=ab_le (x:=x) (c:=ab x)|>.1 (by grind);have a2:=ab_le (x:=y) (c:=ab y)|>.1 (by grind);have:=ab_nn x;have:=ab_nn y;exact ab_le.2 ⟨by grind,by grind⟩
 obtain⟨w,w1,w2,w3⟩:∃w,x≤w∧w≤y∧ab (z- w)≤δ:=by
  by_cases g1:z≤x;exact⟨x,by grind,hxy,ab_le.2 ⟨by grind,by grind⟩⟩;by_cases g2:z≤y;exact⟨z,by grind,g2,ab_le.2 ⟨by grind,by grind⟩⟩;exact⟨y,hxy,by grind,ab_le.2 ⟨by grind,by grind⟩⟩
 have q1:=dz_ hR (hin w (by grind) (by grind)) (hin z (by grind) (by grind)) p;have q2:=Rat.mul_le_mul_of_nonneg_left (show ab (z- w)≤d by grind) hL;have q3:=ab_le.1 (show ab (evalP p z- evalP p w)≤e/ 2 by grind);rcases iR_ (hf w w1 w2) with g|g
 exact ab_ge (.inl (by grind)) (by grind);exact ab_ge (.inr (by grind)) (by grind)
theorem Far.join{p:List Rat}{x y z w:Rat}(h1:Far p x y)(h2:Far p z w)(h:z≤y):Far p x w:=by
 obtain⟨e,he,hf⟩:=h1;obtain⟨g,hg,hG⟩:=h2;obtain⟨d,d0,d1,d2⟩:=less e g he hg;refine⟨d,d0,fun u a b=>?_⟩;grind
theorem Sq.one{u:List Rat}{L:List (List Rat)}(H:Sq u L){x y:Rat}(hxy:x≤y)(hF:Far (ao_ u) x y):chV (u::L) x- chV (u::L) y≤1:=by
 cases L with
 |nil=>rw[gW_,gW_];decide
 |cons v M=>
  obtain⟨k,k0,hk⟩:=H.2 v M rfl;have hv:Far v x y:=hF.k (k:=k) (by grind) fun z=>by rw[aI_];grind
  have tail:Ch v M:=by
   cases H.1 with
   |pair h=>exact h
   |step _ _ _ h=>exact h
  have hs:=hv.sg hxy (by grind);obtain⟨e,he,hf⟩:=hv;have t:=tail.same he hxy hf
  have sx:sgE x v=1∨sgE x v= -1:=by
   have:=sgE_ne.2 (Far.ne ⟨e,he,hf⟩ (show x≤x by grind) hxy);have:=cH_ x v;omega
  have a:=hB_ (l:=M.map (sgE x)) sx (cH_ x u);have b:=hB_ (l:=M.map (sgE y)) (by grind:sgE y v=1∨sgE y v= -1) (cH_ y u);unfold chV at *
  have ch1:∀(s:Int) (l:List Int),s≠0→chL (s::l) 0 0=chL l 0 s:=fun s l h=>by rw[chL,if_pos h,if_neg (by omega)]
  grind
section
variable {f:Nat}{p:List Rat}{c:Cnt}(h:b9_ f p=some c)(hp:nz p)
include h hp
theorem rp_{x y:Rat}(hxy:x≤y)(hF:Far (ao_ c.p) x y):uptoV c y≤aM_ c x+1:=by
 obtain⟨hSF,hdv,L,k,e,k0,hk,hS⟩:=es_ h hp;have kn:k≠0:=by grind
 obtain⟨δ,d0,hδ⟩:=hF.ext hxy;have hu:Far (ao_ (primP c.p)) (x- δ) y:=(hδ.sub (by grind) (by grind)).k kn fun z=>by rw[aI_,aI_,dvE_k hk]
 have h1:=hS.one (by grind) hu;have h2:=cj_ h hp (show x- δ< x by grind);unfold uptoV at h2⊢;rw[e] at *
 unfold chV at h1;omega
def At(c:Cnt)(i:Int)(x y:Rat):Prop:=x≤y∧aM_ c x≤i∧i< uptoV c y
theorem iO_{i:Int}{x y x' y':Rat}(a:At c i x y)(b:At c i x' y'):∃u v,x≤u∧x'≤u∧v≤y∧v≤y'∧At c i u v:=by
 have ord:∀u v,aM_ c u≤i→i< uptoV c v→u≤v:=fun u v h1 h2=>by
  by_cases g:u≤v;exact g;have:=cj_ h hp (show v< u by grind);omega
 obtain⟨u,u1,u2,u3⟩:∃u,x≤u∧x'≤u∧aM_ c u≤i:=by
  by_cases g:x≤x';exact⟨x',g,by grind,b.2.1⟩;exact⟨x,by grind,by grind,a.2.1⟩
 obtain⟨v,v1,v2,v3⟩:∃v,v≤y∧v≤y'∧i< uptoV c v:=by
  by_cases g:y≤y';exact⟨y,by grind,g,a.2.2⟩;exact⟨y',by grind,by grind,b.2.2⟩
 exact⟨u,v,u1,u2,v1,v2,ord u v u3 v3,u3,v3⟩
theorem at_not{i:Int}{x y:Rat}(a:At c i x y):¬Far p x y:=fun g=>by
 have:=(c9_ h hp a.1).2 g;have:=a.2.1;have:=a.2.2;omega
omit h hp in
def Sgn(c:Cnt)(i:Int)(q:List Rat)(t:Int):Prop:=∃x y,At c i x y∧Far q x y∧sgE x q=t
theorem m6_{i:Int}{q:List Rat}{s t:Int}(a:Sgn c i q s)(b:Sgn c i q t):s=t:=by
 obtain⟨x,y,a1,a2,rfl⟩:=a;obtain⟨z,w,b1,b2,rfl⟩:=b;obtain⟨u,v,h1,h2,h3,h4,h5⟩:=iO_ h hp a1 b1;rw[←a2.sg h1 (by have:=h5.1;grind),←b2.sg h2 (by have:=h5.1;grind)]
theorem kD_{i:Int}{x y:Rat}(a:At c i x y){d:Rat}(hd:0< d):∃u v,x≤u∧v≤y∧v- u≤d∧At c i u v:=by
 have key:∀(n:Nat) (x y:Rat),At c i x y→y- x≤((n:Int):Rat) * d→∃u v,x≤u∧v≤y∧v- u≤d∧At c i u v:=fun n=>by
  induction n with
  |zero=>
   grind
  |succ n ih=>
   intro x y a e;by_cases g:y- x≤d;exact⟨x,y,by grind,by grind,g,a⟩;by_cases g2:i< uptoV c (x+d);exact⟨x,x+d,by grind,by grind,by grind,by grind,a.2.1,g2⟩;have b1:aM_ c (x+d)≤i:=by have:=(cn_ (c:=c) h hp (x+d)).1;omega
   obtain⟨u,v,h1,h2,h3,h4⟩:=ih (x+d) y ⟨by grind,b1,a.2.2⟩ (by grind);grind
 obtain⟨n,hn⟩:=arch (y- x) hd;grind
theorem oo_{i:Int}{x y:Rat}(a:At c i x y)(h1:uptoV c y≤aM_ c x+1){P q G:List Rat}(hP1:∀x y,At c i x y→¬Far P x y)(hP2:∀x y,x≤y→uptoV c y=aM_ c x→Far P x y)(gp:Dv G P)(gq:Dv G q)(hb:∃u v:List Rat,∀z,evalP G z=evalP u z* evalP P z+evalP v z* evalP q z):
    Far G x y↔∃t,Sgn c i q t:=by
 obtain⟨a1,a2,a3⟩:=a;constructor;rintro⟨e,he,hf⟩;obtain⟨u,v,hb⟩:=hb;have hR:=fo_ x y;have hU:=bV_nn hR u;have hL:=bL_nn hR P;obtain⟨ε,ε0,ε1⟩:=part (e/ 4) (d:=bV (ab x+ab y) u+1) (by grind) (by grind);obtain⟨δ,δ0,δ1⟩:=part ε (d:=bL (ab x+ab y) P+1) ε0 (by grind);obtain⟨z,w,z1,z2,z3,z4⟩:=kD_ h hp ⟨a1,a2,a3⟩ δ0
 -- p is small there
 have hsm:∃s,z≤s∧s≤w∧ab (evalP P s)< ε:=by
  apply Classical.byContradiction;intro hn;refine hP1 z w z4 ⟨ε,ε0,fun s s1 s2=>?_⟩;grind
 obtain⟨s,s1,s2,s3⟩:=hsm;have hin:∀t,z≤t→t≤w→ab t≤ab x+ab y:=fun t t1 t2=>ab_in (by grind) (by grind)
 have hq:Far q z w:=by
  refine Far.dv (p:=mulP v q) ⟨e/ 2,by grind,fun t t1 t2=>?_⟩ ⟨v,fun x=>ax_ v q x⟩;have q1:=dz_ hR (hin s s1 s2) (hin t t1 t2) P;have q2:=Rat.mul_le_mul_of_nonneg_left (show ab (t- s)≤δ from ab_le.2 ⟨by grind,by grind⟩) hL;have q3:=d1_ (evalP P t- evalP P s) (evalP P s);rw[show evalP P t- evalP P s+evalP P s=evalP P t by grind] at q3;have q4:ab (evalP P t)≤2* ε:=by grind
  have q5:=bC_ (cr_ hR (hin t t1 t2) u) q4 (ab_nn _) hU;have q6:=hf t (by grind) (by grind);rw[hb] at q6;have q7:=d1_ (evalP u t* evalP P t) (evalP v t* evalP q t);rw[bx_ (evalP u t)] at q7;rw[ax_];grind
 exact⟨_,z,w,z4,hq,rfl⟩;rintro⟨t,z,w,b1,b2,_⟩;obtain⟨u,v,u1,u2,v1,v2,huv⟩:=iO_ h hp ⟨a1,a2,a3⟩ b1;obtain⟨uv,hu,hv⟩:=huv;have hG:Far G u v:=(b2.sub u2 v2).dv gq;obtain⟨δ,δ0,hδ⟩:=hG.ext uv
 have left:Far G x (v+δ):=by
  by_cases g:u- δ/ 2≤x;exact hδ.sub (by grind) (by grind);have q1:=cj_ h hp (show u- δ/ 2< u by grind)
  have q2:uptoV c (u- δ/ 2)=aM_ c x:=by
   have:=cX_ h hp (show x≤u- δ/ 2 by grind);have:=(cn_ (c:=c) h hp x).1;omega
  have q3:=hP2 _ _ (show x≤u- δ/ 2 by grind) q2;exact(q3.dv gp).join hδ (by grind)
 by_cases g:y≤v+δ/ 2;exact left.sub (by grind) (by grind);have q1:=cj_ h hp (show v< v+δ/ 2 by grind)
 have q2:uptoV c y=aM_ c (v+δ/ 2):=by
  have:=cX_ h hp (show v+δ/ 2≤y by grind);have:=(cn_ (c:=c) h hp (v+δ/ 2)).1;omega
 have q3:=hP2 _ _ (show v+δ/ 2≤y by grind) q2;exact left.join (q3.dv gp) (by grind)
end
def sZ(f:Nat→Int):Nat→Int
 |0=>0
 |n+1=>sZ f n+f n
theorem sZ_dvd{c:Int}{f:Nat→Int}:∀{n:Nat},(∀a,a< n→c∣f a)→c∣sZ f n
 |0,_=>Int.dvd_zero _
 |n+1,h=>Int.dvd_add (sZ_dvd fun a ha=>h a (by omega)) (h n (by omega))
theorem sZ_one{c:Int}{f:Nat→Int}{i:Nat}:∀{n:Nat},c∣sZ f n→i< n→(∀a,a< n→a≠i→c∣f a)→c∣f i
 |0,_,hi,_=>by omega
 |n+1,h,hi,ho=>by
  by_cases e:i=n;subst e;exact(Int.dvd_iff_dvd_of_dvd_add h).1 (sZ_dvd fun a ha=>ho a (by omega) (by omega));have h1:=ho n (by omega) (by omega);exact sZ_one ((Int.dvd_iff_dvd_of_dvd_add h).2 h1) (by omega) fun a ha=>ho a (by omega)
theorem sZ_sub{c k:Int}{f g:Nat→Int}:∀{n:Nat},(∀a,a< n→c∣f a- k* g a)→c∣sZ f n- k* sZ g n
 |0,_=>by simp[sZ]
 |n+1,h=>by
  have h1:=sZ_sub (f:=f) (g:=g) (k:=k) (c:=c) (n:=n) fun a ha=>h a (by omega);have h2:=h n (by omega);have:=Int.dvd_add h1 h2;rw[sZ,sZ];grind
def cvZ(f g:Nat→Int)(n:Nat):Int:=sZ (fun a=>f a* g (n- a)) (n+1)
theorem cv_dvd{c:Int}{f:Nat→Int}{N:Nat}(hf:∀i,N≤i→f i=0)(hc:∀r:Int,(∀i,c∣r* f i)→c∣r):∀(M:Nat) (g:Nat→Int),(∀j,M≤j→g j=0)→(∀n,c∣cvZ f g n)→∀j,c∣g j
 |0,g,hg,_,j=>by simp_all
 |M+1,g,hg,h,j=>by
  have key:∀k i,i+k+1=N∨N≤i→∀j,c∣f i* g j:=by
   intro k
   induction k using Nat.strongRecOn with
   |_ k ih=>
   intro i hi;rcases hi with hi|hi
   rotate_left;intro j;rw[hf i hi,Int.zero_mul];exact Int.dvd_zero _
   have up:∀i',i< i'→∀j,c∣f i'* g j:=by
    intro i' h';by_cases e:N≤i';intro j;rw[hf i' e,Int.zero_mul];exact Int.dvd_zero _;exact ih (N- i'- 1) (by omega) i' (.inl (by omega))
   have top:c∣f i* g M:=by
    have:=sZ_one (i:=i) (h (i+M)) (by omega) fun a ha hne=>by
     by_cases e:a< i;show c∣f a* g (i+M- a);rw[hg (i+M- a) (by omega),Int.mul_zero];exact Int.dvd_zero _;grind
    grind
   have rest:=cv_dvd hf hc M (fun j=>if j< M then f i* g j else 0) (fun j hj=>if_neg (by omega)) fun n=>by
    have e:=sZ_sub (c:=c) (k:=f i) (f:=fun a=>f a* (if n- a< M then f i* g (n- a) else 0)) (g:=fun a=>f a* g (n- a)) (n:=n+1) fun a ha=>by
     show c∣f a* (if n- a< M then f i* g (n- a) else 0)- f i* (f a* g (n- a));by_cases e:n- a< M;rw[if_pos e,show f a* (f i* g (n- a))- f i* (f a* g (n- a))=0 by grind];exact Int.dvd_zero _;rw[if_neg e];by_cases e2:n- a=M;rw[e2,show f a* 0- f i* (f a* g M)=f i* g M* -f a by grind];exact Int.dvd_mul_of_dvd_left top;rw[hg (n- a) (by omega),show f a* 0- f i* (f a* 0)=0 by grind];exact Int.dvd_zero _
    have e2:c∣f i* sZ (fun a=>f a* g (n- a)) (n+1):=Int.dvd_mul_of_dvd_right (h n);have:=Int.dvd_add e e2;rwa[Int.sub_add_cancel] at this
   grind
  refine hc _ fun i=>?_;rw[Int.mul_comm];by_cases e:N≤i;rw[hf i e,Int.zero_mul];exact Int.dvd_zero _;exact key (N- i- 1) i (.inl (by omega)) j
def gZ(f:Nat→Int):Nat→Nat
 |0=>0
 |n+1=>Nat.gcd (gZ f n) (f n).natAbs
theorem gZ_dvd{f:Nat→Int}:∀{n i:Nat},i< n→gZ f n∣(f i).natAbs
 |n+1,i,h=>by
  by_cases e:i=n;rw[e];exact Nat.gcd_dvd_right _ _;exact Nat.dvd_trans (Nat.gcd_dvd_left _ _) (gZ_dvd (by omega))
theorem dvd_gZ{c k:Nat}{f:Nat→Int}:∀{n:Nat},(∀i,i< n→c∣k* (f i).natAbs)→c∣k* gZ f n
 |0,_=>by simp[gZ]
 |n+1,h=>by
  rw[gZ,←Nat.gcd_mul_left];exact Nat.dvd_gcd (dvd_gZ fun i hi=>h i (by omega)) (h n (by omega))
theorem pN_{p:List Rat}(hp:nz p):∃(κ:Rat) (f:Nat→Int),κ≠0∧(∀i,coP p i* κ=(f i:Rat))∧(∀i,p.length≤i→f i=0)∧∀c r:Int,(∀i,c∣r* f i)→c∣r:=by
 obtain⟨k,k0,hk⟩:=Ht.of (p:=p) (s:=mxL p) (bB_ p);obtain⟨z,hz⟩:∃z:Nat→Int,∀i,coP p i* k=(z i:Rat):=⟨fun i=>(hk i).choose,fun i=>(hk i).choose_spec.1⟩
 have z0:∀i,p.length≤i→z i=0:=fun i hi=>by
  have:=hz i;rw[ca_ hi,Rat.zero_mul] at this;exact(Rat.intCast_inj.1 (this.symm.trans Rat.intCast_zero.symm))
 obtain⟨d,hd⟩:∃d,d=gZ z p.length:=⟨_,rfl⟩
 have dv:∀i,(d:Int)∣z i:=fun i=>by
  by_cases e:i< p.length;have:=gZ_dvd (f:=z) e;rw[←hd] at this;exact Int.ofNat_dvd_left.2 this;simp_all
 have d0:d≠0:=fun e=>by
  have zz:∀i,z i=0:=fun i=>by have:=dv i;rw[e] at this;grind
  apply hp;refine trim_nil_iff.2 fun i=>?_;have:=hz i;rw[zz,Rat.intCast_zero] at this;grind
 have dq:((d:Int):Rat)≠0:=fun e=>d0 (by simp_all);refine⟨k/ (d:Int),fun i=>z i/ d,fun e=>?_,fun i=>?_,fun i hi=>by simp_all,fun c r h=>?_⟩;have:=Rat.div_mul_cancel (a:=k) dq;rw[e] at this;grind;obtain⟨w,hw⟩:=dv i;have e1:z i/ d=w:=by simp_all
 have e2:=hz i;rw[hw,Rat.intCast_mul] at e2;have e3:=Rat.div_mul_cancel (a:=k) dq;show _=(((z i/ d:Int)):Rat);rw[e1];generalize k/ (d:Int)=u at *
 have:(coP p i* u- w) * ((d:Int):Rat)=0:=by grind
 rcases Rat.mul_eq_zero.1 this with h|h
 grind;exact absurd h dq
 -- the numbers z i/ d have no common divisor
 have h1:c.natAbs* d∣r.natAbs* gZ z p.length:=dvd_gZ fun i hi=>by
  have this:c∣r* (z i/ d):=h i;obtain⟨w,hw⟩:=dv i;rw[hw,Int.mul_ediv_cancel_left _ (by omega)] at this;have h2:=Int.natAbs_dvd_natAbs.2 this;rw[Int.natAbs_mul] at h2;rw[hw,Int.natAbs_mul,Int.natAbs_natCast,Nat.mul_comm d,←Nat.mul_assoc];exact Nat.mul_dvd_mul_right h2 d
 rw[←hd] at h1;exact Int.natAbs_dvd_natAbs.1 (Nat.dvd_of_mul_dvd_mul_right (by omega) h1)
theorem n0_{p q:List Rat}{κ l:Rat}{f g:Nat→Int}(hf:∀i,coP p i* κ=(f i:Rat))(hg:∀i,coP q i* l=(g i:Rat))(n:Nat):∀N,N≤n+1→convP p q N n* (κ* l)=((sZ (fun a=>f a* g (n- a)) N:Int):Rat)
 |0,_=>by show 0* _=_;rw[Rat.zero_mul];rfl
 |N+1,h=>by
  have ih:=n0_ hf hg n N (by omega);rw[convP,sZ,Rat.intCast_add,Rat.intCast_mul];grind
theorem jL_(p q:List Rat)(n:Nat):∀k,convP p q (p.length+k) n=convP p q p.length n
 |0=>rfl
 |k+1=>by
  rw[show p.length+(k+1)=p.length+k+1 by omega,convP,jL_ p q n k,ca_ (show p.length≤p.length+k by omega)];grind
theorem jM_(p q:List Rat)(n:Nat):∀k,convP p q (n+1+k) n=convP p q (n+1) n
 |0=>rfl
 |k+1=>by rw[show n+1+(k+1)=n+1+k+1 by omega,convP,jM_ p q n k];grind
theorem coP_cv{p q:List Rat}{κ l:Rat}{f g:Nat→Int}(hf:∀i,coP p i* κ=(f i:Rat))(hg:∀i,coP q i* l=(g i:Rat))(n:Nat):coP (mulP p q) n* (κ* l)=((cvZ f g n:Int):Rat):=by
 rw[hz_]
 have:convP p q p.length n=convP p q (n+1) n:=by
  rw[←jL_ p q n (n+1),←jM_ p q n p.length,show p.length+(n+1)=n+1+p.length by omega]
 rw[this];exact n0_ hf hg n (n+1) (Nat.le_refl _)
theorem mg_(t:Rat):(t.num:Rat)=t* ((t.den:Int):Rat):=by
 have h:Rat.divInt t.num t.den=t:=Rat.num_divInt_den t;rw[Rat.divInt_eq_div] at h;have h2:((t.den:Int):Rat)≠0:=fun e=>by have:=Rat.intCast_inj.1 (e.trans Rat.intCast_zero.symm);have:=t.den_pos;omega
 grind
theorem dv_value{p s g:List Rat}(hp:nz p)(e:∀x,evalP p x=evalP s x* evalP g x){k:Rat}(k0:k≠0)(hk:∀i,∃z:Int,coP p i* k=(z:Rat)):
    ∃(κ:Rat) (f:Nat→Int),κ≠0∧(∀i,coP s i* κ=(f i:Rat))∧∀n:Int,evalP p (n:Rat)≠0→ab (evalP s (n:Rat) * κ)≤ab (evalP p (n:Rat) * k):=by
 obtain⟨ns,ng⟩:=cJ_ e hp;obtain⟨κ,f,κ0,hf,f0,hfc⟩:=pN_ ns;obtain⟨l,h,l0,hh,h0,hhc⟩:=pN_ ng;obtain⟨z,hz⟩:∃z:Nat→Int,∀i,coP p i* k=(z i:Rat):=⟨fun i=>(hk i).choose,fun i=>(hk i).choose_spec⟩
 have hco:∀i,coP p i* (κ* l)=((cvZ f h i:Int):Rat):=fun i=>by
  rw[←coP_cv hf hh i];congr 1;exact trim_iff.1 (c6_ fun x=>by rw[e,ax_]) i
 -- k/ (κ l) in lowest terms
 obtain⟨t,ht⟩:∃t:Rat,t* (κ* l)=k:=⟨k/ (κ* l),Rat.div_mul_cancel fun e=>by grind⟩
 have hzt:∀i,z i* (t.den:Int)=t.num* cvZ f h i:=fun i=>by
  have h1:=hz i;rw[←ht,show coP p i* (t* (κ* l))=t* (coP p i* (κ* l)) by grind,hco] at h1;have h2:=mg_ t
  have h3:((z i* (t.den:Int):Int):Rat)=((t.num* cvZ f h i:Int):Rat):=by
   grind
  exact Rat.intCast_inj.1 h3
 have hdv:∀i,((t.den:Int))∣cvZ f h i:=fun i=>by
  have h1:(t.den:Int)∣t.num* cvZ f h i:=⟨z i,by rw[←hzt,Int.mul_comm]⟩;have h2:=Int.natAbs_dvd_natAbs.2 h1;rw[Int.natAbs_mul,Int.natAbs_natCast] at h2;have h3:=Nat.Coprime.dvd_of_dvd_mul_left (Nat.Coprime.symm t.reduced) h2;exact Int.ofNat_dvd_left.2 h3
 have hall:=cv_dvd f0 (hfc (t.den:Int)) g.length h h0 hdv;have hone:(t.den:Int)∣1:=hhc _ 1 fun i=>by rw[Int.one_mul];exact hall i
 have hd1:t.den=1:=by have:=Int.le_of_dvd (by decide) hone;have:=t.den_pos;omega
 have htn:t=(t.num:Rat):=by
  have:=mg_ t;rw[hd1,show(((1:Nat):Int):Rat)=1 from rfl] at this;grind
 have ht0:t≠0:=fun e=>k0 (by rw[←ht,e];grind);refine⟨κ,f,κ0,hf,fun n hn=>?_⟩
 -- the value of the other factor is a whole number that is not 0
 have whole:∀(q:List Rat) (μ:Rat),(∀i,∃w:Int,coP q i* μ=(w:Rat))→∃w:Int,evalP q (n:Rat) * μ=(w:Rat):=fun q=>by
  induction q with
  |nil=>exact fun μ _=>⟨0,by rw[am_,Rat.zero_mul];rfl⟩
  |cons a q ih=>
   intro μ hμ;obtain⟨w,hw⟩:=ih μ fun i=>by have:=hμ (i+1);rwa[bq_] at this
   obtain⟨v,hv⟩:=hμ 0;rw[bD_] at hv;exact⟨w* n+v,by rw[al_,Rat.intCast_add,Rat.intCast_mul,←hw,←hv];grind⟩
 obtain⟨w,hw⟩:=whole g l fun i=>⟨h i,hh i⟩
 have e1:evalP p (n:Rat) * k=evalP s (n:Rat) * κ* (((t.num* w:Int)):Rat):=by
  rw[Rat.intCast_mul,←hw,←htn,←ht,e];grind
 have hne:t.num* w≠0:=fun g=>by
  rw[g,Rat.intCast_zero,Rat.mul_zero] at e1;rcases Rat.mul_eq_zero.1 e1 with g|g
  exact hn g;exact k0 g
 have one:1≤ab (((t.num* w:Int)):Rat):=IB.one_le (h:=bl (t.num* w).natAbs) ⟨_,rfl,Nat.le_refl _⟩ fun g=>hne (Rat.intCast_inj.1 (g.trans Rat.intCast_zero.symm));rw[e1,bx_ (evalP s (n:Rat) * κ)];have:=Rat.mul_le_mul_of_nonneg_left one (ab_nn (evalP s (n:Rat) * κ));grind
end Go.Abs
