/- Part V15 of the proof. -/
import Derived.Test.YtjkddcfoolilbaaGreatDoorV14
set_option linter.all false
namespace Go.Abs
set_option maxRecDepth 20000
theorem nn_(p q:List Rat)(x:Rat):dvE (addP p q) x=dvE p x+dvE q x:=by
 rw[←oV_];exact k0_ (fun i=>by rw[cu_,fD_]) x
theorem sw_(p:List Rat)(k x:Rat):dvE (aN_ p k) x=dvE p x* k:=by
 rw[←j5_];exact k0_ (fun i=>by rw[bO_,et_]) x
theorem sx_(a x:Rat):dvE (bo_ a) x=0:=by
 show dvE (trimQ [a]) x=0;rw[k0_ (q:=[a]) (cy_ [a]) x,cN_];show(0:Rat)+0* x=0;grind
theorem oU_(q:List Rat)(x:Rat):∀p,dvE (compP q p) x=dvE p (evalP q x) * dvE q x
 |[]=>by show(0:Rat)=0* _;grind
 |a::l=>by
  rw[compP,nn_,sx_,dvE_mul,oU_ q x l,b6_,cN_];grind
theorem dvE_uv(u v x:Rat):dvE [u,v] x=v:=by
 show(0* x+v)+(0+(0:Rat) * x) * x=v;grind
def itP(a b:Rat)(p:List Rat):Rat:=evalP (am_ p) b- evalP (am_ p) a
theorem lV_{p q:List Rat}(h:∀i,coP p i=coP q i)(x:Rat):evalP (am_ p) x=evalP (am_ q) x:=
 c9_ (fun i=>by rw[cI_,cI_,h]) x
theorem nQ_pos'(n:Nat):(((n+1:Nat):Int):Rat)≠0:=fun e=>by
 have h:(((n+1:Nat):Int):Rat)=((0:Int):Rat):=e;have:=Rat.intCast_inj.1 h;omega
theorem iN_(G:List Rat)(y:Rat):evalP (am_ (bz_ G)) y=evalP G y- coP G 0:=by
 rw[show evalP G y- coP G 0=evalP (subP G (bo_ (coP G 0))) y by rw[er_,d4_]];refine c9_ (fun i=>?_) y;rw[cI_,hp_,gI_];cases i with
 |zero=>grind
 |succ i=>
  rw[hq_,Nat.add_sub_cancel,Rat.mul_div_cancel (nQ_pos' i)];grind
structure Mv (m m0:List Rat)(c r:Rat)(N:Nat):Prop where
 r0:r≠0
 h:∀i,i< N→coP m i=itP (c- r) (c+r) (gK [1] i)
 h0:∀i,i< N→coP m0 i=itP (-1) 1 (gK [1] i)
theorem nC_{e:Int}(he:e=1∨e= -1):∀(l:List Int) (t:Int),(t=1∨t= -1)→(∀s∈l,-1≤s∧s≤1)→(t::l).getLast?=some e→chL l 0 t % 2=if t=e then 0 else 1
 |[],t,ht,_,h=>by
  have:t=e:=by grind
  rw[if_pos this];rfl
 |s::l,t,ht,hs,h=>by
  have h0:=hs s (List.mem_cons_self ..);by_cases hz:s≠0;have ih:=nC_ he l s (by omega) (fun x hx=>hs x (List.mem_cons_of_mem _ hx)) (by grind);rw[chL,if_pos hz,hu_];by_cases h1:s=e;by_cases h2:s= -t;omega;omega;by_cases h2:s= -t;omega;omega;rw[chL,if_neg hz];refine nC_ he l t ht (fun x hx=>hs x (List.mem_cons_of_mem _ hx)) ?_;grind
theorem Ch.last{u:List Rat}{L:List (List Rat)}(H:Ch u L):∃e:Int,(e=1∨e= -1)∧∀x,((u::L).map (sgE x)).getLast?=some e:=by
 induction H with
 | @one u c hc hu=>
  have h:=Ch.sg (.one hc hu) 0;have hb:=ds_ 0 u;exact⟨sgE 0 u,by have:=(h 0).2;omega,fun x=>((by grind))⟩
 | @pair u v _ ih=>
  simp_all
 | @step u v w L a c q _ _ _ _ ih=>
  simp_all
theorem Ch.drop{u v:List Rat}{L:List (List Rat)}{k:Rat}(H:Ch u (v::L))(hk:0< k)(hd:∀x,evalP v x=k* dvE u x){x y:Rat}(hxy:x≤y)(hs:evalP u x* evalP u y< 0):chV (u::v::L) y+1≤chV (u::v::L) x:=by
 have h1:=H.fall hk hd hxy;obtain⟨e,he,h⟩:=H.last
 have key:∀z,sgE z u≠0→chV (u::v::L) z % 2=if sgE z u=e then 0 else 1:=fun z hz=>by
  have hb:=ds_ z u;unfold chV;rw[List.map_cons,chL,if_pos hz,if_neg (by omega)]
  exact nC_ he _ _ (by omega) (fun s hs=>by
   obtain⟨q,_,rfl⟩:=List.mem_map.1 hs;exact ds_ z q) (by grind)
 have hx0:sgE x u≠0∧sgE y u≠0∧sgE x u≠sgE y u:=by
  rcases bt_ x u with⟨a,b⟩|⟨a,b⟩|⟨a,b⟩<;> rcases bt_ y u with⟨a',b'⟩|⟨a',b'⟩|⟨a',b'⟩
  have:=Rat.mul_pos b b';grind;omega;rw[b'] at hs;grind;omega;have:=Rat.mul_pos (show 0< -evalP u x by grind) (show 0< -evalP u y by grind);grind;rw[b'] at hs;grind;rw[b] at hs;grind;rw[b] at hs;grind;rw[b] at hs;grind
 have kx:=key x hx0.1;have ky:=key y hx0.2.1;have bx:=ds_ x u;have bY:=ds_ y u;grind

structure Lin (φ:List Rat→Rat):Prop where
 eqv:∀{p q},Eqv p q→φ p=φ q
 add:∀p q,φ (addP p q)=φ p+φ q
 scale:∀p k,φ (aN_ p k)=φ p* k

def bN:Nat→List Rat
 |1=>[0,1]
 |2=>[mkRat (-1) 3,0,1]
 |3=>[0,mkRat (-3) 5,0,1]
 |4=>[mkRat 3 35,0,mkRat (-6) 7,0,1]
 |_=>[1]
def bWt:Nat→List Rat
 |1=>[2]
 |2=>[1]
 |3=>[mkRat 8 9,0,mkRat (-5) 9]
 |4=>[mkRat 17 24,0,mkRat (-35) 72]
 |_=>[]
def bA:Nat→List Rat
 |2=>[-3]
 |3=>[0,mkRat (-25) 2]
 |4=>[mkRat 35 3,0,mkRat (-1225) 24]
 |_=>[]
def bB:Nat→List Rat
 |1=>[1]
 |2=>[0,mkRat 3 2]
 |3=>[mkRat (-5) 3,0,mkRat 25 6]
 |4=>[0,mkRat (-805) 96,0,mkRat 1225 96]
 |_=>[]
def bX(k i:Nat):Rat:=
 if i=0 then -1 else if i=k then 1 else if k=2 then 0 else if i=1 then mkRat (-1) 2 else if k=4∧i=2 then 0 else mkRat 1 2
def m0K(k:Nat):List Rat:=sqL (moQ [1] (-1,1)) (2* k)
def baseC(k:Nat):Prop:=
 (∀j,j< k+1→(ldr (m0K k) j).1=bN j)∧(∀j,j< k→0< ldN (m0K k) (ldr (m0K k) j).1)∧(bN k).length=k+1∧coP (bN k) k=1∧addP (mulP (bA k) (bN k)) (mulP (bB k) (bz_ (bN k)))=[1]∧
 (divP (subP (mulP (bWt k) (bz_ (bN k))) (tpQ (bN k) (m0K k))) (bN k)).2=[]∧(bWt k).length≤k∧(∀i,i< k→bX k i< bX k (i+1))∧(∀i,i< k→evalP (bN k) (bX k i) * evalP (bN k) (bX k (i+1))< 0)∧
 (∀j,j< k+1→bdL (bN j) 8∧(bN j).length≤5)∧bdL (bWt k) 8
instance (k:Nat):Decidable (baseC k):=by unfold baseC;infer_instance
section
variable {a b:Rat}(h:a< b){k:Nat}(hk:1≤k∧k≤4)
include h hk
end

theorem bdL_mono'{l:List Rat}{a b:Nat}(h:bdL l a)(hab:a≤b):bdL l b:=fun q hq=>Nat.le_trans (h q hq) hab
section
variable {a b:Rat}(h:a< b){k:Nat}(hk:1≤k∧k≤4)(ha:qs a≤20)(hb:qs b≤20)
include ha hb
end
section
variable {a b:Rat}(h:a< b){k:Nat}(hk:1≤k∧k≤4)
include h hk
variable (ha:qs a≤20)(hb:qs b≤20)
include ha hb
end
section
variable {a b:Rat}(h:a< b){k:Nat}(hk:1≤k∧k≤4)(ha:qs a≤20)(hb:qs b≤20)
include h hk ha hb
end
section
variable {a b a' b':Rat}(h:a< b)(h':a'< b'){k:Nat}(hk:1≤k∧k≤4)
include h h'
end
section
variable {a b a' b':Rat}(ha:qs a≤20)(hb:qs b≤20)(ha':qs a'≤20)(hb':qs b'≤20)
include ha hb ha' hb'
end
def okReC(c:Cnt)(p:List Rat):Prop:=okBe c (-d8_ p)∧okUp c (d8_ p)∧smS (-d8_ p,d8_ p)∧iB_ p∧p.length≤1000∧1≤degP p∧degP p≤25
instance (c:Cnt) (p:List Rat):Decidable (okReC c p):=by unfold okReC;infer_instance
def okOnC(p m G A:List Rat):Prop:=okBz (bz_ p) p G A∧okMul (tpQ p m) (bzA p G A)∧okDiv (mulP (tpQ p m) (bzA p G A)) p∧trimQ p=p∧2≤p.length∧p.length≤1000∧p.length≤m.length+1∧(p.length+1) * (mxL p+mxL m+1)≤137438953472∧smL p
instance (p m G A:List Rat):Decidable (okOnC p m G A):=by unfold okOnC;infer_instance
def suP(p:List Rat):List Rat:=suL (trimQ p) (dg p) (dg p- 1)
def apV(p w f:List Rat):Rat:=ofQ (apR p w f) (suP p) (apR p w f).length
instance (T:List Rat) (n k:Nat):Decidable (okSu T n k):=by unfold okSu;infer_instance
instance (f:List Rat) (s:Sp) (k:Nat):Decidable (okMo f s k):=by unfold okMo smL;infer_instance
def okAp(p w f:List Rat):Prop:=okDiv f p∧okMul w (divP f p).2∧okDiv (mulP w (divP f p).2) p∧1≤dg p∧dg p≤1000∧p.length≤1000∧(∀k,k< dg p- 1→okSu (trimQ p) (dg p) k)∧(apR p w f).length≤dg p∧((apR p w f).length+2) * (mxL (apR p w f)+mxL (suP p)+1)≤137438953472∧sm (apV p w f)
instance (p w f:List Rat):Decidable (okAp p w f):=by unfold okAp;infer_instance
instance (m:List Rat) (n k:Nat):Decidable (okKr m n k):=by unfold okKr;infer_instance
theorem nz_{l:List Rat}{q:Rat}(h:q∈l):∃i,i< l.length∧coP l i=q:=by
 obtain⟨i,hi,e⟩:=List.getElem_of_mem h;exact⟨i,hi,by rw[←e];unfold coP;rw[List.getD_eq_getElem?_getD,List.getElem?_eq_getElem hi];rfl⟩
section
variable {a b:Rat}{p q:Nat}(ha:qs a≤256)(hb:qs b≤256)(hp:p≤8)(hq:q≤8)
include ha in
end

abbrev oP(m:List Rat)(k:Nat):List Rat:=(ldr m k).1
abbrev oN(m:List Rat)(k:Nat):Rat:=ldN m (oP m k)

section
variable {N:List Rat}(hN:nz N)(hm:leadP N=1)(h1:1≤dg N)
include hN hm h1
end

def IB(x:Rat)(h:Nat):Prop:=∃z:Int,x=(z:Rat)∧bl z.natAbs≤h
theorem IB.mono{x:Rat}{h k:Nat}(H:IB x h)(hk:h≤k):IB x k:=by obtain⟨z,e,b⟩:=H;exact⟨z,e,by omega⟩
theorem IB.zero(h:Nat):IB 0 h:=⟨0,rfl,Nat.zero_le _⟩
theorem IB.one:IB 1 1:=⟨1,rfl,by decide⟩
theorem IB.mul{x y:Rat}{h k:Nat}(H:IB x h)(K:IB y k):IB (x* y) (h+k):=by
 obtain⟨z,e,b⟩:=H;obtain⟨w,e',b'⟩:=K;exact⟨z* w,by grind,ca_ b b'⟩
theorem IB.add{x y:Rat}{h:Nat}(H:IB x h)(K:IB y h):IB (x+y) (h+1):=by
 obtain⟨z,e,b⟩:=H;obtain⟨w,e',b'⟩:=K;exact⟨z+w,by grind,mD_ b b'⟩
theorem IB.neg{x:Rat}{h:Nat}(H:IB x h):IB (-x) h:=by
 obtain⟨z,e,b⟩:=H;exact⟨-z,by grind,by grind⟩
theorem IB.eq{x y:Rat}{h:Nat}(H:IB x h)(e:x=y):IB y h:=e▸H
structure HS (p:List Rat)(K:Rat)(h:Nat):Prop where
 ne:K≠0
 sc:IB K h
 co:∀i,IB (coP p i* K) h
theorem k6_(p q:List Rat)(n:Nat):coP (mulP p q) n=convP p q p.length n:=by
 rw[←k7_];exact trim_iff.1 (dK_ fun x=>by rw[cX_,g4_]) n
theorem sG_{p q:List Rat}{K K':Rat}{h h':Nat}(H:HS p K h)(H':HS q K' h')(n:Nat):∀i,IB (convP p q i n* (K* K')) (h+h'+i)
 |0=>(IB.zero _).eq (by show 0=0* _;grind)
 |i+1=>by
  have ih:=sG_ H H' n i
  have hx:IB ((if i≤n then coP p i* coP q (n- i) else 0) * (K* K')) (h+h'+i):=by
   split;exact(((H.co i).mul (H'.co (n- i))).eq (by grind)).mono (by omega);exact(IB.zero _).eq (by grind)
  exact((ih.add hx).eq (by rw[convP];grind)).mono (by omega)
theorem HS.mul{p q:List Rat}{K K':Rat}{h h' L:Nat}(H:HS p K h)(H':HS q K' h')(hl:p.length≤L):HS (mulP p q) (K* K') (h+h'+L) where
 ne e:=(Rat.mul_eq_zero.1 e).elim H.ne H'.ne
 sc:=(H.sc.mul H'.sc).mono (by omega)
 co i:=by
  rw[k6_];exact(sG_ H H' i p.length).mono (by omega)
theorem HS.step {p l r:List Rat} {K K' A B B' a b:Rat} {h h' M:Nat} (H:HS p K h) (H':HS l K' h') (hB:IB B (2* h+M)) (hA:IB A (2* h+M)) (hB':IB B' (2* h'+M)) (b0:B≠0) (b0':B'≠0) (ha:a* B=A)
    (hb:∀i,coP l i* b* (B'* K* K)=coP l i* K'* K'* B) (hr:∀i,coP r i=coP p i* -a+lag p i- coP l i* b):HS r (K* K* B* B') (4* h+2* h'+2* M+2) where
 ne e:=by
  rcases Rat.mul_eq_zero.1 e with e|e
  rcases Rat.mul_eq_zero.1 e with e|e
  rcases Rat.mul_eq_zero.1 e with e|e <;> exact H.ne e
  exact b0 e;grind
 sc:=(((H.sc.mul H.sc).mul hB).mul hB').mono (by omega)
 co i:=by
  have hlag:IB (lag p i* K) h:=by
   cases i with
   |zero=>exact(IB.zero h).eq (by show 0=0* K;grind)
   |succ i=>exact H.co i
  have t1:=((((H.co i).mul H.sc).mul hB').mul hA).neg;have t2:=((hlag.mul H.sc).mul hB').mul hB;have t3:=((((H'.co i).mul H'.sc).mul hB).mul hB).neg;have s1:=(t1.mono (show _≤4* h+2* h'+2* M by omega)).add (t2.mono (show _≤4* h+2* h'+2* M by omega));have s2:=s1.add (t3.mono (show _≤4* h+2* h'+2* M+1 by omega));grind
def p2(n:Nat):Rat:=((2^ n:Nat):Int)
def sF:Nat→Nat→Nat→Nat→Nat→Nat→Nat
 |0,_,_,_,_,_=>0
 |f+1,m,n,h,g,r=>(h+(m+1- n) * (g+1))+g+(r+1) * (m+1- n)+1+((List.range n).map fun k=>if k=0 then 0 else sF f n k g (h+(m+1- n) * (g+1)) r).foldl max 0
section
variable {f:Nat}{p:List Rat}{c:Cnt}(h:ek_ f p=some c)(hp:nz p)
include h hp
def At(c:Cnt)(i:Int)(x y:Rat):Prop:=x≤y∧cz_ c x≤i∧i< uptoV c y
end


def cH(f N h X T Q:Nat):Bool:=
 decide (N≤12∧1≤h∧1≤X∧X≤137438953472∧2^ 12* (h+2* X+1)≤137438953472∧17* (h+12* N+8)≤34359738368∧h+12* N+8≤T∧12* (T+Q+1)+T+Q+2≤137438953472) &&
 ((List.range (N+1)).all fun m=>(List.range m).all fun n=>hG f m n h (h+5) X) &&
 ((List.range (N+1)).all fun m=>(List.range m).all fun n=>cB f m n (h+12* N+8) (h+12* N+13) (h+12* N+13) T)

section
variable {f:Nat}{q d:List Rat}{c:Cnt}{σ:Rat}(h:ek_ f d=some c)(hd:nz d)(hσ:σ=1∨σ= -1)(hdq:∀z,dvE q z=σ* evalP d z)
include hσ hdq
end
def facR:Nat→Rat
 |0=>1
 |n+1=>facR n* (((n+1:Nat):Int):Rat)
theorem kY_:∀n,0< facR n
 |0=>by decide+kernel
 |n+1=>by
  rw[facR];exact Rat.mul_pos (kY_ n) (by rw[show(0:Rat)=((0:Int):Rat) from rfl,Rat.intCast_lt_intCast];omega)
structure Vol (A B:List Rat)(l a:Rat)(t F:Nat→List Rat):Prop where
 dF:∀k x,dvE (F k) x=evalP B x* evalP (t k) x
 ts:∀k x,evalP (t (k+1)) x=l* (evalP A x* (evalP (F k) x- evalP (F k) a))
theorem nat_ne(k:Nat):(((k+1:Nat):Int):Rat)≠0:=fun e=>by have:=Rat.intCast_inj.1 (e.trans Rat.intCast_zero.symm);omega
theorem HS.nil:HS [] 1 1:=⟨by decide,IB.one,fun i=>(IB.zero 1).eq (by show 0=(0:Rat) * 1;grind)⟩
section
variable {m:List Rat}{k:Rat}{M n:Nat}(k0:k≠0)(hm:∀i,IB (coP m i* k) M)(hn:∀j,j< n→oN m j≠0)(h7:n≤7)
include k0 hm hn h7
end
theorem IB_quot{x y:Rat}{h:Nat}(H:IB x h)(K:IB y h)(y0:y≠0)(h1:1≤h):qs (x/ y)≤h:=by
 have hH:Ht [x,y] h:=⟨1,by decide,fun i=>by
  have:IB (coP [x,y] i* 1) h:=by
   match i with
   |0=>exact H.eq (by show x=x* 1;grind)
   |1=>exact K.eq (by show y=y* 1;grind)
   |i+2=>exact(IB.zero h).eq (by show 0=0* 1;grind)
  obtain⟨z,e,b⟩:=this;exact⟨z,e,b⟩⟩
 exact hH.quot 0 1 y0 h1
section
variable {m:List Rat}{s n:Nat}(hm:bdL m s)(hs1:1≤s)(hs:s≤3000)(hl:m.length≤16)(h6:n≤6)(hn:∀j,j< n→0< oN m j)
include hm hs1 hs hl h6 hn
end
theorem nz_int'{n:Int}(h:n≠0):(n:Rat)≠0:=fun e=>h (by have:=congrArg Rat.num e;exact this)
theorem IB.nat{n h:Nat}(hn:bl n≤h):IB (((n:Nat):Int):Rat) h:=⟨n,rfl,by rwa[Int.natAbs_natCast]⟩
theorem ju_{x:Rat}{h:Nat}(hx:qs x≤h):IB (x* ((x.den:Int):Rat)) h∧IB (((x.den:Nat):Int):Rat) h∧(((x.den:Nat):Int):Rat)≠0:=by
 have h1:=b1_ x;have h2:=bR_ x;refine⟨⟨x.num,?_,by omega⟩,IB.nat (by omega),nz_int' (by have:=x.den_pos;omega)⟩;have hd:(((x.den:Nat):Int):Rat)≠0:=nz_int' (by have:=x.den_pos;omega);have e3:(x.num:Rat) / (((x.den:Nat):Int):Rat)=x:=by rw[←Rat.divInt_eq_div,Rat.num_divInt_den]
 have e2:(x.num:Rat) / (((x.den:Nat):Int):Rat) * (((x.den:Nat):Int):Rat)=(x.num:Rat):=Rat.div_mul_cancel hd;rw[e3] at e2;exact e2
theorem HS.mono{p:List Rat}{K:Rat}{h k:Nat}(H:HS p K h)(hk:h≤k):HS p K k:=⟨H.ne,H.sc.mono hk,fun i=>(H.co i).mono hk⟩
theorem IB_nat{n h:Nat}(hn:bl n≤h):IB ((n:Int):Rat) h:=⟨n,rfl,by rw[Int.natAbs_natCast];exact hn⟩
theorem oO_:∀n,n≤255→IB (facR n) (8* n+1)
 |0,_=>IB.one
 |n+1,h=>by
  rw[facR];exact((oO_ n (by omega)).mul (IB_nat (h:=8) (bl_le (by omega)))).mono (by omega)
theorem oN_:∀n i,i< n→n≤255→∃z:Rat,IB z (8* n+1)∧z* (((i+1:Nat):Int):Rat)=facR n
 |0,_,h,_=>by omega
 |n+1,i,h,hn=>by
  by_cases e:i=n;subst e;exact⟨facR i,(oO_ i (by omega)).mono (by omega),by rw[facR]⟩;obtain⟨z,z1,z2⟩:=oN_ n i (by omega) (by omega);refine⟨z* (((n+1:Nat):Int):Rat),(z1.mul (IB_nat (h:=8) (bl_le (by omega)))).mono (by omega),?_⟩;rw[facR,←z2];grind
theorem HS.bdL{p:List Rat}{K:Rat}{h:Nat}(H:HS p K h)(h1:1≤h):Abs.bdL p h:=fun q hq=>by
 obtain⟨i,_,e⟩:=nz_ hq;have:=IB_quot (H.co i) H.sc H.ne h1;rw[Rat.mul_div_cancel H.ne,e] at this;exact this
theorem HS.integral{p:List Rat}{K:Rat}{h L:Nat}(H:HS p K h)(hl:p.length≤L)(hL:L≤255):HS (am_ p) (K* facR L) (h+8* L+1) where
 ne e:=(Rat.mul_eq_zero.1 e).elim H.ne (by have:=kY_ L;grind)
 sc:=(H.sc.mul (oO_ L hL)).mono (by omega)
 co i:=by
  rw[cI_];cases i with
  |zero=>rw[if_pos rfl];exact(IB.zero _).eq (by grind)
  |succ i=>
   rw[if_neg (by omega),show i+1- 1=i by omega];by_cases g:i< L;obtain⟨z,z1,z2⟩:=oN_ L i g hL;refine((H.co i).mul z1).eq ?_|>.mono (by omega);have:=Rat.div_mul_cancel (a:=coP p i) (nat_ne i);rw[←z2];generalize coP p i/ (((i+1:Nat):Int):Rat)=v at *
   grind;rw[dh_ (by omega),show(0:Rat) / (((i+1:Nat):Int):Rat)=0 by rw[Rat.div_def];grind];exact(IB.zero _).eq (by grind)
theorem oP_{K x d:Rat}{h e:Nat}(hd:IB d e)(hx:IB (x* d) e):∀(l:List Rat),(∀c∈l,IB (c* K) h)→IB (evalP l x* (K* d^ l.length)) (h+l.length* (e+2))
 |[],_=>(IB.zero _).eq (by rw[bM_];grind)
 |a::l,hl=>by
  have ih:=oP_ hd hx l fun c hc=>hl c (List.mem_cons_of_mem _ hc);have ha:=hl a (List.mem_cons_self ..)
  have hp:∀n:Nat,IB (d^ n) (n* e+1):=fun n=>by
   induction n with
   |zero=>rw[Rat.pow_zero];exact IB.one.mono (by omega)
   |succ n ih=>rw[Rat.pow_succ];exact(ih.mul hd).mono (by rw[Nat.succ_mul];omega)
  have e2:(a::l).length* (e+2)=l.length* (e+2)+e+2:=by rw[List.length_cons,Nat.succ_mul];omega
  have s1:=ih.mul hx;have s2:=ha.mul (hp (l.length+1));have e3:l.length* (e+2)=l.length* e+l.length* 2:=by rw[Nat.mul_add]
  have e4:(l.length+1) * e=l.length* e+e:=Nat.succ_mul _ _;rw[e2];refine(((s1.mono (show _≤h+l.length* (e+2)+e+1 by omega)).add (s2.mono (by omega))).eq ?_).mono (by omega);rw[aW_,List.length_cons,Rat.pow_succ];grind
theorem HS.all{p:List Rat}{K:Rat}{h:Nat}(H:HS p K h):∀c∈p,IB (c* K) h:=fun c hc=>by
 obtain⟨i,_,e⟩:=nz_ hc;rw[←e];exact H.co i
theorem HS.k{p:List Rat}{K l d:Rat}{h e:Nat}(H:HS p K h)(d0:d≠0)(hd:IB d e)(hl:IB (l* d) e):HS (aN_ p l) (K* d) (h+e) where
 ne g:=(Rat.mul_eq_zero.1 g).elim H.ne d0
 sc:=H.sc.mul hd
 co i:=by rw[bO_];exact((H.co i).mul hl).eq (by grind)
theorem HS.rescale{p:List Rat}{K d:Rat}{h e:Nat}(H:HS p K h)(d0:d≠0)(hd:IB d e):HS p (K* d) (h+e) where
 ne g:=(Rat.mul_eq_zero.1 g).elim H.ne d0
 sc:=H.sc.mul hd
 co i:=((H.co i).mul hd).eq (by grind)
theorem HS.less{p:List Rat}{K v:Rat}{h:Nat}(H:HS p K h)(hv:IB (v* K) h):HS (subP p (bo_ v)) K (h+1) where
 ne:=H.ne
 sc:=H.sc.mono (by omega)
 co i:=by
  rw[hp_,gI_];split;exact((H.co i).add hv.neg).eq (by grind);exact((H.co i).mono (by omega)).eq (by grind)
theorem HS.plus{p q:List Rat}{K:Rat}{h:Nat}(H:HS p K h)(G:HS q K h):HS (addP p q) K (h+1) where
 ne:=H.ne
 sc:=H.sc.mono (by omega)
 co i:=by rw[cu_];exact((H.co i).add (G.co i)).eq (by grind)
theorem hR_(p:List Rat)(v:Rat):subP p [v]=subP p (bo_ v):=by
 have h1:trimQ (subP p [v])=subP p [v]:=by unfold subP addP;exact ck_ _
 have h2:trimQ (subP p (bo_ v))=subP p (bo_ v):=by unfold subP addP;exact ck_ _
 rw[←h1,←h2];exact eqv_trim.1 fun x=>by rw[er_,er_,d4_,aW_,bM_];grind
theorem fZ_{d:Rat}{e:Nat}(hd:IB d e):∀n:Nat,IB (d^ n) (n* e+1)
 |0=>by rw[Rat.pow_zero];exact IB.one.mono (by omega)
 |n+1=>by rw[Rat.pow_succ];exact((fZ_ hd n).mul hd).mono (by rw[Nat.succ_mul];omega)
def cutP(p:List Rat)(n:Nat):List Rat:=trimQ (p.take (n+1))
theorem id_(p:List Rat)(n i:Nat):coP (p.take n) i=if i< n then coP p i else 0:=by
 unfold coP;rw[List.getD_eq_getElem?_getD,List.getD_eq_getElem?_getD,List.getElem?_take];split <;> rfl
theorem nA_(p:List Rat)(n i:Nat):coP (cutP p n) i=if i≤n then coP p i else 0:=by
 rw[cutP,cy_,id_];by_cases h:i≤n;rw[if_pos h,if_pos (by omega)];rw[if_neg h,if_neg (by omega)]
theorem oZ_(p:List Rat)(n:Nat):(cutP p n).length≤n+1:=by
 have h1:=a8_ (p.take (n+1));have h2:(p.take (n+1)).length≤n+1:=by rw[List.length_take];omega
 unfold cutP;omega
theorem HS.cut{p:List Rat}{K:Rat}{h:Nat}(H:HS p K h)(n:Nat):HS (cutP p n) K h:=⟨H.ne,H.sc,fun i=>by
 rw[nA_];split;exact H.co i;exact(IB.zero h).eq (by grind)⟩
theorem HS.plus2{p q:List Rat}{K K':Rat}{h h':Nat}(H:HS p K h)(G:HS q K' h'):HS (addP p q) (K* K') (h+h'+1):=
 (H.rescale G.ne G.sc).plus ((Rat.mul_comm K' K▸G.rescale H.ne H.sc).mono (by omega))
theorem j8_{p q q':List Rat}{n:Nat}(h:∀j,j≤n→coP q j=coP q' j):∀i,convP p q i n=convP p q' i n
 |0=>rfl
 |i+1=>by rw[convP,convP,j8_ h i,h (n- i) (Nat.sub_le ..)]
theorem hM_{p q q':List Rat}{n:Nat}(h:∀j,j≤n→coP q j=coP q' j):coP (mulP p q) n=coP (mulP p q') n:=by
 rw[k6_,k6_,j8_ h]
theorem mj_(p:List Rat):evalP p 0=coP p 0:=by
 cases p with
 |nil=>rfl
 |cons a l=>rw[aW_,dc_];grind
theorem nx_{A B u v:List Rat}{r:Nat}(h:∀j,j< r→coP u j=coP v j)(i:Nat)(hi:i≤r):coP (mulP A (subP (am_ (mulP B u)) [evalP (am_ (mulP B u)) 0])) i=coP (mulP A (subP (am_ (mulP B v)) [evalP (am_ (mulP B v)) 0])) i:=by
 have hj0:∀k,k≤r→coP (am_ (mulP B u)) k=coP (am_ (mulP B v)) k:=fun k hk=>by
  rw[cI_,cI_];by_cases e:k=0;rw[if_pos e,if_pos e];rw[if_neg e,if_neg e,hM_ (fun j hj=>h j (by omega))]
 exact hM_ fun j hj=>by
  rw[hp_,hp_,mj_,mj_,hj0 j (by omega),hj0 0 (by omega)]
theorem jv_{s:Nat}:∀(l:List Rat),Abs.bdL l s→∃K,HS l K (s* l.length+1)
 |[],_=>⟨1,HS.nil⟩
 |c::l,hl=>by
  obtain⟨K,H⟩:=jv_ l fun q hq=>hl q (List.mem_cons_of_mem _ hq);obtain⟨h1,h2,h3⟩:=ju_ (hl c (List.mem_cons_self ..));have e:s* (c::l).length=s* l.length+s:=by rw[List.length_cons,Nat.mul_succ]
  rw[e];refine⟨K* ((c.den:Int):Rat),(fun g=>(Rat.mul_eq_zero.1 g).elim H.ne h3),(H.sc.mul h2).mono (by omega),fun i=>?_⟩;cases i with
  |zero=>rw[dc_];exact((H.sc.mul h1).eq (by grind)).mono (by omega)
  |succ i=>rw[cO_];exact(((H.co i).mul h2).eq (by grind)).mono (by omega)
theorem li_{c d K:Rat}{h:Nat}(d0:d≠0)(hd:IB d 20)(hc:IB (c* d) 20):∀(l:List Rat) (b:Rat),HS (b::l) K h→HS (compP [c,1] (b::l)) (K* d^ l.length) (h+22* l.length)
 |[],b,H=>by
  refine⟨by rw[List.length_nil,Rat.pow_zero];have:=H.ne;grind,H.sc.eq (by rw[List.length_nil,Rat.pow_zero];grind),fun i=>?_⟩;rw[show compP [c,1] [b]=addP (mulP [] [c,1]) (bo_ b) from rfl,cu_,gI_,show mulP [] [c,1]=[] from if_pos (.inl rfl),gb_];have h1:=H.co 0;rw[dc_] at h1;split;exact h1.eq (by rw[List.length_nil,Rat.pow_zero];grind);exact(IB.zero _).eq (by grind)
 |b'::l,b,H=>by
  have Ht:HS (b'::l) K h:=⟨H.ne,H.sc,fun i=>H.co (i+1)⟩;have ih:=li_ d0 hd hc l b' Ht;have hp:=fZ_ hd (l.length+1);have hb:=H.co 0;rw[dc_] at hb;have e1:(l.length+1) * 20=20* l.length+20:=by omega
  rw[List.length_cons];refine⟨fun g=>(Rat.mul_eq_zero.1 g).elim H.ne fun g=>?_,(H.sc.mul hp).mono (by omega),fun i=>?_⟩
  have:∀n:Nat,d^ n≠0:=fun n=>by
   induction n with
   |zero=>rw[Rat.pow_zero];decide
   |succ n ih=>rw[Rat.pow_succ];intro g;rcases Rat.mul_eq_zero.1 g with g|g;exact ih g;exact d0 g
  exact this _ g;rw[show compP [c,1] (b::b'::l)=addP (mulP (compP [c,1] (b'::l)) [c,1]) (bo_ b) from rfl,cu_,coP_line,gI_];generalize compP [c,1] (b'::l)=X at *
  have s1:=(ih.co i).mul hc
  have s2:IB (lag X i* (K* d^ l.length) * d) (h+22* l.length+20):=by
   cases i with
   |zero=>exact(IB.zero _).eq (by rw[show lag X 0=0 from rfl];grind)
   |succ i=>exact(ih.co i).mul hd
  have s3:IB ((if i=0 then b else 0) * K* d^ (l.length+1)) (h+22* l.length+21):=by
   split;exact(hb.mul hp).mono (by omega);exact(IB.zero _).eq (by grind)
  refine(((s1.add s2).add s3).eq ?_).mono (by omega);rw[Rat.pow_succ];grind
theorem HS_shift'{c d K:Rat}{h N:Nat}(d0:d≠0)(hd:IB d 20)(hc:IB (c* d) 20){l:List Rat}(H:HS l K h)(hl:l.length≤N+1):∃K',HS (compP [c,1] l) K' (h+22* N):=by
 cases l with
 |nil=>exact⟨K,H.mono (by omega)⟩
 |cons b l=>
  rw[List.length_cons] at hl;exact⟨_,(li_ d0 hd hc l b H).mono (by omega)⟩
theorem cp_(c:Rat):∀l:List Rat,(compP [c,1] l).length≤l.length
 |[]=>Nat.le_refl _
 |a::l=>by
  have h1:=dM_ (mulP (compP [c,1] l) [c,1]) (bo_ a);have h2:=eE_ (compP [c,1] l) c;have h3:=cp_ c l;have h4:=dS_ a;rw[List.length_cons];show(addP (mulP (compP [c,1] l) [c,1]) (bo_ a)).length≤_;omega
theorem go_{c d K:Rat}{h N:Nat}(d0:d≠0)(hd:IB d 20)(hc:IB (c* d) 20)(hq:qs c≤20)(h1:1≤h)(hN:(N+1) * (h+22* N+22)≤100000000)(hN2:N≤1000):∀(l:List Rat),l.length≤N+1→HS l K h→d2_ [c,1] l
 |[],_,_=>trivial
 |a::l,hl,H=>by
  rw[List.length_cons] at hl;have Ht:HS l K h:=⟨H.ne,H.sc,fun i=>H.co (i+1)⟩;obtain⟨K',H'⟩:=HS_shift' (N:=N) d0 hd hc Ht (by omega);have hb:=H'.bdL (by omega);have hm:=iG_ hb (by omega);have hll:=cp_ c l;have hml:=eE_ (compP [c,1] l) c
  have hmc:mxL [c,1]≤20:=iG_ (fun q hq'=>by
   rcases List.mem_cons.1 hq' with rfl|hq'
   exact hq;rw[List.mem_singleton.1 hq'];exact Nat.le_trans (by decide:qs 1≤1) (by decide)) (by decide)
  have ha:=H.bdL h1 a (List.mem_cons_self ..);have e:(compP [c,1] l).length* (mxL (compP [c,1] l)+mxL [c,1]+1)≤(N+1) * (h+22* N+22):=Nat.mul_le_mul (by omega) (by omega);have e2:h≤(N+1) * (h+22* N+22):=Nat.le_trans (by omega) (Nat.le_mul_of_pos_left _ (by omega));refine⟨go_ d0 hd hc hq h1 hN hN2 l (by omega) Ht,⟨by omega,by omega,by omega,by simp⟩,by unfold sm;omega,by omega⟩
abbrev Ke:=List (List Rat×List Rat)
def upF(a:Rat)(u o:List Rat)(p:List Rat×List Rat):List Rat:=addP o (mulP p.1 (subP (am_ (mulP p.2 u)) [evalP (am_ (mulP p.2 u)) a]))
def upL(a:Rat)(u:List Rat):Ke→List Rat→List Rat
 |[],o=>o
 |p::k,o=>upL a u k (upF a u o p)
def upK(k:Ke)(a:Rat)(u:List Rat):List Rat:=upL a u k []
theorem hQ_(a:Rat)(u:List Rat):∀(k:Ke) (o:List Rat) (p:List Rat×List Rat),upL a u (k++[p]) o=upF a u (upL a u k o) p
 |[],_,_=>rfl
 |q::k,o,p=>hQ_ a u k (upF a u o q) p
structure OkUF (a:Rat)(u o:List Rat)(p:List Rat×List Rat):Prop where
 m1:okMul p.2 u
 i1:(mulP p.2 u).length≤1099511627775
 i2:smL (am_ (mulP p.2 u))
 e1:dv_ (am_ (mulP p.2 u)) a
 l1:(am_ (mulP p.2 u)).length≤1099511627776
 m2:okMul p.1 (subP (am_ (mulP p.2 u)) [evalP (am_ (mulP p.2 u)) a])
 o1:smL o
 o2:o.length≤1099511627776
 l2:(mulP p.1 (subP (am_ (mulP p.2 u)) [evalP (am_ (mulP p.2 u)) a])).length≤1099511627776
def okUpK(k:Ke)(a:Rat)(u:List Rat):Prop:=∀i p,k[i]?=some p→OkUF a u (upL a u (k.take i) []) p
structure KHS (k:Ke)(KA KB:Rat)(h:Nat):Prop where
 len:∀p∈k,p.1.length≤4∧p.2.length≤4
 a:∀p∈k,HS p.1 KA h
 b:∀p∈k,HS p.2 KB h
theorem pow_nz'{d:Rat}(h:d≠0):∀n:Nat,d^ n≠0
 |0=>by rw[Rat.pow_zero];decide
 |n+1=>by rw[Rat.pow_succ];intro g;rcases Rat.mul_eq_zero.1 g with g|g;exact pow_nz' h n g;exact h g
structure TeB (A B u:List Rat)(a S:Rat)(h:Nat):Prop where
 m:(mulP B u).length≤u.length+4
 il:(am_ (mulP B u)).length≤u.length+5
 ib:bdL (am_ (mulP B u)) h
 sb:bdL (subP (am_ (mulP B u)) [evalP (am_ (mulP B u)) a]) h
 sl:(subP (am_ (mulP B u)) [evalP (am_ (mulP B u)) a]).length≤u.length+5
 l:(mulP A (subP (am_ (mulP B u)) [evalP (am_ (mulP B u)) a])).length≤u.length+9
 H:HS (mulP A (subP (am_ (mulP B u)) [evalP (am_ (mulP B u)) a])) S h
theorem te_HS{A B u:List Rat}{a d KA KB K:Rat}{h h':Nat}(hA:A.length≤4)(hB:B.length≤4)(hu:u.length≤245)(HA:HS A KA h)(HB:HS B KB h)(H:HS u K h')(d0:d≠0)(hd:IB d 20)(ha:IB (a* d) 20)(h1:1≤h):TeB A B u a (KA* (KB* K* facR 250* d^ 255)) (h'+2* h+13000):=by
 have m1:=gq_ B u;have i1:=gw_ (mulP B u);have g1:=HB.mul H hB;have g2:=g1.integral (L:=250) (by omega) (by decide);have s3:=nU_ (am_ (mulP B u)) [evalP (am_ (mulP B u)) a];rw[List.length_singleton] at s3;have l3:=gq_ A (subP (am_ (mulP B u)) [evalP (am_ (mulP B u)) a]);have hib:=g2.bdL (by omega);generalize hf:am_ (mulP B u)=f at *
 have hfl:f.length≤250:=by omega
 have hp:=fZ_ hd 255;have hp2:=fZ_ hd (255- f.length);have hv:=(oP_ hd ha f g2.all).mul hp2;have e0:d^ f.length* d^ (255- f.length)=d^ 255:=by rw[←iz_,show f.length+(255- f.length)=255 by omega]
 have e1:f.length* (20+2)≤250* 22:=Nat.mul_le_mul_right _ hfl;have e2:(255- f.length) * 20≤255* 20:=Nat.mul_le_mul_right _ (by omega);have g3:=(g2.rescale (pow_nz' d0 255) hp).mono (show _≤h'+h+12800 by omega);have g4:=g3.less (v:=evalP f a) ((hv.eq (by rw[←e0];grind)).mono (by omega));rw[←hR_] at g4;have g5:=HA.mul g4 hA;subst hf;exact⟨by omega,by omega,bdL_mono' hib (by omega),bdL_mono' (g4.bdL (by omega)) (by omega),by omega,by omega,g5.mono (by omega)⟩
theorem upL_HS{a d KA KB K:Rat}{u:List Rat}{h h':Nat}(hu:u.length≤240)(H:HS u K h')(d0:d≠0)(hd:IB d 20)(ha:IB (a* d) 20)(hq:qs a≤20)(h1:1≤h)(hlim:h'+2* h+14000≤400000000):∀(k:Ke) (o:List Rat) (n:Nat),KHS k KA KB h→n+k.length≤900→o.length≤u.length+9→HS o (KA* (KB* K* facR 250* d^ 255)) (h'+2* h+13000+n)→
    HS (upL a u k o) (KA* (KB* K* facR 250* d^ 255)) (h'+2* h+13000+(n+k.length))∧(upL a u k o).length≤u.length+9∧∀i p,k[i]?=some p→OkUF a u (upL a u (k.take i) o) p
 |[],o,n,_,_,ho,Ho=>⟨Ho,ho,fun i p hp=>by simp at hp⟩
 |p::k,o,n,hk,hn,ho,Ho=>by
  rw[List.length_cons] at hn;obtain⟨l1,l2⟩:=hk.len p (List.mem_cons_self ..);have HA:=hk.a p (List.mem_cons_self ..);have HB:=hk.b p (List.mem_cons_self ..);have T:=te_HS l1 l2 (show u.length≤245 by omega) HA HB H d0 hd ha h1;have al:=dM_ o (mulP p.1 (subP (am_ (mulP p.2 u)) [evalP (am_ (mulP p.2 u)) a]));have hl:=T.l;have Hn:HS (upF a u o p) (KA* (KB* K* facR 250* d^ 255)) (h'+2* h+13000+(n+1)):=(Ho.plus (T.H.mono (by omega))).mono (by omega);obtain⟨r1,r2,r3⟩:=upL_HS hu H d0 hd ha hq h1 hlim k (upF a u o p) (n+1) ⟨fun q hq=>hk.len q (List.mem_cons_of_mem _ hq),fun q hq=>hk.a q (List.mem_cons_of_mem _ hq),fun q hq=>hk.b q (List.mem_cons_of_mem _ hq)⟩ (by omega) (by unfold upF;omega) Hn;refine⟨by rw[List.length_cons,show n+(k.length+1)=n+1+k.length by omega];exact r1,r2,fun i q hq'=>?_⟩;cases i with
  |zero=>
   cases hq';show OkUF a u o p;have a1:=iG_ (HA.bdL h1) h1;have b1:=iG_ (HB.bdL h1) h1;have u1:=iG_ ((H.mono (show h'≤h'+1 by omega)).bdL (by omega)) (by omega);have i1:=iG_ T.ib (by omega);have s1:=iG_ T.sb (by omega);have o1:=Ho.bdL (by omega);have ml:=T.m;have il:=T.il;have sl:=T.sl;have e1:p.2.length* (mxL p.2+mxL u+1)≤4* (h+h'+2):=Nat.mul_le_mul l2 (by omega);have e2:p.1.length* (mxL p.1+mxL (subP (am_ (mulP p.2 u)) [evalP (am_ (mulP p.2 u)) a])+1)≤4* (h'+3* h+13002):=Nat.mul_le_mul l1 (by omega);have e3:(am_ (mulP p.2 u)).length* (mxL (am_ (mulP p.2 u))+qs a+1)≤250* (h'+2* h+13021):=Nat.mul_le_mul (by omega) (by omega);exact⟨⟨by omega,by omega,by omega,by omega⟩,by omega,fS_ T.ib (by omega),⟨by omega,by omega⟩,by omega,⟨by omega,by omega,by omega,by omega⟩,fS_ o1 (by omega),by omega,by omega⟩
  |succ i=>exact r3 i q (by simpa using hq')
theorem jz_{k:Ke}{a d KA KB K:Rat}{u:List Rat}{h h':Nat}(hk:KHS k KA KB h)(hkl:k.length≤900)(hu:u.length≤240)(H:HS u K h')(d0:d≠0)(hd:IB d 20)(ha:IB (a* d) 20)(hq:qs a≤20)(h1:1≤h)(A0:KA≠0)(B0:KB≠0)(IA:IB KA h)(IBB:IB KB h)(hlim:h'+2* h+14000≤400000000):HS (upK k a u) (KA* (KB* K* facR 250* d^ 255)) (h'+2* h+13000+k.length)∧(upK k a u).length≤u.length+9∧okUpK k a u:=by
 have n0:HS [] (KA* (KB* K* facR 250* d^ 255)) (h'+2* h+13000+0):=by
  refine⟨fun g=>?_,?_,fun i=>(IB.zero _).eq (by show 0=(0:Rat) * _;grind)⟩;rcases Rat.mul_eq_zero.1 g with g|g
  exact A0 g;rcases Rat.mul_eq_zero.1 g with g|g
  rcases Rat.mul_eq_zero.1 g with g|g
  rcases Rat.mul_eq_zero.1 g with g|g
  exact B0 g;exact H.ne g;have:=kY_ 250;grind;exact pow_nz' d0 255 g;have hf:=oO_ 250 (by omega);generalize facR 250=F at *
  have hp:=fZ_ hd 255;generalize d^ 255=E at *
  exact(IA.mul (((IBB.mul H.sc).mul hf).mul hp)).mono (by omega)
 have:=upL_HS hu H d0 hd ha hq h1 hlim k [] 0 hk (by omega) (Nat.zero_le _) n0;rw[Nat.zero_add] at this;exact this
theorem hK_{u v:List Rat}{r i:Nat}(h:∀j,j< r→coP u j=coP v j)(hi:i≤r):∀(k:Ke) (o o':List Rat),coP o i=coP o' i→coP (upL 0 u k o) i=coP (upL 0 v k o') i
 |[],_,_,ho=>ho
 |p::k,o,o',ho=>hK_ h hi k _ _ (by unfold upF;rw[cu_,cu_,ho,nx_ h i hi])
theorem hL_{k:Ke}{u v:List Rat}{r:Nat}(h:∀j,j< r→coP u j=coP v j)(i:Nat)(hi:i≤r):coP (upK k 0 u) i=coP (upK k 0 v) i:=hK_ h hi k [] [] rfl
def seK(k:Ke)(G:List Rat)(L:Rat)(n:Nat):Nat→List Rat
 |0=>[]
 |r+1=>cutP (addP G (aN_ (upK k 0 (seK k G L n r)) L)) n
def teK(k:Ke)(G:List Rat)(L a:Rat):Nat→List Rat
 |0=>G
 |n+1=>aN_ (upK k a (teK k G L a n)) L
theorem is_(k:Ke)(G:List Rat)(L:Rat)(n:Nat):∀r,(seK k G L n r).length≤n+1
 |0=>by rw[seK];exact Nat.zero_le _
 |r+1=>by rw[seK];exact oZ_ _ _
section
variable {k:Ke}{G:List Rat}{L dL KA KB KG:Rat}{h:Nat}(hk:KHS k KA KB h)(hkl:k.length≤900)(h1:1≤h)(h2:h≤1000)(A0:KA≠0)(B0:KB≠0)(IA:IB KA h)(IBB:IB KB h)(HG:HS G KG 3000)(l0:dL≠0)(l1:IB dL 20)(l2:IB (L* dL) 20)
include hk hkl h1 h2 A0 B0 IA IBB HG l0 l1 l2
theorem qL_{n:Nat}(hn:n≤40):∀r,r≤1000→(∃K,HS (seK k G L n r) K (20000* r+1))∧okUpK k 0 (seK k G L n r)
 |0,_=>⟨⟨1,HS.nil.mono (by omega)⟩,(jz_ (u:=[]) (d:=1) hk hkl (by decide) HS.nil (by decide) (IB.one.mono (by omega)) ((IB.zero 20).eq (by grind)) (by decide) h1 A0 B0 IA IBB (by omega)).2.2⟩
 |r+1,hr=>by
  obtain⟨⟨K,H⟩,_⟩:=qL_ hn r (by omega);have hl:=is_ k G L n r;have H':=(jz_ (a:=0) (d:=1) hk hkl (by omega) H (by decide) (IB.one.mono (by omega)) ((IB.zero 20).eq (by grind)) (by decide) h1 A0 B0 IA IBB (by omega)).1;have g1:=H'.k l0 l1 l2;have g2:=((HG.plus2 g1).cut n).mono (show _≤20000* (r+1)+1 by omega);have hl2:=is_ k G L n (r+1);exact⟨⟨_,g2⟩,(jz_ (a:=0) (d:=1) hk hkl (by have:=oZ_ (addP G (aN_ (upK k 0 (seK k G L n r)) L)) n;omega) g2 (by decide) (IB.one.mono (by omega)) ((IB.zero 20).eq (by grind)) (by decide) h1 A0 B0 IA IBB (by omega)).2.2⟩
end
def absH(v:Sp):Rat:=if 0≤v.1 then v.2 else if v.2≤0 then -v.1 else maxL [-v.1,v.2]
def sumK{α:Type}(f:α→Rat):List α→Rat
 |[]=>0
 |p::k=>f p+sumK f k
theorem nO_(a:Rat)(u:List Rat)(x:Rat):∀(k:Ke) (o:List Rat),evalP (upL a u k o) x=evalP o x+sumK (fun p=>evalP p.1 x* (evalP (am_ (mulP p.2 u)) x- evalP (am_ (mulP p.2 u)) a)) k
 |[],o=>by rw[upL,sumK];grind
 |p::k,o=>by
  rw[upL,nO_ a u x k,upF,hR_,bN_,cX_,er_,d4_,sumK];grind
theorem fj_(k:Ke)(a:Rat)(u:List Rat)(x:Rat):evalP (upK k a u) x=sumK (fun p=>evalP p.1 x* (evalP (am_ (mulP p.2 u)) x- evalP (am_ (mulP p.2 u)) a)) k:=by
 unfold upK;rw[nO_,bM_];grind
theorem j4_(B u:List Rat)(x:Rat):dvE (am_ (mulP B u)) x=evalP B x* evalP u x:=by
 have:=c9_ (trim_iff.1 (jj_ (mulP B u))) x;rw[hH_,cX_] at this;exact this
theorem e6_(a y:Rat):evalP [a,1] y=a+y:=by simp[evalP];grind
theorem sn_{H:List Rat}(h:∀z,dvE H z=0)(x y:Rat):evalP H x=evalP H y:=by
 have e:∀i,coP (bz_ H) i=coP [] i:=trim_iff.1 (dK_ fun z=>by rw[hH_,h,bM_])
 have h0:∀z,evalP H z=evalP (am_ []) z+coP H 0:=fun z=>by
  have:=iN_ H z;rw[lV_ e] at this;grind
 rw[h0 x,h0 y];rfl
theorem ov_{P Q:List Rat}(h:∀z,dvE P z=dvE Q z)(x y:Rat):evalP P x- evalP P y=evalP Q x- evalP Q y:=by
 have:=sn_ (H:=addP P (aN_ Q (-1))) (fun z=>by rw[nn_,sw_,h];grind) x y;rw[bN_,bN_,bL_,bL_] at this;grind
theorem mv_int(B u:List Rat)(a y:Rat):evalP (am_ (mulP (compP [a,1] B) (compP [a,1] u))) y- evalP (am_ (mulP (compP [a,1] B) (compP [a,1] u))) 0=evalP (am_ (mulP B u)) (a+y)- evalP (am_ (mulP B u)) a:=by
 have h:=ov_ (P:=am_ (mulP (compP [a,1] B) (compP [a,1] u))) (Q:=compP [a,1] (am_ (mulP B u))) (fun z=>by rw[j4_,oU_,j4_,b6_,b6_,dvE_uv];grind) y 0;rw[b6_,b6_,e6_,e6_] at h;rw[h,show a+0=a by grind]
def mvK(a:Rat)(k:Ke):Ke:=k.map fun p=>(compP [a,1] p.1,compP [a,1] p.2)
theorem mv_upL(a:Rat)(u:List Rat)(y:Rat):∀k:Ke,sumK (fun p=>evalP p.1 y* (evalP (am_ (mulP p.2 (compP [a,1] u))) y- evalP (am_ (mulP p.2 (compP [a,1] u))) 0)) (mvK a k)=sumK (fun p=>evalP p.1 (a+y) * (evalP (am_ (mulP p.2 u)) (a+y)- evalP (am_ (mulP p.2 u)) a)) k
 |[]=>rfl
 |p::k=>by
  have:=mv_upL a u y k;unfold mvK at this⊢;rw[List.map_cons,sumK,sumK,this];show evalP (compP [a,1] p.1) y* (evalP (am_ (mulP (compP [a,1] p.2) (compP [a,1] u))) y- evalP (am_ (mulP (compP [a,1] p.2) (compP [a,1] u))) 0)+_=_;rw[mv_int,b6_,e6_]
theorem mv_up(k:Ke)(a:Rat)(u:List Rat)(y:Rat):evalP (upK (mvK a k) 0 (compP [a,1] u)) y=evalP (upK k a u) (a+y):=by
 rw[fj_,fj_,mv_upL]
theorem nT_{α:Type}(f g:α→Rat):∀k:List α,sumK (fun p=>f p+g p) k=sumK f k+sumK g k
 |[]=>by rw[sumK,sumK,sumK];grind
 |p::k=>by rw[sumK,sumK,sumK,nT_ f g k];grind
theorem gQ_{α:Type}{f g:α→Rat}:∀k:List α,(∀p∈k,f p=g p)→sumK f k=sumK g k
 |[],_=>rfl
 |p::k,h=>by rw[sumK,sumK,h p (List.mem_cons_self ..),gQ_ k fun q hq=>h q (List.mem_cons_of_mem _ hq)]
theorem upK_add(k:Ke)(a:Rat)(u v:List Rat)(x:Rat):evalP (upK k a (addP u v)) x=evalP (upK k a u) x+evalP (upK k a v) x:=by
 rw[fj_,fj_,fj_,←nT_];refine gQ_ k fun p _=>?_;have h:=ov_ (P:=am_ (mulP p.2 (addP u v))) (Q:=addP (am_ (mulP p.2 u)) (am_ (mulP p.2 v))) (fun z=>by rw[nn_,j4_,j4_,j4_,bN_];grind) x a;rw[bN_,bN_] at h;grind
theorem upK_nil(k:Ke)(a x:Rat):evalP (upK k a []) x=0:=by
 rw[fj_]
 have h0:∀p:List Rat×List Rat,evalP p.1 x* (evalP (am_ (mulP p.2 [])) x- evalP (am_ (mulP p.2 [])) a)=0:=fun p=>by
  rw[sn_ (H:=am_ (mulP p.2 [])) (fun z=>by rw[j4_,bM_];grind) x a];grind
 rw[gQ_ (g:=fun _=>0) k fun p _=>h0 p]
 have:∀k:Ke,sumK (fun _:List Rat×List Rat=>(0:Rat)) k=0:=fun k=>by
  induction k with
  |nil=>rfl
  |cons p k ih=>rw[sumK,ih];grind
 exact this k
def xS(k:Ke)(G:List Rat)(L:Rat):Nat→List Rat
 |0=>[]
 |r+1=>addP (xS k G L r) (teK k G L 0 r)
theorem qn_(k:Ke)(G:List Rat)(L x:Rat):∀r,evalP (xS k G L (r+1)) x=evalP G x+evalP (upK k 0 (xS k G L r)) x* L
 |0=>by
  show evalP (addP [] G) x=evalP G x+evalP (upK k 0 []) x* L;rw[bN_,bM_,upK_nil];grind
 |r+1=>by
  rw[xS,bN_,qn_ k G L x r,teK,bL_];show _=evalP G x+evalP (upK k 0 (addP (xS k G L r) (teK k G L 0 r))) x* L;rw[upK_add];grind
theorem seK_co(k:Ke)(G:List Rat)(L:Rat)(n:Nat):∀r i,i≤n→coP (seK k G L n r) i=coP (xS k G L r) i
 |0,i,_=>rfl
 |r+1,i,hi=>by
  rw[seK,nA_,if_pos hi,cu_,bO_,hL_ (u:=seK k G L n r) (v:=xS k G L r) (r:=i) (fun j hj=>seK_co k G L n r j (by omega)) i (Nat.le_refl _),←bO_,←cu_];exact trim_iff.1 (dK_ fun x=>by rw[bN_,bL_,qn_]) i
def rsU(k:Ke)(g:List Rat)(L a:Rat)(n:Nat):Nat→List Rat
 |0=>g
 |j+1=>compP [-a,1] ((compP [a,1] (aN_ (upK k a (rsU k g L a n j)) L)).take (n+1))
def rsS(k:Ke)(g:List Rat)(L a:Rat)(n:Nat):Nat→List Rat
 |0=>[]
 |j+1=>addP (rsS k g L a n j) ((compP [a,1] (rsU k g L a n j)).take (n+1))
theorem sH_(a:Rat)(w:List Rat)(i:Nat):coP (compP [a,1] (compP [-a,1] w)) i=coP w i:=
 trim_iff.1 (dK_ fun x=>by rw[b6_,b6_,e6_,e6_,show -a+(a+x)=x by grind]) i
theorem rsU_co(k:Ke)(g:List Rat)(L a:Rat)(n:Nat):∀j i,i≤n→coP (compP [a,1] (rsU k g L a n j)) i=coP (teK (mvK a k) (compP [a,1] g) L 0 j) i
 |0,i,_=>rfl
 |j+1,i,hi=>by
  rw[rsU,sH_,id_,if_pos (by omega),teK,bO_]
  have h1:coP (compP [a,1] (aN_ (upK k a (rsU k g L a n j)) L)) i=coP (aN_ (upK (mvK a k) 0 (compP [a,1] (rsU k g L a n j))) L) i:=
   trim_iff.1 (dK_ fun x=>by rw[b6_,bL_,bL_,e6_,mv_up]) i
  rw[h1,bO_,hL_ (r:=i) (fun t ht=>rsU_co k g L a n j t (by omega)) i (Nat.le_refl _)]
theorem rsS_co(k:Ke)(g:List Rat)(L a:Rat)(n:Nat):∀r i,coP (rsS k g L a n r) i=if i≤n then coP (xS (mvK a k) (compP [a,1] g) L r) i else 0
 |0,i=>by rw[rsS,xS];simp[coP]
 |r+1,i=>by
  rw[rsS,cu_,rsS_co k g L a n r,id_,xS,cu_];by_cases h:i≤n;rw[if_pos h,if_pos (by omega),if_pos h,rsU_co k g L a n r i h];rw[if_neg h,if_neg (by omega),if_neg h];grind
theorem ir_(k:Ke)(g:List Rat)(L a:Rat)(n:Nat):trimQ (rsS k g L a n (n+1))=seK (mvK a k) (compP [a,1] g) L n (n+1):=by
 have ht:trimQ (seK (mvK a k) (compP [a,1] g) L n (n+1))=seK (mvK a k) (compP [a,1] g) L n (n+1):=by
  rw[seK,cutP,ck_]
 rw[←ht];refine gg_ fun i=>?_;rw[rsS_co];by_cases h:i≤n;rw[if_pos h,seK_co _ _ _ _ _ _ h];rw[if_neg h,seK,nA_,if_neg h]
theorem HS.take{p:List Rat}{K:Rat}{h:Nat}(H:HS p K h)(n:Nat):HS (p.take n) K h:=⟨H.ne,H.sc,fun i=>by
 rw[id_];split;exact H.co i;exact(IB.zero h).eq (by grind)⟩
theorem rsU_len{k:Ke}{g:List Rat}{L a:Rat}{n:Nat}(hg:g.length≤n+41):∀j,(rsU k g L a n j).length≤n+41
 |0=>hg
 |j+1=>by
  have h1:=cp_ (-a) ((compP [a,1] (aN_ (upK k a (rsU k g L a n j)) L)).take (n+1));rw[List.length_take] at h1;rw[rsU];omega
theorem rsU_HS {k:Ke} {g:List Rat} {L a d dL KA KB KG:Rat} {h n:Nat} (hn:n≤40) (hg:g.length≤n+41) (hk:KHS k KA KB h) (hkl:k.length≤900) (h1:1≤h) (h2:h≤1000) (A0:KA≠0) (B0:KB≠0) (IA:IB KA h) (IBB:IB KB h) (HG:HS g KG 3000)
    (d0:d≠0) (hd:IB d 20) (ha:IB (a* d) 20) (hq:qs a≤20) (l0:dL≠0) (l1:IB dL 20) (l2:IB (L* dL) 20):∀j,j≤100→∃K,HS (rsU k g L a n j) K (20000* j+3000)
 |0,_=>⟨KG,HG.mono (by omega)⟩
 |j+1,hj=>by
  obtain⟨K,H⟩:=rsU_HS hn hg hk hkl h1 h2 A0 B0 IA IBB HG d0 hd ha hq l0 l1 l2 j (by omega);have hl:=rsU_len (k:=k) (L:=L) (a:=a) hg j;obtain⟨u1,u2,_⟩:=jz_ hk hkl (by omega) H d0 hd ha hq h1 A0 B0 IA IBB (by omega);have s1:=u1.k l0 l1 l2;have sl:=bG_ (upK k a (rsU k g L a n j)) L;obtain⟨K1,c1⟩:=HS_shift' d0 hd ha s1 (N:=90) (by omega);have c2:=c1.take (n+1);obtain⟨K2,c3⟩:=HS_shift' (c:= -a) d0 hd (ha.neg.eq (by grind)) c2 (N:=40) (by rw[List.length_take];omega);exact⟨K2,c3.mono (by omega)⟩
theorem oK_{f:List Rat×List Rat→List Rat}{m:Nat}:∀k:Ke,(∀p∈k,(f p).length≤m)→(k.flatMap f).length≤m* k.length
 |[],_=>by simp
 |p::k,h=>by
  have h1:=h p (List.mem_cons_self ..);have h2:=oK_ k fun q hq=>h q (List.mem_cons_of_mem _ hq);rw[List.flatMap_cons,List.length_append,List.length_cons,Nat.mul_succ];omega
theorem s0_{f:List Rat×List Rat→List Rat}{k:Ke}(hl:k.length≤3)(h4:∀p∈k,(f p).length≤4)(hb:∀p∈k,bdL (f p) 20):∃K,K≠0∧IB K 241∧∀p∈k,HS (f p) K 241:=by
 obtain⟨K,H⟩:=jv_ (s:=20) (k.flatMap f) fun q hq=>by
  obtain⟨p,hp,hq⟩:=List.mem_flatMap.1 hq;exact hb p hp q hq
 have hfl:=oK_ k h4;have H:=H.mono (show _≤241 by omega);refine⟨K,H.ne,H.sc,fun p hp=>⟨H.ne,H.sc,fun i=>?_⟩⟩;by_cases hi:i< (f p).length
 have hm:coP (f p) i∈k.flatMap f:=List.mem_flatMap.2 ⟨p,hp,by
  unfold coP;rw[List.getD_eq_getElem?_getD,List.getElem?_eq_getElem hi];exact List.getElem_mem hi⟩
 obtain⟨j,_,e⟩:=nz_ hm;rw[←e];exact H.co j;rw[dh_ (by omega)];exact(IB.zero _).eq (by grind)
theorem lh_{k:Ke}(hl:k.length≤3)(h4:∀p∈k,p.1.length≤4∧p.2.length≤4)(hb:∀p∈k,bdL p.1 20∧bdL p.2 20):∃KA KB,KHS k KA KB 241∧KA≠0∧KB≠0∧IB KA 241∧IB KB 241:=by
 obtain⟨KA,a1,a2,a3⟩:=s0_ (f:=fun p=>p.1) hl (fun p hp=>(h4 p hp).1) fun p hp=>(hb p hp).1;obtain⟨KB,b1,b2,b3⟩:=s0_ (f:=fun p=>p.2) hl (fun p hp=>(h4 p hp).2) fun p hp=>(hb p hp).2;exact⟨KA,KB,⟨h4,a3,b3⟩,a1,b1,a2,b2⟩
theorem mK_{k:Ke}{a d KA KB:Rat}{h:Nat}(hk:KHS k KA KB h)(A0:KA≠0)(B0:KB≠0)(IA:IB KA h)(IBB:IB KB h)(d0:d≠0)(hd:IB d 20)(ha:IB (a* d) 20):∃KA' KB',KHS (mvK a k) KA' KB' (h+70)∧KA'≠0∧KB'≠0∧IB KA' (h+70)∧IB KB' (h+70):=by
 have hp:=fZ_ hd 3
 have key:∀(l:List Rat) (K:Rat),K≠0→IB K h→HS l K h→l.length≤4→HS (compP [a,1] l) (K* d^ 3) (h+70):=fun l K K0 KI H hl=>by
  cases l with
  |nil=>exact⟨fun g=>(Rat.mul_eq_zero.1 g).elim K0 (pow_nz' d0 3),(KI.mul hp).mono (by omega),fun i=>(IB.zero _).eq (by show 0=(0:Rat) * _;grind)⟩
  |cons b l=>
   rw[List.length_cons] at hl;have h1:=li_ d0 hd ha l b H;have e0:d^ l.length* d^ (3- l.length)=d^ 3:=by rw[←iz_,show l.length+(3- l.length)=3 by omega]
   have h2:=h1.rescale (pow_nz' d0 (3- l.length)) (fZ_ hd (3- l.length));rw[show K* d^ l.length* d^ (3- l.length)=K* d^ 3 by rw[←e0];grind] at h2;exact h2.mono (by omega)
 have m0:∀p∈mvK a k,∃q∈k,p=(compP [a,1] q.1,compP [a,1] q.2):=fun p hp=>by
  obtain⟨q,hq,e⟩:=List.mem_map.1 hp;exact⟨q,hq,e.symm⟩
 refine⟨KA* d^ 3,KB* d^ 3,⟨fun p hp=>?_,fun p hp=>?_,fun p hp=>?_⟩,fun g=>(Rat.mul_eq_zero.1 g).elim A0 (pow_nz' d0 3),fun g=>(Rat.mul_eq_zero.1 g).elim B0 (pow_nz' d0 3),(IA.mul hp).mono (by omega),(IBB.mul hp).mono (by omega)⟩;obtain⟨q,hq,rfl⟩:=m0 p hp;obtain⟨h3,h4⟩:=hk.len q hq;have h5:=cp_ a q.1;have h6:=cp_ a q.2;exact⟨by show(compP [a,1] q.1).length≤4;omega,by show(compP [a,1] q.2).length≤4;omega⟩;obtain⟨q,hq,rfl⟩:=m0 p hp;exact key _ _ A0 IA (hk.a q hq) (hk.len q hq).1;obtain⟨q,hq,rfl⟩:=m0 p hp;exact key _ _ B0 IBB (hk.b q hq) (hk.len q hq).2
abbrev i1Q:Rat:=((1:Int):Rat)
theorem rM_:i1Q=1:=by decide
def pwC(c:Rat):Nat→List Rat
 |0=>bo_ i1Q
 |i+1=>mulP (pwC c i) [c,i1Q]
def cmT(c:Rat)(p:List Rat):Nat→List Rat
 |0=>[]
 |i+1=>addP (cmT c p i) (aN_ (pwC c i) (coP p i))
theorem od_(c x:Rat):∀i,evalP (pwC c i) x=(c+x) ^ i
 |0=>by rw[pwC,d4_,rM_,Rat.pow_zero]
 |i+1=>by
  rw[pwC,cX_,od_ c x i,Rat.pow_succ,rM_,e6_]
theorem o2_(c:Rat)(p:List Rat)(x:Rat):∀i,i≤p.length→evalP (cmT c p i) x=evalP (p.take i) (c+x)
 |0,_=>rfl
 |i+1,h=>by
  rw[cmT,bN_,bL_,o2_ c p x i (by omega),od_,g3_ _ _ _ (by omega)];grind
theorem nQ_(p q:List Rat):trimQ (addP p q)=addP p q:=ck_ _
theorem cmT_comp(c:Rat)(p:List Rat):cmT c p p.length=compP [c,1] p:=by
 cases p with
 |nil=>rfl
 |cons a l=>
  have h1:trimQ (cmT c (a::l) (a::l).length)=trimQ (compP [c,1] (a::l)):=dK_ fun x=>by
   rw[o2_ c _ x _ (Nat.le_refl _),List.take_length,b6_,e6_]
  have h2:trimQ (cmT c (a::l) (a::l).length)=cmT c (a::l) (a::l).length:=by
   rw[List.length_cons,cmT,nQ_]
  have h3:trimQ (compP [c,1] (a::l))=compP [c,1] (a::l):=by rw[compP,nQ_]
  rw[←h2,h1,h3]
def pwB:Nat→Nat
 |0=>1
 |i+1=>2* (pwB i+20+1)+1
theorem pwB_le{i j:Nat}(h:i≤j):pwB i≤pwB j:=by
 induction j with
 |zero=>rw[show i=0 by omega];exact Nat.le_refl _
 |succ j ih=>
  by_cases e:i=j+1;rw[e];exact Nat.le_refl _;have:=ih (by omega);rw[pwB];omega
theorem kp_(i:Nat):1≤pwB i:=by cases i <;> simp[pwB]
theorem m0_(c:Rat):∀i,(pwC c i).length≤i+1
 |0=>dS_ _
 |i+1=>by
  have h1:=gq_ (pwC c i) [c,i1Q];have h2:=eE_ (pwC c i) c;have h3:=m0_ c i;rw[pwC];rw[rM_] at *
  omega
end Go.Abs
