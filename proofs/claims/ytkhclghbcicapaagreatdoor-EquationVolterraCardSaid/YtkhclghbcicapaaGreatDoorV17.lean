/- Part V17 of the proof. -/
import Derived.Test.YtkhclghbcicapaaGreatDoorV16
import Derived.Lib.ItoaNum
set_option linter.all false
namespace Go.Abs
set_option maxRecDepth 20000
abbrev Ke:=List (List Rat×List Rat)
def upF(a:Rat)(u o:List Rat)(p:List Rat×List Rat):List Rat:=fV o (aJ p.1 (cn (ax (aJ p.2 u)) [af (ax (aJ p.2 u)) a]))
def upL(a:Rat)(u:List Rat):Ke→List Rat→List Rat
 |[],o=>o
 |p::k,o=>upL a u k (upF a u o p)
def upK(k:Ke)(a:Rat)(u:List Rat):List Rat:=upL a u k []
theorem AJ(a:Rat)(u:List Rat):∀(k:Ke) (o:List Rat) (p:List Rat×List Rat),upL a u (k++[p]) o=upF a u (upL a u k o) p
 |[],_,_=>rfl
 |q::k,o,p=>AJ a u k (upF a u o q) p
structure OkUF (a:Rat)(u o:List Rat)(p:List Rat×List Rat):Prop where
 m1:fx p.2 u
 i1:(aJ p.2 u).length≤1099511627775
 i2:smL (ax (aJ p.2 u))
 e1:fe (ax (aJ p.2 u)) a
 l1:(ax (aJ p.2 u)).length≤1099511627776
 m2:fx p.1 (cn (ax (aJ p.2 u)) [af (ax (aJ p.2 u)) a])
 o1:smL o
 o2:o.length≤1099511627776
 l2:(aJ p.1 (cn (ax (aJ p.2 u)) [af (ax (aJ p.2 u)) a])).length≤1099511627776
def qV(k:Ke)(a:Rat)(u:List Rat):Prop:=∀i p,k[i]?=some p→OkUF a u (upL a u (k.take i) []) p
structure KHS (k:Ke)(KA KB:Rat)(h:Nat):Prop where
 len:∀p∈k,p.1.length≤4∧p.2.length≤4
 a:∀p∈k,HS p.1 KA h
 b:∀p∈k,HS p.2 KB h
theorem pow_nz'{d:Rat}(h:d≠0):∀n:Nat,d^ n≠0
 |0=>by grind
 |n+1=>by rw[Rat.pow_succ];intro g;rcases Rat.mul_eq_zero.1 g with g|g;exact pow_nz' h n g;grind
structure TeB (A B u:List Rat)(a S:Rat)(h:Nat):Prop where
 m:(aJ B u).length≤u.length+4
 il:(ax (aJ B u)).length≤u.length+5
 ib:bdL (ax (aJ B u)) h
 sb:bdL (cn (ax (aJ B u)) [af (ax (aJ B u)) a]) h
 sl:(cn (ax (aJ B u)) [af (ax (aJ B u)) a]).length≤u.length+5
 l:(aJ A (cn (ax (aJ B u)) [af (ax (aJ B u)) a])).length≤u.length+9
 H:HS (aJ A (cn (ax (aJ B u)) [af (ax (aJ B u)) a])) S h
theorem te_HS{A B u:List Rat}{a d KA KB K:Rat}{h h':Nat}(hA:A.length≤4)(hB:B.length≤4)(hu:u.length≤245)(HA:HS A KA h)(HB:HS B KB h)(H:HS u K h')(d0:d≠0)(hd:IB d 20)(ha:IB (a* d) 20)(h1:1≤h):TeB A B u a (KA* (KB* K* fl 250* d^ 255)) (h'+2* h+13000):=by
 have m1:=lQ B u;have i1:=jG (aJ B u);have j:=HB.mul H hB;have c:=j.integral (L:=250) (by omega) (by decide);have i:=nw (ax (aJ B u)) [af (ax (aJ B u)) a];rw[List.length_singleton] at i;have m:=lQ A (cn (ax (aJ B u)) [af (ax (aJ B u)) a]);have b:=c.bdL (by omega);generalize hf:ax (aJ B u)=f at *
 have l:f.length≤250:=by omega
 have hp:=jE hd 255;have g:=jE hd (255- f.length);have hv:=(wB hd ha f c.all).mul g;have e0:d^ f.length* d^ (255- f.length)=d^ 255:=by rw[←nC,show f.length+(255- f.length)=255 by omega]
 have g3:=(c.rescale (pow_nz' d0 255) hp).mono (show _≤h'+h+12800 by omega);have e:=g3.less (v:=af f a) ((hv.eq (by grind)).mono (by omega));rw[←vw] at e;have k:=HA.mul e hA;subst hf;exact⟨by omega,by omega,bdL_mono' b (by omega),bdL_mono' (e.bdL (by omega)) (by omega),by omega,by omega,k.mono (by omega)⟩
theorem GZ{a d KA KB K:Rat}{u:List Rat}{h h':Nat}(hu:u.length≤240)(H:HS u K h')(d0:d≠0)(hd:IB d 20)(ha:IB (a* d) 20)(hq:qs a≤20)(h1:1≤h)(hlim:h'+2* h+14000≤400000000):∀(k:Ke) (o:List Rat) (n:Nat),KHS k KA KB h→n+k.length≤900→o.length≤u.length+9→HS o (KA* (KB* K* fl 250* d^ 255)) (h'+2* h+13000+n)→
    HS (upL a u k o) (KA* (KB* K* fl 250* d^ 255)) (h'+2* h+13000+(n+k.length))∧(upL a u k o).length≤u.length+9∧∀i p,k[i]?=some p→OkUF a u (upL a u (k.take i) o) p
 |[],o,n,_,_,ho,Ho=>⟨Ho,ho,fun i p hp=>by grind⟩
 |p::k,o,n,hk,hn,ho,Ho=>by
  rw[List.length_cons] at hn;obtain⟨l1,l2⟩:=hk.len p (List.mem_cons_self ..);have f:=hk.a p (List.mem_cons_self ..);have e:=hk.b p (List.mem_cons_self ..);have T:=te_HS l1 l2 (show u.length≤245 by omega) f e H d0 hd ha h1;have al:=kU o (aJ p.1 (cn (ax (aJ p.2 u)) [af (ax (aJ p.2 u)) a]));have t:=T.l;have r:HS (upF a u o p) (KA* (KB* K* fl 250* d^ 255)) (h'+2* h+13000+(n+1)):=(Ho.plus (T.H.mono (by omega))).mono (by omega);obtain⟨j,g,s⟩:=GZ hu H d0 hd ha hq h1 hlim k (upF a u o p) (n+1) ⟨fun q hq=>hk.len q (List.mem_cons_of_mem _ hq),fun q hq=>hk.a q (List.mem_cons_of_mem _ hq),fun q hq=>hk.b q (List.mem_cons_of_mem _ hq)⟩ (by omega) (by unfold upF;omega) r;refine⟨by rw[List.length_cons,show n+(k.length+1)=n+1+k.length by omega];exact j,g,fun i q c=>?_⟩;cases i with
  |zero=>
   cases c;show OkUF a u o p;have v:=dz (f.bdL h1) h1;have b1:=dz (e.bdL h1) h1;have u1:=dz ((H.mono (show h'≤h'+1 by omega)).bdL (by omega)) (by omega);have i1:=dz T.ib (by omega);have s1:=dz T.sb (by omega);have o1:=Ho.bdL (by omega);have x:=T.m;have il:=T.il;have sl:=T.sl;have e1:p.2.length* (mxL p.2+mxL u+1)≤4* (h+h'+2):=Nat.mul_le_mul l2 (by omega);have e2:p.1.length* (mxL p.1+mxL (cn (ax (aJ p.2 u)) [af (ax (aJ p.2 u)) a])+1)≤4* (h'+3* h+13002):=Nat.mul_le_mul l1 (by omega);have w:(ax (aJ p.2 u)).length* (mxL (ax (aJ p.2 u))+qs a+1)≤250* (h'+2* h+13021):=Nat.mul_le_mul (by omega) (by omega);exact⟨⟨by omega,by omega,by omega,by omega⟩,by omega,eP T.ib (by omega),⟨by omega,by omega⟩,by omega,⟨by omega,by omega,by omega,by omega⟩,eP o1 (by omega),by omega,by omega⟩
  |succ i=>exact s i q (by grind)
theorem yS{k:Ke}{a d KA KB K:Rat}{u:List Rat}{h h':Nat}(hk:KHS k KA KB h)(hkl:k.length≤900)(hu:u.length≤240)(H:HS u K h')(d0:d≠0)(hd:IB d 20)(ha:IB (a* d) 20)(hq:qs a≤20)(h1:1≤h)(A0:KA≠0)(B0:KB≠0)(IA:IB KA h)(IBB:IB KB h)(hlim:h'+2* h+14000≤400000000):HS (upK k a u) (KA* (KB* K* fl 250* d^ 255)) (h'+2* h+13000+k.length)∧(upK k a u).length≤u.length+9∧qV k a u:=by
 have b:HS [] (KA* (KB* K* fl 250* d^ 255)) (h'+2* h+13000+0):=by
  refine⟨fun g=>?_,?_,fun i=>(IB.zero _).eq (by show 0=(0:Rat) * _;grind)⟩;rcases Rat.mul_eq_zero.1 g with g|g
  exact A0 g;rcases Rat.mul_eq_zero.1 g with g|g
  rcases Rat.mul_eq_zero.1 g with g|g
  rcases Rat.mul_eq_zero.1 g with g|g
  exact B0 g;exact H.ne g;have:=iS 250;grind;exact pow_nz' d0 255 g;have hf:=Ac 250 (by omega);have hp:=jE hd 255;exact(IA.mul (((IBB.mul H.sc).mul hf).mul hp)).mono (by omega)
 have:=GZ hu H d0 hd ha hq h1 hlim k [] 0 hk (by omega) (Nat.zero_le _) b;rw[Nat.zero_add] at this;exact this
theorem sf{u v:List Rat}{r i:Nat}(h:∀j,j< r→coP u j=coP v j)(hi:i≤r):∀(k:Ke) (o o':List Rat),coP o i=coP o' i→coP (upL 0 u k o) i=coP (upL 0 v k o') i
 |[],_,_,ho=>ho
 |p::k,o,o',ho=>sf h hi k _ _ (by unfold upF;rw[eX,eX,ho,B9 h i hi])
theorem Ar{k:Ke}{u v:List Rat}{r:Nat}(h:∀j,j< r→coP u j=coP v j)(i:Nat)(hi:i≤r):coP (upK k 0 u) i=coP (upK k 0 v) i:=sf h hi k [] [] rfl
def seK(k:Ke)(G:List Rat)(L:Rat)(n:Nat):Nat→List Rat
 |0=>[]
 |r+1=>D5 (fV G (aL (upK k 0 (seK k G L n r)) L)) n
def teK(k:Ke)(G:List Rat)(L a:Rat):Nat→List Rat
 |0=>G
 |n+1=>aL (upK k a (teK k G L a n)) L
theorem uD(k:Ke)(G:List Rat)(L:Rat)(n:Nat):∀r,(seK k G L n r).length≤n+1
 |0=>by rw[seK];grind
 |r+1=>by exact B7 _ _
section
variable {k:Ke}{G:List Rat}{L dL KA KB KG:Rat}{h:Nat}(hk:KHS k KA KB h)(hkl:k.length≤900)(h1:1≤h)(h2:h≤1000)(A0:KA≠0)(B0:KB≠0)(IA:IB KA h)(IBB:IB KB h)(HG:HS G KG 3000)(l0:dL≠0)(l1:IB dL 20)(l2:IB (L* dL) 20)
include hk hkl h1 h2 A0 B0 IA IBB HG l0 l1 l2
theorem C3{n:Nat}(hn:n≤40):∀r,r≤1000→(∃K,HS (seK k G L n r) K (20000* r+1))∧qV k 0 (seK k G L n r)
 |0,_=>⟨⟨1,HS.nil.mono (by omega)⟩,(yS (u:=[]) (d:=1) hk hkl (by decide) HS.nil (by decide) (IB.one.mono (by omega)) ((IB.zero 20).eq (by grind)) (by decide) h1 A0 B0 IA IBB (by omega)).2.2⟩
 |r+1,hr=>by
  obtain⟨⟨K,H⟩,_⟩:=C3 hn r (by omega);have f:=uD k G L n r;have e:=(yS (a:=0) (d:=1) hk hkl (by omega) H (by decide) (IB.one.mono (by omega)) ((IB.zero 20).eq (by grind)) (by decide) h1 A0 B0 IA IBB (by omega)).1;have c:=e.k l0 l1 l2;have b:=((HG.plus2 c).cut n).mono (show _≤20000* (r+1)+1 by omega);exact⟨⟨_,b⟩,(yS (a:=0) (d:=1) hk hkl (by have:=B7 (fV G (aL (upK k 0 (seK k G L n r)) L)) n;omega) b (by decide) (IB.one.mono (by omega)) ((IB.zero 20).eq (by grind)) (by decide) h1 A0 B0 IA IBB (by omega)).2.2⟩
end
def tW(v:Sp):Rat:=if 0≤v.1 then v.2 else if v.2≤0 then -v.1 else dM [-v.1,v.2]
theorem absH_le{v:Sp}{y:Rat}(h1:v.1≤y)(h2:y≤v.2):ab y≤tW v:=by
 have a:=H2 (-v.1) v.2;unfold tW;rw[ab_le];split;constructor <;> grind;split;constructor <;> grind;constructor <;> grind
theorem absH_qs{v:Sp}{M:Nat}(h1:qs v.1≤M)(h2:qs v.2≤M)(hM:1≤M):qs (tW v)≤M:=by
 unfold tW;split;exact h2;split;rw[fv];exact h1
 exact zx (fun x a=>by
  rcases List.mem_cons.1 a with rfl|a
  rw[fv];exact h1;rw[List.mem_singleton.1 a];exact h2) hM
def stL(z g:Rat):Nat→Rat
 |0=>g
 |n+1=>stL z g n* z
def stR(w:Rat):Nat→Rat
 |0=>w
 |n+1=>stR w n* (((n+1:Nat):Int):Rat)
theorem Hg(z g:Rat):∀n:Nat,stL z g n=g* z^ n
 |0=>by rw[stL,Rat.pow_zero];grind
 |n+1=>by rw[stL,Hg z g n,Rat.pow_succ];grind
theorem Hf(w:Rat):∀n,stR w n=w* fl n
 |0=>by rw[stR,fl];grind
 |n+1=>by rw[stR,Hf w n,fl];grind
theorem CV{z g:Rat}{a b:Nat}(hz:qs z≤a)(hg:qs g≤b):∀n,qs (stL z g n)≤b+n* a
 |0=>by rw[stL];omega
 |n+1=>by
  have h1:=CV hz hg n;have c:=dk (stL z g n) z;rw[stL,Nat.succ_mul];omega
theorem CU{w:Rat}{b:Nat}(hw:qs w≤b):∀n,n≤60→qs (stR w n)≤b+n* 8
 |0,_=>by rw[stR];omega
 |n+1,hn=>by
  have h1:=CU hw n (by omega);have a:=dk (stR w n) (((n+1:Nat):Int):Rat)
  have c:qs (((n+1:Nat):Int):Rat)≤8:=by
   have e:=dZ ((((n+1:Nat):Int)):Rat);unfold qs;show max (bl ((n+1:Nat):Int).natAbs) (bl 1)≤8;have:bl ((n+1:Nat):Int).natAbs≤8:=ez (by omega);have h1:bl 1≤8:=by decide
   omega
  rw[stR,Nat.succ_mul];omega
def stP(z g w:Rat)(n:Nat):Bool:=decide (z* 2≤(((n+2:Nat):Int):Rat)) && decide (stL z g (n+1)≤stR w (n+1))
def e9{α:Type}(f:α→Rat):List α→Rat
 |[]=>0
 |p::k=>f p+e9 f k
theorem AK(a:Rat)(u:List Rat)(x:Rat):∀(k:Ke) (o:List Rat),af (upL a u k o) x=af o x+e9 (fun p=>af p.1 x* (af (ax (aJ p.2 u)) x- af (ax (aJ p.2 u)) a)) k
 |[],o=>by rw[upL,e9];grind
 |p::k,o=>by
  rw[upL,AK a u x k,upF,vw,eF,bh,dJ,lh,e9];grind
theorem G0(k:Ke)(a:Rat)(u:List Rat)(x:Rat):af (upK k a u) x=e9 (fun p=>af p.1 x* (af (ax (aJ p.2 u)) x- af (ax (aJ p.2 u)) a)) k:=by
 unfold upK;rw[AK,aM];grind
theorem Ey{α:Type}{f g:α→Rat}{c:Rat}:∀k:List α,(∀p∈k,ab (f p)≤g p* c)→ab (e9 f k)≤e9 g k* c
 |[],_=>by rw[e9,e9,lr];grind
 |p::k,h=>by
  have b:=Ey k fun q a=>h q (List.mem_cons_of_mem _ a);have d:=ik (f p) (e9 f k);rw[e9,e9];grind
theorem dv_int(B u:List Rat)(x:Rat):dvE (ax (aJ B u)) x=af B x* af u x:=by
 have:=jp (trim_iff.1 (uA (aJ B u))) x;rw[bY,bh] at this;grind
theorem Ex{α:Type}{f:α→Rat}:∀k:List α,(∀p∈k,0≤f p)→0≤e9 f k
 |[],_=>by rw[e9];grind
 |p::k,h=>by
  have b:=Ex k fun q a=>h q (List.mem_cons_of_mem _ a);rw[e9];grind
theorem vh {k:Ke} {G:List Rat} {L a s W γ:Rat} {al be:List Rat×List Rat→Rat} (hs:s=1∨s= -1) (W0:0≤W) (hα:∀p∈k,∀z,0≤s* (z- a)→s* (z- a)≤W→ab (af p.1 z)≤al p) (hβ:∀p∈k,∀z,0≤s* (z- a)→s* (z- a)≤W→ab (af p.2 z)≤be p)
    (hγ:∀z,0≤s* (z- a)→s* (z- a)≤W→ab (af G z)≤γ):∀n z,0≤s* (z- a)→s* (z- a)≤W→ab (af (teK k G L a n) z) * fl n≤γ* (e9 (fun p=>al p* be p) k* ab L) ^ n* (s* (z- a)) ^ n
 |0,z,z0,z1=>by rw[Rat.pow_zero,Rat.pow_zero,fl];have:=hγ z z0 z1;show ab (af G z) * 1≤_;grind
 |n+1,z,z0,z1=>by
  have e:=vh (L:=L) hs W0 hα hβ hγ n;have b:0≤s* (a- a)∧s* (a- a)≤W:=by constructor <;> grind
  have u:=iS n;obtain⟨φ,x,h⟩:=part 1 (d:=fl n) (by decide+kernel) u;have hN:(0:Rat)≤(((n+1:Nat):Int):Rat):=Rat.intCast_nonneg.2 (by omega);generalize m:e9 (fun p=>al p* be p) k=Z at *
  have one:∀p∈k,ab (af p.1 z* (af (ax (aJ p.2 (teK k G L a n))) z- af (ax (aJ p.2 (teK k G L a n))) a) * (((n+1:Nat):Int):Rat))≤(al p* be p) * (γ* (Z* ab L) ^ n* φ* (s* (z- a)) ^ (n+1)):=fun p hp=>by
   have t:=Rat.le_trans (cZ _) (hβ p hp a b.1 b.2);have r:=Rat.le_trans (cZ _) (hα p hp a b.1 b.2)
   have q:=int_le (F:=ax (aJ p.2 (teK k G L a n))) (s:=s) (a:=a) (W:=W) (M:=be p* (γ* (Z* ab L) ^ n* φ)) hs n (fun y j i=>by
    rw[dv_int,cM];have h1:=e y j i;have v:=Rat.mul_le_mul_of_nonneg_right h1 (show 0≤φ by grind)
    have o:ab (af (teK k G L a n) y)≤γ* (Z* ab L) ^ n* φ* (s* (y- a)) ^ n:=by
     generalize (s* (y- a)) ^ n=P at *
     generalize (Z* ab L) ^ n=C at *
     rw[show ab (af (teK k G L a n) y) * fl n* φ=ab (af (teK k G L a n) y) * (φ* fl n) by grind,h] at v;grind
    have:=dw (hβ p hp y j i) o (cZ _) t;grind) z z0 z1
   have hA:=hα p hp z z0 z1;rw[cM,cM,show ab (((n+1:Nat):Int):Rat)=(((n+1:Nat):Int):Rat) from if_neg (by grind)];have w:=Rat.mul_le_mul_of_nonneg_left q r;have A:=Rat.mul_le_mul_of_nonneg_right hA (Rat.mul_nonneg (cZ (af (ax (aJ p.2 (teK k G L a n))) z- af (ax (aJ p.2 (teK k G L a n))) a)) hN);generalize (((n+1:Nat):Int):Rat)=N at *
   generalize (s* (z- a)) ^ (n+1)=P at *
   generalize (Z* ab L) ^ n=C at *
   grind
  have sm:∀(f:List Rat×List Rat→Rat) (c:Rat) (k:Ke),e9 (fun p=>f p* c) k=e9 f k* c:=fun f c k=>by
   induction k with
   |nil=>rw[e9,e9];grind
   |cons p k e=>rw[e9,e9,e];grind
  have l:=Ey (f:=fun p=>af p.1 z* (af (ax (aJ p.2 (teK k G L a n))) z- af (ax (aJ p.2 (teK k G L a n))) a) * (((n+1:Nat):Int):Rat)) (g:=fun p=>al p* be p) k one;rw[sm,cM,show ab (((n+1:Nat):Int):Rat)=(((n+1:Nat):Int):Rat) from if_neg (by grind),m] at l;rw[teK,aR,G0,cM,fl,Rat.pow_succ];have g3:=Rat.mul_le_mul_of_nonneg_right l (Rat.mul_nonneg (cZ L) (show 0≤fl n by grind));generalize e9 (fun p=>af p.1 z* (af (ax (aJ p.2 (teK k G L a n))) z- af (ax (aJ p.2 (teK k G L a n))) a)) k=S at *
  generalize (((n+1:Nat):Int):Rat)=N at *
  generalize (s* (z- a)) ^ (n+1)=P at *
  generalize (Z* ab L) ^ n=C at *
  have e1:Z* (γ* C* φ* P) * (ab L* fl n)=γ* (C* (Z* ab L)) * P* (φ* fl n):=by grind
  rw[e1,h] at g3;grind
def suK(k:Ke)(G:List Rat)(L a x:Rat):Nat→Rat
 |0=>0
 |n+1=>suK k G L a x n+af (teK k G L a n) x
theorem xC {k:Ke} {G:List Rat} {L a x w γ lo hi:Rat} {al be:List Rat×List Rat→Rat} (hlo:lo≤hi) (hax:lo=a∧hi=x∨lo=x∧hi=a) (hα:∀p∈k,∀y,lo≤y→y≤hi→ab (af p.1 y)≤al p) (hβ:∀p∈k,∀y,lo≤y→y≤hi→ab (af p.2 y)≤be p) (hγ:∀y,lo≤y→y≤hi→ab (af G y)≤γ)
    {n:Nat} (hn:stP (e9 (fun p=>al p* be p) k* ab L* (hi- lo)) (γ* 4) w n=true) (j:Nat):ab (suK k G L a x (n+1+j)- suK k G L a x (n+1)) * 2≤w:=by
 unfold stP at hn;rw[Bool.and_eq_true] at hn;obtain⟨f,d⟩:=hn;have f:=of_decide_eq_true f;have d:=of_decide_eq_true d;rw[Hg,Hf] at d
 obtain⟨s,hs,e,q,b⟩:∃s:Rat,(s=1∨s= -1)∧0≤s* (x- a)∧s* (x- a)=hi- lo∧∀z,0≤s* (z- a)→s* (z- a)≤s* (x- a)→lo≤z∧z≤hi:=by
  rcases hax with⟨rfl,rfl⟩|⟨rfl,rfl⟩
  exact⟨1,.inl rfl,by grind,by grind,fun z h1 c=>by grind⟩;exact⟨-1,.inr rfl,by grind,by grind,fun z h1 c=>by grind⟩
 have b1:=fun n=>vh (L:=L) hs e (fun p hp z h1 c=>hα p hp z (b z h1 c).1 (b z h1 c).2) (fun p hp z h1 c=>hβ p hp z (b z h1 c).1 (b z h1 c).2) (fun z h1 c=>hγ z (b z h1 c).1 (b z h1 c).2) n x e Rat.le_refl;have h:=Rat.le_trans (cZ _) (hγ lo Rat.le_refl hlo);have i:0≤e9 (fun p=>al p* be p) k:=Ex k fun p hp=>Rat.mul_nonneg (Rat.le_trans (cZ _) (hα p hp lo Rat.le_refl hlo)) (Rat.le_trans (cZ _) (hβ p hp lo Rat.le_refl hlo));have g:0≤e9 (fun p=>al p* be p) k* ab L* (s* (x- a)):=Rat.mul_nonneg (Rat.mul_nonneg i (cZ L)) e
 have m:∀n:Nat,(e9 (fun p=>al p* be p) k* ab L) ^ n* (s* (x- a)) ^ n=(e9 (fun p=>al p* be p) k* ab L* (s* (x- a))) ^ n:=fun n=>by
  induction n with
  |zero=>grind
  |succ n o=>grind
 rw[←q] at f d;generalize t:e9 (fun p=>al p* be p) k* ab L* (s* (x- a))=z at *
 have c1:∀n,ab (af (teK k G L a n) x)≤γ* eZ z n:=fun n=>by
  have h1:=b1 n;rw[Rat.mul_assoc γ,m,←DY] at h1;exact jk (iS n) (by grind)
 have l:=eZ_half g (n:=n) (by grind)
 have step:∀j,ab (suK k G L a x (n+1+j)- suK k G L a x (n+1))≤γ* (2* eZ z (n+1)- 2* eZ z (n+1+j)):=fun j=>by
  induction j with
  |zero=>rw[Nat.add_zero,show suK k G L a x (n+1)- suK k G L a x (n+1)=0 by grind,lr];grind
  |succ j o=>
   have h1:suK k G L a x (n+1+(j+1))=suK k G L a x (n+1+j)+af (teK k G L a (n+1+j)) x:=rfl;have c:=ik (suK k G L a x (n+1+j)- suK k G L a x (n+1)) (af (teK k G L a (n+1+j)) x);have u:=c1 (n+1+j);have v:=Rat.mul_le_mul_of_nonneg_left (l j) h;grind
 have A:=step j;have r:=Rat.mul_nonneg h (IY g (n+1+j));have lim:ab (suK k G L a x (n+1+j)- suK k G L a x (n+1))≤2* γ* eZ z (n+1):=by grind
 rw[←DY] at d
 exact jk (iS (n+1)) (by
  have:=Rat.mul_le_mul_of_nonneg_right lim (show 0≤fl (n+1) by have:=iS (n+1);grind);grind)
def mvK(a:Rat)(k:Ke):Ke:=k.map fun p=>(ca [a,1] p.1,ca [a,1] p.2)
def jL(b:Nat):Nat→Nat→List Nat
 |0,_=>[]
 |n+1,m=>m % b::jL b n (m/ b)
@[simp] theorem k9 (b:Nat):∀n m,(jL b n m).length=n
 |0,_=>rfl
 |n+1,m=>by simp[jL,k9 b n]
theorem uH{b:Nat}(hb:0< b):∀n m,∀d∈jL b n m,d< b
 |0,_,d,h=>by cases h
 |n+1,m,d,h=>by
  rcases List.mem_cons.1 h with rfl|h
  exact Nat.mod_lt _ hb;exact uH hb n _ d h
theorem ri{b:Nat}(hb:0< b):∀{n m:Nat},m< b^ n→ofD b (jL b n m)=m
 |0,m,h=>by simp at h;subst h;rfl
 |n+1,m,h=>by
  rw[jL,ofD,ri hb (by rw[Nat.div_lt_iff_lt_mul hb];exact h)];exact Nat.mod_add_div m b
theorem Be{b:Nat}:∀{l:List Nat},(∀d∈l,d< b)→jL b l.length (ofD b l)=l
 |[],_=>rfl
 |d::l,h=>by
  have a:=h d (List.mem_cons_self ..);have h1:ofD b (d::l) % b=d:=by rw[ofD,Nat.add_mul_mod_self_left];exact Nat.mod_eq_of_lt a
  have c:ofD b (d::l) / b=ofD b l:=by rw[ofD,Nat.add_mul_div_left _ _ (by omega),Nat.div_eq_of_lt a];omega
  rw[List.length_cons,jL,h1,c,Be fun x e=>h x (List.mem_cons_of_mem _ e)]
theorem Ae{b n m:Nat}{l:List Nat}(h:∀d∈l,d< b)(hl:l.length=n)(hv:ofD b l=m):l=jL b n m:=by
 subst hl hv;exact(Be h).symm
theorem FO{v:Nat}(h1:1≤v)(h2:v< 1000000000):500000000≤v* (1000000000/ (v+1))∧(v+1) * (1000000000/ (v+1))≤1000000000∧1≤1000000000/ (v+1):=by
 have hq1:(v+1) * (1000000000/ (v+1))≤1000000000:=Nat.mul_div_le _ _;have b:1000000000< (v+1) * (1000000000/ (v+1))+(v+1):=Nat.lt_mul_div_succ _ (by omega);have a:1≤1000000000/ (v+1):=by grind
 refine⟨?_,hq1,a⟩;obtain⟨q,c⟩:∃q,q=1000000000/ (v+1):=⟨_,rfl⟩;rw[←c] at hq1 b a⊢;rw[Nat.add_mul] at hq1 b;by_cases c1:500000000≤v;have:=Nat.mul_le_mul_left v a;omega;by_cases c2:250000000≤v;have:2≤q:=by grind
 have:=Nat.mul_le_mul_left v this;omega;by_cases c3:166666666≤v
 have:4≤q:=by
  rw[c,Nat.le_div_iff_mul_le (by omega)];omega
 have:=Nat.mul_le_mul_left v this;omega;by_cases c4:v=1;subst c4;omega
 have:q≤333333333:=by
  have:1000000000/ (v+1)≤1000000000/ 3:=Nat.div_le_div_left (by omega) (by omega);omega
 omega
theorem Ii{b n p w u v lo lw:Nat}(hb:0< b)(hp:p=lo+b^ n* u)(hlo:lo< b^ n)(hw:w=lw+b^ n* v)(hlw:lw< b^ n)(hv:b≤2* v)(hvb:v< b)(hq:p< w* b):
    p/ w≤min (u/ v) (b- 1)∧min (u/ v) (b- 1)≤p/ w+2:=by
 have d:0< v:=by omega
 have l:0< b^ n:=Nat.pow_pos hb;have c:0< w:=by grind
 have q1:w* (p/ w)≤p:=Nat.mul_div_le _ _;have q2:p< w* (p/ w)+w:=Nat.lt_mul_div_succ _ c;have q3:p/ w< b:=by rw[Nat.div_lt_iff_lt_mul c,Nat.mul_comm];grind
 obtain⟨q,e⟩:∃q,q=p/ w:=⟨_,rfl⟩;rw[←e] at q1 q2 q3⊢;have h:v* (u/ v)≤u:=Nat.mul_div_le _ _;obtain⟨g,a⟩:∃g,g=u/ v:=⟨_,rfl⟩;rw[←a] at h;constructor;refine Nat.le_min.2 ⟨?_,by omega⟩;rw[←a,a,Nat.le_div_iff_mul_le d]
 -- q v≤u,for q v b^n≤q w≤p< (u+1) b^n
 have h1:b^ n* (q* v)≤w* q:=by rw[hw,Nat.add_mul,Nat.mul_assoc,Nat.mul_comm v q];omega
 have i:b^ n* (q* v)< b^ n* (u+1):=by grind
 have:=Nat.lt_of_mul_lt_mul_left i;omega;rw[←a]
 -- if min g (b- 1)≥q+3 then(q+3) v≤u and so p≥b^n (q+3) v,but p< w (q+1)
 refine Nat.le_of_not_lt fun j=>?_;have f:q+3≤g:=by grind
 have k:q+3≤b- 1:=by grind
 have h1:v* (q+3)≤u:=Nat.le_trans (Nat.mul_le_mul_left _ f) h;have i:b^ n* (v* (q+3))≤p:=by rw[hp];have:=Nat.mul_le_mul_left (b^ n) h1;omega
 have r:w* (q+1)< b^ n* ((v+1) * (q+1))+1:=by
  have:w≤b^ n* (v+1):=by grind
  have:=Nat.mul_le_mul_right (q+1) this;grind
 have s:p< w* (q+1):=by grind
 have m:b^ n* (v* (q+3))< b^ n* ((v+1) * (q+1)):=by omega
 have o:=Nat.lt_of_mul_lt_mul_left m;grind
structure DivI (U v n L:Nat)(R T:List Nat)(k:Nat):Prop where
 len:R.length=L
 dig:∀d∈R,d< MB
 digT:∀d∈T,d< MB
 k_le:k+n+T.length=L
 val:U=ofD MB R+v* (MB^ k* ofD MB T)
 top:ofD MB (R.drop k)< v
theorem DivI.start{U v n L s b:Nat}{R:List Nat}(hR:R.length=L)(hd:∀d∈R,d< MB)(hU:ofD MB R=U)(hn:n≤L)(hb:MB^ (n- 1)≤b)(hn1:1≤n)(hv:v=b* s)(hlt:U< MB^ (L- 1) * s):DivI U v n L R [] (L- n):=by
 refine⟨hR,hd,by simp,by grind,by simp[ofD,hU],?_⟩;have h1:=eD MB (L- n) R (by omega);have a:MB^ (L- 1)=MB^ (L- n) * MB^ (n- 1):=by rw[←Nat.pow_add];grind
 rw[a,Nat.mul_assoc] at hlt;have c:MB^ (L- n) * ofD MB (R.drop (L- n))< MB^ (L- n) * (MB^ (n- 1) * s):=by omega
 have f:=Nat.lt_of_mul_lt_mul_left c;have e:MB^ (n- 1) * s≤b* s:=Nat.mul_le_mul_right _ hb;omega
theorem DivI.parts{U v n L k:Nat}{R T:List Nat}(h:DivI U v n L R T (k+1))(hv:v< MB^ n):
    ofD MB (R.drop (k+n+1))=0∧ofD MB ((R.drop k).take (n+1))=ofD MB (R.drop k)∧ofD MB (R.drop k)< v* MB∧((R.drop k).take (n+1)).length=n+1∧R=R.take k++(R.drop k).take (n+1)++R.drop (k+n+1):=by
 have j:=h.k_le;have d:=h.len;have i:k< R.length:=by omega
 obtain⟨x,c⟩:∃x,R[k]?=some x:=⟨_,List.getElem?_eq_getElem i⟩;have g:x< MB:=h.dig x (List.mem_of_getElem? c);have e1:=lP MB c;have a:=h.top;have e2:=eD MB n (R.drop (k+1)) (by grind);rw[List.drop_drop,show k+1+n=k+n+1 by omega] at e2
 have e:ofD MB (R.drop (k+n+1))=0:=by
  rcases Nat.eq_zero_or_pos (ofD MB (R.drop (k+n+1))) with b|b
  exact b;have:MB^ n* 1≤MB^ n* ofD MB (R.drop (k+n+1)):=Nat.mul_le_mul_left _ b;omega
 have f:=eD MB (n+1) (R.drop k) (by grind);rw[List.drop_drop,show k+(n+1)=k+n+1 by omega,e] at f;refine⟨e,by omega,?_,by grind,?_⟩;have:MB* (ofD MB (R.drop (k+1))+1)≤MB* v:=Nat.mul_le_mul_left _ a;rw[Nat.mul_add] at this;rw[Nat.mul_comm v MB];omega;rw[List.append_assoc]
 conv=>lhs;rw[←List.take_append_drop k R]
 conv=>lhs;rw[←List.take_append_drop (n+1) (R.drop k)]
 rw[List.drop_drop,show k+(n+1)=k+n+1 by omega]
theorem DivI.next{U v n L k:Nat}{R T A:List Nat}(h:DivI U v n L R T (k+1))(hv:v< MB^ n)(hv0:0< v)(hA:A=jL MB (n+1) (ofD MB (R.drop k) % v)):
    DivI U v n L (R.take k++A++R.drop (k+n+1)) (ofD MB (R.drop k) / v::T) k:=by
 obtain⟨p1,p2,l,q,p⟩:=h.parts hv;have m:=h.k_le;have g:=h.len
 have j:ofD MB (R.drop k) % v< MB^ (n+1):=by
  have:=Nat.mod_lt (ofD MB (R.drop k)) hv0;have o:MB^ n≤MB^ (n+1):=Nat.pow_le_pow_right (by decide) (by omega);omega
 have f:A.length=n+1:=by rw[hA];simp
 have b:ofD MB A=ofD MB (R.drop k) % v:=by rw[hA];exact ri (by decide) j
 have i:(R.take k).length=k:=by simp;omega
 have c:ofD MB (R.take k++A++R.drop (k+n+1))=ofD MB (R.take k)+MB^ k* (ofD MB (R.drop k) % v):=by
  rw[iv,iv,p1,i,b];simp
 refine⟨by simp[f];omega,?_,?_,by simp;omega,?_,?_⟩;intro d a;rcases List.mem_append.1 a with a|a
 rcases List.mem_append.1 a with a|a
 exact h.dig d (List.mem_of_mem_take a);rw[hA] at a;exact uH (by decide) _ _ d a;exact h.dig d (List.mem_of_mem_drop a);intro d a;rcases List.mem_cons.1 a with rfl|a
 rw[Nat.div_lt_iff_lt_mul hv0,Nat.mul_comm];exact l;exact h.digT d a;rw[c,ofD,h.val,eD MB k R (by omega),Nat.pow_succ];have e:=Nat.mod_add_div (ofD MB (R.drop k)) v
 have e2:MB^ k* (ofD MB (R.drop k) % v)+v* (MB^ k* (ofD MB (R.drop k) / v))=MB^ k* ofD MB (R.drop k):=by
  rw[Nat.mul_left_comm,←Nat.mul_add,e]
 rw[Nat.mul_add,Nat.mul_add,←Nat.mul_assoc (MB^ k) MB];omega;rw[List.append_assoc,List.drop_append,i,Nat.sub_self,List.drop_zero,List.drop_of_length_le (by omega),List.nil_append,iv,p1,b];simp;exact Nat.mod_lt _ hv0
theorem DivI.last{U v n L a b s:Nat}{R T:List Nat}(h:DivI U v n L R T 0)(hU:U=a* s)(hv:v=b* s)(hb:0< b)(hs:0< s):ofD MB T=a/ b∧ofD MB R/ s=a % b:=by
 have h1:=h.val;have c:=h.top;rw[List.drop_zero,hv] at c;rw[Nat.pow_zero,Nat.one_mul,hU,hv] at h1
 have d:ofD MB T=a/ b:=by
  have e1:a/ b=a* s/ (b* s):=(Nat.mul_div_mul_right a b hs).symm;rw[e1,h1,Nat.add_mul_div_left _ _ (Nat.mul_pos hb hs),Nat.div_eq_of_lt c];omega
 have e2:ofD MB R=(a % b) * s:=by
  rw[d] at h1
  have e:a* s=(a % b) * s+b* s* (a/ b):=by
   conv=>lhs;rw[←Nat.mod_add_div a b]
   grind
  omega
 simp_all
theorem B4{n k:Nat}(hl:(av MB n).length=k+1){d:Nat}(hd:(av MB n)[k]?=some d):∃lo,n=lo+MB^ k* d∧lo< MB^ k:=by
 refine⟨ofD MB ((av MB n).take k),?_,?_⟩;have h1:=dc MB hd;rw[←hl,List.take_length,bG (by decide)] at h1;exact h1;have:=gG (b:=MB) (l:=(av MB n).take k) fun d hd=>ee (by decide) n d (List.mem_of_mem_take hd);grind
theorem D0{b s vt k:Nat}(hl:(av MB b).length=k+1)(hvt:(av MB b)[k]?=some vt)(h0:1≤vt)(h1:500000000≤vt* s)(h2:(vt+1) * s≤1000000000):
    (av MB (b* s)).length=k+1∧MB^ k≤b∧b* s< MB^ (k+1)∧∃v lw,(av MB (b* s))[k]?=some v∧b* s=lw+MB^ k* v∧lw< MB^ k∧500000000≤v∧v< 1000000000:=by
 obtain⟨lo,e1,e2⟩:=B4 hl hvt
 have d:MB^ k≤b:=by
  have:=Nat.mul_le_mul_left (MB^ k) h0;omega
 have hb2:b< MB^ k* (vt+1):=by grind
 have e:0< s:=by grind
 have c:b* s< MB^ (k+1):=by
  have i:b* s< MB^ k* (vt+1) * s:=Nat.mul_lt_mul_of_pos_right hb2 e;have m:MB^ k* ((vt+1) * s)≤MB^ k* MB:=Nat.mul_le_mul_left _ h2;grind
 have g:MB^ k* 500000000≤b* s:=by
  have i:MB^ k* vt* s≤b* s:=Nat.mul_le_mul_right _ (by omega);have m:MB^ k* 500000000≤MB^ k* (vt* s):=Nat.mul_le_mul_left _ h1;grind
 have a:(av MB (b* s)).length=k+1:=by
  have u1:=gL (b:=MB) (by decide) c
  have u2:k< (av MB (b* s)).length:=by
   refine Nat.lt_of_not_le fun f=>?_;have:=gG (b:=MB) (ee (by decide) (b* s));rw[bG (by decide)] at this;have n:MB^ (av MB (b* s)).length≤MB^ k:=Nat.pow_le_pow_right (by decide) f;omega
  omega
 obtain⟨v,hv⟩:∃v,(av MB (b* s))[k]?=some v:=⟨_,List.getElem?_eq_getElem (by omega)⟩;obtain⟨lw,l,j⟩:=B4 a hv;refine⟨a,d,c,v,lw,hv,l,j,?_,cV (by decide) hv⟩;have h:MB^ k* 500000000< MB^ k* (v+1):=by grind
 have:=Nat.lt_of_mul_lt_mul_left h;omega
theorem HQ{A:List Nat}{k x0 x1:Nat}(hA:A.length=k+2)(h0:A[k]?=some x0)(h1:A[k+1]?=some x1)(hd:∀d∈A,d< MB):∃lo,ofD MB A=lo+MB^ k* (x1* 1000000000+x0)∧lo< MB^ k:=by
 refine⟨ofD MB (A.take k),?_,?_⟩;have e1:=dc MB h1;rw[show k+1+1=A.length by omega,List.take_length] at e1;rw[e1,dc MB h0,Nat.pow_succ,Nat.mul_add,Nat.mul_assoc];have:MB^ k* (MB* x1)=MB^ k* (x1* 1000000000):=by grind
 omega;have:=gG (b:=MB) (l:=A.take k) fun d h=>hd d (List.mem_of_mem_take h);grind


theorem leastN{P:Nat→Prop}:∀N,P N→∃d,d≤N∧P d∧∀k,k< d→¬P k:=by
 intro N
 induction N using Nat.strongRecOn with
 |ind N a=>
  intro h;by_cases e:∃k,k< N∧P k;obtain⟨k,f,g⟩:=e;obtain⟨d,d1,d2,b⟩:=a k f g;exact⟨d,by omega,d2,b⟩;exact⟨N,Nat.le_refl _,h,fun k c hp=>e ⟨k,c,hp⟩⟩
section
variable {T:List Rat}{n:Nat}(hn:1≤n∧n≤5)(hl:T.length=n+1)(ht:aj T=T)(hm:aF T=1)(hb:bdL T 20)
include hn hl ht hm hb
end

def Ev(a:Rat)(p c:List Rat):Prop:=∀x,af p x=af c (x- a)
theorem Ev.step{a k:Rat}{o z co cz ct:List Rat}(ho:Ev a o co)(hz:Ev a z cz)(he:∀y,af ct y=af co y+af cz y* k):Ev a (fV o (aL z k)) ct:=fun x=>by
 rw[eF,aR,ho x,hz x,he]
theorem rn(a x:Rat):eV [a,x]≤dM [a,x]∧(eV [a,x]=a∧dM [a,x]=x∨eV [a,x]=x∧dM [a,x]=a):=by
 have e1:eV [a,x]=if dB x a< 0 then x else a:=by
  unfold eV dO;simp only[List.foldl_cons,List.foldl_nil,decide_eq_true_eq]
 have e2:dM [a,x]=if 0< dB x a then x else a:=by
  unfold dM dO;simp only[List.foldl_cons,List.foldl_nil,decide_eq_true_eq]
 rw[e1,e2];unfold dB;by_cases h1:x< a;rw[if_pos h1,if_pos (by decide),if_neg (by decide)];exact⟨Rat.le_of_lt h1,.inr ⟨rfl,rfl⟩⟩;rw[if_neg h1];by_cases h2:x=a;rw[if_pos h2,if_neg (by decide)];exact⟨Rat.le_refl,.inl ⟨rfl,h2.symm⟩⟩;rw[if_neg h2,if_neg (by decide),if_pos (by decide)];exact⟨by grind,.inl ⟨rfl,rfl⟩⟩
section
variable {u p q:List Rat}{a b:Rat}
variable (hu:u.length≤4)(hp:p.length≤3)(hq:q.length≤3)(bu:bdL u 20)(bp:bdL p 20)(bq:bdL q 20)(ha:qs a≤20)(hb:qs b≤20)
include hu hp hq bu bp bq ha hb
end



theorem HS.take{p:List Rat}{K:Rat}{h:Nat}(H:HS p K h)(n:Nat):HS (p.take n) K h:=⟨H.ne,H.sc,fun i=>by
 rw[Ca];split;exact H.co i;exact(IB.zero h).eq (by grind)⟩
theorem BL{f:List Rat×List Rat→List Rat}{m:Nat}:∀k:Ke,(∀p∈k,(f p).length≤m)→(k.flatMap f).length≤m* k.length
 |[],_=>by simp
 |p::k,h=>by
  have h1:=h p (List.mem_cons_self ..);have b:=BL k fun q a=>h q (List.mem_cons_of_mem _ a);rw[List.flatMap_cons,List.length_append,List.length_cons,Nat.mul_succ];omega
theorem FC{f:List Rat×List Rat→List Rat}{k:Ke}(hl:k.length≤3)(h4:∀p∈k,(f p).length≤4)(hb:∀p∈k,bdL (f p) 20):∃K,K≠0∧IB K 241∧∀p∈k,HS (f p) K 241:=by
 obtain⟨K,H⟩:=o8 (s:=20) (k.flatMap f) fun q a=>by
  obtain⟨p,hp,a⟩:=List.mem_flatMap.1 a;exact hb p hp q a
 have c:=BL k h4;have H:=H.mono (show _≤241 by omega);refine⟨K,H.ne,H.sc,fun p hp=>⟨H.ne,H.sc,fun i=>?_⟩⟩;by_cases hi:i< (f p).length
 have b:coP (f p) i∈k.flatMap f:=List.mem_flatMap.2 ⟨p,hp,by
  unfold coP;grind⟩
 obtain⟨j,_,e⟩:=mX b;rw[←e];exact H.co j;rw[ef (by omega)];exact(IB.zero _).eq (by grind)
theorem xg{k:Ke}(hl:k.length≤3)(h4:∀p∈k,p.1.length≤4∧p.2.length≤4)(hb:∀p∈k,bdL p.1 20∧bdL p.2 20):∃KA KB,KHS k KA KB 241∧KA≠0∧KB≠0∧IB KA 241∧IB KB 241:=by
 obtain⟨KA,b,c,a⟩:=FC (f:=fun p=>p.1) hl (fun p hp=>(h4 p hp).1) fun p hp=>(hb p hp).1;obtain⟨KB,b1,b2,d⟩:=FC (f:=fun p=>p.2) hl (fun p hp=>(h4 p hp).2) fun p hp=>(hb p hp).2;exact⟨KA,KB,⟨h4,a,d⟩,b,b1,c,b2⟩
theorem yL{k:Ke}{a d KA KB:Rat}{h:Nat}(hk:KHS k KA KB h)(A0:KA≠0)(B0:KB≠0)(IA:IB KA h)(IBB:IB KB h)(d0:d≠0)(hd:IB d 20)(ha:IB (a* d) 20):∃KA' KB',KHS (mvK a k) KA' KB' (h+70)∧KA'≠0∧KB'≠0∧IB KA' (h+70)∧IB KB' (h+70):=by
 have hp:=jE hd 3
 have f:∀(l:List Rat) (K:Rat),K≠0→IB K h→HS l K h→l.length≤4→HS (ca [a,1] l) (K* d^ 3) (h+70):=fun l K m n H o=>by
  cases l with
  |nil=>exact⟨fun g=>(Rat.mul_eq_zero.1 g).elim m (pow_nz' d0 3),(n.mul hp).mono (by omega),fun i=>(IB.zero _).eq (by show 0=(0:Rat) * _;grind)⟩
  |cons b l=>
   rw[List.length_cons] at o;have h1:=xh d0 hd ha l b H;have e0:d^ l.length* d^ (3- l.length)=d^ 3:=by rw[←nC,show l.length+(3- l.length)=3 by omega]
   have j:=h1.rescale (pow_nz' d0 (3- l.length)) (jE hd (3- l.length));rw[show K* d^ l.length* d^ (3- l.length)=K* d^ 3 by grind] at j;exact j.mono (by omega)
 have m0:∀p∈mvK a k,∃q∈k,p=(ca [a,1] q.1,ca [a,1] q.2):=fun p hp=>by
  obtain⟨q,c,e⟩:=List.mem_map.1 hp;grind
 refine⟨KA* d^ 3,KB* d^ 3,⟨fun p hp=>?_,fun p hp=>?_,fun p hp=>?_⟩,fun g=>(Rat.mul_eq_zero.1 g).elim A0 (pow_nz' d0 3),fun g=>(Rat.mul_eq_zero.1 g).elim B0 (pow_nz' d0 3),(IA.mul hp).mono (by omega),(IBB.mul hp).mono (by omega)⟩;obtain⟨q,c,rfl⟩:=m0 p hp;obtain⟨s,t⟩:=hk.len q c;have u:=jr a q.1;have r:=jr a q.2;exact⟨by grind,by grind⟩;obtain⟨q,c,rfl⟩:=m0 p hp;exact f _ _ A0 IA (hk.a q c) (hk.len q c).1;obtain⟨q,c,rfl⟩:=m0 p hp;exact f _ _ B0 IBB (hk.b q c) (hk.len q c).2


theorem xJ(n:Nat)(f:Nat→Rat):aW (n+1) f=aW n f++[f n]:=by simp[aW,List.range_succ]
theorem bH{k t:Nat}{x:Option ABlk}{l:Hp}(h:k≠t):ap ((k,x)::l) t=ap l t:=by
 rw[dq];unfold upd;grind
def fiL(A:Nat→Nat→Rat)(n i:Nat):List (List (List AV)):=(List.range i).map fun k=>pE (aW n (A k))
@[simp] theorem mS (A:Nat→Nat→Rat)(n i:Nat):(fiL A n i).length=i:=by simp[fiL]
theorem gw{A:Nat→Nat→Rat}{n i k:Nat}(h:k< i):(fiL A n i)[k]?=some (pE (aW n (A k))):=by simp[fiL,h]
theorem IT(A:Nat→Nat→Rat)(n i:Nat):fiL A n i++[pE (aW n (A i))]=fiL A n (i+1):=by simp[fiL,List.range_succ]
theorem ql{A:Nat→Nat→Rat}{n i k:Nat}{e:List (List AV)}(h:(fiL A n i)[k]?=some e):k< i∧e=pE (aW n (A k)):=by
 have h1:=(List.getElem?_eq_some_iff.1 h).1;rw[mS] at h1;rw[gw h1] at h;grind
def foE(w:Nat→Nat)(s:Nat→Nat)(n m:Nat):List (List AV):=mzO 3 w s m++List.replicate (n- m) [.emp]
theorem jn{w:Nat→Nat}{s:Nat→Nat}{n m:Nat}(h:m≤n):(foE w s n m).length=n:=by simp[foE];omega
theorem foE_0(w:Nat→Nat)(s:Nat→Nat)(n:Nat):foE w s n 0=List.replicate n [.emp]:=rfl
theorem Ab{w:Nat→Nat}{s:Nat→Nat}{n m k:Nat}(h:k< m):(foE w s n m)[k]?=some [.lsl (s (k+2)) 0 (w k) none 3]:=by
 unfold foE;rw[List.getElem?_append_left (by simp_all)];exact zr h
theorem DT{w:Nat→Nat}{s:Nat→Nat}{n m k:Nat}(h:m≤k)(hk:k< n):(foE w s n m)[k]?=some [.emp]:=by
 unfold foE;rw[List.getElem?_append_right (by simp_all),List.getElem?_replicate,if_pos (by simp only[pY];omega)]
theorem Fi{w:Nat→Nat}{s:Nat→Nat}{n m k:Nat}(hm:m≤n)(hk:n≤k):(foE w s n m)[k]?=none:=by
 rw[List.getElem?_eq_none];rw[jn hm];grind
theorem foE_n(w:Nat→Nat)(s:Nat→Nat)(n:Nat):foE w s n n=mzO 3 w s n:=by simp[foE]
theorem GA{w w':Nat→Nat}{s s':Nat→Nat}{n m:Nat}(h:∀k,k< m→w k=w' k∧s (k+2)=s' (k+2)):foE w s n m=foE w' s' n m:=by
 unfold foE mzO;simp_all
theorem Fh{w w':Nat→Nat}{s s':Nat→Nat}{n m i:Nat}(hm:m=i∨m=i+1)(hi:i< n)(h:∀k,k< i→w k=w' k∧s (k+2)=s' (k+2)):∀e:Nat,e=i→(foE w s n m).set e [.lsl (s' (i+2)) 0 (w' i) none 3]=foE w' s' n (i+1):=by
 rintro e rfl;refine List.ext_getElem? fun k=>?_;have a:m≤n:=by omega
 rw[List.getElem?_set,jn a];split
 ·rw[Ab (by omega)]
  try grind
 ·by_cases hk:k< e
  rw[Ab (by omega),Ab (by omega),(h k hk).1,(h k hk).2];by_cases hkn:k< n;rw[DT (by omega) hkn,DT (by omega) hkn];rw[Fi a (by omega),Fi (by omega) (by omega)]
theorem CE{r:Ren}{hp hp':Nat→Option ABlk}:∀{a b c d:List (List AV)},CvLL r hp hp' a b→CvLL r hp hp' c d→CvLL r hp hp' (a++c) (b++d)
 |[],_,_,_,h,h2=>by cases (h:_=[]);grind
 |x::xs,_,_,_,⟨y,ys,e,h1,h3⟩,h2=>by subst e;exact⟨y,_,rfl,h1,CE h3 h2⟩
theorem mC{hp hp':Nat→Option ABlk}{s w:Nat→Nat}{n m:Nat}(h:Shr ⟨40,s⟩ hp hp')(hm:m≤30)(hl:∀i,i< m→(hp' (i+2)).isSome=true):CvLL ⟨40,s⟩ hp hp' (foE w s n m) (foE w (fun i=>i) n m):=
 CE (sJ hm hl) (cv h fun e a c hc=>by
  rw[(List.mem_replicate.1 a).2,List.mem_singleton] at hc;rw[hc];exact dD)
def fiR(i new x:Nat):Nat:=cond (Nat.beq x (i+2)) new x
theorem jH{i new k:Nat}(h:k≠i):fiR i new (k+2)=k+2:=by
 unfold fiR;rw[show Nat.beq (k+2) (i+2)=false by cases hb:Nat.beq (k+2) (i+2) with|false=>rfl|true=>simp_all];rfl
theorem oK(i new:Nat):fiR i new (i+2)=new:=by unfold fiR;simp
theorem BQ(i new:Nat):fiR i new 1=1:=by
 unfold fiR;rfl
theorem BR(i new:Nat):fiR i new 0=0:=by
 unfold fiR;rfl
theorem rW{i new m:Nat}(hm:m≤40)(hn:40≤new)(x y:Nat)(hx:x< m)(hy:y< m)(h:fiR i new x=fiR i new y):x=y:=by
 unfold fiR at h;cases h1:Nat.beq x (i+2)<;> cases h2:Nat.beq y (i+2)<;> rw[h1,h2] at h <;> simp only[cond_true,cond_false] at h;exact h;omega;omega;simp_all
def wJ(n i j k:Nat):Nat:=cond (Nat.blt k i) n j
theorem GU{n i j k:Nat}(h:k< i):wJ n i j k=n:=by unfold wJ;rw[show Nat.blt k i=true from Nat.ble_eq_true_of_le h];rfl
theorem Er{n i j:Nat}:wJ n i j i=j:=by
 unfold wJ;rw[show Nat.blt i i=false by cases hb:Nat.blt i i with|false=>rfl|true=>simp_all];rfl
theorem fi_set{n i j new:Nat}(hi:i< n):∀e:Nat,e=i→(foE (wJ n i (j+1)) (fun x=>x) n (i+1)).set e [.lsl new 0 (j+1+1) none 3]=foE (wJ n i (j+1+1)) (fiR i new) n (i+1):=fun e b=>by
 have:=Fh (w:=wJ n i (j+1)) (w':=wJ n i (j+1+1)) (s:=fun x=>x) (s':=fiR i new) (n:=n) (m:=i+1) (i:=i) (.inr rfl) hi (fun k a=>⟨by rw[GU a,GU a],(jH (by omega)).symm⟩) e b;rw[oK,Er] at this;grind
theorem fi_set0{n i new:Nat}(hi:i< n):∀e:Nat,e=i→(foE (fun _=>n) (fun x=>x) n i).set e [.lsl new 0 (0+1) none 3]=foE (wJ n i (0+1)) (fiR i new) n (i+1):=fun e b=>by
 have:=Fh (w:=fun _=>n) (w':=wJ n i (0+1)) (s:=fun x=>x) (s':=fiR i new) (n:=n) (m:=i) (i:=i) (.inl rfl) hi (fun k a=>⟨by rw[GU a],(jH (by omega)).symm⟩) e b;rw[oK,Er] at this;grind
theorem foE_ge'{w:Nat→Nat}{s:Nat→Nat}{n m k:Nat}(h:m≤k)(hk:k< n):∀e,e=k→(foE w s n m)[e]?=some [.emp]:=fun e a=>by rw[a];exact DT h hk
theorem foE_lt'{w:Nat→Nat}{s:Nat→Nat}{n m k j:Nat}(h:k< m)(hj:w k=j):∀e,e=k→(foE w s n m)[e]?=some [.lsl (s (k+2)) 0 j none 3]:=fun e a=>by rw[a,←hj];exact Ab h
theorem rX{A:Nat→Nat→Rat}{n i:Nat}{x:List (List AV)}:(fiL A n i++[x])[i]?=some x:=by simp
theorem tD{A:Nat→Nat→Rat}{n i k:Nat}{x:List (List AV)}(h:k< i):(fiL A n i++[x])[k]?=some (pE (aW n (A k))):=by
 rw[List.getElem?_append_left (by simp_all)];exact gw h
theorem DU{A:Nat→Nat→Rat}{n i k:Nat}{x e:List (List AV)}(h:(fiL A n i++[x])[k]?=some e):(k< i∧e=pE (aW n (A k)))∨(k=i∧e=x):=by
 have h1:=(List.getElem?_eq_some_iff.1 h).1;rw[List.length_append,mS,List.length_singleton] at h1;by_cases hk:k< i;rw[tD hk] at h;cases h;exact .inl ⟨hk,rfl⟩;obtain rfl:k=i:=by omega
 simp_all
def rwL(R:Nat→List Rat)(n:Nat):List (List (List AV)):=(List.range n).map fun k=>pE (R k)
@[simp] theorem pV (R:Nat→List Rat)(n:Nat):(rwL R n).length=n:=by simp[rwL]
theorem ED{R:Nat→List Rat}{n k:Nat}(h:k< n):(rwL R n)[k]?=some (pE (R k)):=by simp[rwL,h]
theorem C5{R:Nat→List Rat}{n k:Nat}{e:List (List AV)}(h:(rwL R n)[k]?=some e):k< n∧e=pE (R k):=by
 have h1:=(List.getElem?_eq_some_iff.1 h).1;rw[pV] at h1;rw[ED h1] at h;grind
theorem fiL_rwL(A:Nat→Nat→Rat)(n i:Nat):fiL A n i=rwL (fun k=>aW n (A k)) i:=rfl
def rwO(R:Nat→List Rat)(s:Nat→Nat)(n:Nat):List (List AV):=mzO 3 (fun k=>(R k).length) s n
@[simp] theorem pU (R:Nat→List Rat)(s:Nat→Nat)(n:Nat):(rwO R s n).length=n:=pY _ _ _ _
theorem eB{R:Nat→List Rat}{s:Nat→Nat}{n k:Nat}(h:k< n):∀e,e=k→(rwO R s n)[e]?=some [.lsl (s (k+2)) 0 (R k).length none 3]:=fun e a=>by rw[a];exact zr h
theorem rwO_out{R:Nat→List Rat}{s:Nat→Nat}{n k:Nat}(h:n≤k):(rwO R s n)[k]?=none:=by simp_all
theorem gR{R R':Nat→List Rat}{s s':Nat→Nat}{n:Nat}(h:∀k,k< n→(R k).length=(R' k).length∧s (k+2)=s' (k+2)):rwO R s n=rwO R' s' n:=by
 refine List.ext_getElem? fun k=>?_;by_cases hk:k< n;rw[eB hk k rfl,eB hk k rfl,(h k hk).1,(h k hk).2];simp_all
def rwH(TS TQ:Nat)(R:Nat→List Rat)(n:Nat)(ex:Hp):Hp:=mzX 3 TS TQ (rwO R (fun x=>x) n) (rwL R n) ex
section
variable {fr fr':Fr}{hp ex:Hp}{nx N TS TQ n k:Nat}{R R':Nat→List Rat}
theorem dN(hid:∀p∈ex,35≤p.1∧p.1< 40)(hn:n≤30)(h:k< n):ap (rwH TS TQ R n ex) (k+2)=some ⟨TQ,3,pE (R k)⟩:=mzX_row hid (by omega) (ED h)
theorem kH(hid:∀p∈ex,35≤p.1∧p.1< 40)(hn:n≤30)(h:k< n):dW (ap (rwH TS TQ R n ex)) (k+2)=some ⟨TQ,3,pE (R k)⟩:=ew (dN hid hn h) (show(3:Nat)≠0 by decide)
theorem cD(hid:∀p∈ex,35≤p.1∧p.1< 40):ap (rwH TS TQ R n ex) 1=some ⟨TS,1,rwO R (fun x=>x) n⟩:=mzX_out hid
theorem SEntT.rw (s:Nat→Nat) (hn:n≤30) (s0:s 0=0) (hinj:∀i j,InX n i→InX n j→s i=s j→i=j) (h1:ap hp (s 1)=some ⟨TS,1,rwO R s n⟩) (hr:∀i,i< n→ap hp (s (i+2))=some ⟨TQ,3,pE (R i)⟩) (hid:∀p∈ex,35≤p.1∧p.1< 40)
    (hex:∀i B,(i,some B)∈ex→∃B0,ap hp (s i)=some B0∧B0.ty=B.ty∧B0.sz=B.sz∧B0.es.length=B.es.length)
    (hE:Shr ⟨40,s⟩ (ap hp) (ap (rwH TS TQ R n ex))→∀i B B0,(i,some B)∈ex→ap hp (s i)=some B0→CvLL ⟨40,s⟩ (ap hp) (ap (rwH TS TQ R n ex)) B0.es B.es)
    (hF:Shr ⟨40,s⟩ (ap hp) (ap (rwH TS TQ R n ex))→CvF ⟨40,s⟩ (ap hp) (ap (rwH TS TQ R n ex)) fr fr'):SEntT ⟨fr,hp,nx,N⟩ ⟨fr',rwH TS TQ R n ex,40,N⟩:=
 SEntT.mzx s (by simp_all) s0 (by rw[pV];grind) h1 (by simp) (fun i e h=>by
  obtain⟨b,rfl⟩:=C5 h;exact⟨hr i b,aV _⟩) hid hex (fun _=>sJ hn fun i a=>by
  show(ap (rwH TS TQ R n ex) (i+2)).isSome=true;rw[dN hid hn a];rfl) hE hF
end
def upR(R:Nat→List Rat)(k:Nat)(r:List Rat):Nat→List Rat:=fun i=>if i=k then r else R i
theorem eS(R:Nat→List Rat)(k:Nat)(r:List Rat):upR R k r k=r:=if_pos rfl
theorem lu(R:Nat→List Rat){k i:Nat}(r:List Rat)(h:i≠k):upR R k r i=R i:=if_neg h
theorem Hr{R:Nat→List Rat}{n k new m:Nat}{r:List Rat}(hk:k< n)(hm:m=r.length):∀e:Nat,e=k→(rwO R (fun x=>x) n).set e [.lsl new 0 m none 3]=rwO (upR R k r) (fiR k new) n:=fun e a=>by
 subst a hm;refine List.ext_getElem? fun i=>?_;rw[List.getElem?_set,pU];split
 ·rename_i h;subst h
  rw[eB hk e rfl,eS,oK]
 ·rename_i h
  by_cases hi:i< n;rw[eB hi i rfl,eB hi i rfl,lu _ _ (fun e=>h e.symm),jH (fun e=>h e.symm)];simp_all
def swx(a b x:Nat):Nat:=if x=a then b else if x=b then a else x
theorem swx_a(a b:Nat):swx a b a=b:=if_pos rfl
theorem swx_b(a b:Nat):swx a b b=a:=by unfold swx;grind
theorem pR{a b x:Nat}(h1:x≠a)(h2:x≠b):swx a b x=x:=by unfold swx;grind
theorem swx_inj{a b x y:Nat}(h:swx a b x=swx a b y):x=y:=by unfold swx at h;grind
theorem Hn{R:Nat→List Rat}{n k p:Nat}(hk:k< n)(hp:p< n):∀a b:Nat,a=p→b=k→((rwO R (fun x=>x) n).set a [.lsl (k+2) 0 (R k).length none 3]).set b [.lsl (p+2) 0 (R p).length none 3]=rwO (fun i=>R (swx k p i)) (swx (k+2) (p+2)) n:=fun a b ha hb=>by
 subst ha hb;refine List.ext_getElem? fun i=>?_;rw[List.getElem?_set,List.length_set,List.getElem?_set,pU];by_cases hi:i< n;rw[eB (R:=fun i=>R (swx b a i)) hi i rfl];by_cases h1:b=i;subst h1;rw[swx_a,swx_a]
 try grind
 rw[if_neg h1];by_cases h2:a=i;subst h2;rw[swx_b,swx_b]
 try grind
 rw[if_neg h2,eB hi i rfl,pR (fun e=>h1 e.symm) (fun e=>h2 e.symm),pR (by omega) (by omega)];have h1:b≠i:=by omega
 simp_all
def sQ(f:Nat→Rat):Nat→Rat
 |0=>0
 |n+1=>sQ f n+f n
abbrev Mx:=Nat→Nat→Rat
def swM(M:Mx)(k p:Nat):Mx:=fun i j=>if i=k then M p j else if i=p then M k j else M i j
def bdM(M:Mx)(n s:Nat):Prop:=∀i j,i< n→j≤n→qs (M i j)≤s
theorem bd_sw{M:Mx}{n k p s:Nat}(h:bdM M n s)(hk:k< n)(hp:p< n):bdM (swM M k p) n s:=fun i j b a=>by
 unfold swM;split;exact h p j hp a;split;exact h k j hk a;exact h i j b a
end Go.Abs
