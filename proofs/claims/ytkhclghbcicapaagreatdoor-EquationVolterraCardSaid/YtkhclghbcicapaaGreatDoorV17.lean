/- Part V17 of the proof. -/
import Derived.Test.YtkhclghbcicapaaGreatDoorV16
import Derived.Lib.ItoaNum
set_option linter.all false
namespace Go.Abs
set_option maxRecDepth 20000
abbrev Ke:=List (List Rat×List Rat)
def upF(a:Rat)(u o:List Rat)(p:List Rat×List Rat):List Rat:=fO o (aJ p.1 (ci (ax (aJ p.2 u)) [af (ax (aJ p.2 u)) a]))
def upL(a:Rat)(u:List Rat):Ke→List Rat→List Rat
 |[],o=>o
 |p::k,o=>upL a u k (upF a u o p)
def upK(k:Ke)(a:Rat)(u:List Rat):List Rat:=upL a u k []
theorem zi(a:Rat)(u:List Rat):∀(k:Ke) (o:List Rat) (p:List Rat×List Rat),upL a u (k++[p]) o=upF a u (upL a u k o) p
 |[],_,_=>rfl
 |q::k,o,p=>zi a u k (upF a u o q) p
structure OkUF (a:Rat)(u o:List Rat)(p:List Rat×List Rat):Prop where
 m1:fl p.2 u
 i1:(aJ p.2 u).length≤1099511627775
 i2:smL (ax (aJ p.2 u))
 e1:eW (ax (aJ p.2 u)) a
 l1:(ax (aJ p.2 u)).length≤1099511627776
 m2:fl p.1 (ci (ax (aJ p.2 u)) [af (ax (aJ p.2 u)) a])
 o1:smL o
 o2:o.length≤1099511627776
 l2:(aJ p.1 (ci (ax (aJ p.2 u)) [af (ax (aJ p.2 u)) a])).length≤1099511627776
def pV(k:Ke)(a:Rat)(u:List Rat):Prop:=∀i p,k[i]?=some p→OkUF a u (upL a u (k.take i) []) p
structure KHS (k:Ke)(KA KB:Rat)(h:Nat):Prop where
 len:∀p∈k,p.1.length≤4∧p.2.length≤4
 a:∀p∈k,HS p.1 KA h
 b:∀p∈k,HS p.2 KB h
theorem pow_nz'{d:Rat}(h:d≠0):∀n:Nat,d^ n≠0
 |0=>by grind
 |n+1=>by rw[Rat.pow_succ];intro g;rcases Rat.mul_eq_zero.1 g with g|g;exact pow_nz' h n g;grind
structure TeB (A B u:List Rat)(a S:Rat)(h:Nat):Prop where
 m:(aJ B u).length≤u.length+4
 il:(ax (aJ B u)).length≤u.length+5
 ib:bdL (ax (aJ B u)) h
 sb:bdL (ci (ax (aJ B u)) [af (ax (aJ B u)) a]) h
 sl:(ci (ax (aJ B u)) [af (ax (aJ B u)) a]).length≤u.length+5
 l:(aJ A (ci (ax (aJ B u)) [af (ax (aJ B u)) a])).length≤u.length+9
 H:HS (aJ A (ci (ax (aJ B u)) [af (ax (aJ B u)) a])) S h
theorem te_HS{A B u:List Rat}{a d KA KB K:Rat}{h h':Nat}(hA:A.length≤4)(hB:B.length≤4)(hu:u.length≤245)(HA:HS A KA h)(HB:HS B KB h)(H:HS u K h')(d0:d≠0)(hd:IB d 20)(ha:IB (a* d) 20)(h1:1≤h):TeB A B u a (KA* (KB* K* fc 250* d^ 255)) (h'+2* h+13000):=by
 have m1:=lb B u;have i1:=jf (aJ B u);have k:=HB.mul H hB;have g:=k.integral (L:=250) (by omega) (by decide);have j:=mH (ax (aJ B u)) [af (ax (aJ B u)) a];rw[List.length_singleton] at j;have m:=lb A (ci (ax (aJ B u)) [af (ax (aJ B u)) a]);have e:=g.bdL (by omega);generalize hf:ax (aJ B u)=f at *
 have l:f.length≤250:=by omega
 have hp:=jd hd 255;have c:=jd hd (255- f.length);have hv:=(ve hd ha f g.all).mul c;have e0:d^ f.length* d^ (255- f.length)=d^ 255:=by rw[←mL,show f.length+(255- f.length)=255 by omega]
 have g3:=(g.rescale (pow_nz' d0 255) hp).mono (show _≤h'+h+12800 by omega);have b:=g3.less (v:=af f a) ((hv.eq (by grind)).mono (by omega));rw[←uj] at b;have i:=HA.mul b hA;subst hf;exact⟨by omega,by omega,bdL_mono' e (by omega),bdL_mono' (b.bdL (by omega)) (by omega),by omega,by omega,i.mono (by omega)⟩
theorem FF{a d KA KB K:Rat}{u:List Rat}{h h':Nat}(hu:u.length≤240)(H:HS u K h')(d0:d≠0)(hd:IB d 20)(ha:IB (a* d) 20)(hq:qs a≤20)(h1:1≤h)(hlim:h'+2* h+14000≤400000000):∀(k:Ke) (o:List Rat) (n:Nat),KHS k KA KB h→n+k.length≤900→o.length≤u.length+9→HS o (KA* (KB* K* fc 250* d^ 255)) (h'+2* h+13000+n)→
    HS (upL a u k o) (KA* (KB* K* fc 250* d^ 255)) (h'+2* h+13000+(n+k.length))∧(upL a u k o).length≤u.length+9∧∀i p,k[i]?=some p→OkUF a u (upL a u (k.take i) o) p
 |[],o,n,_,_,ho,Ho=>⟨Ho,ho,fun i p hp=>by grind⟩
 |p::k,o,n,hk,hn,ho,Ho=>by
  rw[List.length_cons] at hn;obtain⟨l1,l2⟩:=hk.len p (List.mem_cons_self ..);have f:=hk.a p (List.mem_cons_self ..);have e:=hk.b p (List.mem_cons_self ..);have T:=te_HS l1 l2 (show u.length≤245 by omega) f e H d0 hd ha h1;have al:=ki o (aJ p.1 (ci (ax (aJ p.2 u)) [af (ax (aJ p.2 u)) a]));have t:=T.l;have r:HS (upF a u o p) (KA* (KB* K* fc 250* d^ 255)) (h'+2* h+13000+(n+1)):=(Ho.plus (T.H.mono (by omega))).mono (by omega);obtain⟨j,g,s⟩:=FF hu H d0 hd ha hq h1 hlim k (upF a u o p) (n+1) ⟨fun q hq=>hk.len q (List.mem_cons_of_mem _ hq),fun q hq=>hk.a q (List.mem_cons_of_mem _ hq),fun q hq=>hk.b q (List.mem_cons_of_mem _ hq)⟩ (by omega) (by unfold upF;omega) r;refine⟨by rw[List.length_cons,show n+(k.length+1)=n+1+k.length by omega];exact j,g,fun i q c=>?_⟩;cases i with
  |zero=>
   cases c;show OkUF a u o p;have x:=dw (f.bdL h1) h1;have b1:=dw (e.bdL h1) h1;have u1:=dw ((H.mono (show h'≤h'+1 by omega)).bdL (by omega)) (by omega);have i1:=dw T.ib (by omega);have s1:=dw T.sb (by omega);have o1:=Ho.bdL (by omega);have w:=T.m;have il:=T.il;have sl:=T.sl;have e1:p.2.length* (mxL p.2+mxL u+1)≤4* (h+h'+2):=Nat.mul_le_mul l2 (by omega);have e2:p.1.length* (mxL p.1+mxL (ci (ax (aJ p.2 u)) [af (ax (aJ p.2 u)) a])+1)≤4* (h'+3* h+13002):=Nat.mul_le_mul l1 (by omega);have v:(ax (aJ p.2 u)).length* (mxL (ax (aJ p.2 u))+qs a+1)≤250* (h'+2* h+13021):=Nat.mul_le_mul (by omega) (by omega);exact⟨⟨by omega,by omega,by omega,by omega⟩,by omega,eH T.ib (by omega),⟨by omega,by omega⟩,by omega,⟨by omega,by omega,by omega,by omega⟩,eH o1 (by omega),by omega,by omega⟩
  |succ i=>exact s i q (by grind)
theorem xz{k:Ke}{a d KA KB K:Rat}{u:List Rat}{h h':Nat}(hk:KHS k KA KB h)(hkl:k.length≤900)(hu:u.length≤240)(H:HS u K h')(d0:d≠0)(hd:IB d 20)(ha:IB (a* d) 20)(hq:qs a≤20)(h1:1≤h)(A0:KA≠0)(B0:KB≠0)(IA:IB KA h)(IBB:IB KB h)(hlim:h'+2* h+14000≤400000000):HS (upK k a u) (KA* (KB* K* fc 250* d^ 255)) (h'+2* h+13000+k.length)∧(upK k a u).length≤u.length+9∧pV k a u:=by
 have b:HS [] (KA* (KB* K* fc 250* d^ 255)) (h'+2* h+13000+0):=by
  refine⟨fun g=>?_,?_,fun i=>(IB.zero _).eq (by show 0=(0:Rat) * _;grind)⟩;rcases Rat.mul_eq_zero.1 g with g|g
  exact A0 g;rcases Rat.mul_eq_zero.1 g with g|g
  rcases Rat.mul_eq_zero.1 g with g|g
  rcases Rat.mul_eq_zero.1 g with g|g
  exact B0 g;exact H.ne g;have:=iw 250;grind;exact pow_nz' d0 255 g;have hf:=yI 250 (by omega);have hp:=jd hd 255;exact(IA.mul (((IBB.mul H.sc).mul hf).mul hp)).mono (by omega)
 have:=FF hu H d0 hd ha hq h1 hlim k [] 0 hk (by omega) (Nat.zero_le _) b;rw[Nat.zero_add] at this;exact this
theorem qU{u v:List Rat}{r i:Nat}(h:∀j,j< r→coP u j=coP v j)(hi:i≤r):∀(k:Ke) (o o':List Rat),coP o i=coP o' i→coP (upL 0 u k o) i=coP (upL 0 v k o') i
 |[],_,_,ho=>ho
 |p::k,o,o',ho=>qU h hi k _ _ (by unfold upF;rw[eP,eP,ho,AU h i hi])
theorem yX{k:Ke}{u v:List Rat}{r:Nat}(h:∀j,j< r→coP u j=coP v j)(i:Nat)(hi:i≤r):coP (upK k 0 u) i=coP (upK k 0 v) i:=qU h hi k [] [] rfl
def seK(k:Ke)(G:List Rat)(L:Rat)(n:Nat):Nat→List Rat
 |0=>[]
 |r+1=>CS (fO G (aL (upK k 0 (seK k G L n r)) L)) n
def teK(k:Ke)(G:List Rat)(L a:Rat):Nat→List Rat
 |0=>G
 |n+1=>aL (upK k a (teK k G L a n)) L
theorem tk(k:Ke)(G:List Rat)(L:Rat)(n:Nat):∀r,(seK k G L n r).length≤n+1
 |0=>by rw[seK];grind
 |r+1=>by exact AS _ _
section
variable {k:Ke}{G:List Rat}{L dL KA KB KG:Rat}{h:Nat}(hk:KHS k KA KB h)(hkl:k.length≤900)(h1:1≤h)(h2:h≤1000)(A0:KA≠0)(B0:KB≠0)(IA:IB KA h)(IBB:IB KB h)(HG:HS G KG 3000)(l0:dL≠0)(l1:IB dL 20)(l2:IB (L* dL) 20)
include hk hkl h1 h2 A0 B0 IA IBB HG l0 l1 l2
theorem BM{n:Nat}(hn:n≤40):∀r,r≤1000→(∃K,HS (seK k G L n r) K (20000* r+1))∧pV k 0 (seK k G L n r)
 |0,_=>⟨⟨1,HS.nil.mono (by omega)⟩,(xz (u:=[]) (d:=1) hk hkl (by decide) HS.nil (by decide) (IB.one.mono (by omega)) ((IB.zero 20).eq (by grind)) (by decide) h1 A0 B0 IA IBB (by omega)).2.2⟩
 |r+1,hr=>by
  obtain⟨⟨K,H⟩,_⟩:=BM hn r (by omega);have f:=tk k G L n r;have c:=(xz (a:=0) (d:=1) hk hkl (by omega) H (by decide) (IB.one.mono (by omega)) ((IB.zero 20).eq (by grind)) (by decide) h1 A0 B0 IA IBB (by omega)).1;have e:=c.k l0 l1 l2;have b:=((HG.plus2 e).cut n).mono (show _≤20000* (r+1)+1 by omega);exact⟨⟨_,b⟩,(xz (a:=0) (d:=1) hk hkl (by have:=AS (fO G (aL (upK k 0 (seK k G L n r)) L)) n;omega) b (by decide) (IB.one.mono (by omega)) ((IB.zero 20).eq (by grind)) (by decide) h1 A0 B0 IA IBB (by omega)).2.2⟩
end
def sH(v:Sp):Rat:=if 0≤v.1 then v.2 else if v.2≤0 then -v.1 else dH [-v.1,v.2]
theorem absH_le{v:Sp}{y:Rat}(h1:v.1≤y)(h2:y≤v.2):ab y≤sH v:=by
 have a:=GC (-v.1) v.2;unfold sH;rw[ab_le];split;constructor <;> grind;split;constructor <;> grind;constructor <;> grind
theorem absH_qs{v:Sp}{M:Nat}(h1:qs v.1≤M)(h2:qs v.2≤M)(hM:1≤M):qs (sH v)≤M:=by
 unfold sH;split;exact h2;split;rw[fj];exact h1
 exact yf (fun x a=>by
  rcases List.mem_cons.1 a with rfl|a
  rw[fj];exact h1;rw[List.mem_singleton.1 a];exact h2) hM
def stL(z g:Rat):Nat→Rat
 |0=>g
 |n+1=>stL z g n* z
def stR(w:Rat):Nat→Rat
 |0=>w
 |n+1=>stR w n* (((n+1:Nat):Int):Rat)
theorem FW(z g:Rat):∀n:Nat,stL z g n=g* z^ n
 |0=>by rw[stL,Rat.pow_zero];grind
 |n+1=>by rw[stL,FW z g n,Rat.pow_succ];grind
theorem FV(w:Rat):∀n,stR w n=w* fc n
 |0=>by rw[stR,fc];grind
 |n+1=>by rw[stR,FV w n,fc];grind
theorem BE{z g:Rat}{a b:Nat}(hz:qs z≤a)(hg:qs g≤b):∀n,qs (stL z g n)≤b+n* a
 |0=>by rw[stL];omega
 |n+1=>by
  have h1:=BE hz hg n;have c:=dh (stL z g n) z;rw[stL,Nat.succ_mul];omega
theorem BD{w:Rat}{b:Nat}(hw:qs w≤b):∀n,n≤60→qs (stR w n)≤b+n* 8
 |0,_=>by rw[stR];omega
 |n+1,hn=>by
  have h1:=BD hw n (by omega);have a:=dh (stR w n) (((n+1:Nat):Int):Rat)
  have c:qs (((n+1:Nat):Int):Rat)≤8:=by
   have e:=dV ((((n+1:Nat):Int)):Rat);unfold qs;show max (bl ((n+1:Nat):Int).natAbs) (bl 1)≤8;have:bl ((n+1:Nat):Int).natAbs≤8:=ej (by omega);have h1:bl 1≤8:=by decide
   omega
  rw[stR,Nat.succ_mul];omega
def stP(z g w:Rat)(n:Nat):Bool:=decide (z* 2≤(((n+2:Nat):Int):Rat)) && decide (stL z g (n+1)≤stR w (n+1))
def eS{α:Type}(f:α→Rat):List α→Rat
 |[]=>0
 |p::k=>f p+eS f k
theorem zj(a:Rat)(u:List Rat)(x:Rat):∀(k:Ke) (o:List Rat),af (upL a u k o) x=af o x+eS (fun p=>af p.1 x* (af (ax (aJ p.2 u)) x- af (ax (aJ p.2 u)) a)) k
 |[],o=>by rw[upL,eS];grind
 |p::k,o=>by
  rw[upL,zj a u x k,upF,uj,ey,ba,dF,kK,eS];grind
theorem FG(k:Ke)(a:Rat)(u:List Rat)(x:Rat):af (upK k a u) x=eS (fun p=>af p.1 x* (af (ax (aJ p.2 u)) x- af (ax (aJ p.2 u)) a)) k:=by
 unfold upK;rw[zj,aM];grind
theorem Dj{α:Type}{f g:α→Rat}{c:Rat}:∀k:List α,(∀p∈k,ab (f p)≤g p* c)→ab (eS f k)≤eS g k* c
 |[],_=>by rw[eS,eS,kN];grind
 |p::k,h=>by
  have b:=Dj k fun q a=>h q (List.mem_cons_of_mem _ a);have d:=gO (f p) (eS f k);rw[eS,eS];grind
theorem dv_int(B u:List Rat)(x:Rat):dvE (ax (aJ B u)) x=af B x* af u x:=by
 have:=iU (trim_iff.1 (tg (aJ B u))) x;rw[bR,ba] at this;grind
theorem Di{α:Type}{f:α→Rat}:∀k:List α,(∀p∈k,0≤f p)→0≤eS f k
 |[],_=>by rw[eS];grind
 |p::k,h=>by
  have b:=Di k fun q a=>h q (List.mem_cons_of_mem _ a);rw[eS];grind
theorem t5 {k:Ke} {G:List Rat} {L a s W γ:Rat} {al be:List Rat×List Rat→Rat} (hs:s=1∨s= -1) (W0:0≤W) (hα:∀p∈k,∀z,0≤s* (z- a)→s* (z- a)≤W→ab (af p.1 z)≤al p) (hβ:∀p∈k,∀z,0≤s* (z- a)→s* (z- a)≤W→ab (af p.2 z)≤be p)
    (hγ:∀z,0≤s* (z- a)→s* (z- a)≤W→ab (af G z)≤γ):∀n z,0≤s* (z- a)→s* (z- a)≤W→ab (af (teK k G L a n) z) * fc n≤γ* (eS (fun p=>al p* be p) k* ab L) ^ n* (s* (z- a)) ^ n
 |0,z,z0,z1=>by rw[Rat.pow_zero,Rat.pow_zero,fc];have:=hγ z z0 z1;show ab (af G z) * 1≤_;grind
 |n+1,z,z0,z1=>by
  have e:=t5 (L:=L) hs W0 hα hβ hγ n;have b:0≤s* (a- a)∧s* (a- a)≤W:=by constructor <;> grind
  have m:=iw n;obtain⟨φ,A,l⟩:=part 1 (d:=fc n) (by decide+kernel) m;have hN:(0:Rat)≤(((n+1:Nat):Int):Rat):=Rat.intCast_nonneg.2 (by omega);generalize r:eS (fun p=>al p* be p) k=Z at *
  have one:∀p∈k,ab (af p.1 z* (af (ax (aJ p.2 (teK k G L a n))) z- af (ax (aJ p.2 (teK k G L a n))) a) * (((n+1:Nat):Int):Rat))≤(al p* be p) * (γ* (Z* ab L) ^ n* φ* (s* (z- a)) ^ (n+1)):=fun p hp=>by
   have t:=Rat.le_trans (cW _) (hβ p hp a b.1 b.2);have u:=Rat.le_trans (cW _) (hα p hp a b.1 b.2)
   have v:=int_le (F:=ax (aJ p.2 (teK k G L a n))) (s:=s) (a:=a) (W:=W) (M:=be p* (γ* (Z* ab L) ^ n* φ)) hs n (fun y i j=>by
    rw[dv_int,cJ];have h1:=e y i j;have q:=Rat.mul_le_mul_of_nonneg_right h1 (show 0≤φ by grind)
    have o:ab (af (teK k G L a n) y)≤γ* (Z* ab L) ^ n* φ* (s* (y- a)) ^ n:=by
     generalize (s* (y- a)) ^ n=P at *
     generalize (Z* ab L) ^ n=C at *
     rw[show ab (af (teK k G L a n) y) * fc n* φ=ab (af (teK k G L a n) y) * (φ* fc n) by grind,l] at q;grind
    have:=dr (hβ p hp y i j) o (cW _) t;grind) z z0 z1
   have hA:=hα p hp z z0 z1;rw[cJ,cJ,show ab (((n+1:Nat):Int):Rat)=(((n+1:Nat):Int):Rat) from if_neg (by grind)];have x:=Rat.mul_le_mul_of_nonneg_left v u;have w:=Rat.mul_le_mul_of_nonneg_right hA (Rat.mul_nonneg (cW (af (ax (aJ p.2 (teK k G L a n))) z- af (ax (aJ p.2 (teK k G L a n))) a)) hN);generalize (((n+1:Nat):Int):Rat)=N at *
   generalize (s* (z- a)) ^ (n+1)=P at *
   generalize (Z* ab L) ^ n=C at *
   grind
  have sm:∀(f:List Rat×List Rat→Rat) (c:Rat) (k:Ke),eS (fun p=>f p* c) k=eS f k* c:=fun f c k=>by
   induction k with
   |nil=>rw[eS,eS];grind
   |cons p k e=>rw[eS,eS,e];grind
  have h:=Dj (f:=fun p=>af p.1 z* (af (ax (aJ p.2 (teK k G L a n))) z- af (ax (aJ p.2 (teK k G L a n))) a) * (((n+1:Nat):Int):Rat)) (g:=fun p=>al p* be p) k one;rw[sm,cJ,show ab (((n+1:Nat):Int):Rat)=(((n+1:Nat):Int):Rat) from if_neg (by grind),r] at h;rw[teK,aR,FG,cJ,fc,Rat.pow_succ];have g3:=Rat.mul_le_mul_of_nonneg_right h (Rat.mul_nonneg (cW L) (show 0≤fc n by grind));generalize eS (fun p=>af p.1 z* (af (ax (aJ p.2 (teK k G L a n))) z- af (ax (aJ p.2 (teK k G L a n))) a)) k=S at *
  generalize (((n+1:Nat):Int):Rat)=N at *
  generalize (s* (z- a)) ^ (n+1)=P at *
  generalize (Z* ab L) ^ n=C at *
  have e1:Z* (γ* C* φ* P) * (ab L* fc n)=γ* (C* (Z* ab L)) * P* (φ* fc n):=by grind
  rw[e1,l] at g3;grind
def suK(k:Ke)(G:List Rat)(L a x:Rat):Nat→Rat
 |0=>0
 |n+1=>suK k G L a x n+af (teK k G L a n) x
theorem wb {k:Ke} {G:List Rat} {L a x w γ lo hi:Rat} {al be:List Rat×List Rat→Rat} (hlo:lo≤hi) (hax:lo=a∧hi=x∨lo=x∧hi=a) (hα:∀p∈k,∀y,lo≤y→y≤hi→ab (af p.1 y)≤al p) (hβ:∀p∈k,∀y,lo≤y→y≤hi→ab (af p.2 y)≤be p) (hγ:∀y,lo≤y→y≤hi→ab (af G y)≤γ)
    {n:Nat} (hn:stP (eS (fun p=>al p* be p) k* ab L* (hi- lo)) (γ* 4) w n=true) (j:Nat):ab (suK k G L a x (n+1+j)- suK k G L a x (n+1)) * 2≤w:=by
 unfold stP at hn;rw[Bool.and_eq_true] at hn;obtain⟨e,d⟩:=hn;have e:=of_decide_eq_true e;have d:=of_decide_eq_true d;rw[FW,FV] at d
 obtain⟨s,hs,f,o,b⟩:∃s:Rat,(s=1∨s= -1)∧0≤s* (x- a)∧s* (x- a)=hi- lo∧∀z,0≤s* (z- a)→s* (z- a)≤s* (x- a)→lo≤z∧z≤hi:=by
  rcases hax with⟨rfl,rfl⟩|⟨rfl,rfl⟩
  exact⟨1,.inl rfl,by grind,by grind,fun z h1 c=>by grind⟩;exact⟨-1,.inr rfl,by grind,by grind,fun z h1 c=>by grind⟩
 have b1:=fun n=>t5 (L:=L) hs f (fun p hp z h1 c=>hα p hp z (b z h1 c).1 (b z h1 c).2) (fun p hp z h1 c=>hβ p hp z (b z h1 c).1 (b z h1 c).2) (fun z h1 c=>hγ z (b z h1 c).1 (b z h1 c).2) n x f Rat.le_refl;have g:=Rat.le_trans (cW _) (hγ lo Rat.le_refl hlo);have m:0≤eS (fun p=>al p* be p) k:=Di k fun p hp=>Rat.mul_nonneg (Rat.le_trans (cW _) (hα p hp lo Rat.le_refl hlo)) (Rat.le_trans (cW _) (hβ p hp lo Rat.le_refl hlo));have h:0≤eS (fun p=>al p* be p) k* ab L* (s* (x- a)):=Rat.mul_nonneg (Rat.mul_nonneg m (cW L)) f
 have l:∀n:Nat,(eS (fun p=>al p* be p) k* ab L) ^ n* (s* (x- a)) ^ n=(eS (fun p=>al p* be p) k* ab L* (s* (x- a))) ^ n:=fun n=>by
  induction n with
  |zero=>grind
  |succ n q=>grind
 rw[←o] at e d;generalize t:eS (fun p=>al p* be p) k* ab L* (s* (x- a))=z at *
 have c1:∀n,ab (af (teK k G L a n) x)≤γ* eZ z n:=fun n=>by
  have h1:=b1 n;rw[Rat.mul_assoc γ,l,←CL] at h1;exact iP (iw n) (by grind)
 have i:=eZ_half h (n:=n) (by grind)
 have step:∀j,ab (suK k G L a x (n+1+j)- suK k G L a x (n+1))≤γ* (2* eZ z (n+1)- 2* eZ z (n+1+j)):=fun j=>by
  induction j with
  |zero=>rw[Nat.add_zero,show suK k G L a x (n+1)- suK k G L a x (n+1)=0 by grind,kN];grind
  |succ j q=>
   have h1:suK k G L a x (n+1+(j+1))=suK k G L a x (n+1+j)+af (teK k G L a (n+1+j)) x:=rfl;have c:=gO (suK k G L a x (n+1+j)- suK k G L a x (n+1)) (af (teK k G L a (n+1+j)) x);have u:=c1 (n+1+j);have A:=Rat.mul_le_mul_of_nonneg_left (i j) g;grind
 have r:=step j;have v:=Rat.mul_nonneg g (HD h (n+1+j));have lim:ab (suK k G L a x (n+1+j)- suK k G L a x (n+1))≤2* γ* eZ z (n+1):=by grind
 rw[←CL] at d
 exact iP (iw (n+1)) (by
  have:=Rat.mul_le_mul_of_nonneg_right lim (show 0≤fc (n+1) by have:=iw (n+1);grind);grind)
def mvK(a:Rat)(k:Ke):Ke:=k.map fun p=>(b7 [a,1] p.1,b7 [a,1] p.2)
def jl(b:Nat):Nat→Nat→List Nat
 |0,_=>[]
 |n+1,m=>m % b::jl b n (m/ b)
@[simp] theorem kF (b:Nat):∀n m,(jl b n m).length=n
 |0,_=>rfl
 |n+1,m=>by simp[jl,kF b n]
theorem ts{b:Nat}(hb:0< b):∀n m,∀d∈jl b n m,d< b
 |0,_,d,h=>by cases h
 |n+1,m,d,h=>by
  rcases List.mem_cons.1 h with rfl|h
  exact Nat.mod_lt _ hb;exact ts hb n _ d h
theorem qf{b:Nat}(hb:0< b):∀{n m:Nat},m< b^ n→ofD b (jl b n m)=m
 |0,m,h=>by simp at h;subst h;rfl
 |n+1,m,h=>by
  rw[jl,ofD,qf hb (by rw[Nat.div_lt_iff_lt_mul hb];exact h)];exact Nat.mod_add_div m b
theorem zQ{b:Nat}:∀{l:List Nat},(∀d∈l,d< b)→jl b l.length (ofD b l)=l
 |[],_=>rfl
 |d::l,h=>by
  have a:=h d (List.mem_cons_self ..);have h1:ofD b (d::l) % b=d:=by rw[ofD,Nat.add_mul_mod_self_left];exact Nat.mod_eq_of_lt a
  have c:ofD b (d::l) / b=ofD b l:=by rw[ofD,Nat.add_mul_div_left _ _ (by omega),Nat.div_eq_of_lt a];omega
  rw[List.length_cons,jl,h1,c,zQ fun x e=>h x (List.mem_cons_of_mem _ e)]
theorem yK{b n m:Nat}{l:List Nat}(h:∀d∈l,d< b)(hl:l.length=n)(hv:ofD b l=m):l=jl b n m:=by
 subst hl hv;exact(zQ h).symm
theorem EA{v:Nat}(h1:1≤v)(h2:v< 1000000000):500000000≤v* (1000000000/ (v+1))∧(v+1) * (1000000000/ (v+1))≤1000000000∧1≤1000000000/ (v+1):=by
 have hq1:(v+1) * (1000000000/ (v+1))≤1000000000:=Nat.mul_div_le _ _;have b:1000000000< (v+1) * (1000000000/ (v+1))+(v+1):=Nat.lt_mul_div_succ _ (by omega);have a:1≤1000000000/ (v+1):=by grind
 refine⟨?_,hq1,a⟩;obtain⟨q,c⟩:∃q,q=1000000000/ (v+1):=⟨_,rfl⟩;rw[←c] at hq1 b a⊢;rw[Nat.add_mul] at hq1 b;by_cases c1:500000000≤v;have:=Nat.mul_le_mul_left v a;omega;by_cases c2:250000000≤v;have:2≤q:=by grind
 have:=Nat.mul_le_mul_left v this;omega;by_cases c3:166666666≤v
 have:4≤q:=by
  rw[c,Nat.le_div_iff_mul_le (by omega)];omega
 have:=Nat.mul_le_mul_left v this;omega;by_cases c4:v=1;subst c4;omega
 have:q≤333333333:=by
  have:1000000000/ (v+1)≤1000000000/ 3:=Nat.div_le_div_left (by omega) (by omega);omega
 omega
theorem GS{b n p w u v lo lw:Nat}(hb:0< b)(hp:p=lo+b^ n* u)(hlo:lo< b^ n)(hw:w=lw+b^ n* v)(hlw:lw< b^ n)(hv:b≤2* v)(hvb:v< b)(hq:p< w* b):
    p/ w≤min (u/ v) (b- 1)∧min (u/ v) (b- 1)≤p/ w+2:=by
 have d:0< v:=by omega
 have m:0< b^ n:=Nat.pow_pos hb;have c:0< w:=by grind
 have q1:w* (p/ w)≤p:=Nat.mul_div_le _ _;have q2:p< w* (p/ w)+w:=Nat.lt_mul_div_succ _ c;have q3:p/ w< b:=by rw[Nat.div_lt_iff_lt_mul c,Nat.mul_comm];grind
 obtain⟨q,f⟩:∃q,q=p/ w:=⟨_,rfl⟩;rw[←f] at q1 q2 q3⊢;have i:v* (u/ v)≤u:=Nat.mul_div_le _ _;obtain⟨g,a⟩:∃g,g=u/ v:=⟨_,rfl⟩;rw[←a] at i;constructor;refine Nat.le_min.2 ⟨?_,by omega⟩;rw[←a,a,Nat.le_div_iff_mul_le d]
 -- q v≤u,for q v b^n≤q w≤p< (u+1) b^n
 have h1:b^ n* (q* v)≤w* q:=by rw[hw,Nat.add_mul,Nat.mul_assoc,Nat.mul_comm v q];omega
 have h:b^ n* (q* v)< b^ n* (u+1):=by grind
 have:=Nat.lt_of_mul_lt_mul_left h;omega;rw[←a]
 -- if min g (b- 1)≥q+3 then(q+3) v≤u and so p≥b^n (q+3) v,but p< w (q+1)
 refine Nat.le_of_not_lt fun j=>?_;have e:q+3≤g:=by grind
 have l:q+3≤b- 1:=by grind
 have h1:v* (q+3)≤u:=Nat.le_trans (Nat.mul_le_mul_left _ e) i;have h:b^ n* (v* (q+3))≤p:=by rw[hp];have:=Nat.mul_le_mul_left (b^ n) h1;omega
 have o:w* (q+1)< b^ n* ((v+1) * (q+1))+1:=by
  have:w≤b^ n* (v+1):=by grind
  have:=Nat.mul_le_mul_right (q+1) this;grind
 have s:p< w* (q+1):=by grind
 have k:b^ n* (v* (q+3))< b^ n* ((v+1) * (q+1)):=by omega
 have r:=Nat.lt_of_mul_lt_mul_left k;grind
structure DivI (U v n L:Nat)(R T:List Nat)(k:Nat):Prop where
 len:R.length=L
 dig:∀d∈R,d< MB
 digT:∀d∈T,d< MB
 k_le:k+n+T.length=L
 val:U=ofD MB R+v* (MB^ k* ofD MB T)
 top:ofD MB (R.drop k)< v
theorem DivI.start{U v n L s b:Nat}{R:List Nat}(hR:R.length=L)(hd:∀d∈R,d< MB)(hU:ofD MB R=U)(hn:n≤L)(hb:MB^ (n- 1)≤b)(hn1:1≤n)(hv:v=b* s)(hlt:U< MB^ (L- 1) * s):DivI U v n L R [] (L- n):=by
 refine⟨hR,hd,by simp,by grind,by simp[ofD,hU],?_⟩;have h1:=eu MB (L- n) R (by omega);have c:MB^ (L- 1)=MB^ (L- n) * MB^ (n- 1):=by rw[←Nat.pow_add];grind
 rw[c,Nat.mul_assoc] at hlt;have a:MB^ (L- n) * ofD MB (R.drop (L- n))< MB^ (L- n) * (MB^ (n- 1) * s):=by omega
 have f:=Nat.lt_of_mul_lt_mul_left a;have e:MB^ (n- 1) * s≤b* s:=Nat.mul_le_mul_right _ hb;omega
theorem DivI.parts{U v n L k:Nat}{R T:List Nat}(h:DivI U v n L R T (k+1))(hv:v< MB^ n):
    ofD MB (R.drop (k+n+1))=0∧ofD MB ((R.drop k).take (n+1))=ofD MB (R.drop k)∧ofD MB (R.drop k)< v* MB∧((R.drop k).take (n+1)).length=n+1∧R=R.take k++(R.drop k).take (n+1)++R.drop (k+n+1):=by
 have j:=h.k_le;have c:=h.len;have g:k< R.length:=by omega
 obtain⟨x,e⟩:∃x,R[k]?=some x:=⟨_,List.getElem?_eq_getElem g⟩;have i:x< MB:=h.dig x (List.mem_of_getElem? e);have e1:=la MB e;have a:=h.top;have e2:=eu MB n (R.drop (k+1)) (by grind);rw[List.drop_drop,show k+1+n=k+n+1 by omega] at e2
 have d:ofD MB (R.drop (k+n+1))=0:=by
  rcases Nat.eq_zero_or_pos (ofD MB (R.drop (k+n+1))) with b|b
  exact b;have:MB^ n* 1≤MB^ n* ofD MB (R.drop (k+n+1)):=Nat.mul_le_mul_left _ b;omega
 have f:=eu MB (n+1) (R.drop k) (by grind);rw[List.drop_drop,show k+(n+1)=k+n+1 by omega,d] at f;refine⟨d,by omega,?_,by grind,?_⟩;have:MB* (ofD MB (R.drop (k+1))+1)≤MB* v:=Nat.mul_le_mul_left _ a;rw[Nat.mul_add] at this;rw[Nat.mul_comm v MB];omega;rw[List.append_assoc]
 conv=>lhs;rw[←List.take_append_drop k R]
 conv=>lhs;rw[←List.take_append_drop (n+1) (R.drop k)]
 rw[List.drop_drop,show k+(n+1)=k+n+1 by omega]
theorem DivI.next{U v n L k:Nat}{R T A:List Nat}(h:DivI U v n L R T (k+1))(hv:v< MB^ n)(hv0:0< v)(hA:A=jl MB (n+1) (ofD MB (R.drop k) % v)):
    DivI U v n L (R.take k++A++R.drop (k+n+1)) (ofD MB (R.drop k) / v::T) k:=by
 obtain⟨p1,p2,j,m,q⟩:=h.parts hv;have p:=h.k_le;have g:=h.len
 have l:ofD MB (R.drop k) % v< MB^ (n+1):=by
  have:=Nat.mod_lt (ofD MB (R.drop k)) hv0;have o:MB^ n≤MB^ (n+1):=Nat.pow_le_pow_right (by decide) (by omega);omega
 have f:A.length=n+1:=by rw[hA];simp
 have b:ofD MB A=ofD MB (R.drop k) % v:=by rw[hA];exact qf (by decide) l
 have i:(R.take k).length=k:=by simp;omega
 have c:ofD MB (R.take k++A++R.drop (k+n+1))=ofD MB (R.take k)+MB^ k* (ofD MB (R.drop k) % v):=by
  rw[gU,gU,p1,i,b];simp
 refine⟨by simp[f];omega,?_,?_,by simp;omega,?_,?_⟩;intro d a;rcases List.mem_append.1 a with a|a
 rcases List.mem_append.1 a with a|a
 exact h.dig d (List.mem_of_mem_take a);rw[hA] at a;exact ts (by decide) _ _ d a;exact h.dig d (List.mem_of_mem_drop a);intro d a;rcases List.mem_cons.1 a with rfl|a
 rw[Nat.div_lt_iff_lt_mul hv0,Nat.mul_comm];exact j;exact h.digT d a;rw[c,ofD,h.val,eu MB k R (by omega),Nat.pow_succ];have e:=Nat.mod_add_div (ofD MB (R.drop k)) v
 have e2:MB^ k* (ofD MB (R.drop k) % v)+v* (MB^ k* (ofD MB (R.drop k) / v))=MB^ k* ofD MB (R.drop k):=by
  rw[Nat.mul_left_comm,←Nat.mul_add,e]
 rw[Nat.mul_add,Nat.mul_add,←Nat.mul_assoc (MB^ k) MB];omega;rw[List.append_assoc,List.drop_append,i,Nat.sub_self,List.drop_zero,List.drop_of_length_le (by omega),List.nil_append,gU,p1,b];simp;exact Nat.mod_lt _ hv0
theorem DivI.last{U v n L a b s:Nat}{R T:List Nat}(h:DivI U v n L R T 0)(hU:U=a* s)(hv:v=b* s)(hb:0< b)(hs:0< s):ofD MB T=a/ b∧ofD MB R/ s=a % b:=by
 have h1:=h.val;have c:=h.top;rw[List.drop_zero,hv] at c;rw[Nat.pow_zero,Nat.one_mul,hU,hv] at h1
 have d:ofD MB T=a/ b:=by
  have e1:a/ b=a* s/ (b* s):=(Nat.mul_div_mul_right a b hs).symm;rw[e1,h1,Nat.add_mul_div_left _ _ (Nat.mul_pos hb hs),Nat.div_eq_of_lt c];omega
 have e2:ofD MB R=(a % b) * s:=by
  rw[d] at h1
  have e:a* s=(a % b) * s+b* s* (a/ b):=by
   conv=>lhs;rw[←Nat.mod_add_div a b]
   grind
  omega
 simp_all
theorem AO{n k:Nat}(hl:(av MB n).length=k+1){d:Nat}(hd:(av MB n)[k]?=some d):∃lo,n=lo+MB^ k* d∧lo< MB^ k:=by
 refine⟨ofD MB ((av MB n).take k),?_,?_⟩;have h1:=c9 MB hd;rw[←hl,List.take_length,bD (by decide)] at h1;exact h1;have:=gc (b:=MB) (l:=(av MB n).take k) fun d hd=>dZ (by decide) n d (List.mem_of_mem_take hd);grind
theorem CN{b s vt k:Nat}(hl:(av MB b).length=k+1)(hvt:(av MB b)[k]?=some vt)(h0:1≤vt)(h1:500000000≤vt* s)(h2:(vt+1) * s≤1000000000):
    (av MB (b* s)).length=k+1∧MB^ k≤b∧b* s< MB^ (k+1)∧∃v lw,(av MB (b* s))[k]?=some v∧b* s=lw+MB^ k* v∧lw< MB^ k∧500000000≤v∧v< 1000000000:=by
 obtain⟨lo,e1,e2⟩:=AO hl hvt
 have f:MB^ k≤b:=by
  have:=Nat.mul_le_mul_left (MB^ k) h0;omega
 have hb2:b< MB^ k* (vt+1):=by grind
 have d:0< s:=by grind
 have c:b* s< MB^ (k+1):=by
  have g:b* s< MB^ k* (vt+1) * s:=Nat.mul_lt_mul_of_pos_right hb2 d;have j:MB^ k* ((vt+1) * s)≤MB^ k* MB:=Nat.mul_le_mul_left _ h2;grind
 have m:MB^ k* 500000000≤b* s:=by
  have g:MB^ k* vt* s≤b* s:=Nat.mul_le_mul_right _ (by omega);have j:MB^ k* 500000000≤MB^ k* (vt* s):=Nat.mul_le_mul_left _ h1;grind
 have a:(av MB (b* s)).length=k+1:=by
  have u1:=gf (b:=MB) (by decide) c
  have u2:k< (av MB (b* s)).length:=by
   refine Nat.lt_of_not_le fun e=>?_;have:=gc (b:=MB) (dZ (by decide) (b* s));rw[bD (by decide)] at this;have n:MB^ (av MB (b* s)).length≤MB^ k:=Nat.pow_le_pow_right (by decide) e;omega
  omega
 obtain⟨v,hv⟩:∃v,(av MB (b* s))[k]?=some v:=⟨_,List.getElem?_eq_getElem (by omega)⟩;obtain⟨lw,l,h⟩:=AO a hv;refine⟨a,f,c,v,lw,hv,l,h,?_,cQ (by decide) hv⟩;have i:MB^ k* 500000000< MB^ k* (v+1):=by grind
 have:=Nat.lt_of_mul_lt_mul_left i;omega
theorem Gr{A:List Nat}{k x0 x1:Nat}(hA:A.length=k+2)(h0:A[k]?=some x0)(h1:A[k+1]?=some x1)(hd:∀d∈A,d< MB):∃lo,ofD MB A=lo+MB^ k* (x1* 1000000000+x0)∧lo< MB^ k:=by
 refine⟨ofD MB (A.take k),?_,?_⟩;have e1:=c9 MB h1;rw[show k+1+1=A.length by omega,List.take_length] at e1;rw[e1,c9 MB h0,Nat.pow_succ,Nat.mul_add,Nat.mul_assoc];have:MB^ k* (MB* x1)=MB^ k* (x1* 1000000000):=by grind
 omega;have:=gc (b:=MB) (l:=A.take k) fun d h=>hd d (List.mem_of_mem_take h);grind


theorem leastN{P:Nat→Prop}:∀N,P N→∃d,d≤N∧P d∧∀k,k< d→¬P k:=by
 intro N
 induction N using Nat.strongRecOn with
 |ind N a=>
  intro h;by_cases e:∃k,k< N∧P k;obtain⟨k,b,c⟩:=e;obtain⟨d,d1,d2,f⟩:=a k b c;exact⟨d,by omega,d2,f⟩;exact⟨N,Nat.le_refl _,h,fun k g hp=>e ⟨k,g,hp⟩⟩
section
variable {T:List Rat}{n:Nat}(hn:1≤n∧n≤5)(hl:T.length=n+1)(ht:aj T=T)(hm:aF T=1)(hb:bdL T 20)
include hn hl ht hm hb
end

def Ev(a:Rat)(p c:List Rat):Prop:=∀x,af p x=af c (x- a)
theorem Ev.step{a k:Rat}{o z co cz ct:List Rat}(ho:Ev a o co)(hz:Ev a z cz)(he:∀y,af ct y=af co y+af cz y* k):Ev a (fO o (aL z k)) ct:=fun x=>by
 rw[ey,aR,ho x,hz x,he]
theorem qk(a x:Rat):eN [a,x]≤dH [a,x]∧(eN [a,x]=a∧dH [a,x]=x∨eN [a,x]=x∧dH [a,x]=a):=by
 have e1:eN [a,x]=if dy x a< 0 then x else a:=by
  unfold eN dJ;simp only[List.foldl_cons,List.foldl_nil,decide_eq_true_eq]
 have e2:dH [a,x]=if 0< dy x a then x else a:=by
  unfold dH dJ;simp only[List.foldl_cons,List.foldl_nil,decide_eq_true_eq]
 rw[e1,e2];unfold dy;by_cases h1:x< a;rw[if_pos h1,if_pos (by decide),if_neg (by decide)];exact⟨Rat.le_of_lt h1,.inr ⟨rfl,rfl⟩⟩;rw[if_neg h1];by_cases h2:x=a;rw[if_pos h2,if_neg (by decide)];exact⟨Rat.le_refl,.inl ⟨rfl,h2.symm⟩⟩;rw[if_neg h2,if_neg (by decide),if_pos (by decide)];exact⟨by grind,.inl ⟨rfl,rfl⟩⟩
section
variable {u p q:List Rat}{a b:Rat}
variable (hu:u.length≤4)(hp:p.length≤3)(hq:q.length≤3)(bu:bdL u 20)(bp:bdL p 20)(bq:bdL q 20)(ha:qs a≤20)(hb:qs b≤20)
include hu hp hq bu bp bq ha hb
end



theorem HS.take{p:List Rat}{K:Rat}{h:Nat}(H:HS p K h)(n:Nat):HS (p.take n) K h:=⟨H.ne,H.sc,fun i=>by
 rw[AW];split;exact H.co i;exact(IB.zero h).eq (by grind)⟩
theorem Aw{f:List Rat×List Rat→List Rat}{m:Nat}:∀k:Ke,(∀p∈k,(f p).length≤m)→(k.flatMap f).length≤m* k.length
 |[],_=>by simp
 |p::k,h=>by
  have h1:=h p (List.mem_cons_self ..);have b:=Aw k fun q a=>h q (List.mem_cons_of_mem _ a);rw[List.flatMap_cons,List.length_append,List.length_cons,Nat.mul_succ];omega
theorem Em{f:List Rat×List Rat→List Rat}{k:Ke}(hl:k.length≤3)(h4:∀p∈k,(f p).length≤4)(hb:∀p∈k,bdL (f p) 20):∃K,K≠0∧IB K 241∧∀p∈k,HS (f p) K 241:=by
 obtain⟨K,H⟩:=oc (s:=20) (k.flatMap f) fun q a=>by
  obtain⟨p,hp,a⟩:=List.mem_flatMap.1 a;exact hb p hp q a
 have b:=Aw k h4;have H:=H.mono (show _≤241 by omega);refine⟨K,H.ne,H.sc,fun p hp=>⟨H.ne,H.sc,fun i=>?_⟩⟩;by_cases hi:i< (f p).length
 have c:coP (f p) i∈k.flatMap f:=List.mem_flatMap.2 ⟨p,hp,by
  unfold coP;grind⟩
 obtain⟨j,_,e⟩:=mh c;rw[←e];exact H.co j;rw[d8 (by omega)];exact(IB.zero _).eq (by grind)
theorem vP{k:Ke}(hl:k.length≤3)(h4:∀p∈k,p.1.length≤4∧p.2.length≤4)(hb:∀p∈k,bdL p.1 20∧bdL p.2 20):∃KA KB,KHS k KA KB 241∧KA≠0∧KB≠0∧IB KA 241∧IB KB 241:=by
 obtain⟨KA,c,a,d⟩:=Em (f:=fun p=>p.1) hl (fun p hp=>(h4 p hp).1) fun p hp=>(hb p hp).1;obtain⟨KB,b1,b2,b⟩:=Em (f:=fun p=>p.2) hl (fun p hp=>(h4 p hp).2) fun p hp=>(hb p hp).2;exact⟨KA,KB,⟨h4,d,b⟩,c,b1,a,b2⟩
theorem xo{k:Ke}{a d KA KB:Rat}{h:Nat}(hk:KHS k KA KB h)(A0:KA≠0)(B0:KB≠0)(IA:IB KA h)(IBB:IB KB h)(d0:d≠0)(hd:IB d 20)(ha:IB (a* d) 20):∃KA' KB',KHS (mvK a k) KA' KB' (h+70)∧KA'≠0∧KB'≠0∧IB KA' (h+70)∧IB KB' (h+70):=by
 have hp:=jd hd 3
 have f:∀(l:List Rat) (K:Rat),K≠0→IB K h→HS l K h→l.length≤4→HS (b7 [a,1] l) (K* d^ 3) (h+70):=fun l K m o H n=>by
  cases l with
  |nil=>exact⟨fun g=>(Rat.mul_eq_zero.1 g).elim m (pow_nz' d0 3),(o.mul hp).mono (by omega),fun i=>(IB.zero _).eq (by show 0=(0:Rat) * _;grind)⟩
  |cons b l=>
   rw[List.length_cons] at n;have h1:=vQ d0 hd ha l b H;have e0:d^ l.length* d^ (3- l.length)=d^ 3:=by rw[←mL,show l.length+(3- l.length)=3 by omega]
   have j:=h1.rescale (pow_nz' d0 (3- l.length)) (jd hd (3- l.length));rw[show K* d^ l.length* d^ (3- l.length)=K* d^ 3 by grind] at j;exact j.mono (by omega)
 have m0:∀p∈mvK a k,∃q∈k,p=(b7 [a,1] q.1,b7 [a,1] q.2):=fun p hp=>by
  obtain⟨q,c,e⟩:=List.mem_map.1 hp;grind
 refine⟨KA* d^ 3,KB* d^ 3,⟨fun p hp=>?_,fun p hp=>?_,fun p hp=>?_⟩,fun g=>(Rat.mul_eq_zero.1 g).elim A0 (pow_nz' d0 3),fun g=>(Rat.mul_eq_zero.1 g).elim B0 (pow_nz' d0 3),(IA.mul hp).mono (by omega),(IBB.mul hp).mono (by omega)⟩;obtain⟨q,c,rfl⟩:=m0 p hp;obtain⟨s,u⟩:=hk.len q c;have r:=iW a q.1;have t:=iW a q.2;exact⟨by grind,by grind⟩;obtain⟨q,c,rfl⟩:=m0 p hp;exact f _ _ A0 IA (hk.a q c) (hk.len q c).1;obtain⟨q,c,rfl⟩:=m0 p hp;exact f _ _ B0 IBB (hk.b q c) (hk.len q c).2


theorem wm(n:Nat)(f:Nat→Rat):aW (n+1) f=aW n f++[f n]:=by simp[aW,List.range_succ]
theorem bF{k t:Nat}{x:Option ABlk}{l:Hp}(h:k≠t):ap ((k,x)::l) t=ap l t:=by
 rw[dm];unfold upd;grind
def fiL(A:Nat→Nat→Rat)(n i:Nat):List (List (List AV)):=(List.range i).map fun k=>pE (aW n (A k))
@[simp] theorem ma (A:Nat→Nat→Rat)(n i:Nat):(fiL A n i).length=i:=by simp[fiL]
theorem fY{A:Nat→Nat→Rat}{n i k:Nat}(h:k< i):(fiL A n i)[k]?=some (pE (aW n (A k))):=by simp[fiL,h]
theorem Hw(A:Nat→Nat→Rat)(n i:Nat):fiL A n i++[pE (aW n (A i))]=fiL A n (i+1):=by simp[fiL,List.range_succ]
theorem pm{A:Nat→Nat→Rat}{n i k:Nat}{e:List (List AV)}(h:(fiL A n i)[k]?=some e):k< i∧e=pE (aW n (A k)):=by
 have h1:=(List.getElem?_eq_some_iff.1 h).1;rw[ma] at h1;rw[fY h1] at h;grind
def foE(w:Nat→Nat)(s:Nat→Nat)(n m:Nat):List (List AV):=mzO 3 w s m++List.replicate (n- m) [.emp]
theorem iS{w:Nat→Nat}{s:Nat→Nat}{n m:Nat}(h:m≤n):(foE w s n m).length=n:=by simp[foE];omega
theorem foE_0(w:Nat→Nat)(s:Nat→Nat)(n:Nat):foE w s n 0=List.replicate n [.emp]:=rfl
theorem yH{w:Nat→Nat}{s:Nat→Nat}{n m k:Nat}(h:k< m):(foE w s n m)[k]?=some [.lsl (s (k+2)) 0 (w k) none 3]:=by
 unfold foE;rw[List.getElem?_append_left (by simp_all)];exact ya h
theorem CF{w:Nat→Nat}{s:Nat→Nat}{n m k:Nat}(h:m≤k)(hk:k< n):(foE w s n m)[k]?=some [.emp]:=by
 unfold foE;rw[List.getElem?_append_right (by simp_all),List.getElem?_replicate,if_pos (by simp only[pa];omega)]
theorem D4{w:Nat→Nat}{s:Nat→Nat}{n m k:Nat}(hm:m≤n)(hk:n≤k):(foE w s n m)[k]?=none:=by
 rw[List.getElem?_eq_none];rw[iS hm];grind
theorem foE_n(w:Nat→Nat)(s:Nat→Nat)(n:Nat):foE w s n n=mzO 3 w s n:=by simp[foE]
theorem Fi{w w':Nat→Nat}{s s':Nat→Nat}{n m:Nat}(h:∀k,k< m→w k=w' k∧s (k+2)=s' (k+2)):foE w s n m=foE w' s' n m:=by
 unfold foE mzO;simp_all
theorem D3{w w':Nat→Nat}{s s':Nat→Nat}{n m i:Nat}(hm:m=i∨m=i+1)(hi:i< n)(h:∀k,k< i→w k=w' k∧s (k+2)=s' (k+2)):∀e:Nat,e=i→(foE w s n m).set e [.lsl (s' (i+2)) 0 (w' i) none 3]=foE w' s' n (i+1):=by
 rintro e rfl;refine List.ext_getElem? fun k=>?_;have a:m≤n:=by omega
 rw[List.getElem?_set,iS a];split
 ·rw[yH (by omega)]
  try grind
 ·by_cases hk:k< e
  rw[yH (by omega),yH (by omega),(h k hk).1,(h k hk).2];by_cases hkn:k< n;rw[CF (by omega) hkn,CF (by omega) hkn];rw[D4 a (by omega),D4 (by omega) (by omega)]
theorem Bp{r:Ren}{hp hp':Nat→Option ABlk}:∀{a b c d:List (List AV)},CvLL r hp hp' a b→CvLL r hp hp' c d→CvLL r hp hp' (a++c) (b++d)
 |[],_,_,_,h,h2=>by cases (h:_=[]);grind
 |x::xs,_,_,_,⟨y,ys,e,h1,h3⟩,h2=>by subst e;exact⟨y,_,rfl,h1,Bp h3 h2⟩
theorem lO{hp hp':Nat→Option ABlk}{s w:Nat→Nat}{n m:Nat}(h:Shr ⟨40,s⟩ hp hp')(hm:m≤30)(hl:∀i,i< m→(hp' (i+2)).isSome=true):CvLL ⟨40,s⟩ hp hp' (foE w s n m) (foE w (fun i=>i) n m):=
 Bp (rl hm hl) (cm h fun e a c hc=>by
  rw[(List.mem_replicate.1 a).2,List.mem_singleton] at hc;rw[hc];exact dA)
def fiR(i new x:Nat):Nat:=cond (Nat.beq x (i+2)) new x
theorem jg{i new k:Nat}(h:k≠i):fiR i new (k+2)=k+2:=by
 unfold fiR;rw[show Nat.beq (k+2) (i+2)=false by cases hb:Nat.beq (k+2) (i+2) with|false=>rfl|true=>simp_all];rfl
theorem nW(i new:Nat):fiR i new (i+2)=new:=by unfold fiR;simp
theorem AB(i new:Nat):fiR i new 1=1:=by
 unfold fiR;rfl
theorem AC(i new:Nat):fiR i new 0=0:=by
 unfold fiR;rfl
theorem qK{i new m:Nat}(hm:m≤40)(hn:40≤new)(x y:Nat)(hx:x< m)(hy:y< m)(h:fiR i new x=fiR i new y):x=y:=by
 unfold fiR at h;cases h1:Nat.beq x (i+2)<;> cases h2:Nat.beq y (i+2)<;> rw[h1,h2] at h <;> simp only[cond_true,cond_false] at h;exact h;omega;omega;simp_all
def wJ(n i j k:Nat):Nat:=cond (Nat.blt k i) n j
theorem FA{n i j k:Nat}(h:k< i):wJ n i j k=n:=by unfold wJ;rw[show Nat.blt k i=true from Nat.ble_eq_true_of_le h];rfl
theorem Dd{n i j:Nat}:wJ n i j i=j:=by
 unfold wJ;rw[show Nat.blt i i=false by cases hb:Nat.blt i i with|false=>rfl|true=>simp_all];rfl
theorem fi_set{n i j new:Nat}(hi:i< n):∀e:Nat,e=i→(foE (wJ n i (j+1)) (fun x=>x) n (i+1)).set e [.lsl new 0 (j+1+1) none 3]=foE (wJ n i (j+1+1)) (fiR i new) n (i+1):=fun e b=>by
 have:=D3 (w:=wJ n i (j+1)) (w':=wJ n i (j+1+1)) (s:=fun x=>x) (s':=fiR i new) (n:=n) (m:=i+1) (i:=i) (.inr rfl) hi (fun k a=>⟨by rw[FA a,FA a],(jg (by omega)).symm⟩) e b;rw[nW,Dd] at this;grind
theorem fi_set0{n i new:Nat}(hi:i< n):∀e:Nat,e=i→(foE (fun _=>n) (fun x=>x) n i).set e [.lsl new 0 (0+1) none 3]=foE (wJ n i (0+1)) (fiR i new) n (i+1):=fun e a=>by
 have:=D3 (w:=fun _=>n) (w':=wJ n i (0+1)) (s:=fun x=>x) (s':=fiR i new) (n:=n) (m:=i) (i:=i) (.inl rfl) hi (fun k b=>⟨by rw[FA b],(jg (by omega)).symm⟩) e a;rw[nW,Dd] at this;grind
theorem foE_ge'{w:Nat→Nat}{s:Nat→Nat}{n m k:Nat}(h:m≤k)(hk:k< n):∀e,e=k→(foE w s n m)[e]?=some [.emp]:=fun e a=>by rw[a];exact CF h hk
theorem foE_lt'{w:Nat→Nat}{s:Nat→Nat}{n m k j:Nat}(h:k< m)(hj:w k=j):∀e,e=k→(foE w s n m)[e]?=some [.lsl (s (k+2)) 0 j none 3]:=fun e a=>by rw[a,←hj];exact yH h
theorem qM{A:Nat→Nat→Rat}{n i:Nat}{x:List (List AV)}:(fiL A n i++[x])[i]?=some x:=by simp
theorem r8{A:Nat→Nat→Rat}{n i k:Nat}{x:List (List AV)}(h:k< i):(fiL A n i++[x])[k]?=some (pE (aW n (A k))):=by
 rw[List.getElem?_append_left (by simp_all)];exact fY h
theorem CH{A:Nat→Nat→Rat}{n i k:Nat}{x e:List (List AV)}(h:(fiL A n i++[x])[k]?=some e):(k< i∧e=pE (aW n (A k)))∨(k=i∧e=x):=by
 have h1:=(List.getElem?_eq_some_iff.1 h).1;rw[List.length_append,ma,List.length_singleton] at h1;by_cases hk:k< i;rw[r8 hk] at h;cases h;exact .inl ⟨hk,rfl⟩;obtain rfl:k=i:=by omega
 simp_all
def rwL(R:Nat→List Rat)(n:Nat):List (List (List AV)):=(List.range n).map fun k=>pE (R k)
@[simp] theorem oZ (R:Nat→List Rat)(n:Nat):(rwL R n).length=n:=by simp[rwL]
theorem Do{R:Nat→List Rat}{n k:Nat}(h:k< n):(rwL R n)[k]?=some (pE (R k)):=by simp[rwL,h]
theorem BO{R:Nat→List Rat}{n k:Nat}{e:List (List AV)}(h:(rwL R n)[k]?=some e):k< n∧e=pE (R k):=by
 have h1:=(List.getElem?_eq_some_iff.1 h).1;rw[oZ] at h1;rw[Do h1] at h;grind
theorem fiL_rwL(A:Nat→Nat→Rat)(n i:Nat):fiL A n i=rwL (fun k=>aW n (A k)) i:=rfl
def rwO(R:Nat→List Rat)(s:Nat→Nat)(n:Nat):List (List AV):=mzO 3 (fun k=>(R k).length) s n
@[simp] theorem oY (R:Nat→List Rat)(s:Nat→Nat)(n:Nat):(rwO R s n).length=n:=pa _ _ _ _
theorem em{R:Nat→List Rat}{s:Nat→Nat}{n k:Nat}(h:k< n):∀e,e=k→(rwO R s n)[e]?=some [.lsl (s (k+2)) 0 (R k).length none 3]:=fun e a=>by rw[a];exact ya h
theorem rwO_out{R:Nat→List Rat}{s:Nat→Nat}{n k:Nat}(h:n≤k):(rwO R s n)[k]?=none:=by simp_all
theorem gw{R R':Nat→List Rat}{s s':Nat→Nat}{n:Nat}(h:∀k,k< n→(R k).length=(R' k).length∧s (k+2)=s' (k+2)):rwO R s n=rwO R' s' n:=by
 refine List.ext_getElem? fun k=>?_;by_cases hk:k< n;rw[em hk k rfl,em hk k rfl,(h k hk).1,(h k hk).2];simp_all
def rwH(TS TQ:Nat)(R:Nat→List Rat)(n:Nat)(ex:Hp):Hp:=mzX 3 TS TQ (rwO R (fun x=>x) n) (rwL R n) ex
section
variable {fr fr':Fr}{hp ex:Hp}{nx N TS TQ n k:Nat}{R R':Nat→List Rat}
theorem dI(hid:∀p∈ex,35≤p.1∧p.1< 40)(hn:n≤30)(h:k< n):ap (rwH TS TQ R n ex) (k+2)=some ⟨TQ,3,pE (R k)⟩:=mzX_row hid (by omega) (Do h)
theorem jZ(hid:∀p∈ex,35≤p.1∧p.1< 40)(hn:n≤30)(h:k< n):dS (ap (rwH TS TQ R n ex)) (k+2)=some ⟨TQ,3,pE (R k)⟩:=ei (dI hid hn h) (show(3:Nat)≠0 by decide)
theorem cx(hid:∀p∈ex,35≤p.1∧p.1< 40):ap (rwH TS TQ R n ex) 1=some ⟨TS,1,rwO R (fun x=>x) n⟩:=mzX_out hid
theorem SEntT.rw (s:Nat→Nat) (hn:n≤30) (s0:s 0=0) (hinj:∀i j,InX n i→InX n j→s i=s j→i=j) (h1:ap hp (s 1)=some ⟨TS,1,rwO R s n⟩) (hr:∀i,i< n→ap hp (s (i+2))=some ⟨TQ,3,pE (R i)⟩) (hid:∀p∈ex,35≤p.1∧p.1< 40)
    (hex:∀i B,(i,some B)∈ex→∃B0,ap hp (s i)=some B0∧B0.ty=B.ty∧B0.sz=B.sz∧B0.es.length=B.es.length)
    (hE:Shr ⟨40,s⟩ (ap hp) (ap (rwH TS TQ R n ex))→∀i B B0,(i,some B)∈ex→ap hp (s i)=some B0→CvLL ⟨40,s⟩ (ap hp) (ap (rwH TS TQ R n ex)) B0.es B.es)
    (hF:Shr ⟨40,s⟩ (ap hp) (ap (rwH TS TQ R n ex))→CvF ⟨40,s⟩ (ap hp) (ap (rwH TS TQ R n ex)) fr fr'):SEntT ⟨fr,hp,nx,N⟩ ⟨fr',rwH TS TQ R n ex,40,N⟩:=
 SEntT.mzx s (by simp_all) s0 (by rw[oZ];grind) h1 (by simp) (fun i e h=>by
  obtain⟨b,rfl⟩:=BO h;exact⟨hr i b,aV _⟩) hid hex (fun _=>rl hn fun i a=>by
  show(ap (rwH TS TQ R n ex) (i+2)).isSome=true;rw[dI hid hn a];rfl) hE hF
end
def upR(R:Nat→List Rat)(k:Nat)(r:List Rat):Nat→List Rat:=fun i=>if i=k then r else R i
theorem eK(R:Nat→List Rat)(k:Nat)(r:List Rat):upR R k r k=r:=if_pos rfl
theorem kP(R:Nat→List Rat){k i:Nat}(r:List Rat)(h:i≠k):upR R k r i=R i:=if_neg h
theorem F5{R:Nat→List Rat}{n k new m:Nat}{r:List Rat}(hk:k< n)(hm:m=r.length):∀e:Nat,e=k→(rwO R (fun x=>x) n).set e [.lsl new 0 m none 3]=rwO (upR R k r) (fiR k new) n:=fun e a=>by
 subst a hm;refine List.ext_getElem? fun i=>?_;rw[List.getElem?_set,oY];split
 ·rename_i h;subst h
  rw[em hk e rfl,eK,nW]
 ·rename_i h
  by_cases hi:i< n;rw[em hi i rfl,em hi i rfl,kP _ _ (fun e=>h e.symm),jg (fun e=>h e.symm)];simp_all
def swx(a b x:Nat):Nat:=if x=a then b else if x=b then a else x
theorem swx_a(a b:Nat):swx a b a=b:=if_pos rfl
theorem swx_b(a b:Nat):swx a b b=a:=by unfold swx;grind
theorem oV{a b x:Nat}(h1:x≠a)(h2:x≠b):swx a b x=x:=by unfold swx;grind
theorem swx_inj{a b x y:Nat}(h:swx a b x=swx a b y):x=y:=by unfold swx at h;grind
theorem F4{R:Nat→List Rat}{n k p:Nat}(hk:k< n)(hp:p< n):∀a b:Nat,a=p→b=k→((rwO R (fun x=>x) n).set a [.lsl (k+2) 0 (R k).length none 3]).set b [.lsl (p+2) 0 (R p).length none 3]=rwO (fun i=>R (swx k p i)) (swx (k+2) (p+2)) n:=fun a b ha hb=>by
 subst ha hb;refine List.ext_getElem? fun i=>?_;rw[List.getElem?_set,List.length_set,List.getElem?_set,oY];by_cases hi:i< n;rw[em (R:=fun i=>R (swx b a i)) hi i rfl];by_cases h1:b=i;subst h1;rw[swx_a,swx_a]
 try grind
 rw[if_neg h1];by_cases h2:a=i;subst h2;rw[swx_b,swx_b]
 try grind
 rw[if_neg h2,em hi i rfl,oV (fun e=>h1 e.symm) (fun e=>h2 e.symm),oV (by omega) (by omega)];have h1:b≠i:=by omega
 simp_all
def sQ(f:Nat→Rat):Nat→Rat
 |0=>0
 |n+1=>sQ f n+f n
abbrev Mx:=Nat→Nat→Rat
def swM(M:Mx)(k p:Nat):Mx:=fun i j=>if i=k then M p j else if i=p then M k j else M i j
def bdM(M:Mx)(n s:Nat):Prop:=∀i j,i< n→j≤n→qs (M i j)≤s
theorem bd_sw{M:Mx}{n k p s:Nat}(h:bdM M n s)(hk:k< n)(hp:p< n):bdM (swM M k p) n s:=fun i j b a=>by
 unfold swM;split;exact h p j hp a;split;exact h k j hk a;exact h i j b a
end Go.Abs
