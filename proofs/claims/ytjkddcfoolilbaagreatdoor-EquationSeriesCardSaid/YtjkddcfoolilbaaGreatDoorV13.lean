/- Part V13 of the proof. -/
import Derived.Test.YtjkddcfoolilbaaGreatDoorV12
set_option linter.all false
namespace Go.Abs
def trimQ:List Rat→List Rat
 |[]=>[]
 |a::l=>match trimQ l with
  |[]=>if a=0 then [] else [a]
  |b::m=>a::b::m
theorem cl_(a:Rat)(l:List Rat):trimQ (a::l)=if trimQ l=[] then(if a=0 then [] else [a]) else a::trimQ l:=by
 rw[trimQ];grind
theorem fk_(l:List Rat)(a:Rat):trimQ (l++[a])=if a=0 then trimQ l else l++[a]:=by
 induction l with
 |nil=>simp[trimQ]
 |cons b l ih=>
  rw[List.cons_append,cl_,ih,cl_];by_cases h:a=0;simp only[if_pos h];simp_all
theorem a8_(l:List Rat):(trimQ l).length≤l.length:=by
 induction l with
 |nil=>simp[trimQ]
 |cons a l ih=>rw[cl_];grind
theorem im_(l:List Rat):trimQ l=l.take (trimQ l).length:=by
 induction l with
 |nil=>simp[trimQ]
 |cons a l ih=>
  rw[cl_];grind
theorem bp_{l:List Rat}{q:Rat}(h:q∈trimQ l):q∈l:=by
 rw[im_] at h;grind
theorem jA_{l:List Rat}{q:Rat}(h:(trimQ l).getLast?=some q):q≠0:=by
 induction l with
 |nil=>simp[trimQ] at h
 |cons a l ih=>
  rw[cl_] at h;grind
theorem ck_(l:List Rat):trimQ (trimQ l)=trimQ l:=by
 rcases List.eq_nil_or_concat (trimQ l) with h|⟨m,q,h⟩
 rw[h];rfl;have hq:q≠0:=jA_ (l:=l) (by grind);rw[h,List.concat_eq_append,fk_,if_neg hq]
theorem kg_{l:List Rat}(h:smL l):smL (trimQ l):=fun q hq=>h q (bp_ hq)
def degP(l:List Rat):Int:=(trimQ l).length- 1
def leadP(l:List Rat):Rat:=(trimQ l).getLastD 0
theorem fu_{l:List Rat}(h:trimQ l≠[]):leadP l≠0:=by
 refine jA_ (l:=l) (q:=(trimQ l).getLastD 0) ?_;rw[List.getLastD_eq_getLast?];cases hl:(trimQ l).getLast? with
 |none=>simp_all
 |some q=>rfl
theorem iL_{l:List Rat}(h:trimQ l=[]):leadP l=0:=by unfold leadP;grind
theorem cG_{l:List Rat}{n:Nat}(h:(trimQ l).length=n+1):(trimQ l)[n]?=some (leadP l):=by
 unfold leadP;grind
theorem leadP_sm{l:List Rat}(h:smL l):sm (leadP l):=by
 by_cases h0:trimQ l=[];rw[iL_ h0];decide;obtain⟨n,hn⟩:∃n,(trimQ l).length=n+1:=⟨(trimQ l).length- 1,by have:=List.length_pos_iff.2 h0;omega⟩;exact h _ (bp_ (List.mem_of_getElem? (cG_ hn)))
def tabP(n:Nat)(f:Nat→Rat):List Rat:=(List.range n).map f
@[simp] theorem fT_ (n:Nat)(f:Nat→Rat):(tabP n f).length=n:=by simp[tabP]
def coP(p:List Rat)(i:Nat):Rat:=p.getD i 0
def addP(p q:List Rat):List Rat:=trimQ (tabP (max p.length q.length) fun i=>coP p i+coP q i)
def aN_(p:List Rat)(k:Rat):List Rat:=trimQ (tabP p.length fun i=>coP p i* k)
def subP(p q:List Rat):List Rat:=addP p (aN_ q (-1))
def bo_(a:Rat):List Rat:=trimQ [a]
def bz_(p:List Rat):List Rat:=trimQ (tabP (p.length- 1) fun i=>coP p (i+1) * ((i+1:Nat):Int))
def am_(p:List Rat):List Rat:=trimQ (tabP (p.length+1) fun i=>if i=0 then 0 else coP p (i- 1) / ((i:Nat):Int))
def e3_(p:List Rat):List Rat:=if trimQ p=[] then [] else aN_ p (1/ leadP p)
theorem ka_{p:List Rat}(h:smL p)(i:Nat):sm (coP p i):=by
 unfold coP;rw[List.getD_eq_getElem?_getD];cases hi:p[i]? with
 |none=>exact(by decide:sm 0)
 |some q=>exact h q (List.mem_of_getElem? hi)
theorem bw_{p:List Rat}{i:Nat}(h:i< p.length):p[i]?=some (coP p i):=by
 unfold coP;grind
theorem dh_{p:List Rat}{i:Nat}(h:p.length≤i):coP p i=0:=by
 unfold coP;grind
theorem jm_:∀c∈zC,Closed c:=aa_ bs_ (aa_ (ad_ _) (aa_ bs_ ac_))
def bdL(l:List Rat)(n:Nat):Prop:=∀q∈l,qs q≤n
instance (l:List Rat) (n:Nat):Decidable (bdL l n):=inferInstanceAs (Decidable (∀q∈l,qs q≤n))
theorem fS_{l:List Rat}{n:Nat}(h:bdL l n)(hn:n≤137438953472):smL l:=fun q hq=>Nat.le_trans (h q hq) hn
theorem de_{l:List Rat}{n:Nat}(h:bdL l n)(hn:1≤n)(i:Nat):qs (coP l i)≤n:=by
 unfold coP;rw[List.getD_eq_getElem?_getD];cases hi:l[i]? with
 |none=>exact Nat.le_trans (by decide:qs 0≤1) hn
 |some q=>exact h q (List.mem_of_getElem? hi)
def addAt(o:List Rat)(j:Nat)(x:Rat):List Rat:=o.set j (coP o j+x)
def rowP(o:List Rat)(a:Rat)(q:List Rat)(i:Nat):Nat→List Rat
 |0=>o
 |k+1=>addAt (rowP o a q i k) (i+k) (a* coP q k)
def mulR(p q:List Rat):Nat→List Rat
 |0=>List.replicate (p.length+q.length- 1) 0
 |i+1=>if coP p i=0 then mulR p q i else rowP (mulR p q i) (coP p i) q i q.length
def mulP(p q:List Rat):List Rat:=if p=[]∨q=[] then [] else trimQ (mulR p q p.length)
@[simp] theorem mI_ (o:List Rat)(j:Nat)(x:Rat):(addAt o j x).length=o.length:=by simp[addAt]
@[simp] theorem mY_ (o:List Rat)(a:Rat)(q:List Rat)(i k:Nat):(rowP o a q i k).length=o.length:=by
 induction k with
 |zero=>rfl
 |succ k ih=>rw[rowP,mI_,ih]
@[simp] theorem f3_ (p q:List Rat)(i:Nat):(mulR p q i).length=p.length+q.length- 1:=by
 induction i with
 |zero=>simp[mulR]
 |succ i ih=>rw[mulR];split <;> simp[ih]
theorem jl_(o:List Rat)(j n:Nat)(x:Rat):coP (addAt o j x) n=if n=j∧j< o.length then coP o j+x else coP o n:=by
 unfold addAt coP;rw[List.getD_eq_getElem?_getD,List.getElem?_set,List.getD_eq_getElem?_getD,List.getD_eq_getElem?_getD];by_cases h:j=n;subst h;by_cases h2:j< o.length;simp[h2];simp[h2];rw[if_neg h,if_neg (by omega)]
theorem fQ_{o:List Rat}{n:Nat}(h:∀i,qs (coP o i)≤n):bdL o n:=by
 intro q hq;obtain⟨i,hi,rfl⟩:=List.getElem_of_mem hq;have:=h i;unfold coP at this;rwa[List.getD_eq_getElem?_getD,List.getElem?_eq_getElem hi] at this
theorem km_(o:List Rat)(a:Rat)(q:List Rat)(i k n:Nat)(h:n< i∨i+k≤n):coP (rowP o a q i k) n=coP o n:=by
 induction k with
 |zero=>rfl
 |succ k ih=>rw[rowP,jl_,if_neg (by omega),ih (by omega)]
theorem qZ_{o:List Rat}{a:Rat}{q:List Rat}{B s t:Nat}(i:Nat)(ho:∀n,qs (coP o n)≤B)(ha:qs a≤s)(hq:∀n,qs (coP q n)≤t):∀k n,qs (coP (rowP o a q i k) n)≤B+(s+t+1)
 |0,n=>Nat.le_trans (ho n) (by omega)
 |k+1,n=>by
  rw[rowP,jl_];split;rw[km_ o a q i k (i+k) (by omega)];have h1:=fN_ (coP o (i+k)) (a* coP q k);have h2:=cE_ a (coP q k);have h3:=ho (i+k);have h4:=hq k;omega;exact qZ_ i ho ha hq k n
theorem ky_{p q:List Rat}{s t:Nat}(hp:∀n,qs (coP p n)≤s)(hq:∀n,qs (coP q n)≤t):∀i n,qs (coP (mulR p q i) n)≤i* (s+t+1)+1
 |0,n=>by
  have:coP (mulR p q 0) n=0:=by
   unfold mulR coP;rw[List.getD_eq_getElem?_getD,List.getElem?_replicate];split <;> rfl
  rw[this];exact Nat.le_add_left 1 _
 |i+1,n=>by
  rw[mulR,Nat.add_mul,Nat.one_mul];split;have:=ky_ hp hq i n;omega;have:=qZ_ (B:=i* (s+t+1)+1) i (ky_ hp hq i) (hp i) hq q.length n;omega
theorem m6_{p q:List Rat}{s t:Nat}(hp:bdL p s)(hq:bdL q t)(hs:1≤s)(ht:1≤t):bdL (mulP p q) (p.length* (s+t+1)+1):=by
 unfold mulP;split;intro q hq;cases hq;intro x hx;exact fQ_ (ky_ (de_ hp hs) (de_ hq ht) p.length) x (bp_ hx)
theorem CvLL.zeros{r:Ren}{hp hp':Nat→Option ABlk}(h:Shr r hp hp')(n:Nat):CvLL r hp hp' (List.replicate n zC) (pE (List.replicate n 0)):=by
 induction n with
 |zero=>rfl
 |succ n ih=>
  refine⟨qC 0,_,rfl,?_,ih⟩;rw[qC0];exact ai_ (Cv.emp _) (ai_ (ak_ h (ad_ _)) (ai_ (Cv.emp _) an_))
def subAt(o:List Rat)(j:Nat)(x:Rat):List Rat:=o.set j (coP o j- x)
def rowM(o:List Rat)(k:Rat)(q:List Rat)(n:Nat):Nat→List Rat
 |0=>o
 |i+1=>subAt (rowM o k q n i) (n+i) (k* coP q i)
def divR(q:List Rat)(lead:Rat):Nat→List Rat→List Rat→List Rat×List Rat
 |0,u,o=>(u,o)
 |n+1,u,o=>divR q lead n (u.set n (coP o (n+q.length- 1) / lead)) (if coP o (n+q.length- 1) / lead=0 then o else rowM o (coP o (n+q.length- 1) / lead) q n q.length)
def divP(p q:List Rat):List Rat×List Rat:=
 let r:=divR (trimQ q) (leadP q) ((trimQ p).length+1- (trimQ q).length) (List.replicate ((trimQ p).length+1- (trimQ q).length) 0) (trimQ p)
 (trimQ r.1,trimQ r.2)
@[simp] theorem lA_ (o:List Rat)(j:Nat)(x:Rat):(subAt o j x).length=o.length:=by simp[subAt]
@[simp] theorem fX_ (o:List Rat)(a:Rat)(q:List Rat)(i k:Nat):(rowM o a q i k).length=o.length:=by
 induction k with
 |zero=>rfl
 |succ k ih=>rw[rowM,lA_,ih]
theorem eO_(q:List Rat)(lead:Rat):∀c u o,(divR q lead c u o).1.length=u.length∧(divR q lead c u o).2.length=o.length
 |0,u,o=>⟨rfl,rfl⟩
 |n+1,u,o=>by
  refine⟨(eO_ q lead n _ _).1.trans (by simp),(eO_ q lead n _ _).2.trans ?_⟩;split <;> simp
theorem sI_(o:List Rat)(j n:Nat)(x:Rat):coP (o.set j x) n=if n=j∧j< o.length then x else coP o n:=by
 unfold coP;grind
theorem mr_(o:List Rat)(j n:Nat)(x:Rat):coP (subAt o j x) n=if n=j∧j< o.length then coP o j- x else coP o n:=sI_ o j n _
theorem n5_(o:List Rat)(a:Rat)(q:List Rat)(i k n:Nat)(h:n< i∨i+k≤n):coP (rowM o a q i k) n=coP o n:=by
 induction k with
 |zero=>rfl
 |succ k ih=>rw[rowM,mr_,if_neg (by omega),ih (by omega)]
theorem q0_{o:List Rat}{a:Rat}{q:List Rat}{B s t:Nat}(i:Nat)(ho:∀n,qs (coP o n)≤B)(ha:qs a≤s)(hq:∀n,qs (coP q n)≤t):∀k n,qs (coP (rowM o a q i k) n)≤B+(s+t+1)
 |0,n=>Nat.le_trans (ho n) (by omega)
 |k+1,n=>by
  rw[rowM,mr_];split;rw[n5_ o a q i k (i+k) (by omega)];have h1:=q4_ (coP o (i+k)) (a* coP q k);have h2:=cE_ a (coP q k);have h3:=ho (i+k);have h4:=hq k;omega;exact q0_ i ho ha hq k n
def divB(q:List Rat)(lead:Rat)(L c:Nat)(u o:List Rat):Prop:=
 ∃B t,(∀n,qs (coP o n)≤B)∧(∀n,qs (coP q n)≤t)∧qs lead≤t∧1≤t∧(∀n,qs (coP u n)≤L)∧2^ c* (B+2* t+1)≤L
theorem oX_{q:List Rat}{lead:Rat}{L c:Nat}{u o:List Rat}(h:divB q lead L c u o):∃B t,(∀n,qs (coP o n)≤B)∧(∀n,qs (coP q n)≤t)∧qs lead≤t∧B+2* t+1≤L:=by
 obtain⟨B,t,h1,h2,h3,h4,h5,h6⟩:=h;refine⟨B,t,h1,h2,h3,Nat.le_trans ?_ h6⟩;have:=Nat.mul_le_mul_right (B+2* t+1) (Nat.one_le_two_pow (n:=c));omega
theorem mo_{q:List Rat}{lead:Rat}{L n:Nat}{u o:List Rat}(h:divB q lead L (n+1) u o):
    divB q lead L n (u.set n (coP o (n+q.length- 1) / lead)) (if coP o (n+q.length- 1) / lead=0 then o else rowM o (coP o (n+q.length- 1) / lead) q n q.length):=by
 obtain⟨B,t,h1,h2,h3,h4,h5,h6⟩:=h;obtain⟨k,hk⟩:∃k,k=coP o (n+q.length- 1) / lead:=⟨_,rfl⟩
 have hkb:qs k≤B+t:=by
  have e1:=e1_ (coP o (n+q.length- 1)) lead;grind
 rw[←hk];obtain⟨W,hW⟩:∃W,W=2^ n:=⟨_,rfl⟩;have hW1:1≤W:=by grind
 rw[Nat.pow_succ] at h6;have h7:W* (2* B+2* t+1+2* t+1)≤L:=by grind
 have h8:2* B+2* t+1+2* t+1≤L:=by
  have:=Nat.mul_le_mul_right (2* B+2* t+1+2* t+1) hW1;omega
 refine⟨2* B+2* t+1,t,fun j=>?_,h2,h3,h4,fun j=>?_,by grind⟩;split;have:=h1 j;omega;have:=q0_ n h1 hkb h2 q.length j;omega;rw[sI_];grind
theorem nr_{q:List Rat}{lead:Rat}{L:Nat}:∀{c u o},divB q lead L c u o→(∀n,qs (coP (divR q lead c u o).1 n)≤L)∧(∀n,qs (coP (divR q lead c u o).2 n)≤L)
 |0,u,o,h=>by
  obtain⟨B,t,h1,h2,h3,h6⟩:=oX_ h;obtain⟨_,_,_,_,_,_,h5,_⟩:=h;exact⟨h5,fun n=>Nat.le_trans (h1 n) (by omega)⟩
 |n+1,u,o,h=>nr_ (c:=n) (mo_ h)
def mxL(l:List Rat):Nat:=l.foldr (fun q n=>max (qs q) n) 1
theorem cW_(l:List Rat):1≤mxL l:=by
 induction l with
 |nil=>exact Nat.le_refl _
 |cons q l ih=>exact Nat.le_trans ih (Nat.le_max_right _ _)
theorem c3_(l:List Rat):bdL l (mxL l):=by
 induction l with
 |nil=>intro q hq;grind
 |cons a l ih=>
  intro q hq;rcases List.mem_cons.1 hq with rfl|hq
  exact Nat.le_max_left _ _;exact Nat.le_trans (ih q hq) (Nat.le_max_right _ _)
theorem iG_{l:List Rat}{n:Nat}(h:bdL l n)(hn:1≤n):mxL l≤n:=by
 induction l with
 |nil=>exact hn
 |cons a l ih=>exact Nat.max_le.2 ⟨h a (List.mem_cons_self ..),ih fun q hq=>h q (List.mem_cons_of_mem _ hq)⟩
def okDiv(p q:List Rat):Prop:=2^ ((trimQ p).length+1- (trimQ q).length) * (mxL p+2* mxL q+1)≤137438953472∧p.length≤274877906944∧q.length≤274877906944
instance (p q:List Rat):Decidable (okDiv p q):=inferInstanceAs (Decidable (_∧_∧_))
theorem p3_{p q:List Rat}{s t L:Nat}(hp:bdL p s)(hq:bdL q t)(hs:1≤s)(ht:1≤t)(hq0:trimQ q≠[])(m:Nat)(h:2^ m* (s+2* t+1)≤L):divB (trimQ q) (leadP q) L m (List.replicate m 0) (trimQ p):=by
 have hL:1≤L:=by
  have h3:=Nat.mul_le_mul_right (s+2* t+1) (Nat.one_le_two_pow (n:=m));omega
 have hql:=List.length_pos_iff.2 hq0;refine⟨s,t,de_ (fun x hx=>hp x (bp_ hx)) hs,de_ (fun x hx=>hq x (bp_ hx)) ht,hq _ (bp_ (List.mem_of_getElem? (cG_ (n:=(trimQ q).length- 1) (by omega)))),ht,fun n=>?_,h⟩
 have:coP (List.replicate m 0) n=0:=by
  unfold coP;rw[List.getD_eq_getElem?_getD,List.getElem?_replicate];split <;> rfl
 rw[this];exact Nat.le_trans (by decide:qs 0≤1) hL
theorem divP_bd{p q:List Rat}{s t L:Nat}(hp:bdL p s)(hq:bdL q t)(hs:1≤s)(ht:1≤t)(hq0:trimQ q≠[])(h:2^ ((trimQ p).length+1- (trimQ q).length) * (s+2* t+1)≤L):bdL (divP p q).1 L∧bdL (divP p q).2 L:=by
 have:=nr_ (p3_ hp hq hs ht hq0 _ h);exact⟨fun x hx=>fQ_ this.1 x (bp_ hx),fun x hx=>fQ_ this.2 x (bp_ hx)⟩
theorem ns_{p q:List Rat}(h:okDiv p q)(hq0:trimQ q≠[]):smL (divP p q).1∧smL (divP p q).2:=
 have:=divP_bd (c3_ p) (c3_ q) (cW_ p) (cW_ q) hq0 h.1
 ⟨fS_ this.1 (Nat.le_refl _),fS_ this.2 (Nat.le_refl _)⟩
theorem k1_{p q:List Rat}:(divP p q).1.length≤p.length+1∧(divP p q).2.length≤p.length:=by
 have h1:=eO_ (trimQ q) (leadP q) ((trimQ p).length+1- (trimQ q).length) (List.replicate ((trimQ p).length+1- (trimQ q).length) 0) (trimQ p);have h2:=a8_ p;have h3:=a8_ (divR (trimQ q) (leadP q) ((trimQ p).length+1- (trimQ q).length) (List.replicate ((trimQ p).length+1- (trimQ q).length) 0) (trimQ p)).1;have h4:=a8_ (divR (trimQ q) (leadP q) ((trimQ p).length+1- (trimQ q).length) (List.replicate ((trimQ p).length+1- (trimQ q).length) 0) (trimQ p)).2;rw[h1.1,List.length_replicate] at h3;rw[h1.2] at h4;exact⟨by unfold divP;simp only;omega,by unfold divP;simp only;omega⟩
theorem bG_(p:List Rat)(k:Rat):(aN_ p k).length≤p.length:=by
 have:=a8_ (tabP p.length fun i=>coP p i* k);simpa[aN_] using this
theorem px_(p:List Rat):(e3_ p).length≤p.length:=by
 unfold e3_;split;simp;exact bG_ _ _
def gcdM:Nat→List Rat→List Rat→Option (List Rat)
 |0,_,_=>none
 |f+1,p,q=>if trimQ q=[] then(if smL p then some (e3_ p) else none) else if okDiv p q then gcdM f q (e3_ (divP p q).2) else none
def evalP:List Rat→Rat→Rat
 |[],_=>0
 |a::l,x=>evalP l x* x+a
def backP(l:List Rat)(k:Nat):Option (List AV):=if k< l.length then some [i64 ((l.length- 1- k:Nat):Int),.agg (qC (coP l (l.length- 1- k)))] else none
theorem jf_{l:List Rat}{k:Nat}(h:k< l.length):l.drop (l.length- (k+1))=coP l (l.length- 1- k)::l.drop (l.length- k):=by
 have h1:l.length- (k+1)< l.length:=by omega
 rw[List.drop_eq_getElem_cons h1,show l.length- (k+1)+1=l.length- k by omega];congr 1;have:=bw_ h1;rw[List.getElem?_eq_getElem h1] at this;rw[show l.length- 1- k=l.length- (k+1) by omega];exact Option.some.inj this
theorem gE_{x:Rat}{s t:Nat}(hx:qs x≤t):∀{l:List Rat},bdL l s→qs (evalP l x)≤l.length* (s+t+1)+1
 |[],_=>by show qs 0≤_;exact Nat.le_trans (by decide:qs 0≤1) (Nat.le_add_left 1 _)
 |a::l,h=>by
  have ih:=gE_ (l:=l) hx fun q hq=>h q (List.mem_cons_of_mem _ hq);have ha:=h a (List.mem_cons_self ..);have h1:=fN_ (evalP l x* x) a;have h2:=cE_ (evalP l x) x;show qs (evalP l x* x+a)≤(l.length+1) * (s+t+1)+1;rw[Nat.add_mul,Nat.one_mul];omega
def dv_(p:List Rat)(x:Rat):Prop:=p.length* (mxL p+qs x+1)+mxL p+qs x+2≤137438953472∧p.length≤274877906944
instance (p:List Rat) (x:Rat):Decidable (dv_ p x):=inferInstanceAs (Decidable (_∧_))
theorem p0_{p:List Rat}{x:Rat}(h:dv_ p x)(k:Nat)(hk:k< p.length):qs (evalP (p.drop (p.length- k)) x)+qs x≤549755813888∧qs (evalP (p.drop (p.length- k)) x* x)+qs (coP p (p.length- 1- k))≤549755813888:=by
 have h1:=gE_ (t:=qs x) (Nat.le_refl _) (l:=p.drop (p.length- k)) (s:=mxL p) fun q hq=>c3_ p q (List.mem_of_mem_drop hq);have h2:=cE_ (evalP (p.drop (p.length- k)) x) x;have h3:=de_ (c3_ p) (cW_ p) (p.length- 1- k);have h4:=h.1;have h5:(p.drop (p.length- k)).length* (mxL p+qs x+1)≤p.length* (mxL p+qs x+1):=Nat.mul_le_mul_right _ (by simp);omega
theorem kZ_{p:List Rat}{x:Rat}(h:dv_ p x):sm (evalP p x):=by
 have h1:=gE_ (t:=qs x) (Nat.le_refl _) (c3_ p);have h2:=h.1;unfold sm;omega
abbrev Sp:=Rat×Rat
def prods(a b:Sp):List Rat:=[a.1* b.1,a.1* b.2,a.2* b.1,a.2* b.2]
def spMul(a b:Sp):Sp:=(minL (prods a b),maxL (prods a b))
def spAdd(a b:Sp):Sp:=(a.1+b.1,a.2+b.2)
def smS(a:Sp):Prop:=sm a.1∧sm a.2
instance (a:Sp):Decidable (smS a):=inferInstanceAs (Decidable (_∧_))
def ovP(v0 s:Sp):List Rat→Sp
 |[]=>v0
 |a::l=>spAdd (spMul (ovP v0 s l) s) (a,a)
def okOv(v0 s:Sp):List Rat→Prop
 |[]=>smS v0
 |a::l=>okOv v0 s l∧smL (prods (ovP v0 s l) s)∧sm a∧smS (spAdd (spMul (ovP v0 s l) s) (a,a))
instance okOv_dec (v0 s:Sp):(l:List Rat)→Decidable (okOv v0 s l)
 |[]=>inferInstanceAs (Decidable (smS v0))
 |a::l=> @instDecidableAnd _ _ (okOv_dec v0 s l) (inferInstanceAs (Decidable (_∧_∧_)))
theorem okOv_sm{v0 s:Sp}:∀{l:List Rat},okOv v0 s l→smS (ovP v0 s l)
 |[],h=>h
 |_::_,h=>h.2.2.2
theorem lQ_{v0 s:Sp}:∀{l:List Rat} (n:Nat),okOv v0 s l→okOv v0 s (l.drop n)
 |_,0,h=>h
 |[],_+1,h=>h
 |_::_,n+1,h=>lQ_ n h.1
def overP(p:List Rat)(s:Sp):Sp:=if¬cmpQ s.1 s.2≤0∨trimQ p=[] then(0,0) else ovP (leadP p,leadP p) s ((trimQ p).take ((trimQ p).length- 1))
def om_(p:List Rat)(s:Sp):Prop:=smL p∧smS s∧p.length≤274877906944∧okOv (leadP p,leadP p) s ((trimQ p).take ((trimQ p).length- 1))
instance (p:List Rat) (s:Sp):Decidable (om_ p s):=inferInstanceAs (Decidable (_∧_∧_∧_))
def okMul(p q:List Rat):Prop:=p.length* (mxL p+mxL q+1)+1≤137438953472∧mxL q≤137438953472∧p.length≤274877906944∧q.length≤274877906944
instance (p q:List Rat):Decidable (okMul p q):=inferInstanceAs (Decidable (_∧_∧_∧_))
theorem kv_{p q:List Rat}(h:okMul p q):smL (mulP p q):=
 fS_ (m6_ (c3_ p) (c3_ q) (cW_ p) (cW_ q)) h.1
theorem dM_(p q:List Rat):(addP p q).length≤max p.length q.length:=by
 have:=a8_ (tabP (max p.length q.length) fun i=>coP p i+coP q i);simpa[addP] using this
theorem gq_(p q:List Rat):(mulP p q).length≤p.length+q.length:=by
 unfold mulP;split;simp;have:=a8_ (mulR p q p.length);rw[f3_] at this;omega
theorem dS_(a:Rat):(bo_ a).length≤1:=a8_ [a]
def compP(q:List Rat):List Rat→List Rat
 |[]=>[]
 |a::l=>addP (mulP (compP q l) q) (bo_ a)
def d2_(q:List Rat):List Rat→Prop
 |[]=>True
 |a::l=>d2_ q l∧okMul (compP q l) q∧sm a∧(mulP (compP q l) q).length≤274877906944
instance okComp_dec (q:List Rat):(l:List Rat)→Decidable (d2_ q l)
 |[]=>inferInstanceAs (Decidable True)
 |a::l=> @instDecidableAnd _ _ (okComp_dec q l) (inferInstanceAs (Decidable (_∧_∧_)))
theorem iA_{q:List Rat}:∀{l:List Rat} (n:Nat),d2_ q l→d2_ q (l.drop n)
 |_,0,h=>h
 |[],_+1,h=>h
 |_::_,n+1,h=>iA_ n h.1
abbrev UB:Nat:=32768
def iE(l:List Nat):List (List AV):=l.map fun(d:Nat)=>[i64 d]
def hv(l:List Nat):Nat:=ofD UB l.reverse
def zd(n:Nat):List Nat:=(digs UB n).reverse
def zZ(z:Int):List AV:=[i64 (sgZ z),.arr (iE (zd z.natAbs))]
def dF_:List Nat→List Nat
 |[]=>[]
 |d::l=>if d=0 then dF_ l else d::l
@[simp] theorem iP_ (l:List Nat):(iE l).length=l.length:=by simp[iE]
theorem fP_{l:List Nat}{i d:Nat}(h:l[i]?=some d):(iE l)[i]?=some [i64 d]:=by simp[iE,h]
theorem iE_take(l:List Nat)(k:Nat):(iE l).take k=iE (l.take k):=by simp[iE]
theorem gx_(l m:List Nat):iE (l++m)=iE l++iE m:=by simp[iE]
theorem iO_(l:List Nat)(i d:Nat):(iE l).set i [i64 d]=iE (l.set i d):=by simp[iE,List.map_set]
theorem eb_(k:Nat):List.replicate k [i64 0]=iE (List.replicate k 0):=by simp[iE]
theorem cT_(l:List Nat):(iE l).all (·.all AV.one)=true:=by
 simp only[iE,List.all_map,List.all_eq_true];intro d _;rfl
theorem f5_(l:List Nat):∀e∈iE l,e.length=1:=by intro e he;simp[iE] at he;obtain⟨d,_,rfl⟩:=he;rfl
theorem bP_(l:List Nat):∀e∈iE l,∀c∈e,Closed c:=by
 intro e he c hc;simp[iE] at he;obtain⟨d,_,rfl⟩:=he;simp at hc;subst hc;exact ad_ _
theorem cK_(l:List Nat):Closed (.arr (iE l)):=aB_ (bP_ l)
theorem bW_(z:Int):∀c∈zZ z,Closed c:=aa_ (ad_ _) (aa_ (cK_ _) ac_)
theorem bx_(z:Int):Closed (.agg (zZ z)):=ay_ (bW_ z)
theorem pn_(m:List Nat)(d:Nat):trimD (m++[d])=if d=0 then trimD m else m++[d]:=by
 induction m with
 |nil=>simp[trimD]
 |cons a m ih=>
  rw[List.cons_append,trimD,ih];by_cases hd:d=0;rw[if_pos hd,if_pos hd];rfl;rw[if_neg hd,if_neg hd];cases m <;> rfl
theorem mO_(l:List Nat):dF_ l=(trimD l.reverse).reverse:=by
 induction l with
 |nil=>rfl
 |cons d l ih=>
  rw[dF_,List.reverse_cons,pn_];split;exact ih;simp
theorem c4_{l:List Nat}(h:∀d∈l,d< UB):dF_ l=zd (hv l):=by
 rw[mO_,ez_ (b:=UB) (by decide) (fun d hd=>h d (List.mem_reverse.1 hd))];rfl
theorem hv_zd(n:Nat):hv (zd n)=n:=by unfold hv zd;rw[List.reverse_reverse,aV_ (by decide)]
theorem zd_lt(n:Nat):∀d∈zd n,d< UB:=fun d hd=>bT_ (by decide) n d (List.mem_reverse.1 hd)
theorem bh_(n:Nat):(zd n).length=(digs UB n).length:=List.length_reverse
theorem iR_(d:Nat)(l:List Nat):hv (d::l)=hv l+UB^ l.length* d:=by
 unfold hv;rw[List.reverse_cons,dI_,List.length_reverse]
theorem iQ_(l:List Nat)(d:Nat):hv (l++[d])=hv l* UB+d:=by
 unfold hv;simp[ofD];rw[Nat.mul_comm,Nat.add_comm]
theorem lZ_:hv []=0:=rfl
theorem gP_:zd 0=[]:=by unfold zd;rw[bb_];rfl
theorem zd_eq_nil{n:Nat}:zd n=[]↔n=0:=by
 unfold zd;rw[List.reverse_eq_nil_iff];exact cY_ (by decide)
theorem jE_{l:List Nat}(h:∀d∈l,d< UB):dF_ l=[]↔hv l=0:=by rw[c4_ h];exact zd_eq_nil
theorem qi_:zZ 0=[i64 0,.arr []]:=by unfold zZ;show [i64 0,AV.arr (iE (zd 0))]=_;rw[gP_];rfl
theorem hv_lt{l:List Nat}(h:∀d∈l,d< UB):hv l< UB^ l.length:=by
 have:=dx_ (b:=UB) (l:=l.reverse) fun d hd=>h d (List.mem_reverse.1 hd);rwa[List.length_reverse] at this
theorem AEval.lenI{P:Program}{id:Nat}{ev:Operand→Option AV}{hp:Nat→Option ABlk}{c:Call}{x:Operand}{T:Nat}{d:Nat×Nat}{l:List Nat}(hc:c.callee= .builtin .len)(ha:c.args= #[x])(ht:c.argTypes= #[T])(hx:ev x=some (.arr (iE l)))(he:elOf P T=some d):
    AEval P id ev hp (.call c) ⟨.v (.int .i64 (l.length:Nat)),[]⟩ []:= .len hc ha ht hx (by simp[lenA]) he
abbrev RQ:=Rat×Bool
def rok(x:RQ):Prop:=x.2=true→x.1=0
def rC(x:RQ):List AV:=zZ x.1.num++zZ (if x.2 then 0 else(x.1.den:Int))
def rq(q:Rat):RQ:=(q,false)
def r0:RQ:=(0,true)
theorem du_(q:Rat):rok (rq q):=fun h=>by cases h
theorem rok_r0:rok r0:=fun _=>rfl
@[simp] theorem rC_length (x:RQ):(rC x).length=4:=rfl
theorem b8_(x:RQ):∀c∈rC x,Closed c:=fun c hc=>(List.mem_append.1 hc).elim (bW_ _ c) (bW_ _ c)
theorem cJ_(x:RQ):Closed (.agg (rC x)):=ay_ (b8_ x)
theorem rC_rq(q:Rat):rC (rq q)=zZ q.num++zZ (q.den:Int):=rfl
theorem rC_r0:rC r0=[i64 0,.arr [],i64 0,.arr []]:=by
 show zZ 0++zZ 0=_;rw[qi_];rfl
def rE(l:List RQ):List (List AV):=l.map rC
@[simp] theorem rE_length (l:List RQ):(rE l).length=l.length:=by simp[rE]
theorem e0_{l:List RQ}{i:Nat}{q:RQ}(h:l[i]?=some q):(rE l)[i]?=some (rC q):=by simp[rE,h]
theorem rE_take(l:List RQ)(k:Nat):(rE l).take k=rE (l.take k):=by simp[rE]
theorem cD_(l:List RQ):(rE l).all (·.all AV.one)=true:=by
 simp only[rE,List.all_map,List.all_eq_true];intro q _;rfl
theorem ko_(l:List RQ):∀e∈rE l,e.length=4:=by
 intro e he;obtain⟨q,_,rfl⟩:=List.mem_map.1 he;rfl
theorem dA_(l:List RQ):∀e∈rE l,∀c∈e,Closed c:=by
 intro e he c hc;obtain⟨q,_,rfl⟩:=List.mem_map.1 he;exact b8_ q c hc
theorem aQ_(l:List RQ):Closed (.arr (rE l)):=aB_ (dA_ l)
theorem AEval.lenR{P:Program}{id:Nat}{ev:Operand→Option AV}{hp:Nat→Option ABlk}{c:Call}{x:Operand}{T:Nat}{d:Nat×Nat}{l:List RQ}(hc:c.callee= .builtin .len)(ha:c.args= #[x])(ht:c.argTypes= #[T])(hx:ev x=some (.arr (rE l)))(he:elOf P T=some d):
    AEval P id ev hp (.call c) ⟨.v (.int .i64 (l.length:Nat)),[]⟩ []:= .len hc ha ht hx (by simp[lenA]) he
theorem qI_{n:Int}{d:Nat}(hd:0< d):sgZ (mkRat n d).num=sgZ n:=by
 rw[eo_ hd];have hg:0< Nat.gcd n.natAbs d:=Nat.gcd_pos_of_pos_right _ hd;have h1:n≠0→0< n.natAbs/ Nat.gcd n.natAbs d:=fun h=>Nat.div_pos (Nat.gcd_le_left _ (by omega)) hg;unfold sgZ sgn;by_cases h0:n=0;subst h0;simp;have:=h1 h0;by_cases hn:n< 0;simp[hn,h0];omega;simp[hn,h0];omega
theorem ho_(n d:Int)(hd:d< 0):Rat.divInt n d=mkRat (-n) d.natAbs:=by
 obtain⟨m,rfl⟩:∃m:Nat,d=Int.negSucc m:=⟨d.natAbs- 1,by omega⟩;rfl
theorem hn_(n d:Int)(hd:0< d):Rat.divInt n d=mkRat n d.natAbs:=by
 obtain⟨m,rfl⟩:∃m:Nat,d=(m:Int):=⟨d.natAbs,by omega⟩;rfl
theorem fA_(a b:Rat):a/ b=Rat.divInt (a.num* b.den) (a.den* b.num):=by
 rw[Rat.div_def,Rat.inv_def]
 conv=>lhs;rw[←Rat.num_divInt_den a]
 rw[Rat.divInt_mul_divInt]
abbrev nQ(n:Nat):Rat:=((n:Int):Rat)
theorem nQ_eq(n:Nat):nQ n=mkRat n 1:=(Rat.mkRat_one n).symm
theorem nQ_zero{n:Nat}:nQ n=0↔n=0:=by simp
theorem qs_nQ{n k:Nat}(h:bl n≤k)(hk:1≤k):qs (nQ n)≤k:=by
 refine Nat.max_le.2 ⟨?_,?_⟩;show bl ((n:Int)).natAbs≤k;rwa[Int.natAbs_natCast];show bl 1≤k;rw[fR_];grind
theorem nQ_mul(a b:Nat):nQ a* nQ b=nQ (a* b):=by grind
theorem nQ_sub{a b:Nat}(h:b≤a):nQ a- nQ b=nQ (a- b):=by
 rw[←Rat.intCast_sub];congr 1;omega
theorem rk_(a b:Nat)(hb:b≠0):nQ a/ nQ b=mkRat a b:=by
 rw[fA_];simp
theorem rq_(a b:Nat)(hb:b≠0)(h:b∣a):mkRat a b=nQ (a/ b):=by
 obtain⟨k,rfl⟩:=h;rw[Nat.mul_div_cancel_left _ (by omega),nQ_eq,Rat.mkRat_eq_iff hb (by decide),Int.natCast_mul,Int.mul_comm (b:Int)];simp
theorem m7_(a b:Nat)(hb:b≠0):(mkRat a b).floor=((a/ b:Nat):Int):=by
 have h:=e4_ (n:=(a:Int)) (d:=b) (by omega);rw[Int.natAbs_natCast] at h;rw[Rat.floor_def,h.1,h.2,←Int.natCast_ediv,←Int.natCast_ediv,Nat.div_div_eq_div_mul,Nat.mul_div_cancel' (Nat.gcd_dvd_right a b)]
def denL:List Rat→Nat→Nat
 |[],d=>d
 |c::l,d=>denL l (Nat.lcm d c.den)
def intC(c:Rat)(D:Nat):Nat:=c.num.natAbs* (D/ c.den)
def numL(D:Nat):List Rat→Nat→Nat
 |[],n=>n
 |c::l,n=>numL D l (Nat.gcd n (intC c D))
def primP(p:List Rat):List Rat:=aN_ (trimQ p) (nQ (denL (trimQ p) 1) / nQ (numL (denL (trimQ p) 1) (trimQ p) 0))
def ol_(p:List Rat):Prop:=(p.length+4) * mxL p≤34359738368∧p.length≤274877906944
instance (p:List Rat):Decidable (ol_ p):=inferInstanceAs (Decidable (_∧_))
theorem rA_{a b:Nat}(ha:a≠0)(hb:b≠0):Nat.lcm a b≠0:=by simp_all
theorem sC_:∀(l:List Rat) {d:Nat},d≠0→denL l d≠0
 |[],_,h=>h
 |c::l,_,h=>sC_ l (rA_ h c.den_nz)
theorem k3_:∀(l:List Rat) (d:Nat),d∣denL l d∧∀c∈l,c.den∣denL l d
 |[],d=>⟨Nat.dvd_refl d,fun _ h=>by cases h⟩
 |c::l,d=>by
  obtain⟨h1,h2⟩:=k3_ l (Nat.lcm d c.den);refine⟨Nat.dvd_trans (Nat.dvd_lcm_left d c.den) h1,fun x hx=>?_⟩;rcases List.mem_cons.1 hx with rfl|hx
  exact Nat.dvd_trans (Nat.dvd_lcm_right d x.den) h1;exact h2 x hx
theorem bl_lcm(a b:Nat):bl (Nat.lcm a b)≤bl a+bl b:=
 Nat.le_trans (cM_ _ _) (ey_ a b)
theorem sD_{s:Nat}:∀(l:List Rat) (d:Nat),bdL l s→bl (denL l d)≤bl d+l.length* s
 |[],d,_=>by simp[denL]
 |c::l,d,h=>by
  have h1:=sD_ l (Nat.lcm d c.den) fun q hq=>h q (List.mem_cons_of_mem _ hq);have h2:=bl_lcm d c.den;have h3:=bR_ c;have h4:=h c (List.mem_cons_self ..);rw[List.length_cons,Nat.add_mul];unfold denL;omega
theorem mul_intC(c:Rat)(D:Nat)(h:c.den∣D):absQ (c* nQ D)=nQ (intC c D):=by
 obtain⟨k,rfl⟩:=h;have hd:=c.den_nz
 have e:c* nQ (c.den* k)=((c.num* (k:Int):Int):Rat):=by
  rw[gp_];show mkRat (c.num* ((c.den* k:Nat):Int)) (c.den* 1)=_;rw[show((c.num* (k:Int):Int):Rat)=mkRat (c.num* k) 1 from(Rat.mkRat_one _).symm,Rat.mkRat_eq_iff (by omega) (by decide)];grind
 rw[e];unfold absQ intC;show mkRat (((c.num* (k:Int)).natAbs:Nat):Int) 1=_;rw[Nat.mul_div_cancel_left _ (by omega),Int.natAbs_mul,Int.natAbs_natCast,nQ_eq]
theorem oo_(D:Nat):∀(l:List Rat) (n:Nat),numL D l n∣n∧∀c∈l,numL D l n∣intC c D
 |[],n=>⟨Nat.dvd_refl n,fun _ h=>by cases h⟩
 |c::l,n=>by
  obtain⟨h1,h2⟩:=oo_ D l (Nat.gcd n (intC c D));refine⟨Nat.dvd_trans h1 (Nat.gcd_dvd_left _ _),fun x hx=>?_⟩;rcases List.mem_cons.1 hx with rfl|hx
  exact Nat.dvd_trans h1 (Nat.gcd_dvd_right _ _);exact h2 x hx
theorem intC_ne{c:Rat}{D:Nat}(h:c.den∣D)(hD:D≠0)(hc:c≠0):intC c D≠0:=by
 obtain⟨k,rfl⟩:=h;unfold intC;rw[Nat.mul_div_cancel_left _ c.den_pos];have h1:c.num≠0:=fun e=>hc (Rat.num_eq_zero.1 e);refine Nat.mul_ne_zero (by omega) fun e=>hD (by grind)
theorem rH_(c:Rat)(D:Nat):bl (intC c D)≤qs c+bl D:=by
 have h1:=ey_ c.num.natAbs (D/ c.den);have h2:=cM_ D c.den;have h3:=b1_ c;unfold intC;omega
theorem ga_(p:List Rat):(bz_ p).length≤p.length- 1:=by
 have:=a8_ (tabP (p.length- 1) fun i=>coP p (i+1) * ((i+1:Nat):Int));simpa[bz_] using this
def sqfM(f:Nat)(p:List Rat):Option (List Rat):=
 if smL p∧p.length≤274877906944 then(gcdM f p (bz_ p)).bind fun g=>if trimQ g≠[]∧okDiv p g then some (e3_ (divP p g).1) else none
 else none
def boL(lead:Rat):List Rat→Rat→Rat
 |[],m=>m
 |c::l,m=>boL lead l (maxL [m,absQ (c/ lead)])
def d8_(p:List Rat):Rat:=boL (leadP p) ((trimQ p).take ((trimQ p).length- 1)) 0+1
def iB_(p:List Rat):Prop:=mxL p≤34359738368∧p.length≤274877906944
instance (p:List Rat):Decidable (iB_ p):=inferInstanceAs (Decidable (_∧_))
theorem qs_abs(q:Rat):qs (absQ q)=qs q:=by
 unfold qs;rw[pi_,pj_,Int.natAbs_natCast]
theorem maxL_le{l:List Rat}{n:Nat}(h:bdL l n)(hn:1≤n):qs (maxL l)≤n:=by
 unfold maxL
 have key:∀(bf:Int→Bool) (l:List Rat) (o:Rat),qs o≤n→bdL l n→qs (l.foldl (fun o y=>if bf (cmpQ y o) then y else o) o)≤n:=by
  intro bf l
  induction l with
  |nil=>intro o ho _;exact ho
  |cons y l ih=>
   intro o ho hl;refine ih _ ?_ fun q hq=>hl q (List.mem_cons_of_mem _ hq);show qs (if bf (cmpQ y o)=true then y else o)≤n;split;exact hl y (List.mem_cons_self ..);exact ho
 cases l with
 |nil=>exact Nat.le_trans (by decide:qs 0≤1) hn
 |cons x l=>exact key (fun c=>decide (0< c)) l x (h x (List.mem_cons_self ..)) fun q hq=>h q (List.mem_cons_of_mem _ hq)
theorem pz_(p:List Rat):leadP (trimQ p)=leadP p:=by unfold leadP;rw[ck_]
def chL:List Int→Int→Int→Int
 |[],n,_=>n
 |s::l,n,last=>if s≠0 then chL l (if s= -last then n+1 else n) s else chL l n last
def o3_(f:Nat):Nat→List Rat→List Rat→List (List Rat)→Option (List (List Rat))
 |0,_,_,_=>none
 |k+1,last,next,acc=>
  if trimQ next=[] then some acc
  else if ol_ next∧okDiv last (primP next)∧trimQ (primP next)≠[] then o3_ f k (primP next) (aN_ (divP last (primP next)).2 (-1)) (acc++[primP next])
  else none
def qD_(f:Nat)(p:List Rat):Option (List (List Rat)):=
 if smL p∧ol_ p∧trimQ p≠[] then o3_ f f (primP p) (bz_ p) [primP p] else none
def cE(l:List (List Rat)):List (List AV):=l.map fun p=>[.arr (pE p)]
@[simp] theorem cE_length (l:List (List Rat)):(cE l).length=l.length:=by simp[cE]
theorem sP_{l:List (List Rat)}{i:Nat}{p:List Rat}(h:l[i]?=some p):(cE l)[i]?=some [.arr (pE p)]:=by simp[cE,h]
theorem cV_(l:List (List Rat)):(cE l).all (·.all AV.one)=true:=by
 simp only[cE,List.all_map,List.all_eq_true];intro q _;rfl
theorem ev_(l:List (List Rat)):∀e∈cE l,∀c∈e,Closed c:=by
 intro e he c hc;obtain⟨q,_,rfl⟩:=List.mem_map.1 he;rw[List.mem_singleton.1 hc];exact ar_ q
theorem gK_(l:List (List Rat)):Closed (.arr (cE l)):=aB_ (ev_ l)
theorem cE_snoc(l:List (List Rat))(p:List Rat):cE (l++[p])=cE l++[[.arr (pE p)]]:=by simp[cE]
theorem AEval.lenC{P:Program}{id:Nat}{ev:Operand→Option AV}{hp:Nat→Option ABlk}{c:Call}{x:Operand}{T:Nat}{d:Nat×Nat}{l:List (List Rat)}(hc:c.callee= .builtin .len)(ha:c.args= #[x])(ht:c.argTypes= #[T])(hx:ev x=some (.arr (cE l)))(he:elOf P T=some d):
    AEval P id ev hp (.call c) ⟨.v (.int .i64 (l.length:Nat)),[]⟩ []:= .len hc ha ht hx (by simp[lenA]) he
structure Cnt where
 p:List Rat
 ch:List (List Rat)
 far:Int
def kC(c:Cnt):List AV:=[.arr (pE c.p),.arr (cE c.ch),i64 c.far]
abbrev kA(c:Cnt):AV:= .aptr [kC c] 0 0
theorem mu_(c:Cnt):∀x∈kC c,Closed x:=aa_ (ar_ _) (aa_ (gK_ _) (aa_ (ad_ _) ac_))
theorem dB_(c:Cnt):Closed (kA c):=aL_ (mu_ c)
def sgI(q:List Rat):Int:=if degP q % 2=1 then -sgZ (leadP q).num else sgZ (leadP q).num
def sgE(x:Rat)(q:List Rat):Int:=sgZ (evalP q x).num
theorem gS_(z:Int): -1≤sgZ z∧sgZ z≤1:=by
 unfold sgZ;split;omega;split <;> omega
theorem sgI_abs(q:List Rat): -1≤sgI q∧sgI q≤1:=by
 have:=gS_ (leadP q).num;unfold sgI;split <;> omega
theorem mA_:∀(l:List Int) (n last:Int),n≤chL l n last∧chL l n last≤n+l.length
 |[],n,_=>⟨Int.le_refl _,by simp[chL]⟩
 |s::l,n,last=>by
  unfold chL;split;split;have:=mA_ l (n+1) s;simp only[List.length_cons];omega;have:=mA_ l n s;simp only[List.length_cons];omega;have:=mA_ l n last;simp only[List.length_cons];omega
def okCnt(c:Cnt):Prop:=(∀q∈c.ch,trimQ q≠[]∧q.length≤274877906944)∧c.ch.length≤274877906944∧c.far=chL (c.ch.map sgI) 0 0
instance (c:Cnt):Decidable (okCnt c):=inferInstanceAs (Decidable (_∧_∧_))
def ek_(f:Nat)(p:List Rat):Option Cnt:=
 (sqfM f p).bind fun s=>(qD_ f s).bind fun ch=>if okCnt ⟨s,ch,chL (ch.map sgI) 0 0⟩ then some ⟨s,ch,chL (ch.map sgI) 0 0⟩ else none
def uptoV(c:Cnt)(x:Rat):Int:=c.far- chL (c.ch.map (sgE x)) 0 0
def okUp(c:Cnt)(x:Rat):Prop:=okCnt c∧∀q∈c.ch,dv_ q x
instance (c:Cnt) (x:Rat):Decidable (okUp c x):=inferInstanceAs (Decidable (_∧_))
def cz_(c:Cnt)(x:Rat):Int:=if evalP c.p x=0 then uptoV c x- 1 else uptoV c x
def okBe(c:Cnt)(x:Rat):Prop:=okUp c x∧dv_ c.p x
instance (c:Cnt) (x:Rat):Decidable (okBe c x):=inferInstanceAs (Decidable (_∧_))
def allV(c:Cnt):Int:=uptoV c (d8_ c.p)
def okAll(c:Cnt):Prop:=iB_ c.p∧trimQ c.p≠[]∧okUp c (d8_ c.p)
instance (c:Cnt):Decidable (okAll c):=inferInstanceAs (Decidable (_∧_∧_))
theorem hP_{c:Cnt}{x:Rat}(h:okCnt c): -274877906944≤uptoV c x∧uptoV c x≤274877906944:=by
 have h1:=mA_ (c.ch.map sgI) 0 0;have h2:=mA_ (c.ch.map (sgE x)) 0 0;have h3:=h.2.1;rw[←h.2.2] at h1;simp only[List.length_map] at h1 h2;unfold uptoV;omega
abbrev plA(c:Cnt)(i:Int):AV:= .aptr [[kA c,i64 i]] 0 0
theorem bA_(c:Cnt)(i:Int):Closed (plA c i):=aL_ (aa_ (dB_ c) (aa_ (ad_ _) ac_))
def plC(c:Cnt)(i:Int)(x:Rat):Int:=if i< cz_ c x then -1 else if cz_ c x=i∧cz_ c x< uptoV c x then 0 else 1
theorem sT_{c:Cnt}{x:Rat}(h:okCnt c): -274877906945≤cz_ c x∧cz_ c x≤274877906944:=by
 have:=hP_ (x:=x) h;unfold cz_;split <;> omega
def biM(c:Cnt)(i:Int)(step:Rat):Nat→Rat→Rat→Option Rat
 |0,_,_=>none
 |f+1,lo,hi=>
  if sm lo∧sm hi∧sm (hi- lo) then
   if 0< cmpQ (hi- lo) 1 then
    if qs (((lo+hi) / 2).floor:Rat)+qs step≤549755813888∧okBe c ((((lo+hi) / 2).floor:Rat) * step) then
     if 0≤plC c i ((((lo+hi) / 2).floor:Rat) * step) then biM c i step f (((lo+hi) / 2).floor:Rat) hi
     else biM c i step f lo (((lo+hi) / 2).floor:Rat)
    else none
   else some lo
  else none
def inK(a v:Rat)(out zeros:List Rat):Rat:=(v- evalP out a) / evalP zeros a
def okIn(a v:Rat)(out zeros:List Rat):Prop:=sm a∧sm v∧dv_ out a∧dv_ zeros a∧evalP zeros a≠0∧sm (inK a v out zeros)∧smL out∧smL zeros∧smL (aN_ zeros (inK a v out zeros))∧okMul zeros [-a,1]∧out.length≤274877906944
instance (a v:Rat) (out zeros:List Rat):Decidable (okIn a v out zeros):=inferInstanceAs (Decidable (_∧_∧_∧_∧_∧_∧_∧_∧_∧_∧_))
theorem gb_(i:Nat):coP [] i=0:=rfl
theorem dc_(a:Rat)(l:List Rat):coP (a::l) 0=a:=rfl
theorem cO_(a:Rat)(l:List Rat)(i:Nat):coP (a::l) (i+1)=coP l i:=rfl
theorem cy_(l:List Rat)(i:Nat):coP (trimQ l) i=coP l i:=by
 induction l generalizing i with
 |nil=>rfl
 |cons a l ih=>
  rw[cl_];split
  ·rename_i h
   have h0:∀j,coP l j=0:=fun j=>by rw[←ih j,h];rfl
   split
   ·rename_i ha
    cases i with
    |zero=>rw[ha];rfl
    |succ i=>rw[cO_,h0];rfl
   cases i with
   |zero=>rfl
   |succ i=>rw[cO_,cO_,h0];rfl
  cases i with
  |zero=>rfl
  |succ i=>rw[cO_,cO_,ih]
theorem coP_tab(n:Nat)(f:Nat→Rat)(i:Nat):coP (tabP n f) i=if i< n then f i else 0:=by
 unfold coP tabP;grind
theorem cu_(p q:List Rat)(i:Nat):coP (addP p q) i=coP p i+coP q i:=by
 unfold addP;rw[cy_,coP_tab];split;rfl
 ·rw[dh_ (by omega),dh_ (by omega)];grind
theorem bO_(p:List Rat)(k:Rat)(i:Nat):coP (aN_ p k) i=coP p i* k:=by
 unfold aN_;rw[cy_,coP_tab];split;rfl
 ·rw[dh_ (by omega)];grind
theorem hp_(p q:List Rat)(i:Nat):coP (subP p q) i=coP p i- coP q i:=by
 unfold subP;rw[cu_,bO_];grind
theorem gI_(a:Rat)(i:Nat):coP (bo_ a) i=if i=0 then a else 0:=by
 unfold bo_;rw[cy_];cases i <;> rfl
theorem hq_(p:List Rat)(i:Nat):coP (bz_ p) i=coP p (i+1) * ((i+1:Nat):Int):=by
 unfold bz_;rw[cy_,coP_tab];split;rfl
 ·rw[dh_ (by omega)];grind
theorem cI_(p:List Rat)(i:Nat):coP (am_ p) i=if i=0 then 0 else coP p (i- 1) / ((i:Nat):Int):=by
 unfold am_;rw[cy_,coP_tab];split;rfl
 ·rw[if_neg (by omega),dh_ (by omega),Rat.div_def,Rat.zero_mul]
theorem gg_{p q:List Rat}(h:∀i,coP p i=coP q i):trimQ p=trimQ q:=by
 induction p generalizing q with
 |nil=>
  induction q with
  |nil=>rfl
  |cons b q ih=>
   have hb:b=0:=(h 0).symm;rw[cl_,←ih fun i=>h (i+1),if_pos hb];rfl
 |cons a p ih=>
  cases q with
  |nil=>
   have ha:a=0:=h 0;rw[cl_,ih (q:=[]) fun i=>h (i+1),if_pos ha];rfl
  |cons b q=>
   have hab:a=b:=h 0;rw[cl_,cl_,ih (q:=q) fun i=>h (i+1),hab]
theorem trim_iff{p q:List Rat}:trimQ p=trimQ q↔∀i,coP p i=coP q i:=
 ⟨fun h i=>by rw[←cy_ p,h,cy_],gg_⟩
theorem trim_nil_iff{p:List Rat}:trimQ p=[]↔∀i,coP p i=0:=
 ⟨fun h i=>by rw[←cy_ p,h];rfl,fun h=>gg_ (q:=[]) h⟩
theorem bM_(x:Rat):evalP [] x=0:=rfl
theorem aW_(a:Rat)(l:List Rat)(x:Rat):evalP (a::l) x=evalP l x* x+a:=rfl
theorem g1_{p:List Rat}(h:∀i,coP p i=0)(x:Rat):evalP p x=0:=by
 induction p with
 |nil=>rfl
 |cons a p ih=>
  have ha:a=0:=h 0;rw[aW_,ih fun i=>h (i+1)];grind
theorem c9_{p q:List Rat}(h:∀i,coP p i=coP q i)(x:Rat):evalP p x=evalP q x:=by
 induction p generalizing q with
 |nil=>exact(g1_ (fun i=>(h i).symm) x).symm
 |cons a p ih=>
  cases q with
  |nil=>exact g1_ h x
  |cons b q=>
   have hab:a=b:=h 0;rw[aW_,aW_,ih (q:=q) fun i=>h (i+1),hab]
theorem g2_(p:List Rat)(x:Rat):evalP (trimQ p) x=evalP p x:=c9_ (cy_ p) x
def addL:List Rat→List Rat→List Rat
 |[],q=>q
 |p,[]=>p
 |a::p,b::q=>(a+b)::addL p q
def gk_(p:List Rat)(k:Rat):List Rat:=p.map (· * k)
def mulL:List Rat→List Rat→List Rat
 |[],_=>[]
 |a::p,q=>addL (gk_ q a) (0::mulL p q)
theorem fD_(p q:List Rat)(i:Nat):coP (addL p q) i=coP p i+coP q i:=by
 induction p generalizing q i with
 |nil=>rw[addL,gb_];grind
 |cons a p ih=>
  cases q with
  |nil=>rw[addL,gb_]; · grind
        grind
  |cons b q=>
   cases i with
   |zero=>rfl
   |succ i=>exact ih q i
theorem et_(p:List Rat)(k:Rat)(i:Nat):coP (gk_ p k) i=coP p i* k:=by
 induction p generalizing i with
 |nil=>show(0:Rat)=0* k;grind
 |cons a p ih=>
  cases i with
  |zero=>rfl
  |succ i=>exact ih i
theorem fz_(p q:List Rat)(x:Rat):evalP (addL p q) x=evalP p x+evalP q x:=by
 induction p generalizing q with
 |nil=>rw[addL,bM_];grind
 |cons a p ih=>
  cases q with
  |nil=>rw[addL,bM_]; · grind
        grind
  |cons b q=>rw[addL,aW_,aW_,aW_];grind
theorem fc_(p:List Rat)(k x:Rat):evalP (gk_ p k) x=evalP p x* k:=by
 induction p with
 |nil=>show(0:Rat)=0* k;grind
 |cons a p ih=>show evalP (gk_ p k) x* x+a* k=_;rw[aW_];grind
theorem g4_(p q:List Rat)(x:Rat):evalP (mulL p q) x=evalP p x* evalP q x:=by
 induction p with
 |nil=>show(0:Rat)=0* _;grind
 |cons a p ih=>rw[mulL,fz_,fc_,aW_,aW_];grind
theorem bN_(p q:List Rat)(x:Rat):evalP (addP p q) x=evalP p x+evalP q x:=by
 rw[←fz_];exact c9_ (fun i=>by rw[cu_,fD_]) x
theorem bL_(p:List Rat)(k x:Rat):evalP (aN_ p k) x=evalP p x* k:=by
 rw[←fc_];exact c9_ (fun i=>by rw[bO_,et_]) x
theorem er_(p q:List Rat)(x:Rat):evalP (subP p q) x=evalP p x- evalP q x:=by
 unfold subP;rw[bN_,bL_];grind
theorem d4_(a x:Rat):evalP (bo_ a) x=a:=by
 rw[bo_,g2_];show 0* x+a=a;grind
def convP(p q:List Rat):Nat→Nat→Rat
 |0,_=>0
 |i+1,n=>convP p q i n+(if i≤n then coP p i* coP q (n- i) else 0)
theorem o0_(o:List Rat)(a:Rat)(q:List Rat)(i:Nat)(h:∀k,k< q.length→i+k< o.length):∀k n,k≤q.length→coP (rowP o a q i k) n=coP o n+(if i≤n∧n< i+k then a* coP q (n- i) else 0)
 |0,n,_=>by show coP o n=_;grind
 |k+1,n,hk=>by
  rw[rowP,jl_,mY_];by_cases hn:n=i+k;subst hn;rw[if_pos ⟨rfl,h k (by omega)⟩,km_ o a q i k (i+k) (by omega),if_pos (by omega),show i+k- i=k by omega];rw[o0_ o a q i h k n (by omega)];grind
theorem o1_(p q:List Rat)(n:Nat):∀i,i≤p.length→coP (mulR p q i) n=convP p q i n
 |0,_=>by
  show coP (List.replicate _ 0) n=0;unfold coP;grind
 |i+1,hi=>by
  have ih:=o1_ p q n i (by omega);rw[mulR,convP];split
  ·grind
  rw[o0_ _ _ _ _ (fun k hk=>by rw[f3_];omega) _ _ (Nat.le_refl _),ih];by_cases h1:i≤n;rw[if_pos h1];by_cases h2:n< i+q.length;rw[if_pos ⟨h1,h2⟩];rw[dh_ (p:=q) (by omega)];grind;grind
theorem j9_(a:Rat)(p q:List Rat)(n:Nat):∀i,convP (a::p) q (i+1) n=a* coP q n+(match n with|0=>0|m+1=>convP p q i m)
 |0=>by
  show(0:Rat)+(if 0≤n then coP (a::p) 0* coP q (n- 0) else 0)=_;rw[dc_];cases n <;> simp[convP,Rat.add_zero,Rat.zero_add]
 |i+1=>by
  rw[convP,j9_ a p q n i];cases n with
  |zero=>grind
  |succ m=>
   show a* coP q (m+1)+convP p q i m+_=a* coP q (m+1)+(convP p q i m+_);by_cases h:i≤m;rw[cO_];grind;grind
theorem k7_(p q:List Rat)(n:Nat):coP (mulL p q) n=convP p q p.length n:=by
 induction p generalizing n with
 |nil=>rfl
 |cons a p ih=>
  rw[mulL,fD_,et_,List.length_cons,j9_];cases n with
  |zero=>rw[dc_];grind
  |succ m=>rw[cO_];grind
theorem ny_(p q:List Rat)(n:Nat):coP (mulP p q) n=coP (mulL p q) n:=by
 unfold mulP;split
 ·rename_i h
  rcases h with rfl|rfl
  rfl;rw[k7_]
  have:∀i,convP p [] i n=0:=by
   intro i
   induction i with
   |zero=>rfl
   |succ i ih=>rw[convP,gb_];grind
  rw[this];rfl
 rw[cy_,o1_ _ _ _ _ (Nat.le_refl _),k7_]
theorem cX_(p q:List Rat)(x:Rat):evalP (mulP p q) x=evalP p x* evalP q x:=by
 rw[←g4_];exact c9_ (ny_ p q) x
def synD:List Rat→Rat→List Rat
 |[],_=>[]
 |[_],_=>[]
 |_::b::l,r=>evalP (b::l) r::synD (b::l) r
theorem lz_(p:List Rat)(r x:Rat):evalP p x=evalP (synD p r) x* (x- r)+evalP p r:=by
 induction p with
 |nil=>show(0:Rat)=0* _+0;grind
 |cons a l ih=>
  cases l with
  |nil=>show 0* x+a=0* (x- r)+(0* r+a);grind
  |cons b l=>
   rw[synD,aW_ a,aW_ a,aW_ (evalP (b::l) r)];grind
theorem synD_len(p:List Rat)(r:Rat):(synD p r).length=p.length- 1:=by
 induction p with
 |nil=>rfl
 |cons a l ih=>
  cases l with
  |nil=>rfl
  |cons b l=>rw[synD,List.length_cons,ih];simp
theorem jJ_:∀(n:Nat) (p xs:List Rat),p.length≤n→n≤xs.length→xs.Nodup→(∀x∈xs,evalP p x=0)→∀x,evalP p x=0
 |0,p,_,hp,_,_,_,x=>by
  have:p=[]:=List.length_eq_zero_iff.1 (by omega);rw[this];rfl
 |n+1,p,xs,hp,hx,hnd,hz,x=>by
  cases xs with
  |nil=>grind
  |cons r xs=>
   rw[List.nodup_cons] at hnd;have hr:=hz r (List.mem_cons_self ..)
   have ih:=jJ_ n (synD p r) xs (by rw[synD_len];omega) (by grind) hnd.2 fun y hy=>by
    have h1:=lz_ p r y;grind
   rw[lz_ p r x];grind
theorem mi_{p:List Rat}(h:∀x,evalP p x=0):∀i,coP p i=0:=by
 induction p with
 |nil=>intro i;rfl
 |cons a p ih=>
  have ha:a=0:=by
   have:=h 0;rw[aW_] at this;grind
  have hp:∀x,evalP p x=0:=by
   -- at all places but 0,so at all
   refine jJ_ p.length p ((List.range p.length).map fun i=>(((i+1:Nat):Int):Rat)) (Nat.le_refl _) (by simp) ?_ ?_;refine List.Pairwise.map _ (fun i j hij=>?_) List.nodup_range;intro e;have:=Rat.intCast_inj.1 e;omega;intro x hx;obtain⟨i,_,rfl⟩:=List.mem_map.1 hx;have h1:=h (((i+1:Nat):Int):Rat);rw[aW_] at h1;have h2:evalP p (((i+1:Nat):Int):Rat) * (((i+1:Nat):Int):Rat)=0:=by grind
   rcases Rat.mul_eq_zero.1 h2 with h3|h3
   exact h3;have:=Rat.intCast_inj.1 (h3.trans Rat.intCast_zero.symm);omega
  intro i;cases i with
  |zero=>exact ha
  |succ i=>exact ih hp i
theorem dK_{p q:List Rat}(h:∀x,evalP p x=evalP q x):trimQ p=trimQ q:=by
 refine gg_ fun i=>?_;have:=mi_ (p:=subP p q) (fun x=>by rw[er_];grind) i;rw[hp_] at this;grind
theorem rn_(p q:List Rat)(hp:p≠[]):(mulP p q).length≤p.length+q.length- 1:=by
 unfold mulP;split;simp;have:=a8_ (mulR p q p.length);rwa[f3_] at this
theorem lH_{p:List Rat}{k:Rat}{s t:Nat}(hp:bdL p s)(hs:1≤s)(hk:qs k≤t):bdL (aN_ p k) (s+t):=
 fQ_ fun i=>by
  rw[bO_];have h1:=cE_ (coP p i) k;have h2:=de_ hp hs i;omega
theorem nF_{p q:List Rat}{s t:Nat}(hp:bdL p s)(hq:bdL q t)(hs:1≤s)(ht:1≤t):bdL (addP p q) (s+t+1):=
 fQ_ fun i=>by
  rw[cu_];have h1:=fN_ (coP p i) (coP q i);have h2:=de_ hp hs i;have h3:=de_ hq ht i;omega
def dvE:List Rat→Rat→Rat
 |[],_=>0
 |_::l,x=>evalP l x+dvE l x* x
theorem cN_(a:Rat)(l:List Rat)(x:Rat):dvE (a::l) x=evalP l x+dvE l x* x:=rfl
theorem oT_{p:List Rat}(h:∀i,coP p i=0)(x:Rat):dvE p x=0:=by
 induction p with
 |nil=>rfl
 |cons a p ih=>rw[cN_,ih fun i=>h (i+1),g1_ fun i=>h (i+1)];grind
theorem k0_{p q:List Rat}(h:∀i,coP p i=coP q i)(x:Rat):dvE p x=dvE q x:=by
 induction p generalizing q with
 |nil=>exact(oT_ (fun i=>(h i).symm) x).symm
 |cons a p ih=>
  cases q with
  |nil=>exact oT_ h x
  |cons b q=>rw[cN_,cN_,ih (q:=q) fun i=>h (i+1),c9_ (q:=q) fun i=>h (i+1)]
theorem oV_(p q:List Rat)(x:Rat):dvE (addL p q) x=dvE p x+dvE q x:=by
 induction p generalizing q with
 |nil=>show dvE q x=0+dvE q x;grind
 |cons a p ih=>
  cases q with
  |nil=>rw[addL]; · show _=_+(0:Rat);grind
        grind
  |cons b q=>rw[addL,cN_,cN_,cN_,fz_];grind
theorem j5_(p:List Rat)(k x:Rat):dvE (gk_ p k) x=dvE p x* k:=by
 induction p with
 |nil=>show(0:Rat)=0* k;grind
 |cons a p ih=>show evalP (gk_ p k) x+dvE (gk_ p k) x* x=_;rw[cN_,fc_];grind
theorem dvE_mulL(p q:List Rat)(x:Rat):dvE (mulL p q) x=dvE p x* evalP q x+evalP p x* dvE q x:=by
 induction p with
 |nil=>show(0:Rat)=0* _+0* _;grind
 |cons a p ih=>rw[mulL,oV_,j5_,cN_,cN_,g4_,aW_];grind
def derL:List Rat→List Rat
 |[]=>[]
 |_::l=>addL l (0::derL l)
theorem p1_(p:List Rat)(x:Rat):evalP (derL p) x=dvE p x:=by
 induction p with
 |nil=>rfl
 |cons a p ih=>rw[derL,fz_,aW_,cN_];grind
theorem coP_derL(p:List Rat)(i:Nat):coP (derL p) i=coP p (i+1) * ((i+1:Nat):Int):=by
 induction p generalizing i with
 |nil=>show(0:Rat)=0* _;grind
 |cons a p ih=>
  rw[derL,fD_,cO_];cases i with
  |zero=>rw[dc_];grind
  |succ i=>rw[cO_];grind
theorem hH_(p:List Rat)(x:Rat):evalP (bz_ p) x=dvE p x:=by
 rw[←p1_];exact c9_ (fun i=>by rw[hq_,coP_derL]) x
theorem dvE_mul(p q:List Rat)(x:Rat):dvE (mulP p q) x=dvE p x* evalP q x+evalP p x* dvE q x:=by
 rw[←dvE_mulL];exact k0_ (ny_ p q) x
theorem jj_(p:List Rat):trimQ (bz_ (am_ p))=trimQ p:=gg_ fun i=>by
 rw[hq_,cI_]
 have h:(((i+1:Nat):Int):Rat)≠0:=by
  intro e;have h1:((i+1:Nat):Int)=0:=Rat.intCast_inj.1 (e.trans Rat.intCast_zero.symm);omega
 grind
theorem b6_(q:List Rat)(x:Rat):∀p,evalP (compP q p) x=evalP p (evalP q x)
 |[]=>rfl
 |a::p=>by rw[compP,bN_,cX_,d4_,b6_ q x p,aW_]
theorem g3_(q:List Rat)(x:Rat)(m:Nat)(h:m< q.length):evalP (q.take (m+1)) x=evalP (q.take m) x+coP q m* x^ m:=by
 induction q generalizing m with
 |nil=>cases h
 |cons a q ih=>
  cases m with
  |zero=>rw[List.take_succ_cons,Rat.pow_zero];show 0* x+a=0+a* 1;grind
  |succ m=>rw[List.take_succ_cons,List.take_succ_cons,aW_,aW_,cO_];grind
theorem iz_(x:Rat)(n:Nat):∀m,x^ (n+m)=x^ n* x^ m
 :=by grind
theorem lt_{p:List Rat}{n:Nat}(h:∀j,n≤j→coP p j=0):(trimQ p).length≤n:=by
 apply Nat.le_of_not_lt;intro hn;have h1:=cG_ (l:=p) (n:=(trimQ p).length- 1) (by omega);have h2:trimQ p≠[]:=fun e=>by grind
 have h3:=h ((trimQ p).length- 1) (by omega);rw[←cy_] at h3;unfold coP at h3;rw[List.getD_eq_getElem?_getD,h1] at h3;exact fu_ h2 h3
section
variable (p q r:List Rat)(a b:Rat)
end
def nz(p:List Rat):Prop:=trimQ p≠[]
def dg(p:List Rat):Nat:=(trimQ p).length- 1
def Eqv(p q:List Rat):Prop:=∀x,evalP p x=evalP q x
theorem eqv_trim{p q:List Rat}:Eqv p q↔trimQ p=trimQ q:=
 ⟨dK_,fun h x=>by rw[←g2_ p,h,g2_]⟩





end Go.Abs
