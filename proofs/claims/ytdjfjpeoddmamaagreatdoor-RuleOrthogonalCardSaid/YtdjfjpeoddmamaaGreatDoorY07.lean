/- Part Y07 of the proof. -/
import Derived.Test.YtdjfjpeoddmamaaGreatDoorY06
set_option linter.all false
namespace Go.Abs
def trimQ:List Rat→List Rat
 |[]=>[]
 |a::l=>match trimQ l with
  |[]=>if a=0 then [] else [a]
  |b::m=>a::b::m
theorem b1_(a:Rat)(l:List Rat):trimQ (a::l)=if trimQ l=[] then(if a=0 then [] else [a]) else a::trimQ l:=by
 rw[trimQ]
 cases h:trimQ l <;> simp
theorem ft_(l:List Rat)(a:Rat):trimQ (l++[a])=if a=0 then trimQ l else l++[a]:=by
 induction l with
 |nil=>simp[trimQ]
 |cons b l ih=>
  rw[List.cons_append,b1_,ih,b1_]
  by_cases h:a=0
  simp only[if_pos h]
  simp[if_neg h]
theorem a2_(l:List Rat):(trimQ l).length≤l.length:=by
 induction l with
 |nil=>simp[trimQ]
 |cons a l ih=>rw[b1_];split <;>(try split)<;> simp <;> omega
theorem eV_(l:List Rat):trimQ l=l.take (trimQ l).length:=by
 induction l with
 |nil=>simp[trimQ]
 |cons a l ih=>
  rw[b1_]
  split
  split <;> simp
  simp[←ih]
theorem bl_{l:List Rat}{q:Rat}(h:q∈trimQ l):q∈l:=by
 rw[eV_] at h;exact List.mem_of_mem_take h
theorem jx_{l:List Rat}{q:Rat}(h:(trimQ l).getLast?=some q):q≠0:=by
 induction l with
 |nil=>simp[trimQ] at h
 |cons a l ih=>
  rw[b1_] at h
  split at h
  split at h
  cases h
  simp at h;subst h;assumption
  ·rename_i h0
   rw[List.getLast?_cons_of_ne_nil h0] at h
   exact ih h
theorem bc_(l:List Rat):trimQ (trimQ l)=trimQ l:=by
 rcases List.eq_nil_or_concat (trimQ l) with h|⟨m,q,h⟩
 rw[h];rfl
 have hq:q≠0:=jx_ (l:=l) (by rw[h];simp)
 rw[h,List.concat_eq_append,ft_,if_neg hq]
theorem smL_trim{l:List Rat}(h:smL l):smL (trimQ l):=fun q hq=>h q (bl_ hq)
def degP(l:List Rat):Int:=(trimQ l).length- 1
def leadP(l:List Rat):Rat:=(trimQ l).getLastD 0
theorem b9_{l:List Rat}(h:trimQ l≠[]):leadP l≠0:=by
 unfold leadP
 refine jx_ (l:=l) (q:=(trimQ l).getLastD 0) ?_
 rw[List.getLastD_eq_getLast?]
 cases hl:(trimQ l).getLast? with
 |none=>exact absurd (List.getLast?_eq_none_iff.1 hl) h
 |some q=>rfl
theorem iJ_{l:List Rat}(h:trimQ l=[]):leadP l=0:=by unfold leadP;rw[h];rfl
theorem bH_{l:List Rat}{n:Nat}(h:(trimQ l).length=n+1):(trimQ l)[n]?=some (leadP l):=by
 unfold leadP
 rw[List.getLastD_eq_getLast?,List.getLast?_eq_getElem?,h,Nat.add_sub_cancel,List.getElem?_eq_getElem (by omega)];rfl
theorem leadP_sm{l:List Rat}(h:smL l):sm (leadP l):=by
 by_cases h0:trimQ l=[]
 rw[iJ_ h0];decide
 obtain⟨n,hn⟩:∃n,(trimQ l).length=n+1:=⟨(trimQ l).length- 1,by have:=List.length_pos_iff.2 h0;omega⟩
 exact h _ (bl_ (List.mem_of_getElem? (bH_ hn)))
def tabP(n:Nat)(f:Nat→Rat):List Rat:=(List.range n).map f
@[simp] theorem fV_ (n:Nat)(f:Nat→Rat):(tabP n f).length=n:=by simp[tabP]
def coP(p:List Rat)(i:Nat):Rat:=p.getD i 0
def addP(p q:List Rat):List Rat:=trimQ (tabP (max p.length q.length) fun i=>coP p i+coP q i)
def aJ_(p:List Rat)(k:Rat):List Rat:=trimQ (tabP p.length fun i=>coP p i* k)
def subP(p q:List Rat):List Rat:=addP p (aJ_ q (-1))
def dY_(a:Rat):List Rat:=trimQ [a]
def aY_(p:List Rat):List Rat:=trimQ (tabP (p.length- 1) fun i=>coP p (i+1) * ((i+1:Nat):Int))
def aK_(p:List Rat):List Rat:=trimQ (tabP (p.length+1) fun i=>if i=0 then 0 else coP p (i- 1) / ((i:Nat):Int))
def bf_(p:List Rat):List Rat:=if trimQ p=[] then [] else aJ_ p (1/ leadP p)
theorem jd_{p:List Rat}(h:smL p)(i:Nat):sm (coP p i):=by
 unfold coP
 rw[List.getD_eq_getElem?_getD]
 cases hi:p[i]? with
 |none=>exact(by decide:sm 0)
 |some q=>exact h q (List.mem_of_getElem? hi)
theorem bd_{p:List Rat}{i:Nat}(h:i< p.length):p[i]?=some (coP p i):=by
 unfold coP;rw[List.getD_eq_getElem?_getD,List.getElem?_eq_getElem h];rfl
theorem cn_{p:List Rat}{i:Nat}(h:p.length≤i):coP p i=0:=by
 unfold coP;rw[List.getD_eq_getElem?_getD,List.getElem?_eq_none h];rfl
theorem d1_:∀c∈zC,Closed c:=aa_ bt_ (aa_ (ad_ _) (aa_ bt_ ab_))
theorem le_zC:LeL zC (qC 0):=by rw[qC0];exact .cons .emp (.cons (.refl _) (.cons .emp .nil))
def bdL(l:List Rat)(n:Nat):Prop:=∀q∈l,qs q≤n
instance (l:List Rat) (n:Nat):Decidable (bdL l n):=inferInstanceAs (Decidable (∀q∈l,qs q≤n))
theorem gO_{l:List Rat}{n:Nat}(h:bdL l n)(hn:n≤137438953472):smL l:=fun q hq=>Nat.le_trans (h q hq) hn
theorem bE_{l:List Rat}{n:Nat}(h:bdL l n)(hn:1≤n)(i:Nat):qs (coP l i)≤n:=by
 unfold coP
 rw[List.getD_eq_getElem?_getD]
 cases hi:l[i]? with
 |none=>exact Nat.le_trans (by decide:qs 0≤1) hn
 |some q=>exact h q (List.mem_of_getElem? hi)
def addAt(o:List Rat)(j:Nat)(x:Rat):List Rat:=o.set j (coP o j+x)
def rowP(o:List Rat)(a:Rat)(q:List Rat)(i:Nat):Nat→List Rat
 |0=>o
 |k+1=>addAt (rowP o a q i k) (i+k) (a* coP q k)
def mulR(p q:List Rat):Nat→List Rat
 |0=>List.replicate (p.length+q.length- 1) 0
 |i+1=>if coP p i=0 then mulR p q i else rowP (mulR p q i) (coP p i) q i q.length
def mulP(p q:List Rat):List Rat:=if p=[]∨q=[] then [] else trimQ (mulR p q p.length)
@[simp] theorem mK_ (o:List Rat)(j:Nat)(x:Rat):(addAt o j x).length=o.length:=by simp[addAt]
@[simp] theorem mR_ (o:List Rat)(a:Rat)(q:List Rat)(i k:Nat):(rowP o a q i k).length=o.length:=by
 induction k with
 |zero=>rfl
 |succ k ih=>rw[rowP,mK_,ih]
@[simp] theorem iC_ (p q:List Rat)(i:Nat):(mulR p q i).length=p.length+q.length- 1:=by
 induction i with
 |zero=>simp[mulR]
 |succ i ih=>rw[mulR];split <;> simp[ih]
theorem jf_(o:List Rat)(j n:Nat)(x:Rat):coP (addAt o j x) n=if n=j∧j< o.length then coP o j+x else coP o n:=by
 unfold addAt coP
 rw[List.getD_eq_getElem?_getD,List.getElem?_set,List.getD_eq_getElem?_getD,List.getD_eq_getElem?_getD]
 by_cases h:j=n
 subst h
 by_cases h2:j< o.length
 simp[h2]
 simp[h2]
 rw[if_neg h,if_neg (by omega)]
theorem eT_{o:List Rat}{n:Nat}(h:∀i,qs (coP o i)≤n):bdL o n:=by
 intro q hq
 obtain⟨i,hi,rfl⟩:=List.getElem_of_mem hq
 have:=h i
 unfold coP at this
 rwa[List.getD_eq_getElem?_getD,List.getElem?_eq_getElem hi] at this
theorem ko_(o:List Rat)(a:Rat)(q:List Rat)(i k n:Nat)(h:n< i∨i+k≤n):coP (rowP o a q i k) n=coP o n:=by
 induction k with
 |zero=>rfl
 |succ k ih=>rw[rowP,jf_,if_neg (by omega),ih (by omega)]
theorem qu_{o:List Rat}{a:Rat}{q:List Rat}{B s t:Nat}(i:Nat)(ho:∀n,qs (coP o n)≤B)(ha:qs a≤s)(hq:∀n,qs (coP q n)≤t):∀k n,qs (coP (rowP o a q i k) n)≤B+(s+t+1)
 |0,n=>Nat.le_trans (ho n) (by omega)
 |k+1,n=>by
  rw[rowP,jf_]
  split
  rw[ko_ o a q i k (i+k) (by omega)]
  have h1:=gl_ (coP o (i+k)) (a* coP q k)
  have h2:=bZ_ a (coP q k)
  have h3:=ho (i+k)
  have h4:=hq k
  omega
  exact qu_ i ho ha hq k n
theorem kv_{p q:List Rat}{s t:Nat}(hp:∀n,qs (coP p n)≤s)(hq:∀n,qs (coP q n)≤t):∀i n,qs (coP (mulR p q i) n)≤i* (s+t+1)+1
 |0,n=>by
  have:coP (mulR p q 0) n=0:=by
   unfold mulR coP
   rw[List.getD_eq_getElem?_getD,List.getElem?_replicate]
   split <;> rfl
  rw[this]
  exact Nat.le_add_left 1 _
 |i+1,n=>by
  rw[mulR,Nat.add_mul,Nat.one_mul]
  split
  have:=kv_ hp hq i n;omega
  have:=qu_ (B:=i* (s+t+1)+1) i (kv_ hp hq i) (hp i) hq q.length n
  omega
theorem kw_{p q:List Rat}{s t:Nat}(hp:bdL p s)(hq:bdL q t)(hs:1≤s)(ht:1≤t):bdL (mulP p q) (p.length* (s+t+1)+1):=by
 unfold mulP
 split
 intro q hq;cases hq
 intro x hx
 exact eT_ (kv_ (bE_ hp hs) (bE_ hq ht) p.length) x (bl_ hx)
theorem CvLL.zeros{r:Ren}{hp hp':Nat→Option ABlk}(h:Shr r hp hp')(n:Nat):CvLL r hp hp' (List.replicate n zC) (pE (List.replicate n 0)):=by
 induction n with
 |zero=>rfl
 |succ n ih=>
  refine⟨qC 0,_,rfl,?_,ih⟩
  rw[qC0]
  exact af_ (Cv.emp _) (af_ (ak_ h (ad_ _)) (af_ (Cv.emp _) ao_))
def subAt(o:List Rat)(j:Nat)(x:Rat):List Rat:=o.set j (coP o j- x)
def rowM(o:List Rat)(k:Rat)(q:List Rat)(n:Nat):Nat→List Rat
 |0=>o
 |i+1=>subAt (rowM o k q n i) (n+i) (k* coP q i)
def divR(q:List Rat)(lead:Rat):Nat→List Rat→List Rat→List Rat×List Rat
 |0,u,o=>(u,o)
 |n+1,u,o=>divR q lead n (u.set n (coP o (n+q.length- 1) / lead)) (if coP o (n+q.length- 1) / lead=0 then o else rowM o (coP o (n+q.length- 1) / lead) q n q.length)
def divP(p q:List Rat):List Rat×List Rat:=
 let r:=divR (trimQ q) (leadP q) ((trimQ p).length+1- (trimQ q).length) (List.replicate ((trimQ p).length+1- (trimQ q).length) 0) (trimQ p)
 (trimQ r.1,trimQ r.2)
@[simp] theorem li_ (o:List Rat)(j:Nat)(x:Rat):(subAt o j x).length=o.length:=by simp[subAt]
@[simp] theorem dg_ (o:List Rat)(a:Rat)(q:List Rat)(i k:Nat):(rowM o a q i k).length=o.length:=by
 induction k with
 |zero=>rfl
 |succ k ih=>rw[rowM,li_,ih]
theorem eL_(q:List Rat)(lead:Rat):∀c u o,(divR q lead c u o).1.length=u.length∧(divR q lead c u o).2.length=o.length
 |0,u,o=>⟨rfl,rfl⟩
 |n+1,u,o=>by
  rw[divR]
  refine⟨(eL_ q lead n _ _).1.trans (by simp),(eL_ q lead n _ _).2.trans ?_⟩
  split <;> simp
theorem kY_(o:List Rat)(j n:Nat)(x:Rat):coP (o.set j x) n=if n=j∧j< o.length then x else coP o n:=by
 unfold coP
 rw[List.getD_eq_getElem?_getD,List.getElem?_set,List.getD_eq_getElem?_getD]
 by_cases h:j=n
 subst h
 by_cases h2:j< o.length
 simp[h2]
 simp[h2]
 rw[if_neg h,if_neg (by omega)]
theorem gG_(o:List Rat)(j n:Nat)(x:Rat):coP (subAt o j x) n=if n=j∧j< o.length then coP o j- x else coP o n:=kY_ o j n _
theorem gj_(o:List Rat)(a:Rat)(q:List Rat)(i k n:Nat)(h:n< i∨i+k≤n):coP (rowM o a q i k) n=coP o n:=by
 induction k with
 |zero=>rfl
 |succ k ih=>rw[rowM,gG_,if_neg (by omega),ih (by omega)]
theorem qv_{o:List Rat}{a:Rat}{q:List Rat}{B s t:Nat}(i:Nat)(ho:∀n,qs (coP o n)≤B)(ha:qs a≤s)(hq:∀n,qs (coP q n)≤t):∀k n,qs (coP (rowM o a q i k) n)≤B+(s+t+1)
 |0,n=>Nat.le_trans (ho n) (by omega)
 |k+1,n=>by
  rw[rowM,gG_]
  split
  rw[gj_ o a q i k (i+k) (by omega)]
  have h1:=qy_ (coP o (i+k)) (a* coP q k)
  have h2:=bZ_ a (coP q k)
  have h3:=ho (i+k)
  have h4:=hq k
  omega
  exact qv_ i ho ha hq k n
def divB(q:List Rat)(lead:Rat)(L c:Nat)(u o:List Rat):Prop:=
 ∃B t,(∀n,qs (coP o n)≤B)∧(∀n,qs (coP q n)≤t)∧qs lead≤t∧1≤t∧(∀n,qs (coP u n)≤L)∧2^ c* (B+2* t+1)≤L
theorem oO_{q:List Rat}{lead:Rat}{L c:Nat}{u o:List Rat}(h:divB q lead L c u o):∃B t,(∀n,qs (coP o n)≤B)∧(∀n,qs (coP q n)≤t)∧qs lead≤t∧B+2* t+1≤L:=by
 obtain⟨B,t,h1,h2,h3,h4,h5,h6⟩:=h
 refine⟨B,t,h1,h2,h3,Nat.le_trans ?_ h6⟩
 have:=Nat.mul_le_mul_right (B+2* t+1) (Nat.one_le_two_pow (n:=c))
 omega
theorem mp_{q:List Rat}{lead:Rat}{L n:Nat}{u o:List Rat}(h:divB q lead L (n+1) u o):
    divB q lead L n (u.set n (coP o (n+q.length- 1) / lead)) (if coP o (n+q.length- 1) / lead=0 then o else rowM o (coP o (n+q.length- 1) / lead) q n q.length):=by
 obtain⟨B,t,h1,h2,h3,h4,h5,h6⟩:=h
 obtain⟨k,hk⟩:∃k,k=coP o (n+q.length- 1) / lead:=⟨_,rfl⟩
 have hkb:qs k≤B+t:=by
  have e1:=dy_ (coP o (n+q.length- 1)) lead
  have e2:=h1 (n+q.length- 1)
  rw[hk];omega
 rw[←hk]
 obtain⟨W,hW⟩:∃W,W=2^ n:=⟨_,rfl⟩
 have hW1:1≤W:=by rw[hW];exact Nat.one_le_two_pow
 rw[Nat.pow_succ,←hW] at h6
 have h7:W* (2* B+2* t+1+2* t+1)≤L:=by
  rw[Nat.mul_assoc] at h6
  have e:2* B+2* t+1+2* t+1=2* (B+2* t+1):=by omega
  rw[e];exact h6
 have h8:2* B+2* t+1+2* t+1≤L:=by
  have:=Nat.mul_le_mul_right (2* B+2* t+1+2* t+1) hW1
  omega
 refine⟨2* B+2* t+1,t,fun j=>?_,h2,h3,h4,fun j=>?_,by rw[←hW];exact h7⟩
 split
 have:=h1 j;omega
 have:=qv_ n h1 hkb h2 q.length j;omega
 rw[kY_]
 split
 omega
 exact h5 j
theorem nv_{q:List Rat}{lead:Rat}{L:Nat}:∀{c u o},divB q lead L c u o→(∀n,qs (coP (divR q lead c u o).1 n)≤L)∧(∀n,qs (coP (divR q lead c u o).2 n)≤L)
 |0,u,o,h=>by
  obtain⟨B,t,h1,h2,h3,h6⟩:=oO_ h
  obtain⟨_,_,_,_,_,_,h5,_⟩:=h
  exact⟨h5,fun n=>Nat.le_trans (h1 n) (by omega)⟩
 |n+1,u,o,h=>nv_ (c:=n) (mp_ h)
def mxL(l:List Rat):Nat:=l.foldr (fun q n=>max (qs q) n) 1
theorem bP_(l:List Rat):1≤mxL l:=by
 induction l with
 |nil=>exact Nat.le_refl _
 |cons q l ih=>exact Nat.le_trans ih (Nat.le_max_right _ _)
theorem ce_(l:List Rat):bdL l (mxL l):=by
 induction l with
 |nil=>intro q hq;cases hq
 |cons a l ih=>
  intro q hq
  rcases List.mem_cons.1 hq with rfl|hq
  exact Nat.le_max_left _ _
  exact Nat.le_trans (ih q hq) (Nat.le_max_right _ _)
theorem dc_{l:List Rat}{n:Nat}(h:bdL l n)(hn:1≤n):mxL l≤n:=by
 induction l with
 |nil=>exact hn
 |cons a l ih=>exact Nat.max_le.2 ⟨h a (List.mem_cons_self ..),ih fun q hq=>h q (List.mem_cons_of_mem _ hq)⟩
def okDiv(p q:List Rat):Prop:=2^ ((trimQ p).length+1- (trimQ q).length) * (mxL p+2* mxL q+1)≤137438953472∧p.length≤274877906944∧q.length≤274877906944
instance (p q:List Rat):Decidable (okDiv p q):=inferInstanceAs (Decidable (_∧_∧_))
theorem pM_{p q:List Rat}{s t L:Nat}(hp:bdL p s)(hq:bdL q t)(hs:1≤s)(ht:1≤t)(hq0:trimQ q≠[])(m:Nat)(h:2^ m* (s+2* t+1)≤L):divB (trimQ q) (leadP q) L m (List.replicate m 0) (trimQ p):=by
 have hL:1≤L:=by
  have h3:=Nat.mul_le_mul_right (s+2* t+1) (Nat.one_le_two_pow (n:=m))
  omega
 have hql:=List.length_pos_iff.2 hq0
 refine⟨s,t,bE_ (fun x hx=>hp x (bl_ hx)) hs,bE_ (fun x hx=>hq x (bl_ hx)) ht,hq _ (bl_ (List.mem_of_getElem? (bH_ (n:=(trimQ q).length- 1) (by omega)))),ht,fun n=>?_,h⟩
 have:coP (List.replicate m 0) n=0:=by
  unfold coP
  rw[List.getD_eq_getElem?_getD,List.getElem?_replicate]
  split <;> rfl
 rw[this]
 exact Nat.le_trans (by decide:qs 0≤1) hL
theorem r3_{p q:List Rat}{s t L:Nat}(hp:bdL p s)(hq:bdL q t)(hs:1≤s)(ht:1≤t)(hq0:trimQ q≠[])(h:2^ ((trimQ p).length+1- (trimQ q).length) * (s+2* t+1)≤L):bdL (divP p q).1 L∧bdL (divP p q).2 L:=by
 have:=nv_ (pM_ hp hq hs ht hq0 _ h)
 exact⟨fun x hx=>eT_ this.1 x (bl_ hx),fun x hx=>eT_ this.2 x (bl_ hx)⟩
theorem nw_{p q:List Rat}(h:okDiv p q)(hq0:trimQ q≠[]):smL (divP p q).1∧smL (divP p q).2:=
 have:=r3_ (ce_ p) (ce_ q) (bP_ p) (bP_ q) hq0 h.1
 ⟨gO_ this.1 (Nat.le_refl _),gO_ this.2 (Nat.le_refl _)⟩
theorem gE_{p q:List Rat}:(divP p q).1.length≤p.length+1∧(divP p q).2.length≤p.length:=by
 have h1:=eL_ (trimQ q) (leadP q) ((trimQ p).length+1- (trimQ q).length) (List.replicate ((trimQ p).length+1- (trimQ q).length) 0) (trimQ p)
 have h2:=a2_ p
 have h3:=a2_ (divR (trimQ q) (leadP q) ((trimQ p).length+1- (trimQ q).length) (List.replicate ((trimQ p).length+1- (trimQ q).length) 0) (trimQ p)).1
 have h4:=a2_ (divR (trimQ q) (leadP q) ((trimQ p).length+1- (trimQ q).length) (List.replicate ((trimQ p).length+1- (trimQ q).length) 0) (trimQ p)).2
 rw[h1.1,List.length_replicate] at h3
 rw[h1.2] at h4
 exact⟨by unfold divP;simp only;omega,by unfold divP;simp only;omega⟩
theorem bT_(p:List Rat)(k:Rat):(aJ_ p k).length≤p.length:=by
 have:=a2_ (tabP p.length fun i=>coP p i* k)
 simpa[aJ_] using this
theorem hm_(p:List Rat):(bf_ p).length≤p.length:=by
 unfold bf_;split
 simp
 exact bT_ _ _
def gcdM:Nat→List Rat→List Rat→Option (List Rat)
 |0,_,_=>none
 |f+1,p,q=>if trimQ q=[] then(if smL p then some (bf_ p) else none) else if okDiv p q then gcdM f q (bf_ (divP p q).2) else none
def evalP:List Rat→Rat→Rat
 |[],_=>0
 |a::l,x=>evalP l x* x+a
def backP(l:List Rat)(k:Nat):Option (List AV):=if k< l.length then some [i64 ((l.length- 1- k:Nat):Int),.agg (qC (coP l (l.length- 1- k)))] else none
theorem r1_{l:List Rat}{k:Nat}(h:k< l.length):l.drop (l.length- (k+1))=coP l (l.length- 1- k)::l.drop (l.length- k):=by
 have h1:l.length- (k+1)< l.length:=by omega
 rw[List.drop_eq_getElem_cons h1,show l.length- (k+1)+1=l.length- k by omega]
 congr 1
 have:=bd_ h1
 rw[List.getElem?_eq_getElem h1] at this
 rw[show l.length- 1- k=l.length- (k+1) by omega]
 exact Option.some.inj this
theorem ec_{x:Rat}{s t:Nat}(hx:qs x≤t):∀{l:List Rat},bdL l s→qs (evalP l x)≤l.length* (s+t+1)+1
 |[],_=>by show qs 0≤_;exact Nat.le_trans (by decide:qs 0≤1) (Nat.le_add_left 1 _)
 |a::l,h=>by
  have ih:=ec_ (l:=l) hx fun q hq=>h q (List.mem_cons_of_mem _ hq)
  have ha:=h a (List.mem_cons_self ..)
  have h1:=gl_ (evalP l x* x) a
  have h2:=bZ_ (evalP l x) x
  show qs (evalP l x* x+a)≤(l.length+1) * (s+t+1)+1
  rw[Nat.add_mul,Nat.one_mul]
  omega
def dS_(p:List Rat)(x:Rat):Prop:=p.length* (mxL p+qs x+1)+mxL p+qs x+2≤137438953472∧p.length≤274877906944
instance (p:List Rat) (x:Rat):Decidable (dS_ p x):=inferInstanceAs (Decidable (_∧_))
theorem pI_{p:List Rat}{x:Rat}(h:dS_ p x)(k:Nat)(hk:k< p.length):qs (evalP (p.drop (p.length- k)) x)+qs x≤549755813888∧qs (evalP (p.drop (p.length- k)) x* x)+qs (coP p (p.length- 1- k))≤549755813888:=by
 have h1:=ec_ (t:=qs x) (Nat.le_refl _) (l:=p.drop (p.length- k)) (s:=mxL p) fun q hq=>ce_ p q (List.mem_of_mem_drop hq)
 have h2:=bZ_ (evalP (p.drop (p.length- k)) x) x
 have h3:=bE_ (ce_ p) (bP_ p) (p.length- 1- k)
 have h4:=h.1
 have h5:(p.drop (p.length- k)).length* (mxL p+qs x+1)≤p.length* (mxL p+qs x+1):=Nat.mul_le_mul_right _ (by simp)
 omega
theorem oF_{p:List Rat}{x:Rat}(h:dS_ p x):sm (evalP p x):=by
 have h1:=ec_ (t:=qs x) (Nat.le_refl _) (ce_ p)
 have h2:=h.1
 unfold sm;omega
abbrev Sp:=Rat×Rat
def prods(a b:Sp):List Rat:=[a.1* b.1,a.1* b.2,a.2* b.1,a.2* b.2]
def spMul(a b:Sp):Sp:=(minL (prods a b),maxL (prods a b))
def spAdd(a b:Sp):Sp:=(a.1+b.1,a.2+b.2)
def smS(a:Sp):Prop:=sm a.1∧sm a.2
instance (a:Sp):Decidable (smS a):=inferInstanceAs (Decidable (_∧_))
def ovP(v0 s:Sp):List Rat→Sp
 |[]=>v0
 |a::l=>spAdd (spMul (ovP v0 s l) s) (a,a)
def okOv(v0 s:Sp):List Rat→Prop
 |[]=>smS v0
 |a::l=>okOv v0 s l∧smL (prods (ovP v0 s l) s)∧sm a∧smS (spAdd (spMul (ovP v0 s l) s) (a,a))
instance okOv_dec (v0 s:Sp):(l:List Rat)→Decidable (okOv v0 s l)
 |[]=>inferInstanceAs (Decidable (smS v0))
 |a::l=> @instDecidableAnd _ _ (okOv_dec v0 s l) (inferInstanceAs (Decidable (_∧_∧_)))
def okOver(p:List Rat)(s:Sp):Prop:=smL p∧smS s∧p.length≤274877906944∧okOv (leadP p,leadP p) s ((trimQ p).take ((trimQ p).length- 1))
instance (p:List Rat) (s:Sp):Decidable (okOver p s):=inferInstanceAs (Decidable (_∧_∧_∧_))
def okMul(p q:List Rat):Prop:=p.length* (mxL p+mxL q+1)+1≤137438953472∧mxL q≤137438953472∧p.length≤274877906944∧q.length≤274877906944
instance (p q:List Rat):Decidable (okMul p q):=inferInstanceAs (Decidable (_∧_∧_∧_))
theorem gR_(p q:List Rat):(addP p q).length≤max p.length q.length:=by
 have:=a2_ (tabP (max p.length q.length) fun i=>coP p i+coP q i)
 simpa[addP] using this
def compP(q:List Rat):List Rat→List Rat
 |[]=>[]
 |a::l=>addP (mulP (compP q l) q) (dY_ a)
def okComp(q:List Rat):List Rat→Prop
 |[]=>True
 |a::l=>okComp q l∧okMul (compP q l) q∧sm a∧(mulP (compP q l) q).length≤274877906944
instance okComp_dec (q:List Rat):(l:List Rat)→Decidable (okComp q l)
 |[]=>inferInstanceAs (Decidable True)
 |a::l=> @instDecidableAnd _ _ (okComp_dec q l) (inferInstanceAs (Decidable (_∧_∧_)))
abbrev UB:Nat:=32768
def iE(l:List Nat):List (List AV):=l.map fun(d:Nat)=>[i64 d]
def hv(l:List Nat):Nat:=ofD UB l.reverse
def zd(n:Nat):List Nat:=(digs UB n).reverse
def zZ(z:Int):List AV:=[i64 (sgZ z),.arr (iE (zd z.natAbs))]
def dx_:List Nat→List Nat
 |[]=>[]
 |d::l=>if d=0 then dx_ l else d::l
@[simp] theorem iO_ (l:List Nat):(iE l).length=l.length:=by simp[iE]
theorem fS_{l:List Nat}{i d:Nat}(h:l[i]?=some d):(iE l)[i]?=some [i64 d]:=by simp[iE,h]
theorem iE_take(l:List Nat)(k:Nat):(iE l).take k=iE (l.take k):=by simp[iE]
theorem fa_(l m:List Nat):iE (l++m)=iE l++iE m:=by simp[iE]
theorem hF_(l:List Nat)(i d:Nat):(iE l).set i [i64 d]=iE (l.set i d):=by simp[iE,List.map_set]
theorem dt_(k:Nat):List.replicate k [i64 0]=iE (List.replicate k 0):=by simp[iE]
theorem c2_(l:List Nat):(iE l).all (·.all AV.one)=true:=by
 simp only[iE,List.all_map,List.all_eq_true];intro d _;rfl
theorem f3_(l:List Nat):∀e∈iE l,e.length=1:=by intro e he;simp[iE] at he;obtain⟨d,_,rfl⟩:=he;rfl
theorem bN_(l:List Nat):∀e∈iE l,∀c∈e,Closed c:=by
 intro e he c hc
 simp[iE] at he
 obtain⟨d,_,rfl⟩:=he
 simp at hc;subst hc
 exact ad_ _
theorem bi_(l:List Nat):Closed (.arr (iE l)):=aX_ (bN_ l)
theorem ci_(z:Int):∀c∈zZ z,Closed c:=aa_ (ad_ _) (aa_ (bi_ _) ab_)
theorem a5_(z:Int):Closed (.agg (zZ z)):=aq_ (ci_ z)
theorem pe_(m:List Nat)(d:Nat):trimD (m++[d])=if d=0 then trimD m else m++[d]:=by
 induction m with
 |nil=>simp[trimD]
 |cons a m ih=>
  rw[List.cons_append,trimD,ih]
  by_cases hd:d=0
  rw[if_pos hd,if_pos hd];rfl
  rw[if_neg hd,if_neg hd]
  cases m <;> rfl
theorem mM_(l:List Nat):dx_ l=(trimD l.reverse).reverse:=by
 induction l with
 |nil=>rfl
 |cons d l ih=>
  rw[dx_,List.reverse_cons,pe_]
  split
  exact ih
  simp
theorem c6_{l:List Nat}(h:∀d∈l,d< UB):dx_ l=zd (hv l):=by
 rw[mM_,ew_ (b:=UB) (by decide) (fun d hd=>h d (List.mem_reverse.1 hd))];rfl
theorem hv_zd(n:Nat):hv (zd n)=n:=by unfold hv zd;rw[List.reverse_reverse,a7_ (by decide)]
theorem zd_lt(n:Nat):∀d∈zd n,d< UB:=fun d hd=>b0_ (by decide) n d (List.mem_reverse.1 hd)
theorem bv_(n:Nat):(zd n).length=(digs UB n).length:=List.length_reverse
theorem iQ_(d:Nat)(l:List Nat):hv (d::l)=hv l+UB^ l.length* d:=by
 unfold hv;rw[List.reverse_cons,dC_,List.length_reverse]
theorem iP_(l:List Nat)(d:Nat):hv (l++[d])=hv l* UB+d:=by
 unfold hv;simp[ofD];rw[Nat.mul_comm,Nat.add_comm]
theorem lR_:hv []=0:=rfl
theorem gU_:zd 0=[]:=by unfold zd;rw[bo_];rfl
theorem zd_eq_nil{n:Nat}:zd n=[]↔n=0:=by
 unfold zd;rw[List.reverse_eq_nil_iff];exact cZ_ (by decide)
theorem jA_{l:List Nat}(h:∀d∈l,d< UB):dx_ l=[]↔hv l=0:=by rw[c6_ h];exact zd_eq_nil
theorem pX_:zZ 0=[i64 0,.arr []]:=by unfold zZ;show [i64 0,AV.arr (iE (zd 0))]=_;rw[gU_];rfl
theorem hv_lt{l:List Nat}(h:∀d∈l,d< UB):hv l< UB^ l.length:=by
 have:=ds_ (b:=UB) (l:=l.reverse) fun d hd=>h d (List.mem_reverse.1 hd)
 rwa[List.length_reverse] at this
theorem AEval.lenI{P:Program}{id:Nat}{ev:Operand→Option AV}{hp:Nat→Option ABlk}{c:Call}{x:Operand}{T:Nat}{d:Nat×Nat}{l:List Nat}(hc:c.callee= .builtin .len)(ha:c.args= #[x])(ht:c.argTypes= #[T])(hx:ev x=some (.arr (iE l)))(he:elOf P T=some d):
    AEval P id ev hp (.call c) ⟨.v (.int .i64 (l.length:Nat)),[]⟩ []:= .len hc ha ht hx (by simp[lenA]) he
abbrev RQ:=Rat×Bool
def rok(x:RQ):Prop:=x.2=true→x.1=0
def rC(x:RQ):List AV:=zZ x.1.num++zZ (if x.2 then 0 else(x.1.den:Int))
def rq(q:Rat):RQ:=(q,false)
def r0:RQ:=(0,true)
theorem bk_(q:Rat):rok (rq q):=fun h=>by cases h
theorem ir_:rok r0:=fun _=>rfl
@[simp] theorem rC_length (x:RQ):(rC x).length=4:=rfl
theorem bg_(x:RQ):∀c∈rC x,Closed c:=fun c hc=>(List.mem_append.1 hc).elim (ci_ _ c) (ci_ _ c)
theorem bb_(x:RQ):Closed (.agg (rC x)):=aq_ (bg_ x)
theorem rC_rq(q:Rat):rC (rq q)=zZ q.num++zZ (q.den:Int):=rfl
theorem rC_r0:rC r0=[i64 0,.arr [],i64 0,.arr []]:=by
 show zZ 0++zZ 0=_
 rw[pX_];rfl
def rE(l:List RQ):List (List AV):=l.map rC
@[simp] theorem lu_ (l:List RQ):(rE l).length=l.length:=by simp[rE]
theorem eP_{l:List RQ}{i:Nat}{q:RQ}(h:l[i]?=some q):(rE l)[i]?=some (rC q):=by simp[rE,h]
theorem rE_take(l:List RQ)(k:Nat):(rE l).take k=rE (l.take k):=by simp[rE]
theorem gk_(l m:List RQ):rE (l++m)=rE l++rE m:=by simp[rE]
theorem rE_set(l:List RQ)(i:Nat)(q:RQ):(rE l).set i (rC q)=rE (l.set i q):=by simp[rE,List.map_set]
theorem cS_(l:List RQ):(rE l).all (·.all AV.one)=true:=by
 simp only[rE,List.all_map,List.all_eq_true];intro q _;rfl
theorem hj_(l:List RQ):∀e∈rE l,e.length=4:=by
 intro e he
 obtain⟨q,_,rfl⟩:=List.mem_map.1 he
 rfl
theorem aF_(l:List RQ):∀e∈rE l,∀c∈e,Closed c:=by
 intro e he c hc
 obtain⟨q,_,rfl⟩:=List.mem_map.1 he
 exact bg_ q c hc
theorem a1_(l:List RQ):Closed (.arr (rE l)):=aX_ (aF_ l)
theorem AEval.lenR{P:Program}{id:Nat}{ev:Operand→Option AV}{hp:Nat→Option ABlk}{c:Call}{x:Operand}{T:Nat}{d:Nat×Nat}{l:List RQ}(hc:c.callee= .builtin .len)(ha:c.args= #[x])(ht:c.argTypes= #[T])(hx:ev x=some (.arr (rE l)))(he:elOf P T=some d):
    AEval P id ev hp (.call c) ⟨.v (.int .i64 (l.length:Nat)),[]⟩ []:= .len hc ha ht hx (by simp[lenA]) he
theorem qm_{n:Int}{d:Nat}(hd:0< d):sgZ (mkRat n d).num=sgZ n:=by
 rw[ek_ hd]
 have hg:0< Nat.gcd n.natAbs d:=Nat.gcd_pos_of_pos_right _ hd
 have h1:n≠0→0< n.natAbs/ Nat.gcd n.natAbs d:=fun h=>Nat.div_pos (Nat.gcd_le_left _ (by omega)) hg
 unfold sgZ sgn
 by_cases h0:n=0
 subst h0;simp
 have:=h1 h0
 by_cases hn:n< 0
 simp[hn,h0];omega
 simp[hn,h0];omega
theorem fF_(n d:Int)(hd:d< 0):Rat.divInt n d=mkRat (-n) d.natAbs:=by
 obtain⟨m,rfl⟩:∃m:Nat,d=Int.negSucc m:=⟨d.natAbs- 1,by omega⟩
 rfl
theorem fE_(n d:Int)(hd:0< d):Rat.divInt n d=mkRat n d.natAbs:=by
 obtain⟨m,rfl⟩:∃m:Nat,d=(m:Int):=⟨d.natAbs,by omega⟩
 rfl
theorem ep_(a b:Rat):a/ b=Rat.divInt (a.num* b.den) (a.den* b.num):=by
 rw[Rat.div_def,Rat.inv_def]
 conv=>lhs;rw[←Rat.num_divInt_den a]
 rw[Rat.divInt_mul_divInt]
abbrev nQ(n:Nat):Rat:=((n:Int):Rat)
theorem nQ_eq(n:Nat):nQ n=mkRat n 1:=(Rat.mkRat_one n).symm
theorem nQ_zero{n:Nat}:nQ n=0↔n=0:=by
 rw[←Rat.num_eq_zero]
 show(n:Int)=0↔n=0
 omega
theorem qs_nQ{n k:Nat}(h:bl n≤k)(hk:1≤k):qs (nQ n)≤k:=by
 refine Nat.max_le.2 ⟨?_,?_⟩
 show bl ((n:Int)).natAbs≤k
 rwa[Int.natAbs_natCast]
 show bl 1≤k
 rw[kc_];exact hk
theorem nQ_mul(a b:Nat):nQ a* nQ b=nQ (a* b):=by
 rw[e6_,nQ_eq (a* b)]
 show mkRat ((a:Int) * b) (1* 1)=_
 rw[Int.natCast_mul]
theorem nQ_sub{a b:Nat}(h:b≤a):nQ a- nQ b=nQ (a- b):=by
 show((a:Int):Rat)- ((b:Int):Rat)=_
 rw[←Rat.intCast_sub]
 show((_:Int):Rat)=((_:Int):Rat)
 congr 1
 omega
theorem of_(a b:Nat)(hb:b≠0):nQ a/ nQ b=mkRat a b:=by
 rw[ep_]
 show Rat.divInt ((a:Int) * ((1:Nat):Int)) (((1:Nat):Int) * b)=_
 rw[show((a:Int) * ((1:Nat):Int))=a by omega,show(((1:Nat):Int) * (b:Int))=b by omega,Rat.divInt_ofNat]
theorem lJ_(a b:Nat)(hb:b≠0)(h:b∣a):mkRat a b=nQ (a/ b):=by
 obtain⟨k,rfl⟩:=h
 rw[Nat.mul_div_cancel_left _ (by omega),nQ_eq,Rat.mkRat_eq_iff hb (by decide)]
 rw[Int.natCast_mul,Int.mul_comm (b:Int)]
 simp
theorem m2_(a b:Nat)(hb:b≠0):(mkRat a b).floor=((a/ b:Nat):Int):=by
 have h:=e7_ (n:=(a:Int)) (d:=b) (by omega)
 rw[Int.natAbs_natCast] at h
 rw[Rat.floor_def,h.1,h.2]
 have hg:0< Nat.gcd a b:=Nat.gcd_pos_of_pos_right _ (by omega)
 rw[←Int.natCast_ediv,←Int.natCast_ediv,Nat.div_div_eq_div_mul,Nat.mul_div_cancel' (Nat.gcd_dvd_right a b)]
def denL:List Rat→Nat→Nat
 |[],d=>d
 |c::l,d=>denL l (Nat.lcm d c.den)
def intC(c:Rat)(D:Nat):Nat:=c.num.natAbs* (D/ c.den)
def numL(D:Nat):List Rat→Nat→Nat
 |[],n=>n
 |c::l,n=>numL D l (Nat.gcd n (intC c D))
def primP(p:List Rat):List Rat:=aJ_ (trimQ p) (nQ (denL (trimQ p) 1) / nQ (numL (denL (trimQ p) 1) (trimQ p) 0))
def lB_(p:List Rat):Prop:=(p.length+4) * mxL p≤34359738368∧p.length≤274877906944
instance (p:List Rat):Decidable (lB_ p):=inferInstanceAs (Decidable (_∧_))
theorem q2_{a b:Nat}(ha:a≠0)(hb:b≠0):Nat.lcm a b≠0:=fun h=>by
 rcases Nat.lcm_eq_zero_iff.1 h with h|h
 exact ha h
 exact hb h
theorem jc_:∀(l:List Rat) {d:Nat},d≠0→denL l d≠0
 |[],_,h=>h
 |c::l,_,h=>jc_ l (q2_ h c.den_nz)
theorem fH_:∀(l:List Rat) (d:Nat),d∣denL l d∧∀c∈l,c.den∣denL l d
 |[],d=>⟨Nat.dvd_refl d,fun _ h=>by cases h⟩
 |c::l,d=>by
  obtain⟨h1,h2⟩:=fH_ l (Nat.lcm d c.den)
  refine⟨Nat.dvd_trans (Nat.dvd_lcm_left d c.den) h1,fun x hx=>?_⟩
  rcases List.mem_cons.1 hx with rfl|hx
  exact Nat.dvd_trans (Nat.dvd_lcm_right d x.den) h1
  exact h2 x hx
theorem bl_lcm(a b:Nat):bl (Nat.lcm a b)≤bl a+bl b:=
 Nat.le_trans (cT_ _ _) (fp_ a b)
theorem ny_{s:Nat}:∀(l:List Rat) (d:Nat),bdL l s→bl (denL l d)≤bl d+l.length* s
 |[],d,_=>by simp[denL]
 |c::l,d,h=>by
  have h1:=ny_ l (Nat.lcm d c.den) fun q hq=>h q (List.mem_cons_of_mem _ hq)
  have h2:=bl_lcm d c.den
  have h3:=bW_ c
  have h4:=h c (List.mem_cons_self ..)
  rw[List.length_cons,Nat.add_mul,Nat.one_mul]
  unfold denL
  omega
theorem hW_(c:Rat)(D:Nat)(h:c.den∣D):absQ (c* nQ D)=nQ (intC c D):=by
 obtain⟨k,rfl⟩:=h
 have hd:=c.den_nz
 have e:c* nQ (c.den* k)=((c.num* (k:Int):Int):Rat):=by
  rw[e6_]
  show mkRat (c.num* ((c.den* k:Nat):Int)) (c.den* 1)=_
  rw[show((c.num* (k:Int):Int):Rat)=mkRat (c.num* k) 1 from(Rat.mkRat_one _).symm,Rat.mkRat_eq_iff (by omega) (by decide)]
  rw[Int.natCast_mul,Nat.mul_one]
  simp only[Int.natCast_one,Int.mul_one]
  rw[Int.mul_left_comm,Int.mul_comm]
 rw[e]
 unfold absQ intC
 show mkRat (((c.num* (k:Int)).natAbs:Nat):Int) 1=_
 rw[Nat.mul_div_cancel_left _ (by omega),Int.natAbs_mul,Int.natAbs_natCast,nQ_eq]
theorem hV_(D:Nat):∀(l:List Rat) (n:Nat),numL D l n∣n∧∀c∈l,numL D l n∣intC c D
 |[],n=>⟨Nat.dvd_refl n,fun _ h=>by cases h⟩
 |c::l,n=>by
  obtain⟨h1,h2⟩:=hV_ D l (Nat.gcd n (intC c D))
  refine⟨Nat.dvd_trans h1 (Nat.gcd_dvd_left _ _),fun x hx=>?_⟩
  rcases List.mem_cons.1 hx with rfl|hx
  exact Nat.dvd_trans h1 (Nat.gcd_dvd_right _ _)
  exact h2 x hx
theorem m4_{c:Rat}{D:Nat}(h:c.den∣D)(hD:D≠0)(hc:c≠0):intC c D≠0:=by
 obtain⟨k,rfl⟩:=h
 unfold intC
 rw[Nat.mul_div_cancel_left _ c.den_pos]
 have h1:c.num≠0:=fun e=>hc (Rat.num_eq_zero.1 e)
 refine Nat.mul_ne_zero (by omega) fun e=>hD (by rw[e,Nat.mul_zero])
theorem m5_(c:Rat)(D:Nat):bl (intC c D)≤qs c+bl D:=by
 have h1:=fp_ c.num.natAbs (D/ c.den)
 have h2:=cT_ D c.den
 have h3:=b6_ c
 unfold intC;omega
theorem f8_(p:List Rat):(aY_ p).length≤p.length- 1:=by
 have:=a2_ (tabP (p.length- 1) fun i=>coP p (i+1) * ((i+1:Nat):Int))
 simpa[aY_] using this
def sqfM(f:Nat)(p:List Rat):Option (List Rat):=
 if smL p∧p.length≤274877906944 then(gcdM f p (aY_ p)).bind fun g=>if trimQ g≠[]∧okDiv p g then some (bf_ (divP p g).1) else none
 else none
def boL(lead:Rat):List Rat→Rat→Rat
 |[],m=>m
 |c::l,m=>boL lead l (maxL [m,absQ (c/ lead)])
def cB_(p:List Rat):Rat:=boL (leadP p) ((trimQ p).take ((trimQ p).length- 1)) 0+1
def e4_(p:List Rat):Prop:=mxL p≤34359738368∧p.length≤274877906944
instance (p:List Rat):Decidable (e4_ p):=inferInstanceAs (Decidable (_∧_))
def iL_(p:List Rat):Int:=if degP p< 0 then 10 else if 40< degP p then 5 else 0
theorem qs_abs(q:Rat):qs (absQ q)=qs q:=by
 unfold qs
 rw[pa_,pb_,Int.natAbs_natCast]
theorem maxL_le{l:List Rat}{n:Nat}(h:bdL l n)(hn:1≤n):qs (maxL l)≤n:=by
 unfold maxL
 have key:∀(bf:Int→Bool) (l:List Rat) (o:Rat),qs o≤n→bdL l n→qs (l.foldl (fun o y=>if bf (cmpQ y o) then y else o) o)≤n:=by
  intro bf l
  induction l with
  |nil=>intro o ho _;exact ho
  |cons y l ih=>
   intro o ho hl
   refine ih _ ?_ fun q hq=>hl q (List.mem_cons_of_mem _ hq)
   show qs (if bf (cmpQ y o)=true then y else o)≤n
   split
   exact hl y (List.mem_cons_self ..)
   exact ho
 cases l with
 |nil=>exact Nat.le_trans (by decide:qs 0≤1) hn
 |cons x l=>exact key (fun c=>decide (0< c)) l x (h x (List.mem_cons_self ..)) fun q hq=>h q (List.mem_cons_of_mem _ hq)
theorem jR_(p:List Rat):leadP (trimQ p)=leadP p:=by unfold leadP;rw[bc_]
theorem mq_(p:List Rat):degP (trimQ p)=degP p:=by unfold degP;rw[bc_]
def chL:List Int→Int→Int→Int
 |[],n,_=>n
 |s::l,n,last=>if s≠0 then chL l (if s= -last then n+1 else n) s else chL l n last
def kb_(f:Nat):Nat→List Rat→List Rat→List (List Rat)→Option (List (List Rat))
 |0,_,_,_=>none
 |k+1,last,next,acc=>
  if trimQ next=[] then some acc
  else if lB_ next∧okDiv last (primP next)∧trimQ (primP next)≠[] then kb_ f k (primP next) (aJ_ (divP last (primP next)).2 (-1)) (acc++[primP next])
  else none
def lj_(f:Nat)(p:List Rat):Option (List (List Rat)):=
 if smL p∧lB_ p∧trimQ p≠[] then kb_ f f (primP p) (aY_ p) [primP p] else none
def cE(l:List (List Rat)):List (List AV):=l.map fun p=>[.arr (pE p)]
@[simp] theorem cE_length (l:List (List Rat)):(cE l).length=l.length:=by simp[cE]
theorem sh_{l:List (List Rat)}{i:Nat}{p:List Rat}(h:l[i]?=some p):(cE l)[i]?=some [.arr (pE p)]:=by simp[cE,h]
theorem c5_(l:List (List Rat)):(cE l).all (·.all AV.one)=true:=by
 simp only[cE,List.all_map,List.all_eq_true];intro q _;rfl
theorem fn_(l:List (List Rat)):∀e∈cE l,∀c∈e,Closed c:=by
 intro e he c hc
 obtain⟨q,_,rfl⟩:=List.mem_map.1 he
 rw[List.mem_singleton.1 hc]
 exact at_ q
theorem gK_(l:List (List Rat)):Closed (.arr (cE l)):=aX_ (fn_ l)
theorem cE_snoc(l:List (List Rat))(p:List Rat):cE (l++[p])=cE l++[[.arr (pE p)]]:=by simp[cE]
theorem AEval.lenC{P:Program}{id:Nat}{ev:Operand→Option AV}{hp:Nat→Option ABlk}{c:Call}{x:Operand}{T:Nat}{d:Nat×Nat}{l:List (List Rat)}(hc:c.callee= .builtin .len)(ha:c.args= #[x])(ht:c.argTypes= #[T])(hx:ev x=some (.arr (cE l)))(he:elOf P T=some d):
    AEval P id ev hp (.call c) ⟨.v (.int .i64 (l.length:Nat)),[]⟩ []:= .len hc ha ht hx (by simp[lenA]) he
structure Cnt where
 p:List Rat
 ch:List (List Rat)
 far:Int
def kC(c:Cnt):List AV:=[.arr (pE c.p),.arr (cE c.ch),i64 c.far]
abbrev kA(c:Cnt):AV:= .aptr [kC c] 0 0
theorem my_(c:Cnt):∀x∈kC c,Closed x:=aa_ (at_ _) (aa_ (gK_ _) (aa_ (ad_ _) ab_))
theorem fm_(c:Cnt):Closed (kA c):=ai_ (my_ c)
def sgI(q:List Rat):Int:=if degP q % 2=1 then -sgZ (leadP q).num else sgZ (leadP q).num
def sgE(x:Rat)(q:List Rat):Int:=sgZ (evalP q x).num
theorem gZ_(z:Int): -1≤sgZ z∧sgZ z≤1:=by
 unfold sgZ;split
 omega
 split <;> omega
theorem sgI_abs(q:List Rat): -1≤sgI q∧sgI q≤1:=by
 have:=gZ_ (leadP q).num
 unfold sgI;split <;> omega
theorem mE_:∀(l:List Int) (n last:Int),n≤chL l n last∧chL l n last≤n+l.length
 |[],n,_=>⟨Int.le_refl _,by simp[chL]⟩
 |s::l,n,last=>by
  unfold chL
  split
  split
  have:=mE_ l (n+1) s;simp only[List.length_cons];omega
  have:=mE_ l n s;simp only[List.length_cons];omega
  have:=mE_ l n last;simp only[List.length_cons];omega
def okCnt(c:Cnt):Prop:=(∀q∈c.ch,trimQ q≠[]∧q.length≤274877906944)∧c.ch.length≤274877906944∧c.far=chL (c.ch.map sgI) 0 0
instance (c:Cnt):Decidable (okCnt c):=inferInstanceAs (Decidable (_∧_∧_))
def dX_(f:Nat)(p:List Rat):Option Cnt:=
 (sqfM f p).bind fun s=>(lj_ f s).bind fun ch=>if okCnt ⟨s,ch,chL (ch.map sgI) 0 0⟩ then some ⟨s,ch,chL (ch.map sgI) 0 0⟩ else none
def uptoV(c:Cnt)(x:Rat):Int:=c.far- chL (c.ch.map (sgE x)) 0 0
def okUp(c:Cnt)(x:Rat):Prop:=okCnt c∧∀q∈c.ch,dS_ q x
instance (c:Cnt) (x:Rat):Decidable (okUp c x):=inferInstanceAs (Decidable (_∧_))
def gN_(c:Cnt)(x:Rat):Int:=if evalP c.p x=0 then uptoV c x- 1 else uptoV c x
def okBe(c:Cnt)(x:Rat):Prop:=okUp c x∧dS_ c.p x
instance (c:Cnt) (x:Rat):Decidable (okBe c x):=inferInstanceAs (Decidable (_∧_))
def okAll(c:Cnt):Prop:=e4_ c.p∧trimQ c.p≠[]∧okUp c (cB_ c.p)
instance (c:Cnt):Decidable (okAll c):=inferInstanceAs (Decidable (_∧_∧_))
theorem hO_{c:Cnt}{x:Rat}(h:okCnt c): -274877906944≤uptoV c x∧uptoV c x≤274877906944:=by
 have h1:=mE_ (c.ch.map sgI) 0 0
 have h2:=mE_ (c.ch.map (sgE x)) 0 0
 have h3:=h.2.1
 rw[←h.2.2] at h1
 simp only[List.length_map] at h1 h2
 unfold uptoV
 omega
abbrev plA(c:Cnt)(i:Int):AV:= .aptr [[kA c,i64 i]] 0 0
theorem hu_(c:Cnt)(i:Int):Closed (plA c i):=ai_ (aa_ (fm_ c) (aa_ (ad_ _) ab_))
theorem sn_{c:Cnt}{x:Rat}(h:okCnt c): -274877906945≤gN_ c x∧gN_ c x≤274877906944:=by
 have:=hO_ (x:=x) h
 unfold gN_;split <;> omega
def inK(a v:Rat)(out zeros:List Rat):Rat:=(v- evalP out a) / evalP zeros a
def okIn(a v:Rat)(out zeros:List Rat):Prop:=sm a∧sm v∧dS_ out a∧dS_ zeros a∧evalP zeros a≠0∧sm (inK a v out zeros)∧smL out∧smL zeros∧smL (aJ_ zeros (inK a v out zeros))∧okMul zeros [-a,1]∧out.length≤274877906944
instance (a v:Rat) (out zeros:List Rat):Decidable (okIn a v out zeros):=inferInstanceAs (Decidable (_∧_∧_∧_∧_∧_∧_∧_∧_∧_∧_))
theorem f9_(i:Nat):coP [] i=0:=rfl
theorem cm_(a:Rat)(l:List Rat):coP (a::l) 0=a:=rfl
theorem bQ_(a:Rat)(l:List Rat)(i:Nat):coP (a::l) (i+1)=coP l i:=rfl
theorem bm_(l:List Rat)(i:Nat):coP (trimQ l) i=coP l i:=by
 induction l generalizing i with
 |nil=>rfl
 |cons a l ih=>
  rw[b1_]
  split
  ·rename_i h
   have h0:∀j,coP l j=0:=fun j=>by rw[←ih j,h];rfl
   split
   ·rename_i ha
    cases i with
    |zero=>rw[cm_,ha];rfl
    |succ i=>rw[bQ_,h0];rfl
   cases i with
   |zero=>rfl
   |succ i=>rw[bQ_,bQ_,h0];rfl
  cases i with
  |zero=>rfl
  |succ i=>rw[bQ_,bQ_,ih]
theorem dZ_(n:Nat)(f:Nat→Rat)(i:Nat):coP (tabP n f) i=if i< n then f i else 0:=by
 unfold coP tabP
 rw[List.getD_eq_getElem?_getD,List.getElem?_map]
 by_cases h:i< n
 rw[if_pos h,List.getElem?_range h];rfl
 rw[if_neg h,List.getElem?_eq_none (by simp;omega)];rfl
theorem d0_(p q:List Rat)(i:Nat):coP (addP p q) i=coP p i+coP q i:=by
 unfold addP
 rw[bm_,dZ_]
 split
 rfl
 ·rename_i h
  rw[cn_ (by omega),cn_ (by omega)];grind
theorem bp_(p:List Rat)(k:Rat)(i:Nat):coP (aJ_ p k) i=coP p i* k:=by
 unfold aJ_
 rw[bm_,dZ_]
 split
 rfl
 ·rename_i h
  rw[cn_ (by omega)];grind
theorem fl_(p q:List Rat)(i:Nat):coP (subP p q) i=coP p i- coP q i:=by
 unfold subP
 rw[d0_,bp_];grind
theorem sb_(a:Rat)(i:Nat):coP (dY_ a) i=if i=0 then a else 0:=by
 unfold dY_
 rw[bm_]
 cases i <;> rfl
theorem ch_(p:List Rat)(i:Nat):coP (aY_ p) i=coP p (i+1) * ((i+1:Nat):Int):=by
 unfold aY_
 rw[bm_,dZ_]
 split
 rfl
 ·rename_i h
  rw[cn_ (by omega)];grind
theorem bC_(p:List Rat)(i:Nat):coP (aK_ p) i=if i=0 then 0 else coP p (i- 1) / ((i:Nat):Int):=by
 unfold aK_
 rw[bm_,dZ_]
 split
 rfl
 ·rename_i h
  rw[if_neg (by omega),cn_ (by omega)]
  rw[Rat.div_def,Rat.zero_mul]
theorem ev_{p q:List Rat}(h:∀i,coP p i=coP q i):trimQ p=trimQ q:=by
 induction p generalizing q with
 |nil=>
  induction q with
  |nil=>rfl
  |cons b q ih=>
   have hb:b=0:=(h 0).symm
   rw[b1_,←ih fun i=>h (i+1),if_pos (by rfl),if_pos hb];rfl
 |cons a p ih=>
  cases q with
  |nil=>
   have ha:a=0:=h 0
   rw[b1_,ih (q:=[]) fun i=>h (i+1),if_pos (by rfl),if_pos ha];rfl
  |cons b q=>
   have hab:a=b:=h 0
   rw[b1_,b1_,ih (q:=q) fun i=>h (i+1),hab]
theorem trim_iff{p q:List Rat}:trimQ p=trimQ q↔∀i,coP p i=coP q i:=
 ⟨fun h i=>by rw[←bm_ p,h,bm_],ev_⟩
theorem trim_nil_iff{p:List Rat}:trimQ p=[]↔∀i,coP p i=0:=
 ⟨fun h i=>by rw[←bm_ p,h];rfl,fun h=>ev_ (q:=[]) h⟩
theorem aZ_(x:Rat):evalP [] x=0:=rfl
theorem aE_(a:Rat)(l:List Rat)(x:Rat):evalP (a::l) x=evalP l x* x+a:=rfl
theorem en_{p:List Rat}(h:∀i,coP p i=0)(x:Rat):evalP p x=0:=by
 induction p with
 |nil=>rfl
 |cons a p ih=>
  have ha:a=0:=h 0
  rw[aE_,ih fun i=>h (i+1),ha];grind
theorem cg_{p q:List Rat}(h:∀i,coP p i=coP q i)(x:Rat):evalP p x=evalP q x:=by
 induction p generalizing q with
 |nil=>exact(en_ (fun i=>(h i).symm) x).symm
 |cons a p ih=>
  cases q with
  |nil=>exact en_ h x
  |cons b q=>
   have hab:a=b:=h 0
   rw[aE_,aE_,ih (q:=q) fun i=>h (i+1),hab]
theorem bs_(p:List Rat)(x:Rat):evalP (trimQ p) x=evalP p x:=cg_ (bm_ p) x
def addL:List Rat→List Rat→List Rat
 |[],q=>q
 |p,[]=>p
 |a::p,b::q=>(a+b)::addL p q
def eN_(p:List Rat)(k:Rat):List Rat:=p.map (· * k)
def mulL:List Rat→List Rat→List Rat
 |[],_=>[]
 |a::p,q=>addL (eN_ q a) (0::mulL p q)
theorem cV_(p q:List Rat)(i:Nat):coP (addL p q) i=coP p i+coP q i:=by
 induction p generalizing q i with
 |nil=>rw[addL,f9_];grind
 |cons a p ih=>
  cases q with
  |nil=>rw[addL,f9_]; · grind
        intro h;cases h
  |cons b q=>
   rw[addL]
   cases i with
   |zero=>rfl
   |succ i=>exact ih q i
theorem cv_(p:List Rat)(k:Rat)(i:Nat):coP (eN_ p k) i=coP p i* k:=by
 induction p generalizing i with
 |nil=>show(0:Rat)=0* k;grind
 |cons a p ih=>
  cases i with
  |zero=>rfl
  |succ i=>exact ih i
theorem eo_(p q:List Rat)(x:Rat):evalP (addL p q) x=evalP p x+evalP q x:=by
 induction p generalizing q with
 |nil=>rw[addL,aZ_];grind
 |cons a p ih=>
  cases q with
  |nil=>rw[addL,aZ_]; · grind
        intro h;cases h
  |cons b q=>rw[addL,aE_,aE_,aE_,ih];grind
theorem eb_(p:List Rat)(k x:Rat):evalP (eN_ p k) x=evalP p x* k:=by
 induction p with
 |nil=>show(0:Rat)=0* k;grind
 |cons a p ih=>show evalP (eN_ p k) x* x+a* k=_;rw[ih,aE_];grind
theorem hr_(p q:List Rat)(x:Rat):evalP (mulL p q) x=evalP p x* evalP q x:=by
 induction p with
 |nil=>show(0:Rat)=0* _;grind
 |cons a p ih=>rw[mulL,eo_,eb_,aE_,ih,aE_];grind
theorem bM_(p q:List Rat)(x:Rat):evalP (addP p q) x=evalP p x+evalP q x:=by
 rw[←eo_];exact cg_ (fun i=>by rw[d0_,cV_]) x
theorem aS_(p:List Rat)(k x:Rat):evalP (aJ_ p k) x=evalP p x* k:=by
 rw[←eb_];exact cg_ (fun i=>by rw[bp_,cv_]) x
theorem bL_(p q:List Rat)(x:Rat):evalP (subP p q) x=evalP p x- evalP q x:=by
 unfold subP;rw[bM_,aS_];grind
theorem i3_(a x:Rat):evalP (dY_ a) x=a:=by
 rw[dY_,bs_];show 0* x+a=a;grind
def convP(p q:List Rat):Nat→Nat→Rat
 |0,_=>0
 |i+1,n=>convP p q i n+(if i≤n then coP p i* coP q (n- i) else 0)
theorem oQ_(o:List Rat)(a:Rat)(q:List Rat)(i:Nat)(h:∀k,k< q.length→i+k< o.length):∀k n,k≤q.length→coP (rowP o a q i k) n=coP o n+(if i≤n∧n< i+k then a* coP q (n- i) else 0)
 |0,n,_=>by rw[if_neg (by omega)];show coP o n=_;grind
 |k+1,n,hk=>by
  rw[rowP,jf_,mR_]
  by_cases hn:n=i+k
  subst hn
  rw[if_pos ⟨rfl,h k (by omega)⟩,ko_ o a q i k (i+k) (by omega),if_pos (by omega),show i+k- i=k by omega]
  rw[if_neg (by omega),oQ_ o a q i h k n (by omega)]
  by_cases h2:i≤n∧n< i+k
  rw[if_pos h2,if_pos (by omega)]
  rw[if_neg h2,if_neg (by omega)]
theorem oS_(p q:List Rat)(n:Nat):∀i,i≤p.length→coP (mulR p q i) n=convP p q i n
 |0,_=>by
  show coP (List.replicate _ 0) n=0
  unfold coP
  rw[List.getD_eq_getElem?_getD,List.getElem?_replicate]
  split <;> rfl
 |i+1,hi=>by
  have ih:=oS_ p q n i (by omega)
  rw[mulR,convP]
  split
  ·rename_i h0
   rw[ih,h0]
   split <;> grind
  rw[oQ_ _ _ _ _ (fun k hk=>by rw[iC_];omega) _ _ (Nat.le_refl _),ih]
  congr 1
  by_cases h1:i≤n
  rw[if_pos h1]
  by_cases h2:n< i+q.length
  rw[if_pos ⟨h1,h2⟩]
  rw[if_neg (by omega),cn_ (p:=q) (by omega)];grind
  rw[if_neg (by omega),if_neg h1]
theorem j8_(a:Rat)(p q:List Rat)(n:Nat):∀i,convP (a::p) q (i+1) n=a* coP q n+(match n with|0=>0|m+1=>convP p q i m)
 |0=>by
  show(0:Rat)+(if 0≤n then coP (a::p) 0* coP q (n- 0) else 0)=_
  rw[if_pos (Nat.zero_le _),cm_,Nat.sub_zero]
  cases n <;> simp[convP,Rat.add_zero,Rat.zero_add]
 |i+1=>by
  rw[convP,j8_ a p q n i]
  cases n with
  |zero=>rw[if_neg (by omega)];show a* coP q 0+0+0=a* coP q 0+0;grind
  |succ m=>
   show a* coP q (m+1)+convP p q i m+_=a* coP q (m+1)+(convP p q i m+_)
   by_cases h:i≤m
   rw[if_pos (by omega),if_pos h,bQ_,show m+1- (i+1)=m- i by omega];grind
   rw[if_neg (by omega),if_neg h];grind
theorem kZ_(p q:List Rat)(n:Nat):coP (mulL p q) n=convP p q p.length n:=by
 induction p generalizing n with
 |nil=>rfl
 |cons a p ih=>
  rw[mulL,cV_,cv_,List.length_cons,j8_]
  cases n with
  |zero=>rw[cm_];grind
  |succ m=>rw[bQ_,ih];grind
theorem ga_(p q:List Rat)(n:Nat):coP (mulP p q) n=coP (mulL p q) n:=by
 unfold mulP
 split
 ·rename_i h
  rcases h with rfl|rfl
  rfl
  rw[kZ_]
  have:∀i,convP p [] i n=0:=by
   intro i
   induction i with
   |zero=>rfl
   |succ i ih=>rw[convP,ih,f9_];split <;> grind
  rw[this];rfl
 rw[bm_,oS_ _ _ _ _ (Nat.le_refl _),kZ_]
theorem aL_(p q:List Rat)(x:Rat):evalP (mulP p q) x=evalP p x* evalP q x:=by
 rw[←hr_];exact cg_ (ga_ p q) x
def synD:List Rat→Rat→List Rat
 |[],_=>[]
 |[_],_=>[]
 |_::b::l,r=>evalP (b::l) r::synD (b::l) r
theorem eg_(p:List Rat)(r x:Rat):evalP p x=evalP (synD p r) x* (x- r)+evalP p r:=by
 induction p with
 |nil=>show(0:Rat)=0* _+0;grind
 |cons a l ih=>
  cases l with
  |nil=>show 0* x+a=0* (x- r)+(0* r+a);grind
  |cons b l=>
   rw[synD,aE_ a,aE_ a,aE_ (evalP (b::l) r),ih];grind
theorem synD_len(p:List Rat)(r:Rat):(synD p r).length=p.length- 1:=by
 induction p with
 |nil=>rfl
 |cons a l ih=>
  cases l with
  |nil=>rfl
  |cons b l=>rw[synD,List.length_cons,ih];simp
theorem jI_:∀(n:Nat) (p xs:List Rat),p.length≤n→n≤xs.length→xs.Nodup→(∀x∈xs,evalP p x=0)→∀x,evalP p x=0
 |0,p,_,hp,_,_,_,x=>by
  have:p=[]:=List.length_eq_zero_iff.1 (by omega)
  rw[this];rfl
 |n+1,p,xs,hp,hx,hnd,hz,x=>by
  cases xs with
  |nil=>simp at hx
  |cons r xs=>
   rw[List.nodup_cons] at hnd
   have hr:=hz r (List.mem_cons_self ..)
   have ih:=jI_ n (synD p r) xs (by rw[synD_len];omega) (by simp at hx;omega) hnd.2 fun y hy=>by
    have h1:=eg_ p r y
    rw[hz y (List.mem_cons_of_mem _ hy),hr] at h1
    have hne:y- r≠0:=fun h=>hnd.1 (by have:y=r:=by grind
                                      rw[←this];exact hy)
    have h2:evalP (synD p r) y* (y- r)=0:=by grind
    rcases Rat.mul_eq_zero.1 h2 with h3|h3
    exact h3
    exact absurd h3 hne
   rw[eg_ p r x,ih,hr];grind
theorem hI_{p:List Rat}(h:∀x,evalP p x=0):∀i,coP p i=0:=by
 induction p with
 |nil=>intro i;rfl
 |cons a p ih=>
  have ha:a=0:=by
   have:=h 0
   rw[aE_] at this;grind
  have hp:∀x,evalP p x=0:=by
   -- at all places but 0,so at all
   refine jI_ p.length p ((List.range p.length).map fun i=>(((i+1:Nat):Int):Rat)) (Nat.le_refl _) (by simp) ?_ ?_
   refine List.Pairwise.map _ (fun i j hij=>?_) List.nodup_range
   intro e
   apply hij
   have:=Rat.intCast_inj.1 e
   omega
   intro x hx
   obtain⟨i,_,rfl⟩:=List.mem_map.1 hx
   have h1:=h (((i+1:Nat):Int):Rat)
   rw[aE_,ha] at h1
   have h2:evalP p (((i+1:Nat):Int):Rat) * (((i+1:Nat):Int):Rat)=0:=by grind
   rcases Rat.mul_eq_zero.1 h2 with h3|h3
   exact h3
   have:=Rat.intCast_inj.1 (h3.trans Rat.intCast_zero.symm);omega
  intro i
  cases i with
  |zero=>exact ha
  |succ i=>exact ih hp i
theorem fD_{p q:List Rat}(h:∀x,evalP p x=evalP q x):trimQ p=trimQ q:=by
 refine ev_ fun i=>?_
 have:=hI_ (p:=subP p q) (fun x=>by rw[bL_,h];grind) i
 rw[fl_] at this;grind
theorem gp_(p q:List Rat)(hp:p≠[]):(mulP p q).length≤p.length+q.length- 1:=by
 unfold mulP
 split
 simp
 have:=a2_ (mulR p q p.length)
 rwa[iC_] at this
def dvE:List Rat→Rat→Rat
 |[],_=>0
 |_::l,x=>evalP l x+dvE l x* x
theorem cl_(a:Rat)(l:List Rat)(x:Rat):dvE (a::l) x=evalP l x+dvE l x* x:=rfl
theorem oK_{p:List Rat}(h:∀i,coP p i=0)(x:Rat):dvE p x=0:=by
 induction p with
 |nil=>rfl
 |cons a p ih=>rw[cl_,ih fun i=>h (i+1),en_ fun i=>h (i+1)];grind
theorem ns_{p q:List Rat}(h:∀i,coP p i=coP q i)(x:Rat):dvE p x=dvE q x:=by
 induction p generalizing q with
 |nil=>exact(oK_ (fun i=>(h i).symm) x).symm
 |cons a p ih=>
  cases q with
  |nil=>exact oK_ h x
  |cons b q=>rw[cl_,cl_,ih (q:=q) fun i=>h (i+1),cg_ (q:=q) fun i=>h (i+1)]
theorem oM_(p q:List Rat)(x:Rat):dvE (addL p q) x=dvE p x+dvE q x:=by
 induction p generalizing q with
 |nil=>rw[addL];show dvE q x=0+dvE q x;grind
 |cons a p ih=>
  cases q with
  |nil=>rw[addL]; · show _=_+(0:Rat);grind
        intro h;cases h
  |cons b q=>rw[addL,cl_,cl_,cl_,ih,eo_];grind
theorem pK_(p:List Rat)(k x:Rat):dvE (eN_ p k) x=dvE p x* k:=by
 induction p with
 |nil=>show(0:Rat)=0* k;grind
 |cons a p ih=>show evalP (eN_ p k) x+dvE (eN_ p k) x* x=_;rw[ih,cl_,eb_];grind
theorem dvE_mulL(p q:List Rat)(x:Rat):dvE (mulL p q) x=dvE p x* evalP q x+evalP p x* dvE q x:=by
 induction p with
 |nil=>show(0:Rat)=0* _+0* _;grind
 |cons a p ih=>rw[mulL,oM_,pK_,cl_,cl_,ih,hr_,aE_];grind
def derL:List Rat→List Rat
 |[]=>[]
 |_::l=>addL l (0::derL l)
theorem pJ_(p:List Rat)(x:Rat):evalP (derL p) x=dvE p x:=by
 induction p with
 |nil=>rfl
 |cons a p ih=>rw[derL,eo_,aE_,ih,cl_];grind
theorem coP_derL(p:List Rat)(i:Nat):coP (derL p) i=coP p (i+1) * ((i+1:Nat):Int):=by
 induction p generalizing i with
 |nil=>show(0:Rat)=0* _;grind
 |cons a p ih=>
  rw[derL,cV_,bQ_]
  cases i with
  |zero=>rw[cm_];simp;grind
  |succ i=>rw[bQ_,ih];simp only[Int.natCast_add,Rat.intCast_add];grind
theorem hJ_(p:List Rat)(x:Rat):evalP (aY_ p) x=dvE p x:=by
 rw[←pJ_];exact cg_ (fun i=>by rw[ch_,coP_derL]) x
theorem dvE_mul(p q:List Rat)(x:Rat):dvE (mulP p q) x=dvE p x* evalP q x+evalP p x* dvE q x:=by
 rw[←dvE_mulL];exact ns_ (ga_ p q) x
theorem jb_(p:List Rat):trimQ (aY_ (aK_ p))=trimQ p:=ev_ fun i=>by
 rw[ch_,bC_,if_neg (by omega),Nat.add_sub_cancel]
 have h:(((i+1:Nat):Int):Rat)≠0:=by
  intro e
  have h1:((i+1:Nat):Int)=0:=Rat.intCast_inj.1 (e.trans Rat.intCast_zero.symm)
  omega
 grind
theorem dj_(q:List Rat)(x:Rat):∀p,evalP (compP q p) x=evalP p (evalP q x)
 |[]=>rfl
 |a::p=>by rw[compP,bM_,aL_,i3_,dj_ q x p,aE_]
theorem mk_(o:List Rat)(x v:Rat):∀j,j< o.length→evalP (o.set j v) x=evalP o x+(v- coP o j) * x^ j:=by
 induction o with
 |nil=>intro j h;cases h
 |cons a o ih=>
  intro j h
  cases j with
  |zero=>rw[List.set_cons_zero,aE_,aE_,cm_,Rat.pow_zero];grind
  |succ j=>rw[List.set_cons_succ,aE_,aE_,bQ_,ih j (by simpa using h),Rat.pow_succ];grind
theorem di_(q:List Rat)(x:Rat)(m:Nat)(h:m< q.length):evalP (q.take (m+1)) x=evalP (q.take m) x+coP q m* x^ m:=by
 induction q generalizing m with
 |nil=>cases h
 |cons a q ih=>
  cases m with
  |zero=>rw[List.take_succ_cons,List.take_zero,List.take_zero,cm_,Rat.pow_zero,aE_];show 0* x+a=0+a* 1;grind
  |succ m=>rw[List.take_succ_cons,List.take_succ_cons,aE_,aE_,bQ_,ih m (by simpa using h),Rat.pow_succ];grind
theorem is_(x:Rat)(n:Nat):∀m,x^ (n+m)=x^ n* x^ m
 |0=>by rw[Nat.add_zero,Rat.pow_zero];grind
 |m+1=>by rw[←Nat.add_assoc,Rat.pow_succ,Rat.pow_succ,is_ x n m];grind
theorem j5_(o:List Rat)(k:Rat)(q:List Rat)(n:Nat)(x:Rat)(h:n+q.length≤o.length):∀m,m≤q.length→evalP (rowM o k q n m) x=evalP o x- k* x^ n* evalP (q.take m) x
 |0,_=>by rw[rowM,List.take_zero];show _=_- _* 0;grind
 |m+1,hm=>by
  rw[rowM,subAt,mk_ _ _ _ _ (by rw[dg_];omega),j5_ o k q n x h m (by omega),di_ q x m (by omega),is_]
  grind
theorem coP_rowM(o:List Rat)(k:Rat)(q:List Rat)(n m:Nat)(hm:m< q.length)(h:n+q.length≤o.length):coP (rowM o k q n q.length) (n+m)=coP o (n+m)- k* coP q m:=by
 have:∀j,m< j→j≤q.length→coP (rowM o k q n j) (n+m)=coP o (n+m)- k* coP q m:=by
  intro j
  induction j with
  |zero=>intro h;omega
  |succ j ih=>
   intro h1 h2
   rw[rowM,gG_]
   by_cases e:m=j
   subst e
   rw[if_pos ⟨rfl,by rw[dg_];omega⟩,gj_ o k q n m (n+m) (by omega)]
   rw[if_neg (by omega)]
   exact ih (by omega) (by omega)
 exact this q.length hm (Nat.le_refl _)
theorem mo_(q:List Rat)(lead:Rat)(hq:q≠[])(hl:coP q (q.length- 1)=lead)(hl0:lead≠0)(x:Rat):∀c u o,(∀i,i< c→coP u i=0)→c≤u.length→c+q.length≤o.length+1→(∀j,c+q.length- 1≤j→coP o j=0)→
    evalP (divR q lead c u o).1 x* evalP q x+evalP (divR q lead c u o).2 x=evalP u x* evalP q x+evalP o x∧∀j,q.length- 1≤j→coP (divR q lead c u o).2 j=0
 |0,u,o,_,_,_,h4=>⟨rfl,fun j hj=>h4 j (by omega)⟩
 |n+1,u,o,h1,h2,h3,h4=>by
  have hlen:=List.length_pos_iff.2 hq
  rw[divR]
  obtain⟨k,hk⟩:∃k,k=coP o (n+q.length- 1) / lead:=⟨_,rfl⟩
  rw[←hk]
  have hkl:k* lead=coP o (n+q.length- 1):=by rw[hk];grind
  have hu:coP u n=0:=h1 n (by omega)
  have ho:evalP (if k=0 then o else rowM o k q n q.length) x=evalP o x- k* x^ n* evalP q x:=by
   by_cases h0:k=0
   rw[if_pos h0,h0];grind
   rw[if_neg h0,j5_ o k q n x (by omega) _ (Nat.le_refl _),List.take_length]
  obtain⟨e1,e2⟩:=mo_ q lead hq hl hl0 x n (u.set n k) (if k=0 then o else rowM o k q n q.length) (fun i hi=>by
   rw[kY_,if_neg (by omega)];exact h1 i (by omega)) (by simp;omega) (by split <;>(try simp)<;> omega) (fun j hj=>by
   by_cases h0:k=0
   rw[if_pos h0]
   by_cases hj':j=n+q.length- 1
   rw[hj',←hkl,h0];grind
   exact h4 j (by omega)
   rw[if_neg h0]
   by_cases hj':j=n+q.length- 1
   have:=coP_rowM o k q n (q.length- 1) (by omega) (by omega)
   rw[hj',show n+q.length- 1=n+(q.length- 1) by omega,this,hl,hkl,show n+(q.length- 1)=n+q.length- 1 by omega];grind
   rw[gj_ o k q n q.length j (by omega)]
   exact h4 j (by omega))
  refine⟨?_,e2⟩
  rw[e1,ho,mk_ u x k n (by omega),hu]
  grind
theorem hB_{p:List Rat}{n:Nat}(h:∀j,n≤j→coP p j=0):(trimQ p).length≤n:=by
 apply Nat.le_of_not_lt
 intro hn
 have h1:=bH_ (l:=p) (n:=(trimQ p).length- 1) (by omega)
 have h2:trimQ p≠[]:=fun e=>by rw[e] at hn;simp at hn
 have h3:=h ((trimQ p).length- 1) (by omega)
 rw[←bm_] at h3
 unfold coP at h3
 rw[List.getD_eq_getElem?_getD,h1] at h3
 exact b9_ h2 h3
theorem fj_(p q:List Rat)(hq:trimQ q≠[]):(∀x,evalP (divP p q).1 x* evalP q x+evalP (divP p q).2 x=evalP p x)∧(trimQ (divP p q).2).length< (trimQ q).length:=by
 have hlen:=List.length_pos_iff.2 hq
 have hl:coP (trimQ q) ((trimQ q).length- 1)=leadP q:=by
  have:=bH_ (l:=q) (n:=(trimQ q).length- 1) (by omega)
  unfold coP;rw[List.getD_eq_getElem?_getD,this];rfl
 have hz:∀i m,coP (List.replicate m 0) i=0:=fun i m=>by
  unfold coP
  rw[List.getD_eq_getElem?_getD,List.getElem?_replicate]
  split <;> rfl
 have key:=fun x (h:(trimQ q).length≤(trimQ p).length+1)=>mo_ (trimQ q) (leadP q) hq hl (b9_ hq) x ((trimQ p).length+1- (trimQ q).length) (List.replicate ((trimQ p).length+1- (trimQ q).length) 0) (trimQ p)
  (fun i _=>hz i _) (by simp) (by omega) (fun j hj=>cn_ (by omega))
 by_cases h:(trimQ q).length≤(trimQ p).length+1
 refine⟨fun x=>?_,?_⟩
 have e:=(key x h).1
 unfold divP
 simp only
 rw[bs_,bs_,←bs_ q,e,en_ (fun i=>hz i _),bs_ p];grind
 have e:=(key 0 h).2
 unfold divP
 simp only
 rw[bc_]
 have:=hB_ e
 omega
 unfold divP
 simp only
 rw[show(trimQ p).length+1- (trimQ q).length=0 by omega]
 refine⟨fun x=>?_,?_⟩
 rw[divR,bs_,bs_,bs_];show 0* _+_=_;grind
 rw[divR];simp only;rw[bc_,bc_];omega
section
variable (p q r:List Rat)(a b:Rat)
end
def ab(x:Rat):Rat:=if x< 0 then -x else x
theorem ab_nn(x:Rat):0≤ab x:=by unfold ab;split <;> grind
theorem ab_le{x c:Rat}:ab x≤c↔ -c≤x∧x≤c:=by unfold ab;split <;> grind
theorem pc_(x y:Rat):ab (x+y)≤ab x+ab y:=by unfold ab;split <;> split <;> split <;> grind
theorem ab_neg(x:Rat):ab (-x)=ab x:=by unfold ab;split <;> split <;> grind
theorem gS_(x y:Rat):ab (x* y)=ab x* ab y:=by
 have key:∀a b:Rat,0≤a→0≤b→ab (a* b)=a* b:=fun a b ha hb=>by
  have:=Rat.mul_nonneg ha hb
  unfold ab;rw[if_neg (by grind)]
 by_cases hx:x< 0
 by_cases hy:y< 0
 have:=key (-x) (-y) (by grind) (by grind)
 rw[show x* y= -x* -y by grind,this]
 unfold ab;rw[if_pos hx,if_pos hy]
 have:=key (-x) y (by grind) (by grind)
 rw[show x* y= -(-x* y) by grind,ab_neg,this]
 unfold ab;rw[if_pos hx,if_neg hy]
 by_cases hy:y< 0
 have:=key x (-y) (by grind) (by grind)
 rw[show x* y= -(x* -y) by grind,ab_neg,this]
 unfold ab;rw[if_neg hx,if_pos hy]
 have:=key x y (by grind) (by grind)
 rw[this]
 unfold ab;rw[if_neg hx,if_neg hy]
theorem fx_{a b c d:Rat}(h1:a≤b)(h2:c≤d)(h3:0≤c)(h4:0≤b):a* c≤b* d:=by
 have e1:=Rat.mul_le_mul_of_nonneg_right h1 h3
 have e2:=Rat.mul_le_mul_of_nonneg_left h2 h4
 grind
def bV(R:Rat):List Rat→Rat
 |[]=>0
 |a::l=>bV R l* R+ab a
theorem bV_nn{R:Rat}(hR:0≤R):∀l,0≤bV R l
 |[]=>by simp[bV]
 |a::l=>by
  have h1:=Rat.mul_nonneg (bV_nn hR l) hR
  have h2:=ab_nn a
  rw[bV];grind
theorem gC_{R x:Rat}(hR:0≤R)(hx:ab x≤R):∀l,ab (evalP l x)≤bV R l
 |[]=>by rw[aZ_,bV];decide
 |a::l=>by
  have h1:=gC_ hR hx l
  have h2:=fx_ h1 hx (ab_nn x) (bV_nn hR l)
  have h3:=pc_ (evalP l x* x) a
  rw[gS_] at h3
  rw[aE_,bV];grind
def bL(R:Rat):List Rat→Rat
 |[]=>0
 |_::l=>bL R l* R+bV R l
theorem bL_nn{R:Rat}(hR:0≤R):∀l,0≤bL R l
 |[]=>by simp[bL]
 |a::l=>by
  have h1:=Rat.mul_nonneg (bL_nn hR l) hR
  have h2:=bV_nn hR l
  rw[bL];grind
theorem i2_{R x y:Rat}(hR:0≤R)(hx:ab x≤R)(hy:ab y≤R):∀l,ab (evalP l y- evalP l x)≤bL R l* ab (y- x)
 |[]=>by
  rw[aZ_,aZ_,bL,Rat.zero_mul]
  decide+kernel
 |a::l=>by
  have h1:=i2_ hR hx hy l
  have h2:=gC_ hR hx l
  have e:evalP (a::l) y- evalP (a::l) x=(evalP l y- evalP l x) * y+evalP l x* (y- x):=by rw[aE_,aE_];grind
  have h3:=pc_ ((evalP l y- evalP l x) * y) (evalP l x* (y- x))
  rw[gS_,gS_] at h3
  have hd:=ab_nn (y- x)
  have h4:=fx_ h1 hy (ab_nn y) (Rat.mul_nonneg (bL_nn hR l) hd)
  have h5:=Rat.mul_le_mul_of_nonneg_right h2 hd
  rw[e,bL];grind
def bT(R:Rat):List Rat→Rat
 |[]=>0
 |_::l=>bT R l* R+bL R l
theorem bT_nn{R:Rat}(hR:0≤R):∀l,0≤bT R l
 |[]=>by simp[bT]
 |a::l=>by
  have h1:=Rat.mul_nonneg (bT_nn hR l) hR
  have h2:=bL_nn hR l
  rw[bT];grind
theorem mj_{R x y:Rat}(hR:0≤R)(hx:ab x≤R)(hy:ab y≤R):∀l,ab (evalP l y- evalP l x- (y- x) * dvE l x)≤bT R l* (ab (y- x) * ab (y- x))
 |[]=>by
  rw[aZ_,aZ_,bT,show dvE [] x=0 from rfl,Rat.zero_mul,Rat.mul_zero]
  decide+kernel
 |a::l=>by
  have h1:=mj_ hR hx hy l
  have h2:=i2_ hR hx hy l
  have e:evalP (a::l) y- evalP (a::l) x- (y- x) * dvE (a::l) x=(evalP l y- evalP l x- (y- x) * dvE l x) * x+(evalP l y- evalP l x) * (y- x):=by rw[aE_,aE_,cl_];grind
  have h3:=pc_ ((evalP l y- evalP l x- (y- x) * dvE l x) * x) ((evalP l y- evalP l x) * (y- x))
  rw[gS_,gS_] at h3
  have hd:=ab_nn (y- x)
  have h4:=fx_ h1 hx (ab_nn x) (Rat.mul_nonneg (bT_nn hR l) (Rat.mul_nonneg hd hd))
  have h5:=Rat.mul_le_mul_of_nonneg_right h2 hd
  rw[e,bT];grind
inductive Gsn:Int→List Int→List Int→Prop
 |nil {t:Int}:Gsn t [] []
 |solid {t s:Int} {l l':List Int}:s≠0→Gsn s l l'→Gsn t (s::l) (s::l')
 |weak {t x y:Int} {l l':List Int}:(x=0∨x=t∨x= -t)→(y=0∨y=t∨y= -t)→Gsn (-t) l l'→Gsn t (x:: -t::l) (y:: -t::l')
theorem jj_:∀(l:List Int) (n t:Int),chL l n t=n+chL l 0 t
 |[],n,t=>by simp[chL]
 |s::l,n,t=>by
  unfold chL
  by_cases hs:s≠0
  rw[if_pos hs,if_pos hs,jj_ l (if s= -t then n+1 else n),jj_ l (if s= -t then 0+1 else 0)]
  split <;> omega
  rw[if_neg hs,if_neg hs]
  exact jj_ l n t
theorem oT_{t x:Int}(ht:t≠0)(hx:x=0∨x=t∨x= -t)(l:List Int)(n:Int):chL (x:: -t::l) n t=chL l (n+1) (-t):=by
 rcases hx with rfl|rfl|rfl
 rw[chL,if_neg (by simp),chL,if_pos (by omega),if_pos rfl]
 rw[chL,if_pos ht,if_neg (by omega),chL,if_pos (by omega),if_pos rfl]
 rw[chL,if_pos (by omega),if_pos rfl,chL,if_pos (by omega),if_neg (by omega)]
theorem oV_{t:Int}{l l':List Int}(h:Gsn t l l'):t≠0→∀n,chL l n t=chL l' n t:=by
 induction h with
 |nil=>exact fun _ _=>rfl
 |solid hs _ ih=>
  intro ht n
  rw[chL,if_pos hs,chL,if_pos hs]
  exact ih hs _
 |weak hx hy _ ih=>
  intro ht n
  rw[oT_ ht hx,oT_ ht hy]
  exact ih (by omega) _
theorem oU_{s:Int}{l l':List Int}(hs:s≠0)(h:Gsn s l l'):chL (s::l) 0 0=chL (s::l') 0 0:=by
 rw[chL,if_pos hs,chL,if_pos hs]
 exact oV_ h hs _
theorem oW_{s s' t:Int}{l l':List Int}(ht:t=1∨t= -1)(hs: -1≤s∧s≤1)(hs': -1≤s'∧s'≤1)(hm:t* s≤t* s')(h:Gsn t l l'):chL (s'::t::l') 0 0≤chL (s::t::l) 0 0:=by
 have ht0:t≠0:=by omega
 have key:∀(u:Int) (k:List Int),-1≤u∧u≤1→chL (u::t::k) 0 0=(if u= -t then 1 else 0)+chL k 0 t:=fun u k hu=>by
  by_cases h0:u=0
  subst h0
  rw[chL,if_neg (by simp),chL,if_pos ht0,if_neg (by omega),if_neg (by omega)]
  omega
  rw[chL,if_pos h0,if_neg (by omega),chL,if_pos ht0,jj_]
  by_cases h1:u= -t
  rw[if_pos (by omega),if_pos h1];omega
  rw[if_neg (by omega),if_neg h1]
 rw[key s l hs,key s' l' hs',oV_ h ht0 0]
 rcases ht with rfl|rfl <;> split <;> split <;> omega
theorem num_pos{q:Rat}:0< q.num↔0< q:=by
 have h1:=hk_ q
 have h2:0≤q.num↔0≤q:=Rat.num_nonneg
 have h3:q.num=0↔q=0:=Rat.num_eq_zero
 constructor
 intro h
 have a:=h2.1 (by omega)
 have b:q≠0:=fun e=>by have:=h3.2 e;omega
 grind
 intro h
 have a:=h2.2 (by grind)
 have b:q.num≠0:=fun e=>by have:=h3.1 e;grind
 omega
theorem ij_{q:List Rat}{x:Rat}(h:0< evalP q x):sgE x q=1:=by
 have:=sgZ_num_gt.2 h
 have:=gZ_ (evalP q x).num
 unfold sgE;omega
theorem mN_{q:List Rat}{x:Rat}(h:evalP q x< 0):sgE x q= -1:=by
 have:=sgZ_num_lt.2 h
 have:=gZ_ (evalP q x).num
 unfold sgE;omega
theorem nQ_{q:List Rat}{x:Rat}(h:evalP q x=0):sgE x q=0:=sgZ_num_eq.2 h
theorem ej_(x:Rat)(q:List Rat): -1≤sgE x q∧sgE x q≤1:=gZ_ _
theorem dO_(x:Rat)(q:List Rat):(sgE x q=1∧0< evalP q x)∨(sgE x q= -1∧evalP q x< 0)∨(sgE x q=0∧evalP q x=0):=by
 by_cases h:0< evalP q x
 exact .inl ⟨ij_ h,h⟩
 by_cases h':evalP q x< 0
 exact .inr (.inl ⟨mN_ h',h'⟩)
 have e:evalP q x=0:=by grind
 exact .inr (.inr ⟨nQ_ e,e⟩)
theorem nR_{q:List Rat}{x y:Rat}(h:evalP q x≤evalP q y):sgE x q≤sgE y q:=by
 rcases dO_ x q with⟨a,b⟩|⟨a,b⟩|⟨a,b⟩
 rw[a,ij_ (by grind)];decide
 have:=ej_ y q;omega
 by_cases h0:0< evalP q y
 rw[a,ij_ h0];decide
 rw[a,nQ_ (by grind)];decide
theorem part(e:Rat){d:Rat}(he:0< e)(hd:0< d):∃h:Rat,0< h∧h* d=e:=by
 refine⟨e/ d,?_,Rat.div_mul_cancel (by grind)⟩
 have e1:e/ d* d=e:=Rat.div_mul_cancel (by grind)
 by_cases h:0< e/ d
 exact h
 have h2:e/ d* d≤0* d:=Rat.mul_le_mul_of_nonneg_right (by grind) (by grind)
 rw[Rat.zero_mul] at h2
 grind
theorem less(a b:Rat)(ha:0< a)(hb:0< b):∃h:Rat,0< h∧h≤a∧h≤b:=by
 by_cases h:a≤b
 exact⟨a,ha,by grind,h⟩
 exact⟨b,hb,by grind,by grind⟩
theorem keep(u:List Rat){R e:Rat}(hR:0≤R)(he:0< e):∃h:Rat,0< h∧∀x y:Rat,ab x≤R→ab y≤R→ab (y- x)≤h→e≤ab (evalP u x)→sgE y u=sgE x u∧sgE x u≠0:=by
 have hL:=bL_nn hR u
 obtain⟨h,h0,h1⟩:=part e (d:=2* (bL R u+1)) he (by grind)
 refine⟨h,h0,fun x y hx hy hd ha=>?_⟩
 have h2:=i2_ hR hx hy u
 have h3:=Rat.mul_le_mul_of_nonneg_left hd hL
 have h4:ab (evalP u y- evalP u x)< e:=by grind
 have h5:=ab_le (x:=evalP u y- evalP u x) (c:=ab (evalP u y- evalP u x))|>.1 (by grind)
 rcases dO_ x u with⟨a,b⟩|⟨a,b⟩|⟨a,b⟩
 have h6:ab (evalP u x)=evalP u x:=by unfold ab;rw[if_neg (by grind)]
 rw[a,ij_ (by grind)];decide
 have h6:ab (evalP u x)= -evalP u x:=by unfold ab;rw[if_pos b]
 rw[a,mN_ (by grind)];decide
 have h6:ab (evalP u x)=0:=by rw[b];decide
 grind
inductive Ch:List Rat→List (List Rat)→Prop
 |one {u:List Rat} {c:Rat}:c≠0→(∀x,evalP u x=c)→Ch u []
 |pair {u v:List Rat}:Ch v []→Ch u [v]
 |step {u v w:List Rat} {L:List (List Rat)} {a c:Rat} {q:List Rat}:0< a→0< c→(∀x,a* evalP u x+c* evalP w x=evalP q x* evalP v x)→Ch v (w::L)→Ch u (v::w::L)
def Cl(u:List Rat)(L:List (List Rat)):Prop:=∀R e:Rat,0≤R→0< e→∃h:Rat,0< h∧∀x y:Rat,ab x≤R→ab y≤R→ab (y- x)≤h→e≤ab (evalP u x)→
 sgE y u=sgE x u∧sgE x u≠0∧Gsn (sgE x u) (L.map (sgE x)) (L.map (sgE y))
theorem Ch.const{v:List Rat}(h:Ch v []):∃c:Rat,c≠0∧∀x,evalP v x=c:=by
 cases h with
 |one hc h=>exact⟨_,hc,h⟩
theorem Ch.sg{v:List Rat}(h:Ch v [])(x y:Rat):sgE y v=sgE x v∧sgE x v≠0:=by
 obtain⟨c,hc,h⟩:=h.const
 have e:sgE y v=sgE x v:=by unfold sgE;rw[h,h]
 refine⟨e,?_⟩
 rcases dO_ x v with⟨a,b⟩|⟨a,b⟩|⟨a,b⟩
 omega
 omega
 rw[h] at b;exact absurd b hc
theorem Ch.cl{u:List Rat}{L:List (List Rat)}(H:Ch u L):Cl u L∧∀v L',L=v::L'→Cl v L':=by
 induction H with
 | @one u c hc hu=>
  refine⟨fun R e hR he=>?_,fun _ _ h=>by cases h⟩
  obtain⟨h,h0,h1⟩:=keep u hR he
  exact⟨h,h0,fun x y hx hy hd ha=>⟨(h1 x y hx hy hd ha).1,(h1 x y hx hy hd ha).2,.nil⟩⟩
 | @pair u v hv ih=>
  refine⟨fun R e hR he=>?_,fun _ _ h=>by cases h;exact ih.1⟩
  obtain⟨h,h0,h1⟩:=keep u hR he
  refine⟨h,h0,fun x y hx hy hd ha=>⟨(h1 x y hx hy hd ha).1,(h1 x y hx hy hd ha).2,?_⟩⟩
  simp only[List.map_cons,List.map_nil]
  rw[(hv.sg x y).1]
  exact .solid (hv.sg x y).2 .nil
 | @step u v w L a c q ha hc hrel hv ih=>
  refine⟨fun R e hR he=>?_,fun _ _ h=>by cases h;exact ih.1⟩
  have hQ:=bV_nn hR q
  have hae:=Rat.mul_pos ha he
  obtain⟨e1,he1,he1'⟩:=part (a* e) (d:=2* (bV R q+1)) hae (by grind)
  obtain⟨e2,he2,he2'⟩:=part (a* e) (d:=2* c) hae (by grind)
  obtain⟨h0,p0,k0⟩:=keep u hR he
  obtain⟨h1,p1,k1⟩:=ih.1 R e1 hR he1
  obtain⟨h2,p2,k2⟩:=ih.2 w L rfl R e2 hR he2
  obtain⟨h3,p3,l3,m3⟩:=less h0 h1 p0 p1
  obtain⟨h,p,l,m⟩:=less h3 h2 p3 p2
  refine⟨h,p,fun x y hx hy hd hu=>?_⟩
  obtain⟨s1,s2⟩:=k0 x y hx hy (by grind) hu
  refine⟨s1,s2,?_⟩
  by_cases hvx:e1≤ab (evalP v x)
  obtain⟨t1,t2,t3⟩:=k1 x y hx hy (by grind) hvx
  simp only[List.map_cons] at t3⊢
  rw[t1]
  exact .solid t2 t3
  have b1:=fx_ (gC_ hR hx q) (show ab (evalP v x)≤e1 by grind) (ab_nn _) hQ
  rw[←gS_,←hrel x] at b1
  have b2:=ab_le.1 b1
  have b3:bV R q* e1+e1=a* e/ 2:=by grind
  have key:sgE x w= -sgE x u∧e2≤ab (evalP w x):=by
   rcases dO_ x u with⟨g1,g2⟩|⟨g1,g2⟩|⟨g1,g2⟩
   have g3:ab (evalP u x)=evalP u x:=by unfold ab;rw[if_neg (by grind)]
   rw[g3] at hu
   have g4:=Rat.mul_le_mul_of_nonneg_left hu (show 0≤a by grind)
   have g5:evalP w x≤ -e2:=by
    by_cases g:evalP w x≤ -e2
    exact g
    have:=Rat.mul_pos hc (show 0< evalP w x+e2 by grind)
    grind
   refine⟨by rw[g1,mN_ (by grind)],?_⟩
   unfold ab;rw[if_pos (by grind)];grind
   have g3:ab (evalP u x)= -evalP u x:=by unfold ab;rw[if_pos g2]
   rw[g3] at hu
   have g4:=Rat.mul_le_mul_of_nonneg_left hu (show 0≤a by grind)
   have g5:e2≤evalP w x:=by
    by_cases g:e2≤evalP w x
    exact g
    have:=Rat.mul_pos hc (show 0< e2- evalP w x by grind)
    grind
   refine⟨by rw[g1,ij_ (by grind)];decide,?_⟩
   unfold ab;rw[if_neg (by grind)];grind
   exact absurd g1 s2
  obtain⟨t1,t2,t3⟩:=k2 x y hx hy (by grind) key.2
  simp only[List.map_cons]
  rw[t1,key.1]
  rw[key.1] at t3
  have c1:=ej_ x u
  have c2:=ej_ x v
  have c3:=ej_ y v
  exact .weak (by omega) (by omega) t3
theorem Ch.bez{u:List Rat}{M:List (List Rat)}(H:Ch u M):∀v L,M=v::L→∃a b:List Rat,∀x,evalP a x* evalP u x+evalP b x* evalP v x=1:=by
 induction H with
 |one hc hu=>exact fun _ _ h=>by cases h
 | @pair u v hv ih=>
  intro v' L h
  cases h
  obtain⟨c,hc,h⟩:=hv.const
  refine⟨[],[1/ c],fun x=>?_⟩
  rw[h,aZ_,aE_,aZ_]
  have:1/ c* c=1:=Rat.div_mul_cancel hc
  grind
 | @step u v w L a c q ha hc hrel hv ih=>
  intro v' L' h
  cases h
  obtain⟨a',b',h⟩:=ih w L rfl
  refine⟨aJ_ b' (-(a/ c)),addP a' (aJ_ (mulP b' q) (1/ c)),fun x=>?_⟩
  rw[aS_,bM_,aS_,aL_]
  have h1:=h x
  have h2:=hrel x
  have h3:1/ c* c=1:=Rat.div_mul_cancel (by grind)
  have h4:a/ c=a* (1/ c):=by grind
  have h5:evalP w x=(1/ c) * (evalP q x* evalP v x- a* evalP u x):=by
   have:evalP w x=(1/ c* c) * evalP w x:=by rw[h3];grind
   rw[this,←h2];grind
  rw[h5] at h1
  rw[h4];grind
theorem arch(c:Rat){h:Rat}(hh:0< h):∃n:Nat,c≤((n:Int):Rat) * h:=by
 by_cases hc:c≤0
 exact⟨0,by rw[show((((0:Nat):Int)):Rat)=0 from rfl,Rat.zero_mul];exact hc⟩
 obtain⟨k,hk,e⟩:=part c (d:=h) (by grind) hh
 refine⟨k.num.natAbs,?_⟩
 have h1:k≤((k.num.natAbs:Int):Rat):=by
  have hn:0< k.num:=num_pos.2 hk
  rw[Rat.le_iff]
  show k.num* 1≤(k.num.natAbs:Int) * (k.den:Int)
  have h3:(k.num.natAbs:Int)=k.num:=by omega
  have h4:=Int.mul_le_mul_of_nonneg_left (show(1:Int)≤(k.den:Int) by have:=k.den_pos;omega) (show 0≤k.num by omega)
  rw[h3];exact h4
 have h5:=Rat.mul_le_mul_of_nonneg_right h1 (show 0≤h by grind)
 grind
theorem grid {f:Rat→Int} (r:Int→Int→Prop) (hr:∀a,r a a) (ht:∀a b c,r a b→r b c→r a c) {lo hi h:Rat} (hh:0< h)
    (hs:∀x y,lo≤x→x≤y→y≤hi→y- x≤h→r (f x) (f y)):∀(n:Nat) (x y:Rat),lo≤x→x≤y→y≤hi→y- x≤((n:Int):Rat) * h→r (f x) (f y)
 |0,x,y,h1,h2,h3,h4=>by
  have:y=x:=by
   rw[show((((0:Nat):Int)):Rat)=0 from rfl,Rat.zero_mul] at h4
   grind
  rw[this];exact hr _
 |n+1,x,y,h1,h2,h3,h4=>by
  by_cases hd:y- x≤h
  exact hs x y h1 h2 h3 hd
  refine ht _ _ _ (hs x (x+h) h1 (by grind) (by grind) (by grind)) (grid r hr ht hh hs n (x+h) y (by grind) (by grind) h3 ?_)
  have e:(((n+1:Nat):Int):Rat)=((n:Int):Rat)+1:=by
   rw[Int.natCast_add,Rat.intCast_add];rfl
  rw[e] at h4
  grind
theorem way {f:Rat→Int} (r:Int→Int→Prop) (hr:∀a,r a a) (ht:∀a b c,r a b→r b c→r a c) {x y h:Rat} (hh:0< h) (hxy:x≤y)
    (hs:∀u v,x≤u→u≤v→v≤y→v- u≤h→r (f u) (f v)):r (f x) (f y):=by
 obtain⟨n,hn⟩:=arch (y- x) hh
 exact grid r hr ht hh hs n x y (by grind) hxy (by grind) hn
def chV(l:List (List Rat))(x:Rat):Int:=chL (l.map (sgE x)) 0 0
theorem ab_in{x y u:Rat}(h1:x≤u)(h2:u≤y):ab u≤ab x+ab y:=by
 have a1:=ab_le (x:=x) (c:=ab x)|>.1 (by grind)
 have a2:=ab_le (x:=y) (c:=ab y)|>.1 (by grind)
 have a3:=ab_nn x
 have a4:=ab_nn y
 exact ab_le.2 ⟨by grind,by grind⟩
theorem ab_sub{u v h:Rat}(h1:u≤v)(h2:v- u≤h):ab (v- u)≤h:=by
 unfold ab;rw[if_neg (by grind)];exact h2
theorem Ch.same{u:List Rat}{L:List (List Rat)}(H:Ch u L){e x y:Rat}(he:0< e)(hxy:x≤y)(ha:∀z,x≤z→z≤y→e≤ab (evalP u z)):chV (u::L) x=chV (u::L) y:=by
 obtain⟨h,h0,h1⟩:=H.cl.1 (ab x+ab y) e (by have:=ab_nn x;have:=ab_nn y;grind) he
 refine way (f:=chV (u::L)) (· = ·) (fun _=>rfl) (fun _ _ _=>Eq.trans) h0 hxy fun z w a b c d=>?_
 obtain⟨s1,s2,s3⟩:=h1 z w (ab_in a (by grind)) (ab_in (by grind) c) (ab_sub b d) (ha z a (by grind))
 unfold chV
 simp only[List.map_cons]
 rw[s1]
 exact oU_ s2 s3
theorem outweigh{k T d uz uw D e v:Rat}(hk:0< k)(h1:k* -T≤k* (uw- uz- d* D))(h2:T* k≤d* e)(h3:d* e≤d* v)(h4:v=k* D):uz≤uw:=by
 subst h4
 by_cases h:uz≤uw
 exact h
 have:=Rat.mul_pos hk (show 0< uz- uw by grind)
 grind
theorem outweigh'{k T d uz uw D e v:Rat}(hk:0< k)(h1:k* (uw- uz- d* D)≤k* T)(h2:T* k≤d* e)(h3:d* e≤d* -v)(h4:v=k* D):uw≤uz:=by
 subst h4
 by_cases h:uw≤uz
 exact h
 have:=Rat.mul_pos hk (show 0< uw- uz by grind)
 grind
theorem Ch.fall{u v:List Rat}{L:List (List Rat)}{k:Rat}(H:Ch u (v::L))(hk:0< k)(hd:∀x,evalP v x=k* dvE u x){x y:Rat}(hxy:x≤y):chV (u::v::L) y≤chV (u::v::L) x:=by
 have hR:0≤ab x+ab y:=by have:=ab_nn x;have:=ab_nn y;grind
 generalize hRe:ab x+ab y=R at hR
 obtain⟨a,b,hb⟩:=H.bez v L rfl
 have hA:=bV_nn hR a
 have hB:=bV_nn hR b
 obtain⟨e,he,he'⟩:=part 1 (d:=2* (bV R a+bV R b+1)) (by decide+kernel) (by grind)
 obtain⟨h1,p1,k1⟩:=H.cl.1 R e hR he
 obtain⟨h2,p2,k2⟩:=H.cl.2 v L rfl R e hR he
 have hT:=bT_nn hR u
 obtain⟨h3,p3,e3⟩:=part e (d:=k* (bT R u+1)) he (Rat.mul_pos hk (by grind))
 obtain⟨h4,p4,l4,m4⟩:=less h1 h2 p1 p2
 obtain⟨h,p,l,m⟩:=less h4 h3 p4 p3
 refine way (f:=chV (u::v::L)) (fun s t=>t≤s) (fun _=>Int.le_refl _) (fun _ _ _ g1 g2=>Int.le_trans g2 g1) p hxy fun z w g1 g2 g3 g4=>?_
 have hz:ab z≤R:=by rw[←hRe];exact ab_in g1 (by grind)
 have hw:ab w≤R:=by rw[←hRe];exact ab_in (by grind) g3
 have hzw:ab (w- z)=w- z:=by unfold ab;rw[if_neg (by grind)]
 by_cases hu:e≤ab (evalP u z)
 obtain⟨s1,s2,s3⟩:=k1 z w hz hw (by grind) hu
 refine Int.le_of_eq ?_
 unfold chV
 simp only[List.map_cons] at s3⊢
 rw[s1]
 exact(oU_ s2 s3).symm
 have hv:e≤ab (evalP v z):=by
  by_cases hv:e≤ab (evalP v z)
  exact hv
  have n1:=fx_ (gC_ hR hz a) (show ab (evalP u z)≤e by grind) (ab_nn _) hA
  have n2:=fx_ (gC_ hR hz b) (show ab (evalP v z)≤e by grind) (ab_nn _) hB
  have n3:=pc_ (evalP a z* evalP u z) (evalP b z* evalP v z)
  rw[hb z,gS_,gS_,show ab 1=1 by decide+kernel] at n3
  grind
 obtain⟨s1,s2,s3⟩:=k2 z w hz hw (by grind) hv
 have htan:=mj_ hR hz hw u
 rw[hzw] at htan
 have ht2:=ab_le.1 htan
 have hvz:=hd z
 -- the derivative outweighs what leaves the tangent
 have small:bT R u* ((w- z) * (w- z)) * k≤(w- z) * e:=by
  have q1:=Rat.mul_le_mul_of_nonneg_right (show w- z≤h3 by grind) (show 0≤w- z by grind)
  have q2:=Rat.mul_le_mul_of_nonneg_left q1 hT
  have q3:=Rat.mul_le_mul_of_nonneg_right q2 (show 0≤k by grind)
  have q4:(w- z) * e=bT R u* (h3* (w- z)) * k+(w- z) * h3* k:=by rw[←e3];grind
  have q5:=Rat.mul_nonneg (Rat.mul_nonneg (show 0≤w- z by grind) (show 0≤h3 by grind)) (show 0≤k by grind)
  grind
 have hwz:0≤w- z:=by grind
 unfold chV
 simp only[List.map_cons]
 rw[s1]
 rcases dO_ z v with⟨c1,c2⟩|⟨c1,c2⟩|⟨c1,c2⟩
 have c3:ab (evalP v z)=evalP v z:=by unfold ab;rw[if_neg (by grind)]
 rw[c3] at hv
 have c4:=Rat.mul_le_mul_of_nonneg_left hv hwz
 have up:evalP u z≤evalP u w:=outweigh hk (Rat.mul_le_mul_of_nonneg_left ht2.1 (by grind)) small c4 hvz
 exact oW_ (.inl c1) (ej_ z u) (ej_ w u) (by rw[c1];have:=nR_ up;omega) s3
 have c3:ab (evalP v z)= -evalP v z:=by unfold ab;rw[if_pos c2]
 rw[c3] at hv
 have c4:=Rat.mul_le_mul_of_nonneg_left hv hwz
 have up:evalP u w≤evalP u z:=outweigh' hk (Rat.mul_le_mul_of_nonneg_left ht2.2 (by grind)) small c4 hvz
 exact oW_ (.inr c1) (ej_ z u) (ej_ w u) (by rw[c1];have:=nR_ up;omega) s3
 exact absurd c1 s2
def nz(p:List Rat):Prop:=trimQ p≠[]
def dg(p:List Rat):Nat:=(trimQ p).length- 1
def md(p q:List Rat):List Rat:=(divP p q).2
def Eqv(p q:List Rat):Prop:=∀x,evalP p x=evalP q x
theorem eqv_trim{p q:List Rat}:Eqv p q↔trimQ p=trimQ q:=
 ⟨fD_,fun h x=>by rw[←bs_ p,h,bs_]⟩
theorem qL_{p q:List Rat}(h:Eqv p q):nz p↔nz q:=by unfold nz;rw[eqv_trim.1 h]
theorem dg_eqv{p q:List Rat}(h:Eqv p q):dg p=dg q:=by unfold dg;rw[eqv_trim.1 h]
theorem lead_eqv{p q:List Rat}(h:Eqv p q):leadP p=leadP q:=by unfold leadP;rw[eqv_trim.1 h]
theorem e5_{p:List Rat}(h:¬nz p):∀x,evalP p x=0:=fun x=>by
 have:trimQ p=[]:=by unfold nz at h;exact Decidable.byContradiction h
 rw[←bs_,this];rfl
def isDeg(p:List Rat)(n:Nat):Prop:=coP p n≠0∧∀i,n< i→coP p i=0
theorem d5_{p:List Rat}(h:nz p):isDeg p (dg p)∧coP p (dg p)=leadP p:=by
 have hl:=List.length_pos_iff.2 h
 have h1:=bH_ (l:=p) (n:=dg p) (by unfold dg;omega)
 have h2:coP p (dg p)=leadP p:=by
  rw[←bm_];unfold coP;rw[List.getD_eq_getElem?_getD,h1];rfl
 refine⟨⟨by rw[h2];exact b9_ h,fun i hi=>?_⟩,h2⟩
 rw[←bm_]
 exact cn_ (by unfold dg at hi;omega)
theorem go_{p:List Rat}{n:Nat}(h:isDeg p n):nz p∧dg p=n∧leadP p=coP p n:=by
 have h0:nz p:=fun e=>h.1 (trim_nil_iff.1 e n)
 obtain⟨h1,h2⟩:=d5_ h0
 have e:dg p=n:=by
  rcases Nat.lt_trichotomy (dg p) n with h3|h3|h3
  exact absurd (h1.2 n h3) h.1
  exact h3
  exact absurd (h.2 _ h3) h1.1
 exact⟨h0,e,by rw[←h2,e]⟩
theorem mw_{p:List Rat}(h:∀i,coP p i=0)(q:List Rat)(k:Nat):coP (mulL p q) k=0:=by
 induction p generalizing k with
 |nil=>rfl
 |cons a p ih=>
  have ha:a=0:=h 0
  rw[mulL,cV_,cv_,ha]
  cases k with
  |zero=>rw[cm_];grind
  |succ k=>rw[bQ_,ih fun i=>h (i+1)];grind
theorem mv_(p q:List Rat):∀(n m:Nat),(∀i,n< i→coP p i=0)→(∀i,m< i→coP q i=0)→coP (mulL p q) (n+m)=coP p n* coP q m∧∀k,n+m< k→coP (mulL p q) k=0:=by
 induction p with
 |nil=>intro n m _ _;exact⟨by show(0:Rat)=0* _;grind,fun _ _=>rfl⟩
 |cons a p ih=>
  intro n m hn hm
  cases n with
  |zero=>
   have h0:∀i,coP p i=0:=fun i=>hn (i+1) (by omega)
   have hk:∀k,coP (mulL (a::p) q) k=coP q k* a:=fun k=>by
    rw[mulL,cV_,cv_]
    cases k with
    |zero=>rw[cm_];grind
    |succ k=>rw[bQ_,mw_ h0];grind
   refine⟨by rw[Nat.zero_add,hk,cm_];grind,fun k hk'=>?_⟩
   rw[hk,hm k (by omega)];grind
  |succ n=>
   obtain⟨h1,h2⟩:=ih n m (fun i hi=>hn (i+1) (by omega)) hm
   have hk:∀k,m< k+1→coP (mulL (a::p) q) (k+1)=coP (mulL p q) k:=fun k h=>by
    rw[mulL,cV_,cv_,bQ_,hm _ h];grind
   refine⟨by rw[show n+1+m=(n+m)+1 by omega,hk _ (by omega),h1,bQ_],fun k hk'=>?_⟩
   obtain⟨j,rfl⟩:∃j,k=j+1:=⟨k- 1,by omega⟩
   rw[hk _ (by omega)];exact h2 j (by omega)
theorem ra_{p q:List Rat}{n m:Nat}(hp:isDeg p n)(hq:isDeg q m):isDeg (mulP p q) (n+m)∧coP (mulP p q) (n+m)=coP p n* coP q m:=by
 obtain⟨h1,h2⟩:=mv_ p q n m hp.2 hq.2
 refine⟨⟨?_,fun i hi=>by rw[ga_];exact h2 i hi⟩,by rw[ga_];exact h1⟩
 rw[ga_,h1]
 have a:=hp.1;have b:=hq.1
 intro e
 rcases Rat.mul_eq_zero.1 e with h|h
 exact a h
 exact b h
theorem dg_mul{p q:List Rat}(hp:nz p)(hq:nz q):nz (mulP p q)∧dg (mulP p q)=dg p+dg q∧leadP (mulP p q)=leadP p* leadP q:=by
 obtain⟨a1,a2⟩:=d5_ hp
 obtain⟨b1,b2⟩:=d5_ hq
 obtain⟨c1,c2⟩:=ra_ a1 b1
 obtain⟨d1,d2,d3⟩:=go_ c1
 exact⟨d1,d2,by rw[d3,c2,a2,b2]⟩
theorem dg_mul'{p q r:List Rat}(hp:nz p)(hq:nz q)(h:∀x,evalP r x=evalP p x* evalP q x):nz r∧dg r=dg p+dg q∧leadP r=leadP p* leadP q:=by
 have e:Eqv r (mulP p q):=fun x=>by rw[h,aL_]
 obtain⟨h1,h2,h3⟩:=dg_mul hp hq
 exact⟨(qL_ e).2 h1,(dg_eqv e).trans h2,(lead_eqv e).trans h3⟩
theorem h6_{p:List Rat}{k:Rat}(hp:nz p)(hk:k≠0){r:List Rat}(h:∀x,evalP r x=evalP p x* k):nz r∧dg r=dg p∧leadP r=leadP p* k:=by
 have hc:isDeg [k] 0:=⟨hk,fun i hi=>by obtain⟨j,rfl⟩:∃j,i=j+1:=⟨i- 1,by omega⟩;rfl⟩
 obtain⟨c1,c2,c3⟩:=go_ hc
 obtain⟨h1,h2,h3⟩:=dg_mul' hp c1 (r:=r) (fun x=>by rw[h];show _=_* (0* x+k);grind)
 exact⟨h1,by omega,by rw[h3,c3];rfl⟩
theorem iE_(p:List Rat){q:List Rat}(hq:nz q):(∀x,evalP p x=evalP (divP p q).1 x* evalP q x+evalP (md p q) x)∧(nz (md p q)→dg (md p q)< dg q):=by
 obtain⟨h1,h2⟩:=fj_ p q hq
 refine⟨fun x=>(h1 x).symm,fun h=>?_⟩
 have:=List.length_pos_iff.2 h
 unfold md at *
 unfold dg;omega
theorem md_uniq{p q u v:List Rat}(hq:nz q)(h:∀x,evalP p x=evalP u x* evalP q x+evalP v x)(hv:nz v→dg v< dg q):Eqv (md p q) v:=by
 obtain⟨h1,h2⟩:=iE_ p hq
 by_cases hw:nz (subP u (divP p q).1)
 exfalso
 obtain⟨c1,c2,_⟩:=dg_mul' hw hq (r:=subP (md p q) v) (fun x=>by
  rw[bL_,bL_];have:=h x;have:=h1 x;grind)
 have hz:∀r,(nz r→dg r< dg q)→∀i,dg q≤i→coP r i=0:=fun r hr i hi=>by
  by_cases hz:nz r
  exact(d5_ hz).1.2 i (by have:=hr hz;omega)
  exact trim_nil_iff.1 (Decidable.byContradiction hz) i
 have:=(d5_ c1).1.1
 rw[c2,fl_,hz _ h2 _ (by omega),hz _ hv _ (by omega)] at this
 grind
 intro x
 have:=e5_ hw x
 rw[bL_] at this
 have:=h x;have:=h1 x
 grind
theorem maxL2(m a:Rat):m≤maxL [m,a]∧a≤maxL [m,a]:=by
 have e:maxL [m,a]=if 0< cmpQ a m then a else m:=by
  unfold maxL co_
  simp only[List.foldl_cons,List.foldl_nil,decide_eq_true_eq]
 rw[e]
 unfold cmpQ
 by_cases h1:a< m
 rw[if_pos h1,if_neg (by decide)];grind
 rw[if_neg h1]
 by_cases h2:a=m
 rw[if_pos h2,if_neg (by decide)];grind
 rw[if_neg h2,if_pos (by decide)];grind
theorem k3_(q:Rat):absQ q=ab q:=hw_ q
theorem oZ_(lead:Rat):∀(l:List Rat) (m:Rat),m≤boL lead l m∧∀c∈l,ab (c/ lead)≤boL lead l m
 |[],m=>⟨by rw[boL];grind,fun _ h=>by cases h⟩
 |c::l,m=>by
  obtain⟨h1,h2⟩:=oZ_ lead l (maxL [m,absQ (c/ lead)])
  obtain⟨h3,h4⟩:=maxL2 m (absQ (c/ lead))
  rw[k3_] at h4
  rw[boL]
  refine⟨by grind,fun d hd=>?_⟩
  rcases List.mem_cons.1 hd with rfl|hd
  rw[k3_] at *;grind
  exact h2 d hd
theorem sj_(p:List Rat):1≤cB_ p:=by
 have:=(oZ_ (leadP p) ((trimQ p).take ((trimQ p).length- 1)) 0).1
 unfold cB_;grind
def sg(k:Nat):Rat:=(-1) ^ k
theorem pow_ne{a:Rat}(h:a≠0)(n:Nat):a^ n≠0:=by
 induction n with
 |zero=>rw[Rat.pow_zero];grind
 |succ n ih=>rw[Rat.pow_succ];intro e;rcases Rat.mul_eq_zero.1 e with e|e;exact ih e;exact h e
theorem kA_{p:List Rat}(h:nz p):leadP p≠0:=b9_ h
def Dv(d p:List Rat):Prop:=∃u,∀x,evalP p x=evalP u x* evalP d x
theorem lF_{p q r:List Rat}(h:∀x,evalP r x=evalP p x* evalP q x)(hr:nz r):nz p∧nz q:=by
 constructor
 intro e
 have e':¬nz p:=fun h=>h e
 exact absurd rfl ((qL_ (q:=[]) fun x=>by rw[h,e5_ e',aZ_];grind).1 hr)
 intro e
 have e':¬nz q:=fun h=>h e
 exact absurd rfl ((qL_ (q:=[]) fun x=>by rw[h,e5_ e',aZ_];grind).1 hr)


theorem eE_{p:List Rat}(h:nz p):(∀x,evalP (bf_ p) x=evalP p x* (1/ leadP p))∧nz (bf_ p)∧dg (bf_ p)=dg p:=by
 have hl:=kA_ h
 have e:∀x,evalP (bf_ p) x=evalP p x* (1/ leadP p):=fun x=>by unfold bf_;rw[if_neg h,aS_]
 have hk:1/ leadP p≠0:=fun e=>by have:1/ leadP p* leadP p=1:=by grind
                                 rw[e] at this;grind
 obtain⟨a,b,_⟩:=h6_ h hk e
 exact⟨e,a,b⟩
theorem qS_(p:List Rat):∃k k':Rat,k* k'=1∧∀x,evalP (bf_ p) x=evalP p x* k:=by
 by_cases h:nz p
 refine⟨1/ leadP p,leadP p,Rat.div_mul_cancel (kA_ h),(eE_ h).1⟩
 refine⟨1,1,by decide+kernel,fun x=>?_⟩
 have e:trimQ p=[]:=Decidable.byContradiction h
 unfold bf_
 rw[if_pos e,e5_ h,aZ_];decide+kernel
theorem Dv.refl(d:List Rat):Dv d d:=⟨[1],fun x=>by rw[aE_,aZ_];grind⟩
theorem Dv.zero(d:List Rat){r:List Rat}(h:∀x,evalP r x=0):Dv d r:=⟨[],fun x=>by rw[h,aZ_];grind⟩
theorem Dv.trans{a b c:List Rat}(h:Dv a b)(k:Dv b c):Dv a c:=by
 obtain⟨u,hu⟩:=h
 obtain⟨v,hv⟩:=k
 exact⟨mulP v u,fun x=>by rw[hv,hu,aL_];grind⟩
theorem Dv.lin{d p q r:List Rat}{u v:List Rat}(h:Dv d p)(k:Dv d q)(e:∀x,evalP r x=evalP u x* evalP p x+evalP v x* evalP q x):Dv d r:=by
 obtain⟨s,hs⟩:=h
 obtain⟨t,ht⟩:=k
 exact⟨addP (mulP u s) (mulP v t),fun x=>by rw[e,hs,ht,bM_,aL_,aL_];grind⟩
theorem Dv.mul{d p q r:List Rat}(h:Dv d p)(e:∀x,evalP r x=evalP q x* evalP p x):Dv d r:=
 h.lin h (u:=q) (v:=[]) fun x=>by rw[e,aZ_];grind
theorem Dv.scale{d p r:List Rat}{k:Rat}(h:Dv d p)(e:∀x,evalP r x=evalP p x* k):Dv d r:=
 h.mul (q:=[k]) fun x=>by rw[e,aE_,aZ_];grind
theorem Dv.dg{d p:List Rat}(h:Dv d p)(hp:nz p):dg d≤dg p:=by
 obtain⟨u,hu⟩:=h
 obtain⟨n1,n2⟩:=lF_ hu hp
 have:=(dg_mul' n1 n2 hu).2.1
 omega
theorem one_dg{d:List Rat}(h:nz d)(h0:dg d=0):∃c:Rat,c≠0∧∀x,evalP d x=c:=by
 obtain⟨e1,e2⟩:=d5_ h
 refine⟨leadP d,kA_ h,fun x=>?_⟩
 have:trimQ d=trimQ [leadP d]:=trim_iff.2 fun i=>by
  cases i with
  |zero=>rw[cm_,←e2,h0]
  |succ i=>rw[bQ_,f9_];exact e1.2 _ (by omega)
 rw[←bs_,this,bs_,aE_,aZ_];grind
theorem nz_one:nz [1]:=by unfold nz;decide+kernel
theorem bez:∀(n:Nat) (p q:List Rat),(trimQ q).length=n→nz p∨nz q→∃g a b:List Rat,nz g∧Dv g p∧Dv g q∧∀x,evalP g x=evalP a x* evalP p x+evalP b x* evalP q x:=by
 intro n
 induction n using Nat.strongRecOn with
 |ind n ih=>
  intro p q hn h
  by_cases hq:nz q
  obtain⟨m1,m2⟩:=iE_ p hq
  have hlt:(trimQ (md p q)).length< n:=by
   have:=(fj_ p q hq).2
   unfold md;omega
  obtain⟨g,a,b,g0,g1,g2,g3⟩:=ih _ hlt q (md p q) rfl (.inl hq)
  refine⟨g,b,subP a (mulP b (divP p q).1),g0,g1.lin g2 (u:=(divP p q).1) (v:=[1]) fun x=>?_,g1,fun x=>?_⟩
  rw[m1,aE_,aZ_];grind
  rw[g3,bL_,aL_,m1 x];grind
  have hp:nz p:=h.resolve_right hq
  exact⟨p,[1],[],hp,.refl p,.zero p (e5_ hq),fun x=>by rw[aE_,aZ_,e5_ hq];grind⟩
theorem op_:∀(f:Nat) (p q g:List Rat),gcdM f p q=some g→nz p∨nz q→nz g∧Dv g p∧Dv g q∧∃a b:List Rat,∀x,evalP g x=evalP a x* evalP p x+evalP b x* evalP q x
 |0,_,_,_,h,_=>by cases h
 |f+1,p,q,g,h,hz=>by
  rw[gcdM] at h
  split at h
  ·rename_i h0
   split at h
   cases h
   have hq:¬nz q:=fun e=>e h0
   have hp:nz p:=hz.resolve_right hq
   obtain⟨m1,m2,_⟩:=eE_ hp
   obtain⟨k,k',hk,m⟩:=qS_ p
   refine⟨m2,⟨[k'],fun x=>by rw[m,aE_,aZ_];grind⟩,.zero _ (e5_ hq),[k],[],fun x=>by rw[m,aE_,aZ_];grind⟩
   cases h
  ·rename_i h0
   split at h
   obtain⟨m1,_⟩:=iE_ p h0
   obtain⟨k,k',hk,m⟩:=qS_ (divP p q).2
   obtain⟨g0,g1,g2,a,b,g3⟩:=op_ f _ _ _ h (.inl h0)
   refine⟨g0,g1.lin g2 (u:=(divP p q).1) (v:=[k']) fun x=>?_,g1,aJ_ b k,subP a (aJ_ (mulP b (divP p q).1) k),fun x=>?_⟩
   rw[m1,m,aE_,aZ_]
   show _+evalP (divP p q).2 x=_
   grind
   rw[g3,m,aS_,bL_,aS_,aL_,m1 x]
   show _=_* (_+evalP (divP p q).2 x)+_
   grind
   cases h
def pw(d:List Rat):Nat→List Rat
 |0=>[1]
 |k+1=>mulP (pw d k) d
theorem mU_{p:List Rat}(h:nz p):∃k:Rat,0< k∧∀x,evalP (primP p) x=evalP p x* k:=by
 have hD:denL (trimQ p) 1≠0:=jc_ _ (by decide)
 have hN:numL (denL (trimQ p) 1) (trimQ p) 0≠0:=by
  intro e
  have h1:=(hV_ (denL (trimQ p) 1) (trimQ p) 0).2
  have h2:=(fH_ (trimQ p) 1).2
  have hl:=List.length_pos_iff.2 h
  have hg:=bH_ (l:=p) (n:=(trimQ p).length- 1) (by omega)
  have hm:=List.mem_of_getElem? hg
  have h3:=h1 _ hm
  rw[e] at h3
  exact m4_ (h2 _ hm) hD (b9_ h) (Nat.eq_zero_of_zero_dvd h3)
 refine⟨nQ (denL (trimQ p) 1) / nQ (numL (denL (trimQ p) 1) (trimQ p) 0),?_,fun x=>by unfold primP;rw[aS_,bs_]⟩
 have pos:∀n:Nat,n≠0→(0:Rat)< nQ n:=fun n hn=>by
  rw[←num_pos]
  show 0< (n:Int)
  omega
 obtain⟨k,k0,e⟩:=part (nQ (denL (trimQ p) 1)) (pos _ hD) (pos _ hN)
 rw[←e,Rat.mul_div_cancel (fun e=>hN (nQ_zero.1 e))]
 exact k0
inductive Cx:List Rat→List Rat→List (List Rat)→Prop
 |nil {u n:List Rat}:¬nz n→Cx u n []
 |cons {u n v n' q:List Rat} {L:List (List Rat)} {c:Rat}:0< c→(∀x,evalP v x=evalP n x* c)→nz v→(∀x,evalP n' x=evalP q x* evalP v x- evalP u x)→Cx v n' L→Cx u n (v::L)
theorem Cx.ch{u n:List Rat}{L:List (List Rat)}(H:Cx u n L):nz u→(∀d,nz d→Dv d u→Dv d n→dg d=0)→Ch u L∧∀v L',L=v::L'→∃c:Rat,0< c∧∀x,evalP v x=c* evalP n x:=by
 induction H with
 | @nil u n hn=>
  intro hu hd
  obtain⟨c,c0,hc⟩:=one_dg hu (hd u hu (.refl u) (.zero u (e5_ hn)))
  exact⟨.one c0 hc,fun _ _ h=>by cases h⟩
 | @cons u n v n' q L c hc hv hnv hn' hL ih=>
  intro hu hd
  obtain⟨i1,i2⟩:=ih hnv fun d d0 d1 d2=>hd d d0 (d1.lin d2 (u:=q) (v:=[-1]) fun x=>by rw[hn',aE_,aZ_];grind)
   (d1.scale (k:=1/ c) fun x=>by
    rw[hv]
    have:c* (1/ c)=1:=by have:=Rat.div_mul_cancel (a:=1) (b:=c) (by grind);grind
    generalize 1/ c=m at *
    grind)
  refine⟨?_,fun _ _ h=>by cases h;exact⟨c,hc,fun x=>by rw[hv];grind⟩⟩
  cases L with
  |nil=>exact .pair i1
  |cons w L=>
   obtain⟨c',c0,hw⟩:=i2 w L rfl
   exact .step (a:=c') (c:=1) (q:=aJ_ q c') c0 (by decide+kernel) (fun x=>by rw[hw,hn',aS_];grind) i1
theorem qZ_{p:List Rat}{t:Nat}(h:bdL p t)(ht:1≤t):qs (leadP p)≤t:=by
 by_cases h0:trimQ p=[]
 rw[iJ_ h0];exact Nat.le_trans (by decide:qs 0≤1) ht
 have hl:=List.length_pos_iff.2 h0
 exact h _ (bl_ (List.mem_of_getElem? (bH_ (n:=(trimQ p).length- 1) (by omega))))
theorem il_{p:List Rat}{k:Rat}(hk:k≠0):(trimQ (aJ_ p k)).length=(trimQ p).length:=by
 by_cases h:nz p
 obtain⟨a,b,_⟩:=h6_ h hk (r:=aJ_ p k) fun x=>aS_ p k x
 have h1:=List.length_pos_iff.2 a
 have h2:=List.length_pos_iff.2 h
 unfold dg at b;omega
 have e:trimQ p=[]:=Classical.byContradiction h
 have e2:trimQ (aJ_ p k)=[]:=by
  have:Eqv (aJ_ p k) []:=fun x=>by rw[aS_,e5_ h,aZ_];grind
  exact eqv_trim.1 this
 rw[e,e2]
end Go.Abs
