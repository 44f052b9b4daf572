/- Part Z09 of the proof. -/
import Derived.Test.YtdjfjpeoddmamaaGreatDoorZ08
set_option linter.all false
namespace Go.Abs
theorem gl_(i:Nat):coP [] i=0:=rfl
theorem cv_(a:Rat)(l:List Rat):coP (a::l) 0=a:=rfl
theorem b1_(a:Rat)(l:List Rat)(i:Nat):coP (a::l) (i+1)=coP l i:=rfl
theorem bf_(l:List Rat)(i:Nat):coP (trimQ l) i=coP l i:=by
 induction l generalizing i with
 |nil=>rfl
 |cons a l ih=>
  rw[b9_]
  split
  ·rename_i h
   have h0:∀j,coP l j=0:=fun j=>by rw[←ih j,h];rfl
   split
   ·rename_i ha
    cases i with
    |zero=>rw[cv_,ha];rfl
    |succ i=>rw[b1_,h0];rfl
   cases i with
   |zero=>rfl
   |succ i=>rw[b1_,b1_,h0];rfl
  cases i with
  |zero=>rfl
  |succ i=>rw[b1_,b1_,ih]
theorem dI_(n:Nat)(f:Nat→Rat)(i:Nat):coP (tabP n f) i=if i< n then f i else 0:=by
 unfold coP tabP
 rw[List.getD_eq_getElem?_getD,List.getElem?_map]
 by_cases h:i< n
 rw[if_pos h,List.getElem?_range h];rfl
 rw[if_neg h,List.getElem?_eq_none (by simp;omega)];rfl
theorem dc_(p q:List Rat)(i:Nat):coP (addP p q) i=coP p i+coP q i:=by
 unfold addP
 rw[bf_,dI_]
 split
 rfl
 ·rename_i h
  rw[cr_ (by omega),cr_ (by omega)];grind
theorem a5_(p:List Rat)(k:Rat)(i:Nat):coP (az_ p k) i=coP p i* k:=by
 unfold az_
 rw[bf_,dI_]
 split
 rfl
 ·rename_i h
  rw[cr_ (by omega)];grind
theorem ed_(p q:List Rat)(i:Nat):coP (subP p q) i=coP p i- coP q i:=by
 unfold subP
 rw[dc_,a5_];grind
theorem sw_(a:Rat)(i:Nat):coP (cU_ a) i=if i=0 then a else 0:=by
 unfold cU_
 rw[bf_]
 cases i <;> rfl
theorem bt_(p:List Rat)(i:Nat):coP (ax_ p) i=coP p (i+1) * ((i+1:Nat):Int):=by
 unfold ax_
 rw[bf_,dI_]
 split
 rfl
 ·rename_i h
  rw[cr_ (by omega)];grind
theorem bM_(p:List Rat)(i:Nat):coP (aL_ p) i=if i=0 then 0 else coP p (i- 1) / ((i:Nat):Int):=by
 unfold aL_
 rw[bf_,dI_]
 split
 rfl
 ·rename_i h
  rw[if_neg (by omega),cr_ (by omega)]
  rw[Rat.div_def,Rat.zero_mul]
theorem dw_{p q:List Rat}(h:∀i,coP p i=coP q i):trimQ p=trimQ q:=by
 induction p generalizing q with
 |nil=>
  induction q with
  |nil=>rfl
  |cons b q ih=>
   have hb:b=0:=(h 0).symm
   rw[b9_,←ih fun i=>h (i+1),if_pos (by rfl),if_pos hb];rfl
 |cons a p ih=>
  cases q with
  |nil=>
   have ha:a=0:=h 0
   rw[b9_,ih (q:=[]) fun i=>h (i+1),if_pos (by rfl),if_pos ha];rfl
  |cons b q=>
   have hab:a=b:=h 0
   rw[b9_,b9_,ih (q:=q) fun i=>h (i+1),hab]
theorem trim_iff{p q:List Rat}:trimQ p=trimQ q↔∀i,coP p i=coP q i:=
 ⟨fun h i=>by rw[←bf_ p,h,bf_],dw_⟩
theorem trim_nil_iff{p:List Rat}:trimQ p=[]↔∀i,coP p i=0:=
 ⟨fun h i=>by rw[←bf_ p,h];rfl,fun h=>dw_ (q:=[]) h⟩
theorem aG_(x:Rat):evalP [] x=0:=rfl
theorem aB_(a:Rat)(l:List Rat)(x:Rat):evalP (a::l) x=evalP l x* x+a:=rfl
theorem eF_{p:List Rat}(h:∀i,coP p i=0)(x:Rat):evalP p x=0:=by
 induction p with
 |nil=>rfl
 |cons a p ih=>
  have ha:a=0:=h 0
  rw[aB_,ih fun i=>h (i+1),ha];grind
theorem b4_{p q:List Rat}(h:∀i,coP p i=coP q i)(x:Rat):evalP p x=evalP q x:=by
 induction p generalizing q with
 |nil=>exact(eF_ (fun i=>(h i).symm) x).symm
 |cons a p ih=>
  cases q with
  |nil=>exact eF_ h x
  |cons b q=>
   have hab:a=b:=h 0
   rw[aB_,aB_,ih (q:=q) fun i=>h (i+1),hab]
theorem bh_(p:List Rat)(x:Rat):evalP (trimQ p) x=evalP p x:=b4_ (bf_ p) x
def addL:List Rat→List Rat→List Rat
 |[],q=>q
 |p,[]=>p
 |a::p,b::q=>(a+b)::addL p q
def eA_(p:List Rat)(k:Rat):List Rat:=p.map (· * k)
def mulL:List Rat→List Rat→List Rat
 |[],_=>[]
 |a::p,q=>addL (eA_ q a) (0::mulL p q)
theorem cZ_(p q:List Rat)(i:Nat):coP (addL p q) i=coP p i+coP q i:=by
 induction p generalizing q i with
 |nil=>rw[addL,gl_];grind
 |cons a p ih=>
  cases q with
  |nil=>rw[addL,gl_]; · grind
        intro h;cases h
  |cons b q=>
   rw[addL]
   cases i with
   |zero=>rfl
   |succ i=>exact ih q i
theorem cB_(p:List Rat)(k:Rat)(i:Nat):coP (eA_ p k) i=coP p i* k:=by
 induction p generalizing i with
 |nil=>show(0:Rat)=0* k;grind
 |cons a p ih=>
  cases i with
  |zero=>rfl
  |succ i=>exact ih i
theorem eG_(p q:List Rat)(x:Rat):evalP (addL p q) x=evalP p x+evalP q x:=by
 induction p generalizing q with
 |nil=>rw[addL,aG_];grind
 |cons a p ih=>
  cases q with
  |nil=>rw[addL,aG_]; · grind
        intro h;cases h
  |cons b q=>rw[addL,aB_,aB_,aB_,ih];grind
theorem dE_(p:List Rat)(k x:Rat):evalP (eA_ p k) x=evalP p x* k:=by
 induction p with
 |nil=>show(0:Rat)=0* k;grind
 |cons a p ih=>show evalP (eA_ p k) x* x+a* k=_;rw[ih,aB_];grind
theorem hk_(p q:List Rat)(x:Rat):evalP (mulL p q) x=evalP p x* evalP q x:=by
 induction p with
 |nil=>show(0:Rat)=0* _;grind
 |cons a p ih=>rw[mulL,eG_,dE_,aB_,ih,aB_];grind
theorem bi_(p q:List Rat)(x:Rat):evalP (addP p q) x=evalP p x+evalP q x:=by
 rw[←eG_];exact b4_ (fun i=>by rw[dc_,cZ_]) x
theorem aA_(p:List Rat)(k x:Rat):evalP (az_ p k) x=evalP p x* k:=by
 rw[←dE_];exact b4_ (fun i=>by rw[a5_,cB_]) x
theorem bm_(p q:List Rat)(x:Rat):evalP (subP p q) x=evalP p x- evalP q x:=by
 unfold subP;rw[bi_,aA_];grind
theorem eX_(a x:Rat):evalP (cU_ a) x=a:=by
 rw[cU_,bh_];show 0* x+a=a;grind
def convP(p q:List Rat):Nat→Nat→Rat
 |0,_=>0
 |i+1,n=>convP p q i n+(if i≤n then coP p i* coP q (n- i) else 0)
theorem pv_(o:List Rat)(a:Rat)(q:List Rat)(i:Nat)(h:∀k,k< q.length→i+k< o.length):∀k n,k≤q.length→coP (rowP o a q i k) n=coP o n+(if i≤n∧n< i+k then a* coP q (n- i) else 0)
 |0,n,_=>by rw[if_neg (by omega)];show coP o n=_;grind
 |k+1,n,hk=>by
  rw[rowP,ja_,nw_]
  by_cases hn:n=i+k
  subst hn
  rw[if_pos ⟨rfl,h k (by omega)⟩,kI_ o a q i k (i+k) (by omega),if_pos (by omega),show i+k- i=k by omega]
  rw[if_neg (by omega),pv_ o a q i h k n (by omega)]
  by_cases h2:i≤n∧n< i+k
  rw[if_pos h2,if_pos (by omega)]
  rw[if_neg h2,if_neg (by omega)]
theorem px_(p q:List Rat)(n:Nat):∀i,i≤p.length→coP (mulR p q i) n=convP p q i n
 |0,_=>by
  show coP (List.replicate _ 0) n=0
  unfold coP
  rw[List.getD_eq_getElem?_getD,List.getElem?_replicate]
  split <;> rfl
 |i+1,hi=>by
  have ih:=px_ p q n i (by omega)
  rw[mulR,convP]
  split
  ·rename_i h0
   rw[ih,h0]
   split <;> grind
  rw[pv_ _ _ _ _ (fun k hk=>by rw[iz_];omega) _ _ (Nat.le_refl _),ih]
  congr 1
  by_cases h1:i≤n
  rw[if_pos h1]
  by_cases h2:n< i+q.length
  rw[if_pos ⟨h1,h2⟩]
  rw[if_neg (by omega),cr_ (p:=q) (by omega)];grind
  rw[if_neg (by omega),if_neg h1]
theorem ka_(a:Rat)(p q:List Rat)(n:Nat):∀i,convP (a::p) q (i+1) n=a* coP q n+(match n with|0=>0|m+1=>convP p q i m)
 |0=>by
  show(0:Rat)+(if 0≤n then coP (a::p) 0* coP q (n- 0) else 0)=_
  rw[if_pos (Nat.zero_le _),cv_,Nat.sub_zero]
  cases n <;> simp[convP,Rat.add_zero,Rat.zero_add]
 |i+1=>by
  rw[convP,ka_ a p q n i]
  cases n with
  |zero=>rw[if_neg (by omega)];show a* coP q 0+0+0=a* coP q 0+0;grind
  |succ m=>
   show a* coP q (m+1)+convP p q i m+_=a* coP q (m+1)+(convP p q i m+_)
   by_cases h:i≤m
   rw[if_pos (by omega),if_pos h,b1_,show m+1- (i+1)=m- i by omega];grind
   rw[if_neg (by omega),if_neg h];grind
theorem lt_(p q:List Rat)(n:Nat):coP (mulL p q) n=convP p q p.length n:=by
 induction p generalizing n with
 |nil=>rfl
 |cons a p ih=>
  rw[mulL,cZ_,cB_,List.length_cons,ka_]
  cases n with
  |zero=>rw[cv_];grind
  |succ m=>rw[b1_,ih];grind
theorem gm_(p q:List Rat)(n:Nat):coP (mulP p q) n=coP (mulL p q) n:=by
 unfold mulP
 split
 ·rename_i h
  rcases h with rfl|rfl
  rfl
  rw[lt_]
  have:∀i,convP p [] i n=0:=by
   intro i
   induction i with
   |zero=>rfl
   |succ i ih=>rw[convP,ih,gl_];split <;> grind
  rw[this];rfl
 rw[bf_,px_ _ _ _ _ (Nat.le_refl _),lt_]
theorem ar_(p q:List Rat)(x:Rat):evalP (mulP p q) x=evalP p x* evalP q x:=by
 rw[←hk_];exact b4_ (gm_ p q) x
def synD:List Rat→Rat→List Rat
 |[],_=>[]
 |[_],_=>[]
 |_::b::l,r=>evalP (b::l) r::synD (b::l) r
theorem dX_(p:List Rat)(r x:Rat):evalP p x=evalP (synD p r) x* (x- r)+evalP p r:=by
 induction p with
 |nil=>show(0:Rat)=0* _+0;grind
 |cons a l ih=>
  cases l with
  |nil=>show 0* x+a=0* (x- r)+(0* r+a);grind
  |cons b l=>
   rw[synD,aB_ a,aB_ a,aB_ (evalP (b::l) r),ih];grind
theorem synD_len(p:List Rat)(r:Rat):(synD p r).length=p.length- 1:=by
 induction p with
 |nil=>rfl
 |cons a l ih=>
  cases l with
  |nil=>rfl
  |cons b l=>rw[synD,List.length_cons,ih];simp
theorem jD_:∀(n:Nat) (p xs:List Rat),p.length≤n→n≤xs.length→xs.Nodup→(∀x∈xs,evalP p x=0)→∀x,evalP p x=0
 |0,p,_,hp,_,_,_,x=>by
  have:p=[]:=List.length_eq_zero_iff.1 (by omega)
  rw[this];rfl
 |n+1,p,xs,hp,hx,hnd,hz,x=>by
  cases xs with
  |nil=>simp at hx
  |cons r xs=>
   rw[List.nodup_cons] at hnd
   have hr:=hz r (List.mem_cons_self ..)
   have ih:=jD_ n (synD p r) xs (by rw[synD_len];omega) (by simp at hx;omega) hnd.2 fun y hy=>by
    have h1:=dX_ p r y
    rw[hz y (List.mem_cons_of_mem _ hy),hr] at h1
    have hne:y- r≠0:=fun h=>hnd.1 (by have:y=r:=by grind
                                      rw[←this];exact hy)
    have h2:evalP (synD p r) y* (y- r)=0:=by grind
    rcases Rat.mul_eq_zero.1 h2 with h3|h3
    exact h3
    exact absurd h3 hne
   rw[dX_ p r x,ih,hr];grind
theorem hI_{p:List Rat}(h:∀x,evalP p x=0):∀i,coP p i=0:=by
 induction p with
 |nil=>intro i;rfl
 |cons a p ih=>
  have ha:a=0:=by
   have:=h 0
   rw[aB_] at this;grind
  have hp:∀x,evalP p x=0:=by
   -- at all places but 0,so at all
   refine jD_ p.length p ((List.range p.length).map fun i=>(((i+1:Nat):Int):Rat)) (Nat.le_refl _) (by simp) ?_ ?_
   refine List.Pairwise.map _ (fun i j hij=>?_) List.nodup_range
   intro e
   apply hij
   have:=Rat.intCast_inj.1 e
   omega
   intro x hx
   obtain⟨i,_,rfl⟩:=List.mem_map.1 hx
   have h1:=h (((i+1:Nat):Int):Rat)
   rw[aB_,ha] at h1
   have h2:evalP p (((i+1:Nat):Int):Rat) * (((i+1:Nat):Int):Rat)=0:=by grind
   rcases Rat.mul_eq_zero.1 h2 with h3|h3
   exact h3
   have:=Rat.intCast_inj.1 (h3.trans Rat.intCast_zero.symm);omega
  intro i
  cases i with
  |zero=>exact ha
  |succ i=>exact ih hp i
theorem cL_{p q:List Rat}(h:∀x,evalP p x=evalP q x):trimQ p=trimQ q:=by
 refine dw_ fun i=>?_
 have:=hI_ (p:=subP p q) (fun x=>by rw[bm_,h];grind) i
 rw[ed_] at this;grind
theorem gC_(p q:List Rat)(hp:p≠[]):(mulP p q).length≤p.length+q.length- 1:=by
 unfold mulP
 split
 simp
 have:=aI_ (mulR p q p.length)
 rwa[iz_] at this
theorem qK_{p:List Rat}{k:Rat}{s t:Nat}(hp:bdL p s)(hs:1≤s)(hk:qs k≤t):bdL (az_ p k) (s+t):=
 dG_ fun i=>by
  rw[a5_]
  have h1:=b3_ (coP p i) k
  have h2:=bA_ hp hs i
  omega
def dvE:List Rat→Rat→Rat
 |[],_=>0
 |_::l,x=>evalP l x+dvE l x* x
theorem cn_(a:Rat)(l:List Rat)(x:Rat):dvE (a::l) x=evalP l x+dvE l x* x:=rfl
theorem pn_{p:List Rat}(h:∀i,coP p i=0)(x:Rat):dvE p x=0:=by
 induction p with
 |nil=>rfl
 |cons a p ih=>rw[cn_,ih fun i=>h (i+1),eF_ fun i=>h (i+1)];grind
theorem ln_{p q:List Rat}(h:∀i,coP p i=coP q i)(x:Rat):dvE p x=dvE q x:=by
 induction p generalizing q with
 |nil=>exact(pn_ (fun i=>(h i).symm) x).symm
 |cons a p ih=>
  cases q with
  |nil=>exact pn_ h x
  |cons b q=>rw[cn_,cn_,ih (q:=q) fun i=>h (i+1),b4_ (q:=q) fun i=>h (i+1)]
theorem pp_(p q:List Rat)(x:Rat):dvE (addL p q) x=dvE p x+dvE q x:=by
 induction p generalizing q with
 |nil=>rw[addL];show dvE q x=0+dvE q x;grind
 |cons a p ih=>
  cases q with
  |nil=>rw[addL]; · show _=_+(0:Rat);grind
        intro h;cases h
  |cons b q=>rw[addL,cn_,cn_,cn_,ih,eG_];grind
theorem j7_(p:List Rat)(k x:Rat):dvE (eA_ p k) x=dvE p x* k:=by
 induction p with
 |nil=>show(0:Rat)=0* k;grind
 |cons a p ih=>show evalP (eA_ p k) x+dvE (eA_ p k) x* x=_;rw[ih,cn_,dE_];grind
theorem dvE_mulL(p q:List Rat)(x:Rat):dvE (mulL p q) x=dvE p x* evalP q x+evalP p x* dvE q x:=by
 induction p with
 |nil=>show(0:Rat)=0* _+0* _;grind
 |cons a p ih=>rw[mulL,pp_,j7_,cn_,cn_,ih,hk_,aB_];grind
def derL:List Rat→List Rat
 |[]=>[]
 |_::l=>addL l (0::derL l)
theorem hl_(p:List Rat)(x:Rat):evalP (derL p) x=dvE p x:=by
 induction p with
 |nil=>rfl
 |cons a p ih=>rw[derL,eG_,aB_,ih,cn_];grind
theorem coP_derL(p:List Rat)(i:Nat):coP (derL p) i=coP p (i+1) * ((i+1:Nat):Int):=by
 induction p generalizing i with
 |nil=>show(0:Rat)=0* _;grind
 |cons a p ih=>
  rw[derL,cZ_,b1_]
  cases i with
  |zero=>rw[cv_];simp;grind
  |succ i=>rw[b1_,ih];simp only[Int.natCast_add,Rat.intCast_add];grind
theorem br_(p:List Rat)(x:Rat):evalP (ax_ p) x=dvE p x:=by
 rw[←hl_];exact b4_ (fun i=>by rw[bt_,coP_derL]) x
theorem i0_(p q:List Rat)(x:Rat):dvE (mulP p q) x=dvE p x* evalP q x+evalP p x* dvE q x:=by
 rw[←dvE_mulL];exact ln_ (gm_ p q) x
theorem i5_(p:List Rat):trimQ (ax_ (aL_ p))=trimQ p:=dw_ fun i=>by
 rw[bt_,bM_,if_neg (by omega),Nat.add_sub_cancel]
 have h:(((i+1:Nat):Int):Rat)≠0:=by
  intro e
  have h1:((i+1:Nat):Int)=0:=Rat.intCast_inj.1 (e.trans Rat.intCast_zero.symm)
  omega
 grind
theorem dq_(q:List Rat)(x:Rat):∀p,evalP (compP q p) x=evalP p (evalP q x)
 |[]=>rfl
 |a::p=>by rw[compP,bi_,ar_,eX_,dq_ q x p,aB_]
theorem mU_(o:List Rat)(x v:Rat):∀j,j< o.length→evalP (o.set j v) x=evalP o x+(v- coP o j) * x^ j:=by
 induction o with
 |nil=>intro j h;cases h
 |cons a o ih=>
  intro j h
  cases j with
  |zero=>rw[List.set_cons_zero,aB_,aB_,cv_,Rat.pow_zero];grind
  |succ j=>rw[List.set_cons_succ,aB_,aB_,b1_,ih j (by simpa using h),Rat.pow_succ];grind
theorem cM_(q:List Rat)(x:Rat)(m:Nat)(h:m< q.length):evalP (q.take (m+1)) x=evalP (q.take m) x+coP q m* x^ m:=by
 induction q generalizing m with
 |nil=>cases h
 |cons a q ih=>
  cases m with
  |zero=>rw[List.take_succ_cons,List.take_zero,List.take_zero,cv_,Rat.pow_zero,aB_];show 0* x+a=0+a* 1;grind
  |succ m=>rw[List.take_succ_cons,List.take_succ_cons,aB_,aB_,b1_,ih m (by simpa using h),Rat.pow_succ];grind
theorem ip_(x:Rat)(n:Nat):∀m,x^ (n+m)=x^ n* x^ m
 |0=>by rw[Nat.add_zero,Rat.pow_zero];grind
 |m+1=>by rw[←Nat.add_assoc,Rat.pow_succ,Rat.pow_succ,ip_ x n m];grind
theorem j5_(o:List Rat)(k:Rat)(q:List Rat)(n:Nat)(x:Rat)(h:n+q.length≤o.length):∀m,m≤q.length→evalP (rowM o k q n m) x=evalP o x- k* x^ n* evalP (q.take m) x
 |0,_=>by rw[rowM,List.take_zero];show _=_- _* 0;grind
 |m+1,hm=>by
  rw[rowM,subAt,mU_ _ _ _ _ (by rw[dl_];omega),j5_ o k q n x h m (by omega),cM_ q x m (by omega),ip_]
  grind
theorem coP_rowM(o:List Rat)(k:Rat)(q:List Rat)(n m:Nat)(hm:m< q.length)(h:n+q.length≤o.length):coP (rowM o k q n q.length) (n+m)=coP o (n+m)- k* coP q m:=by
 have:∀j,m< j→j≤q.length→coP (rowM o k q n j) (n+m)=coP o (n+m)- k* coP q m:=by
  intro j
  induction j with
  |zero=>intro h;omega
  |succ j ih=>
   intro h1 h2
   rw[rowM,gW_]
   by_cases e:m=j
   subst e
   rw[if_pos ⟨rfl,by rw[dl_];omega⟩,gv_ o k q n m (n+m) (by omega)]
   rw[if_neg (by omega)]
   exact ih (by omega) (by omega)
 exact this q.length hm (Nat.le_refl _)
theorem mZ_(q:List Rat)(lead:Rat)(hq:q≠[])(hl:coP q (q.length- 1)=lead)(hl0:lead≠0)(x:Rat):∀c u o,(∀i,i< c→coP u i=0)→c≤u.length→c+q.length≤o.length+1→(∀j,c+q.length- 1≤j→coP o j=0)→
    evalP (divR q lead c u o).1 x* evalP q x+evalP (divR q lead c u o).2 x=evalP u x* evalP q x+evalP o x∧∀j,q.length- 1≤j→coP (divR q lead c u o).2 j=0
 |0,u,o,_,_,_,h4=>⟨rfl,fun j hj=>h4 j (by omega)⟩
 |n+1,u,o,h1,h2,h3,h4=>by
  have hlen:=List.length_pos_iff.2 hq
  rw[divR]
  obtain⟨k,hk⟩:∃k,k=coP o (n+q.length- 1) / lead:=⟨_,rfl⟩
  rw[←hk]
  have hkl:k* lead=coP o (n+q.length- 1):=by rw[hk];grind
  have hu:coP u n=0:=h1 n (by omega)
  have ho:evalP (if k=0 then o else rowM o k q n q.length) x=evalP o x- k* x^ n* evalP q x:=by
   by_cases h0:k=0
   rw[if_pos h0,h0];grind
   rw[if_neg h0,j5_ o k q n x (by omega) _ (Nat.le_refl _),List.take_length]
  obtain⟨e1,e2⟩:=mZ_ q lead hq hl hl0 x n (u.set n k) (if k=0 then o else rowM o k q n q.length) (fun i hi=>by
   rw[ls_,if_neg (by omega)];exact h1 i (by omega)) (by simp;omega) (by split <;>(try simp)<;> omega) (fun j hj=>by
   by_cases h0:k=0
   rw[if_pos h0]
   by_cases hj':j=n+q.length- 1
   rw[hj',←hkl,h0];grind
   exact h4 j (by omega)
   rw[if_neg h0]
   by_cases hj':j=n+q.length- 1
   have:=coP_rowM o k q n (q.length- 1) (by omega) (by omega)
   rw[hj',show n+q.length- 1=n+(q.length- 1) by omega,this,hl,hkl,show n+(q.length- 1)=n+q.length- 1 by omega];grind
   rw[gv_ o k q n q.length j (by omega)]
   exact h4 j (by omega))
  refine⟨?_,e2⟩
  rw[e1,ho,mU_ u x k n (by omega),hu]
  grind
theorem fb_{p:List Rat}{n:Nat}(h:∀j,n≤j→coP p j=0):(trimQ p).length≤n:=by
 apply Nat.le_of_not_lt
 intro hn
 have h1:=bH_ (l:=p) (n:=(trimQ p).length- 1) (by omega)
 have h2:trimQ p≠[]:=fun e=>by rw[e] at hn;simp at hn
 have h3:=h ((trimQ p).length- 1) (by omega)
 rw[←bf_] at h3
 unfold coP at h3
 rw[List.getD_eq_getElem?_getD,h1] at h3
 exact bF_ h2 h3
theorem cp_(p q:List Rat)(hq:trimQ q≠[]):(∀x,evalP (divP p q).1 x* evalP q x+evalP (divP p q).2 x=evalP p x)∧(trimQ (divP p q).2).length< (trimQ q).length:=by
 have hlen:=List.length_pos_iff.2 hq
 have hl:coP (trimQ q) ((trimQ q).length- 1)=leadP q:=by
  have:=bH_ (l:=q) (n:=(trimQ q).length- 1) (by omega)
  unfold coP;rw[List.getD_eq_getElem?_getD,this];rfl
 have hz:∀i m,coP (List.replicate m 0) i=0:=fun i m=>by
  unfold coP
  rw[List.getD_eq_getElem?_getD,List.getElem?_replicate]
  split <;> rfl
 have key:=fun x (h:(trimQ q).length≤(trimQ p).length+1)=>mZ_ (trimQ q) (leadP q) hq hl (bF_ hq) x ((trimQ p).length+1- (trimQ q).length) (List.replicate ((trimQ p).length+1- (trimQ q).length) 0) (trimQ p)
  (fun i _=>hz i _) (by simp) (by omega) (fun j hj=>cr_ (by omega))
 by_cases h:(trimQ q).length≤(trimQ p).length+1
 refine⟨fun x=>?_,?_⟩
 have e:=(key x h).1
 unfold divP
 simp only
 rw[bh_,bh_,←bh_ q,e,eF_ (fun i=>hz i _),bh_ p];grind
 have e:=(key 0 h).2
 unfold divP
 simp only
 rw[aN_]
 have:=fb_ e
 omega
 unfold divP
 simp only
 rw[show(trimQ p).length+1- (trimQ q).length=0 by omega]
 refine⟨fun x=>?_,?_⟩
 rw[divR,bh_,bh_,bh_];show 0* _+_=_;grind
 rw[divR];simp only;rw[aN_,aN_];omega
section
variable (p q r:List Rat)(a b:Rat)
end
def ab(x:Rat):Rat:=if x< 0 then -x else x
theorem ab_nn(x:Rat):0≤ab x:=by unfold ab;split <;> grind
theorem ab_le{x c:Rat}:ab x≤c↔ -c≤x∧x≤c:=by unfold ab;split <;> grind
theorem pO_(x y:Rat):ab (x+y)≤ab x+ab y:=by unfold ab;split <;> split <;> split <;> grind
theorem ab_neg(x:Rat):ab (-x)=ab x:=by unfold ab;split <;> split <;> grind
theorem fC_(x y:Rat):ab (x* y)=ab x* ab y:=by
 have key:∀a b:Rat,0≤a→0≤b→ab (a* b)=a* b:=fun a b ha hb=>by
  have:=Rat.mul_nonneg ha hb
  unfold ab;rw[if_neg (by grind)]
 by_cases hx:x< 0
 by_cases hy:y< 0
 have:=key (-x) (-y) (by grind) (by grind)
 rw[show x* y= -x* -y by grind,this]
 unfold ab;rw[if_pos hx,if_pos hy]
 have:=key (-x) y (by grind) (by grind)
 rw[show x* y= -(-x* y) by grind,ab_neg,this]
 unfold ab;rw[if_pos hx,if_neg hy]
 by_cases hy:y< 0
 have:=key x (-y) (by grind) (by grind)
 rw[show x* y= -(x* -y) by grind,ab_neg,this]
 unfold ab;rw[if_neg hx,if_pos hy]
 have:=key x y (by grind) (by grind)
 rw[this]
 unfold ab;rw[if_neg hx,if_neg hy]
theorem fJ_{a b c d:Rat}(h1:a≤b)(h2:c≤d)(h3:0≤c)(h4:0≤b):a* c≤b* d:=by
 have e1:=Rat.mul_le_mul_of_nonneg_right h1 h3
 have e2:=Rat.mul_le_mul_of_nonneg_left h2 h4
 grind
def bV(R:Rat):List Rat→Rat
 |[]=>0
 |a::l=>bV R l* R+ab a
theorem bV_nn{R:Rat}(hR:0≤R):∀l,0≤bV R l
 |[]=>by simp[bV]
 |a::l=>by
  have h1:=Rat.mul_nonneg (bV_nn hR l) hR
  have h2:=ab_nn a
  rw[bV];grind
theorem gT_{R x:Rat}(hR:0≤R)(hx:ab x≤R):∀l,ab (evalP l x)≤bV R l
 |[]=>by rw[aG_,bV];decide
 |a::l=>by
  have h1:=gT_ hR hx l
  have h2:=fJ_ h1 hx (ab_nn x) (bV_nn hR l)
  have h3:=pO_ (evalP l x* x) a
  rw[fC_] at h3
  rw[aB_,bV];grind
def bL(R:Rat):List Rat→Rat
 |[]=>0
 |_::l=>bL R l* R+bV R l
theorem bL_nn{R:Rat}(hR:0≤R):∀l,0≤bL R l
 |[]=>by simp[bL]
 |a::l=>by
  have h1:=Rat.mul_nonneg (bL_nn hR l) hR
  have h2:=bV_nn hR l
  rw[bL];grind
theorem iZ_{R x y:Rat}(hR:0≤R)(hx:ab x≤R)(hy:ab y≤R):∀l,ab (evalP l y- evalP l x)≤bL R l* ab (y- x)
 |[]=>by
  rw[aG_,aG_,bL,Rat.zero_mul]
  decide+kernel
 |a::l=>by
  have h1:=iZ_ hR hx hy l
  have h2:=gT_ hR hx l
  have e:evalP (a::l) y- evalP (a::l) x=(evalP l y- evalP l x) * y+evalP l x* (y- x):=by rw[aB_,aB_];grind
  have h3:=pO_ ((evalP l y- evalP l x) * y) (evalP l x* (y- x))
  rw[fC_,fC_] at h3
  have hd:=ab_nn (y- x)
  have h4:=fJ_ h1 hy (ab_nn y) (Rat.mul_nonneg (bL_nn hR l) hd)
  have h5:=Rat.mul_le_mul_of_nonneg_right h2 hd
  rw[e,bL];grind
def bT(R:Rat):List Rat→Rat
 |[]=>0
 |_::l=>bT R l* R+bL R l
theorem bT_nn{R:Rat}(hR:0≤R):∀l,0≤bT R l
 |[]=>by simp[bT]
 |a::l=>by
  have h1:=Rat.mul_nonneg (bT_nn hR l) hR
  have h2:=bL_nn hR l
  rw[bT];grind
theorem mT_{R x y:Rat}(hR:0≤R)(hx:ab x≤R)(hy:ab y≤R):∀l,ab (evalP l y- evalP l x- (y- x) * dvE l x)≤bT R l* (ab (y- x) * ab (y- x))
 |[]=>by
  rw[aG_,aG_,bT,show dvE [] x=0 from rfl,Rat.zero_mul,Rat.mul_zero]
  decide+kernel
 |a::l=>by
  have h1:=mT_ hR hx hy l
  have h2:=iZ_ hR hx hy l
  have e:evalP (a::l) y- evalP (a::l) x- (y- x) * dvE (a::l) x=(evalP l y- evalP l x- (y- x) * dvE l x) * x+(evalP l y- evalP l x) * (y- x):=by rw[aB_,aB_,cn_];grind
  have h3:=pO_ ((evalP l y- evalP l x- (y- x) * dvE l x) * x) ((evalP l y- evalP l x) * (y- x))
  rw[fC_,fC_] at h3
  have hd:=ab_nn (y- x)
  have h4:=fJ_ h1 hx (ab_nn x) (Rat.mul_nonneg (bT_nn hR l) (Rat.mul_nonneg hd hd))
  have h5:=Rat.mul_le_mul_of_nonneg_right h2 hd
  rw[e,bT];grind
inductive Gsn:Int→List Int→List Int→Prop
 |nil {t:Int}:Gsn t [] []
 |solid {t s:Int} {l l':List Int}:s≠0→Gsn s l l'→Gsn t (s::l) (s::l')
 |weak {t x y:Int} {l l':List Int}:(x=0∨x=t∨x= -t)→(y=0∨y=t∨y= -t)→Gsn (-t) l l'→Gsn t (x:: -t::l) (y:: -t::l')
theorem je_:∀(l:List Int) (n t:Int),chL l n t=n+chL l 0 t
 |[],n,t=>by simp[chL]
 |s::l,n,t=>by
  unfold chL
  by_cases hs:s≠0
  rw[if_pos hs,if_pos hs,je_ l (if s= -t then n+1 else n),je_ l (if s= -t then 0+1 else 0)]
  split <;> omega
  rw[if_neg hs,if_neg hs]
  exact je_ l n t
theorem py_{t x:Int}(ht:t≠0)(hx:x=0∨x=t∨x= -t)(l:List Int)(n:Int):chL (x:: -t::l) n t=chL l (n+1) (-t):=by
 rcases hx with rfl|rfl|rfl
 rw[chL,if_neg (by simp),chL,if_pos (by omega),if_pos rfl]
 rw[chL,if_pos ht,if_neg (by omega),chL,if_pos (by omega),if_pos rfl]
 rw[chL,if_pos (by omega),if_pos rfl,chL,if_pos (by omega),if_neg (by omega)]
theorem pA_{t:Int}{l l':List Int}(h:Gsn t l l'):t≠0→∀n,chL l n t=chL l' n t:=by
 induction h with
 |nil=>exact fun _ _=>rfl
 |solid hs _ ih=>
  intro ht n
  rw[chL,if_pos hs,chL,if_pos hs]
  exact ih hs _
 |weak hx hy _ ih=>
  intro ht n
  rw[py_ ht hx,py_ ht hy]
  exact ih (by omega) _
theorem pz_{s:Int}{l l':List Int}(hs:s≠0)(h:Gsn s l l'):chL (s::l) 0 0=chL (s::l') 0 0:=by
 rw[chL,if_pos hs,chL,if_pos hs]
 exact pA_ h hs _
theorem pB_{s s' t:Int}{l l':List Int}(ht:t=1∨t= -1)(hs: -1≤s∧s≤1)(hs': -1≤s'∧s'≤1)(hm:t* s≤t* s')(h:Gsn t l l'):chL (s'::t::l') 0 0≤chL (s::t::l) 0 0:=by
 have ht0:t≠0:=by omega
 have key:∀(u:Int) (k:List Int),-1≤u∧u≤1→chL (u::t::k) 0 0=(if u= -t then 1 else 0)+chL k 0 t:=fun u k hu=>by
  by_cases h0:u=0
  subst h0
  rw[chL,if_neg (by simp),chL,if_pos ht0,if_neg (by omega),if_neg (by omega)]
  omega
  rw[chL,if_pos h0,if_neg (by omega),chL,if_pos ht0,je_]
  by_cases h1:u= -t
  rw[if_pos (by omega),if_pos h1];omega
  rw[if_neg (by omega),if_neg h1]
 rw[key s l hs,key s' l' hs',pA_ h ht0 0]
 rcases ht with rfl|rfl <;> split <;> split <;> omega
theorem num_pos{q:Rat}:0< q.num↔0< q:=by
 have h1:=hd_ q
 have h2:0≤q.num↔0≤q:=Rat.num_nonneg
 have h3:q.num=0↔q=0:=Rat.num_eq_zero
 constructor
 intro h
 have a:=h2.1 (by omega)
 have b:q≠0:=fun e=>by have:=h3.2 e;omega
 grind
 intro h
 have a:=h2.2 (by grind)
 have b:q.num≠0:=fun e=>by have:=h3.1 e;grind
 omega
theorem g8_{q:List Rat}{x:Rat}(h:0< evalP q x):sgE x q=1:=by
 have:=sgZ_num_gt.2 h
 have:=g7_ (evalP q x).num
 unfold sgE;omega
theorem kk_{q:List Rat}{x:Rat}(h:evalP q x< 0):sgE x q= -1:=by
 have:=sgZ_num_lt.2 h
 have:=g7_ (evalP q x).num
 unfold sgE;omega
theorem op_{q:List Rat}{x:Rat}(h:evalP q x=0):sgE x q=0:=sgZ_num_eq.2 h
theorem dZ_(x:Rat)(q:List Rat): -1≤sgE x q∧sgE x q≤1:=g7_ _
theorem dA_(x:Rat)(q:List Rat):(sgE x q=1∧0< evalP q x)∨(sgE x q= -1∧evalP q x< 0)∨(sgE x q=0∧evalP q x=0):=by
 by_cases h:0< evalP q x
 exact .inl ⟨g8_ h,h⟩
 by_cases h':evalP q x< 0
 exact .inr (.inl ⟨kk_ h',h'⟩)
 have e:evalP q x=0:=by grind
 exact .inr (.inr ⟨op_ e,e⟩)
theorem oq_{q:List Rat}{x y:Rat}(h:evalP q x≤evalP q y):sgE x q≤sgE y q:=by
 rcases dA_ x q with⟨a,b⟩|⟨a,b⟩|⟨a,b⟩
 rw[a,g8_ (by grind)];decide
 have:=dZ_ y q;omega
 by_cases h0:0< evalP q y
 rw[a,g8_ h0];decide
 rw[a,op_ (by grind)];decide
theorem part(e:Rat){d:Rat}(he:0< e)(hd:0< d):∃h:Rat,0< h∧h* d=e:=by
 refine⟨e/ d,?_,Rat.div_mul_cancel (by grind)⟩
 have e1:e/ d* d=e:=Rat.div_mul_cancel (by grind)
 by_cases h:0< e/ d
 exact h
 have h2:e/ d* d≤0* d:=Rat.mul_le_mul_of_nonneg_right (by grind) (by grind)
 rw[Rat.zero_mul] at h2
 grind
theorem less(a b:Rat)(ha:0< a)(hb:0< b):∃h:Rat,0< h∧h≤a∧h≤b:=by
 by_cases h:a≤b
 exact⟨a,ha,by grind,h⟩
 exact⟨b,hb,by grind,by grind⟩
theorem keep(u:List Rat){R e:Rat}(hR:0≤R)(he:0< e):∃h:Rat,0< h∧∀x y:Rat,ab x≤R→ab y≤R→ab (y- x)≤h→e≤ab (evalP u x)→sgE y u=sgE x u∧sgE x u≠0:=by
 have hL:=bL_nn hR u
 obtain⟨h,h0,h1⟩:=part e (d:=2* (bL R u+1)) he (by grind)
 refine⟨h,h0,fun x y hx hy hd ha=>?_⟩
 have h2:=iZ_ hR hx hy u
 have h3:=Rat.mul_le_mul_of_nonneg_left hd hL
 have h4:ab (evalP u y- evalP u x)< e:=by grind
 have h5:=ab_le (x:=evalP u y- evalP u x) (c:=ab (evalP u y- evalP u x))|>.1 (by grind)
 rcases dA_ x u with⟨a,b⟩|⟨a,b⟩|⟨a,b⟩
 have h6:ab (evalP u x)=evalP u x:=by unfold ab;rw[if_neg (by grind)]
 rw[a,g8_ (by grind)];decide
 have h6:ab (evalP u x)= -evalP u x:=by unfold ab;rw[if_pos b]
 rw[a,kk_ (by grind)];decide
 have h6:ab (evalP u x)=0:=by rw[b];decide
 grind
inductive Ch:List Rat→List (List Rat)→Prop
 |one {u:List Rat} {c:Rat}:c≠0→(∀x,evalP u x=c)→Ch u []
 |pair {u v:List Rat}:Ch v []→Ch u [v]
 |step {u v w:List Rat} {L:List (List Rat)} {a c:Rat} {q:List Rat}:0< a→0< c→(∀x,a* evalP u x+c* evalP w x=evalP q x* evalP v x)→Ch v (w::L)→Ch u (v::w::L)
def Cl(u:List Rat)(L:List (List Rat)):Prop:=∀R e:Rat,0≤R→0< e→∃h:Rat,0< h∧∀x y:Rat,ab x≤R→ab y≤R→ab (y- x)≤h→e≤ab (evalP u x)→
 sgE y u=sgE x u∧sgE x u≠0∧Gsn (sgE x u) (L.map (sgE x)) (L.map (sgE y))
theorem Ch.const{v:List Rat}(h:Ch v []):∃c:Rat,c≠0∧∀x,evalP v x=c:=by
 cases h with
 |one hc h=>exact⟨_,hc,h⟩
theorem Ch.sg{v:List Rat}(h:Ch v [])(x y:Rat):sgE y v=sgE x v∧sgE x v≠0:=by
 obtain⟨c,hc,h⟩:=h.const
 have e:sgE y v=sgE x v:=by unfold sgE;rw[h,h]
 refine⟨e,?_⟩
 rcases dA_ x v with⟨a,b⟩|⟨a,b⟩|⟨a,b⟩
 omega
 omega
 rw[h] at b;exact absurd b hc
theorem Ch.cl{u:List Rat}{L:List (List Rat)}(H:Ch u L):Cl u L∧∀v L',L=v::L'→Cl v L':=by
 induction H with
 | @one u c hc hu=>
  refine⟨fun R e hR he=>?_,fun _ _ h=>by cases h⟩
  obtain⟨h,h0,h1⟩:=keep u hR he
  exact⟨h,h0,fun x y hx hy hd ha=>⟨(h1 x y hx hy hd ha).1,(h1 x y hx hy hd ha).2,.nil⟩⟩
 | @pair u v hv ih=>
  refine⟨fun R e hR he=>?_,fun _ _ h=>by cases h;exact ih.1⟩
  obtain⟨h,h0,h1⟩:=keep u hR he
  refine⟨h,h0,fun x y hx hy hd ha=>⟨(h1 x y hx hy hd ha).1,(h1 x y hx hy hd ha).2,?_⟩⟩
  simp only[List.map_cons,List.map_nil]
  rw[(hv.sg x y).1]
  exact .solid (hv.sg x y).2 .nil
 | @step u v w L a c q ha hc hrel hv ih=>
  refine⟨fun R e hR he=>?_,fun _ _ h=>by cases h;exact ih.1⟩
  have hQ:=bV_nn hR q
  have hae:=Rat.mul_pos ha he
  obtain⟨e1,he1,he1'⟩:=part (a* e) (d:=2* (bV R q+1)) hae (by grind)
  obtain⟨e2,he2,he2'⟩:=part (a* e) (d:=2* c) hae (by grind)
  obtain⟨h0,p0,k0⟩:=keep u hR he
  obtain⟨h1,p1,k1⟩:=ih.1 R e1 hR he1
  obtain⟨h2,p2,k2⟩:=ih.2 w L rfl R e2 hR he2
  obtain⟨h3,p3,l3,m3⟩:=less h0 h1 p0 p1
  obtain⟨h,p,l,m⟩:=less h3 h2 p3 p2
  refine⟨h,p,fun x y hx hy hd hu=>?_⟩
  obtain⟨s1,s2⟩:=k0 x y hx hy (by grind) hu
  refine⟨s1,s2,?_⟩
  by_cases hvx:e1≤ab (evalP v x)
  obtain⟨t1,t2,t3⟩:=k1 x y hx hy (by grind) hvx
  simp only[List.map_cons] at t3⊢
  rw[t1]
  exact .solid t2 t3
  have b1:=fJ_ (gT_ hR hx q) (show ab (evalP v x)≤e1 by grind) (ab_nn _) hQ
  rw[←fC_,←hrel x] at b1
  have b2:=ab_le.1 b1
  have b3:bV R q* e1+e1=a* e/ 2:=by grind
  have key:sgE x w= -sgE x u∧e2≤ab (evalP w x):=by
   rcases dA_ x u with⟨g1,g2⟩|⟨g1,g2⟩|⟨g1,g2⟩
   have g3:ab (evalP u x)=evalP u x:=by unfold ab;rw[if_neg (by grind)]
   rw[g3] at hu
   have g4:=Rat.mul_le_mul_of_nonneg_left hu (show 0≤a by grind)
   have g5:evalP w x≤ -e2:=by
    by_cases g:evalP w x≤ -e2
    exact g
    have:=Rat.mul_pos hc (show 0< evalP w x+e2 by grind)
    grind
   refine⟨by rw[g1,kk_ (by grind)],?_⟩
   unfold ab;rw[if_pos (by grind)];grind
   have g3:ab (evalP u x)= -evalP u x:=by unfold ab;rw[if_pos g2]
   rw[g3] at hu
   have g4:=Rat.mul_le_mul_of_nonneg_left hu (show 0≤a by grind)
   have g5:e2≤evalP w x:=by
    by_cases g:e2≤evalP w x
    exact g
    have:=Rat.mul_pos hc (show 0< e2- evalP w x by grind)
    grind
   refine⟨by rw[g1,g8_ (by grind)];decide,?_⟩
   unfold ab;rw[if_neg (by grind)];grind
   exact absurd g1 s2
  obtain⟨t1,t2,t3⟩:=k2 x y hx hy (by grind) key.2
  simp only[List.map_cons]
  rw[t1,key.1]
  rw[key.1] at t3
  have c1:=dZ_ x u
  have c2:=dZ_ x v
  have c3:=dZ_ y v
  exact .weak (by omega) (by omega) t3
theorem Ch.bez{u:List Rat}{M:List (List Rat)}(H:Ch u M):∀v L,M=v::L→∃a b:List Rat,∀x,evalP a x* evalP u x+evalP b x* evalP v x=1:=by
 induction H with
 |one hc hu=>exact fun _ _ h=>by cases h
 | @pair u v hv ih=>
  intro v' L h
  cases h
  obtain⟨c,hc,h⟩:=hv.const
  refine⟨[],[1/ c],fun x=>?_⟩
  rw[h,aG_,aB_,aG_]
  have:1/ c* c=1:=Rat.div_mul_cancel hc
  grind
 | @step u v w L a c q ha hc hrel hv ih=>
  intro v' L' h
  cases h
  obtain⟨a',b',h⟩:=ih w L rfl
  refine⟨az_ b' (-(a/ c)),addP a' (az_ (mulP b' q) (1/ c)),fun x=>?_⟩
  rw[aA_,bi_,aA_,ar_]
  have h1:=h x
  have h2:=hrel x
  have h3:1/ c* c=1:=Rat.div_mul_cancel (by grind)
  have h4:a/ c=a* (1/ c):=by grind
  have h5:evalP w x=(1/ c) * (evalP q x* evalP v x- a* evalP u x):=by
   have:evalP w x=(1/ c* c) * evalP w x:=by rw[h3];grind
   rw[this,←h2];grind
  rw[h5] at h1
  rw[h4];grind
theorem arch(c:Rat){h:Rat}(hh:0< h):∃n:Nat,c≤((n:Int):Rat) * h:=by
 by_cases hc:c≤0
 exact⟨0,by rw[show((((0:Nat):Int)):Rat)=0 from rfl,Rat.zero_mul];exact hc⟩
 obtain⟨k,hk,e⟩:=part c (d:=h) (by grind) hh
 refine⟨k.num.natAbs,?_⟩
 have h1:k≤((k.num.natAbs:Int):Rat):=by
  have hn:0< k.num:=num_pos.2 hk
  rw[Rat.le_iff]
  show k.num* 1≤(k.num.natAbs:Int) * (k.den:Int)
  have h3:(k.num.natAbs:Int)=k.num:=by omega
  have h4:=Int.mul_le_mul_of_nonneg_left (show(1:Int)≤(k.den:Int) by have:=k.den_pos;omega) (show 0≤k.num by omega)
  rw[h3];exact h4
 have h5:=Rat.mul_le_mul_of_nonneg_right h1 (show 0≤h by grind)
 grind
theorem grid {f:Rat→Int} (r:Int→Int→Prop) (hr:∀a,r a a) (ht:∀a b c,r a b→r b c→r a c) {lo hi h:Rat} (hh:0< h)
    (hs:∀x y,lo≤x→x≤y→y≤hi→y- x≤h→r (f x) (f y)):∀(n:Nat) (x y:Rat),lo≤x→x≤y→y≤hi→y- x≤((n:Int):Rat) * h→r (f x) (f y)
 |0,x,y,h1,h2,h3,h4=>by
  have:y=x:=by
   rw[show((((0:Nat):Int)):Rat)=0 from rfl,Rat.zero_mul] at h4
   grind
  rw[this];exact hr _
 |n+1,x,y,h1,h2,h3,h4=>by
  by_cases hd:y- x≤h
  exact hs x y h1 h2 h3 hd
  refine ht _ _ _ (hs x (x+h) h1 (by grind) (by grind) (by grind)) (grid r hr ht hh hs n (x+h) y (by grind) (by grind) h3 ?_)
  have e:(((n+1:Nat):Int):Rat)=((n:Int):Rat)+1:=by
   rw[Int.natCast_add,Rat.intCast_add];rfl
  rw[e] at h4
  grind
theorem way {f:Rat→Int} (r:Int→Int→Prop) (hr:∀a,r a a) (ht:∀a b c,r a b→r b c→r a c) {x y h:Rat} (hh:0< h) (hxy:x≤y)
    (hs:∀u v,x≤u→u≤v→v≤y→v- u≤h→r (f u) (f v)):r (f x) (f y):=by
 obtain⟨n,hn⟩:=arch (y- x) hh
 exact grid r hr ht hh hs n x y (by grind) hxy (by grind) hn
def chV(l:List (List Rat))(x:Rat):Int:=chL (l.map (sgE x)) 0 0
theorem ab_in{x y u:Rat}(h1:x≤u)(h2:u≤y):ab u≤ab x+ab y:=by
 have a1:=ab_le (x:=x) (c:=ab x)|>.1 (by grind)
 have a2:=ab_le (x:=y) (c:=ab y)|>.1 (by grind)
 have a3:=ab_nn x
 have a4:=ab_nn y
 exact ab_le.2 ⟨by grind,by grind⟩
theorem ab_sub{u v h:Rat}(h1:u≤v)(h2:v- u≤h):ab (v- u)≤h:=by
 unfold ab;rw[if_neg (by grind)];exact h2
theorem Ch.same{u:List Rat}{L:List (List Rat)}(H:Ch u L){e x y:Rat}(he:0< e)(hxy:x≤y)(ha:∀z,x≤z→z≤y→e≤ab (evalP u z)):chV (u::L) x=chV (u::L) y:=by
 obtain⟨h,h0,h1⟩:=H.cl.1 (ab x+ab y) e (by have:=ab_nn x;have:=ab_nn y;grind) he
 refine way (f:=chV (u::L)) (· = ·) (fun _=>rfl) (fun _ _ _=>Eq.trans) h0 hxy fun z w a b c d=>?_
 obtain⟨s1,s2,s3⟩:=h1 z w (ab_in a (by grind)) (ab_in (by grind) c) (ab_sub b d) (ha z a (by grind))
 unfold chV
 simp only[List.map_cons]
 rw[s1]
 exact pz_ s2 s3
theorem outweigh{k T d uz uw D e v:Rat}(hk:0< k)(h1:k* -T≤k* (uw- uz- d* D))(h2:T* k≤d* e)(h3:d* e≤d* v)(h4:v=k* D):uz≤uw:=by
 subst h4
 by_cases h:uz≤uw
 exact h
 have:=Rat.mul_pos hk (show 0< uz- uw by grind)
 grind
theorem outweigh'{k T d uz uw D e v:Rat}(hk:0< k)(h1:k* (uw- uz- d* D)≤k* T)(h2:T* k≤d* e)(h3:d* e≤d* -v)(h4:v=k* D):uw≤uz:=by
 subst h4
 by_cases h:uw≤uz
 exact h
 have:=Rat.mul_pos hk (show 0< uw- uz by grind)
 grind
theorem Ch.fall{u v:List Rat}{L:List (List Rat)}{k:Rat}(H:Ch u (v::L))(hk:0< k)(hd:∀x,evalP v x=k* dvE u x){x y:Rat}(hxy:x≤y):chV (u::v::L) y≤chV (u::v::L) x:=by
 have hR:0≤ab x+ab y:=by have:=ab_nn x;have:=ab_nn y;grind
 generalize hRe:ab x+ab y=R at hR
 obtain⟨a,b,hb⟩:=H.bez v L rfl
 have hA:=bV_nn hR a
 have hB:=bV_nn hR b
 obtain⟨e,he,he'⟩:=part 1 (d:=2* (bV R a+bV R b+1)) (by decide+kernel) (by grind)
 obtain⟨h1,p1,k1⟩:=H.cl.1 R e hR he
 obtain⟨h2,p2,k2⟩:=H.cl.2 v L rfl R e hR he
 have hT:=bT_nn hR u
 obtain⟨h3,p3,e3⟩:=part e (d:=k* (bT R u+1)) he (Rat.mul_pos hk (by grind))
 obtain⟨h4,p4,l4,m4⟩:=less h1 h2 p1 p2
 obtain⟨h,p,l,m⟩:=less h4 h3 p4 p3
 refine way (f:=chV (u::v::L)) (fun s t=>t≤s) (fun _=>Int.le_refl _) (fun _ _ _ g1 g2=>Int.le_trans g2 g1) p hxy fun z w g1 g2 g3 g4=>?_
 have hz:ab z≤R:=by rw[←hRe];exact ab_in g1 (by grind)
 have hw:ab w≤R:=by rw[←hRe];exact ab_in (by grind) g3
 have hzw:ab (w- z)=w- z:=by unfold ab;rw[if_neg (by grind)]
 by_cases hu:e≤ab (evalP u z)
 obtain⟨s1,s2,s3⟩:=k1 z w hz hw (by grind) hu
 refine Int.le_of_eq ?_
 unfold chV
 simp only[List.map_cons] at s3⊢
 rw[s1]
 exact(pz_ s2 s3).symm
 have hv:e≤ab (evalP v z):=by
  by_cases hv:e≤ab (evalP v z)
  exact hv
  have n1:=fJ_ (gT_ hR hz a) (show ab (evalP u z)≤e by grind) (ab_nn _) hA
  have n2:=fJ_ (gT_ hR hz b) (show ab (evalP v z)≤e by grind) (ab_nn _) hB
  have n3:=pO_ (evalP a z* evalP u z) (evalP b z* evalP v z)
  rw[hb z,fC_,fC_,show ab 1=1 by decide+kernel] at n3
  grind
 obtain⟨s1,s2,s3⟩:=k2 z w hz hw (by grind) hv
 have htan:=mT_ hR hz hw u
 rw[hzw] at htan
 have ht2:=ab_le.1 htan
 have hvz:=hd z
 -- the derivative outweighs what leaves the tangent
 have small:bT R u* ((w- z) * (w- z)) * k≤(w- z) * e:=by
  have q1:=Rat.mul_le_mul_of_nonneg_right (show w- z≤h3 by grind) (show 0≤w- z by grind)
  have q2:=Rat.mul_le_mul_of_nonneg_left q1 hT
  have q3:=Rat.mul_le_mul_of_nonneg_right q2 (show 0≤k by grind)
  have q4:(w- z) * e=bT R u* (h3* (w- z)) * k+(w- z) * h3* k:=by rw[←e3];grind
  have q5:=Rat.mul_nonneg (Rat.mul_nonneg (show 0≤w- z by grind) (show 0≤h3 by grind)) (show 0≤k by grind)
  grind
 have hwz:0≤w- z:=by grind
 unfold chV
 simp only[List.map_cons]
 rw[s1]
 rcases dA_ z v with⟨c1,c2⟩|⟨c1,c2⟩|⟨c1,c2⟩
 have c3:ab (evalP v z)=evalP v z:=by unfold ab;rw[if_neg (by grind)]
 rw[c3] at hv
 have c4:=Rat.mul_le_mul_of_nonneg_left hv hwz
 have up:evalP u z≤evalP u w:=outweigh hk (Rat.mul_le_mul_of_nonneg_left ht2.1 (by grind)) small c4 hvz
 exact pB_ (.inl c1) (dZ_ z u) (dZ_ w u) (by rw[c1];have:=oq_ up;omega) s3
 have c3:ab (evalP v z)= -evalP v z:=by unfold ab;rw[if_pos c2]
 rw[c3] at hv
 have c4:=Rat.mul_le_mul_of_nonneg_left hv hwz
 have up:evalP u w≤evalP u z:=outweigh' hk (Rat.mul_le_mul_of_nonneg_left ht2.2 (by grind)) small c4 hvz
 exact pB_ (.inr c1) (dZ_ z u) (dZ_ w u) (by rw[c1];have:=oq_ up;omega) s3
 exact absurd c1 s2
def nz(p:List Rat):Prop:=trimQ p≠[]
def dg(p:List Rat):Nat:=(trimQ p).length- 1
def md(p q:List Rat):List Rat:=(divP p q).2
def Eqv(p q:List Rat):Prop:=∀x,evalP p x=evalP q x
theorem eqv_trim{p q:List Rat}:Eqv p q↔trimQ p=trimQ q:=
 ⟨cL_,fun h x=>by rw[←bh_ p,h,bh_]⟩
theorem q8_{p q:List Rat}(h:Eqv p q):nz p↔nz q:=by unfold nz;rw[eqv_trim.1 h]
theorem dg_eqv{p q:List Rat}(h:Eqv p q):dg p=dg q:=by unfold dg;rw[eqv_trim.1 h]
theorem oT_{p q:List Rat}(h:Eqv p q):leadP p=leadP q:=by unfold leadP;rw[eqv_trim.1 h]
theorem rg_{p q p' q':List Rat}(h:Eqv p p')(h':Eqv q q'):md p q=md p' q':=by
 unfold md divP;simp only;rw[eqv_trim.1 h,eqv_trim.1 h',oT_ h']
theorem el_{p:List Rat}(h:¬nz p):∀x,evalP p x=0:=fun x=>by
 have:trimQ p=[]:=by unfold nz at h;exact Decidable.byContradiction h
 rw[←bh_,this];rfl
def isDeg(p:List Rat)(n:Nat):Prop:=coP p n≠0∧∀i,n< i→coP p i=0
theorem bN_{p:List Rat}(h:nz p):isDeg p (dg p)∧coP p (dg p)=leadP p:=by
 have hl:=List.length_pos_iff.2 h
 have h1:=bH_ (l:=p) (n:=dg p) (by unfold dg;omega)
 have h2:coP p (dg p)=leadP p:=by
  rw[←bf_];unfold coP;rw[List.getD_eq_getElem?_getD,h1];rfl
 refine⟨⟨by rw[h2];exact bF_ h,fun i hi=>?_⟩,h2⟩
 rw[←bf_]
 exact cr_ (by unfold dg at hi;omega)
theorem gz_{p:List Rat}{n:Nat}(h:isDeg p n):nz p∧dg p=n∧leadP p=coP p n:=by
 have h0:nz p:=fun e=>h.1 (trim_nil_iff.1 e n)
 obtain⟨h1,h2⟩:=bN_ h0
 have e:dg p=n:=by
  rcases Nat.lt_trichotomy (dg p) n with h3|h3|h3
  exact absurd (h1.2 n h3) h.1
  exact h3
  exact absurd (h.2 _ h3) h1.1
 exact⟨h0,e,by rw[←h2,e]⟩
theorem m7_{p:List Rat}(h:∀i,coP p i=0)(q:List Rat)(k:Nat):coP (mulL p q) k=0:=by
 induction p generalizing k with
 |nil=>rfl
 |cons a p ih=>
  have ha:a=0:=h 0
  rw[mulL,cZ_,cB_,ha]
  cases k with
  |zero=>rw[cv_];grind
  |succ k=>rw[b1_,ih fun i=>h (i+1)];grind
theorem m6_(p q:List Rat):∀(n m:Nat),(∀i,n< i→coP p i=0)→(∀i,m< i→coP q i=0)→coP (mulL p q) (n+m)=coP p n* coP q m∧∀k,n+m< k→coP (mulL p q) k=0:=by
 induction p with
 |nil=>intro n m _ _;exact⟨by show(0:Rat)=0* _;grind,fun _ _=>rfl⟩
 |cons a p ih=>
  intro n m hn hm
  cases n with
  |zero=>
   have h0:∀i,coP p i=0:=fun i=>hn (i+1) (by omega)
   have hk:∀k,coP (mulL (a::p) q) k=coP q k* a:=fun k=>by
    rw[mulL,cZ_,cB_]
    cases k with
    |zero=>rw[cv_];grind
    |succ k=>rw[b1_,m7_ h0];grind
   refine⟨by rw[Nat.zero_add,hk,cv_];grind,fun k hk'=>?_⟩
   rw[hk,hm k (by omega)];grind
  |succ n=>
   obtain⟨h1,h2⟩:=ih n m (fun i hi=>hn (i+1) (by omega)) hm
   have hk:∀k,m< k+1→coP (mulL (a::p) q) (k+1)=coP (mulL p q) k:=fun k h=>by
    rw[mulL,cZ_,cB_,b1_,hm _ h];grind
   refine⟨by rw[show n+1+m=(n+m)+1 by omega,hk _ (by omega),h1,b1_],fun k hk'=>?_⟩
   obtain⟨j,rfl⟩:∃j,k=j+1:=⟨k- 1,by omega⟩
   rw[hk _ (by omega)];exact h2 j (by omega)
theorem rt_{p q:List Rat}{n m:Nat}(hp:isDeg p n)(hq:isDeg q m):isDeg (mulP p q) (n+m)∧coP (mulP p q) (n+m)=coP p n* coP q m:=by
 obtain⟨h1,h2⟩:=m6_ p q n m hp.2 hq.2
 refine⟨⟨?_,fun i hi=>by rw[gm_];exact h2 i hi⟩,by rw[gm_];exact h1⟩
 rw[gm_,h1]
 have a:=hp.1;have b:=hq.1
 intro e
 rcases Rat.mul_eq_zero.1 e with h|h
 exact a h
 exact b h
theorem sr_{p q:List Rat}(hp:nz p)(hq:nz q):nz (mulP p q)∧dg (mulP p q)=dg p+dg q∧leadP (mulP p q)=leadP p* leadP q:=by
 obtain⟨a1,a2⟩:=bN_ hp
 obtain⟨b1,b2⟩:=bN_ hq
 obtain⟨c1,c2⟩:=rt_ a1 b1
 obtain⟨d1,d2,d3⟩:=gz_ c1
 exact⟨d1,d2,by rw[d3,c2,a2,b2]⟩
theorem dg_mul'{p q r:List Rat}(hp:nz p)(hq:nz q)(h:∀x,evalP r x=evalP p x* evalP q x):nz r∧dg r=dg p+dg q∧leadP r=leadP p* leadP q:=by
 have e:Eqv r (mulP p q):=fun x=>by rw[h,ar_]
 obtain⟨h1,h2,h3⟩:=sr_ hp hq
 exact⟨(q8_ e).2 h1,(dg_eqv e).trans h2,(oT_ e).trans h3⟩
theorem dP_{p:List Rat}{k:Rat}(hp:nz p)(hk:k≠0){r:List Rat}(h:∀x,evalP r x=evalP p x* k):nz r∧dg r=dg p∧leadP r=leadP p* k:=by
 have hc:isDeg [k] 0:=⟨hk,fun i hi=>by obtain⟨j,rfl⟩:∃j,i=j+1:=⟨i- 1,by omega⟩;rfl⟩
 obtain⟨c1,c2,c3⟩:=gz_ hc
 obtain⟨h1,h2,h3⟩:=dg_mul' hp c1 (r:=r) (fun x=>by rw[h];show _=_* (0* x+k);grind)
 exact⟨h1,by omega,by rw[h3,c3];rfl⟩
theorem cE_(p:List Rat){q:List Rat}(hq:nz q):(∀x,evalP p x=evalP (divP p q).1 x* evalP q x+evalP (md p q) x)∧(nz (md p q)→dg (md p q)< dg q):=by
 obtain⟨h1,h2⟩:=cp_ p q hq
 refine⟨fun x=>(h1 x).symm,fun h=>?_⟩
 have:=List.length_pos_iff.2 h
 unfold md at *
 unfold dg;omega
theorem eS_{p q u v:List Rat}(hq:nz q)(h:∀x,evalP p x=evalP u x* evalP q x+evalP v x)(hv:nz v→dg v< dg q):Eqv (md p q) v:=by
 obtain⟨h1,h2⟩:=cE_ p hq
 by_cases hw:nz (subP u (divP p q).1)
 exfalso
 obtain⟨c1,c2,_⟩:=dg_mul' hw hq (r:=subP (md p q) v) (fun x=>by
  rw[bm_,bm_];have:=h x;have:=h1 x;grind)
 have hz:∀r,(nz r→dg r< dg q)→∀i,dg q≤i→coP r i=0:=fun r hr i hi=>by
  by_cases hz:nz r
  exact(bN_ hz).1.2 i (by have:=hr hz;omega)
  exact trim_nil_iff.1 (Decidable.byContradiction hz) i
 have:=(bN_ c1).1.1
 rw[c2,ed_,hz _ h2 _ (by omega),hz _ hv _ (by omega)] at this
 grind
 intro x
 have:=el_ hw x
 rw[bm_] at this
 have:=h x;have:=h1 x
 grind
theorem md_add{p p' q u:List Rat}(hq:nz q)(h:∀x,evalP p x=evalP u x* evalP q x+evalP p' x):Eqv (md p q) (md p' q):=by
 obtain⟨h1,h2⟩:=cE_ p' hq
 exact eS_ (u:=addP u (divP p' q).1) hq (fun x=>by rw[h,h1,bi_];grind) h2
theorem rf_{p q:List Rat}(hq:nz q)(h:nz p→dg p< dg q):Eqv (md p q) p:=
 eS_ (u:=[]) hq (fun x=>by rw[aG_];grind) h
theorem maxL2(m a:Rat):m≤maxL [m,a]∧a≤maxL [m,a]:=by
 have e:maxL [m,a]=if 0< cmpQ a m then a else m:=by
  unfold maxL cj_
  simp only[List.foldl_cons,List.foldl_nil,decide_eq_true_eq]
 rw[e]
 unfold cmpQ
 by_cases h1:a< m
 rw[if_pos h1,if_neg (by decide)];grind
 rw[if_neg h1]
 by_cases h2:a=m
 rw[if_pos h2,if_neg (by decide)];grind
 rw[if_neg h2,if_pos (by decide)];grind
theorem lC_(q:Rat):absQ q=ab q:=hu_ q
theorem ly_(lead:Rat):∀(l:List Rat) (m:Rat),m≤boL lead l m∧∀c∈l,ab (c/ lead)≤boL lead l m
 |[],m=>⟨by rw[boL];grind,fun _ h=>by cases h⟩
 |c::l,m=>by
  obtain⟨h1,h2⟩:=ly_ lead l (maxL [m,absQ (c/ lead)])
  obtain⟨h3,h4⟩:=maxL2 m (absQ (c/ lead))
  rw[lC_] at h4
  rw[boL]
  refine⟨by grind,fun d hd=>?_⟩
  rcases List.mem_cons.1 hd with rfl|hd
  rw[lC_] at *;grind
  exact h2 d hd
theorem jf_(p:List Rat):1≤bc_ p:=by
 have:=(ly_ (leadP p) ((trimQ p).take ((trimQ p).length- 1)) 0).1
 unfold bc_;grind
theorem big{B x:Rat}(hB:1≤B)(hx:x≤ -B):∀(l:List Rat) (lead:Rat),l.getLast?=some lead→lead≠0→(∀c∈l.dropLast,ab c≤(B- 1) * ab lead)→
    ab lead≤ab (evalP l x)∧sgE x l=if l.length % 2=1 then sgZ lead.num else -sgZ lead.num
 |[],_,h,_,_=>by cases h
 |[a],lead,h,h0,_=>by
  have e:a=lead:=by simpa using h
  subst e
  have e:evalP [a] x=a:=by rw[aB_,aG_];grind
  refine⟨by rw[e];grind,?_⟩
  unfold sgE
  rw[e];rfl
 |a::b::m,lead,h,h0,hc=>by
  rw[List.getLast?_cons_cons] at h
  rw[List.dropLast_cons_cons] at hc
  obtain⟨i1,i2⟩:=big hB hx (b::m) lead h h0 fun c hcm=>hc c (List.mem_cons_of_mem _ hcm)
  have ha:=hc a (List.mem_cons_self ..)
  have e:evalP (a::b::m) x=evalP (b::m) x* x+a:=aB_ ..
  have flip:(if (a::b::m).length % 2=1 then sgZ lead.num else -sgZ lead.num)= -sgE x (b::m):=by
   rw[i2]
   by_cases hq:(b::m).length % 2=1
   rw[if_pos hq,if_neg (by simp only[List.length_cons] at hq⊢;omega)]
   rw[if_neg hq,if_pos (by simp only[List.length_cons] at hq⊢;omega)];omega
  rw[flip]
  have hE:0< ab (evalP (b::m) x):=by
   have:0< ab lead:=by unfold ab;split <;> grind
   grind
  have h1:=Rat.mul_le_mul_of_nonneg_left i1 (show 0≤B- 1 by grind)
  have h2:=ab_le.1 (show ab a≤(B- 1) * ab (evalP (b::m) x) by grind)
  rcases dA_ x (b::m) with⟨c1,c2⟩|⟨c1,c2⟩|⟨c1,c2⟩
  have h3:ab (evalP (b::m) x)=evalP (b::m) x:=by unfold ab;rw[if_neg (by grind)]
  have h4:=Rat.mul_le_mul_of_nonneg_left hx (show 0≤evalP (b::m) x by grind)
  rw[h3] at h2 i1
  have h5:evalP (a::b::m) x≤ -evalP (b::m) x:=by rw[e];grind
  refine⟨?_,by rw[c1,kk_ (by grind)]⟩
  have h6:ab (evalP (a::b::m) x)= -evalP (a::b::m) x:=by unfold ab;rw[if_pos (by grind)]
  grind
  have h3:ab (evalP (b::m) x)= -evalP (b::m) x:=by unfold ab;rw[if_pos c2]
  have h4:=Rat.mul_le_mul_of_nonneg_left hx (show 0≤ -evalP (b::m) x by grind)
  rw[h3] at h2 i1
  have h5: -evalP (b::m) x≤evalP (a::b::m) x:=by rw[e];grind
  refine⟨?_,by rw[c1,g8_ (by grind)];decide⟩
  have h6:ab (evalP (a::b::m) x)=evalP (a::b::m) x:=by unfold ab;rw[if_neg (by grind)]
  grind
  rw[c2] at hE
  exact absurd hE (by decide+kernel)
theorem g0_{q:List Rat}(h:nz q){x:Rat}(hx:x≤ -bc_ q):ab (leadP q)≤ab (evalP q x)∧sgE x q=sgI q:=by
 have hl:=List.length_pos_iff.2 h
 have hg:=bH_ (l:=q) (n:=(trimQ q).length- 1) (by omega)
 have h1:=big (jf_ q) hx (trimQ q) (leadP q) (by rw[List.getLast?_eq_getElem?];exact hg) (bF_ h) fun c hc=>by
  rw[List.dropLast_eq_take] at hc
  have h2:=(ly_ (leadP q) _ 0).2 c hc
  have h3:=fC_ (c/ leadP q) (leadP q)
  rw[Rat.div_mul_cancel (bF_ h)] at h3
  rw[h3]
  have h4:=Rat.mul_le_mul_of_nonneg_right h2 (ab_nn (leadP q))
  unfold bc_
  grind
 have e:sgE x (trimQ q)=sgE x q:=by unfold sgE;rw[bh_]
 rw[bh_,e] at h1
 refine⟨h1.1,h1.2.trans ?_⟩
 unfold sgI degP
 by_cases hp:(trimQ q).length % 2=1
 rw[if_pos hp,if_neg (by omega)]
 rw[if_neg hp,if_pos (by omega)]
theorem ri_:∀l:List (List Rat),(∀q∈l,nz q)→∃M:Rat,∀x,x≤ -M→l.map (sgE x)=l.map sgI
 |[],_=>⟨0,fun _ _=>rfl⟩
 |q::l,h=>by
  obtain⟨M,hM⟩:=ri_ l fun r hr=>h r (List.mem_cons_of_mem _ hr)
  have hq:=h q (List.mem_cons_self ..)
  by_cases hb:bc_ q≤M
  exact⟨M,fun x hx=>by rw[List.map_cons,List.map_cons,hM x hx,(g0_ hq (by grind)).2]⟩
  exact⟨bc_ q,fun x hx=>by rw[List.map_cons,List.map_cons,hM x (by grind),(g0_ hq hx).2]⟩
def sg(k:Nat):Rat:=(-1) ^ k
theorem pow_ne{a:Rat}(h:a≠0)(n:Nat):a^ n≠0:=by
 induction n with
 |zero=>rw[Rat.pow_zero];grind
 |succ n ih=>rw[Rat.pow_succ];intro e;rcases Rat.mul_eq_zero.1 e with e|e;exact ih e;exact h e
theorem kV_{p:List Rat}(h:nz p):leadP p≠0:=bF_ h
def Dv(d p:List Rat):Prop:=∃u,∀x,evalP p x=evalP u x* evalP d x
theorem eB_{p q r:List Rat}(h:∀x,evalP r x=evalP p x* evalP q x)(hr:nz r):nz p∧nz q:=by
 constructor
 intro e
 have e':¬nz p:=fun h=>h e
 exact absurd rfl ((q8_ (q:=[]) fun x=>by rw[h,el_ e',aG_];grind).1 hr)
 intro e
 have e':¬nz q:=fun h=>h e
 exact absurd rfl ((q8_ (q:=[]) fun x=>by rw[h,el_ e',aG_];grind).1 hr)


theorem gk_{p:List Rat}(h:nz p):degP p=(dg p:Int):=by
 have:=List.length_pos_iff.2 h
 unfold degP dg;omega
theorem degP_nil{p:List Rat}:degP p< 0↔¬nz p:=by
 unfold degP nz
 constructor
 intro h e
 have:=List.length_pos_iff.2 e
 omega
 intro h
 have:trimQ p=[]:=Decidable.byContradiction h
 rw[this];decide
theorem d5_{p:List Rat}(h:nz p):(∀x,evalP (a6_ p) x=evalP p x* (1/ leadP p))∧nz (a6_ p)∧dg (a6_ p)=dg p:=by
 have hl:=kV_ h
 have e:∀x,evalP (a6_ p) x=evalP p x* (1/ leadP p):=fun x=>by unfold a6_;rw[if_neg h,aA_]
 have hk:1/ leadP p≠0:=fun e=>by have:1/ leadP p* leadP p=1:=by grind
                                 rw[e] at this;grind
 obtain⟨a,b,_⟩:=dP_ h hk e
 exact⟨e,a,b⟩
theorem kR_(p:List Rat):∃k k':Rat,k* k'=1∧∀x,evalP (a6_ p) x=evalP p x* k:=by
 by_cases h:nz p
 refine⟨1/ leadP p,leadP p,Rat.div_mul_cancel (kV_ h),(d5_ h).1⟩
 refine⟨1,1,by decide+kernel,fun x=>?_⟩
 have e:trimQ p=[]:=Decidable.byContradiction h
 unfold a6_
 rw[if_pos e,el_ h,aG_];decide+kernel
theorem Dv.refl(d:List Rat):Dv d d:=⟨[1],fun x=>by rw[aB_,aG_];grind⟩
theorem Dv.zero(d:List Rat){r:List Rat}(h:∀x,evalP r x=0):Dv d r:=⟨[],fun x=>by rw[h,aG_];grind⟩
theorem Dv.trans{a b c:List Rat}(h:Dv a b)(k:Dv b c):Dv a c:=by
 obtain⟨u,hu⟩:=h
 obtain⟨v,hv⟩:=k
 exact⟨mulP v u,fun x=>by rw[hv,hu,ar_];grind⟩
theorem Dv.lin{d p q r:List Rat}{u v:List Rat}(h:Dv d p)(k:Dv d q)(e:∀x,evalP r x=evalP u x* evalP p x+evalP v x* evalP q x):Dv d r:=by
 obtain⟨s,hs⟩:=h
 obtain⟨t,ht⟩:=k
 exact⟨addP (mulP u s) (mulP v t),fun x=>by rw[e,hs,ht,bi_,ar_,ar_];grind⟩
theorem Dv.mul{d p q r:List Rat}(h:Dv d p)(e:∀x,evalP r x=evalP q x* evalP p x):Dv d r:=
 h.lin h (u:=q) (v:=[]) fun x=>by rw[e,aG_];grind
theorem Dv.scale{d p r:List Rat}{k:Rat}(h:Dv d p)(e:∀x,evalP r x=evalP p x* k):Dv d r:=
 h.mul (q:=[k]) fun x=>by rw[e,aB_,aG_];grind
theorem Dv.dg{d p:List Rat}(h:Dv d p)(hp:nz p):dg d≤dg p:=by
 obtain⟨u,hu⟩:=h
 obtain⟨n1,n2⟩:=eB_ hu hp
 have:=(dg_mul' n1 n2 hu).2.1
 omega
theorem ma_{d:List Rat}(h:nz d)(h0:dg d=0):∃c:Rat,c≠0∧∀x,evalP d x=c:=by
 obtain⟨e1,e2⟩:=bN_ h
 refine⟨leadP d,kV_ h,fun x=>?_⟩
 have:trimQ d=trimQ [leadP d]:=trim_iff.2 fun i=>by
  cases i with
  |zero=>rw[cv_,←e2,h0]
  |succ i=>rw[b1_,gl_];exact e1.2 _ (by omega)
 rw[←bh_,this,bh_,aB_,aG_];grind
theorem oM_:nz [1]:=by unfold nz;decide+kernel
theorem bez:∀(n:Nat) (p q:List Rat),(trimQ q).length=n→nz p∨nz q→∃g a b:List Rat,nz g∧Dv g p∧Dv g q∧∀x,evalP g x=evalP a x* evalP p x+evalP b x* evalP q x:=by
 intro n
 induction n using Nat.strongRecOn with
 |ind n ih=>
  intro p q hn h
  by_cases hq:nz q
  obtain⟨m1,m2⟩:=cE_ p hq
  have hlt:(trimQ (md p q)).length< n:=by
   have:=(cp_ p q hq).2
   unfold md;omega
  obtain⟨g,a,b,g0,g1,g2,g3⟩:=ih _ hlt q (md p q) rfl (.inl hq)
  refine⟨g,b,subP a (mulP b (divP p q).1),g0,g1.lin g2 (u:=(divP p q).1) (v:=[1]) fun x=>?_,g1,fun x=>?_⟩
  rw[m1,aB_,aG_];grind
  rw[g3,bm_,ar_,m1 x];grind
  have hp:nz p:=h.resolve_right hq
  exact⟨p,[1],[],hp,.refl p,.zero p (el_ hq),fun x=>by rw[aB_,aG_,el_ hq];grind⟩
theorem hY_:∀(f:Nat) (p q g:List Rat),gcdM f p q=some g→nz p∨nz q→nz g∧Dv g p∧Dv g q∧∃a b:List Rat,∀x,evalP g x=evalP a x* evalP p x+evalP b x* evalP q x
 |0,_,_,_,h,_=>by cases h
 |f+1,p,q,g,h,hz=>by
  rw[gcdM] at h
  split at h
  ·rename_i h0
   split at h
   cases h
   have hq:¬nz q:=fun e=>e h0
   have hp:nz p:=hz.resolve_right hq
   obtain⟨m1,m2,_⟩:=d5_ hp
   obtain⟨k,k',hk,m⟩:=kR_ p
   refine⟨m2,⟨[k'],fun x=>by rw[m,aB_,aG_];grind⟩,.zero _ (el_ hq),[k],[],fun x=>by rw[m,aB_,aG_];grind⟩
   cases h
  ·rename_i h0
   split at h
   obtain⟨m1,_⟩:=cE_ p h0
   obtain⟨k,k',hk,m⟩:=kR_ (divP p q).2
   obtain⟨g0,g1,g2,a,b,g3⟩:=hY_ f _ _ _ h (.inl h0)
   refine⟨g0,g1.lin g2 (u:=(divP p q).1) (v:=[k']) fun x=>?_,g1,az_ b k,subP a (az_ (mulP b (divP p q).1) k),fun x=>?_⟩
   rw[m1,m,aB_,aG_]
   show _+evalP (divP p q).2 x=_
   grind
   rw[g3,m,aA_,bm_,aA_,ar_,m1 x]
   show _=_* (_+evalP (divP p q).2 x)+_
   grind
   cases h
theorem lo_{p q:List Rat}(h:∀x,evalP p x=evalP q x)(x:Rat):dvE p x=dvE q x:=ln_ (trim_iff.1 (cL_ h)) x
theorem dvE_k{p r:List Rat}{k:Rat}(h:∀x,evalP r x=evalP p x* k)(x:Rat):dvE r x=dvE p x* k:=by
 rw[lo_ (q:=eA_ p k) (fun x=>by rw[h,dE_]) x,j7_]
def pw(d:List Rat):Nat→List Rat
 |0=>[1]
 |k+1=>mulP (pw d k) d
theorem pw_dv(d:List Rat)(k:Nat)(x:Rat):dvE (pw d (k+1)) x=(((k+1:Nat):Int):Rat) * evalP (pw d k) x* dvE d x:=by
 induction k with
 |zero=>
  show dvE (mulP [1] d) x=_
  rw[i0_,cn_,aG_,show dvE [] x=0 from rfl,aB_,aG_]
  show _=((1:Int):Rat) * evalP [1] x* _
  rw[aB_,aG_,show(((1:Int)):Rat)=1 from rfl];grind
 |succ k ih=>
  show dvE (mulP (pw d (k+1)) d) x=_
  rw[i0_,ih]
  have e:(((k+1+1:Nat):Int):Rat)=(((k+1:Nat):Int):Rat)+1:=by rw[Int.natCast_add,Rat.intCast_add];rfl
  have e2:evalP (pw d (k+1)) x=evalP (pw d k) x* evalP d x:=ar_ _ _ _
  rw[e,e2];grind
theorem pw_dg{d:List Rat}(hd:nz d)(k:Nat):nz (pw d k)∧dg (pw d k)=k* dg d:=by
 induction k with
 |zero=>exact⟨oM_,by rw[Nat.zero_mul];show dg [1]=0;decide+kernel⟩
 |succ k ih=>
  obtain⟨a,b,_⟩:=sr_ ih.1 hd
  exact⟨a,by show dg (mulP _ _)=_;rw[b,ih.2,Nat.succ_mul]⟩
theorem m1_{d:List Rat}(h:dg d≠0)(hd:nz d):nz (ax_ d)∧dg (ax_ d)< dg d:=by
 obtain⟨⟨e1,e2⟩,_⟩:=bN_ hd
 have h1:isDeg (ax_ d) (dg d- 1):=by
  refine⟨?_,fun i hi=>?_⟩
  rw[bt_,show dg d- 1+1=dg d by omega]
  intro e
  rcases Rat.mul_eq_zero.1 e with e|e
  exact e1 e
  have:((dg d:Nat):Int)=0:=by exact_mod_cast e
  omega
  rw[bt_,e2 _ (by omega),Rat.zero_mul]
 obtain⟨a,b,_⟩:=gz_ h1
 exact⟨a,by omega⟩
theorem sqfree{p s g a b:List Rat}(hp:nz p)(h1:∀x,evalP p x=evalP s x* evalP g x)(h3:∀x,evalP g x=evalP a x* evalP p x+evalP b x* evalP (ax_ p) x):
    ∀n d,dg d=n→nz d→Dv d s→Dv d (ax_ s)→dg d=0:=by
 intro n
 induction n using Nat.strongRecOn with
 |ind n ih=>
  intro d hn hd ⟨u,hu⟩ ⟨v,hv⟩
  by_cases h0:dg d=0
  exact h0
  exfalso
  obtain⟨d1,d2⟩:=m1_ h0 hd
  obtain⟨e,a0,b0,e1,e2,e3,e4⟩:=bez _ d (ax_ d) rfl (.inl hd)
  have e5:=e3.dg d1
  have e6:=ih (dg e) (by omega) e rfl e1 (e2.trans ⟨u,hu⟩) (e2.trans ⟨v,hv⟩)
  obtain⟨c,c0,hc⟩:=ma_ e1 e6
  -- the square divides s
  have hs:∀x,dvE s x=dvE u x* evalP d x+evalP u x* dvE d x:=fun x=>by
   rw[lo_ (q:=mulP u d) (fun x=>by rw[hu,ar_]) x,i0_]
  have hc1:1/ c* c=1:=Rat.div_mul_cancel c0
  obtain⟨t,ht⟩:∃t:List Rat,∀x,evalP u x=evalP t x* evalP d x:=by
   refine⟨az_ (addP (mulP a0 u) (mulP b0 (subP v (derL u)))) (1/ c),fun x=>?_⟩
   rw[aA_,bi_,ar_,ar_,bm_,hl_]
   have k1:=e4 x
   have k2:=hv x
   rw[hc,br_] at k1
   rw[br_,hs] at k2
   have k3:evalP u x=(1/ c* c) * evalP u x:=by rw[hc1];grind
   rw[k3]
   generalize 1/ c=m at *
   grind
  obtain⟨n1,n2⟩:=eB_ h1 hp
  have key:∀k,∃w:List Rat,∀x,evalP g x=evalP w x* evalP (pw d k) x:=by
   intro k
   induction k with
   |zero=>exact⟨g,fun x=>by rw[pw,aB_,aG_];grind⟩
   |succ k ihk=>
    obtain⟨w,hw⟩:=ihk
    obtain⟨W,hW⟩:∃W,W=mulP t w:=⟨_,rfl⟩
    have q1:∀x,evalP p x=evalP W x* evalP (pw d (k+2)) x:=fun x=>by
     rw[h1,hw,hu,ht,hW,ar_,pw,ar_,pw,ar_];grind
    have q2:∀x,evalP (ax_ p) x=dvE W x* evalP (pw d (k+2)) x+evalP W x* dvE (pw d (k+2)) x:=fun x=>by
     rw[br_,lo_ (q:=mulP W (pw d (k+2))) (fun x=>by rw[q1,ar_]) x,i0_]
    refine⟨addP (mulP a (mulP W d)) (mulP b (addP (mulP (derL W) d) (mulP (az_ W (((k+1+1:Nat):Int):Rat)) (derL d)))),fun x=>?_⟩
    have q3:=pw_dv d (k+1) x
    have q4:evalP (pw d (k+2)) x=evalP (pw d (k+1)) x* evalP d x:=ar_ _ _ _
    rw[h3,q2,q1,q3,q4]
    simp only[bi_,ar_,aA_,hl_]
    grind
  obtain⟨w,hw⟩:=key (dg g+1)
  obtain⟨m1,m2⟩:=eB_ hw n2
  have m3:=(dg_mul' m1 m2 hw).2.1
  rw[(pw_dg hd _).2] at m3
  have m4:dg g+1≤(dg g+1) * dg d:=Nat.le_mul_of_pos_right _ (by omega)
  omega
theorem ga_{p:List Rat}(h:nz p):∃k:Rat,0< k∧∀x,evalP (primP p) x=evalP p x* k:=by
 have hD:denL (trimQ p) 1≠0:=hn_ _ (by decide)
 have hN:numL (denL (trimQ p) 1) (trimQ p) 0≠0:=by
  intro e
  have h1:=(gA_ (denL (trimQ p) 1) (trimQ p) 0).2
  have h2:=(et_ (trimQ p) 1).2
  have hl:=List.length_pos_iff.2 h
  have hg:=bH_ (l:=p) (n:=(trimQ p).length- 1) (by omega)
  have hm:=List.mem_of_getElem? hg
  have h3:=h1 _ hm
  rw[e] at h3
  exact kW_ (h2 _ hm) hD (bF_ h) (Nat.eq_zero_of_zero_dvd h3)
 refine⟨nQ (denL (trimQ p) 1) / nQ (numL (denL (trimQ p) 1) (trimQ p) 0),?_,fun x=>by unfold primP;rw[aA_,bh_]⟩
 have pos:∀n:Nat,n≠0→(0:Rat)< nQ n:=fun n hn=>by
  rw[←num_pos]
  show 0< (n:Int)
  omega
 obtain⟨k,k0,e⟩:=part (nQ (denL (trimQ p) 1)) (pos _ hD) (pos _ hN)
 rw[←e,Rat.mul_div_cancel (fun e=>hN (nQ_zero.1 e))]
 exact k0
inductive Cx:List Rat→List Rat→List (List Rat)→Prop
 |nil {u n:List Rat}:¬nz n→Cx u n []
 |cons {u n v n' q:List Rat} {L:List (List Rat)} {c:Rat}:0< c→(∀x,evalP v x=evalP n x* c)→nz v→(∀x,evalP n' x=evalP q x* evalP v x- evalP u x)→Cx v n' L→Cx u n (v::L)
theorem e0_:∀(f k:Nat) (last next:List Rat) (acc out:List (List Rat)),ef_ f k last next acc=some out→∃L,out=acc++L∧Cx last next L
 |_,0,_,_,_,_,h=>by cases h
 |f,k+1,last,next,acc,out,h=>by
  rw[ef_] at h
  split at h
  ·rename_i h0
   cases h
   exact⟨[],by simp,.nil fun e=>e h0⟩
  ·rename_i h0
   split at h
   ·rename_i h1
    obtain⟨L,e,hL⟩:=e0_ f k _ _ _ _ h
    obtain⟨c,c0,hc⟩:=ga_ h0
    refine⟨primP next::L,by rw[e,List.append_assoc];rfl,.cons (q:=(divP last (primP next)).1) c0 hc h1.2.2 (fun x=>?_) hL⟩
    have:=(cE_ last h1.2.2).1 x
    unfold md at this
    rw[aA_,this];grind
   cases h
theorem Cx.ch{u n:List Rat}{L:List (List Rat)}(H:Cx u n L):nz u→(∀d,nz d→Dv d u→Dv d n→dg d=0)→Ch u L∧∀v L',L=v::L'→∃c:Rat,0< c∧∀x,evalP v x=c* evalP n x:=by
 induction H with
 | @nil u n hn=>
  intro hu hd
  obtain⟨c,c0,hc⟩:=ma_ hu (hd u hu (.refl u) (.zero u (el_ hn)))
  exact⟨.one c0 hc,fun _ _ h=>by cases h⟩
 | @cons u n v n' q L c hc hv hnv hn' hL ih=>
  intro hu hd
  obtain⟨i1,i2⟩:=ih hnv fun d d0 d1 d2=>hd d d0 (d1.lin d2 (u:=q) (v:=[-1]) fun x=>by rw[hn',aB_,aG_];grind)
   (d1.scale (k:=1/ c) fun x=>by
    rw[hv]
    have:c* (1/ c)=1:=by have:=Rat.div_mul_cancel (a:=1) (b:=c) (by grind);grind
    generalize 1/ c=m at *
    grind)
  refine⟨?_,fun _ _ h=>by cases h;exact⟨c,hc,fun x=>by rw[hv];grind⟩⟩
  cases L with
  |nil=>exact .pair i1
  |cons w L=>
   obtain⟨c',c0,hw⟩:=i2 w L rfl
   exact .step (a:=c') (c:=1) (q:=az_ q c') c0 (by decide+kernel) (fun x=>by rw[hw,hn',aA_];grind) i1
theorem lT_{f:Nat}{p s:List Rat}(h:sqfM f p=some s)(hp:nz p):nz s∧∀d,nz d→Dv d s→Dv d (ax_ s)→dg d=0:=by
 unfold sqfM at h
 split at h
 cases hg:gcdM f p (ax_ p) with
 |none=>rw[hg] at h;cases h
 |some g=>
  rw[hg,Option.bind_some] at h
  split at h
  cases h
  obtain⟨g0,g1,g2,a,b,g3⟩:=hY_ f _ _ _ hg (.inl hp)
  obtain⟨m1,m2⟩:=cE_ p g0
  obtain⟨u,hu⟩:=g1
  have hm:=eS_ (u:=u) (v:=[]) g0 (fun x=>by rw[hu x,aG_];exact(Rat.add_zero _).symm) (fun e=>absurd rfl e)
  have hs:∀x,evalP p x=evalP (divP p g).1 x* evalP g x:=fun x=>by
   have:=m1 x
   rw[hm x,aG_] at this
   rw[this];grind
  obtain⟨n1,n2⟩:=eB_ hs hp
  obtain⟨k,k',hk,m⟩:=kR_ (divP p g).1
  refine⟨(d5_ n1).2.1,fun d d0 d1 d2=>sqfree hp hs g3 _ d rfl d0 (d1.scale (k:=k') fun x=>by rw[m];grind) (d2.scale (k:=k') fun x=>?_)⟩
  rw[br_,br_,dvE_k m x]
  grind
  cases h
 cases h
theorem sC_(u:List Rat)(x:Rat):chV [u] x=0:=by
 unfold chV
 simp only[List.map_cons,List.map_nil]
 unfold chL chL
 split
 ·rename_i h
  have:=dZ_ x u
  by_cases e:sgE x u= -0
  omega
  rw[if_neg e]
 rfl
theorem ft_{f:Nat}{p:List Rat}{c:Cnt}(h:cR_ f p=some c)(hp:nz p):nz c.p∧sqfM f p=some c.p∧e2_ f c.p=some c.ch∧c.far=chV c.ch (-bc_ c.p)∧(∀x,x≤ -bc_ c.p→uptoV c x=0)∧∀x y,x≤y→uptoV c x≤uptoV c y:=by
 unfold cR_ at h
 cases hs:sqfM f p with
 |none=>rw[hs] at h;cases h
 |some s=>
  rw[hs,Option.bind_some] at h
  cases hc:e2_ f s with
  |none=>rw[hc] at h;cases h
  |some ch=>
   rw[hc,Option.bind_some] at h
   split at h
   ·rename_i hok
    cases h
    obtain⟨s0,s1⟩:=lT_ hs hp
    have hc':=hc
    unfold e2_ at hc
    split at hc
    obtain⟨L,e,hL⟩:=e0_ _ _ _ _ _ _ hc
    obtain⟨k,k0,hk⟩:=ga_ s0
    have hkne:k≠0:=by grind
    have hu0:nz (primP s):=(dP_ s0 hkne hk).1
    have hk1:k* (1/ k)=1:=by have:=Rat.div_mul_cancel (a:=1) hkne;grind
    have hk2:0< 1/ k:=by
     obtain⟨m,m0,m1⟩:=part 1 (d:=k) (by decide+kernel) k0
     rw[←m1,Rat.mul_div_cancel hkne];exact m0
    obtain⟨c1,c2⟩:=hL.ch hu0 fun d d0 d1 d2=>s1 d d0 (d1.scale (k:=1/ k) fun x=>by rw[hk];generalize 1/ k=m at *;grind) d2
    have e':ch=primP s::L:=e
    subst e'
    have mono:∀x y,x≤y→chV (primP s::L) y≤chV (primP s::L) x:=fun x y hxy=>by
     cases L with
     |nil=>rw[sC_,sC_];exact Int.le_refl _
     |cons v L=>
      obtain⟨c',c0,hv⟩:=c2 v L rfl
      refine c1.fall (k:=c'* (1/ k)) (Rat.mul_pos c0 hk2) (fun x=>?_) hxy
      rw[hv,br_,dvE_k hk x]
      generalize 1/ k=m at *
      grind
    obtain⟨M,hM⟩:=ri_ (primP s::L) fun q hq=>(hok.1 q hq).1
    have low:∀x,x≤ -bc_ s→chV (primP s::L) x=chL ((primP s::L).map sgI) 0 0:=fun x hx=>by
     by_cases hxM:x≤ -M
     unfold chV;rw[hM x hxM]
     rw[←c1.same (e:=ab (leadP s) * k) (x:= -M) (y:=x) (Rat.mul_pos (by have:=bF_ s0;unfold ab;split <;> grind) k0) (by grind) (fun z z1 z2=>by
      rw[hk,fC_,show ab k=k by unfold ab;rw[if_neg (by grind)]]
      exact Rat.mul_le_mul_of_nonneg_right (g0_ s0 (by grind)).1 (by grind))]
     unfold chV;rw[hM _ (by grind)]
    refine⟨s0,rfl,hc',(low _ (by grind)).symm,fun x hx=>?_,fun x y hxy=>?_⟩
    have:=low x hx
    unfold uptoV
    unfold chV at this
    show _- chL ((primP s::L).map (sgE x)) 0 0=0
    rw[this];simp
    have:=mono x y hxy
    unfold uptoV
    unfold chV at this
    show _- chL ((primP s::L).map (sgE x)) 0 0≤_- chL ((primP s::L).map (sgE y)) 0 0
    omega
    cases hc
   cases h
theorem jH_:qs 1=1:=by decide
theorem hg_{p:List Rat}{t:Nat}(h:bdL p t)(ht:1≤t):qs (leadP p)≤t:=by
 by_cases h0:trimQ p=[]
 rw[iI_ h0];exact Nat.le_trans (by decide:qs 0≤1) ht
 have hl:=List.length_pos_iff.2 h0
 exact h _ (bk_ (List.mem_of_getElem? (bH_ (n:=(trimQ p).length- 1) (by omega))))
theorem ez_{p:List Rat}{k:Rat}(hk:k≠0):(trimQ (az_ p k)).length=(trimQ p).length:=by
 by_cases h:nz p
 obtain⟨a,b,_⟩:=dP_ h hk (r:=az_ p k) fun x=>aA_ p k x
 have h1:=List.length_pos_iff.2 a
 have h2:=List.length_pos_iff.2 h
 unfold dg at b;omega
 have e:trimQ p=[]:=Classical.byContradiction h
 have e2:trimQ (az_ p k)=[]:=by
  have:Eqv (az_ p k) []:=fun x=>by rw[aA_,el_ h,aG_];grind
  exact eqv_trim.1 this
 rw[e,e2]
end Go.Abs
