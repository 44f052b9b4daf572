/- Part W09 of the proof. -/
import Derived.Test.YtdjfjpeoddmamaaGreatDoorW08
set_option linter.all false
namespace Go.Abs
theorem fA_(i:Nat):coP [] i=0:=rfl
theorem cu_(a:Rat)(l:List Rat):coP (a::l) 0=a:=rfl
theorem bS_(a:Rat)(l:List Rat)(i:Nat):coP (a::l) (i+1)=coP l i:=rfl
theorem bs_(l:List Rat)(i:Nat):coP (trimQ l) i=coP l i:=by
 induction l generalizing i with
 |nil=>rfl
 |cons a l ih=>
  rw[bV_]
  split
  ·rename_i h
   have h0:∀j,coP l j=0:=fun j=>by rw[←ih j,h];rfl
   split
   ·rename_i ha
    cases i with
    |zero=>rw[cu_,ha];rfl
    |succ i=>rw[bS_,h0];rfl
   cases i with
   |zero=>rfl
   |succ i=>rw[bS_,bS_,h0];rfl
  cases i with
  |zero=>rfl
  |succ i=>rw[bS_,bS_,ih]
theorem dC_(n:Nat)(f:Nat→Rat)(i:Nat):coP (tabP n f) i=if i< n then f i else 0:=by
 unfold coP tabP
 rw[List.getD_eq_getElem?_getD,List.getElem?_map]
 by_cases h:i< n
 rw[if_pos h,List.getElem?_range h];rfl
 rw[if_neg h,List.getElem?_eq_none (by simp;omega)];rfl
theorem dW_(p q:List Rat)(i:Nat):coP (addP p q) i=coP p i+coP q i:=by
 unfold addP
 rw[bs_,dC_]
 split
 rfl
 ·rename_i h
  rw[cs_ (by omega),cs_ (by omega)];grind
theorem bN_(p:List Rat)(k:Rat)(i:Nat):coP (aN_ p k) i=coP p i* k:=by
 unfold aN_
 rw[bs_,dC_]
 split
 rfl
 ·rename_i h
  rw[cs_ (by omega)];grind
theorem j7_(p q:List Rat)(i:Nat):coP (subP p q) i=coP p i- coP q i:=by
 unfold subP
 rw[dW_,bN_];grind
theorem qC_(a:Rat)(i:Nat):coP (dB_ a) i=if i=0 then a else 0:=by
 unfold dB_
 rw[bs_]
 cases i <;> rfl
theorem cD_(p:List Rat)(i:Nat):coP (a2_ p) i=coP p (i+1) * ((i+1:Nat):Int):=by
 unfold a2_
 rw[bs_,dC_]
 split
 rfl
 ·rename_i h
  rw[cs_ (by omega)];grind
theorem bE_(p:List Rat)(i:Nat):coP (aI_ p) i=if i=0 then 0 else coP p (i- 1) / ((i:Nat):Int):=by
 unfold aI_
 rw[bs_,dC_]
 split
 rfl
 ·rename_i h
  rw[if_neg (by omega),cs_ (by omega)]
  rw[Rat.div_def,Rat.zero_mul]
theorem fE_{p q:List Rat}(h:∀i,coP p i=coP q i):trimQ p=trimQ q:=by
 induction p generalizing q with
 |nil=>
  induction q with
  |nil=>rfl
  |cons b q ih=>
   have hb:b=0:=(h 0).symm
   rw[bV_,←ih fun i=>h (i+1),if_pos (by rfl),if_pos hb];rfl
 |cons a p ih=>
  cases q with
  |nil=>
   have ha:a=0:=h 0
   rw[bV_,ih (q:=[]) fun i=>h (i+1),if_pos (by rfl),if_pos ha];rfl
  |cons b q=>
   have hab:a=b:=h 0
   rw[bV_,bV_,ih (q:=q) fun i=>h (i+1),hab]
theorem trim_iff{p q:List Rat}:trimQ p=trimQ q↔∀i,coP p i=coP q i:=
 ⟨fun h i=>by rw[←bs_ p,h,bs_],fE_⟩
theorem trim_nil_iff{p:List Rat}:trimQ p=[]↔∀i,coP p i=0:=
 ⟨fun h i=>by rw[←bs_ p,h];rfl,fun h=>fE_ (q:=[]) h⟩
theorem aX_(x:Rat):evalP [] x=0:=rfl
theorem aF_(a:Rat)(l:List Rat)(x:Rat):evalP (a::l) x=evalP l x* x+a:=rfl
theorem d4_{p:List Rat}(h:∀i,coP p i=0)(x:Rat):evalP p x=0:=by
 induction p with
 |nil=>rfl
 |cons a p ih=>
  have ha:a=0:=h 0
  rw[aF_,ih fun i=>h (i+1),ha];grind
theorem cA_{p q:List Rat}(h:∀i,coP p i=coP q i)(x:Rat):evalP p x=evalP q x:=by
 induction p generalizing q with
 |nil=>exact(d4_ (fun i=>(h i).symm) x).symm
 |cons a p ih=>
  cases q with
  |nil=>exact d4_ h x
  |cons b q=>
   have hab:a=b:=h 0
   rw[aF_,aF_,ih (q:=q) fun i=>h (i+1),hab]
theorem bw_(p:List Rat)(x:Rat):evalP (trimQ p) x=evalP p x:=cA_ (bs_ p) x
def addL:List Rat→List Rat→List Rat
 |[],q=>q
 |p,[]=>p
 |a::p,b::q=>(a+b)::addL p q
def fg_(p:List Rat)(k:Rat):List Rat:=p.map (· * k)
def mulL:List Rat→List Rat→List Rat
 |[],_=>[]
 |a::p,q=>addL (fg_ q a) (0::mulL p q)
theorem c7_(p q:List Rat)(i:Nat):coP (addL p q) i=coP p i+coP q i:=by
 induction p generalizing q i with
 |nil=>rw[addL,fA_];grind
 |cons a p ih=>
  cases q with
  |nil=>rw[addL,fA_]; · grind
        intro h;cases h
  |cons b q=>
   rw[addL]
   cases i with
   |zero=>rfl
   |succ i=>exact ih q i
theorem cO_(p:List Rat)(k:Rat)(i:Nat):coP (fg_ p k) i=coP p i* k:=by
 induction p generalizing i with
 |nil=>show(0:Rat)=0* k;grind
 |cons a p ih=>
  cases i with
  |zero=>rfl
  |succ i=>exact ih i
theorem d5_(p q:List Rat)(x:Rat):evalP (addL p q) x=evalP p x+evalP q x:=by
 induction p generalizing q with
 |nil=>rw[addL,aX_];grind
 |cons a p ih=>
  cases q with
  |nil=>rw[addL,aX_]; · grind
        intro h;cases h
  |cons b q=>rw[addL,aF_,aF_,aF_,ih];grind
theorem dO_(p:List Rat)(k x:Rat):evalP (fg_ p k) x=evalP p x* k:=by
 induction p with
 |nil=>show(0:Rat)=0* k;grind
 |cons a p ih=>show evalP (fg_ p k) x* x+a* k=_;rw[ih,aF_];grind
theorem jf_(p q:List Rat)(x:Rat):evalP (mulL p q) x=evalP p x* evalP q x:=by
 induction p with
 |nil=>show(0:Rat)=0* _;grind
 |cons a p ih=>rw[mulL,d5_,dO_,aF_,ih,aF_];grind
theorem ck_(p q:List Rat)(x:Rat):evalP (addP p q) x=evalP p x+evalP q x:=by
 rw[←d5_];exact cA_ (fun i=>by rw[dW_,c7_]) x
theorem a5_(p:List Rat)(k x:Rat):evalP (aN_ p k) x=evalP p x* k:=by
 rw[←dO_];exact cA_ (fun i=>by rw[bN_,cO_]) x
theorem cj_(p q:List Rat)(x:Rat):evalP (subP p q) x=evalP p x- evalP q x:=by
 unfold subP;rw[ck_,a5_];grind
theorem hY_(a x:Rat):evalP (dB_ a) x=a:=by
 rw[dB_,bw_];show 0* x+a=a;grind
def convP(p q:List Rat):Nat→Nat→Rat
 |0,_=>0
 |i+1,n=>convP p q i n+(if i≤n then coP p i* coP q (n- i) else 0)
theorem nE_(o:List Rat)(a:Rat)(q:List Rat)(i:Nat)(h:∀k,k< q.length→i+k< o.length):∀k n,k≤q.length→coP (rowP o a q i k) n=coP o n+(if i≤n∧n< i+k then a* coP q (n- i) else 0)
 |0,n,_=>by rw[if_neg (by omega)];show coP o n=_;grind
 |k+1,n,hk=>by
  rw[rowP,ia_,lO_]
  by_cases hn:n=i+k
  subst hn
  rw[if_pos ⟨rfl,h k (by omega)⟩,ju_ o a q i k (i+k) (by omega),if_pos (by omega),show i+k- i=k by omega]
  rw[if_neg (by omega),nE_ o a q i h k n (by omega)]
  by_cases h2:i≤n∧n< i+k
  rw[if_pos h2,if_pos (by omega)]
  rw[if_neg h2,if_neg (by omega)]
theorem nG_(p q:List Rat)(n:Nat):∀i,i≤p.length→coP (mulR p q i) n=convP p q i n
 |0,_=>by
  show coP (List.replicate _ 0) n=0
  unfold coP
  rw[List.getD_eq_getElem?_getD,List.getElem?_replicate]
  split <;> rfl
 |i+1,hi=>by
  have ih:=nG_ p q n i (by omega)
  rw[mulR,convP]
  split
  ·rename_i h0
   rw[ih,h0]
   split <;> grind
  rw[nE_ _ _ _ _ (fun k hk=>by rw[hA_];omega) _ _ (Nat.le_refl _),ih]
  congr 1
  by_cases h1:i≤n
  rw[if_pos h1]
  by_cases h2:n< i+q.length
  rw[if_pos ⟨h1,h2⟩]
  rw[if_neg (by omega),cs_ (p:=q) (by omega)];grind
  rw[if_neg (by omega),if_neg h1]
theorem jh_(a:Rat)(p q:List Rat)(n:Nat):∀i,convP (a::p) q (i+1) n=a* coP q n+(match n with|0=>0|m+1=>convP p q i m)
 |0=>by
  show(0:Rat)+(if 0≤n then coP (a::p) 0* coP q (n- 0) else 0)=_
  rw[if_pos (Nat.zero_le _),cu_,Nat.sub_zero]
  cases n <;> simp[convP,Rat.add_zero,Rat.zero_add]
 |i+1=>by
  rw[convP,jh_ a p q n i]
  cases n with
  |zero=>rw[if_neg (by omega)];show a* coP q 0+0+0=a* coP q 0+0;grind
  |succ m=>
   show a* coP q (m+1)+convP p q i m+_=a* coP q (m+1)+(convP p q i m+_)
   by_cases h:i≤m
   rw[if_pos (by omega),if_pos h,bS_,show m+1- (i+1)=m- i by omega];grind
   rw[if_neg (by omega),if_neg h];grind
theorem nH_(p q:List Rat)(n:Nat):coP (mulL p q) n=convP p q p.length n:=by
 induction p generalizing n with
 |nil=>rfl
 |cons a p ih=>
  rw[mulL,c7_,cO_,List.length_cons,jh_]
  cases n with
  |zero=>rw[cu_];grind
  |succ m=>rw[bS_,ih];grind
theorem gn_(p q:List Rat)(n:Nat):coP (mulP p q) n=coP (mulL p q) n:=by
 unfold mulP
 split
 ·rename_i h
  rcases h with rfl|rfl
  rfl
  rw[nH_]
  have:∀i,convP p [] i n=0:=by
   intro i
   induction i with
   |zero=>rfl
   |succ i ih=>rw[convP,ih,fA_];split <;> grind
  rw[this];rfl
 rw[bs_,nG_ _ _ _ _ (Nat.le_refl _),nH_]
theorem bh_(p q:List Rat)(x:Rat):evalP (mulP p q) x=evalP p x* evalP q x:=by
 rw[←jf_];exact cA_ (gn_ p q) x
def synD:List Rat→Rat→List Rat
 |[],_=>[]
 |[_],_=>[]
 |_::b::l,r=>evalP (b::l) r::synD (b::l) r
theorem dX_(p:List Rat)(r x:Rat):evalP p x=evalP (synD p r) x* (x- r)+evalP p r:=by
 induction p with
 |nil=>show(0:Rat)=0* _+0;grind
 |cons a l ih=>
  cases l with
  |nil=>show 0* x+a=0* (x- r)+(0* r+a);grind
  |cons b l=>
   rw[synD,aF_ a,aF_ a,aF_ (evalP (b::l) r),ih];grind
theorem synD_len(p:List Rat)(r:Rat):(synD p r).length=p.length- 1:=by
 induction p with
 |nil=>rfl
 |cons a l ih=>
  cases l with
  |nil=>rfl
  |cons b l=>rw[synD,List.length_cons,ih];simp
theorem iS_:∀(n:Nat) (p xs:List Rat),p.length≤n→n≤xs.length→xs.Nodup→(∀x∈xs,evalP p x=0)→∀x,evalP p x=0
 |0,p,_,hp,_,_,_,x=>by
  have:p=[]:=List.length_eq_zero_iff.1 (by omega)
  rw[this];rfl
 |n+1,p,xs,hp,hx,hnd,hz,x=>by
  cases xs with
  |nil=>simp at hx
  |cons r xs=>
   rw[List.nodup_cons] at hnd
   have hr:=hz r (List.mem_cons_self ..)
   have ih:=iS_ n (synD p r) xs (by rw[synD_len];omega) (by simp at hx;omega) hnd.2 fun y hy=>by
    have h1:=dX_ p r y
    rw[hz y (List.mem_cons_of_mem _ hy),hr] at h1
    have hne:y- r≠0:=fun h=>hnd.1 (by have:y=r:=by grind
                                      rw[←this];exact hy)
    have h2:evalP (synD p r) y* (y- r)=0:=by grind
    rcases Rat.mul_eq_zero.1 h2 with h3|h3
    exact h3
    exact absurd h3 hne
   rw[dX_ p r x,ih,hr];grind
theorem gJ_{p:List Rat}(h:∀x,evalP p x=0):∀i,coP p i=0:=by
 induction p with
 |nil=>intro i;rfl
 |cons a p ih=>
  have ha:a=0:=by
   have:=h 0
   rw[aF_] at this;grind
  have hp:∀x,evalP p x=0:=by
   -- at all places but 0,so at all
   refine iS_ p.length p ((List.range p.length).map fun i=>(((i+1:Nat):Int):Rat)) (Nat.le_refl _) (by simp) ?_ ?_
   refine List.Pairwise.map _ (fun i j hij=>?_) List.nodup_range
   intro e
   apply hij
   have:=Rat.intCast_inj.1 e
   omega
   intro x hx
   obtain⟨i,_,rfl⟩:=List.mem_map.1 hx
   have h1:=h (((i+1:Nat):Int):Rat)
   rw[aF_,ha] at h1
   have h2:evalP p (((i+1:Nat):Int):Rat) * (((i+1:Nat):Int):Rat)=0:=by grind
   rcases Rat.mul_eq_zero.1 h2 with h3|h3
   exact h3
   have:=Rat.intCast_inj.1 (h3.trans Rat.intCast_zero.symm);omega
  intro i
  cases i with
  |zero=>exact ha
  |succ i=>exact ih hp i
theorem j2_{p q:List Rat}(h:∀x,evalP p x=evalP q x):trimQ p=trimQ q:=by
 refine fE_ fun i=>?_
 have:=gJ_ (p:=subP p q) (fun x=>by rw[cj_,h];grind) i
 rw[j7_] at this;grind
theorem hC_(p q:List Rat)(hp:p≠[]):(mulP p q).length≤p.length+q.length- 1:=by
 unfold mulP
 split
 simp
 have:=a9_ (mulR p q p.length)
 rwa[hA_] at this
def dvE:List Rat→Rat→Rat
 |[],_=>0
 |_::l,x=>evalP l x+dvE l x* x
theorem ce_(a:Rat)(l:List Rat)(x:Rat):dvE (a::l) x=evalP l x+dvE l x* x:=rfl
theorem ny_{p:List Rat}(h:∀i,coP p i=0)(x:Rat):dvE p x=0:=by
 induction p with
 |nil=>rfl
 |cons a p ih=>rw[ce_,ih fun i=>h (i+1),d4_ fun i=>h (i+1)];grind
theorem mm_{p q:List Rat}(h:∀i,coP p i=coP q i)(x:Rat):dvE p x=dvE q x:=by
 induction p generalizing q with
 |nil=>exact(ny_ (fun i=>(h i).symm) x).symm
 |cons a p ih=>
  cases q with
  |nil=>exact ny_ h x
  |cons b q=>rw[ce_,ce_,ih (q:=q) fun i=>h (i+1),cA_ (q:=q) fun i=>h (i+1)]
theorem nA_(p q:List Rat)(x:Rat):dvE (addL p q) x=dvE p x+dvE q x:=by
 induction p generalizing q with
 |nil=>rw[addL];show dvE q x=0+dvE q x;grind
 |cons a p ih=>
  cases q with
  |nil=>rw[addL]; · show _=_+(0:Rat);grind
        intro h;cases h
  |cons b q=>rw[addL,ce_,ce_,ce_,ih,d5_];grind
theorem oq_(p:List Rat)(k x:Rat):dvE (fg_ p k) x=dvE p x* k:=by
 induction p with
 |nil=>show(0:Rat)=0* k;grind
 |cons a p ih=>show evalP (fg_ p k) x+dvE (fg_ p k) x* x=_;rw[ih,ce_,dO_];grind
theorem dvE_mulL(p q:List Rat)(x:Rat):dvE (mulL p q) x=dvE p x* evalP q x+evalP p x* dvE q x:=by
 induction p with
 |nil=>show(0:Rat)=0* _+0* _;grind
 |cons a p ih=>rw[mulL,nA_,oq_,ce_,ce_,ih,jf_,aF_];grind
def derL:List Rat→List Rat
 |[]=>[]
 |_::l=>addL l (0::derL l)
theorem op_(p:List Rat)(x:Rat):evalP (derL p) x=dvE p x:=by
 induction p with
 |nil=>rfl
 |cons a p ih=>rw[derL,d5_,aF_,ih,ce_];grind
theorem coP_derL(p:List Rat)(i:Nat):coP (derL p) i=coP p (i+1) * ((i+1:Nat):Int):=by
 induction p generalizing i with
 |nil=>show(0:Rat)=0* _;grind
 |cons a p ih=>
  rw[derL,c7_,bS_]
  cases i with
  |zero=>rw[cu_];simp;grind
  |succ i=>rw[bS_,ih];simp only[Int.natCast_add,Rat.intCast_add];grind
theorem gK_(p:List Rat)(x:Rat):evalP (a2_ p) x=dvE p x:=by
 rw[←op_];exact cA_ (fun i=>by rw[cD_,coP_derL]) x
theorem dvE_mul(p q:List Rat)(x:Rat):dvE (mulP p q) x=dvE p x* evalP q x+evalP p x* dvE q x:=by
 rw[←dvE_mulL];exact mm_ (gn_ p q) x
theorem h6_(p:List Rat):trimQ (a2_ (aI_ p))=trimQ p:=fE_ fun i=>by
 rw[cD_,bE_,if_neg (by omega),Nat.add_sub_cancel]
 have h:(((i+1:Nat):Int):Rat)≠0:=by
  intro e
  have h1:((i+1:Nat):Int)=0:=Rat.intCast_inj.1 (e.trans Rat.intCast_zero.symm)
  omega
 grind
theorem c2_(q:List Rat)(x:Rat):∀p,evalP (compP q p) x=evalP p (evalP q x)
 |[]=>rfl
 |a::p=>by rw[compP,ck_,bh_,hY_,c2_ q x p,aF_]
theorem lj_(o:List Rat)(x v:Rat):∀j,j< o.length→evalP (o.set j v) x=evalP o x+(v- coP o j) * x^ j:=by
 induction o with
 |nil=>intro j h;cases h
 |cons a o ih=>
  intro j h
  cases j with
  |zero=>rw[List.set_cons_zero,aF_,aF_,cu_,Rat.pow_zero];grind
  |succ j=>rw[List.set_cons_succ,aF_,aF_,bS_,ih j (by simpa using h),Rat.pow_succ];grind
theorem c1_(q:List Rat)(x:Rat)(m:Nat)(h:m< q.length):evalP (q.take (m+1)) x=evalP (q.take m) x+coP q m* x^ m:=by
 induction q generalizing m with
 |nil=>cases h
 |cons a q ih=>
  cases m with
  |zero=>rw[List.take_succ_cons,List.take_zero,List.take_zero,cu_,Rat.pow_zero,aF_];show 0* x+a=0+a* 1;grind
  |succ m=>rw[List.take_succ_cons,List.take_succ_cons,aF_,aF_,bS_,ih m (by simpa using h),Rat.pow_succ];grind
theorem hs_(x:Rat)(n:Nat):∀m,x^ (n+m)=x^ n* x^ m
 |0=>by rw[Nat.add_zero,Rat.pow_zero];grind
 |m+1=>by rw[←Nat.add_assoc,Rat.pow_succ,Rat.pow_succ,hs_ x n m];grind
theorem je_(o:List Rat)(k:Rat)(q:List Rat)(n:Nat)(x:Rat)(h:n+q.length≤o.length):∀m,m≤q.length→evalP (rowM o k q n m) x=evalP o x- k* x^ n* evalP (q.take m) x
 |0,_=>by rw[rowM,List.take_zero];show _=_- _* 0;grind
 |m+1,hm=>by
  rw[rowM,subAt,lj_ _ _ _ _ (by rw[cZ_];omega),je_ o k q n x h m (by omega),c1_ q x m (by omega),hs_]
  grind
theorem coP_rowM(o:List Rat)(k:Rat)(q:List Rat)(n m:Nat)(hm:m< q.length)(h:n+q.length≤o.length):coP (rowM o k q n q.length) (n+m)=coP o (n+m)- k* coP q m:=by
 have:∀j,m< j→j≤q.length→coP (rowM o k q n j) (n+m)=coP o (n+m)- k* coP q m:=by
  intro j
  induction j with
  |zero=>intro h;omega
  |succ j ih=>
   intro h1 h2
   rw[rowM,f3_]
   by_cases e:m=j
   subst e
   rw[if_pos ⟨rfl,by rw[cZ_];omega⟩,fM_ o k q n m (n+m) (by omega)]
   rw[if_neg (by omega)]
   exact ih (by omega) (by omega)
 exact this q.length hm (Nat.le_refl _)
theorem lm_(q:List Rat)(lead:Rat)(hq:q≠[])(hl:coP q (q.length- 1)=lead)(hl0:lead≠0)(x:Rat):∀c u o,(∀i,i< c→coP u i=0)→c≤u.length→c+q.length≤o.length+1→(∀j,c+q.length- 1≤j→coP o j=0)→
    evalP (divR q lead c u o).1 x* evalP q x+evalP (divR q lead c u o).2 x=evalP u x* evalP q x+evalP o x∧∀j,q.length- 1≤j→coP (divR q lead c u o).2 j=0
 |0,u,o,_,_,_,h4=>⟨rfl,fun j hj=>h4 j (by omega)⟩
 |n+1,u,o,h1,h2,h3,h4=>by
  have hlen:=List.length_pos_iff.2 hq
  rw[divR]
  obtain⟨k,hk⟩:∃k,k=coP o (n+q.length- 1) / lead:=⟨_,rfl⟩
  rw[←hk]
  have hkl:k* lead=coP o (n+q.length- 1):=by rw[hk];grind
  have hu:coP u n=0:=h1 n (by omega)
  have ho:evalP (if k=0 then o else rowM o k q n q.length) x=evalP o x- k* x^ n* evalP q x:=by
   by_cases h0:k=0
   rw[if_pos h0,h0];grind
   rw[if_neg h0,je_ o k q n x (by omega) _ (Nat.le_refl _),List.take_length]
  obtain⟨e1,e2⟩:=lm_ q lead hq hl hl0 x n (u.set n k) (if k=0 then o else rowM o k q n q.length) (fun i hi=>by
   rw[j8_,if_neg (by omega)];exact h1 i (by omega)) (by simp;omega) (by split <;>(try simp)<;> omega) (fun j hj=>by
   by_cases h0:k=0
   rw[if_pos h0]
   by_cases hj':j=n+q.length- 1
   rw[hj',←hkl,h0];grind
   exact h4 j (by omega)
   rw[if_neg h0]
   by_cases hj':j=n+q.length- 1
   have:=coP_rowM o k q n (q.length- 1) (by omega) (by omega)
   rw[hj',show n+q.length- 1=n+(q.length- 1) by omega,this,hl,hkl,show n+(q.length- 1)=n+q.length- 1 by omega];grind
   rw[fM_ o k q n q.length j (by omega)]
   exact h4 j (by omega))
  refine⟨?_,e2⟩
  rw[e1,ho,lj_ u x k n (by omega),hu]
  grind
theorem gy_{p:List Rat}{n:Nat}(h:∀j,n≤j→coP p j=0):(trimQ p).length≤n:=by
 apply Nat.le_of_not_lt
 intro hn
 have h1:=bG_ (l:=p) (n:=(trimQ p).length- 1) (by omega)
 have h2:trimQ p≠[]:=fun e=>by rw[e] at hn;simp at hn
 have h3:=h ((trimQ p).length- 1) (by omega)
 rw[←bs_] at h3
 unfold coP at h3
 rw[List.getD_eq_getElem?_getD,h1] at h3
 exact b9_ h2 h3
theorem eQ_(p q:List Rat)(hq:trimQ q≠[]):(∀x,evalP (divP p q).1 x* evalP q x+evalP (divP p q).2 x=evalP p x)∧(trimQ (divP p q).2).length< (trimQ q).length:=by
 have hlen:=List.length_pos_iff.2 hq
 have hl:coP (trimQ q) ((trimQ q).length- 1)=leadP q:=by
  have:=bG_ (l:=q) (n:=(trimQ q).length- 1) (by omega)
  unfold coP;rw[List.getD_eq_getElem?_getD,this];rfl
 have hz:∀i m,coP (List.replicate m 0) i=0:=fun i m=>by
  unfold coP
  rw[List.getD_eq_getElem?_getD,List.getElem?_replicate]
  split <;> rfl
 have key:=fun x (h:(trimQ q).length≤(trimQ p).length+1)=>lm_ (trimQ q) (leadP q) hq hl (b9_ hq) x ((trimQ p).length+1- (trimQ q).length) (List.replicate ((trimQ p).length+1- (trimQ q).length) 0) (trimQ p)
  (fun i _=>hz i _) (by simp) (by omega) (fun j hj=>cs_ (by omega))
 by_cases h:(trimQ q).length≤(trimQ p).length+1
 refine⟨fun x=>?_,?_⟩
 have e:=(key x h).1
 unfold divP
 simp only
 rw[bw_,bw_,←bw_ q,e,d4_ (fun i=>hz i _),bw_ p];grind
 have e:=(key 0 h).2
 unfold divP
 simp only
 rw[bj_]
 have:=gy_ e
 omega
 unfold divP
 simp only
 rw[show(trimQ p).length+1- (trimQ q).length=0 by omega]
 refine⟨fun x=>?_,?_⟩
 rw[divR,bw_,bw_,bw_];show 0* _+_=_;grind
 rw[divR];simp only;rw[bj_,bj_];omega
section
variable (p q r:List Rat)(a b:Rat)
end
def ab(x:Rat):Rat:=if x< 0 then -x else x
theorem ab_nn(x:Rat):0≤ab x:=by unfold ab;split <;> grind
theorem ab_le{x c:Rat}:ab x≤c↔ -c≤x∧x≤c:=by unfold ab;split <;> grind
theorem nZ_(x y:Rat):ab (x+y)≤ab x+ab y:=by unfold ab;split <;> split <;> split <;> grind
theorem ab_neg(x:Rat):ab (-x)=ab x:=by unfold ab;split <;> split <;> grind
theorem ga_(x y:Rat):ab (x* y)=ab x* ab y:=by
 have key:∀a b:Rat,0≤a→0≤b→ab (a* b)=a* b:=fun a b ha hb=>by
  have:=Rat.mul_nonneg ha hb
  unfold ab;rw[if_neg (by grind)]
 by_cases hx:x< 0
 by_cases hy:y< 0
 have:=key (-x) (-y) (by grind) (by grind)
 rw[show x* y= -x* -y by grind,this]
 unfold ab;rw[if_pos hx,if_pos hy]
 have:=key (-x) y (by grind) (by grind)
 rw[show x* y= -(-x* y) by grind,ab_neg,this]
 unfold ab;rw[if_pos hx,if_neg hy]
 by_cases hy:y< 0
 have:=key x (-y) (by grind) (by grind)
 rw[show x* y= -(x* -y) by grind,ab_neg,this]
 unfold ab;rw[if_neg hx,if_pos hy]
 have:=key x y (by grind) (by grind)
 rw[this]
 unfold ab;rw[if_neg hx,if_neg hy]
theorem e4_{a b c d:Rat}(h1:a≤b)(h2:c≤d)(h3:0≤c)(h4:0≤b):a* c≤b* d:=by
 have e1:=Rat.mul_le_mul_of_nonneg_right h1 h3
 have e2:=Rat.mul_le_mul_of_nonneg_left h2 h4
 grind
def bV(R:Rat):List Rat→Rat
 |[]=>0
 |a::l=>bV R l* R+ab a
theorem bV_nn{R:Rat}(hR:0≤R):∀l,0≤bV R l
 |[]=>by simp[bV]
 |a::l=>by
  have h1:=Rat.mul_nonneg (bV_nn hR l) hR
  have h2:=ab_nn a
  rw[bV];grind
theorem fZ_{R x:Rat}(hR:0≤R)(hx:ab x≤R):∀l,ab (evalP l x)≤bV R l
 |[]=>by rw[aX_,bV];decide
 |a::l=>by
  have h1:=fZ_ hR hx l
  have h2:=e4_ h1 hx (ab_nn x) (bV_nn hR l)
  have h3:=nZ_ (evalP l x* x) a
  rw[ga_] at h3
  rw[aF_,bV];grind
def bL(R:Rat):List Rat→Rat
 |[]=>0
 |_::l=>bL R l* R+bV R l
theorem bL_nn{R:Rat}(hR:0≤R):∀l,0≤bL R l
 |[]=>by simp[bL]
 |a::l=>by
  have h1:=Rat.mul_nonneg (bL_nn hR l) hR
  have h2:=bV_nn hR l
  rw[bL];grind
theorem hX_{R x y:Rat}(hR:0≤R)(hx:ab x≤R)(hy:ab y≤R):∀l,ab (evalP l y- evalP l x)≤bL R l* ab (y- x)
 |[]=>by
  rw[aX_,aX_,bL,Rat.zero_mul]
  decide+kernel
 |a::l=>by
  have h1:=hX_ hR hx hy l
  have h2:=fZ_ hR hx l
  have e:evalP (a::l) y- evalP (a::l) x=(evalP l y- evalP l x) * y+evalP l x* (y- x):=by rw[aF_,aF_];grind
  have h3:=nZ_ ((evalP l y- evalP l x) * y) (evalP l x* (y- x))
  rw[ga_,ga_] at h3
  have hd:=ab_nn (y- x)
  have h4:=e4_ h1 hy (ab_nn y) (Rat.mul_nonneg (bL_nn hR l) hd)
  have h5:=Rat.mul_le_mul_of_nonneg_right h2 hd
  rw[e,bL];grind
def bT(R:Rat):List Rat→Rat
 |[]=>0
 |_::l=>bT R l* R+bL R l
theorem bT_nn{R:Rat}(hR:0≤R):∀l,0≤bT R l
 |[]=>by simp[bT]
 |a::l=>by
  have h1:=Rat.mul_nonneg (bT_nn hR l) hR
  have h2:=bL_nn hR l
  rw[bT];grind
theorem li_{R x y:Rat}(hR:0≤R)(hx:ab x≤R)(hy:ab y≤R):∀l,ab (evalP l y- evalP l x- (y- x) * dvE l x)≤bT R l* (ab (y- x) * ab (y- x))
 |[]=>by
  rw[aX_,aX_,bT,show dvE [] x=0 from rfl,Rat.zero_mul,Rat.mul_zero]
  decide+kernel
 |a::l=>by
  have h1:=li_ hR hx hy l
  have h2:=hX_ hR hx hy l
  have e:evalP (a::l) y- evalP (a::l) x- (y- x) * dvE (a::l) x=(evalP l y- evalP l x- (y- x) * dvE l x) * x+(evalP l y- evalP l x) * (y- x):=by rw[aF_,aF_,ce_];grind
  have h3:=nZ_ ((evalP l y- evalP l x- (y- x) * dvE l x) * x) ((evalP l y- evalP l x) * (y- x))
  rw[ga_,ga_] at h3
  have hd:=ab_nn (y- x)
  have h4:=e4_ h1 hx (ab_nn x) (Rat.mul_nonneg (bT_nn hR l) (Rat.mul_nonneg hd hd))
  have h5:=Rat.mul_le_mul_of_nonneg_right h2 hd
  rw[e,bT];grind
inductive Gsn:Int→List Int→List Int→Prop
 |nil {t:Int}:Gsn t [] []
 |solid {t s:Int} {l l':List Int}:s≠0→Gsn s l l'→Gsn t (s::l) (s::l')
 |weak {t x y:Int} {l l':List Int}:(x=0∨x=t∨x= -t)→(y=0∨y=t∨y= -t)→Gsn (-t) l l'→Gsn t (x:: -t::l) (y:: -t::l')
theorem ie_:∀(l:List Int) (n t:Int),chL l n t=n+chL l 0 t
 |[],n,t=>by simp[chL]
 |s::l,n,t=>by
  unfold chL
  by_cases hs:s≠0
  rw[if_pos hs,if_pos hs,ie_ l (if s= -t then n+1 else n),ie_ l (if s= -t then 0+1 else 0)]
  split <;> omega
  rw[if_neg hs,if_neg hs]
  exact ie_ l n t
theorem nI_{t x:Int}(ht:t≠0)(hx:x=0∨x=t∨x= -t)(l:List Int)(n:Int):chL (x:: -t::l) n t=chL l (n+1) (-t):=by
 rcases hx with rfl|rfl|rfl
 rw[chL,if_neg (by simp),chL,if_pos (by omega),if_pos rfl]
 rw[chL,if_pos ht,if_neg (by omega),chL,if_pos (by omega),if_pos rfl]
 rw[chL,if_pos (by omega),if_pos rfl,chL,if_pos (by omega),if_neg (by omega)]
theorem nK_{t:Int}{l l':List Int}(h:Gsn t l l'):t≠0→∀n,chL l n t=chL l' n t:=by
 induction h with
 |nil=>exact fun _ _=>rfl
 |solid hs _ ih=>
  intro ht n
  rw[chL,if_pos hs,chL,if_pos hs]
  exact ih hs _
 |weak hx hy _ ih=>
  intro ht n
  rw[nI_ ht hx,nI_ ht hy]
  exact ih (by omega) _
theorem nJ_{s:Int}{l l':List Int}(hs:s≠0)(h:Gsn s l l'):chL (s::l) 0 0=chL (s::l') 0 0:=by
 rw[chL,if_pos hs,chL,if_pos hs]
 exact nK_ h hs _
theorem nL_{s s' t:Int}{l l':List Int}(ht:t=1∨t= -1)(hs: -1≤s∧s≤1)(hs': -1≤s'∧s'≤1)(hm:t* s≤t* s')(h:Gsn t l l'):chL (s'::t::l') 0 0≤chL (s::t::l) 0 0:=by
 have ht0:t≠0:=by omega
 have key:∀(u:Int) (k:List Int),-1≤u∧u≤1→chL (u::t::k) 0 0=(if u= -t then 1 else 0)+chL k 0 t:=fun u k hu=>by
  by_cases h0:u=0
  subst h0
  rw[chL,if_neg (by simp),chL,if_pos ht0,if_neg (by omega),if_neg (by omega)]
  omega
  rw[chL,if_pos h0,if_neg (by omega),chL,if_pos ht0,ie_]
  by_cases h1:u= -t
  rw[if_pos (by omega),if_pos h1];omega
  rw[if_neg (by omega),if_neg h1]
 rw[key s l hs,key s' l' hs',nK_ h ht0 0]
 rcases ht with rfl|rfl <;> split <;> split <;> omega
theorem num_pos{q:Rat}:0< q.num↔0< q:=by
 have h1:=gf_ q
 have h2:0≤q.num↔0≤q:=Rat.num_nonneg
 have h3:q.num=0↔q=0:=Rat.num_eq_zero
 constructor
 intro h
 have a:=h2.1 (by omega)
 have b:q≠0:=fun e=>by have:=h3.2 e;omega
 grind
 intro h
 have a:=h2.2 (by grind)
 have b:q.num≠0:=fun e=>by have:=h3.1 e;grind
 omega
theorem hi_{q:List Rat}{x:Rat}(h:0< evalP q x):sgE x q=1:=by
 have:=sgZ_num_gt.2 h
 have:=ge_ (evalP q x).num
 unfold sgE;omega
theorem lK_{q:List Rat}{x:Rat}(h:evalP q x< 0):sgE x q= -1:=by
 have:=sgZ_num_lt.2 h
 have:=ge_ (evalP q x).num
 unfold sgE;omega
theorem mK_{q:List Rat}{x:Rat}(h:evalP q x=0):sgE x q=0:=sgZ_num_eq.2 h
theorem d0_(x:Rat)(q:List Rat): -1≤sgE x q∧sgE x q≤1:=ge_ _
theorem dt_(x:Rat)(q:List Rat):(sgE x q=1∧0< evalP q x)∨(sgE x q= -1∧evalP q x< 0)∨(sgE x q=0∧evalP q x=0):=by
 by_cases h:0< evalP q x
 exact .inl ⟨hi_ h,h⟩
 by_cases h':evalP q x< 0
 exact .inr (.inl ⟨lK_ h',h'⟩)
 have e:evalP q x=0:=by grind
 exact .inr (.inr ⟨mK_ e,e⟩)
theorem mL_{q:List Rat}{x y:Rat}(h:evalP q x≤evalP q y):sgE x q≤sgE y q:=by
 rcases dt_ x q with⟨a,b⟩|⟨a,b⟩|⟨a,b⟩
 rw[a,hi_ (by grind)];decide
 have:=d0_ y q;omega
 by_cases h0:0< evalP q y
 rw[a,hi_ h0];decide
 rw[a,mK_ (by grind)];decide
theorem part(e:Rat){d:Rat}(he:0< e)(hd:0< d):∃h:Rat,0< h∧h* d=e:=by
 refine⟨e/ d,?_,Rat.div_mul_cancel (by grind)⟩
 have e1:e/ d* d=e:=Rat.div_mul_cancel (by grind)
 by_cases h:0< e/ d
 exact h
 have h2:e/ d* d≤0* d:=Rat.mul_le_mul_of_nonneg_right (by grind) (by grind)
 rw[Rat.zero_mul] at h2
 grind
theorem less(a b:Rat)(ha:0< a)(hb:0< b):∃h:Rat,0< h∧h≤a∧h≤b:=by
 by_cases h:a≤b
 exact⟨a,ha,by grind,h⟩
 exact⟨b,hb,by grind,by grind⟩
theorem keep(u:List Rat){R e:Rat}(hR:0≤R)(he:0< e):∃h:Rat,0< h∧∀x y:Rat,ab x≤R→ab y≤R→ab (y- x)≤h→e≤ab (evalP u x)→sgE y u=sgE x u∧sgE x u≠0:=by
 have hL:=bL_nn hR u
 obtain⟨h,h0,h1⟩:=part e (d:=2* (bL R u+1)) he (by grind)
 refine⟨h,h0,fun x y hx hy hd ha=>?_⟩
 have h2:=hX_ hR hx hy u
 have h3:=Rat.mul_le_mul_of_nonneg_left hd hL
 have h4:ab (evalP u y- evalP u x)< e:=by grind
 have h5:=ab_le (x:=evalP u y- evalP u x) (c:=ab (evalP u y- evalP u x))|>.1 (by grind)
 rcases dt_ x u with⟨a,b⟩|⟨a,b⟩|⟨a,b⟩
 have h6:ab (evalP u x)=evalP u x:=by unfold ab;rw[if_neg (by grind)]
 rw[a,hi_ (by grind)];decide
 have h6:ab (evalP u x)= -evalP u x:=by unfold ab;rw[if_pos b]
 rw[a,lK_ (by grind)];decide
 have h6:ab (evalP u x)=0:=by rw[b];decide
 grind
inductive Ch:List Rat→List (List Rat)→Prop
 |one {u:List Rat} {c:Rat}:c≠0→(∀x,evalP u x=c)→Ch u []
 |pair {u v:List Rat}:Ch v []→Ch u [v]
 |step {u v w:List Rat} {L:List (List Rat)} {a c:Rat} {q:List Rat}:0< a→0< c→(∀x,a* evalP u x+c* evalP w x=evalP q x* evalP v x)→Ch v (w::L)→Ch u (v::w::L)
def Cl(u:List Rat)(L:List (List Rat)):Prop:=∀R e:Rat,0≤R→0< e→∃h:Rat,0< h∧∀x y:Rat,ab x≤R→ab y≤R→ab (y- x)≤h→e≤ab (evalP u x)→
 sgE y u=sgE x u∧sgE x u≠0∧Gsn (sgE x u) (L.map (sgE x)) (L.map (sgE y))
theorem Ch.const{v:List Rat}(h:Ch v []):∃c:Rat,c≠0∧∀x,evalP v x=c:=by
 cases h with
 |one hc h=>exact⟨_,hc,h⟩
theorem Ch.sg{v:List Rat}(h:Ch v [])(x y:Rat):sgE y v=sgE x v∧sgE x v≠0:=by
 obtain⟨c,hc,h⟩:=h.const
 have e:sgE y v=sgE x v:=by unfold sgE;rw[h,h]
 refine⟨e,?_⟩
 rcases dt_ x v with⟨a,b⟩|⟨a,b⟩|⟨a,b⟩
 omega
 omega
 rw[h] at b;exact absurd b hc
theorem Ch.cl{u:List Rat}{L:List (List Rat)}(H:Ch u L):Cl u L∧∀v L',L=v::L'→Cl v L':=by
 induction H with
 | @one u c hc hu=>
  refine⟨fun R e hR he=>?_,fun _ _ h=>by cases h⟩
  obtain⟨h,h0,h1⟩:=keep u hR he
  exact⟨h,h0,fun x y hx hy hd ha=>⟨(h1 x y hx hy hd ha).1,(h1 x y hx hy hd ha).2,.nil⟩⟩
 | @pair u v hv ih=>
  refine⟨fun R e hR he=>?_,fun _ _ h=>by cases h;exact ih.1⟩
  obtain⟨h,h0,h1⟩:=keep u hR he
  refine⟨h,h0,fun x y hx hy hd ha=>⟨(h1 x y hx hy hd ha).1,(h1 x y hx hy hd ha).2,?_⟩⟩
  simp only[List.map_cons,List.map_nil]
  rw[(hv.sg x y).1]
  exact .solid (hv.sg x y).2 .nil
 | @step u v w L a c q ha hc hrel hv ih=>
  refine⟨fun R e hR he=>?_,fun _ _ h=>by cases h;exact ih.1⟩
  have hQ:=bV_nn hR q
  have hae:=Rat.mul_pos ha he
  obtain⟨e1,he1,he1'⟩:=part (a* e) (d:=2* (bV R q+1)) hae (by grind)
  obtain⟨e2,he2,he2'⟩:=part (a* e) (d:=2* c) hae (by grind)
  obtain⟨h0,p0,k0⟩:=keep u hR he
  obtain⟨h1,p1,k1⟩:=ih.1 R e1 hR he1
  obtain⟨h2,p2,k2⟩:=ih.2 w L rfl R e2 hR he2
  obtain⟨h3,p3,l3,m3⟩:=less h0 h1 p0 p1
  obtain⟨h,p,l,m⟩:=less h3 h2 p3 p2
  refine⟨h,p,fun x y hx hy hd hu=>?_⟩
  obtain⟨s1,s2⟩:=k0 x y hx hy (by grind) hu
  refine⟨s1,s2,?_⟩
  by_cases hvx:e1≤ab (evalP v x)
  obtain⟨t1,t2,t3⟩:=k1 x y hx hy (by grind) hvx
  simp only[List.map_cons] at t3⊢
  rw[t1]
  exact .solid t2 t3
  have b1:=e4_ (fZ_ hR hx q) (show ab (evalP v x)≤e1 by grind) (ab_nn _) hQ
  rw[←ga_,←hrel x] at b1
  have b2:=ab_le.1 b1
  have b3:bV R q* e1+e1=a* e/ 2:=by grind
  have key:sgE x w= -sgE x u∧e2≤ab (evalP w x):=by
   rcases dt_ x u with⟨g1,g2⟩|⟨g1,g2⟩|⟨g1,g2⟩
   have g3:ab (evalP u x)=evalP u x:=by unfold ab;rw[if_neg (by grind)]
   rw[g3] at hu
   have g4:=Rat.mul_le_mul_of_nonneg_left hu (show 0≤a by grind)
   have g5:evalP w x≤ -e2:=by
    by_cases g:evalP w x≤ -e2
    exact g
    have:=Rat.mul_pos hc (show 0< evalP w x+e2 by grind)
    grind
   refine⟨by rw[g1,lK_ (by grind)],?_⟩
   unfold ab;rw[if_pos (by grind)];grind
   have g3:ab (evalP u x)= -evalP u x:=by unfold ab;rw[if_pos g2]
   rw[g3] at hu
   have g4:=Rat.mul_le_mul_of_nonneg_left hu (show 0≤a by grind)
   have g5:e2≤evalP w x:=by
    by_cases g:e2≤evalP w x
    exact g
    have:=Rat.mul_pos hc (show 0< e2- evalP w x by grind)
    grind
   refine⟨by rw[g1,hi_ (by grind)];decide,?_⟩
   unfold ab;rw[if_neg (by grind)];grind
   exact absurd g1 s2
  obtain⟨t1,t2,t3⟩:=k2 x y hx hy (by grind) key.2
  simp only[List.map_cons]
  rw[t1,key.1]
  rw[key.1] at t3
  have c1:=d0_ x u
  have c2:=d0_ x v
  have c3:=d0_ y v
  exact .weak (by omega) (by omega) t3
theorem Ch.bez{u:List Rat}{M:List (List Rat)}(H:Ch u M):∀v L,M=v::L→∃a b:List Rat,∀x,evalP a x* evalP u x+evalP b x* evalP v x=1:=by
 induction H with
 |one hc hu=>exact fun _ _ h=>by cases h
 | @pair u v hv ih=>
  intro v' L h
  cases h
  obtain⟨c,hc,h⟩:=hv.const
  refine⟨[],[1/ c],fun x=>?_⟩
  rw[h,aX_,aF_,aX_]
  have:1/ c* c=1:=Rat.div_mul_cancel hc
  grind
 | @step u v w L a c q ha hc hrel hv ih=>
  intro v' L' h
  cases h
  obtain⟨a',b',h⟩:=ih w L rfl
  refine⟨aN_ b' (-(a/ c)),addP a' (aN_ (mulP b' q) (1/ c)),fun x=>?_⟩
  rw[a5_,ck_,a5_,bh_]
  have h1:=h x
  have h2:=hrel x
  have h3:1/ c* c=1:=Rat.div_mul_cancel (by grind)
  have h4:a/ c=a* (1/ c):=by grind
  have h5:evalP w x=(1/ c) * (evalP q x* evalP v x- a* evalP u x):=by
   have:evalP w x=(1/ c* c) * evalP w x:=by rw[h3];grind
   rw[this,←h2];grind
  rw[h5] at h1
  rw[h4];grind
theorem arch(c:Rat){h:Rat}(hh:0< h):∃n:Nat,c≤((n:Int):Rat) * h:=by
 by_cases hc:c≤0
 exact⟨0,by rw[show((((0:Nat):Int)):Rat)=0 from rfl,Rat.zero_mul];exact hc⟩
 obtain⟨k,hk,e⟩:=part c (d:=h) (by grind) hh
 refine⟨k.num.natAbs,?_⟩
 have h1:k≤((k.num.natAbs:Int):Rat):=by
  have hn:0< k.num:=num_pos.2 hk
  rw[Rat.le_iff]
  show k.num* 1≤(k.num.natAbs:Int) * (k.den:Int)
  have h3:(k.num.natAbs:Int)=k.num:=by omega
  have h4:=Int.mul_le_mul_of_nonneg_left (show(1:Int)≤(k.den:Int) by have:=k.den_pos;omega) (show 0≤k.num by omega)
  rw[h3];exact h4
 have h5:=Rat.mul_le_mul_of_nonneg_right h1 (show 0≤h by grind)
 grind
theorem grid {f:Rat→Int} (r:Int→Int→Prop) (hr:∀a,r a a) (ht:∀a b c,r a b→r b c→r a c) {lo hi h:Rat} (hh:0< h)
    (hs:∀x y,lo≤x→x≤y→y≤hi→y- x≤h→r (f x) (f y)):∀(n:Nat) (x y:Rat),lo≤x→x≤y→y≤hi→y- x≤((n:Int):Rat) * h→r (f x) (f y)
 |0,x,y,h1,h2,h3,h4=>by
  have:y=x:=by
   rw[show((((0:Nat):Int)):Rat)=0 from rfl,Rat.zero_mul] at h4
   grind
  rw[this];exact hr _
 |n+1,x,y,h1,h2,h3,h4=>by
  by_cases hd:y- x≤h
  exact hs x y h1 h2 h3 hd
  refine ht _ _ _ (hs x (x+h) h1 (by grind) (by grind) (by grind)) (grid r hr ht hh hs n (x+h) y (by grind) (by grind) h3 ?_)
  have e:(((n+1:Nat):Int):Rat)=((n:Int):Rat)+1:=by
   rw[Int.natCast_add,Rat.intCast_add];rfl
  rw[e] at h4
  grind
theorem way {f:Rat→Int} (r:Int→Int→Prop) (hr:∀a,r a a) (ht:∀a b c,r a b→r b c→r a c) {x y h:Rat} (hh:0< h) (hxy:x≤y)
    (hs:∀u v,x≤u→u≤v→v≤y→v- u≤h→r (f u) (f v)):r (f x) (f y):=by
 obtain⟨n,hn⟩:=arch (y- x) hh
 exact grid r hr ht hh hs n x y (by grind) hxy (by grind) hn
def chV(l:List (List Rat))(x:Rat):Int:=chL (l.map (sgE x)) 0 0
theorem ab_in{x y u:Rat}(h1:x≤u)(h2:u≤y):ab u≤ab x+ab y:=by
 have a1:=ab_le (x:=x) (c:=ab x)|>.1 (by grind)
 have a2:=ab_le (x:=y) (c:=ab y)|>.1 (by grind)
 have a3:=ab_nn x
 have a4:=ab_nn y
 exact ab_le.2 ⟨by grind,by grind⟩
theorem ab_sub{u v h:Rat}(h1:u≤v)(h2:v- u≤h):ab (v- u)≤h:=by
 unfold ab;rw[if_neg (by grind)];exact h2
theorem Ch.same{u:List Rat}{L:List (List Rat)}(H:Ch u L){e x y:Rat}(he:0< e)(hxy:x≤y)(ha:∀z,x≤z→z≤y→e≤ab (evalP u z)):chV (u::L) x=chV (u::L) y:=by
 obtain⟨h,h0,h1⟩:=H.cl.1 (ab x+ab y) e (by have:=ab_nn x;have:=ab_nn y;grind) he
 refine way (f:=chV (u::L)) (· = ·) (fun _=>rfl) (fun _ _ _=>Eq.trans) h0 hxy fun z w a b c d=>?_
 obtain⟨s1,s2,s3⟩:=h1 z w (ab_in a (by grind)) (ab_in (by grind) c) (ab_sub b d) (ha z a (by grind))
 unfold chV
 simp only[List.map_cons]
 rw[s1]
 exact nJ_ s2 s3
theorem outweigh{k T d uz uw D e v:Rat}(hk:0< k)(h1:k* -T≤k* (uw- uz- d* D))(h2:T* k≤d* e)(h3:d* e≤d* v)(h4:v=k* D):uz≤uw:=by
 subst h4
 by_cases h:uz≤uw
 exact h
 have:=Rat.mul_pos hk (show 0< uz- uw by grind)
 grind
theorem outweigh'{k T d uz uw D e v:Rat}(hk:0< k)(h1:k* (uw- uz- d* D)≤k* T)(h2:T* k≤d* e)(h3:d* e≤d* -v)(h4:v=k* D):uw≤uz:=by
 subst h4
 by_cases h:uw≤uz
 exact h
 have:=Rat.mul_pos hk (show 0< uw- uz by grind)
 grind
theorem Ch.fall{u v:List Rat}{L:List (List Rat)}{k:Rat}(H:Ch u (v::L))(hk:0< k)(hd:∀x,evalP v x=k* dvE u x){x y:Rat}(hxy:x≤y):chV (u::v::L) y≤chV (u::v::L) x:=by
 have hR:0≤ab x+ab y:=by have:=ab_nn x;have:=ab_nn y;grind
 generalize hRe:ab x+ab y=R at hR
 obtain⟨a,b,hb⟩:=H.bez v L rfl
 have hA:=bV_nn hR a
 have hB:=bV_nn hR b
 obtain⟨e,he,he'⟩:=part 1 (d:=2* (bV R a+bV R b+1)) (by decide+kernel) (by grind)
 obtain⟨h1,p1,k1⟩:=H.cl.1 R e hR he
 obtain⟨h2,p2,k2⟩:=H.cl.2 v L rfl R e hR he
 have hT:=bT_nn hR u
 obtain⟨h3,p3,e3⟩:=part e (d:=k* (bT R u+1)) he (Rat.mul_pos hk (by grind))
 obtain⟨h4,p4,l4,m4⟩:=less h1 h2 p1 p2
 obtain⟨h,p,l,m⟩:=less h4 h3 p4 p3
 refine way (f:=chV (u::v::L)) (fun s t=>t≤s) (fun _=>Int.le_refl _) (fun _ _ _ g1 g2=>Int.le_trans g2 g1) p hxy fun z w g1 g2 g3 g4=>?_
 have hz:ab z≤R:=by rw[←hRe];exact ab_in g1 (by grind)
 have hw:ab w≤R:=by rw[←hRe];exact ab_in (by grind) g3
 have hzw:ab (w- z)=w- z:=by unfold ab;rw[if_neg (by grind)]
 by_cases hu:e≤ab (evalP u z)
 obtain⟨s1,s2,s3⟩:=k1 z w hz hw (by grind) hu
 refine Int.le_of_eq ?_
 unfold chV
 simp only[List.map_cons] at s3⊢
 rw[s1]
 exact(nJ_ s2 s3).symm
 have hv:e≤ab (evalP v z):=by
  by_cases hv:e≤ab (evalP v z)
  exact hv
  have n1:=e4_ (fZ_ hR hz a) (show ab (evalP u z)≤e by grind) (ab_nn _) hA
  have n2:=e4_ (fZ_ hR hz b) (show ab (evalP v z)≤e by grind) (ab_nn _) hB
  have n3:=nZ_ (evalP a z* evalP u z) (evalP b z* evalP v z)
  rw[hb z,ga_,ga_,show ab 1=1 by decide+kernel] at n3
  grind
 obtain⟨s1,s2,s3⟩:=k2 z w hz hw (by grind) hv
 have htan:=li_ hR hz hw u
 rw[hzw] at htan
 have ht2:=ab_le.1 htan
 have hvz:=hd z
 -- the derivative outweighs what leaves the tangent
 have small:bT R u* ((w- z) * (w- z)) * k≤(w- z) * e:=by
  have q1:=Rat.mul_le_mul_of_nonneg_right (show w- z≤h3 by grind) (show 0≤w- z by grind)
  have q2:=Rat.mul_le_mul_of_nonneg_left q1 hT
  have q3:=Rat.mul_le_mul_of_nonneg_right q2 (show 0≤k by grind)
  have q4:(w- z) * e=bT R u* (h3* (w- z)) * k+(w- z) * h3* k:=by rw[←e3];grind
  have q5:=Rat.mul_nonneg (Rat.mul_nonneg (show 0≤w- z by grind) (show 0≤h3 by grind)) (show 0≤k by grind)
  grind
 have hwz:0≤w- z:=by grind
 unfold chV
 simp only[List.map_cons]
 rw[s1]
 rcases dt_ z v with⟨c1,c2⟩|⟨c1,c2⟩|⟨c1,c2⟩
 have c3:ab (evalP v z)=evalP v z:=by unfold ab;rw[if_neg (by grind)]
 rw[c3] at hv
 have c4:=Rat.mul_le_mul_of_nonneg_left hv hwz
 have up:evalP u z≤evalP u w:=outweigh hk (Rat.mul_le_mul_of_nonneg_left ht2.1 (by grind)) small c4 hvz
 exact nL_ (.inl c1) (d0_ z u) (d0_ w u) (by rw[c1];have:=mL_ up;omega) s3
 have c3:ab (evalP v z)= -evalP v z:=by unfold ab;rw[if_pos c2]
 rw[c3] at hv
 have c4:=Rat.mul_le_mul_of_nonneg_left hv hwz
 have up:evalP u w≤evalP u z:=outweigh' hk (Rat.mul_le_mul_of_nonneg_left ht2.2 (by grind)) small c4 hvz
 exact nL_ (.inr c1) (d0_ z u) (d0_ w u) (by rw[c1];have:=mL_ up;omega) s3
 exact absurd c1 s2
def nz(p:List Rat):Prop:=trimQ p≠[]
def dg(p:List Rat):Nat:=(trimQ p).length- 1
def md(p q:List Rat):List Rat:=(divP p q).2
def Eqv(p q:List Rat):Prop:=∀x,evalP p x=evalP q x
theorem eqv_trim{p q:List Rat}:Eqv p q↔trimQ p=trimQ q:=
 ⟨j2_,fun h x=>by rw[←bw_ p,h,bw_]⟩
theorem pm_{p q:List Rat}(h:Eqv p q):nz p↔nz q:=by unfold nz;rw[eqv_trim.1 h]
theorem dg_eqv{p q:List Rat}(h:Eqv p q):dg p=dg q:=by unfold dg;rw[eqv_trim.1 h]
theorem lead_eqv{p q:List Rat}(h:Eqv p q):leadP p=leadP q:=by unfold leadP;rw[eqv_trim.1 h]
theorem eD_{p:List Rat}(h:¬nz p):∀x,evalP p x=0:=fun x=>by
 have:trimQ p=[]:=by unfold nz at h;exact Decidable.byContradiction h
 rw[←bw_,this];rfl
def isDeg(p:List Rat)(n:Nat):Prop:=coP p n≠0∧∀i,n< i→coP p i=0
theorem dG_{p:List Rat}(h:nz p):isDeg p (dg p)∧coP p (dg p)=leadP p:=by
 have hl:=List.length_pos_iff.2 h
 have h1:=bG_ (l:=p) (n:=dg p) (by unfold dg;omega)
 have h2:coP p (dg p)=leadP p:=by
  rw[←bs_];unfold coP;rw[List.getD_eq_getElem?_getD,h1];rfl
 refine⟨⟨by rw[h2];exact b9_ h,fun i hi=>?_⟩,h2⟩
 rw[←bs_]
 exact cs_ (by unfold dg at hi;omega)
theorem jB_{p:List Rat}{n:Nat}(h:isDeg p n):nz p∧dg p=n∧leadP p=coP p n:=by
 have h0:nz p:=fun e=>h.1 (trim_nil_iff.1 e n)
 obtain⟨h1,h2⟩:=dG_ h0
 have e:dg p=n:=by
  rcases Nat.lt_trichotomy (dg p) n with h3|h3|h3
  exact absurd (h1.2 n h3) h.1
  exact h3
  exact absurd (h.2 _ h3) h1.1
 exact⟨h0,e,by rw[←h2,e]⟩
theorem ls_{p:List Rat}(h:∀i,coP p i=0)(q:List Rat)(k:Nat):coP (mulL p q) k=0:=by
 induction p generalizing k with
 |nil=>rfl
 |cons a p ih=>
  have ha:a=0:=h 0
  rw[mulL,c7_,cO_,ha]
  cases k with
  |zero=>rw[cu_];grind
  |succ k=>rw[bS_,ih fun i=>h (i+1)];grind
theorem lr_(p q:List Rat):∀(n m:Nat),(∀i,n< i→coP p i=0)→(∀i,m< i→coP q i=0)→coP (mulL p q) (n+m)=coP p n* coP q m∧∀k,n+m< k→coP (mulL p q) k=0:=by
 induction p with
 |nil=>intro n m _ _;exact⟨by show(0:Rat)=0* _;grind,fun _ _=>rfl⟩
 |cons a p ih=>
  intro n m hn hm
  cases n with
  |zero=>
   have h0:∀i,coP p i=0:=fun i=>hn (i+1) (by omega)
   have hk:∀k,coP (mulL (a::p) q) k=coP q k* a:=fun k=>by
    rw[mulL,c7_,cO_]
    cases k with
    |zero=>rw[cu_];grind
    |succ k=>rw[bS_,ls_ h0];grind
   refine⟨by rw[Nat.zero_add,hk,cu_];grind,fun k hk'=>?_⟩
   rw[hk,hm k (by omega)];grind
  |succ n=>
   obtain⟨h1,h2⟩:=ih n m (fun i hi=>hn (i+1) (by omega)) hm
   have hk:∀k,m< k+1→coP (mulL (a::p) q) (k+1)=coP (mulL p q) k:=fun k h=>by
    rw[mulL,c7_,cO_,bS_,hm _ h];grind
   refine⟨by rw[show n+1+m=(n+m)+1 by omega,hk _ (by omega),h1,bS_],fun k hk'=>?_⟩
   obtain⟨j,rfl⟩:∃j,k=j+1:=⟨k- 1,by omega⟩
   rw[hk _ (by omega)];exact h2 j (by omega)
theorem pF_{p q:List Rat}{n m:Nat}(hp:isDeg p n)(hq:isDeg q m):isDeg (mulP p q) (n+m)∧coP (mulP p q) (n+m)=coP p n* coP q m:=by
 obtain⟨h1,h2⟩:=lr_ p q n m hp.2 hq.2
 refine⟨⟨?_,fun i hi=>by rw[gn_];exact h2 i hi⟩,by rw[gn_];exact h1⟩
 rw[gn_,h1]
 have a:=hp.1;have b:=hq.1
 intro e
 rcases Rat.mul_eq_zero.1 e with h|h
 exact a h
 exact b h
theorem dg_mul{p q:List Rat}(hp:nz p)(hq:nz q):nz (mulP p q)∧dg (mulP p q)=dg p+dg q∧leadP (mulP p q)=leadP p* leadP q:=by
 obtain⟨a1,a2⟩:=dG_ hp
 obtain⟨b1,b2⟩:=dG_ hq
 obtain⟨c1,c2⟩:=pF_ a1 b1
 obtain⟨d1,d2,d3⟩:=jB_ c1
 exact⟨d1,d2,by rw[d3,c2,a2,b2]⟩
theorem dg_mul'{p q r:List Rat}(hp:nz p)(hq:nz q)(h:∀x,evalP r x=evalP p x* evalP q x):nz r∧dg r=dg p+dg q∧leadP r=leadP p* leadP q:=by
 have e:Eqv r (mulP p q):=fun x=>by rw[h,bh_]
 obtain⟨h1,h2,h3⟩:=dg_mul hp hq
 exact⟨(pm_ e).2 h1,(dg_eqv e).trans h2,(lead_eqv e).trans h3⟩
theorem g5_{p:List Rat}{k:Rat}(hp:nz p)(hk:k≠0){r:List Rat}(h:∀x,evalP r x=evalP p x* k):nz r∧dg r=dg p∧leadP r=leadP p* k:=by
 have hc:isDeg [k] 0:=⟨hk,fun i hi=>by obtain⟨j,rfl⟩:∃j,i=j+1:=⟨i- 1,by omega⟩;rfl⟩
 obtain⟨c1,c2,c3⟩:=jB_ hc
 obtain⟨h1,h2,h3⟩:=dg_mul' hp c1 (r:=r) (fun x=>by rw[h];show _=_* (0* x+k);grind)
 exact⟨h1,by omega,by rw[h3,c3];rfl⟩
theorem hD_(p:List Rat){q:List Rat}(hq:nz q):(∀x,evalP p x=evalP (divP p q).1 x* evalP q x+evalP (md p q) x)∧(nz (md p q)→dg (md p q)< dg q):=by
 obtain⟨h1,h2⟩:=eQ_ p q hq
 refine⟨fun x=>(h1 x).symm,fun h=>?_⟩
 have:=List.length_pos_iff.2 h
 unfold md at *
 unfold dg;omega
theorem md_uniq{p q u v:List Rat}(hq:nz q)(h:∀x,evalP p x=evalP u x* evalP q x+evalP v x)(hv:nz v→dg v< dg q):Eqv (md p q) v:=by
 obtain⟨h1,h2⟩:=hD_ p hq
 by_cases hw:nz (subP u (divP p q).1)
 exfalso
 obtain⟨c1,c2,_⟩:=dg_mul' hw hq (r:=subP (md p q) v) (fun x=>by
  rw[cj_,cj_];have:=h x;have:=h1 x;grind)
 have hz:∀r,(nz r→dg r< dg q)→∀i,dg q≤i→coP r i=0:=fun r hr i hi=>by
  by_cases hz:nz r
  exact(dG_ hz).1.2 i (by have:=hr hz;omega)
  exact trim_nil_iff.1 (Decidable.byContradiction hz) i
 have:=(dG_ c1).1.1
 rw[c2,j7_,hz _ h2 _ (by omega),hz _ hv _ (by omega)] at this
 grind
 intro x
 have:=eD_ hw x
 rw[cj_] at this
 have:=h x;have:=h1 x
 grind
theorem maxL2(m a:Rat):m≤maxL [m,a]∧a≤maxL [m,a]:=by
 have e:maxL [m,a]=if 0< cmpQ a m then a else m:=by
  unfold maxL cf_
  simp only[List.foldl_cons,List.foldl_nil,decide_eq_true_eq]
 rw[e]
 unfold cmpQ
 by_cases h1:a< m
 rw[if_pos h1,if_neg (by decide)];grind
 rw[if_neg h1]
 by_cases h2:a=m
 rw[if_pos h2,if_neg (by decide)];grind
 rw[if_neg h2,if_pos (by decide)];grind
theorem kd_(q:Rat):absQ q=ab q:=gs_ q
theorem nN_(lead:Rat):∀(l:List Rat) (m:Rat),m≤boL lead l m∧∀c∈l,ab (c/ lead)≤boL lead l m
 |[],m=>⟨by rw[boL];grind,fun _ h=>by cases h⟩
 |c::l,m=>by
  obtain⟨h1,h2⟩:=nN_ lead l (maxL [m,absQ (c/ lead)])
  obtain⟨h3,h4⟩:=maxL2 m (absQ (c/ lead))
  rw[kd_] at h4
  rw[boL]
  refine⟨by grind,fun d hd=>?_⟩
  rcases List.mem_cons.1 hd with rfl|hd
  rw[kd_] at *;grind
  exact h2 d hd
theorem qJ_(p:List Rat):1≤cC_ p:=by
 have:=(nN_ (leadP p) ((trimQ p).take ((trimQ p).length- 1)) 0).1
 unfold cC_;grind
def sg(k:Nat):Rat:=(-1) ^ k
theorem pow_ne{a:Rat}(h:a≠0)(n:Nat):a^ n≠0:=by
 induction n with
 |zero=>rw[Rat.pow_zero];grind
 |succ n ih=>rw[Rat.pow_succ];intro e;rcases Rat.mul_eq_zero.1 e with e|e;exact ih e;exact h e
theorem jF_{p:List Rat}(h:nz p):leadP p≠0:=b9_ h
def Dv(d p:List Rat):Prop:=∃u,∀x,evalP p x=evalP u x* evalP d x
theorem kM_{p q r:List Rat}(h:∀x,evalP r x=evalP p x* evalP q x)(hr:nz r):nz p∧nz q:=by
 constructor
 intro e
 have e':¬nz p:=fun h=>h e
 exact absurd rfl ((pm_ (q:=[]) fun x=>by rw[h,eD_ e',aX_];grind).1 hr)
 intro e
 have e':¬nz q:=fun h=>h e
 exact absurd rfl ((pm_ (q:=[]) fun x=>by rw[h,eD_ e',aX_];grind).1 hr)


theorem eh_{p:List Rat}(h:nz p):(∀x,evalP (bd_ p) x=evalP p x* (1/ leadP p))∧nz (bd_ p)∧dg (bd_ p)=dg p:=by
 have hl:=jF_ h
 have e:∀x,evalP (bd_ p) x=evalP p x* (1/ leadP p):=fun x=>by unfold bd_;rw[if_neg h,a5_]
 have hk:1/ leadP p≠0:=fun e=>by have:1/ leadP p* leadP p=1:=by grind
                                 rw[e] at this;grind
 obtain⟨a,b,_⟩:=g5_ h hk e
 exact⟨e,a,b⟩
theorem pr_(p:List Rat):∃k k':Rat,k* k'=1∧∀x,evalP (bd_ p) x=evalP p x* k:=by
 by_cases h:nz p
 refine⟨1/ leadP p,leadP p,Rat.div_mul_cancel (jF_ h),(eh_ h).1⟩
 refine⟨1,1,by decide+kernel,fun x=>?_⟩
 have e:trimQ p=[]:=Decidable.byContradiction h
 unfold bd_
 rw[if_pos e,eD_ h,aX_];decide+kernel
theorem Dv.refl(d:List Rat):Dv d d:=⟨[1],fun x=>by rw[aF_,aX_];grind⟩
theorem Dv.zero(d:List Rat){r:List Rat}(h:∀x,evalP r x=0):Dv d r:=⟨[],fun x=>by rw[h,aX_];grind⟩
theorem Dv.trans{a b c:List Rat}(h:Dv a b)(k:Dv b c):Dv a c:=by
 obtain⟨u,hu⟩:=h
 obtain⟨v,hv⟩:=k
 exact⟨mulP v u,fun x=>by rw[hv,hu,bh_];grind⟩
theorem Dv.lin{d p q r:List Rat}{u v:List Rat}(h:Dv d p)(k:Dv d q)(e:∀x,evalP r x=evalP u x* evalP p x+evalP v x* evalP q x):Dv d r:=by
 obtain⟨s,hs⟩:=h
 obtain⟨t,ht⟩:=k
 exact⟨addP (mulP u s) (mulP v t),fun x=>by rw[e,hs,ht,ck_,bh_,bh_];grind⟩
theorem Dv.mul{d p q r:List Rat}(h:Dv d p)(e:∀x,evalP r x=evalP q x* evalP p x):Dv d r:=
 h.lin h (u:=q) (v:=[]) fun x=>by rw[e,aX_];grind
theorem Dv.scale{d p r:List Rat}{k:Rat}(h:Dv d p)(e:∀x,evalP r x=evalP p x* k):Dv d r:=
 h.mul (q:=[k]) fun x=>by rw[e,aF_,aX_];grind
theorem Dv.dg{d p:List Rat}(h:Dv d p)(hp:nz p):dg d≤dg p:=by
 obtain⟨u,hu⟩:=h
 obtain⟨n1,n2⟩:=kM_ hu hp
 have:=(dg_mul' n1 n2 hu).2.1
 omega
theorem one_dg{d:List Rat}(h:nz d)(h0:dg d=0):∃c:Rat,c≠0∧∀x,evalP d x=c:=by
 obtain⟨e1,e2⟩:=dG_ h
 refine⟨leadP d,jF_ h,fun x=>?_⟩
 have:trimQ d=trimQ [leadP d]:=trim_iff.2 fun i=>by
  cases i with
  |zero=>rw[cu_,←e2,h0]
  |succ i=>rw[bS_,fA_];exact e1.2 _ (by omega)
 rw[←bw_,this,bw_,aF_,aX_];grind
theorem nz_one:nz [1]:=by unfold nz;decide+kernel
theorem bez:∀(n:Nat) (p q:List Rat),(trimQ q).length=n→nz p∨nz q→∃g a b:List Rat,nz g∧Dv g p∧Dv g q∧∀x,evalP g x=evalP a x* evalP p x+evalP b x* evalP q x:=by
 intro n
 induction n using Nat.strongRecOn with
 |ind n ih=>
  intro p q hn h
  by_cases hq:nz q
  obtain⟨m1,m2⟩:=hD_ p hq
  have hlt:(trimQ (md p q)).length< n:=by
   have:=(eQ_ p q hq).2
   unfold md;omega
  obtain⟨g,a,b,g0,g1,g2,g3⟩:=ih _ hlt q (md p q) rfl (.inl hq)
  refine⟨g,b,subP a (mulP b (divP p q).1),g0,g1.lin g2 (u:=(divP p q).1) (v:=[1]) fun x=>?_,g1,fun x=>?_⟩
  rw[m1,aF_,aX_];grind
  rw[g3,cj_,bh_,m1 x];grind
  have hp:nz p:=h.resolve_right hq
  exact⟨p,[1],[],hp,.refl p,.zero p (eD_ hq),fun x=>by rw[aF_,aX_,eD_ hq];grind⟩
theorem nc_:∀(f:Nat) (p q g:List Rat),gcdM f p q=some g→nz p∨nz q→nz g∧Dv g p∧Dv g q∧∃a b:List Rat,∀x,evalP g x=evalP a x* evalP p x+evalP b x* evalP q x
 |0,_,_,_,h,_=>by cases h
 |f+1,p,q,g,h,hz=>by
  rw[gcdM] at h
  split at h
  ·rename_i h0
   split at h
   cases h
   have hq:¬nz q:=fun e=>e h0
   have hp:nz p:=hz.resolve_right hq
   obtain⟨m1,m2,_⟩:=eh_ hp
   obtain⟨k,k',hk,m⟩:=pr_ p
   refine⟨m2,⟨[k'],fun x=>by rw[m,aF_,aX_];grind⟩,.zero _ (eD_ hq),[k],[],fun x=>by rw[m,aF_,aX_];grind⟩
   cases h
  ·rename_i h0
   split at h
   obtain⟨m1,_⟩:=hD_ p h0
   obtain⟨k,k',hk,m⟩:=pr_ (divP p q).2
   obtain⟨g0,g1,g2,a,b,g3⟩:=nc_ f _ _ _ h (.inl h0)
   refine⟨g0,g1.lin g2 (u:=(divP p q).1) (v:=[k']) fun x=>?_,g1,aN_ b k,subP a (aN_ (mulP b (divP p q).1) k),fun x=>?_⟩
   rw[m1,m,aF_,aX_]
   show _+evalP (divP p q).2 x=_
   grind
   rw[g3,m,a5_,cj_,a5_,bh_,m1 x]
   show _=_* (_+evalP (divP p q).2 x)+_
   grind
   cases h
def pw(d:List Rat):Nat→List Rat
 |0=>[1]
 |k+1=>mulP (pw d k) d
theorem lR_{p:List Rat}(h:nz p):∃k:Rat,0< k∧∀x,evalP (primP p) x=evalP p x* k:=by
 have hD:denL (trimQ p) 1≠0:=h7_ _ (by decide)
 have hN:numL (denL (trimQ p) 1) (trimQ p) 0≠0:=by
  intro e
  have h1:=(gW_ (denL (trimQ p) 1) (trimQ p) 0).2
  have h2:=(fa_ (trimQ p) 1).2
  have hl:=List.length_pos_iff.2 h
  have hg:=bG_ (l:=p) (n:=(trimQ p).length- 1) (by omega)
  have hm:=List.mem_of_getElem? hg
  have h3:=h1 _ hm
  rw[e] at h3
  exact l1_ (h2 _ hm) hD (b9_ h) (Nat.eq_zero_of_zero_dvd h3)
 refine⟨nQ (denL (trimQ p) 1) / nQ (numL (denL (trimQ p) 1) (trimQ p) 0),?_,fun x=>by unfold primP;rw[a5_,bw_]⟩
 have pos:∀n:Nat,n≠0→(0:Rat)< nQ n:=fun n hn=>by
  rw[←num_pos]
  show 0< (n:Int)
  omega
 obtain⟨k,k0,e⟩:=part (nQ (denL (trimQ p) 1)) (pos _ hD) (pos _ hN)
 rw[←e,Rat.mul_div_cancel (fun e=>hN (nQ_zero.1 e))]
 exact k0
inductive Cx:List Rat→List Rat→List (List Rat)→Prop
 |nil {u n:List Rat}:¬nz n→Cx u n []
 |cons {u n v n' q:List Rat} {L:List (List Rat)} {c:Rat}:0< c→(∀x,evalP v x=evalP n x* c)→nz v→(∀x,evalP n' x=evalP q x* evalP v x- evalP u x)→Cx v n' L→Cx u n (v::L)
theorem Cx.ch{u n:List Rat}{L:List (List Rat)}(H:Cx u n L):nz u→(∀d,nz d→Dv d u→Dv d n→dg d=0)→Ch u L∧∀v L',L=v::L'→∃c:Rat,0< c∧∀x,evalP v x=c* evalP n x:=by
 induction H with
 | @nil u n hn=>
  intro hu hd
  obtain⟨c,c0,hc⟩:=one_dg hu (hd u hu (.refl u) (.zero u (eD_ hn)))
  exact⟨.one c0 hc,fun _ _ h=>by cases h⟩
 | @cons u n v n' q L c hc hv hnv hn' hL ih=>
  intro hu hd
  obtain⟨i1,i2⟩:=ih hnv fun d d0 d1 d2=>hd d d0 (d1.lin d2 (u:=q) (v:=[-1]) fun x=>by rw[hn',aF_,aX_];grind)
   (d1.scale (k:=1/ c) fun x=>by
    rw[hv]
    have:c* (1/ c)=1:=by have:=Rat.div_mul_cancel (a:=1) (b:=c) (by grind);grind
    generalize 1/ c=m at *
    grind)
  refine⟨?_,fun _ _ h=>by cases h;exact⟨c,hc,fun x=>by rw[hv];grind⟩⟩
  cases L with
  |nil=>exact .pair i1
  |cons w L=>
   obtain⟨c',c0,hw⟩:=i2 w L rfl
   exact .step (a:=c') (c:=1) (q:=aN_ q c') c0 (by decide+kernel) (fun x=>by rw[hw,hn',a5_];grind) i1
theorem px_{p:List Rat}{t:Nat}(h:bdL p t)(ht:1≤t):qs (leadP p)≤t:=by
 by_cases h0:trimQ p=[]
 rw[hI_ h0];exact Nat.le_trans (by decide:qs 0≤1) ht
 have hl:=List.length_pos_iff.2 h0
 exact h _ (bk_ (List.mem_of_getElem? (bG_ (n:=(trimQ p).length- 1) (by omega))))
theorem hk_{p:List Rat}{k:Rat}(hk:k≠0):(trimQ (aN_ p k)).length=(trimQ p).length:=by
 by_cases h:nz p
 obtain⟨a,b,_⟩:=g5_ h hk (r:=aN_ p k) fun x=>a5_ p k x
 have h1:=List.length_pos_iff.2 a
 have h2:=List.length_pos_iff.2 h
 unfold dg at b;omega
 have e:trimQ p=[]:=Classical.byContradiction h
 have e2:trimQ (aN_ p k)=[]:=by
  have:Eqv (aN_ p k) []:=fun x=>by rw[a5_,eD_ h,aX_];grind
  exact eqv_trim.1 this
 rw[e,e2]
def HtF(f:Nat→Rat)(k:Rat)(h:Nat):Prop:=∀i,∃z:Int,f i* k=(z:Rat)∧bl z.natAbs≤h
def Ht(p:List Rat)(h:Nat):Prop:=∃k:Rat,k≠0∧HtF (coP p) k h
theorem HtF.mono{f:Nat→Rat}{k:Rat}{h h':Nat}(H:HtF f k h)(hh:h≤h'):HtF f k h':=fun i=>by
 obtain⟨z,z1,z2⟩:=H i
 exact⟨z,z1,Nat.le_trans z2 hh⟩
theorem Ht.mono{p:List Rat}{h h':Nat}(H:Ht p h)(hh:h≤h'):Ht p h':=by
 obtain⟨k,k0,H⟩:=H
 exact⟨k,k0,H.mono hh⟩
theorem Ht.scale{p r:List Rat}{h:Nat}{c:Rat}(H:Ht p h)(hc:c≠0)(e:∀i,coP r i=coP p i* c):Ht r h:=by
 obtain⟨k,k0,H⟩:=H
 refine⟨k/ c,fun e=>?_,fun i=>?_⟩
 have:k/ c* c=k:=Rat.div_mul_cancel hc
 rw[e] at this;grind
 obtain⟨z,z1,z2⟩:=H i
 refine⟨z,?_,z2⟩
 have:k/ c* c=k:=Rat.div_mul_cancel hc
 rw[e,←z1];grind
theorem Ht.trim{p:List Rat}{h:Nat}(H:Ht p h):Ht (trimQ p) h:=H.scale (c:=1) (by decide+kernel) fun i=>by rw[bs_];grind
theorem Ht.untrim{p:List Rat}{h:Nat}(H:Ht (trimQ p) h):Ht p h:=H.scale (c:=1) (by decide+kernel) fun i=>by rw[bs_];grind
theorem Ht.zero{p:List Rat}(e:∀i,coP p i=0)(h:Nat):Ht p h:=⟨1,by decide+kernel,fun i=>⟨0,by rw[e];decide+kernel,Nat.zero_le _⟩⟩
theorem nF_(o:List Rat)(a:Rat)(q:List Rat)(i n:Nat):∀k,coP (rowM o a q i k) n=if i≤n∧n< i+k∧n< o.length then coP o n- a* coP q (n- i) else coP o n
 |0=>by rw[rowM,if_neg (by omega)]
 |k+1=>by
  rw[rowM,f3_,nF_ o a q i n k,cZ_]
  by_cases h:n=i+k∧i+k< o.length
  rw[if_pos h,if_pos (by omega),fM_ o a q i k (i+k) (by omega),h.1,show i+k- i=k by omega]
  rw[if_neg h]
  by_cases h2:i≤n∧n< i+k∧n< o.length
  rw[if_pos h2,if_pos (by omega)]
  rw[if_neg h2,if_neg (by omega)]
theorem qL_{x y:Int}{k:Nat}(hx:bl x.natAbs≤k)(hy:bl y.natAbs≤k):bl (x- y).natAbs≤k+1:=by
 rw[Int.sub_eq_add_neg]
 exact lE_ hx (by rwa[Int.natAbs_neg])
theorem qt_{q:List Rat}{lead l:Rat}{g:Nat}(hl:coP q (q.length- 1)=lead)(h0:lead≠0)(l0:l≠0)(hq:HtF (coP q) l g):∀(c:Nat) (u o:List Rat) (k:Rat) (H:Nat),k≠0→HtF (coP o) k H→HtF (coP u) (k/ l) H→
    ∃k',k'≠0∧HtF (coP (divR q lead c u o).1) (k'/ l) (H+c* (g+1))∧HtF (coP (divR q lead c u o).2) k' (H+c* (g+1))
 |0,u,o,k,H,k0,ho,hu=>⟨k,k0,by rw[Nat.zero_mul];exact hu,by rw[Nat.zero_mul];exact ho⟩
 |n+1,u,o,k,H,k0,ho,hu=>by
  obtain⟨zl,zl1,zl2⟩:=hq (q.length- 1)
  rw[hl] at zl1
  have zl0:(zl:Rat)≠0:=fun e=>by
   rw[e] at zl1
   rcases Rat.mul_eq_zero.1 zl1 with e|e
   exact h0 e
   exact l0 e
  obtain⟨zt,zt1,zt2⟩:=ho (n+q.length- 1)
  generalize hte:coP o (n+q.length- 1) / lead=t
  have ht:t* lead=coP o (n+q.length- 1):=by rw[←hte];exact Rat.div_mul_cancel h0
  have hll:k/ l* l=k:=Rat.div_mul_cancel l0
  have hkl:k* (zl:Rat) / l=k/ l* zl:=by rw[Rat.div_def,Rat.div_def];grind
  rw[divR]
  obtain⟨k',k1,k2,k3⟩:=qt_ hl h0 l0 hq n (u.set n (coP o (n+q.length- 1) / lead)) (if coP o (n+q.length- 1) / lead=0 then o else rowM o (coP o (n+q.length- 1) / lead) q n q.length) (k* zl) (H+(g+1)) (fun e=>by
   rcases Rat.mul_eq_zero.1 e with e|e
   exact k0 e
   exact zl0 e) (fun i=>by
   rw[hte]
   have plain:∃z:Int,coP o i* (k* (zl:Rat))=(z:Rat)∧bl z.natAbs≤H+(g+1):=by
    obtain⟨z,z1,z2⟩:=ho i
    refine⟨z* zl,by rw[Rat.intCast_mul,←z1];grind,?_⟩
    have:=bx_ z2 zl2
    omega
   split
   exact plain
   rw[nF_]
   split
   obtain⟨z,z1,z2⟩:=ho i
   obtain⟨zj,y1,y2⟩:=hq (i- n)
   refine⟨z* zl- zt* zj,?_,?_⟩
   rw[Rat.intCast_sub,Rat.intCast_mul,Rat.intCast_mul,←z1,←zt1,←y1,←zl1,←ht];grind
   have:=qL_ (bx_ z2 zl2) (bx_ zt2 y2)
   omega
   exact plain) (fun i=>by
   rw[hte,j8_,hkl]
   split
   refine⟨zt,?_,by omega⟩
   rw[←zl1,←zt1,←ht]
   have:t* (k/ l* (lead* l))=t* lead* (k/ l* l):=by grind
   rw[this,hll]
   obtain⟨z,z1,z2⟩:=hu i
   refine⟨z* zl,by rw[Rat.intCast_mul,←z1];grind,?_⟩
   have:=bx_ z2 zl2
   omega)
  have e:H+(g+1)+n* (g+1)=H+(n+1) * (g+1):=by rw[Nat.succ_mul];omega
  rw[e] at k2 k3
  exact⟨k',k1,k2,k3⟩
theorem j4_{p q:List Rat}{h g:Nat}(hp:Ht p h)(hq:Ht q g)(h0:nz q):Ht (divP p q).1 (h+((trimQ p).length+1- (trimQ q).length) * (g+1))∧Ht (divP p q).2 (h+((trimQ p).length+1- (trimQ q).length) * (g+1)):=by
 obtain⟨k,k0,hp⟩:=hp.trim
 obtain⟨l,l0,hq⟩:=hq.trim
 have hl:=List.length_pos_iff.2 h0
 have hg:=bG_ (l:=q) (n:=(trimQ q).length- 1) (by omega)
 have hc:coP (trimQ q) ((trimQ q).length- 1)=leadP q:=by unfold coP;rw[List.getD_eq_getElem?_getD,hg];rfl
 have hkl:k/ l≠0:=fun e=>by
  have:k/ l* l=k:=Rat.div_mul_cancel l0
  rw[e] at this;grind
 obtain⟨k',k1,k2,k3⟩:=qt_ hc (b9_ h0) l0 hq ((trimQ p).length+1- (trimQ q).length) (List.replicate ((trimQ p).length+1- (trimQ q).length) 0) (trimQ p) k h k0 hp fun i=>by
  refine⟨0,?_,Nat.zero_le _⟩
  have:coP (List.replicate ((trimQ p).length+1- (trimQ q).length) (0:Rat)) i=0:=by
   unfold coP;rw[List.getD_eq_getElem?_getD,List.getElem?_replicate];split <;> rfl
  rw[this,Rat.zero_mul];rfl
 have hkl':k'/ l≠0:=fun e=>by
  have:k'/ l* l=k':=Rat.div_mul_cancel l0
  rw[e] at this;grind
 exact⟨(show Ht _ _ from⟨k'/ l,hkl',k2⟩).trim,(show Ht _ _ from⟨k',k1,k3⟩).trim⟩
theorem Ht.of{p:List Rat}{s:Nat}(h:bdL p s):Ht p (s+1+p.length* s):=by
 have hD:denL p 1≠0:=h7_ _ (by decide)
 have hb:=mr_ p 1 h
 have hd:=(fa_ p 1).2
 rw[jk_] at hb
 refine⟨nQ (denL p 1),fun e=>hD (nQ_zero.1 e),fun i=>?_⟩
 by_cases hi:i< p.length
 have hm:=List.mem_of_getElem? (bc_ hi)
 have h1:=gX_ (coP p i) _ (hd _ hm)
 have h2:=l2_ (coP p i) (denL p 1)
 have h3:=h _ hm
 rw[gs_] at h1
 by_cases hn:coP p i* nQ (denL p 1)< 0
 rw[if_pos hn] at h1
 refine⟨-(intC (coP p i) (denL p 1):Int),by rw[Rat.intCast_neg];grind,?_⟩
 rw[Int.natAbs_neg,Int.natAbs_natCast];omega
 rw[if_neg hn] at h1
 exact⟨(intC (coP p i) (denL p 1):Int),h1,by rw[Int.natAbs_natCast];omega⟩
 refine⟨0,?_,Nat.zero_le _⟩
 rw[cs_ (by omega),Rat.zero_mul];rfl
theorem Ht.derive{p:List Rat}{h:Nat}(H:Ht p h):Ht (a2_ p) (h+bl p.length):=by
 obtain⟨k,k0,H⟩:=H
 refine⟨k,k0,fun i=>?_⟩
 rw[cD_]
 by_cases hi:i+1< p.length
 obtain⟨z,z1,z2⟩:=H (i+1)
 refine⟨z* ((i+1:Nat):Int),by rw[Rat.intCast_mul,←z1];grind,?_⟩
 have:=bx_ z2 (show bl (((i+1:Nat):Int)).natAbs≤bl p.length by rw[Int.natAbs_natCast];exact bP_ (by omega))
 omega
 refine⟨0,?_,Nat.zero_le _⟩
 rw[cs_ (by omega),Rat.zero_mul,Rat.zero_mul];rfl
theorem Ht.quot{p:List Rat}{h:Nat}(H:Ht p h)(i j:Nat)(hj:coP p j≠0)(h1:1≤h):qs (coP p i/ coP p j)≤h:=by
 obtain⟨k,k0,H⟩:=H
 obtain⟨z,z1,z2⟩:=H i
 obtain⟨w,w1,w2⟩:=H j
 have w0:w≠0:=fun e=>by
  rw[e] at w1
  rcases Rat.mul_eq_zero.1 w1 with e|e
  exact hj e
  exact k0 e
 have w0':(w:Rat)≠0:=fun e=>w0 (by exact_mod_cast e)
 have e:coP p i/ coP p j=(z:Rat) / (w:Rat):=by
  have a1:coP p i/ coP p j* coP p j=coP p i:=Rat.div_mul_cancel hj
  have a2:(coP p i/ coP p j) * (w:Rat)=(z:Rat):=by rw[←w1,←z1];grind
  rw[←a2,Rat.mul_div_cancel w0']
 have hpos:0< w.natAbs:=by omega
 by_cases hw:0< w
 have e2:(z:Rat) / (w:Rat)=mkRat z w.natAbs:=by
  rw[d6_]
  show Rat.divInt (z* ((1:Nat):Int)) (((1:Nat):Int) * w)=_
  rw[←Rat.divInt_ofNat]
  congr 1 <;> omega
 rw[e,e2]
 exact c6_ hpos z2 w2
 have e2:(z:Rat) / (w:Rat)=mkRat (-z) w.natAbs:=by
  have e3:(z:Rat) / (w:Rat)=((-z:Int):Rat) / ((-w:Int):Rat):=by
   have a1:(z:Rat) / (w:Rat) * (w:Rat)=(z:Rat):=Rat.div_mul_cancel w0'
   rw[Rat.intCast_neg,Rat.intCast_neg]
   generalize (z:Rat) / (w:Rat)=m at *
   have a2: -(z:Rat)=m* -(w:Rat):=by grind
   rw[a2,Rat.mul_div_cancel (by grind)]
  rw[e3,d6_]
  show Rat.divInt (-z* ((1:Nat):Int)) (((1:Nat):Int) * -w)=_
  rw[←Rat.divInt_ofNat]
  congr 1 <;> omega
 rw[e,e2]
 exact c6_ hpos (by rwa[Int.natAbs_neg]) w2
theorem Ht.monic{p:List Rat}{h:Nat}(H:Ht p h)(h1:1≤h):bdL (bd_ p) h∧Ht (bd_ p) h:=by
 by_cases h0:nz p
 have hm:bd_ p=aN_ p (1/ leadP p):=by unfold bd_;rw[if_neg h0]
 have hk:1/ leadP p≠0:=fun e=>by have:=Rat.div_mul_cancel (a:=1) (jF_ h0);rw[e] at this;grind
 refine⟨ex_ fun i=>?_,H.scale hk fun i=>by rw[hm,bN_]⟩
 have e:coP (bd_ p) i=coP p i/ coP p (dg p):=by
  rw[hm,bN_,(dG_ h0).2,Rat.div_def,Rat.div_def,Rat.one_mul]
 rw[e]
 exact H.quot i _ (dG_ h0).1.1 h1
 have e:bd_ p=[]:=by unfold bd_;rw[if_pos (Decidable.byContradiction h0)]
 rw[e]
 exact⟨fun q hq=>(by cases hq),.zero (fun i=>rfl) _⟩
theorem nw_(D d:Nat):∀(l:List Rat) (n:Nat),d∣n→(∀c∈l,d∣intC c D)→d∣numL D l n
 |[],_,h,_=>h
 |c::l,n,h,hc=>nw_ D d l _ (Nat.dvd_gcd h (hc c (List.mem_cons_self ..))) fun x hx=>hc x (List.mem_cons_of_mem _ hx)
theorem Ht.prim{p:List Rat}{h:Nat}(H:Ht p h)(h0:nz p)(h1:1≤h):bdL (primP p) h∧Ht (primP p) h:=by
 obtain⟨c,c0,hc⟩:=lR_ h0
 have hcc:∀i,coP (primP p) i=coP p i* (nQ (denL (trimQ p) 1) / nQ (numL (denL (trimQ p) 1) (trimQ p) 0)):=fun i=>by unfold primP;rw[bN_,bs_]
 have hD:denL (trimQ p) 1≠0:=h7_ _ (by decide)
 have hl:=List.length_pos_iff.2 h0
 have hg:=bG_ (l:=p) (n:=(trimQ p).length- 1) (by omega)
 have hm:=List.mem_of_getElem? hg
 have hdv:=(fa_ (trimQ p) 1).2
 have hnd:=(gW_ (denL (trimQ p) 1) (trimQ p) 0).2
 have hdn:=nw_ (denL (trimQ p) 1)
 generalize hDe:denL (trimQ p) 1=D at *
 have hN:numL D (trimQ p) 0≠0:=fun e=>by
  have:=hnd _ hm
  rw[e] at this
  exact l1_ (hdv _ hm) hD (b9_ h0) (Nat.eq_zero_of_zero_dvd this)
 have hDq:nQ D≠0:=fun e=>hD (nQ_zero.1 e)
 have hNq:nQ (numL D (trimQ p) 0)≠0:=fun e=>hN (nQ_zero.1 e)
 refine⟨ex_ fun i=>?_,H.scale (c:=nQ D/ nQ (numL D (trimQ p) 0)) (fun e=>by
  have:nQ D/ nQ (numL D (trimQ p) 0) * nQ (numL D (trimQ p) 0)=nQ D:=Rat.div_mul_cancel hNq
  rw[e,Rat.zero_mul] at this
  exact hDq this.symm) hcc⟩
 obtain⟨k,k0,H⟩:=H
 -- k=D* (m/ n)
 generalize hr:k/ nQ D=r
 have hk:k=r* nQ D:=by rw[←hr,Rat.div_mul_cancel hDq]
 have r0:r≠0:=fun e=>by rw[e] at hk;grind
 have rn:r* (nQ r.den)=(r.num:Rat):=by
  have e:(r.num:Rat) / nQ r.den=r:=by
   rw[d6_]
   show Rat.divInt (r.num* ((1:Nat):Int)) (((1:Nat):Int) * r.den)=_
   rw[show r.num* ((1:Nat):Int)=r.num by omega,show((1:Nat):Int) * (r.den:Int)=r.den by omega,Rat.divInt_ofNat,Rat.mkRat_self]
  have:=Rat.div_mul_cancel (a:=(r.num:Rat)) (b:=nQ r.den) (fun e=>r.den_nz (nQ_zero.1 e))
  rwa[e] at this
 have co:∀j,j< (trimQ p).length→r.den∣intC (coP p j) D∧∃z:Int,(intC (coP p j) D* r.num.natAbs=z.natAbs* r.den∧bl z.natAbs≤h):=fun j hj=>by
  obtain⟨z,z1,z2⟩:=H j
  have hmj:=List.mem_of_getElem? (bc_ hj)
  rw[bs_] at hmj
  have a1:=gX_ (coP p j) D (hdv _ hmj)
  have a2:intC (coP p j) D* r.num.natAbs=z.natAbs* r.den:=by
   have b1:coP p j* nQ D* (r.num:Rat)=(z:Rat) * nQ r.den:=by rw[←z1,hk,←rn];grind
   have b2:∃s:Int,coP p j* nQ D=(s:Rat)∧s.natAbs=intC (coP p j) D:=by
    rw[gs_] at a1
    by_cases hn:coP p j* nQ D< 0
    rw[if_pos hn] at a1
    exact⟨-(intC (coP p j) D:Int),by rw[Rat.intCast_neg];grind,by rw[Int.natAbs_neg,Int.natAbs_natCast]⟩
    rw[if_neg hn] at a1
    exact⟨(intC (coP p j) D:Int),a1,Int.natAbs_natCast _⟩
   obtain⟨s,s1,s2⟩:=b2
   rw[s1] at b1
   have b3:s* r.num=z* (r.den:Int):=by
    have:((s* r.num:Int):Rat)=((z* (r.den:Int):Int):Rat):=by rw[Rat.intCast_mul,Rat.intCast_mul];exact b1
    exact_mod_cast this
   have b4:=congrArg Int.natAbs b3
   rw[Int.natAbs_mul,Int.natAbs_mul,s2,Int.natAbs_natCast] at b4
   exact b4
  refine⟨?_,z,a2,z2⟩
  have hco:Nat.Coprime r.den r.num.natAbs:=Nat.coprime_comm.1 r.reduced
  exact hco.dvd_of_dvd_mul_right ⟨z.natAbs,by rw[a2,Nat.mul_comm]⟩
 rw[hcc]
 by_cases hi:i< (trimQ p).length
 obtain⟨z,a2,z2⟩:=(co i hi).2
 have hmi:=List.mem_of_getElem? (bc_ hi)
 rw[bs_] at hmi
 have hdN:r.den∣numL D (trimQ p) 0:=hdn _ _ _ (Nat.dvd_zero _) fun c hcm=>by
  obtain⟨j,hj⟩:=List.mem_iff_getElem?.1 hcm
  have hjl:j< (trimQ p).length:=by
   by_cases h:j< (trimQ p).length
   exact h
   rw[List.getElem?_eq_none (by omega)] at hj;cases hj
  have e:=bc_ hjl
  rw[hj,bs_] at e
  cases e
  exact(co j hjl).1
 have hNi:=hnd _ hmi
 have a1:=gX_ (coP p i) D (hdv _ hmi)
 have small:intC (coP p i) D/ numL D (trimQ p) 0≤z.natAbs:=by
  have q1:r.den≤numL D (trimQ p) 0:=Nat.le_of_dvd (by omega) hdN
  have q2:0< r.num.natAbs:=by
   have:r.num≠0:=fun e=>r0 (Rat.num_eq_zero.1 e)
   omega
  refine Nat.div_le_of_le_mul ?_
  calc intC (coP p i) D≤intC (coP p i) D* r.num.natAbs:=Nat.le_mul_of_pos_right _ q2
   _=z.natAbs* r.den:=a2
   _≤numL D (trimQ p) 0* z.natAbs:=by rw[Nat.mul_comm];exact Nat.mul_le_mul_right _ q1
 have hb:bl (intC (coP p i) D/ numL D (trimQ p) 0)≤h:=Nat.le_trans (bP_ small) z2
 have e1:absQ (coP p i* (nQ D/ nQ (numL D (trimQ p) 0)))=nQ (intC (coP p i) D/ numL D (trimQ p) 0):=by
  have e2:coP p i* (nQ D/ nQ (numL D (trimQ p) 0))=coP p i* nQ D/ nQ (numL D (trimQ p) 0):=by rw[Rat.div_def,Rat.div_def];grind
  have e3:nQ (intC (coP p i) D) / nQ (numL D (trimQ p) 0)=nQ (intC (coP p i) D/ numL D (trimQ p) 0):=by
   rw[m5_ _ _ hN,kO_ _ _ hN hNi]
  have hpos:(0:Rat)< nQ (numL D (trimQ p) 0):=by
   rw[←num_pos];show 0< ((numL D (trimQ p) 0:Nat):Int);omega
  rw[e2,←e3,←a1,kd_,kd_,Rat.div_def,Rat.div_def,ga_]
  congr 1
  have:(0:Rat)< (nQ (numL D (trimQ p) 0))⁻¹:=Rat.inv_pos.2 hpos
  unfold ab;rw[if_neg (by grind)]
 rw[←qs_abs,e1]
 exact qs_nQ hb h1
 have:coP p i=0:=by rw[←bs_];exact cs_ (by omega)
 rw[this,Rat.zero_mul]
 exact Nat.le_trans (by decide:qs 0≤1) h1
end Go.Abs
