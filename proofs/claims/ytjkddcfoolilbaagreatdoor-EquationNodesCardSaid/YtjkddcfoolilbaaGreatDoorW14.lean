/- Part W14 of the proof. -/
import Derived.Test.YtjkddcfoolilbaaGreatDoorW13
import Derived.Lib.ItoaNum
set_option linter.all false
namespace Go.Abs
structure Cnt where
 p:List Rat
 ch:List (List Rat)
 far:Int
def kC(c:Cnt):List AV:=[.arr (pE c.p),.arr (cE c.ch),i64 c.far]
abbrev kA(c:Cnt):AV:= .aptr [kC c] 0 0
theorem mn_(c:Cnt):∀x∈kC c,Closed x:=aa_ (ap_ _) (aa_ (gz_ _) (aa_ (ad_ _) ac_))
theorem dt_(c:Cnt):Closed (kA c):=aM_ (mn_ c)
def sgI(q:List Rat):Int:=if degP q % 2=1 then -sgZ (leadP q).num else sgZ (leadP q).num
def sgE(x:Rat)(q:List Rat):Int:=sgZ (evalP q x).num
theorem gN_(z:Int): -1≤sgZ z∧sgZ z≤1:=by
 unfold sgZ;split;omega;split <;> omega
theorem sgI_abs(q:List Rat): -1≤sgI q∧sgI q≤1:=by
 have:=gN_ (leadP q).num;unfold sgI;split <;> omega
theorem mt_:∀(l:List Int) (n last:Int),n≤chL l n last∧chL l n last≤n+l.length
 |[],n,_=>⟨Int.le_refl _,by simp[chL]⟩
 |s::l,n,last=>by
  unfold chL;split;split;have:=mt_ l (n+1) s;simp only[List.length_cons];omega;have:=mt_ l n s;simp only[List.length_cons];omega;have:=mt_ l n last;simp only[List.length_cons];omega
def okCnt(c:Cnt):Prop:=(∀q∈c.ch,trimQ q≠[]∧q.length≤274877906944)∧c.ch.length≤274877906944∧c.far=chL (c.ch.map sgI) 0 0
instance (c:Cnt):Decidable (okCnt c):=inferInstanceAs (Decidable (_∧_∧_))
def eJ_(f:Nat)(p:List Rat):Option Cnt:=
 (sqfM f p).bind fun s=>(qg_ f s).bind fun ch=>if okCnt ⟨s,ch,chL (ch.map sgI) 0 0⟩ then some ⟨s,ch,chL (ch.map sgI) 0 0⟩ else none
def uptoV(c:Cnt)(x:Rat):Int:=c.far- chL (c.ch.map (sgE x)) 0 0
def okUp(c:Cnt)(x:Rat):Prop:=okCnt c∧∀q∈c.ch,cO_ q x
instance (c:Cnt) (x:Rat):Decidable (okUp c x):=inferInstanceAs (Decidable (_∧_))
def cy_(c:Cnt)(x:Rat):Int:=if evalP c.p x=0 then uptoV c x- 1 else uptoV c x
def okBe(c:Cnt)(x:Rat):Prop:=okUp c x∧cO_ c.p x
instance (c:Cnt) (x:Rat):Decidable (okBe c x):=inferInstanceAs (Decidable (_∧_))
def allV(c:Cnt):Int:=uptoV c (dZ_ c.p)
def okAll(c:Cnt):Prop:=iw_ c.p∧trimQ c.p≠[]∧okUp c (dZ_ c.p)
instance (c:Cnt):Decidable (okAll c):=inferInstanceAs (Decidable (_∧_∧_))
theorem hI_{c:Cnt}{x:Rat}(h:okCnt c): -274877906944≤uptoV c x∧uptoV c x≤274877906944:=by
 have h1:=mt_ (c.ch.map sgI) 0 0;have h2:=mt_ (c.ch.map (sgE x)) 0 0;have h3:=h.2.1;rw[←h.2.2] at h1;simp only[List.length_map] at h1 h2;unfold uptoV;omega
abbrev plA(c:Cnt)(i:Int):AV:= .aptr [[kA c,i64 i]] 0 0
theorem bC_(c:Cnt)(i:Int):Closed (plA c i):=aM_ (aa_ (dt_ c) (aa_ (ad_ _) ac_))
def plC(c:Cnt)(i:Int)(x:Rat):Int:=if i< cy_ c x then -1 else if cy_ c x=i∧cy_ c x< uptoV c x then 0 else 1
theorem sy_{c:Cnt}{x:Rat}(h:okCnt c): -274877906945≤cy_ c x∧cy_ c x≤274877906944:=by
 have:=hI_ (x:=x) h;unfold cy_;split <;> omega
def biM(c:Cnt)(i:Int)(step:Rat):Nat→Rat→Rat→Option Rat
 |0,_,_=>none
 |f+1,lo,hi=>
  if sm lo∧sm hi∧sm (hi- lo) then
   if 0< cmpQ (hi- lo) 1 then
    if qs (((lo+hi) / 2).floor:Rat)+qs step≤549755813888∧okBe c ((((lo+hi) / 2).floor:Rat) * step) then
     if 0≤plC c i ((((lo+hi) / 2).floor:Rat) * step) then biM c i step f (((lo+hi) / 2).floor:Rat) hi
     else biM c i step f lo (((lo+hi) / 2).floor:Rat)
    else none
   else some lo
  else none
def inK(a v:Rat)(out zeros:List Rat):Rat:=(v- evalP out a) / evalP zeros a
def okIn(a v:Rat)(out zeros:List Rat):Prop:=sm a∧sm v∧cO_ out a∧cO_ zeros a∧evalP zeros a≠0∧sm (inK a v out zeros)∧smL out∧smL zeros∧smL (bd_ zeros (inK a v out zeros))∧okMul zeros [-a,1]∧out.length≤274877906944
instance (a v:Rat) (out zeros:List Rat):Decidable (okIn a v out zeros):=inferInstanceAs (Decidable (_∧_∧_∧_∧_∧_∧_∧_∧_∧_∧_))
theorem f2_(i:Nat):coP [] i=0:=rfl
theorem dF_(a:Rat)(l:List Rat):coP (a::l) 0=a:=rfl
theorem c4_(a:Rat)(l:List Rat)(i:Nat):coP (a::l) (i+1)=coP l i:=rfl
theorem cP_(l:List Rat)(i:Nat):coP (trimQ l) i=coP l i:=by
 induction l generalizing i with
 |nil=>rfl
 |cons a l ih=>
  rw[cj_];split
  ·rename_i h
   have h0:∀j,coP l j=0:=fun j=>by rw[←ih j,h];rfl
   split
   ·rename_i ha
    cases i with
    |zero=>rw[ha];rfl
    |succ i=>rw[c4_,h0];rfl
   cases i with
   |zero=>rfl
   |succ i=>rw[c4_,c4_,h0];rfl
  cases i with
  |zero=>rfl
  |succ i=>rw[c4_,c4_,ih]
theorem coP_tab(n:Nat)(f:Nat→Rat)(i:Nat):coP (tabP n f) i=if i< n then f i else 0:=by
 unfold coP tabP;grind
theorem eK_(p q:List Rat)(i:Nat):coP (addP p q) i=coP p i+coP q i:=by
 unfold addP;rw[cP_,coP_tab];split;rfl
 ·rw[ec_ (by omega),ec_ (by omega)];grind
theorem dV_(p:List Rat)(k:Rat)(i:Nat):coP (bd_ p k) i=coP p i* k:=by
 unfold bd_;rw[cP_,coP_tab];split;rfl
 ·rw[ec_ (by omega)];grind
theorem nq_(p q:List Rat)(i:Nat):coP (subP p q) i=coP p i- coP q i:=by
 unfold subP;rw[eK_,dV_];grind
theorem jd_(a:Rat)(i:Nat):coP (cK_ a) i=if i=0 then a else 0:=by
 unfold cK_;rw[cP_];cases i <;> rfl
theorem ml_(p:List Rat)(i:Nat):coP (aJ_ p) i=if i=0 then 0 else coP p (i- 1) / ((i:Nat):Int):=by
 unfold aJ_;rw[cP_,coP_tab];split;rfl
 ·rw[if_neg (by omega),ec_ (by omega),Rat.div_def,Rat.zero_mul]
theorem j7_{p q:List Rat}(h:∀i,coP p i=coP q i):trimQ p=trimQ q:=by
 induction p generalizing q with
 |nil=>
  induction q with
  |nil=>rfl
  |cons b q ih=>
   have hb:b=0:=(h 0).symm;rw[cj_,←ih fun i=>h (i+1),if_pos hb];rfl
 |cons a p ih=>
  cases q with
  |nil=>
   have ha:a=0:=h 0;rw[cj_,ih (q:=[]) fun i=>h (i+1),if_pos ha];rfl
  |cons b q=>
   have hab:a=b:=h 0;rw[cj_,cj_,ih (q:=q) fun i=>h (i+1),hab]
theorem trim_iff{p q:List Rat}:trimQ p=trimQ q↔∀i,coP p i=coP q i:=
 ⟨fun h i=>by rw[←cP_ p,h,cP_],j7_⟩
theorem trim_nil_iff{p:List Rat}:trimQ p=[]↔∀i,coP p i=0:=
 ⟨fun h i=>by rw[←cP_ p,h];rfl,fun h=>j7_ (q:=[]) h⟩
theorem cD_(x:Rat):evalP [] x=0:=rfl
theorem a6_(a:Rat)(l:List Rat)(x:Rat):evalP (a::l) x=evalP l x* x+a:=rfl
theorem jR_{p:List Rat}(h:∀i,coP p i=0)(x:Rat):evalP p x=0:=by
 induction p with
 |nil=>rfl
 |cons a p ih=>
  have ha:a=0:=h 0;rw[a6_,ih fun i=>h (i+1)];grind
theorem gq_{p q:List Rat}(h:∀i,coP p i=coP q i)(x:Rat):evalP p x=evalP q x:=by
 induction p generalizing q with
 |nil=>exact(jR_ (fun i=>(h i).symm) x).symm
 |cons a p ih=>
  cases q with
  |nil=>exact jR_ h x
  |cons b q=>
   have hab:a=b:=h 0;rw[a6_,a6_,ih (q:=q) fun i=>h (i+1),hab]
theorem gZ_(p:List Rat)(x:Rat):evalP (trimQ p) x=evalP p x:=gq_ (cP_ p) x
def addL:List Rat→List Rat→List Rat
 |[],q=>q
 |p,[]=>p
 |a::p,b::q=>(a+b)::addL p q
def jv_(p:List Rat)(k:Rat):List Rat:=p.map (· * k)
def mulL:List Rat→List Rat→List Rat
 |[],_=>[]
 |a::p,q=>addL (jv_ q a) (0::mulL p q)
theorem h7_(p q:List Rat)(i:Nat):coP (addL p q) i=coP p i+coP q i:=by
 induction p generalizing q i with
 |nil=>rw[addL,f2_];grind
 |cons a p ih=>
  cases q with
  |nil=>rw[addL,f2_]; · grind
        grind
  |cons b q=>
   cases i with
   |zero=>rfl
   |succ i=>exact ih q i
theorem fq_(p:List Rat)(k:Rat)(i:Nat):coP (jv_ p k) i=coP p i* k:=by
 induction p generalizing i with
 |nil=>show(0:Rat)=0* k;grind
 |cons a p ih=>
  cases i with
  |zero=>rfl
  |succ i=>exact ih i
theorem jU_(p q:List Rat)(x:Rat):evalP (addL p q) x=evalP p x+evalP q x:=by
 induction p generalizing q with
 |nil=>rw[addL,cD_];grind
 |cons a p ih=>
  cases q with
  |nil=>rw[addL,cD_]; · grind
        grind
  |cons b q=>rw[addL,a6_,a6_,a6_];grind
theorem hk_(p:List Rat)(k x:Rat):evalP (jv_ p k) x=evalP p x* k:=by
 induction p with
 |nil=>show(0:Rat)=0* k;grind
 |cons a p ih=>show evalP (jv_ p k) x* x+a* k=_;rw[a6_];grind
theorem jT_(p q:List Rat)(x:Rat):evalP (mulL p q) x=evalP p x* evalP q x:=by
 induction p with
 |nil=>show(0:Rat)=0* _;grind
 |cons a p ih=>rw[mulL,jU_,hk_,a6_,a6_];grind
theorem gs_(p q:List Rat)(x:Rat):evalP (addP p q) x=evalP p x+evalP q x:=by
 rw[←jU_];exact gq_ (fun i=>by rw[eK_,h7_]) x
theorem eG_(p:List Rat)(k x:Rat):evalP (bd_ p k) x=evalP p x* k:=by
 rw[←hk_];exact gq_ (fun i=>by rw[dV_,fq_]) x
theorem go_(p q:List Rat)(x:Rat):evalP (subP p q) x=evalP p x- evalP q x:=by
 unfold subP;rw[gs_,eG_];grind
theorem nd_(a x:Rat):evalP (cK_ a) x=a:=by
 rw[cK_,gZ_];show 0* x+a=a;grind
def convP(p q:List Rat):Nat→Nat→Rat
 |0,_=>0
 |i+1,n=>convP p q i n+(if i≤n then coP p i* coP q (n- i) else 0)
theorem oN_(o:List Rat)(a:Rat)(q:List Rat)(i:Nat)(h:∀k,k< q.length→i+k< o.length):∀k n,k≤q.length→coP (rowP o a q i k) n=coP o n+(if i≤n∧n< i+k then a* coP q (n- i) else 0)
 |0,n,_=>by show coP o n=_;grind
 |k+1,n,hk=>by
  rw[rowP,je_,mP_];by_cases hn:n=i+k;subst hn;rw[if_pos ⟨rfl,h k (by omega)⟩,kj_ o a q i k (i+k) (by omega),if_pos (by omega),show i+k- i=k by omega];rw[oN_ o a q i h k n (by omega)];grind
theorem oO_(p q:List Rat)(n:Nat):∀i,i≤p.length→coP (mulR p q i) n=convP p q i n
 |0,_=>by
  show coP (List.replicate _ 0) n=0;unfold coP;grind
 |i+1,hi=>by
  have ih:=oO_ p q n i (by omega);rw[mulR,convP];split
  ·grind
  rw[oN_ _ _ _ _ (fun k hk=>by rw[fU_];omega) _ _ (Nat.le_refl _),ih];by_cases h1:i≤n;rw[if_pos h1];by_cases h2:n< i+q.length;rw[if_pos ⟨h1,h2⟩];rw[ec_ (p:=q) (by omega)];grind;grind
theorem jX_(a:Rat)(p q:List Rat)(n:Nat):∀i,convP (a::p) q (i+1) n=a* coP q n+(match n with|0=>0|m+1=>convP p q i m)
 |0=>by
  show(0:Rat)+(if 0≤n then coP (a::p) 0* coP q (n- 0) else 0)=_;rw[dF_];cases n <;> simp[convP,Rat.add_zero,Rat.zero_add]
 |i+1=>by
  rw[convP,jX_ a p q n i];cases n with
  |zero=>grind
  |succ m=>
   show a* coP q (m+1)+convP p q i m+_=a* coP q (m+1)+(convP p q i m+_);by_cases h:i≤m;rw[c4_];grind;grind
theorem k1_(p q:List Rat)(n:Nat):coP (mulL p q) n=convP p q p.length n:=by
 induction p generalizing n with
 |nil=>rfl
 |cons a p ih=>
  rw[mulL,h7_,fq_,List.length_cons,jX_];cases n with
  |zero=>rw[dF_];grind
  |succ m=>rw[c4_];grind
theorem so_(p q:List Rat)(n:Nat):coP (mulP p q) n=coP (mulL p q) n:=by
 unfold mulP;split
 ·rename_i h
  rcases h with rfl|rfl
  rfl;rw[k1_]
  have:∀i,convP p [] i n=0:=by
   intro i
   induction i with
   |zero=>rfl
   |succ i ih=>rw[convP,f2_];grind
  rw[this];rfl
 rw[cP_,oO_ _ _ _ _ (Nat.le_refl _),k1_]
theorem el_(p q:List Rat)(x:Rat):evalP (mulP p q) x=evalP p x* evalP q x:=by
 rw[←jT_];exact gq_ (so_ p q) x
def synD:List Rat→Rat→List Rat
 |[],_=>[]
 |[_],_=>[]
 |_::b::l,r=>evalP (b::l) r::synD (b::l) r
theorem lv_(p:List Rat)(r x:Rat):evalP p x=evalP (synD p r) x* (x- r)+evalP p r:=by
 induction p with
 |nil=>show(0:Rat)=0* _+0;grind
 |cons a l ih=>
  cases l with
  |nil=>show 0* x+a=0* (x- r)+(0* r+a);grind
  |cons b l=>
   rw[synD,a6_ a,a6_ a,a6_ (evalP (b::l) r)];grind
theorem synD_len(p:List Rat)(r:Rat):(synD p r).length=p.length- 1:=by
 induction p with
 |nil=>rfl
 |cons a l ih=>
  cases l with
  |nil=>rfl
  |cons b l=>rw[synD,List.length_cons,ih];simp
theorem jy_:∀(n:Nat) (p xs:List Rat),p.length≤n→n≤xs.length→xs.Nodup→(∀x∈xs,evalP p x=0)→∀x,evalP p x=0
 |0,p,_,hp,_,_,_,x=>by
  have:p=[]:=List.length_eq_zero_iff.1 (by omega);rw[this];rfl
 |n+1,p,xs,hp,hx,hnd,hz,x=>by
  cases xs with
  |nil=>grind
  |cons r xs=>
   rw[List.nodup_cons] at hnd;have hr:=hz r (List.mem_cons_self ..)
   have ih:=jy_ n (synD p r) xs (by rw[synD_len];omega) (by grind) hnd.2 fun y hy=>by
    have h1:=lv_ p r y;grind
   rw[lv_ p r x];grind
theorem md_{p:List Rat}(h:∀x,evalP p x=0):∀i,coP p i=0:=by
 induction p with
 |nil=>intro i;rfl
 |cons a p ih=>
  have ha:a=0:=by
   have:=h 0;rw[a6_] at this;grind
  have hp:∀x,evalP p x=0:=by
   -- at all places but 0,so at all
   refine jy_ p.length p ((List.range p.length).map fun i=>(((i+1:Nat):Int):Rat)) (Nat.le_refl _) (by simp) ?_ ?_;refine List.Pairwise.map _ (fun i j hij=>?_) List.nodup_range;intro e;have:=Rat.intCast_inj.1 e;omega;intro x hx;obtain⟨i,_,rfl⟩:=List.mem_map.1 hx;have h1:=h (((i+1:Nat):Int):Rat);rw[a6_] at h1;have h2:evalP p (((i+1:Nat):Int):Rat) * (((i+1:Nat):Int):Rat)=0:=by grind
   rcases Rat.mul_eq_zero.1 h2 with h3|h3
   exact h3;have:=Rat.intCast_inj.1 (h3.trans Rat.intCast_zero.symm);omega
  intro i;cases i with
  |zero=>exact ha
  |succ i=>exact ih hp i
theorem h6_{p q:List Rat}(h:∀x,evalP p x=evalP q x):trimQ p=trimQ q:=by
 refine j7_ fun i=>?_;have:=md_ (p:=subP p q) (fun x=>by rw[go_];grind) i;rw[nq_] at this;grind
theorem qY_(p q:List Rat)(hp:p≠[]):(mulP p q).length≤p.length+q.length- 1:=by
 unfold mulP;split;simp;have:=bc_ (mulR p q p.length);rwa[fU_] at this
def dvE:List Rat→Rat→Rat
 |[],_=>0
 |_::l,x=>evalP l x+dvE l x* x
theorem dvE_cons(a:Rat)(l:List Rat)(x:Rat):dvE (a::l) x=evalP l x+dvE l x* x:=rfl
theorem jS_(q:List Rat)(x:Rat)(m:Nat)(h:m< q.length):evalP (q.take (m+1)) x=evalP (q.take m) x+coP q m* x^ m:=by
 induction q generalizing m with
 |nil=>cases h
 |cons a q ih=>
  cases m with
  |zero=>rw[List.take_succ_cons,Rat.pow_zero];show 0* x+a=0+a* 1;grind
  |succ m=>rw[List.take_succ_cons,List.take_succ_cons,a6_,a6_,c4_];grind
theorem ir_(x:Rat)(n:Nat):∀m,x^ (n+m)=x^ n* x^ m
 :=by grind
theorem lp_{p:List Rat}{n:Nat}(h:∀j,n≤j→coP p j=0):(trimQ p).length≤n:=by
 apply Nat.le_of_not_lt;intro hn;have h1:=cB_ (l:=p) (n:=(trimQ p).length- 1) (by omega);have h2:trimQ p≠[]:=fun e=>by grind
 have h3:=h ((trimQ p).length- 1) (by omega);rw[←cP_] at h3;unfold coP at h3;rw[List.getD_eq_getElem?_getD,h1] at h3;exact fi_ h2 h3
section
variable (p q r:List Rat)(a b:Rat)
end
def nz(p:List Rat):Prop:=trimQ p≠[]
def dg(p:List Rat):Nat:=(trimQ p).length- 1
def Eqv(p q:List Rat):Prop:=∀x,evalP p x=evalP q x
theorem eqv_trim{p q:List Rat}:Eqv p q↔trimQ p=trimQ q:=
 ⟨h6_,fun h x=>by rw[←gZ_ p,h,gZ_]⟩





theorem q9_{p:List Rat}{t:Nat}(h:bdL p t)(ht:1≤t):qs (leadP p)≤t:=by
 by_cases h0:trimQ p=[];rw[iH_ h0];exact Nat.le_trans (by decide:qs 0≤1) ht;have hl:=List.length_pos_iff.2 h0;exact h _ (bD_ (List.mem_of_getElem? (cB_ (n:=(trimQ p).length- 1) (by omega))))
def lag(v:List Rat):Nat→Rat
 |0=>0
 |m+1=>coP v m
theorem coP_line(v:List Rat)(c:Rat)(n:Nat):coP (mulP v [c,1]) n=coP v n* c+lag v n:=by
 have e:trimQ (mulP v [c,1])=trimQ (mulP [c,1] v):=h6_ fun x=>by rw[el_,el_];grind
 rw[trim_iff.1 e n,so_];show coP (addL (jv_ v c) (0::addL (jv_ v 1) (0::[]))) n=_;rw[h7_,fq_];cases n with
 |zero=>rw[dF_];rfl
 |succ m=>
  rw[c4_,h7_,fq_];have:coP [(0:Rat)] m=0:=by cases m <;> rfl
  rw[this];show _+(coP v m* 1+0)=_+coP v m;grind
theorem gf_(v:List Rat)(c:Rat):(mulP v [c,1]).length≤v.length+1:=by
 by_cases h:v=[];subst h;unfold mulP;simp;have:=qY_ v [c,1] h;simpa using this
theorem kw_(p:List Rat):(aJ_ p).length≤p.length+1:=by
 have:=bc_ (tabP (p.length+1) fun i=>if i=0 then 0 else coP p (i- 1) / ((i:Nat):Int));simp at this;unfold aJ_;omega
theorem subP_len(p q:List Rat):(subP p q).length≤max p.length q.length:=by
 have h1:=gE_ p (bd_ q (-1));have h2:=db_ q (-1);unfold subP;omega
theorem k7_{l:List Rat}{a b:Nat}(h:bdL l a)(hab:a≤b):bdL l b:=fun q hq=>Nat.le_trans (h q hq) hab
def pd:Nat→Nat→List UInt8
 |0,_=>[]
 |k+1,n=>pd k (n/ 10)++[UInt8.ofNat (48+n % 10)]
theorem lJ_(k n:Nat):(pd k n).length=k:=by
 induction k generalizing n with
 |zero=>rfl
 |succ k ih=>rw[pd,List.length_append,ih];rfl
theorem pd_add(j k n:Nat):pd (j+k) n=pd j (n/ 10^ k)++pd k n:=by
 induction k generalizing n with
 |zero=>rw[Nat.add_zero,Nat.pow_zero,Nat.div_one];simp[pd]
 |succ k ih=>rw[←Nat.add_assoc,pd,pd,ih,Nat.div_div_eq_div_mul,Nat.pow_succ,Nat.mul_comm 10,List.append_assoc]
theorem pd_mod(k n:Nat):pd k (n % 10^ k)=pd k n:=by
 induction k generalizing n with
 |zero=>rfl
 |succ k ih=>
  rw[pd,pd,Nat.pow_succ]
  have e1:n % (10^ k* 10) / 10=n/ 10 % 10^ k:=by
   rw[Nat.mul_comm,Nat.mod_mul_right_div_self]
  have e2:n % (10^ k* 10) % 10=n % 10:=by rw[Nat.mod_mul_left_mod]
  rw[e1,e2,ih]
theorem pd_front(k n:Nat):pd (k+1) n=UInt8.ofNat (48+n/ 10^ k % 10)::pd k n:=by
 rw[Nat.add_comm,pd_add];rfl
theorem qO_(k:Nat):pd k 0=List.replicate k 48:=by
 induction k with
 |zero=>rfl
 |succ k ih=>rw[pd,ih,List.replicate_succ'];rfl
def dropZ:List UInt8→List UInt8
 |[]=>[]
 |c::l=>if c=48 then dropZ l else c::l
theorem mf_{a b:List UInt8}(h:dropZ a≠[]):dropZ (a++b)=dropZ a++b:=by
 induction a with
 |nil=>exact absurd rfl h
 |cons c a ih=>
  rw[List.cons_append,dropZ,dropZ];rw[dropZ] at h;by_cases hc:c=48;rw[if_pos hc] at h;rw[if_pos hc,if_pos hc,ih h];rw[if_neg hc,if_neg hc];rfl
theorem nj_(k:Nat)(l:List UInt8):dropZ (List.replicate k 48++l)=dropZ l:=by
 induction k with
 |zero=>rfl
 |succ k ih=>rw[List.replicate_succ,List.cons_append,dropZ,if_pos rfl,ih]
theorem dig_ne{n:Nat}(h0:n≠0)(h:n< 10):UInt8.ofNat (48+n)≠48:=by
 have:∀n,n< 10→n≠0→UInt8.ofNat (48+n)≠48:=by decide
 exact this n h h0
theorem hl_(n:Nat):Lib.decDigits n≠[]:=by
 intro e;have h1:=Lib.decDigits_length n;rw[e] at h1;have:=Lib.nDigits_pos n;simp at h1;omega
theorem oI_:∀(k n:Nat),0< n→n< 10^ k→dropZ (pd k n)=Lib.decDigits n
 |0,n,h,h2=>by rw[Nat.pow_zero] at h2;omega
 |k+1,n,h,h2=>by
  rw[pd,Lib.decDigits];by_cases h10:n< 10;rw[dif_pos h10,Nat.div_eq_of_lt h10,qO_,nj_,Nat.mod_eq_of_lt h10,dropZ,if_neg (dig_ne (by omega) h10)];rw[dif_neg h10];have ih:=oI_ k (n/ 10) (by omega) (by rw[Nat.pow_succ] at h2;omega);rw[mf_ (by rw[ih];exact hl_ _),ih]
theorem mi_:∀(k a b:Nat),0< a→b< 10^ k→Lib.decDigits (a* 10^ k+b)=Lib.decDigits a++pd k b
 |0,a,b,h,hb=>by
  have:b=0:=by rw[Nat.pow_zero] at hb;omega
  subst this;simp[pd]
 |k+1,a,b,h,hb=>by
  have hp:1≤10^ k:=Nat.one_le_pow _ _ (by decide);have hap:1≤a* 10^ k:=Nat.mul_le_mul h hp;have e:a* 10^ (k+1)+b=(a* 10^ k) * 10+b:=by rw[Nat.pow_succ,Nat.mul_assoc]
  rw[e,Lib.decDigits,dif_neg (by omega),show(a* 10^ k* 10+b) / 10=a* 10^ k+b/ 10 by omega,show(a* 10^ k* 10+b) % 10=b % 10 by omega,mi_ k a (b/ 10) h (by rw[Nat.pow_succ] at hb;omega),pd,List.append_assoc]
theorem pd_dec:∀(k n:Nat),0< n→n< 10^ k→pd k n=List.replicate (k- (Lib.decDigits n).length) 48++Lib.decDigits n
 |0,n,h,h2=>by rw[Nat.pow_zero] at h2;omega
 |k+1,n,h,h2=>by
  rw[pd,Lib.decDigits];by_cases h10:n< 10;rw[dif_pos h10,Nat.div_eq_of_lt h10,qO_,Nat.mod_eq_of_lt h10];rfl;rw[dif_neg h10,pd_dec k (n/ 10) (by omega) (by rw[Nat.pow_succ] at h2;omega),List.length_append,List.append_assoc];congr 2;simp
theorem bd_co'{p:List Rat}{s:Nat}(h:bdL p s)(hs:1≤s):∀i,qs (coP p i)≤s:=fun i=>dv_ h hs i
theorem bdL_neg{p:List Rat}{s:Nat}(h:bdL p s)(hs:1≤s):bdL (bd_ p (-1)) s:=j0_ fun i=>by
 rw[dV_,show coP p i* (-1)= -coP p i by grind,dA_];exact bd_co' h hs i
theorem o1_{p q:List Rat}{s t:Nat}(hp:bdL p s)(hq:bdL q t)(hs:1≤s)(ht:1≤t):bdL (addP p q) (s+t+1):=j0_ fun i=>by
 rw[eK_];have:=fD_ (coP p i) (coP q i);have:=bd_co' hp hs i;have:=bd_co' hq ht i;omega
theorem bdL_subP{p q:List Rat}{s t:Nat}(hp:bdL p s)(hq:bdL q t)(hs:1≤s)(ht:1≤t):bdL (subP p q) (s+t+1):=o1_ hp (bdL_neg hq ht) hs ht
def shP(i:Nat)(v:List Rat):List Rat:=List.replicate i 0++v
theorem gM_(i:Nat)(v:List Rat):(shP i v).length=i+v.length:=by simp[shP]
theorem nK_(i:Nat)(v:List Rat):shP (i+1) v=0::shP i v:=by simp[shP,List.replicate_succ]
theorem oF_(v:List Rat)(x:Rat):∀i,evalP (shP i v) x=evalP v x* x^ i
 |0=>by simp[shP]
 |i+1=>by
  rw[nK_,a6_,oF_ v x i,Rat.pow_succ];grind
theorem jZ_(v:List Rat)(i n:Nat):coP (shP i v) n=if n< i then 0 else coP v (n- i):=by
 induction i generalizing n with
 |zero=>simp[shP]
 |succ i ih=>
  rw[nK_];cases n with
  |zero=>rw[dF_,if_pos (by omega)]
  |succ n=>
   rw[c4_,ih,Nat.add_sub_add_right];by_cases h:n< i;rw[if_pos h,if_pos (by omega)];rw[if_neg h,if_neg (by omega)]
def mR(p q:List Rat):Nat→List Rat
 |0=>[]
 |n+1=>addP (mR p q n) (shP n (bd_ p (coP q n)))
theorem oG_(p q:List Rat)(x:Rat):∀n,n≤q.length→evalP (mR p q n) x=evalP p x* evalP (q.take n) x
 |0,_=>by simp[mR,cD_]
 |n+1,h=>by
  rw[mR,gs_,oG_ p q x n (by omega),oF_,eG_,jS_ q x n (by omega)];grind
theorem trim_mR(p q:List Rat):∀n,trimQ (mR p q n)=mR p q n
 |0=>rfl
 |n+1=>c8_ _
theorem qb_(p q:List Rat):trimQ (mulP p q)=mulP p q:=by
 unfold mulP;split;rfl;exact c8_ _
theorem mR_mul(p q:List Rat):mR p q q.length=mulP p q:=by
 rw[←trim_mR,←qb_];refine h6_ fun x=>?_;rw[oG_ p q x _ (Nat.le_refl _),List.take_length,el_]
theorem ku_{p:List Rat}{a:Rat}{d:Nat}:∀n,n≤d→mR p (shP d [a]) n=[]
 |0,_=>rfl
 |n+1,h=>by
  rw[mR,ku_ n (by omega)];refine trim_nil_iff.2 fun i=>?_;have h1:coP (shP d [a]) n=0:=by rw[jZ_,if_pos (by omega)]
  have h2:coP (tabP (max ([]:List Rat).length (shP n (bd_ p (coP (shP d [a]) n))).length) fun i=>coP [] i+coP (shP n (bd_ p (coP (shP d [a]) n))) i) i=coP [] i+coP (shP n (bd_ p (coP (shP d [a]) n))) i:=by
   rw[←cP_];exact eK_ _ _ i
  rw[h2,f2_,jZ_,dV_,h1];split <;> grind
theorem pk_{p:List Rat}{a:Rat}{d s:Nat}(hp:bdL p s)(hs:1≤s)(n:Nat)(hn:n≤d+1):bdL (mR p (shP d [a]) n) (s+qs a+2):=by
 by_cases h:n≤d;rw[ku_ n h];exact fun _ h=>by cases h
 have:n=d+1:=by omega
 subst this;refine j0_ fun i=>?_;rw[mR,eK_,ku_ d (Nat.le_refl _),f2_,Rat.zero_add,jZ_];split;have:qs 0=1:=by decide
 omega;rw[dV_,jZ_,if_neg (by omega),Nat.sub_self,dF_];have:=bH_ (coP p (i- d)) a;have:=bd_co' hp hs (i- d);omega
theorem coP_mono(d:List Rat)(a:Rat)(k j:Nat):coP (mulP d (shP k [a])) j=if j< k then 0 else coP d (j- k) * a:=by
 have e:mR d (shP k [a]) (shP k [a]).length=mulP d (shP k [a]):=mR_mul _ _;rw[←e,show(shP k [a]).length=k+1 by rw[gM_];rfl,mR,eK_,ku_ k (Nat.le_refl _),f2_,Rat.zero_add,jZ_,dV_,jZ_,if_neg (Nat.lt_irrefl k),Nat.sub_self,dF_]
theorem oj_{v:List Rat}{n:Nat}(h:trimQ v=v)(hn:v.length=n+1):coP v n=leadP v:=by
 have:=cB_ (l:=v) (n:=n) (by rw[h];exact hn);rw[h,bo_ (by omega)] at this;exact Option.some.inj this
theorem step_len{v d:List Rat}(hv:trimQ v=v)(hd:trimQ d=d)(hd0:d≠[])(hl:d.length≤v.length):(subP v (mulP d (shP (v.length- d.length) [leadP v/ leadP d]))).length< v.length:=by
 have hdl:=List.length_pos_iff.2 hd0;obtain⟨m,hm⟩:∃m,d.length=m+1:=⟨d.length- 1,by omega⟩;obtain⟨n,hn⟩:∃n,v.length=n+1:=⟨v.length- 1,by omega⟩;have hld:leadP d≠0:=fi_ (by rw[hd];exact hd0)
 have key:∀j,n≤j→coP (subP v (mulP d (shP (v.length- d.length) [leadP v/ leadP d]))) j=0:=fun j hj=>by
  rw[nq_,coP_mono,if_neg (by omega)];by_cases h:j=n;subst h;rw[oj_ hv hn,show j- (v.length- d.length)=m by omega,oj_ hd hm];grind;rw[ec_ (p:=v) (by omega),ec_ (p:=d) (by omega)];grind
 have h1:=lp_ key;have h2:trimQ (subP v (mulP d (shP (v.length- d.length) [leadP v/ leadP d])))=subP v (mulP d (shP (v.length- d.length) [leadP v/ leadP d])):=c8_ _;rw[h2] at h1;omega
theorem qa_(p q:List Rat):trimQ (subP p q)=subP p q:=c8_ _
theorem step_bd{v d:List Rat}{b t:Nat}(hv:bdL v b)(hd:bdL d t)(hb:1≤b)(ht:1≤t)(hd0:d≠[])(k:Nat):qs (leadP v/ leadP d)≤b+t∧bdL (mulP d (shP k [leadP v/ leadP d])) (2* t+b+2)∧bdL (subP v (mulP d (shP k [leadP v/ leadP d]))) (2* b+2* t+3):=by
 have h1:=q9_ hv hb;have h2:=q9_ hd ht;have h3:=eM_ (leadP v) (leadP d)
 have h4:bdL (mulP d (shP k [leadP v/ leadP d])) (2* t+b+2):=by
  have:=pk_ (a:=leadP v/ leadP d) (d:=k) hd ht (k+1) (Nat.le_refl _);rw[show k+1=(shP k [leadP v/ leadP d]).length by rw[gM_];rfl,mR_mul] at this;exact k7_ this (by omega)
 exact⟨by omega,h4,k7_ (bdL_subP hv h4 hb (by omega)) (by omega)⟩
theorem bdL_sh{v:List Rat}{b:Nat}(h:bdL v b)(hb:1≤b)(k:Nat):bdL (shP k v) b:=fun q hq=>by
 rcases List.mem_append.1 hq with h'|h'
 rw[List.eq_of_mem_replicate h'];have:qs 0=1:=by decide
 omega;exact h q h'
def ab(x:Rat):Rat:=if x< 0 then -x else x
theorem ab_nn(x:Rat):0≤ab x:=by unfold ab;grind
theorem ab_le{x c:Rat}:ab x≤c↔ -c≤x∧x≤c:=by unfold ab;grind
theorem j5_(x y:Rat):ab (x+y)≤ab x+ab y:=by unfold ab;grind
theorem ab_neg(x:Rat):ab (-x)=ab x:=by unfold ab;grind
theorem eR_(x y:Rat):ab (x* y)=ab x* ab y:=by
 have key:∀a b:Rat,0≤a→0≤b→ab (a* b)=a* b:=fun a b ha hb=>by
  have:=Rat.mul_nonneg ha hb;unfold ab;grind
 by_cases hx:x< 0;by_cases hy:y< 0;have:=key (-x) (-y) (by grind) (by grind);rw[show x* y= -x* -y by grind,this];unfold ab;rw[if_pos hx,if_pos hy];have:=key (-x) y (by grind) (by grind);rw[show x* y= -(-x* y) by grind,ab_neg,this];unfold ab;rw[if_pos hx,if_neg hy];by_cases hy:y< 0;have:=key x (-y) (by grind) (by grind);rw[show x* y= -(x* -y) by grind,ab_neg,this];unfold ab;rw[if_neg hx,if_pos hy];have:=key x y (by grind) (by grind);rw[this];unfold ab;grind
theorem dk_{a b c d:Rat}(h1:a≤b)(h2:c≤d)(h3:0≤c)(h4:0≤b):a* c≤b* d:=by
 have e1:=Rat.mul_le_mul_of_nonneg_right h1 h3;have e2:=Rat.mul_le_mul_of_nonneg_left h2 h4;grind
def bV(R:Rat):List Rat→Rat
 |[]=>0
 |a::l=>bV R l* R+ab a
theorem bV_nn{R:Rat}(hR:0≤R):∀l,0≤bV R l
 |[]=>by simp[bV]
 |a::l=>by
  have h1:=Rat.mul_nonneg (bV_nn hR l) hR;have h2:=ab_nn a;rw[bV];grind
theorem dE_{R x:Rat}(hR:0≤R)(hx:ab x≤R):∀l,ab (evalP l x)≤bV R l
 |[]=>by rw[cD_,bV];decide
 |a::l=>by
  have h1:=dE_ hR hx l;have h2:=dk_ h1 hx (ab_nn x) (bV_nn hR l);have h3:=j5_ (evalP l x* x) a;rw[eR_] at h3;rw[a6_,bV];grind
def bL(R:Rat):List Rat→Rat
 |[]=>0
 |_::l=>bL R l* R+bV R l
theorem bL_nn{R:Rat}(hR:0≤R):∀l,0≤bL R l
 |[]=>by simp[bL]
 |a::l=>by
  have h1:=Rat.mul_nonneg (bL_nn hR l) hR;have h2:=bV_nn hR l;rw[bL];grind
theorem gp_{R x y:Rat}(hR:0≤R)(hx:ab x≤R)(hy:ab y≤R):∀l,ab (evalP l y- evalP l x)≤bL R l* ab (y- x)
 |[]=>by
  rw[cD_,cD_,bL,Rat.zero_mul];decide+kernel
 |a::l=>by
  have h1:=gp_ hR hx hy l;have h2:=dE_ hR hx l;have e:evalP (a::l) y- evalP (a::l) x=(evalP l y- evalP l x) * y+evalP l x* (y- x):=by rw[a6_,a6_];grind
  have h3:=j5_ ((evalP l y- evalP l x) * y) (evalP l x* (y- x));rw[eR_,eR_] at h3;have hd:=ab_nn (y- x);have h4:=dk_ h1 hy (ab_nn y) (Rat.mul_nonneg (bL_nn hR l) hd);have h5:=Rat.mul_le_mul_of_nonneg_right h2 hd;rw[bL];grind
def bT(R:Rat):List Rat→Rat
 |[]=>0
 |_::l=>bT R l* R+bL R l
theorem bT_nn{R:Rat}(hR:0≤R):∀l,0≤bT R l
 |[]=>by simp[bT]
 |a::l=>by
  have h1:=Rat.mul_nonneg (bT_nn hR l) hR;have h2:=bL_nn hR l;rw[bT];grind
theorem i5_{R x y:Rat}(hR:0≤R)(hx:ab x≤R)(hy:ab y≤R):∀l,ab (evalP l y- evalP l x- (y- x) * dvE l x)≤bT R l* (ab (y- x) * ab (y- x))
 |[]=>by
  rw[cD_,cD_,bT,show dvE [] x=0 from rfl,Rat.zero_mul,Rat.mul_zero];decide+kernel
 |a::l=>by
  have h1:=i5_ hR hx hy l;have h2:=gp_ hR hx hy l;have e:evalP (a::l) y- evalP (a::l) x- (y- x) * dvE (a::l) x=(evalP l y- evalP l x- (y- x) * dvE l x) * x+(evalP l y- evalP l x) * (y- x):=by rw[a6_,a6_,dvE_cons];grind
  have h3:=j5_ ((evalP l y- evalP l x- (y- x) * dvE l x) * x) ((evalP l y- evalP l x) * (y- x));rw[eR_,eR_] at h3;have hd:=ab_nn (y- x);have h4:=dk_ h1 hx (ab_nn x) (Rat.mul_nonneg (bT_nn hR l) (Rat.mul_nonneg hd hd));have h5:=Rat.mul_le_mul_of_nonneg_right h2 hd;rw[e,bT];grind
inductive Gsn:Int→List Int→List Int→Prop
 |nil {t:Int}:Gsn t [] []
 |solid {t s:Int} {l l':List Int}:s≠0→Gsn s l l'→Gsn t (s::l) (s::l')
 |weak {t x y:Int} {l l':List Int}:(x=0∨x=t∨x= -t)→(y=0∨y=t∨y= -t)→Gsn (-t) l l'→Gsn t (x:: -t::l) (y:: -t::l')
theorem g7_:∀(l:List Int) (n t:Int),chL l n t=n+chL l 0 t
 |[],n,t=>by simp[chL]
 |s::l,n,t=>by
  unfold chL;by_cases hs:s≠0;rw[if_pos hs,if_pos hs,g7_ l (if s= -t then n+1 else n),g7_ l (if s= -t then 0+1 else 0)];split <;> omega;rw[if_neg hs,if_neg hs];exact g7_ l n t
theorem oQ_{t x:Int}(ht:t≠0)(hx:x=0∨x=t∨x= -t)(l:List Int)(n:Int):chL (x:: -t::l) n t=chL l (n+1) (-t):=by
 rcases hx with rfl|rfl|rfl
 rw[chL,if_neg (by simp),chL,if_pos (by omega),if_pos rfl];rw[chL,if_pos ht,if_neg (by omega),chL,if_pos (by omega),if_pos rfl];rw[chL,if_pos (by omega),if_pos rfl,chL,if_pos (by omega),if_neg (by omega)]
theorem k4_{t:Int}{l l':List Int}(h:Gsn t l l'):t≠0→∀n,chL l n t=chL l' n t:=by
 induction h with
 |nil=>exact fun _ _=>rfl
 |solid hs _ ih=>
  intro ht n;rw[chL,if_pos hs,chL,if_pos hs];exact ih hs _
 |weak hx hy _ ih=>
  intro ht n;rw[oQ_ ht hx,oQ_ ht hy];exact ih (by omega) _
theorem k3_{s:Int}{l l':List Int}(hs:s≠0)(h:Gsn s l l'):chL (s::l) 0 0=chL (s::l') 0 0:=by
 rw[chL,if_pos hs,chL,if_pos hs];exact k4_ h hs _
theorem oS_{s s' t:Int}{l l':List Int}(ht:t=1∨t= -1)(hs: -1≤s∧s≤1)(hs': -1≤s'∧s'≤1)(hm:t* s≤t* s')(h:Gsn t l l'):chL (s'::t::l') 0 0≤chL (s::t::l) 0 0:=by
 have ht0:t≠0:=by omega
 have key:∀(u:Int) (k:List Int),-1≤u∧u≤1→chL (u::t::k) 0 0=(if u= -t then 1 else 0)+chL k 0 t:=fun u k hu=>by
  by_cases h0:u=0;subst h0;rw[chL,if_neg (by simp),chL,if_pos ht0,if_neg (by omega),if_neg (by omega)];omega;rw[chL,if_pos h0,if_neg (by omega),chL,if_pos ht0,g7_];by_cases h1:u= -t;rw[if_pos (by omega),if_pos h1];omega;rw[if_neg (by omega),if_neg h1]
 rw[key s l hs,key s' l' hs',k4_ h ht0 0];rcases ht with rfl|rfl <;> split <;> split <;> omega
theorem num_pos{q:Rat}:0< q.num↔0< q:=by
 have h2:0≤q.num↔0≤q:=Rat.num_nonneg;have h3:q.num=0↔q=0:=Rat.num_eq_zero;grind
theorem fK_{q:List Rat}{x:Rat}(h:0< evalP q x):sgE x q=1:=by
 have:=sgZ_num_gt.2 h;have:=gN_ (evalP q x).num;unfold sgE;omega
theorem ih_{q:List Rat}{x:Rat}(h:evalP q x< 0):sgE x q= -1:=by
 have:=sgZ_num_lt.2 h;have:=gN_ (evalP q x).num;unfold sgE;omega
theorem hM_{q:List Rat}{x:Rat}(h:evalP q x=0):sgE x q=0:=sgZ_num_eq.2 h
theorem do_(x:Rat)(q:List Rat): -1≤sgE x q∧sgE x q≤1:=gN_ _
theorem bx_(x:Rat)(q:List Rat):(sgE x q=1∧0< evalP q x)∨(sgE x q= -1∧evalP q x< 0)∨(sgE x q=0∧evalP q x=0):=by
 by_cases h:0< evalP q x;exact .inl ⟨fK_ h,h⟩;by_cases h':evalP q x< 0;exact .inr (.inl ⟨ih_ h',h'⟩);have e:evalP q x=0:=by grind
 exact .inr (.inr ⟨hM_ e,e⟩)
theorem hN_{q:List Rat}{x y:Rat}(h:evalP q x≤evalP q y):sgE x q≤sgE y q:=by
 rcases bx_ x q with⟨a,b⟩|⟨a,b⟩|⟨a,b⟩
 rw[a,fK_ (by grind)];decide;have:=do_ y q;omega;by_cases h0:0< evalP q y;rw[a,fK_ h0];decide;rw[a,hM_ (by grind)];decide
theorem part(e:Rat){d:Rat}(he:0< e)(hd:0< d):∃h:Rat,0< h∧h* d=e:=by
 refine⟨e/ d,?_,Rat.div_mul_cancel (by grind)⟩;have e1:e/ d* d=e:=Rat.div_mul_cancel (by grind);by_cases h:0< e/ d;exact h;have h2:e/ d* d≤0* d:=Rat.mul_le_mul_of_nonneg_right (by grind) (by grind);grind
theorem less(a b:Rat)(ha:0< a)(hb:0< b):∃h:Rat,0< h∧h≤a∧h≤b:=by grind
theorem keep(u:List Rat){R e:Rat}(hR:0≤R)(he:0< e):∃h:Rat,0< h∧∀x y:Rat,ab x≤R→ab y≤R→ab (y- x)≤h→e≤ab (evalP u x)→sgE y u=sgE x u∧sgE x u≠0:=by
 have hL:=bL_nn hR u;obtain⟨h,h0,h1⟩:=part e (d:=2* (bL R u+1)) he (by grind);refine⟨h,h0,fun x y hx hy hd ha=>?_⟩;have h2:=gp_ hR hx hy u;have h3:=Rat.mul_le_mul_of_nonneg_left hd hL;have h5:=ab_le (x:=evalP u y- evalP u x) (c:=ab (evalP u y- evalP u x))|>.1 (by grind);rcases bx_ x u with⟨a,b⟩|⟨a,b⟩|⟨a,b⟩
 have h6:ab (evalP u x)=evalP u x:=by unfold ab;grind
 rw[a,fK_ (by grind)];decide;have h6:ab (evalP u x)= -evalP u x:=by unfold ab;grind
 rw[a,ih_ (by grind)];decide;have h6:ab (evalP u x)=0:=by rw[b];decide
 grind
inductive Ch:List Rat→List (List Rat)→Prop
 |one {u:List Rat} {c:Rat}:c≠0→(∀x,evalP u x=c)→Ch u []
 |pair {u v:List Rat}:Ch v []→Ch u [v]
 |step {u v w:List Rat} {L:List (List Rat)} {a c:Rat} {q:List Rat}:0< a→0< c→(∀x,a* evalP u x+c* evalP w x=evalP q x* evalP v x)→Ch v (w::L)→Ch u (v::w::L)
def Cl(u:List Rat)(L:List (List Rat)):Prop:=∀R e:Rat,0≤R→0< e→∃h:Rat,0< h∧∀x y:Rat,ab x≤R→ab y≤R→ab (y- x)≤h→e≤ab (evalP u x)→
 sgE y u=sgE x u∧sgE x u≠0∧Gsn (sgE x u) (L.map (sgE x)) (L.map (sgE y))
theorem Ch.const{v:List Rat}(h:Ch v []):∃c:Rat,c≠0∧∀x,evalP v x=c:=by
 cases h with
 |one hc h=>simp_all
theorem Ch.sg{v:List Rat}(h:Ch v [])(x y:Rat):sgE y v=sgE x v∧sgE x v≠0:=by
 obtain⟨c,hc,h⟩:=h.const;have e:sgE y v=sgE x v:=by unfold sgE;grind
 rcases bx_ x v with⟨a,b⟩|⟨a,b⟩|⟨a,b⟩
 omega;omega;grind
theorem Ch.cl{u:List Rat}{L:List (List Rat)}(H:Ch u L):Cl u L∧∀v L',L=v::L'→Cl v L':=by
 induction H with
 | @one u c hc hu=>
  refine⟨fun R e hR he=>?_,fun _ _ h=>by cases h⟩;obtain⟨h,h0,h1⟩:=keep u hR he;exact⟨h,h0,fun x y hx hy hd ha=>⟨(h1 x y hx hy hd ha).1,(h1 x y hx hy hd ha).2,.nil⟩⟩
 | @pair u v hv ih=>
  refine⟨fun R e hR he=>?_,fun _ _ h=>by grind⟩;obtain⟨h,h0,h1⟩:=keep u hR he;refine⟨h,h0,fun x y hx hy hd ha=>⟨(h1 x y hx hy hd ha).1,(h1 x y hx hy hd ha).2,?_⟩⟩;simp only[List.map_cons,List.map_nil];rw[(hv.sg x y).1];exact .solid (hv.sg x y).2 .nil
 | @step u v w L a c q ha hc hrel hv ih=>
  refine⟨fun R e hR he=>?_,fun _ _ h=>by cases h;exact ih.1⟩;have hQ:=bV_nn hR q;have hae:=Rat.mul_pos ha he;obtain⟨e1,he1,he1'⟩:=part (a* e) (d:=2* (bV R q+1)) hae (by grind);obtain⟨e2,he2,he2'⟩:=part (a* e) (d:=2* c) hae (by grind);obtain⟨h0,p0,k0⟩:=keep u hR he;obtain⟨h1,p1,k1⟩:=ih.1 R e1 hR he1;obtain⟨h2,p2,k2⟩:=ih.2 w L rfl R e2 hR he2;obtain⟨h3,p3,l3,m3⟩:=less h0 h1 p0 p1;obtain⟨h,p,l,m⟩:=less h3 h2 p3 p2;refine⟨h,p,fun x y hx hy hd hu=>?_⟩;obtain⟨s1,s2⟩:=k0 x y hx hy (by grind) hu;refine⟨s1,s2,?_⟩;by_cases hvx:e1≤ab (evalP v x);obtain⟨t1,t2,t3⟩:=k1 x y hx hy (by grind) hvx;simp only[List.map_cons] at t3⊢;rw[t1];exact .solid t2 t3;have b1:=dk_ (dE_ hR hx q) (show ab (evalP v x)≤e1 by grind) (ab_nn _) hQ;rw[←eR_,←hrel x] at b1;have b2:=ab_le.1 b1;have b3:bV R q* e1+e1=a* e/ 2:=by grind
  have key:sgE x w= -sgE x u∧e2≤ab (evalP w x):=by
   rcases bx_ x u with⟨g1,g2⟩|⟨g1,g2⟩|⟨g1,g2⟩
   have g3:ab (evalP u x)=evalP u x:=by unfold ab;rw[if_neg (by grind)]
   rw[g3] at hu;have g4:=Rat.mul_le_mul_of_nonneg_left hu (show 0≤a by grind)
   have g5:evalP w x≤ -e2:=by
    by_cases g:evalP w x≤ -e2;exact g;have:=Rat.mul_pos hc (show 0< evalP w x+e2 by grind);grind
   refine⟨by rw[g1,ih_ (by grind)],?_⟩;unfold ab;rw[if_pos (by grind)];grind;have g3:ab (evalP u x)= -evalP u x:=by unfold ab;rw[if_pos g2]
   rw[g3] at hu;have g4:=Rat.mul_le_mul_of_nonneg_left hu (show 0≤a by grind)
   have g5:e2≤evalP w x:=by
    by_cases g:e2≤evalP w x;exact g;have:=Rat.mul_pos hc (show 0< e2- evalP w x by grind);grind
   refine⟨by rw[g1,fK_ (by grind)];decide,?_⟩;unfold ab;rw[if_neg (by grind)];grind;exact absurd g1 s2
  obtain⟨t1,t2,t3⟩:=k2 x y hx hy (by grind) key.2;simp only[List.map_cons];rw[t1,key.1];rw[key.1] at t3;have c1:=do_ x u;have c2:=do_ x v;have c3:=do_ y v;exact .weak (by omega) (by omega) t3
theorem Ch.bez{u:List Rat}{M:List (List Rat)}(H:Ch u M):∀v L,M=v::L→∃a b:List Rat,∀x,evalP a x* evalP u x+evalP b x* evalP v x=1:=by
 induction H with
 |one hc hu=>grind
 | @pair u v hv ih=>
  intro v' L h;cases h;obtain⟨c,hc,h⟩:=hv.const;refine⟨[],[1/ c],fun x=>?_⟩;rw[a6_,cD_];grind
 | @step u v w L a c q ha hc hrel hv ih=>
  intro v' L' h;obtain⟨a',b',h⟩:=ih w L rfl;refine⟨bd_ b' (-(a/ c)),addP a' (bd_ (mulP b' q) (1/ c)),fun x=>?_⟩;rw[eG_,gs_,eG_,el_];grind
theorem arch(c:Rat){h:Rat}(hh:0< h):∃n:Nat,c≤((n:Int):Rat) * h:=by
 by_cases hc:c≤0;exact⟨0,by grind⟩;obtain⟨k,hk,e⟩:=part c (d:=h) (by grind) hh
 have h1:k≤((k.num.natAbs:Int):Rat):=by
  have hn:0< k.num:=num_pos.2 hk;rw[Rat.le_iff];show k.num* 1≤(k.num.natAbs:Int) * (k.den:Int);have h4:=Int.mul_le_mul_of_nonneg_left (show(1:Int)≤(k.den:Int) by have:=k.den_pos;omega) (show 0≤k.num by omega);grind
 have h5:=Rat.mul_le_mul_of_nonneg_right h1 (show 0≤h by grind);grind
theorem grid {f:Rat→Int} (r:Int→Int→Prop) (hr:∀a,r a a) (ht:∀a b c,r a b→r b c→r a c) {lo hi h:Rat} (hh:0< h)
    (hs:∀x y,lo≤x→x≤y→y≤hi→y- x≤h→r (f x) (f y)):∀(n:Nat) (x y:Rat),lo≤x→x≤y→y≤hi→y- x≤((n:Int):Rat) * h→r (f x) (f y)
 |0,x,y,h1,h2,h3,h4=>by grind
 |n+1,x,y,h1,h2,h3,h4=>by
  by_cases hd:y- x≤h;exact hs x y h1 h2 h3 hd;exact ht _ _ _ (hs x (x+h) h1 (by grind) (by grind) (by grind)) (grid r hr ht hh hs n (x+h) y (by grind) (by grind) h3 ((by grind)))
theorem way {f:Rat→Int} (r:Int→Int→Prop) (hr:∀a,r a a) (ht:∀a b c,r a b→r b c→r a c) {x y h:Rat} (hh:0< h) (hxy:x≤y)
    (hs:∀u v,x≤u→u≤v→v≤y→v- u≤h→r (f u) (f v)):r (f x) (f y):=by
 obtain⟨n,hn⟩:=arch (y- x) hh;exact grid r hr ht hh hs n x y (by grind) hxy (by grind) hn
def chV(l:List (List Rat))(x:Rat):Int:=chL (l.map (sgE x)) 0 0
theorem ab_in{x y u:Rat}(h1:x≤u)(h2:u≤y):ab u≤ab x+ab y:=by
 have a1:=ab_le (x:=x) (c:=ab x)|>.1 (by grind);have a2:=ab_le (x:=y) (c:=ab y)|>.1 (by grind);exact ab_le.2 ⟨by grind,by grind⟩
theorem ab_sub{u v h:Rat}(h1:u≤v)(h2:v- u≤h):ab (v- u)≤h:=by
 unfold ab;grind
theorem Ch.same{u:List Rat}{L:List (List Rat)}(H:Ch u L){e x y:Rat}(he:0< e)(hxy:x≤y)(ha:∀z,x≤z→z≤y→e≤ab (evalP u z)):chV (u::L) x=chV (u::L) y:=by
 obtain⟨h,h0,h1⟩:=H.cl.1 (ab x+ab y) e (by have:=ab_nn x;have:=ab_nn y;grind) he;refine way (f:=chV (u::L)) (· = ·) (fun _=>rfl) (fun _ _ _=>Eq.trans) h0 hxy fun z w a b c d=>?_;obtain⟨s1,s2,s3⟩:=h1 z w (ab_in a (by grind)) (ab_in (by grind) c) (ab_sub b d) (ha z a (by grind));unfold chV;simp only[List.map_cons];rw[s1];exact k3_ s2 s3
theorem outweigh{k T d uz uw D e v:Rat}(hk:0< k)(h1:k* -T≤k* (uw- uz- d* D))(h2:T* k≤d* e)(h3:d* e≤d* v)(h4:v=k* D):uz≤uw:=by
 subst h4;by_cases h:uz≤uw;exact h;have:=Rat.mul_pos hk (show 0< uz- uw by grind);grind
theorem outweigh'{k T d uz uw D e v:Rat}(hk:0< k)(h1:k* (uw- uz- d* D)≤k* T)(h2:T* k≤d* e)(h3:d* e≤d* -v)(h4:v=k* D):uw≤uz:=by
 subst h4;by_cases h:uw≤uz;exact h;have:=Rat.mul_pos hk (show 0< uw- uz by grind);grind
theorem Ch.fall{u v:List Rat}{L:List (List Rat)}{k:Rat}(H:Ch u (v::L))(hk:0< k)(hd:∀x,evalP v x=k* dvE u x){x y:Rat}(hxy:x≤y):chV (u::v::L) y≤chV (u::v::L) x:=by
 have hR:0≤ab x+ab y:=by have:=ab_nn x;have:=ab_nn y;grind
 generalize hRe:ab x+ab y=R at hR;obtain⟨a,b,hb⟩:=H.bez v L rfl;have hA:=bV_nn hR a;have hB:=bV_nn hR b;obtain⟨e,he,he'⟩:=part 1 (d:=2* (bV R a+bV R b+1)) (by decide+kernel) (by grind);obtain⟨h1,p1,k1⟩:=H.cl.1 R e hR he;obtain⟨h2,p2,k2⟩:=H.cl.2 v L rfl R e hR he;have hT:=bT_nn hR u;obtain⟨h3,p3,e3⟩:=part e (d:=k* (bT R u+1)) he (Rat.mul_pos hk (by grind));obtain⟨h4,p4,l4,m4⟩:=less h1 h2 p1 p2;obtain⟨h,p,l,m⟩:=less h4 h3 p4 p3;refine way (f:=chV (u::v::L)) (fun s t=>t≤s) (fun _=>Int.le_refl _) (fun _ _ _ g1 g2=>Int.le_trans g2 g1) p hxy fun z w g1 g2 g3 g4=>?_;have hz:ab z≤R:=by rw[←hRe];exact ab_in g1 (by grind)
 have hw:ab w≤R:=by rw[←hRe];exact ab_in (by grind) g3
 have hzw:ab (w- z)=w- z:=by unfold ab;rw[if_neg (by grind)]
 by_cases hu:e≤ab (evalP u z);obtain⟨s1,s2,s3⟩:=k1 z w hz hw (by grind) hu;refine Int.le_of_eq ?_;unfold chV;simp only[List.map_cons] at s3⊢;rw[s1];exact(k3_ s2 s3).symm
 have hv:e≤ab (evalP v z):=by
  by_cases hv:e≤ab (evalP v z);exact hv;have n1:=dk_ (dE_ hR hz a) (show ab (evalP u z)≤e by grind) (ab_nn _) hA;have n2:=dk_ (dE_ hR hz b) (show ab (evalP v z)≤e by grind) (ab_nn _) hB;have n3:=j5_ (evalP a z* evalP u z) (evalP b z* evalP v z);rw[hb z,eR_,eR_,show ab 1=1 by decide+kernel] at n3;grind
 obtain⟨s1,s2,s3⟩:=k2 z w hz hw (by grind) hv;have htan:=i5_ hR hz hw u;rw[hzw] at htan;have ht2:=ab_le.1 htan;have hvz:=hd z
 -- the derivative outweighs what leaves the tangent
 have small:bT R u* ((w- z) * (w- z)) * k≤(w- z) * e:=by
  have q1:=Rat.mul_le_mul_of_nonneg_right (show w- z≤h3 by grind) (show 0≤w- z by grind);have q2:=Rat.mul_le_mul_of_nonneg_left q1 hT;have q3:=Rat.mul_le_mul_of_nonneg_right q2 (show 0≤k by grind);have q4:(w- z) * e=bT R u* (h3* (w- z)) * k+(w- z) * h3* k:=by rw[←e3];grind
  have q5:=Rat.mul_nonneg (Rat.mul_nonneg (show 0≤w- z by grind) (show 0≤h3 by grind)) (show 0≤k by grind);grind
 have hwz:0≤w- z:=by grind
 unfold chV;simp only[List.map_cons];rw[s1];rcases bx_ z v with⟨c1,c2⟩|⟨c1,c2⟩|⟨c1,c2⟩
 have c3:ab (evalP v z)=evalP v z:=by unfold ab;rw[if_neg (by grind)]
 rw[c3] at hv;have c4:=Rat.mul_le_mul_of_nonneg_left hv hwz;have up:evalP u z≤evalP u w:=outweigh hk (Rat.mul_le_mul_of_nonneg_left ht2.1 (by grind)) small c4 hvz;exact oS_ (.inl c1) (do_ z u) (do_ w u) (by rw[c1];have:=hN_ up;omega) s3;have c3:ab (evalP v z)= -evalP v z:=by unfold ab;rw[if_pos c2]
 rw[c3] at hv;have c4:=Rat.mul_le_mul_of_nonneg_left hv hwz;have up:evalP u w≤evalP u z:=outweigh' hk (Rat.mul_le_mul_of_nonneg_left ht2.2 (by grind)) small c4 hvz;exact oS_ (.inr c1) (do_ z u) (do_ w u) (by rw[c1];have:=hN_ up;omega) s3;exact absurd c1 s2


inductive Cx:List Rat→List Rat→List (List Rat)→Prop
 |nil {u n:List Rat}:¬nz n→Cx u n []
 |cons {u n v n' q:List Rat} {L:List (List Rat)} {c:Rat}:0< c→(∀x,evalP v x=evalP n x* c)→nz v→(∀x,evalP n' x=evalP q x* evalP v x- evalP u x)→Cx v n' L→Cx u n (v::L)
theorem st_(u:List Rat)(x:Rat):chV [u] x=0:=by
 unfold chV chL chL;grind
def HtF(f:Nat→Rat)(k:Rat)(h:Nat):Prop:=∀i,∃z:Int,f i* k=(z:Rat)∧bl z.natAbs≤h
def Ht(p:List Rat)(h:Nat):Prop:=∃k:Rat,k≠0∧HtF (coP p) k h
theorem Ht.quot{p:List Rat}{h:Nat}(H:Ht p h)(i j:Nat)(hj:coP p j≠0)(h1:1≤h):qs (coP p i/ coP p j)≤h:=by
 obtain⟨k,k0,H⟩:=H;obtain⟨z,z1,z2⟩:=H i;obtain⟨w,w1,w2⟩:=H j
 have w0:w≠0:=fun e=>by
  rw[e] at w1;grind
 have e:coP p i/ coP p j=(z:Rat) / (w:Rat):=by grind
 have hpos:0< w.natAbs:=by omega
 by_cases hw:0< w
 have e2:(z:Rat) / (w:Rat)=mkRat z w.natAbs:=by
  rw[fn_];show Rat.divInt (z* ((1:Nat):Int)) (((1:Nat):Int) * w)=_;rw[←Rat.divInt_ofNat];grind
 rw[e,e2];exact c0_ hpos z2 w2
 have e2:(z:Rat) / (w:Rat)=mkRat (-z) w.natAbs:=by
  have e3:(z:Rat) / (w:Rat)=((-z:Int):Rat) / ((-w:Int):Rat):=by grind
  rw[e3,fn_];show Rat.divInt (-z* ((1:Nat):Int)) (((1:Nat):Int) * -w)=_;rw[←Rat.divInt_ofNat];grind
 rw[e,e2];exact c0_ hpos (by grind) w2
def hG:Nat→Nat→Nat→Nat→Nat→Nat→Bool
 |0,_,_,_,_,_=>false
 |f+1,m,n,s,t,X=>if n=0 then decide (s≤X) else
  decide (2^ (m+1- n) * (s+2* t+1)≤137438953472) && (List.range n).all fun k=>hG f n k t (s+(m+1- n) * (t+1)) X
def cB:Nat→Nat→Nat→Nat→Nat→Nat→Nat→Bool
 |0,_,_,_,_,_,_=>false
 |f+1,m,n,s,t,b,T=>if n=0 then true else
  decide (t≤T) && decide ((n+4) * b≤34359738368) && decide (2^ (m+1- n) * (s+2* t+1)≤137438953472) &&
   (List.range n).all fun k=>cB f n k t (s+(m+1- n) * (t+1)) (2^ (m+1- n) * (s+2* t+1)) T



end Go.Abs
