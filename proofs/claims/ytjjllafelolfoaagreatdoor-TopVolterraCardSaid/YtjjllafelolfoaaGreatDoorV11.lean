/- Part V11 of the proof. -/
import Derived.Test.YtjjllafelolfoaaGreatDoorV10
set_option linter.all false
namespace Go.Abs
theorem dX_(p:List Rat):(ao_ p).length≤p.length- 1:=by
 have:=aD_ (tabP (p.length- 1) fun i=>coP p (i+1) * ((i+1:Nat):Int));simpa[ao_] using this
def sqfM(f:Nat)(p:List Rat):Option (List Rat):=
 if smL p∧p.length≤274877906944 then(gcdM f p (ao_ p)).bind fun g=>if trimQ g≠[]∧okDiv p g then some (a4_ (divP p g).1) else none
 else none
def boL(lead:Rat):List Rat→Rat→Rat
 |[],m=>m
 |c::l,m=>boL lead l (maxL [m,absQ (c/ lead)])
def a1_(p:List Rat):Rat:=boL (leadP p) ((trimQ p).take ((trimQ p).length- 1)) 0+1
def e5_(p:List Rat):Prop:=mxL p≤34359738368∧p.length≤274877906944
instance (p:List Rat):Decidable (e5_ p):=inferInstanceAs (Decidable (_∧_))
def ih_(p:List Rat):Int:=if degP p< 0 then 10 else if 40< degP p then 5 else 0
theorem pL_(q:Rat):qs (absQ q)=qs q:=by
 unfold qs;rw[oi_,oj_,Int.natAbs_natCast]
theorem mn_{l:List Rat}{n:Nat}(h:bdL l n)(hn:1≤n):qs (maxL l)≤n:=by
 unfold maxL
 have key:∀(bf:Int→Bool) (l:List Rat) (o:Rat),qs o≤n→bdL l n→qs (l.foldl (fun o y=>if bf (cmpQ y o) then y else o) o)≤n:=by
  intro bf l
  induction l with
  |nil=>intro o ho _;exact ho
  |cons y l ih=>
   intro o ho hl;refine ih _ ?_ fun q hq=>hl q (List.mem_cons_of_mem _ hq);show qs (if bf (cmpQ y o)=true then y else o)≤n;split;exact hl y (List.mem_cons_self ..);exact ho
 cases l with
 |nil=>exact Nat.le_trans (by decide:qs 0≤1) hn
 |cons x l=>exact key (fun c=>decide (0< c)) l x (h x (List.mem_cons_self ..)) fun q hq=>h q (List.mem_cons_of_mem _ hq)
theorem oy_(p:List Rat):leadP (trimQ p)=leadP p:=by unfold leadP;rw[aY_]
theorem rl_(p:List Rat):degP (trimQ p)=degP p:=by unfold degP;rw[aY_]
def chL:List Int→Int→Int→Int
 |[],n,_=>n
 |s::l,n,last=>if s≠0 then chL l (if s= -last then n+1 else n) s else chL l n last
def ha_(f:Nat):Nat→List Rat→List Rat→List (List Rat)→Option (List (List Rat))
 |0,_,_,_=>none
 |k+1,last,next,acc=>
  if trimQ next=[] then some acc
  else if lc_ next∧okDiv last (primP next)∧trimQ (primP next)≠[] then ha_ f k (primP next) (aw_ (divP last (primP next)).2 (-1)) (acc++[primP next])
  else none
def e1_(f:Nat)(p:List Rat):Option (List (List Rat)):=
 if smL p∧lc_ p∧trimQ p≠[] then ha_ f f (primP p) (ao_ p) [primP p] else none
def cE(l:List (List Rat)):List (List AV):=l.map fun p=>[.arr (pE p)]
@[simp] theorem cE_length (l:List (List Rat)):(cE l).length=l.length:=by simp[cE]
theorem ry_{l:List (List Rat)}{i:Nat}{p:List Rat}(h:l[i]?=some p):(cE l)[i]?=some [.arr (pE p)]:=by simp[cE,h]
theorem ee_(l:List (List Rat)):(cE l).all (·.all AV.one)=true:=by
 simp only[cE,List.all_map,List.all_eq_true];intro q _;rfl
theorem ey_(l:List (List Rat)):∀e∈cE l,∀c∈e,Closed c:=by
 intro e he c hc;obtain⟨q,_,rfl⟩:=List.mem_map.1 he;rw[List.mem_singleton.1 hc];exact ap_ q
theorem gz_(l:List (List Rat)):Closed (.arr (cE l)):=aL_ (ey_ l)
theorem cE_snoc(l:List (List Rat))(p:List Rat):cE (l++[p])=cE l++[[.arr (pE p)]]:=by simp[cE]
theorem AEval.lenC{P:Program}{id:Nat}{ev:Operand→Option AV}{hp:Nat→Option ABlk}{c:Call}{x:Operand}{T:Nat}{d:Nat×Nat}{l:List (List Rat)}(hc:c.callee= .builtin .len)(ha:c.args= #[x])(ht:c.argTypes= #[T])(hx:ev x=some (.arr (cE l)))(he:elOf P T=some d):
    AEval P id ev hp (.call c) ⟨.v (.int .i64 (l.length:Nat)),[]⟩ []:= .len hc ha ht hx (by simp[lenA]) he
structure Cnt where
 p:List Rat
 ch:List (List Rat)
 far:Int
def kC(c:Cnt):List AV:=[.arr (pE c.p),.arr (cE c.ch),i64 c.far]
abbrev kA(c:Cnt):AV:= .aptr [kC c] 0 0
theorem lT_(c:Cnt):∀x∈kC c,Closed x:=aa_ (ap_ _) (aa_ (gz_ _) (aa_ (af_ _) ac_))
theorem dB_(c:Cnt):Closed (kA c):=bg_ (lT_ c)
def sgI(q:List Rat):Int:=if degP q % 2=1 then -sgZ (leadP q).num else sgZ (leadP q).num
def sgE(x:Rat)(q:List Rat):Int:=sgZ (evalP q x).num
theorem gF_(z:Int): -1≤sgZ z∧sgZ z≤1:=by
 unfold sgZ;split;omega;split <;> omega
theorem sgI_abs(q:List Rat): -1≤sgI q∧sgI q≤1:=by
 have:=gF_ (leadP q).num;unfold sgI;split <;> omega
theorem lX_:∀(l:List Int) (n last:Int),n≤chL l n last∧chL l n last≤n+l.length
 |[],n,_=>⟨Int.le_refl _,by simp[chL]⟩
 |s::l,n,last=>by
  unfold chL;split;split;have:=lX_ l (n+1) s;simp only[List.length_cons];omega;have:=lX_ l n s;simp only[List.length_cons];omega;have:=lX_ l n last;simp only[List.length_cons];omega
def okCnt(c:Cnt):Prop:=(∀q∈c.ch,trimQ q≠[]∧q.length≤274877906944)∧c.ch.length≤274877906944∧c.far=chL (c.ch.map sgI) 0 0
instance (c:Cnt):Decidable (okCnt c):=inferInstanceAs (Decidable (_∧_∧_))
def b9_(f:Nat)(p:List Rat):Option Cnt:=
 (sqfM f p).bind fun s=>(e1_ f s).bind fun ch=>if okCnt ⟨s,ch,chL (ch.map sgI) 0 0⟩ then some ⟨s,ch,chL (ch.map sgI) 0 0⟩ else none
def uptoV(c:Cnt)(x:Rat):Int:=c.far- chL (c.ch.map (sgE x)) 0 0
def okUp(c:Cnt)(x:Rat):Prop:=okCnt c∧∀q∈c.ch,b2_ q x
instance (c:Cnt) (x:Rat):Decidable (okUp c x):=inferInstanceAs (Decidable (_∧_))
def aM_(c:Cnt)(x:Rat):Int:=if evalP c.p x=0 then uptoV c x- 1 else uptoV c x
def okBe(c:Cnt)(x:Rat):Prop:=okUp c x∧b2_ c.p x
instance (c:Cnt) (x:Rat):Decidable (okBe c x):=inferInstanceAs (Decidable (_∧_))
def allV(c:Cnt):Int:=uptoV c (a1_ c.p)
def okAll(c:Cnt):Prop:=e5_ c.p∧trimQ c.p≠[]∧okUp c (a1_ c.p)
instance (c:Cnt):Decidable (okAll c):=inferInstanceAs (Decidable (_∧_∧_))
theorem eC_{c:Cnt}{x:Rat}(h:okCnt c): -274877906944≤uptoV c x∧uptoV c x≤274877906944:=by
 have h1:=lX_ (c.ch.map sgI) 0 0;have h2:=lX_ (c.ch.map (sgE x)) 0 0;have h3:=h.2.1;rw[←h.2.2] at h1;simp only[List.length_map] at h1 h2;unfold uptoV;omega
abbrev plA(c:Cnt)(i:Int):AV:= .aptr [[kA c,i64 i]] 0 0
theorem bE_(c:Cnt)(i:Int):Closed (plA c i):=bg_ (aa_ (dB_ c) (aa_ (af_ _) ac_))
def plC(c:Cnt)(i:Int)(x:Rat):Int:=if i< aM_ c x then -1 else if aM_ c x=i∧aM_ c x< uptoV c x then 0 else 1
theorem l0_{c:Cnt}{x:Rat}(h:okCnt c): -274877906945≤aM_ c x∧aM_ c x≤274877906944:=by
 have:=eC_ (x:=x) h;unfold aM_;split <;> omega
def biM(c:Cnt)(i:Int)(step:Rat):Nat→Rat→Rat→Option Rat
 |0,_,_=>none
 |f+1,lo,hi=>
  if sm lo∧sm hi∧sm (hi- lo) then
   if 0< cmpQ (hi- lo) 1 then
    if qs (((lo+hi) / 2).floor:Rat)+qs step≤549755813888∧okBe c ((((lo+hi) / 2).floor:Rat) * step) then
     if 0≤plC c i ((((lo+hi) / 2).floor:Rat) * step) then biM c i step f (((lo+hi) / 2).floor:Rat) hi
     else biM c i step f lo (((lo+hi) / 2).floor:Rat)
    else none
   else some lo
  else none
def inK(a v:Rat)(out zeros:List Rat):Rat:=(v- evalP out a) / evalP zeros a
def okIn(a v:Rat)(out zeros:List Rat):Prop:=sm a∧sm v∧b2_ out a∧b2_ zeros a∧evalP zeros a≠0∧sm (inK a v out zeros)∧smL out∧smL zeros∧smL (aw_ zeros (inK a v out zeros))∧okMul zeros [-a,1]∧out.length≤274877906944
instance (a v:Rat) (out zeros:List Rat):Decidable (okIn a v out zeros):=inferInstanceAs (Decidable (_∧_∧_∧_∧_∧_∧_∧_∧_∧_∧_))
theorem gQ_(i:Nat):coP [] i=0:=rfl
theorem bD_(a:Rat)(l:List Rat):coP (a::l) 0=a:=rfl
theorem bq_(a:Rat)(l:List Rat)(i:Nat):coP (a::l) (i+1)=coP l i:=rfl
theorem aU_(l:List Rat)(i:Nat):coP (trimQ l) i=coP l i:=by
 induction l generalizing i with
 |nil=>rfl
 |cons a l ih=>
  rw[ck_];split
  ·rename_i h
   have h0:∀j,coP l j=0:=fun j=>by rw[←ih j,h];rfl
   split
   ·rename_i ha
    cases i with
    |zero=>rw[ha];rfl
    |succ i=>rw[bq_,h0];rfl
   cases i with
   |zero=>rfl
   |succ i=>rw[bq_,bq_,h0];rfl
  cases i with
  |zero=>rfl
  |succ i=>rw[bq_,bq_,ih]
theorem iG_(n:Nat)(f:Nat→Rat)(i:Nat):coP (tabP n f) i=if i< n then f i else 0:=by
 unfold coP tabP;grind
theorem db_(p q:List Rat)(i:Nat):coP (addP p q) i=coP p i+coP q i:=by
 unfold addP;rw[aU_,iG_];split;rfl
 ·rw[ca_ (by omega),ca_ (by omega)];grind
theorem bA_(p:List Rat)(k:Rat)(i:Nat):coP (aw_ p k) i=coP p i* k:=by
 unfold aw_;rw[aU_,iG_];split;rfl
 ·rw[ca_ (by omega)];grind
theorem ei_(p q:List Rat)(i:Nat):coP (subP p q) i=coP p i- coP q i:=by
 unfold subP;rw[db_,bA_];grind
theorem ev_(a:Rat)(i:Nat):coP (a0_ a) i=if i=0 then a else 0:=by
 unfold a0_;rw[aU_];cases i <;> rfl
theorem bn_(p:List Rat)(i:Nat):coP (ao_ p) i=coP p (i+1) * ((i+1:Nat):Int):=by
 unfold ao_;rw[aU_,iG_];split;rfl
 ·rw[ca_ (by omega)];grind
theorem bm_(p:List Rat)(i:Nat):coP (aj_ p) i=if i=0 then 0 else coP p (i- 1) / ((i:Nat):Int):=by
 unfold aj_;rw[aU_,iG_];split;rfl
 ·rw[if_neg (by omega),ca_ (by omega),Rat.div_def,Rat.zero_mul]
theorem d3_{p q:List Rat}(h:∀i,coP p i=coP q i):trimQ p=trimQ q:=by
 induction p generalizing q with
 |nil=>
  induction q with
  |nil=>rfl
  |cons b q ih=>
   have hb:b=0:=(h 0).symm;rw[ck_,←ih fun i=>h (i+1),if_pos hb];rfl
 |cons a p ih=>
  cases q with
  |nil=>
   have ha:a=0:=h 0;rw[ck_,ih (q:=[]) fun i=>h (i+1),if_pos ha];rfl
  |cons b q=>
   have hab:a=b:=h 0;rw[ck_,ck_,ih (q:=q) fun i=>h (i+1),hab]
theorem trim_iff{p q:List Rat}:trimQ p=trimQ q↔∀i,coP p i=coP q i:=
 ⟨fun h i=>by rw[←aU_ p,h,aU_],d3_⟩
theorem trim_nil_iff{p:List Rat}:trimQ p=[]↔∀i,coP p i=0:=
 ⟨fun h i=>by rw[←aU_ p,h];rfl,fun h=>d3_ (q:=[]) h⟩
theorem am_(x:Rat):evalP [] x=0:=rfl
theorem al_(a:Rat)(l:List Rat)(x:Rat):evalP (a::l) x=evalP l x* x+a:=rfl
theorem eq_{p:List Rat}(h:∀i,coP p i=0)(x:Rat):evalP p x=0:=by
 induction p with
 |nil=>rfl
 |cons a p ih=>
  have ha:a=0:=h 0;rw[al_,ih fun i=>h (i+1)];grind
theorem bZ_{p q:List Rat}(h:∀i,coP p i=coP q i)(x:Rat):evalP p x=evalP q x:=by
 induction p generalizing q with
 |nil=>exact(eq_ (fun i=>(h i).symm) x).symm
 |cons a p ih=>
  cases q with
  |nil=>exact eq_ h x
  |cons b q=>
   have hab:a=b:=h 0;rw[al_,al_,ih (q:=q) fun i=>h (i+1),hab]
theorem aT_(p:List Rat)(x:Rat):evalP (trimQ p) x=evalP p x:=bZ_ (aU_ p) x
def addL:List Rat→List Rat→List Rat
 |[],q=>q
 |p,[]=>p
 |a::p,b::q=>(a+b)::addL p q
def ci_(p:List Rat)(k:Rat):List Rat:=p.map (· * k)
def mulL:List Rat→List Rat→List Rat
 |[],_=>[]
 |a::p,q=>addL (ci_ q a) (0::mulL p q)
theorem da_(p q:List Rat)(i:Nat):coP (addL p q) i=coP p i+coP q i:=by
 induction p generalizing q i with
 |nil=>rw[addL,gQ_];grind
 |cons a p ih=>
  cases q with
  |nil=>rw[addL,gQ_]; · grind
        grind
  |cons b q=>
   cases i with
   |zero=>rfl
   |succ i=>exact ih q i
theorem cE_(p:List Rat)(k:Rat)(i:Nat):coP (ci_ p k) i=coP p i* k:=by
 induction p generalizing i with
 |nil=>show(0:Rat)=0* k;grind
 |cons a p ih=>
  cases i with
  |zero=>rfl
  |succ i=>exact ih i
theorem bv_(p q:List Rat)(x:Rat):evalP (addL p q) x=evalP p x+evalP q x:=by
 induction p generalizing q with
 |nil=>rw[addL,am_];grind
 |cons a p ih=>
  cases q with
  |nil=>rw[addL,am_]; · grind
        grind
  |cons b q=>rw[addL,al_,al_,al_];grind
theorem a6_(p:List Rat)(k x:Rat):evalP (ci_ p k) x=evalP p x* k:=by
 induction p with
 |nil=>show(0:Rat)=0* k;grind
 |cons a p ih=>show evalP (ci_ p k) x* x+a* k=_;rw[al_];grind
theorem gM_(p q:List Rat)(x:Rat):evalP (mulL p q) x=evalP p x* evalP q x:=by
 induction p with
 |nil=>show(0:Rat)=0* _;grind
 |cons a p ih=>rw[mulL,bv_,a6_,al_,al_];grind
theorem bl_(p q:List Rat)(x:Rat):evalP (addP p q) x=evalP p x+evalP q x:=by
 rw[←bv_];exact bZ_ (fun i=>by rw[db_,da_]) x
theorem an_(p:List Rat)(k x:Rat):evalP (aw_ p k) x=evalP p x* k:=by
 rw[←a6_];exact bZ_ (fun i=>by rw[bA_,cE_]) x
theorem a8_(p q:List Rat)(x:Rat):evalP (subP p q) x=evalP p x- evalP q x:=by
 unfold subP;rw[bl_,an_];grind
theorem cO_(a x:Rat):evalP (a0_ a) x=a:=by
 rw[a0_,aT_];show 0* x+a=a;grind
def convP(p q:List Rat):Nat→Nat→Rat
 |0,_=>0
 |i+1,n=>convP p q i n+(if i≤n then coP p i* coP q (n- i) else 0)
theorem n1_(o:List Rat)(a:Rat)(q:List Rat)(i:Nat)(h:∀k,k< q.length→i+k< o.length):∀k n,k≤q.length→coP (rowP o a q i k) n=coP o n+(if i≤n∧n< i+k then a* coP q (n- i) else 0)
 |0,n,_=>by show coP o n=_;grind
 |k+1,n,hk=>by
  rw[rowP,iH_,mc_];by_cases hn:n=i+k;subst hn;rw[if_pos ⟨rfl,h k (by omega)⟩,j5_ o a q i k (i+k) (by omega),if_pos (by omega),show i+k- i=k by omega];rw[n1_ o a q i h k n (by omega)];grind
theorem n3_(p q:List Rat)(n:Nat):∀i,i≤p.length→coP (mulR p q i) n=convP p q i n
 |0,_=>by
  show coP (List.replicate _ 0) n=0;unfold coP;grind
 |i+1,hi=>by
  have ih:=n3_ p q n i (by omega);rw[mulR,convP];split
  ·grind
  rw[n1_ _ _ _ _ (fun k hk=>by rw[fR_];omega) _ _ (Nat.le_refl _),ih];by_cases h1:i≤n;rw[if_pos h1];by_cases h2:n< i+q.length;rw[if_pos ⟨h1,h2⟩];rw[ca_ (p:=q) (by omega)];grind;grind
theorem jN_(a:Rat)(p q:List Rat)(n:Nat):∀i,convP (a::p) q (i+1) n=a* coP q n+(match n with|0=>0|m+1=>convP p q i m)
 |0=>by
  show(0:Rat)+(if 0≤n then coP (a::p) 0* coP q (n- 0) else 0)=_;rw[bD_];cases n <;> simp[convP,Rat.add_zero,Rat.zero_add]
 |i+1=>by
  rw[convP,jN_ a p q n i];cases n with
  |zero=>grind
  |succ m=>
   show a* coP q (m+1)+convP p q i m+_=a* coP q (m+1)+(convP p q i m+_);by_cases h:i≤m;rw[bq_];grind;grind
theorem kw_(p q:List Rat)(n:Nat):coP (mulL p q) n=convP p q p.length n:=by
 induction p generalizing n with
 |nil=>rfl
 |cons a p ih=>
  rw[mulL,da_,cE_,List.length_cons,jN_];cases n with
  |zero=>rw[bD_];grind
  |succ m=>rw[bq_];grind
theorem gR_(p q:List Rat)(n:Nat):coP (mulP p q) n=coP (mulL p q) n:=by
 unfold mulP;split
 ·rename_i h
  rcases h with rfl|rfl
  rfl;rw[kw_]
  have:∀i,convP p [] i n=0:=by
   intro i
   induction i with
   |zero=>rfl
   |succ i ih=>rw[convP,gQ_];grind
  rw[this];rfl
 rw[aU_,n3_ _ _ _ _ (Nat.le_refl _),kw_]
theorem ax_(p q:List Rat)(x:Rat):evalP (mulP p q) x=evalP p x* evalP q x:=by
 rw[←gM_];exact bZ_ (gR_ p q) x
def synD:List Rat→Rat→List Rat
 |[],_=>[]
 |[_],_=>[]
 |_::b::l,r=>evalP (b::l) r::synD (b::l) r
theorem dt_(p:List Rat)(r x:Rat):evalP p x=evalP (synD p r) x* (x- r)+evalP p r:=by
 induction p with
 |nil=>show(0:Rat)=0* _+0;grind
 |cons a l ih=>
  cases l with
  |nil=>show 0* x+a=0* (x- r)+(0* r+a);grind
  |cons b l=>
   rw[synD,al_ a,al_ a,al_ (evalP (b::l) r)];grind
theorem m4_(p:List Rat)(r:Rat):(synD p r).length=p.length- 1:=by
 induction p with
 |nil=>rfl
 |cons a l ih=>
  cases l with
  |nil=>rfl
  |cons b l=>rw[synD,List.length_cons,ih];simp
theorem gG_:∀(n:Nat) (p xs:List Rat),p.length≤n→n≤xs.length→xs.Nodup→(∀x∈xs,evalP p x=0)→∀x,evalP p x=0
 |0,p,_,hp,_,_,_,x=>by
  have:p=[]:=List.length_eq_zero_iff.1 (by omega);rw[this];rfl
 |n+1,p,xs,hp,hx,hnd,hz,x=>by
  cases xs with
  |nil=>grind
  |cons r xs=>
   rw[List.nodup_cons] at hnd;have hr:=hz r (List.mem_cons_self ..)
   have ih:=gG_ n (synD p r) xs (by rw[m4_];omega) (by grind) hnd.2 fun y hy=>by
    have h1:=dt_ p r y;grind
   rw[dt_ p r x];grind
theorem fe_{p:List Rat}(h:∀x,evalP p x=0):∀i,coP p i=0:=by
 induction p with
 |nil=>intro i;rfl
 |cons a p ih=>
  have ha:a=0:=by
   have:=h 0;rw[al_] at this;grind
  have hp:∀x,evalP p x=0:=by
   -- at all places but 0,so at all
   refine gG_ p.length p ((List.range p.length).map fun i=>(((i+1:Nat):Int):Rat)) (Nat.le_refl _) (by simp) ?_ ?_;refine List.Pairwise.map _ (fun i j hij=>?_) List.nodup_range;intro e;have:=Rat.intCast_inj.1 e;omega;intro x hx;obtain⟨i,_,rfl⟩:=List.mem_map.1 hx;have h1:=h (((i+1:Nat):Int):Rat);rw[al_] at h1;have h2:evalP p (((i+1:Nat):Int):Rat) * (((i+1:Nat):Int):Rat)=0:=by grind
   rcases Rat.mul_eq_zero.1 h2 with h3|h3
   exact h3;have:=Rat.intCast_inj.1 (h3.trans Rat.intCast_zero.symm);omega
  intro i;cases i with
  |zero=>exact ha
  |succ i=>exact ih hp i
theorem c6_{p q:List Rat}(h:∀x,evalP p x=evalP q x):trimQ p=trimQ q:=by
 refine d3_ fun i=>?_;have:=fe_ (p:=subP p q) (fun x=>by rw[a8_];grind) i;rw[ei_] at this;grind
theorem e6_(p q:List Rat)(hp:p≠[]):(mulP p q).length≤p.length+q.length- 1:=by
 unfold mulP;split;simp;have:=aD_ (mulR p q p.length);rwa[fR_] at this
theorem jI_(a x:Rat):evalP [-a,1] x=x- a:=by
 show(0* x+1) * x+ -a=x- a;grind
theorem ga_{p:List Rat}{k:Rat}{s t:Nat}(hp:bdL p s)(hs:1≤s)(hk:qs k≤t):bdL (aw_ p k) (s+t):=
 ew_ fun i=>by
  rw[bA_];have h1:=bK_ (coP p i) k;have h2:=bL_ hp hs i;omega
theorem rI_{p q:List Rat}{s t:Nat}(hp:bdL p s)(hq:bdL q t)(hs:1≤s)(ht:1≤t):bdL (addP p q) (s+t+1):=
 ew_ fun i=>by
  rw[db_];have h1:=c3_ (coP p i) (coP q i);have h2:=bL_ hp hs i;have h3:=bL_ hq ht i;omega
def dvE:List Rat→Rat→Rat
 |[],_=>0
 |_::l,x=>evalP l x+dvE l x* x
theorem bp_(a:Rat)(l:List Rat)(x:Rat):dvE (a::l) x=evalP l x+dvE l x* x:=rfl
theorem nT_{p:List Rat}(h:∀i,coP p i=0)(x:Rat):dvE p x=0:=by
 induction p with
 |nil=>rfl
 |cons a p ih=>rw[bp_,ih fun i=>h (i+1),eq_ fun i=>h (i+1)];grind
theorem ix_{p q:List Rat}(h:∀i,coP p i=coP q i)(x:Rat):dvE p x=dvE q x:=by
 induction p generalizing q with
 |nil=>exact(nT_ (fun i=>(h i).symm) x).symm
 |cons a p ih=>
  cases q with
  |nil=>exact nT_ h x
  |cons b q=>rw[bp_,bp_,ih (q:=q) fun i=>h (i+1),bZ_ (q:=q) fun i=>h (i+1)]
theorem eb_(p q:List Rat)(x:Rat):dvE (addL p q) x=dvE p x+dvE q x:=by
 induction p generalizing q with
 |nil=>show dvE q x=0+dvE q x;grind
 |cons a p ih=>
  cases q with
  |nil=>rw[addL]; · show _=_+(0:Rat);grind
        grind
  |cons b q=>rw[addL,bp_,bp_,bp_,bv_];grind
theorem cD_(p:List Rat)(k x:Rat):dvE (ci_ p k) x=dvE p x* k:=by
 induction p with
 |nil=>show(0:Rat)=0* k;grind
 |cons a p ih=>show evalP (ci_ p k) x+dvE (ci_ p k) x* x=_;rw[bp_,a6_];grind
theorem dvE_mulL(p q:List Rat)(x:Rat):dvE (mulL p q) x=dvE p x* evalP q x+evalP p x* dvE q x:=by
 induction p with
 |nil=>show(0:Rat)=0* _+0* _;grind
 |cons a p ih=>rw[mulL,eb_,cD_,bp_,bp_,gM_,al_];grind
def derL:List Rat→List Rat
 |[]=>[]
 |_::l=>addL l (0::derL l)
theorem er_(p:List Rat)(x:Rat):evalP (derL p) x=dvE p x:=by
 induction p with
 |nil=>rfl
 |cons a p ih=>rw[derL,bv_,al_,bp_];grind
theorem eV_(p:List Rat)(i:Nat):coP (derL p) i=coP p (i+1) * ((i+1:Nat):Int):=by
 induction p generalizing i with
 |nil=>show(0:Rat)=0* _;grind
 |cons a p ih=>
  rw[derL,da_,bq_];cases i with
  |zero=>rw[bD_];grind
  |succ i=>rw[bq_];grind
theorem aI_(p:List Rat)(x:Rat):evalP (ao_ p) x=dvE p x:=by
 rw[←er_];exact bZ_ (fun i=>by rw[bn_,eV_]) x
theorem fZ_(p q:List Rat)(x:Rat):dvE (mulP p q) x=dvE p x* evalP q x+evalP p x* dvE q x:=by
 rw[←dvE_mulL];exact ix_ (gR_ p q) x
theorem dW_(p:List Rat):trimQ (ao_ (aj_ p))=trimQ p:=d3_ fun i=>by
 rw[bn_,bm_]
 have h:(((i+1:Nat):Int):Rat)≠0:=by
  intro e;have h1:((i+1:Nat):Int)=0:=Rat.intCast_inj.1 (e.trans Rat.intCast_zero.symm);omega
 grind
theorem bu_(q:List Rat)(x:Rat):∀p,evalP (compP q p) x=evalP p (evalP q x)
 |[]=>rfl
 |a::p=>by rw[compP,bl_,ax_,cO_,bu_ q x p,al_]
theorem cN_(c x:Rat):evalP [c,1] x=x+c:=by
 show(0* x+1) * x+c=x+c;grind
theorem lH_(o:List Rat)(x v:Rat):∀j,j< o.length→evalP (o.set j v) x=evalP o x+(v- coP o j) * x^ j:=by
 induction o with
 |nil=>grind
 |cons a o ih=>
  intro j h;cases j with
  |zero=>rw[List.set_cons_zero,al_,al_,bD_];grind
  |succ j=>rw[List.set_cons_succ,al_,al_,bq_];grind
theorem dK_(q:List Rat)(x:Rat)(m:Nat)(h:m< q.length):evalP (q.take (m+1)) x=evalP (q.take m) x+coP q m* x^ m:=by
 induction q generalizing m with
 |nil=>cases h
 |cons a q ih=>
  cases m with
  |zero=>rw[List.take_succ_cons,Rat.pow_zero];show 0* x+a=0+a* 1;grind
  |succ m=>rw[List.take_succ_cons,List.take_succ_cons,al_,al_,bq_];grind
theorem md_(x:Rat)(n:Nat):∀m,x^ (n+m)=x^ n* x^ m
 :=by grind
theorem jH_(o:List Rat)(k:Rat)(q:List Rat)(n:Nat)(x:Rat)(h:n+q.length≤o.length):∀m,m≤q.length→evalP (rowM o k q n m) x=evalP o x- k* x^ n* evalP (q.take m) x
 |0,_=>by rw[rowM];show _=_- _* 0;grind
 |m+1,hm=>by
  rw[rowM,subAt,lH_ _ _ _ _ (by rw[dh_];omega),jH_ o k q n x h m (by omega),dK_ q x m (by omega)];grind
theorem coP_rowM(o:List Rat)(k:Rat)(q:List Rat)(n m:Nat)(hm:m< q.length)(h:n+q.length≤o.length):coP (rowM o k q n q.length) (n+m)=coP o (n+m)- k* coP q m:=by
 have:∀j,m< j→j≤q.length→coP (rowM o k q n j) (n+m)=coP o (n+m)- k* coP q m:=by
  intro j
  induction j with
  |zero=>grind
  |succ j ih=>
   intro h1 h2;rw[rowM,gx_];by_cases e:m=j;subst e;rw[if_pos ⟨rfl,by rw[dh_];omega⟩,gc_ o k q n m (n+m) (by omega)];grind
 grind
theorem lK_(q:List Rat)(lead:Rat)(hq:q≠[])(hl:coP q (q.length- 1)=lead)(hl0:lead≠0)(x:Rat):∀c u o,(∀i,i< c→coP u i=0)→c≤u.length→c+q.length≤o.length+1→(∀j,c+q.length- 1≤j→coP o j=0)→
    evalP (divR q lead c u o).1 x* evalP q x+evalP (divR q lead c u o).2 x=evalP u x* evalP q x+evalP o x∧∀j,q.length- 1≤j→coP (divR q lead c u o).2 j=0
 |0,u,o,_,_,_,h4=>⟨rfl,fun j hj=>h4 j (by omega)⟩
 |n+1,u,o,h1,h2,h3,h4=>by
  have hlen:=List.length_pos_iff.2 hq;rw[divR];obtain⟨k,hk⟩:∃k,k=coP o (n+q.length- 1) / lead:=⟨_,rfl⟩;rw[←hk];have hkl:k* lead=coP o (n+q.length- 1):=by grind
  have hu:coP u n=0:=h1 n (by omega)
  have ho:evalP (if k=0 then o else rowM o k q n q.length) x=evalP o x- k* x^ n* evalP q x:=by
   by_cases h0:k=0;rw[if_pos h0,h0];grind;rw[if_neg h0,jH_ o k q n x (by omega) _ (Nat.le_refl _),List.take_length]
  obtain⟨e1,e2⟩:=lK_ q lead hq hl hl0 x n (u.set n k) (if k=0 then o else rowM o k q n q.length) (fun i hi=>by
   rw[kv_,if_neg (by omega)];grind) (by grind) (by split <;>(try simp)<;> omega) (fun j hj=>by
   by_cases h0:k=0;rw[if_pos h0];by_cases hj':j=n+q.length- 1;rw[hj',←hkl,h0];grind;exact h4 j (by omega);rw[if_neg h0];by_cases hj':j=n+q.length- 1;have:=coP_rowM o k q n (q.length- 1) (by omega) (by omega);rw[hj',show n+q.length- 1=n+(q.length- 1) by omega,this,hl,hkl,show n+(q.length- 1)=n+q.length- 1 by omega];grind;rw[gc_ o k q n q.length j (by omega)];grind)
  refine⟨?_,e2⟩;rw[e1,ho,lH_ u x k n (by omega),hu];grind
theorem kU_{p:List Rat}{n:Nat}(h:∀j,n≤j→coP p j=0):(trimQ p).length≤n:=by
 apply Nat.le_of_not_lt;intro hn;have h1:=bk_ (l:=p) (n:=(trimQ p).length- 1) (by omega);have h2:trimQ p≠[]:=fun e=>by grind
 have h3:=h ((trimQ p).length- 1) (by omega);rw[←aU_] at h3;unfold coP at h3;rw[List.getD_eq_getElem?_getD,h1] at h3;exact bj_ h2 h3
theorem ff_(p q:List Rat)(hq:trimQ q≠[]):(∀x,evalP (divP p q).1 x* evalP q x+evalP (divP p q).2 x=evalP p x)∧(trimQ (divP p q).2).length< (trimQ q).length:=by
 have hlen:=List.length_pos_iff.2 hq
 have hl:coP (trimQ q) ((trimQ q).length- 1)=leadP q:=by
  have:=bk_ (l:=q) (n:=(trimQ q).length- 1) (by omega);unfold coP;grind
 have hz:∀i m,coP (List.replicate m 0) i=0:=fun i m=>by
  unfold coP;grind
 have key:=fun x (h:(trimQ q).length≤(trimQ p).length+1)=>lK_ (trimQ q) (leadP q) hq hl (bj_ hq) x ((trimQ p).length+1- (trimQ q).length) (List.replicate ((trimQ p).length+1- (trimQ q).length) 0) (trimQ p)
  (fun i _=>hz i _) (by simp) (by omega) (fun j hj=>ca_ (by omega))
 by_cases h:(trimQ q).length≤(trimQ p).length+1;refine⟨fun x=>?_,?_⟩;have e:=(key x h).1;unfold divP;rw[aT_,aT_,←aT_ q,e,eq_ (fun i=>hz i _),aT_ p];grind;have e:=(key 0 h).2;unfold divP;rw[aY_];have:=kU_ e;omega;unfold divP;rw[show(trimQ p).length+1- (trimQ q).length=0 by omega];refine⟨fun x=>?_,?_⟩;rw[divR,aT_,aT_,aT_];show 0* _+_=_;grind;rw[divR,aY_,aY_];omega
section
variable (p q r:List Rat)(a b:Rat)
end
def ab(x:Rat):Rat:=if x< 0 then -x else x
theorem ab_nn(x:Rat):0≤ab x:=by unfold ab;grind
theorem ab_le{x c:Rat}:ab x≤c↔ -c≤x∧x≤c:=by unfold ab;grind
theorem d1_(x y:Rat):ab (x+y)≤ab x+ab y:=by unfold ab;grind
theorem jR_(x:Rat):ab (-x)=ab x:=by unfold ab;grind
theorem bx_(x y:Rat):ab (x* y)=ab x* ab y:=by
 have key:∀a b:Rat,0≤a→0≤b→ab (a* b)=a* b:=fun a b ha hb=>by
  have:=Rat.mul_nonneg ha hb;unfold ab;grind
 by_cases hx:x< 0;by_cases hy:y< 0;have:=key (-x) (-y) (by grind) (by grind);rw[show x* y= -x* -y by grind,this];unfold ab;rw[if_pos hx,if_pos hy];have:=key (-x) y (by grind) (by grind);rw[show x* y= -(-x* y) by grind,jR_,this];unfold ab;rw[if_pos hx,if_neg hy];by_cases hy:y< 0;have:=key x (-y) (by grind) (by grind);rw[show x* y= -(x* -y) by grind,jR_,this];unfold ab;rw[if_neg hx,if_pos hy];have:=key x y (by grind) (by grind);rw[this];unfold ab;grind
theorem bC_{a b c d:Rat}(h1:a≤b)(h2:c≤d)(h3:0≤c)(h4:0≤b):a* c≤b* d:=by
 have e1:=Rat.mul_le_mul_of_nonneg_right h1 h3;have e2:=Rat.mul_le_mul_of_nonneg_left h2 h4;grind
def bV(R:Rat):List Rat→Rat
 |[]=>0
 |a::l=>bV R l* R+ab a
theorem bV_nn{R:Rat}(hR:0≤R):∀l,0≤bV R l
 |[]=>by simp[bV]
 |a::l=>by
  have h1:=Rat.mul_nonneg (bV_nn hR l) hR;have h2:=ab_nn a;rw[bV];grind
theorem cr_{R x:Rat}(hR:0≤R)(hx:ab x≤R):∀l,ab (evalP l x)≤bV R l
 |[]=>by rw[am_,bV];decide
 |a::l=>by
  have h1:=cr_ hR hx l;have h2:=bC_ h1 hx (ab_nn x) (bV_nn hR l);have h3:=d1_ (evalP l x* x) a;rw[bx_] at h3;rw[al_,bV];grind
def bL(R:Rat):List Rat→Rat
 |[]=>0
 |_::l=>bL R l* R+bV R l
theorem bL_nn{R:Rat}(hR:0≤R):∀l,0≤bL R l
 |[]=>by simp[bL]
 |a::l=>by
  have h1:=Rat.mul_nonneg (bL_nn hR l) hR;have h2:=bV_nn hR l;rw[bL];grind
theorem dz_{R x y:Rat}(hR:0≤R)(hx:ab x≤R)(hy:ab y≤R):∀l,ab (evalP l y- evalP l x)≤bL R l* ab (y- x)
 |[]=>by
  rw[am_,am_,bL,Rat.zero_mul];decide+kernel
 |a::l=>by
  have h1:=dz_ hR hx hy l;have h2:=cr_ hR hx l;have e:evalP (a::l) y- evalP (a::l) x=(evalP l y- evalP l x) * y+evalP l x* (y- x):=by rw[al_,al_];grind
  have h3:=d1_ ((evalP l y- evalP l x) * y) (evalP l x* (y- x));rw[bx_,bx_] at h3;have hd:=ab_nn (y- x);have h4:=bC_ h1 hy (ab_nn y) (Rat.mul_nonneg (bL_nn hR l) hd);have h5:=Rat.mul_le_mul_of_nonneg_right h2 hd;rw[bL];grind
def bT(R:Rat):List Rat→Rat
 |[]=>0
 |_::l=>bT R l* R+bL R l
theorem bT_nn{R:Rat}(hR:0≤R):∀l,0≤bT R l
 |[]=>by simp[bT]
 |a::l=>by
  have h1:=Rat.mul_nonneg (bT_nn hR l) hR;have h2:=bL_nn hR l;rw[bT];grind
theorem gt_{R x y:Rat}(hR:0≤R)(hx:ab x≤R)(hy:ab y≤R):∀l,ab (evalP l y- evalP l x- (y- x) * dvE l x)≤bT R l* (ab (y- x) * ab (y- x))
 |[]=>by
  rw[am_,am_,bT,show dvE [] x=0 from rfl,Rat.zero_mul,Rat.mul_zero];decide+kernel
 |a::l=>by
  have h1:=gt_ hR hx hy l;have h2:=dz_ hR hx hy l;have e:evalP (a::l) y- evalP (a::l) x- (y- x) * dvE (a::l) x=(evalP l y- evalP l x- (y- x) * dvE l x) * x+(evalP l y- evalP l x) * (y- x):=by rw[al_,al_,bp_];grind
  have h3:=d1_ ((evalP l y- evalP l x- (y- x) * dvE l x) * x) ((evalP l y- evalP l x) * (y- x));rw[bx_,bx_] at h3;have hd:=ab_nn (y- x);have h4:=bC_ h1 hx (ab_nn x) (Rat.mul_nonneg (bT_nn hR l) (Rat.mul_nonneg hd hd));have h5:=Rat.mul_le_mul_of_nonneg_right h2 hd;rw[e,bT];grind
inductive Gsn:Int→List Int→List Int→Prop
 |nil {t:Int}:Gsn t [] []
 |solid {t s:Int} {l l':List Int}:s≠0→Gsn s l l'→Gsn t (s::l) (s::l')
 |weak {t x y:Int} {l l':List Int}:(x=0∨x=t∨x= -t)→(y=0∨y=t∨y= -t)→Gsn (-t) l l'→Gsn t (x:: -t::l) (y:: -t::l')
theorem gX_:∀(l:List Int) (n t:Int),chL l n t=n+chL l 0 t
 |[],n,t=>by simp[chL]
 |s::l,n,t=>by
  unfold chL;by_cases hs:s≠0;rw[if_pos hs,if_pos hs,gX_ l (if s= -t then n+1 else n),gX_ l (if s= -t then 0+1 else 0)];split <;> omega;rw[if_neg hs,if_neg hs];exact gX_ l n t
theorem n6_{t x:Int}(ht:t≠0)(hx:x=0∨x=t∨x= -t)(l:List Int)(n:Int):chL (x:: -t::l) n t=chL l (n+1) (-t):=by
 rcases hx with rfl|rfl|rfl
 rw[chL,if_neg (by simp),chL,if_pos (by omega),if_pos rfl];rw[chL,if_pos ht,if_neg (by omega),chL,if_pos (by omega),if_pos rfl];rw[chL,if_pos (by omega),if_pos rfl,chL,if_pos (by omega),if_neg (by omega)]
theorem kz_{t:Int}{l l':List Int}(h:Gsn t l l'):t≠0→∀n,chL l n t=chL l' n t:=by
 induction h with
 |nil=>exact fun _ _=>rfl
 |solid hs _ ih=>
  intro ht n;rw[chL,if_pos hs,chL,if_pos hs];exact ih hs _
 |weak hx hy _ ih=>
  intro ht n;rw[n6_ ht hx,n6_ ht hy];exact ih (by omega) _
theorem ky_{s:Int}{l l':List Int}(hs:s≠0)(h:Gsn s l l'):chL (s::l) 0 0=chL (s::l') 0 0:=by
 rw[chL,if_pos hs,chL,if_pos hs];exact kz_ h hs _
theorem n7_{s s' t:Int}{l l':List Int}(ht:t=1∨t= -1)(hs: -1≤s∧s≤1)(hs': -1≤s'∧s'≤1)(hm:t* s≤t* s')(h:Gsn t l l'):chL (s'::t::l') 0 0≤chL (s::t::l) 0 0:=by
 have ht0:t≠0:=by omega
 have key:∀(u:Int) (k:List Int),-1≤u∧u≤1→chL (u::t::k) 0 0=(if u= -t then 1 else 0)+chL k 0 t:=fun u k hu=>by
  by_cases h0:u=0;subst h0;rw[chL,if_neg (by simp),chL,if_pos ht0,if_neg (by omega),if_neg (by omega)];omega;rw[chL,if_pos h0,if_neg (by omega),chL,if_pos ht0,gX_];by_cases h1:u= -t;rw[if_pos (by omega),if_pos h1];omega;rw[if_neg (by omega),if_neg h1]
 rw[key s l hs,key s' l' hs',kz_ h ht0 0];rcases ht with rfl|rfl <;> split <;> split <;> omega
theorem num_pos{q:Rat}:0< q.num↔0< q:=by
 have h2:0≤q.num↔0≤q:=Rat.num_nonneg;have h3:q.num=0↔q=0:=Rat.num_eq_zero;grind
theorem c0_{q:List Rat}{x:Rat}(h:0< evalP q x):sgE x q=1:=by
 have:=sgZ_num_gt.2 h;have:=gF_ (evalP q x).num;unfold sgE;omega
theorem eh_{q:List Rat}{x:Rat}(h:evalP q x< 0):sgE x q= -1:=by
 have:=sgZ_num_lt.2 h;have:=gF_ (evalP q x).num;unfold sgE;omega
theorem fq_{q:List Rat}{x:Rat}(h:evalP q x=0):sgE x q=0:=sgZ_num_eq.2 h
theorem cH_(x:Rat)(q:List Rat): -1≤sgE x q∧sgE x q≤1:=gF_ _
theorem aS_(x:Rat)(q:List Rat):(sgE x q=1∧0< evalP q x)∨(sgE x q= -1∧evalP q x< 0)∨(sgE x q=0∧evalP q x=0):=by
 by_cases h:0< evalP q x;exact .inl ⟨c0_ h,h⟩;by_cases h':evalP q x< 0;exact .inr (.inl ⟨eh_ h',h'⟩);have e:evalP q x=0:=by grind
 exact .inr (.inr ⟨fq_ e,e⟩)
theorem hi_{q:List Rat}{x y:Rat}(h:evalP q x≤evalP q y):sgE x q≤sgE y q:=by
 rcases aS_ x q with⟨a,b⟩|⟨a,b⟩|⟨a,b⟩
 rw[a,c0_ (by grind)];decide;have:=cH_ y q;omega;by_cases h0:0< evalP q y;rw[a,c0_ h0];decide;rw[a,fq_ (by grind)];decide
theorem part(e:Rat){d:Rat}(he:0< e)(hd:0< d):∃h:Rat,0< h∧h* d=e:=by
 refine⟨e/ d,?_,Rat.div_mul_cancel (by grind)⟩;have e1:e/ d* d=e:=Rat.div_mul_cancel (by grind);by_cases h:0< e/ d;exact h;have h2:e/ d* d≤0* d:=Rat.mul_le_mul_of_nonneg_right (by grind) (by grind);grind
theorem less(a b:Rat)(ha:0< a)(hb:0< b):∃h:Rat,0< h∧h≤a∧h≤b:=by grind
theorem keep(u:List Rat){R e:Rat}(hR:0≤R)(he:0< e):∃h:Rat,0< h∧∀x y:Rat,ab x≤R→ab y≤R→ab (y- x)≤h→e≤ab (evalP u x)→sgE y u=sgE x u∧sgE x u≠0:=by
 have hL:=bL_nn hR u;obtain⟨h,h0,h1⟩:=part e (d:=2* (bL R u+1)) he (by grind);refine⟨h,h0,fun x y hx hy hd ha=>?_⟩;have h2:=dz_ hR hx hy u;have h3:=Rat.mul_le_mul_of_nonneg_left hd hL;have h5:=ab_le (x:=evalP u y- evalP u x) (c:=ab (evalP u y- evalP u x))|>.1 (by grind);rcases aS_ x u with⟨a,b⟩|⟨a,b⟩|⟨a,b⟩
 have h6:ab (evalP u x)=evalP u x:=by unfold ab;grind
 rw[a,c0_ (by grind)];decide;have h6:ab (evalP u x)= -evalP u x:=by unfold ab;grind
 rw[a,eh_ (by grind)];decide;have h6:ab (evalP u x)=0:=by rw[b];decide
 grind
inductive Ch:List Rat→List (List Rat)→Prop
 |one {u:List Rat} {c:Rat}:c≠0→(∀x,evalP u x=c)→Ch u []
 |pair {u v:List Rat}:Ch v []→Ch u [v]
 |step {u v w:List Rat} {L:List (List Rat)} {a c:Rat} {q:List Rat}:0< a→0< c→(∀x,a* evalP u x+c* evalP w x=evalP q x* evalP v x)→Ch v (w::L)→Ch u (v::w::L)
def Cl(u:List Rat)(L:List (List Rat)):Prop:=∀R e:Rat,0≤R→0< e→∃h:Rat,0< h∧∀x y:Rat,ab x≤R→ab y≤R→ab (y- x)≤h→e≤ab (evalP u x)→
 sgE y u=sgE x u∧sgE x u≠0∧Gsn (sgE x u) (L.map (sgE x)) (L.map (sgE y))
theorem Ch.const{v:List Rat}(h:Ch v []):∃c:Rat,c≠0∧∀x,evalP v x=c:=by
 cases h with
 |one hc h=>simp_all
theorem Ch.sg{v:List Rat}(h:Ch v [])(x y:Rat):sgE y v=sgE x v∧sgE x v≠0:=by
 obtain⟨c,hc,h⟩:=h.const;have e:sgE y v=sgE x v:=by unfold sgE;grind
 rcases aS_ x v with⟨a,b⟩|⟨a,b⟩|⟨a,b⟩
 omega;omega;grind
theorem Ch.cl{u:List Rat}{L:List (List Rat)}(H:Ch u L):Cl u L∧∀v L',L=v::L'→Cl v L':=by
 induction H with
 | @one u c hc hu=>
  refine⟨fun R e hR he=>?_,fun _ _ h=>by cases h⟩;obtain⟨h,h0,h1⟩:=keep u hR he;exact⟨h,h0,fun x y hx hy hd ha=>⟨(h1 x y hx hy hd ha).1,(h1 x y hx hy hd ha).2,.nil⟩⟩
 | @pair u v hv ih=>
  refine⟨fun R e hR he=>?_,fun _ _ h=>by grind⟩;obtain⟨h,h0,h1⟩:=keep u hR he;refine⟨h,h0,fun x y hx hy hd ha=>⟨(h1 x y hx hy hd ha).1,(h1 x y hx hy hd ha).2,?_⟩⟩;simp only[List.map_cons,List.map_nil];rw[(hv.sg x y).1];exact .solid (hv.sg x y).2 .nil
 | @step u v w L a c q ha hc hrel hv ih=>
  refine⟨fun R e hR he=>?_,fun _ _ h=>by cases h;exact ih.1⟩;have hQ:=bV_nn hR q;have hae:=Rat.mul_pos ha he;obtain⟨e1,he1,he1'⟩:=part (a* e) (d:=2* (bV R q+1)) hae (by grind);obtain⟨e2,he2,he2'⟩:=part (a* e) (d:=2* c) hae (by grind);obtain⟨h0,p0,k0⟩:=keep u hR he;obtain⟨h1,p1,k1⟩:=ih.1 R e1 hR he1;obtain⟨h2,p2,k2⟩:=ih.2 w L rfl R e2 hR he2;obtain⟨h3,p3,l3,m3⟩:=less h0 h1 p0 p1;obtain⟨h,p,l,m⟩:=less h3 h2 p3 p2;refine⟨h,p,fun x y hx hy hd hu=>?_⟩;obtain⟨s1,s2⟩:=k0 x y hx hy (by grind) hu;refine⟨s1,s2,?_⟩;by_cases hvx:e1≤ab (evalP v x);obtain⟨t1,t2,t3⟩:=k1 x y hx hy (by grind) hvx;simp only[List.map_cons] at t3⊢;rw[t1];exact .solid t2 t3;have b1:=bC_ (cr_ hR hx q) (show ab (evalP v x)≤e1 by grind) (ab_nn _) hQ;rw[←bx_,←hrel x] at b1;have b2:=ab_le.1 b1;have b3:bV R q* e1+e1=a* e/ 2:=by grind
  have key:sgE x w= -sgE x u∧e2≤ab (evalP w x):=by
   rcases aS_ x u with⟨g1,g2⟩|⟨g1,g2⟩|⟨g1,g2⟩
   have g3:ab (evalP u x)=evalP u x:=by unfold ab;rw[if_neg (by grind)]
   rw[g3] at hu;have g4:=Rat.mul_le_mul_of_nonneg_left hu (show 0≤a by grind)
   have g5:evalP w x≤ -e2:=by
    by_cases g:evalP w x≤ -e2;exact g;have:=Rat.mul_pos hc (show 0< evalP w x+e2 by grind);grind
   refine⟨by rw[g1,eh_ (by grind)],?_⟩;unfold ab;rw[if_pos (by grind)];grind;have g3:ab (evalP u x)= -evalP u x:=by unfold ab;rw[if_pos g2]
   rw[g3] at hu;have g4:=Rat.mul_le_mul_of_nonneg_left hu (show 0≤a by grind)
   have g5:e2≤evalP w x:=by
    by_cases g:e2≤evalP w x;exact g;have:=Rat.mul_pos hc (show 0< e2- evalP w x by grind);grind
   refine⟨by rw[g1,c0_ (by grind)];decide,?_⟩;unfold ab;rw[if_neg (by grind)];grind;exact absurd g1 s2
  obtain⟨t1,t2,t3⟩:=k2 x y hx hy (by grind) key.2;simp only[List.map_cons];rw[t1,key.1];rw[key.1] at t3;have c1:=cH_ x u;have c2:=cH_ x v;have c3:=cH_ y v;exact .weak (by omega) (by omega) t3
theorem Ch.bez{u:List Rat}{M:List (List Rat)}(H:Ch u M):∀v L,M=v::L→∃a b:List Rat,∀x,evalP a x* evalP u x+evalP b x* evalP v x=1:=by
 induction H with
 |one hc hu=>grind
 | @pair u v hv ih=>
  intro v' L h;cases h;obtain⟨c,hc,h⟩:=hv.const;refine⟨[],[1/ c],fun x=>?_⟩;rw[al_,am_];grind
 | @step u v w L a c q ha hc hrel hv ih=>
  intro v' L' h;obtain⟨a',b',h⟩:=ih w L rfl;refine⟨aw_ b' (-(a/ c)),addP a' (aw_ (mulP b' q) (1/ c)),fun x=>?_⟩;rw[an_,bl_,an_,ax_];grind
theorem arch(c:Rat){h:Rat}(hh:0< h):∃n:Nat,c≤((n:Int):Rat) * h:=by
 by_cases hc:c≤0;exact⟨0,by grind⟩;obtain⟨k,hk,e⟩:=part c (d:=h) (by grind) hh
 have h1:k≤((k.num.natAbs:Int):Rat):=by
  have hn:0< k.num:=num_pos.2 hk;rw[Rat.le_iff];show k.num* 1≤(k.num.natAbs:Int) * (k.den:Int);have h4:=Int.mul_le_mul_of_nonneg_left (show(1:Int)≤(k.den:Int) by have:=k.den_pos;omega) (show 0≤k.num by omega);grind
 have h5:=Rat.mul_le_mul_of_nonneg_right h1 (show 0≤h by grind);grind
theorem grid {f:Rat→Int} (r:Int→Int→Prop) (hr:∀a,r a a) (ht:∀a b c,r a b→r b c→r a c) {lo hi h:Rat} (hh:0< h)
    (hs:∀x y,lo≤x→x≤y→y≤hi→y- x≤h→r (f x) (f y)):∀(n:Nat) (x y:Rat),lo≤x→x≤y→y≤hi→y- x≤((n:Int):Rat) * h→r (f x) (f y)
 |0,x,y,h1,h2,h3,h4=>by grind
 |n+1,x,y,h1,h2,h3,h4=>by
  by_cases hd:y- x≤h;exact hs x y h1 h2 h3 hd;exact ht _ _ _ (hs x (x+h) h1 (by grind) (by grind) (by grind)) (grid r hr ht hh hs n (x+h) y (by grind) (by grind) h3 ((by grind)))
theorem way {f:Rat→Int} (r:Int→Int→Prop) (hr:∀a,r a a) (ht:∀a b c,r a b→r b c→r a c) {x y h:Rat} (hh:0< h) (hxy:x≤y)
    (hs:∀u v,x≤u→u≤v→v≤y→v- u≤h→r (f u) (f v)):r (f x) (f y):=by
 obtain⟨n,hn⟩:=arch (y- x) hh;exact grid r hr ht hh hs n x y (by grind) hxy (by grind) hn
def chV(l:List (List Rat))(x:Rat):Int:=chL (l.map (sgE x)) 0 0
theorem ab_in{x y u:Rat}(h1:x≤u)(h2:u≤y):ab u≤ab x+ab y:=by
 have a1:=ab_le (x:=x) (c:=ab x)|>.1 (by grind);have a2:=ab_le (x:=y) (c:=ab y)|>.1 (by grind);exact ab_le.2 ⟨by grind,by grind⟩
theorem rJ_{u v h:Rat}(h1:u≤v)(h2:v- u≤h):ab (v- u)≤h:=by
 unfold ab;grind
theorem Ch.same{u:List Rat}{L:List (List Rat)}(H:Ch u L){e x y:Rat}(he:0< e)(hxy:x≤y)(ha:∀z,x≤z→z≤y→e≤ab (evalP u z)):chV (u::L) x=chV (u::L) y:=by
 obtain⟨h,h0,h1⟩:=H.cl.1 (ab x+ab y) e (by have:=ab_nn x;have:=ab_nn y;grind) he;refine way (f:=chV (u::L)) (· = ·) (fun _=>rfl) (fun _ _ _=>Eq.trans) h0 hxy fun z w a b c d=>?_;obtain⟨s1,s2,s3⟩:=h1 z w (ab_in a (by grind)) (ab_in (by grind) c) (rJ_ b d) (ha z a (by grind));unfold chV;simp only[List.map_cons];rw[s1];exact ky_ s2 s3
theorem outweigh{k T d uz uw D e v:Rat}(hk:0< k)(h1:k* -T≤k* (uw- uz- d* D))(h2:T* k≤d* e)(h3:d* e≤d* v)(h4:v=k* D):uz≤uw:=by
 subst h4;by_cases h:uz≤uw;exact h;have:=Rat.mul_pos hk (show 0< uz- uw by grind);grind
theorem outweigh'{k T d uz uw D e v:Rat}(hk:0< k)(h1:k* (uw- uz- d* D)≤k* T)(h2:T* k≤d* e)(h3:d* e≤d* -v)(h4:v=k* D):uw≤uz:=by
 subst h4;by_cases h:uw≤uz;exact h;have:=Rat.mul_pos hk (show 0< uw- uz by grind);grind
theorem Ch.fall{u v:List Rat}{L:List (List Rat)}{k:Rat}(H:Ch u (v::L))(hk:0< k)(hd:∀x,evalP v x=k* dvE u x){x y:Rat}(hxy:x≤y):chV (u::v::L) y≤chV (u::v::L) x:=by
 have hR:0≤ab x+ab y:=by have:=ab_nn x;have:=ab_nn y;grind
 generalize hRe:ab x+ab y=R at hR;obtain⟨a,b,hb⟩:=H.bez v L rfl;have hA:=bV_nn hR a;have hB:=bV_nn hR b;obtain⟨e,he,he'⟩:=part 1 (d:=2* (bV R a+bV R b+1)) (by decide+kernel) (by grind);obtain⟨h1,p1,k1⟩:=H.cl.1 R e hR he;obtain⟨h2,p2,k2⟩:=H.cl.2 v L rfl R e hR he;have hT:=bT_nn hR u;obtain⟨h3,p3,e3⟩:=part e (d:=k* (bT R u+1)) he (Rat.mul_pos hk (by grind));obtain⟨h4,p4,l4,m4⟩:=less h1 h2 p1 p2;obtain⟨h,p,l,m⟩:=less h4 h3 p4 p3;refine way (f:=chV (u::v::L)) (fun s t=>t≤s) (fun _=>Int.le_refl _) (fun _ _ _ g1 g2=>Int.le_trans g2 g1) p hxy fun z w g1 g2 g3 g4=>?_;have hz:ab z≤R:=by rw[←hRe];exact ab_in g1 (by grind)
 have hw:ab w≤R:=by rw[←hRe];exact ab_in (by grind) g3
 have hzw:ab (w- z)=w- z:=by unfold ab;rw[if_neg (by grind)]
 by_cases hu:e≤ab (evalP u z);obtain⟨s1,s2,s3⟩:=k1 z w hz hw (by grind) hu;refine Int.le_of_eq ?_;unfold chV;simp only[List.map_cons] at s3⊢;rw[s1];exact(ky_ s2 s3).symm
 have hv:e≤ab (evalP v z):=by
  by_cases hv:e≤ab (evalP v z);exact hv;have n1:=bC_ (cr_ hR hz a) (show ab (evalP u z)≤e by grind) (ab_nn _) hA;have n2:=bC_ (cr_ hR hz b) (show ab (evalP v z)≤e by grind) (ab_nn _) hB;have n3:=d1_ (evalP a z* evalP u z) (evalP b z* evalP v z);rw[hb z,bx_,bx_,show ab 1=1 by decide+kernel] at n3;grind
 obtain⟨s1,s2,s3⟩:=k2 z w hz hw (by grind) hv;have htan:=gt_ hR hz hw u;rw[hzw] at htan;have ht2:=ab_le.1 htan;have hvz:=hd z
 -- the derivative outweighs what leaves the tangent
 have small:bT R u* ((w- z) * (w- z)) * k≤(w- z) * e:=by
  have q1:=Rat.mul_le_mul_of_nonneg_right (show w- z≤h3 by grind) (show 0≤w- z by grind);have q2:=Rat.mul_le_mul_of_nonneg_left q1 hT;have q3:=Rat.mul_le_mul_of_nonneg_right q2 (show 0≤k by grind);have q4:(w- z) * e=bT R u* (h3* (w- z)) * k+(w- z) * h3* k:=by rw[←e3];grind
  have q5:=Rat.mul_nonneg (Rat.mul_nonneg (show 0≤w- z by grind) (show 0≤h3 by grind)) (show 0≤k by grind);grind
 have hwz:0≤w- z:=by grind
 unfold chV;simp only[List.map_cons];rw[s1];rcases aS_ z v with⟨c1,c2⟩|⟨c1,c2⟩|⟨c1,c2⟩
 have c3:ab (evalP v z)=evalP v z:=by unfold ab;rw[if_neg (by grind)]
 rw[c3] at hv;have c4:=Rat.mul_le_mul_of_nonneg_left hv hwz;have up:evalP u z≤evalP u w:=outweigh hk (Rat.mul_le_mul_of_nonneg_left ht2.1 (by grind)) small c4 hvz;exact n7_ (.inl c1) (cH_ z u) (cH_ w u) (by rw[c1];have:=hi_ up;omega) s3;have c3:ab (evalP v z)= -evalP v z:=by unfold ab;rw[if_pos c2]
 rw[c3] at hv;have c4:=Rat.mul_le_mul_of_nonneg_left hv hwz;have up:evalP u w≤evalP u z:=outweigh' hk (Rat.mul_le_mul_of_nonneg_left ht2.2 (by grind)) small c4 hvz;exact n7_ (.inr c1) (cH_ z u) (cH_ w u) (by rw[c1];have:=hi_ up;omega) s3;exact absurd c1 s2
def nz(p:List Rat):Prop:=trimQ p≠[]
def dg(p:List Rat):Nat:=(trimQ p).length- 1
def md(p q:List Rat):List Rat:=(divP p q).2
def Eqv(p q:List Rat):Prop:=∀x,evalP p x=evalP q x
theorem eqv_trim{p q:List Rat}:Eqv p q↔trimQ p=trimQ q:=
 ⟨c6_,fun h x=>by rw[←aT_ p,h,aT_]⟩
theorem pZ_{p q:List Rat}(h:Eqv p q):nz p↔nz q:=by unfold nz;rw[eqv_trim.1 h]
theorem dg_eqv{p q:List Rat}(h:Eqv p q):dg p=dg q:=by unfold dg;rw[eqv_trim.1 h]
theorem lead_eqv{p q:List Rat}(h:Eqv p q):leadP p=leadP q:=by unfold leadP;rw[eqv_trim.1 h]
theorem cR_{p:List Rat}(h:¬nz p):∀x,evalP p x=0:=fun x=>by
 have:trimQ p=[]:=by unfold nz at h;grind
 rw[←aT_,this];rfl
def isDeg(p:List Rat)(n:Nat):Prop:=coP p n≠0∧∀i,n< i→coP p i=0
theorem b3_{p:List Rat}(h:nz p):isDeg p (dg p)∧coP p (dg p)=leadP p:=by
 have hl:=List.length_pos_iff.2 h;have h1:=bk_ (l:=p) (n:=dg p) (by unfold dg;omega)
 have h2:coP p (dg p)=leadP p:=by
  rw[←aU_];unfold coP;grind
 refine⟨⟨by rw[h2];exact bj_ h,fun i hi=>?_⟩,h2⟩;rw[←aU_];exact ca_ (by unfold dg at hi;omega)
theorem eJ_{p:List Rat}{n:Nat}(h:isDeg p n):nz p∧dg p=n∧leadP p=coP p n:=by
 have h0:nz p:=fun e=>h.1 (trim_nil_iff.1 e n);obtain⟨h1,h2⟩:=b3_ h0
 have e:dg p=n:=by
  rcases Nat.lt_trichotomy (dg p) n with h3|h3|h3
  exact absurd (h1.2 n h3) h.1;exact h3;exact absurd (h.2 _ h3) h1.1
 grind
theorem lR_{p:List Rat}(h:∀i,coP p i=0)(q:List Rat)(k:Nat):coP (mulL p q) k=0:=by
 induction p generalizing k with
 |nil=>rfl
 |cons a p ih=>
  have ha:a=0:=h 0;rw[mulL,da_,cE_];cases k with
  |zero=>rw[bD_];grind
  |succ k=>rw[bq_,ih fun i=>h (i+1)];grind
theorem lQ_(p q:List Rat):∀(n m:Nat),(∀i,n< i→coP p i=0)→(∀i,m< i→coP q i=0)→coP (mulL p q) (n+m)=coP p n* coP q m∧∀k,n+m< k→coP (mulL p q) k=0:=by
 induction p with
 |nil=>intro n m _ _;exact⟨by show(0:Rat)=0* _;grind,fun _ _=>rfl⟩
 |cons a p ih=>
  intro n m hn hm;cases n with
  |zero=>
   have h0:∀i,coP p i=0:=fun i=>hn (i+1) (by omega)
   have hk:∀k,coP (mulL (a::p) q) k=coP q k* a:=fun k=>by
    rw[mulL,da_,cE_];cases k with
    |zero=>rw[bD_];grind
    |succ k=>rw[bq_,lR_ h0];grind
   refine⟨by rw[Nat.zero_add,hk,bD_];grind,fun k hk'=>?_⟩;grind
  |succ n=>
   obtain⟨h1,h2⟩:=ih n m (fun i hi=>hn (i+1) (by omega)) hm
   have hk:∀k,m< k+1→coP (mulL (a::p) q) (k+1)=coP (mulL p q) k:=fun k h=>by
    rw[mulL,da_,cE_,bq_,hm _ h];grind
   refine⟨by rw[show n+1+m=(n+m)+1 by omega,hk _ (by omega),h1,bq_],fun k hk'=>?_⟩;obtain⟨j,rfl⟩:∃j,k=j+1:=⟨k- 1,by omega⟩;grind
theorem qk_{p q:List Rat}{n m:Nat}(hp:isDeg p n)(hq:isDeg q m):isDeg (mulP p q) (n+m)∧coP (mulP p q) (n+m)=coP p n* coP q m:=by
 obtain⟨h1,h2⟩:=lQ_ p q n m hp.2 hq.2;refine⟨⟨?_,fun i hi=>by rw[gR_];grind⟩,by rw[gR_];grind⟩;rw[gR_];have a:=hp.1;have b:=hq.1;grind
theorem rk_{p q:List Rat}(hp:nz p)(hq:nz q):nz (mulP p q)∧dg (mulP p q)=dg p+dg q∧leadP (mulP p q)=leadP p* leadP q:=by
 obtain⟨a1,a2⟩:=b3_ hp;obtain⟨b1,b2⟩:=b3_ hq;obtain⟨c1,c2⟩:=qk_ a1 b1;obtain⟨d1,d2,d3⟩:=eJ_ c1;grind
theorem dg_mul'{p q r:List Rat}(hp:nz p)(hq:nz q)(h:∀x,evalP r x=evalP p x* evalP q x):nz r∧dg r=dg p+dg q∧leadP r=leadP p* leadP q:=by
 have e:Eqv r (mulP p q):=fun x=>by rw[h,ax_]
 obtain⟨h1,h2,h3⟩:=rk_ hp hq;exact⟨(pZ_ e).2 h1,(dg_eqv e).trans h2,(lead_eqv e).trans h3⟩
theorem dG_{p:List Rat}{k:Rat}(hp:nz p)(hk:k≠0){r:List Rat}(h:∀x,evalP r x=evalP p x* k):nz r∧dg r=dg p∧leadP r=leadP p* k:=by
 have hc:isDeg [k] 0:=⟨hk,fun i hi=>by obtain⟨j,rfl⟩:∃j,i=j+1:=⟨i- 1,by omega⟩;rfl⟩;obtain⟨c1,c2,c3⟩:=eJ_ hc;obtain⟨h1,h2,h3⟩:=dg_mul' hp c1 (r:=r) (fun x=>by show _=_* (0* x+k);grind);exact⟨h1,by omega,by rw[h3,c3];rfl⟩
theorem dg_add{p q r:List Rat}(hp:nz p)(hq:nz q→dg q< dg p)(h:∀x,evalP r x=evalP p x+evalP q x):nz r∧dg r=dg p∧leadP r=leadP p:=by
 have hc:∀i,coP r i=coP p i+coP q i:=fun i=>by
  have:trimQ r=trimQ (addP p q):=c6_ fun x=>by rw[h,bl_]
  rw[trim_iff.1 this i,db_]
 have hq0:∀i,dg p≤i→coP q i=0:=fun i hi=>by
  by_cases hz:nz q;exact(b3_ hz).1.2 i (by have:=hq hz;omega);exact trim_nil_iff.1 (Decidable.byContradiction hz) i
 obtain⟨a1,a2⟩:=b3_ hp;have hd:isDeg r (dg p):=⟨by rw[hc,hq0 _ (Nat.le_refl _)];have:=a1.1;grind,fun i hi=>by rw[hc,hq0 _ (by omega),a1.2 i hi];grind⟩;obtain⟨b1,b2,b3⟩:=eJ_ hd;exact⟨b1,b2,by rw[b3,hc,hq0 _ (Nat.le_refl _),←a2];grind⟩
theorem dC_(p:List Rat){q:List Rat}(hq:nz q):(∀x,evalP p x=evalP (divP p q).1 x* evalP q x+evalP (md p q) x)∧(nz (md p q)→dg (md p q)< dg q):=by
 obtain⟨h1,h2⟩:=ff_ p q hq;refine⟨fun x=>(h1 x).symm,fun h=>?_⟩;have:=List.length_pos_iff.2 h;unfold md at *
 unfold dg;omega
theorem ib_{p q u v:List Rat}(hq:nz q)(h:∀x,evalP p x=evalP u x* evalP q x+evalP v x)(hv:nz v→dg v< dg q):Eqv (md p q) v:=by
 obtain⟨h1,h2⟩:=dC_ p hq;by_cases hw:nz (subP u (divP p q).1)
 obtain⟨c1,c2,_⟩:=dg_mul' hw hq (r:=subP (md p q) v) (fun x=>by
  rw[a8_,a8_];grind)
 have hz:∀r,(nz r→dg r< dg q)→∀i,dg q≤i→coP r i=0:=fun r hr i hi=>by
  by_cases hz:nz r;exact(b3_ hz).1.2 i (by grind);exact trim_nil_iff.1 (Decidable.byContradiction hz) i
 have:=(b3_ c1).1.1;rw[ei_] at this;grind;intro x;have:=cR_ hw x;rw[a8_] at this;grind
end Go.Abs
