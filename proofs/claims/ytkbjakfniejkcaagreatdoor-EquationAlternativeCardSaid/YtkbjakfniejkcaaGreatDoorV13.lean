/- Part V13 of the proof. -/
import Derived.Test.YtkbjakfniejkcaaGreatDoorV12
set_option linter.all false
namespace Go.Abs
abbrev plA(c:Cnt)(i:Int):AV:= .aptr [[kA c,i64 i]] 0 0
theorem dB(c:Cnt)(i:Int):Closed (plA c i):=bq (ac (fv c) (ac (ag _) af))
def plC(c:Cnt)(i:Int)(x:Rat):Int:=if i< ca c x then -1 else if ca c x=i/\ca c x< cD c x then 0 else 1
theorem ya{c:Cnt}{x:Rat}(h:xf c): -274877906945<=ca c x/\ca c x<=274877906944:=by
 have:=k8 (x:=x) h;unfold ca;split <;> omega
def biM(c:Cnt)(i:Int)(step:Rat):Nat->Rat->Rat->Option Rat
 |0,_,_=>none
 |f+1,lo,hi=>
  if sm lo/\sm hi/\sm (hi- lo) then
   if 0< fi (hi- lo) 1 then
    if qs (((lo+hi) / 2).floor:Rat)+qs step<=549755813888/\nI c ((((lo+hi) / 2).floor:Rat) * step) then
     if 0<=plC c i ((((lo+hi) / 2).floor:Rat) * step) then biM c i step f (((lo+hi) / 2).floor:Rat) hi
     else biM c i step f lo (((lo+hi) / 2).floor:Rat)
    else none
   else some lo
  else none

section
variable {p q:Lq}
theorem ue(i:Nat):coP [] i=0:=rfl
theorem dA(a:Rat)(l:Lq):coP (a::l) 0=a:=rfl
theorem df(a:Rat)(l:Lq)(i:Nat):coP (a::l) (i+1)=coP l i:=rfl
theorem bv(l:Lq)(i:Nat):coP (ao l) i=coP l i:=by
 induction l generalizing i with
 |nil=>rfl
 |cons a l b=>
  rw[eI];split
  ·rename_i h
   have c:∀j,coP l j=0:=fun j=>by rw[<-b j,h];rfl
   split
   ·rename_i ha
    cases i with
    |zero=>rw[ha];rfl
    |succ i=>rw[df,c];rfl
   cases i with
   |zero=>rfl
   |succ i=>rw[df,df,c];rfl
  cases i with
  |zero=>rfl
  |succ i=>rw[df,df,b]
theorem uc(n:Nat)(f:Nat->Rat)(i:Nat):coP (aN n f) i=if i< n then f i else 0:=by
 unfold coP aN;grind
theorem iB(p q:Lq)(i:Nat):coP (fQ p q) i=coP p i+coP q i:=by
 unfold fQ;rw[bv,uc];split;rfl
 ·rw[eH (by omega),eH (by omega)];grind
theorem cy(p:Lq)(k:Rat)(i:Nat):coP (ba p k) i=coP p i* k:=by
 unfold ba;rw[bv,uc];split;rfl
 ·rw[eH (by omega)];grind
theorem ff(p q:Lq)(i:Nat):coP (eg p q) i=coP p i- coP q i:=by
 unfold eg;rw[iB,cy];grind
theorem sJ(a:Rat)(i:Nat):coP (eJ a) i=if i=0 then a else 0:=by
 unfold eJ;rw[bv];cases i <;> rfl
theorem fh(p:Lq)(i:Nat):coP (bi p) i=coP p (i+1) * ((i+1:Nat):Int):=by
 unfold bi;rw[bv,uc];split;rfl
 ·rw[eH (by omega)];grind
theorem fg(p:Lq)(i:Nat):coP (aH p) i=if i=0 then 0 else coP p (i- 1) / ((i:Nat):Int):=by
 unfold aH;rw[bv,uc];split;rfl
 ·rw[if_neg (by omega),eH (by omega),Rat.div_def,Rat.zero_mul]
theorem pO(h:∀i,coP p i=coP q i):ao p=ao q:=by
 induction p generalizing q with
 |nil=>
  induction q with
  |nil=>rfl
  |cons b q c=>
   have hb:b=0:=(h 0).symm;rw[eI,<-c fun i=>h (i+1),if_pos hb];rfl
 |cons a p c=>
  cases q with
  |nil=>
   have ha:a=0:=h 0;rw[eI,c (q:=[]) fun i=>h (i+1),if_pos ha];rfl
  |cons b q=>
   have d:a=b:=h 0;rw[eI,eI,c (q:=q) fun i=>h (i+1),d]
theorem trim_iff:ao p=ao q↔∀i,coP p i=coP q i:=
 ⟨fun h i=>by rw[<-bv p,h,bv],pO⟩
theorem trim_nil_iff:ao p=[]↔∀i,coP p i=0:=
 ⟨fun h i=>by rw[<-bv p,h];rfl,fun h=>pO (q:=[]) h⟩
theorem aV(x:Rat):ak [] x=0:=rfl
theorem aO(a:Rat)(l:Lq)(x:Rat):ak (a::l) x=ak l x* x+a:=rfl
theorem mw(h:∀i,coP p i=0)(x:Rat):ak p x=0:=by
 induction p with
 |nil=>rfl
 |cons a p b=>
  have ha:a=0:=h 0;rw[aO,b fun i=>h (i+1)];grind
theorem dZ(h:∀i,coP p i=coP q i)(x:Rat):ak p x=ak q x:=by
 induction p generalizing q with
 |nil=>exact(mw (fun i=>(h i).symm) x).symm
 |cons a p d=>
  cases q with
  |nil=>exact mw h x
  |cons b q=>
   have c:a=b:=h 0;rw[aO,aO,d (q:=q) fun i=>h (i+1),c]
theorem cP(p:Lq)(x:Rat):ak (ao p) x=ak p x:=dZ (bv p) x
def pK:Lq->Lq->Lq
 |[],q=>q
 |p,[]=>p
 |a::p,b::q=>(a+b)::pK p q
def kV(p:Lq)(k:Rat):Lq:=p.map (· * k)
def nM:Lq->Lq->Lq
 |[],_=>[]
 |a::p,q=>pK (kV q a) (0::nM p q)
theorem jo(p q:Lq)(i:Nat):coP (pK p q) i=coP p i+coP q i:=by
 induction p generalizing q i with
 |nil=>rw[pK,ue];grind
 |cons a p c=>
  cases q with
  |nil=>rw[pK,ue]; · grind
        grind
  |cons b q=>
   cases i with
   |zero=>rfl
   |succ i=>exact c q i
theorem gS(p:Lq)(k:Rat)(i:Nat):coP (kV p k) i=coP p i* k:=by
 induction p generalizing i with
 |nil=>show(0:Rat)=0* k;grind
 |cons a p b=>
  cases i with
  |zero=>rfl
  |succ i=>exact b i
theorem mA(p q:Lq)(x:Rat):ak (pK p q) x=ak p x+ak q x:=by
 induction p generalizing q with
 |nil=>rw[pK,aV];grind
 |cons a p c=>
  cases q with
  |nil=>rw[pK,aV]; · grind
        grind
  |cons b q=>rw[pK,aO,aO,aO];grind
theorem jJ(p:Lq)(k x:Rat):ak (kV p k) x=ak p x* k:=by
 induction p with
 |nil=>show(0:Rat)=0* k;grind
 |cons a p b=>show ak (kV p k) x* x+a* k=_;rw[aO];grind
theorem pz(p q:Lq)(x:Rat):ak (nM p q) x=ak p x* ak q x:=by
 induction p with
 |nil=>show(0:Rat)=0* _;grind
 |cons a p b=>rw[nM,mA,jJ,aO,aO];grind
theorem eW(p q:Lq)(x:Rat):ak (fQ p q) x=ak p x+ak q x:=by
 rw[<-mA];exact dZ (fun i=>by rw[iB,jo]) x
theorem bG(p:Lq)(k x:Rat):ak (ba p k) x=ak p x* k:=by
 rw[<-jJ];exact dZ (fun i=>by rw[cy,gS]) x
theorem dp(p q:Lq)(x:Rat):ak (eg p q) x=ak p x- ak q x:=by
 unfold eg;rw[eW,bG];grind
theorem BM(a x:Rat):ak (eJ a) x=a:=by
 rw[eJ,cP];show 0* x+a=a;grind
def ky(p q:Lq):Nat->Nat->Rat
 |0,_=>0
 |i+1,n=>ky p q i n+(if i<=n then coP p i* coP q (n- i) else 0)
theorem BZ(o:Lq)(a:Rat)(q:Lq)(i:Nat)(h:∀k,k< q.length->i+k< o.length):∀k n,k<=q.length->coP (j2 o a q i k) n=coP o n+(if i<=n/\n< i+k then a* coP q (n- i) else 0)
 |0,n,_=>by show coP o n=_;grind
 |k+1,n,hk=>by
  rw[j2,sK,AD];by_cases hn:n=i+k;subst hn;rw[if_pos ⟨rfl,h k (by omega)⟩,uN o a q i k (i+k) (by omega),if_pos (by omega),show i+k- i=k by omega];rw[BZ o a q i h k n (by omega)];grind
theorem B2(p q:Lq)(n:Nat):∀i,i<=p.length->coP (e9 p q i) n=ky p q i n
 |0,_=>by
  show coP (List.replicate _ 0) n=0;unfold coP;grind
 |i+1,hi=>by
  have a:=B2 p q n i (by omega);rw[e9,ky];split
  ·grind
  rw[BZ _ _ _ _ (fun k b=>by rw[nJ];omega) _ _ (Nat.le_refl _),a];by_cases h1:i<=n;rw[if_pos h1];by_cases h2:n< i+q.length;rw[if_pos ⟨h1,h2⟩];rw[eH (p:=q) (by omega)];grind;grind
theorem vW(a:Rat)(p q:Lq)(n:Nat):∀i,ky (a::p) q (i+1) n=a* coP q n+(match n with|0=>0|m+1=>ky p q i m)
 |0=>by
  show(0:Rat)+(if 0<=n then coP (a::p) 0* coP q (n- 0) else 0)=_;rw[dA];cases n <;> simp[ky,Rat.add_zero,Rat.zero_add]
 |i+1=>by
  rw[ky,vW a p q n i];cases n with
  |zero=>grind
  |succ m=>
   show a* coP q (m+1)+ky p q i m+_=a* coP q (m+1)+(ky p q i m+_);by_cases h:i<=m;rw[df];grind;grind
theorem vZ(p q:Lq)(n:Nat):coP (nM p q) n=ky p q p.length n:=by
 induction p generalizing n with
 |nil=>rfl
 |cons a p b=>
  rw[nM,jo,gS,List.length_cons,vW];cases n with
  |zero=>rw[dA];grind
  |succ m=>rw[df];grind
theorem oV(p q:Lq)(n:Nat):coP (aK p q) n=coP (nM p q) n:=by
 unfold aK;split
 ·rename_i h
  rcases h with rfl|rfl
  rfl;rw[vZ]
  have:∀i,ky p [] i n=0:=by
   intro i
   induction i with
   |zero=>rfl
   |succ i a=>rw[ky,ue];grind
  rw[this];rfl
 rw[bv,B2 _ _ _ _ (Nat.le_refl _),vZ]
theorem a6(p q:Lq)(x:Rat):ak (aK p q) x=ak p x* ak q x:=by
 rw[<-pz];exact dZ (oV p q) x
def F9:Lq->Rat->Lq
 |[],_=>[]
 |[_],_=>[]
 |_::b::l,r=>ak (b::l) r::F9 (b::l) r
theorem wV(p:Lq)(r x:Rat):ak p x=ak (F9 p r) x* (x- r)+ak p r:=by
 induction p with
 |nil=>show(0:Rat)=0* _+0;grind
 |cons a l c=>
  cases l with
  |nil=>show 0* x+a=0* (x- r)+(0* r+a);grind
  |cons b l=>
   rw[F9,aO a,aO a,aO (ak (b::l) r)];grind
theorem HH(p:Lq)(r:Rat):(F9 p r).length=p.length- 1:=by
 induction p with
 |nil=>rfl
 |cons a l c=>
  cases l with
  |nil=>rfl
  |cons b l=>rw[F9,List.length_cons,c];simp
theorem uP:∀(n:Nat) (p xs:Lq),p.length<=n->n<=xs.length->xs.Nodup->(∀x∈xs,ak p x=0)->∀x,ak p x=0
 |0,p,_,hp,_,_,_,x=>by
  have:p=[]:=List.length_eq_zero_iff.1 (by omega);rw[this];rfl
 |n+1,p,xs,hp,hx,hnd,hz,x=>by
  cases xs with
  |nil=>grind
  |cons r xs=>
   rw[List.nodup_cons] at hnd;have c:=hz r (List.mem_cons_self ..)
   have a:=uP n (F9 p r) xs (by rw[HH];omega) (by grind) hnd.2 fun y b=>by
    have d:=wV p r y;grind
   rw[wV p r x];grind
theorem zF(h:∀x,ak p x=0):∀i,coP p i=0:=by
 induction p with
 |nil=>intro i;rfl
 |cons a p c=>
  have ha:a=0:=by
   have:=h 0;rw[aO] at this;grind
  have hp:∀x,ak p x=0:=by
   -- at all places but 0,so at all
   refine uP p.length p ((List.range p.length).map fun i=>(((i+1:Nat):Int):Rat)) (Nat.le_refl _) (by simp) ?_ ?_;refine List.Pairwise.map _ (fun i j g=>?_) List.nodup_range;intro e;have:=Rat.intCast_inj.1 e;omega;intro x k;obtain⟨i,_,rfl⟩:=List.mem_map.1 k;have f:=h (((i+1:Nat):Int):Rat);rw[aO] at f;have d:ak p (((i+1:Nat):Int):Rat) * (((i+1:Nat):Int):Rat)=0:=by grind
   rcases Rat.mul_eq_zero.1 d with b|b
   exact b;have:=Rat.intCast_inj.1 (b.trans Rat.intCast_zero.symm);omega
  intro i;cases i with
  |zero=>exact ha
  |succ i=>exact c hp i
theorem iw(h:∀x,ak p x=ak q x):ao p=ao q:=by
 refine pO fun i=>?_;have:=zF (p:=eg p q) (fun x=>by rw[dp];grind) i;rw[ff] at this;grind
end
theorem xi(p q:Lq)(hp:p≠[]):(aK p q).length<=p.length+q.length- 1:=by
 unfold aK;split;simp;have:=bR (e9 p q p.length);rwa[nJ] at this
theorem vL(a x:Rat):ak [-a,1] x=x- a:=by
 show(0* x+1) * x+ -a=x- a;grind
theorem lb{p:Lq}{k:Rat}{s t:Nat}(hp:bdL p s)(hs:1<=s)(hk:qs k<=t):bdL (ba p k) (s+t):=
 k6 fun i=>by
  rw[cy];have a:=dw (coP p i) k;have b:=eM hp hs i;omega
theorem F0{p q:Lq}{s t:Nat}(hp:bdL p s)(hq:bdL q t)(hs:1<=s)(ht:1<=t):bdL (fQ p q) (s+t+1):=
 k6 fun i=>by
  rw[iB];have a:=gx (coP p i) (coP q i);have b:=eM hp hs i;have c:=eM hq ht i;omega
def dvE:Lq->Rat->Rat
 |[],_=>0
 |_::l,x=>ak l x+dvE l x* x
theorem eG(a:Rat)(l:Lq)(x:Rat):dvE (a::l) x=ak l x+dvE l x* x:=rfl
theorem BS{p:Lq}(h:∀i,coP p i=0)(x:Rat):dvE p x=0:=by
 induction p with
 |nil=>rfl
 |cons a p b=>rw[eG,b fun i=>h (i+1),mw fun i=>h (i+1)];grind
theorem FL{p q:Lq}(h:∀i,coP p i=coP q i)(x:Rat):dvE p x=dvE q x:=by
 induction p generalizing q with
 |nil=>exact(BS (fun i=>(h i).symm) x).symm
 |cons a p c=>
  cases q with
  |nil=>exact BS h x
  |cons b q=>rw[eG,eG,c (q:=q) fun i=>h (i+1),dZ (q:=q) fun i=>h (i+1)]
theorem JI(p q:Lq)(x:Rat):dvE (pK p q) x=dvE p x+dvE q x:=by
 induction p generalizing q with
 |nil=>show dvE q x=0+dvE q x;grind
 |cons a p c=>
  cases q with
  |nil=>rw[pK]; · show _=_+(0:Rat);grind
        grind
  |cons b q=>rw[pK,eG,eG,eG,mA];grind
theorem vP(p:Lq)(k x:Rat):dvE (kV p k) x=dvE p x* k:=by
 induction p with
 |nil=>show(0:Rat)=0* k;grind
 |cons a p b=>show ak (kV p k) x+dvE (kV p k) x* x=_;rw[eG,jJ];grind
theorem JG(p q:Lq)(x:Rat):dvE (nM p q) x=dvE p x* ak q x+ak p x* dvE q x:=by
 induction p with
 |nil=>show(0:Rat)=0* _+0* _;grind
 |cons a p b=>rw[nM,JI,vP,eG,eG,pz,aO];grind
def zV:Lq->Lq
 |[]=>[]
 |_::l=>pK l (0::zV l)
theorem my(p:Lq)(x:Rat):ak (zV p) x=dvE p x:=by
 induction p with
 |nil=>rfl
 |cons a p b=>rw[zV,mA,aO,eG];grind
theorem JV(p:Lq)(i:Nat):coP (zV p) i=coP p (i+1) * ((i+1:Nat):Int):=by
 induction p generalizing i with
 |nil=>show(0:Rat)=0* _;grind
 |cons a p b=>
  rw[zV,jo,df];cases i with
  |zero=>rw[dA];grind
  |succ i=>rw[df];grind
theorem cQ(p:Lq)(x:Rat):ak (bi p) x=dvE p x:=by
 rw[<-my];exact dZ (fun i=>by rw[fh,JV]) x
theorem oR(p q:Lq)(x:Rat):dvE (aK p q) x=dvE p x* ak q x+ak p x* dvE q x:=by
 rw[<-JG];exact FL (oV p q) x
theorem xM(o:Lq)(x v:Rat):∀j,j< o.length->ak (o.set j v) x=ak o x+(v- coP o j) * x^ j:=by
 induction o with
 |nil=>grind
 |cons a o b=>
  intro j h;cases j with
  |zero=>rw[List.set_cons_zero,aO,aO,dA];grind
  |succ j=>rw[List.set_cons_succ,aO,aO,df];grind
theorem DY(q:Lq)(x:Rat)(m:Nat)(h:m< q.length):ak (q.take (m+1)) x=ak (q.take m) x+coP q m* x^ m:=by
 induction q generalizing m with
 |nil=>cases h
 |cons a q b=>
  cases m with
  |zero=>rw[List.take_succ_cons,Rat.pow_zero];show 0* x+a=0+a* 1;grind
  |succ m=>rw[List.take_succ_cons,List.take_succ_cons,aO,aO,df];grind
theorem tc(x:Rat)(n:Nat):∀m,x^ (n+m)=x^ n* x^ m
 :=by grind
theorem vK(o:Lq)(k:Rat)(q:Lq)(n:Nat)(x:Rat)(h:n+q.length<=o.length):∀m,m<=q.length->ak (fE o k q n m) x=ak o x- k* x^ n* ak (q.take m) x
 |0,_=>by rw[fE];show _=_- _* 0;grind
 |m+1,hm=>by
  rw[fE,Ar,xM _ _ _ _ (by rw[gV];omega),vK o k q n x h m (by omega),DY q x m (by omega)];grind
theorem JS(o:Lq)(k:Rat)(q:Lq)(n m:Nat)(hm:m< q.length)(h:n+q.length<=o.length):coP (fE o k q n q.length) (n+m)=coP o (n+m)- k* coP q m:=by
 have:∀j,m< j->j<=q.length->coP (fE o k q n j) (n+m)=coP o (n+m)- k* coP q m:=by
  intro j
  induction j with
  |zero=>grind
  |succ j a=>
   intro c b;rw[fE,oU];by_cases e:m=j;subst e;rw[if_pos ⟨rfl,by rw[gV];omega⟩,nB o k q n m (n+m) (by omega)];grind
 grind
theorem xR(q:Lq)(lead:Rat)(hq:q≠[])(hl:coP q (q.length- 1)=lead)(hl0:lead≠0)(x:Rat):∀c u o,(∀i,i< c->coP u i=0)->c<=u.length->c+q.length<=o.length+1->(∀j,c+q.length- 1<=j->coP o j=0)->
    ak (kx q lead c u o).1 x* ak q x+ak (kx q lead c u o).2 x=ak u x* ak q x+ak o x/\∀j,q.length- 1<=j->coP (kx q lead c u o).2 j=0
 |0,u,o,_,_,_,h4=>⟨rfl,fun j f=>h4 j (by omega)⟩
 |n+1,u,o,h1,h2,h3,h4=>by
  have b:=List.length_pos_iff.2 hq;rw[kx];obtain⟨k,d⟩:∃k,k=coP o (n+q.length- 1) / lead:=⟨_,rfl⟩;rw[<-d];have a:k* lead=coP o (n+q.length- 1):=by grind
  have g:coP u n=0:=h1 n (by omega)
  have e:ak (if k=0 then o else fE o k q n q.length) x=ak o x- k* x^ n* ak q x:=by
   by_cases h0:k=0;rw[if_pos h0,h0];grind;rw[if_neg h0,vK o k q n x (by omega) _ (Nat.le_refl _),List.take_length]
  obtain⟨e1,e2⟩:=xR q lead hq hl hl0 x n (u.set n k) (if k=0 then o else fE o k q n q.length) (fun i h=>by
   rw[ud,if_neg (by omega)];grind) (by grind) (by split <;>(try simp)<;> omega) (fun j f=>by
   by_cases h0:k=0;rw[if_pos h0];by_cases hj':j=n+q.length- 1;rw[hj',<-a,h0];grind;exact h4 j (by omega);rw[if_neg h0];by_cases hj':j=n+q.length- 1;have:=JS o k q n (q.length- 1) (by omega) (by omega);rw[hj',show n+q.length- 1=n+(q.length- 1) by omega,this,hl,a,show n+(q.length- 1)=n+q.length- 1 by omega];grind;rw[nB o k q n q.length j (by omega)];grind)
  refine⟨?_,e2⟩;rw[e1,e,xM u x k n (by omega),g];grind
theorem yl{p:Lq}{n:Nat}(h:∀j,n<=j->coP p j=0):(ao p).length<=n:=by
 apply Nat.le_of_not_lt;intro d;have c:=dn (l:=p) (n:=(ao p).length- 1) (by omega);have b:ao p≠[]:=fun e=>by grind
 have a:=h ((ao p).length- 1) (by omega);rw[<-bv] at a;unfold coP at a;rw[List.getD_eq_getElem?_getD,c] at a;exact dd b a
theorem oT(p q:Lq)(hq:ao q≠[]):(∀x,ak (dq p q).1 x* ak q x+ak (dq p q).2 x=ak p x)/\(ao (dq p q).2).length< (ao q).length:=by
 have b:=List.length_pos_iff.2 hq
 have d:coP (ao q) ((ao q).length- 1)=aM q:=by
  have:=dn (l:=q) (n:=(ao q).length- 1) (by omega);unfold coP;grind
 have c:∀i m,coP (List.replicate m 0) i=0:=fun i m=>by
  unfold coP;grind
 have a:=fun x (h:(ao q).length<=(ao p).length+1)=>xR (ao q) (aM q) hq d (dd hq) x ((ao p).length+1- (ao q).length) (List.replicate ((ao p).length+1- (ao q).length) 0) (ao p)
  (fun i _=>c i _) (by simp) (by omega) (fun j f=>eH (by omega))
 by_cases h:(ao q).length<=(ao p).length+1;refine⟨fun x=>?_,?_⟩;have e:=(a x h).1;unfold dq;rw[cP,cP,<-cP q,e,mw (fun i=>c i _),cP p];grind;have e:=(a 0 h).2;unfold dq;rw[cw];have:=yl e;omega;unfold dq;rw[show(ao p).length+1- (ao q).length=0 by omega];refine⟨fun x=>?_,?_⟩;rw[kx,cP,cP,cP];show 0* _+_=_;grind;rw[kx,cw,cw];omega
section
variable (p q r:Lq)(a b:Rat)
end
def ab(x:Rat):Rat:=if x< 0 then -x else x
theorem gi(x:Rat):0<=ab x:=by unfold ab;grind
theorem ab_le{x c:Rat}:ab x<=c↔ -c<=x/\x<=c:=by unfold ab;grind
theorem sT(x y:Rat):ab (x+y)<=ab x+ab y:=by unfold ab;grind
theorem Es(x:Rat):ab (-x)=ab x:=by unfold ab;grind
theorem fR(x y:Rat):ab (x* y)=ab x* ab y:=by
 have c:∀a b:Rat,0<=a->0<=b->ab (a* b)=a* b:=fun a b ha hb=>by
  have:=Rat.mul_nonneg ha hb;unfold ab;grind
 by_cases hx:x< 0;by_cases hy:y< 0;have:=c (-x) (-y) (by grind) (by grind);rw[show x* y= -x* -y by grind,this];unfold ab;rw[if_pos hx,if_pos hy];have:=c (-x) y (by grind) (by grind);rw[show x* y= -(-x* y) by grind,Es,this];unfold ab;rw[if_pos hx,if_neg hy];by_cases hy:y< 0;have:=c x (-y) (by grind) (by grind);rw[show x* y= -(x* -y) by grind,Es,this];unfold ab;rw[if_neg hx,if_pos hy];have:=c x y (by grind) (by grind);rw[this];unfold ab;grind
theorem gE{a b c d:Rat}(h1:a<=b)(h2:c<=d)(h3:0<=c)(h4:0<=b):a* c<=b* d:=by
 have e1:=Rat.mul_le_mul_of_nonneg_right h1 h3;have e2:=Rat.mul_le_mul_of_nonneg_left h2 h4;grind
def bV(R:Rat):Lq->Rat
 |[]=>0
 |a::l=>bV R l* R+ab a
theorem ru{R:Rat}(hR:0<=R):∀l,0<=bV R l
 |[]=>by simp[bV]
 |a::l=>by
  have b:=Rat.mul_nonneg (ru hR l) hR;have c:=gi a;rw[bV];grind
theorem jl{R x:Rat}(hR:0<=R)(hx:ab x<=R):∀l,ab (ak l x)<=bV R l
 |[]=>by rw[aV,bV];decide
 |a::l=>by
  have b:=jl hR hx l;have d:=gE b hx (gi x) (ru hR l);have c:=sT (ak l x* x) a;rw[fR] at c;rw[aO,bV];grind
def bL(R:Rat):Lq->Rat
 |[]=>0
 |_::l=>bL R l* R+bV R l
theorem Cm{R:Rat}(hR:0<=R):∀l,0<=bL R l
 |[]=>by simp[bL]
 |a::l=>by
  have b:=Rat.mul_nonneg (Cm hR l) hR;have c:=ru hR l;rw[bL];grind
theorem oQ{R x y:Rat}(hR:0<=R)(hx:ab x<=R)(hy:ab y<=R):∀l,ab (ak l y- ak l x)<=bL R l* ab (y- x)
 |[]=>by
  rw[aV,aV,bL,Rat.zero_mul];decide+kernel
 |a::l=>by
  have d:=oQ hR hx hy l;have c:=jl hR hx l;have e:ak (a::l) y- ak (a::l) x=(ak l y- ak l x) * y+ak l x* (y- x):=by rw[aO,aO];grind
  have f:=sT ((ak l y- ak l x) * y) (ak l x* (y- x));rw[fR,fR] at f;have b:=gi (y- x);have g:=gE d hy (gi y) (Rat.mul_nonneg (Cm hR l) b);have h:=Rat.mul_le_mul_of_nonneg_right c b;rw[bL];grind
def bT(R:Rat):Lq->Rat
 |[]=>0
 |_::l=>bT R l* R+bL R l
theorem FZ{R:Rat}(hR:0<=R):∀l,0<=bT R l
 |[]=>by simp[bT]
 |a::l=>by
  have b:=Rat.mul_nonneg (FZ hR l) hR;have c:=Cm hR l;rw[bT];grind
theorem sC{R x y:Rat}(hR:0<=R)(hx:ab x<=R)(hy:ab y<=R):∀l,ab (ak l y- ak l x- (y- x) * dvE l x)<=bT R l* (ab (y- x) * ab (y- x))
 |[]=>by
  rw[aV,aV,bT,show dvE [] x=0 from rfl,Rat.zero_mul,Rat.mul_zero];decide+kernel
 |a::l=>by
  have d:=sC hR hx hy l;have c:=oQ hR hx hy l;have e:ak (a::l) y- ak (a::l) x- (y- x) * dvE (a::l) x=(ak l y- ak l x- (y- x) * dvE l x) * x+(ak l y- ak l x) * (y- x):=by rw[aO,aO,eG];grind
  have f:=sT ((ak l y- ak l x- (y- x) * dvE l x) * x) ((ak l y- ak l x) * (y- x));rw[fR,fR] at f;have b:=gi (y- x);have g:=gE d hx (gi x) (Rat.mul_nonneg (FZ hR l) (Rat.mul_nonneg b b));have h:=Rat.mul_le_mul_of_nonneg_right c b;rw[e,bT];grind
inductive Gsn:Int->List Int->List Int->Prop
 |nil {t:Int}:Gsn t [] []
 |solid {t s:Int} {l l':List Int}:s≠0->Gsn s l l'->Gsn t (s::l) (s::l')
 |weak {t x y:Int} {l l':List Int}:(x=0\/x=t\/x= -t)->(y=0\/y=t\/y= -t)->Gsn (-t) l l'->Gsn t (x:: -t::l) (y:: -t::l')
theorem rk:∀(l:List Int) (n t:Int),chL l n t=n+chL l 0 t
 |[],n,t=>by simp[chL]
 |s::l,n,t=>by
  unfold chL;by_cases hs:s≠0;rw[if_pos hs,if_pos hs,rk l (if s= -t then n+1 else n),rk l (if s= -t then 0+1 else 0)];split <;> omega;rw[if_neg hs,if_neg hs];exact rk l n t
theorem B6{t x:Int}(ht:t≠0)(hx:x=0\/x=t\/x= -t)(l:List Int)(n:Int):chL (x:: -t::l) n t=chL l (n+1) (-t):=by
 rcases hx with rfl|rfl|rfl
 rw[chL,if_neg (by simp),chL,if_pos (by omega),if_pos rfl];rw[chL,if_pos ht,if_neg (by omega),chL,if_pos (by omega),if_pos rfl];rw[chL,if_pos (by omega),if_pos rfl,chL,if_pos (by omega),if_neg (by omega)]
theorem wj{t:Int}{l l':List Int}(h:Gsn t l l'):t≠0->∀n,chL l n t=chL l' n t:=by
 induction h with
 |nil=>exact fun _ _=>rfl
 |solid hs _ a=>
  intro b n;rw[chL,if_pos hs,chL,if_pos hs];exact a hs _
 |weak d c _ a=>
  intro b n;rw[B6 b d,B6 b c];exact a (by omega) _
theorem wh{s:Int}{l l':List Int}(hs:s≠0)(h:Gsn s l l'):chL (s::l) 0 0=chL (s::l') 0 0:=by
 rw[chL,if_pos hs,chL,if_pos hs];exact wj h hs _
theorem B8{s s' t:Int}{l l':List Int}(ht:t=1\/t= -1)(hs: -1<=s/\s<=1)(hs': -1<=s'/\s'<=1)(hm:t* s<=t* s')(h:Gsn t l l'):chL (s'::t::l') 0 0<=chL (s::t::l) 0 0:=by
 have a:t≠0:=by omega
 have b:∀(u:Int) (k:List Int),-1<=u/\u<=1->chL (u::t::k) 0 0=(if u= -t then 1 else 0)+chL k 0 t:=fun u k c=>by
  by_cases h0:u=0;subst h0;rw[chL,if_neg (by simp),chL,if_pos a,if_neg (by omega),if_neg (by omega)];omega;rw[chL,if_pos h0,if_neg (by omega),chL,if_pos a,rk];by_cases h1:u= -t;rw[if_pos (by omega),if_pos h1];omega;rw[if_neg (by omega),if_neg h1]
 rw[b s l hs,b s' l' hs',wj h a 0];rcases ht with rfl|rfl <;> split <;> split <;> omega
section
variable {q:Lq}{x:Rat}
theorem num_pos{q:Rat}:0< q.num↔0< q:=by
 have a:0<=q.num↔0<=q:=Rat.num_nonneg;have b:q.num=0↔q=0:=Rat.num_eq_zero;grind
theorem ou(h:0< ak q x):sgE x q=1:=by
 have:=sgZ_num_gt.2 h;have:=ot (ak q x).num;unfold sgE;omega
theorem tC(h:ak q x< 0):sgE x q= -1:=by
 have:=sgZ_num_lt.2 h;have:=ot (ak q x).num;unfold sgE;omega
theorem pV(h:ak q x=0):sgE x q=0:=sgZ_num_eq.2 h
theorem jt(x:Rat)(q:Lq): -1<=sgE x q/\sgE x q<=1:=ot _
theorem dD(x:Rat)(q:Lq):(sgE x q=1/\0< ak q x)\/(sgE x q= -1/\ak q x< 0)\/(sgE x q=0/\ak q x=0):=by
 by_cases h:0< ak q x;exact .inl ⟨ou h,h⟩;by_cases h':ak q x< 0;exact .inr (.inl ⟨tC h',h'⟩);have e:ak q x=0:=by grind
 exact .inr (.inr ⟨pV e,e⟩)
theorem pW{y:Rat}(h:ak q x<=ak q y):sgE x q<=sgE y q:=by
 rcases dD x q with⟨a,b⟩|⟨a,b⟩|⟨a,b⟩
 rw[a,ou (by grind)];decide;have:=jt y q;omega;by_cases h0:0< ak q y;rw[a,ou h0];decide;rw[a,pV (by grind)];decide
theorem part(e:Rat){d:Rat}(he:0< e)(hd:0< d):∃h:Rat,0< h/\h* d=e:=by
 refine⟨e/ d,?_,Rat.div_mul_cancel (by grind)⟩;have e1:e/ d* d=e:=Rat.div_mul_cancel (by grind);by_cases h:0< e/ d;exact h;have a:e/ d* d<=0* d:=Rat.mul_le_mul_of_nonneg_right (by grind) (by grind);grind
theorem less(a b:Rat)(ha:0< a)(hb:0< b):∃h:Rat,0< h/\h<=a/\h<=b:=by grind
theorem keep(u:Lq){R e:Rat}(hR:0<=R)(he:0< e):∃h:Rat,0< h/\∀x y:Rat,ab x<=R->ab y<=R->ab (y- x)<=h->e<=ab (ak u x)->sgE y u=sgE x u/\sgE x u≠0:=by
 have k:=Cm hR u;obtain⟨h,j,n⟩:=part e (d:=2* (bL R u+1)) he (by grind);refine⟨h,j,fun x y l i g ha=>?_⟩;have m:=oQ hR l i u;have p:=Rat.mul_le_mul_of_nonneg_left g k;have o:=ab_le (x:=ak u y- ak u x) (c:=ab (ak u y- ak u x))|>.1 (by grind);rcases dD x u with⟨a,b⟩|⟨a,b⟩|⟨a,b⟩
 have f:ab (ak u x)=ak u x:=by unfold ab;grind
 rw[a,ou (by grind)];decide;have f:ab (ak u x)= -ak u x:=by unfold ab;grind
 rw[a,tC (by grind)];decide;have f:ab (ak u x)=0:=by rw[b];decide
 grind
inductive Ch:Lq->Lw->Prop
 |one {u:Lq} {c:Rat}:c≠0->(∀x,ak u x=c)->Ch u []
 |pair {u v:Lq}:Ch v []->Ch u [v]
 |step {u v w:Lq} {L:Lw} {a c:Rat} {q:Lq}:0< a->0< c->(∀x,a* ak u x+c* ak w x=ak q x* ak v x)->Ch v (w::L)->Ch u (v::w::L)
def Cl(u:Lq)(L:Lw):Prop:=∀R e:Rat,0<=R->0< e->∃h:Rat,0< h/\∀x y:Rat,ab x<=R->ab y<=R->ab (y- x)<=h->e<=ab (ak u x)->
 sgE y u=sgE x u/\sgE x u≠0/\Gsn (sgE x u) (L.map (sgE x)) (L.map (sgE y))
theorem Ch.const{v:Lq}(h:Ch v []):∃c:Rat,c≠0/\∀x,ak v x=c:=by
 cases h with
 |one a h=>simp_all
theorem Ch.sg{v:Lq}(h:Ch v [])(x y:Rat):sgE y v=sgE x v/\sgE x v≠0:=by
 obtain⟨c,d,h⟩:=h.const;have e:sgE y v=sgE x v:=by unfold sgE;grind
 rcases dD x v with⟨a,b⟩|⟨a,b⟩|⟨a,b⟩
 omega;omega;grind
theorem Ch.cl{u:Lq}{L:Lw}(H:Ch u L):Cl u L/\∀v L',L=v::L'->Cl v L':=by
 induction H with
 | @one u c hc o=>
  refine⟨fun R e i r=>?_,fun _ _ h=>by cases h⟩;obtain⟨h,t,j⟩:=keep u i r;exact⟨h,t,fun x y b f n ha=>⟨(j x y b f n ha).1,(j x y b f n ha).2,.nil⟩⟩
 | @pair u v hv ih=>
  refine⟨fun R e i r=>?_,fun _ _ h=>by grind⟩;obtain⟨h,t,j⟩:=keep u i r;refine⟨h,t,fun x y b f n ha=>⟨(j x y b f n ha).1,(j x y b f n ha).2,?_⟩⟩;simp only[List.map_cons,List.map_nil];rw[(hv.sg x y).1];exact .solid (hv.sg x y).2 .nil
 | @step u v w L a c q ha hc hrel hv ih=>
  refine⟨fun R e i r=>?_,fun _ _ h=>by cases h;exact ih.1⟩;have N:=ru i q;have z:=Rat.mul_pos ha r;obtain⟨e1,D,G⟩:=part (a* e) (d:=2* (bV R q+1)) z (by grind);obtain⟨e2,C,F⟩:=part (a* e) (d:=2* c) z (by grind);obtain⟨t,V,O⟩:=keep u i r;obtain⟨j,p1,J⟩:=ih.1 R e1 i D;obtain⟨M,p2,U⟩:=ih.2 w L rfl R e2 i C;obtain⟨S,K,Z,W⟩:=less t j V p1;obtain⟨h,p,l,m⟩:=less S M K p2;refine⟨h,p,fun x y b f n o=>?_⟩;obtain⟨s1,s2⟩:=O x y b f (by grind) o;refine⟨s1,s2,?_⟩;by_cases hvx:e1<=ab (ak v x);obtain⟨t1,t2,s⟩:=J x y b f (by grind) hvx;simp only[List.map_cons] at s⊢;rw[t1];exact .solid t2 s;have b1:=gE (jl i b q) (show ab (ak v x)<=e1 by grind) (gi _) N;rw[<-fR,<-hrel x] at b1;have b2:=ab_le.1 b1;have X:bV R q* e1+e1=a* e/ 2:=by grind
  have k:sgE x w= -sgE x u/\e2<=ab (ak w x):=by
   rcases dD x u with⟨A,B⟩|⟨A,B⟩|⟨A,B⟩
   have E:ab (ak u x)=ak u x:=by unfold ab;rw[if_neg (by grind)]
   rw[E] at o;have Q:=Rat.mul_le_mul_of_nonneg_left o (show 0<=a by grind)
   have T:ak w x<= -e2:=by
    by_cases g:ak w x<= -e2;exact g;have:=Rat.mul_pos hc (show 0< ak w x+e2 by grind);grind
   refine⟨by rw[A,tC (by grind)],?_⟩;unfold ab;rw[if_pos (by grind)];grind;have E:ab (ak u x)= -ak u x:=by unfold ab;rw[if_pos B]
   rw[E] at o;have Q:=Rat.mul_le_mul_of_nonneg_left o (show 0<=a by grind)
   have T:e2<=ak w x:=by
    by_cases g:e2<=ak w x;exact g;have:=Rat.mul_pos hc (show 0< e2- ak w x by grind);grind
   refine⟨by rw[A,ou (by grind)];decide,?_⟩;unfold ab;rw[if_neg (by grind)];grind;exact absurd A s2
  obtain⟨t1,t2,s⟩:=U x y b f (by grind) k.2;simp only[List.map_cons];rw[t1,k.1];rw[k.1] at s;have Y:=jt x u;have c2:=jt x v;have c3:=jt y v;exact .weak (by omega) (by omega) s
theorem Ch.bez{u:Lq}{M:Lw}(H:Ch u M):∀v L,M=v::L->∃a b:Lq,∀x,ak a x* ak u x+ak b x* ak v x=1:=by
 induction H with
 |one e i=>grind
 | @pair u v hv ih=>
  intro f L h;cases h;obtain⟨c,e,h⟩:=hv.const;refine⟨[],[1/ c],fun x=>?_⟩;rw[aO,aV];grind
 | @step u v w L a c q ha e hrel hv ih=>
  intro f j h;obtain⟨g,d,h⟩:=ih w L rfl;refine⟨ba d (-(a/ c)),fQ g (ba (aK d q) (1/ c)),fun x=>?_⟩;rw[bG,eW,bG,a6];grind
end
section
variable {h x y v e k:Rat}
theorem arch(c:Rat)(hh:0< h):∃n:Nat,c<=((n:Int):Rat) * h:=by
 by_cases hc:c<=0;exact⟨0,by grind⟩;obtain⟨k,a,e⟩:=part c (d:=h) (by grind) hh
 have b:k<=((k.num.natAbs:Int):Rat):=by
  have i:0< k.num:=num_pos.2 a;rw[Rat.le_iff];show k.num* 1<=(k.num.natAbs:Int) * (k.den:Int);have f:=Int.mul_le_mul_of_nonneg_left (show(1:Int)<=(k.den:Int) by have:=k.den_pos;omega) (show 0<=k.num by omega);grind
 have g:=Rat.mul_le_mul_of_nonneg_right b (show 0<=h by grind);grind
theorem grid {f:Rat->Int} (r:Int->Int->Prop) (hr:∀a,r a a) (ht:∀a b c,r a b->r b c->r a c) {lo hi h:Rat} (hh:0< h)
    (hs:∀x y,lo<=x->x<=y->y<=hi->y- x<=h->r (f x) (f y)):∀(n:Nat) (x y:Rat),lo<=x->x<=y->y<=hi->y- x<=((n:Int):Rat) * h->r (f x) (f y)
 |0,x,y,h1,h2,h3,h4=>by grind
 |n+1,x,y,h1,h2,h3,h4=>by
  by_cases hd:y- x<=h;exact hs x y h1 h2 h3 hd;exact ht _ _ _ (hs x (x+h) h1 (by grind) (by grind) (by grind)) (grid r hr ht hh hs n (x+h) y (by grind) (by grind) h3 ((by grind)))
theorem way {f:Rat->Int} (r:Int->Int->Prop) (hr:∀a,r a a) (ht:∀a b c,r a b->r b c->r a c) (hh:0< h) (hxy:x<=y)
    (hs:∀u v,x<=u->u<=v->v<=y->v- u<=h->r (f u) (f v)):r (f x) (f y):=by
 obtain⟨n,d⟩:=arch (y- x) hh;exact grid r hr ht hh hs n x y (by grind) hxy (by grind) d
def chV(l:Lw)(x:Rat):Int:=chL (l.map (sgE x)) 0 0
theorem pg{u:Rat}(h1:x<=u)(h2:u<=y):ab u<=ab x+ab y:=by
 have a:=ab_le (x:=x) (c:=ab x)|>.1 (by grind);have b:=ab_le (x:=y) (c:=ab y)|>.1 (by grind);exact ab_le.2 ⟨by grind,by grind⟩
theorem ab_sub{u:Rat}(h1:u<=v)(h2:v- u<=h):ab (v- u)<=h:=by
 unfold ab;grind
theorem Ch.same{u:Lq}{L:Lw}(H:Ch u L)(he:0< e)(hxy:x<=y)(ha:∀z,x<=z->z<=y->e<=ab (ak u z)):chV (u::L) x=chV (u::L) y:=by
 obtain⟨h,j,i⟩:=H.cl.1 (ab x+ab y) e (by have:=gi x;have:=gi y;grind) he;refine way (f:=chV (u::L)) (· = ·) (fun _=>rfl) (fun _ _ _=>Eq.trans) j hxy fun z w a b c d=>?_;obtain⟨s1,s2,g⟩:=i z w (pg a (by grind)) (pg (by grind) c) (ab_sub b d) (ha z a (by grind));unfold chV;simp only[List.map_cons];rw[s1];exact wh s2 g
theorem Ip{T d uz uw D:Rat}(hk:0< k)(h1:k* -T<=k* (uw- uz- d* D))(h2:T* k<=d* e)(h3:d* e<=d* v)(h4:v=k* D):uz<=uw:=by
 subst h4;by_cases h:uz<=uw;exact h;have:=Rat.mul_pos hk (show 0< uz- uw by grind);grind
theorem outweigh'{T d uz uw D:Rat}(hk:0< k)(h1:k* (uw- uz- d* D)<=k* T)(h2:T* k<=d* e)(h3:d* e<=d* -v)(h4:v=k* D):uw<=uz:=by
 subst h4;by_cases h:uw<=uz;exact h;have:=Rat.mul_pos hk (show 0< uw- uz by grind);grind
theorem Ch.fall{u v:Lq}{L:Lw}(H:Ch u (v::L))(hk:0< k)(hd:∀x,ak v x=k* dvE u x)(hxy:x<=y):chV (u::v::L) y<=chV (u::v::L) x:=by
 have g:0<=ab x+ab y:=by have:=gi x;have:=gi y;grind
 generalize n:ab x+ab y=R at g;obtain⟨a,b,hb⟩:=H.bez v L rfl;have Y:=ru g a;have hB:=ru g b;obtain⟨e,M,Z⟩:=part 1 (d:=2* (bV R a+bV R b+1)) (by decide+kernel) (by grind);obtain⟨X,p1,O⟩:=H.cl.1 R e g M;obtain⟨T,p2,k2⟩:=H.cl.2 v L rfl R e g M;have W:=FZ g u;obtain⟨A,Q,e3⟩:=part e (d:=k* (bT R u+1)) M (Rat.mul_pos hk (by grind));obtain⟨V,S,l4,m4⟩:=less X T p1 p2;obtain⟨h,p,l,m⟩:=less V A S Q;refine way (f:=chV (u::v::L)) (fun s t=>t<=s) (fun _=>Int.le_refl _) (fun _ _ _ G N=>Int.le_trans N G) p hxy fun z w G N g3 g4=>?_;have o:ab z<=R:=by rw[<-n];exact pg G (by grind)
 have F:ab w<=R:=by rw[<-n];exact pg (by grind) g3
 have D:ab (w- z)=w- z:=by unfold ab;rw[if_neg (by grind)]
 by_cases hu:e<=ab (ak u z);obtain⟨s1,s2,B⟩:=O z w o F (by grind) hu;refine Int.le_of_eq ?_;unfold chV;simp only[List.map_cons] at B⊢;rw[s1];exact(wh s2 B).symm
 have hv:e<=ab (ak v z):=by
  by_cases hv:e<=ab (ak v z);exact hv;have n1:=gE (jl g o a) (show ab (ak u z)<=e by grind) (gi _) Y;have n2:=gE (jl g o b) (show ab (ak v z)<=e by grind) (gi _) hB;have U:=sT (ak a z* ak u z) (ak b z* ak v z);rw[hb z,fR,fR,show ab 1=1 by decide+kernel] at U;grind
 obtain⟨s1,s2,B⟩:=k2 z w o F (by grind) hv;have i:=sC g o F u;rw[D] at i;have r:=ab_le.1 i;have C:=hd z
 -- the derivative outweighs what leaves the tangent
 have c:bT R u* ((w- z) * (w- z)) * k<=(w- z) * e:=by
  have q1:=Rat.mul_le_mul_of_nonneg_right (show w- z<=A by grind) (show 0<=w- z by grind);have q2:=Rat.mul_le_mul_of_nonneg_left q1 W;have q3:=Rat.mul_le_mul_of_nonneg_right q2 (show 0<=k by grind);have q4:(w- z) * e=bT R u* (A* (w- z)) * k+(w- z) * A* k:=by rw[<-e3];grind
  have q5:=Rat.mul_nonneg (Rat.mul_nonneg (show 0<=w- z by grind) (show 0<=A by grind)) (show 0<=k by grind);grind
 have q:0<=w- z:=by grind
 unfold chV;simp only[List.map_cons];rw[s1];rcases dD z v with⟨j,J⟩|⟨j,J⟩|⟨j,J⟩
 have K:ab (ak v z)=ak v z:=by unfold ab;rw[if_neg (by grind)]
 rw[K] at hv;have E:=Rat.mul_le_mul_of_nonneg_left hv q;have up:ak u z<=ak u w:=Ip hk (Rat.mul_le_mul_of_nonneg_left r.1 (by grind)) c E C;exact B8 (.inl j) (jt z u) (jt w u) (by rw[j];have:=pW up;omega) B;have K:ab (ak v z)= -ak v z:=by unfold ab;rw[if_pos J]
 rw[K] at hv;have E:=Rat.mul_le_mul_of_nonneg_left hv q;have up:ak u w<=ak u z:=outweigh' hk (Rat.mul_le_mul_of_nonneg_left r.2 (by grind)) c E C;exact B8 (.inr j) (jt z u) (jt w u) (by rw[j];have:=pW up;omega) B;exact absurd j s2
end
section
variable {p q:Lq}
def nz(p:Lq):Prop:=ao p≠[]
def dg(p:Lq):Nat:=(ao p).length- 1
def md(p q:Lq):Lq:=(dq p q).2
def Eqv(p q:Lq):Prop:=∀x,ak p x=ak q x
theorem eqv_trim:Eqv p q↔ao p=ao q:=
 ⟨iw,fun h x=>by rw[<-cP p,h,cP]⟩
theorem Db(h:Eqv p q):nz p↔nz q:=by unfold nz;rw[eqv_trim.1 h]
theorem dg_eqv(h:Eqv p q):dg p=dg q:=by unfold dg;rw[eqv_trim.1 h]
theorem IG(h:Eqv p q):aM p=aM q:=by unfold aM;rw[eqv_trim.1 h]
theorem jz(h:¬nz p):∀x,ak p x=0:=fun x=>by
 have:ao p=[]:=by unfold nz at h;grind
 rw[<-cP,this];rfl
def vf(p:Lq)(n:Nat):Prop:=coP p n≠0/\∀i,n< i->coP p i=0
theorem eA(h:nz p):vf p (dg p)/\coP p (dg p)=aM p:=by
 have c:=List.length_pos_iff.2 h;have d:=dn (l:=p) (n:=dg p) (by unfold dg;omega)
 have a:coP p (dg p)=aM p:=by
  rw[<-bv];unfold coP;grind
 refine⟨⟨by rw[a];exact dd h,fun i b=>?_⟩,a⟩;rw[<-bv];exact eH (by unfold dg at b;omega)
theorem li{n:Nat}(h:vf p n):nz p/\dg p=n/\aM p=coP p n:=by
 have c:nz p:=fun e=>h.1 (trim_nil_iff.1 e n);obtain⟨b,d⟩:=eA c
 have e:dg p=n:=by
  rcases Nat.lt_trichotomy (dg p) n with a|a|a
  exact absurd (b.2 n a) h.1;exact a;exact absurd (h.2 _ a) b.1
 grind
theorem Aa(h:∀i,coP p i=0)(q:Lq)(k:Nat):coP (nM p q) k=0:=by
 induction p generalizing k with
 |nil=>rfl
 |cons a p b=>
  have ha:a=0:=h 0;rw[nM,jo,gS];cases k with
  |zero=>rw[dA];grind
  |succ k=>rw[df,b fun i=>h (i+1)];grind
theorem z8(p q:Lq):∀(n m:Nat),(∀i,n< i->coP p i=0)->(∀i,m< i->coP q i=0)->coP (nM p q) (n+m)=coP p n* coP q m/\∀k,n+m< k->coP (nM p q) k=0:=by
 induction p with
 |nil=>intro n m _ _;exact⟨by show(0:Rat)=0* _;grind,fun _ _=>rfl⟩
 |cons a p l=>
  intro n m d e;cases n with
  |zero=>
   have f:∀i,coP p i=0:=fun i=>d (i+1) (by omega)
   have b:∀k,coP (nM (a::p) q) k=coP q k* a:=fun k=>by
    rw[nM,jo,gS];cases k with
    |zero=>rw[dA];grind
    |succ k=>rw[df,Aa f];grind
   refine⟨by rw[Nat.zero_add,b,dA];grind,fun k c=>?_⟩;grind
  |succ n=>
   obtain⟨g,o⟩:=l n m (fun i r=>d (i+1) (by omega)) e
   have b:∀k,m< k+1->coP (nM (a::p) q) (k+1)=coP (nM p q) k:=fun k h=>by
    rw[nM,jo,gS,df,e _ h];grind
   refine⟨by rw[show n+1+m=(n+m)+1 by omega,b _ (by omega),g,df],fun k c=>?_⟩;obtain⟨j,rfl⟩:∃j,k=j+1:=⟨k- 1,by omega⟩;grind
theorem Gt{n m:Nat}(hp:vf p n)(hq:vf q m):vf (aK p q) (n+m)/\coP (aK p q) (n+m)=coP p n* coP q m:=by
 obtain⟨d,c⟩:=z8 p q n m hp.2 hq.2;refine⟨⟨?_,fun i e=>by rw[oV];grind⟩,by rw[oV];grind⟩;rw[oV];have a:=hp.1;have b:=hq.1;grind
theorem JM(hp:nz p)(hq:nz q):nz (aK p q)/\dg (aK p q)=dg p+dg q/\aM (aK p q)=aM p* aM q:=by
 obtain⟨a,e⟩:=eA hp;obtain⟨b1,b2⟩:=eA hq;obtain⟨b,c⟩:=Gt a b1;obtain⟨d1,d2,d⟩:=li b;grind
theorem dg_mul'{r:Lq}(hp:nz p)(hq:nz q)(h:∀x,ak r x=ak p x* ak q x):nz r/\dg r=dg p+dg q/\aM r=aM p* aM q:=by
 have e:Eqv r (aK p q):=fun x=>by rw[h,a6]
 obtain⟨b,a,c⟩:=JM hp hq;exact⟨(Db e).2 b,(dg_eqv e).trans a,(IG e).trans c⟩
theorem jn{k:Rat}(hp:nz p)(hk:k≠0){r:Lq}(h:∀x,ak r x=ak p x* k):nz r/\dg r=dg p/\aM r=aM p* k:=by
 have d:vf [k] 0:=⟨hk,fun i l=>by obtain⟨j,rfl⟩:∃j,i=j+1:=⟨i- 1,by omega⟩;rfl⟩;obtain⟨e,f,a⟩:=li d;obtain⟨b,g,c⟩:=dg_mul' hp e (r:=r) (fun x=>by show _=_* (0* x+k);grind);exact⟨b,by omega,by rw[c,a];rfl⟩
theorem jb(p:Lq)(hq:nz q):(∀x,ak p x=ak (dq p q).1 x* ak q x+ak (md p q) x)/\(nz (md p q)->dg (md p q)< dg q):=by
 obtain⟨a,b⟩:=oT p q hq;refine⟨fun x=>(a x).symm,fun h=>?_⟩;have:=List.length_pos_iff.2 h;unfold md at *
 unfold dg;omega
theorem qv{u v:Lq}(hq:nz q)(h:∀x,ak p x=ak u x* ak q x+ak v x)(hv:nz v->dg v< dg q):Eqv (md p q) v:=by
 obtain⟨f,d⟩:=jb p hq;by_cases hw:nz (eg u (dq p q).1)
 obtain⟨b,c,_⟩:=dg_mul' hw hq (r:=eg (md p q) v) (fun x=>by
  rw[dp,dp];grind)
 have a:∀r,(nz r->dg r< dg q)->∀i,dg q<=i->coP r i=0:=fun r e i g=>by
  by_cases a:nz r;exact(eA a).1.2 i (by grind);exact trim_nil_iff.1 (Decidable.byContradiction a) i
 have:=(eA b).1.1;rw[ff] at this;grind;intro x;have:=jz hw x;rw[dp] at this;grind
end
theorem maxL2(m a:Rat):m<=lr [m,a]/\a<=lr [m,a]:=by
 have e:lr [m,a]=if 0< fi a m then a else m:=by
  unfold lr eo;grind
 rw[e];unfold fi;grind
theorem Ah(q:Rat):fq q=ab q:=o4 q
theorem rl(lead:Rat):∀(l:Lq) (m:Rat),m<=boL lead l m/\∀c∈l,ab (c/ lead)<=boL lead l m
 |[],m=>⟨by rw[boL];grind,fun _ h=>by cases h⟩
 |c::l,m=>by
  obtain⟨f,b⟩:=rl lead l (lr [m,fq (c/ lead)]);obtain⟨g,e⟩:=maxL2 m (fq (c/ lead));rw[boL];refine⟨by grind,fun d a=>?_⟩;rcases List.mem_cons.1 a with rfl|a
  rw[Ah] at *;grind;grind
theorem o0(p:Lq):1<=a8 p:=by
 have:=(rl (aM p) ((ao p).take ((ao p).length- 1)) 0).1;unfold a8;grind
theorem big{B x:Rat}(hB:1<=B)(hx:x<= -B):∀(l:Lq) (lead:Rat),l.getLast?=some lead->lead≠0->(∀c∈l.dropLast,ab c<=(B- 1) * ab lead)->
    ab lead<=ab (ak l x)/\sgE x l=if l.length % 2=1 then sgZ lead.num else -sgZ lead.num
 |[],_,h,_,_=>by cases h
 |[a],lead,h,h0,_=>by
  have e:a=lead:=by grind
  subst e;have e:ak [a] x=a:=by rw[aO,aV];grind
  refine⟨by grind,?_⟩;unfold sgE;grind
 |a::b::m,lead,h,h0,hc=>by
  rw[List.getLast?_cons_cons] at h;rw[List.dropLast_cons_cons] at hc;obtain⟨i1,i2⟩:=big hB hx (b::m) lead h h0 fun c i=>hc c (List.mem_cons_of_mem _ i);have ha:=hc a (List.mem_cons_self ..);have e:ak (a::b::m) x=ak (b::m) x* x+a:=aO ..
  have d:(if (a::b::m).length % 2=1 then sgZ lead.num else -sgZ lead.num)= -sgE x (b::m):=by
   grind
  rw[d]
  have k:0< ab (ak (b::m) x):=by
   have:0< ab lead:=by unfold ab;grind
   grind
  have r:=Rat.mul_le_mul_of_nonneg_left i1 (show 0<=B- 1 by grind);have n:=ab_le.1 (show ab a<=(B- 1) * ab (ak (b::m) x) by grind);rcases dD x (b::m) with⟨g,f⟩|⟨g,f⟩|⟨g,f⟩
  have j:ab (ak (b::m) x)=ak (b::m) x:=by unfold ab;rw[if_neg (by grind)]
  have p:=Rat.mul_le_mul_of_nonneg_left hx (show 0<=ak (b::m) x by grind);rw[j] at n i1;have q:ak (a::b::m) x<= -ak (b::m) x:=by rw[e];grind
  refine⟨?_,by rw[g,tC (by grind)]⟩;have o:ab (ak (a::b::m) x)= -ak (a::b::m) x:=by unfold ab;rw[if_pos (by grind)]
  grind;have j:ab (ak (b::m) x)= -ak (b::m) x:=by unfold ab;rw[if_pos f]
  have p:=Rat.mul_le_mul_of_nonneg_left hx (show 0<= -ak (b::m) x by grind);rw[j] at n i1;have q: -ak (b::m) x<=ak (a::b::m) x:=by rw[e];grind
  refine⟨?_,by rw[g,ou (by grind)];decide⟩;have o:ab (ak (a::b::m) x)=ak (a::b::m) x:=by unfold ab;rw[if_neg (by grind)]
  grind;rw[f] at k;exact absurd k (by decide+kernel)
theorem o3{q:Lq}(h:nz q){x:Rat}(hx:x<= -a8 q):ab (aM q)<=ab (ak q x)/\sgE x q=sgI q:=by
 have g:=List.length_pos_iff.2 h;have j:=dn (l:=q) (n:=(ao q).length- 1) (by omega)
 have d:=big (o0 q) hx (ao q) (aM q) (by grind) (dd h) fun c a=>by
  rw[List.dropLast_eq_take] at a;have b:=(rl (aM q) _ 0).2 c a;have f:=fR (c/ aM q) (aM q);rw[Rat.div_mul_cancel (dd h)] at f;have i:=Rat.mul_le_mul_of_nonneg_right b (gi (aM q));unfold a8;grind
 have e:sgE x (ao q)=sgE x q:=by unfold sgE;rw[cP]
 rw[cP] at d;unfold sgI bO;grind
theorem Ff:∀l:Lw,(∀q∈l,nz q)->∃M:Rat,∀x,x<= -M->l.map (sgE x)=l.map sgI
 |[],_=>⟨0,fun _ _=>rfl⟩
 |q::l,h=>by
  obtain⟨M,c⟩:=Ff l fun r d=>h r (List.mem_cons_of_mem _ d);have b:=h q (List.mem_cons_self ..);by_cases hb:a8 q<=M;exact⟨M,fun x a=>by rw[List.map_cons,List.map_cons,c x a,(o3 b (by grind)).2]⟩;exact⟨a8 q,fun x a=>by rw[List.map_cons,List.map_cons,c x (by grind),(o3 b a).2]⟩
theorem oJ{p:Lq}(h:nz p):aM p≠0:=dd h
def Dv(d p:Lq):Prop:=∃u,∀x,ak p x=ak u x* ak d x
theorem gX{p q r:Lq}(h:∀x,ak r x=ak p x* ak q x)(hr:nz r):nz p/\nz q:=by
 constructor;intro e;have a:¬nz p:=fun h=>h e;exact absurd rfl ((Db (q:=[]) fun x=>by rw[h,jz a,aV];grind).1 hr);intro e;have a:¬nz q:=fun h=>h e;exact absurd rfl ((Db (q:=[]) fun x=>by rw[h,jz a,aV];grind).1 hr)


theorem FO{p:Lq}(h:nz p):bO p=(dg p:Int):=by
 have:=List.length_pos_iff.2 h;unfold bO dg;omega
theorem degP_nil{p:Lq}:bO p< 0↔¬nz p:=by
 unfold bO nz;constructor;intro h e;have:=List.length_pos_iff.2 e;omega;intro h;have:ao p=[]:=Decidable.byContradiction h;rw[this];decide
theorem gY{p:Lq}(h:nz p):(∀x,ak (cu p) x=ak p x* (1/ aM p))/\nz (cu p)/\dg (cu p)=dg p:=by
 have hl:=oJ h;have e:∀x,ak (cu p) x=ak p x* (1/ aM p):=fun x=>by unfold cu;rw[if_neg h,bG]
 have hk:1/ aM p≠0:=fun e=>by have:1/ aM p* aM p=1:=by grind
                              rw[e] at this;grind
 obtain⟨a,b,_⟩:=jn h hk e;exact⟨e,a,b⟩
end Go.Abs
