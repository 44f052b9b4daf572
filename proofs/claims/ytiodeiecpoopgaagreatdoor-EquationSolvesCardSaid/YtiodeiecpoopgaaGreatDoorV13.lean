/- Part V13. -/
import Derived.Test.YtiodeiecpoopgaaGreatDoorV12
set_option linter.all false
namespace Go.Abs
set_option maxRecDepth 20000
abbrev plA(c:Cnt)(i:Int):AV:= .aptr [[kA c,i64 i]] 0 0
theorem dm(c:Cnt)(i:Int):Closed (plA c i):=aU (ac (gO c) (ac (ag _) af))
def plC(c:Cnt)(i:Int)(x:Rat):Int:=if i< ed c x then -1 else if ed c x=i/\ed c x< fz c x then 0 else 1
theorem Hl{c:Cnt}{x:Rat}(h:AJ c): -274877906945<=ed c x/\ed c x<=274877906944:=by
 have:=oV (x:=x) h;unfold ed;split <;> omega
def biM(c:Cnt)(i:Int)(step:Rat):Nat->Rat->Rat->Option Rat
 |0,_,_=>none
 |f+1,lo,hi=>
  if sm lo/\sm hi/\sm (hi- lo) then
   if 0< fl (hi- lo) 1 then
    if qs (((lo+hi) / 2).floor:Rat)+qs step<=549755813888/\tf c ((((lo+hi) / 2).floor:Rat) * step) then
     if 0<=plC c i ((((lo+hi) / 2).floor:Rat) * step) then biM c i step f (((lo+hi) / 2).floor:Rat) hi
     else biM c i step f lo (((lo+hi) / 2).floor:Rat)
    else none
   else some lo
  else none

section
variable {p q:Lq}
theorem tP(i:Nat):coP [] i=0:=rfl
theorem im(a:Rat)(l:Lq):coP (a::l) 0=a:=rfl
theorem fR(a:Rat)(l:Lq)(i:Nat):coP (a::l) (i+1)=coP l i:=rfl
theorem bH(l:Lq)(i:Nat):coP (ar l) i=coP l i:=by
 induction l generalizing i with
 |nil=>rfl
 |cons a l b=>
  rw[eC];split
  ·rename_i h
   have c:∀j,coP l j=0:=fun j=>by rw[<-b j,h];rfl
   split
   ·rename_i ha
    cases i with
    |zero=>rw[ha];rfl
    |succ i=>rw[fR,c];rfl
   cases i with
   |zero=>rfl
   |succ i=>rw[fR,fR,c];rfl
  cases i with
  |zero=>rfl
  |succ i=>rw[fR,fR,b]
theorem coP_tab(n:Nat)(f:Nat->Rat)(i:Nat):coP (aJ n f) i=if i< n then f i else 0:=by
 unfold coP aJ;grind
theorem fx(p q:Lq)(i:Nat):coP (fy p q) i=coP p i+coP q i:=by
 unfold fy;rw[bH,coP_tab];split;rfl
 ·rw[eJ (by omega),eJ (by omega)];grind
theorem bU(p:Lq)(k:Rat)(i:Nat):coP (a7 p k) i=coP p i* k:=by
 unfold a7;rw[bH,coP_tab];split;rfl
 ·rw[eJ (by omega)];grind
theorem c9(p q:Lq)(i:Nat):coP (dP p q) i=coP p i- coP q i:=by
 unfold dP;rw[fx,bU];grind
theorem sk(a:Rat)(i:Nat):coP (eE a) i=if i=0 then a else 0:=by
 unfold eE;rw[bH];cases i <;> rfl
theorem io(p:Lq)(i:Nat):coP (aL p) i=if i=0 then 0 else coP p (i- 1) / ((i:Nat):Int):=by
 unfold aL;rw[bH,coP_tab];split;rfl
 ·rw[if_neg (by omega),eJ (by omega),Rat.div_def,Rat.zero_mul]
theorem uf(h:∀i,coP p i=coP q i):ar p=ar q:=by
 induction p generalizing q with
 |nil=>
  induction q with
  |nil=>rfl
  |cons b q c=>
   have hb:b=0:=(h 0).symm;rw[eC,<-c fun i=>h (i+1),if_pos hb];rfl
 |cons a p c=>
  cases q with
  |nil=>
   have ha:a=0:=h 0;rw[eC,c (q:=[]) fun i=>h (i+1),if_pos ha];rfl
  |cons b q=>
   have d:a=b:=h 0;rw[eC,eC,c (q:=q) fun i=>h (i+1),d]
theorem trim_iff:ar p=ar q↔∀i,coP p i=coP q i:=
 ⟨fun h i=>by rw[<-bH p,h,bH],uf⟩
theorem trim_nil_iff:ar p=[]↔∀i,coP p i=0:=
 ⟨fun h i=>by rw[<-bH p,h];rfl,fun h=>uf (q:=[]) h⟩
theorem eR(x:Rat):aE [] x=0:=rfl
theorem ct(a:Rat)(l:Lq)(x:Rat):aE (a::l) x=aE l x* x+a:=rfl
theorem vz(h:∀i,coP p i=0)(x:Rat):aE p x=0:=by
 induction p with
 |nil=>rfl
 |cons a p b=>
  have ha:a=0:=h 0;rw[ct,b fun i=>h (i+1)];grind
theorem ga(h:∀i,coP p i=coP q i)(x:Rat):aE p x=aE q x:=by
 induction p generalizing q with
 |nil=>exact(vz (fun i=>(h i).symm) x).symm
 |cons a p d=>
  cases q with
  |nil=>exact vz h x
  |cons b q=>
   have c:a=b:=h 0;rw[ct,ct,d (q:=q) fun i=>h (i+1),c]
theorem oH(p:Lq)(x:Rat):aE (ar p) x=aE p x:=ga (bH p) x
def wl:Lq->Lq->Lq
 |[],q=>q
 |p,[]=>p
 |a::p,b::q=>(a+b)::wl p q
def re(p:Lq)(k:Rat):Lq:=p.map (· * k)
def Gu:Lq->Lq->Lq
 |[],_=>[]
 |a::p,q=>wl (re q a) (0::Gu p q)
theorem qQ(p q:Lq)(i:Nat):coP (wl p q) i=coP p i+coP q i:=by
 induction p generalizing q i with
 |nil=>rw[wl,tP];grind
 |cons a p c=>
  cases q with
  |nil=>rw[wl,tP]; · grind
        grind
  |cons b q=>
   cases i with
   |zero=>rfl
   |succ i=>exact c q i
theorem mh(p:Lq)(k:Rat)(i:Nat):coP (re p k) i=coP p i* k:=by
 induction p generalizing i with
 |nil=>show(0:Rat)=0* k;grind
 |cons a p b=>
  cases i with
  |zero=>rfl
  |succ i=>exact b i
theorem vG(p q:Lq)(x:Rat):aE (wl p q) x=aE p x+aE q x:=by
 induction p generalizing q with
 |nil=>rw[wl,eR];grind
 |cons a p c=>
  cases q with
  |nil=>rw[wl,eR]; · grind
        grind
  |cons b q=>rw[wl,ct,ct,ct];grind
theorem qk(p:Lq)(k x:Rat):aE (re p k) x=aE p x* k:=by
 induction p with
 |nil=>show(0:Rat)=0* k;grind
 |cons a p b=>show aE (re p k) x* x+a* k=_;rw[ct];grind
theorem vE(p q:Lq)(x:Rat):aE (Gu p q) x=aE p x* aE q x:=by
 induction p with
 |nil=>show(0:Rat)=0* _;grind
 |cons a p b=>rw[Gu,vG,qk,ct,ct];grind
theorem jM(p q:Lq)(x:Rat):aE (fy p q) x=aE p x+aE q x:=by
 rw[<-vG];exact ga (fun i=>by rw[fx,qQ]) x
theorem fc(p:Lq)(k x:Rat):aE (a7 p k) x=aE p x* k:=by
 rw[<-qk];exact ga (fun i=>by rw[bU,mh]) x
theorem jL(p q:Lq)(x:Rat):aE (dP p q) x=aE p x- aE q x:=by
 unfold dP;rw[jM,fc];grind
theorem BD(a x:Rat):aE (eE a) x=a:=by
 rw[eE,oH];show 0* x+a=a;grind
def ka(p q:Lq):Nat->Nat->Rat
 |0,_=>0
 |i+1,n=>ka p q i n+(if i<=n then coP p i* coP q (n- i) else 0)
theorem BN(o:Lq)(a:Rat)(q:Lq)(i:Nat)(h:∀k,k< q.length->i+k< o.length):∀k n,k<=q.length->coP (jV o a q i k) n=coP o n+(if i<=n/\n< i+k then a* coP q (n- i) else 0)
 |0,n,_=>by show coP o n=_;grind
 |k+1,n,hk=>by
  rw[jV,sr,Ar];by_cases hn:n=i+k;subst hn;rw[if_pos ⟨rfl,h k (by omega)⟩,uE o a q i k (i+k) (by omega),if_pos (by omega),show i+k- i=k by omega];rw[BN o a q i h k n (by omega)];grind
theorem BO(p q:Lq)(n:Nat):∀i,i<=p.length->coP (fa p q i) n=ka p q i n
 |0,_=>by
  show coP (List.replicate _ 0) n=0;unfold coP;grind
 |i+1,hi=>by
  have a:=BO p q n i (by omega);rw[fa,ka];split
  ·grind
  rw[BN _ _ _ _ (fun k b=>by rw[mZ];omega) _ _ (Nat.le_refl _),a];by_cases h1:i<=n;rw[if_pos h1];by_cases h2:n< i+q.length;rw[if_pos ⟨h1,h2⟩];rw[eJ (p:=q) (by omega)];grind;grind
theorem vP(a:Rat)(p q:Lq)(n:Nat):∀i,ka (a::p) q (i+1) n=a* coP q n+(match n with|0=>0|m+1=>ka p q i m)
 |0=>by
  show(0:Rat)+(if 0<=n then coP (a::p) 0* coP q (n- 0) else 0)=_;rw[im];cases n <;> simp[ka,Rat.add_zero,Rat.zero_add]
 |i+1=>by
  rw[ka,vP a p q n i];cases n with
  |zero=>grind
  |succ m=>
   show a* coP q (m+1)+ka p q i m+_=a* coP q (m+1)+(ka p q i m+_);by_cases h:i<=m;rw[fR];grind;grind
theorem vS(p q:Lq)(n:Nat):coP (Gu p q) n=ka p q p.length n:=by
 induction p generalizing n with
 |nil=>rfl
 |cons a p b=>
  rw[Gu,qQ,mh,List.length_cons,vP];cases n with
  |zero=>rw[im];grind
  |succ m=>rw[fR];grind
theorem FY(p q:Lq)(n:Nat):coP (aX p q) n=coP (Gu p q) n:=by
 unfold aX;split
 ·rename_i h
  rcases h with rfl|rfl
  rfl;rw[vS]
  have:∀i,ka p [] i n=0:=by
   intro i
   induction i with
   |zero=>rfl
   |succ i a=>rw[ka,tP];grind
  rw[this];rfl
 rw[bH,BO _ _ _ _ (Nat.le_refl _),vS]
theorem iN(p q:Lq)(x:Rat):aE (aX p q) x=aE p x* aE q x:=by
 rw[<-vE];exact ga (FY p q) x
def Gf:Lq->Rat->Lq
 |[],_=>[]
 |[_],_=>[]
 |_::b::l,r=>aE (b::l) r::Gf (b::l) r
theorem wH(p:Lq)(r x:Rat):aE p x=aE (Gf p r) x* (x- r)+aE p r:=by
 induction p with
 |nil=>show(0:Rat)=0* _+0;grind
 |cons a l c=>
  cases l with
  |nil=>show 0* x+a=0* (x- r)+(0* r+a);grind
  |cons b l=>
   rw[Gf,ct a,ct a,ct (aE (b::l) r)];grind
theorem HT(p:Lq)(r:Rat):(Gf p r).length=p.length- 1:=by
 induction p with
 |nil=>rfl
 |cons a l c=>
  cases l with
  |nil=>rfl
  |cons b l=>rw[Gf,List.length_cons,c];simp
theorem uG:∀(n:Nat) (p xs:Lq),p.length<=n->n<=xs.length->xs.Nodup->(∀x∈xs,aE p x=0)->∀x,aE p x=0
 |0,p,_,hp,_,_,_,x=>by
  have:p=[]:=List.length_eq_zero_iff.1 (by omega);rw[this];rfl
 |n+1,p,xs,hp,hx,hnd,hz,x=>by
  cases xs with
  |nil=>grind
  |cons r xs=>
   rw[List.nodup_cons] at hnd;have c:=hz r (List.mem_cons_self ..)
   have a:=uG n (Gf p r) xs (by rw[HT];omega) (by grind) hnd.2 fun y b=>by
    have d:=wH p r y;grind
   rw[wH p r x];grind
theorem zg(h:∀x,aE p x=0):∀i,coP p i=0:=by
 induction p with
 |nil=>intro i;rfl
 |cons a p c=>
  have ha:a=0:=by
   have:=h 0;rw[ct] at this;grind
  have hp:∀x,aE p x=0:=by
   -- at all places but 0,so at all
   refine uG p.length p ((List.range p.length).map fun i=>(((i+1:Nat):Int):Rat)) (Nat.le_refl _) (by simp) ?_ ?_;refine List.Pairwise.map _ (fun i j g=>?_) List.nodup_range;intro e;have:=Rat.intCast_inj.1 e;omega;intro x k;obtain⟨i,_,rfl⟩:=List.mem_map.1 k;have f:=h (((i+1:Nat):Int):Rat);rw[ct] at f;have d:aE p (((i+1:Nat):Int):Rat) * (((i+1:Nat):Int):Rat)=0:=by grind
   rcases Rat.mul_eq_zero.1 d with b|b
   exact b;have:=Rat.intCast_inj.1 (b.trans Rat.intCast_zero.symm);omega
  intro i;cases i with
  |zero=>exact ha
  |succ i=>exact c hp i
theorem fN(h:∀x,aE p x=aE q x):ar p=ar q:=by
 refine uf fun i=>?_;have:=zg (p:=dP p q) (fun x=>by rw[jL];grind) i;rw[c9] at this;grind
end
theorem w6(p q:Lq)(hp:p≠[]):(aX p q).length<=p.length+q.length- 1:=by
 unfold aX;split;simp;have:=bw (fa p q p.length);rwa[mZ] at this
theorem fm{p:Lq}{k:Rat}{s t:Nat}(hp:bdL p s)(hs:1<=s)(hk:qs k<=t):bdL (a7 p k) (s+t):=
 k5 fun i=>by
  rw[bU];have a:=dS (coP p i) k;have b:=ej hp hs i;omega
theorem zU{p q:Lq}{s t:Nat}(hp:bdL p s)(hq:bdL q t)(hs:1<=s)(ht:1<=t):bdL (fy p q) (s+t+1):=
 k5 fun i=>by
  rw[fx];have a:=kQ (coP p i) (coP q i);have b:=ej hp hs i;have c:=ej hq ht i;omega
theorem vC(q:Lq)(x:Rat)(m:Nat)(h:m< q.length):aE (q.take (m+1)) x=aE (q.take m) x+coP q m* x^ m:=by
 induction q generalizing m with
 |nil=>cases h
 |cons a q b=>
  cases m with
  |zero=>rw[List.take_succ_cons,Rat.pow_zero];show 0* x+a=0+a* 1;grind
  |succ m=>rw[List.take_succ_cons,List.take_succ_cons,ct,ct,fR];grind
theorem sP(x:Rat)(n:Nat):∀m,x^ (n+m)=x^ n* x^ m
 :=by grind
section
variable (p q r:Lq)(a b:Rat)
end

inductive Gsn:Int->List Int->List Int->Prop
 |nil {t:Int}:Gsn t [] []
 |solid {t s:Int} {l l':List Int}:s≠0->Gsn s l l'->Gsn t (s::l) (s::l')
 |weak {t x y:Int} {l l':List Int}:(x=0\/x=t\/x= -t)->(y=0\/y=t\/y= -t)->Gsn (-t) l l'->Gsn t (x:: -t::l) (y:: -t::l')
inductive Ch:Lq->Lw->Prop
 |one {u:Lq} {c:Rat}:c≠0->(∀x,aE u x=c)->Ch u []
 |pair {u v:Lq}:Ch v []->Ch u [v]
 |step {u v w:Lq} {L:Lw} {a c:Rat} {q:Lq}:0< a->0< c->(∀x,a* aE u x+c* aE w x=aE q x* aE v x)->Ch v (w::L)->Ch u (v::w::L)

def nz(p:Lq):Prop:=ar p≠[]
def dg(p:Lq):Nat:=(ar p).length- 1
def Eqv(p q:Lq):Prop:=∀x,aE p x=aE q x
theorem eqv_trim{p q:Lq}:Eqv p q↔ar p=ar q:=
 ⟨fN,fun h x=>by rw[<-oH p,h,oH]⟩
def isDeg(p:Lq)(n:Nat):Prop:=coP p n≠0/\∀i,n< i->coP p i=0
theorem lr{p:Lq}(h:nz p):isDeg p (dg p)/\coP p (dg p)=ba p:=by
 have hl:=List.length_pos_iff.2 h;have c:=fo (l:=p) (n:=dg p) (by unfold dg;omega)
 have a:coP p (dg p)=ba p:=by
  rw[<-bH];unfold coP;grind
 refine⟨⟨by rw[a];exact je h,fun i b=>?_⟩,a⟩;rw[<-bH];exact eJ (by unfold dg at b;omega)
theorem IX{p:Lq}{n:Nat}(h:isDeg p n):nz p/\dg p=n/\ba p=coP p n:=by
 have c:nz p:=fun e=>h.1 (trim_nil_iff.1 e n);obtain⟨b,d⟩:=lr c
 have e:dg p=n:=by
  rcases Nat.lt_trichotomy (dg p) n with a|a|a
  exact absurd (b.2 n a) h.1;exact a;exact absurd (h.2 _ a) b.1
 grind





theorem degP_dg{p:Lq}(h:nz p):a8 p=(dg p:Int):=by
 have:=List.length_pos_iff.2 h;unfold a8 dg;omega
theorem degP_nil{p:Lq}:a8 p< 0↔¬nz p:=by
 unfold a8 nz;constructor;intro h e;have:=List.length_pos_iff.2 e;omega;intro h;have:ar p=[]:=Decidable.byContradiction h;rw[this];decide

inductive Cx:Lq->Lq->Lw->Prop
 |nil {u n:Lq}:¬nz n->Cx u n []
 |cons {u n v n' q:Lq} {L:Lw} {c:Rat}:0< c->(∀x,aE v x=aE n x* c)->nz v->(∀x,aE n' x=aE q x* aE v x- aE u x)->Cx v n' L->Cx u n (v::L)

theorem Fg{p:Lq}{t:Nat}(h:bdL p t)(ht:1<=t):qs (ba p)<=t:=by
 by_cases h0:ar p=[];rw[rJ h0];exact Nat.le_trans (by decide:qs 0<=1) ht;have hl:=List.length_pos_iff.2 h0;exact h _ (c5 (List.mem_of_getElem? (fo (n:=(ar p).length- 1) (by omega))))
def HtF(f:Nat->Rat)(k:Rat)(h:Nat):Prop:=∀i,∃z:Int,f i* k=(z:Rat)/\bl z.natAbs<=h
def Ht(p:Lq)(h:Nat):Prop:=∃k:Rat,k≠0/\HtF (coP p) k h
theorem Ht.quot{p:Lq}{h:Nat}(H:Ht p h)(i j:Nat)(hj:coP p j≠0)(h1:1<=h):qs (coP p i/ coP p j)<=h:=by
 obtain⟨k,f,H⟩:=H;obtain⟨z,g,z2⟩:=H i;obtain⟨w,c,b⟩:=H j
 have l:w≠0:=fun e=>by
  rw[e] at c;grind
 have e:coP p i/ coP p j=(z:Rat) / (w:Rat):=by grind
 have a:0< w.natAbs:=by omega
 by_cases hw:0< w
 have e2:(z:Rat) / (w:Rat)=mkRat z w.natAbs:=by
  rw[mf];show Rat.divInt (z* ((1:Nat):Int)) (((1:Nat):Int) * w)=_;rw[<-Rat.divInt_ofNat];grind
 rw[e,e2];exact fF a z2 b
 have e2:(z:Rat) / (w:Rat)=mkRat (-z) w.natAbs:=by
  have d:(z:Rat) / (w:Rat)=((-z:Int):Rat) / ((-w:Int):Rat):=by grind
  rw[d,mf];show Rat.divInt (-z* ((1:Nat):Int)) (((1:Nat):Int) * -w)=_;rw[<-Rat.divInt_ofNat];grind
 rw[e,e2];exact fF a (by grind) b



section
variable {f:Nat}{p:Lq}{c:Cnt}(h:kI f p=some c)(hp:nz p)
include h hp
end
def lag(v:Lq):Nat->Rat
 |0=>0
 |m+1=>coP v m
theorem Kn(v:Lq)(c:Rat)(n:Nat):coP (aX v [c,1]) n=coP v n* c+lag v n:=by
 have e:ar (aX v [c,1])=ar (aX [c,1] v):=fN fun x=>by rw[iN,iN];grind
 rw[trim_iff.1 e n,FY];show coP (wl (re v c) (0::wl (re v 1) (0::[]))) n=_;rw[qQ,mh];cases n with
 |zero=>rw[im];rfl
 |succ m=>
  rw[fR,qQ,mh];have:coP [(0:Rat)] m=0:=by cases m <;> rfl
  rw[this];show _+(coP v m* 1+0)=_+coP v m;grind
theorem oc(v:Lq)(c:Rat):(aX v [c,1]).length<=v.length+1:=by
 by_cases h:v=[];subst h;unfold aX;simp;have:=w6 v [c,1] h;simpa using this
theorem iV(p:Lq):(aL p).length<=p.length+1:=by
 have:=bw (aJ (p.length+1) fun i=>if i=0 then 0 else coP p (i- 1) / ((i:Nat):Int));simp at this;unfold aL;omega
theorem o0(p q:Lq):(dP p q).length<=max p.length q.length:=by
 have a:=jm p (a7 q (-1));have b:=b8 q (-1);unfold dP;omega
section
variable {p:Lq}{s:Nat}
theorem bd_co'(h:bdL p s)(hs:1<=s):∀i,qs (coP p i)<=s:=fun i=>ej h hs i
theorem Ea{k:Rat}(h:bdL p s)(hs:1<=s):bdL (a7 p k) (s+qs k):=k5 fun i=>by
 rw[bU];have:=dS (coP p i) k;have:=bd_co' h hs i;omega
theorem F1(h:bdL p s)(hs:1<=s):bdL (a7 p (-1)) s:=k5 fun i=>by
 rw[bU,show coP p i* (-1)= -coP p i by grind,iB];exact bd_co' h hs i
theorem Kz{q:Lq}{t:Nat}(hp:bdL p s)(hq:bdL q t)(hs:1<=s)(ht:1<=t):bdL (fy p q) (s+t+1):=k5 fun i=>by
 rw[fx];have:=kQ (coP p i) (coP q i);have:=bd_co' hp hs i;have:=bd_co' hq ht i;omega
theorem BW{q:Lq}{t:Nat}(hp:bdL p s)(hq:bdL q t)(hs:1<=s)(ht:1<=t):bdL (dP p q) (s+t+1):=Kz hp (F1 hq ht) hs ht
theorem we(h:bdL p s):bdL (ar p) s:=fun q a=>h q (c5 a)
def shP(i:Nat)(v:Lq):Lq:=List.replicate i 0++v
theorem CA(i:Nat)(v:Lq):(shP i v).length=i+v.length:=by simp[shP]
theorem Ak(i:Nat)(v:Lq):shP (i+1) v=0::shP i v:=by simp[shP,List.replicate_succ]
theorem BB(v:Lq)(x:Rat):∀i,aE (shP i v) x=aE v x* x^ i
 |0=>by simp[shP]
 |i+1=>by
  rw[Ak,ct,BB v x i,Rat.pow_succ];grind
theorem coP_sh(v:Lq)(i n:Nat):coP (shP i v) n=if n< i then 0 else coP v (n- i):=by
 induction i generalizing n with
 |zero=>simp[shP]
 |succ i a=>
  rw[Ak];cases n with
  |zero=>rw[im,if_pos (by omega)]
  |succ n=>
   rw[fR,a,Nat.add_sub_add_right];by_cases h:n< i;rw[if_pos h,if_pos (by omega)];rw[if_neg h,if_neg (by omega)]
def mR(p q:Lq):Nat->Lq
 |0=>[]
 |n+1=>fy (mR p q n) (shP n (a7 p (coP q n)))
theorem BC(p q:Lq)(x:Rat):∀n,n<=q.length->aE (mR p q n) x=aE p x* aE (q.take n) x
 |0,_=>by simp[mR,eR]
 |n+1,h=>by
  rw[mR,jM,BC p q x n (by omega),BB,fc,vC q x n (by omega)];grind
theorem trim_mR(p q:Lq):∀n,ar (mR p q n)=mR p q n
 |0=>rfl
 |n+1=>dX _
theorem Gd(p q:Lq):ar (aX p q)=aX p q:=by
 unfold aX;split;rfl;exact dX _
theorem mR_mul(p q:Lq):mR p q q.length=aX p q:=by
 rw[<-trim_mR,<-Gd];refine fN fun x=>?_;rw[BC p q x _ (Nat.le_refl _),List.take_length,iN]
theorem I7(p q:Lq):∀n,(mR p q n).length<=n+p.length
 |0=>Nat.zero_le _
 |n+1=>by
  have b:=I7 p q n;have a:=jm (mR p q n) (shP n (a7 p (coP q n)));have c:=b8 p (coP q n);rw[CA] at a;rw[mR];omega
theorem mR_bd{p q:Lq}{s t:Nat}(hp:bdL p s)(hq:bdL q t)(hs:1<=s)(ht:1<=t):∀n,bdL (mR p q n) (n* (s+t+1)+1)
 |0=>fun _ h=>by cases h
 |n+1=>k5 fun i=>by
  rw[mR,fx,coP_sh,Nat.succ_mul];have b:=bd_co' (mR_bd hp hq hs ht n) (by omega) i;have a:=bd_co' hq ht n
  have c:qs (if i< n then 0 else coP (a7 p (coP q n)) (i- n))<=s+t:=by
   split;have:qs 0=1:=by decide
   omega;rw[bU];have:=dS (coP p (i- n)) (coP q n);have:=bd_co' hp hs (i- n);omega
  have:=kQ (coP (mR p q n) i) (if i< n then 0 else coP (a7 p (coP q n)) (i- n));omega
end





theorem wY(p q:Lq):(aX p q).length<=p.length+q.length- 1:=by
 by_cases h:p=[];subst h;unfold aX;simp;exact w6 p q h


section
variable {a b:Rat}(h:a< b){k:Nat}(hk:1<=k/\k<=4)
include h hk
end

theorem bdL_mono'{l:Lq}{a b:Nat}(h:bdL l a)(hab:a<=b):bdL l b:=fun q c=>Nat.le_trans (h q c) hab
section
variable {a b:Rat}(h:a< b){k:Nat}(hk:1<=k/\k<=4)(ha:qs a<=20)(hb:qs b<=20)
include ha hb
end
section
variable {a b:Rat}(h:a< b){k:Nat}(hk:1<=k/\k<=4)
include h hk
variable (ha:qs a<=20)(hb:qs b<=20)
include ha hb
end
section
variable {a b:Rat}(h:a< b){k:Nat}(hk:1<=k/\k<=4)(ha:qs a<=20)(hb:qs b<=20)
include h hk ha hb
end
section
variable {a b a' b':Rat}(h:a< b)(h':a'< b'){k:Nat}(hk:1<=k/\k<=4)
include h h'
end
section
variable {a b a' b':Rat}(ha:qs a<=20)(hb:qs b<=20)(ha':qs a'<=20)(hb':qs b'<=20)
include ha hb ha' hb'
end

theorem tQ{l:Lq}{q:Rat}(h:q∈l):∃i,i< l.length/\coP l i=q:=by
 obtain⟨i,a,e⟩:=List.getElem_of_mem h;exact⟨i,a,by rw[<-e];unfold coP;rw[List.getD_eq_getElem?_getD,List.getElem?_eq_getElem a];rfl⟩
theorem qiN(n:Int):qs (n:Rat)<=max (bl n.natAbs) 1:=by
 have e1:(n:Rat).num=n:=rfl;have e2:(n:Rat).den=1:=rfl;unfold qs;rw[e2,kj];grind
theorem qi21{n:Int}(h: -2000000<=n/\n<=2000000):qs (n:Rat)<=21:=by
 have a:=qiN n;have b:bl n.natAbs<=21:=iq (by omega);omega
theorem sT{p:Lq}{s:Nat}(h:bdL p s)(hs:1<=s)(hl:p.length<=1000000):bdL (aL p) (s+21):=fun q a=>by
 obtain⟨i,g,e⟩:=tQ a;have b:=iV p;rw[<-e,io];split;exact Nat.le_trans (by decide:qs 0<=1) (by omega);have d:=iC (coP p (i- 1)) (((i:Nat):Int):Rat);have c:=ej h hs (i- 1);have f:=qi21 (n:=((i:Nat):Int)) (by omega);omega
section
variable {a b:Rat}{p q:Nat}(ha:qs a<=256)(hb:qs b<=256)(hp:p<=8)(hq:q<=8)
include ha in
end



section
variable {N:Lq}(hN:nz N)(hm:ba N=1)(h1:1<=dg N)
include hN hm h1
end

section
variable {x y:Rat}{h:Nat}
def IB(x:Rat)(h:Nat):Prop:=∃z:Int,x=(z:Rat)/\bl z.natAbs<=h
theorem IB.mono{k:Nat}(H:IB x h)(hk:h<=k):IB x k:=by obtain⟨z,e,b⟩:=H;exact⟨z,e,by omega⟩
theorem IB.zero(h:Nat):IB 0 h:=⟨0,rfl,Nat.zero_le _⟩
theorem IB.one:IB 1 1:=⟨1,rfl,by decide⟩
theorem IB.mul{k:Nat}(H:IB x h)(K:IB y k):IB (x* y) (h+k):=by
 obtain⟨z,e,b⟩:=H;obtain⟨w,c,a⟩:=K;exact⟨z* w,by grind,dz b a⟩
theorem IB.add(H:IB x h)(K:IB y h):IB (x+y) (h+1):=by
 obtain⟨z,e,b⟩:=H;obtain⟨w,c,a⟩:=K;exact⟨z+w,by grind,xI b a⟩
theorem IB.neg(H:IB x h):IB (-x) h:=by
 obtain⟨z,e,b⟩:=H;exact⟨-z,by grind,by grind⟩
theorem IB.eq(H:IB x h)(e:x=y):IB y h:=e▸H
structure HS (p:Lq)(K:Rat)(h:Nat):Prop where
 ne:K≠0
 sc:IB K h
 co:∀i,IB (coP p i* K) h
theorem Km(p q:Lq)(n:Nat):coP (aX p q) n=ka p q p.length n:=by
 rw[<-vS];exact trim_iff.1 (fN fun x=>by rw[iN,vE]) n
theorem FU{p q:Lq}{K K':Rat}{h h':Nat}(H:HS p K h)(H':HS q K' h')(n:Nat):∀i,IB (ka p q i n* (K* K')) (h+h'+i)
 |0=>(IB.zero _).eq (by show 0=0* _;grind)
 |i+1=>by
  have a:=FU H H' n i
  have b:IB ((if i<=n then coP p i* coP q (n- i) else 0) * (K* K')) (h+h'+i):=by
   split;exact(((H.co i).mul (H'.co (n- i))).eq (by grind)).mono (by omega);exact(IB.zero _).eq (by grind)
  exact((a.add b).eq (by rw[ka];grind)).mono (by omega)
theorem HS.mul{p q:Lq}{K K':Rat}{h' L:Nat}(H:HS p K h)(H':HS q K' h')(hl:p.length<=L):HS (aX p q) (K* K') (h+h'+L) where
 ne e:=(Rat.mul_eq_zero.1 e).elim H.ne H'.ne
 sc:=(H.sc.mul H'.sc).mono (by omega)
 co i:=by
  rw[Km];exact(FU H H' i p.length).mono (by omega)
end

section
variable {f:Nat}{p:Lq}{c:Cnt}(h:kI f p=some c)(hp:nz p)
include h hp
end




section
variable {f:Nat}{q d:Lq}{c:Cnt}{σ:Rat}(h:kI f d=some c)(hd:nz d)(hσ:σ=1\/σ= -1)
end
def qj:Nat->Rat
 |0=>1
 |n+1=>qj n* (((n+1:Nat):Int):Rat)
theorem vy:∀n,0< qj n
 |0=>by decide+kernel
 |n+1=>by
  exact Rat.mul_pos (vy n) (by rw[show(0:Rat)=((0:Int):Rat) from rfl,Rat.intCast_lt_intCast];omega)
theorem nat_ne(k:Nat):(((k+1:Nat):Int):Rat)≠0:=fun e=>by have:=Rat.intCast_inj.1 (e.trans Rat.intCast_zero.symm);omega
theorem HS.nil:HS [] 1 1:=⟨by decide,IB.one,fun i=>(IB.zero 1).eq (by show 0=(0:Rat) * 1;grind)⟩
section
variable {m:Lq}{k:Rat}{M n:Nat}(k0:k≠0)(hm:∀i,IB (coP m i* k) M)(h7:n<=7)
end
theorem IB_quot{x y:Rat}{h:Nat}(H:IB x h)(K:IB y h)(y0:y≠0)(h1:1<=h):qs (x/ y)<=h:=by
 have a:Ht [x,y] h:=⟨1,by decide,fun i=>by
  have:IB (coP [x,y] i* 1) h:=by
   match i with
   |0=>exact H.eq (by show x=x* 1;grind)
   |1=>exact K.eq (by show y=y* 1;grind)
   |i+2=>exact(IB.zero h).eq (by show 0=0* 1;grind)
  obtain⟨z,e,b⟩:=this;exact⟨z,e,b⟩⟩
 exact a.quot 0 1 y0 h1
section
variable {m:Lq}{s n:Nat}(hm:bdL m s)(hs1:1<=s)(hs:s<=3000)(hl:m.length<=16)(h6:n<=6)
end
theorem nz_int'{n:Int}(h:n≠0):(n:Rat)≠0:=fun e=>h (by have:=congrArg Rat.num e;exact this)
theorem IB.nat{n h:Nat}(hn:bl n<=h):IB (((n:Nat):Int):Rat) h:=⟨n,rfl,by rwa[Int.natAbs_natCast]⟩
theorem Eg{x:Rat}{h:Nat}(hx:qs x<=h):IB (x* ((x.den:Int):Rat)) h/\IB (((x.den:Nat):Int):Rat) h/\(((x.den:Nat):Int):Rat)≠0:=by
 have d:=di x;have c:=c7 x;refine⟨⟨x.num,?_,by omega⟩,IB.nat (by omega),nz_int' (by have:=x.den_pos;omega)⟩;have a:(((x.den:Nat):Int):Rat)≠0:=nz_int' (by have:=x.den_pos;omega);have b:(x.num:Rat) / (((x.den:Nat):Int):Rat)=x:=by rw[<-Rat.divInt_eq_div,Rat.num_divInt_den]
 have e2:(x.num:Rat) / (((x.den:Nat):Int):Rat) * (((x.den:Nat):Int):Rat)=(x.num:Rat):=Rat.div_mul_cancel a;rw[b] at e2;exact e2
theorem HS.mono{p:Lq}{K:Rat}{h k:Nat}(H:HS p K h)(hk:h<=k):HS p K k:=⟨H.ne,H.sc.mono hk,fun i=>(H.co i).mono hk⟩
section
variable {h:Nat}{p:Lq}{K:Rat}
theorem KR{n:Nat}(hn:bl n<=h):IB ((n:Int):Rat) h:=⟨n,rfl,by grind⟩
theorem ze:∀n,n<=255->IB (qj n) (8* n+1)
 |0,_=>IB.one
 |n+1,h=>by
  exact((ze n (by omega)).mul (KR (h:=8) (iq (by omega)))).mono (by omega)
theorem Bz:∀n i,i< n->n<=255->∃z:Rat,IB z (8* n+1)/\z* (((i+1:Nat):Int):Rat)=qj n
 |0,_,h,_=>by omega
 |n+1,i,h,hn=>by
  by_cases e:i=n;subst e;exact⟨qj i,(ze i (by omega)).mono (by omega),by rw[qj]⟩;obtain⟨z,a,z2⟩:=Bz n i (by omega) (by omega);refine⟨z* (((n+1:Nat):Int):Rat),(a.mul (KR (h:=8) (iq (by omega)))).mono (by omega),?_⟩;rw[qj];grind
theorem HS.bdL(H:HS p K h)(h1:1<=h):Abs.bdL p h:=fun q a=>by
 obtain⟨i,_,e⟩:=tQ a;have:=IB_quot (H.co i) H.sc H.ne h1;rw[Rat.mul_div_cancel H.ne] at this;grind
theorem HS.integral{L:Nat}(H:HS p K h)(hl:p.length<=L)(hL:L<=255):HS (aL p) (K* qj L) (h+8* L+1) where
 ne e:=(Rat.mul_eq_zero.1 e).elim H.ne (by have:=vy L;grind)
 sc:=(H.sc.mul (ze L hL)).mono (by omega)
 co i:=by
  rw[io];cases i with
  |zero=>exact(IB.zero _).eq (by grind)
  |succ i=>
   by_cases g:i< L;obtain⟨z,b,z2⟩:=Bz L i g hL;refine((H.co i).mul b).eq ?_|>.mono (by omega);have:=Rat.div_mul_cancel (a:=coP p i) (nat_ne i);grind;rw[eJ (by omega)];exact(IB.zero _).eq (by grind)
theorem BA{K x d:Rat}{h e:Nat}(hd:IB d e)(hx:IB (x* d) e):∀(l:Lq),(∀c∈l,IB (c* K) h)->IB (aE l x* (K* d^ l.length)) (h+l.length* (e+2))
 |[],_=>(IB.zero _).eq (by rw[eR];grind)
 |a::l,hl=>by
  have b:=BA hd hx l fun c f=>hl c (List.mem_cons_of_mem _ f);have ha:=hl a (List.mem_cons_self ..)
  have hp:∀n:Nat,IB (d^ n) (n* e+1):=fun n=>by
   induction n with
   |zero=>rw[Rat.pow_zero];exact IB.one.mono (by omega)
   |succ n b=>rw[Rat.pow_succ];exact(b.mul hd).mono (by grind)
  have e2:(a::l).length* (e+2)=l.length* (e+2)+e+2:=by grind
  have s1:=b.mul hx;have s2:=ha.mul (hp (l.length+1));have g:l.length* (e+2)=l.length* e+l.length* 2:=by grind
  have i:(l.length+1) * e=l.length* e+e:=Nat.succ_mul _ _;refine(((s1.mono (show _<=h+l.length* (e+2)+e+1 by omega)).add (s2.mono (by omega))).eq ?_).mono (by omega);rw[ct];grind
theorem HS.all(H:HS p K h):∀c∈p,IB (c* K) h:=fun c a=>by
 obtain⟨i,_,e⟩:=tQ a;rw[<-e];exact H.co i
theorem HS.k{l d:Rat}{e:Nat}(H:HS p K h)(d0:d≠0)(hd:IB d e)(hl:IB (l* d) e):HS (a7 p l) (K* d) (h+e) where
 ne g:=(Rat.mul_eq_zero.1 g).elim H.ne d0
 sc:=H.sc.mul hd
 co i:=by rw[bU];exact((H.co i).mul hl).eq (by grind)
theorem HS.rescale{d:Rat}{e:Nat}(H:HS p K h)(d0:d≠0)(hd:IB d e):HS p (K* d) (h+e) where
 ne g:=(Rat.mul_eq_zero.1 g).elim H.ne d0
 sc:=H.sc.mul hd
 co i:=((H.co i).mul hd).eq (by grind)
theorem HS.less{v:Rat}(H:HS p K h)(hv:IB (v* K) h):HS (dP p (eE v)) K (h+1) where
 ne:=H.ne
 sc:=H.sc.mono (by omega)
 co i:=by
  rw[c9,sk];split;exact((H.co i).add hv.neg).eq (by grind);exact((H.co i).mono (by omega)).eq (by grind)
theorem HS.plus{q:Lq}(H:HS p K h)(G:HS q K h):HS (fy p q) K (h+1) where
 ne:=H.ne
 sc:=H.sc.mono (by omega)
 co i:=by rw[fx];exact((H.co i).add (G.co i)).eq (by grind)
end
theorem HZ(p:Lq)(v:Rat):dP p [v]=dP p (eE v):=by
 have a:ar (dP p [v])=dP p [v]:=by unfold dP fy;exact dX _
 have b:ar (dP p (eE v))=dP p (eE v):=by unfold dP fy;exact dX _
 rw[<-a,<-b];exact eqv_trim.1 fun x=>by rw[jL,jL,BD,ct,eR];grind
theorem lW{d:Rat}{e:Nat}(hd:IB d e):∀n:Nat,IB (d^ n) (n* e+1)
 |0=>by rw[Rat.pow_zero];exact IB.one.mono (by omega)
 |n+1=>by rw[Rat.pow_succ];exact((lW hd n).mul hd).mono (by rw[Nat.succ_mul];omega)
def DT(p:Lq)(n:Nat):Lq:=ar (p.take (n+1))
theorem BM(p:Lq)(n i:Nat):coP (p.take n) i=if i< n then coP p i else 0:=by
 unfold coP;rw[List.getD_eq_getElem?_getD,List.getD_eq_getElem?_getD,List.getElem?_take];split <;> rfl
theorem coP_cut(p:Lq)(n i:Nat):coP (DT p n) i=if i<=n then coP p i else 0:=by
 rw[DT,bH,BM];by_cases h:i<=n;rw[if_pos h,if_pos (by omega)];rw[if_neg h,if_neg (by omega)]
theorem BL(p:Lq)(n:Nat):(DT p n).length<=n+1:=by
 have a:=bw (p.take (n+1));have b:(p.take (n+1)).length<=n+1:=by rw[List.length_take];omega
 unfold DT;omega
theorem HS.cut{p:Lq}{K:Rat}{h:Nat}(H:HS p K h)(n:Nat):HS (DT p n) K h:=⟨H.ne,H.sc,fun i=>by
 rw[coP_cut];split;exact H.co i;exact(IB.zero h).eq (by grind)⟩
theorem HS.plus2{p q:Lq}{K K':Rat}{h h':Nat}(H:HS p K h)(G:HS q K' h'):HS (fy p q) (K* K') (h+h'+1):=
 (H.rescale G.ne G.sc).plus ((Rat.mul_comm K' K▸G.rescale H.ne H.sc).mono (by omega))
theorem zX{s:Nat}:∀(l:Lq),Abs.bdL l s->∃K,HS l K (s* l.length+1)
 |[],_=>⟨1,HS.nil⟩
 |c::l,hl=>by
  obtain⟨K,H⟩:=zX l fun q b=>hl q (List.mem_cons_of_mem _ b);obtain⟨d,a,f⟩:=Eg (hl c (List.mem_cons_self ..));have e:s* (c::l).length=s* l.length+s:=by grind
  refine⟨K* ((c.den:Int):Rat),(fun g=>(Rat.mul_eq_zero.1 g).elim H.ne f),(H.sc.mul a).mono (by omega),fun i=>?_⟩;cases i with
  |zero=>rw[im];exact((H.sc.mul d).eq (by grind)).mono (by omega)
  |succ i=>rw[fR];exact(((H.co i).mul a).eq (by grind)).mono (by omega)
theorem wm{c d K:Rat}{h:Nat}(d0:d≠0)(hd:IB d 20)(hc:IB (c* d) 20):∀(l:Lq) (b:Rat),HS (b::l) K h->HS (cb [c,1] (b::l)) (K* d^ l.length) (h+22* l.length)
 |[],b,H=>by
  refine⟨by rw[List.length_nil,Rat.pow_zero];have:=H.ne;grind,H.sc.eq (by simp),fun i=>?_⟩;rw[show cb [c,1] [b]=fy (aX [] [c,1]) (eE b) from rfl,fx,sk,show aX [] [c,1]=[] from if_pos (.inl rfl),tP];have e:=H.co 0;rw[im] at e;split;exact e.eq (by rw[List.length_nil,Rat.pow_zero];grind);exact(IB.zero _).eq (by grind)
 |b'::l,b,H=>by
  have Ht:HS (b'::l) K h:=⟨H.ne,H.sc,fun i=>H.co (i+1)⟩;have a:=wm d0 hd hc l b' Ht;have hp:=lW hd (l.length+1);have hb:=H.co 0;rw[List.length_cons];refine⟨fun g=>(Rat.mul_eq_zero.1 g).elim H.ne fun g=>?_,(H.sc.mul hp).mono (by omega),fun i=>?_⟩
  have:∀n:Nat,d^ n≠0:=fun n=>by
   induction n with
   |zero=>grind
   |succ n a=>grind
  exact this _ g;rw[show cb [c,1] (b::b'::l)=fy (aX (cb [c,1] (b'::l)) [c,1]) (eE b) from rfl,fx,Kn,sk];generalize cb [c,1] (b'::l)=X at *
  have s1:=(a.co i).mul hc
  have s2:IB (lag X i* (K* d^ l.length) * d) (h+22* l.length+20):=by
   cases i with
   |zero=>exact(IB.zero _).eq (by rw[show lag X 0=0 from rfl];grind)
   |succ i=>exact(a.co i).mul hd
  have f:IB ((if i=0 then b else 0) * K* d^ (l.length+1)) (h+22* l.length+21):=by
   split;exact(hb.mul hp).mono (by omega);exact(IB.zero _).eq (by grind)
  refine(((s1.add s2).add f).eq ?_).mono (by omega);grind
theorem HS_shift'{c d K:Rat}{h N:Nat}(d0:d≠0)(hd:IB d 20)(hc:IB (c* d) 20){l:Lq}(H:HS l K h)(hl:l.length<=N+1):∃K',HS (cb [c,1] l) K' (h+22* N):=by
 cases l with
 |nil=>exact⟨K,H.mono (by omega)⟩
 |cons b l=>
  rw[List.length_cons] at hl;exact⟨_,(wm d0 hd hc l b H).mono (by omega)⟩
theorem kf(c:Rat):∀l:Lq,(cb [c,1] l).length<=l.length
 |[]=>Nat.le_refl _
 |a::l=>by
  have b:=jm (aX (cb [c,1] l) [c,1]) (eE a);have d:=oc (cb [c,1] l) c;have f:=kf c l;have e:=oM a;rw[List.length_cons];show(fy (aX (cb [c,1] l) [c,1]) (eE a)).length<=_;omega
theorem nP{c d K:Rat}{h N:Nat}(d0:d≠0)(hd:IB d 20)(hc:IB (c* d) 20)(hq:qs c<=20)(h1:1<=h)(hN:(N+1) * (h+22* N+22)<=100000000)(hN2:N<=1000):∀(l:Lq),l.length<=N+1->HS l K h->gI [c,1] l
 |[],_,_=>trivial
 |a::l,hl,H=>by
  rw[List.length_cons] at hl;have Ht:HS l K h:=⟨H.ne,H.sc,fun i=>H.co (i+1)⟩;obtain⟨n,j⟩:=HS_shift' (N:=N) d0 hd hc Ht (by omega);have hb:=j.bdL (by omega);have m:=mxL_le hb (by omega);have g:=kf c l;have k:=oc (cb [c,1] l) c
  have f:mxL [c,1]<=20:=mxL_le (fun q b=>by
   rcases List.mem_cons.1 b with rfl|b
   exact hq;rw[List.mem_singleton.1 b];exact Nat.le_trans (by decide:qs 1<=1) (by decide)) (by decide)
  have ha:=H.bdL h1 a (List.mem_cons_self ..);have e:(cb [c,1] l).length* (mxL (cb [c,1] l)+mxL [c,1]+1)<=(N+1) * (h+22* N+22):=Nat.mul_le_mul (by omega) (by omega);have e2:h<=(N+1) * (h+22* N+22):=Nat.le_trans (by omega) (Nat.le_mul_of_pos_left _ (by omega));refine⟨nP d0 hd hc hq h1 hN hN2 l (by omega) Ht,⟨by omega,by omega,by omega,by simp⟩,by unfold sm;omega,by omega⟩
abbrev Ke:=List (Lq×Lq)
def upF(a:Rat)(u o:Lq)(p:Lq×Lq):Lq:=fy o (aX p.1 (dP (aL (aX p.2 u)) [aE (aL (aX p.2 u)) a]))
def upL(a:Rat)(u:Lq):Ke->Lq->Lq
 |[],o=>o
 |p::k,o=>upL a u k (upF a u o p)
def upK(k:Ke)(a:Rat)(u:Lq):Lq:=upL a u k []
theorem Aa(a:Rat)(u:Lq):∀(k:Ke) (o:Lq) (p:Lq×Lq),upL a u (k++[p]) o=upF a u (upL a u k o) p
 |[],_,_=>rfl
 |q::k,o,p=>Aa a u k (upF a u o q) p
structure OkUF (a:Rat)(u o:Lq)(p:Lq×Lq):Prop where
 m1:jZ p.2 u
 i1:(aX p.2 u).length<=1099511627775
 i2:smL (aL (aX p.2 u))
 e1:hZ (aL (aX p.2 u)) a
 l1:(aL (aX p.2 u)).length<=1099511627776
 m2:jZ p.1 (dP (aL (aX p.2 u)) [aE (aL (aX p.2 u)) a])
 o1:smL o
 o2:o.length<=1099511627776
 l2:(aX p.1 (dP (aL (aX p.2 u)) [aE (aL (aX p.2 u)) a])).length<=1099511627776
def AF(k:Ke)(a:Rat)(u:Lq):Prop:=∀i p,k[i]?=some p->OkUF a u (upL a u (k.take i) []) p
structure KHS (k:Ke)(KA KB:Rat)(h:Nat):Prop where
 len:∀p∈k,p.1.length<=4/\p.2.length<=4
 a:∀p∈k,HS p.1 KA h
 b:∀p∈k,HS p.2 KB h
theorem pow_nz'{d:Rat}(h:d≠0):∀n:Nat,d^ n≠0
 |0=>by grind
 |n+1=>by rw[Rat.pow_succ];intro g;rcases Rat.mul_eq_zero.1 g with g|g;exact pow_nz' h n g;grind
structure TeB (A B u:Lq)(a S:Rat)(h:Nat):Prop where
 m:(aX B u).length<=u.length+4
 il:(aL (aX B u)).length<=u.length+5
 ib:bdL (aL (aX B u)) h
 sb:bdL (dP (aL (aX B u)) [aE (aL (aX B u)) a]) h
 sl:(dP (aL (aX B u)) [aE (aL (aX B u)) a]).length<=u.length+5
 l:(aX A (dP (aL (aX B u)) [aE (aL (aX B u)) a])).length<=u.length+9
 H:HS (aX A (dP (aL (aX B u)) [aE (aL (aX B u)) a])) S h
theorem te_HS{A B u:Lq}{a d KA KB K:Rat}{h h':Nat}(hA:A.length<=4)(hB:B.length<=4)(hu:u.length<=245)(HA:HS A KA h)(HB:HS B KB h)(H:HS u K h')(d0:d≠0)(hd:IB d 20)(ha:IB (a* d) 20)(h1:1<=h):TeB A B u a (KA* (KB* K* qj 250* d^ 255)) (h'+2* h+13000):=by
 have m1:=AP B u;have i1:=iV (aX B u);have k:=HB.mul H hB;have c:=k.integral (L:=250) (by omega) (by decide);have j:=o0 (aL (aX B u)) [aE (aL (aX B u)) a];rw[List.length_singleton] at j;have o:=AP A (dP (aL (aX B u)) [aE (aL (aX B u)) a]);have e:=c.bdL (by omega);generalize l:aL (aX B u)=f at *
 have m:f.length<=250:=by omega
 have hp:=lW hd 255;have g:=lW hd (255- f.length);have hv:=(BA hd ha f c.all).mul g;have e0:d^ f.length* d^ (255- f.length)=d^ 255:=by rw[<-sP,show f.length+(255- f.length)=255 by omega]
 have n:=(c.rescale (pow_nz' d0 255) hp).mono (show _<=h'+h+12800 by omega);have b:=n.less (v:=aE f a) ((hv.eq (by grind)).mono (by omega));rw[<-HZ] at b;have i:=HA.mul b hA;subst l;exact⟨by omega,by omega,bdL_mono' e (by omega),bdL_mono' (b.bdL (by omega)) (by omega),by omega,by omega,i.mono (by omega)⟩
theorem HH{a d KA KB K:Rat}{u:Lq}{h h':Nat}(hu:u.length<=240)(H:HS u K h')(d0:d≠0)(hd:IB d 20)(ha:IB (a* d) 20)(hq:qs a<=20)(h1:1<=h)(hlim:h'+2* h+14000<=400000000):∀(k:Ke) (o:Lq) (n:Nat),KHS k KA KB h->n+k.length<=900->o.length<=u.length+9->HS o (KA* (KB* K* qj 250* d^ 255)) (h'+2* h+13000+n)->
    HS (upL a u k o) (KA* (KB* K* qj 250* d^ 255)) (h'+2* h+13000+(n+k.length))/\(upL a u k o).length<=u.length+9/\∀i p,k[i]?=some p->OkUF a u (upL a u (k.take i) o) p
 |[],o,n,_,_,ho,Ho=>⟨Ho,ho,fun i p hp=>by grind⟩
 |p::k,o,n,hk,hn,ho,Ho=>by
  rw[List.length_cons] at hn;obtain⟨l1,l2⟩:=hk.len p (List.mem_cons_self ..);have f:=hk.a p (List.mem_cons_self ..);have e:=hk.b p (List.mem_cons_self ..);have T:=te_HS l1 l2 (show u.length<=245 by omega) f e H d0 hd ha h1;have al:=jm o (aX p.1 (dP (aL (aX p.2 u)) [aE (aL (aX p.2 u)) a]));have hl:=T.l;have r:HS (upF a u o p) (KA* (KB* K* qj 250* d^ 255)) (h'+2* h+13000+(n+1)):=(Ho.plus (T.H.mono (by omega))).mono (by omega);obtain⟨j,s,g⟩:=HH hu H d0 hd ha hq h1 hlim k (upF a u o p) (n+1) ⟨fun q hq=>hk.len q (List.mem_cons_of_mem _ hq),fun q hq=>hk.a q (List.mem_cons_of_mem _ hq),fun q hq=>hk.b q (List.mem_cons_of_mem _ hq)⟩ (by omega) (by unfold upF;omega) r;refine⟨by rw[List.length_cons,show n+(k.length+1)=n+1+k.length by omega];exact j,s,fun i q c=>?_⟩;cases i with
  |zero=>
   cases c;show OkUF a u o p;have w:=mxL_le (f.bdL h1) h1;have b1:=mxL_le (e.bdL h1) h1;have u1:=mxL_le ((H.mono (show h'<=h'+1 by omega)).bdL (by omega)) (by omega);have i1:=mxL_le T.ib (by omega);have s1:=mxL_le T.sb (by omega);have o1:=Ho.bdL (by omega);have t:=T.m;have il:=T.il;have sl:=T.sl;have e1:p.2.length* (mxL p.2+mxL u+1)<=4* (h+h'+2):=Nat.mul_le_mul l2 (by omega);have e2:p.1.length* (mxL p.1+mxL (dP (aL (aX p.2 u)) [aE (aL (aX p.2 u)) a])+1)<=4* (h'+3* h+13002):=Nat.mul_le_mul l1 (by omega);have v:(aL (aX p.2 u)).length* (mxL (aL (aX p.2 u))+qs a+1)<=250* (h'+2* h+13021):=Nat.mul_le_mul (by omega) (by omega);exact⟨⟨by omega,by omega,by omega,by omega⟩,by omega,dI T.ib (by omega),⟨by omega,by omega⟩,by omega,⟨by omega,by omega,by omega,by omega⟩,dI o1 (by omega),by omega,by omega⟩
  |succ i=>exact g i q (by grind)
theorem xU{k:Ke}{a d KA KB K:Rat}{u:Lq}{h h':Nat}(hk:KHS k KA KB h)(hkl:k.length<=900)(hu:u.length<=240)(H:HS u K h')(d0:d≠0)(hd:IB d 20)(ha:IB (a* d) 20)(hq:qs a<=20)(h1:1<=h)(A0:KA≠0)(B0:KB≠0)(IA:IB KA h)(IBB:IB KB h)(hlim:h'+2* h+14000<=400000000):HS (upK k a u) (KA* (KB* K* qj 250* d^ 255)) (h'+2* h+13000+k.length)/\(upK k a u).length<=u.length+9/\AF k a u:=by
 have c:HS [] (KA* (KB* K* qj 250* d^ 255)) (h'+2* h+13000+0):=by
  refine⟨fun g=>?_,?_,fun i=>(IB.zero _).eq (by show 0=(0:Rat) * _;grind)⟩;rcases Rat.mul_eq_zero.1 g with g|g
  exact A0 g;rcases Rat.mul_eq_zero.1 g with g|g
  rcases Rat.mul_eq_zero.1 g with g|g
  rcases Rat.mul_eq_zero.1 g with g|g
  exact B0 g;exact H.ne g;have:=vy 250;grind;exact pow_nz' d0 255 g;have b:=ze 250 (by omega);have hp:=lW hd 255;exact(IA.mul (((IBB.mul H.sc).mul b).mul hp)).mono (by omega)
 have:=HH hu H d0 hd ha hq h1 hlim k [] 0 hk (by omega) (Nat.zero_le _) c;rw[Nat.zero_add] at this;exact this
def seK(k:Ke)(G:Lq)(L:Rat)(n:Nat):Nat->Lq
 |0=>[]
 |r+1=>DT (fy G (a7 (upK k 0 (seK k G L n r)) L)) n
theorem yi(k:Ke)(G:Lq)(L:Rat)(n:Nat):∀r,(seK k G L n r).length<=n+1
 |0=>by rw[seK];grind
 |r+1=>by exact BL _ _
section
variable {k:Ke}{G:Lq}{L dL KA KB KG:Rat}{h:Nat}(hk:KHS k KA KB h)(hkl:k.length<=900)(h1:1<=h)(h2:h<=1000)(A0:KA≠0)(B0:KB≠0)(IA:IB KA h)(IBB:IB KB h)(HG:HS G KG 3000)(l0:dL≠0)(l1:IB dL 20)(l2:IB (L* dL) 20)
include hk hkl h1 h2 A0 B0 IA IBB HG l0 l1 l2
theorem H9{n:Nat}(hn:n<=40):∀r,r<=1000->(∃K,HS (seK k G L n r) K (20000* r+1))/\AF k 0 (seK k G L n r)
 |0,_=>⟨⟨1,HS.nil.mono (by omega)⟩,(xU (u:=[]) (d:=1) hk hkl (by decide) HS.nil (by decide) (IB.one.mono (by omega)) ((IB.zero 20).eq (by grind)) (by decide) h1 A0 B0 IA IBB (by omega)).2.2⟩
 |r+1,hr=>by
  obtain⟨⟨K,H⟩,_⟩:=H9 hn r (by omega);have hl:=yi k G L n r;have e:=(xU (a:=0) (d:=1) hk hkl (by omega) H (by decide) (IB.one.mono (by omega)) ((IB.zero 20).eq (by grind)) (by decide) h1 A0 B0 IA IBB (by omega)).1;have c:=e.k l0 l1 l2;have b:=((HG.plus2 c).cut n).mono (show _<=20000* (r+1)+1 by omega);exact⟨⟨_,b⟩,(xU (a:=0) (d:=1) hk hkl (by have:=BL (fy G (a7 (upK k 0 (seK k G L n r)) L)) n;omega) b (by decide) (IB.one.mono (by omega)) ((IB.zero 20).eq (by grind)) (by decide) h1 A0 B0 IA IBB (by omega)).2.2⟩
end
def Ee(v:Sp):Rat:=if 0<=v.1 then v.2 else if v.2<=0 then -v.1 else oz [-v.1,v.2]
def kL{α:Type}(f:α->Rat):List α->Rat
 |[]=>0
 |p::k=>f p+kL f k
def mvK(a:Rat)(k:Ke):Ke:=k.map fun p=>(cb [a,1] p.1,cb [a,1] p.2)
def jd(b:Nat):Nat->Nat->Ln
 |0,_=>[]
 |n+1,m=>m % b::jd b n (m/ b)
@[simp] theorem kw (b:Nat):∀n m,(jd b n m).length=n
 |0,_=>rfl
 |n+1,m=>by simp[jd,kw b n]
theorem tw{b:Nat}(hb:0< b):∀n m,∀d∈jd b n m,d< b
 |0,_,d,h=>by cases h
 |n+1,m,d,h=>by
  rcases List.mem_cons.1 h with rfl|h
  exact Nat.mod_lt _ hb;exact tw hb n _ d h
theorem pp{b:Nat}(hb:0< b):∀{n m:Nat},m< b^ n->ofD b (jd b n m)=m
 |0,m,h=>by simp at h;subst h;rfl
 |n+1,m,h=>by
  rw[jd,ofD,pp hb (by rw[Nat.div_lt_iff_lt_mul hb];exact h)];exact Nat.mod_add_div m b
theorem AC{b:Nat}:∀{l:Ln},(∀d∈l,d< b)->jd b l.length (ofD b l)=l
 |[],_=>rfl
 |d::l,h=>by
  have a:=h d (List.mem_cons_self ..);have e:ofD b (d::l) % b=d:=by rw[ofD,Nat.add_mul_mod_self_left];exact Nat.mod_eq_of_lt a
  have c:ofD b (d::l) / b=ofD b l:=by rw[ofD,Nat.add_mul_div_left _ _ (by omega),Nat.div_eq_of_lt a];omega
  rw[List.length_cons,jd,e,c,AC fun x f=>h x (List.mem_cons_of_mem _ f)]
theorem zj{b n m:Nat}{l:Ln}(h:∀d∈l,d< b)(hl:l.length=n)(hv:ofD b l=m):l=jd b n m:=by
 subst hl hv;exact(AC h).symm
theorem Gj{v:Nat}(h1:1<=v)(h2:v< 1000000000):500000000<=v* (1000000000/ (v+1))/\(v+1) * (1000000000/ (v+1))<=1000000000/\1<=1000000000/ (v+1):=by
 have a:(v+1) * (1000000000/ (v+1))<=1000000000:=Nat.mul_div_le _ _;have c:1000000000< (v+1) * (1000000000/ (v+1))+(v+1):=Nat.lt_mul_div_succ _ (by omega);have b:1<=1000000000/ (v+1):=by grind
 refine⟨?_,a,b⟩;obtain⟨q,d⟩:∃q,q=1000000000/ (v+1):=⟨_,rfl⟩;rw[<-d] at a c b⊢;rw[Nat.add_mul] at a c;by_cases c1:500000000<=v;have:=Nat.mul_le_mul_left v b;omega;by_cases c2:250000000<=v;have:2<=q:=by grind
 have:=Nat.mul_le_mul_left v this;omega;by_cases c3:166666666<=v
 have:4<=q:=by
  rw[d,Nat.le_div_iff_mul_le (by omega)];omega
 have:=Nat.mul_le_mul_left v this;omega;by_cases c4:v=1;subst c4;omega
 have:q<=333333333:=by
  have:1000000000/ (v+1)<=1000000000/ 3:=Nat.div_le_div_left (by omega) (by omega);omega
 omega
theorem Jk{b n p w u v lo lw:Nat}(hb:0< b)(hp:p=lo+b^ n* u)(hlo:lo< b^ n)(hw:w=lw+b^ n* v)(hlw:lw< b^ n)(hv:b<=2* v)(hvb:v< b)(hq:p< w* b):
    p/ w<=min (u/ v) (b- 1)/\min (u/ v) (b- 1)<=p/ w+2:=by
 have e:0< v:=by omega
 have m:0< b^ n:=Nat.pow_pos hb;have c:0< w:=by grind
 have q1:w* (p/ w)<=p:=Nat.mul_div_le _ _;have q2:p< w* (p/ w)+w:=Nat.lt_mul_div_succ _ c;have q3:p/ w< b:=by rw[Nat.div_lt_iff_lt_mul c,Nat.mul_comm];grind
 obtain⟨q,f⟩:∃q,q=p/ w:=⟨_,rfl⟩;rw[<-f] at q1 q2 q3⊢;have j:v* (u/ v)<=u:=Nat.mul_div_le _ _;obtain⟨g,a⟩:∃g,g=u/ v:=⟨_,rfl⟩;rw[<-a] at j;constructor;refine Nat.le_min.2 ⟨?_,by omega⟩;rw[<-a,a,Nat.le_div_iff_mul_le e]
 -- q v<=u,for q v b^n<=q w<=p< (u+1) b^n
 have i:b^ n* (q* v)<=w* q:=by rw[hw,Nat.add_mul,Nat.mul_assoc,Nat.mul_comm v q];omega
 have h:b^ n* (q* v)< b^ n* (u+1):=by grind
 have:=Nat.lt_of_mul_lt_mul_left h;omega;rw[<-a]
 -- if min g (b- 1)≥q+3 then(q+3) v<=u and so p≥b^n (q+3) v,but p< w (q+1)
 refine Nat.le_of_not_lt fun k=>?_;have d:q+3<=g:=by grind
 have o:q+3<=b- 1:=by grind
 have i:v* (q+3)<=u:=Nat.le_trans (Nat.mul_le_mul_left _ d) j;have h:b^ n* (v* (q+3))<=p:=by rw[hp];have:=Nat.mul_le_mul_left (b^ n) i;omega
 have s:w* (q+1)< b^ n* ((v+1) * (q+1))+1:=by
  have:w<=b^ n* (v+1):=by grind
  have:=Nat.mul_le_mul_right (q+1) this;grind
 have r:p< w* (q+1):=by grind
 have l:b^ n* (v* (q+3))< b^ n* ((v+1) * (q+1)):=by omega
 have t:=Nat.lt_of_mul_lt_mul_left l;grind
end Go.Abs
