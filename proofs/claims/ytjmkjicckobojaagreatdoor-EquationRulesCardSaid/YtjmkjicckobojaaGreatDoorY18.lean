/- Part Y18 of the proof. -/
import Derived.Test.YtjmkjicckobojaaGreatDoorY17
import Derived.Test.YtjmkjicckobojaaGreatDoorProg
import Derived.KernelRfl
set_option linter.all false
namespace Go.Abs
set_option maxRecDepth 20000
section
variable {X:Mx}{i j k n r c:Nat}
def puM(X:Mx)(i j:Nat)(v:Rat):Mx:=λk t=>if k=i/\t=j then v else X k t
theorem puM_ne{v:Rat}(h:k≠i):puM X i j v k=X k:=funext λt=>if_neg λe=>h e.1
theorem puM_set{m:Nat}{v:Rat}(h:j< m):∀e:Nat,e=j->(pE (aI m (X i))).set e (qC v)=pE (aI m (puM X i j v i)):=λe a=>by
 subst a;rw[jg];congr 1;refine DE λt=>?_;rw[Aa];by_cases ht:t< m;by_cases h1:e=t;subst h1;simp[aI,ht,puM];rw[if_neg h1];simp[aI,ht,puM,show¬t=e from λb=>h1 b.symm];simp_all
theorem fb{X:Nat->Rat}{m:Nat}(h:j< m):∀e:Nat,e=j->(pE (aI m X))[e]?=some (qC (X j)):=λe a=>by
 subst a;simp[pE,aI,h]
def rT(n:Nat)(X:Mx)(k:Nat):Lq:=aI (n+1) (X k)
theorem vP{Y:Mx}(h:∀j,j<=n->X k j=Y k j):rT n X k=rT n Y k:=by
 exact Nn λt a=>h t φ
@[simp] theorem rT_length (n:Nat)(X:Mx)(k:Nat):(rT n X k).length=n+1:=by simp[rT]
def scJ(X:Mx)(r:Nat)(f:Rat)(j:Nat):Mx:=λi t=>if i=r/\t< j then X i t* f else X i t
theorem scJ_0(X:Mx)(r:Nat)(f:Rat):scJ X r f 0=X:=funext λi=>funext λt=>if_neg λe=>by omega
theorem scJ_at(X:Mx)(r:Nat)(f:Rat)(j:Nat):scJ X r f j r j=X r j:=if_neg λe=>by omega
theorem scJ_s(X:Mx)(r:Nat)(f:Rat)(j:Nat):scJ X r f (j+1)=puM (scJ X r f j) r j (X r j* f):=funext λi=>funext λt=>by
 show(if i=r/\t< j+1 then X i t* f else X i t)=if i=r/\t=j then X r j* f else if i=r/\t< j then X i t* f else X i t
 grind
theorem scJ_n{f:Rat}(k j:Nat)(h:j<=n):scJ X r f (n+1) k j=scM X r f k j:=by
 unfold scJ scM;grind
def rdJ(X:Mx)(r c i j:Nat):Mx:=λk t=>if k≠r/\(k< i\/(k=i/\t< j)) then X k t- X k c* X r t else X k t
theorem rdJ_0(X:Mx)(r c:Nat):rdJ X r c 0 0=X:=funext λi=>funext λt=>if_neg λe=>by omega
theorem rdJ_at(X:Mx)(r c i j:Nat):rdJ X r c i j i j=X i j:=if_neg λe=>by omega
theorem rdJ_c(X:Mx)(r c i:Nat):rdJ X r c i 0 i=X i:=funext λt=>if_neg λe=>by omega
theorem rdJ_r(X:Mx)(r c i j:Nat):rdJ X r c i j r=X r:=funext λt=>if_neg λe=>e.1 rfl
theorem rdJ_s(h:i≠r):rdJ X r c i (j+1)=puM (rdJ X r c i j) i j (X i j- X i c* X r j):=funext λk=>funext λt=>by
 show(if k≠r/\(k< i\/(k=i/\t< j+1)) then X k t- X k c* X r t else X k t)=if k=i/\t=j then X i j- X i c* X r j else if k≠r/\(k< i\/(k=i/\t< j)) then X k t- X k c* X r t else X k t
 grind
theorem rdJ_n(i k j:Nat)(h:j<=n):rdJ X r c i (n+1) k j=rdJ X r c (i+1) 0 k j:=by
 unfold rdJ;grind
theorem BD(h:i=r\/X i c=0):rdJ X r c (i+1) 0=rdJ X r c i 0:=funext λk=>funext λt=>by
 unfold rdJ;grind
theorem rdJ_end(h:k< n)(j:Nat):rdJ X r c n 0 k j=rdM X r c k j:=by
 unfold rdJ rdM;grind
def slB(s:Nat):Nat->Nat
 |0=>s
 |c+1=>4* slB s c+2
theorem jI{s:Nat}(h:k<=n):slB s k<=slB s n:=by
 induction n with
 |zero=>grind
 |succ n a=>
  by_cases e:k=n+1;rw[e];exact ir _;rw[slB];omega
theorem Mr{A:Mx}{s:Nat}{L:Ln}(h:bdM A n s)(hL:L.length<=c)(hc:c< n):bdM (slC A n L c).1 n (4* s+2):=by
 unfold slC;cases e:pvR A n L.length c with
 |none=>exact λi j d a=>fo (h i j d a) ω
 |some p=>
  obtain⟨p1,p2,k⟩:=ny e;have g:L.length< n:=ω
  have f:=Mp h g p1
  have b:∀j,j<=n->qs (scM (swM A L.length p) L.length (1/ A p c) L.length j)<=2* s+1:=λj a=>by
   unfold scM;rw[if_pos rfl];have w:=f L.length j g a;have x:=fS 1 (A p c);have v:qs 1<=1:=δ
   have l:=h p c p1 ω;have o:=cP (swM A L.length p L.length j) (1/ A p c);omega
  intro i j d a;show qs (rdM (scM (swM A L.length p) L.length (1/ A p c)) L.length c i j)<=_;unfold rdM;by_cases hir:i=L.length;subst hir;rw[if_pos rfl];have:=b j a;omega;rw[if_neg hir];have b1:∀t,scM (swM A L.length p) L.length (1/ A p c) i t=swM A L.length p i t:=λt=>if_neg hir;rw[b1,b1];have m:=f i j d a;have q:=f i c d ω;have r:=b j a;have y:=cP (swM A L.length p i c) (scM (swM A L.length p) L.length (1/ A p c) L.length j);have u:=po (swM A L.length p i j) (swM A L.length p i c* scM (swM A L.length p) L.length (1/ A p c) L.length j);omega
theorem FE{M:Mx}{n s:Nat}(h:bdM M n s):∀c,c<=n->bdM (slM M n c).1 n (slB s c)
 |0,_=>h
 |c+1,hc=>Mr (FE h c ω) (eA M n c).len ω
end
section
variable {A:Mx}{n i:Nat}{L:Ln}
def qq(A:Mx)(n:Nat)(L:Ln)(i:Nat):Lq:=aI n λj=>if (L.take i).contains j then A (L.idxOf j) n else 0
def uo(A:Mx)(n:Nat)(L:Ln):Lq:=aI n (oneX A n L)
@[simp] theorem BP (A:Mx)(n:Nat)(L:Ln)(i:Nat):(qq A n L i).length=n:=by simp[qq]
@[simp] theorem oneL_length (A:Mx)(n:Nat)(L:Ln):(uo A n L).length=n:=by simp[uo]
theorem Ji(n:Nat):aI n (λ_=>0)=List.replicate n (0:Rat):=by
 unfold aI;rw[List.eq_replicate_iff];grind
theorem oneJ_0(A:Mx)(n:Nat)(L:Ln):qq A n L 0=List.replicate n (0:Rat):=by
 unfold qq;rw[<-Ji];simp
theorem oneJ_n(h:L.length<=i):qq A n L i=uo A n L:=by
 unfold qq uo;rw[nk h];rfl
theorem Kb{c:Nat}(h:c< n):∀e:Nat,e=c->∃v,(pE (qq A n L i))[e]?=some (qC v):=λe a=>by
 subst a;exact⟨_,fb h e rfl⟩
theorem oneJ_s{c0:Nat}{c:Nat}(hE:Ech A n c0 L)(hl:L[i]?=some c)(hc:c< n):∀e:Nat,e=c->(pE (qq A n L i)).set e (qC (A i n))=pE (qq A n L (i+1)):=λe b=>by
 subst b;rw[jg];congr 1;have a:L.take (i+1)=L.take i++[e]:=by rw[NT,hl];rfl
 refine DE λt=>?_;rw[Aa,BP];by_cases ht:t< n;by_cases h1:e=t;subst h1;rw[if_pos rfl,if_pos ht];unfold qq aI;rw[wS,MY ht,a,DS,if_pos ψ,hE.idx hl];rw[if_neg h1];unfold qq aI;rw[wS,wS,MY ht,a,DS,DS];have d:(L.take i++[e]).contains t=(L.take i).contains t:=φ
 rw[d];simp_all
def k7(n:Nat)(A:Mx):Lw:=(List.range n).map λk=>aI (n+1) (A k)
@[simp] theorem rowsL_length (n:Nat)(A:Mx):(k7 n A).length=n:=by simp[k7]
theorem lO(h:i< n):(k7 n A)[i]?=some (aI (n+1) (A i)):=by simp[k7,h]
def lU(n:Nat)(A:Mx)(L:Ln):Bool:=((k7 n A).drop L.length).any λe=>decide (coP e n≠0)
theorem BT(h:lU n A L=false):∀i,L.length<=i->i< n->A i n=0:=λi b a=>by
 refine zv λg=>?_
 have:lU n A L=true:=by
  unfold lU;rw[List.any_eq_true];refine⟨aI (n+1) (A i),mc (i:=i- L.length) (by rw[OU,show L.length+(i- L.length)=i by omega];exact lO a),decide_eq_true ?_⟩;unfold coP aI;rw[jH];simpa using g
 rw[h] at this;cases this
def smF(c:Rat)(o:Lq)(p:Lq×Lq):Lq:=ec o (aW p.1 c)
def uk:Ke->Lq->Lq->Lq
 |[],_,o=>o
 |p::k,c,o=>uk k c.tail (smF (coP c 0) o p)
def smK(k:Ke)(c:Lq)(i:Nat):Lq:=uk (k.take i) c []
theorem xR:∀(k:Ke) (c o:Lq) (p:Lq×Lq),uk (k++[p]) c o=smF (coP c k.length) (uk k c o) p
 |[],c,o,p=>rfl
 |q::k,c,o,p=>by
  rw[LJ,uk,xR k,uk];cases c with
  |nil=>simp[coP]
  |cons a c=>rfl
theorem smK_s{k:Ke}{c:Lq}{p:Lq×Lq}(h:k[i]?=some p):smK k c (i+1)=smF (coP c i) (smK k c i) p:=by
 have a:k.take (i+1)=k.take i++[p]:=by rw[NT,h];rfl
 have b:=(jY.1 h).1;unfold smK;rw[a,xR,yv,KM ω]
theorem xT(x:Rat):∀(k:Ke) (c o:Lq),c.length=k.length->ag (uk k c o) x=ag o x+fX (λp=>ag p.1.1 x* p.2) (k.zip c)
 |[],[],o,_=>by rw[uk];show _=ag o x+0;grind
 |p::k,[],_,h=>by cases h
 |[],a::c,_,h=>by cases h
 |p::k,a::c,o,h=>by
  rw[uk,List.tail_cons,xT x k c _ (by simpa using h),smF,cb,aT,fv,Oi,fX];show _=_+(ag p.1 x* a+_);grind
end
section
variable {M A:Mx}{n:Nat}{L:Ln}
theorem el_sol{c:Rat}{k:Nat}{x:Nat->Rat}(hk:k< n)(hz:∀j,j< k->M k j=0)(h:Sol c M n x):Sol c (elM M k n) n x:=by
 have a:∀i j,i< n->i≠k->elM M k n i j=M i j- M i k/ M k k* M k j:=λi j b f=>by
  unfold elM;by_cases e:k<=j;rw[if_pos ⟨b,f,e⟩];rw[if_neg (λl=>e l.2.2),hz j ω];grind
 have d:∀j,elM M k n k j=M k j:=λj=>by unfold elM;rw[if_neg (λe=>e.2.1 rfl)]
 intro i b;by_cases e:i=k;subst e;rw[d,cw (g:=λj=>M i j* x j) n λj _=>by rw[d]];exact h i b;rw[a i n b e,cw (g:=λj=>M i j* x j- M i k/ M k k* (M k j* x j)) n λj _=>by rw[a i j b e];grind,ot,h i b,h k hk];grind
theorem KS{M:Mx}{n:Nat}:∀k A,k<=n->gjM M n k=some A->∀c x,Sol c M n x->Sol c A n x
 |0,A,_,h=>by cases h;exact λ_ _ h=>h
 |k+1,A,hk,h=>by
  rw[gjM] at h;cases e:gjM M n k with
  |none=>rw[e] at h;cases h
  |some B=>
   rw[e,zL] at h;have i1:=KS k B ω e;obtain⟨_,i2⟩:=qR k B ω e;cases e2:pvt B n k with
   |none=>rw[e2] at h;cases h
   |some p=>
    rw[e2] at h;cases h;obtain⟨p1,p2,b⟩:=vQ e2;have d:=Hf i2 p2 p1;exact λc x hs=>el_sol ω (λj a=>(d j a).2 k ω ω) ((F4 ω p1).2 (i1 c x hs))
theorem Ae(h:gjM M n n=some A){c:Rat}{x y:Nat->Rat}(hx:Sol c M n x)(hy:Sol c M n y):∀j,j< n->x j=y j:=by
 obtain⟨_,d⟩:=qR n A (ir _) h
 have a:∀z,Sol c M n z->∀i,i< n->A i i* z i=c* A i n:=λz q i k=>by
  have f:=KS n A (ir _) h c z q i k;rw[cw (g:=λj=>if j=i then A i i* z i else 0) n λj b=>?_,jV,if_pos k] at f;exact f;by_cases e:j=i;rw[if_pos e,e];rw[if_neg e,(d j b).2 i k (λp=>e p.symm)];grind
 intro j b;have f:=a x hx j b;have r:=a y hy j b;have o:=(d j b).1;have m:A j j* (x j- y j)=0:=φ
 rcases y4.1 m with l|l
 exact absurd l o;grind
theorem Bm(A:Mx)(n:Nat):Sol 0 A n (λ_=>0):=λi b=>by
 rw[cw (g:=λj=>if j=n then 0 else 0) n λj a=>by grind,jV,if_neg ω];grind
theorem Ech.gap{c:Nat}(h:Ech A n c L){i l:Nat}(hi:L[i]?=some l):∀d m,L[i+d]?=some m->l+d<=m
 |0,m,hm=>by rw[M6] at hm;rw[hi] at hm;cases hm;omega
 |d+1,m,hm=>by
  have b:=(jY.1 hm).1;have a:L[i+d]?=some L[i+d]:=eT ω;have e:=h.gap hi d _ a;have f:=h.inc _ _ _ _ a hm ω;omega
theorem Ech.all(h:Ech A n n L)(hl:n<=L.length):∀j,j< n->j∈L:=λj g=>by
 have a:L[j]?=some L[j]:=eT ω;have c:L[0]?=some L[0]:=eT ω;have b:L[j+(n- 1- j)]?=some L[j+(n- 1- j)]:=eT ω;have f:=h.gap c j L[j] (by rw[vY];exact a);have d:=h.gap a _ _ b;have i:=h.lt _ _ b;have e:L[j]=j:=ω
 rw[<-e];exact FH _
theorem Ech.full(h:Ech A n n L)(hL:∀j,j< n->j∈L):n<=L.length:=by
 have c:∀j,j< n->∃k,j<=k/\L[k]?=some j:=λj=>by
  induction j with
  |zero=>exact λd=>by obtain⟨k,g⟩:=NE (hL 0 d);exact⟨k,mN _,g⟩
  |succ j i=>
   intro d;obtain⟨k,f,a⟩:=i ω;obtain⟨t,b⟩:=NE (hL (j+1) d);refine⟨t,?_,b⟩;by_cases e:k< t;omega;by_cases e2:t=k;rw[e2,a] at b;cases b;have:=h.inc _ _ _ _ b a ω;omega
 by_cases hn:n=0;omega;obtain⟨k,f,a⟩:=c (n- 1) ω;have:=(jY.1 a).1;omega
theorem H1(h:gjM M n n=none):(slM M n n).2.length< n:=by
 refine Np λc=>?_;obtain⟨x,⟨j,a,d⟩,hs⟩:=Af n (ir _) h;have b:=eA M n n;exact d (b.uniq ((oi n).2 hs) (Bm _ _) (λj a g=>absurd (b.all c j a) g) j a)
theorem H0(h:gjM M n n=some A):n<=(slM M n n).2.length/\uo (slM M n n).1 n (slM M n n).2=aI n λi=>A i n/ A i i:=by
 have b:=eA M n n
 have e:n<=(slM M n n).2.length:=b.full λf c=>by
  refine zv λg=>?_;have m:=(oi n).1 (b.zerX c g);have a:=Ae h m (Bm M n) f c;unfold Abs.zerX at a;rw[if_neg (by simpa using g),if_pos rfl] at a;exact absurd a δ
 refine⟨e,?_⟩;have a:=(oi n).1 (b.oneX λi p o=>ω);have k:=EG h;have l:=Ae h a k;unfold uo aI;exact Nn λj d=>l j (xd.1 d)
end
section
variable {L:Ln}{f n i:Nat}{A:Mx}
def frL(L:Ln)(f:Nat):Ln:=(List.range f).filter λj=>!L.contains j
theorem frL_0(L:Ln):frL L 0=[]:=rfl
theorem Aw(h:L.contains f=true):frL L (f+1)=frL L f:=by
 unfold frL;rw[FI,List.filter_append];simp at h;simp[h]
theorem uX(h:L.contains f=false):frL L (f+1)=frL L f++[f]:=by
 unfold frL;rw[FI,List.filter_append];simp at h;simp[h]
theorem Ax(L:Ln):∀f,(frL L f).length<=f
 |0=>ir _
 |f+1=>by
  have:=Ax L f;cases h:L.contains f with
  |true=>rw[Aw h];omega
  |false=>rw[uX h,zq,xb];omega
def j4(A:Mx)(n:Nat)(L:Ln)(f:Nat):Lq:=aI n (zerX A L f)
def zeJ(A:Mx)(n:Nat)(L:Ln)(f i:Nat):Lq:=aI n λj=>if (L.take i).contains j then -A (L.idxOf j) f else if j=f then 1 else 0
@[simp] theorem DC (A:Mx)(n:Nat)(L:Ln)(f i:Nat):(zeJ A n L f i).length=n:=by simp[zeJ]
@[simp] theorem zerL_length (A:Mx)(n:Nat)(L:Ln)(f:Nat):(j4 A n L f).length=n:=by simp[j4]
theorem zeJ_0(A:Mx)(n:Nat)(L:Ln)(f:Nat):(List.replicate n (0:Rat)).set f 1=zeJ A n L f 0:=by
 refine DE λt=>?_;rw[Aa];by_cases ht:t< n;by_cases h1:f=t;subst h1;simp[zeJ,aI,ht];rw[if_neg h1];have a:¬t=f:=λe=>h1 e.symm;simp[zeJ,aI,ht,a];by_cases h1:f=t;subst h1;simp[zeJ,aI,ht];rw[if_neg h1];simp[zeJ,aI,ht]
theorem zeJ_n(h:L.length<=i):zeJ A n L f i=j4 A n L f:=by
 unfold zeJ j4;rw[nk h];rfl
theorem FP{c:Nat}(h:c< n):∀e:Nat,e=c->∃v,(pE (zeJ A n L f i))[e]?=some (qC v):=λe a=>by
 subst a;exact⟨_,fb h e rfl⟩
theorem zeJ_s{c0:Nat}{c:Nat}(hE:Ech A n c0 L)(hl:L[i]?=some c)(hc:c< n):∀e:Nat,e=c->(pE (zeJ A n L f i)).set e (qC (-A i f))=pE (zeJ A n L f (i+1)):=λe b=>by
 subst b;rw[jg];congr 1;have a:L.take (i+1)=L.take i++[e]:=by rw[NT,hl];rfl
 refine DE λt=>?_;rw[Aa,DC];by_cases ht:t< n;by_cases h1:e=t;subst h1;rw[if_pos rfl,if_pos ht];unfold zeJ aI;rw[wS,MY ht,a,DS,if_pos ψ,hE.idx hl];rw[if_neg h1];unfold zeJ aI;rw[wS,wS,MY ht,a,DS,DS]
 have d:(L.take i++[e]).contains t=(L.take i).contains t:=by
  simp only[List.contains_eq_mem,n7,kI];simp[show¬t=e from λg=>h1 g.symm]
 rw[d];rw[if_neg ω,zt χ,zt χ]
end
section
variable {p q:Lq}{i n k:Nat}{B:Lw}
def rbF(p b:Lq):Lq:=if a8 b< p.length then dC p (aW b (coP p (a8 b).toNat)) else p
def rbK(p:Lq)(B:Lw):Nat->Lq
 |0=>p
 |k+1=>rbF (rbK p B k) (B.getD (B.length- 1- k) [])
def reP(p:Lq)(B:Lw):Lq:=am (rbK p B B.length)
def sK(L:Lw):Nat->Lw
 |0=>L
 |j+1=>if a8 (L.getD (j+1) [])< a8 (L.getD j []) then sK ((L.set (j+1) (L.getD j [])).set j (L.getD (j+1) [])) j else L
def kS(L:Lw):Nat->Lw
 |0=>L
 |i+1=>sK (kS L i) (i+1)
theorem Cc:∀(j:Nat) (L:Lw),(sK L j).length=L.length
 |0,L=>rfl
 |j+1,L=>by
  rw[sK];split;rw[Cc j];simp;rfl
theorem nM(L:Lw):∀i,(kS L i).length=L.length
 |0=>rfl
 |i+1=>by rw[kS,Cc,nM L i]
theorem Cb{P:Lq->Prop}:∀(j:Nat) (L:Lw),j< L.length->(∀p∈L,P p)->∀p∈sK L j,P p
 |0,L,_,h=>h
 |j+1,L,hl,h=>by
  rw[sK];split;refine Cb j _ χ λp hp=>?_
  have g:∀i,i< L.length->P (L.getD i []):=λi c=>by
   rw[jH,eT c];exact h _ (FH _)
  rcases NI hp with b|b
  rcases NI b with a|a
  exact h p a;rw[a];exact g j ω;rw[b];exact g (j+1) hl;exact h
theorem wl{P:Lq->Prop}(L:Lw)(h:∀p∈L,P p):∀i,i< L.length->∀p∈kS L i,P p
 |0,_=>h
 |i+1,hi=>Cb _ _ (by rw[nM];omega) (wl L h i ω)
theorem GR(L:Lw):∀i,(∀t,t< i->¬a8 (L.getD (t+1) [])< a8 (L.getD t []))->kS L i=L
 |0,_=>rfl
 |i+1,h=>by
  rw[kS,GR L i λt a=>h t ω,sK,if_neg (h i ω)]
theorem Cg(A C:Lw)(x:Lq):(A++x::C).getD A.length []=x:=by
 rw[jH,D2 (ir _)];simp
theorem Cd:∀(j:Nat) (A:Lw) (x:Lq) (C:Lw),A.length=j->∃A1 A2,A=A1++A2/\sK (A++x::C) j=A1++x::(A2++C)/\(∀b∈A2,a8 x< a8 b)/\∀B b,A1=B++[b]->¬a8 x< a8 b
 |0,A,x,C,hA=>by
  have:A=[]:=xi hA;subst this;exact⟨[],[],rfl,rfl,λb hb=>by simp at hb,λB b h=>by simp at h⟩
 |j+1,A,x,C,hA=>by
  obtain⟨a,b,rfl⟩:∃a b,A=a++[b]:=⟨A.dropLast,A.getLast (by intro e;rw[e] at hA;cases hA),(Gu _).symm⟩;have d:a.length=j:=by simpa using hA
  have e1:(a++[b]++x::C).getD (j+1) []=x:=by
   have:=Cg (a++[b]) C x;rwa[zq,xb,d] at this
  have e2:(a++[b]++x::C).getD j []=b:=by
   have:=Cg a (x::C) b;rw[d] at this;simpa using this
  rw[sK,e1,e2];by_cases hd:a8 x< a8 b;rw[if_pos hd]
  have m:((a++[b]++x::C).set (j+1) b).set j x=a++x::(b::C):=by
   subst d;simp[List.set_append]
  rw[m];obtain⟨A1,A2,k,g,l,i⟩:=Cd j a x (b::C) d;refine⟨A1,A2++[b],by rw[k];simp,by rw[g];simp,λc f=>?_,i⟩;rcases n7.1 f with h|h
  exact l c h;rw[kI.1 h];exact hd;rw[if_neg hd];refine⟨a++[b],[],ψ,ψ,λc f=>by simp at f,λB c h=>?_⟩;have:=List.append_inj_right' h ψ;simp at this;rw[<-this];exact hd
theorem HL(A:Lw)(x:Lq)(hs:A.Pairwise λa b=>a8 a< a8 b):∃A1 A2,A=A1++A2/\kS (A++[x]) A.length=A1++x::A2/\(∀b∈A2,a8 x< a8 b)/\∀b∈A1,a8 b<=a8 x:=by
 have g:kS (A++[x]) A.length=sK (A++x::[]) A.length:=by
  cases hA:A.length with
  |zero=>rfl
  |succ j=>
   rw[kS,GR _ j λt m=>?_];have c:t< A.length:=ω
   have f:t+1< A.length:=ω
   rw[jH,jH,Bg c,Bg f,eT c,eT f];have:=List.pairwise_iff_getElem.1 hs t (t+1) c f ω;show¬a8 A[t+1]< a8 A[t];omega
 obtain⟨A1,A2,c,f,k,i⟩:=Cd A.length A x [] rfl;refine⟨A1,A2,c,by rw[g,f];simp,k,λb hb=>?_⟩;by_cases he:A1=[];rw[he] at hb;cases hb;have e:=Gu he;have l:=i _ _ e.symm;rw[c] at hs;have d:=(LM.1 hs).1;rw[<-e] at hb d;rcases n7.1 hb with h|h
 have:=(LM.1 d).2.2 b h _ (kI.2 rfl);omega;rw[kI.1 h];omega
structure Piv (p:Lq):Prop where
 tr:am p=p
 ne:nz p
 one:aL p=1
theorem Piv.deg(h:Piv p):a8 p=(dg p:Int):=uZ h.ne
theorem Piv.len(h:Piv p):p.length=dg p+1:=by
 have a:=nB.2 h.ne;have b:=h.tr;unfold dg;rw[b] at a⊢;omega
theorem Piv.at1(h:Piv p):coP p (dg p)=1:=by rw[(cD h.ne).2,h.one]
theorem Piv.past(h:Piv p)(hi:dg p< i):coP p i=0:=(cD h.ne).1.2 i hi
theorem J1(ht:am p=p)(h1:coP p n=1)(h2:∀i,n< i->coP p i=0):Piv p/\dg p=n:=by
 obtain⟨a,b,c⟩:=kP (p:=p) (n:=n) ⟨by rw[h1];decide,h2⟩;exact⟨⟨ht,a,by rw[c,h1]⟩,b⟩
theorem zx{b:Lq}(hb:Piv b)(i:Nat):coP (rbF p b) i=coP p i- coP p (dg b) * coP b i:=by
 unfold rbF;rw[hb.deg,DH];split;rw[jE,bY];grind
 ·rename_i h
  rw[eC (p:=p) (i:=dg b) ω];grind
theorem rbF_len{b:Lq}(hb:Piv b):(rbF p b).length<=p.length:=by
 unfold rbF;rw[hb.deg];split;have a:=pX p (aW b (coP p ((dg b:Nat):Int).toNat));have c:=du b (coP p ((dg b:Nat):Int).toNat);have d:=hb.len;omega;exact ir _
theorem rbF_bd{b:Lq}{s t:Nat}(hb:Piv b)(hp:bdL p s)(hs:1<=s)(hbt:bdL b t)(ht:1<=t):bdL (rbF p b) (2* s+t+1):=iV λi=>by
 rw[zx hb];have d:=po (coP p i) (coP p (dg b) * coP b i);have a:=cP (coP p (dg b)) (coP b i);have f:=dc hp hs i;have c:=dc hp hs (dg b);have e:=dc hbt ht i;omega
def rL(p:Lq)(B:Lw):Lq:=B.reverse.foldl rbF p
theorem zF(p:Lq)(B:Lw)(b:Lq):rL p (B++[b])=rL (rbF p b) B:=by
 unfold rL;rw[List.reverse_append];rfl
theorem BE(p:Lq)(B:Lw)(b:Lq):∀k,k<=B.length->rbK p (B++[b]) (k+1)=rbK (rbF p b) B k
 |0,_=>by
  rw[rbK,rbK,rbK];congr 1;rw[jH,zq,xb,show B.length+1- 1- 0=B.length by omega,D2 (ir _)];simp
 |k+1,h=>by
  rw[rbK,BE p B b k ω,rbK];congr 1;rw[jH,jH,zq,xb,show B.length+1- 1- (k+1)=B.length- 1- k by omega,Bg ω]
theorem Gn:∀(n:Nat) (B:Lw) (p:Lq),B.length=n->rbK p B n=rL p B
 |0,B,p,h=>by
  rw[xi h];rfl
 |n+1,B,p,h=>by
  obtain⟨C,b,rfl⟩:∃C b,B=C++[b]:=⟨B.dropLast,B.getLast (by intro e;rw[e] at h;cases h),(Gu _).symm⟩;have a:C.length=n:=by simpa using h
  rw[BE p C b n ω,Gn n C _ a,zF]
theorem pn(p:Lq)(B:Lw):reP p B=am (rL p B):=by unfold reP;rw[Gn _ B p rfl]
theorem zG{Q H:Lq->Prop}(hQ:∀p b c r,Q p->H b->(∀i,coP r i=coP p i- c* coP b i)->Q r):∀(n:Nat) (B:Lw) (p:Lq),B.length=n->(∀b∈B,Piv b/\H b)->Q p->Q (rL p B)
 |0,B,p,h,_,hp=>by rw[xi h];exact hp
 |n+1,B,p,h,hB,hp=>by
  obtain⟨C,b,rfl⟩:∃C b,B=C++[b]:=⟨B.dropLast,B.getLast (by intro e;rw[e] at h;cases h),(Gu _).symm⟩;have a:C.length=n:=by simpa using h
  obtain⟨b1,b2⟩:=hB b ψ;rw[zF];exact zG hQ n C _ a (λc d=>hB c (tE _ d)) (hQ p b _ _ hp b2 λi=>zx b1 i)
theorem rL_keep(hB:∀b∈B,Piv b)(hi:∀b∈B,coP b i=0):coP (rL p B) i=coP p i:=
 zG (Q:=λr=>coP r i=coP p i) (H:=λb=>coP b i=0) (λq b c r a hb d=>by rw[d,a,hb];grind) B.length B p rfl (λb hb=>⟨hB b hb,hi b hb⟩) rfl
def Up(B:Lw):Prop:=B.Pairwise λa b=>a8 a< a8 b
theorem zD:∀(n:Nat) (B:Lw) (p:Lq),B.length=n->(∀b∈B,Piv b)->Up B->∀b∈B,coP (rL p B) (dg b)=0
 |0,B,p,h,_,_=>by rw[xi h];exact λb hb=>by cases hb
 |n+1,B,p,h,hB,hU=>by
  obtain⟨C,c,rfl⟩:∃C b,B=C++[b]:=⟨B.dropLast,B.getLast (by intro e;rw[e] at h;cases h),(Gu _).symm⟩;have k:C.length=n:=by simpa using h
  have j:=hB c ψ;have d:=LM.1 hU;intro b hb;rw[zF];rcases n7.1 hb with i|i
  exact zD n C _ k (λx a=>hB x (tE _ a)) d.1 b i;rw[kI.1 i,rL_keep (λx a=>hB x (tE _ a)) λx a=>?_,zx j,j.at1];grind;have f:=hB x (tE _ a);have g:=d.2.2 x a c (kI.2 rfl);rw[f.deg,j.deg] at g;exact f.past ω
def rbB(s t:Nat):Nat->Nat
 |0=>s
 |k+1=>2* rbB s t k+t+1
theorem zy(s t k:Nat):s<=rbB s t k:=by
 induction k with
 |zero=>exact ir _
 |succ k a=>rw[rbB];omega
theorem BF(s t:Nat)(h:k<=n):rbB s t k<=rbB s t n:=by
 induction n with
 |zero=>rw[show k=0 by omega];exact ir _
 |succ n a=>
  by_cases e:k=n+1;rw[e];exact ir _;have:=a ω;rw[rbB];omega
theorem qU(h:i< B.length):B.getD i []∈B:=by
 rw[jH,eT h];exact FH _
theorem zw{p:Lq}{B:Lw}{s t:Nat}(hB:∀b∈B,Piv b)(hp:bdL p s)(hs:1<=s)(hbt:∀b∈B,bdL b t)(ht:1<=t):∀k,k<=B.length->bdL (rbK p B k) (rbB s t k)/\(rbK p B k).length<=p.length
 |0,_=>⟨hp,ir _⟩
 |k+1,h=>by
  obtain⟨c,d⟩:=zw hB hp hs hbt ht k ω;have a:=qU (B:=B) (i:=B.length- 1- k) ω;have e:=zy s t k;rw[rbK,rbB];exact⟨rbF_bd (hB _ a) c ω (hbt _ a) ht,fo (rbF_len (hB _ a)) d⟩
def ecP(q:Lq):Lq:=aW q (1/ aL q)
def ecT(out:Lw)(p:Lq):Lw:=if a8 (reP p out)< 0 then out else kS (out.map (λo=>reP o [ecP (reP p out)])++[ecP (reP p out)]) out.length
def ecK(l:Lw):Nat->Lw
 |0=>[]
 |k+1=>ecT (ecK l k) (l.getD k [])
def ecL(l:Lw):Lw:=ecK l l.length
theorem uY(h:nz q):Piv (ecP q)/\dg (ecP q)=dg q:=by
 obtain⟨c,b⟩:=cD h;have d:aL q≠0:=df h;refine J1 (by unfold ecP aW;rw[bU]) ?_ λi e=>?_;unfold ecP;rw[bY,b];have:=zp (a:=1) d;grind;unfold ecP;rw[bY,c.2 i e];grind
theorem rL_one(o q:Lq):rL o [q]=rbF o q:=rfl
theorem LL{o:Lq}(ho:Piv o)(hq:Piv q)(hd:dg o≠dg q):Piv (reP o [q])/\dg (reP o [q])=dg o:=by
 have a:∀i,coP (reP o [q]) i=coP o i- coP o (dg q) * coP q i:=λi=>by rw[pn,cu,rL_one,zx hq]
 refine J1 (by rw[pn,bU]) ?_ λi b=>?_;rw[a,ho.at1];by_cases h:dg q< dg o;rw[hq.past h];grind;rw[ho.past ω];grind;rw[a,ho.past b];by_cases h:dg q< dg o;rw[hq.past ω];grind;rw[ho.past ω];grind
structure Bas (B:Lw):Prop where
 piv:∀b∈B,Piv b
 up:Up B
theorem up_map{f:Lq->Lq}(h:Bas B)(hf:∀b∈B,Piv (f b)/\dg (f b)=dg b):Up (B.map f):=by
 unfold Up;rw[List.pairwise_map];refine Ow (fun{a b} ha hb hab=>?_) h.up;rw[(hf a ha).1.deg,(hf b hb).1.deg,(hf a ha).2,(hf b hb).2,<-(h.piv a ha).deg,<-(h.piv b hb).deg];exact hab
theorem ecT_bas{out:Lw}(h:Bas out):Bas (ecT out p):=by
 unfold ecT;split;exact h
 ·rename_i m
  have l:nz (reP p out):=zv λe=>m (degP_nil.2 e);obtain⟨q1,q2⟩:=uY l
  have k:∀b∈out,dg b≠dg (ecP (reP p out)):=λb hb e=>by
   have n:=zD out.length out p rfl h.piv h.up b hb;have j:=(cD l).1.1;rw[<-q2,<-e,pn,cu] at j;exact j n
  generalize v:ecP (reP p out)=q at *
  have d:∀b∈out,Piv (reP b [q])/\dg (reP b [q])=dg b:=λb hb=>LL (h.piv b hb) q1 (k b hb);have i:=up_map h d
  have hp:∀b∈out.map (λo=>reP o [q]),Piv b/\dg b≠dg q:=λb hb=>by
   obtain⟨o,f,rfl⟩:=sd.1 hb;exact⟨(d o f).1,by rw[(d o f).2];exact k o f⟩
  obtain⟨u,w,e1,e2,r,t⟩:=HL (out.map (λo=>reP o [q])) q i;rw[Ey] at e2;rw[e2];rw[e1] at i hp;have c:=LM.1 i;refine⟨λb hb=>?_,LM.2 ⟨c.1,List.pairwise_cons.2 ⟨r,c.2.1⟩,λa ha b hb=>?_⟩⟩;rcases n7.1 hb with g|g
  exact(hp b (tE _ g)).1;rcases pY.1 g with g|g
  rw[g];exact q1;exact(hp b (List.mem_append_right _ g)).1;rcases pY.1 hb with g|g
  rw[g];obtain⟨s,x⟩:=hp a (tE _ ha);have:=t a ha;rw[s.deg,q1.deg] at this⊢;omega;exact c.2.2 a ha b g
theorem rF(l:Lw):∀k,Bas (ecK l k)
 |0=>⟨λb hb=>(by cases hb),List.Pairwise.nil⟩
 |k+1=>ecT_bas (rF l k)
theorem ecT_len(out:Lw)(p:Lq):(ecT out p).length<=out.length+1:=by
 unfold ecT;split;omega;rw[nM];simp
theorem rD(l:Lw):∀k,(ecK l k).length<=k
 |0=>ir _
 |k+1=>by
  have a:=rD l k;have b:=ecT_len (ecK l k) (l.getD k []);rw[ecK];omega
theorem GF{P:Lq->Prop}{out:Lw}(h0:∀b∈out,a8 (reP p out)< 0->P b)(h1:∀b∈out,¬a8 (reP p out)< 0->P (reP b [ecP (reP p out)]))(h2:¬a8 (reP p out)< 0->P (ecP (reP p out))):∀b∈ecT out p,P b:=by
 unfold ecT;split
 ·rename_i h;exact λb hb=>h0 b hb h
 ·rename_i h
  refine wl _ (λb hb=>?_) _ ψ;rcases n7.1 hb with g|g
  obtain⟨o,a,rfl⟩:=sd.1 g;exact h1 o a h;rw[kI.1 g];exact h2 h
theorem Hd{Q:Lq->Prop}(hQ:∀p b c r,Q p->Q b->(∀i,coP r i=coP p i- c* coP b i)->Q r)(h0:Q [])(l:Lw)(hl:∀p∈l,Q p):∀k,∀b∈ecK l k,Q b
 |0=>λb hb=>(by cases hb)
 |k+1=>by
  have f:=Hd hQ h0 l hl k;have o:=rF l k
  have hp:Q (l.getD k []):=by
   by_cases h:k< l.length;exact hl _ (qU h);rw[jH,zt ω];exact h0
  have hs:∀p q,Q p->(∀i,coP q i=coP p i)->Q q:=λp q d a=>hQ p [] 0 q d h0 λi=>by rw[a];grind
  have j:∀p B,Q p->(∀b∈B,Piv b/\Q b)->Q (reP p B):=λp B d a=>by
   rw[pn];exact hs (rL p B) _ (zG hQ B.length B p rfl a d) (cu _)
  have n:=j _ _ hp λb hb=>⟨o.piv b hb,f b hb⟩
  have m:¬a8 (reP (l.getD k []) (ecK l k))< 0->Q (ecP (reP (l.getD k []) (ecK l k))):=λ_=>hQ [] _ (-(1/ aL (reP (l.getD k []) (ecK l k)))) _ h0 n λi=>by
   unfold ecP;rw[bY,show coP [] i=0 from rfl];grind
  rw[ecK];refine GF (λb hb _=>f b hb) (λb hb g=>?_) m;refine j b _ (f b hb) λc s=>?_;rw[kI.1 s];exact⟨(uY (zv λe=>g (degP_nil.2 e))).1,m g⟩
def ecB(s:Nat):Nat->Nat
 |0=>1
 |k+1=>2* ecB s k+2* rbB s (ecB s k) k+2
theorem AF(s k:Nat):1<=ecB s k:=by
 cases k with
 |zero=>exact ir _
 |succ k=>rw[ecB];omega
theorem LO(s:Nat)(h:k<=n):ecB s k<=ecB s n:=by
 induction n with
 |zero=>rw[show k=0 by omega];exact ir _
 |succ n a=>
  by_cases e:k=n+1;rw[e];exact ir _;have:=a ω;rw[ecB];omega
theorem vO{s t:Nat}(hB:∀b∈B,Piv b)(hp:bdL p s)(hs:1<=s)(hbt:∀b∈B,bdL b t)(ht:1<=t)(hk:B.length<=k):bdL (reP p B) (rbB s t k)/\(reP p B).length<=p.length:=by
 obtain⟨a,c⟩:=zw hB hp hs hbt ht B.length (ir _);unfold reP;exact⟨λq d=>fo (Dn a q d) (BF s t hk),fo (bm _) c⟩
theorem LN{u:Nat}(h:bdL q u)(hu:1<=u):bdL (ecP q) (2* u+1)/\(ecP q).length<=q.length:=by
 refine⟨?_,du _ _⟩;have d:=uL h hu;have a:=fS 1 (aL q);have e:qs 1<=1:=δ
 have b:=lM (k:=1/ aL q) h hu (fo a (show qs 1+qs (aL q)<=1+u by omega));exact λx c=>fo (b x c) ω
theorem AE{l:Lw}{s n:Nat}(hs:1<=s)(hl:∀p∈l,bdL p s/\p.length<=n):∀k,∀b∈ecK l k,bdL b (ecB s k)/\b.length<=n
 |0=>λb hb=>(by cases hb)
 |k+1=>by
  have g:=AE hs hl k;have r:=rF l k;have f:=rD l k;have a:=AF s k
  have hp:bdL (l.getD k []) s/\(l.getD k []).length<=n:=by
   by_cases h:k< l.length;exact hl _ (qU h);rw[jH,zt ω];exact⟨λq d=>(by cases d),mN _⟩
  obtain⟨o,v⟩:=vO r.piv hp.1 hs (λb hb=>(g b hb).1) a f;have u:=zy s (ecB s k) k;obtain⟨e1,e2⟩:=LN o ω;rw[ecK];refine GF (λb hb _=>⟨λq d=>fo ((g b hb).1 q d) (by rw[ecB];omega),(g b hb).2⟩) (λb hb m=>?_) λm=>⟨λq d=>fo (e1 q d) (by rw[ecB];omega),ω⟩;have i:=(uY (q:=reP (l.getD k []) (ecK l k)) (zv λe=>m (degP_nil.2 e))).1;obtain⟨o1,o2⟩:=vO (p:=b) (B:=[ecP (reP (l.getD k []) (ecK l k))]) (t:=2* rbB s (ecB s k) k+1) (k:=1) (λc j=>by rw[kI.1 j];exact i) (g b hb).1 a (λc j=>by rw[kI.1 j];exact e1) ω (ir _);exact⟨λq d=>fo (o1 q d) (by rw[rbB,rbB,ecB];omega),fo o2 (g b hb).2⟩
end
section
variable {k:Ke}{G u:Lq}{L:Rat}{n:Nat}
end
section
variable {k:Ke}{G:Lq}{L a x:Rat}(hl:k.length<=3)(h4:∀p∈k,p.1.length<=4/\p.2.length<=4)(hb:∀p∈k,bdL p.1 20/\bdL p.2 20)(hg:G.length<=5)(bg:bdL G 20)(qL:qs L<=20)(qa:qs a<=20)(qx:qs x<=20)
include hl h4 hb hg bg qL qa
end


inductive Spn (B:Lw):Lq->Prop
 |zero {u:Lq}:(∀i,coP u i=0)->Spn B u
 |step {p b r:Lq} {c:Rat}:Spn B p->b∈B->(∀i,coP r i=coP p i- c* coP b i)->Spn B r
section
variable {B C:Lw}
end
end Go.Abs
namespace Go.Proofs.YtjmkjicckobojaaGreatDoor
open Go.Abs
set_option maxRecDepth 20000
theorem ba:Tryz.prog.follows .mixedOrders=true:=by kernel_rfl
instance:T4 Tryz.prog 2 [Value.int IntKind.i64 0] 1 false 8:=⟨by kernel_rfl⟩
instance tu_2:TU Tryz.prog 2 (.int .i64):=⟨by kernel_rfl⟩
instance:T4 Tryz.prog 3 [Value.int IntKind.i64 0] 1 false 8:=⟨by kernel_rfl⟩
instance tu_3:TU Tryz.prog 3 (.int .i64):=⟨by kernel_rfl⟩
instance:T4 Tryz.prog 4 [Value.bool false] 1 false 1:=⟨by kernel_rfl⟩
instance tu_4:TU Tryz.prog 4 .bool:=⟨by kernel_rfl⟩
instance:T4 Tryz.prog 5 [Value.int IntKind.u8 0] 1 false 1:=⟨by kernel_rfl⟩
instance tu_5:TU Tryz.prog 5 (.int .u8):=⟨by kernel_rfl⟩
instance:T3 Tryz.prog 9 1 false 16:=⟨by kernel_rfl⟩
instance tu_9:TU Tryz.prog 9 .string:=⟨by kernel_rfl⟩
instance:T4 Tryz.prog 22 [Value.slice none 0 0] 1 false 24:=⟨by kernel_rfl⟩
instance te_22:TE Tryz.prog 22 (115,2):=⟨by kernel_rfl⟩
instance:T4 Tryz.prog 24 [Value.int IntKind.i64 0,Value.int IntKind.i64 0,Value.int IntKind.u8 0] 3 true 24:=⟨by kernel_rfl⟩
instance tp_24:TP Tryz.prog 24 [(0,1),(1,1),(2,1)]:=⟨by kernel_rfl⟩
instance:T2 Tryz.prog 24 0 (0,1) false:=⟨by kernel_rfl⟩
instance:T2 Tryz.prog 24 1 (1,1) false:=⟨by kernel_rfl⟩
instance:T2 Tryz.prog 24 2 (2,1) false:=⟨by kernel_rfl⟩
instance:T4 Tryz.prog 26 [Value.int IntKind.i64 0,Value.int IntKind.i64 0,Value.int IntKind.u8 0,Value.int IntKind.i64 0,Value.int IntKind.i64 0,Value.int IntKind.u8 0] 6 true 48:=⟨by kernel_rfl⟩
instance tp_26:TP Tryz.prog 26 [(0,3),(3,3)]:=⟨by kernel_rfl⟩
instance:T2 Tryz.prog 26 0 (0,3) true:=⟨by kernel_rfl⟩
instance:T2 Tryz.prog 26 1 (3,3) true:=⟨by kernel_rfl⟩
instance:T4 Tryz.prog 27 [Value.slice none 0 0] 1 false 24:=⟨by kernel_rfl⟩
instance te_27:TE Tryz.prog 27 (76,2):=⟨by kernel_rfl⟩
instance:T4 Tryz.prog 28 [Value.slice none 0 0] 1 false 24:=⟨by kernel_rfl⟩
instance te_28:TE Tryz.prog 28 (76,2):=⟨by kernel_rfl⟩
instance:T4 Tryz.prog 30 [Value.slice none 0 0] 1 false 24:=⟨by kernel_rfl⟩
instance te_30:TE Tryz.prog 30 (80,2):=⟨by kernel_rfl⟩
instance:T4 Tryz.prog 34 [Value.slice none 0 0] 1 false 24:=⟨by kernel_rfl⟩
instance te_34:TE Tryz.prog 34 (24,3):=⟨by kernel_rfl⟩
instance:T4 Tryz.prog 36 [Value.slice none 0 0] 1 false 24:=⟨by kernel_rfl⟩
instance te_36:TE Tryz.prog 36 (260,1):=⟨by kernel_rfl⟩
instance:T4 Tryz.prog 38 [Value.slice none 0 0] 1 true 24:=⟨by kernel_rfl⟩
instance tp_38:TP Tryz.prog 38 [(0,1)]:=⟨by kernel_rfl⟩
instance:T2 Tryz.prog 38 0 (0,1) false:=⟨by kernel_rfl⟩
instance:T4 Tryz.prog 40 [Value.slice none 0 0,Value.bool false] 2 true 32:=⟨by kernel_rfl⟩
instance tp_40:TP Tryz.prog 40 [(0,1),(1,1)]:=⟨by kernel_rfl⟩
instance:T2 Tryz.prog 40 0 (0,1) true:=⟨by kernel_rfl⟩
instance:T2 Tryz.prog 40 1 (1,1) false:=⟨by kernel_rfl⟩
instance:T4 Tryz.prog 42 [Value.slice none 0 0,Value.bool false,Value.slice none 0 0] 3 true 56:=⟨by kernel_rfl⟩
instance tp_42:TP Tryz.prog 42 [(0,2),(2,1)]:=⟨by kernel_rfl⟩
instance:T2 Tryz.prog 42 0 (0,2) true:=⟨by kernel_rfl⟩
instance:T2 Tryz.prog 42 1 (2,1) true:=⟨by kernel_rfl⟩
instance:T4 Tryz.prog 43 [Value.slice none 0 0] 1 false 24:=⟨by kernel_rfl⟩
instance te_43:TE Tryz.prog 43 (3,1):=⟨by kernel_rfl⟩
instance:T4 Tryz.prog 45 [Value.int IntKind.i64 0,Value.slice none 0 0] 2 true 32:=⟨by kernel_rfl⟩
instance tp_45:TP Tryz.prog 45 [(0,1),(1,1)]:=⟨by kernel_rfl⟩
instance:T2 Tryz.prog 45 0 (0,1) false:=⟨by kernel_rfl⟩
instance:T2 Tryz.prog 45 1 (1,1) false:=⟨by kernel_rfl⟩
instance:T4 Tryz.prog 47 [Value.int IntKind.i64 0,Value.slice none 0 0,Value.int IntKind.i64 0,Value.slice none 0 0] 4 true 64:=⟨by kernel_rfl⟩
instance tp_47:TP Tryz.prog 47 [(0,2),(2,2)]:=⟨by kernel_rfl⟩
instance:T2 Tryz.prog 47 0 (0,2) true:=⟨by kernel_rfl⟩
instance:T2 Tryz.prog 47 1 (2,2) true:=⟨by kernel_rfl⟩
instance:T4 Tryz.prog 51 [Value.slice none 0 0,Value.bool false,Value.slice none 0 0,Value.slice none 0 0,Value.bool false,Value.slice none 0 0] 6 true 112:=⟨by kernel_rfl⟩
instance tp_51:TP Tryz.prog 51 [(0,3),(3,3)]:=⟨by kernel_rfl⟩
instance:T2 Tryz.prog 51 0 (0,3) true:=⟨by kernel_rfl⟩
instance:T2 Tryz.prog 51 1 (3,3) true:=⟨by kernel_rfl⟩
instance:T4 Tryz.prog 53 [Value.int IntKind.i64 0,Value.slice none 0 0,Value.int IntKind.i64 0,Value.slice none 0 0,Value.int IntKind.i64 0,Value.slice none 0 0,Value.int IntKind.i64 0,Value.slice none 0 0] 8 true 128:=⟨by kernel_rfl⟩
instance tp_53:TP Tryz.prog 53 [(0,4),(4,4)]:=⟨by kernel_rfl⟩
instance:T2 Tryz.prog 53 0 (0,4) true:=⟨by kernel_rfl⟩
instance:T2 Tryz.prog 53 1 (4,4) true:=⟨by kernel_rfl⟩
instance:T4 Tryz.prog 61 [Value.slice none 0 0] 1 false 24:=⟨by kernel_rfl⟩
instance te_61:TE Tryz.prog 61 (42,3):=⟨by kernel_rfl⟩
instance:T4 Tryz.prog 62 [Value.slice none 0 0] 1 false 24:=⟨by kernel_rfl⟩
instance te_62:TE Tryz.prog 62 (42,3):=⟨by kernel_rfl⟩
instance:T4 Tryz.prog 76 [Value.slice none 0 0,Value.slice none 0 0] 2 true 48:=⟨by kernel_rfl⟩
instance tp_76:TP Tryz.prog 76 [(0,1),(1,1)]:=⟨by kernel_rfl⟩
instance:T2 Tryz.prog 76 0 (0,1) false:=⟨by kernel_rfl⟩
instance:T2 Tryz.prog 76 1 (1,1) false:=⟨by kernel_rfl⟩
instance:T4 Tryz.prog 77 [Value.slice none 0 0] 1 false 24:=⟨by kernel_rfl⟩
instance te_77:TE Tryz.prog 77 (47,4):=⟨by kernel_rfl⟩
instance:T4 Tryz.prog 78 [Value.slice none 0 0] 1 false 24:=⟨by kernel_rfl⟩
instance te_78:TE Tryz.prog 78 (47,4):=⟨by kernel_rfl⟩
instance:T4 Tryz.prog 80 [Value.slice none 0 0,Value.slice none 0 0] 2 true 48:=⟨by kernel_rfl⟩
instance tp_80:TP Tryz.prog 80 [(0,1),(1,1)]:=⟨by kernel_rfl⟩
instance:T2 Tryz.prog 80 0 (0,1) false:=⟨by kernel_rfl⟩
instance:T2 Tryz.prog 80 1 (1,1) false:=⟨by kernel_rfl⟩
instance:T4 Tryz.prog 88 [Value.int IntKind.i8 0] 1 false 1:=⟨by kernel_rfl⟩
instance tu_88:TU Tryz.prog 88 (.int .i8):=⟨by kernel_rfl⟩
instance:T4 Tryz.prog 90 [Value.slice none 0 0,Value.slice none 0 0,Value.bool false,Value.slice none 0 0,Value.slice none 0 0] 5 true 104:=⟨by kernel_rfl⟩
instance tp_90:TP Tryz.prog 90 [(0,1),(1,3),(4,1)]:=⟨by kernel_rfl⟩
instance:T2 Tryz.prog 90 0 (0,1) false:=⟨by kernel_rfl⟩
instance:T2 Tryz.prog 90 1 (1,3) true:=⟨by kernel_rfl⟩
instance:T2 Tryz.prog 90 2 (4,1) false:=⟨by kernel_rfl⟩
instance:T4 Tryz.prog 94 [Value.slice none 0 0] 1 false 24:=⟨by kernel_rfl⟩
instance te_94:TE Tryz.prog 94 (62,1):=⟨by kernel_rfl⟩
instance:T4 Tryz.prog 100 [Value.slice none 0 0,Value.bool false,Value.bool false,Value.slice none 0 0,Value.bool false,Value.slice none 0 0,Value.slice none 0 0,Value.bool false,Value.slice none 0 0] 9 true 144:=⟨by kernel_rfl⟩
instance tp_100:TP Tryz.prog 100 [(0,1),(1,1),(2,1),(3,3),(6,3)]:=⟨by kernel_rfl⟩
instance:T2 Tryz.prog 100 0 (0,1) false:=⟨by kernel_rfl⟩
instance:T2 Tryz.prog 100 1 (1,1) false:=⟨by kernel_rfl⟩
instance:T2 Tryz.prog 100 2 (2,1) false:=⟨by kernel_rfl⟩
instance:T2 Tryz.prog 100 3 (3,3) true:=⟨by kernel_rfl⟩
instance:T2 Tryz.prog 100 4 (6,3) true:=⟨by kernel_rfl⟩
instance:T4 Tryz.prog 104 [Value.slice none 0 0,Value.slice none 0 0] 2 true 48:=⟨by kernel_rfl⟩
instance tp_104:TP Tryz.prog 104 [(0,1),(1,1)]:=⟨by kernel_rfl⟩
instance:T2 Tryz.prog 104 0 (0,1) false:=⟨by kernel_rfl⟩
instance:T2 Tryz.prog 104 1 (1,1) false:=⟨by kernel_rfl⟩
instance:T4 Tryz.prog 109 [Value.nilFunc] 1 false 8:=⟨by kernel_rfl⟩
instance:T4 Tryz.prog 115 [Value.slice none 0 0,Value.slice none 0 0] 2 true 48:=⟨by kernel_rfl⟩
instance tp_115:TP Tryz.prog 115 [(0,1),(1,1)]:=⟨by kernel_rfl⟩
instance:T2 Tryz.prog 115 0 (0,1) false:=⟨by kernel_rfl⟩
instance:T2 Tryz.prog 115 1 (1,1) false:=⟨by kernel_rfl⟩
instance:T4 Tryz.prog 121 [Value.slice none 0 0,Value.slice none 0 0,Value.bool false,Value.slice none 0 0,Value.slice none 0 0,Value.bool false,Value.slice none 0 0,Value.slice none 0 0,Value.bool false,Value.slice none 0 0] 10 true 192:=⟨by kernel_rfl⟩
instance tp_121:TP Tryz.prog 121 [(0,1),(1,3),(4,3),(7,3)]:=⟨by kernel_rfl⟩
instance:T2 Tryz.prog 121 0 (0,1) false:=⟨by kernel_rfl⟩
instance:T2 Tryz.prog 121 1 (1,3) true:=⟨by kernel_rfl⟩
instance:T2 Tryz.prog 121 2 (4,3) true:=⟨by kernel_rfl⟩
instance:T2 Tryz.prog 121 3 (7,3) true:=⟨by kernel_rfl⟩
instance:T4 Tryz.prog 134 [Value.nilFunc] 1 false 8:=⟨by kernel_rfl⟩
instance:T4 Tryz.prog 153 [Value.slice none 0 0,Value.slice none 0 0,Value.bool false,Value.slice none 0 0,Value.slice none 0 0,Value.slice none 0 0,Value.bool false,Value.slice none 0 0,Value.slice none 0 0,Value.bool false,Value.slice none 0 0] 11 true 216:=⟨by kernel_rfl⟩
instance tp_153:TP Tryz.prog 153 [(0,5),(5,6)]:=⟨by kernel_rfl⟩
instance:T2 Tryz.prog 153 0 (0,5) true:=⟨by kernel_rfl⟩
instance:T2 Tryz.prog 153 1 (5,6) true:=⟨by kernel_rfl⟩
instance:T4 Tryz.prog 154 [Value.slice none 0 0] 1 false 24:=⟨by kernel_rfl⟩
instance te_154:TE Tryz.prog 154 (61,1):=⟨by kernel_rfl⟩
instance:T4 Tryz.prog 155 [Value.slice none 0 0] 1 false 24:=⟨by kernel_rfl⟩
instance te_155:TE Tryz.prog 155 (61,1):=⟨by kernel_rfl⟩
instance:T4 Tryz.prog 157 [Value.slice none 0 0,Value.slice none 0 0,Value.int IntKind.i64 0] 3 true 56:=⟨by kernel_rfl⟩
instance tp_157:TP Tryz.prog 157 [(0,1),(1,1),(2,1)]:=⟨by kernel_rfl⟩
instance:T2 Tryz.prog 157 0 (0,1) false:=⟨by kernel_rfl⟩
instance:T2 Tryz.prog 157 1 (1,1) false:=⟨by kernel_rfl⟩
instance:T2 Tryz.prog 157 2 (2,1) false:=⟨by kernel_rfl⟩
instance:T4 Tryz.prog 161 [Value.nilFunc] 1 false 8:=⟨by kernel_rfl⟩
instance:T4 Tryz.prog 170 [Value.nilFunc] 1 false 8:=⟨by kernel_rfl⟩
instance:T4 Tryz.prog 179 [Value.nilFunc] 1 false 8:=⟨by kernel_rfl⟩
instance:T4 Tryz.prog 181 [Value.nilFunc] 1 false 8:=⟨by kernel_rfl⟩
instance:T4 Tryz.prog 188 [Value.nilFunc] 1 false 8:=⟨by kernel_rfl⟩
instance:T4 Tryz.prog 193 [Value.slice none 0 0] 1 false 24:=⟨by kernel_rfl⟩
instance te_193:TE Tryz.prog 193 (2,1):=⟨by kernel_rfl⟩
instance:T4 Tryz.prog 196 [Value.slice none 0 0,Value.bool false,Value.slice none 0 0,Value.slice none 0 0,Value.bool false,Value.slice none 0 0,Value.int IntKind.i64 0] 7 true 120:=⟨by kernel_rfl⟩
instance tp_196:TP Tryz.prog 196 [(0,6),(6,1)]:=⟨by kernel_rfl⟩
instance:T2 Tryz.prog 196 0 (0,6) true:=⟨by kernel_rfl⟩
instance:T2 Tryz.prog 196 1 (6,1) false:=⟨by kernel_rfl⟩
instance:T4 Tryz.prog 198 [Value.nilFunc] 1 false 8:=⟨by kernel_rfl⟩
instance:T4 Tryz.prog 202 [Value.pointer none] 1 false 8:=⟨by kernel_rfl⟩
instance:T4 Tryz.prog 203 [Value.slice none 0 0] 1 false 24:=⟨by kernel_rfl⟩
instance te_203:TE Tryz.prog 203 (5,1):=⟨by kernel_rfl⟩
instance:T4 Tryz.prog 205 [Value.pointer none,Value.slice none 0 0] 2 true 32:=⟨by kernel_rfl⟩
instance tp_205:TP Tryz.prog 205 [(0,1),(1,1)]:=⟨by kernel_rfl⟩
instance:T2 Tryz.prog 205 0 (0,1) false:=⟨by kernel_rfl⟩
instance:T2 Tryz.prog 205 1 (1,1) false:=⟨by kernel_rfl⟩
instance:T4 Tryz.prog 216 [Value.nilFunc] 1 false 8:=⟨by kernel_rfl⟩
instance:T4 Tryz.prog 217 [Value.nilFunc] 1 false 8:=⟨by kernel_rfl⟩
instance:T4 Tryz.prog 220 [Value.pointer none] 1 false 8:=⟨by kernel_rfl⟩
instance:T4 Tryz.prog 223 [Value.slice none 0 0,Value.slice none 0 0,Value.int IntKind.i64 0] 3 true 56:=⟨by kernel_rfl⟩
instance tp_223:TP Tryz.prog 223 [(0,1),(1,1),(2,1)]:=⟨by kernel_rfl⟩
instance:T2 Tryz.prog 223 0 (0,1) false:=⟨by kernel_rfl⟩
instance:T2 Tryz.prog 223 1 (1,1) false:=⟨by kernel_rfl⟩
instance:T2 Tryz.prog 223 2 (2,1) false:=⟨by kernel_rfl⟩
instance:T4 Tryz.prog 237 [Value.nilFunc] 1 false 8:=⟨by kernel_rfl⟩
instance:T4 Tryz.prog 246 [Value.int IntKind.u64 0] 1 false 8:=⟨by kernel_rfl⟩
instance tu_246:TU Tryz.prog 246 (.int .u64):=⟨by kernel_rfl⟩
instance:T4 Tryz.prog 260 [Value.int IntKind.u32 0] 1 false 4:=⟨by kernel_rfl⟩
instance tu_260:TU Tryz.prog 260 (.int .u32):=⟨by kernel_rfl⟩
instance:T4 Tryz.prog 268 [Value.pointer none] 1 false 8:=⟨by kernel_rfl⟩
instance:T4 Tryz.prog 281 [Value.nilFunc] 1 false 8:=⟨by kernel_rfl⟩
instance:T4 Tryz.prog 286 [Value.nilFunc] 1 false 8:=⟨by kernel_rfl⟩
instance:T4 Tryz.prog 298 [Value.nilFunc] 1 false 8:=⟨by kernel_rfl⟩
instance:T4 Tryz.prog 302 [Value.pointer none] 1 false 8:=⟨by kernel_rfl⟩
instance:T4 Tryz.prog 304 [Value.pointer none,Value.int IntKind.i64 0] 2 true 16:=⟨by kernel_rfl⟩
instance tp_304:TP Tryz.prog 304 [(0,1),(1,1)]:=⟨by kernel_rfl⟩
instance:T2 Tryz.prog 304 0 (0,1) false:=⟨by kernel_rfl⟩
instance:T2 Tryz.prog 304 1 (1,1) false:=⟨by kernel_rfl⟩
instance:T4 Tryz.prog 306 [Value.pointer none] 1 false 8:=⟨by kernel_rfl⟩
instance:T4 Tryz.prog 310 [Value.int IntKind.u64 0] 1 false 8:=⟨by kernel_rfl⟩
instance tu_310:TU Tryz.prog 310 (.int .u64):=⟨by kernel_rfl⟩
instance:T4 Tryz.prog 329 [Value.nilFunc] 1 false 8:=⟨by kernel_rfl⟩
instance:T3 Tryz.prog 330 24 true 24:=⟨by kernel_rfl⟩
instance:T4 Tryz.prog 352 [Value.nilFunc] 1 false 8:=⟨by kernel_rfl⟩
abbrev FS:=FSpec Tryz.prog
theorem GW(l:Ln):FS 132 [.agg [.arr (dE l)]] (bln (l.length==0)):=by
 refine f_n Tryz.func132 ?_ ?_;exact ac (aD (ac (dr l) af)) af;refine r_z 2 ?_;refine r_z 5 ?_;refine ak (a7 rfl ?_ (ah _));simp only[bln,tI];congr 2;rw[Nv];simp
theorem jn(l:Ln)(hl:l.length<=281474976710656):FS 196 [.arr (dE l)] (.agg [.arr (dE (fL l))]):=by
 refine f_n Tryz.func196 ?_ ?_;exact ac (dr l) af;refine r_z 1 ?_;refine r_z 3 ?_;refine bD (λk:Nat=>⟨[(0,.arr (dE l)),(2,.lptr 1 0 0),(3,i64 k)],[(1,some ⟨38,1,[[.emp]]⟩)],2,23⟩) (λk=>k<=l.length/\fL l=l.take k) ?_ ?_;refine aj (aC (λk:Nat=>⟨[(0,.arr (dE l)),(2,.lptr 1 0 0),(3,i64 k)],[(1,some ⟨38,1,[[.emp]]⟩)],2,23⟩) (λk=>k) (λk=>k<=l.length/\∀i,k<=i->i< l.length->l[i]?=some 0) l.length ⟨ir _,λi m g=>by omega⟩ ?_ ?_);exact s_e [];rintro k ⟨a,j⟩;have fin:k=0\/l[k- 1]?≠some 0->fL l=l.take k:=mG l k a j;by_cases h0:k=0;subst h0;refine ae (s_r 10 ?_);refine a_3 ?_;refine n_g rfl d_f ?_;refine n_g rfl d_f ?_;refine n_g rfl d_f ?_;refine n_g rfl d_f ?_;refine n_g rfl d_f ?_;refine n_g rfl d_f ?_;refine o_0 (.pickF rfl d_f rfl) ?_;refine aq ?_;refine au rfl (λh=>?_) (λ_=>?_);cases h;refine ay ⟨0,⟨a,fin (.inl rfl)⟩,?_⟩;exact s_e [];have e:k- 1< l.length:=ω
 obtain⟨d,c⟩:∃d,l[k- 1]?=some d:=⟨_,eT e⟩;have b:(dE l)[((k:Int)- 1).toNat]?=some [u32 d]:=by rw[show((k:Int)- 1).toNat=k- 1 by omega];exact ei c
 refine ae (s_r 10 ?_);refine a_3 ?_;refine y_g rfl d_t (.move rfl) ?_;refine y_g rfl d_t (.move rfl) ?_;refine y_g rfl d_t (.bin rfl rfl (rV ω)) ?_;refine y_g rfl d_t (.index_a rfl rfl ω b rfl te_36.h) ?_;refine y_g rfl d_t (.load_a1 rfl b TG.h rfl) ?_;refine y_g rfl d_t (.bin rfl rfl cK) ?_;refine o_0 (.pickT rfl d_t rfl) ?_;refine aq ?_;refine au rfl (λh=>?_) (λh=>?_);refine an ?_;have f:d=0:=by simpa using h
 subst f;refine aj (r_m 3 ?_);refine a_z ?_;refine⟨k- 1,ω,⟨ω,λi m g=>?_⟩,?_⟩;by_cases hi:i=k- 1;rw[hi];exact c;exact j i ω g;exact s_e [];refine ay ⟨k,⟨a,fin (.inr ?_)⟩,?_⟩;rw[c];simp at h⊢;omega;exact s_e [];rintro k ⟨a,n⟩;refine s_r 6 ?_;refine a_3 ?_;refine o_0 (.sa_hm rfl rfl rfl rfl rfl ⟨ir _,by simpa using a⟩ te_36.h (AP l)) ?_;refine a_z ?_;refine ak (ed rfl rfl rfl TG.h TS.h (nle rfl) ?_ (aD (ac (dr _) af)));rw[n,<-Hh];rfl
end Go.Proofs.YtjmkjicckobojaaGreatDoor
