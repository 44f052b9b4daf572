/- Part Y14 of the proof. -/
import Derived.Test.YtjgokhkahkmpbaaGreatDoorY13
import Derived.Lib.ItoaNum
set_option linter.all false
namespace Go.Abs
set_option maxRecDepth 20000
structure Dt where
 X:Lq
 Y:Lq
 W:Lq
def sz1(q:Rat):Prop:=qs q<=100000000000
instance (q:Rat):Decidable (sz1 q):=inferInstanceAs (Decidable (_<=_))
theorem sz1.sm{q:Rat}(h:sz1 q):sm q:=Nat.le_trans h δ
theorem sz1.two{a b:Rat}(ha:sz1 a)(hb:sz1 b):qs a+qs b<=549755813888:=by unfold sz1 at *;omega
theorem cq_lt{a b:Rat}:dr a b< 0↔a< b:=by
 unfold dr;by_cases h:a< b;simp[h];by_cases h2:a=b <;> simp[h,h2]
theorem cq_gt{a b:Rat}:0< dr a b↔b< a:=by
 unfold dr;by_cases h:a< b;have:¬b< a:=φ
 simp[h,this];by_cases h2:a=b;subst h2;simp[h];have:b< a:=φ
 simp[h,h2,this]
theorem cq_eq{a b:Rat}:dr a b=0↔a=b:=by
 unfold dr;by_cases h:a< b;have:a≠b:=φ
 simp[h,this];by_cases h2:a=b <;> simp[h,h2]
def xd(l:Lq):Bool:=(List.range (l.length- 1)).all λi=>decide (coP l i< coP l (i+1))
theorem risB_iff{l:Lq}:xd l=true↔∀i,i+1< l.length->coP l i< coP l (i+1):=by
 unfold xd;rw[List.all_eq_true];constructor;intro h i hi;exact of_decide_eq_true (h i (List.mem_range.2 ω));intro h i hi;have:=List.mem_range.1 hi;exact decide_eq_true (h i ω)
def Ep(d:Dt):Bool:=decide (1<=d.X.length) && (decide (d.X.length<=60) && (decide (d.Y.length=d.X.length) && (xd d.X && ((decide (d.W.length=0)||decide (d.W.length=d.X.length)) && !d.W.any λw=>decide (w<=0)))))
def wtD(d:Dt)(i:Nat):Rat:=if d.W.length=0 then 1 else coP d.W i
def msD(d:Dt)(p:Lq)(i:Nat):Rat:=wtD d i* (coP d.Y i- aO p (coP d.X i))
def pJ(f:Nat->Rat):Nat->Nat×Rat
 |0=>(0,0)
 |i+1=>if i=0\/(pJ f i).2< f i then(i,f i) else pJ f i
def woD(d:Dt)(p:Lq):Nat:=(pJ (λi=>c8 (msD d p i)) d.X.length).1
def sdD(d:Dt)(i k:Nat):Rat:=((1- 2* ((i % 2:Nat):Int):Int):Rat) / wtD d k
def prD(d:Dt)(L:Ln)(k:Nat):Nat->Rat
 |0=>1
 |j+1=>if L.getD j 0=k then prD d L k j else prD d L k j* (coP d.X k- coP d.X (L.getD j 0))
def tpD(d:Dt)(L:Ln):Nat->Rat
 |0=>0
 |i+1=>tpD d L i+coP d.Y (L.getD i 0) / prD d L (L.getD i 0) L.length
def btD(d:Dt)(L:Ln):Nat->Rat
 |0=>0
 |i+1=>btD d L i+sdD d i (L.getD i 0) / prD d L (L.getD i 0) L.length
def hD(d:Dt)(L:Ln):Rat:=tpD d L L.length/ btD d L L.length
def xsD(d:Dt)(L:Ln)(n:Nat):Lq:=aH n λi=>coP d.X (L.getD i 0)
def trD(d:Dt)(L:Ln)(n:Nat):Lq:=aH n λi=>sdD d i (L.getD i 0)
def ysD(d:Dt)(L:Ln)(h:Rat)(n:Nat):Lq:=aH n λi=>coP d.Y (L.getD i 0)- h* sdD d i (L.getD i 0)
@[simp] theorem xsD_length (d:Dt)(L:Ln)(n:Nat):(xsD d L n).length=n:=by simp[xsD,aH]
@[simp] theorem trD_length (d:Dt)(L:Ln)(n:Nat):(trD d L n).length=n:=by simp[trD,aH]
@[simp] theorem ysD_length (d:Dt)(L:Ln)(h:Rat)(n:Nat):(ysD d L h n).length=n:=by simp[ysD,aH]
def GA(d:Dt)(L:Ln):Prop:=1<=L.length/\L.length<=15/\(∀k∈L,k< d.X.length/\sz1 (coP d.X k)/\sz1 (coP d.Y k)/\sz1 (wtD d k)/\wtD d k≠0)/\
 (∀k∈L,(∀j,j< L.length+1->sz1 (prD d L k j))/\prD d L k L.length≠0)/\(∀i,i< L.length+1->sz1 (tpD d L i)/\sz1 (btD d L i))/\btD d L L.length≠0/\sz1 (hD d L)/\qp [] (xsD d L (L.length- 1))=false
instance (d:Dt) (L:Ln):Decidable (GA d L):=inferInstanceAs (Decidable (_/\_/\_/\_/\_/\_/\_/\_))
def BH(d:Dt)(L:Ln):Option Lq:=if GA d L then zJ (xsD d L (L.length- 1)) (ysD d L (hD d L) (L.length- 1)) [] (fY 1) else none
def sdE(sg:Int)(k:Nat):Int:=if k % 2=1 then -sg else sg
def bsM(t:Nat->Bool):Nat->Nat->Nat->Nat
 |0,i,_=>i
 |f+1,i,j=>if i< j then(if t ((i+j) / 2) then bsM t f ((i+j) / 2+1) j else bsM t f i ((i+j) / 2)) else i
def bsL(L:Ln)(x:Nat):Nat:=bsM (λh=>decide (L.getD h 0< x)) L.length 0 L.length
def exM(L:Ln)(x:Nat)(sg own:Int):Ln:=
 if bsL L x=0/\sdE sg 0≠own then x::L.take (L.length- 1)
 else if L.length- 1< bsL L x/\sdE sg (L.length- 1)≠own then L.drop 1++[x]
 else if bsL L x=0\/bsL L x<=L.length- 1/\sdE sg (bsL L x)=own then L.set (bsL L x) x
 else L.set (bsL L x- 1) x
def sgO(h:Rat):Int:=if h< 0 then -1 else 1
def okMs(d:Dt)(p:Lq)(i:Nat):Prop:=i< d.X.length/\sz1 (wtD d i)/\sz1 (coP d.Y i)/\ea p (coP d.X i)/\sz1 (aO p (coP d.X i))/\sz1 (coP d.Y i- aO p (coP d.X i))/\sz1 (msD d p i)
instance (d:Dt) (p:Lq) (i:Nat):Decidable (okMs d p i):=inferInstanceAs (Decidable (_/\_/\_/\_/\_/\_/\_))
def Gy(d:Dt)(p:Lq):Prop:=d.X.length<=60/\d.Y.length=d.X.length/\(d.W.length=0\/d.W.length=d.X.length)/\∀i,i< d.X.length->okMs d p i
instance (d:Dt) (p:Lq):Decidable (Gy d p):=inferInstanceAs (Decidable (_/\_/\_/\_))
def fitM:Nat->Dt->Ln->Option (Lq×Rat×Ln)
 |0,_,_=>none
 |f+1,d,L=>match BH d L with
  |none=>none
  |some p=>if Gy d p then(if c8 (msD d p (woD d p))<=c8 (hD d L) then some (p,c8 (hD d L),if hD d L=0 then [] else L) else fitM f d (exM L (woD d p) (sgO (hD d L)) (sgZ (msD d p (woD d p)).num))) else none
def vx(f:Nat)(d:Dt)(n:Nat):Option (Lq×Rat×Ln):=
 if d.X.length<=n+1 then(if d.X.length=d.Y.length/\n<=12/\smL d.X/\qp [] d.X=false then(zJ d.X d.Y [] (fY 1)).map λp=>(p,0,[]) else none) else(if d.Y.length=d.X.length/\(d.W.length=0\/d.W.length=d.X.length)/\n<=12 then fitM f d (List.range (n+2)) else none)
theorem bh{k t:Nat}{x:Option ABlk}{l:Hp}(h:k≠t):au ((k,x)::l) t=au l t:=by
 rw[de];unfold upd;grind
section
variable {R:Nat->Lq}{n k:Nat}{s:Nat->Nat}
def rwL(R:Nat->Lq)(n:Nat):List Lc:=(List.range n).map λk=>pE (R k)
@[simp] theorem jz (R:Nat->Lq)(n:Nat):(rwL R n).length=n:=by simp[rwL]
theorem w9(h:k< n):(rwL R n)[k]?=some (pE (R k)):=by simp[rwL,h]
theorem w8{e:Lc}(h:(rwL R n)[k]?=some e):k< n/\e=pE (R k):=by
 have h1:=(List.getElem?_eq_some_iff.1 h).1;rw[jz] at h1;rw[w9 h1] at h;grind
def rwO(R:Nat->Lq)(s:Nat->Nat)(n:Nat):Lc:=mzO 3 (λk=>(R k).length) s n
@[simp] theorem jy (R:Nat->Lq)(s:Nat->Nat)(n:Nat):(rwO R s n).length=n:=ua _ _ _ _
theorem dQ(h:k< n):∀e,e=k->(rwO R s n)[e]?=some [.lsl (s (k+2)) 0 (R k).length none 3]:=λe he=>by rw[he];exact mzO_get h
theorem rwO_out(h:n<=k):(rwO R s n)[k]?=none:=by simp_all
theorem gi{R':Nat->Lq}{s':Nat->Nat}(h:∀k,k< n->(R k).length=(R' k).length/\s (k+2)=s' (k+2)):rwO R s n=rwO R' s' n:=by
 refine List.ext_getElem? λk=>?_;by_cases hk:k< n;rw[dQ hk k rfl,dQ hk k rfl,(h k hk).1,(h k hk).2];simp_all
theorem rwO_one(R:Nat->Lq)(s:Nat->Nat)(n:Nat):(rwO R s n).all (·.all AV.one)=true:=by
 unfold rwO mzO;rw[List.all_map,List.all_eq_true];intro _ _;rfl
section
variable {fr fr':Fr}{hp ex:Hp}{nx N TS TQ n k:Nat}{R R':Nat->Lq}
end
def swx(a b x:Nat):Nat:=if x=a then b else if x=b then a else x
theorem swx_a(a b:Nat):swx a b a=b:=if_pos rfl
theorem swx_b(a b:Nat):swx a b b=a:=by unfold swx;grind
theorem qu{a b x:Nat}(h1:x≠a)(h2:x≠b):swx a b x=x:=by unfold swx;grind
theorem C1{a b x y:Nat}(h:swx a b x=swx a b y):x=y:=by unfold swx at h;grind
theorem yX{p:Nat}(hk:k< n)(hp:p< n):∀a b:Nat,a=p->b=k->((rwO R (λx=>x) n).set a [.lsl (k+2) 0 (R k).length none 3]).set b [.lsl (p+2) 0 (R p).length none 3]=rwO (λi=>R (swx k p i)) (swx (k+2) (p+2)) n:=λa b ha hb=>by
 subst ha hb;refine List.ext_getElem? λi=>?_;rw[List.getElem?_set,List.length_set,List.getElem?_set,jy];by_cases hi:i< n;rw[dQ (R:=λi=>R (swx b a i)) hi i rfl];by_cases h1:b=i;subst h1;rw[swx_a,swx_a]
 try grind
 rw[if_neg h1];by_cases h2:a=i;subst h2;rw[swx_b,swx_b]
 try grind
 rw[if_neg h2,dQ hi i rfl,qu (λe=>h1 e.symm) (λe=>h2 e.symm),qu ω ω];have h1:b≠i:=ω
 simp_all
end

section
variable {X:Mx}{i j k n r c:Nat}
def puM(X:Mx)(i j:Nat)(v:Rat):Mx:=λk t=>if k=i/\t=j then v else X k t
theorem puM_ne{v:Rat}(h:k≠i):puM X i j v k=X k:=funext λt=>if_neg λe=>h e.1
theorem puM_set{m:Nat}{v:Rat}(h:j< m):∀e:Nat,e=j->(pE (aH m (X i))).set e (qC v)=pE (aH m (puM X i j v i)):=λe he=>by
 subst he;rw[j5];congr 1;refine List.ext_getElem? λt=>?_;rw[List.getElem?_set];by_cases ht:t< m;by_cases h1:e=t;subst h1;simp[aH,ht,puM];rw[if_neg h1];simp[aH,ht,puM,show¬t=e from λe'=>h1 e'.symm];simp_all
theorem fv{X:Nat->Rat}{m:Nat}(h:j< m):∀e:Nat,e=j->(pE (aH m X))[e]?=some (qC (X j)):=λe he=>by
 subst he;simp[pE,aH,h]
def rT(n:Nat)(X:Mx)(k:Nat):Lq:=aH (n+1) (X k)
theorem kz{Y:Mx}(h:∀j,j<=n->X k j=Y k j):rT n X k=rT n Y k:=by
 exact List.map_congr_left λt ht=>h t φ
@[simp] theorem rT_length (n:Nat)(X:Mx)(k:Nat):(rT n X k).length=n+1:=by simp[rT]
def scJ(X:Mx)(r:Nat)(f:Rat)(j:Nat):Mx:=λi t=>if i=r/\t< j then X i t* f else X i t
theorem scJ_0(X:Mx)(r:Nat)(f:Rat):scJ X r f 0=X:=funext λi=>funext λt=>if_neg λe=>by omega
theorem FQ(X:Mx)(r:Nat)(f:Rat)(j:Nat):scJ X r f j r j=X r j:=if_neg λe=>by omega
theorem scJ_s(X:Mx)(r:Nat)(f:Rat)(j:Nat):scJ X r f (j+1)=puM (scJ X r f j) r j (X r j* f):=funext λi=>funext λt=>by
 show(if i=r/\t< j+1 then X i t* f else X i t)=if i=r/\t=j then X r j* f else if i=r/\t< j then X i t* f else X i t
 grind
theorem scJ_n{f:Rat}(k j:Nat)(h:j<=n):scJ X r f (n+1) k j=scM X r f k j:=by
 unfold scJ scM;grind
def rdJ(X:Mx)(r c i j:Nat):Mx:=λk t=>if k≠r/\(k< i\/(k=i/\t< j)) then X k t- X k c* X r t else X k t
theorem rdJ_0(X:Mx)(r c:Nat):rdJ X r c 0 0=X:=funext λi=>funext λt=>if_neg λe=>by omega
theorem Gd(X:Mx)(r c i j:Nat):rdJ X r c i j i j=X i j:=if_neg λe=>by omega
theorem rdJ_c(X:Mx)(r c i:Nat):rdJ X r c i 0 i=X i:=funext λt=>if_neg λe=>by omega
theorem rdJ_r(X:Mx)(r c i j:Nat):rdJ X r c i j r=X r:=funext λt=>if_neg λe=>e.1 rfl
theorem rdJ_s(h:i≠r):rdJ X r c i (j+1)=puM (rdJ X r c i j) i j (X i j- X i c* X r j):=funext λk=>funext λt=>by
 show(if k≠r/\(k< i\/(k=i/\t< j+1)) then X k t- X k c* X r t else X k t)=if k=i/\t=j then X i j- X i c* X r j else if k≠r/\(k< i\/(k=i/\t< j)) then X k t- X k c* X r t else X k t
 grind
theorem rdJ_n(i k j:Nat)(h:j<=n):rdJ X r c i (n+1) k j=rdJ X r c (i+1) 0 k j:=by
 unfold rdJ;grind
theorem pm(h:i=r\/X i c=0):rdJ X r c (i+1) 0=rdJ X r c i 0:=funext λk=>funext λt=>by
 unfold rdJ;grind
theorem Dl(h:k< n)(j:Nat):rdJ X r c n 0 k j=rdM X r c k j:=by
 unfold rdJ rdM;grind
def slB(s:Nat):Nat->Nat
 |0=>s
 |c+1=>4* slB s c+2
theorem bd_slC{A:Mx}{s:Nat}{L:Ln}(h:bdM A n s)(hL:L.length<=c)(hc:c< n):bdM (slC A n L c).1 n (4* s+2):=by
 unfold slC;cases e:pvR A n L.length c with
 |none=>exact λi j hi hj=>Nat.le_trans (h i j hi hj) ω
 |some p=>
  obtain⟨p1,p2,p3⟩:=kD e;have hr:L.length< n:=ω
  have h1:=AM h hr p1
  have hsc:∀j,j<=n->qs (scM (swM A L.length p) L.length (1/ A p c) L.length j)<=2* s+1:=λj hj=>by
   unfold scM;rw[if_pos rfl];have a1:=h1 L.length j hr hj;have a2:=fu 1 (A p c);have a0:qs 1<=1:=δ
   have a3:=h p c p1 ω;have a4:=eV (swM A L.length p L.length j) (1/ A p c);omega
  intro i j hi hj;show qs (rdM (scM (swM A L.length p) L.length (1/ A p c)) L.length c i j)<=_;unfold rdM;by_cases hir:i=L.length;subst hir;rw[if_pos rfl];have:=hsc j hj;omega;rw[if_neg hir];have b1:∀t,scM (swM A L.length p) L.length (1/ A p c) i t=swM A L.length p i t:=λt=>if_neg hir;rw[b1,b1];have c1:=h1 i j hi hj;have c2:=h1 i c hi ω;have c3:=hsc j hj;have c4:=eV (swM A L.length p i c) (scM (swM A L.length p) L.length (1/ A p c) L.length j);have c5:=tT (swM A L.length p i j) (swM A L.length p i c* scM (swM A L.length p) L.length (1/ A p c) L.length j);omega
theorem CL{M:Mx}{n s:Nat}(h:bdM M n s):∀c,c<=n->bdM (slM M n c).1 n (slB s c)
 |0,_=>h
 |c+1,hc=>bd_slC (CL h c ω) (mZ M n c).len ω
end

section
variable {f:Nat}{p:Lq}{c:Cnt}(h:fS f p=some c)(hp:nz p)
include h hp
end

section
variable {f:Nat}{p:Lq}{c:Cnt}(h:fS f p=some c)(hp:nz p)
include h hp
end




section
variable {f:Nat}{q d:Lq}{c:Cnt}{σ:Rat}(h:fS f d=some c)(hd:nz d)(hσ:σ=1\/σ= -1)
end




theorem qj(p:Lq)(n i:Nat):coP (p.take n) i=if i< n then coP p i else 0:=by
 unfold coP;rw[List.getD_eq_getElem?_getD,List.getD_eq_getElem?_getD,List.getElem?_take];split <;> rfl
theorem uR{p q q':Lq}{n:Nat}(h:∀j,j<=n->coP q j=coP q' j):∀i,iI p q i n=iI p q' i n
 |0=>rfl
 |i+1=>by rw[iI,iI,uR h i,h (n- i) (Nat.sub_le ..)]
theorem yi{p q q':Lq}{n:Nat}(h:∀j,j<=n->coP q j=coP q' j):coP (ep p q) n=coP (ep p q') n:=by
 rw[AF,AF,uR h]

section
end


def oneL(A:Mx)(n:Nat)(L:Ln):Lq:=aH n (oneX A n L)
@[simp] theorem oneL_length (A:Mx)(n:Nat)(L:Ln):(oneL A n L).length=n:=by simp[oneL]
section
variable {M A:Mx}{n:Nat}{L:Ln}
theorem el_sol{c:Rat}{k:Nat}{x:Nat->Rat}(hk:k< n)(hz:∀j,j< k->M k j=0)(h:Sol c M n x):Sol c (elM M k n) n x:=by
 have hrow:∀i j,i< n->i≠k->elM M k n i j=M i j- M i k/ M k k* M k j:=λi j hi hik=>by
  unfold elM;by_cases e:k<=j;rw[if_pos ⟨hi,hik,e⟩];rw[if_neg (λe'=>e e'.2.2),hz j ω];grind
 have hkk:∀j,elM M k n k j=M k j:=λj=>by unfold elM;rw[if_neg (λe=>e.2.1 rfl)]
 intro i hi;by_cases e:i=k;subst e;rw[hkk,dM (g:=λj=>M i j* x j) n λj _=>by rw[hkk]];exact h i hi;rw[hrow i n hi e,dM (g:=λj=>M i j* x j- M i k/ M k k* (M k j* x j)) n λj _=>by rw[hrow i j hi e];grind,pf,h i hi,h k hk];grind
theorem G9{M:Mx}{n:Nat}:∀k A,k<=n->gjM M n k=some A->∀c x,Sol c M n x->Sol c A n x
 |0,A,_,h=>by cases h;exact λ_ _ h=>h
 |k+1,A,hk,h=>by
  rw[gjM] at h;cases e:gjM M n k with
  |none=>rw[e] at h;cases h
  |some B=>
   rw[e,Option.bind_some] at h;have i1:=G9 k B ω e;obtain⟨_,i2⟩:=lE k B ω e;cases e2:pvt B n k with
   |none=>rw[e2] at h;cases h
   |some p=>
    rw[e2] at h;cases h;obtain⟨p1,p2,p3⟩:=po e2;have d:=DV i2 p2 p1;exact λc x hs=>el_sol ω (λj hj=>(d j hj).2 k ω ω) ((C5 ω p1).2 (i1 c x hs))
theorem DI(h:gjM M n n=some A){c:Rat}{x y:Nat->Rat}(hx:Sol c M n x)(hy:Sol c M n y):∀j,j< n->x j=y j:=by
 obtain⟨_,d⟩:=lE n A (Nat.le_refl _) h
 have key:∀z,Sol c M n z->∀i,i< n->A i i* z i=c* A i n:=λz hz i hi=>by
  have h1:=G9 n A (Nat.le_refl _) h c z hz i hi;rw[dM (g:=λj=>if j=i then A i i* z i else 0) n λj hj=>?_,j4,if_pos hi] at h1;exact h1;by_cases e:j=i;rw[if_pos e,e];rw[if_neg e,(d j hj).2 i hi (λe'=>e e'.symm)];grind
 intro j hj;have h1:=key x hx j hj;have h2:=key y hy j hj;have h3:=(d j hj).1;have h4:A j j* (x j- y j)=0:=φ
 rcases Rat.mul_eq_zero.1 h4 with h5|h5
 exact absurd h5 h3;grind
theorem yM(A:Mx)(n:Nat):Sol 0 A n (λ_=>0):=λi hi=>by
 rw[dM (g:=λj=>if j=n then 0 else 0) n λj hj=>by grind,j4,if_neg ω];grind
theorem Ech.gap{c:Nat}(h:Ech A n c L){i l:Nat}(hi:L[i]?=some l):∀d m,L[i+d]?=some m->l+d<=m
 |0,m,hm=>by rw[Nat.add_zero] at hm;rw[hi] at hm;cases hm;omega
 |d+1,m,hm=>by
  have hlt:=(List.getElem?_eq_some_iff.1 hm).1;have h1:L[i+d]?=some L[i+d]:=List.getElem?_eq_getElem ω;have h2:=h.gap hi d _ h1;have h3:=h.inc _ _ _ _ h1 hm ω;omega
theorem Ech.all(h:Ech A n n L)(hl:n<=L.length):∀j,j< n->j∈L:=λj hj=>by
 have h1:L[j]?=some L[j]:=List.getElem?_eq_getElem ω;have h2:L[0]?=some L[0]:=List.getElem?_eq_getElem ω;have h3:L[j+(n- 1- j)]?=some L[j+(n- 1- j)]:=List.getElem?_eq_getElem ω;have g1:=h.gap h2 j L[j] (by rw[Nat.zero_add];exact h1);have g2:=h.gap h1 _ _ h3;have g3:=h.lt _ _ h3;have e:L[j]=j:=ω
 rw[<-e];exact List.getElem_mem _
theorem Ech.full(h:Ech A n n L)(hL:∀j,j< n->j∈L):n<=L.length:=by
 have key:∀j,j< n->∃k,j<=k/\L[k]?=some j:=λj=>by
  induction j with
  |zero=>exact λhj=>by obtain⟨k,hk⟩:=List.getElem?_of_mem (hL 0 hj);exact⟨k,Nat.zero_le _,hk⟩
  |succ j ih=>
   intro hj;obtain⟨k,k1,k2⟩:=ih ω;obtain⟨t,ht⟩:=List.getElem?_of_mem (hL (j+1) hj);refine⟨t,?_,ht⟩;by_cases e:k< t;omega;by_cases e2:t=k;rw[e2,k2] at ht;cases ht;have:=h.inc _ _ _ _ ht k2 ω;omega
 by_cases hn:n=0;omega;obtain⟨k,k1,k2⟩:=key (n- 1) ω;have:=(List.getElem?_eq_some_iff.1 k2).1;omega
theorem EA(h:gjM M n n=none):(slM M n n).2.length< n:=by
 refine Nat.lt_of_not_le λhl=>?_;obtain⟨x,⟨j,hj,hx⟩,hs⟩:=DJ n (Nat.le_refl _) h;have hE:=mZ M n n;exact hx (hE.uniq ((pa n).2 hs) (yM _ _) (λj hj g=>absurd (hE.all hl j hj) g) j hj)
theorem Ez(h:gjM M n n=some A):n<=(slM M n n).2.length/\oneL (slM M n n).1 n (slM M n n).2=aH n λi=>A i n/ A i i:=by
 have hE:=mZ M n n
 have hl:n<=(slM M n n).2.length:=hE.full λf hf=>by
  refine Classical.byContradiction λg=>?_;have hz:=(pa n).1 (hE.zerX hf g);have h1:=DI h hz (yM M n) f hf;unfold Abs.zerX at h1;rw[if_neg (by simpa using g),if_pos rfl] at h1;exact absurd h1 δ
 refine⟨hl,?_⟩;have h1:=(pa n).1 (hE.oneX λi g1 g2=>ω);have h2:=Ha h;have h3:=DI h h1 h2;unfold oneL aH;exact List.map_congr_left λj hj=>h3 j (List.mem_range.1 hj)
end
section
variable {M:Mx}{n c:Nat}
theorem slC_len(A:Mx)(n:Nat)(L:Ln)(c:Nat):(slC A n L c).2.length<=L.length+1:=by
 unfold slC;split <;> simp
theorem yP(h:n<=(slM M n n).2.length):∀c,c<=n->(slM M n c).2.length=c:=by
 have h1:∀d c,c+d=n->c<=(slM M n c).2.length:=λd=>by
  induction d with
  |zero=>intro c e;rw[show c=n by omega];exact h
  |succ d ih=>
   intro c e;have a:=ih (c+1) ω;have b:=slC_len (slM M n c).1 n (slM M n c).2 c;have e2:slM M n (c+1)=slC (slM M n c).1 n (slM M n c).2 c:=rfl;rw[e2] at a;omega
 exact λc hc=>Nat.le_antisymm (mZ M n c).len (h1 (n- c) c ω)
theorem FO(h:n<=(slM M n n).2.length)(hc:c< n):∃p,pvR (slM M n c).1 n c c=some p/\(slM M n (c+1)).1=rdM (scM (swM (slM M n c).1 c p) c (1/ (slM M n c).1 p c)) c c:=by
 have h1:=yP h c ω;have h2:=yP h (c+1) hc;have e:slM M n (c+1)=slC (slM M n c).1 n (slM M n c).2 c:=rfl;rw[e] at h2⊢;unfold slC at h2⊢;rw[h1] at h2⊢;cases hp:pvR (slM M n c).1 n c c with
 |none=>rw[hp] at h2;simp only at h2;omega
 |some p=>exact⟨p,rfl,rfl⟩
theorem yO{A:Mx}(h:gjM M n n=some A):n<=(slM M n n).2.length/\∀i,i< n->(slM M n n).1 i n=A i n/ A i i:=by
 obtain⟨h1,h2⟩:=Ez h;refine⟨h1,λi hi=>?_⟩;have hE:=mZ M n n;have hl:(slM M n n).2.length=n:=Nat.le_antisymm hE.len h1;have hx:=(pa n).2 (Ha h);have hall:=hE.all h1
 -- the row i leads at i
 have hi2:(slM M n n).2[i]?=some i:=by
  obtain⟨l,hl2⟩:∃l,(slM M n n).2[i]?=some l:=⟨_,List.getElem?_eq_getElem ω⟩;have hm:=List.mem_of_getElem? (show(slM M n n).2[i]?=some l from hl2);have h0:∃l0,(slM M n n).2[0]?=some l0:=⟨_,List.getElem?_eq_getElem ω⟩;obtain⟨l0,h0⟩:=h0;have ha:l0+i<=l:=hE.gap h0 i l (by rw[Nat.zero_add];exact hl2);have hb:∃z,(slM M n n).2[i+(n- 1- i)]?=some z:=⟨_,List.getElem?_eq_getElem ω⟩;obtain⟨z,hz⟩:=hb;have hc:=hE.gap hl2 (n- 1- i) z hz;have hd:=hE.lt _ _ hz;rw[hl2,show l=i by omega]
 have:=hE.row (x:=λi=>A i n/ A i i) (λj hj g=>absurd (hall j hj) g) hi2;have h3:=hx i hi;rw[this] at h3;rw[h3];grind
-- Looking for the row.
def qR{α:Type}(t:α->Bool):List α->Int->Int
 |[],_=> -1
 |a::l,i=>if t a then i else qR t l (i+1)
theorem DF{α:Type}(t:α->Bool):∀(l:List α) (k:Int) (j:Nat) (x:α),l[j]?=some x->t x=true->(∀i y,i< j->l[i]?=some y->t y=false)->qR t l k=k+j
 |[],_,_,_,h,_,_=>by cases h
 |a::l,k,0,x,h,h2,_=>by
  cases h;rw[qR,if_pos h2];simp
 |a::l,k,j+1,x,h,h2,h3=>by
  rw[qR,if_neg (by rw[h3 0 a ω rfl];decide),DF t l (k+1) j x (by simpa using h) h2 λi y hi hy=>h3 (i+1) y ω (by simpa using hy)];omega
theorem tK{r i:Nat}(h:r+i< n):(((List.range n).map λk=>aH (n+1) (M k)).drop r)[i]?=some (aH (n+1) (M (r+i))):=by
 rw[List.getElem?_drop];simp[h]
theorem uW{f:Nat->Rat}(h:c<=n):coP (aH (n+1) f) c=f c:=by
 unfold coP aH;rw[List.getD_eq_getElem?_getD];simp[show c< n+1 by omega]
theorem DE{r p:Nat}(hc:c<=n)(e:pvR M n r c=some p):qR (λe:Lq=>decide (coP e c≠0)) (((List.range n).map λk=>aH (n+1) (M k)).drop r) 0=((p- r:Nat):Int):=by
 obtain⟨p1,p2,p3⟩:=kD e
 have hfirst:∀q,q< p->r<=q->M q c=0:=λq hq hrq=>by
  have e2:=e;unfold pvR at e2;rw[List.find?_range_eq_some] at e2;have:=e2.2.2 q hq;simp at this;exact this.resolve_left ω
 rw[DF _ _ 0 (p- r) (aH (n+1) (M p)) (by rw[tK ω,show r+(p- r)=p by omega]) (by rw[uW hc];exact decide_eq_true p3) λi y hi hy=>?_];simp;rw[tK ω] at hy;cases hy;rw[uW hc,hfirst (r+i) ω ω];decide
end
end Go.Abs
namespace Go.Abs
open Go.RowKit
section
variable {i T:Nat}{x:Option Lq}
section
variable {r:Ren}{hp hp':Hq}
theorem ShrL.same{x:Option ABlk}{l:Hp}(hi:Nat.blt i r.n=true)(h:hp (r.s i)=x)(hl:ShrL r hp l):ShrL r hp ((i,x)::l):=by
 refine⟨?_,hl⟩;cases x with
 |none=>trivial
 |some B=>exact⟨Nat.le_of_ble_eq_true hi,B,h,rfl,rfl,rfl⟩
theorem CvH.same{x:Option ABlk}{l:Hp}(hs:Shr r hp hp')(hi:Nat.blt i r.n=true)(h:hp (r.s i)=x)(hc:∀B,x=some B->∀e∈B.es,∀c∈e,Closed c)(hl:CvH r hp hp' l):CvH r hp hp' ((i,x)::l):=by
 refine⟨?_,hl⟩;cases x with
 |none=>trivial
 |some B=>exact⟨Nat.le_of_ble_eq_true hi,B,h,rfl,rfl,bZ hs (hc B rfl)⟩
def F6(i:Nat)(x:Option Lq):AV:=match x with|none=> .emp|some l=> .lsl i 0 l.length none 3
def pk(T:Nat)(x:Option Lq):Option ABlk:=match x with|none=>none|some l=>some ⟨T,3,pE l⟩
theorem cf:∀B,pk T x=some B->∀e∈B.es,∀c∈e,Closed c:=λB h=>by
 cases x with
 |none=>cases h
 |some l=>cases h;exact aJ l
theorem Dg:∀B,pk T x=some B->B.sz=3:=λB h=>by
 cases x with
 |none=>cases h
 |some l=>cases h;rfl
theorem Cv.row(hs:Shr r hp hp')(hi:Nat.blt i r.n=true)(h:r.s i=i)(h2:hp' i=pk T x):Cv r hp hp' (F6 i x) (F6 i x):=by
 cases x with
 |none=>exact ah hs aK
 |some l=>exact Cv.sl hi h (by rw[h2];rfl)
theorem Top.row{H:Nat->Prop}(h:x.isSome=true->H i):Top H (F6 i x):=by
 cases x with
 |none=>exact .clo aK
 |some l=>exact .sl (h rfl)
end
end
def rzH(TS TQ:Nat)(R:Nat->Lq)(n:Nat):Hp:=(0,some ⟨TS,1,rwO R (λx=>x) n⟩)::mxB TQ 3 (rwL R n) 2
def InZ(m i:Nat):Prop:=i=0\/(2<=i/\i< m+2)
section
variable {fr fr':Fr}{hp:Hp}{nx N TS TQ n k:Nat}{R R':Nat->Lq}
theorem bH(h:k< n):au (rzH TS TQ R n) (k+2)=some ⟨TQ,3,pE (R k)⟩:=by
 unfold rzH;rw[bh ω];exact sJ _ 2 k _ (w9 h)
theorem fN(h:k< n):dw (au (rzH TS TQ R n)) (k+2)=some ⟨TQ,3,pE (R k)⟩:=dY (bH h) (show(3:Nat)≠0 by decide)
theorem bv:au (rzH TS TQ R n) 0=some ⟨TS,1,rwO R (λx=>x) n⟩:=rfl
theorem ng:∀i B,(i,some B)∈rzH TS TQ R n->(i=0/\B=⟨TS,1,rwO R (λx=>x) n⟩)\/∃k,k< n/\i=k+2/\B=⟨TQ,3,pE (R k)⟩:=λi B h=>by
 rcases List.mem_cons.1 h with h|h
 cases h;exact .inl ⟨rfl,rfl⟩;obtain⟨k,e,k1,k2,k3⟩:=sK _ 2 i B h;obtain⟨k4,rfl⟩:=w8 k1;exact .inr ⟨k,k4,ω,k3⟩
theorem vP(h:∀k,k< n->R k=R' k):rzH TS TQ R n=rzH TS TQ R' n:=by
 unfold rzH;rw[gi (R':=R') (s':=λx=>x) λk hk=>⟨by rw[h k hk],rfl⟩,show rwL R n=rwL R' n from List.map_congr_left λk hk=>by rw[h k (List.mem_range.1 hk)]]
theorem fM(h:k=1\/n+2<=k):au (rzH TS TQ R n) k=none:=by
 cases e:au (rzH TS TQ R n) k with
 |none=>rfl
 |some B=>
  rcases ng k B (da e) with⟨e1,_⟩|⟨j,j1,j2,_⟩<;> omega
theorem SEntT.rz (s:Nat->Nat) (hn:n<=30) (s0:s 0=0) (hinj:∀i j,InZ n i->InZ n j->s i=s j->i=j) (h1:au hp 0=some ⟨TS,1,rwO R s n⟩) (hr:∀i,i< n->au hp (s (i+2))=some ⟨TQ,3,pE (R i)⟩)
    (hF:Shr ⟨40,s⟩ (au hp) (au (rzH TS TQ R n))->CvF ⟨40,s⟩ (au hp) (au (rzH TS TQ R n)) fr fr'):SEntT ⟨fr,hp,nx,N⟩ ⟨fr',rzH TS TQ R n,40,N⟩:=by
 have hS:Shr ⟨40,s⟩ (au hp) (au (rzH TS TQ R n)):=⟨λi B h=>by
  rcases ng i B (da h) with⟨rfl,rfl⟩|⟨k,k1,rfl,rfl⟩
  exact⟨(show 0< 40 by decide),⟨TS,1,rwO R s n⟩,by show au hp (s 0)=_;rw[s0];exact h1,rfl,rfl,ψ⟩;exact⟨by show k+2< 40;omega,_,hr k k1,rfl,rfl,rfl⟩⟩
 refine SEntT.intro (st:=⟨fr,hp,nx,N⟩) (st':=⟨fr',rzH TS TQ R n,40,N⟩) ⟨40,s⟩ rfl (show 0< 40 by decide) s0 (pG _ λi j hi hj e=>?_) rfl (hF hS) (rG _ λi B h=>?_)
 have g:∀i,i∈(rzH TS TQ R n).map (·.1)->InZ n i:=λi hi=>by
  rcases List.mem_cons.1 hi with h|h
  exact .inl h;have:=nk _ 2 i h;rw[jz] at this;exact .inr ⟨ω,ω⟩
 exact hinj i j (g i hi) (g j hj) e;rcases ng i B h with⟨rfl,rfl⟩|⟨k,k1,rfl,rfl⟩
 refine⟨(show 0< 40 by decide),⟨TS,1,rwO R s n⟩,by show au hp (s 0)=_;rw[s0];exact h1,rfl,rfl,vo hn λi hi=>?_⟩;rw[bH hi];rfl;exact⟨by show k+2< 40;omega,_,hr k k1,rfl,rfl,bZ hS (aJ _)⟩
theorem SEntT.rz1 (hn:n<=30) (h1:au hp 0=some ⟨TS,1,rwO R (λx=>x) n⟩) (hr:∀i,i< n->au hp (i+2)=some ⟨TQ,3,pE (R i)⟩)
    (hF:Shr ⟨40,λx=>x⟩ (au hp) (au (rzH TS TQ R n))->CvF ⟨40,λx=>x⟩ (au hp) (au (rzH TS TQ R n)) fr fr'):SEntT ⟨fr,hp,nx,N⟩ ⟨fr',rzH TS TQ R n,40,N⟩:=
 SEntT.rz (λx=>x) hn rfl (λ_ _ _ _ e=>e) h1 hr hF
end
end Go.Abs
namespace Go.Abs
theorem swx2(a b i:Nat):swx (a+2) (b+2) (i+2)=swx a b i+2:=by
 unfold swx;by_cases h1:i=a;rw[if_pos ω,if_pos h1];rw[if_neg ω,if_neg h1];by_cases h2:i=b;rw[if_pos ω,if_pos h2];rw[if_neg ω,if_neg h2]
theorem FH{a b i n:Nat}(ha:a< n)(hb:b< n)(hi:i< n):swx a b i< n:=by unfold swx;split <;>(try split)<;> omega
theorem FI(A:Mx)(r p i:Nat):swM A r p i=A (swx p r i):=by
 funext j;unfold swM swx;by_cases h1:i=r;subst h1;by_cases h2:i=p;subst h2;simp;simp[h2];by_cases h2:i=p;subst h2;simp[h1];simp[h1,h2]
theorem ntT{a b:Int}(h:a≠b):(a !=b)=true:=by simpa using h
theorem ntF{a b:Int}(h:a=b):(a !=b)=false:=by simp[h]
def rzI(n:Nat):Ln:=0::(List.range n).map (· +2)
section
variable {TS TQ n i j e:Nat}{X:Mx}{v:Rat}
theorem w7{fr fr':Fr}{nx N:Nat}(hn:n<=30)(hi:i< n)(hj:j< n+1)(he:e=j)(hF:Shr ⟨40,λx=>x⟩ (au ((i+2,some ⟨TQ,3,(pE (aH (n+1) (X i))).set e (qC v)⟩)::rzH TS TQ (λk=>aH (n+1) (X k)) n)) (au (rzH TS TQ (λk=>aH (n+1) (puM X i j v k)) n))->CvF ⟨40,λx=>x⟩ (au ((i+2,some ⟨TQ,3,(pE (aH (n+1) (X i))).set e (qC v)⟩)::rzH TS TQ (λk=>aH (n+1) (X k)) n)) (au (rzH TS TQ (λk=>aH (n+1) (puM X i j v k)) n)) fr fr'):
    SEntT ⟨fr,(i+2,some ⟨TQ,3,(pE (aH (n+1) (X i))).set e (qC v)⟩)::rzH TS TQ (λk=>aH (n+1) (X k)) n,nx,N⟩ ⟨fr',rzH TS TQ (λk=>aH (n+1) (puM X i j v k)) n,40,N⟩:=by
 refine SEntT.rz1 hn ?_ ?_ hF;rw[bh ω,bv,gi (R':=λk=>aH (n+1) (puM X i j v k)) (s':=λx=>x)];exact λk hk=>⟨ψ,rfl⟩;intro k hk;by_cases h:k=i;subst h;rw[<-puM_set hj e he,de,bn];rw[bh ω,bH hk,puM_ne h]
end
theorem AC{hp hp':Hq}{k:Nat}(hs:Shr ⟨40,λx=>x⟩ hp hp')(hk:40<=k):vA ⟨40,λx=>x⟩ hp' k:=λj B hj e=>by
 obtain⟨h0⟩:=hs;have h1:j< 40:=(h0 j B hj).1;have e:j=k:=e;omega
end Go.Abs
namespace Go.Abs
open Go.RowKit
def oV:Nat->AV
 |0=> .emp
 |i+1=> .lsl 1 0 (i+1) none 1
def rV:Nat->AV
 |0=> .emp
 |j+1=> .lsl 39 0 (j+1) none 3
def rX(TQ:Nat)(f:Nat->Rat):Nat->Hp
 |0=>[]
 |j+1=>[(39,some ⟨TQ,3,pE (aH (j+1) f)⟩)]
def hJ(TS TQ:Nat)(R:Nat->Lq):Nat->Hp
 |0=>[]
 |i+1=>(1,some ⟨TS,1,rwO R (λx=>x) (i+1)⟩)::mxB TQ 3 (rwL R (i+1)) 2
def hI(TS TQ:Nat)(R:Nat->Lq)(i:Nat)(f:Nat->Rat)(j:Nat):Hp:=rX TQ f j++hJ TS TQ R i
section
variable {fr fr':Fr}{hp:Hp}{nx N TS TQ i j k:Nat}{R R':Nat->Lq}{f:Nat->Rat}
theorem Ge:∀p∈rX TQ f j,p.1=39:=λp hp=>by
 cases j with
 |zero=>cases hp
 |succ j=>rw[List.mem_singleton.1 hp]
theorem j9(hi:i<=30)(h:k< i):au (hI TS TQ R i f j) (k+2)=some ⟨TQ,3,pE (R k)⟩:=by
 unfold hI;rw[mB _ λp hp e=>by have:=Ge p hp;omega];cases i with
 |zero=>omega
 |succ i=>
  rw[hJ,bh ω];exact sJ _ 2 k _ (w9 h)
theorem lD(h:i≠0):au (hI TS TQ R i f j) 1=some ⟨TS,1,rwO R (λx=>x) i⟩:=by
 unfold hI;rw[mB _ λp hp e=>by have:=Ge p hp;omega];cases i with
 |zero=>exact absurd rfl h
 |succ i=>rfl
theorem G7:∀x B,(x,some B)∈hI TS TQ R i f j->(x=39/\j≠0/\B=⟨TQ,3,pE (aH j f)⟩)\/(x=1/\i≠0/\B=⟨TS,1,rwO R (λx=>x) i⟩)\/∃k,k< i/\x=k+2/\B=⟨TQ,3,pE (R k)⟩:=λx B h=>by
 rcases List.mem_append.1 h with h|h
 cases j with
 |zero=>cases h
 |succ j=>cases List.mem_singleton.1 h;exact .inl ⟨rfl,ω,rfl⟩
 cases i with
 |zero=>cases h
 |succ i=>
  rcases List.mem_cons.1 h with h|h
  cases h;exact .inr (.inl ⟨rfl,ω,rfl⟩);obtain⟨k,e,k1,k2,k3⟩:=sK _ 2 x B h;obtain⟨k4,rfl⟩:=w8 k1;exact .inr (.inr ⟨k,k4,ω,k3⟩)
theorem SEntT.hi (s:Nat->Nat) (hn:i<=30) (s0:s 0=0) (hinj:∀x y,InX i x->InX i y->s x=s y->x=y) (h1:i≠0->au hp (s 1)=some ⟨TS,1,rwO R s i⟩) (hr:∀k,k< i->au hp (s (k+2))=some ⟨TQ,3,pE (R k)⟩) (hx:j≠0->au hp (s 39)=some ⟨TQ,3,pE (aH j f)⟩)
    (hF:Shr ⟨40,s⟩ (au hp) (au (hI TS TQ R i f j))->CvF ⟨40,s⟩ (au hp) (au (hI TS TQ R i f j)) fr fr'):SEntT ⟨fr,hp,nx,N⟩ ⟨fr',hI TS TQ R i f j,40,N⟩:=by
 have hS:Shr ⟨40,s⟩ (au hp) (au (hI TS TQ R i f j)):=⟨λx B h=>by
  rcases G7 x B (da h) with⟨rfl,a,rfl⟩|⟨rfl,a,rfl⟩|⟨k,k1,rfl,rfl⟩
  exact⟨(show 39< 40 by decide),_,hx a,rfl,rfl,rfl⟩;exact⟨(show 1< 40 by decide),⟨TS,1,rwO R s i⟩,h1 a,rfl,rfl,ψ⟩;exact⟨by show k+2< 40;omega,_,hr k k1,rfl,rfl,rfl⟩⟩
 refine SEntT.intro (st:=⟨fr,hp,nx,N⟩) (st':=⟨fr',hI TS TQ R i f j,40,N⟩) ⟨40,s⟩ rfl (show 0< 40 by decide) s0 (pG _ λx y hx hy e=>?_) rfl (hF hS) (rG _ λx B h=>?_)
 have g:∀x,x∈(hI TS TQ R i f j).map (·.1)->InX i x:=λx hx=>by
  unfold hI at hx;rw[List.map_append,List.mem_append] at hx;rcases hx with hx|hx
  obtain⟨p,hp,rfl⟩:=List.mem_map.1 hx;rw[Ge p hp];exact .inr ⟨ω,ω⟩;cases i with
  |zero=>cases hx
  |succ i=>
   rcases List.mem_cons.1 hx with h|h
   have h:x=1:=h;exact .inl ⟨ω,ω⟩;have:=nk _ 2 x h;rw[jz] at this;exact .inl ⟨ω,ω⟩
 exact hinj x y (g x hx) (g y hy) e;rcases G7 x B h with⟨rfl,a,rfl⟩|⟨rfl,a,rfl⟩|⟨k,k1,rfl,rfl⟩
 exact⟨(show 39< 40 by decide),_,hx a,rfl,rfl,bZ hS (aJ _)⟩;refine⟨(show 1< 40 by decide),⟨TS,1,rwO R s i⟩,h1 a,rfl,rfl,vo hn λk hk=>?_⟩;rw[j9 hn hk];rfl;exact⟨by show k+2< 40;omega,_,hr k k1,rfl,rfl,bZ hS (aJ _)⟩
theorem Ii{s:Nat->Nat}(hs:Shr ⟨40,s⟩ (au hp) (au (hI TS TQ R i f j)))(h:s 1=1):Cv ⟨40,s⟩ (au hp) (au (hI TS TQ R i f j)) (oV i) (oV i):=by
 cases i with
 |zero=>exact ah hs aK
 |succ i=>exact Cv.sl rfl h (by rw[lD ω];rfl)
theorem Cv_rV{s:Nat->Nat}(hs:Shr ⟨40,s⟩ (au hp) (au (hI TS TQ R i f j)))(h:s 39=39):Cv ⟨40,s⟩ (au hp) (au (hI TS TQ R i f j)) (rV j) (rV j):=by
 cases j with
 |zero=>exact ah hs aK
 |succ j=>exact Cv.sl rfl h rfl
theorem SEntT.hi1 (hn:i<=30) (h1:i≠0->au hp 1=some ⟨TS,1,rwO R (λx=>x) i⟩) (hr:∀k,k< i->au hp (k+2)=some ⟨TQ,3,pE (R k)⟩) (hx:j≠0->au hp 39=some ⟨TQ,3,pE (aH j f)⟩)
    (hF:Shr ⟨40,λx=>x⟩ (au hp) (au (hI TS TQ R i f j))->CvF ⟨40,λx=>x⟩ (au hp) (au (hI TS TQ R i f j)) fr fr'):SEntT ⟨fr,hp,nx,N⟩ ⟨fr',hI TS TQ R i f j,40,N⟩:=
 SEntT.hi (λx=>x) hn rfl (λ_ _ _ _ e=>e) h1 hr hx hF
def sG(a x:Nat):Nat:=cond (Nat.beq x 39) a x
theorem nP{a x:Nat}(h:x≠39):sG a x=x:=by
 unfold sG;cases e:Nat.beq x 39 with
 |false=>rfl
 |true=>exact absurd (Nat.eq_of_beq_eq_true e) h
theorem FU{a:Nat}(ha:40<=a)(hi:i<=30)(x y:Nat)(hx:InX i x)(hy:InX i y)(e:sG a x=sG a y):x=y:=by
 unfold InX at hx hy;by_cases h1:x=39;by_cases h2:y=39;rw[h1,h2];rw[h1,nP h2] at e;have e:a=y:=e;omega;by_cases h2:y=39;rw[h2,nP h1] at e;have e:x=a:=e;omega;rw[nP h1,nP h2] at e;exact e
def sD(i a b x:Nat):Nat:=cond (Nat.beq x 1) a (cond (Nat.beq x (i+2)) b x)
theorem sD_1(i a b:Nat):sD i a b 1=a:=rfl
theorem Eh(i a b:Nat):sD i a b (i+2)=b:=by
 unfold sD;rw[show Nat.beq (i+2) 1=false by cases e:Nat.beq (i+2) 1 with|false=>rfl|true=>have:=Nat.eq_of_beq_eq_true e;omega,Nat.beq_refl];rfl
theorem rK{i a b x:Nat}(h1:x≠1)(h2:x≠i+2):sD i a b x=x:=by
 unfold sD;rw[show Nat.beq x 1=false by cases e:Nat.beq x 1 with|false=>rfl|true=>exact absurd (Nat.eq_of_beq_eq_true e) h1,show Nat.beq x (i+2)=false by cases e:Nat.beq x (i+2) with|false=>rfl|true=>exact absurd (Nat.eq_of_beq_eq_true e) h2];rfl
theorem FV{i a b m:Nat}(ha:40<=a)(hb:40<=b)(hab:a≠b)(hm:m<=30)(x y:Nat)(hx:InX m x)(hy:InX m y)(e:sD i a b x=sD i a b y):x=y:=by
 unfold InX at hx hy;by_cases h1:x=1 <;> by_cases h2:y=1;rw[h1,h2];rw[h1,sD_1] at e;by_cases h4:y=i+2;rw[h4,Eh] at e;omega;rw[rK h2 h4] at e;omega;rw[h2,sD_1] at e;by_cases h3:x=i+2;rw[h3,Eh] at e;omega;rw[rK h1 h3] at e;omega;by_cases h3:x=i+2 <;> by_cases h4:y=i+2;rw[h3,h4];rw[h3,Eh,rK h2 h4] at e;omega;rw[h4,Eh,rK h1 h3] at e;omega;rw[rK h1 h3,rK h2 h4] at e;exact e
theorem yY{i a b m:Nat}(h:m=(R i).length):rwO R (λx=>x) i++[[.lsl b 0 m none 3]]=rwO R (sD i a b) (i+1):=by
 subst h;refine List.ext_getElem? λk=>?_;rw[List.getElem?_append,jy];split
 ·rename_i h
  rw[dQ h k rfl,dQ ω k rfl,rK ω ω]
 ·rename_i h
  by_cases e:k=i;subst e;rw[Nat.sub_self,dQ ω k rfl,Eh];rfl;rw[rwO_out ω,List.getElem?_eq_none χ]
end
end Go.Abs
namespace Go.Abs

def atQ(c:Lq)(s j:Nat):Rat:=if j<=s then coP c (s- j) else 0
def quM(c:Lq)(m n:Nat):Mx:=λi j=>if j=n then -coP c (m+1+i) else atQ c (m+i) j
end Go.Abs
namespace Go.Abs
open Go.RowKit
section
variable {fr fr':Fr}{hp:Hp}{nx N TS TQ n:Nat}{R:Nat->Lq}
theorem SEntP.rz (s:Nat->Nat) (hn:n<=30) (hinj:∀i j,InZ n i->InZ n j->s i=s j->i=j) (h1:au hp (s 0)=some ⟨TS,1,rwO R s n⟩) (hr:∀i,i< n->au hp (s (i+2))=some ⟨TQ,3,pE (R i)⟩)
    (hF:Shr ⟨40,s⟩ (au hp) (au (rzH TS TQ R n))->CvF ⟨40,s⟩ (au hp) (au (rzH TS TQ R n)) fr fr'):SEntP ⟨fr,hp,nx,N⟩ ⟨fr',rzH TS TQ R n,40,N⟩:=by
 have hS:Shr ⟨40,s⟩ (au hp) (au (rzH TS TQ R n)):=⟨λi B h=>by
  rcases ng i B (da h) with⟨rfl,rfl⟩|⟨k,k1,rfl,rfl⟩
  exact⟨(show 0< 40 by decide),⟨TS,1,rwO R s n⟩,h1,rfl,rfl,ψ⟩;exact⟨by show k+2< 40;omega,_,hr k k1,rfl,rfl,rfl⟩⟩
 refine SEntP.intro (st:=⟨fr,hp,nx,N⟩) (st':=⟨fr',rzH TS TQ R n,40,N⟩) ⟨40,s⟩ rfl (show 0< 40 by decide) (pG _ λi j hi hj e=>?_) rfl (hF hS) (rG _ λi B h=>?_)
 have g:∀i,i∈(rzH TS TQ R n).map (·.1)->InZ n i:=λi hi=>by
  rcases List.mem_cons.1 hi with h|h
  exact .inl h;have:=nk _ 2 i h;rw[jz] at this;exact .inr ⟨ω,ω⟩
 exact hinj i j (g i hi) (g j hj) e;rcases ng i B h with⟨rfl,rfl⟩|⟨k,k1,rfl,rfl⟩
 refine⟨(show 0< 40 by decide),⟨TS,1,rwO R s n⟩,h1,rfl,rfl,vo hn λi hi=>?_⟩;rw[bH hi];rfl;exact⟨by show k+2< 40;omega,_,hr k k1,rfl,rfl,bZ hS (aJ _)⟩
def s01(x:Nat):Nat:=cond (Nat.beq x 0) 1 x
theorem l7{x:Nat}(h:x≠0):s01 x=x:=by
 cases x with
 |zero=>exact absurd rfl h
 |succ x=>rfl
theorem C7(x y:Nat)(hx:InZ n x)(hy:InZ n y)(e:s01 x=s01 y):x=y:=by
 unfold InZ at hx hy;by_cases h1:x=0 <;> by_cases h2:y=0;omega;rw[h1,l7 h2] at e;have e:1=y:=e;omega;rw[h2,l7 h1] at e;have e:x=1:=e;omega;rwa[l7 h1,l7 h2] at e
theorem F0{H:Nat->Prop}(hH:∀k,k< n->H (k+2)):∀i B,au (rzH TS TQ R n) i=some B->B.sz≠0/\∀e∈B.es,∀c∈e,Top H c:=λi B h=>by
 rcases ng i B (da h) with⟨rfl,rfl⟩|⟨k,k1,rfl,rfl⟩
 refine⟨(show(1:Nat)≠0 by decide),λe he c hc=>?_⟩;obtain⟨k,hk⟩:=List.mem_iff_getElem?.1 he
 have hlt:k< n:=by
  have:=(List.getElem?_eq_some_iff.1 hk).1;rwa[jy] at this
 rw[dQ hlt k rfl] at hk;cases hk;rw[List.mem_singleton.1 hc];exact .sl (hH k hlt);exact⟨(show(3:Nat)≠0 by decide),λe he c hc=> .clo (aJ _ e he c hc)⟩
end
end Go.Abs
namespace Go.Abs

section
variable {N:Lq}{n:Nat}(hN:nz N)(hm:bu N=1)(h1:1<=n)(ht:aA N=N)
end

def quQ(A:Mx)(n i:Nat):Lq:=1::aH i (λk=>A k n)
def quD(A:Mx)(n:Nat):Lq:=aA (quQ A n n)
def quN(c:Lq)(A:Mx)(m n:Nat):Lq:=aA ((ep (c.take (m+1)) (quD A n)).take (m+1))
theorem tR{c:Lq}{m n s:Nat}(hc:bdL c s)(hs:1<=s):bdM (quM c m n) n s:=λi j _ _=>by
 unfold quM atQ;split;rw[ij];exact gY hc hs _;split;exact gY hc hs _;exact Nat.le_trans (by decide:qs 0<=1) hs
section
variable {M:Mx}{n c:Nat}
theorem FP(h1:(slM M n c).2.length=c)(hp:pvR (slM M n c).1 n c c=none):(slM M n (c+1)).2.length=c:=by
 have e:slM M n (c+1)=slC (slM M n c).1 n (slM M n c).2 c:=rfl;rw[e];unfold slC;rw[h1,hp];exact h1
theorem yN{p:Nat}(h1:(slM M n c).2.length=c)(hp:pvR (slM M n c).1 n c c=some p):(slM M n (c+1)).2.length=c+1/\(slM M n (c+1)).1=rdM (scM (swM (slM M n c).1 c p) c (1/ (slM M n c).1 p c)) c c:=by
 have e:slM M n (c+1)=slC (slM M n c).1 n (slM M n c).2 c:=rfl;rw[e];unfold slC;rw[h1,hp];exact⟨by simp[h1],rfl⟩
structure Upto (M:Mx)(n k:Nat):Prop where
 le:k<=n
 len:∀c,c<=k->(slM M n c).2.length=c
 fin:k=n\/(k< n/\pvR (slM M n k).1 n k k=none)
theorem upto_ex(M:Mx)(n:Nat):∃k,Upto M n k:=by
 have key:∀j,j<=n->(∃k,Upto M n k)\/∀c,c<=j->(slM M n c).2.length=c:=λj=>by
  induction j with
  |zero=>exact λ_=> .inr λc hc=>by rw[show c=0 by omega];rfl
  |succ j ih=>
   intro hj;rcases ih ω with h|h
   exact .inl h;cases hp:pvR (slM M n j).1 n j j with
   |none=>exact .inl ⟨j,ω,h,.inr ⟨ω,hp⟩⟩
   |some p=>
    refine .inr λc hc=>?_;by_cases e:c=j+1;rw[e];exact(yN (h j (Nat.le_refl _)) hp).1;exact h c ω
 rcases key n (Nat.le_refl _) with h|h
 exact h;exact⟨n,Nat.le_refl _,h,.inl rfl⟩
theorem Upto.step{k:Nat}(h:Upto M n k)(hc:c< k):∃p,pvR (slM M n c).1 n c c=some p/\(slM M n (c+1)).1=rdM (scM (swM (slM M n c).1 c p) c (1/ (slM M n c).1 p c)) c c:=by
 cases hp:pvR (slM M n c).1 n c c with
 |none=>
  have h1:=FP (h.len c ω) hp;have h2:=h.len (c+1) ω;omega
 |some p=>exact⟨p,rfl,(yN (h.len c ω) hp).2⟩
theorem Upto.none{k:Nat}(h:Upto M n k)(hA:gjM M n n=none):k< n:=by
 have h1:=EA hA;rcases h.fin with e|⟨h2,_⟩
 have:=h.len k (Nat.le_refl _);rw[e] at this;omega;exact h2
theorem wb{α:Type}(t:α->Bool):∀(l:List α) (k:Int),(∀x∈l,t x=false)->qR t l k= -1
 |[],_,_=>rfl
 |a::l,k,h=>by
  rw[qR,if_neg (by rw[h a (List.mem_cons_self ..)];decide)];exact wb t l _ λx hx=>h x (List.mem_cons_of_mem _ hx)
theorem G1{r:Nat}(hc:c<=n)(e:pvR M n r c=none):qR (λe:Lq=>decide (coP e c≠0)) (((List.range n).map λk=>aH (n+1) (M k)).drop r) 0= -1:=by
 refine wb _ _ _ λx hx=>?_;obtain⟨i,hi⟩:=List.mem_iff_getElem?.1 hx
 have hlt:r+i< n:=by
  have:=(List.getElem?_eq_some_iff.1 hi).1;simp at this;omega
 rw[tK hlt] at hi;cases hi;rw[uW hc,ze e (r+i) hlt ω];decide
end
def pd:Nat->Nat->List UInt8
 |0,_=>[]
 |k+1,n=>pd k (n/ 10)++[UInt8.ofNat (48+n % 10)]
theorem vY(k n:Nat):(pd k n).length=k:=by
 induction k generalizing n with
 |zero=>rfl
 |succ k ih=>rw[pd,List.length_append,ih];rfl
theorem Gr(j k n:Nat):pd (j+k) n=pd j (n/ 10^ k)++pd k n:=by
 induction k generalizing n with
 |zero=>rw[Nat.add_zero,Nat.pow_zero,Nat.div_one];simp[pd]
 |succ k ih=>rw[<-Nat.add_assoc,pd,pd,ih,Nat.div_div_eq_div_mul,Nat.pow_succ,Nat.mul_comm 10,List.append_assoc]
theorem pd_mod(k n:Nat):pd k (n % 10^ k)=pd k n:=by
 induction k generalizing n with
 |zero=>rfl
 |succ k ih=>
  rw[pd,pd,Nat.pow_succ]
  have e1:n % (10^ k* 10) / 10=n/ 10 % 10^ k:=by
   rw[Nat.mul_comm,Nat.mod_mul_right_div_self]
  have e2:n % (10^ k* 10) % 10=n % 10:=by rw[Nat.mod_mul_left_mod]
  rw[e1,e2,ih]
theorem Gp(k n:Nat):pd (k+1) n=UInt8.ofNat (48+n/ 10^ k % 10)::pd k n:=by
 rw[Nat.add_comm,Gr];rfl
theorem Dp(k:Nat):pd k 0=List.replicate k 48:=by
 induction k with
 |zero=>rfl
 |succ k ih=>rw[pd,ih,List.replicate_succ'];rfl
def jJ:List UInt8->List UInt8
 |[]=>[]
 |c::l=>if c=48 then jJ l else c::l
theorem yb{a b:List UInt8}(h:jJ a≠[]):jJ (a++b)=jJ a++b:=by
 induction a with
 |nil=>exact absurd rfl h
 |cons c a ih=>
  rw[List.cons_append,jJ,jJ];rw[jJ] at h;by_cases hc:c=48;rw[if_pos hc] at h;rw[if_pos hc,if_pos hc,ih h];rw[if_neg hc,if_neg hc];rfl
theorem Ax(k:Nat)(l:List UInt8):jJ (List.replicate k 48++l)=jJ l:=by
 induction k with
 |zero=>rfl
 |succ k ih=>rw[List.replicate_succ,List.cons_append,jJ,if_pos rfl,ih]
theorem dig_ne{n:Nat}(h0:n≠0)(h:n< 10):UInt8.ofNat (48+n)≠48:=by
 have:∀n,n< 10->n≠0->UInt8.ofNat (48+n)≠48:=δ
 exact this n h h0
theorem qg(n:Nat):Lib.decDigits n≠[]:=by
 intro e;have h1:=Lib.decDigits_length n;rw[e] at h1;have:=Lib.nDigits_pos n;simp at h1;omega
theorem Ay:∀(k n:Nat),0< n->n< 10^ k->jJ (pd k n)=Lib.decDigits n
 |0,n,h,h2=>by rw[Nat.pow_zero] at h2;omega
 |k+1,n,h,h2=>by
  rw[pd,Lib.decDigits];by_cases h10:n< 10;rw[dif_pos h10,Nat.div_eq_of_lt h10,Dp,Ax,Nat.mod_eq_of_lt h10,jJ,if_neg (dig_ne ω h10)];rw[dif_neg h10];have ih:=Ay k (n/ 10) ω (by rw[Nat.pow_succ] at h2;omega);rw[yb (by rw[ih];exact qg _),ih]
theorem wy:∀(k a b:Nat),0< a->b< 10^ k->Lib.decDigits (a* 10^ k+b)=Lib.decDigits a++pd k b
 |0,a,b,h,hb=>by
  have:b=0:=by rw[Nat.pow_zero] at hb;omega
  subst this;simp[pd]
 |k+1,a,b,h,hb=>by
  have hp:1<=10^ k:=Nat.one_le_pow _ _ δ;have hap:1<=a* 10^ k:=Nat.mul_le_mul h hp;have e:a* 10^ (k+1)+b=(a* 10^ k) * 10+b:=by rw[Nat.pow_succ,Nat.mul_assoc]
  rw[e,Lib.decDigits,dif_neg ω,show(a* 10^ k* 10+b) / 10=a* 10^ k+b/ 10 by omega,show(a* 10^ k* 10+b) % 10=b % 10 by omega,wy k a (b/ 10) h (by rw[Nat.pow_succ] at hb;omega),pd,List.append_assoc]
theorem Gq:∀(k n:Nat),0< n->n< 10^ k->pd k n=List.replicate (k- (Lib.decDigits n).length) 48++Lib.decDigits n
 |0,n,h,h2=>by rw[Nat.pow_zero] at h2;omega
 |k+1,n,h,h2=>by
  rw[pd,Lib.decDigits];by_cases h10:n< 10;rw[dif_pos h10,Nat.div_eq_of_lt h10,Dp,Nat.mod_eq_of_lt h10];rfl;rw[dif_neg h10,Gq k (n/ 10) ω (by rw[Nat.pow_succ] at h2;omega),List.length_append,List.append_assoc];congr 2;simp
def qtQ(A:Mx)(n:Nat):Lq:=1::aH n λi=>A i n/ A i i
theorem qt_same{c:Lq}{m n:Nat}{A:Mx}(hA:gjM (quM c m n) n n=some A):
    quD (slM (quM c m n) n n).1 n=aA (qtQ A n)/\quN c (slM (quM c m n) n n).1 m n=aA ((ep (c.take (m+n+1)) (qtQ A n)).take (m+1)):=by
 obtain⟨l1,l2⟩:=yO hA;obtain⟨Z,hZ⟩:∃Z,Z=(slM (quM c m n) n n).1:=⟨_,rfl⟩;rw[<-hZ] at l2⊢
 have hD:quD Z n=aA (qtQ A n):=by
  unfold quD;refine trim_iff.2 λi=>?_;cases i with
  |zero=>rfl
  |succ i=>
   show coP (aH n _) i=coP (aH n _) i;rw[jZ,jZ];by_cases h:i< n;rw[if_pos h,if_pos h,l2 i h];rw[if_neg h,if_neg h]
 refine⟨hD,?_⟩;unfold quN;rw[hD];refine trim_iff.2 λi=>?_;rw[qj,qj];by_cases h:i< m+1;rw[if_pos h,if_pos h];have e1:coP (ep (c.take (m+1)) (aA (qtQ A n))) i=coP (ep (qtQ A n) (c.take (m+1))) i:=trim_iff.1 (pZ λt=>by rw[jr,jr,Co];grind) i;have e2:coP (ep (c.take (m+n+1)) (qtQ A n)) i=coP (ep (qtQ A n) (c.take (m+n+1))) i:=trim_iff.1 (pZ λt=>by rw[jr,jr];grind) i;rw[e1,e2];refine yi λj hj=>?_;rw[qj,qj,if_pos ω,if_pos ω];rw[if_neg h,if_neg h]
theorem qtQ_bd{A:Mx}{n s:Nat}(h:∀i j,i< n->j<=n->qs (A i j)<=s):bdL (qtQ A n) (2* s+1):=λq hq=>by
 rcases List.mem_cons.1 hq with rfl|hq
 have:qs 1=1:=δ
 omega;obtain⟨i,hi,rfl⟩:=List.mem_map.1 hq;have hi:=List.mem_range.1 hi;have h1:=h i n hi (Nat.le_refl _);have h2:=h i i hi ω;have:=fu (A i n) (A i i);omega
end Go.Abs
