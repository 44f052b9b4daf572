/- Part V18 of the proof. -/
import Derived.Test.YtkhclghbcicapaaGreatDoorV17
import Derived.Test.YtkhclghbcicapaaGreatDoorProg
import Derived.KernelRfl
set_option linter.all false
namespace Go.Abs
set_option maxRecDepth 20000
def scM(M:Mx)(r:Nat)(f:Rat):Mx:=fun i j=>if i=r then M i j* f else M i j
def rdM(M:Mx)(r k:Nat):Mx:=fun i j=>if i=r then M i j else M i j- M i k* M r j
def pvR(M:Mx)(n r c:Nat):Option Nat:=(List.range n).find? fun p=>decide (r≤p∧M p c≠0)
theorem qR{M:Mx}{n r c p:Nat}(h:pvR M n r c=some p):p< n∧r≤p∧M p c≠0:=by
 have h1:=List.find?_some h;have a:=List.mem_of_find?_eq_some h;grind
theorem Bb{M:Mx}{n r c:Nat}(h:pvR M n r c=none):∀i,i< n→r≤i→M i c=0:=fun i a b=>by
 have h1:=List.find?_eq_none.1 h i (List.mem_range.2 a);grind
def slC(A:Mx)(n:Nat)(L:List Nat)(c:Nat):Mx×List Nat:=match pvR A n L.length c with
 |none=>(A,L)
 |some p=>(rdM (scM (swM A L.length p) L.length (1/ A p c)) L.length c,L++[c])
def slM(M:Mx)(n:Nat):Nat→Mx×List Nat
 |0=>(M,[])
 |c+1=>slC (slM M n c).1 n (slM M n c).2 c
structure Ech (A:Mx)(n c:Nat)(L:List Nat):Prop where
 len:L.length≤c
 len2:L.length≤n
 lt:∀(i l:Nat),L[i]?=some l→l< c
 inc:∀(i j l m:Nat),L[i]?=some l→L[j]?=some m→i< j→l< m
 one:∀(i l k:Nat),L[i]?=some l→k< n→A k l=if k=i then 1 else 0
 low:∀(i l j:Nat),L[i]?=some l→j< l→A i j=0
 rest:∀i j,L.length≤i→i< n→j< c→A i j=0
theorem Ech.step{A:Mx}{n c:Nat}{L:List Nat}(h:Ech A n c L):Ech (slC A n L c).1 n (c+1) (slC A n L c).2:=by
 unfold slC;cases e:pvR A n L.length c with
 |none=>
  show Ech A n (c+1) L;refine⟨by have:=h.len;omega,h.len2,fun i l b=>by have:=h.lt i l b;omega,h.inc,h.one,h.low,fun i j h1 x s=>?_⟩;by_cases e2:j=c;rw[e2];exact Bb e i x h1;exact h.rest i j h1 x (by omega)
 |some p=>
  obtain⟨p1,p2,K⟩:=qR e;show Ech (rdM (scM (swM A L.length p) L.length (1/ A p c)) L.length c) n (c+1) (L++[c]);have H:L.length< n:=by omega
  have N:∀i l,L[i]?=some l→i< L.length:=fun i l b=>(List.getElem?_eq_some_iff.1 b).1
  -- the rows after the exchange
  have u:∀i j,i< L.length→swM A L.length p i j=A i j:=fun i j Q=>by unfold swM;rw[if_neg (by omega),if_neg (by omega)]
  have G:∀j,swM A L.length p L.length j=A p j:=fun j=>by unfold swM;rw[if_pos rfl]
  have w:∀i j,L.length≤i→i< n→j< c→swM A L.length p i j=0:=fun i j h1 x s=>by
   unfold swM;split;exact h.rest p j p2 p1 s;split;exact h.rest _ j (Nat.le_refl _) H s;exact h.rest i j h1 x s
  have D:∀i l k,L[i]?=some l→k< n→swM A L.length p k l=if k=i then 1 else 0:=fun i l k b y=>by
   by_cases g:k< L.length;rw[u k l g];exact h.one i l k b y;have:=N i l b;rw[w k l (by omega) y (h.lt i l b),if_neg (by omega)]
  generalize hB:swM A L.length p=B at *
  have v:∀i j,i≠L.length→scM B L.length (1/ A p c) i j=B i j:=fun i j g=>if_neg g;have t:∀j,scM B L.length (1/ A p c) L.length j=B L.length j* (1/ A p c):=fun j=>if_pos rfl
  have o:scM B L.length (1/ A p c) L.length c=1:=by
   rw[t,G];have:=Rat.div_mul_cancel (a:=1) K;grind
  have d:∀j,j< c→scM B L.length (1/ A p c) L.length j=0:=fun j z=>by rw[t,w _ j (Nat.le_refl _) H z];grind
  generalize O:scM B L.length (1/ A p c)=C at *
  have r:∀j,rdM C L.length c L.length j=C L.length j:=fun j=>if_pos rfl;have q:∀i j,i≠L.length→rdM C L.length c i j=C i j- C i c* C L.length j:=fun i j g=>if_neg g
  have snoc:∀i l,(L++[c])[i]?=some l→(i< L.length∧L[i]?=some l)∨(i=L.length∧l=c):=fun i l b=>by
   rw[List.getElem?_append] at b;split at b
   ·rename_i g;exact .inl ⟨g,b⟩
   ·rename_i g
    have:i- L.length=0:=by
     have:=(List.getElem?_eq_some_iff.1 b).1;simp at this;omega
    rw[this] at b;cases b;exact .inr ⟨by omega,rfl⟩
  refine⟨by have:=h.len;simp;omega,by simp;omega,fun i l b=>?_,fun i j l m b J F=>?_,fun i l k b y=>?_,fun i l j b z=>?_,fun i j h1 x s=>?_⟩;rcases snoc i l b with⟨_,g⟩|⟨_,g⟩
  have:=h.lt i l g;omega;omega;rcases snoc i l b with⟨f,g⟩|⟨f,g⟩<;> rcases snoc j m J with⟨b1,E⟩|⟨b1,E⟩
  exact h.inc i j l m g E F;rw[E];exact h.lt i l g;omega;omega;rcases snoc i l b with⟨f,g⟩|⟨f,g⟩
  by_cases e1:k=L.length;subst e1;rw[r,d l (h.lt i l g),if_neg (by omega)];rw[q k l e1,v k l e1,D i l k g y,d l (h.lt i l g)];grind;subst f g;by_cases e1:k=L.length;rw[if_pos e1,e1,r,o];rw[if_neg e1,q k l e1,o];grind;rcases snoc i l b with⟨f,g⟩|⟨f,g⟩
  have M:=h.lt i l g;rw[q i j (by omega),v i j (by omega),u i j f,h.low i l j g z,d j (by omega)];grind;subst f g;rw[r,d j z];grind
theorem k4(M:Mx)(n:Nat):∀c,Ech (slM M n c).1 n c (slM M n c).2
 |0=>⟨Nat.le_refl _,Nat.zero_le _,fun i l h=>by simp[slM] at h,fun i j l m h=>by simp[slM] at h,fun i l k h=>by simp[slM] at h,fun i l j h=>by simp[slM] at h,fun i j _ _ h=>by omega⟩
 |c+1=>(k4 M n c).step
def oneX(A:Mx)(n:Nat)(L:List Nat)(j:Nat):Rat:=if L.contains j then A (L.idxOf j) n else 0
theorem Ech.idx{A:Mx}{n c:Nat}{L:List Nat}(h:Ech A n c L){i l:Nat}(hl:L[i]?=some l):L.idxOf l=i:=by
 have b:=List.mem_of_getElem? hl;have a:L[L.idxOf l]?=some l:=by grind
 by_cases e1:L.idxOf l< i;have:=h.inc _ _ _ _ a hl e1;omega;by_cases e2:i< L.idxOf l;have:=h.inc _ _ _ _ hl a e2;omega;omega
def svM(A:Nat→Nat→Rat)(l:Rat)(b:Nat→Rat)(n i j:Nat):Rat:=if j=n then b i else if j=i then -(A i j* l)+1 else -(A i j* l)
def mxr(A:Nat→Nat→Rat)(l:Rat)(n i j:Nat):List Rat:=aW n fun t=>if t< j then -(A i t* l) else A i t
@[simp] theorem wb (A:Nat→Nat→Rat)(l:Rat)(n i j:Nat):(mxr A l n i j).length=n:=by simp[mxr]
theorem mxr_0(A:Nat→Nat→Rat)(l:Rat)(n i:Nat):mxr A l n i 0=aW n (A i):=by unfold mxr;simp
theorem EV{A:Nat→Nat→Rat}{l:Rat}{n i j:Nat}(h:j< n):∀e,e=j→(pE (mxr A l n i j))[e]?=some (qC (A i j)):=fun e a=>by
 subst a;simp[pE,mxr,aW,h]
theorem mxr_set{A:Nat→Nat→Rat}{l:Rat}{n i j:Nat}(h:j< n):∀e,e=j→(pE (mxr A l n i j)).set e (qC (-(A i j* l)))=pE (mxr A l n i (j+1)):=fun e a=>by
 subst a;rw[mK];congr 1;refine List.ext_getElem? fun t=>?_;rw[List.getElem?_set];by_cases ht:t< n;by_cases h1:e=t;subst h1;simp[mxr,aW,ht];rw[if_neg h1];simp only[mxr,aW,List.getElem?_map,List.getElem?_range ht,Option.map_some];by_cases h2:t< e;rw[if_pos h2,if_pos (by omega)];rw[if_neg h2,if_neg (by omega)];simp_all
def dgr(A:Nat→Nat→Rat)(l:Rat)(n i:Nat):List Rat:=aW n fun t=>if t=i then -(A i t* l)+1 else -(A i t* l)
@[simp] theorem D4 (A:Nat→Nat→Rat)(l:Rat)(n i:Nat):(dgr A l n i).length=n:=by simp[dgr]
theorem Bl{A:Nat→Nat→Rat}{l:Rat}{n i:Nat}(h:i< n):∀e,e=i→(pE (mxr A l n i n))[e]?=some (qC (-(A i i* l))):=fun e a=>by
 subst a;simp[pE,mxr,aW,h]
theorem mxr_one{A:Nat→Nat→Rat}{l:Rat}{n i:Nat}(h:i< n):∀e,e=i→(pE (mxr A l n i n)).set e (qC (-(A i i* l)+1))=pE (dgr A l n i):=fun e b=>by
 subst b;rw[mK];congr 1;refine List.ext_getElem? fun t=>?_;rw[List.getElem?_set];by_cases ht:t< n;by_cases h1:e=t;subst h1;simp[dgr,aW,ht];rw[if_neg h1];simp only[mxr,dgr,aW,List.getElem?_map,List.getElem?_range ht,Option.map_some];rw[if_pos ht,if_neg fun a=>h1 a.symm];simp_all
theorem dgr_app{A:Nat→Nat→Rat}{l:Rat}{b:Nat→Rat}{n i:Nat}:dgr A l n i++[b i]=aW (n+1) (svM A l b n i):=by
 rw[xJ];congr 1;refine List.map_congr_left fun t ht=>?_;have:=List.mem_range.1 ht;simp only[svM,if_neg (show¬t=n by omega)];unfold svM;grind
def ph1(A:Nat→Nat→Rat)(l:Rat)(b:Nat→Rat)(n i k:Nat):List Rat:=if k< i then aW (n+1) (svM A l b n k) else aW n (A k)
theorem ph1_0(A:Nat→Nat→Rat)(l:Rat)(b:Nat→Rat)(n:Nat):ph1 A l b n 0=fun k=>aW n (A k):=funext fun k=>if_neg (by omega)
theorem ph1_n{A:Nat→Nat→Rat}{l:Rat}{b:Nat→Rat}{n k:Nat}(h:k< n):ph1 A l b n n k=aW (n+1) (svM A l b n k):=if_pos h
theorem HP(A:Nat→Nat→Rat)(l:Rat)(b:Nat→Rat)(n i:Nat):ph1 A l b n i i=mxr A l n i 0:=by exact if_neg (by omega)
theorem upR_up(R:Nat→List Rat)(k:Nat)(r r':List Rat):upR (upR R k r) k r'=upR R k r':=funext fun i=>by unfold upR;grind
theorem upR_id(R:Nat→List Rat)(k:Nat):upR R k (R k)=R:=funext fun i=>by unfold upR;grind
theorem HO(A:Nat→Nat→Rat)(l:Rat)(b:Nat→Rat)(n i:Nat):upR (ph1 A l b n i) i (aW (n+1) (svM A l b n i))=ph1 A l b n (i+1):=funext fun k=>by
 unfold upR ph1;grind
def puM(X:Mx)(i j:Nat)(v:Rat):Mx:=fun k t=>if k=i∧t=j then v else X k t
theorem puM_ne{X:Mx}{i j k:Nat}{v:Rat}(h:k≠i):puM X i j v k=X k:=funext fun t=>if_neg fun e=>h e.1
theorem puM_set{X:Mx}{i j m:Nat}{v:Rat}(h:j< m):∀e:Nat,e=j→(pE (aW m (X i))).set e (qC v)=pE (aW m (puM X i j v i)):=fun e b=>by
 subst b;rw[mK];congr 1;refine List.ext_getElem? fun t=>?_;rw[List.getElem?_set];by_cases ht:t< m;by_cases h1:e=t;subst h1;simp[aW,ht,puM];rw[if_neg h1];simp[aW,ht,puM,show¬t=e from fun a=>h1 a.symm];simp_all
theorem ir{X:Nat→Rat}{j m:Nat}(h:j< m):∀e:Nat,e=j→(pE (aW m X))[e]?=some (qC (X j)):=fun e a=>by
 subst a;simp[pE,aW,h]
def rT(n:Nat)(X:Mx)(k:Nat):List Rat:=aW (n+1) (X k)
theorem vP{n:Nat}{X Y:Mx}{k:Nat}(h:∀j,j≤n→X k j=Y k j):rT n X k=rT n Y k:=by
 exact List.map_congr_left fun t ht=>h t (by grind)
@[simp] theorem rT_length (n:Nat)(X:Mx)(k:Nat):(rT n X k).length=n+1:=by simp[rT]
def scJ(X:Mx)(r:Nat)(f:Rat)(j:Nat):Mx:=fun i t=>if i=r∧t< j then X i t* f else X i t
theorem scJ_0(X:Mx)(r:Nat)(f:Rat):scJ X r f 0=X:=funext fun i=>funext fun t=>if_neg fun e=>by omega
theorem scJ_at(X:Mx)(r:Nat)(f:Rat)(j:Nat):scJ X r f j r j=X r j:=if_neg fun e=>by omega
theorem scJ_s(X:Mx)(r:Nat)(f:Rat)(j:Nat):scJ X r f (j+1)=puM (scJ X r f j) r j (X r j* f):=funext fun i=>funext fun t=>by
 show(if i=r∧t< j+1 then X i t* f else X i t)=if i=r∧t=j then X r j* f else if i=r∧t< j then X i t* f else X i t
 grind
theorem scJ_n{X:Mx}{r n:Nat}{f:Rat}(k j:Nat)(h:j≤n):scJ X r f (n+1) k j=scM X r f k j:=by
 unfold scJ scM;grind
def rdJ(X:Mx)(r c i j:Nat):Mx:=fun k t=>if k≠r∧(k< i∨(k=i∧t< j)) then X k t- X k c* X r t else X k t
theorem rdJ_0(X:Mx)(r c:Nat):rdJ X r c 0 0=X:=funext fun i=>funext fun t=>if_neg fun e=>by omega
theorem rdJ_at(X:Mx)(r c i j:Nat):rdJ X r c i j i j=X i j:=if_neg fun e=>by omega
theorem rdJ_c(X:Mx)(r c i:Nat):rdJ X r c i 0 i=X i:=funext fun t=>if_neg fun e=>by omega
theorem rdJ_r(X:Mx)(r c i j:Nat):rdJ X r c i j r=X r:=funext fun t=>if_neg fun e=>e.1 rfl
theorem rdJ_s{X:Mx}{r c i j:Nat}(h:i≠r):rdJ X r c i (j+1)=puM (rdJ X r c i j) i j (X i j- X i c* X r j):=funext fun k=>funext fun t=>by
 show(if k≠r∧(k< i∨(k=i∧t< j+1)) then X k t- X k c* X r t else X k t)=if k=i∧t=j then X i j- X i c* X r j else if k≠r∧(k< i∨(k=i∧t< j)) then X k t- X k c* X r t else X k t
 grind
theorem rdJ_n{X:Mx}{r c n:Nat}(i k j:Nat)(h:j≤n):rdJ X r c i (n+1) k j=rdJ X r c (i+1) 0 k j:=by
 unfold rdJ;grind
theorem A8{X:Mx}{r c i:Nat}(h:i=r∨X i c=0):rdJ X r c (i+1) 0=rdJ X r c i 0:=funext fun k=>funext fun t=>by
 unfold rdJ;grind
theorem rdJ_end{X:Mx}{r c n k:Nat}(h:k< n)(j:Nat):rdJ X r c n 0 k j=rdM X r c k j:=by
 unfold rdJ rdM;grind
def slB(s:Nat):Nat→Nat
 |0=>s
 |c+1=>4* slB s c+2
theorem AS{s:Nat}{k n:Nat}(h:k≤n):slB s k≤slB s n:=by
 induction n with
 |zero=>grind
 |succ n a=>
  by_cases e:k=n+1;rw[e];exact Nat.le_refl _;rw[slB];omega
theorem bd_slC{A:Mx}{n s c:Nat}{L:List Nat}(h:bdM A n s)(hL:L.length≤c)(hc:c< n):bdM (slC A n L c).1 n (4* s+2):=by
 unfold slC;cases e:pvR A n L.length c with
 |none=>exact fun i j d a=>Nat.le_trans (h i j d a) (by omega)
 |some p=>
  obtain⟨p1,p2,l⟩:=qR e;have f:L.length< n:=by omega
  have h1:=bd_sw h f p1
  have b:∀j,j≤n→qs (scM (swM A L.length p) L.length (1/ A p c) L.length j)≤2* s+1:=fun j a=>by
   unfold scM;rw[if_pos rfl];have m:=h1 L.length j f a;have o:=iN 1 (A p c);have k:qs 1≤1:=by decide
   have u:=h p c p1 (by omega);have g:=dk (swM A L.length p L.length j) (1/ A p c);omega
  intro i j d a;show qs (rdM (scM (swM A L.length p) L.length (1/ A p c)) L.length c i j)≤_;unfold rdM;by_cases hir:i=L.length;subst hir;rw[if_pos rfl];have:=b j a;omega;rw[if_neg hir];have b1:∀t,scM (swM A L.length p) L.length (1/ A p c) i t=swM A L.length p i t:=fun t=>if_neg hir;rw[b1,b1];have c1:=h1 i j d a;have v:=h1 i c d (by omega);have r:=b j a;have w:=dk (swM A L.length p i c) (scM (swM A L.length p) L.length (1/ A p c) L.length j);have q:=nD (swM A L.length p i j) (swM A L.length p i c* scM (swM A L.length p) L.length (1/ A p c) L.length j);omega
theorem Jn{M:Mx}{n s:Nat}(h:bdM M n s):∀c,c≤n→bdM (slM M n c).1 n (slB s c)
 |0,_=>h
 |c+1,hc=>bd_slC (Jn h c (by omega)) (k4 M n c).len (by omega)
def qU(A:Mx)(n:Nat)(L:List Nat)(i:Nat):List Rat:=aW n fun j=>if (L.take i).contains j then A (L.idxOf j) n else 0
def zj(A:Mx)(n:Nat)(L:List Nat):List Rat:=aW n (oneX A n L)
@[simp] theorem Bh (A:Mx)(n:Nat)(L:List Nat)(i:Nat):(qU A n L i).length=n:=by simp[qU]
@[simp] theorem oneL_length (A:Mx)(n:Nat)(L:List Nat):(zj A n L).length=n:=by simp[zj]
theorem Hb(n:Nat):aW n (fun _=>0)=List.replicate n (0:Rat):=by
 unfold aW;rw[List.eq_replicate_iff];grind
theorem oneJ_0(A:Mx)(n:Nat)(L:List Nat):qU A n L 0=List.replicate n (0:Rat):=by
 unfold qU;rw[←Hb];simp
theorem oneJ_n{A:Mx}{n:Nat}{L:List Nat}{i:Nat}(h:L.length≤i):qU A n L i=zj A n L:=by
 unfold qU zj;rw[List.take_of_length_le h];rfl
theorem HV{A:Mx}{n:Nat}{L:List Nat}{i c:Nat}(h:c< n):∀e:Nat,e=c→∃v,(pE (qU A n L i))[e]?=some (qC v):=fun e a=>by
 subst a;exact⟨_,ir h e rfl⟩
theorem oneJ_s{A:Mx}{n c0:Nat}{L:List Nat}{i c:Nat}(hE:Ech A n c0 L)(hl:L[i]?=some c)(hc:c< n):∀e:Nat,e=c→(pE (qU A n L i)).set e (qC (A i n))=pE (qU A n L (i+1)):=fun e d=>by
 subst d;rw[mK];congr 1;have a:L.take (i+1)=L.take i++[e]:=by rw[List.take_add_one,hl];rfl
 refine List.ext_getElem? fun t=>?_;rw[List.getElem?_set,Bh];by_cases ht:t< n;by_cases h1:e=t;subst h1;rw[if_pos rfl,if_pos ht];unfold qU aW;rw[List.getElem?_map,List.getElem?_range ht,a,Option.map_some,if_pos (by simp),hE.idx hl];rw[if_neg h1];unfold qU aW;rw[List.getElem?_map,List.getElem?_map,List.getElem?_range ht,a,Option.map_some,Option.map_some];have b:(L.take i++[e]).contains t=(L.take i).contains t:=by grind
 rw[b];simp_all
def pG(n:Nat)(A:Mx):List (List Rat):=(List.range n).map fun k=>aW (n+1) (A k)
@[simp] theorem rowsL_length (n:Nat)(A:Mx):(pG n A).length=n:=by simp[pG]
theorem xT{n i:Nat}{A:Mx}(h:i< n):(pG n A)[i]?=some (aW (n+1) (A i)):=by simp[pG,h]
def xZ(n:Nat)(A:Mx)(L:List Nat):Bool:=((pG n A).drop L.length).any fun e=>decide (coP e n≠0)
def smF(c:Rat)(o:List Rat)(p:List Rat×List Rat):List Rat:=fV o (aL p.1 c)
def FL:Ke→List Rat→List Rat→List Rat
 |[],_,o=>o
 |p::k,c,o=>FL k c.tail (smF (coP c 0) o p)
def smK(k:Ke)(c:List Rat)(i:Nat):List Rat:=FL (k.take i) c []
theorem xM:∀(k:Ke) (c o:List Rat) (p:List Rat×List Rat),FL (k++[p]) c o=smF (coP c k.length) (FL k c o) p
 |[],c,o,p=>rfl
 |q::k,c,o,p=>by
  rw[List.cons_append,FL,xM k,FL];cases c with
  |nil=>simp[coP]
  |cons a c=>rfl
theorem smK_s{k:Ke}{c:List Rat}{i:Nat}{p:List Rat×List Rat}(h:k[i]?=some p):smK k c (i+1)=smF (coP c i) (smK k c i) p:=by
 have ht:k.take (i+1)=k.take i++[p]:=by rw[List.take_add_one,h];rfl
 have a:=(List.getElem?_eq_some_iff.1 h).1;unfold smK;rw[ht,xM,List.length_take,Nat.min_eq_left (by omega)]


section
variable {k:Ke}{G u:List Rat}{L:Rat}{n:Nat}
theorem A4:∀r i,i< r→i≤n→coP (seK k G L n (r+1)) i=coP (seK k G L n r) i
 |0,i,h,_=>by omega
 |r+1,i,h,hn=>by
  have a:∀j,j< i→coP (seK k G L n (r+1)) j=coP (seK k G L n r) j:=fun j b=>A4 r j (by omega) (by omega);have e1:coP (seK k G L n (r+1+1)) i=coP G i+coP (upK k 0 (seK k G L n (r+1))) i* L:=by rw[seK,u0,if_pos hn,eX,cS]
  have e2:coP (seK k G L n (r+1)) i=coP G i+coP (upK k 0 (seK k G L n r)) i* L:=by rw[seK,u0,if_pos hn,eX,cS]
  rw[e1,e2,Ar a i (by omega)]
theorem seK_fix{i:Nat}(hi:i≤n):coP (seK k G L n (n+1)) i=coP G i+coP (upK k 0 (seK k G L n (n+1))) i* L:=by
 rw[←A4 (k:=k) (G:=G) (L:=L) (n+1) i (by omega) hi,seK,u0,if_pos hi,eX,cS]
theorem int_at0(f:List Rat)(j:Nat):coP (cn (ax f) [af (ax f) 0]) j=coP (ax f) j:=by
 rw[gX,tF,fP f 0,if_pos rfl];cases j with
 |zero=>rw[dA];grind
 |succ j=>rw[show coP ([0]:List Rat) (j+1)=0 from rfl];grind
def reF(L:Rat)(u o:List Rat)(p:List Rat×List Rat):List Rat:=cn o (aL (aJ p.1 (ax (aJ p.2 u))) L)
def reL(L:Rat)(u:List Rat):Ke→List Rat→List Rat
 |[],o=>o
 |p::k,o=>reL L u k (reF L u o p)
theorem A7(L:Rat)(u:List Rat):∀(k:Ke) (o:List Rat) (p:List Rat×List Rat),reL L u (k++[p]) o=reF L u (reL L u k o) p
 |[],_,_=>rfl
 |_::k,_,p=>A7 L u k _ p
theorem HF(i:Nat):∀(k:Ke) (o o':List Rat),coP (reL L u k o) i=coP o i- (coP (upL 0 u k o') i- coP o' i) * L
 |[],o,o'=>by rw[reL,upL];grind
 |p::k,o,o'=>by
  rw[reL,upL,HF i k _ (upF 0 u o' p)];unfold reF upF;rw[gX,cS,eX,mW (q:=cn (ax (aJ p.2 u)) [af (ax (aJ p.2 u)) 0]) (q':=ax (aJ p.2 u)) fun j _=>int_at0 (aJ p.2 u) j];grind
theorem FT{i:Nat}(hi:i≤n):coP (reL L (seK k G L n (n+1)) k (cn (seK k G L n (n+1)) G)) i=0:=by
 rw[HF i k _ [],gX,show upL 0 (seK k G L n (n+1)) k []=upK k 0 (seK k G L n (n+1)) from rfl];have h:=seK_fix (k:=k) (G:=G) (L:=L) hi;rw[show coP ([]:List Rat) i=0 from rfl];grind
end
theorem uY:∀n,n≤511→IB (fl n) (9* n+1)
 |0,_=>IB.one
 |n+1,h=>by
  exact((uY n (by omega)).mul (AG (h:=9) (ez (by omega)))).mono (by omega)
theorem yq:∀n i,i< n→n≤511→∃z:Rat,IB z (9* n+1)∧z* (((i+1:Nat):Int):Rat)=fl n
 |0,_,h,_=>by omega
 |n+1,i,h,hn=>by
  by_cases e:i=n;subst e;exact⟨fl i,(uY i (by omega)).mono (by omega),by rw[fl]⟩;obtain⟨z,a,b⟩:=yq n i (by omega) (by omega);refine⟨z* (((n+1:Nat):Int):Rat),(a.mul (AG (h:=9) (ez (by omega)))).mono (by omega),?_⟩;rw[fl];grind
theorem HS.integral9{p:List Rat}{K:Rat}{h L:Nat}(H:HS p K h)(hl:p.length≤L)(hL:L≤511):HS (ax p) (K* fl L) (h+9* L+1) where
 ne e:=(Rat.mul_eq_zero.1 e).elim H.ne (by have:=iS L;grind)
 sc:=(H.sc.mul (uY L hL)).mono (by omega)
 co i:=by
  rw[fP];cases i with
  |zero=>exact(IB.zero _).eq (by grind)
  |succ i=>
   by_cases g:i< L;obtain⟨z,b,c⟩:=yq L i g hL;refine((H.co i).mul b).eq ?_|>.mono (by omega);have:=Rat.div_mul_cancel (a:=coP p i) (wa i);grind;rw[ef (by omega)];exact(IB.zero _).eq (by grind)
theorem te_HS4{A B u:List Rat}{a d KA KB K:Rat}{h h':Nat}(hA:A.length≤4)(hB:B.length≤4)(hu:u.length≤445)(HA:HS A KA h)(HB:HS B KB h)(H:HS u K h')(d0:d≠0)(hd:IB d 20)(ha:IB (a* d) 20)(h1:1≤h):TeB A B u a (KA* (KB* K* fl 450* d^ 455)) (h'+2* h+23500):=by
 have m1:=lQ B u;have i1:=jG (aJ B u);have j:=HB.mul H hB;have c:=j.integral9 (L:=450) (by omega) (by decide);have i:=nw (ax (aJ B u)) [af (ax (aJ B u)) a];rw[List.length_singleton] at i;have m:=lQ A (cn (ax (aJ B u)) [af (ax (aJ B u)) a]);have b:=c.bdL (by omega);generalize hf:ax (aJ B u)=f at *
 have l:f.length≤450:=by omega
 have hp:=jE hd 455;have g:=jE hd (455- f.length);have hv:=(wB hd ha f c.all).mul g;have e0:d^ f.length* d^ (455- f.length)=d^ 455:=by rw[←nC,show f.length+(455- f.length)=455 by omega]
 have g3:=(c.rescale (pow_nz' d0 455) hp).mono (show _≤h'+h+23200 by omega);have e:=g3.less (v:=af f a) ((hv.eq (by grind)).mono (by omega));rw[←vw] at e;have k:=HA.mul e hA;subst hf;exact⟨by omega,by omega,bdL_mono' b (by omega),bdL_mono' (e.bdL (by omega)) (by omega),by omega,by omega,k.mono (by omega)⟩
theorem Es{a d KA KB K:Rat}{u:List Rat}{h h':Nat}(hu:u.length≤440)(H:HS u K h')(d0:d≠0)(hd:IB d 20)(ha:IB (a* d) 20)(hq:qs a≤20)(h1:1≤h)(hlim:h'+2* h+24500≤200000000):∀(k:Ke) (o:List Rat) (n:Nat),KHS k KA KB h→n+k.length≤900→o.length≤u.length+9→HS o (KA* (KB* K* fl 450* d^ 455)) (h'+2* h+23500+n)→
    HS (upL a u k o) (KA* (KB* K* fl 450* d^ 455)) (h'+2* h+23500+(n+k.length))∧(upL a u k o).length≤u.length+9∧∀i p,k[i]?=some p→OkUF a u (upL a u (k.take i) o) p
 |[],o,n,_,_,ho,Ho=>⟨Ho,ho,fun i p hp=>by grind⟩
 |p::k,o,n,hk,hn,ho,Ho=>by
  rw[List.length_cons] at hn;obtain⟨l1,l2⟩:=hk.len p (List.mem_cons_self ..);have f:=hk.a p (List.mem_cons_self ..);have e:=hk.b p (List.mem_cons_self ..);have T:=te_HS4 l1 l2 (show u.length≤445 by omega) f e H d0 hd ha h1;have al:=kU o (aJ p.1 (cn (ax (aJ p.2 u)) [af (ax (aJ p.2 u)) a]));have t:=T.l;have r:HS (upF a u o p) (KA* (KB* K* fl 450* d^ 455)) (h'+2* h+23500+(n+1)):=(Ho.plus (T.H.mono (by omega))).mono (by omega);obtain⟨j,g,s⟩:=Es hu H d0 hd ha hq h1 hlim k (upF a u o p) (n+1) ⟨fun q hq=>hk.len q (List.mem_cons_of_mem _ hq),fun q hq=>hk.a q (List.mem_cons_of_mem _ hq),fun q hq=>hk.b q (List.mem_cons_of_mem _ hq)⟩ (by omega) (by unfold upF;omega) r;refine⟨by rw[List.length_cons,show n+(k.length+1)=n+1+k.length by omega];exact j,g,fun i q c=>?_⟩;cases i with
  |zero=>
   cases c;show OkUF a u o p;have v:=dz (f.bdL h1) h1;have b1:=dz (e.bdL h1) h1;have u1:=dz ((H.mono (show h'≤h'+1 by omega)).bdL (by omega)) (by omega);have i1:=dz T.ib (by omega);have s1:=dz T.sb (by omega);have o1:=Ho.bdL (by omega);have x:=T.m;have il:=T.il;have sl:=T.sl;have e1:p.2.length* (mxL p.2+mxL u+1)≤4* (h+h'+2):=Nat.mul_le_mul l2 (by omega);have e2:p.1.length* (mxL p.1+mxL (cn (ax (aJ p.2 u)) [af (ax (aJ p.2 u)) a])+1)≤4* (h'+3* h+23502):=Nat.mul_le_mul l1 (by omega);have w:(ax (aJ p.2 u)).length* (mxL (ax (aJ p.2 u))+qs a+1)≤450* (h'+2* h+23521):=Nat.mul_le_mul (by omega) (by omega);exact⟨⟨by omega,by omega,by omega,by omega⟩,by omega,eP T.ib (by omega),⟨by omega,by omega⟩,by omega,⟨by omega,by omega,by omega,by omega⟩,eP o1 (by omega),by omega,by omega⟩
  |succ i=>exact s i q (by grind)
theorem sz9(h h':Nat):h+(h+h'+(9* 450+1)+(455* 20+1))≤h'+2* h+23500+0:=by omega
theorem upK_HS4{k:Ke}{a d KA KB K:Rat}{u:List Rat}{h h':Nat}(hk:KHS k KA KB h)(hkl:k.length≤900)(hu:u.length≤440)(H:HS u K h')(d0:d≠0)(hd:IB d 20)(ha:IB (a* d) 20)(hq:qs a≤20)(h1:1≤h)(A0:KA≠0)(B0:KB≠0)(IA:IB KA h)(IBB:IB KB h)(hlim:h'+2* h+24500≤200000000):HS (upK k a u) (KA* (KB* K* fl 450* d^ 455)) (h'+2* h+23500+k.length)∧(upK k a u).length≤u.length+9∧qV k a u:=by
 have c:HS [] (KA* (KB* K* fl 450* d^ 455)) (h'+2* h+23500+0):=by
  refine⟨fun g=>?_,?_,fun i=>(IB.zero _).eq (by show 0=(0:Rat) * _;grind)⟩;rcases Rat.mul_eq_zero.1 g with g|g
  exact A0 g;rcases Rat.mul_eq_zero.1 g with g|g
  rcases Rat.mul_eq_zero.1 g with g|g
  rcases Rat.mul_eq_zero.1 g with g|g
  exact B0 g;exact H.ne g;exact absurd g (fun e=>by have h:=iS 450;grind);exact pow_nz' d0 455 g;have hf:=uY 450 (by omega);have hp:=jE hd 455;have b:=IA.mul (((IBB.mul H.sc).mul hf).mul hp);exact IB.mono b (sz9 h h')
 have:=Es hu H d0 hd ha hq h1 hlim k [] 0 hk (by omega) (Nat.zero_le _) c;rw[Nat.zero_add] at this;exact this
section
variable {k:Ke}{G:List Rat}{L a x:Rat}(hl:k.length≤3)(h4:∀p∈k,p.1.length≤4∧p.2.length≤4)(hb:∀p∈k,bdL p.1 20∧bdL p.2 20)(hg:G.length≤5)(bg:bdL G 20)(qL:qs L≤20)(qa:qs a≤20)(qx:qs x≤20)
include hl h4 hb hg bg qL qa
theorem Ha:∀j,j≤42→(∃K,HS (teK k G L a j) K (3000+25000* j))∧(teK k G L a j).length≤5+9* j∧qV k a (teK k G L a j)∧smL (upK k a (teK k G L a j))∧(upK k a (teK k G L a j)).length≤1000:=by
 obtain⟨z,A,u,n,r,x,d⟩:=xg hl h4 hb;obtain⟨s,q,o⟩:=oe qa;obtain⟨l2,l1,p⟩:=oe qL;obtain⟨l,b⟩:=o8 G bg;have b:=b.mono (show _≤3000 by omega)
 have c:∀j,j≤42→(∃K,HS (teK k G L a j) K (3000+25000* j))→(teK k G L a j).length≤5+9* j→(∃K,HS (teK k G L a (j+1)) K (3000+25000* (j+1)))∧(teK k G L a (j+1)).length≤5+9* (j+1)∧qV k a (teK k G L a j)∧smL (upK k a (teK k G L a j))∧(upK k a (teK k G L a j)).length≤1000:=fun j v ⟨K,H⟩ i=>by
  obtain⟨u1,u2,t⟩:=upK_HS4 u (by omega) (show _≤440 by omega) H o q s qa (by omega) n r x d (by omega);have y:=dn (upK k a (teK k G L a j)) L;have e:=u1.bdL (by omega);refine⟨⟨_,(u1.k p l1 l2).mono (by omega)⟩,by rw[teK];omega,t,eP e (by omega),by omega⟩
 intro j
 induction j with
 |zero=>
  intro _;obtain⟨_,_,g3,g,f⟩:=c 0 (by omega) ⟨l,b⟩ (by rw[teK];omega);exact⟨⟨l,b⟩,by rw[teK];omega,g3,g,f⟩
 |succ j w=>
  intro v;obtain⟨i1,i2,_⟩:=w (by omega);obtain⟨h,m,_⟩:=c j (by omega) i1 i2;obtain⟨_,_,g3,g,f⟩:=c (j+1) (by omega) h m;exact⟨h,m,g3,g,f⟩
include qx
theorem G9(j:Nat)(hj:j≤42):fe (teK k G L a j) x∧qs (af (teK k G L a j) x)≤420000000:=by
 obtain⟨⟨K,H⟩,c,_⟩:=Ha hl h4 hb hg bg qL qa j hj;have b:=bdL_mono' (H.bdL (by omega)) (show 3000+25000* j≤1053000 by omega);have e1:=n4 qx b;have m1:=dz b (by omega);have d:(teK k G L a j).length* (mxL (teK k G L a j)+qs x+1)≤383* 1053021:=Nat.mul_le_mul (by omega) (by omega);exact⟨⟨by omega,by omega⟩,by omega⟩
theorem Hd:∀j,j≤43→qs (suK k G L a x j)≤j* 420000001+1
 |0,_=>by exact(by decide:qs 0≤0* 420000001+1)
 |j+1,hj=>by
  have h1:=Hd j (by omega);have b:=(G9 hl h4 hb hg bg qL qa qx j (by omega)).2;have c:=fX (suK k G L a x j) (af (teK k G L a j) x);rw[suK];omega
end
theorem xz{S T v w:Rat}(h:ab (T- S) * 2≤v)(hw:0< w):S- v/ 2≤T+w/ 2∧T- w/ 2≤S+v/ 2:=by
 obtain⟨h1,b⟩:=ab_le.1 (Rat.le_refl (a:=ab (T- S)));have e1:v/ 2* 2=v:=Rat.div_mul_cancel (by decide);have e2:w/ 2* 2=w:=Rat.div_mul_cancel (by decide);constructor <;> grind
theorem GV {k:Ke} {G:List Rat} {L a x v w γ lo hi:Rat} {al be:List Rat×List Rat→Rat} (hlo:lo≤hi) (hax:lo=a∧hi=x∨lo=x∧hi=a) (hα:∀p∈k,∀y,lo≤y→y≤hi→ab (af p.1 y)≤al p) (hβ:∀p∈k,∀y,lo≤y→y≤hi→ab (af p.2 y)≤be p) (hγ:∀y,lo≤y→y≤hi→ab (af G y)≤γ)
    {n m:Nat} (hn:stP (e9 (fun p=>al p* be p) k* ab L* (hi- lo)) (γ* 4) v n=true) (hm:stP (e9 (fun p=>al p* be p) k* ab L* (hi- lo)) (γ* 4) w m=true) (hv:0< v) (hw:0< w):
    suK k G L a x (n+1)- v/ 2≤suK k G L a x (m+1)+w/ 2∧suK k G L a x (m+1)- w/ 2≤suK k G L a x (n+1)+v/ 2:=by
 by_cases h:n≤m;have h1:=xC hlo hax hα hβ hγ hn (m- n);rw[show n+1+(m- n)=m+1 by omega] at h1;exact xz h1 hw;have h1:=xC hlo hax hα hβ hγ hm (n- m);rw[show m+1+(n- m)=n+1 by omega] at h1;exact(xz h1 hv).symm
theorem xK{α:Type}(f:α→Rat):∀(l:List α) (p:α),e9 f (l++[p])=e9 f l+f p
 |[],p=>by rw[List.nil_append,e9,e9,e9];grind
 |q::l,p=>by rw[List.cons_append,e9,xK f l p,e9];grind
structure OkRf (L:Rat)(u o:List Rat)(p:List Rat×List Rat):Prop where
 m1:fx p.2 u
 i1:(aJ p.2 u).length≤1099511627775
 m2:fx p.1 (ax (aJ p.2 u))
 l2:(aJ p.1 (ax (aJ p.2 u))).length≤1099511627776
 s1:smL (aL (aJ p.1 (ax (aJ p.2 u))) L)
 o1:smL o
 o2:o.length≤1099511627776
theorem reF_ok{L:Rat}{u o:List Rat}{p:List Rat×List Rat}{s:Nat}(hu:u.length≤9)(bu:bdL u 200000)(h4:p.1.length≤4∧p.2.length≤4)(hb:bdL p.1 400∧bdL p.2 400)(qL:qs L≤20)(bo:bdL o s)(hs:1≤s)(hs2:s≤100000000)(lo:o.length≤20):OkRf L u o p∧bdL (reF L u o p) (s+4000000)∧(reF L u o p).length≤20:=by
 obtain⟨c,d⟩:=h4;obtain⟨a,e⟩:=hb;have m1:=zu e bu (by omega) (by omega);have l1:=lQ p.2 u;have e1:p.2.length* (400+200000+1)≤801604:=Nat.le_trans (Nat.mul_le_mul_right _ d) (by decide);have m1:=bdL_mono' (b:=801605) m1 (Nat.succ_le_succ e1);have i1:=Bt m1 (by omega) (by omega);have i:=jG (aJ p.2 u);obtain⟨f,hf⟩:∃f,f=ax (aJ p.2 u):=⟨_,rfl⟩;rw[←hf] at i1 i;have m2:=zu a i1 (by omega) (by omega);have e2:p.1.length* (400+(801605+21)+1)≤3208108:=Nat.le_trans (Nat.mul_le_mul_right _ c) (by decide);have m2:=bdL_mono' (b:=3208109) m2 (Nat.succ_le_succ e2);have l2:=lQ p.1 f;have s1:=sR m2 (by omega) qL;have r:=dn (aJ p.1 f) L;have s2:=sR s1 (by omega) (show qs (-1)≤1 by decide);have j:=dn (aL (aJ p.1 f) L) (-1);have m:=dz e (by omega);have v:=dz bu (by omega);have l:=dz a (by omega);have n:=dz i1 (by omega);have c1:p.2.length* (mxL p.2+mxL u+1)≤4* 200401:=Nat.mul_le_mul d (by omega);have t:p.1.length* (mxL p.1+mxL f+1)≤4* 802027:=Nat.mul_le_mul c (by omega);have h:=FB bo s2 hs (by omega);have al:=kU o (aL (aL (aJ p.1 f) L) (-1));have rb:bdL (fV o (aL (aL (aJ p.1 f) L) (-1))) (s+4000000):=fun q g=>Nat.le_trans (h q g) (by omega);have k:(fV o (aL (aL (aJ p.1 f) L) (-1))).length≤20:=by omega
 subst hf;refine⟨⟨⟨by omega,by omega,by omega,by omega⟩,by omega,⟨by omega,by omega,by omega,by omega⟩,by omega,eP s1 (by omega),eP bo (by omega),by omega⟩,rb,k⟩
theorem HE{L:Rat}{u:List Rat}(hu:u.length≤9)(bu:bdL u 200000)(qL:qs L≤20):∀(k:Ke) (o:List Rat) (s:Nat),(∀p∈k,(p.1.length≤4∧p.2.length≤4)∧bdL p.1 400∧bdL p.2 400)→bdL o s→1≤s→s+4000000* k.length≤100000000→o.length≤20→(∀i p,k[i]?=some p→OkRf L u (reL L u (k.take i) o) p)∧(reL L u k o).length≤20
 |[],o,s,_,_,_,_,lo=>⟨fun i p hp=>(by grind),lo⟩
 |p::k,o,s,hk,bo,hs,hs2,lo=>by
  rw[List.length_cons] at hs2;obtain⟨h1,b⟩:=hk p (List.mem_cons_self ..);obtain⟨c,d,e⟩:=reF_ok hu bu h1 b qL bo hs (by omega) lo;obtain⟨t1,t2⟩:=HE hu bu qL k (reF L u o p) (s+4000000) (fun q a=>hk q (List.mem_cons_of_mem _ a)) d (by omega) (by omega) e;refine⟨fun i q a=>?_,t2⟩;cases i with
  |zero=>cases a;exact c
  |succ i=>exact t1 i q (by grind)
theorem reL_s{L:Rat}{u o:List Rat}{k:Ke}{i:Nat}{p:List Rat×List Rat}(h:k[i]?=some p):reL L u (k.take (i+1)) o=reF L u (reL L u (k.take i) o) p:=by
 have ht:k.take (i+1)=k.take i++[p]:=by rw[List.take_add_one,h];rfl
 rw[ht,A7]
end Go.Abs
namespace Go.Proofs.YtkhclghbcicapaaGreatDoor
open Go.Abs
set_option maxRecDepth 20000
theorem ba:Tryz.prog.follows .mixedOrders=true:=by kernel_rfl
instance:T4 Tryz.prog 2 [Value.int IntKind.i64 0] 1 false 8:=⟨by kernel_rfl⟩
instance tu_2:TU Tryz.prog 2 (.int .i64):=⟨by kernel_rfl⟩
instance:T4 Tryz.prog 3 [Value.int IntKind.i64 0] 1 false 8:=⟨by kernel_rfl⟩
instance tu_3:TU Tryz.prog 3 (.int .i64):=⟨by kernel_rfl⟩
instance:T4 Tryz.prog 4 [Value.bool false] 1 false 1:=⟨by kernel_rfl⟩
instance tu_4:TU Tryz.prog 4 .bool:=⟨by kernel_rfl⟩
instance:T4 Tryz.prog 5 [Value.int IntKind.u8 0] 1 false 1:=⟨by kernel_rfl⟩
instance tu_5:TU Tryz.prog 5 (.int .u8):=⟨by kernel_rfl⟩
instance:T3 Tryz.prog 9 1 false 16:=⟨by kernel_rfl⟩
instance tu_9:TU Tryz.prog 9 .string:=⟨by kernel_rfl⟩
instance:T4 Tryz.prog 22 [Value.slice none 0 0] 1 false 24:=⟨by kernel_rfl⟩
instance te_22:TE Tryz.prog 22 (142,2):=⟨by kernel_rfl⟩
instance:T4 Tryz.prog 24 [Value.int IntKind.i64 0,Value.int IntKind.i64 0,Value.int IntKind.u8 0] 3 true 24:=⟨by kernel_rfl⟩
instance tp_24:TP Tryz.prog 24 [(0,1),(1,1),(2,1)]:=⟨by kernel_rfl⟩
instance:T2 Tryz.prog 24 0 (0,1) false:=⟨by kernel_rfl⟩
instance:T2 Tryz.prog 24 1 (1,1) false:=⟨by kernel_rfl⟩
instance:T2 Tryz.prog 24 2 (2,1) false:=⟨by kernel_rfl⟩
instance:T4 Tryz.prog 25 [Value.slice none 0 0] 1 false 24:=⟨by kernel_rfl⟩
instance te_25:TE Tryz.prog 25 (24,3):=⟨by kernel_rfl⟩
instance:T4 Tryz.prog 26 [Value.slice none 0 0] 1 false 24:=⟨by kernel_rfl⟩
instance te_26:TE Tryz.prog 26 (61,2):=⟨by kernel_rfl⟩
instance:T4 Tryz.prog 27 [Value.slice none 0 0] 1 false 24:=⟨by kernel_rfl⟩
instance te_27:TE Tryz.prog 27 (61,2):=⟨by kernel_rfl⟩
instance:T4 Tryz.prog 28 [Value.slice none 0 0] 1 false 24:=⟨by kernel_rfl⟩
instance te_28:TE Tryz.prog 28 (189,1):=⟨by kernel_rfl⟩
instance:T4 Tryz.prog 30 [Value.slice none 0 0] 1 true 24:=⟨by kernel_rfl⟩
instance tp_30:TP Tryz.prog 30 [(0,1)]:=⟨by kernel_rfl⟩
instance:T2 Tryz.prog 30 0 (0,1) false:=⟨by kernel_rfl⟩
instance:T4 Tryz.prog 32 [Value.slice none 0 0,Value.bool false] 2 true 32:=⟨by kernel_rfl⟩
instance tp_32:TP Tryz.prog 32 [(0,1),(1,1)]:=⟨by kernel_rfl⟩
instance:T2 Tryz.prog 32 0 (0,1) true:=⟨by kernel_rfl⟩
instance:T2 Tryz.prog 32 1 (1,1) false:=⟨by kernel_rfl⟩
instance:T4 Tryz.prog 34 [Value.slice none 0 0,Value.bool false,Value.slice none 0 0] 3 true 56:=⟨by kernel_rfl⟩
instance tp_34:TP Tryz.prog 34 [(0,2),(2,1)]:=⟨by kernel_rfl⟩
instance:T2 Tryz.prog 34 0 (0,2) true:=⟨by kernel_rfl⟩
instance:T2 Tryz.prog 34 1 (2,1) true:=⟨by kernel_rfl⟩
instance:T4 Tryz.prog 35 [Value.slice none 0 0] 1 false 24:=⟨by kernel_rfl⟩
instance te_35:TE Tryz.prog 35 (34,3):=⟨by kernel_rfl⟩
instance:T4 Tryz.prog 36 [Value.slice none 0 0] 1 false 24:=⟨by kernel_rfl⟩
instance te_36:TE Tryz.prog 36 (34,3):=⟨by kernel_rfl⟩
instance:T4 Tryz.prog 38 [Value.slice none 0 0,Value.slice none 0 0,Value.bool false,Value.slice none 0 0,Value.slice none 0 0] 5 true 104:=⟨by kernel_rfl⟩
instance tp_38:TP Tryz.prog 38 [(0,1),(1,3),(4,1)]:=⟨by kernel_rfl⟩
instance:T2 Tryz.prog 38 0 (0,1) false:=⟨by kernel_rfl⟩
instance:T2 Tryz.prog 38 1 (1,3) true:=⟨by kernel_rfl⟩
instance:T2 Tryz.prog 38 2 (4,1) false:=⟨by kernel_rfl⟩
instance:T4 Tryz.prog 40 [Value.slice none 0 0,Value.bool false,Value.slice none 0 0,Value.slice none 0 0,Value.bool false,Value.slice none 0 0] 6 true 112:=⟨by kernel_rfl⟩
instance tp_40:TP Tryz.prog 40 [(0,3),(3,3)]:=⟨by kernel_rfl⟩
instance:T2 Tryz.prog 40 0 (0,3) true:=⟨by kernel_rfl⟩
instance:T2 Tryz.prog 40 1 (3,3) true:=⟨by kernel_rfl⟩
instance:T4 Tryz.prog 44 [Value.int IntKind.i64 0,Value.int IntKind.i64 0,Value.int IntKind.u8 0,Value.int IntKind.i64 0,Value.int IntKind.i64 0,Value.int IntKind.u8 0] 6 true 48:=⟨by kernel_rfl⟩
instance tp_44:TP Tryz.prog 44 [(0,3),(3,3)]:=⟨by kernel_rfl⟩
instance:T2 Tryz.prog 44 0 (0,3) true:=⟨by kernel_rfl⟩
instance:T2 Tryz.prog 44 1 (3,3) true:=⟨by kernel_rfl⟩
instance:T4 Tryz.prog 47 [Value.slice none 0 0] 1 false 24:=⟨by kernel_rfl⟩
instance te_47:TE Tryz.prog 47 (3,1):=⟨by kernel_rfl⟩
instance:T4 Tryz.prog 49 [Value.int IntKind.i64 0,Value.slice none 0 0] 2 true 32:=⟨by kernel_rfl⟩
instance tp_49:TP Tryz.prog 49 [(0,1),(1,1)]:=⟨by kernel_rfl⟩
instance:T2 Tryz.prog 49 0 (0,1) false:=⟨by kernel_rfl⟩
instance:T2 Tryz.prog 49 1 (1,1) false:=⟨by kernel_rfl⟩
instance:T4 Tryz.prog 51 [Value.int IntKind.i64 0,Value.slice none 0 0,Value.int IntKind.i64 0,Value.slice none 0 0] 4 true 64:=⟨by kernel_rfl⟩
instance tp_51:TP Tryz.prog 51 [(0,2),(2,2)]:=⟨by kernel_rfl⟩
instance:T2 Tryz.prog 51 0 (0,2) true:=⟨by kernel_rfl⟩
instance:T2 Tryz.prog 51 1 (2,2) true:=⟨by kernel_rfl⟩
instance:T4 Tryz.prog 61 [Value.slice none 0 0,Value.slice none 0 0] 2 true 48:=⟨by kernel_rfl⟩
instance tp_61:TP Tryz.prog 61 [(0,1),(1,1)]:=⟨by kernel_rfl⟩
instance:T2 Tryz.prog 61 0 (0,1) false:=⟨by kernel_rfl⟩
instance:T2 Tryz.prog 61 1 (1,1) false:=⟨by kernel_rfl⟩
instance:T4 Tryz.prog 68 [Value.slice none 0 0] 1 false 24:=⟨by kernel_rfl⟩
instance te_68:TE Tryz.prog 68 (36,1):=⟨by kernel_rfl⟩
instance:T4 Tryz.prog 78 [Value.slice none 0 0] 1 false 24:=⟨by kernel_rfl⟩
instance te_78:TE Tryz.prog 78 (51,4):=⟨by kernel_rfl⟩
instance:T4 Tryz.prog 84 [Value.slice none 0 0] 1 false 24:=⟨by kernel_rfl⟩
instance te_84:TE Tryz.prog 84 (147,2):=⟨by kernel_rfl⟩
instance:T4 Tryz.prog 87 [Value.slice none 0 0] 1 false 24:=⟨by kernel_rfl⟩
instance te_87:TE Tryz.prog 87 (51,4):=⟨by kernel_rfl⟩
instance:T4 Tryz.prog 91 [Value.int IntKind.i64 0,Value.slice none 0 0,Value.int IntKind.i64 0,Value.slice none 0 0,Value.int IntKind.i64 0,Value.slice none 0 0,Value.int IntKind.i64 0,Value.slice none 0 0] 8 true 128:=⟨by kernel_rfl⟩
instance tp_91:TP Tryz.prog 91 [(0,4),(4,4)]:=⟨by kernel_rfl⟩
instance:T2 Tryz.prog 91 0 (0,4) true:=⟨by kernel_rfl⟩
instance:T2 Tryz.prog 91 1 (4,4) true:=⟨by kernel_rfl⟩
instance:T4 Tryz.prog 101 [Value.slice none 0 0,Value.slice none 0 0,Value.bool false,Value.slice none 0 0,Value.slice none 0 0,Value.bool false,Value.slice none 0 0,Value.slice none 0 0,Value.bool false,Value.slice none 0 0] 10 true 192:=⟨by kernel_rfl⟩
instance tp_101:TP Tryz.prog 101 [(0,1),(1,3),(4,3),(7,3)]:=⟨by kernel_rfl⟩
instance:T2 Tryz.prog 101 0 (0,1) false:=⟨by kernel_rfl⟩
instance:T2 Tryz.prog 101 1 (1,3) true:=⟨by kernel_rfl⟩
instance:T2 Tryz.prog 101 2 (4,3) true:=⟨by kernel_rfl⟩
instance:T2 Tryz.prog 101 3 (7,3) true:=⟨by kernel_rfl⟩
instance:T4 Tryz.prog 109 [Value.slice none 0 0,Value.slice none 0 0,Value.bool false,Value.slice none 0 0,Value.slice none 0 0,Value.slice none 0 0,Value.bool false,Value.slice none 0 0,Value.slice none 0 0,Value.bool false,Value.slice none 0 0] 11 true 216:=⟨by kernel_rfl⟩
instance tp_109:TP Tryz.prog 109 [(0,5),(5,6)]:=⟨by kernel_rfl⟩
instance:T2 Tryz.prog 109 0 (0,5) true:=⟨by kernel_rfl⟩
instance:T2 Tryz.prog 109 1 (5,6) true:=⟨by kernel_rfl⟩
instance:T4 Tryz.prog 114 [Value.nilFunc] 1 false 8:=⟨by kernel_rfl⟩
instance:T4 Tryz.prog 115 [Value.nilFunc] 1 false 8:=⟨by kernel_rfl⟩
instance:T4 Tryz.prog 122 [Value.slice none 0 0] 1 false 24:=⟨by kernel_rfl⟩
instance te_122:TE Tryz.prog 122 (35,1):=⟨by kernel_rfl⟩
instance:T4 Tryz.prog 123 [Value.slice none 0 0] 1 false 24:=⟨by kernel_rfl⟩
instance te_123:TE Tryz.prog 123 (35,1):=⟨by kernel_rfl⟩
instance:T4 Tryz.prog 125 [Value.slice none 0 0,Value.slice none 0 0,Value.int IntKind.i64 0] 3 true 56:=⟨by kernel_rfl⟩
instance tp_125:TP Tryz.prog 125 [(0,1),(1,1),(2,1)]:=⟨by kernel_rfl⟩
instance:T2 Tryz.prog 125 0 (0,1) false:=⟨by kernel_rfl⟩
instance:T2 Tryz.prog 125 1 (1,1) false:=⟨by kernel_rfl⟩
instance:T2 Tryz.prog 125 2 (2,1) false:=⟨by kernel_rfl⟩
instance:T4 Tryz.prog 129 [Value.nilFunc] 1 false 8:=⟨by kernel_rfl⟩
instance:T4 Tryz.prog 133 [Value.nilFunc] 1 false 8:=⟨by kernel_rfl⟩
instance:T4 Tryz.prog 142 [Value.slice none 0 0,Value.slice none 0 0] 2 true 48:=⟨by kernel_rfl⟩
instance tp_142:TP Tryz.prog 142 [(0,1),(1,1)]:=⟨by kernel_rfl⟩
instance:T2 Tryz.prog 142 0 (0,1) false:=⟨by kernel_rfl⟩
instance:T2 Tryz.prog 142 1 (1,1) false:=⟨by kernel_rfl⟩
instance:T4 Tryz.prog 147 [Value.slice none 0 0,Value.slice none 0 0] 2 true 48:=⟨by kernel_rfl⟩
instance tp_147:TP Tryz.prog 147 [(0,1),(1,1)]:=⟨by kernel_rfl⟩
instance:T2 Tryz.prog 147 0 (0,1) false:=⟨by kernel_rfl⟩
instance:T2 Tryz.prog 147 1 (1,1) false:=⟨by kernel_rfl⟩
instance:T4 Tryz.prog 150 [Value.slice none 0 0] 1 false 24:=⟨by kernel_rfl⟩
instance te_150:TE Tryz.prog 150 (2,1):=⟨by kernel_rfl⟩
instance:T4 Tryz.prog 154 [Value.nilFunc] 1 false 8:=⟨by kernel_rfl⟩
instance:T4 Tryz.prog 156 [Value.slice none 0 0,Value.bool false,Value.slice none 0 0,Value.slice none 0 0,Value.bool false,Value.slice none 0 0,Value.int IntKind.i64 0] 7 true 120:=⟨by kernel_rfl⟩
instance tp_156:TP Tryz.prog 156 [(0,6),(6,1)]:=⟨by kernel_rfl⟩
instance:T2 Tryz.prog 156 0 (0,6) true:=⟨by kernel_rfl⟩
instance:T2 Tryz.prog 156 1 (6,1) false:=⟨by kernel_rfl⟩
instance:T4 Tryz.prog 159 [Value.pointer none] 1 false 8:=⟨by kernel_rfl⟩
instance:T4 Tryz.prog 160 [Value.slice none 0 0] 1 false 24:=⟨by kernel_rfl⟩
instance te_160:TE Tryz.prog 160 (5,1):=⟨by kernel_rfl⟩
instance:T4 Tryz.prog 162 [Value.pointer none,Value.slice none 0 0] 2 true 32:=⟨by kernel_rfl⟩
instance tp_162:TP Tryz.prog 162 [(0,1),(1,1)]:=⟨by kernel_rfl⟩
instance:T2 Tryz.prog 162 0 (0,1) false:=⟨by kernel_rfl⟩
instance:T2 Tryz.prog 162 1 (1,1) false:=⟨by kernel_rfl⟩
instance:T4 Tryz.prog 175 [Value.nilFunc] 1 false 8:=⟨by kernel_rfl⟩
instance:T4 Tryz.prog 177 [Value.nilFunc] 1 false 8:=⟨by kernel_rfl⟩
instance:T4 Tryz.prog 180 [Value.nilFunc] 1 false 8:=⟨by kernel_rfl⟩
instance:T4 Tryz.prog 182 [Value.nilFunc] 1 false 8:=⟨by kernel_rfl⟩
instance:T4 Tryz.prog 189 [Value.int IntKind.u32 0] 1 false 4:=⟨by kernel_rfl⟩
instance tu_189:TU Tryz.prog 189 (.int .u32):=⟨by kernel_rfl⟩
instance:T4 Tryz.prog 190 [Value.int IntKind.u64 0] 1 false 8:=⟨by kernel_rfl⟩
instance tu_190:TU Tryz.prog 190 (.int .u64):=⟨by kernel_rfl⟩
instance:T4 Tryz.prog 206 [Value.nilFunc] 1 false 8:=⟨by kernel_rfl⟩
instance:T4 Tryz.prog 207 [Value.pointer none] 1 false 8:=⟨by kernel_rfl⟩
instance:T4 Tryz.prog 222 [Value.nilFunc] 1 false 8:=⟨by kernel_rfl⟩
instance:T4 Tryz.prog 228 [Value.nilFunc] 1 false 8:=⟨by kernel_rfl⟩
instance:T4 Tryz.prog 233 [Value.pointer none] 1 false 8:=⟨by kernel_rfl⟩
instance:T4 Tryz.prog 235 [Value.pointer none] 1 false 8:=⟨by kernel_rfl⟩
instance:T4 Tryz.prog 237 [Value.pointer none,Value.int IntKind.i64 0] 2 true 16:=⟨by kernel_rfl⟩
instance tp_237:TP Tryz.prog 237 [(0,1),(1,1)]:=⟨by kernel_rfl⟩
instance:T2 Tryz.prog 237 0 (0,1) false:=⟨by kernel_rfl⟩
instance:T2 Tryz.prog 237 1 (1,1) false:=⟨by kernel_rfl⟩
instance:T4 Tryz.prog 239 [Value.pointer none] 1 false 8:=⟨by kernel_rfl⟩
instance:T4 Tryz.prog 262 [Value.slice none 0 0,Value.slice none 0 0,Value.int IntKind.i64 0] 3 true 56:=⟨by kernel_rfl⟩
instance tp_262:TP Tryz.prog 262 [(0,1),(1,1),(2,1)]:=⟨by kernel_rfl⟩
instance:T2 Tryz.prog 262 0 (0,1) false:=⟨by kernel_rfl⟩
instance:T2 Tryz.prog 262 1 (1,1) false:=⟨by kernel_rfl⟩
instance:T2 Tryz.prog 262 2 (2,1) false:=⟨by kernel_rfl⟩
instance:T4 Tryz.prog 265 [Value.nilFunc] 1 false 8:=⟨by kernel_rfl⟩
instance:T3 Tryz.prog 270 24 true 24:=⟨by kernel_rfl⟩
instance:T4 Tryz.prog 296 [Value.nilFunc] 1 false 8:=⟨by kernel_rfl⟩
abbrev FS:=FSpec Tryz.prog
theorem E9(l:List Nat):FS 100 [.agg [.arr (dE l)]] (bln (l.length==0)):=by
 refine f_n Tryz.func100 ?_ ?_;exact ac (aB (ac (di l) ag)) ag;refine r_z 2 ?_;refine r_z 5 ?_;refine ak (aY rfl ?_ (ah _));simp only[bln,tM];congr 2;rw[Bool.eq_iff_iff];simp
theorem jl(l:List Nat)(hl:l.length≤281474976710656):FS 128 [.arr (dE l)] (.agg [.arr (dE (fS l))]):=by
 refine f_n Tryz.func128 ?_ ?_;exact ac (di l) ag;refine r_z 1 ?_;refine r_z 3 ?_;refine bD (fun k:Nat=>⟨[(0,.arr (dE l)),(2,.lptr 1 0 0),(3,i64 k)],[(1,some ⟨30,1,[[.emp]]⟩)],2,23⟩) (fun k=>k≤l.length∧fS l=l.take k) ?_ ?_;refine am (aD (fun k:Nat=>⟨[(0,.arr (dE l)),(2,.lptr 1 0 0),(3,i64 k)],[(1,some ⟨30,1,[[.emp]]⟩)],2,23⟩) (fun k=>k) (fun k=>k≤l.length∧∀i,k≤i→i< l.length→l[i]?=some 0) l.length ⟨Nat.le_refl _,fun i h1 g=>by omega⟩ ?_ ?_);exact s_e [];rintro k ⟨a,j⟩;have fin:k=0∨l[k- 1]?≠some 0→fS l=l.take k:=mF l k a j;by_cases h0:k=0;subst h0;refine ae (s_r 10 ?_);refine a_3 ?_;refine n_g rfl d_f ?_;refine n_g rfl d_f ?_;refine n_g rfl d_f ?_;refine n_g rfl d_f ?_;refine n_g rfl d_f ?_;refine n_g rfl d_f ?_;refine o_0 (.pickF rfl d_f rfl) ?_;refine au ?_;refine aq rfl (fun h=>?_) (fun _=>?_);cases h;refine aA ⟨0,⟨a,fin (.inl rfl)⟩,?_⟩;exact s_e [];have c:k- 1< l.length:=by omega
 obtain⟨d,f⟩:∃d,l[k- 1]?=some d:=⟨_,List.getElem?_eq_getElem c⟩;have b:(dE l)[((k:Int)- 1).toNat]?=some [u32 d]:=by rw[show((k:Int)- 1).toNat=k- 1 by omega];exact ea f
 refine ae (s_r 10 ?_);refine a_3 ?_;refine y_g rfl d_t (.move rfl) ?_;refine y_g rfl d_t (.move rfl) ?_;refine y_g rfl d_t (.bin rfl rfl (sG (by omega))) ?_;refine y_g rfl d_t (.index_a rfl rfl (by omega) b rfl te_28.h) ?_;refine y_g rfl d_t (.load_a1 rfl b TG.h rfl) ?_;refine y_g rfl d_t (.bin rfl rfl db) ?_;refine o_0 (.pickT rfl d_t rfl) ?_;refine au ?_;refine aq rfl (fun h=>?_) (fun h=>?_);refine an ?_;have e:d=0:=by simpa using h
 subst e;refine am (r_m 3 ?_);refine a_z ?_;refine⟨k- 1,by omega,⟨by omega,fun i h1 g=>?_⟩,?_⟩;by_cases hi:i=k- 1;rw[hi];exact f;exact j i (by omega) g;exact s_e [];refine aA ⟨k,⟨a,fin (.inr ?_)⟩,?_⟩;rw[f];simp at h⊢;omega;exact s_e [];rintro k ⟨a,ht⟩;refine s_r 6 ?_;refine a_3 ?_;refine o_0 (.sa_hm rfl rfl rfl rfl rfl ⟨Nat.le_refl _,by simpa using a⟩ te_28.h (Ap l)) ?_;refine a_z ?_;refine ak (dV rfl rfl rfl TG.h TS.h (nle rfl) ?_ (aB (ac (di _) ag)));rw[ht,←Fs];rfl
theorem wn(z:Int):FS 162 [i64 z] (bln false):=by
 refine f_c Tryz.func162 ?_;refine r_z 1 ?_;refine r_z 4 ?_;refine ak (aY rfl ?_ (ah _));simp[bln]
theorem wm(z:Nat):FS 163 [u32 z] (bln false):=by
 refine f_c Tryz.func163 ?_;refine r_z 1 ?_;refine r_z 4 ?_;refine ak (aY rfl ?_ (ah _));simp[bln]
theorem z8(a b:Int):FS 131 [i64 a,i64 b] (i64 (fm a b)):=by
 refine f_c Tryz.func131 ?_;refine r_z 1 ?_;refine r_c 3 (wn a) ?_;refine a_z ?_;refine r_c 3 (wn b) ?_;refine a_z ?_;refine ae (r_z 1 ?_);refine aq rfl (fun h=>?_) (fun _=>an ?_);cases h;refine ae (r_z 1 ?_);refine aq rfl (fun h=>?_) (fun _=>an ?_);cases h;refine ae (r_z 3 ?_);refine aq rfl (fun h=>?_) (fun h=>an ?_);refine r_z 1 ?_;refine ak (aY rfl ?_ (ah _));simp at h;simp[i64,ofV,fm,h];refine ae (r_z 3 ?_);refine aq rfl (fun c=>?_) (fun c=>an ?_);refine r_z 1 ?_;refine ak (aY rfl ?_ (ah _));simp at h c;simp[i64,ofV,fm];omega;refine r_z 1 ?_;refine ak (aY rfl ?_ (ah _));simp at h c;simp[i64,ofV,fm];omega
theorem z7(a b:Nat):FS 132 [u32 a,u32 b] (i64 (fm a b)):=by
 refine f_c Tryz.func132 ?_;refine r_z 1 ?_;refine r_c 3 (wm a) ?_;refine a_z ?_;refine r_c 3 (wm b) ?_;refine a_z ?_;refine ae (r_z 1 ?_);refine aq rfl (fun h=>?_) (fun _=>an ?_);cases h;refine ae (r_z 1 ?_);refine aq rfl (fun h=>?_) (fun _=>an ?_);cases h;refine ae (r_z 3 ?_);refine aq rfl (fun h=>?_) (fun h=>an ?_);refine r_z 1 ?_;refine ak (aY rfl ?_ (ah _));simp at h;simp[i64,ofV,fm,h];refine ae (r_z 3 ?_);refine aq rfl (fun c=>?_) (fun c=>an ?_);refine r_z 1 ?_;refine ak (aY rfl ?_ (ah _));simp at h c;simp[i64,ofV,fm];omega;refine r_z 1 ?_;refine ak (aY rfl ?_ (ah _));simp at h c;simp[i64,ofV,fm];omega
theorem digs_one{n:Nat}:(av MB n).length=1∧(av MB n)[0]?=some 1↔n=1:=by
 constructor;rintro⟨h1,a⟩;have:=bG (b:=MB) (by decide) n
 match hd:av MB n,h1,a with
 |[d],_,a=>rw[hd] at this;simp at a;subst a;simpa[ofD] using this.symm
 rintro rfl;rw[fU (by decide) (by decide)];rw[show 1/ MB=0 by decide,cP];simp
theorem fs_one(n:Nat):FS 154 [.agg [mag n]] (bln (n==1)):=by
 refine f_c Tryz.func154 ?_;refine r_z 2 ?_;by_cases h1:(av MB n).length=1;obtain⟨d,b⟩:∃d,(av MB n)[0]?=some d:=⟨_,List.getElem?_eq_getElem (by omega)⟩;have a:(dE (av MB n))[(0:Int).toNat]?=some [u32 d]:=ea b;refine s_r 12 ?_;refine a_5 ?_;refine y_g rfl (by simp;omega) (.fieldAddr_l rfl TF.h (by decide)) ?_;refine y_g rfl (by simp;omega) (.load_l1 rfl rfl rfl TG.h rfl) ?_;refine y_g rfl (by simp;omega) (.index_a rfl rfl (by omega) a rfl te_28.h) ?_;refine y_g rfl (by simp;omega) (.load_a1 rfl a TG.h rfl) ?_;refine y_g rfl (by simp;omega) (.bin rfl rfl db) ?_;refine o_0 (.pickT rfl (by simp;omega) rfl) ?_;refine a_z ?_;refine ak (aY rfl ?_ (ah _));simp only[bln];congr 2;rw[Bool.eq_iff_iff];have:=digs_one (n:=n);simp only[h1,b,true_and,Option.some.injEq] at this;simp only[beq_iff_eq,←this];omega;refine s_r 12 ?_;refine a_5 ?_;refine n_g rfl (by simp;omega) ?_;refine n_g rfl (by simp;omega) ?_;refine n_g rfl (by simp;omega) ?_;refine n_g rfl (by simp;omega) ?_;refine n_g rfl (by simp;omega) ?_;refine o_0 (.pickF rfl (by simp;omega) rfl) ?_;refine a_z ?_;refine ak (aY rfl ?_ (ah _));simp only[bln,ofV];congr 2;symm;rw[beq_eq_false_iff_ne];intro h;exact h1 (digs_one.2 h).1
end Go.Proofs.YtkhclghbcicapaaGreatDoor
