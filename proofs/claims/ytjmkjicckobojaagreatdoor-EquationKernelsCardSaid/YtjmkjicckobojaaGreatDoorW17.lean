/- Part W17 of the proof. -/
import Derived.Test.YtjmkjicckobojaaGreatDoorW16
import Derived.Test.YtjmkjicckobojaaGreatDoorProg
import Derived.KernelRfl
set_option linter.all false
namespace Go.Abs
set_option maxRecDepth 20000
section
variable {X:Mx}{i j k n r c:Nat}
def puM(X:Mx)(i j:Nat)(v:Rat):Mx:=λk t=>if k=i/\t=j then v else X k t
theorem puM_ne{v:Rat}(h:k≠i):puM X i j v k=X k:=funext λt=>if_neg λe=>h e.1
theorem puM_set{m:Nat}{v:Rat}(h:j< m):∀e:Nat,e=j->(pE (aN m (X i))).set e (qC v)=pE (aN m (puM X i j v i)):=λe a=>by
 subst a;rw[mM];congr 1;refine List.ext_getElem? λt=>?_;rw[List.getElem?_set];by_cases ht:t< m;by_cases h1:e=t;subst h1;simp[aN,ht,puM];rw[if_neg h1];simp[aN,ht,puM,show¬t=e from λb=>h1 b.symm];simp_all
theorem eJ{X:Nat->Rat}{m:Nat}(h:j< m):∀e:Nat,e=j->(pE (aN m X))[e]?=some (qC (X j)):=λe a=>by
 subst a;simp[pE,aN,h]
def rT(n:Nat)(X:Mx)(k:Nat):Lq:=aN (n+1) (X k)
theorem wb{Y:Mx}(h:∀j,j<=n->X k j=Y k j):rT n X k=rT n Y k:=by
 exact List.map_congr_left λt a=>h t φ
@[simp] theorem rT_length (n:Nat)(X:Mx)(k:Nat):(rT n X k).length=n+1:=by simp[rT]
def scJ(X:Mx)(r:Nat)(f:Rat)(j:Nat):Mx:=λi t=>if i=r/\t< j then X i t* f else X i t
theorem scJ_0(X:Mx)(r:Nat)(f:Rat):scJ X r f 0=X:=funext λi=>funext λt=>if_neg λe=>by omega
theorem scJ_at(X:Mx)(r:Nat)(f:Rat)(j:Nat):scJ X r f j r j=X r j:=if_neg λe=>by omega
theorem scJ_s(X:Mx)(r:Nat)(f:Rat)(j:Nat):scJ X r f (j+1)=puM (scJ X r f j) r j (X r j* f):=funext λi=>funext λt=>by
 show(if i=r/\t< j+1 then X i t* f else X i t)=if i=r/\t=j then X r j* f else if i=r/\t< j then X i t* f else X i t
 grind
theorem scJ_n{f:Rat}(k j:Nat)(h:j<=n):scJ X r f (n+1) k j=scM X r f k j:=by
 unfold scJ scM;grind
def rdJ(X:Mx)(r c i j:Nat):Mx:=λk t=>if k≠r/\(k< i\/(k=i/\t< j)) then X k t- X k c* X r t else X k t
theorem rdJ_0(X:Mx)(r c:Nat):rdJ X r c 0 0=X:=funext λi=>funext λt=>if_neg λe=>by omega
theorem rdJ_at(X:Mx)(r c i j:Nat):rdJ X r c i j i j=X i j:=if_neg λe=>by omega
theorem rdJ_c(X:Mx)(r c i:Nat):rdJ X r c i 0 i=X i:=funext λt=>if_neg λe=>by omega
theorem rdJ_r(X:Mx)(r c i j:Nat):rdJ X r c i j r=X r:=funext λt=>if_neg λe=>e.1 rfl
theorem rdJ_s(h:i≠r):rdJ X r c i (j+1)=puM (rdJ X r c i j) i j (X i j- X i c* X r j):=funext λk=>funext λt=>by
 show(if k≠r/\(k< i\/(k=i/\t< j+1)) then X k t- X k c* X r t else X k t)=if k=i/\t=j then X i j- X i c* X r j else if k≠r/\(k< i\/(k=i/\t< j)) then X k t- X k c* X r t else X k t
 grind
theorem rdJ_n(i k j:Nat)(h:j<=n):rdJ X r c i (n+1) k j=rdJ X r c (i+1) 0 k j:=by
 unfold rdJ;grind
theorem BB(h:i=r\/X i c=0):rdJ X r c (i+1) 0=rdJ X r c i 0:=funext λk=>funext λt=>by
 unfold rdJ;grind
theorem rdJ_end(h:k< n)(j:Nat):rdJ X r c n 0 k j=rdM X r c k j:=by
 unfold rdJ rdM;grind
def slB(s:Nat):Nat->Nat
 |0=>s
 |c+1=>4* slB s c+2
theorem Br{s:Nat}(h:k<=n):slB s k<=slB s n:=by
 induction n with
 |zero=>grind
 |succ n a=>
  by_cases e:k=n+1;rw[e];exact Nat.le_refl _;rw[slB];omega
theorem bd_slC{A:Mx}{s:Nat}{L:Ln}(h:bdM A n s)(hL:L.length<=c)(hc:c< n):bdM (slC A n L c).1 n (4* s+2):=by
 unfold slC;cases e:pvR A n L.length c with
 |none=>exact λi j d a=>Nat.le_trans (h i j d a) ω
 |some p=>
  obtain⟨p1,p2,k⟩:=qV e;have g:L.length< n:=ω
  have f:=bd_sw h g p1
  have b:∀j,j<=n->qs (scM (swM A L.length p) L.length (1/ A p c) L.length j)<=2* s+1:=λj a=>by
   unfold scM;rw[if_pos rfl];have r:=f L.length j g a;have a2:=fL 1 (A p c);have a0:qs 1<=1:=δ
   have a3:=h p c p1 ω;have a4:=cx (swM A L.length p L.length j) (1/ A p c);omega
  intro i j d a;show qs (rdM (scM (swM A L.length p) L.length (1/ A p c)) L.length c i j)<=_;unfold rdM;by_cases hir:i=L.length;subst hir;rw[if_pos rfl];have:=b j a;omega;rw[if_neg hir];have b1:∀t,scM (swM A L.length p) L.length (1/ A p c) i t=swM A L.length p i t:=λt=>if_neg hir;rw[b1,b1];have l:=f i j d a;have m:=f i c d ω;have o:=b j a;have u:=cx (swM A L.length p i c) (scM (swM A L.length p) L.length (1/ A p c) L.length j);have q:=lK (swM A L.length p i j) (swM A L.length p i c* scM (swM A L.length p) L.length (1/ A p c) L.length j);omega
theorem Lp{M:Mx}{n s:Nat}(h:bdM M n s):∀c,c<=n->bdM (slM M n c).1 n (slB s c)
 |0,_=>h
 |c+1,hc=>bd_slC (Lp h c ω) (lf M n c).len ω
end
section
variable {A:Mx}{n i:Nat}{L:Ln}
def qY(A:Mx)(n:Nat)(L:Ln)(i:Nat):Lq:=aN n λj=>if (L.take i).contains j then A (L.idxOf j) n else 0
def z7(A:Mx)(n:Nat)(L:Ln):Lq:=aN n (oneX A n L)
@[simp] theorem BL (A:Mx)(n:Nat)(L:Ln)(i:Nat):(qY A n L i).length=n:=by simp[qY]
@[simp] theorem oneL_length (A:Mx)(n:Nat)(L:Ln):(z7 A n L).length=n:=by simp[z7]
theorem IS(n:Nat):aN n (λ_=>0)=List.replicate n (0:Rat):=by
 unfold aN;rw[List.eq_replicate_iff];grind
theorem oneJ_0(A:Mx)(n:Nat)(L:Ln):qY A n L 0=List.replicate n (0:Rat):=by
 unfold qY;rw[<-IS];simp
theorem oneJ_n(h:L.length<=i):qY A n L i=z7 A n L:=by
 unfold qY z7;rw[List.take_of_length_le h];rfl
theorem JI{c:Nat}(h:c< n):∀e:Nat,e=c->∃v,(pE (qY A n L i))[e]?=some (qC v):=λe a=>by
 subst a;exact⟨_,eJ h e rfl⟩
theorem oneJ_s{c0:Nat}{c:Nat}(hE:Ech A n c0 L)(hl:L[i]?=some c)(hc:c< n):∀e:Nat,e=c->(pE (qY A n L i)).set e (qC (A i n))=pE (qY A n L (i+1)):=λe b=>by
 subst b;rw[mM];congr 1;have a:L.take (i+1)=L.take i++[e]:=by rw[List.take_add_one,hl];rfl
 refine List.ext_getElem? λt=>?_;rw[List.getElem?_set,BL];by_cases ht:t< n;by_cases h1:e=t;subst h1;rw[if_pos rfl,if_pos ht];unfold qY aN;rw[List.getElem?_map,List.getElem?_range ht,a,Option.map_some,if_pos ψ,hE.idx hl];rw[if_neg h1];unfold qY aN;rw[List.getElem?_map,List.getElem?_map,List.getElem?_range ht,a,Option.map_some,Option.map_some];have d:(L.take i++[e]).contains t=(L.take i).contains t:=φ
 rw[d];simp_all
def pr(n:Nat)(A:Mx):Lw:=(List.range n).map λk=>aN (n+1) (A k)
@[simp] theorem rowsL_length (n:Nat)(A:Mx):(pr n A).length=n:=by simp[pr]
theorem yn(h:i< n):(pr n A)[i]?=some (aN (n+1) (A i)):=by simp[pr,h]
def yx(n:Nat)(A:Mx)(L:Ln):Bool:=((pr n A).drop L.length).any λe=>decide (coP e n≠0)
def smF(c:Rat)(o:Lq)(p:Lq×Lq):Lq:=fR o (aR p.1 c)
def sS:Ke->Lq->Lq->Lq
 |[],_,o=>o
 |p::k,c,o=>sS k c.tail (smF (coP c 0) o p)
def smK(k:Ke)(c:Lq)(i:Nat):Lq:=sS (k.take i) c []
theorem yk:∀(k:Ke) (c o:Lq) (p:Lq×Lq),sS (k++[p]) c o=smF (coP c k.length) (sS k c o) p
 |[],c,o,p=>rfl
 |q::k,c,o,p=>by
  rw[List.cons_append,sS,yk k,sS];cases c with
  |nil=>simp[coP]
  |cons a c=>rfl
theorem smK_s{k:Ke}{c:Lq}{p:Lq×Lq}(h:k[i]?=some p):smK k c (i+1)=smF (coP c i) (smK k c i) p:=by
 have a:k.take (i+1)=k.take i++[p]:=by rw[List.take_add_one,h];rfl
 have b:=(List.getElem?_eq_some_iff.1 h).1;unfold smK;rw[a,yk,List.length_take,Nat.min_eq_left ω]
end



section
variable {k:Ke}{G u:Lq}{L:Rat}{n:Nat}
end
section
variable {k:Ke}{G:Lq}{L a x:Rat}(hl:k.length<=3)(h4:∀p∈k,p.1.length<=4/\p.2.length<=4)(hb:∀p∈k,bdL p.1 20/\bdL p.2 20)(hg:G.length<=5)(bg:bdL G 20)(qL:qs L<=20)(qa:qs a<=20)(qx:qs x<=20)
end


def AT:Nat->Mx->Rat
 |0,_=>1
 |1,M=>M 0 0
 |2,M=>M 0 0* M 1 1- M 0 1* M 1 0
 |_,M=>M 0 0* (M 1 1* M 2 2- M 1 2* M 2 1)- M 0 1* (M 1 0* M 2 2- M 1 2* M 2 0)+M 0 2* (M 1 0* M 2 1- M 1 1* M 2 0)
section
variable {M:Mx}{n:Nat}
end
def l7(M:Mx)(k:Nat):Mx:=λi j=>M (i+1) (if j< k then j else j+1)
def deS(M:Mx)(D:Nat->Rat):Nat->Rat
 |0=>0
 |k+1=>if M 0 k=0 then deS M D k else deS M D k+(if k % 2=1 then -(M 0 k* D k) else M 0 k* D k)
def deF:Nat->Mx->Rat
 |0,_=>1
 |n+1,M=>deS M (λk=>deF n (l7 M k)) (n+1)
theorem GU(M:Mx)(D:Nat->Rat)(k:Nat):deS M D (k+1)=deS M D k+(if k % 2=1 then -(M 0 k* D k) else M 0 k* D k):=by
 rw[deS];by_cases h:M 0 k=0;rw[if_pos h,h,Rat.zero_mul];split <;> grind;rw[if_neg h]
theorem K3(M:Mx)(D:Nat->Rat):deS M D 0=0:=rfl
theorem deF_3{n:Nat}(h:n<=3)(M:Mx):deF n M=AT n M:=by
 rcases(by omega:n=0\/n=1\/n=2\/n=3) with rfl|rfl|rfl|rfl
 rfl;simp[deF,GU,K3,AT];grind;simp[deF,GU,K3,AT,l7];grind;simp[deF,GU,K3,AT,l7];grind
def deB(B:Nat):Nat->Nat
 |0=>1
 |n+1=>(n+1) * (B+deB B n+1)+1
theorem ET{M:Mx}{D:Nat->Rat}{B d n:Nat}(hM:∀k,k< n->qs (M 0 k)<=B)(hD:∀k,k< n->qs (D k)<=d):∀k,k<=n->qs (deS M D k)<=k* (B+d+1)+1
 |0,_=>by rw[Nat.zero_mul];exact(by decide:qs 0<=0+1)
 |k+1,h=>by
  have a:=ET hM hD k ω;have e:=cx (M 0 k) (D k);have b:=hM k ω;have g:=hD k ω;rw[deS,Nat.succ_mul];split;omega;have c:=e9 (deS M D k) (if k % 2=1 then -(M 0 k* D k) else M 0 k* D k)
  have f:qs (if k % 2=1 then -(M 0 k* D k) else M 0 k* D k)<=B+d:=by
   split;rw[dJ];omega;omega
  omega
theorem EU{B:Nat}:∀(n:Nat) (M:Mx),(∀i j,i< n->j< n->qs (M i j)<=B)->qs (deF n M)<=deB B n
 |0,_,_=>(by decide:qs 1<=1)
 |n+1,M,h=>by
  rw[deF,deB];exact ET (λk a=>h 0 k ω a) (λk a=>EU n (l7 M k) λi j c b=>h _ _ ω (by split <;> omega)) (n+1) (Nat.le_refl _)
inductive Spn (B:Lw):Lq->Prop
 |zero {u:Lq}:(∀i,coP u i=0)->Spn B u
 |step {p b r:Lq} {c:Rat}:Spn B p->b∈B->(∀i,coP r i=coP p i- c* coP b i)->Spn B r
section
variable {B C:Lw}
end
section
variable {fr fr':Fr}{hp ex:Hp}{nx N TS TQ n m k:Nat}{R R':Nat->List RQ}
end
end Go.Abs
namespace Go.Proofs.YtjmkjicckobojaaGreatDoor
open Go.Abs
set_option maxRecDepth 20000
theorem aX:Tryz.prog.follows .mixedOrders=true:=by kernel_rfl
instance:T4 Tryz.prog 2 [Value.int IntKind.i64 0] 1 false 8:=⟨by kernel_rfl⟩
instance tu_2:TU Tryz.prog 2 (.int .i64):=⟨by kernel_rfl⟩
instance:T4 Tryz.prog 3 [Value.int IntKind.i64 0] 1 false 8:=⟨by kernel_rfl⟩
instance tu_3:TU Tryz.prog 3 (.int .i64):=⟨by kernel_rfl⟩
instance:T4 Tryz.prog 4 [Value.bool false] 1 false 1:=⟨by kernel_rfl⟩
instance tu_4:TU Tryz.prog 4 .bool:=⟨by kernel_rfl⟩
instance:T4 Tryz.prog 5 [Value.int IntKind.u8 0] 1 false 1:=⟨by kernel_rfl⟩
instance tu_5:TU Tryz.prog 5 (.int .u8):=⟨by kernel_rfl⟩
instance:T3 Tryz.prog 9 1 false 16:=⟨by kernel_rfl⟩
instance tu_9:TU Tryz.prog 9 .string:=⟨by kernel_rfl⟩
instance:T4 Tryz.prog 22 [Value.slice none 0 0] 1 false 24:=⟨by kernel_rfl⟩
instance te_22:TE Tryz.prog 22 (115,2):=⟨by kernel_rfl⟩
instance:T4 Tryz.prog 24 [Value.int IntKind.i64 0,Value.int IntKind.i64 0,Value.int IntKind.u8 0] 3 true 24:=⟨by kernel_rfl⟩
instance tp_24:TP Tryz.prog 24 [(0,1),(1,1),(2,1)]:=⟨by kernel_rfl⟩
instance:T2 Tryz.prog 24 0 (0,1) false:=⟨by kernel_rfl⟩
instance:T2 Tryz.prog 24 1 (1,1) false:=⟨by kernel_rfl⟩
instance:T2 Tryz.prog 24 2 (2,1) false:=⟨by kernel_rfl⟩
instance:T4 Tryz.prog 26 [Value.int IntKind.i64 0,Value.int IntKind.i64 0,Value.int IntKind.u8 0,Value.int IntKind.i64 0,Value.int IntKind.i64 0,Value.int IntKind.u8 0] 6 true 48:=⟨by kernel_rfl⟩
instance tp_26:TP Tryz.prog 26 [(0,3),(3,3)]:=⟨by kernel_rfl⟩
instance:T2 Tryz.prog 26 0 (0,3) true:=⟨by kernel_rfl⟩
instance:T2 Tryz.prog 26 1 (3,3) true:=⟨by kernel_rfl⟩
instance:T4 Tryz.prog 27 [Value.slice none 0 0] 1 false 24:=⟨by kernel_rfl⟩
instance te_27:TE Tryz.prog 27 (76,2):=⟨by kernel_rfl⟩
instance:T4 Tryz.prog 28 [Value.slice none 0 0] 1 false 24:=⟨by kernel_rfl⟩
instance te_28:TE Tryz.prog 28 (76,2):=⟨by kernel_rfl⟩
instance:T4 Tryz.prog 30 [Value.slice none 0 0] 1 false 24:=⟨by kernel_rfl⟩
instance te_30:TE Tryz.prog 30 (80,2):=⟨by kernel_rfl⟩
instance:T4 Tryz.prog 34 [Value.slice none 0 0] 1 false 24:=⟨by kernel_rfl⟩
instance te_34:TE Tryz.prog 34 (24,3):=⟨by kernel_rfl⟩
instance:T4 Tryz.prog 36 [Value.slice none 0 0] 1 false 24:=⟨by kernel_rfl⟩
instance te_36:TE Tryz.prog 36 (260,1):=⟨by kernel_rfl⟩
instance:T4 Tryz.prog 38 [Value.slice none 0 0] 1 true 24:=⟨by kernel_rfl⟩
instance tp_38:TP Tryz.prog 38 [(0,1)]:=⟨by kernel_rfl⟩
instance:T2 Tryz.prog 38 0 (0,1) false:=⟨by kernel_rfl⟩
instance:T4 Tryz.prog 40 [Value.slice none 0 0,Value.bool false] 2 true 32:=⟨by kernel_rfl⟩
instance tp_40:TP Tryz.prog 40 [(0,1),(1,1)]:=⟨by kernel_rfl⟩
instance:T2 Tryz.prog 40 0 (0,1) true:=⟨by kernel_rfl⟩
instance:T2 Tryz.prog 40 1 (1,1) false:=⟨by kernel_rfl⟩
instance:T4 Tryz.prog 42 [Value.slice none 0 0,Value.bool false,Value.slice none 0 0] 3 true 56:=⟨by kernel_rfl⟩
instance tp_42:TP Tryz.prog 42 [(0,2),(2,1)]:=⟨by kernel_rfl⟩
instance:T2 Tryz.prog 42 0 (0,2) true:=⟨by kernel_rfl⟩
instance:T2 Tryz.prog 42 1 (2,1) true:=⟨by kernel_rfl⟩
instance:T4 Tryz.prog 43 [Value.slice none 0 0] 1 false 24:=⟨by kernel_rfl⟩
instance te_43:TE Tryz.prog 43 (3,1):=⟨by kernel_rfl⟩
instance:T4 Tryz.prog 45 [Value.int IntKind.i64 0,Value.slice none 0 0] 2 true 32:=⟨by kernel_rfl⟩
instance tp_45:TP Tryz.prog 45 [(0,1),(1,1)]:=⟨by kernel_rfl⟩
instance:T2 Tryz.prog 45 0 (0,1) false:=⟨by kernel_rfl⟩
instance:T2 Tryz.prog 45 1 (1,1) false:=⟨by kernel_rfl⟩
instance:T4 Tryz.prog 47 [Value.int IntKind.i64 0,Value.slice none 0 0,Value.int IntKind.i64 0,Value.slice none 0 0] 4 true 64:=⟨by kernel_rfl⟩
instance tp_47:TP Tryz.prog 47 [(0,2),(2,2)]:=⟨by kernel_rfl⟩
instance:T2 Tryz.prog 47 0 (0,2) true:=⟨by kernel_rfl⟩
instance:T2 Tryz.prog 47 1 (2,2) true:=⟨by kernel_rfl⟩
instance:T4 Tryz.prog 51 [Value.slice none 0 0,Value.bool false,Value.slice none 0 0,Value.slice none 0 0,Value.bool false,Value.slice none 0 0] 6 true 112:=⟨by kernel_rfl⟩
instance tp_51:TP Tryz.prog 51 [(0,3),(3,3)]:=⟨by kernel_rfl⟩
instance:T2 Tryz.prog 51 0 (0,3) true:=⟨by kernel_rfl⟩
instance:T2 Tryz.prog 51 1 (3,3) true:=⟨by kernel_rfl⟩
instance:T4 Tryz.prog 53 [Value.int IntKind.i64 0,Value.slice none 0 0,Value.int IntKind.i64 0,Value.slice none 0 0,Value.int IntKind.i64 0,Value.slice none 0 0,Value.int IntKind.i64 0,Value.slice none 0 0] 8 true 128:=⟨by kernel_rfl⟩
instance tp_53:TP Tryz.prog 53 [(0,4),(4,4)]:=⟨by kernel_rfl⟩
instance:T2 Tryz.prog 53 0 (0,4) true:=⟨by kernel_rfl⟩
instance:T2 Tryz.prog 53 1 (4,4) true:=⟨by kernel_rfl⟩
instance:T4 Tryz.prog 61 [Value.slice none 0 0] 1 false 24:=⟨by kernel_rfl⟩
instance te_61:TE Tryz.prog 61 (42,3):=⟨by kernel_rfl⟩
instance:T4 Tryz.prog 62 [Value.slice none 0 0] 1 false 24:=⟨by kernel_rfl⟩
instance te_62:TE Tryz.prog 62 (42,3):=⟨by kernel_rfl⟩
instance:T4 Tryz.prog 65 [Value.slice none 0 0] 1 false 24:=⟨by kernel_rfl⟩
instance te_65:TE Tryz.prog 65 (85,2):=⟨by kernel_rfl⟩
instance:T4 Tryz.prog 76 [Value.slice none 0 0,Value.slice none 0 0] 2 true 48:=⟨by kernel_rfl⟩
instance tp_76:TP Tryz.prog 76 [(0,1),(1,1)]:=⟨by kernel_rfl⟩
instance:T2 Tryz.prog 76 0 (0,1) false:=⟨by kernel_rfl⟩
instance:T2 Tryz.prog 76 1 (1,1) false:=⟨by kernel_rfl⟩
instance:T4 Tryz.prog 77 [Value.slice none 0 0] 1 false 24:=⟨by kernel_rfl⟩
instance te_77:TE Tryz.prog 77 (47,4):=⟨by kernel_rfl⟩
instance:T4 Tryz.prog 78 [Value.slice none 0 0] 1 false 24:=⟨by kernel_rfl⟩
instance te_78:TE Tryz.prog 78 (47,4):=⟨by kernel_rfl⟩
instance:T4 Tryz.prog 80 [Value.slice none 0 0,Value.slice none 0 0] 2 true 48:=⟨by kernel_rfl⟩
instance tp_80:TP Tryz.prog 80 [(0,1),(1,1)]:=⟨by kernel_rfl⟩
instance:T2 Tryz.prog 80 0 (0,1) false:=⟨by kernel_rfl⟩
instance:T2 Tryz.prog 80 1 (1,1) false:=⟨by kernel_rfl⟩
instance:T4 Tryz.prog 85 [Value.slice none 0 0,Value.int IntKind.i64 0] 2 true 32:=⟨by kernel_rfl⟩
instance tp_85:TP Tryz.prog 85 [(0,1),(1,1)]:=⟨by kernel_rfl⟩
instance:T2 Tryz.prog 85 0 (0,1) false:=⟨by kernel_rfl⟩
instance:T2 Tryz.prog 85 1 (1,1) false:=⟨by kernel_rfl⟩
instance:T4 Tryz.prog 90 [Value.slice none 0 0,Value.slice none 0 0,Value.bool false,Value.slice none 0 0,Value.slice none 0 0] 5 true 104:=⟨by kernel_rfl⟩
instance tp_90:TP Tryz.prog 90 [(0,1),(1,3),(4,1)]:=⟨by kernel_rfl⟩
instance:T2 Tryz.prog 90 0 (0,1) false:=⟨by kernel_rfl⟩
instance:T2 Tryz.prog 90 1 (1,3) true:=⟨by kernel_rfl⟩
instance:T2 Tryz.prog 90 2 (4,1) false:=⟨by kernel_rfl⟩
instance:T4 Tryz.prog 94 [Value.slice none 0 0] 1 false 24:=⟨by kernel_rfl⟩
instance te_94:TE Tryz.prog 94 (62,1):=⟨by kernel_rfl⟩
instance:T4 Tryz.prog 115 [Value.slice none 0 0,Value.slice none 0 0] 2 true 48:=⟨by kernel_rfl⟩
instance tp_115:TP Tryz.prog 115 [(0,1),(1,1)]:=⟨by kernel_rfl⟩
instance:T2 Tryz.prog 115 0 (0,1) false:=⟨by kernel_rfl⟩
instance:T2 Tryz.prog 115 1 (1,1) false:=⟨by kernel_rfl⟩
instance:T4 Tryz.prog 121 [Value.slice none 0 0,Value.slice none 0 0,Value.bool false,Value.slice none 0 0,Value.slice none 0 0,Value.bool false,Value.slice none 0 0,Value.slice none 0 0,Value.bool false,Value.slice none 0 0] 10 true 192:=⟨by kernel_rfl⟩
instance tp_121:TP Tryz.prog 121 [(0,1),(1,3),(4,3),(7,3)]:=⟨by kernel_rfl⟩
instance:T2 Tryz.prog 121 0 (0,1) false:=⟨by kernel_rfl⟩
instance:T2 Tryz.prog 121 1 (1,3) true:=⟨by kernel_rfl⟩
instance:T2 Tryz.prog 121 2 (4,3) true:=⟨by kernel_rfl⟩
instance:T2 Tryz.prog 121 3 (7,3) true:=⟨by kernel_rfl⟩
instance:T4 Tryz.prog 134 [Value.nilFunc] 1 false 8:=⟨by kernel_rfl⟩
instance:T4 Tryz.prog 141 [Value.slice none 0 0] 1 false 24:=⟨by kernel_rfl⟩
instance te_141:TE Tryz.prog 141 (77,1):=⟨by kernel_rfl⟩
instance:T4 Tryz.prog 153 [Value.slice none 0 0,Value.slice none 0 0,Value.bool false,Value.slice none 0 0,Value.slice none 0 0,Value.slice none 0 0,Value.bool false,Value.slice none 0 0,Value.slice none 0 0,Value.bool false,Value.slice none 0 0] 11 true 216:=⟨by kernel_rfl⟩
instance tp_153:TP Tryz.prog 153 [(0,5),(5,6)]:=⟨by kernel_rfl⟩
instance:T2 Tryz.prog 153 0 (0,5) true:=⟨by kernel_rfl⟩
instance:T2 Tryz.prog 153 1 (5,6) true:=⟨by kernel_rfl⟩
instance:T4 Tryz.prog 154 [Value.slice none 0 0] 1 false 24:=⟨by kernel_rfl⟩
instance te_154:TE Tryz.prog 154 (61,1):=⟨by kernel_rfl⟩
instance:T4 Tryz.prog 155 [Value.slice none 0 0] 1 false 24:=⟨by kernel_rfl⟩
instance te_155:TE Tryz.prog 155 (61,1):=⟨by kernel_rfl⟩
instance:T4 Tryz.prog 157 [Value.slice none 0 0,Value.slice none 0 0,Value.int IntKind.i64 0] 3 true 56:=⟨by kernel_rfl⟩
instance tp_157:TP Tryz.prog 157 [(0,1),(1,1),(2,1)]:=⟨by kernel_rfl⟩
instance:T2 Tryz.prog 157 0 (0,1) false:=⟨by kernel_rfl⟩
instance:T2 Tryz.prog 157 1 (1,1) false:=⟨by kernel_rfl⟩
instance:T2 Tryz.prog 157 2 (2,1) false:=⟨by kernel_rfl⟩
instance:T4 Tryz.prog 161 [Value.nilFunc] 1 false 8:=⟨by kernel_rfl⟩
instance:T4 Tryz.prog 170 [Value.nilFunc] 1 false 8:=⟨by kernel_rfl⟩
instance:T4 Tryz.prog 179 [Value.nilFunc] 1 false 8:=⟨by kernel_rfl⟩
instance:T4 Tryz.prog 181 [Value.nilFunc] 1 false 8:=⟨by kernel_rfl⟩
instance:T4 Tryz.prog 188 [Value.nilFunc] 1 false 8:=⟨by kernel_rfl⟩
instance:T4 Tryz.prog 193 [Value.slice none 0 0] 1 false 24:=⟨by kernel_rfl⟩
instance te_193:TE Tryz.prog 193 (2,1):=⟨by kernel_rfl⟩
instance:T4 Tryz.prog 196 [Value.slice none 0 0,Value.bool false,Value.slice none 0 0,Value.slice none 0 0,Value.bool false,Value.slice none 0 0,Value.int IntKind.i64 0] 7 true 120:=⟨by kernel_rfl⟩
instance tp_196:TP Tryz.prog 196 [(0,6),(6,1)]:=⟨by kernel_rfl⟩
instance:T2 Tryz.prog 196 0 (0,6) true:=⟨by kernel_rfl⟩
instance:T2 Tryz.prog 196 1 (6,1) false:=⟨by kernel_rfl⟩
instance:T4 Tryz.prog 198 [Value.nilFunc] 1 false 8:=⟨by kernel_rfl⟩
instance:T4 Tryz.prog 202 [Value.pointer none] 1 false 8:=⟨by kernel_rfl⟩
instance:T4 Tryz.prog 203 [Value.slice none 0 0] 1 false 24:=⟨by kernel_rfl⟩
instance te_203:TE Tryz.prog 203 (5,1):=⟨by kernel_rfl⟩
instance:T4 Tryz.prog 205 [Value.pointer none,Value.slice none 0 0] 2 true 32:=⟨by kernel_rfl⟩
instance tp_205:TP Tryz.prog 205 [(0,1),(1,1)]:=⟨by kernel_rfl⟩
instance:T2 Tryz.prog 205 0 (0,1) false:=⟨by kernel_rfl⟩
instance:T2 Tryz.prog 205 1 (1,1) false:=⟨by kernel_rfl⟩
instance:T4 Tryz.prog 216 [Value.nilFunc] 1 false 8:=⟨by kernel_rfl⟩
instance:T4 Tryz.prog 220 [Value.pointer none] 1 false 8:=⟨by kernel_rfl⟩
instance:T4 Tryz.prog 223 [Value.slice none 0 0,Value.slice none 0 0,Value.int IntKind.i64 0] 3 true 56:=⟨by kernel_rfl⟩
instance tp_223:TP Tryz.prog 223 [(0,1),(1,1),(2,1)]:=⟨by kernel_rfl⟩
instance:T2 Tryz.prog 223 0 (0,1) false:=⟨by kernel_rfl⟩
instance:T2 Tryz.prog 223 1 (1,1) false:=⟨by kernel_rfl⟩
instance:T2 Tryz.prog 223 2 (2,1) false:=⟨by kernel_rfl⟩
instance:T4 Tryz.prog 232 [Value.slice none 0 0] 1 false 24:=⟨by kernel_rfl⟩
instance te_232:TE Tryz.prog 232 (78,1):=⟨by kernel_rfl⟩
instance:T4 Tryz.prog 237 [Value.nilFunc] 1 false 8:=⟨by kernel_rfl⟩
instance:T4 Tryz.prog 246 [Value.int IntKind.u64 0] 1 false 8:=⟨by kernel_rfl⟩
instance tu_246:TU Tryz.prog 246 (.int .u64):=⟨by kernel_rfl⟩
instance:T4 Tryz.prog 260 [Value.int IntKind.u32 0] 1 false 4:=⟨by kernel_rfl⟩
instance tu_260:TU Tryz.prog 260 (.int .u32):=⟨by kernel_rfl⟩
instance:T4 Tryz.prog 268 [Value.pointer none] 1 false 8:=⟨by kernel_rfl⟩
instance:T4 Tryz.prog 281 [Value.nilFunc] 1 false 8:=⟨by kernel_rfl⟩
instance:T4 Tryz.prog 286 [Value.nilFunc] 1 false 8:=⟨by kernel_rfl⟩
instance:T4 Tryz.prog 298 [Value.nilFunc] 1 false 8:=⟨by kernel_rfl⟩
instance:T4 Tryz.prog 302 [Value.pointer none] 1 false 8:=⟨by kernel_rfl⟩
instance:T4 Tryz.prog 304 [Value.pointer none,Value.int IntKind.i64 0] 2 true 16:=⟨by kernel_rfl⟩
instance tp_304:TP Tryz.prog 304 [(0,1),(1,1)]:=⟨by kernel_rfl⟩
instance:T2 Tryz.prog 304 0 (0,1) false:=⟨by kernel_rfl⟩
instance:T2 Tryz.prog 304 1 (1,1) false:=⟨by kernel_rfl⟩
instance:T4 Tryz.prog 306 [Value.pointer none] 1 false 8:=⟨by kernel_rfl⟩
instance:T4 Tryz.prog 310 [Value.int IntKind.u64 0] 1 false 8:=⟨by kernel_rfl⟩
instance tu_310:TU Tryz.prog 310 (.int .u64):=⟨by kernel_rfl⟩
instance:T4 Tryz.prog 329 [Value.nilFunc] 1 false 8:=⟨by kernel_rfl⟩
instance:T3 Tryz.prog 330 24 true 24:=⟨by kernel_rfl⟩
instance:T4 Tryz.prog 352 [Value.nilFunc] 1 false 8:=⟨by kernel_rfl⟩
instance:T3 Tryz.prog 355 20 true 160:=⟨by kernel_rfl⟩
instance:T3 Tryz.prog 356 65 true 65:=⟨by kernel_rfl⟩
instance:T3 Tryz.prog 371 32 true 32:=⟨by kernel_rfl⟩
instance:T3 Tryz.prog 372 64 true 64:=⟨by kernel_rfl⟩
abbrev FS:=FSpec Tryz.prog
theorem Gv(l:Ln):FS 132 [.agg [.arr (dE l)]] (bln (l.length==0)):=by
 refine f_n Tryz.func132 ?_ ?_;exact ae (aE (ae (dn l) af)) af;refine r_z 2 ?_;refine r_z 5 ?_;refine ai (aS rfl ?_ (ak _));simp only[bln,pc];congr 2;rw[Bool.eq_iff_iff];simp
theorem jp(l:Ln)(hl:l.length<=281474976710656):FS 196 [.arr (dE l)] (.agg [.arr (dE (fH l))]):=by
 refine f_n Tryz.func196 ?_ ?_;exact ae (dn l) af;refine r_z 1 ?_;refine r_z 3 ?_;refine bD (λk:Nat=>⟨[(0,.arr (dE l)),(2,.lptr 1 0 0),(3,i64 k)],[(1,some ⟨38,1,[[.emp]]⟩)],2,23⟩) (λk=>k<=l.length/\fH l=l.take k) ?_ ?_;refine ah (ay (λk:Nat=>⟨[(0,.arr (dE l)),(2,.lptr 1 0 0),(3,i64 k)],[(1,some ⟨38,1,[[.emp]]⟩)],2,23⟩) (λk=>k) (λk=>k<=l.length/\∀i,k<=i->i< l.length->l[i]?=some 0) l.length ⟨Nat.le_refl _,λi m g=>by omega⟩ ?_ ?_);exact s_e [];rintro k ⟨a,j⟩;have fin:k=0\/l[k- 1]?≠some 0->fH l=l.take k:=mH l k a j;by_cases h0:k=0;subst h0;refine ac (s_r 10 ?_);refine a_3 ?_;refine n_g rfl d_f ?_;refine n_g rfl d_f ?_;refine n_g rfl d_f ?_;refine n_g rfl d_f ?_;refine n_g rfl d_f ?_;refine n_g rfl d_f ?_;refine o_0 (.pickF rfl d_f rfl) ?_;refine aq ?_;refine ar rfl (λh=>?_) (λ_=>?_);cases h;refine ax ⟨0,⟨a,fin (.inl rfl)⟩,?_⟩;exact s_e [];have e:k- 1< l.length:=ω
 obtain⟨d,c⟩:∃d,l[k- 1]?=some d:=⟨_,List.getElem?_eq_getElem e⟩;have b:(dE l)[((k:Int)- 1).toNat]?=some [u32 d]:=by rw[show((k:Int)- 1).toNat=k- 1 by omega];exact eg c
 refine ac (s_r 10 ?_);refine a_3 ?_;refine y_g rfl d_t (.move rfl) ?_;refine y_g rfl d_t (.move rfl) ?_;refine y_g rfl d_t (.bin rfl rfl (ow ω)) ?_;refine y_g rfl d_t (.index_a rfl rfl ω b rfl te_36.h) ?_;refine y_g rfl d_t (.load_a1 rfl b TG.h rfl) ?_;refine y_g rfl d_t (.bin rfl rfl bJ) ?_;refine o_0 (.pickT rfl d_t rfl) ?_;refine aq ?_;refine ar rfl (λh=>?_) (λh=>?_);refine aj ?_;have f:d=0:=by simpa using h
 subst f;refine ah (r_m 3 ?_);refine a_z ?_;refine⟨k- 1,ω,⟨ω,λi m g=>?_⟩,?_⟩;by_cases hi:i=k- 1;rw[hi];exact c;exact j i ω g;exact s_e [];refine ax ⟨k,⟨a,fin (.inr ?_)⟩,?_⟩;rw[c];simp at h⊢;omega;exact s_e [];rintro k ⟨a,n⟩;refine s_r 6 ?_;refine a_3 ?_;refine o_0 (.sa_hm rfl rfl rfl rfl rfl ⟨Nat.le_refl _,by simpa using a⟩ te_36.h (A4 l)) ?_;refine a_z ?_;refine ai (ec rfl rfl rfl TG.h TS.h (nle rfl) ?_ (aE (ae (dn _) af)));rw[n,<-GV];rfl
theorem wT(z:Int):FS 246 [i64 z] (bln false):=by
 refine f_c Tryz.func246 ?_;refine r_z 1 ?_;refine r_z 4 ?_;refine ai (aS rfl ?_ (ak _));simp[bln]
theorem wS(z:Nat):FS 247 [u32 z] (bln false):=by
 refine f_c Tryz.func247 ?_;refine r_z 1 ?_;refine r_z 4 ?_;refine ai (aS rfl ?_ (ak _));simp[bln]
theorem AE(a b:Int):FS 197 [i64 a,i64 b] (i64 (fg a b)):=by
 refine f_c Tryz.func197 ?_;refine r_z 1 ?_;refine r_c 3 (wT a) ?_;refine a_z ?_;refine r_c 3 (wT b) ?_;refine a_z ?_;refine ac (r_z 1 ?_);refine ar rfl (λh=>?_) (λ_=>aj ?_);cases h;refine ac (r_z 1 ?_);refine ar rfl (λh=>?_) (λ_=>aj ?_);cases h;refine ac (r_z 3 ?_);refine ar rfl (λh=>?_) (λh=>aj ?_);refine r_z 1 ?_;refine ai (aS rfl ?_ (ak _));simp at h;simp[i64,ofV,fg,h];refine ac (r_z 3 ?_);refine ar rfl (λc=>?_) (λc=>aj ?_);refine r_z 1 ?_;refine ai (aS rfl ?_ (ak _));simp at h c;simp[i64,ofV,fg];omega;refine r_z 1 ?_;refine ai (aS rfl ?_ (ak _));simp at h c;simp[i64,ofV,fg];omega
theorem AD(a b:Nat):FS 198 [u32 a,u32 b] (i64 (fg a b)):=by
 refine f_c Tryz.func198 ?_;refine r_z 1 ?_;refine r_c 3 (wS a) ?_;refine a_z ?_;refine r_c 3 (wS b) ?_;refine a_z ?_;refine ac (r_z 1 ?_);refine ar rfl (λh=>?_) (λ_=>aj ?_);cases h;refine ac (r_z 1 ?_);refine ar rfl (λh=>?_) (λ_=>aj ?_);cases h;refine ac (r_z 3 ?_);refine ar rfl (λh=>?_) (λh=>aj ?_);refine r_z 1 ?_;refine ai (aS rfl ?_ (ak _));simp at h;simp[i64,ofV,fg,h];refine ac (r_z 3 ?_);refine ar rfl (λc=>?_) (λc=>aj ?_);refine r_z 1 ?_;refine ai (aS rfl ?_ (ak _));simp at h c;simp[i64,ofV,fg];omega;refine r_z 1 ?_;refine ai (aS rfl ?_ (ak _));simp at h c;simp[i64,ofV,fg];omega
theorem digs_one{n:Nat}:(aw MB n).length=1/\(aw MB n)[0]?=some 1↔n=1:=by
 constructor;rintro⟨c,a⟩;have:=bY (b:=MB) δ n
 match hd:aw MB n,c,a with
 |[d],_,a=>rw[hd] at this;simp at a;subst a;simpa[ofD] using this.symm
 rintro rfl;rw[eY δ δ];rw[show 1/ MB=0 by decide,cI];simp
theorem fs_one(n:Nat):FS 193 [.agg [mag n]] (bln (n==1)):=by
 refine f_c Tryz.func193 ?_;refine r_z 2 ?_;by_cases h1:(aw MB n).length=1;obtain⟨d,b⟩:∃d,(aw MB n)[0]?=some d:=⟨_,List.getElem?_eq_getElem ω⟩;have a:(dE (aw MB n))[(0:Int).toNat]?=some [u32 d]:=eg b;refine s_r 12 ?_;refine a_5 ?_;refine y_g rfl χ (.fieldAddr_l rfl TF.h δ) ?_;refine y_g rfl χ (.load_l1 rfl rfl rfl TG.h rfl) ?_;refine y_g rfl χ (.index_a rfl rfl ω a rfl te_36.h) ?_;refine y_g rfl χ (.load_a1 rfl a TG.h rfl) ?_;refine y_g rfl χ (.bin rfl rfl bJ) ?_;refine o_0 (.pickT rfl χ rfl) ?_;refine a_z ?_;refine ai (aS rfl ?_ (ak _));simp only[bln];congr 2;rw[Bool.eq_iff_iff];have:=digs_one (n:=n);simp only[h1,b,true_and,Option.some.injEq] at this;simp only[beq_iff_eq,<-this];omega;refine s_r 12 ?_;refine a_5 ?_;refine n_g rfl χ ?_;refine n_g rfl χ ?_;refine n_g rfl χ ?_;refine n_g rfl χ ?_;refine n_g rfl χ ?_;refine o_0 (.pickF rfl χ rfl) ?_;refine a_z ?_;refine ai (aS rfl ?_ (ak _));simp only[bln,ofV];congr 2;symm;rw[beq_eq_false_iff_ne];intro h;exact h1 (digs_one.2 h).1
def zF(n:Nat):Nat->AState
 |0=>⟨[(0,u64 n),(2,.lptr 1 0 0),(3,.emp)],[(1,some ⟨38,1,[[.emp]]⟩)],2,16⟩
 |k+1=>⟨[(0,u64 (lh n (k+1))),(2,.lptr 1 0 0),(3,.lsl 2 0 (k+1) none 1)],[(1,some ⟨38,1,[[.emp]]⟩),(2,some ⟨260,1,dE (xV n (k+1))⟩)],3,16⟩
theorem gV(n:Nat)(h:n< 18446744073709551616):FS 178 [u64 n] (.agg [mag n]):=by
 have g:(aw MB n).length<=3:=ft δ (Nat.lt_of_lt_of_le h δ);refine f_c Tryz.func178 ?_;refine r_z 1 ?_;refine r_z 1 ?_;refine bD (zF n) (λk=>k=(aw MB n).length) ?_ ?_;refine ah (ay (zF n) (λk=>(aw MB n).length- k) (λk=>k<=(aw MB n).length) 0 (Nat.zero_le _) ?_ ?_);rw[zF.eq_1];exact s_e [];rintro k e;have i:=Jh e;have m:=Ji e;have c:=nO e;cases k with
 |zero=>
  rw[v8] at m;refine ac (r_z 2 ?_);refine ar rfl (λh=>?_) (λh=>?_);refine aj ?_;have l:0< n:=by simpa using h
  have d:0< (aw MB n).length:=ω
  obtain⟨a,b⟩:=wa d;rw[v8] at a b;refine ac (ah (r_m 7 ?_));refine a_z ?_;refine r_m 3 ?_;refine a_z ?_;refine⟨1,ω,d,?_⟩;rw[zF.eq_2];refine s_x [(2,3)] (λhs=>?_) (λhs=>?_) ?_
  ·repeat' (first|exact aL|refine az rfl ?_ ?_|exact aW|(refine Cv.loE hs ?_ (ak _);first|rfl|(simp[i64,u64,u32,bln,a,b,ji];done)|(simp[i64,u64,u32,bln,a,b,ji]<;> omega)))
  ·repeat' (first|exact aB|refine h_c ?_ ?_|exact bG|(refine aJ hs ?_ (cf _);first|(simp[iX,mq,iY,a,b,ji];done)|(simp[dE,u32,ofV,a,b,ji];done))|refine aA ?_|exact av|refine am ?_ ?_|exact aW|(refine Cv.loE hs ?_ (ak _);first|(simp[i64,u64,u32,bln,a,b,ji];done)|(simp[i64,u64,u32,bln,a,b,ji]<;> omega)))
  ·repeat' (first|exact ShrL.nil|refine ShrL.cons rfl rfl rfl rfl (by first|rfl|(simp;done)|(simp[a,b,ji]<;> omega)) ?_)
  refine ax ⟨0,?_,?_⟩;have:¬0< n:=by simpa using h
  omega;rw[zF.eq_1];exact s_e []
 |succ k=>
  rw[zF.eq_2];refine ac (r_z 2 ?_);refine ar rfl (λh=>?_) (λh=>?_);refine aj ?_;have l:0< lh n (k+1):=by simpa using h
  have d:k+1< (aw MB n).length:=ω
  obtain⟨a,b⟩:=wa d;refine ac (ah (r_m 7 ?_));refine a_z ?_;refine r_m 3 ?_;refine a_z ?_;refine⟨k+1+1,ω,d,?_⟩;rw[zF.eq_2];refine s_x [(2,3)] (λhs=>?_) (λhs=>?_) ?_
  ·repeat' (first|exact aL|refine az rfl ?_ ?_|exact aW|(refine Cv.loE hs ?_ (ak _);first|rfl|(simp[i64,u64,u32,bln,a,b,c];done)|(simp[i64,u64,u32,bln,a,b,c]<;> omega)))
  ·repeat' (first|exact aB|refine h_c ?_ ?_|exact bG|(refine aJ hs ?_ (cf _);first|(simp[iX,mq,iY,a,b,c];done)|(simp[dE,u32,ofV,a,b,c];done))|refine aA ?_|exact av|refine am ?_ ?_|exact aW|(refine Cv.loE hs ?_ (ak _);first|(simp[i64,u64,u32,bln,a,b,c];done)|(simp[i64,u64,u32,bln,a,b,c]<;> omega)))
  ·repeat' (first|exact ShrL.nil|refine ShrL.cons rfl rfl rfl rfl (by first|rfl|(simp;done)|(simp[a,b,c]<;> omega)) ?_)
  refine ax ⟨k+1,?_,?_⟩;have:¬0< lh n (k+1):=by simpa using h
  omega;rw[zF.eq_2];exact s_e []
 rintro k rfl;cases e:(aw MB n).length with
 |zero=>
  rw[zF.eq_1];refine r_z 3 ?_;refine ai (Fin.cell rfl rfl rfl TG.h TS.h (nle rfl) (Cv.agg (am (Cv.emp _ ?_) av)));unfold mag;rw[List.length_eq_zero_iff] at e;rw[e];rfl
 |succ k=>
  rw[zF.eq_2];refine r_z 3 ?_;refine ai (Fin.cell rfl rfl rfl TG.h TS.h (nle rfl) (Cv.agg (am (Cv.shut aF rfl (λ_ _ h=>by cases h) ?_ ?_) av)));simp[nO (Nat.le_of_eq e.symm)];refine aJ aF ?_ (cf _);have j:(xV n (k+1)).length=k+1:=nO (Nat.le_of_eq e.symm);have f:=Jv n;rw[e] at f;simp only[List.drop_zero,GV];rw[List.take_of_length_le (Nat.le_of_eq j),f]
def Jw(p:Nat)(q:Nat):Ln×Nat->AState
 |(s,c)=>⟨[(26,i64 s.length),(25,i64 (aw MB p).length),(24,mag p),(2,.lptr 1 0 0),(3,.lptr 2 0 0),(4,.lptr 3 0 0),(5,.lsl 4 0 ((aw MB p).length+1) (some ((aw MB p).length+1)) 1),(6,u32 c)],
  [(1,some ⟨38,1,[[mag p]]⟩),(2,some ⟨38,1,[[mag q]]⟩),(3,some ⟨38,1,[[.emp]]⟩),(4,some ⟨260,1,dE (s++List.replicate ((aw MB p).length+1- s.length) 0)⟩)],5,63⟩
structure PlusI (p q:Nat)(a:Ln×Nat):Prop where
 le:a.1.length<=(aw MB p).length
 dig:∀d∈a.1,d< MB
 car:a.2<=1
 val:ofD MB a.1+MB^ a.1.length* a.2=ofD MB ((aw MB p).take a.1.length)+ofD MB ((aw MB q).take a.1.length)
theorem Aq(a b:Nat)(h:bl a+bl b<=17592186044416):FS 191 [.agg [mag a],.agg [mag b]] (.agg [mag (a+b)]):=by
 have hla:=b8 (b:=MB) δ a;have hlb:=b8 (b:=MB) δ b;refine f_c Tryz.func191 ?_;refine r_z 3 ?_;refine ac (r_z 7 ?_)
 refine aC (λx:Nat×Nat=>⟨[(2,.lptr 1 0 0),(3,.lptr 2 0 0),(4,.lptr 3 0 0)],[(1,some ⟨38,1,[[mag x.1]]⟩),(2,some ⟨38,1,[[mag x.2]]⟩),(3,some ⟨38,1,[[.emp]]⟩)],4,63⟩)
  (λx=>x.1+x.2=a+b/\(aw MB x.2).length<=(aw MB x.1).length/\(aw MB x.1).length<=17592186044416) ?_ ?_
 refine ar rfl (λh=>?_) (λh=>?_);refine r_m 4 ?_;refine a_z ?_;refine⟨(b,a),⟨χ,?_,χ⟩,?_⟩;simp at h;simp;omega;exact s_e [];refine aj ⟨(a,b),⟨rfl,?_,χ⟩,?_⟩;simp at h;simpa using h;exact s_e [];rintro⟨p,q⟩ ⟨hpq,hqp,hp⟩;simp only at hpq hqp hp⊢;refine r_z 6 ?_;refine r_z 1 ?_;refine ac (r_z 4 ?_);refine aC (Jw p q) (λx=>PlusI p q x/\x.1.length=(aw MB p).length) ?_ ?_;refine ah (ay (Jw p q) (λx=>(aw MB p).length- x.1.length) (PlusI p q) ([],0) ⟨ψ,ψ,ψ,by simp[ofD]⟩ ?_ ?_);rw[Jw.eq_1];exact s_e [(4,5)];rintro⟨s,c⟩ ⟨hle,hdig,hcar,hval⟩;simp only at hle hdig hcar hval;rw[Jw.eq_1];refine r_z 1 ?_;refine ac (ar rfl (λh=>?_) (λh=>?_));refine aj ?_;have hlt:s.length< (aw MB p).length:=by simpa using h
 obtain⟨x,hx⟩:∃x,(aw MB p)[s.length]?=some x:=⟨_,List.getElem?_eq_getElem hlt⟩;have hx1:x< 1000000000:=da δ hx;have hx':(dE (aw MB p))[((s.length:Nat):Int).toNat]?=some [u32 x]:=eg hx;refine ac (ah (s_r 5 ?_));refine a_1 ?_;refine i_x hx' ?_;refine l_1 hx' ?_;refine a_z ?_;refine r_z 4 ?_;refine ac (r_z 5 ?_)
 have hq0:∀y,((aw MB q)[s.length]?.getD 0=y)->y< 1000000000:=by
  rintro y rfl;cases hy:(aw MB q)[s.length]? with
  |none=>decide
  |some y=>exact da δ hy
 refine aC (λv:Nat=>⟨[(26,i64 s.length),(25,i64 (aw MB p).length),(24,mag p),(2,.lptr 1 0 0),(3,.lptr 2 0 0),(4,.lptr 3 0 0),(5,.lsl 4 0 ((aw MB p).length+1) (some ((aw MB p).length+1)) 1),(7,i64 s.length),(8,u32 v)],
  [(1,some ⟨38,1,[[mag p]]⟩),(2,some ⟨38,1,[[mag q]]⟩),(3,some ⟨38,1,[[.emp]]⟩),(4,some ⟨260,1,dE (s++List.replicate ((aw MB p).length+1- s.length) 0)⟩)],5,63⟩)
  (λv=>v=x+c+(aw MB q)[s.length]?.getD 0) ?_ ?_
 refine ar rfl (λh=>?_) (λh=>?_);have hlt2:s.length< (aw MB q).length:=by simpa using h
 obtain⟨y,hy⟩:∃y,(aw MB q)[s.length]?=some y:=⟨_,List.getElem?_eq_getElem hlt2⟩;have hy1:y< 1000000000:=da δ hy;have hy':(dE (aw MB q))[((s.length:Nat):Int).toNat]?=some [u32 y]:=eg hy;refine r_m 8 ?_;refine a_4 ?_;refine i_x hy' ?_;refine l_1 hy' ?_;refine a_z ?_;refine⟨x+c+y,by rw[hy];rfl,?_⟩;exact s_e [];have hlt2:¬s.length< (aw MB q).length:=by simpa using h
 refine aj ⟨x+c,by rw[List.getElem?_eq_none ω];rfl,?_⟩;exact s_e [];rintro v hv;obtain⟨y,hy⟩:∃y,y=(aw MB q)[s.length]?.getD 0:=⟨_,rfl⟩;have hy1:=hq0 y hy.symm;rw[<-hy] at hv;refine r_z 1 ?_;refine ac (r_z 2 ?_)
 have hg:(dE (s++List.replicate ((aw MB p).length+1- s.length) 0))[0+((s.length:Nat):Int).toNat]?=some [u32 0]:=by
  rw[Nat.zero_add,Int.toNat_natCast];exact eg (by rw[show(aw MB p).length+1- s.length=((aw MB p).length- s.length)+1 by omega];exact B1 _ _ _ rfl)
 have hset:∀w:Nat,(dE (s++List.replicate ((aw MB p).length+1- s.length) 0)).set (0+((s.length:Nat):Int).toNat) [u32 w]=dE ((s++[w])++List.replicate ((aw MB p).length+1- (s++[w]).length) 0):=by
  intro w;rw[Nat.zero_add,Int.toNat_natCast,iX,show(aw MB p).length+1- s.length=((aw MB p).length- s.length)+1 by omega,Bu _ _ _ _ rfl,show(aw MB p).length+1- (s++[w]).length=(aw MB p).length- s.length by simp]
 have hnext:∀w c',w+1000000000* c'=x+c+y->w< 1000000000->c'<=1->PlusI p q (s++[w],c'):=by
  intro w c' hw hwb hc';refine⟨χ,?_,hc',?_⟩;intro d hd;rcases List.mem_append.1 hd with hd|hd
  exact hdig d hd;simp at hd;subst hd;exact hwb;simp only[List.length_append,List.length_singleton];rw[iM,dp _ hx,fm,<-hy,Nat.pow_succ];have e:MB^ s.length* w+MB^ s.length* MB* c'=MB^ s.length* (w+MB* c'):=by rw[Nat.mul_add,Nat.mul_assoc]
  have e2:MB^ s.length* (x+c+y)=MB^ s.length* x+MB^ s.length* c+MB^ s.length* y:=by rw[Nat.mul_add,Nat.mul_add]
  rw[hw,e2] at e;omega
 refine ar rfl (λh=>?_) (λh=>?_);have hb:1000000000<=v:=by have:=of_decide_eq_true h;omega
 have hv1:((v:Int)- 1000000000)=((v- 1000000000:Nat):Int):=ω
 refine r_m 4 ?_;refine a_z ?_;refine r_m 5 ?_;refine a_4 ?_;refine fN (.store rfl rfl hg rfl rfl rfl TS.h (nle rfl)) ?_;refine aq ?_;refine r_m 2 ?_;refine a_z ?_;refine⟨(s++[v- 1000000000],1),χ,hnext _ _ ω ω (Nat.le_refl _),?_⟩;rw[Jw.eq_1];exact s_x [] (λhs=>dD) (λhs=>e_25);have hb:v< 1000000000:=by have:=of_decide_eq_false h;omega
 refine aj (r_m 5 ?_);refine a_4 ?_;refine fN (.store rfl rfl hg rfl rfl rfl TS.h (nle rfl)) ?_;refine aq ?_;refine r_m 2 ?_;refine a_z ?_;refine⟨(s++[v],0),χ,hnext _ _ ω hb ω,?_⟩;rw[Jw.eq_1];exact s_x [] (λhs=>dD) (λhs=>e_26);refine ax ⟨(s,c),⟨⟨hle,hdig,hcar,hval⟩,?_⟩,?_⟩;simp at h;simp;omega;rw[Jw.eq_1];exact s_e [];rintro⟨s,c⟩ ⟨⟨hle,hdig,hcar,hval⟩,hlen⟩;simp only at hle hdig hcar hval hlen
 have hg:(dE (s++List.replicate ((aw MB p).length+1- s.length) 0))[0+(((aw MB p).length:Nat):Int).toNat]?=some [u32 0]:=by
  rw[Nat.zero_add,Int.toNat_natCast,<-hlen];exact eg (by rw[show s.length+1- s.length=0+1 by omega];exact B1 _ _ _ rfl)
 have hset:(dE (s++List.replicate ((aw MB p).length+1- s.length) 0)).set (0+(((aw MB p).length:Nat):Int).toNat) [u32 c]=dE (s++[c]):=by
  rw[Nat.zero_add,Int.toNat_natCast,<-hlen,iX,show s.length+1- s.length=0+1 by omega,Bu _ _ _ _ rfl];simp
 have hres:fH (s++[c])=aw MB (a+b):=by
  rw[kH (b:=MB) δ,iM,hval,iL _ ω,iL _ ω,bY δ,bY δ,hpq];intro d hd;rcases List.mem_append.1 hd with hd|hd
  exact hdig d hd;simp at hd;subst hd;show d< 1000000000;omega
 rw[Jw.eq_1];refine s_r 7 ?_;refine a_6 ?_;refine fN (.store rfl rfl hg rfl rfl rfl TS.h (nle rfl)) ?_;refine aq ?_;refine AWp.ent (st':=⟨[(4,.lptr 3 0 0),(5,.arr (dE (s++[c])))],[(3,some ⟨38,1,[[.emp]]⟩)],4,63⟩) ?_ ?_;refine s_x [] (λhs=>?_) (λhs=>?_)
 ·repeat' (first|exact aL|refine az rfl ?_ ?_|exact Cv.sealE hs rfl (aG rfl) hset (by simp[hlen]) (cf _)|exact aW)
 ·repeat' (first|exact aB|refine h_c ?_ ?_|exact bG|refine aA ?_|exact av|refine am ?_ ?_|exact Cv.sealE hs rfl (aG rfl) hset (by simp[hlen]) (cf _)|exact aW)
 refine s_r 3 ?_;refine o_0 (.move rfl) ?_;refine o_0 (.call rfl rfl rfl (jp _ χ)) ?_;refine a_z ?_;refine ai (ec rfl rfl rfl TG.h TS.h (nle rfl) ?_ (aE (ae (cr _) af)));rw[hres];rfl
def agS(a:Nat)(b:Nat):Nat->AState
 |k=>⟨[(2,.lptr 1 0 0),(3,.lptr 2 0 0),(6,i64 ((k:Int)- 1))],[(1,some ⟨38,1,[[mag a]]⟩),(2,some ⟨38,1,[[mag b]]⟩)],3,40⟩
theorem pQ(a b:Nat)(h:bl a+bl b<=17592186044416):FS 110 [.agg [mag a],.agg [mag b]] (i64 (fg a b)):=by
 have s:=b8 (b:=MB) δ a;have t:=b8 (b:=MB) δ b;refine f_c Tryz.func110 ?_;refine r_z 3 ?_;refine ac (r_c 8 (AE _ _) ?_);refine a_z ?_;refine r_z 2 ?_;refine ar rfl (λh=>?_) (λh=>?_);have c:fg (aw MB a).length (aw MB b).length≠0:=by simpa using h
 refine r_z 2 ?_;refine ai (aS rfl ?_ (ak _));unfold i64;congr 2;rw[vk] at c;rcases Nat.lt_or_ge (aw MB a).length (aw MB b).length with g|g
 have:=kw δ g;rw[nq ω,nq ω];have:=kw (m:=b) (n:=a) (b:=MB) δ ω;rw[ph ω,ph ω]
 have heq:(aw MB a).length=(aw MB b).length:=by
  have q:¬fg (aw MB a).length (aw MB b).length≠0:=by simpa using h
  rw[vk] at q;omega
 refine aj (ac (r_z 5 ?_));refine aC (agS a b) (λk=>k=0/\a=b) ?_ ?_;refine ah (ay (agS a b) (λk=>k) (λk=>k<=(aw MB a).length/\(aw MB a).drop k=(aw MB b).drop k) (aw MB a).length ⟨Nat.le_refl _,by rw[List.drop_length,heq,List.drop_length]⟩ ?_ ?_);rw[agS.eq_1];exact s_e [];rintro k ⟨u,d⟩;rw[agS.eq_1];refine ac (r_z 2 ?_);refine ar rfl (λh=>?_) (λh=>?_);have f:0< k:=by have:=of_decide_eq_true h;omega
 obtain⟨x,l⟩:∃x,(aw MB a)[k- 1]?=some x:=⟨_,List.getElem?_eq_getElem ω⟩;obtain⟨y,j⟩:∃y,(aw MB b)[k- 1]?=some y:=⟨_,List.getElem?_eq_getElem ω⟩;have e:(dE (aw MB a))[((k:Int)- 1).toNat]?=some [u32 x]:=by rw[show((k:Int)- 1).toNat=k- 1 by omega];exact eg l
 have i:(dE (aw MB b))[((k:Int)- 1).toNat]?=some [u32 y]:=by rw[show((k:Int)- 1).toNat=k- 1 by omega];exact eg j
 rw[show k=(k- 1)+1 by omega] at d;refine aj (ac (ah (ac (r_d aX 12 ?_))));refine a_3 ?_;refine i_x e ?_;refine l_1 e ?_;refine a_3 ?_;refine i_x i ?_;refine l_1 i ?_;refine c_s (AD x y) ?_;refine a_1 ?_;refine aq (n_k ?_);refine r_z 2 ?_;refine ar rfl (λo=>?_) (λo=>?_);have c:fg x y≠0:=by simpa using o
 refine r_z 2 ?_;refine ai (aS rfl ?_ (ak _));unfold i64;congr 2;rw[vk] at c;rcases Nat.lt_or_ge x y with g|g
 have:=oW (b:=MB) (dU δ a) l j d g;rw[bY δ,bY δ] at this;rw[nq ω,nq ω];have:=oW (b:=MB) (dU δ b) j l d.symm ω;rw[bY δ,bY δ] at this;rw[ph ω,ph ω]
 have r:x=y:=by
  have q:¬fg x y≠0:=by simpa using o
  rw[vk] at q;omega
 refine aj (r_m 3 ?_);refine a_z ?_;refine⟨k- 1,ω,⟨ω,?_⟩,?_⟩;rw[gD l,gD j,d,r];rw[agS.eq_1];exact s_e [];have f:k=0:=by have:=of_decide_eq_false h;omega
 subst f;refine ax ⟨0,⟨rfl,?_⟩,?_⟩;have:=congrArg (ofD MB) d;rwa[List.drop_zero,List.drop_zero,bY δ,bY δ] at this;rw[agS.eq_1];exact s_e [];rintro k ⟨rfl,p⟩;rw[agS.eq_1];refine r_z 1 ?_;refine ai (aS rfl ?_ (ak _));subst p;rw[GZ rfl];rfl
end Go.Proofs.YtjmkjicckobojaaGreatDoor
