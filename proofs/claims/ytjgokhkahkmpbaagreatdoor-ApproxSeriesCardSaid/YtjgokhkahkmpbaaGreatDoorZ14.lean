/- Part Z14 of the proof. -/
import Derived.Test.YtjgokhkahkmpbaaGreatDoorZ13
set_option linter.all false
namespace Go.Abs
set_option maxRecDepth 20000
section
variable {c n r:Nat}{M A:Mx}{x:Nat→Rat}{L:Ln}
def scM(M:Mx)(r:Nat)(f:Rat):Mx:=fun i j=>if i=r then M i j* f else M i j
def rdM(M:Mx)(r k:Nat):Mx:=fun i j=>if i=r then M i j else M i j- M i k* M r j
theorem Em(f:Nat→Rat)(u:Rat):∀n,sQ (fun j=>f j* u) n=sQ f n* u
 |0=>by rw[sQ,sQ];grind
 |n+1=>by rw[sQ,sQ,Em f u n];grind
theorem BH{c:Rat}{k p:Nat}(hk:k< n)(hp:p< n):Sol c (swM M k p) n x↔Sol c M n x:=by
 refine⟨zP hk hp,fun h=>?_⟩;refine zP (k:=k) (p:=p) hk hp fun i hi=>?_
 have e:∀j,swM (swM M k p) k p i j=M i j:=fun j=>by
  unfold swM;by_cases h1:i=k;subst h1;by_cases h2:p=i;subst h2;simp;simp[h2];by_cases h2:i=p;subst h2;simp[h1];simp[h1,h2]
 rw[e,c6 (g:=fun j=>M i j* x j) n fun j _=>by rw[e]];exact h i hi
theorem sol_sc{c f:Rat}(hf:f≠0):Sol c (scM M r f) n x↔Sol c M n x:=by
 have key:∀i,(sQ (fun j=>scM M r f i j* x j) n=c* scM M r f i n)↔(sQ (fun j=>M i j* x j) n=c* M i n):=fun i=>by
  unfold scM;by_cases e:i=r;simp only[if_pos e];rw[c6 (g:=fun j=>M i j* x j* f) n fun j _=>by grind,Em];generalize sQ (fun j=>M i j* x j) n=s;constructor;intro h;have h2:f* (s- c* M i n)=0:=by grind
  rcases Rat.mul_eq_zero.1 h2 with g|g
  exact absurd g hf;grind;intro h;rw[h];grind;simp only[if_neg e]
 exact⟨fun h i hi=>(key i).1 (h i hi),fun h i hi=>(key i).2 (h i hi)⟩
theorem sol_rd{c:Rat}{k:Nat}(hr:r< n):Sol c (rdM M r k) n x↔Sol c M n x:=by
 have e0:∀j,rdM M r k r j=M r j:=fun j=>if_pos rfl;have e1:∀i j,i≠r→rdM M r k i j=M i j- M i k* M r j:=fun i j h=>if_neg h
 have s1:∀i,i≠r→sQ (fun j=>rdM M r k i j* x j) n=sQ (fun j=>M i j* x j) n- M i k* sQ (fun j=>M r j* x j) n:=fun i h=>by
  rw[←re];exact c6 n fun j _=>by rw[e1 i j h];grind
 have s0:sQ (fun j=>rdM M r k r j* x j) n=sQ (fun j=>M r j* x j) n:=c6 n fun j _=>by rw[e0]
 constructor;intro h i hi;have h0:=h r hr;rw[s0,e0] at h0;by_cases e:i=r;rw[e];exact h0;have h1:=h i hi;rw[s1 i e,e1 i n e,h0] at h1;grind;intro h i hi;have h0:=h r hr;by_cases e:i=r;rw[e,s0,e0];exact h0;rw[s1 i e,e1 i n e,h0,h i hi];grind
def pvR(M:Mx)(n r c:Nat):Option Nat:=(List.range n).find? fun p=>decide (r≤p∧M p c≠0)
theorem lr{p:Nat}(h:pvR M n r c=some p):p< n∧r≤p∧M p c≠0:=by
 have h1:=List.find?_some h;have h2:=List.mem_of_find?_eq_some h;grind
theorem EM(h:pvR M n r c=none):∀i,i< n→r≤i→M i c=0:=fun i hi hk=>by
 have h1:=List.find?_eq_none.1 h i (List.mem_range.2 hi);grind
def slC(A:Mx)(n:Nat)(L:Ln)(c:Nat):Mx×Ln:=match pvR A n L.length c with
 |none=>(A,L)
 |some p=>(rdM (scM (swM A L.length p) L.length (1/ A p c)) L.length c,L++[c])
def slM(M:Mx)(n:Nat):Nat→Mx×Ln
 |0=>(M,[])
 |c+1=>slC (slM M n c).1 n (slM M n c).2 c
structure Ech (A:Mx)(n c:Nat)(L:Ln):Prop where
 len:L.length≤c
 len2:L.length≤n
 lt:∀(i l:Nat),L[i]?=some l→l< c
 inc:∀(i j l m:Nat),L[i]?=some l→L[j]?=some m→i< j→l< m
 one:∀(i l k:Nat),L[i]?=some l→k< n→A k l=if k=i then 1 else 0
 low:∀(i l j:Nat),L[i]?=some l→j< l→A i j=0
 rest:∀i j,L.length≤i→i< n→j< c→A i j=0
theorem Ech.step(h:Ech A n c L):Ech (slC A n L c).1 n (c+1) (slC A n L c).2:=by
 unfold slC;cases e:pvR A n L.length c with
 |none=>
  show Ech A n (c+1) L;refine⟨by have:=h.len;omega,h.len2,fun i l hl=>by have:=h.lt i l hl;omega,h.inc,h.one,h.low,fun i j h1 h2 h3=>?_⟩;by_cases e2:j=c;rw[e2];exact EM e i h2 h1;exact h.rest i j h1 h2 (by omega)
 |some p=>
  obtain⟨p1,p2,p3⟩:=lr e;show Ech (rdM (scM (swM A L.length p) L.length (1/ A p c)) L.length c) n (c+1) (L++[c]);have hr:L.length< n:=by omega
  have hL:∀i l,L[i]?=some l→i< L.length:=fun i l hl=>(List.getElem?_eq_some_iff.1 hl).1
  -- the rows after the exchange
  have sw1:∀i j,i< L.length→swM A L.length p i j=A i j:=fun i j hi=>by unfold swM;rw[if_neg (by omega),if_neg (by omega)]
  have swr:∀j,swM A L.length p L.length j=A p j:=fun j=>by unfold swM;rw[if_pos rfl]
  have sw2:∀i j,L.length≤i→i< n→j< c→swM A L.length p i j=0:=fun i j h1 h2 h3=>by
   unfold swM;split;exact h.rest p j p2 p1 h3;split;exact h.rest _ j (Nat.le_refl _) hr h3;exact h.rest i j h1 h2 h3
  have swl:∀i l k,L[i]?=some l→k< n→swM A L.length p k l=if k=i then 1 else 0:=fun i l k hl hk=>by
   by_cases g:k< L.length;rw[sw1 k l g];exact h.one i l k hl hk;have:=hL i l hl;rw[sw2 k l (by omega) hk (h.lt i l hl),if_neg (by omega)]
  generalize hB:swM A L.length p=B at *
  have sc0:∀i j,i≠L.length→scM B L.length (1/ A p c) i j=B i j:=fun i j g=>if_neg g;have scr:∀j,scM B L.length (1/ A p c) L.length j=B L.length j* (1/ A p c):=fun j=>if_pos rfl
  have lead:scM B L.length (1/ A p c) L.length c=1:=by
   rw[scr,swr];have:=Rat.div_mul_cancel (a:=1) p3;grind
  have scz:∀j,j< c→scM B L.length (1/ A p c) L.length j=0:=fun j hj=>by rw[scr,sw2 _ j (Nat.le_refl _) hr hj];grind
  generalize hC:scM B L.length (1/ A p c)=C at *
  have rd0:∀j,rdM C L.length c L.length j=C L.length j:=fun j=>if_pos rfl;have rd1:∀i j,i≠L.length→rdM C L.length c i j=C i j- C i c* C L.length j:=fun i j g=>if_neg g
  have snoc:∀i l,(L++[c])[i]?=some l→(i< L.length∧L[i]?=some l)∨(i=L.length∧l=c):=fun i l hl=>by
   rw[List.getElem?_append] at hl;split at hl
   ·rename_i g;exact .inl ⟨g,hl⟩
   ·rename_i g
    have:i- L.length=0:=by
     have:=(List.getElem?_eq_some_iff.1 hl).1;simp at this;omega
    rw[this] at hl;cases hl;exact .inr ⟨by omega,rfl⟩
  refine⟨by have:=h.len;simp;omega,by simp;omega,fun i l hl=>?_,fun i j l m hl hm hij=>?_,fun i l k hl hk=>?_,fun i l j hl hj=>?_,fun i j h1 h2 h3=>?_⟩;rcases snoc i l hl with⟨_,g⟩|⟨_,g⟩
  have:=h.lt i l g;omega;omega;rcases snoc i l hl with⟨a1,g⟩|⟨a1,g⟩<;> rcases snoc j m hm with⟨b1,g'⟩|⟨b1,g'⟩
  exact h.inc i j l m g g' hij;rw[g'];exact h.lt i l g;omega;omega;rcases snoc i l hl with⟨a1,g⟩|⟨a1,g⟩
  by_cases e1:k=L.length;subst e1;rw[rd0,scz l (h.lt i l g),if_neg (by omega)];rw[rd1 k l e1,sc0 k l e1,swl i l k g hk,scz l (h.lt i l g)];grind;subst a1 g;by_cases e1:k=L.length;rw[if_pos e1,e1,rd0,lead];rw[if_neg e1,rd1 k l e1,lead];grind;rcases snoc i l hl with⟨a1,g⟩|⟨a1,g⟩
  have hlc:=h.lt i l g;rw[rd1 i j (by omega),sc0 i j (by omega),sw1 i j a1,h.low i l j g hj,scz j (by omega)];grind;subst a1 g;rw[rd0,scz j hj];grind
theorem slC_sol{c0:Rat}:Sol c0 (slC A n L c).1 n x↔Sol c0 A n x:=by
 unfold slC;cases e:pvR A n L.length c with
 |none=>exact Iff.rfl
 |some p=>
  obtain⟨p1,p2,p3⟩:=lr e
  have hf:1/ A p c≠0:=fun g=>by
   have:=Rat.div_mul_cancel (a:=1) p3;rw[g] at this;grind
  exact(sol_rd (by omega)).trans ((sol_sc hf).trans (BH (by omega) p1))
theorem nN(M:Mx)(n:Nat):∀c,Ech (slM M n c).1 n c (slM M n c).2
 |0=>⟨Nat.le_refl _,Nat.zero_le _,fun i l h=>by simp[slM] at h,fun i j l m h=>by simp[slM] at h,fun i l k h=>by simp[slM] at h,fun i l j h=>by simp[slM] at h,fun i j _ _ h=>by omega⟩
 |c+1=>(nN M n c).step
theorem qZ{c0:Rat}{M:Mx}{n:Nat}{x:Nat→Rat}:∀c,Sol c0 (slM M n c).1 n x↔Sol c0 M n x
 |0=>Iff.rfl
 |c+1=>slC_sol.trans (qZ c)
theorem Ech.row(h:Ech A n n L)(hx:∀j,j< n→j∉L→x j=0){i l:Nat}(hl:L[i]?=some l):sQ (fun j=>A i j* x j) n=x l:=by
 have hi:i< n:=Nat.lt_of_lt_of_le (List.getElem?_eq_some_iff.1 hl).1 h.len2;have hl2:=h.lt i l hl;rw[c6 (g:=fun j=>if j=l then x l else 0) n fun j hj=>?_,jC,if_pos hl2];by_cases e:j=l;rw[if_pos e,e,h.one i l i hl hi,if_pos rfl];grind;rw[if_neg e];by_cases g:j∈L;obtain⟨k,hk⟩:=List.getElem?_of_mem g;rw[h.one k j i hk hi,if_neg (fun e'=>e (by rw[e',hk] at hl;cases hl;rfl))];grind;rw[hx j hj g];grind
def oneX(A:Mx)(n:Nat)(L:Ln)(j:Nat):Rat:=if L.contains j then A (L.idxOf j) n else 0
theorem Ech.idx(h:Ech A n c L){i l:Nat}(hl:L[i]?=some l):L.idxOf l=i:=by
 have hm:=List.mem_of_getElem? hl;have h2:L[L.idxOf l]?=some l:=by grind
 by_cases e1:L.idxOf l< i;have:=h.inc _ _ _ _ h2 hl e1;omega;by_cases e2:i< L.idxOf l;have:=h.inc _ _ _ _ hl h2 e2;omega;omega
theorem Ech.oneX(h:Ech A n n L)(h0:∀i,L.length≤i→i< n→A i n=0):Sol 1 A n (Abs.oneX A n L):=fun i hi=>by
 have hx:∀j,j< n→j∉L→Abs.oneX A n L j=0:=fun j _ g=>by unfold Abs.oneX;rw[if_neg (by simpa using g)]
 by_cases g:i< L.length;have hl:L[i]?=some L[i]:=List.getElem?_eq_getElem g;rw[h.row hx hl];unfold Abs.oneX;rw[if_pos (by simp),h.idx hl];grind;rw[h0 i (by omega) hi,c6 (g:=fun j=>if j=n then 0 else 0) n fun j hj=>by rw[h.rest i j (by omega) hi hj];grind,jC];split <;> grind
def zerX(A:Mx)(L:Ln)(f j:Nat):Rat:=if L.contains j then -A (L.idxOf j) f else if j=f then 1 else 0
theorem Ech.zerX(h:Ech A n n L){f:Nat}(hf:f< n)(hfL:f∉L):Sol 0 A n (Abs.zerX A L f):=fun i hi=>by
 -- split into the part on the leads and the free number
 have e1:∀j,j< n→A i j* Abs.zerX A L f j=A i j* (if L.contains j then -A (L.idxOf j) f else 0)+(if j=f then A i f else 0):=fun j hj=>by
  unfold Abs.zerX;by_cases g:j∈L;rw[if_pos (by simpa using g),if_pos (by simpa using g),if_neg (fun(e:j=f)=>hfL (by rw[←e];exact g))];grind;rw[if_neg (show¬L.contains j=true by simpa using g),if_neg (show¬L.contains j=true by simpa using g)];by_cases e:j=f;rw[if_pos e,if_pos e,e];grind;rw[if_neg e,if_neg e];grind
 rw[c6 n e1,zV,jC,if_pos hf]
 have hx:∀j,j< n→j∉L→(fun j=>if L.contains j then -A (L.idxOf j) f else 0) j=(0:Rat):=fun j _ g=>by
  show(if L.contains j then _ else _)=_;rw[if_neg (by simpa using g)]
 by_cases g:i< L.length;have hl:L[i]?=some L[i]:=List.getElem?_eq_getElem g;rw[h.row hx hl];show(if L.contains L[i]=true then -A (L.idxOf L[i]) f else 0)+A i f=_;rw[if_pos (by simp),h.idx hl];grind;rw[c6 (g:=fun j=>if j=n then 0 else 0) n fun j hj=>by rw[h.rest i j (by omega) hi hj];grind,jC,h.rest i f (by omega) hi hf];split <;> grind
end
structure Dt where
 X:Lq
 Y:Lq
 W:Lq
def sz1(q:Rat):Prop:=qs q≤100000000000
instance (q:Rat):Decidable (sz1 q):=inferInstanceAs (Decidable (_≤_))
theorem sz1.sm{q:Rat}(h:sz1 q):sm q:=Nat.le_trans h (by decide)
theorem sz1.two{a b:Rat}(ha:sz1 a)(hb:sz1 b):qs a+qs b≤549755813888:=by unfold sz1 at *;omega
theorem cq_lt{a b:Rat}:cZ a b< 0↔a< b:=by
 unfold cZ;by_cases h:a< b;simp[h];by_cases h2:a=b <;> simp[h,h2]
theorem cq_gt{a b:Rat}:0< cZ a b↔b< a:=by
 unfold cZ;by_cases h:a< b;have:¬b< a:=by grind
 simp[h,this];by_cases h2:a=b;subst h2;simp[h];have:b< a:=by grind
 simp[h,h2,this]
theorem cq_eq{a b:Rat}:cZ a b=0↔a=b:=by
 unfold cZ;by_cases h:a< b;have:a≠b:=by grind
 simp[h,this];by_cases h2:a=b <;> simp[h,h2]
def vP(l:Lq):Bool:=(List.range (l.length- 1)).all fun i=>decide (coP l i< coP l (i+1))
theorem risB_iff{l:Lq}:vP l=true↔∀i,i+1< l.length→coP l i< coP l (i+1):=by
 unfold vP;rw[List.all_eq_true];constructor;intro h i hi;exact of_decide_eq_true (h i (List.mem_range.2 (by omega)));intro h i hi;have:=List.mem_range.1 hi;exact decide_eq_true (h i (by omega))
def C6(d:Dt):Bool:=decide (1≤d.X.length) && (decide (d.X.length≤60) && (decide (d.Y.length=d.X.length) && (vP d.X && ((decide (d.W.length=0)||decide (d.W.length=d.X.length)) && !d.W.any fun w=>decide (w≤0)))))
def wtD(d:Dt)(i:Nat):Rat:=if d.W.length=0 then 1 else coP d.W i
def msD(d:Dt)(p:Lq)(i:Nat):Rat:=wtD d i* (coP d.Y i- aA p (coP d.X i))
def oo(f:Nat→Rat):Nat→Nat×Rat
 |0=>(0,0)
 |i+1=>if i=0∨(oo f i).2< f i then(i,f i) else oo f i
def woD(d:Dt)(p:Lq):Nat:=(oo (fun i=>cI (msD d p i)) d.X.length).1
def sdD(d:Dt)(i k:Nat):Rat:=((1- 2* ((i % 2:Nat):Int):Int):Rat) / wtD d k
def prD(d:Dt)(L:Ln)(k:Nat):Nat→Rat
 |0=>1
 |j+1=>if L.getD j 0=k then prD d L k j else prD d L k j* (coP d.X k- coP d.X (L.getD j 0))
def tpD(d:Dt)(L:Ln):Nat→Rat
 |0=>0
 |i+1=>tpD d L i+coP d.Y (L.getD i 0) / prD d L (L.getD i 0) L.length
def btD(d:Dt)(L:Ln):Nat→Rat
 |0=>0
 |i+1=>btD d L i+sdD d i (L.getD i 0) / prD d L (L.getD i 0) L.length
def hD(d:Dt)(L:Ln):Rat:=tpD d L L.length/ btD d L L.length
def xsD(d:Dt)(L:Ln)(n:Nat):Lq:=aL n fun i=>coP d.X (L.getD i 0)
def trD(d:Dt)(L:Ln)(n:Nat):Lq:=aL n fun i=>sdD d i (L.getD i 0)
def ysD(d:Dt)(L:Ln)(h:Rat)(n:Nat):Lq:=aL n fun i=>coP d.Y (L.getD i 0)- h* sdD d i (L.getD i 0)
@[simp] theorem xsD_length (d:Dt)(L:Ln)(n:Nat):(xsD d L n).length=n:=by simp[xsD,aL]
@[simp] theorem trD_length (d:Dt)(L:Ln)(n:Nat):(trD d L n).length=n:=by simp[trD,aL]
@[simp] theorem ysD_length (d:Dt)(L:Ln)(h:Rat)(n:Nat):(ysD d L h n).length=n:=by simp[ysD,aL]
def EV(d:Dt)(L:Ln):Prop:=1≤L.length∧L.length≤15∧(∀k∈L,k< d.X.length∧sz1 (coP d.X k)∧sz1 (coP d.Y k)∧sz1 (wtD d k)∧wtD d k≠0)∧
 (∀k∈L,(∀j,j< L.length+1→sz1 (prD d L k j))∧prD d L k L.length≠0)∧(∀i,i< L.length+1→sz1 (tpD d L i)∧sz1 (btD d L i))∧btD d L L.length≠0∧sz1 (hD d L)∧oZ [] (xsD d L (L.length- 1))=false
instance (d:Dt) (L:Ln):Decidable (EV d L):=inferInstanceAs (Decidable (_∧_∧_∧_∧_∧_∧_∧_))
def Ao(d:Dt)(L:Ln):Option Lq:=if EV d L then yg (xsD d L (L.length- 1)) (ysD d L (hD d L) (L.length- 1)) [] (fP 1) else none
def sdE(sg:Int)(k:Nat):Int:=if k % 2=1 then -sg else sg
def bsM(t:Nat→Bool):Nat→Nat→Nat→Nat
 |0,i,_=>i
 |f+1,i,j=>if i< j then(if t ((i+j) / 2) then bsM t f ((i+j) / 2+1) j else bsM t f i ((i+j) / 2)) else i
def bsL(L:Ln)(x:Nat):Nat:=bsM (fun h=>decide (L.getD h 0< x)) L.length 0 L.length
def exM(L:Ln)(x:Nat)(sg own:Int):Ln:=
 if bsL L x=0∧sdE sg 0≠own then x::L.take (L.length- 1)
 else if L.length- 1< bsL L x∧sdE sg (L.length- 1)≠own then L.drop 1++[x]
 else if bsL L x=0∨bsL L x≤L.length- 1∧sdE sg (bsL L x)=own then L.set (bsL L x) x
 else L.set (bsL L x- 1) x
def sgO(h:Rat):Int:=if h< 0 then -1 else 1
def okMs(d:Dt)(p:Lq)(i:Nat):Prop:=i< d.X.length∧sz1 (wtD d i)∧sz1 (coP d.Y i)∧dI p (coP d.X i)∧sz1 (aA p (coP d.X i))∧sz1 (coP d.Y i- aA p (coP d.X i))∧sz1 (msD d p i)
instance (d:Dt) (p:Lq) (i:Nat):Decidable (okMs d p i):=inferInstanceAs (Decidable (_∧_∧_∧_∧_∧_∧_))
def ET(d:Dt)(p:Lq):Prop:=d.X.length≤60∧d.Y.length=d.X.length∧(d.W.length=0∨d.W.length=d.X.length)∧∀i,i< d.X.length→okMs d p i
instance (d:Dt) (p:Lq):Decidable (ET d p):=inferInstanceAs (Decidable (_∧_∧_∧_))
def fitM:Nat→Dt→Ln→Option (Lq×Rat×Ln)
 |0,_,_=>none
 |f+1,d,L=>match Ao d L with
  |none=>none
  |some p=>if ET d p then(if cI (msD d p (woD d p))≤cI (hD d L) then some (p,cI (hD d L),if hD d L=0 then [] else L) else fitM f d (exM L (woD d p) (sgO (hD d L)) (sgZ (msD d p (woD d p)).num))) else none
def uk(f:Nat)(d:Dt)(n:Nat):Option (Lq×Rat×Ln):=
 if d.X.length≤n+1 then(if d.X.length=d.Y.length∧n≤12∧smL d.X∧oZ [] d.X=false then(yg d.X d.Y [] (fP 1)).map fun p=>(p,0,[]) else none) else(if d.Y.length=d.X.length∧(d.W.length=0∨d.W.length=d.X.length)∧n≤12 then fitM f d (List.range (n+2)) else none)
theorem bi{k t:Nat}{x:Option ABlk}{l:Hp}(h:k≠t):ap ((k,x)::l) t=ap l t:=by
 rw[dk];unfold upd;grind
section
variable {R:Nat→Lq}{n k:Nat}{s:Nat→Nat}
def rwL(R:Nat→Lq)(n:Nat):List Lc:=(List.range n).map fun k=>pE (R k)
@[simp] theorem iZ (R:Nat→Lq)(n:Nat):(rwL R n).length=n:=by simp[rwL]
theorem vL(h:k< n):(rwL R n)[k]?=some (pE (R k)):=by simp[rwL,h]
theorem vK{e:Lc}(h:(rwL R n)[k]?=some e):k< n∧e=pE (R k):=by
 have h1:=(List.getElem?_eq_some_iff.1 h).1;rw[iZ] at h1;rw[vL h1] at h;grind
def rwO(R:Nat→Lq)(s:Nat→Nat)(n:Nat):Lc:=mzO 3 (fun k=>(R k).length) s n
@[simp] theorem ku (R:Nat→Lq)(s:Nat→Nat)(n:Nat):(rwO R s n).length=n:=sT _ _ _ _
theorem eU(h:k< n):∀e,e=k→(rwO R s n)[e]?=some [.lsl (s (k+2)) 0 (R k).length none 3]:=fun e he=>by rw[he];exact mzO_get h
theorem rwO_out(h:n≤k):(rwO R s n)[k]?=none:=by simp_all
theorem iP{R':Nat→Lq}{s':Nat→Nat}(h:∀k,k< n→(R k).length=(R' k).length∧s (k+2)=s' (k+2)):rwO R s n=rwO R' s' n:=by
 refine List.ext_getElem? fun k=>?_;by_cases hk:k< n;rw[eU hk k rfl,eU hk k rfl,(h k hk).1,(h k hk).2];simp_all
theorem rwO_one(R:Nat→Lq)(s:Nat→Nat)(n:Nat):(rwO R s n).all (·.all AV.one)=true:=by
 unfold rwO mzO;rw[List.all_map,List.all_eq_true];intro _ _;rfl
section
variable {fr fr':Fr}{hp ex:Hp}{nx N TS TQ n k:Nat}{R R':Nat→Lq}
end
def swx(a b x:Nat):Nat:=if x=a then b else if x=b then a else x
theorem swx_a(a b:Nat):swx a b a=b:=if_pos rfl
theorem swx_b(a b:Nat):swx a b b=a:=by unfold swx;grind
theorem vx{a b x:Nat}(h1:x≠a)(h2:x≠b):swx a b x=x:=by unfold swx;grind
theorem swx_inj{a b x y:Nat}(h:swx a b x=swx a b y):x=y:=by unfold swx at h;grind
theorem Er{p:Nat}(hk:k< n)(hp:p< n):∀a b:Nat,a=p→b=k→((rwO R (fun x=>x) n).set a [.lsl (k+2) 0 (R k).length none 3]).set b [.lsl (p+2) 0 (R p).length none 3]=rwO (fun i=>R (swx k p i)) (swx (k+2) (p+2)) n:=fun a b ha hb=>by
 subst ha hb;refine List.ext_getElem? fun i=>?_;rw[List.getElem?_set,List.length_set,List.getElem?_set,ku];by_cases hi:i< n;rw[eU (R:=fun i=>R (swx b a i)) hi i rfl];by_cases h1:b=i;subst h1;rw[swx_a,swx_a]
 try grind
 rw[if_neg h1];by_cases h2:a=i;subst h2;rw[swx_b,swx_b]
 try grind
 rw[if_neg h2,eU hi i rfl,vx (fun e=>h1 e.symm) (fun e=>h2 e.symm),vx (by omega) (by omega)];have h1:b≠i:=by omega
 simp_all
end

section
variable {X:Mx}{i j k n r c:Nat}
def puM(X:Mx)(i j:Nat)(v:Rat):Mx:=fun k t=>if k=i∧t=j then v else X k t
theorem puM_ne{v:Rat}(h:k≠i):puM X i j v k=X k:=funext fun t=>if_neg fun e=>h e.1
theorem puM_set{m:Nat}{v:Rat}(h:j< m):∀e:Nat,e=j→(pE (aL m (X i))).set e (qC v)=pE (aL m (puM X i j v i)):=fun e he=>by
 subst he;rw[jD];congr 1;refine List.ext_getElem? fun t=>?_;rw[List.getElem?_set];by_cases ht:t< m;by_cases h1:e=t;subst h1;simp[aL,ht,puM];rw[if_neg h1];simp[aL,ht,puM,show¬t=e from fun e'=>h1 e'.symm];simp_all
theorem ky{X:Nat→Rat}{m:Nat}(h:j< m):∀e:Nat,e=j→(pE (aL m X))[e]?=some (qC (X j)):=fun e he=>by
 subst he;simp[pE,aL,h]
def rT(n:Nat)(X:Mx)(k:Nat):Lq:=aL (n+1) (X k)
theorem sw{Y:Mx}(h:∀j,j≤n→X k j=Y k j):rT n X k=rT n Y k:=by
 exact List.map_congr_left fun t ht=>h t (by grind)
@[simp] theorem rT_length (n:Nat)(X:Mx)(k:Nat):(rT n X k).length=n+1:=by simp[rT]
def scJ(X:Mx)(r:Nat)(f:Rat)(j:Nat):Mx:=fun i t=>if i=r∧t< j then X i t* f else X i t
theorem scJ_0(X:Mx)(r:Nat)(f:Rat):scJ X r f 0=X:=funext fun i=>funext fun t=>if_neg fun e=>by omega
theorem scJ_at(X:Mx)(r:Nat)(f:Rat)(j:Nat):scJ X r f j r j=X r j:=if_neg fun e=>by omega
theorem scJ_s(X:Mx)(r:Nat)(f:Rat)(j:Nat):scJ X r f (j+1)=puM (scJ X r f j) r j (X r j* f):=funext fun i=>funext fun t=>by
 show(if i=r∧t< j+1 then X i t* f else X i t)=if i=r∧t=j then X r j* f else if i=r∧t< j then X i t* f else X i t
 grind
theorem scJ_n{f:Rat}(k j:Nat)(h:j≤n):scJ X r f (n+1) k j=scM X r f k j:=by
 unfold scJ scM;grind
def rdJ(X:Mx)(r c i j:Nat):Mx:=fun k t=>if k≠r∧(k< i∨(k=i∧t< j)) then X k t- X k c* X r t else X k t
theorem rdJ_0(X:Mx)(r c:Nat):rdJ X r c 0 0=X:=funext fun i=>funext fun t=>if_neg fun e=>by omega
theorem rdJ_at(X:Mx)(r c i j:Nat):rdJ X r c i j i j=X i j:=if_neg fun e=>by omega
theorem rdJ_c(X:Mx)(r c i:Nat):rdJ X r c i 0 i=X i:=funext fun t=>if_neg fun e=>by omega
theorem rdJ_r(X:Mx)(r c i j:Nat):rdJ X r c i j r=X r:=funext fun t=>if_neg fun e=>e.1 rfl
theorem rdJ_s(h:i≠r):rdJ X r c i (j+1)=puM (rdJ X r c i j) i j (X i j- X i c* X r j):=funext fun k=>funext fun t=>by
 show(if k≠r∧(k< i∨(k=i∧t< j+1)) then X k t- X k c* X r t else X k t)=if k=i∧t=j then X i j- X i c* X r j else if k≠r∧(k< i∨(k=i∧t< j)) then X k t- X k c* X r t else X k t
 grind
theorem rdJ_n(i k j:Nat)(h:j≤n):rdJ X r c i (n+1) k j=rdJ X r c (i+1) 0 k j:=by
 unfold rdJ;grind
theorem xK(h:i=r∨X i c=0):rdJ X r c (i+1) 0=rdJ X r c i 0:=funext fun k=>funext fun t=>by
 unfold rdJ;grind
theorem rdJ_end(h:k< n)(j:Nat):rdJ X r c n 0 k j=rdM X r c k j:=by
 unfold rdJ rdM;grind
def slB(s:Nat):Nat→Nat
 |0=>s
 |c+1=>4* slB s c+2
theorem Ek{s:Nat}(h:k≤n):slB s k≤slB s n:=by
 induction n with
 |zero=>grind
 |succ n ih=>
  by_cases e:k=n+1;rw[e];exact Nat.le_refl _;rw[slB];omega
theorem bd_slC{A:Mx}{s:Nat}{L:Ln}(h:bdM A n s)(hL:L.length≤c)(hc:c< n):bdM (slC A n L c).1 n (4* s+2):=by
 unfold slC;cases e:pvR A n L.length c with
 |none=>exact fun i j hi hj=>Nat.le_trans (h i j hi hj) (by omega)
 |some p=>
  obtain⟨p1,p2,p3⟩:=lr e;have hr:L.length< n:=by omega
  have h1:=bd_sw h hr p1
  have hsc:∀j,j≤n→qs (scM (swM A L.length p) L.length (1/ A p c) L.length j)≤2* s+1:=fun j hj=>by
   unfold scM;rw[if_pos rfl];have a1:=h1 L.length j hr hj;have a2:=gi 1 (A p c);have a0:qs 1≤1:=by decide
   have a3:=h p c p1 (by omega);have a4:=e8 (swM A L.length p L.length j) (1/ A p c);omega
  intro i j hi hj;show qs (rdM (scM (swM A L.length p) L.length (1/ A p c)) L.length c i j)≤_;unfold rdM;by_cases hir:i=L.length;subst hir;rw[if_pos rfl];have:=hsc j hj;omega;rw[if_neg hir];have b1:∀t,scM (swM A L.length p) L.length (1/ A p c) i t=swM A L.length p i t:=fun t=>if_neg hir;rw[b1,b1];have c1:=h1 i j hi hj;have c2:=h1 i c hi (by omega);have c3:=hsc j hj;have c4:=e8 (swM A L.length p i c) (scM (swM A L.length p) L.length (1/ A p c) L.length j);have c5:=sH (swM A L.length p i j) (swM A L.length p i c* scM (swM A L.length p) L.length (1/ A p c) L.length j);omega
theorem Ga{M:Mx}{n s:Nat}(h:bdM M n s):∀c,c≤n→bdM (slM M n c).1 n (slB s c)
 |0,_=>h
 |c+1,hc=>bd_slC (Ga h c (by omega)) (nN M n c).len (by omega)
end

section
variable {f:Nat}{p:Lq}{c:Cnt}(h:fH f p=some c)(hp:nz p)
include h hp
end

section
variable {f:Nat}{p:Lq}{c:Cnt}(h:fH f p=some c)(hp:nz p)
include h hp
end
theorem tK(p q:Lq)(n:Nat):∀k,eS p q (p.length+k) n=eS p q p.length n
 |0=>rfl
 |k+1=>by
  rw[show p.length+(k+1)=p.length+k+1 by omega,eS,tK p q n k,eK (show p.length≤p.length+k by omega)];grind
theorem tM(p q:Lq)(n:Nat):∀k,eS p q (n+1+k) n=eS p q (n+1) n
 |0=>rfl
 |k+1=>by rw[show n+1+(k+1)=n+1+k+1 by omega,eS,tM p q n k];grind



section
variable {f:Nat}{q d:Lq}{c:Cnt}{σ:Rat}(h:fH f d=some c)(hd:nz d)(hσ:σ=1∨σ= -1)
end




theorem y7(p:Lq)(n i:Nat):coP (p.take n) i=if i< n then coP p i else 0:=by
 unfold coP;rw[List.getD_eq_getElem?_getD,List.getD_eq_getElem?_getD,List.getElem?_take];split <;> rfl
theorem tJ{p q q':Lq}{n:Nat}(h:∀j,j≤n→coP q j=coP q' j):∀i,eS p q i n=eS p q' i n
 |0=>rfl
 |i+1=>by rw[eS,eS,tJ h i,h (n- i) (Nat.sub_le ..)]
theorem kL{p q q':Lq}{n:Nat}(h:∀j,j≤n→coP q j=coP q' j):coP (cV p q) n=coP (cV p q') n:=by
 rw[oM,oM,tJ h]
theorem u5(p:Lq):aA p 0=coP p 0:=by
 cases p with
 |nil=>rfl
 |cons a l=>rw[bH,ji];grind

section
end


def oneL(A:Mx)(n:Nat)(L:Ln):Lq:=aL n (oneX A n L)
@[simp] theorem oneL_length (A:Mx)(n:Nat)(L:Ln):(oneL A n L).length=n:=by simp[oneL]
section
variable {M A:Mx}{n:Nat}{L:Ln}
theorem el_sol{c:Rat}{k:Nat}{x:Nat→Rat}(hk:k< n)(hz:∀j,j< k→M k j=0)(h:Sol c M n x):Sol c (elM M k n) n x:=by
 have hrow:∀i j,i< n→i≠k→elM M k n i j=M i j- M i k/ M k k* M k j:=fun i j hi hik=>by
  unfold elM;by_cases e:k≤j;rw[if_pos ⟨hi,hik,e⟩];rw[if_neg (fun e'=>e e'.2.2),hz j (by omega)];grind
 have hkk:∀j,elM M k n k j=M k j:=fun j=>by unfold elM;rw[if_neg (fun e=>e.2.1 rfl)]
 intro i hi;by_cases e:i=k;subst e;rw[hkk,c6 (g:=fun j=>M i j* x j) n fun j _=>by rw[hkk]];exact h i hi;rw[hrow i n hi e,c6 (g:=fun j=>M i j* x j- M i k/ M k k* (M k j* x j)) n fun j _=>by rw[hrow i j hi e];grind,re,h i hi,h k hk];grind
theorem Fk{M:Mx}{n:Nat}:∀k A,k≤n→gjM M n k=some A→∀c x,Sol c M n x→Sol c A n x
 |0,A,_,h=>by cases h;exact fun _ _ h=>h
 |k+1,A,hk,h=>by
  rw[gjM] at h;cases e:gjM M n k with
  |none=>rw[e] at h;cases h
  |some B=>
   rw[e,Option.bind_some] at h;have i1:=Fk k B (by omega) e;obtain⟨_,i2⟩:=ot k B (by omega) e;cases e2:pvt B n k with
   |none=>rw[e2] at h;cases h
   |some p=>
    rw[e2] at h;cases h;obtain⟨p1,p2,p3⟩:=xN e2;have d:=CB i2 p2 p1;exact fun c x hs=>el_sol (by omega) (fun j hj=>(d j hj).2 k (by omega) (by omega)) ((BH (by omega) p1).2 (i1 c x hs))
theorem wt(h:gjM M n n=some A){c:Rat}{x y:Nat→Rat}(hx:Sol c M n x)(hy:Sol c M n y):∀j,j< n→x j=y j:=by
 obtain⟨_,d⟩:=ot n A (Nat.le_refl _) h
 have key:∀z,Sol c M n z→∀i,i< n→A i i* z i=c* A i n:=fun z hz i hi=>by
  have h1:=Fk n A (Nat.le_refl _) h c z hz i hi;rw[c6 (g:=fun j=>if j=i then A i i* z i else 0) n fun j hj=>?_,jC,if_pos hi] at h1;exact h1;by_cases e:j=i;rw[if_pos e,e];rw[if_neg e,(d j hj).2 i hi (fun e'=>e e'.symm)];grind
 intro j hj;have h1:=key x hx j hj;have h2:=key y hy j hj;have h3:=(d j hj).1;have h4:A j j* (x j- y j)=0:=by grind
 rcases Rat.mul_eq_zero.1 h4 with h5|h5
 exact absurd h5 h3;grind
theorem Eg(A:Mx)(n:Nat):Sol 0 A n (fun _=>0):=fun i hi=>by
 rw[c6 (g:=fun j=>if j=n then 0 else 0) n fun j hj=>by grind,jC,if_neg (by omega)];grind
theorem Ech.gap{c:Nat}(h:Ech A n c L){i l:Nat}(hi:L[i]?=some l):∀d m,L[i+d]?=some m→l+d≤m
 |0,m,hm=>by rw[Nat.add_zero] at hm;rw[hi] at hm;cases hm;omega
 |d+1,m,hm=>by
  have hlt:=(List.getElem?_eq_some_iff.1 hm).1;have h1:L[i+d]?=some L[i+d]:=List.getElem?_eq_getElem (by omega);have h2:=h.gap hi d _ h1;have h3:=h.inc _ _ _ _ h1 hm (by omega);omega
theorem Ech.all(h:Ech A n n L)(hl:n≤L.length):∀j,j< n→j∈L:=fun j hj=>by
 have h1:L[j]?=some L[j]:=List.getElem?_eq_getElem (by omega);have h2:L[0]?=some L[0]:=List.getElem?_eq_getElem (by omega);have h3:L[j+(n- 1- j)]?=some L[j+(n- 1- j)]:=List.getElem?_eq_getElem (by omega);have g1:=h.gap h2 j L[j] (by rw[Nat.zero_add];exact h1);have g2:=h.gap h1 _ _ h3;have g3:=h.lt _ _ h3;have e:L[j]=j:=by omega
 rw[←e];exact List.getElem_mem _
theorem Ech.full(h:Ech A n n L)(hL:∀j,j< n→j∈L):n≤L.length:=by
 have key:∀j,j< n→∃k,j≤k∧L[k]?=some j:=fun j=>by
  induction j with
  |zero=>exact fun hj=>by obtain⟨k,hk⟩:=List.getElem?_of_mem (hL 0 hj);exact⟨k,Nat.zero_le _,hk⟩
  |succ j ih=>
   intro hj;obtain⟨k,k1,k2⟩:=ih (by omega);obtain⟨t,ht⟩:=List.getElem?_of_mem (hL (j+1) hj);refine⟨t,?_,ht⟩;by_cases e:k< t;omega;by_cases e2:t=k;rw[e2,k2] at ht;cases ht;have:=h.inc _ _ _ _ ht k2 (by omega);omega
 by_cases hn:n=0;omega;obtain⟨k,k1,k2⟩:=key (n- 1) (by omega);have:=(List.getElem?_eq_some_iff.1 k2).1;omega
theorem De(h:gjM M n n=some A):n≤(slM M n n).2.length∧oneL (slM M n n).1 n (slM M n n).2=aL n fun i=>A i n/ A i i:=by
 have hE:=nN M n n
 have hl:n≤(slM M n n).2.length:=hE.full fun f hf=>by
  refine Classical.byContradiction fun g=>?_;have hz:=(qZ n).1 (hE.zerX hf g);have h1:=wt h hz (Eg M n) f hf;unfold Abs.zerX at h1;rw[if_neg (by simpa using g),if_pos rfl] at h1;exact absurd h1 (by decide)
 refine⟨hl,?_⟩;have h1:=(qZ n).1 (hE.oneX fun i g1 g2=>by omega);have h2:=AA h;have h3:=wt h h1 h2;unfold oneL aL;exact List.map_congr_left fun j hj=>h3 j (List.mem_range.1 hj)
end
section
variable {M:Mx}{n c:Nat}
theorem slC_len(A:Mx)(n:Nat)(L:Ln)(c:Nat):(slC A n L c).2.length≤L.length+1:=by
 unfold slC;split <;> simp
theorem xu(h:n≤(slM M n n).2.length):∀c,c≤n→(slM M n c).2.length=c:=by
 have h1:∀d c,c+d=n→c≤(slM M n c).2.length:=fun d=>by
  induction d with
  |zero=>intro c e;rw[show c=n by omega];exact h
  |succ d ih=>
   intro c e;have a:=ih (c+1) (by omega);have b:=slC_len (slM M n c).1 n (slM M n c).2 c;have e2:slM M n (c+1)=slC (slM M n c).1 n (slM M n c).2 c:=rfl;rw[e2] at a;omega
 exact fun c hc=>Nat.le_antisymm (nN M n c).len (h1 (n- c) c (by omega))
theorem Ei(h:n≤(slM M n n).2.length)(hc:c< n):∃p,pvR (slM M n c).1 n c c=some p∧(slM M n (c+1)).1=rdM (scM (swM (slM M n c).1 c p) c (1/ (slM M n c).1 p c)) c c:=by
 have h1:=xu h c (by omega);have h2:=xu h (c+1) hc;have e:slM M n (c+1)=slC (slM M n c).1 n (slM M n c).2 c:=rfl;rw[e] at h2⊢;unfold slC at h2⊢;rw[h1] at h2⊢;cases hp:pvR (slM M n c).1 n c c with
 |none=>rw[hp] at h2;simp only at h2;omega
 |some p=>exact⟨p,rfl,rfl⟩
theorem Ej{A:Mx}(h:gjM M n n=some A):n≤(slM M n n).2.length∧∀i,i< n→(slM M n n).1 i n=A i n/ A i i:=by
 obtain⟨h1,h2⟩:=De h;refine⟨h1,fun i hi=>?_⟩;have hE:=nN M n n;have hl:(slM M n n).2.length=n:=Nat.le_antisymm hE.len h1;have hx:=(qZ n).2 (AA h);have hall:=hE.all h1
 -- the row i leads at i
 have hi2:(slM M n n).2[i]?=some i:=by
  obtain⟨l,hl2⟩:∃l,(slM M n n).2[i]?=some l:=⟨_,List.getElem?_eq_getElem (by omega)⟩;have hm:=List.mem_of_getElem? (show(slM M n n).2[i]?=some l from hl2);have h0:∃l0,(slM M n n).2[0]?=some l0:=⟨_,List.getElem?_eq_getElem (by omega)⟩;obtain⟨l0,h0⟩:=h0;have ha:l0+i≤l:=hE.gap h0 i l (by rw[Nat.zero_add];exact hl2);have hb:∃z,(slM M n n).2[i+(n- 1- i)]?=some z:=⟨_,List.getElem?_eq_getElem (by omega)⟩;obtain⟨z,hz⟩:=hb;have hc:=hE.gap hl2 (n- 1- i) z hz;have hd:=hE.lt _ _ hz;rw[hl2,show l=i by omega]
 have:=hE.row (x:=fun i=>A i n/ A i i) (fun j hj g=>absurd (hall j hj) g) hi2;have h3:=hx i hi;rw[this] at h3;rw[h3];grind
-- Looking for the row.
def ui{α:Type}(t:α→Bool):List α→Int→Int
 |[],_=> -1
 |a::l,i=>if t a then i else ui t l (i+1)
theorem Cd{α:Type}(t:α→Bool):∀(l:List α) (k:Int) (j:Nat) (x:α),l[j]?=some x→t x=true→(∀i y,i< j→l[i]?=some y→t y=false)→ui t l k=k+j
 |[],_,_,_,h,_,_=>by cases h
 |a::l,k,0,x,h,h2,_=>by
  cases h;rw[ui,if_pos h2];simp
 |a::l,k,j+1,x,h,h2,h3=>by
  rw[ui,if_neg (by rw[h3 0 a (by omega) rfl];decide),Cd t l (k+1) j x (by simpa using h) h2 fun i y hi hy=>h3 (i+1) y (by omega) (by simpa using hy)];omega
theorem xH{r i:Nat}(h:r+i< n):(((List.range n).map fun k=>aL (n+1) (M k)).drop r)[i]?=some (aL (n+1) (M (r+i))):=by
 rw[List.getElem?_drop];simp[h]
theorem y8{f:Nat→Rat}(h:c≤n):coP (aL (n+1) f) c=f c:=by
 unfold coP aL;rw[List.getD_eq_getElem?_getD];simp[show c< n+1 by omega]
theorem idxR_pv{r p:Nat}(hc:c≤n)(e:pvR M n r c=some p):ui (fun e:Lq=>decide (coP e c≠0)) (((List.range n).map fun k=>aL (n+1) (M k)).drop r) 0=((p- r:Nat):Int):=by
 obtain⟨p1,p2,p3⟩:=lr e
 have hfirst:∀q,q< p→r≤q→M q c=0:=fun q hq hrq=>by
  have e2:=e;unfold pvR at e2;rw[List.find?_range_eq_some] at e2;have:=e2.2.2 q hq;simp at this;exact this.resolve_left (by omega)
 rw[Cd _ _ 0 (p- r) (aL (n+1) (M p)) (by rw[xH (by omega),show r+(p- r)=p by omega]) (by rw[y8 hc];exact decide_eq_true p3) fun i y hi hy=>?_];simp;rw[xH (by omega)] at hy;cases hy;rw[y8 hc,hfirst (r+i) (by omega) (by omega)];decide
end
end Go.Abs
namespace Go.Abs
open Go.RowKit
section
variable {i T:Nat}{x:Option Lq}
section
variable {r:Ren}{hp hp':Hq}
theorem ShrL.same{x:Option ABlk}{l:Hp}(hi:Nat.blt i r.n=true)(h:hp (r.s i)=x)(hl:ShrL r hp l):ShrL r hp ((i,x)::l):=by
 refine⟨?_,hl⟩;cases x with
 |none=>trivial
 |some B=>exact⟨Nat.le_of_ble_eq_true hi,B,h,rfl,rfl,rfl⟩
theorem CvH.same{x:Option ABlk}{l:Hp}(hs:Shr r hp hp')(hi:Nat.blt i r.n=true)(h:hp (r.s i)=x)(hc:∀B,x=some B→∀e∈B.es,∀c∈e,Closed c)(hl:CvH r hp hp' l):CvH r hp hp' ((i,x)::l):=by
 refine⟨?_,hl⟩;cases x with
 |none=>trivial
 |some B=>exact⟨Nat.le_of_ble_eq_true hi,B,h,rfl,rfl,b9 hs (hc B rfl)⟩
def Ex(i:Nat)(x:Option Lq):AV:=match x with|none=> .emp|some l=> .lsl i 0 l.length none 3
def nW(T:Nat)(x:Option Lq):Option ABlk:=match x with|none=>none|some l=>some ⟨T,3,pE l⟩
theorem bY:∀B,nW T x=some B→∀e∈B.es,∀c∈e,Closed c:=fun B h=>by
 cases x with
 |none=>cases h
 |some l=>cases h;exact aF l
theorem BS:∀B,nW T x=some B→B.sz=3:=fun B h=>by
 cases x with
 |none=>cases h
 |some l=>cases h;rfl
theorem Cv.row(hs:Shr r hp hp')(hi:Nat.blt i r.n=true)(h:r.s i=i)(h2:hp' i=nW T x):Cv r hp hp' (Ex i x) (Ex i x):=by
 cases x with
 |none=>exact ah hs aN
 |some l=>exact Cv.sl hi h (by rw[h2];rfl)
theorem Top.row{H:Nat→Prop}(h:x.isSome=true→H i):Top H (Ex i x):=by
 cases x with
 |none=>exact .clo aN
 |some l=>exact .sl (h rfl)
end
end
def rzH(TS TQ:Nat)(R:Nat→Lq)(n:Nat):Hp:=(0,some ⟨TS,1,rwO R (fun x=>x) n⟩)::mxB TQ 3 (rwL R n) 2
def InZ(m i:Nat):Prop:=i=0∨(2≤i∧i< m+2)
section
variable {fr fr':Fr}{hp:Hp}{nx N TS TQ n k:Nat}{R R':Nat→Lq}
theorem cP(h:k< n):ap (rzH TS TQ R n) (k+2)=some ⟨TQ,3,pE (R k)⟩:=by
 unfold rzH;rw[bi (by omega)];exact we _ 2 k _ (vL h)
theorem lj(h:k< n):dw (ap (rzH TS TQ R n)) (k+2)=some ⟨TQ,3,pE (R k)⟩:=fF (cP h) (show(3:Nat)≠0 by decide)
theorem cW:ap (rzH TS TQ R n) 0=some ⟨TS,1,rwO R (fun x=>x) n⟩:=rfl
theorem lY:∀i B,(i,some B)∈rzH TS TQ R n→(i=0∧B=⟨TS,1,rwO R (fun x=>x) n⟩)∨∃k,k< n∧i=k+2∧B=⟨TQ,3,pE (R k)⟩:=fun i B h=>by
 rcases List.mem_cons.1 h with h|h
 cases h;exact .inl ⟨rfl,rfl⟩;obtain⟨k,e,k1,k2,k3⟩:=rk _ 2 i B h;obtain⟨k4,rfl⟩:=vK k1;exact .inr ⟨k,k4,by omega,k3⟩
theorem CZ(h:∀k,k< n→R k=R' k):rzH TS TQ R n=rzH TS TQ R' n:=by
 unfold rzH;rw[iP (R':=R') (s':=fun x=>x) fun k hk=>⟨by rw[h k hk],rfl⟩,show rwL R n=rwL R' n from List.map_congr_left fun k hk=>by rw[h k (List.mem_range.1 hk)]]
theorem li(h:k=1∨n+2≤k):ap (rzH TS TQ R n) k=none:=by
 cases e:ap (rzH TS TQ R n) k with
 |none=>rfl
 |some B=>
  rcases lY k B (cU e) with⟨e1,_⟩|⟨j,j1,j2,_⟩<;> omega
theorem SEntT.rz (s:Nat→Nat) (hn:n≤30) (s0:s 0=0) (hinj:∀i j,InZ n i→InZ n j→s i=s j→i=j) (h1:ap hp 0=some ⟨TS,1,rwO R s n⟩) (hr:∀i,i< n→ap hp (s (i+2))=some ⟨TQ,3,pE (R i)⟩)
    (hF:Shr ⟨40,s⟩ (ap hp) (ap (rzH TS TQ R n))→CvF ⟨40,s⟩ (ap hp) (ap (rzH TS TQ R n)) fr fr'):SEntT ⟨fr,hp,nx,N⟩ ⟨fr',rzH TS TQ R n,40,N⟩:=by
 have hS:Shr ⟨40,s⟩ (ap hp) (ap (rzH TS TQ R n)):=⟨fun i B h=>by
  rcases lY i B (cU h) with⟨rfl,rfl⟩|⟨k,k1,rfl,rfl⟩
  exact⟨(show 0< 40 by decide),⟨TS,1,rwO R s n⟩,by show ap hp (s 0)=_;rw[s0];exact h1,rfl,rfl,by simp⟩;exact⟨by show k+2< 40;omega,_,hr k k1,rfl,rfl,rfl⟩⟩
 refine SEntT.intro (st:=⟨fr,hp,nx,N⟩) (st':=⟨fr',rzH TS TQ R n,40,N⟩) ⟨40,s⟩ rfl (show 0< 40 by decide) s0 (oh _ fun i j hi hj e=>?_) rfl (hF hS) (pY _ fun i B h=>?_)
 have g:∀i,i∈(rzH TS TQ R n).map (·.1)→InZ n i:=fun i hi=>by
  rcases List.mem_cons.1 hi with h|h
  exact .inl h;have:=od _ 2 i h;rw[iZ] at this;exact .inr ⟨by omega,by omega⟩
 exact hinj i j (g i hi) (g j hj) e;rcases lY i B h with⟨rfl,rfl⟩|⟨k,k1,rfl,rfl⟩
 refine⟨(show 0< 40 by decide),⟨TS,1,rwO R s n⟩,by show ap hp (s 0)=_;rw[s0];exact h1,rfl,rfl,ue hn fun i hi=>?_⟩;rw[cP hi];rfl;exact⟨by show k+2< 40;omega,_,hr k k1,rfl,rfl,b9 hS (aF _)⟩
theorem SEntT.rz1 (hn:n≤30) (h1:ap hp 0=some ⟨TS,1,rwO R (fun x=>x) n⟩) (hr:∀i,i< n→ap hp (i+2)=some ⟨TQ,3,pE (R i)⟩)
    (hF:Shr ⟨40,fun x=>x⟩ (ap hp) (ap (rzH TS TQ R n))→CvF ⟨40,fun x=>x⟩ (ap hp) (ap (rzH TS TQ R n)) fr fr'):SEntT ⟨fr,hp,nx,N⟩ ⟨fr',rzH TS TQ R n,40,N⟩:=
 SEntT.rz (fun x=>x) hn rfl (fun _ _ _ _ e=>e) h1 hr hF
end
end Go.Abs
namespace Go.Abs
theorem swx2(a b i:Nat):swx (a+2) (b+2) (i+2)=swx a b i+2:=by
 unfold swx;by_cases h1:i=a;rw[if_pos (by omega),if_pos h1];rw[if_neg (by omega),if_neg h1];by_cases h2:i=b;rw[if_pos (by omega),if_pos h2];rw[if_neg (by omega),if_neg h2]
theorem swx_in{a b i n:Nat}(ha:a< n)(hb:b< n)(hi:i< n):swx a b i< n:=by unfold swx;split <;>(try split)<;> omega
theorem swM_at(A:Mx)(r p i:Nat):swM A r p i=A (swx p r i):=by
 funext j;unfold swM swx;by_cases h1:i=r;subst h1;by_cases h2:i=p;subst h2;simp;simp[h2];by_cases h2:i=p;subst h2;simp[h1];simp[h1,h2]
theorem ntT{a b:Int}(h:a≠b):(a !=b)=true:=by simpa using h
theorem ntF{a b:Int}(h:a=b):(a !=b)=false:=by simp[h]
def rzI(n:Nat):Ln:=0::(List.range n).map (· +2)
section
variable {TS TQ n i j e:Nat}{X:Mx}{v:Rat}
theorem Ep{fr fr':Fr}{nx N:Nat}(hn:n≤30)(hi:i< n)(hj:j< n+1)(he:e=j)(hF:Shr ⟨40,fun x=>x⟩ (ap ((i+2,some ⟨TQ,3,(pE (aL (n+1) (X i))).set e (qC v)⟩)::rzH TS TQ (fun k=>aL (n+1) (X k)) n)) (ap (rzH TS TQ (fun k=>aL (n+1) (puM X i j v k)) n))→CvF ⟨40,fun x=>x⟩ (ap ((i+2,some ⟨TQ,3,(pE (aL (n+1) (X i))).set e (qC v)⟩)::rzH TS TQ (fun k=>aL (n+1) (X k)) n)) (ap (rzH TS TQ (fun k=>aL (n+1) (puM X i j v k)) n)) fr fr'):
    SEntT ⟨fr,(i+2,some ⟨TQ,3,(pE (aL (n+1) (X i))).set e (qC v)⟩)::rzH TS TQ (fun k=>aL (n+1) (X k)) n,nx,N⟩ ⟨fr',rzH TS TQ (fun k=>aL (n+1) (puM X i j v k)) n,40,N⟩:=by
 refine SEntT.rz1 hn ?_ ?_ hF;rw[bi (by omega),cW,iP (R':=fun k=>aL (n+1) (puM X i j v k)) (s':=fun x=>x)];exact fun k hk=>⟨by simp,rfl⟩;intro k hk;by_cases h:k=i;subst h;rw[←puM_set hj e he,dk,aY];rw[bi (by omega),cP hk,puM_ne h]
end
theorem yY{hp hp':Hq}{k:Nat}(hs:Shr ⟨40,fun x=>x⟩ hp hp')(hk:40≤k):Bv ⟨40,fun x=>x⟩ hp' k:=fun j B hj e=>by
 obtain⟨h0⟩:=hs;have h1:j< 40:=(h0 j B hj).1;have e:j=k:=e;omega
end Go.Abs
namespace Go.Abs
open Go.RowKit
def oV:Nat→AV
 |0=> .emp
 |i+1=> .lsl 1 0 (i+1) none 1
def rV:Nat→AV
 |0=> .emp
 |j+1=> .lsl 39 0 (j+1) none 3
def rX(TQ:Nat)(f:Nat→Rat):Nat→Hp
 |0=>[]
 |j+1=>[(39,some ⟨TQ,3,pE (aL (j+1) f)⟩)]
def hJ(TS TQ:Nat)(R:Nat→Lq):Nat→Hp
 |0=>[]
 |i+1=>(1,some ⟨TS,1,rwO R (fun x=>x) (i+1)⟩)::mxB TQ 3 (rwL R (i+1)) 2
def hI(TS TQ:Nat)(R:Nat→Lq)(i:Nat)(f:Nat→Rat)(j:Nat):Hp:=rX TQ f j++hJ TS TQ R i
section
variable {fr fr':Fr}{hp:Hp}{nx N TS TQ i j k:Nat}{R R':Nat→Lq}{f:Nat→Rat}
theorem EF:∀p∈rX TQ f j,p.1=39:=fun p hp=>by
 cases j with
 |zero=>cases hp
 |succ j=>rw[List.mem_singleton.1 hp]
theorem kI(hi:i≤30)(h:k< i):ap (hI TS TQ R i f j) (k+2)=some ⟨TQ,3,pE (R k)⟩:=by
 unfold hI;rw[lH _ fun p hp e=>by have:=EF p hp;omega];cases i with
 |zero=>omega
 |succ i=>
  rw[hJ,bi (by omega)];exact we _ 2 k _ (vL h)
theorem lI(h:i≠0):ap (hI TS TQ R i f j) 1=some ⟨TS,1,rwO R (fun x=>x) i⟩:=by
 unfold hI;rw[lH _ fun p hp e=>by have:=EF p hp;omega];cases i with
 |zero=>exact absurd rfl h
 |succ i=>rfl
theorem Fi:∀x B,(x,some B)∈hI TS TQ R i f j→(x=39∧j≠0∧B=⟨TQ,3,pE (aL j f)⟩)∨(x=1∧i≠0∧B=⟨TS,1,rwO R (fun x=>x) i⟩)∨∃k,k< i∧x=k+2∧B=⟨TQ,3,pE (R k)⟩:=fun x B h=>by
 rcases List.mem_append.1 h with h|h
 cases j with
 |zero=>cases h
 |succ j=>cases List.mem_singleton.1 h;exact .inl ⟨rfl,by omega,rfl⟩
 cases i with
 |zero=>cases h
 |succ i=>
  rcases List.mem_cons.1 h with h|h
  cases h;exact .inr (.inl ⟨rfl,by omega,rfl⟩);obtain⟨k,e,k1,k2,k3⟩:=rk _ 2 x B h;obtain⟨k4,rfl⟩:=vK k1;exact .inr (.inr ⟨k,k4,by omega,k3⟩)
theorem SEntT.hi (s:Nat→Nat) (hn:i≤30) (s0:s 0=0) (hinj:∀x y,InX i x→InX i y→s x=s y→x=y) (h1:i≠0→ap hp (s 1)=some ⟨TS,1,rwO R s i⟩) (hr:∀k,k< i→ap hp (s (k+2))=some ⟨TQ,3,pE (R k)⟩) (hx:j≠0→ap hp (s 39)=some ⟨TQ,3,pE (aL j f)⟩)
    (hF:Shr ⟨40,s⟩ (ap hp) (ap (hI TS TQ R i f j))→CvF ⟨40,s⟩ (ap hp) (ap (hI TS TQ R i f j)) fr fr'):SEntT ⟨fr,hp,nx,N⟩ ⟨fr',hI TS TQ R i f j,40,N⟩:=by
 have hS:Shr ⟨40,s⟩ (ap hp) (ap (hI TS TQ R i f j)):=⟨fun x B h=>by
  rcases Fi x B (cU h) with⟨rfl,a,rfl⟩|⟨rfl,a,rfl⟩|⟨k,k1,rfl,rfl⟩
  exact⟨(show 39< 40 by decide),_,hx a,rfl,rfl,rfl⟩;exact⟨(show 1< 40 by decide),⟨TS,1,rwO R s i⟩,h1 a,rfl,rfl,by simp⟩;exact⟨by show k+2< 40;omega,_,hr k k1,rfl,rfl,rfl⟩⟩
 refine SEntT.intro (st:=⟨fr,hp,nx,N⟩) (st':=⟨fr',hI TS TQ R i f j,40,N⟩) ⟨40,s⟩ rfl (show 0< 40 by decide) s0 (oh _ fun x y hx hy e=>?_) rfl (hF hS) (pY _ fun x B h=>?_)
 have g:∀x,x∈(hI TS TQ R i f j).map (·.1)→InX i x:=fun x hx=>by
  unfold hI at hx;rw[List.map_append,List.mem_append] at hx;rcases hx with hx|hx
  obtain⟨p,hp,rfl⟩:=List.mem_map.1 hx;rw[EF p hp];exact .inr ⟨by omega,by omega⟩;cases i with
  |zero=>cases hx
  |succ i=>
   rcases List.mem_cons.1 hx with h|h
   have h:x=1:=h;exact .inl ⟨by omega,by omega⟩;have:=od _ 2 x h;rw[iZ] at this;exact .inl ⟨by omega,by omega⟩
 exact hinj x y (g x hx) (g y hy) e;rcases Fi x B h with⟨rfl,a,rfl⟩|⟨rfl,a,rfl⟩|⟨k,k1,rfl,rfl⟩
 exact⟨(show 39< 40 by decide),_,hx a,rfl,rfl,b9 hS (aF _)⟩;refine⟨(show 1< 40 by decide),⟨TS,1,rwO R s i⟩,h1 a,rfl,rfl,ue hn fun k hk=>?_⟩;rw[kI hn hk];rfl;exact⟨by show k+2< 40;omega,_,hr k k1,rfl,rfl,b9 hS (aF _)⟩
theorem Gq{s:Nat→Nat}(hs:Shr ⟨40,s⟩ (ap hp) (ap (hI TS TQ R i f j)))(h:s 1=1):Cv ⟨40,s⟩ (ap hp) (ap (hI TS TQ R i f j)) (oV i) (oV i):=by
 cases i with
 |zero=>exact ah hs aN
 |succ i=>exact Cv.sl rfl h (by rw[lI (by omega)];rfl)
theorem Cv_rV{s:Nat→Nat}(hs:Shr ⟨40,s⟩ (ap hp) (ap (hI TS TQ R i f j)))(h:s 39=39):Cv ⟨40,s⟩ (ap hp) (ap (hI TS TQ R i f j)) (rV j) (rV j):=by
 cases j with
 |zero=>exact ah hs aN
 |succ j=>exact Cv.sl rfl h rfl
theorem SEntT.hi1 (hn:i≤30) (h1:i≠0→ap hp 1=some ⟨TS,1,rwO R (fun x=>x) i⟩) (hr:∀k,k< i→ap hp (k+2)=some ⟨TQ,3,pE (R k)⟩) (hx:j≠0→ap hp 39=some ⟨TQ,3,pE (aL j f)⟩)
    (hF:Shr ⟨40,fun x=>x⟩ (ap hp) (ap (hI TS TQ R i f j))→CvF ⟨40,fun x=>x⟩ (ap hp) (ap (hI TS TQ R i f j)) fr fr'):SEntT ⟨fr,hp,nx,N⟩ ⟨fr',hI TS TQ R i f j,40,N⟩:=
 SEntT.hi (fun x=>x) hn rfl (fun _ _ _ _ e=>e) h1 hr hx hF
def sG(a x:Nat):Nat:=cond (Nat.beq x 39) a x
theorem mC{a x:Nat}(h:x≠39):sG a x=x:=by
 unfold sG;cases e:Nat.beq x 39 with
 |false=>rfl
 |true=>exact absurd (Nat.eq_of_beq_eq_true e) h
theorem En{a:Nat}(ha:40≤a)(hi:i≤30)(x y:Nat)(hx:InX i x)(hy:InX i y)(e:sG a x=sG a y):x=y:=by
 unfold InX at hx hy;by_cases h1:x=39;by_cases h2:y=39;rw[h1,h2];rw[h1,mC h2] at e;have e:a=y:=e;omega;by_cases h2:y=39;rw[h2,mC h1] at e;have e:x=a:=e;omega;rw[mC h1,mC h2] at e;exact e
def sD(i a b x:Nat):Nat:=cond (Nat.beq x 1) a (cond (Nat.beq x (i+2)) b x)
theorem sD_1(i a b:Nat):sD i a b 1=a:=rfl
theorem CY(i a b:Nat):sD i a b (i+2)=b:=by
 unfold sD;rw[show Nat.beq (i+2) 1=false by cases e:Nat.beq (i+2) 1 with|false=>rfl|true=>have:=Nat.eq_of_beq_eq_true e;omega,Nat.beq_refl];rfl
theorem qf{i a b x:Nat}(h1:x≠1)(h2:x≠i+2):sD i a b x=x:=by
 unfold sD;rw[show Nat.beq x 1=false by cases e:Nat.beq x 1 with|false=>rfl|true=>exact absurd (Nat.eq_of_beq_eq_true e) h1,show Nat.beq x (i+2)=false by cases e:Nat.beq x (i+2) with|false=>rfl|true=>exact absurd (Nat.eq_of_beq_eq_true e) h2];rfl
theorem Eo{i a b m:Nat}(ha:40≤a)(hb:40≤b)(hab:a≠b)(hm:m≤30)(x y:Nat)(hx:InX m x)(hy:InX m y)(e:sD i a b x=sD i a b y):x=y:=by
 unfold InX at hx hy;by_cases h1:x=1 <;> by_cases h2:y=1;rw[h1,h2];rw[h1,sD_1] at e;by_cases h4:y=i+2;rw[h4,CY] at e;omega;rw[qf h2 h4] at e;omega;rw[h2,sD_1] at e;by_cases h3:x=i+2;rw[h3,CY] at e;omega;rw[qf h1 h3] at e;omega;by_cases h3:x=i+2 <;> by_cases h4:y=i+2;rw[h3,h4];rw[h3,CY,qf h2 h4] at e;omega;rw[h4,CY,qf h1 h3] at e;omega;rw[qf h1 h3,qf h2 h4] at e;exact e
theorem xG{i a b m:Nat}(h:m=(R i).length):rwO R (fun x=>x) i++[[.lsl b 0 m none 3]]=rwO R (sD i a b) (i+1):=by
 subst h;refine List.ext_getElem? fun k=>?_;rw[List.getElem?_append,ku];split
 ·rename_i h
  rw[eU h k rfl,eU (by omega) k rfl,qf (by omega) (by omega)]
 ·rename_i h
  by_cases e:k=i;subst e;rw[Nat.sub_self,eU (by omega) k rfl,CY];rfl;rw[rwO_out (by omega),List.getElem?_eq_none (by simp;omega)]
end
end Go.Abs
namespace Go.Abs
theorem qv{a b:Lq}{m n i:Nat}(ha:∀j,m< j→coP a j=0)(hb:∀j,n< j→coP b j=0)(h:m+n< i):coP (cV a b) i=0:=by
 rw[oQ];exact(oO a b m n ha hb).2 i h
theorem Af {p q p' q' c:Lq} {m n:Nat} (hp:∀j,m< j→coP p j=0) (hq:∀j,n< j→coP q j=0) (hp':∀j,m< j→coP p' j=0) (hq':∀j,n< j→coP q' j=0)
    (h:∀i,i≤m+n→coP (cV q c) i=coP p i) (h':∀i,i≤m+n→coP (cV q' c) i=coP p' i) (t:Rat):aA q' t* aA p t=aA q t* aA p' t:=by
 rw[←cM,←cM];refine fX (fun i=>?_) t;by_cases hi:i≤m+n;rw[←kL (p:=q') fun j hj=>h j (by omega),←kL (p:=q) fun j hj=>h' j (by omega)];exact trim_iff.1 (jY fun x=>by rw[cM,cM,cM,cM];grind) i;rw[qv hq' hp (by omega),qv hq hp' (by omega)]
theorem Cf{p:Lq}{m:Nat}(h:nz p)(hd:dg p≤m):∀j,m< j→coP p j=0:=fun j hj=>(jd h).1.2 j (by omega)
theorem C2 {p q p' q' c:Lq} {m n:Nat} (hp:∀j,m< j→coP p j=0) (nq:nz q) (dq:dg q=n) (hp':∀j,m< j→coP p' j=0) (hq':∀j,n< j→coP q' j=0)
    (h:∀i,i≤m+n→coP (cV q c) i=coP p i) (h':∀i,i≤m+n→coP (cV q' c) i=coP p' i) (hco:∃A B:Lq,∀t,aA A t* aA p t+aA B t* aA q t=1) (h1:aA q 0=1) (h0:aA q' 0=0):∀t,aA q' t=0:=by
 have hx:=Af hp (Cf nq (by omega)) hp' hq' h h';obtain⟨A,B,hAB⟩:=hco;obtain⟨w,hw⟩:∃w,w=kQ (cV A p') (cV B q'):=⟨_,rfl⟩
 have hqw:∀t,aA q' t=aA q t* aA w t:=fun t=>by
  have e1:=hx t;have e2:=hAB t;rw[hw,mh,cM,cM];grind
 by_cases nq':nz q';obtain⟨nq2,nw⟩:nz q∧nz w:=C7 hqw nq';have hd:=(dg_mul' nq nw hqw).2.1
 have hn:dg q'≤n:=by
  obtain⟨⟨e1,_⟩,_⟩:=jd nq';exact Nat.le_of_not_lt fun g=>e1 (hq' _ g)
 obtain⟨⟨e1,e2⟩,_⟩:=jd nw
 have hw0:∀t,aA w t=coP w 0:=fun t=>by
  have:∀i,coP w i=coP [coP w 0] i:=fun i=>by
   cases i with
   |zero=>rfl
   |succ i=>rw[e2 _ (by omega)];rfl
  rw[fX this];show 0* t+coP w 0=_;grind
 intro t;have e3:=hqw 0;rw[h0,h1,hw0] at e3;rw[hqw t,hw0 t];grind;intro t;rw[←dQ,Decidable.byContradiction nq'];rfl
end Go.Abs
