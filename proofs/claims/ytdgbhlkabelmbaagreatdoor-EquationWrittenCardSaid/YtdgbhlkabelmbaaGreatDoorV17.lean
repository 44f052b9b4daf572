/- Part V17 of the proof. -/
import Derived.Test.YtdgbhlkabelmbaaGreatDoorV16
import Derived.Test.YtdgbhlkabelmbaaGreatDoorProg
import Derived.KernelRfl
set_option linter.all false
namespace Go.Abs
set_option maxRecDepth 20000
def rbF(p b:List Rat):List Rat:=if bD b< p.length then cK p (aX b (coP p (bD b).toNat)) else p
def rbK(p:List Rat)(B:List (List Rat)):Nat→List Rat
 |0=>p
 |k+1=>rbF (rbK p B k) (B.getD (B.length- 1- k) [])
def reP(p:List Rat)(B:List (List Rat)):List Rat:=aq (rbK p B B.length)
def qH(L:List (List Rat)):Nat→List (List Rat)
 |0=>L
 |j+1=>if bD (L.getD (j+1) [])< bD (L.getD j []) then qH ((L.set (j+1) (L.getD j [])).set j (L.getD (j+1) [])) j else L
def jJ(L:List (List Rat)):Nat→List (List Rat)
 |0=>L
 |i+1=>qH (jJ L i) (i+1)
theorem zN:∀(j:Nat) (L:List (List Rat)),(qH L j).length=L.length
 |0,L=>rfl
 |j+1,L=>by
  rw[qH];split;rw[zN j];simp;rfl
theorem ma(L:List (List Rat)):∀i,(jJ L i).length=L.length
 |0=>rfl
 |i+1=>by rw[jJ,zN,ma L i]
theorem zM{P:List Rat→Prop}:∀(j:Nat) (L:List (List Rat)),j< L.length→(∀p∈L,P p)→∀p∈qH L j,P p
 |0,L,_,h=>h
 |j+1,L,hl,h=>by
  rw[qH];split;refine zM j _ (by simp;omega) fun p hp=>?_
  have g:∀i,i< L.length→P (L.getD i []):=fun i b=>by
   rw[List.getD_eq_getElem?_getD,List.getElem?_eq_getElem b];exact h _ (List.getElem_mem _)
  rcases List.mem_or_eq_of_mem_set hp with h1|h1
  rcases List.mem_or_eq_of_mem_set h1 with a|a
  exact h p a;rw[a];exact g j (by omega);rw[h1];exact g (j+1) hl;exact h
theorem ud{P:List Rat→Prop}(L:List (List Rat))(h:∀p∈L,P p):∀i,i< L.length→∀p∈jJ L i,P p
 |0,_=>h
 |i+1,hi=>zM _ _ (by rw[ma];omega) (ud L h i (by omega))
theorem DT(L:List (List Rat)):∀i,(∀t,t< i→¬bD (L.getD (t+1) [])< bD (L.getD t []))→jJ L i=L
 |0,_=>rfl
 |i+1,h=>by
  rw[jJ,DT L i fun t ht=>h t (by omega),qH,if_neg (h i (by omega))]
theorem zS(A C:List (List Rat))(x:List Rat):(A++x::C).getD A.length []=x:=by
 rw[List.getD_eq_getElem?_getD,List.getElem?_append_right (Nat.le_refl _)];simp
theorem zO:∀(j:Nat) (A:List (List Rat)) (x:List Rat) (C:List (List Rat)),A.length=j→∃A1 A2,A=A1++A2∧qH (A++x::C) j=A1++x::(A2++C)∧(∀b∈A2,bD x< bD b)∧∀B b,A1=B++[b]→¬bD x< bD b
 |0,A,x,C,hA=>by
  have:A=[]:=List.eq_nil_of_length_eq_zero hA;subst this;exact⟨[],[],rfl,rfl,fun b hb=>by simp at hb,fun B b h=>by simp at h⟩
 |j+1,A,x,C,hA=>by
  obtain⟨a,b,rfl⟩:∃a b,A=a++[b]:=⟨A.dropLast,A.getLast (by intro e;rw[e] at hA;cases hA),(List.dropLast_concat_getLast _).symm⟩;have d:a.length=j:=by simpa using hA
  have e1:(a++[b]++x::C).getD (j+1) []=x:=by
   have:=zS (a++[b]) C x;rwa[List.length_append,List.length_singleton,d] at this
  have e2:(a++[b]++x::C).getD j []=b:=by
   have:=zS a (x::C) b;rw[d] at this;simpa using this
  rw[qH,e1,e2];by_cases hd:bD x< bD b;rw[if_pos hd]
  have i:((a++[b]++x::C).set (j+1) b).set j x=a++x::(b::C):=by
   subst d;simp[List.set_append]
  rw[i];obtain⟨A1,A2,h1,k,f,g⟩:=zO j a x (b::C) d;refine⟨A1,A2++[b],by rw[h1];simp,by rw[k];simp,fun c hc=>?_,g⟩;rcases List.mem_append.1 hc with h|h
  exact f c h;rw[List.mem_singleton.1 h];exact hd;rw[if_neg hd];refine⟨a++[b],[],by simp,by simp,fun c hc=>by simp at hc,fun B c h=>?_⟩;have:=List.append_inj_right' h (by simp);simp at this;rw[←this];exact hd
theorem vI(A:List (List Rat))(x:List Rat)(hs:A.Pairwise fun a b=>bD a< bD b):∃A1 A2,A=A1++A2∧jJ (A++[x]) A.length=A1++x::A2∧(∀b∈A2,bD x< bD b)∧∀b∈A1,bD b≤bD x:=by
 have f:jJ (A++[x]) A.length=qH (A++x::[]) A.length:=by
  cases hA:A.length with
  |zero=>rfl
  |succ j=>
   rw[jJ,DT _ j fun t ht=>?_];have h1:t< A.length:=by omega
   have c:t+1< A.length:=by omega
   rw[List.getD_eq_getElem?_getD,List.getD_eq_getElem?_getD,List.getElem?_append_left h1,List.getElem?_append_left c,List.getElem?_eq_getElem h1,List.getElem?_eq_getElem c];have:=List.pairwise_iff_getElem.1 hs t (t+1) h1 c (by omega);show¬bD A[t+1]< bD A[t];omega
 obtain⟨A1,A2,h1,c,i,g⟩:=zO A.length A x [] rfl;refine⟨A1,A2,h1,by rw[f,c];simp,i,fun b hb=>?_⟩;by_cases he:A1=[];rw[he] at hb;cases hb;have e:=List.dropLast_concat_getLast he;have k:=g _ _ e.symm;rw[h1] at hs;have d:=(List.pairwise_append.1 hs).1;rw[←e] at hb d;rcases List.mem_append.1 hb with h|h
 have:=(List.pairwise_append.1 d).2.2 b h _ (List.mem_singleton.2 rfl);omega;rw[List.mem_singleton.1 h];omega
structure Piv (p:List Rat):Prop where
 tr:aq p=p
 ne:nz p
 one:aS p=1
theorem Piv.deg{p:List Rat}(h:Piv p):bD p=(dg p:Int):=degP_dg h.ne
theorem Piv.len{p:List Rat}(h:Piv p):p.length=dg p+1:=by
 have h1:=List.length_pos_iff.2 h.ne;have a:=h.tr;unfold dg;rw[a] at h1⊢;omega
theorem Piv.at1{p:List Rat}(h:Piv p):coP p (dg p)=1:=by rw[(kK h.ne).2,h.one]
theorem Piv.past{p:List Rat}(h:Piv p){i:Nat}(hi:dg p< i):coP p i=0:=(kK h.ne).1.2 i hi
theorem GB{p:List Rat}{n:Nat}(ht:aq p=p)(h1:coP p n=1)(h2:∀i,n< i→coP p i=0):Piv p∧dg p=n:=by
 obtain⟨a,b,c⟩:=GP (p:=p) (n:=n) ⟨by rw[h1];decide,h2⟩;exact⟨⟨ht,a,by rw[c,h1]⟩,b⟩
theorem nM{p b:List Rat}(hb:Piv b)(i:Nat):coP (rbF p b) i=coP p i- coP p (dg b) * coP b i:=by
 unfold rbF;rw[hb.deg,Int.toNat_natCast];split;rw[cP,bO];grind
 ·rename_i h
  rw[fO (p:=p) (i:=dg b) (by omega)];grind
theorem rbF_len{p b:List Rat}(hb:Piv b):(rbF p b).length≤p.length:=by
 unfold rbF;rw[hb.deg];split;have h1:=tk p (aX b (coP p ((dg b:Nat):Int).toNat));have c:=cL b (coP p ((dg b:Nat):Int).toNat);have a:=hb.len;omega;exact Nat.le_refl _
theorem rbF_bd{p b:List Rat}{s t:Nat}(hb:Piv b)(hp:bdL p s)(hs:1≤s)(hbt:bdL b t)(ht:1≤t):bdL (rbF p b) (2* s+t+1):=lx fun i=>by
 rw[nM hb];have h1:=qw (coP p i) (coP p (dg b) * coP b i);have a:=dK (coP p (dg b)) (coP b i);have d:=eP hp hs i;have c:=eP hp hs (dg b);have e:=eP hbt ht i;omega
def rL(p:List Rat)(B:List (List Rat)):List Rat:=B.reverse.foldl rbF p
theorem sf(p:List Rat)(B:List (List Rat))(b:List Rat):rL p (B++[b])=rL (rbF p b) B:=by
 unfold rL;rw[List.reverse_append];rfl
theorem y8(p:List Rat)(B:List (List Rat))(b:List Rat):∀k,k≤B.length→rbK p (B++[b]) (k+1)=rbK (rbF p b) B k
 |0,_=>by
  rw[rbK,rbK,rbK];congr 1;rw[List.getD_eq_getElem?_getD,List.length_append,List.length_singleton,show B.length+1- 1- 0=B.length by omega,List.getElem?_append_right (Nat.le_refl _)];simp
 |k+1,h=>by
  rw[rbK,y8 p B b k (by omega),rbK];congr 1;rw[List.getD_eq_getElem?_getD,List.getD_eq_getElem?_getD,List.length_append,List.length_singleton,show B.length+1- 1- (k+1)=B.length- 1- k by omega,List.getElem?_append_left (by omega)]
theorem Dx:∀(n:Nat) (B:List (List Rat)) (p:List Rat),B.length=n→rbK p B n=rL p B
 |0,B,p,h=>by
  rw[List.eq_nil_of_length_eq_zero h];rfl
 |n+1,B,p,h=>by
  obtain⟨C,b,rfl⟩:∃C b,B=C++[b]:=⟨B.dropLast,B.getLast (by intro e;rw[e] at h;cases h),(List.dropLast_concat_getLast _).symm⟩;have a:C.length=n:=by simpa using h
  rw[y8 p C b n (by omega),Dx n C _ a,sf]
theorem lc(p:List Rat)(B:List (List Rat)):reP p B=aq (rL p B):=by unfold reP;rw[Dx _ B p rfl]
theorem tP{Q H:List Rat→Prop}(hQ:∀p b c r,Q p→H b→(∀i,coP r i=coP p i- c* coP b i)→Q r):∀(n:Nat) (B:List (List Rat)) (p:List Rat),B.length=n→(∀b∈B,Piv b∧H b)→Q p→Q (rL p B)
 |0,B,p,h,_,hp=>by rw[List.eq_nil_of_length_eq_zero h];exact hp
 |n+1,B,p,h,hB,hp=>by
  obtain⟨C,b,rfl⟩:∃C b,B=C++[b]:=⟨B.dropLast,B.getLast (by intro e;rw[e] at h;cases h),(List.dropLast_concat_getLast _).symm⟩;have a:C.length=n:=by simpa using h
  obtain⟨b1,b2⟩:=hB b (by simp);rw[sf];exact tP hQ n C _ a (fun c hc=>hB c (List.mem_append_left _ hc)) (hQ p b _ _ hp b2 fun i=>nM b1 i)
theorem rL_keep{i:Nat}{B:List (List Rat)}{p:List Rat}(hB:∀b∈B,Piv b)(hi:∀b∈B,coP b i=0):coP (rL p B) i=coP p i:=
 tP (Q:=fun r=>coP r i=coP p i) (H:=fun b=>coP b i=0) (fun q b c r a hb d=>by rw[d,a,hb];grind) B.length B p rfl (fun b hb=>⟨hB b hb,hi b hb⟩) rfl
def Up(B:List (List Rat)):Prop:=B.Pairwise fun a b=>bD a< bD b
theorem o7:∀(n:Nat) (B:List (List Rat)) (p:List Rat),B.length=n→(∀b∈B,Piv b)→Up B→∀b∈B,coP (rL p B) (dg b)=0
 |0,B,p,h,_,_=>by rw[List.eq_nil_of_length_eq_zero h];exact fun b hb=>by cases hb
 |n+1,B,p,h,hB,hU=>by
  obtain⟨C,c,rfl⟩:∃C b,B=C++[b]:=⟨B.dropLast,B.getLast (by intro e;rw[e] at h;cases h),(List.dropLast_concat_getLast _).symm⟩;have i:C.length=n:=by simpa using h
  have hc:=hB c (by simp);have f:=List.pairwise_append.1 hU;intro b hb;rw[sf];rcases List.mem_append.1 hb with h1|h1
  exact o7 n C _ i (fun x a=>hB x (List.mem_append_left _ a)) f.1 b h1;rw[List.mem_singleton.1 h1,rL_keep (fun x a=>hB x (List.mem_append_left _ a)) fun x a=>?_,nM hc,hc.at1];grind;have d:=hB x (List.mem_append_left _ a);have g:=f.2.2 x a c (List.mem_singleton.2 rfl);rw[d.deg,hc.deg] at g;exact d.past (by omega)
def rbB(s t:Nat):Nat→Nat
 |0=>s
 |k+1=>2* rbB s t k+t+1
theorem xk(s t k:Nat):s≤rbB s t k:=by
 induction k with
 |zero=>exact Nat.le_refl _
 |succ k a=>rw[rbB];omega
theorem y9(s t:Nat){k n:Nat}(h:k≤n):rbB s t k≤rbB s t n:=by
 induction n with
 |zero=>rw[show k=0 by omega];exact Nat.le_refl _
 |succ n a=>
  by_cases e:k=n+1;rw[e];exact Nat.le_refl _;have:=a (by omega);rw[rbB];omega
theorem py{B:List (List Rat)}{i:Nat}(h:i< B.length):B.getD i []∈B:=by
 rw[List.getD_eq_getElem?_getD,List.getElem?_eq_getElem h];exact List.getElem_mem _
theorem xj{p:List Rat}{B:List (List Rat)}{s t:Nat}(hB:∀b∈B,Piv b)(hp:bdL p s)(hs:1≤s)(hbt:∀b∈B,bdL b t)(ht:1≤t):∀k,k≤B.length→bdL (rbK p B k) (rbB s t k)∧(rbK p B k).length≤p.length
 |0,_=>⟨hp,Nat.le_refl _⟩
 |k+1,h=>by
  obtain⟨h1,c⟩:=xj hB hp hs hbt ht k (by omega);have a:=py (B:=B) (i:=B.length- 1- k) (by omega);have d:=xk s t k;rw[rbK,rbB];exact⟨rbF_bd (hB _ a) h1 (by omega) (hbt _ a) ht,Nat.le_trans (rbF_len (hB _ a)) c⟩
def ecP(q:List Rat):List Rat:=aX q (1/ aS q)
def ecT(out:List (List Rat))(p:List Rat):List (List Rat):=if bD (reP p out)< 0 then out else jJ (out.map (fun o=>reP o [ecP (reP p out)])++[ecP (reP p out)]) out.length
def ecK(l:List (List Rat)):Nat→List (List Rat)
 |0=>[]
 |k+1=>ecT (ecK l k) (l.getD k [])
def ecL(l:List (List Rat)):List (List Rat):=ecK l l.length
theorem pW{q:List Rat}(h:nz q):Piv (ecP q)∧dg (ecP q)=dg q:=by
 obtain⟨h1,c⟩:=kK h;have b:aS q≠0:=fZ h;refine GB (by unfold ecP aX;rw[eU]) ?_ fun i d=>?_;unfold ecP;rw[bO,c];have:=Rat.div_mul_cancel (a:=1) b;grind;unfold ecP;rw[bO,h1.2 i d];grind
theorem Gs(o q:List Rat):rL o [q]=rbF o q:=rfl
theorem uI{o q:List Rat}(ho:Piv o)(hq:Piv q)(hd:dg o≠dg q):Piv (reP o [q])∧dg (reP o [q])=dg o:=by
 have hc:∀i,coP (reP o [q]) i=coP o i- coP o (dg q) * coP q i:=fun i=>by rw[lc,b5,Gs,nM hq]
 refine GB (by rw[lc,eU]) ?_ fun i a=>?_;rw[hc,ho.at1];by_cases h:dg q< dg o;rw[hq.past h];grind;rw[ho.past (by omega)];grind;rw[hc,ho.past a];by_cases h:dg q< dg o;rw[hq.past (by omega)];grind;rw[ho.past (by omega)];grind
structure Bas (B:List (List Rat)):Prop where
 piv:∀b∈B,Piv b
 up:Up B
theorem FL{B:List (List Rat)}{f:List Rat→List Rat}(h:Bas B)(hf:∀b∈B,Piv (f b)∧dg (f b)=dg b):Up (B.map f):=by
 unfold Up;rw[List.pairwise_map];refine List.Pairwise.imp_of_mem (fun{a b} ha hb hab=>?_) h.up;rw[(hf a ha).1.deg,(hf b hb).1.deg,(hf a ha).2,(hf b hb).2,←(h.piv a ha).deg,←(h.piv b hb).deg];exact hab
theorem ecT_bas{out:List (List Rat)}{p:List Rat}(h:Bas out):Bas (ecT out p):=by
 unfold ecT;split;exact h
 ·rename_i r
  have i:nz (reP p out):=Classical.byContradiction fun e=>r (degP_nil.2 e);obtain⟨q1,q2⟩:=pW i
  have k:∀b∈out,dg b≠dg (ecP (reP p out)):=fun b hb e=>by
   have h1:=o7 out.length out p rfl h.piv h.up b hb;have j:=(kK i).1.1;rw[←q2,←e,lc,b5] at j;exact j h1
  generalize v:ecP (reP p out)=q at *
  have hf:∀b∈out,Piv (reP b [q])∧dg (reP b [q])=dg b:=fun b hb=>uI (h.piv b hb) q1 (k b hb);have f:=FL h hf
  have hp:∀b∈out.map (fun o=>reP o [q]),Piv b∧dg b≠dg q:=fun b hb=>by
   obtain⟨o,d,rfl⟩:=List.mem_map.1 hb;exact⟨(hf o d).1,by rw[(hf o d).2];exact k o d⟩
  obtain⟨u,s,e1,e2,m,l⟩:=vI (out.map (fun o=>reP o [q])) q f;rw[List.length_map] at e2;rw[e2];rw[e1] at f hp;have c:=List.pairwise_append.1 f;refine⟨fun b hb=>?_,List.pairwise_append.2 ⟨c.1,List.pairwise_cons.2 ⟨m,c.2.1⟩,fun a ha b hb=>?_⟩⟩;rcases List.mem_append.1 hb with g|g
  exact(hp b (List.mem_append_left _ g)).1;rcases List.mem_cons.1 g with g|g
  rw[g];exact q1;exact(hp b (List.mem_append_right _ g)).1;rcases List.mem_cons.1 hb with g|g
  rw[g];obtain⟨n,t⟩:=hp a (List.mem_append_left _ ha);have:=l a ha;rw[n.deg,q1.deg] at this⊢;omega;exact c.2.2 a ha b g
theorem jf(l:List (List Rat)):∀k,Bas (ecK l k)
 |0=>⟨fun b hb=>(by cases hb),List.Pairwise.nil⟩
 |k+1=>ecT_bas (jf l k)
theorem ecT_len(out:List (List Rat))(p:List Rat):(ecT out p).length≤out.length+1:=by
 unfold ecT;split;omega;rw[ma];simp
theorem pX(l:List (List Rat)):∀k,(ecK l k).length≤k
 |0=>Nat.le_refl _
 |k+1=>by
  have h1:=pX l k;have a:=ecT_len (ecK l k) (l.getD k []);rw[ecK];omega
theorem xF{P:List Rat→Prop}{out:List (List Rat)}{p:List Rat}(h0:∀b∈out,bD (reP p out)< 0→P b)(h1:∀b∈out,¬bD (reP p out)< 0→P (reP b [ecP (reP p out)]))(h2:¬bD (reP p out)< 0→P (ecP (reP p out))):∀b∈ecT out p,P b:=by
 unfold ecT;split
 ·rename_i h;exact fun b hb=>h0 b hb h
 ·rename_i h
  refine ud _ (fun b hb=>?_) _ (by simp);rcases List.mem_append.1 hb with g|g
  obtain⟨o,a,rfl⟩:=List.mem_map.1 g;exact h1 o a h;rw[List.mem_singleton.1 g];exact h2 h
theorem yk{Q:List Rat→Prop}(hQ:∀p b c r,Q p→Q b→(∀i,coP r i=coP p i- c* coP b i)→Q r)(h0:Q [])(l:List (List Rat))(hl:∀p∈l,Q p):∀k,∀b∈ecK l k,Q b
 |0=>fun b hb=>(by cases hb)
 |k+1=>by
  have a:=yk hQ h0 l hl k;have hB:=jf l k
  have hp:Q (l.getD k []):=by
   by_cases h:k< l.length;exact hl _ (py h);rw[List.getD_eq_getElem?_getD,List.getElem?_eq_none (by omega)];exact h0
  have hs:∀p q,Q p→(∀i,coP q i=coP p i)→Q q:=fun p q h1 d=>hQ p [] 0 q h1 h0 fun i=>by rw[d];grind
  have f:∀p B,Q p→(∀b∈B,Piv b∧Q b)→Q (reP p B):=fun p B h1 d=>by
   rw[lc];exact hs (rL p B) _ (tP hQ B.length B p rfl d h1) (b5 _)
  have m:=f _ _ hp fun b hb=>⟨hB.piv b hb,a b hb⟩
  have g:¬bD (reP (l.getD k []) (ecK l k))< 0→Q (ecP (reP (l.getD k []) (ecK l k))):=fun _=>hQ [] _ (-(1/ aS (reP (l.getD k []) (ecK l k)))) _ h0 m fun i=>by
   unfold ecP;rw[bO,show coP [] i=0 from rfl];grind
  rw[ecK];refine xF (fun b hb _=>a b hb) (fun b hb j=>?_) g;refine f b _ (a b hb) fun c hc=>?_;rw[List.mem_singleton.1 hc];exact⟨(pW (Classical.byContradiction fun e=>j (degP_nil.2 e))).1,g j⟩
def ecB(s:Nat):Nat→Nat
 |0=>1
 |k+1=>2* ecB s k+2* rbB s (ecB s k) k+2
theorem yl(s k:Nat):1≤ecB s k:=by
 cases k with
 |zero=>exact Nat.le_refl _
 |succ k=>rw[ecB];omega
theorem HZ(s:Nat){k n:Nat}(h:k≤n):ecB s k≤ecB s n:=by
 induction n with
 |zero=>rw[show k=0 by omega];exact Nat.le_refl _
 |succ n a=>
  by_cases e:k=n+1;rw[e];exact Nat.le_refl _;have:=a (by omega);rw[ecB];omega
theorem tN{p:List Rat}{B:List (List Rat)}{s t:Nat}(hB:∀b∈B,Piv b)(hp:bdL p s)(hs:1≤s)(hbt:∀b∈B,bdL b t)(ht:1≤t){k:Nat}(hk:B.length≤k):bdL (reP p B) (rbB s t k)∧(reP p B).length≤p.length:=by
 obtain⟨h1,c⟩:=xj hB hp hs hbt ht B.length (Nat.le_refl _);unfold reP;exact⟨fun q a=>Nat.le_trans (AQ h1 q a) (y9 s t hk),Nat.le_trans (bF _) c⟩
theorem HY{q:List Rat}{u:Nat}(h:bdL q u)(hu:1≤u):bdL (ecP q) (2* u+1)∧(ecP q).length≤q.length:=by
 refine⟨?_,cL _ _⟩;have h1:=sD h hu;have b:=gO 1 (aS q);have d:qs 1≤1:=by decide
 have c:=fJ (k:=1/ aS q) h hu (Nat.le_trans b (show qs 1+qs (aS q)≤1+u by omega));exact fun x a=>Nat.le_trans (c x a) (by omega)
theorem yj{l:List (List Rat)}{s n:Nat}(hs:1≤s)(hl:∀p∈l,bdL p s∧p.length≤n):∀k,∀b∈ecK l k,bdL b (ecB s k)∧b.length≤n
 |0=>fun b hb=>(by cases hb)
 |k+1=>by
  have f:=yj hs hl k;have hB:=jf l k;have g:=pX l k;have a:=yl s k
  have hp:bdL (l.getD k []) s∧(l.getD k []).length≤n:=by
   by_cases h:k< l.length;exact hl _ (py h);rw[List.getD_eq_getElem?_getD,List.getElem?_eq_none (by omega)];exact⟨fun q d=>(by cases d),Nat.zero_le _⟩
  obtain⟨m,o⟩:=tN hB.piv hp.1 hs (fun b hb=>(f b hb).1) a g;have r:=xk s (ecB s k) k;obtain⟨e1,e2⟩:=HY m (by omega);rw[ecK];refine xF (fun b hb _=>⟨fun q d=>Nat.le_trans ((f b hb).1 q d) (by rw[ecB];omega),(f b hb).2⟩) (fun b hb j=>?_) fun j=>⟨fun q d=>Nat.le_trans (e1 q d) (by rw[ecB];omega),by omega⟩;have i:=(pW (q:=reP (l.getD k []) (ecK l k)) (Classical.byContradiction fun e=>j (degP_nil.2 e))).1;obtain⟨o1,o2⟩:=tN (p:=b) (B:=[ecP (reP (l.getD k []) (ecK l k))]) (t:=2* rbB s (ecB s k) k+1) (k:=1) (fun c hc=>by rw[List.mem_singleton.1 hc];exact i) (f b hb).1 a (fun c hc=>by rw[List.mem_singleton.1 hc];exact e1) (by omega) (Nat.le_refl _);exact⟨fun q d=>Nat.le_trans (o1 q d) (by rw[rbB,rbB,ecB];omega),Nat.le_trans o2 (f b hb).2⟩
section
variable {k:Ke}{G u:List Rat}{L:Rat}{n:Nat}
end
section
variable {k:Ke}{G:List Rat}{L a x:Rat}(hl:k.length≤3)(h4:∀p∈k,p.1.length≤4∧p.2.length≤4)(hb:∀p∈k,bdL p.1 20∧bdL p.2 20)(hg:G.length≤5)(bg:bdL G 20)(qL:qs L≤20)(qa:qs a≤20)(qx:qs x≤20)
include hl h4 hb hg bg qL qa
end


inductive Spn (B:List (List Rat)):List Rat→Prop
 |zero {u:List Rat}:(∀i,coP u i=0)→Spn B u
 |step {p b r:List Rat} {c:Rat}:Spn B p→b∈B→(∀i,coP r i=coP p i- c* coP b i)→Spn B r
section
variable {B C:List (List Rat)}
theorem Spn.ext{u v:List Rat}(h:Spn B u)(e:∀i,coP v i=coP u i):Spn B v:=by
 induction h generalizing v with
 |zero h=>exact .zero fun i=>by rw[e,h]
 |step h1 a c b=>exact .step (b fun i=>rfl) a fun i=>by rw[e,c]
theorem Spn.comb{p q r:List Rat}{c:Rat}(hp:Spn B p)(hq:Spn B q)(h:∀i,coP r i=coP p i- c* coP q i):Spn B r:=by
 induction hq generalizing p r c with
 |zero b=>exact hp.ext fun i=>by rw[h,b];grind
 | @step p1 b1 r1 c1 h1 h2 h3 ih=>
  -- r=(p+c c1 b1)- c p1
  have e:∀i,coP (cK p (aX b1 (-(c* c1)))) i=coP p i- (-(c* c1)) * coP b1 i:=fun i=>by rw[cP,bO];grind
  have a:Spn B (cK p (aX b1 (-(c* c1)))):= .step hp h2 e;exact ih (c:=c) a fun i=>by rw[h,h3,e];grind
theorem Spn.of{b:List Rat}(hb:b∈B):Spn B b:= .step (c:= -1) (p:=[]) (.zero fun i=>rfl) hb fun i=>by rw[show coP [] i=0 from rfl];grind
theorem Spn.mono{u:List Rat}(h:Spn B u)(hB:∀b∈B,Spn C b):Spn C u:=by
 induction h with
 |zero h=>exact .zero h
 |step h1 a d c=>exact c.comb (hB _ a) d
theorem Spn.closed{Q:List Rat→Prop}(h0:∀u,(∀i,coP u i=0)→Q u)(hQ:∀p b c r,Q p→Q b→(∀i,coP r i=coP p i- c* coP b i)→Q r){u:List Rat}(h:Spn B u)(hB:∀b∈B,Q b):Q u:=by
 induction h with
 |zero h=>exact h0 _ h
 |step h1 a e d=>exact hQ _ _ _ _ d (hB _ a) e
theorem Spn.last{b u:List Rat}(h:Spn (C++[b]) u):∃(c:Rat) (v:List Rat),Spn C v∧∀i,coP u i=coP v i- c* coP b i:=by
 induction h with
 | @zero u h=>exact⟨0,u,.zero h,fun i=>by grind⟩
 | @step p b1 r c1 h1 h2 h3 ih=>
  obtain⟨c,v,hv,e⟩:=ih;rcases List.mem_append.1 h2 with g|g
  refine⟨c,cK v (aX b1 c1),.step (c:=c1) hv g fun i=>by rw[cP,bO];grind,fun i=>?_⟩;rw[h3,e,cP,bO];grind;have:b1=b:=by simpa using g
  subst this;exact⟨c+c1,v,hv,fun i=>by rw[h3,e];grind⟩
theorem Spn.past{u:List Rat}{n:Nat}(h:Spn B u)(hB:∀b∈B,∀i,n≤i→coP b i=0):∀i,n≤i→coP u i=0:=fun i e=>
 h.closed (Q:=fun u=>coP u i=0) (fun u d=>d i) (fun p b c r hp hb a=>by rw[a,hp,hb];grind) fun b hb=>hB b hb i e
end
theorem mJ:∀(n:Nat) (B:List (List Rat)) (u:List Rat),B.length=n→Bas B→Spn B u→(∀b∈B,coP u (dg b)=0)→∀i,coP u i=0
 |0,B,u,hn,_,h,_=>by
  have:B=[]:=List.eq_nil_of_length_eq_zero hn;subst this;cases h with
  |zero h=>exact h
  |step h1 f l=>cases f
 |n+1,B,u,hn,hB,h,hz=>by
  obtain⟨C,b,rfl⟩:∃C b,B=C++[b]:=⟨B.dropLast,B.getLast (by intro e;rw[e] at hn;cases hn),(List.dropLast_concat_getLast _).symm⟩;have k:C.length=n:=by simpa using hn
  have hb:=hB.piv b (by simp);have j:=List.pairwise_append.1 hB.up
  have g:∀x∈C,∀i,dg b≤i→coP x i=0:=fun x a i m=>by
   have h1:=hB.piv x (List.mem_append_left _ a);have f:=j.2.2 x a b (List.mem_singleton.2 rfl);rw[h1.deg,hb.deg] at f;exact h1.past (by omega)
  obtain⟨c,v,hv,e⟩:=h.last;have h1:=hz b (by simp);rw[e,hv.past g _ (Nat.le_refl _),hb.at1] at h1;have hc:c=0:=by grind
  subst hc;have d:Bas C:=⟨fun x a=>hB.piv x (List.mem_append_left _ a),j.1⟩;have e2:∀i,coP u i=coP v i:=fun i=>by rw[e];grind
  have:=mJ n C v k d hv fun x a=>by rw[←e2];exact hz x (List.mem_append_left _ a)
  exact fun i=>by rw[e2,this]
def FB(B:List (List Rat)):Prop:=∀b∈B,∀d∈B,dg b≠dg d→coP b (dg d)=0
theorem Dy{B:List (List Rat)}(hB:∀b∈B,Piv b)(p:List Rat):Spn B (cK p (rL p B)):=
 tP (Q:=fun r=>Spn B (cK p r)) (H:=fun b=>b∈B) (fun q b c r a hb d=>a.comb (c:= -c) (Spn.of hb) fun i=>by rw[cP,cP,d];grind) B.length B p rfl (fun b hb=>⟨hB b hb,hb⟩) (.zero fun i=>by rw[cP];grind)
theorem yQ{B:List (List Rat)}{u:List Rat}(hB:Bas B)(h:Spn B u)(hu:nz u):∃b∈B,dg b=dg u:=by
 refine Classical.byContradiction fun g=>?_;have f:∀b∈B,dg b≠dg u:=fun b hb e=>g ⟨b,hb,e⟩
 -- what u reduces to is 0,but its leading coefficient stays
 have h1:=o7 B.length B u rfl hB.piv hB.up;have t:Spn B (rL u B):=(h.comb (c:=1) (Dy hB.piv u) fun i=>by rw[cP];grind);have m:=mJ B.length B (rL u B) rfl hB t h1;obtain⟨d1,d2⟩:=kK hu
 -- the part of B below and above
 have d:∀(n:Nat) (B:List (List Rat)) (p:List Rat),B.length=n→(∀b∈B,Piv b∧dg b≠dg u)→Up B→coP p (dg u)≠0→(∀i,dg u< i→coP p i=0)→coP (rL p B) (dg u)≠0:=fun n=>by
  induction n with
  |zero=>intro B p a _ _ hp _;rw[List.eq_nil_of_length_eq_zero a];exact hp
  |succ n l=>
   intro B p a k q hp j;obtain⟨C,b,rfl⟩:∃C b,B=C++[b]:=⟨B.dropLast,B.getLast (by intro e;rw[e] at a;cases a),(List.dropLast_concat_getLast _).symm⟩;have o:C.length=n:=by simpa using a
   obtain⟨hb,v⟩:=k b (by simp);rw[sf];refine l C _ o (fun x r=>k x (List.mem_append_left _ r)) (List.pairwise_append.1 q).1 ?_ fun i s=>?_;rw[nM hb];by_cases g:dg b< dg u;rw[hb.past g];intro e;exact hp (by grind);rw[j (dg b) (by omega)];intro e;exact hp (by grind);rw[nM hb,j i s];by_cases g:dg b< dg u;rw[hb.past (show dg b< i by omega)];grind;rw[j (dg b) (by omega)];grind
 exact d B.length B u rfl (fun b hb=>⟨hB.piv b hb,f b hb⟩) hB.up d1.1 d1.2 (m _)
theorem up_dg{B:List (List Rat)}(h:Bas B):(B.map dg).Pairwise (· < ·):=by
 rw[List.pairwise_map];refine List.Pairwise.imp_of_mem (fun{a b} ha hb hab=>?_) h.up;rw[(h.piv a ha).deg,(h.piv b hb).deg] at hab;omega
theorem FK:∀{l m:List Nat},l.Pairwise (· < ·)→m.Pairwise (· < ·)→(∀x,x∈l↔x∈m)→l=m
 |[],[],_,_,_=>rfl
 |[],b::m,_,_,h=>by have:=(h b).2 (List.mem_cons_self ..);cases this
 |a::l,[],_,_,h=>by have:=(h a).1 (List.mem_cons_self ..);cases this
 |a::l,b::m,h1,h2,h=>by
  obtain⟨f,i⟩:=List.pairwise_cons.1 h1;obtain⟨b1,b2⟩:=List.pairwise_cons.1 h2
  have e:a=b:=by
   rcases List.mem_cons.1 ((h a).1 (List.mem_cons_self ..)) with g|g
   exact g;rcases List.mem_cons.1 ((h b).2 (List.mem_cons_self ..)) with d|d
   exact d.symm;have:=f b d;have:=b1 a g;omega
  subst e;rw[FK i b2 fun x=>?_];constructor;intro c;rcases List.mem_cons.1 ((h x).1 (List.mem_cons_of_mem _ c)) with g|g
  have:=f x c;omega;exact g;intro c;rcases List.mem_cons.1 ((h x).2 (List.mem_cons_of_mem _ c)) with g|g
  have:=b1 x c;omega;exact g
theorem C1{B C:List (List Rat)}(hB:Bas B)(hC:Bas C)(rB:FB B)(rC:FB C)(h:∀u,Spn B u↔Spn C u):B=C:=by
 have q:B.map dg=C.map dg:=FK (up_dg hB) (up_dg hC) fun x=>by
  constructor;intro l;obtain⟨b,hb,rfl⟩:=List.mem_map.1 l;obtain⟨c,hc,e⟩:=yQ hC ((h b).1 (Spn.of hb)) (hB.piv b hb).ne;rw[←e];exact List.mem_map_of_mem hc;intro l;obtain⟨c,hc,rfl⟩:=List.mem_map.1 l;obtain⟨b,hb,e⟩:=yQ hB ((h c).2 (Spn.of hc)) (hC.piv c hc).ne;rw[←e];exact List.mem_map_of_mem hb
 have k:B.length=C.length:=by have:=congrArg List.length q;simpa using this
 refine List.ext_getElem k fun i h1 p=>?_;have hb:B[i]∈B:=List.getElem_mem _;have hc:C[i]∈C:=List.getElem_mem _
 have a:∀j (m:j< B.length) (o:j< C.length),dg B[j]=dg C[j]:=fun j m o=>by
  have n:(B.map dg)[j]?=(C.map dg)[j]?:=by rw[q]
  rw[List.getElem?_map,List.getElem?_map,List.getElem?_eq_getElem m,List.getElem?_eq_getElem o] at n;exact Option.some.inj n
 have s:=mJ B.length B (cK B[i] C[i]) rfl hB ((Spn.of hb).comb (c:=1) ((h _).2 (Spn.of hc)) fun j=>by rw[cP];grind) fun d g=>by
  rw[cP];obtain⟨j,r,rfl⟩:=List.mem_iff_getElem.1 g;have f:j< C.length:=by omega
  by_cases e:dg B[i]=dg B[j];rw[←e,(hB.piv _ hb).at1,a i h1 p,(hC.piv _ hc).at1];grind;rw[rB _ hb _ g e,a j r f,rC _ hc C[j] (List.getElem_mem _) (by rw[←a j r f,←a i h1 p];exact e)];grind
 have e:aq B[i]=aq C[i]:=gi fun x=>gE (fun j=>by have:=s j;rw[cP] at this;grind) x;rw[(hB.piv _ hb).tr,(hC.piv _ hc).tr] at e;exact e
theorem Gq{B:List (List Rat)}{u v:List Rat}(hB:Bas B)(h:Spn B (cK u v))(hu:∀b∈B,coP u (dg b)=0)(hv:∀b∈B,coP v (dg b)=0):aq u=aq v:=by
 have a:=mJ B.length B (cK u v) rfl hB h fun b hb=>by rw[cP,hu b hb,hv b hb];grind
 exact gi fun x=>gE (fun j=>by have:=a j;rw[cP] at this;grind) x
theorem ecT_red{out:List (List Rat)}{p:List Rat}(h:Bas out)(hr:FB out):FB (ecT out p)∧(∀b∈out,Spn (ecT out p) b)∧Spn (ecT out p) p:=by
 have k:Spn out (cK p (reP p out)):=by rw[lc];exact(Dy h.piv p).ext fun i=>by rw[cP,cP,b5]
 by_cases hd:bD (reP p out)< 0;have e:ecT out p=out:=by unfold ecT;rw[if_pos hd]
 rw[e];refine⟨hr,fun b hb=>Spn.of hb,k.ext fun i=>?_⟩
 have:aq (reP p out)=[]:=by
  have:=degP_nil.1 hd;unfold nz at this;exact Decidable.byContradiction this
 rw[cP,←b5 (reP p out),this,show coP [] i=0 from rfl];grind;have w:nz (reP p out):=Classical.byContradiction fun e=>hd (degP_nil.2 e);obtain⟨q1,q2⟩:=pW w
 have l:∀b∈out,coP (ecP (reP p out)) (dg b)=0:=fun b hb=>by
  have h1:=o7 out.length out p rfl h.piv h.up b hb;unfold ecP;rw[bO,lc,b5,h1];grind
 have v:∀i,coP (reP p out) i=aS (reP p out) * coP (ecP (reP p out)) i:=fun i=>by
  unfold ecP;rw[bO];have:=Rat.div_mul_cancel (a:=1) (fZ w);grind
 have z:∀b∈out,dg b≠dg (ecP (reP p out)):=fun b hb e=>by
  have h1:=l b hb;rw[e,q1.at1] at h1;exact absurd h1 (by decide)
 have j:∀x,x∈ecT out p→(∃o∈out,x=reP o [ecP (reP p out)])∨x=ecP (reP p out):=xF (P:=fun x=>(∃o∈out,x=reP o [ecP (reP p out)])∨x=ecP (reP p out)) (fun b hb h=>absurd h hd) (fun b hb _=> .inl ⟨b,hb,rfl⟩) fun _=> .inr rfl
 have r:(∀o∈out,reP o [ecP (reP p out)]∈ecT out p)∧ecP (reP p out)∈ecT out p:=by
  have E:=FL h (f:=fun o=>reP o [ecP (reP p out)]) fun b hb=>uI (h.piv b hb) q1 (z b hb);obtain⟨C,A,e1,e2,_,_⟩:=vI (out.map fun o=>reP o [ecP (reP p out)]) (ecP (reP p out)) E
  have e:ecT out p=C++ecP (reP p out)::A:=by
   unfold ecT;rw[if_neg hd,←e2,List.length_map]
  rw[e];refine⟨fun o u=>?_,by simp⟩;have:=List.mem_map_of_mem (f:=fun o=>reP o [ecP (reP p out)]) u;rw[e1] at this;rcases List.mem_append.1 this with g|g
  exact List.mem_append_left _ g;exact List.mem_append_right _ (List.mem_cons_of_mem _ g)
 generalize hQ:ecP (reP p out)=q at *
 have n:∀o i,coP (reP o [q]) i=coP o i- coP o (dg q) * coP q i:=fun o i=>by rw[lc,b5,Gs,nM q1]
 have u:∀b∈out,Spn (ecT out p) b:=fun b hb=>(Spn.of (r.1 b hb)).comb (c:= -coP b (dg q)) (Spn.of r.2) fun i=>by rw[n];grind
 refine⟨fun x D y B m=>?_,u,((k.mono u).comb (c:= -aS (reP p out)) (Spn.of r.2) fun i=>by rw[cP,v];grind)⟩;have d:∀o∈out,dg (reP o [q])=dg o:=fun o h1=>(uI (h.piv o h1) q1 (z o h1)).2;rcases j x D with⟨o,h1,rfl⟩|rfl <;> rcases j y B with⟨s,t,rfl⟩|rfl
 rw[d o h1,d s t] at m;rw[d s t,n,hr o h1 s t m,l s t];grind;rw[n,q1.at1];grind;rw[d s t];exact l s t;exact absurd rfl m
theorem Ed(l:List (List Rat)):∀k,FB (ecK l k)∧∀j,j< k→Spn (ecK l k) (l.getD j [])
 |0=>⟨fun b hb=>(by cases hb),fun j a=>by omega⟩
 |k+1=>by
  obtain⟨h1,c⟩:=Ed l k;obtain⟨g,d,f⟩:=ecT_red (p:=l.getD k []) (jf l k) h1;rw[ecK];refine⟨g,fun j a=>?_⟩;by_cases e:j=k;rw[e];exact f;exact(c j (by omega)).mono d
theorem ecL_span{l:List (List Rat)}:FB (ecL l)∧∀u,Spn (ecL l) u↔Spn l u:=by
 obtain⟨h1,d⟩:=Ed l l.length;refine⟨h1,fun u=>⟨fun h=>h.mono fun b hb=>?_,fun h=>h.mono fun p hp=>?_⟩⟩;exact yk (Q:=Spn l) (fun p b c r hp hb h=>hp.comb hb h) (.zero fun i=>rfl) l (fun p hp=>Spn.of hp) _ b hb;obtain⟨j,a,rfl⟩:=List.mem_iff_getElem.1 hp;have:=d j a;rwa[List.getD_eq_getElem?_getD,List.getElem?_eq_getElem a] at this
end Go.Abs
namespace Go.Proofs.YtdgbhlkabelmbaaGreatDoor
open Go.Abs
set_option maxRecDepth 20000
theorem a6:Tryz.prog.follows .mixedOrders=true:=by kernel_rfl
instance:T4 Tryz.prog 2 [Value.int IntKind.i64 0] 1 false 8:=⟨by kernel_rfl⟩
instance tu_2:TU Tryz.prog 2 (.int .i64):=⟨by kernel_rfl⟩
instance:T4 Tryz.prog 3 [Value.int IntKind.i64 0] 1 false 8:=⟨by kernel_rfl⟩
instance tu_3:TU Tryz.prog 3 (.int .i64):=⟨by kernel_rfl⟩
instance:T4 Tryz.prog 4 [Value.bool false] 1 false 1:=⟨by kernel_rfl⟩
instance tu_4:TU Tryz.prog 4 .bool:=⟨by kernel_rfl⟩
instance:T4 Tryz.prog 5 [Value.int IntKind.u8 0] 1 false 1:=⟨by kernel_rfl⟩
instance tu_5:TU Tryz.prog 5 (.int .u8):=⟨by kernel_rfl⟩
instance:T3 Tryz.prog 9 1 false 16:=⟨by kernel_rfl⟩
instance tu_9:TU Tryz.prog 9 .string:=⟨by kernel_rfl⟩
instance:T4 Tryz.prog 22 [Value.slice none 0 0] 1 false 24:=⟨by kernel_rfl⟩
instance te_22:TE Tryz.prog 22 (117,2):=⟨by kernel_rfl⟩
instance:T4 Tryz.prog 24 [Value.int IntKind.i64 0,Value.int IntKind.i64 0,Value.int IntKind.u8 0] 3 true 24:=⟨by kernel_rfl⟩
instance tp_24:TP Tryz.prog 24 [(0,1),(1,1),(2,1)]:=⟨by kernel_rfl⟩
instance:T2 Tryz.prog 24 0 (0,1) false:=⟨by kernel_rfl⟩
instance:T2 Tryz.prog 24 1 (1,1) false:=⟨by kernel_rfl⟩
instance:T2 Tryz.prog 24 2 (2,1) false:=⟨by kernel_rfl⟩
instance:T4 Tryz.prog 26 [Value.int IntKind.i64 0,Value.int IntKind.i64 0,Value.int IntKind.u8 0,Value.int IntKind.i64 0,Value.int IntKind.i64 0,Value.int IntKind.u8 0] 6 true 48:=⟨by kernel_rfl⟩
instance tp_26:TP Tryz.prog 26 [(0,3),(3,3)]:=⟨by kernel_rfl⟩
instance:T2 Tryz.prog 26 0 (0,3) true:=⟨by kernel_rfl⟩
instance:T2 Tryz.prog 26 1 (3,3) true:=⟨by kernel_rfl⟩
instance:T4 Tryz.prog 27 [Value.slice none 0 0] 1 false 24:=⟨by kernel_rfl⟩
instance te_27:TE Tryz.prog 27 (24,3):=⟨by kernel_rfl⟩
instance:T4 Tryz.prog 28 [Value.slice none 0 0] 1 false 24:=⟨by kernel_rfl⟩
instance te_28:TE Tryz.prog 28 (52,2):=⟨by kernel_rfl⟩
instance:T4 Tryz.prog 29 [Value.slice none 0 0] 1 false 24:=⟨by kernel_rfl⟩
instance te_29:TE Tryz.prog 29 (52,2):=⟨by kernel_rfl⟩
instance:T4 Tryz.prog 30 [Value.slice none 0 0] 1 false 24:=⟨by kernel_rfl⟩
instance te_30:TE Tryz.prog 30 (188,1):=⟨by kernel_rfl⟩
instance:T4 Tryz.prog 32 [Value.slice none 0 0] 1 true 24:=⟨by kernel_rfl⟩
instance tp_32:TP Tryz.prog 32 [(0,1)]:=⟨by kernel_rfl⟩
instance:T2 Tryz.prog 32 0 (0,1) false:=⟨by kernel_rfl⟩
instance:T4 Tryz.prog 34 [Value.slice none 0 0,Value.bool false] 2 true 32:=⟨by kernel_rfl⟩
instance tp_34:TP Tryz.prog 34 [(0,1),(1,1)]:=⟨by kernel_rfl⟩
instance:T2 Tryz.prog 34 0 (0,1) true:=⟨by kernel_rfl⟩
instance:T2 Tryz.prog 34 1 (1,1) false:=⟨by kernel_rfl⟩
instance:T4 Tryz.prog 36 [Value.slice none 0 0,Value.bool false,Value.slice none 0 0] 3 true 56:=⟨by kernel_rfl⟩
instance tp_36:TP Tryz.prog 36 [(0,2),(2,1)]:=⟨by kernel_rfl⟩
instance:T2 Tryz.prog 36 0 (0,2) true:=⟨by kernel_rfl⟩
instance:T2 Tryz.prog 36 1 (2,1) true:=⟨by kernel_rfl⟩
instance:T4 Tryz.prog 37 [Value.slice none 0 0] 1 false 24:=⟨by kernel_rfl⟩
instance te_37:TE Tryz.prog 37 (36,3):=⟨by kernel_rfl⟩
instance:T4 Tryz.prog 38 [Value.slice none 0 0] 1 false 24:=⟨by kernel_rfl⟩
instance te_38:TE Tryz.prog 38 (36,3):=⟨by kernel_rfl⟩
instance:T4 Tryz.prog 40 [Value.slice none 0 0,Value.slice none 0 0,Value.bool false,Value.slice none 0 0,Value.slice none 0 0] 5 true 104:=⟨by kernel_rfl⟩
instance tp_40:TP Tryz.prog 40 [(0,1),(1,3),(4,1)]:=⟨by kernel_rfl⟩
instance:T2 Tryz.prog 40 0 (0,1) false:=⟨by kernel_rfl⟩
instance:T2 Tryz.prog 40 1 (1,3) true:=⟨by kernel_rfl⟩
instance:T2 Tryz.prog 40 2 (4,1) false:=⟨by kernel_rfl⟩
instance:T4 Tryz.prog 42 [Value.slice none 0 0,Value.bool false,Value.slice none 0 0,Value.slice none 0 0,Value.bool false,Value.slice none 0 0] 6 true 112:=⟨by kernel_rfl⟩
instance tp_42:TP Tryz.prog 42 [(0,3),(3,3)]:=⟨by kernel_rfl⟩
instance:T2 Tryz.prog 42 0 (0,3) true:=⟨by kernel_rfl⟩
instance:T2 Tryz.prog 42 1 (3,3) true:=⟨by kernel_rfl⟩
instance:T4 Tryz.prog 47 [Value.slice none 0 0] 1 false 24:=⟨by kernel_rfl⟩
instance te_47:TE Tryz.prog 47 (74,4):=⟨by kernel_rfl⟩
instance:T4 Tryz.prog 48 [Value.slice none 0 0] 1 false 24:=⟨by kernel_rfl⟩
instance te_48:TE Tryz.prog 48 (74,4):=⟨by kernel_rfl⟩
instance:T4 Tryz.prog 52 [Value.slice none 0 0,Value.slice none 0 0] 2 true 48:=⟨by kernel_rfl⟩
instance tp_52:TP Tryz.prog 52 [(0,1),(1,1)]:=⟨by kernel_rfl⟩
instance:T2 Tryz.prog 52 0 (0,1) false:=⟨by kernel_rfl⟩
instance:T2 Tryz.prog 52 1 (1,1) false:=⟨by kernel_rfl⟩
instance:T4 Tryz.prog 59 [Value.slice none 0 0] 1 false 24:=⟨by kernel_rfl⟩
instance te_59:TE Tryz.prog 59 (38,1):=⟨by kernel_rfl⟩
instance:T4 Tryz.prog 65 [Value.slice none 0 0] 1 false 24:=⟨by kernel_rfl⟩
instance te_65:TE Tryz.prog 65 (120,2):=⟨by kernel_rfl⟩
instance:T4 Tryz.prog 70 [Value.slice none 0 0] 1 false 24:=⟨by kernel_rfl⟩
instance te_70:TE Tryz.prog 70 (3,1):=⟨by kernel_rfl⟩
instance:T4 Tryz.prog 72 [Value.int IntKind.i64 0,Value.slice none 0 0] 2 true 32:=⟨by kernel_rfl⟩
instance tp_72:TP Tryz.prog 72 [(0,1),(1,1)]:=⟨by kernel_rfl⟩
instance:T2 Tryz.prog 72 0 (0,1) false:=⟨by kernel_rfl⟩
instance:T2 Tryz.prog 72 1 (1,1) false:=⟨by kernel_rfl⟩
instance:T4 Tryz.prog 74 [Value.int IntKind.i64 0,Value.slice none 0 0,Value.int IntKind.i64 0,Value.slice none 0 0] 4 true 64:=⟨by kernel_rfl⟩
instance tp_74:TP Tryz.prog 74 [(0,2),(2,2)]:=⟨by kernel_rfl⟩
instance:T2 Tryz.prog 74 0 (0,2) true:=⟨by kernel_rfl⟩
instance:T2 Tryz.prog 74 1 (2,2) true:=⟨by kernel_rfl⟩
instance:T4 Tryz.prog 76 [Value.int IntKind.i64 0,Value.slice none 0 0,Value.int IntKind.i64 0,Value.slice none 0 0,Value.int IntKind.i64 0,Value.slice none 0 0,Value.int IntKind.i64 0,Value.slice none 0 0] 8 true 128:=⟨by kernel_rfl⟩
instance tp_76:TP Tryz.prog 76 [(0,4),(4,4)]:=⟨by kernel_rfl⟩
instance:T2 Tryz.prog 76 0 (0,4) true:=⟨by kernel_rfl⟩
instance:T2 Tryz.prog 76 1 (4,4) true:=⟨by kernel_rfl⟩
instance:T4 Tryz.prog 87 [Value.slice none 0 0,Value.slice none 0 0,Value.bool false,Value.slice none 0 0,Value.slice none 0 0,Value.bool false,Value.slice none 0 0,Value.slice none 0 0,Value.bool false,Value.slice none 0 0] 10 true 192:=⟨by kernel_rfl⟩
instance tp_87:TP Tryz.prog 87 [(0,1),(1,3),(4,3),(7,3)]:=⟨by kernel_rfl⟩
instance:T2 Tryz.prog 87 0 (0,1) false:=⟨by kernel_rfl⟩
instance:T2 Tryz.prog 87 1 (1,3) true:=⟨by kernel_rfl⟩
instance:T2 Tryz.prog 87 2 (4,3) true:=⟨by kernel_rfl⟩
instance:T2 Tryz.prog 87 3 (7,3) true:=⟨by kernel_rfl⟩
instance:T4 Tryz.prog 96 [Value.nilFunc] 1 false 8:=⟨by kernel_rfl⟩
instance:T4 Tryz.prog 102 [Value.slice none 0 0,Value.slice none 0 0,Value.bool false,Value.slice none 0 0,Value.slice none 0 0,Value.slice none 0 0,Value.bool false,Value.slice none 0 0,Value.slice none 0 0,Value.bool false,Value.slice none 0 0] 11 true 216:=⟨by kernel_rfl⟩
instance tp_102:TP Tryz.prog 102 [(0,5),(5,6)]:=⟨by kernel_rfl⟩
instance:T2 Tryz.prog 102 0 (0,5) true:=⟨by kernel_rfl⟩
instance:T2 Tryz.prog 102 1 (5,6) true:=⟨by kernel_rfl⟩
instance:T4 Tryz.prog 103 [Value.slice none 0 0] 1 false 24:=⟨by kernel_rfl⟩
instance te_103:TE Tryz.prog 103 (37,1):=⟨by kernel_rfl⟩
instance:T4 Tryz.prog 104 [Value.slice none 0 0] 1 false 24:=⟨by kernel_rfl⟩
instance te_104:TE Tryz.prog 104 (37,1):=⟨by kernel_rfl⟩
instance:T4 Tryz.prog 106 [Value.slice none 0 0,Value.slice none 0 0,Value.int IntKind.i64 0] 3 true 56:=⟨by kernel_rfl⟩
instance tp_106:TP Tryz.prog 106 [(0,1),(1,1),(2,1)]:=⟨by kernel_rfl⟩
instance:T2 Tryz.prog 106 0 (0,1) false:=⟨by kernel_rfl⟩
instance:T2 Tryz.prog 106 1 (1,1) false:=⟨by kernel_rfl⟩
instance:T2 Tryz.prog 106 2 (2,1) false:=⟨by kernel_rfl⟩
instance:T4 Tryz.prog 110 [Value.nilFunc] 1 false 8:=⟨by kernel_rfl⟩
instance:T4 Tryz.prog 115 [Value.nilFunc] 1 false 8:=⟨by kernel_rfl⟩
instance:T4 Tryz.prog 117 [Value.slice none 0 0,Value.slice none 0 0] 2 true 48:=⟨by kernel_rfl⟩
instance tp_117:TP Tryz.prog 117 [(0,1),(1,1)]:=⟨by kernel_rfl⟩
instance:T2 Tryz.prog 117 0 (0,1) false:=⟨by kernel_rfl⟩
instance:T2 Tryz.prog 117 1 (1,1) false:=⟨by kernel_rfl⟩
instance:T4 Tryz.prog 120 [Value.slice none 0 0,Value.slice none 0 0] 2 true 48:=⟨by kernel_rfl⟩
instance tp_120:TP Tryz.prog 120 [(0,1),(1,1)]:=⟨by kernel_rfl⟩
instance:T2 Tryz.prog 120 0 (0,1) false:=⟨by kernel_rfl⟩
instance:T2 Tryz.prog 120 1 (1,1) false:=⟨by kernel_rfl⟩
instance:T4 Tryz.prog 125 [Value.slice none 0 0] 1 false 24:=⟨by kernel_rfl⟩
instance te_125:TE Tryz.prog 125 (2,1):=⟨by kernel_rfl⟩
instance:T4 Tryz.prog 128 [Value.nilFunc] 1 false 8:=⟨by kernel_rfl⟩
instance:T4 Tryz.prog 130 [Value.slice none 0 0,Value.bool false,Value.slice none 0 0,Value.slice none 0 0,Value.bool false,Value.slice none 0 0,Value.int IntKind.i64 0] 7 true 120:=⟨by kernel_rfl⟩
instance tp_130:TP Tryz.prog 130 [(0,6),(6,1)]:=⟨by kernel_rfl⟩
instance:T2 Tryz.prog 130 0 (0,6) true:=⟨by kernel_rfl⟩
instance:T2 Tryz.prog 130 1 (6,1) false:=⟨by kernel_rfl⟩
instance:T4 Tryz.prog 132 [Value.nilFunc] 1 false 8:=⟨by kernel_rfl⟩
instance:T4 Tryz.prog 136 [Value.nilFunc] 1 false 8:=⟨by kernel_rfl⟩
instance:T4 Tryz.prog 140 [Value.pointer none] 1 false 8:=⟨by kernel_rfl⟩
instance:T4 Tryz.prog 141 [Value.slice none 0 0] 1 false 24:=⟨by kernel_rfl⟩
instance te_141:TE Tryz.prog 141 (5,1):=⟨by kernel_rfl⟩
instance:T4 Tryz.prog 143 [Value.pointer none,Value.slice none 0 0] 2 true 32:=⟨by kernel_rfl⟩
instance tp_143:TP Tryz.prog 143 [(0,1),(1,1)]:=⟨by kernel_rfl⟩
instance:T2 Tryz.prog 143 0 (0,1) false:=⟨by kernel_rfl⟩
instance:T2 Tryz.prog 143 1 (1,1) false:=⟨by kernel_rfl⟩
instance:T4 Tryz.prog 155 [Value.int IntKind.u64 0] 1 false 8:=⟨by kernel_rfl⟩
instance tu_155:TU Tryz.prog 155 (.int .u64):=⟨by kernel_rfl⟩
instance:T4 Tryz.prog 162 [Value.nilFunc] 1 false 8:=⟨by kernel_rfl⟩
instance:T4 Tryz.prog 181 [Value.nilFunc] 1 false 8:=⟨by kernel_rfl⟩
instance:T4 Tryz.prog 183 [Value.nilFunc] 1 false 8:=⟨by kernel_rfl⟩
instance:T4 Tryz.prog 184 [Value.pointer none] 1 false 8:=⟨by kernel_rfl⟩
instance:T4 Tryz.prog 188 [Value.int IntKind.u32 0] 1 false 4:=⟨by kernel_rfl⟩
instance tu_188:TU Tryz.prog 188 (.int .u32):=⟨by kernel_rfl⟩
instance:T4 Tryz.prog 194 [Value.nilFunc] 1 false 8:=⟨by kernel_rfl⟩
instance:T4 Tryz.prog 198 [Value.nilFunc] 1 false 8:=⟨by kernel_rfl⟩
instance:T4 Tryz.prog 210 [Value.pointer none] 1 false 8:=⟨by kernel_rfl⟩
instance:T4 Tryz.prog 212 [Value.pointer none] 1 false 8:=⟨by kernel_rfl⟩
instance:T4 Tryz.prog 214 [Value.pointer none,Value.int IntKind.i64 0] 2 true 16:=⟨by kernel_rfl⟩
instance tp_214:TP Tryz.prog 214 [(0,1),(1,1)]:=⟨by kernel_rfl⟩
instance:T2 Tryz.prog 214 0 (0,1) false:=⟨by kernel_rfl⟩
instance:T2 Tryz.prog 214 1 (1,1) false:=⟨by kernel_rfl⟩
instance:T4 Tryz.prog 218 [Value.pointer none] 1 false 8:=⟨by kernel_rfl⟩
instance:T4 Tryz.prog 222 [Value.int IntKind.u64 0] 1 false 8:=⟨by kernel_rfl⟩
instance tu_222:TU Tryz.prog 222 (.int .u64):=⟨by kernel_rfl⟩
instance:T4 Tryz.prog 235 [Value.nilFunc] 1 false 8:=⟨by kernel_rfl⟩
instance:T4 Tryz.prog 242 [Value.slice none 0 0,Value.slice none 0 0,Value.int IntKind.i64 0] 3 true 56:=⟨by kernel_rfl⟩
instance tp_242:TP Tryz.prog 242 [(0,1),(1,1),(2,1)]:=⟨by kernel_rfl⟩
instance:T2 Tryz.prog 242 0 (0,1) false:=⟨by kernel_rfl⟩
instance:T2 Tryz.prog 242 1 (1,1) false:=⟨by kernel_rfl⟩
instance:T2 Tryz.prog 242 2 (2,1) false:=⟨by kernel_rfl⟩
instance:T4 Tryz.prog 245 [Value.nilFunc] 1 false 8:=⟨by kernel_rfl⟩
instance:T4 Tryz.prog 252 [Value.nilFunc] 1 false 8:=⟨by kernel_rfl⟩
instance:T3 Tryz.prog 256 24 true 24:=⟨by kernel_rfl⟩
instance:T4 Tryz.prog 283 [Value.nilFunc] 1 false 8:=⟨by kernel_rfl⟩
abbrev FS:=FSpec Tryz.prog
theorem DX(l:List Nat):FS 72 [.agg [.arr (dE l)]] (bln (l.length==0)):=by
 refine f_n Tryz.func72 ?_ ?_;exact ac (aC (ac (cQ l) af)) af;refine r_z 2 ?_;refine r_z 5 ?_;refine ai (aW rfl ?_ (ag _));simp only[bln,re];congr 2;rw[Bool.eq_iff_iff];simp
theorem iv(l:List Nat)(hl:l.length≤281474976710656):FS 126 [.arr (dE l)] (.agg [.arr (dE (e9 l))]):=by
 refine f_n Tryz.func126 ?_ ?_;exact ac (cQ l) af;refine r_z 1 ?_;refine r_z 3 ?_;refine bi (fun k:Nat=>⟨[(0,.arr (dE l)),(2,.lptr 1 0 0),(3,i64 k)],[(1,some ⟨32,1,[[.emp]]⟩)],2,23⟩) (fun k=>k≤l.length∧e9 l=l.take k) ?_ ?_;refine aj (aB (fun k:Nat=>⟨[(0,.arr (dE l)),(2,.lptr 1 0 0),(3,i64 k)],[(1,some ⟨32,1,[[.emp]]⟩)],2,23⟩) (fun k=>k) (fun k=>k≤l.length∧∀i,k≤i→i< l.length→l[i]?=some 0) l.length ⟨Nat.le_refl _,fun i h1 g=>by omega⟩ ?_ ?_);exact s_e [];rintro k ⟨b,j⟩;have fin:k=0∨l[k- 1]?≠some 0→e9 l=l.take k:=k8 l k b j;by_cases h0:k=0;subst h0;refine ae (s_r 10 ?_);refine a_3 ?_;refine n_g rfl d_f ?_;refine n_g rfl d_f ?_;refine n_g rfl d_f ?_;refine n_g rfl d_f ?_;refine n_g rfl d_f ?_;refine n_g rfl d_f ?_;refine o_0 (.pickF rfl d_f rfl) ?_;refine ao ?_;refine ap rfl (fun h=>?_) (fun _=>?_);cases h;refine ay ⟨0,⟨b,fin (.inl rfl)⟩,?_⟩;exact s_e [];have f:k- 1< l.length:=by omega
 obtain⟨d,e⟩:∃d,l[k- 1]?=some d:=⟨_,List.getElem?_eq_getElem f⟩;have a:(dE l)[((k:Int)- 1).toNat]?=some [u32 d]:=by rw[show((k:Int)- 1).toNat=k- 1 by omega];exact dD e
 refine ae (s_r 10 ?_);refine a_3 ?_;refine y_g rfl d_t (.move rfl) ?_;refine y_g rfl d_t (.move rfl) ?_;refine y_g rfl d_t (.bin rfl rfl (qh (by omega))) ?_
 first|refine y_g rfl d_t (.index_l rfl rfl (by omega) (by omega) te_30.h) ?_|refine y_g rfl d_t (.index_a rfl rfl (by omega) a rfl te_30.h) ?_
 first|refine y_g rfl d_t (.load_l1 rfl rfl a TG.h rfl) ?_|refine y_g rfl d_t (.load_a1 rfl a TG.h rfl) ?_
 refine y_g rfl d_t (.bin rfl rfl ci) ?_;refine o_0 (.pickT rfl d_t rfl) ?_;refine ao ?_;refine ap rfl (fun h=>?_) (fun h=>?_);refine ak ?_;have c:d=0:=by simpa using h
 subst c;refine aj (r_m 3 ?_);refine a_z ?_;refine⟨k- 1,by omega,⟨by omega,fun i h1 g=>?_⟩,?_⟩;by_cases hi:i=k- 1;rw[hi];exact e;exact j i (by omega) g;exact s_e [];refine ay ⟨k,⟨b,fin (.inr ?_)⟩,?_⟩;rw[e];simp at h⊢;omega;exact s_e [];rintro k ⟨b,ht⟩;refine s_r 6 ?_;refine a_3 ?_;refine o_0 (.sa_hm rfl rfl rfl rfl rfl ⟨Nat.le_refl _,by simpa using b⟩ te_30.h (yv l)) ?_;refine a_z ?_;refine ai (dA rfl rfl rfl TG.h TS.h (nle rfl) ?_ (aC (ac (cQ _) af)));rw[ht,←Eh];rfl
theorem um(z:Int):FS 174 [i64 z] (bln false):=by
 refine f_c Tryz.func174 ?_;refine r_z 1 ?_;refine r_z 4 ?_;refine ai (aW rfl ?_ (ag _));simp[bln]
theorem uk(z:Nat):FS 175 [u32 z] (bln false):=by
 refine f_c Tryz.func175 ?_;refine r_z 1 ?_;refine r_z 4 ?_;refine ai (aW rfl ?_ (ag _));simp[bln]
theorem x7(a b:Int):FS 136 [i64 a,i64 b] (i64 (eu a b)):=by
 refine f_c Tryz.func136 ?_;refine r_z 1 ?_;refine r_c 3 (um a) ?_;refine a_z ?_;refine r_c 3 (um b) ?_;refine a_z ?_;refine ae (r_z 1 ?_);refine ap rfl (fun h=>?_) (fun _=>ak ?_);cases h;refine ae (r_z 1 ?_);refine ap rfl (fun h=>?_) (fun _=>ak ?_);cases h;refine ae (r_z 3 ?_);refine ap rfl (fun h=>?_) (fun h=>ak ?_);refine r_z 1 ?_;refine ai (aW rfl ?_ (ag _));simp at h;simp[i64,ofV,eu,h];refine ae (r_z 3 ?_);refine ap rfl (fun c=>?_) (fun c=>ak ?_);refine r_z 1 ?_;refine ai (aW rfl ?_ (ag _));simp at h c;simp[i64,ofV,eu];omega;refine r_z 1 ?_;refine ai (aW rfl ?_ (ag _));simp at h c;simp[i64,ofV,eu];omega
theorem xZ(a b:Nat):FS 137 [u32 a,u32 b] (i64 (eu a b)):=by
 refine f_c Tryz.func137 ?_;refine r_z 1 ?_;refine r_c 3 (uk a) ?_;refine a_z ?_;refine r_c 3 (uk b) ?_;refine a_z ?_;refine ae (r_z 1 ?_);refine ap rfl (fun h=>?_) (fun _=>ak ?_);cases h;refine ae (r_z 1 ?_);refine ap rfl (fun h=>?_) (fun _=>ak ?_);cases h;refine ae (r_z 3 ?_);refine ap rfl (fun h=>?_) (fun h=>ak ?_);refine r_z 1 ?_;refine ai (aW rfl ?_ (ag _));simp at h;simp[i64,ofV,eu,h];refine ae (r_z 3 ?_);refine ap rfl (fun c=>?_) (fun c=>ak ?_);refine r_z 1 ?_;refine ai (aW rfl ?_ (ag _));simp at h c;simp[i64,ofV,eu];omega;refine r_z 1 ?_;refine ai (aW rfl ?_ (ag _));simp at h c;simp[i64,ofV,eu];omega
theorem digs_one{n:Nat}:(aw MB n).length=1∧(aw MB n)[0]?=some 1↔n=1:=by
 constructor;rintro⟨h1,a⟩;have:=bt (b:=MB) (by decide) n
 match hd:aw MB n,h1,a with
 |[d],_,a=>rw[hd] at this;simp at a;subst a;simpa[ofD] using this.symm
 rintro rfl;rw[fa (by decide) (by decide)];rw[show 1/ MB=0 by decide,ct];simp
theorem fs_one(n:Nat):FS 123 [.agg [mag n]] (bln (n==1)):=by
 refine f_c Tryz.func123 ?_;refine r_z 2 ?_;by_cases h1:(aw MB n).length=1;obtain⟨d,b⟩:∃d,(aw MB n)[0]?=some d:=⟨_,List.getElem?_eq_getElem (by omega)⟩;have a:(dE (aw MB n))[(0:Int).toNat]?=some [u32 d]:=dD b;refine s_r 12 ?_;refine a_5 ?_
 first|refine y_g rfl (by simp;omega) (.fieldAddr_l rfl TF.h (by decide)) ?_|refine y_g rfl (by simp;omega) (.fieldAddr_a rfl TF.h (by decide)) ?_
 first|refine y_g rfl (by simp;omega) (.load_l1 rfl rfl rfl TG.h rfl) ?_|refine y_g rfl (by simp;omega) (.load_a1 rfl rfl TG.h rfl) ?_
 first|refine y_g rfl (by simp;omega) (.index_l rfl rfl (by omega) (by omega) te_30.h) ?_|refine y_g rfl (by simp;omega) (.index_a rfl rfl (by omega) a rfl te_30.h) ?_
 first|refine y_g rfl (by simp;omega) (.load_l1 rfl rfl a TG.h rfl) ?_|refine y_g rfl (by simp;omega) (.load_a1 rfl a TG.h rfl) ?_
 refine y_g rfl (by simp;omega) (.bin rfl rfl ci) ?_;refine o_0 (.pickT rfl (by simp;omega) rfl) ?_;refine a_z ?_;refine ai (aW rfl ?_ (ag _));simp only[bln];congr 2;rw[Bool.eq_iff_iff];have:=digs_one (n:=n);simp only[h1,b,true_and,Option.some.injEq] at this;simp only[beq_iff_eq,←this];omega;refine s_r 12 ?_;refine a_5 ?_;refine n_g rfl (by simp;omega) ?_;refine n_g rfl (by simp;omega) ?_;refine n_g rfl (by simp;omega) ?_;refine n_g rfl (by simp;omega) ?_;refine n_g rfl (by simp;omega) ?_;refine o_0 (.pickF rfl (by simp;omega) rfl) ?_;refine a_z ?_;refine ai (aW rfl ?_ (ag _));simp only[bln,ofV];congr 2;symm;rw[beq_eq_false_iff_ne];intro h;exact h1 (digs_one.2 h).1
end Go.Proofs.YtdgbhlkabelmbaaGreatDoor
