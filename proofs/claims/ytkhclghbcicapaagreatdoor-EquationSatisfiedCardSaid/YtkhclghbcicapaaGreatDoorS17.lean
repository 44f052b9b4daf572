/- Part S17 of the proof. -/
import Derived.Test.YtkhclghbcicapaaGreatDoorS16
import Derived.Test.YtkhclghbcicapaaGreatDoorProg
import Derived.KernelRfl
set_option linter.all false
namespace Go.Abs
set_option maxRecDepth 20000
def rbF(p b:List Rat):List Rat:=if bv b< p.length then dC p (aZ b (coP p (bv b).toNat)) else p
def rbK(p:List Rat)(B:List (List Rat)):Nat→List Rat
 |0=>p
 |k+1=>rbF (rbK p B k) (B.getD (B.length- 1- k) [])
def reP(p:List Rat)(B:List (List Rat)):List Rat:=aq (rbK p B B.length)
def qq(L:List (List Rat)):Nat→List (List Rat)
 |0=>L
 |j+1=>if bv (L.getD (j+1) [])< bv (L.getD j []) then qq ((L.set (j+1) (L.getD j [])).set j (L.getD (j+1) [])) j else L
def jt(L:List (List Rat)):Nat→List (List Rat)
 |0=>L
 |i+1=>qq (jt L i) (i+1)
theorem y5:∀(j:Nat) (L:List (List Rat)),(qq L j).length=L.length
 |0,L=>rfl
 |j+1,L=>by
  rw[qq];split;rw[y5 j];simp;rfl
theorem lT(L:List (List Rat)):∀i,(jt L i).length=L.length
 |0=>rfl
 |i+1=>by rw[jt,y5,lT L i]
theorem y4{P:List Rat→Prop}:∀(j:Nat) (L:List (List Rat)),j< L.length→(∀p∈L,P p)→∀p∈qq L j,P p
 |0,L,_,h=>h
 |j+1,L,hl,h=>by
  rw[qq];split;refine y4 j _ (by simp;omega) fun p hp=>?_
  have g:∀i,i< L.length→P (L.getD i []):=fun i b=>by
   rw[List.getD_eq_getElem?_getD,List.getElem?_eq_getElem b];exact h _ (List.getElem_mem _)
  rcases List.mem_or_eq_of_mem_set hp with h1|h1
  rcases List.mem_or_eq_of_mem_set h1 with a|a
  exact h p a;rw[a];exact g j (by omega);rw[h1];exact g (j+1) hl;exact h
theorem tG{P:List Rat→Prop}(L:List (List Rat))(h:∀p∈L,P p):∀i,i< L.length→∀p∈jt L i,P p
 |0,_=>h
 |i+1,hi=>y4 _ _ (by rw[lT];omega) (tG L h i (by omega))
theorem C9(L:List (List Rat)):∀i,(∀t,t< i→¬bv (L.getD (t+1) [])< bv (L.getD t []))→jt L i=L
 |0,_=>rfl
 |i+1,h=>by
  rw[jt,C9 L i fun t ht=>h t (by omega),qq,if_neg (h i (by omega))]
theorem za(A C:List (List Rat))(x:List Rat):(A++x::C).getD A.length []=x:=by
 rw[List.getD_eq_getElem?_getD,List.getElem?_append_right (Nat.le_refl _)];simp
theorem y6:∀(j:Nat) (A:List (List Rat)) (x:List Rat) (C:List (List Rat)),A.length=j→∃A1 A2,A=A1++A2∧qq (A++x::C) j=A1++x::(A2++C)∧(∀b∈A2,bv x< bv b)∧∀B b,A1=B++[b]→¬bv x< bv b
 |0,A,x,C,hA=>by
  have:A=[]:=List.eq_nil_of_length_eq_zero hA;subst this;exact⟨[],[],rfl,rfl,fun b hb=>by simp at hb,fun B b h=>by simp at h⟩
 |j+1,A,x,C,hA=>by
  obtain⟨a,b,rfl⟩:∃a b,A=a++[b]:=⟨A.dropLast,A.getLast (by intro e;rw[e] at hA;cases hA),(List.dropLast_concat_getLast _).symm⟩;have d:a.length=j:=by simpa using hA
  have e1:(a++[b]++x::C).getD (j+1) []=x:=by
   have:=za (a++[b]) C x;rwa[List.length_append,List.length_singleton,d] at this
  have e2:(a++[b]++x::C).getD j []=b:=by
   have:=za a (x::C) b;rw[d] at this;simpa using this
  rw[qq,e1,e2];by_cases hd:bv x< bv b;rw[if_pos hd]
  have i:((a++[b]++x::C).set (j+1) b).set j x=a++x::(b::C):=by
   subst d;simp[List.set_append]
  rw[i];obtain⟨A1,A2,h1,k,g,f⟩:=y6 j a x (b::C) d;refine⟨A1,A2++[b],by rw[h1];simp,by rw[k];simp,fun c hc=>?_,f⟩;rcases List.mem_append.1 hc with h|h
  exact g c h;rw[List.mem_singleton.1 h];exact hd;rw[if_neg hd];refine⟨a++[b],[],by simp,by simp,fun c hc=>by simp at hc,fun B c h=>?_⟩;have:=List.append_inj_right' h (by simp);simp at this;rw[←this];exact hd
theorem DX(A:List (List Rat))(x:List Rat)(hs:A.Pairwise fun a b=>bv a< bv b):∃A1 A2,A=A1++A2∧jt (A++[x]) A.length=A1++x::A2∧(∀b∈A2,bv x< bv b)∧∀b∈A1,bv b≤bv x:=by
 have f:jt (A++[x]) A.length=qq (A++x::[]) A.length:=by
  cases hA:A.length with
  |zero=>rfl
  |succ j=>
   rw[jt,C9 _ j fun t ht=>?_];have h1:t< A.length:=by omega
   have d:t+1< A.length:=by omega
   rw[List.getD_eq_getElem?_getD,List.getD_eq_getElem?_getD,List.getElem?_append_left h1,List.getElem?_append_left d,List.getElem?_eq_getElem h1,List.getElem?_eq_getElem d];have:=List.pairwise_iff_getElem.1 hs t (t+1) h1 d (by omega);show¬bv A[t+1]< bv A[t];omega
 obtain⟨A1,A2,h1,d,g,i⟩:=y6 A.length A x [] rfl;refine⟨A1,A2,h1,by rw[f,d];simp,g,fun b hb=>?_⟩;by_cases he:A1=[];rw[he] at hb;cases hb;have e:=List.dropLast_concat_getLast he;have k:=i _ _ e.symm;rw[h1] at hs;have c:=(List.pairwise_append.1 hs).1;rw[←e] at hb c;rcases List.mem_append.1 hb with h|h
 have:=(List.pairwise_append.1 c).2.2 b h _ (List.mem_singleton.2 rfl);omega;rw[List.mem_singleton.1 h];omega
structure Piv (p:List Rat):Prop where
 tr:aq p=p
 ne:nz p
 one:aR p=1
theorem Piv.deg{p:List Rat}(h:Piv p):bv p=(dg p:Int):=degP_dg h.ne
theorem Piv.len{p:List Rat}(h:Piv p):p.length=dg p+1:=by
 have h1:=List.length_pos_iff.2 h.ne;have a:=h.tr;unfold dg;rw[a] at h1⊢;omega
theorem Piv.at1{p:List Rat}(h:Piv p):coP p (dg p)=1:=by rw[(lS h.ne).2,h.one]
theorem Piv.past{p:List Rat}(h:Piv p){i:Nat}(hi:dg p< i):coP p i=0:=(lS h.ne).1.2 i hi
theorem FL{p:List Rat}{n:Nat}(ht:aq p=p)(h1:coP p n=1)(h2:∀i,n< i→coP p i=0):Piv p∧dg p=n:=by
 obtain⟨a,b,c⟩:=FY (p:=p) (n:=n) ⟨by rw[h1];decide,h2⟩;exact⟨⟨ht,a,by rw[c,h1]⟩,b⟩
theorem wP{p b:List Rat}(hb:Piv b)(i:Nat):coP (rbF p b) i=coP p i- coP p (dg b) * coP b i:=by
 unfold rbF;rw[hb.deg,Int.toNat_natCast];split;rw[nk,cZ];grind
 ·rename_i h
  rw[fH (p:=p) (i:=dg b) (by omega)];grind
theorem rbF_len{p b:List Rat}(hb:Piv b):(rbF p b).length≤p.length:=by
 unfold rbF;rw[hb.deg];split;have h1:=yi p (aZ b (coP p ((dg b:Nat):Int).toNat));have c:=cy b (coP p ((dg b:Nat):Int).toNat);have a:=hb.len;omega;exact Nat.le_refl _
theorem rbF_bd{p b:List Rat}{s t:Nat}(hb:Piv b)(hp:bdL p s)(hs:1≤s)(hbt:bdL b t)(ht:1≤t):bdL (rbF p b) (2* s+t+1):=k8 fun i=>by
 rw[wP hb];have h1:=tn (coP p i) (coP p (dg b) * coP b i);have c:=eu (coP p (dg b)) (coP b i);have e:=dN hp hs i;have d:=dN hp hs (dg b);have a:=dN hbt ht i;omega
def rL(p:List Rat)(B:List (List Rat)):List Rat:=B.reverse.foldl rbF p
theorem wT(p:List Rat)(B:List (List Rat))(b:List Rat):rL p (B++[b])=rL (rbF p b) B:=by
 unfold rL;rw[List.reverse_append];rfl
theorem yA(p:List Rat)(B:List (List Rat))(b:List Rat):∀k,k≤B.length→rbK p (B++[b]) (k+1)=rbK (rbF p b) B k
 |0,_=>by
  rw[rbK,rbK,rbK];congr 1;rw[List.getD_eq_getElem?_getD,List.length_append,List.length_singleton,show B.length+1- 1- 0=B.length by omega,List.getElem?_append_right (Nat.le_refl _)];simp
 |k+1,h=>by
  rw[rbK,yA p B b k (by omega),rbK];congr 1;rw[List.getD_eq_getElem?_getD,List.getD_eq_getElem?_getD,List.length_append,List.length_singleton,show B.length+1- 1- (k+1)=B.length- 1- k by omega,List.getElem?_append_left (by omega)]
theorem CR:∀(n:Nat) (B:List (List Rat)) (p:List Rat),B.length=n→rbK p B n=rL p B
 |0,B,p,h=>by
  rw[List.eq_nil_of_length_eq_zero h];rfl
 |n+1,B,p,h=>by
  obtain⟨C,b,rfl⟩:∃C b,B=C++[b]:=⟨B.dropLast,B.getLast (by intro e;rw[e] at h;cases h),(List.dropLast_concat_getLast _).symm⟩;have a:C.length=n:=by simpa using h
  rw[yA p C b n (by omega),CR n C _ a,wT]
theorem p9(p:List Rat)(B:List (List Rat)):reP p B=aq (rL p B):=by unfold reP;rw[CR _ B p rfl]
theorem wU{Q H:List Rat→Prop}(hQ:∀p b c r,Q p→H b→(∀i,coP r i=coP p i- c* coP b i)→Q r):∀(n:Nat) (B:List (List Rat)) (p:List Rat),B.length=n→(∀b∈B,Piv b∧H b)→Q p→Q (rL p B)
 |0,B,p,h,_,hp=>by rw[List.eq_nil_of_length_eq_zero h];exact hp
 |n+1,B,p,h,hB,hp=>by
  obtain⟨C,b,rfl⟩:∃C b,B=C++[b]:=⟨B.dropLast,B.getLast (by intro e;rw[e] at h;cases h),(List.dropLast_concat_getLast _).symm⟩;have a:C.length=n:=by simpa using h
  obtain⟨b1,b2⟩:=hB b (by simp);rw[wT];exact wU hQ n C _ a (fun c hc=>hB c (List.mem_append_left _ hc)) (hQ p b _ _ hp b2 fun i=>wP b1 i)
theorem rL_keep{i:Nat}{B:List (List Rat)}{p:List Rat}(hB:∀b∈B,Piv b)(hi:∀b∈B,coP b i=0):coP (rL p B) i=coP p i:=
 wU (Q:=fun r=>coP r i=coP p i) (H:=fun b=>coP b i=0) (fun q b c r a hb d=>by rw[d,a,hb];grind) B.length B p rfl (fun b hb=>⟨hB b hb,hi b hb⟩) rfl
def Up(B:List (List Rat)):Prop:=B.Pairwise fun a b=>bv a< bv b
theorem wS:∀(n:Nat) (B:List (List Rat)) (p:List Rat),B.length=n→(∀b∈B,Piv b)→Up B→∀b∈B,coP (rL p B) (dg b)=0
 |0,B,p,h,_,_=>by rw[List.eq_nil_of_length_eq_zero h];exact fun b hb=>by cases hb
 |n+1,B,p,h,hB,hU=>by
  obtain⟨C,c,rfl⟩:∃C b,B=C++[b]:=⟨B.dropLast,B.getLast (by intro e;rw[e] at h;cases h),(List.dropLast_concat_getLast _).symm⟩;have i:C.length=n:=by simpa using h
  have hc:=hB c (by simp);have d:=List.pairwise_append.1 hU;intro b hb;rw[wT];rcases List.mem_append.1 hb with h1|h1
  exact wS n C _ i (fun x a=>hB x (List.mem_append_left _ a)) d.1 b h1;rw[List.mem_singleton.1 h1,rL_keep (fun x a=>hB x (List.mem_append_left _ a)) fun x a=>?_,wP hc,hc.at1];grind;have f:=hB x (List.mem_append_left _ a);have g:=d.2.2 x a c (List.mem_singleton.2 rfl);rw[f.deg,hc.deg] at g;exact f.past (by omega)
def rbB(s t:Nat):Nat→Nat
 |0=>s
 |k+1=>2* rbB s t k+t+1
theorem wQ(s t k:Nat):s≤rbB s t k:=by
 induction k with
 |zero=>exact Nat.le_refl _
 |succ k a=>rw[rbB];omega
theorem yB(s t:Nat){k n:Nat}(h:k≤n):rbB s t k≤rbB s t n:=by
 induction n with
 |zero=>rw[show k=0 by omega];exact Nat.le_refl _
 |succ n a=>
  by_cases e:k=n+1;rw[e];exact Nat.le_refl _;have:=a (by omega);rw[rbB];omega
theorem lW{B:List (List Rat)}{i:Nat}(h:i< B.length):B.getD i []∈B:=by
 rw[List.getD_eq_getElem?_getD,List.getElem?_eq_getElem h];exact List.getElem_mem _
theorem wO{p:List Rat}{B:List (List Rat)}{s t:Nat}(hB:∀b∈B,Piv b)(hp:bdL p s)(hs:1≤s)(hbt:∀b∈B,bdL b t)(ht:1≤t):∀k,k≤B.length→bdL (rbK p B k) (rbB s t k)∧(rbK p B k).length≤p.length
 |0,_=>⟨hp,Nat.le_refl _⟩
 |k+1,h=>by
  obtain⟨h1,c⟩:=wO hB hp hs hbt ht k (by omega);have a:=lW (B:=B) (i:=B.length- 1- k) (by omega);have d:=wQ s t k;rw[rbK,rbB];exact⟨rbF_bd (hB _ a) h1 (by omega) (hbt _ a) ht,Nat.le_trans (rbF_len (hB _ a)) c⟩
def ecP(q:List Rat):List Rat:=aZ q (1/ aR q)
def ecT(out:List (List Rat))(p:List Rat):List (List Rat):=if bv (reP p out)< 0 then out else jt (out.map (fun o=>reP o [ecP (reP p out)])++[ecP (reP p out)]) out.length
def ecK(l:List (List Rat)):Nat→List (List Rat)
 |0=>[]
 |k+1=>ecT (ecK l k) (l.getD k [])
def ecL(l:List (List Rat)):List (List Rat):=ecK l l.length
theorem si{q:List Rat}(h:nz q):Piv (ecP q)∧dg (ecP q)=dg q:=by
 obtain⟨h1,b⟩:=lS h;have d:aR q≠0:=gG h;refine FL (by unfold ecP aZ;rw[eP]) ?_ fun i c=>?_;unfold ecP;rw[cZ,b];have:=Rat.div_mul_cancel (a:=1) d;grind;unfold ecP;rw[cZ,h1.2 i c];grind
theorem rL_one(o q:List Rat):rL o [q]=rbF o q:=rfl
theorem GV{o q:List Rat}(ho:Piv o)(hq:Piv q)(hd:dg o≠dg q):Piv (reP o [q])∧dg (reP o [q])=dg o:=by
 have hc:∀i,coP (reP o [q]) i=coP o i- coP o (dg q) * coP q i:=fun i=>by rw[p9,cQ,rL_one,wP hq]
 refine FL (by rw[p9,eP]) ?_ fun i a=>?_;rw[hc,ho.at1];by_cases h:dg q< dg o;rw[hq.past h];grind;rw[ho.past (by omega)];grind;rw[hc,ho.past a];by_cases h:dg q< dg o;rw[hq.past (by omega)];grind;rw[ho.past (by omega)];grind
structure Bas (B:List (List Rat)):Prop where
 piv:∀b∈B,Piv b
 up:Up B
theorem up_map{B:List (List Rat)}{f:List Rat→List Rat}(h:Bas B)(hf:∀b∈B,Piv (f b)∧dg (f b)=dg b):Up (B.map f):=by
 unfold Up;rw[List.pairwise_map];refine List.Pairwise.imp_of_mem (fun{a b} ha hb hab=>?_) h.up;rw[(hf a ha).1.deg,(hf b hb).1.deg,(hf a ha).2,(hf b hb).2,←(h.piv a ha).deg,←(h.piv b hb).deg];exact hab
theorem ecT_bas{out:List (List Rat)}{p:List Rat}(h:Bas out):Bas (ecT out p):=by
 unfold ecT;split;exact h
 ·rename_i l
  have i:nz (reP p out):=Classical.byContradiction fun e=>l (degP_nil.2 e);obtain⟨q1,q2⟩:=si i
  have k:∀b∈out,dg b≠dg (ecP (reP p out)):=fun b hb e=>by
   have h1:=wS out.length out p rfl h.piv h.up b hb;have j:=(lS i).1.1;rw[←q2,←e,p9,cQ] at j;exact j h1
  generalize v:ecP (reP p out)=q at *
  have hf:∀b∈out,Piv (reP b [q])∧dg (reP b [q])=dg b:=fun b hb=>GV (h.piv b hb) q1 (k b hb);have d:=up_map h hf
  have hp:∀b∈out.map (fun o=>reP o [q]),Piv b∧dg b≠dg q:=fun b hb=>by
   obtain⟨o,f,rfl⟩:=List.mem_map.1 hb;exact⟨(hf o f).1,by rw[(hf o f).2];exact k o f⟩
  obtain⟨u,s,e1,e2,n,m⟩:=DX (out.map (fun o=>reP o [q])) q d;rw[List.length_map] at e2;rw[e2];rw[e1] at d hp;have c:=List.pairwise_append.1 d;refine⟨fun b hb=>?_,List.pairwise_append.2 ⟨c.1,List.pairwise_cons.2 ⟨n,c.2.1⟩,fun a ha b hb=>?_⟩⟩;rcases List.mem_append.1 hb with g|g
  exact(hp b (List.mem_append_left _ g)).1;rcases List.mem_cons.1 g with g|g
  rw[g];exact q1;exact(hp b (List.mem_append_right _ g)).1;rcases List.mem_cons.1 hb with g|g
  rw[g];obtain⟨r,t⟩:=hp a (List.mem_append_left _ ha);have:=m a ha;rw[r.deg,q1.deg] at this⊢;omega;exact c.2.2 a ha b g
theorem pD(l:List (List Rat)):∀k,Bas (ecK l k)
 |0=>⟨fun b hb=>(by cases hb),List.Pairwise.nil⟩
 |k+1=>ecT_bas (pD l k)
theorem ecT_len(out:List (List Rat))(p:List Rat):(ecT out p).length≤out.length+1:=by
 unfold ecT;split;omega;rw[lT];simp
theorem pC(l:List (List Rat)):∀k,(ecK l k).length≤k
 |0=>Nat.le_refl _
 |k+1=>by
  have h1:=pC l k;have a:=ecT_len (ecK l k) (l.getD k []);rw[ecK];omega
theorem C1{P:List Rat→Prop}{out:List (List Rat)}{p:List Rat}(h0:∀b∈out,bv (reP p out)< 0→P b)(h1:∀b∈out,¬bv (reP p out)< 0→P (reP b [ecP (reP p out)]))(h2:¬bv (reP p out)< 0→P (ecP (reP p out))):∀b∈ecT out p,P b:=by
 unfold ecT;split
 ·rename_i h;exact fun b hb=>h0 b hb h
 ·rename_i h
  refine tG _ (fun b hb=>?_) _ (by simp);rcases List.mem_append.1 hb with g|g
  obtain⟨o,a,rfl⟩:=List.mem_map.1 g;exact h1 o a h;rw[List.mem_singleton.1 g];exact h2 h
theorem Dx{Q:List Rat→Prop}(hQ:∀p b c r,Q p→Q b→(∀i,coP r i=coP p i- c* coP b i)→Q r)(h0:Q [])(l:List (List Rat))(hl:∀p∈l,Q p):∀k,∀b∈ecK l k,Q b
 |0=>fun b hb=>(by cases hb)
 |k+1=>by
  have a:=Dx hQ h0 l hl k;have hB:=pD l k
  have hp:Q (l.getD k []):=by
   by_cases h:k< l.length;exact hl _ (lW h);rw[List.getD_eq_getElem?_getD,List.getElem?_eq_none (by omega)];exact h0
  have hs:∀p q,Q p→(∀i,coP q i=coP p i)→Q q:=fun p q h1 d=>hQ p [] 0 q h1 h0 fun i=>by rw[d];grind
  have j:∀p B,Q p→(∀b∈B,Piv b∧Q b)→Q (reP p B):=fun p B h1 d=>by
   rw[p9];exact hs (rL p B) _ (wU hQ B.length B p rfl d h1) (cQ _)
  have m:=j _ _ hp fun b hb=>⟨hB.piv b hb,a b hb⟩
  have g:¬bv (reP (l.getD k []) (ecK l k))< 0→Q (ecP (reP (l.getD k []) (ecK l k))):=fun _=>hQ [] _ (-(1/ aR (reP (l.getD k []) (ecK l k)))) _ h0 m fun i=>by
   unfold ecP;rw[cZ,show coP [] i=0 from rfl];grind
  rw[ecK];refine C1 (fun b hb _=>a b hb) (fun b hb f=>?_) g;refine j b _ (a b hb) fun c hc=>?_;rw[List.mem_singleton.1 hc];exact⟨(si (Classical.byContradiction fun e=>f (degP_nil.2 e))).1,g f⟩
def ecB(s:Nat):Nat→Nat
 |0=>1
 |k+1=>2* ecB s k+2* rbB s (ecB s k) k+2
theorem xL(s k:Nat):1≤ecB s k:=by
 cases k with
 |zero=>exact Nat.le_refl _
 |succ k=>rw[ecB];omega
theorem GY(s:Nat){k n:Nat}(h:k≤n):ecB s k≤ecB s n:=by
 induction n with
 |zero=>rw[show k=0 by omega];exact Nat.le_refl _
 |succ n a=>
  by_cases e:k=n+1;rw[e];exact Nat.le_refl _;have:=a (by omega);rw[ecB];omega
theorem tk{p:List Rat}{B:List (List Rat)}{s t:Nat}(hB:∀b∈B,Piv b)(hp:bdL p s)(hs:1≤s)(hbt:∀b∈B,bdL b t)(ht:1≤t){k:Nat}(hk:B.length≤k):bdL (reP p B) (rbB s t k)∧(reP p B).length≤p.length:=by
 obtain⟨h1,c⟩:=wO hB hp hs hbt ht B.length (Nat.le_refl _);unfold reP;exact⟨fun q a=>Nat.le_trans (Hs h1 q a) (yB s t hk),Nat.le_trans (bU _) c⟩
theorem GX{q:List Rat}{u:Nat}(h:bdL q u)(hu:1≤u):bdL (ecP q) (2* u+1)∧(ecP q).length≤q.length:=by
 refine⟨?_,cy _ _⟩;have h1:=rY h hu;have a:=gY 1 (aR q);have d:qs 1≤1:=by decide
 have b:=gi (k:=1/ aR q) h hu (Nat.le_trans a (show qs 1+qs (aR q)≤1+u by omega));exact fun x c=>Nat.le_trans (b x c) (by omega)
theorem xK{l:List (List Rat)}{s n:Nat}(hs:1≤s)(hl:∀p∈l,bdL p s∧p.length≤n):∀k,∀b∈ecK l k,bdL b (ecB s k)∧b.length≤n
 |0=>fun b hb=>(by cases hb)
 |k+1=>by
  have g:=xK hs hl k;have hB:=pD l k;have f:=pC l k;have a:=xL s k
  have hp:bdL (l.getD k []) s∧(l.getD k []).length≤n:=by
   by_cases h:k< l.length;exact hl _ (lW h);rw[List.getD_eq_getElem?_getD,List.getElem?_eq_none (by omega)];exact⟨fun q d=>(by cases d),Nat.zero_le _⟩
  obtain⟨m,r⟩:=tk hB.piv hp.1 hs (fun b hb=>(g b hb).1) a f;have o:=wQ s (ecB s k) k;obtain⟨e1,e2⟩:=GX m (by omega);rw[ecK];refine C1 (fun b hb _=>⟨fun q d=>Nat.le_trans ((g b hb).1 q d) (by rw[ecB];omega),(g b hb).2⟩) (fun b hb j=>?_) fun j=>⟨fun q d=>Nat.le_trans (e1 q d) (by rw[ecB];omega),by omega⟩;have i:=(si (q:=reP (l.getD k []) (ecK l k)) (Classical.byContradiction fun e=>j (degP_nil.2 e))).1;obtain⟨o1,o2⟩:=tk (p:=b) (B:=[ecP (reP (l.getD k []) (ecK l k))]) (t:=2* rbB s (ecB s k) k+1) (k:=1) (fun c hc=>by rw[List.mem_singleton.1 hc];exact i) (g b hb).1 a (fun c hc=>by rw[List.mem_singleton.1 hc];exact e1) (by omega) (Nat.le_refl _);exact⟨fun q d=>Nat.le_trans (o1 q d) (by rw[rbB,rbB,ecB];omega),Nat.le_trans o2 (g b hb).2⟩
section
variable {k:Ke}{G u:List Rat}{L:Rat}{n:Nat}
end
section
variable {k:Ke}{G:List Rat}{L a x:Rat}(hl:k.length≤3)(h4:∀p∈k,p.1.length≤4∧p.2.length≤4)(hb:∀p∈k,bdL p.1 20∧bdL p.2 20)(hg:G.length≤5)(bg:bdL G 20)(qL:qs L≤20)(qa:qs a≤20)(qx:qs x≤20)
include hl h4 hb hg bg qL qa
end


end Go.Abs
namespace Go.Proofs.YtkhclghbcicapaaGreatDoor
open Go.Abs
set_option maxRecDepth 20000
theorem aY:Tryz.prog.follows .mixedOrders=true:=by kernel_rfl
instance:T4 Tryz.prog 2 [Value.int IntKind.i64 0] 1 false 8:=⟨by kernel_rfl⟩
instance tu_2:TU Tryz.prog 2 (.int .i64):=⟨by kernel_rfl⟩
instance:T4 Tryz.prog 3 [Value.int IntKind.i64 0] 1 false 8:=⟨by kernel_rfl⟩
instance tu_3:TU Tryz.prog 3 (.int .i64):=⟨by kernel_rfl⟩
instance:T4 Tryz.prog 4 [Value.bool false] 1 false 1:=⟨by kernel_rfl⟩
instance tu_4:TU Tryz.prog 4 .bool:=⟨by kernel_rfl⟩
instance:T4 Tryz.prog 5 [Value.int IntKind.u8 0] 1 false 1:=⟨by kernel_rfl⟩
instance tu_5:TU Tryz.prog 5 (.int .u8):=⟨by kernel_rfl⟩
instance:T3 Tryz.prog 9 1 false 16:=⟨by kernel_rfl⟩
instance tu_9:TU Tryz.prog 9 .string:=⟨by kernel_rfl⟩
instance:T4 Tryz.prog 22 [Value.slice none 0 0] 1 false 24:=⟨by kernel_rfl⟩
instance te_22:TE Tryz.prog 22 (142,2):=⟨by kernel_rfl⟩
instance:T4 Tryz.prog 24 [Value.int IntKind.i64 0,Value.int IntKind.i64 0,Value.int IntKind.u8 0] 3 true 24:=⟨by kernel_rfl⟩
instance tp_24:TP Tryz.prog 24 [(0,1),(1,1),(2,1)]:=⟨by kernel_rfl⟩
instance:T2 Tryz.prog 24 0 (0,1) false:=⟨by kernel_rfl⟩
instance:T2 Tryz.prog 24 1 (1,1) false:=⟨by kernel_rfl⟩
instance:T2 Tryz.prog 24 2 (2,1) false:=⟨by kernel_rfl⟩
instance:T4 Tryz.prog 25 [Value.slice none 0 0] 1 false 24:=⟨by kernel_rfl⟩
instance te_25:TE Tryz.prog 25 (24,3):=⟨by kernel_rfl⟩
instance:T4 Tryz.prog 26 [Value.slice none 0 0] 1 false 24:=⟨by kernel_rfl⟩
instance te_26:TE Tryz.prog 26 (61,2):=⟨by kernel_rfl⟩
instance:T4 Tryz.prog 27 [Value.slice none 0 0] 1 false 24:=⟨by kernel_rfl⟩
instance te_27:TE Tryz.prog 27 (61,2):=⟨by kernel_rfl⟩
instance:T4 Tryz.prog 28 [Value.slice none 0 0] 1 false 24:=⟨by kernel_rfl⟩
instance te_28:TE Tryz.prog 28 (189,1):=⟨by kernel_rfl⟩
instance:T4 Tryz.prog 30 [Value.slice none 0 0] 1 true 24:=⟨by kernel_rfl⟩
instance tp_30:TP Tryz.prog 30 [(0,1)]:=⟨by kernel_rfl⟩
instance:T2 Tryz.prog 30 0 (0,1) false:=⟨by kernel_rfl⟩
instance:T4 Tryz.prog 32 [Value.slice none 0 0,Value.bool false] 2 true 32:=⟨by kernel_rfl⟩
instance tp_32:TP Tryz.prog 32 [(0,1),(1,1)]:=⟨by kernel_rfl⟩
instance:T2 Tryz.prog 32 0 (0,1) true:=⟨by kernel_rfl⟩
instance:T2 Tryz.prog 32 1 (1,1) false:=⟨by kernel_rfl⟩
instance:T4 Tryz.prog 34 [Value.slice none 0 0,Value.bool false,Value.slice none 0 0] 3 true 56:=⟨by kernel_rfl⟩
instance tp_34:TP Tryz.prog 34 [(0,2),(2,1)]:=⟨by kernel_rfl⟩
instance:T2 Tryz.prog 34 0 (0,2) true:=⟨by kernel_rfl⟩
instance:T2 Tryz.prog 34 1 (2,1) true:=⟨by kernel_rfl⟩
instance:T4 Tryz.prog 35 [Value.slice none 0 0] 1 false 24:=⟨by kernel_rfl⟩
instance te_35:TE Tryz.prog 35 (34,3):=⟨by kernel_rfl⟩
instance:T4 Tryz.prog 36 [Value.slice none 0 0] 1 false 24:=⟨by kernel_rfl⟩
instance te_36:TE Tryz.prog 36 (34,3):=⟨by kernel_rfl⟩
instance:T4 Tryz.prog 38 [Value.slice none 0 0,Value.slice none 0 0,Value.bool false,Value.slice none 0 0,Value.slice none 0 0] 5 true 104:=⟨by kernel_rfl⟩
instance tp_38:TP Tryz.prog 38 [(0,1),(1,3),(4,1)]:=⟨by kernel_rfl⟩
instance:T2 Tryz.prog 38 0 (0,1) false:=⟨by kernel_rfl⟩
instance:T2 Tryz.prog 38 1 (1,3) true:=⟨by kernel_rfl⟩
instance:T2 Tryz.prog 38 2 (4,1) false:=⟨by kernel_rfl⟩
instance:T4 Tryz.prog 40 [Value.slice none 0 0,Value.bool false,Value.slice none 0 0,Value.slice none 0 0,Value.bool false,Value.slice none 0 0] 6 true 112:=⟨by kernel_rfl⟩
instance tp_40:TP Tryz.prog 40 [(0,3),(3,3)]:=⟨by kernel_rfl⟩
instance:T2 Tryz.prog 40 0 (0,3) true:=⟨by kernel_rfl⟩
instance:T2 Tryz.prog 40 1 (3,3) true:=⟨by kernel_rfl⟩
instance:T4 Tryz.prog 44 [Value.int IntKind.i64 0,Value.int IntKind.i64 0,Value.int IntKind.u8 0,Value.int IntKind.i64 0,Value.int IntKind.i64 0,Value.int IntKind.u8 0] 6 true 48:=⟨by kernel_rfl⟩
instance tp_44:TP Tryz.prog 44 [(0,3),(3,3)]:=⟨by kernel_rfl⟩
instance:T2 Tryz.prog 44 0 (0,3) true:=⟨by kernel_rfl⟩
instance:T2 Tryz.prog 44 1 (3,3) true:=⟨by kernel_rfl⟩
instance:T4 Tryz.prog 47 [Value.slice none 0 0] 1 false 24:=⟨by kernel_rfl⟩
instance te_47:TE Tryz.prog 47 (3,1):=⟨by kernel_rfl⟩
instance:T4 Tryz.prog 49 [Value.int IntKind.i64 0,Value.slice none 0 0] 2 true 32:=⟨by kernel_rfl⟩
instance tp_49:TP Tryz.prog 49 [(0,1),(1,1)]:=⟨by kernel_rfl⟩
instance:T2 Tryz.prog 49 0 (0,1) false:=⟨by kernel_rfl⟩
instance:T2 Tryz.prog 49 1 (1,1) false:=⟨by kernel_rfl⟩
instance:T4 Tryz.prog 51 [Value.int IntKind.i64 0,Value.slice none 0 0,Value.int IntKind.i64 0,Value.slice none 0 0] 4 true 64:=⟨by kernel_rfl⟩
instance tp_51:TP Tryz.prog 51 [(0,2),(2,2)]:=⟨by kernel_rfl⟩
instance:T2 Tryz.prog 51 0 (0,2) true:=⟨by kernel_rfl⟩
instance:T2 Tryz.prog 51 1 (2,2) true:=⟨by kernel_rfl⟩
instance:T4 Tryz.prog 61 [Value.slice none 0 0,Value.slice none 0 0] 2 true 48:=⟨by kernel_rfl⟩
instance tp_61:TP Tryz.prog 61 [(0,1),(1,1)]:=⟨by kernel_rfl⟩
instance:T2 Tryz.prog 61 0 (0,1) false:=⟨by kernel_rfl⟩
instance:T2 Tryz.prog 61 1 (1,1) false:=⟨by kernel_rfl⟩
instance:T4 Tryz.prog 68 [Value.slice none 0 0] 1 false 24:=⟨by kernel_rfl⟩
instance te_68:TE Tryz.prog 68 (36,1):=⟨by kernel_rfl⟩
instance:T4 Tryz.prog 78 [Value.slice none 0 0] 1 false 24:=⟨by kernel_rfl⟩
instance te_78:TE Tryz.prog 78 (51,4):=⟨by kernel_rfl⟩
instance:T4 Tryz.prog 84 [Value.slice none 0 0] 1 false 24:=⟨by kernel_rfl⟩
instance te_84:TE Tryz.prog 84 (147,2):=⟨by kernel_rfl⟩
instance:T4 Tryz.prog 87 [Value.slice none 0 0] 1 false 24:=⟨by kernel_rfl⟩
instance te_87:TE Tryz.prog 87 (51,4):=⟨by kernel_rfl⟩
instance:T4 Tryz.prog 91 [Value.int IntKind.i64 0,Value.slice none 0 0,Value.int IntKind.i64 0,Value.slice none 0 0,Value.int IntKind.i64 0,Value.slice none 0 0,Value.int IntKind.i64 0,Value.slice none 0 0] 8 true 128:=⟨by kernel_rfl⟩
instance tp_91:TP Tryz.prog 91 [(0,4),(4,4)]:=⟨by kernel_rfl⟩
instance:T2 Tryz.prog 91 0 (0,4) true:=⟨by kernel_rfl⟩
instance:T2 Tryz.prog 91 1 (4,4) true:=⟨by kernel_rfl⟩
instance:T4 Tryz.prog 101 [Value.slice none 0 0,Value.slice none 0 0,Value.bool false,Value.slice none 0 0,Value.slice none 0 0,Value.bool false,Value.slice none 0 0,Value.slice none 0 0,Value.bool false,Value.slice none 0 0] 10 true 192:=⟨by kernel_rfl⟩
instance tp_101:TP Tryz.prog 101 [(0,1),(1,3),(4,3),(7,3)]:=⟨by kernel_rfl⟩
instance:T2 Tryz.prog 101 0 (0,1) false:=⟨by kernel_rfl⟩
instance:T2 Tryz.prog 101 1 (1,3) true:=⟨by kernel_rfl⟩
instance:T2 Tryz.prog 101 2 (4,3) true:=⟨by kernel_rfl⟩
instance:T2 Tryz.prog 101 3 (7,3) true:=⟨by kernel_rfl⟩
instance:T4 Tryz.prog 109 [Value.slice none 0 0,Value.slice none 0 0,Value.bool false,Value.slice none 0 0,Value.slice none 0 0,Value.slice none 0 0,Value.bool false,Value.slice none 0 0,Value.slice none 0 0,Value.bool false,Value.slice none 0 0] 11 true 216:=⟨by kernel_rfl⟩
instance tp_109:TP Tryz.prog 109 [(0,5),(5,6)]:=⟨by kernel_rfl⟩
instance:T2 Tryz.prog 109 0 (0,5) true:=⟨by kernel_rfl⟩
instance:T2 Tryz.prog 109 1 (5,6) true:=⟨by kernel_rfl⟩
instance:T4 Tryz.prog 114 [Value.nilFunc] 1 false 8:=⟨by kernel_rfl⟩
instance:T4 Tryz.prog 115 [Value.nilFunc] 1 false 8:=⟨by kernel_rfl⟩
instance:T4 Tryz.prog 122 [Value.slice none 0 0] 1 false 24:=⟨by kernel_rfl⟩
instance te_122:TE Tryz.prog 122 (35,1):=⟨by kernel_rfl⟩
instance:T4 Tryz.prog 123 [Value.slice none 0 0] 1 false 24:=⟨by kernel_rfl⟩
instance te_123:TE Tryz.prog 123 (35,1):=⟨by kernel_rfl⟩
instance:T4 Tryz.prog 125 [Value.slice none 0 0,Value.slice none 0 0,Value.int IntKind.i64 0] 3 true 56:=⟨by kernel_rfl⟩
instance tp_125:TP Tryz.prog 125 [(0,1),(1,1),(2,1)]:=⟨by kernel_rfl⟩
instance:T2 Tryz.prog 125 0 (0,1) false:=⟨by kernel_rfl⟩
instance:T2 Tryz.prog 125 1 (1,1) false:=⟨by kernel_rfl⟩
instance:T2 Tryz.prog 125 2 (2,1) false:=⟨by kernel_rfl⟩
instance:T4 Tryz.prog 129 [Value.nilFunc] 1 false 8:=⟨by kernel_rfl⟩
instance:T4 Tryz.prog 133 [Value.nilFunc] 1 false 8:=⟨by kernel_rfl⟩
instance:T4 Tryz.prog 140 [Value.nilFunc] 1 false 8:=⟨by kernel_rfl⟩
instance:T4 Tryz.prog 142 [Value.slice none 0 0,Value.slice none 0 0] 2 true 48:=⟨by kernel_rfl⟩
instance tp_142:TP Tryz.prog 142 [(0,1),(1,1)]:=⟨by kernel_rfl⟩
instance:T2 Tryz.prog 142 0 (0,1) false:=⟨by kernel_rfl⟩
instance:T2 Tryz.prog 142 1 (1,1) false:=⟨by kernel_rfl⟩
instance:T4 Tryz.prog 147 [Value.slice none 0 0,Value.slice none 0 0] 2 true 48:=⟨by kernel_rfl⟩
instance tp_147:TP Tryz.prog 147 [(0,1),(1,1)]:=⟨by kernel_rfl⟩
instance:T2 Tryz.prog 147 0 (0,1) false:=⟨by kernel_rfl⟩
instance:T2 Tryz.prog 147 1 (1,1) false:=⟨by kernel_rfl⟩
instance:T4 Tryz.prog 150 [Value.slice none 0 0] 1 false 24:=⟨by kernel_rfl⟩
instance te_150:TE Tryz.prog 150 (2,1):=⟨by kernel_rfl⟩
instance:T4 Tryz.prog 154 [Value.nilFunc] 1 false 8:=⟨by kernel_rfl⟩
instance:T4 Tryz.prog 156 [Value.slice none 0 0,Value.bool false,Value.slice none 0 0,Value.slice none 0 0,Value.bool false,Value.slice none 0 0,Value.int IntKind.i64 0] 7 true 120:=⟨by kernel_rfl⟩
instance tp_156:TP Tryz.prog 156 [(0,6),(6,1)]:=⟨by kernel_rfl⟩
instance:T2 Tryz.prog 156 0 (0,6) true:=⟨by kernel_rfl⟩
instance:T2 Tryz.prog 156 1 (6,1) false:=⟨by kernel_rfl⟩
instance:T4 Tryz.prog 159 [Value.pointer none] 1 false 8:=⟨by kernel_rfl⟩
instance:T4 Tryz.prog 160 [Value.slice none 0 0] 1 false 24:=⟨by kernel_rfl⟩
instance te_160:TE Tryz.prog 160 (5,1):=⟨by kernel_rfl⟩
instance:T4 Tryz.prog 162 [Value.pointer none,Value.slice none 0 0] 2 true 32:=⟨by kernel_rfl⟩
instance tp_162:TP Tryz.prog 162 [(0,1),(1,1)]:=⟨by kernel_rfl⟩
instance:T2 Tryz.prog 162 0 (0,1) false:=⟨by kernel_rfl⟩
instance:T2 Tryz.prog 162 1 (1,1) false:=⟨by kernel_rfl⟩
instance:T4 Tryz.prog 175 [Value.nilFunc] 1 false 8:=⟨by kernel_rfl⟩
instance:T4 Tryz.prog 177 [Value.nilFunc] 1 false 8:=⟨by kernel_rfl⟩
instance:T4 Tryz.prog 180 [Value.nilFunc] 1 false 8:=⟨by kernel_rfl⟩
instance:T4 Tryz.prog 182 [Value.nilFunc] 1 false 8:=⟨by kernel_rfl⟩
instance:T4 Tryz.prog 189 [Value.int IntKind.u32 0] 1 false 4:=⟨by kernel_rfl⟩
instance tu_189:TU Tryz.prog 189 (.int .u32):=⟨by kernel_rfl⟩
instance:T4 Tryz.prog 190 [Value.int IntKind.u64 0] 1 false 8:=⟨by kernel_rfl⟩
instance tu_190:TU Tryz.prog 190 (.int .u64):=⟨by kernel_rfl⟩
instance:T4 Tryz.prog 206 [Value.nilFunc] 1 false 8:=⟨by kernel_rfl⟩
instance:T4 Tryz.prog 207 [Value.pointer none] 1 false 8:=⟨by kernel_rfl⟩
instance:T4 Tryz.prog 222 [Value.nilFunc] 1 false 8:=⟨by kernel_rfl⟩
instance:T4 Tryz.prog 228 [Value.nilFunc] 1 false 8:=⟨by kernel_rfl⟩
instance:T4 Tryz.prog 233 [Value.pointer none] 1 false 8:=⟨by kernel_rfl⟩
instance:T4 Tryz.prog 235 [Value.pointer none] 1 false 8:=⟨by kernel_rfl⟩
instance:T4 Tryz.prog 237 [Value.pointer none,Value.int IntKind.i64 0] 2 true 16:=⟨by kernel_rfl⟩
instance tp_237:TP Tryz.prog 237 [(0,1),(1,1)]:=⟨by kernel_rfl⟩
instance:T2 Tryz.prog 237 0 (0,1) false:=⟨by kernel_rfl⟩
instance:T2 Tryz.prog 237 1 (1,1) false:=⟨by kernel_rfl⟩
instance:T4 Tryz.prog 239 [Value.pointer none] 1 false 8:=⟨by kernel_rfl⟩
instance:T4 Tryz.prog 243 [Value.int IntKind.u64 0] 1 false 8:=⟨by kernel_rfl⟩
instance tu_243:TU Tryz.prog 243 (.int .u64):=⟨by kernel_rfl⟩
instance:T4 Tryz.prog 262 [Value.slice none 0 0,Value.slice none 0 0,Value.int IntKind.i64 0] 3 true 56:=⟨by kernel_rfl⟩
instance tp_262:TP Tryz.prog 262 [(0,1),(1,1),(2,1)]:=⟨by kernel_rfl⟩
instance:T2 Tryz.prog 262 0 (0,1) false:=⟨by kernel_rfl⟩
instance:T2 Tryz.prog 262 1 (1,1) false:=⟨by kernel_rfl⟩
instance:T2 Tryz.prog 262 2 (2,1) false:=⟨by kernel_rfl⟩
instance:T4 Tryz.prog 265 [Value.nilFunc] 1 false 8:=⟨by kernel_rfl⟩
instance:T3 Tryz.prog 270 24 true 24:=⟨by kernel_rfl⟩
instance:T4 Tryz.prog 296 [Value.nilFunc] 1 false 8:=⟨by kernel_rfl⟩
abbrev FS:=FSpec Tryz.prog
theorem De(l:List Nat):FS 100 [.agg [.arr (dE l)]] (bln (l.length==0)):=by
 refine f_n Tryz.func100 ?_ ?_;exact ac (aA (ac (cO l) af)) af;refine r_z 2 ?_;refine r_z 5 ?_;refine ai (aU rfl ?_ (ag _));simp only[bln,qM];congr 2;rw[Bool.eq_iff_iff];simp
theorem ii(l:List Nat)(hl:l.length≤281474976710656):FS 128 [.arr (dE l)] (.agg [.arr (dE (eW l))]):=by
 refine f_n Tryz.func128 ?_ ?_;exact ac (cO l) af;refine r_z 1 ?_;refine r_z 3 ?_;refine bh (fun k:Nat=>⟨[(0,.arr (dE l)),(2,.lptr 1 0 0),(3,i64 k)],[(1,some ⟨30,1,[[.emp]]⟩)],2,23⟩) (fun k=>k≤l.length∧eW l=l.take k) ?_ ?_;refine aj (aB (fun k:Nat=>⟨[(0,.arr (dE l)),(2,.lptr 1 0 0),(3,i64 k)],[(1,some ⟨30,1,[[.emp]]⟩)],2,23⟩) (fun k=>k) (fun k=>k≤l.length∧∀i,k≤i→i< l.length→l[i]?=some 0) l.length ⟨Nat.le_refl _,fun i h1 g=>by omega⟩ ?_ ?_);exact s_e [];rintro k ⟨b,j⟩;have fin:k=0∨l[k- 1]?≠some 0→eW l=l.take k:=kN l k b j;by_cases h0:k=0;subst h0;refine ae (s_r 10 ?_);refine a_3 ?_;refine n_g rfl d_f ?_;refine n_g rfl d_f ?_;refine n_g rfl d_f ?_;refine n_g rfl d_f ?_;refine n_g rfl d_f ?_;refine n_g rfl d_f ?_;refine o_0 (.pickF rfl d_f rfl) ?_;refine ao ?_;refine ap rfl (fun h=>?_) (fun _=>?_);cases h;refine ay ⟨0,⟨b,fin (.inl rfl)⟩,?_⟩;exact s_e [];have e:k- 1< l.length:=by omega
 obtain⟨d,c⟩:∃d,l[k- 1]?=some d:=⟨_,List.getElem?_eq_getElem e⟩;have a:(dE l)[((k:Int)- 1).toNat]?=some [u32 d]:=by rw[show((k:Int)- 1).toNat=k- 1 by omega];exact dp c
 refine ae (s_r 10 ?_);refine a_3 ?_;refine y_g rfl d_t (.move rfl) ?_;refine y_g rfl d_t (.move rfl) ?_;refine y_g rfl d_t (.bin rfl rfl (pO (by omega))) ?_;refine y_g rfl d_t (.index_a rfl rfl (by omega) a rfl te_28.h) ?_;refine y_g rfl d_t (.load_a1 rfl a TG.h rfl) ?_;refine y_g rfl d_t (.bin rfl rfl cv) ?_;refine o_0 (.pickT rfl d_t rfl) ?_;refine ao ?_;refine ap rfl (fun h=>?_) (fun h=>?_);refine am ?_;have f:d=0:=by simpa using h
 subst f;refine aj (r_m 3 ?_);refine a_z ?_;refine⟨k- 1,by omega,⟨by omega,fun i h1 g=>?_⟩,?_⟩;by_cases hi:i=k- 1;rw[hi];exact c;exact j i (by omega) g;exact s_e [];refine ay ⟨k,⟨b,fin (.inr ?_)⟩,?_⟩;rw[c];simp at h⊢;omega;exact s_e [];rintro k ⟨b,ht⟩;refine s_r 6 ?_;refine a_3 ?_;refine o_0 (.sa_hm rfl rfl rfl rfl rfl ⟨Nat.le_refl _,by simpa using b⟩ te_28.h (xU l)) ?_;refine a_z ?_;refine ai (dl rfl rfl rfl TG.h TS.h (nle rfl) ?_ (aA (ac (cO _) af)));rw[ht,←DA];rfl
theorem tO(z:Int):FS 162 [i64 z] (bln false):=by
 refine f_c Tryz.func162 ?_;refine r_z 1 ?_;refine r_z 4 ?_;refine ai (aU rfl ?_ (ag _));simp[bln]
theorem tN(z:Nat):FS 163 [u32 z] (bln false):=by
 refine f_c Tryz.func163 ?_;refine r_z 1 ?_;refine r_z 4 ?_;refine ai (aU rfl ?_ (ag _));simp[bln]
theorem xw(a b:Int):FS 131 [i64 a,i64 b] (i64 (eg a b)):=by
 refine f_c Tryz.func131 ?_;refine r_z 1 ?_;refine r_c 3 (tO a) ?_;refine a_z ?_;refine r_c 3 (tO b) ?_;refine a_z ?_;refine ae (r_z 1 ?_);refine ap rfl (fun h=>?_) (fun _=>am ?_);cases h;refine ae (r_z 1 ?_);refine ap rfl (fun h=>?_) (fun _=>am ?_);cases h;refine ae (r_z 3 ?_);refine ap rfl (fun h=>?_) (fun h=>am ?_);refine r_z 1 ?_;refine ai (aU rfl ?_ (ag _));simp at h;simp[i64,ofV,eg,h];refine ae (r_z 3 ?_);refine ap rfl (fun c=>?_) (fun c=>am ?_);refine r_z 1 ?_;refine ai (aU rfl ?_ (ag _));simp at h c;simp[i64,ofV,eg];omega;refine r_z 1 ?_;refine ai (aU rfl ?_ (ag _));simp at h c;simp[i64,ofV,eg];omega
theorem xu(a b:Nat):FS 132 [u32 a,u32 b] (i64 (eg a b)):=by
 refine f_c Tryz.func132 ?_;refine r_z 1 ?_;refine r_c 3 (tN a) ?_;refine a_z ?_;refine r_c 3 (tN b) ?_;refine a_z ?_;refine ae (r_z 1 ?_);refine ap rfl (fun h=>?_) (fun _=>am ?_);cases h;refine ae (r_z 1 ?_);refine ap rfl (fun h=>?_) (fun _=>am ?_);cases h;refine ae (r_z 3 ?_);refine ap rfl (fun h=>?_) (fun h=>am ?_);refine r_z 1 ?_;refine ai (aU rfl ?_ (ag _));simp at h;simp[i64,ofV,eg,h];refine ae (r_z 3 ?_);refine ap rfl (fun c=>?_) (fun c=>am ?_);refine r_z 1 ?_;refine ai (aU rfl ?_ (ag _));simp at h c;simp[i64,ofV,eg];omega;refine r_z 1 ?_;refine ai (aU rfl ?_ (ag _));simp at h c;simp[i64,ofV,eg];omega
theorem digs_one{n:Nat}:(aw MB n).length=1∧(aw MB n)[0]?=some 1↔n=1:=by
 constructor;rintro⟨h1,a⟩;have:=bq (b:=MB) (by decide) n
 match hd:aw MB n,h1,a with
 |[d],_,a=>rw[hd] at this;simp at a;subst a;simpa[ofD] using this.symm
 rintro rfl;rw[eX (by decide) (by decide)];rw[show 1/ MB=0 by decide,cm];simp
theorem fs_one(n:Nat):FS 154 [.agg [mag n]] (bln (n==1)):=by
 refine f_c Tryz.func154 ?_;refine r_z 2 ?_;by_cases h1:(aw MB n).length=1;obtain⟨d,b⟩:∃d,(aw MB n)[0]?=some d:=⟨_,List.getElem?_eq_getElem (by omega)⟩;have a:(dE (aw MB n))[(0:Int).toNat]?=some [u32 d]:=dp b;refine s_r 12 ?_;refine a_5 ?_;refine y_g rfl (by simp;omega) (.fieldAddr_l rfl TF.h (by decide)) ?_;refine y_g rfl (by simp;omega) (.load_l1 rfl rfl rfl TG.h rfl) ?_;refine y_g rfl (by simp;omega) (.index_a rfl rfl (by omega) a rfl te_28.h) ?_;refine y_g rfl (by simp;omega) (.load_a1 rfl a TG.h rfl) ?_;refine y_g rfl (by simp;omega) (.bin rfl rfl cv) ?_;refine o_0 (.pickT rfl (by simp;omega) rfl) ?_;refine a_z ?_;refine ai (aU rfl ?_ (ag _));simp only[bln];congr 2;rw[Bool.eq_iff_iff];have:=digs_one (n:=n);simp only[h1,b,true_and,Option.some.injEq] at this;simp only[beq_iff_eq,←this];omega;refine s_r 12 ?_;refine a_5 ?_;refine n_g rfl (by simp;omega) ?_;refine n_g rfl (by simp;omega) ?_;refine n_g rfl (by simp;omega) ?_;refine n_g rfl (by simp;omega) ?_;refine n_g rfl (by simp;omega) ?_;refine o_0 (.pickF rfl (by simp;omega) rfl) ?_;refine a_z ?_;refine ai (aU rfl ?_ (ag _));simp only[bln,ofV];congr 2;symm;rw[beq_eq_false_iff_ne];intro h;exact h1 (digs_one.2 h).1
def wy(n:Nat):Nat→AState
 |0=>⟨[(0,u64 n),(2,.lptr 1 0 0),(3,.emp)],[(1,some ⟨30,1,[[.emp]]⟩)],2,16⟩
 |k+1=>⟨[(0,u64 (jF n (k+1))),(2,.lptr 1 0 0),(3,.lsl 2 0 (k+1) none 1)],[(1,some ⟨30,1,[[.emp]]⟩),(2,some ⟨189,1,dE (uP n (k+1))⟩)],3,16⟩
theorem fU(n:Nat)(h:n< 18446744073709551616):FS 130 [u64 n] (.agg [mag n]):=by
 have e:(aw MB n).length≤3:=fo (by decide) (Nat.lt_of_lt_of_le h (by decide));refine f_c Tryz.func130 ?_;refine r_z 1 ?_;refine r_z 1 ?_;refine bh (wy n) (fun k=>k=(aw MB n).length) ?_ ?_;refine aj (aB (wy n) (fun k=>(aw MB n).length- k) (fun k=>k≤(aw MB n).length) 0 (Nat.zero_le _) ?_ ?_);rw[wy.eq_1];exact s_e [];rintro k d;have g:=FB d;have i:=FC d;have b:=lI d;cases k with
 |zero=>
  rw[th] at i;refine ae (r_z 2 ?_);refine ap rfl (fun h=>?_) (fun h=>?_);refine am ?_;have j:0< n:=by simpa using h
  have c:0< (aw MB n).length:=by omega
  obtain⟨a,ht⟩:=tj c;rw[th] at a ht;refine ae (aj (r_m 7 ?_));refine a_z ?_;refine r_m 3 ?_;refine a_z ?_;refine⟨1,by omega,c,?_⟩;rw[wy.eq_2];refine s_x [(2,3)] (fun hs=>?_) (fun hs=>?_) ?_
  ·repeat' (first|exact aK|refine az rfl ?_ ?_|exact aW|(refine Cv.loE hs ?_ (ag _);first|rfl|(simp[i64,u64,u32,bln,a,ht,hZ];done)|(simp[i64,u64,u32,bln,a,ht,hZ]<;> omega)))
  ·repeat' (first|exact aE|refine h_c ?_ ?_|exact bF|(refine aI hs ?_ (bH _);first|(simp[gL,ku,gM,a,ht,hZ];done)|(simp[dE,u32,ofV,a,ht,hZ];done))|refine aC ?_|exact av|refine ah ?_ ?_|exact aW|(refine Cv.loE hs ?_ (ag _);first|(simp[i64,u64,u32,bln,a,ht,hZ];done)|(simp[i64,u64,u32,bln,a,ht,hZ]<;> omega)))
  ·repeat' (first|exact ShrL.nil|refine ShrL.cons rfl rfl rfl rfl (by first|rfl|(simp;done)|(simp[a,ht,hZ]<;> omega)) ?_)
  refine ay ⟨0,?_,?_⟩;have:¬0< n:=by simpa using h
  omega;rw[wy.eq_1];exact s_e []
 |succ k=>
  rw[wy.eq_2];refine ae (r_z 2 ?_);refine ap rfl (fun h=>?_) (fun h=>?_);refine am ?_;have j:0< jF n (k+1):=by simpa using h
  have c:k+1< (aw MB n).length:=by omega
  obtain⟨a,ht⟩:=tj c;refine ae (aj (r_m 7 ?_));refine a_z ?_;refine r_m 3 ?_;refine a_z ?_;refine⟨k+1+1,by omega,c,?_⟩;rw[wy.eq_2];refine s_x [(2,3)] (fun hs=>?_) (fun hs=>?_) ?_
  ·repeat' (first|exact aK|refine az rfl ?_ ?_|exact aW|(refine Cv.loE hs ?_ (ag _);first|rfl|(simp[i64,u64,u32,bln,a,ht,b];done)|(simp[i64,u64,u32,bln,a,ht,b]<;> omega)))
  ·repeat' (first|exact aE|refine h_c ?_ ?_|exact bF|(refine aI hs ?_ (bH _);first|(simp[gL,ku,gM,a,ht,b];done)|(simp[dE,u32,ofV,a,ht,b];done))|refine aC ?_|exact av|refine ah ?_ ?_|exact aW|(refine Cv.loE hs ?_ (ag _);first|(simp[i64,u64,u32,bln,a,ht,b];done)|(simp[i64,u64,u32,bln,a,ht,b]<;> omega)))
  ·repeat' (first|exact ShrL.nil|refine ShrL.cons rfl rfl rfl rfl (by first|rfl|(simp;done)|(simp[a,ht,b]<;> omega)) ?_)
  refine ay ⟨k+1,?_,?_⟩;have:¬0< jF n (k+1):=by simpa using h
  omega;rw[wy.eq_2];exact s_e []
 rintro k rfl;cases d:(aw MB n).length with
 |zero=>
  rw[wy.eq_1];refine r_z 3 ?_;refine ai (Fin.cell rfl rfl rfl TG.h TS.h (nle rfl) (Cv.agg (ah (Cv.emp _ ?_) av)));unfold mag;rw[List.length_eq_zero_iff] at d;rw[d];rfl
 |succ k=>
  rw[wy.eq_2];refine r_z 3 ?_;refine ai (Fin.cell rfl rfl rfl TG.h TS.h (nle rfl) (Cv.agg (ah (Cv.shut aD rfl (fun _ _ h=>by cases h) ?_ ?_) av)));simp[lI (Nat.le_of_eq d.symm)];refine aI aD ?_ (bH _);have h1:(uP n (k+1)).length=k+1:=lI (Nat.le_of_eq d.symm);have f:=FJ n;rw[d] at f;simp only[List.drop_zero,DA];rw[List.take_of_length_le (Nat.le_of_eq h1),f]
def FK(p:Nat)(q:Nat):List Nat×Nat→AState
 |(s,c)=>⟨[(26,i64 s.length),(25,i64 (aw MB p).length),(24,mag p),(2,.lptr 1 0 0),(3,.lptr 2 0 0),(4,.lptr 3 0 0),(5,.lsl 4 0 ((aw MB p).length+1) (some ((aw MB p).length+1)) 1),(6,u32 c)],
  [(1,some ⟨30,1,[[mag p]]⟩),(2,some ⟨30,1,[[mag q]]⟩),(3,some ⟨30,1,[[.emp]]⟩),(4,some ⟨189,1,dE (s++List.replicate ((aw MB p).length+1- s.length) 0)⟩)],5,63⟩
structure PlusI (p q:Nat)(a:List Nat×Nat):Prop where
 le:a.1.length≤(aw MB p).length
 dig:∀d∈a.1,d< MB
 car:a.2≤1
 val:ofD MB a.1+MB^ a.1.length* a.2=ofD MB ((aw MB p).take a.1.length)+ofD MB ((aw MB q).take a.1.length)
theorem xh(a b:Nat)(h:bl a+bl b≤17592186044416):FS 129 [.agg [mag a],.agg [mag b]] (.agg [mag (a+b)]):=by
 have hla:=bJ (b:=MB) (by decide) a;have hlb:=bJ (b:=MB) (by decide) b;refine f_c Tryz.func129 ?_;refine r_z 3 ?_;refine ae (r_z 7 ?_)
 refine aH (fun x:Nat×Nat=>⟨[(2,.lptr 1 0 0),(3,.lptr 2 0 0),(4,.lptr 3 0 0)],[(1,some ⟨30,1,[[mag x.1]]⟩),(2,some ⟨30,1,[[mag x.2]]⟩),(3,some ⟨30,1,[[.emp]]⟩)],4,63⟩)
  (fun x=>x.1+x.2=a+b∧(aw MB x.2).length≤(aw MB x.1).length∧(aw MB x.1).length≤17592186044416) ?_ ?_
 refine ap rfl (fun h=>?_) (fun h=>?_);refine r_m 4 ?_;refine a_z ?_;refine⟨(b,a),⟨by simp;omega,?_,by simp;omega⟩,?_⟩;simp at h;simp;omega;exact s_e [];refine am ⟨(a,b),⟨rfl,?_,by simp;omega⟩,?_⟩;simp at h;simpa using h;exact s_e [];rintro⟨p,q⟩ ⟨hpq,hqp,hp⟩;simp only at hpq hqp hp⊢;refine r_z 6 ?_;refine r_z 1 ?_;refine ae (r_z 4 ?_);refine aH (FK p q) (fun x=>PlusI p q x∧x.1.length=(aw MB p).length) ?_ ?_;refine aj (aB (FK p q) (fun x=>(aw MB p).length- x.1.length) (PlusI p q) ([],0) ⟨by simp,by simp,by simp,by simp[ofD]⟩ ?_ ?_);rw[FK.eq_1];exact s_e [(4,5)];rintro⟨s,c⟩ ⟨hle,hdig,hcar,hval⟩;simp only at hle hdig hcar hval;rw[FK.eq_1];refine r_z 1 ?_;refine ae (ap rfl (fun h=>?_) (fun h=>?_));refine am ?_;have hlt:s.length< (aw MB p).length:=by simpa using h
 obtain⟨x,hx⟩:∃x,(aw MB p)[s.length]?=some x:=⟨_,List.getElem?_eq_getElem hlt⟩;have hx1:x< 1000000000:=cu (by decide) hx;have hx':(dE (aw MB p))[((s.length:Nat):Int).toNat]?=some [u32 x]:=dp hx;refine ae (aj (s_r 5 ?_));refine a_1 ?_;refine i_x hx' ?_;refine l_1 hx' ?_;refine a_z ?_;refine r_z 4 ?_;refine ae (r_z 5 ?_)
 have hq0:∀y,((aw MB q)[s.length]?.getD 0=y)→y< 1000000000:=by
  rintro y rfl;cases hy:(aw MB q)[s.length]? with
  |none=>decide
  |some y=>exact cu (by decide) hy
 refine aH (fun v:Nat=>⟨[(26,i64 s.length),(25,i64 (aw MB p).length),(24,mag p),(2,.lptr 1 0 0),(3,.lptr 2 0 0),(4,.lptr 3 0 0),(5,.lsl 4 0 ((aw MB p).length+1) (some ((aw MB p).length+1)) 1),(7,i64 s.length),(8,u32 v)],
  [(1,some ⟨30,1,[[mag p]]⟩),(2,some ⟨30,1,[[mag q]]⟩),(3,some ⟨30,1,[[.emp]]⟩),(4,some ⟨189,1,dE (s++List.replicate ((aw MB p).length+1- s.length) 0)⟩)],5,63⟩)
  (fun v=>v=x+c+(aw MB q)[s.length]?.getD 0) ?_ ?_
 refine ap rfl (fun h=>?_) (fun h=>?_);have hlt2:s.length< (aw MB q).length:=by simpa using h
 obtain⟨y,hy⟩:∃y,(aw MB q)[s.length]?=some y:=⟨_,List.getElem?_eq_getElem hlt2⟩;have hy1:y< 1000000000:=cu (by decide) hy;have hy':(dE (aw MB q))[((s.length:Nat):Int).toNat]?=some [u32 y]:=dp hy;refine r_m 8 ?_;refine a_4 ?_;refine i_x hy' ?_;refine l_1 hy' ?_;refine a_z ?_;refine⟨x+c+y,by rw[hy];rfl,?_⟩;exact s_e [];have hlt2:¬s.length< (aw MB q).length:=by simpa using h
 refine am ⟨x+c,by rw[List.getElem?_eq_none (by omega)];rfl,?_⟩;exact s_e [];rintro v hv;obtain⟨y,hy⟩:∃y,y=(aw MB q)[s.length]?.getD 0:=⟨_,rfl⟩;have hy1:=hq0 y hy.symm;rw[←hy] at hv;refine r_z 1 ?_;refine ae (r_z 2 ?_)
 have hg:(dE (s++List.replicate ((aw MB p).length+1- s.length) 0))[0+((s.length:Nat):Int).toNat]?=some [u32 0]:=by
  rw[Nat.zero_add,Int.toNat_natCast];exact dp (by rw[show(aw MB p).length+1- s.length=((aw MB p).length- s.length)+1 by omega];exact y9 _ _ _ rfl)
 have hset:∀w:Nat,(dE (s++List.replicate ((aw MB p).length+1- s.length) 0)).set (0+((s.length:Nat):Int).toNat) [u32 w]=dE ((s++[w])++List.replicate ((aw MB p).length+1- (s++[w]).length) 0):=by
  intro w;rw[Nat.zero_add,Int.toNat_natCast,gL,show(aw MB p).length+1- s.length=((aw MB p).length- s.length)+1 by omega,yp _ _ _ _ rfl,show(aw MB p).length+1- (s++[w]).length=(aw MB p).length- s.length by simp]
 have hnext:∀w c',w+1000000000* c'=x+c+y→w< 1000000000→c'≤1→PlusI p q (s++[w],c'):=by
  intro w c' hw hwb hc';refine⟨by simp;omega,?_,hc',?_⟩;intro d hd;rcases List.mem_append.1 hd with hd|hd
  exact hdig d hd;simp at hd;subst hd;exact hwb;simp only[List.length_append,List.length_singleton];rw[gE,cz _ hx,ez,←hy,Nat.pow_succ];have e:MB^ s.length* w+MB^ s.length* MB* c'=MB^ s.length* (w+MB* c'):=by rw[Nat.mul_add,Nat.mul_assoc]
  have e2:MB^ s.length* (x+c+y)=MB^ s.length* x+MB^ s.length* c+MB^ s.length* y:=by rw[Nat.mul_add,Nat.mul_add]
  rw[hw,e2] at e;omega
 refine ap rfl (fun h=>?_) (fun h=>?_);have hb:1000000000≤v:=by have:=of_decide_eq_true h;omega
 have hv1:((v:Int)- 1000000000)=((v- 1000000000:Nat):Int):=by omega
 refine r_m 4 ?_;refine a_z ?_;refine r_m 5 ?_;refine a_4 ?_;refine dX (.store rfl rfl hg rfl rfl rfl TS.h (nle rfl)) ?_;refine ao ?_;refine r_m 2 ?_;refine a_z ?_;refine⟨(s++[v- 1000000000],1),by simp;omega,hnext _ _ (by omega) (by omega) (Nat.le_refl _),?_⟩;rw[FK.eq_1];exact s_x [] (fun hs=>dG) (fun hs=>e_27);have hb:v< 1000000000:=by have:=of_decide_eq_false h;omega
 refine am (r_m 5 ?_);refine a_4 ?_;refine dX (.store rfl rfl hg rfl rfl rfl TS.h (nle rfl)) ?_;refine ao ?_;refine r_m 2 ?_;refine a_z ?_;refine⟨(s++[v],0),by simp;omega,hnext _ _ (by omega) hb (by omega),?_⟩;rw[FK.eq_1];exact s_x [] (fun hs=>dG) (fun hs=>e_28);refine ay ⟨(s,c),⟨⟨hle,hdig,hcar,hval⟩,?_⟩,?_⟩;simp at h;simp;omega;rw[FK.eq_1];exact s_e [];rintro⟨s,c⟩ ⟨⟨hle,hdig,hcar,hval⟩,hlen⟩;simp only at hle hdig hcar hval hlen
 have hg:(dE (s++List.replicate ((aw MB p).length+1- s.length) 0))[0+(((aw MB p).length:Nat):Int).toNat]?=some [u32 0]:=by
  rw[Nat.zero_add,Int.toNat_natCast,←hlen];exact dp (by rw[show s.length+1- s.length=0+1 by omega];exact y9 _ _ _ rfl)
 have hset:(dE (s++List.replicate ((aw MB p).length+1- s.length) 0)).set (0+(((aw MB p).length:Nat):Int).toNat) [u32 c]=dE (s++[c]):=by
  rw[Nat.zero_add,Int.toNat_natCast,←hlen,gL,show s.length+1- s.length=0+1 by omega,yp _ _ _ _ rfl];simp
 have hres:eW (s++[c])=aw MB (a+b):=by
  rw[jh (b:=MB) (by decide),gE,hval,gD _ (by omega),gD _ (by omega),bq (by decide),bq (by decide),hpq];intro d hd;rcases List.mem_append.1 hd with hd|hd
  exact hdig d hd;simp at hd;subst hd;show d< 1000000000;omega
 rw[FK.eq_1];refine s_r 7 ?_;refine a_6 ?_;refine dX (.store rfl rfl hg rfl rfl rfl TS.h (nle rfl)) ?_;refine ao ?_;refine AWp.ent (st':=⟨[(4,.lptr 3 0 0),(5,.arr (dE (s++[c])))],[(3,some ⟨30,1,[[.emp]]⟩)],4,63⟩) ?_ ?_;refine s_x [] (fun hs=>?_) (fun hs=>?_)
 ·repeat' (first|exact aK|refine az rfl ?_ ?_|exact Cv.sealE hs rfl (aM rfl) hset (by simp[hlen]) (bH _)|exact aW)
 ·repeat' (first|exact aE|refine h_c ?_ ?_|exact bF|refine aC ?_|exact av|refine ah ?_ ?_|exact Cv.sealE hs rfl (aM rfl) hset (by simp[hlen]) (bH _)|exact aW)
 refine s_r 3 ?_;refine o_0 (.move rfl) ?_;refine o_0 (.call rfl rfl rfl (ii _ (by simp;omega))) ?_;refine a_z ?_;refine ai (dl rfl rfl rfl TG.h TS.h (nle rfl) ?_ (aA (ac (bY _) af)));rw[hres];rfl
end Go.Proofs.YtkhclghbcicapaaGreatDoor
