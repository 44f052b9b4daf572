/- Part V17 of the proof. -/
import Derived.Test.YtkbjakfniejkcaaGreatDoorV16
set_option linter.all false
namespace Go.Abs
set_option maxRecDepth 20000
section
variable {p q:Lq}{i n k:Nat}{B:Lw}
def rbF(p b:Lq):Lq:=if bO b< p.length then eg p (ba b (coP p (bO b).toNat)) else p
def rbK(p:Lq)(B:Lw):Nat->Lq
 |0=>p
 |k+1=>rbF (rbK p B k) (B.getD (B.length- 1- k) [])
def reP(p:Lq)(B:Lw):Lq:=ao (rbK p B B.length)
def rZ(L:Lw):Nat->Lw
 |0=>L
 |j+1=>if bO (L.getD (j+1) [])< bO (L.getD j []) then rZ ((L.set (j+1) (L.getD j [])).set j (L.getD (j+1) [])) j else L
def kf(L:Lw):Nat->Lw
 |0=>L
 |i+1=>rZ (kf L i) (i+1)
theorem Bc:∀(j:Nat) (L:Lw),(rZ L j).length=L.length
 |0,L=>rfl
 |j+1,L=>by
  rw[rZ];split;rw[Bc j];simp;rfl
theorem ly(L:Lw):∀i,(kf L i).length=L.length
 |0=>rfl
 |i+1=>by rw[kf,Bc,ly L i]
theorem Bb{P:Lq->Prop}:∀(j:Nat) (L:Lw),j< L.length->(∀p∈L,P p)->∀p∈rZ L j,P p
 |0,L,_,h=>h
 |j+1,L,hl,h=>by
  rw[rZ];split;refine Bb j _ (by simp;omega) fun p hp=>?_
  have g:∀i,i< L.length->P (L.getD i []):=fun i c=>by
   rw[List.getD_eq_getElem?_getD,List.getElem?_eq_getElem c];exact h _ (List.getElem_mem _)
  rcases List.mem_or_eq_of_mem_set hp with b|b
  rcases List.mem_or_eq_of_mem_set b with a|a
  exact h p a;rw[a];exact g j (by omega);rw[b];exact g (j+1) hl;exact h
theorem vg{P:Lq->Prop}(L:Lw)(h:∀p∈L,P p):∀i,i< L.length->∀p∈kf L i,P p
 |0,_=>h
 |i+1,hi=>Bb _ _ (by rw[ly];omega) (vg L h i (by omega))
theorem Fk(L:Lw):∀i,(∀t,t< i->¬bO (L.getD (t+1) [])< bO (L.getD t []))->kf L i=L
 |0,_=>rfl
 |i+1,h=>by
  rw[kf,Fk L i fun t a=>h t (by omega),rZ,if_neg (h i (by omega))]
theorem Bh(A C:Lw)(x:Lq):(A++x::C).getD A.length []=x:=by
 rw[List.getD_eq_getElem?_getD,List.getElem?_append_right (Nat.le_refl _)];simp
theorem Bd:∀(j:Nat) (A:Lw) (x:Lq) (C:Lw),A.length=j->∃A1 A2,A=A1++A2/\rZ (A++x::C) j=A1++x::(A2++C)/\(∀b∈A2,bO x< bO b)/\∀B b,A1=B++[b]->¬bO x< bO b
 |0,A,x,C,hA=>by
  have:A=[]:=List.eq_nil_of_length_eq_zero hA;subst this;exact⟨[],[],rfl,rfl,fun b hb=>by simp at hb,fun B b h=>by simp at h⟩
 |j+1,A,x,C,hA=>by
  obtain⟨a,b,rfl⟩:∃a b,A=a++[b]:=⟨A.dropLast,A.getLast (by intro e;rw[e] at hA;cases hA),(List.dropLast_concat_getLast _).symm⟩;have d:a.length=j:=by simpa using hA
  have e1:(a++[b]++x::C).getD (j+1) []=x:=by
   have:=Bh (a++[b]) C x;rwa[List.length_append,List.length_singleton,d] at this
  have e2:(a++[b]++x::C).getD j []=b:=by
   have:=Bh a (x::C) b;rw[d] at this;simpa using this
  rw[rZ,e1,e2];by_cases hd:bO x< bO b;rw[if_pos hd]
  have m:((a++[b]++x::C).set (j+1) b).set j x=a++x::(b::C):=by
   subst d;simp[List.set_append]
  rw[m];obtain⟨A1,A2,k,g,l,i⟩:=Bd j a x (b::C) d;refine⟨A1,A2++[b],by rw[k];simp,by rw[g];simp,fun c f=>?_,i⟩;rcases List.mem_append.1 f with h|h
  exact l c h;rw[List.mem_singleton.1 h];exact hd;rw[if_neg hd];refine⟨a++[b],[],by simp,by simp,fun c f=>by simp at f,fun B c h=>?_⟩;have:=List.append_inj_right' h (by simp);simp at this;rw[<-this];exact hd
theorem wX(A:Lw)(x:Lq)(hs:A.Pairwise fun a b=>bO a< bO b):∃A1 A2,A=A1++A2/\kf (A++[x]) A.length=A1++x::A2/\(∀b∈A2,bO x< bO b)/\∀b∈A1,bO b<=bO x:=by
 have g:kf (A++[x]) A.length=rZ (A++x::[]) A.length:=by
  cases hA:A.length with
  |zero=>rfl
  |succ j=>
   rw[kf,Fk _ j fun t m=>?_];have c:t< A.length:=by omega
   have f:t+1< A.length:=by omega
   rw[List.getD_eq_getElem?_getD,List.getD_eq_getElem?_getD,List.getElem?_append_left c,List.getElem?_append_left f,List.getElem?_eq_getElem c,List.getElem?_eq_getElem f];have:=List.pairwise_iff_getElem.1 hs t (t+1) c f (by omega);show¬bO A[t+1]< bO A[t];omega
 obtain⟨A1,A2,c,f,k,i⟩:=Bd A.length A x [] rfl;refine⟨A1,A2,c,by rw[g,f];simp,k,fun b hb=>?_⟩;by_cases he:A1=[];rw[he] at hb;cases hb;have e:=List.dropLast_concat_getLast he;have l:=i _ _ e.symm;rw[c] at hs;have d:=(List.pairwise_append.1 hs).1;rw[<-e] at hb d;rcases List.mem_append.1 hb with h|h
 have:=(List.pairwise_append.1 d).2.2 b h _ (List.mem_singleton.2 rfl);omega;rw[List.mem_singleton.1 h];omega
structure Piv (p:Lq):Prop where
 tr:ao p=p
 ne:nz p
 one:aM p=1
theorem Piv.deg(h:Piv p):bO p=(dg p:Int):=FO h.ne
theorem Piv.len(h:Piv p):p.length=dg p+1:=by
 have a:=List.length_pos_iff.2 h.ne;have b:=h.tr;unfold dg;rw[b] at a⊢;omega
theorem Piv.at1(h:Piv p):coP p (dg p)=1:=by rw[(eA h.ne).2,h.one]
theorem Piv.past(h:Piv p)(hi:dg p< i):coP p i=0:=(eA h.ne).1.2 i hi
theorem Ik(ht:ao p=p)(h1:coP p n=1)(h2:∀i,n< i->coP p i=0):Piv p/\dg p=n:=by
 obtain⟨a,b,c⟩:=li (p:=p) (n:=n) ⟨by rw[h1];decide,h2⟩;exact⟨⟨ht,a,by rw[c,h1]⟩,b⟩
theorem uT{b:Lq}(hb:Piv b)(i:Nat):coP (rbF p b) i=coP p i- coP p (dg b) * coP b i:=by
 unfold rbF;rw[hb.deg,Int.toNat_natCast];split;rw[ff,cy];grind
 ·rename_i h
  rw[eH (p:=p) (i:=dg b) (by omega)];grind
theorem rbF_len{b:Lq}(hb:Piv b):(rbF p b).length<=p.length:=by
 unfold rbF;rw[hb.deg];split;have a:=Aq p (ba b (coP p ((dg b:Nat):Int).toNat));have c:=dJ b (coP p ((dg b:Nat):Int).toNat);have d:=hb.len;omega;exact Nat.le_refl _
theorem rbF_bd{b:Lq}{s t:Nat}(hb:Piv b)(hp:bdL p s)(hs:1<=s)(hbt:bdL b t)(ht:1<=t):bdL (rbF p b) (2* s+t+1):=k6 fun i=>by
 rw[uT hb];have d:=me (coP p i) (coP p (dg b) * coP b i);have a:=dw (coP p (dg b)) (coP b i);have f:=eM hp hs i;have c:=eM hp hs (dg b);have e:=eM hbt ht i;omega
def rL(p:Lq)(B:Lw):Lq:=B.reverse.foldl rbF p
theorem yM(p:Lq)(B:Lw)(b:Lq):rL p (B++[b])=rL (rbF p b) B:=by
 unfold rL;rw[List.reverse_append];rfl
theorem AG(p:Lq)(B:Lw)(b:Lq):∀k,k<=B.length->rbK p (B++[b]) (k+1)=rbK (rbF p b) B k
 |0,_=>by
  rw[rbK,rbK,rbK];congr 1;rw[List.getD_eq_getElem?_getD,List.length_append,List.length_singleton,show B.length+1- 1- 0=B.length by omega,List.getElem?_append_right (Nat.le_refl _)];simp
 |k+1,h=>by
  rw[rbK,AG p B b k (by omega),rbK];congr 1;rw[List.getD_eq_getElem?_getD,List.getD_eq_getElem?_getD,List.length_append,List.length_singleton,show B.length+1- 1- (k+1)=B.length- 1- k by omega,List.getElem?_append_left (by omega)]
theorem EZ:∀(n:Nat) (B:Lw) (p:Lq),B.length=n->rbK p B n=rL p B
 |0,B,p,h=>by
  rw[List.eq_nil_of_length_eq_zero h];rfl
 |n+1,B,p,h=>by
  obtain⟨C,b,rfl⟩:∃C b,B=C++[b]:=⟨B.dropLast,B.getLast (by intro e;rw[e] at h;cases h),(List.dropLast_concat_getLast _).symm⟩;have a:C.length=n:=by simpa using h
  rw[AG p C b n (by omega),EZ n C _ a,yM]
theorem j5(p:Lq)(B:Lw):reP p B=ao (rL p B):=by unfold reP;rw[EZ _ B p rfl]
theorem uV{Q H:Lq->Prop}(hQ:∀p b c r,Q p->H b->(∀i,coP r i=coP p i- c* coP b i)->Q r):∀(n:Nat) (B:Lw) (p:Lq),B.length=n->(∀b∈B,Piv b/\H b)->Q p->Q (rL p B)
 |0,B,p,h,_,hp=>by rw[List.eq_nil_of_length_eq_zero h];exact hp
 |n+1,B,p,h,hB,hp=>by
  obtain⟨C,b,rfl⟩:∃C b,B=C++[b]:=⟨B.dropLast,B.getLast (by intro e;rw[e] at h;cases h),(List.dropLast_concat_getLast _).symm⟩;have a:C.length=n:=by simpa using h
  obtain⟨b1,b2⟩:=hB b (by simp);rw[yM];exact uV hQ n C _ a (fun c d=>hB c (List.mem_append_left _ d)) (hQ p b _ _ hp b2 fun i=>uT b1 i)
theorem rL_keep(hB:∀b∈B,Piv b)(hi:∀b∈B,coP b i=0):coP (rL p B) i=coP p i:=
 uV (Q:=fun r=>coP r i=coP p i) (H:=fun b=>coP b i=0) (fun q b c r a hb d=>by rw[d,a,hb];grind) B.length B p rfl (fun b hb=>⟨hB b hb,hi b hb⟩) rfl
def Up(B:Lw):Prop:=B.Pairwise fun a b=>bO a< bO b
theorem tE:∀(n:Nat) (B:Lw) (p:Lq),B.length=n->(∀b∈B,Piv b)->Up B->∀b∈B,coP (rL p B) (dg b)=0
 |0,B,p,h,_,_=>by rw[List.eq_nil_of_length_eq_zero h];exact fun b hb=>by cases hb
 |n+1,B,p,h,hB,hU=>by
  obtain⟨C,c,rfl⟩:∃C b,B=C++[b]:=⟨B.dropLast,B.getLast (by intro e;rw[e] at h;cases h),(List.dropLast_concat_getLast _).symm⟩;have k:C.length=n:=by simpa using h
  have j:=hB c (by simp);have d:=List.pairwise_append.1 hU;intro b hb;rw[yM];rcases List.mem_append.1 hb with i|i
  exact tE n C _ k (fun x a=>hB x (List.mem_append_left _ a)) d.1 b i;rw[List.mem_singleton.1 i,rL_keep (fun x a=>hB x (List.mem_append_left _ a)) fun x a=>?_,uT j,j.at1];grind;have f:=hB x (List.mem_append_left _ a);have g:=d.2.2 x a c (List.mem_singleton.2 rfl);rw[f.deg,j.deg] at g;exact f.past (by omega)
def rbB(s t:Nat):Nat->Nat
 |0=>s
 |k+1=>2* rbB s t k+t+1
theorem yK(s t k:Nat):s<=rbB s t k:=by
 induction k with
 |zero=>exact Nat.le_refl _
 |succ k a=>rw[rbB];omega
theorem AH(s t:Nat)(h:k<=n):rbB s t k<=rbB s t n:=by
 induction n with
 |zero=>rw[show k=0 by omega];exact Nat.le_refl _
 |succ n a=>
  by_cases e:k=n+1;rw[e];exact Nat.le_refl _;have:=a (by omega);rw[rbB];omega
theorem nW(h:i< B.length):B.getD i []∈B:=by
 rw[List.getD_eq_getElem?_getD,List.getElem?_eq_getElem h];exact List.getElem_mem _
theorem yJ{p:Lq}{B:Lw}{s t:Nat}(hB:∀b∈B,Piv b)(hp:bdL p s)(hs:1<=s)(hbt:∀b∈B,bdL b t)(ht:1<=t):∀k,k<=B.length->bdL (rbK p B k) (rbB s t k)/\(rbK p B k).length<=p.length
 |0,_=>⟨hp,Nat.le_refl _⟩
 |k+1,h=>by
  obtain⟨c,d⟩:=yJ hB hp hs hbt ht k (by omega);have a:=nW (B:=B) (i:=B.length- 1- k) (by omega);have e:=yK s t k;rw[rbK,rbB];exact⟨rbF_bd (hB _ a) c (by omega) (hbt _ a) ht,Nat.le_trans (rbF_len (hB _ a)) d⟩
def ecP(q:Lq):Lq:=ba q (1/ aM q)
def ecT(out:Lw)(p:Lq):Lw:=if bO (reP p out)< 0 then out else kf (out.map (fun o=>reP o [ecP (reP p out)])++[ecP (reP p out)]) out.length
def ecK(l:Lw):Nat->Lw
 |0=>[]
 |k+1=>ecT (ecK l k) (l.getD k [])
def ecL(l:Lw):Lw:=ecK l l.length
theorem qZ(h:nz q):Piv (ecP q)/\dg (ecP q)=dg q:=by
 obtain⟨c,b⟩:=eA h;have d:aM q≠0:=dd h;refine Ik (by unfold ecP ba;rw[cw]) ?_ fun i e=>?_;unfold ecP;rw[cy,b];have:=Rat.div_mul_cancel (a:=1) d;grind;unfold ecP;rw[cy,c.2 i e];grind
theorem Ia(o q:Lq):rL o [q]=rbF o q:=rfl
theorem vM{o:Lq}(ho:Piv o)(hq:Piv q)(hd:dg o≠dg q):Piv (reP o [q])/\dg (reP o [q])=dg o:=by
 have a:∀i,coP (reP o [q]) i=coP o i- coP o (dg q) * coP q i:=fun i=>by rw[j5,bv,Ia,uT hq]
 refine Ik (by rw[j5,cw]) ?_ fun i b=>?_;rw[a,ho.at1];by_cases h:dg q< dg o;rw[hq.past h];grind;rw[ho.past (by omega)];grind;rw[a,ho.past b];by_cases h:dg q< dg o;rw[hq.past (by omega)];grind;rw[ho.past (by omega)];grind
structure Bas (B:Lw):Prop where
 piv:∀b∈B,Piv b
 up:Up B
theorem Hs{f:Lq->Lq}(h:Bas B)(hf:∀b∈B,Piv (f b)/\dg (f b)=dg b):Up (B.map f):=by
 unfold Up;rw[List.pairwise_map];refine List.Pairwise.imp_of_mem (fun{a b} ha hb hab=>?_) h.up;rw[(hf a ha).1.deg,(hf b hb).1.deg,(hf a ha).2,(hf b hb).2,<-(h.piv a ha).deg,<-(h.piv b hb).deg];exact hab
theorem ecT_bas{out:Lw}(h:Bas out):Bas (ecT out p):=by
 unfold ecT;split;exact h
 ·rename_i m
  have l:nz (reP p out):=Classical.byContradiction fun e=>m (degP_nil.2 e);obtain⟨q1,q2⟩:=qZ l
  have k:∀b∈out,dg b≠dg (ecP (reP p out)):=fun b hb e=>by
   have n:=tE out.length out p rfl h.piv h.up b hb;have j:=(eA l).1.1;rw[<-q2,<-e,j5,bv] at j;exact j n
  generalize v:ecP (reP p out)=q at *
  have d:∀b∈out,Piv (reP b [q])/\dg (reP b [q])=dg b:=fun b hb=>vM (h.piv b hb) q1 (k b hb);have i:=Hs h d
  have hp:∀b∈out.map (fun o=>reP o [q]),Piv b/\dg b≠dg q:=fun b hb=>by
   obtain⟨o,f,rfl⟩:=List.mem_map.1 hb;exact⟨(d o f).1,by rw[(d o f).2];exact k o f⟩
  obtain⟨u,w,e1,e2,r,t⟩:=wX (out.map (fun o=>reP o [q])) q i;rw[List.length_map] at e2;rw[e2];rw[e1] at i hp;have c:=List.pairwise_append.1 i;refine⟨fun b hb=>?_,List.pairwise_append.2 ⟨c.1,List.pairwise_cons.2 ⟨r,c.2.1⟩,fun a ha b hb=>?_⟩⟩;rcases List.mem_append.1 hb with g|g
  exact(hp b (List.mem_append_left _ g)).1;rcases List.mem_cons.1 g with g|g
  rw[g];exact q1;exact(hp b (List.mem_append_right _ g)).1;rcases List.mem_cons.1 hb with g|g
  rw[g];obtain⟨s,x⟩:=hp a (List.mem_append_left _ ha);have:=t a ha;rw[s.deg,q1.deg] at this⊢;omega;exact c.2.2 a ha b g
theorem mV(l:Lw):∀k,Bas (ecK l k)
 |0=>⟨fun b hb=>(by cases hb),List.Pairwise.nil⟩
 |k+1=>ecT_bas (mV l k)
theorem ecT_len(out:Lw)(p:Lq):(ecT out p).length<=out.length+1:=by
 unfold ecT;split;omega;rw[ly];simp
theorem rc(l:Lw):∀k,(ecK l k).length<=k
 |0=>Nat.le_refl _
 |k+1=>by
  have a:=rc l k;have b:=ecT_len (ecK l k) (l.getD k []);rw[ecK];omega
theorem y3{P:Lq->Prop}{out:Lw}(h0:∀b∈out,bO (reP p out)< 0->P b)(h1:∀b∈out,¬bO (reP p out)< 0->P (reP b [ecP (reP p out)]))(h2:¬bO (reP p out)< 0->P (ecP (reP p out))):∀b∈ecT out p,P b:=by
 unfold ecT;split
 ·rename_i h;exact fun b hb=>h0 b hb h
 ·rename_i h
  refine vg _ (fun b hb=>?_) _ (by simp);rcases List.mem_append.1 hb with g|g
  obtain⟨o,a,rfl⟩:=List.mem_map.1 g;exact h1 o a h;rw[List.mem_singleton.1 g];exact h2 h
theorem zM{Q:Lq->Prop}(hQ:∀p b c r,Q p->Q b->(∀i,coP r i=coP p i- c* coP b i)->Q r)(h0:Q [])(l:Lw)(hl:∀p∈l,Q p):∀k,∀b∈ecK l k,Q b
 |0=>fun b hb=>(by cases hb)
 |k+1=>by
  have f:=zM hQ h0 l hl k;have o:=mV l k
  have hp:Q (l.getD k []):=by
   by_cases h:k< l.length;exact hl _ (nW h);rw[List.getD_eq_getElem?_getD,List.getElem?_eq_none (by omega)];exact h0
  have hs:∀p q,Q p->(∀i,coP q i=coP p i)->Q q:=fun p q d a=>hQ p [] 0 q d h0 fun i=>by rw[a];grind
  have j:∀p B,Q p->(∀b∈B,Piv b/\Q b)->Q (reP p B):=fun p B d a=>by
   rw[j5];exact hs (rL p B) _ (uV hQ B.length B p rfl a d) (bv _)
  have n:=j _ _ hp fun b hb=>⟨o.piv b hb,f b hb⟩
  have m:¬bO (reP (l.getD k []) (ecK l k))< 0->Q (ecP (reP (l.getD k []) (ecK l k))):=fun _=>hQ [] _ (-(1/ aM (reP (l.getD k []) (ecK l k)))) _ h0 n fun i=>by
   unfold ecP;rw[cy,show coP [] i=0 from rfl];grind
  rw[ecK];refine y3 (fun b hb _=>f b hb) (fun b hb g=>?_) m;refine j b _ (f b hb) fun c s=>?_;rw[List.mem_singleton.1 s];exact⟨(qZ (Classical.byContradiction fun e=>g (degP_nil.2 e))).1,m g⟩
def ecB(s:Nat):Nat->Nat
 |0=>1
 |k+1=>2* ecB s k+2* rbB s (ecB s k) k+2
theorem zN(s k:Nat):1<=ecB s k:=by
 cases k with
 |zero=>exact Nat.le_refl _
 |succ k=>rw[ecB];omega
theorem Jx(s:Nat)(h:k<=n):ecB s k<=ecB s n:=by
 induction n with
 |zero=>rw[show k=0 by omega];exact Nat.le_refl _
 |succ n a=>
  by_cases e:k=n+1;rw[e];exact Nat.le_refl _;have:=a (by omega);rw[ecB];omega
theorem uS{s t:Nat}(hB:∀b∈B,Piv b)(hp:bdL p s)(hs:1<=s)(hbt:∀b∈B,bdL b t)(ht:1<=t)(hk:B.length<=k):bdL (reP p B) (rbB s t k)/\(reP p B).length<=p.length:=by
 obtain⟨a,c⟩:=yJ hB hp hs hbt ht B.length (Nat.le_refl _);unfold reP;exact⟨fun q d=>Nat.le_trans (J8 a q d) (AH s t hk),Nat.le_trans (bR _) c⟩
theorem Jw{u:Nat}(h:bdL q u)(hu:1<=u):bdL (ecP q) (2* u+1)/\(ecP q).length<=q.length:=by
 refine⟨?_,dJ _ _⟩;have d:=y6 h hu;have a:=ik 1 (aM q);have e:qs 1<=1:=by decide
 have b:=lb (k:=1/ aM q) h hu (Nat.le_trans a (show qs 1+qs (aM q)<=1+u by omega));exact fun x c=>Nat.le_trans (b x c) (by omega)
theorem zL{l:Lw}{s n:Nat}(hs:1<=s)(hl:∀p∈l,bdL p s/\p.length<=n):∀k,∀b∈ecK l k,bdL b (ecB s k)/\b.length<=n
 |0=>fun b hb=>(by cases hb)
 |k+1=>by
  have g:=zL hs hl k;have r:=mV l k;have f:=rc l k;have a:=zN s k
  have hp:bdL (l.getD k []) s/\(l.getD k []).length<=n:=by
   by_cases h:k< l.length;exact hl _ (nW h);rw[List.getD_eq_getElem?_getD,List.getElem?_eq_none (by omega)];exact⟨fun q d=>(by cases d),Nat.zero_le _⟩
  obtain⟨o,v⟩:=uS r.piv hp.1 hs (fun b hb=>(g b hb).1) a f;have u:=yK s (ecB s k) k;obtain⟨e1,e2⟩:=Jw o (by omega);rw[ecK];refine y3 (fun b hb _=>⟨fun q d=>Nat.le_trans ((g b hb).1 q d) (by rw[ecB];omega),(g b hb).2⟩) (fun b hb m=>?_) fun m=>⟨fun q d=>Nat.le_trans (e1 q d) (by rw[ecB];omega),by omega⟩;have i:=(qZ (q:=reP (l.getD k []) (ecK l k)) (Classical.byContradiction fun e=>m (degP_nil.2 e))).1;obtain⟨o1,o2⟩:=uS (p:=b) (B:=[ecP (reP (l.getD k []) (ecK l k))]) (t:=2* rbB s (ecB s k) k+1) (k:=1) (fun c j=>by rw[List.mem_singleton.1 j];exact i) (g b hb).1 a (fun c j=>by rw[List.mem_singleton.1 j];exact e1) (by omega) (Nat.le_refl _);exact⟨fun q d=>Nat.le_trans (o1 q d) (by rw[rbB,rbB,ecB];omega),Nat.le_trans o2 (g b hb).2⟩
end
section
variable {k:Ke}{G u:Lq}{L:Rat}{n:Nat}
end
section
variable {k:Ke}{G:Lq}{L a x:Rat}(hl:k.length<=3)(h4:∀p∈k,p.1.length<=4/\p.2.length<=4)(hb:∀p∈k,bdL p.1 20/\bdL p.2 20)(hg:G.length<=5)(bg:bdL G 20)(qL:qs L<=20)(qa:qs a<=20)(qx:qs x<=20)
include hl h4 hb hg bg qL qa
end


inductive Spn (B:Lw):Lq->Prop
 |zero {u:Lq}:(∀i,coP u i=0)->Spn B u
 |step {p b r:Lq} {c:Rat}:Spn B p->b∈B->(∀i,coP r i=coP p i- c* coP b i)->Spn B r
section
variable {B C:Lw}
theorem Spn.ext{u v:Lq}(h:Spn B u)(e:∀i,coP v i=coP u i):Spn B v:=by
 induction h generalizing v with
 |zero h=>exact .zero fun i=>by rw[e,h]
 |step d b c a=>exact .step (a fun i=>rfl) b fun i=>by rw[e,c]
theorem Spn.comb{p q r:Lq}{c:Rat}(hp:Spn B p)(hq:Spn B q)(h:∀i,coP r i=coP p i- c* coP q i):Spn B r:=by
 induction hq generalizing p r c with
 |zero b=>exact hp.ext fun i=>by rw[h,b];grind
 | @step p1 b1 r1 c1 h1 h2 h3 ih=>
  -- r=(p+c c1 b1)- c p1
  have e:∀i,coP (eg p (ba b1 (-(c* c1)))) i=coP p i- (-(c* c1)) * coP b1 i:=fun i=>by rw[ff,cy];grind
  have a:Spn B (eg p (ba b1 (-(c* c1)))):= .step hp h2 e;exact ih (c:=c) a fun i=>by rw[h,h3,e];grind
theorem Spn.of{b:Lq}(hb:b∈B):Spn B b:= .step (c:= -1) (p:=[]) (.zero fun i=>rfl) hb fun i=>by rw[show coP [] i=0 from rfl];grind
theorem Spn.mono{u:Lq}(h:Spn B u)(hB:∀b∈B,Spn C b):Spn C u:=by
 induction h with
 |zero h=>exact .zero h
 |step e c d a=>exact a.comb (hB _ c) d
theorem Spn.closed{Q:Lq->Prop}(h0:∀u,(∀i,coP u i=0)->Q u)(hQ:∀p b c r,Q p->Q b->(∀i,coP r i=coP p i- c* coP b i)->Q r){u:Lq}(h:Spn B u)(hB:∀b∈B,Q b):Q u:=by
 induction h with
 |zero h=>exact h0 _ h
 |step f d e a=>exact hQ _ _ _ _ a (hB _ d) e
end
def Redu(B:Lw):Prop:=∀b∈B,∀d∈B,dg b≠dg d->coP b (dg d)=0
theorem E0{B:Lw}(hB:∀b∈B,Piv b)(p:Lq):Spn B (eg p (rL p B)):=
 uV (Q:=fun r=>Spn B (eg p r)) (H:=fun b=>b∈B) (fun q b c r a hb d=>a.comb (c:= -c) (Spn.of hb) fun i=>by rw[ff,ff,d];grind) B.length B p rfl (fun b hb=>⟨hB b hb,hb⟩) (.zero fun i=>by rw[ff];grind)
theorem ecT_red{out:Lw}{p:Lq}(h:Bas out)(hr:Redu out):Redu (ecT out p)/\(∀b∈out,Spn (ecT out p) b)/\Spn (ecT out p) p:=by
 have k:Spn out (eg p (reP p out)):=by rw[j5];exact(E0 h.piv p).ext fun i=>by rw[ff,ff,bv]
 by_cases hd:bO (reP p out)< 0;have e:ecT out p=out:=by unfold ecT;rw[if_pos hd]
 rw[e];refine⟨hr,fun b hb=>Spn.of hb,k.ext fun i=>?_⟩
 have:ao (reP p out)=[]:=by
  have:=degP_nil.1 hd;unfold nz at this;exact Decidable.byContradiction this
 rw[ff,<-bv (reP p out),this,show coP [] i=0 from rfl];grind;have A:nz (reP p out):=Classical.byContradiction fun e=>hd (degP_nil.2 e);obtain⟨q1,q2⟩:=qZ A
 have n:∀b∈out,coP (ecP (reP p out)) (dg b)=0:=fun b hb=>by
  have d:=tE out.length out p rfl h.piv h.up b hb;unfold ecP;rw[cy,j5,bv,d];grind
 have w:∀i,coP (reP p out) i=aM (reP p out) * coP (ecP (reP p out)) i:=fun i=>by
  unfold ecP;rw[cy];have:=Rat.div_mul_cancel (a:=1) (dd A);grind
 have z:∀b∈out,dg b≠dg (ecP (reP p out)):=fun b hb e=>by
  have d:=n b hb;rw[e,q1.at1] at d;exact absurd d (by decide)
 have l:∀x,x∈ecT out p->(∃o∈out,x=reP o [ecP (reP p out)])\/x=ecP (reP p out):=y3 (P:=fun x=>(∃o∈out,x=reP o [ecP (reP p out)])\/x=ecP (reP p out)) (fun b hb h=>absurd h hd) (fun b hb _=> .inl ⟨b,hb,rfl⟩) fun _=> .inr rfl
 have s:(∀o∈out,reP o [ecP (reP p out)]∈ecT out p)/\ecP (reP p out)∈ecT out p:=by
  have D:=Hs h (f:=fun o=>reP o [ecP (reP p out)]) fun b hb=>vM (h.piv b hb) q1 (z b hb);obtain⟨B,F,e1,e2,_,_⟩:=wX (out.map fun o=>reP o [ecP (reP p out)]) (ecP (reP p out)) D
  have e:ecT out p=B++ecP (reP p out)::F:=by
   unfold ecT;rw[if_neg hd,<-e2,List.length_map]
  rw[e];refine⟨fun o v=>?_,by simp⟩;have:=List.mem_map_of_mem (f:=fun o=>reP o [ecP (reP p out)]) v;rw[e1] at this;rcases List.mem_append.1 this with g|g
  exact List.mem_append_left _ g;exact List.mem_append_right _ (List.mem_cons_of_mem _ g)
 generalize G:ecP (reP p out)=q at *
 have m:∀o i,coP (reP o [q]) i=coP o i- coP o (dg q) * coP q i:=fun o i=>by rw[j5,bv,Ia,uT q1]
 have v:∀b∈out,Spn (ecT out p) b:=fun b hb=>(Spn.of (s.1 b hb)).comb (c:= -coP b (dg q)) (Spn.of s.2) fun i=>by rw[m];grind
 refine⟨fun x E y C r=>?_,v,((k.mono v).comb (c:= -aM (reP p out)) (Spn.of s.2) fun i=>by rw[ff,w];grind)⟩;have j:∀o∈out,dg (reP o [q])=dg o:=fun o d=>(vM (h.piv o d) q1 (z o d)).2;rcases l x E with⟨o,d,rfl⟩|rfl <;> rcases l y C with⟨u,t,rfl⟩|rfl
 rw[j o d,j u t] at r;rw[j u t,m,hr o d u t r,n u t];grind;rw[m,q1.at1];grind;rw[j u t];exact n u t;exact absurd rfl r
theorem FK(l:Lw):∀k,Redu (ecK l k)/\∀j,j< k->Spn (ecK l k) (l.getD j [])
 |0=>⟨fun b hb=>(by cases hb),fun j d=>by omega⟩
 |k+1=>by
  obtain⟨h,f⟩:=FK l k;obtain⟨g,a,c⟩:=ecT_red (p:=l.getD k []) (mV l k) h;rw[ecK];refine⟨g,fun j d=>?_⟩;by_cases e:j=k;rw[e];exact c;exact(f j (by omega)).mono a
theorem ecL_span{l:Lw}:Redu (ecL l)/\∀u,Spn (ecL l) u↔Spn l u:=by
 obtain⟨e,d⟩:=FK l l.length;refine⟨e,fun u=>⟨fun h=>h.mono fun b hb=>?_,fun h=>h.mono fun p hp=>?_⟩⟩;exact zM (Q:=Spn l) (fun p b c r hp hb h=>hp.comb hb h) (.zero fun i=>rfl) l (fun p hp=>Spn.of hp) _ b hb;obtain⟨j,a,rfl⟩:=List.mem_iff_getElem.1 hp;have:=d j a;rwa[List.getD_eq_getElem?_getD,List.getElem?_eq_getElem a] at this
section
variable {M A:Mx}{n r:Nat}
def RowC(M A:Mx)(n:Nat):Prop:=∀i,i< n->∃y:Nat->Rat,∀j,A i j=sQ (fun t=>y t* M t j) n
theorem RowC.refl(M:Mx)(n:Nat):RowC M M n:=fun i a=>⟨fun t=>if t=i then 1 else 0,fun j=>by
 rw[bF (g:=fun t=>if t=i then M i j else 0) n fun t _=>?_,ju,if_pos a];show(if t=i then(1:Rat) else 0) * M t j=_;by_cases e:t=i;rw[if_pos e,if_pos e,e];grind;rw[if_neg e,if_neg e];grind⟩
theorem RowC.sw{k p:Nat}(h:RowC M A n)(hk:k< n)(hp:p< n):RowC M (swM A k p) n:=fun i b=>by
 unfold swM;by_cases e:i=k;obtain⟨y,a⟩:=h p hp;exact⟨y,fun j=>by rw[if_pos e];exact a j⟩;by_cases e2:i=p;obtain⟨y,a⟩:=h k hk;exact⟨y,fun j=>by rw[if_neg e,if_pos e2];exact a j⟩;obtain⟨y,a⟩:=h i b;exact⟨y,fun j=>by rw[if_neg e,if_neg e2];exact a j⟩
theorem RowC.sc{f:Rat}(h:RowC M A n):RowC M (scM A r f) n:=fun i b=>by
 obtain⟨y,a⟩:=h i b;unfold scM;by_cases e:i=r;refine⟨fun t=>y t* f,fun j=>?_⟩;rw[if_pos e,a,<-ny];exact bF n fun t _=>by grind
 exact⟨y,fun j=>by rw[if_neg e];exact a j⟩
theorem RowC.rd{k:Nat}(h:RowC M A n)(hr:r< n):RowC M (rdM A r k) n:=fun i b=>by
 obtain⟨y,a⟩:=h i b;obtain⟨z,c⟩:=h r hr;unfold rdM;by_cases e:i=r;exact⟨y,fun j=>by rw[if_pos e];exact a j⟩;refine⟨fun t=>y t- A i k* z t,fun j=>?_⟩;rw[if_neg e,a j,c j,<-ie];exact bF n fun t _=>by grind
theorem EK(M:Mx)(n:Nat):∀c,c<=n->RowC M (slM M n c).1 n
 |0,_=>RowC.refl M n
 |c+1,h=>by
  have a:=EK M n c (by omega);rw[slM];unfold slC;cases e:pvR (slM M n c).1 n (slM M n c).2.length c with
  |none=>exact a
  |some p=>
   obtain⟨p1,p2,b⟩:=j6 e;exact((a.sw (show(slM M n c).2.length< n by omega) p1).sc).rd (by omega)
def rdG(M:Mx)(r:Nat)(c:Nat->Rat):Mx:=fun i j=>if i=r then M i j else M i j- c i* M r j
theorem rdM_G(M:Mx)(r k:Nat):rdM M r k=rdG M r fun i=>M i k:=rfl
theorem rdG_inv(M:Mx)(r:Nat)(c:Nat->Rat):rdG (rdG M r c) r (fun i=> -c i)=M:=funext fun i=>funext fun j=>by
 unfold rdG;by_cases e:i=r;rw[if_pos e,if_pos e];rw[if_neg e,if_neg e,if_pos rfl];grind
theorem swM_inv(M:Mx)(k p:Nat):swM (swM M k p) k p=M:=funext fun i=>funext fun j=>by
 unfold swM;by_cases h1:i=k;subst h1;by_cases h2:p=i;subst h2;simp;simp[h2];by_cases h2:i=p;subst h2;simp[h1];simp[h1,h2]
theorem scM_inv{f:Rat}(hf:f≠0):scM (scM M r f) r (1/ f)=M:=funext fun i=>funext fun j=>by
 have e:=Rat.div_mul_cancel (a:=1) hf;unfold scM;by_cases h:i=r;rw[if_pos h,if_pos h];grind;rw[if_neg h,if_neg h]
structure Kept (n:Nat)(Q:Mx->Prop):Prop where
 sw:∀M k p,k< n->p< n->Q M->Q (swM M k p)
 sc:∀M r f,f≠0->r< n->Q M->Q (scM M r f)
 rd:∀M r c,r< n->Q M->Q (rdG M r c)
theorem Kept.iff{Q:Mx->Prop}(h:Kept n Q)(M:Mx):∀c,c<=n->(Q (slM M n c).1↔Q M)
 |0,_=>Iff.rfl
 |c+1,hc=>by
  rw[<-h.iff M c (by omega),slM];generalize (slM M n c).1=A;generalize (slM M n c).2=L;unfold slC;cases e:pvR A n L.length c with
  |none=>exact Iff.rfl
  |some p=>
   obtain⟨p1,p2,k⟩:=j6 e;have b:L.length< n:=by omega
   have d:1/ A p c≠0:=fun e=>by have:=Rat.div_mul_cancel (a:=1) k;rw[e] at this;grind
   show Q (rdM (scM (swM A L.length p) L.length (1/ A p c)) L.length c)↔Q A;constructor;intro g;rw[rdM_G] at g;have j:=h.rd _ _ (fun i=> -scM (swM A L.length p) L.length (1/ A p c) i c) b g;rw[rdG_inv] at j;have f:=h.sc _ _ (1/ (1/ A p c)) (fun e=>by have:=Rat.div_mul_cancel (a:=1) d;rw[e] at this;grind) b j;rw[scM_inv d] at f;have l:=h.sw _ L.length p b p1 f;rwa[swM_inv] at l;intro g;rw[rdM_G];exact h.rd _ _ _ b (h.sc _ _ _ d b (h.sw _ _ _ b p1 g))
def Nul(n:Nat)(M:Mx):Prop:=∀i j,i< n->j< n->M i j=0
def Min2(n:Nat)(M:Mx):Prop:=∀i i' j j',i< n->i'< n->j< n->j'< n->M i j* M i' j'=M i j'* M i' j
theorem Iy(n:Nat):Kept n (Nul n) where
 sw:=fun M k p e hp h i j b a=>by
  unfold swM;split;exact h p j hp a;split;exact h k j e a;exact h i j b a
 sc:=fun M r f _ d h i j b a=>by
  unfold scM;split;rw[h i j b a];grind;exact h i j b a
 rd:=fun M r c d h i j b a=>by
  unfold rdG;split;exact h i j b a;rw[h i j b a,h r j d a];grind
theorem Gp(n:Nat):Kept n (Min2 n) where
 sw:=fun M k p y hp h i d j l g b m a=>by
  have hs:∀i,i< n->∃t,t< n/\∀j,swM M k p i j=M t j:=fun i g=>by
   unfold swM;by_cases e:i=k;exact⟨p,hp,fun j=>by rw[if_pos e]⟩;by_cases e2:i=p;exact⟨k,y,fun j=>by rw[if_neg e,if_pos e2]⟩;exact⟨i,g,fun j=>by rw[if_neg e,if_neg e2]⟩
  obtain⟨t,x,v⟩:=hs i g;obtain⟨w,s,o⟩:=hs d b;rw[v,v,o,o];exact h t w j l x s m a
 sc:=fun M r f _ u h i d j l g b m a=>by
  have q:=h i d j l g b m a;unfold scM;by_cases e:i=r;by_cases e':d=r;simp only[if_pos e,if_pos e'];grind;simp only[if_pos e,if_neg e'];grind;by_cases e':d=r;simp only[if_neg e,if_pos e'];grind;simp only[if_neg e,if_neg e'];exact q
 rd:=fun M r c u h i d j l g b m a=>by
  have q:=h i d j l g b m a;have A:=h i r j l g u m a;have z:=h r d j l u b m a;unfold rdG;by_cases e:i=r;by_cases e':d=r;simp only[if_pos e,if_pos e'];exact q;simp only[if_pos e,if_neg e'];subst e;grind;by_cases e':d=r;simp only[if_neg e,if_pos e'];subst e';grind;simp only[if_neg e,if_neg e'];grind
def gL:Nat->Mx->Rat
 |0,_=>1
 |1,M=>M 0 0
 |2,M=>M 0 0* M 1 1- M 0 1* M 1 0
 |_,M=>M 0 0* (M 1 1* M 2 2- M 1 2* M 2 1)- M 0 1* (M 1 0* M 2 2- M 1 2* M 2 0)+M 0 2* (M 1 0* M 2 1- M 1 1* M 2 0)
theorem JO(hn:n<=3):Kept n (fun M=>gL n M=0) where
 sw:=fun M k p b hp h=>by
  show gL n (swM M k p)=0;have h:gL n M=0:=h;rcases(by omega:n=0\/n=1\/n=2\/n=3) with rfl|rfl|rfl|rfl
  omega;obtain rfl:k=0:=by omega
  obtain rfl:p=0:=by omega
  simpa[gL,swM] using h;rcases(by omega:k=0\/k=1) with rfl|rfl <;> rcases(by omega:p=0\/p=1) with rfl|rfl <;> simp[gL,swM] at h⊢ <;> grind
  rcases(by omega:k=0\/k=1\/k=2) with rfl|rfl|rfl <;> rcases(by omega:p=0\/p=1\/p=2) with rfl|rfl|rfl <;> simp[gL,swM] at h⊢ <;> grind
 sc:=fun M r f d a h=>by
  show gL n (scM M r f)=0;have h:gL n M=0:=h;rcases(by omega:n=0\/n=1\/n=2\/n=3) with rfl|rfl|rfl|rfl
  omega;obtain rfl:r=0:=by omega
  simp[gL,scM] at h⊢;grind;rcases(by omega:r=0\/r=1) with rfl|rfl <;> simp[gL,scM] at h⊢ <;> grind
  rcases(by omega:r=0\/r=1\/r=2) with rfl|rfl|rfl <;> simp[gL,scM] at h⊢ <;> grind
 rd:=fun M r c a h=>by
  show gL n (rdG M r c)=0;have h:gL n M=0:=h;rcases(by omega:n=0\/n=1\/n=2\/n=3) with rfl|rfl|rfl|rfl
  omega;obtain rfl:r=0:=by omega
  simpa[gL,rdG] using h;rcases(by omega:r=0\/r=1) with rfl|rfl <;> simp[gL,rdG] at h⊢ <;> grind
  rcases(by omega:r=0\/r=1\/r=2) with rfl|rfl|rfl <;> simp[gL,rdG] at h⊢ <;> grind
section
variable {M:Mx}{n:Nat}
theorem H9:(slM M n n).2.length=0↔Nul n M:=by
 have a:=dh M n n;rw[<-(Iy n).iff M n (Nat.le_refl _)];generalize (slM M n n).1=A at *
 generalize (slM M n n).2=L at *
 constructor;intro h i j f d;exact a.rest i j (by omega) f d;intro h;refine Classical.byContradiction fun g=>?_;have c:L[0]?=some L[0]:=List.getElem?_eq_getElem (by omega);have e:=a.lt 0 _ c;have b:=a.one 0 _ 0 c (by omega);rw[h 0 _ (by omega) e,if_pos rfl] at b
 revert b;decide
theorem H8:(slM M n n).2.length<=1↔Min2 n M:=by
 have a:=dh M n n;rw[<-(Gp n).iff M n (Nat.le_refl _)];generalize (slM M n n).1=A at *
 generalize (slM M n n).2=L at *
 constructor;intro h i k j l m b o c;by_cases e:i=0;by_cases e':k=0;rw[e,e'];grind;rw[a.rest k l (by omega) b c,a.rest k j (by omega) b o];grind;rw[a.rest i j (by omega) m o,a.rest i l (by omega) m c];grind;intro h;refine Classical.byContradiction fun g=>?_;have d:L[0]?=some L[0]:=List.getElem?_eq_getElem (by omega);have f:L[1]?=some L[1]:=List.getElem?_eq_getElem (by omega);have s:=a.len2;have q:=a.lt 0 _ d;have r:=a.lt 1 _ f;have p:=h 0 1 _ _ (by omega) (by omega) q r;rw[a.one 0 _ 0 d (by omega),a.one 1 _ 1 f (by omega),a.one 1 _ 0 f (by omega),a.one 0 _ 1 d (by omega),if_pos rfl,if_pos rfl,if_neg (by decide),if_neg (by decide)] at p;grind
theorem C3(hn:n<=3):(slM M n n).2.length< n↔gL n M=0:=by
 have c:=dh M n n;rw[<-(JO hn).iff M n (Nat.le_refl _)];generalize (slM M n n).1=A at *
 generalize (slM M n n).2=L at *
 constructor;intro h;have b:∀j,j< n->A (n- 1) j=0:=fun j t=>c.rest _ j (by omega) (by omega) t;rcases(by omega:n=1\/n=2\/n=3) with rfl|rfl|rfl
 exact b 0 (by omega);have o:=b 0 (by omega);have f:=b 1 (by omega);simp[gL] at o f⊢;grind;have o:=b 0 (by omega);have f:=b 1 (by omega);have s:=b 2 (by omega);simp[gL] at o f s⊢;grind;intro h;refine Classical.byContradiction fun g=>?_;have x:=c.len2
 have d:∀i,i< n->L[i]?=some i:=fun i q=>by
  obtain⟨l,e⟩:∃l,L[i]?=some l:=⟨_,List.getElem?_eq_getElem (by omega)⟩;obtain⟨w,e0⟩:∃l,L[0]?=some l:=⟨_,List.getElem?_eq_getElem (by omega)⟩;obtain⟨m,p⟩:∃l,L[n- 1]?=some l:=⟨_,List.getElem?_eq_getElem (by omega)⟩;have v:=c.gap e0 i l (by rw[Nat.zero_add];exact e);have u:=c.gap e (n- 1- i) m (by rw[show i+(n- 1- i)=n- 1 by omega];exact p);have y:=c.lt _ _ p;rw[e,show l=i by omega]
 have a:∀i k,i< n->k< n->A k i=if k=i then 1 else 0:=fun i k q r=>c.one i i k (d i q) r
 rcases(by omega:n=0\/n=1\/n=2\/n=3) with rfl|rfl|rfl|rfl
 have h:(1:Rat)=0:=h;grind;have h:A 0 0=0:=h;rw[a 0 0 (by omega) (by omega)] at h;revert h;decide;simp[gL,a 0 0,a 0 1,a 1 0,a 1 1] at h;grind;simp[gL,a 0 0,a 0 1,a 0 2,a 1 0,a 1 1,a 1 2,a 2 0,a 2 1,a 2 2] at h;grind
theorem Gi{N:Mx}(hn:n<=3)(h:∀i j,i< n->j< n->N i j=M j i):(slM M n n).2.length=(slM N n n).2.length:=by
 have l1:=(dh M n n).len2;have l2:=(dh N n n).len2;have e0:Nul n M↔Nul n N:=⟨fun g i j d c=>by rw[h i j d c];exact g j i c d,fun g i j d c=>by rw[<-h j i c d];exact g j i c d⟩
 have e1:Min2 n M↔Min2 n N:=⟨fun g i f j e d a c b=>by
  rw[h i j d c,h f e a b,h i e d b,h f j a c];have:=g j e i f c b d a;grind,fun g i f j e d a c b=>by
  rw[<-h j i c d,<-h e f b a,<-h e i b d,<-h j f c a];have:=g j e i f c b d a;grind⟩
 have e2:gL n M=gL n N:=by
  rcases(by omega:n=0\/n=1\/n=2\/n=3) with rfl|rfl|rfl|rfl
  rfl;exact(h 0 0 (by omega) (by omega)).symm;simp only[gL,h 0 0 (by omega) (by omega),h 0 1 (by omega) (by omega),h 1 0 (by omega) (by omega),h 1 1 (by omega) (by omega)];grind;simp only[gL,h 0 0 (by omega) (by omega),h 0 1 (by omega) (by omega),h 0 2 (by omega) (by omega),h 1 0 (by omega) (by omega),h 1 1 (by omega) (by omega),h 1 2 (by omega) (by omega),h 2 0 (by omega) (by omega),h 2 1 (by omega) (by omega),h 2 2 (by omega) (by omega)];grind
 have r0:=(H9 (M:=M) (n:=n)).trans (e0.trans (H9 (M:=N) (n:=n)).symm);have l:=(H8 (M:=M) (n:=n)).trans (e1.trans (H8 (M:=N) (n:=n)).symm);have k:=(C3 (M:=M) hn).trans ((by rw[e2]:gL n M=0↔gL n N=0).trans (C3 (M:=N) hn).symm);omega
end
end
def rqL(R:Nat->List RQ)(m:Nat):List Lc:=(List.range m).map fun k=>rE (R k)
@[simp] theorem rqL_length (R:Nat->List RQ)(m:Nat):(rqL R m).length=m:=by simp[rqL]
def rqO(R:Nat->List RQ)(s:Nat->Nat)(n m:Nat):Lc:=mzO 4 (fun k=>(R k).length) s m++List.replicate (n- m) [.emp]
def rqH(TS TQ:Nat)(R:Nat->List RQ)(n m:Nat)(ex:Hp):Hp:=mzX 4 TS TQ (rqO R (fun x=>x) n m) (rqL R m) ex
section
variable {fr fr':Fr}{hp ex:Hp}{nx N TS TQ n m k:Nat}{R R':Nat->List RQ}
end
theorem IF{q:Lq}(h:nz q){x:Rat}(hx:x<= -a8 q):ak q x≠0:=fun e=>by
 have a:=(o3 h hx).1;have b:=dd h;unfold ab at a;grind
section
variable {N:Lq}{n:Nat}(hN:nz N)(hm:aM N=1)(hd:dg N=n)(h1:1<=n)(ht:ao N=N)
include hN hm hd h1 ht
end
section
variable {T:Lq}{n:Nat}(hn:1<=n/\n<=5)(hl:T.length=n+1)(ht:ao T=T)(hm:aM T=1)
include hn hl ht hm
variable {A B:Lq}(hco:∀x,ak A x* ak T x+ak B x* dvE T x=1)
include hco
end
section
variable {T:Lq}{n:Nat}(hn:1<=n/\n<=5)(hl:T.length=n+1)(ht:ao T=T)(hm:aM T=1)(hb:bdL T 40)
include hn hl ht hm hb
end
theorem qu{p q:Lq}{k:Rat}(hk:k≠0)(hp:nz p)(h:∀x,ak q x=ak p x* k):cu q=cu p:=by
 obtain⟨d1,d2,a⟩:=jn hp hk h;have e1:cu p=ba p (1/ aM p):=by unfold cu;rw[if_neg hp]
 have e2:cu q=ba q (1/ aM q):=by unfold cu;rw[if_neg d1]
 rw[<-kT p,<-kT q];refine eqv_trim.1 fun x=>?_;rw[e1,e2,bG,bG];grind
section
variable {f:Nat}{p:Lq}{x:Rat}
theorem A4(u:Lq):cu (cu u)=cu u:=by
 by_cases h:nz u;have b:=gY h;obtain⟨k,c,a,m⟩:=oF u;exact qu (k:=k) (fun e=>by rw[e] at a;grind) h m;have e:ao u=[]:=Classical.byContradiction fun g=>h g;have:cu u=[]:=if_pos e;rw[this];rfl
theorem Ga{s s2:Lq}(hp:nz p)(h1:o5 f p=some s)(h2:o5 f s=some s2):s2=s:=by
 obtain⟨j,c⟩:=rG h1 hp
 have h:cu s=s:=by
  unfold o5 at h1;split at h1;cases hg:pu f p (bi p) with
  |none=>rw[hg] at h1;cases h1
  |some g=>
   rw[hg,Option.bind_some] at h1;split at h1;cases h1;exact A4 _;cases h1
  cases h1
 unfold o5 at h2;split at h2;cases hg:pu f s (bi s) with
 |none=>rw[hg] at h2;cases h2
 |some g=>
  rw[hg,Option.bind_some] at h2;split at h2;cases h2;obtain⟨d,m,t,a,b,C⟩:=lD f _ _ _ hg (.inl j);have r:=c g d m t;obtain⟨m1,m2⟩:=jb s d;obtain⟨u,y⟩:=m;have z:=qv (u:=u) (v:=[]) d (fun x=>by rw[y x,aV];exact(Rat.add_zero _).symm) (fun e=>absurd rfl e)
  have hs:∀x,ak s x=ak (dq s g).1 x* ak g x:=fun x=>by
   have:=m1 x;rw[z x,aV] at this;rw[this];grind
  obtain⟨A,B⟩:=gX hs j
  have o:∀x,ak g x=aM g:=fun x=>by
   have n:=(eA d).1.2;have l:=(eA d).2;rw[r] at n l
   rw[dZ (q:=[aM g]) (fun i=>by
    cases i with
    |zero=>rw[l];rfl
    |succ i=>rw[n (i+1) (by omega)];rfl) x,aO,aV];grind
  have w:aM g≠0:=fun e=>d (iw (p:=g) (q:=[]) fun x=>by rw[o,e,aV]);have:=qu (k:=aM g) w A (fun x=>by rw[hs,o]);rw[<-this,h];cases h2
 cases h2
section
variable {f:Nat}{p:Lq}{c:Cnt}(h:dz f p=some c)(hp:nz p)
include h hp
theorem CZ(x:Rat):ak c.p x=0↔ak p x=0:=Gb (fZ h hp).2.1 hp x
omit h hp in
theorem high_ne{q:Lq}(hq:nz q)(hx:a8 q<=x):ak q x≠0:=fun e=>by
 have a:=wo hq hx;have b:=Er (oJ hq);rw[e,F1] at a;grind
theorem EB(x:Rat):0<=cD c x:=by
 obtain⟨_,_,_,_,z,m⟩:=fZ h hp;by_cases g:x<= -a8 c.p;rw[z x g];exact Int.le_refl 0;have:=m (-a8 c.p) x (by grind);rw[z _ (by grind)] at this;exact this
theorem EW(hx:ak p x=0):ca c x=cD c x- 1/\ca c (-a8 p)<=ca c x/\cD c x<=cD c (a8 p):=by
 have e:=(CZ h hp x).2 hx;have e1:ca c x=cD c x- 1:=if_pos e
 have l1: -a8 p< x:=by
  refine Classical.byContradiction fun g=>?_;exact IF hp (show x<= -a8 p by grind) hx
 have l2:x< a8 p:=by
  refine Classical.byContradiction fun g=>?_;exact high_ne hp (show a8 p<=x by grind) hx
 have d:=CC h hp l1;have b:=(pI h hp (-a8 p)).1;have a:=k7 h hp (show x<=a8 p by grind);exact⟨e1,by omega,a⟩
theorem low_nn:0<=ca c (-a8 p)/\ca c (-a8 p)<=cD c (a8 p):=by
 have d:ca c (-a8 p)=cD c (-a8 p):=if_neg fun e=>IF hp (by grind) ((CZ h hp _).1 e);have a:=EB h hp (-a8 p);have b:=o0 p;have f:=k7 h hp (show -a8 p<=a8 p by grind);omega
end
theorem all_up{c:Cnt}(h:dz f p=some c)(hp:nz p)(h':dz f c.p=some c):cD c (a8 p)<=Hg c:=by
 have a:=(fZ h hp).1;unfold Hg;by_cases g:a8 p<=a8 c.p;exact k7 h hp g;have e:Far c.p (a8 c.p) (a8 p):=⟨ab (aM c.p),Er (oJ a),fun z b d=>wo a b⟩;have b:=(Ha h' a (show a8 c.p<=a8 p by grind)).2 e;have d:=(pI h' a (a8 c.p)).1;omega
theorem B3{c:Cnt}(h:dz f p=some c)(hp:nz p){i:Int}:plC c i x=0↔ak p x=0/\i=ca c x:=by
 have hb:=pI h hp x;unfold plC;constructor;intro e;split at e;cases e;split at e
 ·rename_i g
  refine⟨(CZ h hp x).1 (Classical.byContradiction fun a=>?_),g.1.symm⟩;have:ca c x=cD c x:=if_neg a;omega
 cases e;rintro⟨e,rfl⟩;have:=(EW h hp e).1;rw[if_neg (by omega),if_pos (by omega)]
end
def qH(h X:Nat):Bool:=(List.range 5).all fun m=>(List.range m).all fun n=>hG 9 m n h (h+4) X
theorem qH_1:qH 320001 2250000=true/\qH 9320005 66000000=true/\((List.range 5).all fun m=>(List.range m).all fun n=>cB 9 m n 9320005 9320009 9320009 67000000)=true:=by decide+kernel
theorem sqfQ{p:Lq}{h X:Nat}(hc:qH h X=true)(h1:1<=h/\h<=9320005)(hX:1<=X/\X<=66000000)(np:nz p)(hl:p.length<=4)(hb:bdL p h)(hH:Ht p h):∃q,o5 9 p=some q/\nz q/\q.length<=4/\Ht q (h+4* (X+1))/\bdL q (h+4* (X+1)):=by
 unfold qH at hc;simp only[List.all_eq_true,List.mem_range] at hc;have n:=bR p;have A:=List.length_pos_iff.2 np;have f:=xV np;have d:ao (bi p)=bi p:=cw _;have j:=xU (by omega) hb h1.1 hH;obtain⟨g,l,D,B,s⟩:=Fq 9 _ _ h (h+4) X p (bi p) (hc _ (by omega) _ (by rw[d];exact f)) rfl rfl hb j.1 hH j.2 h1.1 (by omega) (by omega) (by omega) (by omega);obtain⟨c,r,E,a,b,F⟩:=lD 9 _ _ _ l (.inl np);obtain⟨u,t⟩:=r;obtain⟨m1,m2⟩:=jb p c;have w:=qv (u:=u) (v:=[]) c (fun x=>by rw[t x,aV];exact(Rat.add_zero _).symm) (fun e=>absurd rfl e)
 have hs:∀x,ak p x=ak (dq p g).1 x* ak g x:=fun x=>by
  have:=m1 x;rw[w x,aV] at this;rw[this];grind
 obtain⟨i,z⟩:=gX hs np;have e1:=(dg_mul' i z hs).2.1;have e2:=(gY i).2.2;have m:=(gY i).2.1;have y:=List.length_pos_iff.2 m;have C:=mxL_le hb h1.1;have G:=mxL_le s hX.1;have k:=Nat.mul_le_mul (Nat.pow_le_pow_right (show 0< 2 by decide) (show(ao p).length+1- (ao g).length<=5 by omega)) (show mxL p+2* mxL g+1<=h+2* X+1 by omega);have o:((ao p).length+1- (ao g).length) * (X+1)<=4* (X+1):=Nat.mul_le_mul_right _ (by have:=List.length_pos_iff.2 c;omega);obtain⟨q1,q2⟩:=((zU hH B c).1.mono (show _<=h+4* (X+1) by omega)).monic (by omega);refine⟨cu (dq p g).1,?_,m,?_,q2,q1⟩;unfold o5;rw[if_pos ⟨dG hb (by omega),by omega⟩,l,Option.bind_some,if_pos ⟨c,by omega,by omega,by omega⟩];rw[<-kT (dq p g).1];unfold dg at e1 e2;omega
theorem det_cnt{d:Lq}(nd:nz d)(hb:bdL d 64000)(hl:d.length<=4):∃c,dz 9 d=some c/\dz 9 c.p=some c/\(∀x,qs x<=30000000->qi c x/\nI c x)/\c.p.length<=4/\bdL c.p 9320005:=by
 obtain⟨E,F,y⟩:=qH_1;simp only[List.all_eq_true,List.mem_range] at y;obtain⟨q,s1,s2,v,n,m⟩:=sqfQ E (by decide) (by decide) nd hl (bdL_mono' hb (by decide)) ((Ht.of hb).mono (by have:=Nat.mul_le_mul_right 64000 hl;omega));obtain⟨q2,t1,_⟩:=sqfQ F (by decide) (by decide) s2 v m n;rw[Ga nd s1 t1] at t1;have C:=bR q;obtain⟨p1,p2⟩:=n.prim s2 (by decide);obtain⟨c,K,D⟩:=oz s2;obtain⟨d1,d2,_⟩:=jn s2 (show c≠0 by grind) D;have H:=List.length_pos_iff.2 d1;have J:=List.length_pos_iff.2 s2;have u:(ao (b4 q)).length=(ao q).length:=by unfold dg at d2;omega
 have B:(b4 q).length=(ao (b4 q)).length:=by unfold b4;rw[wz]
 have t:=xV s2;have o:ao (bi q)=bi q:=cw _;have w:=xU (by omega) m (by decide) n;obtain⟨e,o1,o2,G⟩:=x8 9 9 _ _ 9320005 9320009 9320009 67000000 (b4 q) (bi q) [b4 q] (y (ao q).length (by omega) (bi q).length t) u (by rw[o]) rfl p1 p2 w.2 w.1 (by decide) (by decide) (by omega) (by omega) (by omega);have s:=mxL_le m (by decide);have z:=Nat.mul_le_mul (show q.length+4<=8 by omega) s
 have g:l8 9 q=some e:=by
  unfold l8;rw[if_pos ⟨dG m (by decide),⟨by omega,by omega⟩,s2⟩];exact o1
 have f:∀r∈e,nz r/\r.length<=7/\bdL r 67000000:=fun r j=>by
  rcases G r j with h|⟨a,b,d⟩
  rw[List.mem_singleton.1 h];exact⟨d1,by omega,fun x l=>Nat.le_trans (p1 x l) (by decide)⟩;exact⟨a,by omega,d⟩
 rw[List.length_singleton] at o2;have i:xf ⟨q,e,chL (e.map sgI) 0 0⟩:=⟨fun r j=>⟨(f r j).1,by have:=(f r j).2.1;omega⟩,by show e.length<=_;omega,rfl⟩
 have k:∀x,qs x<=30000000->qi ⟨q,e,chL (e.map sgI) 0 0⟩ x:=fun x l=>⟨i,fun r j=>by
  obtain⟨_,a,b⟩:=f r j;have:=mxL_le b (by decide);have A:=Nat.mul_le_mul a (show mxL r+qs x+1<=97000001 by omega);exact⟨by omega,by omega⟩⟩
 refine⟨⟨q,e,chL (e.map sgI) 0 0⟩,?_,?_,fun x l=>⟨k x l,k x l,?_⟩,v,m⟩;unfold dz;rw[s1,Option.bind_some,g,Option.bind_some,if_pos i];show dz 9 q=_;unfold dz;rw[t1,Option.bind_some,g,Option.bind_some,if_pos i];have A:=Nat.mul_le_mul v (show mxL q+qs x+1<=97000001 by omega);exact⟨by show q.length* (mxL q+qs x+1)+mxL q+qs x+2<=_;omega,by show q.length<=_;omega⟩
end Go.Abs
