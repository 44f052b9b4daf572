/- Part V16 of the proof. -/
import Derived.Test.YtkbjakfniejkcaaGreatDoorV15
import Derived.Lib.ItoaNum
set_option linter.all false
namespace Go.Abs
section
variable {k n i m new j:Nat}{x:Lc}{A:Nat->Nat->Rat}{w s:Nat->Nat}
theorem wU(n:Nat)(f:Nat->Rat):aN (n+1) f=aN n f++[f n]:=by simp[aN,List.range_succ]
theorem bY{t:Nat}{x:Option ABlk}{l:Hp}(h:k≠t):ap ((k,x)::l) t=ap l t:=by
 rw[di];unfold upd;grind
def fiL(A:Nat->Nat->Rat)(n i:Nat):List Lc:=(List.range i).map fun k=>pE (aN n (A k))
@[simp] theorem ko (A:Nat->Nat->Rat)(n i:Nat):(fiL A n i).length=i:=by simp[fiL]
theorem fz(h:k< i):(fiL A n i)[k]?=some (pE (aN n (A k))):=by simp[fiL,h]
theorem Jr(A:Nat->Nat->Rat)(n i:Nat):fiL A n i++[pE (aN n (A i))]=fiL A n (i+1):=by simp[fiL,List.range_succ]
theorem n5{e:Lc}(h:(fiL A n i)[k]?=some e):k< i/\e=pE (aN n (A k)):=by
 have a:=(List.getElem?_eq_some_iff.1 h).1;rw[ko] at a;rw[fz a] at h;grind
def foE(w:Nat->Nat)(s:Nat->Nat)(n m:Nat):Lc:=mzO 3 w s m++List.replicate (n- m) [.emp]
theorem iR(h:m<=n):(foE w s n m).length=n:=by simp[foE];omega
theorem foE_0(w:Nat->Nat)(s:Nat->Nat)(n:Nat):foE w s n 0=List.replicate n [.emp]:=rfl
theorem zx(h:k< m):(foE w s n m)[k]?=some [.lsl (s (k+2)) 0 (w k) none 3]:=by
 unfold foE;rw[List.getElem?_append_left (by simp_all)];exact yZ h
theorem DV(h:m<=k)(hk:k< n):(foE w s n m)[k]?=some [.emp]:=by
 unfold foE;rw[List.getElem?_append_right (by simp_all),List.getElem?_replicate,if_pos (by simp only[po];omega)]
theorem FC(hm:m<=n)(hk:n<=k):(foE w s n m)[k]?=none:=by
 rw[List.getElem?_eq_none];rw[iR hm];grind
theorem foE_n(w:Nat->Nat)(s:Nat->Nat)(n:Nat):foE w s n n=mzO 3 w s n:=by simp[foE]
theorem G0{w':Nat->Nat}{s':Nat->Nat}(h:∀k,k< m->w k=w' k/\s (k+2)=s' (k+2)):foE w s n m=foE w' s' n m:=by
 unfold foE mzO;simp_all
theorem FB{w':Nat->Nat}{s':Nat->Nat}(hm:m=i\/m=i+1)(hi:i< n)(h:∀k,k< i->w k=w' k/\s (k+2)=s' (k+2)):∀e:Nat,e=i->(foE w s n m).set e [.lsl (s' (i+2)) 0 (w' i) none 3]=foE w' s' n (i+1):=by
 rintro e rfl;refine List.ext_getElem? fun k=>?_;have a:m<=n:=by omega
 rw[List.getElem?_set,iR a];split
 ·rw[zx (by omega)]
  try grind
 ·by_cases hk:k< e
  rw[zx (by omega),zx (by omega),(h k hk).1,(h k hk).2];by_cases hkn:k< n;rw[DV (by omega) hkn,DV (by omega) hkn];rw[FC a (by omega),FC (by omega) (by omega)]
theorem Cs{r:Ren}{hp hp':Hq}:∀{a b c d:Lc},CvLL r hp hp' a b->CvLL r hp hp' c d->CvLL r hp hp' (a++c) (b++d)
 |[],_,_,_,h,h2=>by cases (h:_=[]);grind
 |x::xs,_,_,_,⟨y,ys,e,h1,h3⟩,h2=>by subst e;exact⟨y,_,rfl,h1,Cs h3 h2⟩
theorem lY{hp hp':Hq}(h:Shr ⟨40,s⟩ hp hp')(hm:m<=30)(hl:∀i,i< m->(hp' (i+2)).isSome=true):CvLL ⟨40,s⟩ hp hp' (foE w s n m) (foE w (fun i=>i) n m):=
 Cs (rz hm hl) (bm h fun e b c a=>by
  rw[(List.mem_replicate.1 b).2,List.mem_singleton] at a;rw[a];exact dl)
def fiR(i new x:Nat):Nat:=cond (Nat.beq x (i+2)) new x
theorem jc(h:k≠i):fiR i new (k+2)=k+2:=by
 unfold fiR;rw[show Nat.beq (k+2) (i+2)=false by cases hb:Nat.beq (k+2) (i+2) with|false=>rfl|true=>simp_all];rfl
theorem oO(i new:Nat):fiR i new (i+2)=new:=by unfold fiR;simp
theorem BI(i new:Nat):fiR i new 1=1:=by
 unfold fiR;rfl
theorem BJ(i new:Nat):fiR i new 0=0:=by
 unfold fiR;rfl
theorem qW(hm:m<=40)(hn:40<=new)(x y:Nat)(hx:x< m)(hy:y< m)(h:fiR i new x=fiR i new y):x=y:=by
 unfold fiR at h;cases h1:Nat.beq x (i+2)<;> cases h2:Nat.beq y (i+2)<;> rw[h1,h2] at h <;> simp only[cond_true,cond_false] at h;exact h;omega;omega;simp_all
def wJ(n i j k:Nat):Nat:=cond (Nat.blt k i) n j
theorem Hn(h:k< i):wJ n i j k=n:=by unfold wJ;rw[show Nat.blt k i=true from Nat.ble_eq_true_of_le h];rfl
theorem Ao:wJ n i j i=j:=by
 unfold wJ;rw[show Nat.blt i i=false by cases hb:Nat.blt i i with|false=>rfl|true=>simp_all];rfl
theorem fi_set(hi:i< n):∀e:Nat,e=i->(foE (wJ n i (j+1)) (fun x=>x) n (i+1)).set e [.lsl new 0 (j+1+1) none 3]=foE (wJ n i (j+1+1)) (fiR i new) n (i+1):=fun e b=>by
 have:=FB (w:=wJ n i (j+1)) (w':=wJ n i (j+1+1)) (s:=fun x=>x) (s':=fiR i new) (n:=n) (m:=i+1) (i:=i) (.inr rfl) hi (fun k a=>⟨by rw[Hn a,Hn a],(jc (by omega)).symm⟩) e b;rw[oO,Ao] at this;grind
theorem fi_set0(hi:i< n):∀e:Nat,e=i->(foE (fun _=>n) (fun x=>x) n i).set e [.lsl new 0 (0+1) none 3]=foE (wJ n i (0+1)) (fiR i new) n (i+1):=fun e b=>by
 have:=FB (w:=fun _=>n) (w':=wJ n i (0+1)) (s:=fun x=>x) (s':=fiR i new) (n:=n) (m:=i) (i:=i) (.inl rfl) hi (fun k a=>⟨by rw[Hn a],(jc (by omega)).symm⟩) e b;rw[oO,Ao] at this;grind
theorem foE_ge'(h:m<=k)(hk:k< n):∀e,e=k->(foE w s n m)[e]?=some [.emp]:=fun e a=>by rw[a];exact DV h hk
theorem foE_lt'(h:k< m)(hj:w k=j):∀e,e=k->(foE w s n m)[e]?=some [.lsl (s (k+2)) 0 j none 3]:=fun e a=>by rw[a,<-hj];exact zx h
theorem qX:(fiL A n i++[x])[i]?=some x:=by simp
theorem sr(h:k< i):(fiL A n i++[x])[k]?=some (pE (aN n (A k))):=by
 rw[List.getElem?_append_left (by simp_all)];exact fz h
theorem DW{e:Lc}(h:(fiL A n i++[x])[k]?=some e):(k< i/\e=pE (aN n (A k)))\/(k=i/\e=x):=by
 have a:=(List.getElem?_eq_some_iff.1 h).1;rw[List.length_append,ko,List.length_singleton] at a;by_cases hk:k< i;rw[sr hk] at h;cases h;exact .inl ⟨hk,rfl⟩;obtain rfl:k=i:=by omega
 simp_all
end
section
variable {R:Nat->Lq}{n k:Nat}{s:Nat->Nat}
def rwL(R:Nat->Lq)(n:Nat):List Lc:=(List.range n).map fun k=>pE (R k)
@[simp] theorem pm (R:Nat->Lq)(n:Nat):(rwL R n).length=n:=by simp[rwL]
theorem EO(h:k< n):(rwL R n)[k]?=some (pE (R k)):=by simp[rwL,h]
theorem CW{e:Lc}(h:(rwL R n)[k]?=some e):k< n/\e=pE (R k):=by
 have a:=(List.getElem?_eq_some_iff.1 h).1;rw[pm] at a;rw[EO a] at h;grind
theorem fiL_rwL(A:Nat->Nat->Rat)(n i:Nat):fiL A n i=rwL (fun k=>aN n (A k)) i:=rfl
def rwO(R:Nat->Lq)(s:Nat->Nat)(n:Nat):Lc:=mzO 3 (fun k=>(R k).length) s n
@[simp] theorem pk (R:Nat->Lq)(s:Nat->Nat)(n:Nat):(rwO R s n).length=n:=po _ _ _ _
theorem em(h:k< n):∀e,e=k->(rwO R s n)[e]?=some [.lsl (s (k+2)) 0 (R k).length none 3]:=fun e a=>by rw[a];exact yZ h
theorem rwO_out(h:n<=k):(rwO R s n)[k]?=none:=by simp_all
theorem fU{R':Nat->Lq}{s':Nat->Nat}(h:∀k,k< n->(R k).length=(R' k).length/\s (k+2)=s' (k+2)):rwO R s n=rwO R' s' n:=by
 refine List.ext_getElem? fun k=>?_;by_cases hk:k< n;rw[em hk k rfl,em hk k rfl,(h k hk).1,(h k hk).2];simp_all
def rwH(TS TQ:Nat)(R:Nat->Lq)(n:Nat)(ex:Hp):Hp:=mzX 3 TS TQ (rwO R (fun x=>x) n) (rwL R n) ex
section
variable {fr fr':Fr}{hp ex:Hp}{nx N TS TQ n k:Nat}{R R':Nat->Lq}
theorem dH(hid:∀p∈ex,35<=p.1/\p.1< 40)(hn:n<=30)(h:k< n):ap (rwH TS TQ R n ex) (k+2)=some ⟨TQ,3,pE (R k)⟩:=mzX_row hid (by omega) (EO h)
theorem jZ(hid:∀p∈ex,35<=p.1/\p.1< 40)(hn:n<=30)(h:k< n):dQ (ap (rwH TS TQ R n ex)) (k+2)=some ⟨TQ,3,pE (R k)⟩:=ei (dH hid hn h) (show(3:Nat)≠0 by decide)
theorem cv(hid:∀p∈ex,35<=p.1/\p.1< 40):ap (rwH TS TQ R n ex) 1=some ⟨TS,1,rwO R (fun x=>x) n⟩:=mzX_out hid
theorem SEntT.rw (s:Nat->Nat) (hn:n<=30) (s0:s 0=0) (hinj:∀i j,InX n i->InX n j->s i=s j->i=j) (h1:ap hp (s 1)=some ⟨TS,1,rwO R s n⟩) (hr:∀i,i< n->ap hp (s (i+2))=some ⟨TQ,3,pE (R i)⟩) (hid:∀p∈ex,35<=p.1/\p.1< 40)
    (hex:∀i B,(i,some B)∈ex->∃B0,ap hp (s i)=some B0/\B0.ty=B.ty/\B0.sz=B.sz/\B0.es.length=B.es.length)
    (hE:Shr ⟨40,s⟩ (ap hp) (ap (rwH TS TQ R n ex))->∀i B B0,(i,some B)∈ex->ap hp (s i)=some B0->CvLL ⟨40,s⟩ (ap hp) (ap (rwH TS TQ R n ex)) B0.es B.es)
    (hF:Shr ⟨40,s⟩ (ap hp) (ap (rwH TS TQ R n ex))->CvF ⟨40,s⟩ (ap hp) (ap (rwH TS TQ R n ex)) fr fr'):SEntT ⟨fr,hp,nx,N⟩ ⟨fr',rwH TS TQ R n ex,40,N⟩:=
 SEntT.mzx s (by simp_all) s0 (by rw[pm];grind) h1 (by simp) (fun i e h=>by
  obtain⟨a,rfl⟩:=CW h;exact⟨hr i a,aJ _⟩) hid hex (fun _=>rz hn fun i b=>by
  show(ap (rwH TS TQ R n ex) (i+2)).isSome=true;rw[dH hid hn b];rfl) hE hF
end
def upR(R:Nat->Lq)(k:Nat)(r:Lq):Nat->Lq:=fun i=>if i=k then r else R i
theorem eD(R:Nat->Lq)(k:Nat)(r:Lq):upR R k r k=r:=if_pos rfl
theorem kS(R:Nat->Lq){i:Nat}(r:Lq)(h:i≠k):upR R k r i=R i:=if_neg h
theorem HU{new m:Nat}{r:Lq}(hk:k< n)(hm:m=r.length):∀e:Nat,e=k->(rwO R (fun x=>x) n).set e [.lsl new 0 m none 3]=rwO (upR R k r) (fiR k new) n:=fun e a=>by
 subst a hm;refine List.ext_getElem? fun i=>?_;rw[List.getElem?_set,pk];split
 ·rename_i h;subst h
  rw[em hk e rfl,eD,oO]
 ·rename_i h
  by_cases hi:i< n;rw[em hi i rfl,em hi i rfl,kS _ _ (fun e=>h e.symm),jc (fun e=>h e.symm)];simp_all
def swx(a b x:Nat):Nat:=if x=a then b else if x=b then a else x
theorem swx_a(a b:Nat):swx a b a=b:=if_pos rfl
theorem swx_b(a b:Nat):swx a b b=a:=by unfold swx;grind
theorem pi{a b x:Nat}(h1:x≠a)(h2:x≠b):swx a b x=x:=by unfold swx;grind
theorem swx_inj{a b x y:Nat}(h:swx a b x=swx a b y):x=y:=by unfold swx at h;grind
theorem HT{p:Nat}(hk:k< n)(hp:p< n):∀a b:Nat,a=p->b=k->((rwO R (fun x=>x) n).set a [.lsl (k+2) 0 (R k).length none 3]).set b [.lsl (p+2) 0 (R p).length none 3]=rwO (fun i=>R (swx k p i)) (swx (k+2) (p+2)) n:=fun a b ha hb=>by
 subst ha hb;refine List.ext_getElem? fun i=>?_;rw[List.getElem?_set,List.length_set,List.getElem?_set,pk];by_cases hi:i< n;rw[em (R:=fun i=>R (swx b a i)) hi i rfl];by_cases c:b=i;subst c;rw[swx_a,swx_a]
 try grind
 rw[if_neg c];by_cases h2:a=i;subst h2;rw[swx_b,swx_b]
 try grind
 rw[if_neg h2,em hi i rfl,pi (fun e=>c e.symm) (fun e=>h2 e.symm),pi (by omega) (by omega)];have c:b≠i:=by omega
 simp_all
end
def sQ(f:Nat->Rat):Nat->Rat
 |0=>0
 |n+1=>sQ f n+f n
theorem bF{f g:Nat->Rat}:∀n,(∀j,j< n->f j=g j)->sQ f n=sQ g n
 |0,_=>rfl
 |n+1,h=>by rw[sQ,sQ,bF n fun j a=>h j (by omega),h n (by omega)]
theorem ie(f g:Nat->Rat)(u:Rat):∀n,sQ (fun j=>f j- u* g j) n=sQ f n- u* sQ g n
 |0=>by rw[sQ,sQ,sQ];grind
 |n+1=>by rw[sQ,sQ,sQ,ie f g u n];grind
theorem CU(f g:Nat->Rat):∀n,sQ (fun j=>f j+g j) n=sQ f n+sQ g n
 |0=>by rw[sQ,sQ,sQ];grind
 |n+1=>by rw[sQ,sQ,sQ,CU f g n];grind
theorem ju(i:Nat)(a:Rat):∀n,sQ (fun j=>if j=i then a else 0) n=if i< n then a else 0
 |0=>by rw[sQ,if_neg (by omega)]
 |n+1=>by
  rw[sQ,ju i a n];grind
abbrev Mx:=Nat->Nat->Rat
def Sol(c:Rat)(M:Mx)(n:Nat)(x:Nat->Rat):Prop:=∀i,i< n->sQ (fun j=>M i j* x j) n=c* M i n
def swM(M:Mx)(k p:Nat):Mx:=fun i j=>if i=k then M p j else if i=p then M k j else M i j
theorem HN{c:Rat}{M:Mx}{n k p:Nat}{x:Nat->Rat}(hk:k< n)(hp:p< n)(h:Sol c (swM M k p) n x):Sol c M n x:=fun i a=>by
 by_cases e1:i=k;subst e1;by_cases e2:p=i;have:=h i a;unfold swM at this;simp only[e2] at this;exact this;have:=h p hp;unfold swM at this;simp only[if_neg e2] at this;exact this;by_cases e2:i=p;subst e2;have:=h k hk;unfold swM at this;simp only[if_pos rfl] at this;exact this;have:=h i a;unfold swM at this;grind
def bdM(M:Mx)(n s:Nat):Prop:=∀i j,i< n->j<=n->qs (M i j)<=s
theorem bd_sw{M:Mx}{n k p s:Nat}(h:bdM M n s)(hk:k< n)(hp:p< n):bdM (swM M k p) n s:=fun i j b a=>by
 unfold swM;split;exact h p j hp a;split;exact h k j hk a;exact h i j b a
section
variable {c n r:Nat}{M A:Mx}{x:Nat->Rat}{L:Ln}
def scM(M:Mx)(r:Nat)(f:Rat):Mx:=fun i j=>if i=r then M i j* f else M i j
def rdM(M:Mx)(r k:Nat):Mx:=fun i j=>if i=r then M i j else M i j- M i k* M r j
theorem ny(f:Nat->Rat)(u:Rat):∀n,sQ (fun j=>f j* u) n=sQ f n* u
 |0=>by rw[sQ,sQ];grind
 |n+1=>by rw[sQ,sQ,ny f u n];grind
theorem sol_sw2{c:Rat}{k p:Nat}(hk:k< n)(hp:p< n):Sol c (swM M k p) n x↔Sol c M n x:=by
 refine⟨HN hk hp,fun h=>?_⟩;refine HN (k:=k) (p:=p) hk hp fun i a=>?_
 have e:∀j,swM (swM M k p) k p i j=M i j:=fun j=>by
  unfold swM;by_cases h1:i=k;subst h1;by_cases h2:p=i;subst h2;simp;simp[h2];by_cases h2:i=p;subst h2;simp[h1];simp[h1,h2]
 rw[e,bF (g:=fun j=>M i j* x j) n fun j _=>by rw[e]];exact h i a
theorem sol_sc{c f:Rat}(hf:f≠0):Sol c (scM M r f) n x↔Sol c M n x:=by
 have a:∀i,(sQ (fun j=>scM M r f i j* x j) n=c* scM M r f i n)↔(sQ (fun j=>M i j* x j) n=c* M i n):=fun i=>by
  unfold scM;by_cases e:i=r;simp only[if_pos e];rw[bF (g:=fun j=>M i j* x j* f) n fun j _=>by grind,ny];generalize sQ (fun j=>M i j* x j) n=s;constructor;intro h;have d:f* (s- c* M i n)=0:=by grind
  rcases Rat.mul_eq_zero.1 d with g|g
  exact absurd g hf;grind;intro h;rw[h];grind;simp only[if_neg e]
 exact⟨fun h i b=>(a i).1 (h i b),fun h i b=>(a i).2 (h i b)⟩
theorem sol_rd{c:Rat}{k:Nat}(hr:r< n):Sol c (rdM M r k) n x↔Sol c M n x:=by
 have e0:∀j,rdM M r k r j=M r j:=fun j=>if_pos rfl;have e1:∀i j,i≠r->rdM M r k i j=M i j- M i k* M r j:=fun i j h=>if_neg h
 have s1:∀i,i≠r->sQ (fun j=>rdM M r k i j* x j) n=sQ (fun j=>M i j* x j) n- M i k* sQ (fun j=>M r j* x j) n:=fun i h=>by
  rw[<-ie];exact bF n fun j _=>by rw[e1 i j h];grind
 have d:sQ (fun j=>rdM M r k r j* x j) n=sQ (fun j=>M r j* x j) n:=bF n fun j _=>by rw[e0]
 constructor;intro h i b;have a:=h r hr;rw[d,e0] at a;by_cases e:i=r;rw[e];exact a;have f:=h i b;rw[s1 i e,e1 i n e,a] at f;grind;intro h i b;have a:=h r hr;by_cases e:i=r;rw[e,d,e0];exact a;rw[s1 i e,e1 i n e,a,h i b];grind
def pvR(M:Mx)(n r c:Nat):Option Nat:=(List.range n).find? fun p=>decide (r<=p/\M p c≠0)
theorem j6{p:Nat}(h:pvR M n r c=some p):p< n/\r<=p/\M p c≠0:=by
 have a:=List.find?_some h;have b:=List.mem_of_find?_eq_some h;grind
theorem AL(h:pvR M n r c=none):∀i,i< n->r<=i->M i c=0:=fun i a d=>by
 have b:=List.find?_eq_none.1 h i (List.mem_range.2 a);grind
def slC(A:Mx)(n:Nat)(L:Ln)(c:Nat):Mx×Ln:=match pvR A n L.length c with
 |none=>(A,L)
 |some p=>(rdM (scM (swM A L.length p) L.length (1/ A p c)) L.length c,L++[c])
def slM(M:Mx)(n:Nat):Nat->Mx×Ln
 |0=>(M,[])
 |c+1=>slC (slM M n c).1 n (slM M n c).2 c
structure Ech (A:Mx)(n c:Nat)(L:Ln):Prop where
 len:L.length<=c
 len2:L.length<=n
 lt:∀(i l:Nat),L[i]?=some l->l< c
 inc:∀(i j l m:Nat),L[i]?=some l->L[j]?=some m->i< j->l< m
 one:∀(i l k:Nat),L[i]?=some l->k< n->A k l=if k=i then 1 else 0
 low:∀(i l j:Nat),L[i]?=some l->j< l->A i j=0
 rest:∀i j,L.length<=i->i< n->j< c->A i j=0
theorem Ech.step(h:Ech A n c L):Ech (slC A n L c).1 n (c+1) (slC A n L c).2:=by
 unfold slC;cases e:pvR A n L.length c with
 |none=>
  show Ech A n (c+1) L;refine⟨by have:=h.len;omega,h.len2,fun i l b=>by have:=h.lt i l b;omega,h.inc,h.one,h.low,fun i j u s x=>?_⟩;by_cases e2:j=c;rw[e2];exact AL e i s u;exact h.rest i j u s (by omega)
 |some p=>
  obtain⟨p1,p2,K⟩:=j6 e;show Ech (rdM (scM (swM A L.length p) L.length (1/ A p c)) L.length c) n (c+1) (L++[c]);have J:L.length< n:=by omega
  have M:∀i l,L[i]?=some l->i< L.length:=fun i l b=>(List.getElem?_eq_some_iff.1 b).1
  -- the rows after the exchange
  have y:∀i j,i< L.length->swM A L.length p i j=A i j:=fun i j R=>by unfold swM;rw[if_neg (by omega),if_neg (by omega)]
  have H:∀j,swM A L.length p L.length j=A p j:=fun j=>by unfold swM;rw[if_pos rfl]
  have w:∀i j,L.length<=i->i< n->j< c->swM A L.length p i j=0:=fun i j u s x=>by
   unfold swM;split;exact h.rest p j p2 p1 x;split;exact h.rest _ j (Nat.le_refl _) J x;exact h.rest i j u s x
  have F:∀i l k,L[i]?=some l->k< n->swM A L.length p k l=if k=i then 1 else 0:=fun i l k b z=>by
   by_cases g:k< L.length;rw[y k l g];exact h.one i l k b z;have:=M i l b;rw[w k l (by omega) z (h.lt i l b),if_neg (by omega)]
  generalize S:swM A L.length p=B at *
  have v:∀i j,i≠L.length->scM B L.length (1/ A p c) i j=B i j:=fun i j g=>if_neg g;have t:∀j,scM B L.length (1/ A p c) L.length j=B L.length j* (1/ A p c):=fun j=>if_pos rfl
  have f:scM B L.length (1/ A p c) L.length c=1:=by
   rw[t,H];have:=Rat.div_mul_cancel (a:=1) K;grind
  have d:∀j,j< c->scM B L.length (1/ A p c) L.length j=0:=fun j D=>by rw[t,w _ j (Nat.le_refl _) J D];grind
  generalize Q:scM B L.length (1/ A p c)=C at *
  have q:∀j,rdM C L.length c L.length j=C L.length j:=fun j=>if_pos rfl;have r:∀i j,i≠L.length->rdM C L.length c i j=C i j- C i c* C L.length j:=fun i j g=>if_neg g
  have snoc:∀i l,(L++[c])[i]?=some l->(i< L.length/\L[i]?=some l)\/(i=L.length/\l=c):=fun i l b=>by
   rw[List.getElem?_append] at b;split at b
   ·rename_i g;exact .inl ⟨g,b⟩
   ·rename_i g
    have:i- L.length=0:=by
     have:=(List.getElem?_eq_some_iff.1 b).1;simp at this;omega
    rw[this] at b;cases b;exact .inr ⟨by omega,rfl⟩
  refine⟨by have:=h.len;simp;omega,by simp;omega,fun i l b=>?_,fun i j l m b N E=>?_,fun i l k b z=>?_,fun i l j b D=>?_,fun i j u s x=>?_⟩;rcases snoc i l b with⟨_,g⟩|⟨_,g⟩
  have:=h.lt i l g;omega;omega;rcases snoc i l b with⟨o,g⟩|⟨o,g⟩<;> rcases snoc j m N with⟨b1,G⟩|⟨b1,G⟩
  exact h.inc i j l m g G E;rw[G];exact h.lt i l g;omega;omega;rcases snoc i l b with⟨o,g⟩|⟨o,g⟩
  by_cases e1:k=L.length;subst e1;rw[q,d l (h.lt i l g),if_neg (by omega)];rw[r k l e1,v k l e1,F i l k g z,d l (h.lt i l g)];grind;subst o g;by_cases e1:k=L.length;rw[if_pos e1,e1,q,f];rw[if_neg e1,r k l e1,f];grind;rcases snoc i l b with⟨o,g⟩|⟨o,g⟩
  have O:=h.lt i l g;rw[r i j (by omega),v i j (by omega),y i j o,h.low i l j g D,d j (by omega)];grind;subst o g;rw[q,d j D];grind
theorem slC_sol{c0:Rat}:Sol c0 (slC A n L c).1 n x↔Sol c0 A n x:=by
 unfold slC;cases e:pvR A n L.length c with
 |none=>exact Iff.rfl
 |some p=>
  obtain⟨p1,p2,b⟩:=j6 e
  have d:1/ A p c≠0:=fun g=>by
   have:=Rat.div_mul_cancel (a:=1) b;rw[g] at this;grind
  exact(sol_rd (by omega)).trans ((sol_sc d).trans (sol_sw2 (by omega) p1))
theorem dh(M:Mx)(n:Nat):∀c,Ech (slM M n c).1 n c (slM M n c).2
 |0=>⟨Nat.le_refl _,Nat.zero_le _,fun i l h=>by simp[slM] at h,fun i j l m h=>by simp[slM] at h,fun i l k h=>by simp[slM] at h,fun i l j h=>by simp[slM] at h,fun i j _ _ h=>by omega⟩
 |c+1=>(dh M n c).step
theorem mc{c0:Rat}{M:Mx}{n:Nat}{x:Nat->Rat}:∀c,Sol c0 (slM M n c).1 n x↔Sol c0 M n x
 |0=>Iff.rfl
 |c+1=>slC_sol.trans (mc c)
theorem Ech.row(h:Ech A n n L)(hx:∀j,j< n->j∉L->x j=0){i l:Nat}(hl:L[i]?=some l):sQ (fun j=>A i j* x j) n=x l:=by
 have c:i< n:=Nat.lt_of_lt_of_le (List.getElem?_eq_some_iff.1 hl).1 h.len2;have a:=h.lt i l hl;rw[bF (g:=fun j=>if j=l then x l else 0) n fun j d=>?_,ju,if_pos a];by_cases e:j=l;rw[if_pos e,e,h.one i l i hl c,if_pos rfl];grind;rw[if_neg e];by_cases g:j∈L;obtain⟨k,b⟩:=List.getElem?_of_mem g;rw[h.one k j i b c,if_neg (fun f=>e (by rw[f,b] at hl;cases hl;rfl))];grind;rw[hx j d g];grind
def oneX(A:Mx)(n:Nat)(L:Ln)(j:Nat):Rat:=if L.contains j then A (L.idxOf j) n else 0
theorem Ech.idx(h:Ech A n c L){i l:Nat}(hl:L[i]?=some l):L.idxOf l=i:=by
 have b:=List.mem_of_getElem? hl;have a:L[L.idxOf l]?=some l:=by grind
 by_cases e1:L.idxOf l< i;have:=h.inc _ _ _ _ a hl e1;omega;by_cases e2:i< L.idxOf l;have:=h.inc _ _ _ _ hl a e2;omega;omega
theorem Ech.oneX(h:Ech A n n L)(h0:∀i,L.length<=i->i< n->A i n=0):Sol 1 A n (Abs.oneX A n L):=fun i b=>by
 have d:∀j,j< n->j∉L->Abs.oneX A n L j=0:=fun j _ g=>by unfold Abs.oneX;rw[if_neg (by simpa using g)]
 by_cases g:i< L.length;have a:L[i]?=some L[i]:=List.getElem?_eq_getElem g;rw[h.row d a];unfold Abs.oneX;rw[if_pos (by simp),h.idx a];grind;rw[h0 i (by omega) b,bF (g:=fun j=>if j=n then 0 else 0) n fun j c=>by rw[h.rest i j (by omega) b c];grind,ju];split <;> grind
def zerX(A:Mx)(L:Ln)(f j:Nat):Rat:=if L.contains j then -A (L.idxOf j) f else if j=f then 1 else 0
theorem Ech.zerX(h:Ech A n n L){f:Nat}(hf:f< n)(hfL:f∉L):Sol 0 A n (Abs.zerX A L f):=fun i c=>by
 -- split into the part on the leads and the free number
 have e1:∀j,j< n->A i j* Abs.zerX A L f j=A i j* (if L.contains j then -A (L.idxOf j) f else 0)+(if j=f then A i f else 0):=fun j a=>by
  unfold Abs.zerX;by_cases g:j∈L;rw[if_pos (by simpa using g),if_pos (by simpa using g),if_neg (fun(e:j=f)=>hfL (by rw[<-e];exact g))];grind;rw[if_neg (show¬L.contains j=true by simpa using g),if_neg (show¬L.contains j=true by simpa using g)];by_cases e:j=f;rw[if_pos e,if_pos e,e];grind;rw[if_neg e,if_neg e];grind
 rw[bF n e1,CU,ju,if_pos hf]
 have d:∀j,j< n->j∉L->(fun j=>if L.contains j then -A (L.idxOf j) f else 0) j=(0:Rat):=fun j _ g=>by
  show(if L.contains j then _ else _)=_;rw[if_neg (by simpa using g)]
 by_cases g:i< L.length;have b:L[i]?=some L[i]:=List.getElem?_eq_getElem g;rw[h.row d b];show(if L.contains L[i]=true then -A (L.idxOf L[i]) f else 0)+A i f=_;rw[if_pos (by simp),h.idx b];grind;rw[bF (g:=fun j=>if j=n then 0 else 0) n fun j a=>by rw[h.rest i j (by omega) c a];grind,ju,h.rest i f (by omega) c hf];split <;> grind
theorem Ech.uniq(h:Ech A n n L){y:Nat->Rat}{c0:Rat}(hx:Sol c0 A n x)(hy:Sol c0 A n y)(hf:∀j,j< n->j∉L->x j=y j):∀j,j< n->x j=y j:=fun j b=>by
 by_cases g:j∈L;obtain⟨i,c⟩:=List.getElem?_of_mem g;have a:i< n:=Nat.lt_of_lt_of_le (List.getElem?_eq_some_iff.1 c).1 h.len2;have e:=h.row (x:=fun j=>x j- y j) (fun j b g=>by show x j- y j=0;rw[hf j b g];grind) c;have d:=hx i a;have f:=hy i a;rw[bF (g:=fun j=>A i j* x j- 1* (A i j* y j)) n fun j _=>by grind,ie,d,f] at e;grind;exact hf j b g
end
section
variable {A:Nat->Nat->Rat}{l:Rat}{n i:Nat}
def svM(A:Nat->Nat->Rat)(l:Rat)(b:Nat->Rat)(n i j:Nat):Rat:=if j=n then b i else if j=i then -(A i j* l)+1 else -(A i j* l)
def mxr(A:Nat->Nat->Rat)(l:Rat)(n i j:Nat):Lq:=aN n fun t=>if t< j then -(A i t* l) else A i t
@[simp] theorem vc (A:Nat->Nat->Rat)(l:Rat)(n i j:Nat):(mxr A l n i j).length=n:=by simp[mxr]
theorem mxr_0(A:Nat->Nat->Rat)(l:Rat)(n i:Nat):mxr A l n i 0=aN n (A i):=by unfold mxr;simp
theorem E8{j:Nat}(h:j< n):∀e,e=j->(pE (mxr A l n i j))[e]?=some (qC (A i j)):=fun e a=>by
 subst a;simp[pE,mxr,aN,h]
theorem mxr_set{j:Nat}(h:j< n):∀e,e=j->(pE (mxr A l n i j)).set e (qC (-(A i j* l)))=pE (mxr A l n i (j+1)):=fun e a=>by
 subst a;rw[jy];congr 1;refine List.ext_getElem? fun t=>?_;rw[List.getElem?_set];by_cases ht:t< n;by_cases h1:e=t;subst h1;simp[mxr,aN,ht];rw[if_neg h1];simp only[mxr,aN,List.getElem?_map,List.getElem?_range ht,Option.map_some];by_cases h2:t< e;rw[if_pos h2,if_pos (by omega)];rw[if_neg h2,if_neg (by omega)];simp_all
def dgr(A:Nat->Nat->Rat)(l:Rat)(n i:Nat):Lq:=aN n fun t=>if t=i then -(A i t* l)+1 else -(A i t* l)
@[simp] theorem D8 (A:Nat->Nat->Rat)(l:Rat)(n i:Nat):(dgr A l n i).length=n:=by simp[dgr]
theorem A3(h:i< n):∀e,e=i->(pE (mxr A l n i n))[e]?=some (qC (-(A i i* l))):=fun e a=>by
 subst a;simp[pE,mxr,aN,h]
theorem mxr_one(h:i< n):∀e,e=i->(pE (mxr A l n i n)).set e (qC (-(A i i* l)+1))=pE (dgr A l n i):=fun e a=>by
 subst a;rw[jy];congr 1;refine List.ext_getElem? fun t=>?_;rw[List.getElem?_set];by_cases ht:t< n;by_cases h1:e=t;subst h1;simp[dgr,aN,ht];rw[if_neg h1];simp only[mxr,dgr,aN,List.getElem?_map,List.getElem?_range ht,Option.map_some];rw[if_pos ht,if_neg fun b=>h1 b.symm];simp_all
theorem dgr_app{b:Nat->Rat}:dgr A l n i++[b i]=aN (n+1) (svM A l b n i):=by
 rw[wU];congr 1;refine List.map_congr_left fun t a=>?_;have:=List.mem_range.1 a;simp only[svM,if_neg (show¬t=n by omega)];unfold svM;grind
def ph1(A:Nat->Nat->Rat)(l:Rat)(b:Nat->Rat)(n i k:Nat):Lq:=if k< i then aN (n+1) (svM A l b n k) else aN n (A k)
theorem ph1_0(A:Nat->Nat->Rat)(l:Rat)(b:Nat->Rat)(n:Nat):ph1 A l b n 0=fun k=>aN n (A k):=funext fun k=>if_neg (by omega)
theorem ph1_n{b:Nat->Rat}{k:Nat}(h:k< n):ph1 A l b n n k=aN (n+1) (svM A l b n k):=if_pos h
theorem Im(A:Nat->Nat->Rat)(l:Rat)(b:Nat->Rat)(n i:Nat):ph1 A l b n i i=mxr A l n i 0:=by exact if_neg (by omega)
theorem upR_up(R:Nat->Lq)(k:Nat)(r r':Lq):upR (upR R k r) k r'=upR R k r':=funext fun i=>by unfold upR;grind
theorem upR_id(R:Nat->Lq)(k:Nat):upR R k (R k)=R:=funext fun i=>by unfold upR;grind
theorem Il(A:Nat->Nat->Rat)(l:Rat)(b:Nat->Rat)(n i:Nat):upR (ph1 A l b n i) i (aN (n+1) (svM A l b n i))=ph1 A l b n (i+1):=funext fun k=>by
 unfold upR ph1;grind
end
section
variable {X:Mx}{i j k n r c:Nat}
def puM(X:Mx)(i j:Nat)(v:Rat):Mx:=fun k t=>if k=i/\t=j then v else X k t
theorem puM_ne{v:Rat}(h:k≠i):puM X i j v k=X k:=funext fun t=>if_neg fun e=>h e.1
theorem puM_set{m:Nat}{v:Rat}(h:j< m):∀e:Nat,e=j->(pE (aN m (X i))).set e (qC v)=pE (aN m (puM X i j v i)):=fun e a=>by
 subst a;rw[jy];congr 1;refine List.ext_getElem? fun t=>?_;rw[List.getElem?_set];by_cases ht:t< m;by_cases h1:e=t;subst h1;simp[aN,ht,puM];rw[if_neg h1];simp[aN,ht,puM,show¬t=e from fun b=>h1 b.symm];simp_all
theorem dx{X:Nat->Rat}{m:Nat}(h:j< m):∀e:Nat,e=j->(pE (aN m X))[e]?=some (qC (X j)):=fun e a=>by
 subst a;simp[pE,aN,h]
def rT(n:Nat)(X:Mx)(k:Nat):Lq:=aN (n+1) (X k)
theorem uU{Y:Mx}(h:∀j,j<=n->X k j=Y k j):rT n X k=rT n Y k:=by
 exact List.map_congr_left fun t a=>h t (by grind)
@[simp] theorem rT_length (n:Nat)(X:Mx)(k:Nat):(rT n X k).length=n+1:=by simp[rT]
def scJ(X:Mx)(r:Nat)(f:Rat)(j:Nat):Mx:=fun i t=>if i=r/\t< j then X i t* f else X i t
theorem scJ_0(X:Mx)(r:Nat)(f:Rat):scJ X r f 0=X:=funext fun i=>funext fun t=>if_neg fun e=>by omega
theorem scJ_at(X:Mx)(r:Nat)(f:Rat)(j:Nat):scJ X r f j r j=X r j:=if_neg fun e=>by omega
theorem scJ_s(X:Mx)(r:Nat)(f:Rat)(j:Nat):scJ X r f (j+1)=puM (scJ X r f j) r j (X r j* f):=funext fun i=>funext fun t=>by
 show(if i=r/\t< j+1 then X i t* f else X i t)=if i=r/\t=j then X r j* f else if i=r/\t< j then X i t* f else X i t
 grind
theorem scJ_n{f:Rat}(k j:Nat)(h:j<=n):scJ X r f (n+1) k j=scM X r f k j:=by
 unfold scJ scM;grind
def rdJ(X:Mx)(r c i j:Nat):Mx:=fun k t=>if k≠r/\(k< i\/(k=i/\t< j)) then X k t- X k c* X r t else X k t
theorem rdJ_0(X:Mx)(r c:Nat):rdJ X r c 0 0=X:=funext fun i=>funext fun t=>if_neg fun e=>by omega
theorem rdJ_at(X:Mx)(r c i j:Nat):rdJ X r c i j i j=X i j:=if_neg fun e=>by omega
theorem rdJ_c(X:Mx)(r c i:Nat):rdJ X r c i 0 i=X i:=funext fun t=>if_neg fun e=>by omega
theorem rdJ_r(X:Mx)(r c i j:Nat):rdJ X r c i j r=X r:=funext fun t=>if_neg fun e=>e.1 rfl
theorem rdJ_s(h:i≠r):rdJ X r c i (j+1)=puM (rdJ X r c i j) i j (X i j- X i c* X r j):=funext fun k=>funext fun t=>by
 show(if k≠r/\(k< i\/(k=i/\t< j+1)) then X k t- X k c* X r t else X k t)=if k=i/\t=j then X i j- X i c* X r j else if k≠r/\(k< i\/(k=i/\t< j)) then X k t- X k c* X r t else X k t
 grind
theorem rdJ_n(i k j:Nat)(h:j<=n):rdJ X r c i (n+1) k j=rdJ X r c (i+1) 0 k j:=by
 unfold rdJ;grind
theorem AF(h:i=r\/X i c=0):rdJ X r c (i+1) 0=rdJ X r c i 0:=funext fun k=>funext fun t=>by
 unfold rdJ;grind
theorem rdJ_end(h:k< n)(j:Nat):rdJ X r c n 0 k j=rdM X r c k j:=by
 unfold rdJ rdM;grind
def slB(s:Nat):Nat->Nat
 |0=>s
 |c+1=>4* slB s c+2
theorem nw{s:Nat}(h:k<=n):slB s k<=slB s n:=by
 induction n with
 |zero=>grind
 |succ n a=>
  by_cases e:k=n+1;rw[e];exact Nat.le_refl _;rw[slB];omega
theorem J6{A:Mx}{s:Nat}{L:Ln}(h:bdM A n s)(hL:L.length<=c)(hc:c< n):bdM (slC A n L c).1 n (4* s+2):=by
 unfold slC;cases e:pvR A n L.length c with
 |none=>exact fun i j d a=>Nat.le_trans (h i j d a) (by omega)
 |some p=>
  obtain⟨p1,p2,k⟩:=j6 e;have g:L.length< n:=by omega
  have f:=bd_sw h g p1
  have b:∀j,j<=n->qs (scM (swM A L.length p) L.length (1/ A p c) L.length j)<=2* s+1:=fun j a=>by
   unfold scM;rw[if_pos rfl];have w:=f L.length j g a;have x:=ik 1 (A p c);have v:qs 1<=1:=by decide
   have l:=h p c p1 (by omega);have o:=dw (swM A L.length p L.length j) (1/ A p c);omega
  intro i j d a;show qs (rdM (scM (swM A L.length p) L.length (1/ A p c)) L.length c i j)<=_;unfold rdM;by_cases hir:i=L.length;subst hir;rw[if_pos rfl];have:=b j a;omega;rw[if_neg hir];have b1:∀t,scM (swM A L.length p) L.length (1/ A p c) i t=swM A L.length p i t:=fun t=>if_neg hir;rw[b1,b1];have m:=f i j d a;have q:=f i c d (by omega);have r:=b j a;have y:=dw (swM A L.length p i c) (scM (swM A L.length p) L.length (1/ A p c) L.length j);have u:=me (swM A L.length p i j) (swM A L.length p i c* scM (swM A L.length p) L.length (1/ A p c) L.length j);omega
theorem J5{M:Mx}{n s:Nat}(h:bdM M n s):∀c,c<=n->bdM (slM M n c).1 n (slB s c)
 |0,_=>h
 |c+1,hc=>J6 (J5 h c (by omega)) (dh M n c).len (by omega)
end


theorem HS.take{p:Lq}{K:Rat}{h:Nat}(H:HS p K h)(n:Nat):HS (p.take n) K h:=⟨H.ne,H.sc,fun i=>by
 rw[BX];split;exact H.co i;exact(IB.zero h).eq (by grind)⟩
theorem BD{f:Lq×Lq->Lq}{m:Nat}:∀k:Ke,(∀p∈k,(f p).length<=m)->(k.flatMap f).length<=m* k.length
 |[],_=>by simp
 |p::k,h=>by
  have b:=h p (List.mem_cons_self ..);have c:=BD k fun q a=>h q (List.mem_cons_of_mem _ a);rw[List.flatMap_cons,List.length_append,List.length_cons,Nat.mul_succ];omega
theorem F3{f:Lq×Lq->Lq}{k:Ke}(hl:k.length<=3)(h4:∀p∈k,(f p).length<=4)(hb:∀p∈k,bdL (f p) 20):∃K,K≠0/\IB K 241/\∀p∈k,HS (f p) K 241:=by
 obtain⟨K,H⟩:=Ak (s:=20) (k.flatMap f) fun q a=>by
  obtain⟨p,hp,a⟩:=List.mem_flatMap.1 a;exact hb p hp q a
 have c:=BD k h4;have H:=H.mono (show _<=241 by omega);refine⟨K,H.ne,H.sc,fun p hp=>⟨H.ne,H.sc,fun i=>?_⟩⟩;by_cases hi:i< (f p).length
 have b:coP (f p) i∈k.flatMap f:=List.mem_flatMap.2 ⟨p,hp,by
  unfold coP;grind⟩
 obtain⟨j,_,e⟩:=uf b;rw[<-e];exact H.co j;rw[eH (by omega)];exact(IB.zero _).eq (by grind)
theorem Km{k:Ke}(hl:k.length<=3)(h4:∀p∈k,p.1.length<=4/\p.2.length<=4)(hb:∀p∈k,bdL p.1 20/\bdL p.2 20):∃KA KB,KHS k KA KB 241/\KA≠0/\KB≠0/\IB KA 241/\IB KB 241:=by
 obtain⟨KA,a,b,c⟩:=F3 (f:=fun p=>p.1) hl (fun p hp=>(h4 p hp).1) fun p hp=>(hb p hp).1;obtain⟨KB,b1,b2,d⟩:=F3 (f:=fun p=>p.2) hl (fun p hp=>(h4 p hp).2) fun p hp=>(hb p hp).2;exact⟨KA,KB,⟨h4,c,d⟩,a,b1,b,b2⟩
theorem Hi{k:Ke}{a d KA KB:Rat}{h:Nat}(hk:KHS k KA KB h)(A0:KA≠0)(B0:KB≠0)(IA:IB KA h)(IBB:IB KB h)(d0:d≠0)(hd:IB d 20)(ha:IB (a* d) 20):∃KA' KB',KHS (mvK a k) KA' KB' (h+70)/\KA'≠0/\KB'≠0/\IB KA' (h+70)/\IB KB' (h+70):=by
 have hp:=mf hd 3
 have f:∀(l:Lq) (K:Rat),K≠0->IB K h->HS l K h->l.length<=4->HS (cn [a,1] l) (K* d^ 3) (h+70):=fun l K m o H r=>by
  cases l with
  |nil=>exact⟨fun g=>(Rat.mul_eq_zero.1 g).elim m (pow_nz' d0 3),(o.mul hp).mono (by omega),fun i=>(IB.zero _).eq (by show 0=(0:Rat) * _;grind)⟩
  |cons b l=>
   rw[List.length_cons] at r;have n:=ww d0 hd ha l b H;have e0:d^ l.length* d^ (3- l.length)=d^ 3:=by rw[<-tc,show l.length+(3- l.length)=3 by omega]
   have j:=n.rescale (pow_nz' d0 (3- l.length)) (mf hd (3- l.length));rw[show K* d^ l.length* d^ (3- l.length)=K* d^ 3 by grind] at j;exact j.mono (by omega)
 have m0:∀p∈mvK a k,∃q∈k,p=(cn [a,1] q.1,cn [a,1] q.2):=fun p hp=>by
  obtain⟨q,c,e⟩:=List.mem_map.1 hp;grind
 refine⟨KA* d^ 3,KB* d^ 3,⟨fun p hp=>?_,fun p hp=>?_,fun p hp=>?_⟩,fun g=>(Rat.mul_eq_zero.1 g).elim A0 (pow_nz' d0 3),fun g=>(Rat.mul_eq_zero.1 g).elim B0 (pow_nz' d0 3),(IA.mul hp).mono (by omega),(IBB.mul hp).mono (by omega)⟩;obtain⟨q,c,rfl⟩:=m0 p hp;obtain⟨u,s⟩:=hk.len q c;have t:=kz a q.1;have v:=kz a q.2;exact⟨by grind,by grind⟩;obtain⟨q,c,rfl⟩:=m0 p hp;exact f _ _ A0 IA (hk.a q c) (hk.len q c).1;obtain⟨q,c,rfl⟩:=m0 p hp;exact f _ _ B0 IBB (hk.b q c) (hk.len q c).2


section
variable {A:Mx}{n i:Nat}{L:Ln}
def qh(A:Mx)(n:Nat)(L:Ln)(i:Nat):Lq:=aN n fun j=>if (L.take i).contains j then A (L.idxOf j) n else 0
def yU(A:Mx)(n:Nat)(L:Ln):Lq:=aN n (oneX A n L)
@[simp] theorem AS (A:Mx)(n:Nat)(L:Ln)(i:Nat):(qh A n L i).length=n:=by simp[qh]
@[simp] theorem oneL_length (A:Mx)(n:Nat)(L:Ln):(yU A n L).length=n:=by simp[yU]
theorem HE(n:Nat):aN n (fun _=>0)=List.replicate n (0:Rat):=by
 unfold aN;rw[List.eq_replicate_iff];grind
theorem oneJ_0(A:Mx)(n:Nat)(L:Ln):qh A n L 0=List.replicate n (0:Rat):=by
 unfold qh;rw[<-HE];simp
theorem oneJ_n(h:L.length<=i):qh A n L i=yU A n L:=by
 unfold qh yU;rw[List.take_of_length_le h];rfl
theorem It{c:Nat}(h:c< n):∀e:Nat,e=c->∃v,(pE (qh A n L i))[e]?=some (qC v):=fun e a=>by
 subst a;exact⟨_,dx h e rfl⟩
theorem oneJ_s{c0:Nat}{c:Nat}(hE:Ech A n c0 L)(hl:L[i]?=some c)(hc:c< n):∀e:Nat,e=c->(pE (qh A n L i)).set e (qC (A i n))=pE (qh A n L (i+1)):=fun e b=>by
 subst b;rw[jy];congr 1;have a:L.take (i+1)=L.take i++[e]:=by rw[List.take_add_one,hl];rfl
 refine List.ext_getElem? fun t=>?_;rw[List.getElem?_set,AS];by_cases ht:t< n;by_cases h1:e=t;subst h1;rw[if_pos rfl,if_pos ht];unfold qh aN;rw[List.getElem?_map,List.getElem?_range ht,a,Option.map_some,if_pos (by simp),hE.idx hl];rw[if_neg h1];unfold qh aN;rw[List.getElem?_map,List.getElem?_map,List.getElem?_range ht,a,Option.map_some,Option.map_some];have d:(L.take i++[e]).contains t=(L.take i).contains t:=by grind
 rw[d];simp_all
def kI(n:Nat)(A:Mx):Lw:=(List.range n).map fun k=>aN (n+1) (A k)
@[simp] theorem rowsL_length (n:Nat)(A:Mx):(kI n A).length=n:=by simp[kI]
theorem jN(h:i< n):(kI n A)[i]?=some (aN (n+1) (A i)):=by simp[kI,h]
def ji(n:Nat)(A:Mx)(L:Ln):Bool:=((kI n A).drop L.length).any fun e=>decide (coP e n≠0)
theorem tf(h:ji n A L=false):∀i,L.length<=i->i< n->A i n=0:=fun i b a=>by
 refine Classical.byContradiction fun g=>?_
 have:ji n A L=true:=by
  unfold ji;rw[List.any_eq_true];refine⟨aN (n+1) (A i),List.mem_of_getElem? (i:=i- L.length) (by rw[List.getElem?_drop,show L.length+(i- L.length)=i by omega];exact jN a),decide_eq_true ?_⟩;unfold coP aN;rw[List.getD_eq_getElem?_getD];simpa using g
 rw[h] at this;cases this
theorem Dc(h:ji n A L=true):∃i,L.length<=i/\i< n/\A i n≠0:=by
 unfold ji at h;obtain⟨e,c,d⟩:=List.any_eq_true.1 h;obtain⟨k,b⟩:=List.mem_iff_getElem?.1 c;rw[List.getElem?_drop] at b
 have a:L.length+k< n:=by
  have:=(List.getElem?_eq_some_iff.1 b).1;simpa using this
 rw[jN a] at b;cases b;refine⟨L.length+k,by omega,a,?_⟩;have:=of_decide_eq_true d;unfold coP aN at this;rw[List.getD_eq_getElem?_getD] at this;simpa using this
def smF(c:Rat)(o:Lq)(p:Lq×Lq):Lq:=fQ o (ba p.1 c)
def ma:Ke->Lq->Lq->Lq
 |[],_,o=>o
 |p::k,c,o=>ma k c.tail (smF (coP c 0) o p)
def smK(k:Ke)(c:Lq)(i:Nat):Lq:=ma (k.take i) c []
theorem wY:∀(k:Ke) (c o:Lq) (p:Lq×Lq),ma (k++[p]) c o=smF (coP c k.length) (ma k c o) p
 |[],c,o,p=>rfl
 |q::k,c,o,p=>by
  rw[List.cons_append,ma,wY k,ma];cases c with
  |nil=>simp[coP]
  |cons a c=>rfl
theorem smK_s{k:Ke}{c:Lq}{p:Lq×Lq}(h:k[i]?=some p):smK k c (i+1)=smF (coP c i) (smK k c i) p:=by
 have a:k.take (i+1)=k.take i++[p]:=by rw[List.take_add_one,h];rfl
 have b:=(List.getElem?_eq_some_iff.1 h).1;unfold smK;rw[a,wY,List.length_take,Nat.min_eq_left (by omega)]
theorem w4(x:Rat):∀(k:Ke) (c o:Lq),c.length=k.length->ak (ma k c o) x=ak o x+jG (fun p=>ak p.1.1 x* p.2) (k.zip c)
 |[],[],o,_=>by rw[ma];show _=ak o x+0;grind
 |p::k,[],_,h=>by cases h
 |[],a::c,_,h=>by cases h
 |p::k,a::c,o,h=>by
  rw[ma,List.tail_cons,w4 x k c _ (by simpa using h),smF,eW,bG,dA,List.zip_cons_cons,jG];show _=_+(ak p.1 x* a+_);grind
end
theorem Au(A:Mx)(n:Nat):Sol 0 A n (fun _=>0):=fun i b=>by
 rw[bF (g:=fun j=>if j=n then 0 else 0) n fun j a=>by grind,ju,if_neg (by omega)];grind
theorem Ech.gap{A:Mx}{n c:Nat}{L:Ln}(h:Ech A n c L){i l:Nat}(hi:L[i]?=some l):∀d m,L[i+d]?=some m->l+d<=m
 |0,m,hm=>by rw[Nat.add_zero] at hm;rw[hi] at hm;cases hm;omega
 |d+1,m,hm=>by
  have b:=(List.getElem?_eq_some_iff.1 hm).1;have a:L[i+d]?=some L[i+d]:=List.getElem?_eq_getElem (by omega);have e:=h.gap hi d _ a;have f:=h.inc _ _ _ _ a hm (by omega);omega
theorem BY(n:Nat)(x:Nat->Rat)(i:Nat):coP (aN n x) i=if i< n then x i else 0:=by
 unfold coP;rw[List.getD_eq_getElem?_getD];by_cases h:i< n;rw[if_pos h];simp[aN,h];rw[if_neg h,List.getElem?_eq_none (by simp;omega)];rfl
section
variable {L:Ln}{f n i:Nat}{A:Mx}
def frL(L:Ln)(f:Nat):Ln:=(List.range f).filter fun j=>!L.contains j
theorem frL_0(L:Ln):frL L 0=[]:=rfl
theorem zu(h:L.contains f=true):frL L (f+1)=frL L f:=by
 unfold frL;rw[List.range_succ,List.filter_append];simp at h;simp[h]
theorem ua(h:L.contains f=false):frL L (f+1)=frL L f++[f]:=by
 unfold frL;rw[List.range_succ,List.filter_append];simp at h;simp[h]
theorem zv(L:Ln):∀f,(frL L f).length<=f
 |0=>Nat.le_refl _
 |f+1=>by
  have:=zv L f;cases h:L.contains f with
  |true=>rw[zu h];omega
  |false=>rw[ua h,List.length_append,List.length_singleton];omega
def gq(A:Mx)(n:Nat)(L:Ln)(f:Nat):Lq:=aN n (zerX A L f)
def zeJ(A:Mx)(n:Nat)(L:Ln)(f i:Nat):Lq:=aN n fun j=>if (L.take i).contains j then -A (L.idxOf j) f else if j=f then 1 else 0
@[simp] theorem Cw (A:Mx)(n:Nat)(L:Ln)(f i:Nat):(zeJ A n L f i).length=n:=by simp[zeJ]
@[simp] theorem zerL_length (A:Mx)(n:Nat)(L:Ln)(f:Nat):(gq A n L f).length=n:=by simp[gq]
theorem zeJ_0(A:Mx)(n:Nat)(L:Ln)(f:Nat):(List.replicate n (0:Rat)).set f 1=zeJ A n L f 0:=by
 refine List.ext_getElem? fun t=>?_;rw[List.getElem?_set];by_cases ht:t< n;by_cases h1:f=t;subst h1;simp[zeJ,aN,ht];rw[if_neg h1];have a:¬t=f:=fun e=>h1 e.symm;simp[zeJ,aN,ht,a];by_cases h1:f=t;subst h1;simp[zeJ,aN,ht];rw[if_neg h1];simp[zeJ,aN,ht]
theorem zeJ_n(h:L.length<=i):zeJ A n L f i=gq A n L f:=by
 unfold zeJ gq;rw[List.take_of_length_le h];rfl
theorem Ex{c:Nat}(h:c< n):∀e:Nat,e=c->∃v,(pE (zeJ A n L f i))[e]?=some (qC v):=fun e a=>by
 subst a;exact⟨_,dx h e rfl⟩
theorem zeJ_s{c0:Nat}{c:Nat}(hE:Ech A n c0 L)(hl:L[i]?=some c)(hc:c< n):∀e:Nat,e=c->(pE (zeJ A n L f i)).set e (qC (-A i f))=pE (zeJ A n L f (i+1)):=fun e b=>by
 subst b;rw[jy];congr 1;have a:L.take (i+1)=L.take i++[e]:=by rw[List.take_add_one,hl];rfl
 refine List.ext_getElem? fun t=>?_;rw[List.getElem?_set,Cw];by_cases ht:t< n;by_cases h1:e=t;subst h1;rw[if_pos rfl,if_pos ht];unfold zeJ aN;rw[List.getElem?_map,List.getElem?_range ht,a,Option.map_some,if_pos (by simp),hE.idx hl];rw[if_neg h1];unfold zeJ aN;rw[List.getElem?_map,List.getElem?_map,List.getElem?_range ht,a,Option.map_some,Option.map_some]
 have d:(L.take i++[e]).contains t=(L.take i).contains t:=by
  simp only[List.contains_eq_mem,List.mem_append,List.mem_singleton];simp[show¬t=e from fun g=>h1 g.symm]
 rw[d];rw[if_neg (by omega),List.getElem?_eq_none (by simp;omega),List.getElem?_eq_none (by simp;omega)]
end
end Go.Abs
