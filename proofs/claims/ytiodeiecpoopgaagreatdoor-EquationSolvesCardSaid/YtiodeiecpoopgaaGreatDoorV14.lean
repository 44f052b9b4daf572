/- Part V14. -/
import Derived.Test.YtiodeiecpoopgaaGreatDoorV13
import Derived.Lib.ItoaNum
set_option linter.all false
namespace Go.Abs
section
variable {U v n L s b k:Nat}{R T:Ln}
structure DivI (U v n L:Nat)(R T:Ln)(k:Nat):Prop where
 len:R.length=L
 dig:∀d∈R,d< MB
 digT:∀d∈T,d< MB
 k_le:k+n+T.length=L
 val:U=ofD MB R+v* (MB^ k* ofD MB T)
 top:ofD MB (R.drop k)< v
theorem DivI.start(hR:R.length=L)(hd:∀d∈R,d< MB)(hU:ofD MB R=U)(hn:n<=L)(hb:MB^ (n- 1)<=b)(hn1:1<=n)(hv:v=b* s)(hlt:U< MB^ (L- 1) * s):DivI U v n L R [] (L- n):=by
 refine⟨hR,hd,by simp,by grind,by simp[ofD,hU],?_⟩;have f:=dU MB (L- n) R (by omega);have c:MB^ (L- 1)=MB^ (L- n) * MB^ (n- 1):=by rw[<-Nat.pow_add];grind
 rw[c,Nat.mul_assoc] at hlt;have a:MB^ (L- n) * ofD MB (R.drop (L- n))< MB^ (L- n) * (MB^ (n- 1) * s):=by omega
 have g:=Nat.lt_of_mul_lt_mul_left a;have e:MB^ (n- 1) * s<=b* s:=Nat.mul_le_mul_right _ hb;omega
theorem DivI.parts(h:DivI U v n L R T (k+1))(hv:v< MB^ n):
    ofD MB (R.drop (k+n+1))=0/\ofD MB ((R.drop k).take (n+1))=ofD MB (R.drop k)/\ofD MB (R.drop k)< v* MB/\((R.drop k).take (n+1)).length=n+1/\R=R.take k++(R.drop k).take (n+1)++R.drop (k+n+1):=by
 have hl:=h.k_le;have c:=h.len;have f:k< R.length:=by omega
 obtain⟨x,d⟩:∃x,R[k]?=some x:=⟨_,List.getElem?_eq_getElem f⟩;have i:x< MB:=h.dig x (List.mem_of_getElem? d);have e1:=lf MB d;have a:=h.top;have e2:=dU MB n (R.drop (k+1)) (by grind);rw[List.drop_drop,show k+1+n=k+n+1 by omega] at e2
 have e:ofD MB (R.drop (k+n+1))=0:=by
  rcases Nat.eq_zero_or_pos (ofD MB (R.drop (k+n+1))) with b|b
  exact b;have:MB^ n* 1<=MB^ n* ofD MB (R.drop (k+n+1)):=Nat.mul_le_mul_left _ b;omega
 have g:=dU MB (n+1) (R.drop k) (by grind);rw[List.drop_drop,show k+(n+1)=k+n+1 by omega,e] at g;refine⟨e,by omega,?_,by grind,?_⟩;have:MB* (ofD MB (R.drop (k+1))+1)<=MB* v:=Nat.mul_le_mul_left _ a;rw[Nat.mul_add] at this;rw[Nat.mul_comm v MB];omega;rw[List.append_assoc]
 conv=>lhs;rw[<-List.take_append_drop k R]
 conv=>lhs;rw[<-List.take_append_drop (n+1) (R.drop k)]
 rw[List.drop_drop,show k+(n+1)=k+n+1 by omega]
theorem DivI.next{A:Ln}(h:DivI U v n L R T (k+1))(hv:v< MB^ n)(hv0:0< v)(hA:A=jd MB (n+1) (ofD MB (R.drop k) % v)):
    DivI U v n L (R.take k++A++R.drop (k+n+1)) (ofD MB (R.drop k) / v::T) k:=by
 obtain⟨p1,p2,l,m,o⟩:=h.parts hv;have hl:=h.k_le;have i:=h.len
 have j:ofD MB (R.drop k) % v< MB^ (n+1):=by
  have:=Nat.mod_lt (ofD MB (R.drop k)) hv0;have p:MB^ n<=MB^ (n+1):=Nat.pow_le_pow_right (by decide) (by omega);omega
 have f:A.length=n+1:=by rw[hA];simp
 have c:ofD MB A=ofD MB (R.drop k) % v:=by rw[hA];exact pp (by decide) j
 have g:(R.take k).length=k:=by simp;omega
 have b:ofD MB (R.take k++A++R.drop (k+n+1))=ofD MB (R.take k)+MB^ k* (ofD MB (R.drop k) % v):=by
  rw[gL,gL,p1,g,c];simp
 refine⟨by simp[f];omega,?_,?_,by simp;omega,?_,?_⟩;intro d a;rcases List.mem_append.1 a with a|a
 rcases List.mem_append.1 a with a|a
 exact h.dig d (List.mem_of_mem_take a);rw[hA] at a;exact tw (by decide) _ _ d a;exact h.dig d (List.mem_of_mem_drop a);intro d a;rcases List.mem_cons.1 a with rfl|a
 rw[Nat.div_lt_iff_lt_mul hv0,Nat.mul_comm];exact l;exact h.digT d a;rw[b,ofD,h.val,dU MB k R (by omega),Nat.pow_succ];have e:=Nat.mod_add_div (ofD MB (R.drop k)) v
 have e2:MB^ k* (ofD MB (R.drop k) % v)+v* (MB^ k* (ofD MB (R.drop k) / v))=MB^ k* ofD MB (R.drop k):=by
  rw[Nat.mul_left_comm,<-Nat.mul_add,e]
 rw[Nat.mul_add,Nat.mul_add,<-Nat.mul_assoc (MB^ k) MB];omega;rw[List.append_assoc,List.drop_append,g,Nat.sub_self,List.drop_zero,List.drop_of_length_le (by omega),List.nil_append,gL,p1,c];simp;exact Nat.mod_lt _ hv0
theorem DivI.last{a:Nat}(h:DivI U v n L R T 0)(hU:U=a* s)(hv:v=b* s)(hb:0< b)(hs:0< s):ofD MB T=a/ b/\ofD MB R/ s=a % b:=by
 have c:=h.val;have d:=h.top;rw[List.drop_zero,hv] at d;rw[Nat.pow_zero,Nat.one_mul,hU,hv] at c
 have e:ofD MB T=a/ b:=by
  have e1:a/ b=a* s/ (b* s):=(Nat.mul_div_mul_right a b hs).symm;rw[e1,c,Nat.add_mul_div_left _ _ (Nat.mul_pos hb hs),Nat.div_eq_of_lt d];omega
 have e2:ofD MB R=(a % b) * s:=by
  rw[e] at c
  have f:a* s=(a % b) * s+b* s* (a/ b):=by
   conv=>lhs;rw[<-Nat.mod_add_div a b]
   grind
  omega
 simp_all
theorem BK(hl:(av MB n).length=k+1){d:Nat}(hd:(av MB n)[k]?=some d):∃lo,n=lo+MB^ k* d/\lo< MB^ k:=by
 refine⟨ofD MB ((av MB n).take k),?_,?_⟩;have a:=cS MB hd;rw[<-hl,List.take_length,bz (by decide)] at a;exact a;have:=fG (b:=MB) (l:=(av MB n).take k) fun d hd=>dr (by decide) n d (List.mem_of_mem_take hd);grind
theorem DO{vt:Nat}(hl:(av MB b).length=k+1)(hvt:(av MB b)[k]?=some vt)(h0:1<=vt)(h1:500000000<=vt* s)(h2:(vt+1) * s<=1000000000):
    (av MB (b* s)).length=k+1/\MB^ k<=b/\b* s< MB^ (k+1)/\∃v lw,(av MB (b* s))[k]?=some v/\b* s=lw+MB^ k* v/\lw< MB^ k/\500000000<=v/\v< 1000000000:=by
 obtain⟨lo,e1,e2⟩:=BK hl hvt
 have f:MB^ k<=b:=by
  have:=Nat.mul_le_mul_left (MB^ k) h0;omega
 have e:b< MB^ k* (vt+1):=by grind
 have d:0< s:=by grind
 have c:b* s< MB^ (k+1):=by
  have l:b* s< MB^ k* (vt+1) * s:=Nat.mul_lt_mul_of_pos_right e d;have j:MB^ k* ((vt+1) * s)<=MB^ k* MB:=Nat.mul_le_mul_left _ h2;grind
 have h:MB^ k* 500000000<=b* s:=by
  have l:MB^ k* vt* s<=b* s:=Nat.mul_le_mul_right _ (by omega);have j:MB^ k* 500000000<=MB^ k* (vt* s):=Nat.mul_le_mul_left _ h1;grind
 have a:(av MB (b* s)).length=k+1:=by
  have u1:=eS (b:=MB) (by decide) c
  have u2:k< (av MB (b* s)).length:=by
   refine Nat.lt_of_not_le fun g=>?_;have:=fG (b:=MB) (dr (by decide) (b* s));rw[bz (by decide)] at this;have o:MB^ (av MB (b* s)).length<=MB^ k:=Nat.pow_le_pow_right (by decide) g;omega
  omega
 obtain⟨v,hv⟩:∃v,(av MB (b* s))[k]?=some v:=⟨_,List.getElem?_eq_getElem (by omega)⟩;obtain⟨lw,i,m⟩:=BK a hv;refine⟨a,f,c,v,lw,hv,i,m,?_,cI (by decide) hv⟩;have n:MB^ k* 500000000< MB^ k* (v+1):=by grind
 have:=Nat.lt_of_mul_lt_mul_left n;omega
theorem IP{A:Ln}{x0 x1:Nat}(hA:A.length=k+2)(h0:A[k]?=some x0)(h1:A[k+1]?=some x1)(hd:∀d∈A,d< MB):∃lo,ofD MB A=lo+MB^ k* (x1* 1000000000+x0)/\lo< MB^ k:=by
 refine⟨ofD MB (A.take k),?_,?_⟩;have e1:=cS MB h1;rw[show k+1+1=A.length by omega,List.take_length] at e1;rw[e1,cS MB h0,Nat.pow_succ,Nat.mul_add,Nat.mul_assoc];have:MB^ k* (MB* x1)=MB^ k* (x1* 1000000000):=by grind
 omega;have:=fG (b:=MB) (l:=A.take k) fun d h=>hd d (List.mem_of_mem_take h);grind
end
section
variable {k n i m new j:Nat}{x:Lc}{A:Nat->Nat->Rat}{w s:Nat->Nat}
theorem qZ(n:Nat)(f:Nat->Rat):aJ (n+1) f=aJ n f++[f n]:=by simp[aJ,List.range_succ]
theorem aK{t:Nat}{x:Option ABlk}{l:Hp}(h:k≠t):an ((k,x)::l) t=an l t:=by
 rw[cW];unfold upd;grind
def fiL(A:Nat->Nat->Rat)(n i:Nat):List Lc:=(List.range i).map fun k=>pE (aJ n (A k))
@[simp] theorem me (A:Nat->Nat->Rat)(n i:Nat):(fiL A n i).length=i:=by simp[fiL]
theorem fw(h:k< i):(fiL A n i)[k]?=some (pE (aJ n (A k))):=by simp[fiL,h]
theorem JY(A:Nat->Nat->Rat)(n i:Nat):fiL A n i++[pE (aJ n (A i))]=fiL A n (i+1):=by simp[fiL,List.range_succ]
theorem oG{e:Lc}(h:(fiL A n i)[k]?=some e):k< i/\e=pE (aJ n (A k)):=by
 have a:=(List.getElem?_eq_some_iff.1 h).1;rw[me] at a;rw[fw a] at h;grind
def foE(w:Nat->Nat)(s:Nat->Nat)(n m:Nat):Lc:=mzO 3 w s m++List.replicate (n- m) [.emp]
theorem iL(h:m<=n):(foE w s n m).length=n:=by simp[foE];omega
theorem foE_0(w:Nat->Nat)(s:Nat->Nat)(n:Nat):foE w s n 0=List.replicate n [.emp]:=rfl
theorem zc(h:k< m):(foE w s n m)[k]?=some [.lsl (s (k+2)) 0 (w k) none 3]:=by
 unfold foE;rw[List.getElem?_append_left (by simp_all)];exact tA h
theorem DG(h:m<=k)(hk:k< n):(foE w s n m)[k]?=some [.emp]:=by
 unfold foE;rw[List.getElem?_append_right (by simp_all),List.getElem?_replicate,if_pos (by simp only[lZ];omega)]
theorem FE(hm:m<=n)(hk:n<=k):(foE w s n m)[k]?=none:=by
 rw[List.getElem?_eq_none];rw[iL hm];grind
theorem foE_n(w:Nat->Nat)(s:Nat->Nat)(n:Nat):foE w s n n=mzO 3 w s n:=by simp[foE]
theorem Hc{w':Nat->Nat}{s':Nat->Nat}(h:∀k,k< m->w k=w' k/\s (k+2)=s' (k+2)):foE w s n m=foE w' s' n m:=by
 unfold foE mzO;simp_all
theorem FD{w':Nat->Nat}{s':Nat->Nat}(hm:m=i\/m=i+1)(hi:i< n)(h:∀k,k< i->w k=w' k/\s (k+2)=s' (k+2)):∀e:Nat,e=i->(foE w s n m).set e [.lsl (s' (i+2)) 0 (w' i) none 3]=foE w' s' n (i+1):=by
 rintro e rfl;refine List.ext_getElem? fun k=>?_;have a:m<=n:=by omega
 rw[List.getElem?_set,iL a];split
 ·rw[zc (by omega)]
  try grind
 ·by_cases hk:k< e
  rw[zc (by omega),zc (by omega),(h k hk).1,(h k hk).2];by_cases hkn:k< n;rw[DG (by omega) hkn,DG (by omega) hkn];rw[FE a (by omega),FE (by omega) (by omega)]
theorem wn{r:Ren}{hp hp':Hq}:∀{a b c d:Lc},CvLL r hp hp' a b->CvLL r hp hp' c d->CvLL r hp hp' (a++c) (b++d)
 |[],_,_,_,h,h2=>by cases (h:_=[]);grind
 |x::xs,_,_,_,⟨y,ys,e,h1,h3⟩,h2=>by subst e;exact⟨y,_,rfl,h1,wn h3 h2⟩
theorem lQ{hp hp':Hq}(h:Shr ⟨40,s⟩ hp hp')(hm:m<=30)(hl:∀i,i< m->(hp' (i+2)).isSome=true):CvLL ⟨40,s⟩ hp hp' (foE w s n m) (foE w (fun i=>i) n m):=
 wn (nB hm hl) (aV h fun e b c a=>by
  rw[(List.mem_replicate.1 b).2,List.mem_singleton] at a;rw[a];exact b9)
def fiR(i new x:Nat):Nat:=cond (Nat.beq x (i+2)) new x
theorem fg(h:k≠i):fiR i new (k+2)=k+2:=by
 unfold fiR;rw[show Nat.beq (k+2) (i+2)=false by cases hb:Nat.beq (k+2) (i+2) with|false=>rfl|true=>simp_all];rfl
theorem jE(i new:Nat):fiR i new (i+2)=new:=by unfold fiR;simp
theorem sX(i new:Nat):fiR i new 1=1:=by
 unfold fiR;rfl
theorem sY(i new:Nat):fiR i new 0=0:=by
 unfold fiR;rfl
theorem mc(hm:m<=40)(hn:40<=new)(x y:Nat)(hx:x< m)(hy:y< m)(h:fiR i new x=fiR i new y):x=y:=by
 unfold fiR at h;cases h1:Nat.beq x (i+2)<;> cases h2:Nat.beq y (i+2)<;> rw[h1,h2] at h <;> simp only[cond_true,cond_false] at h;exact h;omega;omega;simp_all
def wJ(n i j k:Nat):Nat:=cond (Nat.blt k i) n j
theorem HC(h:k< i):wJ n i j k=n:=by unfold wJ;rw[show Nat.blt k i=true from Nat.ble_eq_true_of_le h];rfl
theorem Es:wJ n i j i=j:=by
 unfold wJ;rw[show Nat.blt i i=false by cases hb:Nat.blt i i with|false=>rfl|true=>simp_all];rfl
theorem fi_set(hi:i< n):∀e:Nat,e=i->(foE (wJ n i (j+1)) (fun x=>x) n (i+1)).set e [.lsl new 0 (j+1+1) none 3]=foE (wJ n i (j+1+1)) (fiR i new) n (i+1):=fun e b=>by
 have:=FD (w:=wJ n i (j+1)) (w':=wJ n i (j+1+1)) (s:=fun x=>x) (s':=fiR i new) (n:=n) (m:=i+1) (i:=i) (.inr rfl) hi (fun k a=>⟨by rw[HC a,HC a],(fg (by omega)).symm⟩) e b;rw[jE,Es] at this;grind
theorem fi_set0(hi:i< n):∀e:Nat,e=i->(foE (fun _=>n) (fun x=>x) n i).set e [.lsl new 0 (0+1) none 3]=foE (wJ n i (0+1)) (fiR i new) n (i+1):=fun e b=>by
 have:=FD (w:=fun _=>n) (w':=wJ n i (0+1)) (s:=fun x=>x) (s':=fiR i new) (n:=n) (m:=i) (i:=i) (.inl rfl) hi (fun k a=>⟨by rw[HC a],(fg (by omega)).symm⟩) e b;rw[jE,Es] at this;grind
theorem foE_ge'(h:m<=k)(hk:k< n):∀e,e=k->(foE w s n m)[e]?=some [.emp]:=fun e a=>by rw[a];exact DG h hk
theorem foE_lt'(h:k< m)(hj:w k=j):∀e,e=k->(foE w s n m)[e]?=some [.lsl (s (k+2)) 0 j none 3]:=fun e a=>by rw[a,<-hj];exact zc h
theorem qi:(fiL A n i++[x])[i]?=some x:=by simp
theorem r7(h:k< i):(fiL A n i++[x])[k]?=some (pE (aJ n (A k))):=by
 rw[List.getElem?_append_left (by simp_all)];exact fw h
theorem DH{e:Lc}(h:(fiL A n i++[x])[k]?=some e):(k< i/\e=pE (aJ n (A k)))\/(k=i/\e=x):=by
 have a:=(List.getElem?_eq_some_iff.1 h).1;rw[List.length_append,me,List.length_singleton] at a;by_cases hk:k< i;rw[r7 hk] at h;cases h;exact .inl ⟨hk,rfl⟩;obtain rfl:k=i:=by omega
 simp_all
end
section
variable {R:Nat->Lq}{n k:Nat}{s:Nat->Nat}
def rwL(R:Nat->Lq)(n:Nat):List Lc:=(List.range n).map fun k=>pE (R k)
@[simp] theorem oq (R:Nat->Lq)(n:Nat):(rwL R n).length=n:=by simp[rwL]
theorem EJ(h:k< n):(rwL R n)[k]?=some (pE (R k)):=by simp[rwL,h]
theorem CF{e:Lc}(h:(rwL R n)[k]?=some e):k< n/\e=pE (R k):=by
 have a:=(List.getElem?_eq_some_iff.1 h).1;rw[oq] at a;rw[EJ a] at h;grind
theorem fiL_rwL(A:Nat->Nat->Rat)(n i:Nat):fiL A n i=rwL (fun k=>aJ n (A k)) i:=rfl
def rwO(R:Nat->Lq)(s:Nat->Nat)(n:Nat):Lc:=mzO 3 (fun k=>(R k).length) s n
@[simp] theorem oo (R:Nat->Lq)(s:Nat->Nat)(n:Nat):(rwO R s n).length=n:=lZ _ _ _ _
theorem dR(h:k< n):∀e,e=k->(rwO R s n)[e]?=some [.lsl (s (k+2)) 0 (R k).length none 3]:=fun e a=>by rw[a];exact tA h
theorem rwO_out(h:n<=k):(rwO R s n)[k]?=none:=by simp_all
theorem fY{R':Nat->Lq}{s':Nat->Nat}(h:∀k,k< n->(R k).length=(R' k).length/\s (k+2)=s' (k+2)):rwO R s n=rwO R' s' n:=by
 refine List.ext_getElem? fun k=>?_;by_cases hk:k< n;rw[dR hk k rfl,dR hk k rfl,(h k hk).1,(h k hk).2];simp_all
def rwH(TS TQ:Nat)(R:Nat->Lq)(n:Nat)(ex:Hp):Hp:=mzX 3 TS TQ (rwO R (fun x=>x) n) (rwL R n) ex
section
variable {fr fr':Fr}{hp ex:Hp}{nx N TS TQ n k:Nat}{R R':Nat->Lq}
theorem dp(hid:∀p∈ex,35<=p.1/\p.1< 40)(hn:n<=30)(h:k< n):an (rwH TS TQ R n ex) (k+2)=some ⟨TQ,3,pE (R k)⟩:=E5 hid (by omega) (EJ h)
theorem jT(hid:∀p∈ex,35<=p.1/\p.1< 40)(hn:n<=30)(h:k< n):cZ (an (rwH TS TQ R n ex)) (k+2)=some ⟨TQ,3,pE (R k)⟩:=dn (dp hid hn h) (show(3:Nat)≠0 by decide)
theorem ce(hid:∀p∈ex,35<=p.1/\p.1< 40):an (rwH TS TQ R n ex) 1=some ⟨TS,1,rwO R (fun x=>x) n⟩:=E6 hid
theorem SEntT.rw (s:Nat->Nat) (hn:n<=30) (s0:s 0=0) (hinj:∀i j,InX n i->InX n j->s i=s j->i=j) (h1:an hp (s 1)=some ⟨TS,1,rwO R s n⟩) (hr:∀i,i< n->an hp (s (i+2))=some ⟨TQ,3,pE (R i)⟩) (hid:∀p∈ex,35<=p.1/\p.1< 40)
    (hex:∀i B,(i,some B)∈ex->∃B0,an hp (s i)=some B0/\B0.ty=B.ty/\B0.sz=B.sz/\B0.es.length=B.es.length)
    (hE:Shr ⟨40,s⟩ (an hp) (an (rwH TS TQ R n ex))->∀i B B0,(i,some B)∈ex->an hp (s i)=some B0->CvLL ⟨40,s⟩ (an hp) (an (rwH TS TQ R n ex)) B0.es B.es)
    (hF:Shr ⟨40,s⟩ (an hp) (an (rwH TS TQ R n ex))->CvF ⟨40,s⟩ (an hp) (an (rwH TS TQ R n ex)) fr fr'):SEntT ⟨fr,hp,nx,N⟩ ⟨fr',rwH TS TQ R n ex,40,N⟩:=
 SEntT.mzx s (by simp_all) s0 (by rw[oq];grind) h1 (by simp) (fun i e h=>by
  obtain⟨a,rfl⟩:=CF h;exact⟨hr i a,aP _⟩) hid hex (fun _=>nB hn fun i b=>by
  show(an (rwH TS TQ R n ex) (i+2)).isSome=true;rw[dp hid hn b];rfl) hE hF
end
def upR(R:Nat->Lq)(k:Nat)(r:Lq):Nat->Lq:=fun i=>if i=k then r else R i
theorem er(R:Nat->Lq)(k:Nat)(r:Lq):upR R k r k=r:=if_pos rfl
theorem kK(R:Nat->Lq){i:Nat}(r:Lq)(h:i≠k):upR R k r i=R i:=if_neg h
theorem Ie{new m:Nat}{r:Lq}(hk:k< n)(hm:m=r.length):∀e:Nat,e=k->(rwO R (fun x=>x) n).set e [.lsl new 0 m none 3]=rwO (upR R k r) (fiR k new) n:=fun e a=>by
 subst a hm;refine List.ext_getElem? fun i=>?_;rw[List.getElem?_set,oo];split
 ·rename_i h;subst h
  rw[dR hk e rfl,er,jE]
 ·rename_i h
  by_cases hi:i< n;rw[dR hi i rfl,dR hi i rfl,kK _ _ (fun e=>h e.symm),fg (fun e=>h e.symm)];simp_all
def swx(a b x:Nat):Nat:=if x=a then b else if x=b then a else x
theorem HX(a b:Nat):swx a b a=b:=if_pos rfl
theorem HW(a b:Nat):swx a b b=a:=by unfold swx;grind
theorem jp{a b x:Nat}(h1:x≠a)(h2:x≠b):swx a b x=x:=by unfold swx;grind
theorem xX{a b x y:Nat}(h:swx a b x=swx a b y):x=y:=by unfold swx at h;grind
theorem Ic{p:Nat}(hk:k< n)(hp:p< n):∀a b:Nat,a=p->b=k->((rwO R (fun x=>x) n).set a [.lsl (k+2) 0 (R k).length none 3]).set b [.lsl (p+2) 0 (R p).length none 3]=rwO (fun i=>R (swx k p i)) (swx (k+2) (p+2)) n:=fun a b ha hb=>by
 subst ha hb;refine List.ext_getElem? fun i=>?_;rw[List.getElem?_set,List.length_set,List.getElem?_set,oo];by_cases hi:i< n;rw[dR (R:=fun i=>R (swx b a i)) hi i rfl];by_cases c:b=i;subst c;rw[HX,HX]
 try grind
 rw[if_neg c];by_cases h2:a=i;subst h2;rw[HW,HW]
 try grind
 rw[if_neg h2,dR hi i rfl,jp (fun e=>c e.symm) (fun e=>h2 e.symm),jp (by omega) (by omega)];have c:b≠i:=by omega
 simp_all
end


section
variable {T:Lq}{n:Nat}(hn:1<=n/\n<=5)(hl:T.length=n+1)(ht:ar T=T)(hm:ba T=1)(hb:bdL T 20)
include hn hl ht hm hb
end
def sQ(f:Nat->Rat):Nat->Rat
 |0=>0
 |n+1=>sQ f n+f n
theorem bJ{f g:Nat->Rat}:∀n,(∀j,j< n->f j=g j)->sQ f n=sQ g n
 |0,_=>rfl
 |n+1,h=>by rw[sQ,sQ,bJ n fun j a=>h j (by omega),h n (by omega)]
theorem iU(f g:Nat->Rat)(u:Rat):∀n,sQ (fun j=>f j- u* g j) n=sQ f n- u* sQ g n
 |0=>by rw[sQ,sQ,sQ];grind
 |n+1=>by rw[sQ,sQ,sQ,iU f g u n];grind
theorem Ib(f g:Nat->Rat):∀n,sQ (fun j=>f j+g j) n=sQ f n+sQ g n
 |0=>by rw[sQ,sQ,sQ];grind
 |n+1=>by rw[sQ,sQ,sQ,Ib f g n];grind
theorem gS(i:Nat)(a:Rat):∀n,sQ (fun j=>if j=i then a else 0) n=if i< n then a else 0
 |0=>by rw[sQ,if_neg (by omega)]
 |n+1=>by
  rw[sQ,gS i a n];grind
abbrev Mx:=Nat->Nat->Rat
def Sol(c:Rat)(M:Mx)(n:Nat)(x:Nat->Rat):Prop:=∀i,i< n->sQ (fun j=>M i j* x j) n=c* M i n
def swM(M:Mx)(k p:Nat):Mx:=fun i j=>if i=k then M p j else if i=p then M k j else M i j
theorem H4{c:Rat}{M:Mx}{n k p:Nat}{x:Nat->Rat}(hk:k< n)(hp:p< n)(h:Sol c (swM M k p) n x):Sol c M n x:=fun i a=>by
 by_cases e1:i=k;subst e1;by_cases e2:p=i;have:=h i a;unfold swM at this;simp only[e2] at this;exact this;have:=h p hp;unfold swM at this;simp only[if_neg e2] at this;exact this;by_cases e2:i=p;subst e2;have:=h k hk;unfold swM at this;simp only[if_pos rfl] at this;exact this;have:=h i a;unfold swM at this;grind
def bdM(M:Mx)(n s:Nat):Prop:=∀i j,i< n->j<=n->qs (M i j)<=s
theorem Kv{M:Mx}{n k p s:Nat}(h:bdM M n s)(hk:k< n)(hp:p< n):bdM (swM M k p) n s:=fun i j b a=>by
 unfold swM;split;exact h p j hp a;split;exact h k j hk a;exact h i j b a
section
variable {c n p r i:Nat}{M A:Mx}{x:Nat->Rat}{L:Ln}
def scM(M:Mx)(r:Nat)(f:Rat):Mx:=fun i j=>if i=r then M i j* f else M i j
def rdM(M:Mx)(r k:Nat):Mx:=fun i j=>if i=r then M i j else M i j- M i k* M r j
theorem yk(f:Nat->Rat)(u:Rat):∀n,sQ (fun j=>f j* u) n=sQ f n* u
 |0=>by rw[sQ,sQ];grind
 |n+1=>by rw[sQ,sQ,yk f u n];grind
theorem sol_sw2{c:Rat}{k:Nat}(hk:k< n)(hp:p< n):Sol c (swM M k p) n x↔Sol c M n x:=by
 refine⟨H4 hk hp,fun h=>?_⟩;refine H4 (k:=k) (p:=p) hk hp fun i a=>?_
 have e:∀j,swM (swM M k p) k p i j=M i j:=fun j=>by
  unfold swM;by_cases h1:i=k;subst h1;by_cases h2:p=i;subst h2;simp;simp[h2];by_cases h2:i=p;subst h2;simp[h1];simp[h1,h2]
 rw[e,bJ (g:=fun j=>M i j* x j) n fun j _=>by rw[e]];exact h i a
theorem sol_sc{c f:Rat}(hf:f≠0):Sol c (scM M r f) n x↔Sol c M n x:=by
 have a:∀i,(sQ (fun j=>scM M r f i j* x j) n=c* scM M r f i n)↔(sQ (fun j=>M i j* x j) n=c* M i n):=fun i=>by
  unfold scM;by_cases e:i=r;simp only[if_pos e];rw[bJ (g:=fun j=>M i j* x j* f) n fun j _=>by grind,yk];generalize sQ (fun j=>M i j* x j) n=s;constructor;intro h;have d:f* (s- c* M i n)=0:=by grind
  rcases Rat.mul_eq_zero.1 d with g|g
  exact absurd g hf;grind;intro h;rw[h];grind;simp only[if_neg e]
 exact⟨fun h i b=>(a i).1 (h i b),fun h i b=>(a i).2 (h i b)⟩
theorem sol_rd{c:Rat}{k:Nat}(hr:r< n):Sol c (rdM M r k) n x↔Sol c M n x:=by
 have e0:∀j,rdM M r k r j=M r j:=fun j=>if_pos rfl;have e1:∀i j,i≠r->rdM M r k i j=M i j- M i k* M r j:=fun i j h=>if_neg h
 have s1:∀i,i≠r->sQ (fun j=>rdM M r k i j* x j) n=sQ (fun j=>M i j* x j) n- M i k* sQ (fun j=>M r j* x j) n:=fun i h=>by
  rw[<-iU];exact bJ n fun j _=>by rw[e1 i j h];grind
 have d:sQ (fun j=>rdM M r k r j* x j) n=sQ (fun j=>M r j* x j) n:=bJ n fun j _=>by rw[e0]
 constructor;intro h i b;have a:=h r hr;rw[d,e0] at a;by_cases e:i=r;rw[e];exact a;have f:=h i b;rw[s1 i e,e1 i n e,a] at f;grind;intro h i b;have a:=h r hr;by_cases e:i=r;rw[e,d,e0];exact a;rw[s1 i e,e1 i n e,a,h i b];grind
def pvR(M:Mx)(n r c:Nat):Option Nat:=(List.range n).find? fun p=>decide (r<=p/\M p c≠0)
theorem jY(h:pvR M n r c=some p):p< n/\r<=p/\M p c≠0:=by
 have a:=List.find?_some h;have b:=List.mem_of_find?_eq_some h;grind
theorem uP(h:pvR M n r c=none):∀i,i< n->r<=i->M i c=0:=fun i a d=>by
 have b:=List.find?_eq_none.1 h i (List.mem_range.2 a);grind
theorem pvR_of(hp:p< n)(hk:r<=p)(h:M p c≠0)(hb:∀i,r<=i->i< p->M i c=0):pvR M n r c=some p:=by
 cases e:pvR M n r c with
 |none=>exact absurd (uP e p hp hk) h
 |some q=>
  obtain⟨q1,q2,q3⟩:=jY e;unfold pvR at e;rw[List.find?_range_eq_some] at e;obtain⟨e1,e2,a⟩:=e;by_cases h1:q< p;exact absurd (hb q q2 h1) q3;by_cases h2:p< q;have:=a p h2;simp[hk,h] at this;rw[show q=p by omega]
def slC(A:Mx)(n:Nat)(L:Ln)(c:Nat):Mx×Ln:=match pvR A n L.length c with
 |none=>(A,L)
 |some p=>(rdM (scM (swM A L.length p) L.length (1/ A p c)) L.length c,L++[c])
def slM(M:Mx)(n:Nat):Nat->Mx×Ln
 |0=>(M,[])
 |c+1=>slC (slM M n c).1 n (slM M n c).2 c
structure Ech (A:Mx)(n c:Nat)(L:Ln):Prop where
 len:L.length<=c
 len2:L.length<=n
 lt:∀(i l:Nat),L[i]?=some l->l< c
 inc:∀(i j l m:Nat),L[i]?=some l->L[j]?=some m->i< j->l< m
 one:∀(i l k:Nat),L[i]?=some l->k< n->A k l=if k=i then 1 else 0
 low:∀(i l j:Nat),L[i]?=some l->j< l->A i j=0
 rest:∀i j,L.length<=i->i< n->j< c->A i j=0
theorem Ech.step(h:Ech A n c L):Ech (slC A n L c).1 n (c+1) (slC A n L c).2:=by
 unfold slC;cases e:pvR A n L.length c with
 |none=>
  show Ech A n (c+1) L;refine⟨by have:=h.len;omega,h.len2,fun i l hl=>by have:=h.lt i l hl;omega,h.inc,h.one,h.low,fun i j t r w=>?_⟩;by_cases e2:j=c;rw[e2];exact uP e i r t;exact h.rest i j t r (by omega)
 |some p=>
  obtain⟨p1,p2,J⟩:=jY e;show Ech (rdM (scM (swM A L.length p) L.length (1/ A p c)) L.length c) n (c+1) (L++[c]);have H:L.length< n:=by omega
  have K:∀i l,L[i]?=some l->i< L.length:=fun i l hl=>(List.getElem?_eq_some_iff.1 hl).1
  -- the rows after the exchange
  have x:∀i j,i< L.length->swM A L.length p i j=A i j:=fun i j Q=>by unfold swM;rw[if_neg (by omega),if_neg (by omega)]
  have G:∀j,swM A L.length p L.length j=A p j:=fun j=>by unfold swM;rw[if_pos rfl]
  have v:∀i j,L.length<=i->i< n->j< c->swM A L.length p i j=0:=fun i j t r w=>by
   unfold swM;split;exact h.rest p j p2 p1 w;split;exact h.rest _ j (Nat.le_refl _) H w;exact h.rest i j t r w
  have E:∀i l k,L[i]?=some l->k< n->swM A L.length p k l=if k=i then 1 else 0:=fun i l k hl y=>by
   by_cases g:k< L.length;rw[x k l g];exact h.one i l k hl y;have:=K i l hl;rw[v k l (by omega) y (h.lt i l hl),if_neg (by omega)]
  generalize R:swM A L.length p=B at *
  have u:∀i j,i≠L.length->scM B L.length (1/ A p c) i j=B i j:=fun i j g=>if_neg g;have s:∀j,scM B L.length (1/ A p c) L.length j=B L.length j* (1/ A p c):=fun j=>if_pos rfl
  have d:scM B L.length (1/ A p c) L.length c=1:=by
   rw[s,G];have:=Rat.div_mul_cancel (a:=1) J;grind
  have b:∀j,j< c->scM B L.length (1/ A p c) L.length j=0:=fun j z=>by rw[s,v _ j (Nat.le_refl _) H z];grind
  generalize O:scM B L.length (1/ A p c)=C at *
  have o:∀j,rdM C L.length c L.length j=C L.length j:=fun j=>if_pos rfl;have q:∀i j,i≠L.length->rdM C L.length c i j=C i j- C i c* C L.length j:=fun i j g=>if_neg g
  have snoc:∀i l,(L++[c])[i]?=some l->(i< L.length/\L[i]?=some l)\/(i=L.length/\l=c):=fun i l hl=>by
   rw[List.getElem?_append] at hl;split at hl
   ·rename_i g;exact .inl ⟨g,hl⟩
   ·rename_i g
    have:i- L.length=0:=by
     have:=(List.getElem?_eq_some_iff.1 hl).1;simp at this;omega
    rw[this] at hl;cases hl;exact .inr ⟨by omega,rfl⟩
  refine⟨by have:=h.len;simp;omega,by simp;omega,fun i l hl=>?_,fun i j l m hl M D=>?_,fun i l k hl y=>?_,fun i l j hl z=>?_,fun i j t r w=>?_⟩;rcases snoc i l hl with⟨_,g⟩|⟨_,g⟩
  have:=h.lt i l g;omega;omega;rcases snoc i l hl with⟨f,g⟩|⟨f,g⟩<;> rcases snoc j m M with⟨b1,F⟩|⟨b1,F⟩
  exact h.inc i j l m g F D;rw[F];exact h.lt i l g;omega;omega;rcases snoc i l hl with⟨f,g⟩|⟨f,g⟩
  by_cases e1:k=L.length;subst e1;rw[o,b l (h.lt i l g),if_neg (by omega)];rw[q k l e1,u k l e1,E i l k g y,b l (h.lt i l g)];grind;subst f g;by_cases e1:k=L.length;rw[if_pos e1,e1,o,d];rw[if_neg e1,q k l e1,d];grind;rcases snoc i l hl with⟨f,g⟩|⟨f,g⟩
  have N:=h.lt i l g;rw[q i j (by omega),u i j (by omega),x i j f,h.low i l j g z,b j (by omega)];grind;subst f g;rw[o,b j z];grind
theorem slC_sol{c0:Rat}:Sol c0 (slC A n L c).1 n x↔Sol c0 A n x:=by
 unfold slC;cases e:pvR A n L.length c with
 |none=>exact Iff.rfl
 |some p=>
  obtain⟨p1,p2,b⟩:=jY e
  have d:1/ A p c≠0:=fun g=>by
   have:=Rat.div_mul_cancel (a:=1) b;rw[g] at this;grind
  exact(sol_rd (by omega)).trans ((sol_sc d).trans (sol_sw2 (by omega) p1))
theorem c8(M:Mx)(n:Nat):∀c,Ech (slM M n c).1 n c (slM M n c).2
 |0=>⟨Nat.le_refl _,Nat.zero_le _,fun i l h=>by simp[slM] at h,fun i j l m h=>by simp[slM] at h,fun i l k h=>by simp[slM] at h,fun i l j h=>by simp[slM] at h,fun i j _ _ h=>by omega⟩
 |c+1=>(c8 M n c).step
theorem jz{c0:Rat}{M:Mx}{n:Nat}{x:Nat->Rat}:∀c,Sol c0 (slM M n c).1 n x↔Sol c0 M n x
 |0=>Iff.rfl
 |c+1=>slC_sol.trans (jz c)
theorem Ech.row(h:Ech A n n L)(hx:∀j,j< n->j∉L->x j=0){l:Nat}(hl:L[i]?=some l):sQ (fun j=>A i j* x j) n=x l:=by
 have c:i< n:=Nat.lt_of_lt_of_le (List.getElem?_eq_some_iff.1 hl).1 h.len2;have a:=h.lt i l hl;rw[bJ (g:=fun j=>if j=l then x l else 0) n fun j d=>?_,gS,if_pos a];by_cases e:j=l;rw[if_pos e,e,h.one i l i hl c,if_pos rfl];grind;rw[if_neg e];by_cases g:j∈L;obtain⟨k,b⟩:=List.getElem?_of_mem g;rw[h.one k j i b c,if_neg (fun f=>e (by rw[f,b] at hl;cases hl;rfl))];grind;rw[hx j d g];grind
def oneX(A:Mx)(n:Nat)(L:Ln)(j:Nat):Rat:=if L.contains j then A (L.idxOf j) n else 0
theorem Ech.idx(h:Ech A n c L){l:Nat}(hl:L[i]?=some l):L.idxOf l=i:=by
 have b:=List.mem_of_getElem? hl;have a:L[L.idxOf l]?=some l:=by grind
 by_cases e1:L.idxOf l< i;have:=h.inc _ _ _ _ a hl e1;omega;by_cases e2:i< L.idxOf l;have:=h.inc _ _ _ _ hl a e2;omega;omega
theorem Ech.oneX(h:Ech A n n L)(h0:∀i,L.length<=i->i< n->A i n=0):Sol 1 A n (Abs.oneX A n L):=fun i a=>by
 have c:∀j,j< n->j∉L->Abs.oneX A n L j=0:=fun j _ g=>by unfold Abs.oneX;rw[if_neg (by simpa using g)]
 by_cases g:i< L.length;have hl:L[i]?=some L[i]:=List.getElem?_eq_getElem g;rw[h.row c hl];unfold Abs.oneX;rw[if_pos (by simp),h.idx hl];grind;rw[h0 i (by omega) a,bJ (g:=fun j=>if j=n then 0 else 0) n fun j b=>by rw[h.rest i j (by omega) a b];grind,gS];split <;> grind
theorem Ech.none(h:Ech A n n L)(h1:L.length<=i)(h2:i< n)(h3:A i n≠0)(x:Nat->Rat):¬Sol 1 A n x:=fun hs=>by
 have:=hs i h2;rw[bJ (g:=fun j=>if j=n then 0 else 0) n fun j a=>by rw[h.rest i j h1 h2 a];grind,gS] at this;split at this <;> grind
def zerX(A:Mx)(L:Ln)(f j:Nat):Rat:=if L.contains j then -A (L.idxOf j) f else if j=f then 1 else 0
theorem Ech.zerX(h:Ech A n n L){f:Nat}(hf:f< n)(hfL:f∉L):Sol 0 A n (Abs.zerX A L f):=fun i b=>by
 -- split into the part on the leads and the free number
 have e1:∀j,j< n->A i j* Abs.zerX A L f j=A i j* (if L.contains j then -A (L.idxOf j) f else 0)+(if j=f then A i f else 0):=fun j a=>by
  unfold Abs.zerX;by_cases g:j∈L;rw[if_pos (by simpa using g),if_pos (by simpa using g),if_neg (fun(e:j=f)=>hfL (by rw[<-e];exact g))];grind;rw[if_neg (show¬L.contains j=true by simpa using g),if_neg (show¬L.contains j=true by simpa using g)];by_cases e:j=f;rw[if_pos e,if_pos e,e];grind;rw[if_neg e,if_neg e];grind
 rw[bJ n e1,Ib,gS,if_pos hf]
 have c:∀j,j< n->j∉L->(fun j=>if L.contains j then -A (L.idxOf j) f else 0) j=(0:Rat):=fun j _ g=>by
  show(if L.contains j then _ else _)=_;rw[if_neg (by simpa using g)]
 by_cases g:i< L.length;have hl:L[i]?=some L[i]:=List.getElem?_eq_getElem g;rw[h.row c hl];show(if L.contains L[i]=true then -A (L.idxOf L[i]) f else 0)+A i f=_;rw[if_pos (by simp),h.idx hl];grind;rw[bJ (g:=fun j=>if j=n then 0 else 0) n fun j a=>by rw[h.rest i j (by omega) b a];grind,gS,h.rest i f (by omega) b hf];split <;> grind
theorem Ech.uniq(h:Ech A n n L){y:Nat->Rat}{c0:Rat}(hx:Sol c0 A n x)(hy:Sol c0 A n y)(hf:∀j,j< n->j∉L->x j=y j):∀j,j< n->x j=y j:=fun j b=>by
 by_cases g:j∈L;obtain⟨i,c⟩:=List.getElem?_of_mem g;have a:i< n:=Nat.lt_of_lt_of_le (List.getElem?_eq_some_iff.1 c).1 h.len2;have e:=h.row (x:=fun j=>x j- y j) (fun j b g=>by show x j- y j=0;rw[hf j b g];grind) c;have d:=hx i a;have f:=hy i a;rw[bJ (g:=fun j=>A i j* x j- 1* (A i j* y j)) n fun j _=>by grind,iU,d,f] at e;grind;exact hf j b g
end
section
variable {A:Nat->Nat->Rat}{l:Rat}{n i:Nat}
def svM(A:Nat->Nat->Rat)(l:Rat)(b:Nat->Rat)(n i j:Nat):Rat:=if j=n then b i else if j=i then -(A i j* l)+1 else -(A i j* l)
def mxr(A:Nat->Nat->Rat)(l:Rat)(n i j:Nat):Lq:=aJ n fun t=>if t< j then -(A i t* l) else A i t
@[simp] theorem uX (A:Nat->Nat->Rat)(l:Rat)(n i j:Nat):(mxr A l n i j).length=n:=by simp[mxr]
theorem mxr_0(A:Nat->Nat->Rat)(l:Rat)(n i:Nat):mxr A l n i 0=aJ n (A i):=by unfold mxr;simp
theorem E7{j:Nat}(h:j< n):∀e,e=j->(pE (mxr A l n i j))[e]?=some (qC (A i j)):=fun e a=>by
 subst a;simp[pE,mxr,aJ,h]
theorem mxr_set{j:Nat}(h:j< n):∀e,e=j->(pE (mxr A l n i j)).set e (qC (-(A i j* l)))=pE (mxr A l n i (j+1)):=fun e a=>by
 subst a;rw[ju];congr 1;refine List.ext_getElem? fun t=>?_;rw[List.getElem?_set];by_cases ht:t< n;by_cases h1:e=t;subst h1;simp[mxr,aJ,ht];rw[if_neg h1];simp only[mxr,aJ,List.getElem?_map,List.getElem?_range ht,Option.map_some];by_cases h2:t< e;rw[if_pos h2,if_pos (by omega)];rw[if_neg h2,if_neg (by omega)];simp_all
def dgr(A:Nat->Nat->Rat)(l:Rat)(n i:Nat):Lq:=aJ n fun t=>if t=i then -(A i t* l)+1 else -(A i t* l)
@[simp] theorem DS (A:Nat->Nat->Rat)(l:Rat)(n i:Nat):(dgr A l n i).length=n:=by simp[dgr]
theorem AO(h:i< n):∀e,e=i->(pE (mxr A l n i n))[e]?=some (qC (-(A i i* l))):=fun e a=>by
 subst a;simp[pE,mxr,aJ,h]
theorem mxr_one(h:i< n):∀e,e=i->(pE (mxr A l n i n)).set e (qC (-(A i i* l)+1))=pE (dgr A l n i):=fun e a=>by
 subst a;rw[ju];congr 1;refine List.ext_getElem? fun t=>?_;rw[List.getElem?_set];by_cases ht:t< n;by_cases h1:e=t;subst h1;simp[dgr,aJ,ht];rw[if_neg h1];simp only[mxr,dgr,aJ,List.getElem?_map,List.getElem?_range ht,Option.map_some];rw[if_pos ht,if_neg fun b=>h1 b.symm];simp_all
theorem dgr_app{b:Nat->Rat}:dgr A l n i++[b i]=aJ (n+1) (svM A l b n i):=by
 rw[qZ];congr 1;refine List.map_congr_left fun t a=>?_;have:=List.mem_range.1 a;simp only[svM,if_neg (show¬t=n by omega)];unfold svM;grind
def ph1(A:Nat->Nat->Rat)(l:Rat)(b:Nat->Rat)(n i k:Nat):Lq:=if k< i then aJ (n+1) (svM A l b n k) else aJ n (A k)
theorem ph1_0(A:Nat->Nat->Rat)(l:Rat)(b:Nat->Rat)(n:Nat):ph1 A l b n 0=fun k=>aJ n (A k):=funext fun k=>if_neg (by omega)
theorem ph1_n{b:Nat->Rat}{k:Nat}(h:k< n):ph1 A l b n n k=aJ (n+1) (svM A l b n k):=if_pos h
theorem IK(A:Nat->Nat->Rat)(l:Rat)(b:Nat->Rat)(n i:Nat):ph1 A l b n i i=mxr A l n i 0:=by exact if_neg (by omega)
theorem upR_up(R:Nat->Lq)(k:Nat)(r r':Lq):upR (upR R k r) k r'=upR R k r':=funext fun i=>by unfold upR;grind
theorem upR_id(R:Nat->Lq)(k:Nat):upR R k (R k)=R:=funext fun i=>by unfold upR;grind
theorem IJ(A:Nat->Nat->Rat)(l:Rat)(b:Nat->Rat)(n i:Nat):upR (ph1 A l b n i) i (aJ (n+1) (svM A l b n i))=ph1 A l b n (i+1):=funext fun k=>by
 unfold upR ph1;grind
end
section
variable {X:Mx}{i j k n r c:Nat}
def puM(X:Mx)(i j:Nat)(v:Rat):Mx:=fun k t=>if k=i/\t=j then v else X k t
theorem IG{v:Rat}(h:k≠i):puM X i j v k=X k:=funext fun t=>if_neg fun e=>h e.1
theorem puM_set{m:Nat}{v:Rat}(h:j< m):∀e:Nat,e=j->(pE (aJ m (X i))).set e (qC v)=pE (aJ m (puM X i j v i)):=fun e a=>by
 subst a;rw[ju];congr 1;refine List.ext_getElem? fun t=>?_;rw[List.getElem?_set];by_cases ht:t< m;by_cases h1:e=t;subst h1;simp[aJ,ht,puM];rw[if_neg h1];simp[aJ,ht,puM,show¬t=e from fun b=>h1 b.symm];simp_all
theorem eD{X:Nat->Rat}{m:Nat}(h:j< m):∀e:Nat,e=j->(pE (aJ m X))[e]?=some (qC (X j)):=fun e a=>by
 subst a;simp[pE,aJ,h]
def rT(n:Nat)(X:Mx)(k:Nat):Lq:=aJ (n+1) (X k)
theorem uK{Y:Mx}(h:∀j,j<=n->X k j=Y k j):rT n X k=rT n Y k:=by
 exact List.map_congr_left fun t a=>h t (by grind)
@[simp] theorem rT_length (n:Nat)(X:Mx)(k:Nat):(rT n X k).length=n+1:=by simp[rT]
def scJ(X:Mx)(r:Nat)(f:Rat)(j:Nat):Mx:=fun i t=>if i=r/\t< j then X i t* f else X i t
theorem scJ_0(X:Mx)(r:Nat)(f:Rat):scJ X r f 0=X:=funext fun i=>funext fun t=>if_neg fun e=>by omega
theorem Ia(X:Mx)(r:Nat)(f:Rat)(j:Nat):scJ X r f j r j=X r j:=if_neg fun e=>by omega
theorem scJ_s(X:Mx)(r:Nat)(f:Rat)(j:Nat):scJ X r f (j+1)=puM (scJ X r f j) r j (X r j* f):=funext fun i=>funext fun t=>by
 show(if i=r/\t< j+1 then X i t* f else X i t)=if i=r/\t=j then X r j* f else if i=r/\t< j then X i t* f else X i t
 grind
theorem scJ_n{f:Rat}(k j:Nat)(h:j<=n):scJ X r f (n+1) k j=scM X r f k j:=by
 unfold scJ scM;grind
def rdJ(X:Mx)(r c i j:Nat):Mx:=fun k t=>if k≠r/\(k< i\/(k=i/\t< j)) then X k t- X k c* X r t else X k t
theorem rdJ_0(X:Mx)(r c:Nat):rdJ X r c 0 0=X:=funext fun i=>funext fun t=>if_neg fun e=>by omega
theorem Iu(X:Mx)(r c i j:Nat):rdJ X r c i j i j=X i j:=if_neg fun e=>by omega
theorem rdJ_c(X:Mx)(r c i:Nat):rdJ X r c i 0 i=X i:=funext fun t=>if_neg fun e=>by omega
theorem rdJ_r(X:Mx)(r c i j:Nat):rdJ X r c i j r=X r:=funext fun t=>if_neg fun e=>e.1 rfl
theorem rdJ_s(h:i≠r):rdJ X r c i (j+1)=puM (rdJ X r c i j) i j (X i j- X i c* X r j):=funext fun k=>funext fun t=>by
 show(if k≠r/\(k< i\/(k=i/\t< j+1)) then X k t- X k c* X r t else X k t)=if k=i/\t=j then X i j- X i c* X r j else if k≠r/\(k< i\/(k=i/\t< j)) then X k t- X k c* X r t else X k t
 grind
theorem rdJ_n(i k j:Nat)(h:j<=n):rdJ X r c i (n+1) k j=rdJ X r c (i+1) 0 k j:=by
 unfold rdJ;grind
theorem pe(h:i=r\/X i c=0):rdJ X r c (i+1) 0=rdJ X r c i 0:=funext fun k=>funext fun t=>by
 unfold rdJ;grind
theorem EX(h:k< n)(j:Nat):rdJ X r c n 0 k j=rdM X r c k j:=by
 unfold rdJ rdM;grind
def slB(s:Nat):Nat->Nat
 |0=>s
 |c+1=>4* slB s c+2
theorem k8{s:Nat}(h:k<=n):slB s k<=slB s n:=by
 induction n with
 |zero=>grind
 |succ n a=>
  by_cases e:k=n+1;rw[e];exact Nat.le_refl _;rw[slB];omega
theorem Kx{A:Mx}{s:Nat}{L:Ln}(h:bdM A n s)(hL:L.length<=c)(hc:c< n):bdM (slC A n L c).1 n (4* s+2):=by
 unfold slC;cases e:pvR A n L.length c with
 |none=>exact fun i j d a=>Nat.le_trans (h i j d a) (by omega)
 |some p=>
  obtain⟨p1,p2,k⟩:=jY e;have g:L.length< n:=by omega
  have f:=Kv h g p1
  have b:∀j,j<=n->qs (scM (swM A L.length p) L.length (1/ A p c) L.length j)<=2* s+1:=fun j a=>by
   unfold scM;rw[if_pos rfl];have r:=f L.length j g a;have a2:=iC 1 (A p c);have a0:qs 1<=1:=by decide
   have a3:=h p c p1 (by omega);have a4:=dS (swM A L.length p L.length j) (1/ A p c);omega
  intro i j d a;show qs (rdM (scM (swM A L.length p) L.length (1/ A p c)) L.length c i j)<=_;unfold rdM;by_cases hir:i=L.length;subst hir;rw[if_pos rfl];have:=b j a;omega;rw[if_neg hir];have b1:∀t,scM (swM A L.length p) L.length (1/ A p c) i t=swM A L.length p i t:=fun t=>if_neg hir;rw[b1,b1];have l:=f i j d a;have m:=f i c d (by omega);have o:=b j a;have u:=dS (swM A L.length p i c) (scM (swM A L.length p) L.length (1/ A p c) L.length j);have q:=uM (swM A L.length p i j) (swM A L.length p i c* scM (swM A L.length p) L.length (1/ A p c) L.length j);omega
theorem Kw{M:Mx}{n s:Nat}(h:bdM M n s):∀c,c<=n->bdM (slM M n c).1 n (slB s c)
 |0,_=>h
 |c+1,hc=>Kx (Kw h c (by omega)) (c8 M n c).len (by omega)
end
def pd:Nat->Nat->List UInt8
 |0,_=>[]
 |k+1,n=>pd k (n/ 10)++[UInt8.ofNat (48+n % 10)]
theorem wR(k n:Nat):(pd k n).length=k:=by
 induction k generalizing n with
 |zero=>rfl
 |succ k a=>rw[pd,List.length_append,a];rfl
theorem IN(j k n:Nat):pd (j+k) n=pd j (n/ 10^ k)++pd k n:=by
 induction k generalizing n with
 |zero=>rw[Nat.add_zero,Nat.pow_zero,Nat.div_one];simp[pd]
 |succ k a=>rw[<-Nat.add_assoc,pd,pd,a,Nat.div_div_eq_div_mul,Nat.pow_succ,Nat.mul_comm 10,List.append_assoc]
theorem pd_mod(k n:Nat):pd k (n % 10^ k)=pd k n:=by
 induction k generalizing n with
 |zero=>rfl
 |succ k a=>
  rw[pd,pd,Nat.pow_succ]
  have e1:n % (10^ k* 10) / 10=n/ 10 % 10^ k:=by
   rw[Nat.mul_comm,Nat.mod_mul_right_div_self]
  have e2:n % (10^ k* 10) % 10=n % 10:=by rw[Nat.mod_mul_left_mod]
  rw[e1,e2,a]
theorem IL(k n:Nat):pd (k+1) n=UInt8.ofNat (48+n/ 10^ k % 10)::pd k n:=by
 rw[Nat.add_comm,IN];rfl
theorem E1(k:Nat):pd k 0=List.replicate k 48:=by
 induction k with
 |zero=>rfl
 |succ k a=>rw[pd,a,List.replicate_succ'];rfl
def j8:List UInt8->List UInt8
 |[]=>[]
 |c::l=>if c=48 then j8 l else c::l
theorem zw{a b:List UInt8}(h:j8 a≠[]):j8 (a++b)=j8 a++b:=by
 induction a with
 |nil=>exact absurd rfl h
 |cons c a d=>
  rw[List.cons_append,j8,j8];rw[j8] at h;by_cases hc:c=48;rw[if_pos hc] at h;rw[if_pos hc,if_pos hc,d h];rw[if_neg hc,if_neg hc];rfl
theorem BH(k:Nat)(l:List UInt8):j8 (List.replicate k 48++l)=j8 l:=by
 induction k with
 |zero=>rfl
 |succ k a=>rw[List.replicate_succ,List.cons_append,j8,if_pos rfl,a]
theorem dig_ne{n:Nat}(h0:n≠0)(h:n< 10):UInt8.ofNat (48+n)≠48:=by
 have:∀n,n< 10->n≠0->UInt8.ofNat (48+n)≠48:=by decide
 exact this n h h0
theorem qO(n:Nat):Lib.decDigits n≠[]:=by
 intro e;have a:=Lib.decDigits_length n;rw[e] at a;have:=Lib.nDigits_pos n;simp at a;omega
theorem BI:∀(k n:Nat),0< n->n< 10^ k->j8 (pd k n)=Lib.decDigits n
 |0,n,h,h2=>by rw[Nat.pow_zero] at h2;omega
 |k+1,n,h,h2=>by
  rw[pd,Lib.decDigits];by_cases h10:n< 10;rw[dif_pos h10,Nat.div_eq_of_lt h10,E1,BH,Nat.mod_eq_of_lt h10,j8,if_neg (dig_ne (by omega) h10)];rw[dif_neg h10];have a:=BI k (n/ 10) (by omega) (by rw[Nat.pow_succ] at h2;omega);rw[zw (by rw[a];exact qO _),a]
theorem xD:∀(k a b:Nat),0< a->b< 10^ k->Lib.decDigits (a* 10^ k+b)=Lib.decDigits a++pd k b
 |0,a,b,h,hb=>by
  have:b=0:=by rw[Nat.pow_zero] at hb;omega
  subst this;simp[pd]
 |k+1,a,b,h,hb=>by
  have hp:1<=10^ k:=Nat.one_le_pow _ _ (by decide);have c:1<=a* 10^ k:=Nat.mul_le_mul h hp;have e:a* 10^ (k+1)+b=(a* 10^ k) * 10+b:=by rw[Nat.pow_succ,Nat.mul_assoc]
  rw[e,Lib.decDigits,dif_neg (by omega),show(a* 10^ k* 10+b) / 10=a* 10^ k+b/ 10 by omega,show(a* 10^ k* 10+b) % 10=b % 10 by omega,xD k a (b/ 10) h (by rw[Nat.pow_succ] at hb;omega),pd,List.append_assoc]
theorem IM:∀(k n:Nat),0< n->n< 10^ k->pd k n=List.replicate (k- (Lib.decDigits n).length) 48++Lib.decDigits n
 |0,n,h,h2=>by rw[Nat.pow_zero] at h2;omega
 |k+1,n,h,h2=>by
  rw[pd,Lib.decDigits];by_cases h10:n< 10;rw[dif_pos h10,Nat.div_eq_of_lt h10,E1,Nat.mod_eq_of_lt h10];rfl;rw[dif_neg h10,IM k (n/ 10) (by omega) (by rw[Nat.pow_succ] at h2;omega),List.length_append,List.append_assoc];congr 2;simp

theorem HS.take{p:Lq}{K:Rat}{h:Nat}(H:HS p K h)(n:Nat):HS (p.take n) K h:=⟨H.ne,H.sc,fun i=>by
 rw[BM];split;exact H.co i;exact(IB.zero h).eq (by grind)⟩
theorem Bu{f:Lq×Lq->Lq}{m:Nat}:∀k:Ke,(∀p∈k,(f p).length<=m)->(k.flatMap f).length<=m* k.length
 |[],_=>by simp
 |p::k,h=>by
  have b:=h p (List.mem_cons_self ..);have c:=Bu k fun q a=>h q (List.mem_cons_of_mem _ a);rw[List.flatMap_cons,List.length_append,List.length_cons,Nat.mul_succ];omega
theorem F5{f:Lq×Lq->Lq}{k:Ke}(hl:k.length<=3)(h4:∀p∈k,(f p).length<=4)(hb:∀p∈k,bdL (f p) 20):∃K,K≠0/\IB K 241/\∀p∈k,HS (f p) K 241:=by
 obtain⟨K,H⟩:=zX (s:=20) (k.flatMap f) fun q a=>by
  obtain⟨p,hp,a⟩:=List.mem_flatMap.1 a;exact hb p hp q a
 have c:=Bu k h4;have H:=H.mono (show _<=241 by omega);refine⟨K,H.ne,H.sc,fun p hp=>⟨H.ne,H.sc,fun i=>?_⟩⟩;by_cases hi:i< (f p).length
 have b:coP (f p) i∈k.flatMap f:=List.mem_flatMap.2 ⟨p,hp,by
  unfold coP;grind⟩
 obtain⟨j,_,e⟩:=tQ b;rw[<-e];exact H.co j;rw[eJ (by omega)];exact(IB.zero _).eq (by grind)
theorem KQ{k:Ke}(hl:k.length<=3)(h4:∀p∈k,p.1.length<=4/\p.2.length<=4)(hb:∀p∈k,bdL p.1 20/\bdL p.2 20):∃KA KB,KHS k KA KB 241/\KA≠0/\KB≠0/\IB KA 241/\IB KB 241:=by
 obtain⟨KA,a,a2,a3⟩:=F5 (f:=fun p=>p.1) hl (fun p hp=>(h4 p hp).1) fun p hp=>(hb p hp).1;obtain⟨KB,b1,b2,b⟩:=F5 (f:=fun p=>p.2) hl (fun p hp=>(h4 p hp).2) fun p hp=>(hb p hp).2;exact⟨KA,KB,⟨h4,a3,b⟩,a,b1,a2,b2⟩
theorem Hr{k:Ke}{a d KA KB:Rat}{h:Nat}(hk:KHS k KA KB h)(A0:KA≠0)(B0:KB≠0)(IA:IB KA h)(IBB:IB KB h)(d0:d≠0)(hd:IB d 20)(ha:IB (a* d) 20):∃KA' KB',KHS (mvK a k) KA' KB' (h+70)/\KA'≠0/\KB'≠0/\IB KA' (h+70)/\IB KB' (h+70):=by
 have hp:=lW hd 3
 have f:∀(l:Lq) (K:Rat),K≠0->IB K h->HS l K h->l.length<=4->HS (cb [a,1] l) (K* d^ 3) (h+70):=fun l K m o H hl=>by
  cases l with
  |nil=>exact⟨fun g=>(Rat.mul_eq_zero.1 g).elim m (pow_nz' d0 3),(o.mul hp).mono (by omega),fun i=>(IB.zero _).eq (by show 0=(0:Rat) * _;grind)⟩
  |cons b l=>
   rw[List.length_cons] at hl;have n:=wm d0 hd ha l b H;have e0:d^ l.length* d^ (3- l.length)=d^ 3:=by rw[<-sP,show l.length+(3- l.length)=3 by omega]
   have j:=n.rescale (pow_nz' d0 (3- l.length)) (lW hd (3- l.length));rw[show K* d^ l.length* d^ (3- l.length)=K* d^ 3 by grind] at j;exact j.mono (by omega)
 have m0:∀p∈mvK a k,∃q∈k,p=(cb [a,1] q.1,cb [a,1] q.2):=fun p hp=>by
  obtain⟨q,c,e⟩:=List.mem_map.1 hp;grind
 refine⟨KA* d^ 3,KB* d^ 3,⟨fun p hp=>?_,fun p hp=>?_,fun p hp=>?_⟩,fun g=>(Rat.mul_eq_zero.1 g).elim A0 (pow_nz' d0 3),fun g=>(Rat.mul_eq_zero.1 g).elim B0 (pow_nz' d0 3),(IA.mul hp).mono (by omega),(IBB.mul hp).mono (by omega)⟩;obtain⟨q,c,rfl⟩:=m0 p hp;obtain⟨t,r⟩:=hk.len q c;have s:=kf a q.1;have u:=kf a q.2;exact⟨by grind,by grind⟩;obtain⟨q,c,rfl⟩:=m0 p hp;exact f _ _ A0 IA (hk.a q c) (hk.len q c).1;obtain⟨q,c,rfl⟩:=m0 p hp;exact f _ _ B0 IBB (hk.b q c) (hk.len q c).2


end Go.Abs
