/- Part V16 of the proof. -/
import Derived.Test.YtdgbhlkabelmbaaGreatDoorV15
set_option linter.all false
namespace Go.Abs
theorem HS.take{p:List Rat}{K:Rat}{h:Nat}(H:HS p K h)(n:Nat):HS (p.take n) K h:=⟨H.ne,H.sc,fun i=>by
 rw[AC];split;exact H.co i;exact(IB.zero h).eq (by grind)⟩
theorem Ai{f:List Rat×List Rat→List Rat}{m:Nat}:∀k:Ke,(∀p∈k,(f p).length≤m)→(k.flatMap f).length≤m* k.length
 |[],_=>by simp
 |p::k,h=>by
  have h1:=h p (List.mem_cons_self ..);have b:=Ai k fun q a=>h q (List.mem_cons_of_mem _ a);rw[List.flatMap_cons,List.length_append,List.length_cons,Nat.mul_succ];omega
theorem Eu{f:List Rat×List Rat→List Rat}{k:Ke}(hl:k.length≤3)(h4:∀p∈k,(f p).length≤4)(hb:∀p∈k,bdL (f p) 20):∃K,K≠0∧IB K 241∧∀p∈k,HS (f p) K 241:=by
 obtain⟨K,H⟩:=yJ (s:=20) (k.flatMap f) fun q a=>by
  obtain⟨p,hp,a⟩:=List.mem_flatMap.1 a;exact hb p hp q a
 have c:=Ai k h4;have H:=H.mono (show _≤241 by omega);refine⟨K,H.ne,H.sc,fun p hp=>⟨H.ne,H.sc,fun i=>?_⟩⟩;by_cases hi:i< (f p).length
 have b:coP (f p) i∈k.flatMap f:=List.mem_flatMap.2 ⟨p,hp,by
  unfold coP;grind⟩
 obtain⟨j,_,e⟩:=sR b;rw[←e];exact H.co j;rw[fO (by omega)];exact(IB.zero _).eq (by grind)
theorem IH{k:Ke}(hl:k.length≤3)(h4:∀p∈k,p.1.length≤4∧p.2.length≤4)(hb:∀p∈k,bdL p.1 20∧bdL p.2 20):∃KA KB,KHS k KA KB 241∧KA≠0∧KB≠0∧IB KA 241∧IB KB 241:=by
 obtain⟨KA,c,a,b⟩:=Eu (f:=fun p=>p.1) hl (fun p hp=>(h4 p hp).1) fun p hp=>(hb p hp).1;obtain⟨KB,b1,b2,d⟩:=Eu (f:=fun p=>p.2) hl (fun p hp=>(h4 p hp).2) fun p hp=>(hb p hp).2;exact⟨KA,KB,⟨h4,b,d⟩,c,b1,a,b2⟩
theorem FD{k:Ke}{a d KA KB:Rat}{h:Nat}(hk:KHS k KA KB h)(A0:KA≠0)(B0:KB≠0)(IA:IB KA h)(IBB:IB KB h)(d0:d≠0)(hd:IB d 20)(ha:IB (a* d) 20):∃KA' KB',KHS (mvK a k) KA' KB' (h+70)∧KA'≠0∧KB'≠0∧IB KA' (h+70)∧IB KB' (h+70):=by
 have hp:=ld hd 3
 have f:∀(l:List Rat) (K:Rat),K≠0→IB K h→HS l K h→l.length≤4→HS (ce [a,1] l) (K* d^ 3) (h+70):=fun l K n m H o=>by
  cases l with
  |nil=>exact⟨fun g=>(Rat.mul_eq_zero.1 g).elim n (pow_nz' d0 3),(m.mul hp).mono (by omega),fun i=>(IB.zero _).eq (by show 0=(0:Rat) * _;grind)⟩
  |cons b l=>
   rw[List.length_cons] at o;have h1:=ve d0 hd ha l b H;have e0:d^ l.length* d^ (3- l.length)=d^ 3:=by rw[←rH,show l.length+(3- l.length)=3 by omega]
   have j:=h1.rescale (pow_nz' d0 (3- l.length)) (ld hd (3- l.length));rw[show K* d^ l.length* d^ (3- l.length)=K* d^ 3 by grind] at j;exact j.mono (by omega)
 have m0:∀p∈mvK a k,∃q∈k,p=(ce [a,1] q.1,ce [a,1] q.2):=fun p hp=>by
  obtain⟨q,c,e⟩:=List.mem_map.1 hp;grind
 refine⟨KA* d^ 3,KB* d^ 3,⟨fun p hp=>?_,fun p hp=>?_,fun p hp=>?_⟩,fun g=>(Rat.mul_eq_zero.1 g).elim A0 (pow_nz' d0 3),fun g=>(Rat.mul_eq_zero.1 g).elim B0 (pow_nz' d0 3),(IA.mul hp).mono (by omega),(IBB.mul hp).mono (by omega)⟩;obtain⟨q,c,rfl⟩:=m0 p hp;obtain⟨r,t⟩:=hk.len q c;have s:=jP a q.1;have u:=jP a q.2;exact⟨by grind,by grind⟩;obtain⟨q,c,rfl⟩:=m0 p hp;exact f _ _ A0 IA (hk.a q c) (hk.len q c).1;obtain⟨q,c,rfl⟩:=m0 p hp;exact f _ _ B0 IBB (hk.b q c) (hk.len q c).2




section
variable {T:List Rat}{n:Nat}(hn:1≤n∧n≤5)(hl:T.length=n+1)(ht:aq T=T)(hm:aS T=1)(hb:bdL T 20)
include hn hl ht hm hb
end
theorem vE(n:Nat)(f:Nat→Rat):aO (n+1) f=aO n f++[f n]:=by simp[aO,List.range_succ]
theorem bv{k t:Nat}{x:Option ABlk}{l:Hp}(h:k≠t):an ((k,x)::l) t=an l t:=by
 rw[cX];unfold upd;grind
def fiL(A:Nat→Nat→Rat)(n i:Nat):List (List (List AV)):=(List.range i).map fun k=>pE (aO n (A k))
@[simp] theorem jM (A:Nat→Nat→Rat)(n i:Nat):(fiL A n i).length=i:=by simp[fiL]
theorem fi{A:Nat→Nat→Rat}{n i k:Nat}(h:k< i):(fiL A n i)[k]?=some (pE (aO n (A k))):=by simp[fiL,h]
theorem HU(A:Nat→Nat→Rat)(n i:Nat):fiL A n i++[pE (aO n (A i))]=fiL A n (i+1):=by simp[fiL,List.range_succ]
theorem mq{A:Nat→Nat→Rat}{n i k:Nat}{e:List (List AV)}(h:(fiL A n i)[k]?=some e):k< i∧e=pE (aO n (A k)):=by
 have h1:=(List.getElem?_eq_some_iff.1 h).1;rw[jM] at h1;rw[fi h1] at h;grind
def foE(w:Nat→Nat)(s:Nat→Nat)(n m:Nat):List (List AV):=mzO 3 w s m++List.replicate (n- m) [.emp]
theorem iy{w:Nat→Nat}{s:Nat→Nat}{n m:Nat}(h:m≤n):(foE w s n m).length=n:=by simp[foE];omega
theorem foE_0(w:Nat→Nat)(s:Nat→Nat)(n:Nat):foE w s n 0=List.replicate n [.emp]:=rfl
theorem yb{w:Nat→Nat}{s:Nat→Nat}{n m k:Nat}(h:k< m):(foE w s n m)[k]?=some [.lsl (s (k+2)) 0 (w k) none 3]:=by
 unfold foE;rw[List.getElem?_append_left (by simp_all)];exact xD h
theorem Cy{w:Nat→Nat}{s:Nat→Nat}{n m k:Nat}(h:m≤k)(hk:k< n):(foE w s n m)[k]?=some [.emp]:=by
 unfold foE;rw[List.getElem?_append_right (by simp_all),List.getElem?_replicate,if_pos (by simp only[nN];omega)]
theorem D5{w:Nat→Nat}{s:Nat→Nat}{n m k:Nat}(hm:m≤n)(hk:n≤k):(foE w s n m)[k]?=none:=by
 rw[List.getElem?_eq_none];rw[iy hm];grind
theorem foE_n(w:Nat→Nat)(s:Nat→Nat)(n:Nat):foE w s n n=mzO 3 w s n:=by simp[foE]
theorem Fp{w w':Nat→Nat}{s s':Nat→Nat}{n m:Nat}(h:∀k,k< m→w k=w' k∧s (k+2)=s' (k+2)):foE w s n m=foE w' s' n m:=by
 unfold foE mzO;simp_all
theorem D4{w w':Nat→Nat}{s s':Nat→Nat}{n m i:Nat}(hm:m=i∨m=i+1)(hi:i< n)(h:∀k,k< i→w k=w' k∧s (k+2)=s' (k+2)):∀e:Nat,e=i→(foE w s n m).set e [.lsl (s' (i+2)) 0 (w' i) none 3]=foE w' s' n (i+1):=by
 rintro e rfl;refine List.ext_getElem? fun k=>?_;have a:m≤n:=by omega
 rw[List.getElem?_set,iy a];split
 ·rw[yb (by omega)]
  try grind
 ·by_cases hk:k< e
  rw[yb (by omega),yb (by omega),(h k hk).1,(h k hk).2];by_cases hkn:k< n;rw[Cy (by omega) hkn,Cy (by omega) hkn];rw[D5 a (by omega),D5 (by omega) (by omega)]
theorem A8{r:Ren}{hp hp':Nat→Option ABlk}:∀{a b c d:List (List AV)},CvLL r hp hp' a b→CvLL r hp hp' c d→CvLL r hp hp' (a++c) (b++d)
 |[],_,_,_,h,h2=>by cases (h:_=[]);grind
 |x::xs,_,_,_,⟨y,ys,e,h1,h3⟩,h2=>by subst e;exact⟨y,_,rfl,h1,A8 h3 h2⟩
theorem k6{hp hp':Nat→Option ABlk}{s w:Nat→Nat}{n m:Nat}(h:Shr ⟨40,s⟩ hp hp')(hm:m≤30)(hl:∀i,i< m→(hp' (i+2)).isSome=true):CvLL ⟨40,s⟩ hp hp' (foE w s n m) (foE w (fun i=>i) n m):=
 A8 (qj hm hl) (a8 h fun e a c hc=>by
  rw[(List.mem_replicate.1 a).2,List.mem_singleton] at hc;rw[hc];exact c5)
def fiR(i new x:Nat):Nat:=cond (Nat.beq x (i+2)) new x
theorem iI{i new k:Nat}(h:k≠i):fiR i new (k+2)=k+2:=by
 unfold fiR;rw[show Nat.beq (k+2) (i+2)=false by cases hb:Nat.beq (k+2) (i+2) with|false=>rfl|true=>simp_all];rfl
theorem na(i new:Nat):fiR i new (i+2)=new:=by unfold fiR;simp
theorem An(i new:Nat):fiR i new 1=1:=by
 unfold fiR;rfl
theorem Ao(i new:Nat):fiR i new 0=0:=by
 unfold fiR;rfl
theorem pR{i new m:Nat}(hm:m≤40)(hn:40≤new)(x y:Nat)(hx:x< m)(hy:y< m)(h:fiR i new x=fiR i new y):x=y:=by
 unfold fiR at h;cases h1:Nat.beq x (i+2)<;> cases h2:Nat.beq y (i+2)<;> rw[h1,h2] at h <;> simp only[cond_true,cond_false] at h;exact h;omega;omega;simp_all
def wJ(n i j k:Nat):Nat:=cond (Nat.blt k i) n j
theorem FI{n i j k:Nat}(h:k< i):wJ n i j k=n:=by unfold wJ;rw[show Nat.blt k i=true from Nat.ble_eq_true_of_le h];rfl
theorem yN{n i j:Nat}:wJ n i j i=j:=by
 unfold wJ;rw[show Nat.blt i i=false by cases hb:Nat.blt i i with|false=>rfl|true=>simp_all];rfl
theorem fi_set{n i j new:Nat}(hi:i< n):∀e:Nat,e=i→(foE (wJ n i (j+1)) (fun x=>x) n (i+1)).set e [.lsl new 0 (j+1+1) none 3]=foE (wJ n i (j+1+1)) (fiR i new) n (i+1):=fun e b=>by
 have:=D4 (w:=wJ n i (j+1)) (w':=wJ n i (j+1+1)) (s:=fun x=>x) (s':=fiR i new) (n:=n) (m:=i+1) (i:=i) (.inr rfl) hi (fun k a=>⟨by rw[FI a,FI a],(iI (by omega)).symm⟩) e b;rw[na,yN] at this;grind
theorem fi_set0{n i new:Nat}(hi:i< n):∀e:Nat,e=i→(foE (fun _=>n) (fun x=>x) n i).set e [.lsl new 0 (0+1) none 3]=foE (wJ n i (0+1)) (fiR i new) n (i+1):=fun e b=>by
 have:=D4 (w:=fun _=>n) (w':=wJ n i (0+1)) (s:=fun x=>x) (s':=fiR i new) (n:=n) (m:=i) (i:=i) (.inl rfl) hi (fun k a=>⟨by rw[FI a],(iI (by omega)).symm⟩) e b;rw[na,yN] at this;grind
theorem foE_ge'{w:Nat→Nat}{s:Nat→Nat}{n m k:Nat}(h:m≤k)(hk:k< n):∀e,e=k→(foE w s n m)[e]?=some [.emp]:=fun e a=>by rw[a];exact Cy h hk
theorem foE_lt'{w:Nat→Nat}{s:Nat→Nat}{n m k j:Nat}(h:k< m)(hj:w k=j):∀e,e=k→(foE w s n m)[e]?=some [.lsl (s (k+2)) 0 j none 3]:=fun e a=>by rw[a,←hj];exact yb h
theorem pS{A:Nat→Nat→Rat}{n i:Nat}{x:List (List AV)}:(fiL A n i++[x])[i]?=some x:=by simp
theorem qU{A:Nat→Nat→Rat}{n i k:Nat}{x:List (List AV)}(h:k< i):(fiL A n i++[x])[k]?=some (pE (aO n (A k))):=by
 rw[List.getElem?_append_left (by simp_all)];exact fi h
theorem Cz{A:Nat→Nat→Rat}{n i k:Nat}{x e:List (List AV)}(h:(fiL A n i++[x])[k]?=some e):(k< i∧e=pE (aO n (A k)))∨(k=i∧e=x):=by
 have h1:=(List.getElem?_eq_some_iff.1 h).1;rw[List.length_append,jM,List.length_singleton] at h1;by_cases hk:k< i;rw[qU hk] at h;cases h;exact .inl ⟨hk,rfl⟩;obtain rfl:k=i:=by omega
 simp_all
def rwL(R:Nat→List Rat)(n:Nat):List (List (List AV)):=(List.range n).map fun k=>pE (R k)
@[simp] theorem nK (R:Nat→List Rat)(n:Nat):(rwL R n).length=n:=by simp[rwL]
theorem Dl{R:Nat→List Rat}{n k:Nat}(h:k< n):(rwL R n)[k]?=some (pE (R k)):=by simp[rwL,h]
theorem Bz{R:Nat→List Rat}{n k:Nat}{e:List (List AV)}(h:(rwL R n)[k]?=some e):k< n∧e=pE (R k):=by
 have h1:=(List.getElem?_eq_some_iff.1 h).1;rw[nK] at h1;rw[Dl h1] at h;grind
theorem fiL_rwL(A:Nat→Nat→Rat)(n i:Nat):fiL A n i=rwL (fun k=>aO n (A k)) i:=rfl
def rwO(R:Nat→List Rat)(s:Nat→Nat)(n:Nat):List (List AV):=mzO 3 (fun k=>(R k).length) s n
@[simp] theorem nJ (R:Nat→List Rat)(s:Nat→Nat)(n:Nat):(rwO R s n).length=n:=nN _ _ _ _
theorem dQ{R:Nat→List Rat}{s:Nat→Nat}{n k:Nat}(h:k< n):∀e,e=k→(rwO R s n)[e]?=some [.lsl (s (k+2)) 0 (R k).length none 3]:=fun e a=>by rw[a];exact xD h
theorem rwO_out{R:Nat→List Rat}{s:Nat→Nat}{n k:Nat}(h:n≤k):(rwO R s n)[k]?=none:=by simp_all
theorem fK{R R':Nat→List Rat}{s s':Nat→Nat}{n:Nat}(h:∀k,k< n→(R k).length=(R' k).length∧s (k+2)=s' (k+2)):rwO R s n=rwO R' s' n:=by
 refine List.ext_getElem? fun k=>?_;by_cases hk:k< n;rw[dQ hk k rfl,dQ hk k rfl,(h k hk).1,(h k hk).2];simp_all
def rwH(TS TQ:Nat)(R:Nat→List Rat)(n:Nat)(ex:Hp):Hp:=mzX 3 TS TQ (rwO R (fun x=>x) n) (rwL R n) ex
section
variable {fr fr':Fr}{hp ex:Hp}{nx N TS TQ n k:Nat}{R R':Nat→List Rat}
theorem dt(hid:∀p∈ex,35≤p.1∧p.1< 40)(hn:n≤30)(h:k< n):an (rwH TS TQ R n ex) (k+2)=some ⟨TQ,3,pE (R k)⟩:=mzX_row hid (by omega) (Dl h)
theorem jz(hid:∀p∈ex,35≤p.1∧p.1< 40)(hn:n≤30)(h:k< n):dB (an (rwH TS TQ R n ex)) (k+2)=some ⟨TQ,3,pE (R k)⟩:=dP (dt hid hn h) (show(3:Nat)≠0 by decide)
theorem cf(hid:∀p∈ex,35≤p.1∧p.1< 40):an (rwH TS TQ R n ex) 1=some ⟨TS,1,rwO R (fun x=>x) n⟩:=mzX_out hid
theorem SEntT.rw (s:Nat→Nat) (hn:n≤30) (s0:s 0=0) (hinj:∀i j,InX n i→InX n j→s i=s j→i=j) (h1:an hp (s 1)=some ⟨TS,1,rwO R s n⟩) (hr:∀i,i< n→an hp (s (i+2))=some ⟨TQ,3,pE (R i)⟩) (hid:∀p∈ex,35≤p.1∧p.1< 40)
    (hex:∀i B,(i,some B)∈ex→∃B0,an hp (s i)=some B0∧B0.ty=B.ty∧B0.sz=B.sz∧B0.es.length=B.es.length)
    (hE:Shr ⟨40,s⟩ (an hp) (an (rwH TS TQ R n ex))→∀i B B0,(i,some B)∈ex→an hp (s i)=some B0→CvLL ⟨40,s⟩ (an hp) (an (rwH TS TQ R n ex)) B0.es B.es)
    (hF:Shr ⟨40,s⟩ (an hp) (an (rwH TS TQ R n ex))→CvF ⟨40,s⟩ (an hp) (an (rwH TS TQ R n ex)) fr fr'):SEntT ⟨fr,hp,nx,N⟩ ⟨fr',rwH TS TQ R n ex,40,N⟩:=
 SEntT.mzx s (by simp_all) s0 (by rw[nK];grind) h1 (by simp) (fun i e h=>by
  obtain⟨a,rfl⟩:=Bz h;exact⟨hr i a,aJ _⟩) hid hex (fun _=>qj hn fun i b=>by
  show(an (rwH TS TQ R n ex) (i+2)).isSome=true;rw[dt hid hn b];rfl) hE hF
end
def upR(R:Nat→List Rat)(k:Nat)(r:List Rat):Nat→List Rat:=fun i=>if i=k then r else R i
theorem eg(R:Nat→List Rat)(k:Nat)(r:List Rat):upR R k r k=r:=if_pos rfl
theorem j9(R:Nat→List Rat){k i:Nat}(r:List Rat)(h:i≠k):upR R k r i=R i:=if_neg h
theorem Gd{R:Nat→List Rat}{n k new m:Nat}{r:List Rat}(hk:k< n)(hm:m=r.length):∀e:Nat,e=k→(rwO R (fun x=>x) n).set e [.lsl new 0 m none 3]=rwO (upR R k r) (fiR k new) n:=fun e a=>by
 subst a hm;refine List.ext_getElem? fun i=>?_;rw[List.getElem?_set,nJ];split
 ·rename_i h;subst h
  rw[dQ hk e rfl,eg,na]
 ·rename_i h
  by_cases hi:i< n;rw[dQ hi i rfl,dQ hi i rfl,j9 _ _ (fun e=>h e.symm),iI (fun e=>h e.symm)];simp_all
def swx(a b x:Nat):Nat:=if x=a then b else if x=b then a else x
theorem swx_a(a b:Nat):swx a b a=b:=if_pos rfl
theorem swx_b(a b:Nat):swx a b b=a:=by unfold swx;grind
theorem nF{a b x:Nat}(h1:x≠a)(h2:x≠b):swx a b x=x:=by unfold swx;grind
theorem swx_inj{a b x y:Nat}(h:swx a b x=swx a b y):x=y:=by unfold swx at h;grind
theorem Gc{R:Nat→List Rat}{n k p:Nat}(hk:k< n)(hp:p< n):∀a b:Nat,a=p→b=k→((rwO R (fun x=>x) n).set a [.lsl (k+2) 0 (R k).length none 3]).set b [.lsl (p+2) 0 (R p).length none 3]=rwO (fun i=>R (swx k p i)) (swx (k+2) (p+2)) n:=fun a b ha hb=>by
 subst ha hb;refine List.ext_getElem? fun i=>?_;rw[List.getElem?_set,List.length_set,List.getElem?_set,nJ];by_cases hi:i< n;rw[dQ (R:=fun i=>R (swx b a i)) hi i rfl];by_cases h1:b=i;subst h1;rw[swx_a,swx_a]
 try grind
 rw[if_neg h1];by_cases h2:a=i;subst h2;rw[swx_b,swx_b]
 try grind
 rw[if_neg h2,dQ hi i rfl,nF (fun e=>h1 e.symm) (fun e=>h2 e.symm),nF (by omega) (by omega)];have h1:b≠i:=by omega
 simp_all
def sQ(f:Nat→Rat):Nat→Rat
 |0=>0
 |n+1=>sQ f n+f n
theorem b4{f g:Nat→Rat}:∀n,(∀j,j< n→f j=g j)→sQ f n=sQ g n
 |0,_=>rfl
 |n+1,h=>by rw[sQ,sQ,b4 n fun j a=>h j (by omega),h n (by omega)]
theorem jX(f g:Nat→Rat)(u:Rat):∀n,sQ (fun j=>f j- u* g j) n=sQ f n- u* sQ g n
 |0=>by rw[sQ,sQ,sQ];grind
 |n+1=>by rw[sQ,sQ,sQ,jX f g u n];grind
theorem Gb(f g:Nat→Rat):∀n,sQ (fun j=>f j+g j) n=sQ f n+sQ g n
 |0=>by rw[sQ,sQ,sQ];grind
 |n+1=>by rw[sQ,sQ,sQ,Gb f g n];grind
theorem jy(i:Nat)(a:Rat):∀n,sQ (fun j=>if j=i then a else 0) n=if i< n then a else 0
 |0=>by rw[sQ,if_neg (by omega)]
 |n+1=>by
  rw[sQ,jy i a n];grind
abbrev Mx:=Nat→Nat→Rat
def Sol(c:Rat)(M:Mx)(n:Nat)(x:Nat→Rat):Prop:=∀i,i< n→sQ (fun j=>M i j* x j) n=c* M i n
def swM(M:Mx)(k p:Nat):Mx:=fun i j=>if i=k then M p j else if i=p then M k j else M i j
theorem F5{c:Rat}{M:Mx}{n k p:Nat}{x:Nat→Rat}(hk:k< n)(hp:p< n)(h:Sol c (swM M k p) n x):Sol c M n x:=fun i a=>by
 by_cases e1:i=k;subst e1;by_cases e2:p=i;have:=h i a;unfold swM at this;simp only[e2] at this;exact this;have:=h p hp;unfold swM at this;simp only[if_neg e2] at this;exact this;by_cases e2:i=p;subst e2;have:=h k hk;unfold swM at this;simp only[if_pos rfl] at this;exact this;have:=h i a;unfold swM at this;grind
def bdM(M:Mx)(n s:Nat):Prop:=∀i j,i< n→j≤n→qs (M i j)≤s
theorem bd_sw{M:Mx}{n k p s:Nat}(h:bdM M n s)(hk:k< n)(hp:p< n):bdM (swM M k p) n s:=fun i j b a=>by
 unfold swM;split;exact h p j hp a;split;exact h k j hk a;exact h i j b a
def scM(M:Mx)(r:Nat)(f:Rat):Mx:=fun i j=>if i=r then M i j* f else M i j
def rdM(M:Mx)(r k:Nat):Mx:=fun i j=>if i=r then M i j else M i j- M i k* M r j
theorem xd(f:Nat→Rat)(u:Rat):∀n,sQ (fun j=>f j* u) n=sQ f n* u
 |0=>by rw[sQ,sQ];grind
 |n+1=>by rw[sQ,sQ,xd f u n];grind
theorem sol_sw2{c:Rat}{M:Mx}{n k p:Nat}{x:Nat→Rat}(hk:k< n)(hp:p< n):Sol c (swM M k p) n x↔Sol c M n x:=by
 refine⟨F5 hk hp,fun h=>?_⟩;refine F5 (k:=k) (p:=p) hk hp fun i a=>?_
 have e:∀j,swM (swM M k p) k p i j=M i j:=fun j=>by
  unfold swM;by_cases h1:i=k;subst h1;by_cases h2:p=i;subst h2;simp;simp[h2];by_cases h2:i=p;subst h2;simp[h1];simp[h1,h2]
 rw[e,b4 (g:=fun j=>M i j* x j) n fun j _=>by rw[e]];exact h i a
theorem sol_sc{c f:Rat}{M:Mx}{n r:Nat}{x:Nat→Rat}(hf:f≠0):Sol c (scM M r f) n x↔Sol c M n x:=by
 have a:∀i,(sQ (fun j=>scM M r f i j* x j) n=c* scM M r f i n)↔(sQ (fun j=>M i j* x j) n=c* M i n):=fun i=>by
  unfold scM;by_cases e:i=r;simp only[if_pos e];rw[b4 (g:=fun j=>M i j* x j* f) n fun j _=>by grind,xd];generalize sQ (fun j=>M i j* x j) n=s;constructor;intro h;have d:f* (s- c* M i n)=0:=by grind
  rcases Rat.mul_eq_zero.1 d with g|g
  exact absurd g hf;grind;intro h;rw[h];grind;simp only[if_neg e]
 exact⟨fun h i b=>(a i).1 (h i b),fun h i b=>(a i).2 (h i b)⟩
theorem sol_rd{c:Rat}{M:Mx}{n r k:Nat}{x:Nat→Rat}(hr:r< n):Sol c (rdM M r k) n x↔Sol c M n x:=by
 have e0:∀j,rdM M r k r j=M r j:=fun j=>if_pos rfl;have e1:∀i j,i≠r→rdM M r k i j=M i j- M i k* M r j:=fun i j h=>if_neg h
 have s1:∀i,i≠r→sQ (fun j=>rdM M r k i j* x j) n=sQ (fun j=>M i j* x j) n- M i k* sQ (fun j=>M r j* x j) n:=fun i h=>by
  rw[←jX];exact b4 n fun j _=>by rw[e1 i j h];grind
 have d:sQ (fun j=>rdM M r k r j* x j) n=sQ (fun j=>M r j* x j) n:=b4 n fun j _=>by rw[e0]
 constructor;intro h i b;have a:=h r hr;rw[d,e0] at a;by_cases e:i=r;rw[e];exact a;have h1:=h i b;rw[s1 i e,e1 i n e,a] at h1;grind;intro h i b;have a:=h r hr;by_cases e:i=r;rw[e,d,e0];exact a;rw[s1 i e,e1 i n e,a,h i b];grind
def pvR(M:Mx)(n r c:Nat):Option Nat:=(List.range n).find? fun p=>decide (r≤p∧M p c≠0)
theorem lT{M:Mx}{n r c p:Nat}(h:pvR M n r c=some p):p< n∧r≤p∧M p c≠0:=by
 have h1:=List.find?_some h;have a:=List.mem_of_find?_eq_some h;grind
theorem ze{M:Mx}{n r c:Nat}(h:pvR M n r c=none):∀i,i< n→r≤i→M i c=0:=fun i a b=>by
 have h1:=List.find?_eq_none.1 h i (List.mem_range.2 a);grind
def slC(A:Mx)(n:Nat)(L:List Nat)(c:Nat):Mx×List Nat:=match pvR A n L.length c with
 |none=>(A,L)
 |some p=>(rdM (scM (swM A L.length p) L.length (1/ A p c)) L.length c,L++[c])
def slM(M:Mx)(n:Nat):Nat→Mx×List Nat
 |0=>(M,[])
 |c+1=>slC (slM M n c).1 n (slM M n c).2 c
structure Ech (A:Mx)(n c:Nat)(L:List Nat):Prop where
 len:L.length≤c
 len2:L.length≤n
 lt:∀(i l:Nat),L[i]?=some l→l< c
 inc:∀(i j l m:Nat),L[i]?=some l→L[j]?=some m→i< j→l< m
 one:∀(i l k:Nat),L[i]?=some l→k< n→A k l=if k=i then 1 else 0
 low:∀(i l j:Nat),L[i]?=some l→j< l→A i j=0
 rest:∀i j,L.length≤i→i< n→j< c→A i j=0
theorem Ech.step{A:Mx}{n c:Nat}{L:List Nat}(h:Ech A n c L):Ech (slC A n L c).1 n (c+1) (slC A n L c).2:=by
 unfold slC;cases e:pvR A n L.length c with
 |none=>
  show Ech A n (c+1) L;refine⟨by have:=h.len;omega,h.len2,fun i l b=>by have:=h.lt i l b;omega,h.inc,h.one,h.low,fun i j h1 x t=>?_⟩;by_cases e2:j=c;rw[e2];exact ze e i x h1;exact h.rest i j h1 x (by omega)
 |some p=>
  obtain⟨p1,p2,J⟩:=lT e;show Ech (rdM (scM (swM A L.length p) L.length (1/ A p c)) L.length c) n (c+1) (L++[c]);have H:L.length< n:=by omega
  have K:∀i l,L[i]?=some l→i< L.length:=fun i l b=>(List.getElem?_eq_some_iff.1 b).1
  -- the rows after the exchange
  have u:∀i j,i< L.length→swM A L.length p i j=A i j:=fun i j Q=>by unfold swM;rw[if_neg (by omega),if_neg (by omega)]
  have D:∀j,swM A L.length p L.length j=A p j:=fun j=>by unfold swM;rw[if_pos rfl]
  have w:∀i j,L.length≤i→i< n→j< c→swM A L.length p i j=0:=fun i j h1 x t=>by
   unfold swM;split;exact h.rest p j p2 p1 t;split;exact h.rest _ j (Nat.le_refl _) H t;exact h.rest i j h1 x t
  have F:∀i l k,L[i]?=some l→k< n→swM A L.length p k l=if k=i then 1 else 0:=fun i l k b y=>by
   by_cases g:k< L.length;rw[u k l g];exact h.one i l k b y;have:=K i l b;rw[w k l (by omega) y (h.lt i l b),if_neg (by omega)]
  generalize hB:swM A L.length p=B at *
  have s:∀i j,i≠L.length→scM B L.length (1/ A p c) i j=B i j:=fun i j g=>if_neg g;have v:∀j,scM B L.length (1/ A p c) L.length j=B L.length j* (1/ A p c):=fun j=>if_pos rfl
  have f:scM B L.length (1/ A p c) L.length c=1:=by
   rw[v,D];have:=Rat.div_mul_cancel (a:=1) J;grind
  have d:∀j,j< c→scM B L.length (1/ A p c) L.length j=0:=fun j z=>by rw[v,w _ j (Nat.le_refl _) H z];grind
  generalize O:scM B L.length (1/ A p c)=C at *
  have q:∀j,rdM C L.length c L.length j=C L.length j:=fun j=>if_pos rfl;have r:∀i j,i≠L.length→rdM C L.length c i j=C i j- C i c* C L.length j:=fun i j g=>if_neg g
  have snoc:∀i l,(L++[c])[i]?=some l→(i< L.length∧L[i]?=some l)∨(i=L.length∧l=c):=fun i l b=>by
   rw[List.getElem?_append] at b;split at b
   ·rename_i g;exact .inl ⟨g,b⟩
   ·rename_i g
    have:i- L.length=0:=by
     have:=(List.getElem?_eq_some_iff.1 b).1;simp at this;omega
    rw[this] at b;cases b;exact .inr ⟨by omega,rfl⟩
  refine⟨by have:=h.len;simp;omega,by simp;omega,fun i l b=>?_,fun i j l m b N E=>?_,fun i l k b y=>?_,fun i l j b z=>?_,fun i j h1 x t=>?_⟩;rcases snoc i l b with⟨_,g⟩|⟨_,g⟩
  have:=h.lt i l g;omega;omega;rcases snoc i l b with⟨o,g⟩|⟨o,g⟩<;> rcases snoc j m N with⟨b1,G⟩|⟨b1,G⟩
  exact h.inc i j l m g G E;rw[G];exact h.lt i l g;omega;omega;rcases snoc i l b with⟨o,g⟩|⟨o,g⟩
  by_cases e1:k=L.length;subst e1;rw[q,d l (h.lt i l g),if_neg (by omega)];rw[r k l e1,s k l e1,F i l k g y,d l (h.lt i l g)];grind;subst o g;by_cases e1:k=L.length;rw[if_pos e1,e1,q,f];rw[if_neg e1,r k l e1,f];grind;rcases snoc i l b with⟨o,g⟩|⟨o,g⟩
  have M:=h.lt i l g;rw[r i j (by omega),s i j (by omega),u i j o,h.low i l j g z,d j (by omega)];grind;subst o g;rw[q,d j z];grind
theorem slC_sol{c0:Rat}{A:Mx}{n c:Nat}{L:List Nat}{x:Nat→Rat}:Sol c0 (slC A n L c).1 n x↔Sol c0 A n x:=by
 unfold slC;cases e:pvR A n L.length c with
 |none=>exact Iff.rfl
 |some p=>
  obtain⟨p1,p2,b⟩:=lT e
  have hf:1/ A p c≠0:=fun g=>by
   have:=Rat.div_mul_cancel (a:=1) b;rw[g] at this;grind
  exact(sol_rd (by omega)).trans ((sol_sc hf).trans (sol_sw2 (by omega) p1))
theorem dY(M:Mx)(n:Nat):∀c,Ech (slM M n c).1 n c (slM M n c).2
 |0=>⟨Nat.le_refl _,Nat.zero_le _,fun i l h=>by simp[slM] at h,fun i j l m h=>by simp[slM] at h,fun i l k h=>by simp[slM] at h,fun i l j h=>by simp[slM] at h,fun i j _ _ h=>by omega⟩
 |c+1=>(dY M n c).step
theorem mK{c0:Rat}{M:Mx}{n:Nat}{x:Nat→Rat}:∀c,Sol c0 (slM M n c).1 n x↔Sol c0 M n x
 |0=>Iff.rfl
 |c+1=>slC_sol.trans (mK c)
theorem Ech.row{A:Mx}{n:Nat}{L:List Nat}(h:Ech A n n L){x:Nat→Rat}(hx:∀j,j< n→j∉L→x j=0){i l:Nat}(hl:L[i]?=some l):sQ (fun j=>A i j* x j) n=x l:=by
 have c:i< n:=Nat.lt_of_lt_of_le (List.getElem?_eq_some_iff.1 hl).1 h.len2;have a:=h.lt i l hl;rw[b4 (g:=fun j=>if j=l then x l else 0) n fun j d=>?_,jy,if_pos a];by_cases e:j=l;rw[if_pos e,e,h.one i l i hl c,if_pos rfl];grind;rw[if_neg e];by_cases g:j∈L;obtain⟨k,b⟩:=List.getElem?_of_mem g;rw[h.one k j i b c,if_neg (fun f=>e (by rw[f,b] at hl;cases hl;rfl))];grind;rw[hx j d g];grind
def oneX(A:Mx)(n:Nat)(L:List Nat)(j:Nat):Rat:=if L.contains j then A (L.idxOf j) n else 0
theorem Ech.idx{A:Mx}{n c:Nat}{L:List Nat}(h:Ech A n c L){i l:Nat}(hl:L[i]?=some l):L.idxOf l=i:=by
 have b:=List.mem_of_getElem? hl;have a:L[L.idxOf l]?=some l:=by grind
 by_cases e1:L.idxOf l< i;have:=h.inc _ _ _ _ a hl e1;omega;by_cases e2:i< L.idxOf l;have:=h.inc _ _ _ _ hl a e2;omega;omega
theorem Ech.oneX{A:Mx}{n:Nat}{L:List Nat}(h:Ech A n n L)(h0:∀i,L.length≤i→i< n→A i n=0):Sol 1 A n (Abs.oneX A n L):=fun i b=>by
 have c:∀j,j< n→j∉L→Abs.oneX A n L j=0:=fun j _ g=>by unfold Abs.oneX;rw[if_neg (by simpa using g)]
 by_cases g:i< L.length;have a:L[i]?=some L[i]:=List.getElem?_eq_getElem g;rw[h.row c a];unfold Abs.oneX;rw[if_pos (by simp),h.idx a];grind;rw[h0 i (by omega) b,b4 (g:=fun j=>if j=n then 0 else 0) n fun j d=>by rw[h.rest i j (by omega) b d];grind,jy];split <;> grind
def zerX(A:Mx)(L:List Nat)(f j:Nat):Rat:=if L.contains j then -A (L.idxOf j) f else if j=f then 1 else 0
theorem Ech.zerX{A:Mx}{n:Nat}{L:List Nat}(h:Ech A n n L){f:Nat}(hf:f< n)(hfL:f∉L):Sol 0 A n (Abs.zerX A L f):=fun i c=>by
 -- split into the part on the leads and the free number
 have e1:∀j,j< n→A i j* Abs.zerX A L f j=A i j* (if L.contains j then -A (L.idxOf j) f else 0)+(if j=f then A i f else 0):=fun j b=>by
  unfold Abs.zerX;by_cases g:j∈L;rw[if_pos (by simpa using g),if_pos (by simpa using g),if_neg (fun(e:j=f)=>hfL (by rw[←e];exact g))];grind;rw[if_neg (show¬L.contains j=true by simpa using g),if_neg (show¬L.contains j=true by simpa using g)];by_cases e:j=f;rw[if_pos e,if_pos e,e];grind;rw[if_neg e,if_neg e];grind
 rw[b4 n e1,Gb,jy,if_pos hf]
 have d:∀j,j< n→j∉L→(fun j=>if L.contains j then -A (L.idxOf j) f else 0) j=(0:Rat):=fun j _ g=>by
  show(if L.contains j then _ else _)=_;rw[if_neg (by simpa using g)]
 by_cases g:i< L.length;have a:L[i]?=some L[i]:=List.getElem?_eq_getElem g;rw[h.row d a];show(if L.contains L[i]=true then -A (L.idxOf L[i]) f else 0)+A i f=_;rw[if_pos (by simp),h.idx a];grind;rw[b4 (g:=fun j=>if j=n then 0 else 0) n fun j b=>by rw[h.rest i j (by omega) c b];grind,jy,h.rest i f (by omega) c hf];split <;> grind
theorem Ech.uniq{A:Mx}{n:Nat}{L:List Nat}(h:Ech A n n L){x y:Nat→Rat}{c0:Rat}(hx:Sol c0 A n x)(hy:Sol c0 A n y)(hf:∀j,j< n→j∉L→x j=y j):∀j,j< n→x j=y j:=fun j b=>by
 by_cases g:j∈L;obtain⟨i,c⟩:=List.getElem?_of_mem g;have a:i< n:=Nat.lt_of_lt_of_le (List.getElem?_eq_some_iff.1 c).1 h.len2;have h1:=h.row (x:=fun j=>x j- y j) (fun j b g=>by show x j- y j=0;rw[hf j b g];grind) c;have d:=hx i a;have e:=hy i a;rw[b4 (g:=fun j=>A i j* x j- 1* (A i j* y j)) n fun j _=>by grind,jX,d,e] at h1;grind;exact hf j b g
def svM(A:Nat→Nat→Rat)(l:Rat)(b:Nat→Rat)(n i j:Nat):Rat:=if j=n then b i else if j=i then -(A i j* l)+1 else -(A i j* l)
def mxr(A:Nat→Nat→Rat)(l:Rat)(n i j:Nat):List Rat:=aO n fun t=>if t< j then -(A i t* l) else A i t
@[simp] theorem tZ (A:Nat→Nat→Rat)(l:Rat)(n i j:Nat):(mxr A l n i j).length=n:=by simp[mxr]
theorem mxr_0(A:Nat→Nat→Rat)(l:Rat)(n i:Nat):mxr A l n i 0=aO n (A i):=by unfold mxr;simp
theorem DH{A:Nat→Nat→Rat}{l:Rat}{n i j:Nat}(h:j< n):∀e,e=j→(pE (mxr A l n i j))[e]?=some (qC (A i j)):=fun e a=>by
 subst a;simp[pE,mxr,aO,h]
theorem mxr_set{A:Nat→Nat→Rat}{l:Rat}{n i j:Nat}(h:j< n):∀e,e=j→(pE (mxr A l n i j)).set e (qC (-(A i j* l)))=pE (mxr A l n i (j+1)):=fun e a=>by
 subst a;rw[iY];congr 1;refine List.ext_getElem? fun t=>?_;rw[List.getElem?_set];by_cases ht:t< n;by_cases h1:e=t;subst h1;simp[mxr,aO,ht];rw[if_neg h1];simp only[mxr,aO,List.getElem?_map,List.getElem?_range ht,Option.map_some];by_cases h2:t< e;rw[if_pos h2,if_pos (by omega)];rw[if_neg h2,if_neg (by omega)];simp_all
def dgr(A:Nat→Nat→Rat)(l:Rat)(n i:Nat):List Rat:=aO n fun t=>if t=i then -(A i t* l)+1 else -(A i t* l)
@[simp] theorem CL (A:Nat→Nat→Rat)(l:Rat)(n i:Nat):(dgr A l n i).length=n:=by simp[dgr]
theorem zy{A:Nat→Nat→Rat}{l:Rat}{n i:Nat}(h:i< n):∀e,e=i→(pE (mxr A l n i n))[e]?=some (qC (-(A i i* l))):=fun e a=>by
 subst a;simp[pE,mxr,aO,h]
theorem mxr_one{A:Nat→Nat→Rat}{l:Rat}{n i:Nat}(h:i< n):∀e,e=i→(pE (mxr A l n i n)).set e (qC (-(A i i* l)+1))=pE (dgr A l n i):=fun e a=>by
 subst a;rw[iY];congr 1;refine List.ext_getElem? fun t=>?_;rw[List.getElem?_set];by_cases ht:t< n;by_cases h1:e=t;subst h1;simp[dgr,aO,ht];rw[if_neg h1];simp only[mxr,dgr,aO,List.getElem?_map,List.getElem?_range ht,Option.map_some];rw[if_pos ht,if_neg fun b=>h1 b.symm];simp_all
theorem dgr_app{A:Nat→Nat→Rat}{l:Rat}{b:Nat→Rat}{n i:Nat}:dgr A l n i++[b i]=aO (n+1) (svM A l b n i):=by
 rw[vE];congr 1;refine List.map_congr_left fun t ht=>?_;have:=List.mem_range.1 ht;simp only[svM,if_neg (show¬t=n by omega)];unfold svM;grind
def ph1(A:Nat→Nat→Rat)(l:Rat)(b:Nat→Rat)(n i k:Nat):List Rat:=if k< i then aO (n+1) (svM A l b n k) else aO n (A k)
theorem ph1_0(A:Nat→Nat→Rat)(l:Rat)(b:Nat→Rat)(n:Nat):ph1 A l b n 0=fun k=>aO n (A k):=funext fun k=>if_neg (by omega)
theorem ph1_n{A:Nat→Nat→Rat}{l:Rat}{b:Nat→Rat}{n k:Nat}(h:k< n):ph1 A l b n n k=aO (n+1) (svM A l b n k):=if_pos h
theorem GD(A:Nat→Nat→Rat)(l:Rat)(b:Nat→Rat)(n i:Nat):ph1 A l b n i i=mxr A l n i 0:=by exact if_neg (by omega)
theorem upR_up(R:Nat→List Rat)(k:Nat)(r r':List Rat):upR (upR R k r) k r'=upR R k r':=funext fun i=>by unfold upR;grind
theorem upR_id(R:Nat→List Rat)(k:Nat):upR R k (R k)=R:=funext fun i=>by unfold upR;grind
theorem GC(A:Nat→Nat→Rat)(l:Rat)(b:Nat→Rat)(n i:Nat):upR (ph1 A l b n i) i (aO (n+1) (svM A l b n i))=ph1 A l b n (i+1):=funext fun k=>by
 unfold upR ph1;grind
def puM(X:Mx)(i j:Nat)(v:Rat):Mx:=fun k t=>if k=i∧t=j then v else X k t
theorem puM_ne{X:Mx}{i j k:Nat}{v:Rat}(h:k≠i):puM X i j v k=X k:=funext fun t=>if_neg fun e=>h e.1
theorem puM_set{X:Mx}{i j m:Nat}{v:Rat}(h:j< m):∀e:Nat,e=j→(pE (aO m (X i))).set e (qC v)=pE (aO m (puM X i j v i)):=fun e a=>by
 subst a;rw[iY];congr 1;refine List.ext_getElem? fun t=>?_;rw[List.getElem?_set];by_cases ht:t< m;by_cases h1:e=t;subst h1;simp[aO,ht,puM];rw[if_neg h1];simp[aO,ht,puM,show¬t=e from fun b=>h1 b.symm];simp_all
theorem dh{X:Nat→Rat}{j m:Nat}(h:j< m):∀e:Nat,e=j→(pE (aO m X))[e]?=some (qC (X j)):=fun e a=>by
 subst a;simp[pE,aO,h]
def rT(n:Nat)(X:Mx)(k:Nat):List Rat:=aO (n+1) (X k)
theorem tO{n:Nat}{X Y:Mx}{k:Nat}(h:∀j,j≤n→X k j=Y k j):rT n X k=rT n Y k:=by
 exact List.map_congr_left fun t ht=>h t (by grind)
@[simp] theorem rT_length (n:Nat)(X:Mx)(k:Nat):(rT n X k).length=n+1:=by simp[rT]
def scJ(X:Mx)(r:Nat)(f:Rat)(j:Nat):Mx:=fun i t=>if i=r∧t< j then X i t* f else X i t
theorem scJ_0(X:Mx)(r:Nat)(f:Rat):scJ X r f 0=X:=funext fun i=>funext fun t=>if_neg fun e=>by omega
theorem scJ_at(X:Mx)(r:Nat)(f:Rat)(j:Nat):scJ X r f j r j=X r j:=if_neg fun e=>by omega
theorem scJ_s(X:Mx)(r:Nat)(f:Rat)(j:Nat):scJ X r f (j+1)=puM (scJ X r f j) r j (X r j* f):=funext fun i=>funext fun t=>by
 show(if i=r∧t< j+1 then X i t* f else X i t)=if i=r∧t=j then X r j* f else if i=r∧t< j then X i t* f else X i t
 grind
theorem scJ_n{X:Mx}{r n:Nat}{f:Rat}(k j:Nat)(h:j≤n):scJ X r f (n+1) k j=scM X r f k j:=by
 unfold scJ scM;grind
def rdJ(X:Mx)(r c i j:Nat):Mx:=fun k t=>if k≠r∧(k< i∨(k=i∧t< j)) then X k t- X k c* X r t else X k t
theorem rdJ_0(X:Mx)(r c:Nat):rdJ X r c 0 0=X:=funext fun i=>funext fun t=>if_neg fun e=>by omega
theorem rdJ_at(X:Mx)(r c i j:Nat):rdJ X r c i j i j=X i j:=if_neg fun e=>by omega
theorem rdJ_c(X:Mx)(r c i:Nat):rdJ X r c i 0 i=X i:=funext fun t=>if_neg fun e=>by omega
theorem rdJ_r(X:Mx)(r c i j:Nat):rdJ X r c i j r=X r:=funext fun t=>if_neg fun e=>e.1 rfl
theorem rdJ_s{X:Mx}{r c i j:Nat}(h:i≠r):rdJ X r c i (j+1)=puM (rdJ X r c i j) i j (X i j- X i c* X r j):=funext fun k=>funext fun t=>by
 show(if k≠r∧(k< i∨(k=i∧t< j+1)) then X k t- X k c* X r t else X k t)=if k=i∧t=j then X i j- X i c* X r j else if k≠r∧(k< i∨(k=i∧t< j)) then X k t- X k c* X r t else X k t
 grind
theorem rdJ_n{X:Mx}{r c n:Nat}(i k j:Nat)(h:j≤n):rdJ X r c i (n+1) k j=rdJ X r c (i+1) 0 k j:=by
 unfold rdJ;grind
theorem y7{X:Mx}{r c i:Nat}(h:i=r∨X i c=0):rdJ X r c (i+1) 0=rdJ X r c i 0:=funext fun k=>funext fun t=>by
 unfold rdJ;grind
theorem rdJ_end{X:Mx}{r c n k:Nat}(h:k< n)(j:Nat):rdJ X r c n 0 k j=rdM X r c k j:=by
 unfold rdJ rdM;grind
def slB(s:Nat):Nat→Nat
 |0=>s
 |c+1=>4* slB s c+2
theorem lQ{s:Nat}{k n:Nat}(h:k≤n):slB s k≤slB s n:=by
 induction n with
 |zero=>grind
 |succ n a=>
  by_cases e:k=n+1;rw[e];exact Nat.le_refl _;rw[slB];omega
theorem Ip{A:Mx}{n s c:Nat}{L:List Nat}(h:bdM A n s)(hL:L.length≤c)(hc:c< n):bdM (slC A n L c).1 n (4* s+2):=by
 unfold slC;cases e:pvR A n L.length c with
 |none=>exact fun i j d a=>Nat.le_trans (h i j d a) (by omega)
 |some p=>
  obtain⟨p1,p2,k⟩:=lT e;have f:L.length< n:=by omega
  have h1:=bd_sw h f p1
  have b:∀j,j≤n→qs (scM (swM A L.length p) L.length (1/ A p c) L.length j)≤2* s+1:=fun j a=>by
   unfold scM;rw[if_pos rfl];have q:=h1 L.length j f a;have m:=gO 1 (A p c);have l:qs 1≤1:=by decide
   have r:=h p c p1 (by omega);have w:=dK (swM A L.length p L.length j) (1/ A p c);omega
  intro i j d a;show qs (rdM (scM (swM A L.length p) L.length (1/ A p c)) L.length c i j)≤_;unfold rdM;by_cases hir:i=L.length;subst hir;rw[if_pos rfl];have:=b j a;omega;rw[if_neg hir];have b1:∀t,scM (swM A L.length p) L.length (1/ A p c) i t=swM A L.length p i t:=fun t=>if_neg hir;rw[b1,b1];have c1:=h1 i j d a;have v:=h1 i c d (by omega);have u:=b j a;have o:=dK (swM A L.length p i c) (scM (swM A L.length p) L.length (1/ A p c) L.length j);have g:=qw (swM A L.length p i j) (swM A L.length p i c* scM (swM A L.length p) L.length (1/ A p c) L.length j);omega
theorem Io{M:Mx}{n s:Nat}(h:bdM M n s):∀c,c≤n→bdM (slM M n c).1 n (slB s c)
 |0,_=>h
 |c+1,hc=>Ip (Io h c (by omega)) (dY M n c).len (by omega)
def pa(A:Mx)(n:Nat)(L:List Nat)(i:Nat):List Rat:=aO n fun j=>if (L.take i).contains j then A (L.idxOf j) n else 0
def xt(A:Mx)(n:Nat)(L:List Nat):List Rat:=aO n (oneX A n L)
@[simp] theorem zn (A:Mx)(n:Nat)(L:List Nat)(i:Nat):(pa A n L i).length=n:=by simp[pa]
@[simp] theorem oneL_length (A:Mx)(n:Nat)(L:List Nat):(xt A n L).length=n:=by simp[xt]
theorem FV(n:Nat):aO n (fun _=>0)=List.replicate n (0:Rat):=by
 unfold aO;rw[List.eq_replicate_iff];grind
theorem oneJ_0(A:Mx)(n:Nat)(L:List Nat):pa A n L 0=List.replicate n (0:Rat):=by
 unfold pa;rw[←FV];simp
theorem oneJ_n{A:Mx}{n:Nat}{L:List Nat}{i:Nat}(h:L.length≤i):pa A n L i=xt A n L:=by
 unfold pa xt;rw[List.take_of_length_le h];rfl
theorem GK{A:Mx}{n:Nat}{L:List Nat}{i c:Nat}(h:c< n):∀e:Nat,e=c→∃v,(pE (pa A n L i))[e]?=some (qC v):=fun e a=>by
 subst a;exact⟨_,dh h e rfl⟩
theorem oneJ_s{A:Mx}{n c0:Nat}{L:List Nat}{i c:Nat}(hE:Ech A n c0 L)(hl:L[i]?=some c)(hc:c< n):∀e:Nat,e=c→(pE (pa A n L i)).set e (qC (A i n))=pE (pa A n L (i+1)):=fun e b=>by
 subst b;rw[iY];congr 1;have a:L.take (i+1)=L.take i++[e]:=by rw[List.take_add_one,hl];rfl
 refine List.ext_getElem? fun t=>?_;rw[List.getElem?_set,zn];by_cases ht:t< n;by_cases h1:e=t;subst h1;rw[if_pos rfl,if_pos ht];unfold pa aO;rw[List.getElem?_map,List.getElem?_range ht,a,Option.map_some,if_pos (by simp),hE.idx hl];rw[if_neg h1];unfold pa aO;rw[List.getElem?_map,List.getElem?_map,List.getElem?_range ht,a,Option.map_some,Option.map_some];have d:(L.take i++[e]).contains t=(L.take i).contains t:=by grind
 rw[d];simp_all
def jY(n:Nat)(A:Mx):List (List Rat):=(List.range n).map fun k=>aO (n+1) (A k)
@[simp] theorem rowsL_length (n:Nat)(A:Mx):(jY n A).length=n:=by simp[jY]
theorem jk{n i:Nat}{A:Mx}(h:i< n):(jY n A)[i]?=some (aO (n+1) (A i)):=by simp[jY,h]
def jG(n:Nat)(A:Mx)(L:List Nat):Bool:=((jY n A).drop L.length).any fun e=>decide (coP e n≠0)
theorem zt{n:Nat}{A:Mx}{L:List Nat}(h:jG n A L=false):∀i,L.length≤i→i< n→A i n=0:=fun i h1 a=>by
 refine Classical.byContradiction fun g=>?_
 have:jG n A L=true:=by
  unfold jG;rw[List.any_eq_true];refine⟨aO (n+1) (A i),List.mem_of_getElem? (i:=i- L.length) (by rw[List.getElem?_drop,show L.length+(i- L.length)=i by omega];exact jk a),decide_eq_true ?_⟩;unfold coP aO;rw[List.getD_eq_getElem?_getD];simpa using g
 rw[h] at this;cases this
theorem BL{n:Nat}{A:Mx}{L:List Nat}(h:jG n A L=true):∃i,L.length≤i∧i< n∧A i n≠0:=by
 unfold jG at h;obtain⟨e,c,h1⟩:=List.any_eq_true.1 h;obtain⟨k,b⟩:=List.mem_iff_getElem?.1 c;rw[List.getElem?_drop] at b
 have a:L.length+k< n:=by
  have:=(List.getElem?_eq_some_iff.1 b).1;simpa using this
 rw[jk a] at b;cases b;refine⟨L.length+k,by omega,a,?_⟩;have:=of_decide_eq_true h1;unfold coP aO at this;rw[List.getD_eq_getElem?_getD] at this;simpa using this
def smF(c:Rat)(o:List Rat)(p:List Rat×List Rat):List Rat:=fR o (aX p.1 c)
def la:Ke→List Rat→List Rat→List Rat
 |[],_,o=>o
 |p::k,c,o=>la k c.tail (smF (coP c 0) o p)
def smK(k:Ke)(c:List Rat)(i:Nat):List Rat:=la (k.take i) c []
theorem vJ:∀(k:Ke) (c o:List Rat) (p:List Rat×List Rat),la (k++[p]) c o=smF (coP c k.length) (la k c o) p
 |[],c,o,p=>rfl
 |q::k,c,o,p=>by
  rw[List.cons_append,la,vJ k,la];cases c with
  |nil=>simp[coP]
  |cons a c=>rfl
theorem smK_s{k:Ke}{c:List Rat}{i:Nat}{p:List Rat×List Rat}(h:k[i]?=some p):smK k c (i+1)=smF (coP c i) (smK k c i) p:=by
 have ht:k.take (i+1)=k.take i++[p]:=by rw[List.take_add_one,h];rfl
 have a:=(List.getElem?_eq_some_iff.1 h).1;unfold smK;rw[ht,vJ,List.length_take,Nat.min_eq_left (by omega)]
theorem vK(x:Rat):∀(k:Ke) (c o:List Rat),c.length=k.length→au (la k c o) x=au o x+ei (fun p=>au p.1.1 x* p.2) (k.zip c)
 |[],[],o,_=>by rw[la];show _=au o x+0;grind
 |p::k,[],_,h=>by cases h
 |[],a::c,_,h=>by cases h
 |p::k,a::c,o,h=>by
  rw[la,List.tail_cons,vK x k c _ (by simpa using h),smF,iB,dT,fb,List.zip_cons_cons,ei];show _=_+(au p.1 x* a+_);grind
theorem F4(A:Mx)(n:Nat):Sol 0 A n (fun _=>0):=fun i a=>by
 rw[b4 (g:=fun j=>if j=n then 0 else 0) n fun j b=>by grind,jy,if_neg (by omega)];grind
theorem AD(n:Nat)(x:Nat→Rat)(i:Nat):coP (aO n x) i=if i< n then x i else 0:=by
 unfold coP;rw[List.getD_eq_getElem?_getD];by_cases h:i< n;rw[if_pos h];simp[aO,h];rw[if_neg h,List.getElem?_eq_none (by simp;omega)];rfl
def frL(L:List Nat)(f:Nat):List Nat:=(List.range f).filter fun j=>!L.contains j
theorem frL_0(L:List Nat):frL L 0=[]:=rfl
theorem x9{L:List Nat}{f:Nat}(h:L.contains f=true):frL L (f+1)=frL L f:=by
 unfold frL;rw[List.range_succ,List.filter_append];simp at h;simp[h]
theorem sP{L:List Nat}{f:Nat}(h:L.contains f=false):frL L (f+1)=frL L f++[f]:=by
 unfold frL;rw[List.range_succ,List.filter_append];simp at h;simp[h]
theorem ya(L:List Nat):∀f,(frL L f).length≤f
 |0=>Nat.le_refl _
 |f+1=>by
  have:=ya L f;cases h:L.contains f with
  |true=>rw[x9 h];omega
  |false=>rw[sP h,List.length_append,List.length_singleton];omega
def ij(A:Mx)(n:Nat)(L:List Nat)(f:Nat):List Rat:=aO n (zerX A L f)
def zeJ(A:Mx)(n:Nat)(L:List Nat)(f i:Nat):List Rat:=aO n fun j=>if (L.take i).contains j then -A (L.idxOf j) f else if j=f then 1 else 0
@[simp] theorem Bc (A:Mx)(n:Nat)(L:List Nat)(f i:Nat):(zeJ A n L f i).length=n:=by simp[zeJ]
@[simp] theorem zerL_length (A:Mx)(n:Nat)(L:List Nat)(f:Nat):(ij A n L f).length=n:=by simp[ij]
theorem zeJ_0(A:Mx)(n:Nat)(L:List Nat)(f:Nat):(List.replicate n (0:Rat)).set f 1=zeJ A n L f 0:=by
 refine List.ext_getElem? fun t=>?_;rw[List.getElem?_set];by_cases ht:t< n;by_cases h1:f=t;subst h1;simp[zeJ,aO,ht];rw[if_neg h1];have a:¬t=f:=fun e=>h1 e.symm;simp[zeJ,aO,ht,a];by_cases h1:f=t;subst h1;simp[zeJ,aO,ht];rw[if_neg h1];simp[zeJ,aO,ht]
theorem zeJ_n{A:Mx}{n:Nat}{L:List Nat}{f i:Nat}(h:L.length≤i):zeJ A n L f i=ij A n L f:=by
 unfold zeJ ij;rw[List.take_of_length_le h];rfl
theorem C8{A:Mx}{n:Nat}{L:List Nat}{f i c:Nat}(h:c< n):∀e:Nat,e=c→∃v,(pE (zeJ A n L f i))[e]?=some (qC v):=fun e a=>by
 subst a;exact⟨_,dh h e rfl⟩
theorem zeJ_s{A:Mx}{n c0:Nat}{L:List Nat}{f i c:Nat}(hE:Ech A n c0 L)(hl:L[i]?=some c)(hc:c< n):∀e:Nat,e=c→(pE (zeJ A n L f i)).set e (qC (-A i f))=pE (zeJ A n L f (i+1)):=fun e b=>by
 subst b;rw[iY];congr 1;have a:L.take (i+1)=L.take i++[e]:=by rw[List.take_add_one,hl];rfl
 refine List.ext_getElem? fun t=>?_;rw[List.getElem?_set,Bc];by_cases ht:t< n;by_cases h1:e=t;subst h1;rw[if_pos rfl,if_pos ht];unfold zeJ aO;rw[List.getElem?_map,List.getElem?_range ht,a,Option.map_some,if_pos (by simp),hE.idx hl];rw[if_neg h1];unfold zeJ aO;rw[List.getElem?_map,List.getElem?_map,List.getElem?_range ht,a,Option.map_some,Option.map_some]
 have d:(L.take i++[e]).contains t=(L.take i).contains t:=by
  simp only[List.contains_eq_mem,List.mem_append,List.mem_singleton];simp[show¬t=e from fun g=>h1 g.symm]
 rw[d];rw[if_neg (by omega),List.getElem?_eq_none (by simp;omega),List.getElem?_eq_none (by simp;omega)]
end Go.Abs
