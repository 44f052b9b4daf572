/- Part V16 of the proof. -/
import Derived.Test.YtjkddcfoolilbaaGreatDoorV15
import Derived.Test.YtjkddcfoolilbaaGreatDoorProg
import Derived.KernelRfl
set_option linter.all false
namespace Go.Abs
theorem rsU_len9{k:Ke}{g:List Rat}{L a:Rat}{n:Nat}(hn:n≤8)(hg:g.length≤9):∀j,(rsU k g L a n j).length≤9
 |0=>hg
 |j+1=>by
  have h1:=cp_ (-a) ((compP [a,1] (aN_ (upK k a (rsU k g L a n j)) L)).take (n+1));rw[List.length_take] at h1;rw[rsU];omega
structure RsF (k:Ke)(g:List Rat)(L a:Rat)(n j:Nat):Prop where
 ul:(rsU k g L a n j).length≤9
 ub:bdL (rsU k g L a n j) 300000
 mb:bdL (compP [a,1] (rsU k g L a n j)) 300000
 kl:(upK k a (rsU k g L a n j)).length≤18
 kb:bdL (upK k a (rsU k g L a n j)) 300000
 sl:(aN_ (upK k a (rsU k g L a n j)) L).length≤18
 sb:bdL (aN_ (upK k a (rsU k g L a n j)) L) 300000
 nb:bdL (compP [a,1] (aN_ (upK k a (rsU k g L a n j)) L)) 300000
theorem rs_facts{k:Ke}{g:List Rat}{L a:Rat}{n:Nat}(hn:n≤8)(hkl:k.length≤3)(h4:∀p∈k,p.1.length≤4∧p.2.length≤4)(hb:∀p∈k,bdL p.1 20∧bdL p.2 20)(hg:g.length≤5)(bg:bdL g 20)(hl:qs L≤20)(ha:qs a≤20)(j:Nat)(hj:j≤9):RsF k g L a n j:=by
 obtain⟨KA,KB,hk,A0,B0,IA,IBB⟩:=lh_ hkl h4 hb;obtain⟨ha2,hd,d0⟩:=ju_ ha;obtain⟨hl2,hld,l0⟩:=ju_ hl;obtain⟨KG,HG⟩:=jv_ g bg;have HG:=HG.mono (show _≤3000 by omega);have len:=rsU_len9 (k:=k) (L:=L) (a:=a) hn (show g.length≤9 by omega) j;obtain⟨K,H⟩:=rsU_HS (n:=n) (L:=L) (a:=a) (by omega) (show g.length≤n+41 by omega) hk (by omega) (by omega) (by omega) A0 B0 IA IBB HG d0 hd ha2 ha l0 hld hl2 j (by omega);obtain⟨K1,c1⟩:=HS_shift' d0 hd ha2 H (N:=8) (by omega);obtain⟨u1,u2,_⟩:=jz_ hk (by omega) (by omega) H d0 hd ha2 ha (by omega) A0 B0 IA IBB (by omega);have s1:=u1.k l0 hld hl2;have sl:=bG_ (upK k a (rsU k g L a n j)) L;obtain⟨K2,c2⟩:=HS_shift' d0 hd ha2 s1 (N:=17) (by omega);exact⟨len,bdL_mono' (H.bdL (by omega)) (by omega),bdL_mono' (c1.bdL (by omega)) (by omega),by omega,bdL_mono' (u1.bdL (by omega)) (by omega),by omega,bdL_mono' (s1.bdL (by omega)) (by omega),bdL_mono' (c2.bdL (by omega)) (by omega)⟩
theorem ld_{p:List Rat}{s:Nat}(h:bdL p s)(n:Nat):bdL (p.take n) s:=fun q hq=>h q (List.mem_of_mem_take hq)
theorem qY_{k:Ke}{g:List Rat}{L a:Rat}{n m:Nat}(F:∀j,j≤m→RsF k g L a n j):∀j,j≤m+1→bdL (rsS k g L a n j) (j* 300002+1)∧(rsS k g L a n j).length≤9
 |0,_=>⟨fun q hq=>by simp[rsS] at hq,Nat.zero_le _⟩
 |j+1,hj=>by
  obtain⟨h1,h2⟩:=qY_ F j (by omega);have f:=F j (by omega);have h3:=nF_ h1 (ld_ f.mb (n+1)) (by omega) (by omega);have h4:=dM_ (rsS k g L a n j) ((compP [a,1] (rsU k g L a n j)).take (n+1));have h5:=cp_ a (rsU k g L a n j);have h6:=f.ul;rw[List.length_take] at h4;rw[rsS];exact⟨bdL_mono' h3 (by rw[Nat.succ_mul];omega),by omega⟩


section
variable {T:List Rat}{n:Nat}(hn:1≤n∧n≤5)(hl:T.length=n+1)(ht:trimQ T=T)(hm:leadP T=1)(hb:bdL T 20)
include hn hl ht hm hb
end
theorem ly_(n:Nat)(f:Nat→Rat):tabP (n+1) f=tabP n f++[f n]:=by simp[tabP,List.range_succ]
theorem aS_{k t:Nat}{x:Option ABlk}{l:Hp}(h:k≠t):lookB ((k,x)::l) t=lookB l t:=by
 rw[bv_];unfold upd;rw[if_neg (fun e=>h e.symm)]
def fiL(A:Nat→Nat→Rat)(n i:Nat):List (List (List AV)):=(List.range i).map fun k=>pE (tabP n (A k))
@[simp] theorem fy_ (A:Nat→Nat→Rat)(n i:Nat):(fiL A n i).length=i:=by simp[fiL]
theorem c8_{A:Nat→Nat→Rat}{n i k:Nat}(h:k< i):(fiL A n i)[k]?=some (pE (tabP n (A k))):=by simp[fiL,h]
theorem fiL_snoc(A:Nat→Nat→Rat)(n i:Nat):fiL A n i++[pE (tabP n (A i))]=fiL A n (i+1):=by simp[fiL,List.range_succ]
theorem ja_{A:Nat→Nat→Rat}{n i k:Nat}{e:List (List AV)}(h:(fiL A n i)[k]?=some e):k< i∧e=pE (tabP n (A k)):=by
 have h1:=(List.getElem?_eq_some_iff.1 h).1;rw[fy_] at h1;rw[c8_ h1] at h;cases h;exact⟨h1,rfl⟩
def foE(w:Nat→Nat)(s:Nat→Nat)(n m:Nat):List (List AV):=mzO 3 w s m++List.replicate (n- m) [.emp]
theorem dR_{w:Nat→Nat}{s:Nat→Nat}{n m:Nat}(h:m≤n):(foE w s n m).length=n:=by simp[foE];omega
theorem foE_0(w:Nat→Nat)(s:Nat→Nat)(n:Nat):foE w s n 0=List.replicate n [.emp]:=rfl
theorem oJ_{w:Nat→Nat}{s:Nat→Nat}{n m k:Nat}(h:k< m):(foE w s n m)[k]?=some [.lsl (s (k+2)) 0 (w k) none 3]:=by
 unfold foE;rw[List.getElem?_append_left (by simpa using h)];exact m4_ h
theorem sl_{w:Nat→Nat}{s:Nat→Nat}{n m k:Nat}(h:m≤k)(hk:k< n):(foE w s n m)[k]?=some [.emp]:=by
 unfold foE;rw[List.getElem?_append_right (by simpa using h),List.getElem?_replicate,if_pos (by simp only[fq_];omega)]
theorem sk_{w:Nat→Nat}{s:Nat→Nat}{n m k:Nat}(hm:m≤n)(hk:n≤k):(foE w s n m)[k]?=none:=by
 rw[List.getElem?_eq_none];rw[dR_ hm];exact hk
theorem foE_n(w:Nat→Nat)(s:Nat→Nat)(n:Nat):foE w s n n=mzO 3 w s n:=by simp[foE]
theorem sm_{w w':Nat→Nat}{s s':Nat→Nat}{n m:Nat}(h:∀k,k< m→w k=w' k∧s (k+2)=s' (k+2)):foE w s n m=foE w' s' n m:=by
 unfold foE mzO;congr 1
 exact List.map_congr_left fun k hk=>by
  obtain⟨h1,h2⟩:=h k (List.mem_range.1 hk);rw[h1,h2]
theorem sj_{w w':Nat→Nat}{s s':Nat→Nat}{n m i:Nat}(hm:m=i∨m=i+1)(hi:i< n)(h:∀k,k< i→w k=w' k∧s (k+2)=s' (k+2)):∀e:Nat,e=i→(foE w s n m).set e [.lsl (s' (i+2)) 0 (w' i) none 3]=foE w' s' n (i+1):=by
 rintro e rfl;refine List.ext_getElem? fun k=>?_;have hmn:m≤n:=by omega
 rw[List.getElem?_set,dR_ hmn];split
 ·rename_i e;subst e;rw[oJ_ (by omega)]
  try rw[if_pos hi]
 ·rename_i hne
  by_cases hk:k< e;rw[oJ_ (by omega),oJ_ (by omega),(h k hk).1,(h k hk).2];by_cases hkn:k< n;rw[sl_ (by omega) hkn,sl_ (by omega) hkn];rw[sk_ hmn (by omega),sk_ (by omega) (by omega)]
theorem pl_{r:Ren}{hp hp':Nat→Option ABlk}:∀{a b c d:List (List AV)},CvLL r hp hp' a b→CvLL r hp hp' c d→CvLL r hp hp' (a++c) (b++d)
 |[],_,_,_,h,h2=>by cases (h:_=[]);exact h2
 |x::xs,_,_,_,⟨y,ys,e,h1,h3⟩,h2=>by subst e;exact⟨y,_,rfl,h1,pl_ h3 h2⟩
theorem fH_{hp hp':Nat→Option ABlk}{s w:Nat→Nat}{n m:Nat}(h:Shr ⟨40,s⟩ hp hp')(hm:m≤30)(hl:∀i,i< m→(hp' (i+2)).isSome=true):CvLL ⟨40,s⟩ hp hp' (foE w s n m) (foE w (fun i=>i) n m):=
 pl_ (ij_ hm hl) (a9_ h fun e he c hc=>by
  rw[(List.mem_replicate.1 he).2,List.mem_singleton] at hc;rw[hc];exact bs_)
def fiR(i new x:Nat):Nat:=cond (Nat.beq x (i+2)) new x
theorem ej_{i new k:Nat}(h:k≠i):fiR i new (k+2)=k+2:=by
 unfold fiR;rw[show Nat.beq (k+2) (i+2)=false by cases hb:Nat.beq (k+2) (i+2) with|false=>rfl|true=>have:=Nat.eq_of_beq_eq_true hb;omega];rfl
theorem gZ_(i new:Nat):fiR i new (i+2)=new:=by unfold fiR;rw[Nat.beq_refl];rfl
theorem fiR_1(i new:Nat):fiR i new 1=1:=by
 unfold fiR;rw[show Nat.beq 1 (i+2)=false by cases hb:Nat.beq 1 (i+2) with|false=>rfl|true=>have:=Nat.eq_of_beq_eq_true hb;omega];rfl
theorem fiR_0(i new:Nat):fiR i new 0=0:=by
 unfold fiR;rw[show Nat.beq 0 (i+2)=false by cases hb:Nat.beq 0 (i+2) with|false=>rfl|true=>have:=Nat.eq_of_beq_eq_true hb;omega];rfl
theorem i9_{i new m:Nat}(hm:m≤40)(hn:40≤new)(x y:Nat)(hx:x< m)(hy:y< m)(h:fiR i new x=fiR i new y):x=y:=by
 unfold fiR at h;cases h1:Nat.beq x (i+2)<;> cases h2:Nat.beq y (i+2)<;> rw[h1,h2] at h <;> simp only[cond_true,cond_false] at h;exact h;omega;omega;have:=Nat.eq_of_beq_eq_true h1;have:=Nat.eq_of_beq_eq_true h2;omega
def wJ(n i j k:Nat):Nat:=cond (Nat.blt k i) n j
theorem wJ_lt{n i j k:Nat}(h:k< i):wJ n i j k=n:=by unfold wJ;rw[show Nat.blt k i=true from Nat.ble_eq_true_of_le h];rfl
theorem wJ_ge{n i j:Nat}:wJ n i j i=j:=by
 unfold wJ;rw[show Nat.blt i i=false by cases hb:Nat.blt i i with|false=>rfl|true=>have:=Nat.le_of_ble_eq_true hb;omega];rfl
theorem fi_set{n i j new:Nat}(hi:i< n):∀e:Nat,e=i→(foE (wJ n i (j+1)) (fun x=>x) n (i+1)).set e [.lsl new 0 (j+1+1) none 3]=foE (wJ n i (j+1+1)) (fiR i new) n (i+1):=fun e he=>by
 have:=sj_ (w:=wJ n i (j+1)) (w':=wJ n i (j+1+1)) (s:=fun x=>x) (s':=fiR i new) (n:=n) (m:=i+1) (i:=i) (.inr rfl) hi (fun k hk=>⟨by rw[wJ_lt hk,wJ_lt hk],(ej_ (by omega)).symm⟩) e he;rw[gZ_,wJ_ge] at this;exact this
theorem fi_set0{n i new:Nat}(hi:i< n):∀e:Nat,e=i→(foE (fun _=>n) (fun x=>x) n i).set e [.lsl new 0 (0+1) none 3]=foE (wJ n i (0+1)) (fiR i new) n (i+1):=fun e he=>by
 have:=sj_ (w:=fun _=>n) (w':=wJ n i (0+1)) (s:=fun x=>x) (s':=fiR i new) (n:=n) (m:=i) (i:=i) (.inl rfl) hi (fun k hk=>⟨by rw[wJ_lt hk],(ej_ (by omega)).symm⟩) e he;rw[gZ_,wJ_ge] at this;exact this
theorem foE_ge'{w:Nat→Nat}{s:Nat→Nat}{n m k:Nat}(h:m≤k)(hk:k< n):∀e,e=k→(foE w s n m)[e]?=some [.emp]:=fun e he=>by rw[he];exact sl_ h hk
theorem foE_lt'{w:Nat→Nat}{s:Nat→Nat}{n m k j:Nat}(h:k< m)(hj:w k=j):∀e,e=k→(foE w s n m)[e]?=some [.lsl (s (k+2)) 0 j none 3]:=fun e he=>by rw[he,←hj];exact oJ_ h
theorem g0_{A:Nat→Nat→Rat}{n i:Nat}{x:List (List AV)}:(fiL A n i++[x])[i]?=some x:=by
 rw[List.getElem?_append_right (by simp)];simp
theorem j3_{A:Nat→Nat→Rat}{n i k:Nat}{x:List (List AV)}(h:k< i):(fiL A n i++[x])[k]?=some (pE (tabP n (A k))):=by
 rw[List.getElem?_append_left (by simpa using h)];exact c8_ h
theorem sp_{A:Nat→Nat→Rat}{n i k:Nat}{x e:List (List AV)}(h:(fiL A n i++[x])[k]?=some e):(k< i∧e=pE (tabP n (A k)))∨(k=i∧e=x):=by
 have h1:=(List.getElem?_eq_some_iff.1 h).1;rw[List.length_append,fy_,List.length_singleton] at h1;by_cases hk:k< i;rw[j3_ hk] at h;cases h;exact .inl ⟨hk,rfl⟩;obtain rfl:k=i:=by omega
 rw[g0_] at h;cases h;exact .inr ⟨rfl,rfl⟩
def rwL(R:Nat→List Rat)(n:Nat):List (List (List AV)):=(List.range n).map fun k=>pE (R k)
@[simp] theorem gU_ (R:Nat→List Rat)(n:Nat):(rwL R n).length=n:=by simp[rwL]
theorem qQ_{R:Nat→List Rat}{n k:Nat}(h:k< n):(rwL R n)[k]?=some (pE (R k)):=by simp[rwL,h]
theorem qP_{R:Nat→List Rat}{n k:Nat}{e:List (List AV)}(h:(rwL R n)[k]?=some e):k< n∧e=pE (R k):=by
 have h1:=(List.getElem?_eq_some_iff.1 h).1;rw[gU_] at h1;rw[qQ_ h1] at h;cases h;exact⟨h1,rfl⟩
theorem fiL_rwL(A:Nat→Nat→Rat)(n i:Nat):fiL A n i=rwL (fun k=>tabP n (A k)) i:=rfl
def rwO(R:Nat→List Rat)(s:Nat→Nat)(n:Nat):List (List AV):=mzO 3 (fun k=>(R k).length) s n
@[simp] theorem em_ (R:Nat→List Rat)(s:Nat→Nat)(n:Nat):(rwO R s n).length=n:=fq_ _ _ _ _
theorem cd_{R:Nat→List Rat}{s:Nat→Nat}{n k:Nat}(h:k< n):∀e,e=k→(rwO R s n)[e]?=some [.lsl (s (k+2)) 0 (R k).length none 3]:=fun e he=>by rw[he];exact m4_ h
theorem fW_{R:Nat→List Rat}{s:Nat→Nat}{n k:Nat}(h:n≤k):(rwO R s n)[k]?=none:=by rw[List.getElem?_eq_none];rw[em_];exact h
theorem c5_{R R':Nat→List Rat}{s s':Nat→Nat}{n:Nat}(h:∀k,k< n→(R k).length=(R' k).length∧s (k+2)=s' (k+2)):rwO R s n=rwO R' s' n:=by
 refine List.ext_getElem? fun k=>?_;by_cases hk:k< n;rw[cd_ hk k rfl,cd_ hk k rfl,(h k hk).1,(h k hk).2];rw[fW_ (by omega),fW_ (by omega)]
def rwH(TS TQ:Nat)(R:Nat→List Rat)(n:Nat)(ex:Hp):Hp:=mzX 3 TS TQ (rwO R (fun x=>x) n) (rwL R n) ex
section
variable {fr fr':Fr}{hp ex:Hp}{nx N TS TQ n k:Nat}{R R':Nat→List Rat}
theorem bS_(hid:∀p∈ex,35≤p.1∧p.1< 40)(hn:n≤30)(h:k< n):lookB (rwH TS TQ R n ex) (k+2)=some ⟨TQ,3,pE (R k)⟩:=mzX_row hid (by omega) (qQ_ h)
theorem eB_(hid:∀p∈ex,35≤p.1∧p.1< 40)(hn:n≤30)(h:k< n):cellF (lookB (rwH TS TQ R n ex)) (k+2)=some ⟨TQ,3,pE (R k)⟩:=b2_ (bS_ hid hn h) (show(3:Nat)≠0 by decide)
theorem bd_(hid:∀p∈ex,35≤p.1∧p.1< 40):lookB (rwH TS TQ R n ex) 1=some ⟨TS,1,rwO R (fun x=>x) n⟩:=mzX_out hid
theorem SEntT.rw (s:Nat→Nat) (hn:n≤30) (s0:s 0=0) (hinj:∀i j,InX n i→InX n j→s i=s j→i=j) (h1:lookB hp (s 1)=some ⟨TS,1,rwO R s n⟩) (hr:∀i,i< n→lookB hp (s (i+2))=some ⟨TQ,3,pE (R i)⟩) (hid:∀p∈ex,35≤p.1∧p.1< 40)
    (hex:∀i B,(i,some B)∈ex→∃B0,lookB hp (s i)=some B0∧B0.ty=B.ty∧B0.sz=B.sz∧B0.es.length=B.es.length)
    (hE:Shr ⟨40,s⟩ (lookB hp) (lookB (rwH TS TQ R n ex))→∀i B B0,(i,some B)∈ex→lookB hp (s i)=some B0→CvLL ⟨40,s⟩ (lookB hp) (lookB (rwH TS TQ R n ex)) B0.es B.es)
    (hF:Shr ⟨40,s⟩ (lookB hp) (lookB (rwH TS TQ R n ex))→CvF ⟨40,s⟩ (lookB hp) (lookB (rwH TS TQ R n ex)) fr fr'):SEntT ⟨fr,hp,nx,N⟩ ⟨fr',rwH TS TQ R n ex,40,N⟩:=
 SEntT.mzx s (by simpa using hn) s0 (by rw[gU_];exact hinj) h1 (by simp) (fun i e h=>by
  obtain⟨h2,rfl⟩:=qP_ h;exact⟨hr i h2,aI_ _⟩) hid hex (fun _=>ij_ hn fun i hi=>by
  show(lookB (rwH TS TQ R n ex) (i+2)).isSome=true;rw[bS_ hid hn hi];rfl) hE hF
end
def upR(R:Nat→List Rat)(k:Nat)(r:List Rat):Nat→List Rat:=fun i=>if i=k then r else R i
theorem cw_(R:Nat→List Rat)(k:Nat)(r:List Rat):upR R k r k=r:=if_pos rfl
theorem fJ_(R:Nat→List Rat){k i:Nat}(r:List Rat)(h:i≠k):upR R k r i=R i:=if_neg h
theorem rwO_grow{R:Nat→List Rat}{n k new m:Nat}{r:List Rat}(hk:k< n)(hm:m=r.length):∀e:Nat,e=k→(rwO R (fun x=>x) n).set e [.lsl new 0 m none 3]=rwO (upR R k r) (fiR k new) n:=fun e he=>by
 subst he hm;refine List.ext_getElem? fun i=>?_;rw[List.getElem?_set,em_];split
 ·rename_i h;subst h
  rw[cd_ hk e rfl,cw_,gZ_]
  try rw[if_pos hk]
 ·rename_i h
  by_cases hi:i< n;rw[cd_ hi i rfl,cd_ hi i rfl,fJ_ _ _ (fun e=>h e.symm),ej_ (fun e=>h e.symm)];rw[fW_ (by omega),fW_ (by omega)]
def swx(a b x:Nat):Nat:=if x=a then b else if x=b then a else x
theorem swx_a(a b:Nat):swx a b a=b:=if_pos rfl
theorem swx_b(a b:Nat):swx a b b=a:=by unfold swx;split <;> simp_all
theorem in_{a b x:Nat}(h1:x≠a)(h2:x≠b):swx a b x=x:=by unfold swx;rw[if_neg h1,if_neg h2]
theorem swx_inj{a b x y:Nat}(h:swx a b x=swx a b y):x=y:=by unfold swx at h;split at h <;> split at h <;>(try split at h)<;>(try split at h)<;> omega
theorem rwO_swap{R:Nat→List Rat}{n k p:Nat}(hk:k< n)(hp:p< n):∀a b:Nat,a=p→b=k→((rwO R (fun x=>x) n).set a [.lsl (k+2) 0 (R k).length none 3]).set b [.lsl (p+2) 0 (R p).length none 3]=rwO (fun i=>R (swx k p i)) (swx (k+2) (p+2)) n:=fun a b ha hb=>by
 subst ha hb;refine List.ext_getElem? fun i=>?_;rw[List.getElem?_set,List.length_set,em_,List.getElem?_set,em_];by_cases hi:i< n;rw[cd_ (R:=fun i=>R (swx b a i)) hi i rfl];by_cases h1:b=i;subst h1;rw[if_pos rfl,swx_a,swx_a]
 try rw[if_pos hk]
 rw[if_neg h1];by_cases h2:a=i;subst h2;rw[if_pos rfl,swx_b,swx_b]
 try rw[if_pos hp]
 rw[if_neg h2,cd_ hi i rfl,in_ (fun e=>h1 e.symm) (fun e=>h2 e.symm),in_ (by omega) (by omega)];have h1:b≠i:=by omega
 have h2:a≠i:=by omega
 rw[if_neg h1,if_neg h2,fW_ (by omega),fW_ (by omega)]
def sQ(f:Nat→Rat):Nat→Rat
 |0=>0
 |n+1=>sQ f n+f n
abbrev Mx:=Nat→Nat→Rat
def swM(M:Mx)(k p:Nat):Mx:=fun i j=>if i=k then M p j else if i=p then M k j else M i j
def bdM(M:Mx)(n s:Nat):Prop:=∀i j,i< n→j≤n→qs (M i j)≤s
theorem bd_sw{M:Mx}{n k p s:Nat}(h:bdM M n s)(hk:k< n)(hp:p< n):bdM (swM M k p) n s:=fun i j hi hj=>by
 unfold swM;split;exact h p j hp hj;split;exact h k j hk hj;exact h i j hi hj
def scM(M:Mx)(r:Nat)(f:Rat):Mx:=fun i j=>if i=r then M i j* f else M i j
def rdM(M:Mx)(r k:Nat):Mx:=fun i j=>if i=r then M i j else M i j- M i k* M r j
def pvR(M:Mx)(n r c:Nat):Option Nat:=(List.range n).find? fun p=>decide (r≤p∧M p c≠0)
theorem hZ_{M:Mx}{n r c p:Nat}(h:pvR M n r c=some p):p< n∧r≤p∧M p c≠0:=by
 have h1:=List.find?_some h;have h2:=List.mem_of_find?_eq_some h;have h3:=of_decide_eq_true h1;exact⟨List.mem_range.1 h2,h3⟩
theorem oe_{M:Mx}{n r c:Nat}(h:pvR M n r c=none):∀i,i< n→r≤i→M i c=0:=fun i hi hk=>by
 have h1:=List.find?_eq_none.1 h i (List.mem_range.2 hi);have h2:¬(r≤i∧M i c≠0):=fun e=>h1 (decide_eq_true e);exact Classical.byContradiction fun e=>h2 ⟨hk,e⟩
def slC(A:Mx)(n:Nat)(L:List Nat)(c:Nat):Mx×List Nat:=match pvR A n L.length c with
 |none=>(A,L)
 |some p=>(rdM (scM (swM A L.length p) L.length (1/ A p c)) L.length c,L++[c])
def slM(M:Mx)(n:Nat):Nat→Mx×List Nat
 |0=>(M,[])
 |c+1=>slC (slM M n c).1 n (slM M n c).2 c
structure Ech (A:Mx)(n c:Nat)(L:List Nat):Prop where
 len:L.length≤c
 len2:L.length≤n
 lt:∀(i l:Nat),L[i]?=some l→l< c
 inc:∀(i j l m:Nat),L[i]?=some l→L[j]?=some m→i< j→l< m
 one:∀(i l k:Nat),L[i]?=some l→k< n→A k l=if k=i then 1 else 0
 low:∀(i l j:Nat),L[i]?=some l→j< l→A i j=0
 rest:∀i j,L.length≤i→i< n→j< c→A i j=0
theorem Ech.step{A:Mx}{n c:Nat}{L:List Nat}(h:Ech A n c L):Ech (slC A n L c).1 n (c+1) (slC A n L c).2:=by
 unfold slC;cases e:pvR A n L.length c with
 |none=>
  show Ech A n (c+1) L;refine⟨by have:=h.len;omega,h.len2,fun i l hl=>by have:=h.lt i l hl;omega,h.inc,h.one,h.low,fun i j h1 h2 h3=>?_⟩;by_cases e2:j=c;rw[e2];exact oe_ e i h2 h1;exact h.rest i j h1 h2 (by omega)
 |some p=>
  obtain⟨p1,p2,p3⟩:=hZ_ e;show Ech (rdM (scM (swM A L.length p) L.length (1/ A p c)) L.length c) n (c+1) (L++[c]);have hr:L.length< n:=by omega
  have hL:∀i l,L[i]?=some l→i< L.length:=fun i l hl=>(List.getElem?_eq_some_iff.1 hl).1
  -- the rows after the exchange
  have sw1:∀i j,i< L.length→swM A L.length p i j=A i j:=fun i j hi=>by unfold swM;rw[if_neg (by omega),if_neg (by omega)]
  have swr:∀j,swM A L.length p L.length j=A p j:=fun j=>by unfold swM;rw[if_pos rfl]
  have sw2:∀i j,L.length≤i→i< n→j< c→swM A L.length p i j=0:=fun i j h1 h2 h3=>by
   unfold swM;split;exact h.rest p j p2 p1 h3;split;exact h.rest _ j (Nat.le_refl _) hr h3;exact h.rest i j h1 h2 h3
  have swl:∀i l k,L[i]?=some l→k< n→swM A L.length p k l=if k=i then 1 else 0:=fun i l k hl hk=>by
   by_cases g:k< L.length;rw[sw1 k l g];exact h.one i l k hl hk;have:=hL i l hl;rw[sw2 k l (by omega) hk (h.lt i l hl),if_neg (by omega)]
  generalize hB:swM A L.length p=B at *
  have sc0:∀i j,i≠L.length→scM B L.length (1/ A p c) i j=B i j:=fun i j g=>if_neg g;have scr:∀j,scM B L.length (1/ A p c) L.length j=B L.length j* (1/ A p c):=fun j=>if_pos rfl
  have lead:scM B L.length (1/ A p c) L.length c=1:=by
   rw[scr,swr];have:=Rat.div_mul_cancel (a:=1) p3;grind
  have scz:∀j,j< c→scM B L.length (1/ A p c) L.length j=0:=fun j hj=>by rw[scr,sw2 _ j (Nat.le_refl _) hr hj];grind
  generalize hC:scM B L.length (1/ A p c)=C at *
  have rd0:∀j,rdM C L.length c L.length j=C L.length j:=fun j=>if_pos rfl;have rd1:∀i j,i≠L.length→rdM C L.length c i j=C i j- C i c* C L.length j:=fun i j g=>if_neg g
  have snoc:∀i l,(L++[c])[i]?=some l→(i< L.length∧L[i]?=some l)∨(i=L.length∧l=c):=fun i l hl=>by
   rw[List.getElem?_append] at hl;split at hl
   ·rename_i g;exact .inl ⟨g,hl⟩
   ·rename_i g
    have:i- L.length=0:=by
     have:=(List.getElem?_eq_some_iff.1 hl).1;simp at this;omega
    rw[this] at hl;cases hl;exact .inr ⟨by omega,rfl⟩
  refine⟨by have:=h.len;simp;omega,by simp;omega,fun i l hl=>?_,fun i j l m hl hm hij=>?_,fun i l k hl hk=>?_,fun i l j hl hj=>?_,fun i j h1 h2 h3=>?_⟩;rcases snoc i l hl with⟨_,g⟩|⟨_,g⟩
  have:=h.lt i l g;omega;omega;rcases snoc i l hl with⟨a1,g⟩|⟨a1,g⟩<;> rcases snoc j m hm with⟨b1,g'⟩|⟨b1,g'⟩
  exact h.inc i j l m g g' hij;rw[g'];exact h.lt i l g;omega;omega;rcases snoc i l hl with⟨a1,g⟩|⟨a1,g⟩
  by_cases e1:k=L.length;subst e1;rw[rd0,scz l (h.lt i l g),if_neg (by omega)];rw[rd1 k l e1,sc0 k l e1,swl i l k g hk,scz l (h.lt i l g)];grind;subst a1 g;by_cases e1:k=L.length;rw[if_pos e1,e1,rd0,lead];rw[if_neg e1,rd1 k l e1,lead];grind;rcases snoc i l hl with⟨a1,g⟩|⟨a1,g⟩
  have hlc:=h.lt i l g;rw[rd1 i j (by omega),sc0 i j (by omega),sw1 i j a1,h.low i l j g hj,scz j (by omega)];grind;subst a1 g;rw[rd0,scz j hj];rw[List.length_append,List.length_singleton] at h1;rw[rd1 i j (by omega)];by_cases e1:j=c;rw[e1,lead];grind;rw[sc0 i j (by omega),sw2 i j (by omega) h2 (by omega),scz j (by omega)];grind
theorem eW_(M:Mx)(n:Nat):∀c,Ech (slM M n c).1 n c (slM M n c).2
 |0=>⟨Nat.le_refl _,Nat.zero_le _,fun i l h=>by simp[slM] at h,fun i j l m h=>by simp[slM] at h,fun i l k h=>by simp[slM] at h,fun i l j h=>by simp[slM] at h,fun i j _ _ h=>by omega⟩
 |c+1=>(eW_ M n c).step
def oneX(A:Mx)(n:Nat)(L:List Nat)(j:Nat):Rat:=if L.contains j then A (L.idxOf j) n else 0
theorem Ech.idx{A:Mx}{n c:Nat}{L:List Nat}(h:Ech A n c L){i l:Nat}(hl:L[i]?=some l):L.idxOf l=i:=by
 have hm:=List.mem_of_getElem? hl;have h1:=List.idxOf_lt_length_of_mem hm;have h2:L[L.idxOf l]?=some l:=by rw[List.getElem?_eq_getElem h1,List.getElem_idxOf h1]
 by_cases e1:L.idxOf l< i;have:=h.inc _ _ _ _ h2 hl e1;omega;by_cases e2:i< L.idxOf l;have:=h.inc _ _ _ _ hl h2 e2;omega;omega
def svM(A:Nat→Nat→Rat)(l:Rat)(b:Nat→Rat)(n i j:Nat):Rat:=if j=n then b i else if j=i then -(A i j* l)+1 else -(A i j* l)
def mxr(A:Nat→Nat→Rat)(l:Rat)(n i j:Nat):List Rat:=tabP n fun t=>if t< j then -(A i t* l) else A i t
@[simp] theorem fr_ (A:Nat→Nat→Rat)(l:Rat)(n i j:Nat):(mxr A l n i j).length=n:=by simp[mxr]
theorem mxr_0(A:Nat→Nat→Rat)(l:Rat)(n i:Nat):mxr A l n i 0=tabP n (A i):=by unfold mxr;congr 1
theorem rl_{A:Nat→Nat→Rat}{l:Rat}{n i j:Nat}(h:j< n):∀e,e=j→(pE (mxr A l n i j))[e]?=some (qC (A i j)):=fun e he=>by
 subst he;simp[pE,mxr,tabP,h]
theorem mxr_set{A:Nat→Nat→Rat}{l:Rat}{n i j:Nat}(h:j< n):∀e,e=j→(pE (mxr A l n i j)).set e (qC (-(A i j* l)))=pE (mxr A l n i (j+1)):=fun e he=>by
 subst he;rw[gm_];congr 1;refine List.ext_getElem? fun t=>?_;rw[List.getElem?_set,fr_];by_cases ht:t< n;by_cases h1:e=t;subst h1;rw[if_pos rfl];simp[mxr,tabP,ht];rw[if_neg h1];simp only[mxr,tabP,List.getElem?_map,List.getElem?_range ht,Option.map_some];by_cases h2:t< e;rw[if_pos h2,if_pos (by omega)];rw[if_neg h2,if_neg (by omega)];rw[if_neg (by omega)];rw[List.getElem?_eq_none (by simp;omega),List.getElem?_eq_none (by simp;omega)]
def dgr(A:Nat→Nat→Rat)(l:Rat)(n i:Nat):List Rat:=tabP n fun t=>if t=i then -(A i t* l)+1 else -(A i t* l)
@[simp] theorem p5_ (A:Nat→Nat→Rat)(l:Rat)(n i:Nat):(dgr A l n i).length=n:=by simp[dgr]
theorem op_{A:Nat→Nat→Rat}{l:Rat}{n i:Nat}(h:i< n):∀e,e=i→(pE (mxr A l n i n))[e]?=some (qC (-(A i i* l))):=fun e he=>by
 subst he;simp[pE,mxr,tabP,h]
theorem mxr_one{A:Nat→Nat→Rat}{l:Rat}{n i:Nat}(h:i< n):∀e,e=i→(pE (mxr A l n i n)).set e (qC (-(A i i* l)+1))=pE (dgr A l n i):=fun e he=>by
 subst he;rw[gm_];congr 1;refine List.ext_getElem? fun t=>?_;rw[List.getElem?_set,fr_];by_cases ht:t< n;by_cases h1:e=t;subst h1;rw[if_pos rfl];simp[dgr,tabP,ht];rw[if_neg h1];simp only[mxr,dgr,tabP,List.getElem?_map,List.getElem?_range ht,Option.map_some];rw[if_pos ht,if_neg fun e'=>h1 e'.symm];rw[if_neg (by omega)];rw[List.getElem?_eq_none (by simp;omega),List.getElem?_eq_none (by simp;omega)]
theorem dgr_app{A:Nat→Nat→Rat}{l:Rat}{b:Nat→Rat}{n i:Nat}:dgr A l n i++[b i]=tabP (n+1) (svM A l b n i):=by
 rw[ly_];congr 1;refine List.map_congr_left fun t ht=>?_;have:=List.mem_range.1 ht;simp only[svM,if_neg (show¬t=n by omega)];unfold svM;rw[if_pos rfl]
def ph1(A:Nat→Nat→Rat)(l:Rat)(b:Nat→Rat)(n i k:Nat):List Rat:=if k< i then tabP (n+1) (svM A l b n k) else tabP n (A k)
theorem ph1_0(A:Nat→Nat→Rat)(l:Rat)(b:Nat→Rat)(n:Nat):ph1 A l b n 0=fun k=>tabP n (A k):=funext fun k=>if_neg (by omega)
theorem ph1_n{A:Nat→Nat→Rat}{l:Rat}{b:Nat→Rat}{n k:Nat}(h:k< n):ph1 A l b n n k=tabP (n+1) (svM A l b n k):=if_pos h
theorem ph1_at(A:Nat→Nat→Rat)(l:Rat)(b:Nat→Rat)(n i:Nat):ph1 A l b n i i=mxr A l n i 0:=by rw[mxr_0];exact if_neg (by omega)
theorem upR_up(R:Nat→List Rat)(k:Nat)(r r':List Rat):upR (upR R k r) k r'=upR R k r':=funext fun i=>by unfold upR;split <;> rfl
theorem upR_id(R:Nat→List Rat)(k:Nat):upR R k (R k)=R:=funext fun i=>by unfold upR;split <;> simp_all
theorem ph1_next(A:Nat→Nat→Rat)(l:Rat)(b:Nat→Rat)(n i:Nat):upR (ph1 A l b n i) i (tabP (n+1) (svM A l b n i))=ph1 A l b n (i+1):=funext fun k=>by
 unfold upR ph1;by_cases h:k=i;subst h;rw[if_pos rfl,if_pos (by omega)];rw[if_neg h];by_cases h2:k< i;rw[if_pos h2,if_pos (by omega)];rw[if_neg h2,if_neg (by omega)]
def puM(X:Mx)(i j:Nat)(v:Rat):Mx:=fun k t=>if k=i∧t=j then v else X k t
theorem puM_ne{X:Mx}{i j k:Nat}{v:Rat}(h:k≠i):puM X i j v k=X k:=funext fun t=>if_neg fun e=>h e.1
theorem puM_set{X:Mx}{i j m:Nat}{v:Rat}(h:j< m):∀e:Nat,e=j→(pE (tabP m (X i))).set e (qC v)=pE (tabP m (puM X i j v i)):=fun e he=>by
 subst he;rw[gm_];congr 1;refine List.ext_getElem? fun t=>?_;rw[List.getElem?_set,fT_];by_cases ht:t< m;by_cases h1:e=t;subst h1;rw[if_pos rfl];simp[tabP,ht,puM];rw[if_neg h1];simp[tabP,ht,puM,show¬t=e from fun e'=>h1 e'.symm];rw[if_neg (by omega)];rw[List.getElem?_eq_none (by simp;omega),List.getElem?_eq_none (by simp;omega)]
theorem df_{X:Nat→Rat}{j m:Nat}(h:j< m):∀e:Nat,e=j→(pE (tabP m X))[e]?=some (qC (X j)):=fun e he=>by
 subst he;simp[pE,tabP,h]
def rT(n:Nat)(X:Mx)(k:Nat):List Rat:=tabP (n+1) (X k)
theorem kn_{n:Nat}{X Y:Mx}{k:Nat}(h:∀j,j≤n→X k j=Y k j):rT n X k=rT n Y k:=by
 unfold rT tabP;exact List.map_congr_left fun t ht=>h t (by have:=List.mem_range.1 ht;omega)
@[simp] theorem rT_length (n:Nat)(X:Mx)(k:Nat):(rT n X k).length=n+1:=by simp[rT]
def scJ(X:Mx)(r:Nat)(f:Rat)(j:Nat):Mx:=fun i t=>if i=r∧t< j then X i t* f else X i t
theorem scJ_0(X:Mx)(r:Nat)(f:Rat):scJ X r f 0=X:=funext fun i=>funext fun t=>if_neg fun e=>by omega
theorem scJ_at(X:Mx)(r:Nat)(f:Rat)(j:Nat):scJ X r f j r j=X r j:=if_neg fun e=>by omega
theorem scJ_s(X:Mx)(r:Nat)(f:Rat)(j:Nat):scJ X r f (j+1)=puM (scJ X r f j) r j (X r j* f):=funext fun i=>funext fun t=>by
 show(if i=r∧t< j+1 then X i t* f else X i t)=if i=r∧t=j then X r j* f else if i=r∧t< j then X i t* f else X i t
 by_cases h1:i=r;subst h1;by_cases h2:t=j;subst h2;simp;by_cases h3:t< j;rw[if_pos ⟨rfl,by omega⟩,if_neg (fun e=>h2 e.2),if_pos ⟨rfl,h3⟩];rw[if_neg (fun e=>by omega),if_neg (fun e=>h2 e.2),if_neg (fun e=>h3 e.2)];rw[if_neg (fun e=>h1 e.1),if_neg (fun e=>h1 e.1),if_neg (fun e=>h1 e.1)]
theorem scJ_n{X:Mx}{r n:Nat}{f:Rat}(k j:Nat)(h:j≤n):scJ X r f (n+1) k j=scM X r f k j:=by
 unfold scJ scM;by_cases h1:k=r;rw[if_pos ⟨h1,by omega⟩,if_pos h1];rw[if_neg (fun e=>h1 e.1),if_neg h1]
def rdJ(X:Mx)(r c i j:Nat):Mx:=fun k t=>if k≠r∧(k< i∨(k=i∧t< j)) then X k t- X k c* X r t else X k t
theorem rdJ_0(X:Mx)(r c:Nat):rdJ X r c 0 0=X:=funext fun i=>funext fun t=>if_neg fun e=>by omega
theorem rdJ_at(X:Mx)(r c i j:Nat):rdJ X r c i j i j=X i j:=if_neg fun e=>by omega
theorem rdJ_c(X:Mx)(r c i:Nat):rdJ X r c i 0 i=X i:=funext fun t=>if_neg fun e=>by omega
theorem rdJ_r(X:Mx)(r c i j:Nat):rdJ X r c i j r=X r:=funext fun t=>if_neg fun e=>e.1 rfl
theorem rdJ_s{X:Mx}{r c i j:Nat}(h:i≠r):rdJ X r c i (j+1)=puM (rdJ X r c i j) i j (X i j- X i c* X r j):=funext fun k=>funext fun t=>by
 show(if k≠r∧(k< i∨(k=i∧t< j+1)) then X k t- X k c* X r t else X k t)=if k=i∧t=j then X i j- X i c* X r j else if k≠r∧(k< i∨(k=i∧t< j)) then X k t- X k c* X r t else X k t
 by_cases h1:k=i;subst h1;by_cases h2:t=j;subst h2;rw[if_pos ⟨h,.inr ⟨rfl,by omega⟩⟩,if_pos ⟨rfl,rfl⟩];by_cases h3:t< j;rw[if_pos ⟨h,.inr ⟨rfl,by omega⟩⟩,if_neg (fun e=>h2 e.2),if_pos ⟨h,.inr ⟨rfl,h3⟩⟩];rw[if_neg (fun e=>by omega),if_neg (fun e=>h2 e.2),if_neg (fun e=>by omega)];rw[if_neg (show¬(k=i∧t=j) from fun e=>h1 e.1)];by_cases h2:k≠r∧k< i;rw[if_pos ⟨h2.1,.inl h2.2⟩,if_pos ⟨h2.1,.inl h2.2⟩];rw[if_neg (fun e=>h2 ⟨e.1,by omega⟩),if_neg (fun e=>h2 ⟨e.1,by omega⟩)]
theorem rdJ_n{X:Mx}{r c n:Nat}(i k j:Nat)(h:j≤n):rdJ X r c i (n+1) k j=rdJ X r c (i+1) 0 k j:=by
 unfold rdJ;by_cases h1:k≠r∧k< i+1;rw[if_pos ⟨h1.1,by omega⟩,if_pos ⟨h1.1,.inl h1.2⟩];rw[if_neg (fun e=>h1 ⟨e.1,by omega⟩),if_neg (fun e=>h1 ⟨e.1,by omega⟩)]
theorem n8_{X:Mx}{r c i:Nat}(h:i=r∨X i c=0):rdJ X r c (i+1) 0=rdJ X r c i 0:=funext fun k=>funext fun t=>by
 unfold rdJ;by_cases h1:k=i;subst h1;rw[if_neg (show¬(k≠r∧(k< k∨k=k∧t< 0)) from fun e=>by omega)];rcases h with h|h
 rw[if_neg (fun e=>e.1 h)];split;rw[h];grind;rfl;by_cases h2:k≠r∧k< i;rw[if_pos ⟨h2.1,by omega⟩,if_pos ⟨h2.1,.inl h2.2⟩];rw[if_neg (fun e=>h2 ⟨e.1,by omega⟩),if_neg (fun e=>h2 ⟨e.1,by omega⟩)]
theorem rdJ_end{X:Mx}{r c n k:Nat}(h:k< n)(j:Nat):rdJ X r c n 0 k j=rdM X r c k j:=by
 unfold rdJ rdM;by_cases h1:k=r;rw[if_neg (fun e=>e.1 h1),if_pos h1];rw[if_pos ⟨h1,.inl h⟩,if_neg h1]
def slB(s:Nat):Nat→Nat
 |0=>s
 |c+1=>4* slB s c+2
theorem nX_{s:Nat}{k n:Nat}(h:k≤n):slB s k≤slB s n:=by
 induction n with
 |zero=>rw[show k=0 by omega];exact Nat.le_refl _
 |succ n ih=>
  by_cases e:k=n+1;rw[e];exact Nat.le_refl _;have:=ih (by omega);rw[slB];omega
theorem bd_slC{A:Mx}{n s c:Nat}{L:List Nat}(h:bdM A n s)(hL:L.length≤c)(hc:c< n):bdM (slC A n L c).1 n (4* s+2):=by
 unfold slC;cases e:pvR A n L.length c with
 |none=>exact fun i j hi hj=>Nat.le_trans (h i j hi hj) (by omega)
 |some p=>
  obtain⟨p1,p2,p3⟩:=hZ_ e;have hr:L.length< n:=by omega
  have h1:=bd_sw h hr p1
  have hsc:∀j,j≤n→qs (scM (swM A L.length p) L.length (1/ A p c) L.length j)≤2* s+1:=fun j hj=>by
   unfold scM;rw[if_pos rfl];have a1:=h1 L.length j hr hj;have a2:=e1_ 1 (A p c);have a0:qs 1≤1:=by decide
   have a3:=h p c p1 (by omega);have a4:=cE_ (swM A L.length p L.length j) (1/ A p c);omega
  intro i j hi hj;show qs (rdM (scM (swM A L.length p) L.length (1/ A p c)) L.length c i j)≤_;unfold rdM;by_cases hir:i=L.length;subst hir;rw[if_pos rfl];have:=hsc j hj;omega;rw[if_neg hir];have b1:∀t,scM (swM A L.length p) L.length (1/ A p c) i t=swM A L.length p i t:=fun t=>if_neg hir;rw[b1,b1];have c1:=h1 i j hi hj;have c2:=h1 i c hi (by omega);have c3:=hsc j hj;have c4:=cE_ (swM A L.length p i c) (scM (swM A L.length p) L.length (1/ A p c) L.length j);have c5:=q4_ (swM A L.length p i j) (swM A L.length p i c* scM (swM A L.length p) L.length (1/ A p c) L.length j);omega
theorem bd_slM{M:Mx}{n s:Nat}(h:bdM M n s):∀c,c≤n→bdM (slM M n c).1 n (slB s c)
 |0,_=>h
 |c+1,hc=>bd_slC (bd_slM h c (by omega)) (eW_ M n c).len (by omega)
def oneJ(A:Mx)(n:Nat)(L:List Nat)(i:Nat):List Rat:=tabP n fun j=>if (L.take i).contains j then A (L.idxOf j) n else 0
def oneL(A:Mx)(n:Nat)(L:List Nat):List Rat:=tabP n (oneX A n L)
@[simp] theorem m1_ (A:Mx)(n:Nat)(L:List Nat)(i:Nat):(oneJ A n L i).length=n:=by simp[oneJ]
@[simp] theorem oneL_length (A:Mx)(n:Nat)(L:List Nat):(oneL A n L).length=n:=by simp[oneL]
theorem tab_zero(n:Nat):tabP n (fun _=>0)=List.replicate n (0:Rat):=by
 unfold tabP;rw[List.eq_replicate_iff];refine⟨by simp,fun b hb=>?_⟩;obtain⟨_,_,e⟩:=List.mem_map.1 hb;exact e.symm
theorem oneJ_0(A:Mx)(n:Nat)(L:List Nat):oneJ A n L 0=List.replicate n (0:Rat):=by
 unfold oneJ;rw[←tab_zero];congr 1
theorem oneJ_n{A:Mx}{n:Nat}{L:List Nat}{i:Nat}(h:L.length≤i):oneJ A n L i=oneL A n L:=by
 unfold oneJ oneL;rw[List.take_of_length_le h];rfl
theorem oneJ_get{A:Mx}{n:Nat}{L:List Nat}{i c:Nat}(h:c< n):∀e:Nat,e=c→∃v,(pE (oneJ A n L i))[e]?=some (qC v):=fun e he=>by
 subst he;exact⟨_,df_ h e rfl⟩
theorem oneJ_s{A:Mx}{n c0:Nat}{L:List Nat}{i c:Nat}(hE:Ech A n c0 L)(hl:L[i]?=some c)(hc:c< n):∀e:Nat,e=c→(pE (oneJ A n L i)).set e (qC (A i n))=pE (oneJ A n L (i+1)):=fun e he=>by
 subst he;rw[gm_];congr 1;have ht1:L.take (i+1)=L.take i++[e]:=by rw[List.take_add_one,hl];rfl
 refine List.ext_getElem? fun t=>?_;rw[List.getElem?_set,m1_];by_cases ht:t< n;by_cases h1:e=t;subst h1;rw[if_pos rfl,if_pos ht];unfold oneJ tabP;rw[List.getElem?_map,List.getElem?_range ht,ht1,Option.map_some,if_pos (by simp),hE.idx hl];rw[if_neg h1];unfold oneJ tabP;rw[List.getElem?_map,List.getElem?_map,List.getElem?_range ht,ht1,Option.map_some,Option.map_some]
 have h2:(L.take i++[e]).contains t=(L.take i).contains t:=by
  simp only[List.contains_eq_mem,List.mem_append,List.mem_singleton];simp[show¬t=e from fun e'=>h1 e'.symm]
 rw[h2];rw[if_neg (by omega),List.getElem?_eq_none (by simp;omega),List.getElem?_eq_none (by simp;omega)]
def rowsL(n:Nat)(A:Mx):List (List Rat):=(List.range n).map fun k=>tabP (n+1) (A k)
@[simp] theorem rowsL_length (n:Nat)(A:Mx):(rowsL n A).length=n:=by simp[rowsL]
theorem lM_{n i:Nat}{A:Mx}(h:i< n):(rowsL n A)[i]?=some (tabP (n+1) (A i)):=by simp[rowsL,h]
def noneB(n:Nat)(A:Mx)(L:List Nat):Bool:=((rowsL n A).drop L.length).any fun e=>decide (coP e n≠0)
def smF(c:Rat)(o:List Rat)(p:List Rat×List Rat):List Rat:=addP o (aN_ p.1 c)
def smL2:Ke→List Rat→List Rat→List Rat
 |[],_,o=>o
 |p::k,c,o=>smL2 k c.tail (smF (coP c 0) o p)
def smK(k:Ke)(c:List Rat)(i:Nat):List Rat:=smL2 (k.take i) c []
theorem lC_:∀(k:Ke) (c o:List Rat) (p:List Rat×List Rat),smL2 (k++[p]) c o=smF (coP c k.length) (smL2 k c o) p
 |[],c,o,p=>rfl
 |q::k,c,o,p=>by
  rw[List.cons_append,smL2,lC_ k,smL2];congr 1;cases c with
  |nil=>simp[coP]
  |cons a c=>rfl
theorem smK_s{k:Ke}{c:List Rat}{i:Nat}{p:List Rat×List Rat}(h:k[i]?=some p):smK k c (i+1)=smF (coP c i) (smK k c i) p:=by
 have ht:k.take (i+1)=k.take i++[p]:=by rw[List.take_add_one,h];rfl
 have hl:=(List.getElem?_eq_some_iff.1 h).1;unfold smK;rw[ht,lC_,List.length_take,Nat.min_eq_left (by omega)]
end Go.Abs
namespace Go.Proofs.YtjkddcfoolilbaaGreatDoor
open Go.Abs
set_option maxRecDepth 20000
theorem hmix:Tryz.prog.follows .mixedOrders=true:=by kernel_rfl
instance:T4 Tryz.prog 2 [Value.int IntKind.i64 0] 1 false 8:=⟨by kernel_rfl⟩
instance tu_2:TU Tryz.prog 2 (.int .i64):=⟨by kernel_rfl⟩
instance:T4 Tryz.prog 3 [Value.int IntKind.i64 0] 1 false 8:=⟨by kernel_rfl⟩
instance tu_3:TU Tryz.prog 3 (.int .i64):=⟨by kernel_rfl⟩
instance:T4 Tryz.prog 4 [Value.bool false] 1 false 1:=⟨by kernel_rfl⟩
instance tu_4:TU Tryz.prog 4 .bool:=⟨by kernel_rfl⟩
instance:T4 Tryz.prog 5 [Value.int IntKind.u8 0] 1 false 1:=⟨by kernel_rfl⟩
instance tu_5:TU Tryz.prog 5 (.int .u8):=⟨by kernel_rfl⟩
instance:T3 Tryz.prog 9 1 false 16:=⟨by kernel_rfl⟩
instance tu_9:TU Tryz.prog 9 .string:=⟨by kernel_rfl⟩
instance:T4 Tryz.prog 22 [Value.slice none 0 0] 1 false 24:=⟨by kernel_rfl⟩
instance te_22:TE Tryz.prog 22 (93,2):=⟨by kernel_rfl⟩
instance:T4 Tryz.prog 24 [Value.int IntKind.i64 0,Value.int IntKind.i64 0,Value.int IntKind.u8 0] 3 true 24:=⟨by kernel_rfl⟩
instance tp_24:TP Tryz.prog 24 [(0,1),(1,1),(2,1)]:=⟨by kernel_rfl⟩
instance:T2 Tryz.prog 24 0 (0,1) false:=⟨by kernel_rfl⟩
instance:T2 Tryz.prog 24 1 (1,1) false:=⟨by kernel_rfl⟩
instance:T2 Tryz.prog 24 2 (2,1) false:=⟨by kernel_rfl⟩
instance:T4 Tryz.prog 25 [Value.slice none 0 0] 1 false 24:=⟨by kernel_rfl⟩
instance te_25:TE Tryz.prog 25 (24,3):=⟨by kernel_rfl⟩
instance:T4 Tryz.prog 26 [Value.slice none 0 0] 1 false 24:=⟨by kernel_rfl⟩
instance te_26:TE Tryz.prog 26 (98,2):=⟨by kernel_rfl⟩
instance:T4 Tryz.prog 27 [Value.slice none 0 0] 1 false 24:=⟨by kernel_rfl⟩
instance te_27:TE Tryz.prog 27 (98,2):=⟨by kernel_rfl⟩
instance:T4 Tryz.prog 29 [Value.slice none 0 0] 1 false 24:=⟨by kernel_rfl⟩
instance te_29:TE Tryz.prog 29 (100,2):=⟨by kernel_rfl⟩
instance:T4 Tryz.prog 32 [Value.slice none 0 0] 1 false 24:=⟨by kernel_rfl⟩
instance te_32:TE Tryz.prog 32 (46,3):=⟨by kernel_rfl⟩
instance:T4 Tryz.prog 33 [Value.slice none 0 0] 1 false 24:=⟨by kernel_rfl⟩
instance te_33:TE Tryz.prog 33 (46,3):=⟨by kernel_rfl⟩
instance:T4 Tryz.prog 34 [Value.slice none 0 0] 1 false 24:=⟨by kernel_rfl⟩
instance te_34:TE Tryz.prog 34 (51,4):=⟨by kernel_rfl⟩
instance:T4 Tryz.prog 35 [Value.slice none 0 0] 1 false 24:=⟨by kernel_rfl⟩
instance te_35:TE Tryz.prog 35 (51,4):=⟨by kernel_rfl⟩
instance:T4 Tryz.prog 40 [Value.slice none 0 0] 1 false 24:=⟨by kernel_rfl⟩
instance te_40:TE Tryz.prog 40 (204,1):=⟨by kernel_rfl⟩
instance:T4 Tryz.prog 42 [Value.slice none 0 0] 1 true 24:=⟨by kernel_rfl⟩
instance tp_42:TP Tryz.prog 42 [(0,1)]:=⟨by kernel_rfl⟩
instance:T2 Tryz.prog 42 0 (0,1) false:=⟨by kernel_rfl⟩
instance:T4 Tryz.prog 44 [Value.slice none 0 0,Value.bool false] 2 true 32:=⟨by kernel_rfl⟩
instance tp_44:TP Tryz.prog 44 [(0,1),(1,1)]:=⟨by kernel_rfl⟩
instance:T2 Tryz.prog 44 0 (0,1) true:=⟨by kernel_rfl⟩
instance:T2 Tryz.prog 44 1 (1,1) false:=⟨by kernel_rfl⟩
instance:T4 Tryz.prog 46 [Value.slice none 0 0,Value.bool false,Value.slice none 0 0] 3 true 56:=⟨by kernel_rfl⟩
instance tp_46:TP Tryz.prog 46 [(0,2),(2,1)]:=⟨by kernel_rfl⟩
instance:T2 Tryz.prog 46 0 (0,2) true:=⟨by kernel_rfl⟩
instance:T2 Tryz.prog 46 1 (2,1) true:=⟨by kernel_rfl⟩
instance:T4 Tryz.prog 47 [Value.slice none 0 0] 1 false 24:=⟨by kernel_rfl⟩
instance te_47:TE Tryz.prog 47 (3,1):=⟨by kernel_rfl⟩
instance:T4 Tryz.prog 49 [Value.int IntKind.i64 0,Value.slice none 0 0] 2 true 32:=⟨by kernel_rfl⟩
instance tp_49:TP Tryz.prog 49 [(0,1),(1,1)]:=⟨by kernel_rfl⟩
instance:T2 Tryz.prog 49 0 (0,1) false:=⟨by kernel_rfl⟩
instance:T2 Tryz.prog 49 1 (1,1) false:=⟨by kernel_rfl⟩
instance:T4 Tryz.prog 51 [Value.int IntKind.i64 0,Value.slice none 0 0,Value.int IntKind.i64 0,Value.slice none 0 0] 4 true 64:=⟨by kernel_rfl⟩
instance tp_51:TP Tryz.prog 51 [(0,2),(2,2)]:=⟨by kernel_rfl⟩
instance:T2 Tryz.prog 51 0 (0,2) true:=⟨by kernel_rfl⟩
instance:T2 Tryz.prog 51 1 (2,2) true:=⟨by kernel_rfl⟩
instance:T4 Tryz.prog 58 [Value.slice none 0 0,Value.slice none 0 0,Value.bool false,Value.slice none 0 0,Value.slice none 0 0] 5 true 104:=⟨by kernel_rfl⟩
instance tp_58:TP Tryz.prog 58 [(0,1),(1,3),(4,1)]:=⟨by kernel_rfl⟩
instance:T2 Tryz.prog 58 0 (0,1) false:=⟨by kernel_rfl⟩
instance:T2 Tryz.prog 58 1 (1,3) true:=⟨by kernel_rfl⟩
instance:T2 Tryz.prog 58 2 (4,1) false:=⟨by kernel_rfl⟩
instance:T4 Tryz.prog 74 [Value.slice none 0 0,Value.bool false,Value.slice none 0 0,Value.slice none 0 0,Value.bool false,Value.slice none 0 0] 6 true 112:=⟨by kernel_rfl⟩
instance tp_74:TP Tryz.prog 74 [(0,3),(3,3)]:=⟨by kernel_rfl⟩
instance:T2 Tryz.prog 74 0 (0,3) true:=⟨by kernel_rfl⟩
instance:T2 Tryz.prog 74 1 (3,3) true:=⟨by kernel_rfl⟩
instance:T4 Tryz.prog 77 [Value.slice none 0 0] 1 false 24:=⟨by kernel_rfl⟩
instance te_77:TE Tryz.prog 77 (33,1):=⟨by kernel_rfl⟩
instance:T4 Tryz.prog 93 [Value.slice none 0 0,Value.slice none 0 0] 2 true 48:=⟨by kernel_rfl⟩
instance tp_93:TP Tryz.prog 93 [(0,1),(1,1)]:=⟨by kernel_rfl⟩
instance:T2 Tryz.prog 93 0 (0,1) false:=⟨by kernel_rfl⟩
instance:T2 Tryz.prog 93 1 (1,1) false:=⟨by kernel_rfl⟩
instance:T4 Tryz.prog 98 [Value.slice none 0 0,Value.slice none 0 0] 2 true 48:=⟨by kernel_rfl⟩
instance tp_98:TP Tryz.prog 98 [(0,1),(1,1)]:=⟨by kernel_rfl⟩
instance:T2 Tryz.prog 98 0 (0,1) false:=⟨by kernel_rfl⟩
instance:T2 Tryz.prog 98 1 (1,1) false:=⟨by kernel_rfl⟩
instance:T4 Tryz.prog 100 [Value.slice none 0 0,Value.slice none 0 0] 2 true 48:=⟨by kernel_rfl⟩
instance tp_100:TP Tryz.prog 100 [(0,1),(1,1)]:=⟨by kernel_rfl⟩
instance:T2 Tryz.prog 100 0 (0,1) false:=⟨by kernel_rfl⟩
instance:T2 Tryz.prog 100 1 (1,1) false:=⟨by kernel_rfl⟩
instance:T4 Tryz.prog 106 [Value.slice none 0 0,Value.slice none 0 0,Value.bool false,Value.slice none 0 0,Value.slice none 0 0,Value.bool false,Value.slice none 0 0,Value.slice none 0 0,Value.bool false,Value.slice none 0 0] 10 true 192:=⟨by kernel_rfl⟩
instance tp_106:TP Tryz.prog 106 [(0,1),(1,3),(4,3),(7,3)]:=⟨by kernel_rfl⟩
instance:T2 Tryz.prog 106 0 (0,1) false:=⟨by kernel_rfl⟩
instance:T2 Tryz.prog 106 1 (1,3) true:=⟨by kernel_rfl⟩
instance:T2 Tryz.prog 106 2 (4,3) true:=⟨by kernel_rfl⟩
instance:T2 Tryz.prog 106 3 (7,3) true:=⟨by kernel_rfl⟩
instance:T4 Tryz.prog 114 [Value.slice none 0 0,Value.slice none 0 0,Value.bool false,Value.slice none 0 0,Value.slice none 0 0,Value.slice none 0 0,Value.bool false,Value.slice none 0 0,Value.slice none 0 0,Value.bool false,Value.slice none 0 0] 11 true 216:=⟨by kernel_rfl⟩
instance tp_114:TP Tryz.prog 114 [(0,5),(5,6)]:=⟨by kernel_rfl⟩
instance:T2 Tryz.prog 114 0 (0,5) true:=⟨by kernel_rfl⟩
instance:T2 Tryz.prog 114 1 (5,6) true:=⟨by kernel_rfl⟩
instance:T4 Tryz.prog 125 [Value.slice none 0 0] 1 false 24:=⟨by kernel_rfl⟩
instance te_125:TE Tryz.prog 125 (32,1):=⟨by kernel_rfl⟩
instance:T4 Tryz.prog 126 [Value.slice none 0 0] 1 false 24:=⟨by kernel_rfl⟩
instance te_126:TE Tryz.prog 126 (32,1):=⟨by kernel_rfl⟩
instance:T4 Tryz.prog 129 [Value.nilFunc] 1 false 8:=⟨by kernel_rfl⟩
instance:T4 Tryz.prog 131 [Value.slice none 0 0,Value.slice none 0 0,Value.int IntKind.i64 0] 3 true 56:=⟨by kernel_rfl⟩
instance tp_131:TP Tryz.prog 131 [(0,1),(1,1),(2,1)]:=⟨by kernel_rfl⟩
instance:T2 Tryz.prog 131 0 (0,1) false:=⟨by kernel_rfl⟩
instance:T2 Tryz.prog 131 1 (1,1) false:=⟨by kernel_rfl⟩
instance:T2 Tryz.prog 131 2 (2,1) false:=⟨by kernel_rfl⟩
instance:T4 Tryz.prog 148 [Value.nilFunc] 1 false 8:=⟨by kernel_rfl⟩
instance:T4 Tryz.prog 151 [Value.nilFunc] 1 false 8:=⟨by kernel_rfl⟩
instance:T4 Tryz.prog 161 [Value.nilFunc] 1 false 8:=⟨by kernel_rfl⟩
instance:T4 Tryz.prog 162 [Value.slice none 0 0] 1 false 24:=⟨by kernel_rfl⟩
instance te_162:TE Tryz.prog 162 (2,1):=⟨by kernel_rfl⟩
instance:T4 Tryz.prog 166 [Value.nilFunc] 1 false 8:=⟨by kernel_rfl⟩
instance:T4 Tryz.prog 168 [Value.slice none 0 0,Value.bool false,Value.slice none 0 0,Value.slice none 0 0,Value.bool false,Value.slice none 0 0,Value.int IntKind.i64 0] 7 true 120:=⟨by kernel_rfl⟩
instance tp_168:TP Tryz.prog 168 [(0,6),(6,1)]:=⟨by kernel_rfl⟩
instance:T2 Tryz.prog 168 0 (0,6) true:=⟨by kernel_rfl⟩
instance:T2 Tryz.prog 168 1 (6,1) false:=⟨by kernel_rfl⟩
instance:T4 Tryz.prog 170 [Value.nilFunc] 1 false 8:=⟨by kernel_rfl⟩
instance:T4 Tryz.prog 171 [Value.pointer none] 1 false 8:=⟨by kernel_rfl⟩
instance:T4 Tryz.prog 172 [Value.slice none 0 0] 1 false 24:=⟨by kernel_rfl⟩
instance te_172:TE Tryz.prog 172 (5,1):=⟨by kernel_rfl⟩
instance:T4 Tryz.prog 174 [Value.pointer none,Value.slice none 0 0] 2 true 32:=⟨by kernel_rfl⟩
instance tp_174:TP Tryz.prog 174 [(0,1),(1,1)]:=⟨by kernel_rfl⟩
instance:T2 Tryz.prog 174 0 (0,1) false:=⟨by kernel_rfl⟩
instance:T2 Tryz.prog 174 1 (1,1) false:=⟨by kernel_rfl⟩
instance:T4 Tryz.prog 187 [Value.nilFunc] 1 false 8:=⟨by kernel_rfl⟩
instance:T4 Tryz.prog 193 [Value.nilFunc] 1 false 8:=⟨by kernel_rfl⟩
instance:T4 Tryz.prog 204 [Value.int IntKind.u32 0] 1 false 4:=⟨by kernel_rfl⟩
instance tu_204:TU Tryz.prog 204 (.int .u32):=⟨by kernel_rfl⟩
instance:T4 Tryz.prog 205 [Value.int IntKind.u64 0] 1 false 8:=⟨by kernel_rfl⟩
instance tu_205:TU Tryz.prog 205 (.int .u64):=⟨by kernel_rfl⟩
instance:T4 Tryz.prog 217 [Value.pointer none] 1 false 8:=⟨by kernel_rfl⟩
instance:T4 Tryz.prog 228 [Value.nilFunc] 1 false 8:=⟨by kernel_rfl⟩
instance:T4 Tryz.prog 237 [Value.nilFunc] 1 false 8:=⟨by kernel_rfl⟩
instance:T4 Tryz.prog 240 [Value.nilFunc] 1 false 8:=⟨by kernel_rfl⟩
instance:T4 Tryz.prog 246 [Value.pointer none] 1 false 8:=⟨by kernel_rfl⟩
instance:T4 Tryz.prog 248 [Value.pointer none] 1 false 8:=⟨by kernel_rfl⟩
instance:T4 Tryz.prog 250 [Value.pointer none,Value.int IntKind.i64 0] 2 true 16:=⟨by kernel_rfl⟩
instance tp_250:TP Tryz.prog 250 [(0,1),(1,1)]:=⟨by kernel_rfl⟩
instance:T2 Tryz.prog 250 0 (0,1) false:=⟨by kernel_rfl⟩
instance:T2 Tryz.prog 250 1 (1,1) false:=⟨by kernel_rfl⟩
instance:T4 Tryz.prog 253 [Value.pointer none] 1 false 8:=⟨by kernel_rfl⟩
instance:T4 Tryz.prog 257 [Value.int IntKind.u64 0] 1 false 8:=⟨by kernel_rfl⟩
instance tu_257:TU Tryz.prog 257 (.int .u64):=⟨by kernel_rfl⟩
instance:T4 Tryz.prog 271 [Value.nilFunc] 1 false 8:=⟨by kernel_rfl⟩
instance:T4 Tryz.prog 278 [Value.slice none 0 0,Value.slice none 0 0,Value.int IntKind.i64 0] 3 true 56:=⟨by kernel_rfl⟩
instance tp_278:TP Tryz.prog 278 [(0,1),(1,1),(2,1)]:=⟨by kernel_rfl⟩
instance:T2 Tryz.prog 278 0 (0,1) false:=⟨by kernel_rfl⟩
instance:T2 Tryz.prog 278 1 (1,1) false:=⟨by kernel_rfl⟩
instance:T2 Tryz.prog 278 2 (2,1) false:=⟨by kernel_rfl⟩
instance:T4 Tryz.prog 281 [Value.nilFunc] 1 false 8:=⟨by kernel_rfl⟩
instance:T3 Tryz.prog 287 24 true 24:=⟨by kernel_rfl⟩
instance:T4 Tryz.prog 312 [Value.nilFunc] 1 false 8:=⟨by kernel_rfl⟩
instance:T3 Tryz.prog 315 20 true 160:=⟨by kernel_rfl⟩
instance:T3 Tryz.prog 316 65 true 65:=⟨by kernel_rfl⟩
instance:T3 Tryz.prog 331 32 true 32:=⟨by kernel_rfl⟩
instance:T3 Tryz.prog 332 64 true 64:=⟨by kernel_rfl⟩
abbrev FS:=FSpec Tryz.prog
theorem rQ_(l:List Nat):FS 107 [.agg [.arr (dE l)]] (bln (l.length==0)):=by
 refine f_n Tryz.func107 ?_ ?_;exact aa_ (ay_ (aa_ (bl_ l) ac_)) ac_;refine r_z 2 ?_;refine r_z 5 ?_;refine af_ (aD_ rfl ?_ (ad_ _));simp only[bln,gH_];congr 2;rw[Bool.eq_iff_iff];simp
theorem dP_(l:List Nat)(hl:l.length≤281474976710656):FS 144 [.arr (dE l)] (.agg [.arr (dE (trimD l))]):=by
 refine f_n Tryz.func144 ?_ ?_;exact aa_ (bl_ l) ac_;refine r_z 1 ?_;refine r_z 3 ?_;refine aP_ (fun k:Nat=>⟨[(0,.arr (dE l)),(2,.lptr 1 0 0),(3,i64 k)],[(1,some ⟨42,1,[[.emp]]⟩)],2,23⟩) (fun k=>k≤l.length∧trimD l=l.take k) ?_ ?_;refine ae_ (aq_ (fun k:Nat=>⟨[(0,.arr (dE l)),(2,.lptr 1 0 0),(3,i64 k)],[(1,some ⟨42,1,[[.emp]]⟩)],2,23⟩) (fun k=>k) (fun k=>k≤l.length∧∀i,k≤i→i< l.length→l[i]?=some 0) l.length ⟨Nat.le_refl _,fun i h1 h2=>by omega⟩ ?_ ?_);exact s_e [];rintro k ⟨hk,hz⟩;have fin:k=0∨l[k- 1]?≠some 0→trimD l=l.take k:=fl_ l k hk hz;by_cases h0:k=0;subst h0;refine ab_ (s_r 10 ?_);refine a_3 ?_;refine n_g rfl d_f ?_;refine n_g rfl d_f ?_;refine n_g rfl d_f ?_;refine n_g rfl d_f ?_;refine n_g rfl d_f ?_;refine n_g rfl d_f ?_;refine o_0 (.pickF rfl d_f rfl) ?_;refine al_ ?_;refine aj_ rfl (fun h=>?_) (fun _=>?_);cases h;refine ao_ ⟨0,⟨hk,fin (.inl rfl)⟩,?_⟩;exact s_e [];have hk1:k- 1< l.length:=by omega
 obtain⟨d,hd⟩:∃d,l[k- 1]?=some d:=⟨_,List.getElem?_eq_getElem hk1⟩;have hd':(dE l)[((k:Int)- 1).toNat]?=some [u32 d]:=by rw[show((k:Int)- 1).toNat=k- 1 by omega];exact cc_ hd
 refine ab_ (s_r 10 ?_);refine a_3 ?_;refine y_g rfl d_t (.move rfl) ?_;refine y_g rfl d_t (.move rfl) ?_;refine y_g rfl d_t (.bin rfl rfl (gO_ (by omega))) ?_
 first|refine y_g rfl d_t (.index_l rfl rfl (by omega) (by omega) te_40.h) ?_|refine y_g rfl d_t (.index_a rfl rfl (by omega) hd' rfl te_40.h) ?_
 first|refine y_g rfl d_t (.load_l1 rfl rfl hd' TG.h rfl) ?_|refine y_g rfl d_t (.load_a1 rfl hd' TG.h rfl) ?_
 refine y_g rfl d_t (.bin rfl rfl a3_) ?_;refine o_0 (.pickT rfl d_t rfl) ?_;refine al_ ?_;refine aj_ rfl (fun h=>?_) (fun h=>?_);refine ah_ ?_;have hd0:d=0:=by simpa using h
 subst hd0;refine ae_ (r_m 3 ?_);refine a_z ?_;refine⟨k- 1,by omega,⟨by omega,fun i h1 h2=>?_⟩,?_⟩;by_cases hi:i=k- 1;rw[hi];exact hd;exact hz i (by omega) h2;exact s_e [];refine ao_ ⟨k,⟨hk,fin (.inr ?_)⟩,?_⟩;rw[hd];simp at h⊢;omega;exact s_e [];rintro k ⟨hk,ht⟩;refine s_r 6 ?_;refine a_3 ?_;refine o_0 (.sa_hm rfl rfl rfl rfl rfl ⟨Nat.le_refl _,by simpa using hk⟩ te_40.h (nv_ l)) ?_;refine a_z ?_;refine af_ (bQ_ rfl rfl rfl TG.h TS.h (nle rfl) ?_ (ay_ (aa_ (bl_ _) ac_)));rw[ht,←sE_];rfl
end Go.Proofs.YtjkddcfoolilbaaGreatDoor
