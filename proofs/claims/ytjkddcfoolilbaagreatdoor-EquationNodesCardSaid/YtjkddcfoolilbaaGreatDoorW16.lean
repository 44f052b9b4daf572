/- Part W16 of the proof. -/
import Derived.Test.YtjkddcfoolilbaaGreatDoorW15
set_option linter.all false
namespace Go.Abs
theorem HS.take{p:List Rat}{K:Rat}{h:Nat}(H:HS p K h)(n:Nat):HS (p.take n) K h:=⟨H.ne,H.sc,fun i=>by
 rw[oM_];split;exact H.co i;exact(IB.zero h).eq (by grind)⟩
theorem oz_{f:List Rat×List Rat→List Rat}{m:Nat}:∀k:Ke,(∀p∈k,(f p).length≤m)→(k.flatMap f).length≤m* k.length
 |[],_=>by simp
 |p::k,h=>by
  have h1:=h p (List.mem_cons_self ..);have h2:=oz_ k fun q hq=>h q (List.mem_cons_of_mem _ hq);rw[List.flatMap_cons,List.length_append,List.length_cons,Nat.mul_succ];omega
theorem sJ_{f:List Rat×List Rat→List Rat}{k:Ke}(hl:k.length≤3)(h4:∀p∈k,(f p).length≤4)(hb:∀p∈k,bdL (f p) 20):∃K,K≠0∧IB K 241∧∀p∈k,HS (f p) K 241:=by
 obtain⟨K,H⟩:=nx_ (s:=20) (k.flatMap f) fun q hq=>by
  obtain⟨p,hp,hq⟩:=List.mem_flatMap.1 hq;exact hb p hp q hq
 have hfl:=oz_ k h4;have H:=H.mono (show _≤241 by omega);refine⟨K,H.ne,H.sc,fun p hp=>⟨H.ne,H.sc,fun i=>?_⟩⟩;by_cases hi:i< (f p).length
 have hm:coP (f p) i∈k.flatMap f:=List.mem_flatMap.2 ⟨p,hp,by
  unfold coP;rw[List.getD_eq_getElem?_getD,List.getElem?_eq_getElem hi];exact List.getElem_mem hi⟩
 obtain⟨j,_,e⟩:=nr_ hm;rw[←e];exact H.co j;rw[ec_ (by omega)];exact(IB.zero _).eq (by grind)
theorem KHS_tame{k:Ke}(hl:k.length≤3)(h4:∀p∈k,p.1.length≤4∧p.2.length≤4)(hb:∀p∈k,bdL p.1 20∧bdL p.2 20):∃KA KB,KHS k KA KB 241∧KA≠0∧KB≠0∧IB KA 241∧IB KB 241:=by
 obtain⟨KA,a1,a2,a3⟩:=sJ_ (f:=fun p=>p.1) hl (fun p hp=>(h4 p hp).1) fun p hp=>(hb p hp).1;obtain⟨KB,b1,b2,b3⟩:=sJ_ (f:=fun p=>p.2) hl (fun p hp=>(h4 p hp).2) fun p hp=>(hb p hp).2;exact⟨KA,KB,⟨h4,a3,b3⟩,a1,b1,a2,b2⟩
theorem sH_{k:Ke}{a d KA KB:Rat}{h:Nat}(hk:KHS k KA KB h)(A0:KA≠0)(B0:KB≠0)(IA:IB KA h)(IBB:IB KB h)(d0:d≠0)(hd:IB d 20)(ha:IB (a* d) 20):∃KA' KB',KHS (mvK a k) KA' KB' (h+70)∧KA'≠0∧KB'≠0∧IB KA' (h+70)∧IB KB' (h+70):=by
 have hp:=fQ_ hd 3
 have key:∀(l:List Rat) (K:Rat),K≠0→IB K h→HS l K h→l.length≤4→HS (compP [a,1] l) (K* d^ 3) (h+70):=fun l K K0 KI H hl=>by
  cases l with
  |nil=>exact⟨fun g=>(Rat.mul_eq_zero.1 g).elim K0 (pow_nz' d0 3),(KI.mul hp).mono (by omega),fun i=>(IB.zero _).eq (by show 0=(0:Rat) * _;grind)⟩
  |cons b l=>
   rw[List.length_cons] at hl;have h1:=lb_ d0 hd ha l b H;have e0:d^ l.length* d^ (3- l.length)=d^ 3:=by rw[←ir_,show l.length+(3- l.length)=3 by omega]
   have h2:=h1.rescale (pow_nz' d0 (3- l.length)) (fQ_ hd (3- l.length));rw[show K* d^ l.length* d^ (3- l.length)=K* d^ 3 by rw[←e0];grind] at h2;exact h2.mono (by omega)
 have m0:∀p∈mvK a k,∃q∈k,p=(compP [a,1] q.1,compP [a,1] q.2):=fun p hp=>by
  obtain⟨q,hq,e⟩:=List.mem_map.1 hp;exact⟨q,hq,e.symm⟩
 refine⟨KA* d^ 3,KB* d^ 3,⟨fun p hp=>?_,fun p hp=>?_,fun p hp=>?_⟩,fun g=>(Rat.mul_eq_zero.1 g).elim A0 (pow_nz' d0 3),fun g=>(Rat.mul_eq_zero.1 g).elim B0 (pow_nz' d0 3),(IA.mul hp).mono (by omega),(IBB.mul hp).mono (by omega)⟩;obtain⟨q,hq,rfl⟩:=m0 p hp;obtain⟨h3,h4⟩:=hk.len q hq;have h5:=em_ a q.1;have h6:=em_ a q.2;exact⟨by show(compP [a,1] q.1).length≤4;omega,by show(compP [a,1] q.2).length≤4;omega⟩;obtain⟨q,hq,rfl⟩:=m0 p hp;exact key _ _ A0 IA (hk.a q hq) (hk.len q hq).1;obtain⟨q,hq,rfl⟩:=m0 p hp;exact key _ _ B0 IBB (hk.b q hq) (hk.len q hq).2




section
variable {T:List Rat}{n:Nat}(hn:1≤n∧n≤5)(hl:T.length=n+1)(ht:trimQ T=T)(hm:leadP T=1)(hb:bdL T 20)
include hn hl ht hm hb
end
theorem lu_(n:Nat)(f:Nat→Rat):tabP (n+1) f=tabP n f++[f n]:=by simp[tabP,List.range_succ]
theorem aV_{k t:Nat}{x:Option ABlk}{l:Hp}(h:k≠t):lookB ((k,x)::l) t=lookB l t:=by
 rw[bk_];unfold upd;rw[if_neg (fun e=>h e.symm)]
def fiL(A:Nat→Nat→Rat)(n i:Nat):List (List (List AV)):=(List.range i).map fun k=>pE (tabP n (A k))
@[simp] theorem fm_ (A:Nat→Nat→Rat)(n i:Nat):(fiL A n i).length=i:=by simp[fiL]
theorem cM_{A:Nat→Nat→Rat}{n i k:Nat}(h:k< i):(fiL A n i)[k]?=some (pE (tabP n (A k))):=by simp[fiL,h]
theorem fiL_snoc(A:Nat→Nat→Rat)(n i:Nat):fiL A n i++[pE (tabP n (A i))]=fiL A n (i+1):=by simp[fiL,List.range_succ]
theorem hj_{A:Nat→Nat→Rat}{n i k:Nat}{e:List (List AV)}(h:(fiL A n i)[k]?=some e):k< i∧e=pE (tabP n (A k)):=by
 have h1:=(List.getElem?_eq_some_iff.1 h).1;rw[fm_] at h1;rw[cM_ h1] at h;cases h;exact⟨h1,rfl⟩
def foE(w:Nat→Nat)(s:Nat→Nat)(n m:Nat):List (List AV):=mzO 3 w s m++List.replicate (n- m) [.emp]
theorem dJ_{w:Nat→Nat}{s:Nat→Nat}{n m:Nat}(h:m≤n):(foE w s n m).length=n:=by simp[foE];omega
theorem foE_0(w:Nat→Nat)(s:Nat→Nat)(n:Nat):foE w s n 0=List.replicate n [.emp]:=rfl
theorem oy_{w:Nat→Nat}{s:Nat→Nat}{n m k:Nat}(h:k< m):(foE w s n m)[k]?=some [.lsl (s (k+2)) 0 (w k) none 3]:=by
 unfold foE;rw[List.getElem?_append_left (by simpa using h)];exact mU_ h
theorem r3_{w:Nat→Nat}{s:Nat→Nat}{n m k:Nat}(h:m≤k)(hk:k< n):(foE w s n m)[k]?=some [.emp]:=by
 unfold foE;rw[List.getElem?_append_right (by simpa using h),List.getElem?_replicate,if_pos (by simp only[fe_];omega)]
theorem r2_{w:Nat→Nat}{s:Nat→Nat}{n m k:Nat}(hm:m≤n)(hk:n≤k):(foE w s n m)[k]?=none:=by
 rw[List.getElem?_eq_none];rw[dJ_ hm];exact hk
theorem foE_n(w:Nat→Nat)(s:Nat→Nat)(n:Nat):foE w s n n=mzO 3 w s n:=by simp[foE]
theorem r4_{w w':Nat→Nat}{s s':Nat→Nat}{n m:Nat}(h:∀k,k< m→w k=w' k∧s (k+2)=s' (k+2)):foE w s n m=foE w' s' n m:=by
 unfold foE mzO;congr 1
 exact List.map_congr_left fun k hk=>by
  obtain⟨h1,h2⟩:=h k (List.mem_range.1 hk);rw[h1,h2]
theorem r1_{w w':Nat→Nat}{s s':Nat→Nat}{n m i:Nat}(hm:m=i∨m=i+1)(hi:i< n)(h:∀k,k< i→w k=w' k∧s (k+2)=s' (k+2)):∀e:Nat,e=i→(foE w s n m).set e [.lsl (s' (i+2)) 0 (w' i) none 3]=foE w' s' n (i+1):=by
 rintro e rfl;refine List.ext_getElem? fun k=>?_;have hmn:m≤n:=by omega
 rw[List.getElem?_set,dJ_ hmn];split
 ·rename_i e;subst e;rw[oy_ (by omega)]
  try rw[if_pos hi]
 ·rename_i hne
  by_cases hk:k< e;rw[oy_ (by omega),oy_ (by omega),(h k hk).1,(h k hk).2];by_cases hkn:k< n;rw[r3_ (by omega) hkn,r3_ (by omega) hkn];rw[r2_ hmn (by omega),r2_ (by omega) (by omega)]
theorem o7_{r:Ren}{hp hp':Nat→Option ABlk}:∀{a b c d:List (List AV)},CvLL r hp hp' a b→CvLL r hp hp' c d→CvLL r hp hp' (a++c) (b++d)
 |[],_,_,_,h,h2=>by cases (h:_=[]);exact h2
 |x::xs,_,_,_,⟨y,ys,e,h1,h3⟩,h2=>by subst e;exact⟨y,_,rfl,h1,o7_ h3 h2⟩
theorem fu_{hp hp':Nat→Option ABlk}{s w:Nat→Nat}{n m:Nat}(h:Shr ⟨40,s⟩ hp hp')(hm:m≤30)(hl:∀i,i< m→(hp' (i+2)).isSome=true):CvLL ⟨40,s⟩ hp hp' (foE w s n m) (foE w (fun i=>i) n m):=
 o7_ (gF_ hm hl) (aU_ h fun e he c hc=>by
  rw[(List.mem_replicate.1 he).2,List.mem_singleton] at hc;rw[hc];exact bq_)
def fiR(i new x:Nat):Nat:=cond (Nat.beq x (i+2)) new x
theorem eb_{i new k:Nat}(h:k≠i):fiR i new (k+2)=k+2:=by
 unfold fiR;rw[show Nat.beq (k+2) (i+2)=false by cases hb:Nat.beq (k+2) (i+2) with|false=>rfl|true=>have:=Nat.eq_of_beq_eq_true hb;omega];rfl
theorem gX_(i new:Nat):fiR i new (i+2)=new:=by unfold fiR;rw[Nat.beq_refl];rfl
theorem fiR_1(i new:Nat):fiR i new 1=1:=by
 unfold fiR;rw[show Nat.beq 1 (i+2)=false by cases hb:Nat.beq 1 (i+2) with|false=>rfl|true=>have:=Nat.eq_of_beq_eq_true hb;omega];rfl
theorem fiR_0(i new:Nat):fiR i new 0=0:=by
 unfold fiR;rw[show Nat.beq 0 (i+2)=false by cases hb:Nat.beq 0 (i+2) with|false=>rfl|true=>have:=Nat.eq_of_beq_eq_true hb;omega];rfl
theorem i3_{i new m:Nat}(hm:m≤40)(hn:40≤new)(x y:Nat)(hx:x< m)(hy:y< m)(h:fiR i new x=fiR i new y):x=y:=by
 unfold fiR at h;cases h1:Nat.beq x (i+2)<;> cases h2:Nat.beq y (i+2)<;> rw[h1,h2] at h <;> simp only[cond_true,cond_false] at h;exact h;omega;omega;have:=Nat.eq_of_beq_eq_true h1;have:=Nat.eq_of_beq_eq_true h2;omega
def wJ(n i j k:Nat):Nat:=cond (Nat.blt k i) n j
theorem wJ_lt{n i j k:Nat}(h:k< i):wJ n i j k=n:=by unfold wJ;rw[show Nat.blt k i=true from Nat.ble_eq_true_of_le h];rfl
theorem wJ_ge{n i j:Nat}:wJ n i j i=j:=by
 unfold wJ;rw[show Nat.blt i i=false by cases hb:Nat.blt i i with|false=>rfl|true=>have:=Nat.le_of_ble_eq_true hb;omega];rfl
theorem fi_set{n i j new:Nat}(hi:i< n):∀e:Nat,e=i→(foE (wJ n i (j+1)) (fun x=>x) n (i+1)).set e [.lsl new 0 (j+1+1) none 3]=foE (wJ n i (j+1+1)) (fiR i new) n (i+1):=fun e he=>by
 have:=r1_ (w:=wJ n i (j+1)) (w':=wJ n i (j+1+1)) (s:=fun x=>x) (s':=fiR i new) (n:=n) (m:=i+1) (i:=i) (.inr rfl) hi (fun k hk=>⟨by rw[wJ_lt hk,wJ_lt hk],(eb_ (by omega)).symm⟩) e he;rw[gX_,wJ_ge] at this;exact this
theorem fi_set0{n i new:Nat}(hi:i< n):∀e:Nat,e=i→(foE (fun _=>n) (fun x=>x) n i).set e [.lsl new 0 (0+1) none 3]=foE (wJ n i (0+1)) (fiR i new) n (i+1):=fun e he=>by
 have:=r1_ (w:=fun _=>n) (w':=wJ n i (0+1)) (s:=fun x=>x) (s':=fiR i new) (n:=n) (m:=i) (i:=i) (.inl rfl) hi (fun k hk=>⟨by rw[wJ_lt hk],(eb_ (by omega)).symm⟩) e he;rw[gX_,wJ_ge] at this;exact this
theorem foE_ge'{w:Nat→Nat}{s:Nat→Nat}{n m k:Nat}(h:m≤k)(hk:k< n):∀e,e=k→(foE w s n m)[e]?=some [.emp]:=fun e he=>by rw[he];exact r3_ h hk
theorem foE_lt'{w:Nat→Nat}{s:Nat→Nat}{n m k j:Nat}(h:k< m)(hj:w k=j):∀e,e=k→(foE w s n m)[e]?=some [.lsl (s (k+2)) 0 j none 3]:=fun e he=>by rw[he,←hj];exact oy_ h
theorem gY_{A:Nat→Nat→Rat}{n i:Nat}{x:List (List AV)}:(fiL A n i++[x])[i]?=some x:=by
 rw[List.getElem?_append_right (by simp)];simp
theorem jQ_{A:Nat→Nat→Rat}{n i k:Nat}{x:List (List AV)}(h:k< i):(fiL A n i++[x])[k]?=some (pE (tabP n (A k))):=by
 rw[List.getElem?_append_left (by simpa using h)];exact cM_ h
theorem r6_{A:Nat→Nat→Rat}{n i k:Nat}{x e:List (List AV)}(h:(fiL A n i++[x])[k]?=some e):(k< i∧e=pE (tabP n (A k)))∨(k=i∧e=x):=by
 have h1:=(List.getElem?_eq_some_iff.1 h).1;rw[List.length_append,fm_,List.length_singleton] at h1;by_cases hk:k< i;rw[jQ_ hk] at h;cases h;exact .inl ⟨hk,rfl⟩;obtain rfl:k=i:=by omega
 rw[gY_] at h;cases h;exact .inr ⟨rfl,rfl⟩
def rwL(R:Nat→List Rat)(n:Nat):List (List (List AV)):=(List.range n).map fun k=>pE (R k)
@[simp] theorem gP_ (R:Nat→List Rat)(n:Nat):(rwL R n).length=n:=by simp[rwL]
theorem qv_{R:Nat→List Rat}{n k:Nat}(h:k< n):(rwL R n)[k]?=some (pE (R k)):=by simp[rwL,h]
theorem qu_{R:Nat→List Rat}{n k:Nat}{e:List (List AV)}(h:(rwL R n)[k]?=some e):k< n∧e=pE (R k):=by
 have h1:=(List.getElem?_eq_some_iff.1 h).1;rw[gP_] at h1;rw[qv_ h1] at h;cases h;exact⟨h1,rfl⟩
theorem fiL_rwL(A:Nat→Nat→Rat)(n i:Nat):fiL A n i=rwL (fun k=>tabP n (A k)) i:=rfl
def rwO(R:Nat→List Rat)(s:Nat→Nat)(n:Nat):List (List AV):=mzO 3 (fun k=>(R k).length) s n
@[simp] theorem ee_ (R:Nat→List Rat)(s:Nat→Nat)(n:Nat):(rwO R s n).length=n:=fe_ _ _ _ _
theorem ce_{R:Nat→List Rat}{s:Nat→Nat}{n k:Nat}(h:k< n):∀e,e=k→(rwO R s n)[e]?=some [.lsl (s (k+2)) 0 (R k).length none 3]:=fun e he=>by rw[he];exact mU_ h
theorem fL_{R:Nat→List Rat}{s:Nat→Nat}{n k:Nat}(h:n≤k):(rwO R s n)[k]?=none:=by rw[List.getElem?_eq_none];rw[ee_];exact h
theorem cY_{R R':Nat→List Rat}{s s':Nat→Nat}{n:Nat}(h:∀k,k< n→(R k).length=(R' k).length∧s (k+2)=s' (k+2)):rwO R s n=rwO R' s' n:=by
 refine List.ext_getElem? fun k=>?_;by_cases hk:k< n;rw[ce_ hk k rfl,ce_ hk k rfl,(h k hk).1,(h k hk).2];rw[fL_ (by omega),fL_ (by omega)]
def rwH(TS TQ:Nat)(R:Nat→List Rat)(n:Nat)(ex:Hp):Hp:=mzX 3 TS TQ (rwO R (fun x=>x) n) (rwL R n) ex
section
variable {fr fr':Fr}{hp ex:Hp}{nx N TS TQ n k:Nat}{R R':Nat→List Rat}
theorem bQ_(hid:∀p∈ex,35≤p.1∧p.1< 40)(hn:n≤30)(h:k< n):lookB (rwH TS TQ R n ex) (k+2)=some ⟨TQ,3,pE (R k)⟩:=mzX_row hid (by omega) (qv_ h)
theorem ev_(hid:∀p∈ex,35≤p.1∧p.1< 40)(hn:n≤30)(h:k< n):cellF (lookB (rwH TS TQ R n ex)) (k+2)=some ⟨TQ,3,pE (R k)⟩:=b2_ (bQ_ hid hn h) (show(3:Nat)≠0 by decide)
theorem bh_(hid:∀p∈ex,35≤p.1∧p.1< 40):lookB (rwH TS TQ R n ex) 1=some ⟨TS,1,rwO R (fun x=>x) n⟩:=mzX_out hid
theorem SEntT.rw (s:Nat→Nat) (hn:n≤30) (s0:s 0=0) (hinj:∀i j,InX n i→InX n j→s i=s j→i=j) (h1:lookB hp (s 1)=some ⟨TS,1,rwO R s n⟩) (hr:∀i,i< n→lookB hp (s (i+2))=some ⟨TQ,3,pE (R i)⟩) (hid:∀p∈ex,35≤p.1∧p.1< 40)
    (hex:∀i B,(i,some B)∈ex→∃B0,lookB hp (s i)=some B0∧B0.ty=B.ty∧B0.sz=B.sz∧B0.es.length=B.es.length)
    (hE:Shr ⟨40,s⟩ (lookB hp) (lookB (rwH TS TQ R n ex))→∀i B B0,(i,some B)∈ex→lookB hp (s i)=some B0→CvLL ⟨40,s⟩ (lookB hp) (lookB (rwH TS TQ R n ex)) B0.es B.es)
    (hF:Shr ⟨40,s⟩ (lookB hp) (lookB (rwH TS TQ R n ex))→CvF ⟨40,s⟩ (lookB hp) (lookB (rwH TS TQ R n ex)) fr fr'):SEntT ⟨fr,hp,nx,N⟩ ⟨fr',rwH TS TQ R n ex,40,N⟩:=
 SEntT.mzx s (by simpa using hn) s0 (by rw[gP_];exact hinj) h1 (by simp) (fun i e h=>by
  obtain⟨h2,rfl⟩:=qu_ h;exact⟨hr i h2,aG_ _⟩) hid hex (fun _=>gF_ hn fun i hi=>by
  show(lookB (rwH TS TQ R n ex) (i+2)).isSome=true;rw[bQ_ hid hn hi];rfl) hE hF
end
def upR(R:Nat→List Rat)(k:Nat)(r:List Rat):Nat→List Rat:=fun i=>if i=k then r else R i
theorem cs_(R:Nat→List Rat)(k:Nat)(r:List Rat):upR R k r k=r:=if_pos rfl
theorem fy_(R:Nat→List Rat){k i:Nat}(r:List Rat)(h:i≠k):upR R k r i=R i:=if_neg h
theorem rwO_grow{R:Nat→List Rat}{n k new m:Nat}{r:List Rat}(hk:k< n)(hm:m=r.length):∀e:Nat,e=k→(rwO R (fun x=>x) n).set e [.lsl new 0 m none 3]=rwO (upR R k r) (fiR k new) n:=fun e he=>by
 subst he hm;refine List.ext_getElem? fun i=>?_;rw[List.getElem?_set,ee_];split
 ·rename_i h;subst h
  rw[ce_ hk e rfl,cs_,gX_]
  try rw[if_pos hk]
 ·rename_i h
  by_cases hi:i< n;rw[ce_ hi i rfl,ce_ hi i rfl,fy_ _ _ (fun e=>h e.symm),eb_ (fun e=>h e.symm)];rw[fL_ (by omega),fL_ (by omega)]
def swx(a b x:Nat):Nat:=if x=a then b else if x=b then a else x
theorem swx_a(a b:Nat):swx a b a=b:=if_pos rfl
theorem swx_b(a b:Nat):swx a b b=a:=by unfold swx;split <;> simp_all
theorem if_{a b x:Nat}(h1:x≠a)(h2:x≠b):swx a b x=x:=by unfold swx;rw[if_neg h1,if_neg h2]
theorem swx_inj{a b x y:Nat}(h:swx a b x=swx a b y):x=y:=by unfold swx at h;split at h <;> split at h <;>(try split at h)<;>(try split at h)<;> omega
theorem rwO_swap{R:Nat→List Rat}{n k p:Nat}(hk:k< n)(hp:p< n):∀a b:Nat,a=p→b=k→((rwO R (fun x=>x) n).set a [.lsl (k+2) 0 (R k).length none 3]).set b [.lsl (p+2) 0 (R p).length none 3]=rwO (fun i=>R (swx k p i)) (swx (k+2) (p+2)) n:=fun a b ha hb=>by
 subst ha hb;refine List.ext_getElem? fun i=>?_;rw[List.getElem?_set,List.length_set,ee_,List.getElem?_set,ee_];by_cases hi:i< n;rw[ce_ (R:=fun i=>R (swx b a i)) hi i rfl];by_cases h1:b=i;subst h1;rw[if_pos rfl,swx_a,swx_a]
 try rw[if_pos hk]
 rw[if_neg h1];by_cases h2:a=i;subst h2;rw[if_pos rfl,swx_b,swx_b]
 try rw[if_pos hp]
 rw[if_neg h2,ce_ hi i rfl,if_ (fun e=>h1 e.symm) (fun e=>h2 e.symm),if_ (by omega) (by omega)];have h1:b≠i:=by omega
 have h2:a≠i:=by omega
 rw[if_neg h1,if_neg h2,fL_ (by omega),fL_ (by omega)]
def sQ(f:Nat→Rat):Nat→Rat
 |0=>0
 |n+1=>sQ f n+f n
theorem bU_{f g:Nat→Rat}:∀n,(∀j,j< n→f j=g j)→sQ f n=sQ g n
 |0,_=>rfl
 |n+1,h=>by rw[sQ,sQ,bU_ n fun j hj=>h j (by omega),h n (by omega)]
theorem ij_(f g:Nat→Rat)(u:Rat):∀n,sQ (fun j=>f j- u* g j) n=sQ f n- u* sQ g n
 |0=>by rw[sQ,sQ,sQ];grind
 |n+1=>by rw[sQ,sQ,sQ,ij_ f g u n];grind
theorem qr_(f g:Nat→Rat):∀n,sQ (fun j=>f j+g j) n=sQ f n+sQ g n
 |0=>by rw[sQ,sQ,sQ];grind
 |n+1=>by rw[sQ,sQ,sQ,qr_ f g n];grind
theorem fA_(i:Nat)(a:Rat):∀n,sQ (fun j=>if j=i then a else 0) n=if i< n then a else 0
 |0=>by rw[sQ,if_neg (by omega)]
 |n+1=>by
  rw[sQ,fA_ i a n];grind
abbrev Mx:=Nat→Nat→Rat
def Sol(c:Rat)(M:Mx)(n:Nat)(x:Nat→Rat):Prop:=∀i,i< n→sQ (fun j=>M i j* x j) n=c* M i n
def swM(M:Mx)(k p:Nat):Mx:=fun i j=>if i=k then M p j else if i=p then M k j else M i j
def elM(M:Mx)(k m:Nat):Mx:=fun i j=>if i< m∧i≠k∧k≤j then M i j- M i k/ M k k* M k j else M i j
def pvt(M:Mx)(n k:Nat):Option Nat:=(List.range n).find? fun p=>decide (k≤p∧M p k≠0)
def gjM(M:Mx)(n:Nat):Nat→Option Mx
 |0=>some M
 |k+1=>(gjM M n k).bind fun A=>(pvt A n k).map fun p=>elM (swM A k p) k n
theorem hR_{M:Mx}{n k p:Nat}(h:pvt M n k=some p):p< n∧k≤p∧M p k≠0:=by
 have h1:=List.find?_some h;have h2:=List.mem_of_find?_eq_some h;grind
theorem n1_{M:Mx}{n k:Nat}(h:pvt M n k=none):∀i,i< n→k≤i→M i k=0:=fun i hi hk=>by
 have h1:=List.find?_eq_none.1 h i (List.mem_range.2 hi);grind
theorem pvt_of{M:Mx}{n k p:Nat}(hp:p< n)(hk:k≤p)(h:M p k≠0)(hb:∀i,k≤i→i< p→M i k=0):pvt M n k=some p:=by
 cases e:pvt M n k with
 |none=>exact absurd (n1_ e p hp hk) h
 |some q=>
  unfold pvt at e;rw[List.find?_range_eq_some] at e;grind
theorem pvt_no{M:Mx}{n k:Nat}(hb:∀i,k≤i→i< n→M i k=0):pvt M n k=none:=by
 cases e:pvt M n k with
 |none=>rfl
 |some q=>
  obtain⟨q1,q2,q3⟩:=hR_ e;grind
theorem qk_{c:Rat}{M:Mx}{n k p:Nat}{x:Nat→Rat}(hk:k< n)(hp:p< n)(h:Sol c (swM M k p) n x):Sol c M n x:=fun i hi=>by
 by_cases e1:i=k;subst e1;by_cases e2:p=i;have:=h i hi;unfold swM at this;simp only[e2] at this;exact this;have:=h p hp;unfold swM at this;simp only[if_neg e2] at this;exact this;by_cases e2:i=p;subst e2;have:=h k hk;unfold swM at this;simp only[if_pos rfl] at this;exact this;have:=h i hi;unfold swM at this;grind
theorem sol_el{c:Rat}{M:Mx}{n k:Nat}{x:Nat→Rat}(hk:k< n)(hz:∀j,j< k→M k j=0)(h:Sol c (elM M k n) n x):Sol c M n x:=by
 have hrow:∀i j,i< n→i≠k→elM M k n i j=M i j- M i k/ M k k* M k j:=fun i j hi hik=>by
  unfold elM;grind
 have hkk:∀j,elM M k n k j=M k j:=fun j=>by unfold elM;grind
 have h0:sQ (fun j=>M k j* x j) n=c* M k n:=by
  have:=h k hk;grind
 intro i hi;by_cases e:i=k;rw[e];exact h0;have h1:=h i hi;rw[bU_ (g:=fun j=>M i j* x j- M i k/ M k k* (M k j* x j)) n fun j _=>by grind,ij_] at h1;grind
def DiagM(M:Mx)(n k:Nat):Prop:=∀j,j< k→M j j≠0∧∀i,i< n→i≠j→M i j=0
theorem sh_{M:Mx}{n k p:Nat}(h:DiagM M n k)(hk:k≤p)(hp:p< n):DiagM (swM M k p) n k:=fun j hj=>by
 obtain⟨h1,h2⟩:=h j hj;constructor;unfold swM;rw[if_neg (by omega),if_neg (by omega)];exact h1;unfold swM;grind
theorem diag_el{M:Mx}{n k:Nat}(h:DiagM M n k)(h0:M k k≠0):DiagM (elM M k n) n (k+1):=fun j hj=>by
 by_cases e:j=k;subst e;constructor;unfold elM;rw[if_neg (fun e=>e.2.1 rfl)];exact h0;intro i hi hij;unfold elM;grind;obtain⟨h1,h2⟩:=h j (by omega);constructor;unfold elM;rw[if_neg (fun e=>by omega)];exact h1;unfold elM;grind
theorem fX_{M:Mx}{n:Nat}:∀k A,k≤n→gjM M n k=some A→(∀c x,Sol c A n x→Sol c M n x)∧DiagM A n k
 |0,A,_,h=>by cases h;exact⟨fun _ _ h=>h,fun j hj=>by omega⟩
 |k+1,A,hk,h=>by
  rw[gjM] at h;cases e:gjM M n k with
  |none=>grind
  |some B=>
   rw[e,Option.bind_some] at h;obtain⟨i1,i2⟩:=fX_ k B (by omega) e;cases e2:pvt B n k with
   |none=>grind
   |some p=>
    rw[e2] at h;cases h;obtain⟨p1,p2,p3⟩:=hR_ e2;have d:=sh_ i2 p2 p1;have hkk:swM B k p k k≠0:=by unfold swM;grind
    refine⟨fun c x hs=>i1 c x (qk_ (by omega) p1 (sol_el (by omega) (fun j hj=>(d j hj).2 k (by omega) (by omega)) hs)),diag_el d hkk⟩
theorem rq_{M:Mx}{n:Nat}:∀k,k≤n→gjM M n k=none→∃x:Nat→Rat,(∃j,j< n∧x j≠0)∧Sol 0 M n x
 |0,_,h=>by cases h
 |k+1,hk,h=>by
  rw[gjM] at h;cases e:gjM M n k with
  |none=>exact rq_ k (by omega) e
  |some B=>
   obtain⟨i1,i2⟩:=fX_ k B (by omega) e;cases e2:pvt B n k with
   |some p=>grind
   |none=>
    have hz:=n1_ e2;refine⟨fun j=>if j=k then 1 else if j< k then -(B j k/ B j j) else 0,⟨k,by omega,by grind⟩,i1 0 _ fun i hi=>?_⟩;rw[bU_ (g:=fun j=>(if j=i then(if i< k then -(B i k) else 0) else 0)+(if j=k then B i k else 0)) n fun j hj=>?_,qr_,fA_,fA_];by_cases h1:i< k;grind;grind;by_cases h1:j=k;by_cases h2:j=i;grind;grind;by_cases h2:j< k;obtain⟨d1,d2⟩:=i2 j h2;by_cases h3:j=i;subst h3;grind;grind;grind
theorem gj_end{M A:Mx}{n:Nat}(h:gjM M n n=some A):Sol 1 M n (fun i=>A i n/ A i i):=by
 obtain⟨i1,i2⟩:=fX_ n A (Nat.le_refl _) h;refine i1 1 _ fun i hi=>?_;obtain⟨d1,d2⟩:=i2 i hi;rw[Rat.one_mul,bU_ (g:=fun j=>if j=i then A i n else 0) n fun j hj=>?_,fA_,if_pos hi];by_cases e:j=i;subst e;grind;rw[(i2 j hj).2 i hi (fun e'=>e e'.symm)];grind
def bdM(M:Mx)(n s:Nat):Prop:=∀i j,i< n→j≤n→qs (M i j)≤s
def gjB(s:Nat):Nat→Nat
 |0=>s
 |k+1=>4* gjB s k+1
theorem bd_sw{M:Mx}{n k p s:Nat}(h:bdM M n s)(hk:k< n)(hp:p< n):bdM (swM M k p) n s:=fun i j hi hj=>by
 unfold swM;split;exact h p j hp hj;split;exact h k j hk hj;exact h i j hi hj
theorem bd_el{M:Mx}{n k m s:Nat}(h:bdM M n s)(hk:k< n):bdM (elM M k m) n (4* s+1):=fun i j hi hj=>by
 have h1:=h i j hi hj;unfold elM;split;have h2:=h i k hi (by omega);have h3:=h k k hk (by omega);have h4:=h k j hk hj;have h5:=eM_ (M i k) (M k k);have h6:=bH_ (M i k/ M k k) (M k j);have h7:=nX_ (M i j) (M i k/ M k k* M k j);omega;omega
theorem gj_bd{M:Mx}{n s:Nat}(hs:bdM M n s):∀k A,k≤n→gjM M n k=some A→bdM A n (gjB s k)
 |0,A,_,h=>by cases h;exact hs
 |k+1,A,hk,h=>by
  rw[gjM] at h;cases e:gjM M n k with
  |none=>grind
  |some B=>
   rw[e,Option.bind_some] at h;have i1:=gj_bd hs k B (by omega) e;cases e2:pvt B n k with
   |none=>grind
   |some p=>
    rw[e2] at h;cases h;exact bd_el (bd_sw i1 (by omega) (hR_ e2).1) (by omega)
theorem gB_mono{s:Nat}{k n:Nat}(h:k≤n):gjB s k≤gjB s n:=by
 induction n with
 |zero=>grind
 |succ n ih=>
  by_cases e:k=n+1;rw[e];exact Nat.le_refl _;rw[gjB];omega
def scM(M:Mx)(r:Nat)(f:Rat):Mx:=fun i j=>if i=r then M i j* f else M i j
def rdM(M:Mx)(r k:Nat):Mx:=fun i j=>if i=r then M i j else M i j- M i k* M r j
theorem sQ_mul(f:Nat→Rat)(u:Rat):∀n,sQ (fun j=>f j* u) n=sQ f n* u
 |0=>by rw[sQ,sQ];grind
 |n+1=>by rw[sQ,sQ,sQ_mul f u n];grind
theorem qj_{c:Rat}{M:Mx}{n k p:Nat}{x:Nat→Rat}(hk:k< n)(hp:p< n):Sol c (swM M k p) n x↔Sol c M n x:=by
 refine⟨qk_ hk hp,fun h=>?_⟩;refine qk_ (k:=k) (p:=p) hk hp fun i hi=>?_
 have e:∀j,swM (swM M k p) k p i j=M i j:=fun j=>by
  unfold swM;by_cases h1:i=k;subst h1;by_cases h2:p=i;subst h2;simp;simp[h2];by_cases h2:i=p;subst h2;simp[h1];simp[h1,h2]
 rw[e,bU_ (g:=fun j=>M i j* x j) n fun j _=>by rw[e]];exact h i hi
theorem sol_sc{c f:Rat}{M:Mx}{n r:Nat}{x:Nat→Rat}(hf:f≠0):Sol c (scM M r f) n x↔Sol c M n x:=by
 have key:∀i,(sQ (fun j=>scM M r f i j* x j) n=c* scM M r f i n)↔(sQ (fun j=>M i j* x j) n=c* M i n):=fun i=>by
  unfold scM;by_cases e:i=r;simp only[if_pos e];rw[bU_ (g:=fun j=>M i j* x j* f) n fun j _=>by grind,sQ_mul];generalize sQ (fun j=>M i j* x j) n=s;constructor;intro h;have h2:f* (s- c* M i n)=0:=by grind
  rcases Rat.mul_eq_zero.1 h2 with g|g
  exact absurd g hf;grind;intro h;rw[h];grind;simp only[if_neg e]
 exact⟨fun h i hi=>(key i).1 (h i hi),fun h i hi=>(key i).2 (h i hi)⟩
theorem sol_rd{c:Rat}{M:Mx}{n r k:Nat}{x:Nat→Rat}(hr:r< n):Sol c (rdM M r k) n x↔Sol c M n x:=by
 have e0:∀j,rdM M r k r j=M r j:=fun j=>if_pos rfl;have e1:∀i j,i≠r→rdM M r k i j=M i j- M i k* M r j:=fun i j h=>if_neg h
 have s1:∀i,i≠r→sQ (fun j=>rdM M r k i j* x j) n=sQ (fun j=>M i j* x j) n- M i k* sQ (fun j=>M r j* x j) n:=fun i h=>by
  rw[←ij_];exact bU_ n fun j _=>by rw[e1 i j h];grind
 have s0:sQ (fun j=>rdM M r k r j* x j) n=sQ (fun j=>M r j* x j) n:=bU_ n fun j _=>by rw[e0]
 constructor;intro h i hi;have h0:=h r hr;rw[s0,e0] at h0;by_cases e:i=r;rw[e];exact h0;have h1:=h i hi;rw[s1 i e,e1 i n e,h0] at h1;grind;intro h i hi;have h0:=h r hr;by_cases e:i=r;rw[e,s0,e0];exact h0;rw[s1 i e,e1 i n e,h0,h i hi];grind
def pvR(M:Mx)(n r c:Nat):Option Nat:=(List.range n).find? fun p=>decide (r≤p∧M p c≠0)
theorem ga_{M:Mx}{n r c p:Nat}(h:pvR M n r c=some p):p< n∧r≤p∧M p c≠0:=by
 have h1:=List.find?_some h;have h2:=List.mem_of_find?_eq_some h;have h3:=of_decide_eq_true h1;exact⟨List.mem_range.1 h2,h3⟩
theorem n2_{M:Mx}{n r c:Nat}(h:pvR M n r c=none):∀i,i< n→r≤i→M i c=0:=fun i hi hk=>by
 have h1:=List.find?_eq_none.1 h i (List.mem_range.2 hi);have h2:¬(r≤i∧M i c≠0):=fun e=>h1 (decide_eq_true e);exact Classical.byContradiction fun e=>h2 ⟨hk,e⟩
def slC(A:Mx)(n:Nat)(L:List Nat)(c:Nat):Mx×List Nat:=match pvR A n L.length c with
 |none=>(A,L)
 |some p=>(rdM (scM (swM A L.length p) L.length (1/ A p c)) L.length c,L++[c])
def slM(M:Mx)(n:Nat):Nat→Mx×List Nat
 |0=>(M,[])
 |c+1=>slC (slM M n c).1 n (slM M n c).2 c
structure Ech (A:Mx)(n c:Nat)(L:List Nat):Prop where
 len:L.length≤c
 len2:L.length≤n
 lt:∀(i l:Nat),L[i]?=some l→l< c
 inc:∀(i j l m:Nat),L[i]?=some l→L[j]?=some m→i< j→l< m
 one:∀(i l k:Nat),L[i]?=some l→k< n→A k l=if k=i then 1 else 0
 low:∀(i l j:Nat),L[i]?=some l→j< l→A i j=0
 rest:∀i j,L.length≤i→i< n→j< c→A i j=0
theorem Ech.step{A:Mx}{n c:Nat}{L:List Nat}(h:Ech A n c L):Ech (slC A n L c).1 n (c+1) (slC A n L c).2:=by
 unfold slC;cases e:pvR A n L.length c with
 |none=>
  show Ech A n (c+1) L;refine⟨by have:=h.len;omega,h.len2,fun i l hl=>by have:=h.lt i l hl;omega,h.inc,h.one,h.low,fun i j h1 h2 h3=>?_⟩;by_cases e2:j=c;rw[e2];exact n2_ e i h2 h1;exact h.rest i j h1 h2 (by omega)
 |some p=>
  obtain⟨p1,p2,p3⟩:=ga_ e;show Ech (rdM (scM (swM A L.length p) L.length (1/ A p c)) L.length c) n (c+1) (L++[c]);have hr:L.length< n:=by omega
  have hL:∀i l,L[i]?=some l→i< L.length:=fun i l hl=>(List.getElem?_eq_some_iff.1 hl).1
  -- the rows after the exchange
  have sw1:∀i j,i< L.length→swM A L.length p i j=A i j:=fun i j hi=>by unfold swM;rw[if_neg (by omega),if_neg (by omega)]
  have swr:∀j,swM A L.length p L.length j=A p j:=fun j=>by unfold swM;rw[if_pos rfl]
  have sw2:∀i j,L.length≤i→i< n→j< c→swM A L.length p i j=0:=fun i j h1 h2 h3=>by
   unfold swM;split;exact h.rest p j p2 p1 h3;split;exact h.rest _ j (Nat.le_refl _) hr h3;exact h.rest i j h1 h2 h3
  have swl:∀i l k,L[i]?=some l→k< n→swM A L.length p k l=if k=i then 1 else 0:=fun i l k hl hk=>by
   by_cases g:k< L.length;rw[sw1 k l g];exact h.one i l k hl hk;have:=hL i l hl;rw[sw2 k l (by omega) hk (h.lt i l hl),if_neg (by omega)]
  generalize hB:swM A L.length p=B at *
  have sc0:∀i j,i≠L.length→scM B L.length (1/ A p c) i j=B i j:=fun i j g=>if_neg g;have scr:∀j,scM B L.length (1/ A p c) L.length j=B L.length j* (1/ A p c):=fun j=>if_pos rfl
  have lead:scM B L.length (1/ A p c) L.length c=1:=by
   rw[scr,swr];have:=Rat.div_mul_cancel (a:=1) p3;grind
  have scz:∀j,j< c→scM B L.length (1/ A p c) L.length j=0:=fun j hj=>by rw[scr,sw2 _ j (Nat.le_refl _) hr hj];grind
  generalize hC:scM B L.length (1/ A p c)=C at *
  have rd0:∀j,rdM C L.length c L.length j=C L.length j:=fun j=>if_pos rfl;have rd1:∀i j,i≠L.length→rdM C L.length c i j=C i j- C i c* C L.length j:=fun i j g=>if_neg g
  have snoc:∀i l,(L++[c])[i]?=some l→(i< L.length∧L[i]?=some l)∨(i=L.length∧l=c):=fun i l hl=>by
   rw[List.getElem?_append] at hl;split at hl
   ·rename_i g;exact .inl ⟨g,hl⟩
   ·rename_i g
    have:i- L.length=0:=by
     have:=(List.getElem?_eq_some_iff.1 hl).1;simp at this;omega
    rw[this] at hl;cases hl;exact .inr ⟨by omega,rfl⟩
  refine⟨by have:=h.len;simp;omega,by simp;omega,fun i l hl=>?_,fun i j l m hl hm hij=>?_,fun i l k hl hk=>?_,fun i l j hl hj=>?_,fun i j h1 h2 h3=>?_⟩;rcases snoc i l hl with⟨_,g⟩|⟨_,g⟩
  have:=h.lt i l g;omega;omega;rcases snoc i l hl with⟨a1,g⟩|⟨a1,g⟩<;> rcases snoc j m hm with⟨b1,g'⟩|⟨b1,g'⟩
  exact h.inc i j l m g g' hij;rw[g'];exact h.lt i l g;omega;omega;rcases snoc i l hl with⟨a1,g⟩|⟨a1,g⟩
  by_cases e1:k=L.length;subst e1;rw[rd0,scz l (h.lt i l g),if_neg (by omega)];rw[rd1 k l e1,sc0 k l e1,swl i l k g hk,scz l (h.lt i l g)];grind;subst a1 g;by_cases e1:k=L.length;rw[if_pos e1,e1,rd0,lead];rw[if_neg e1,rd1 k l e1,lead];grind;rcases snoc i l hl with⟨a1,g⟩|⟨a1,g⟩
  have hlc:=h.lt i l g;rw[rd1 i j (by omega),sc0 i j (by omega),sw1 i j a1,h.low i l j g hj,scz j (by omega)];grind;subst a1 g;rw[rd0,scz j hj];rw[List.length_append,List.length_singleton] at h1;rw[rd1 i j (by omega)];by_cases e1:j=c;rw[e1,lead];grind;rw[sc0 i j (by omega),sw2 i j (by omega) h2 (by omega),scz j (by omega)];grind
theorem slC_sol{c0:Rat}{A:Mx}{n c:Nat}{L:List Nat}{x:Nat→Rat}:Sol c0 (slC A n L c).1 n x↔Sol c0 A n x:=by
 unfold slC;cases e:pvR A n L.length c with
 |none=>exact Iff.rfl
 |some p=>
  obtain⟨p1,p2,p3⟩:=ga_ e
  have hf:1/ A p c≠0:=fun g=>by
   have:=Rat.div_mul_cancel (a:=1) p3;rw[g] at this;grind
  exact(sol_rd (by omega)).trans ((sol_sc hf).trans (qj_ (by omega) p1))
theorem da_(M:Mx)(n:Nat):∀c,Ech (slM M n c).1 n c (slM M n c).2
 |0=>⟨Nat.le_refl _,Nat.zero_le _,fun i l h=>by simp[slM] at h,fun i j l m h=>by simp[slM] at h,fun i l k h=>by simp[slM] at h,fun i l j h=>by simp[slM] at h,fun i j _ _ h=>by omega⟩
 |c+1=>(da_ M n c).step
theorem kc_{c0:Rat}{M:Mx}{n:Nat}{x:Nat→Rat}:∀c,Sol c0 (slM M n c).1 n x↔Sol c0 M n x
 |0=>Iff.rfl
 |c+1=>slC_sol.trans (kc_ c)
theorem Ech.row{A:Mx}{n:Nat}{L:List Nat}(h:Ech A n n L){x:Nat→Rat}(hx:∀j,j< n→j∉L→x j=0){i l:Nat}(hl:L[i]?=some l):sQ (fun j=>A i j* x j) n=x l:=by
 have hi:i< n:=Nat.lt_of_lt_of_le (List.getElem?_eq_some_iff.1 hl).1 h.len2;have hl2:=h.lt i l hl;rw[bU_ (g:=fun j=>if j=l then x l else 0) n fun j hj=>?_,fA_,if_pos hl2];by_cases e:j=l;rw[if_pos e,e,h.one i l i hl hi,if_pos rfl];grind;rw[if_neg e];by_cases g:j∈L;obtain⟨k,hk⟩:=List.getElem?_of_mem g;rw[h.one k j i hk hi,if_neg (fun e'=>e (by rw[e',hk] at hl;cases hl;rfl))];grind;rw[hx j hj g];grind
def oneX(A:Mx)(n:Nat)(L:List Nat)(j:Nat):Rat:=if L.contains j then A (L.idxOf j) n else 0
theorem Ech.idx{A:Mx}{n c:Nat}{L:List Nat}(h:Ech A n c L){i l:Nat}(hl:L[i]?=some l):L.idxOf l=i:=by
 have hm:=List.mem_of_getElem? hl;have h1:=List.idxOf_lt_length_of_mem hm;have h2:L[L.idxOf l]?=some l:=by rw[List.getElem?_eq_getElem h1,List.getElem_idxOf h1]
 by_cases e1:L.idxOf l< i;have:=h.inc _ _ _ _ h2 hl e1;omega;by_cases e2:i< L.idxOf l;have:=h.inc _ _ _ _ hl h2 e2;omega;omega
theorem Ech.oneX{A:Mx}{n:Nat}{L:List Nat}(h:Ech A n n L)(h0:∀i,L.length≤i→i< n→A i n=0):Sol 1 A n (Abs.oneX A n L):=fun i hi=>by
 have hx:∀j,j< n→j∉L→Abs.oneX A n L j=0:=fun j _ g=>by unfold Abs.oneX;rw[if_neg (by simpa using g)]
 by_cases g:i< L.length;have hl:L[i]?=some L[i]:=List.getElem?_eq_getElem g;rw[h.row hx hl];unfold Abs.oneX;rw[if_pos (by simp),h.idx hl];grind;rw[h0 i (by omega) hi,bU_ (g:=fun j=>if j=n then 0 else 0) n fun j hj=>by rw[h.rest i j (by omega) hi hj];grind,fA_];split <;> grind
def zerX(A:Mx)(L:List Nat)(f j:Nat):Rat:=if L.contains j then -A (L.idxOf j) f else if j=f then 1 else 0
theorem Ech.zerX{A:Mx}{n:Nat}{L:List Nat}(h:Ech A n n L){f:Nat}(hf:f< n)(hfL:f∉L):Sol 0 A n (Abs.zerX A L f):=fun i hi=>by
 -- split into the part on the leads and the free number
 have e1:∀j,j< n→A i j* Abs.zerX A L f j=A i j* (if L.contains j then -A (L.idxOf j) f else 0)+(if j=f then A i f else 0):=fun j hj=>by
  unfold Abs.zerX;by_cases g:j∈L;rw[if_pos (by simpa using g),if_pos (by simpa using g),if_neg (fun(e:j=f)=>hfL (by rw[←e];exact g))];grind;rw[if_neg (show¬L.contains j=true by simpa using g),if_neg (show¬L.contains j=true by simpa using g)];by_cases e:j=f;rw[if_pos e,if_pos e,e];grind;rw[if_neg e,if_neg e];grind
 rw[bU_ n e1,qr_,fA_,if_pos hf]
 have hx:∀j,j< n→j∉L→(fun j=>if L.contains j then -A (L.idxOf j) f else 0) j=(0:Rat):=fun j _ g=>by
  show(if L.contains j then _ else _)=_;rw[if_neg (by simpa using g)]
 by_cases g:i< L.length;have hl:L[i]?=some L[i]:=List.getElem?_eq_getElem g;rw[h.row hx hl];show(if L.contains L[i]=true then -A (L.idxOf L[i]) f else 0)+A i f=_;rw[if_pos (by simp),h.idx hl];grind;rw[bU_ (g:=fun j=>if j=n then 0 else 0) n fun j hj=>by rw[h.rest i j (by omega) hi hj];grind,fA_,h.rest i f (by omega) hi hf];split <;> grind
theorem Ech.uniq{A:Mx}{n:Nat}{L:List Nat}(h:Ech A n n L){x y:Nat→Rat}{c0:Rat}(hx:Sol c0 A n x)(hy:Sol c0 A n y)(hf:∀j,j< n→j∉L→x j=y j):∀j,j< n→x j=y j:=fun j hj=>by
 by_cases g:j∈L;obtain⟨i,hi⟩:=List.getElem?_of_mem g;have hin:i< n:=Nat.lt_of_lt_of_le (List.getElem?_eq_some_iff.1 hi).1 h.len2;have h1:=h.row (x:=fun j=>x j- y j) (fun j hj g=>by show x j- y j=0;rw[hf j hj g];grind) hi;have h2:=hx i hin;have h3:=hy i hin;rw[bU_ (g:=fun j=>A i j* x j- 1* (A i j* y j)) n fun j _=>by grind,ij_,h2,h3] at h1;grind;exact hf j hj g
def svM(A:Nat→Nat→Rat)(l:Rat)(b:Nat→Rat)(n i j:Nat):Rat:=if j=n then b i else if j=i then -(A i j* l)+1 else -(A i j* l)
def mxr(A:Nat→Nat→Rat)(l:Rat)(n i j:Nat):List Rat:=tabP n fun t=>if t< j then -(A i t* l) else A i t
@[simp] theorem ff_ (A:Nat→Nat→Rat)(l:Rat)(n i j:Nat):(mxr A l n i j).length=n:=by simp[mxr]
theorem mxr_0(A:Nat→Nat→Rat)(l:Rat)(n i:Nat):mxr A l n i 0=tabP n (A i):=by unfold mxr;congr 1
theorem qW_{A:Nat→Nat→Rat}{l:Rat}{n i j:Nat}(h:j< n):∀e,e=j→(pE (mxr A l n i j))[e]?=some (qC (A i j)):=fun e he=>by
 subst he;simp[pE,mxr,tabP,h]
theorem mxr_set{A:Nat→Nat→Rat}{l:Rat}{n i j:Nat}(h:j< n):∀e,e=j→(pE (mxr A l n i j)).set e (qC (-(A i j* l)))=pE (mxr A l n i (j+1)):=fun e he=>by
 subst he;rw[gb_];congr 1;refine List.ext_getElem? fun t=>?_;rw[List.getElem?_set,ff_];by_cases ht:t< n;by_cases h1:e=t;subst h1;rw[if_pos rfl];simp[mxr,tabP,ht];rw[if_neg h1];simp only[mxr,tabP,List.getElem?_map,List.getElem?_range ht,Option.map_some];by_cases h2:t< e;rw[if_pos h2,if_pos (by omega)];rw[if_neg h2,if_neg (by omega)];rw[if_neg (by omega)];rw[List.getElem?_eq_none (by simp;omega),List.getElem?_eq_none (by simp;omega)]
def dgr(A:Nat→Nat→Rat)(l:Rat)(n i:Nat):List Rat:=tabP n fun t=>if t=i then -(A i t* l)+1 else -(A i t* l)
@[simp] theorem pN_ (A:Nat→Nat→Rat)(l:Rat)(n i:Nat):(dgr A l n i).length=n:=by simp[dgr]
theorem od_{A:Nat→Nat→Rat}{l:Rat}{n i:Nat}(h:i< n):∀e,e=i→(pE (mxr A l n i n))[e]?=some (qC (-(A i i* l))):=fun e he=>by
 subst he;simp[pE,mxr,tabP,h]
theorem mxr_one{A:Nat→Nat→Rat}{l:Rat}{n i:Nat}(h:i< n):∀e,e=i→(pE (mxr A l n i n)).set e (qC (-(A i i* l)+1))=pE (dgr A l n i):=fun e he=>by
 subst he;rw[gb_];congr 1;refine List.ext_getElem? fun t=>?_;rw[List.getElem?_set,ff_];by_cases ht:t< n;by_cases h1:e=t;subst h1;rw[if_pos rfl];simp[dgr,tabP,ht];rw[if_neg h1];simp only[mxr,dgr,tabP,List.getElem?_map,List.getElem?_range ht,Option.map_some];rw[if_pos ht,if_neg fun e'=>h1 e'.symm];rw[if_neg (by omega)];rw[List.getElem?_eq_none (by simp;omega),List.getElem?_eq_none (by simp;omega)]
theorem dgr_app{A:Nat→Nat→Rat}{l:Rat}{b:Nat→Rat}{n i:Nat}:dgr A l n i++[b i]=tabP (n+1) (svM A l b n i):=by
 rw[lu_];congr 1;refine List.map_congr_left fun t ht=>?_;have:=List.mem_range.1 ht;simp only[svM,if_neg (show¬t=n by omega)];unfold svM;rw[if_pos rfl]
def ph1(A:Nat→Nat→Rat)(l:Rat)(b:Nat→Rat)(n i k:Nat):List Rat:=if k< i then tabP (n+1) (svM A l b n k) else tabP n (A k)
theorem ph1_0(A:Nat→Nat→Rat)(l:Rat)(b:Nat→Rat)(n:Nat):ph1 A l b n 0=fun k=>tabP n (A k):=funext fun k=>if_neg (by omega)
theorem ph1_n{A:Nat→Nat→Rat}{l:Rat}{b:Nat→Rat}{n k:Nat}(h:k< n):ph1 A l b n n k=tabP (n+1) (svM A l b n k):=if_pos h
theorem ph1_at(A:Nat→Nat→Rat)(l:Rat)(b:Nat→Rat)(n i:Nat):ph1 A l b n i i=mxr A l n i 0:=by rw[mxr_0];exact if_neg (by omega)
theorem upR_up(R:Nat→List Rat)(k:Nat)(r r':List Rat):upR (upR R k r) k r'=upR R k r':=funext fun i=>by unfold upR;split <;> rfl
theorem upR_id(R:Nat→List Rat)(k:Nat):upR R k (R k)=R:=funext fun i=>by unfold upR;split <;> simp_all
theorem ph1_next(A:Nat→Nat→Rat)(l:Rat)(b:Nat→Rat)(n i:Nat):upR (ph1 A l b n i) i (tabP (n+1) (svM A l b n i))=ph1 A l b n (i+1):=funext fun k=>by
 unfold upR ph1;by_cases h:k=i;subst h;rw[if_pos rfl,if_pos (by omega)];rw[if_neg h];by_cases h2:k< i;rw[if_pos h2,if_pos (by omega)];rw[if_neg h2,if_neg (by omega)]
def puM(X:Mx)(i j:Nat)(v:Rat):Mx:=fun k t=>if k=i∧t=j then v else X k t
theorem puM_ne{X:Mx}{i j k:Nat}{v:Rat}(h:k≠i):puM X i j v k=X k:=funext fun t=>if_neg fun e=>h e.1
theorem puM_set{X:Mx}{i j m:Nat}{v:Rat}(h:j< m):∀e:Nat,e=j→(pE (tabP m (X i))).set e (qC v)=pE (tabP m (puM X i j v i)):=fun e he=>by
 subst he;rw[gb_];congr 1;refine List.ext_getElem? fun t=>?_;rw[List.getElem?_set,dM_];by_cases ht:t< m;by_cases h1:e=t;subst h1;rw[if_pos rfl];simp[tabP,ht,puM];rw[if_neg h1];simp[tabP,ht,puM,show¬t=e from fun e'=>h1 e'.symm];rw[if_neg (by omega)];rw[List.getElem?_eq_none (by simp;omega),List.getElem?_eq_none (by simp;omega)]
theorem dc_{X:Nat→Rat}{j m:Nat}(h:j< m):∀e:Nat,e=j→(pE (tabP m X))[e]?=some (qC (X j)):=fun e he=>by
 subst he;simp[pE,tabP,h]
def rT(n:Nat)(X:Mx)(k:Nat):List Rat:=tabP (n+1) (X k)
theorem kk_{n:Nat}{X Y:Mx}{k:Nat}(h:∀j,j≤n→X k j=Y k j):rT n X k=rT n Y k:=by
 unfold rT tabP;exact List.map_congr_left fun t ht=>h t (by have:=List.mem_range.1 ht;omega)
@[simp] theorem rT_length (n:Nat)(X:Mx)(k:Nat):(rT n X k).length=n+1:=by simp[rT]
def scJ(X:Mx)(r:Nat)(f:Rat)(j:Nat):Mx:=fun i t=>if i=r∧t< j then X i t* f else X i t
theorem scJ_0(X:Mx)(r:Nat)(f:Rat):scJ X r f 0=X:=funext fun i=>funext fun t=>if_neg fun e=>by omega
theorem scJ_at(X:Mx)(r:Nat)(f:Rat)(j:Nat):scJ X r f j r j=X r j:=if_neg fun e=>by omega
theorem scJ_s(X:Mx)(r:Nat)(f:Rat)(j:Nat):scJ X r f (j+1)=puM (scJ X r f j) r j (X r j* f):=funext fun i=>funext fun t=>by
 show(if i=r∧t< j+1 then X i t* f else X i t)=if i=r∧t=j then X r j* f else if i=r∧t< j then X i t* f else X i t
 by_cases h1:i=r;subst h1;by_cases h2:t=j;subst h2;simp;by_cases h3:t< j;rw[if_pos ⟨rfl,by omega⟩,if_neg (fun e=>h2 e.2),if_pos ⟨rfl,h3⟩];rw[if_neg (fun e=>by omega),if_neg (fun e=>h2 e.2),if_neg (fun e=>h3 e.2)];rw[if_neg (fun e=>h1 e.1),if_neg (fun e=>h1 e.1),if_neg (fun e=>h1 e.1)]
theorem scJ_n{X:Mx}{r n:Nat}{f:Rat}(k j:Nat)(h:j≤n):scJ X r f (n+1) k j=scM X r f k j:=by
 unfold scJ scM;by_cases h1:k=r;rw[if_pos ⟨h1,by omega⟩,if_pos h1];rw[if_neg (fun e=>h1 e.1),if_neg h1]
def rdJ(X:Mx)(r c i j:Nat):Mx:=fun k t=>if k≠r∧(k< i∨(k=i∧t< j)) then X k t- X k c* X r t else X k t
theorem rdJ_0(X:Mx)(r c:Nat):rdJ X r c 0 0=X:=funext fun i=>funext fun t=>if_neg fun e=>by omega
theorem rdJ_at(X:Mx)(r c i j:Nat):rdJ X r c i j i j=X i j:=if_neg fun e=>by omega
theorem rdJ_c(X:Mx)(r c i:Nat):rdJ X r c i 0 i=X i:=funext fun t=>if_neg fun e=>by omega
theorem rdJ_r(X:Mx)(r c i j:Nat):rdJ X r c i j r=X r:=funext fun t=>if_neg fun e=>e.1 rfl
theorem rdJ_s{X:Mx}{r c i j:Nat}(h:i≠r):rdJ X r c i (j+1)=puM (rdJ X r c i j) i j (X i j- X i c* X r j):=funext fun k=>funext fun t=>by
 show(if k≠r∧(k< i∨(k=i∧t< j+1)) then X k t- X k c* X r t else X k t)=if k=i∧t=j then X i j- X i c* X r j else if k≠r∧(k< i∨(k=i∧t< j)) then X k t- X k c* X r t else X k t
 by_cases h1:k=i;subst h1;by_cases h2:t=j;subst h2;rw[if_pos ⟨h,.inr ⟨rfl,by omega⟩⟩,if_pos ⟨rfl,rfl⟩];by_cases h3:t< j;rw[if_pos ⟨h,.inr ⟨rfl,by omega⟩⟩,if_neg (fun e=>h2 e.2),if_pos ⟨h,.inr ⟨rfl,h3⟩⟩];rw[if_neg (fun e=>by omega),if_neg (fun e=>h2 e.2),if_neg (fun e=>by omega)];rw[if_neg (show¬(k=i∧t=j) from fun e=>h1 e.1)];by_cases h2:k≠r∧k< i;rw[if_pos ⟨h2.1,.inl h2.2⟩,if_pos ⟨h2.1,.inl h2.2⟩];rw[if_neg (fun e=>h2 ⟨e.1,by omega⟩),if_neg (fun e=>h2 ⟨e.1,by omega⟩)]
theorem rdJ_n{X:Mx}{r c n:Nat}(i k j:Nat)(h:j≤n):rdJ X r c i (n+1) k j=rdJ X r c (i+1) 0 k j:=by
 unfold rdJ;by_cases h1:k≠r∧k< i+1;rw[if_pos ⟨h1.1,by omega⟩,if_pos ⟨h1.1,.inl h1.2⟩];rw[if_neg (fun e=>h1 ⟨e.1,by omega⟩),if_neg (fun e=>h1 ⟨e.1,by omega⟩)]
theorem nU_{X:Mx}{r c i:Nat}(h:i=r∨X i c=0):rdJ X r c (i+1) 0=rdJ X r c i 0:=funext fun k=>funext fun t=>by
 unfold rdJ;by_cases h1:k=i;subst h1;rw[if_neg (show¬(k≠r∧(k< k∨k=k∧t< 0)) from fun e=>by omega)];rcases h with h|h
 rw[if_neg (fun e=>e.1 h)];split;rw[h];grind;rfl;by_cases h2:k≠r∧k< i;rw[if_pos ⟨h2.1,by omega⟩,if_pos ⟨h2.1,.inl h2.2⟩];rw[if_neg (fun e=>h2 ⟨e.1,by omega⟩),if_neg (fun e=>h2 ⟨e.1,by omega⟩)]
theorem rdJ_end{X:Mx}{r c n k:Nat}(h:k< n)(j:Nat):rdJ X r c n 0 k j=rdM X r c k j:=by
 unfold rdJ rdM;by_cases h1:k=r;rw[if_neg (fun e=>e.1 h1),if_pos h1];rw[if_pos ⟨h1,.inl h⟩,if_neg h1]
def slB(s:Nat):Nat→Nat
 |0=>s
 |c+1=>4* slB s c+2
theorem hK_{s:Nat}{k n:Nat}(h:k≤n):slB s k≤slB s n:=by
 induction n with
 |zero=>rw[show k=0 by omega];exact Nat.le_refl _
 |succ n ih=>
  by_cases e:k=n+1;rw[e];exact Nat.le_refl _;have:=ih (by omega);rw[slB];omega
theorem bd_slC{A:Mx}{n s c:Nat}{L:List Nat}(h:bdM A n s)(hL:L.length≤c)(hc:c< n):bdM (slC A n L c).1 n (4* s+2):=by
 unfold slC;cases e:pvR A n L.length c with
 |none=>exact fun i j hi hj=>Nat.le_trans (h i j hi hj) (by omega)
 |some p=>
  obtain⟨p1,p2,p3⟩:=ga_ e;have hr:L.length< n:=by omega
  have h1:=bd_sw h hr p1
  have hsc:∀j,j≤n→qs (scM (swM A L.length p) L.length (1/ A p c) L.length j)≤2* s+1:=fun j hj=>by
   unfold scM;rw[if_pos rfl];have a1:=h1 L.length j hr hj;have a2:=eM_ 1 (A p c);have a0:qs 1≤1:=by decide
   have a3:=h p c p1 (by omega);have a4:=bH_ (swM A L.length p L.length j) (1/ A p c);omega
  intro i j hi hj;show qs (rdM (scM (swM A L.length p) L.length (1/ A p c)) L.length c i j)≤_;unfold rdM;by_cases hir:i=L.length;subst hir;rw[if_pos rfl];have:=hsc j hj;omega;rw[if_neg hir];have b1:∀t,scM (swM A L.length p) L.length (1/ A p c) i t=swM A L.length p i t:=fun t=>if_neg hir;rw[b1,b1];have c1:=h1 i j hi hj;have c2:=h1 i c hi (by omega);have c3:=hsc j hj;have c4:=bH_ (swM A L.length p i c) (scM (swM A L.length p) L.length (1/ A p c) L.length j);have c5:=nX_ (swM A L.length p i j) (swM A L.length p i c* scM (swM A L.length p) L.length (1/ A p c) L.length j);omega
theorem o0_{M:Mx}{n s:Nat}(h:bdM M n s):∀c,c≤n→bdM (slM M n c).1 n (slB s c)
 |0,_=>h
 |c+1,hc=>bd_slC (o0_ h c (by omega)) (da_ M n c).len (by omega)
def oneJ(A:Mx)(n:Nat)(L:List Nat)(i:Nat):List Rat:=tabP n fun j=>if (L.take i).contains j then A (L.idxOf j) n else 0
def oneL(A:Mx)(n:Nat)(L:List Nat):List Rat:=tabP n (oneX A n L)
@[simp] theorem mR_ (A:Mx)(n:Nat)(L:List Nat)(i:Nat):(oneJ A n L i).length=n:=by simp[oneJ]
@[simp] theorem oneL_length (A:Mx)(n:Nat)(L:List Nat):(oneL A n L).length=n:=by simp[oneL]
theorem tab_zero(n:Nat):tabP n (fun _=>0)=List.replicate n (0:Rat):=by
 unfold tabP;rw[List.eq_replicate_iff];refine⟨by simp,fun b hb=>?_⟩;obtain⟨_,_,e⟩:=List.mem_map.1 hb;exact e.symm
theorem oneJ_0(A:Mx)(n:Nat)(L:List Nat):oneJ A n L 0=List.replicate n (0:Rat):=by
 unfold oneJ;rw[←tab_zero];congr 1
theorem oneJ_n{A:Mx}{n:Nat}{L:List Nat}{i:Nat}(h:L.length≤i):oneJ A n L i=oneL A n L:=by
 unfold oneJ oneL;rw[List.take_of_length_le h];rfl
theorem oneJ_get{A:Mx}{n:Nat}{L:List Nat}{i c:Nat}(h:c< n):∀e:Nat,e=c→∃v,(pE (oneJ A n L i))[e]?=some (qC v):=fun e he=>by
 subst he;exact⟨_,dc_ h e rfl⟩
theorem oneJ_s{A:Mx}{n c0:Nat}{L:List Nat}{i c:Nat}(hE:Ech A n c0 L)(hl:L[i]?=some c)(hc:c< n):∀e:Nat,e=c→(pE (oneJ A n L i)).set e (qC (A i n))=pE (oneJ A n L (i+1)):=fun e he=>by
 subst he;rw[gb_];congr 1;have ht1:L.take (i+1)=L.take i++[e]:=by rw[List.take_add_one,hl];rfl
 refine List.ext_getElem? fun t=>?_;rw[List.getElem?_set,mR_];by_cases ht:t< n;by_cases h1:e=t;subst h1;rw[if_pos rfl,if_pos ht];unfold oneJ tabP;rw[List.getElem?_map,List.getElem?_range ht,ht1,Option.map_some,if_pos (by simp),hE.idx hl];rw[if_neg h1];unfold oneJ tabP;rw[List.getElem?_map,List.getElem?_map,List.getElem?_range ht,ht1,Option.map_some,Option.map_some]
 have h2:(L.take i++[e]).contains t=(L.take i).contains t:=by
  simp only[List.contains_eq_mem,List.mem_append,List.mem_singleton];simp[show¬t=e from fun e'=>h1 e'.symm]
 rw[h2];rw[if_neg (by omega),List.getElem?_eq_none (by simp;omega),List.getElem?_eq_none (by simp;omega)]
def rowsL(n:Nat)(A:Mx):List (List Rat):=(List.range n).map fun k=>tabP (n+1) (A k)
@[simp] theorem rowsL_length (n:Nat)(A:Mx):(rowsL n A).length=n:=by simp[rowsL]
theorem lH_{n i:Nat}{A:Mx}(h:i< n):(rowsL n A)[i]?=some (tabP (n+1) (A i)):=by simp[rowsL,h]
def noneB(n:Nat)(A:Mx)(L:List Nat):Bool:=((rowsL n A).drop L.length).any fun e=>decide (coP e n≠0)
def smF(c:Rat)(o:List Rat)(p:List Rat×List Rat):List Rat:=addP o (bd_ p.1 c)
def smL2:Ke→List Rat→List Rat→List Rat
 |[],_,o=>o
 |p::k,c,o=>smL2 k c.tail (smF (coP c 0) o p)
def smK(k:Ke)(c:List Rat)(i:Nat):List Rat:=smL2 (k.take i) c []
theorem ly_:∀(k:Ke) (c o:List Rat) (p:List Rat×List Rat),smL2 (k++[p]) c o=smF (coP c k.length) (smL2 k c o) p
 |[],c,o,p=>rfl
 |q::k,c,o,p=>by
  rw[List.cons_append,smL2,ly_ k,smL2];congr 1;cases c with
  |nil=>simp[coP]
  |cons a c=>rfl
theorem smK_s{k:Ke}{c:List Rat}{i:Nat}{p:List Rat×List Rat}(h:k[i]?=some p):smK k c (i+1)=smF (coP c i) (smK k c i) p:=by
 have ht:k.take (i+1)=k.take i++[p]:=by rw[List.take_add_one,h];rfl
 have hl:=(List.getElem?_eq_some_iff.1 h).1;unfold smK;rw[ht,ly_,List.length_take,Nat.min_eq_left (by omega)]
end Go.Abs
