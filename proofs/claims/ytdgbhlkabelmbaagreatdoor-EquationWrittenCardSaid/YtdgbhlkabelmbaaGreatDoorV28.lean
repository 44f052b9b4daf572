/- Part V28 of the proof. -/
import Derived.Test.YtdgbhlkabelmbaaGreatDoorV27
set_option linter.all false
namespace Go.Proofs.YtdgbhlkabelmbaaGreatDoor
open Go.Abs
set_option maxRecDepth 20000
set_option maxHeartbeats 2000000
def fiO(A:Nat→Nat→Rat)(n g:Nat)(cap:List AV)(i:Nat):AState:=⟨[(0,i64 n),(1,.clos g [] cap),(5,.lsl 1 0 n (some n) 1),(11,i64 n),(12,i64 i)],mzH 3 37 36 (foE (fun _=>n) (fun x=>x) n i) (fiL A n i),40,35⟩
def fiE(A:Nat→Nat→Rat)(n:Nat):AState:=⟨[(5,.lsl 1 0 n (some n) 1)],mzH 3 37 36 (foE (fun _=>n) (fun x=>x) n n) (fiL A n n),40,35⟩
def fiI(A:Nat→Nat→Rat)(n g:Nat)(cap:List AV)(i:Nat):Nat→AState
 |0=>⟨[(0,i64 n),(1,.clos g [] cap),(5,.lsl 1 0 n (some n) 1),(6,i64 i),(11,i64 n),(12,i64 i),(15,i64 n),(16,i64 0)],mzH 3 37 36 (foE (fun _=>n) (fun x=>x) n i) (fiL A n i),40,35⟩
 |j+1=>⟨[(0,i64 n),(1,.clos g [] cap),(5,.lsl 1 0 n (some n) 1),(6,i64 i),(11,i64 n),(12,i64 i),(15,i64 n),(16,i64 ((j+1:Nat):Int))],mzH 3 37 36 (foE (wJ n i (j+1)) (fun x=>x) n (i+1)) (fiL A n i++[pE (aO (j+1) (A i))]),40,35⟩
theorem Am{r:Ren}{hp hp':Nat→Option ABlk}{fr fr':Fr}{g:Nat}{cap:List AV}(hs:Shr r hp hp')(hcc:Closed (.clos g [] cap))(h:CvF r hp hp' fr fr':=by repeat' (first|exact aN|refine aA rfl ?_ ?_|exact am hs hcc|exact am hs (ag _)|exact Cv.sl rfl rfl rfl|(refine Cv.loE hs ?_ (ag _);simp[i64];done))):CvF r hp hp' fr fr':=h
theorem vv(A:Nat→Nat→Rat)(n g:Nat)(cap:List AV)(hn:n≤25)(hcap:∀c∈cap,Closed c)(hg:∀i j:Nat,i< n→j< n→FS g ((i64 i::i64 j::cap).map coe) (.agg (qC (A i j)))):
    XSpecT Tryz.prog 109 [i64 n,.clos g [] cap] [] 1 (.lsl 1 0 n (some n) 1) (mzH 3 37 36 (mzO 3 (fun _=>n) (fun x=>x) n) (fiL A n n)) 40:=by
 have hcc:Closed (.clos g [] cap):=aP af hcap;refine XSpecT.enter (t:=4) Tryz.func109 rfl (by kernel_rfl) rfl rfl rfl rfl rfl ?_;refine r_z 1 ?_;refine r_z 3 ?_;refine ae (r_z 3 ?_);refine aG (fun _:Unit=>fiE A n) (fun _=>True) ?_ ?_
 ·refine aj (aB (fiO A n g cap) (fun i=>n- i) (fun i=>i≤n) 0 (Nat.zero_le _) ?_ ?_)
  rw[fiO.eq_1];refine SEntT.ent (SEntT.mz (fun x=>cond (Nat.beq x 1) 3 x) _ (List.replicate n [.emp]) _ (by simp) rfl (fun i j h1 h2 h3 h4 _=>by rw[jM] at h2 h4;omega) rfl (by rw[foE_0]) ?_ ?_ ?_);intro i e hi;exact absurd (mq hi).1 (by omega);intro hs;rw[foE_0];exact a8 hs fun e he c hc=>by rw[(List.mem_replicate.1 he).2,List.mem_singleton] at hc;rw[hc];exact c5
  exact fun hs=>Am hs hcc;intro i hi;rw[fiO.eq_1];by_cases hlt:i< n;rotate_left;have hge:i=n:=by omega
  subst hge;refine q_z 1 ?_;refine ae (cF (ay ⟨(),trivial,?_⟩));refine SEntT.ent (SEntT.mz (fun x=>x) _ _ _ (by simp;omega) rfl (fun i j _ _ _ _ e=>e) rfl rfl ?_ ?_ ?_);intro k e hk;obtain⟨h1,rfl⟩:=mq hk;exact⟨dc (fi h1),aJ _⟩;exact fun hs=>k6 hs (by omega) fun k hk=>by rw[dc (fi hk)];rfl
  exact fun hs=>Am hs hcc;refine q_z 1 ?_;refine ae (cT (ak (ae (aj (r_z 2 ?_)))));refine r_z 2 ?_;refine AWp.cutB (fun _:Unit=>fiI A n g cap i n) (fun _=>True) ?_ ?_;refine aj (aB (fiI A n g cap i) (fun j=>n- j) (fun j=>j≤n) 0 (Nat.zero_le _) ?_ ?_);rw[fiI.eq_1];refine SEntT.ent (SEntT.mz (fun x=>x) _ _ _ (by simp;omega) rfl (fun i j _ _ _ _ e=>e) rfl rfl ?_ ?_ ?_);intro k e hk;obtain⟨h1,rfl⟩:=mq hk;exact⟨dc (fi h1),aJ _⟩;exact fun hs=>k6 hs (by omega) fun k hk=>by rw[dc (fi hk)];rfl
  exact fun hs=>Am hs hcc;intro j hj;by_cases hjn:j< n
  ·have hg1:=hg i j hlt hjn
   cases j with
   |zero=>
    rw[fiI.eq_1];refine q_z 1 ?_;refine ae (cT (ak (ae (aj (r_z 2 ?_)))));refine r_d a6 14 ?_;refine a_5 ?_
    first|refine aF (.load_l1 rfl rfl (foE_ge' (Nat.le_refl _) hlt _ (by omega)) TG.h rfl) rfl rfl ?_|refine aF (.load_a1 rfl (foE_ge' (Nat.le_refl _) hlt _ (by omega)) TG.h rfl) rfl rfl ?_
    refine c_s (hg1) ?_;refine a_3 ?_;refine dX (.store rfl rfl (foE_ge' (Nat.le_refl _) hlt _ (by omega)) rfl rfl rfl TS.h (nle rfl)) ?_;refine ao (n_k ?_);refine r_m 2 ?_;refine a_z ?_;refine⟨0+1,by omega,by omega,?_⟩;rw[fiI.eq_2];refine SEntT.ent (SEntT.mz (fiR i 54) _ (foE (wJ n i (0+1)) (fiR i 54) n (i+1)) _ (by simp;omega) (Ao _ _) (fun x y _ h2 _ h4 e=>pR (m:=40) (Nat.le_refl _) (by decide) x y (by simp at h2;omega) (by simp at h4;omega) e) ?_ ?_ ?_ ?_ ?_);rw[An,←fi_set0 hlt (0+((i:Nat):Int).toNat) (by omega)];rfl;rw[iy hlt,iy hlt];intro k e hk;rcases Cz hk with⟨h1,rfl⟩|⟨rfl,rfl⟩
    ·rw[iI (by omega)]
     refine⟨?_,aJ _⟩
     repeat rw[bv (by omega)]
     exact dc (fi h1)
    rw[na];exact⟨rfl,aJ _⟩
    exact fun hs=>k6 hs (by omega) fun k hk=>by
     by_cases hki:k< i;rw[dc (qU hki)];rfl;obtain rfl:k=i:=by omega
     rw[dc pS];rfl
    exact fun hs=>Am hs hcc
   |succ j=>
    rw[fiI.eq_2];have hlen:(pE (aO (j+1) (A i))).length=j+1:=by simp[pE]
    have hrw:∀(k:Nat) (B:Option ABlk),k≠i+2→dB (an ((k,B)::mzH 3 37 36 (foE (wJ n i (j+1)) (fun x=>x) n (i+1)) (fiL A n i++[pE (aO (j+1) (A i))]))) (i+2)=some ⟨36,3,pE (aO (j+1) (A i))⟩:=fun k B hk=>dP (by rw[bv hk];exact dc pS) (show(3:Nat)≠0 by decide);have hi53:(53:Nat)≠i+2:=by omega
    refine q_z 1 ?_;refine ae (cT (ak (ae (aj (r_z 2 ?_)))));refine r_d a6 14 ?_;refine a_5 ?_
    first|refine aF (.load_l1 rfl rfl (foE_lt' (Nat.lt_succ_self _) yN _ (by omega)) TG.h rfl) rfl rfl ?_|refine aF (.load_a1 rfl (foE_lt' (Nat.lt_succ_self _) yN _ (by omega)) TG.h rfl) rfl rfl ?_
    refine c_s (hg1) ?_;refine a_1 ?_;refine o_2 (.append_l rfl rfl rfl te_37.h rfl rfl (hrw 53 _ hi53) rfl rfl hlen (cW _) (by rfl) rfl (.lsl rfl (nle rfl)) TZ.h rfl TB.h (by first|rfl|assumption|(simp;done)|(simp;omega)|omega) (by first|(simp[maxLen];done)|(simp[maxLen];omega))) ?_;refine a_1 ?_;refine dX (.store rfl rfl (foE_lt' (Nat.lt_succ_self _) yN _ (by omega)) rfl rfl rfl TS.h (nle rfl)) ?_;refine ao (n_k ?_);refine r_m 2 ?_;refine a_z ?_;refine⟨j+1+1,by omega,by omega,?_⟩;rw[fiI.eq_2];refine SEntT.ent (SEntT.mz (fiR i 54) _ (foE (wJ n i (j+1+1)) (fiR i 54) n (i+1)) _ (by simp;omega) (Ao _ _) (fun x y _ h2 _ h4 e=>pR (m:=40) (Nat.le_refl _) (by decide) x y (by simp at h2;omega) (by simp at h4;omega) e) ?_ ?_ ?_ ?_ ?_);rw[An,←fi_set hlt (0+((i:Nat):Int).toNat) (by omega)];rfl;rw[iy hlt,iy hlt];intro k e hk;rcases Cz hk with⟨h1,rfl⟩|⟨rfl,rfl⟩
    ·rw[iI (by omega)]
     refine⟨?_,aJ _⟩
     repeat rw[bv (by omega)]
     exact dc (qU h1)
    rw[na];refine⟨?_,aJ _⟩;rw[vE (j+1),kD];rfl
    exact fun hs=>k6 hs (by omega) fun k hk=>by
     by_cases hki:k< i;rw[dc (qU hki)];rfl;obtain rfl:k=i:=by omega
     rw[dc pS];rfl
    exact fun hs=>Am hs hcc
  have hge:j=n:=by omega
  obtain⟨j,rfl⟩:∃j',j=j'+1:=⟨j- 1,by omega⟩;rw[fiI.eq_2];refine q_z 1 ?_;refine ae (cF (ay ⟨(),trivial,?_⟩));rw[←hge,fiI.eq_2];refine SEntT.ent (SEntT.mz (fun x=>x) _ _ _ (by simp;omega) rfl (fun i j _ _ _ _ e=>e) rfl rfl ?_ ?_ ?_);intro k e hk;rcases Cz hk with⟨h1,rfl⟩|⟨rfl,rfl⟩
  exact⟨dc (qU h1),aJ _⟩;exact⟨dc pS,aJ _⟩
  exact fun hs=>k6 hs (by omega) fun k hk=>by
   by_cases hki:k< i;rw[dc (qU hki)];rfl;obtain rfl:k=i:=by omega
   rw[dc pS];rfl
  exact fun hs=>Am hs hcc;rintro _ _;obtain⟨m,rfl⟩:∃m,n=m+1:=⟨n- 1,by omega⟩;rw[fiI.eq_2,HU,Fp (w:=wJ (m+1) i (m+1)) (w':=fun _=>m+1) (s':=fun x=>x) (fun k hk=>⟨by unfold wJ;cases Nat.blt k i <;> rfl,rfl⟩)];refine r_m 2 ?_;refine a_z ?_;refine⟨i+1,by omega,by omega,?_⟩;rw[fiO.eq_1];refine SEntT.ent (SEntT.mz (fun x=>x) _ _ _ (by simp;omega) rfl (fun i j _ _ _ _ e=>e) rfl rfl ?_ ?_ ?_);intro k e hk;obtain⟨h1,rfl⟩:=mq hk;exact⟨dc (fi h1),aJ _⟩;exact fun hs=>k6 hs (by omega) fun k hk=>by rw[dc (fi hk)];rfl
  exact fun hs=>Am hs hcc
 rintro _ _;show AWp _ _ _ _ ⟨[(5,.lsl 1 0 n (some n) 1)],mzH 3 37 36 (foE (fun _=>n) (fun x=>x) n n) (fiL A n n),40,35⟩;rw[foE_n];refine r_z 2 ?_;refine ai (FinXT.of (SEntT.mz (fun x=>x) _ _ _ (by simp;omega) rfl (fun i j _ _ _ _ e=>e) rfl rfl ?_ ?_ ?_));intro k e hk;obtain⟨h1,rfl⟩:=mq hk;exact⟨dc (fi h1),aJ _⟩;exact fun hs=>qj (by omega) fun k hk=>by rw[dc (fi hk)];rfl
 exact fun hs=>Am hs hcc
theorem E7(A:Nat→Nat→Rat)(n g:Nat)(cap:List AV)(hn:n≤25)(hcap:∀c∈cap,Closed c)(hg:∀i j:Nat,i< n→j< n→FS g ((i64 i::i64 j::cap).map coe) (.agg (qC (A i j)))):
    FS 109 [i64 n,.clos g [] cap] (.arr ((fiL A n n).map fun e=>[.arr e])):=
 (vv A n g cap hn hcap hg).shut rfl (ac (ag _) (ac (aP af hcap) af))
  (Cv.mzShut (r:=⟨0,fun i=>i⟩) (show(3:Nat)≠0 by decide) aD (fun _=>rfl) (jM _ _ _).symm (fun i e h=>by have:=(mq h).2;subst this;simp[pE]) fun e a x b c hc=>by
   obtain⟨k,_,rfl⟩:=List.mem_map.1 a;exact aJ _ x b c hc) (aH fun e a c hc=>by
   obtain⟨y,d,rfl⟩:=List.mem_map.1 a;obtain⟨k,_,rfl⟩:=List.mem_map.1 d;rw[List.mem_singleton] at hc;rw[hc];exact aH (aJ _))
def inQ(p:List Rat)(a b:Rat):Rat:=au (aK p) b- au (aK p) a
structure OkIn (p:List Rat)(a b:Rat):Prop where
 s:smL p
 l:p.length≤1099511627775
 e1:ff (aK p) b
 e2:ff (aK p) a
 d:qs (au (aK p) b)+qs (au (aK p) a)≤549755813888
theorem rK(p:List Rat)(a b:Rat)(h:OkIn p a b):FS 86 [.arr (pE p),.agg (spC a b)] (.agg (qC (inQ p a b))):=by
 refine f_c Tryz.func86 ?_;refine r_z 2 ?_;refine r_c 3 (rN p h.s h.l) ?_;refine a_z ?_;refine ae (r_d a6 10 ?_);refine c_s (j5 _ b h.e1) ?_;refine c_s (j5 _ a h.e2) ?_;refine c_s (jL _ _ h.d) ?_;refine a_1 ?_;refine ao (n_k ?_);exact ai (c_e (aT _))
def bKe(k:Ke):AV:= .aptr [[.arr (kE k)]] 0 0
def bSp(a b:Rat):AV:= .aptr [spC a b] 0 0
theorem cz(k:Ke):Closed (bKe k):=ba (ac (aU k) af)
theorem bJ(a b:Rat):Closed (bSp a b):=ba (aY a b)
theorem Cg(k:Ke)(a b:Rat)(i j:Nat)(p q:List Rat×List Rat)(hp:k[i]?=some p)(hq:k[j]?=some q)(hl:k.length≤1000)(hm:eS p.2 q.1)(ho:OkIn (aL p.2 q.1) a b):
    FS 110 [i64 i,i64 j,bKe k,bSp a b] (.agg (qC (inQ (aL p.2 q.1) a b))):=by
 have e:(kE k).length=k.length:=dj k;have h1:i< k.length:=(List.getElem?_eq_some_iff.1 hp).1;have f:j< k.length:=(List.getElem?_eq_some_iff.1 hq).1;have c:(kE k)[((i:Nat):Int).toNat]?=some (prC p):=kj hp _ (by simp);have d:(kE k)[((j:Nat):Int).toNat]?=some (prC q):=kj hq _ (by simp);refine f_n Tryz.func110 ?_ ?_;exact ac (ag _) (ac (ag _) (ac (cz k) (ac (bJ a b) af)));refine r_z 1 ?_;refine ae (r_d a6 14 ?_);refine a_2 ?_;refine i_x c ?_;refine a_1 ?_;refine l_1 c ?_;refine a_2 ?_;refine i_x d ?_;refine a_1 ?_;refine l_1 d ?_;refine c_s (sM p.2 q.1 hm) ?_;refine c_s (rK _ a b ho) ?_;refine a_1 ?_;refine ao (n_k ?_);exact ai (c_e (aT _))
def maK(k:Ke)(a b:Rat)(i j:Nat):Rat:=inQ (aL (k.getD i ([],[])).2 (k.getD j ([],[])).1) a b
structure OkMa (k:Ke)(a b:Rat):Prop where
 l:k.length≤8
 m:∀p∈k,∀q∈k,eS p.2 q.1∧OkIn (aL p.2 q.1) a b
theorem Cf(k:Ke)(a b:Rat)(h:OkMa k a b)(i j:Nat)(hi:i< k.length)(hj:j< k.length):FS 110 ((i64 i::i64 j::[bKe k,bSp a b]).map coe) (.agg (qC (maK k a b i j))):=by
 obtain⟨p,hp⟩:∃p,k[i]?=some p:=⟨_,List.getElem?_eq_getElem hi⟩;obtain⟨q,c⟩:∃q,k[j]?=some q:=⟨_,List.getElem?_eq_getElem hj⟩;have d:=h.m p (List.mem_of_getElem? hp) q (List.mem_of_getElem? c);have e:maK k a b i j=inQ (aL p.2 q.1) a b:=by unfold maK;rw[List.getD_eq_getElem?_getD,List.getD_eq_getElem?_getD,hp,c];rfl
 rw[e];exact Cg k a b i j p q hp c (by have:=h.l;omega) d.1 d.2
theorem qk(k:Ke)(a b:Rat)(h:OkMa k a b):
    XSpecT Tryz.prog 58 [.arr (kE k),.agg (spC a b)] [] 1 (.lsl 1 0 k.length (some k.length) 1) (mzH 3 37 36 (mzO 3 (fun _=>k.length) (fun x=>x) k.length) (fiL (maK k a b) k.length k.length)) 40:=by
 have c:(kE k).length=k.length:=dj k;have n:=h.l;have m:=(vv (maK k a b) k.length 110 [bKe k,bSp a b] (by omega) (ac (cz k) (ac (bJ a b) af)) (Cf k a b h)).x;refine XSpecT.enter (t:=4) Tryz.func58 rfl (by kernel_rfl) rfl rfl rfl rfl rfl ?_;refine r_z 3 ?_;refine AWp.ent (st':=⟨[(2,bKe k),(3,bSp a b)],[],1,9⟩) ?_ ?_;exact s_x [] (fun hs=>e_45) (fun hs=>e_46);refine ae (AWp.regX (fr2:=[(6,i64 k.length),(7,.clos 110 [] [bKe k,bSp a b])]) (hp2:=[]) (nx2:=1) (fr3:=[]) 3 rfl rfl rfl rfl rfl rfl ?_ rfl rfl rfl m (fun t x d=>by cases d) (fun t x d=>by cases d) ?_)
 first|refine aF (.load_l1 rfl rfl rfl TG.h rfl) rfl rfl ?_|refine aF (.load_a1 rfl rfl TG.h rfl) rfl rfl ?_
 first|refine aF (.lenD rfl rfl rfl rfl te_29.h) rfl rfl ?_|refine aF (.lenI rfl rfl rfl rfl te_29.h) rfl rfl ?_|refine aF (.lenP rfl rfl rfl rfl te_29.h) rfl rfl ?_|refine aF (.lenC rfl rfl rfl rfl te_29.h) rfl rfl ?_|refine aF (.lenR rfl rfl rfl rfl te_29.h) rfl rfl ?_|refine aF (.len rfl rfl rfl rfl rfl te_29.h) rfl rfl ?_
 refine o_0 (.makeFunc rfl rfl) ?_;refine ao ?_;refine s_y [] (fun hs=>?_) (fun hs=>?_)
 ·repeat' (first|exact aN|refine aA rfl ?_ ?_|exact am hs (aP af (ac (cz k) (ac (bJ a b) af)))|(refine Cv.loE hs ?_ (ag _);simp[i64,c];done)|exact aV)
 ·repeat' (first|exact aE|refine h_c ?_ ?_|exact bC|refine az ?_|exact av|refine ah ?_ ?_|exact am hs (aP af (ac (cz k) (ac (bJ a b) af)))|(refine Cv.loE hs ?_ (ag _);simp[i64,c];done)|exact aV)
 refine o_0 (.assign rfl) ?_;refine ao ?_;refine ai (FinXT.of (SEntT.mz (fun x=>x) _ _ _ (by simp;omega) rfl (fun i j _ _ _ _ e=>e) rfl rfl ?_ ?_ ?_));intro g e f;obtain⟨h1,rfl⟩:=mq f;exact⟨dc (fi h1),aJ _⟩;exact fun hs=>qj (by omega) fun g f=>by rw[dc (fi f)];rfl
 exact fun hs=>aA rfl (Cv.sl rfl rfl rfl) aN
def mE(k:List (List Rat)):List (List AV):=k.map fun e=>[.arr (pE e)]
@[simp] theorem ES (k:List (List Rat)):(mE k).length=k.length:=by simp[mE]
theorem cb(k:List (List Rat)):∀x∈mE k,∀c∈x,Closed c:=fun x a=>by
 obtain⟨p,_,rfl⟩:=List.mem_map.1 a;exact ac (ax _) af
theorem closed_mA(k:List (List Rat)):Closed (.arr (mE k)):=aH (cb k)
theorem gx{k:List (List Rat)}{i:Nat}{p:List Rat}(h:k[i]?=some p):∀e,e=i→(mE k)[e]?=some [.arr (pE p)]:=fun e a=>by
 rw[a,mE,List.getElem?_map,h];rfl
def imS(k:List (List Rat))(g:Nat)(cap:List AV):Nat→AState
 |i=>⟨[(0,.arr (mE k)),(1,.clos g [] cap),(7,i64 k.length),(8,i64 i)],[],1,19⟩
theorem B2(k:List (List Rat))(g:Nat)(cap:List AV)(i:Nat):imS k g cap i=⟨[(0,.arr (mE k)),(1,.clos g [] cap),(7,i64 k.length),(8,i64 i)],[],1,19⟩:=rfl
theorem ws(k:List (List Rat))(g:Nat)(cap:List AV)(t:List Rat→Bool)(hcap:∀c∈cap,Closed c)(hl:k.length≤1099511627776)(hg:∀p∈k,FS g ((.arr (pE p)::cap).map coe) (bln (t p))):FS 107 [.arr (mE k),.clos g [] cap] (i64 (jK t k 0)):=by
 have j:Closed (.clos g [] cap):=aP af hcap;have h:(mE k).length=k.length:=ES k;refine f_c Tryz.func107 ?_;obtain⟨R,f⟩:∃R,R=jK t k 0:=⟨_,rfl⟩;rw[←f];refine r_z 1 ?_;refine ae (r_z 3 ?_);refine aG (fun _:Unit=>⟨[],[],1,19⟩) (fun _=>R= -1) ?_ ?_;refine aj (aB (imS k g cap) (fun i=>k.length- i) (fun i=>i≤k.length∧jK t (k.drop i) i=R) 0 ⟨Nat.zero_le _,by rw[f];rfl⟩ ?_ ?_);simp only[B2];exact s_x [] (fun hs=>e_47) (fun hs=>e_48);rintro i ⟨l,a⟩;rw[B2];by_cases hlt:i< k.length;refine q_z 1 ?_;refine ae (cT (ak ?_));obtain⟨p,hp⟩:∃p,k[i]?=some p:=⟨_,List.getElem?_eq_getElem hlt⟩;have b:(mE k)[((i:Nat):Int).toNat]?=some [.arr (pE p)]:=gx hp _ (by simp);rw[yo hp,jK] at a;refine ae (aj (r_z 2 ?_));refine s_r 6 ?_;refine a_3 ?_;refine i_x b ?_;refine l_1 b ?_;refine c_s (hg p (List.mem_of_getElem? hp)) ?_;refine ao ?_;refine ap rfl (fun h1=>?_) (fun h1=>?_);have d:t p=true:=h1;rw[if_pos d] at a;refine r_z 2 ?_;refine ai (aW rfl ?_ ?_);rw[←a];exact ag _;have d:¬t p=true:=by rw[show t p=false from h1];decide
 rw[if_neg d] at a;refine ak (r_m 2 ?_);refine a_z ?_;refine⟨i+1,by omega,⟨hlt,a⟩,?_⟩;simp only[B2];exact s_x [] (fun hs=>e_47) (fun hs=>e_48);have e:i=k.length:=by omega
 subst e;refine q_z 1 ?_;refine ae (cF ?_);rw[List.drop_length] at a;refine ay ⟨(),a.symm,?_⟩;exact s_e [];rintro _ a;refine r_z 1 ?_;refine ai (aW rfl ?_ ?_);rw[a];rfl;exact ag _
theorem xX(k:List (List Rat))(g:Nat)(cap:List AV)(t:List Rat→Bool)(hcap:∀c∈cap,Closed c)(hl:k.length≤1099511627776)(hg:∀p∈k,FS g ((.arr (pE p)::cap).map coe) (bln (t p)))(hcap2:cap.map coe=cap):FS 88 [.arr (mE k),.clos g [] cap] (bln (k.any t)):=by
 have b:Closed (.clos g [] cap):=aP af hcap;have e:=pp t k 0 (Int.le_refl 0);have a:=ws k g cap t hcap hl hg;refine f_c Tryz.func88 ?_;refine r_z 1 ?_;refine r_c 5 (a) ?_;refine a_z ?_;refine ai (aW rfl ?_ ?_);rw[←e];rfl;exact ag _
theorem Cb(e:List Rat)(c:Nat)(x:Rat)(hx:e[c]?=some x):FS 108 [.arr (pE e),.aptr [[i64 c]] 0 0] (bln (decide (x≠0))):=by
 have b:c< e.length:=(List.getElem?_eq_some_iff.1 hx).1;have d:(pE e).length=e.length:=by simp[pE]
 have a:(pE e)[((c:Nat):Int).toNat]?=some (qC x):=by simp[pE,hx]
 refine f_c Tryz.func108 ?_;refine r_z 1 ?_;refine s_r 7 ?_;refine a_2 ?_;refine i_x a ?_;refine l_x a ?_;refine c_s (cw x) ?_;refine a_z ?_;refine ai (aW rfl ?_ ?_);rw[show decide (x≠0)=decide (sgZ x.num≠0) from decide_eq_decide.2 (not_congr sgZ_num_eq.symm)]
 first|rfl|(congr 1;cases hb:decide (sgZ x.num=0) with|true=>(have:=of_decide_eq_true hb;simp[this])|false=>(have:=of_decide_eq_false hb;simp[bln,bne,this]))
 exact ag _
def syX(rows leads:AV)(n:Int):Hp:=[(35,some ⟨106,3,[[rows,leads,i64 n]]⟩)]
theorem syX_id{rows leads:AV}{n:Int}:∀p∈syX rows leads n,35≤p.1∧p.1< 40:=fun p hp=>by rw[List.mem_singleton.1 hp];exact⟨(show 35≤35 by decide),(show 35< 40 by decide)⟩
def sx0:Hp:=syX .emp .emp 0
theorem dV:∀p∈sx0,35≤p.1∧p.1< 40:=syX_id
theorem By {fr fr':Fr} {hp:Hp} {nx N n:Nat} {R:Nat→List Rat} (s:Nat→Nat) (hn:n≤30) (s0:s 0=0) (hinj:∀i j,InX n i→InX n j→s i=s j→i=j) (h1:an hp (s 1)=some ⟨37,1,rwO R s n⟩) (hr:∀i,i< n→an hp (s (i+2))=some ⟨36,3,pE (R i)⟩) (h35:an hp (s 35)=some ⟨106,3,[[.emp,.emp,i64 0]]⟩)
    (hF:Shr ⟨40,s⟩ (an hp) (an (rwH 37 36 R n sx0))→CvF ⟨40,s⟩ (an hp) (an (rwH 37 36 R n sx0)) fr fr'):SEnt ⟨fr,hp,nx,N⟩ ⟨fr',rwH 37 36 R n sx0,40,N⟩:=
 SEntT.ent (SEntT.rw s hn s0 hinj h1 hr dV (fun i B h=>by
  cases List.mem_singleton.1 h;exact⟨_,h35,rfl,rfl,rfl⟩) (fun hs i B b h hB=>by
  cases List.mem_singleton.1 h;have hB:an hp (s 35)=some b:=hB;rw[h35] at hB;cases hB
  exact a8 hs fun e a c hc=>by
   rw[List.mem_singleton.1 a] at hc;exact ac c5 (ac c5 (ac (ag _) af)) c hc) hF)
theorem mO {fr fr':Fr} {hp:Hp} {nx N n:Nat} {R:Nat→List Rat} (hn:n≤30) (h1:an hp 1=some ⟨37,1,rwO R (fun x=>x) n⟩) (hr:∀i,i< n→an hp (i+2)=some ⟨36,3,pE (R i)⟩) (h35:an hp 35=some ⟨106,3,[[.emp,.emp,i64 0]]⟩)
    (hF:Shr ⟨40,fun x=>x⟩ (an hp) (an (rwH 37 36 R n sx0))→CvF ⟨40,fun x=>x⟩ (an hp) (an (rwH 37 36 R n sx0)) fr fr'):SEnt ⟨fr,hp,nx,N⟩ ⟨fr',rwH 37 36 R n sx0,40,N⟩:=
 By (fun x=>x) hn rfl (fun _ _ _ _ e=>e) h1 hr h35 hF
theorem HT{i new x:Nat}(h:x≠i+2):fiR i new x=x:=by
 unfold fiR;rw[show Nat.beq x (i+2)=false by cases hb:Nat.beq x (i+2) with|false=>rfl|true=>exact absurd (Nat.eq_of_beq_eq_true hb) h];rfl
theorem rv{n i:Nat}(hn:n≤30)(h:InX n i):i< 40:=by unfold InX at h;omega
theorem Bn{r:Ren}{hp hp':Nat→Option ABlk}{fr fr':Fr}{l:Rat}{b:List Rat}(hs:Shr r hp hp')(h:CvF r hp hp' fr fr':=by repeat' (first|exact aN|refine aA rfl ?_ ?_|exact am hs (ax b)|exact am hs (cu l)|exact am hs (ag _)|exact Cv.sl rfl rfl rfl|exact Cv.ptr rfl rfl rfl|exact Cv.ptr rfl (by assumption) rfl|(refine Cv.loE hs ?_ (ag _);simp[i64];done))):CvF r hp hp' fr fr':=h
def svO(A:Nat→Nat→Rat)(l:Rat)(b:List Rat)(n:Nat):Nat→AState
 |i=>⟨[(0,.lsl 1 0 n (some n) 1),(2,.arr (pE b)),(4,bQ l),(6,.lptr 35 0 0),(7,i64 n),(22,i64 n),(23,i64 i)],rwH 37 36 (ph1 A l (fun t=>coP b t) n i) n sx0,40,209⟩
def svI(A:Nat→Nat→Rat)(l:Rat)(b:List Rat)(n i:Nat):Nat→AState
 |j=>⟨[(0,.lsl 1 0 n (some n) 1),(2,.arr (pE b)),(4,bQ l),(6,.lptr 35 0 0),(7,i64 n),(8,i64 i),(22,i64 n),(23,i64 i),(30,i64 n),(31,i64 j)],rwH 37 36 (upR (ph1 A l (fun t=>coP b t) n i) i (mxr A l n i j)) n sx0,40,209⟩
noncomputable def svRest:Code:=match Tryz.f57.body with|some (.seq _ (.seq _ (.seq _ y)))=>y|_=> .skip
theorem mzO_rwO(A:Nat→Nat→Rat)(n:Nat){s:Nat→Nat}(h:∀k,k< n→s (k+2)=k+2):mzO 3 (fun _=>n) (fun x=>x) n=rwO (fun k=>aO n (A k)) s n:=by
 refine List.ext_getElem? fun k=>?_;by_cases hk:k< n;rw[xD hk,dQ hk k rfl,h k hk,rz];rw[rwO_out (by omega),List.getElem?_eq_none (by simp;omega)]
theorem sv_rows (A:Nat→Nat→Rat) (l:Rat) (b:List Rat) (n:Nat) (hn:n≤25) (hb:b.length=n) (r:AV)
    (hm:∀i j:Nat,i< n→j< n→qs (A i j)+qs l≤549755813888) (ha:∀i:Nat,i< n→qs (-(A i i* l))+1≤549755813887)
    (hrest:AWp none Tryz.prog svRest (Fin Tryz.prog Tryz.f57.results.toList r) ⟨[(0,.lsl 1 0 n (some n) 1),(6,.lptr 35 0 0),(7,i64 n)],rwH 37 36 (fun k=>aO (n+1) (svM A l (fun t=>coP b t) n k)) n sx0,40,209⟩):
    XSpec Tryz.prog 57 [.lsl 1 0 n (some n) 1,.agg (qC l),.arr (pE b)] (mzH 3 37 36 (mzO 3 (fun _=>n) (fun x=>x) n) (fiL A n n)) 40 r [] 1:=by
 refine XSpec.enterC Tryz.func57 rfl (by kernel_rfl) rfl rfl rfl rfl ?_;refine r_z 2 ?_;refine AWp.ent (st':=⟨[(0,.lsl 1 0 n (some n) 1),(2,.arr (pE b)),(4,bQ l),(6,.lptr 35 0 0)],rwH 37 36 (fun k=>aO n (A k)) n sx0,40,209⟩) ?_ ?_;refine By (fiR 33 41) (by omega) (Ao _ _) (fun x y K J e=>pR (m:=40) (Nat.le_refl _) (by decide) x y (rv (by omega) K) (rv (by omega) J) e) ?_ ?_ rfl ?_;rw[An,←mzO_rwO A n (s:=fiR 33 41) fun k a=>iI (by omega)];rfl
 ·intro k a
  rw[iI (by omega)]
  repeat rw[bv (by omega)]
  exact dc (fi a)
 intro hs
 have T:vf ⟨40,fiR 33 41⟩ (an (rwH 37 36 (fun k=>aO n (A k)) n sx0)) 40:=fun j B N e=>by
  obtain⟨Q⟩:=hs;have h1:j< 40:=(Q j B N).1;have e:fiR 33 41 j=40:=e;unfold fiR at e;cases hb:Nat.beq j (33+2)<;> rw[hb] at e <;> simp only[cond_true,cond_false] at e <;> omega
 exact aA rfl (Cv.sl rfl rfl rfl) (aA rfl (am hs (ax b)) (aA rfl (Cv.boxp hs rfl T rfl (aZ l)) (aA rfl (Cv.ptr rfl rfl rfl) aN)));refine r_z 3 ?_;refine ae (r_z 3 ?_);refine aG (fun _:Unit=>⟨[(0,.lsl 1 0 n (some n) 1),(6,.lptr 35 0 0),(7,i64 n)],rwH 37 36 (fun k=>aO (n+1) (svM A l (fun t=>coP b t) n k)) n sx0,40,209⟩) (fun _=>True) ?_ ?_
 ·refine aj (aB (svO A l b n) (fun i=>n- i) (fun i=>i≤n) 0 (Nat.zero_le _) ?_ ?_)
  rw[svO.eq_1,ph1_0];exact mO (by omega) (cf dV) (fun i q=>dt dV (by omega) q) rfl fun hs=>Bn (l:=l) (b:=b) hs;intro i q;rw[svO.eq_1];by_cases hlt:i< n;rotate_left;have f:i=n:=by omega
  subst f;refine q_z 1 ?_;refine ae (cF (ay ⟨(),trivial,?_⟩));refine mO (by omega) ?_ ?_ rfl fun hs=>Bn (l:=l) (b:=b) hs;rw[cf dV,fK (R':=fun k=>aO (i+1) (svM A l (fun t=>coP b t) i k)) (s':=fun x=>x)];intro k a;exact⟨by rw[ph1_n a],rfl⟩;intro k a;rw[dt dV (by omega) a,ph1_n a];refine q_z 1 ?_;refine ae (cT (ak (ae (aj (r_z 2 ?_)))));have g:(ph1 A l (fun t=>coP b t) n i i).length=n:=by rw[GD];simp
  have L:∀e,e=i→(rwO (ph1 A l (fun t=>coP b t) n i) (fun x=>x) n)[e]?=some [.lsl (i+2) 0 n none 3]:=fun e o=>by rw[dQ hlt e o,g]
  refine ae (s_r 6 ?_);refine a_3 ?_;refine o_0 (.load_l1 rfl (dP (cf dV) (show(1:Nat)≠0 by decide)) (L _ (by omega)) TG.h rfl) ?_;refine a_z ?_;refine aG (fun _:Unit=>svI A l b n i n) (fun _=>True) ?_ ?_
  ·refine aj (aB (svI A l b n i) (fun j=>n- j) (fun j=>j≤n) 0 (Nat.zero_le _) ?_ ?_)
   rw[svI.eq_1,←GD A l (fun t=>coP b t),upR_id];exact mO (by omega) (cf dV) (fun i q=>dt dV (by omega) q) rfl fun hs=>Bn (l:=l) (b:=b) hs;intro j N;rw[svI.eq_1];by_cases hjn:j< n;rotate_left;have f:j=n:=by omega
   subst f;refine q_z 1 ?_;refine ae (cF (ay ⟨(),trivial,?_⟩));exact mO (by omega) (cf dV) (fun i q=>dt dV (by omega) q) rfl fun hs=>Bn (l:=l) (b:=b) hs;have F:=cJ (A i j) l (hm i j hlt hjn);have H:=kq (A i j* l);have c:=jz (TS:=37) (TQ:=36) (R:=upR (ph1 A l (fun t=>coP b t) n i) i (mxr A l n i j)) dV (by omega:n≤30) hlt;rw[eg] at c;have d:∀e,e=i→(rwO (upR (ph1 A l (fun t=>coP b t) n i) i (mxr A l n i j)) (fun x=>x) n)[e]?=some [.lsl (i+2) 0 n none 3]:=fun e o=>by rw[dQ hlt e o,eg,tZ]
   have v:=dP (cf (TS:=37) (TQ:=36) (n:=n) (R:=upR (ph1 A l (fun t=>coP b t) n i) i (mxr A l n i j)) dV) (show(1:Nat)≠0 by decide);refine q_z 1 ?_;refine ae (cT (ak (ae (aj (r_z 2 ?_)))));refine r_d a6 17 ?_;refine a_3 ?_;refine o_0 (.load_l1 rfl v (d _ (by omega)) TG.h rfl) ?_;refine a_4 ?_;refine o_0 (.load_l1 rfl v (d _ (by omega)) TG.h rfl) ?_;refine a_2 ?_;refine o_0 (.load_l rfl c (DH hjn _ (by omega)) TG.h TS.h (nle rfl)) ?_;refine c_s (F) ?_;refine c_s (H) ?_;refine a_1 ?_;refine dX (.store rfl c (DH hjn _ (by omega)) rfl rfl rfl TS.h (nle rfl)) ?_;refine ao (n_k ?_);refine r_m 2 ?_;refine a_z ?_;refine⟨j+1,by omega,by omega,?_⟩;rw[svI.eq_1];refine mO (by omega) ?_ ?_ ?_ fun hs=>Bn (l:=l) (b:=b) hs;rw[bv (by omega),cf dV,fK (R':=upR (ph1 A l (fun t=>coP b t) n i) i (mxr A l n i (j+1))) (s':=fun x=>x)];intro k a;by_cases h:k=i;subst h;rw[eg,eg];simp;rw[j9 _ _ h,j9 _ _ h];simp;intro k a;by_cases h:k=i;subst h;rw[eg,←mxr_set hjn (0+((j:Nat):Int).toNat) (by omega),cX,a7];rfl;rw[bv (by omega),dt dV (by omega) a,j9 _ _ h,j9 _ _ h];rw[bv (by omega)];rfl
  rintro _ _;show AWp _ _ _ _ (svI A l b n i n);rw[svI.eq_1];have c:=jz (TS:=37) (TQ:=36) (R:=upR (ph1 A l (fun t=>coP b t) n i) i (mxr A l n i n)) dV (by omega:n≤30) hlt;rw[eg] at c;have d:∀e,e=i→(rwO (upR (ph1 A l (fun t=>coP b t) n i) i (mxr A l n i n)) (fun x=>x) n)[e]?=some [.lsl (i+2) 0 n none 3]:=fun e o=>by rw[dQ hlt e o,eg,tZ]
  have v:=dP (cf (TS:=37) (TQ:=36) (n:=n) (R:=upR (ph1 A l (fun t=>coP b t) n i) i (mxr A l n i n)) dV) (show(1:Nat)≠0 by decide);have G:=du 1 (by decide);have hq1:qs 1≤1:=by decide
  have E:=fh (-(A i i* l)) 1 (by have:=ha i hlt;omega);refine ae (r_d a6 16 ?_);refine a_3 ?_;refine o_0 (.load_l1 rfl v (d _ (by omega)) TG.h rfl) ?_;refine a_4 ?_;refine o_0 (.load_l1 rfl v (d _ (by omega)) TG.h rfl) ?_;refine a_2 ?_;refine o_0 (.load_l rfl c (zy hlt _ (by omega)) TG.h TS.h (nle rfl)) ?_;refine c_s (G) ?_;refine c_s (E) ?_;refine a_1 ?_;refine dX (.store rfl c (zy hlt _ (by omega)) rfl rfl rfl TS.h (nle rfl)) ?_;refine ao (n_k ?_);refine AWp.ent (st':=⟨[(0,.lsl 1 0 n (some n) 1),(2,.arr (pE b)),(4,bQ l),(6,.lptr 35 0 0),(7,i64 n),(8,i64 i),(22,i64 n),(23,i64 i)],rwH 37 36 (upR (ph1 A l (fun t=>coP b t) n i) i (dgr A l n i)) n sx0,40,209⟩) ?_ ?_;refine mO (by omega) ?_ ?_ ?_ fun hs=>Bn (l:=l) (b:=b) hs;rw[bv (by omega),cf dV,fK (R':=upR (ph1 A l (fun t=>coP b t) n i) i (dgr A l n i)) (s':=fun x=>x)];intro k a;by_cases h:k=i;subst h;rw[eg,eg];simp;rw[j9 _ _ h,j9 _ _ h];simp;intro k a;by_cases h:k=i;subst h;rw[eg,←mxr_one hlt (0+((k:Nat):Int).toNat) (by omega),cX,a7];rfl;rw[bv (by omega),dt dV (by omega) a,j9 _ _ h,j9 _ _ h];rw[bv (by omega)];rfl
  have C:∀(k:Nat) (B:Option ABlk),k≠i+2→dB (an ((k,B)::rwH 37 36 (upR (ph1 A l (fun t=>coP b t) n i) i (dgr A l n i)) n sx0)) (i+2)=some ⟨36,3,pE (dgr A l n i)⟩:=fun k B a=>dP (by
   have:=dt (TS:=37) (TQ:=36) (R:=upR (ph1 A l (fun t=>coP b t) n i) i (dgr A l n i)) dV (by omega:n≤30) hlt;rw[eg] at this;rw[bv a];exact this) (show(3:Nat)≠0 by decide)
  have w:∀e,e=i→(rwO (upR (ph1 A l (fun t=>coP b t) n i) i (dgr A l n i)) (fun x=>x) n)[e]?=some [.lsl (i+2) 0 n none 3]:=fun e o=>by rw[dQ hlt e o,eg,CL]
  have D:=dP (cf (TS:=37) (TQ:=36) (n:=n) (R:=upR (ph1 A l (fun t=>coP b t) n i) i (dgr A l n i)) dV) (show(1:Nat)≠0 by decide);have S:(pE b).length=n:=by simp[pE,hb]
  have u:(pE b)[((i:Nat):Int).toNat]?=some (qC (coP b i)):=by
   have:=ca (p:=b) (i:=i) (by omega);simp[pE,this]
  have M:(pE (dgr A l n i)).length=n:=by simp[pE]
  have z:(50:Nat)≠i+2:=by omega
  refine r_d a6 14 ?_;refine a_5 ?_;refine o_0 (.load_l1 rfl D (w _ (by omega)) TG.h rfl) ?_;refine a_2 ?_;refine i_x u ?_;refine l_x u ?_;refine a_1 ?_;refine o_2 (.append_l rfl rfl rfl te_37.h rfl rfl (C 50 _ z) rfl rfl M (cW _) (by rfl) rfl (.lsl rfl (nle rfl)) TZ.h rfl TB.h (by first|rfl|assumption|(simp;done)|(simp;omega)|omega) (by first|(simp[maxLen];done)|(simp[maxLen];omega))) ?_;refine a_1 ?_;refine dX (.store rfl rfl (w _ (by omega)) rfl rfl rfl TS.h (nle rfl)) ?_;refine ao (n_k ?_);refine r_m 2 ?_;refine a_z ?_;refine⟨i+1,by omega,by omega,?_⟩;rw[svO.eq_1,←GC,←upR_up (ph1 A l (fun t=>coP b t) n i) i (dgr A l n i) (aO (n+1) (svM A l (fun t=>coP b t) n i))];have O:fiR i 51 35=35:=HT (by omega);refine By (fiR i 51) (by omega) (Ao _ _) (fun x y K J e=>pR (m:=40) (Nat.le_refl _) (by decide) x y (rv (by omega) K) (rv (by omega) J) e) ?_ ?_ ?_ fun hs=>Bn (l:=l) (b:=b) hs;rw[An,←Gd (new:=51) (m:=n+1) hlt (by simp) (0+((i:Nat):Int).toNat) (by omega)];rfl;intro k a;by_cases h:k=i;subst h;rw[eg,na,←dgr_app,kD];rfl
  ·rw[iI h,j9 _ _ h]
   repeat rw[bv (by omega)]
   exact dt dV (by omega) a
  ·rw[HT (by omega)]
   repeat rw[bv (by omega)]
   rfl
 rintro _ _;exact hrest
theorem Ge(R:Nat→List Rat)(n:Nat):(rwL R n).map (fun e=>([.arr e]:List AV))=mE ((List.range n).map R):=by simp[rwL,mE]
theorem DM(k:List (List Rat))(a:Nat):(mE k).drop a=mE (k.drop a):=by simp[mE,List.map_drop]
def rwI(n:Nat):List Nat:=1::(List.range n).map (· +2)
theorem IK{r:Ren}{hp hp':Nat→Option ABlk}{cap:Option Nat}{TS TQ a m n:Nat}{R:Nat→List Rat}(hh:∀i∈rwI n,hp' i=hp i)(h1:hp 1=some ⟨TS,1,rwO R (fun x=>x) n⟩)(hr:∀i,i< n→hp (i+2)=some ⟨TQ,3,pE (R i)⟩)(ham:a+m=n):
    Cv r hp' (fun _=>none) (.lsl 1 a m cap 1) (.arr (mE (((List.range n).map R).drop a))):=by
 have e:mE (((List.range n).map R).drop a)=(((rwL R n).map fun e=>([.arr e]:List AV)).drop a).take m:=by
  rw[Ge,DM,List.take_of_length_le (by simp;omega)]
 rw[e];have d:(rwL R n).length=n:=nK R n;refine Cv.mzV (sz:=3) (TS:=TS) (TQ:=TQ) (w:=fun k=>(R k).length) (by decide) ?_ (fun i x b=>?_) (fun i x b=>by rw[(Bz b).2];simp[pE]) (fun x b y g c hc=>?_) (by rw[d];omega);rw[hh 1 (List.mem_cons_self ..),h1,d];rfl;obtain⟨f,rfl⟩:=Bz b;rw[hh (i+2) (List.mem_cons_of_mem _ (List.mem_map.2 ⟨i,List.mem_range.2 f,rfl⟩)),hr i f];obtain⟨k,_,rfl⟩:=List.mem_map.1 b;exact aJ _ y g c hc
theorem fs_lead(R:Nat→List Rat)(n r c:Nat)(hn:n≤1000)(hl:∀i,i< n→c< (R i).length):
    FS 107 [.arr (mE (((List.range n).map R).drop r)),.clos 108 [] [.aptr [[i64 c]] 0 0]] (i64 (jK (fun e:List Rat=>decide (coP e c≠0)) (((List.range n).map R).drop r) 0)):=
 ws _ 108 [.aptr [[i64 c]] 0 0] _ (ac (ba (ac (ag _) af)) af) (by simp;omega) fun e a=>by
  obtain⟨i,b,rfl⟩:=List.mem_map.1 (List.mem_of_mem_drop a);exact Cb _ c _ (ca (hl i (List.mem_range.1 b)))
theorem wb{α:Type}(t:α→Bool):∀(l:List α) (k:Int),(∀x∈l,t x=false)→jK t l k= -1
 |[],_,_=>rfl
 |a::l,k,h=>by
  rw[jK,if_neg (by rw[h a (List.mem_cons_self ..)];decide)];exact wb t l _ fun x b=>h x (List.mem_cons_of_mem _ b)
theorem DU{α:Type}(t:α→Bool):∀(l:List α) (k:Int) (j:Nat) (x:α),l[j]?=some x→t x=true→(∀i y,i< j→l[i]?=some y→t y=false)→jK t l k=k+j
 |[],_,_,_,h,_,_=>by cases h
 |a::l,k,0,x,h,h2,_=>by
  cases h;rw[jK,if_pos h2];simp
 |a::l,k,j+1,x,h,h2,h3=>by
  rw[jK,if_neg (by rw[h3 0 a (by omega) rfl];decide),DU t l (k+1) j x (by simpa using h) h2 fun i y c b=>h3 (i+1) y (by omega) (by simpa using b)];omega
theorem xh{M:Mx}{n r i:Nat}(h:r+i< n):(((List.range n).map fun k=>aO (n+1) (M k)).drop r)[i]?=some (aO (n+1) (M (r+i))):=by
 rw[List.getElem?_drop];simp[h]
theorem coP_tab{n c:Nat}{f:Nat→Rat}(h:c≤n):coP (aO (n+1) f) c=f c:=by
 unfold coP aO;rw[List.getD_eq_getElem?_getD];simp[show c< n+1 by omega]
theorem idx_pv(M:Mx)(n r c:Nat)(hr:r≤n)(hc:c≤n):jK (fun e:List Rat=>decide (coP e c≠0)) (((List.range n).map fun k=>aO (n+1) (M k)).drop r) 0=match pvR M n r c with|some p=>((p- r:Nat):Int)|none=> -1:=by
 cases e:pvR M n r c with
 |none=>
  refine wb _ _ _ fun x g=>?_;obtain⟨i,d⟩:=List.mem_iff_getElem?.1 g
  have b:r+i< n:=by
   have:=(List.getElem?_eq_some_iff.1 d).1;simp at this;omega
  rw[xh b] at d;cases d;rw[coP_tab hc,ze e (r+i) b (by omega)];decide
 |some p=>
  obtain⟨p1,p2,h⟩:=lT e
  have a:∀q,q< p→r≤q→M q c=0:=fun q j l=>by
   have e2:=e;unfold pvR at e2;rw[List.find?_range_eq_some] at e2;have:=e2.2.2 q j;simp at this;exact this.resolve_left (by omega)
  rw[DU _ _ 0 (p- r) (aO (n+1) (M p)) (by rw[xh (by omega),show r+(p- r)=p by omega]) (by rw[coP_tab hc];exact decide_eq_true h) fun i y d f=>?_];simp;rw[xh (by omega)] at f;cases f;rw[coP_tab hc,a (r+i) (by omega) (by omega)];decide
def lvE(L:List Nat):List (List AV):=L.map fun(l:Nat)=>[i64 (l:Int)]
@[simp] theorem jH (L:List Nat):(lvE L).length=L.length:=by simp[lvE]
theorem cO(L:List Nat):∀e∈lvE L,∀c∈e,Closed c:=fun e a=>by
 obtain⟨l,_,rfl⟩:=List.mem_map.1 a;exact ac (ag _) af
theorem G1(L:List Nat)(c:Nat):lvE (L++[c])=lvE L++[[i64 c]]:=by simp[lvE]
def lvA:List Nat→AV
 |[]=> .emp
 |l::L=> .lsl 37 0 (L.length+1) none 1
def lvB:List Nat→Hp
 |[]=>[]
 |l::L=>[(37,some ⟨3,1,lvE (l::L)⟩)]
def sx1(n:Nat)(L:List Nat):Hp:=(35,some ⟨106,3,[[.emp,.emp,i64 0]]⟩)::(36,some ⟨106,3,[[.lsl 1 0 n (some n) 1,lvA L,i64 n]]⟩)::lvB L
theorem cm{n:Nat}{L:List Nat}:∀p∈sx1 n L,35≤p.1∧p.1< 40:=fun p hp=>by
 rcases List.mem_cons.1 hp with rfl|hp
 exact⟨(show 35≤35 by decide),(show 35< 40 by decide)⟩;rcases List.mem_cons.1 hp with rfl|hp
 exact⟨(show 35≤36 by decide),(show 36< 40 by decide)⟩;cases L with
 |nil=>cases hp
 |cons l L=>rw[List.mem_singleton.1 hp];exact⟨(show 35≤37 by decide),(show 37< 40 by decide)⟩
theorem jc {fr fr':Fr} {hp:Hp} {nx N n:Nat} {R:Nat→List Rat} {L:List Nat} {x:AV} (s:Nat→Nat) (hn:n≤30) (s0:s 0=0) (hinj:∀i j,InX n i→InX n j→s i=s j→i=j) (h1:an hp (s 1)=some ⟨37,1,rwO R s n⟩) (hr:∀i,i< n→an hp (s (i+2))=some ⟨36,3,pE (R i)⟩)
    (h35:an hp (s 35)=some ⟨106,3,[[.emp,.emp,i64 0]]⟩) (h36:an hp (s 36)=some ⟨106,3,[[.lsl (s 1) 0 n (some n) 1,x,i64 n]]⟩) (hx:(L=[]∧x= .emp)∨(L≠[]∧x= .lsl (s 37) 0 L.length none 1∧an hp (s 37)=some ⟨3,1,lvE L⟩))
    (hF:Shr ⟨40,s⟩ (an hp) (an (rwH 37 36 R n (sx1 n L)))→CvF ⟨40,s⟩ (an hp) (an (rwH 37 36 R n (sx1 n L))) fr fr'):SEnt ⟨fr,hp,nx,N⟩ ⟨fr',rwH 37 36 R n (sx1 n L),40,N⟩:=by
 refine SEntT.ent (SEntT.rw s hn s0 hinj h1 hr cm (fun i B h=>?_) (fun hs i B f h hB=>?_) hF);rcases List.mem_cons.1 h with h|h
 cases h;exact⟨_,h35,rfl,rfl,rfl⟩;rcases List.mem_cons.1 h with h|h
 cases h;exact⟨_,h36,rfl,rfl,rfl⟩;rcases hx with⟨rfl,_⟩|⟨b,_,a⟩
 cases h;cases L with
 |nil=>exact absurd rfl b
 |cons l L=>cases List.mem_singleton.1 h;exact⟨_,a,rfl,rfl,rfl⟩
 rcases List.mem_cons.1 h with h|h
 cases h;rw[h35] at hB;cases hB
 exact a8 hs fun e d c hc=>by
  rw[List.mem_singleton.1 d] at hc;exact ac c5 (ac c5 (ac (ag _) af)) c hc
 rcases List.mem_cons.1 h with h|h
 cases h;rw[h36] at hB;cases hB;refine CvLL.cons (ah (Cv.sl rfl rfl ?_) (ah ?_ (ah (am hs (ag _)) av))) CvLL.nil;rw[cf (cm (n:=n) (L:=L))];rfl;rcases hx with⟨rfl,rfl⟩|⟨b,rfl,a⟩
 exact am hs c5;cases L with
 |nil=>exact absurd rfl b
 |cons l L=>exact Cv.sl rfl rfl rfl
 rcases hx with⟨rfl,_⟩|⟨b,_,a⟩
 cases h;cases L with
 |nil=>exact absurd rfl b
 |cons l L=>
  cases List.mem_singleton.1 h;rw[a] at hB;cases hB;exact a8 hs (cO _)
end Go.Proofs.YtdgbhlkabelmbaaGreatDoor
