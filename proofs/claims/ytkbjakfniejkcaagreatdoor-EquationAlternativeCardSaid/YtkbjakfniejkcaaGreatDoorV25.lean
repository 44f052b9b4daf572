/- Part V25 of the proof. -/
import Derived.Test.YtkbjakfniejkcaaGreatDoorV24
set_option linter.all false
namespace Go.Proofs.YtkbjakfniejkcaaGreatDoor
open Go.Abs
set_option maxRecDepth 20000
set_option maxHeartbeats 2000000
def fiO(A:Nat->Nat->Rat)(n g:Nat)(cap:La)(i:Nat):AState:=⟨[(0,i64 n),(1,.clos g [] cap),(5,.lsl 1 0 n (some n) 1),(11,i64 n),(12,i64 i)],mzH 3 37 36 (foE (fun _=>n) (fun x=>x) n i) (fiL A n i),40,35⟩
def fiE(A:Nat->Nat->Rat)(n:Nat):AState:=⟨[(5,.lsl 1 0 n (some n) 1)],mzH 3 37 36 (foE (fun _=>n) (fun x=>x) n n) (fiL A n n),40,35⟩
def fiI(A:Nat->Nat->Rat)(n g:Nat)(cap:La)(i:Nat):Nat->AState
 |0=>⟨[(0,i64 n),(1,.clos g [] cap),(5,.lsl 1 0 n (some n) 1),(6,i64 i),(11,i64 n),(12,i64 i),(15,i64 n),(16,i64 0)],mzH 3 37 36 (foE (fun _=>n) (fun x=>x) n i) (fiL A n i),40,35⟩
 |j+1=>⟨[(0,i64 n),(1,.clos g [] cap),(5,.lsl 1 0 n (some n) 1),(6,i64 i),(11,i64 n),(12,i64 i),(15,i64 n),(16,i64 ((j+1:Nat):Int))],mzH 3 37 36 (foE (wJ n i (j+1)) (fun x=>x) n (i+1)) (fiL A n i++[pE (aN (j+1) (A i))]),40,35⟩
theorem BH{r:Ren}{hp hp':Hq}{fr fr':Fr}{g:Nat}{cap:La}(hs:Shr r hp hp')(hcc:Closed (.clos g [] cap))(h:CvF r hp hp' fr fr':=by repeat' (first|exact aP|refine ay rfl ?_ ?_|exact an hs hcc|exact an hs (ag _)|exact Cv.sl rfl rfl rfl|(refine Cv.loE hs ?_ (ag _);simp[i64];done))):CvF r hp hp' fr fr':=h
theorem wM(A:Nat->Nat->Rat)(n g:Nat)(cap:La)(hn:n<=25)(hcap:∀c∈cap,Closed c)(hg:∀i j:Nat,i< n->j< n->FS g ((i64 i::i64 j::cap).map coe) (.agg (qC (A i j)))):
    XSpecT Tryz.prog 137 [i64 n,.clos g [] cap] [] 1 (.lsl 1 0 n (some n) 1) (mzH 3 37 36 (mzO 3 (fun _=>n) (fun x=>x) n) (fiL A n n)) 40:=by
 have hcc:Closed (.clos g [] cap):=aR af hcap;refine XSpecT.enter (t:=4) Tryz.func137 rfl (by kernel_rfl) rfl rfl rfl rfl rfl ?_;refine r_z 1 ?_;refine r_z 3 ?_;refine ae (r_z 3 ?_);refine aF (fun _:Unit=>fiE A n) (fun _=>True) ?_ ?_
 ·refine aj (aC (fiO A n g cap) (fun i=>n- i) (fun i=>i<=n) 0 (Nat.zero_le _) ?_ ?_)
  rw[fiO.eq_1];refine SEntT.ent (SEntT.mz (fun x=>cond (Nat.beq x 1) 3 x) _ (List.replicate n [.emp]) _ (by simp) rfl (fun i j h1 h2 h3 h4 _=>by rw[ko] at h2 h4;omega) rfl (by rw[foE_0]) ?_ ?_ ?_);intro i e hi;exact absurd (n5 hi).1 (by omega);intro hs;rw[foE_0];exact bm hs fun e he c hc=>by rw[(List.mem_replicate.1 he).2,List.mem_singleton] at hc;rw[hc];exact dl
  exact fun hs=>BH hs hcc;intro i hi;rw[fiO.eq_1];by_cases hlt:i< n;rotate_left;have hge:i=n:=by omega
  subst hge;refine q_z 1 ?_;refine ae (cF (ax ⟨(),trivial,?_⟩));refine SEntT.ent (SEntT.mz (fun x=>x) _ _ _ (by simp;omega) rfl (fun i j _ _ _ _ e=>e) rfl rfl ?_ ?_ ?_);intro k e hk;obtain⟨h1,rfl⟩:=n5 hk;exact⟨dt (fz h1),aJ _⟩;exact fun hs=>lY hs (by omega) fun k hk=>by rw[dt (fz hk)];rfl
  exact fun hs=>BH hs hcc;refine q_z 1 ?_;refine ae (cT (am (ae (aj (r_z 2 ?_)))));refine r_z 2 ?_;refine AWp.cutB (fun _:Unit=>fiI A n g cap i n) (fun _=>True) ?_ ?_;refine aj (aC (fiI A n g cap i) (fun j=>n- j) (fun j=>j<=n) 0 (Nat.zero_le _) ?_ ?_);rw[fiI.eq_1];refine SEntT.ent (SEntT.mz (fun x=>x) _ _ _ (by simp;omega) rfl (fun i j _ _ _ _ e=>e) rfl rfl ?_ ?_ ?_);intro k e hk;obtain⟨h1,rfl⟩:=n5 hk;exact⟨dt (fz h1),aJ _⟩;exact fun hs=>lY hs (by omega) fun k hk=>by rw[dt (fz hk)];rfl
  exact fun hs=>BH hs hcc;intro j hj;by_cases hjn:j< n
  ·have hg1:=hg i j hlt hjn
   cases j with
   |zero=>
    rw[fiI.eq_1];refine q_z 1 ?_;refine ae (cT (am (ae (aj (r_z 2 ?_)))));refine r_d a7 14 ?_;refine a_5 ?_
    first|refine aY (.load_l1 rfl rfl (foE_ge' (Nat.le_refl _) hlt _ (by omega)) TG.h rfl) rfl rfl ?_|refine aY (.load_a1 rfl (foE_ge' (Nat.le_refl _) hlt _ (by omega)) TG.h rfl) rfl rfl ?_
    refine c_s (hg1) ?_;refine a_3 ?_;refine eF (.store rfl rfl (foE_ge' (Nat.le_refl _) hlt _ (by omega)) rfl rfl rfl TS.h (nle rfl)) ?_;refine aq (n_k ?_);refine r_m 2 ?_;refine a_z ?_;refine⟨0+1,by omega,by omega,?_⟩;rw[fiI.eq_2];refine SEntT.ent (SEntT.mz (fiR i 54) _ (foE (wJ n i (0+1)) (fiR i 54) n (i+1)) _ (by simp;omega) (BJ _ _) (fun x y _ h2 _ h4 e=>qW (m:=40) (Nat.le_refl _) (by decide) x y (by simp at h2;omega) (by simp at h4;omega) e) ?_ ?_ ?_ ?_ ?_);rw[BI,<-fi_set0 hlt (0+((i:Nat):Int).toNat) (by omega)];rfl;rw[iR hlt,iR hlt];intro k e hk;rcases DW hk with⟨h1,rfl⟩|⟨rfl,rfl⟩
    ·rw[jc (by omega)]
     refine⟨?_,aJ _⟩
     repeat rw[bY (by omega)]
     exact dt (fz h1)
    rw[oO];exact⟨rfl,aJ _⟩
    exact fun hs=>lY hs (by omega) fun k hk=>by
     by_cases hki:k< i;rw[dt (sr hki)];rfl;obtain rfl:k=i:=by omega
     rw[dt qX];rfl
    exact fun hs=>BH hs hcc
   |succ j=>
    rw[fiI.eq_2];have hlen:(pE (aN (j+1) (A i))).length=j+1:=by simp[pE]
    have hrw:∀(k:Nat) (B:Option ABlk),k≠i+2->dQ (ap ((k,B)::mzH 3 37 36 (foE (wJ n i (j+1)) (fun x=>x) n (i+1)) (fiL A n i++[pE (aN (j+1) (A i))]))) (i+2)=some ⟨36,3,pE (aN (j+1) (A i))⟩:=fun k B hk=>ei (by rw[bY hk];exact dt qX) (show(3:Nat)≠0 by decide);have hi53:(53:Nat)≠i+2:=by omega
    refine q_z 1 ?_;refine ae (cT (am (ae (aj (r_z 2 ?_)))));refine r_d a7 14 ?_;refine a_5 ?_
    first|refine aY (.load_l1 rfl rfl (foE_lt' (Nat.lt_succ_self _) Ao _ (by omega)) TG.h rfl) rfl rfl ?_|refine aY (.load_a1 rfl (foE_lt' (Nat.lt_succ_self _) Ao _ (by omega)) TG.h rfl) rfl rfl ?_
    refine c_s (hg1) ?_;refine a_1 ?_;refine o_2 (.append_l rfl rfl rfl te_37.h rfl rfl (hrw 53 _ hi53) rfl rfl hlen (dy _) (by rfl) rfl (.lsl rfl (nle rfl)) TZ.h rfl TB.h (by first|rfl|assumption|(simp;done)|(simp;omega)|omega) (by first|(simp[maxLen];done)|(simp[maxLen];omega))) ?_;refine a_1 ?_;refine eF (.store rfl rfl (foE_lt' (Nat.lt_succ_self _) Ao _ (by omega)) rfl rfl rfl TS.h (nle rfl)) ?_;refine aq (n_k ?_);refine r_m 2 ?_;refine a_z ?_;refine⟨j+1+1,by omega,by omega,?_⟩;rw[fiI.eq_2];refine SEntT.ent (SEntT.mz (fiR i 54) _ (foE (wJ n i (j+1+1)) (fiR i 54) n (i+1)) _ (by simp;omega) (BJ _ _) (fun x y _ h2 _ h4 e=>qW (m:=40) (Nat.le_refl _) (by decide) x y (by simp at h2;omega) (by simp at h4;omega) e) ?_ ?_ ?_ ?_ ?_);rw[BI,<-fi_set hlt (0+((i:Nat):Int).toNat) (by omega)];rfl;rw[iR hlt,iR hlt];intro k e hk;rcases DW hk with⟨h1,rfl⟩|⟨rfl,rfl⟩
    ·rw[jc (by omega)]
     refine⟨?_,aJ _⟩
     repeat rw[bY (by omega)]
     exact dt (sr h1)
    rw[oO];refine⟨?_,aJ _⟩;rw[wU (j+1),lh];rfl
    exact fun hs=>lY hs (by omega) fun k hk=>by
     by_cases hki:k< i;rw[dt (sr hki)];rfl;obtain rfl:k=i:=by omega
     rw[dt qX];rfl
    exact fun hs=>BH hs hcc
  have hge:j=n:=by omega
  obtain⟨j,rfl⟩:∃j',j=j'+1:=⟨j- 1,by omega⟩;rw[fiI.eq_2];refine q_z 1 ?_;refine ae (cF (ax ⟨(),trivial,?_⟩));rw[<-hge,fiI.eq_2];refine SEntT.ent (SEntT.mz (fun x=>x) _ _ _ (by simp;omega) rfl (fun i j _ _ _ _ e=>e) rfl rfl ?_ ?_ ?_);intro k e hk;rcases DW hk with⟨h1,rfl⟩|⟨rfl,rfl⟩
  exact⟨dt (sr h1),aJ _⟩;exact⟨dt qX,aJ _⟩
  exact fun hs=>lY hs (by omega) fun k hk=>by
   by_cases hki:k< i;rw[dt (sr hki)];rfl;obtain rfl:k=i:=by omega
   rw[dt qX];rfl
  exact fun hs=>BH hs hcc;rintro _ _;obtain⟨m,rfl⟩:∃m,n=m+1:=⟨n- 1,by omega⟩;rw[fiI.eq_2,Jr,G0 (w:=wJ (m+1) i (m+1)) (w':=fun _=>m+1) (s':=fun x=>x) (fun k hk=>⟨by unfold wJ;cases Nat.blt k i <;> rfl,rfl⟩)];refine r_m 2 ?_;refine a_z ?_;refine⟨i+1,by omega,by omega,?_⟩;rw[fiO.eq_1];refine SEntT.ent (SEntT.mz (fun x=>x) _ _ _ (by simp;omega) rfl (fun i j _ _ _ _ e=>e) rfl rfl ?_ ?_ ?_);intro k e hk;obtain⟨h1,rfl⟩:=n5 hk;exact⟨dt (fz h1),aJ _⟩;exact fun hs=>lY hs (by omega) fun k hk=>by rw[dt (fz hk)];rfl
  exact fun hs=>BH hs hcc
 rintro _ _;show AWp _ _ _ _ ⟨[(5,.lsl 1 0 n (some n) 1)],mzH 3 37 36 (foE (fun _=>n) (fun x=>x) n n) (fiL A n n),40,35⟩;rw[foE_n];refine r_z 2 ?_;refine ai (FinXT.of (SEntT.mz (fun x=>x) _ _ _ (by simp;omega) rfl (fun i j _ _ _ _ e=>e) rfl rfl ?_ ?_ ?_));intro k e hk;obtain⟨h1,rfl⟩:=n5 hk;exact⟨dt (fz h1),aJ _⟩;exact fun hs=>rz (by omega) fun k hk=>by rw[dt (fz hk)];rfl
 exact fun hs=>BH hs hcc
theorem GF(A:Nat->Nat->Rat)(n g:Nat)(cap:La)(hn:n<=25)(hcap:∀c∈cap,Closed c)(hg:∀i j:Nat,i< n->j< n->FS g ((i64 i::i64 j::cap).map coe) (.agg (qC (A i j)))):
    FS 137 [i64 n,.clos g [] cap] (.arr ((fiL A n n).map fun e=>[.arr e])):=
 (wM A n g cap hn hcap hg).shut rfl (ac (ag _) (ac (aR af hcap) af))
  (Cv.mzShut (r:=⟨0,fun i=>i⟩) (show(3:Nat)≠0 by decide) aA (fun _=>rfl) (ko _ _ _).symm (fun i e h=>by have:=(n5 h).2;subst this;simp[pE]) fun e b x f c a=>by
   obtain⟨k,_,rfl⟩:=List.mem_map.1 b;exact aJ _ x f c a) (aG fun e b c a=>by
   obtain⟨y,d,rfl⟩:=List.mem_map.1 b;obtain⟨k,_,rfl⟩:=List.mem_map.1 d;rw[List.mem_singleton] at a;rw[a];exact aG (aJ _))
def inQ(p:Lq)(a b:Rat):Rat:=ak (aH p) b- ak (aH p) a
structure OkIn (p:Lq)(a b:Rat):Prop where
 s:smL p
 l:p.length<=1099511627775
 e1:gz (aH p) b
 e2:gz (aH p) a
 d:qs (ak (aH p) b)+qs (ak (aH p) a)<=549755813888
theorem th(p:Lq)(a b:Rat)(h:OkIn p a b):FS 99 [.arr (pE p),.agg (spC a b)] (.agg (qC (inQ p a b))):=by
 refine f_c Tryz.func99 ?_;refine r_z 2 ?_;refine r_c 3 (nY p h.s h.l) ?_;refine a_z ?_;refine ae (r_d a7 10 ?_);refine c_s (iv _ b h.e1) ?_;refine c_s (iv _ a h.e2) ?_;refine c_s (jC _ _ h.d) ?_;refine a_1 ?_;refine aq (n_k ?_);exact ai (c_e (aS _))
def bKe(k:Ke):AV:= .aptr [[.arr (kE k)]] 0 0
def bSp(a b:Rat):AV:= .aptr [spC a b] 0 0
theorem cW(k:Ke):Closed (bKe k):=bq (ac (aL k) af)
theorem b9(a b:Rat):Closed (bSp a b):=bq (aZ a b)
theorem DG(k:Ke)(a b:Rat)(i j:Nat)(p q:Lq×Lq)(hp:k[i]?=some p)(hq:k[j]?=some q)(hl:k.length<=1000)(hm:j7 p.2 q.1)(ho:OkIn (aK p.2 q.1) a b):
    FS 138 [i64 i,i64 j,bKe k,bSp a b] (.agg (qC (inQ (aK p.2 q.1) a b))):=by
 have e:(kE k).length=k.length:=dY k;have g:i< k.length:=(List.getElem?_eq_some_iff.1 hp).1;have f:j< k.length:=(List.getElem?_eq_some_iff.1 hq).1;have d:(kE k)[((i:Nat):Int).toNat]?=some (prC p):=ka hp _ (by simp);have c:(kE k)[((j:Nat):Int).toNat]?=some (prC q):=ka hq _ (by simp);refine f_n Tryz.func138 ?_ ?_;exact ac (ag _) (ac (ag _) (ac (cW k) (ac (b9 a b) af)));refine r_z 1 ?_;refine ae (r_d a7 14 ?_);refine a_2 ?_;refine i_x d ?_;refine a_1 ?_;refine l_1 d ?_;refine a_2 ?_;refine i_x c ?_;refine a_1 ?_;refine l_1 c ?_;refine c_s (qR p.2 q.1 hm) ?_;refine c_s (th _ a b ho) ?_;refine a_1 ?_;refine aq (n_k ?_);exact ai (c_e (aS _))
def maK(k:Ke)(a b:Rat)(i j:Nat):Rat:=inQ (aK (k.getD i ([],[])).2 (k.getD j ([],[])).1) a b
structure OkMa (k:Ke)(a b:Rat):Prop where
 l:k.length<=8
 m:∀p∈k,∀q∈k,j7 p.2 q.1/\OkIn (aK p.2 q.1) a b
theorem DF(k:Ke)(a b:Rat)(h:OkMa k a b)(i j:Nat)(hi:i< k.length)(hj:j< k.length):FS 138 ((i64 i::i64 j::[bKe k,bSp a b]).map coe) (.agg (qC (maK k a b i j))):=by
 obtain⟨p,hp⟩:∃p,k[i]?=some p:=⟨_,List.getElem?_eq_getElem hi⟩;obtain⟨q,c⟩:∃q,k[j]?=some q:=⟨_,List.getElem?_eq_getElem hj⟩;have d:=h.m p (List.mem_of_getElem? hp) q (List.mem_of_getElem? c);have e:maK k a b i j=inQ (aK p.2 q.1) a b:=by unfold maK;rw[List.getD_eq_getElem?_getD,List.getD_eq_getElem?_getD,hp,c];rfl
 rw[e];exact DG k a b i j p q hp c (by have:=h.l;omega) d.1 d.2
theorem rA(k:Ke)(a b:Rat)(h:OkMa k a b):
    XSpecT Tryz.prog 74 [.arr (kE k),.agg (spC a b)] [] 1 (.lsl 1 0 k.length (some k.length) 1) (mzH 3 37 36 (mzO 3 (fun _=>k.length) (fun x=>x) k.length) (fiL (maK k a b) k.length k.length)) 40:=by
 have c:(kE k).length=k.length:=dY k;have o:=h.l;have m:=(wM (maK k a b) k.length 138 [bKe k,bSp a b] (by omega) (ac (cW k) (ac (b9 a b) af)) (DF k a b h)).x;refine XSpecT.enter (t:=4) Tryz.func74 rfl (by kernel_rfl) rfl rfl rfl rfl rfl ?_;refine r_z 3 ?_;refine AWp.ent (st':=⟨[(2,bKe k),(3,bSp a b)],[],1,9⟩) ?_ ?_;exact s_x [] (fun hs=>e_46) (fun hs=>e_47);refine ae (AWp.regX (fr2:=[(6,i64 k.length),(7,.clos 138 [] [bKe k,bSp a b])]) (hp2:=[]) (nx2:=1) (fr3:=[]) 3 rfl rfl rfl rfl rfl rfl ?_ rfl rfl rfl m (fun t x f=>by cases f) (fun t x f=>by cases f) ?_);refine aY (.load_a1 rfl rfl TG.h rfl) rfl rfl ?_;refine aY (.len rfl rfl rfl rfl rfl te_29.h) rfl rfl ?_;refine o_0 (.makeFunc rfl rfl) ?_;refine aq ?_;refine s_y [] (fun hs=>?_) (fun hs=>?_)
 ·repeat' (first|exact aP|refine ay rfl ?_ ?_|exact an hs (aR af (ac (cW k) (ac (b9 a b) af)))|(refine Cv.loE hs ?_ (ag _);simp[i64,c];done)|exact aX)
 ·repeat' (first|exact aE|refine h_c ?_ ?_|exact bZ|refine aD ?_|exact av|refine ah ?_ ?_|exact an hs (aR af (ac (cW k) (ac (b9 a b) af)))|(refine Cv.loE hs ?_ (ag _);simp[i64,c];done)|exact aX)
 refine o_0 (.assign rfl) ?_;refine aq ?_;refine ai (FinXT.of (SEntT.mz (fun x=>x) _ _ _ (by simp;omega) rfl (fun i j _ _ _ _ e=>e) rfl rfl ?_ ?_ ?_));intro n e d;obtain⟨g,rfl⟩:=n5 d;exact⟨dt (fz g),aJ _⟩;exact fun hs=>rz (by omega) fun n d=>by rw[dt (fz d)];rfl
 exact fun hs=>ay rfl (Cv.sl rfl rfl rfl) aP
def mE(k:Lw):Lc:=k.map fun e=>[.arr (pE e)]
@[simp] theorem Gq (k:Lw):(mE k).length=k.length:=by simp[mE]
theorem cm(k:Lw):∀x∈mE k,∀c∈x,Closed c:=fun x a=>by
 obtain⟨p,_,rfl⟩:=List.mem_map.1 a;exact ac (aB _) af
theorem closed_mA(k:Lw):Closed (.arr (mE k)):=aG (cm k)
theorem gR{k:Lw}{i:Nat}{p:Lq}(h:k[i]?=some p):∀e,e=i->(mE k)[e]?=some [.arr (pE p)]:=fun e a=>by
 rw[a,mE,List.getElem?_map,h];rfl
def imS(k:Lw)(g:Nat)(cap:La):Nat->AState
 |i=>⟨[(0,.arr (mE k)),(1,.clos g [] cap),(7,i64 k.length),(8,i64 i)],[],1,19⟩
theorem xH(k:Lw)(g:Nat)(cap:La)(t:Lq->Bool)(hcap:∀c∈cap,Closed c)(hl:k.length<=1099511627776)(hg:∀p∈k,FS g ((.arr (pE p)::cap).map coe) (bln (t p))):FS 135 [.arr (mE k),.clos g [] cap] (i64 (kg t k 0)):=by
 have hcc:Closed (.clos g [] cap):=aR af hcap;have j:(mE k).length=k.length:=Gq k;refine f_c Tryz.func135 ?_;obtain⟨R,h⟩:∃R,R=kg t k 0:=⟨_,rfl⟩;rw[<-h];refine r_z 1 ?_;refine ae (r_z 3 ?_);refine aF (fun _:Unit=>⟨[],[],1,19⟩) (fun _=>R= -1) ?_ ?_;refine aj (aC (imS k g cap) (fun i=>k.length- i) (fun i=>i<=k.length/\kg t (k.drop i) i=R) 0 ⟨Nat.zero_le _,by rw[h];rfl⟩ ?_ ?_);simp only[imS.eq_1];exact s_x [] (fun hs=>e_48) (fun hs=>e_49);rintro i ⟨l,a⟩;rw[imS.eq_1];by_cases hlt:i< k.length;refine q_z 1 ?_;refine ae (cT (am ?_));obtain⟨p,hp⟩:∃p,k[i]?=some p:=⟨_,List.getElem?_eq_getElem hlt⟩;have b:(mE k)[((i:Nat):Int).toNat]?=some [.arr (pE p)]:=gR hp _ (by simp);rw[zQ hp,kg] at a;refine ae (aj (r_z 2 ?_));refine s_r 6 ?_;refine a_3 ?_;refine i_x b ?_;refine l_1 b ?_;refine c_s (hg p (List.mem_of_getElem? hp)) ?_;refine aq ?_;refine au rfl (fun f=>?_) (fun f=>?_);have e:t p=true:=f;rw[if_pos e] at a;refine r_z 2 ?_;refine ai (aW rfl ?_ ?_);rw[<-a];exact ag _;have e:¬t p=true:=by rw[show t p=false from f];decide
 rw[if_neg e] at a;refine am (r_m 2 ?_);refine a_z ?_;refine⟨i+1,by omega,⟨hlt,a⟩,?_⟩;simp only[imS.eq_1];exact s_x [] (fun hs=>e_48) (fun hs=>e_49);have d:i=k.length:=by omega
 subst d;refine q_z 1 ?_;refine ae (cF ?_);rw[List.drop_length] at a;refine ax ⟨(),a.symm,?_⟩;exact s_e [];rintro _ a;refine r_z 1 ?_;refine ai (aW rfl ?_ ?_);rw[a];rfl;exact ag _
theorem zn(k:Lw)(g:Nat)(cap:La)(t:Lq->Bool)(hcap:∀c∈cap,Closed c)(hl:k.length<=1099511627776)(hg:∀p∈k,FS g ((.arr (pE p)::cap).map coe) (bln (t p)))(hcap2:cap.map coe=cap):FS 117 [.arr (mE k),.clos g [] cap] (bln (k.any t)):=by
 have a:Closed (.clos g [] cap):=aR af hcap;have e:=qA t k 0 (Int.le_refl 0);have b:=xH k g cap t hcap hl hg;refine f_c Tryz.func117 ?_;refine r_z 1 ?_;refine r_c 5 (b) ?_;refine a_z ?_;refine ai (aW rfl ?_ ?_);rw[<-e];rfl;exact ag _
theorem DB(e:Lq)(c:Nat)(x:Rat)(hx:e[c]?=some x):FS 136 [.arr (pE e),.aptr [[i64 c]] 0 0] (bln (decide (x≠0))):=by
 have b:c< e.length:=(List.getElem?_eq_some_iff.1 hx).1;have d:(pE e).length=e.length:=by simp[pE]
 have a:(pE e)[((c:Nat):Int).toNat]?=some (qC x):=by simp[pE,hx]
 refine f_c Tryz.func136 ?_;refine r_z 1 ?_;refine s_r 7 ?_;refine a_2 ?_;refine i_x a ?_;refine l_x a ?_;refine c_s (cC x) ?_;refine a_z ?_;refine ai (aW rfl ?_ ?_);rw[show decide (x≠0)=decide (sgZ x.num≠0) from decide_eq_decide.2 (not_congr sgZ_num_eq.symm)]
 first|rfl|(congr 1;cases hb:decide (sgZ x.num=0) with|true=>(have:=of_decide_eq_true hb;simp[this])|false=>(have:=of_decide_eq_false hb;simp[bln,bne,this]))
 exact ag _
def syX(rows leads:AV)(n:Int):Hp:=[(35,some ⟨113,3,[[rows,leads,i64 n]]⟩)]
theorem syX_id{rows leads:AV}{n:Int}:∀p∈syX rows leads n,35<=p.1/\p.1< 40:=fun p hp=>by rw[List.mem_singleton.1 hp];exact⟨(show 35<=35 by decide),(show 35< 40 by decide)⟩
def sx0:Hp:=syX .emp .emp 0
theorem ew:∀p∈sx0,35<=p.1/\p.1< 40:=syX_id
theorem CV {fr fr':Fr} {hp:Hp} {nx N n:Nat} {R:Nat->Lq} (s:Nat->Nat) (hn:n<=30) (s0:s 0=0) (hinj:∀i j,InX n i->InX n j->s i=s j->i=j) (h1:ap hp (s 1)=some ⟨37,1,rwO R s n⟩) (hr:∀i,i< n->ap hp (s (i+2))=some ⟨36,3,pE (R i)⟩) (h35:ap hp (s 35)=some ⟨113,3,[[.emp,.emp,i64 0]]⟩)
    (hF:Shr ⟨40,s⟩ (ap hp) (ap (rwH 37 36 R n sx0))->CvF ⟨40,s⟩ (ap hp) (ap (rwH 37 36 R n sx0)) fr fr'):SEnt ⟨fr,hp,nx,N⟩ ⟨fr',rwH 37 36 R n sx0,40,N⟩:=
 SEntT.ent (SEntT.rw s hn s0 hinj h1 hr ew (fun i B h=>by
  cases List.mem_singleton.1 h;exact⟨_,h35,rfl,rfl,rfl⟩) (fun hs i B d h a=>by
  cases List.mem_singleton.1 h;have a:ap hp (s 35)=some d:=a;rw[h35] at a;cases a
  exact bm hs fun e f c b=>by
   rw[List.mem_singleton.1 f] at b;exact ac dl (ac dl (ac (ag _) af)) c b) hF)
theorem ov {fr fr':Fr} {hp:Hp} {nx N n:Nat} {R:Nat->Lq} (hn:n<=30) (h1:ap hp 1=some ⟨37,1,rwO R (fun x=>x) n⟩) (hr:∀i,i< n->ap hp (i+2)=some ⟨36,3,pE (R i)⟩) (h35:ap hp 35=some ⟨113,3,[[.emp,.emp,i64 0]]⟩)
    (hF:Shr ⟨40,fun x=>x⟩ (ap hp) (ap (rwH 37 36 R n sx0))->CvF ⟨40,fun x=>x⟩ (ap hp) (ap (rwH 37 36 R n sx0)) fr fr'):SEnt ⟨fr,hp,nx,N⟩ ⟨fr',rwH 37 36 R n sx0,40,N⟩:=
 CV (fun x=>x) hn rfl (fun _ _ _ _ e=>e) h1 hr h35 hF
theorem Jq{i new x:Nat}(h:x≠i+2):fiR i new x=x:=by
 unfold fiR;rw[show Nat.beq x (i+2)=false by cases hb:Nat.beq x (i+2) with|false=>rfl|true=>exact absurd (Nat.eq_of_beq_eq_true hb) h];rfl
theorem sU{n i:Nat}(hn:n<=30)(h:InX n i):i< 40:=by unfold InX at h;omega
theorem CJ{r:Ren}{hp hp':Hq}{fr fr':Fr}{l:Rat}{b:Lq}(hs:Shr r hp hp')(h:CvF r hp hp' fr fr':=by repeat' (first|exact aP|refine ay rfl ?_ ?_|exact an hs (aB b)|exact an hs (cN l)|exact an hs (ag _)|exact Cv.sl rfl rfl rfl|exact Cv.ptr rfl rfl rfl|exact Cv.ptr rfl (by assumption) rfl|(refine Cv.loE hs ?_ (ag _);simp[i64];done))):CvF r hp hp' fr fr':=h
def svO(A:Nat->Nat->Rat)(l:Rat)(b:Lq)(n:Nat):Nat->AState
 |i=>⟨[(0,.lsl 1 0 n (some n) 1),(2,.arr (pE b)),(4,bQ l),(6,.lptr 35 0 0),(7,i64 n),(22,i64 n),(23,i64 i)],rwH 37 36 (ph1 A l (fun t=>coP b t) n i) n sx0,40,209⟩
def svI(A:Nat->Nat->Rat)(l:Rat)(b:Lq)(n i:Nat):Nat->AState
 |j=>⟨[(0,.lsl 1 0 n (some n) 1),(2,.arr (pE b)),(4,bQ l),(6,.lptr 35 0 0),(7,i64 n),(8,i64 i),(22,i64 n),(23,i64 i),(30,i64 n),(31,i64 j)],rwH 37 36 (upR (ph1 A l (fun t=>coP b t) n i) i (mxr A l n i j)) n sx0,40,209⟩
noncomputable def svRest:Code:=match Tryz.f73.body with|some (.seq _ (.seq _ (.seq _ y)))=>y|_=> .skip
theorem mzO_rwO(A:Nat->Nat->Rat)(n:Nat){s:Nat->Nat}(h:∀k,k< n->s (k+2)=k+2):mzO 3 (fun _=>n) (fun x=>x) n=rwO (fun k=>aN n (A k)) s n:=by
 refine List.ext_getElem? fun k=>?_;by_cases hk:k< n;rw[yZ hk,em hk k rfl,h k hk,sX];rw[rwO_out (by omega),List.getElem?_eq_none (by simp;omega)]
theorem sv_rows (A:Nat->Nat->Rat) (l:Rat) (b:Lq) (n:Nat) (hn:n<=25) (hb:b.length=n) (r:AV)
    (hm:∀i j:Nat,i< n->j< n->qs (A i j)+qs l<=549755813888) (ha:∀i:Nat,i< n->qs (-(A i i* l))+1<=549755813887)
    (hrest:AWp none Tryz.prog svRest (Fin Tryz.prog Tryz.f73.results.toList r) ⟨[(0,.lsl 1 0 n (some n) 1),(6,.lptr 35 0 0),(7,i64 n)],rwH 37 36 (fun k=>aN (n+1) (svM A l (fun t=>coP b t) n k)) n sx0,40,209⟩):
    XSpec Tryz.prog 73 [.lsl 1 0 n (some n) 1,.agg (qC l),.arr (pE b)] (mzH 3 37 36 (mzO 3 (fun _=>n) (fun x=>x) n) (fiL A n n)) 40 r [] 1:=by
 refine XSpec.enterC Tryz.func73 rfl (by kernel_rfl) rfl rfl rfl rfl ?_;refine r_z 2 ?_;refine AWp.ent (st':=⟨[(0,.lsl 1 0 n (some n) 1),(2,.arr (pE b)),(4,bQ l),(6,.lptr 35 0 0)],rwH 37 36 (fun k=>aN n (A k)) n sx0,40,209⟩) ?_ ?_;refine CV (fiR 33 41) (by omega) (BJ _ _) (fun x y K G e=>qW (m:=40) (Nat.le_refl _) (by decide) x y (sU (by omega) K) (sU (by omega) G) e) ?_ ?_ rfl ?_;rw[BI,<-mzO_rwO A n (s:=fiR 33 41) fun k a=>jc (by omega)];rfl
 ·intro k a
  rw[jc (by omega)]
  repeat rw[bY (by omega)]
  exact dt (fz a)
 intro hs
 have Q:wx ⟨40,fiR 33 41⟩ (ap (rwH 37 36 (fun k=>aN n (A k)) n sx0)) 40:=fun j B O e=>by
  obtain⟨U⟩:=hs;have V:j< 40:=(U j B O).1;have e:fiR 33 41 j=40:=e;unfold fiR at e;cases hb:Nat.beq j (33+2)<;> rw[hb] at e <;> simp only[cond_true,cond_false] at e <;> omega
 exact ay rfl (Cv.sl rfl rfl rfl) (ay rfl (an hs (aB b)) (ay rfl (Cv.boxp hs rfl Q rfl (bC l)) (ay rfl (Cv.ptr rfl rfl rfl) aP)));refine r_z 3 ?_;refine ae (r_z 3 ?_);refine aF (fun _:Unit=>⟨[(0,.lsl 1 0 n (some n) 1),(6,.lptr 35 0 0),(7,i64 n)],rwH 37 36 (fun k=>aN (n+1) (svM A l (fun t=>coP b t) n k)) n sx0,40,209⟩) (fun _=>True) ?_ ?_
 ·refine aj (aC (svO A l b n) (fun i=>n- i) (fun i=>i<=n) 0 (Nat.zero_le _) ?_ ?_)
  rw[svO.eq_1,ph1_0];exact ov (by omega) (cv ew) (fun i q=>dH ew (by omega) q) rfl fun hs=>CJ (l:=l) (b:=b) hs;intro i q;rw[svO.eq_1];by_cases hlt:i< n;rotate_left;have f:i=n:=by omega
  subst f;refine q_z 1 ?_;refine ae (cF (ax ⟨(),trivial,?_⟩));refine ov (by omega) ?_ ?_ rfl fun hs=>CJ (l:=l) (b:=b) hs;rw[cv ew,fU (R':=fun k=>aN (i+1) (svM A l (fun t=>coP b t) i k)) (s':=fun x=>x)];intro k a;exact⟨by rw[ph1_n a],rfl⟩;intro k a;rw[dH ew (by omega) a,ph1_n a];refine q_z 1 ?_;refine ae (cT (am (ae (aj (r_z 2 ?_)))));have o:(ph1 A l (fun t=>coP b t) n i i).length=n:=by rw[Im];simp
  have H:∀e,e=i->(rwO (ph1 A l (fun t=>coP b t) n i) (fun x=>x) n)[e]?=some [.lsl (i+2) 0 n none 3]:=fun e g=>by rw[em hlt e g,o]
  refine ae (s_r 6 ?_);refine a_3 ?_;refine o_0 (.load_l1 rfl (ei (cv ew) (show(1:Nat)≠0 by decide)) (H _ (by omega)) TG.h rfl) ?_;refine a_z ?_;refine aF (fun _:Unit=>svI A l b n i n) (fun _=>True) ?_ ?_
  ·refine aj (aC (svI A l b n i) (fun j=>n- j) (fun j=>j<=n) 0 (Nat.zero_le _) ?_ ?_)
   rw[svI.eq_1,<-Im A l (fun t=>coP b t),upR_id];exact ov (by omega) (cv ew) (fun i q=>dH ew (by omega) q) rfl fun hs=>CJ (l:=l) (b:=b) hs;intro j O;rw[svI.eq_1];by_cases hjn:j< n;rotate_left;have f:j=n:=by omega
   subst f;refine q_z 1 ?_;refine ae (cF (ax ⟨(),trivial,?_⟩));exact ov (by omega) (cv ew) (fun i q=>dH ew (by omega) q) rfl fun hs=>CJ (l:=l) (b:=b) hs;have F:=c6 (A i j) l (hm i j hlt hjn);have E:=ki (A i j* l);have c:=jZ (TS:=37) (TQ:=36) (R:=upR (ph1 A l (fun t=>coP b t) n i) i (mxr A l n i j)) ew (by omega:n<=30) hlt;rw[eD] at c;have d:∀e,e=i->(rwO (upR (ph1 A l (fun t=>coP b t) n i) i (mxr A l n i j)) (fun x=>x) n)[e]?=some [.lsl (i+2) 0 n none 3]:=fun e g=>by rw[em hlt e g,eD,vc]
   have w:=ei (cv (TS:=37) (TQ:=36) (n:=n) (R:=upR (ph1 A l (fun t=>coP b t) n i) i (mxr A l n i j)) ew) (show(1:Nat)≠0 by decide);refine q_z 1 ?_;refine ae (cT (am (ae (aj (r_z 2 ?_)))));refine r_d a7 17 ?_;refine a_3 ?_;refine o_0 (.load_l1 rfl w (d _ (by omega)) TG.h rfl) ?_;refine a_4 ?_;refine o_0 (.load_l1 rfl w (d _ (by omega)) TG.h rfl) ?_;refine a_2 ?_;refine o_0 (.load_l rfl c (E8 hjn _ (by omega)) TG.h TS.h (nle rfl)) ?_;refine c_s (F) ?_;refine c_s (E) ?_;refine a_1 ?_;refine eF (.store rfl c (E8 hjn _ (by omega)) rfl rfl rfl TS.h (nle rfl)) ?_;refine aq (n_k ?_);refine r_m 2 ?_;refine a_z ?_;refine⟨j+1,by omega,by omega,?_⟩;rw[svI.eq_1];refine ov (by omega) ?_ ?_ ?_ fun hs=>CJ (l:=l) (b:=b) hs;rw[bY (by omega),cv ew,fU (R':=upR (ph1 A l (fun t=>coP b t) n i) i (mxr A l n i (j+1))) (s':=fun x=>x)];intro k a;by_cases h:k=i;subst h;rw[eD,eD];simp;rw[kS _ _ h,kS _ _ h];simp;intro k a;by_cases h:k=i;subst h;rw[eD,<-mxr_set hjn (0+((j:Nat):Int).toNat) (by omega),di,bh];rfl;rw[bY (by omega),dH ew (by omega) a,kS _ _ h,kS _ _ h];rw[bY (by omega)];rfl
  rintro _ _;show AWp _ _ _ _ (svI A l b n i n);rw[svI.eq_1];have c:=jZ (TS:=37) (TQ:=36) (R:=upR (ph1 A l (fun t=>coP b t) n i) i (mxr A l n i n)) ew (by omega:n<=30) hlt;rw[eD] at c;have d:∀e,e=i->(rwO (upR (ph1 A l (fun t=>coP b t) n i) i (mxr A l n i n)) (fun x=>x) n)[e]?=some [.lsl (i+2) 0 n none 3]:=fun e g=>by rw[em hlt e g,eD,vc]
  have w:=ei (cv (TS:=37) (TQ:=36) (n:=n) (R:=upR (ph1 A l (fun t=>coP b t) n i) i (mxr A l n i n)) ew) (show(1:Nat)≠0 by decide);have D:=dU 1 (by decide);have S:qs 1<=1:=by decide
  have M:=fy (-(A i i* l)) 1 (by have:=ha i hlt;omega);refine ae (r_d a7 16 ?_);refine a_3 ?_;refine o_0 (.load_l1 rfl w (d _ (by omega)) TG.h rfl) ?_;refine a_4 ?_;refine o_0 (.load_l1 rfl w (d _ (by omega)) TG.h rfl) ?_;refine a_2 ?_;refine o_0 (.load_l rfl c (A3 hlt _ (by omega)) TG.h TS.h (nle rfl)) ?_;refine c_s (D) ?_;refine c_s (M) ?_;refine a_1 ?_;refine eF (.store rfl c (A3 hlt _ (by omega)) rfl rfl rfl TS.h (nle rfl)) ?_;refine aq (n_k ?_);refine AWp.ent (st':=⟨[(0,.lsl 1 0 n (some n) 1),(2,.arr (pE b)),(4,bQ l),(6,.lptr 35 0 0),(7,i64 n),(8,i64 i),(22,i64 n),(23,i64 i)],rwH 37 36 (upR (ph1 A l (fun t=>coP b t) n i) i (dgr A l n i)) n sx0,40,209⟩) ?_ ?_;refine ov (by omega) ?_ ?_ ?_ fun hs=>CJ (l:=l) (b:=b) hs;rw[bY (by omega),cv ew,fU (R':=upR (ph1 A l (fun t=>coP b t) n i) i (dgr A l n i)) (s':=fun x=>x)];intro k a;by_cases h:k=i;subst h;rw[eD,eD];simp;rw[kS _ _ h,kS _ _ h];simp;intro k a;by_cases h:k=i;subst h;rw[eD,<-mxr_one hlt (0+((k:Nat):Int).toNat) (by omega),di,bh];rfl;rw[bY (by omega),dH ew (by omega) a,kS _ _ h,kS _ _ h];rw[bY (by omega)];rfl
  have u:∀(k:Nat) (B:Option ABlk),k≠i+2->dQ (ap ((k,B)::rwH 37 36 (upR (ph1 A l (fun t=>coP b t) n i) i (dgr A l n i)) n sx0)) (i+2)=some ⟨36,3,pE (dgr A l n i)⟩:=fun k B a=>ei (by
   have:=dH (TS:=37) (TQ:=36) (R:=upR (ph1 A l (fun t=>coP b t) n i) i (dgr A l n i)) ew (by omega:n<=30) hlt;rw[eD] at this;rw[bY a];exact this) (show(3:Nat)≠0 by decide)
  have v:∀e,e=i->(rwO (upR (ph1 A l (fun t=>coP b t) n i) i (dgr A l n i)) (fun x=>x) n)[e]?=some [.lsl (i+2) 0 n none 3]:=fun e g=>by rw[em hlt e g,eD,D8]
  have L:=ei (cv (TS:=37) (TQ:=36) (n:=n) (R:=upR (ph1 A l (fun t=>coP b t) n i) i (dgr A l n i)) ew) (show(1:Nat)≠0 by decide);have T:(pE b).length=n:=by simp[pE,hb]
  have z:(pE b)[((i:Nat):Int).toNat]?=some (qC (coP b i)):=by
   have:=ci (p:=b) (i:=i) (by omega);simp[pE,this]
  have J:(pE (dgr A l n i)).length=n:=by simp[pE]
  have C:(50:Nat)≠i+2:=by omega
  refine r_d a7 14 ?_;refine a_5 ?_;refine o_0 (.load_l1 rfl L (v _ (by omega)) TG.h rfl) ?_;refine a_2 ?_;refine i_x z ?_;refine l_x z ?_;refine a_1 ?_;refine o_2 (.append_l rfl rfl rfl te_37.h rfl rfl (u 50 _ C) rfl rfl J (dy _) (by rfl) rfl (.lsl rfl (nle rfl)) TZ.h rfl TB.h (by first|rfl|assumption|(simp;done)|(simp;omega)|omega) (by first|(simp[maxLen];done)|(simp[maxLen];omega))) ?_;refine a_1 ?_;refine eF (.store rfl rfl (v _ (by omega)) rfl rfl rfl TS.h (nle rfl)) ?_;refine aq (n_k ?_);refine r_m 2 ?_;refine a_z ?_;refine⟨i+1,by omega,by omega,?_⟩;rw[svO.eq_1,<-Il,<-upR_up (ph1 A l (fun t=>coP b t) n i) i (dgr A l n i) (aN (n+1) (svM A l (fun t=>coP b t) n i))];have N:fiR i 51 35=35:=Jq (by omega);refine CV (fiR i 51) (by omega) (BJ _ _) (fun x y K G e=>qW (m:=40) (Nat.le_refl _) (by decide) x y (sU (by omega) K) (sU (by omega) G) e) ?_ ?_ ?_ fun hs=>CJ (l:=l) (b:=b) hs;rw[BI,<-HU (new:=51) (m:=n+1) hlt (by simp) (0+((i:Nat):Int).toNat) (by omega)];rfl;intro k a;by_cases h:k=i;subst h;rw[eD,oO,<-dgr_app,lh];rfl
  ·rw[jc h,kS _ _ h]
   repeat rw[bY (by omega)]
   exact dH ew (by omega) a
  ·rw[Jq (by omega)]
   repeat rw[bY (by omega)]
   rfl
 rintro _ _;exact hrest
theorem HV(R:Nat->Lq)(n:Nat):(rwL R n).map (fun e=>([.arr e]:La))=mE ((List.range n).map R):=by simp[rwL,mE]
theorem Fe(k:Lw)(a:Nat):(mE k).drop a=mE (k.drop a):=by simp[mE,List.map_drop]
def rwI(n:Nat):Ln:=1::(List.range n).map (· +2)
theorem Kp{r:Ren}{hp hp':Hq}{cap:Option Nat}{TS TQ a m n:Nat}{R:Nat->Lq}(hh:∀i∈rwI n,hp' i=hp i)(h1:hp 1=some ⟨TS,1,rwO R (fun x=>x) n⟩)(hr:∀i,i< n->hp (i+2)=some ⟨TQ,3,pE (R i)⟩)(ham:a+m=n):
    Cv r hp' (fun _=>none) (.lsl 1 a m cap 1) (.arr (mE (((List.range n).map R).drop a))):=by
 have e:mE (((List.range n).map R).drop a)=(((rwL R n).map fun e=>([.arr e]:La)).drop a).take m:=by
  rw[HV,Fe,List.take_of_length_le (by simp;omega)]
 rw[e];have f:(rwL R n).length=n:=pm R n;refine Cv.mzV (sz:=3) (TS:=TS) (TQ:=TQ) (w:=fun k=>(R k).length) (by decide) ?_ (fun i x b=>?_) (fun i x b=>by rw[(CW b).2];simp[pE]) (fun x b y g c h=>?_) (by rw[f];omega);rw[hh 1 (List.mem_cons_self ..),h1,f];rfl;obtain⟨d,rfl⟩:=CW b;rw[hh (i+2) (List.mem_cons_of_mem _ (List.mem_map.2 ⟨i,List.mem_range.2 d,rfl⟩)),hr i d];obtain⟨k,_,rfl⟩:=List.mem_map.1 b;exact aJ _ y g c h
theorem fs_lead(R:Nat->Lq)(n r c:Nat)(hn:n<=1000)(hl:∀i,i< n->c< (R i).length):
    FS 135 [.arr (mE (((List.range n).map R).drop r)),.clos 136 [] [.aptr [[i64 c]] 0 0]] (i64 (kg (fun e:Lq=>decide (coP e c≠0)) (((List.range n).map R).drop r) 0)):=
 xH _ 136 [.aptr [[i64 c]] 0 0] _ (ac (bq (ac (ag _) af)) af) (by simp;omega) fun e a=>by
  obtain⟨i,b,rfl⟩:=List.mem_map.1 (List.mem_of_mem_drop a);exact DB _ c _ (ci (hl i (List.mem_range.1 b)))
theorem xt{α:Type}(t:α->Bool):∀(l:List α) (k:Int),(∀x∈l,t x=false)->kg t l k= -1
 |[],_,_=>rfl
 |a::l,k,h=>by
  rw[kg,if_neg (by rw[h a (List.mem_cons_self ..)];decide)];exact xt t l _ fun x b=>h x (List.mem_cons_of_mem _ b)
theorem Fo{α:Type}(t:α->Bool):∀(l:List α) (k:Int) (j:Nat) (x:α),l[j]?=some x->t x=true->(∀i y,i< j->l[i]?=some y->t y=false)->kg t l k=k+j
 |[],_,_,_,h,_,_=>by cases h
 |a::l,k,0,x,h,h2,_=>by
  cases h;rw[kg,if_pos h2];simp
 |a::l,k,j+1,x,h,h2,h3=>by
  rw[kg,if_neg (by rw[h3 0 a (by omega) rfl];decide),Fo t l (k+1) j x (by simpa using h) h2 fun i y c b=>h3 (i+1) y (by omega) (by simpa using b)];omega
theorem yG{M:Mx}{n r i:Nat}(h:r+i< n):(((List.range n).map fun k=>aN (n+1) (M k)).drop r)[i]?=some (aN (n+1) (M (r+i))):=by
 rw[List.getElem?_drop];simp[h]
theorem vY{n c:Nat}{f:Nat->Rat}(h:c<=n):coP (aN (n+1) f) c=f c:=by
 unfold coP aN;rw[List.getD_eq_getElem?_getD];simp[show c< n+1 by omega]
theorem idx_pv(M:Mx)(n r c:Nat)(hr:r<=n)(hc:c<=n):kg (fun e:Lq=>decide (coP e c≠0)) (((List.range n).map fun k=>aN (n+1) (M k)).drop r) 0=match pvR M n r c with|some p=>((p- r:Nat):Int)|none=> -1:=by
 cases e:pvR M n r c with
 |none=>
  refine xt _ _ _ fun x l=>?_;obtain⟨i,d⟩:=List.mem_iff_getElem?.1 l
  have b:r+i< n:=by
   have:=(List.getElem?_eq_some_iff.1 d).1;simp at this;omega
  rw[yG b] at d;cases d;rw[vY hc,AL e (r+i) b (by omega)];decide
 |some p=>
  obtain⟨p1,p2,j⟩:=j6 e
  have a:∀q,q< p->r<=q->M q c=0:=fun q h g=>by
   have e2:=e;unfold pvR at e2;rw[List.find?_range_eq_some] at e2;have:=e2.2.2 q h;simp at this;exact this.resolve_left (by omega)
  rw[Fo _ _ 0 (p- r) (aN (n+1) (M p)) (by rw[yG (by omega),show r+(p- r)=p by omega]) (by rw[vY hc];exact decide_eq_true j) fun i y d f=>?_];simp;rw[yG (by omega)] at f;cases f;rw[vY hc,a (r+i) (by omega) (by omega)];decide
def lvE(L:Ln):Lc:=L.map fun(l:Nat)=>[i64 (l:Int)]
@[simp] theorem j8 (L:Ln):(lvE L).length=L.length:=by simp[lvE]
theorem c8(L:Ln):∀e∈lvE L,∀c∈e,Closed c:=fun e a=>by
 obtain⟨l,_,rfl⟩:=List.mem_map.1 a;exact ac (ag _) af
theorem IE(L:Ln)(c:Nat):lvE (L++[c])=lvE L++[[i64 c]]:=by simp[lvE]
def lvA:Ln->AV
 |[]=> .emp
 |l::L=> .lsl 37 0 (L.length+1) none 1
def lvB:Ln->Hp
 |[]=>[]
 |l::L=>[(37,some ⟨3,1,lvE (l::L)⟩)]
def sx1(n:Nat)(L:Ln):Hp:=(35,some ⟨113,3,[[.emp,.emp,i64 0]]⟩)::(36,some ⟨113,3,[[.lsl 1 0 n (some n) 1,lvA L,i64 n]]⟩)::lvB L
theorem cz{n:Nat}{L:Ln}:∀p∈sx1 n L,35<=p.1/\p.1< 40:=fun p hp=>by
 rcases List.mem_cons.1 hp with rfl|hp
 exact⟨(show 35<=35 by decide),(show 35< 40 by decide)⟩;rcases List.mem_cons.1 hp with rfl|hp
 exact⟨(show 35<=36 by decide),(show 36< 40 by decide)⟩;cases L with
 |nil=>cases hp
 |cons l L=>rw[List.mem_singleton.1 hp];exact⟨(show 35<=37 by decide),(show 37< 40 by decide)⟩
theorem jH {fr fr':Fr} {hp:Hp} {nx N n:Nat} {R:Nat->Lq} {L:Ln} {x:AV} (s:Nat->Nat) (hn:n<=30) (s0:s 0=0) (hinj:∀i j,InX n i->InX n j->s i=s j->i=j) (h1:ap hp (s 1)=some ⟨37,1,rwO R s n⟩) (hr:∀i,i< n->ap hp (s (i+2))=some ⟨36,3,pE (R i)⟩)
    (h35:ap hp (s 35)=some ⟨113,3,[[.emp,.emp,i64 0]]⟩) (h36:ap hp (s 36)=some ⟨113,3,[[.lsl (s 1) 0 n (some n) 1,x,i64 n]]⟩) (hx:(L=[]/\x= .emp)\/(L≠[]/\x= .lsl (s 37) 0 L.length none 1/\ap hp (s 37)=some ⟨3,1,lvE L⟩))
    (hF:Shr ⟨40,s⟩ (ap hp) (ap (rwH 37 36 R n (sx1 n L)))->CvF ⟨40,s⟩ (ap hp) (ap (rwH 37 36 R n (sx1 n L))) fr fr'):SEnt ⟨fr,hp,nx,N⟩ ⟨fr',rwH 37 36 R n (sx1 n L),40,N⟩:=by
 refine SEntT.ent (SEntT.rw s hn s0 hinj h1 hr cz (fun i B h=>?_) (fun hs i B k h b=>?_) hF);rcases List.mem_cons.1 h with h|h
 cases h;exact⟨_,h35,rfl,rfl,rfl⟩;rcases List.mem_cons.1 h with h|h
 cases h;exact⟨_,h36,rfl,rfl,rfl⟩;rcases hx with⟨rfl,_⟩|⟨d,_,a⟩
 cases h;cases L with
 |nil=>exact absurd rfl d
 |cons l L=>cases List.mem_singleton.1 h;exact⟨_,a,rfl,rfl,rfl⟩
 rcases List.mem_cons.1 h with h|h
 cases h;rw[h35] at b;cases b
 exact bm hs fun e g c f=>by
  rw[List.mem_singleton.1 g] at f;exact ac dl (ac dl (ac (ag _) af)) c f
 rcases List.mem_cons.1 h with h|h
 cases h;rw[h36] at b;cases b;refine CvLL.cons (ah (Cv.sl rfl rfl ?_) (ah ?_ (ah (an hs (ag _)) av))) CvLL.nil;rw[cv (cz (n:=n) (L:=L))];rfl;rcases hx with⟨rfl,rfl⟩|⟨d,rfl,a⟩
 exact an hs dl;cases L with
 |nil=>exact absurd rfl d
 |cons l L=>exact Cv.sl rfl rfl rfl
 rcases hx with⟨rfl,_⟩|⟨d,_,a⟩
 cases h;cases L with
 |nil=>exact absurd rfl d
 |cons l L=>
  cases List.mem_singleton.1 h;rw[a] at b;cases b;exact bm hs (c8 _)
end Go.Proofs.YtkbjakfniejkcaaGreatDoor
