/- Part V29 of the proof. -/
import Derived.Test.YtjkddcfoolilbaaGreatDoorV28
set_option linter.all false
namespace Go.Proofs.YtjkddcfoolilbaaGreatDoor
open Go.Abs
set_option maxRecDepth 20000
set_option maxHeartbeats 2000000
def inQ(p:List Rat)(a b:Rat):Rat:=evalP (am_ p) b- evalP (am_ p) a
structure OkIn (p:List Rat)(a b:Rat):Prop where
 s:smL p
 l:p.length≤1099511627775
 e1:dv_ (am_ p) b
 e2:dv_ (am_ p) a
 d:qs (evalP (am_ p) b)+qs (evalP (am_ p) a)≤549755813888
theorem iX_(p:List Rat)(a b:Rat)(h:OkIn p a b):FS 75 [.arr (pE p),.agg (spC a b)] (.agg (qC (inQ p a b))):=by
 refine f_c Tryz.func75 ?_;refine r_z 2 ?_;refine r_c 3 (i3_ p h.s h.l) ?_;refine a_z ?_;refine ab_ (r_d hmix 10 ?_);refine c_s (fa_ _ b h.e1) ?_;refine c_s (fa_ _ a h.e2) ?_;refine c_s (gz_ _ _ h.d) ?_;refine a_1 ?_;refine al_ (n_k ?_);exact af_ (c_e (aC_ _))
def bKe(k:Ke):AV:= .aptr [[.arr (kE k)]] 0 0
def bSp(a b:Rat):AV:= .aptr [spC a b] 0 0
theorem cP_(k:Ke):Closed (bKe k):=aL_ (aa_ (aE_ k) ac_)
theorem bc_(a b:Rat):Closed (bSp a b):=aL_ (a0_ a b)
theorem pL_(k:Ke)(a b:Rat)(i j:Nat)(p q:List Rat×List Rat)(hp:k[i]?=some p)(hq:k[j]?=some q)(hl:k.length≤1000)(hm:okMul p.2 q.1)(ho:OkIn (mulP p.2 q.1) a b):
    FS 156 [i64 i,i64 j,bKe k,bSp a b] (.agg (qC (inQ (mulP p.2 q.1) a b))):=by
 have hkl:(kE k).length=k.length:=b4_ k;have h1:i< k.length:=(List.getElem?_eq_some_iff.1 hp).1;have h2:j< k.length:=(List.getElem?_eq_some_iff.1 hq).1;have g1:(kE k)[((i:Nat):Int).toNat]?=some (prC p):=gv_ hp _ (by simp);have g2:(kE k)[((j:Nat):Int).toNat]?=some (prC q):=gv_ hq _ (by simp);refine f_n Tryz.func156 ?_ ?_;exact aa_ (ad_ _) (aa_ (ad_ _) (aa_ (cP_ k) (aa_ (bc_ a b) ac_)));refine r_z 1 ?_;refine ab_ (r_d hmix 14 ?_);refine a_2 ?_;refine i_x g1 ?_;refine a_1 ?_;refine l_1 g1 ?_;refine a_2 ?_;refine i_x g2 ?_;refine a_1 ?_;refine l_1 g2 ?_;refine c_s (kS_ p.2 q.1 hm) ?_;refine c_s (iX_ _ a b ho) ?_;refine a_1 ?_;refine al_ (n_k ?_);exact af_ (c_e (aC_ _))
def maK(k:Ke)(a b:Rat)(i j:Nat):Rat:=inQ (mulP (k.getD i ([],[])).2 (k.getD j ([],[])).1) a b
structure OkMa (k:Ke)(a b:Rat):Prop where
 l:k.length≤8
 m:∀p∈k,∀q∈k,okMul p.2 q.1∧OkIn (mulP p.2 q.1) a b
theorem pJ_(k:Ke)(a b:Rat)(h:OkMa k a b)(i j:Nat)(hi:i< k.length)(hj:j< k.length):FS 156 ((i64 i::i64 j::[bKe k,bSp a b]).map coe) (.agg (qC (maK k a b i j))):=by
 obtain⟨p,hp⟩:∃p,k[i]?=some p:=⟨_,List.getElem?_eq_getElem hi⟩;obtain⟨q,hq⟩:∃q,k[j]?=some q:=⟨_,List.getElem?_eq_getElem hj⟩;have ho:=h.m p (List.mem_of_getElem? hp) q (List.mem_of_getElem? hq);have e:maK k a b i j=inQ (mulP p.2 q.1) a b:=by unfold maK;rw[List.getD_eq_getElem?_getD,List.getD_eq_getElem?_getD,hp,hq];rfl
 rw[e];exact pL_ k a b i j p q hp hq (by have:=h.l;omega) ho.1 ho.2
theorem ik_(k:Ke)(a b:Rat)(h:OkMa k a b):
    XSpecT Tryz.prog 97 [.arr (kE k),.agg (spC a b)] [] 1 (.lsl 1 0 k.length (some k.length) 1) (mzH 3 32 46 (mzO 3 (fun _=>k.length) (fun x=>x) k.length) (fiL (maK k a b) k.length k.length)) 40:=by
 have hkl:(kE k).length=k.length:=b4_ k;have hl:=h.l;have hX:=(qm_ (maK k a b) k.length 156 [bKe k,bSp a b] (by omega) (aa_ (cP_ k) (aa_ (bc_ a b) ac_)) (pJ_ k a b h)).x;refine XSpecT.enter (t:=4) Tryz.func97 rfl (by kernel_rfl) rfl rfl rfl rfl rfl ?_;refine r_z 3 ?_;refine AWp.ent (st':=⟨[(2,bKe k),(3,bSp a b)],[],1,9⟩) ?_ ?_;refine s_x [] (fun hs=>?_) (fun hs=>?_)
 ·repeat' (first|exact aH_|refine ap_ rfl ?_ ?_|exact Cv.boxp hs rfl (aK_ rfl) rfl (aa_ (aE_ k) ac_)|exact Cv.boxp hs rfl (aK_ rfl) rfl (a0_ a b)|exact au_c)
 ·repeat' (first|exact az_|refine h_c ?_ ?_|exact au_e|refine av_ ?_|exact an_|refine ai_ ?_ ?_|exact Cv.boxp hs rfl (aK_ rfl) rfl (aa_ (aE_ k) ac_)|exact Cv.boxp hs rfl (aK_ rfl) rfl (a0_ a b)|exact au_c)
 refine ab_ (AWp.regX (fr2:=[(6,i64 k.length),(7,.clos 156 [] [bKe k,bSp a b])]) (hp2:=[]) (nx2:=1) (fr3:=[]) 3 rfl rfl rfl rfl rfl rfl ?_ rfl rfl rfl hX (fun t x hx=>by cases hx) (fun t x hx=>by cases hx) ?_)
 first|refine aA_ (.load_l1 rfl rfl rfl TG.h rfl) rfl rfl ?_|refine aA_ (.load_a1 rfl rfl TG.h rfl) rfl rfl ?_
 first|refine aA_ (.lenD rfl rfl rfl rfl te_27.h) rfl rfl ?_|refine aA_ (.lenI rfl rfl rfl rfl te_27.h) rfl rfl ?_|refine aA_ (.lenP rfl rfl rfl rfl te_27.h) rfl rfl ?_|refine aA_ (.lenC rfl rfl rfl rfl te_27.h) rfl rfl ?_|refine aA_ (.lenR rfl rfl rfl rfl te_27.h) rfl rfl ?_|refine aA_ (.len rfl rfl rfl rfl rfl te_27.h) rfl rfl ?_
 refine o_0 (.makeFunc rfl rfl) ?_;refine al_ ?_;refine s_y [] (fun hs=>?_) (fun hs=>?_)
 ·repeat' (first|exact aH_|refine ap_ rfl ?_ ?_|exact ak_ hs (aG_ ac_ (aa_ (cP_ k) (aa_ (bc_ a b) ac_)))|(refine Cv.loE hs ?_ (ad_ _);simp[i64,hkl];done)|exact au_c)
 ·repeat' (first|exact az_|refine h_c ?_ ?_|exact au_e|refine av_ ?_|exact an_|refine ai_ ?_ ?_|exact ak_ hs (aG_ ac_ (aa_ (cP_ k) (aa_ (bc_ a b) ac_)))|(refine Cv.loE hs ?_ (ad_ _);simp[i64,hkl];done)|exact au_c)
 refine o_0 (.assign rfl) ?_;refine al_ ?_;refine af_ (FinXT.of (SEntT.mz (fun x=>x) _ _ _ (by simp;omega) rfl (fun i j _ _ _ _ e=>e) rfl rfl ?_ ?_ ?_));intro k' e hk;obtain⟨h1,rfl⟩:=ja_ hk;exact⟨bE_ (c8_ h1),aI_ _⟩;exact fun hs=>ij_ (by omega) fun k' hk=>by rw[bE_ (c8_ hk)];rfl
 exact fun hs=>ap_ rfl (Cv.sl rfl rfl rfl) aH_
def mE(k:List (List Rat)):List (List AV):=k.map fun e=>[.arr (pE e)]
@[simp] theorem ru_ (k:List (List Rat)):(mE k).length=k.length:=by simp[mE]
theorem sM_(k:List (List Rat)):∀x∈mE k,∀c∈x,Closed c:=fun x hx=>by
 obtain⟨p,_,rfl⟩:=List.mem_map.1 hx;exact aa_ (ar_ _) ac_
theorem closed_mA(k:List (List Rat)):Closed (.arr (mE k)):=aB_ (sM_ k)
theorem or_{k:List (List Rat)}{i:Nat}{p:List Rat}(h:k[i]?=some p):∀e,e=i→(mE k)[e]?=some [.arr (pE p)]:=fun e he=>by
 rw[he,mE,List.getElem?_map,h];rfl
def imS(k:List (List Rat))(g:Nat)(cap:List AV):Nat→AState
 |i=>⟨[(0,.arr (mE k)),(1,.clos g [] cap),(7,i64 k.length),(8,i64 i)],[],1,19⟩
theorem rJ_(k:List (List Rat))(g:Nat)(cap:List AV)(i:Nat):imS k g cap i=⟨[(0,.arr (mE k)),(1,.clos g [] cap),(7,i64 k.length),(8,i64 i)],[],1,19⟩:=rfl
theorem l9_(k:List (List Rat))(g:Nat)(cap:List AV)(t:List Rat→Bool)(hcap:∀c∈cap,Closed c)(hl:k.length≤1099511627776)(hg:∀p∈k,FS g ((.arr (pE p)::cap).map coe) (bln (t p))):FS 127 [.arr (mE k),.clos g [] cap] (i64 (idxA t k 0)):=by
 have hcc:Closed (.clos g [] cap):=aG_ ac_ hcap;have hkl:(mE k).length=k.length:=ru_ k;refine f_c Tryz.func127 ?_;obtain⟨R,hR⟩:∃R,R=idxA t k 0:=⟨_,rfl⟩;rw[←hR];refine r_z 1 ?_;refine ab_ (r_z 3 ?_);refine aw_ (fun _:Unit=>⟨[],[],1,19⟩) (fun _=>R= -1) ?_ ?_;refine ae_ (aq_ (imS k g cap) (fun i=>k.length- i) (fun i=>i≤k.length∧idxA t (k.drop i) i=R) 0 ⟨Nat.zero_le _,by rw[hR];rfl⟩ ?_ ?_);simp only[rJ_];exact s_x [] (fun hs=>e_43) (fun hs=>e_44);rintro i ⟨hi,hr⟩;rw[rJ_];by_cases hlt:i< k.length;refine q_z 1 ?_;refine ab_ (cT (ah_ ?_));obtain⟨p,hp⟩:∃p,k[i]?=some p:=⟨_,List.getElem?_eq_getElem hlt⟩;have hgt:(mE k)[((i:Nat):Int).toNat]?=some [.arr (pE p)]:=or_ hp _ (by simp);rw[np_ hp,idxA] at hr;refine ab_ (ae_ (r_z 2 ?_));refine s_r 6 ?_;refine a_3 ?_;refine i_x hgt ?_;refine l_1 hgt ?_;refine c_s (hg p (List.mem_of_getElem? hp)) ?_;refine al_ ?_;refine aj_ rfl (fun h1=>?_) (fun h1=>?_);have h2:t p=true:=h1;rw[if_pos h2] at hr;refine r_z 2 ?_;refine af_ (aD_ rfl ?_ ?_);rw[←hr];exact ad_ _;have h2:¬t p=true:=by rw[show t p=false from h1];decide
 rw[if_neg h2] at hr;refine ah_ (r_m 2 ?_);refine a_z ?_;refine⟨i+1,by omega,⟨hlt,hr⟩,?_⟩;simp only[rJ_];exact s_x [] (fun hs=>e_43) (fun hs=>e_44);have hge:i=k.length:=by omega
 subst hge;refine q_z 1 ?_;refine ab_ (cF ?_);rw[List.drop_length] at hr;refine ao_ ⟨(),hr.symm,?_⟩;exact s_e [];rintro _ hr;refine r_z 1 ?_;refine af_ (aD_ rfl ?_ ?_);rw[hr];rfl;exact ad_ _
theorem mb_(k:List (List Rat))(g:Nat)(cap:List AV)(t:List Rat→Bool)(hcap:∀c∈cap,Closed c)(hl:k.length≤1099511627776)(hg:∀p∈k,FS g ((.arr (pE p)::cap).map coe) (bln (t p)))(hcap2:cap.map coe=cap):FS 137 [.arr (mE k),.clos g [] cap] (bln (k.any t)):=by
 have hcc:Closed (.clos g [] cap):=aG_ ac_ hcap;have e:=h4_ t k 0 (Int.le_refl 0);have hi:=l9_ k g cap t hcap hl hg;refine f_c Tryz.func137 ?_;refine r_z 1 ?_;refine r_c 5 (hi) ?_;refine a_z ?_;refine af_ (aD_ rfl ?_ ?_);rw[←e];rfl;exact ad_ _
theorem pF_(e:List Rat)(c:Nat)(x:Rat)(hx:e[c]?=some x):FS 128 [.arr (pE e),.aptr [[i64 c]] 0 0] (bln (decide (x≠0))):=by
 have hlt:c< e.length:=(List.getElem?_eq_some_iff.1 hx).1;have hl:(pE e).length=e.length:=by simp[pE]
 have g1:(pE e)[((c:Nat):Int).toNat]?=some (qC x):=by simp[pE,hx]
 refine f_c Tryz.func128 ?_;refine r_z 1 ?_;refine s_r 7 ?_;refine a_2 ?_;refine i_x g1 ?_;refine l_x g1 ?_;refine c_s (br_ x) ?_;refine a_z ?_;refine af_ (aD_ rfl ?_ ?_);rw[show decide (x≠0)=decide (sgZ x.num≠0) from decide_eq_decide.2 (not_congr sgZ_num_eq.symm)]
 first|rfl|(congr 1;cases hb:decide (sgZ x.num=0) with|true=>(have:=of_decide_eq_true hb;simp[this])|false=>(have:=of_decide_eq_false hb;simp[bln,bne,this]))
 exact ad_ _
def syX(rows leads:AV)(n:Int):Hp:=[(35,some ⟨131,3,[[rows,leads,i64 n]]⟩)]
theorem syX_id{rows leads:AV}{n:Int}:∀p∈syX rows leads n,35≤p.1∧p.1< 40:=fun p hp=>by rw[List.mem_singleton.1 hp];exact⟨(show 35≤35 by decide),(show 35< 40 by decide)⟩
def sx0:Hp:=syX .emp .emp 0
theorem cA_:∀p∈sx0,35≤p.1∧p.1< 40:=syX_id
theorem qO_ {fr fr':Fr} {hp:Hp} {nx N n:Nat} {R:Nat→List Rat} (s:Nat→Nat) (hn:n≤30) (s0:s 0=0) (hinj:∀i j,InX n i→InX n j→s i=s j→i=j) (h1:lookB hp (s 1)=some ⟨32,1,rwO R s n⟩) (hr:∀i,i< n→lookB hp (s (i+2))=some ⟨46,3,pE (R i)⟩) (h35:lookB hp (s 35)=some ⟨131,3,[[.emp,.emp,i64 0]]⟩)
    (hF:Shr ⟨40,s⟩ (lookB hp) (lookB (rwH 32 46 R n sx0))→CvF ⟨40,s⟩ (lookB hp) (lookB (rwH 32 46 R n sx0)) fr fr'):SEnt ⟨fr,hp,nx,N⟩ ⟨fr',rwH 32 46 R n sx0,40,N⟩:=
 SEntT.ent (SEntT.rw s hn s0 hinj h1 hr cA_ (fun i B h=>by
  cases List.mem_singleton.1 h;exact⟨_,h35,rfl,rfl,rfl⟩) (fun hs i B B0 h hB=>by
  cases List.mem_singleton.1 h;have hB:lookB hp (s 35)=some B0:=hB;rw[h35] at hB;cases hB
  exact a9_ hs fun e he c hc=>by
   rw[List.mem_singleton.1 he] at hc;exact aa_ bs_ (aa_ bs_ (aa_ (ad_ _) ac_)) c hc) hF)
theorem gT_ {fr fr':Fr} {hp:Hp} {nx N n:Nat} {R:Nat→List Rat} (hn:n≤30) (h1:lookB hp 1=some ⟨32,1,rwO R (fun x=>x) n⟩) (hr:∀i,i< n→lookB hp (i+2)=some ⟨46,3,pE (R i)⟩) (h35:lookB hp 35=some ⟨131,3,[[.emp,.emp,i64 0]]⟩)
    (hF:Shr ⟨40,fun x=>x⟩ (lookB hp) (lookB (rwH 32 46 R n sx0))→CvF ⟨40,fun x=>x⟩ (lookB hp) (lookB (rwH 32 46 R n sx0)) fr fr'):SEnt ⟨fr,hp,nx,N⟩ ⟨fr',rwH 32 46 R n sx0,40,N⟩:=
 qO_ (fun x=>x) hn rfl (fun _ _ _ _ e=>e) h1 hr h35 hF
theorem fiR_ne{i new x:Nat}(h:x≠i+2):fiR i new x=x:=by
 unfold fiR;rw[show Nat.beq x (i+2)=false by cases hb:Nat.beq x (i+2) with|false=>rfl|true=>exact absurd (Nat.eq_of_beq_eq_true hb) h];rfl
theorem ke_{n i:Nat}(hn:n≤30)(h:InX n i):i< 40:=by unfold InX at h;omega
theorem sv_f{r:Ren}{hp hp':Nat→Option ABlk}{fr fr':Fr}{l:Rat}{b:List Rat}(hs:Shr r hp hp')(h:CvF r hp hp' fr fr':=by repeat' (first|exact aH_|refine ap_ rfl ?_ ?_|exact ak_ hs (ar_ b)|exact ak_ hs (bj_ l)|exact ak_ hs (ad_ _)|exact Cv.sl rfl rfl rfl|exact Cv.ptr rfl rfl rfl|exact Cv.ptr rfl (by assumption) rfl|(refine Cv.loE hs ?_ (ad_ _);simp[i64];done))):CvF r hp hp' fr fr':=h
def svO(A:Nat→Nat→Rat)(l:Rat)(b:List Rat)(n:Nat):Nat→AState
 |i=>⟨[(0,.lsl 1 0 n (some n) 1),(2,.arr (pE b)),(4,bQ l),(6,.lptr 35 0 0),(7,i64 n),(22,i64 n),(23,i64 i)],rwH 32 46 (ph1 A l (fun t=>coP b t) n i) n sx0,40,209⟩
def svI(A:Nat→Nat→Rat)(l:Rat)(b:List Rat)(n i:Nat):Nat→AState
 |j=>⟨[(0,.lsl 1 0 n (some n) 1),(2,.arr (pE b)),(4,bQ l),(6,.lptr 35 0 0),(7,i64 n),(8,i64 i),(22,i64 n),(23,i64 i),(30,i64 n),(31,i64 j)],rwH 32 46 (upR (ph1 A l (fun t=>coP b t) n i) i (mxr A l n i j)) n sx0,40,209⟩
noncomputable def svRest:Code:=match Tryz.f57.body with|some (.seq _ (.seq _ (.seq _ y)))=>y|_=> .skip
theorem mzO_rwO(A:Nat→Nat→Rat)(n:Nat){s:Nat→Nat}(h:∀k,k< n→s (k+2)=k+2):mzO 3 (fun _=>n) (fun x=>x) n=rwO (fun k=>tabP n (A k)) s n:=by
 refine List.ext_getElem? fun k=>?_;by_cases hk:k< n;rw[m4_ hk,cd_ hk k rfl,h k hk,fT_];rw[fW_ (by omega),List.getElem?_eq_none (by simp;omega)]
theorem sv_rows (A:Nat→Nat→Rat) (l:Rat) (b:List Rat) (n:Nat) (hn:n≤25) (hb:b.length=n) (r:AV)
    (hm:∀i j:Nat,i< n→j< n→qs (A i j)+qs l≤549755813888) (ha:∀i:Nat,i< n→qs (-(A i i* l))+1≤549755813887)
    (hrest:AWp none Tryz.prog svRest (Fin Tryz.prog Tryz.f57.results.toList r) ⟨[(0,.lsl 1 0 n (some n) 1),(6,.lptr 35 0 0),(7,i64 n)],rwH 32 46 (fun k=>tabP (n+1) (svM A l (fun t=>coP b t) n k)) n sx0,40,209⟩):
    XSpec Tryz.prog 57 [.lsl 1 0 n (some n) 1,.agg (qC l),.arr (pE b)] (mzH 3 32 46 (mzO 3 (fun _=>n) (fun x=>x) n) (fiL A n n)) 40 r [] 1:=by
 refine XSpec.enterC Tryz.func57 rfl (by kernel_rfl) rfl rfl rfl rfl ?_;refine r_z 2 ?_;refine AWp.ent (st':=⟨[(0,.lsl 1 0 n (some n) 1),(2,.arr (pE b)),(4,bQ l),(6,.lptr 35 0 0)],rwH 32 46 (fun k=>tabP n (A k)) n sx0,40,209⟩) ?_ ?_;refine qO_ (fiR 33 41) (by omega) (fiR_0 _ _) (fun x y hx hy e=>i9_ (m:=40) (Nat.le_refl _) (by decide) x y (ke_ (by omega) hx) (ke_ (by omega) hy) e) ?_ ?_ rfl ?_;rw[fiR_1,←mzO_rwO A n (s:=fiR 33 41) fun k hk=>ej_ (by omega)];rfl
 ·intro k hk
  rw[ej_ (by omega)]
  repeat rw[aS_ (by omega)]
  exact bE_ (c8_ hk)
 intro hs
 have hd:Dead ⟨40,fiR 33 41⟩ (lookB (rwH 32 46 (fun k=>tabP n (A k)) n sx0)) 40:=fun j B hj e=>by
  obtain⟨h0⟩:=hs;have h1:j< 40:=(h0 j B hj).1;have e:fiR 33 41 j=40:=e;unfold fiR at e;cases hb:Nat.beq j (33+2)<;> rw[hb] at e <;> simp only[cond_true,cond_false] at e <;> omega
 exact ap_ rfl (Cv.sl rfl rfl rfl) (ap_ rfl (ak_ hs (ar_ b)) (ap_ rfl (Cv.boxp hs rfl hd rfl (aR_ l)) (ap_ rfl (Cv.ptr rfl rfl rfl) aH_)));refine r_z 3 ?_;refine ab_ (r_z 3 ?_);refine aw_ (fun _:Unit=>⟨[(0,.lsl 1 0 n (some n) 1),(6,.lptr 35 0 0),(7,i64 n)],rwH 32 46 (fun k=>tabP (n+1) (svM A l (fun t=>coP b t) n k)) n sx0,40,209⟩) (fun _=>True) ?_ ?_
 ·refine ae_ (aq_ (svO A l b n) (fun i=>n- i) (fun i=>i≤n) 0 (Nat.zero_le _) ?_ ?_)
  rw[svO.eq_1,ph1_0];exact gT_ (by omega) (bd_ cA_) (fun i hi=>bS_ cA_ (by omega) hi) rfl fun hs=>sv_f (l:=l) (b:=b) hs;intro i hi;rw[svO.eq_1];by_cases hlt:i< n;rotate_left;have hge:i=n:=by omega
  subst hge;refine q_z 1 ?_;refine ab_ (cF (ao_ ⟨(),trivial,?_⟩));refine gT_ (by omega) ?_ ?_ rfl fun hs=>sv_f (l:=l) (b:=b) hs;rw[bd_ cA_,c5_ (R':=fun k=>tabP (i+1) (svM A l (fun t=>coP b t) i k)) (s':=fun x=>x)];intro k hk;exact⟨by rw[ph1_n hk],rfl⟩;intro k hk;rw[bS_ cA_ (by omega) hk,ph1_n hk];refine q_z 1 ?_;refine ab_ (cT (ah_ (ab_ (ae_ (r_z 2 ?_)))));have hlen0:(ph1 A l (fun t=>coP b t) n i i).length=n:=by rw[ph1_at];simp
  have hg0:∀e,e=i→(rwO (ph1 A l (fun t=>coP b t) n i) (fun x=>x) n)[e]?=some [.lsl (i+2) 0 n none 3]:=fun e he=>by rw[cd_ hlt e he,hlen0]
  refine ab_ (s_r 6 ?_);refine a_3 ?_;refine o_0 (.load_l1 rfl (b2_ (bd_ cA_) (show(1:Nat)≠0 by decide)) (hg0 _ (by omega)) TG.h rfl) ?_;refine a_z ?_;refine aw_ (fun _:Unit=>svI A l b n i n) (fun _=>True) ?_ ?_
  ·refine ae_ (aq_ (svI A l b n i) (fun j=>n- j) (fun j=>j≤n) 0 (Nat.zero_le _) ?_ ?_)
   rw[svI.eq_1,←ph1_at A l (fun t=>coP b t),upR_id];exact gT_ (by omega) (bd_ cA_) (fun i hi=>bS_ cA_ (by omega) hi) rfl fun hs=>sv_f (l:=l) (b:=b) hs;intro j hj;rw[svI.eq_1];by_cases hjn:j< n;rotate_left;have hge:j=n:=by omega
   subst hge;refine q_z 1 ?_;refine ab_ (cF (ao_ ⟨(),trivial,?_⟩));exact gT_ (by omega) (bd_ cA_) (fun i hi=>bS_ cA_ (by omega) hi) rfl fun hs=>sv_f (l:=l) (b:=b) hs;have hmu:=bK_ (A i j) l (hm i j hlt hjn);have hne:=hE_ (A i j* l);have hce:=eB_ (TS:=32) (TQ:=46) (R:=upR (ph1 A l (fun t=>coP b t) n i) i (mxr A l n i j)) cA_ (by omega:n≤30) hlt;rw[cw_] at hce;have hg1:∀e,e=i→(rwO (upR (ph1 A l (fun t=>coP b t) n i) i (mxr A l n i j)) (fun x=>x) n)[e]?=some [.lsl (i+2) 0 n none 3]:=fun e he=>by rw[cd_ hlt e he,cw_,fr_]
   have ho:=b2_ (bd_ (TS:=32) (TQ:=46) (n:=n) (R:=upR (ph1 A l (fun t=>coP b t) n i) i (mxr A l n i j)) cA_) (show(1:Nat)≠0 by decide);refine q_z 1 ?_;refine ab_ (cT (ah_ (ab_ (ae_ (r_z 2 ?_)))));refine r_d hmix 17 ?_;refine a_3 ?_;refine o_0 (.load_l1 rfl ho (hg1 _ (by omega)) TG.h rfl) ?_;refine a_4 ?_;refine o_0 (.load_l1 rfl ho (hg1 _ (by omega)) TG.h rfl) ?_;refine a_2 ?_;refine o_0 (.load_l rfl hce (rl_ hjn _ (by omega)) TG.h TS.h (nle rfl)) ?_;refine c_s (hmu) ?_;refine c_s (hne) ?_;refine a_1 ?_;refine o_1n (.store rfl hce (rl_ hjn _ (by omega)) rfl rfl rfl TS.h (nle rfl)) ?_;refine al_ (n_k ?_);refine r_m 2 ?_;refine a_z ?_;refine⟨j+1,by omega,by omega,?_⟩;rw[svI.eq_1];refine gT_ (by omega) ?_ ?_ ?_ fun hs=>sv_f (l:=l) (b:=b) hs;rw[aS_ (by omega),bd_ cA_,c5_ (R':=upR (ph1 A l (fun t=>coP b t) n i) i (mxr A l n i (j+1))) (s':=fun x=>x)];intro k hk;by_cases h:k=i;subst h;rw[cw_,cw_];simp;rw[fJ_ _ _ h,fJ_ _ _ h];simp;intro k hk;by_cases h:k=i;subst h;rw[cw_,←mxr_set hjn (0+((j:Nat):Int).toNat) (by omega),bv_,aM_];rfl;rw[aS_ (by omega),bS_ cA_ (by omega) hk,fJ_ _ _ h,fJ_ _ _ h];rw[aS_ (by omega)];rfl
  rintro _ _;show AWp _ _ _ _ (svI A l b n i n);rw[svI.eq_1];have hce:=eB_ (TS:=32) (TQ:=46) (R:=upR (ph1 A l (fun t=>coP b t) n i) i (mxr A l n i n)) cA_ (by omega:n≤30) hlt;rw[cw_] at hce;have hg1:∀e,e=i→(rwO (upR (ph1 A l (fun t=>coP b t) n i) i (mxr A l n i n)) (fun x=>x) n)[e]?=some [.lsl (i+2) 0 n none 3]:=fun e he=>by rw[cd_ hlt e he,cw_,fr_]
  have ho:=b2_ (bd_ (TS:=32) (TQ:=46) (n:=n) (R:=upR (ph1 A l (fun t=>coP b t) n i) i (mxr A l n i n)) cA_) (show(1:Nat)≠0 by decide);have hi1:=c2_ 1 (by decide);have hq1:qs 1≤1:=by decide
  have had:=dy_ (-(A i i* l)) 1 (by have:=ha i hlt;omega);refine ab_ (r_d hmix 16 ?_);refine a_3 ?_;refine o_0 (.load_l1 rfl ho (hg1 _ (by omega)) TG.h rfl) ?_;refine a_4 ?_;refine o_0 (.load_l1 rfl ho (hg1 _ (by omega)) TG.h rfl) ?_;refine a_2 ?_;refine o_0 (.load_l rfl hce (op_ hlt _ (by omega)) TG.h TS.h (nle rfl)) ?_;refine c_s (hi1) ?_;refine c_s (had) ?_;refine a_1 ?_;refine o_1n (.store rfl hce (op_ hlt _ (by omega)) rfl rfl rfl TS.h (nle rfl)) ?_;refine al_ (n_k ?_);refine AWp.ent (st':=⟨[(0,.lsl 1 0 n (some n) 1),(2,.arr (pE b)),(4,bQ l),(6,.lptr 35 0 0),(7,i64 n),(8,i64 i),(22,i64 n),(23,i64 i)],rwH 32 46 (upR (ph1 A l (fun t=>coP b t) n i) i (dgr A l n i)) n sx0,40,209⟩) ?_ ?_;refine gT_ (by omega) ?_ ?_ ?_ fun hs=>sv_f (l:=l) (b:=b) hs;rw[aS_ (by omega),bd_ cA_,c5_ (R':=upR (ph1 A l (fun t=>coP b t) n i) i (dgr A l n i)) (s':=fun x=>x)];intro k hk;by_cases h:k=i;subst h;rw[cw_,cw_];simp;rw[fJ_ _ _ h,fJ_ _ _ h];simp;intro k hk;by_cases h:k=i;subst h;rw[cw_,←mxr_one hlt (0+((k:Nat):Int).toNat) (by omega),bv_,aM_];rfl;rw[aS_ (by omega),bS_ cA_ (by omega) hk,fJ_ _ _ h,fJ_ _ _ h];rw[aS_ (by omega)];rfl
  have hce2:∀(k:Nat) (B:Option ABlk),k≠i+2→cellF (lookB ((k,B)::rwH 32 46 (upR (ph1 A l (fun t=>coP b t) n i) i (dgr A l n i)) n sx0)) (i+2)=some ⟨46,3,pE (dgr A l n i)⟩:=fun k B hk=>b2_ (by
   have:=bS_ (TS:=32) (TQ:=46) (R:=upR (ph1 A l (fun t=>coP b t) n i) i (dgr A l n i)) cA_ (by omega:n≤30) hlt;rw[cw_] at this;rw[aS_ hk];exact this) (show(3:Nat)≠0 by decide)
  have hg2:∀e,e=i→(rwO (upR (ph1 A l (fun t=>coP b t) n i) i (dgr A l n i)) (fun x=>x) n)[e]?=some [.lsl (i+2) 0 n none 3]:=fun e he=>by rw[cd_ hlt e he,cw_,p5_]
  have ho2:=b2_ (bd_ (TS:=32) (TQ:=46) (n:=n) (R:=upR (ph1 A l (fun t=>coP b t) n i) i (dgr A l n i)) cA_) (show(1:Nat)≠0 by decide);have hbl:(pE b).length=n:=by simp[pE,hb]
  have hbg:(pE b)[((i:Nat):Int).toNat]?=some (qC (coP b i)):=by
   have:=bw_ (p:=b) (i:=i) (by omega);simp[pE,this]
  have hdl:(pE (dgr A l n i)).length=n:=by simp[pE]
  have hi50:(50:Nat)≠i+2:=by omega
  refine r_d hmix 14 ?_;refine a_5 ?_;refine o_0 (.load_l1 rfl ho2 (hg2 _ (by omega)) TG.h rfl) ?_;refine a_2 ?_;refine i_x hbg ?_;refine l_x hbg ?_;refine a_1 ?_;refine o_2 (.append_l rfl rfl rfl te_32.h rfl rfl (hce2 50 _ hi50) rfl rfl hdl (ci_ _) (by rfl) rfl (.lsl rfl (nle rfl)) TZ.h rfl TB.h (by first|rfl|assumption|(simp;done)|(simp;omega)|omega) (by first|(simp[maxLen];done)|(simp[maxLen];omega))) ?_;refine a_1 ?_;refine o_1n (.store rfl rfl (hg2 _ (by omega)) rfl rfl rfl TS.h (nle rfl)) ?_;refine al_ (n_k ?_);refine r_m 2 ?_;refine a_z ?_;refine⟨i+1,by omega,by omega,?_⟩;rw[svO.eq_1,←ph1_next,←upR_up (ph1 A l (fun t=>coP b t) n i) i (dgr A l n i) (tabP (n+1) (svM A l (fun t=>coP b t) n i))];have h35s:fiR i 51 35=35:=fiR_ne (by omega);refine qO_ (fiR i 51) (by omega) (fiR_0 _ _) (fun x y hx hy e=>i9_ (m:=40) (Nat.le_refl _) (by decide) x y (ke_ (by omega) hx) (ke_ (by omega) hy) e) ?_ ?_ ?_ fun hs=>sv_f (l:=l) (b:=b) hs;rw[fiR_1,←rwO_grow (new:=51) (m:=n+1) hlt (by simp) (0+((i:Nat):Int).toNat) (by omega)];rfl;intro k hk;by_cases h:k=i;subst h;rw[cw_,gZ_,←dgr_app,e2_];rfl
  ·rw[ej_ h,fJ_ _ _ h]
   repeat rw[aS_ (by omega)]
   exact bS_ cA_ (by omega) hk
  ·rw[fiR_ne (by omega)]
   repeat rw[aS_ (by omega)]
   rfl
 rintro _ _;exact hrest
theorem rwL_mE(R:Nat→List Rat)(n:Nat):(rwL R n).map (fun e=>([.arr e]:List AV))=mE ((List.range n).map R):=by simp[rwL,mE]
theorem rv_(k:List (List Rat))(a:Nat):(mE k).drop a=mE (k.drop a):=by simp[mE,List.map_drop]
def rwI(n:Nat):List Nat:=1::(List.range n).map (· +2)
theorem Cv_rwV{r:Ren}{hp hp':Nat→Option ABlk}{cap:Option Nat}{TS TQ a m n:Nat}{R:Nat→List Rat}(hh:∀i∈rwI n,hp' i=hp i)(h1:hp 1=some ⟨TS,1,rwO R (fun x=>x) n⟩)(hr:∀i,i< n→hp (i+2)=some ⟨TQ,3,pE (R i)⟩)(ham:a+m=n):
    Cv r hp' (fun _=>none) (.lsl 1 a m cap 1) (.arr (mE (((List.range n).map R).drop a))):=by
 have e:mE (((List.range n).map R).drop a)=(((rwL R n).map fun e=>([.arr e]:List AV)).drop a).take m:=by
  rw[rwL_mE,rv_,List.take_of_length_le (by simp;omega)]
 rw[e];have hn:(rwL R n).length=n:=gU_ R n;refine Cv.mzV (sz:=3) (TS:=TS) (TQ:=TQ) (w:=fun k=>(R k).length) (by decide) ?_ (fun i x hx=>?_) (fun i x hx=>by rw[(qP_ hx).2];simp[pE]) (fun x hx y hy c hc=>?_) (by rw[hn];omega);rw[hh 1 (List.mem_cons_self ..),h1,hn];rfl;obtain⟨h2,rfl⟩:=qP_ hx;rw[hh (i+2) (List.mem_cons_of_mem _ (List.mem_map.2 ⟨i,List.mem_range.2 h2,rfl⟩)),hr i h2];obtain⟨k,_,rfl⟩:=List.mem_map.1 hx;exact aI_ _ y hy c hc
theorem fs_lead(R:Nat→List Rat)(n r c:Nat)(hn:n≤1000)(hl:∀i,i< n→c< (R i).length):
    FS 127 [.arr (mE (((List.range n).map R).drop r)),.clos 128 [] [.aptr [[i64 c]] 0 0]] (i64 (idxA (fun e:List Rat=>decide (coP e c≠0)) (((List.range n).map R).drop r) 0)):=
 l9_ _ 128 [.aptr [[i64 c]] 0 0] _ (aa_ (aL_ (aa_ (ad_ _) ac_)) ac_) (by simp;omega) fun e he=>by
  obtain⟨i,hi,rfl⟩:=List.mem_map.1 (List.mem_of_mem_drop he);exact pF_ _ c _ (bw_ (hl i (List.mem_range.1 hi)))
theorem lY_{α:Type}(t:α→Bool):∀(l:List α) (k:Int),(∀x∈l,t x=false)→idxA t l k= -1
 |[],_,_=>rfl
 |a::l,k,h=>by
  rw[idxA,if_neg (by rw[h a (List.mem_cons_self ..)];decide)];exact lY_ t l _ fun x hx=>h x (List.mem_cons_of_mem _ hx)
theorem rL_{α:Type}(t:α→Bool):∀(l:List α) (k:Int) (j:Nat) (x:α),l[j]?=some x→t x=true→(∀i y,i< j→l[i]?=some y→t y=false)→idxA t l k=k+j
 |[],_,_,_,h,_,_=>by cases h
 |a::l,k,0,x,h,h2,_=>by
  cases h;rw[idxA,if_pos h2];simp
 |a::l,k,j+1,x,h,h2,h3=>by
  rw[idxA,if_neg (by rw[h3 0 a (by omega) rfl];decide),rL_ t l (k+1) j x (by simpa using h) h2 fun i y hi hy=>h3 (i+1) y (by omega) (by simpa using hy)];omega
theorem mX_{M:Mx}{n r i:Nat}(h:r+i< n):(((List.range n).map fun k=>tabP (n+1) (M k)).drop r)[i]?=some (tabP (n+1) (M (r+i))):=by
 rw[List.getElem?_drop];simp[h]
theorem coP_tab{n c:Nat}{f:Nat→Rat}(h:c≤n):coP (tabP (n+1) f) c=f c:=by
 unfold coP tabP;rw[List.getD_eq_getElem?_getD];simp[show c< n+1 by omega]
theorem idx_pv(M:Mx)(n r c:Nat)(hr:r≤n)(hc:c≤n):idxA (fun e:List Rat=>decide (coP e c≠0)) (((List.range n).map fun k=>tabP (n+1) (M k)).drop r) 0=match pvR M n r c with|some p=>((p- r:Nat):Int)|none=> -1:=by
 cases e:pvR M n r c with
 |none=>
  refine lY_ _ _ _ fun x hx=>?_;obtain⟨i,hi⟩:=List.mem_iff_getElem?.1 hx
  have hlt:r+i< n:=by
   have:=(List.getElem?_eq_some_iff.1 hi).1;simp at this;omega
  rw[mX_ hlt] at hi;cases hi;rw[coP_tab hc,oe_ e (r+i) hlt (by omega)];decide
 |some p=>
  obtain⟨p1,p2,p3⟩:=hZ_ e
  have hfirst:∀q,q< p→r≤q→M q c=0:=fun q hq hrq=>by
   have e2:=e;unfold pvR at e2;rw[List.find?_range_eq_some] at e2;have:=e2.2.2 q hq;simp at this;exact this.resolve_left (by omega)
  rw[rL_ _ _ 0 (p- r) (tabP (n+1) (M p)) (by rw[mX_ (by omega),show r+(p- r)=p by omega]) (by rw[coP_tab hc];exact decide_eq_true p3) fun i y hi hy=>?_];simp;rw[mX_ (by omega)] at hy;cases hy;rw[coP_tab hc,hfirst (r+i) (by omega) (by omega)];decide
def lvE(L:List Nat):List (List AV):=L.map fun(l:Nat)=>[i64 (l:Int)]
@[simp] theorem fs_ (L:List Nat):(lvE L).length=L.length:=by simp[lvE]
theorem cs_(L:List Nat):∀e∈lvE L,∀c∈e,Closed c:=fun e he=>by
 obtain⟨l,_,rfl⟩:=List.mem_map.1 he;exact aa_ (ad_ _) ac_
theorem lvE_snoc(L:List Nat)(c:Nat):lvE (L++[c])=lvE L++[[i64 c]]:=by simp[lvE]
def lvA:List Nat→AV
 |[]=> .emp
 |l::L=> .lsl 37 0 (L.length+1) none 1
def lvB:List Nat→Hp
 |[]=>[]
 |l::L=>[(37,some ⟨3,1,lvE (l::L)⟩)]
def sx1(n:Nat)(L:List Nat):Hp:=(35,some ⟨131,3,[[.emp,.emp,i64 0]]⟩)::(36,some ⟨131,3,[[.lsl 1 0 n (some n) 1,lvA L,i64 n]]⟩)::lvB L
theorem bq_{n:Nat}{L:List Nat}:∀p∈sx1 n L,35≤p.1∧p.1< 40:=fun p hp=>by
 rcases List.mem_cons.1 hp with rfl|hp
 exact⟨(show 35≤35 by decide),(show 35< 40 by decide)⟩;rcases List.mem_cons.1 hp with rfl|hp
 exact⟨(show 35≤36 by decide),(show 36< 40 by decide)⟩;cases L with
 |nil=>cases hp
 |cons l L=>rw[List.mem_singleton.1 hp];exact⟨(show 35≤37 by decide),(show 37< 40 by decide)⟩
theorem eC_ {fr fr':Fr} {hp:Hp} {nx N n:Nat} {R:Nat→List Rat} {L:List Nat} {x:AV} (s:Nat→Nat) (hn:n≤30) (s0:s 0=0) (hinj:∀i j,InX n i→InX n j→s i=s j→i=j) (h1:lookB hp (s 1)=some ⟨32,1,rwO R s n⟩) (hr:∀i,i< n→lookB hp (s (i+2))=some ⟨46,3,pE (R i)⟩)
    (h35:lookB hp (s 35)=some ⟨131,3,[[.emp,.emp,i64 0]]⟩) (h36:lookB hp (s 36)=some ⟨131,3,[[.lsl (s 1) 0 n (some n) 1,x,i64 n]]⟩) (hx:(L=[]∧x= .emp)∨(L≠[]∧x= .lsl (s 37) 0 L.length none 1∧lookB hp (s 37)=some ⟨3,1,lvE L⟩))
    (hF:Shr ⟨40,s⟩ (lookB hp) (lookB (rwH 32 46 R n (sx1 n L)))→CvF ⟨40,s⟩ (lookB hp) (lookB (rwH 32 46 R n (sx1 n L))) fr fr'):SEnt ⟨fr,hp,nx,N⟩ ⟨fr',rwH 32 46 R n (sx1 n L),40,N⟩:=by
 refine SEntT.ent (SEntT.rw s hn s0 hinj h1 hr bq_ (fun i B h=>?_) (fun hs i B B0 h hB=>?_) hF);rcases List.mem_cons.1 h with h|h
 cases h;exact⟨_,h35,rfl,rfl,rfl⟩;rcases List.mem_cons.1 h with h|h
 cases h;exact⟨_,h36,rfl,rfl,rfl⟩;rcases hx with⟨rfl,_⟩|⟨hL,_,h37⟩
 cases h;cases L with
 |nil=>exact absurd rfl hL
 |cons l L=>cases List.mem_singleton.1 h;exact⟨_,h37,rfl,rfl,rfl⟩
 rcases List.mem_cons.1 h with h|h
 cases h;rw[h35] at hB;cases hB
 exact a9_ hs fun e he c hc=>by
  rw[List.mem_singleton.1 he] at hc;exact aa_ bs_ (aa_ bs_ (aa_ (ad_ _) ac_)) c hc
 rcases List.mem_cons.1 h with h|h
 cases h;rw[h36] at hB;cases hB;refine CvLL.cons (ai_ (Cv.sl rfl rfl ?_) (ai_ ?_ (ai_ (ak_ hs (ad_ _)) an_))) CvLL.nil;rw[bd_ (bq_ (n:=n) (L:=L))];rfl;rcases hx with⟨rfl,rfl⟩|⟨hL,rfl,h37⟩
 exact ak_ hs bs_;cases L with
 |nil=>exact absurd rfl hL
 |cons l L=>exact Cv.sl rfl rfl rfl
 rcases hx with⟨rfl,_⟩|⟨hL,_,h37⟩
 cases h;cases L with
 |nil=>exact absurd rfl hL
 |cons l L=>
  cases List.mem_singleton.1 h;rw[h37] at hB;cases hB;exact a9_ hs (cs_ _)
end Go.Proofs.YtjkddcfoolilbaaGreatDoor
