/- Part V30 of the proof. -/
import Derived.Test.YtkhclghbcicapaaGreatDoorV29
set_option linter.all false
namespace Go.Proofs.YtkhclghbcicapaaGreatDoor
open Go.Abs
set_option maxRecDepth 20000
set_option maxHeartbeats 2000000
@[simp] theorem qA (x:List RQ):(xF x).length=(aj (vR x)).length:=by rw[←vR_trim,oh]
theorem jm(x:List RQ)(hl:x.length≤1000000):FS 82 [.arr (rE x)] (i64 (cQ (vR x))):=by
 have a:=bO (vR x);rw[oh,←qA] at a;refine f_c Tryz.func82 ?_;refine r_z 1 ?_;refine r_c 5 (Iv x (by omega)) ?_;refine a_z ?_;exact ak (aY rfl (by rw[qA];rfl) (ah _))


def dSt(d:List Rat)(s:List Rat×List RQ):List Rat×List RQ:=
 (fV s.1 (shP ((vR s.2).length- d.length) [aF (vR s.2) / aF d]),rP (cn (vR s.2) (aJ d (shP ((vR s.2).length- d.length) [aF (vR s.2) / aF d]))))
structure DInv (p d:List Rat)(t L:Nat)(s:List Rat×List RQ):Prop where
 ok:okX s.2
 tr:aj (vR s.2)=vR s.2
 bd:∃b,1≤b∧bdL (vR s.2) b∧bdL s.1 b∧(b+2* t+3) * 2^ s.2.length≤L
 ln:s.2.length≤p.length
 lq:s.1.length≤p.length
 ev:∀x,af p x=af s.1 x* af d x+af (vR s.2) x
theorem DInv.step{p d:List Rat}{t L:Nat}{s:List Rat×List RQ}(h:DInv p d t L s)(hd:aj d=d)(hd0:d≠[])(hdt:bdL d t)(ht:1≤t)(hl:d.length≤s.2.length):DInv p d t L (dSt d s)∧(dSt d s).2.length< s.2.length:=by
 obtain⟨q,X⟩:=s;obtain⟨ok,tr,⟨b,b1,i,f,hb⟩,ln,lq,ev⟩:=h;simp only at *
 have j:=List.length_pos_iff.2 hd0;have c:=He tr hd hd0 (by rw[oh];exact hl);obtain⟨s1,s2,e⟩:=step_bd i hdt b1 ht hd0 ((vR X).length- d.length);obtain⟨a,ha⟩:∃a,a=aF (vR X) / aF d:=⟨_,rfl⟩;unfold dSt;simp only;rw[oh] at c s2 e⊢;rw[←ha] at c s1 s2 e⊢;refine⟨⟨okX_rP _,?_,⟨2* b+2* t+3,by omega,?_,?_,?_⟩,?_,?_,?_⟩,?_⟩;rw[vj];exact FJ _ _;rw[vj];exact e;have h1:bdL [a] (b+t):=fun x g=>by rw[List.mem_singleton.1 g];exact s1
 exact xc (Cr f (bdL_sh h1 (by omega) _) b1 (by omega)) (by omega);simp only[sX];obtain⟨n,k⟩:∃n,X.length=n+1:=⟨X.length- 1,by omega⟩;have h1:2^ (cn (vR X) (aJ d (shP (X.length- d.length) [a]))).length≤2^ n:=Nat.pow_le_pow_right (by decide) (by omega);have m:=Nat.mul_le_mul_left (2* b+2* t+3+2* t+3) h1
 have l:(b+2* t+3) * 2^ X.length=(2* b+2* t+3+2* t+3) * 2^ n:=by
  rw[k,Nat.pow_succ,show 2* b+2* t+3+2* t+3=(b+2* t+3) * 2 by omega,Nat.mul_assoc,Nat.mul_comm 2 (2^ n)]
 omega;simp only[sX];omega;have h1:=kU q (shP (X.length- d.length) [a]);rw[pT] at h1;simp at h1⊢;omega;intro x;rw[vj,dJ,bh,eF,ev x];grind;simp only[sX];exact c







def pkR(p:List Rat×List Rat):List AV:=[.arr (rE (rP p.1)),.arr (rE (rP p.2))]
def keR(k:Ke):List (List AV):=k.map pkR
@[simp] theorem p9 (k:Ke):(keR k).length=k.length:=by simp[keR]
theorem kR(k:Ke):∀x∈keR k,∀c∈x,Closed c:=fun x a=>by
 obtain⟨p,_,rfl⟩:=List.mem_map.1 a;exact ac (fQ _) (ac (fQ _) ag)
theorem gO(k:Ke):Closed (.arr (keR k)):=aK (kR k)
theorem keR_get{k:Ke}{i:Nat}{p:List Rat×List Rat}(h:k[i]?=some p):∀e,e=i→(keR k)[e]?=some (pkR p):=fun e a=>by
 rw[a,keR,List.getElem?_map,h];rfl

def tT(p:List Rat×List Rat):Bool:=decide (12< cQ p.1)||decide (12< cQ p.2)
def vaB(k:Ke):Bool:=!k.any tT && decide (k.length≤8)
theorem GM(p:List Rat×List Rat):Eg p=tT p:=by
 unfold Eg tT;by_cases h1:12< cQ p.1;rw[decide_eq_true h1,Bool.true_or,decide_eq_true];split <;> omega;by_cases h2:12< cQ p.2;rw[decide_eq_true h2,Bool.or_true,decide_eq_true];split <;> omega;rw[decide_eq_false h1,decide_eq_false h2,Bool.or_false,decide_eq_false];split <;> omega
def vkS(k:Ke):Nat→AState
 |i=>⟨[(0,.arr (keR k)),(3,i64 i)],[],1,29⟩
theorem DD(k:Ke)(hl:k.length≤1000)(h2:∀p∈k,p.1.length≤1000000∧p.2.length≤1000000):FS 83 [.arr (keR k)] (bln (vaB k)):=by
 have j:(keR k).length=k.length:=p9 k;refine f_n Tryz.func83 ?_ ?_;exact ac (gO k) ag;obtain⟨r,m⟩:∃r,r=vaB k:=⟨_,rfl⟩;rw[←m];refine r_z 1 ?_;refine ae (r_z 1 ?_);refine aH (fun _:Unit=>⟨[(0,.arr (keR k))],[],1,29⟩) (fun _=> ∀p∈k,tT p=false) ?_ ?_;refine am (aD (vkS k) (fun i=>k.length- i) (fun i=>i≤k.length∧∀p∈k.take i,tT p=false) 0 ⟨Nat.zero_le _,fun p hp=>by simp at hp⟩ ?_ ?_);rw[vkS.eq_1];have:=gO k;exact s_f [];rintro i ⟨o,b⟩;rw[vkS.eq_1];by_cases hlt:i< k.length;obtain⟨p,hp⟩:∃p,k[i]?=some p:=⟨_,List.getElem?_eq_getElem hlt⟩;have a:(keR k)[((i:Nat):Int).toNat]?=some (pkR p):=keR_get hp _ (by simp);have d:=List.mem_of_getElem? hp;obtain⟨l1,l2⟩:=h2 p d;have d1:=jm (rP p.1) (by simp;omega);have d2:=jm (rP p.2) (by simp;omega);rw[vj] at d1 d2
 have f:tT p=true→r=false:=fun e=>by
  rw[m];unfold vaB;rw[List.any_eq_true.2 ⟨p,d,e⟩];rfl
 by_cases e1:12< cQ p.1;refine ae (q_z 4 ?_);refine cT (an (ae (am (s_r 16 ?_))));refine a_2 ?_;refine i_x a ?_;refine a_1 ?_;refine l_1 a ?_;refine c_s (d1) ?_;refine d_z ?_;refine cT ?_;rw[f (by unfold tT;rw[decide_eq_true e1];rfl)];refine r_z 1 ?_;exact ak (t_e (ah _));by_cases e2:12< cQ p.2;refine ae (q_z 4 ?_);refine cT (an (ae (am (s_r 16 ?_))));refine a_2 ?_;refine i_x a ?_;refine a_1 ?_;refine l_1 a ?_;refine c_s (d1) ?_;refine d_4 ?_;refine bK rfl rfl rfl (.index_a rfl rfl (by omega) a rfl te_84.h) rfl rfl ?_;refine m_1 ?_;refine bK rfl rfl rfl (.load_a1 rfl a TG.h rfl) rfl rfl ?_;refine c_s (d2) ?_;refine d_z ?_;refine cT ?_;rw[f (by unfold tT;rw[decide_eq_true e2,Bool.or_true])];refine r_z 1 ?_;exact ak (t_e (ah _));refine ae (q_z 4 ?_);refine cT (an (ae (am (s_r 16 ?_))));refine a_2 ?_;refine i_x a ?_;refine a_1 ?_;refine l_1 a ?_;refine c_s (d1) ?_;refine d_4 ?_;refine bK rfl rfl rfl (.index_a rfl rfl (by omega) a rfl te_84.h) rfl rfl ?_;refine m_1 ?_;refine bK rfl rfl rfl (.load_a1 rfl a TG.h rfl) rfl rfl ?_;refine c_s (d2) ?_;refine d_z ?_;refine cF (an (r_m 3 ?_));refine a_z ?_;refine⟨i+1,by omega,⟨by omega,fun q c=>?_⟩,?_⟩;rw[dt hp] at c;rcases List.mem_append.1 c with c|c
 exact b q c;rw[List.mem_singleton.1 c];unfold tT;rw[decide_eq_false e1,decide_eq_false e2];rfl;rw[vkS.eq_1];have:=gO k;exact s_f [];have n:i=k.length:=by omega
 refine ae (q_z 4 ?_);refine cF (aA ⟨(),(by rw[n,List.take_length] at b;exact b),?_⟩);have:=gO k;exact s_f [];rintro _ g
 have l:r=decide (((keR k).length:Int)≤8):=by
  rw[m];unfold vaB;have:k.any tT=false:=List.any_eq_false.2 fun p hp=>by rw[g p hp];decide
  rw[this,j];show decide (k.length≤8)=_;exact decide_eq_decide.2 (by omega)
 rw[l];refine r_z 4 ?_;exact ak (t_e (ah _))
theorem II(k:Ke)(g:List Rat)(hl:k.length≤1000)(h2:∀p∈k,p.1.length≤1000000∧p.2.length≤1000000)(hg:g.length≤1000000):FS 31 [.arr (keR k),.arr (rE (rP g))] (bln (!vaB k||decide (20< cQ g))):=by
 have hv:=DD k hl h2;have a:=jm (rP g) (by simp;omega);rw[vj] at a;refine f_n Tryz.func31 ?_ ?_;exact ac (gO k) (ac (fQ _) ag);refine r_z 1 ?_;cases e:vaB k with
 |false=>
  rw[e] at hv;refine r_c 9 (hv) ?_;refine d_z ?_;exact ak (t_e (ah _))
 |true=>
  rw[e] at hv;refine r_c 9 (hv) ?_;refine e_s (a) ?_;refine d_z ?_;exact ak (t_e (ah _))
theorem xX{k:Ke}(hkl:k.length≤3)(h4:∀p∈k,p.1.length≤4∧p.2.length≤4):qZ k:=by
 refine⟨by omega,?_,fun p hp=>by have:=h4 p hp;omega⟩;rw[List.any_eq_false];intro p hp;have h:=h4 p hp;have a:=bO p.1;have b:=bO p.2
 have:¬(12< if cQ p.2> cQ p.1 then cQ p.2 else cQ p.1):=by
  unfold cQ;split <;> omega
 unfold Eg;simpa using this
theorem Am(g:List Rat){n:Nat}(h:g.length≤n+1):cQ g≤n:=by
 have:=bO g;unfold cQ;omega
theorem tY{k:Ke}{l:Rat}{g:List Rat}{a:Rat}{n:Nat}(hn:n≤40)(hkl:k.length≤3)(h4:∀p∈k,p.1.length≤4∧p.2.length≤4)(hb:∀p∈k,bdL p.1 20∧bdL p.2 20)(hg:g.length≤5)(bg:bdL g 20)(hl:qs l≤20)(ha:qs a≤20):OkSe k l g a n:=by
 obtain⟨J,Q,x,z,A,E,w⟩:=xg hkl h4 hb;obtain⟨c,o,d0⟩:=oe ha;obtain⟨q,i,y⟩:=oe hl;obtain⟨M,v⟩:=o8 g bg;have v:=v.mono (show _≤101 by omega);obtain⟨D,B,j,t,m,u,f⟩:=yL x z A E w d0 o c;obtain⟨C,e⟩:=HS_shift' (N:=4) d0 o c v (by omega);have e:=e.mono (show _≤3000 by omega);have lg:=jr a g;have h:(mvK a k).length≤900:=by unfold mvK;simp;omega
 have S:=fun r (s:r≤1000)=>C3 (k:=mvK a k) (G:=ca [a,1] g) (L:=l) j h (by omega) (by omega) t m u f e y i q hn r s;have U:=fun r (s:r≤1000) (K:Rat) (H:HS (seK (mvK a k) (ca [a,1] g) l n r) K (20000* r+1))=>yS (a:=0) (d:=1) j h (by have:=uD (mvK a k) (ca [a,1] g) l n r;omega) H (by decide) (IB.one.mono (by omega)) ((IB.zero 20).eq (by grind)) (by decide) (by omega) t m u f (by omega);refine⟨xX hkl h4,by have:=Am g (n:=4) (by omega);omega,fun p hp=>?_,?_,by omega,by unfold sm;omega,eP (e.bdL (by omega)) (by omega),by omega,fun r s=>(S r (by omega)).2,fun r s=>?_,fun r s=>?_⟩;obtain⟨O,F⟩:=h4 p hp;exact⟨⟨ow (N:=3) d0 o c ha (by omega) (by omega) (by omega) _ (by omega) (x.a p hp),by omega⟩,ow (N:=3) d0 o c ha (by omega) (by omega) (by omega) _ (by omega) (x.b p hp),by omega⟩;exact ow (N:=4) d0 o c ha (by omega) (by omega) (by omega) _ (by omega) v;obtain⟨K,H⟩:=(S r (by omega)).1;obtain⟨u1,u2,_⟩:=U r (by omega) K H;have hl:=uD (mvK a k) (ca [a,1] g) l n r;exact⟨eP (u1.bdL (by omega)) (by omega),by omega⟩;obtain⟨K,H⟩:=(S r (by omega)).1;obtain⟨u1,u2,_⟩:=U r (by omega) K H;exact eP ((u1.k y i q).bdL (by omega)) (by omega)
theorem any_big(k:Ke):k.any Eg=k.any tT:=by
 congr 1;exact funext GM
theorem okKe_va{k:Ke}(h:vaB k=true)(h2:∀p∈k,p.1.length≤1099511627776∧p.2.length≤1099511627776):qZ k:=by
 unfold vaB at h;simp only[Bool.and_eq_true,Bool.not_eq_true',decide_eq_true_eq] at h;exact⟨h.2,by rw[any_big];exact h.1,h2⟩
theorem Gt(l:List fK)(ho:okR l)(hl:l.length≤9223372036854775807):
    FS 29 [.arr (nR l)] (if 40< l.length then .tup [.arr (pE []),.arr (rE []),bln false] else .tup [.arr (pE (nL l)),.arr (rE (rP (nL l))),bln (gz l 5||decide (20< cQ (nL l)))]):=by
 have b:(nR l).length=l.length:=by simp[nR]
 have c:=aK (cU l);by_cases h40:40< l.length;rw[if_pos h40];refine f_c Tryz.func29 ?_;refine r_z 3 ?_;refine ae (q_z 3 ?_);refine cT (r_z 3 ?_);refine ak (Fin.many ⟨_,_,rfl,rfl,⟨_,_,rfl,rfl,⟨_,_,rfl,rfl,rfl⟩⟩⟩ (nle rfl) ?_);exact ai (Cv.emp _) (ai (Cv.emp _) (ai (ao ay (ah _)) aw));rw[if_neg h40];have hb:=wy l (by omega) ho;have ht:=rU l 5 hl (by decide);have a:=jm (rP (nL l)) (by simp[nL];omega);rw[vj] at a;cases e:gz l 5 with
 |true=>
  rw[e] at ht;refine f_c Tryz.func29 ?_;refine r_z 3 ?_;refine ae (q_z 3 ?_);refine cF (an (r_c 7 (hb) ?_));refine a_z ?_;refine r_c 12 (ht) ?_;refine d_z ?_;refine ak (Fin.many ⟨_,_,rfl,rfl,⟨_,_,rfl,rfl,⟨_,_,rfl,rfl,rfl⟩⟩⟩ (nle rfl) ?_);exact ai (ao ay (aC _)) (ai (ao ay (fQ _)) (ai (ao ay (ah _)) aw))
 |false=>
  rw[e] at ht;refine f_c Tryz.func29 ?_;refine r_z 3 ?_;refine ae (q_z 3 ?_);refine cF (an (r_c 7 (hb) ?_));refine a_z ?_;refine r_c 12 (ht) ?_;refine e_s (a) ?_;refine d_z ?_;refine ak (Fin.many ⟨_,_,rfl,rfl,⟨_,_,rfl,rfl,⟨_,_,rfl,rfl,rfl⟩⟩⟩ (nle rfl) ?_);exact ai (ao ay (aC _)) (ai (ao ay (fQ _)) (ai (ao ay (ah _)) aw))
def fiO(A:Nat→Nat→Rat)(n g:Nat)(cap:List AV)(i:Nat):AState:=⟨[(0,i64 n),(1,.clos g [] cap),(5,.lsl 1 0 n (some n) 1),(11,i64 n),(12,i64 i)],mzH 3 35 34 (foE (fun _=>n) (fun x=>x) n i) (fiL A n i),40,35⟩
def fiE(A:Nat→Nat→Rat)(n:Nat):AState:=⟨[(5,.lsl 1 0 n (some n) 1)],mzH 3 35 34 (foE (fun _=>n) (fun x=>x) n n) (fiL A n n),40,35⟩
def fiI(A:Nat→Nat→Rat)(n g:Nat)(cap:List AV)(i:Nat):Nat→AState
 |0=>⟨[(0,i64 n),(1,.clos g [] cap),(5,.lsl 1 0 n (some n) 1),(6,i64 i),(11,i64 n),(12,i64 i),(15,i64 n),(16,i64 0)],mzH 3 35 34 (foE (fun _=>n) (fun x=>x) n i) (fiL A n i),40,35⟩
 |j+1=>⟨[(0,i64 n),(1,.clos g [] cap),(5,.lsl 1 0 n (some n) 1),(6,i64 i),(11,i64 n),(12,i64 i),(15,i64 n),(16,i64 ((j+1:Nat):Int))],mzH 3 35 34 (foE (wJ n i (j+1)) (fun x=>x) n (i+1)) (fiL A n i++[pE (aW (j+1) (A i))]),40,35⟩
theorem BP{r:Ren}{hp hp':Nat→Option ABlk}{fr fr':Fr}{g:Nat}{cap:List AV}(hs:Shr r hp hp')(hcc:Closed (.clos g [] cap))(h:CvF r hp hp' fr fr':=by repeat' (first|exact aS|refine az rfl ?_ ?_|exact ao hs hcc|exact ao hs (ah _)|exact Cv.sl rfl rfl rfl|(refine Cv.loE hs ?_ (ah _);simp[i64];done))):CvF r hp hp' fr fr':=h
theorem FH(A:Nat→Nat→Rat)(n g:Nat)(cap:List AV)(hn:n≤25)(hcap:∀c∈cap,Closed c)(hg:∀i j:Nat,i< n→j< n→FS g ((i64 i::i64 j::cap).map coe) (.agg (qC (A i j)))):
    XSpecT Tryz.prog 143 [i64 n,.clos g [] cap] [] 1 (.lsl 1 0 n (some n) 1) (mzH 3 35 34 (mzO 3 (fun _=>n) (fun x=>x) n) (fiL A n n)) 40:=by
 have hcc:Closed (.clos g [] cap):=aU ag hcap;refine XSpecT.enter (t:=4) Tryz.func143 rfl (by kernel_rfl) rfl rfl rfl rfl rfl ?_;refine r_z 1 ?_;refine r_z 3 ?_;refine ae (r_z 3 ?_);refine aH (fun _:Unit=>fiE A n) (fun _=>True) ?_ ?_
 ·refine am (aD (fiO A n g cap) (fun i=>n- i) (fun i=>i≤n) 0 (Nat.zero_le _) ?_ ?_)
  rw[fiO.eq_1];refine SEntT.ent (SEntT.mz (fun x=>cond (Nat.beq x 1) 3 x) _ (List.replicate n [.emp]) _ (by simp) rfl (fun i j h1 h2 h3 h4 _=>by rw[mS] at h2 h4;omega) rfl (by rw[foE_0]) ?_ ?_ ?_);intro i e hi;exact absurd (ql hi).1 (by omega);intro hs;rw[foE_0];exact cv hs fun e he c hc=>by rw[(List.mem_replicate.1 he).2,List.mem_singleton] at hc;rw[hc];exact dD
  exact fun hs=>BP hs hcc;intro i hi;rw[fiO.eq_1];by_cases hlt:i< n;rotate_left;have hge:i=n:=by omega
  subst hge;refine q_z 1 ?_;refine ae (cF (aA ⟨(),trivial,?_⟩));refine SEntT.ent (SEntT.mz (fun x=>x) _ _ _ (by simp;omega) rfl (fun i j _ _ _ _ e=>e) rfl rfl ?_ ?_ ?_);intro k e hk;obtain⟨h1,rfl⟩:=ql hk;exact⟨dx (gw h1),aV _⟩;exact fun hs=>mC hs (by omega) fun k hk=>by rw[dx (gw hk)];rfl
  exact fun hs=>BP hs hcc;refine q_z 1 ?_;refine ae (cT (an (ae (am (r_z 2 ?_)))));refine r_z 2 ?_;refine AWp.cutB (fun _:Unit=>fiI A n g cap i n) (fun _=>True) ?_ ?_;refine am (aD (fiI A n g cap i) (fun j=>n- j) (fun j=>j≤n) 0 (Nat.zero_le _) ?_ ?_);rw[fiI.eq_1];refine SEntT.ent (SEntT.mz (fun x=>x) _ _ _ (by simp;omega) rfl (fun i j _ _ _ _ e=>e) rfl rfl ?_ ?_ ?_);intro k e hk;obtain⟨h1,rfl⟩:=ql hk;exact⟨dx (gw h1),aV _⟩;exact fun hs=>mC hs (by omega) fun k hk=>by rw[dx (gw hk)];rfl
  exact fun hs=>BP hs hcc;intro j hj;by_cases hjn:j< n
  ·have hg1:=hg i j hlt hjn
   cases j with
   |zero=>
    rw[fiI.eq_1];refine q_z 1 ?_;refine ae (cT (an (ae (am (r_z 2 ?_)))));refine r_d ba 14 ?_;refine a_5 ?_;refine ci (.load_l1 rfl rfl (foE_ge' (Nat.le_refl _) hlt _ (by omega)) TG.h rfl) rfl rfl ?_;refine c_s (hg1) ?_;refine a_3 ?_;refine fY (.store rfl rfl (foE_ge' (Nat.le_refl _) hlt _ (by omega)) rfl rfl rfl TS.h (nle rfl)) ?_;refine au (n_k ?_);refine r_m 2 ?_;refine a_z ?_;refine⟨0+1,by omega,by omega,?_⟩;rw[fiI.eq_2];refine SEntT.ent (SEntT.mz (fiR i 54) _ (foE (wJ n i (0+1)) (fiR i 54) n (i+1)) _ (by simp;omega) (BR _ _) (fun x y _ h2 _ h4 e=>rW (m:=40) (Nat.le_refl _) (by decide) x y (by simp at h2;omega) (by simp at h4;omega) e) ?_ ?_ ?_ ?_ ?_);rw[BQ,←fi_set0 hlt (0+((i:Nat):Int).toNat) (by omega)];rfl;rw[jn hlt,jn hlt];intro k e hk;rcases DU hk with⟨h1,rfl⟩|⟨rfl,rfl⟩
    ·rw[jH (by omega)]
     refine⟨?_,aV _⟩
     repeat rw[bH (by omega)]
     exact dx (gw h1)
    rw[oK];exact⟨rfl,aV _⟩
    exact fun hs=>mC hs (by omega) fun k hk=>by
     by_cases hki:k< i;rw[dx (tD hki)];rfl;obtain rfl:k=i:=by omega
     rw[dx rX];rfl
    exact fun hs=>BP hs hcc
   |succ j=>
    rw[fiI.eq_2];have hlen:(pE (aW (j+1) (A i))).length=j+1:=by simp[pE]
    have hrw:∀(k:Nat) (B:Option ABlk),k≠i+2→dW (ap ((k,B)::mzH 3 35 34 (foE (wJ n i (j+1)) (fun x=>x) n (i+1)) (fiL A n i++[pE (aW (j+1) (A i))]))) (i+2)=some ⟨34,3,pE (aW (j+1) (A i))⟩:=fun k B hk=>ew (by rw[bH hk];exact dx rX) (show(3:Nat)≠0 by decide);have hi53:(53:Nat)≠i+2:=by omega
    refine q_z 1 ?_;refine ae (cT (an (ae (am (r_z 2 ?_)))));refine r_d ba 14 ?_;refine a_5 ?_;refine ci (.load_l1 rfl rfl (foE_lt' (Nat.lt_succ_self _) Er _ (by omega)) TG.h rfl) rfl rfl ?_;refine c_s (hg1) ?_;refine a_1 ?_;refine o_2 (.append_l rfl rfl rfl te_35.h rfl rfl (hrw 53 _ hi53) rfl rfl hlen (fc _) (by rfl) rfl (.lsl rfl (nle rfl)) TZ.h rfl TB.h (by first|rfl|assumption|(simp;done)|(simp;omega)|omega) (by first|(simp[maxLen];done)|(simp[maxLen];omega))) ?_;refine a_1 ?_;refine fY (.store rfl rfl (foE_lt' (Nat.lt_succ_self _) Er _ (by omega)) rfl rfl rfl TS.h (nle rfl)) ?_;refine au (n_k ?_);refine r_m 2 ?_;refine a_z ?_;refine⟨j+1+1,by omega,by omega,?_⟩;rw[fiI.eq_2];refine SEntT.ent (SEntT.mz (fiR i 54) _ (foE (wJ n i (j+1+1)) (fiR i 54) n (i+1)) _ (by simp;omega) (BR _ _) (fun x y _ h2 _ h4 e=>rW (m:=40) (Nat.le_refl _) (by decide) x y (by simp at h2;omega) (by simp at h4;omega) e) ?_ ?_ ?_ ?_ ?_);rw[BQ,←fi_set hlt (0+((i:Nat):Int).toNat) (by omega)];rfl;rw[jn hlt,jn hlt];intro k e hk;rcases DU hk with⟨h1,rfl⟩|⟨rfl,rfl⟩
    ·rw[jH (by omega)]
     refine⟨?_,aV _⟩
     repeat rw[bH (by omega)]
     exact dx (tD h1)
    rw[oK];refine⟨?_,aV _⟩;rw[xJ (j+1),lO];rfl
    exact fun hs=>mC hs (by omega) fun k hk=>by
     by_cases hki:k< i;rw[dx (tD hki)];rfl;obtain rfl:k=i:=by omega
     rw[dx rX];rfl
    exact fun hs=>BP hs hcc
  have hge:j=n:=by omega
  obtain⟨j,rfl⟩:∃j',j=j'+1:=⟨j- 1,by omega⟩;rw[fiI.eq_2];refine q_z 1 ?_;refine ae (cF (aA ⟨(),trivial,?_⟩));rw[←hge,fiI.eq_2];refine SEntT.ent (SEntT.mz (fun x=>x) _ _ _ (by simp;omega) rfl (fun i j _ _ _ _ e=>e) rfl rfl ?_ ?_ ?_);intro k e hk;rcases DU hk with⟨h1,rfl⟩|⟨rfl,rfl⟩
  exact⟨dx (tD h1),aV _⟩;exact⟨dx rX,aV _⟩
  exact fun hs=>mC hs (by omega) fun k hk=>by
   by_cases hki:k< i;rw[dx (tD hki)];rfl;obtain rfl:k=i:=by omega
   rw[dx rX];rfl
  exact fun hs=>BP hs hcc;rintro _ _;obtain⟨m,rfl⟩:∃m,n=m+1:=⟨n- 1,by omega⟩;rw[fiI.eq_2,IT,GA (w:=wJ (m+1) i (m+1)) (w':=fun _=>m+1) (s':=fun x=>x) (fun k hk=>⟨by unfold wJ;cases Nat.blt k i <;> rfl,rfl⟩)];refine r_m 2 ?_;refine a_z ?_;refine⟨i+1,by omega,by omega,?_⟩;rw[fiO.eq_1];refine SEntT.ent (SEntT.mz (fun x=>x) _ _ _ (by simp;omega) rfl (fun i j _ _ _ _ e=>e) rfl rfl ?_ ?_ ?_);intro k e hk;obtain⟨h1,rfl⟩:=ql hk;exact⟨dx (gw h1),aV _⟩;exact fun hs=>mC hs (by omega) fun k hk=>by rw[dx (gw hk)];rfl
  exact fun hs=>BP hs hcc
 rintro _ _;show AWp _ _ _ _ ⟨[(5,.lsl 1 0 n (some n) 1)],mzH 3 35 34 (foE (fun _=>n) (fun x=>x) n n) (fiL A n n),40,35⟩;rw[foE_n];refine r_z 2 ?_;refine ak (FinXT.of (SEntT.mz (fun x=>x) _ _ _ (by simp;omega) rfl (fun i j _ _ _ _ e=>e) rfl rfl ?_ ?_ ?_));intro k e hk;obtain⟨h1,rfl⟩:=ql hk;exact⟨dx (gw h1),aV _⟩;exact fun hs=>sJ (by omega) fun k hk=>by rw[dx (gw hk)];rfl
 exact fun hs=>BP hs hcc
def inQ(p:List Rat)(a b:Rat):Rat:=af (ax p) b- af (ax p) a
structure OkIn (p:List Rat)(a b:Rat):Prop where
 s:smL p
 l:p.length≤1099511627775
 e1:fe (ax p) b
 e2:fe (ax p) a
 d:qs (af (ax p) b)+qs (af (ax p) a)≤549755813888
theorem uo(p:List Rat)(a b:Rat)(h:OkIn p a b):FS 71 [.arr (pE p),.agg (spC a b)] (.agg (qC (inQ p a b))):=by
 refine f_c Tryz.func71 ?_;refine r_z 2 ?_;refine r_c 3 (nY p h.s h.l) ?_;refine a_z ?_;refine ae (r_d ba 10 ?_);refine c_s (j8 _ b h.e1) ?_;refine c_s (j8 _ a h.e2) ?_;refine c_s (lE _ _ h.d) ?_;refine a_1 ?_;refine au (n_k ?_);exact ak (c_e (aP _))
def bKe(k:Ke):AV:= .aptr [[.arr (kE k)]] 0 0
def bSp(a b:Rat):AV:= .aptr [spC a b] 0 0
theorem fR(k:Ke):Closed (bKe k):=bC (ac (aX k) ag)
theorem cL(a b:Rat):Closed (bSp a b):=bC (bi a b)
theorem DG(k:Ke)(a b:Rat)(i j:Nat)(p q:List Rat×List Rat)(hp:k[i]?=some p)(hq:k[j]?=some q)(hl:k.length≤1000)(hm:fx p.2 q.1)(ho:OkIn (aJ p.2 q.1) a b):
    FS 144 [i64 i,i64 j,bKe k,bSp a b] (.agg (qC (inQ (aJ p.2 q.1) a b))):=by
 have e:(kE k).length=k.length:=ec k;have h1:i< k.length:=(List.getElem?_eq_some_iff.1 hp).1;have f:j< k.length:=(List.getElem?_eq_some_iff.1 hq).1;have d:(kE k)[((i:Nat):Int).toNat]?=some (prC p):=kM hp _ (by simp);have c:(kE k)[((j:Nat):Int).toNat]?=some (prC q):=kM hq _ (by simp);refine f_n Tryz.func144 ?_ ?_;exact ac (ah _) (ac (ah _) (ac (fR k) (ac (cL a b) ag)));refine r_z 1 ?_;refine ae (r_d ba 14 ?_);refine a_2 ?_;refine i_x d ?_;refine a_1 ?_;refine l_1 d ?_;refine a_2 ?_;refine i_x c ?_;refine a_1 ?_;refine l_1 c ?_;refine c_s (oI p.2 q.1 hm) ?_;refine c_s (uo _ a b ho) ?_;refine a_1 ?_;refine au (n_k ?_);exact ak (c_e (aP _))
def maK(k:Ke)(a b:Rat)(i j:Nat):Rat:=inQ (aJ (k.getD i ([],[])).2 (k.getD j ([],[])).1) a b
structure OkMa (k:Ke)(a b:Rat):Prop where
 l:k.length≤8
 m:∀p∈k,∀q∈k,fx p.2 q.1∧OkIn (aJ p.2 q.1) a b
theorem DE(k:Ke)(a b:Rat)(h:OkMa k a b)(i j:Nat)(hi:i< k.length)(hj:j< k.length):FS 144 ((i64 i::i64 j::[bKe k,bSp a b]).map coe) (.agg (qC (maK k a b i j))):=by
 obtain⟨p,hp⟩:∃p,k[i]?=some p:=⟨_,List.getElem?_eq_getElem hi⟩;obtain⟨q,c⟩:∃q,k[j]?=some q:=⟨_,List.getElem?_eq_getElem hj⟩;have d:=h.m p (List.mem_of_getElem? hp) q (List.mem_of_getElem? c);have e:maK k a b i j=inQ (aJ p.2 q.1) a b:=by unfold maK;rw[List.getD_eq_getElem?_getD,List.getD_eq_getElem?_getD,hp,c];rfl
 rw[e];exact DG k a b i j p q hp c (by have:=h.l;omega) d.1 d.2
theorem sM(k:Ke)(a b:Rat)(h:OkMa k a b):
    XSpecT Tryz.prog 92 [.arr (kE k),.agg (spC a b)] [] 1 (.lsl 1 0 k.length (some k.length) 1) (mzH 3 35 34 (mzO 3 (fun _=>k.length) (fun x=>x) k.length) (fiL (maK k a b) k.length k.length)) 40:=by
 have c:(kE k).length=k.length:=ec k;have n:=h.l;have g:=(FH (maK k a b) k.length 144 [bKe k,bSp a b] (by omega) (ac (fR k) (ac (cL a b) ag)) (DE k a b h)).x;refine XSpecT.enter (t:=4) Tryz.func92 rfl (by kernel_rfl) rfl rfl rfl rfl rfl ?_;refine r_z 3 ?_;refine AWp.ent (st':=⟨[(2,bKe k),(3,bSp a b)],[],1,9⟩) ?_ ?_;refine s_x [] (fun hs=>?_) (fun hs=>?_)
 ·repeat' (first|exact aS|refine az rfl ?_ ?_|exact Cv.boxp hs rfl (aQ rfl) rfl (ac (aX k) ag)|exact Cv.boxp hs rfl (aQ rfl) rfl (bi a b)|exact bm)
 ·repeat' (first|exact aI|refine h_c ?_ ?_|exact cu|refine aG ?_|exact aw|refine ai ?_ ?_|exact Cv.boxp hs rfl (aQ rfl) rfl (ac (aX k) ag)|exact Cv.boxp hs rfl (aQ rfl) rfl (bi a b)|exact bm)
 refine ae (AWp.regX (fr2:=[(6,i64 k.length),(7,.clos 144 [] [bKe k,bSp a b])]) (hp2:=[]) (nx2:=1) (fr3:=[]) 3 rfl rfl rfl rfl rfl rfl ?_ rfl rfl rfl g (fun t x d=>by cases d) (fun t x d=>by cases d) ?_);refine ci (.load_a1 rfl rfl TG.h rfl) rfl rfl ?_;refine ci (.len rfl rfl rfl rfl rfl te_27.h) rfl rfl ?_;refine o_0 (.makeFunc rfl rfl) ?_;refine au ?_;refine s_y [] (fun hs=>?_) (fun hs=>?_)
 ·repeat' (first|exact aS|refine az rfl ?_ ?_|exact ao hs (aU ag (ac (fR k) (ac (cL a b) ag)))|(refine Cv.loE hs ?_ (ah _);simp[i64,c];done)|exact bm)
 ·repeat' (first|exact aI|refine h_c ?_ ?_|exact cu|refine aG ?_|exact aw|refine ai ?_ ?_|exact ao hs (aU ag (ac (fR k) (ac (cL a b) ag)))|(refine Cv.loE hs ?_ (ah _);simp[i64,c];done)|exact bm)
 refine o_0 (.assign rfl) ?_;refine au ?_;refine ak (FinXT.of (SEntT.mz (fun x=>x) _ _ _ (by simp;omega) rfl (fun i j _ _ _ _ e=>e) rfl rfl ?_ ?_ ?_));intro m e f;obtain⟨h1,rfl⟩:=ql f;exact⟨dx (gw h1),aV _⟩;exact fun hs=>sJ (by omega) fun m f=>by rw[dx (gw f)];rfl
 exact fun hs=>az rfl (Cv.sl rfl rfl rfl) aS
def mE(k:List (List Rat)):List (List AV):=k.map fun e=>[.arr (pE e)]
@[simp] theorem F1 (k:List (List Rat)):(mE k).length=k.length:=by simp[mE]
theorem GI(k:List (List Rat)):∀x∈mE k,∀c∈x,Closed c:=fun x a=>by
 obtain⟨p,_,rfl⟩:=List.mem_map.1 a;exact ac (aC _) ag
theorem closed_mA(k:List (List Rat)):Closed (.arr (mE k)):=aK (GI k)
theorem zA{k:List (List Rat)}{i:Nat}{p:List Rat}(h:k[i]?=some p):∀e,e=i→(mE k)[e]?=some [.arr (pE p)]:=fun e a=>by
 rw[a,mE,List.getElem?_map,h];rfl
def imS(k:List (List Rat))(g:Nat)(cap:List AV):Nat→AState
 |i=>⟨[(0,.arr (mE k)),(1,.clos g [] cap),(7,i64 k.length),(8,i64 i)],[],1,19⟩
theorem Dt(k:List (List Rat))(g:Nat)(cap:List AV)(i:Nat):imS k g cap i=⟨[(0,.arr (mE k)),(1,.clos g [] cap),(7,i64 k.length),(8,i64 i)],[],1,19⟩:=rfl
theorem yl(k:List (List Rat))(g:Nat)(cap:List AV)(t:List Rat→Bool)(hcap:∀c∈cap,Closed c)(hl:k.length≤1099511627776)(hg:∀p∈k,FS g ((.arr (pE p)::cap).map coe) (bln (t p))):FS 141 [.arr (mE k),.clos g [] cap] (i64 (kN t k 0)):=by
 have j:Closed (.clos g [] cap):=aU ag hcap;have h:(mE k).length=k.length:=F1 k;refine f_c Tryz.func141 ?_;obtain⟨R,f⟩:∃R,R=kN t k 0:=⟨_,rfl⟩;rw[←f];refine r_z 1 ?_;refine ae (r_z 3 ?_);refine aH (fun _:Unit=>⟨[],[],1,19⟩) (fun _=>R= -1) ?_ ?_;refine am (aD (imS k g cap) (fun i=>k.length- i) (fun i=>i≤k.length∧kN t (k.drop i) i=R) 0 ⟨Nat.zero_le _,by rw[f];rfl⟩ ?_ ?_);simp only[Dt];exact s_x [] (fun hs=>e_42) (fun hs=>e_43);rintro i ⟨l,a⟩;rw[Dt];by_cases hlt:i< k.length;refine q_z 1 ?_;refine ae (cT (an ?_));obtain⟨p,hp⟩:∃p,k[i]?=some p:=⟨_,List.getElem?_eq_getElem hlt⟩;have b:(mE k)[((i:Nat):Int).toNat]?=some [.arr (pE p)]:=zA hp _ (by simp);rw[Ah hp,kN] at a;refine ae (am (r_z 2 ?_));refine s_r 6 ?_;refine a_3 ?_;refine i_x b ?_;refine l_1 b ?_;refine c_s (hg p (List.mem_of_getElem? hp)) ?_;refine au ?_;refine aq rfl (fun h1=>?_) (fun h1=>?_);have d:t p=true:=h1;rw[if_pos d] at a;refine r_z 2 ?_;refine ak (aY rfl ?_ ?_);rw[←a];exact ah _;have d:¬t p=true:=by rw[show t p=false from h1];decide
 rw[if_neg d] at a;refine an (r_m 2 ?_);refine a_z ?_;refine⟨i+1,by omega,⟨hlt,a⟩,?_⟩;simp only[Dt];exact s_x [] (fun hs=>e_42) (fun hs=>e_43);have e:i=k.length:=by omega
 subst e;refine q_z 1 ?_;refine ae (cF ?_);rw[List.drop_length] at a;refine aA ⟨(),a.symm,?_⟩;exact s_e [];rintro _ a;refine r_z 1 ?_;refine ak (aY rfl ?_ ?_);rw[a];rfl;exact ah _
theorem zX(k:List (List Rat))(g:Nat)(cap:List AV)(t:List Rat→Bool)(hcap:∀c∈cap,Closed c)(hl:k.length≤1099511627776)(hg:∀p∈k,FS g ((.arr (pE p)::cap).map coe) (bln (t p)))(hcap2:cap.map coe=cap):FS 122 [.arr (mE k),.clos g [] cap] (bln (k.any t)):=by
 have a:Closed (.clos g [] cap):=aU ag hcap;have e:=ry t k 0 (Int.le_refl 0);have b:=yl k g cap t hcap hl hg;refine f_c Tryz.func122 ?_;refine r_z 1 ?_;refine r_c 5 (b) ?_;refine a_z ?_;refine ak (aY rfl ?_ ?_);rw[←e];rfl;exact ah _
theorem DA(e:List Rat)(c:Nat)(x:Rat)(hx:e[c]?=some x):FS 142 [.arr (pE e),.aptr [[i64 c]] 0 0] (bln (decide (x≠0))):=by
 have b:c< e.length:=(List.getElem?_eq_some_iff.1 hx).1;have d:(pE e).length=e.length:=by simp[pE]
 have a:(pE e)[((c:Nat):Int).toNat]?=some (qC x):=by simp[pE,hx]
 refine f_c Tryz.func142 ?_;refine r_z 1 ?_;refine s_r 7 ?_;refine a_2 ?_;refine i_x a ?_;refine l_x a ?_;refine c_s (cx x) ?_;refine a_z ?_;refine ak (aY rfl ?_ ?_);rw[show decide (x≠0)=decide (sgZ x.num≠0) from decide_eq_decide.2 (not_congr sgZ_num_eq.symm)]
 first|rfl|(congr 1;cases hb:decide (sgZ x.num=0) with|true=>(have:=of_decide_eq_true hb;simp[this])|false=>(have:=of_decide_eq_false hb;simp[bln,bne,this]))
 exact ah _
def syX(rows leads:AV)(n:Int):Hp:=[(35,some ⟨125,3,[[rows,leads,i64 n]]⟩)]
theorem syX_id{rows leads:AV}{n:Int}:∀p∈syX rows leads n,35≤p.1∧p.1< 40:=fun p hp=>by rw[List.mem_singleton.1 hp];exact⟨(show 35≤35 by decide),(show 35< 40 by decide)⟩
def sx0:Hp:=syX .emp .emp 0
theorem eH:∀p∈sx0,35≤p.1∧p.1< 40:=syX_id
theorem C4 {fr fr':Fr} {hp:Hp} {nx N n:Nat} {R:Nat→List Rat} (s:Nat→Nat) (hn:n≤30) (s0:s 0=0) (hinj:∀i j,InX n i→InX n j→s i=s j→i=j) (h1:ap hp (s 1)=some ⟨35,1,rwO R s n⟩) (hr:∀i,i< n→ap hp (s (i+2))=some ⟨34,3,pE (R i)⟩) (h35:ap hp (s 35)=some ⟨125,3,[[.emp,.emp,i64 0]]⟩)
    (hF:Shr ⟨40,s⟩ (ap hp) (ap (rwH 35 34 R n sx0))→CvF ⟨40,s⟩ (ap hp) (ap (rwH 35 34 R n sx0)) fr fr'):SEnt ⟨fr,hp,nx,N⟩ ⟨fr',rwH 35 34 R n sx0,40,N⟩:=
 SEntT.ent (SEntT.rw s hn s0 hinj h1 hr eH (fun i B h=>by
  cases List.mem_singleton.1 h;exact⟨_,h35,rfl,rfl,rfl⟩) (fun hs i B a h hB=>by
  cases List.mem_singleton.1 h;have hB:ap hp (s 35)=some a:=hB;rw[h35] at hB;cases hB
  exact cv hs fun e b c hc=>by
   rw[List.mem_singleton.1 b] at hc;exact ac dD (ac dD (ac (ah _) ag)) c hc) hF)
theorem ot {fr fr':Fr} {hp:Hp} {nx N n:Nat} {R:Nat→List Rat} (hn:n≤30) (h1:ap hp 1=some ⟨35,1,rwO R (fun x=>x) n⟩) (hr:∀i,i< n→ap hp (i+2)=some ⟨34,3,pE (R i)⟩) (h35:ap hp 35=some ⟨125,3,[[.emp,.emp,i64 0]]⟩)
    (hF:Shr ⟨40,fun x=>x⟩ (ap hp) (ap (rwH 35 34 R n sx0))→CvF ⟨40,fun x=>x⟩ (ap hp) (ap (rwH 35 34 R n sx0)) fr fr'):SEnt ⟨fr,hp,nx,N⟩ ⟨fr',rwH 35 34 R n sx0,40,N⟩:=
 C4 (fun x=>x) hn rfl (fun _ _ _ _ e=>e) h1 hr h35 hF
theorem IS{i new x:Nat}(h:x≠i+2):fiR i new x=x:=by
 unfold fiR;rw[show Nat.beq x (i+2)=false by cases hb:Nat.beq x (i+2) with|false=>rfl|true=>exact absurd (Nat.eq_of_beq_eq_true hb) h];rfl
theorem tZ{n i:Nat}(hn:n≤30)(h:InX n i):i< 40:=by unfold InX at h;omega
theorem CQ{r:Ren}{hp hp':Nat→Option ABlk}{fr fr':Fr}{l:Rat}{b:List Rat}(hs:Shr r hp hp')(h:CvF r hp hp' fr fr':=by repeat' (first|exact aS|refine az rfl ?_ ?_|exact ao hs (aC b)|exact ao hs (b7 l)|exact ao hs (ah _)|exact Cv.sl rfl rfl rfl|exact Cv.ptr rfl rfl rfl|exact Cv.ptr rfl (by assumption) rfl|(refine Cv.loE hs ?_ (ah _);simp[i64];done))):CvF r hp hp' fr fr':=h
def svO(A:Nat→Nat→Rat)(l:Rat)(b:List Rat)(n:Nat):Nat→AState
 |i=>⟨[(0,.lsl 1 0 n (some n) 1),(2,.arr (pE b)),(4,bQ l),(6,.lptr 35 0 0),(7,i64 n),(22,i64 n),(23,i64 i)],rwH 35 34 (ph1 A l (fun t=>coP b t) n i) n sx0,40,209⟩
def svI(A:Nat→Nat→Rat)(l:Rat)(b:List Rat)(n i:Nat):Nat→AState
 |j=>⟨[(0,.lsl 1 0 n (some n) 1),(2,.arr (pE b)),(4,bQ l),(6,.lptr 35 0 0),(7,i64 n),(8,i64 i),(22,i64 n),(23,i64 i),(30,i64 n),(31,i64 j)],rwH 35 34 (upR (ph1 A l (fun t=>coP b t) n i) i (mxr A l n i j)) n sx0,40,209⟩
noncomputable def svRest:Code:=match Tryz.f91.body with|some (.seq _ (.seq _ (.seq _ y)))=>y|_=> .skip
theorem mzO_rwO(A:Nat→Nat→Rat)(n:Nat){s:Nat→Nat}(h:∀k,k< n→s (k+2)=k+2):mzO 3 (fun _=>n) (fun x=>x) n=rwO (fun k=>aW n (A k)) s n:=by
 refine List.ext_getElem? fun k=>?_;by_cases hk:k< n;rw[zr hk,eB hk k rfl,h k hk,uc];rw[rwO_out (by omega),List.getElem?_eq_none (by simp;omega)]
theorem sv_rows (A:Nat→Nat→Rat) (l:Rat) (b:List Rat) (n:Nat) (hn:n≤25) (hb:b.length=n) (r:AV)
    (hm:∀i j:Nat,i< n→j< n→qs (A i j)+qs l≤549755813888) (ha:∀i:Nat,i< n→qs (-(A i i* l))+1≤549755813887)
    (hrest:AWp none Tryz.prog svRest (Fin Tryz.prog Tryz.f91.results.toList r) ⟨[(0,.lsl 1 0 n (some n) 1),(6,.lptr 35 0 0),(7,i64 n)],rwH 35 34 (fun k=>aW (n+1) (svM A l (fun t=>coP b t) n k)) n sx0,40,209⟩):
    XSpec Tryz.prog 91 [.lsl 1 0 n (some n) 1,.agg (qC l),.arr (pE b)] (mzH 3 35 34 (mzO 3 (fun _=>n) (fun x=>x) n) (fiL A n n)) 40 r [] 1:=by
 refine XSpec.enterC Tryz.func91 rfl (by kernel_rfl) rfl rfl rfl rfl ?_;refine r_z 2 ?_;refine AWp.ent (st':=⟨[(0,.lsl 1 0 n (some n) 1),(2,.arr (pE b)),(4,bQ l),(6,.lptr 35 0 0)],rwH 35 34 (fun k=>aW n (A k)) n sx0,40,209⟩) ?_ ?_;refine C4 (fiR 33 41) (by omega) (BR _ _) (fun x y F K e=>rW (m:=40) (Nat.le_refl _) (by decide) x y (tZ (by omega) F) (tZ (by omega) K) e) ?_ ?_ rfl ?_;rw[BQ,←mzO_rwO A n (s:=fiR 33 41) fun k a=>jH (by omega)];rfl
 ·intro k a
  rw[jH (by omega)]
  repeat rw[bH (by omega)]
  exact dx (gw a)
 intro hs
 have Q:xi ⟨40,fiR 33 41⟩ (ap (rwH 35 34 (fun k=>aW n (A k)) n sx0)) 40:=fun j B O e=>by
  obtain⟨T⟩:=hs;have h1:j< 40:=(T j B O).1;have e:fiR 33 41 j=40:=e;unfold fiR at e;cases hb:Nat.beq j (33+2)<;> rw[hb] at e <;> simp only[cond_true,cond_false] at e <;> omega
 exact az rfl (Cv.sl rfl rfl rfl) (az rfl (ao hs (aC b)) (az rfl (Cv.boxp hs rfl Q rfl (a7 l)) (az rfl (Cv.ptr rfl rfl rfl) aS)));refine r_z 3 ?_;refine ae (r_z 3 ?_);refine aH (fun _:Unit=>⟨[(0,.lsl 1 0 n (some n) 1),(6,.lptr 35 0 0),(7,i64 n)],rwH 35 34 (fun k=>aW (n+1) (svM A l (fun t=>coP b t) n k)) n sx0,40,209⟩) (fun _=>True) ?_ ?_
 ·refine am (aD (svO A l b n) (fun i=>n- i) (fun i=>i≤n) 0 (Nat.zero_le _) ?_ ?_)
  rw[svO.eq_1,ph1_0];exact ot (by omega) (cD eH) (fun i q=>dN eH (by omega) q) rfl fun hs=>CQ (l:=l) (b:=b) hs;intro i q;rw[svO.eq_1];by_cases hlt:i< n;rotate_left;have o:i=n:=by omega
  subst o;refine q_z 1 ?_;refine ae (cF (aA ⟨(),trivial,?_⟩));refine ot (by omega) ?_ ?_ rfl fun hs=>CQ (l:=l) (b:=b) hs;rw[cD eH,gR (R':=fun k=>aW (i+1) (svM A l (fun t=>coP b t) i k)) (s':=fun x=>x)];intro k a;exact⟨by rw[ph1_n a],rfl⟩;intro k a;rw[dN eH (by omega) a,ph1_n a];refine q_z 1 ?_;refine ae (cT (an (ae (am (r_z 2 ?_)))));have g:(ph1 A l (fun t=>coP b t) n i i).length=n:=by rw[HP];simp
  have M:∀e,e=i→(rwO (ph1 A l (fun t=>coP b t) n i) (fun x=>x) n)[e]?=some [.lsl (i+2) 0 n none 3]:=fun e f=>by rw[eB hlt e f,g]
  refine ae (s_r 6 ?_);refine a_3 ?_;refine o_0 (.load_l1 rfl (ew (cD eH) (show(1:Nat)≠0 by decide)) (M _ (by omega)) TG.h rfl) ?_;refine a_z ?_;refine aH (fun _:Unit=>svI A l b n i n) (fun _=>True) ?_ ?_
  ·refine am (aD (svI A l b n i) (fun j=>n- j) (fun j=>j≤n) 0 (Nat.zero_le _) ?_ ?_)
   rw[svI.eq_1,←HP A l (fun t=>coP b t),upR_id];exact ot (by omega) (cD eH) (fun i q=>dN eH (by omega) q) rfl fun hs=>CQ (l:=l) (b:=b) hs;intro j O;rw[svI.eq_1];by_cases hjn:j< n;rotate_left;have o:j=n:=by omega
   subst o;refine q_z 1 ?_;refine ae (cF (aA ⟨(),trivial,?_⟩));exact ot (by omega) (cD eH) (fun i q=>dN eH (by omega) q) rfl fun hs=>CQ (l:=l) (b:=b) hs;have H:=cN (A i j) l (hm i j hlt hjn);have L:=nW (A i j* l);have c:=kH (TS:=35) (TQ:=34) (R:=upR (ph1 A l (fun t=>coP b t) n i) i (mxr A l n i j)) eH (by omega:n≤30) hlt;rw[eS] at c;have d:∀e,e=i→(rwO (upR (ph1 A l (fun t=>coP b t) n i) i (mxr A l n i j)) (fun x=>x) n)[e]?=some [.lsl (i+2) 0 n none 3]:=fun e f=>by rw[eB hlt e f,eS,wb]
   have v:=ew (cD (TS:=35) (TQ:=34) (n:=n) (R:=upR (ph1 A l (fun t=>coP b t) n i) i (mxr A l n i j)) eH) (show(1:Nat)≠0 by decide);refine q_z 1 ?_;refine ae (cT (an (ae (am (r_z 2 ?_)))));refine r_d ba 17 ?_;refine a_3 ?_;refine o_0 (.load_l1 rfl v (d _ (by omega)) TG.h rfl) ?_;refine a_4 ?_;refine o_0 (.load_l1 rfl v (d _ (by omega)) TG.h rfl) ?_;refine a_2 ?_;refine o_0 (.load_l rfl c (EV hjn _ (by omega)) TG.h TS.h (nle rfl)) ?_;refine c_s (H) ?_;refine c_s (L) ?_;refine a_1 ?_;refine fY (.store rfl c (EV hjn _ (by omega)) rfl rfl rfl TS.h (nle rfl)) ?_;refine au (n_k ?_);refine r_m 2 ?_;refine a_z ?_;refine⟨j+1,by omega,by omega,?_⟩;rw[svI.eq_1];refine ot (by omega) ?_ ?_ ?_ fun hs=>CQ (l:=l) (b:=b) hs;rw[bH (by omega),cD eH,gR (R':=upR (ph1 A l (fun t=>coP b t) n i) i (mxr A l n i (j+1))) (s':=fun x=>x)];intro k a;by_cases h:k=i;subst h;rw[eS,eS];simp;rw[lu _ _ h,lu _ _ h];simp;intro k a;by_cases h:k=i;subst h;rw[eS,←mxr_set hjn (0+((j:Nat):Int).toNat) (by omega),dq,a8];rfl;rw[bH (by omega),dN eH (by omega) a,lu _ _ h,lu _ _ h];rw[bH (by omega)];rfl
  rintro _ _;show AWp _ _ _ _ (svI A l b n i n);rw[svI.eq_1];have c:=kH (TS:=35) (TQ:=34) (R:=upR (ph1 A l (fun t=>coP b t) n i) i (mxr A l n i n)) eH (by omega:n≤30) hlt;rw[eS] at c;have d:∀e,e=i→(rwO (upR (ph1 A l (fun t=>coP b t) n i) i (mxr A l n i n)) (fun x=>x) n)[e]?=some [.lsl (i+2) 0 n none 3]:=fun e f=>by rw[eB hlt e f,eS,wb]
  have v:=ew (cD (TS:=35) (TQ:=34) (n:=n) (R:=upR (ph1 A l (fun t=>coP b t) n i) i (mxr A l n i n)) eH) (show(1:Nat)≠0 by decide);have D:=ej 1 (by decide);have hq1:qs 1≤1:=by decide
  have E:=fD (-(A i i* l)) 1 (by have:=ha i hlt;omega);refine ae (r_d ba 16 ?_);refine a_3 ?_;refine o_0 (.load_l1 rfl v (d _ (by omega)) TG.h rfl) ?_;refine a_4 ?_;refine o_0 (.load_l1 rfl v (d _ (by omega)) TG.h rfl) ?_;refine a_2 ?_;refine o_0 (.load_l rfl c (Bl hlt _ (by omega)) TG.h TS.h (nle rfl)) ?_;refine c_s (D) ?_;refine c_s (E) ?_;refine a_1 ?_;refine fY (.store rfl c (Bl hlt _ (by omega)) rfl rfl rfl TS.h (nle rfl)) ?_;refine au (n_k ?_);refine AWp.ent (st':=⟨[(0,.lsl 1 0 n (some n) 1),(2,.arr (pE b)),(4,bQ l),(6,.lptr 35 0 0),(7,i64 n),(8,i64 i),(22,i64 n),(23,i64 i)],rwH 35 34 (upR (ph1 A l (fun t=>coP b t) n i) i (dgr A l n i)) n sx0,40,209⟩) ?_ ?_;refine ot (by omega) ?_ ?_ ?_ fun hs=>CQ (l:=l) (b:=b) hs;rw[bH (by omega),cD eH,gR (R':=upR (ph1 A l (fun t=>coP b t) n i) i (dgr A l n i)) (s':=fun x=>x)];intro k a;by_cases h:k=i;subst h;rw[eS,eS];simp;rw[lu _ _ h,lu _ _ h];simp;intro k a;by_cases h:k=i;subst h;rw[eS,←mxr_one hlt (0+((k:Nat):Int).toNat) (by omega),dq,a8];rfl;rw[bH (by omega),dN eH (by omega) a,lu _ _ h,lu _ _ h];rw[bH (by omega)];rfl
  have u:∀(k:Nat) (B:Option ABlk),k≠i+2→dW (ap ((k,B)::rwH 35 34 (upR (ph1 A l (fun t=>coP b t) n i) i (dgr A l n i)) n sx0)) (i+2)=some ⟨34,3,pE (dgr A l n i)⟩:=fun k B a=>ew (by
   have:=dN (TS:=35) (TQ:=34) (R:=upR (ph1 A l (fun t=>coP b t) n i) i (dgr A l n i)) eH (by omega:n≤30) hlt;rw[eS] at this;rw[bH a];exact this) (show(3:Nat)≠0 by decide)
  have z:∀e,e=i→(rwO (upR (ph1 A l (fun t=>coP b t) n i) i (dgr A l n i)) (fun x=>x) n)[e]?=some [.lsl (i+2) 0 n none 3]:=fun e f=>by rw[eB hlt e f,eS,D4]
  have G:=ew (cD (TS:=35) (TQ:=34) (n:=n) (R:=upR (ph1 A l (fun t=>coP b t) n i) i (dgr A l n i)) eH) (show(1:Nat)≠0 by decide);have S:(pE b).length=n:=by simp[pE,hb]
  have w:(pE b)[((i:Nat):Int).toNat]?=some (qC (coP b i)):=by
   have:=cK (p:=b) (i:=i) (by omega);simp[pE,this]
  have J:(pE (dgr A l n i)).length=n:=by simp[pE]
  have C:(50:Nat)≠i+2:=by omega
  refine r_d ba 14 ?_;refine a_5 ?_;refine o_0 (.load_l1 rfl G (z _ (by omega)) TG.h rfl) ?_;refine a_2 ?_;refine i_x w ?_;refine l_x w ?_;refine a_1 ?_;refine o_2 (.append_l rfl rfl rfl te_35.h rfl rfl (u 50 _ C) rfl rfl J (fc _) (by rfl) rfl (.lsl rfl (nle rfl)) TZ.h rfl TB.h (by first|rfl|assumption|(simp;done)|(simp;omega)|omega) (by first|(simp[maxLen];done)|(simp[maxLen];omega))) ?_;refine a_1 ?_;refine fY (.store rfl rfl (z _ (by omega)) rfl rfl rfl TS.h (nle rfl)) ?_;refine au (n_k ?_);refine r_m 2 ?_;refine a_z ?_;refine⟨i+1,by omega,by omega,?_⟩;rw[svO.eq_1,←HO,←upR_up (ph1 A l (fun t=>coP b t) n i) i (dgr A l n i) (aW (n+1) (svM A l (fun t=>coP b t) n i))];have N:fiR i 51 35=35:=IS (by omega);refine C4 (fiR i 51) (by omega) (BR _ _) (fun x y F K e=>rW (m:=40) (Nat.le_refl _) (by decide) x y (tZ (by omega) F) (tZ (by omega) K) e) ?_ ?_ ?_ fun hs=>CQ (l:=l) (b:=b) hs;rw[BQ,←Hr (new:=51) (m:=n+1) hlt (by simp) (0+((i:Nat):Int).toNat) (by omega)];rfl;intro k a;by_cases h:k=i;subst h;rw[eS,oK,←dgr_app,lO];rfl
  ·rw[jH h,lu _ _ h]
   repeat rw[bH (by omega)]
   exact dN eH (by omega) a
  ·rw[IS (by omega)]
   repeat rw[bH (by omega)]
   rfl
 rintro _ _;exact hrest
theorem Hs(R:Nat→List Rat)(n:Nat):(rwL R n).map (fun e=>([.arr e]:List AV))=mE ((List.range n).map R):=by simp[rwL,mE]
theorem E0(k:List (List Rat))(a:Nat):(mE k).drop a=mE (k.drop a):=by simp[mE,List.map_drop]
def rwI(n:Nat):List Nat:=1::(List.range n).map (· +2)
theorem JD{r:Ren}{hp hp':Nat→Option ABlk}{cap:Option Nat}{TS TQ a m n:Nat}{R:Nat→List Rat}(hh:∀i∈rwI n,hp' i=hp i)(h1:hp 1=some ⟨TS,1,rwO R (fun x=>x) n⟩)(hr:∀i,i< n→hp (i+2)=some ⟨TQ,3,pE (R i)⟩)(ham:a+m=n):
    Cv r hp' (fun _=>none) (.lsl 1 a m cap 1) (.arr (mE (((List.range n).map R).drop a))):=by
 have e:mE (((List.range n).map R).drop a)=(((rwL R n).map fun e=>([.arr e]:List AV)).drop a).take m:=by
  rw[Hs,E0,List.take_of_length_le (by simp;omega)]
 rw[e];have f:(rwL R n).length=n:=pV R n;refine Cv.mzV (sz:=3) (TS:=TS) (TQ:=TQ) (w:=fun k=>(R k).length) (by decide) ?_ (fun i x b=>?_) (fun i x b=>by rw[(C5 b).2];simp[pE]) (fun x b y g c hc=>?_) (by rw[f];omega);rw[hh 1 (List.mem_cons_self ..),h1,f];rfl;obtain⟨d,rfl⟩:=C5 b;rw[hh (i+2) (List.mem_cons_of_mem _ (List.mem_map.2 ⟨i,List.mem_range.2 d,rfl⟩)),hr i d];obtain⟨k,_,rfl⟩:=List.mem_map.1 b;exact aV _ y g c hc
theorem fs_lead(R:Nat→List Rat)(n r c:Nat)(hn:n≤1000)(hl:∀i,i< n→c< (R i).length):
    FS 141 [.arr (mE (((List.range n).map R).drop r)),.clos 142 [] [.aptr [[i64 c]] 0 0]] (i64 (kN (fun e:List Rat=>decide (coP e c≠0)) (((List.range n).map R).drop r) 0)):=
 yl _ 142 [.aptr [[i64 c]] 0 0] _ (ac (bC (ac (ah _) ag)) ag) (by simp;omega) fun e b=>by
  obtain⟨i,a,rfl⟩:=List.mem_map.1 (List.mem_of_mem_drop b);exact DA _ c _ (cK (hl i (List.mem_range.1 a)))
theorem yf{α:Type}(t:α→Bool):∀(l:List α) (k:Int),(∀x∈l,t x=false)→kN t l k= -1
 |[],_,_=>rfl
 |a::l,k,h=>by
  rw[kN,if_neg (by rw[h a (List.mem_cons_self ..)];decide)];exact yf t l _ fun x b=>h x (List.mem_cons_of_mem _ b)
theorem E7{α:Type}(t:α→Bool):∀(l:List α) (k:Int) (j:Nat) (x:α),l[j]?=some x→t x=true→(∀i y,i< j→l[i]?=some y→t y=false)→kN t l k=k+j
 |[],_,_,_,h,_,_=>by cases h
 |a::l,k,0,x,h,h2,_=>by
  cases h;rw[kN,if_pos h2];simp
 |a::l,k,j+1,x,h,h2,h3=>by
  rw[kN,if_neg (by rw[h3 0 a (by omega) rfl];decide),E7 t l (k+1) j x (by simpa using h) h2 fun i y c b=>h3 (i+1) y (by omega) (by simpa using b)];omega
theorem y9{M:Mx}{n r i:Nat}(h:r+i< n):(((List.range n).map fun k=>aW (n+1) (M k)).drop r)[i]?=some (aW (n+1) (M (r+i))):=by
 rw[List.getElem?_drop];simp[h]
theorem coP_tab{n c:Nat}{f:Nat→Rat}(h:c≤n):coP (aW (n+1) f) c=f c:=by
 unfold coP aW;rw[List.getD_eq_getElem?_getD];simp[show c< n+1 by omega]
theorem idx_pv(M:Mx)(n r c:Nat)(hr:r≤n)(hc:c≤n):kN (fun e:List Rat=>decide (coP e c≠0)) (((List.range n).map fun k=>aW (n+1) (M k)).drop r) 0=match pvR M n r c with|some p=>((p- r:Nat):Int)|none=> -1:=by
 cases e:pvR M n r c with
 |none=>
  refine yf _ _ _ fun x h=>?_;obtain⟨i,d⟩:=List.mem_iff_getElem?.1 h
  have b:r+i< n:=by
   have:=(List.getElem?_eq_some_iff.1 d).1;simp at this;omega
  rw[y9 b] at d;cases d;rw[coP_tab hc,Bb e (r+i) b (by omega)];decide
 |some p=>
  obtain⟨p1,p2,l⟩:=qR e
  have a:∀q,q< p→r≤q→M q c=0:=fun q g j=>by
   have e2:=e;unfold pvR at e2;rw[List.find?_range_eq_some] at e2;have:=e2.2.2 q g;simp at this;exact this.resolve_left (by omega)
  rw[E7 _ _ 0 (p- r) (aW (n+1) (M p)) (by rw[y9 (by omega),show r+(p- r)=p by omega]) (by rw[coP_tab hc];exact decide_eq_true l) fun i y d f=>?_];simp;rw[y9 (by omega)] at f;cases f;rw[coP_tab hc,a (r+i) (by omega) (by omega)];decide
end Go.Proofs.YtkhclghbcicapaaGreatDoor
