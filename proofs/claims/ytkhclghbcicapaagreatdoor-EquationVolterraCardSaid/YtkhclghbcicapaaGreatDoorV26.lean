/- Part V26 of the proof. -/
import Derived.Test.YtkhclghbcicapaaGreatDoorV25
set_option linter.all false
namespace Go.Proofs.YtkhclghbcicapaaGreatDoor
open Go.Abs
set_option maxRecDepth 20000
set_option maxHeartbeats 2000000
theorem Fx{a b:Rat}(h:b≤a):dB a b≥0:=by
 unfold dB;rw[if_neg (by grind)];split <;> decide
theorem Hi:spC 0 0=[.arr [],bln false,.arr [],.arr [],bln false,.arr []]:=by unfold spC;rw[qC0];rfl
theorem mP(k:Ke)(l:Rat)(g:List Rat)(h:qZ k)(hg:cQ g≤20)(hgl:g.length≤1099511627776):FS 42 [.agg (eqC k l g++[.arr [],bln false,.arr [],.arr [],bln false,.arr []])] (bln false):=by
 have:=j7 k l g 0 0 h (by decide) (by decide) Rat.le_refl hg hgl;rw[Hi] at this;exact this
theorem Ip(k:Ke)(u:List Rat)(h:qV k 0 u)(hl:k.length≤1000):FS 45 [.arr (kE k),.agg [.arr [],bln false,.arr []],.arr (pE u)] (.arr (pE (upK k 0 u))):=by
 have:=Bx k 0 u h hl;rw[qC0] at this;exact this
structure OkSe (k:Ke)(l:Rat)(g:List Rat)(a:Rat)(n:Nat):Prop where
 ke:qZ k
 dg:cQ g≤20
 mv:∀p∈k,(iu [a,1] p.1∧p.1.length≤274877906944)∧iu [a,1] p.2∧p.2.length≤274877906944
 mg:iu [a,1] g
 gl:g.length≤274877906944
 sl:sm l
 sg:smL (ca [a,1] g)
 gl2:(ca [a,1] g).length≤1099511627776
 up:∀r,r≤n→qV (mvK a k) 0 (seK (mvK a k) (ca [a,1] g) l n r)
 us:∀r,r≤n→smL (upK (mvK a k) 0 (seK (mvK a k) (ca [a,1] g) l n r))∧(upK (mvK a k) 0 (seK (mvK a k) (ca [a,1] g) l n r)).length≤1099511627776
 ss:∀r,r≤n→smL (aL (upK (mvK a k) 0 (seK (mvK a k) (ca [a,1] g) l n r)) l)
def seS(k:Ke)(l:Rat)(g:List Rat)(a:Rat)(n:Nat):Nat→AState
 |r=>⟨[(2,i64 n),(9,.lptr 1 0 0),(10,.arr (pE (seK (mvK a k) (ca [a,1] g) l n r))),(29,i64 ((n:Int)+1)),(30,i64 r)],[(1,some ⟨38,5,[eqC (mvK a k) l (ca [a,1] g)]⟩)],2,47⟩
theorem yk(k:Ke)(l:Rat)(g:List Rat)(a:Rat)(n:Nat)(hn:n≤40)(hok:OkSe k l g a n):FS 9 [.agg (eqC k l g),.agg (qC a),i64 n] (.tup [.arr (pE (seK (mvK a k) (ca [a,1] g) l n (n+1))),i64 0]):=by
 have p:=cG k l g;have q:=cG (mvK a k) l (ca [a,1] g);have j:=hok.ke.1;have o:(mvK a k).length=k.length:=by simp[mvK]
 have i:=mP k l g hok.ke hok.dg (by have:=hok.gl;omega);have m:=Iz k l g a (by omega) hok.mv hok.mg hok.gl;refine f_c Tryz.func9 ?_;refine r_z 4 ?_;refine r_z 5 ?_;refine ae (am (r_c 3 (i) ?_));refine a_z ?_;refine cF (q_z 7 ?_);refine cF (an (r_c 6 (m) ?_));refine a_z ?_;refine r_z 1 ?_;refine ae (r_z 3 ?_);refine aH (fun _:Unit=>⟨[(10,.arr (pE (seK (mvK a k) (ca [a,1] g) l n (n+1))))],[],1,47⟩) (fun _=>True) ?_ ?_;refine am (aD (seS k l g a n) (fun r=>n+1- r) (fun r=>r≤n+1) 0 (Nat.zero_le _) ?_ ?_);simp only[seS.eq_1];exact s_f [(1,9)];intro r t;rw[seS.eq_1];by_cases hlt:r< n+1;have h:=Ip (mvK a k) _ (hok.up r (by omega)) (by omega);have b:=hok.us r (by omega);have f:=iq _ l b.1 hok.sl b.2;have d:=qj (ca [a,1] g) _ hok.sg (hok.ss r (by omega)) hok.gl2 (Nat.le_trans (dn _ _) b.2)
 have e:=fs_cut (fV (ca [a,1] g) (aL (upK (mvK a k) 0 (seK (mvK a k) (ca [a,1] g) l n r)) l)) n (by
  have h1:=kU (ca [a,1] g) (aL (upK (mvK a k) 0 (seK (mvK a k) (ca [a,1] g) l n r)) l);have s:=dn (upK (mvK a k) 0 (seK (mvK a k) (ca [a,1] g) l n r)) l;have:=hok.gl2;have:=b.2;omega) (by omega)
 refine q_z 1 ?_;refine ae (cT (an (ae (am (r_d ba 14 ?_)))));refine c_s (h) ?_;refine c_s (f) ?_;refine c_s (d) ?_;refine c_s (e) ?_;refine a_1 ?_;refine au (n_k ?_);refine r_m 2 ?_;refine a_z ?_;refine⟨r+1,by omega,by omega,?_⟩;simp only[seS.eq_1];rw[seK];exact s_f [(1,9)];have c:r=n+1:=by omega
 subst c;refine q_z 1 ?_;refine ae (cF (aA ⟨(),trivial,?_⟩));exact s_e [];rintro _ _;refine r_z 3 ?_;refine ak (Fin.many ⟨_,_,rfl,rfl,⟨_,_,rfl,rfl,rfl⟩⟩ (nle rfl) ?_);exact ai (ao ay (aC _)) (ai (ao ay (ah _)) aw)
theorem fs_size(p:List Rat)(lo hi:Rat)(v:Sp)(hR:FS 139 [.arr (pE p),.agg (spC lo hi),i64 10] (.tup [.agg (spC v.1 v.2),i64 0]))(h1:sm v.1)(h2:sm v.2):FS 88 [.agg (spC lo hi++[i64 10]),.arr (pE p)] (.agg (qC (tW v))):=by
 have a:∀c∈spC lo hi++[i64 10],Closed c:=fun c hc=>(List.mem_append.1 hc).elim (bi lo hi c) (ac (ah _) ag c);refine f_c Tryz.func88 ?_;refine r_z 2 ?_;refine r_c 12 (hR) ?_;refine a_z ?_;refine r_c 4 (Fe v h1 h2) ?_;refine a_z ?_;exact ak (c_e (aP _))
def stZ(al be:Nat→Rat):Nat→Rat
 |0=>0
 |i+1=>stZ al be i+al i* be i
def zkS(k:Ke)(E:List AV)(w lo hi:Rat)(al be:Nat→Rat):Nat→AState
 |i=>⟨[(4,.lptr 1 0 0),(7,.lptr 2 0 0),(10,.lptr 3 0 0),(11,.lptr 4 0 0),(29,.arr (kE k)),(30,i64 k.length),(31,i64 i)],[(1,some ⟨38,5,[E]⟩),(2,some ⟨34,3,[qC w]⟩),(3,some ⟨156,7,[spC lo hi++[i64 10]]⟩),(4,some ⟨34,3,[qC (stZ al be i)]⟩)],5,91⟩
def znS(z g w:Rat):Nat→AState
 |n=>⟨[(11,.lptr 1 0 0),(14,.lptr 2 0 0),(15,.lptr 3 0 0),(16,.lptr 4 0 0),(64,i64 n)],[(1,some ⟨34,3,[qC z]⟩),(2,some ⟨34,3,[qC (stL z g n)]⟩),(3,some ⟨34,3,[qC (stR w n)]⟩),(4,some ⟨34,3,[qC ((2:Int):Rat)]⟩)],5,91⟩
theorem It (k:Ke) (l:Rat) (g:List Rat) (a x w:Rat) (al be:Nat→Rat) (ga:Rat) (B:Nat) (hkl:k.length≤8) (ha:sm a) (hx:sm x) (hw:qs w≤B) (hl:qs l≤B) (hB1:1≤B) (hB:B≤1000000)
    (hA:∀i p,k[i]?=some p→FS 88 [.agg (spC (eV [a,x]) (dM [a,x])++[i64 10]),.arr (pE p.1)] (.agg (qC (al i)))∧FS 88 [.agg (spC (eV [a,x]) (dM [a,x])++[i64 10]),.arr (pE p.2)] (.agg (qC (be i)))∧qs (al i)≤B∧qs (be i)≤B)
    (hG:FS 88 [.agg (spC (eV [a,x]) (dM [a,x])++[i64 10]),.arr (pE g)] (.agg (qC ga))∧qs ga≤B) (hlo:qs (eV [a,x])≤B) (hhi:qs (dM [a,x])≤B):
    ∃(n:Nat) (ok:Bool),FS 55 [.agg (eqC k l g),.agg (qC a),.agg (qC x),.agg (qC w)] (.tup [i64 n,bln ok])∧(ok=true→n≤40∧stP (stZ al be k.length* eN l* (dM [a,x]- eV [a,x])) (ga* ((4:Int):Rat)) w n=true):=by
 have hcl:=cG k l g;have hkk:(kE k).length=k.length:=ec k;obtain⟨lo,y⟩:∃lo,lo=eV [a,x]:=⟨_,rfl⟩;obtain⟨c,E⟩:∃c,c=dM [a,x]:=⟨_,rfl⟩;have r:=zU [a,x] (mI ha hx) (by simp);have q:=tz [a,x] (mI ha hx) (by simp);rw[←y] at r hA hG hlo⊢;rw[←E] at q hA hG hhi⊢
 have zq:∀i,i≤k.length→qs (stZ al be i)≤1+i* (2* B+1):=fun i=>by
  induction i with
  |zero=>intro _;rw[stZ];exact Nat.le_trans (by decide:qs 0≤1) (by omega)
  |succ i ih=>
   intro c;obtain⟨p,hp⟩:∃p,k[i]?=some p:=⟨_,List.getElem?_eq_getElem c⟩;obtain⟨_,_,q1,q2⟩:=hA i p hp;have h1:=ih (by omega);have D:=fX (stZ al be i) (al i* be i);have h3:=dk (al i) (be i);rw[stZ,Nat.succ_mul];omega
 have U:∀i,i≤k.length→qs (stZ al be i)≤17* B+9:=fun i c=>by
  have h1:=zq i c;have D:i* (2* B+1)≤8* (2* B+1):=Nat.mul_le_mul_right _ (by omega);omega
 obtain⟨z,S⟩:∃z,z=stZ al be k.length* eN l* (c- lo):=⟨_,rfl⟩;have hal:qs (eN l)≤B:=by rw[show qs (eN l)=qs l from by rw[nf];split;exact fv l;rfl];exact hl
 have hwd:qs (c- lo)≤2* B+1:=by
  have h1:=fX c (-lo);rw[fv,←Rat.sub_eq_add_neg] at h1;omega
 have hz1:qs (stZ al be k.length* eN l)≤18* B+9:=by
  have h1:=dk (stZ al be k.length) (eN l);have:=U k.length (Nat.le_refl _);omega
 have J:qs z≤20* B+10:=by
  have h1:=dk (stZ al be k.length* eN l) (c- lo);rw[S];omega
 rw[←S];obtain⟨b,t⟩:∃b,b=ga* ((4:Int):Rat):=⟨_,rfl⟩;have h4:qs ((4:Int):Rat)≤3:=by decide
 have h2q:qs ((2:Int):Rat)≤2:=by decide
 have F:qs b≤B+3:=by
  have:=dk ga ((4:Int):Rat);have:=hG.2;rw[t];omega
 rw[←t]
 obtain⟨n,ok,G,A,H⟩:∃(n:Nat) (ok:Bool),n≤40∧(∀m,m≤41→(∀j,j< m→stP z b w j=false)→(m=41∨stP z b w m=true)→(n=if m=41 then 0 else m)∧ok=decide (m≠41))∧(ok=true→stP z b w n=true):=by
  by_cases hex:∃m,m≤40∧stP z b w m=true;obtain⟨m0,hm0,T⟩:=hex;obtain⟨d,d1,d2,d3⟩:=leastN (P:=fun m=>stP z b w m=true) m0 T;refine⟨d,true,by omega,fun m K hb f=>?_,fun _=>d2⟩
  have:m=d:=by
   by_cases h1:d< m;have:=hb d h1;rw[d2] at this;cases this;rcases f with f|f
   omega;exact Nat.le_antisymm (Nat.le_of_not_lt fun D=>by omega) (Nat.le_of_not_lt fun D=>d3 m D f)
  subst this;rw[if_neg (by omega)];exact⟨rfl,(decide_eq_true (by omega)).symm⟩;refine⟨0,false,by omega,fun m K hb f=>?_,fun h=>by cases h⟩
  have:m=41:=by
   rcases f with f|f
   exact f;by_cases h1:m≤40;exact absurd ⟨m,h1,f⟩ hex;omega
  subst this;exact⟨rfl,rfl⟩
 refine⟨n,ok,?_,fun h=>⟨G,H h⟩⟩;refine f_c Tryz.func55 ?_;refine r_z 6 ?_;refine ae (r_d ba 12 ?_);refine a_3 ?_;refine o_1 (.callS1 rfl rfl rfl (.shut rfl d_n (.nil)) rfl (r)) ?_;refine a_3 ?_;refine o_1 (.callS1 rfl rfl rfl (.shut rfl d_n (.nil)) rfl (q)) ?_;refine a_4 ?_;refine au (n_k ?_);refine r_z 1 ?_;refine ae (r_z 4 ?_);refine aH (fun _:Unit=>zkS k (eqC k l g) w lo c al be k.length) (fun _=>True) ?_ ?_;refine am (aD (zkS k (eqC k l g) w lo c al be) (fun i=>k.length- i) (fun i=>i≤k.length) 0 (Nat.zero_le _) ?_ ?_);rw[zkS.eq_1,stZ,qC0];exact s_x [(1,4),(2,7),(3,10),(4,11)] (fun hs=>e_17) (fun hs=>e_18);intro i V;rw[zkS.eq_1];by_cases hlt:i< k.length;obtain⟨p,hp⟩:∃p,k[i]?=some p:=⟨_,List.getElem?_eq_getElem hlt⟩;obtain⟨a1,a2,q1,q2⟩:=hA i p hp;have C:(kE k)[((i:Nat):Int).toNat]?=some (prC p):=kM hp _ (by simp);have M:=cN (al i) (be i) (by omega);have L:=fD (stZ al be i) (al i* be i) (by have:=U i V;have:=dk (al i) (be i);omega);refine q_z 1 ?_;refine ae (cT (an (ae (am (s_r 4 ?_)))));refine i_x C ?_;refine l_x C ?_;refine a_z ?_;refine r_d ba 12 ?_;refine c_s (a1) ?_;refine c_s (a2) ?_;refine c_s (M) ?_;refine c_s (L) ?_;refine a_1 ?_;refine au (n_k ?_);refine r_m 2 ?_;refine a_z ?_;refine⟨i+1,by omega,by omega,?_⟩;rw[zkS.eq_1,stZ];exact s_x [(1,4),(2,7),(3,10),(4,11)] (fun hs=>e_17) (fun hs=>e_18);have s:i=k.length:=by omega
 subst s;refine q_z 1 ?_;refine ae (cF (aA ⟨(),trivial,?_⟩));simp only[zkS.eq_1];exact s_x [(1,4),(2,7),(3,10),(4,11)] (fun hs=>e_17) (fun hs=>e_18);rintro _ _;have m1:=cN (stZ al be k.length) (eN l) (by have:=U k.length (Nat.le_refl _);omega);have m2:=tw lo c (by unfold sm;omega) (by unfold sm;omega);have m3:=cN (stZ al be k.length* eN l) (c- lo) (by omega);rw[←S] at m3;have X:=cN ga ((4:Int):Rat) (by have:=hG.2;omega);rw[←t] at X;rw[zkS.eq_1];refine ae (r_d ba 10 ?_);refine c_s (qi l) ?_;refine c_s (m1) ?_;refine c_s (m2) ?_;refine c_s (m3) ?_;refine a_1 ?_;refine au (n_k ?_);refine r_c 8 (hG.1) ?_;refine c_s (ej 4 (by decide)) ?_;refine c_s (X) ?_;refine a_z ?_;refine r_z 3 ?_;refine r_c 3 (ej 2 (by decide)) ?_;refine a_z ?_;refine ae (r_z 1 ?_);refine aH (fun _:Unit=>⟨[],[],1,91⟩) (fun _=>n=0∧ok=false) ?_ ?_;refine am (aD (znS z b w) (fun m=>41- m) (fun m=>m≤41∧∀j,j< m→stP z b w j=false) 0 ⟨Nat.zero_le _,fun j Y=>by omega⟩ ?_ ?_);rw[znS.eq_1,stL,stR];exact s_e [(1,11),(2,14),(3,15),(4,16)];rintro m ⟨K,hb⟩;rw[znS.eq_1];by_cases hlt:m< 41;have lq:=CV J F m;have lq1:=CV J F (m+1);have rq:=CU hw m (by omega);have rq1:=CU hw (m+1) (by omega);have e1:m* (20* B+10)≤41* (20* B+10):=Nat.mul_le_mul_right _ (by omega);have e2:(m+1) * (20* B+10)≤41* (20* B+10):=Nat.mul_le_mul_right _ (by omega);have c1:(((m:Int)+1:Int):Rat)=(((m+1:Nat):Int):Rat):=rfl;have c2:(((m:Int)+2:Int):Rat)=(((m+2:Nat):Int):Rat):=rfl;have i1:=ej ((m:Int)+1) (by omega);have i2:=ej ((m:Int)+2) (by omega)
 rw[c1] at i1;rw[c2] at i2
 have q8:∀j:Nat,j≤43→qs ((j:Int):Rat)≤8:=fun j Y=>by
  unfold qs;show max (bl (j:Int).natAbs) (bl 1)≤8;have h1:bl (j:Int).natAbs≤8:=ez (by omega);have D:bl 1≤8:=by decide
  omega
 have u1:=cN (stL z b m) z (by omega);have u2:=cN (stR w m) (((m+1:Nat):Int):Rat) (by have:=q8 (m+1) (by omega);omega);have N:=cN z ((2:Int):Rat) (by omega);have zz:=dk z ((2:Int):Rat);have R:=qg (((m+2:Nat):Int):Rat) (z* ((2:Int):Rat)) (by have:=q8 (m+2) (by omega);unfold sm;omega) (by unfold sm;omega);have Z:=qg (stL z b (m+1)) (stR w (m+1)) (by unfold sm;omega) (by unfold sm;omega);have two:((2:Int):Rat)=2:=rfl;refine q_z 1 ?_;refine ae (cT (an (ae (am (r_z 2 ?_)))));refine ae (r_d ba 10 ?_);refine c_s (u1) ?_;refine c_s (i1) ?_;refine c_s (u2) ?_;refine a_2 ?_;refine au (n_k ?_);by_cases hP:stP z b w m=true;have o:=hP;unfold stP at o;rw[Bool.and_eq_true] at o;have W:=of_decide_eq_true o.1;have O:=of_decide_eq_true o.2;obtain⟨u,v⟩:=A m K hb (.inr hP);rw[if_neg (by omega)] at u;rw[decide_eq_true (by omega)] at v;refine ae (r_d ba 14 ?_);refine c_s (i2) ?_;refine c_s (N) ?_;refine c_s (R) ?_;refine o_0 (.bin rfl rfl (vT jU (decide_eq_true (Fx (by rw[two];grind))))) ?_;refine c_s (Z) ?_;refine bK rfl rfl rfl (.bin rfl rfl (vT dH (decide_eq_true (cmpQ_le.2 O)))) rfl rfl ?_;refine a_1 ?_;refine au (n_k ?_);refine cT (r_z 3 ?_);refine ak ?_;rw[u,v];refine Fin.many ⟨_,_,rfl,rfl,⟨_,_,rfl,rfl,rfl⟩⟩ (nle rfl) ?_;exact ai (ao ay (ah _)) (ai (ao ay (ah _)) aw);have Q:stP z b w m=false:=by simpa using hP
 have nx:∀j,j< m+1→stP z b w j=false:=fun j Y=>by
  by_cases e:j=m;rw[e];exact Q;exact hb j (by omega)
 by_cases W:z* ((2:Int):Rat)≤(((m+2:Nat):Int):Rat)
 have O:¬stL z b (m+1)≤stR w (m+1):=fun e=>by
  apply hP;unfold stP;rw[decide_eq_true (show z* 2≤_ from by rw[←two];exact W),decide_eq_true e];rfl
 refine ae (r_d ba 14 ?_);refine c_s (i2) ?_;refine c_s (N) ?_;refine c_s (R) ?_;refine o_0 (.bin rfl rfl (vT jU (decide_eq_true (Fx (by grind))))) ?_;refine c_s (Z) ?_;refine bK rfl rfl rfl (.bin rfl rfl (vF dH (decide_eq_false (fun e=>O (cmpQ_le.1 e))))) rfl rfl ?_;refine a_1 ?_;refine au (n_k ?_);refine cF (an (r_m 2 ?_));refine a_z ?_;refine⟨m+1,by omega,⟨by omega,nx⟩,?_⟩;rw[znS.eq_1,stL,stR];exact s_e [(1,11),(2,14),(3,15),(4,16)];refine ae (r_d ba 14 ?_);refine c_s (i2) ?_;refine c_s (N) ?_;refine c_s (R) ?_;refine o_0 (.bin rfl rfl (vF jU (decide_eq_false (by have:=cmpQ_lt.2 (show(((m+2:Nat):Int):Rat)< z* ((2:Int):Rat) by grind);omega)))) ?_;refine d_6 ?_;refine au (n_k ?_);refine cF (an (r_m 2 ?_));refine a_z ?_;refine⟨m+1,by omega,⟨by omega,nx⟩,?_⟩;rw[znS.eq_1,stL,stR];exact s_e [(1,11),(2,14),(3,15),(4,16)];have s:m=41:=by omega
 subst s;obtain⟨u,v⟩:=A 41 (Nat.le_refl _) hb (.inl rfl);refine q_z 1 ?_;refine ae (cF (aA ⟨(),⟨u,v⟩,?_⟩));exact s_e [];rintro _ ⟨u,v⟩;refine r_z 2 ?_;refine ak ?_;rw[u,v];refine Fin.many ⟨_,_,rfl,rfl,⟨_,_,rfl,rfl,rfl⟩⟩ (nle rfl) ?_;exact ai (ao ay (ah _)) (ai (ao ay (ah _)) aw)
abbrev bEq(k:Ke)(l:Rat)(g:List Rat):AV:= .aptr [eqC k l g] 0 0
theorem em(k:Ke)(l:Rat)(g:List Rat):Closed (bEq k l g):=bC (cG k l g)
def teT(k:Ke)(l:Rat)(g:List Rat)(a:Rat)(j:Nat):Option (List AV):=some [.arr (pE (teK k g l a j))]
structure OkTe (k:Ke)(l:Rat)(a:Rat)(u:List Rat):Prop where
 up:qV k a u
 us:smL (upK k a u)
 ul:(upK k a u).length≤1099511627776
theorem Ij(k:Ke)(l:Rat)(g:List Rat)(a:Rat)(K:Nat)(hkl:k.length≤1000)(hl:sm l)(hok:∀j,j< K→OkTe k l a (teK k g l a j)):GSpecB Tryz.prog 114 [bEq k l g,bQ a] (teT k l g a) K:=by
 have f:=cG k l g;have e:Closed (bEq k l g):=em k l g;refine GSpecB.enter Tryz.func114 rfl (by kernel_rfl) rfl rfl rfl ?_ ?_ rfl ?_;exact ac (em k l g) (ac (b7 a) ag);intro j xs h;cases h;exact ac (aC _) ag;intro ll N hN E;refine GWp.seq ?_;refine GWp.lift ?_;refine r_m 3 ?_;refine a_z ?_;refine GWp.block ?_;refine GWp.loopS (fun j:Nat=>⟨[(0,.v (.func (.yield ll) #[] #[])),(1,bEq k l g),(2,bQ a),(4,.arr (pE (teK k g l a j)))],[],1,18⟩) (fun j=>j) (fun j=>N+1- j) (fun j=>j≤N) 0 (Nat.zero_le _) rfl ?_ ?_;have:=em k l g;exact s_f [];intro j i;refine GWp.seq ?_;refine GWp.seq ?_;refine GWp.regY (fr2:=[(0,.v (.func (.yield ll) #[] #[])),(1,bEq k l g),(2,bQ a),(4,.arr (pE (teK k g l a j))),(7,.v (.func (.yield ll) #[] #[])),(8,.arr (pE (teK k g l a j)))]) (hp2:=[]) (nx2:=1) 2 rfl rfl rfl rfl rfl rfl ?_ rfl rfl rfl ?_ ?_ ?_;refine o_0 (.move rfl) ?_;refine o_0 (.move rfl) ?_;refine au ?_;exact s_y [] (fun hs=>eA) (fun hs=>kX);rotate_left 2;intro c;refine au ?_;rotate_left;rfl;exact ac (aC _) ag;cases c with
 |false=>
  refine GWp.cond rfl (fun h=>?_) (fun h=>?_);cases h;exact GWp.exit ⟨.inl rfl,fun h=>by cases h⟩
 |true=>
  refine GWp.bound fun b=>?_;refine GWp.cond rfl (fun h=>?_) (fun h=>?_);rotate_left;cases h;refine GWp.skip ?_;have ok:=hok j (by omega);have h1:=Bx k a _ ok.up hkl;have d:=iq _ l ok.us hl ok.ul;refine GWp.lift ?_;refine am (r_d ba 9 ?_);refine c_s (h1) ?_;refine c_s (d) ?_;refine a_1 ?_;refine au (n_k ?_);refine⟨rfl,j+1,by omega,b,rfl,?_⟩;rw[teK];have:=em k l g;exact s_f []
theorem Ir(k:Ke)(l:Rat)(g:List Rat)(a:Rat):FS 56 [.agg (eqC k l g),.agg (qC a)] (.clos 114 [] [bEq k l g,bQ a]):=by
 have b:=cG k l g;refine f_c Tryz.func56 ?_;refine r_z 3 ?_;refine r_z 2 ?_;refine ak (⟨.inr rfl,[_],⟨_,[],rfl,rfl,rfl⟩,?_⟩);exact Cv.clos aw (ai (Cv.boxp ay rfl (fun _ _ h=>by cases h) rfl b) (ai (Cv.boxp ay rfl (fun _ _ h=>by cases h) rfl (a7 a)) aw))
structure OkVa (k:Ke)(l:Rat)(g:List Rat)(a x w:Rat)(n B:Nat):Prop where
 ke:qZ k
 dg:cQ g≤20
 gl:g.length≤1099511627776
 sl:sm l
 wp:0< w
 te:∀j,j< n→OkTe k l a (teK k g l a j)
 ev:∀j,j≤n→fe (teK k g l a j) x
 su:∀j,j≤n+1→qs (suK k g l a x j)≤B
 eq:∀j,j≤n→qs (af (teK k g l a j) x)≤B
 wq:qs w≤B
 b:B≤100000000000
def vlS(k:Ke)(l:Rat)(g:List Rat)(a x w:Rat)(n:Nat):Nat→AState
 |j=>⟨[(6,.lptr 1 0 0),(7,.lptr 2 0 0),(8,.lptr 3 0 0),(11,.lptr 4 0 0),(13,.lptr 5 0 0),(40,.clos 114 [] [bEq k l g,bQ a])],[(1,some ⟨34,3,[qC x]⟩),(2,some ⟨34,3,[qC w]⟩),(3,some ⟨40,6,[zC++zC]⟩),(4,some ⟨3,1,[[i64 ((n:Int)- (j:Int))]]⟩),(5,some ⟨34,3,[qC (suK k g l a x j)]⟩)],6,61⟩
def vlX(k:Ke)(l:Rat)(g:List Rat)(a x w:Rat)(n:Nat):Unit→AState
 |u=>⟨[(7,.lptr 2 0 0),(8,.lptr 3 0 0),(13,.lptr 5 0 0)],[(2,some ⟨34,3,[qC w]⟩),(3,some ⟨40,6,[zC++zC]⟩),(5,some ⟨34,3,[qC (suK k g l a x (n+1))]⟩)],6,61⟩
theorem Gp(k:Ke)(l:Rat)(g:List Rat)(a x w:Rat)(n:Nat)(hke:qZ k)(hdg:cQ g≤20)(hgl:g.length≤1099511627776)(wp:0< w)(hst:FS 55 [.agg (eqC k l g),.agg (qC a),.agg (qC x),.agg (qC w)] (.tup [i64 n,bln false])):
    FS 17 [.agg (eqC k l g),.agg (qC a),.agg (qC x),.agg (qC w)] (.tup [.agg (spC 0 0),i64 5]):=by
 have c:=cG k l g;have b:=mP k l g hke hdg hgl;refine f_c Tryz.func17 ?_;refine r_z 6 ?_;refine r_z 5 ?_;refine ae (r_c 7 (b) ?_);refine c_s (cx w) ?_;refine bK rfl rfl rfl (.bin rfl rfl (vF dH (decide_eq_false (by have:=sgZ_num_gt.2 wp;omega)))) rfl rfl ?_;refine a_z ?_;refine cF (an (r_c 11 (hst) ?_));refine a_z ?_;refine ae (r_z 2 ?_);refine cT (r_z 3 ?_);refine ak ?_;rw[Hi];refine Fin.many ⟨_,_,rfl,⟨_,_,_,_,_,rfl,rfl,rfl,.inl ⟨TG.h,_,TS.h,nle rfl,rfl⟩⟩,⟨_,_,rfl,rfl,rfl⟩⟩ (nle rfl) ?_;exact ai (Cv.agg (ai (Cv.emp _) (ai (ao ay (ah _)) (ai (Cv.emp _) (ai (Cv.emp _) (ai (ao ay (ah _)) (ai (Cv.emp _) aw))))))) (ai (ao ay (ah _)) aw)
theorem IK(k:Ke)(l:Rat)(g:List Rat)(a x w:Rat)(n B:Nat)(hn:n≤40)(ok:OkVa k l g a x w n B)(hst:FS 55 [.agg (eqC k l g),.agg (qC a),.agg (qC x),.agg (qC w)] (.tup [i64 n,bln true])):
    FS 17 [.agg (eqC k l g),.agg (qC a),.agg (qC x),.agg (qC w)] (.tup [.agg (spC (suK k g l a x (n+1)- w/ 2) (suK k g l a x (n+1)+w/ 2)),i64 0]):=by
 have r:=cG k l g;have o:Closed (bEq k l g):=em k l g;have i:=ok.ke.1;have hb:=ok.b;have q:=mP k l g ok.ke ok.dg ok.gl;have f:=Ij k l g a n (by omega) ok.sl ok.te;refine f_c Tryz.func17 ?_;refine r_z 6 ?_;refine r_z 5 ?_;refine ae (r_c 7 (q) ?_);refine c_s (cx w) ?_;refine bK rfl rfl rfl (.bin rfl rfl (vF dH (decide_eq_false (by have:=sgZ_num_gt.2 ok.wp;omega)))) rfl rfl ?_;refine a_z ?_;refine cF (an (r_c 11 (hst) ?_));refine a_z ?_;refine ae (r_z 2 ?_);refine cF (an (r_z 1 ?_));refine ae (r_c 3 (Ir k l g a) ?_);refine au ?_;refine aH (vlX k l g a x w n) (fun _=>True) ?_ ?_;refine am (AWp.rangeFuncB (α:=Nat) (γ:=Unit) n (vlS k l g a x w n) (fun j=>j) (fun j=>j≤n) (vlX k l g a x w n) (fun e _=>e= .exit 0) 0 rfl f rfl rfl ?_ (fun _=>⟨rfl,rfl⟩) (fun _=>rfl) (Nat.zero_le _) rfl (fun _ h=>h) ?_ ?_ ?_ ?_ ?_);intro j xs c;cases c;rfl;rw[vlS.eq_1,suK,qC0];exact s_y [(1,6),(2,7),(3,8),(4,11),(5,13)] (fun hs=>e_34) (fun hs=>e_35);exact ac (em k l g) (ac (b7 a) ag);intro s j xs d c;cases c;have ev:=j8 (teK k g l a j) x (ok.ev j d);have q1:=ok.su j (by omega);have q2:=ok.eq j d;have p:=fD (suK k g l a x j) (af (teK k g l a j) x) (by omega)
 show AWp _ _ _ _ ⟨[(41,.arr (pE (teK k g l a j))),(6,.lptr 1 0 0),(7,.lptr 2 0 0),(8,.lptr 3 0 0),(11,.lptr 4 0 0),(13,.lptr 5 0 0),(40,.clos 114 [] [bEq k l g,bQ a]),(1006,.lptr 1 0 0),(1007,.lptr 2 0 0),(1008,.lptr 3 0 0),(1011,.lptr 4 0 0),(1013,.lptr 5 0 0),(1040,.clos 114 [] [bEq k l g,bQ a])],[(1,some ⟨34,3,[qC x]⟩),(2,some ⟨34,3,[qC w]⟩),(3,some ⟨40,6,[zC++zC]⟩),(4,some ⟨3,1,[[i64 ((n:Int)- (j:Int))]]⟩),(5,some ⟨34,3,[qC (suK k g l a x j)]⟩)],6,61⟩;refine r_m 1 ?_;refine a_z ?_;refine am (ae (r_d ba 6 ?_));refine c_s (ev) ?_;refine c_s (p) ?_;refine a_1 ?_;refine au (n_k ?_);refine r_z 3 ?_;by_cases he:j=n;refine q_z 2 ?_;refine cT (aA (⟨rfl,(),rfl,?_⟩));rw[←suK,he];show SEntT _ ⟨[(1007,.lptr 2 0 0),(1008,.lptr 3 0 0),(1013,.lptr 5 0 0)],[(2,some ⟨34,3,[qC w]⟩),(3,some ⟨40,6,[zC++zC]⟩),(5,some ⟨34,3,[qC (suK k g l a x (n+1))]⟩)],6,61⟩;exact s_y [] (fun hs=>eA) (fun hs=>kX);refine q_z 2 ?_;refine cF (an (⟨j+1,⟨by omega,rfl⟩,?_⟩));show SEntT _ ⟨[(1006,.lptr 1 0 0),(1007,.lptr 2 0 0),(1008,.lptr 3 0 0),(1011,.lptr 4 0 0),(1013,.lptr 5 0 0),(1040,.clos 114 [] [bEq k l g,bQ a])],[(1,some ⟨34,3,[qC x]⟩),(2,some ⟨34,3,[qC w]⟩),(3,some ⟨40,6,[zC++zC]⟩),(4,some ⟨3,1,[[i64 ((n:Int)- ((j+1):Int))]]⟩),(5,some ⟨34,3,[qC (suK k g l a x (j+1))]⟩)],6,61⟩;rw[←suK];exact s_y [] (fun hs=>e_34) (fun hs=>e_35);intro j d c;cases c;rintro e u rfl;exact⟨u,trivial,SEnt.refl _⟩;rintro _ _;have q1:=ok.su (n+1) (Nat.le_refl _);have q3:=ok.wq;have i2:=ej 2 (by decide)
 rw[show((2:Int):Rat)=2 from rfl] at i2;have qd:=iN w 2;have q2:qs (2:Rat)≤2:=by decide
 have m:=rN w 2 (by decide) (by omega);have s1:=lE (suK k g l a x (n+1)) (w/ 2) (by omega);have s2:=fD (suK k g l a x (n+1)) (w/ 2) (by omega);rw[vlX.eq_1];refine ae (r_d ba 5 ?_);refine c_s (i2) ?_;refine c_s (m) ?_;refine a_2 ?_;refine au (n_k ?_);refine ae (r_d ba 9 ?_);refine c_s (s1) ?_;refine c_s (s2) ?_;refine a_3 ?_;refine au (n_k ?_);refine ak (Fin.many ⟨_,_,rfl,⟨_,_,_,_,_,rfl,rfl,rfl,.inl ⟨TG.h,_,TS.h,nle rfl,rfl⟩⟩,⟨_,_,rfl,rfl,rfl⟩⟩ (nle rfl) ?_);exact ai (ao ay (bJ _ _)) (ai (ao ay (ah _)) aw)



def zE(l:List Int):List (List AV):=l.map fun n=>[i64 n]
theorem jt(l:List Int):∀e∈zE l,∀c∈e,Closed c:=by
 intro e a c hc;obtain⟨n,_,rfl⟩:=List.mem_map.1 a;rw[List.mem_singleton.1 hc];exact ah _
def zR(l:List Int):List Rat:=l.map fun(n:Int)=>(n:Rat)
def CS:List Nat→AState
 |l=>⟨[(0,.arr (iE l))],[],1,15⟩
theorem kg(l:List Nat):CS l=⟨[(0,.arr (iE l))],[],1,15⟩:=rfl
theorem jM(l:List Nat)(hl:l.length≤281474976710656):FS 185 [.arr (iE l)] (.arr (iE (ie l))):=by
 refine f_c Tryz.func185 ?_;refine r_z 1 ?_;refine bD CS (fun m=>m=ie l) ?_ ?_;refine am (aD CS (fun m=>m.length) (fun m=>m.length≤281474976710656∧ie m=ie l) l ⟨hl,rfl⟩ ?_ ?_);simp only[kg];exact s_e [];rintro m ⟨e,b⟩;rw[kg];cases m with
 |nil=>
  refine ae (s_r 9 ?_);refine a_4 ?_;refine n_g rfl d_f ?_;refine n_g rfl d_f ?_;refine n_g rfl d_f ?_;refine n_g rfl d_f ?_;refine o_0 (.pickF rfl d_f rfl) ?_;refine au ?_;refine cF ?_;refine aA ⟨[],by simpa[ie] using b,?_⟩;simp only[kg];exact s_e []
 |cons d m=>
  have c:(iE (d::m))[(0:Int).toNat]?=some [i64 d]:=rfl;refine ae (s_r 9 ?_);refine a_4 ?_;refine y_g rfl (by simp) (.move rfl) ?_;refine y_g rfl (by simp) (.index_a rfl rfl (by omega) c rfl te_47.h) ?_;refine y_g rfl (by simp) (.load_a1 rfl c TG.h rfl) ?_;refine y_g rfl (by simp) (.bin rfl rfl db) ?_;refine o_0 (.pickT rfl (by simp) rfl) ?_;refine au ?_;refine aq rfl (fun h=>?_) (fun h=>?_);have a:d=0:=by simpa using h
  refine an ?_;subst a;refine am (r_m 3 ?_);refine a_1 ?_;refine o_0 (.sa_l rfl rfl rfl (by simp) te_47.h (mO _)) ?_;refine a_z ?_;refine⟨m,by simp,⟨by simp at e;omega,by simpa[ie] using b⟩,?_⟩;simp only[kg];exact s_e [];have a:d≠0:=by simpa using h
  refine aA ⟨d::m,by rw[←b];simp[ie,a],?_⟩;simp only[kg];exact s_e []
 rintro m rfl;rw[kg];refine r_z 2 ?_;exact ak (t_e (fF _))
theorem lc(s:Int)(l:List Nat)(z:Int)(hl:l.length≤281474976710656)(hd:∀d∈l,d< UB)(hz:hv l=z.natAbs)(hs:z≠0→s=sgZ z):FS 152 [i64 s,.arr (iE l)] (.agg (zZ z)):=by
 refine f_c Tryz.func152 ?_;refine r_z 1 ?_;refine r_c 3 (jM l hl) ?_;refine a_z ?_;refine ae (r_z 3 ?_);refine aq rfl (fun h=>?_) (fun h=>?_)
 have b:ie l=[]:=by
  have:(ie l).length=0:=by simpa using h
  exact List.length_eq_zero_iff.1 this
 have a:z=0:=by have:=(vx hd).1 b;omega
 subst a;refine r_z 2 ?_;refine ak (Fin.cell rfl rfl rfl TG.h TS.h (nle rfl) ?_);rw[zZ_zero];exact Cv.agg (ai (ao ay (ah _)) (ai (Cv.emp _) aw));have b:ie l≠[]:=fun e=>by rw[e] at h;simp at h
 have a:z≠0:=by
  intro e;subst e;exact b ((vx hd).2 hz)
 refine an (r_z 4 ?_);refine ak (dV rfl rfl rfl TG.h TS.h (nle rfl) ?_ ?_);show AV.agg [i64 s,.arr (iE (ie l))]=_;unfold zZ;rw[hs a,gQ hd,hz];exact dh _
theorem zZ_neg(z:Int):zZ (-z)=[i64 (-sgZ z),.arr (iE (zd z.natAbs))]:=by
 unfold zZ;rw[Int.natAbs_neg];congr 2;unfold sgZ;split <;> split <;>(try split)<;>(try split)<;> omega
theorem du(z:Int):sgZ z= -1∧z< 0∨sgZ z=0∧z=0∨sgZ z=1∧0< z:=by
 unfold sgZ;split;right;left;exact⟨rfl,by assumption⟩;split;left;exact⟨rfl,by assumption⟩;right;right;exact⟨rfl,by omega⟩
theorem zS(z:Int):FS 149 [.agg (zZ z)] (.agg (zZ (-z))):=by
 have hs:=du z;have hc:=dh (-z);rw[zZ_neg] at hc⊢;refine f_c Tryz.func149 ?_;refine r_z 2 ?_;refine r_z 7 ?_;exact ak (c_e (hc))
theorem ws(l:List Nat)(i:Nat)(hl:l.length≤281474976710656):FS 254 [.arr (iE l),i64 i] (i64 (l.reverse[i]?.getD 0:Nat)):=by
 refine f_c Tryz.func254 ?_;refine r_z 1 ?_;refine ae (r_z 4 ?_);refine aq rfl (fun h=>?_) (fun h=>?_);have b:l.length≤i:=by simpa using h
 refine r_z 1 ?_;refine ak (aY rfl ?_ (ah _));rw[List.getElem?_eq_none (by simpa using b)];rfl;have b:i< l.length:=by simp at h;omega
 refine an ?_;obtain⟨d,c⟩:∃d,l[l.length- 1- i]?=some d:=⟨_,List.getElem?_eq_getElem (by omega)⟩;have a:(iE l)[((l.length:Int)- 1- i).toNat]?=some [i64 d]:=by rw[show((l.length:Int)- 1- i).toNat=l.length- 1- i by omega];exact lC c
 refine s_r 9 ?_;refine a_6 ?_;refine i_x a ?_;refine l_1 a ?_;refine a_z ?_;refine ak (aY rfl ?_ (ah _));rw[List.getElem?_reverse b,c];rfl
theorem DH(a b:List Nat):FS 255 [.arr (iE a),.arr (iE b)] (i64 (max a.length b.length:Nat)):=by
 refine f_c Tryz.func255 ?_;refine r_z 1 ?_;refine ae (r_z 5 ?_);refine aq rfl (fun h=>?_) (fun h=>?_);refine r_z 3 ?_;refine ak (aY rfl ?_ (ah _));have:b.length< a.length:=by simpa using h
 simp[i64];omega;refine an (r_z 3 ?_);refine ak (aY rfl ?_ (ah _));have:¬b.length< a.length:=by simpa using h
 simp[i64];omega
def Ej(a:Nat)(b:Nat):Nat→AState
 |i=>⟨[(0,.arr (iE (zd a))),(1,.arr (iE (zd b))),(5,i64 i)],[],1,40⟩
theorem yQ{n i d:Nat}(h:(av UB n)[i]?=some d):(zd n)[(av UB n).length- 1- i]?=some d:=by
 have a:i< (av UB n).length:=(List.getElem?_eq_some_iff.1 h).1;unfold zd;rw[List.getElem?_reverse (by omega),show(av UB n).length- 1- ((av UB n).length- 1- i)=i by omega];exact h
theorem BG(a b:Nat)(ha:(zd a).length≤281474976710656)(hb:(zd b).length≤281474976710656):FS 221 [.arr (iE (zd a)),.arr (iE (zd b))] (i64 (fm a b)):=by
 have t:=dd a;have r:=dd b;refine f_c Tryz.func221 ?_;refine r_z 1 ?_;refine ae (r_z 5 ?_);refine aq rfl (fun h=>?_) (fun h=>?_);have s:(zd a).length≠(zd b).length:=by simp at h;omega
 refine ae (r_z 5 ?_);refine aq rfl (fun h1=>?_) (fun h1=>?_);refine r_z 1 ?_;refine ak (aY rfl ?_ (ah _));have q:(zd a).length< (zd b).length:=by simpa using h1
 rw[mY];rfl;have:=kj (b:=UB) (by decide) (show(av UB a).length< (av UB b).length by omega);omega;refine an (r_z 1 ?_);refine ak (aY rfl ?_ (ah _));have q:(zd b).length< (zd a).length:=by simp at h1;omega
 rw[oU];rfl;have:=kj (b:=UB) (by decide) (show(av UB b).length< (av UB a).length by omega);omega;have heq:(av UB a).length=(av UB b).length:=by simp at h;omega
 refine an (ae (r_z 1 ?_));refine aH (Ej a b) (fun _=>a=b) ?_ ?_;refine am (aD (Ej a b) (fun i=>(av UB a).length- i) (fun i=>i≤(av UB a).length∧(av UB a).drop ((av UB a).length- i)=(av UB b).drop ((av UB a).length- i)) 0 ⟨Nat.zero_le _,by rw[Nat.sub_zero,List.drop_length,heq,List.drop_length]⟩ ?_ ?_);simp only[Ej.eq_1];exact s_e [];rintro i ⟨v,e⟩;rw[Ej.eq_1];refine ae (r_z 4 ?_);refine aq rfl (fun h=>?_) (fun h=>?_);have p:i< (av UB a).length:=by simp at h;omega
 obtain⟨k,u⟩:∃k,k=(av UB a).length- 1- i:=⟨_,rfl⟩;have m:(av UB a).length- i=k+1:=by omega
 rw[m] at e;obtain⟨x,j⟩:∃x,(av UB a)[k]?=some x:=⟨_,List.getElem?_eq_getElem (by omega)⟩;obtain⟨y,l⟩:∃y,(av UB b)[k]?=some y:=⟨_,List.getElem?_eq_getElem (by omega)⟩
 have g:(iE (zd a))[((i:Nat):Int).toNat]?=some [i64 x]:=by
  have:=yQ j;rw[show(av UB a).length- 1- k=i by omega] at this;exact lC this
 have f:(iE (zd b))[((i:Nat):Int).toNat]?=some [i64 y]:=by
  have:=yQ l;rw[show(av UB b).length- 1- k=i by omega] at this;exact lC this
 refine an (ae (am (ae (ae (r_d ba 9 ?_)))));refine a_2 ?_;refine i_x g ?_;refine l_1 g ?_;refine a_2 ?_;refine i_x f ?_;refine l_1 f ?_;refine a_1 ?_;refine au (n_k ?_);refine aq rfl (fun h1=>?_) (fun h1=>?_);refine r_z 1 ?_;refine ak (aY rfl ?_ (ah _));have c:x< y:=by simpa using h1
 have:=oC (fun d e=>ee (by decide) a d e) j l e c;rw[bG (by decide),bG (by decide)] at this;rw[mY (by omega)];rfl;refine an (ae (r_d ba 9 ?_));refine a_2 ?_;refine i_x g ?_;refine l_1 g ?_;refine a_2 ?_;refine i_x f ?_;refine l_1 f ?_;refine a_1 ?_;refine au (n_k ?_);refine aq rfl (fun n=>?_) (fun n=>?_);refine r_z 1 ?_;refine ak (aY rfl ?_ (ah _));have c:y< x:=by simpa using n
 have:=oC (fun d e=>ee (by decide) b d e) l j e.symm c;rw[bG (by decide),bG (by decide)] at this;rw[oU (by omega)];rfl;have c:x=y:=by simp at h1 n;omega
 subst c;refine an (r_m 3 ?_);refine a_z ?_;refine⟨i+1,by omega,⟨by omega,?_⟩,?_⟩;rw[show(av UB a).length- (i+1)=k by omega,gU j,gU l,e];simp only[Ej.eq_1];exact s_e [];have o:i=(av UB a).length:=by simp at h;omega
 refine aA ⟨i,?_,?_⟩;subst o;rw[Nat.sub_self,List.drop_zero,List.drop_zero] at e;rw[←bG (b:=UB) (by decide) a,←bG (b:=UB) (by decide) b,e];simp only[Ej.eq_1];exact s_e [];rintro i rfl;rw[Ej.eq_1];refine r_z 1 ?_;refine ak (aY rfl ?_ (ah _));rw[Fw rfl];rfl
def bothS(a:Nat)(b:Nat)(k:Int)(N:Nat):List Nat×Int→AState
 |(s,c)=>⟨[(0,.arr (iE (zd a))),(1,.arr (iE (zd b))),(2,i64 k),(7,i64 N),(8,.lsl 1 0 N (some N) 1),(9,i64 c),(10,i64 s.length)],[(1,some ⟨3,1,iE (List.replicate (N- s.length) 0++s.reverse)⟩)],2,51⟩
def Jg(a:Nat)(b:Nat)(k:Int)(N:Nat)(s:List Nat):Int×Int→AState
 |(x,c)=>⟨[(0,.arr (iE (zd a))),(1,.arr (iE (zd b))),(2,i64 k),(7,i64 N),(8,.lsl 1 0 N (some N) 1),(9,i64 c),(10,i64 s.length),(11,i64 x)],[(1,some ⟨3,1,iE (List.replicate (N- s.length) 0++s.reverse)⟩)],2,51⟩
theorem rO(a b:Nat)(k:Int)(r:Nat)(hk:k=1∨k= -1)(hr:(r:Int)=a+k* b)(ha:(zd a).length≤17592186044416)(hb:(zd b).length≤17592186044416):FS 220 [.arr (iE (zd a)),.arr (iE (zd b)),i64 k] (.arr (iE (zd r))):=by
 have hza:=dd a;have hzb:=dd b;obtain⟨N,hN⟩:∃N,N=max (zd a).length (zd b).length+1:=⟨_,rfl⟩;refine f_c Tryz.func220 ?_;refine r_z 1 ?_;refine r_c 5 (DH (zd a) (zd b)) ?_;refine a_z ?_;have C:((max (zd a).length (zd b).length:Nat):Int)+1=(N:Int):=by omega
 refine s_r 3 ?_;refine a_1 ?_;refine o_1 (.makeSlice (congrArg (fun z=>some (AV.v (.int .i64 z))) C) (congrArg (fun z=>some (AV.v (.int .i64 z))) C) te_47.h TZ.h rfl TB.h (by first|omega|(simp;done)|(simp;omega)) (by first|omega|(simp;done)|(simp;omega)) (by unfold maxLen;first|omega|(simp;done)|(simp;omega))) ?_;refine a_z ?_;refine r_z 1 ?_;refine ae (r_z 1 ?_)
 have V:=gL (b:=UB) (by decide) (n:=r) (k:=N) (by
  have h1:=gG (b:=UB) (ee (by decide) a);have p:=gG (b:=UB) (ee (by decide) b);rw[bG (by decide)] at h1 p;have J:UB^ (av UB a).length≤UB^ (N- 1):=Nat.pow_le_pow_right (by decide) (by omega);have h4:UB^ (av UB b).length≤UB^ (N- 1):=Nat.pow_le_pow_right (by decide) (by omega);have h5:UB^ N=UB^ (N- 1) * UB:=by rw[←Nat.pow_succ];congr 1;omega
  rw[h5];show r< UB^ (N- 1) * 32768;rcases hk with rfl|rfl <;> omega)
 have O:r< UB^ N:=by
  have h1:=gG (b:=UB) (ee (by decide) r);rw[bG (by decide)] at h1;exact Nat.lt_of_lt_of_le h1 (Nat.pow_le_pow_right (by decide) V)
 refine aH (fun s:List Nat=>⟨[(8,.lsl 1 0 N (some N) 1)],[(1,some ⟨3,1,iE s.reverse⟩)],2,51⟩) (fun s=>s.length=N∧(∀d∈s,d< UB)∧ofD UB s=r) ?_ ?_;refine am (aD (bothS a b k N) (fun x=>N- x.1.length) (fun x=>x.1.length≤N∧(∀d∈x.1,d< UB)∧(x.2= -1∨x.2=0∨x.2=1)∧((ofD UB x.1:Nat):Int)+((UB^ x.1.length:Nat):Int) * x.2=(ofD UB ((av UB a).take x.1.length):Nat)+k* (ofD UB ((av UB b).take x.1.length):Nat)) ([],0) ⟨by simp,by simp,by simp,by simp[ofD]⟩ ?_ ?_);simp only[bothS.eq_1];exact s_e [(1,8)];rintro⟨s,c⟩ ⟨hs,t,hc,f⟩;simp only at hs t hc f;simp only[bothS.eq_1];refine ae (r_z 3 ?_);refine aq rfl (fun h=>?_) (fun h=>?_);have hlt:s.length< N:=by simpa using h
 refine an ?_;obtain⟨x,R⟩:∃x,x=(av UB a)[s.length]?.getD 0:=⟨_,rfl⟩;obtain⟨y,W⟩:∃y,y=(av UB b)[s.length]?.getD 0:=⟨_,rfl⟩
 have hx1:x< 32768:=by
  rw[R];cases hh:(av UB a)[s.length]? with
  |none=>decide
  |some d=>exact cV (by decide) hh
 have hy1:y< 32768:=by
  rw[W];cases hh:(av UB b)[s.length]? with
  |none=>decide
  |some d=>exact cV (by decide) hh
 have m:=ws (zd a) s.length (by omega);have o:=ws (zd b) s.length (by omega);unfold zd at m o;rw[List.reverse_reverse,←R] at m;rw[List.reverse_reverse,←W] at o;have hky: -32768< k* y∧k* y< 32768:=by rcases hk with rfl|rfl <;> omega
 obtain⟨X,K⟩:∃X:Int,X=x+k* y+c:=⟨_,rfl⟩;have hXr: -32768≤X∧X≤65536:=by omega
 refine ae (am (r_c 12 (m) ?_));refine c_s (o) ?_;refine a_z ?_;refine r_z 1 ?_;refine bD (Jg a b k N s) (fun v=>v.1=(if X< 0 then X+32768 else X)∧v.2=(if X< 0 then -1 else 0)) ?_ ?_;refine r_z 2 ?_;refine aq rfl (fun h1=>?_) (fun h1=>?_);have g:X< 0:=by rw[K];simpa using h1
 refine r_z 3 ?_;refine r_m 1 ?_;refine a_z ?_;refine⟨(X+32768,-1),⟨by rw[if_pos g],by rw[if_pos g]⟩,?_⟩;simp only[Jg.eq_1];exact s_x [] (fun hs=>e_37) (fun hs=>e_38) e_36;have g:¬X< 0:=by rw[K];simpa using h1
 refine an ⟨(X,0),⟨by rw[if_neg g],by rw[if_neg g]⟩,?_⟩;simp only[Jg.eq_1];exact s_x [] (fun hs=>e_37) (fun hs=>e_38) e_36;rintro⟨D,c1⟩ ⟨i,A⟩;simp only at i A;rw[Jg.eq_1];refine bD (Jg a b k N s) (fun v=>v.1=X % 32768∧v.2=X/ 32768) ?_ ?_;refine r_z 2 ?_;refine aq rfl (fun h1=>?_) (fun h1=>?_);have p:32768≤D:=by simpa using h1
 have Z:D≤65536:=by rw[i];split <;> omega
 refine r_z 3 ?_;refine r_m 1 ?_;refine a_z ?_;have g:¬X< 0:=by intro h0;rw[if_pos h0] at i;omega
 rw[if_neg g] at i;refine⟨(D- 32768,1),⟨by simp only;omega,by simp only;omega⟩,?_⟩;simp only[Jg.eq_1];exact s_e []
 ·have p:D< 32768:=by simp at h1;omega
  refine an ⟨(D,c1),⟨by rw[i] at p⊢;simp only;split <;> rename_i J <;> simp only[J,if_true,if_false] at p <;> omega,by rw[i] at p;rw[A];simp only;split <;> rename_i J <;> simp only[J,if_true,if_false] at p <;> omega⟩,?_⟩;simp only[Jg.eq_1];exact s_e []
 rintro⟨X2,G⟩ ⟨T,S⟩;simp only at T S;rw[Jg.eq_1];obtain⟨d,L⟩:∃d:Nat,X2=d:=⟨X2.toNat,by omega⟩;have M:d< 32768:=by omega
 subst L;have hlen:(List.replicate (N- s.length) 0++s.reverse).length=N:=by simp;omega
 have l:List.replicate (N- s.length) 0=List.replicate (N- (s.length+1)) 0++[0]:=by
  rw[show N- s.length=(N- (s.length+1))+1 by omega,List.replicate_succ']
 have w:(iE (List.replicate (N- s.length) 0++s.reverse))[0+((N:Int)- 1- s.length).toNat]?=some [i64 0]:=by
  rw[show 0+((N:Int)- 1- s.length).toNat=N- (s.length+1) by omega];refine lC ?_;rw[l,List.append_assoc];exact rF _ _ _ _ (by simp)
 have H:(iE (List.replicate (N- s.length) 0++s.reverse)).set (0+((N:Int)- 1- s.length).toNat) [i64 d]=iE (List.replicate (N- (s++[d]).length) 0++(s++[d]).reverse):=by
  rw[show 0+((N:Int)- 1- s.length).toNat=N- (s.length+1) by omega,qe,l,List.append_assoc];simp only[List.singleton_append,List.length_append,List.length_cons,List.length_nil,List.reverse_append,List.reverse_cons,List.reverse_nil,List.nil_append];rw[qJ _ _ _ _ _ (by simp)];simp
 refine r_m 8 ?_;refine a_7 ?_;refine fY (.store rfl rfl w rfl rfl rfl TS.h (nle rfl)) ?_;refine au ?_;refine r_m 3 ?_;refine a_z ?_;refine⟨(s++[d],G),by simp;omega,⟨by simp;omega,?_,by simp only;omega,?_⟩,?_⟩;intro e u;rcases List.mem_append.1 u with u|u
 exact t e u;simp at u;subst u;exact M;simp only[List.length_append,List.length_cons,List.length_nil,Nat.zero_add];rw[iQ,fy,fy,←R,←W,Nat.pow_succ];obtain⟨B,hB⟩:∃B,B=UB^ s.length:=⟨_,rfl⟩;rw[←hB] at f⊢;have U:X=32768* G+d:=by omega
 have Q:(B:Int) * X=B* x+k* (B* y)+B* c:=by
  rw[K,Int.mul_add,Int.mul_add,Int.mul_left_comm]
 rw[U,Int.mul_add] at Q;have e1:((B* 32768:Nat):Int) * G=B* (32768* G):=by rw[Int.natCast_mul,Int.mul_assoc];rfl
 have e2:k* ((ofD UB ((av UB b).take s.length)+B* y:Nat):Int)=k* (ofD UB ((av UB b).take s.length):Nat)+k* (B* y):=by
  rw[Int.natCast_add,Int.mul_add,Int.natCast_mul]
 show((ofD UB s+B* d:Nat):Int)+((B* 32768:Nat):Int) * G=_;rw[e1,e2,Int.natCast_add,Int.natCast_add,Int.natCast_mul,Int.natCast_mul];omega;simp only[bothS.eq_1];refine s_x [] (fun hs=>eA) (fun hs=>?_) e_39
 ·repeat' (first|exact aI|refine h_c ?_ ?_|exact aT hs H (dR _)|exact cu)
 have j:s.length=N:=by simp at h;omega
 refine aA ⟨s,⟨j,t,?_⟩,?_⟩;rw[j,List.take_of_length_le (by omega),List.take_of_length_le (by omega),bG (by decide),bG (by decide),←hr] at f;have F:=gG t;rw[j] at F;obtain⟨B,hB⟩:∃B,B=UB^ N:=⟨_,rfl⟩;rw[←hB] at f F O;rcases hc with rfl|rfl|rfl <;> omega
 have e:iE (List.replicate (N- s.length) 0++s.reverse)=iE s.reverse:=by rw[j];simp
 refine s_x [] (fun hs=>eA) (fun hs=>e_40) ?_
 ·repeat' (first|exact ShrL.nil|refine ShrL.cons rfl rfl rfl rfl (by first|(exact congrArg List.length e)|rfl|(simp;done)|(simp <;> omega)) ?_)
 rintro s ⟨hs,t,f⟩;have Y:∀d∈s.reverse,d< UB:=fun d h=>t d (List.mem_reverse.1 h);have E:=jM s.reverse (by simp;omega);rw[gQ Y,show hv s.reverse=r by unfold hv;rw[List.reverse_reverse];assumption] at E;have q:((iE s.reverse).drop 0).take N=iE s.reverse:=by rw[List.drop_zero,List.take_of_length_le (by simp;omega)]
 refine s_r 3 ?_;refine a_1 ?_;refine o_1 (.callS1 rfl rfl rfl (.shut rfl d_n (.nil)) rfl ((by rw[q];exact E))) ?_;refine a_z ?_;exact ak (t_e (fF _))
end Go.Proofs.YtkhclghbcicapaaGreatDoor
