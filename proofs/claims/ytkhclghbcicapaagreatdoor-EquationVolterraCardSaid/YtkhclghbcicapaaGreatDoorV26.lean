/- Part V26 of the proof. -/
import Derived.Test.YtkhclghbcicapaaGreatDoorV25
set_option linter.all false
namespace Go.Proofs.YtkhclghbcicapaaGreatDoor
open Go.Abs
set_option maxRecDepth 20000
set_option maxHeartbeats 2000000
theorem Eh{a b:Rat}(h:b≤a):dy a b≥0:=by
 unfold dy;rw[if_neg (by grind)];split <;> decide
theorem FZ:spC 0 0=[.arr [],bln false,.arr [],.arr [],bln false,.arr []]:=by unfold spC;rw[qC0];rfl
theorem l8(k:Ke)(l:Rat)(g:List Rat)(h:pZ k)(hg:cN g≤20)(hgl:g.length≤1099511627776):FS 42 [.agg (eqC k l g++[.arr [],bln false,.arr [],.arr [],bln false,.arr []])] (bln false):=by
 have:=jH k l g 0 0 h (by decide) (by decide) Rat.le_refl hg hgl;rw[FZ] at this;exact this
theorem GZ(k:Ke)(u:List Rat)(h:pV k 0 u)(hl:k.length≤1000):FS 45 [.arr (kE k),.agg [.arr [],bln false,.arr []],.arr (pE u)] (.arr (pE (upK k 0 u))):=by
 have:=Ah k 0 u h hl;rw[qC0] at this;exact this
structure OkSe (k:Ke)(l:Rat)(g:List Rat)(a:Rat)(n:Nat):Prop where
 ke:pZ k
 dg:cN g≤20
 mv:∀p∈k,(gT [a,1] p.1∧p.1.length≤274877906944)∧gT [a,1] p.2∧p.2.length≤274877906944
 mg:gT [a,1] g
 gl:g.length≤274877906944
 sl:sm l
 sg:smL (b7 [a,1] g)
 gl2:(b7 [a,1] g).length≤1099511627776
 up:∀r,r≤n→pV (mvK a k) 0 (seK (mvK a k) (b7 [a,1] g) l n r)
 us:∀r,r≤n→smL (upK (mvK a k) 0 (seK (mvK a k) (b7 [a,1] g) l n r))∧(upK (mvK a k) 0 (seK (mvK a k) (b7 [a,1] g) l n r)).length≤1099511627776
 ss:∀r,r≤n→smL (aL (upK (mvK a k) 0 (seK (mvK a k) (b7 [a,1] g) l n r)) l)
def seS(k:Ke)(l:Rat)(g:List Rat)(a:Rat)(n:Nat):Nat→AState
 |r=>⟨[(2,i64 n),(9,.lptr 1 0 0),(10,.arr (pE (seK (mvK a k) (b7 [a,1] g) l n r))),(29,i64 ((n:Int)+1)),(30,i64 r)],[(1,some ⟨38,5,[eqC (mvK a k) l (b7 [a,1] g)]⟩)],2,47⟩
theorem wT(k:Ke)(l:Rat)(g:List Rat)(a:Rat)(n:Nat)(hn:n≤40)(hok:OkSe k l g a n):FS 9 [.agg (eqC k l g),.agg (qC a),i64 n] (.tup [.arr (pE (seK (mvK a k) (b7 [a,1] g) l n (n+1))),i64 0]):=by
 have o:=cy k l g;have m:=cy (mvK a k) l (b7 [a,1] g);have j:=hok.ke.1;have q:(mvK a k).length=k.length:=by simp[mvK]
 have i:=l8 k l g hok.ke hok.dg (by have:=hok.gl;omega);have p:=Hb k l g a (by omega) hok.mv hok.mg hok.gl;refine f_c Tryz.func9 ?_;refine r_z 4 ?_;refine r_z 5 ?_;refine ae (am (r_c 3 (i) ?_));refine a_z ?_;refine cF (q_z 7 ?_);refine cF (an (r_c 6 (p) ?_));refine a_z ?_;refine r_z 1 ?_;refine ae (r_z 3 ?_);refine aH (fun _:Unit=>⟨[(10,.arr (pE (seK (mvK a k) (b7 [a,1] g) l n (n+1))))],[],1,47⟩) (fun _=>True) ?_ ?_;refine am (aD (seS k l g a n) (fun r=>n+1- r) (fun r=>r≤n+1) 0 (Nat.zero_le _) ?_ ?_);simp only[seS.eq_1];exact s_f [(1,9)];intro r s;rw[seS.eq_1];by_cases hlt:r< n+1;have f:=GZ (mvK a k) _ (hok.up r (by omega)) (by omega);have b:=hok.us r (by omega);have d:=gR _ l b.1 hok.sl b.2;have c:=pj (b7 [a,1] g) _ hok.sg (hok.ss r (by omega)) hok.gl2 (Nat.le_trans (dk _ _) b.2)
 have h:=fs_cut (fO (b7 [a,1] g) (aL (upK (mvK a k) 0 (seK (mvK a k) (b7 [a,1] g) l n r)) l)) n (by
  have h1:=ki (b7 [a,1] g) (aL (upK (mvK a k) 0 (seK (mvK a k) (b7 [a,1] g) l n r)) l);have t:=dk (upK (mvK a k) 0 (seK (mvK a k) (b7 [a,1] g) l n r)) l;have:=hok.gl2;have:=b.2;omega) (by omega)
 refine q_z 1 ?_;refine ae (cT (an (ae (am (r_d a9 14 ?_)))));refine c_s (f) ?_;refine c_s (d) ?_;refine c_s (c) ?_;refine c_s (h) ?_;refine a_1 ?_;refine au (n_k ?_);refine r_m 2 ?_;refine a_z ?_;refine⟨r+1,by omega,by omega,?_⟩;simp only[seS.eq_1];rw[seK];exact s_f [(1,9)];have e:r=n+1:=by omega
 subst e;refine q_z 1 ?_;refine ae (cF (aA ⟨(),trivial,?_⟩));exact s_e [];rintro _ _;refine r_z 3 ?_;refine ak (Fin.many ⟨_,_,rfl,rfl,⟨_,_,rfl,rfl,rfl⟩⟩ (nle rfl) ?_);exact ai (ao ay (aC _)) (ai (ao ay (ah _)) aw)
theorem fs_size(p:List Rat)(lo hi:Rat)(v:Sp)(hR:FS 139 [.arr (pE p),.agg (spC lo hi),i64 10] (.tup [.agg (spC v.1 v.2),i64 0]))(h1:sm v.1)(h2:sm v.2):FS 88 [.agg (spC lo hi++[i64 10]),.arr (pE p)] (.agg (qC (sH v))):=by
 have a:∀c∈spC lo hi++[i64 10],Closed c:=fun c hc=>(List.mem_append.1 hc).elim (bc lo hi c) (ac (ah _) ag c);refine f_c Tryz.func88 ?_;refine r_z 2 ?_;refine r_c 12 (hR) ?_;refine a_z ?_;refine r_c 4 (D0 v h1 h2) ?_;refine a_z ?_;exact ak (c_e (aP _))
def stZ(al be:Nat→Rat):Nat→Rat
 |0=>0
 |i+1=>stZ al be i+al i* be i
def zkS(k:Ke)(E:List AV)(w lo hi:Rat)(al be:Nat→Rat):Nat→AState
 |i=>⟨[(4,.lptr 1 0 0),(7,.lptr 2 0 0),(10,.lptr 3 0 0),(11,.lptr 4 0 0),(29,.arr (kE k)),(30,i64 k.length),(31,i64 i)],[(1,some ⟨38,5,[E]⟩),(2,some ⟨34,3,[qC w]⟩),(3,some ⟨156,7,[spC lo hi++[i64 10]]⟩),(4,some ⟨34,3,[qC (stZ al be i)]⟩)],5,91⟩
def znS(z g w:Rat):Nat→AState
 |n=>⟨[(11,.lptr 1 0 0),(14,.lptr 2 0 0),(15,.lptr 3 0 0),(16,.lptr 4 0 0),(64,i64 n)],[(1,some ⟨34,3,[qC z]⟩),(2,some ⟨34,3,[qC (stL z g n)]⟩),(3,some ⟨34,3,[qC (stR w n)]⟩),(4,some ⟨34,3,[qC ((2:Int):Rat)]⟩)],5,91⟩
theorem G5 (k:Ke) (l:Rat) (g:List Rat) (a x w:Rat) (al be:Nat→Rat) (ga:Rat) (B:Nat) (hkl:k.length≤8) (ha:sm a) (hx:sm x) (hw:qs w≤B) (hl:qs l≤B) (hB1:1≤B) (hB:B≤1000000)
    (hA:∀i p,k[i]?=some p→FS 88 [.agg (spC (eN [a,x]) (dH [a,x])++[i64 10]),.arr (pE p.1)] (.agg (qC (al i)))∧FS 88 [.agg (spC (eN [a,x]) (dH [a,x])++[i64 10]),.arr (pE p.2)] (.agg (qC (be i)))∧qs (al i)≤B∧qs (be i)≤B)
    (hG:FS 88 [.agg (spC (eN [a,x]) (dH [a,x])++[i64 10]),.arr (pE g)] (.agg (qC ga))∧qs ga≤B) (hlo:qs (eN [a,x])≤B) (hhi:qs (dH [a,x])≤B):
    ∃(n:Nat) (ok:Bool),FS 55 [.agg (eqC k l g),.agg (qC a),.agg (qC x),.agg (qC w)] (.tup [i64 n,bln ok])∧(ok=true→n≤40∧stP (stZ al be k.length* eF l* (dH [a,x]- eN [a,x])) (ga* ((4:Int):Rat)) w n=true):=by
 have hcl:=cy k l g;have hkk:(kE k).length=k.length:=dX k;obtain⟨lo,C⟩:∃lo,lo=eN [a,x]:=⟨_,rfl⟩;obtain⟨c,G⟩:∃c,c=dH [a,x]:=⟨_,rfl⟩;have q:=yy [a,x] (lT ha hx) (by simp);have r:=rX [a,x] (lT ha hx) (by simp);rw[←C] at q hA hG hlo⊢;rw[←G] at r hA hG hhi⊢
 have zq:∀i,i≤k.length→qs (stZ al be i)≤1+i* (2* B+1):=fun i=>by
  induction i with
  |zero=>intro _;rw[stZ];exact Nat.le_trans (by decide:qs 0≤1) (by omega)
  |succ i ih=>
   intro c;obtain⟨p,hp⟩:∃p,k[i]?=some p:=⟨_,List.getElem?_eq_getElem c⟩;obtain⟨_,_,q1,q2⟩:=hA i p hp;have h1:=ih (by omega);have E:=fQ (stZ al be i) (al i* be i);have h3:=dh (al i) (be i);rw[stZ,Nat.succ_mul];omega
 have T:∀i,i≤k.length→qs (stZ al be i)≤17* B+9:=fun i c=>by
  have h1:=zq i c;have E:i* (2* B+1)≤8* (2* B+1):=Nat.mul_le_mul_right _ (by omega);omega
 obtain⟨z,O⟩:∃z,z=stZ al be k.length* eF l* (c- lo):=⟨_,rfl⟩;have hal:qs (eF l)≤B:=by rw[show qs (eF l)=qs l from by rw[mq];split;exact fj l;rfl];exact hl
 have hwd:qs (c- lo)≤2* B+1:=by
  have h1:=fQ c (-lo);rw[fj,←Rat.sub_eq_add_neg] at h1;omega
 have hz1:qs (stZ al be k.length* eF l)≤18* B+9:=by
  have h1:=dh (stZ al be k.length) (eF l);have:=T k.length (Nat.le_refl _);omega
 have A:qs z≤20* B+10:=by
  have h1:=dh (stZ al be k.length* eF l) (c- lo);rw[O];omega
 rw[←O];obtain⟨b,s⟩:∃b,b=ga* ((4:Int):Rat):=⟨_,rfl⟩;have h4:qs ((4:Int):Rat)≤3:=by decide
 have h2q:qs ((2:Int):Rat)≤2:=by decide
 have y:qs b≤B+3:=by
  have:=dh ga ((4:Int):Rat);have:=hG.2;rw[s];omega
 rw[←s]
 obtain⟨n,ok,J,F,H⟩:∃(n:Nat) (ok:Bool),n≤40∧(∀m,m≤41→(∀j,j< m→stP z b w j=false)→(m=41∨stP z b w m=true)→(n=if m=41 then 0 else m)∧ok=decide (m≠41))∧(ok=true→stP z b w n=true):=by
  by_cases hex:∃m,m≤40∧stP z b w m=true;obtain⟨m0,hm0,S⟩:=hex;obtain⟨d,d1,d2,d3⟩:=leastN (P:=fun m=>stP z b w m=true) m0 S;refine⟨d,true,by omega,fun m V hb f=>?_,fun _=>d2⟩
  have:m=d:=by
   by_cases h1:d< m;have:=hb d h1;rw[d2] at this;cases this;rcases f with f|f
   omega;exact Nat.le_antisymm (Nat.le_of_not_lt fun E=>by omega) (Nat.le_of_not_lt fun E=>d3 m E f)
  subst this;rw[if_neg (by omega)];exact⟨rfl,(decide_eq_true (by omega)).symm⟩;refine⟨0,false,by omega,fun m V hb f=>?_,fun h=>by cases h⟩
  have:m=41:=by
   rcases f with f|f
   exact f;by_cases h1:m≤40;exact absurd ⟨m,h1,f⟩ hex;omega
  subst this;exact⟨rfl,rfl⟩
 refine⟨n,ok,?_,fun h=>⟨J,H h⟩⟩;refine f_c Tryz.func55 ?_;refine r_z 6 ?_;refine ae (r_d a9 12 ?_);refine a_3 ?_;refine o_1 (.callS1 rfl rfl rfl (.shut rfl d_n (.nil)) rfl (q)) ?_;refine a_3 ?_;refine o_1 (.callS1 rfl rfl rfl (.shut rfl d_n (.nil)) rfl (r)) ?_;refine a_4 ?_;refine au (n_k ?_);refine r_z 1 ?_;refine ae (r_z 4 ?_);refine aH (fun _:Unit=>zkS k (eqC k l g) w lo c al be k.length) (fun _=>True) ?_ ?_;refine am (aD (zkS k (eqC k l g) w lo c al be) (fun i=>k.length- i) (fun i=>i≤k.length) 0 (Nat.zero_le _) ?_ ?_);rw[zkS.eq_1,stZ,qC0];exact s_x [(1,4),(2,7),(3,10),(4,11)] (fun hs=>e_17) (fun hs=>e_18);intro i R;rw[zkS.eq_1];by_cases hlt:i< k.length;obtain⟨p,hp⟩:∃p,k[i]?=some p:=⟨_,List.getElem?_eq_getElem hlt⟩;obtain⟨a1,a2,q1,q2⟩:=hA i p hp;have D:(kE k)[((i:Nat):Int).toNat]?=some (prC p):=j6 hp _ (by simp);have U:=cK (al i) (be i) (by omega);have M:=ft (stZ al be i) (al i* be i) (by have:=T i R;have:=dh (al i) (be i);omega);refine q_z 1 ?_;refine ae (cT (an (ae (am (s_r 4 ?_)))));refine i_x D ?_;refine l_x D ?_;refine a_z ?_;refine r_d a9 12 ?_;refine c_s (a1) ?_;refine c_s (a2) ?_;refine c_s (U) ?_;refine c_s (M) ?_;refine a_1 ?_;refine au (n_k ?_);refine r_m 2 ?_;refine a_z ?_;refine⟨i+1,by omega,by omega,?_⟩;rw[zkS.eq_1,stZ];exact s_x [(1,4),(2,7),(3,10),(4,11)] (fun hs=>e_17) (fun hs=>e_18);have t:i=k.length:=by omega
 subst t;refine q_z 1 ?_;refine ae (cF (aA ⟨(),trivial,?_⟩));simp only[zkS.eq_1];exact s_x [(1,4),(2,7),(3,10),(4,11)] (fun hs=>e_17) (fun hs=>e_18);rintro _ _;have m1:=cK (stZ al be k.length) (eF l) (by have:=T k.length (Nat.le_refl _);omega);have m2:=rW lo c (by unfold sm;omega) (by unfold sm;omega);have Y:=cK (stZ al be k.length* eF l) (c- lo) (by omega);rw[←O] at Y;have Z:=cK ga ((4:Int):Rat) (by have:=hG.2;omega);rw[←s] at Z;rw[zkS.eq_1];refine ae (r_d a9 10 ?_);refine c_s (pi l) ?_;refine c_s (m1) ?_;refine c_s (m2) ?_;refine c_s (Y) ?_;refine a_1 ?_;refine au (n_k ?_);refine r_c 8 (hG.1) ?_;refine c_s (ec 4 (by decide)) ?_;refine c_s (Z) ?_;refine a_z ?_;refine r_z 3 ?_;refine r_c 3 (ec 2 (by decide)) ?_;refine a_z ?_;refine ae (r_z 1 ?_);refine aH (fun _:Unit=>⟨[],[],1,91⟩) (fun _=>n=0∧ok=false) ?_ ?_;refine am (aD (znS z b w) (fun m=>41- m) (fun m=>m≤41∧∀j,j< m→stP z b w j=false) 0 ⟨Nat.zero_le _,fun j X=>by omega⟩ ?_ ?_);rw[znS.eq_1,stL,stR];exact s_e [(1,11),(2,14),(3,15),(4,16)];rintro m ⟨V,hb⟩;rw[znS.eq_1];by_cases hlt:m< 41;have lq:=BE A y m;have lq1:=BE A y (m+1);have rq:=BD hw m (by omega);have rq1:=BD hw (m+1) (by omega);have e1:m* (20* B+10)≤41* (20* B+10):=Nat.mul_le_mul_right _ (by omega);have e2:(m+1) * (20* B+10)≤41* (20* B+10):=Nat.mul_le_mul_right _ (by omega);have c1:(((m:Int)+1:Int):Rat)=(((m+1:Nat):Int):Rat):=rfl;have c2:(((m:Int)+2:Int):Rat)=(((m+2:Nat):Int):Rat):=rfl;have i1:=ec ((m:Int)+1) (by omega);have i2:=ec ((m:Int)+2) (by omega);rw[c1] at i1
 rw[c2] at i2
 have q8:∀j:Nat,j≤43→qs ((j:Int):Rat)≤8:=fun j X=>by
  unfold qs;show max (bl (j:Int).natAbs) (bl 1)≤8;have h1:bl (j:Int).natAbs≤8:=ej (by omega);have E:bl 1≤8:=by decide
  omega
 have u1:=cK (stL z b m) z (by omega);have u2:=cK (stR w m) (((m+1:Nat):Int):Rat) (by have:=q8 (m+1) (by omega);omega);have Q:=cK z ((2:Int):Rat) (by omega);have zz:=dh z ((2:Int):Rat);have N:=pg (((m+2:Nat):Int):Rat) (z* ((2:Int):Rat)) (by have:=q8 (m+2) (by omega);unfold sm;omega) (by unfold sm;omega);have W:=pg (stL z b (m+1)) (stR w (m+1)) (by unfold sm;omega) (by unfold sm;omega);have two:((2:Int):Rat)=2:=rfl;refine q_z 1 ?_;refine ae (cT (an (ae (am (r_z 2 ?_)))));refine ae (r_d a9 10 ?_);refine c_s (u1) ?_;refine c_s (i1) ?_;refine c_s (u2) ?_;refine a_2 ?_;refine au (n_k ?_);by_cases hP:stP z b w m=true;have o:=hP;unfold stP at o;rw[Bool.and_eq_true] at o;have g1:=of_decide_eq_true o.1;have L:=of_decide_eq_true o.2;obtain⟨v,u⟩:=F m V hb (.inr hP);rw[if_neg (by omega)] at v;rw[decide_eq_true (by omega)] at u;refine ae (r_d a9 14 ?_);refine c_s (i2) ?_;refine c_s (Q) ?_;refine c_s (N) ?_;refine o_0 (.bin rfl rfl (vT ju (decide_eq_true (Eh (by rw[two];grind))))) ?_;refine c_s (W) ?_;refine bH rfl rfl rfl (.bin rfl rfl (vT dC (decide_eq_true (cmpQ_le.2 L)))) rfl rfl ?_;refine a_1 ?_;refine au (n_k ?_);refine cT (r_z 3 ?_);refine ak ?_;rw[v,u];refine Fin.many ⟨_,_,rfl,rfl,⟨_,_,rfl,rfl,rfl⟩⟩ (nle rfl) ?_;exact ai (ao ay (ah _)) (ai (ao ay (ah _)) aw);have K:stP z b w m=false:=by simpa using hP
 have nx:∀j,j< m+1→stP z b w j=false:=fun j X=>by
  by_cases e:j=m;rw[e];exact K;exact hb j (by omega)
 by_cases g1:z* ((2:Int):Rat)≤(((m+2:Nat):Int):Rat)
 have L:¬stL z b (m+1)≤stR w (m+1):=fun e=>by
  apply hP;unfold stP;rw[decide_eq_true (show z* 2≤_ from by rw[←two];exact g1),decide_eq_true e];rfl
 refine ae (r_d a9 14 ?_);refine c_s (i2) ?_;refine c_s (Q) ?_;refine c_s (N) ?_;refine o_0 (.bin rfl rfl (vT ju (decide_eq_true (Eh (by grind))))) ?_;refine c_s (W) ?_;refine bH rfl rfl rfl (.bin rfl rfl (vF dC (decide_eq_false (fun e=>L (cmpQ_le.1 e))))) rfl rfl ?_;refine a_1 ?_;refine au (n_k ?_);refine cF (an (r_m 2 ?_));refine a_z ?_;refine⟨m+1,by omega,⟨by omega,nx⟩,?_⟩;rw[znS.eq_1,stL,stR];exact s_e [(1,11),(2,14),(3,15),(4,16)];refine ae (r_d a9 14 ?_);refine c_s (i2) ?_;refine c_s (Q) ?_;refine c_s (N) ?_;refine o_0 (.bin rfl rfl (vF ju (decide_eq_false (by have:=cmpQ_lt.2 (show(((m+2:Nat):Int):Rat)< z* ((2:Int):Rat) by grind);omega)))) ?_;refine d_6 ?_;refine au (n_k ?_);refine cF (an (r_m 2 ?_));refine a_z ?_;refine⟨m+1,by omega,⟨by omega,nx⟩,?_⟩;rw[znS.eq_1,stL,stR];exact s_e [(1,11),(2,14),(3,15),(4,16)];have t:m=41:=by omega
 subst t;obtain⟨v,u⟩:=F 41 (Nat.le_refl _) hb (.inl rfl);refine q_z 1 ?_;refine ae (cF (aA ⟨(),⟨v,u⟩,?_⟩));exact s_e [];rintro _ ⟨v,u⟩;refine r_z 2 ?_;refine ak ?_;rw[v,u];refine Fin.many ⟨_,_,rfl,rfl,⟨_,_,rfl,rfl,rfl⟩⟩ (nle rfl) ?_;exact ai (ao ay (ah _)) (ai (ao ay (ah _)) aw)
abbrev bEq(k:Ke)(l:Rat)(g:List Rat):AV:= .aptr [eqC k l g] 0 0
theorem ee(k:Ke)(l:Rat)(g:List Rat):Closed (bEq k l g):=bt (cy k l g)
def teT(k:Ke)(l:Rat)(g:List Rat)(a:Rat)(j:Nat):Option (List AV):=some [.arr (pE (teK k g l a j))]
structure OkTe (k:Ke)(l:Rat)(a:Rat)(u:List Rat):Prop where
 up:pV k a u
 us:smL (upK k a u)
 ul:(upK k a u).length≤1099511627776
theorem GU(k:Ke)(l:Rat)(g:List Rat)(a:Rat)(K:Nat)(hkl:k.length≤1000)(hl:sm l)(hok:∀j,j< K→OkTe k l a (teK k g l a j)):GSpecB Tryz.prog 114 [bEq k l g,bQ a] (teT k l g a) K:=by
 have f:=cy k l g;have c:Closed (bEq k l g):=ee k l g;refine GSpecB.enter Tryz.func114 rfl (by kernel_rfl) rfl rfl rfl ?_ ?_ rfl ?_;exact ac (ee k l g) (ac (bY a) ag);intro j xs h;cases h;exact ac (aC _) ag;intro ll N hN E;refine GWp.seq ?_;refine GWp.lift ?_;refine r_m 3 ?_;refine a_z ?_;refine GWp.block ?_;refine GWp.loopS (fun j:Nat=>⟨[(0,.v (.func (.yield ll) #[] #[])),(1,bEq k l g),(2,bQ a),(4,.arr (pE (teK k g l a j)))],[],1,18⟩) (fun j=>j) (fun j=>N+1- j) (fun j=>j≤N) 0 (Nat.zero_le _) rfl ?_ ?_;have:=ee k l g;exact s_f [];intro j i;refine GWp.seq ?_;refine GWp.seq ?_;refine GWp.regY (fr2:=[(0,.v (.func (.yield ll) #[] #[])),(1,bEq k l g),(2,bQ a),(4,.arr (pE (teK k g l a j))),(7,.v (.func (.yield ll) #[] #[])),(8,.arr (pE (teK k g l a j)))]) (hp2:=[]) (nx2:=1) 2 rfl rfl rfl rfl rfl rfl ?_ rfl rfl rfl ?_ ?_ ?_;refine o_0 (.move rfl) ?_;refine o_0 (.move rfl) ?_;refine au ?_;exact s_y [] (fun hs=>ek) (fun hs=>kr);rotate_left 2;intro e;refine au ?_;rotate_left;rfl;exact ac (aC _) ag;cases e with
 |false=>
  refine GWp.cond rfl (fun h=>?_) (fun h=>?_);cases h;exact GWp.exit ⟨.inl rfl,fun h=>by cases h⟩
 |true=>
  refine GWp.bound fun b=>?_;refine GWp.cond rfl (fun h=>?_) (fun h=>?_);rotate_left;cases h;refine GWp.skip ?_;have ok:=hok j (by omega);have h1:=Ah k a _ ok.up hkl;have d:=gR _ l ok.us hl ok.ul;refine GWp.lift ?_;refine am (r_d a9 9 ?_);refine c_s (h1) ?_;refine c_s (d) ?_;refine a_1 ?_;refine au (n_k ?_);refine⟨rfl,j+1,by omega,b,rfl,?_⟩;rw[teK];have:=ee k l g;exact s_f []
theorem G1(k:Ke)(l:Rat)(g:List Rat)(a:Rat):FS 56 [.agg (eqC k l g),.agg (qC a)] (.clos 114 [] [bEq k l g,bQ a]):=by
 have b:=cy k l g;refine f_c Tryz.func56 ?_;refine r_z 3 ?_;refine r_z 2 ?_;refine ak (⟨.inr rfl,[_],⟨_,[],rfl,rfl,rfl⟩,?_⟩);exact Cv.clos aw (ai (Cv.boxp ay rfl (fun _ _ h=>by cases h) rfl b) (ai (Cv.boxp ay rfl (fun _ _ h=>by cases h) rfl (a7 a)) aw))
structure OkVa (k:Ke)(l:Rat)(g:List Rat)(a x w:Rat)(n B:Nat):Prop where
 ke:pZ k
 dg:cN g≤20
 gl:g.length≤1099511627776
 sl:sm l
 wp:0< w
 te:∀j,j< n→OkTe k l a (teK k g l a j)
 ev:∀j,j≤n→eW (teK k g l a j) x
 su:∀j,j≤n+1→qs (suK k g l a x j)≤B
 eq:∀j,j≤n→qs (af (teK k g l a j) x)≤B
 wq:qs w≤B
 b:B≤100000000000
def vlS(k:Ke)(l:Rat)(g:List Rat)(a x w:Rat)(n:Nat):Nat→AState
 |j=>⟨[(6,.lptr 1 0 0),(7,.lptr 2 0 0),(8,.lptr 3 0 0),(11,.lptr 4 0 0),(13,.lptr 5 0 0),(40,.clos 114 [] [bEq k l g,bQ a])],[(1,some ⟨34,3,[qC x]⟩),(2,some ⟨34,3,[qC w]⟩),(3,some ⟨40,6,[zC++zC]⟩),(4,some ⟨3,1,[[i64 ((n:Int)- (j:Int))]]⟩),(5,some ⟨34,3,[qC (suK k g l a x j)]⟩)],6,61⟩
def vlX(k:Ke)(l:Rat)(g:List Rat)(a x w:Rat)(n:Nat):Unit→AState
 |u=>⟨[(7,.lptr 2 0 0),(8,.lptr 3 0 0),(13,.lptr 5 0 0)],[(2,some ⟨34,3,[qC w]⟩),(3,some ⟨40,6,[zC++zC]⟩),(5,some ⟨34,3,[qC (suK k g l a x (n+1))]⟩)],6,61⟩
theorem E7(k:Ke)(l:Rat)(g:List Rat)(a x w:Rat)(n:Nat)(hke:pZ k)(hdg:cN g≤20)(hgl:g.length≤1099511627776)(wp:0< w)(hst:FS 55 [.agg (eqC k l g),.agg (qC a),.agg (qC x),.agg (qC w)] (.tup [i64 n,bln false])):
    FS 17 [.agg (eqC k l g),.agg (qC a),.agg (qC x),.agg (qC w)] (.tup [.agg (spC 0 0),i64 5]):=by
 have c:=cy k l g;have b:=l8 k l g hke hdg hgl;refine f_c Tryz.func17 ?_;refine r_z 6 ?_;refine r_z 5 ?_;refine ae (r_c 7 (b) ?_);refine c_s (cu w) ?_;refine bH rfl rfl rfl (.bin rfl rfl (vF dC (decide_eq_false (by have:=sgZ_num_gt.2 wp;omega)))) rfl rfl ?_;refine a_z ?_;refine cF (an (r_c 11 (hst) ?_));refine a_z ?_;refine ae (r_z 2 ?_);refine cT (r_z 3 ?_);refine ak ?_;rw[FZ];refine Fin.many ⟨_,_,rfl,⟨_,_,_,_,_,rfl,rfl,rfl,.inl ⟨TG.h,_,TS.h,nle rfl,rfl⟩⟩,⟨_,_,rfl,rfl,rfl⟩⟩ (nle rfl) ?_;exact ai (Cv.agg (ai (Cv.emp _) (ai (ao ay (ah _)) (ai (Cv.emp _) (ai (Cv.emp _) (ai (ao ay (ah _)) (ai (Cv.emp _) aw))))))) (ai (ao ay (ah _)) aw)
theorem Hk(k:Ke)(l:Rat)(g:List Rat)(a x w:Rat)(n B:Nat)(hn:n≤40)(ok:OkVa k l g a x w n B)(hst:FS 55 [.agg (eqC k l g),.agg (qC a),.agg (qC x),.agg (qC w)] (.tup [i64 n,bln true])):
    FS 17 [.agg (eqC k l g),.agg (qC a),.agg (qC x),.agg (qC w)] (.tup [.agg (spC (suK k g l a x (n+1)- w/ 2) (suK k g l a x (n+1)+w/ 2)),i64 0]):=by
 have r:=cy k l g;have q:Closed (bEq k l g):=ee k l g;have p:=ok.ke.1;have hb:=ok.b;have o:=l8 k l g ok.ke ok.dg ok.gl;have d:=GU k l g a n (by omega) ok.sl ok.te;refine f_c Tryz.func17 ?_;refine r_z 6 ?_;refine r_z 5 ?_;refine ae (r_c 7 (o) ?_);refine c_s (cu w) ?_;refine bH rfl rfl rfl (.bin rfl rfl (vF dC (decide_eq_false (by have:=sgZ_num_gt.2 ok.wp;omega)))) rfl rfl ?_;refine a_z ?_;refine cF (an (r_c 11 (hst) ?_));refine a_z ?_;refine ae (r_z 2 ?_);refine cF (an (r_z 1 ?_));refine ae (r_c 3 (G1 k l g a) ?_);refine au ?_;refine aH (vlX k l g a x w n) (fun _=>True) ?_ ?_;refine am (AWp.rangeFuncB (α:=Nat) (γ:=Unit) n (vlS k l g a x w n) (fun j=>j) (fun j=>j≤n) (vlX k l g a x w n) (fun e _=>e= .exit 0) 0 rfl d rfl rfl ?_ (fun _=>⟨rfl,rfl⟩) (fun _=>rfl) (Nat.zero_le _) rfl (fun _ h=>h) ?_ ?_ ?_ ?_ ?_);intro j xs c;cases c;rfl;rw[vlS.eq_1,suK,qC0];exact s_y [(1,6),(2,7),(3,8),(4,11),(5,13)] (fun hs=>e_34) (fun hs=>e_35);exact ac (ee k l g) (ac (bY a) ag);intro s j xs f c;cases c;have ev:=jI (teK k g l a j) x (ok.ev j f);have q1:=ok.su j (by omega);have q2:=ok.eq j f;have i:=ft (suK k g l a x j) (af (teK k g l a j) x) (by omega)
 show AWp _ _ _ _ ⟨[(41,.arr (pE (teK k g l a j))),(6,.lptr 1 0 0),(7,.lptr 2 0 0),(8,.lptr 3 0 0),(11,.lptr 4 0 0),(13,.lptr 5 0 0),(40,.clos 114 [] [bEq k l g,bQ a]),(1006,.lptr 1 0 0),(1007,.lptr 2 0 0),(1008,.lptr 3 0 0),(1011,.lptr 4 0 0),(1013,.lptr 5 0 0),(1040,.clos 114 [] [bEq k l g,bQ a])],[(1,some ⟨34,3,[qC x]⟩),(2,some ⟨34,3,[qC w]⟩),(3,some ⟨40,6,[zC++zC]⟩),(4,some ⟨3,1,[[i64 ((n:Int)- (j:Int))]]⟩),(5,some ⟨34,3,[qC (suK k g l a x j)]⟩)],6,61⟩;refine r_m 1 ?_;refine a_z ?_;refine am (ae (r_d a9 6 ?_));refine c_s (ev) ?_;refine c_s (i) ?_;refine a_1 ?_;refine au (n_k ?_);refine r_z 3 ?_;by_cases he:j=n;refine q_z 2 ?_;refine cT (aA (⟨rfl,(),rfl,?_⟩));rw[←suK,he];show SEntT _ ⟨[(1007,.lptr 2 0 0),(1008,.lptr 3 0 0),(1013,.lptr 5 0 0)],[(2,some ⟨34,3,[qC w]⟩),(3,some ⟨40,6,[zC++zC]⟩),(5,some ⟨34,3,[qC (suK k g l a x (n+1))]⟩)],6,61⟩;exact s_y [] (fun hs=>ek) (fun hs=>kr);refine q_z 2 ?_;refine cF (an (⟨j+1,⟨by omega,rfl⟩,?_⟩));show SEntT _ ⟨[(1006,.lptr 1 0 0),(1007,.lptr 2 0 0),(1008,.lptr 3 0 0),(1011,.lptr 4 0 0),(1013,.lptr 5 0 0),(1040,.clos 114 [] [bEq k l g,bQ a])],[(1,some ⟨34,3,[qC x]⟩),(2,some ⟨34,3,[qC w]⟩),(3,some ⟨40,6,[zC++zC]⟩),(4,some ⟨3,1,[[i64 ((n:Int)- ((j+1):Int))]]⟩),(5,some ⟨34,3,[qC (suK k g l a x (j+1))]⟩)],6,61⟩;rw[←suK];exact s_y [] (fun hs=>e_34) (fun hs=>e_35);intro j f c;cases c;rintro e u rfl;exact⟨u,trivial,SEnt.refl _⟩;rintro _ _;have q1:=ok.su (n+1) (Nat.le_refl _);have q3:=ok.wq;have i2:=ec 2 (by decide)
 rw[show((2:Int):Rat)=2 from rfl] at i2;have qd:=ip w 2;have q2:qs (2:Rat)≤2:=by decide
 have m:=qE w 2 (by decide) (by omega);have s1:=kV (suK k g l a x (n+1)) (w/ 2) (by omega);have s2:=ft (suK k g l a x (n+1)) (w/ 2) (by omega);rw[vlX.eq_1];refine ae (r_d a9 5 ?_);refine c_s (i2) ?_;refine c_s (m) ?_;refine a_2 ?_;refine au (n_k ?_);refine ae (r_d a9 9 ?_);refine c_s (s1) ?_;refine c_s (s2) ?_;refine a_3 ?_;refine au (n_k ?_);refine ak (Fin.many ⟨_,_,rfl,⟨_,_,_,_,_,rfl,rfl,rfl,.inl ⟨TG.h,_,TS.h,nle rfl,rfl⟩⟩,⟨_,_,rfl,rfl,rfl⟩⟩ (nle rfl) ?_);exact ai (ao ay (bG _ _)) (ai (ao ay (ah _)) aw)



def zE(l:List Int):List (List AV):=l.map fun n=>[i64 n]
theorem iY(l:List Int):∀e∈zE l,∀c∈e,Closed c:=by
 intro e a c hc;obtain⟨n,_,rfl⟩:=List.mem_map.1 a;rw[List.mem_singleton.1 hc];exact ah _
def zR(l:List Int):List Rat:=l.map fun(n:Int)=>(n:Rat)
def BB:List Nat→AState
 |l=>⟨[(0,.arr (iE l))],[],1,15⟩
theorem jM(l:List Nat):BB l=⟨[(0,.arr (iE l))],[],1,15⟩:=rfl
theorem jm(l:List Nat)(hl:l.length≤281474976710656):FS 185 [.arr (iE l)] (.arr (iE (gI l))):=by
 refine f_c Tryz.func185 ?_;refine r_z 1 ?_;refine bv BB (fun m=>m=gI l) ?_ ?_;refine am (aD BB (fun m=>m.length) (fun m=>m.length≤281474976710656∧gI m=gI l) l ⟨hl,rfl⟩ ?_ ?_);simp only[jM];exact s_e [];rintro m ⟨e,b⟩;rw[jM];cases m with
 |nil=>
  refine ae (s_r 9 ?_);refine a_4 ?_;refine n_g rfl d_f ?_;refine n_g rfl d_f ?_;refine n_g rfl d_f ?_;refine n_g rfl d_f ?_;refine o_0 (.pickF rfl d_f rfl) ?_;refine au ?_;refine cF ?_;refine aA ⟨[],by simpa[gI] using b,?_⟩;simp only[jM];exact s_e []
 |cons d m=>
  have c:(iE (d::m))[(0:Int).toNat]?=some [i64 d]:=rfl;refine ae (s_r 9 ?_);refine a_4 ?_;refine y_g rfl (by simp) (.move rfl) ?_;refine y_g rfl (by simp) (.index_a rfl rfl (by omega) c rfl te_47.h) ?_;refine y_g rfl (by simp) (.load_a1 rfl c TG.h rfl) ?_;refine y_g rfl (by simp) (.bin rfl rfl c8) ?_;refine o_0 (.pickT rfl (by simp) rfl) ?_;refine au ?_;refine aq rfl (fun h=>?_) (fun h=>?_);have a:d=0:=by simpa using h
  refine an ?_;subst a;refine am (r_m 3 ?_);refine a_1 ?_;refine o_0 (.sa_l rfl rfl rfl (by simp) te_47.h (lZ _)) ?_;refine a_z ?_;refine⟨m,by simp,⟨by simp at e;omega,by simpa[gI] using b⟩,?_⟩;simp only[jM];exact s_e [];have a:d≠0:=by simpa using h
  refine aA ⟨d::m,by rw[←b];simp[gI,a],?_⟩;simp only[jM];exact s_e []
 rintro m rfl;rw[jM];refine r_z 2 ?_;exact ak (t_e (fv _))
theorem kI(s:Int)(l:List Nat)(z:Int)(hl:l.length≤281474976710656)(hd:∀d∈l,d< UB)(hz:hv l=z.natAbs)(hs:z≠0→s=sgZ z):FS 152 [i64 s,.arr (iE l)] (.agg (zZ z)):=by
 refine f_c Tryz.func152 ?_;refine r_z 1 ?_;refine r_c 3 (jm l hl) ?_;refine a_z ?_;refine ae (r_z 3 ?_);refine aq rfl (fun h=>?_) (fun h=>?_)
 have b:gI l=[]:=by
  have:(gI l).length=0:=by simpa using h
  exact List.length_eq_zero_iff.1 this
 have a:z=0:=by have:=(uk hd).1 b;omega
 subst a;refine r_z 2 ?_;refine ak (Fin.cell rfl rfl rfl TG.h TS.h (nle rfl) ?_);rw[zZ_zero];exact Cv.agg (ai (ao ay (ah _)) (ai (Cv.emp _) aw));have b:gI l≠[]:=fun e=>by rw[e] at h;simp at h
 have a:z≠0:=by
  intro e;subst e;exact b ((uk hd).2 hz)
 refine an (r_z 4 ?_);refine ak (dR rfl rfl rfl TG.h TS.h (nle rfl) ?_ ?_);show AV.agg [i64 s,.arr (iE (gI l))]=_;unfold zZ;rw[hs a,gu hd,hz];exact dc _
theorem zZ_neg(z:Int):zZ (-z)=[i64 (-sgZ z),.arr (iE (zd z.natAbs))]:=by
 unfold zZ;rw[Int.natAbs_neg];congr 2;unfold sgZ;split <;> split <;>(try split)<;>(try split)<;> omega
theorem dq(z:Int):sgZ z= -1∧z< 0∨sgZ z=0∧z=0∨sgZ z=1∧0< z:=by
 unfold sgZ;split;right;left;exact⟨rfl,by assumption⟩;split;left;exact⟨rfl,by assumption⟩;right;right;exact⟨rfl,by omega⟩
theorem yw(z:Int):FS 149 [.agg (zZ z)] (.agg (zZ (-z))):=by
 have hs:=dq z;have hc:=dc (-z);rw[zZ_neg] at hc⊢;refine f_c Tryz.func149 ?_;refine r_z 2 ?_;refine r_z 7 ?_;exact ak (c_e (hc))
theorem uZ(l:List Nat)(i:Nat)(hl:l.length≤281474976710656):FS 254 [.arr (iE l),i64 i] (i64 (l.reverse[i]?.getD 0:Nat)):=by
 refine f_c Tryz.func254 ?_;refine r_z 1 ?_;refine ae (r_z 4 ?_);refine aq rfl (fun h=>?_) (fun h=>?_);have b:l.length≤i:=by simpa using h
 refine r_z 1 ?_;refine ak (aY rfl ?_ (ah _));rw[List.getElem?_eq_none (by simpa using b)];rfl;have b:i< l.length:=by simp at h;omega
 refine an ?_;obtain⟨d,c⟩:∃d,l[l.length- 1- i]?=some d:=⟨_,List.getElem?_eq_getElem (by omega)⟩;have a:(iE l)[((l.length:Int)- 1- i).toNat]?=some [i64 d]:=by rw[show((l.length:Int)- 1- i).toNat=l.length- 1- i by omega];exact kT c
 refine s_r 9 ?_;refine a_6 ?_;refine i_x a ?_;refine l_1 a ?_;refine a_z ?_;refine ak (aY rfl ?_ (ah _));rw[List.getElem?_reverse b,c];rfl
theorem Cr(a b:List Nat):FS 255 [.arr (iE a),.arr (iE b)] (i64 (max a.length b.length:Nat)):=by
 refine f_c Tryz.func255 ?_;refine r_z 1 ?_;refine ae (r_z 5 ?_);refine aq rfl (fun h=>?_) (fun h=>?_);refine r_z 3 ?_;refine ak (aY rfl ?_ (ah _));have:b.length< a.length:=by simpa using h
 simp[i64];omega;refine an (r_z 3 ?_);refine ak (aY rfl ?_ (ah _));have:¬b.length< a.length:=by simpa using h
 simp[i64];omega
def C6(a:Nat)(b:Nat):Nat→AState
 |i=>⟨[(0,.arr (iE (zd a))),(1,.arr (iE (zd b))),(5,i64 i)],[],1,40⟩
theorem xw{n i d:Nat}(h:(av UB n)[i]?=some d):(zd n)[(av UB n).length- 1- i]?=some d:=by
 have a:i< (av UB n).length:=(List.getElem?_eq_some_iff.1 h).1;unfold zd;rw[List.getElem?_reverse (by omega),show(av UB n).length- 1- ((av UB n).length- 1- i)=i by omega];exact h
theorem Aq(a b:Nat)(ha:(zd a).length≤281474976710656)(hb:(zd b).length≤281474976710656):FS 221 [.arr (iE (zd a)),.arr (iE (zd b))] (i64 (fe a b)):=by
 have r:=da a;have t:=da b;refine f_c Tryz.func221 ?_;refine r_z 1 ?_;refine ae (r_z 5 ?_);refine aq rfl (fun h=>?_) (fun h=>?_);have s:(zd a).length≠(zd b).length:=by simp at h;omega
 refine ae (r_z 5 ?_);refine aq rfl (fun h1=>?_) (fun h1=>?_);refine r_z 1 ?_;refine ak (aY rfl ?_ (ah _));have q:(zd a).length< (zd b).length:=by simpa using h1
 rw[mj];rfl;have:=jO (b:=UB) (by decide) (show(av UB a).length< (av UB b).length by omega);omega;refine an (r_z 1 ?_);refine ak (aY rfl ?_ (ah _));have q:(zd b).length< (zd a).length:=by simp at h1;omega
 rw[n5];rfl;have:=jO (b:=UB) (by decide) (show(av UB b).length< (av UB a).length by omega);omega;have heq:(av UB a).length=(av UB b).length:=by simp at h;omega
 refine an (ae (r_z 1 ?_));refine aH (C6 a b) (fun _=>a=b) ?_ ?_;refine am (aD (C6 a b) (fun i=>(av UB a).length- i) (fun i=>i≤(av UB a).length∧(av UB a).drop ((av UB a).length- i)=(av UB b).drop ((av UB a).length- i)) 0 ⟨Nat.zero_le _,by rw[Nat.sub_zero,List.drop_length,heq,List.drop_length]⟩ ?_ ?_);simp only[C6.eq_1];exact s_e [];rintro i ⟨v,e⟩;rw[C6.eq_1];refine ae (r_z 4 ?_);refine aq rfl (fun h=>?_) (fun h=>?_);have p:i< (av UB a).length:=by simp at h;omega
 obtain⟨k,u⟩:∃k,k=(av UB a).length- 1- i:=⟨_,rfl⟩;have o:(av UB a).length- i=k+1:=by omega
 rw[o] at e;obtain⟨x,l⟩:∃x,(av UB a)[k]?=some x:=⟨_,List.getElem?_eq_getElem (by omega)⟩;obtain⟨y,j⟩:∃y,(av UB b)[k]?=some y:=⟨_,List.getElem?_eq_getElem (by omega)⟩
 have g:(iE (zd a))[((i:Nat):Int).toNat]?=some [i64 x]:=by
  have:=xw l;rw[show(av UB a).length- 1- k=i by omega] at this;exact kT this
 have f:(iE (zd b))[((i:Nat):Int).toNat]?=some [i64 y]:=by
  have:=xw j;rw[show(av UB b).length- 1- k=i by omega] at this;exact kT this
 refine an (ae (am (ae (ae (r_d a9 9 ?_)))));refine a_2 ?_;refine i_x g ?_;refine l_1 g ?_;refine a_2 ?_;refine i_x f ?_;refine l_1 f ?_;refine a_1 ?_;refine au (n_k ?_);refine aq rfl (fun h1=>?_) (fun h1=>?_);refine r_z 1 ?_;refine ak (aY rfl ?_ (ah _));have c:x< y:=by simpa using h1
 have:=nK (fun d e=>dZ (by decide) a d e) l j e c;rw[bD (by decide),bD (by decide)] at this;rw[mj (by omega)];rfl;refine an (ae (r_d a9 9 ?_));refine a_2 ?_;refine i_x g ?_;refine l_1 g ?_;refine a_2 ?_;refine i_x f ?_;refine l_1 f ?_;refine a_1 ?_;refine au (n_k ?_);refine aq rfl (fun m=>?_) (fun m=>?_);refine r_z 1 ?_;refine ak (aY rfl ?_ (ah _));have c:y< x:=by simpa using m
 have:=nK (fun d e=>dZ (by decide) b d e) j l e.symm c;rw[bD (by decide),bD (by decide)] at this;rw[n5 (by omega)];rfl;have c:x=y:=by simp at h1 m;omega
 subst c;refine an (r_m 3 ?_);refine a_z ?_;refine⟨i+1,by omega,⟨by omega,?_⟩,?_⟩;rw[show(av UB a).length- (i+1)=k by omega,gC l,gC j,e];simp only[C6.eq_1];exact s_e [];have n:i=(av UB a).length:=by simp at h;omega
 refine aA ⟨i,?_,?_⟩;subst n;rw[Nat.sub_self,List.drop_zero,List.drop_zero] at e;rw[←bD (b:=UB) (by decide) a,←bD (b:=UB) (by decide) b,e];simp only[C6.eq_1];exact s_e [];rintro i rfl;rw[C6.eq_1];refine r_z 1 ?_;refine ak (aY rfl ?_ (ah _));rw[Eg rfl];rfl
def bothS(a:Nat)(b:Nat)(k:Int)(N:Nat):List Nat×Int→AState
 |(s,c)=>⟨[(0,.arr (iE (zd a))),(1,.arr (iE (zd b))),(2,i64 k),(7,i64 N),(8,.lsl 1 0 N (some N) 1),(9,i64 c),(10,i64 s.length)],[(1,some ⟨3,1,iE (List.replicate (N- s.length) 0++s.reverse)⟩)],2,51⟩
def HX(a:Nat)(b:Nat)(k:Int)(N:Nat)(s:List Nat):Int×Int→AState
 |(x,c)=>⟨[(0,.arr (iE (zd a))),(1,.arr (iE (zd b))),(2,i64 k),(7,i64 N),(8,.lsl 1 0 N (some N) 1),(9,i64 c),(10,i64 s.length),(11,i64 x)],[(1,some ⟨3,1,iE (List.replicate (N- s.length) 0++s.reverse)⟩)],2,51⟩
theorem qF(a b:Nat)(k:Int)(r:Nat)(hk:k=1∨k= -1)(hr:(r:Int)=a+k* b)(ha:(zd a).length≤17592186044416)(hb:(zd b).length≤17592186044416):FS 220 [.arr (iE (zd a)),.arr (iE (zd b)),i64 k] (.arr (iE (zd r))):=by
 have hza:=da a;have hzb:=da b;obtain⟨N,hN⟩:∃N,N=max (zd a).length (zd b).length+1:=⟨_,rfl⟩;refine f_c Tryz.func220 ?_;refine r_z 1 ?_;refine r_c 5 (Cr (zd a) (zd b)) ?_;refine a_z ?_;have w:((max (zd a).length (zd b).length:Nat):Int)+1=(N:Int):=by omega
 refine s_r 3 ?_;refine a_1 ?_;refine o_1 (.makeSlice (congrArg (fun z=>some (AV.v (.int .i64 z))) w) (congrArg (fun z=>some (AV.v (.int .i64 z))) w) te_47.h TZ.h rfl TB.h (by first|omega|(simp;done)|(simp;omega)) (by first|omega|(simp;done)|(simp;omega)) (by unfold maxLen;first|omega|(simp;done)|(simp;omega))) ?_;refine a_z ?_;refine r_z 1 ?_;refine ae (r_z 1 ?_)
 have W:=gf (b:=UB) (by decide) (n:=r) (k:=N) (by
  have h1:=gc (b:=UB) (dZ (by decide) a);have q:=gc (b:=UB) (dZ (by decide) b);rw[bD (by decide)] at h1 q;have J:UB^ (av UB a).length≤UB^ (N- 1):=Nat.pow_le_pow_right (by decide) (by omega);have h4:UB^ (av UB b).length≤UB^ (N- 1):=Nat.pow_le_pow_right (by decide) (by omega);have h5:UB^ N=UB^ (N- 1) * UB:=by rw[←Nat.pow_succ];congr 1;omega
  rw[h5];show r< UB^ (N- 1) * 32768;rcases hk with rfl|rfl <;> omega)
 have T:r< UB^ N:=by
  have h1:=gc (b:=UB) (dZ (by decide) r);rw[bD (by decide)] at h1;exact Nat.lt_of_lt_of_le h1 (Nat.pow_le_pow_right (by decide) W)
 refine aH (fun s:List Nat=>⟨[(8,.lsl 1 0 N (some N) 1)],[(1,some ⟨3,1,iE s.reverse⟩)],2,51⟩) (fun s=>s.length=N∧(∀d∈s,d< UB)∧ofD UB s=r) ?_ ?_;refine am (aD (bothS a b k N) (fun x=>N- x.1.length) (fun x=>x.1.length≤N∧(∀d∈x.1,d< UB)∧(x.2= -1∨x.2=0∨x.2=1)∧((ofD UB x.1:Nat):Int)+((UB^ x.1.length:Nat):Int) * x.2=(ofD UB ((av UB a).take x.1.length):Nat)+k* (ofD UB ((av UB b).take x.1.length):Nat)) ([],0) ⟨by simp,by simp,by simp,by simp[ofD]⟩ ?_ ?_);simp only[bothS.eq_1];exact s_e [(1,8)];rintro⟨s,c⟩ ⟨hs,t,hc,f⟩;simp only at hs t hc f;simp only[bothS.eq_1];refine ae (r_z 3 ?_);refine aq rfl (fun h=>?_) (fun h=>?_);have hlt:s.length< N:=by simpa using h
 refine an ?_;obtain⟨x,Y⟩:∃x,x=(av UB a)[s.length]?.getD 0:=⟨_,rfl⟩;obtain⟨y,U⟩:∃y,y=(av UB b)[s.length]?.getD 0:=⟨_,rfl⟩
 have hx1:x< 32768:=by
  rw[Y];cases hh:(av UB a)[s.length]? with
  |none=>decide
  |some d=>exact cQ (by decide) hh
 have hy1:y< 32768:=by
  rw[U];cases hh:(av UB b)[s.length]? with
  |none=>decide
  |some d=>exact cQ (by decide) hh
 have o:=uZ (zd a) s.length (by omega);have m:=uZ (zd b) s.length (by omega);unfold zd at o m;rw[List.reverse_reverse,←Y] at o;rw[List.reverse_reverse,←U] at m;have hky: -32768< k* y∧k* y< 32768:=by rcases hk with rfl|rfl <;> omega
 obtain⟨X,O⟩:∃X:Int,X=x+k* y+c:=⟨_,rfl⟩;have hXr: -32768≤X∧X≤65536:=by omega
 refine ae (am (r_c 12 (o) ?_));refine c_s (m) ?_;refine a_z ?_;refine r_z 1 ?_;refine bv (HX a b k N s) (fun v=>v.1=(if X< 0 then X+32768 else X)∧v.2=(if X< 0 then -1 else 0)) ?_ ?_;refine r_z 2 ?_;refine aq rfl (fun h1=>?_) (fun h1=>?_);have g:X< 0:=by rw[O];simpa using h1
 refine r_z 3 ?_;refine r_m 1 ?_;refine a_z ?_;refine⟨(X+32768,-1),⟨by rw[if_pos g],by rw[if_pos g]⟩,?_⟩;simp only[HX.eq_1];exact s_x [] (fun hs=>e_37) (fun hs=>e_38) e_36;have g:¬X< 0:=by rw[O];simpa using h1
 refine an ⟨(X,0),⟨by rw[if_neg g],by rw[if_neg g]⟩,?_⟩;simp only[HX.eq_1];exact s_x [] (fun hs=>e_37) (fun hs=>e_38) e_36;rintro⟨D,c1⟩ ⟨i,H⟩;simp only at i H;rw[HX.eq_1];refine bv (HX a b k N s) (fun v=>v.1=X % 32768∧v.2=X/ 32768) ?_ ?_;refine r_z 2 ?_;refine aq rfl (fun h1=>?_) (fun h1=>?_);have q:32768≤D:=by simpa using h1
 have hX1r:D≤65536:=by rw[i];split <;> omega
 refine r_z 3 ?_;refine r_m 1 ?_;refine a_z ?_;have g:¬X< 0:=by intro h0;rw[if_pos h0] at i;omega
 rw[if_neg g] at i;refine⟨(D- 32768,1),⟨by simp only;omega,by simp only;omega⟩,?_⟩;simp only[HX.eq_1];exact s_e []
 ·have q:D< 32768:=by simp at h1;omega
  refine an ⟨(D,c1),⟨by rw[i] at q⊢;simp only;split <;> rename_i J <;> simp only[J,if_true,if_false] at q <;> omega,by rw[i] at q;rw[H];simp only;split <;> rename_i J <;> simp only[J,if_true,if_false] at q <;> omega⟩,?_⟩;simp only[HX.eq_1];exact s_e []
 rintro⟨X2,E⟩ ⟨L,M⟩;simp only at L M;rw[HX.eq_1];obtain⟨d,S⟩:∃d:Nat,X2=d:=⟨X2.toNat,by omega⟩;have Q:d< 32768:=by omega
 subst S;have Z:(List.replicate (N- s.length) 0++s.reverse).length=N:=by simp;omega
 have l:List.replicate (N- s.length) 0=List.replicate (N- (s.length+1)) 0++[0]:=by
  rw[show N- s.length=(N- (s.length+1))+1 by omega,List.replicate_succ']
 have A:(iE (List.replicate (N- s.length) 0++s.reverse))[0+((N:Int)- 1- s.length).toNat]?=some [i64 0]:=by
  rw[show 0+((N:Int)- 1- s.length).toNat=N- (s.length+1) by omega];refine kT ?_;rw[l,List.append_assoc];exact qt _ _ _ _ (by simp)
 have C:(iE (List.replicate (N- s.length) 0++s.reverse)).set (0+((N:Int)- 1- s.length).toNat) [i64 d]=iE (List.replicate (N- (s++[d]).length) 0++(s++[d]).reverse):=by
  rw[show 0+((N:Int)- 1- s.length).toNat=N- (s.length+1) by omega,pe,l,List.append_assoc];simp only[List.singleton_append,List.length_append,List.length_cons,List.length_nil,List.reverse_append,List.reverse_cons,List.reverse_nil,List.nil_append];rw[pI _ _ _ _ _ (by simp)];simp
 refine r_m 8 ?_;refine a_7 ?_;refine fR (.store rfl rfl A rfl rfl rfl TS.h (nle rfl)) ?_;refine au ?_;refine r_m 3 ?_;refine a_z ?_;refine⟨(s++[d],E),by simp;omega,⟨by simp;omega,?_,by simp only;omega,?_⟩,?_⟩;intro e u;rcases List.mem_append.1 u with u|u
 exact t e u;simp at u;subst u;exact Q;simp only[List.length_append,List.length_cons,List.length_nil,Nat.zero_add];rw[iu,fm,fm,←Y,←U,Nat.pow_succ];obtain⟨B,hB⟩:∃B,B=UB^ s.length:=⟨_,rfl⟩;rw[←hB] at f⊢;have R:X=32768* E+d:=by omega
 have V:(B:Int) * X=B* x+k* (B* y)+B* c:=by
  rw[O,Int.mul_add,Int.mul_add,Int.mul_left_comm]
 rw[R,Int.mul_add] at V;have e1:((B* 32768:Nat):Int) * E=B* (32768* E):=by rw[Int.natCast_mul,Int.mul_assoc];rfl
 have e2:k* ((ofD UB ((av UB b).take s.length)+B* y:Nat):Int)=k* (ofD UB ((av UB b).take s.length):Nat)+k* (B* y):=by
  rw[Int.natCast_add,Int.mul_add,Int.natCast_mul]
 show((ofD UB s+B* d:Nat):Int)+((B* 32768:Nat):Int) * E=_;rw[e1,e2,Int.natCast_add,Int.natCast_add,Int.natCast_mul,Int.natCast_mul];omega;simp only[bothS.eq_1];refine s_x [] (fun hs=>ek) (fun hs=>?_) e_39
 ·repeat' (first|exact aI|refine h_c ?_ ?_|exact aT hs C (dN _)|exact cj)
 have j:s.length=N:=by simp at h;omega
 refine aA ⟨s,⟨j,t,?_⟩,?_⟩;rw[j,List.take_of_length_le (by omega),List.take_of_length_le (by omega),bD (by decide),bD (by decide),←hr] at f;have F:=gc t;rw[j] at F;obtain⟨B,hB⟩:∃B,B=UB^ N:=⟨_,rfl⟩;rw[←hB] at f F T;rcases hc with rfl|rfl|rfl <;> omega
 have e:iE (List.replicate (N- s.length) 0++s.reverse)=iE s.reverse:=by rw[j];simp
 refine s_x [] (fun hs=>ek) (fun hs=>e_40) ?_
 ·repeat' (first|exact ShrL.nil|refine ShrL.cons rfl rfl rfl rfl (by first|(exact congrArg List.length e)|rfl|(simp;done)|(simp <;> omega)) ?_)
 rintro s ⟨hs,t,f⟩;have K:∀d∈s.reverse,d< UB:=fun d h=>t d (List.mem_reverse.1 h);have G:=jm s.reverse (by simp;omega);rw[gu K,show hv s.reverse=r by unfold hv;rw[List.reverse_reverse];assumption] at G;have p:((iE s.reverse).drop 0).take N=iE s.reverse:=by rw[List.drop_zero,List.take_of_length_le (by simp;omega)]
 refine s_r 3 ?_;refine a_1 ?_;refine o_1 (.callS1 rfl rfl rfl (.shut rfl d_n (.nil)) rfl ((by rw[p];exact G))) ?_;refine a_z ?_;exact ak (t_e (fv _))
end Go.Proofs.YtkhclghbcicapaaGreatDoor
