/- Part V25 of the proof. -/
import Derived.Test.YtjjllafelolfoaaGreatDoorV24
set_option linter.all false
namespace Go.Proofs.YtjjllafelolfoaaGreatDoor
open Go.Abs
set_option maxRecDepth 20000
set_option maxHeartbeats 2000000
theorem rt_{a b:Rat}(h:b≤a):cmpQ a b≥0:=by
 unfold cmpQ;rw[if_neg (by grind)];split <;> decide
theorem spC00:spC 0 0=[.arr [],bln false,.arr [],.arr [],bln false,.arr []]:=by unfold spC;rw[qC0];rfl
theorem gJ_(k:Ke)(l:Rat)(g:List Rat)(h:okKe k)(hg:degP g≤20)(hgl:g.length≤1099511627776):FS 99 [.agg (eqC k l g++[.arr [],bln false,.arr [],.arr [],bln false,.arr []])] (bln false):=by
 have:=lq_ k l g 0 0 h (by decide) (by decide) Rat.le_refl hg hgl;rw[spC00] at this;exact this
theorem fs_upto0(k:Ke)(u:List Rat)(h:okUpK k 0 u)(hl:k.length≤1000):FS 102 [.arr (kE k),.agg [.arr [],bln false,.arr []],.arr (pE u)] (.arr (pE (upK k 0 u))):=by
 have:=nA_ k 0 u h hl;rw[qC0] at this;exact this
structure OkSe (k:Ke)(l:Rat)(g:List Rat)(a:Rat)(n:Nat):Prop where
 ke:okKe k
 dg:degP g≤20
 mv:∀p∈k,(dv_ [a,1] p.1∧p.1.length≤274877906944)∧dv_ [a,1] p.2∧p.2.length≤274877906944
 mg:dv_ [a,1] g
 gl:g.length≤274877906944
 sl:sm l
 sg:smL (compP [a,1] g)
 gl2:(compP [a,1] g).length≤1099511627776
 up:∀r,r≤n→okUpK (mvK a k) 0 (seK (mvK a k) (compP [a,1] g) l n r)
 us:∀r,r≤n→smL (upK (mvK a k) 0 (seK (mvK a k) (compP [a,1] g) l n r))∧(upK (mvK a k) 0 (seK (mvK a k) (compP [a,1] g) l n r)).length≤1099511627776
 ss:∀r,r≤n→smL (aw_ (upK (mvK a k) 0 (seK (mvK a k) (compP [a,1] g) l n r)) l)
def seS(k:Ke)(l:Rat)(g:List Rat)(a:Rat)(n:Nat):Nat→AState
 |r=>⟨[(2,i64 n),(9,.lptr 1 0 0),(10,.arr (pE (seK (mvK a k) (compP [a,1] g) l n r))),(29,i64 ((n:Int)+1)),(30,i64 r)],[(1,some ⟨56,5,[eqC (mvK a k) l (compP [a,1] g)]⟩)],2,47⟩
theorem qQ_(k:Ke)(l:Rat)(g:List Rat)(a:Rat)(n:Nat)(hn:n≤40)(hok:OkSe k l g a n):FS 23 [.agg (eqC k l g),.agg (qC a),i64 n] (.tup [.arr (pE (seK (mvK a k) (compP [a,1] g) l n (n+1))),i64 0]):=by
 have hcl:=bV_ k l g;have hcm:=bV_ (mvK a k) l (compP [a,1] g);have hkl:=hok.ke.1;have hml:(mvK a k).length=k.length:=by simp[mvK]
 have hw:=gJ_ k l g hok.ke hok.dg (by have:=hok.gl;omega);have hm:=fs_moved k l g a (by omega) hok.mv hok.mg hok.gl;refine f_c Tryz.func23 ?_;refine r_z 4 ?_;refine r_z 5 ?_;refine ab_ (ae_ (r_c 3 (hw) ?_));refine a_z ?_;refine cF (q_z 7 ?_);refine cF (ag_ (r_c 6 (hm) ?_));refine a_z ?_;refine r_z 1 ?_;refine ab_ (r_z 3 ?_);refine ay_ (fun _:Unit=>⟨[(10,.arr (pE (seK (mvK a k) (compP [a,1] g) l n (n+1))))],[],1,47⟩) (fun _=>True) ?_ ?_;refine ae_ (as_ (seS k l g a n) (fun r=>n+1- r) (fun r=>r≤n+1) 0 (Nat.zero_le _) ?_ ?_);simp only[seS.eq_1];exact s_f [(1,9)];intro r hr;rw[seS.eq_1];by_cases hlt:r< n+1;have hup:=fs_upto0 (mvK a k) _ (hok.up r (by omega)) (by omega);have hus:=hok.us r (by omega);have hsc:=cL_ _ l hus.1 hok.sl hus.2;have had:=lC_ (compP [a,1] g) _ hok.sg (hok.ss r (by omega)) hok.gl2 (Nat.le_trans (a3_ _ _) hus.2)
 have hcu:=fs_cut (addP (compP [a,1] g) (aw_ (upK (mvK a k) 0 (seK (mvK a k) (compP [a,1] g) l n r)) l)) n (by
  have h1:=ds_ (compP [a,1] g) (aw_ (upK (mvK a k) 0 (seK (mvK a k) (compP [a,1] g) l n r)) l);have h2:=a3_ (upK (mvK a k) 0 (seK (mvK a k) (compP [a,1] g) l n r)) l;have:=hok.gl2;have:=hus.2;omega) (by omega)
 refine q_z 1 ?_;refine ab_ (cT (ag_ (ab_ (ae_ (r_d hmix 14 ?_)))));refine c_s (hup) ?_;refine c_s (hsc) ?_;refine c_s (had) ?_;refine c_s (hcu) ?_;refine a_1 ?_;refine ak_ (n_k ?_);refine r_m 2 ?_;refine a_z ?_;refine⟨r+1,by omega,by omega,?_⟩;simp only[seS.eq_1];rw[seK];exact s_f [(1,9)];have hge:r=n+1:=by omega
 subst hge;refine q_z 1 ?_;refine ab_ (cF (ar_ ⟨(),trivial,?_⟩));exact s_e [];rintro _ _;refine r_z 3 ?_;refine ad_ (Fin.many ⟨_,_,rfl,rfl,⟨_,_,rfl,rfl,rfl⟩⟩ (nle rfl) ?_);exact ah_ (au_ av_ (ap_ _)) (ah_ (au_ av_ (af_ _)) aq_)
theorem fs_size(p:List Rat)(lo hi:Rat)(v:Sp)(hR:FS 43 [.arr (pE p),.agg (spC lo hi),i64 10] (.tup [.agg (spC v.1 v.2),i64 0]))(h1:sm v.1)(h2:sm v.2):FS 148 [.agg (spC lo hi++[i64 10]),.arr (pE p)] (.agg (qC (absH v))):=by
 have hcl:∀c∈spC lo hi++[i64 10],Closed c:=fun c hc=>(List.mem_append.1 hc).elim (cU_ lo hi c) (aa_ (af_ _) ac_ c);refine f_c Tryz.func148 ?_;refine r_z 2 ?_;refine r_c 12 (hR) ?_;refine a_z ?_;refine r_c 4 (fs_SAbs v h1 h2) ?_;refine a_z ?_;exact ad_ (c_e (az_ _))
def stZ(al be:Nat→Rat):Nat→Rat
 |0=>0
 |i+1=>stZ al be i+al i* be i
def zkS(k:Ke)(E:List AV)(w lo hi:Rat)(al be:Nat→Rat):Nat→AState
 |i=>⟨[(4,.lptr 1 0 0),(7,.lptr 2 0 0),(10,.lptr 3 0 0),(11,.lptr 4 0 0),(29,.arr (kE k)),(30,i64 k.length),(31,i64 i)],[(1,some ⟨56,5,[E]⟩),(2,some ⟨39,3,[qC w]⟩),(3,some ⟨226,7,[spC lo hi++[i64 10]]⟩),(4,some ⟨39,3,[qC (stZ al be i)]⟩)],5,91⟩
def znS(z g w:Rat):Nat→AState
 |n=>⟨[(11,.lptr 1 0 0),(14,.lptr 2 0 0),(15,.lptr 3 0 0),(16,.lptr 4 0 0),(64,i64 n)],[(1,some ⟨39,3,[qC z]⟩),(2,some ⟨39,3,[qC (stL z g n)]⟩),(3,some ⟨39,3,[qC (stR w n)]⟩),(4,some ⟨39,3,[qC ((2:Int):Rat)]⟩)],5,91⟩
theorem fs_steps (k:Ke) (l:Rat) (g:List Rat) (a x w:Rat) (al be:Nat→Rat) (ga:Rat) (B:Nat) (hkl:k.length≤8) (ha:sm a) (hx:sm x) (hw:qs w≤B) (hl:qs l≤B) (hB1:1≤B) (hB:B≤1000000)
    (hA:∀i p,k[i]?=some p→FS 148 [.agg (spC (minL [a,x]) (maxL [a,x])++[i64 10]),.arr (pE p.1)] (.agg (qC (al i)))∧FS 148 [.agg (spC (minL [a,x]) (maxL [a,x])++[i64 10]),.arr (pE p.2)] (.agg (qC (be i)))∧qs (al i)≤B∧qs (be i)≤B)
    (hG:FS 148 [.agg (spC (minL [a,x]) (maxL [a,x])++[i64 10]),.arr (pE g)] (.agg (qC ga))∧qs ga≤B) (hlo:qs (minL [a,x])≤B) (hhi:qs (maxL [a,x])≤B):
    ∃(n:Nat) (ok:Bool),FS 107 [.agg (eqC k l g),.agg (qC a),.agg (qC x),.agg (qC w)] (.tup [i64 n,bln ok])∧(ok=true→n≤40∧stP (stZ al be k.length* absQ l* (maxL [a,x]- minL [a,x])) (ga* ((4:Int):Rat)) w n=true):=by
 have hcl:=bV_ k l g;have hkk:(kE k).length=k.length:=dR_ k;obtain⟨lo,hlo'⟩:∃lo,lo=minL [a,x]:=⟨_,rfl⟩;obtain⟨hi,hhi'⟩:∃hi,hi=maxL [a,x]:=⟨_,rfl⟩;have hmin:=qW_ [a,x] (hT_ ha hx) (by simp);have hmax:=lu_ [a,x] (hT_ ha hx) (by simp);rw[←hlo'] at hmin hA hG hlo⊢;rw[←hhi'] at hmax hA hG hhi⊢
 have zq:∀i,i≤k.length→qs (stZ al be i)≤1+i* (2* B+1):=fun i=>by
  induction i with
  |zero=>intro _;rw[stZ];exact Nat.le_trans (by decide:qs 0≤1) (by omega)
  |succ i ih=>
   intro hi;obtain⟨p,hp⟩:∃p,k[i]?=some p:=⟨_,List.getElem?_eq_getElem hi⟩;obtain⟨_,_,q1,q2⟩:=hA i p hp;have h1:=ih (by omega);have h2:=c3_ (stZ al be i) (al i* be i);have h3:=bK_ (al i) (be i);rw[stZ,Nat.succ_mul];omega
 have zb:∀i,i≤k.length→qs (stZ al be i)≤17* B+9:=fun i hi=>by
  have h1:=zq i hi;have h2:i* (2* B+1)≤8* (2* B+1):=Nat.mul_le_mul_right _ (by omega);omega
 obtain⟨z,hz⟩:∃z,z=stZ al be k.length* absQ l* (hi- lo):=⟨_,rfl⟩;have hal:qs (absQ l)≤B:=by rw[show qs (absQ l)=qs l from by rw[gY_];split;exact cQ_ l;rfl];exact hl
 have hwd:qs (hi- lo)≤2* B+1:=by
  have h1:=c3_ hi (-lo);rw[cQ_,←Rat.sub_eq_add_neg] at h1;omega
 have hz1:qs (stZ al be k.length* absQ l)≤18* B+9:=by
  have h1:=bK_ (stZ al be k.length) (absQ l);have:=zb k.length (Nat.le_refl _);omega
 have hzq:qs z≤20* B+10:=by
  have h1:=bK_ (stZ al be k.length* absQ l) (hi- lo);rw[hz];omega
 rw[←hz];obtain⟨G4,hG4⟩:∃G4,G4=ga* ((4:Int):Rat):=⟨_,rfl⟩;have h4:qs ((4:Int):Rat)≤3:=by decide
 have h2q:qs ((2:Int):Rat)≤2:=by decide
 have hgq:qs G4≤B+3:=by
  have:=bK_ ga ((4:Int):Rat);have:=hG.2;rw[hG4];omega
 rw[←hG4]
 obtain⟨n,ok,hnok,hnn,hres⟩:∃(n:Nat) (ok:Bool),n≤40∧(∀m,m≤41→(∀j,j< m→stP z G4 w j=false)→(m=41∨stP z G4 w m=true)→(n=if m=41 then 0 else m)∧ok=decide (m≠41))∧(ok=true→stP z G4 w n=true):=by
  by_cases hex:∃m,m≤40∧stP z G4 w m=true;obtain⟨m0,hm0,ht0⟩:=hex;obtain⟨d,d1,d2,d3⟩:=leastN (P:=fun m=>stP z G4 w m=true) m0 ht0;refine⟨d,true,by omega,fun m hm hb he=>?_,fun _=>d2⟩
  have:m=d:=by
   by_cases h1:d< m;have:=hb d h1;rw[d2] at this;cases this;rcases he with he|he
   omega;exact Nat.le_antisymm (Nat.le_of_not_lt fun h2=>by omega) (Nat.le_of_not_lt fun h2=>d3 m h2 he)
  subst this;rw[if_neg (by omega)];exact⟨rfl,(decide_eq_true (by omega)).symm⟩;refine⟨0,false,by omega,fun m hm hb he=>?_,fun h=>by cases h⟩
  have:m=41:=by
   rcases he with he|he
   exact he;by_cases h1:m≤40;exact absurd ⟨m,h1,he⟩ hex;omega
  subst this;exact⟨rfl,rfl⟩
 refine⟨n,ok,?_,fun h=>⟨hnok,hres h⟩⟩;refine f_c Tryz.func107 ?_;refine r_z 6 ?_;refine ab_ (r_d hmix 12 ?_);refine a_3 ?_;refine o_1 (.callS1 rfl rfl rfl (.shut rfl d_n (.nil)) rfl (hmin)) ?_;refine a_3 ?_;refine o_1 (.callS1 rfl rfl rfl (.shut rfl d_n (.nil)) rfl (hmax)) ?_;refine a_4 ?_;refine ak_ (n_k ?_);refine r_z 1 ?_;refine ab_ (r_z 4 ?_);refine ay_ (fun _:Unit=>zkS k (eqC k l g) w lo hi al be k.length) (fun _=>True) ?_ ?_;refine ae_ (as_ (zkS k (eqC k l g) w lo hi al be) (fun i=>k.length- i) (fun i=>i≤k.length) 0 (Nat.zero_le _) ?_ ?_);rw[zkS.eq_1,stZ,qC0];exact s_x [(1,4),(2,7),(3,10),(4,11)] (fun hs=>e_11) (fun hs=>e_12);intro i hi';rw[zkS.eq_1];by_cases hlt:i< k.length;obtain⟨p,hp⟩:∃p,k[i]?=some p:=⟨_,List.getElem?_eq_getElem hlt⟩;obtain⟨a1,a2,q1,q2⟩:=hA i p hp;have hgt:(kE k)[((i:Nat):Int).toNat]?=some (prC p):=ll_ hp _ (by simp);have hmu:=bO_ (al i) (be i) (by omega);have had:=c4_ (stZ al be i) (al i* be i) (by have:=zb i hi';have:=bK_ (al i) (be i);omega);refine q_z 1 ?_;refine ab_ (cT (ag_ (ab_ (ae_ (s_r 4 ?_)))));refine i_x hgt ?_;refine l_x hgt ?_;refine a_z ?_;refine r_d hmix 12 ?_;refine c_s (a1) ?_;refine c_s (a2) ?_;refine c_s (hmu) ?_;refine c_s (had) ?_;refine a_1 ?_;refine ak_ (n_k ?_);refine r_m 2 ?_;refine a_z ?_;refine⟨i+1,by omega,by omega,?_⟩;rw[zkS.eq_1,stZ];exact s_x [(1,4),(2,7),(3,10),(4,11)] (fun hs=>e_11) (fun hs=>e_12);have hge:i=k.length:=by omega
 subst hge;refine q_z 1 ?_;refine ab_ (cF (ar_ ⟨(),trivial,?_⟩));simp only[zkS.eq_1];exact s_x [(1,4),(2,7),(3,10),(4,11)] (fun hs=>e_11) (fun hs=>e_12);rintro _ _;have m1:=bO_ (stZ al be k.length) (absQ l) (by have:=zb k.length (Nat.le_refl _);omega);have m2:=iu_ lo hi (by unfold sm;omega) (by unfold sm;omega);have m3:=bO_ (stZ al be k.length* absQ l) (hi- lo) (by omega);rw[←hz] at m3;have m4:=bO_ ga ((4:Int):Rat) (by have:=hG.2;omega);rw[←hG4] at m4;rw[zkS.eq_1];refine ab_ (r_d hmix 10 ?_);refine c_s (qN_ l) ?_;refine c_s (m1) ?_;refine c_s (m2) ?_;refine c_s (m3) ?_;refine a_1 ?_;refine ak_ (n_k ?_);refine r_c 8 (hG.1) ?_;refine c_s (cq_ 4 (by decide)) ?_;refine c_s (m4) ?_;refine a_z ?_;refine r_z 3 ?_;refine r_c 3 (cq_ 2 (by decide)) ?_;refine a_z ?_;refine ab_ (r_z 1 ?_);refine ay_ (fun _:Unit=>⟨[],[],1,91⟩) (fun _=>n=0∧ok=false) ?_ ?_;refine ae_ (as_ (znS z G4 w) (fun m=>41- m) (fun m=>m≤41∧∀j,j< m→stP z G4 w j=false) 0 ⟨Nat.zero_le _,fun j hj=>by omega⟩ ?_ ?_);rw[znS.eq_1,stL,stR];exact s_e [(1,11),(2,14),(3,15),(4,16)];rintro m ⟨hm,hb⟩;rw[znS.eq_1];by_cases hlt:m< 41;have lq:=pk_ hzq hgq m;have lq1:=pk_ hzq hgq (m+1);have rq:=pj_ hw m (by omega);have rq1:=pj_ hw (m+1) (by omega);have e1:m* (20* B+10)≤41* (20* B+10):=Nat.mul_le_mul_right _ (by omega);have e2:(m+1) * (20* B+10)≤41* (20* B+10):=Nat.mul_le_mul_right _ (by omega);have c1:(((m:Int)+1:Int):Rat)=(((m+1:Nat):Int):Rat):=rfl;have c2:(((m:Int)+2:Int):Rat)=(((m+2:Nat):Int):Rat):=rfl
 have i1:=cq_ ((m:Int)+1) (by omega);have i2:=cq_ ((m:Int)+2) (by omega);rw[c1] at i1;rw[c2] at i2
 have q8:∀j:Nat,j≤43→qs ((j:Int):Rat)≤8:=fun j hj=>by
  unfold qs;show max (bl (j:Int).natAbs) (bl 1)≤8;have h1:bl (j:Int).natAbs≤8:=bl_le (by omega);have h2:bl 1≤8:=by decide
  omega
 have u1:=bO_ (stL z G4 m) z (by omega);have u2:=bO_ (stR w m) (((m+1:Nat):Int):Rat) (by have:=q8 (m+1) (by omega);omega);have u3:=bO_ z ((2:Int):Rat) (by omega);have zz:=bK_ z ((2:Int):Rat);have u4:=eY_ (((m+2:Nat):Int):Rat) (z* ((2:Int):Rat)) (by have:=q8 (m+2) (by omega);unfold sm;omega) (by unfold sm;omega);have u5:=eY_ (stL z G4 (m+1)) (stR w (m+1)) (by unfold sm;omega) (by unfold sm;omega);have two:((2:Int):Rat)=2:=rfl;refine q_z 1 ?_;refine ab_ (cT (ag_ (ab_ (ae_ (r_z 2 ?_)))));refine ab_ (r_d hmix 10 ?_);refine c_s (u1) ?_;refine c_s (i1) ?_;refine c_s (u2) ?_;refine a_2 ?_;refine ak_ (n_k ?_);by_cases hP:stP z G4 w m=true;have hP2:=hP;unfold stP at hP2;rw[Bool.and_eq_true] at hP2;have g1:=of_decide_eq_true hP2.1;have g2:=of_decide_eq_true hP2.2;obtain⟨n1,n2⟩:=hnn m hm hb (.inr hP);rw[if_neg (by omega)] at n1;rw[decide_eq_true (by omega)] at n2;refine ab_ (r_d hmix 14 ?_);refine c_s (i2) ?_;refine c_s (u3) ?_;refine c_s (u4) ?_;refine o_0 (.bin rfl rfl (vT dr_ (decide_eq_true (rt_ (by rw[two];grind))))) ?_;refine c_s (u5) ?_;refine de_ rfl rfl rfl (.bin rfl rfl (vT cf_ (decide_eq_true (cmpQ_le.2 g2)))) rfl rfl ?_;refine a_1 ?_;refine ak_ (n_k ?_);refine cT (r_z 3 ?_);refine ad_ ?_;rw[n1,n2];refine Fin.many ⟨_,_,rfl,rfl,⟨_,_,rfl,rfl,rfl⟩⟩ (nle rfl) ?_;exact ah_ (au_ av_ (af_ _)) (ah_ (au_ av_ (af_ _)) aq_);have hP1:stP z G4 w m=false:=by simpa using hP
 have nx:∀j,j< m+1→stP z G4 w j=false:=fun j hj=>by
  by_cases e:j=m;rw[e];exact hP1;exact hb j (by omega)
 by_cases g1:z* ((2:Int):Rat)≤(((m+2:Nat):Int):Rat)
 have g2:¬stL z G4 (m+1)≤stR w (m+1):=fun e=>by
  apply hP;unfold stP;rw[decide_eq_true (show z* 2≤_ from by rw[←two];exact g1),decide_eq_true e];rfl
 refine ab_ (r_d hmix 14 ?_);refine c_s (i2) ?_;refine c_s (u3) ?_;refine c_s (u4) ?_;refine o_0 (.bin rfl rfl (vT dr_ (decide_eq_true (rt_ (by grind))))) ?_;refine c_s (u5) ?_;refine de_ rfl rfl rfl (.bin rfl rfl (vF cf_ (decide_eq_false (fun e=>g2 (cmpQ_le.1 e))))) rfl rfl ?_;refine a_1 ?_;refine ak_ (n_k ?_);refine cF (ag_ (r_m 2 ?_));refine a_z ?_;refine⟨m+1,by omega,⟨by omega,nx⟩,?_⟩;rw[znS.eq_1,stL,stR];exact s_e [(1,11),(2,14),(3,15),(4,16)];refine ab_ (r_d hmix 14 ?_);refine c_s (i2) ?_;refine c_s (u3) ?_;refine c_s (u4) ?_;refine o_0 (.bin rfl rfl (vF dr_ (decide_eq_false (by have:=cmpQ_lt.2 (show(((m+2:Nat):Int):Rat)< z* ((2:Int):Rat) by grind);omega)))) ?_;refine d_6 ?_;refine ak_ (n_k ?_);refine cF (ag_ (r_m 2 ?_));refine a_z ?_;refine⟨m+1,by omega,⟨by omega,nx⟩,?_⟩;rw[znS.eq_1,stL,stR];exact s_e [(1,11),(2,14),(3,15),(4,16)];have hge:m=41:=by omega
 subst hge;obtain⟨n1,n2⟩:=hnn 41 (Nat.le_refl _) hb (.inl rfl);refine q_z 1 ?_;refine ab_ (cF (ar_ ⟨(),⟨n1,n2⟩,?_⟩));exact s_e [];rintro _ ⟨n1,n2⟩;refine r_z 2 ?_;refine ad_ ?_;rw[n1,n2];refine Fin.many ⟨_,_,rfl,rfl,⟨_,_,rfl,rfl,rfl⟩⟩ (nle rfl) ?_;exact ah_ (au_ av_ (af_ _)) (ah_ (au_ av_ (af_ _)) aq_)
abbrev bEq(k:Ke)(l:Rat)(g:List Rat):AV:= .aptr [eqC k l g] 0 0
theorem cW_(k:Ke)(l:Rat)(g:List Rat):Closed (bEq k l g):=bg_ (bV_ k l g)
def teT(k:Ke)(l:Rat)(g:List Rat)(a:Rat)(j:Nat):Option (List AV):=some [.arr (pE (teK k g l a j))]
structure OkTe (k:Ke)(l:Rat)(a:Rat)(u:List Rat):Prop where
 up:okUpK k a u
 us:smL (upK k a u)
 ul:(upK k a u).length≤1099511627776
theorem gs_terms(k:Ke)(l:Rat)(g:List Rat)(a:Rat)(K:Nat)(hkl:k.length≤1000)(hl:sm l)(hok:∀j,j< K→OkTe k l a (teK k g l a j)):GSpecB Tryz.prog 225 [bEq k l g,bQ a] (teT k l g a) K:=by
 have hcl:=bV_ k l g;have hbe:Closed (bEq k l g):=cW_ k l g;refine GSpecB.enter Tryz.func225 rfl (by kernel_rfl) rfl rfl rfl ?_ ?_ rfl ?_;exact aa_ (cW_ k l g) (aa_ (b0_ a) ac_);intro j xs h;cases h;exact aa_ (ap_ _) ac_;intro ll N hN E;refine GWp.seq ?_;refine GWp.lift ?_;refine r_m 3 ?_;refine a_z ?_;refine GWp.block ?_;refine GWp.loopS (fun j:Nat=>⟨[(0,.v (.func (.yield ll) #[] #[])),(1,bEq k l g),(2,bQ a),(4,.arr (pE (teK k g l a j)))],[],1,18⟩) (fun j=>j) (fun j=>N+1- j) (fun j=>j≤N) 0 (Nat.zero_le _) rfl ?_ ?_;have:=cW_ k l g;exact s_f [];intro j hj;refine GWp.seq ?_;refine GWp.seq ?_;refine GWp.regY (fr2:=[(0,.v (.func (.yield ll) #[] #[])),(1,bEq k l g),(2,bQ a),(4,.arr (pE (teK k g l a j))),(7,.v (.func (.yield ll) #[] #[])),(8,.arr (pE (teK k g l a j)))]) (hp2:=[]) (nx2:=1) 2 rfl rfl rfl rfl rfl rfl ?_ rfl rfl rfl ?_ ?_ ?_;refine o_0 (.move rfl) ?_;refine o_0 (.move rfl) ?_;refine ak_ ?_;exact s_y [] (fun hs=>au_f) (fun hs=>au_h);rotate_left 2;intro go;refine ak_ ?_;rotate_left;rfl;exact aa_ (ap_ _) ac_;cases go with
 |false=>
  refine GWp.cond rfl (fun h=>?_) (fun h=>?_);cases h;exact GWp.exit ⟨.inl rfl,fun h=>by cases h⟩
 |true=>
  refine GWp.bound fun hk1=>?_;refine GWp.cond rfl (fun h=>?_) (fun h=>?_);rotate_left;cases h;refine GWp.skip ?_;have ok:=hok j (by omega);have h1:=nA_ k a _ ok.up hkl;have h2:=cL_ _ l ok.us hl ok.ul;refine GWp.lift ?_;refine ae_ (r_d hmix 9 ?_);refine c_s (h1) ?_;refine c_s (h2) ?_;refine a_1 ?_;refine ak_ (n_k ?_);refine⟨rfl,j+1,by omega,hk1,rfl,?_⟩;rw[teK];have:=cW_ k l g;exact s_f []
theorem fs_terms(k:Ke)(l:Rat)(g:List Rat)(a:Rat):FS 108 [.agg (eqC k l g),.agg (qC a)] (.clos 225 [] [bEq k l g,bQ a]):=by
 have hcl:=bV_ k l g;refine f_c Tryz.func108 ?_;refine r_z 3 ?_;refine r_z 2 ?_;refine ad_ (⟨.inr rfl,[_],⟨_,[],rfl,rfl,rfl⟩,?_⟩);exact Cv.clos aq_ (ah_ (Cv.boxp av_ rfl (fun _ _ h=>by cases h) rfl hcl) (ah_ (Cv.boxp av_ rfl (fun _ _ h=>by cases h) rfl (aN_ a)) aq_))
structure OkVa (k:Ke)(l:Rat)(g:List Rat)(a x w:Rat)(n B:Nat):Prop where
 ke:okKe k
 dg:degP g≤20
 gl:g.length≤1099511627776
 sl:sm l
 wp:0< w
 te:∀j,j< n→OkTe k l a (teK k g l a j)
 ev:∀j,j≤n→b2_ (teK k g l a j) x
 su:∀j,j≤n+1→qs (suK k g l a x j)≤B
 eq:∀j,j≤n→qs (evalP (teK k g l a j) x)≤B
 wq:qs w≤B
 b:B≤100000000000
def vlS(k:Ke)(l:Rat)(g:List Rat)(a x w:Rat)(n:Nat):Nat→AState
 |j=>⟨[(6,.lptr 1 0 0),(7,.lptr 2 0 0),(8,.lptr 3 0 0),(11,.lptr 4 0 0),(13,.lptr 5 0 0),(40,.clos 225 [] [bEq k l g,bQ a])],[(1,some ⟨39,3,[qC x]⟩),(2,some ⟨39,3,[qC w]⟩),(3,some ⟨62,6,[zC++zC]⟩),(4,some ⟨3,1,[[i64 ((n:Int)- (j:Int))]]⟩),(5,some ⟨39,3,[qC (suK k g l a x j)]⟩)],6,61⟩
def vlX(k:Ke)(l:Rat)(g:List Rat)(a x w:Rat)(n:Nat):Unit→AState
 |u=>⟨[(7,.lptr 2 0 0),(8,.lptr 3 0 0),(13,.lptr 5 0 0)],[(2,some ⟨39,3,[qC w]⟩),(3,some ⟨62,6,[zC++zC]⟩),(5,some ⟨39,3,[qC (suK k g l a x (n+1))]⟩)],6,61⟩
theorem qP_(k:Ke)(l:Rat)(g:List Rat)(a x w:Rat)(n:Nat)(hke:okKe k)(hdg:degP g≤20)(hgl:g.length≤1099511627776)(wp:0< w)(hst:FS 107 [.agg (eqC k l g),.agg (qC a),.agg (qC x),.agg (qC w)] (.tup [i64 n,bln false])):
    FS 26 [.agg (eqC k l g),.agg (qC a),.agg (qC x),.agg (qC w)] (.tup [.agg (spC 0 0),i64 5]):=by
 have hcl:=bV_ k l g;have hw:=gJ_ k l g hke hdg hgl;refine f_c Tryz.func26 ?_;refine r_z 6 ?_;refine r_z 5 ?_;refine ab_ (r_c 7 (hw) ?_);refine c_s (bP_ w) ?_;refine de_ rfl rfl rfl (.bin rfl rfl (vF cf_ (decide_eq_false (by have:=sgZ_num_gt.2 wp;omega)))) rfl rfl ?_;refine a_z ?_;refine cF (ag_ (r_c 11 (hst) ?_));refine a_z ?_;refine ab_ (r_z 2 ?_);refine cT (r_z 3 ?_);refine ad_ ?_;rw[spC00];refine Fin.many ⟨_,_,rfl,⟨_,_,_,_,_,rfl,rfl,rfl,.inl ⟨TG.h,_,TS.h,nle rfl,rfl⟩⟩,⟨_,_,rfl,rfl,rfl⟩⟩ (nle rfl) ?_;exact ah_ (Cv.agg (ah_ (Cv.emp _) (ah_ (au_ av_ (af_ _)) (ah_ (Cv.emp _) (ah_ (Cv.emp _) (ah_ (au_ av_ (af_ _)) (ah_ (Cv.emp _) aq_))))))) (ah_ (au_ av_ (af_ _)) aq_)
theorem fs_Value(k:Ke)(l:Rat)(g:List Rat)(a x w:Rat)(n B:Nat)(hn:n≤40)(ok:OkVa k l g a x w n B)(hst:FS 107 [.agg (eqC k l g),.agg (qC a),.agg (qC x),.agg (qC w)] (.tup [i64 n,bln true])):
    FS 26 [.agg (eqC k l g),.agg (qC a),.agg (qC x),.agg (qC w)] (.tup [.agg (spC (suK k g l a x (n+1)- w/ 2) (suK k g l a x (n+1)+w/ 2)),i64 0]):=by
 have hcl:=bV_ k l g;have hbe:Closed (bEq k l g):=cW_ k l g;have hkl:=ok.ke.1;have hb:=ok.b;have hw:=gJ_ k l g ok.ke ok.dg ok.gl;have hgs:=gs_terms k l g a n (by omega) ok.sl ok.te;refine f_c Tryz.func26 ?_;refine r_z 6 ?_;refine r_z 5 ?_;refine ab_ (r_c 7 (hw) ?_);refine c_s (bP_ w) ?_;refine de_ rfl rfl rfl (.bin rfl rfl (vF cf_ (decide_eq_false (by have:=sgZ_num_gt.2 ok.wp;omega)))) rfl rfl ?_;refine a_z ?_;refine cF (ag_ (r_c 11 (hst) ?_));refine a_z ?_;refine ab_ (r_z 2 ?_);refine cF (ag_ (r_z 1 ?_));refine ab_ (r_c 3 (fs_terms k l g a) ?_);refine ak_ ?_;refine ay_ (vlX k l g a x w n) (fun _=>True) ?_ ?_;refine ae_ (AWp.rangeFuncB (α:=Nat) (γ:=Unit) n (vlS k l g a x w n) (fun j=>j) (fun j=>j≤n) (vlX k l g a x w n) (fun e _=>e= .exit 0) 0 rfl hgs rfl rfl ?_ (fun _=>⟨rfl,rfl⟩) (fun _=>rfl) (Nat.zero_le _) rfl (fun _ h=>h) ?_ ?_ ?_ ?_ ?_);intro j xs hT;cases hT;rfl;rw[vlS.eq_1,suK,qC0];exact s_y [(1,6),(2,7),(3,8),(4,11),(5,13)] (fun hs=>e_29) (fun hs=>e_30);exact aa_ (cW_ k l g) (aa_ (b0_ a) ac_);intro ll j xs hj hT;cases hT;have ev:=c5_ (teK k g l a j) x (ok.ev j hj);have q1:=ok.su j (by omega);have q2:=ok.eq j hj;have ad:=c4_ (suK k g l a x j) (evalP (teK k g l a j) x) (by omega)
 show AWp _ _ _ _ ⟨[(41,.arr (pE (teK k g l a j))),(6,.lptr 1 0 0),(7,.lptr 2 0 0),(8,.lptr 3 0 0),(11,.lptr 4 0 0),(13,.lptr 5 0 0),(40,.clos 225 [] [bEq k l g,bQ a]),(1006,.lptr 1 0 0),(1007,.lptr 2 0 0),(1008,.lptr 3 0 0),(1011,.lptr 4 0 0),(1013,.lptr 5 0 0),(1040,.clos 225 [] [bEq k l g,bQ a])],[(1,some ⟨39,3,[qC x]⟩),(2,some ⟨39,3,[qC w]⟩),(3,some ⟨62,6,[zC++zC]⟩),(4,some ⟨3,1,[[i64 ((n:Int)- (j:Int))]]⟩),(5,some ⟨39,3,[qC (suK k g l a x j)]⟩)],6,61⟩;refine r_m 1 ?_;refine a_z ?_;refine ae_ (ab_ (r_d hmix 6 ?_));refine c_s (ev) ?_;refine c_s (ad) ?_;refine a_1 ?_;refine ak_ (n_k ?_);refine r_z 3 ?_;by_cases he:j=n;refine q_z 2 ?_;refine cT (ar_ (⟨rfl,(),rfl,?_⟩));rw[←suK,he];show SEntT _ ⟨[(1007,.lptr 2 0 0),(1008,.lptr 3 0 0),(1013,.lptr 5 0 0)],[(2,some ⟨39,3,[qC w]⟩),(3,some ⟨62,6,[zC++zC]⟩),(5,some ⟨39,3,[qC (suK k g l a x (n+1))]⟩)],6,61⟩;exact s_y [] (fun hs=>au_f) (fun hs=>au_h);refine q_z 2 ?_;refine cF (ag_ (⟨j+1,⟨by omega,rfl⟩,?_⟩));show SEntT _ ⟨[(1006,.lptr 1 0 0),(1007,.lptr 2 0 0),(1008,.lptr 3 0 0),(1011,.lptr 4 0 0),(1013,.lptr 5 0 0),(1040,.clos 225 [] [bEq k l g,bQ a])],[(1,some ⟨39,3,[qC x]⟩),(2,some ⟨39,3,[qC w]⟩),(3,some ⟨62,6,[zC++zC]⟩),(4,some ⟨3,1,[[i64 ((n:Int)- ((j+1):Int))]]⟩),(5,some ⟨39,3,[qC (suK k g l a x (j+1))]⟩)],6,61⟩;rw[←suK];exact s_y [] (fun hs=>e_29) (fun hs=>e_30);intro j hj hT;cases hT;rintro e u rfl;exact⟨u,trivial,SEnt.refl _⟩;rintro _ _;have q1:=ok.su (n+1) (Nat.le_refl _);have q3:=ok.wq;have i2:=cq_ 2 (by decide)
 rw[show((2:Int):Rat)=2 from rfl] at i2;have qd:=d6_ w 2;have q2:qs (2:Rat)≤2:=by decide
 have ov:=fs_eover w 2 (by decide) (by omega);have s1:=g4_ (suK k g l a x (n+1)) (w/ 2) (by omega);have s2:=c4_ (suK k g l a x (n+1)) (w/ 2) (by omega);rw[vlX.eq_1];refine ab_ (r_d hmix 5 ?_);refine c_s (i2) ?_;refine c_s (ov) ?_;refine a_2 ?_;refine ak_ (n_k ?_);refine ab_ (r_d hmix 9 ?_);refine c_s (s1) ?_;refine c_s (s2) ?_;refine a_3 ?_;refine ak_ (n_k ?_);refine ad_ (Fin.many ⟨_,_,rfl,⟨_,_,_,_,_,rfl,rfl,rfl,.inl ⟨TG.h,_,TS.h,nle rfl,rfl⟩⟩,⟨_,_,rfl,rfl,rfl⟩⟩ (nle rfl) ?_);exact ah_ (au_ av_ (aP_ _ _)) (ah_ (au_ av_ (af_ _)) aq_)
theorem q0_(p q:List Rat)(h:okDiv p q)(h0:trimQ q≠[]):FS 333 [.arr (pE p),.arr (pE q)] (.tup [.arr (pE (divP p q).1),.arr (pE (divP p q).2),i64 0]):=by
 have hl:=h.2.2;refine f_c Tryz.func333 ?_;refine r_z 3 ?_;refine ab_ (r_c 3 (bc_ q (by omega)) ?_);refine a_z ?_;refine ai_ rfl (fun h1=>?_) (fun h1=>?_);exact absurd (degP_neg.1 (by simpa using h1)) h0;refine ag_ (r_c 8 (fb_ p q (mxL p) (mxL q) (bB_ p) (bB_ q) (br_ p) (br_ q) h.1 h0 h.2.1 h.2.2) ?_);refine a_z ?_;refine r_z 5 ?_;refine ad_ (Fin.many ⟨_,_,rfl,rfl,⟨_,_,rfl,rfl,⟨_,_,rfl,rfl,rfl⟩⟩⟩ (nle rfl) ?_);exact ah_ (au_ av_ (ap_ _)) (ah_ (au_ av_ (ap_ _)) (ah_ (au_ av_ (af_ _)) aq_))



def ph_:List Nat→AState
 |l=>⟨[(0,.arr (iE l))],[],1,15⟩
theorem ek_(l:List Nat):ph_ l=⟨[(0,.arr (iE l))],[],1,15⟩:=rfl
theorem ea_(l:List Nat)(hl:l.length≤281474976710656):FS 338 [.arr (iE l)] (.arr (iE (dD_ l))):=by
 refine f_c Tryz.func338 ?_;refine r_z 1 ?_;refine a2_ ph_ (fun m=>m=dD_ l) ?_ ?_;refine ae_ (as_ ph_ (fun m=>m.length) (fun m=>m.length≤281474976710656∧dD_ m=dD_ l) l ⟨hl,rfl⟩ ?_ ?_);simp only[ek_];exact s_e [];rintro m ⟨hm,he⟩;rw[ek_];cases m with
 |nil=>
  refine ab_ (s_r 9 ?_);refine a_4 ?_;refine n_g rfl d_f ?_;refine n_g rfl d_f ?_;refine n_g rfl d_f ?_;refine n_g rfl d_f ?_;refine o_0 (.pickF rfl d_f rfl) ?_;refine ak_ ?_;refine cF ?_;refine ar_ ⟨[],by simpa[dD_] using he,?_⟩;simp only[ek_];exact s_e []
 |cons d m=>
  have hd:(iE (d::m))[(0:Int).toNat]?=some [i64 d]:=rfl;refine ab_ (s_r 9 ?_);refine a_4 ?_;refine y_g rfl (by simp) (.move rfl) ?_
  first|refine y_g rfl (by simp) (.index_l rfl rfl (by omega) (by omega) te_40.h) ?_|refine y_g rfl (by simp) (.index_a rfl rfl (by omega) hd rfl te_40.h) ?_
  first|refine y_g rfl (by simp) (.load_l1 rfl rfl hd TG.h rfl) ?_|refine y_g rfl (by simp) (.load_a1 rfl hd TG.h rfl) ?_
  refine y_g rfl (by simp) (.bin rfl rfl bF_) ?_;refine o_0 (.pickT rfl (by simp) rfl) ?_;refine ak_ ?_;refine ai_ rfl (fun h=>?_) (fun h=>?_);have h0:d=0:=by simpa using h
  refine ag_ ?_;subst h0;refine ae_ (r_m 3 ?_);refine a_1 ?_;refine o_0 (.sa_l rfl rfl rfl (by simp) te_40.h (fT_ _)) ?_;refine a_z ?_;refine⟨m,by simp,⟨by simp at hm;omega,by simpa[dD_] using he⟩,?_⟩;simp only[ek_];exact s_e [];have h0:d≠0:=by simpa using h
  refine ar_ ⟨d::m,by rw[←he];simp[dD_,h0],?_⟩;simp only[ek_];exact s_e []
 rintro m rfl;rw[ek_];refine r_z 2 ?_;exact ad_ (t_e (cA_ _))
theorem ip_(s:Int)(l:List Nat)(z:Int)(hl:l.length≤281474976710656)(hd:∀d∈l,d< UB)(hz:hv l=z.natAbs)(hs:z≠0→s=sgZ z):FS 296 [i64 s,.arr (iE l)] (.agg (zZ z)):=by
 refine f_c Tryz.func296 ?_;refine r_z 1 ?_;refine r_c 3 (ea_ l hl) ?_;refine a_z ?_;refine ab_ (r_z 3 ?_);refine ai_ rfl (fun h=>?_) (fun h=>?_)
 have h0:dD_ l=[]:=by
  have:(dD_ l).length=0:=by simpa using h
  exact List.length_eq_zero_iff.1 this
 have hz0:z=0:=by have:=(jj_ hd).1 h0;omega
 subst hz0;refine r_z 2 ?_;refine ad_ (Fin.cell rfl rfl rfl TG.h TS.h (nle rfl) ?_);rw[zZ_zero];exact Cv.agg (ah_ (au_ av_ (af_ _)) (ah_ (Cv.emp _) aq_));have h0:dD_ l≠[]:=fun e=>by rw[e] at h;simp at h
 have hz0:z≠0:=by
  intro e;subst e;exact h0 ((jj_ hd).2 hz)
 refine ag_ (r_z 4 ?_);refine ad_ (cc_ rfl rfl rfl TG.h TS.h (nle rfl) ?_ ?_);show AV.agg [i64 s,.arr (iE (dD_ l))]=_;unfold zZ;rw[hs hz0,cY_ hd,hz];exact cm_ _
theorem zZ_neg(z:Int):zZ (-z)=[i64 (-sgZ z),.arr (iE (zd z.natAbs))]:=by
 unfold zZ;rw[Int.natAbs_neg];congr 2;unfold sgZ;split <;> split <;>(try split)<;>(try split)<;> omega
theorem cZ_(z:Int):sgZ z= -1∧z< 0∨sgZ z=0∧z=0∨sgZ z=1∧0< z:=by
 unfold sgZ;split;right;left;exact⟨rfl,by assumption⟩;split;left;exact⟨rfl,by assumption⟩;right;right;exact⟨rfl,by omega⟩
theorem qO_(z:Int):FS 240 [.agg (zZ z)] (.agg (zZ (-z))):=by
 have hs:=cZ_ z;have hc:=cm_ (-z);rw[zZ_neg] at hc⊢;refine f_c Tryz.func240 ?_;refine r_z 2 ?_;refine r_z 7 ?_;exact ad_ (c_e (hc))
theorem ko_(l:List Nat)(i:Nat)(hl:l.length≤281474976710656):FS 353 [.arr (iE l),i64 i] (i64 (l.reverse[i]?.getD 0:Nat)):=by
 refine f_c Tryz.func353 ?_;refine r_z 1 ?_;refine ab_ (r_z 4 ?_);refine ai_ rfl (fun h=>?_) (fun h=>?_);have hi:l.length≤i:=by simpa using h
 refine r_z 1 ?_;refine ad_ (aE_ rfl ?_ (af_ _));rw[List.getElem?_eq_none (by simpa using hi)];rfl;have hi:i< l.length:=by simp at h;omega
 refine ag_ ?_;obtain⟨d,hd⟩:∃d,l[l.length- 1- i]?=some d:=⟨_,List.getElem?_eq_getElem (by omega)⟩;have hd':(iE l)[((l.length:Int)- 1- i).toNat]?=some [i64 d]:=by rw[show((l.length:Int)- 1- i).toNat=l.length- 1- i by omega];exact fG_ hd
 refine s_r 9 ?_;refine a_6 ?_;refine i_x hd' ?_;refine l_1 hd' ?_;refine a_z ?_;refine ad_ (aE_ rfl ?_ (af_ _));rw[List.getElem?_reverse hi,hd];rfl
theorem oE_(a b:List Nat):FS 352 [.arr (iE a),.arr (iE b)] (i64 (max a.length b.length:Nat)):=by
 refine f_c Tryz.func352 ?_;refine r_z 1 ?_;refine ab_ (r_z 5 ?_);refine ai_ rfl (fun h=>?_) (fun h=>?_);refine r_z 3 ?_;refine ad_ (aE_ rfl ?_ (af_ _));have:b.length< a.length:=by simpa using h
 simp[i64];omega;refine ag_ (r_z 3 ?_);refine ad_ (aE_ rfl ?_ (af_ _));have:¬b.length< a.length:=by simpa using h
 simp[i64];omega
def rH_(a:Nat)(b:Nat):Nat→AState
 |i=>⟨[(0,.arr (iE (zd a))),(1,.arr (iE (zd b))),(5,i64 i)],[],1,40⟩
theorem m0_{n i d:Nat}(h:(digs UB n)[i]?=some d):(zd n)[(digs UB n).length- 1- i]?=some d:=by
 have hi:i< (digs UB n).length:=(List.getElem?_eq_some_iff.1 h).1;unfold zd;rw[List.getElem?_reverse (by omega),show(digs UB n).length- 1- ((digs UB n).length- 1- i)=i by omega];exact h
theorem fs_ahead(a b:Nat)(ha:(zd a).length≤281474976710656)(hb:(zd b).length≤281474976710656):FS 328 [.arr (iE (zd a)),.arr (iE (zd b))] (i64 (cmpZ a b)):=by
 have hza:=bw_ a;have hzb:=bw_ b;refine f_c Tryz.func328 ?_;refine r_z 1 ?_;refine ab_ (r_z 5 ?_);refine ai_ rfl (fun h=>?_) (fun h=>?_);have hne:(zd a).length≠(zd b).length:=by simp at h;omega
 refine ab_ (r_z 5 ?_);refine ai_ rfl (fun h1=>?_) (fun h1=>?_);refine r_z 1 ?_;refine ad_ (aE_ rfl ?_ (af_ _));have hl:(zd a).length< (zd b).length:=by simpa using h1
 rw[f0_];rfl;have:=en_ (b:=UB) (by decide) (show(digs UB a).length< (digs UB b).length by omega);omega;refine ag_ (r_z 1 ?_);refine ad_ (aE_ rfl ?_ (af_ _));have hl:(zd b).length< (zd a).length:=by simp at h1;omega
 rw[gT_];rfl;have:=en_ (b:=UB) (by decide) (show(digs UB b).length< (digs UB a).length by omega);omega;have heq:(digs UB a).length=(digs UB b).length:=by simp at h;omega
 refine ag_ (ab_ (r_z 1 ?_));refine ay_ (rH_ a b) (fun _=>a=b) ?_ ?_;refine ae_ (as_ (rH_ a b) (fun i=>(digs UB a).length- i) (fun i=>i≤(digs UB a).length∧(digs UB a).drop ((digs UB a).length- i)=(digs UB b).drop ((digs UB a).length- i)) 0 ⟨Nat.zero_le _,by rw[Nat.sub_zero,List.drop_length,heq,List.drop_length]⟩ ?_ ?_);simp only[rH_.eq_1];exact s_e [];rintro i ⟨hi,hd⟩;rw[rH_.eq_1];refine ab_ (r_z 4 ?_);refine ai_ rfl (fun h=>?_) (fun h=>?_);have hlt:i< (digs UB a).length:=by simp at h;omega
 obtain⟨k,hk⟩:∃k,k=(digs UB a).length- 1- i:=⟨_,rfl⟩;have hk1:(digs UB a).length- i=k+1:=by omega
 rw[hk1] at hd;obtain⟨x,hx⟩:∃x,(digs UB a)[k]?=some x:=⟨_,List.getElem?_eq_getElem (by omega)⟩;obtain⟨y,hy⟩:∃y,(digs UB b)[k]?=some y:=⟨_,List.getElem?_eq_getElem (by omega)⟩
 have hx':(iE (zd a))[((i:Nat):Int).toNat]?=some [i64 x]:=by
  have:=m0_ hx;rw[show(digs UB a).length- 1- k=i by omega] at this;exact fG_ this
 have hy':(iE (zd b))[((i:Nat):Int).toNat]?=some [i64 y]:=by
  have:=m0_ hy;rw[show(digs UB b).length- 1- k=i by omega] at this;exact fG_ this
 refine ag_ (ab_ (ae_ (ab_ (ab_ (r_d hmix 9 ?_)))));refine a_2 ?_;refine i_x hx' ?_;refine l_1 hx' ?_;refine a_2 ?_;refine i_x hy' ?_;refine l_1 hy' ?_;refine a_1 ?_;refine ak_ (n_k ?_);refine ai_ rfl (fun h1=>?_) (fun h1=>?_);refine r_z 1 ?_;refine ad_ (aE_ rfl ?_ (af_ _));have hxy:x< y:=by simpa using h1
 have:=gf_ (fun d hd=>b8_ (by decide) a d hd) hx hy hd hxy;rw[aO_ (by decide),aO_ (by decide)] at this;rw[f0_ (by omega)];rfl;refine ag_ (ab_ (r_d hmix 9 ?_));refine a_2 ?_;refine i_x hx' ?_;refine l_1 hx' ?_;refine a_2 ?_;refine i_x hy' ?_;refine l_1 hy' ?_;refine a_1 ?_;refine ak_ (n_k ?_);refine ai_ rfl (fun h2=>?_) (fun h2=>?_);refine r_z 1 ?_;refine ad_ (aE_ rfl ?_ (af_ _));have hxy:y< x:=by simpa using h2
 have:=gf_ (fun d hd=>b8_ (by decide) b d hd) hy hx hd.symm hxy;rw[aO_ (by decide),aO_ (by decide)] at this;rw[gT_ (by omega)];rfl;have hxy:x=y:=by simp at h1 h2;omega
 subst hxy;refine ag_ (r_m 3 ?_);refine a_z ?_;refine⟨i+1,by omega,⟨by omega,?_⟩,?_⟩;rw[show(digs UB a).length- (i+1)=k by omega,c8_ hx,c8_ hy,hd];simp only[rH_.eq_1];exact s_e [];have hge:i=(digs UB a).length:=by simp at h;omega
 refine ar_ ⟨i,?_,?_⟩;subst hge;rw[Nat.sub_self,List.drop_zero,List.drop_zero] at hd;rw[←aO_ (b:=UB) (by decide) a,←aO_ (b:=UB) (by decide) b,hd];simp only[rH_.eq_1];exact s_e [];rintro i rfl;rw[rH_.eq_1];refine r_z 1 ?_;refine ad_ (aE_ rfl ?_ (af_ _));rw[rs_ rfl];rfl
def bothS(a:Nat)(b:Nat)(k:Int)(N:Nat):List Nat×Int→AState
 |(s,c)=>⟨[(0,.arr (iE (zd a))),(1,.arr (iE (zd b))),(2,i64 k),(7,i64 N),(8,.lsl 1 0 N (some N) 1),(9,i64 c),(10,i64 s.length)],[(1,some ⟨3,1,iE (List.replicate (N- s.length) 0++s.reverse)⟩)],2,51⟩
def bothT(a:Nat)(b:Nat)(k:Int)(N:Nat)(s:List Nat):Int×Int→AState
 |(x,c)=>⟨[(0,.arr (iE (zd a))),(1,.arr (iE (zd b))),(2,i64 k),(7,i64 N),(8,.lsl 1 0 N (some N) 1),(9,i64 c),(10,i64 s.length),(11,i64 x)],[(1,some ⟨3,1,iE (List.replicate (N- s.length) 0++s.reverse)⟩)],2,51⟩
theorem qL_(a b:Nat)(k:Int)(r:Nat)(hk:k=1∨k= -1)(hr:(r:Int)=a+k* b)(ha:(zd a).length≤17592186044416)(hb:(zd b).length≤17592186044416):FS 327 [.arr (iE (zd a)),.arr (iE (zd b)),i64 k] (.arr (iE (zd r))):=by
 have hza:=bw_ a;have hzb:=bw_ b;obtain⟨N,hN⟩:∃N,N=max (zd a).length (zd b).length+1:=⟨_,rfl⟩;refine f_c Tryz.func327 ?_;refine r_z 1 ?_;refine r_c 5 (oE_ (zd a) (zd b)) ?_;refine a_z ?_;have hNI:((max (zd a).length (zd b).length:Nat):Int)+1=(N:Int):=by omega
 refine s_r 3 ?_;refine a_1 ?_;refine o_1 (.makeSlice (congrArg (fun z=>some (AV.v (.int .i64 z))) hNI) (congrArg (fun z=>some (AV.v (.int .i64 z))) hNI) te_40.h TZ.h rfl TB.h (by first|omega|(simp;done)|(simp;omega)) (by first|omega|(simp;done)|(simp;omega)) (by unfold maxLen;first|omega|(simp;done)|(simp;omega))) ?_;refine a_z ?_;refine r_z 1 ?_;refine ab_ (r_z 1 ?_)
 have hdl:=cK_ (b:=UB) (by decide) (n:=r) (k:=N) (by
  have h1:=dx_ (b:=UB) (b8_ (by decide) a);have h2:=dx_ (b:=UB) (b8_ (by decide) b);rw[aO_ (by decide)] at h1 h2;have h3:UB^ (digs UB a).length≤UB^ (N- 1):=Nat.pow_le_pow_right (by decide) (by omega);have h4:UB^ (digs UB b).length≤UB^ (N- 1):=Nat.pow_le_pow_right (by decide) (by omega);have h5:UB^ N=UB^ (N- 1) * UB:=by rw[←Nat.pow_succ];congr 1;omega
  rw[h5];show r< UB^ (N- 1) * 32768;rcases hk with rfl|rfl <;> omega)
 have hrN:r< UB^ N:=by
  have h1:=dx_ (b:=UB) (b8_ (by decide) r);rw[aO_ (by decide)] at h1;exact Nat.lt_of_lt_of_le h1 (Nat.pow_le_pow_right (by decide) hdl)
 refine ay_ (fun s:List Nat=>⟨[(8,.lsl 1 0 N (some N) 1)],[(1,some ⟨3,1,iE s.reverse⟩)],2,51⟩) (fun s=>s.length=N∧(∀d∈s,d< UB)∧ofD UB s=r) ?_ ?_;refine ae_ (as_ (bothS a b k N) (fun x=>N- x.1.length) (fun x=>x.1.length≤N∧(∀d∈x.1,d< UB)∧(x.2= -1∨x.2=0∨x.2=1)∧((ofD UB x.1:Nat):Int)+((UB^ x.1.length:Nat):Int) * x.2=(ofD UB ((digs UB a).take x.1.length):Nat)+k* (ofD UB ((digs UB b).take x.1.length):Nat)) ([],0) ⟨by simp,by simp,by simp,by simp[ofD]⟩ ?_ ?_);simp only[bothS.eq_1];exact s_e [(1,8)];rintro⟨s,c⟩ ⟨hs,hd,hc,hval⟩;simp only at hs hd hc hval;simp only[bothS.eq_1];refine ab_ (r_z 3 ?_);refine ai_ rfl (fun h=>?_) (fun h=>?_);have hlt:s.length< N:=by simpa using h
 refine ag_ ?_;obtain⟨x,hx⟩:∃x,x=(digs UB a)[s.length]?.getD 0:=⟨_,rfl⟩;obtain⟨y,hy⟩:∃y,y=(digs UB b)[s.length]?.getD 0:=⟨_,rfl⟩
 have hx1:x< 32768:=by
  rw[hx];cases hh:(digs UB a)[s.length]? with
  |none=>decide
  |some d=>exact be_ (by decide) hh
 have hy1:y< 32768:=by
  rw[hy];cases hh:(digs UB b)[s.length]? with
  |none=>decide
  |some d=>exact be_ (by decide) hh
 have hda:=ko_ (zd a) s.length (by omega);have hdb:=ko_ (zd b) s.length (by omega);unfold zd at hda hdb;rw[List.reverse_reverse,←hx] at hda;rw[List.reverse_reverse,←hy] at hdb;have hky: -32768< k* y∧k* y< 32768:=by rcases hk with rfl|rfl <;> omega
 obtain⟨X,hX⟩:∃X:Int,X=x+k* y+c:=⟨_,rfl⟩;have hXr: -32768≤X∧X≤65536:=by omega
 refine ab_ (ae_ (r_c 12 (hda) ?_));refine c_s (hdb) ?_;refine a_z ?_;refine r_z 1 ?_;refine a2_ (bothT a b k N s) (fun v=>v.1=(if X< 0 then X+32768 else X)∧v.2=(if X< 0 then -1 else 0)) ?_ ?_;refine r_z 2 ?_;refine ai_ rfl (fun h1=>?_) (fun h1=>?_);have hX0:X< 0:=by rw[hX];simpa using h1
 refine r_z 3 ?_;refine r_m 1 ?_;refine a_z ?_;refine⟨(X+32768,-1),⟨by rw[if_pos hX0],by rw[if_pos hX0]⟩,?_⟩;simp only[bothT.eq_1];exact s_x [] (fun hs=>e_32) (fun hs=>e_33) e_31;have hX0:¬X< 0:=by rw[hX];simpa using h1
 refine ag_ ⟨(X,0),⟨by rw[if_neg hX0],by rw[if_neg hX0]⟩,?_⟩;simp only[bothT.eq_1];exact s_x [] (fun hs=>e_32) (fun hs=>e_33) e_31;rintro⟨X1,c1⟩ ⟨hX1,hc1⟩;simp only at hX1 hc1;rw[bothT.eq_1];refine a2_ (bothT a b k N s) (fun v=>v.1=X % 32768∧v.2=X/ 32768) ?_ ?_;refine r_z 2 ?_;refine ai_ rfl (fun h1=>?_) (fun h1=>?_);have h2:32768≤X1:=by simpa using h1
 have hX1r:X1≤65536:=by rw[hX1];split <;> omega
 refine r_z 3 ?_;refine r_m 1 ?_;refine a_z ?_;have hX0:¬X< 0:=by intro h0;rw[if_pos h0] at hX1;omega
 rw[if_neg hX0] at hX1;refine⟨(X1- 32768,1),⟨by simp only;omega,by simp only;omega⟩,?_⟩;simp only[bothT.eq_1];exact s_e []
 ·have h2:X1< 32768:=by simp at h1;omega
  refine ag_ ⟨(X1,c1),⟨by rw[hX1] at h2⊢;simp only;split <;> rename_i h3 <;> simp only[h3,if_true,if_false] at h2 <;> omega,by rw[hX1] at h2;rw[hc1];simp only;split <;> rename_i h3 <;> simp only[h3,if_true,if_false] at h2 <;> omega⟩,?_⟩;simp only[bothT.eq_1];exact s_e []
 rintro⟨X2,c2⟩ ⟨hX2,hc2⟩;simp only at hX2 hc2;rw[bothT.eq_1];obtain⟨d,hdX⟩:∃d:Nat,X2=d:=⟨X2.toNat,by omega⟩;have hd1:d< 32768:=by omega
 subst hdX;have hlen:(List.replicate (N- s.length) 0++s.reverse).length=N:=by simp;omega
 have hrep:List.replicate (N- s.length) 0=List.replicate (N- (s.length+1)) 0++[0]:=by
  rw[show N- s.length=(N- (s.length+1))+1 by omega,List.replicate_succ']
 have hget:(iE (List.replicate (N- s.length) 0++s.reverse))[0+((N:Int)- 1- s.length).toNat]?=some [i64 0]:=by
  rw[show 0+((N:Int)- 1- s.length).toNat=N- (s.length+1) by omega];refine fG_ ?_;rw[hrep,List.append_assoc];exact in_ _ _ _ _ (by simp)
 have hset:(iE (List.replicate (N- s.length) 0++s.reverse)).set (0+((N:Int)- 1- s.length).toNat) [i64 d]=iE (List.replicate (N- (s++[d]).length) 0++(s++[d]).reverse):=by
  rw[show 0+((N:Int)- 1- s.length).toNat=N- (s.length+1) by omega,ii_,hrep,List.append_assoc];simp only[List.singleton_append,List.length_append,List.length_cons,List.length_nil,List.reverse_append,List.reverse_cons,List.reverse_nil,List.nil_append];rw[hV_ _ _ _ _ _ (by simp)];simp
 refine r_m 8 ?_;refine a_7 ?_;refine o_1n (.store rfl rfl hget rfl rfl rfl TS.h (nle rfl)) ?_;refine ak_ ?_;refine r_m 3 ?_;refine a_z ?_;refine⟨(s++[d],c2),by simp;omega,⟨by simp;omega,?_,by simp only;omega,?_⟩,?_⟩;intro e he;rcases List.mem_append.1 he with he|he
 exact hd e he;simp at he;subst he;exact hd1;simp only[List.length_append,List.length_cons,List.length_nil,Nat.zero_add];rw[dE_,cl_,cl_,←hx,←hy,Nat.pow_succ];obtain⟨B,hB⟩:∃B,B=UB^ s.length:=⟨_,rfl⟩;rw[←hB] at hval⊢;have hXX:X=32768* c2+d:=by omega
 have hBX:(B:Int) * X=B* x+k* (B* y)+B* c:=by
  rw[hX,Int.mul_add,Int.mul_add,Int.mul_left_comm]
 rw[hXX,Int.mul_add] at hBX;have e1:((B* 32768:Nat):Int) * c2=B* (32768* c2):=by rw[Int.natCast_mul,Int.mul_assoc];rfl
 have e2:k* ((ofD UB ((digs UB b).take s.length)+B* y:Nat):Int)=k* (ofD UB ((digs UB b).take s.length):Nat)+k* (B* y):=by
  rw[Int.natCast_add,Int.mul_add,Int.natCast_mul]
 show((ofD UB s+B* d:Nat):Int)+((B* 32768:Nat):Int) * c2=_;rw[e1,e2,Int.natCast_add,Int.natCast_add,Int.natCast_mul,Int.natCast_mul];omega;simp only[bothS.eq_1];refine s_x [] (fun hs=>au_f) (fun hs=>?_) e_34
 ·repeat' (first|exact aC_|refine h_c ?_ ?_|exact aJ_ hs hset (bR_ _)|exact au_e)
 have hge:s.length=N:=by simp at h;omega
 refine ar_ ⟨s,⟨hge,hd,?_⟩,?_⟩;rw[hge,List.take_of_length_le (by omega),List.take_of_length_le (by omega),aO_ (by decide),aO_ (by decide),←hr] at hval;have hsl:=dx_ hd;rw[hge] at hsl;obtain⟨B,hB⟩:∃B,B=UB^ N:=⟨_,rfl⟩;rw[←hB] at hval hsl hrN;rcases hc with rfl|rfl|rfl <;> omega
 have e:iE (List.replicate (N- s.length) 0++s.reverse)=iE s.reverse:=by rw[hge];simp
 refine s_x [] (fun hs=>au_f) (fun hs=>e_35) ?_
 ·repeat' (first|exact ShrL.nil|refine ShrL.cons rfl rfl rfl rfl (by first|(exact congrArg List.length e)|rfl|(simp;done)|(simp <;> omega)) ?_)
 rintro s ⟨hs,hd,hval⟩;have hd':∀d∈s.reverse,d< UB:=fun d h=>hd d (List.mem_reverse.1 h);have hst:=ea_ s.reverse (by simp;omega);rw[cY_ hd',show hv s.reverse=r by unfold hv;rw[List.reverse_reverse];assumption] at hst;have hfull:((iE s.reverse).drop 0).take N=iE s.reverse:=by rw[List.drop_zero,List.take_of_length_le (by simp;omega)]
 refine s_r 3 ?_;refine a_1 ?_;refine o_1 (.callS1 rfl rfl rfl (.shut rfl d_n (.nil)) rfl ((by rw[hfull];exact hst))) ?_;refine a_z ?_;exact ad_ (t_e (cA_ _))
def zl(z:Int):Prop:=bl z.natAbs≤8796093022208
theorem zl_len{z:Int}(h:zl z):(zd z.natAbs).length≤17592186044416:=by
 have:=aZ_ (b:=UB) (by decide) z.natAbs;rw[bw_];unfold zl at h;omega
def pr_(l:List Nat):Nat→AState
 |i=>⟨[(0,.arr (iE l)),(3,i64 (hv (l.take i))),(4,i64 i)],[],1,19⟩
theorem oz_{l:List Nat}(hd:∀d∈l,d< UB)(hl:l.length≤4)(i:Nat):hv (l.take i)< 1152921504606846976:=by
 have h1:=hv_lt (l:=l.take i) fun d h=>hd d (List.mem_of_mem_take h);have h2:(l.take i).length≤4:=by rw[List.length_take];omega
 exact Nat.lt_of_lt_of_le h1 (Nat.pow_le_pow_right (by decide) h2)
theorem nB_(l:List Nat)(hl:l.length≤4)(hd:∀d∈l,d< UB):FS 330 [.arr (iE l)] (i64 (hv l)):=by
 refine f_c Tryz.func330 ?_;refine r_z 1 ?_;refine r_z 1 ?_;refine ab_ (r_z 1 ?_);refine ay_ (pr_ l) (fun i=>i=l.length) ?_ ?_;refine ae_ (as_ (pr_ l) (fun i=>l.length- i) (fun i=>i≤l.length) 0 (Nat.zero_le _) ?_ ?_);simp only[pr_.eq_1];exact s_e [];intro i hi;rw[pr_.eq_1];refine ab_ (r_z 4 ?_);refine ai_ rfl (fun h=>?_) (fun h=>?_);have hlt:i< l.length:=by simpa using h
 obtain⟨d,hdi⟩:∃d,l[i]?=some d:=⟨_,List.getElem?_eq_getElem hlt⟩;have hd1:=hd d (List.mem_of_getElem? hdi);have hdi':(iE l)[((i:Nat):Int).toNat]?=some [i64 d]:=fG_ hdi;have hsn:=ik_ (l.take i) d;rw[←b5_ hdi] at hsn;have hb:=oz_ hd hl (i+1);obtain⟨V,hV⟩:∃V,V=hv (l.take i):=⟨_,rfl⟩;rw[←hV] at hsn⊢;have hsn':hv (l.take (i+1))=V* 32768+d:=hsn;refine ag_ (ab_ (ae_ (r_m 8 ?_)));refine a_4 ?_;refine i_x hdi' ?_;refine l_1 hdi' ?_;refine a_z ?_;refine r_m 3 ?_;refine a_z ?_;refine⟨i+1,by omega,hlt,?_⟩;simp only[pr_.eq_1];refine s_x [] (fun hs=>?_) (fun hs=>?_) ?_
 ·repeat' (first|exact a9_|refine aV_ rfl ?_ ?_|exact au_c|(refine Cv.loE hs ?_ (af_ _);first|rfl|(simp[i64,u64,u32,bln,hsn'];done)|(simp[i64,u64,u32,bln,hsn']<;> omega)))
 ·repeat' (first|exact aC_|refine h_c ?_ ?_|exact au_e|(refine aJ_ hs ?_ (bR_ _);first|(simp[ii_,gk_,d8_,hsn'];done)|(simp[iE,i64,ofV,hsn'];done))|refine aA_ ?_|exact aq_|refine ah_ ?_ ?_|exact au_c|(refine Cv.loE hs ?_ (af_ _);first|(simp[i64,u64,u32,bln,hsn'];done)|(simp[i64,u64,u32,bln,hsn']<;> omega)))
 ·repeat' (first|exact ShrL.nil|refine ShrL.cons rfl rfl rfl rfl (by first|rfl|(simp;done)|(simp[hsn']<;> omega)) ?_)
 have hge:i=l.length:=by simp at h;omega
 refine ar_ ⟨i,hge,?_⟩;exact s_e [];rintro i rfl;rw[pr_.eq_1,List.take_length];refine r_z 2 ?_;refine ad_ (aE_ rfl rfl (af_ _))
end Go.Proofs.YtjjllafelolfoaaGreatDoor
