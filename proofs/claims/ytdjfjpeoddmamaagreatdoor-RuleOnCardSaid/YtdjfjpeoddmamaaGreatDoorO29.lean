/- Part O29 of the proof. -/
import Derived.Test.YtdjfjpeoddmamaaGreatDoorO28
import Derived.ProofKit
import Derived.OpenShut
import Derived.Carry
import Derived.Deep.Slices
import Derived.Deep.Strs
set_option linter.all false
namespace Go.Proofs.YtdjfjpeoddmamaaGreatDoor
open Go.Abs
set_option maxRecDepth 20000
set_option maxHeartbeats 1000000
def evLo(c:Nat):RQ×RQ:=if c=1 then(r0,r0) else(rq (-1),rq 1)
def evP(c:Nat)(z:Bool×List AV×List AV):Prop:=z.1=decide (1< c)∧(∃u0 u1 u2 u3,z.2.1=[u0,u1,u2,u3])∧(∃u0 u1 u2 u3,z.2.2=[u0,u1,u2,u3])∧(∀x∈z.2.1,Closed x)∧(∀x∈z.2.2,Closed x)∧
 ∀r hp hp',Shr r hp hp'→CvL r hp hp' z.2.1 (rC (evLo c).1)∧CvL r hp hp' z.2.2 (rC (evLo c).2)
def evA(c k:Nat):Rat:=if c=1 then oddM k (k/ 2) else(((fcN k:Nat):Int):Rat) / (((fcN (k/ 2):Nat):Int) * ((fcN (k/ 2):Nat):Int):Rat)
theorem evD_A(c k:Nat)(hk:k % 2=0):evD c k=if c=1 then halfM (evA c k) (k/ 2) else if c=3 then halfM (halfM (evA c k) (k/ 2)) (k/ 2) / (((k/ 2+1:Nat):Int):Rat) else halfM (halfM (evA c k) (k/ 2)) (k/ 2):=by
 unfold evD evA;rw[if_pos hk];by_cases h:c=1;rw[if_pos h,if_pos h,if_pos h];rw[if_neg h,if_neg h,if_neg h]
theorem nL_(k:Nat):∀j,j≤100→qs (oddM k j)≤j* 21+1
 |0,_=>by rw[Nat.zero_mul];show qs 1≤0+1;decide
 |j+1,h=>by
  have h1:=nL_ k j (by omega);have h2:=bJ_ (oddM k j) (((2* j+1:Nat):Int):Rat);have h3:=qi21 (n:=((2* j+1:Nat):Int)) (by omega);rw[oddM];omega
theorem lb_(m:Rat):∀j,qs (halfM m j)≤qs m+j* 2
 |0=>Nat.le_refl _
 |j+1=>by
  have h1:=lb_ m j;have h2:=bJ_ (halfM m j) (1/ 2);have h3:qs ((1:Rat) / 2)=2:=by decide+kernel
  rw[halfM];omega
theorem evA_qs(c k:Nat)(hk:k≤63):qs (evA c k)≤2000:=by
 unfold evA;split;have:=nL_ k (k/ 2) (by omega);omega;have h1:=cX_ (((fcN k:Nat):Int):Rat) (((fcN (k/ 2):Nat):Int) * ((fcN (k/ 2):Nat):Int):Rat);have h2:=bJ_ (((fcN (k/ 2):Nat):Int):Rat) (((fcN (k/ 2):Nat):Int):Rat);have h3:=ha_ (n:=k) (by omega);have h4:=ha_ (n:=k/ 2) (by omega);omega
theorem te_:∀n,0< fcN n
 |0=>by decide
 |n+1=>Nat.mul_pos (te_ n) (Nat.succ_pos n)
theorem fcN_ne(n:Nat):(((fcN n:Nat):Int):Rat)≠0:=o6_ (by have:=te_ n;omega)
theorem rOf12:Rat.divInt 1 2=(1:Rat) / 2:=by decide+kernel
def evMS(f:Nat→Rat)(c n:Nat)(zb:Bool)(zl zh:List AV)(K:Nat):Nat→Fr→Rat→AState
 |0=>fun fx m=>⟨fx++[(6,i64 K),(7,.lptr 4 0 0),(4,.lptr 1 0 0),(5,.lptr 2 0 0),(0,i64 c),(1,i64 n)],[(1,some ⟨77,11,[rw0]⟩),(2,some ⟨77,11,[rwX .emp zb zb zl zh]⟩),(4,some ⟨42,4,[rC (rq m)]⟩)],5,86⟩
 |k+1=>fun fx m=>⟨fx++[(6,i64 K),(7,.lptr 4 0 0),(4,.lptr 1 0 0),(5,.lptr 2 0 0),(0,i64 c),(1,i64 n)],[(1,some ⟨77,11,[rw0]⟩),(2,some ⟨77,11,[rwX (.lsl 3 0 (k+1) none 4) zb zb zl zh]⟩),(3,some ⟨42,4,rE (rP (sqL f (k+1)))⟩),(4,some ⟨42,4,[rC (rq m)]⟩)],5,86⟩
theorem cZ_(f:Nat→Rat)(c n:Nat)(zb:Bool)(zl zh:List AV)(K:Nat)(fx:Fr)(m:Rat):evMS f c n zb zl zh K 0 fx m=⟨fx++[(6,i64 K),(7,.lptr 4 0 0),(4,.lptr 1 0 0),(5,.lptr 2 0 0),(0,i64 c),(1,i64 n)],[(1,some ⟨77,11,[rw0]⟩),(2,some ⟨77,11,[rwX .emp zb zb zl zh]⟩),(4,some ⟨42,4,[rC (rq m)]⟩)],5,86⟩:=rfl
theorem cY_(f:Nat→Rat)(c n:Nat)(zb:Bool)(zl zh:List AV)(K k:Nat)(fx:Fr)(m:Rat):evMS f c n zb zl zh K (k+1) fx m=⟨fx++[(6,i64 K),(7,.lptr 4 0 0),(4,.lptr 1 0 0),(5,.lptr 2 0 0),(0,i64 c),(1,i64 n)],[(1,some ⟨77,11,[rw0]⟩),(2,some ⟨77,11,[rwX (.lsl 3 0 (k+1) none 4) zb zb zl zh]⟩),(3,some ⟨42,4,rE (rP (sqL f (k+1)))⟩),(4,some ⟨42,4,[rC (rq m)]⟩)],5,86⟩:=rfl
def evHS(f:Nat→Rat)(c n:Nat)(zb:Bool)(zl zh:List AV)(K:Nat):Nat→AState
 |0=>⟨[(6,i64 K),(4,.lptr 1 0 0),(5,.lptr 2 0 0),(0,i64 c),(1,i64 n)],[(1,some ⟨77,11,[rw0]⟩),(2,some ⟨77,11,[rwX .emp zb zb zl zh]⟩)],4,86⟩
 |k+1=>⟨[(6,i64 K),(4,.lptr 1 0 0),(5,.lptr 2 0 0),(0,i64 c),(1,i64 n)],[(1,some ⟨77,11,[rw0]⟩),(2,some ⟨77,11,[rwX (.lsl 3 0 (k+1) none 4) zb zb zl zh]⟩),(3,some ⟨42,4,rE (rP (sqL f (k+1)))⟩)],4,86⟩
theorem fs_rEven(c n:Nat)(hc:1≤c∧c≤3)(hn:n≤63):FS 111 [i64 c,i64 n] (.agg (rwC (sqL (evD c) (n+1)) (decide (1< c)) (decide (1< c)) (evLo c).1 (evLo c).2)):=by
 have i0:FS 112 [i64 0] (.agg (rC (rq 0))):=bF_ 0 (by decide);have i1:FS 112 [i64 1] (.agg (rC (rq 1))):=bF_ 1 (by decide);have im:FS 112 [i64 (-1)] (.agg (rC (rq (-1)))):=bF_ (-1) (by decide);have ih:=fs_rOf 1 2 (by decide) (by decide) (by decide);rw[rOf12] at ih;have e:∀k,rE (rP (sqL (evD c) k))++[rC (rq (evD c k))]=rE (rP (sqL (evD c) (k+1))):=fun k=>by rw[e5_,nH_]
 refine f_c Tryz.func111 ?_;refine r_z 1 ?_;refine r_z 1 ?_;refine aQ_ (fun z:Bool×List AV×List AV=>⟨[(0,i64 c),(1,i64 n),(4,.lptr 1 0 0),(5,.lptr 2 0 0)],[(1,some ⟨77,11,[rw0]⟩),(2,some ⟨77,11,[rwX .emp z.1 z.1 z.2.1 z.2.2]⟩)],3,86⟩) (evP c) ?_ ?_;by_cases h1:1< c;refine q_z 2 ?_;refine cT (r_m 4 ?_);refine c_s (im) ?_;refine c_s (i1) ?_;refine a_z ?_
 refine⟨(true,rC (rq (-1)),rC (rq 1)),⟨(decide_eq_true h1).symm,⟨_,_,_,_,rfl⟩,⟨_,_,_,_,rfl⟩,bb_ _,bb_ _,fun r hp hp' hs=>by
  unfold evLo;rw[if_neg (by omega)];exact⟨ho_ hs _,ho_ hs _⟩⟩,?_⟩
 refine s_x [(1,4),(2,5)] (fun hs=>au_f) (fun hs=>?_)
 ·repeat' (first|exact az_|refine h_c ?_ ?_|exact al_ (CvL.clo hs bp_)|exact al_ (CvL.clo hs (em_ (bb_ _) (bb_ _)))|exact au_e)
 refine q_z 2 ?_;refine cF ?_
 refine ae_ ⟨(false,zR4,zR4),⟨(decide_eq_false h1).symm,⟨_,_,_,_,rfl⟩,⟨_,_,_,_,rfl⟩,bT_,bT_,fun r hp hp' hs=>by
  unfold evLo;rw[if_pos (by omega)];exact⟨hP_ hs,hP_ hs⟩⟩,?_⟩
 exact s_x [(1,4),(2,5)] (fun hs=>au_f) (fun hs=>e_39);rintro⟨zb,zl,zh⟩ ⟨ez,⟨u0,u1,u2,u3,e1⟩,⟨v0,v1,v2,v3,e2⟩,c1,c2,hcv⟩;simp only at ez e1 e2 c1 c2 hcv⊢;subst e1;subst e2;rw[←ez];refine aa_ (r_z 1 ?_);refine aw_ (fun _:Unit=>⟨[(4,.lptr 1 0 0),(5,.lptr 2 0 0)],[(1,some ⟨77,11,[rw0]⟩),(2,some ⟨77,11,[rwC (sqL (evD c) (n+1)) zb zb (evLo c).1 (evLo c).2]⟩)],3,86⟩) (fun _=>True) ?_ ?_;refine ac_ (ap_ (fun k=>evHS (evD c) c n zb [u0,u1,u2,u3] [v0,v1,v2,v3] k k) (fun k=>n+1- k) (fun k=>k≤n+1) 0 (Nat.zero_le _) ?_ ?_);rw[evHS.eq_1];refine s_x [(1,4),(2,5)] (fun hs=>au_f) (fun hs=>?_)
 ·repeat' (first|exact az_|refine h_c ?_ ?_|exact al_ (CvL.clo hs bp_)|exact al_ (CvL.clo hs (em_ c1 c2))|exact au_e)
 rintro k hk;by_cases hlt:k≤n
 ·obtain⟨K,hK⟩:∃K,K=k:=⟨_,rfl⟩
  have eK:=e K;have hKn:K≤n:=by omega
  obtain⟨h,hh⟩:∃h,h=K/ 2:=⟨_,rfl⟩;have hA:=evA_qs c K (by omega);have fK:=fd_ K (by omega);have fh:=fd_ h (by omega);have qK:=ha_ (n:=K) (by omega);have qh:=ha_ (n:=h) (by omega);have qm:=bJ_ (((fcN h:Nat):Int):Rat) (((fcN h:Nat):Int):Rat);have fm:=dv_ (rq (((fcN h:Nat):Int):Rat)) (rq (((fcN h:Nat):Int):Rat)) (aR_ _) (aR_ _) (by show qs (((fcN h:Nat):Int):Rat)+qs (((fcN h:Nat):Int):Rat)≤_;omega);have fne:(((fcN h:Nat):Int):Rat) * (((fcN h:Nat):Int):Rat)≠0:=fun e=>(Rat.mul_eq_zero.1 e).elim (fcN_ne h) (fcN_ne h);have fd:=fe_ (rq (((fcN K:Nat):Int):Rat)) (rq ((((fcN h:Nat):Int):Rat) * (((fcN h:Nat):Int):Rat))) (aR_ _) (aR_ _) fne (by show qs (((fcN K:Nat):Int):Rat)+qs ((((fcN h:Nat):Int):Rat) * (((fcN h:Nat):Int):Rat))≤_;omega);obtain⟨S0,hS0⟩:∃S0,S0=evMS (evD c) c n zb [u0,u1,u2,u3] [v0,v1,v2,v3] K k:=⟨_,rfl⟩;rw[show evHS (evD c) c n zb [u0,u1,u2,u3] [v0,v1,v2,v3] k k=evHS (evD c) c n zb [u0,u1,u2,u3] [v0,v1,v2,v3] K k by rw[hK]];rcases k with _|k
  all_goals
   first|rw[evHS.eq_1]|rw[evHS.eq_2]
   refine aa_ (q_z 3 ?_);refine cT (ae_ (aa_ (ac_ (r_c 3 (i0) ?_))));refine a_z ?_;refine aQ_ (fun _:Unit=>S0 [] (evD c K)) (fun _=>True) ?_ ?_;by_cases hp:K % 2=0;refine q_z 3 ?_;refine cT (r_z 3 ?_);rw[show((K:Nat):Int) / 2=((h:Nat):Int) by omega];refine r_c 2 (i1) ?_;refine a_z ?_;refine aa_ (r_z 1 ?_);refine aw_ (fun _:Unit=>S0 [(8,i64 h)] (if c=1 then oddM K h else 1)) (fun _=>True) ?_ ?_;refine ac_ (ap_ (fun j:Nat=>S0 [(8,i64 h),(9,i64 ((2* j+1:Nat):Int))] (oddM K j)) (fun j=>h- j) (fun j=>j≤h∧(c=1∨j=0)) 0 ⟨Nat.zero_le _,.inr rfl⟩ ?_ ?_);rw[hS0]
   try first|rw[cZ_]|rw[cY_]
   exact s_z [(1,4),(2,5),(3,100003),(4,7)] (fun hs=>au_f) (fun hs=>e_3);rintro j ⟨hj,hj1⟩
   try rw[hS0]
   try first|rw[cZ_]|rw[cY_]
   by_cases hlj:j< h;by_cases hc1:c=1;have ij:=bF_ ((2* j+1:Nat):Int) (by omega);have qj:=qi21 (n:=((2* j+1:Nat):Int)) (by omega);have qo:=nL_ K j (by omega);have mj:=dv_ (rq (oddM K j)) (rq (((2* j+1:Nat):Int):Rat)) (aR_ _) (aR_ _) (by show qs (oddM K j)+qs (((2* j+1:Nat):Int):Rat)≤_;omega);refine aa_ (q_z 7 ?_);refine cT (ae_ (aa_ (ac_ (r_d hmix 5 ?_))));refine c_s (ij) ?_;refine c_s (mj) ?_;refine a_1 ?_;refine ai_ (n_k ?_);refine r_m 3 ?_;refine a_z ?_;refine⟨j+1,by omega,⟨hlj,.inl hc1⟩,?_⟩
   try rw[hS0]
   try first|rw[cZ_]|rw[cY_]
   exact s_z [(1,4),(2,5),(3,100003),(4,7)] (fun hs=>au_f) (fun hs=>e_3)
   ·refine aa_ (s_r 7 ?_)
    refine o_0 (.move rfl) ?_;refine o_0 (.move rfl) ?_;refine o_0 (.bin rfl rfl (vT c9_ (decide_eq_true (by omega)))) ?_;refine o_0 (.move rfl) ?_
    first|refine aA_ rfl rfl rfl (.move rfl) rfl rfl ?_|refine bH_ rfl rfl (by first|(simp[bo_];done)|exact nofun) rfl rfl ?_
    refine aA_ rfl rfl rfl (.bin rfl rfl (vF aU_ (decide_eq_false (by omega)))) rfl rfl ?_
    first|refine aq_ (.pick rfl (fun _=>rfl) (fun _=>rfl)) rfl rfl ?_|refine aq_ (.pick rfl (fun _=>rfl) (fun h=>absurd h (by decide))) rfl rfl ?_|refine aq_ (.pick rfl (fun h=>absurd h (by decide)) (fun _=>rfl)) rfl rfl ?_
    refine ai_ ?_;refine cF (am_ ⟨(),trivial,?_⟩);rw[if_neg hc1,show j=0 from hj1.resolve_left hc1]
    try rw[hS0]
    try first|rw[cZ_]|rw[cY_]
    exact s_z [(1,4),(2,5),(3,100003),(4,7)] (fun hs=>au_f) (fun hs=>e_3)
   refine aa_ (q_z 7 ?_);refine cF (am_ ⟨(),trivial,?_⟩)
   have eo:(if c=1 then oddM K h else 1)=oddM K j:=by
    have:j=h:=by omega
    subst this;rcases hj1 with e|e
    rw[if_pos e];rw[e];split <;> rfl
   rw[eo]
   try rw[hS0]
   try first|rw[cZ_]|rw[cY_]
   exact s_z [(1,4),(2,5),(3,100003),(4,7)] (fun hs=>au_f) (fun hs=>e_3);rintro _ _;refine aQ_ (fun _:Unit=>S0 [(8,i64 h)] (evA c K)) (fun _=>True) ?_ ?_;rw[hS0]
   try first|rw[cZ_]|rw[cY_]
   by_cases hc1:c=1;refine q_z 2 ?_;refine cF (ae_ ⟨(),trivial,?_⟩);rw[show(if c=1 then oddM K h else 1)=evA c K by unfold evA;rw[if_pos hc1,if_pos hc1,hh]];exact s_z [(1,4),(2,5),(3,100003),(4,7)] (fun hs=>au_f) (fun hs=>e_3);refine q_z 2 ?_;refine cT (r_m 9 ?_);refine c_s (fK) ?_;refine c_s (fh) ?_;refine c_s (fh) ?_;refine c_s (fm) ?_;refine c_s (fd) ?_;refine a_z ?_;refine⟨(),trivial,?_⟩;rw[show evA c K=(((fcN K:Nat):Int):Rat) / ((((fcN h:Nat):Int):Rat) * (((fcN h:Nat):Int):Rat)) by unfold evA;rw[if_neg hc1,hh]];exact s_z [(1,4),(2,5),(3,100003),(4,7)] (fun hs=>au_f) (fun hs=>e_3);rintro _ _;have eD:=evD_A c K hp;rw[←hh] at eD;generalize evA c K=A at *
   try rw[hS0]
   try first|rw[cZ_]|rw[cY_]
   refine aa_ (r_z 1 ?_);have hb4:∀j,j≤h→qs (halfM A j)≤2200:=fun j hj=>by have:=lb_ A j;omega
   have hb6:∀j,j≤h→qs (halfM (halfM A h) j)≤2400:=fun j hj=>by
    have h1:=lb_ (halfM A h) j;have h2:=hb4 h (Nat.le_refl h);omega
   have mh:∀q:Rat,qs q≤3000→FS 118 [.agg (rC (rq q)),.agg (rC (rq (1/ 2)))] (.agg (rC (rq (q* (1/ 2))))):=fun q hq=>dv_ (rq q) (rq (1/ 2)) (aR_ _) (aR_ _) (by
    have h3:qs ((1:Rat) / 2)=2:=by decide+kernel
    show qs q+qs (1/ 2)≤_;omega)
   refine aw_ (fun _:Unit=>S0 [(8,i64 h)] (halfM A h)) (fun _=>True) ?_ ?_;refine ac_ (ap_ (fun j:Nat=>S0 [(8,i64 h),(10,i64 ((j:Nat):Int))] (halfM A j)) (fun j=>h- j) (fun j=>j≤h) 0 (Nat.zero_le _) ?_ ?_);rw[hS0]
   try first|rw[cZ_]|rw[cY_]
   exact s_z [(1,4),(2,5),(3,100003),(4,7)] (fun hs=>au_f) (fun hs=>e_3);rintro j hj
   try rw[hS0]
   try first|rw[cZ_]|rw[cY_]
   by_cases hlj:j< h;have mj:=mh (halfM A j) (by have:=hb4 j hj;omega);refine aa_ (q_z 3 ?_);refine cT (ae_ (aa_ (ac_ (r_d hmix 4 ?_))));refine c_s (ih) ?_;refine c_s (mj) ?_;refine a_1 ?_;refine ai_ (n_k ?_);refine r_m 3 ?_;refine a_z ?_;refine⟨j+1,by omega,hlj,?_⟩
   try rw[hS0]
   try first|rw[cZ_]|rw[cY_]
   exact s_z [(1,4),(2,5),(3,100003),(4,7)] (fun hs=>au_f) (fun hs=>e_3);have:j=h:=by omega
   subst this;refine aa_ (q_z 3 ?_);refine cF (am_ ⟨(),trivial,?_⟩)
   try rw[hS0]
   try first|rw[cZ_]|rw[cY_]
   exact s_z [(1,4),(2,5),(3,100003),(4,7)] (fun hs=>au_f) (fun hs=>e_3);rintro _ _
   try rw[hS0]
   try first|rw[cZ_]|rw[cY_]
   refine aa_ (r_z 1 ?_);refine aw_ (fun _:Unit=>S0 [(8,i64 h)] (if c=1 then halfM A h else halfM (halfM A h) h)) (fun _=>True) ?_ ?_;refine ac_ (ap_ (fun j:Nat=>S0 [(8,i64 h),(11,i64 ((j:Nat):Int))] (halfM (halfM A h) j)) (fun j=>h- j) (fun j=>j≤h∧(1< c∨j=0)) 0 ⟨Nat.zero_le _,.inr rfl⟩ ?_ ?_);rw[hS0]
   try first|rw[cZ_]|rw[cY_]
   exact s_z [(1,4),(2,5),(3,100003),(4,7)] (fun hs=>au_f) (fun hs=>e_3);rintro j ⟨hj,hj1⟩
   try rw[hS0]
   try first|rw[cZ_]|rw[cY_]
   by_cases hlj:j< h;by_cases hc1:1< c;have mj:=mh (halfM (halfM A h) j) (by have:=hb6 j hj;omega);refine aa_ (q_z 7 ?_);refine cT (ae_ (aa_ (ac_ (r_d hmix 4 ?_))));refine c_s (ih) ?_;refine c_s (mj) ?_;refine a_1 ?_;refine ai_ (n_k ?_);refine r_m 3 ?_;refine a_z ?_;refine⟨j+1,by omega,⟨hlj,.inl hc1⟩,?_⟩
   try rw[hS0]
   try first|rw[cZ_]|rw[cY_]
   exact s_z [(1,4),(2,5),(3,100003),(4,7)] (fun hs=>au_f) (fun hs=>e_3)
   ·refine aa_ (s_r 7 ?_)
    refine o_0 (.move rfl) ?_;refine o_0 (.move rfl) ?_;refine o_0 (.bin rfl rfl (vT c9_ (decide_eq_true (by omega)))) ?_;refine o_0 (.move rfl) ?_
    first|refine aA_ rfl rfl rfl (.move rfl) rfl rfl ?_|refine bH_ rfl rfl (by first|(simp[bo_];done)|exact nofun) rfl rfl ?_
    refine aA_ rfl rfl rfl (.bin rfl rfl (vF fo_ (decide_eq_false (by omega)))) rfl rfl ?_
    first|refine aq_ (.pick rfl (fun _=>rfl) (fun _=>rfl)) rfl rfl ?_|refine aq_ (.pick rfl (fun _=>rfl) (fun h=>absurd h (by decide))) rfl rfl ?_|refine aq_ (.pick rfl (fun h=>absurd h (by decide)) (fun _=>rfl)) rfl rfl ?_
    refine ai_ ?_;refine cF (am_ ⟨(),trivial,?_⟩);rw[if_pos (by omega),show j=0 from hj1.resolve_left hc1]
    try rw[hS0]
    try first|rw[cZ_]|rw[cY_]
    exact s_z [(1,4),(2,5),(3,100003),(4,7)] (fun hs=>au_f) (fun hs=>e_3)
   refine aa_ (q_z 7 ?_);refine cF (am_ ⟨(),trivial,?_⟩)
   have eo:(if c=1 then halfM A h else halfM (halfM A h) h)=halfM (halfM A h) j:=by
    have:j=h:=by omega
    subst this;rcases hj1 with e|e
    rw[if_neg (by omega)];subst e;split <;> rfl
   rw[eo]
   try rw[hS0]
   try first|rw[cZ_]|rw[cY_]
   exact s_z [(1,4),(2,5),(3,100003),(4,7)] (fun hs=>au_f) (fun hs=>e_3);rintro _ _
   try rw[hS0]
   try first|rw[cZ_]|rw[cY_]
   by_cases hc3:c=3;rw[if_neg (show¬c=1 by omega)];have iq:=bF_ ((h+1:Nat):Int) (by omega);have qq:=qi21 (n:=((h+1:Nat):Int)) (by omega)
   have dq:=fe_ (rq (halfM (halfM A h) h)) (rq (((h+1:Nat):Int):Rat)) (aR_ _) (aR_ _) (o6_ (by omega)) (by
    have:=hb6 h (Nat.le_refl h);show qs (halfM (halfM A h) h)+qs (((h+1:Nat):Int):Rat)≤_;omega)
   refine q_z 2 ?_;refine cT (r_d hmix 6 ?_);refine c_s (iq) ?_;refine c_s (dq) ?_;refine a_1 ?_;refine ai_ (n_k ?_);refine⟨(),trivial,?_⟩;rw[show evD c K=halfM (halfM A h) h/ (((h+1:Nat):Int):Rat) by rw[eD,if_neg (show¬c=1 by omega),if_pos hc3]]
   try rw[hS0]
   try first|rw[cZ_]|rw[cY_]
   exact s_z [(1,4),(2,5),(3,100003),(4,7)] (fun hs=>au_f) (fun hs=>e_3);refine q_z 2 ?_;refine cF (ae_ ⟨(),trivial,?_⟩);rw[show evD c K=(if c=1 then halfM A h else halfM (halfM A h) h) by rw[eD,if_neg hc3]]
   try rw[hS0]
   try first|rw[cZ_]|rw[cY_]
   exact s_z [(1,4),(2,5),(3,100003),(4,7)] (fun hs=>au_f) (fun hs=>e_3);refine s_r 3 ?_;refine o_0 (.move rfl) ?_;refine o_0 (.bin rfl rfl (p8_ (by omega))) ?_;refine o_0 (.bin rfl rfl (vF aU_ (decide_eq_false (by omega)))) ?_;refine ai_ ?_;refine cF (ae_ ⟨(),trivial,?_⟩);rw[show evD c K=0 by unfold evD;rw[if_neg hp]]
   try rw[hS0]
   try first|rw[cZ_]|rw[cY_]
   exact s_z [(1,4),(2,5),(3,100003),(4,7)] (fun hs=>au_f) (fun hs=>e_3)
   ·rintro _ _
    try rw[hS0]
    generalize evD c=f at *
    try first|rw[cZ_]|rw[cY_]
    refine r_m 7 ?_;refine a_4 ?_
    first|refine AR.op2 (.append_l rfl rfl rfl te_65.h rfl rfl rfl rfl rfl d_o (by first|exact cK_ _|exact cH_ _|exact cr_ _|exact cL_ _|exact cy_ _|assumption|rfl|simp) (by first|rfl|exact cK_ _|exact cH_ _|exact cr_ _|exact cL_ _|exact cy_ _|simp) rfl (.lsl rfl (nle rfl)) TZ.h rfl TB.h d_o (by first|(simp[maxLen];done)|(simp[maxLen];omega))) rfl rfl ?_|refine AR.op1 (.append_e rfl rfl rfl te_65.h rfl rfl rfl (.lsl rfl (nle rfl)) (by first|assumption|(simp;done)) TZ.h rfl TB.h d_o (by first|(simp[maxLen];done)|(simp[maxLen];omega))) rfl rfl ?_
    refine a_z ?_;refine r_m 3 ?_;refine a_z ?_;subst hK
    first|refine⟨k+1+1,by omega,by omega,?_⟩|refine⟨0+1,by omega,by omega,?_⟩
    rw[evHS.eq_2];refine s_x [(1,4),(2,5),(3,83)] (fun hs=>au_f) (fun hs=>?_) e_4
    ·repeat' (first|exact az_|refine h_c ?_ ?_|exact al_ (CvL.clo hs bp_)|exact al_ (eI_ hs (Cv.sl rfl rfl rfl) (CvL.clo hs c1) (CvL.clo hs c2))|exact bi_ hs (a6_ (rP [f 0]))|exact aC_ hs eK (a6_ _)|exact au_e)
 have hge:k=n+1:=by omega
 subst hge;rw[evHS.eq_2];refine aa_ (q_z 3 ?_);refine cF (am_ ⟨(),trivial,?_⟩);refine s_x [(1,4),(2,5)] (fun hs=>au_f) (fun hs=>?_)
 ·repeat' (first|exact az_|refine h_c ?_ ?_|exact al_ (CvL.clo hs bp_)|exact al_ (eI_ hs (jR_ (L:=rP (sqL (evD c) (n+1))) hs rfl (aW_ rfl) rfl (by simp[rP])) (hcv _ _ _ hs).1 (hcv _ _ _ hs).2)|exact au_e)
 rintro _ _;refine r_z 2 ?_;exact af_ (c_e (au_ ca_))
end Go.Proofs.YtdjfjpeoddmamaaGreatDoor
namespace Go.Proofs.YtdjfjpeoddmamaaGreatDoor
open Go.Abs Go.Deep Go.RowKit
set_option maxRecDepth 20000
theorem ess_of{M:Nat→Prop}{β:Nat→Option (Nat×Nat)}{w:World}{b s off:Nat}{f:Nat→List AV}:∀(n j:Nat),(∀i,i< j+n→(f i).length=s∧RVcs M β w b (f i) (off+i* s))→RVess M β w b s ((List.range' j n).map f) (off+j* s)
 |0,_,_=>trivial
 |n+1,j,h=>by
  rw[List.range'_succ,List.map_cons];refine⟨(h j (by omega)).1,(h j (by omega)).2,?_⟩;have:=ess_of (M:=M) (β:=β) (w:=w) (b:=b) (s:=s) (off:=off) n (j+1) (fun i hi=>h i (by omega));rwa[Nat.add_mul,Nat.one_mul,←Nat.add_assoc] at this
theorem l9_{w:World}{b o:Nat}{v:Value}(h:w.cell? ⟨b,o,none⟩=some v):∃N,aM_ w b=some N:=by
 unfold World.cell? at h;unfold aM_;split at h
 ·rename_i c _ _ e;rw[show w.heap[b]?=_ from e];exact⟨c.size,rfl⟩
 cases h
theorem tyS:(Tryz.prog).underlying 26=some (.slice 23):=by kernel_rfl
theorem tyN:∃f0 f1 f2,(Tryz.prog).underlying 23=some (.struct #[f0,f1,f2])∧f0.type=2∧f0.offset=0∧f1.type=2∧f1.offset=1∧f2.type=5∧f2.offset=2:=
 ⟨{name:= "N",type:=2,offset:=0,embedded:=false,tag:= "",pkgPath:= "",byteOffset:=0},{name:= "D",type:=2,offset:=1,embedded:=false,tag:= "",pkgPath:= "",byteOffset:=8},{name:= "Pow",type:=5,offset:=2,embedded:=false,tag:= "",pkgPath:= "",byteOffset:=16},by kernel_rfl,rfl,rfl,rfl,rfl,rfl,rfl⟩
theorem tyc82:(Tryz.prog).cellsOf 23=3:=by kernel_rfl
theorem tyc2:(Tryz.prog).cellsOf 2=1:=by kernel_rfl
theorem tyc5:(Tryz.prog).cellsOf 5=1:=by kernel_rfl
theorem tyu2:(Tryz.prog).underlying 2=some (.int .i64):=by kernel_rfl
theorem tyu5:(Tryz.prog).underlying 5=some (.int .u8):=by kernel_rfl
theorem mu_{H:Type}{enc:TypeId×Value→H}{W:World}{base n:Nat}{spare:Nat→Bool}{held:Bool}{cs:List Value}{x:DataW H×List MemPlace}(h:DataW.trod enc Tryz.prog W base spare held n 23 cs=some x):
    ∃r:NRow,i64r r.1∧i64r r.2.1∧r.2.2≤255∧cs=[.int .i64 r.1,.int .i64 r.2.1,.int .u8 r.2.2]:=by
 obtain⟨f0,f1,f2,hu,h1,h2,h3,h4,h5,h6⟩:=tyN;obtain⟨y0,y1,y2,m,_,hl,g0,g1,g2⟩:=trod_struct3 hu h;rw[h1,h2,tyc2] at g0;rw[h3,h4,tyc2] at g1;rw[h5,h6,tyc5] at g2;rw[tyc82] at hl;obtain⟨n0,e0,_,w0⟩:=DataW.trod_int tyu2 g0;obtain⟨n1,e1,_,w1⟩:=DataW.trod_int tyu2 g1;obtain⟨n2,e2,_,w2⟩:=DataW.trod_int tyu5 g2
 match cs,hl with
 |[c0,c1,c2],_=>
  simp at e0 e1 e2;subst e0;subst e1;subst e2;have b2:=bounds_u8 w2;refine⟨(n0,n1,n2.toNat),bounds_i64 w0,bounds_i64 w1,?_,?_⟩;show n2.toNat≤255;omega;show _=[_,_,Value.int .u8 ((n2.toNat:Nat):Int)];rw[Int.toNat_of_nonneg b2.1]
theorem nF_{H:Type}{enc:TypeId×Value→H}{W:World}{a:Option Addr}{len cap:Nat}{d:DataW H}{ps:List MemPlace}(h:DataW.Trod enc Tryz.prog W 0 (fun _=>true) true 26 (.slice a len cap) d ps):
    ∃l:List NRow,okR l∧RV (fun _=>False) (fun _=>none) W (.arr (nR l)) (.slice a len cap):=by
 obtain⟨fuel,hf⟩:=h;rcases open_slice tyS hf with⟨hcs,_⟩|⟨x,len',cap',m,n,D,Pl,hcs,_,hl,hm,hmm,_,hx⟩
 simp[Value.cells] at hcs;obtain⟨rfl,rfl,rfl⟩:=hcs;exact⟨[],(fun r hr=>by cases hr),none,0,rfl,Nat.le_refl _,by decide,.inl rfl⟩;simp[Value.cells] at hcs;obtain⟨rfl,rfl,rfl⟩:=hcs;simp only[if_true] at hmm;have hmc:m=cap:=hmm;rw[hmc] at hx;rw[tyc82] at hx
 have hx':∀i,i< len→∃r:NRow,(i64r r.1∧i64r r.2.1∧r.2.2≤255)∧W.cells? 0 (x.add (i* 3)) 3=some [.int .i64 r.1,.int .i64 r.2.1,.int .u8 r.2.2]:=fun i hi=>by
  obtain⟨cs',g1,g2⟩:=hx i (by omega);obtain⟨r,r1,r2,r3,e⟩:=mu_ g2;exact⟨r,⟨r1,r2,r3⟩,by rw[g1,e]⟩
 obtain⟨R,hR⟩:=choose_lt (α:=NRow) hx';refine⟨(List.range len).map R,?_,some x,cap,by simp[nR],by simpa[nR] using hl,hm,?_⟩;intro r hr;obtain⟨i,hi,rfl⟩:=List.mem_map.1 hr;exact(hR i (List.mem_range.1 hi)).1;by_cases h0:len=0;subst h0;exact .inl rfl;right
 have c:∀i,i< len→∀j (v:Value),[.int .i64 (R i).1,.int .i64 (R i).2.1,.int .u8 (R i).2.2][j]?=some v→W.cell? (x.add (i* 3+j))=some v:=fun i hi j v hv=>by
  have hj:j< 3:=by
   have:=(List.getElem?_eq_some_iff.1 hv).1;simpa using this
  have:=(World.cells?_some (hR i hi).2).2.2 j hj;rw[hv,Go.Deep.add_add] at this;exact this
 have c0:=c 0 (by omega) 0 _ rfl;obtain⟨b,off,spot⟩:=x;have hspot:spot=none:=by simpa[Addr.add] using World.cell?_spot c0
 subst hspot
 have hadd:∀k,Addr.add ⟨b,off,none⟩ k=⟨b,off+k,none⟩:=fun k=>by
  unfold Addr.add;by_cases hk:k=0;simp[hk];simp[hk]
 refine⟨b,off,3,rfl,l9_ (by rw[hadd] at c0;exact c0),(fun h=>h),?_⟩;have:=ess_of (M:=fun _=>False) (β:=fun _=>none) (w:=W) (b:=b) (s:=3) (off:=off) (f:=fun i=>nuC (R i).1 (R i).2.1 (R i).2.2) len 0 (fun i hi=>⟨rfl,?_⟩);rw[Nat.zero_mul,Nat.add_zero,←List.range_eq_range'] at this;rw[nR,List.map_map];exact this;have hi':i< len:=by omega
 refine⟨⟨_,?_,rfl⟩,⟨_,?_,rfl⟩,⟨_,?_,rfl⟩,trivial⟩;have:=c i hi' 0 _ rfl;rw[hadd] at this;exact this;have:=c i hi' 1 _ rfl;rw[hadd] at this;rw[Nat.add_assoc];exact this;have:=c i hi' 2 _ rfl;rw[hadd] at this;rw[Nat.add_assoc,Nat.add_assoc];exact this
end Go.Proofs.YtdjfjpeoddmamaaGreatDoor
namespace Go.Proofs.YtdjfjpeoddmamaaGreatDoor
open Go.Abs
set_option maxRecDepth 20000
def okW(m:List Rat)(l r:Bool)(a b:Rat):Prop:=1≤m.length∧m.length≤64∧(l=true→r=true→a< b)
instance (m:List Rat) (l r:Bool) (a b:Rat):Decidable (okW m l r a b):=inferInstanceAs (Decidable (_∧_∧_))
theorem tC_{a b:Rat}(h:¬a< b):(0:Int)≤cmpQ a b:=by
 unfold cmpQ;rw[if_neg h];split <;> decide
theorem cmp_lt{a b:Rat}(h:a< b):cmpQ a b= -1:=by unfold cmpQ;rw[if_pos h]
theorem jo_(m:List Rat)(l r:Bool)(a b:Rat)(h:¬okW m l r a b)(hml:m.length≤1000000)(ha:sm a)(hb:sm b):FS 31 [.agg (wC m l r (qC a) (qC b))] (i64 2):=by
 have ho:=bs_ (m.length:Nat) 1 64;have hWc:=a7_ (m:=m) (l:=l) (r:=r) (.inr ⟨a,rfl⟩) (.inr ⟨b,rfl⟩);have hcm:=jm_ a b ha hb;refine f_c Tryz.func31 ?_;refine r_z 2 ?_;by_cases h1:1≤m.length∧m.length≤64;rw[decide_eq_false (by omega)] at ho
 have hl:l=true:=by
  cases l;exact absurd ⟨h1.1,h1.2,fun e=>by cases e⟩ h;rfl
 have hr:r=true:=by
  cases r;exact absurd ⟨h1.1,h1.2,fun _ e=>by cases e⟩ h;rfl
 have hlt:¬a< b:=fun e=>h ⟨h1.1,h1.2,fun _ _=>e⟩;subst hl;subst hr;refine aa_ (r_c 20 (ho) ?_);refine c_s (hcm) ?_;refine aA_ rfl rfl rfl (.bin rfl rfl (vT cW_ (decide_eq_true (tC_ hlt)))) rfl rfl ?_;refine a_z ?_;refine cT (r_z 1 ?_);exact af_ (t_e (ad_ _))
 ·rw[decide_eq_true (by omega)] at ho
  cases l with
  |false=>
   refine aa_ (r_c 20 (ho) ?_);refine o_0 (.move rfl) ?_
   first|refine aA_ rfl rfl rfl (.fieldAddr_l rfl TF.h (by decide)) rfl rfl ?_|refine aA_ rfl rfl rfl (.fieldAddr_a rfl TF.h (by decide)) rfl rfl ?_|refine bH_ rfl rfl (by first|(simp[bo_];done)|exact nofun) rfl rfl ?_
   first|refine aA_ rfl rfl rfl (.load_l1 rfl rfl rfl TG.h rfl) rfl rfl ?_|refine aA_ rfl rfl rfl (.load_a1 rfl rfl TG.h rfl) rfl rfl ?_|refine bH_ rfl rfl (by first|(simp[bo_];done)|exact nofun) rfl rfl ?_
   first|refine aA_ rfl rfl rfl (.move rfl) rfl rfl ?_|refine bH_ rfl rfl (by first|(simp[bo_];done)|exact nofun) rfl rfl ?_
   first|refine aA_ rfl rfl rfl (.fieldAddr_l rfl TF.h (by decide)) rfl rfl ?_|refine aA_ rfl rfl rfl (.fieldAddr_a rfl TF.h (by decide)) rfl rfl ?_|refine bH_ rfl rfl (by first|(simp[bo_];done)|exact nofun) rfl rfl ?_
   first|refine aA_ rfl rfl rfl (.load_l1 rfl rfl rfl TG.h rfl) rfl rfl ?_|refine aA_ rfl rfl rfl (.load_a1 rfl rfl TG.h rfl) rfl rfl ?_|refine bH_ rfl rfl (by first|(simp[bo_];done)|exact nofun) rfl rfl ?_
   first|refine aA_ rfl rfl rfl (.pick rfl (fun _=>rfl) (fun _=>rfl)) rfl rfl ?_|refine aA_ rfl rfl rfl (.pick rfl (fun _=>rfl) (fun h=>absurd h (by decide))) rfl rfl ?_|refine aA_ rfl rfl rfl (.pick rfl (fun h=>absurd h (by decide)) (fun _=>rfl)) rfl rfl ?_|refine bH_ rfl rfl (by first|(simp[bo_];done)|exact nofun) rfl rfl ?_
   first|refine aA_ rfl rfl rfl (.move rfl) rfl rfl ?_|refine bH_ rfl rfl (by first|(simp[bo_];done)|exact nofun) rfl rfl ?_
   first|refine aA_ rfl rfl rfl (.fieldAddr_l rfl TF.h (by decide)) rfl rfl ?_|refine aA_ rfl rfl rfl (.fieldAddr_a rfl TF.h (by decide)) rfl rfl ?_|refine bH_ rfl rfl (by first|(simp[bo_];done)|exact nofun) rfl rfl ?_
   first|refine aA_ rfl rfl rfl (.load_l rfl rfl rfl TG.h TS.h (nle rfl)) rfl rfl ?_|refine aA_ rfl rfl rfl (.load_a rfl rfl TG.h TS.h (nle rfl)) rfl rfl ?_|refine bH_ rfl rfl (by first|(simp[bo_];done)|exact nofun) rfl rfl ?_
   first|refine aA_ rfl rfl rfl (.fieldAddr_l rfl TF.h (by decide)) rfl rfl ?_|refine aA_ rfl rfl rfl (.fieldAddr_a rfl TF.h (by decide)) rfl rfl ?_|refine bH_ rfl rfl (by first|(simp[bo_];done)|exact nofun) rfl rfl ?_
   first|refine aA_ rfl rfl rfl (.load_l rfl rfl rfl TG.h TS.h (nle rfl)) rfl rfl ?_|refine aA_ rfl rfl rfl (.load_a rfl rfl TG.h TS.h (nle rfl)) rfl rfl ?_|refine bH_ rfl rfl (by first|(simp[bo_];done)|exact nofun) rfl rfl ?_
   first|refine bH_ rfl rfl (by first|(simp[bo_];done)|exact nofun) rfl rfl ?_
   first|refine aA_ rfl rfl rfl (.bin rfl rfl cW_) rfl rfl ?_|refine bH_ rfl rfl (by first|(simp[bo_];done)|exact nofun) rfl rfl ?_
   first|refine aA_ rfl rfl rfl (.pick rfl (fun _=>rfl) (fun _=>rfl)) rfl rfl ?_|refine aA_ rfl rfl rfl (.pick rfl (fun _=>rfl) (fun h=>absurd h (by decide))) rfl rfl ?_|refine aA_ rfl rfl rfl (.pick rfl (fun h=>absurd h (by decide)) (fun _=>rfl)) rfl rfl ?_|refine bH_ rfl rfl (by first|(simp[bo_];done)|exact nofun) rfl rfl ?_
   first|refine aq_ (.pick rfl (fun _=>rfl) (fun _=>rfl)) rfl rfl ?_|refine aq_ (.pick rfl (fun _=>rfl) (fun h=>absurd h (by decide))) rfl rfl ?_|refine aq_ (.pick rfl (fun h=>absurd h (by decide)) (fun _=>rfl)) rfl rfl ?_
   refine ai_ ?_;refine cT (r_z 1 ?_);exact af_ (t_e (ad_ _))
  |true=>
   refine aa_ (r_c 20 (ho) ?_);refine o_0 (.move rfl) ?_
   first|refine aA_ rfl rfl rfl (.fieldAddr_l rfl TF.h (by decide)) rfl rfl ?_|refine aA_ rfl rfl rfl (.fieldAddr_a rfl TF.h (by decide)) rfl rfl ?_|refine bH_ rfl rfl (by first|(simp[bo_];done)|exact nofun) rfl rfl ?_
   first|refine aA_ rfl rfl rfl (.load_l1 rfl rfl rfl TG.h rfl) rfl rfl ?_|refine aA_ rfl rfl rfl (.load_a1 rfl rfl TG.h rfl) rfl rfl ?_|refine bH_ rfl rfl (by first|(simp[bo_];done)|exact nofun) rfl rfl ?_
   first|refine aA_ rfl rfl rfl (.move rfl) rfl rfl ?_|refine bH_ rfl rfl (by first|(simp[bo_];done)|exact nofun) rfl rfl ?_
   first|refine aA_ rfl rfl rfl (.fieldAddr_l rfl TF.h (by decide)) rfl rfl ?_|refine aA_ rfl rfl rfl (.fieldAddr_a rfl TF.h (by decide)) rfl rfl ?_|refine bH_ rfl rfl (by first|(simp[bo_];done)|exact nofun) rfl rfl ?_
   first|refine aA_ rfl rfl rfl (.load_l1 rfl rfl rfl TG.h rfl) rfl rfl ?_|refine aA_ rfl rfl rfl (.load_a1 rfl rfl TG.h rfl) rfl rfl ?_|refine bH_ rfl rfl (by first|(simp[bo_];done)|exact nofun) rfl rfl ?_
   first|refine aA_ rfl rfl rfl (.pick rfl (fun _=>rfl) (fun _=>rfl)) rfl rfl ?_|refine aA_ rfl rfl rfl (.pick rfl (fun _=>rfl) (fun h=>absurd h (by decide))) rfl rfl ?_|refine aA_ rfl rfl rfl (.pick rfl (fun h=>absurd h (by decide)) (fun _=>rfl)) rfl rfl ?_|refine bH_ rfl rfl (by first|(simp[bo_];done)|exact nofun) rfl rfl ?_
   first|refine aA_ rfl rfl rfl (.move rfl) rfl rfl ?_|refine bH_ rfl rfl (by first|(simp[bo_];done)|exact nofun) rfl rfl ?_
   first|refine aA_ rfl rfl rfl (.fieldAddr_l rfl TF.h (by decide)) rfl rfl ?_|refine aA_ rfl rfl rfl (.fieldAddr_a rfl TF.h (by decide)) rfl rfl ?_|refine bH_ rfl rfl (by first|(simp[bo_];done)|exact nofun) rfl rfl ?_
   first|refine aA_ rfl rfl rfl (.load_l rfl rfl rfl TG.h TS.h (nle rfl)) rfl rfl ?_|refine aA_ rfl rfl rfl (.load_a rfl rfl TG.h TS.h (nle rfl)) rfl rfl ?_|refine bH_ rfl rfl (by first|(simp[bo_];done)|exact nofun) rfl rfl ?_
   first|refine aA_ rfl rfl rfl (.fieldAddr_l rfl TF.h (by decide)) rfl rfl ?_|refine aA_ rfl rfl rfl (.fieldAddr_a rfl TF.h (by decide)) rfl rfl ?_|refine bH_ rfl rfl (by first|(simp[bo_];done)|exact nofun) rfl rfl ?_
   first|refine aA_ rfl rfl rfl (.load_l rfl rfl rfl TG.h TS.h (nle rfl)) rfl rfl ?_|refine aA_ rfl rfl rfl (.load_a rfl rfl TG.h TS.h (nle rfl)) rfl rfl ?_|refine bH_ rfl rfl (by first|(simp[bo_];done)|exact nofun) rfl rfl ?_
   first|refine bH_ rfl rfl (by first|(simp[bo_];done)|exact nofun) rfl rfl ?_
   first|refine aA_ rfl rfl rfl (.bin rfl rfl cW_) rfl rfl ?_|refine bH_ rfl rfl (by first|(simp[bo_];done)|exact nofun) rfl rfl ?_
   first|refine aA_ rfl rfl rfl (.pick rfl (fun _=>rfl) (fun _=>rfl)) rfl rfl ?_|refine aA_ rfl rfl rfl (.pick rfl (fun _=>rfl) (fun h=>absurd h (by decide))) rfl rfl ?_|refine aA_ rfl rfl rfl (.pick rfl (fun h=>absurd h (by decide)) (fun _=>rfl)) rfl rfl ?_|refine bH_ rfl rfl (by first|(simp[bo_];done)|exact nofun) rfl rfl ?_
   first|refine aq_ (.pick rfl (fun _=>rfl) (fun _=>rfl)) rfl rfl ?_|refine aq_ (.pick rfl (fun _=>rfl) (fun h=>absurd h (by decide))) rfl rfl ?_|refine aq_ (.pick rfl (fun h=>absurd h (by decide)) (fun _=>rfl)) rfl rfl ?_
   refine ai_ ?_;refine cT (r_z 1 ?_);exact af_ (t_e (ad_ _))
theorem sM_(m:List Rat)(l r:Bool)(x y:RQ)(hml:m.length≤1000000)(hx:rok x)(hy:rok y)(hq:qs x.1+qs y.1≤1099511627776):FS 30 [.agg (rwC m l r x y)] (bln (decide (okW m l r x.1 y.1))):=by
 have hcm:=jk_ x y hx hy hq;have hlen:(rP m).length=m.length:=by simp[rP]
 refine f_n Tryz.func30 ?_ ?_;exact ab_ (au_ ca_) ah_;refine r_z 2 ?_;by_cases h1:l=true∧r=true∧¬x.1< y.1;obtain⟨rfl,rfl,hlt⟩:=h1;rw[decide_eq_false (fun h:okW m true true x.1 y.1=>hlt (h.2.2 rfl rfl))];refine aa_ (r_c 14 (hcm) ?_);refine aA_ rfl rfl rfl (.bin rfl rfl (vT cW_ (decide_eq_true (tC_ hlt)))) rfl rfl ?_;refine a_z ?_;refine cT (r_z 1 ?_);exact af_ (t_e (ad_ _));have hsh:l=true→r=true→x.1< y.1:=fun e1 e2=>Classical.byContradiction fun e3=>h1 ⟨e1,e2,e3⟩;refine aQ_ (fun _:Unit=>⟨[(1,.lptr 1 0 0)],[(1,some ⟨77,11,[rwC m l r x y]⟩)],2,27⟩) (fun _=>True) ?_ ?_;cases l with
 |false=>
  refine r_z 14 ?_;refine cF (ae_ ⟨(),trivial,?_⟩);exact s_f [(1,1)]
 |true=>
  cases r with
  |false=>
   refine r_z 14 ?_;refine cF (ae_ ⟨(),trivial,?_⟩);exact s_f [(1,1)]
  |true=>
   rw[cmp_lt (hsh rfl rfl)] at hcm;refine r_c 14 (hcm) ?_;refine aA_ rfl rfl rfl (.bin rfl rfl (vF cW_ (rfl))) rfl rfl ?_;refine a_z ?_;refine cF (ae_ ⟨(),trivial,?_⟩);exact s_f [(1,1)]
 rintro _ _;by_cases h2:1≤m.length;by_cases h3:m.length≤64;rw[decide_eq_true (show okW m l r x.1 y.1 from⟨h2,h3,hsh⟩)];refine q_z 11 ?_;exact af_ (t_e (ad_ _));rw[decide_eq_false (fun h:okW m l r x.1 y.1=>h3 h.2.1)];refine q_z 11 ?_;exact af_ (t_e (ad_ _));rw[decide_eq_false (fun h:okW m l r x.1 y.1=>h2 h.1)];refine q_z 11 ?_;exact af_ (t_e (ad_ _))
theorem gc_(p q:List Rat)(o:okDiv p q)(h0:trimQ q≠[]):FS 227 [.arr (pE p),.arr (pE q)] (.tup [.arr (pE (divP p q).1),.arr (pE (divP p q).2)]):=
 fM_ p q (mxL p) (mxL q) (ch_ p) (ch_ q) (bX_ p) (bX_ q) o.1 h0 o.2.1 o.2.2
def bzS(p:List Rat)(q:List Rat):List Rat×List Rat×List Rat×List Rat→AState
 |(g,nx,a,c)=>⟨[(0,.arr (pE p)),(1,.arr (pE q)),(4,.arr (pE g)),(5,.arr (pE a)),(7,.arr (pE nx)),(8,.arr (pE c))],[],1,83⟩
theorem mY_(f:Nat)(p q g a:List Rat)(hq:trimQ q≠[])(hql:q.length≤1099511627776)(hz:bzL f p q (c3_ ((1:Int):Rat)) []=some (g,a))(ho:okBz p q g a):
    FS 236 [.arr (pE p),.arr (pE q)] (.tup [.arr (pE (bzG g)),.arr (pE (bzA q g a)),.arr (pE (bzB p q g a))]):=by
 obtain⟨c1,c2,c3,c4,c5,c6,c7,c8,c9,c10,c11,c12,c13,c14,c15,c16⟩:=ho;have hd:¬degP q< 0:=fun e=>hq (degP_neg.1 e);have q1:qs ((1:Int):Rat)=1:=by decide
 have hqd:=cX_ ((1:Int):Rat) (leadP g);have hsl:sm (((1:Int):Rat) / leadP g):=by unfold sm;omega
 refine f_c Tryz.func236 ?_;refine r_z 3 ?_;refine aa_ (r_c 3 (bC_ q hql) ?_);refine d_z ?_;refine cF (ae_ (r_z 4 ?_));refine r_c 4 (ei_ 1 (by decide)) ?_;refine c_s (jl_ ((1:Int):Rat)) ?_;refine a_z ?_;refine aa_ (aw_ (fun _:Unit=>⟨[(0,.arr (pE p)),(1,.arr (pE q)),(4,.arr (pE g)),(5,.arr (pE a))],[],1,83⟩) (fun _=>True) ?_ ?_);refine ac_ (ap_ (fun x:Nat×List Rat×List Rat×List Rat×List Rat=>bzS p q x.2) (fun x=>x.1) (fun x=>bzL x.1 x.2.1 x.2.2.1 x.2.2.2.1 x.2.2.2.2=some (g,a)∧x.2.2.1.length≤1099511627776) (f,p,q,c3_ ((1:Int):Rat),[]) ⟨hz,hql⟩ ?_ ?_);simp only[bzS.eq_1];exact s_e [];rintro⟨f,g',nx,a',c⟩ ⟨hz,hnl⟩;simp only at hz hnl;simp only[bzS.eq_1];cases f with
 |zero=>cases hz
 |succ f=>
  rw[bzL] at hz;by_cases hn0:trimQ nx=[];rw[if_pos hn0] at hz;cases hz;refine aa_ (r_c 3 (bC_ nx hnl) ?_);refine o_0 (.bin rfl rfl (vF cW_ (decide_eq_false (by have:=degP_neg.2 hn0;omega)))) ?_;refine ai_ ?_;refine cF (am_ ⟨(),trivial,?_⟩);exact s_e []
  ·rw[if_neg hn0] at hz
   split at hz
   case isFalse=>cases hz
   case isTrue hs=>
   obtain⟨⟨o1,o2,o3,o4,o5,o6⟩,o7⟩:=hs;have hrl:=(fj_ (p:=g') (q:=nx));have hgl:=o1.2.1;have hdn:¬degP nx< 0:=fun e=>hn0 (degP_neg.1 e);refine aa_ (r_c 3 (bC_ nx hnl) ?_);refine d_z ?_;refine cT (ae_ (ac_ (r_c 8 (gc_ g' nx o1 hn0) ?_)));refine a_z ?_;refine r_z 4 ?_;refine r_m 8 ?_;refine c_s (eH_ _ c o2) ?_;refine c_s (sZ_ a' _ o3 o4 o5 o6) ?_;refine a_z ?_;refine⟨(f,nx,(divP g' nx).2,c,subP a' (mulP (divP g' nx).1 c)),Nat.lt_succ_self f,⟨hz,by simp only;omega⟩,?_⟩;simp only[bzS.eq_1];exact s_e []
 rintro _ _;refine r_c 6 (ei_ 1 (by decide)) ?_;refine c_s (gD_ g c2) ?_;refine o_0 (.call rfl rfl rfl (eA_ _ (leadP g) (bw_ c1) (by omega))) ?_;refine o_1 (.alloc TZ.h) ?_;refine o_1n (.store rfl rfl rfl rfl rfl rfl TS.h (nle rfl)) ?_;refine ai_ ?_;refine aa_ (r_d hmix 8 ?_);refine c_s (eB_ g _ c4 hsl c2) ?_;refine c_s (eB_ a _ c5 hsl c3) ?_;refine a_2 ?_;refine ai_ (n_k ?_);refine r_c 8 (gc_ q (bzG g) c7 c8) ?_;refine a_z ?_;refine r_c 7 (gc_ _ _ c9 c10) ?_;refine a_z ?_;refine r_c 11 (eH_ (bzA q g a) p c11) ?_;refine c_s (sZ_ (bzG g) _ c12 c13 c14 c15) ?_;refine c_s (gc_ _ q c16 hq) ?_;refine a_z ?_;refine r_z 6 ?_;refine af_ (Fin.many ⟨_,_,rfl,rfl,⟨_,_,rfl,rfl,⟨_,_,rfl,rfl,rfl⟩⟩⟩ (nle rfl) ?_);exact CvL.clo ar_ (ab_ (aD_ _) (ab_ (aD_ _) (ab_ (aD_ _) ah_)))
theorem setT{p m:List Rat}{d j i e:Nat}(hi:i< j)(hj:j≤d)(he:e=i):(pE (tabP d (tpI p m j i))).set e (qC (tpI p m j i i+coP p j* coP m (j- 1- i)))=pE (tabP d (tpI p m j (i+1))):=by
 subst he;rw[iQ_,←tpI_set p m d j e hi hj];congr 3;unfold tpI;rw[if_neg (by omega)]
theorem jU_{r:Ren}{hp hp':Nat→Option ABlk}(h:Shr r hp hp'):∀n,CvLL r hp hp' (List.replicate n zC) (pE (List.replicate n 0))
 |0=>bi_ h (aK_ [])
 |n+1=>CvLL.cons (ys:=pE (List.replicate n 0)) (fZ_ h) (jU_ h n)
theorem getT{d i e:Nat}{f:Nat→Rat}(h:i< d)(he:e=i):(pE (tabP d f))[e]?=some (qC (f i)):=by
 subst he;exact bK_ (kM_ f h)
def onS(p:List Rat)(m:List Rat)(W:List AV)(d:Nat):Nat→AState
 |j=>⟨[(1,.arr (pE p)),(2,.lptr 1 0 0),(4,.lptr 2 0 0),(5,.lsl 3 0 d (some d) 3),(15,.arr (pE p)),(16,i64 ((d+1:Nat):Int)),(17,i64 j)],[(1,some ⟨51,9,[W]⟩),(2,some ⟨57,2,[[.emp,.emp]]⟩),(3,some ⟨35,3,pE (tabP d fun i=>tpV p m i j)⟩)],4,61⟩
def onI(p:List Rat)(m:List Rat)(W:List AV)(d:Nat)(j:Nat):Nat→AState
 |i=>⟨[(1,.arr (pE p)),(2,.lptr 1 0 0),(4,.lptr 2 0 0),(5,.lsl 3 0 d (some d) 3),(15,.arr (pE p)),(16,i64 ((d+1:Nat):Int)),(17,i64 j),(6,i64 j),(7,.lptr 4 0 0),(22,i64 j),(23,i64 i)],[(1,some ⟨51,9,[W]⟩),(2,some ⟨57,2,[[.emp,.emp]]⟩),(3,some ⟨35,3,pE (tabP d (tpI p m j i))⟩),(4,some ⟨35,3,[qC (coP p j)]⟩)],5,61⟩
theorem fs_on (p m:List Rat) (l r:Bool) (a b:Rat) (d s t:Nat) (g iv bz:List Rat) (hl:p.length=d+1) (htr:trimQ p=p) (hd:d≤1000) (hp:bdL p s) (hm:bdL m t) (hs:1≤s) (ht:1≤t) (hml:d≤m.length) (hlim:(d+2) * (s+t+1)≤137438953472)
    (hde:FS 49 [.arr (pE p)] (.arr (pE (at_ p)))) (hbz:FS 236 [.arr (pE (at_ p)),.arr (pE p)] (.tup [.arr (pE g),.arr (pE iv),.arr (pE bz)]))
    (hmu:okMul (tpQ p m) iv) (hdi:okDiv (mulP (tpQ p m) iv) p):
    FS 161 [.agg (wC m l r (qC a) (qC b)),.arr (pE p)] (.agg (ruC p (divP (mulP (tpQ p m) iv) p).2)):=by
 have hWc:∀c∈wC m l r (qC a) (qC b),Closed c:=a7_ (.inr ⟨a,rfl⟩) (.inr ⟨b,rfl⟩);have hp0:trimQ p≠[]:=by rw[htr];intro e;rw[e] at hl;simp at hl
 have hdg:=bC_ p (by omega);rw[show degP p=(d:Int) by unfold degP;rw[htr,hl];omega] at hdg;have etp:tabP d (fun i=>tpV p m i (d+1))=tpQ p m:=by unfold tpQ;rw[hl];rfl
 refine f_c Tryz.func161 ?_;refine r_z 2 ?_;refine r_c 4 (hdg) ?_;refine a_z ?_;refine aa_ (r_z 3 ?_);refine aw_ (fun _:Unit=>⟨[(1,.arr (pE p)),(4,.lptr 1 0 0),(5,.arr (pE (tpQ p m)))],[(1,some ⟨57,2,[[.emp,.emp]]⟩)],2,61⟩) (fun _=>True) ?_ ?_;refine ac_ (ap_ (onS p m (wC m l r (qC a) (qC b)) d) (fun j=>d+1- j) (fun j=>j≤d+1) 0 (Nat.zero_le _) ?_ ?_);rw[onS.eq_1,q5_];refine s_x [(1,2),(2,4),(3,5)] (fun hs=>au_f) (fun hs=>?_)
 ·repeat' (first|exact az_|refine h_c ?_ ?_|exact al_ (CvL.clo hs hWc)|exact jU_ hs d|exact au_e)
 intro j hj;rw[onS.eq_1];by_cases hlt:j< d+1;have hgt:(pE p)[((j:Nat):Int).toNat]?=some (qC (coP p j)):=bK_ (a9_ (by omega));refine q_z 1 ?_;refine aa_ (cT (ae_ (aa_ (ac_ (s_r 6 ?_)))));refine a_1 ?_;refine i_x hgt ?_;refine l_x hgt ?_;refine a_z ?_;refine r_z 2 ?_;refine AWp.cutB (fun _:Unit=>onI p m (wC m l r (qC a) (qC b)) d j j) (fun _=>True) ?_ ?_;refine ac_ (ap_ (onI p m (wC m l r (qC a) (qC b)) d j) (fun i=>j- i) (fun i=>i≤j) 0 (Nat.zero_le _) ?_ ?_);rw[onI.eq_1,tpI_0];exact s_x [(4,7)] (fun hs=>au_f) (fun hs=>e_19);intro i hi;rw[onI.eq_1];by_cases hlt2:i< j;have hv:tpI p m j i i=tpV p m i j:=by unfold tpI;rw[if_neg (by omega)]
 have hq:=q1_ hp hm hs ht i j;have hc:=bj_ hp hs j;have hc2:=bj_ hm ht (j- 1- i);have hqm:=bJ_ (coP p j) (coP m (j- 1- i));have e1:j* (s+t+1)≤(d+1) * (s+t+1):=Nat.mul_le_mul_right _ (by omega);have e2:(d+2) * (s+t+1)=(d+1) * (s+t+1)+(s+t+1):=Nat.succ_mul _ _;have hmul:=dp_ (coP p j) (coP m (j- 1- i)) (by omega);have hadd:=gt_ (tpI p m j i i) (coP p j* coP m (j- 1- i)) (by rw[hv];omega)
 have hgm:(pE m)[((j- 1- i:Int)).toNat]?=some (qC (coP m (j- 1- i))):=by
  rw[show((j:Int)- 1- i).toNat=j- 1- i by omega];exact bK_ (a9_ (by omega))
 refine q_z 1 ?_;refine aa_ (cT (ae_ (aa_ (ac_ (r_z 2 ?_)))));refine r_d hmix 19 ?_;refine a_5 ?_
 first|refine aq_ (.load_l rfl rfl (getT (i:=i) (d:=d) (f:=tpI p m j i) (by omega) (by omega)) TG.h TS.h (nle rfl)) rfl rfl ?_|refine aq_ (.load_a rfl (getT (i:=i) (d:=d) (f:=tpI p m j i) (by omega) (by omega)) TG.h TS.h (nle rfl)) rfl rfl ?_
 refine a_7 ?_;refine i_x hgm ?_;refine l_x hgm ?_;refine c_s (hmul) ?_;refine c_s (hadd) ?_;refine a_1 ?_;refine o_1n (.store rfl rfl (getT (i:=i) (d:=d) (f:=tpI p m j i) (by omega) (by omega)) rfl rfl rfl TS.h (nle rfl)) ?_;refine ai_ (n_k ?_);refine r_m 2 ?_;refine a_z ?_;refine⟨i+1,by omega,hlt2,?_⟩;rw[onI.eq_1];refine s_x [] (fun hs=>au_f) (fun hs=>?_)
 ·repeat' (first|exact az_|refine h_c ?_ ?_|exact al_ (CvL.clo hs hWc)|exact bi_ hs (aK_ [coP p j])|exact aC_ hs (setT hlt2 (by omega) (Nat.zero_add i)) (aK_ _)|exact au_e)
 have hge:i=j:=by omega
 subst hge;refine q_z 1 ?_;refine aa_ (cF (am_ ⟨(),trivial,?_⟩))
 try simp only[onI.eq_1]
 exact s_x [] (fun hs=>au_f) (fun hs=>e_19);rintro _ _;rw[onI.eq_1,tpI_e];refine r_m 2 ?_;refine a_z ?_;refine⟨j+1,by omega,hlt,?_⟩;rw[onS.eq_1];exact s_x [] (fun hs=>au_f) (fun hs=>e_19);have hge:j=d+1:=by omega
 subst hge;refine q_z 1 ?_;refine aa_ (cF (am_ ⟨(),trivial,?_⟩));rw[etp];refine s_x [(1,4)] (fun hs=>?_) (fun hs=>?_)
 ·repeat' (first|exact a2_|refine aH_ rfl ?_ ?_|exact d0_ hs rfl (aW_ rfl) rfl (by rw[←etp];simp)|exact au_c)
 ·repeat' (first|exact az_|refine h_c ?_ ?_|exact au_e|refine al_ ?_|exact ao_|refine ag_ ?_ ?_|exact d0_ hs rfl (aW_ rfl) rfl (by rw[←etp];simp)|exact au_c)
 rintro _ _;refine r_c 11 (hde) ?_;refine c_s (hbz) ?_;refine a_z ?_;refine r_c 8 (eH_ _ iv hmu) ?_;refine c_s (nZ_ _ p hdi hp0) ?_;refine a_z ?_;exact af_ (c_e (au_ (bn_ _ _)))

def apS(t:List Rat)(s:List Rat)(W:List AV):Nat×Rat→AState
 |(i,o)=>⟨[(2,.lptr 1 0 0),(4,.lptr 2 0 0),(5,.lptr 3 0 0),(6,.arr (pE s)),(20,.arr (pE t)),(21,i64 t.length),(22,i64 i)],[(1,some ⟨57,2,[W]⟩),(2,some ⟨35,3,[zC]⟩),(3,some ⟨35,3,[qC o]⟩)],4,37⟩
theorem pq_ (p w f m:List Rat) (s t:Nat) (hsu:FS 188 [.agg (ruC p w)] (.arr (pE m))) (h0:trimQ p≠[]) (o1:okDiv f p) (o2:okMul w (divP f p).2) (o3:okDiv (mulP w (divP f p).2) p)
    (hp:bdL (apR p w f) s) (hm:bdL m t) (hs:1≤s) (ht:1≤t) (hpl:(apR p w f).length≤1000000) (hlen:(apR p w f).length≤m.length) (hlim:((apR p w f).length+2) * (s+t+1)≤137438953472):
    FS 103 [.agg (ruC p w),.arr (pE f)] (.agg (qC (ofQ (apR p w f) m (apR p w f).length))):=by
 have hre1:=nZ_ f p o1 h0;have hmu:=eH_ w _ o2;have hre2:=nZ_ _ p o3 h0;obtain⟨T,hT⟩:∃T,T=apR p w f:=⟨_,rfl⟩;rw[show(divP (mulP w (divP f p).2) p).2=T from hT.symm] at hre2;rw[←hT] at hp hpl hlen hlim⊢;have hWc:=bn_ p w;refine f_c Tryz.func103 ?_;refine r_z 2 ?_;refine r_z 1 ?_;refine r_c 3 (hsu) ?_;refine a_z ?_;refine aa_ (aa_ (r_d hmix 12 ?_));refine c_s (hre1) ?_;refine c_s (hmu) ?_;refine c_s (hre2) ?_;refine a_2 ?_;refine ai_ (n_k ?_);refine aw_ (fun _:Unit=>⟨[(4,.lptr 1 0 0),(5,.lptr 2 0 0)],[(1,some ⟨35,3,[zC]⟩),(2,some ⟨35,3,[qC (ofQ T m T.length)]⟩)],3,37⟩) (fun _=>True) ?_ ?_;refine ac_ (ap_ (apS T m (ruC p w)) (fun x=>T.length- x.1) (fun x=>x.1≤T.length∧x.2=ofQ T m x.1) (0,0) ⟨Nat.zero_le _,rfl⟩ ?_ ?_);simp only[apS.eq_1];rw[qC0];exact s_f [(1,2),(2,4),(3,5)];rintro⟨i,o⟩ ⟨hi,ho⟩;simp only at hi ho;rw[apS.eq_1];by_cases hlt:i< T.length;refine q_z 1 ?_;refine aa_ (cT (ae_ ?_));have hgt:(pE T)[((i:Nat):Int).toNat]?=some (qC (coP T i)):=bK_ (a9_ hlt);have hgm:(pE m)[((i:Nat):Int).toNat]?=some (qC (coP m i)):=bK_ (a9_ (by omega));have hc:=bj_ hp hs i;have hd:=bj_ hm ht i;have hq:=ms_ hp hm hs ht i;rw[←ho] at hq;have e1:i* (s+t+1)≤(T.length+1) * (s+t+1):=Nat.mul_le_mul_right _ (by omega);have e2:(T.length+2) * (s+t+1)=(T.length+1) * (s+t+1)+(s+t+1):=Nat.succ_mul _ _;have hmu:=dp_ (coP T i) (coP m i) (by omega);have hqm:=bJ_ (coP T i) (coP m i);have had:=gt_ o (coP T i* coP m i) (by omega);refine aa_ (ac_ (s_r 6 ?_));refine a_1 ?_;refine i_x hgt ?_;refine l_x hgt ?_
 refine a_z ?_;refine r_d hmix 9 ?_;refine a_4 ?_;refine i_x hgm ?_;refine l_x hgm ?_;refine c_s (hmu) ?_;refine c_s (had) ?_;refine a_1 ?_;refine ai_ (n_k ?_);refine r_m 2 ?_;refine a_z ?_;refine⟨(i+1,o+coP T i* coP m i),by simp only;omega,⟨hlt,by simp only;rw[ofQ,←ho]⟩,?_⟩;simp only[apS.eq_1];exact s_f [];have hge:i=T.length:=by omega
 subst hge;refine q_z 1 ?_;refine aa_ (cF (am_ ⟨(),trivial,?_⟩));rw[ho];exact s_e [(1,4),(2,5)];rintro _ _;refine r_z 2 ?_;exact af_ (c_e (aI_ _))
theorem fs_Apply(p w f:List Rat)(v:Rat)(hck:FS 94 [.agg (ruC p w)] (i64 0))(hap:FS 103 [.agg (ruC p w),.arr (pE f)] (.agg (qC v))):
    FS 24 [.agg (ruC p w),.arr (pE f)] (.tup [.agg (qC v),i64 0]):=by
 have hWc:=bn_ p w;refine f_c Tryz.func24 ?_;refine r_z 3 ?_;refine aa_ (r_c 3 (hck) ?_);refine a_z ?_;refine s_r 2 ?_;refine a_1 ?_;refine o_0 (.bin rfl rfl (vF bd_ (rfl))) ?_;refine ai_ ?_;refine cF (ae_ (r_c 5 (hap) ?_));refine a_z ?_;refine af_ (Fin.many ⟨_,_,rfl,⟨_,_,_,_,_,rfl,rfl,rfl,.inl ⟨TG.h,_,TS.h,nle rfl,rfl⟩⟩,⟨_,_,rfl,rfl,rfl⟩⟩ (nle rfl) ?_);exact ag_ (an_ ar_ (aI_ _)) (ag_ (an_ ar_ (ad_ _)) ao_)
end Go.Proofs.YtdjfjpeoddmamaaGreatDoor
