/- Part W20 of the proof. -/
import Derived.Test.YtdjfjpeoddmamaaGreatDoorW19
set_option linter.all false
namespace Go.Proofs.YtdjfjpeoddmamaaGreatDoor
open Go.Abs
set_option maxRecDepth 20000
set_option maxHeartbeats 1000000
def evLo(c:Nat):RQ×RQ:=if c=1 then(r0,r0) else(rq (-1),rq 1)
def evP(c:Nat)(z:Bool×List AV×List AV):Prop:=z.1=decide (1< c)∧(∃u0 u1 u2 u3,z.2.1=[u0,u1,u2,u3])∧(∃u0 u1 u2 u3,z.2.2=[u0,u1,u2,u3])∧(∀x∈z.2.1,Closed x)∧(∀x∈z.2.2,Closed x)∧
 ∀r hp hp',Shr r hp hp'→CvL r hp hp' z.2.1 (rC (evLo c).1)∧CvL r hp hp' z.2.2 (rC (evLo c).2)
def evA(c k:Nat):Rat:=if c=1 then oddM k (k/ 2) else(((fcN k:Nat):Int):Rat) / (((fcN (k/ 2):Nat):Int) * ((fcN (k/ 2):Nat):Int):Rat)
theorem evD_A(c k:Nat)(hk:k % 2=0):evD c k=if c=1 then halfM (evA c k) (k/ 2) else if c=3 then halfM (halfM (evA c k) (k/ 2)) (k/ 2) / (((k/ 2+1:Nat):Int):Rat) else halfM (halfM (evA c k) (k/ 2)) (k/ 2):=by
 unfold evD evA
 rw[if_pos hk]
 by_cases h:c=1
 rw[if_pos h,if_pos h,if_pos h]
 rw[if_neg h,if_neg h,if_neg h]
theorem lU_(k:Nat):∀j,j≤100→qs (oddM k j)≤j* 21+1
 |0,_=>by rw[Nat.zero_mul];show qs 1≤0+1;decide
 |j+1,h=>by
  have h1:=lU_ k j (by omega)
  have h2:=cb_ (oddM k j) (((2* j+1:Nat):Int):Rat)
  have h3:=qi21 (n:=((2* j+1:Nat):Int)) (by omega)
  rw[oddM];omega
theorem jG_(m:Rat):∀j,qs (halfM m j)≤qs m+j* 2
 |0=>Nat.le_refl _
 |j+1=>by
  have h1:=jG_ m j
  have h2:=cb_ (halfM m j) (1/ 2)
  have h3:qs ((1:Rat) / 2)=2:=by decide+kernel
  rw[halfM];omega
theorem evA_qs(c k:Nat)(hk:k≤63):qs (evA c k)≤2000:=by
 unfold evA
 split
 have:=lU_ k (k/ 2) (by omega)
 omega
 have h1:=d1_ (((fcN k:Nat):Int):Rat) (((fcN (k/ 2):Nat):Int) * ((fcN (k/ 2):Nat):Int):Rat)
 have h2:=cb_ (((fcN (k/ 2):Nat):Int):Rat) (((fcN (k/ 2):Nat):Int):Rat)
 have h3:=gI_ (n:=k) (by omega)
 have h4:=gI_ (n:=k/ 2) (by omega)
 omega
theorem qi_:∀n,0< fcN n
 |0=>by decide
 |n+1=>Nat.mul_pos (qi_ n) (Nat.succ_pos n)
theorem fcN_ne(n:Nat):(((fcN n:Nat):Int):Rat)≠0:=m3_ (by have:=qi_ n;omega)
theorem rOf12:Rat.divInt 1 2=(1:Rat) / 2:=by decide+kernel
def evMS(f:Nat→Rat)(c n:Nat)(zb:Bool)(zl zh:List AV)(K:Nat):Nat→Fr→Rat→AState
 |0=>fun fx m=>⟨fx++[(6,i64 K),(7,.lptr 4 0 0),(4,.lptr 1 0 0),(5,.lptr 2 0 0),(0,i64 c),(1,i64 n)],[(1,some ⟨77,11,[rw0]⟩),(2,some ⟨77,11,[rwX .emp zb zb zl zh]⟩),(4,some ⟨42,4,[rC (rq m)]⟩)],5,86⟩
 |k+1=>fun fx m=>⟨fx++[(6,i64 K),(7,.lptr 4 0 0),(4,.lptr 1 0 0),(5,.lptr 2 0 0),(0,i64 c),(1,i64 n)],[(1,some ⟨77,11,[rw0]⟩),(2,some ⟨77,11,[rwX (.lsl 3 0 (k+1) none 4) zb zb zl zh]⟩),(3,some ⟨42,4,rE (rP (sqL f (k+1)))⟩),(4,some ⟨42,4,[rC (rq m)]⟩)],5,86⟩
theorem cG_(f:Nat→Rat)(c n:Nat)(zb:Bool)(zl zh:List AV)(K:Nat)(fx:Fr)(m:Rat):evMS f c n zb zl zh K 0 fx m=⟨fx++[(6,i64 K),(7,.lptr 4 0 0),(4,.lptr 1 0 0),(5,.lptr 2 0 0),(0,i64 c),(1,i64 n)],[(1,some ⟨77,11,[rw0]⟩),(2,some ⟨77,11,[rwX .emp zb zb zl zh]⟩),(4,some ⟨42,4,[rC (rq m)]⟩)],5,86⟩:=rfl
theorem cF_(f:Nat→Rat)(c n:Nat)(zb:Bool)(zl zh:List AV)(K k:Nat)(fx:Fr)(m:Rat):evMS f c n zb zl zh K (k+1) fx m=⟨fx++[(6,i64 K),(7,.lptr 4 0 0),(4,.lptr 1 0 0),(5,.lptr 2 0 0),(0,i64 c),(1,i64 n)],[(1,some ⟨77,11,[rw0]⟩),(2,some ⟨77,11,[rwX (.lsl 3 0 (k+1) none 4) zb zb zl zh]⟩),(3,some ⟨42,4,rE (rP (sqL f (k+1)))⟩),(4,some ⟨42,4,[rC (rq m)]⟩)],5,86⟩:=rfl
def evHS(f:Nat→Rat)(c n:Nat)(zb:Bool)(zl zh:List AV)(K:Nat):Nat→AState
 |0=>⟨[(6,i64 K),(4,.lptr 1 0 0),(5,.lptr 2 0 0),(0,i64 c),(1,i64 n)],[(1,some ⟨77,11,[rw0]⟩),(2,some ⟨77,11,[rwX .emp zb zb zl zh]⟩)],4,86⟩
 |k+1=>⟨[(6,i64 K),(4,.lptr 1 0 0),(5,.lptr 2 0 0),(0,i64 c),(1,i64 n)],[(1,some ⟨77,11,[rw0]⟩),(2,some ⟨77,11,[rwX (.lsl 3 0 (k+1) none 4) zb zb zl zh]⟩),(3,some ⟨42,4,rE (rP (sqL f (k+1)))⟩)],4,86⟩
theorem evHS_0(f:Nat→Rat)(c n:Nat)(zb:Bool)(zl zh:List AV)(K:Nat):evHS f c n zb zl zh K 0=⟨[(6,i64 K),(4,.lptr 1 0 0),(5,.lptr 2 0 0),(0,i64 c),(1,i64 n)],[(1,some ⟨77,11,[rw0]⟩),(2,some ⟨77,11,[rwX .emp zb zb zl zh]⟩)],4,86⟩:=rfl
theorem qn_(f:Nat→Rat)(c n:Nat)(zb:Bool)(zl zh:List AV)(K k:Nat):evHS f c n zb zl zh K (k+1)=⟨[(6,i64 K),(4,.lptr 1 0 0),(5,.lptr 2 0 0),(0,i64 c),(1,i64 n)],[(1,some ⟨77,11,[rw0]⟩),(2,some ⟨77,11,[rwX (.lsl 3 0 (k+1) none 4) zb zb zl zh]⟩),(3,some ⟨42,4,rE (rP (sqL f (k+1)))⟩)],4,86⟩:=rfl
theorem fs_rEven(c n:Nat)(hc:1≤c∧c≤3)(hn:n≤63):FSpec Tryz.prog 111 [i64 c,i64 n] (.agg (rwC (sqL (evD c) (n+1)) (decide (1< c)) (decide (1< c)) (evLo c).1 (evLo c).2)):=by
 have i0:FSpec Tryz.prog 112 [i64 0] (.agg (rC (rq 0))):=cr_ 0 (by decide)
 have i1:FSpec Tryz.prog 112 [i64 1] (.agg (rC (rq 1))):=cr_ 1 (by decide)
 have im:FSpec Tryz.prog 112 [i64 (-1)] (.agg (rC (rq (-1)))):=cr_ (-1) (by decide)
 have ih:=fs_rOf 1 2 (by decide) (by decide) (by decide)
 rw[rOf12] at ih
 have e:∀k,rE (rP (sqL (evD c) k))++[rC (rq (evD c k))]=rE (rP (sqL (evD c) (k+1))):=fun k=>by rw[ed_,lQ_]
 refine f_n Tryz.func111 ?_ ?_
 exact aa_ (ad_ _) (aa_ (ad_ _) ab_)
 refine r_z 1 ?_
 refine r_z 1 ?_
 refine aS_ (fun z:Bool×List AV×List AV=>⟨[(0,i64 c),(1,i64 n),(4,.lptr 1 0 0),(5,.lptr 2 0 0)],[(1,some ⟨77,11,[rw0]⟩),(2,some ⟨77,11,[rwX .emp z.1 z.1 z.2.1 z.2.2]⟩)],3,86⟩) (evP c) ?_ ?_
 by_cases h1:1< c
 refine q_z 2 ?_
 refine cT (r_m 4 ?_)
 refine c_s (im) ?_
 refine c_s (i1) ?_
 refine a_z ?_
 refine⟨(true,rC (rq (-1)),rC (rq 1)),⟨(decide_eq_true h1).symm,⟨_,_,_,_,rfl⟩,⟨_,_,_,_,rfl⟩,bi_ _,bi_ _,fun r hp hp' hs=>by
  unfold evLo
  rw[if_neg (by omega)]
  exact⟨b8_ hs _,b8_ hs _⟩⟩,?_⟩
 refine as_ [(1,4),(2,5)] rfl rfl rfl au_r (fun hs=>au_f) (fun hs=>?_)
 ·repeat' (first|exact ao_|refine ak_ rfl rfl rfl rfl ?_ ?_)
  all_goals (first|((try exact ae_ (CvL.clo hs az_));(try exact ae_ (CvL.clo hs (bb_ (bi_ _) (bi_ _)))))|exact au_e)
 refine q_z 2 ?_
 refine cF ?_
 refine ag_ ⟨(false,zR4,zR4),⟨(decide_eq_false h1).symm,⟨_,_,_,_,rfl⟩,⟨_,_,_,_,rfl⟩,bA_,bA_,fun r hp hp' hs=>by
  unfold evLo
  rw[if_pos (by omega)]
  exact⟨gt_ hs,gt_ hs⟩⟩,?_⟩
 refine as_ [(1,4),(2,5)] rfl rfl rfl au_r (fun hs=>au_f) (fun hs=>?_)
 ·repeat' (first|exact ao_|refine ak_ rfl rfl rfl rfl ?_ ?_)
  all_goals (first|((try exact ae_ (CvL.clo hs az_));(try exact ae_ (CvL.clo hs (bb_ bA_ bA_))))|exact au_e)
 rintro⟨zb,zl,zh⟩ ⟨ez,⟨u0,u1,u2,u3,e1⟩,⟨v0,v1,v2,v3,e2⟩,c1,c2,hcv⟩
 simp only at ez e1 e2 c1 c2 hcv⊢
 subst e1;subst e2
 rw[←ez]
 refine ac_ (r_z 1 ?_)
 refine aD_ (fun _:Unit=>⟨[(4,.lptr 1 0 0),(5,.lptr 2 0 0)],[(1,some ⟨77,11,[rw0]⟩),(2,some ⟨77,11,[rwC (sqL (evD c) (n+1)) zb zb (evLo c).1 (evLo c).2]⟩)],3,86⟩) (fun _=>True) ?_ ?_
 refine ah_ (ax_ (fun k=>evHS (evD c) c n zb [u0,u1,u2,u3] [v0,v1,v2,v3] k k) (fun k=>n+1- k) (fun k=>k≤n+1) 0 (Nat.zero_le _) ?_ ?_)
 rw[evHS_0]
 refine as_ [(1,4),(2,5)] rfl rfl rfl au_r (fun hs=>au_f) (fun hs=>?_)
 ·repeat' (first|exact ao_|refine ak_ rfl rfl rfl rfl ?_ ?_)
  all_goals (first|((try exact ae_ (CvL.clo hs az_));(try exact ae_ (CvL.clo hs (bb_ c1 c2))))|exact au_e)
 rintro k hk
 by_cases hlt:k≤n
 ·obtain⟨K,hK⟩:∃K,K=k:=⟨_,rfl⟩
  have eK:=e K
  have hKn:K≤n:=by omega
  obtain⟨h,hh⟩:∃h,h=K/ 2:=⟨_,rfl⟩
  have hA:=evA_qs c K (by omega)
  have fK:=em_ K (by omega)
  have fh:=em_ h (by omega)
  have qK:=gI_ (n:=K) (by omega)
  have qh:=gI_ (n:=h) (by omega)
  have qm:=cb_ (((fcN h:Nat):Int):Rat) (((fcN h:Nat):Int):Rat)
  have fm:=el_ (rq (((fcN h:Nat):Int):Rat)) (rq (((fcN h:Nat):Int):Rat)) (bm_ _) (bm_ _) (by show qs (((fcN h:Nat):Int):Rat)+qs (((fcN h:Nat):Int):Rat)≤_;omega)
  have fne:(((fcN h:Nat):Int):Rat) * (((fcN h:Nat):Int):Rat)≠0:=fun e=>(Rat.mul_eq_zero.1 e).elim (fcN_ne h) (fcN_ne h)
  have fd:=l7_ (rq (((fcN K:Nat):Int):Rat)) (rq ((((fcN h:Nat):Int):Rat) * (((fcN h:Nat):Int):Rat))) (bm_ _) (bm_ _) fne (by show qs (((fcN K:Nat):Int):Rat)+qs ((((fcN h:Nat):Int):Rat) * (((fcN h:Nat):Int):Rat))≤_;omega)
  obtain⟨S0,hS0⟩:∃S0,S0=evMS (evD c) c n zb [u0,u1,u2,u3] [v0,v1,v2,v3] K k:=⟨_,rfl⟩
  rw[show evHS (evD c) c n zb [u0,u1,u2,u3] [v0,v1,v2,v3] k k=evHS (evD c) c n zb [u0,u1,u2,u3] [v0,v1,v2,v3] K k by rw[hK]]
  rcases k with _|k
  all_goals
   first|rw[evHS_0]|rw[qn_]
   refine ac_ (q_z 3 ?_)
   refine cT (ag_ (ac_ (ah_ (r_c 3 (i0) ?_))))
   refine a_z ?_
   refine aS_ (fun _:Unit=>S0 [] (evD c K)) (fun _=>True) ?_ ?_
   by_cases hp:K % 2=0
   refine q_z 3 ?_
   refine cT (r_z 3 ?_)
   rw[show((K:Nat):Int) / 2=((h:Nat):Int) by omega]
   refine r_c 2 (i1) ?_
   refine a_z ?_
   refine ac_ (r_z 1 ?_)
   refine aD_ (fun _:Unit=>S0 [(8,i64 h)] (if c=1 then oddM K h else 1)) (fun _=>True) ?_ ?_
   refine ah_ (ax_ (fun j:Nat=>S0 [(8,i64 h),(9,i64 ((2* j+1:Nat):Int))] (oddM K j)) (fun j=>h- j) (fun j=>j≤h∧(c=1∨j=0)) 0 ⟨Nat.zero_le _,.inr rfl⟩ ?_ ?_)
   rw[hS0]
   try first|rw[cG_]|rw[cF_]
   refine SEnt.to2 [(1,4),(2,5),(3,100003),(4,7)] rfl rfl rfl au_r (fun hs=>au_f) (fun hs=>?_)
   ·repeat' (first|exact ao_|refine ak_ rfl rfl rfl rfl ?_ ?_)
    all_goals (first|((try exact ae_ (CvL.clo hs az_));(try exact ae_ (CvL.clo hs (bb_ c1 c2)));(try exact ae_ (bF_ hs (Cv.sl rfl rfl rfl) (CvL.clo hs c1) (CvL.clo hs c2)));(try exact aQ_ hs (aY_ _));(try exact ae_ (b8_ hs _)))|exact au_e)
   rintro j ⟨hj,hj1⟩
   try rw[hS0]
   try first|rw[cG_]|rw[cF_]
   by_cases hlj:j< h
   by_cases hc1:c=1
   have ij:=cr_ ((2* j+1:Nat):Int) (by omega)
   have qj:=qi21 (n:=((2* j+1:Nat):Int)) (by omega)
   have qo:=lU_ K j (by omega)
   have mj:=el_ (rq (oddM K j)) (rq (((2* j+1:Nat):Int):Rat)) (bm_ _) (bm_ _) (by show qs (oddM K j)+qs (((2* j+1:Nat):Int):Rat)≤_;omega)
   refine ac_ (q_z 7 ?_)
   refine cT (ag_ (ac_ (ah_ (r_d hmix 5 ?_))))
   refine c_s (ij) ?_
   refine c_s (mj) ?_
   refine a_1 ?_
   refine an_ (n_k ?_)
   refine r_m 3 ?_
   refine a_z ?_
   refine⟨j+1,by omega,⟨hlj,.inl hc1⟩,?_⟩
   try rw[hS0]
   try first|rw[cG_]|rw[cF_]
   refine SEnt.to2 [(1,4),(2,5),(3,100003),(4,7)] rfl rfl rfl au_r (fun hs=>au_f) (fun hs=>?_)
   ·repeat' (first|exact ao_|refine ak_ rfl rfl rfl rfl ?_ ?_)
    all_goals (first|((try exact ae_ (CvL.clo hs az_));(try exact ae_ (CvL.clo hs (bb_ c1 c2)));(try exact ae_ (bF_ hs (Cv.sl rfl rfl rfl) (CvL.clo hs c1) (CvL.clo hs c2)));(try exact aQ_ hs (aY_ _));(try exact ae_ (b8_ hs _)))|exact au_e)
   ·refine ac_ (s_r 7 ?_)
    refine o_0 (.move rfl) ?_
    refine o_0 (.move rfl) ?_
    refine o_0 (.bin rfl rfl (vT c8_ (decide_eq_true (by omega)))) ?_
    refine o_0 (.move rfl) ?_
    first|refine ay_ rfl rfl rfl (.move rfl) rfl rfl ?_|refine bt_ rfl rfl (by first|(simp[bf_];done)|exact nofun) rfl rfl ?_
    refine ay_ rfl rfl rfl (.bin rfl rfl (vF a8_ (decide_eq_false (by omega)))) rfl rfl ?_
    first|refine aB_ (.pick rfl (fun _=>rfl) (fun _=>rfl)) rfl rfl ?_|refine aB_ (.pick rfl (fun _=>rfl) (fun h=>absurd h (by decide))) rfl rfl ?_|refine aB_ (.pick rfl (fun h=>absurd h (by decide)) (fun _=>rfl)) rfl rfl ?_
    refine an_ ?_
    refine cF (au_ ⟨(),trivial,?_⟩)
    rw[if_neg hc1,show j=0 from hj1.resolve_left hc1]
    try rw[hS0]
    try first|rw[cG_]|rw[cF_]
    refine SEnt.to2 [(1,4),(2,5),(3,100003),(4,7)] rfl rfl rfl au_r (fun hs=>au_f) (fun hs=>?_)
    ·repeat' (first|exact ao_|refine ak_ rfl rfl rfl rfl ?_ ?_)
     all_goals (first|((try exact ae_ (CvL.clo hs az_));(try exact ae_ (CvL.clo hs (bb_ c1 c2)));(try exact ae_ (bF_ hs (Cv.sl rfl rfl rfl) (CvL.clo hs c1) (CvL.clo hs c2)));(try exact aQ_ hs (aY_ _));(try exact ae_ (b8_ hs _)))|exact au_e)
   refine ac_ (q_z 7 ?_)
   refine cF (au_ ⟨(),trivial,?_⟩)
   have eo:(if c=1 then oddM K h else 1)=oddM K j:=by
    have:j=h:=by omega
    subst this
    rcases hj1 with e|e
    rw[if_pos e]
    rw[e];split <;> rfl
   rw[eo]
   try rw[hS0]
   try first|rw[cG_]|rw[cF_]
   refine SEnt.to2 [(1,4),(2,5),(3,100003),(4,7)] rfl rfl rfl au_r (fun hs=>au_f) (fun hs=>?_)
   ·repeat' (first|exact ao_|refine ak_ rfl rfl rfl rfl ?_ ?_)
    all_goals (first|((try exact ae_ (CvL.clo hs az_));(try exact ae_ (CvL.clo hs (bb_ c1 c2)));(try exact ae_ (bF_ hs (Cv.sl rfl rfl rfl) (CvL.clo hs c1) (CvL.clo hs c2)));(try exact aQ_ hs (aY_ _));(try exact ae_ (b8_ hs _)))|exact au_e)
   rintro _ _
   refine aS_ (fun _:Unit=>S0 [(8,i64 h)] (evA c K)) (fun _=>True) ?_ ?_
   rw[hS0]
   try first|rw[cG_]|rw[cF_]
   by_cases hc1:c=1
   refine q_z 2 ?_
   refine cF (ag_ ⟨(),trivial,?_⟩)
   rw[show(if c=1 then oddM K h else 1)=evA c K by unfold evA;rw[if_pos hc1,if_pos hc1,hh]]
   refine SEnt.to2 [(1,4),(2,5),(3,100003),(4,7)] rfl rfl rfl au_r (fun hs=>au_f) (fun hs=>?_)
   ·repeat' (first|exact ao_|refine ak_ rfl rfl rfl rfl ?_ ?_)
    all_goals (first|((try exact ae_ (CvL.clo hs az_));(try exact ae_ (CvL.clo hs (bb_ c1 c2)));(try exact ae_ (bF_ hs (Cv.sl rfl rfl rfl) (CvL.clo hs c1) (CvL.clo hs c2)));(try exact aQ_ hs (aY_ _));(try exact ae_ (b8_ hs _)))|exact au_e)
   refine q_z 2 ?_
   refine cT (r_m 9 ?_)
   refine c_s (fK) ?_
   refine c_s (fh) ?_
   refine c_s (fh) ?_
   refine c_s (fm) ?_
   refine c_s (fd) ?_
   refine a_z ?_
   refine⟨(),trivial,?_⟩
   rw[show evA c K=(((fcN K:Nat):Int):Rat) / ((((fcN h:Nat):Int):Rat) * (((fcN h:Nat):Int):Rat)) by unfold evA;rw[if_neg hc1,hh]]
   refine SEnt.to2 [(1,4),(2,5),(3,100003),(4,7)] rfl rfl rfl au_r (fun hs=>au_f) (fun hs=>?_)
   ·repeat' (first|exact ao_|refine ak_ rfl rfl rfl rfl ?_ ?_)
    all_goals (first|((try exact ae_ (CvL.clo hs az_));(try exact ae_ (CvL.clo hs (bb_ c1 c2)));(try exact ae_ (bF_ hs (Cv.sl rfl rfl rfl) (CvL.clo hs c1) (CvL.clo hs c2)));(try exact aQ_ hs (aY_ _));(try exact ae_ (b8_ hs _)))|exact au_e)
   rintro _ _
   have eD:=evD_A c K hp
   rw[←hh] at eD
   generalize evA c K=A at *
   try rw[hS0]
   try first|rw[cG_]|rw[cF_]
   refine ac_ (r_z 1 ?_)
   have hb4:∀j,j≤h→qs (halfM A j)≤2200:=fun j hj=>by have:=jG_ A j;omega
   have hb6:∀j,j≤h→qs (halfM (halfM A h) j)≤2400:=fun j hj=>by
    have h1:=jG_ (halfM A h) j
    have h2:=hb4 h (Nat.le_refl h)
    omega
   have mh:∀q:Rat,qs q≤3000→FSpec Tryz.prog 118 [.agg (rC (rq q)),.agg (rC (rq (1/ 2)))] (.agg (rC (rq (q* (1/ 2))))):=fun q hq=>el_ (rq q) (rq (1/ 2)) (bm_ _) (bm_ _) (by
    have h3:qs ((1:Rat) / 2)=2:=by decide+kernel
    show qs q+qs (1/ 2)≤_;omega)
   refine aD_ (fun _:Unit=>S0 [(8,i64 h)] (halfM A h)) (fun _=>True) ?_ ?_
   refine ah_ (ax_ (fun j:Nat=>S0 [(8,i64 h),(10,i64 ((j:Nat):Int))] (halfM A j)) (fun j=>h- j) (fun j=>j≤h) 0 (Nat.zero_le _) ?_ ?_)
   rw[hS0]
   try first|rw[cG_]|rw[cF_]
   refine SEnt.to2 [(1,4),(2,5),(3,100003),(4,7)] rfl rfl rfl au_r (fun hs=>au_f) (fun hs=>?_)
   ·repeat' (first|exact ao_|refine ak_ rfl rfl rfl rfl ?_ ?_)
    all_goals (first|((try exact ae_ (CvL.clo hs az_));(try exact ae_ (CvL.clo hs (bb_ c1 c2)));(try exact ae_ (bF_ hs (Cv.sl rfl rfl rfl) (CvL.clo hs c1) (CvL.clo hs c2)));(try exact aQ_ hs (aY_ _));(try exact ae_ (b8_ hs _)))|exact au_e)
   rintro j hj
   try rw[hS0]
   try first|rw[cG_]|rw[cF_]
   by_cases hlj:j< h
   have mj:=mh (halfM A j) (by have:=hb4 j hj;omega)
   refine ac_ (q_z 3 ?_)
   refine cT (ag_ (ac_ (ah_ (r_d hmix 4 ?_))))
   refine c_s (ih) ?_
   refine c_s (mj) ?_
   refine a_1 ?_
   refine an_ (n_k ?_)
   refine r_m 3 ?_
   refine a_z ?_
   refine⟨j+1,by omega,hlj,?_⟩
   try rw[hS0]
   try first|rw[cG_]|rw[cF_]
   refine SEnt.to2 [(1,4),(2,5),(3,100003),(4,7)] rfl rfl rfl au_r (fun hs=>au_f) (fun hs=>?_)
   ·repeat' (first|exact ao_|refine ak_ rfl rfl rfl rfl ?_ ?_)
    all_goals (first|((try exact ae_ (CvL.clo hs az_));(try exact ae_ (CvL.clo hs (bb_ c1 c2)));(try exact ae_ (bF_ hs (Cv.sl rfl rfl rfl) (CvL.clo hs c1) (CvL.clo hs c2)));(try exact aQ_ hs (aY_ _));(try exact ae_ (b8_ hs _)))|exact au_e)
   have:j=h:=by omega
   subst this
   refine ac_ (q_z 3 ?_)
   refine cF (au_ ⟨(),trivial,?_⟩)
   try rw[hS0]
   try first|rw[cG_]|rw[cF_]
   refine SEnt.to2 [(1,4),(2,5),(3,100003),(4,7)] rfl rfl rfl au_r (fun hs=>au_f) (fun hs=>?_)
   ·repeat' (first|exact ao_|refine ak_ rfl rfl rfl rfl ?_ ?_)
    all_goals (first|((try exact ae_ (CvL.clo hs az_));(try exact ae_ (CvL.clo hs (bb_ c1 c2)));(try exact ae_ (bF_ hs (Cv.sl rfl rfl rfl) (CvL.clo hs c1) (CvL.clo hs c2)));(try exact aQ_ hs (aY_ _));(try exact ae_ (b8_ hs _)))|exact au_e)
   rintro _ _
   try rw[hS0]
   try first|rw[cG_]|rw[cF_]
   refine ac_ (r_z 1 ?_)
   refine aD_ (fun _:Unit=>S0 [(8,i64 h)] (if c=1 then halfM A h else halfM (halfM A h) h)) (fun _=>True) ?_ ?_
   refine ah_ (ax_ (fun j:Nat=>S0 [(8,i64 h),(11,i64 ((j:Nat):Int))] (halfM (halfM A h) j)) (fun j=>h- j) (fun j=>j≤h∧(1< c∨j=0)) 0 ⟨Nat.zero_le _,.inr rfl⟩ ?_ ?_)
   rw[hS0]
   try first|rw[cG_]|rw[cF_]
   refine SEnt.to2 [(1,4),(2,5),(3,100003),(4,7)] rfl rfl rfl au_r (fun hs=>au_f) (fun hs=>?_)
   ·repeat' (first|exact ao_|refine ak_ rfl rfl rfl rfl ?_ ?_)
    all_goals (first|((try exact ae_ (CvL.clo hs az_));(try exact ae_ (CvL.clo hs (bb_ c1 c2)));(try exact ae_ (bF_ hs (Cv.sl rfl rfl rfl) (CvL.clo hs c1) (CvL.clo hs c2)));(try exact aQ_ hs (aY_ _));(try exact ae_ (b8_ hs _)))|exact au_e)
   rintro j ⟨hj,hj1⟩
   try rw[hS0]
   try first|rw[cG_]|rw[cF_]
   by_cases hlj:j< h
   by_cases hc1:1< c
   have mj:=mh (halfM (halfM A h) j) (by have:=hb6 j hj;omega)
   refine ac_ (q_z 7 ?_)
   refine cT (ag_ (ac_ (ah_ (r_d hmix 4 ?_))))
   refine c_s (ih) ?_
   refine c_s (mj) ?_
   refine a_1 ?_
   refine an_ (n_k ?_)
   refine r_m 3 ?_
   refine a_z ?_
   refine⟨j+1,by omega,⟨hlj,.inl hc1⟩,?_⟩
   try rw[hS0]
   try first|rw[cG_]|rw[cF_]
   refine SEnt.to2 [(1,4),(2,5),(3,100003),(4,7)] rfl rfl rfl au_r (fun hs=>au_f) (fun hs=>?_)
   ·repeat' (first|exact ao_|refine ak_ rfl rfl rfl rfl ?_ ?_)
    all_goals (first|((try exact ae_ (CvL.clo hs az_));(try exact ae_ (CvL.clo hs (bb_ c1 c2)));(try exact ae_ (bF_ hs (Cv.sl rfl rfl rfl) (CvL.clo hs c1) (CvL.clo hs c2)));(try exact aQ_ hs (aY_ _));(try exact ae_ (b8_ hs _)))|exact au_e)
   ·refine ac_ (s_r 7 ?_)
    refine o_0 (.move rfl) ?_
    refine o_0 (.move rfl) ?_
    refine o_0 (.bin rfl rfl (vT c8_ (decide_eq_true (by omega)))) ?_
    refine o_0 (.move rfl) ?_
    first|refine ay_ rfl rfl rfl (.move rfl) rfl rfl ?_|refine bt_ rfl rfl (by first|(simp[bf_];done)|exact nofun) rfl rfl ?_
    refine ay_ rfl rfl rfl (.bin rfl rfl (vF dT_ (decide_eq_false (by omega)))) rfl rfl ?_
    first|refine aB_ (.pick rfl (fun _=>rfl) (fun _=>rfl)) rfl rfl ?_|refine aB_ (.pick rfl (fun _=>rfl) (fun h=>absurd h (by decide))) rfl rfl ?_|refine aB_ (.pick rfl (fun h=>absurd h (by decide)) (fun _=>rfl)) rfl rfl ?_
    refine an_ ?_
    refine cF (au_ ⟨(),trivial,?_⟩)
    rw[if_pos (by omega),show j=0 from hj1.resolve_left hc1]
    try rw[hS0]
    try first|rw[cG_]|rw[cF_]
    refine SEnt.to2 [(1,4),(2,5),(3,100003),(4,7)] rfl rfl rfl au_r (fun hs=>au_f) (fun hs=>?_)
    ·repeat' (first|exact ao_|refine ak_ rfl rfl rfl rfl ?_ ?_)
     all_goals (first|((try exact ae_ (CvL.clo hs az_));(try exact ae_ (CvL.clo hs (bb_ c1 c2)));(try exact ae_ (bF_ hs (Cv.sl rfl rfl rfl) (CvL.clo hs c1) (CvL.clo hs c2)));(try exact aQ_ hs (aY_ _));(try exact ae_ (b8_ hs _)))|exact au_e)
   refine ac_ (q_z 7 ?_)
   refine cF (au_ ⟨(),trivial,?_⟩)
   have eo:(if c=1 then halfM A h else halfM (halfM A h) h)=halfM (halfM A h) j:=by
    have:j=h:=by omega
    subst this
    rcases hj1 with e|e
    rw[if_neg (by omega)]
    subst e;split <;> rfl
   rw[eo]
   try rw[hS0]
   try first|rw[cG_]|rw[cF_]
   refine SEnt.to2 [(1,4),(2,5),(3,100003),(4,7)] rfl rfl rfl au_r (fun hs=>au_f) (fun hs=>?_)
   ·repeat' (first|exact ao_|refine ak_ rfl rfl rfl rfl ?_ ?_)
    all_goals (first|((try exact ae_ (CvL.clo hs az_));(try exact ae_ (CvL.clo hs (bb_ c1 c2)));(try exact ae_ (bF_ hs (Cv.sl rfl rfl rfl) (CvL.clo hs c1) (CvL.clo hs c2)));(try exact aQ_ hs (aY_ _));(try exact ae_ (b8_ hs _)))|exact au_e)
   rintro _ _
   try rw[hS0]
   try first|rw[cG_]|rw[cF_]
   by_cases hc3:c=3
   rw[if_neg (show¬c=1 by omega)]
   have iq:=cr_ ((h+1:Nat):Int) (by omega)
   have qq:=qi21 (n:=((h+1:Nat):Int)) (by omega)
   have dq:=l7_ (rq (halfM (halfM A h) h)) (rq (((h+1:Nat):Int):Rat)) (bm_ _) (bm_ _) (m3_ (by omega)) (by
    have:=hb6 h (Nat.le_refl h)
    show qs (halfM (halfM A h) h)+qs (((h+1:Nat):Int):Rat)≤_;omega)
   refine q_z 2 ?_
   refine cT (r_d hmix 6 ?_)
   refine c_s (iq) ?_
   refine c_s (dq) ?_
   refine a_1 ?_
   refine an_ (n_k ?_)
   refine⟨(),trivial,?_⟩
   rw[show evD c K=halfM (halfM A h) h/ (((h+1:Nat):Int):Rat) by rw[eD,if_neg (show¬c=1 by omega),if_pos hc3]]
   try rw[hS0]
   try first|rw[cG_]|rw[cF_]
   refine SEnt.to2 [(1,4),(2,5),(3,100003),(4,7)] rfl rfl rfl au_r (fun hs=>au_f) (fun hs=>?_)
   ·repeat' (first|exact ao_|refine ak_ rfl rfl rfl rfl ?_ ?_)
    all_goals (first|((try exact ae_ (CvL.clo hs az_));(try exact ae_ (CvL.clo hs (bb_ c1 c2)));(try exact ae_ (bF_ hs (Cv.sl rfl rfl rfl) (CvL.clo hs c1) (CvL.clo hs c2)));(try exact aQ_ hs (aY_ _));(try exact ae_ (b8_ hs _)))|exact au_e)
   refine q_z 2 ?_
   refine cF (ag_ ⟨(),trivial,?_⟩)
   rw[show evD c K=(if c=1 then halfM A h else halfM (halfM A h) h) by rw[eD,if_neg hc3]]
   try rw[hS0]
   try first|rw[cG_]|rw[cF_]
   refine SEnt.to2 [(1,4),(2,5),(3,100003),(4,7)] rfl rfl rfl au_r (fun hs=>au_f) (fun hs=>?_)
   ·repeat' (first|exact ao_|refine ak_ rfl rfl rfl rfl ?_ ?_)
    all_goals (first|((try exact ae_ (CvL.clo hs az_));(try exact ae_ (CvL.clo hs (bb_ c1 c2)));(try exact ae_ (bF_ hs (Cv.sl rfl rfl rfl) (CvL.clo hs c1) (CvL.clo hs c2)));(try exact aQ_ hs (aY_ _));(try exact ae_ (b8_ hs _)))|exact au_e)
   refine s_r 3 ?_
   refine o_0 (.move rfl) ?_
   refine o_0 (.bin rfl rfl (nW_ (by omega))) ?_
   refine o_0 (.bin rfl rfl (vF a8_ (decide_eq_false (by omega)))) ?_
   refine an_ ?_
   refine cF (ag_ ⟨(),trivial,?_⟩)
   rw[show evD c K=0 by unfold evD;rw[if_neg hp]]
   try rw[hS0]
   try first|rw[cG_]|rw[cF_]
   refine SEnt.to2 [(1,4),(2,5),(3,100003),(4,7)] rfl rfl rfl au_r (fun hs=>au_f) (fun hs=>?_)
   ·repeat' (first|exact ao_|refine ak_ rfl rfl rfl rfl ?_ ?_)
    all_goals (first|((try exact ae_ (CvL.clo hs az_));(try exact ae_ (CvL.clo hs (bb_ c1 c2)));(try exact ae_ (bF_ hs (Cv.sl rfl rfl rfl) (CvL.clo hs c1) (CvL.clo hs c2)));(try exact aQ_ hs (aY_ _));(try exact ae_ (b8_ hs _)))|exact au_e)
   ·rintro _ _
    try rw[hS0]
    generalize evD c=f at *
    try first|rw[cG_]|rw[cF_]
    refine r_m 7 ?_
    refine a_4 ?_
    first|refine AR.op2 (.append_l rfl rfl rfl te_65.h rfl rfl rfl rfl rfl d_o (by first|exact dR_ _|exact dI_ _|exact df_ _|exact dS_ _|exact dw_ _|assumption|rfl|simp) (by first|rfl|exact dR_ _|exact dI_ _|exact df_ _|exact dS_ _|exact dw_ _|simp) rfl (.lsl rfl (nle rfl)) tz_42.h rfl tb_42.h d_o (by first|(simp[maxLen];done)|(simp[maxLen];omega))) rfl rfl ?_|refine AR.op1 (.append_e rfl rfl rfl te_65.h rfl rfl rfl (.lsl rfl (nle rfl)) (by first|assumption|(simp;done)) tz_42.h rfl tb_42.h d_o (by first|(simp[maxLen];done)|(simp[maxLen];omega))) rfl rfl ?_
    refine a_z ?_
    refine r_m 3 ?_
    refine a_z ?_
    subst hK
    first|refine⟨k+1+1,by omega,by omega,?_⟩|refine⟨0+1,by omega,by omega,?_⟩
    rw[qn_]
    refine as_ [(1,4),(2,5),(3,83)] rfl rfl rfl ?_ (fun hs=>au_f) (fun hs=>?_)
    ·repeat' (first|exact ShrL.nil|refine ShrL.cons rfl rfl rfl rfl (by first|(simp)|rfl|(simp;done)|(simp <;> omega)) ?_)
    ·repeat' (first|exact ao_|refine ak_ rfl rfl rfl rfl ?_ ?_)
     all_goals (first|((try exact ae_ (CvL.clo hs az_));(try exact ae_ (bF_ hs (Cv.sl rfl rfl rfl) (CvL.clo hs c1) (CvL.clo hs c2)));(try exact aQ_ hs (aY_ (rP [f 0])));(try exact aG_ hs eK (aY_ _)))|exact au_e)
 have hge:k=n+1:=by omega
 subst hge
 rw[qn_]
 refine ac_ (q_z 3 ?_)
 refine cF (au_ ⟨(),trivial,?_⟩)
 refine as_ [(1,4),(2,5)] rfl rfl rfl au_r (fun hs=>au_f) (fun hs=>?_)
 ·repeat' (first|exact ao_|refine ak_ rfl rfl rfl rfl ?_ ?_)
  all_goals (first|((try exact ae_ (CvL.clo hs az_));(try exact ae_ (bF_ hs (ik_ (L:=rP (sqL (evD c) (n+1))) hs rfl (aE_ rfl) rfl (by simp[rP])) (hcv _ _ _ hs).1 (hcv _ _ _ hs).2)))|exact au_e)
 rintro _ _
 refine r_z 2 ?_
 exact ai_ (c_e (aq_ aV_))
def okW(m:List Rat)(l r:Bool)(a b:Rat):Prop:=1≤m.length∧m.length≤64∧(l=true→r=true→a< b)
instance (m:List Rat) (l r:Bool) (a b:Rat):Decidable (okW m l r a b):=inferInstanceAs (Decidable (_∧_∧_))
theorem qE_{a b:Rat}(h:¬a< b):(0:Int)≤cmpQ a b:=by
 unfold cmpQ
 rw[if_neg h]
 split <;> decide
theorem cmp_lt{a b:Rat}(h:a< b):cmpQ a b= -1:=by unfold cmpQ;rw[if_pos h]
theorem eN_(m:List Rat)(l r:Bool)(a b:Rat)(h:¬okW m l r a b)(hml:m.length≤1000000)(ha:sm a)(hb:sm b):FSpec Tryz.prog 31 [.agg (wC m l r (qC a) (qC b))] (i64 2):=by
 have ho:=bo_ (m.length:Nat) 1 64
 have hWc:=aJ_ (m:=m) (l:=l) (r:=r) (.inr ⟨a,rfl⟩) (.inr ⟨b,rfl⟩)
 have hcm:=ja_ a b ha hb
 refine f_n Tryz.func31 ?_ ?_
 exact aa_ (aq_ hWc) ab_
 refine r_z 2 ?_
 by_cases h1:1≤m.length∧m.length≤64
 rw[decide_eq_false (by omega)] at ho
 have hl:l=true:=by
  cases l
  exact absurd ⟨h1.1,h1.2,fun e=>by cases e⟩ h
  rfl
 have hr:r=true:=by
  cases r
  exact absurd ⟨h1.1,h1.2,fun _ e=>by cases e⟩ h
  rfl
 have hlt:¬a< b:=fun e=>h ⟨h1.1,h1.2,fun _ _=>e⟩
 subst hl;subst hr
 refine ac_ (r_c 20 (ho) ?_)
 refine c_s (hcm) ?_
 refine ay_ rfl rfl rfl (.bin rfl rfl (vT cv_ (decide_eq_true (qE_ hlt)))) rfl rfl ?_
 refine a_z ?_
 refine cT (r_z 1 ?_)
 exact ai_ (t_e (ad_ _))
 ·rw[decide_eq_true (by omega)] at ho
  cases l with
  |false=>
   refine ac_ (r_c 20 (ho) ?_)
   refine o_0 (.move rfl) ?_
   first|refine ay_ rfl rfl rfl (.fieldAddr_l rfl tf_51_1.h (by decide)) rfl rfl ?_|refine ay_ rfl rfl rfl (.fieldAddr_a rfl tf_51_1.h (by decide)) rfl rfl ?_|refine bt_ rfl rfl (by first|(simp[bf_];done)|exact nofun) rfl rfl ?_
   first|refine ay_ rfl rfl rfl (.load_l1 rfl rfl rfl tg_4.h rfl) rfl rfl ?_|refine ay_ rfl rfl rfl (.load_a1 rfl rfl tg_4.h rfl) rfl rfl ?_|refine bt_ rfl rfl (by first|(simp[bf_];done)|exact nofun) rfl rfl ?_
   first|refine ay_ rfl rfl rfl (.move rfl) rfl rfl ?_|refine bt_ rfl rfl (by first|(simp[bf_];done)|exact nofun) rfl rfl ?_
   first|refine ay_ rfl rfl rfl (.fieldAddr_l rfl tf_51_2.h (by decide)) rfl rfl ?_|refine ay_ rfl rfl rfl (.fieldAddr_a rfl tf_51_2.h (by decide)) rfl rfl ?_|refine bt_ rfl rfl (by first|(simp[bf_];done)|exact nofun) rfl rfl ?_
   first|refine ay_ rfl rfl rfl (.load_l1 rfl rfl rfl tg_4.h rfl) rfl rfl ?_|refine ay_ rfl rfl rfl (.load_a1 rfl rfl tg_4.h rfl) rfl rfl ?_|refine bt_ rfl rfl (by first|(simp[bf_];done)|exact nofun) rfl rfl ?_
   first|refine ay_ rfl rfl rfl (.pick rfl (fun _=>rfl) (fun _=>rfl)) rfl rfl ?_|refine ay_ rfl rfl rfl (.pick rfl (fun _=>rfl) (fun h=>absurd h (by decide))) rfl rfl ?_|refine ay_ rfl rfl rfl (.pick rfl (fun h=>absurd h (by decide)) (fun _=>rfl)) rfl rfl ?_|refine bt_ rfl rfl (by first|(simp[bf_];done)|exact nofun) rfl rfl ?_
   first|refine ay_ rfl rfl rfl (.move rfl) rfl rfl ?_|refine bt_ rfl rfl (by first|(simp[bf_];done)|exact nofun) rfl rfl ?_
   first|refine ay_ rfl rfl rfl (.fieldAddr_l rfl tf_51_3.h (by decide)) rfl rfl ?_|refine ay_ rfl rfl rfl (.fieldAddr_a rfl tf_51_3.h (by decide)) rfl rfl ?_|refine bt_ rfl rfl (by first|(simp[bf_];done)|exact nofun) rfl rfl ?_
   first|refine ay_ rfl rfl rfl (.load_l rfl rfl rfl tg_35.h ts_35.h (nle rfl)) rfl rfl ?_|refine ay_ rfl rfl rfl (.load_a rfl rfl tg_35.h ts_35.h (nle rfl)) rfl rfl ?_|refine bt_ rfl rfl (by first|(simp[bf_];done)|exact nofun) rfl rfl ?_
   first|refine ay_ rfl rfl rfl (.fieldAddr_l rfl tf_51_4.h (by decide)) rfl rfl ?_|refine ay_ rfl rfl rfl (.fieldAddr_a rfl tf_51_4.h (by decide)) rfl rfl ?_|refine bt_ rfl rfl (by first|(simp[bf_];done)|exact nofun) rfl rfl ?_
   first|refine ay_ rfl rfl rfl (.load_l rfl rfl rfl tg_35.h ts_35.h (nle rfl)) rfl rfl ?_|refine ay_ rfl rfl rfl (.load_a rfl rfl tg_35.h ts_35.h (nle rfl)) rfl rfl ?_|refine bt_ rfl rfl (by first|(simp[bf_];done)|exact nofun) rfl rfl ?_
   first|refine bt_ rfl rfl (by first|(simp[bf_];done)|exact nofun) rfl rfl ?_
   first|refine ay_ rfl rfl rfl (.bin rfl rfl cv_) rfl rfl ?_|refine bt_ rfl rfl (by first|(simp[bf_];done)|exact nofun) rfl rfl ?_
   first|refine ay_ rfl rfl rfl (.pick rfl (fun _=>rfl) (fun _=>rfl)) rfl rfl ?_|refine ay_ rfl rfl rfl (.pick rfl (fun _=>rfl) (fun h=>absurd h (by decide))) rfl rfl ?_|refine ay_ rfl rfl rfl (.pick rfl (fun h=>absurd h (by decide)) (fun _=>rfl)) rfl rfl ?_|refine bt_ rfl rfl (by first|(simp[bf_];done)|exact nofun) rfl rfl ?_
   first|refine aB_ (.pick rfl (fun _=>rfl) (fun _=>rfl)) rfl rfl ?_|refine aB_ (.pick rfl (fun _=>rfl) (fun h=>absurd h (by decide))) rfl rfl ?_|refine aB_ (.pick rfl (fun h=>absurd h (by decide)) (fun _=>rfl)) rfl rfl ?_
   refine an_ ?_
   refine cT (r_z 1 ?_)
   exact ai_ (t_e (ad_ _))
  |true=>
   refine ac_ (r_c 20 (ho) ?_)
   refine o_0 (.move rfl) ?_
   first|refine ay_ rfl rfl rfl (.fieldAddr_l rfl tf_51_1.h (by decide)) rfl rfl ?_|refine ay_ rfl rfl rfl (.fieldAddr_a rfl tf_51_1.h (by decide)) rfl rfl ?_|refine bt_ rfl rfl (by first|(simp[bf_];done)|exact nofun) rfl rfl ?_
   first|refine ay_ rfl rfl rfl (.load_l1 rfl rfl rfl tg_4.h rfl) rfl rfl ?_|refine ay_ rfl rfl rfl (.load_a1 rfl rfl tg_4.h rfl) rfl rfl ?_|refine bt_ rfl rfl (by first|(simp[bf_];done)|exact nofun) rfl rfl ?_
   first|refine ay_ rfl rfl rfl (.move rfl) rfl rfl ?_|refine bt_ rfl rfl (by first|(simp[bf_];done)|exact nofun) rfl rfl ?_
   first|refine ay_ rfl rfl rfl (.fieldAddr_l rfl tf_51_2.h (by decide)) rfl rfl ?_|refine ay_ rfl rfl rfl (.fieldAddr_a rfl tf_51_2.h (by decide)) rfl rfl ?_|refine bt_ rfl rfl (by first|(simp[bf_];done)|exact nofun) rfl rfl ?_
   first|refine ay_ rfl rfl rfl (.load_l1 rfl rfl rfl tg_4.h rfl) rfl rfl ?_|refine ay_ rfl rfl rfl (.load_a1 rfl rfl tg_4.h rfl) rfl rfl ?_|refine bt_ rfl rfl (by first|(simp[bf_];done)|exact nofun) rfl rfl ?_
   first|refine ay_ rfl rfl rfl (.pick rfl (fun _=>rfl) (fun _=>rfl)) rfl rfl ?_|refine ay_ rfl rfl rfl (.pick rfl (fun _=>rfl) (fun h=>absurd h (by decide))) rfl rfl ?_|refine ay_ rfl rfl rfl (.pick rfl (fun h=>absurd h (by decide)) (fun _=>rfl)) rfl rfl ?_|refine bt_ rfl rfl (by first|(simp[bf_];done)|exact nofun) rfl rfl ?_
   first|refine ay_ rfl rfl rfl (.move rfl) rfl rfl ?_|refine bt_ rfl rfl (by first|(simp[bf_];done)|exact nofun) rfl rfl ?_
   first|refine ay_ rfl rfl rfl (.fieldAddr_l rfl tf_51_3.h (by decide)) rfl rfl ?_|refine ay_ rfl rfl rfl (.fieldAddr_a rfl tf_51_3.h (by decide)) rfl rfl ?_|refine bt_ rfl rfl (by first|(simp[bf_];done)|exact nofun) rfl rfl ?_
   first|refine ay_ rfl rfl rfl (.load_l rfl rfl rfl tg_35.h ts_35.h (nle rfl)) rfl rfl ?_|refine ay_ rfl rfl rfl (.load_a rfl rfl tg_35.h ts_35.h (nle rfl)) rfl rfl ?_|refine bt_ rfl rfl (by first|(simp[bf_];done)|exact nofun) rfl rfl ?_
   first|refine ay_ rfl rfl rfl (.fieldAddr_l rfl tf_51_4.h (by decide)) rfl rfl ?_|refine ay_ rfl rfl rfl (.fieldAddr_a rfl tf_51_4.h (by decide)) rfl rfl ?_|refine bt_ rfl rfl (by first|(simp[bf_];done)|exact nofun) rfl rfl ?_
   first|refine ay_ rfl rfl rfl (.load_l rfl rfl rfl tg_35.h ts_35.h (nle rfl)) rfl rfl ?_|refine ay_ rfl rfl rfl (.load_a rfl rfl tg_35.h ts_35.h (nle rfl)) rfl rfl ?_|refine bt_ rfl rfl (by first|(simp[bf_];done)|exact nofun) rfl rfl ?_
   first|refine bt_ rfl rfl (by first|(simp[bf_];done)|exact nofun) rfl rfl ?_
   first|refine ay_ rfl rfl rfl (.bin rfl rfl cv_) rfl rfl ?_|refine bt_ rfl rfl (by first|(simp[bf_];done)|exact nofun) rfl rfl ?_
   first|refine ay_ rfl rfl rfl (.pick rfl (fun _=>rfl) (fun _=>rfl)) rfl rfl ?_|refine ay_ rfl rfl rfl (.pick rfl (fun _=>rfl) (fun h=>absurd h (by decide))) rfl rfl ?_|refine ay_ rfl rfl rfl (.pick rfl (fun h=>absurd h (by decide)) (fun _=>rfl)) rfl rfl ?_|refine bt_ rfl rfl (by first|(simp[bf_];done)|exact nofun) rfl rfl ?_
   first|refine aB_ (.pick rfl (fun _=>rfl) (fun _=>rfl)) rfl rfl ?_|refine aB_ (.pick rfl (fun _=>rfl) (fun h=>absurd h (by decide))) rfl rfl ?_|refine aB_ (.pick rfl (fun h=>absurd h (by decide)) (fun _=>rfl)) rfl rfl ?_
   refine an_ ?_
   refine cT (r_z 1 ?_)
   exact ai_ (t_e (ad_ _))
theorem pR_(m:List Rat)(l r:Bool)(x y:RQ)(hml:m.length≤1000000)(hx:rok x)(hy:rok y)(hq:qs x.1+qs y.1≤1099511627776):FSpec Tryz.prog 30 [.agg (rwC m l r x y)] (bln (decide (okW m l r x.1 y.1))):=by
 have hcm:=pU_ x y hx hy hq
 have hlen:(rP m).length=m.length:=by simp[rP]
 refine f_n Tryz.func30 ?_ ?_
 exact aa_ (aq_ aV_) ab_
 refine r_z 2 ?_
 by_cases h1:l=true∧r=true∧¬x.1< y.1
 obtain⟨rfl,rfl,hlt⟩:=h1
 rw[decide_eq_false (fun h:okW m true true x.1 y.1=>hlt (h.2.2 rfl rfl))]
 refine ac_ (r_c 14 (hcm) ?_)
 refine ay_ rfl rfl rfl (.bin rfl rfl (vT cv_ (decide_eq_true (qE_ hlt)))) rfl rfl ?_
 refine a_z ?_
 refine cT (r_z 1 ?_)
 exact ai_ (t_e (ad_ _))
 have hsh:l=true→r=true→x.1< y.1:=fun e1 e2=>Classical.byContradiction fun e3=>h1 ⟨e1,e2,e3⟩
 refine aS_ (fun _:Unit=>⟨[(1,.lptr 1 0 0)],[(1,some ⟨77,11,[rwC m l r x y]⟩)],2,27⟩) (fun _=>True) ?_ ?_
 cases l with
 |false=>
  refine r_z 14 ?_
  refine cF (ag_ ⟨(),trivial,?_⟩)
  exact s_f [(1,1)]
 |true=>
  cases r with
  |false=>
   refine r_z 14 ?_
   refine cF (ag_ ⟨(),trivial,?_⟩)
   exact s_f [(1,1)]
  |true=>
   rw[cmp_lt (hsh rfl rfl)] at hcm
   refine r_c 14 (hcm) ?_
   refine ay_ rfl rfl rfl (.bin rfl rfl (vF cv_ (rfl))) rfl rfl ?_
   refine a_z ?_
   refine cF (ag_ ⟨(),trivial,?_⟩)
   exact s_f [(1,1)]
 rintro _ _
 by_cases h2:1≤m.length
 by_cases h3:m.length≤64
 rw[decide_eq_true (show okW m l r x.1 y.1 from⟨h2,h3,hsh⟩)]
 refine q_z 11 ?_
 exact ai_ (t_e (ad_ _))
 rw[decide_eq_false (fun h:okW m l r x.1 y.1=>h3 h.2.1)]
 refine q_z 11 ?_
 exact ai_ (t_e (ad_ _))
 rw[decide_eq_false (fun h:okW m l r x.1 y.1=>h2 h.1)]
 refine q_z 11 ?_
 exact ai_ (t_e (ad_ _))
theorem fs_OfA(m p:List Rat)(l r:Bool)(a b:Rat)(h:¬okW m l r a b)(hml:m.length≤1000000)(ha:sm a)(hb:sm b):FSpec Tryz.prog 29 [.agg (wC m l r (qC a) (qC b)),.arr (pE p)] (.tup [.agg (qC 0),i64 2]):=by
 have hck:=eN_ m l r a b h hml ha hb
 have hWc:=aJ_ (m:=m) (l:=l) (r:=r) (.inr ⟨a,rfl⟩) (.inr ⟨b,rfl⟩)
 refine f_n Tryz.func29 ?_ ?_
 exact aa_ (aq_ hWc) (aa_ (ar_ p) ab_)
 refine r_z 3 ?_
 refine ac_ (r_c 3 (hck) ?_)
 refine a_z ?_
 refine s_r 2 ?_
 refine a_1 ?_
 refine o_0 (.bin rfl rfl (vT by_ (rfl))) ?_
 refine an_ ?_
 refine cT (r_z 4 ?_)
 refine ai_ (Fin.many ⟨_,_,rfl,⟨_,_,_,_,_,rfl,rfl,rfl,.inl ⟨tg_35.h,_,ts_35.h,nle rfl,rfl⟩⟩,⟨_,_,rfl,rfl,rfl⟩⟩ (nle rfl) ?_)
 exact af_ (Cv.agg (eb_ at_)) (af_ (al_ at_ (ad_ _)) ap_)
theorem fs_OfL(m p:List Rat)(l r:Bool)(a b:Rat)(h:okW m l r a b)(hp:p.length≤1000000)(hd:(m.length:Int)≤degP p)(ha:sm a)(hb:sm b):FSpec Tryz.prog 29 [.agg (wC m l r (qC a) (qC b)),.arr (pE p)] (.tup [.agg (qC 0),i64 5]):=by
 have hck:=cI_ m l r a b ⟨h.1,h.2.1⟩ h.2.2 ha hb
 have hWc:=aJ_ (m:=m) (l:=l) (r:=r) (.inr ⟨a,rfl⟩) (.inr ⟨b,rfl⟩)
 have hdg:=bz_ p (by omega)
 refine f_n Tryz.func29 ?_ ?_
 exact aa_ (aq_ hWc) (aa_ (ar_ p) ab_)
 refine r_z 3 ?_
 refine ac_ (r_c 3 (hck) ?_)
 refine a_z ?_
 refine s_r 2 ?_
 refine a_1 ?_
 refine o_0 (.bin rfl rfl (vF by_ (rfl))) ?_
 refine an_ ?_
 refine cF (ag_ (ac_ (ac_ (r_d hmix 6 ?_))))
 refine c_s (hdg) ?_
 refine d_4 ?_
 refine an_ (n_k ?_)
 refine cT (r_z 3 ?_)
 refine ai_ (Fin.many ⟨_,_,rfl,⟨_,_,_,_,_,rfl,rfl,rfl,.inl ⟨tg_35.h,_,ts_35.h,nle rfl,rfl⟩⟩,⟨_,_,rfl,rfl,rfl⟩⟩ (nle rfl) ?_)
 exact af_ (Cv.agg (eb_ at_)) (af_ (al_ at_ (ad_ _)) ap_)
theorem fs_Of1(m p:List Rat)(l r:Bool)(a b:Rat)(h:okW m l r a b)(hp:p.length≤1000000)(hd:degP p< (m.length:Int))(ha:sm a)(hb:sm b)(ho:okOf m p):FSpec Tryz.prog 29 [.agg (wC m l r (qC a) (qC b)),.arr (pE p)] (.tup [.agg (qC (ofP m p)),i64 0]):=by
 have hck:=cI_ m l r a b ⟨h.1,h.2.1⟩ h.2.2 ha hb
 have hWc:=aJ_ (m:=m) (l:=l) (r:=r) (.inr ⟨a,rfl⟩) (.inr ⟨b,rfl⟩)
 have hdg:=bz_ p (by omega)
 have hof:=ni_ m p l r a b ho
 refine f_n Tryz.func29 ?_ ?_
 exact aa_ (aq_ hWc) (aa_ (ar_ p) ab_)
 refine r_z 3 ?_
 refine ac_ (r_c 3 (hck) ?_)
 refine a_z ?_
 refine s_r 2 ?_
 refine a_1 ?_
 refine o_0 (.bin rfl rfl (vF by_ (rfl))) ?_
 refine an_ ?_
 refine cF (ag_ (ac_ (ac_ (r_d hmix 6 ?_))))
 refine c_s (hdg) ?_
 refine d_4 ?_
 refine an_ (n_k ?_)
 refine cF (ag_ (r_c 5 (hof) ?_))
 refine a_z ?_
 refine ai_ (Fin.many ⟨_,_,rfl,⟨_,_,_,_,_,rfl,rfl,rfl,.inl ⟨tg_35.h,_,ts_35.h,nle rfl,rfl⟩⟩,⟨_,_,rfl,rfl,rfl⟩⟩ (nle rfl) ?_)
 exact af_ (al_ at_ (av_ _)) (af_ (al_ at_ (ad_ _)) ap_)
def rofS(T:List Rat)(W:List AV):Nat×Rat→AState
 |(i,o)=>⟨[(1,.arr (rE (rP T))),(2,.aptr [W] 0 0),(4,.lptr 1 0 0),(5,.lptr 2 0 0),(6,i64 i)],[(1,some ⟨42,4,[zR4]⟩),(2,some ⟨42,4,[rC (rq o)]⟩)],3,29⟩
theorem lP_(T:List Rat)(W:List AV)(i:Nat)(o:Rat):rofS T W (i,o)=⟨[(1,.arr (rE (rP T))),(2,.aptr [W] 0 0),(4,.lptr 1 0 0),(5,.lptr 2 0 0),(6,i64 i)],[(1,some ⟨42,4,[zR4]⟩),(2,some ⟨42,4,[rC (rq o)]⟩)],3,29⟩:=rfl
theorem fs_rOfP(p m:List Rat)(l r:Bool)(x y:RQ)(s t:Nat)(hp:bdL p s)(hm:bdL m t)(hs:1≤s)(ht:1≤t)(hpl:p.length≤1000000)(hlen:(trimQ p).length≤m.length)(hlim:(p.length+2) * (s+t+1)≤137438953472):
    FSpec Tryz.prog 34 [.agg (rwC m l r x y),.arr (rE (rP p))] (.agg (rC (rq (ofP m p)))):=by
 have h0:FSpec Tryz.prog 112 [i64 0] (.agg (rC (rq 0))):=cr_ 0 (by decide)
 have htr:=e7_ (rP p) (by simp[rP];omega)
 rw[fF_] at htr
 obtain⟨T,hT⟩:∃T,T=trimQ p:=⟨_,rfl⟩
 have htl:=a9_ p
 have hTb:bdL T s:=fun q hq=>hp q (bk_ (by rw[←hT];exact hq))
 show FSpec _ _ _ (.agg (rC (rq (ofQ (trimQ p) m (trimQ p).length))))
 rw[←hT] at htl hlen htr⊢
 have hTl:(rP T).length=T.length:=by simp[rP]
 obtain⟨W,hW⟩:∃W,W=rwC m l r x y:=⟨_,rfl⟩
 refine f_n Tryz.func34 ?_ ?_
 exact aa_ (aq_ aV_) (aa_ (a7_ _) ab_)
 refine r_z 2 ?_
 refine r_c 3 (htr) ?_
 refine a_z ?_
 refine r_c 3 (h0) ?_
 refine a_z ?_
 refine ac_ (r_z 1 ?_)
 refine aD_ (fun _:Unit=>⟨[(4,.lptr 1 0 0),(5,.lptr 2 0 0)],[(1,some ⟨42,4,[zR4]⟩),(2,some ⟨42,4,[rC (rq (ofQ T m T.length))]⟩)],3,29⟩) (fun _=>True) ?_ ?_
 refine ah_ (ax_ (rofS T (rwC m l r x y)) (fun z=>T.length- z.1) (fun z=>z.1≤T.length∧z.2=ofQ T m z.1) (0,0) ⟨Nat.zero_le _,rfl⟩ ?_ ?_)
 simp only[lP_]
 refine as_ [(1,4),(2,5)] rfl rfl rfl au_r (fun hs=>?_) (fun hs=>?_)
 ·repeat' (first|exact aA_|refine aw_ rfl ?_ ?_)
  all_goals (first|(exact Cv.boxp hs rfl (aE_ rfl) rfl aV_)|exact au_c)
 ·repeat' (first|exact ao_|refine ak_ rfl rfl rfl rfl ?_ ?_)
  all_goals (first|exact au_e|(refine ae_ ?_;repeat' (first|exact ap_|refine af_ ?_ ?_)))
  all_goals (first|(exact Cv.boxp hs rfl (aE_ rfl) rfl aV_)|exact au_c)
 rintro⟨i,o⟩ ⟨hi,ho⟩
 simp only at hi ho
 rw[lP_]
 by_cases hlt:i< T.length
 refine ac_ (q_z 4 ?_)
 refine cT (ag_ ?_)
 have hgt:(rE (rP T))[((i:Nat):Int).toNat]?=some (rC (rq (coP T i))):=et_ (by simp[rP,bc_ hlt])
 have hgm:(rE (rP m))[((i:Nat):Int).toNat]?=some (rC (rq (coP m i))):=et_ (by simp[rP,bc_ (show i< m.length by omega)])
 have hc:=bQ_ hTb hs i
 have hd:=bQ_ hm ht i
 have hq:=kK_ hTb hm hs ht i
 rw[←ho] at hq
 have e1:i* (s+t+1)≤(p.length+1) * (s+t+1):=Nat.mul_le_mul_right _ (by omega)
 have e2:(p.length+2) * (s+t+1)=(p.length+1) * (s+t+1)+(s+t+1):=Nat.succ_mul _ _
 have hmu:=el_ (rq (coP T i)) (rq (coP m i)) (bm_ _) (bm_ _) (by show qs (coP T i)+qs (coP m i)≤_;omega)
 have hqm:=cb_ (coP T i) (coP m i)
 have had:=fv_ (rq o) (rq (coP T i* coP m i)) (bm_ _) (bm_ _) (by show qs o+qs (coP T i* coP m i)≤_;omega)
 refine ac_ (ah_ (r_d hmix 13 ?_))
 refine a_3 ?_
 refine i_x hgt ?_
 refine l_x hgt ?_
 refine a_3 ?_
 refine i_x hgm ?_
 refine l_x hgm ?_
 refine c_s (hmu) ?_
 refine c_s (had) ?_
 refine a_1 ?_
 refine an_ (n_k ?_)
 refine r_m 3 ?_
 refine a_z ?_
 refine⟨(i+1,o+coP T i* coP m i),by simp only;omega,⟨hlt,by simp only;rw[ofQ,←ho]⟩,?_⟩
 simp only[lP_]
 refine as_ [(1,4),(2,5)] rfl rfl rfl au_r (fun hs=>?_) (fun hs=>?_)
 ·repeat' (first|exact aA_|refine aw_ rfl ?_ ?_)
  all_goals (first|(exact al_ hs (aj_ aV_))|exact au_c)
 ·repeat' (first|exact ao_|refine ak_ rfl rfl rfl rfl ?_ ?_)
  all_goals (first|exact au_e|(refine ae_ ?_;repeat' (first|exact ap_|refine af_ ?_ ?_)))
  all_goals (first|(exact al_ hs (aj_ aV_))|exact au_c)
 have hge:i=T.length:=by omega
 subst hge
 refine ac_ (q_z 4 ?_)
 refine cF (au_ ⟨(),trivial,?_⟩)
 rw[ho]
 exact s_e [(1,4),(2,5)]
 rintro _ _
 refine r_z 2 ?_
 exact ai_ (c_e (a6_ _))
theorem e8_(p q:List Rat)(o:okDiv p q)(h0:trimQ q≠[]):FSpec Tryz.prog 227 [.arr (pE p),.arr (pE q)] (.tup [.arr (pE (divP p q).1),.arr (pE (divP p q).2)]):=
 eL_ p q (mxL p) (mxL q) (b7_ p) (b7_ q) (bJ_ p) (bJ_ q) o.1 h0 o.2.1 o.2.2
def bzS(p:List Rat)(q:List Rat):List Rat×List Rat×List Rat×List Rat→AState
 |(g,nx,a,c)=>⟨[(0,.arr (pE p)),(1,.arr (pE q)),(4,.arr (pE g)),(5,.arr (pE a)),(7,.arr (pE nx)),(8,.arr (pE c))],[],1,83⟩
theorem qI_(p:List Rat)(q:List Rat)(g:List Rat)(nx:List Rat)(a:List Rat)(c:List Rat):bzS p q (g,nx,a,c)=⟨[(0,.arr (pE p)),(1,.arr (pE q)),(4,.arr (pE g)),(5,.arr (pE a)),(7,.arr (pE nx)),(8,.arr (pE c))],[],1,83⟩:=rfl
theorem qf_(f:Nat)(p q g a:List Rat)(hq:trimQ q≠[])(hql:q.length≤1099511627776)(hz:bzL f p q (dB_ ((1:Int):Rat)) []=some (g,a))(ho:okBz p q g a):
    FSpec Tryz.prog 236 [.arr (pE p),.arr (pE q)] (.tup [.arr (pE (bzG g)),.arr (pE (bzA q g a)),.arr (pE (bzB p q g a))]):=by
 obtain⟨c1,c2,c3,c4,c5,c6,c7,c8,c9,c10,c11,c12,c13,c14,c15,c16⟩:=ho
 have hd:¬degP q< 0:=fun e=>hq (degP_neg.1 e)
 have q1:qs ((1:Int):Rat)=1:=by decide
 have hqd:=d1_ ((1:Int):Rat) (leadP g)
 have hsl:sm (((1:Int):Rat) / leadP g):=by unfold sm;omega
 refine f_n Tryz.func236 ?_ ?_
 exact aa_ (ar_ p) (aa_ (ar_ q) ab_)
 refine r_z 3 ?_
 refine ac_ (r_c 3 (bz_ q hql) ?_)
 refine d_z ?_
 refine cF (ag_ (r_z 4 ?_))
 refine r_c 4 (dA_ 1 (by decide)) ?_
 refine c_s (hT_ ((1:Int):Rat)) ?_
 refine a_z ?_
 refine ac_ (aD_ (fun _:Unit=>⟨[(0,.arr (pE p)),(1,.arr (pE q)),(4,.arr (pE g)),(5,.arr (pE a))],[],1,83⟩) (fun _=>True) ?_ ?_)
 refine ah_ (ax_ (fun x:Nat×List Rat×List Rat×List Rat×List Rat=>bzS p q x.2) (fun x=>x.1) (fun x=>bzL x.1 x.2.1 x.2.2.1 x.2.2.2.1 x.2.2.2.2=some (g,a)∧x.2.2.1.length≤1099511627776) (f,p,q,dB_ ((1:Int):Rat),[]) ⟨hz,hql⟩ ?_ ?_)
 simp only[qI_]
 exact s_e []
 rintro⟨f,g',nx,a',c⟩ ⟨hz,hnl⟩
 simp only at hz hnl
 simp only[qI_]
 cases f with
 |zero=>cases hz
 |succ f=>
  rw[bzL] at hz
  by_cases hn0:trimQ nx=[]
  rw[if_pos hn0] at hz
  cases hz
  refine ac_ (r_c 3 (bz_ nx hnl) ?_)
  refine o_0 (.bin rfl rfl (vF cv_ (decide_eq_false (by have:=degP_neg.2 hn0;omega)))) ?_
  refine an_ ?_
  refine cF (au_ ⟨(),trivial,?_⟩)
  exact s_e []
  ·rw[if_neg hn0] at hz
   split at hz
   case isFalse=>cases hz
   case isTrue hs=>
   obtain⟨⟨o1,o2,o3,o4,o5,o6⟩,o7⟩:=hs
   have hrl:=(f1_ (p:=g') (q:=nx))
   have hgl:=o1.2.1
   have hdn:¬degP nx< 0:=fun e=>hn0 (degP_neg.1 e)
   refine ac_ (r_c 3 (bz_ nx hnl) ?_)
   refine d_z ?_
   refine cT (ag_ (ah_ (r_c 8 (e8_ g' nx o1 hn0) ?_)))
   refine a_z ?_
   refine r_z 4 ?_
   refine r_m 8 ?_
   refine c_s (eo_ _ c o2) ?_
   refine c_s (p3_ a' _ o3 o4 o5 o6) ?_
   refine a_z ?_
   refine⟨(f,nx,(divP g' nx).2,c,subP a' (mulP (divP g' nx).1 c)),Nat.lt_succ_self f,⟨hz,by simp only;omega⟩,?_⟩
   simp only[qI_]
   exact s_e []
 rintro _ _
 refine r_c 6 (dA_ 1 (by decide)) ?_
 refine c_s (fx_ g c2) ?_
 refine o_0 (.call rfl rfl rfl (dM_ _ (leadP g) (b9_ c1) (by omega))) ?_
 refine o_1 (.alloc tz_35.h) ?_
 refine o_1n (.store rfl rfl rfl rfl rfl rfl ts_35.h (nle rfl)) ?_
 refine an_ ?_
 refine ac_ (r_d hmix 8 ?_)
 refine c_s (dN_ g _ c4 hsl c2) ?_
 refine c_s (dN_ a _ c5 hsl c3) ?_
 refine a_2 ?_
 refine an_ (n_k ?_)
 refine r_c 8 (e8_ q (bzG g) c7 c8) ?_
 refine a_z ?_
 refine r_c 7 (e8_ _ _ c9 c10) ?_
 refine a_z ?_
 refine r_c 11 (eo_ (bzA q g a) p c11) ?_
 refine c_s (p3_ (bzG g) _ c12 c13 c14 c15) ?_
 refine c_s (e8_ _ q c16 hq) ?_
 refine a_z ?_
 refine r_z 6 ?_
 refine ai_ (Fin.many ⟨_,_,rfl,rfl,⟨_,_,rfl,rfl,⟨_,_,rfl,rfl,rfl⟩⟩⟩ (nle rfl) ?_)
 exact CvL.clo at_ (aa_ (ar_ _) (aa_ (ar_ _) (aa_ (ar_ _) ab_)))
theorem setT{p m:List Rat}{d j i e:Nat}(hi:i< j)(hj:j≤d)(he:e=i):(pE (tabP d (tpI p m j i))).set e (qC (tpI p m j i i+coP p j* coP m (j- 1- i)))=pE (tabP d (tpI p m j (i+1))):=by
 subst he
 rw[hu_,←tpI_set p m d j e hi hj]
 congr 3
 unfold tpI;rw[if_neg (by omega)]
theorem in_{r:Ren}{hp hp':Nat→Option ABlk}(h:Shr r hp hp'):∀n,CvLL r hp hp' (List.replicate n zC) (pE (List.replicate n 0))
 |0=>aQ_ h (aH_ [])
 |n+1=>CvLL.cons (ys:=pE (List.replicate n 0)) (eb_ h) (in_ h n)
theorem getT{d i e:Nat}{f:Nat→Rat}(h:i< d)(he:e=i):(pE (tabP d f))[e]?=some (qC (f i)):=by
 subst he
 exact bC_ (jo_ f h)
def onS(p:List Rat)(m:List Rat)(W:List AV)(d:Nat):Nat→AState
 |j=>⟨[(1,.arr (pE p)),(2,.lptr 1 0 0),(4,.lptr 2 0 0),(5,.lsl 3 0 d (some d) 3),(15,.arr (pE p)),(16,i64 ((d+1:Nat):Int)),(17,i64 j)],[(1,some ⟨51,9,[W]⟩),(2,some ⟨57,2,[[.emp,.emp]]⟩),(3,some ⟨35,3,pE (tabP d fun i=>tpV p m i j)⟩)],4,61⟩
theorem pj_(p:List Rat)(m:List Rat)(W:List AV)(d:Nat)(j:Nat):onS p m W d j=⟨[(1,.arr (pE p)),(2,.lptr 1 0 0),(4,.lptr 2 0 0),(5,.lsl 3 0 d (some d) 3),(15,.arr (pE p)),(16,i64 ((d+1:Nat):Int)),(17,i64 j)],[(1,some ⟨51,9,[W]⟩),(2,some ⟨57,2,[[.emp,.emp]]⟩),(3,some ⟨35,3,pE (tabP d fun i=>tpV p m i j)⟩)],4,61⟩:=rfl
def onI(p:List Rat)(m:List Rat)(W:List AV)(d:Nat)(j:Nat):Nat→AState
 |i=>⟨[(1,.arr (pE p)),(2,.lptr 1 0 0),(4,.lptr 2 0 0),(5,.lsl 3 0 d (some d) 3),(15,.arr (pE p)),(16,i64 ((d+1:Nat):Int)),(17,i64 j),(6,i64 j),(7,.lptr 4 0 0),(22,i64 j),(23,i64 i)],[(1,some ⟨51,9,[W]⟩),(2,some ⟨57,2,[[.emp,.emp]]⟩),(3,some ⟨35,3,pE (tabP d (tpI p m j i))⟩),(4,some ⟨35,3,[qC (coP p j)]⟩)],5,61⟩
theorem kH_(p:List Rat)(m:List Rat)(W:List AV)(d:Nat)(j:Nat)(i:Nat):onI p m W d j i=⟨[(1,.arr (pE p)),(2,.lptr 1 0 0),(4,.lptr 2 0 0),(5,.lsl 3 0 d (some d) 3),(15,.arr (pE p)),(16,i64 ((d+1:Nat):Int)),(17,i64 j),(6,i64 j),(7,.lptr 4 0 0),(22,i64 j),(23,i64 i)],[(1,some ⟨51,9,[W]⟩),(2,some ⟨57,2,[[.emp,.emp]]⟩),(3,some ⟨35,3,pE (tabP d (tpI p m j i))⟩),(4,some ⟨35,3,[qC (coP p j)]⟩)],5,61⟩:=rfl
theorem fs_on (p m:List Rat) (l r:Bool) (a b:Rat) (d s t:Nat) (g iv bz:List Rat) (hl:p.length=d+1) (htr:trimQ p=p) (hd:d≤1000) (hp:bdL p s) (hm:bdL m t) (hs:1≤s) (ht:1≤t) (hml:d≤m.length) (hlim:(d+2) * (s+t+1)≤137438953472)
    (hde:FSpec Tryz.prog 49 [.arr (pE p)] (.arr (pE (a2_ p)))) (hbz:FSpec Tryz.prog 236 [.arr (pE (a2_ p)),.arr (pE p)] (.tup [.arr (pE g),.arr (pE iv),.arr (pE bz)]))
    (hmu:okMul (tpQ p m) iv) (hdi:okDiv (mulP (tpQ p m) iv) p):
    FSpec Tryz.prog 161 [.agg (wC m l r (qC a) (qC b)),.arr (pE p)] (.agg (ruC p (divP (mulP (tpQ p m) iv) p).2)):=by
 have hWc:∀c∈wC m l r (qC a) (qC b),Closed c:=aJ_ (.inr ⟨a,rfl⟩) (.inr ⟨b,rfl⟩)
 have hp0:trimQ p≠[]:=by rw[htr];intro e;rw[e] at hl;simp at hl
 have hdg:=bz_ p (by omega)
 rw[show degP p=(d:Int) by unfold degP;rw[htr,hl];omega] at hdg
 have etp:tabP d (fun i=>tpV p m i (d+1))=tpQ p m:=by unfold tpQ;rw[hl];rfl
 refine f_n Tryz.func161 ?_ ?_
 exact aa_ (aq_ hWc) (aa_ (ar_ p) ab_)
 refine r_z 2 ?_
 refine r_c 4 (hdg) ?_
 refine a_z ?_
 refine ac_ (r_z 3 ?_)
 refine aD_ (fun _:Unit=>⟨[(1,.arr (pE p)),(4,.lptr 1 0 0),(5,.arr (pE (tpQ p m)))],[(1,some ⟨57,2,[[.emp,.emp]]⟩)],2,61⟩) (fun _=>True) ?_ ?_
 refine ah_ (ax_ (onS p m (wC m l r (qC a) (qC b)) d) (fun j=>d+1- j) (fun j=>j≤d+1) 0 (Nat.zero_le _) ?_ ?_)
 rw[pj_,oS_]
 refine as_ [(1,2),(2,4),(3,5)] rfl rfl rfl au_r (fun hs=>au_f) (fun hs=>?_)
 ·repeat' (first|exact ao_|refine ak_ rfl rfl rfl rfl ?_ ?_)
  all_goals (first|((try exact ae_ (CvL.clo hs hWc));(try exact in_ hs d);done)|exact au_e)
 intro j hj
 rw[pj_]
 by_cases hlt:j< d+1
 have hgt:(pE p)[((j:Nat):Int).toNat]?=some (qC (coP p j)):=bC_ (bc_ (by omega))
 refine q_z 1 ?_
 refine ac_ (cT (ag_ (ac_ (ah_ (s_r 6 ?_)))))
 refine a_1 ?_
 refine i_x hgt ?_
 refine l_x hgt ?_
 refine a_z ?_
 refine r_z 2 ?_
 refine AWp.cutB (fun _:Unit=>onI p m (wC m l r (qC a) (qC b)) d j j) (fun _=>True) ?_ ?_
 refine ah_ (ax_ (onI p m (wC m l r (qC a) (qC b)) d j) (fun i=>j- i) (fun i=>i≤j) 0 (Nat.zero_le _) ?_ ?_)
 rw[kH_,tpI_0]
 refine as_ [(4,7)] rfl rfl rfl au_r (fun hs=>au_f) (fun hs=>?_)
 ·repeat' (first|exact ao_|refine ak_ rfl rfl rfl rfl ?_ ?_)
  all_goals (first|((try exact ae_ (CvL.clo hs hWc));(try exact aQ_ hs (aH_ _));done)|exact au_e)
 intro i hi
 rw[kH_]
 by_cases hlt2:i< j
 have hv:tpI p m j i i=tpV p m i j:=by unfold tpI;rw[if_neg (by omega)]
 have hq:=tpV_bd hp hm hs ht i j
 have hc:=bQ_ hp hs j
 have hc2:=bQ_ hm ht (j- 1- i)
 have hqm:=cb_ (coP p j) (coP m (j- 1- i))
 have e1:j* (s+t+1)≤(d+1) * (s+t+1):=Nat.mul_le_mul_right _ (by omega)
 have e2:(d+2) * (s+t+1)=(d+1) * (s+t+1)+(s+t+1):=Nat.succ_mul _ _
 have hmul:=cW_ (coP p j) (coP m (j- 1- i)) (by omega)
 have hadd:=fm_ (tpI p m j i i) (coP p j* coP m (j- 1- i)) (by rw[hv];omega)
 have hgm:(pE m)[((j- 1- i:Int)).toNat]?=some (qC (coP m (j- 1- i))):=by
  rw[show((j:Int)- 1- i).toNat=j- 1- i by omega]
  exact bC_ (bc_ (by omega))
 refine q_z 1 ?_
 refine ac_ (cT (ag_ (ac_ (ah_ (r_z 2 ?_)))))
 refine r_d hmix 19 ?_
 refine a_5 ?_
 first|refine aB_ (.load_l rfl rfl (getT (i:=i) (d:=d) (f:=tpI p m j i) (by omega) (by omega)) tg_35.h ts_35.h (nle rfl)) rfl rfl ?_|refine aB_ (.load_a rfl (getT (i:=i) (d:=d) (f:=tpI p m j i) (by omega) (by omega)) tg_35.h ts_35.h (nle rfl)) rfl rfl ?_
 refine a_7 ?_
 refine i_x hgm ?_
 refine l_x hgm ?_
 refine c_s (hmul) ?_
 refine c_s (hadd) ?_
 refine a_1 ?_
 refine o_1n (.store rfl rfl (getT (i:=i) (d:=d) (f:=tpI p m j i) (by omega) (by omega)) rfl rfl rfl ts_35.h (nle rfl)) ?_
 refine an_ (n_k ?_)
 refine r_m 2 ?_
 refine a_z ?_
 refine⟨i+1,by omega,hlt2,?_⟩
 rw[kH_]
 refine as_ [] rfl rfl rfl au_r (fun hs=>au_f) (fun hs=>?_)
 ·repeat' (first|exact ao_|refine ak_ rfl rfl rfl rfl ?_ ?_)
  all_goals (first|((try exact ae_ (CvL.clo hs hWc));(try exact aQ_ hs (aH_ [coP p j]));(try exact aG_ hs (setT hlt2 (by omega) (Nat.zero_add i)) (aH_ _));done)|exact au_e)
 have hge:i=j:=by omega
 subst hge
 refine q_z 1 ?_
 refine ac_ (cF (au_ ⟨(),trivial,?_⟩))
 try simp only[kH_]
 refine as_ [] rfl rfl rfl au_r (fun hs=>au_f) (fun hs=>?_)
 ·repeat' (first|exact ao_|refine ak_ rfl rfl rfl rfl ?_ ?_)
  all_goals (first|((try exact ae_ (CvL.clo hs hWc));(try exact aQ_ hs (aH_ _));done)|exact au_e)
 rintro _ _
 rw[kH_,tpI_e]
 refine r_m 2 ?_
 refine a_z ?_
 refine⟨j+1,by omega,hlt,?_⟩
 rw[pj_]
 refine as_ [] rfl rfl rfl au_r (fun hs=>au_f) (fun hs=>?_)
 ·repeat' (first|exact ao_|refine ak_ rfl rfl rfl rfl ?_ ?_)
  all_goals (first|((try exact ae_ (CvL.clo hs hWc));(try exact aQ_ hs (aH_ _));done)|exact au_e)
 have hge:j=d+1:=by omega
 subst hge
 refine q_z 1 ?_
 refine ac_ (cF (au_ ⟨(),trivial,?_⟩))
 rw[etp]
 refine as_ [(1,4)] rfl rfl rfl au_r (fun hs=>?_) (fun hs=>?_)
 ·repeat' (first|exact aA_|refine aw_ rfl ?_ ?_)
  all_goals (first|(exact dk_ hs rfl (aE_ rfl) rfl (by rw[←etp];simp))|exact au_c)
 ·repeat' (first|exact ao_|refine ak_ rfl rfl rfl rfl ?_ ?_)
  all_goals (first|exact au_e|(refine ae_ ?_;repeat' (first|exact ap_|refine af_ ?_ ?_)))
  all_goals (first|(exact dk_ hs rfl (aE_ rfl) rfl (by rw[←etp];simp))|exact au_c)
 rintro _ _
 refine r_c 11 (hde) ?_
 refine c_s (hbz) ?_
 refine a_z ?_
 refine r_c 8 (eo_ _ iv hmu) ?_
 refine c_s (l6_ _ p hdi hp0) ?_
 refine a_z ?_
 exact ai_ (c_e (aq_ (bL_ _ _)))

def apS(t:List Rat)(s:List Rat)(W:List AV):Nat×Rat→AState
 |(i,o)=>⟨[(2,.lptr 1 0 0),(4,.lptr 2 0 0),(5,.lptr 3 0 0),(6,.arr (pE s)),(20,.arr (pE t)),(21,i64 t.length),(22,i64 i)],[(1,some ⟨57,2,[W]⟩),(2,some ⟨35,3,[zC]⟩),(3,some ⟨35,3,[qC o]⟩)],4,37⟩
theorem qQ_(t:List Rat)(s:List Rat)(W:List AV)(i:Nat)(o:Rat):apS t s W (i,o)=⟨[(2,.lptr 1 0 0),(4,.lptr 2 0 0),(5,.lptr 3 0 0),(6,.arr (pE s)),(20,.arr (pE t)),(21,i64 t.length),(22,i64 i)],[(1,some ⟨57,2,[W]⟩),(2,some ⟨35,3,[zC]⟩),(3,some ⟨35,3,[qC o]⟩)],4,37⟩:=rfl
theorem fs_apply (p w f m:List Rat) (s t:Nat) (hsu:FSpec Tryz.prog 188 [.agg (ruC p w)] (.arr (pE m))) (h0:trimQ p≠[]) (o1:okDiv f p) (o2:okMul w (divP f p).2) (o3:okDiv (mulP w (divP f p).2) p)
    (hp:bdL (apR p w f) s) (hm:bdL m t) (hs:1≤s) (ht:1≤t) (hpl:(apR p w f).length≤1000000) (hlen:(apR p w f).length≤m.length) (hlim:((apR p w f).length+2) * (s+t+1)≤137438953472):
    FSpec Tryz.prog 103 [.agg (ruC p w),.arr (pE f)] (.agg (qC (ofQ (apR p w f) m (apR p w f).length))):=by
 have hre1:=l6_ f p o1 h0
 have hmu:=eo_ w _ o2
 have hre2:=l6_ _ p o3 h0
 obtain⟨T,hT⟩:∃T,T=apR p w f:=⟨_,rfl⟩
 rw[show(divP (mulP w (divP f p).2) p).2=T from hT.symm] at hre2
 rw[←hT] at hp hpl hlen hlim⊢
 have hWc:=bL_ p w
 refine f_n Tryz.func103 ?_ ?_
 exact aa_ (aq_ hWc) (aa_ (ar_ f) ab_)
 refine r_z 2 ?_
 refine r_z 1 ?_
 refine r_c 3 (hsu) ?_
 refine a_z ?_
 refine ac_ (ac_ (r_d hmix 12 ?_))
 refine c_s (hre1) ?_
 refine c_s (hmu) ?_
 refine c_s (hre2) ?_
 refine a_2 ?_
 refine an_ (n_k ?_)
 refine aD_ (fun _:Unit=>⟨[(4,.lptr 1 0 0),(5,.lptr 2 0 0)],[(1,some ⟨35,3,[zC]⟩),(2,some ⟨35,3,[qC (ofQ T m T.length)]⟩)],3,37⟩) (fun _=>True) ?_ ?_
 refine ah_ (ax_ (apS T m (ruC p w)) (fun x=>T.length- x.1) (fun x=>x.1≤T.length∧x.2=ofQ T m x.1) (0,0) ⟨Nat.zero_le _,rfl⟩ ?_ ?_)
 simp only[qQ_]
 rw[qC0]
 exact s_f [(1,2),(2,4),(3,5)]
 rintro⟨i,o⟩ ⟨hi,ho⟩
 simp only at hi ho
 rw[qQ_]
 by_cases hlt:i< T.length
 refine q_z 1 ?_
 refine ac_ (cT (ag_ ?_))
 have hgt:(pE T)[((i:Nat):Int).toNat]?=some (qC (coP T i)):=bC_ (bc_ hlt)
 have hgm:(pE m)[((i:Nat):Int).toNat]?=some (qC (coP m i)):=bC_ (bc_ (by omega))
 have hc:=bQ_ hp hs i
 have hd:=bQ_ hm ht i
 have hq:=kK_ hp hm hs ht i
 rw[←ho] at hq
 have e1:i* (s+t+1)≤(T.length+1) * (s+t+1):=Nat.mul_le_mul_right _ (by omega)
 have e2:(T.length+2) * (s+t+1)=(T.length+1) * (s+t+1)+(s+t+1):=Nat.succ_mul _ _
 have hmu:=cW_ (coP T i) (coP m i) (by omega)
 have hqm:=cb_ (coP T i) (coP m i)
 have had:=fm_ o (coP T i* coP m i) (by omega)
 refine ac_ (ah_ (s_r 6 ?_))
 refine a_1 ?_
 refine i_x hgt ?_
 refine l_x hgt ?_
 refine a_z ?_
 refine r_d hmix 9 ?_
 refine a_4 ?_
 refine i_x hgm ?_
 refine l_x hgm ?_
 refine c_s (hmu) ?_
 refine c_s (had) ?_
 refine a_1 ?_
 refine an_ (n_k ?_)
 refine r_m 2 ?_
 refine a_z ?_
 refine⟨(i+1,o+coP T i* coP m i),by simp only;omega,⟨hlt,by simp only;rw[ofQ,←ho]⟩,?_⟩
 simp only[qQ_]
 exact s_f []
 have hge:i=T.length:=by omega
 subst hge
 refine q_z 1 ?_
 refine ac_ (cF (au_ ⟨(),trivial,?_⟩))
 rw[ho]
 exact s_e [(1,4),(2,5)]
 rintro _ _
 refine r_z 2 ?_
 exact ai_ (c_e (av_ _))
def smsS(T:List Rat)(n:Nat):Nat→AState
 |k=>⟨[(3,.arr (pE T)),(4,i64 n),(5,.lsl 1 0 (k+1) none 3),(6,i64 ((k+1:Nat):Int))],[(1,some ⟨35,3,pE (suL T n k)⟩)],2,57⟩
theorem hg_(T:List Rat)(n:Nat)(k:Nat):smsS T n k=⟨[(3,.arr (pE T)),(4,i64 n),(5,.lsl 1 0 (k+1) none 3),(6,i64 ((k+1:Nat):Int))],[(1,some ⟨35,3,pE (suL T n k)⟩)],2,57⟩:=rfl
def smsI(T:List Rat)(n:Nat)(k:Nat):Nat→AState
 |i=>⟨[(3,.arr (pE T)),(4,i64 n),(5,.lsl 1 0 (k+1) none 3),(6,i64 ((k+1:Nat):Int)),(7,.lptr 2 0 0),(8,i64 ((i+1:Nat):Int))],[(1,some ⟨35,3,pE (suL T n k)⟩),(2,some ⟨35,3,[qC (nwA T n (suL T n k) (k+1) i)]⟩)],3,57⟩
theorem hh_(T:List Rat)(n:Nat)(k:Nat)(i:Nat):smsI T n k i=⟨[(3,.arr (pE T)),(4,i64 n),(5,.lsl 1 0 (k+1) none 3),(6,i64 ((k+1:Nat):Int)),(7,.lptr 2 0 0),(8,i64 ((i+1:Nat):Int))],[(1,some ⟨35,3,pE (suL T n k)⟩),(2,some ⟨35,3,[qC (nwA T n (suL T n k) (k+1) i)]⟩)],3,57⟩:=rfl
theorem fs_sums(p w:List Rat)(n:Nat)(hl:(trimQ p).length=n+1)(hn:1≤n)(hn2:n≤1000)(hpl:p.length≤1099511627776)(hok:∀k,k< n- 1→okSu (trimQ p) n k):
    FSpec Tryz.prog 188 [.agg (ruC p w)] (.arr (pE (suL (trimQ p) n (n- 1)))):=by
 have htr:=cz_ p (by omega)
 have hdg:=bz_ (trimQ p) (by omega)
 rw[show degP (trimQ p)=(n:Int) by rw[qz_];unfold degP;rw[hl];omega] at hdg
 have hW:=bL_ p w
 have hw0:=aZ_ (n:Int) (by omega)
 generalize trimQ p=T at *
 refine f_n Tryz.func188 ?_ ?_
 exact aa_ (aq_ hW) ab_
 refine r_z 2 ?_
 refine r_c 4 (htr) ?_
 refine a_z ?_
 refine r_c 3 (hdg) ?_
 refine a_z ?_
 refine r_c 4 (hw0) ?_
 refine a_z ?_
 refine ac_ (r_z 1 ?_)
 refine aD_ (smsS T n) (fun k=>k=n- 1) ?_ ?_
 refine ah_ (ax_ (smsS T n) (fun k=>n- k) (fun k=>k≤n- 1) 0 (Nat.zero_le _) ?_ ?_)
 rw[hg_]
 have:=(aH_ [((n:Int):Rat)])
 exact s_f [(1,5)]
 intro k hk
 rw[hg_]
 have hsl:=dY_ T n k
 by_cases hlt:k< n- 1
 obtain⟨o1,o2⟩:=hok k hlt
 have hgt:(pE T)[((n:Int)- ((k+1:Nat):Int)).toNat]?=some (qC (coP T (n- (k+1)))):=by
  rw[show((n:Int)- ((k+1:Nat):Int)).toNat=n- (k+1) by omega]
  exact bC_ (bc_ (by omega))
 have hm1:=cW_ (coP T (n- (k+1))) (((k+1:Nat):Int):Rat) o1
 refine ac_ (q_z 3 ?_)
 refine cT (ag_ (ac_ (ah_ (ac_ (r_d hmix 11 ?_)))))
 refine a_4 ?_
 refine i_x hgt ?_
 refine l_x hgt ?_
 refine c_s (aZ_ ((k+1:Nat):Int) (by omega)) ?_
 refine c_s (hm1) ?_
 refine a_2 ?_
 refine an_ (n_k ?_)
 refine ac_ (r_z 1 ?_)
 refine aD_ (fun _:Unit=>smsI T n k k) (fun _=>True) ?_ ?_
 refine ah_ (ax_ (smsI T n k) (fun i=>k- i) (fun i=>i≤k) 0 (Nat.zero_le _) ?_ ?_)
 rw[hh_]
 refine as_ [(2,7)] rfl rfl rfl au_r (fun hs=>au_f) (fun hs=>?_)
 ·repeat' (first|exact ao_|refine ak_ rfl rfl rfl rfl ?_ ?_)
  all_goals (first|((try exact aQ_ hs (aH_ _));(try exact ae_ (CvL.clo hs (aK_ _)));done)|exact au_e)
 intro i hi
 rw[hh_]
 by_cases hlt2:i< k
 obtain⟨o3,o4⟩:=o2 i hlt2
 have hg1:(pE T)[((n:Int)- ((i+1:Nat):Int)).toNat]?=some (qC (coP T (n- (i+1)))):=by
  rw[show((n:Int)- ((i+1:Nat):Int)).toNat=n- (i+1) by omega]
  exact bC_ (bc_ (by omega))
 have hg2:∀e,e=k+1- (i+1)→(pE (suL T n k))[e]?=some (qC (coP (suL T n k) (k+1- (i+1)))):=fun e he=>by
  rw[he];exact bC_ (bc_ (by omega))
 refine ac_ (q_z 3 ?_)
 refine cT (ag_ (ac_ (ah_ (r_d hmix 16 ?_))))
 refine a_5 ?_
 refine i_x hg1 ?_
 refine l_x hg1 ?_
 refine a_5 ?_
 first|refine aB_ (.load_l rfl rfl (hg2 _ (by omega)) tg_35.h ts_35.h (nle rfl)) rfl rfl ?_|refine aB_ (.load_a rfl (hg2 _ (by omega)) tg_35.h ts_35.h (nle rfl)) rfl rfl ?_
 refine c_s (cW_ _ _ o3) ?_
 refine c_s (fm_ _ _ o4) ?_
 refine a_1 ?_
 refine an_ (n_k ?_)
 refine r_m 3 ?_
 refine a_z ?_
 refine⟨i+1,by omega,hlt2,?_⟩
 rw[hh_]
 refine as_ [] rfl rfl rfl au_r (fun hs=>au_f) (fun hs=>?_)
 ·repeat' (first|exact ao_|refine ak_ rfl rfl rfl rfl ?_ ?_)
  all_goals (first|((try exact aQ_ hs (aH_ _));(try exact ae_ (CvL.clo hs (aK_ _)));done)|exact au_e)
 have hge:i=k:=by omega
 subst hge
 refine ac_ (q_z 3 ?_)
 refine cF (au_ ⟨(),trivial,?_⟩)
 try simp only[hh_]
 refine as_ [] rfl rfl rfl au_r (fun hs=>au_f) (fun hs=>?_)
 ·repeat' (first|exact ao_|refine ak_ rfl rfl rfl rfl ?_ ?_)
  all_goals (first|((try exact aQ_ hs (aH_ _));(try exact ae_ (CvL.clo hs (aK_ _)));done)|exact au_e)
 rintro _ _
 try simp only[hh_]
 refine r_m 6 ?_
 refine c_s (gH_ _) ?_
 refine a_z ?_
 refine r_m 3 ?_
 refine a_z ?_
 refine⟨k+1,by omega,by omega,?_⟩
 rw[hg_]
 have e:pE (suL T n k)++[qC (-(nwA T n (suL T n k) (k+1) k))]=pE (suL T n (k+1)):=by rw[suL,ht_]
 refine as_ [(1,5)] rfl rfl rfl ?_ (fun hs=>au_f) (fun hs=>?_)
 ·repeat' (first|exact ShrL.nil|refine ShrL.cons rfl rfl rfl rfl (by first|(simp[dY_])|rfl|(simp;done)|(simp <;> omega)) ?_)
 ·repeat' (first|exact ao_|refine ak_ rfl rfl rfl rfl ?_ ?_)
  all_goals (first|(exact aG_ hs e (aH_ _))|exact au_e)
 have hge:k=n- 1:=by omega
 refine ac_ (q_z 3 ?_)
 refine cF (au_ ⟨k,hge,?_⟩)
 try simp only[hg_]
 exact s_f []
 rintro k hk
 subst hk
 have hsl:=dY_ T n (n- 1)
 rw[hg_]
 refine r_z 2 ?_
 exact ai_ (Fin.tmpS rfl rfl rfl (by rw[kE_,hsl]) (aH_ _))
theorem pQ_(p w m:List Rat)(l r:Bool)(a b:Rat)(hcw:FSpec Tryz.prog 31 [.agg (wC m l r (qC a) (qC b))] (i64 0))(hck:FSpec Tryz.prog 94 [.agg (ruC p w)] (i64 0)):
    FSpec Tryz.prog 162 [.agg (wC m l r (qC a) (qC b)),.agg (ruC p w)] (i64 0):=by
 have hWc:∀c∈wC m l r (qC a) (qC b),Closed c:=aJ_ (.inr ⟨a,rfl⟩) (.inr ⟨b,rfl⟩)
 refine f_n Tryz.func162 ?_ ?_
 exact aa_ (aq_ hWc) (aa_ (aq_ (bL_ p w)) ab_)
 refine r_z 3 ?_
 refine ac_ (r_c 3 (hcw) ?_)
 refine a_z ?_
 refine s_r 2 ?_
 refine a_1 ?_
 refine o_0 (.bin rfl rfl (vF by_ (rfl))) ?_
 refine an_ ?_
 refine cF (ag_ (r_c 3 (hck) ?_))
 refine a_z ?_
 exact ai_ (t_e (ad_ _))
theorem oc_ (p w m:List Rat) (l r:Bool) (a b:Rat) (d:Nat) (v:Nat→Rat) (hbo:FSpec Tryz.prog 162 [.agg (wC m l r (qC a) (qC b)),.agg (ruC p w)] (i64 0))
    (hap:∀k,k≤d→FSpec Tryz.prog 103 [.agg (ruC p w),.arr (pE (List.replicate k 0++[((1:Int):Rat)]))] (.agg (qC (v k)))) (hd:d< m.length) (hml:m.length≤1000) (hm:∀q∈m,sm q) (hv:∀k,k≤d→sm (v k))
    (heq:∀k,k< d→v k=coP m k) (hne:v d≠coP m d):
    FSpec Tryz.prog 61 [.agg (wC m l r (qC a) (qC b)),.agg (ruC p w)] (.tup [i64 ((d:Int)- 1),bln true,i64 0]):=by
 have hWc:∀c∈wC m l r (qC a) (qC b),Closed c:=aJ_ (.inr ⟨a,rfl⟩) (.inr ⟨b,rfl⟩)
 refine f_n Tryz.func61 ?_ ?_
 exact aa_ (aq_ hWc) (aa_ (aq_ (bL_ p w)) ab_)
 refine r_z 5 ?_
 refine ac_ (r_c 4 (hbo) ?_)
 refine a_z ?_
 refine s_r 2 ?_
 refine a_1 ?_
 refine o_0 (.bin rfl rfl (vF by_ (rfl))) ?_
 refine an_ ?_
 refine cF (ag_ (ac_ (r_z 4 ?_)))
 refine aD_ (fun _:Unit=>⟨[],[],1,41⟩) (fun _=>False) ?_ ?_
 refine ah_ (ax_ (fun k:Nat=>⟨[(3,.lptr 1 0 0),(17,.arr (pE m)),(18,i64 m.length),(19,i64 k)],[(1,some ⟨57,2,[ruC p w]⟩)],2,41⟩) (fun k=>d+1- k) (fun k=>k≤d) 0 (Nat.zero_le _) ?_ ?_)
 have:=bL_ p w
 exact s_f [(1,3)]
 intro k hk
 have hgm:(pE m)[((k:Nat):Int).toNat]?=some (qC (coP m k)):=bC_ (bc_ (by omega))
 have hap2:=FSpec.zerosQ (L:=[((1:Int):Rat)]) (hap k hk) (aq_ (bL_ p w))
 have hcm:=ja_ (v k) (coP m k) (hv k hk) (h8_ hm k)
 refine q_z 1 ?_
 refine ac_ (cT (ag_ (ac_ (ah_ (s_r 6 ?_)))))
 refine a_1 ?_
 refine i_x hgm ?_
 refine l_x hgm ?_
 refine a_z ?_
 by_cases hkd:k< d
 ·rw[show cmpQ (v k) (coP m k)=0 by unfold cmpQ;rw[heq k hkd,if_neg (by grind),if_pos rfl]] at hcm
  refine ac_ (r_d hmix 10 ?_)
  refine c_s (aZ_ 1 (by decide)) ?_
  refine a_1 ?_
  refine o_2 (.append_l rfl rfl rfl te_55.h rfl rfl rfl rfl rfl d_o (kl_ _) rfl rfl (.lsl rfl (nle rfl)) tz_35.h rfl tb_35.h d_o (by first|(simp[maxLen];done)|(simp[maxLen];omega))) ?_
  refine o_1 (.callS1 rfl rfl rfl (.keep (.shut rfl d_n (.nil))) rfl ((FSpec.argE2 hap2 (by rw[List.drop_zero];exact List.take_of_length_le (by simp))))) ?_
  refine c_s (hcm) ?_
  refine o_0 (.bin rfl rfl (vF by_ (rfl))) ?_
  refine an_ (n_k ?_)
  refine cF (ag_ (r_m 2 ?_))
  refine a_z ?_
  refine⟨k+1,by omega,hkd,?_⟩
  have:=bL_ p w
  exact s_f []
 ·have hge:k=d:=by omega
  subst hge
  have hcn:¬cmpQ (v k) (coP m k)=0:=by
   unfold cmpQ
   split
   decide
   first|decide|(rw[if_neg hne];decide)
  refine ac_ (r_d hmix 10 ?_)
  refine c_s (aZ_ 1 (by decide)) ?_
  refine a_1 ?_
  refine o_2 (.append_l rfl rfl rfl te_55.h rfl rfl rfl rfl rfl d_o (kl_ _) rfl rfl (.lsl rfl (nle rfl)) tz_35.h rfl tb_35.h d_o (by first|(simp[maxLen];done)|(simp[maxLen];omega))) ?_
  refine o_1 (.callS1 rfl rfl rfl (.keep (.shut rfl d_n (.nil))) rfl ((FSpec.argE2 hap2 (by rw[List.drop_zero];exact List.take_of_length_le (by simp))))) ?_
  refine c_s (hcm) ?_
  refine o_0 (.bin rfl rfl (vT by_ (bne_iff_ne.2 hcn))) ?_
  refine an_ (n_k ?_)
  refine cT (r_z 5 ?_)
  refine ai_ (Fin.many ⟨_,_,rfl,rfl,⟨_,_,rfl,rfl,⟨_,_,rfl,rfl,rfl⟩⟩⟩ (nle rfl) ?_)
  exact CvL.clo at_ (aa_ (ad_ _) (aa_ (ad_ _) (aa_ (ad_ _) ab_)))
 rintro _ h
 exact h.elim
theorem p5_ (m m2:List Rat) (l r:Bool) (a b e:Rat) (n:Nat) (hn:1≤n) (hn2:n≤1000) (hti:FSpec Tryz.prog 121 [.agg (wC m l r (qC a) (qC b)),.arr (pE (enM e))] (.agg (wC m2 l r (qC a) (qC b))))
    (hok:∀k,k< n- 1→okLd m2 k) (hmu:okMul (enM e) (ldr m2 (n- 1)).1):
    FSpec Tryz.prog 120 [bQ e,bW m l r a b,bIn n] (.tup [.arr (pE (mulP (enM e) (ldr m2 (n- 1)).1)),bln true]):=by
 have hcl:=jW_ m2 l r a b (n- 1) (by omega) hok
 rw[show((n- 1:Nat):Int)=(n:Int)- 1 by omega] at hcl
 have hbw:=d9_ m l r a b
 have hbi:=c3_ n
 refine f_n Tryz.func120 ?_ ?_
 exact aa_ (cl_ e) (aa_ hbw (aa_ (c3_ n) ab_))
 refine r_z 2 ?_
 refine r_c 5 (gH_ e) ?_
 refine c_s (aZ_ 1 (by decide)) ?_
 refine a_z ?_
 refine AWp.ent (st':=⟨[(1,bW m l r a b),(2,bIn n),(5,.arr (pE (enM e)))],[],1,41⟩) ?_ ?_
 refine as_ [] rfl rfl rfl au_r (fun hs=>?_) (fun hs=>?_)
 ·repeat' (first|exact aA_|refine aw_ rfl ?_ ?_)
  all_goals (first|(exact dk_ hs rfl (fun _ _ h=>by cases h) rfl rfl)|exact au_c)
 ·repeat' (first|exact ao_|refine ak_ rfl rfl rfl rfl ?_ ?_)
  all_goals (first|exact au_e|(refine ae_ ?_;repeat' (first|exact ap_|refine af_ ?_ ?_)))
  all_goals (first|(exact dk_ hs rfl (fun _ _ h=>by cases h) rfl rfl)|exact au_c)
 refine ac_ (r_d hmix 11 ?_)
 refine c_s (hti) ?_
 refine c_s (hcl) ?_
 refine a_5 ?_
 refine an_ (n_k ?_)
 refine ac_ (r_z 2 ?_)
 refine cF (ag_ (r_c 9 (eo_ (enM e) _ hmu) ?_))
 refine a_z ?_
 refine ai_ (Fin.many ⟨_,_,rfl,rfl,⟨_,_,rfl,rfl,rfl⟩⟩ (nle rfl) ?_)
 exact af_ (al_ at_ (ar_ _)) (af_ (al_ at_ (ad_ _)) ap_)
end Go.Proofs.YtdjfjpeoddmamaaGreatDoor
