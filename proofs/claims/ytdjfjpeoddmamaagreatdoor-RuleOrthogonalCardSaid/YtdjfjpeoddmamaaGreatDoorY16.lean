/- Part Y16 of the proof. -/
import Derived.Test.YtdjfjpeoddmamaaGreatDoorY15
import Derived.ProofKit
import Derived.OpenShut
import Derived.Carry
import Derived.Deep.Slices
import Derived.Deep.Strs
set_option linter.all false
namespace Go.Proofs.YtdjfjpeoddmamaaGreatDoor
open Go.Abs
set_option maxRecDepth 20000
set_option maxHeartbeats 1000000
theorem fs_rOver(X:List RQ)(a b:Rat)(s:Nat)(hx:okX X)(hs:bdL (vR X) s)(hs1:1≤s)(hl:X.length≤200)(ha:qs a≤256)(hb:qs b≤256)(hlim:s≤100000000):
    FSpec Tryz.prog 193 [.arr (rE X),.agg (rC (rq a)++rC (rq b))] (.agg (rC (rq (evalP (aK_ (vR X)) b- evalP (aK_ (vR X)) a)))):=by
 have hin:=lX_ X s hx hs (by omega) (by omega)
 have hvl:=dp_ X
 have il:=dD_ (vR X)
 have ib:=iN_ hs hs1 (by omega)
 generalize aK_ (vR X)=I at *
 have hil:(rP I).length=I.length:=by simp[rP]
 have h1:=Nat.mul_le_mul (show(rP I).length+2≤203 by omega) (show s+21+256+1≤100000278 by omega)
 have e1:=ou_ (rP I) (rq b) (s+21) 256 (d4_ _) (bk_ _) (by rw[vR_rP];exact ib) (by omega) hb (by omega) (by omega)
 have e2:=ou_ (rP I) (rq a) (s+21) 256 (d4_ _) (bk_ _) (by rw[vR_rP];exact ib) (by omega) ha (by omega) (by omega)
 rw[vR_rP] at e1 e2
 have h2:=Nat.mul_le_mul (show I.length≤201 by omega) (show s+21+256+1≤100000278 by omega)
 have b1:=ec_ hb ib
 have b2:=ec_ ha ib
 have hsu:=rt_ (rq (evalP I b)) (rq (evalP I a)) (bk_ _) (bk_ _) (by show qs (evalP I b)+qs (evalP I a)≤_;omega)
 refine f_n Tryz.func193 ?_ ?_
 exact aa_ (a1_ X) (aa_ (aq_ fun c hc=>(List.mem_append.1 hc).elim (bg_ _ c) (bg_ _ c)) ab_)
 refine r_z 2 ?_
 refine r_c 3 (hin) ?_
 refine a_z ?_
 refine ac_ (r_d hmix 10 ?_)
 refine c_s (e1) ?_
 refine c_s (e2) ?_
 refine c_s (hsu) ?_
 refine a_1 ?_
 refine an_ (n_k ?_)
 exact aj_ (c_e (bb_ _))
def rwC(m:List Rat)(l r:Bool)(lo hi:RQ):List AV:=[.arr (rE (rP m)),bln l,bln r]++rC lo++rC hi
theorem a0_{m:List Rat}{l r:Bool}{lo hi:RQ}:∀c∈rwC m l r lo hi,Closed c:=fun c hc=>by
 unfold rwC at hc
 rcases List.mem_append.1 hc with hc|hc
 rcases List.mem_append.1 hc with hc|hc
 exact aa_ (a1_ _) (aa_ (ad_ _) (aa_ (ad_ _) ab_)) c hc
 exact bg_ _ c hc
 exact bg_ _ c hc
def rwX(x:AV)(l r:Bool)(lo hi:List AV):List AV:=[x,bln l,bln r]++lo++hi
def rw0:List AV:=rwX .emp false false zR4 zR4
theorem aC_:∀c∈rw0,Closed c:=fun c hc=>by
 unfold rw0 rwX at hc
 rcases List.mem_append.1 hc with hc|hc
 rcases List.mem_append.1 hc with hc|hc
 exact aa_ bt_ (aa_ (ad_ _) (aa_ (ad_ _) ab_)) c hc
 exact bA_ c hc
 exact bA_ c hc
theorem be_{l r:Bool}{lo hi:List AV}(h1:∀c∈lo,Closed c)(h2:∀c∈hi,Closed c):∀c∈rwX .emp l r lo hi,Closed c:=fun c hc=>by
 unfold rwX at hc
 rcases List.mem_append.1 hc with hc|hc
 rcases List.mem_append.1 hc with hc|hc
 exact aa_ bt_ (aa_ (ad_ _) (aa_ (ad_ _) ab_)) c hc
 exact h1 c hc
 exact h2 c hc
theorem bK_{r:Ren}{hp hp':Nat→Option ABlk}{x x':AV}{l b:Bool}{lo hi lo' hi':List AV}(h:Shr r hp hp')(hx:Cv r hp hp' x x')(h1:CvL r hp hp' lo lo')(h2:CvL r hp hp' hi hi'):CvL r hp hp' (rwX x l b lo hi) (rwX x' l b lo' hi'):=
 cx_ (cx_ (af_ hx (af_ (ak_ h (ad_ _)) (af_ (ak_ h (ad_ _)) ao_))) h1) h2
theorem jr_{r:Ren}{hp hp':Nat→Option ABlk}{id n:Nat}{cap:Option Nat}{B:ABlk}{L:List RQ}(h:Shr r hp hp')(hi:cellF hp id=some B)(hi':Dead r hp' id)(he:B.es=rE L)(hn:n=L.length):Cv r hp hp' (.lsl id 0 n cap 4) (.arr (rE L)):=
 Cv.shut h hi hi' (by rw[he,hn];simp) (aD_ h (by rw[he,List.drop_zero];exact List.take_of_length_le (by simp[hn])) (aF_ _))
def rjS(n:Nat)(f:Nat→Rat)(fr:Fr)(l r:Bool)(lo hi:List AV)(t tw tr:Nat):Nat→AState
 |0=>⟨[(t,i64 ((0:Nat):Int)),(tr,.lptr 1 0 0),(tw,.lptr 2 0 0)]++fr,[(1,some ⟨77,11,[rw0]⟩),(2,some ⟨77,11,[rwX .emp l r lo hi]⟩)],3,n⟩
 |k+1=>⟨[(t,i64 ((k+1:Nat):Int)),(tr,.lptr 1 0 0),(tw,.lptr 2 0 0)]++fr,[(1,some ⟨77,11,[rw0]⟩),(2,some ⟨77,11,[rwX (.lsl 3 0 (k+1) none 4) l r lo hi]⟩),(3,some ⟨42,4,rE (rP (sqL f (k+1)))⟩)],4,n⟩
theorem mT_(l:List Rat)(q:Rat):rE (rP (l++[q]))=rE (rP l)++[rC (rq q)]:=by simp[rE,rP]
theorem lW_(p n:Nat)(hp:p≤8)(hn:n≤63):FSpec Tryz.prog 107 [i64 p,i64 n] (.agg (rwC (sqL (lgQ p) (n+1)) true false r0 r0)):=by
 have e:∀k,rE (rP (sqL (lgQ p) k))++[rC (rq (lgQ p k))]=rE (rP (sqL (lgQ p) (k+1))):=fun k=>by rw[ey_,mT_]
 have hfc:∀k,k≤n→FSpec Tryz.prog 195 [i64 (((k:Nat):Int)+(p:Int))] (.agg (rC (rq (lgQ p k)))):=fun k hk=>by
  have:=eH_ (p+k) (by omega)
  rw[show((p+k:Nat):Int)=((k:Nat):Int)+(p:Int) by omega] at this
  exact this
 generalize lgQ p=f at *
 refine f_n Tryz.func107 ?_ ?_
 exact aa_ (ad_ _) (aa_ (ad_ _) ab_)
 refine r_z 1 ?_
 refine r_z 3 ?_
 refine ac_ (r_z 1 ?_)
 refine aB_ (fun _:Unit=>⟨[(4,.lptr 1 0 0),(5,.lptr 2 0 0)],[(1,some ⟨77,11,[rw0]⟩),(2,some ⟨77,11,[rwC (sqL f (n+1)) true false r0 r0]⟩)],3,23⟩) (fun _=>True) ?_ ?_
 refine ag_ (ax_ (rjS 23 f [(0,i64 p),(1,i64 n)] true false zR4 zR4 6 5 4) (fun k=>n+1- k) (fun k=>k≤n+1) 0 (Nat.zero_le _) ?_ ?_)
 rw[rjS.eq_1]
 refine ar_ [(1,4),(2,5)] rfl rfl rfl au_r (fun hs=>au_f) (fun hs=>?_)
 ·repeat' (first|exact ap_|refine al_ rfl rfl rfl rfl ?_ ?_)
  all_goals (first|((try exact ae_ (CvL.clo hs aC_));(try exact ae_ (CvL.clo hs (be_ bA_ bA_))))|exact au_e)
 rintro k hk
 by_cases hlt:k≤n
 have hf:=hfc k hlt
 have e:=e k
 cases k with
 |zero=>
  rw[rjS.eq_1]
  refine ac_ (q_z 3 ?_)
  refine cT (ah_ (ac_ (ag_ (r_d hmix 10 ?_))))
  refine c_s (hf) ?_
  refine a_4 ?_
  refine an_ (n_k ?_)
  refine r_m 3 ?_
  refine a_z ?_
  refine⟨0+1,by omega,by omega,?_⟩
  rw[rjS.eq_2]
  refine ar_ [(1,4),(2,5),(3,20)] rfl rfl rfl au_r (fun hs=>au_f) (fun hs=>?_)
  ·repeat' (first|exact ap_|refine al_ rfl rfl rfl rfl ?_ ?_)
   all_goals (first|((try exact ae_ (CvL.clo hs aC_));(try exact ae_ (bK_ hs (Cv.sl rfl rfl rfl) (CvL.clo hs bA_) (CvL.clo hs bA_)));(try exact aH_ hs (aF_ (rP [f 0]))))|exact au_e)
 |succ k=>
  rw[rjS.eq_2]
  refine ac_ (q_z 3 ?_)
  refine cT (ah_ (ac_ (ag_ (r_d hmix 10 ?_))))
  refine c_s (hf) ?_
  refine a_4 ?_
  refine an_ (n_k ?_)
  refine r_m 3 ?_
  refine a_z ?_
  refine⟨k+1+1,by omega,by omega,?_⟩
  rw[rjS.eq_2]
  refine ar_ [(1,4),(2,5),(3,20)] rfl rfl rfl ?_ (fun hs=>au_f) (fun hs=>?_)
  ·repeat' (first|exact ShrL.nil|refine ShrL.cons rfl rfl rfl rfl (by first|(simp)|rfl|(simp;done)|(simp <;> omega)) ?_)
  ·repeat' (first|exact ap_|refine al_ rfl rfl rfl rfl ?_ ?_)
   all_goals (first|((try exact ae_ (CvL.clo hs aC_));(try exact ae_ (bK_ hs (Cv.sl rfl rfl rfl) (CvL.clo hs bA_) (CvL.clo hs bA_)));(try exact aD_ hs e (aF_ _)))|exact au_e)
 have hge:k=n+1:=by omega
 subst hge
 rw[rjS.eq_2]
 refine ac_ (q_z 3 ?_)
 refine cF (av_ ⟨(),trivial,?_⟩)
 refine ar_ [(1,4),(2,5)] rfl rfl rfl au_r (fun hs=>au_f) (fun hs=>?_)
 ·repeat' (first|exact ap_|refine al_ rfl rfl rfl rfl ?_ ?_)
  all_goals (first|((try exact ae_ (CvL.clo hs aC_));(try exact ae_ (bK_ hs (jr_ (L:=rP (sqL f (n+1))) hs rfl (aM_ rfl) rfl (by simp[rP])) (hx_ hs) (hx_ hs))))|exact au_e)
 rintro _ _
 refine r_z 2 ?_
 exact aj_ (c_e (aq_ a0_))
theorem cC_{r:Ren}{hp hp':Nat→Option ABlk}(h:Shr r hp hp')(x:RQ):CvL r hp hp' (rC x) (rC x):=CvL.clo h (bg_ x)
theorem pu_(a b:Rat)(p q n:Nat)(hp:p≤8)(hq:q≤8)(hn:n≤63)(ha:qs a≤256)(hb:qs b≤256):
    FSpec Tryz.prog 105 [.agg (rC (rq a)++rC (rq b)),i64 p,i64 q,i64 n] (.agg (rwC (sqL (moQ (jcF a b p q) (a,b)) (n+1)) true true (rq a) (rq b))):=by
 have hcS:∀c∈rC (rq a)++rC (rq b),Closed c:=fun c hc=>(List.mem_append.1 hc).elim (bg_ _ c) (bg_ _ c)
 have i1:FSpec Tryz.prog 112 [i64 1] (.agg (rC (rq 1))):=cy_ 1 (by decide)
 have i2:FSpec Tryz.prog 112 [i64 (-1)] (.agg (rC (rq (-1)))):=cy_ (-1) (by decide)
 have ng:=na_ (rq a) (bk_ a)
 have n1:=os_ (-a) 1
 have n2:=os_ b (-1)
 have t1:=lU_ (-a) 1 p (by rw[eQ_];exact ha) (by decide) hp
 have t2:=lU_ b (-1) q hb (by decide) hq
 have l1:=dA_ (-a) 1 hp
 have l2:=dA_ b (-1) hq
 have m1:=lB_le hp
 have m2:=lB_le hq
 have hmu:=h1_ (rP (powP [-a,1] p)) (rP (powP [b,-1] q)) (lB p) (lB q) 6000000 (d4_ _) (d4_ _) (by rw[vR_rP];exact jc_p ha) (by rw[vR_rP];exact jc_q hb) (e8_ p) (fun i hi=>by
  rw[vR_rP,vR_rP]
  have hi2:i≤17:=by
   have:(rP (powP [b,-1] q)).length=(powP [b,-1] q).length:=by simp[rP]
   omega
  have h5:=Nat.mul_le_mul hi2 (show lB p+lB q+1≤320001 by omega)
  exact cX_ (mR_bd (jc_p ha) (jc_q hb) (e8_ p) (e8_ q) i) (by omega)) (by omega) (by simp[rP];omega) (by simp[rP];omega)
 rw[vR_rP,vR_rP,show mulP (powP [-a,1] p) (powP [b,-1] q)=jcF a b p q from rfl] at hmu
 obtain⟨f1,f2⟩:=q7_ ha hb hp hq
 have hov:∀k,k≤n→FSpec Tryz.prog 130 [.arr (rE (rP (jcF a b p q))),.arr (rE (mnX k))] (.arr (rE (rP (mulP (jcF a b p q) (shP k [1])))))∧
     FSpec Tryz.prog 193 [.arr (rE (rP (mulP (jcF a b p q) (shP k [1])))),.agg (rC (rq a)++rC (rq b))] (.agg (rC (rq (moQ (jcF a b p q) (a,b) k)))):=fun k hk=>by
  have b1:bdL (shP k [1]) 1:=bdL_sh (by decide) (by decide) k
  have hM:=h1_ (rP (jcF a b p q)) (mnX k) 5500000 1 6000000 (d4_ _) (mnX_ok k) (by rw[vR_rP];exact f1) (by rw[mnX_v];exact b1) (by decide) (fun i hi=>by
   rw[vR_rP,mnX_v]
   have hi2:i≤k+1:=by simpa[mnX] using hi
   exact cX_ (hn_ f1 (by decide) i hi2) (by have:qs 1=1:=by decide
                                            omega)) (by omega) (by simp[rP];omega) (by simp[mnX];omega)
  rw[vR_rP,mnX_v] at hM
  have hml:=m1_ (jcF a b p q) (shP k [1])
  rw[de_] at hml
  have e1:([1]:List Rat).length=1:=rfl
  have hmb:bdL (mulP (jcF a b p q) (shP k [1])) 6000000:=by
   have:=hn_ (a:=1) (d:=k) f1 (by decide) (k+1) (Nat.le_refl _)
   have e:(shP k [(1:Rat)]).length=k+1:=by rw[de_];rfl
   rw[←e,lK_] at this
   exact cX_ this (by have:qs 1=1:=by decide
                      omega)
  have hO:=fs_rOver (rP (mulP (jcF a b p q) (shP k [1]))) a b 6000000 (d4_ _) (by rw[vR_rP];exact hmb) (by decide) (by simp[rP];omega) ha hb (by decide)
  rw[vR_rP,mo_mono] at hO
  exact⟨hM,hO⟩
 have e:∀k,rE (rP (sqL (moQ (jcF a b p q) (a,b)) k))++[rC (rq (moQ (jcF a b p q) (a,b) k))]=rE (rP (sqL (moQ (jcF a b p q) (a,b)) (k+1))):=fun k=>by rw[ey_,mT_]
 generalize moQ (jcF a b p q) (a,b)=f at *
 generalize jcF a b p q=F at *
 refine f_n Tryz.func105 ?_ ?_
 exact aa_ (aq_ hcS) (aa_ (ad_ _) (aa_ (ad_ _) (aa_ (ad_ _) ab_)))
 refine r_z 2 ?_
 refine ac_ (r_d hmix 15 ?_)
 refine c_s (ng) ?_
 refine c_s (i1) ?_
 refine c_s (n1) ?_
 refine c_s (t1) ?_
 refine c_s (i2) ?_
 refine c_s (n2) ?_
 refine c_s (t2) ?_
 refine c_s (hmu) ?_
 refine a_1 ?_
 refine an_ (n_k ?_)
 refine r_z 7 ?_
 refine ac_ (r_z 1 ?_)
 refine aB_ (fun _:Unit=>⟨[(8,.lptr 1 0 0),(10,.lptr 2 0 0)],[(1,some ⟨77,11,[rw0]⟩),(2,some ⟨77,11,[rwC (sqL f (n+1)) true true (rq a) (rq b)]⟩)],3,48⟩) (fun _=>True) ?_ ?_
 refine ag_ (ax_ (rjS 48 f [(3,i64 n),(4,.aptr [rC (rq a)++rC (rq b)] 0 0),(9,.arr (rE (rP F)))] true true (rC (rq a)) (rC (rq b)) 11 10 8) (fun k=>n+1- k) (fun k=>k≤n+1) 0 (Nat.zero_le _) ?_ ?_)
 rw[rjS.eq_1]
 refine ar_ [(1,8),(2,10)] rfl rfl rfl au_r (fun hs=>?_) (fun hs=>?_)
 ·repeat' (first|exact aA_|refine au_ rfl ?_ ?_)
  all_goals (first|(exact Cv.boxp hs rfl (aM_ rfl) rfl hcS)|exact au_c)
 ·repeat' (first|exact ap_|refine al_ rfl rfl rfl rfl ?_ ?_)
  all_goals (first|((try exact ae_ (CvL.clo hs aC_));(try exact ae_ (CvL.clo hs (be_ (bg_ _) (bg_ _)))))|exact au_e|(refine ae_ ?_;repeat' (first|exact ao_|refine af_ ?_ ?_)))
  all_goals (first|(exact Cv.boxp hs rfl (aM_ rfl) rfl hcS)|exact au_c)
 rintro k hk
 by_cases hlt:k≤n
 obtain⟨hM,hO⟩:=hov k hlt
 have hmn:=lV_ k (by omega)
 have e:=e k
 cases k with
 |zero=>
  rw[rjS.eq_1]
  refine ac_ (q_z 3 ?_)
  refine cT (ah_ (ac_ (ag_ (r_d hmix 12 ?_))))
  refine c_s (hmn) ?_
  refine c_s (hM) ?_
  refine c_s (hO) ?_
  refine a_4 ?_
  refine an_ (n_k ?_)
  refine r_m 3 ?_
  refine a_z ?_
  refine⟨0+1,by omega,by omega,?_⟩
  rw[rjS.eq_2]
  refine ar_ [(1,8),(2,10),(3,45)] rfl rfl rfl au_r (fun hs=>?_) (fun hs=>?_)
  ·repeat' (first|exact aA_|refine au_ rfl ?_ ?_)
   all_goals (first|(exact ak_ hs (ai_ hcS))|exact au_c)
  ·repeat' (first|exact ap_|refine al_ rfl rfl rfl rfl ?_ ?_)
   all_goals (first|((try exact ae_ (CvL.clo hs aC_));(try exact ae_ (bK_ hs (Cv.sl rfl rfl rfl) (cC_ hs _) (cC_ hs _)));(try exact aH_ hs (aF_ (rP [f 0]))))|exact au_e|(refine ae_ ?_;repeat' (first|exact ao_|refine af_ ?_ ?_)))
   all_goals (first|(exact ak_ hs (ai_ hcS))|exact au_c)
 |succ k=>
  rw[rjS.eq_2]
  refine ac_ (q_z 3 ?_)
  refine cT (ah_ (ac_ (ag_ (r_d hmix 12 ?_))))
  refine c_s (hmn) ?_
  refine c_s (hM) ?_
  refine c_s (hO) ?_
  refine a_4 ?_
  refine an_ (n_k ?_)
  refine r_m 3 ?_
  refine a_z ?_
  refine⟨k+1+1,by omega,by omega,?_⟩
  rw[rjS.eq_2]
  refine ar_ [(1,8),(2,10),(3,45)] rfl rfl rfl ?_ (fun hs=>?_) (fun hs=>?_)
  ·repeat' (first|exact ShrL.nil|refine ShrL.cons rfl rfl rfl rfl (by first|(simp)|rfl|(simp;done)|(simp <;> omega)) ?_)
  ·repeat' (first|exact aA_|refine au_ rfl ?_ ?_)
   all_goals (first|(exact ak_ hs (ai_ hcS))|exact au_c)
  ·repeat' (first|exact ap_|refine al_ rfl rfl rfl rfl ?_ ?_)
   all_goals (first|((try exact ae_ (CvL.clo hs aC_));(try exact ae_ (bK_ hs (Cv.sl rfl rfl rfl) (cC_ hs _) (cC_ hs _)));(try exact aD_ hs e (aF_ _)))|exact au_e|(refine ae_ ?_;repeat' (first|exact ao_|refine af_ ?_ ?_)))
   all_goals (first|(exact ak_ hs (ai_ hcS))|exact au_c)
 have hge:k=n+1:=by omega
 subst hge
 rw[rjS.eq_2]
 refine ac_ (q_z 3 ?_)
 refine cF (av_ ⟨(),trivial,?_⟩)
 refine ar_ [(1,8),(2,10)] rfl rfl rfl au_r (fun hs=>au_f) (fun hs=>?_)
 ·repeat' (first|exact ap_|refine al_ rfl rfl rfl rfl ?_ ?_)
  all_goals (first|((try exact ae_ (CvL.clo hs aC_));(try exact ae_ (bK_ hs (jr_ (L:=rP (sqL f (n+1))) hs rfl (aM_ rfl) rfl (by simp[rP])) (cC_ hs _) (cC_ hs _))))|exact au_e)
 rintro _ _
 refine r_z 2 ?_
 exact aj_ (c_e (aq_ a0_))
def evLo(c:Nat):RQ×RQ:=if c=1 then(r0,r0) else(rq (-1),rq 1)
def evP(c:Nat)(z:Bool×List AV×List AV):Prop:=z.1=decide (1< c)∧(∃u0 u1 u2 u3,z.2.1=[u0,u1,u2,u3])∧(∃u0 u1 u2 u3,z.2.2=[u0,u1,u2,u3])∧(∀x∈z.2.1,Closed x)∧(∀x∈z.2.2,Closed x)∧
 ∀r hp hp',Shr r hp hp'→CvL r hp hp' z.2.1 (rC (evLo c).1)∧CvL r hp hp' z.2.2 (rC (evLo c).2)
def evA(c k:Nat):Rat:=if c=1 then oddM k (k/ 2) else(((fcN k:Nat):Int):Rat) / (((fcN (k/ 2):Nat):Int) * ((fcN (k/ 2):Nat):Int):Rat)
theorem evD_A(c k:Nat)(hk:k % 2=0):evD c k=if c=1 then halfM (evA c k) (k/ 2) else if c=3 then halfM (halfM (evA c k) (k/ 2)) (k/ 2) / (((k/ 2+1:Nat):Int):Rat) else halfM (halfM (evA c k) (k/ 2)) (k/ 2):=by
 unfold evD evA
 rw[if_pos hk]
 by_cases h:c=1
 rw[if_pos h,if_pos h,if_pos h]
 rw[if_neg h,if_neg h,if_neg h]
theorem mX_(k:Nat):∀j,j≤100→qs (oddM k j)≤j* 21+1
 |0,_=>by rw[Nat.zero_mul];show qs 1≤0+1;decide
 |j+1,h=>by
  have h1:=mX_ k j (by omega)
  have h2:=bZ_ (oddM k j) (((2* j+1:Nat):Int):Rat)
  have h3:=qi21 (n:=((2* j+1:Nat):Int)) (by omega)
  rw[oddM];omega
theorem kB_(m:Rat):∀j,qs (halfM m j)≤qs m+j* 2
 |0=>Nat.le_refl _
 |j+1=>by
  have h1:=kB_ m j
  have h2:=bZ_ (halfM m j) (1/ 2)
  have h3:qs ((1:Rat) / 2)=2:=by decide+kernel
  rw[halfM];omega
theorem evA_qs(c k:Nat)(hk:k≤63):qs (evA c k)≤2000:=by
 unfold evA
 split
 have:=mX_ k (k/ 2) (by omega)
 omega
 have h1:=dy_ (((fcN k:Nat):Int):Rat) (((fcN (k/ 2):Nat):Int) * ((fcN (k/ 2):Nat):Int):Rat)
 have h2:=bZ_ (((fcN (k/ 2):Nat):Int):Rat) (((fcN (k/ 2):Nat):Int):Rat)
 have h3:=gB_ (n:=k) (by omega)
 have h4:=gB_ (n:=k/ 2) (by omega)
 omega
theorem rT_:∀n,0< fcN n
 |0=>by decide
 |n+1=>Nat.mul_pos (rT_ n) (Nat.succ_pos n)
theorem fcN_ne(n:Nat):(((fcN n:Nat):Int):Rat)≠0:=od_ (by have:=rT_ n;omega)
theorem rOf12:Rat.divInt 1 2=(1:Rat) / 2:=by decide+kernel
def evMS(f:Nat→Rat)(c n:Nat)(zb:Bool)(zl zh:List AV)(K:Nat):Nat→Fr→Rat→AState
 |0=>fun fx m=>⟨fx++[(6,i64 K),(7,.lptr 4 0 0),(4,.lptr 1 0 0),(5,.lptr 2 0 0),(0,i64 c),(1,i64 n)],[(1,some ⟨77,11,[rw0]⟩),(2,some ⟨77,11,[rwX .emp zb zb zl zh]⟩),(4,some ⟨42,4,[rC (rq m)]⟩)],5,86⟩
 |k+1=>fun fx m=>⟨fx++[(6,i64 K),(7,.lptr 4 0 0),(4,.lptr 1 0 0),(5,.lptr 2 0 0),(0,i64 c),(1,i64 n)],[(1,some ⟨77,11,[rw0]⟩),(2,some ⟨77,11,[rwX (.lsl 3 0 (k+1) none 4) zb zb zl zh]⟩),(3,some ⟨42,4,rE (rP (sqL f (k+1)))⟩),(4,some ⟨42,4,[rC (rq m)]⟩)],5,86⟩
theorem cQ_(f:Nat→Rat)(c n:Nat)(zb:Bool)(zl zh:List AV)(K:Nat)(fx:Fr)(m:Rat):evMS f c n zb zl zh K 0 fx m=⟨fx++[(6,i64 K),(7,.lptr 4 0 0),(4,.lptr 1 0 0),(5,.lptr 2 0 0),(0,i64 c),(1,i64 n)],[(1,some ⟨77,11,[rw0]⟩),(2,some ⟨77,11,[rwX .emp zb zb zl zh]⟩),(4,some ⟨42,4,[rC (rq m)]⟩)],5,86⟩:=rfl
theorem cP_(f:Nat→Rat)(c n:Nat)(zb:Bool)(zl zh:List AV)(K k:Nat)(fx:Fr)(m:Rat):evMS f c n zb zl zh K (k+1) fx m=⟨fx++[(6,i64 K),(7,.lptr 4 0 0),(4,.lptr 1 0 0),(5,.lptr 2 0 0),(0,i64 c),(1,i64 n)],[(1,some ⟨77,11,[rw0]⟩),(2,some ⟨77,11,[rwX (.lsl 3 0 (k+1) none 4) zb zb zl zh]⟩),(3,some ⟨42,4,rE (rP (sqL f (k+1)))⟩),(4,some ⟨42,4,[rC (rq m)]⟩)],5,86⟩:=rfl
def evHS(f:Nat→Rat)(c n:Nat)(zb:Bool)(zl zh:List AV)(K:Nat):Nat→AState
 |0=>⟨[(6,i64 K),(4,.lptr 1 0 0),(5,.lptr 2 0 0),(0,i64 c),(1,i64 n)],[(1,some ⟨77,11,[rw0]⟩),(2,some ⟨77,11,[rwX .emp zb zb zl zh]⟩)],4,86⟩
 |k+1=>⟨[(6,i64 K),(4,.lptr 1 0 0),(5,.lptr 2 0 0),(0,i64 c),(1,i64 n)],[(1,some ⟨77,11,[rw0]⟩),(2,some ⟨77,11,[rwX (.lsl 3 0 (k+1) none 4) zb zb zl zh]⟩),(3,some ⟨42,4,rE (rP (sqL f (k+1)))⟩)],4,86⟩
theorem fs_rEven(c n:Nat)(hc:1≤c∧c≤3)(hn:n≤63):FSpec Tryz.prog 111 [i64 c,i64 n] (.agg (rwC (sqL (evD c) (n+1)) (decide (1< c)) (decide (1< c)) (evLo c).1 (evLo c).2)):=by
 have i0:FSpec Tryz.prog 112 [i64 0] (.agg (rC (rq 0))):=cy_ 0 (by decide)
 have i1:FSpec Tryz.prog 112 [i64 1] (.agg (rC (rq 1))):=cy_ 1 (by decide)
 have im:FSpec Tryz.prog 112 [i64 (-1)] (.agg (rC (rq (-1)))):=cy_ (-1) (by decide)
 have ih:=fs_rOf 1 2 (by decide) (by decide) (by decide)
 rw[rOf12] at ih
 have e:∀k,rE (rP (sqL (evD c) k))++[rC (rq (evD c k))]=rE (rP (sqL (evD c) (k+1))):=fun k=>by rw[ey_,mT_]
 refine f_n Tryz.func111 ?_ ?_
 exact aa_ (ad_ _) (aa_ (ad_ _) ab_)
 refine r_z 1 ?_
 refine r_z 1 ?_
 refine aU_ (fun z:Bool×List AV×List AV=>⟨[(0,i64 c),(1,i64 n),(4,.lptr 1 0 0),(5,.lptr 2 0 0)],[(1,some ⟨77,11,[rw0]⟩),(2,some ⟨77,11,[rwX .emp z.1 z.1 z.2.1 z.2.2]⟩)],3,86⟩) (evP c) ?_ ?_
 by_cases h1:1< c
 refine q_z 2 ?_
 refine cT (r_m 4 ?_)
 refine c_s (im) ?_
 refine c_s (i1) ?_
 refine a_z ?_
 refine⟨(true,rC (rq (-1)),rC (rq 1)),⟨(decide_eq_true h1).symm,⟨_,_,_,_,rfl⟩,⟨_,_,_,_,rfl⟩,bg_ _,bg_ _,fun r hp hp' hs=>by
  unfold evLo
  rw[if_neg (by omega)]
  exact⟨cC_ hs _,cC_ hs _⟩⟩,?_⟩
 refine ar_ [(1,4),(2,5)] rfl rfl rfl au_r (fun hs=>au_f) (fun hs=>?_)
 ·repeat' (first|exact ap_|refine al_ rfl rfl rfl rfl ?_ ?_)
  all_goals (first|((try exact ae_ (CvL.clo hs aC_));(try exact ae_ (CvL.clo hs (be_ (bg_ _) (bg_ _)))))|exact au_e)
 refine q_z 2 ?_
 refine cF ?_
 refine ah_ ⟨(false,zR4,zR4),⟨(decide_eq_false h1).symm,⟨_,_,_,_,rfl⟩,⟨_,_,_,_,rfl⟩,bA_,bA_,fun r hp hp' hs=>by
  unfold evLo
  rw[if_pos (by omega)]
  exact⟨hx_ hs,hx_ hs⟩⟩,?_⟩
 refine ar_ [(1,4),(2,5)] rfl rfl rfl au_r (fun hs=>au_f) (fun hs=>?_)
 ·repeat' (first|exact ap_|refine al_ rfl rfl rfl rfl ?_ ?_)
  all_goals (first|((try exact ae_ (CvL.clo hs aC_));(try exact ae_ (CvL.clo hs (be_ bA_ bA_))))|exact au_e)
 rintro⟨zb,zl,zh⟩ ⟨ez,⟨u0,u1,u2,u3,e1⟩,⟨v0,v1,v2,v3,e2⟩,c1,c2,hcv⟩
 simp only at ez e1 e2 c1 c2 hcv⊢
 subst e1;subst e2
 rw[←ez]
 refine ac_ (r_z 1 ?_)
 refine aB_ (fun _:Unit=>⟨[(4,.lptr 1 0 0),(5,.lptr 2 0 0)],[(1,some ⟨77,11,[rw0]⟩),(2,some ⟨77,11,[rwC (sqL (evD c) (n+1)) zb zb (evLo c).1 (evLo c).2]⟩)],3,86⟩) (fun _=>True) ?_ ?_
 refine ag_ (ax_ (fun k=>evHS (evD c) c n zb [u0,u1,u2,u3] [v0,v1,v2,v3] k k) (fun k=>n+1- k) (fun k=>k≤n+1) 0 (Nat.zero_le _) ?_ ?_)
 rw[evHS.eq_1]
 refine ar_ [(1,4),(2,5)] rfl rfl rfl au_r (fun hs=>au_f) (fun hs=>?_)
 ·repeat' (first|exact ap_|refine al_ rfl rfl rfl rfl ?_ ?_)
  all_goals (first|((try exact ae_ (CvL.clo hs aC_));(try exact ae_ (CvL.clo hs (be_ c1 c2))))|exact au_e)
 rintro k hk
 by_cases hlt:k≤n
 ·obtain⟨K,hK⟩:∃K,K=k:=⟨_,rfl⟩
  have eK:=e K
  have hKn:K≤n:=by omega
  obtain⟨h,hh⟩:∃h,h=K/ 2:=⟨_,rfl⟩
  have hA:=evA_qs c K (by omega)
  have fK:=eH_ K (by omega)
  have fh:=eH_ h (by omega)
  have qK:=gB_ (n:=K) (by omega)
  have qh:=gB_ (n:=h) (by omega)
  have qm:=bZ_ (((fcN h:Nat):Int):Rat) (((fcN h:Nat):Int):Rat)
  have fm:=ee_ (rq (((fcN h:Nat):Int):Rat)) (rq (((fcN h:Nat):Int):Rat)) (bk_ _) (bk_ _) (by show qs (((fcN h:Nat):Int):Rat)+qs (((fcN h:Nat):Int):Rat)≤_;omega)
  have fne:(((fcN h:Nat):Int):Rat) * (((fcN h:Nat):Int):Rat)≠0:=fun e=>(Rat.mul_eq_zero.1 e).elim (fcN_ne h) (fcN_ne h)
  have fd:=iW_ (rq (((fcN K:Nat):Int):Rat)) (rq ((((fcN h:Nat):Int):Rat) * (((fcN h:Nat):Int):Rat))) (bk_ _) (bk_ _) fne (by show qs (((fcN K:Nat):Int):Rat)+qs ((((fcN h:Nat):Int):Rat) * (((fcN h:Nat):Int):Rat))≤_;omega)
  obtain⟨S0,hS0⟩:∃S0,S0=evMS (evD c) c n zb [u0,u1,u2,u3] [v0,v1,v2,v3] K k:=⟨_,rfl⟩
  rw[show evHS (evD c) c n zb [u0,u1,u2,u3] [v0,v1,v2,v3] k k=evHS (evD c) c n zb [u0,u1,u2,u3] [v0,v1,v2,v3] K k by rw[hK]]
  rcases k with _|k
  all_goals
   first|rw[evHS.eq_1]|rw[evHS.eq_2]
   refine ac_ (q_z 3 ?_)
   refine cT (ah_ (ac_ (ag_ (r_c 3 (i0) ?_))))
   refine a_z ?_
   refine aU_ (fun _:Unit=>S0 [] (evD c K)) (fun _=>True) ?_ ?_
   by_cases hp:K % 2=0
   refine q_z 3 ?_
   refine cT (r_z 3 ?_)
   rw[show((K:Nat):Int) / 2=((h:Nat):Int) by omega]
   refine r_c 2 (i1) ?_
   refine a_z ?_
   refine ac_ (r_z 1 ?_)
   refine aB_ (fun _:Unit=>S0 [(8,i64 h)] (if c=1 then oddM K h else 1)) (fun _=>True) ?_ ?_
   refine ag_ (ax_ (fun j:Nat=>S0 [(8,i64 h),(9,i64 ((2* j+1:Nat):Int))] (oddM K j)) (fun j=>h- j) (fun j=>j≤h∧(c=1∨j=0)) 0 ⟨Nat.zero_le _,.inr rfl⟩ ?_ ?_)
   rw[hS0]
   try first|rw[cQ_]|rw[cP_]
   refine SEnt.to2 [(1,4),(2,5),(3,100003),(4,7)] rfl rfl rfl au_r (fun hs=>au_f) (fun hs=>?_)
   ·repeat' (first|exact ap_|refine al_ rfl rfl rfl rfl ?_ ?_)
    all_goals (first|((try exact ae_ (CvL.clo hs aC_));(try exact ae_ (CvL.clo hs (be_ c1 c2)));(try exact ae_ (bK_ hs (Cv.sl rfl rfl rfl) (CvL.clo hs c1) (CvL.clo hs c2)));(try exact aH_ hs (aF_ _));(try exact ae_ (cC_ hs _)))|exact au_e)
   rintro j ⟨hj,hj1⟩
   try rw[hS0]
   try first|rw[cQ_]|rw[cP_]
   by_cases hlj:j< h
   by_cases hc1:c=1
   have ij:=cy_ ((2* j+1:Nat):Int) (by omega)
   have qj:=qi21 (n:=((2* j+1:Nat):Int)) (by omega)
   have qo:=mX_ K j (by omega)
   have mj:=ee_ (rq (oddM K j)) (rq (((2* j+1:Nat):Int):Rat)) (bk_ _) (bk_ _) (by show qs (oddM K j)+qs (((2* j+1:Nat):Int):Rat)≤_;omega)
   refine ac_ (q_z 7 ?_)
   refine cT (ah_ (ac_ (ag_ (r_d hmix 5 ?_))))
   refine c_s (ij) ?_
   refine c_s (mj) ?_
   refine a_1 ?_
   refine an_ (n_k ?_)
   refine r_m 3 ?_
   refine a_z ?_
   refine⟨j+1,by omega,⟨hlj,.inl hc1⟩,?_⟩
   try rw[hS0]
   try first|rw[cQ_]|rw[cP_]
   refine SEnt.to2 [(1,4),(2,5),(3,100003),(4,7)] rfl rfl rfl au_r (fun hs=>au_f) (fun hs=>?_)
   ·repeat' (first|exact ap_|refine al_ rfl rfl rfl rfl ?_ ?_)
    all_goals (first|((try exact ae_ (CvL.clo hs aC_));(try exact ae_ (CvL.clo hs (be_ c1 c2)));(try exact ae_ (bK_ hs (Cv.sl rfl rfl rfl) (CvL.clo hs c1) (CvL.clo hs c2)));(try exact aH_ hs (aF_ _));(try exact ae_ (cC_ hs _)))|exact au_e)
   ·refine ac_ (s_r 7 ?_)
    refine o_0 (.move rfl) ?_
    refine o_0 (.move rfl) ?_
    refine o_0 (.bin rfl rfl (vT do_ (decide_eq_true (by omega)))) ?_
    refine o_0 (.move rfl) ?_
    first|refine ay_ rfl rfl rfl (.move rfl) rfl rfl ?_|refine br_ rfl rfl (by first|(simp[bh_];done)|exact nofun) rfl rfl ?_
    refine ay_ rfl rfl rfl (.bin rfl rfl (vF a9_ (decide_eq_false (by omega)))) rfl rfl ?_
    first|refine aw_ (.pick rfl (fun _=>rfl) (fun _=>rfl)) rfl rfl ?_|refine aw_ (.pick rfl (fun _=>rfl) (fun h=>absurd h (by decide))) rfl rfl ?_|refine aw_ (.pick rfl (fun h=>absurd h (by decide)) (fun _=>rfl)) rfl rfl ?_
    refine an_ ?_
    refine cF (av_ ⟨(),trivial,?_⟩)
    rw[if_neg hc1,show j=0 from hj1.resolve_left hc1]
    try rw[hS0]
    try first|rw[cQ_]|rw[cP_]
    refine SEnt.to2 [(1,4),(2,5),(3,100003),(4,7)] rfl rfl rfl au_r (fun hs=>au_f) (fun hs=>?_)
    ·repeat' (first|exact ap_|refine al_ rfl rfl rfl rfl ?_ ?_)
     all_goals (first|((try exact ae_ (CvL.clo hs aC_));(try exact ae_ (CvL.clo hs (be_ c1 c2)));(try exact ae_ (bK_ hs (Cv.sl rfl rfl rfl) (CvL.clo hs c1) (CvL.clo hs c2)));(try exact aH_ hs (aF_ _));(try exact ae_ (cC_ hs _)))|exact au_e)
   refine ac_ (q_z 7 ?_)
   refine cF (av_ ⟨(),trivial,?_⟩)
   have eo:(if c=1 then oddM K h else 1)=oddM K j:=by
    have:j=h:=by omega
    subst this
    rcases hj1 with e|e
    rw[if_pos e]
    rw[e];split <;> rfl
   rw[eo]
   try rw[hS0]
   try first|rw[cQ_]|rw[cP_]
   refine SEnt.to2 [(1,4),(2,5),(3,100003),(4,7)] rfl rfl rfl au_r (fun hs=>au_f) (fun hs=>?_)
   ·repeat' (first|exact ap_|refine al_ rfl rfl rfl rfl ?_ ?_)
    all_goals (first|((try exact ae_ (CvL.clo hs aC_));(try exact ae_ (CvL.clo hs (be_ c1 c2)));(try exact ae_ (bK_ hs (Cv.sl rfl rfl rfl) (CvL.clo hs c1) (CvL.clo hs c2)));(try exact aH_ hs (aF_ _));(try exact ae_ (cC_ hs _)))|exact au_e)
   rintro _ _
   refine aU_ (fun _:Unit=>S0 [(8,i64 h)] (evA c K)) (fun _=>True) ?_ ?_
   rw[hS0]
   try first|rw[cQ_]|rw[cP_]
   by_cases hc1:c=1
   refine q_z 2 ?_
   refine cF (ah_ ⟨(),trivial,?_⟩)
   rw[show(if c=1 then oddM K h else 1)=evA c K by unfold evA;rw[if_pos hc1,if_pos hc1,hh]]
   refine SEnt.to2 [(1,4),(2,5),(3,100003),(4,7)] rfl rfl rfl au_r (fun hs=>au_f) (fun hs=>?_)
   ·repeat' (first|exact ap_|refine al_ rfl rfl rfl rfl ?_ ?_)
    all_goals (first|((try exact ae_ (CvL.clo hs aC_));(try exact ae_ (CvL.clo hs (be_ c1 c2)));(try exact ae_ (bK_ hs (Cv.sl rfl rfl rfl) (CvL.clo hs c1) (CvL.clo hs c2)));(try exact aH_ hs (aF_ _));(try exact ae_ (cC_ hs _)))|exact au_e)
   refine q_z 2 ?_
   refine cT (r_m 9 ?_)
   refine c_s (fK) ?_
   refine c_s (fh) ?_
   refine c_s (fh) ?_
   refine c_s (fm) ?_
   refine c_s (fd) ?_
   refine a_z ?_
   refine⟨(),trivial,?_⟩
   rw[show evA c K=(((fcN K:Nat):Int):Rat) / ((((fcN h:Nat):Int):Rat) * (((fcN h:Nat):Int):Rat)) by unfold evA;rw[if_neg hc1,hh]]
   refine SEnt.to2 [(1,4),(2,5),(3,100003),(4,7)] rfl rfl rfl au_r (fun hs=>au_f) (fun hs=>?_)
   ·repeat' (first|exact ap_|refine al_ rfl rfl rfl rfl ?_ ?_)
    all_goals (first|((try exact ae_ (CvL.clo hs aC_));(try exact ae_ (CvL.clo hs (be_ c1 c2)));(try exact ae_ (bK_ hs (Cv.sl rfl rfl rfl) (CvL.clo hs c1) (CvL.clo hs c2)));(try exact aH_ hs (aF_ _));(try exact ae_ (cC_ hs _)))|exact au_e)
   rintro _ _
   have eD:=evD_A c K hp
   rw[←hh] at eD
   generalize evA c K=A at *
   try rw[hS0]
   try first|rw[cQ_]|rw[cP_]
   refine ac_ (r_z 1 ?_)
   have hb4:∀j,j≤h→qs (halfM A j)≤2200:=fun j hj=>by have:=kB_ A j;omega
   have hb6:∀j,j≤h→qs (halfM (halfM A h) j)≤2400:=fun j hj=>by
    have h1:=kB_ (halfM A h) j
    have h2:=hb4 h (Nat.le_refl h)
    omega
   have mh:∀q:Rat,qs q≤3000→FSpec Tryz.prog 118 [.agg (rC (rq q)),.agg (rC (rq (1/ 2)))] (.agg (rC (rq (q* (1/ 2))))):=fun q hq=>ee_ (rq q) (rq (1/ 2)) (bk_ _) (bk_ _) (by
    have h3:qs ((1:Rat) / 2)=2:=by decide+kernel
    show qs q+qs (1/ 2)≤_;omega)
   refine aB_ (fun _:Unit=>S0 [(8,i64 h)] (halfM A h)) (fun _=>True) ?_ ?_
   refine ag_ (ax_ (fun j:Nat=>S0 [(8,i64 h),(10,i64 ((j:Nat):Int))] (halfM A j)) (fun j=>h- j) (fun j=>j≤h) 0 (Nat.zero_le _) ?_ ?_)
   rw[hS0]
   try first|rw[cQ_]|rw[cP_]
   refine SEnt.to2 [(1,4),(2,5),(3,100003),(4,7)] rfl rfl rfl au_r (fun hs=>au_f) (fun hs=>?_)
   ·repeat' (first|exact ap_|refine al_ rfl rfl rfl rfl ?_ ?_)
    all_goals (first|((try exact ae_ (CvL.clo hs aC_));(try exact ae_ (CvL.clo hs (be_ c1 c2)));(try exact ae_ (bK_ hs (Cv.sl rfl rfl rfl) (CvL.clo hs c1) (CvL.clo hs c2)));(try exact aH_ hs (aF_ _));(try exact ae_ (cC_ hs _)))|exact au_e)
   rintro j hj
   try rw[hS0]
   try first|rw[cQ_]|rw[cP_]
   by_cases hlj:j< h
   have mj:=mh (halfM A j) (by have:=hb4 j hj;omega)
   refine ac_ (q_z 3 ?_)
   refine cT (ah_ (ac_ (ag_ (r_d hmix 4 ?_))))
   refine c_s (ih) ?_
   refine c_s (mj) ?_
   refine a_1 ?_
   refine an_ (n_k ?_)
   refine r_m 3 ?_
   refine a_z ?_
   refine⟨j+1,by omega,hlj,?_⟩
   try rw[hS0]
   try first|rw[cQ_]|rw[cP_]
   refine SEnt.to2 [(1,4),(2,5),(3,100003),(4,7)] rfl rfl rfl au_r (fun hs=>au_f) (fun hs=>?_)
   ·repeat' (first|exact ap_|refine al_ rfl rfl rfl rfl ?_ ?_)
    all_goals (first|((try exact ae_ (CvL.clo hs aC_));(try exact ae_ (CvL.clo hs (be_ c1 c2)));(try exact ae_ (bK_ hs (Cv.sl rfl rfl rfl) (CvL.clo hs c1) (CvL.clo hs c2)));(try exact aH_ hs (aF_ _));(try exact ae_ (cC_ hs _)))|exact au_e)
   have:j=h:=by omega
   subst this
   refine ac_ (q_z 3 ?_)
   refine cF (av_ ⟨(),trivial,?_⟩)
   try rw[hS0]
   try first|rw[cQ_]|rw[cP_]
   refine SEnt.to2 [(1,4),(2,5),(3,100003),(4,7)] rfl rfl rfl au_r (fun hs=>au_f) (fun hs=>?_)
   ·repeat' (first|exact ap_|refine al_ rfl rfl rfl rfl ?_ ?_)
    all_goals (first|((try exact ae_ (CvL.clo hs aC_));(try exact ae_ (CvL.clo hs (be_ c1 c2)));(try exact ae_ (bK_ hs (Cv.sl rfl rfl rfl) (CvL.clo hs c1) (CvL.clo hs c2)));(try exact aH_ hs (aF_ _));(try exact ae_ (cC_ hs _)))|exact au_e)
   rintro _ _
   try rw[hS0]
   try first|rw[cQ_]|rw[cP_]
   refine ac_ (r_z 1 ?_)
   refine aB_ (fun _:Unit=>S0 [(8,i64 h)] (if c=1 then halfM A h else halfM (halfM A h) h)) (fun _=>True) ?_ ?_
   refine ag_ (ax_ (fun j:Nat=>S0 [(8,i64 h),(11,i64 ((j:Nat):Int))] (halfM (halfM A h) j)) (fun j=>h- j) (fun j=>j≤h∧(1< c∨j=0)) 0 ⟨Nat.zero_le _,.inr rfl⟩ ?_ ?_)
   rw[hS0]
   try first|rw[cQ_]|rw[cP_]
   refine SEnt.to2 [(1,4),(2,5),(3,100003),(4,7)] rfl rfl rfl au_r (fun hs=>au_f) (fun hs=>?_)
   ·repeat' (first|exact ap_|refine al_ rfl rfl rfl rfl ?_ ?_)
    all_goals (first|((try exact ae_ (CvL.clo hs aC_));(try exact ae_ (CvL.clo hs (be_ c1 c2)));(try exact ae_ (bK_ hs (Cv.sl rfl rfl rfl) (CvL.clo hs c1) (CvL.clo hs c2)));(try exact aH_ hs (aF_ _));(try exact ae_ (cC_ hs _)))|exact au_e)
   rintro j ⟨hj,hj1⟩
   try rw[hS0]
   try first|rw[cQ_]|rw[cP_]
   by_cases hlj:j< h
   by_cases hc1:1< c
   have mj:=mh (halfM (halfM A h) j) (by have:=hb6 j hj;omega)
   refine ac_ (q_z 7 ?_)
   refine cT (ah_ (ac_ (ag_ (r_d hmix 4 ?_))))
   refine c_s (ih) ?_
   refine c_s (mj) ?_
   refine a_1 ?_
   refine an_ (n_k ?_)
   refine r_m 3 ?_
   refine a_z ?_
   refine⟨j+1,by omega,⟨hlj,.inl hc1⟩,?_⟩
   try rw[hS0]
   try first|rw[cQ_]|rw[cP_]
   refine SEnt.to2 [(1,4),(2,5),(3,100003),(4,7)] rfl rfl rfl au_r (fun hs=>au_f) (fun hs=>?_)
   ·repeat' (first|exact ap_|refine al_ rfl rfl rfl rfl ?_ ?_)
    all_goals (first|((try exact ae_ (CvL.clo hs aC_));(try exact ae_ (CvL.clo hs (be_ c1 c2)));(try exact ae_ (bK_ hs (Cv.sl rfl rfl rfl) (CvL.clo hs c1) (CvL.clo hs c2)));(try exact aH_ hs (aF_ _));(try exact ae_ (cC_ hs _)))|exact au_e)
   ·refine ac_ (s_r 7 ?_)
    refine o_0 (.move rfl) ?_
    refine o_0 (.move rfl) ?_
    refine o_0 (.bin rfl rfl (vT do_ (decide_eq_true (by omega)))) ?_
    refine o_0 (.move rfl) ?_
    first|refine ay_ rfl rfl rfl (.move rfl) rfl rfl ?_|refine br_ rfl rfl (by first|(simp[bh_];done)|exact nofun) rfl rfl ?_
    refine ay_ rfl rfl rfl (.bin rfl rfl (vF dG_ (decide_eq_false (by omega)))) rfl rfl ?_
    first|refine aw_ (.pick rfl (fun _=>rfl) (fun _=>rfl)) rfl rfl ?_|refine aw_ (.pick rfl (fun _=>rfl) (fun h=>absurd h (by decide))) rfl rfl ?_|refine aw_ (.pick rfl (fun h=>absurd h (by decide)) (fun _=>rfl)) rfl rfl ?_
    refine an_ ?_
    refine cF (av_ ⟨(),trivial,?_⟩)
    rw[if_pos (by omega),show j=0 from hj1.resolve_left hc1]
    try rw[hS0]
    try first|rw[cQ_]|rw[cP_]
    refine SEnt.to2 [(1,4),(2,5),(3,100003),(4,7)] rfl rfl rfl au_r (fun hs=>au_f) (fun hs=>?_)
    ·repeat' (first|exact ap_|refine al_ rfl rfl rfl rfl ?_ ?_)
     all_goals (first|((try exact ae_ (CvL.clo hs aC_));(try exact ae_ (CvL.clo hs (be_ c1 c2)));(try exact ae_ (bK_ hs (Cv.sl rfl rfl rfl) (CvL.clo hs c1) (CvL.clo hs c2)));(try exact aH_ hs (aF_ _));(try exact ae_ (cC_ hs _)))|exact au_e)
   refine ac_ (q_z 7 ?_)
   refine cF (av_ ⟨(),trivial,?_⟩)
   have eo:(if c=1 then halfM A h else halfM (halfM A h) h)=halfM (halfM A h) j:=by
    have:j=h:=by omega
    subst this
    rcases hj1 with e|e
    rw[if_neg (by omega)]
    subst e;split <;> rfl
   rw[eo]
   try rw[hS0]
   try first|rw[cQ_]|rw[cP_]
   refine SEnt.to2 [(1,4),(2,5),(3,100003),(4,7)] rfl rfl rfl au_r (fun hs=>au_f) (fun hs=>?_)
   ·repeat' (first|exact ap_|refine al_ rfl rfl rfl rfl ?_ ?_)
    all_goals (first|((try exact ae_ (CvL.clo hs aC_));(try exact ae_ (CvL.clo hs (be_ c1 c2)));(try exact ae_ (bK_ hs (Cv.sl rfl rfl rfl) (CvL.clo hs c1) (CvL.clo hs c2)));(try exact aH_ hs (aF_ _));(try exact ae_ (cC_ hs _)))|exact au_e)
   rintro _ _
   try rw[hS0]
   try first|rw[cQ_]|rw[cP_]
   by_cases hc3:c=3
   rw[if_neg (show¬c=1 by omega)]
   have iq:=cy_ ((h+1:Nat):Int) (by omega)
   have qq:=qi21 (n:=((h+1:Nat):Int)) (by omega)
   have dq:=iW_ (rq (halfM (halfM A h) h)) (rq (((h+1:Nat):Int):Rat)) (bk_ _) (bk_ _) (od_ (by omega)) (by
    have:=hb6 h (Nat.le_refl h)
    show qs (halfM (halfM A h) h)+qs (((h+1:Nat):Int):Rat)≤_;omega)
   refine q_z 2 ?_
   refine cT (r_d hmix 6 ?_)
   refine c_s (iq) ?_
   refine c_s (dq) ?_
   refine a_1 ?_
   refine an_ (n_k ?_)
   refine⟨(),trivial,?_⟩
   rw[show evD c K=halfM (halfM A h) h/ (((h+1:Nat):Int):Rat) by rw[eD,if_neg (show¬c=1 by omega),if_pos hc3]]
   try rw[hS0]
   try first|rw[cQ_]|rw[cP_]
   refine SEnt.to2 [(1,4),(2,5),(3,100003),(4,7)] rfl rfl rfl au_r (fun hs=>au_f) (fun hs=>?_)
   ·repeat' (first|exact ap_|refine al_ rfl rfl rfl rfl ?_ ?_)
    all_goals (first|((try exact ae_ (CvL.clo hs aC_));(try exact ae_ (CvL.clo hs (be_ c1 c2)));(try exact ae_ (bK_ hs (Cv.sl rfl rfl rfl) (CvL.clo hs c1) (CvL.clo hs c2)));(try exact aH_ hs (aF_ _));(try exact ae_ (cC_ hs _)))|exact au_e)
   refine q_z 2 ?_
   refine cF (ah_ ⟨(),trivial,?_⟩)
   rw[show evD c K=(if c=1 then halfM A h else halfM (halfM A h) h) by rw[eD,if_neg hc3]]
   try rw[hS0]
   try first|rw[cQ_]|rw[cP_]
   refine SEnt.to2 [(1,4),(2,5),(3,100003),(4,7)] rfl rfl rfl au_r (fun hs=>au_f) (fun hs=>?_)
   ·repeat' (first|exact ap_|refine al_ rfl rfl rfl rfl ?_ ?_)
    all_goals (first|((try exact ae_ (CvL.clo hs aC_));(try exact ae_ (CvL.clo hs (be_ c1 c2)));(try exact ae_ (bK_ hs (Cv.sl rfl rfl rfl) (CvL.clo hs c1) (CvL.clo hs c2)));(try exact aH_ hs (aF_ _));(try exact ae_ (cC_ hs _)))|exact au_e)
   refine s_r 3 ?_
   refine o_0 (.move rfl) ?_
   refine o_0 (.bin rfl rfl (o9_ (by omega))) ?_
   refine o_0 (.bin rfl rfl (vF a9_ (decide_eq_false (by omega)))) ?_
   refine an_ ?_
   refine cF (ah_ ⟨(),trivial,?_⟩)
   rw[show evD c K=0 by unfold evD;rw[if_neg hp]]
   try rw[hS0]
   try first|rw[cQ_]|rw[cP_]
   refine SEnt.to2 [(1,4),(2,5),(3,100003),(4,7)] rfl rfl rfl au_r (fun hs=>au_f) (fun hs=>?_)
   ·repeat' (first|exact ap_|refine al_ rfl rfl rfl rfl ?_ ?_)
    all_goals (first|((try exact ae_ (CvL.clo hs aC_));(try exact ae_ (CvL.clo hs (be_ c1 c2)));(try exact ae_ (bK_ hs (Cv.sl rfl rfl rfl) (CvL.clo hs c1) (CvL.clo hs c2)));(try exact aH_ hs (aF_ _));(try exact ae_ (cC_ hs _)))|exact au_e)
   ·rintro _ _
    try rw[hS0]
    generalize evD c=f at *
    try first|rw[cQ_]|rw[cP_]
    refine r_m 7 ?_
    refine a_4 ?_
    first|refine AR.op2 (.append_l rfl rfl rfl te_65.h rfl rfl rfl rfl rfl d_o (by first|exact c3_ _|exact c2_ _|exact cO_ _|exact c5_ _|exact cS_ _|assumption|rfl|simp) (by first|rfl|exact c3_ _|exact c2_ _|exact cO_ _|exact c5_ _|exact cS_ _|simp) rfl (.lsl rfl (nle rfl)) tz_42.h rfl tb_42.h d_o (by first|(simp[maxLen];done)|(simp[maxLen];omega))) rfl rfl ?_|refine AR.op1 (.append_e rfl rfl rfl te_65.h rfl rfl rfl (.lsl rfl (nle rfl)) (by first|assumption|(simp;done)) tz_42.h rfl tb_42.h d_o (by first|(simp[maxLen];done)|(simp[maxLen];omega))) rfl rfl ?_
    refine a_z ?_
    refine r_m 3 ?_
    refine a_z ?_
    subst hK
    first|refine⟨k+1+1,by omega,by omega,?_⟩|refine⟨0+1,by omega,by omega,?_⟩
    rw[evHS.eq_2]
    refine ar_ [(1,4),(2,5),(3,83)] rfl rfl rfl ?_ (fun hs=>au_f) (fun hs=>?_)
    ·repeat' (first|exact ShrL.nil|refine ShrL.cons rfl rfl rfl rfl (by first|(simp)|rfl|(simp;done)|(simp <;> omega)) ?_)
    ·repeat' (first|exact ap_|refine al_ rfl rfl rfl rfl ?_ ?_)
     all_goals (first|((try exact ae_ (CvL.clo hs aC_));(try exact ae_ (bK_ hs (Cv.sl rfl rfl rfl) (CvL.clo hs c1) (CvL.clo hs c2)));(try exact aH_ hs (aF_ (rP [f 0])));(try exact aD_ hs eK (aF_ _)))|exact au_e)
 have hge:k=n+1:=by omega
 subst hge
 rw[evHS.eq_2]
 refine ac_ (q_z 3 ?_)
 refine cF (av_ ⟨(),trivial,?_⟩)
 refine ar_ [(1,4),(2,5)] rfl rfl rfl au_r (fun hs=>au_f) (fun hs=>?_)
 ·repeat' (first|exact ap_|refine al_ rfl rfl rfl rfl ?_ ?_)
  all_goals (first|((try exact ae_ (CvL.clo hs aC_));(try exact ae_ (bK_ hs (jr_ (L:=rP (sqL (evD c) (n+1))) hs rfl (aM_ rfl) rfl (by simp[rP])) (hcv _ _ _ hs).1 (hcv _ _ _ hs).2)))|exact au_e)
 rintro _ _
 refine r_z 2 ?_
 exact aj_ (c_e (aq_ a0_))
end Go.Proofs.YtdjfjpeoddmamaaGreatDoor
namespace Go.Proofs.YtdjfjpeoddmamaaGreatDoor
open Go.Abs Go.Deep Go.RowKit
set_option maxRecDepth 20000
theorem ess_of{M:Nat→Prop}{β:Nat→Option (Nat×Nat)}{w:World}{b s off:Nat}{f:Nat→List AV}:∀(n j:Nat),(∀i,i< j+n→(f i).length=s∧RVcs M β w b (f i) (off+i* s))→RVess M β w b s ((List.range' j n).map f) (off+j* s)
 |0,_,_=>trivial
 |n+1,j,h=>by
  rw[List.range'_succ,List.map_cons]
  refine⟨(h j (by omega)).1,(h j (by omega)).2,?_⟩
  have:=ess_of (M:=M) (β:=β) (w:=w) (b:=b) (s:=s) (off:=off) n (j+1) (fun i hi=>h i (by omega))
  rwa[Nat.add_mul,Nat.one_mul,←Nat.add_assoc] at this
theorem lm_{w:World}{b o:Nat}{v:Value}(h:w.cell? ⟨b,o,none⟩=some v):∃N,aN_ w b=some N:=by
 unfold World.cell? at h
 unfold aN_
 split at h
 ·rename_i c _ _ e;rw[show w.heap[b]?=_ from e];exact⟨c.size,rfl⟩
 cases h
theorem tyS:(Tryz.prog).underlying 26=some (.slice 23):=by kernel_rfl
theorem tyN:∃f0 f1 f2,(Tryz.prog).underlying 23=some (.struct #[f0,f1,f2])∧f0.type=2∧f0.offset=0∧f1.type=2∧f1.offset=1∧f2.type=5∧f2.offset=2:=
 ⟨{name:= "N",type:=2,offset:=0,embedded:=false,tag:= "",pkgPath:= "",byteOffset:=0},{name:= "D",type:=2,offset:=1,embedded:=false,tag:= "",pkgPath:= "",byteOffset:=8},{name:= "Pow",type:=5,offset:=2,embedded:=false,tag:= "",pkgPath:= "",byteOffset:=16},by kernel_rfl,rfl,rfl,rfl,rfl,rfl,rfl⟩
theorem tyc82:(Tryz.prog).cellsOf 23=3:=by kernel_rfl
theorem tyc2:(Tryz.prog).cellsOf 2=1:=by kernel_rfl
theorem tyc5:(Tryz.prog).cellsOf 5=1:=by kernel_rfl
theorem tyu2:(Tryz.prog).underlying 2=some (.int .i64):=by kernel_rfl
theorem tyu5:(Tryz.prog).underlying 5=some (.int .u8):=by kernel_rfl
theorem lG_{H:Type}{enc:TypeId×Value→H}{W:World}{base n:Nat}{spare:Nat→Bool}{held:Bool}{cs:List Value}{x:DataW H×List MemPlace}(h:DataW.trod enc Tryz.prog W base spare held n 23 cs=some x):
    ∃r:NRow,i64r r.1∧i64r r.2.1∧r.2.2≤255∧cs=[.int .i64 r.1,.int .i64 r.2.1,.int .u8 r.2.2]:=by
 obtain⟨f0,f1,f2,hu,h1,h2,h3,h4,h5,h6⟩:=tyN
 obtain⟨y0,y1,y2,m,_,hl,g0,g1,g2⟩:=trod_struct3 hu h
 rw[h1,h2,tyc2] at g0
 rw[h3,h4,tyc2] at g1
 rw[h5,h6,tyc5] at g2
 rw[tyc82] at hl
 obtain⟨n0,e0,_,w0⟩:=DataW.trod_int tyu2 g0
 obtain⟨n1,e1,_,w1⟩:=DataW.trod_int tyu2 g1
 obtain⟨n2,e2,_,w2⟩:=DataW.trod_int tyu5 g2
 match cs,hl with
 |[c0,c1,c2],_=>
  simp at e0 e1 e2
  subst e0;subst e1;subst e2
  have b2:=bounds_u8 w2
  refine⟨(n0,n1,n2.toNat),bounds_i64 w0,bounds_i64 w1,?_,?_⟩
  show n2.toNat≤255;omega
  show _=[_,_,Value.int .u8 ((n2.toNat:Nat):Int)]
  rw[Int.toNat_of_nonneg b2.1]
theorem rows_of{H:Type}{enc:TypeId×Value→H}{W:World}{a:Option Addr}{len cap:Nat}{d:DataW H}{ps:List MemPlace}(h:DataW.Trod enc Tryz.prog W 0 (fun _=>true) true 26 (.slice a len cap) d ps):
    ∃l:List NRow,okR l∧RV (fun _=>False) (fun _=>none) W (.arr (nR l)) (.slice a len cap):=by
 obtain⟨fuel,hf⟩:=h
 rcases open_slice tyS hf with⟨hcs,_⟩|⟨x,len',cap',m,n,D,Pl,hcs,_,hl,hm,hmm,_,hx⟩
 simp[Value.cells] at hcs
 obtain⟨rfl,rfl,rfl⟩:=hcs
 exact⟨[],(fun r hr=>by cases hr),none,0,rfl,Nat.le_refl _,by decide,.inl rfl⟩
 simp[Value.cells] at hcs
 obtain⟨rfl,rfl,rfl⟩:=hcs
 simp only[if_true] at hmm
 have hmc:m=cap:=hmm
 rw[hmc] at hx
 rw[tyc82] at hx
 have hx':∀i,i< len→∃r:NRow,(i64r r.1∧i64r r.2.1∧r.2.2≤255)∧W.cells? 0 (x.add (i* 3)) 3=some [.int .i64 r.1,.int .i64 r.2.1,.int .u8 r.2.2]:=fun i hi=>by
  obtain⟨cs',g1,g2⟩:=hx i (by omega)
  obtain⟨r,r1,r2,r3,e⟩:=lG_ g2
  exact⟨r,⟨r1,r2,r3⟩,by rw[g1,e]⟩
 obtain⟨R,hR⟩:=choose_lt (α:=NRow) hx'
 refine⟨(List.range len).map R,?_,some x,cap,by simp[nR],by simpa[nR] using hl,hm,?_⟩
 intro r hr
 obtain⟨i,hi,rfl⟩:=List.mem_map.1 hr
 exact(hR i (List.mem_range.1 hi)).1
 by_cases h0:len=0
 subst h0;exact .inl rfl
 right
 have c:∀i,i< len→∀j (v:Value),[.int .i64 (R i).1,.int .i64 (R i).2.1,.int .u8 (R i).2.2][j]?=some v→W.cell? (x.add (i* 3+j))=some v:=fun i hi j v hv=>by
  have hj:j< 3:=by
   have:=(List.getElem?_eq_some_iff.1 hv).1
   simpa using this
  have:=(World.cells?_some (hR i hi).2).2.2 j hj
  rw[hv,Go.Deep.add_add] at this
  exact this
 have c0:=c 0 (by omega) 0 _ rfl
 obtain⟨b,off,spot⟩:=x
 have hspot:spot=none:=by simpa[Addr.add] using World.cell?_spot c0
 subst hspot
 have hadd:∀k,Addr.add ⟨b,off,none⟩ k=⟨b,off+k,none⟩:=fun k=>by
  unfold Addr.add
  by_cases hk:k=0
  simp[hk]
  simp[hk]
 refine⟨b,off,3,rfl,lm_ (by rw[hadd] at c0;exact c0),(fun h=>h),?_⟩
 have:=ess_of (M:=fun _=>False) (β:=fun _=>none) (w:=W) (b:=b) (s:=3) (off:=off) (f:=fun i=>nuC (R i).1 (R i).2.1 (R i).2.2) len 0 (fun i hi=>⟨rfl,?_⟩)
 rw[Nat.zero_mul,Nat.add_zero,←List.range_eq_range'] at this
 rw[nR,List.map_map]
 exact this
 have hi':i< len:=by omega
 refine⟨⟨_,?_,rfl⟩,⟨_,?_,rfl⟩,⟨_,?_,rfl⟩,trivial⟩
 have:=c i hi' 0 _ rfl;rw[hadd] at this;exact this
 have:=c i hi' 1 _ rfl;rw[hadd] at this;rw[Nat.add_assoc];exact this
 have:=c i hi' 2 _ rfl;rw[hadd] at this;rw[Nat.add_assoc,Nat.add_assoc];exact this
end Go.Proofs.YtdjfjpeoddmamaaGreatDoor
namespace Go.Proofs.YtdjfjpeoddmamaaGreatDoor
open Go.Abs
set_option maxRecDepth 20000
def okW(m:List Rat)(l r:Bool)(a b:Rat):Prop:=1≤m.length∧m.length≤64∧(l=true→r=true→a< b)
instance (m:List Rat) (l r:Bool) (a b:Rat):Decidable (okW m l r a b):=inferInstanceAs (Decidable (_∧_∧_))
theorem sd_{a b:Rat}(h:¬a< b):(0:Int)≤cmpQ a b:=by
 unfold cmpQ
 rw[if_neg h]
 split <;> decide
theorem cmp_lt{a b:Rat}(h:a< b):cmpQ a b= -1:=by unfold cmpQ;rw[if_pos h]
theorem fg_(m:List Rat)(l r:Bool)(a b:Rat)(h:¬okW m l r a b)(hml:m.length≤1000000)(ha:sm a)(hb:sm b):FSpec Tryz.prog 31 [.agg (wC m l r (qC a) (qC b))] (i64 2):=by
 have ho:=bn_ (m.length:Nat) 1 64
 have hWc:=aG_ (m:=m) (l:=l) (r:=r) (.inr ⟨a,rfl⟩) (.inr ⟨b,rfl⟩)
 have hcm:=j1_ a b ha hb
 refine f_n Tryz.func31 ?_ ?_
 exact aa_ (aq_ hWc) ab_
 refine r_z 2 ?_
 by_cases h1:1≤m.length∧m.length≤64
 rw[decide_eq_false (by omega)] at ho
 have hl:l=true:=by
  cases l
  exact absurd ⟨h1.1,h1.2,fun e=>by cases e⟩ h
  rfl
 have hr:r=true:=by
  cases r
  exact absurd ⟨h1.1,h1.2,fun _ e=>by cases e⟩ h
  rfl
 have hlt:¬a< b:=fun e=>h ⟨h1.1,h1.2,fun _ _=>e⟩
 subst hl;subst hr
 refine ac_ (r_c 20 (ho) ?_)
 refine c_s (hcm) ?_
 refine ay_ rfl rfl rfl (.bin rfl rfl (vT cN_ (decide_eq_true (sd_ hlt)))) rfl rfl ?_
 refine a_z ?_
 refine cT (r_z 1 ?_)
 exact aj_ (t_e (ad_ _))
 ·rw[decide_eq_true (by omega)] at ho
  cases l with
  |false=>
   refine ac_ (r_c 20 (ho) ?_)
   refine o_0 (.move rfl) ?_
   first|refine ay_ rfl rfl rfl (.fieldAddr_l rfl tf_51_1.h (by decide)) rfl rfl ?_|refine ay_ rfl rfl rfl (.fieldAddr_a rfl tf_51_1.h (by decide)) rfl rfl ?_|refine br_ rfl rfl (by first|(simp[bh_];done)|exact nofun) rfl rfl ?_
   first|refine ay_ rfl rfl rfl (.load_l1 rfl rfl rfl tg_4.h rfl) rfl rfl ?_|refine ay_ rfl rfl rfl (.load_a1 rfl rfl tg_4.h rfl) rfl rfl ?_|refine br_ rfl rfl (by first|(simp[bh_];done)|exact nofun) rfl rfl ?_
   first|refine ay_ rfl rfl rfl (.move rfl) rfl rfl ?_|refine br_ rfl rfl (by first|(simp[bh_];done)|exact nofun) rfl rfl ?_
   first|refine ay_ rfl rfl rfl (.fieldAddr_l rfl tf_51_2.h (by decide)) rfl rfl ?_|refine ay_ rfl rfl rfl (.fieldAddr_a rfl tf_51_2.h (by decide)) rfl rfl ?_|refine br_ rfl rfl (by first|(simp[bh_];done)|exact nofun) rfl rfl ?_
   first|refine ay_ rfl rfl rfl (.load_l1 rfl rfl rfl tg_4.h rfl) rfl rfl ?_|refine ay_ rfl rfl rfl (.load_a1 rfl rfl tg_4.h rfl) rfl rfl ?_|refine br_ rfl rfl (by first|(simp[bh_];done)|exact nofun) rfl rfl ?_
   first|refine ay_ rfl rfl rfl (.pick rfl (fun _=>rfl) (fun _=>rfl)) rfl rfl ?_|refine ay_ rfl rfl rfl (.pick rfl (fun _=>rfl) (fun h=>absurd h (by decide))) rfl rfl ?_|refine ay_ rfl rfl rfl (.pick rfl (fun h=>absurd h (by decide)) (fun _=>rfl)) rfl rfl ?_|refine br_ rfl rfl (by first|(simp[bh_];done)|exact nofun) rfl rfl ?_
   first|refine ay_ rfl rfl rfl (.move rfl) rfl rfl ?_|refine br_ rfl rfl (by first|(simp[bh_];done)|exact nofun) rfl rfl ?_
   first|refine ay_ rfl rfl rfl (.fieldAddr_l rfl tf_51_3.h (by decide)) rfl rfl ?_|refine ay_ rfl rfl rfl (.fieldAddr_a rfl tf_51_3.h (by decide)) rfl rfl ?_|refine br_ rfl rfl (by first|(simp[bh_];done)|exact nofun) rfl rfl ?_
   first|refine ay_ rfl rfl rfl (.load_l rfl rfl rfl tg_35.h ts_35.h (nle rfl)) rfl rfl ?_|refine ay_ rfl rfl rfl (.load_a rfl rfl tg_35.h ts_35.h (nle rfl)) rfl rfl ?_|refine br_ rfl rfl (by first|(simp[bh_];done)|exact nofun) rfl rfl ?_
   first|refine ay_ rfl rfl rfl (.fieldAddr_l rfl tf_51_4.h (by decide)) rfl rfl ?_|refine ay_ rfl rfl rfl (.fieldAddr_a rfl tf_51_4.h (by decide)) rfl rfl ?_|refine br_ rfl rfl (by first|(simp[bh_];done)|exact nofun) rfl rfl ?_
   first|refine ay_ rfl rfl rfl (.load_l rfl rfl rfl tg_35.h ts_35.h (nle rfl)) rfl rfl ?_|refine ay_ rfl rfl rfl (.load_a rfl rfl tg_35.h ts_35.h (nle rfl)) rfl rfl ?_|refine br_ rfl rfl (by first|(simp[bh_];done)|exact nofun) rfl rfl ?_
   first|refine br_ rfl rfl (by first|(simp[bh_];done)|exact nofun) rfl rfl ?_
   first|refine ay_ rfl rfl rfl (.bin rfl rfl cN_) rfl rfl ?_|refine br_ rfl rfl (by first|(simp[bh_];done)|exact nofun) rfl rfl ?_
   first|refine ay_ rfl rfl rfl (.pick rfl (fun _=>rfl) (fun _=>rfl)) rfl rfl ?_|refine ay_ rfl rfl rfl (.pick rfl (fun _=>rfl) (fun h=>absurd h (by decide))) rfl rfl ?_|refine ay_ rfl rfl rfl (.pick rfl (fun h=>absurd h (by decide)) (fun _=>rfl)) rfl rfl ?_|refine br_ rfl rfl (by first|(simp[bh_];done)|exact nofun) rfl rfl ?_
   first|refine aw_ (.pick rfl (fun _=>rfl) (fun _=>rfl)) rfl rfl ?_|refine aw_ (.pick rfl (fun _=>rfl) (fun h=>absurd h (by decide))) rfl rfl ?_|refine aw_ (.pick rfl (fun h=>absurd h (by decide)) (fun _=>rfl)) rfl rfl ?_
   refine an_ ?_
   refine cT (r_z 1 ?_)
   exact aj_ (t_e (ad_ _))
  |true=>
   refine ac_ (r_c 20 (ho) ?_)
   refine o_0 (.move rfl) ?_
   first|refine ay_ rfl rfl rfl (.fieldAddr_l rfl tf_51_1.h (by decide)) rfl rfl ?_|refine ay_ rfl rfl rfl (.fieldAddr_a rfl tf_51_1.h (by decide)) rfl rfl ?_|refine br_ rfl rfl (by first|(simp[bh_];done)|exact nofun) rfl rfl ?_
   first|refine ay_ rfl rfl rfl (.load_l1 rfl rfl rfl tg_4.h rfl) rfl rfl ?_|refine ay_ rfl rfl rfl (.load_a1 rfl rfl tg_4.h rfl) rfl rfl ?_|refine br_ rfl rfl (by first|(simp[bh_];done)|exact nofun) rfl rfl ?_
   first|refine ay_ rfl rfl rfl (.move rfl) rfl rfl ?_|refine br_ rfl rfl (by first|(simp[bh_];done)|exact nofun) rfl rfl ?_
   first|refine ay_ rfl rfl rfl (.fieldAddr_l rfl tf_51_2.h (by decide)) rfl rfl ?_|refine ay_ rfl rfl rfl (.fieldAddr_a rfl tf_51_2.h (by decide)) rfl rfl ?_|refine br_ rfl rfl (by first|(simp[bh_];done)|exact nofun) rfl rfl ?_
   first|refine ay_ rfl rfl rfl (.load_l1 rfl rfl rfl tg_4.h rfl) rfl rfl ?_|refine ay_ rfl rfl rfl (.load_a1 rfl rfl tg_4.h rfl) rfl rfl ?_|refine br_ rfl rfl (by first|(simp[bh_];done)|exact nofun) rfl rfl ?_
   first|refine ay_ rfl rfl rfl (.pick rfl (fun _=>rfl) (fun _=>rfl)) rfl rfl ?_|refine ay_ rfl rfl rfl (.pick rfl (fun _=>rfl) (fun h=>absurd h (by decide))) rfl rfl ?_|refine ay_ rfl rfl rfl (.pick rfl (fun h=>absurd h (by decide)) (fun _=>rfl)) rfl rfl ?_|refine br_ rfl rfl (by first|(simp[bh_];done)|exact nofun) rfl rfl ?_
   first|refine ay_ rfl rfl rfl (.move rfl) rfl rfl ?_|refine br_ rfl rfl (by first|(simp[bh_];done)|exact nofun) rfl rfl ?_
   first|refine ay_ rfl rfl rfl (.fieldAddr_l rfl tf_51_3.h (by decide)) rfl rfl ?_|refine ay_ rfl rfl rfl (.fieldAddr_a rfl tf_51_3.h (by decide)) rfl rfl ?_|refine br_ rfl rfl (by first|(simp[bh_];done)|exact nofun) rfl rfl ?_
   first|refine ay_ rfl rfl rfl (.load_l rfl rfl rfl tg_35.h ts_35.h (nle rfl)) rfl rfl ?_|refine ay_ rfl rfl rfl (.load_a rfl rfl tg_35.h ts_35.h (nle rfl)) rfl rfl ?_|refine br_ rfl rfl (by first|(simp[bh_];done)|exact nofun) rfl rfl ?_
   first|refine ay_ rfl rfl rfl (.fieldAddr_l rfl tf_51_4.h (by decide)) rfl rfl ?_|refine ay_ rfl rfl rfl (.fieldAddr_a rfl tf_51_4.h (by decide)) rfl rfl ?_|refine br_ rfl rfl (by first|(simp[bh_];done)|exact nofun) rfl rfl ?_
   first|refine ay_ rfl rfl rfl (.load_l rfl rfl rfl tg_35.h ts_35.h (nle rfl)) rfl rfl ?_|refine ay_ rfl rfl rfl (.load_a rfl rfl tg_35.h ts_35.h (nle rfl)) rfl rfl ?_|refine br_ rfl rfl (by first|(simp[bh_];done)|exact nofun) rfl rfl ?_
   first|refine br_ rfl rfl (by first|(simp[bh_];done)|exact nofun) rfl rfl ?_
   first|refine ay_ rfl rfl rfl (.bin rfl rfl cN_) rfl rfl ?_|refine br_ rfl rfl (by first|(simp[bh_];done)|exact nofun) rfl rfl ?_
   first|refine ay_ rfl rfl rfl (.pick rfl (fun _=>rfl) (fun _=>rfl)) rfl rfl ?_|refine ay_ rfl rfl rfl (.pick rfl (fun _=>rfl) (fun h=>absurd h (by decide))) rfl rfl ?_|refine ay_ rfl rfl rfl (.pick rfl (fun h=>absurd h (by decide)) (fun _=>rfl)) rfl rfl ?_|refine br_ rfl rfl (by first|(simp[bh_];done)|exact nofun) rfl rfl ?_
   first|refine aw_ (.pick rfl (fun _=>rfl) (fun _=>rfl)) rfl rfl ?_|refine aw_ (.pick rfl (fun _=>rfl) (fun h=>absurd h (by decide))) rfl rfl ?_|refine aw_ (.pick rfl (fun h=>absurd h (by decide)) (fun _=>rfl)) rfl rfl ?_
   refine an_ ?_
   refine cT (r_z 1 ?_)
   exact aj_ (t_e (ad_ _))
theorem rs_(m:List Rat)(l r:Bool)(x y:RQ)(hml:m.length≤1000000)(hx:rok x)(hy:rok y)(hq:qs x.1+qs y.1≤1099511627776):FSpec Tryz.prog 30 [.agg (rwC m l r x y)] (bln (decide (okW m l r x.1 y.1))):=by
 have hcm:=rv_ x y hx hy hq
 have hlen:(rP m).length=m.length:=by simp[rP]
 refine f_n Tryz.func30 ?_ ?_
 exact aa_ (aq_ a0_) ab_
 refine r_z 2 ?_
 by_cases h1:l=true∧r=true∧¬x.1< y.1
 obtain⟨rfl,rfl,hlt⟩:=h1
 rw[decide_eq_false (fun h:okW m true true x.1 y.1=>hlt (h.2.2 rfl rfl))]
 refine ac_ (r_c 14 (hcm) ?_)
 refine ay_ rfl rfl rfl (.bin rfl rfl (vT cN_ (decide_eq_true (sd_ hlt)))) rfl rfl ?_
 refine a_z ?_
 refine cT (r_z 1 ?_)
 exact aj_ (t_e (ad_ _))
 have hsh:l=true→r=true→x.1< y.1:=fun e1 e2=>Classical.byContradiction fun e3=>h1 ⟨e1,e2,e3⟩
 refine aU_ (fun _:Unit=>⟨[(1,.lptr 1 0 0)],[(1,some ⟨77,11,[rwC m l r x y]⟩)],2,27⟩) (fun _=>True) ?_ ?_
 cases l with
 |false=>
  refine r_z 14 ?_
  refine cF (ah_ ⟨(),trivial,?_⟩)
  exact s_f [(1,1)]
 |true=>
  cases r with
  |false=>
   refine r_z 14 ?_
   refine cF (ah_ ⟨(),trivial,?_⟩)
   exact s_f [(1,1)]
  |true=>
   rw[cmp_lt (hsh rfl rfl)] at hcm
   refine r_c 14 (hcm) ?_
   refine ay_ rfl rfl rfl (.bin rfl rfl (vF cN_ (rfl))) rfl rfl ?_
   refine a_z ?_
   refine cF (ah_ ⟨(),trivial,?_⟩)
   exact s_f [(1,1)]
 rintro _ _
 by_cases h2:1≤m.length
 by_cases h3:m.length≤64
 rw[decide_eq_true (show okW m l r x.1 y.1 from⟨h2,h3,hsh⟩)]
 refine q_z 11 ?_
 exact aj_ (t_e (ad_ _))
 rw[decide_eq_false (fun h:okW m l r x.1 y.1=>h3 h.2.1)]
 refine q_z 11 ?_
 exact aj_ (t_e (ad_ _))
 rw[decide_eq_false (fun h:okW m l r x.1 y.1=>h2 h.1)]
 refine q_z 11 ?_
 exact aj_ (t_e (ad_ _))
def rofS(T:List Rat)(W:List AV):Nat×Rat→AState
 |(i,o)=>⟨[(1,.arr (rE (rP T))),(2,.aptr [W] 0 0),(4,.lptr 1 0 0),(5,.lptr 2 0 0),(6,i64 i)],[(1,some ⟨42,4,[zR4]⟩),(2,some ⟨42,4,[rC (rq o)]⟩)],3,29⟩
theorem fs_rOfP(p m:List Rat)(l r:Bool)(x y:RQ)(s t:Nat)(hp:bdL p s)(hm:bdL m t)(hs:1≤s)(ht:1≤t)(hpl:p.length≤1000000)(hlen:(trimQ p).length≤m.length)(hlim:(p.length+2) * (s+t+1)≤137438953472):
    FSpec Tryz.prog 34 [.agg (rwC m l r x y),.arr (rE (rP p))] (.agg (rC (rq (ofP m p)))):=by
 have h0:FSpec Tryz.prog 112 [i64 0] (.agg (rC (rq 0))):=cy_ 0 (by decide)
 have htr:=fB_ (rP p) (by simp[rP];omega)
 rw[ge_] at htr
 obtain⟨T,hT⟩:∃T,T=trimQ p:=⟨_,rfl⟩
 have htl:=a2_ p
 have hTb:bdL T s:=fun q hq=>hp q (bl_ (by rw[←hT];exact hq))
 show FSpec _ _ _ (.agg (rC (rq (ofQ (trimQ p) m (trimQ p).length))))
 rw[←hT] at htl hlen htr⊢
 have hTl:(rP T).length=T.length:=by simp[rP]
 obtain⟨W,hW⟩:∃W,W=rwC m l r x y:=⟨_,rfl⟩
 refine f_n Tryz.func34 ?_ ?_
 exact aa_ (aq_ a0_) (aa_ (a1_ _) ab_)
 refine r_z 2 ?_
 refine r_c 3 (htr) ?_
 refine a_z ?_
 refine r_c 3 (h0) ?_
 refine a_z ?_
 refine ac_ (r_z 1 ?_)
 refine aB_ (fun _:Unit=>⟨[(4,.lptr 1 0 0),(5,.lptr 2 0 0)],[(1,some ⟨42,4,[zR4]⟩),(2,some ⟨42,4,[rC (rq (ofQ T m T.length))]⟩)],3,29⟩) (fun _=>True) ?_ ?_
 refine ag_ (ax_ (rofS T (rwC m l r x y)) (fun z=>T.length- z.1) (fun z=>z.1≤T.length∧z.2=ofQ T m z.1) (0,0) ⟨Nat.zero_le _,rfl⟩ ?_ ?_)
 simp only[rofS.eq_1]
 refine ar_ [(1,4),(2,5)] rfl rfl rfl au_r (fun hs=>?_) (fun hs=>?_)
 ·repeat' (first|exact aA_|refine au_ rfl ?_ ?_)
  all_goals (first|(exact Cv.boxp hs rfl (aM_ rfl) rfl a0_)|exact au_c)
 ·repeat' (first|exact ap_|refine al_ rfl rfl rfl rfl ?_ ?_)
  all_goals (first|exact au_e|(refine ae_ ?_;repeat' (first|exact ao_|refine af_ ?_ ?_)))
  all_goals (first|(exact Cv.boxp hs rfl (aM_ rfl) rfl a0_)|exact au_c)
 rintro⟨i,o⟩ ⟨hi,ho⟩
 simp only at hi ho
 rw[rofS.eq_1]
 by_cases hlt:i< T.length
 refine ac_ (q_z 4 ?_)
 refine cT (ah_ ?_)
 have hgt:(rE (rP T))[((i:Nat):Int).toNat]?=some (rC (rq (coP T i))):=eP_ (by simp[rP,bd_ hlt])
 have hgm:(rE (rP m))[((i:Nat):Int).toNat]?=some (rC (rq (coP m i))):=eP_ (by simp[rP,bd_ (show i< m.length by omega)])
 have hc:=bE_ hTb hs i
 have hd:=bE_ hm ht i
 have hq:=lD_ hTb hm hs ht i
 rw[←ho] at hq
 have e1:i* (s+t+1)≤(p.length+1) * (s+t+1):=Nat.mul_le_mul_right _ (by omega)
 have e2:(p.length+2) * (s+t+1)=(p.length+1) * (s+t+1)+(s+t+1):=Nat.succ_mul _ _
 have hmu:=ee_ (rq (coP T i)) (rq (coP m i)) (bk_ _) (bk_ _) (by show qs (coP T i)+qs (coP m i)≤_;omega)
 have hqm:=bZ_ (coP T i) (coP m i)
 have had:=f4_ (rq o) (rq (coP T i* coP m i)) (bk_ _) (bk_ _) (by show qs o+qs (coP T i* coP m i)≤_;omega)
 refine ac_ (ag_ (r_d hmix 13 ?_))
 refine a_3 ?_
 refine i_x hgt ?_
 refine l_x hgt ?_
 refine a_3 ?_
 refine i_x hgm ?_
 refine l_x hgm ?_
 refine c_s (hmu) ?_
 refine c_s (had) ?_
 refine a_1 ?_
 refine an_ (n_k ?_)
 refine r_m 3 ?_
 refine a_z ?_
 refine⟨(i+1,o+coP T i* coP m i),by simp only;omega,⟨hlt,by simp only;rw[ofQ,←ho]⟩,?_⟩
 simp only[rofS.eq_1]
 refine ar_ [(1,4),(2,5)] rfl rfl rfl au_r (fun hs=>?_) (fun hs=>?_)
 ·repeat' (first|exact aA_|refine au_ rfl ?_ ?_)
  all_goals (first|(exact ak_ hs (ai_ a0_))|exact au_c)
 ·repeat' (first|exact ap_|refine al_ rfl rfl rfl rfl ?_ ?_)
  all_goals (first|exact au_e|(refine ae_ ?_;repeat' (first|exact ao_|refine af_ ?_ ?_)))
  all_goals (first|(exact ak_ hs (ai_ a0_))|exact au_c)
 have hge:i=T.length:=by omega
 subst hge
 refine ac_ (q_z 4 ?_)
 refine cF (av_ ⟨(),trivial,?_⟩)
 rw[ho]
 exact s_e [(1,4),(2,5)]
 rintro _ _
 refine r_z 2 ?_
 exact aj_ (c_e (bb_ _))
theorem fC_(p q:List Rat)(o:okDiv p q)(h0:trimQ q≠[]):FSpec Tryz.prog 227 [.arr (pE p),.arr (pE q)] (.tup [.arr (pE (divP p q).1),.arr (pE (divP p q).2)]):=
 fe_ p q (mxL p) (mxL q) (ce_ p) (ce_ q) (bP_ p) (bP_ q) o.1 h0 o.2.1 o.2.2
def bzS(p:List Rat)(q:List Rat):List Rat×List Rat×List Rat×List Rat→AState
 |(g,nx,a,c)=>⟨[(0,.arr (pE p)),(1,.arr (pE q)),(4,.arr (pE g)),(5,.arr (pE a)),(7,.arr (pE nx)),(8,.arr (pE c))],[],1,83⟩
theorem rQ_(f:Nat)(p q g a:List Rat)(hq:trimQ q≠[])(hql:q.length≤1099511627776)(hz:bzL f p q (dY_ ((1:Int):Rat)) []=some (g,a))(ho:okBz p q g a):
    FSpec Tryz.prog 236 [.arr (pE p),.arr (pE q)] (.tup [.arr (pE (bzG g)),.arr (pE (bzA q g a)),.arr (pE (bzB p q g a))]):=by
 obtain⟨c1,c2,c3,c4,c5,c6,c7,c8,c9,c10,c11,c12,c13,c14,c15,c16⟩:=ho
 have hd:¬degP q< 0:=fun e=>hq (degP_neg.1 e)
 have q1:qs ((1:Int):Rat)=1:=by decide
 have hqd:=dy_ ((1:Int):Rat) (leadP g)
 have hsl:sm (((1:Int):Rat) / leadP g):=by unfold sm;omega
 refine f_n Tryz.func236 ?_ ?_
 exact aa_ (at_ p) (aa_ (at_ q) ab_)
 refine r_z 3 ?_
 refine ac_ (r_c 3 (bJ_ q hql) ?_)
 refine d_z ?_
 refine cF (ah_ (r_z 4 ?_))
 refine r_c 4 (dz_ 1 (by decide)) ?_
 refine c_s (iX_ ((1:Int):Rat)) ?_
 refine a_z ?_
 refine ac_ (aB_ (fun _:Unit=>⟨[(0,.arr (pE p)),(1,.arr (pE q)),(4,.arr (pE g)),(5,.arr (pE a))],[],1,83⟩) (fun _=>True) ?_ ?_)
 refine ag_ (ax_ (fun x:Nat×List Rat×List Rat×List Rat×List Rat=>bzS p q x.2) (fun x=>x.1) (fun x=>bzL x.1 x.2.1 x.2.2.1 x.2.2.2.1 x.2.2.2.2=some (g,a)∧x.2.2.1.length≤1099511627776) (f,p,q,dY_ ((1:Int):Rat),[]) ⟨hz,hql⟩ ?_ ?_)
 simp only[bzS.eq_1]
 exact s_e []
 rintro⟨f,g',nx,a',c⟩ ⟨hz,hnl⟩
 simp only at hz hnl
 simp only[bzS.eq_1]
 cases f with
 |zero=>cases hz
 |succ f=>
  rw[bzL] at hz
  by_cases hn0:trimQ nx=[]
  rw[if_pos hn0] at hz
  cases hz
  refine ac_ (r_c 3 (bJ_ nx hnl) ?_)
  refine o_0 (.bin rfl rfl (vF cN_ (decide_eq_false (by have:=degP_neg.2 hn0;omega)))) ?_
  refine an_ ?_
  refine cF (av_ ⟨(),trivial,?_⟩)
  exact s_e []
  ·rw[if_neg hn0] at hz
   split at hz
   case isFalse=>cases hz
   case isTrue hs=>
   obtain⟨⟨o1,o2,o3,o4,o5,o6⟩,o7⟩:=hs
   have hrl:=(gE_ (p:=g') (q:=nx))
   have hgl:=o1.2.1
   have hdn:¬degP nx< 0:=fun e=>hn0 (degP_neg.1 e)
   refine ac_ (r_c 3 (bJ_ nx hnl) ?_)
   refine d_z ?_
   refine cT (ah_ (ag_ (r_c 8 (fC_ g' nx o1 hn0) ?_)))
   refine a_z ?_
   refine r_z 4 ?_
   refine r_m 8 ?_
   refine c_s (dw_ _ c o2) ?_
   refine c_s (oA_ a' _ o3 o4 o5 o6) ?_
   refine a_z ?_
   refine⟨(f,nx,(divP g' nx).2,c,subP a' (mulP (divP g' nx).1 c)),Nat.lt_succ_self f,⟨hz,by simp only;omega⟩,?_⟩
   simp only[bzS.eq_1]
   exact s_e []
 rintro _ _
 refine r_c 6 (dz_ 1 (by decide)) ?_
 refine c_s (f6_ g c2) ?_
 refine o_0 (.call rfl rfl rfl (ea_ _ (leadP g) (b9_ c1) (by omega))) ?_
 refine o_1 (.alloc tz_35.h) ?_
 refine o_1n (.store rfl rfl rfl rfl rfl rfl ts_35.h (nle rfl)) ?_
 refine an_ ?_
 refine ac_ (r_d hmix 8 ?_)
 refine c_s (dE_ g _ c4 hsl c2) ?_
 refine c_s (dE_ a _ c5 hsl c3) ?_
 refine a_2 ?_
 refine an_ (n_k ?_)
 refine r_c 8 (fC_ q (bzG g) c7 c8) ?_
 refine a_z ?_
 refine r_c 7 (fC_ _ _ c9 c10) ?_
 refine a_z ?_
 refine r_c 11 (dw_ (bzA q g a) p c11) ?_
 refine c_s (oA_ (bzG g) _ c12 c13 c14 c15) ?_
 refine c_s (fC_ _ q c16 hq) ?_
 refine a_z ?_
 refine r_z 6 ?_
 refine aj_ (Fin.many ⟨_,_,rfl,rfl,⟨_,_,rfl,rfl,⟨_,_,rfl,rfl,rfl⟩⟩⟩ (nle rfl) ?_)
 exact CvL.clo as_ (aa_ (at_ _) (aa_ (at_ _) (aa_ (at_ _) ab_)))
theorem setT{p m:List Rat}{d j i e:Nat}(hi:i< j)(hj:j≤d)(he:e=i):(pE (tabP d (tpI p m j i))).set e (qC (tpI p m j i i+coP p j* coP m (j- 1- i)))=pE (tabP d (tpI p m j (i+1))):=by
 subst he
 rw[iu_,←tpI_set p m d j e hi hj]
 congr 3
 unfold tpI;rw[if_neg (by omega)]
theorem ju_{r:Ren}{hp hp':Nat→Option ABlk}(h:Shr r hp hp'):∀n,CvLL r hp hp' (List.replicate n zC) (pE (List.replicate n 0))
 |0=>aH_ h (aI_ [])
 |n+1=>CvLL.cons (ys:=pE (List.replicate n 0)) (fs_ h) (ju_ h n)
theorem getT{d i e:Nat}{f:Nat→Rat}(h:i< d)(he:e=i):(pE (tabP d f))[e]?=some (qC (f i)):=by
 subst he
 exact bD_ (ki_ f h)
def onS(p:List Rat)(m:List Rat)(W:List AV)(d:Nat):Nat→AState
 |j=>⟨[(1,.arr (pE p)),(2,.lptr 1 0 0),(4,.lptr 2 0 0),(5,.lsl 3 0 d (some d) 3),(15,.arr (pE p)),(16,i64 ((d+1:Nat):Int)),(17,i64 j)],[(1,some ⟨51,9,[W]⟩),(2,some ⟨57,2,[[.emp,.emp]]⟩),(3,some ⟨35,3,pE (tabP d fun i=>tpV p m i j)⟩)],4,61⟩
def onI(p:List Rat)(m:List Rat)(W:List AV)(d:Nat)(j:Nat):Nat→AState
 |i=>⟨[(1,.arr (pE p)),(2,.lptr 1 0 0),(4,.lptr 2 0 0),(5,.lsl 3 0 d (some d) 3),(15,.arr (pE p)),(16,i64 ((d+1:Nat):Int)),(17,i64 j),(6,i64 j),(7,.lptr 4 0 0),(22,i64 j),(23,i64 i)],[(1,some ⟨51,9,[W]⟩),(2,some ⟨57,2,[[.emp,.emp]]⟩),(3,some ⟨35,3,pE (tabP d (tpI p m j i))⟩),(4,some ⟨35,3,[qC (coP p j)]⟩)],5,61⟩
theorem fs_on (p m:List Rat) (l r:Bool) (a b:Rat) (d s t:Nat) (g iv bz:List Rat) (hl:p.length=d+1) (htr:trimQ p=p) (hd:d≤1000) (hp:bdL p s) (hm:bdL m t) (hs:1≤s) (ht:1≤t) (hml:d≤m.length) (hlim:(d+2) * (s+t+1)≤137438953472)
    (hde:FSpec Tryz.prog 49 [.arr (pE p)] (.arr (pE (aY_ p)))) (hbz:FSpec Tryz.prog 236 [.arr (pE (aY_ p)),.arr (pE p)] (.tup [.arr (pE g),.arr (pE iv),.arr (pE bz)]))
    (hmu:okMul (tpQ p m) iv) (hdi:okDiv (mulP (tpQ p m) iv) p):
    FSpec Tryz.prog 161 [.agg (wC m l r (qC a) (qC b)),.arr (pE p)] (.agg (ruC p (divP (mulP (tpQ p m) iv) p).2)):=by
 have hWc:∀c∈wC m l r (qC a) (qC b),Closed c:=aG_ (.inr ⟨a,rfl⟩) (.inr ⟨b,rfl⟩)
 have hp0:trimQ p≠[]:=by rw[htr];intro e;rw[e] at hl;simp at hl
 have hdg:=bJ_ p (by omega)
 rw[show degP p=(d:Int) by unfold degP;rw[htr,hl];omega] at hdg
 have etp:tabP d (fun i=>tpV p m i (d+1))=tpQ p m:=by unfold tpQ;rw[hl];rfl
 refine f_n Tryz.func161 ?_ ?_
 exact aa_ (aq_ hWc) (aa_ (at_ p) ab_)
 refine r_z 2 ?_
 refine r_c 4 (hdg) ?_
 refine a_z ?_
 refine ac_ (r_z 3 ?_)
 refine aB_ (fun _:Unit=>⟨[(1,.arr (pE p)),(4,.lptr 1 0 0),(5,.arr (pE (tpQ p m)))],[(1,some ⟨57,2,[[.emp,.emp]]⟩)],2,61⟩) (fun _=>True) ?_ ?_
 refine ag_ (ax_ (onS p m (wC m l r (qC a) (qC b)) d) (fun j=>d+1- j) (fun j=>j≤d+1) 0 (Nat.zero_le _) ?_ ?_)
 rw[onS.eq_1,qd_]
 refine ar_ [(1,2),(2,4),(3,5)] rfl rfl rfl au_r (fun hs=>au_f) (fun hs=>?_)
 ·repeat' (first|exact ap_|refine al_ rfl rfl rfl rfl ?_ ?_)
  all_goals (first|((try exact ae_ (CvL.clo hs hWc));(try exact ju_ hs d);done)|exact au_e)
 intro j hj
 rw[onS.eq_1]
 by_cases hlt:j< d+1
 have hgt:(pE p)[((j:Nat):Int).toNat]?=some (qC (coP p j)):=bD_ (bd_ (by omega))
 refine q_z 1 ?_
 refine ac_ (cT (ah_ (ac_ (ag_ (s_r 6 ?_)))))
 refine a_1 ?_
 refine i_x hgt ?_
 refine l_x hgt ?_
 refine a_z ?_
 refine r_z 2 ?_
 refine AWp.cutB (fun _:Unit=>onI p m (wC m l r (qC a) (qC b)) d j j) (fun _=>True) ?_ ?_
 refine ag_ (ax_ (onI p m (wC m l r (qC a) (qC b)) d j) (fun i=>j- i) (fun i=>i≤j) 0 (Nat.zero_le _) ?_ ?_)
 rw[onI.eq_1,tpI_0]
 refine ar_ [(4,7)] rfl rfl rfl au_r (fun hs=>au_f) (fun hs=>?_)
 ·repeat' (first|exact ap_|refine al_ rfl rfl rfl rfl ?_ ?_)
  all_goals (first|((try exact ae_ (CvL.clo hs hWc));(try exact aH_ hs (aI_ _));done)|exact au_e)
 intro i hi
 rw[onI.eq_1]
 by_cases hlt2:i< j
 have hv:tpI p m j i i=tpV p m i j:=by unfold tpI;rw[if_neg (by omega)]
 have hq:=tpV_bd hp hm hs ht i j
 have hc:=bE_ hp hs j
 have hc2:=bE_ hm ht (j- 1- i)
 have hqm:=bZ_ (coP p j) (coP m (j- 1- i))
 have e1:j* (s+t+1)≤(d+1) * (s+t+1):=Nat.mul_le_mul_right _ (by omega)
 have e2:(d+2) * (s+t+1)=(d+1) * (s+t+1)+(s+t+1):=Nat.succ_mul _ _
 have hmul:=dd_ (coP p j) (coP m (j- 1- i)) (by omega)
 have hadd:=fT_ (tpI p m j i i) (coP p j* coP m (j- 1- i)) (by rw[hv];omega)
 have hgm:(pE m)[((j- 1- i:Int)).toNat]?=some (qC (coP m (j- 1- i))):=by
  rw[show((j:Int)- 1- i).toNat=j- 1- i by omega]
  exact bD_ (bd_ (by omega))
 refine q_z 1 ?_
 refine ac_ (cT (ah_ (ac_ (ag_ (r_z 2 ?_)))))
 refine r_d hmix 19 ?_
 refine a_5 ?_
 first|refine aw_ (.load_l rfl rfl (getT (i:=i) (d:=d) (f:=tpI p m j i) (by omega) (by omega)) tg_35.h ts_35.h (nle rfl)) rfl rfl ?_|refine aw_ (.load_a rfl (getT (i:=i) (d:=d) (f:=tpI p m j i) (by omega) (by omega)) tg_35.h ts_35.h (nle rfl)) rfl rfl ?_
 refine a_7 ?_
 refine i_x hgm ?_
 refine l_x hgm ?_
 refine c_s (hmul) ?_
 refine c_s (hadd) ?_
 refine a_1 ?_
 refine o_1n (.store rfl rfl (getT (i:=i) (d:=d) (f:=tpI p m j i) (by omega) (by omega)) rfl rfl rfl ts_35.h (nle rfl)) ?_
 refine an_ (n_k ?_)
 refine r_m 2 ?_
 refine a_z ?_
 refine⟨i+1,by omega,hlt2,?_⟩
 rw[onI.eq_1]
 refine ar_ [] rfl rfl rfl au_r (fun hs=>au_f) (fun hs=>?_)
 ·repeat' (first|exact ap_|refine al_ rfl rfl rfl rfl ?_ ?_)
  all_goals (first|((try exact ae_ (CvL.clo hs hWc));(try exact aH_ hs (aI_ [coP p j]));(try exact aD_ hs (setT hlt2 (by omega) (Nat.zero_add i)) (aI_ _));done)|exact au_e)
 have hge:i=j:=by omega
 subst hge
 refine q_z 1 ?_
 refine ac_ (cF (av_ ⟨(),trivial,?_⟩))
 try simp only[onI.eq_1]
 refine ar_ [] rfl rfl rfl au_r (fun hs=>au_f) (fun hs=>?_)
 ·repeat' (first|exact ap_|refine al_ rfl rfl rfl rfl ?_ ?_)
  all_goals (first|((try exact ae_ (CvL.clo hs hWc));(try exact aH_ hs (aI_ _));done)|exact au_e)
 rintro _ _
 rw[onI.eq_1,tpI_e]
 refine r_m 2 ?_
 refine a_z ?_
 refine⟨j+1,by omega,hlt,?_⟩
 rw[onS.eq_1]
 refine ar_ [] rfl rfl rfl au_r (fun hs=>au_f) (fun hs=>?_)
 ·repeat' (first|exact ap_|refine al_ rfl rfl rfl rfl ?_ ?_)
  all_goals (first|((try exact ae_ (CvL.clo hs hWc));(try exact aH_ hs (aI_ _));done)|exact au_e)
 have hge:j=d+1:=by omega
 subst hge
 refine q_z 1 ?_
 refine ac_ (cF (av_ ⟨(),trivial,?_⟩))
 rw[etp]
 refine ar_ [(1,4)] rfl rfl rfl au_r (fun hs=>?_) (fun hs=>?_)
 ·repeat' (first|exact aA_|refine au_ rfl ?_ ?_)
  all_goals (first|(exact db_ hs rfl (aM_ rfl) rfl (by rw[←etp];simp))|exact au_c)
 ·repeat' (first|exact ap_|refine al_ rfl rfl rfl rfl ?_ ?_)
  all_goals (first|exact au_e|(refine ae_ ?_;repeat' (first|exact ao_|refine af_ ?_ ?_)))
  all_goals (first|(exact db_ hs rfl (aM_ rfl) rfl (by rw[←etp];simp))|exact au_c)
 rintro _ _
 refine r_c 11 (hde) ?_
 refine c_s (hbz) ?_
 refine a_z ?_
 refine r_c 8 (dw_ _ iv hmu) ?_
 refine c_s (m9_ _ p hdi hp0) ?_
 refine a_z ?_
 exact aj_ (c_e (aq_ (bU_ _ _)))

def apS(t:List Rat)(s:List Rat)(W:List AV):Nat×Rat→AState
 |(i,o)=>⟨[(2,.lptr 1 0 0),(4,.lptr 2 0 0),(5,.lptr 3 0 0),(6,.arr (pE s)),(20,.arr (pE t)),(21,i64 t.length),(22,i64 i)],[(1,some ⟨57,2,[W]⟩),(2,some ⟨35,3,[zC]⟩),(3,some ⟨35,3,[qC o]⟩)],4,37⟩
theorem fs_apply (p w f m:List Rat) (s t:Nat) (hsu:FSpec Tryz.prog 188 [.agg (ruC p w)] (.arr (pE m))) (h0:trimQ p≠[]) (o1:okDiv f p) (o2:okMul w (divP f p).2) (o3:okDiv (mulP w (divP f p).2) p)
    (hp:bdL (apR p w f) s) (hm:bdL m t) (hs:1≤s) (ht:1≤t) (hpl:(apR p w f).length≤1000000) (hlen:(apR p w f).length≤m.length) (hlim:((apR p w f).length+2) * (s+t+1)≤137438953472):
    FSpec Tryz.prog 103 [.agg (ruC p w),.arr (pE f)] (.agg (qC (ofQ (apR p w f) m (apR p w f).length))):=by
 have hre1:=m9_ f p o1 h0
 have hmu:=dw_ w _ o2
 have hre2:=m9_ _ p o3 h0
 obtain⟨T,hT⟩:∃T,T=apR p w f:=⟨_,rfl⟩
 rw[show(divP (mulP w (divP f p).2) p).2=T from hT.symm] at hre2
 rw[←hT] at hp hpl hlen hlim⊢
 have hWc:=bU_ p w
 refine f_n Tryz.func103 ?_ ?_
 exact aa_ (aq_ hWc) (aa_ (at_ f) ab_)
 refine r_z 2 ?_
 refine r_z 1 ?_
 refine r_c 3 (hsu) ?_
 refine a_z ?_
 refine ac_ (ac_ (r_d hmix 12 ?_))
 refine c_s (hre1) ?_
 refine c_s (hmu) ?_
 refine c_s (hre2) ?_
 refine a_2 ?_
 refine an_ (n_k ?_)
 refine aB_ (fun _:Unit=>⟨[(4,.lptr 1 0 0),(5,.lptr 2 0 0)],[(1,some ⟨35,3,[zC]⟩),(2,some ⟨35,3,[qC (ofQ T m T.length)]⟩)],3,37⟩) (fun _=>True) ?_ ?_
 refine ag_ (ax_ (apS T m (ruC p w)) (fun x=>T.length- x.1) (fun x=>x.1≤T.length∧x.2=ofQ T m x.1) (0,0) ⟨Nat.zero_le _,rfl⟩ ?_ ?_)
 simp only[apS.eq_1]
 rw[qC0]
 exact s_f [(1,2),(2,4),(3,5)]
 rintro⟨i,o⟩ ⟨hi,ho⟩
 simp only at hi ho
 rw[apS.eq_1]
 by_cases hlt:i< T.length
 refine q_z 1 ?_
 refine ac_ (cT (ah_ ?_))
 have hgt:(pE T)[((i:Nat):Int).toNat]?=some (qC (coP T i)):=bD_ (bd_ hlt)
 have hgm:(pE m)[((i:Nat):Int).toNat]?=some (qC (coP m i)):=bD_ (bd_ (by omega))
 have hc:=bE_ hp hs i
 have hd:=bE_ hm ht i
 have hq:=lD_ hp hm hs ht i
 rw[←ho] at hq
 have e1:i* (s+t+1)≤(T.length+1) * (s+t+1):=Nat.mul_le_mul_right _ (by omega)
 have e2:(T.length+2) * (s+t+1)=(T.length+1) * (s+t+1)+(s+t+1):=Nat.succ_mul _ _
 have hmu:=dd_ (coP T i) (coP m i) (by omega)
 have hqm:=bZ_ (coP T i) (coP m i)
 have had:=fT_ o (coP T i* coP m i) (by omega)
 refine ac_ (ag_ (s_r 6 ?_))
 refine a_1 ?_
 refine i_x hgt ?_
 refine l_x hgt ?_
 refine a_z ?_
 refine r_d hmix 9 ?_
 refine a_4 ?_
 refine i_x hgm ?_
 refine l_x hgm ?_
 refine c_s (hmu) ?_
 refine c_s (had) ?_
 refine a_1 ?_
 refine an_ (n_k ?_)
 refine r_m 2 ?_
 refine a_z ?_
 refine⟨(i+1,o+coP T i* coP m i),by simp only;omega,⟨hlt,by simp only;rw[ofQ,←ho]⟩,?_⟩
 simp only[apS.eq_1]
 exact s_f []
 have hge:i=T.length:=by omega
 subst hge
 refine q_z 1 ?_
 refine ac_ (cF (av_ ⟨(),trivial,?_⟩))
 rw[ho]
 exact s_e [(1,4),(2,5)]
 rintro _ _
 refine r_z 2 ?_
 exact aj_ (c_e (az_ _))
def smsS(T:List Rat)(n:Nat):Nat→AState
 |k=>⟨[(3,.arr (pE T)),(4,i64 n),(5,.lsl 1 0 (k+1) none 3),(6,i64 ((k+1:Nat):Int))],[(1,some ⟨35,3,pE (suL T n k)⟩)],2,57⟩
def smsI(T:List Rat)(n:Nat)(k:Nat):Nat→AState
 |i=>⟨[(3,.arr (pE T)),(4,i64 n),(5,.lsl 1 0 (k+1) none 3),(6,i64 ((k+1:Nat):Int)),(7,.lptr 2 0 0),(8,i64 ((i+1:Nat):Int))],[(1,some ⟨35,3,pE (suL T n k)⟩),(2,some ⟨35,3,[qC (nwA T n (suL T n k) (k+1) i)]⟩)],3,57⟩
theorem fs_sums(p w:List Rat)(n:Nat)(hl:(trimQ p).length=n+1)(hn:1≤n)(hn2:n≤1000)(hpl:p.length≤1099511627776)(hok:∀k,k< n- 1→okSu (trimQ p) n k):
    FSpec Tryz.prog 188 [.agg (ruC p w)] (.arr (pE (suL (trimQ p) n (n- 1)))):=by
 have htr:=cI_ p (by omega)
 have hdg:=bJ_ (trimQ p) (by omega)
 rw[show degP (trimQ p)=(n:Int) by rw[mq_];unfold degP;rw[hl];omega] at hdg
 have hW:=bU_ p w
 have hw0:=a4_ (n:Int) (by omega)
 generalize trimQ p=T at *
 refine f_n Tryz.func188 ?_ ?_
 exact aa_ (aq_ hW) ab_
 refine r_z 2 ?_
 refine r_c 4 (htr) ?_
 refine a_z ?_
 refine r_c 3 (hdg) ?_
 refine a_z ?_
 refine r_c 4 (hw0) ?_
 refine a_z ?_
 refine ac_ (r_z 1 ?_)
 refine aB_ (smsS T n) (fun k=>k=n- 1) ?_ ?_
 refine ag_ (ax_ (smsS T n) (fun k=>n- k) (fun k=>k≤n- 1) 0 (Nat.zero_le _) ?_ ?_)
 rw[smsS.eq_1]
 have:=(aI_ [((n:Int):Rat)])
 exact s_f [(1,5)]
 intro k hk
 rw[smsS.eq_1]
 have hsl:=eh_ T n k
 by_cases hlt:k< n- 1
 obtain⟨o1,o2⟩:=hok k hlt
 have hgt:(pE T)[((n:Int)- ((k+1:Nat):Int)).toNat]?=some (qC (coP T (n- (k+1)))):=by
  rw[show((n:Int)- ((k+1:Nat):Int)).toNat=n- (k+1) by omega]
  exact bD_ (bd_ (by omega))
 have hm1:=dd_ (coP T (n- (k+1))) (((k+1:Nat):Int):Rat) o1
 refine ac_ (q_z 3 ?_)
 refine cT (ah_ (ac_ (ag_ (ac_ (r_d hmix 11 ?_)))))
 refine a_4 ?_
 refine i_x hgt ?_
 refine l_x hgt ?_
 refine c_s (a4_ ((k+1:Nat):Int) (by omega)) ?_
 refine c_s (hm1) ?_
 refine a_2 ?_
 refine an_ (n_k ?_)
 refine ac_ (r_z 1 ?_)
 refine aB_ (fun _:Unit=>smsI T n k k) (fun _=>True) ?_ ?_
 refine ag_ (ax_ (smsI T n k) (fun i=>k- i) (fun i=>i≤k) 0 (Nat.zero_le _) ?_ ?_)
 rw[smsI.eq_1]
 refine ar_ [(2,7)] rfl rfl rfl au_r (fun hs=>au_f) (fun hs=>?_)
 ·repeat' (first|exact ap_|refine al_ rfl rfl rfl rfl ?_ ?_)
  all_goals (first|((try exact aH_ hs (aI_ _));(try exact ae_ (CvL.clo hs (aO_ _)));done)|exact au_e)
 intro i hi
 rw[smsI.eq_1]
 by_cases hlt2:i< k
 obtain⟨o3,o4⟩:=o2 i hlt2
 have hg1:(pE T)[((n:Int)- ((i+1:Nat):Int)).toNat]?=some (qC (coP T (n- (i+1)))):=by
  rw[show((n:Int)- ((i+1:Nat):Int)).toNat=n- (i+1) by omega]
  exact bD_ (bd_ (by omega))
 have hg2:∀e,e=k+1- (i+1)→(pE (suL T n k))[e]?=some (qC (coP (suL T n k) (k+1- (i+1)))):=fun e he=>by
  rw[he];exact bD_ (bd_ (by omega))
 refine ac_ (q_z 3 ?_)
 refine cT (ah_ (ac_ (ag_ (r_d hmix 16 ?_))))
 refine a_5 ?_
 refine i_x hg1 ?_
 refine l_x hg1 ?_
 refine a_5 ?_
 first|refine aw_ (.load_l rfl rfl (hg2 _ (by omega)) tg_35.h ts_35.h (nle rfl)) rfl rfl ?_|refine aw_ (.load_a rfl (hg2 _ (by omega)) tg_35.h ts_35.h (nle rfl)) rfl rfl ?_
 refine c_s (dd_ _ _ o3) ?_
 refine c_s (fT_ _ _ o4) ?_
 refine a_1 ?_
 refine an_ (n_k ?_)
 refine r_m 3 ?_
 refine a_z ?_
 refine⟨i+1,by omega,hlt2,?_⟩
 rw[smsI.eq_1]
 refine ar_ [] rfl rfl rfl au_r (fun hs=>au_f) (fun hs=>?_)
 ·repeat' (first|exact ap_|refine al_ rfl rfl rfl rfl ?_ ?_)
  all_goals (first|((try exact aH_ hs (aI_ _));(try exact ae_ (CvL.clo hs (aO_ _)));done)|exact au_e)
 have hge:i=k:=by omega
 subst hge
 refine ac_ (q_z 3 ?_)
 refine cF (av_ ⟨(),trivial,?_⟩)
 try simp only[smsI.eq_1]
 refine ar_ [] rfl rfl rfl au_r (fun hs=>au_f) (fun hs=>?_)
 ·repeat' (first|exact ap_|refine al_ rfl rfl rfl rfl ?_ ?_)
  all_goals (first|((try exact aH_ hs (aI_ _));(try exact ae_ (CvL.clo hs (aO_ _)));done)|exact au_e)
 rintro _ _
 try simp only[smsI.eq_1]
 refine r_m 6 ?_
 refine c_s (gx_ _) ?_
 refine a_z ?_
 refine r_m 3 ?_
 refine a_z ?_
 refine⟨k+1,by omega,by omega,?_⟩
 rw[smsS.eq_1]
 have e:pE (suL T n k)++[qC (-(nwA T n (suL T n k) (k+1) k))]=pE (suL T n (k+1)):=by rw[suL,it_]
 refine ar_ [(1,5)] rfl rfl rfl ?_ (fun hs=>au_f) (fun hs=>?_)
 ·repeat' (first|exact ShrL.nil|refine ShrL.cons rfl rfl rfl rfl (by first|(simp[eh_])|rfl|(simp;done)|(simp <;> omega)) ?_)
 ·repeat' (first|exact ap_|refine al_ rfl rfl rfl rfl ?_ ?_)
  all_goals (first|(exact aD_ hs e (aI_ _))|exact au_e)
 have hge:k=n- 1:=by omega
 refine ac_ (q_z 3 ?_)
 refine cF (av_ ⟨k,hge,?_⟩)
 try simp only[smsS.eq_1]
 exact s_f []
 rintro k hk
 subst hk
 have hsl:=eh_ T n (n- 1)
 rw[smsS.eq_1]
 refine r_z 2 ?_
 exact aj_ (Fin.tmpS rfl rfl rfl (by rw[lw_,hsl]) (aI_ _))
theorem rr_(p w m:List Rat)(l r:Bool)(a b:Rat)(hcw:FSpec Tryz.prog 31 [.agg (wC m l r (qC a) (qC b))] (i64 0))(hck:FSpec Tryz.prog 94 [.agg (ruC p w)] (i64 0)):
    FSpec Tryz.prog 162 [.agg (wC m l r (qC a) (qC b)),.agg (ruC p w)] (i64 0):=by
 have hWc:∀c∈wC m l r (qC a) (qC b),Closed c:=aG_ (.inr ⟨a,rfl⟩) (.inr ⟨b,rfl⟩)
 refine f_n Tryz.func162 ?_ ?_
 exact aa_ (aq_ hWc) (aa_ (aq_ (bU_ p w)) ab_)
 refine r_z 3 ?_
 refine ac_ (r_c 3 (hcw) ?_)
 refine a_z ?_
 refine s_r 2 ?_
 refine a_1 ?_
 refine o_0 (.bin rfl rfl (vF ba_ (rfl))) ?_
 refine an_ ?_
 refine cF (ah_ (r_c 3 (hck) ?_))
 refine a_z ?_
 exact aj_ (t_e (ad_ _))
theorem pt_ (p w m:List Rat) (l r:Bool) (a b:Rat) (d:Nat) (v:Nat→Rat) (hbo:FSpec Tryz.prog 162 [.agg (wC m l r (qC a) (qC b)),.agg (ruC p w)] (i64 0))
    (hap:∀k,k≤d→FSpec Tryz.prog 103 [.agg (ruC p w),.arr (pE (List.replicate k 0++[((1:Int):Rat)]))] (.agg (qC (v k)))) (hd:d< m.length) (hml:m.length≤1000) (hm:∀q∈m,sm q) (hv:∀k,k≤d→sm (v k))
    (heq:∀k,k< d→v k=coP m k) (hne:v d≠coP m d):
    FSpec Tryz.prog 61 [.agg (wC m l r (qC a) (qC b)),.agg (ruC p w)] (.tup [i64 ((d:Int)- 1),bln true,i64 0]):=by
 have hWc:∀c∈wC m l r (qC a) (qC b),Closed c:=aG_ (.inr ⟨a,rfl⟩) (.inr ⟨b,rfl⟩)
 refine f_n Tryz.func61 ?_ ?_
 exact aa_ (aq_ hWc) (aa_ (aq_ (bU_ p w)) ab_)
 refine r_z 5 ?_
 refine ac_ (r_c 4 (hbo) ?_)
 refine a_z ?_
 refine s_r 2 ?_
 refine a_1 ?_
 refine o_0 (.bin rfl rfl (vF ba_ (rfl))) ?_
 refine an_ ?_
 refine cF (ah_ (ac_ (r_z 4 ?_)))
 refine aB_ (fun _:Unit=>⟨[],[],1,41⟩) (fun _=>False) ?_ ?_
 refine ag_ (ax_ (fun k:Nat=>⟨[(3,.lptr 1 0 0),(17,.arr (pE m)),(18,i64 m.length),(19,i64 k)],[(1,some ⟨57,2,[ruC p w]⟩)],2,41⟩) (fun k=>d+1- k) (fun k=>k≤d) 0 (Nat.zero_le _) ?_ ?_)
 have:=bU_ p w
 exact s_f [(1,3)]
 intro k hk
 have hgm:(pE m)[((k:Nat):Int).toNat]?=some (qC (coP m k)):=bD_ (bd_ (by omega))
 have hap2:=FSpec.zerosQ (L:=[((1:Int):Rat)]) (hap k hk) (aq_ (bU_ p w))
 have hcm:=j1_ (v k) (coP m k) (hv k hk) (jd_ hm k)
 refine q_z 1 ?_
 refine ac_ (cT (ah_ (ac_ (ag_ (s_r 6 ?_)))))
 refine a_1 ?_
 refine i_x hgm ?_
 refine l_x hgm ?_
 refine a_z ?_
 by_cases hkd:k< d
 ·rw[show cmpQ (v k) (coP m k)=0 by unfold cmpQ;rw[heq k hkd,if_neg (by grind),if_pos rfl]] at hcm
  refine ac_ (r_d hmix 10 ?_)
  refine c_s (a4_ 1 (by decide)) ?_
  refine a_1 ?_
  refine o_2 (.append_l rfl rfl rfl te_55.h rfl rfl rfl rfl rfl d_o (lb_ _) rfl rfl (.lsl rfl (nle rfl)) tz_35.h rfl tb_35.h d_o (by first|(simp[maxLen];done)|(simp[maxLen];omega))) ?_
  refine o_1 (.callS1 rfl rfl rfl (.keep (.shut rfl d_n (.nil))) rfl ((FSpec.argE2 hap2 (by rw[List.drop_zero];exact List.take_of_length_le (by simp))))) ?_
  refine c_s (hcm) ?_
  refine o_0 (.bin rfl rfl (vF ba_ (rfl))) ?_
  refine an_ (n_k ?_)
  refine cF (ah_ (r_m 2 ?_))
  refine a_z ?_
  refine⟨k+1,by omega,hkd,?_⟩
  have:=bU_ p w
  exact s_f []
 ·have hge:k=d:=by omega
  subst hge
  have hcn:¬cmpQ (v k) (coP m k)=0:=by
   unfold cmpQ
   split
   decide
   first|decide|(rw[if_neg hne];decide)
  refine ac_ (r_d hmix 10 ?_)
  refine c_s (a4_ 1 (by decide)) ?_
  refine a_1 ?_
  refine o_2 (.append_l rfl rfl rfl te_55.h rfl rfl rfl rfl rfl d_o (lb_ _) rfl rfl (.lsl rfl (nle rfl)) tz_35.h rfl tb_35.h d_o (by first|(simp[maxLen];done)|(simp[maxLen];omega))) ?_
  refine o_1 (.callS1 rfl rfl rfl (.keep (.shut rfl d_n (.nil))) rfl ((FSpec.argE2 hap2 (by rw[List.drop_zero];exact List.take_of_length_le (by simp))))) ?_
  refine c_s (hcm) ?_
  refine o_0 (.bin rfl rfl (vT ba_ (bne_iff_ne.2 hcn))) ?_
  refine an_ (n_k ?_)
  refine cT (r_z 5 ?_)
  refine aj_ (Fin.many ⟨_,_,rfl,rfl,⟨_,_,rfl,rfl,⟨_,_,rfl,rfl,rfl⟩⟩⟩ (nle rfl) ?_)
  exact CvL.clo as_ (aa_ (ad_ _) (aa_ (ad_ _) (aa_ (ad_ _) ab_)))
 rintro _ h
 exact h.elim
theorem rH_ (m m2:List Rat) (l r:Bool) (a b e:Rat) (n:Nat) (hn:1≤n) (hn2:n≤1000) (hti:FSpec Tryz.prog 121 [.agg (wC m l r (qC a) (qC b)),.arr (pE (enM e))] (.agg (wC m2 l r (qC a) (qC b))))
    (hok:∀k,k< n- 1→okLd m2 k) (hmu:okMul (enM e) (ldr m2 (n- 1)).1):
    FSpec Tryz.prog 120 [bQ e,bW m l r a b,bIn n] (.tup [.arr (pE (mulP (enM e) (ldr m2 (n- 1)).1)),bln true]):=by
 have hcl:=kO_ m2 l r a b (n- 1) (by omega) hok
 rw[show((n- 1:Nat):Int)=(n:Int)- 1 by omega] at hcl
 have hbw:=es_ m l r a b
 have hbi:=dk_ n
 refine f_n Tryz.func120 ?_ ?_
 exact aa_ (cs_ e) (aa_ hbw (aa_ (dk_ n) ab_))
 refine r_z 2 ?_
 refine r_c 5 (gx_ e) ?_
 refine c_s (a4_ 1 (by decide)) ?_
 refine a_z ?_
 refine AWp.ent (st':=⟨[(1,bW m l r a b),(2,bIn n),(5,.arr (pE (enM e)))],[],1,41⟩) ?_ ?_
 refine ar_ [] rfl rfl rfl au_r (fun hs=>?_) (fun hs=>?_)
 ·repeat' (first|exact aA_|refine au_ rfl ?_ ?_)
  all_goals (first|(exact db_ hs rfl (fun _ _ h=>by cases h) rfl rfl)|exact au_c)
 ·repeat' (first|exact ap_|refine al_ rfl rfl rfl rfl ?_ ?_)
  all_goals (first|exact au_e|(refine ae_ ?_;repeat' (first|exact ao_|refine af_ ?_ ?_)))
  all_goals (first|(exact db_ hs rfl (fun _ _ h=>by cases h) rfl rfl)|exact au_c)
 refine ac_ (r_d hmix 11 ?_)
 refine c_s (hti) ?_
 refine c_s (hcl) ?_
 refine a_5 ?_
 refine an_ (n_k ?_)
 refine ac_ (r_z 2 ?_)
 refine cF (ah_ (r_c 9 (dw_ (enM e) _ hmu) ?_))
 refine a_z ?_
 refine aj_ (Fin.many ⟨_,_,rfl,rfl,⟨_,_,rfl,rfl,rfl⟩⟩ (nle rfl) ?_)
 exact af_ (ak_ as_ (at_ _)) (af_ (ak_ as_ (ad_ _)) ao_)
theorem fs_Radau (m:List Rat) (l r:Bool) (a b e:Rat) (n:Nat) (p wt:List Rat) (hn:1≤n∧n≤25) (h1:FSpec Tryz.prog 120 [bQ e,bW m l r a b,bIn n] (.tup [.arr (pE p),bln true])) (hm:2* n- 1≤m.length∧m.length≤64) (hab:l=true→r=true→a< b) (ha:sm a) (hb:sm b)
    (hr:FSpec Tryz.prog 160 [.arr (pE p)] (bln true)) (hpb:bdL p 68719476736) (hp0:trimQ p≠[]) (hpl:p.length≤1099511627776)
    (hon:FSpec Tryz.prog 161 [.agg (wC m l r (qC a) (qC b)),.arr (pE (bf_ p))] (.agg (ruC (bf_ p) wt))):
    FSpec Tryz.prog 36 [.agg (wC m l r (qC a) (qC b)),i64 n,.agg (qC e)] (.tup [.agg (ruC (bf_ p) wt),i64 0]):=by
 have hWc:∀c∈wC m l r (qC a) (qC b),Closed c:=aG_ (.inr ⟨a,rfl⟩) (.inr ⟨b,rfl⟩)
 have hra:=iV_ (n:Nat) 1 25 (by omega)
 have hcc:∀c∈[bQ e,bW m l r a b,bIn n],Closed c:=aa_ (cs_ e) (aa_ (es_ m l r a b) (aa_ (dk_ n) ab_))
 have hna:=kI_ m l r a b (2* n- 1) 120 [bQ e,bW m l r a b,bIn n] p wt hcc (by omega) hab ha hb hm.1 h1 hr hpb hp0 hpl hon
 rw[show((2* n- 1:Nat):Int)=2* (n:Int)- 1 by omega] at hna
 refine f_n Tryz.func36 ?_ ?_
 exact aa_ (aq_ hWc) (aa_ (ad_ _) (aa_ (az_ e) ab_))
 refine r_z 5 ?_
 refine AWp.ent (st':=⟨[(3,bW m l r a b),(4,bIn n),(5,bQ e),(6,.lptr 1 0 0)],[(1,some ⟨57,2,[[.emp,.emp]]⟩)],2,18⟩) ?_ ?_
 refine ar_ [(1,6)] rfl rfl rfl au_r (fun hs=>?_) (fun hs=>?_)
 ·repeat' (first|exact aA_|refine au_ rfl ?_ ?_)
  all_goals (first|((try exact Cv.boxp hs rfl (aM_ rfl) rfl hWc);(try exact Cv.boxp hs rfl (aM_ rfl) rfl (aO_ e));(try exact Cv.boxp hs rfl (aM_ rfl) rfl (aa_ (ad_ _) ab_));done)|exact au_c)
 ·repeat' (first|exact ap_|refine al_ rfl rfl rfl rfl ?_ ?_)
  all_goals (first|exact au_e|(refine ae_ ?_;repeat' (first|exact ao_|refine af_ ?_ ?_)))
  all_goals (first|((try exact Cv.boxp hs rfl (aM_ rfl) rfl hWc);(try exact Cv.boxp hs rfl (aM_ rfl) rfl (aO_ e));(try exact Cv.boxp hs rfl (aM_ rfl) rfl (aa_ (ad_ _) ab_));done)|exact au_c)
 refine ac_ (r_d hmix 12 ?_)
 refine c_s (hra) ?_
 refine c_s (hna) ?_
 refine a_4 ?_
 refine an_ (n_k ?_)
 refine aj_ (Fin.many ⟨_,_,rfl,⟨_,_,_,_,_,rfl,rfl,rfl,.inl ⟨tg_57.h,_,ts_57.h,nle rfl,rfl⟩⟩,⟨_,_,rfl,rfl,rfl⟩⟩ (nle rfl) ?_)
 exact af_ (ak_ as_ (aq_ (bU_ _ _))) (af_ (ak_ as_ (ad_ _)) ao_)
end Go.Proofs.YtdjfjpeoddmamaaGreatDoor
