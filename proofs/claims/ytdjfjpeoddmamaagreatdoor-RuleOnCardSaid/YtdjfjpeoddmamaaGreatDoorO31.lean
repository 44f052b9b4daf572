/- Part O31 of the proof. -/
import Derived.Test.YtdjfjpeoddmamaaGreatDoorO30
import Derived.ProofKit
import Derived.OpenShut
import Derived.Carry
import Derived.Deep.Slices
import Derived.Deep.Strs
set_option linter.all false
namespace Go.Proofs.YtdjfjpeoddmamaaGreatDoor
open Go.Abs
set_option maxRecDepth 20000
set_option maxHeartbeats 2000000
structure LoR where
 k:Nat
 g:NRow×NRow
 p:Int
 q:Int
 n:Int
 mo:List NRow
 l:Bool
 r:Bool
 lo:NRow
 hi:NRow
def okLo(x:LoR):Prop:=x.k≤255∧(okN x.g.1∧okN x.g.2)∧i64r x.p∧i64r x.q∧i64r x.n∧okR x.mo∧okN x.lo∧okN x.hi
def loC(x:LoR):List AV:= .v (.int .u8 x.k)::(gapC x.g++[i64 x.p,i64 x.q,i64 x.n,.arr (nR x.mo),bln x.l,bln x.r]++nuC x.lo.1 x.lo.2.1 x.lo.2.2++nuC x.hi.1 x.hi.2.1 x.hi.2.2)
theorem hN_(x:LoR):∀c∈loC x,Closed c:=by
 unfold loC;refine ab_ (ad_ _) fun c hc=>?_;rcases List.mem_append.1 hc with hc|hc
 rcases List.mem_append.1 hc with hc|hc
 rcases List.mem_append.1 hc with hc|hc
 exact ot_ _ c hc;exact ab_ (ad_ _) (ab_ (ad_ _) (ab_ (ad_ _) (ab_ (aL_ (b2_ _)) (ab_ (ad_ _) (ab_ (ad_ _) ah_))))) c hc;exact cE_ _ _ _ c hc;exact cE_ _ _ _ c hc
def bdN(n:Int):Prop:=n< 0∨63< n
def bdP(p:Int):Prop:=p< 0∨8< p
instance (n:Int):Decidable (bdN n):=inferInstanceAs (Decidable (_∨_))
instance (n:Int):Decidable (bdP n):=inferInstanceAs (Decidable (_∨_))
def gvJ(a b:Rat)(p q n:Nat):Wt:=⟨sqL (moQ (jcF a b p q) (a,b)) (n+1),true,true,a,b,rq a,rq b⟩
def gvL(p n:Nat):Wt:=⟨sqL (lgQ p) (n+1),true,false,0,0,r0,r0⟩
def gvV(c n:Nat):Wt:=⟨sqL (evW (evK c)) (n+1),decide (1< c),decide (1< c),(evLo c).1.1,(evLo c).2.1,(evLo c).1,(evLo c).2⟩
def gvW(x:LoR):Wt×Int:=
 if x.k=1 then
  if nV x.g.1< nV x.g.2 then
   if bdN x.n∨bdP x.p∨bdP x.q then(wZt,3) else(gvJ (nV x.g.1) (nV x.g.2) x.p.toNat x.q.toNat x.n.toNat,0)
  else(wZt,2)
 else if x.k=2 then
  if bdN x.n∨bdP x.p then(wZt,3) else(gvL x.p.toNat x.n.toNat,0)
 else if bdN x.n then(wZt,3) else(gvV (x.k- 2) x.n.toNat,0)
def gvS(z:Wt×Int):AState:=⟨[(2,.lptr 1 0 0),(4,.lptr 2 0 0),(9,.lptr 3 0 0),(10,.lptr 4 0 0),(11,i64 z.2),(12,i64 z.2)],[(1,some ⟨51,9,[w0C]⟩),(2,some ⟨77,11,[rw0]⟩),(3,some ⟨51,9,[z.1.A]⟩),(4,some ⟨77,11,[z.1.B]⟩)],5,139⟩
def gvM(x:LoR)(a b:Rat)(W:List AV)(e:Int)(t:Nat)(B:Bool):AState:=⟨[(1,.aptr [loC x] 0 0),(2,.lptr 1 0 0),(4,.lptr 2 0 0),(7,.aptr [rC (rq a)++rC (rq b)] 0 0),(9,.lptr 3 0 0),(10,.lptr 4 0 0),(11,i64 e),(12,i64 0),(t,bln B)],[(1,some ⟨51,9,[w0C]⟩),(2,some ⟨77,11,[rw0]⟩),(3,some ⟨51,9,[W]⟩),(4,some ⟨77,11,[rw0]⟩)],5,139⟩
theorem lR_{r:Ren}{hp hp':Nat→Option ABlk}(h:Shr r hp hp'):CvL r hp hp' rw0 wZt.B:=eI_ h (Cv.emp _) (hP_ h) (hP_ h)
theorem evS_list{c n:Nat}(hc:1≤c∧c≤3)(hn:n≤20):sqL (evD c) (n+1)=sqL (evW (evK c)) (n+1):=by
 unfold sqL;exact List.map_congr_left fun i hi=>evD_eq hc (by have:=List.mem_range.1 hi;omega)
theorem fs_given(x:LoR)(hx:okLo x)(hk:1≤x.k∧x.k≤5)(hn20:x.n≤20∨63< x.n):FS 26 [.agg (loC x)] (.tup [.agg (gvW x).1.A,i64 (gvW x).2,.agg (gvW x).1.B,i64 (gvW x).2]):=by
 obtain⟨k,g,p,q,n,mo,l,r,lo,hi⟩:=x;obtain⟨hk255,⟨g1,g2⟩,hp,hq,hn,hmo,hlo,hhi⟩:=hx;simp only at *
 have kk:(⟨k,g,p,q,n,mo,l,r,lo,hi⟩:LoR).k=k:=rfl;have cX:=hN_ ⟨k,g,p,q,n,mo,l,r,lo,hi⟩;have bG:FS 12 [.agg (gapC g)] (.tup [.agg (spC (nV g.1) (nV g.2)),.agg (rC (rq (nV g.1))++rC (rq (nV g.2)))]):=mX_ _ _ _ _ _ _ g1.1 g1.2.1 g1.2.2 g2.1 g2.2.1 g2.2.2;have qa:qs (nV g.1)≤256:=gx_ g1.1 g1.2.1;have qb:qs (nV g.2)≤256:=gx_ g2.1 g2.2.1;obtain⟨Z,hZ⟩:∃Z,Z=gvW ⟨k,g,p,q,n,mo,l,r,lo,hi⟩:=⟨_,rfl⟩;rw[←hZ];unfold gvW at hZ;simp only at hZ;have cS:∀c∈rC (rq (nV g.1))++rC (rq (nV g.2)),Closed c:=fun c hc=>(List.mem_append.1 hc).elim (bb_ _ c) (bb_ _ c);generalize nV g.1=a at *
 generalize nV g.2=b at *
 refine f_c Tryz.func26 ?_;refine r_z 5 ?_;refine r_c 10 (bG) ?_;refine a_z ?_;refine aQ_ (fun _:Unit=>⟨[(1,.aptr [loC ⟨k,g,p,q,n,mo,l,r,lo,hi⟩] 0 0),(2,.lptr 1 0 0),(4,.lptr 2 0 0),(6,.aptr [spC a b] 0 0),(7,.aptr [rC (rq a)++rC (rq b)] 0 0),(8,bln (decide (bdN n)))],[(1,some ⟨51,9,[w0C]⟩),(2,some ⟨77,11,[rw0]⟩)],3,139⟩) (fun _=>True) ?_ ?_;by_cases h1:n< 0;rw[decide_eq_true (show bdN n from .inl h1)];refine r_m 9 ?_;refine d_z ?_;refine⟨(),trivial,?_⟩;exact s_x [(1,2),(2,4)] (fun hs=>e_20) (fun hs=>e_21);by_cases h2:63< n;rw[decide_eq_true (show bdN n from .inr h2)];refine r_m 9 ?_;refine d_z ?_;refine⟨(),trivial,?_⟩;exact s_x [(1,2),(2,4)] (fun hs=>e_20) (fun hs=>e_21);rw[decide_eq_false (show¬bdN n from fun e=>e.elim h1 h2)];refine r_m 9 ?_;refine d_z ?_;refine⟨(),trivial,?_⟩;exact s_x [(1,2),(2,4)] (fun hs=>e_20) (fun hs=>e_21);rintro _ _;refine r_z 1 ?_;refine r_z 1 ?_;refine r_z 1 ?_;refine r_z 1 ?_;refine aa_ (r_z 2 ?_);refine aw_ gvS (fun z=>z=Z) ?_ ?_;refine ac_ ?_;have hcm:FS 39 [.agg (rC (rq a)),.agg (rC (rq b))] (i64 (cmpQ a b)):=jk_ (rq a) (rq b) (aR_ _) (aR_ _) (by show qs a+qs b≤_;omega);by_cases k1:k=1
 ·rw[if_pos k1] at hZ
  refine q_z 2 ?_;refine cT ?_;by_cases hab:a< b;rotate_left;rw[if_neg hab] at hZ;refine r_c 13 ((qA_ a b p q n hab qa qb)) ?_;refine a_z ?_;refine r_c 6 (hcm) ?_;refine o_0 (.bin rfl rfl (vT cW_ (decide_eq_true (tC_ hab)))) ?_;refine ai_ ?_;refine cT (r_m 1 ?_);refine a_z ?_;refine⟨_,hZ.symm,?_⟩;rw[gvS.eq_1];exact s_x [(1,2),(2,4),(3,9),(4,10)] (fun hs=>e_1) (fun hs=>e_2);rw[if_pos hab] at hZ;rw[cmp_lt hab] at hcm;by_cases hb:bdN n∨bdP p∨bdP q;rw[if_pos hb] at hZ;refine r_c 13 ((qz_ a b p q n hab qa qb (by unfold bdN bdP at hb;omega))) ?_;refine a_z ?_;refine r_c 6 (hcm) ?_;refine o_0 (.bin rfl rfl (vF cW_ (rfl))) ?_;refine ai_ ?_;refine cF (aQ_ (fun _:Unit=>gvM ⟨k,g,p,q,n,mo,l,r,lo,hi⟩ a b wZ 3 100 true) (fun _=>True) ?_ ?_);rw[gvM.eq_1];by_cases b0:bdN n;rw[decide_eq_true b0];refine r_m 21 ?_;refine a_z ?_;refine⟨(),trivial,?_⟩;exact s_x [(1,2),(2,4),(3,9),(4,10)] (fun hs=>e_1) (fun hs=>e_2);rw[decide_eq_false b0];by_cases b1:p< 0;refine r_m 21 ?_;refine d_z ?_;refine⟨(),trivial,?_⟩;exact s_x [(1,2),(2,4),(3,9),(4,10)] (fun hs=>e_1) (fun hs=>e_2);by_cases b2:8< p;refine r_m 21 ?_;refine d_z ?_;refine⟨(),trivial,?_⟩;exact s_x [(1,2),(2,4),(3,9),(4,10)] (fun hs=>e_1) (fun hs=>e_2);by_cases b3:q< 0;refine r_m 21 ?_;refine d_z ?_;refine⟨(),trivial,?_⟩;exact s_x [(1,2),(2,4),(3,9),(4,10)] (fun hs=>e_1) (fun hs=>e_2);have b4:8< q:=by unfold bdP at hb;rcases hb with h|h|h;exact absurd h b0;omega;omega
  refine r_m 21 ?_;refine d_z ?_;refine⟨(),trivial,?_⟩;exact s_x [(1,2),(2,4),(3,9),(4,10)] (fun hs=>e_1) (fun hs=>e_2);rintro _ _;rw[gvM.eq_1];refine cT (r_m 1 ?_);refine a_z ?_;refine⟨_,hZ.symm,?_⟩;rw[gvS.eq_1];exact s_x [(1,2),(2,4),(3,9),(4,10)] (fun hs=>e_1) (fun hs=>e_2);rw[if_neg hb] at hZ;have b0:¬bdN n:=fun e=>hb (.inl e);have b1:¬p< 0:=fun e=>hb (.inr (.inl (.inl e)));have b2:¬8< p:=fun e=>hb (.inr (.inl (.inr e)));have b3:¬q< 0:=fun e=>hb (.inr (.inr (.inl e)));have b4:¬8< q:=fun e=>hb (.inr (.inr (.inr e)));have b5:0≤n∧n≤63:=by unfold bdN at b0;omega
  obtain⟨P,eP⟩:∃P:Nat,(P:Int)=p:=⟨p.toNat,by omega⟩;obtain⟨Q,eQ⟩:∃Q:Nat,(Q:Int)=q:=⟨q.toNat,by omega⟩;obtain⟨M,eM⟩:∃M:Nat,(M:Int)=n:=⟨n.toNat,by omega⟩;subst eP;subst eQ;subst eM;simp only[Int.toNat_natCast] at hZ;have hJ:=s8_ a b P Q M (by omega) (by omega) (by omega) hab qa qb;have hR:=qt_ a b P Q M (by omega) (by omega) (by omega) qa qb;refine r_c 13 (hJ) ?_;refine a_z ?_;refine r_c 6 (hcm) ?_;refine o_0 (.bin rfl rfl (vF cW_ (rfl))) ?_;refine ai_ ?_;refine cF ?_;rw[decide_eq_false b0];refine q_z 21 ?_;refine cF (r_m 9 ?_);refine c_s (hR) ?_;refine a_z ?_;refine⟨_,hZ.symm,?_⟩;rw[gvS.eq_1];exact s_x [(1,2),(2,4),(3,9),(4,10)] (fun hs=>e_1) (fun hs=>e_2)
 rw[if_neg k1] at hZ;by_cases k2:k=2;rw[if_pos k2] at hZ;refine q_z 2 ?_;refine cF (q_z 2 ?_);refine cT ?_;by_cases hb:bdN n∨bdP p;rw[if_pos hb] at hZ;refine r_c 10 ((mS_ p n (by unfold bdN bdP at hb;omega))) ?_;refine a_z ?_;refine aQ_ (fun _:Unit=>gvM ⟨k,g,p,q,n,mo,l,r,lo,hi⟩ a b wZ 3 129 true) (fun _=>True) ?_ ?_;rw[gvM.eq_1];by_cases b0:bdN n;rw[decide_eq_true b0];refine r_m 11 ?_;refine a_z ?_;refine⟨(),trivial,?_⟩;exact s_x [(1,2),(2,4),(3,9),(4,10)] (fun hs=>e_1) (fun hs=>e_2);rw[decide_eq_false b0];by_cases b1:p< 0;refine r_m 11 ?_;refine d_z ?_;refine⟨(),trivial,?_⟩;exact s_x [(1,2),(2,4),(3,9),(4,10)] (fun hs=>e_1) (fun hs=>e_2);have b2:8< p:=by unfold bdP at hb;rcases hb with h|h;exact absurd h b0;omega
 refine r_m 11 ?_;refine d_z ?_;refine⟨(),trivial,?_⟩;exact s_x [(1,2),(2,4),(3,9),(4,10)] (fun hs=>e_1) (fun hs=>e_2);rintro _ _;rw[gvM.eq_1];refine cT (r_m 1 ?_);refine a_z ?_;refine⟨_,hZ.symm,?_⟩;rw[gvS.eq_1];exact s_x [(1,2),(2,4),(3,9),(4,10)] (fun hs=>e_1) (fun hs=>e_2);rw[if_neg hb] at hZ;have b0:¬bdN n:=fun e=>hb (.inl e);have b1:¬p< 0:=fun e=>hb (.inr (.inl e));have b2:¬8< p:=fun e=>hb (.inr (.inr e));have b5:0≤n∧n≤63:=by unfold bdN at b0;omega
 obtain⟨P,eP⟩:∃P:Nat,(P:Int)=p:=⟨p.toNat,by omega⟩;obtain⟨M,eM⟩:∃M:Nat,(M:Int)=n:=⟨n.toNat,by omega⟩;subst eP;subst eM;simp only[Int.toNat_natCast] at hZ;have hJ:=n8_ P M (by omega) (by omega);have hR:=mI_ P M (by omega) (by omega);refine r_c 10 (hJ) ?_;refine a_z ?_;rw[decide_eq_false b0];refine q_z 11 ?_;refine cF (r_m 6 ?_);refine c_s (hR) ?_;refine a_z ?_;refine⟨_,hZ.symm,?_⟩;rw[gvS.eq_1];exact s_x [(1,2),(2,4),(3,9),(4,10)] (fun hs=>e_1) (fun hs=>e_2);rw[if_neg k2] at hZ;refine q_z 2 ?_;refine cF (q_z 2 ?_);refine cF (aa_ (r_z 2 ?_))
 have hH:∃e,((bdN n∧e=3)∨(¬bdN n∧e=0))∧(k=3→FS 108 [i64 n] (.tup [.agg Z.1.A,i64 e]))∧(k=4→FS 109 [i64 n] (.tup [.agg Z.1.A,i64 e]))∧(k=5→FS 110 [i64 n] (.tup [.agg Z.1.A,i64 e])):=by
  by_cases b0:bdN n;rw[if_pos b0] at hZ;subst hZ;exact⟨3,.inl ⟨b0,rfl⟩,fun _=>kz_ [] n 3 (lr_ _ n b0),fun _=>px_ [] n 3 [] false false 0 0 (lr_ _ n b0) (mO_ []),fun _=>mQ_ [] n 3 [] false false 0 0 (lr_ _ n b0) (mO_ [])⟩;rw[if_neg b0] at hZ;have b5:0≤n∧n≤63:=by unfold bdN at b0;omega
  obtain⟨M,eM⟩:∃M:Nat,(M:Int)=n:=⟨n.toNat,by omega⟩;subst eM;simp only[Int.toNat_natCast] at hZ;subst hZ;refine⟨0,.inr ⟨b0,rfl⟩,fun e=>?_,fun e=>?_,fun e=>?_⟩;subst e;exact kz_ _ _ 0 (n6_ _ _ M (by omega) fs_Herm1 (m5_ 1));subst e;exact px_ _ _ 0 _ true true _ _ (n6_ _ _ M (by omega) fs_Firs1 (m5_ 2)) (mP_ _);subst e;exact mQ_ _ _ 0 _ true true _ _ (n6_ _ _ M (by omega) fs_Seco1 (m5_ 3)) (mP_ _)
 obtain⟨e,he,h3,h4,h5⟩:=hH;refine aw_ (fun _:Unit=>gvM ⟨k,g,p,q,n,mo,l,r,lo,hi⟩ a b Z.1.A e 8 (decide (bdN n))) (fun _=>True) ?_ ?_;rw[gvM.eq_1];refine ac_ ?_;by_cases k3:k=3;have h3:=h3 k3;refine q_z 2 ?_;refine cT (r_m 8 ?_);refine c_s (h3) ?_;refine a_z ?_;refine⟨(),trivial,?_⟩;exact s_x [(1,2),(2,4),(3,9),(4,10)] (fun hs=>e_1) (fun hs=>e_2);refine q_z 2 ?_;refine cF ?_;by_cases k4:k=4;have h4:=h4 k4;refine q_z 2 ?_;refine cT (r_m 8 ?_);refine c_s (h4) ?_;refine a_z ?_;refine⟨(),trivial,?_⟩;exact s_x [(1,2),(2,4),(3,9),(4,10)] (fun hs=>e_1) (fun hs=>e_2);have h5:=h5 (by omega);refine q_z 2 ?_;refine cF (r_m 8 ?_);refine c_s (h5) ?_;refine a_z ?_;refine⟨(),trivial,?_⟩;exact s_x [(1,2),(2,4),(3,9),(4,10)] (fun hs=>e_1) (fun hs=>e_2);rintro _ _;rw[gvM.eq_1];rcases he with⟨b0,rfl⟩|⟨b0,rfl⟩
 rw[if_pos b0] at hZ;rw[decide_eq_true b0];refine r_z 1 ?_;refine cT (r_m 1 ?_);refine a_z ?_;refine⟨_,hZ.symm,?_⟩;subst hZ;rw[gvS.eq_1];exact s_x [(1,2),(2,4),(3,9),(4,10)] (fun hs=>e_1) (fun hs=>e_2);rw[if_neg b0] at hZ;rw[decide_eq_false b0];have b5:0≤n∧n≤20:=by unfold bdN at b0;omega
 obtain⟨M,eM⟩:∃M:Nat,(M:Int)=n:=⟨n.toNat,by omega⟩;subst eM;simp only[Int.toNat_natCast] at hZ;have hR:=fs_rEven (k- 2) M (by omega) (by omega);rw[evS_list (by omega) (by omega),show(((k- 2:Nat):Nat):Int)=(k:Int)- 2 by omega] at hR;refine r_z 1 ?_;refine cF (r_m 8 ?_);refine c_s (hR) ?_;refine a_z ?_;refine⟨_,hZ.symm,?_⟩;subst hZ;rw[gvS.eq_1];exact s_x [(1,2),(2,4),(3,9),(4,10)] (fun hs=>e_1) (fun hs=>e_2);rintro⟨w,e⟩ rfl;rw[gvS.eq_1];refine aa_ (r_d hmix 8 ?_);refine a_8 ?_;refine ai_ (n_k ?_);refine af_ (Fin.many ⟨_,_,rfl,⟨_,_,_,_,_,rfl,rfl,rfl,.inl ⟨TG.h,_,TS.h,nle rfl,rfl⟩⟩,⟨_,_,rfl,rfl,⟨_,_,rfl,⟨_,_,_,_,_,rfl,rfl,rfl,.inl ⟨TG.h,_,TS.h,nle rfl,rfl⟩⟩,⟨_,_,rfl,rfl,rfl⟩⟩⟩⟩ (nle rfl) ?_);exact ag_ (an_ ar_ (au_ w.cA)) (ag_ (an_ ar_ (ad_ _)) (ag_ (an_ ar_ (au_ ca_)) (ag_ (an_ ar_ (ad_ _)) ao_)))
theorem jB_{x:AV}{l r:Bool}{lo hi:List AV}(hx:Closed x)(h1:∀c∈lo,Closed c)(h2:∀c∈hi,Closed c):∀c∈rwX x l r lo hi,Closed c:=fun c hc=>by
 unfold rwX at hc;rcases List.mem_append.1 hc with hc|hc
 rcases List.mem_append.1 hc with hc|hc
 exact ab_ hx (ab_ (ad_ _) (ab_ (ad_ _) ah_)) c hc;exact h1 c hc;exact h2 c hc
def ldW(x:LoR)(most:Nat):Option Wt:=
 if 1≤x.k∧x.k≤5 then
  if (most:Int)< x.n∨tameB [x.g.1,x.g.2] 2=false then none else some (gvW x).1
 else if (tameB x.mo (most+1)=false∧x.mo.length≤64)∨70< x.mo.length then none
 else some ⟨nL x.mo,x.l,x.r,nV x.lo,nV x.hi,rq (nV x.lo),rq (nV x.hi)⟩
theorem fs_Loads(x:LoR)(most:Nat)(hx:okLo x)(hm:most≤20)(hml:x.mo.length≤9223372036854775807):FS 28 [.agg (loC x),i64 most] (.tup [.agg ((ldW x most).getD wZt).A,.agg ((ldW x most).getD wZt).B,bln (ldW x most).isSome]):=by
 have hgv:=fs_given x hx;obtain⟨k,g,p,q,n,mo,l,r,lo,hi⟩:=x;obtain⟨hk255,⟨g1,g2⟩,hp,hq,hn,hmo,hlo,hhi⟩:=hx;simp only at *
 have kk:(⟨k,g,p,q,n,mo,l,r,lo,hi⟩:LoR).k=k:=rfl;have mm:(nR (⟨k,g,p,q,n,mo,l,r,lo,hi⟩:LoR).mo).length=mo.length:=by simp[nR]
 have nn:(⟨k,g,p,q,n,mo,l,r,lo,hi⟩:LoR).n=n:=rfl;have cX:=hN_ ⟨k,g,p,q,n,mo,l,r,lo,hi⟩;obtain⟨Z,hZ⟩:∃Z,Z=ldW ⟨k,g,p,q,n,mo,l,r,lo,hi⟩ most:=⟨_,rfl⟩;rw[←hZ];unfold ldW at hZ;simp only at hZ;have hT:=n7_ [g.1,g.2] 2 (by simp) (by omega);have hT2:=n7_ mo (most+1) (by omega) (by omega);have hnl:(nR mo).length=mo.length:=by simp[nR]
 refine f_c Tryz.func28 ?_;refine r_z 4 ?_;by_cases hk:1≤k∧k≤5;rw[if_pos hk] at hZ;refine aa_ (q_z 8 ?_);refine cT ?_;by_cases hn1:(most:Int)< n;rw[if_pos (.inl hn1)] at hZ;subst hZ;refine aa_ (q_z 15 ?_);refine cT (r_z 5 ?_);refine af_ (Fin.many ⟨_,_,rfl,⟨_,_,_,_,_,rfl,rfl,rfl,.inl ⟨TG.h,_,TS.h,nle rfl,rfl⟩⟩,⟨_,_,rfl,⟨_,_,_,_,_,rfl,rfl,rfl,.inl ⟨TG.h,_,TS.h,nle rfl,rfl⟩⟩,⟨_,_,rfl,rfl,rfl⟩⟩⟩ (nle rfl) ?_);exact ag_ (Cv_wZ ar_) (ag_ (Cv.agg (lR_ ar_)) (ag_ (an_ ar_ (ad_ _)) ao_));cases ht:tameB [g.1,g.2] 2 with
 |false=>
  rw[if_pos (.inr ht)] at hZ;subst hZ;rw[ht] at hT;refine aa_ (s_r 15 ?_);refine d_8 ?_;refine d_3 ?_;refine AR.op1y rfl rfl rfl (.buildSlice te_26.h TZ.h rfl (by decide) rfl rfl rfl (by simp[loC,gapC,nuC])) rfl rfl ?_;refine AR.op1y rfl rfl rfl (.callS1 rfl rfl rfl (.shut rfl d_n (.keep (.nil))) rfl (hT)) rfl rfl ?_;refine a_z ?_;refine cT (r_z 5 ?_);refine af_ (Fin.many ⟨_,_,rfl,⟨_,_,_,_,_,rfl,rfl,rfl,.inl ⟨TG.h,_,TS.h,nle rfl,rfl⟩⟩,⟨_,_,rfl,⟨_,_,_,_,_,rfl,rfl,rfl,.inl ⟨TG.h,_,TS.h,nle rfl,rfl⟩⟩,⟨_,_,rfl,rfl,rfl⟩⟩⟩ (nle rfl) ?_);exact ag_ (Cv_wZ ar_) (ag_ (Cv.agg (lR_ ar_)) (ag_ (an_ ar_ (ad_ _)) ao_))
 |true=>
  rw[if_neg (fun h=>h.elim hn1 (fun e=>by rw[ht] at e;cases e))] at hZ;subst hZ;rw[ht] at hT;have hgv:=hgv hk (by omega);generalize gvW ⟨k,g,p,q,n,mo,l,r,lo,hi⟩=G at *
  refine aa_ (s_r 15 ?_);refine d_8 ?_;refine d_3 ?_;refine AR.op1y rfl rfl rfl (.buildSlice te_26.h TZ.h rfl (by decide) rfl rfl rfl (by simp[loC,gapC,nuC])) rfl rfl ?_;refine AR.op1y rfl rfl rfl (.callS1 rfl rfl rfl (.shut rfl d_n (.keep (.nil))) rfl (hT)) rfl rfl ?_;refine a_z ?_;refine cF (ae_ (r_c 13 (hgv) ?_));refine a_z ?_;refine aa_ (r_d hmix 5 ?_);refine a_5 ?_;refine ai_ (n_k ?_);refine af_ (Fin.many ⟨_,_,rfl,⟨_,_,_,_,_,rfl,rfl,rfl,.inl ⟨TG.h,_,TS.h,nle rfl,rfl⟩⟩,⟨_,_,rfl,⟨_,_,_,_,_,rfl,rfl,rfl,.inl ⟨TG.h,_,TS.h,nle rfl,rfl⟩⟩,⟨_,_,rfl,rfl,rfl⟩⟩⟩ (nle rfl) ?_);exact ag_ (an_ ar_ (au_ (Wt.cA _))) (ag_ (an_ ar_ (au_ ca_)) (ag_ (an_ ar_ (ad_ _)) ao_))
 rw[if_neg hk] at hZ;refine aQ_ (fun _:Unit=>⟨[(1,i64 most),(2,.aptr [loC ⟨k,g,p,q,n,mo,l,r,lo,hi⟩] 0 0),(4,.lptr 1 0 0),(5,.lptr 2 0 0)],[(1,some ⟨51,9,[w0C]⟩),(2,some ⟨77,11,[rw0]⟩)],3,105⟩) (fun _=>True) ?_ ?_;by_cases k1:1≤k;refine q_z 8 ?_;refine cF (ae_ ⟨(),trivial,?_⟩);exact s_x [(1,4),(2,5)] (fun hs=>e_41) (fun hs=>e_42);refine q_z 8 ?_;refine cF (ae_ ⟨(),trivial,?_⟩);exact s_x [(1,4),(2,5)] (fun hs=>e_41) (fun hs=>e_42);rintro _ _;rw[show((most+1:Nat):Int)=((most:Nat):Int)+1 by omega] at hT2;by_cases hb:(tameB mo (most+1)=false∧mo.length≤64)∨70< mo.length;rw[if_pos hb] at hZ;subst hZ;refine aa_ (aQ_ (fun _:Unit=>⟨[(4,.lptr 1 0 0),(5,.lptr 2 0 0),(66,bln true)],[(1,some ⟨51,9,[w0C]⟩),(2,some ⟨77,11,[rw0]⟩)],3,105⟩) (fun _=>True) ?_ ?_);cases ht:tameB mo (most+1) with
 |true=>
  rw[ht] at hT2;have h70:70< mo.length:=hb.resolve_left fun h=>by rw[ht] at h;cases h.1
  refine r_m 18 ?_;refine c_s (hT2) ?_;refine d_z ?_;refine⟨(),trivial,?_⟩;exact s_x [(1,4),(2,5)] (fun hs=>e_8) (fun hs=>e_12)
 |false=>
  rw[ht] at hT2;by_cases h64:mo.length≤64;refine r_m 18 ?_;refine c_s (hT2) ?_;refine d_z ?_;refine⟨(),trivial,?_⟩;exact s_x [(1,4),(2,5)] (fun hs=>e_8) (fun hs=>e_12);refine r_m 18 ?_;refine c_s (hT2) ?_;refine d_z ?_;refine⟨(),trivial,?_⟩;exact s_x [(1,4),(2,5)] (fun hs=>e_8) (fun hs=>e_12)
 rintro _ _;refine cT (r_z 5 ?_);refine af_ (Fin.many ⟨_,_,rfl,⟨_,_,_,_,_,rfl,rfl,rfl,.inl ⟨TG.h,_,TS.h,nle rfl,rfl⟩⟩,⟨_,_,rfl,⟨_,_,_,_,_,rfl,rfl,rfl,.inl ⟨TG.h,_,TS.h,nle rfl,rfl⟩⟩,⟨_,_,rfl,rfl,rfl⟩⟩⟩ (nle rfl) ?_);exact ag_ (Cv_wZ ar_) (ag_ (Cv.agg (lR_ ar_)) (ag_ (an_ ar_ (ad_ _)) ao_));rw[if_neg hb] at hZ;subst hZ;refine aa_ (aQ_ (fun _:Unit=>⟨[(2,.aptr [loC ⟨k,g,p,q,n,mo,l,r,lo,hi⟩] 0 0),(4,.lptr 1 0 0),(5,.lptr 2 0 0),(66,bln false)],[(1,some ⟨51,9,[w0C]⟩),(2,some ⟨77,11,[rw0]⟩)],3,105⟩) (fun _=>True) ?_ ?_);cases ht:tameB mo (most+1) with
 |true=>
  rw[ht] at hT2;refine r_m 18 ?_;refine c_s (hT2) ?_;refine d_z ?_;refine⟨(),trivial,?_⟩;exact s_x [(1,4),(2,5)] (fun hs=>e_8) (fun hs=>e_12)
 |false=>
  rw[ht] at hT2;refine r_m 18 ?_;refine c_s (hT2) ?_;refine d_5 ?_;refine aA_ rfl rfl rfl (.bin rfl rfl (vF dD_ (decide_eq_false (fun h=>hb (.inl ⟨ht,by omega⟩))))) rfl rfl ?_;refine d_z ?_;refine⟨(),trivial,?_⟩;exact s_x [(1,4),(2,5)] (fun hs=>e_8) (fun hs=>e_12)
 rintro _ _;refine cF (ae_ ?_);have hL:=s7_ mo (by omega) hmo;have b1:FS 35 [.agg (nuC lo.1 lo.2.1 lo.2.2)] (.tup [.agg (qC (nV lo)),.agg (rC (rq (nV lo)))]):=g9_ _ _ _ hlo.1 hlo.2.1 hlo.2.2;have b2:FS 35 [.agg (nuC hi.1 hi.2.1 hi.2.2)] (.tup [.agg (qC (nV hi)),.agg (rC (rq (nV hi)))]):=g9_ _ _ _ hhi.1 hhi.2.1 hhi.2.2;generalize nV lo=A at *
 generalize nV hi=B at *
 generalize nL mo=LM at *
 refine r_c 8 (hL) ?_;refine a_z ?_;refine r_z 8 ?_;refine r_z 8 ?_;refine AWp.ent (st':=⟨[(2,.aptr [loC ⟨k,g,p,q,n,mo,l,r,lo,hi⟩] 0 0),(4,.lptr 1 0 0),(5,.lptr 2 0 0),(13,.lptr 3 0 0),(14,.lptr 4 0 0)],[(1,some ⟨51,9,[w0C]⟩),(2,some ⟨77,11,[rw0]⟩),(3,some ⟨51,9,[wC LM l r zC zC]⟩),(4,some ⟨77,11,[rwX (.arr (rE (rP LM))) l r zR4 zR4]⟩)],5,105⟩) ?_ ?_;refine s_x [(1,4),(2,5),(3,13),(4,14)] (fun hs=>e_8) (fun hs=>?_)
 ·repeat' (first|exact az_|refine h_c ?_ ?_|exact al_ (CvL.clo hs (a7_ (.inl rfl) (.inl rfl)))|exact al_ (CvL.clo hs (jB_ (aS_ _) bT_ bT_))|exact al_ (CvL.clo hs cp_)|exact al_ (CvL.clo hs bp_)|exact au_e|refine al_ ?_|exact ao_|refine ag_ ?_ ?_|exact an_ hs (aE_ cX)|exact au_c)
 refine r_c 10 (b1) ?_;refine a_z ?_;refine AWp.ent (st':=⟨[(2,.aptr [loC ⟨k,g,p,q,n,mo,l,r,lo,hi⟩] 0 0),(4,.lptr 1 0 0),(5,.lptr 2 0 0),(13,.lptr 3 0 0),(14,.lptr 4 0 0)],[(1,some ⟨51,9,[w0C]⟩),(2,some ⟨77,11,[rw0]⟩),(3,some ⟨51,9,[wC LM l r (qC A) zC]⟩),(4,some ⟨77,11,[rwX (.arr (rE (rP LM))) l r (rC (rq A)) zR4]⟩)],5,105⟩) ?_ ?_;refine s_x [(1,4),(2,5),(3,13),(4,14)] (fun hs=>e_8) (fun hs=>?_)
 ·repeat' (first|exact az_|refine h_c ?_ ?_|exact al_ (CvL.clo hs (a7_ (.inr ⟨_,rfl⟩) (.inl rfl)))|exact al_ (CvL.clo hs (jB_ (aS_ _) (bb_ _) bT_))|exact al_ (CvL.clo hs cp_)|exact al_ (CvL.clo hs bp_)|exact au_e|refine al_ ?_|exact ao_|refine ag_ ?_ ?_|exact an_ hs (aE_ cX)|exact au_c)
 refine r_c 10 (b2) ?_;refine a_z ?_;refine AWp.ent (st':=⟨[(4,.lptr 1 0 0),(5,.lptr 2 0 0),(13,.lptr 3 0 0),(14,.lptr 4 0 0)],[(1,some ⟨51,9,[w0C]⟩),(2,some ⟨77,11,[rw0]⟩),(3,some ⟨51,9,[wC LM l r (qC A) (qC B)]⟩),(4,some ⟨77,11,[rwC LM l r (rq A) (rq B)]⟩)],5,105⟩) ?_ ?_;refine s_x [(1,4),(2,5),(3,13),(4,14)] (fun hs=>au_f) (fun hs=>?_)
 ·repeat' (first|exact az_|refine h_c ?_ ?_|exact al_ (CvL.clo hs (a7_ (.inr ⟨_,rfl⟩) (.inr ⟨_,rfl⟩)))|exact al_ (CvL.clo hs ca_)|exact al_ (CvL.clo hs cp_)|exact al_ (CvL.clo hs bp_)|exact au_e)
 refine aa_ (r_d hmix 5 ?_);refine a_5 ?_;refine ai_ (n_k ?_);refine af_ (Fin.many ⟨_,_,rfl,⟨_,_,_,_,_,rfl,rfl,rfl,.inl ⟨TG.h,_,TS.h,nle rfl,rfl⟩⟩,⟨_,_,rfl,⟨_,_,_,_,_,rfl,rfl,rfl,.inl ⟨TG.h,_,TS.h,nle rfl,rfl⟩⟩,⟨_,_,rfl,rfl,rfl⟩⟩⟩ (nle rfl) ?_);exact ag_ (an_ ar_ (au_ (a7_ (.inr ⟨_,rfl⟩) (.inr ⟨_,rfl⟩)))) (ag_ (an_ ar_ (au_ ca_)) (ag_ (an_ ar_ (ad_ _)) ao_))
theorem evLo_ok(c:Nat):rok (evLo c).1∧rok (evLo c).2∧qs (evLo c).1.1≤256∧qs (evLo c).2.1≤256:=by
 unfold evLo;split;exact⟨iN_,iN_,by decide,by decide⟩;exact⟨aR_ _,aR_ _,by decide,by decide⟩
theorem gvW_ok(x:LoR)(hx:okLo x)(hk0:1≤x.k):(gvW x).1.Ok∧((gvW x).1.l=false→(gvW x).1.a=0)∧((gvW x).1.r=false→(gvW x).1.b=0)∧((gvW x).2=0∨(gvW x).1=wZt∧((gvW x).2=2∨(gvW x).2=3)):=by
 have hz:∀e:Int,(e=2∨e=3)→(wZt,e).1.Ok∧((wZt,e).1.l=false→(wZt,e).1.a=0)∧((wZt,e).1.r=false→(wZt,e).1.b=0)∧((wZt,e).2=0∨(wZt,e).1=wZt∧((wZt,e).2=2∨(wZt,e).2=3)):=fun e he=>⟨wZt_ok,fun _=>rfl,fun _=>rfl,.inr ⟨rfl,he⟩⟩;have qa:qs (nV x.g.1)≤256:=gx_ hx.2.1.1.1 hx.2.1.1.2.1;have qb:qs (nV x.g.2)≤256:=gx_ hx.2.1.2.1 hx.2.1.2.2.1;unfold gvW;split;split;split;exact hz 3 (.inr rfl)
 ·rename_i h
  have b5:¬bdN x.n:=fun e=>h (.inl e);have b6:¬bdP x.p:=fun e=>h (.inr (.inl e));have b7:¬bdP x.q:=fun e=>h (.inr (.inr e));unfold bdN at b5;unfold bdP at b6 b7;refine⟨⟨aR_ _,aR_ _,rfl,rfl,qa,qb,j4_ fun k hk=>(jc_mom qa qb (by omega) (by omega) k (by omega)).2,?_⟩,fun e=>(by cases e),fun e=>(by cases e),.inl rfl⟩;show(sqL _ _).length≤70;rw[d1_];omega
 exact hz 2 (.inl rfl);split;split;exact hz 3 (.inr rfl)
 ·rename_i h
  have b5:¬bdN x.n:=fun e=>h (.inl e);have b6:¬bdP x.p:=fun e=>h (.inr e);unfold bdN at b5;unfold bdP at b6;refine⟨⟨iN_,iN_,rfl,rfl,(by decide:qs 0≤256),(by decide:qs 0≤256),j4_ fun k hk=>?_,?_⟩,fun _=>rfl,fun _=>rfl,.inl rfl⟩;exact Nat.le_trans (ha_ (n:=x.p.toNat+k) (by omega)) (by decide);show(sqL _ _).length≤70;rw[d1_];omega
 split;exact hz 3 (.inr rfl)
 ·rename_i b5
  unfold bdN at b5;obtain⟨o1,o2,o3,o4⟩:=evLo_ok (x.k- 2)
  have hw:∀k,qs (evW (evK (x.k- 2)) k)≤(k/ 2) * 42+1∨200< k:=fun k=>by
   by_cases h:k≤200;refine .inl ?_;unfold evW;split;exact pD_ _ fun j hj=>m5_ _ _ (by omega);exact Nat.le_trans (by decide:qs 0≤1) (Nat.le_add_left _ _);exact .inr (by omega)
  refine⟨⟨o1,o2,rfl,rfl,o3,o4,j4_ fun k hk=>?_,?_⟩,?_,?_,.inl rfl⟩;rcases hw k with h|h <;> omega
  show(sqL _ _).length≤70;rw[d1_];omega
  all_goals
   intro e;have h0:¬1< x.k- 2:=of_decide_eq_false e;have h1:x.k- 2=1:=by omega
  show(evLo (x.k- 2)).1.1=0;unfold evLo;rw[if_pos h1];rfl;show(evLo (x.k- 2)).2.1=0;unfold evLo;rw[if_pos h1];rfl
theorem ldW_ok(x:LoR)(hx:okLo x)(most:Nat)(w:Wt)(h:ldW x most=some w):w.Ok:=by
 unfold ldW at h;split at h;split at h;cases h
 ·rename_i h1 _;cases h;exact(gvW_ok x hx h1.1).1
 split at h;cases h
 ·rename_i h2
  cases h;obtain⟨hk255,hg,hp,hq,hn,hmo,hlo,hhi⟩:=hx;refine⟨aR_ _,aR_ _,rfl,rfl,gx_ hlo.1 hlo.2.1,gx_ hhi.1 hhi.2.1,fun q hq=>Nat.le_trans (nL_qs hmo q hq) (by decide),?_⟩;show(nL x.mo).length≤70;have:(nL x.mo).length=x.mo.length:=by simp[nL]
  omega

def cgR(ch:List (List Rat))(a:RQ):Nat×Int×Int→AState
 |(i,n,last)=>⟨[(0,.arr (cR ch)),(3,.lptr 1 0 0),(5,i64 n),(6,i64 last),(7,i64 i)],[(1,some ⟨42,4,[rC a]⟩)],2,36⟩
theorem nm_(ch:List (List Rat))(a:RQ)(i:Nat)(n:Int)(last:Int):cgR ch a (i,n,last)=⟨[(0,.arr (cR ch)),(3,.lptr 1 0 0),(5,i64 n),(6,i64 last),(7,i64 i)],[(1,some ⟨42,4,[rC a]⟩)],2,36⟩:=rfl
theorem ji_(ch:List (List Rat))(a:RQ)(ha:rok a)(s t:Nat)(hs1:1≤s)(ht:qs a.1≤t)(hs:∀q∈ch,bdL q s∧q.length≤7)(hlim:9* (s+t+1)≤137438953472)(hl:ch.length≤1000000):
    FS 260 [.arr (cR ch),.agg (rC a)] (i64 (chV ch a.1)):=by
 obtain⟨R,hR⟩:∃R,R=chV ch a.1:=⟨_,rfl⟩;rw[←hR];have hcl:=tI_ ch;refine f_n Tryz.func260 ?_ ?_;exact ab_ (fT_ ch) (ab_ (bR_ a) ah_);refine r_z 2 ?_;refine r_z 2 ?_;refine aa_ (r_z 1 ?_);refine aw_ (fun _:Unit=>⟨[(5,i64 R)],[],1,36⟩) (fun _=>True) ?_ ?_;refine ac_ (ap_ (cgR ch a) (fun x=>ch.length- x.1) (fun x=>x.1≤ch.length∧0≤x.2.1∧x.2.1≤x.1∧ -1≤x.2.2∧x.2.2≤1∧chL ((ch.drop x.1).map (sgE a.1)) x.2.1 x.2.2=R) (0,0,0) ⟨Nat.zero_le _,by decide,by decide,by decide,by decide,by rw[hR];rfl⟩ ?_ ?_);simp only[nm_];have:=fT_ ch;exact s_f [(1,3)];rintro⟨i,n,last⟩ ⟨hi,hn0,hn1,hl0,hl1,hc⟩;simp only at hi hn0 hn1 hl0 hl1 hc;rw[nm_];by_cases hlt:i< ch.length;refine aa_ (q_z 4 ?_);refine cT (ae_ ?_);obtain⟨q,hq⟩:∃q,ch[i]?=some q:=⟨_,List.getElem?_eq_getElem hlt⟩;have hqm:=List.mem_of_getElem? hq;have hgt:(cR ch)[((i:Nat):Int).toNat]?=some [.arr (rE (rP q))]:=tJ_ hq
 have hd:ch.drop i=q::ch.drop (i+1):=by
  rw[List.drop_eq_getElem_cons hlt];rw[List.getElem?_eq_getElem hlt] at hq;rw[Option.some.inj hq]
 rw[hd,List.map_cons,chL] at hc;have hs2:=es_ a.1 q;obtain⟨hqb,hql⟩:=hs q hqm;have hmul:(q.length+2) * (s+t+1)≤9* (s+t+1):=Nat.mul_le_mul_right _ (by omega);have hev:=lk_ (rP q) a s t (bS_ _) ha (by rw[vR_rP];exact hqb) hs1 ht (by rw[aP_];omega) (by rw[aP_];omega);rw[vR_rP] at hev;have hsi:FS 166 [.agg (rC (rq (evalP q a.1)))] (i64 (sgE a.1 q)):=g3_ (rq (evalP q a.1));obtain⟨σ,hσ⟩:∃σ,σ=sgE a.1 q:=⟨_,rfl⟩;rw[←hσ] at hc hs2 hsi;refine aa_ (ac_ (aa_ (r_d hmix 8 ?_)));refine a_2 ?_;refine i_x hgt ?_;refine l_1 hgt ?_;refine c_s (hev) ?_;refine c_s (hsi) ?_;refine a_1 ?_;refine ai_ (n_k ?_);by_cases h0:σ=0;rw[if_neg (fun e=>e h0)] at hc;refine aa_ (s_r 8 ?_);refine a_3 ?_;refine n_g rfl (by simpa using h0) ?_;refine n_g rfl (by simpa using h0) ?_;refine n_g rfl (by simpa using h0) ?_;refine n_g rfl (by simpa using h0) ?_;refine o_0 (.pickF rfl (by simpa using h0) rfl) ?_;refine ai_ ?_;refine cF (ae_ (s_r 2 ?_));refine a_1 ?_;refine o_0 (.bin rfl rfl (vF bd_ ((by simpa using h0)))) ?_;refine ai_ ?_;refine cF (ae_ (r_m 3 ?_));refine a_z ?_;refine⟨(i+1,n,last),by simp only;omega,⟨hlt,hn0,by simp only;omega,hl0,hl1,hc⟩,?_⟩;simp only[nm_];have:=fT_ ch;exact s_f [];rw[if_pos h0] at hc;by_cases h1:σ= -last;rw[if_pos h1] at hc;refine aa_ (s_r 8 ?_);refine a_3 ?_;refine y_g rfl (by simpa using h0) (.move rfl) ?_;refine y_g rfl (by simpa using h0) (.move rfl) ?_;refine y_g rfl (by simpa using h0) (.un rfl (kL_ (by omega))) ?_
 refine y_g rfl (by simpa using h0) (.bin rfl rfl (vT aU_ (decide_eq_true h1))) ?_;refine o_0 (.pickT rfl (by simpa using h0) rfl) ?_;refine ai_ ?_;refine cT (r_m 3 ?_);refine a_z ?_;refine s_r 2 ?_;refine a_1 ?_;refine o_0 (.bin rfl rfl (vT bd_ ((by simpa using h0)))) ?_;refine ai_ ?_;refine cT (r_m 2 ?_);refine a_z ?_;refine r_m 3 ?_;refine a_z ?_;refine⟨(i+1,n+1,σ),by simp only;omega,⟨hlt,by simp only;omega,by simp only;omega,hs2.1,hs2.2,hc⟩,?_⟩;simp only[nm_];have:=fT_ ch;exact s_f [];rw[if_neg h1] at hc;refine aa_ (s_r 8 ?_);refine a_3 ?_;refine y_g rfl (by simpa using h0) (.move rfl) ?_;refine y_g rfl (by simpa using h0) (.move rfl) ?_;refine y_g rfl (by simpa using h0) (.un rfl (kL_ (by omega))) ?_;refine y_g rfl (by simpa using h0) (.bin rfl rfl (vF aU_ (decide_eq_false h1))) ?_;refine o_0 (.pickT rfl (by simpa using h0) rfl) ?_;refine ai_ ?_;refine cF (ae_ (s_r 2 ?_));refine a_1 ?_;refine o_0 (.bin rfl rfl (vT bd_ ((by simpa using h0)))) ?_;refine ai_ ?_;refine cT (r_m 2 ?_);refine a_z ?_;refine r_m 3 ?_;refine a_z ?_;refine⟨(i+1,n,σ),by simp only;omega,⟨hlt,hn0,by simp only;omega,hs2.1,hs2.2,hc⟩,?_⟩;simp only[nm_];have:=fT_ ch;exact s_f [];refine aa_ (q_z 4 ?_);refine cF ?_;have hge:i=ch.length:=by omega
 subst hge;rw[List.drop_length] at hc;have hc':n=R:=hc;subst hc';refine am_ ⟨(),trivial,?_⟩;exact s_e [];rintro _ _;refine r_z 2 ?_;exact af_ (t_e (ad_ _))
theorem qN_{p:List Rat}{s:Nat}(h:bdL p s)(hs:1≤s)(hl:p.length≤1000000):bdL (at_ p) (s+64):=fun q hq=>by
 have h1:=be_ hq;unfold tabP at h1;obtain⟨i,hi,rfl⟩:=List.mem_map.1 h1;have h2:=bJ_ (coP p (i+1)) ((i+1:Nat):Int);have h3:=f2_ (i+1) (by have:=List.mem_range.1 hi;omega);have h4:=bd_co' h hs (i+1);omega
def sR:List (List Rat)→AState
 |L=>⟨[(3,.lsl 1 0 L.length none 1)],[(1,some ⟨66,1,cR L⟩)],2,48⟩
theorem sR_mk(L:List (List Rat)):sR L=⟨[(3,.lsl 1 0 L.length none 1)],[(1,some ⟨66,1,cR L⟩)],2,48⟩:=rfl
theorem eW_(l:List (List Rat)):∀e∈cR l,∀c∈e,Closed c:=fun e he c hc=>by
 obtain⟨q,_,rfl⟩:=List.mem_map.1 he;rw[List.mem_singleton.1 hc];exact aS_ _
def RInv(f:Nat)(out:List (List Rat))(k:Nat)(L:List (List Rat)):Prop:=
 (L.length=1∧out=L)∨(2≤L.length∧∃u v,L[L.length- 2]?=some u∧L[L.length- 1]?=some v∧en_ f k v (av_ (divP u v).2 (-1)) L=some out)
theorem tF_{f k:Nat}{a b:List Rat}{L out:List (List Rat)}(h:en_ f k a b L=some out):∀q∈L,q∈out:=fun q hq=>by
 obtain⟨M,e,_⟩:=fn_ f k a b L out h;rw[e];exact List.mem_append_left _ hq
theorem sN_ (f T s S W:Nat) (x:List RQ) (out:List (List Rat)) (hx:okX x) (hs:bdL (vR x) s) (hs1:1≤s) (hz:nz (vR x)) (hst:er_ f (vR x)=some out) (hall:∀q∈out,nz q∧q.length≤7∧bdL q T) (hT1:1≤T) (hf:f≤100000)
    (hS:s+64≤S) (hlim:11* S≤137438953472) (hW:3* T+3≤W) (hlT:1408* W≤137438953472) (hxl:x.length≤7):FS 259 [.arr (rE x)] (.arr (cR out)):=by
 unfold er_ at hst;split at hst
 case isFalse=>cases hst
 case isTrue hp=>
 have hi1:FS 112 [i64 (-1)] (.agg (rC (rq (-1)))):=bF_ (-1) (by decide);have hm1:qs (-1)=1:=by decide
 have w1:(x.length+4) * s≤11* S:=Nat.mul_le_mul (by omega) (by omega);have hpr:=fc_ x s hx hs hs1 hz (by omega) (by omega);have hde:=kt_ x s hx hs (by omega) (by omega);have hdl:=dd_ (vR x);rw[a3_] at hdl;refine f_c Tryz.func259 ?_;refine r_z 1 ?_;refine r_c 4 (hpr) ?_;refine a_z ?_;obtain⟨L0,hL0⟩:∃L0,L0=[primP (vR x)]:=⟨_,rfl⟩;have hL1:L0.length=1:=by rw[hL0];rfl
 refine AWp.ent (st':=⟨[(0,.arr (rE x)),(3,.lsl 1 0 L0.length none 1)],[(1,some ⟨66,1,cR L0⟩)],2,48⟩) ?_ ?_;rw[hL1,hL0];have:=(eW_ [primP (vR x)]);exact s_f [(1,3)];refine aa_ (r_c 3 (dw_ x (by omega)) ?_);refine a_z ?_;refine aw_ (fun x:Nat×List (List Rat)=>sR x.2) (fun x=>RInv f out x.1 x.2∧x.1+x.2.length≤f+1) ?_ ?_;by_cases hd:0< degP (vR x)
 ·have hn:nz (at_ (vR x)):=by
   have h1:=fl_ hz;exact(na_ (by omega) hz).1
  cases f with
  |zero=>cases hst
  |succ k=>
   rw[en_,if_neg hn] at hst;split at hst
   case isFalse=>cases hst
   case isTrue hok=>
   have w2:((rP (at_ (vR x))).length+4) * (s+64)≤11* S:=Nat.mul_le_mul (by rw[aP_];omega) hS;have hpd:=fc_ (rP (at_ (vR x))) (s+64) (bS_ _) (by rw[vR_rP];exact qN_ hs hs1 (by rw[a3_];omega)) (by omega) (by rw[vR_rP];exact hn) (Nat.le_trans w2 hlim) (by rw[aP_];omega);rw[vR_rP] at hpd;obtain⟨d,hde'⟩:∃d,d=primP (at_ (vR x)):=⟨_,rfl⟩;rw[←hde'] at hpd hst
   have hI:RInv (k+1) out k (L0++[d]):=by
    rw[hL0];exact .inr ⟨by simp,primP (vR x),d,rfl,rfl,hst⟩
   have hla:(L0++[d]).length=L0.length+1:=by simp
   have hone:=cR_one L0;refine aj_ rfl (fun h1=>?_) (fun h1=>?_)
   ·refine r_m 7 ?_
    refine c_s (hde) ?_;refine c_s (hpd) ?_;refine o_1 (.buildSlice te_303.h TZ.h rfl (by decide) rfl rfl rfl (by first|(simp;done)|(simp[bv_,ofV];done)|rfl)) ?_;refine o_2 (.append_l rfl rfl rfl te_303.h rfl rfl rfl rfl rfl d_o (by first|exact cK_ _|exact cH_ _|exact cr_ _|exact cL_ _|exact cy_ _|assumption|rfl|simp) (by first|rfl|exact cK_ _|exact cH_ _|exact cr_ _|exact cL_ _|exact cy_ _|simp) rfl (.lsl rfl (nle rfl)) TZ.h rfl TB.h d_o (by first|(simp[maxLen];done)|(simp[maxLen];omega))) ?_;refine o_0 (.assign rfl) ?_;refine ai_ ?_;refine⟨(k,L0++[d]),⟨hI,by simp only;omega⟩,?_⟩;simp only[sR_mk,hla];refine s_x [(1,3)] (fun hs=>au_f) (fun hs=>?_)
    ·repeat' (first|exact az_|refine h_c ?_ ?_|exact aC_ hs (tH_ L0 d).symm (eW_ _)|exact au_e)
   simp at h1;omega
 have hn:¬nz (at_ (vR x)):=fun e=>by
  have h1:=fl_ hz
  have h2:(trimQ (vR x)).length=1:=by
   have:=List.length_pos_iff.2 hz;unfold dg at h1;omega
  obtain⟨c,_,hc⟩:=hV_ hz (by unfold dg;omega)
  have h3:trimQ (at_ (vR x))=[]:=trim_nil_iff.2 fun i=>by
   rw[bm_,←bg_ (vR x),co_ (by omega),Rat.zero_mul]
  exact e h3
 have e:out=[primP (vR x)]:=by
  cases f with
  |zero=>cases hst
  |succ k=>
   rw[en_,if_pos (Decidable.byContradiction hn)] at hst;exact(Option.some.inj hst).symm
 refine aj_ rfl (fun h1=>?_) (fun h1=>?_);simp at h1;omega;refine ae_ (⟨(f,L0),⟨.inl ⟨hL1,by rw[e,hL0]⟩,by simp only;omega⟩,?_⟩);simp only[sR_mk];exact s_x [] (fun hs=>au_f) (fun hs=>e_15);rintro⟨k,L⟩ ⟨hI,hkL⟩;simp only at hI hkL;simp only[sR_mk];refine aa_ (aw_ (fun _:Unit=>sR out) (fun _=>True) ?_ ?_);refine ac_ (ap_ (fun x:Nat×List (List Rat)=>sR x.2) (fun x=>x.1) (fun x=>RInv f out x.1 x.2∧x.1+x.2.length≤f+1) (k,L) ⟨hI,hkL⟩ ?_ ?_);simp only[sR_mk];exact s_x [] (fun hs=>au_f) (fun hs=>e_15);rintro⟨k,L⟩ ⟨hI,hkL⟩;simp only at hI hkL;simp only[sR_mk];rcases hI with⟨hL1,rfl⟩|⟨hL2,u,v,hu,hv,hch⟩
 refine aa_ (q_z 3 ?_);refine cF (am_ ⟨(),trivial,?_⟩);simp only[sR_mk];exact s_x [] (fun hs=>au_f) (fun hs=>e_15);refine aa_ (q_z 3 ?_);refine cT (ae_ ?_);have hmem:=tF_ hch;obtain⟨nu,lu,bu⟩:=hall u (hmem u (List.mem_of_getElem? hu));obtain⟨nv,lv,bv⟩:=hall v (hmem v (List.mem_of_getElem? hv))
 have hg1:(cR L)[0+(((L.length:Nat):Int)- 2).toNat]?=some [.arr (rE (rP u))]:=by
  rw[show 0+(((L.length:Nat):Int)- 2).toNat=L.length- 2 by omega];exact tJ_ hu
 have hg2:(cR L)[0+(((L.length:Nat):Int)- 1).toNat]?=some [.arr (rE (rP v))]:=by
  rw[show 0+(((L.length:Nat):Int)- 1).toNat=L.length- 1 by omega];exact tJ_ hv
 have hexp:2^ (rP u).length≤2^ 7:=Nat.pow_le_pow_right (by decide) (by rw[aP_];exact lu);have hdm:=Nat.mul_le_mul (show T+2* T+3≤W by omega) hexp;obtain⟨a,r,ro,r1,r2,r3,r4,hdv⟩:=hF_ (rP u) (rP v) T T (bS_ _) (bS_ _) (by rw[vR_rP];exact bu) (by rw[vR_rP];exact bv) hT1 hT1 (by rw[vR_rP];exact nv) (by omega) (by rw[aP_];omega) (by rw[aP_];omega);rw[vR_rP,vR_rP] at r2;rw[aP_] at r4
 have hbr:bdL (vR r) (128* W):=by
  refine dM_ fun i=>?_;rw[←bg_,r2]
  have:=(fk_ (L:=128* W) bu bv hT1 hT1 nv (Nat.mul_le_mul (show _≤2^ 7 from Nat.pow_le_pow_right (by decide) (by
   have h1:=aB_ u;have h2:=List.length_pos_iff.2 nv;omega)) (by omega))).2
  exact bj_ this (by omega) i
 have hnx:av_ (vR r) (-1)=av_ (divP u v).2 (-1):=hy_ fun i=>by rw[←bg_,r2]
 have hdr:degP (vR r)< 0↔trimQ (av_ (divP u v).2 (-1))=[]:=by
  rw[degP_neg,←List.length_eq_zero_iff,←List.length_eq_zero_iff,←hnx,eK_ (by decide+kernel)]
 refine ac_ (aa_ (r_d hmix 18 ?_));refine a_4 ?_
 first|refine aq_ (.index_l rfl rfl (by omega) (by omega) te_303.h) rfl rfl ?_|refine aq_ (.index_a rfl rfl (by omega) hg1 rfl te_303.h) rfl rfl ?_
 first|refine aq_ (.load_l1 rfl rfl hg1 TG.h rfl) rfl rfl ?_|refine aq_ (.load_a1 rfl hg1 TG.h rfl) rfl rfl ?_
 refine a_4 ?_
 first|refine aq_ (.index_l rfl rfl (by omega) (by omega) te_303.h) rfl rfl ?_|refine aq_ (.index_a rfl rfl (by omega) hg2 rfl te_303.h) rfl rfl ?_
 first|refine aq_ (.load_l1 rfl rfl hg2 TG.h rfl) rfl rfl ?_|refine aq_ (.load_a1 rfl hg2 TG.h rfl) rfl rfl ?_
 refine c_s (hdv) ?_;refine a_5 ?_;refine ai_ (n_k ?_);refine aa_ (r_c 3 (dw_ r (by omega)) ?_);refine a_z ?_;cases k with
 |zero=>cases hch
 |succ k=>
  rw[en_] at hch;refine aj_ rfl (fun h1=>?_) (fun h1=>?_);rw[if_pos (hdr.1 (by simpa using h1))] at hch;cases hch;refine am_ ⟨(),trivial,?_⟩;simp only[sR_mk];exact s_x [] (fun hs=>au_f) (fun hs=>e_15)
  ·have hn:nz (av_ (divP u v).2 (-1)):=fun e=>by have:=hdr.2 e;simp at h1;omega
   rw[if_neg hn] at hch;split at hch
   case isFalse=>cases hch
   case isTrue hok=>
   have hsc:=eP_ r (rq (-1)) (128* W) ro (aR_ _) hbr (by show _+qs (-1)≤_;omega) (by omega);have hsc':FS 131 [.arr (rE r),.agg (rC (rq (-1)))] (.arr (rE (rP (av_ (divP u v).2 (-1))))):=by rw[←hnx];exact hsc
   have hsl:(av_ (divP u v).2 (-1)).length≤7:=by
    rw[←hnx];have:=bM_ (vR r) (-1);rw[a3_] at this;omega
   have hsb:bdL (av_ (divP u v).2 (-1)) (128* W):=dM_ fun i=>by
    rw[←hnx,a5_,show coP (vR r) i* -1= -coP (vR r) i by grind,dG_];exact bj_ hbr (by omega) i
   have w3:((rP (av_ (divP u v).2 (-1))).length+4) * (128* W)≤137438953472:=Nat.le_trans (Nat.mul_le_mul_right _ (show _≤11 by rw[aP_];omega)) (by omega);have hpn:=fc_ (rP (av_ (divP u v).2 (-1))) (128* W) (bS_ _) (by rw[vR_rP];exact hsb) (by omega) (by rw[vR_rP];exact hn) w3 (by rw[aP_];omega);rw[vR_rP] at hpn;have hone:=cR_one L;refine ae_ (r_m 8 ?_);refine c_s (hi1) ?_;refine c_s (hsc') ?_;refine c_s (hpn) ?_;refine o_1 (.buildSlice te_303.h TZ.h rfl (by decide) rfl rfl rfl (by first|(simp;done)|(simp[bv_,ofV];done)|rfl)) ?_;refine o_2 (.append_l rfl rfl rfl te_303.h rfl rfl rfl rfl rfl d_o (by first|exact cK_ _|exact cH_ _|exact cr_ _|exact cL_ _|exact cy_ _|assumption|rfl|simp) (by first|rfl|exact cK_ _|exact cH_ _|exact cr_ _|exact cL_ _|exact cy_ _|simp) rfl (.lsl rfl (nle rfl)) TZ.h rfl TB.h d_o (by first|(simp[maxLen];done)|(simp[maxLen];omega))) ?_;refine o_0 (.assign rfl) ?_;refine ai_ ?_;have hla:(L++[primP (av_ (divP u v).2 (-1))]).length=L.length+1:=by simp
   refine⟨(k,L++[primP (av_ (divP u v).2 (-1))]),Nat.lt_succ_self k,⟨.inr ⟨by simp only;omega,v,primP (av_ (divP u v).2 (-1)),?_,?_,hch⟩,by simp only;omega⟩,?_⟩;rw[hla,show L.length+1- 2=L.length- 1 by omega,List.getElem?_append_left (by omega)];exact hv;rw[hla];simp;simp only[sR_mk,hla];refine s_x [(1,3)] (fun hs=>au_f) (fun hs=>?_)
   ·repeat' (first|exact az_|refine h_c ?_ ?_|exact aC_ hs (tH_ L _).symm (eW_ _)|exact au_e)
 rintro _ _;simp only[sR_mk];refine r_z 2 ?_;exact af_ (Fin.tmpS rfl rfl rfl (by simp) (eW_ out))
theorem qs_(p:List Rat)(c:Cnt)(h:CN p c)(x:RQ)(hx:rok x)(hq:qs x.1≤1000000):FS 211 [.arr (rE (rP p)),.agg (rC x)] (i64 (uptoV c x.1)):=by
 obtain⟨f1,f2,f3,f4,f5,f6⟩:=dh_ h.hc h.np;have hpl:=h.pl;have hsl:=h.sl;have hcl:=h.cl;have hsq:=gs_ 9 20000 (rP p) c.p (bS_ _) (by rw[vR_rP];exact f2) (by rw[vR_rP];exact h.sz) (by decide) (by decide) (by rw[vR_rP];exact h.gb) (by rw[aP_];omega);have hbo:=mL_ (rP c.p) 140168 (bS_ _) (by rw[vR_rP];exact h.sb) (by decide) (by rw[vR_rP];exact h.sn) (by decide) (by rw[aP_];omega);rw[vR_rP] at hbo;have hbq:=iw_ h.sb (by decide);obtain⟨b,hb⟩:∃b,b=aN_ c.p:=⟨_,rfl⟩;rw[←hb] at hbo hbq f4 f5;have hng:FS 128 [.agg (rC (rq b))] (.agg (rC (rq (-b)))):=n1_ (rq b) (aR_ _);have hnq:=dG_ b;have hcm:=jk_ x (rq (-b)) hx (aR_ _) (by show qs x.1+qs (-b)≤_;omega);have hst:=sN_ 9 20000000 140168 140232 60000003 (rP c.p) c.ch (bS_ _) (by rw[vR_rP];exact h.sb) (by decide) (by rw[vR_rP];exact h.sn) (by rw[vR_rP];exact f3) h.all (by decide) (by decide) (by decide) (by decide) (by decide) (by decide) (by rw[aP_];exact hsl);have hc1:=ji_ c.ch (rq (-b)) (aR_ _) 20000000 1000000 (by decide) (by show qs (-b)≤_;omega) (fun q hq=>⟨(h.all q hq).2.2,(h.all q hq).2.1⟩) (by decide) (by omega);have hc2:=ji_ c.ch x hx 20000000 1000000 (by decide) hq (fun q hq=>⟨(h.all q hq).2.2,(h.all q hq).2.1⟩) (by decide) (by omega);have hb1:=hh_ (c.ch.map (sgE (-b))) 0 0;have hb2:=hh_ (c.ch.map (sgE x.1)) 0 0;rw[List.length_map] at hb1 hb2;have hu:uptoV c x.1=chV c.ch (-b)- chV c.ch x.1:=by unfold uptoV;rw[f4];rfl
 have hc1':FS 260 [.arr (cR c.ch),.agg (rC (rq (-b)))] (i64 (chV c.ch (-b))):=hc1;have hv1:0≤chV c.ch (-b)∧chV c.ch (-b)≤8:=⟨hb1.1,by have:=hb1.2;unfold chV;omega⟩;have hv2:0≤chV c.ch x.1∧chV c.ch x.1≤8:=⟨hb2.1,by have:=hb2.2;unfold chV;omega⟩;refine f_c Tryz.func211 ?_;refine r_z 2 ?_;refine r_c 3 (hsq) ?_;refine a_z ?_;refine r_c 5 (hbo) ?_;refine c_s (hng) ?_;refine a_z ?_;by_cases hle:cmpQ x.1 (-b)≤0
 have h0:uptoV c x.1=0:=f5 _ (by
  unfold cmpQ at hle;split at hle;grind;split at hle;grind;omega)
 refine aa_ (r_c 4 (hcm) ?_);refine o_0 (.bin rfl rfl (vT dD_ (decide_eq_true hle))) ?_;refine ai_ ?_;refine cT (s_r 1 ?_);refine o_0 (.assign rfl) ?_;refine ai_ ?_;refine af_ ?_;rw[h0];exact t_e (ad_ _);refine aa_ (r_c 4 (hcm) ?_);refine o_0 (.bin rfl rfl (vF dD_ (decide_eq_false hle))) ?_;refine ai_ ?_;refine cF (ae_ (r_c 3 (hst) ?_));refine a_z ?_;refine aa_ (r_d hmix 8 ?_);refine c_s (hc1') ?_;refine c_s (hc2) ?_;refine a_2 ?_;refine ai_ (n_k ?_);refine af_ ?_;rw[hu];exact t_e (ad_ _)
theorem fs_rSqf(p:List Rat)(c:Cnt)(h:CN p c):FS 213 [.arr (rE (rP p))] (.arr (rE (rP c.p))):=
 gs_ 9 20000 (rP p) c.p (bS_ _) (by rw[vR_rP];exact(dh_ h.hc h.np).2.1) (by rw[vR_rP];exact h.sz) (by decide) (by decide) (by rw[vR_rP];exact h.gb) (by have:=h.pl;rw[aP_];omega)
theorem cmp0{a b:Rat}:cmpQ a b=0↔a=b:=by
 unfold cmpQ;by_cases h:a< b;rw[if_pos h];exact⟨fun e=>absurd e (by decide),fun e=>absurd h (by rw[e];grind)⟩;rw[if_neg h];by_cases e:a=b;rw[if_pos e];exact⟨fun _=>e,fun _=>rfl⟩;rw[if_neg e];exact⟨fun h=>absurd h (by decide),fun h=>absurd h e⟩
theorem fs_rAll(p:List Rat)(c:Cnt)(h:CN p c):FS 133 [.arr (rE (rP p))] (i64 (uptoV c (aN_ c.p))):=by
 have hq:=iw_ h.sb (by decide);have h1:=fs_rSqf p c h;have h2:=mL_ (rP c.p) 140168 (bS_ _) (by rw[vR_rP];exact h.sb) (by decide) (by rw[vR_rP];exact h.sn) (by decide) (by have:=h.sl;simp[rP];omega);rw[vR_rP] at h2;have h3:=qs_ p c h (rq (aN_ c.p)) (aR_ _) (by show qs (aN_ c.p)≤_;omega);refine f_c Tryz.func133 ?_;refine r_z 1 ?_;refine r_c 6 (h1) ?_;refine c_s (h2) ?_;refine c_s (h3) ?_;refine a_z ?_;exact af_ (t_e (ad_ _))
abbrev rruC(p w:List Rat):List AV:=[.arr (rE (rP p)),.arr (rE (rP w))]
theorem fm_(p w:List Rat):∀c∈rruC p w,Closed c:=ab_ (aS_ _) (ab_ (aS_ _) ah_)
end Go.Proofs.YtdjfjpeoddmamaaGreatDoor
namespace Go.Proofs.YtdjfjpeoddmamaaGreatDoor
open Go.Abs Go.Deep Go.RowKit Go.WideShapes
set_option maxRecDepth 20000

end Go.Proofs.YtdjfjpeoddmamaaGreatDoor
