/- Part V27 of the proof. -/
import Derived.Test.YtjkddcfoolilbaaGreatDoorV26
set_option linter.all false
namespace Go.Proofs.YtjkddcfoolilbaaGreatDoor
open Go.Abs
set_option maxRecDepth 100000
set_option maxHeartbeats 2000000
theorem qs_pow{x:Rat}{t:Nat}(h:qs x≤t):∀n,qs (x^ n)≤n* t+1
 |0=>by rw[Rat.pow_zero];exact Nat.le_trans (by decide:qs 1≤1) (Nat.le_add_left 1 _)
 |n+1=>by
  have h1:=qs_pow h n;have h2:=cE_ (x^ n) x;rw[Rat.pow_succ,Nat.succ_mul];omega
def evS(x:List RQ)(a:RQ):Nat×Rat×Rat→AState
 |(i,o,w)=>⟨[(0,.arr (rE x)),(3,.lptr 1 0 0),(4,.lptr 2 0 0),(5,.lptr 3 0 0),(6,.lptr 4 0 0),(7,i64 i)],[(1,some ⟨51,4,[rC a]⟩),(2,some ⟨51,4,[zR4]⟩),(3,some ⟨51,4,[rC (rq o)]⟩),(4,some ⟨51,4,[rC (rq w)]⟩)],5,28⟩
theorem fs_rEval(x:List RQ)(a:RQ)(s t:Nat)(hx:okX x)(ha:rok a)(hs:bdL (vR x) s)(hs1:1≤s)(ht:qs a.1≤t)(hlim:(x.length+2) * (s+t+1)≤137438953472)(hl:x.length≤1000000):
    FS 63 [.arr (rE x),.agg (rC a)] (.agg (rC (rq (evalP (vR x) a.1)))):=by
 have hi0:FS 49 [i64 0] (.agg (rC (rq 0))):=e8_ 0 (by decide);have hi1:FS 49 [i64 1] (.agg (rC (rq 1))):=e8_ 1 (by decide);have hvl:=dp_ x;refine f_c Tryz.func63 ?_;refine r_z 2 ?_;refine r_c 6 (hi0) ?_;refine c_s (hi1) ?_;refine a_z ?_;refine ab_ (r_z 1 ?_);refine aw_ (fun _:Unit=>⟨[(4,.lptr 1 0 0),(5,.lptr 2 0 0)],[(1,some ⟨51,4,[zR4]⟩),(2,some ⟨51,4,[rC (rq (evalP (vR x) a.1))]⟩)],3,28⟩) (fun _=>True) ?_ ?_;refine ae_ (aq_ (evS x a) (fun y=>x.length- y.1) (fun y=>y.1≤x.length∧y.2.1=evalP ((vR x).take y.1) a.1∧y.2.2=a.1^ y.1) (0,0,1) ⟨Nat.zero_le _,rfl,(Rat.pow_zero _).symm⟩ ?_ ?_);simp only[evS.eq_1];exact s_e [(1,3),(2,4),(3,5),(4,6)];rintro⟨i,o,w⟩ ⟨hi,ho,hw⟩;simp only at hi ho hw;rw[evS.eq_1];refine ab_ (r_z 4 ?_);refine aj_ rfl (fun h=>?_) (fun h=>?_);refine ah_ ?_;have hlt:i< x.length:=by simpa using h
 obtain⟨y,hy,hyc⟩:=gf_ hlt;have hym:=List.mem_of_getElem? hy;have hgt:(rE x)[((i:Nat):Int).toNat]?=some (rC y):=e0_ hy;have hc:=de_ hs hs1 i;rw[←hyc] at hc;have hp:=qs_pow ht i;rw[←hw] at hp;have hob:=gE_ ht (l:=(vR x).take i) (s:=s) fun q hq=>hs q (List.mem_of_mem_take hq);rw[←ho,List.length_take,hvl,Nat.min_eq_left (by omega)] at hob;have e1:(i+1) * (s+t+1)≤(x.length+1) * (s+t+1):=Nat.mul_le_mul_right _ (by omega);have e2:(x.length+2) * (s+t+1)=(x.length+1) * (s+t+1)+(s+t+1):=Nat.succ_mul _ _;have e3:(i+1) * (s+t+1)=i* (s+t+1)+(s+t+1):=Nat.succ_mul _ _;have e4:i* t≤i* (s+t+1):=Nat.mul_le_mul_left _ (by omega);have m1:=kH_ y (rq w) (hx y hym) (du_ _) (by show qs y.1+qs w≤_;omega);have q1:=cE_ y.1 w;have m2:=iW_ (rq o) (rq (y.1* w)) (du_ _) (du_ _) (by show qs o+qs (y.1* w)≤_;omega);have m3:=kH_ (rq w) a (du_ _) ha (by show qs w+qs a.1≤_;omega);refine ab_ (ae_ (ab_ (r_d hmix 9 ?_)));refine a_3 ?_;refine i_x hgt ?_;refine l_x hgt ?_;refine c_s (m1) ?_;refine c_s (m2) ?_;refine a_1 ?_;refine al_ (n_k ?_);refine r_m 4 ?_;refine c_s (m3) ?_;refine a_z ?_;refine r_m 3 ?_;refine a_z ?_;refine⟨(i+1,o+y.1* w,w* a.1),by simp only;omega,⟨hlt,?_,by simp only;rw[hw,Rat.pow_succ]⟩,?_⟩;simp only;rw[g3_ _ _ _ (by omega),←ho,hyc,hw];simp only[evS.eq_1];exact s_e []
 have hge:i=x.length:=by
  have:¬i< x.length:=by simpa using h
  omega
 subst hge;rw[List.take_of_length_le (by omega)] at ho;subst ho;refine ao_ ⟨(),trivial,?_⟩;exact s_e [(1,4),(2,5)];rintro _ _;refine r_z 2 ?_;exact af_ (c_e (cJ_ _))
theorem mR_two{p:List Rat}{s t:Nat}{c d:Rat}(hp:bdL p s)(hs:1≤s)(hq:bdL [c,d] t)(ht:1≤t)(n:Nat)(hn:n≤2):bdL (mR p [c,d] n) (2* (s+t+1)+1):=
 ii_ (mR_bd hp hq hs ht n) (by have:=Nat.mul_le_mul_right (s+t+1) hn;omega)
theorem nE_{c:Rat}(hc:qs c≤20):bdL [c,i1Q] 20:=fun q hq=>by
 rcases List.mem_cons.1 hq with rfl|hq
 exact hc;rw[List.mem_singleton.1 hq];exact Nat.le_trans (by decide:qs i1Q≤1) (by decide)
theorem q5_{c:Rat}(hc:qs c≤20):∀i,bdL (pwC c i) (pwB i)
 |0=>fun q hq=>by
  have h:q=i1Q:=List.mem_singleton.1 (bp_ (l:=[i1Q]) hq);rw[h];decide
 |i+1=>by
  have h:=mR_two (q5_ hc i) (kp_ i) (nE_ hc) (by decide) 2 (Nat.le_refl _);have e:=oq_ (pwC c i) [c,i1Q];rw[show [c,i1Q].length=2 from rfl] at e;rw[e] at h;exact h
theorem cmT_bd{c:Rat}{p:List Rat}{s:Nat}(hc:qs c≤20)(hp:bdL p s)(hs:1≤s)(hl:p.length≤18):∀i,i≤p.length→bdL (cmT c p i) (i* (20000000+s+1)+1)∧(cmT c p i).length≤i
 |0,_=>⟨fun q hq=>by simp[cmT] at hq,Nat.zero_le _⟩
 |i+1,h=>by
  obtain⟨h1,h2⟩:=cmT_bd hc hp hs hl i (by omega);have h3:=lH_ (q5_ hc i) (kp_ i) (de_ hp hs i);have h4:=nF_ h1 h3 (by omega) (by have:=kp_ i;omega);have h5:=dM_ (cmT c p i) (aN_ (pwC c i) (coP p i));have h6:=bG_ (pwC c i) (coP p i);have h7:=m0_ c i;have h8:=pwB_le (show i≤18 by omega);have h9:pwB 18≤20000000:=by decide
  rw[cmT];exact⟨bdL_mono' h4 (by rw[Nat.succ_mul];omega),by omega⟩
def cmS(p:List Rat)(c:Rat):Nat→AState
 |i=>⟨[(0,.arr (rE (rP p))),(1,.arr (rE (rP [c,i1Q]))),(5,.arr (rE (rP (cmT c p i)))),(6,.arr (rE (rP (pwC c i)))),(7,i64 i)],[],1,28⟩
theorem f6_(p:List Rat)(c:Rat)(s:Nat)(hc:qs c≤20)(hp:bdL p s)(hs:1≤s)(hl:p.length≤18)(hs2:s≤1000000000):FS 48 [.arr (rE (rP p)),.arr (rE (rP [c,i1Q]))] (.arr (rE (rP (compP [c,1] p)))):=by
 have hi1:=e8_ 1 (by decide);have hco:=hC_ i1Q;have hpl:=cC_ p;have hB:pwB 18≤20000000:=by decide
 refine f_c Tryz.func48 ?_;refine r_z 1 ?_;refine r_z 1 ?_;refine r_c 3 (hi1) ?_;refine c_s (hco) ?_;refine a_z ?_;refine ab_ (r_z 1 ?_);refine aw_ (fun _:Unit=>⟨[(5,.arr (rE (rP (cmT c p p.length))))],[],1,28⟩) (fun _=>True) ?_ ?_;refine ae_ (aq_ (cmS p c) (fun i=>p.length- i) (fun i=>i≤p.length) 0 (Nat.zero_le _) ?_ ?_);rw[cmS.eq_1];exact s_f [];intro i hi;rw[cmS.eq_1];have hrl:(rE (rP p)).length=p.length:=by simp[rE]
 by_cases hlt:i< p.length
 have hgt:(rE (rP p))[((i:Nat):Int).toNat]?=some (rC (rq (coP p i))):=by
  obtain⟨y,hy,hyc⟩:=gf_ (x:=rP p) (i:=i) (by omega)
  have hv:y=rq (coP p i):=by
   have h1:(rP p)[i]?=some (rq p[i]):=by simp[rP,hlt]
   rw[hy] at h1;cases h1;unfold coP;rw[List.getD_eq_getElem?_getD,List.getElem?_eq_getElem hlt];rfl
  rw[hv] at hy;exact e0_ hy
 have b1:=q5_ hc i;have b2:=pwB_le (show i≤18 by omega);have b3:=kp_ i;have b4:=de_ hp hs i;obtain⟨b5,b6⟩:=cmT_bd hc hp hs (by omega) i hi;have l1:=m0_ c i;have m1:=gA_ (rP (pwC c i)) (rq (coP p i)) (pwB i) (cF_ _) (du_ _) (by rw[vR_rP];exact b1) (by show pwB i+qs (coP p i)≤_;omega) (by simp;omega);rw[vR_rP] at m1;have s1:=lH_ b1 b3 b4;have sl:=bG_ (pwC c i) (coP p i);have e1:i* (20000000+s+1)≤18* (20000000+s+1):=Nat.mul_le_mul_right _ (by omega);have he:i* (20000000+s+1)+1+(pwB i+s)+64≤1099511627776:=by omega
 have m2:=gB_ (rP (cmT c p i)) (rP (aN_ (pwC c i) (coP p i))) _ _ (cF_ _) (cF_ _) (by rw[vR_rP];exact b5) (by rw[vR_rP];exact s1) he (by simp;omega) (by simp;omega);rw[vR_rP,vR_rP] at m2
 have m3:=kG_ (rP (pwC c i)) (rP [c,i1Q]) (pwB i) 20 (2* (pwB i+20+1)+1) (cF_ _) (cF_ _) (by rw[vR_rP];exact b1) (by rw[vR_rP];exact nE_ hc) b3 (fun n hn=>by
  rw[vR_rP,vR_rP];exact mR_two b1 b3 (nE_ hc) (by decide) n (by simpa using hn)) (by omega) (by simp;omega) (by simp)
 rw[vR_rP,vR_rP] at m3;refine ab_ (s_r 4 ?_);refine a_3 ?_;refine o_0 (.bin rfl rfl (vT a6_ (decide_eq_true (by omega)))) ?_;refine al_ ?_;refine cT (ah_ (ab_ (ae_ (s_r 9 ?_))));refine a_4 ?_;refine i_x hgt ?_;refine l_x hgt ?_;refine c_s (m1) ?_;refine c_s (m2) ?_;refine a_z ?_;refine r_m 4 ?_;refine c_s (m3) ?_;refine a_z ?_;refine r_m 3 ?_;refine a_z ?_;refine⟨i+1,by omega,by omega,?_⟩;rw[cmS.eq_1,cmT,pwC];exact s_f [];have hge:i=p.length:=by omega
 refine ab_ (s_r 4 ?_);refine a_3 ?_;refine o_0 (.bin rfl rfl (vF a6_ (decide_eq_false (by omega)))) ?_;refine al_ ?_;refine cF (ao_ ⟨(),trivial,?_⟩);rw[hge];exact s_f [];rintro _ _;rw[cmT_comp];refine r_z 2 ?_;exact af_ (t_e (aQ_ _))

theorem mE_{p:List Rat}{s:Nat}(h:bdL p s)(hs:1≤s)(hl:p.length≤1000000):bdL (am_ p) (s+64):=fun q hq=>by
 have h1:=bp_ hq;unfold tabP at h1;obtain⟨i,hi,rfl⟩:=List.mem_map.1 h1;split;have:qs 0=1:=by decide
 omega;have h2:=e1_ (coP p (i- 1)) ((i:Nat):Int);have h3:=hY_ i (by have:=List.mem_range.1 hi;omega);have h4:=bd_co' h hs (i- 1);omega
def pkR(p:List Rat×List Rat):List AV:=[.arr (rE (rP p.1)),.arr (rE (rP p.2))]
def keR(k:Ke):List (List AV):=k.map pkR
@[simp] theorem fv_ (k:Ke):(keR k).length=k.length:=by simp[keR]
theorem eu_(k:Ke):∀x∈keR k,∀c∈x,Closed c:=fun x hx=>by
 obtain⟨p,_,rfl⟩:=List.mem_map.1 hx;exact aa_ (aQ_ _) (aa_ (aQ_ _) ac_)
theorem a1_(k:Ke):Closed (.arr (keR k)):=aB_ (eu_ k)
theorem rC_{k:Ke}{i:Nat}{p:List Rat×List Rat}(h:k[i]?=some p):∀e,e=i→(keR k)[e]?=some (pkR p):=fun e he=>by
 rw[he,keR,List.getElem?_map,h];rfl
def bRq(a:Rat):AV:= .aptr [rC (rq a)] 0 0
theorem dV_(a:Rat):Closed (bRq a):=aL_ (b8_ _)
structure PrB (p:List Rat×List Rat)(a:Rat)(u:List Rat)(t:Nat):Prop where
 m1:bdL (mulP p.2 u) 1300000
 ml:(mulP p.2 u).length≤13
 m2:bdL (am_ (mulP p.2 u)) 1400000
 il:(am_ (mulP p.2 u)).length≤14
 bc:bdL (bo_ (evalP (am_ (mulP p.2 u)) a)) 20000000
 m3:bdL (subP (am_ (mulP p.2 u)) (bo_ (evalP (am_ (mulP p.2 u)) a))) 22000000
 sl:(subP (am_ (mulP p.2 u)) (bo_ (evalP (am_ (mulP p.2 u)) a))).length≤14
 m4:bdL (mulP p.1 (subP (am_ (mulP p.2 u)) (bo_ (evalP (am_ (mulP p.2 u)) a)))) 90000000
 nl:(mulP p.1 (subP (am_ (mulP p.2 u)) (bo_ (evalP (am_ (mulP p.2 u)) a)))).length≤18
theorem prB{p:List Rat×List Rat}{a:Rat}{u:List Rat}{t:Nat}(l1:p.1.length≤4)(l2:p.2.length≤4)(b1:bdL p.1 20)(b2:bdL p.2 20)(hu:u.length≤9)(bu:bdL u t)(ht1:1≤t)(ht:t≤300000)(ha:qs a≤20):PrB p a u t:=by
 have m1:bdL (mulP p.2 u) 1300000:=by
  have h:=m6_ b2 bu (by omega) ht1;have e1:p.2.length* (20+t+1)≤4* (20+t+1):=Nat.mul_le_mul_right _ l2;exact bdL_mono' h (by omega)
 have ml:=gq_ p.2 u;have m2:bdL (am_ (mulP p.2 u)) 1400000:=bdL_mono' (mE_ m1 (by decide) (by omega)) (by decide);have il:=gw_ (mulP p.2 u)
 have ev:qs (evalP (am_ (mulP p.2 u)) a)≤20000000:=by
  have h:=gE_ ha m2;have e2:(am_ (mulP p.2 u)).length* (1400000+20+1)≤14* (1400000+20+1):=Nat.mul_le_mul_right _ (by omega);exact Nat.le_trans h (Nat.le_trans (Nat.add_le_add_right e2 1) (by decide))
 have bc:bdL (bo_ (evalP (am_ (mulP p.2 u)) a)) 20000000:=fun q hq=>by
  have h:q=evalP (am_ (mulP p.2 u)) a:=List.mem_singleton.1 (bp_ (l:=[_]) hq);rw[h];exact ev
 have m3:bdL (subP (am_ (mulP p.2 u)) (bo_ (evalP (am_ (mulP p.2 u)) a))) 22000000:=bdL_mono' (pe_ m2 bc (by decide) (by decide)) (by decide);have sl:=nU_ (am_ (mulP p.2 u)) (bo_ (evalP (am_ (mulP p.2 u)) a));have cl:=dS_ (evalP (am_ (mulP p.2 u)) a);have nl:=gq_ p.1 (subP (am_ (mulP p.2 u)) (bo_ (evalP (am_ (mulP p.2 u)) a)));refine⟨m1,by omega,m2,by omega,bc,m3,by omega,?_,by omega⟩;have h:=m6_ b1 m3 (by decide) (by decide);have e3:p.1.length* (20+22000000+1)≤4* (20+22000000+1):=Nat.mul_le_mul_right _ l1;exact bdL_mono' h (Nat.le_trans (Nat.add_le_add_right e3 1) (by decide))
def frS(k:Ke)(a:Rat)(u:List Rat):Nat→AState
 |i=>⟨[(0,.arr (keR k)),(2,.arr (rE (rP u))),(4,bRq a),(7,.arr (rE (rP (upL a u (k.take i) [])))),(8,i64 i)],[],1,39⟩
theorem upL_bd{k:Ke}{a:Rat}{u:List Rat}{t:Nat}(h4:∀p∈k,p.1.length≤4∧p.2.length≤4)(hb:∀p∈k,bdL p.1 20∧bdL p.2 20)(hu:u.length≤9)(bu:bdL u t)(ht1:1≤t)(ht:t≤300000)(ha:qs a≤20):∀i,i≤k.length→bdL (upL a u (k.take i) []) (i* 90000001+1)∧(upL a u (k.take i) []).length≤18
 |0,_=>⟨fun q hq=>by simp[upL] at hq,by simp[upL]⟩
 |i+1,hi=>by
  obtain⟨p,hp⟩:∃p,k[i]?=some p:=⟨_,List.getElem?_eq_getElem (by omega)⟩;obtain⟨h1,h2⟩:=upL_bd h4 hb hu bu ht1 ht ha i (by omega);obtain⟨l1,l2⟩:=h4 p (List.mem_of_getElem? hp);obtain⟨b1,b2⟩:=hb p (List.mem_of_getElem? hp);have B:=prB l1 l2 b1 b2 hu bu ht1 ht ha;rw[bm_ hp,hQ_,upF,hR_];have m5:=nF_ h1 B.m4 (by omega) (by decide);have al:=dM_ (upL a u (k.take i) []) (mulP p.1 (subP (am_ (mulP p.2 u)) (bo_ (evalP (am_ (mulP p.2 u)) a))));have nl:=B.nl;have e4:i* 90000001+1+90000000+1≤(i+1) * 90000001+1:=by omega
  exact⟨bdL_mono' m5 e4,by omega⟩
theorem fs_rFrom(k:Ke)(a:Rat)(u:List Rat)(t:Nat)(hkl:k.length≤3)(h4:∀p∈k,p.1.length≤4∧p.2.length≤4)(hb:∀p∈k,bdL p.1 20∧bdL p.2 20)(hu:u.length≤9)(bu:bdL u t)(ht1:1≤t)(ht:t≤300000)(ha:qs a≤20):
    FS 52 [.arr (keR k),.agg (rC (rq a)),.arr (rE (rP u))] (.arr (rE (rP (upK k a u)))):=by
 have hkl2:(keR k).length=k.length:=fv_ k;refine f_n Tryz.func52 ?_ ?_;exact aa_ (a1_ k) (aa_ (cJ_ _) (aa_ (aQ_ _) ac_));refine r_z 2 ?_;refine r_z 1 ?_;refine ab_ (r_z 1 ?_);refine aw_ (fun _:Unit=>⟨[(7,.arr (rE (rP (upK k a u))))],[],1,39⟩) (fun _=>True) ?_ ?_;refine ae_ (aq_ (frS k a u) (fun i=>k.length- i) (fun i=>i≤k.length) 0 (Nat.zero_le _) ?_ ?_);rw[frS.eq_1];exact s_x [] (fun hs=>e_34) (fun hs=>e_35);intro i hi;rw[frS.eq_1];by_cases hlt:i< k.length;obtain⟨p,hp⟩:∃p,k[i]?=some p:=⟨_,List.getElem?_eq_getElem hlt⟩;have hgt:(keR k)[((i:Nat):Int).toNat]?=some (pkR p):=rC_ hp _ (by simp);obtain⟨h1,h2⟩:=upL_bd h4 hb hu bu ht1 ht ha i hi;obtain⟨l1,l2⟩:=h4 p (List.mem_of_getElem? hp);obtain⟨b1,b2⟩:=hb p (List.mem_of_getElem? hp);have B:=prB l1 l2 b1 b2 hu bu ht1 ht ha;have hlo:i* 90000001+1+90000000+64≤1099511627776:=by omega
 have c1:=kG_ (rP p.2) (rP u) 20 t 3000000 (cF_ _) (cF_ _) (by rw[vR_rP];exact b2) (by rw[vR_rP];exact bu) (by decide) (fun n hn=>by
  rw[vR_rP,vR_rP];have hn:n≤u.length:=by simpa using hn
  have e:n* (20+t+1)≤9* (20+t+1):=Nat.mul_le_mul_right _ (by omega);exact bdL_mono' (mR_bd b2 bu (by decide) ht1 n) (by omega)) (by omega) (by simp;omega) (by simp;omega)
 rw[vR_rP,vR_rP] at c1;have c2:=l0_ (rP (mulP p.2 u)) 1300000 (cF_ _) (by rw[vR_rP];exact B.m1) (by decide) (by have:=B.ml;simp;omega);rw[vR_rP] at c2
 have c3:=fs_rEval (rP (am_ (mulP p.2 u))) (rq a) 1400000 20 (cF_ _) (du_ _) (by rw[vR_rP];exact B.m2) (by decide) ha (by
  have il:(rP (am_ (mulP p.2 u))).length+2≤16:=by have:=B.il;simp;omega
  exact Nat.le_trans (Nat.mul_le_mul_right _ il) (by decide)) (by have:=B.il;simp;omega)
 rw[vR_rP] at c3;have c4:=hC_ (evalP (am_ (mulP p.2 u)) a);have c5:=fs_rSubP (rP (am_ (mulP p.2 u))) (rP (bo_ (evalP (am_ (mulP p.2 u)) a))) 1400000 20000000 (cF_ _) (cF_ _) (by rw[vR_rP];exact B.m2) (by rw[vR_rP];exact B.bc) (by decide) (by decide) (by have:=B.il;simp;omega) (by have:=dS_ (evalP (am_ (mulP p.2 u)) a);simp;omega);rw[vR_rP,vR_rP] at c5
 have c6:=kG_ (rP p.1) (rP (subP (am_ (mulP p.2 u)) (bo_ (evalP (am_ (mulP p.2 u)) a)))) 20 22000000 400000000 (cF_ _) (cF_ _) (by rw[vR_rP];exact b1) (by rw[vR_rP];exact B.m3) (by decide) (fun n hn=>by
  rw[vR_rP,vR_rP];have hn:n≤(subP (am_ (mulP p.2 u)) (bo_ (evalP (am_ (mulP p.2 u)) a))).length:=by simpa using hn
  have e:n* (20+22000000+1)≤14* (20+22000000+1):=Nat.mul_le_mul_right _ (by have:=B.sl;omega);exact bdL_mono' (mR_bd b1 B.m3 (by decide) (by decide) n) (Nat.le_trans (Nat.add_le_add_right e 1) (by decide))) (by decide) (by simp;omega) (by have:=B.sl;simp;omega)
 rw[vR_rP,vR_rP] at c6;have c7:=gB_ (rP (upL a u (k.take i) [])) (rP (mulP p.1 (subP (am_ (mulP p.2 u)) (bo_ (evalP (am_ (mulP p.2 u)) a))))) (i* 90000001+1) 90000000 (cF_ _) (cF_ _) (by rw[vR_rP];exact h1) (by rw[vR_rP];exact B.m4) hlo (by simp;omega) (by have:=B.nl;simp;omega);rw[vR_rP,vR_rP] at c7;refine ab_ (s_r 4 ?_);refine a_3 ?_;refine o_0 (.bin rfl rfl (vT a6_ (decide_eq_true (by omega)))) ?_;refine al_ ?_;refine cT (ah_ (ab_ (ae_ (s_r 9 ?_))));refine a_2 ?_;refine i_x hgt ?_;refine a_1 ?_;refine l_1 hgt ?_;refine o_0 (.move rfl) ?_;refine o_0 (.call rfl rfl rfl (c1)) ?_;refine o_0 (.call rfl rfl rfl (c2)) ?_;refine o_0 (.assign rfl) ?_;refine al_ ?_;refine r_d hmix 15 ?_;refine a_3 ?_;refine i_x hgt ?_;refine a_1 ?_;refine l_1 hgt ?_;refine o_0 (.move rfl) ?_;refine o_0 (.move rfl) ?_
 first|refine aA_ (.load_l rfl rfl rfl TG.h TS.h (nle rfl)) rfl rfl ?_|refine aA_ (.load_a rfl rfl TG.h TS.h (nle rfl)) rfl rfl ?_
 refine o_0 (.call rfl rfl rfl (c3)) ?_;refine o_0 (.call rfl rfl rfl (c4)) ?_;refine o_0 (.call rfl rfl rfl (c5)) ?_;refine o_0 (.call rfl rfl rfl (c6)) ?_;refine o_0 (.call rfl rfl rfl (c7)) ?_;refine o_0 (.assign rfl) ?_;refine al_ (n_k ?_);refine r_m 3 ?_;refine o_0 (.move rfl) ?_;refine o_0 (.bin rfl rfl (lf_ (by omega))) ?_;refine o_0 (.assign rfl) ?_;refine al_ ?_;refine⟨i+1,by omega,by omega,?_⟩;rw[frS.eq_1,bm_ hp,hQ_,upF,hR_];refine s_x [] (fun hs=>?_) (fun hs=>?_)
 ·repeat' (first|exact aH_|refine ap_ rfl ?_ ?_|exact ak_ hs (a1_ k)|exact ak_ hs (aQ_ _)|exact ak_ hs (dV_ a)|exact au_c)
 ·repeat' (first|exact az_|refine h_c ?_ ?_|exact au_e|refine av_ ?_|exact an_|refine ai_ ?_ ?_|exact ak_ hs (a1_ k)|exact ak_ hs (aQ_ _)|exact ak_ hs (dV_ a)|exact au_c)
 have hge:i=k.length:=by omega
 refine ab_ (s_r 4 ?_);refine a_3 ?_;refine o_0 (.bin rfl rfl (vF a6_ (decide_eq_false (by omega)))) ?_;refine al_ ?_;refine cF (ao_ ⟨(),trivial,?_⟩);rw[hge,List.take_length];unfold upK;exact s_f [];rintro _ _;refine r_z 2 ?_;exact af_ (t_e (aQ_ _))
def rsT(k:Ke)(g:List Rat)(L a:Rat)(n:Nat):Nat→AState
 |j=>⟨[(0,.arr (keR k)),(4,i64 n),(6,bRq L),(8,bRq a),(11,.arr (rE (rP (rsS k g L a n j)))),(12,.arr (rE (rP (rsU k g L a n j)))),(13,i64 j)],[],1,66⟩
theorem rE_take(l:List Rat)(n:Nat):(rE (rP l)).take n=rE (rP (l.take n)):=by simp[rE,rP,List.map_take]
theorem rE_len4'(l:List RQ):∀e∈rE l,e.length=4:=fun e he=>by
 obtain⟨_,_,rfl⟩:=List.mem_map.1 he;rfl
theorem pI_(k:Ke)(g:List Rat)(L a:Rat)(n:Nat)(hn:n≤8)(hkl:k.length≤3)(h4:∀p∈k,p.1.length≤4∧p.2.length≤4)(hb:∀p∈k,bdL p.1 20∧bdL p.2 20)(hg:g.length≤5)(bg:bdL g 20)(hl:qs L≤20)(ha:qs a≤20):
    FS 14 [.arr (keR k),.agg (rC (rq L)),.arr (rE (rP g)),.agg (rC (rq a)),i64 n] (.arr (rE (rP (trimQ (rsS k g L a n (n+1)))))):=by
 have F:=fun j hj=>rs_facts hn hkl h4 hb hg bg hl ha (n:=n) (L:=L) (a:=a) (k:=k) (g:=g) j hj;have hi1:=e8_ 1 (by decide);have hng:=fs_rNeg (rq a) (du_ _);have hna:qs (-a)≤20:=by rw[eQ_];exact ha
 obtain⟨tb,tl⟩:=qY_ (k:=k) (g:=g) (L:=L) (a:=a) (n:=n) (m:=n) (fun j hj=>F j (by omega)) (n+1) (Nat.le_refl _);have htr:=eI_ (rP (rsS k g L a n (n+1))) (by simp;omega);rw[gh_] at htr;refine f_n Tryz.func14 ?_ ?_;exact aa_ (a1_ k) (aa_ (cJ_ _) (aa_ (aQ_ _) (aa_ (cJ_ _) (aa_ (ad_ _) ac_))));refine r_z 3 ?_;refine r_z 1 ?_;refine r_z 2 ?_;refine ab_ (r_z 1 ?_);refine aw_ (fun _:Unit=>⟨[(11,.arr (rE (rP (rsS k g L a n (n+1)))))],[],1,66⟩) (fun _=>True) ?_ ?_;refine ae_ (aq_ (rsT k g L a n) (fun j=>n+1- j) (fun j=>j≤n+1) 0 (Nat.zero_le _) ?_ ?_);rw[rsT.eq_1];exact s_x [] (fun hs=>e_34) (fun hs=>e_35);intro j hj;rw[rsT.eq_1];by_cases hlt:j< n+1;have f:=F j (by omega);obtain⟨sb,sl⟩:=qY_ (k:=k) (g:=g) (L:=L) (a:=a) (n:=n) (m:=n) (fun j hj=>F j (by omega)) j (by omega);have c1:=f6_ (rsU k g L a n j) a 300000 ha f.ub (by decide) (by have:=f.ul;omega) (by decide);have ml:=cp_ a (rsU k g L a n j);have fu:=f.ul;have fk:=f.kl;have fs:=f.sl;obtain⟨m,hm⟩:∃m,m=compP [a,1] (rsU k g L a n j):=⟨_,rfl⟩;have mb:=f.mb;rw[←hm] at c1 ml mb;have hsl:j* 300002+1+300000+64≤1099511627776:=by omega
 have c2:=gB_ (rP (rsS k g L a n j)) (rP (m.take (n+1))) (j* 300002+1) 300000 (cF_ _) (cF_ _) (by rw[vR_rP];exact sb) (by rw[vR_rP];exact ld_ mb (n+1)) hsl (by simp;omega) (by rw[cC_,List.length_take];omega);rw[vR_rP,vR_rP] at c2;have hss:rsS k g L a n (j+1)=addP (rsS k g L a n j) (m.take (n+1)):=by rw[rsS,hm]
 have hpm:(rP m).length=m.length:=cC_ m;have c3:=fs_rFrom k a (rsU k g L a n j) 300000 hkl h4 hb fu f.ub (by decide) (by decide) ha;have c4:=gA_ (rP (upK k a (rsU k g L a n j))) (rq L) 300000 (cF_ _) (du_ _) (by rw[vR_rP];exact f.kb) (by show 300000+qs L≤_;omega) (by simp;omega);rw[vR_rP] at c4;have c5:=f6_ (aN_ (upK k a (rsU k g L a n j)) L) a 300000 ha f.sb (by decide) (by omega) (by decide);have nl:=cp_ a (aN_ (upK k a (rsU k g L a n j)) L);obtain⟨w,hw⟩:∃w,w=compP [a,1] (aN_ (upK k a (rsU k g L a n j)) L):=⟨_,rfl⟩;have nb:=f.nb;rw[←hw] at c5 nl nb;have c6:=f6_ (w.take (n+1)) (-a) 300000 hna (ld_ nb (n+1)) (by decide) (by rw[List.length_take];omega) (by decide);have hml:(rE (rP m)).length=m.length:=by simp[rE]
 have hpw:(rP w).length=w.length:=cC_ w;have hwl:(rE (rP w)).length=w.length:=by simp[rE]
 have hsu:rsU k g L a n (j+1)=compP [-a,1] (w.take (n+1)):=by rw[rsU,hw]
 refine ab_ (s_r 3 ?_);refine a_2 ?_;refine o_0 (.bin rfl rfl (vT a7_ (decide_eq_true (by omega)))) ?_;refine al_ ?_;refine cT (ah_ (ab_ (ae_ (ab_ (r_d hmix 6 ?_)))));refine c_s (hi1) ?_;refine a_1 ?_;refine o_1 (.callS1 rfl rfl rfl (.keep (.shut rfl d_n (.nil))) rfl (c1)) ?_;refine a_1 ?_;refine al_ (n_k ?_);refine aP_ (fun _:Unit=>⟨[(0,.arr (keR k)),(4,i64 n),(6,bRq L),(8,bRq a),(11,.arr (rE (rP (rsS k g L a n j)))),(12,.arr (rE (rP (rsU k g L a n j)))),(13,i64 j),(14,.arr (rE (rP (m.take (n+1)))))],[],1,66⟩) (fun _=>True) ?_ ?_;by_cases hc:n+1< m.length;refine s_r 5 ?_;refine a_4 ?_;refine o_0 (.bin rfl rfl (vT aU_ (decide_eq_true (by omega)))) ?_;refine al_ ?_;refine cT (r_m 5 ?_);refine a_3 ?_;refine o_0 (.sa_h rfl rfl (h:=n+1) (by omega) (by omega) te_35.h (rE_len4' _)) ?_;refine a_z ?_;refine⟨(),trivial,?_⟩;exact s_x [] (fun hs=>e_36) (fun hs=>e_37);refine s_r 5 ?_;refine a_4 ?_;refine o_0 (.bin rfl rfl (vF aU_ (decide_eq_false (by omega)))) ?_;refine al_ ?_;refine cF (ah_ (⟨(),trivial,?_⟩));rw[List.take_of_length_le (by omega:m.length≤n+1)];exact s_x [] (fun hs=>e_16) (fun hs=>e_17);rintro _ _;refine r_c 4 (c2) ?_;refine a_z ?_;refine ab_ (r_d hmix 11 ?_);refine c_s (c3) ?_;refine c_s (c4) ?_;refine c_s (hi1) ?_;refine a_1 ?_;refine o_1 (.callS1 rfl rfl rfl (.keep (.shut rfl d_n (.nil))) rfl (c5)) ?_;refine a_1 ?_;refine al_ (n_k ?_);rw[←hss]
 refine aP_ (fun _:Unit=>⟨[(0,.arr (keR k)),(4,i64 n),(6,bRq L),(8,bRq a),(11,.arr (rE (rP (rsS k g L a n (j+1))))),(13,i64 j),(15,.arr (rE (rP (w.take (n+1)))))],[],1,66⟩) (fun _=>True) ?_ ?_;by_cases hc:n+1< w.length;refine s_r 5 ?_;refine a_4 ?_;refine o_0 (.bin rfl rfl (vT aU_ (decide_eq_true (by omega)))) ?_;refine al_ ?_;refine cT (r_m 5 ?_);refine a_3 ?_;refine o_0 (.sa_h rfl rfl (h:=n+1) (by omega) (by omega) te_35.h (rE_len4' _)) ?_;refine a_z ?_;refine⟨(),trivial,?_⟩;exact s_x [] (fun hs=>e_36) (fun hs=>e_37);refine s_r 5 ?_;refine a_4 ?_;refine o_0 (.bin rfl rfl (vF aU_ (decide_eq_false (by omega)))) ?_;refine al_ ?_;refine cF (ah_ (⟨(),trivial,?_⟩));rw[List.take_of_length_le (by omega:w.length≤n+1)];exact s_x [] (fun hs=>e_16) (fun hs=>e_17);rintro _ _;refine r_m 7 ?_;refine c_s (hng) ?_;refine c_s (hi1) ?_;refine a_1 ?_;refine o_1 (.callS1 rfl rfl rfl (.keep (.shut rfl d_n (.nil))) rfl (c6)) ?_;refine a_z ?_;refine r_m 3 ?_;refine a_z ?_;refine⟨j+1,by omega,by omega,?_⟩;rw[rsT.eq_1,hsu];exact s_x [] (fun hs=>e_16) (fun hs=>e_17);have hge:j=n+1:=by omega
 refine ab_ (s_r 3 ?_);refine a_2 ?_;refine o_0 (.bin rfl rfl (vF a7_ (decide_eq_false (by omega)))) ?_;refine al_ ?_;refine cF (ao_ ⟨(),trivial,?_⟩);rw[hge];exact s_f [];rintro _ _;refine r_c 3 (htr) ?_;refine a_z ?_;exact af_ (t_e (aQ_ _))
def okL(n:Nat)(p last:List Rat):Prop:=okMul (aN_ [0,1] ((2* (n:Int)+1:Int):Rat)) p∧smL last∧smL (aN_ last ((n:Int):Rat))∧smL (subP (mulP (aN_ [0,1] ((2* (n:Int)+1:Int):Rat)) p) (aN_ last ((n:Int):Rat)))∧(mulP (aN_ [0,1] ((2* (n:Int)+1:Int):Rat)) p).length≤1000∧last.length≤1000∧n≤1000
instance (n:Nat) (p last:List Rat):Decidable (okL n p last):=inferInstanceAs (Decidable (_∧_∧_∧_∧_∧_∧_))
def okH(n:Nat)(p last:List Rat):Prop:=okMul twP p∧smL last∧smL (aN_ last ((2* (n:Int):Int):Rat))∧(mulP twP p).length≤1000∧last.length≤1000∧n≤1000
instance (n:Nat) (p last:List Rat):Decidable (okH n p last):=inferInstanceAs (Decidable (_∧_∧_∧_∧_∧_))

def okC(_:Nat)(p last:List Rat):Prop:=okMul twP p∧smL last∧(mulP twP p).length≤1000∧last.length≤1000
instance (n:Nat) (p last:List Rat):Decidable (okC n p last):=inferInstanceAs (Decidable (_∧_∧_∧_))






















section
variable {a b:Rat}(h:a< b){k:Nat}(hk:1≤k∧k≤4)(ha:qs a≤20)(hb:qs b≤20)
include h hk ha hb
end
section
variable {a b a' b':Rat}(h:a< b)(h':a'< b'){k:Nat}(hk:1≤k∧k≤4)(ha:qs a≤20)(hb:qs b≤20)(ha':qs a'≤20)(hb':qs b'≤20)
include h h' hk ha hb ha' hb'
end


end Go.Proofs.YtjkddcfoolilbaaGreatDoor
namespace Go.Proofs.YtjkddcfoolilbaaGreatDoor
open Go.Abs Go.Deep Go.RowKit Go.WideShapes
set_option maxRecDepth 20000
def okN(r:NRow):Prop:=i64r r.1∧i64r r.2.1∧r.2.2≤255
theorem rh_{H:Type}{enc:TypeId×Value→H}{W:World}{base:Nat}{v:Value}{d:DataW H}{ps:List MemPlace}(hv:Value.okWide Tryz.prog W .any base 24 v)(h:DataW.Trod enc Tryz.prog W 0 (fun _=>true) true 24 v d ps):
    ∃r:NRow,okN r∧RV (fun _=>False) (fun _=>none) W (.agg (nuC r.1 r.2.1 r.2.2)) v:=by
 obtain⟨f0,f1,f2,hu,_⟩:=tyN
 obtain⟨cs,rfl,_⟩:∃cs,v= .agg cs∧True:=by
  unfold Value.okWide at hv;rw[hu] at hv;obtain⟨cs,h1,_⟩:=hv;exact⟨cs,h1,trivial⟩
 obtain⟨fuel,hf⟩:=h;obtain⟨r,r1,r2,r3,e⟩:=num_of hf;refine⟨r,⟨r1,r2,r3⟩,cs,rfl,?_⟩;have e':cs.toList=[.int .i64 r.1,.int .i64 r.2.1,.int .u8 r.2.2]:=by simpa[Value.cells] using e
 rw[e'];exact⟨_,_,rfl,rfl,_,_,rfl,rfl,_,_,rfl,rfl,rfl⟩
end Go.Proofs.YtjkddcfoolilbaaGreatDoor
namespace Go.Proofs.YtjkddcfoolilbaaGreatDoor
open Go.Abs
set_option maxRecDepth 20000
def goodN(r:NRow):Bool:=decide (¬((r.2.2:Int) % 4≠0)∧¬r.1> 999999∧¬r.1< -999999∧¬r.2.1> 999999∧¬r.2.1< -999999)
def tameB(l:List NRow)(k:Nat):Bool:=l.all goodN && decide (l.length≤k)
theorem kO_(l:List NRow)(k:Nat)(hl:l.length≤9223372036854775807)(hk:k≤1000000):FS 8 [.arr (nR l),i64 k] (bln (tameB l k)):=by
 have hnl:(nR l).length=l.length:=by simp[nR]
 refine f_n Tryz.func8 ?_ ?_;exact aa_ (aB_ (bC_ l)) (aa_ (ad_ _) ac_);refine r_z 1 ?_;refine ab_ (r_z 1 ?_);refine aw_ (fun _:Unit=>⟨[(0,.arr (nR l)),(1,i64 k)],[],1,45⟩) (fun _=>l.all goodN=true) ?_ ?_;refine ae_ (aq_ (fun j:Nat=>⟨[(5,i64 ((j:Nat):Int)),(0,.arr (nR l)),(1,i64 k)],[],1,45⟩) (fun j=>l.length- j) (fun j=>j≤l.length∧(l.take j).all goodN=true) 0 ⟨Nat.zero_le _,rfl⟩ ?_ ?_);have:=(aB_ (bC_ l));exact s_f [];rintro j ⟨hj,hg⟩;by_cases hlt:j< l.length;obtain⟨r,hr⟩:∃r,l[j]?=some r:=⟨_,List.getElem?_eq_getElem hlt⟩
 have hgt:(nR l)[((j:Nat):Int).toNat]?=some (nuC r.1 r.2.1 r.2.2):=by
  rw[Int.toNat_natCast,nR,List.getElem?_map,hr];rfl
 have hbad:goodN r=false→tameB l k=false:=fun h=>by
  unfold tameB;rw[Bool.and_eq_false_iff];exact .inl (List.all_eq_false.2 ⟨r,List.mem_of_getElem? hr,by rw[h];decide⟩)
 refine ab_ (q_z 4 ?_);refine cT (ah_ (ab_ (ae_ (s_r 6 ?_))));refine a_2 ?_;refine i_x hgt ?_;refine l_x hgt ?_;refine a_z ?_;by_cases c0:((r.2.2:Int) % 4≠0);have hgd:goodN r=false:=decide_eq_false (by rintro⟨e0,e1,e2,e3,e4⟩;exact e0 c0);rw[hbad hgd];refine s_r 24 ?_;refine a_3 ?_;refine o_0 (.bin rfl rfl (vT bF_ ((by simpa using c0)))) ?_;refine a_z ?_;refine cT (r_z 1 ?_);exact af_ (t_e (ad_ _));by_cases c1:r.1> 999999;have hgd:goodN r=false:=decide_eq_false (by rintro⟨e0,e1,e2,e3,e4⟩;exact e1 c1);rw[hbad hgd];refine s_r 24 ?_;refine a_3 ?_;refine o_0 (.bin rfl rfl (vF bF_ ((by simpa using c0)))) ?_;refine d_z ?_;refine cT (r_z 1 ?_);exact af_ (t_e (ad_ _));by_cases c2:r.1< -999999;have hgd:goodN r=false:=decide_eq_false (by rintro⟨e0,e1,e2,e3,e4⟩;exact e2 c2);rw[hbad hgd];refine s_r 24 ?_;refine a_3 ?_;refine o_0 (.bin rfl rfl (vF bF_ ((by simpa using c0)))) ?_;refine d_z ?_;refine cT (r_z 1 ?_);exact af_ (t_e (ad_ _));by_cases c3:r.2.1> 999999;have hgd:goodN r=false:=decide_eq_false (by rintro⟨e0,e1,e2,e3,e4⟩;exact e3 c3);rw[hbad hgd];refine s_r 24 ?_;refine a_3 ?_;refine o_0 (.bin rfl rfl (vF bF_ ((by simpa using c0)))) ?_;refine d_z ?_;refine cT (r_z 1 ?_);exact af_ (t_e (ad_ _));by_cases c4:r.2.1< -999999;have hgd:goodN r=false:=decide_eq_false (by rintro⟨e0,e1,e2,e3,e4⟩;exact e4 c4);rw[hbad hgd];refine s_r 24 ?_;refine a_3 ?_;refine o_0 (.bin rfl rfl (vF bF_ ((by simpa using c0)))) ?_;refine d_z ?_;refine cT (r_z 1 ?_);exact af_ (t_e (ad_ _))
 have hgd:goodN r=true:=decide_eq_true ⟨c0,c1,c2,c3,c4⟩;refine s_r 24 ?_;refine a_3 ?_;refine o_0 (.bin rfl rfl (vF bF_ ((by simpa using c0)))) ?_;refine d_z ?_;refine cF (ah_ (r_m 3 ?_));refine a_z ?_;refine⟨j+1,by omega,⟨hlt,?_⟩,?_⟩;rw[bm_ hr,List.all_append,hg];simp[hgd];have:=(aB_ (bC_ l));exact s_f [];have hge:l.take j=l:=List.take_of_length_le (by omega);rw[hge] at hg;refine ab_ (q_z 4 ?_);refine cF (ao_ ⟨(),hg,?_⟩);have:=(aB_ (bC_ l));exact s_f [];rintro _ hg
 have e:tameB l k=decide ((((nR l).length:Nat):Int)≤(k:Int)):=by
  unfold tameB;rw[hg,Bool.true_and,hnl];exact decide_eq_decide.2 (by omega)
 rw[e];refine r_z 5 ?_;exact af_ (t_e (ad_ _))
theorem good_qs{r:NRow}(h:goodN r=true)(hb:i64r r.1)(hd:i64r r.2.1):qs (numV r.1 r.2.1 r.2.2)≤20:=by
 obtain⟨h0,h1,h2,h3,h4⟩:=of_decide_eq_true h;have hp:r.2.2 % 4=0:=by omega
 have hN:bl r.1.natAbs≤20:=bl_le (by omega);unfold numV;rw[hp];show qs (Rat.divInt r.1 (dNum r.2.1))≤20;obtain⟨d,hde⟩:∃d,d=dNum r.2.1:=⟨_,rfl⟩;have hd0:d≠0:=by rw[hde];unfold dNum;split <;> omega
 have hdb:bl d.natAbs≤20:=by rw[hde];unfold dNum;split <;> exact bl_le (by omega)
 rw[←hde];by_cases hn:d< 0;rw[ho_ _ d hn];exact c7_ (by omega) (by rw[Int.natAbs_neg];exact hN) (by omega);rw[hn_ _ d (by omega)];exact c7_ (by omega) hN (by omega)
theorem kf_{l:List NRow}{k:Nat}(h:tameB l k=true)(ho:okR l):bdL (nL l) 20∧(nL l).length≤k:=by
 unfold tameB at h;rw[Bool.and_eq_true,List.all_eq_true] at h;refine⟨fun q hq=>?_,by simpa[nL] using h.2⟩;obtain⟨r,hr,rfl⟩:=List.mem_map.1 hq;exact good_qs (h.1 r hr) (ho r hr).1 (ho r hr).2.1
structure CG (f N h Q:Nat)(p:List Rat)(c:Cnt):Prop where
 hc:ek_ f p=some c
 np:nz p
 ok:∀x,qs x≤Q→okUp c x∧okBe c x
 len:c.p.length≤N
 bd:bdL c.p (h+12* N+8)
 ht:Ht c.p (h+12* N+8)
def jB(N h g r J:Nat):Bool:=(List.range (N+1)).all fun m=>(List.range (m+1)).all fun n=>decide (sF (n+1) m n h g (r+1)+(max h g+(r+1+2) * m)+1≤J) && decide (sF (n+1) m n g h (r+1)+(max h g+(r+1+2) * m)+1≤J)
structure RC (f N h Q r J:Nat)(p:List Rat)(c:Cnt)(i:Int)(A B:Rat):Prop where
 H:CG f N h Q p c
 h1:1≤h
 hN:N≤12
 hJ:jB N (h+12* N+8) (h+12* N+13) r J=true
 at_:At c i A B
 hA:ab A≤p2 r
 hB:ab B≤p2 r
 i0:0≤i
 ia:i< allV c
 hQ:r+J+4≤Q
 hb:2* (h+12* N+8)+10≤Q
 hb2:h≤10000000
 hf:2* (h+12* N+8)+6≤f
section
variable {f N h Q r J g:Nat}{p:List Rat}{c:Cnt}{i:Int}{A B:Rat}(R:RC f N h Q r J p c i A B)
include R
end
section
variable {f N h Q r J g M hq X Xd Td J2:Nat}{p:List Rat}{c:Cnt}{i:Int}{A B:Rat}(R:RC f N h Q r J p c i A B)
include R
end
structure SB (f N h Q r g hq J2:Nat):Prop where
 hq1:1≤hq
 gcd:∃X,X≤137438953472∧((List.range (N+1)).all fun m=>(List.range (N+1)).all fun n=>hG f m n (h+12* N+8) hq X)=true
 cd:∃X T,cH f N (h+24* N+16) X T Q=true
 cq:∃X T,cH f N hq X T Q=true
 hJ2:jB N (h+24* N+16) hq r J2=true
 hg:J2< g
 hQ2:r+J2+4≤Q
 ev:24* (hq+Q+1)+hq+Q+2≤137438953472
theorem cmpQ_le{a b:Rat}:cmpQ a b≤0↔a≤b:=by
 unfold cmpQ;grind

structure RB (f N h Q r g kk J J2 J3:Nat):Prop where
 c1:∃X T,cH f N (h+5) X T Q=true
 N1:1≤N
 N12:N≤12
 h1:1≤h
 hJ:jB N (h+5+12* N+8) (h+5+12* N+13) r J=true
 gJ:J< g
 QJ:r+J+4≤Q
 S:SB f N (h+5) Q r g (h+5+(h+5+(r+2) * 24+2)+kk+3) J2
 j3:h+5+(r+3) * 24+kk+1≤J3
 g3:J3< g
 Q3:r+J3+4≤Q
 lim:h+5+24* (r+J3+2+(h+5)+1)+(r+J3+2)≤60000000000
 k3:kk≤256
 rw_:(r+2) * 24≤100000
 hb:2* (h+5+12* N+8)+10≤Q
 hb2:h+5≤10000000
 hf:2* (h+5+12* N+8)+6≤f
 gg:549755813890≤g
section
variable {f N h Q r g J J2 J3:Nat}{k:Int}(B:RB f N h Q r g (wi k 256) J J2 J3){p:List Rat}{K:Rat}(hpl:p.length≤24)(lp:(trimQ p).length≤N)(bp:bdL p h)(Hp:HS p K h){lo hi:Rat}(hlh:lo≤hi)(hlo:ab lo≤p2 r)(hhi:ab hi≤p2 r)
include B hpl lp bp Hp hlh hlo hhi
end

end Go.Proofs.YtjkddcfoolilbaaGreatDoor
