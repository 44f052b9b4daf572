/- Part W29 of the proof. -/
import Derived.Test.YtjmkjicckobojaaGreatDoorW28
import Derived.ProofKit
import Derived.OpenShut
import Derived.Carry
import Derived.Deep.Slices
import Derived.Deep.Strs
set_option linter.all false
namespace Go.Proofs.YtjmkjicckobojaaGreatDoor
open Go.Abs
set_option maxRecDepth 20000
set_option maxHeartbeats 2000000
theorem bdL_drv{p:Lq}{s:Nat}(h:bdL p s)(hs:1<=s)(hl:p.length<=1000000):bdL (aV p) (s+64):=λq b=>by
 have a:=cz b;unfold aN at a;obtain⟨i,c,rfl⟩:=List.mem_map.1 a;have d:=cx (coP p (i+1)) ((i+1:Nat):Int);have f:=nN (i+1) (by have:=List.mem_range.1 c;omega);have e:=bd_co' h hs (i+1);omega
def sR:Lw->AState
 |L=>⟨[(3,.lsl 1 0 L.length none 1)],[(1,some ⟨78,1,cR L⟩)],2,48⟩
theorem qO(L:Lw):sR L=⟨[(3,.lsl 1 0 L.length none 1)],[(1,some ⟨78,1,cR L⟩)],2,48⟩:=rfl
theorem la(l:Lw):∀e∈cR l,∀c∈e,Closed c:=λe a c hc=>by
 obtain⟨q,_,rfl⟩:=List.mem_map.1 a;rw[List.mem_singleton.1 hc];exact ca _
def RInv(f:Nat)(out:Lw)(k:Nat)(L:Lw):Prop:=
 (L.length=1/\out=L)\/(2<=L.length/\∃u v,L[L.length- 2]?=some u/\L[L.length- 1]?=some v/\jy f k v (aR (cu u v).2 (-1)) L=some out)
theorem Is{f k:Nat}{a b:Lq}{L out:Lw}(h:jy f k a b L=some out):∀q∈L,q∈out:=λq c=>by
 obtain⟨M,e,_⟩:=lE f k a b L out h;rw[e];exact List.mem_append_left _ c
theorem Ek (n E f T s S W Z:Nat) (x:List RQ) (out:Lw) (hx:okX x) (hs:bdL (vR x) s) (hs1:1<=s) (hz:nz (vR x)) (hst:kJ f (vR x)=some out) (hall:∀q∈out,nz q/\q.length<=n/\bdL q T) (hT1:1<=T) (hf:f<=100000)
    (hE:E=2^ n) (hn12:n<=12) (hS:s+64<=S) (hlim:(n+4) * S<=137438953472) (hW:3* T+3<=W) (hZ:Z=E* W) (hlT:(n+4) * Z<=137438953472) (hxl:x.length<=n):FS 159 [.arr (rE x)] (.arr (cR out)):=by
 have M:1<=E:=by rw[hE];exact Nat.pow_pos δ
 have hZ1:1<=Z:=by rw[hZ];exact Nat.mul_pos M ω
 have hZl:Z<=137438953472:=Nat.le_trans (Nat.le_mul_of_pos_left _ ω) hlT;have hWE:W* E=Z:=by rw[hZ,Nat.mul_comm]
 have hSl:S<=137438953472:=Nat.le_trans (Nat.le_mul_of_pos_left _ ω) hlim;unfold kJ at hst;split at hst
 case isFalse=>cases hst
 case isTrue hp=>
 have K:FS 59 [i64 (-1)] (.agg (rC (rq (-1)))):=ek (-1) δ;have hm1:qs (-1)=1:=δ
 have w1:(x.length+4) * s<=(n+4) * S:=Nat.mul_le_mul ω ω;have X:=lO x s hx hs hs1 hz ω ω;have N:=wP x s hx hs ω ω;have Y:=iz (vR x);rw[cb] at Y;refine f_c Tryz.func159 ?_;refine r_z 1 ?_;refine r_c 4 (X) ?_;refine a_z ?_;obtain⟨j,t⟩:∃j,j=[bU (vR x)]:=⟨_,rfl⟩;have y:j.length=1:=by rw[t];rfl
 refine AWp.ent (st':=⟨[(0,.arr (rE x)),(3,.lsl 1 0 j.length none 1)],[(1,some ⟨78,1,cR j⟩)],2,48⟩) ?_ ?_;rw[y,t];have:=(la [bU (vR x)]);exact s_f [(1,3)];refine ac (r_c 3 (gd x ω) ?_);refine a_z ?_;refine aC (λx:Nat×Lw=>sR x.2) (λx=>RInv f out x.1 x.2/\x.1+x.2.length<=f+1) ?_ ?_;by_cases hd:0< dt (vR x)
 ·have m:nz (aV (vR x)):=by
   have g:=A1 hz;exact(tT ω hz).1
  cases f with
  |zero=>cases hst
  |succ k=>
   rw[jy,if_neg m] at hst;split at hst
   case isFalse=>cases hst
   case isTrue hok=>
   have w2:((rP (aV (vR x))).length+4) * (s+64)<=(n+4) * S:=Nat.mul_le_mul (by rw[b7];omega) hS;have A:=lO (rP (aV (vR x))) (s+64) (dh _) (by rw[b5];exact bdL_drv hs hs1 (by rw[cb];omega)) ω (by rw[b5];exact m) (Nat.le_trans w2 hlim) (by rw[b7];omega);rw[b5] at A;obtain⟨d,J⟩:∃d,d=bU (aV (vR x)):=⟨_,rfl⟩;rw[<-J] at A hst
   have z:RInv (k+1) out k (j++[d]):=by
    rw[t];exact .inr ⟨ψ,bU (vR x),d,rfl,rfl,hst⟩
   have l:(j++[d]).length=j.length+1:=ψ
   have D:=Lg j;refine ar rfl (λg=>?_) (λg=>?_)
   ·refine r_m 7 ?_
    refine c_s (N) ?_;refine c_s (A) ?_;refine o_1 (.buildSlice te_232.h TZ.h rfl δ rfl rfl rfl ν) ?_;refine o_2 (.append_l rfl rfl rfl te_232.h rfl rfl rfl rfl rfl d_o η ξ rfl (.lsl rfl (nle rfl)) TZ.h rfl TB.h d_o μ) ?_;refine o_0 (.assign rfl) ?_;refine aq ?_;refine⟨(k,j++[d]),⟨z,by simp only;omega⟩,?_⟩;simp only[qO,l];refine s_x [(1,3)] (λhs=>dD) (λhs=>?_)
    ·repeat' (first|exact aB|refine h_c ?_ ?_|exact aJ hs (G3 j d).symm (la _)|exact bG)
   simp at g;omega
 have hn:¬nz (aV (vR x)):=λe=>by
  have g:=A1 hz
  have h2:(ap (vR x)).length=1:=by
   have:=List.length_pos_iff.2 hz;unfold dg at g;omega
  obtain⟨c,_,hc⟩:=wl hz (by unfold dg;omega)
  have h3:ap (aV (vR x))=[]:=trim_nil_iff.2 λi=>by
   rw[fa,<-cj (vR x),ee ω,Rat.zero_mul]
  exact e h3
 have e:out=[bU (vR x)]:=by
  cases f with
  |zero=>cases hst
  |succ k=>
   rw[jy,if_pos (Decidable.byContradiction hn)] at hst;exact(Option.some.inj hst).symm
 refine ar rfl (λg=>?_) (λg=>?_);simp at g;omega;refine aj (⟨(f,j),⟨.inl ⟨y,by rw[e,t]⟩,by simp only;omega⟩,?_⟩);simp only[qO];exact s_x [] (λhs=>dD) (λhs=>e_15);rintro⟨k,L⟩ ⟨z,o⟩;simp only at z o;simp only[qO];refine ac (aC (λ_:Unit=>sR out) (λ_=>True) ?_ ?_);refine ah (ay (λx:Nat×Lw=>sR x.2) (λx=>x.1) (λx=>RInv f out x.1 x.2/\x.1+x.2.length<=f+1) (k,L) ⟨z,o⟩ ?_ ?_);simp only[qO];exact s_x [] (λhs=>dD) (λhs=>e_15);rintro⟨k,L⟩ ⟨z,o⟩;simp only at z o;simp only[qO];rcases z with⟨y,rfl⟩|⟨hL2,u,v,hu,hv,b⟩
 refine ac (q_z 3 ?_);refine cF (ax ⟨(),trivial,?_⟩);simp only[qO];exact s_x [] (λhs=>dD) (λhs=>e_15);refine ac (q_z 3 ?_);refine cT (aj ?_);have w:=Is b;obtain⟨nu,lu,bu⟩:=hall u (w u (List.mem_of_getElem? hu));obtain⟨U,lv,bv⟩:=hall v (w v (List.mem_of_getElem? hv))
 have Q:(cR L)[0+(((L.length:Nat):Int)- 2).toNat]?=some [.arr (rE (rP u))]:=by
  rw[show 0+(((L.length:Nat):Int)- 2).toNat=L.length- 2 by omega];exact E3 hu
 have R:(cR L)[0+(((L.length:Nat):Int)- 1).toNat]?=some [.arr (rE (rP v))]:=by
  rw[show 0+(((L.length:Nat):Int)- 1).toNat=L.length- 1 by omega];exact E3 hv
 have F:2^ (rP u).length<=E:=by rw[hE];exact Nat.pow_le_pow_right δ (by rw[b7];exact lu)
 have hdm:=Nat.mul_le_mul (show T+2* T+3<=W by omega) F;obtain⟨a,r,ro,r1,r2,r3,r4,V⟩:=pP (rP u) (rP v) T T (dh _) (dh _) (by rw[b5];exact bu) (by rw[b5];exact bv) hT1 hT1 (by rw[b5];exact U) ω (by rw[b7];omega) (by rw[b7];omega);rw[b5,b5] at r2;rw[b7] at r4
 have C:bdL (vR r) Z:=by
  refine fP λi=>?_;rw[<-cj,r2]
  have:=(sf (L:=Z) bu bv hT1 hT1 U (Nat.le_trans (Nat.mul_le_mul (show _<=E by
   rw[hE];refine Nat.pow_le_pow_right δ ?_;have g:=bh u;have h2:=List.length_pos_iff.2 U;omega) (show _<=W by omega)) (Nat.le_of_eq hZ.symm))).2
  exact ej this ω i
 have p:aR (vR r) (-1)=aR (cu u v).2 (-1):=pD λi=>by rw[<-cj,r2]
 have G:dt (vR r)< 0↔ap (aR (cu u v).2 (-1))=[]:=by
  rw[degP_neg,<-List.length_eq_zero_iff,<-List.length_eq_zero_iff,<-p,lV (by decide+kernel)]
 refine ah (ac (r_d aX 18 ?_));refine a_4 ?_;refine bm (.index_l rfl rfl ω ω te_232.h) rfl rfl ?_;refine bm (.load_l1 rfl rfl Q TG.h rfl) rfl rfl ?_;refine a_4 ?_;refine bm (.index_l rfl rfl ω ω te_232.h) rfl rfl ?_;refine bm (.load_l1 rfl rfl R TG.h rfl) rfl rfl ?_;refine c_s (V) ?_;refine a_5 ?_;refine aq (n_k ?_);refine ac (r_c 3 (gd r ω) ?_);refine a_z ?_;cases k with
 |zero=>cases b
 |succ k=>
  rw[jy] at b;refine ar rfl (λg=>?_) (λg=>?_);rw[if_pos (G.1 (by simpa using g))] at b;cases b;refine ax ⟨(),trivial,?_⟩;simp only[qO];exact s_x [] (λhs=>dD) (λhs=>e_15)
  ·have m:nz (aR (cu u v).2 (-1)):=λe=>by have:=G.2 e;simp at g;omega
   rw[if_neg m] at b;split at b
   case isFalse=>cases b
   case isTrue hok=>
   have hsc:=jq r (rq (-1)) Z ro (bK _) C (by show _+qs (-1)<=_;omega) ω;have B:FS 157 [.arr (rE r),.agg (rC (rq (-1)))] (.arr (rE (rP (aR (cu u v).2 (-1))))):=by rw[<-p];exact hsc
   have hsl:(aR (cu u v).2 (-1)).length<=n:=by
    rw[<-p];have:=dW (vR r) (-1);rw[cb] at this;omega
   have O:bdL (aR (cu u v).2 (-1)) Z:=fP λi=>by
    rw[<-p,cJ,show coP (vR r) i* -1= -coP (vR r) i by grind,dJ];exact ej C ω i
   have w3:((rP (aR (cu u v).2 (-1))).length+4) * Z<=137438953472:=Nat.le_trans (Nat.mul_le_mul_right _ (show _<=n+4 by rw[b7];omega)) hlT;have H:=lO (rP (aR (cu u v).2 (-1))) Z (dh _) (by rw[b5];exact O) ω (by rw[b5];exact m) w3 (by rw[b7];omega);rw[b5] at H;have D:=Lg L;refine aj (r_m 8 ?_);refine c_s (K) ?_;refine c_s (B) ?_;refine c_s (H) ?_;refine o_1 (.buildSlice te_232.h TZ.h rfl δ rfl rfl rfl ν) ?_;refine o_2 (.append_l rfl rfl rfl te_232.h rfl rfl rfl rfl rfl d_o η ξ rfl (.lsl rfl (nle rfl)) TZ.h rfl TB.h d_o μ) ?_;refine o_0 (.assign rfl) ?_;refine aq ?_;have l:(L++[bU (aR (cu u v).2 (-1))]).length=L.length+1:=ψ
   refine⟨(k,L++[bU (aR (cu u v).2 (-1))]),Nat.lt_succ_self k,⟨.inr ⟨by simp only;omega,v,bU (aR (cu u v).2 (-1)),?_,?_,b⟩,by simp only;omega⟩,?_⟩;rw[l,show L.length+1- 2=L.length- 1 by omega,List.getElem?_append_left ω];exact hv;rw[l];simp;simp only[qO,l];refine s_x [(1,3)] (λhs=>dD) (λhs=>?_)
   ·repeat' (first|exact aB|refine h_c ?_ ?_|exact aJ hs (G3 L _).symm (la _)|exact bG)
 rintro _ _;simp only[qO];refine r_z 2 ?_;exact ai (Fin.tmpS rfl rfl rfl ψ (la out))
theorem B5(p:Lq)(c:Cnt)(h:CQ p c)(x:RQ)(hx:rok x)(hq:qs x.1<=30000000):FS 68 [.arr (rE (rP p)),.agg (rC x)] (i64 (cX c x.1)):=by
 obtain⟨D,z,B,s,r,E⟩:=eE h.hc h.np;have u:=h.pl;have m:=h.sl;have C:=h.cl;have i:=oc 9 2250000 (rP p) c.p (dh _) (by rw[b5];exact z) (by rw[b5];exact h.sz) δ δ (by rw[b5];exact h.gb) (by rw[b7];omega);have a:=yO (rP c.p) 9320005 (dh _) (by rw[b5];exact h.sb) δ (by rw[b5];exact h.sn) δ (by rw[b7];omega);rw[b5] at a;have l:=xE h.sb δ;obtain⟨b,hb⟩:∃b,b=a7 c.p:=⟨_,rfl⟩;rw[<-hb] at a l s r;have j:FS 151 [.agg (rC (rq b))] (.agg (rC (rq (-b)))):=rN (rq b) (bK _);have A:=dJ b;have f:=Ap x (rq (-b)) hx (bK _) (by show qs x.1+qs (-b)<=_;omega);have k:=Ek 4 16 9 67000000 9320005 9320069 201000003 (16* 201000003) (rP c.p) c.ch (dh _) (by rw[b5];exact h.sb) δ (by rw[b5];exact h.sn) (by rw[b5];exact B) h.all δ δ δ δ δ δ δ rfl δ (by rw[b7];exact m);have o:=uB c.ch (rq (-b)) (bK _) 67000000 30000000 δ (by show qs (-b)<=_;omega) (λq hq=>⟨(h.all q hq).2.2,Nat.le_trans (h.all q hq).2.1 δ⟩) δ ω;have n:=uB c.ch x hx 67000000 30000000 δ hq (λq hq=>⟨(h.all q hq).2.2,Nat.le_trans (h.all q hq).2.1 δ⟩) δ ω;have e:=qB (c.ch.map (sgE (-b))) 0 0;have d:=qB (c.ch.map (sgE x.1)) 0 0;rw[List.length_map] at e d;have y:cX c x.1=chV c.ch (-b)- chV c.ch x.1:=by unfold cX;rw[s];rfl
 have g:FS 160 [.arr (cR c.ch),.agg (rC (rq (-b)))] (i64 (chV c.ch (-b))):=o;have t:0<=chV c.ch (-b)/\chV c.ch (-b)<=8:=⟨e.1,by have:=e.2;unfold chV;omega⟩;have w:0<=chV c.ch x.1/\chV c.ch x.1<=8:=⟨d.1,by have:=d.2;unfold chV;omega⟩;refine f_c Tryz.func68 ?_;refine r_z 2 ?_;refine r_c 3 (i) ?_;refine a_z ?_;refine r_c 5 (a) ?_;refine c_s (j) ?_;refine a_z ?_;by_cases hle:fb x.1 (-b)<=0
 have v:cX c x.1=0:=r _ (by
  unfold fb at hle;split at hle;grind;split at hle;grind;omega)
 refine ac (r_c 4 (f) ?_);refine o_0 (.bin rfl rfl (vT gj (decide_eq_true hle))) ?_;refine aq ?_;refine cT (s_r 1 ?_);refine o_0 (.assign rfl) ?_;refine aq ?_;refine ai ?_;rw[v];exact t_e (ak _);refine ac (r_c 4 (f) ?_);refine o_0 (.bin rfl rfl (vF gj (decide_eq_false hle))) ?_;refine aq ?_;refine cF (aj (r_c 3 (k) ?_));refine a_z ?_;refine ac (r_d aX 8 ?_);refine c_s (g) ?_;refine c_s (n) ?_;refine a_2 ?_;refine aq (n_k ?_);refine ai ?_;rw[y];exact t_e (ak _)
theorem B4(p:Lq)(c:Cnt)(h:CQ p c):FS 24 [.arr (rE (rP p))] (.arr (rE (rP c.p))):=by
 obtain⟨e,a,f,d,g,i⟩:=eE h.hc h.np;have b:=h.pl;exact oc 9 2250000 (rP p) c.p (dh _) (by rw[b5];exact a) (by rw[b5];exact h.sz) δ δ (by rw[b5];exact h.gb) (by rw[b7];omega)
theorem Km(p:Lq)(c:Cnt)(h:CQ p c):FS 23 [.arr (rE (rP p))] (i64 (Dc c)):=by
 have b:=B4 p c h;have e:=h.sl;have a:=yO (rP c.p) 9320005 (dh _) (by rw[b5];exact h.sb) δ (by rw[b5];exact h.sn) δ (by rw[b7];omega);rw[b5] at a;have d:=xE h.sb δ;have f:=B5 p c h (rq (a7 c.p)) (bK _) (by show qs (a7 c.p)<=_;omega);refine f_c Tryz.func23 ?_;refine r_z 1 ?_;refine r_c 6 (b) ?_;refine c_s (a) ?_;refine c_s (f) ?_;refine a_z ?_;exact ai (t_e (ak _))
theorem mR_two{p:Lq}{s t:Nat}{c d:Rat}(hp:bdL p s)(hs:1<=s)(hq:bdL [c,d] t)(ht:1<=t)(n:Nat)(hn:n<=2):bdL (mR p [c,d] n) (2* (s+t+1)+1):=
 lb (JP hp hq hs ht n) (by have:=Nat.mul_le_mul_right (s+t+1) hn;omega)
theorem uO(xs vs:Lq){V:Nat}(hl:xs.length=vs.length)(h9:xs.length<=9)(hx:bdL xs 256)(hV:1<=V)(hv:bdL vs V)(hVl:2^ xs.length* (V+771)<=1100000)(hne:∀a b,a< xs.length->b< xs.length->a≠b->coP xs a≠coP xs b):FS 67 [.arr (rE (rP xs)),.arr (rE (rP vs))] (.arr (rE (rP (mV xs vs xs.length)))):=by
 have M:(rP xs).length=xs.length:=b7 xs;have C:∀j,j< xs.length->(rE (rP xs))[((j:Nat):Int).toNat]?=some (rC (rq (coP xs j))):=λj s=>fV (show(rP xs)[j]?=some (rq (coP xs j)) by rw[rP,List.getElem?_map,ci s];rfl);have gv:∀j,j< xs.length->(rE (rP vs))[((j:Nat):Int).toNat]?=some (rC (rq (coP vs j))):=λj s=>fV (show(rP vs)[j]?=some (rq (coP vs j)) by rw[rP,List.getElem?_map,ci ω];rfl);have H:(rP vs).length=xs.length:=by rw[b7,hl]
 have i1:=ek 1 δ;refine f_c Tryz.func67 ?_;refine s_r 1 ?_;refine o_0 (.assign rfl) ?_;refine aq ?_;refine s_r 1 ?_;refine o_0 (.assign rfl) ?_;refine aq ?_;refine ac (s_r 1 ?_);refine o_0 (.assign rfl) ?_;refine aq ?_;refine aC (λ_:Unit=>⟨[(5,.arr (rE (rP (mV xs vs xs.length))))],[],1,56⟩) (λ_=>True) ?_ ?_;refine ah (ay (λi:Nat=>⟨[(6,i64 ((i:Nat):Int)),(5,.arr (rE (rP (mV xs vs i)))),(0,.arr (rE (rP xs))),(1,.arr (rE (rP vs)))],[],1,56⟩) (λi=>xs.length- i) (λi=>i<=xs.length) 0 (Nat.zero_le _) ?_ ?_);exact s_e [];rintro i Q;by_cases hlt:i< xs.length;have A:=C i hlt;have x:=gv i hlt;have O:=bd_co' hx δ i;have m:=bd_co' hv hV i;refine ac (q_z 4 ?_);refine cT (aj (ac (ah (s_r 6 ?_))));refine a_2 ?_;refine i_x x ?_;refine l_x x ?_;refine c_s (Ao (coP vs i)) ?_;refine a_z ?_;refine ac (r_z 1 ?_);refine aC (λ_:Unit=>⟨[(7,.arr (rE (rP (kS xs (coP vs i) i xs.length)))),(6,i64 ((i:Nat):Int)),(5,.arr (rE (rP (mV xs vs i)))),(0,.arr (rE (rP xs))),(1,.arr (rE (rP vs)))],[],1,56⟩) (λ_=>True) ?_ ?_;refine ah (ay (λj:Nat=>⟨[(8,i64 ((j:Nat):Int)),(7,.arr (rE (rP (kS xs (coP vs i) i j)))),(6,i64 ((i:Nat):Int)),(5,.arr (rE (rP (mV xs vs i)))),(0,.arr (rE (rP xs))),(1,.arr (rE (rP vs)))],[],1,56⟩) (λj=>xs.length- j) (λj=>j<=xs.length) 0 (Nat.zero_le _) ?_ ?_);exact s_e [];rintro j s;by_cases hjt:j< xs.length;have o:=C j hjt;refine ac (q_z 4 ?_);refine cT (aj (ac (ah ?_)));by_cases hij:j=i
 have e:kS xs (coP vs i) i (j+1)=kS xs (coP vs i) i j:=by rw[kS,if_pos hij]
 refine s_r 3 ?_;refine a_2 ?_;refine o_0 (.bin rfl rfl (vF cm ((by rw[hij];exact bne_self_eq_false _)))) ?_;refine aq ?_;refine cF (aj (r_m 3 ?_));refine a_z ?_;refine⟨j+1,ω,hjt,?_⟩;simp only[e];exact s_e [];obtain⟨c,hc⟩:∃c,c=1/ (coP xs i- coP xs j):=⟨_,rfl⟩;obtain⟨v,d⟩:∃v,v=kS xs (coP vs i) i j:=⟨_,rfl⟩;have e:kS xs (coP vs i) i (j+1)=aR (aT v [-coP xs j,1]) c:=by rw[kS,if_neg hij,d,hc]
 have l:=bd_co' hx δ j;have G:coP xs i- coP xs j≠0:=λh=>hne i j hlt hjt (Ne.symm hij) φ;have q1:=lK (coP xs i) (coP xs j);have q2:=fL 1 (coP xs i- coP xs j);have q3:qs 1=1:=δ
 have q4:qs (((1:Int):Rat))=1:=δ
 have K:=Gy (rq (coP xs i)) (rq (coP xs j)) (bK _) (bK _) (by show qs (coP xs i)+qs (coP xs j)<=_;omega);have D:=o3 (rq ((1:Int):Rat)) (rq (coP xs i- coP xs j)) (bK _) (bK _) G (by show qs (((1:Int):Rat))+qs (coP xs i- coP xs j)<=_;omega);rw[show(rq ((1:Int):Rat)).1/ (rq (coP xs i- coP xs j)).1=c by rw[hc];rfl] at D;have S:=rN (rq (coP xs j)) (bK _);obtain⟨b,b1,b2,J⟩:=u4 (v:=coP vs i) hx hV m i j;rw[<-d] at b2
 have N:b<=1200000:=by
  have T:2^ j* (V+771)<=2^ xs.length* (V+771):=Nat.mul_le_mul_right _ (Nat.pow_le_pow_right δ (by omega:j<=xs.length));omega
 have y:bdL [-coP xs j,1] 256:=λq p=>by
  rcases List.mem_cons.1 p with rfl|p
  rw[dJ];exact l;rw[List.mem_singleton.1 p];decide
 have k:vR [rq (-coP xs j),rq ((1:Int):Rat)]=[-coP xs j,1]:=rfl;have f:=ru xs (coP vs i) i j;rw[<-d] at f;have F:v.length<=10:=by split at f <;> omega
 have E:=wO (rP v) [rq (-coP xs j),rq ((1:Int):Rat)] b 256 (2* (b+256+1)+1) (dh _) (λz r=>by
  rcases List.mem_cons.1 r with rfl|r
  exact bK _;rw[List.mem_singleton.1 r];exact bK _) (by rw[b5];exact b2) (by rw[k];exact y) b1 (by rw[b5,k];exact λn R=>mR_two b2 b1 y δ n R) ω (by rw[b7];omega) ψ
 rw[b5,k] at E;have m1:=rl (c:= -coP xs j) (t:=256) b2 b1 (by rw[dJ];exact l);have m2:=jD v (-coP xs j);have B:=jq (rP (aT v [-coP xs j,1])) (rq c) (2* b+256+1) (dh _) (bK _) (by rw[b5];exact m1) (by show 2* b+256+1+qs c<=_;rw[hc];omega) (by rw[b7];omega);rw[b5] at B;have u:FS 157 [.arr (rE (rP (aT v [-coP xs j,1]))),.agg (rC (rq c))] (.arr (rE (rP (aR (aT v [-coP xs j,1]) c)))):=B;refine s_r 3 ?_;refine a_2 ?_;refine o_0 (.bin rfl rfl (vT cm ((bne_iff_ne.2 ω)))) ?_;refine aq ?_;refine cT ?_;rw[<-d];refine ac (r_d aX 13 ?_);refine c_s (i1) ?_;refine a_2 ?_;refine i_x A ?_;refine l_x A ?_;refine a_2 ?_;refine i_x o ?_;refine l_x o ?_;refine c_s (K) ?_;refine c_s (D) ?_;refine a_2 ?_;refine aq (n_k ?_);refine r_d aX 12 ?_;refine a_3 ?_;refine i_x o ?_;refine l_x o ?_;refine c_s (S) ?_;refine c_s (i1) ?_;refine a_1 ?_;refine o_1 (.callS1 rfl rfl rfl (.keep (.shut rfl d_n (.nil))) rfl ((FSpec.argE2 E rfl))) ?_;refine c_s (u) ?_;refine a_1 ?_;refine aq (n_k ?_);refine r_m 3 ?_;refine a_z ?_;refine⟨j+1,ω,hjt,?_⟩;simp only[e];exact s_e [];have g:j=xs.length:=ω
 subst g;refine ac (q_z 4 ?_);refine cF (ax ⟨(),trivial,?_⟩);exact s_e [];rintro _ _;obtain⟨b,b1,b2,J⟩:=u4 (v:=coP vs i) hx hV m i xs.length
 have N:b<=1200000:=by
  omega
 have o1:=Gk hx hV hv hVl i;have o2:=wH xs vs i Q;have L:=ru xs (coP vs i) i xs.length;rw[if_pos hlt] at L;have w:=rQ (rP (mV xs vs i)) (rP (kS xs (coP vs i) i xs.length)) (i* (1100000+1)+1) b (dh _) (dh _) (by rw[b5];exact o1) (by rw[b5];exact b2) ω (by rw[b7];omega) (by rw[b7];omega);rw[b5,b5] at w;refine r_m 4 ?_;refine c_s (w) ?_;refine a_z ?_;refine r_m 3 ?_;refine a_z ?_;refine⟨i+1,ω,hlt,?_⟩;exact s_e [];have g:i=xs.length:=ω
 subst g;refine ac (q_z 4 ?_);refine cF (ax ⟨(),trivial,?_⟩);exact s_e [];rintro _ _;refine s_r 2 ?_;refine o_0 (.move rfl) ?_;refine o_0 (.assign rfl) ?_;refine aq ?_;exact ai (t_e (ca _))


end Go.Proofs.YtjmkjicckobojaaGreatDoor
namespace Go.Proofs.YtjmkjicckobojaaGreatDoor
open Go.Abs Go.Deep Go.RowKit
set_option maxRecDepth 20000
theorem EJ{M:Nat->Prop}{β:Bq}{w:World}{b s off:Nat}{f:Nat->La}:∀(n j:Nat),(∀i,i< j+n->(f i).length=s/\RVcs M β w b (f i) (off+i* s))->RVess M β w b s ((List.range' j n).map f) (off+j* s)
 |0,_,_=>trivial
 |n+1,j,h=>by
  rw[List.range'_succ,List.map_cons];refine⟨(h j ω).1,(h j ω).2,?_⟩;have:=EJ (M:=M) (β:=β) (w:=w) (b:=b) (s:=s) (off:=off) n (j+1) (λi a=>h i ω);rwa[Nat.add_mul,Nat.one_mul,<-Nat.add_assoc] at this
theorem qJ{w:World}{b o:Nat}{v:Value}(h:w.cell? ⟨b,o,none⟩=some v):∃N,aU w b=some N:=by
 unfold World.cell? at h;unfold aU;split at h
 ·rename_i c _ _ e;rw[show w.heap[b]?=_ from e];exact⟨c.size,rfl⟩
 cases h
theorem tyS:(Tryz.prog).underlying 34=some (.slice 24):=by kernel_rfl
theorem tyN:∃f0 f1 f2,(Tryz.prog).underlying 24=some (.struct #[f0,f1,f2])/\f0.type=2/\f0.offset=0/\f1.type=2/\f1.offset=1/\f2.type=5/\f2.offset=2:=
 ⟨{name:= "N",type:=2,offset:=0,embedded:=false,tag:= "",pkgPath:= "",byteOffset:=0},{name:= "D",type:=2,offset:=1,embedded:=false,tag:= "",pkgPath:= "",byteOffset:=8},{name:= "Pow",type:=5,offset:=2,embedded:=false,tag:= "",pkgPath:= "",byteOffset:=16},by kernel_rfl,rfl,rfl,rfl,rfl,rfl,rfl⟩
theorem Fw:(Tryz.prog).cellsOf 24=3:=by kernel_rfl
theorem tyc2:(Tryz.prog).cellsOf 2=1:=by kernel_rfl
theorem tyc5:(Tryz.prog).cellsOf 5=1:=by kernel_rfl
theorem tyu2:(Tryz.prog).underlying 2=some (.int .i64):=by kernel_rfl
theorem tyu5:(Tryz.prog).underlying 5=some (.int .u8):=by kernel_rfl
theorem Aa{H:Type}{enc:TypeId×Value->H}{W:World}{base n:Nat}{spare:Nat->Bool}{held:Bool}{cs:List Value}{x:DataW H×List MemPlace}(h:DataW.trod enc Tryz.prog W base spare held n 24 cs=some x):
    ∃r:iq,mc r.1/\mc r.2.1/\r.2.2<=255/\cs=[.int .i64 r.1,.int .i64 r.2.1,.int .u8 r.2.2]:=by
 obtain⟨w,y,z,p,j,g,q,i,k,s⟩:=tyN;obtain⟨A,v,B,m,_,e,c,d,b⟩:=trod_struct3 p h;rw[j,g,tyc2] at c;rw[q,i,tyc2] at d;rw[k,s,tyc5] at b;rw[Fw] at e;obtain⟨l,e0,_,o⟩:=DataW.trod_int tyu2 c;obtain⟨t,e1,_,f⟩:=DataW.trod_int tyu2 d;obtain⟨a,e2,_,u⟩:=DataW.trod_int tyu5 b
 match cs,e with
 |[c0,c1,c2],_=>
  simp at e0 e1 e2;subst e0;subst e1;subst e2;have b2:=bounds_u8 u;refine⟨(l,t,a.toNat),bounds_i64 o,bounds_i64 f,?_,?_⟩;show a.toNat<=255;omega;show _=[_,_,Value.int .u8 ((a.toNat:Nat):Int)];rw[Int.toNat_of_nonneg b2.1]
theorem FP{H:Type}{enc:TypeId×Value->H}{W:World}{a:Option Addr}{len cap:Nat}{d:DataW H}{ps:List MemPlace}(h:DataW.Trod enc Tryz.prog W 0 (λ_=>true) true 34 (.slice a len cap) d ps):
    ∃l:List iq,okR l/\RV (λ_=>False) (λ_=>none) W (.arr (nR l)) (.slice a len cap):=by
 obtain⟨J,Q⟩:=h;rcases open_slice tyS Q with⟨o,_⟩|⟨x,G,F,m,n,D,Z,o,_,T,X,t,_,C⟩
 simp[Value.cells] at o;obtain⟨rfl,rfl,rfl⟩:=o;exact⟨[],(λr B=>by cases B),none,0,rfl,Nat.le_refl _,δ,.inl rfl⟩;simp[Value.cells] at o;obtain⟨rfl,rfl,rfl⟩:=o;simp only[if_true] at t;have A:m=cap:=t;rw[A] at C;rw[Fw] at C
 have z:∀i,i< len->∃r:iq,(mc r.1/\mc r.2.1/\r.2.2<=255)/\W.cells? 0 (x.add (i* 3)) 3=some [.int .i64 r.1,.int .i64 r.2.1,.int .u8 r.2.2]:=λi y=>by
  obtain⟨U,S,O⟩:=C i ω;obtain⟨r,N,V,L,e⟩:=Aa O;exact⟨r,⟨N,V,L⟩,by rw[S,e]⟩
 obtain⟨R,K⟩:=choose_lt (α:=iq) z;refine⟨(List.range len).map R,?_,some x,cap,by simp[nR],by simpa[nR] using T,X,?_⟩;intro r B;obtain⟨i,y,rfl⟩:=List.mem_map.1 B;exact(K i (List.mem_range.1 y)).1;by_cases h0:len=0;subst h0;exact .inl rfl;right
 have c:∀i,i< len->∀j (v:Value),[.int .i64 (R i).1,.int .i64 (R i).2.1,.int .u8 (R i).2.2][j]?=some v->W.cell? (x.add (i* 3+j))=some v:=λi y j v hv=>by
  have Y:j< 3:=by
   have:=(List.getElem?_eq_some_iff.1 hv).1;simpa using this
  have:=(World.cells?_some (K i y).2).2.2 j Y;rw[hv,Go.Deep.add_add] at this;exact this
 have E:=c 0 ω 0 _ rfl;obtain⟨b,off,u⟩:=x;have q:u=none:=by simpa[Addr.add] using World.cell?_spot E
 subst q
 have g:∀k,Addr.add ⟨b,off,none⟩ k=⟨b,off+k,none⟩:=λk=>by
  unfold Addr.add;by_cases hk:k=0;simp[hk];simp[hk]
 refine⟨b,off,3,rfl,qJ (by rw[g] at E;exact E),(λh=>h),?_⟩;have:=EJ (M:=λ_=>False) (β:=λ_=>none) (w:=W) (b:=b) (s:=3) (off:=off) (f:=λi=>nuC (R i).1 (R i).2.1 (R i).2.2) len 0 (λi y=>⟨rfl,?_⟩);rw[Nat.zero_mul,Nat.add_zero,<-List.range_eq_range'] at this;rw[nR,List.map_map];exact this;have p:i< len:=ω
 refine⟨⟨_,?_,rfl⟩,⟨_,?_,rfl⟩,⟨_,?_,rfl⟩,trivial⟩;have:=c i p 0 _ rfl;rw[g] at this;exact this;have:=c i p 1 _ rfl;rw[g] at this;rw[Nat.add_assoc];exact this;have:=c i p 2 _ rfl;rw[g] at this;rw[Nat.add_assoc,Nat.add_assoc];exact this
end Go.Proofs.YtjmkjicckobojaaGreatDoor
namespace Go.Proofs.YtjmkjicckobojaaGreatDoor
open Go.Abs
set_option maxRecDepth 100000
set_option maxHeartbeats 2000000
theorem mxL_le{p:Lq}{s:Nat}(h:bdL p s)(hs:1<=s):mxL p<=s:=by
 unfold mxL
 induction p with
 |nil=>exact hs
 |cons a l c=>
  have e:=h a (List.mem_cons_self ..);have d:=c λq b=>h q (List.mem_cons_of_mem _ b);rw[List.foldr_cons];omega
def pkR(p:Lq×Lq):La:=[.arr (rE (rP p.1)),.arr (rE (rP p.2))]
def keR(k:Ke):Lc:=k.map pkR
@[simp] theorem ii (k:Ke):(keR k).length=k.length:=by simp[keR]
theorem fG(k:Ke):∀x∈keR k,∀c∈x,Closed c:=λx a=>by
 obtain⟨p,_,rfl⟩:=List.mem_map.1 a;exact ae (ca _) (ae (ca _) af)
theorem aY(k:Ke):Closed (.arr (keR k)):=aK (fG k)
theorem iR{k:Ke}{i:Nat}{p:Lq×Lq}(h:k[i]?=some p):∀e,e=i->(keR k)[e]?=some (pkR p):=λe a=>by
 rw[a,keR,List.getElem?_map,h];rfl
def bRq(a:Rat):AV:= .aptr [rC (rq a)] 0 0
theorem ew(a:Rat):Closed (bRq a):=bi (cK _)


theorem Ih(p:Lq)(h:re p)(h0:ap p≠[])(hl:p.length<=1099511627776):FS 53 [.arr (pE p)] (.tup [.agg (qC (a7 p)),i64 0]):=by
 refine f_c Tryz.func53 ?_;refine r_z 2 ?_;refine ac (r_c 3 (em p hl) ?_);refine a_z ?_;refine ar rfl (λa=>?_) (λa=>?_);exact absurd (degP_neg.1 (by simpa using a)) h0;refine aj (r_c 4 (Cb p h h0) ?_);refine a_z ?_;refine ai (Fin.many ⟨_,_,rfl,⟨_,_,_,_,_,rfl,rfl,rfl,.inl ⟨TG.h,_,TS.h,nle rfl,rfl⟩⟩,⟨_,_,rfl,rfl,rfl⟩⟩ (nle rfl) ?_);exact am (ao aF (aP _)) (am (ao aF (ak _)) av)









theorem CvL_zC{r:Ren}{hp hp':Hq}(h:Shr r hp hp'):CvL r hp hp' zC (qC 0):=by
 rw[qC0];exact am (Cv.emp _) (am (ao h (ak _)) (am (Cv.emp _) av))







theorem Kl(X:List RQ)(a b:Rat)(s:Nat)(hx:okX X)(hs:bdL (vR X) s)(hs1:1<=s)(hl:X.length<=200)(ha:qs a<=256)(hb:qs b<=256)(hlim:s<=100000000):
    FS 152 [.arr (rE X),.agg (rC (rq a)++rC (rq b))] (.agg (rC (rq (an (aM (vR X)) b- an (aM (vR X)) a)))):=by
 have e:=An X s hx hs ω ω;have g:=cb X;have il:=gS (vR X);have ib:=n8 hs hs1 ω;generalize aM (vR X)=I at *
 have f:(rP I).length=I.length:=by simp[rP]
 have i:=Nat.mul_le_mul (show(rP I).length+2<=203 by omega) (show s+21+256+1<=100000278 by omega);have e1:=od (rP I) (rq b) (s+21) 256 (dh _) (bK _) (by rw[b5];exact ib) ω hb ω ω;have e2:=od (rP I) (rq a) (s+21) 256 (dh _) (bK _) (by rw[b5];exact ib) ω ha ω ω;rw[b5] at e1 e2;have h:=Nat.mul_le_mul (show I.length<=201 by omega) (show s+21+256+1<=100000278 by omega);have b1:=iW hb ib;have b2:=iW ha ib;have d:=Gy (rq (an I b)) (rq (an I a)) (bK _) (bK _) (by show qs (an I b)+qs (an I a)<=_;omega);refine f_n Tryz.func152 ?_ ?_;exact ae (ca X) (ae (aE λc hc=>(List.mem_append.1 hc).elim (cK _ c) (cK _ c)) af);refine r_z 2 ?_;refine r_c 3 (e) ?_;refine a_z ?_;refine ac (r_d aX 10 ?_);refine c_s (e1) ?_;refine c_s (e2) ?_;refine c_s (d) ?_;refine a_1 ?_;refine aq (n_k ?_);exact ai (c_e (c9 _))











section
variable {a b:Rat}(h:a< b){k:Nat}(hk:1<=k/\k<=4)(ha:qs a<=20)(hb:qs b<=20)
include h hk ha hb
end
section
variable {a b a' b':Rat}(h:a< b)(h':a'< b'){k:Nat}(hk:1<=k/\k<=4)(ha:qs a<=20)(hb:qs b<=20)(ha':qs a'<=20)(hb':qs b'<=20)
include h h' hk ha hb ha' hb'
end


end Go.Proofs.YtjmkjicckobojaaGreatDoor
namespace Go.Proofs.YtjmkjicckobojaaGreatDoor
open Go.Abs Go.Deep Go.RowKit Go.WideShapes
set_option maxRecDepth 20000
def okN(r:iq):Prop:=mc r.1/\mc r.2.1/\r.2.2<=255
theorem F5{H:Type}{enc:TypeId×Value->H}{W:World}{base:Nat}{v:Value}{d:DataW H}{ps:List MemPlace}(hv:Value.okWide Tryz.prog W .any base 24 v)(h:DataW.Trod enc Tryz.prog W 0 (λ_=>true) true 24 v d ps):
    ∃r:iq,okN r/\RV (λ_=>False) (λ_=>none) W (.agg (nuC r.1 r.2.1 r.2.2)) v:=by
 obtain⟨n,m,l,j,_⟩:=tyN
 obtain⟨cs,rfl,_⟩:∃cs,v= .agg cs/\True:=by
  unfold Value.okWide at hv;rw[j] at hv;obtain⟨cs,i,_⟩:=hv;exact⟨cs,i,trivial⟩
 obtain⟨a,c⟩:=h;obtain⟨r,g,b,f,e⟩:=Aa c;refine⟨r,⟨g,b,f⟩,cs,rfl,?_⟩;have k:cs.toList=[.int .i64 r.1,.int .i64 r.2.1,.int .u8 r.2.2]:=by simpa[Value.cells] using e
 rw[k];exact⟨_,_,rfl,rfl,_,_,rfl,rfl,_,_,rfl,rfl,rfl⟩
end Go.Proofs.YtjmkjicckobojaaGreatDoor
namespace Go.Proofs.YtjmkjicckobojaaGreatDoor
open Go.Abs
set_option maxRecDepth 20000
def ob(r:iq):Bool:=decide (¬((r.2.2:Int) % 4≠0)/\¬r.1> 999999/\¬r.1< -999999/\¬r.2.1> 999999/\¬r.2.1< -999999)
def iD(l:List iq)(k:Nat):Bool:=l.all ob && decide (l.length<=k)
theorem Aw(l:List iq)(k:Nat)(hl:l.length<=9223372036854775807)(hk:k<=1000000):FS 6 [.arr (nR l),i64 k] (bln (iD l k)):=by
 have m:(nR l).length=l.length:=by simp[nR]
 refine f_n Tryz.func6 ?_ ?_;exact ae (aK (er l)) (ae (ak _) af);refine r_z 1 ?_;refine ac (r_z 1 ?_);refine aC (λ_:Unit=>⟨[(0,.arr (nR l)),(1,i64 k)],[],1,45⟩) (λ_=>l.all ob=true) ?_ ?_;refine ah (ay (λj:Nat=>⟨[(5,i64 ((j:Nat):Int)),(0,.arr (nR l)),(1,i64 k)],[],1,45⟩) (λj=>l.length- j) (λj=>j<=l.length/\(l.take j).all ob=true) 0 ⟨Nat.zero_le _,rfl⟩ ?_ ?_);have:=(aK (er l));exact s_f [];rintro j ⟨o,g⟩;by_cases hlt:j< l.length;obtain⟨r,n⟩:∃r,l[j]?=some r:=⟨_,List.getElem?_eq_getElem hlt⟩
 have c:(nR l)[((j:Nat):Int).toNat]?=some (nuC r.1 r.2.1 r.2.2):=by
  rw[Int.toNat_natCast,nR,List.getElem?_map,n];rfl
 have b:ob r=false->iD l k=false:=λh=>by
  unfold iD;rw[Bool.and_eq_false_iff];exact .inl (List.all_eq_false.2 ⟨r,List.mem_of_getElem? n,by rw[h];decide⟩)
 refine ac (q_z 4 ?_);refine cT (aj (ac (ah (s_r 6 ?_))));refine a_2 ?_;refine i_x c ?_;refine l_x c ?_;refine a_z ?_;by_cases c0:((r.2.2:Int) % 4≠0);have a:ob r=false:=decide_eq_false (by rintro⟨e0,e1,e2,d,f⟩;exact e0 c0);rw[b a];refine s_r 24 ?_;refine a_3 ?_;refine o_0 (.bin rfl rfl (vT cm ((by simpa using c0)))) ?_;refine a_z ?_;refine cT (r_z 1 ?_);exact ai (t_e (ak _));by_cases c1:r.1> 999999;have a:ob r=false:=decide_eq_false (by rintro⟨e0,e1,e2,d,f⟩;exact e1 c1);rw[b a];refine s_r 24 ?_;refine a_3 ?_;refine o_0 (.bin rfl rfl (vF cm ((by simpa using c0)))) ?_;refine d_z ?_;refine cT (r_z 1 ?_);exact ai (t_e (ak _));by_cases c2:r.1< -999999;have a:ob r=false:=decide_eq_false (by rintro⟨e0,e1,e2,d,f⟩;exact e2 c2);rw[b a];refine s_r 24 ?_;refine a_3 ?_;refine o_0 (.bin rfl rfl (vF cm ((by simpa using c0)))) ?_;refine d_z ?_;refine cT (r_z 1 ?_);exact ai (t_e (ak _));by_cases c3:r.2.1> 999999;have a:ob r=false:=decide_eq_false (by rintro⟨e0,e1,e2,d,f⟩;exact d c3);rw[b a];refine s_r 24 ?_;refine a_3 ?_;refine o_0 (.bin rfl rfl (vF cm ((by simpa using c0)))) ?_;refine d_z ?_;refine cT (r_z 1 ?_);exact ai (t_e (ak _));by_cases c4:r.2.1< -999999;have a:ob r=false:=decide_eq_false (by rintro⟨e0,e1,e2,d,f⟩;exact f c4);rw[b a];refine s_r 24 ?_;refine a_3 ?_;refine o_0 (.bin rfl rfl (vF cm ((by simpa using c0)))) ?_;refine d_z ?_;refine cT (r_z 1 ?_);exact ai (t_e (ak _));have a:ob r=true:=decide_eq_true ⟨c0,c1,c2,c3,c4⟩;refine s_r 24 ?_;refine a_3 ?_
 refine o_0 (.bin rfl rfl (vF cm ((by simpa using c0)))) ?_;refine d_z ?_;refine cF (aj (r_m 3 ?_));refine a_z ?_;refine⟨j+1,ω,⟨hlt,?_⟩,?_⟩;rw[cO n,List.all_append,g];simp[a];have:=(aK (er l));exact s_f [];have i:l.take j=l:=List.take_of_length_le ω;rw[i] at g;refine ac (q_z 4 ?_);refine cF (ax ⟨(),g,?_⟩);have:=(aK (er l));exact s_f [];rintro _ g
 have e:iD l k=decide ((((nR l).length:Nat):Int)<=(k:Int)):=by
  unfold iD;rw[g,Bool.true_and,m];exact decide_eq_decide.2 ω
 rw[e];refine r_z 5 ?_;exact ai (t_e (ak _))
theorem good_qs{r:iq}(h:ob r=true)(hb:mc r.1)(hd:mc r.2.1):qs (rk r.1 r.2.1 r.2.2)<=20:=by
 obtain⟨j,i,f,k,g⟩:=of_decide_eq_true h;have hp:r.2.2 % 4=0:=ω
 have b:bl r.1.natAbs<=20:=gY ω;unfold rk;rw[hp];show qs (Rat.divInt r.1 (xX r.2.1))<=20;obtain⟨d,a⟩:∃d,d=xX r.2.1:=⟨_,rfl⟩;have c:d≠0:=by rw[a];unfold xX;split <;> omega
 have e:bl d.natAbs<=20:=by rw[a];unfold xX;split <;> exact gY ω
 rw[<-a];by_cases hn:d< 0;rw[qu _ d hn];exact fW ω (by rw[Int.natAbs_neg];exact b) ω;rw[qt _ d ω];exact fW ω b ω
theorem zt{l:List iq}{k:Nat}(h:iD l k=true)(ho:okR l):bdL (nL l) 20/\(nL l).length<=k:=by
 unfold iD at h;rw[Bool.and_eq_true,List.all_eq_true] at h;refine⟨λq b=>?_,by simpa[nL] using h.2⟩;obtain⟨r,a,rfl⟩:=List.mem_map.1 b;exact good_qs (h.1 r a) (ho r a).1 (ho r a).2.1


section
variable {f N h Q r J g:Nat}{p:Lq}{c:Cnt}{i:Int}{A B:Rat}
end
section
variable {f N h Q r J g M hq X Xd Td J2:Nat}{p:Lq}{c:Cnt}{i:Int}{A B:Rat}
end

theorem cmpQ_le{a b:Rat}:fb a b<=0↔a<=b:=by
 unfold fb;grind

section
variable {f N h Q r g J J2 J3:Nat}{k:Int}{p:Lq}{K:Rat}(hpl:p.length<=24)(lp:(ap p).length<=N)(bp:bdL p h)(Hp:HS p K h){lo hi:Rat}(hlh:lo<=hi)
end

end Go.Proofs.YtjmkjicckobojaaGreatDoor
