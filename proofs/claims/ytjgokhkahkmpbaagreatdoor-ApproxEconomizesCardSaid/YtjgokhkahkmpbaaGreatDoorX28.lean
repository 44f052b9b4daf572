/- Part X28 of the proof. -/
import Derived.Test.YtjgokhkahkmpbaaGreatDoorX27
set_option linter.all false
namespace Go.Proofs.YtjgokhkahkmpbaaGreatDoor
open Go.Abs
set_option maxRecDepth 20000
set_option maxHeartbeats 8000000
theorem Ar{x y:List RQ}(hx:okX x)(hy:okX y):okX (x++y):=fun z hz=>(List.mem_append.1 hz).elim (hx z) (hy z)
theorem Dk(n:Nat):okX (List.replicate n r0):=fun z hz=>by rw[List.eq_of_mem_replicate hz];exact rok_r0
theorem uL(x y:List RQ):vR (x++y)=vR x++vR y:=by simp[vR]
theorem xF(n:Nat):vR (List.replicate n r0)=List.replicate n 0:=by simp[vR,r0]
def zR4:La:=[i64 0,.emp,i64 0,.emp]
theorem le_zR4:LeL zR4 (rC r0):=by
 rw[show rC r0=[i64 0,.arr [],i64 0,.arr []] from rC_r0];exact .cons (.refl _) (.cons .emp (.cons (.refl _) (.cons .emp .nil)))
theorem oh:∀c∈zR4,Closed c:=ae (ag _) (ae aS (ae (ag _) (ae aS ai)))
theorem tn(L:List RQ):∀n,LeLL (List.replicate n zR4++rE L) (rE (List.replicate n r0++L))
 |0=>LeLL.refl _
 |n+1=> .cons le_zR4 (tn L n)
theorem xe(n:Nat)(L:List RQ):Closed (.arr (List.replicate n zR4++rE L)):=aR fun c hc=>(List.mem_append.1 hc).elim (fun h=>by rw[List.eq_of_mem_replicate h];exact oh) (fJ L c)
theorem FSpec.zerosR{P:Program}{f n:Nat}{L:List RQ}{a r:AV}(h:FSpec P f [a,.arr (rE (List.replicate n r0++L))] r)(ha:Closed a):FSpec P f [a,.arr (List.replicate n zR4++rE L)] r:=
 h.weak (.cons (Le.refl _) (.cons (Le.arr (tn L n)) .nil)) (ae ha (ae (xe n L) ai))
theorem zR4_one(n:Nat):(List.replicate n zR4).all (·.all AV.one)=true:=by
 simp only[List.all_replicate];cases n <;> rfl
theorem yA(x y:List RQ)(s t B:Nat)(hx:okX x)(hy:okX y)(hs:bdL (vR x) s)(ht:bdL (vR y) t)(hs1:1≤s)(hB:∀n,n≤y.length→bdL (mR (vR x) (vR y) n) B)(hlim:s+t+B+64≤1099511627776)(hxl:x.length≤100000)(hyl:y.length≤100000):FS 74 [.arr (rE x),.arr (rE y)] (.arr (rE (rP (ef (vR x) (vR y))))):=by
 obtain⟨m,hm⟩:∃m,m=mR (vR x) (vR y):=⟨_,rfl⟩;rw[←hm] at hB;refine f_c Tryz.func74 ?_;refine r_z 1 ?_;refine r_z 1 ?_;refine ac (r_z 1 ?_);refine aI (fun _:Unit=>⟨[(5,.arr (rE (rP (m y.length)))),(0,.arr (rE x)),(1,.arr (rE y))],[],1,25⟩) (fun _=>True) ?_ ?_;refine am (aC (fun j:Nat=>⟨[(6,i64 ((j:Nat):Int)),(5,.arr (rE (rP (m j)))),(0,.arr (rE x)),(1,.arr (rE y))],[],1,25⟩) (fun j=>y.length- j) (fun j=>j≤y.length) 0 (Nat.zero_le _) ?_ ?_);rw[hm];exact s_e [];rintro j hj;by_cases hlt:j< y.length
 ·obtain⟨b,hb,hbv⟩:=nU (x:=y) (i:=j) hlt
  have hbb:=uK ht hb;have hbo:=hy b (List.mem_of_getElem? hb);have hgt:(rE y)[((j:Nat):Int).toNat]?=some (rC b):=jT hb;have h1:=jn x b s hx hbo hs (by omega) (by omega);have hl1:=wt (vR x) (vR y) j;rw[←hm,jg] at hl1;have hl2:=cm (vR x) b.1;rw[jg] at hl2
  have hz:bdL (vR (List.replicate j r0++rP (aW (vR x) b.1))) (s+qs b.1):=by
   rw[uL,xF,cW];intro q hq;rcases List.mem_append.1 hq with h|h
   rw[List.eq_of_mem_replicate h];have:qs 0=1:=by decide
   omega;exact BD hs hs1 q h
  have h2:=pk (rP (m j)) (List.replicate j r0++rP (aW (vR x) b.1)) B (s+qs b.1) (eD _) (Ar (Dk _) (eD _)) (by rw[cW];exact hB j (by omega)) hz (by omega) (by rw[mJ];omega) (by rw[List.length_append,List.length_replicate,mJ];omega)
  have hnx:ik (vR (rP (m j))) (vR (List.replicate j r0++rP (aW (vR x) b.1)))=m (j+1):=by
   rw[cW,uL,xF,cW,hm,mR,←hbv];rfl
  rw[hnx] at h2;refine ac (q_z 4 ?_);refine cT (ak (ac (am ?_)));have h3:=FSpec.zerosR h2 (b8 _);refine r_d hmix 12 ?_;refine a_6 ?_;refine i_x hgt ?_;refine l_x hgt ?_;refine c_s (h1) ?_;refine o_2 (.append_l rfl rfl rfl te_32.h rfl rfl rfl rfl rfl d_o (zR4_one _) (eo _) rfl (.arr (rA _)) TZ.h rfl TB.h d_o (by first|(simp[maxLen];done)|(simp[maxLen];omega))) ?_;refine o_1 (.callS1 rfl rfl rfl (.keep (.shut rfl d_n (.nil))) rfl ((FSpec.argE2 h3 (by rw[List.drop_zero];exact List.take_of_length_le (by simp))))) ?_;refine a_1 ?_;refine an (n_k ?_);refine r_m 3 ?_;refine a_z ?_;refine⟨j+1,by omega,hlt,?_⟩;exact s_e []
 have hge:j=y.length:=by omega
 subst hge;refine ac (q_z 4 ?_);refine cF (aA ⟨(),trivial,?_⟩);exact s_e [];rintro _ _;refine r_z 2 ?_;refine aj ?_;have e:m y.length=ef (vR x) (vR y):=by rw[hm,←tg,jg]
 rw[e];exact t_e (b8 _)








def roE(p:Lq)(a:Int)(n:Nat):Lc:=(List.range n).map fun(j:Nat)=>[.arr (pE p),i64 (a+(j:Int))]
@[simp] theorem roE_length (p:Lq)(a:Int)(n:Nat):(roE p a n).length=n:=by simp[roE]
theorem Cc{p:Lq}{a:Int}{n j:Nat}(h:j< n):(roE p a n)[((j:Nat):Int).toNat]?=some [.arr (pE p),i64 (a+(j:Int))]:=by
 show(roE p a n)[j]?=_;unfold roE;rw[List.getElem?_map,List.getElem?_range h];rfl
theorem roE_one(p:Lq)(a:Int)(n:Nat):(roE p a n).all (·.all AV.one)=true:=by
 simp only[roE,List.all_map,List.all_eq_true];intro q _;rfl
theorem fZ(p:Lq)(a:Int)(n:Nat):∀e∈roE p a n,∀c∈e,Closed c:=fun e he c hc=>by
 obtain⟨j,_,rfl⟩:=List.mem_map.1 he;exact ae (ap p) (ae (ag _) ai) c hc
theorem EB(p:Lq)(a:Int)(n:Nat):roE p a (n+1)=roE p a n++[[.arr (pE p),i64 (a+(n:Int))]]:=by
 unfold roE;rw[List.range_succ,List.map_append];rfl
def rtS(t n:Nat)(fr:Fr)(p:Lq)(a:Int):Nat→AState
 |0=>⟨(t,.emp)::fr,[],1,n⟩
 |m+1=>⟨(t,.lsl 1 0 (m+1) none 2)::fr,[(1,some ⟨207,2,roE p a (m+1)⟩)],2,n⟩
theorem Fz(f:Nat)(p:Lq)(c:Cnt)(s:Sp)(m:Nat)(hc:fU f p=some c)(hf:f≤1000000)(h1:oQ c s.1)(h2:rl c s.2)(hs:smS s)(hv:cZ s.1 s.2≤0)(hl:lr p=0)(hp:p.length≤1099511627776)(hcl:c.p.length≤1000)(hm:fq c s.2=cx c s.1+m):
    FS 215 [.arr (pE p),.agg (spC s.1 s.2)] (.tup [.arr (roE c.p (cx c s.1) m),i64 0]):=by
 have hb1:=oo (x:=s.2) h2.1;have hb2:=D1 (x:=s.1) h1.1.1;have hla:=yH p hp;rw[hl] at hla;obtain⟨a,ha⟩:∃a,a=cx c s.1:=⟨_,rfl⟩;have hbe:=kz c s.1 h1;have hup:=lC c s.2 h2;rw[hm] at hup;rw[←ha] at hbe hup hm hb2⊢;have hck:=gu c;refine f_c Tryz.func215 ?_;refine r_z 3 ?_;refine ac (r_c 3 (gq s.1 s.2 hs.1 hs.2) ?_);refine a_z ?_;refine aq rfl (fun h3=>?_) (fun h3=>?_);exact absurd h3 (by simp[hv]);refine ak (ac (r_c 3 (hla) ?_));refine a_z ?_;refine r_z 2 ?_;refine aq rfl (fun h4=>?_) (fun h4=>?_);exact absurd h4 (by decide);refine ak (r_c 3 (mT f p c hc hf) ?_);refine a_z ?_;refine r_z 1 ?_;refine ac (r_c 5 (hbe) ?_);refine a_z ?_;refine aI (fun _:Unit=>rtS 8 43 [] c.p a m) (fun _=>True) ?_ ?_;refine am (aC (fun j:Nat=>rtS 8 43 [(3,bS s),(7,kA c),(9,i64 (a+(j:Int)))] c.p a j) (fun j=>m- j) (fun j=>j≤m) 0 (Nat.zero_le _) ?_ ?_);simp only[rtS.eq_1];rw[show a+((0:Nat):Int)=a by omega];exact s_e [];rintro j hj;by_cases hlt:j< m
 ·have hcl':=yU c.p (by omega)
  cases j with
  |zero=>
   simp only[rtS.eq_1];refine ac (r_c 6 (hup) ?_);refine d_z ?_;refine cT (ak (ac (am (r_m 11 ?_))));refine c_s (hcl') ?_;refine a_z ?_;refine r_m 3 ?_;refine a_z ?_;refine⟨1,by omega,hlt,?_⟩;simp only[rtS.eq_2];rw[show a+(((0+1:Nat)):Int)=a+((0:Nat):Int)+1 by omega];have:=fZ c.p a 1;exact s_f [(1,8)]
  |succ j=>
   have hone:=roE_one c.p a (j+1);simp only[rtS.eq_2];refine ac (r_c 6 (hup) ?_);refine d_z ?_;refine cT (ak (ac (am (r_m 11 ?_))));refine c_s (hcl') ?_;refine o_0 (.move rfl) ?_;refine o_0 (.build TZ.h tp_207.h rfl rfl) ?_;refine o_1 (.buildSlice te_204.h TZ.h rfl (by decide) rfl rfl rfl (by first|(simp;done)|(simp[dc,ofV];done)|rfl)) ?_;refine o_2 (.append_l rfl rfl rfl te_204.h rfl rfl rfl rfl rfl d_o (by first|exact eI _|exact eF _|exact ec _|exact eN _|exact eo _|assumption|rfl|simp) (by first|rfl|exact eI _|exact eF _|exact ec _|exact eN _|exact eo _|simp) rfl (.lsl rfl (nle rfl)) TZ.h rfl TB.h d_o (by first|(simp[maxLen];done)|(simp[maxLen];omega))) ?_;refine o_0 (.assign rfl) ?_;refine an ?_;refine r_m 3 ?_;refine a_z ?_;refine⟨j+1+1,by omega,hlt,?_⟩;simp only[rtS.eq_2];rw[show a+((j+1+1:Nat):Int)=a+((j+1:Nat):Int)+1 by omega];refine s_x [(1,8)] (fun hs=>db) (fun hs=>?_)
   ·repeat' (first|exact aD|refine h_c ?_ ?_|exact aM hs (EB c.p a (j+1)).symm (fZ _ _ _)|exact bG)
 have hge:j=m:=by omega
 subst hge;cases j with
 |zero=>
  simp only[rtS.eq_1];refine ac (r_c 6 (hup) ?_);refine d_z ?_;refine cF (aA ⟨(),trivial,?_⟩);simp only[rtS.eq_1];exact s_e []
 |succ j=>
  simp only[rtS.eq_2];refine ac (r_c 6 (hup) ?_);refine d_z ?_;refine cF (aA ⟨(),trivial,?_⟩);simp only[rtS.eq_2];refine s_x [(1,8)] (fun hs=>db) (fun hs=>?_)
  ·repeat' (first|exact aD|refine h_c ?_ ?_|exact cU hs (fZ _ _ _)|exact bG)
 rintro _ _;cases m with
 |zero=>
  simp only[rtS.eq_1];refine r_z 3 ?_;refine aj (Fin.many ⟨_,_,rfl,rfl,⟨_,_,rfl,rfl,rfl⟩⟩ (nle rfl) ?_);exact af (Cv.emp _) (af (ah aB (ag _)) ax)
 |succ m=>
  simp only[rtS.eq_2];refine r_z 3 ?_;refine aj (Fin.many ⟨_,_,rfl,rfl,⟨_,_,rfl,rfl,rfl⟩⟩ (nle rfl) ?_);exact af (Cv.sealE aB rfl (fun _ _ h=>by cases h) rfl (by simp) (fZ _ _ _)) (af (ah aB (ag _)) ax)
theorem wP(N D N' D':Int)(k k':Nat)(hN:jF N)(hD:jF D)(hk:k≤255)(hN':jF N')(hD':jF D')(hk':k'≤255):
    FS 10 [.agg (nuC N D k++nuC N' D' k')] (.tup [.agg (spC (lT N D k) (lT N' D' k')),.agg (rC (rq (lT N D k))++rC (rq (lT N' D' k')))]):=by
 have b1:=tM N D k hN hD hk;have b2:=tM N' D' k' hN' hD' hk';obtain⟨v,hv⟩:∃v,v=lT N D k:=⟨_,rfl⟩;obtain⟨w,hw⟩:∃w,w=lT N' D' k':=⟨_,rfl⟩;rw[←hv] at b1⊢;rw[←hw] at b2⊢;refine f_n Tryz.func10 ?_ ?_;exact ae (aG fun c hc=>(List.mem_append.1 hc).elim (fD _ _ _ c) (fD _ _ _ c)) ai;refine r_z 3 ?_;refine r_c 10 (b1) ?_;refine a_z ?_;refine r_c 10 (b2) ?_;refine a_z ?_;refine ac (r_d hmix 8 ?_);refine a_8 ?_;refine an (n_k ?_);refine aj (Fin.many ⟨_,_,rfl,⟨_,_,_,_,_,rfl,rfl,rfl,.inl ⟨TG.h,_,TS.h,nle rfl,rfl⟩⟩,⟨_,_,rfl,⟨_,_,_,_,_,rfl,rfl,rfl,.inl ⟨TG.h,_,TS.h,nle rfl,rfl⟩⟩,rfl⟩⟩ (nle rfl) ?_);exact af (ah aB (bq _ _)) (af (ah aB (aG fun c hc=>(List.mem_append.1 hc).elim (c8 _ c) (c8 _ c))) ax)
theorem DL(f g:Nat)(p:Lq)(i k:Int)(c:Cnt)(q:Lq)(s:Sp)(h:n4 f p=some c)(hf:f≤1000000)(hi:0≤i)(hall:i< D5 c)(hd:cC q≤40)(hq:q.length≤1099511627776)(hs:sa f g c i q k=some s):FS 201 [roA p i,.arr (pE q),i64 k] (.tup [.agg (spC s.1 s.2),i64 0]):=by
 have hp:=yC f p i c h hf hi;have hdg:=cr q hq;refine f_n Tryz.func201 ?_ ?_;exact ae (oi p i) (ae (ap q) (ae (ag _) ai));refine r_z 3 ?_;refine r_c 7 (hp) ?_;refine a_z ?_;refine aU (fun _:Unit=>⟨[(1,.arr (pE q)),(2,i64 k),(6,.lptr 1 0 0),(8,plA c i)],[(1,some ⟨44,6,[zC++zC]⟩)],2,28⟩) (fun _=>True) ?_ ?_;refine am (r_z 3 ?_);refine aq rfl (fun h=>?_) (fun h=>?_);exact absurd h (by simp[hall]);refine r_c 4 (hdg) ?_;refine d_z ?_;refine cF (ak ⟨(),trivial,?_⟩);have:=c6 c i;have:=cz bH bH;exact s_f [(1,6)];rintro _ _;refine r_c 6 (Fi f g c i q k s hs hf) ?_;refine a_z ?_;refine aj (Fin.many ⟨_,_,rfl,⟨_,_,_,_,_,rfl,rfl,rfl,.inl ⟨TG.h,_,TS.h,nle rfl,rfl⟩⟩,⟨_,_,rfl,rfl,rfl⟩⟩ (nle rfl) ?_);exact af (ah aB (bq _ _)) (af (ah aB (ag _)) ax)
theorem yS(f g:Nat)(p:Lq)(i:Int)(c:Cnt)(q:Lq)(r:Int)(h:n4 f p=some c)(hf:f≤1000000)(hi:0≤i)(hall:i< D5 c)(hd:cC q≤40)(hq:q.length≤1099511627776)(hs:qR f g c i q=some r):FS 162 [roA p i,.arr (pE q)] (.tup [i64 r,i64 0]):=by
 have hp:=yC f p i c h hf hi;have hdg:=cr q hq;refine f_n Tryz.func162 ?_ ?_;exact ae (oi p i) (ae (ap q) ai);refine r_z 3 ?_;refine r_c 7 (hp) ?_;refine a_z ?_;refine aU (fun _:Unit=>⟨[(1,.arr (pE q)),(6,plA c i)],[],1,23⟩) (fun _=>True) ?_ ?_;refine am (r_z 3 ?_);refine aq rfl (fun h=>?_) (fun h=>?_);exact absurd h (by simp[hall]);refine r_c 4 (hdg) ?_;refine d_z ?_;refine cF (ak ⟨(),trivial,?_⟩);have:=c6 c i;exact s_f [];rintro _ _;refine r_c 5 (CK f g c i q r hs hf) ?_;refine a_z ?_;refine aj (Fin.many ⟨_,_,rfl,rfl,⟨_,_,rfl,rfl,rfl⟩⟩ (nle rfl) ?_);exact af (ah aB (ag _)) (af (ah aB (ag _)) ax)
structure Turn (f:Nat)(g:Lq)(s:Sp)(c:Cnt)(m:Nat):Prop where
 cn:fU f (fc g)=some c
 hf:f≤1000000
 be:oQ c s.1
 up:rl c s.2
 sm:smS s
 le:cZ s.1 s.2≤0
 la:lr (fc g)=0
 gs:smL g
 gl:g.length≤1000
 dl:(fc g).length≤1000
 cl:c.p.length≤1000
 n:fq c s.2=cx c s.1+m
theorem yx{f:Nat}{g:Lq}{s:Sp}{c:Cnt}{m:Nat}(t:Turn f g s c m):FS 161 [.arr (pE g),.agg (spC s.1 s.2)] (.arr (roE c.p (cx c s.1) m)):=by
 have hd:=qx g t.gs (by have:=t.gl;omega);have hr:=Fz f (fc g) c s m t.cn t.hf t.be t.up t.sm t.le t.la (by have:=t.dl;omega) t.cl t.n;have hcl:=fZ c.p (cx c s.1) m;refine f_c Tryz.func161 ?_;refine r_z 2 ?_;refine ac (r_d hmix 9 ?_);refine c_s (hd) ?_;refine c_s (hr) ?_;refine a_5 ?_;refine an (n_k ?_);refine r_z 2 ?_;exact aj (t_e (aR hcl))
theorem fs_aNeg(a b:Rat):FS 256 [.agg (spC a b)] (.agg (spC (-b) (-a))):=by
 refine f_c Tryz.func256 ?_;refine r_z 2 ?_;refine ac (r_d hmix 8 ?_);refine c_s (jZ b) ?_;refine c_s (jZ a) ?_;refine a_2 ?_;refine an (n_k ?_);exact aj (c_e (bq _ _))
def abL(v:Sp):Rat:=if 0≤v.1 then v.1 else if v.2≤0 then -v.2 else 0
def abH(v:Sp):Rat:=if 0≤v.1 then v.2 else if v.2≤0 then -v.1 else n5 [-v.1,v.2]
theorem sg_geA{q:Rat}:(0:Int)≤sgZ q.num↔0≤q:=by
 have h:=kX (q:=q);constructor;intro g;have:¬q< 0:=fun e=>by have:=h.2 e;omega
 grind;intro g;have:¬sgZ q.num< 0:=fun e=>by have:=h.1 e;grind
 omega
theorem sg_leA{q:Rat}:sgZ q.num≤(0:Int)↔q≤0:=by
 have h:=sD (q:=q);constructor;intro g;have:¬0< q:=fun e=>by have:=h.2 e;omega
 grind;intro g;have:¬0< sgZ q.num:=fun e=>by have:=h.1 e;grind
 omega
theorem fs_aAbs(v:Sp)(h1:sm v.1)(h2:sm v.2):FS 233 [.agg (spC v.1 v.2)] (.agg (spC (abL v) (abH v))):=by
 have hc:∀c∈spC v.1 v.2,Closed c:=cf _ _;refine f_c Tryz.func233 ?_;refine r_z 2 ?_;refine ac (am ?_);by_cases g1:0≤v.1;rw[show abL v=v.1 from if_pos g1,show abH v=v.2 from if_pos g1];refine r_c 5 (bY v.1) ?_;refine o_0 (.bin rfl rfl (vT ei (decide_eq_true (sg_geA.2 g1)))) ?_;refine a_z ?_;refine cT (r_z 2 ?_);exact aj (c_e (bq _ _));refine r_c 5 (bY v.1) ?_;refine o_0 (.bin rfl rfl (vF ei (decide_eq_false (fun e=>g1 (sg_geA.1 e))))) ?_;refine a_z ?_;refine cF ?_;by_cases g2:v.2≤0;rw[show abL v= -v.2 from(if_neg g1).trans (if_pos g2),show abH v= -v.1 from(if_neg g1).trans (if_pos g2)];refine r_c 5 (bY v.2) ?_;refine o_0 (.bin rfl rfl (vT dY (decide_eq_true (sg_leA.2 g2)))) ?_;refine a_z ?_;refine cT (r_c 3 (fs_aNeg v.1 v.2) ?_);refine a_z ?_;exact aj (c_e (bq _ _));rw[show abL v=0 from(if_neg g1).trans (if_neg g2),show abH v=n5 [-v.1,v.2] from(if_neg g1).trans (if_neg g2)];refine r_c 5 (bY v.2) ?_;refine o_0 (.bin rfl rfl (vF dY (decide_eq_false (fun e=>g2 (sg_leA.1 e))))) ?_;refine a_z ?_;refine cF (ak ?_);have hm:=tK [-v.1,v.2] (mD (by unfold sm;rw[fX];exact h1) h2) (by simp);refine ac (r_d hmix 10 ?_);refine c_s (jZ v.1) ?_;refine a_3 ?_;refine o_1 (.callS1 rfl rfl rfl (.shut rfl d_n (.nil)) rfl (hm)) ?_;refine a_2 ?_;refine an (n_k ?_);refine aj ?_;rw[show spC 0 (n5 [-v.1,v.2])=[.arr [],bln false,.arr []]++qC (n5 [-v.1,v.2]) from by unfold spC;rw[qC0]];refine Fin.cell rfl rfl rfl TG.h TS.h (nle rfl) ?_
 exact Cv.agg (af (Cv.emp _) (af (ah aB (ag _)) (af (Cv.emp _) (CvL.clo aB (aZ _)))))
def abS(v:Sp):Sp:=(abL v,abH v)
theorem tH(v:Sp)(h:smS v):FS 198 [.agg (spC v.1 v.2)] (.agg (spC (abS v).1 (abS v).2)):=by
 have ha:=fs_aAbs v h.1 h.2;refine f_c Tryz.func198 ?_;refine r_z 2 ?_;refine r_c 3 (ha) ?_;refine a_z ?_;exact aj (c_e (bq _ _))
def joS(o t:Sp):Sp:=(n5 [o.1,t.1],n5 [o.2,t.2])
theorem BL(o t:Sp)(h1:smS o)(h2:smS t):XSpec Tryz.prog 200 [.agg (spC t.1 t.2),.lptr 0 0 0] [(0,some ⟨44,6,[spC o.1 o.2]⟩)] 1 (.tup []) [(0,some ⟨44,6,[spC (joS o t).1 (joS o t).2]⟩)] 1:=by
 have m1:=tK [o.1,t.1] (mD h1.1 h2.1) (by simp);have m2:=tK [o.2,t.2] (mD h1.2 h2.2) (by simp);refine XSpec.enter0 Tryz.func200 rfl (by kernel_rfl) rfl rfl rfl rfl ?_;refine r_z 1 ?_;refine r_d hmix 14 ?_;refine a_5 ?_;refine o_1 (.callS1 rfl rfl rfl (.shut rfl d_n (.nil)) rfl (m1)) ?_;refine a_5 ?_;refine o_1 (.callS1 rfl rfl rfl (.shut rfl d_n (.nil)) rfl (m2)) ?_;refine a_2 ?_;refine an (n_k ?_);refine FinX0.norm ?_;exact s_f []
def dsH(o:Sp):Hp:=[(0,some ⟨44,6,[spC o.1 o.2]⟩)]
def dsX(o:Sp):Hp:=[(0,some ⟨44,6,[spC o.1 o.2]⟩),(1,some ⟨44,6,[zC++zC]⟩)]
theorem rR(o:Sp):∀i,1≤i→au (dsH o) i=none:=fun i hi=>by
 unfold dsH;rw[cg (show 0≠i by omega)];rfl
theorem CU(o:Sp):∀i,i< 1→au (dsH o) i=au (dsX o) i:=fun i hi=>by
 match i,hi with
 |0,_=>rfl
theorem FK(o:Sp){H:Nat→Prop}:∀i B,au (dsH o) i=some B→B.sz≠0∧∀e∈B.es,∀c∈e,Top H c:=fun i B h=>by
 have hm:=dR h;unfold dsH at hm;simp only[List.mem_cons,Prod.mk.injEq,List.not_mem_nil,or_false] at hm;obtain⟨rfl,hB⟩:=hm;cases hB;refine⟨by simp,fun e he c hc=> .clo ?_⟩;rw[List.mem_singleton.1 he] at hc;exact cf _ _ c hc
theorem FM(o:Sp){H:Nat→Prop}:∀i B,1≤i→au (dsX o) i=some B→B.sz≠0∧∀e∈B.es,∀c∈e,Top H c:=fun i B hi h=>by
 have hm:=dR h;unfold dsX at hm;simp only[List.mem_cons,Prod.mk.injEq,List.not_mem_nil,or_false] at hm;rcases hm with⟨rfl,_⟩|⟨rfl,hB⟩
 omega;cases hB;refine⟨by simp,fun e he c hc=> .clo ?_⟩;rw[List.mem_singleton.1 he] at hc;exact cz bH bH c hc
theorem FL(o o':Sp):∀i,au (dsX o') i=if i< 1 then au (dsH o') i else au (dsX o) i:=fun i=>by
 match i with
 |0=>rfl
 |1=>rfl
 |i+2=>
  rw[if_neg (by omega)];unfold dsX;rw[cg (show 0≠i+2 by omega),cg (show 1≠i+2 by omega),cg (show 0≠i+2 by omega),cg (show 1≠i+2 by omega)]
theorem FN(o t:Sp):∀x∈([.agg (spC t.1 t.2)]++[.lptr 0 0 0]:La),Top (fun j=>j< 1∧(au (dsH o) j).isSome=true) x:=fun x hx=>by
 simp only[List.cons_append,List.nil_append,List.mem_cons,List.not_mem_nil,or_false] at hx;rcases hx with rfl|rfl
 exact .clo (aG (cf _ _));exact .ptr ⟨by decide,rfl⟩
theorem mC{v:Sp}(h:smS v):smS (abS v):=by
 have n1:sm (-v.1):=by unfold sm;rw[fX];exact h.1
 have n2:sm (-v.2):=by unfold sm;rw[fX];exact h.2
 have z:sm 0:=by decide
 constructor;show sm (abL v);unfold abL;split;exact h.1;split;exact n2;exact z;show sm (abH v);unfold abH;split;exact h.2;split;exact n1;exact ij (mD n1 h.2)
theorem BZ{o t:Sp}(h1:smS o)(h2:smS t):smS (joS o t):=⟨ij (mD h1.1 h2.1),ij (mD h1.2 h2.2)⟩
def dsM(o:Sp)(v:Nat→Sp):Nat→Sp
 |0=>o
 |j+1=>joS (dsM o v j) (abS (v j))
abbrev dsC:AV:= .clos 200 [] [.lptr 0 0 0]
def dsS(g:Lq)(s:Sp)(k:Int)(R:Lc)(m:Nat):Nat×Sp→AState
 |(j,o)=>⟨[(0,.arr (pE g)),(2,i64 k),(4,bS s),(6,.lptr 1 0 0),(7,.lptr 0 0 0),(8,dsC),(32,.arr R),(33,i64 m),(34,i64 j)],dsX o,2,51⟩
theorem yM (f:Nat) (g:Lq) (s:Sp) (c:Cnt) (m:Nat) (k:Int) (v:Nat→Sp) (a b:Sp) (t:Turn f g s c m) (hm:m≤1000) (e1:dP g s.1) (e2:dP g s.2) (q1:sm (aF g s.1)) (q2:sm (aF g s.2)) (ha:a=(gM (aF g s.1) (wi k 256),upQ (aF g s.1) (wi k 256))) (hb:b=(gM (aF g s.2) (wi k 256),upQ (aF g s.2) (wi k 256))) (a1:smS a) (b1:smS b)
    (hv:∀j:Nat,j< m→smS (v j)∧FS 201 [roA c.p (cx c s.1+(j:Int)),.arr (pE g),i64 k] (.tup [.agg (spC (v j).1 (v j).2),i64 0])):
    FS 150 [.arr (pE g),.agg (spC s.1 s.2),i64 k] (.agg (spC (dsM (joS (abS a) (abS b)) v m).1 (dsM (joS (abS a) (abS b)) v m).2)):=by
 have hE1:=e8 g s.1 e1;have hE2:=e8 g s.2 e2;have hS1:=yT (aF g s.1) k q1;have hS2:=yT (aF g s.2) k q2;rw[show gM (aF g s.1) (wi k 256)=a.1 by rw[ha],show upQ (aF g s.1) (wi k 256)=a.2 by rw[ha]] at hS1;rw[show gM (aF g s.2) (wi k 256)=b.1 by rw[hb],show upQ (aF g s.2) (wi k 256)=b.2 by rw[hb]] at hS2;have hz1:=tH a a1;have hz2:=tH b b1;have htu:=yx t;obtain⟨R,hR⟩:∃R,R=roE c.p (cx c s.1) m:=⟨_,rfl⟩;have hRl:R.length=m:=by rw[hR];simp
 have hRc:Closed (.arr R):=by rw[hR];exact aR (fZ _ _ _)
 have hRg:∀j,j< m→∀e,e=j→R[e]?=some [.arr (pE c.p),i64 (cx c s.1+(j:Int))]:=fun j hj e he=>by rw[hR,he];exact Cc hj
 rw[←hR] at htu
 have hsD:∀j,j≤m→smS (dsM (joS (abS a) (abS b)) v j):=fun j=>by
  induction j with
  |zero=>exact fun _=>BZ (mC a1) (mC b1)
  |succ j ih=>exact fun hj=>BZ (ih (by omega)) (mC (hv j (by omega)).1)
 refine f_c Tryz.func150 ?_;refine r_z 2 ?_;refine r_c 9 (hE1) ?_;refine c_s (hS1) ?_;refine c_s (hz1) ?_;refine a_z ?_;refine AWp.pinned (st':=⟨[(0,.arr (pE g)),(2,i64 k),(4,bS s),(6,.lptr 1 0 0),(7,.lptr 0 0 0)],dsX (abS a),2,51⟩) ?_ ?_;refine SEntP.to [(0,7),(1,6)] rfl rfl (ShrL.cons rfl rfl rfl rfl rfl (ShrL.cons rfl rfl rfl rfl rfl ShrL.nil)) (fun hs=>ao rfl (ah hs (ap _)) (ao rfl (ah hs (ag _)) (ao rfl (Cv.boxp hs rfl (aP rfl) rfl (cf _ _)) (ao rfl (Cv.ptr rfl rfl rfl) (ao rfl (Cv.ptr rfl rfl rfl) aH))))) (fun hs=>?_);exact bi rfl rfl rfl rfl (aw (CvL.clo hs (cf _ _))) (bi rfl rfl rfl rfl (aw (CvL.clo hs (cz bH bH))) aD);refine r_z 2 ?_;refine ac (AWp.regF (fr2:=[(21,dsC),(28,.agg (spC (abS b).1 (abS b).2)),(0,.arr (pE g)),(2,i64 k),(4,bS s),(6,.lptr 1 0 0),(7,.lptr 0 0 0),(8,dsC)]) (hp2:=dsX (abS a)) (nx2:=2) (k:=1) (hpc:=dsH (abS a)) (hpd:=dsH (joS (abS a) (abS b))) (hp3:=dsX (joS (abS a) (abS b))) (fr3:=[(0,.arr (pE g)),(2,i64 k),(4,bS s),(6,.lptr 1 0 0),(7,.lptr 0 0 0),(8,dsC)]) 8 rfl rfl rfl rfl rfl ?_ (fun d h=>by cases h;rfl) rfl rfl (BL _ _ (mC a1) (mC b1)) (by decide) (Nat.le_refl _) (FN _ _) (CU _) (rR _) (FK _) (FM _) (FL _ _) (rR _) rfl rfl ?_ ?_);refine o_0 (.move rfl) ?_;refine o_0 (.move rfl) ?_
 first|refine ay (.fieldAddr_l rfl TF.h (by decide)) rfl rfl ?_|refine ay (.fieldAddr_a rfl TF.h (by decide)) rfl rfl ?_
 first|refine ay (.load_l rfl rfl rfl TG.h TS.h (nle rfl)) rfl rfl ?_|refine ay (.load_a rfl rfl TG.h TS.h (nle rfl)) rfl rfl ?_
 refine o_0 (.call rfl rfl rfl (hE2)) ?_;refine o_0 (.move rfl) ?_;refine o_0 (.call rfl rfl rfl (hS2)) ?_;refine o_0 (.call rfl rfl rfl (hz2)) ?_;refine an ?_;refine SEntT.to [] rfl rfl rfl (ShrL.cons rfl rfl rfl rfl rfl (ShrL.cons rfl rfl rfl rfl rfl ShrL.nil)) (fun hs=>?_) (fun hs=>bi rfl rfl rfl rfl (aw (CvL.clo hs (cf _ _))) (bi rfl rfl rfl rfl (aw (CvL.clo hs (cz bH bH))) aD));exact ao rfl (Cv.clos ax (af (Cv.ptr rfl rfl rfl) ax)) (ao rfl (ah hs (bq _ _)) (ao rfl (ah hs (ap _)) (ao rfl (ah hs (ag _)) (ao rfl (ah hs (bw _)) (ao rfl (Cv.ptr rfl rfl rfl) (ao rfl (Cv.ptr rfl rfl rfl) (ao rfl (Cv.clos ax (af (Cv.ptr rfl rfl rfl) ax)) aH)))))));intro t x hx;have hm:=look_mem' hx;simp only[List.mem_cons,Prod.mk.injEq,List.not_mem_nil,or_false] at hm;rcases hm with⟨rfl,rfl⟩|⟨rfl,rfl⟩|⟨rfl,rfl⟩|⟨rfl,rfl⟩|⟨rfl,rfl⟩|⟨rfl,rfl⟩
 exact⟨rfl,.clo (ap _)⟩;exact⟨rfl,.clo (ag _)⟩;exact⟨rfl,.clo (bw _)⟩;exact⟨rfl,.ptr (.inr (Nat.le_refl _))⟩;exact⟨rfl,.ptr (.inl rfl)⟩;exact⟨rfl,.cl (.inl rfl)⟩;refine an ?_;refine ac (r_c 5 (htu) ?_);refine a_z ?_;have hlenR:((R.length:Nat):Int)=(m:Int):=by rw[hRl]
 refine aI (fun _:Unit=>⟨[(6,.lptr 1 0 0),(7,.lptr 0 0 0)],dsX (dsM (joS (abS a) (abS b)) v m),2,51⟩) (fun _=>True) ?_ ?_
 ·refine am (aC (dsS g s k R m) (fun x=>m- x.1) (fun x=>x.1≤m∧x.2=dsM (joS (abS a) (abS b)) v x.1) (0,joS (abS a) (abS b)) ⟨Nat.zero_le _,rfl⟩ ?_ ?_)
  rw[dsS.eq_1];refine di [] rfl rfl rfl (ShrL.cons rfl rfl rfl rfl rfl (ShrL.cons rfl rfl rfl rfl rfl ShrL.nil)) (fun hs=>ao rfl (ah hs (ap _)) (ao rfl (ah hs (ag _)) (ao rfl (ah hs (bw _)) (ao rfl (Cv.ptr rfl rfl rfl) (ao rfl (Cv.ptr rfl rfl rfl) (ao rfl (Cv.clos ax (af (Cv.ptr rfl rfl rfl) ax)) (ao rfl (ah hs hRc) (ao rfl (Cv.loE hs (by simp[i64,hRl]) (ag _)) (ao rfl (Cv.loE hs (by first|rfl|simp[i64]) (ag _)) aH))))))))) (fun hs=>bi rfl rfl rfl rfl (aw (CvL.clo hs (cf _ _))) (bi rfl rfl rfl rfl (aw (CvL.clo hs (cz bH bH))) aD));rintro⟨j,o⟩ ⟨hj,ho⟩;simp only at hj ho;rw[dsS.eq_1];by_cases hlt:j< m;rotate_left;have hge:j=m:=by omega
  subst hge;refine q_z 1 ?_;refine ac (cF (aA ⟨(),trivial,?_⟩));rw[ho];refine di [] rfl rfl rfl (ShrL.cons rfl rfl rfl rfl rfl (ShrL.cons rfl rfl rfl rfl rfl ShrL.nil)) (fun hs=>ao rfl (Cv.ptr rfl rfl rfl) (ao rfl (Cv.ptr rfl rfl rfl) aH)) (fun hs=>bi rfl rfl rfl rfl (aw (CvL.clo hs (cf _ _))) (bi rfl rfl rfl rfl (aw (CvL.clo hs (cz bH bH))) aD));refine q_z 1 ?_;refine ac (cT (ak ?_));obtain⟨v1,v2⟩:=hv j hlt;have hzj:=tH (v j) v1;have hoS:smS o:=by rw[ho];exact hsD j (by omega)
  have hcR:∀c'∈([.arr (pE c.p),i64 (cx c s.1+(j:Int))]:La),Closed c':=ae (ap _) (ae (ag _) ai);refine ac (am (s_r 4 ?_))
  first|refine ay (.index_l rfl rfl (by omega) (by omega) te_204.h) rfl rfl ?_|refine ay (.index_a rfl rfl (by omega) (hRg j hlt _ (by omega)) rfl te_204.h) rfl rfl ?_
  first|refine ay (.load_l rfl rfl (hRg j hlt _ (by omega)) TG.h TS.h (nle rfl)) rfl rfl ?_|refine ay (.load_a rfl (hRg j hlt _ (by omega)) TG.h TS.h (nle rfl)) rfl rfl ?_
  refine a_z ?_;refine r_c 10 (v2) ?_;refine a_z ?_;refine AWp.regF (fr2:=[(45,dsC),(47,.agg (spC (abS (v j)).1 (abS (v j)).2)),(0,.arr (pE g)),(2,i64 k),(4,bS s),(6,.lptr 1 0 0),(7,.lptr 0 0 0),(8,dsC),(32,.arr R),(33,i64 m),(34,i64 j)]) (hp2:=dsX o) (nx2:=2) (k:=1) (hpc:=dsH o) (hpd:=dsH (joS o (abS (v j)))) (hp3:=dsX (joS o (abS (v j)))) (fr3:=[(0,.arr (pE g)),(2,i64 k),(4,bS s),(6,.lptr 1 0 0),(7,.lptr 0 0 0),(8,dsC),(32,.arr R),(33,i64 m),(34,i64 j)]) 3 rfl rfl rfl rfl rfl ?_ (fun d h=>by cases h;rfl) rfl rfl (BL _ _ hoS (mC v1)) (by decide) (Nat.le_refl _) (FN _ _) (CU _) (rR _) (FK _) (FM _) (FL _ _) (rR _) rfl rfl ?_ ?_;refine o_0 (.move rfl) ?_
  first|refine ay (.load_l rfl rfl rfl TG.h TS.h (nle rfl)) rfl rfl ?_|refine ay (.load_a rfl rfl TG.h TS.h (nle rfl)) rfl rfl ?_
  refine o_0 (.call rfl rfl rfl (hzj)) ?_;refine an ?_;refine SEntT.to [] rfl rfl rfl (ShrL.cons rfl rfl rfl rfl rfl (ShrL.cons rfl rfl rfl rfl rfl ShrL.nil)) (fun hs=>ao rfl (Cv.clos ax (af (Cv.ptr rfl rfl rfl) ax)) (ao rfl (ah hs (bq _ _)) (ao rfl (ah hs (ap _)) (ao rfl (ah hs (ag _)) (ao rfl (ah hs (bw _)) (ao rfl (Cv.ptr rfl rfl rfl) (ao rfl (Cv.ptr rfl rfl rfl) (ao rfl (Cv.clos ax (af (Cv.ptr rfl rfl rfl) ax)) (ao rfl (ah hs hRc) (ao rfl (ah hs (ag _)) (ao rfl (ah hs (ag _)) aH))))))))))) (fun hs=>bi rfl rfl rfl rfl (aw (CvL.clo hs (cf _ _))) (bi rfl rfl rfl rfl (aw (CvL.clo hs (cz bH bH))) aD));intro t x hx;have hm:=look_mem' hx;simp only[List.mem_cons,Prod.mk.injEq,List.not_mem_nil,or_false] at hm;rcases hm with⟨rfl,rfl⟩|⟨rfl,rfl⟩|⟨rfl,rfl⟩|⟨rfl,rfl⟩|⟨rfl,rfl⟩|⟨rfl,rfl⟩|⟨rfl,rfl⟩|⟨rfl,rfl⟩|⟨rfl,rfl⟩
  exact⟨rfl,.clo (ap _)⟩;exact⟨rfl,.clo (ag _)⟩;exact⟨rfl,.clo (bw _)⟩;exact⟨rfl,.ptr (.inr (Nat.le_refl _))⟩;exact⟨rfl,.ptr (.inl rfl)⟩;exact⟨rfl,.cl (.inl rfl)⟩;exact⟨rfl,.clo hRc⟩;exact⟨rfl,.clo (ag _)⟩;exact⟨rfl,.clo (ag _)⟩;refine an ?_;refine r_m 2 ?_;refine a_z ?_;refine⟨(j+1,joS o (abS (v j))),by simp only;omega,⟨hlt,by simp only;rw[dsM,←ho]⟩,?_⟩;rw[dsS.eq_1];refine di [] rfl rfl rfl (ShrL.cons rfl rfl rfl rfl rfl (ShrL.cons rfl rfl rfl rfl rfl ShrL.nil)) (fun hs=>ao rfl (ah hs (ap _)) (ao rfl (ah hs (ag _)) (ao rfl (ah hs (bw _)) (ao rfl (Cv.ptr rfl rfl rfl) (ao rfl (Cv.ptr rfl rfl rfl) (ao rfl (Cv.clos ax (af (Cv.ptr rfl rfl rfl) ax)) (ao rfl (ah hs hRc) (ao rfl (ah hs (ag _)) (ao rfl (Cv.loE hs (by first|rfl|simp[i64]) (ag _)) aH))))))))) (fun hs=>bi rfl rfl rfl rfl (aw (CvL.clo hs (cf _ _))) (bi rfl rfl rfl rfl (aw (CvL.clo hs (cz bH bH))) aD))
 rintro _ _;refine r_z 2 ?_;refine AWp.ent (st':=⟨[(6,.lptr 1 0 0)],[(1,some ⟨44,6,[spC (dsM (joS (abS a) (abS b)) v m).1 (dsM (joS (abS a) (abS b)) v m).2]⟩)],2,51⟩) ?_ ?_;exact s_f [];refine aj ⟨rfl,?_⟩;exact c_e (bq _ _)
theorem wi_nat{k m:Nat}(h:k≤m):wi (k:Int) m=k:=by unfold wi;omega
def fnS(x:Rat):Nat→AState
 |k=>⟨[(1,bQ x),(3,i64 k)],[],1,16⟩
theorem Fu(x:Rat)(K:Nat)(hK:K≤256)(h:∀j,j< K→x< ci j)(hx:ci K≤x)(hs:sm x)(hf:∀j,j< K+1→sm (ci j)):FS 151 [.agg (qC x)] (i64 K):=by
 refine f_c Tryz.func151 ?_;refine r_z 2 ?_;refine r_z 1 ?_;refine aU (fun _:Unit=>⟨[(3,i64 K)],[],1,16⟩) (fun _=>True) ?_ ?_;refine am (aC (fnS x) (fun k=>K- k) (fun k=>k≤K) 0 (Nat.zero_le _) ?_ ?_);rw[fnS.eq_1];exact s_e [];intro k hk;rw[fnS.eq_1];have hfi:=jc (k:Int);rw[wi_nat (show k≤256 by omega)] at hfi;have hcm:=dW (ci k) x (hf k (by omega)) hs;by_cases hlt:k< K;refine ac (ac (r_d hmix 9 ?_));refine c_s (hfi) ?_;refine c_s (hcm) ?_;refine o_0 (.bin rfl rfl (vT cS (decide_eq_true (cq_gt.2 (h k hlt))))) ?_;refine d_4 ?_;refine an (n_k ?_);refine cT (ak (am (r_m 3 ?_)));refine a_z ?_;refine⟨k+1,by omega,by omega,?_⟩;rw[fnS.eq_1];exact s_e [];have hge:k=K:=by omega
 subst hge;have hn:¬0< cZ (ci k) x:=fun e=>by have:=cq_gt.1 e;grind
 refine ac (ac (r_d hmix 9 ?_));refine c_s (hfi) ?_;refine c_s (hcm) ?_;refine d_5 ?_;refine an (n_k ?_);refine cF (aA ⟨(),trivial,?_⟩);exact s_e [];rintro _ _;refine r_z 2 ?_;exact aj (t_e (ag _))
theorem fs_aHas(a b x:Rat)(ha:sm a)(hb:sm b)(hx:sm x)(h:a≤x∧x≤b):FS 103 [.agg (spC a b),.agg (qC x)] (bln true):=by
 have c1:=dW a x ha hx;have c2:=dW x b hx hb
 have e1:cZ a x≤0:=by
  have:¬0< cZ a x:=fun e=>by have:=cq_gt.1 e;grind
  omega
 have e2:cZ x b≤0:=by
  have:¬0< cZ x b:=fun e=>by have:=cq_gt.1 e;grind
  omega
 refine f_c Tryz.func103 ?_;refine r_z 3 ?_;refine r_c 13 (c1) ?_;refine e_s (c2) ?_;refine d_z ?_;exact aj (t_e (ag _))
def wtS(g:Lq)(s:Sp)(z:Rat):Nat→AState
 |i=>⟨[(0,.arr (pE g)),(4,bS s),(5,bQ z),(19,.arr (pE [s.1,s.2])),(20,i64 2),(21,i64 i)],[],1,66⟩
def wrS(g:Lq)(z:Rat)(R:Lc)(m:Nat):Nat→AState
 |j=>⟨[(0,.arr (pE g)),(5,bQ z),(35,.arr R),(36,i64 m),(37,i64 j)],[],1,66⟩
theorem AM(g:Lq)(s:Sp)(z:Rat)(e1:dP g s.1)(e2:dP g s.2)(q1:sm (aF g s.1))(q2:sm (aF g s.2))(hz:sm z)(h1:cj (aF g s.1)≤z)(h2:z< cj (aF g s.2)):FS 101 [.arr (pE g),.agg (spC s.1 s.2),.agg (qC z)] (bln false):=by
 have hE1:=e8 g s.1 e1;have hE2:=e8 g s.2 e2;have hA1:=eY (aF g s.1);have hA2:=eY (aF g s.2);have hC1:=dW (cj (aF g s.1)) z (by unfold sm;rw[qs_abs];exact q1) hz;have hC2:=dW (cj (aF g s.2)) z (by unfold sm;rw[qs_abs];exact q2) hz;have n1:¬0< cZ (cj (aF g s.1)) z:=fun e=>by have:=cq_gt.1 e;grind
 have hg0:∀e:Nat,e=0→(pE [s.1,s.2])[e]?=some (qC s.1):=fun e he=>by rw[he];rfl
 have hg1:∀e:Nat,e=1→(pE [s.1,s.2])[e]?=some (qC s.2):=fun e he=>by rw[he];rfl
 refine f_c Tryz.func101 ?_;refine r_z 3 ?_;refine ac (r_z 7 ?_);refine aI (fun _:Unit=>⟨[],[],1,66⟩) (fun _=>False) ?_ (fun _ h=>h.elim);refine am (aC (wtS g s z) (fun i=>2- i) (fun i=>i≤1) 0 (by decide) ?_ ?_);rw[wtS.eq_1];exact s_x [] (fun hs=>e_44) (fun hs=>e_45);intro i hi;rw[wtS.eq_1];refine q_z 1 ?_;refine ac (cT (ak (ac (am ?_))));by_cases h0:i=0;refine s_r 4 ?_
 first|refine ay (.index_l rfl rfl (by omega) (by omega) te_29.h) rfl rfl ?_|refine ay (.index_a rfl rfl (by omega) (hg0 _ (by omega)) rfl te_29.h) rfl rfl ?_
 first|refine ay (.load_l rfl rfl (hg0 _ (by omega)) TG.h TS.h (nle rfl)) rfl rfl ?_|refine ay (.load_a rfl (hg0 _ (by omega)) TG.h TS.h (nle rfl)) rfl rfl ?_
 refine a_z ?_;refine ac (r_d hmix 7 ?_);refine c_s (hE1) ?_;refine c_s (hA1) ?_;refine c_s (hC1) ?_;refine m_1 ?_;refine an (n_k ?_);refine cF (ak (r_m 2 ?_));refine a_z ?_;refine⟨i+1,by omega,by omega,?_⟩;rw[wtS.eq_1];exact s_x [] (fun hs=>e_12) (fun hs=>e_13);refine s_r 4 ?_
 first|refine ay (.index_l rfl rfl (by omega) (by omega) te_29.h) rfl rfl ?_|refine ay (.index_a rfl rfl (by omega) (hg1 _ (by omega)) rfl te_29.h) rfl rfl ?_
 first|refine ay (.load_l rfl rfl (hg1 _ (by omega)) TG.h TS.h (nle rfl)) rfl rfl ?_|refine ay (.load_a rfl (hg1 _ (by omega)) TG.h TS.h (nle rfl)) rfl rfl ?_
 refine a_z ?_;refine ac (r_d hmix 7 ?_);refine c_s (hE2) ?_;refine c_s (hA2) ?_;refine c_s (hC2) ?_;refine o_0 (.bin rfl rfl (vT cS (decide_eq_true (cq_gt.2 h2)))) ?_;refine an (n_k ?_);refine cT (r_z 1 ?_);exact aj (t_e (ag _))
theorem AL (f:Nat) (g:Lq) (s:Sp) (c:Cnt) (m:Nat) (z:Rat) (t:Turn f g s c m) (hm:m≤1000) (e1:dP g s.1) (e2:dP g s.2) (q1:sm (aF g s.1)) (q2:sm (aF g s.2)) (hz:sm z) (h1:cj (aF g s.1)≤z) (h2:cj (aF g s.2)≤z)
    (hr:∀j:Nat,j< m→∃r1 r2:Int,FS 162 [roA c.p (cx c s.1+(j:Int)),.arr (pE (dH g [z]))] (.tup [i64 r1,i64 0])∧FS 162 [roA c.p (cx c s.1+(j:Int)),.arr (pE (ik g [z]))] (.tup [i64 r2,i64 0])∧r1≤0∧0≤r2):
    FS 101 [.arr (pE g),.agg (spC s.1 s.2),.agg (qC z)] (bln true):=by
 have hE1:=e8 g s.1 e1;have hE2:=e8 g s.2 e2;have hA1:=eY (aF g s.1);have hA2:=eY (aF g s.2);have hC1:=dW (cj (aF g s.1)) z (by unfold sm;rw[qs_abs];exact q1) hz;have hC2:=dW (cj (aF g s.2)) z (by unfold sm;rw[qs_abs];exact q2) hz;have n1:¬0< cZ (cj (aF g s.1)) z:=fun e=>by have:=cq_gt.1 e;grind
 have n2:¬0< cZ (cj (aF g s.2)) z:=fun e=>by have:=cq_gt.1 e;grind
 have hg0:∀e:Nat,e=0→(pE [s.1,s.2])[e]?=some (qC s.1):=fun e he=>by rw[he];rfl
 have hg1:∀e:Nat,e=1→(pE [s.1,s.2])[e]?=some (qC s.2):=fun e he=>by rw[he];rfl
 have hgl:=t.gl;have hzl:smL [z]:=fun q hq=>by rw[List.mem_singleton.1 hq];exact hz
 have hsu:=ob g [z] t.gs hzl (by omega) (by simp);have had:=tN g [z] t.gs hzl (by omega) (by simp);have htu:=yx t;obtain⟨R,hR⟩:∃R,R=roE c.p (cx c s.1) m:=⟨_,rfl⟩;have hRl:R.length=m:=by rw[hR];simp
 have hRc:Closed (.arr R):=by rw[hR];exact aR (fZ _ _ _)
 have hRg:∀j,j< m→∀e,e=j→R[e]?=some [.arr (pE c.p),i64 (cx c s.1+(j:Int))]:=fun j hj e he=>by rw[hR,he];exact Cc hj
 rw[←hR] at htu;refine f_c Tryz.func101 ?_;refine r_z 3 ?_;refine ac (r_z 7 ?_);refine aI (fun _:Unit=>⟨[(0,.arr (pE g)),(4,bS s),(5,bQ z)],[],1,66⟩) (fun _=>True) ?_ ?_;refine am (aC (wtS g s z) (fun i=>3- i) (fun i=>i≤2) 0 (by decide) ?_ ?_);rw[wtS.eq_1];exact s_x [] (fun hs=>e_44) (fun hs=>e_45);intro i hi;rw[wtS.eq_1];by_cases h9:i=2;refine q_z 1 ?_;refine ac (cF (aA ⟨(),trivial,?_⟩));exact s_x [] (fun hs=>e_12) (fun hs=>e_13);refine q_z 1 ?_;refine ac (cT (ak (ac (am ?_))));by_cases h0:i=0;refine s_r 4 ?_
 first|refine ay (.index_l rfl rfl (by omega) (by omega) te_29.h) rfl rfl ?_|refine ay (.index_a rfl rfl (by omega) (hg0 _ (by omega)) rfl te_29.h) rfl rfl ?_
 first|refine ay (.load_l rfl rfl (hg0 _ (by omega)) TG.h TS.h (nle rfl)) rfl rfl ?_|refine ay (.load_a rfl (hg0 _ (by omega)) TG.h TS.h (nle rfl)) rfl rfl ?_
 refine a_z ?_;refine ac (r_d hmix 7 ?_);refine c_s (hE1) ?_;refine c_s (hA1) ?_;refine c_s (hC1) ?_;refine m_1 ?_;refine an (n_k ?_);refine cF (ak (r_m 2 ?_));refine a_z ?_;refine⟨i+1,by omega,by omega,?_⟩;rw[wtS.eq_1];exact s_x [] (fun hs=>e_12) (fun hs=>e_13);refine s_r 4 ?_
 first|refine ay (.index_l rfl rfl (by omega) (by omega) te_29.h) rfl rfl ?_|refine ay (.index_a rfl rfl (by omega) (hg1 _ (by omega)) rfl te_29.h) rfl rfl ?_
 first|refine ay (.load_l rfl rfl (hg1 _ (by omega)) TG.h TS.h (nle rfl)) rfl rfl ?_|refine ay (.load_a rfl (hg1 _ (by omega)) TG.h TS.h (nle rfl)) rfl rfl ?_
 refine a_z ?_;refine ac (r_d hmix 7 ?_);refine c_s (hE2) ?_;refine c_s (hA2) ?_;refine c_s (hC2) ?_;refine m_1 ?_;refine an (n_k ?_);refine cF (ak (r_m 2 ?_));refine a_z ?_;refine⟨i+1,by omega,by omega,?_⟩;rw[wtS.eq_1];exact s_x [] (fun hs=>e_12) (fun hs=>e_13);rintro _ _;refine ac (r_c 5 (htu) ?_);refine a_z ?_;refine aI (fun _:Unit=>⟨[],[],1,66⟩) (fun _=>True) ?_ ?_;refine am (aC (wrS g z R m) (fun i=>m- i) (fun i=>i≤m) 0 (Nat.zero_le _) ?_ ?_);rw[wrS.eq_1];refine s_x [] (fun hs=>?_) (fun hs=>?_)
 ·repeat' (first|exact aH|refine ao rfl ?_ ?_|exact ah hs (aQ z)|exact ah hs hRc|(refine Cv.loE hs ?_ (ag _);simp[i64,hRl];done)|exact aY)
 ·repeat' (first|exact aD|refine h_c ?_ ?_|exact bG|refine aw ?_|exact ax|refine af ?_ ?_|exact ah hs (aQ z)|exact ah hs hRc|(refine Cv.loE hs ?_ (ag _);simp[i64,hRl];done)|exact aY)
 intro j hj;rw[wrS.eq_1];by_cases hlt:j< m;obtain⟨r1,r2,s1,s2,s3,s4⟩:=hr j hlt;have hcR:∀c'∈([.arr (pE c.p),i64 (cx c s.1+(j:Int))]:La),Closed c':=ae (ap _) (ae (ag _) ai);refine q_z 1 ?_;refine ac (cT (ak (ac (am (s_r 4 ?_)))))
 first|refine ay (.index_l rfl rfl (by omega) (by omega) te_204.h) rfl rfl ?_|refine ay (.index_a rfl rfl (by omega) (hRg j hlt _ (by omega)) rfl te_204.h) rfl rfl ?_
 first|refine ay (.load_l rfl rfl (hRg j hlt _ (by omega)) TG.h TS.h (nle rfl)) rfl rfl ?_|refine ay (.load_a rfl (hRg j hlt _ (by omega)) TG.h TS.h (nle rfl)) rfl rfl ?_
 refine a_z ?_;refine ac (r_d hmix 11 ?_);refine a_4 ?_;refine o_1 (.callS1 rfl rfl rfl (.keep (.shut rfl d_n (.nil))) rfl (hsu)) ?_;refine c_s (s1) ?_;refine a_5 ?_;refine an (n_k ?_);refine ac (r_d hmix 11 ?_);refine a_4 ?_;refine o_1 (.callS1 rfl rfl rfl (.keep (.shut rfl d_n (.nil))) rfl (had)) ?_;refine c_s (s2) ?_;refine a_5 ?_;refine an (n_k ?_);refine q_z 6 ?_;refine cF (ak (r_m 2 ?_));refine a_z ?_;refine⟨j+1,by omega,by omega,?_⟩;rw[wrS.eq_1];refine s_x [] (fun hs=>?_) (fun hs=>?_)
 ·repeat' (first|exact aH|refine ao rfl ?_ ?_|exact ah hs (aQ z)|exact ah hs hRc|exact aY)
 ·repeat' (first|exact aD|refine h_c ?_ ?_|exact bG|refine aw ?_|exact ax|refine af ?_ ?_|exact ah hs (aQ z)|exact ah hs hRc|exact aY)
 have hge:j=m:=by omega
 subst hge;refine q_z 1 ?_;refine ac (cF (aA ⟨(),trivial,?_⟩));exact s_e [];rintro _ _;refine r_z 1 ?_;exact aj (t_e (ag _))
abbrev naC(P L:Lq)(lo up:Rat):La:=[.arr (pE P),.arr (pE L)]++(qC lo++qC up)
theorem ff(P L:Lq)(lo up:Rat):∀c∈naC P L lo up,Closed c:=cz (ae (ap _) (ae (ap _) ai)) (cz (aZ _) (aZ _))
abbrev bNa(P L:Lq)(lo up:Rat):AV:= .aptr [naC P L lo up] 0 0
theorem lJ(P L:Lq)(lo up:Rat):Closed (bNa P L lo up):=ba (ff P L lo up)
theorem ue{a b:Rat}(h:a≤b):cZ a b≤0:=by
 have:¬0< cZ a b:=fun e=>by have:=cq_gt.1 e;grind
 omega
theorem DP(F:Lq)(s:Sp)(n:Nat)(P L:Lq)(lo up:Rat)(s1:sm s.1)(s2:sm s.2)(hs:s.1≤s.2)(hn:n≤12)(hd:cC F≤40)(hp:cC P≤n)(lF:F.length≤1000)(lP:P.length≤1000)(mF:smL F)(mP:smL P)(hw:FS 101 [.arr (pE (dH F P)),.agg (spC s.1 s.2),.agg (qC up)] (bln false)):
    FS 35 [.arr (pE F),.agg (spC s.1 s.2),i64 n,.agg (naC P L lo up)] (bln false):=by
 have hv:=gq s.1 s.2 s1 s2;rw[decide_eq_true (ue hs)] at hv;have d1:=cr F (by omega);have d2:=cr P (by omega);have hsu:=ob F P mF mP (by omega) (by omega);refine f_n Tryz.func35 ?_ ?_;exact ae (ap F) (ae (bq _ _) (ae (ag _) (ae (aG (ff P L lo up)) ai)));refine r_z 3 ?_;refine ac (r_c 23 (hv) ?_);refine e_s (d1) ?_;refine e_s (d2) ?_;refine d_z ?_;refine cF (ak (r_c 5 (hsu) ?_));refine a_z ?_;refine ac (r_c 6 (hw) ?_);refine a_z ?_;refine cT (r_z 1 ?_);exact aj (t_e (ag _))
def pnS(s:Sp)(P L:Lq)(lo up:Rat)(g:Lq):Nat→AState
 |i=>⟨[(5,bS s),(7,bNa P L lo up),(9,.arr (pE g)),(73,.arr (pE L)),(74,i64 L.length),(75,i64 i)],[],1,114⟩
theorem DO (F:Lq) (s:Sp) (n:Nat) (P L:Lq) (lo up:Rat) (g:Lq) (hg:g=dH F P) (s1:sm s.1) (s2:sm s.2) (hs:s.1≤s.2) (hn:n≤12) (hd:cC F≤40) (hp:cC P≤n) (lF:F.length≤1000) (lP:P.length≤1000) (mF:smL F) (mP:smL P) (hw:FS 101 [.arr (pE g),.agg (spC s.1 s.2),.agg (qC up)] (bln true))
    (h0:0< lo) (ml:sm lo) (hL:L.length=n+2) (hr:vZ L=true) (mL:smL L) (hx:∀i,i< L.length→s.1≤coP L i∧coP L i≤s.2∧dP g (coP L i)∧sm (aF g (coP L i))∧lo≤cj (aF g (coP L i))) (ha:∀i,i+1< L.length→sgZ (aF g (coP L (i+1))).num≠sgZ (aF g (coP L i)).num):
    FS 35 [.arr (pE F),.agg (spC s.1 s.2),i64 n,.agg (naC P L lo up)] (bln true):=by
 have hv:=gq s.1 s.2 s1 s2;rw[decide_eq_true (ue hs)] at hv;have d1:=cr F (by omega);have d2:=cr P (by omega);have hsu:=ob F P mF mP (by omega) (by omega);rw[←hg] at hsu;have hsl:=bY lo;have hri:=vd L mL (by omega);rw[hr] at hri;have hll:(pE L).length=L.length:=by simp[pE]
 have hsp:¬sgZ lo.num≤(0:Int):=fun e=>by have:=sg_leA.1 e;grind
 refine f_n Tryz.func35 ?_ ?_;exact ae (ap F) (ae (bq _ _) (ae (ag _) (ae (aG (ff P L lo up)) ai)));refine r_z 3 ?_;refine ac (r_c 23 (hv) ?_);refine e_s (d1) ?_;refine e_s (d2) ?_;refine d_z ?_;refine cF (ak (r_c 5 (hsu) ?_));refine a_z ?_;refine ac (r_c 6 (hw) ?_);refine a_z ?_;refine cF (ak (ac (r_c 4 (hsl) ?_)));refine d_z ?_;refine cF (ak (ac (s_r 12 ?_)));refine a_5 ?_;refine o_0 (.bin rfl rfl (vF cv ((by simp;omega)))) ?_;refine e_s (hri) ?_;refine d_z ?_;refine cF (ak (ac (r_z 4 ?_)));refine aI (fun _:Unit=>⟨[],[],1,114⟩) (fun _=>True) ?_ ?_
 ·refine am (aC (pnS s P L lo up g) (fun i=>L.length- i) (fun i=>i≤L.length) 0 (Nat.zero_le _) ?_ ?_)
  rw[pnS.eq_1];refine s_x [] (fun hs=>?_) (fun hs=>?_)
  ·repeat' (first|exact aH|refine ao rfl ?_ ?_|exact Cv.boxp hs rfl (aP rfl) rfl (cf _ _)|exact Cv.boxp hs rfl (aP rfl) rfl (ff _ _ _ _)|(refine Cv.loE hs ?_ (ag _);simp[i64];done)|exact aY)
  ·repeat' (first|exact aD|refine h_c ?_ ?_|exact bG|refine aw ?_|exact ax|refine af ?_ ?_|exact Cv.boxp hs rfl (aP rfl) rfl (cf _ _)|exact Cv.boxp hs rfl (aP rfl) rfl (ff _ _ _ _)|(refine Cv.loE hs ?_ (ag _);simp[i64];done)|exact aY)
  intro i hi;rw[pnS.eq_1];by_cases hlt:i< L.length;rotate_left;have hge:i=L.length:=by omega
  subst hge;refine q_z 1 ?_;refine ac (cF (aA ⟨(),trivial,?_⟩));exact s_e [];obtain⟨x1,x2,x3,x4,x5⟩:=hx i hlt;have hgx:∀e:Nat,e=i→(pE L)[e]?=some (qC (coP L i)):=fun e he=>by rw[he];exact b7 (bv hlt)
  have hE:=e8 g (coP L i) x3;have hH:=fs_aHas s.1 s.2 (coP L i) s1 s2 (iS mL i) ⟨x1,x2⟩;have hA:=eY (aF g (coP L i));have hC:=dW (cj (aF g (coP L i))) lo (by unfold sm;rw[qs_abs];exact x4) ml;have hS:=bY (aF g (coP L i));have hcl:¬cZ (cj (aF g (coP L i))) lo< 0:=fun e=>by have:=cq_lt.1 e;grind
  refine q_z 1 ?_;refine ac (cT (ak (ac (am (s_r 6 ?_)))));refine a_1 ?_
  first|refine ay (.index_l rfl rfl (by omega) (by omega) te_29.h) rfl rfl ?_|refine ay (.index_a rfl rfl (by omega) (hgx _ (by omega)) rfl te_29.h) rfl rfl ?_
  first|refine ay (.load_l rfl rfl (hgx _ (by omega)) TG.h TS.h (nle rfl)) rfl rfl ?_|refine ay (.load_a rfl (hgx _ (by omega)) TG.h TS.h (nle rfl)) rfl rfl ?_
  refine a_z ?_;refine r_c 5 (hE) ?_;refine a_z ?_;cases i with
  |zero=>
   refine ac (r_d hmix 30 ?_);refine c_s (hH) ?_;refine e_s (hA) ?_;refine e_s (hC) ?_;refine d_4 ?_;refine aE rfl rfl rfl (.bin rfl rfl (vF cS (rfl))) rfl rfl ?_;refine d_8 ?_;refine d_7 ?_;refine an (n_k ?_);refine cF (ak (r_m 2 ?_));refine a_z ?_;refine⟨0+1,by omega,by omega,?_⟩;rw[pnS.eq_1];exact s_x [] (fun hs=>e_46) (fun hs=>e_47)
  |succ i=>
   obtain⟨y1,y2,y3,y4,y5⟩:=hx i (by omega);have hgy:∀e:Nat,e=i→(pE L)[e]?=some (qC (coP L i)):=fun e he=>by rw[he];exact b7 (bv (by omega))
   have hE2:=e8 g (coP L i) y3;have hS2:=bY (aF g (coP L i));refine ac (r_d hmix 30 ?_);refine c_s (hH) ?_;refine e_s (hA) ?_;refine e_s (hC) ?_;refine e_s (hS) ?_;refine d_5 ?_
   first|refine aE rfl rfl rfl (.index_l rfl rfl (by omega) (by omega) te_29.h) rfl rfl ?_|refine aE rfl rfl rfl (.index_a rfl rfl (by omega) (hgy _ (by omega)) rfl te_29.h) rfl rfl ?_
   first|refine aE rfl rfl rfl (.load_l rfl rfl (hgy _ (by omega)) TG.h TS.h (nle rfl)) rfl rfl ?_|refine aE rfl rfl rfl (.load_a rfl (hgy _ (by omega)) TG.h TS.h (nle rfl)) rfl rfl ?_
   refine c_s (hE2) ?_;refine c_s (hS2) ?_;refine aE rfl rfl rfl (.bin rfl rfl (vF aJ (neI (ha i hlt)))) rfl rfl ?_;refine d_2 ?_;refine an (n_k ?_);refine cF (ak (r_m 2 ?_));refine a_z ?_;refine⟨i+1+1,by omega,by omega,?_⟩;rw[pnS.eq_1];exact s_x [] (fun hs=>e_46) (fun hs=>e_47)
 rintro _ _;refine r_z 1 ?_;exact aj (t_e (ag _))
end Go.Proofs.YtjgokhkahkmpbaaGreatDoor
