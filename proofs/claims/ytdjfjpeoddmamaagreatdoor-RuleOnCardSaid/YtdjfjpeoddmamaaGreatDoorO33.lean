/- Part O33 of the proof. -/
import Derived.Test.YtdjfjpeoddmamaaGreatDoorO32
set_option linter.all false
namespace Go.Proofs.YtdjfjpeoddmamaaGreatDoor
open Go.Abs
set_option maxRecDepth 20000
set_option maxHeartbeats 4000000
abbrev pwS(T:List Rat)(k:Nat):Rat:=trP T (gK [1] k)
theorem rR_{n i:Nat}{f:Nat→Rat}(h:i< n):∀e,e=i→(rE (rP (tabP n f)))[e]?=some (rC (rq (f i))):=fun e he=>by
 rw[he];unfold rE rP;rw[List.getElem?_map,List.getElem?_map,fx_ h];rfl
theorem cG_{m:List Rat}{k:Nat}(hk:k< m.length):∀e,e=k→(rE (rP m))[e]?=some (rC (rq (coP m k))):=fun e he=>by
 rw[he];unfold rE rP;rw[List.getElem?_map,List.getElem?_map,a9_ hk];rfl
section
variable {T:List Rat}{n:Nat}(hn:1≤n∧n≤5)(hl:T.length=n+1)(ht:trimQ T=T)(hm:leadP T=1)
include hn hl ht hm
theorem rs_qs(hH:Ht T 141){k i:Nat}(hk:k≤20)(hi:i< k):qs (rsA T n (pwS T) k i)≤3500:=by
 obtain⟨n1,n2,n3,n4⟩:=t_len hn hl ht hm;obtain⟨K,K0,hK,hT⟩:=Ht_mon hH n4;have a:=rK_ hn hl ht hm hK hT (by omega) (S:=pwS T) (k:=k) (fun j hj=>pow_IB hn hl ht hm hK hT (by omega) j (by omega)) i hi;have b:=nu_ hK k;have hp:K^ k≠0:=ml_ K0 k;have c:=oy_ (a.mono (show _≤3500 by omega)) (b.mono (show _≤3500 by omega)) hp (by omega);rw[Rat.mul_div_cancel hp] at c;exact c
end
def skS(T:List Rat)(n M k:Nat):AState:=⟨[(0,.arr (rE (rP T))),(1,i64 M),(5,i64 n),(6,.lsl 1 0 k none 4),(7,i64 k)],[(1,some ⟨42,4,rE (rP (tabP k (pwS T)))⟩)],2,68⟩
def sjS(T:List Rat)(n M k i:Nat):AState:=⟨[(0,.arr (rE (rP T))),(1,i64 M),(5,i64 n),(6,.lsl 1 0 k none 4),(7,i64 k),(8,.lptr 2 0 0),(9,i64 ((i+1:Nat):Int))],[(1,some ⟨42,4,rE (rP (tabP k (pwS T)))⟩),(2,some ⟨42,4,[rC (rq (rsA T n (pwS T) k i))]⟩)],3,68⟩
theorem pm_{T:List Rat}{n:Nat}(p:List Rat)(M:Nat)(hp:trimQ p=T)(hpl:p.length≤1000)(hn:1≤n∧n≤5)(hl:T.length=n+1)(ht:trimQ T=T)(hm:leadP T=1)(hb:bdL T 40)(hH:Ht T 141)(hM:M≤20):
    FS 135 [.arr (rE (rP p)),i64 M] (.arr (rE (rP (tabP (M+1) (pwS T))))):=by
 obtain⟨n1,n2,n3,n4⟩:=t_len hn hl ht hm;have htr:=cI_ (rP p) (by rw[aP_];omega);rw[e2_,hp] at htr;have hTl:(rP T).length=n+1:=by rw[aP_,hl]
 have hin:=bF_ (n:Int) (by omega);have h0:FS 112 [i64 0] (.agg (rC (rq 0))):=bF_ 0 (by decide)
 have hS0:pwS T 0=((n:Nat):Int):=by
  show trP T (gK [1] 0)=_;rw[hr_ n1 hm (by omega)];show coP (at_ T) (dg T- 1)=_;rw[bm_,n2,show n- 1+1=n by omega,n4];grind
 have pq:∀k,k≤20→qs (pwS T k)≤3500:=fun k hk=>rY_ hn hl ht hm hH k hk;have rqq:=fun{k i:Nat} (hk:k≤20) (hi:i< k)=>rs_qs hn hl ht hm hH hk hi;refine f_c Tryz.func135 ?_;refine r_z 1 ?_;refine r_c 3 (htr) ?_;refine a_z ?_;refine r_z 4 ?_;rw[show(((rP T).length:Nat):Int)- 1=(n:Int) by omega];refine r_c 4 (hin) ?_;refine a_z ?_;refine aa_ (r_z 1 ?_);refine aw_ (skS T n M) (fun k=>k=M+1) ?_ ?_
 ·refine ac_ (ap_ (skS T n M) (fun k=>M+2- k) (fun k=>1≤k∧k≤M+1) 1 ⟨Nat.le_refl _,by omega⟩ ?_ ?_)
  rw[skS.eq_1];refine s_x [(1,6)] (fun hs=>au_f) (fun hs=>?_)
  ·repeat' (first|exact az_|refine h_c ?_ ?_|exact aC_ hs (by rw[←nI_ 0 (pwS T),hS0];rfl) (a6_ _)|exact au_e)
  rintro k ⟨k1,k2⟩;rw[skS.eq_1];by_cases hkM:k≤M;rotate_left;refine aa_ (q_z 3 ?_);refine cF (am_ ⟨k,by omega,?_⟩);rw[skS.eq_1];exact s_f [(1,6)];refine aa_ (q_z 3 ?_);refine cT (ae_ (aa_ (ac_ (r_c 3 (h0) ?_))));refine a_z ?_;refine aa_ (r_z 1 ?_);refine aw_ (fun _:Unit=>sjS T n M k (min n (k- 1))) (fun _=>True) ?_ ?_
  ·refine ac_ (ap_ (sjS T n M k) (fun i=>k- i) (fun i=>i≤n∧i< k) 0 ⟨Nat.zero_le _,by omega⟩ ?_ ?_)
   rw[sjS.eq_1];exact s_x [(1,6),(2,8)] (fun hs=>au_f) (fun hs=>e_16);rintro i ⟨i1,i2⟩;rw[sjS.eq_1];by_cases hin:i+1≤n;rotate_left;refine aa_ (q_z 8 ?_);refine cF (am_ ⟨(),trivial,?_⟩);simp only[sjS.eq_1];rw[show min n (k- 1)=i by omega];exact s_x [(1,6),(2,8)] (fun hs=>au_f) (fun hs=>e_16);by_cases hik:i+1< k;rotate_left;refine aa_ (q_z 8 ?_);refine cF (am_ ⟨(),trivial,?_⟩);simp only[sjS.eq_1];rw[show min n (k- 1)=i by omega];exact s_x [(1,6),(2,8)] (fun hs=>au_f) (fun hs=>e_16);have q1:=bj_ hb (by omega) (n- (i+1));have q2:=pq (k- (i+1)) (by omega);have q3:=rqq (k:=k) (i:=i) (by omega) i2;have q4:=bJ_ (coP T (n- (i+1))) (pwS T (k- (i+1)));have hmu:=dv_ (rq (coP T (n- (i+1)))) (rq (pwS T (k- (i+1)))) (aR_ _) (aR_ _) (by show qs (coP T (n- (i+1)))+qs (pwS T (k- (i+1)))≤_;omega);have hsu:=lj_ (rq (rsA T n (pwS T) k i)) (rq (coP T (n- (i+1)) * pwS T (k- (i+1)))) (aR_ _) (aR_ _) (by show qs (rsA T n (pwS T) k i)+qs (coP T (n- (i+1)) * pwS T (k- (i+1)))≤_;omega);refine aa_ (q_z 8 ?_);refine cT (ae_ (aa_ (ac_ (r_d hmix 16 ?_))));refine a_5 ?_
   first|refine aq_ (.index_l rfl rfl (by omega) (by omega) te_66.h) rfl rfl ?_|refine aq_ (.index_a rfl rfl (by omega) (cG_ (k:=n- (i+1)) (by omega) _ (by omega)) rfl te_66.h) rfl rfl ?_
   first|refine aq_ (.load_l rfl rfl (cG_ (k:=n- (i+1)) (by omega) _ (by omega)) TG.h TS.h (nle rfl)) rfl rfl ?_|refine aq_ (.load_a rfl (cG_ (k:=n- (i+1)) (by omega) _ (by omega)) TG.h TS.h (nle rfl)) rfl rfl ?_
   refine a_5 ?_
   first|refine aq_ (.load_l rfl rfl (rR_ (i:=k- (i+1)) (by omega) _ (by omega)) TG.h TS.h (nle rfl)) rfl rfl ?_|refine aq_ (.load_a rfl (rR_ (i:=k- (i+1)) (by omega) _ (by omega)) TG.h TS.h (nle rfl)) rfl rfl ?_
   refine c_s (hmu) ?_;refine c_s (hsu) ?_;refine a_1 ?_;refine ai_ (n_k ?_);refine r_m 3 ?_;refine a_z ?_;refine⟨i+1,by omega,⟨hin,hik⟩,?_⟩;rw[sjS.eq_1];exact s_x [(1,6),(2,8)] (fun hs=>au_f) (fun hs=>e_16)
  rintro _ _;rw[sjS.eq_1];have hval:=oW_ n1 hm n2 hn.1 ht k (by omega);have q3:=rqq (k:=k) (i:=min n (k- 1)) (by omega) (by omega);unfold rsF at hval;by_cases hkn:k≤n;rw[if_pos hkn] at hval;have hik:=bF_ (k:Int) (by omega);have q1:=bj_ hb (by omega) (n- k);have q5:qs (((k:Nat):Int):Rat)≤64:=f2_ k (by omega);have q4:=bJ_ (((k:Nat):Int):Rat) (coP T (n- k));have hmu:=dv_ (rq (((k:Nat):Int):Rat)) (rq (coP T (n- k))) (aR_ _) (aR_ _) (by show qs (((k:Nat):Int):Rat)+qs (coP T (n- k))≤_;omega);have hsu:=lj_ (rq (rsA T n (pwS T) k (min n (k- 1)))) (rq ((((k:Nat):Int):Rat) * coP T (n- k))) (aR_ _) (aR_ _) (by show qs (rsA T n (pwS T) k (min n (k- 1)))+qs ((((k:Nat):Int):Rat) * coP T (n- k))≤_;omega);rw[show(rq (rsA T n (pwS T) k (min n (k- 1)))).1- (rq ((((k:Nat):Int):Rat) * coP T (n- k))).1=pwS T k from hval.symm] at hsu;refine aa_ (q_z 3 ?_);refine cT (r_d hmix 12 ?_);refine c_s (hik) ?_;refine a_4 ?_
  first|refine aq_ (.index_l rfl rfl (by omega) (by omega) te_66.h) rfl rfl ?_|refine aq_ (.index_a rfl rfl (by omega) (cG_ (k:=n- k) (by omega) _ (by omega)) rfl te_66.h) rfl rfl ?_
  first|refine aq_ (.load_l rfl rfl (cG_ (k:=n- k) (by omega) _ (by omega)) TG.h TS.h (nle rfl)) rfl rfl ?_|refine aq_ (.load_a rfl (cG_ (k:=n- k) (by omega) _ (by omega)) TG.h TS.h (nle rfl)) rfl rfl ?_
  refine c_s (hmu) ?_;refine c_s (hsu) ?_;refine a_1 ?_;refine ai_ (n_k ?_);refine r_m 5 ?_;refine a_z ?_;refine r_m 3 ?_;refine a_z ?_;refine⟨k+1,by omega,⟨by omega,by omega⟩,?_⟩;rw[skS.eq_1];refine s_x [(1,6)] (fun hs=>au_f) (fun hs=>?_)
  ·repeat' (first|exact az_|refine h_c ?_ ?_|exact aC_ hs (by rw[←nI_ k (pwS T)];rfl) (a6_ _)|exact au_e)
  rw[if_neg hkn] at hval;refine aa_ (q_z 3 ?_);refine cF (ae_ (r_m 5 ?_));refine a_z ?_;refine r_m 3 ?_;refine a_z ?_;refine⟨k+1,by omega,⟨by omega,by omega⟩,?_⟩;rw[skS.eq_1];refine s_x [(1,6)] (fun hs=>au_f) (fun hs=>?_)
  ·repeat' (first|exact az_|refine h_c ?_ ?_|exact aC_ hs (by rw[←nI_ k (pwS T),show pwS T k=rsA T n (pwS T) k (min n (k- 1)) from hval];rfl) (a6_ _)|exact au_e)
 rintro k hk;subst hk;rw[skS.eq_1];refine r_z 2 ?_;exact af_ (Fin.tmpS rfl rfl rfl (by simp) (a6_ _))
theorem rE_part(f g:Nat→Rat)(M c n:Nat)(hM:c+n≤M)(h:∀j,j< n→f (c+j)=g j):((rE (rP (tabP M f))).drop c).take (c+n- c)=rE (rP (tabP n g)):=by
 apply List.ext_getElem?;intro i;unfold rE rP;by_cases hi:i< n;rw[List.getElem?_take_of_lt (by omega),List.getElem?_drop,List.getElem?_map,List.getElem?_map,fx_ (by omega),List.getElem?_map,List.getElem?_map,fx_ hi,h i hi];rw[List.getElem?_eq_none (by simp;omega),List.getElem?_eq_none (by simp;omega)]
theorem rE_front(m:List Rat)(g:Nat→Rat)(n:Nat)(hn:n≤m.length)(h:∀j,j< n→coP m j=g j):(rE (rP m)).take n=rE (rP (tabP n g)):=by
 apply List.ext_getElem?;intro i;unfold rE rP;by_cases hi:i< n;rw[List.getElem?_take_of_lt hi,List.getElem?_map,List.getElem?_map,a9_ (by omega),List.getElem?_map,List.getElem?_map,fx_ hi,h i hi];rw[List.getElem?_eq_none (by simp;omega),List.getElem?_eq_none (by simp;omega)]
def hnS(T m:List Rat)(W:List AV)(n:Nat):Nat→AState
 |0=>⟨[(1,.arr (rE (rP T))),(2,.aptr [W] 0 0),(4,.lptr 1 0 0),(5,i64 n),(6,.arr (rE (rP (tabP (2* n+1) (pwS T))))),(7,.emp),(8,i64 0)],[(1,some ⟨102,2,[[.emp,.emp]]⟩)],2,46⟩
 |c+1=>⟨[(1,.arr (rE (rP T))),(2,.aptr [W] 0 0),(4,.lptr 1 0 0),(5,i64 n),(6,.arr (rE (rP (tabP (2* n+1) (pwS T))))),(7,.lsl 2 0 (c+1) none 1),(8,i64 ((c+1:Nat):Int))],[(1,some ⟨102,2,[[.emp,.emp]]⟩),(2,some ⟨65,1,svC (hkM T m n) n (c+1)⟩)],3,46⟩
theorem fs_rOn {q T V m A B:List Rat} (l r:Bool) (x y:RQ) {n:Nat} (hq:aG_ q=T) (hql:q.length≤1000) (hqb:bdL q 20) (hn:1≤n∧n≤5) (hl:T.length=n+1) (ht:trimQ T=T) (hm:leadP T=1) (hb:bdL T 40) (hH:Ht T 141) (hmb:bdL m 3000) (hml:n≤m.length) (hml2:m.length≤1000)
    (hco:∀x,evalP A x* evalP T x+evalP B x* dvE T x=1) (hV:∃z,∀x,evalP V x* dvE T x=evalP (tpQ T m) x+evalP z x* evalP T x) (dV:nz V→dg V< dg T) (hVt:trimQ V=V):
    FS 47 [.agg (rwC m l r x y),.arr (rE (rP q))] (.agg (rruC T V)):=by
 obtain⟨n1,n2,n3,n4⟩:=t_len hn hl ht hm;obtain⟨C,hC⟩:=hk_ok hn hl ht hm hco m;obtain⟨hx,_⟩:=sz_ hn hl ht hm hco hC hV dV hVt;have hWc:∀c∈rwC m l r x y,Closed c:=ca_;have hMo:=g5_ (rP q) 20 (bS_ _) (by rw[vR_rP];exact hqb) (by decide) (by decide) (by rw[aP_];omega);rw[vR_rP,hq] at hMo;have hdg:=dw_ (rP T) (by rw[aP_];omega);rw[vR_rP,n3] at hdg;have hSu:=pm_ T (2* n) ht (by omega) hn hl ht hm hb hH (by omega);rw[show((2* n:Nat):Int)=2* (n:Int) by omega] at hSu
 have hlim:4* gjB 3500 n+1≤274877906944:=by
  have h1:gjB 3500 n≤3600000:=Nat.le_trans (nY_ hn.2) (by decide+kernel);omega
 have hS:=ot_Solve (hkM T m n) C n 3500 ⟨hn.1,by omega⟩ (hk_bd hn hl ht hm hH hmb) (by decide) hlim hC;have htr:=cI_ (rP (tabP n fun i=>C i n/ C i i)) (by rw[aP_,d6_];omega);rw[e2_,hx] at htr
 have hrow:∀c,c< n→((rE (rP (tabP (2* n+1) (pwS T)))).drop c).take (c+n- c)=rE (rP (tabP n (hkM T m n c))):=fun c hc=>rE_part _ _ _ _ _ (by omega) fun j hj=>by
  show trP T (gK [1] (c+j))=hkM T m n c j;unfold hkM;rw[if_pos hj]
 have hrhs:(rE (rP m)).take n=rE (svB (hkM T m n) n):=rE_front m _ n hml fun j hj=>by
  show coP m j=hkM T m n j n;unfold hkM;rw[if_neg (Nat.lt_irrefl n)]
 have hlen:(rE (rP (tabP (2* n+1) (pwS T)))).length=2* n+1:=by simp
 have hlen2:(rE (rP m)).length=m.length:=by simp
 refine f_c Tryz.func47 ?_;refine r_z 2 ?_;refine r_c 3 (hMo) ?_;refine a_z ?_;refine r_c 3 (hdg) ?_;refine a_z ?_;refine r_c 5 (hSu) ?_;refine a_z ?_;refine r_z 1 ?_;refine aa_ (r_z 1 ?_);refine aw_ (hnS T m (rwC m l r x y) n) (fun c=>c=n) ?_ ?_;refine ac_ (ap_ (hnS T m (rwC m l r x y) n) (fun c=>n- c) (fun c=>c≤n) 0 (Nat.zero_le _) ?_ ?_);rw[hnS.eq_1];exact s_f [(1,4)];intro c hc;by_cases hcn:c< n
 ·have ho1:=svC_one (hkM T m n) n c
  cases c with
  |zero=>
   rw[hnS.eq_1];refine aa_ (q_z 3 ?_);refine cT (ae_ (aa_ (ac_ (r_m 10 ?_))));refine a_6 ?_;refine o_0 (.sa_lhE (hrow 0 hcn) rfl rfl (by omega) rfl (by omega) (by omega) te_65.h (e7_ _)) ?_;refine a_z ?_;refine r_m 3 ?_;refine a_z ?_;refine⟨1,by omega,hcn,?_⟩;rw[hnS.eq_2];refine s_x [(1,4),(2,7)] (fun hs=>e_13) (fun hs=>?_)
   ·repeat' (first|exact az_|refine h_c ?_ ?_|exact aC_ hs rfl (eU_ _ _ _)|exact al_ (ag_ (an_ hs bc_) (ag_ (an_ hs bc_) ao_))|exact au_e|refine al_ ?_|exact ao_|refine ag_ ?_ ?_|exact an_ hs (aE_ hWc)|exact au_c)
  |succ c=>
   rw[hnS.eq_2];refine aa_ (q_z 3 ?_);refine cT (ae_ (aa_ (ac_ (r_m 10 ?_))));refine a_6 ?_;refine o_0 (.sa_lhE (hrow (c+1) hcn) rfl rfl (by omega) rfl (by omega) (by omega) te_65.h (e7_ _)) ?_;refine o_1 (.buildSlice te_183.h TZ.h rfl (by decide) rfl rfl rfl (by first|(simp;done)|(simp[bv_,ofV];done)|rfl)) ?_;refine o_2 (.append_l rfl rfl rfl te_183.h rfl rfl rfl rfl rfl d_o (by first|exact cK_ _|exact cH_ _|exact cr_ _|exact cL_ _|exact cy_ _|assumption|rfl|simp) (by first|rfl|exact cK_ _|exact cH_ _|exact cr_ _|exact cL_ _|exact cy_ _|simp) rfl (.lsl rfl (nle rfl)) TZ.h rfl TB.h d_o (by first|(simp[maxLen];done)|(simp[maxLen];omega))) ?_;refine o_0 (.assign rfl) ?_;refine ai_ ?_;refine r_m 3 ?_;refine a_z ?_;refine⟨c+2,by omega,hcn,?_⟩;rw[hnS.eq_2];refine s_x [(1,4),(2,7)] (fun hs=>e_13) (fun hs=>?_)
   ·repeat' (first|exact az_|refine h_c ?_ ?_|exact aC_ hs (by rw[svC_snoc _ _ (c+1)];rfl) (eU_ _ _ _)|exact al_ (ag_ (an_ hs bc_) (ag_ (an_ hs bc_) ao_))|exact au_e|refine al_ ?_|exact ao_|refine ag_ ?_ ?_|exact an_ hs (aE_ hWc)|exact au_c)
 obtain⟨c,rfl⟩:∃c',c=c'+1:=⟨c- 1,by omega⟩;rw[hnS.eq_2];refine aa_ (q_z 3 ?_);refine cF (am_ ⟨c+1,by omega,?_⟩);rw[hnS.eq_2];refine s_x [(1,4),(2,7)] (fun hs=>e_13) (fun hs=>?_)
 ·repeat' (first|exact az_|refine h_c ?_ ?_|exact bi_ hs (eU_ _ _ _)|exact al_ (ag_ (an_ hs bc_) (ag_ (an_ hs bc_) ao_))|exact au_e|refine al_ ?_|exact ao_|refine ag_ ?_ ?_|exact an_ hs (aE_ hWc)|exact au_c)
 rintro c hc;obtain⟨c,rfl⟩:∃c',c=c'+1:=⟨c- 1,by omega⟩;rw[hnS.eq_2,hc];refine AWp.ent (st':=⟨[(1,.arr (rE (rP T))),(2,.aptr [rwC m l r x y] 0 0),(4,.lptr 1 0 0),(5,i64 n),(7,.arr (svA (hkM T m n) n))],[(1,some ⟨102,2,[[.emp,.emp]]⟩)],2,46⟩) ?_ ?_;refine s_x [(1,4)] (fun hs=>?_) (fun hs=>?_)
 ·repeat' (first|exact a2_|refine aH_ rfl ?_ ?_|exact an_ hs (aE_ hWc)|exact Cv.shut hs rfl (aW_ rfl) (by simp) (aC_ hs (by rw[List.drop_zero];exact List.take_of_length_le (by simp)) (eU_ _ _ _))|exact au_c)
 ·repeat' (first|exact az_|refine h_c ?_ ?_|exact al_ (ag_ (an_ hs bc_) (ag_ (an_ hs bc_) ao_))|exact au_e|refine al_ ?_|exact ao_|refine ag_ ?_ ?_|exact an_ hs (aE_ hWc)|exact Cv.shut hs rfl (aW_ rfl) (by simp) (aC_ hs (by rw[List.drop_zero];exact List.take_of_length_le (by simp)) (eU_ _ _ _))|exact au_c)
 refine s_r 11 ?_;refine a_4 ?_;refine o_0 (.sa_hE hrhs rfl rfl rfl (by omega) te_65.h (e7_ _)) ?_;refine o_1 (.callOT rfl rfl rfl (hS)) ?_;refine a_z ?_;refine s_r 5 ?_;refine a_2 ?_;refine o_1 (.callS1 rfl rfl rfl (.shut rfl d_n (.nil)) rfl ((FSpec.argE htr (by rw[List.drop_zero];exact List.take_of_length_le (by simp))))) ?_;refine a_z ?_;exact af_ (c_e (au_ (fm_ _ _)))
theorem mR_bd{p q:List Rat}{s t:Nat}(hp:bdL p s)(hq:bdL q t)(hs:1≤s)(ht:1≤t):∀n,bdL (mR p q n) (n* (s+t+2)+1)
 |0=>by rw[mR];intro x hx;cases hx
 |n+1=>by
  rw[mR];intro x hx;have h1:=mR_bd hp hq hs ht n;unfold addP tabP at hx;obtain⟨i,_,rfl⟩:=List.mem_map.1 (be_ hx);have a:=bj_ h1 (by omega) i
  have b:qs (coP (shP n (av_ p (coP q n))) i)≤s+t:=by
   rw[h9_];split;exact Nat.le_trans (by decide:qs 0≤1) (by omega);rw[a5_];have:=bJ_ (coP p (i- n)) (coP q n);have c1:=bj_ hp hs (i- n);have c2:=bj_ hq ht n;omega
  have c:=fC_ (coP (mR p q n) i) (coP (shP n (av_ p (coP q n))) i);rw[Nat.succ_mul];omega
section
variable (m:List Rat)(l r:Bool)(a b:Rat)(ha:sm a)(hb:sm b)
include ha hb
end
def ryS(w S:List Rat):Nat×Rat→AState
 |(i,o)=>⟨[(4,.lptr 1 0 0),(5,.arr (rE (rP w))),(6,.arr (rE (rP S))),(7,.lptr 2 0 0),(8,i64 i)],[(1,some ⟨42,4,[zR4]⟩),(2,some ⟨42,4,[rC (rq o)]⟩)],3,37⟩
section
variable {T V:List Rat}{n:Nat}(hn:1≤n∧n≤5)(hl:T.length=n+1)(ht:trimQ T=T)(hm:leadP T=1)(hb:bdL T 40)(hH:Ht T 141)(hVl:V.length≤n)(hVb:bdL V 7200000)
include hn hl ht hm hb hH hVl hVb
theorem mM_(F:List RQ)(hF:okX F)(hFl:F.length≤15)(hFb:bdL (vR F) 256):FS 63 [.agg (rruC T V),.arr (rE F)] (.agg (rC (rq (trP T (mulP V (vR F))))))∧qs (trP T (mulP V (vR F)))≤68719476736:=by
 obtain⟨n1,n2,n3,n4⟩:=t_len hn hl ht hm;have hfl:(vR F).length=F.length:=by simp[vR]
 have hM:=g4_ (rP V) F 7200000 256 108003871 (bS_ _) hF (by rw[vR_rP];exact hVb) hFb (by decide) (fun a ha=>by
  rw[vR_rP];refine bdL_mono' (mR_bd hVb hFb (by decide) (by decide) a) ?_;exact Nat.le_trans (Nat.succ_le_succ (Nat.mul_le_mul_right _ (show a≤15 by omega))) (by decide)) (by decide) (by rw[aP_];omega) (by omega)
 rw[vR_rP] at hM;obtain⟨w,hw⟩:∃w,w=mulP V (vR F):=⟨_,rfl⟩;have hwl:w.length≤19:=by rw[hw];have:=fG_ V (vR F);omega
 have hwb:bdL w 36001286:=by
  rw[hw];exact bdL_mono' (gz_ hVb hFb (by decide) (by decide)) (Nat.le_trans (Nat.succ_le_succ (Nat.mul_le_mul_right _ (show V.length≤5 by omega))) (by decide))
 rw[←hw] at hM⊢;have hrl:(rP w).length=w.length:=aP_ w;obtain⟨S,hSd⟩:∃S,S=tabP (w.length+1) (pwS T):=⟨_,rfl⟩;have hSl:S.length=w.length+1:=by rw[hSd];simp
 have hSb:bdL S 3500:=by
  rw[hSd];intro q hq;unfold tabP at hq;obtain⟨i,hi,rfl⟩:=List.mem_map.1 hq;exact rY_ hn hl ht hm hH i (by have:=List.mem_range.1 hi;omega)
 have hSu:=pm_ T w.length ht (by omega) hn hl ht hm hb hH (by omega);rw[←hSd] at hSu
 have hval:ofQ w S w.length=trP T w:=by
  have h2:=(c2_ n1).ofQ (m:=S) (N:=w.length+1) (fun i hi=>by rw[hSd,dY_,if_pos hi]) w w.length (by omega) (Nat.le_refl _);rw[List.take_length] at h2;exact h2
 have h0:FS 112 [i64 0] (.agg (rC (rq 0))):=bF_ 0 (by decide);have hbd:=fun i=>ms_ hwb hSb (by decide) (by decide) i;have hsz:∀i,i≤19→qs (ofQ w S i)≤700000000:=fun i hi=>Nat.le_trans (hbd i) (Nat.le_trans (Nat.succ_le_succ (Nat.mul_le_mul_right _ hi)) (by decide));refine⟨?_,by rw[←hval];exact Nat.le_trans (hsz _ hwl) (by decide)⟩;refine f_n Tryz.func63 ?_ ?_;exact ab_ (au_ (fm_ T V)) (ab_ (aS_ _) ah_);refine r_z 2 ?_;refine r_c 5 (hM) ?_;refine a_z ?_;rw[←hrl] at hSu;refine r_c 6 (hSu) ?_;refine a_z ?_;refine r_c 3 (h0) ?_;refine a_z ?_;refine aa_ (r_z 1 ?_);refine aw_ (fun _:Unit=>⟨[(4,.lptr 1 0 0),(7,.lptr 2 0 0)],[(1,some ⟨42,4,[zR4]⟩),(2,some ⟨42,4,[rC (rq (ofQ w S w.length))]⟩)],3,37⟩) (fun _=>True) ?_ ?_;refine ac_ (ap_ (ryS w S) (fun z=>w.length- z.1) (fun z=>z.1≤w.length∧z.2=ofQ w S z.1) (0,0) ⟨Nat.zero_le _,rfl⟩ ?_ ?_);simp only[ryS.eq_1];exact s_e [(1,4),(2,7)];rintro⟨i,o⟩ ⟨hi,ho⟩;simp only at hi ho;rw[ryS.eq_1];by_cases hlt:i< w.length;refine aa_ (q_z 4 ?_);refine cT (ae_ ?_);have hc:=bj_ hwb (by decide) i;have hd:=bj_ hSb (by decide) i;have hq:=hsz i (by omega);rw[←ho] at hq;have hmu:=dv_ (rq (coP w i)) (rq (coP S i)) (aR_ _) (aR_ _) (by show qs (coP w i)+qs (coP S i)≤_;omega);have hqm:=bJ_ (coP w i) (coP S i);have had:=fL_ (rq o) (rq (coP w i* coP S i)) (aR_ _) (aR_ _) (by show qs o+qs (coP w i* coP S i)≤_;omega);refine aa_ (ac_ (r_d hmix 12 ?_));refine a_3 ?_
 first|refine aq_ (.index_l rfl rfl (by omega) (by omega) te_66.h) rfl rfl ?_|refine aq_ (.index_a rfl rfl (by omega) (cG_ hlt _ (by omega)) rfl te_66.h) rfl rfl ?_
 first|refine aq_ (.load_l rfl rfl (cG_ hlt _ (by omega)) TG.h TS.h (nle rfl)) rfl rfl ?_|refine aq_ (.load_a rfl (cG_ hlt _ (by omega)) TG.h TS.h (nle rfl)) rfl rfl ?_
 refine a_2 ?_
 first|refine aq_ (.index_l rfl rfl (by omega) (by omega) te_65.h) rfl rfl ?_|refine aq_ (.index_a rfl rfl (by omega) (cG_ (k:=i) (by omega) _ (by omega)) rfl te_65.h) rfl rfl ?_
 first|refine aq_ (.load_l rfl rfl (cG_ (k:=i) (by omega) _ (by omega)) TG.h TS.h (nle rfl)) rfl rfl ?_|refine aq_ (.load_a rfl (cG_ (k:=i) (by omega) _ (by omega)) TG.h TS.h (nle rfl)) rfl rfl ?_
 refine c_s (hmu) ?_;refine c_s (had) ?_;refine a_1 ?_;refine ai_ (n_k ?_);refine r_m 3 ?_;refine a_z ?_;refine⟨(i+1,o+coP w i* coP S i),by simp only;omega,⟨hlt,by simp only;rw[ofQ,←ho]⟩,?_⟩;simp only[ryS.eq_1];exact s_e [(1,4),(2,7)];have hge:i=w.length:=by omega
 subst hge;refine aa_ (q_z 4 ?_);refine cF (am_ ⟨(),trivial,?_⟩);rw[ho];exact s_e [(1,4),(2,7)];rintro _ _;rw[hval];refine r_z 2 ?_;exact af_ (c_e (bR_ _))
theorem fs_rDegR(m:List Rat)(l r:Bool)(x y:RQ)(hmb:bdL m 3000)(hml:m.length≤15)(d:Nat)(hd:d≤m.length)(heq:∀k,k< d→trP T (mulP V (gK [1] k))=coP m k)(hne:d< m.length→trP T (mulP V (gK [1] d))≠coP m d):
    FS 62 [.agg (rwC m l r x y),.agg (rruC T V)] (.tup [i64 ((d:Int)- 1),bln (decide (d< m.length))]):=by
 obtain⟨n1,n2,n3,n4⟩:=t_len hn hl ht hm;have hWc:∀c∈rwC m l r x y,Closed c:=ca_;have cR:=fm_ T V;have hrl:(rP m).length=m.length:=aP_ m
 have hap:∀k,k≤14→FS 63 [.agg (rruC T V),.arr (rE (mnX k))] (.agg (rC (rq (trP T (mulP V (gK [1] k))))))∧qs (trP T (mulP V (gK [1] k)))≤68719476736:=fun k hk=>by
  have h:=mM_ hn hl ht hm hb hH hVl hVb (mnX k) (mnX_ok k) (by unfold mnX;simp;omega) (by
   rw[mnX_v];unfold shP;exact bdL_mono' (jL_ (s:=1) (fun q hq=>by rw[List.mem_singleton.1 hq];decide) (by decide) k) (by decide))
  have he:trP T (mulP V (vR (mnX k)))=trP T (mulP V (gK [1] k)):=(in_ n1 V).eqv fun x=>by
   rw[mnX_v,hb_,ct_,ay_,ax_];grind
  rw[he] at h;exact h
 refine f_c Tryz.func62 ?_;refine r_z 4 ?_;refine aa_ (r_z 1 ?_);refine aw_ (fun _:Unit=>⟨[(2,.aptr [rwC m l r x y] 0 0)],[],1,31⟩) (fun _=>d=m.length) ?_ ?_
 ·refine ac_ (ap_ (fun k:Nat=>⟨[(2,.aptr [rwC m l r x y] 0 0),(3,.aptr [rruC T V] 0 0),(6,i64 k)],[],1,31⟩) (fun k=>m.length- k) (fun k=>k≤d) 0 (Nat.zero_le _) ?_ ?_)
  refine s_x [] (fun hs=>?_) (fun hs=>?_)
  ·repeat' (first|exact a2_|refine aH_ rfl ?_ ?_|exact Cv.boxp hs rfl (aW_ rfl) rfl hWc|exact Cv.boxp hs rfl (aW_ rfl) rfl cR|exact au_c)
  ·repeat' (first|exact az_|refine h_c ?_ ?_|exact au_e|refine al_ ?_|exact ao_|refine ag_ ?_ ?_|exact Cv.boxp hs rfl (aW_ rfl) rfl hWc|exact Cv.boxp hs rfl (aW_ rfl) rfl cR|exact au_c)
  intro k hk;by_cases hkm:k< m.length;rotate_left;refine aa_ (q_z 5 ?_);refine cF (am_ ⟨(),by omega,?_⟩);exact s_x [] (fun hs=>e_43) (fun hs=>e_44);have hmo:=hY_ k (by omega);obtain⟨hA,hAq⟩:=hap k (by omega);have q2:=bj_ hmb (by decide) k;have hcm:=jk_ (rq (trP T (mulP V (gK [1] k)))) (rq (coP m k)) (aR_ _) (aR_ _) (by show qs (trP T (mulP V (gK [1] k)))+qs (coP m k)≤_;omega);refine aa_ (q_z 5 ?_);refine cT (ae_ (aa_ (ac_ ?_)));by_cases hkd:k< d;refine aa_ (r_d hmix 11 ?_);refine c_s (hmo) ?_;refine c_s (hA) ?_;refine a_3 ?_
  first|refine aq_ (.index_l rfl rfl (by omega) (by omega) te_65.h) rfl rfl ?_|refine aq_ (.index_a rfl rfl (by omega) (cG_ hkm _ (by omega)) rfl te_65.h) rfl rfl ?_
  first|refine aq_ (.load_l rfl rfl (cG_ hkm _ (by omega)) TG.h TS.h (nle rfl)) rfl rfl ?_|refine aq_ (.load_a rfl (cG_ hkm _ (by omega)) TG.h TS.h (nle rfl)) rfl rfl ?_
  refine c_s (hcm) ?_;refine o_0 (.bin rfl rfl (vF bd_ (bne_eq_false_iff_eq.2 (cmp0.2 (heq k hkd))))) ?_;refine ai_ (n_k ?_);refine cF (ae_ (r_m 3 ?_));refine a_z ?_;refine⟨k+1,by omega,hkd,?_⟩;exact s_x [] (fun hs=>e_43) (fun hs=>e_44);have hge:k=d:=by omega
  subst hge;refine aa_ (r_d hmix 11 ?_);refine c_s (hmo) ?_;refine c_s (hA) ?_;refine a_3 ?_
  first|refine aq_ (.index_l rfl rfl (by omega) (by omega) te_65.h) rfl rfl ?_|refine aq_ (.index_a rfl rfl (by omega) (cG_ hkm _ (by omega)) rfl te_65.h) rfl rfl ?_
  first|refine aq_ (.load_l rfl rfl (cG_ hkm _ (by omega)) TG.h TS.h (nle rfl)) rfl rfl ?_|refine aq_ (.load_a rfl (cG_ hkm _ (by omega)) TG.h TS.h (nle rfl)) rfl rfl ?_
  refine c_s (hcm) ?_;refine o_0 (.bin rfl rfl (vT bd_ (bne_iff_ne.2 (fun e=>hne hkm (cmp0.1 e))))) ?_;refine ai_ (n_k ?_);refine cT (r_z 4 ?_);refine af_ ?_;rw[decide_eq_true hkm];refine Fin.many ⟨_,_,rfl,rfl,⟨_,_,rfl,rfl,rfl⟩⟩ (nle rfl) ?_;exact ag_ (an_ ar_ (ad_ _)) (ag_ (an_ ar_ (ad_ _)) ao_)
 rintro _ hdm;rw[decide_eq_false (show¬d< m.length by omega),hdm,←hrl];refine r_z 6 ?_;refine af_ (Fin.many ⟨_,_,rfl,rfl,⟨_,_,rfl,rfl,rfl⟩⟩ (nle rfl) ?_);exact ag_ (an_ ar_ (ad_ _)) (ag_ (an_ ar_ (ad_ _)) ao_)
end
theorem jy_{p:List Rat}(hl:p.length≤7):degP p≤6:=by have:=aB_ p;unfold degP;omega
theorem sO_(p:List Rat)(hl:p.length≤7)(hb:bdL p 20):∃b:Bool,FS 44 [.arr (rE (rP p))] (bln b)∧(b=true↔RealV p):=by
 have hdg:=dw_ (rP p) (by simp[rP];omega);rw[vR_rP] at hdg;have hd:=jy_ hl;by_cases h1:1≤degP p;have np:nz p:=fun e=>by unfold degP at h1;rw[e] at h1;simp at h1
 obtain⟨c,hc⟩:=CN.ex np hl hb;have hA:=fs_rAll p c hc;have hi:=RealV.iff hc h1 (by omega);by_cases h2:uptoV c (aN_ c.p)=degP p;refine⟨true,?_,fun _=>hi.2 h2,fun _=>rfl⟩;refine f_c Tryz.func44 ?_;refine r_z 1 ?_;refine r_c 3 (hdg) ?_;refine a_z ?_;refine q_c 13 (hA) ?_;refine m_1 ?_;refine aA_ rfl rfl rfl (.bin rfl rfl (vT aU_ (beq_iff_eq.2 h2))) rfl rfl ?_;refine a_z ?_;exact af_ (t_e (ad_ _));refine⟨false,?_,(fun e=>nomatch e),fun h=>absurd (hi.1 h) h2⟩;refine f_c Tryz.func44 ?_;refine r_z 1 ?_;refine r_c 3 (hdg) ?_;refine a_z ?_;refine q_c 13 (hA) ?_;refine m_1 ?_;refine aA_ rfl rfl rfl (.bin rfl rfl (vF aU_ (beq_false_of_ne h2))) rfl rfl ?_;refine a_z ?_;exact af_ (t_e (ad_ _));refine⟨false,?_,(fun e=>nomatch e),fun h=>absurd h.1 h1⟩;refine f_c Tryz.func44 ?_;refine r_z 1 ?_;refine r_c 3 (hdg) ?_;refine a_z ?_;refine q_z 13 ?_;exact af_ (t_e (ad_ _))
theorem fs_realI(p:List Rat)(hl:p.length≤7)(hb:bdL p 20):∃b:Bool,FS 160 [.arr (pE p)] (bln b)∧(b=true↔RealV p):=by
 have hd:=jy_ hl;by_cases h1:1≤degP p;have np:nz p:=fun e=>by unfold degP at h1;rw[e] at h1;simp at h1
 obtain⟨c,hc⟩:=CN.ex np hl hb;have hi:=RealV.iff hc h1 (by omega);have hci:=ty_ hc;have hbq:=iw_ hb (by decide);have hbo:=hi_ p;have hm:=bN_ hb (by decide)
 have hC:=lz_ 9 p c (-aN_ p,aN_ p) hc.hc (by omega) (hc.below (by show qs (-aN_ p)≤_;rw[dG_];omega)) (hc.upto (by show qs (aN_ p)≤_;omega)) ⟨by show qs (-aN_ p)≤_;rw[dG_];omega,by show qs (aN_ p)≤_;omega⟩ (by
  show cmpQ (-aN_ p) (aN_ p)≤0;unfold cmpQ;rw[if_pos (by grind)];decide) (by unfold g0_;rw[if_neg (by omega),if_neg (by omega)]) (by omega)
 have:=lh_ p _ (by omega) ⟨h1,by omega⟩ ⟨by omega,by omega⟩ hC;refine⟨_,this,?_⟩;rw[decide_eq_true_eq,hi,fl_ np];exact hci;have:=fs_real0 p (by omega) (.inl (by omega));exact⟨false,this,(fun e=>nomatch e),fun h=>absurd h.1 h1⟩
theorem fs_realT(p:List Rat)(n:Nat)(hp:RealV p)(hd:degP p=(n:Int))(hl:p.length≤6)(hb:bdL p 20):FS 160 [.arr (pE (aG_ p))] (bln true):=by
 obtain⟨c,c1,c2,c3⟩:=hp.mon hd hl hb;have hn1:=hp.1;obtain⟨f1,f2,f3,f4,f5,_⟩:=i1_ (fun e=>by unfold degP at hn1;rw[e] at hn1;simp at hn1) hd hl hb;have hdm:degP (aG_ p)=(n:Int):=by unfold degP;rw[f2,f1];omega
 have hs:=jy_ (p:=p) (by omega);have hbq:=iw_ f4 (by decide);have hbo:=hi_ (aG_ p);have hm:=bN_ f4 (by decide)
 have hC:=lz_ 9 (aG_ p) c (-aN_ (aG_ p),aN_ (aG_ p)) c1 (by omega) (c2 _ (by show qs (-aN_ (aG_ p))≤_;rw[dG_];omega)).2 (c2 _ (by show qs (aN_ (aG_ p))≤_;omega)).1 ⟨by show qs (-aN_ (aG_ p))≤_;rw[dG_];omega,by show qs (aN_ (aG_ p))≤_;omega⟩ (by
  show cmpQ (-aN_ (aG_ p)) (aN_ (aG_ p))≤0;unfold cmpQ;rw[if_pos (by grind)];decide) (by unfold g0_;rw[if_neg (by omega),if_neg (by omega)]) (by omega)
 have:=lh_ (aG_ p) _ (by omega) (by rw[hdm];omega) ⟨by omega,by omega⟩ hC;rw[decide_eq_true c3] at this;exact this
section
variable (m:List Rat)(l r:Bool)(a b:Rat)(ha:sm a)(hb:sm b)(p:List Rat)
include ha hb
theorem fs_OnX(hv:¬okW m l r a b)(hml:m.length≤1000000):FS 60 [.agg (wC m l r (qC a) (qC b)),.arr (pE p)] (.tup [.agg (ruC [] []),i64 2]):=by
 have hck:=jo_ m l r a b hv hml ha hb;have hWc:=a7_ (m:=m) (l:=l) (r:=r) (.inr ⟨a,rfl⟩) (.inr ⟨b,rfl⟩);refine f_c Tryz.func60 ?_;refine r_z 3 ?_;refine aa_ (r_c 3 (hck) ?_);refine a_z ?_;refine ac_ (s_r 3 ?_);refine a_1 ?_;refine o_0 (.bin rfl rfl (vT bd_ (rfl))) ?_;refine a_z ?_;refine cT (r_z 4 ?_);refine af_ (Fin.many ⟨_,_,rfl,⟨_,_,_,_,_,rfl,rfl,rfl,.inl ⟨TG.h,_,TS.h,nle rfl,rfl⟩⟩,⟨_,_,rfl,rfl,rfl⟩⟩ (nle rfl) ?_);exact ag_ (Cv.agg (ag_ (Cv.emp _) (ag_ (Cv.emp _) ao_))) (ag_ (an_ ar_ (ad_ _)) ao_)
theorem fs_OnR(hv:okW m l r a b)(hr:FS 160 [.arr (pE p)] (bln false)):FS 60 [.agg (wC m l r (qC a) (qC b)),.arr (pE p)] (.tup [.agg (ruC [] []),i64 2]):=by
 have hck:=cB_ m l r a b ⟨hv.1,hv.2.1⟩ hv.2.2 ha hb;have hWc:=a7_ (m:=m) (l:=l) (r:=r) (.inr ⟨a,rfl⟩) (.inr ⟨b,rfl⟩);refine f_c Tryz.func60 ?_;refine r_z 3 ?_;refine aa_ (r_c 3 (hck) ?_);refine a_z ?_;refine ac_ (s_r 3 ?_);refine a_1 ?_;refine o_0 (.bin rfl rfl (vF bd_ (rfl))) ?_;refine a_z ?_;refine cF (r_c 4 (hr) ?_);refine a_z ?_;refine cT (r_z 3 ?_);refine af_ (Fin.many ⟨_,_,rfl,⟨_,_,_,_,_,rfl,rfl,rfl,.inl ⟨TG.h,_,TS.h,nle rfl,rfl⟩⟩,⟨_,_,rfl,rfl,rfl⟩⟩ (nle rfl) ?_);exact ag_ (Cv.agg (ag_ (Cv.emp _) (ag_ (Cv.emp _) ao_))) (ag_ (an_ ar_ (ad_ _)) ao_)
theorem fs_OnL(hv:okW m l r a b)(hr:FS 160 [.arr (pE p)] (bln true))(hpl:p.length≤1000)(hlm:(m.length:Int)< degP p):FS 60 [.agg (wC m l r (qC a) (qC b)),.arr (pE p)] (.tup [.agg (ruC [] []),i64 5]):=by
 have hck:=cB_ m l r a b ⟨hv.1,hv.2.1⟩ hv.2.2 ha hb;have hWc:=a7_ (m:=m) (l:=l) (r:=r) (.inr ⟨a,rfl⟩) (.inr ⟨b,rfl⟩);have hdg:=bC_ p (by omega);have hm2:=hv.2.1;refine f_c Tryz.func60 ?_;refine r_z 3 ?_;refine aa_ (r_c 3 (hck) ?_);refine a_z ?_;refine ac_ (s_r 3 ?_);refine a_1 ?_;refine o_0 (.bin rfl rfl (vF bd_ (rfl))) ?_;refine a_z ?_;refine cF (r_c 4 (hr) ?_);refine a_z ?_;refine cF (aa_ (r_d hmix 7 ?_));refine c_s (hdg) ?_;refine d_2 ?_;refine ai_ (n_k ?_);refine cT (r_z 3 ?_);refine af_ (Fin.many ⟨_,_,rfl,⟨_,_,_,_,_,rfl,rfl,rfl,.inl ⟨TG.h,_,TS.h,nle rfl,rfl⟩⟩,⟨_,_,rfl,rfl,rfl⟩⟩ (nle rfl) ?_);exact ag_ (Cv.agg (ag_ (Cv.emp _) (ag_ (Cv.emp _) ao_))) (ag_ (an_ ar_ (ad_ _)) ao_)
end
theorem n0_ (p w m:List Rat) (l r:Bool) (a b:Rat) (v:Nat→Rat) (hbo:FS 162 [.agg (wC m l r (qC a) (qC b)),.agg (ruC p w)] (i64 0))
    (hap:∀k,k< m.length→FS 103 [.agg (ruC p w),.arr (pE (List.replicate k 0++[((1:Int):Rat)]))] (.agg (qC (v k)))) (hml:m.length≤1000) (hm:∀q∈m,sm q) (hv:∀k,k< m.length→sm (v k))
    (heq:∀k,k< m.length→v k=coP m k):
    FS 61 [.agg (wC m l r (qC a) (qC b)),.agg (ruC p w)] (.tup [i64 ((m.length:Int)- 1),bln false,i64 0]):=by
 have hWc:∀c∈wC m l r (qC a) (qC b),Closed c:=a7_ (.inr ⟨a,rfl⟩) (.inr ⟨b,rfl⟩);refine f_n Tryz.func61 ?_ ?_;exact ab_ (au_ hWc) (ab_ (au_ (bn_ p w)) ah_);refine r_z 5 ?_;refine aa_ (r_c 4 (hbo) ?_);refine a_z ?_;refine s_r 2 ?_;refine a_1 ?_;refine o_0 (.bin rfl rfl (vF bd_ (rfl))) ?_;refine ai_ ?_;refine cF (ae_ (aa_ (r_z 4 ?_)));refine aw_ (fun _:Unit=>⟨[(2,.aptr [wC m l r (qC a) (qC b)] 0 0)],[],1,41⟩) (fun _=>True) ?_ ?_
 ·refine ac_ (ap_ (fun k:Nat=>⟨[(2,.aptr [wC m l r (qC a) (qC b)] 0 0),(3,.lptr 1 0 0),(17,.arr (pE m)),(18,i64 m.length),(19,i64 k)],[(1,some ⟨57,2,[ruC p w]⟩)],2,41⟩) (fun k=>m.length- k) (fun k=>k≤m.length) 0 (Nat.zero_le _) ?_ ?_)
  have:=bn_ p w;exact s_f [(1,3)];intro k hk;by_cases hkm:k< m.length;rotate_left;refine q_z 1 ?_;refine aa_ (cF (am_ ⟨(),trivial,?_⟩));refine s_x [] (fun hs=>e_13) (fun hs=>?_)
  ·repeat' (first|exact az_|refine h_c ?_ ?_|exact au_e|refine al_ ?_|exact ao_|refine ag_ ?_ ?_|exact an_ hs (aE_ hWc)|exact au_c)
  have hgm:(pE m)[((k:Nat):Int).toNat]?=some (qC (coP m k)):=bK_ (a9_ (by omega));have hap2:=FSpec.zerosQ (L:=[((1:Int):Rat)]) (hap k hkm) (au_ (bn_ p w));have hcm:=jm_ (v k) (coP m k) (hv k hkm) (h8_ hm k);rw[show cmpQ (v k) (coP m k)=0 by unfold cmpQ;rw[heq k hkm,if_neg (by grind),if_pos rfl]] at hcm;refine q_z 1 ?_;refine aa_ (cT (ae_ (aa_ (ac_ (s_r 6 ?_)))));refine a_1 ?_;refine i_x hgm ?_;refine l_x hgm ?_;refine a_z ?_;refine aa_ (r_d hmix 10 ?_);refine c_s (aV_ 1 (by decide)) ?_;refine a_1 ?_;refine o_2 (.append_l rfl rfl rfl te_55.h rfl rfl rfl rfl rfl d_o (jX_ _) rfl rfl (.lsl rfl (nle rfl)) TZ.h rfl TB.h d_o (by first|(simp[maxLen];done)|(simp[maxLen];omega))) ?_;refine o_1 (.callS1 rfl rfl rfl (.keep (.shut rfl d_n (.nil))) rfl ((FSpec.argE2 hap2 (by rw[List.drop_zero];exact List.take_of_length_le (by simp))))) ?_;refine c_s (hcm) ?_;refine o_0 (.bin rfl rfl (vF bd_ (rfl))) ?_;refine ai_ (n_k ?_);refine cF (ae_ (r_m 2 ?_));refine a_z ?_;refine⟨k+1,by omega,hkm,?_⟩;refine s_x [(1,3)] (fun hs=>e_13) (fun hs=>?_)
  ·repeat' (first|exact az_|refine h_c ?_ ?_|exact al_ (CvL.clo hs (bn_ p w))|exact au_e|refine al_ ?_|exact ao_|refine ag_ ?_ ?_|exact an_ hs (aE_ hWc)|exact au_c)
 rintro _ _;refine r_z 7 ?_;refine af_ (Fin.many ⟨_,_,rfl,rfl,⟨_,_,rfl,rfl,⟨_,_,rfl,rfl,rfl⟩⟩⟩ (nle rfl) ?_);exact CvL.clo ar_ (ab_ (ad_ _) (ab_ (ad_ _) (ab_ (ad_ _) ah_)))
theorem so_(x:LoR)(most:Nat)(hm:most≤14)(hx:okLo x)(w:Wt)(h:ldW x most=some w)(hv:okW w.m w.l w.r w.a w.b):bdL w.m 3000∧w.m.length≤most+1:=by
 unfold ldW at h;split at h;split at h;cases h
 ·rename_i h1 h2
  cases h
  have hn:x.n≤most:=by
   by_cases e:(most:Int)< x.n;exact absurd (.inl e) h2;omega
  have ht:tameB [x.g.1,x.g.2] 2=true:=by
   cases e:tameB [x.g.1,x.g.2] 2 with
   |true=>rfl
   |false=>exact absurd (.inr e) h2
  have okr:okR [x.g.1,x.g.2]:=fun r hr=>by
   simp only[List.mem_cons,List.not_mem_nil,or_false] at hr;rcases hr with rfl|rfl
   exact hx.2.1.1;exact hx.2.1.2
  obtain⟨tb,_⟩:=ny_ ht okr;have qa:qs (nV x.g.1)≤20:=tb _ (by simp[nL]);have qb:qs (nV x.g.2)≤20:=tb _ (by simp[nL]);have hz:∀e:Int,okW (wZt,e).1.m (wZt,e).1.l (wZt,e).1.r (wZt,e).1.a (wZt,e).1.b→bdL (wZt,e).1.m 3000∧(wZt,e).1.m.length≤most+1:=fun e he=>absurd he.1 (show¬1≤(0:Nat) by decide)
  revert hv
  unfold gvW;split;split;split;exact hz 3
  ·rename_i h3
   intro _;have b5:¬bdN x.n:=fun e=>h3 (.inl e);have b6:¬bdP x.p:=fun e=>h3 (.inr (.inl e));have b7:¬bdP x.q:=fun e=>h3 (.inr (.inr e));unfold bdN at b5;unfold bdP at b6 b7;refine⟨j4_ fun k hk=>jc_tame qa qb (by omega) (by omega) (by omega),?_⟩;show(sqL _ _).length≤most+1;rw[d1_];omega
  exact hz 2;split;split;exact hz 3
  ·rename_i h3
   intro _;have b5:¬bdN x.n:=fun e=>h3 (.inl e);have b6:¬bdP x.p:=fun e=>h3 (.inr e);unfold bdN at b5;unfold bdP at b6;refine⟨j4_ fun k hk=>Nat.le_trans (ha_ (n:=x.p.toNat+k) (by omega)) (by decide),?_⟩;show(sqL _ _).length≤most+1;rw[d1_];omega
  split;exact hz 3
  ·rename_i b5
   intro _;unfold bdN at b5;refine⟨j4_ fun k hk=>?_,?_⟩
   have:qs (evW (evK (x.k- 2)) k)≤(k/ 2) * 42+1:=by
    unfold evW;split;exact pD_ _ fun j hj=>m5_ _ _ (by omega);exact Nat.le_trans (by decide:qs 0≤1) (Nat.le_add_left _ _)
   omega;show(sqL _ _).length≤most+1;rw[d1_];omega
 split at h;cases h
 ·rename_i h2
  cases h
  have hl:x.mo.length≤64:=by
   have h1:(nL x.mo).length≤64:=hv.2.1;simpa[nL] using h1
  have ht:tameB x.mo (most+1)=true:=by
   cases e:tameB x.mo (most+1) with
   |true=>rfl
   |false=>exact absurd (.inl ⟨e,hl⟩) h2
  obtain⟨tb,tl⟩:=ny_ ht hx.2.2.2.2.2.1;exact⟨bdL_mono' tb (by decide),tl⟩
section
variable (m:List Rat)(l r:Bool)(a b:Rat)(ha:sm a)(hb:sm b)(hv:okW m l r a b)(hmb:bdL m 3000)(hl:m.length≤16)(n:Int)
include ha hb hv hmb hl
end
end Go.Proofs.YtdjfjpeoddmamaaGreatDoor
