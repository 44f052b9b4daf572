/- Part Z20 of the proof. -/
import Derived.Test.YtdjfjpeoddmamaaGreatDoorZ19
set_option linter.all false
namespace Go.Proofs.YtdjfjpeoddmamaaGreatDoor
open Go.Abs
set_option maxRecDepth 20000
set_option maxHeartbeats 1000000
def vR(x:List RQ):List Rat:=x.map (·.1)
def okX(x:List RQ):Prop:=∀y∈x,rok y
def trimR(x:List RQ):List RQ:=x.take (trimQ (vR x)).length
theorem e7_(x:List RQ):vR (trimR x)=trimQ (vR x):=by
 unfold trimR
 rw[vR,List.map_take]
 exact(fa_ (vR x)).symm
theorem hV_{x:List RQ}(h:okX x):okX (trimR x):=fun y hy=>h y (List.mem_of_mem_take hy)
@[simp] theorem ba_ (x:List RQ):(vR x).length=x.length:=by simp[vR]
def rtmS(x:List RQ):Nat→AState
 |n=>⟨[(0,.arr (rE x)),(3,i64 n)],[],1,23⟩
theorem in_(x:List RQ)(n:Nat):rtmS x n=⟨[(0,.arr (rE x)),(3,i64 n)],[],1,23⟩:=rfl
theorem c9_(x:List RQ)(hl:x.length≤1099511627776):FSpec Tryz.prog 115 [.arr (rE x)] (.arr (rE (trimR x))):=by
 obtain⟨v,hv⟩:∃v,v=vR x:=⟨_,rfl⟩
 have hvl:v.length=x.length:=by rw[hv];simp
 refine f_n Tryz.func115 ?_ ?_
 exact aa_ (aF_ x) ab_
 refine r_z 1 ?_
 refine r_z 3 ?_
 refine a2_ (rtmS x) (fun n=>n≤v.length∧trimQ v=v.take n) ?_ ?_
 refine ah_ (aw_ (rtmS x) (fun n=>n) (fun n=>n≤v.length∧trimQ v=trimQ (v.take n)) v.length ⟨Nat.le_refl _,by rw[List.take_length]⟩ ?_ ?_)
 simp only[in_]
 rw[hvl]
 exact s_e []
 rintro n ⟨hn,ht⟩
 simp only[in_]
 cases n with
 |zero=>
  refine ac_ (s_r 11 ?_)
  refine a_1 ?_
  refine o_0 (.bin rfl rfl (vF dQ_ ((by simp)))) ?_
  refine a_z ?_
  refine cF (av_ ⟨0,⟨Nat.zero_le _,?_⟩,?_⟩)
  rw[ht];rfl
  simp only[in_]
  exact s_e []
 |succ n=>
  obtain⟨y,hy⟩:∃y,x[n]?=some y:=⟨_,List.getElem?_eq_getElem (by omega)⟩
  have hq:v[n]?=some y.1:=by rw[hv,vR,List.getElem?_map,hy];rfl
  have g2:(rE x)[(((n+1:Nat):Int)- 1).toNat]?=some (rC y):=by
   rw[show(((n+1:Nat):Int)- 1).toNat=n by omega];exact ej_ hy
  have hs:trimQ (v.take (n+1))=if y.1=0 then trimQ (v.take n) else v.take (n+1):=by
   rw[cc_ hq,fF_]
  by_cases h0:y.1=0
  refine ac_ (s_r 11 ?_)
  refine d_6 ?_
  first|refine bl_ rfl rfl rfl (.index_l rfl rfl (by omega) (by omega) te_66.h) rfl rfl ?_|refine bl_ rfl rfl rfl (.index_a rfl rfl (by omega) g2 rfl te_66.h) rfl rfl ?_
  first|refine bl_ rfl rfl rfl (.load_l rfl rfl g2 tg_42.h ts_42.h (nle rfl)) rfl rfl ?_|refine bl_ rfl rfl rfl (.load_a rfl g2 tg_42.h ts_42.h (nle rfl)) rfl rfl ?_
  refine c_s (k5_ y) ?_
  refine bl_ rfl rfl rfl (.bin rfl rfl (vT bq_ ((by rw[h0];decide)))) rfl rfl ?_
  refine a_z ?_
  refine cT (ai_ (ah_ (r_m 3 ?_)))
  refine a_z ?_
  refine⟨n,Nat.lt_succ_self n,⟨by omega,?_⟩,?_⟩
  rw[ht,hs,if_pos h0]
  exact s_e []
  have hz:(sgZ y.1.num==(0:Int))=false:=by
   rw[beq_eq_false_iff_ne]
   exact fun e=>h0 (sgZ_num_eq.1 e)
  refine ac_ (s_r 11 ?_)
  refine d_6 ?_
  first|refine bl_ rfl rfl rfl (.index_l rfl rfl (by omega) (by omega) te_66.h) rfl rfl ?_|refine bl_ rfl rfl rfl (.index_a rfl rfl (by omega) g2 rfl te_66.h) rfl rfl ?_
  first|refine bl_ rfl rfl rfl (.load_l rfl rfl g2 tg_42.h ts_42.h (nle rfl)) rfl rfl ?_|refine bl_ rfl rfl rfl (.load_a rfl g2 tg_42.h ts_42.h (nle rfl)) rfl rfl ?_
  refine c_s (k5_ y) ?_
  refine bl_ rfl rfl rfl (.bin rfl rfl (vF bq_ (hz))) rfl rfl ?_
  refine a_z ?_
  refine cF (av_ ⟨n+1,⟨hn,?_⟩,?_⟩)
  rw[ht,hs,if_neg h0]
  simp only[in_]
  exact s_e []
 rintro n ⟨hn,ht⟩
 simp only[in_]
 have hnl:(trimQ v).length=n:=by rw[ht];simp;omega
 have htr:trimR x=x.take n:=by unfold trimR;rw[←hv,hnl]
 cases n with
 |zero=>
  refine s_r 5 ?_
  refine a_2 ?_
  refine o_0 (.sa_h rfl rfl (h:=0) rfl (by simp) te_66.h (kL_ _)) ?_
  refine o_0 (.append0 rfl rfl rfl te_66.h rfl rfl rfl (.arr (es:=[]) (by simp))) ?_
  refine a_z ?_
  refine ag_ ?_
  rw[htr]
  exact Fin.tmpN rfl
 |succ n=>
  obtain⟨X,hX⟩:∃X,X=x.take (n+1):=⟨_,rfl⟩
  have hXl:X.length=n+1:=by rw[hX];simp;omega
  have hXn:rE X≠[]:=fun e=>by have:=congrArg List.length e;simp[hXl] at this
  have e4:(rE x).take (n+1)=rE X:=by rw[rE_take,hX]
  have hXn':(rE x).take (n+1)≠[]:=by rw[e4];exact hXn
  refine s_r 5 ?_
  refine a_2 ?_
  refine o_0 (.sa_h rfl rfl (h:=n+1) rfl (by simp;omega) te_66.h (kL_ _)) ?_
  refine o_1 (.append_e rfl rfl rfl te_66.h rfl rfl rfl (.arr (by rw[e4];exact kL_ _)) (by first|assumption|(simp;done)) tz_42.h rfl tb_42.h d_o (by first|(simp[maxLen];done)|(simp[maxLen];omega))) ?_
  refine a_z ?_
  refine ag_ ?_
  rw[htr,←hX,←e4]
  exact Fin.tmpS rfl rfl rfl rfl (by rw[e4];exact a3_ _)
def oS(t n:Nat)(fr:Fr):List RQ→AState
 |[]=>⟨(t,.emp)::fr,[],1,n⟩
 |y::Y=>⟨(t,.lsl 1 0 (Y.length+1) none 4)::fr,[(1,some ⟨42,4,rE (y::Y)⟩)],2,n⟩
theorem ek_(t n:Nat)(fr:Fr):oS t n fr []=⟨(t,.emp)::fr,[],1,n⟩:=rfl
theorem bS_(t n:Nat)(fr:Fr)(y:RQ)(Y:List RQ):oS t n fr (y::Y)=⟨(t,.lsl 1 0 (Y.length+1) none 4)::fr,[(1,some ⟨42,4,rE (y::Y)⟩)],2,n⟩:=rfl
def rP(v:List Rat):List RQ:=v.map rq
theorem ce_(v:List Rat):okX (rP v):=fun y hy=>by obtain⟨q,_,rfl⟩:=List.mem_map.1 hy;exact bg_ q
theorem vR_rP(v:List Rat):vR (rP v)=v:=by
 unfold vR rP
 rw[List.map_map]
 exact List.map_id' v
@[simp] theorem bn_ (v:List Rat):(rP v).length=v.length:=by simp[rP]
theorem fE_(v:List Rat):trimR (rP v)=rP (trimQ v):=by
 unfold trimR
 rw[vR_rP,rP,←List.map_take,←fa_];rfl
theorem e8_{x:List RQ}{i:Nat}(h:i< x.length):∃y,x[i]?=some y∧y.1=coP (vR x) i:=by
 refine⟨_,List.getElem?_eq_getElem h,?_⟩
 unfold coP vR
 rw[List.getD_eq_getElem?_getD,List.getElem?_map,List.getElem?_eq_getElem h];rfl
theorem vR_bd{x:List RQ}{s:Nat}(h:bdL (vR x) s){y:RQ}{i:Nat}(hy:x[i]?=some y):qs y.1≤s:=h _ (List.mem_map.2 ⟨y,List.mem_of_getElem? hy,rfl⟩)
theorem take_succ'{V:List Rat}{j:Nat}(h:j< V.length):V.take (j+1)=V.take j++[coP V j]:=cc_ (be_ h)
theorem jW_(x:List RQ)(s:Nat)(hx:okX x)(hs:bdL (vR x) s)(hlim:s+64≤1099511627776)(hl:x.length≤1000000):FSpec Tryz.prog 265 [.arr (rE x)] (.arr (rE (rP (ax_ (vR x))))):=by
 obtain⟨V,hV⟩:∃V,V=tabP ((vR x).length- 1) (fun i=>coP (vR x) (i+1) * ((i+1:Nat):Int)):=⟨_,rfl⟩
 refine f_n Tryz.func265 ?_ ?_
 exact aa_ (aF_ x) ab_
 refine r_z 1 ?_
 refine r_z 1 ?_
 refine ac_ (r_z 1 ?_)
 have hVl:V.length=x.length- 1:=by rw[hV];simp
 refine aD_ (fun _:Unit=>oS 3 23 [(0,.arr (rE x))] (rP V)) (fun _=>True) ?_ ?_
 refine ah_ (aw_ (fun j:Nat=>oS 3 23 [(4,i64 ((j+1:Nat):Int)),(0,.arr (rE x))] (rP (V.take j))) (fun j=>V.length- j) (fun j=>j≤V.length) 0 (Nat.zero_le _) ?_ ?_)
 show SEnt _ (oS _ _ _ [])
 rw[ek_]
 exact s_e []
 rintro j hj
 by_cases hlt:j< V.length
 obtain⟨y,hy,hyv⟩:=e8_ (x:=x) (i:=j+1) (by omega)
 have hyb:=vR_bd hs hy
 have hyo:=hx y (List.mem_of_getElem? hy)
 have hgt:(rE x)[((j+1:Nat):Int).toNat]?=some (rC y):=ej_ hy
 obtain⟨c,hc⟩:∃c,c=y.1* ((j+1:Nat):Int):=⟨_,rfl⟩
 have hco:coP V j=c:=by rw[hV,dI_,if_pos (by simp;omega),←hyv,hc]
 have hm:=eV_ y (rq (((j+1:Nat):Int):Rat)) hyo (bg_ _) (by have:=gw_ (j+1) (by omega);show qs y.1+qs (((j+1:Nat):Int):Rat)≤_;omega)
 rw[show y.1* (rq (((j+1:Nat):Int):Rat)).1=c by rw[hc];rfl] at hm
 have htk:=take_succ' hlt
 rw[hco] at htk
 have hrp:rP (V.take (j+1))=rP (V.take j)++[rq c]:=by rw[htk];simp[rP]
 have hQl:(rP (V.take j)).length=j:=by simp;omega
 cases hQ:rP (V.take j) with
 |nil=>
  rw[hQ,List.nil_append] at hrp
  simp only[ek_]
  refine ac_ (q_z 4 ?_)
  refine cT (ai_ (ac_ (ah_ (r_d hmix 11 ?_))))
  refine a_3 ?_
  refine i_x hgt ?_
  refine l_x hgt ?_
  refine c_s (bT_ ((j+1:Nat):Int) (by omega)) ?_
  refine c_s (hm) ?_
  refine a_3 ?_
  refine ak_ (n_k ?_)
  refine r_m 3 ?_
  refine a_z ?_
  refine⟨j+1,by omega,hlt,?_⟩
  rw[hrp,bS_]
  exact s_f [(1,3)]
 |cons q Q=>
  rw[hQ] at hQl
  rw[hQ,List.cons_append] at hrp
  simp at hQl
  simp only[bS_]
  refine ac_ (q_z 4 ?_)
  refine cT (ai_ (ac_ (ah_ (r_d hmix 11 ?_))))
  refine a_3 ?_
  refine i_x hgt ?_
  refine l_x hgt ?_
  refine c_s (bT_ ((j+1:Nat):Int) (by omega)) ?_
  refine c_s (hm) ?_
  refine a_3 ?_
  refine ak_ (n_k ?_)
  refine r_m 3 ?_
  refine a_z ?_
  refine⟨j+1,by omega,hlt,?_⟩
  rw[hrp,bS_]
  have e:rE (q::Q)++[rC (rq c)]=rE (q::(Q++[rq c])):=by simp[rE]
  refine at_ [(1,3)] rfl rfl rfl ?_ (fun hs=>au_f) (fun hs=>?_)
  ·repeat' (first|exact ShrL.nil|refine ShrL.cons rfl rfl rfl rfl (by first|(simp)|rfl|(simp;done)|(simp <;> omega)) ?_)
  ·repeat' (first|exact aq_|refine al_ rfl rfl rfl rfl ?_ ?_)
   all_goals (first|(exact aH_ hs e (a3_ _))|exact au_e)
 have hge:j=V.length:=by omega
 subst hge
 rw[List.take_length]
 cases hQ:rP V with
 |nil=>
  simp only[ek_]
  refine ac_ (q_z 4 ?_)
  refine cF (av_ ⟨(),trivial,?_⟩)
  exact s_e []
 |cons q Q=>
  simp only[bS_]
  refine ac_ (q_z 4 ?_)
  refine cF (av_ ⟨(),trivial,?_⟩)
  exact s_f [(1,3)]
 rintro _ _
 have htr:=c9_ (rP V) (by simp;omega)
 rw[fE_] at htr
 cases hQ:rP V with
 |nil=>
  rw[hQ] at htr
  simp only[ek_]
  refine r_c 3 (htr) ?_
  refine a_z ?_
  refine ag_ (aS_ rfl ?_ ?_)
  rw[hV];rfl
  exact aF_ _
 |cons q Q=>
  rw[hQ] at htr
  simp only[bS_]
  refine s_r 3 ?_
  refine a_1 ?_
  refine o_1 (.callS1 rfl rfl rfl (.shut rfl d_n (.nil)) rfl ((FSpec.argE htr (by rw[List.drop_zero];exact List.take_of_length_le (by simp))))) ?_
  refine a_z ?_
  refine ag_ (aS_ rfl ?_ ?_)
  rw[hV];rfl
  exact aF_ _
theorem eE_(x:List RQ)(k:RQ)(s:Nat)(hx:okX x)(hk:rok k)(hs:bdL (vR x) s)(hlim:s+qs k.1≤1099511627776)(hl:x.length≤1000000):FSpec Tryz.prog 131 [.arr (rE x),.agg (rC k)] (.arr (rE (rP (az_ (vR x) k.1)))):=by
 obtain⟨V,hV⟩:∃V,V=tabP (vR x).length (fun i=>coP (vR x) i* k.1):=⟨_,rfl⟩
 refine f_n Tryz.func131 ?_ ?_
 exact aa_ (aF_ x) (aa_ (a0_ k) ab_)
 have hkc:Closed (.aptr [rC k] 0 0):=am_ (bs_ k)
 refine r_z 2 ?_
 refine AWp.ent (st':=⟨[(3,.aptr [rC k] 0 0),(0,.arr (rE x))],[],1,24⟩) ?_ ?_
 have:=bs_ k
 exact s_f []
 refine r_z 1 ?_
 refine ac_ (r_z 1 ?_)
 have hVl:V.length=x.length:=by rw[hV];simp
 refine aD_ (fun _:Unit=>oS 5 24 [(3,.aptr [rC k] 0 0),(0,.arr (rE x))] (rP V)) (fun _=>True) ?_ ?_
 refine ah_ (aw_ (fun j:Nat=>oS 5 24 [(6,i64 ((j:Nat):Int)),(3,.aptr [rC k] 0 0),(0,.arr (rE x))] (rP (V.take j))) (fun j=>V.length- j) (fun j=>j≤V.length) 0 (Nat.zero_le _) ?_ ?_)
 show SEnt _ (oS _ _ _ [])
 rw[ek_]
 exact s_e []
 rintro j hj
 by_cases hlt:j< V.length
 obtain⟨y,hy,hyv⟩:=e8_ (x:=x) (i:=j) (by omega)
 have hyb:=vR_bd hs hy
 have hyo:=hx y (List.mem_of_getElem? hy)
 have hgt:(rE x)[((j:Nat):Int).toNat]?=some (rC y):=ej_ hy
 obtain⟨c,hc⟩:∃c,c=y.1* k.1:=⟨_,rfl⟩
 have hco:coP V j=c:=by rw[hV,dI_,if_pos (by simp;omega),←hyv,hc]
 have hm:=eV_ y k hyo hk (by omega)
 rw[←hc] at hm
 have htk:=take_succ' hlt
 rw[hco] at htk
 have hrp:rP (V.take (j+1))=rP (V.take j)++[rq c]:=by rw[htk];simp[rP]
 have hQl:(rP (V.take j)).length=j:=by simp;omega
 cases hQ:rP (V.take j) with
 |nil=>
  rw[hQ,List.nil_append] at hrp
  simp only[ek_]
  refine ac_ (q_z 4 ?_)
  refine cT (ai_ (ac_ (ah_ (r_d hmix 10 ?_))))
  refine a_3 ?_
  refine i_x hgt ?_
  refine l_x hgt ?_
  refine c_s (hm) ?_
  refine a_3 ?_
  refine ak_ (n_k ?_)
  refine r_m 3 ?_
  refine a_z ?_
  refine⟨j+1,by omega,hlt,?_⟩
  rw[hrp,bS_]
  exact s_f [(1,5)]
 |cons q Q=>
  rw[hQ] at hQl
  rw[hQ,List.cons_append] at hrp
  simp at hQl
  simp only[bS_]
  refine ac_ (q_z 4 ?_)
  refine cT (ai_ (ac_ (ah_ (r_d hmix 10 ?_))))
  refine a_3 ?_
  refine i_x hgt ?_
  refine l_x hgt ?_
  refine c_s (hm) ?_
  refine a_3 ?_
  refine ak_ (n_k ?_)
  refine r_m 3 ?_
  refine a_z ?_
  refine⟨j+1,by omega,hlt,?_⟩
  rw[hrp,bS_]
  have e:rE (q::Q)++[rC (rq c)]=rE (q::(Q++[rq c])):=by simp[rE]
  refine at_ [(1,5)] rfl rfl rfl ?_ (fun hs=>au_f) (fun hs=>?_)
  ·repeat' (first|exact ShrL.nil|refine ShrL.cons rfl rfl rfl rfl (by first|(simp)|rfl|(simp;done)|(simp <;> omega)) ?_)
  ·repeat' (first|exact aq_|refine al_ rfl rfl rfl rfl ?_ ?_)
   all_goals (first|(exact aH_ hs e (a3_ _))|exact au_e)
 have hge:j=V.length:=by omega
 subst hge
 rw[List.take_length]
 cases hQ:rP V with
 |nil=>
  simp only[ek_]
  refine ac_ (q_z 4 ?_)
  refine cF (av_ ⟨(),trivial,?_⟩)
  exact s_e []
 |cons q Q=>
  simp only[bS_]
  refine ac_ (q_z 4 ?_)
  refine cF (av_ ⟨(),trivial,?_⟩)
  exact s_f [(1,5)]
 rintro _ _
 have htr:=c9_ (rP V) (by simp;omega)
 rw[fE_] at htr
 cases hQ:rP V with
 |nil=>
  rw[hQ] at htr
  simp only[ek_]
  refine r_c 3 (htr) ?_
  refine a_z ?_
  refine ag_ (aS_ rfl ?_ ?_)
  rw[hV];rfl
  exact aF_ _
 |cons q Q=>
  rw[hQ] at htr
  simp only[bS_]
  refine s_r 3 ?_
  refine a_1 ?_
  refine o_1 (.callS1 rfl rfl rfl (.shut rfl d_n (.nil)) rfl ((FSpec.argE htr (by rw[List.drop_zero];exact List.take_of_length_le (by simp))))) ?_
  refine a_z ?_
  refine ag_ (aS_ rfl ?_ ?_)
  rw[hV];rfl
  exact aF_ _
theorem mu_(x:List RQ)(s:Nat)(hx:okX x)(hs:bdL (vR x) s)(hlim:s+64≤1099511627776)(hl:x.length≤1000000):FSpec Tryz.prog 250 [.arr (rE x)] (.arr (rE (rP (aL_ (vR x))))):=by
 obtain⟨V,hV⟩:∃V,V=tabP ((vR x).length+1) (fun i=>if i=0 then 0 else coP (vR x) (i- 1) / ((i:Nat):Int)):=⟨_,rfl⟩
 refine f_n Tryz.func250 ?_ ?_
 exact aa_ (aF_ x) ab_
 have hi0:FSpec Tryz.prog 112 [i64 0] (.agg (rC (rq 0))):=bT_ 0 (by decide)
 refine r_z 1 ?_
 refine r_c 3 (hi0) ?_
 refine a_z ?_
 refine ac_ (r_z 1 ?_)
 have hVl:V.length=x.length+1:=by rw[hV];simp
 refine aD_ (fun _:Unit=>oS 3 26 [(0,.arr (rE x))] (rP V)) (fun _=>True) ?_ ?_
 refine ah_ (aw_ (fun j:Nat=>oS 3 26 [(4,i64 ((j:Nat):Int)),(0,.arr (rE x))] (rP (V.take (j+1)))) (fun j=>x.length- j) (fun j=>j≤x.length) 0 (Nat.zero_le _) ?_ ?_)
 have e0:rP (V.take (0+1))=[rq 0]:=by
  rw[take_succ' (by omega),hV,dI_,if_pos (by simp),if_pos rfl,List.take_zero];rfl
 show SEnt _ (oS _ _ _ (rP (V.take (0+1))))
 rw[e0,bS_]
 exact s_f [(1,3)]
 rintro j hj
 have hQl:(rP (V.take (j+1))).length=j+1:=by simp;omega
 by_cases hlt:j< x.length
 obtain⟨y,hy,hyv⟩:=e8_ (x:=x) (i:=j) hlt
 have hyb:=vR_bd hs hy
 have hyo:=hx y (List.mem_of_getElem? hy)
 have hgt:(rE x)[((j:Nat):Int).toNat]?=some (rC y):=ej_ hy
 obtain⟨c,hc⟩:∃c,c=y.1/ ((j+1:Nat):Int):=⟨_,rfl⟩
 have hco:coP V (j+1)=c:=by
  rw[hV,dI_,if_pos (by simp;omega),if_neg (by omega),hc,hyv];rfl
 have hi1:=bT_ ((j+1:Nat):Int) (by omega)
 have hn:(rq (((j+1:Nat):Int):Rat)).1≠0:=by show(((j+1:Nat):Int):Rat)≠0;exact fun e=>by have:=Rat.intCast_inj.1 (e.trans (by rfl:(0:Rat)=((0:Int):Rat)));omega
 have hm:=gg_ y (rq (((j+1:Nat):Int):Rat)) hyo (bg_ _) hn (by have:=gw_ (j+1) (by omega);show qs y.1+qs (((j+1:Nat):Int):Rat)≤_;omega)
 rw[show y.1/ (rq (((j+1:Nat):Int):Rat)).1=c by rw[hc];rfl] at hm
 have htk:=take_succ' (V:=V) (j:=j+1) (by omega)
 rw[hco] at htk
 have hrp:rP (V.take (j+1+1))=rP (V.take (j+1))++[rq c]:=by rw[htk];simp[rP]
 cases hQ:rP (V.take (j+1)) with
 |nil=>rw[hQ] at hQl;simp at hQl
 |cons q Q=>
  rw[hQ] at hQl
  rw[hQ,List.cons_append] at hrp
  simp at hQl
  simp only[bS_]
  refine ac_ (q_z 4 ?_)
  refine cT (ai_ (ac_ (ah_ (r_d hmix 12 ?_))))
  refine a_3 ?_
  refine i_x hgt ?_
  refine l_x hgt ?_
  refine c_s (hi1) ?_
  refine c_s (hm) ?_
  refine a_3 ?_
  refine ak_ (n_k ?_)
  refine r_m 3 ?_
  refine a_z ?_
  refine⟨j+1,by omega,hlt,?_⟩
  rw[hrp,bS_]
  have e:rE (q::Q)++[rC (rq c)]=rE (q::(Q++[rq c])):=by simp[rE]
  refine at_ [(1,3)] rfl rfl rfl ?_ (fun hs=>au_f) (fun hs=>?_)
  ·repeat' (first|exact ShrL.nil|refine ShrL.cons rfl rfl rfl rfl (by first|(simp)|rfl|(simp;done)|(simp <;> omega)) ?_)
  ·repeat' (first|exact aq_|refine al_ rfl rfl rfl rfl ?_ ?_)
   all_goals (first|(exact aH_ hs e (a3_ _))|exact au_e)
 have hge:V.take (j+1)=V:=List.take_of_length_le (by omega)
 rw[hge]
 cases hQ:rP V with
 |nil=>rw[hge,hQ] at hQl;simp at hQl
 |cons q Q=>
  simp only[bS_]
  refine ac_ (q_z 4 ?_)
  refine cF (av_ ⟨(),trivial,?_⟩)
  exact s_f [(1,3)]
 rintro _ _
 have htr:=c9_ (rP V) (by simp;omega)
 rw[fE_] at htr
 cases hQ:rP V with
 |nil=>have:=congrArg List.length hQ;simp[hVl] at this
 |cons q Q=>
  rw[hQ] at htr
  simp only[bS_]
  refine s_r 3 ?_
  refine a_1 ?_
  refine o_1 (.callS1 rfl rfl rfl (.shut rfl d_n (.nil)) rfl ((FSpec.argE htr (by rw[List.drop_zero];exact List.take_of_length_le (by simp))))) ?_
  refine a_z ?_
  refine ag_ (aS_ rfl ?_ ?_)
  rw[hV];rfl
  exact aF_ _
theorem om_{x:List RQ}{n:Nat}(h:(trimQ (vR x)).length=n+1):∃y,(trimR x)[n]?=some y∧y.1=leadP (vR x)∧y∈x:=by
 have e:=e7_ x
 have g:=bH_ h
 rw[←e,vR,List.getElem?_map] at g
 cases hy:(trimR x)[n]? with
 |none=>rw[hy] at g;cases g
 |some y=>
  rw[hy] at g
  exact⟨y,rfl,Option.some.inj g,List.mem_of_mem_take (List.mem_of_getElem? hy)⟩
@[simp] theorem cs_ (x:List RQ):(trimR x).length=(trimQ (vR x)).length:=by rw[←e7_,ba_]
theorem dp_(x:List RQ)(hl:x.length≤1000000):FSpec Tryz.prog 32 [.arr (rE x)] (i64 (degP (vR x))):=by
 have htl:=aI_ (vR x)
 rw[ba_,←cs_] at htl
 refine f_n Tryz.func32 ?_ ?_
 exact aa_ (aF_ x) ab_
 refine r_z 1 ?_
 refine r_c 5 (c9_ x (by omega)) ?_
 refine a_z ?_
 exact ag_ (aS_ rfl (by rw[cs_];rfl) (ad_ _))
theorem gL_(x:List RQ)(y:RQ)(hl:x.length≤1000000)(hy:(trimR x).getLastD (rq 0)=y):FSpec Tryz.prog 164 [.arr (rE x)] (.agg (rC y)):=by
 have hi0:FSpec Tryz.prog 112 [i64 0] (.agg (rC (rq 0))):=bT_ 0 (by decide)
 have htr:(trimR x).length≤x.length:=by rw[cs_,←ba_ x];exact aI_ _
 refine f_n Tryz.func164 ?_ ?_
 exact aa_ (aF_ x) ab_
 refine r_z 1 ?_
 refine r_c 3 (c9_ x (by omega)) ?_
 refine a_z ?_
 cases hX:trimR x with
 |nil=>
  rw[hX] at hy
  cases hy
  refine ac_ (s_r 3 ?_)
  refine a_2 ?_
  refine o_0 (.bin rfl rfl (vT bq_ (decide_eq_true (by simp)))) ?_
  refine ak_ ?_
  refine cT (r_c 2 (hi0) ?_)
  refine a_z ?_
  exact ag_ (c_e (a0_ (rq 0)))
 |cons a A=>
  rw[hX] at htr
  rw[hX] at hy
  have hg:(rE (a::A))[(((a::A).length:Int)- 1).toNat]?=some (rC y):=by
   refine ej_ ?_
   rw[show(((a::A).length:Int)- 1).toNat=A.length by simp,←hy]
   rw[List.getLastD_eq_getLast?,List.getLast?_eq_getElem?]
   simp
  refine ac_ (s_r 3 ?_)
  refine a_2 ?_
  refine o_0 (.bin rfl rfl (vF bq_ (decide_eq_false (by simp;omega)))) ?_
  refine ak_ ?_
  refine cF (ai_ ?_)
  have hln:(a::A).length=A.length+1:=rfl
  refine s_r 7 ?_
  refine a_4 ?_
  refine i_x hg ?_
  refine l_x hg ?_
  refine a_z ?_
  exact ag_ (c_e (a0_ y))
theorem mv_(q:Rat):FSpec Tryz.prog 249 [.agg (rC (rq q))] (.arr (rE (rP (cU_ q)))):=by
 have htr:=c9_ (rP [q]) (by simp)
 rw[fE_] at htr
 refine f_n Tryz.func249 ?_ ?_
 exact aa_ (a0_ _) ab_
 refine r_z 2 ?_
 refine s_r 4 ?_
 refine a_2 ?_
 refine o_1 (.callS1 rfl rfl rfl (.shut rfl d_n (.nil)) rfl ((FSpec.argE htr (by rw[List.drop_zero];exact List.take_of_length_le (by simp))))) ?_
 refine a_z ?_
 exact ag_ (t_e (aF_ _))
theorem k7_(x y:List RQ)(s t:Nat)(hx:okX x)(hy:okX y)(hs:bdL (vR x) s)(ht:bdL (vR y) t)(hlim:s+t+64≤1099511627776)(hxl:x.length≤1000000)(hyl:y.length≤1000000):FSpec Tryz.prog 209 [.arr (rE x),.arr (rE y)] (.arr (rE (rP (addP (vR x) (vR y))))):=by
 obtain⟨V,hV⟩:∃V,V=tabP (max (vR x).length (vR y).length) (fun i=>coP (vR x) i+coP (vR y) i):=⟨_,rfl⟩
 have hi0:FSpec Tryz.prog 112 [i64 0] (.agg (rC (rq 0))):=bT_ 0 (by decide)
 have q0:qs (rq 0).1≤64:=by decide
 refine f_n Tryz.func209 ?_ ?_
 exact aa_ (aF_ x) (aa_ (aF_ y) ab_)
 refine r_z 1 ?_
 refine r_z 1 ?_
 refine ac_ (r_z 1 ?_)
 have hVl:V.length=max x.length y.length:=by rw[hV];simp
 refine aD_ (fun _:Unit=>oS 5 47 [(0,.arr (rE x)),(1,.arr (rE y))] (rP V)) (fun _=>True) ?_ ?_
 refine ah_ (aw_ (fun j:Nat=>oS 5 47 [(6,i64 ((j:Nat):Int)),(0,.arr (rE x)),(1,.arr (rE y))] (rP (V.take j))) (fun j=>V.length- j) (fun j=>j≤V.length) 0 (Nat.zero_le _) ?_ ?_)
 show SEnt _ (oS _ _ _ [])
 rw[ek_]
 exact s_e []
 rintro j hj
 have hQl:(rP (V.take j)).length=j:=by simp;omega
 by_cases hjx:j< x.length
 by_cases hjy:j< y.length
 obtain⟨a,ha,hav⟩:=e8_ (x:=x) (i:=j) hjx
 have hab:=vR_bd hs ha
 have hao:=hx a (List.mem_of_getElem? ha)
 have hgx:(rE x)[((j:Nat):Int).toNat]?=some (rC a):=ej_ ha
 obtain⟨b,hb,hbv⟩:=e8_ (x:=y) (i:=j) hjy
 have hbb:=vR_bd ht hb
 have hbo:=hy b (List.mem_of_getElem? hb)
 have hgy:(rE y)[((j:Nat):Int).toNat]?=some (rC b):=ej_ hb
 obtain⟨c,hc⟩:∃c,c=a.1+b.1:=⟨_,rfl⟩
 have hco:coP V j=c:=by rw[hV,dI_,if_pos (by simp;omega),←hav,←hbv,hc]
 have m1:=gh_ (rq 0) a (bg_ _) hao (by omega)
 rw[show(rq 0).1+a.1=a.1 from Rat.zero_add _] at m1
 have m2:=gh_ (rq a.1) b (bg_ _) hbo (by show qs a.1+qs b.1≤_;omega)
 rw[show(rq a.1).1+b.1=c by rw[hc];rfl] at m2
 have htk:=take_succ' (V:=V) (j:=j) (by omega)
 rw[hco] at htk
 have hrp:rP (V.take (j+1))=rP (V.take j)++[rq c]:=by rw[htk];simp[rP]
 cases hQ:rP (V.take j) with
 |nil=>
  rw[hQ,List.nil_append] at hrp
  simp only[ek_]
  refine ac_ (q_z 10 ?_)
  refine cT (ai_ (ac_ (ah_ (r_c 3 (hi0) ?_))))
  refine a_z ?_
  refine ac_ (q_z 4 ?_)
  refine cT (r_d hmix 7 ?_)
  refine a_3 ?_
  refine i_x hgx ?_
  refine l_x hgx ?_
  refine c_s (m1) ?_
  refine a_1 ?_
  refine ak_ (n_k ?_)
  refine ac_ (q_z 4 ?_)
  refine cT (r_d hmix 7 ?_)
  refine a_3 ?_
  refine i_x hgy ?_
  refine l_x hgy ?_
  refine c_s (m2) ?_
  refine a_1 ?_
  refine ak_ (n_k ?_)
  refine r_m 5 ?_
  refine a_z ?_
  refine r_m 3 ?_
  refine a_z ?_
  refine⟨j+1,by omega,by omega,?_⟩
  rw[hrp,bS_]
  exact s_f [(1,5)]
 |cons q Q=>
  rw[hQ] at hQl
  rw[hQ,List.cons_append] at hrp
  simp at hQl
  simp only[bS_]
  refine ac_ (q_z 10 ?_)
  refine cT (ai_ (ac_ (ah_ (r_c 3 (hi0) ?_))))
  refine a_z ?_
  refine ac_ (q_z 4 ?_)
  refine cT (r_d hmix 7 ?_)
  refine a_3 ?_
  refine i_x hgx ?_
  refine l_x hgx ?_
  refine c_s (m1) ?_
  refine a_1 ?_
  refine ak_ (n_k ?_)
  refine ac_ (q_z 4 ?_)
  refine cT (r_d hmix 7 ?_)
  refine a_3 ?_
  refine i_x hgy ?_
  refine l_x hgy ?_
  refine c_s (m2) ?_
  refine a_1 ?_
  refine ak_ (n_k ?_)
  refine r_m 5 ?_
  refine a_z ?_
  refine r_m 3 ?_
  refine a_z ?_
  refine⟨j+1,by omega,by omega,?_⟩
  rw[hrp,bS_]
  have e:rE (q::Q)++[rC (rq c)]=rE (q::(Q++[rq c])):=by simp[rE]
  refine at_ [(1,5)] rfl rfl rfl ?_ (fun hs=>au_f) (fun hs=>?_)
  ·repeat' (first|exact ShrL.nil|refine ShrL.cons rfl rfl rfl rfl (by first|(simp)|rfl|(simp;done)|(simp <;> omega)) ?_)
  ·repeat' (first|exact aq_|refine al_ rfl rfl rfl rfl ?_ ?_)
   all_goals (first|(exact aH_ hs e (a3_ _))|exact au_e)
 obtain⟨a,ha,hav⟩:=e8_ (x:=x) (i:=j) hjx
 have hab:=vR_bd hs ha
 have hao:=hx a (List.mem_of_getElem? ha)
 have hgx:(rE x)[((j:Nat):Int).toNat]?=some (rC a):=ej_ ha
 obtain⟨c,hc⟩:∃c,c=a.1:=⟨_,rfl⟩
 have hco:coP V j=c:=by rw[hV,dI_,if_pos (by simp;omega),←hav,cr_ (p:=vR y) (by simp;omega),Rat.add_zero,hc]
 have m1:=gh_ (rq 0) a (bg_ _) hao (by omega)
 rw[show(rq 0).1+a.1=a.1 from Rat.zero_add _] at m1
 rw[←hc] at m1
 have htk:=take_succ' (V:=V) (j:=j) (by omega)
 rw[hco] at htk
 have hrp:rP (V.take (j+1))=rP (V.take j)++[rq c]:=by rw[htk];simp[rP]
 cases hQ:rP (V.take j) with
 |nil=>
  rw[hQ,List.nil_append] at hrp
  simp only[ek_]
  refine ac_ (q_z 10 ?_)
  refine cT (ai_ (ac_ (ah_ (r_c 3 (hi0) ?_))))
  refine a_z ?_
  refine ac_ (q_z 4 ?_)
  refine cT (r_d hmix 7 ?_)
  refine a_3 ?_
  refine i_x hgx ?_
  refine l_x hgx ?_
  refine c_s (m1) ?_
  refine a_1 ?_
  refine ak_ (n_k ?_)
  refine ac_ (q_z 4 ?_)
  refine cF (ai_ (r_m 5 ?_))
  refine a_z ?_
  refine r_m 3 ?_
  refine a_z ?_
  refine⟨j+1,by omega,by omega,?_⟩
  rw[hrp,bS_]
  exact s_f [(1,5)]
 |cons q Q=>
  rw[hQ] at hQl
  rw[hQ,List.cons_append] at hrp
  simp at hQl
  simp only[bS_]
  refine ac_ (q_z 10 ?_)
  refine cT (ai_ (ac_ (ah_ (r_c 3 (hi0) ?_))))
  refine a_z ?_
  refine ac_ (q_z 4 ?_)
  refine cT (r_d hmix 7 ?_)
  refine a_3 ?_
  refine i_x hgx ?_
  refine l_x hgx ?_
  refine c_s (m1) ?_
  refine a_1 ?_
  refine ak_ (n_k ?_)
  refine ac_ (q_z 4 ?_)
  refine cF (ai_ (r_m 5 ?_))
  refine a_z ?_
  refine r_m 3 ?_
  refine a_z ?_
  refine⟨j+1,by omega,by omega,?_⟩
  rw[hrp,bS_]
  have e:rE (q::Q)++[rC (rq c)]=rE (q::(Q++[rq c])):=by simp[rE]
  refine at_ [(1,5)] rfl rfl rfl ?_ (fun hs=>au_f) (fun hs=>?_)
  ·repeat' (first|exact ShrL.nil|refine ShrL.cons rfl rfl rfl rfl (by first|(simp)|rfl|(simp;done)|(simp <;> omega)) ?_)
  ·repeat' (first|exact aq_|refine al_ rfl rfl rfl rfl ?_ ?_)
   all_goals (first|(exact aH_ hs e (a3_ _))|exact au_e)
 by_cases hjy:j< y.length
 obtain⟨b,hb,hbv⟩:=e8_ (x:=y) (i:=j) hjy
 have hbb:=vR_bd ht hb
 have hbo:=hy b (List.mem_of_getElem? hb)
 have hgy:(rE y)[((j:Nat):Int).toNat]?=some (rC b):=ej_ hb
 obtain⟨c,hc⟩:∃c,c=b.1:=⟨_,rfl⟩
 have hco:coP V j=c:=by rw[hV,dI_,if_pos (by simp;omega),cr_ (p:=vR x) (by simp;omega),←hbv,Rat.zero_add,hc]
 have m2:=gh_ (rq 0) b (bg_ _) hbo (by omega)
 rw[show(rq 0).1+b.1=c by rw[hc];exact Rat.zero_add _] at m2
 have htk:=take_succ' (V:=V) (j:=j) (by omega)
 rw[hco] at htk
 have hrp:rP (V.take (j+1))=rP (V.take j)++[rq c]:=by rw[htk];simp[rP]
 cases hQ:rP (V.take j) with
 |nil=>
  rw[hQ,List.nil_append] at hrp
  simp only[ek_]
  refine ac_ (q_z 10 ?_)
  refine cT (ai_ (ac_ (ah_ (r_c 3 (hi0) ?_))))
  refine a_z ?_
  refine ac_ (q_z 4 ?_)
  refine cF (ai_ (ac_ (q_z 4 ?_)))
  refine cT (r_d hmix 7 ?_)
  refine a_3 ?_
  refine i_x hgy ?_
  refine l_x hgy ?_
  refine c_s (m2) ?_
  refine a_1 ?_
  refine ak_ (n_k ?_)
  refine r_m 5 ?_
  refine a_z ?_
  refine r_m 3 ?_
  refine a_z ?_
  refine⟨j+1,by omega,by omega,?_⟩
  rw[hrp,bS_]
  exact s_f [(1,5)]
 |cons q Q=>
  rw[hQ] at hQl
  rw[hQ,List.cons_append] at hrp
  simp at hQl
  simp only[bS_]
  refine ac_ (q_z 10 ?_)
  refine cT (ai_ (ac_ (ah_ (r_c 3 (hi0) ?_))))
  refine a_z ?_
  refine ac_ (q_z 4 ?_)
  refine cF (ai_ (ac_ (q_z 4 ?_)))
  refine cT (r_d hmix 7 ?_)
  refine a_3 ?_
  refine i_x hgy ?_
  refine l_x hgy ?_
  refine c_s (m2) ?_
  refine a_1 ?_
  refine ak_ (n_k ?_)
  refine r_m 5 ?_
  refine a_z ?_
  refine r_m 3 ?_
  refine a_z ?_
  refine⟨j+1,by omega,by omega,?_⟩
  rw[hrp,bS_]
  have e:rE (q::Q)++[rC (rq c)]=rE (q::(Q++[rq c])):=by simp[rE]
  refine at_ [(1,5)] rfl rfl rfl ?_ (fun hs=>au_f) (fun hs=>?_)
  ·repeat' (first|exact ShrL.nil|refine ShrL.cons rfl rfl rfl rfl (by first|(simp)|rfl|(simp;done)|(simp <;> omega)) ?_)
  ·repeat' (first|exact aq_|refine al_ rfl rfl rfl rfl ?_ ?_)
   all_goals (first|(exact aH_ hs e (a3_ _))|exact au_e)
 have hge:V.take j=V:=List.take_of_length_le (by omega)
 rw[hge]
 cases hQ:rP V with
 |nil=>
  simp only[ek_]
  refine ac_ (q_z 10 ?_)
  refine cF (av_ ⟨(),trivial,?_⟩)
  exact s_e []
 |cons q Q=>
  simp only[bS_]
  refine ac_ (q_z 10 ?_)
  refine cF (av_ ⟨(),trivial,?_⟩)
  exact s_f [(1,5)]
 rintro _ _
 have htr:=c9_ (rP V) (by simp;omega)
 rw[fE_] at htr
 cases hQ:rP V with
 |nil=>
  rw[hQ] at htr
  simp only[ek_]
  refine r_c 3 (htr) ?_
  refine a_z ?_
  refine ag_ (aS_ rfl ?_ ?_)
  rw[hV];rfl
  exact aF_ _
 |cons q Q=>
  rw[hQ] at htr
  simp only[bS_]
  refine s_r 3 ?_
  refine a_1 ?_
  refine o_1 (.callS1 rfl rfl rfl (.shut rfl d_n (.nil)) rfl ((FSpec.argE htr (by rw[List.drop_zero];exact List.take_of_length_le (by simp))))) ?_
  refine a_z ?_
  refine ag_ (aS_ rfl ?_ ?_)
  rw[hV];rfl
  exact aF_ _
theorem pV_:rq (((-1:Int)):Rat)=rq (-1):=rfl
theorem fs_rSubP(x y:List RQ)(s t:Nat)(hx:okX x)(hy:okX y)(hs:bdL (vR x) s)(ht:bdL (vR y) t)(ht1:1≤t)(hlim:s+t+128≤1099511627776)(hxl:x.length≤1000000)(hyl:y.length≤1000000):FSpec Tryz.prog 295 [.arr (rE x),.arr (rE y)] (.arr (rE (rP (subP (vR x) (vR y))))):=by
 have h1:=bT_ (-1) (by decide)
 rw[pV_] at h1
 have q1:qs (rq (-1)).1≤64:=by decide
 have h2:=eE_ y (rq (-1)) t hy (bg_ _) ht (by omega) hyl
 have hb:bdL (vR (rP (az_ (vR y) (rq (-1)).1))) t:=by
  rw[vR_rP]
  exact sQ_ ht ht1
 have hlen:(rP (az_ (vR y) (rq (-1)).1)).length≤y.length:=by
  have:=aI_ (tabP (vR y).length fun i=>coP (vR y) i* (rq (-1)).1)
  rw[bn_];unfold az_;simp at this⊢;exact this
 have h3:=k7_ x (rP (az_ (vR y) (rq (-1)).1)) s t hx (ce_ _) hs hb (by omega) hxl (by omega)
 rw[vR_rP] at h3
 refine f_n Tryz.func295 ?_ ?_
 exact aa_ (aF_ x) (aa_ (aF_ y) ab_)
 refine r_z 1 ?_
 refine r_c 6 (h1) ?_
 refine c_s (h2) ?_
 refine c_s (h3) ?_
 refine a_z ?_
 exact ag_ (t_e (aF_ _))
theorem hc_{x y:List RQ}(hx:okX x)(hy:okX y):okX (x++y):=fun z hz=>(List.mem_append.1 hz).elim (hx z) (hy z)
theorem is_(n:Nat):okX (List.replicate n r0):=fun z hz=>by rw[List.eq_of_mem_replicate hz];exact io_
theorem gq_(x y:List RQ):vR (x++y)=vR x++vR y:=by simp[vR]
theorem hN_(n:Nat):vR (List.replicate n r0)=List.replicate n 0:=by simp[vR,r0]
def zR4:List AV:=[i64 0,.emp,i64 0,.emp]
theorem le_zR4:LeL zR4 (rC r0):=by
 rw[show rC r0=[i64 0,.arr [],i64 0,.arr []] from rC_r0]
 exact .cons (.refl _) (.cons .emp (.cons (.refl _) (.cons .emp .nil)))
theorem bL_:∀c∈zR4,Closed c:=aa_ (ad_ _) (aa_ bQ_ (aa_ (ad_ _) (aa_ bQ_ ab_)))
theorem jP_(L:List RQ):∀n,LeLL (List.replicate n zR4++rE L) (rE (List.replicate n r0++L))
 |0=>LeLL.refl _
 |n+1=> .cons le_zR4 (jP_ L n)
theorem m8_(n:Nat)(L:List RQ):Closed (.arr (List.replicate n zR4++rE L)):=aU_ fun c hc=>(List.mem_append.1 hc).elim (fun h=>by rw[List.eq_of_mem_replicate h];exact bL_) (a3_ L c)
theorem FSpec.zerosR{P:Program}{f n:Nat}{L:List RQ}{a r:AV}(h:FSpec P f [a,.arr (rE (List.replicate n r0++L))] r)(ha:Closed a):FSpec P f [a,.arr (List.replicate n zR4++rE L)] r:=
 h.weak (.cons (Le.refl _) (.cons (Le.arr (jP_ L n)) .nil)) (aa_ ha (aa_ (m8_ n L) ab_))
theorem no_(n:Nat):(List.replicate n zR4).all (·.all AV.one)=true:=by
 simp only[List.all_replicate]
 cases n <;> rfl
theorem h1_(x y:List RQ)(s t B:Nat)(hx:okX x)(hy:okX y)(hs:bdL (vR x) s)(ht:bdL (vR y) t)(hs1:1≤s)(hB:∀n,n≤y.length→bdL (mR (vR x) (vR y) n) B)(hlim:s+t+B+64≤1099511627776)(hxl:x.length≤100000)(hyl:y.length≤100000):FSpec Tryz.prog 130 [.arr (rE x),.arr (rE y)] (.arr (rE (rP (mulP (vR x) (vR y))))):=by
 obtain⟨m,hm⟩:∃m,m=mR (vR x) (vR y):=⟨_,rfl⟩
 rw[←hm] at hB
 refine f_n Tryz.func130 ?_ ?_
 exact aa_ (aF_ x) (aa_ (aF_ y) ab_)
 refine r_z 1 ?_
 refine r_z 1 ?_
 refine ac_ (r_z 1 ?_)
 refine aD_ (fun _:Unit=>⟨[(5,.arr (rE (rP (m y.length)))),(0,.arr (rE x)),(1,.arr (rE y))],[],1,25⟩) (fun _=>True) ?_ ?_
 refine ah_ (aw_ (fun j:Nat=>⟨[(6,i64 ((j:Nat):Int)),(5,.arr (rE (rP (m j)))),(0,.arr (rE x)),(1,.arr (rE y))],[],1,25⟩) (fun j=>y.length- j) (fun j=>j≤y.length) 0 (Nat.zero_le _) ?_ ?_)
 rw[hm]
 exact s_e []
 rintro j hj
 by_cases hlt:j< y.length
 ·obtain⟨b,hb,hbv⟩:=e8_ (x:=y) (i:=j) hlt
  have hbb:=vR_bd ht hb
  have hbo:=hy b (List.mem_of_getElem? hb)
  have hgt:(rE y)[((j:Nat):Int).toNat]?=some (rC b):=ej_ hb
  have h1:=eE_ x b s hx hbo hs (by omega) (by omega)
  have hl1:=oR_ (vR x) (vR y) j
  rw[←hm,ba_] at hl1
  have hl2:=bK_ (vR x) b.1
  rw[ba_] at hl2
  have hz:bdL (vR (List.replicate j r0++rP (az_ (vR x) b.1))) (s+qs b.1):=by
   rw[gq_,hN_,vR_rP]
   intro q hq
   rcases List.mem_append.1 hq with h|h
   rw[List.eq_of_mem_replicate h]
   have:qs 0=1:=by decide
   omega
   exact ht_ hs hs1 q h
  have h2:=k7_ (rP (m j)) (List.replicate j r0++rP (az_ (vR x) b.1)) B (s+qs b.1) (ce_ _) (hc_ (is_ _) (ce_ _)) (by rw[vR_rP];exact hB j (by omega)) hz (by omega) (by rw[bn_];omega) (by rw[List.length_append,List.length_replicate,bn_];omega)
  have hnx:addP (vR (rP (m j))) (vR (List.replicate j r0++rP (az_ (vR x) b.1)))=m (j+1):=by
   rw[vR_rP,gq_,hN_,vR_rP,hm,mR,←hbv];rfl
  rw[hnx] at h2
  refine ac_ (q_z 4 ?_)
  refine cT (ai_ (ac_ (ah_ ?_)))
  have h3:=FSpec.zerosR h2 (aF_ _)
  refine r_d hmix 12 ?_
  refine a_6 ?_
  refine i_x hgt ?_
  refine l_x hgt ?_
  refine c_s (h1) ?_
  refine o_2 (.append_l rfl rfl rfl te_66.h rfl rfl rfl rfl rfl d_o (no_ _) (c7_ _) rfl (.arr (kL_ _)) tz_42.h rfl tb_42.h d_o (by first|(simp[maxLen];done)|(simp[maxLen];omega))) ?_
  refine o_1 (.callS1 rfl rfl rfl (.keep (.shut rfl d_n (.nil))) rfl ((FSpec.argE2 h3 (by rw[List.drop_zero];exact List.take_of_length_le (by simp))))) ?_
  refine a_1 ?_
  refine ak_ (n_k ?_)
  refine r_m 3 ?_
  refine a_z ?_
  refine⟨j+1,by omega,hlt,?_⟩
  exact s_e []
 have hge:j=y.length:=by omega
 subst hge
 refine ac_ (q_z 4 ?_)
 refine cF (av_ ⟨(),trivial,?_⟩)
 exact s_e []
 rintro _ _
 refine r_z 2 ?_
 refine ag_ ?_
 have e:m y.length=mulP (vR x) (vR y):=by rw[hm,←jO_,ba_]
 rw[e]
 exact t_e (aF_ _)
def dSt(d:List Rat)(s:List Rat×List RQ):List Rat×List RQ:=
 (addP s.1 (shP ((vR s.2).length- d.length) [leadP (vR s.2) / leadP d]),rP (subP (vR s.2) (mulP d (shP ((vR s.2).length- d.length) [leadP (vR s.2) / leadP d]))))
def dRn(d:List Rat):Nat→List Rat×List RQ→List Rat×List RQ
 |0,s=>s
 |n+1,s=>if d.length≤s.2.length then dRn d n (dSt d s) else s
structure DInv (p d:List Rat)(t L:Nat)(s:List Rat×List RQ):Prop where
 ok:okX s.2
 tr:trimQ (vR s.2)=vR s.2
 bd:∃b,1≤b∧bdL (vR s.2) b∧bdL s.1 b∧(b+2* t+3) * 2^ s.2.length≤L
 ln:s.2.length≤p.length
 lq:s.1.length≤p.length
 ev:∀x,evalP p x=evalP s.1 x* evalP d x+evalP (vR s.2) x
theorem DInv.step{p d:List Rat}{t L:Nat}{s:List Rat×List RQ}(h:DInv p d t L s)(hd:trimQ d=d)(hd0:d≠[])(hdt:bdL d t)(ht:1≤t)(hl:d.length≤s.2.length):DInv p d t L (dSt d s)∧(dSt d s).2.length< s.2.length:=by
 obtain⟨q,X⟩:=s
 obtain⟨ok,tr,⟨b,b1,bx,bq,hb⟩,ln,lq,ev⟩:=h
 simp only at *
 have hdl:=List.length_pos_iff.2 hd0
 have hlt:=step_len tr hd hd0 (by rw[ba_];exact hl)
 obtain⟨s1,s2,s3⟩:=qA_ bx hdt b1 ht hd0 ((vR X).length- d.length)
 obtain⟨a,ha⟩:∃a,a=leadP (vR X) / leadP d:=⟨_,rfl⟩
 unfold dSt
 simp only
 rw[ba_] at hlt s2 s3⊢
 rw[←ha] at hlt s1 s2 s3⊢
 refine⟨⟨ce_ _,?_,⟨2* b+2* t+3,by omega,?_,?_,?_⟩,?_,?_,?_⟩,?_⟩
 rw[vR_rP];exact qs_ _ _
 rw[vR_rP];exact s3
 have h1:bdL [a] (b+t):=fun x hx=>by rw[List.mem_singleton.1 hx];exact s1
 exact cN_ (pK_ bq (sP_ h1 (by omega) _) b1 (by omega)) (by omega)
 simp only[bn_]
 obtain⟨n,hn⟩:∃n,X.length=n+1:=⟨X.length- 1,by omega⟩
 have h1:2^ (subP (vR X) (mulP d (shP (X.length- d.length) [a]))).length≤2^ n:=Nat.pow_le_pow_right (by decide) (by omega)
 have h2:=Nat.mul_le_mul_left (2* b+2* t+3+2* t+3) h1
 have h3:(b+2* t+3) * 2^ X.length=(2* b+2* t+3+2* t+3) * 2^ n:=by
  rw[hn,Nat.pow_succ,show 2* b+2* t+3+2* t+3=(b+2* t+3) * 2 by omega,Nat.mul_assoc,Nat.mul_comm 2 (2^ n)]
 omega
 simp only[bn_];omega
 have h1:=g5_ q (shP (X.length- d.length) [a])
 rw[di_] at h1
 simp at h1⊢;omega
 intro x
 rw[vR_rP,bm_,ar_,bi_,ev x]
 grind
 simp only[bn_];exact hlt
theorem DInv.run{p d:List Rat}{t L:Nat}(hd:trimQ d=d)(hd0:d≠[])(hdt:bdL d t)(ht:1≤t):∀n s,DInv p d t L s→s.2.length≤n→DInv p d t L (dRn d n s)∧(dRn d n s).2.length< d.length
 |0,s,h,hn=>by
  have:=List.length_pos_iff.2 hd0
  exact⟨h,by unfold dRn;omega⟩
 |n+1,s,h,hn=>by
  unfold dRn
  by_cases hl:d.length≤s.2.length
  rw[if_pos hl]
  obtain⟨h1,h2⟩:=h.step hd hd0 hdt ht hl
  exact DInv.run hd hd0 hdt ht n _ h1 (by omega)
  rw[if_neg hl]
  exact⟨h,by omega⟩
theorem hP_{x:List RQ}(h:trimQ (vR x)=vR x):trimR x=x:=by
 unfold trimR
 rw[h,ba_,List.take_length]
theorem iK_{x:List RQ}(h:trimQ (vR x)=vR x)(hx:x≠[]):∃y,x.getLastD (rq 0)=y∧y.1=leadP (vR x)∧y∈x:=by
 obtain⟨n,hn⟩:∃n,x.length=n+1:=⟨x.length- 1,by have:=List.length_pos_iff.2 hx;omega⟩
 obtain⟨y,h1,h2,h3⟩:=om_ (x:=x) (n:=n) (by rw[h,ba_];exact hn)
 rw[hP_ h] at h1
 refine⟨y,?_,h2,h3⟩
 rw[List.getLastD_eq_getLast?,List.getLast?_eq_getElem?,hn,Nat.add_sub_cancel,h1];rfl
theorem CvLL.zerosR{r:Ren}{hp hp':Nat→Option ABlk}(h:Shr r hp hp')(L:List RQ):∀n,CvLL r hp hp' (List.replicate n zR4++rE L) (rE (List.replicate n r0++L))
 |0=>aO_ h (a3_ L)
 |n+1=>by
  refine CvLL.cons (ys:=rE (List.replicate n r0++L)) ?_ (CvLL.zerosR h L n)
  show CvL r hp hp' zR4 (rC r0)
  rw[rC_r0]
  exact af_ (an_ h (ad_ _)) (af_ (Cv.emp _) (af_ (an_ h (ad_ _)) (af_ (Cv.emp _) ap_)))
theorem Cv.shutZ{r:Ren}{hp hp':Nat→Option ABlk}{id sz n k:Nat}{cap:Option Nat}{c:Rat}{B:ABlk}(h:Shr r hp hp')(hi:cellF hp id=some B)(hi':Dead r hp' id)(he:B.es=List.replicate k zR4++[rC (rq c)])(hn:n=k+1):Cv r hp hp' (.lsl id 0 n cap sz) (.arr (rE (List.replicate k r0++[rq c]))):=by
 subst hn
 refine Cv.shut h hi hi' (by rw[he];simp) ?_
 rw[he,List.drop_zero,List.take_of_length_le (by simp)]
 exact CvLL.zerosR h [rq c] k
theorem hh_(x y:List RQ)(s t:Nat)(hx:okX x)(hy:okX y)(hs:bdL (vR x) s)(ht:bdL (vR y) t)(hs1:1≤s)(ht1:1≤t)(hy0:nz (vR y))(hlim:(s+2* t+3) * 2^ x.length≤274877906944)(hxl:x.length≤50000)(hyl:y.length≤50000):
    ∃(u:List Rat) (v:List RQ),okX v∧trimQ u=(divP (vR x) (vR y)).1∧trimQ (vR v)=(divP (vR x) (vR y)).2∧u.length≤x.length∧v.length≤x.length∧FSpec Tryz.prog 263 [.arr (rE x),.arr (rE y)] (.tup [.arr (rE (rP u)),.arr (rE v)]):=by
 obtain⟨d,hd⟩:∃d,d=vR (trimR y):=⟨_,rfl⟩
 have hd':d=trimQ (vR y):=hd.trans (e7_ y)
 have hdd:trimQ d=d:=by rw[hd'];exact aN_ _
 have hd0:d≠[]:=by rw[hd'];exact hy0
 have hdt:bdL d t:=by rw[hd'];exact g3_ ht
 have hdl:d.length=(trimR y).length:=by rw[hd,ba_]
 have hyt:(trimR y).length≤y.length:=by rw[cs_,←ba_ y];exact aI_ _
 have hxt:(trimR x).length≤x.length:=by rw[cs_,←ba_ x];exact aI_ _
 have hoy:=hV_ hy
 have hty:trimQ (vR (trimR y))=vR (trimR y):=by rw[←hd];exact hdd
 have i0:DInv (vR x) d t 274877906944 ([],trimR x):=by
  refine⟨hV_ hx,by rw[e7_];exact aN_ _,⟨s,hs1,by rw[e7_];exact g3_ hs,(fun _ h=>by cases h),?_⟩,by rw[ba_];exact hxt,Nat.zero_le _,fun z=>by rw[e7_,bh_,aG_];grind⟩
  exact Nat.le_trans (Nat.mul_le_mul_left _ (Nat.pow_le_pow_right (by decide) hxt)) hlim
 obtain⟨⟨u,v⟩,hr⟩:∃r,r=dRn d x.length ([],trimR x):=⟨_,rfl⟩
 obtain⟨hi,hlt⟩:=DInv.run hdd hd0 hdt ht1 x.length ([],trimR x) i0 hxt
 rw[←hr] at hi hlt
 have hu:=div_uniq (p:=vR x) (q:=vR y) (u:=u) (v:=vR v) hy0 (fun z=>by rw[hi.ev z,hd',bh_]) (by rw[hi.tr,ba_,←hd'];exact hlt)
 refine⟨u,v,hi.ok,hu.1,hu.2,by have:=hi.lq;rwa[ba_] at this,by have:=hi.ln;rwa[ba_] at this,?_⟩
 have hyn:trimR y≠[]:=fun e=>hd0 (by rw[hd,e];rfl)
 obtain⟨b,hb,hbl,hbm⟩:=iK_ hty hyn
 have hld:leadP d≠0:=bF_ (by rw[hdd];exact hd0)
 rw[←hd] at hbl
 have hbt:qs b.1≤t:=hdt _ (by rw[hd];exact List.mem_map.2 ⟨b,hbm,rfl⟩)
 refine f_n Tryz.func263 ?_ ?_
 exact aa_ (aF_ x) (aa_ (aF_ y) ab_)
 refine r_z 2 ?_
 refine r_c 6 (c9_ x (by omega)) ?_
 refine c_s (c9_ y (by omega)) ?_
 refine a_z ?_
 refine r_z 1 ?_
 have hlb:=gL_ (trimR y) b (by omega) (by rw[hP_ hty];exact hb)
 refine ac_ (aD_ (fun _:Unit=>⟨[(0,.arr (rE v)),(6,.arr (rE (rP u)))],[],1,40⟩) (fun _=>True) ?_ ?_)
 refine ah_ (aw_ (fun s:List Rat×List RQ=>⟨[(0,.arr (rE s.2)),(1,.arr (rE (trimR y))),(6,.arr (rE (rP s.1)))],[],1,40⟩) (fun s=>s.2.length) (fun s=>DInv (vR x) d t 274877906944 s∧∃n,s.2.length≤n∧dRn d n s=(u,v)) ([],trimR x) ⟨i0,x.length,hxt,hr.symm⟩ ?_ ?_)
 exact s_e []
 rintro⟨q,X⟩ ⟨hI,n,hn,hrn⟩
 have hI0:=hI
 obtain⟨ok,tr,⟨w,w1,wx,wq,hw⟩,ln,lq,ev⟩:=hI
 simp only at *
 rw[ba_] at ln lq
 by_cases hle:(trimR y).length≤X.length
 ·have hstep:=hI0.step hdd hd0 hdt ht1 (by simp only;omega)
  have hXn:X≠[]:=fun e=>by
   have:=List.length_pos_iff.2 hyn
   rw[e] at hle
   have h0:([]:List RQ).length=0:=rfl
   omega
  have hX1:=List.length_pos_iff.2 hXn
  obtain⟨a,hal,hav,ham⟩:=iK_ tr hXn
  have hao:=ok a ham
  have hab:qs a.1≤w:=wx _ (List.mem_map.2 ⟨a,ham,rfl⟩)
  have hla:=gL_ X a (by omega) (by rw[hP_ tr];exact hal)
  have hwL:2* (w+2* t+3)≤274877906944:=by
   have h1:2^ 1≤2^ X.length:=Nat.pow_le_pow_right (by decide) hX1
   have h2:=Nat.mul_le_mul_left (w+2* t+3) h1
   omega
  have hdv:=gg_ a b hao (hoy b hbm) (by rw[hbl];exact hld) (by omega)
  obtain⟨k,hk⟩:∃k,k=X.length- (trimR y).length:=⟨_,rfl⟩
  obtain⟨c,hc⟩:∃c,c=a.1/ b.1:=⟨_,rfl⟩
  rw[←hc] at hdv
  have hck:c=leadP (vR X) / leadP d:=by rw[hc,hav,hbl]
  obtain⟨s1,s2,s3⟩:=qA_ wx hdt w1 ht1 hd0 k
  rw[←hck] at s1 s2 s3
  have hcb:bdL [c] (w+t):=fun z hz=>by rw[List.mem_singleton.1 hz];exact s1
  have hT:vR (List.replicate k r0++[rq c])=shP k [c]:=by rw[gq_,hN_];rfl
  have hTo:okX (List.replicate k r0++[rq c]):=hc_ (is_ _) (fun z hz=>by rw[List.mem_singleton.1 hz];exact bg_ _)
  have hTb:bdL (vR (List.replicate k r0++[rq c])) (w+t):=by rw[hT];exact sP_ hcb (by omega) _
  have hTl:(List.replicate k r0++[rq c]).length=k+1:=by simp
  have hA:=k7_ (rP q) (List.replicate k r0++[rq c]) w (w+t) (ce_ _) hTo (by rw[vR_rP];exact wq) hTb (by omega) (by rw[bn_];omega) (by omega)
  rw[vR_rP,hT] at hA
  have hM:=h1_ (trimR y) (List.replicate k r0++[rq c]) t (w+t) (t+(w+t)+2) hoy hTo (by rw[←hd];exact hdt) hTb ht1 (fun i hi=>by
   rw[←hd,hT]
   exact cN_ (fL_ hdt ht1 i (by omega)) (by omega)) (by omega) (by omega) (by omega)
  rw[←hd,hT] at hM
  have hS:=fs_rSubP X (rP (mulP d (shP k [c]))) w (2* t+w+2) ok (ce_ _) wx (by rw[vR_rP];exact s2) (by omega) (by omega) (by omega) (by
   have h9:=oR_ d (shP k [c]) (shP k [c]).length
   rw[jO_,di_] at h9
   simp at h9⊢;omega)
  rw[vR_rP] at hS
  have hnext:dSt d (q,X)=(addP q (shP k [c]),rP (subP (vR X) (mulP d (shP k [c])))):=by
   unfold dSt;simp only;rw[ba_,hdl,←hk,←hck]
  have hsub:((X.length:Nat):Int)- ((trimR y).length:Nat)=(k:Int):=by omega
  refine ac_ (q_z 5 ?_)
  refine cT (ai_ (ah_ (ac_ (r_d hmix 14 ?_))))
  refine a_5 ?_
  refine o_1 (.makeSlice (l:=k) (c:=k) (by rw[←hsub];rfl) (by rw[←hsub];rfl) te_66.h tz_42.h rfl tb_42.h (by first|omega|(simp;done)|(simp;omega)) (by first|omega|(simp;done)|(simp;omega)) (by unfold maxLen;first|omega|(simp;done)|(simp;omega))) ?_
  refine c_s (hla) ?_
  refine c_s (hlb) ?_
  refine c_s (hdv) ?_
  refine a_1 ?_
  refine o_2 (.append_l rfl rfl rfl te_66.h rfl rfl rfl rfl rfl d_o (no_ _) rfl rfl (.lsl rfl (nle rfl)) tz_42.h rfl tb_42.h d_o (by first|(simp[maxLen];done)|(simp[maxLen];omega))) ?_
  refine a_1 ?_
  refine ak_ (n_k ?_)
  refine AWp.ent (st':=⟨[(0,.arr (rE X)),(1,.arr (rE (trimR y))),(6,.arr (rE (rP q))),(7,.arr (rE (List.replicate k r0++[rq c])))],[],1,40⟩) ?_ ?_
  refine at_ [] rfl rfl rfl au_r (fun hs=>?_) (fun hs=>?_)
  ·repeat' (first|exact aK_|refine aE_ rfl ?_ ?_)
   all_goals (first|(exact Cv.shutZ hs rfl (aQ_ rfl) rfl rfl)|exact au_c)
  ·repeat' (first|exact aq_|refine al_ rfl rfl rfl rfl ?_ ?_)
   all_goals (first|exact au_e|(refine ae_ ?_;repeat' (first|exact ap_|refine af_ ?_ ?_)))
   all_goals (first|(exact Cv.shutZ hs rfl (aQ_ rfl) rfl rfl)|exact au_c)
  refine r_c 4 (hA) ?_
  refine a_z ?_
  refine r_m 6 ?_
  refine c_s (hM) ?_
  refine c_s (hS) ?_
  refine a_z ?_
  refine⟨dSt d (q,X),hstep.2,⟨hstep.1,?_⟩,?_⟩
  cases n with
  |zero=>omega
  |succ n=>
   refine⟨n,by have:=hstep.2;simp only at this;omega,?_⟩
   rw[dRn,if_pos (by simp only;omega)] at hrn
   exact hrn
  rw[hnext]
  exact s_e []
 have hfin:(q,X)=(u,v):=by
  rw[←hrn]
  cases n with
  |zero=>rfl
  |succ n=>rw[dRn,if_neg (by simp only;omega)]
 cases hfin
 refine ac_ (q_z 5 ?_)
 refine cF (av_ ⟨(),trivial,?_⟩)
 exact s_e []
 rintro _ _
 refine r_z 4 ?_
 refine ag_ (Fin.many ⟨_,_,rfl,rfl,⟨_,_,rfl,rfl,rfl⟩⟩ (nle rfl) ?_)
 exact af_ (an_ au_ (aF_ _)) (af_ (an_ au_ (aF_ _)) ap_)
theorem iU_(x:List RQ)(L:Nat)(hx:okX x)(hs:bdL (vR x) L)(hL:1≤L)(hlim:2* L+64≤1099511627776)(hl:x.length≤1000000):FSpec Tryz.prog 134 [.arr (rE x)] (.arr (rE (rP (a6_ (vR x))))):=by
 have hi1:FSpec Tryz.prog 112 [i64 1] (.agg (rC (rq 1))):=bT_ 1 (by decide)
 refine f_n Tryz.func134 ?_ ?_
 exact aa_ (aF_ x) ab_
 refine r_z 1 ?_
 refine ac_ (r_c 3 (dp_ x (by omega)) ?_)
 refine a_z ?_
 refine aj_ rfl (fun h1=>?_) (fun h1=>?_)
 have e:trimQ (vR x)=[]:=degP_neg.1 (by simpa using h1)
 have em:a6_ (vR x)=[]:=by unfold a6_;rw[if_pos e]
 refine r_z 1 ?_
 refine ag_ ?_
 rw[em]
 exact Fin.tmpN rfl
 have hz:nz (vR x):=fun e=>by have:=degP_neg.2 e;simp at h1;omega
 obtain⟨n,hn⟩:∃n,(trimQ (vR x)).length=n+1:=⟨(trimQ (vR x)).length- 1,by have:=List.length_pos_iff.2 hz;omega⟩
 obtain⟨y,y1,y2,y3⟩:=om_ hn
 have yx:y∈x:=y3
 have yo:rok y:=hx y yx
 have yq:qs y.1≤L:=by rw[y2];exact hg_ hs hL
 have y0:y.1≠0:=by rw[y2];exact bF_ hz
 have hy:(trimR x).getLastD (rq 0)=y:=by
  rw[List.getLastD_eq_getLast?,List.getLast?_eq_getElem?,cs_,hn,Nat.add_sub_cancel,y1];rfl
 have hdv:=gg_ (rq 1) y (bg_ 1) yo y0 (by have:qs ((rq 1).1)=1:=jH_
                                          omega)
 have hk:qs (1/ y.1)≤1+L:=Nat.le_trans (c8_ _ _) (by have:=jH_;omega)
 have hsc:=eE_ x (rq (1/ y.1)) L hx (bg_ _) hs (by show L+qs (1/ y.1)≤_;omega) hl
 have em:a6_ (vR x)=az_ (vR x) (1/ y.1):=by unfold a6_;rw[if_neg hz,y2]
 refine ai_ (r_c 7 (hi1) ?_)
 refine c_s (gL_ x y hl hy) ?_
 refine c_s (hdv) ?_
 refine c_s (hsc) ?_
 refine a_z ?_
 refine ag_ ?_
 rw[em]
 exact t_e (aF_ _)
def gR:List RQ×List RQ→AState
 |(x,y)=>⟨[(0,.arr (rE x)),(1,.arr (rE y))],[],1,21⟩
theorem gR_mk(x:List RQ)(y:List RQ):gR (x,y)=⟨[(0,.arr (rE x)),(1,.arr (rE y))],[],1,21⟩:=rfl
theorem fs_rGcd(f B:Nat)(x y:List RQ)(g:List Rat)(hx:okX x)(hy:okX y)(hz:gsz f (vR x) (vR y) B)(hg:gcdM f (vR x) (vR y)=some g)(hB:1≤B)(hlim:(3* B+3) * 256≤274877906944)(hxl:x.length≤8)(hyl:y.length≤8):
    FSpec Tryz.prog 264 [.arr (rE x),.arr (rE y)] (.arr (rE (rP g))):=by
 refine f_n Tryz.func264 ?_ ?_
 exact aa_ (aF_ x) (aa_ (aF_ y) ab_)
 refine r_z 1 ?_
 refine ac_ (aD_ (fun p:List RQ=>⟨[(0,.arr (rE p))],[],1,21⟩) (fun p=>okX p∧bdL (vR p) B∧p.length≤8∧a6_ (vR p)=g) ?_ ?_)
 refine ah_ (aw_ (fun s:Nat×List RQ×List RQ=>gR (s.2.1,s.2.2)) (fun s=>s.1) (fun s=>okX s.2.1∧okX s.2.2∧gsz s.1 (vR s.2.1) (vR s.2.2) B∧gcdM s.1 (vR s.2.1) (vR s.2.2)=some g∧s.2.1.length≤8∧s.2.2.length≤8) (f,x,y) ⟨hx,hy,hz,hg,hxl,hyl⟩ ?_ ?_)
 simp only[gR_mk]
 exact s_e []
 rintro⟨f,x,y⟩ ⟨hx,hy,hz,hg,hxl,hyl⟩
 simp only at hx hy hz hg hxl hyl
 simp only[gR_mk]
 cases f with
 |zero=>cases hg
 |succ f=>
  rw[gcdM] at hg
  obtain⟨hbx,hz⟩:=hz
  refine ac_ (r_c 3 (dp_ y (by omega)) ?_)
  refine a_z ?_
  refine aj_ rfl (fun h1=>?_) (fun h1=>?_)
  ·have hn:nz (vR y):=fun e=>by have:=degP_neg.2 e;simp at h1;omega
   obtain⟨hby,hz⟩:=hz hn
   rw[if_neg hn] at hg
   split at hg
   case isFalse=>cases hg
   case isTrue hok=>
   have hp2:(B+2* B+3) * 2^ x.length≤274877906944:=Nat.le_trans (Nat.mul_le_mul (show B+2* B+3≤3* B+3 by omega) (Nat.pow_le_pow_right (by decide) hxl)) hlim
   obtain⟨u,v,vo,v1,v2,v3,v4,hdv⟩:=hh_ x y B B hx hy hbx hby hB hB hn hp2 (by omega) (by omega)
   have hbr:bdL (vR v) 274877906944:=by
    refine dG_ fun i=>?_
    rw[←bf_,v2]
    have:=(ex_ (L:=274877906944) hbx hby hB hB hn (Nat.le_trans (Nat.mul_le_mul (Nat.pow_le_pow_right (by decide) (show _≤8 by
     have h1:=aI_ (vR x)
     have h2:=List.length_pos_iff.2 hn
     rw[ba_] at h1
     omega)) (show B+2* B+1≤3* B+3 by omega)) (by rw[Nat.mul_comm];exact hlim))).2
    exact bA_ this (by decide) i
   have hmo:=iU_ v 274877906944 vo hbr (by decide) (by decide) (by omega)
   rw[←iB_,v2] at hmo
   have hml:=fK_ (divP (vR x) (vR y)).2
   have hdl:(divP (vR x) (vR y)).2.length≤8:=by
    have:=(eZ_ (p:=vR x) (q:=vR y)).2
    rw[ba_] at this;omega
   refine ai_ (ah_ (r_c 8 (hdv) ?_))
   refine a_z ?_
   refine r_m 5 ?_
   refine c_s (hmo) ?_
   refine a_z ?_
   refine⟨(f,y,rP (a6_ (divP (vR x) (vR y)).2)),Nat.lt_succ_self f,⟨hy,ce_ _,by rw[vR_rP];exact hz,by rw[vR_rP];exact hg,hyl,by rw[bn_];omega⟩,?_⟩
   simp only[gR_mk]
   exact s_e []
  ·have hn:trimQ (vR y)=[]:=degP_neg.1 (by simpa using h1)
   rw[if_pos hn] at hg
   split at hg
   case isFalse=>cases hg
   case isTrue=>
   cases hg
   refine av_ ⟨x,⟨hx,hbx,hxl,rfl⟩,?_⟩
   exact s_e []
 rintro p ⟨po,pb,pl,pe⟩
 have hmo:=iU_ p B po pb hB (by omega) (by omega)
 rw[pe] at hmo
 refine r_c 3 (hmo) ?_
 refine a_z ?_
 exact ag_ (t_e (aF_ _))
theorem f3_(f B:Nat)(x:List RQ)(s:List Rat)(hx:okX x)(hs:sqfM f (vR x)=some s)(hz:gsz f (vR x) (ax_ (vR x)) B)(hB:1≤B)(hlim:(3* B+3) * 256≤274877906944)(hgB:∀g,gcdM f (vR x) (ax_ (vR x))=some g→bdL g B∧g.length≤1000)(hxl:x.length≤8):
    FSpec Tryz.prog 213 [.arr (rE x)] (.arr (rE (rP s))):=by
 unfold sqfM at hs
 split at hs
 case isFalse=>cases hs
 case isTrue hsm=>
 cases hg:gcdM f (vR x) (ax_ (vR x)) with
 |none=>rw[hg] at hs;cases hs
 |some g=>
  rw[hg,Option.bind_some] at hs
  split at hs
  case isFalse=>cases hs
  case isTrue hok=>
  cases hs
  have hdl:=c0_ (vR x)
  rw[ba_] at hdl
  have hbx:bdL (vR x) B:=by
   cases f with
   |zero=>cases hg
   |succ f=>exact hz.1
  obtain⟨hgb,hgl⟩:=hgB g hg
  have hde:=jW_ x B hx hbx (by omega) (by omega)
  have hgc:=fs_rGcd f B x (rP (ax_ (vR x))) g hx (ce_ _) (by rw[vR_rP];exact hz) (by rw[vR_rP];exact hg) hB hlim hxl (by rw[bn_];omega)
  have hp2:(B+2* B+3) * 2^ x.length≤274877906944:=Nat.le_trans (Nat.mul_le_mul (show B+2* B+3≤3* B+3 by omega) (Nat.pow_le_pow_right (by decide) hxl)) hlim
  obtain⟨u,v,vo,v1,v2,v3,v4,hdv⟩:=hh_ x (rP g) B B hx (ce_ _) hbx (by rw[vR_rP];exact hgb) hB hB (by rw[vR_rP];exact hok.1) hp2 (by omega) (by rw[bn_];omega)
  rw[vR_rP] at v1 v2
  have hbr:bdL u 274877906944:=by
   refine dG_ fun i=>?_
   rw[←bf_,v1]
   have:=(ex_ (L:=274877906944) hbx hgb hB hB hok.1 (Nat.le_trans (Nat.mul_le_mul (Nat.pow_le_pow_right (by decide) (show _≤8 by
    have h1:=aI_ (vR x)
    have h2:=List.length_pos_iff.2 hok.1
    rw[ba_] at h1
    omega)) (show B+2* B+1≤3* B+3 by omega)) (by rw[Nat.mul_comm];exact hlim))).1
   exact bA_ this (by decide) i
  have hmo:=iU_ (rP u) 274877906944 (ce_ _) (by rw[vR_rP];exact hbr) (by decide) (by decide) (by rw[bn_];omega)
  rw[vR_rP,←iB_,v1] at hmo
  refine f_n Tryz.func213 ?_ ?_
  exact aa_ (aF_ x) ab_
  refine r_z 1 ?_
  refine r_c 11 (hde) ?_
  refine c_s (hgc) ?_
  refine c_s (hdv) ?_
  refine a_z ?_
  refine r_c 3 (hmo) ?_
  refine a_z ?_
  exact ag_ (t_e (aF_ _))
theorem rP_get{l:List Rat}{i:Nat}(h:i< l.length):(rE (rP l))[((i:Nat):Int).toNat]?=some (rC (rq (coP l i))):=
 ej_ (show(rP l)[i]?=some (rq (coP l i)) by rw[rP,List.getElem?_map,be_ h];rfl)
def kR(X:List RQ):Nat×Nat→AState
 |(i,k)=>⟨[(0,.arr (rE X)),(3,.lptr 1 0 0),(4,i64 i)],[(1,some ⟨40,2,[zZ (k:Int)]⟩)],2,48⟩
theorem kR_mk(X:List RQ)(i:Nat)(k:Nat):kR X (i,k)=⟨[(0,.arr (rE X)),(3,.lptr 1 0 0),(4,i64 i)],[(1,some ⟨40,2,[zZ (k:Int)]⟩)],2,48⟩:=rfl
def nR2(l:List Rat):Nat×Nat→AState
 |(i,g)=>⟨[(0,.arr (rE (rP l))),(5,.lptr 1 0 0),(6,i64 i)],[(1,some ⟨40,2,[zZ (g:Int)]⟩)],2,48⟩
theorem rb_(l:List Rat)(i:Nat)(g:Nat):nR2 l (i,g)=⟨[(0,.arr (rE (rP l))),(5,.lptr 1 0 0),(6,i64 i)],[(1,some ⟨40,2,[zZ (g:Int)]⟩)],2,48⟩:=rfl
theorem eU_(x:List RQ)(s:Nat)(hx:okX x)(hs:bdL (vR x) s)(hs1:1≤s)(hz:nz (vR x))(hlim:(x.length+4) * s≤137438953472)(hl:x.length≤1000000):
    FSpec Tryz.prog 293 [.arr (rE x)] (.arr (rE (rP (primP (vR x))))):=by
 have hi1:FSpec Tryz.prog 112 [i64 1] (.agg (rC (rq 1))):=bT_ 1 (by decide)
 obtain⟨X,hX⟩:∃X,X=trimR x:=⟨_,rfl⟩
 obtain⟨t,ht⟩:∃t,t=trimQ (vR x):=⟨_,rfl⟩
 have hXt:vR X=t:=by rw[hX,ht,e7_]
 have hXl:X.length=t.length:=by rw[←hXt,ba_]
 have hXx:X.length≤x.length:=by rw[hX,cs_,←ba_ x];exact aI_ _
 have hXo:okX X:=by rw[hX];exact hV_ hx
 have hbt:bdL t s:=by rw[ht];exact g3_ hs
 have hts:t.length* s≤x.length* s:=Nat.mul_le_mul_right _ (by omega)
 rw[Nat.add_mul] at hlim
 obtain⟨K,hK⟩:∃K,K=denP t 1:=⟨_,rfl⟩
 have hK0:K≠0:=by rw[hK];exact n6_ t (by decide)
 have hKb:bl K≤1+t.length* s:=by rw[hK];exact ss_ t 1 hbt
 have hKq:=qs_nQ (n:=K) (k:=1+t.length* s) hKb (by omega)
 obtain⟨l,hle⟩:∃l,l=az_ t (nQ K):=⟨_,rfl⟩
 have hll:l.length≤t.length:=by rw[hle];exact bK_ _ _
 have hlb:bdL l (s+(1+t.length* s)):=by rw[hle];exact qK_ hbt hs1 hKq
 obtain⟨G,hG⟩:∃G,G=gcdN l 0:=⟨_,rfl⟩
 have hdoc:=prim_doc hz
 rw[←ht,←hK,←hle,←hG] at hdoc
 have hG0:nQ G≠0:=fun e=>hdoc.2 (nQ_zero.1 e)
 rw[←hdoc.1]
 refine f_n Tryz.func293 ?_ ?_
 exact aa_ (aF_ x) ab_
 refine r_z 1 ?_
 refine r_c 3 (c9_ x (by omega)) ?_
 refine a_z ?_
 rw[←hX]
 refine r_c 3 (ew_ 1 (by decide)) ?_
 refine a_z ?_
 refine ac_ (r_z 1 ?_)
 refine aD_ (fun _:Unit=>⟨[(0,.arr (rE X)),(3,.lptr 1 0 0)],[(1,some ⟨40,2,[zZ (K:Int)]⟩)],2,48⟩) (fun _=>True) ?_ ?_
 refine ah_ (aw_ (kR X) (fun x=>X.length- x.1) (fun x=>x.1≤X.length∧bl x.2+(t.length- x.1) * s≤1+t.length* s∧denP (t.drop x.1) x.2=K) (0,1) ⟨Nat.zero_le _,by simp only[jh_,Nat.sub_zero];omega,by rw[hK];rfl⟩ ?_ ?_)
 simp only[kR_mk]
 exact s_e [(1,3)]
 rintro⟨i,k⟩ ⟨hi,hkb,hk⟩
 simp only at hi hkb hk
 rw[kR_mk]
 refine ac_ (r_z 4 ?_)
 refine aj_ rfl (fun h=>?_) (fun h=>?_)
 refine ai_ ?_
 have hlt:i< X.length:=by simpa using h
 obtain⟨y,hy,hyc⟩:=e8_ hlt
 have hym:=List.mem_of_getElem? hy
 have hgt:(rE X)[((i:Nat):Int).toNat]?=some (rC y):=ej_ hy
 rw[hXt] at hyc
 have hc:=bA_ hbt hs1 i
 rw[←hyc] at hc
 have hd:=b8_ y.1
 rw[hm_ (show i< t.length by omega),denP,←hyc] at hk
 have e1:(t.length- i) * s=(t.length- (i+1)) * s+s:=by
  rw[show t.length- i=t.length- (i+1)+1 by omega,Nat.succ_mul]
 have hmb:=eN_ k y.1.den
 have hmu:=d8_ (k:Int) (y.1.den:Int) (by unfold zl;rw[Int.natAbs_natCast];omega) (by unfold zl;rw[Int.natAbs_natCast];omega)
 rw[←Int.natCast_mul] at hmu
 refine ac_ (ah_ (r_d hmix 8 ?_))
 refine a_3 ?_
 refine i_x hgt ?_
 refine l_x hgt ?_
 refine c_s (fs_rDen y (hXo y hym)) ?_
 refine c_s (hmu) ?_
 refine a_1 ?_
 refine ak_ (n_k ?_)
 refine r_m 3 ?_
 refine a_z ?_
 refine⟨(i+1,k* y.1.den),by simp only;omega,⟨hlt,by simp only;omega,hk⟩,?_⟩
 simp only[kR_mk]
 exact s_e []
 have hge:i=X.length:=by
  have:¬i< X.length:=by simpa using h
  omega
 subst hge
 rw[hXl,List.drop_length] at hk
 have hk':k=K:=hk
 subst hk'
 refine av_ ⟨(),trivial,?_⟩
 exact s_e []
 rintro _ _
 have hsc:=eE_ X (rq (nQ K)) s hXo (bg_ _) (by rw[hXt];exact hbt) (by show s+qs (nQ K)≤_;omega) (by omega)
 rw[hXt] at hsc
 have hsc':FSpec Tryz.prog 131 [.arr (rE X),.agg (rC (rq (nQ K)))] (.arr (rE (rP l))):=by rw[hle];exact hsc
 refine r_c 5 (mr_ (K:Int)) ?_
 refine c_s (hsc') ?_
 refine a_z ?_
 refine r_c 3 (ew_ 0 (by decide)) ?_
 refine a_z ?_
 refine ac_ (r_z 1 ?_)
 refine aD_ (fun _:Unit=>⟨[(0,.arr (rE (rP l))),(5,.lptr 1 0 0)],[(1,some ⟨40,2,[zZ (G:Int)]⟩)],2,48⟩) (fun _=>bl G≤s+(1+t.length* s)) ?_ ?_
 refine ah_ (aw_ (nR2 l) (fun x=>l.length- x.1) (fun x=>x.1≤l.length∧bl x.2≤s+(1+t.length* s)∧gcdN (l.drop x.1) x.2=G) (0,0) ⟨Nat.zero_le _,by rw[sK_];exact Nat.zero_le _,by rw[hG];rfl⟩ ?_ ?_)
 simp only[rb_]
 exact s_e [(1,5)]
 rintro⟨i,g⟩ ⟨hi,hgb,hg⟩
 simp only at hi hgb hg
 rw[rb_]
 refine ac_ (r_z 4 ?_)
 refine aj_ rfl (fun h=>?_) (fun h=>?_)
 refine ai_ ?_
 have hlt:i< l.length:=by simpa using h
 have hgt:=rP_get hlt
 have hc:=bA_ hlb (by omega) i
 have hn:=co_ (absQ (coP l i))
 rw[l6_] at hn
 rw[hm_ hlt,gcdN] at hg
 have hgg:=sL_ g (absQ (coP l i)).num.natAbs
 have hzg:=rR_ (g:Int) (absQ (coP l i)).num (by rw[Int.natAbs_natCast];omega) (by omega)
 rw[Int.natAbs_natCast] at hzg
 refine ac_ (ah_ (r_d hmix 9 ?_))
 refine a_3 ?_
 refine i_x hgt ?_
 refine l_x hgt ?_
 refine c_s (rK_ (rq (coP l i)) (bg_ _)) ?_
 refine c_s (fs_rNum (rq (absQ (coP l i)))) ?_
 refine c_s (hzg) ?_
 refine a_1 ?_
 refine ak_ (n_k ?_)
 refine r_m 3 ?_
 refine a_z ?_
 refine⟨(i+1,Nat.gcd g (absQ (coP l i)).num.natAbs),by simp only;omega,⟨hlt,by simp only;omega,hg⟩,?_⟩
 simp only[rb_]
 exact s_e []
 have hge:i=l.length:=by
  have:¬i< l.length:=by simpa using h
  omega
 subst hge
 rw[List.drop_length] at hg
 have hg':g=G:=hg
 subst hg'
 refine av_ ⟨(),hgb,?_⟩
 exact s_e []
 rintro _ hGb
 have hGq:=qs_nQ (n:=G) (k:=s+(1+t.length* s)) hGb (by omega)
 have q1:qs ((rq 1).1)=1:=jH_
 have hdv:=gg_ (rq 1) (rq (nQ G)) (bg_ 1) (bg_ _) hG0 (by rw[q1];show 1+qs (nQ G)≤_;omega)
 have hqd:=c8_ 1 (nQ G)
 have q2:=jH_
 have hsc2:=eE_ (rP l) (rq (1/ nQ G)) (s+(1+t.length* s)) (ce_ _) (bg_ _) (by rw[vR_rP];exact hlb) (by show _+qs (1/ nQ G)≤_;omega) (by rw[bn_];omega)
 rw[vR_rP] at hsc2
 have hsc2':FSpec Tryz.prog 131 [.arr (rE (rP l)),.agg (rC (rq (1/ nQ G)))] (.arr (rE (rP (az_ l (1/ nQ G))))):=hsc2
 refine ac_ (r_d hmix 7 ?_)
 refine c_s (hi1) ?_
 refine c_s (mr_ (G:Int)) ?_
 refine c_s (hdv) ?_
 refine c_s (hsc2') ?_
 refine a_1 ?_
 refine ak_ (n_k ?_)
 exact ag_ (t_e (aF_ _))
theorem qs_pow{x:Rat}{t:Nat}(h:qs x≤t):∀n,qs (x^ n)≤n* t+1
 |0=>by rw[Rat.pow_zero];exact Nat.le_trans (by decide:qs 1≤1) (Nat.le_add_left 1 _)
 |n+1=>by
  have h1:=qs_pow h n
  have h2:=b3_ (x^ n) x
  rw[Rat.pow_succ,Nat.succ_mul];omega
def evS(x:List RQ)(a:RQ):Nat×Rat×Rat→AState
 |(i,o,w)=>⟨[(0,.arr (rE x)),(3,.lptr 1 0 0),(4,.lptr 2 0 0),(5,.lptr 3 0 0),(6,.lptr 4 0 0),(7,i64 i)],[(1,some ⟨42,4,[rC a]⟩),(2,some ⟨42,4,[zR4]⟩),(3,some ⟨42,4,[rC (rq o)]⟩),(4,some ⟨42,4,[rC (rq w)]⟩)],5,28⟩
theorem sd_(x:List RQ)(a:RQ)(i:Nat)(o:Rat)(w:Rat):evS x a (i,o,w)=⟨[(0,.arr (rE x)),(3,.lptr 1 0 0),(4,.lptr 2 0 0),(5,.lptr 3 0 0),(6,.lptr 4 0 0),(7,i64 i)],[(1,some ⟨42,4,[rC a]⟩),(2,some ⟨42,4,[zR4]⟩),(3,some ⟨42,4,[rC (rq o)]⟩),(4,some ⟨42,4,[rC (rq w)]⟩)],5,28⟩:=rfl
theorem k6_(x:List RQ)(a:RQ)(s t:Nat)(hx:okX x)(ha:rok a)(hs:bdL (vR x) s)(hs1:1≤s)(ht:qs a.1≤t)(hlim:(x.length+2) * (s+t+1)≤137438953472)(hl:x.length≤1000000):
    FSpec Tryz.prog 251 [.arr (rE x),.agg (rC a)] (.agg (rC (rq (evalP (vR x) a.1)))):=by
 have hi0:FSpec Tryz.prog 112 [i64 0] (.agg (rC (rq 0))):=bT_ 0 (by decide)
 have hi1:FSpec Tryz.prog 112 [i64 1] (.agg (rC (rq 1))):=bT_ 1 (by decide)
 have hvl:=ba_ x
 refine f_n Tryz.func251 ?_ ?_
 exact aa_ (aF_ x) (aa_ (a0_ a) ab_)
 refine r_z 2 ?_
 refine r_c 6 (hi0) ?_
 refine c_s (hi1) ?_
 refine a_z ?_
 refine ac_ (r_z 1 ?_)
 refine aD_ (fun _:Unit=>⟨[(4,.lptr 1 0 0),(5,.lptr 2 0 0)],[(1,some ⟨42,4,[zR4]⟩),(2,some ⟨42,4,[rC (rq (evalP (vR x) a.1))]⟩)],3,28⟩) (fun _=>True) ?_ ?_
 refine ah_ (aw_ (evS x a) (fun y=>x.length- y.1) (fun y=>y.1≤x.length∧y.2.1=evalP ((vR x).take y.1) a.1∧y.2.2=a.1^ y.1) (0,0,1) ⟨Nat.zero_le _,rfl,(Rat.pow_zero _).symm⟩ ?_ ?_)
 simp only[sd_]
 exact s_e [(1,3),(2,4),(3,5),(4,6)]
 rintro⟨i,o,w⟩ ⟨hi,ho,hw⟩
 simp only at hi ho hw
 rw[sd_]
 refine ac_ (r_z 4 ?_)
 refine aj_ rfl (fun h=>?_) (fun h=>?_)
 refine ai_ ?_
 have hlt:i< x.length:=by simpa using h
 obtain⟨y,hy,hyc⟩:=e8_ hlt
 have hym:=List.mem_of_getElem? hy
 have hgt:(rE x)[((i:Nat):Int).toNat]?=some (rC y):=ej_ hy
 have hc:=bA_ hs hs1 i
 rw[←hyc] at hc
 have hp:=qs_pow ht i
 rw[←hw] at hp
 have hob:=es_ ht (l:=(vR x).take i) (s:=s) fun q hq=>hs q (List.mem_of_mem_take hq)
 rw[←ho,List.length_take,hvl,Nat.min_eq_left (by omega)] at hob
 have e1:(i+1) * (s+t+1)≤(x.length+1) * (s+t+1):=Nat.mul_le_mul_right _ (by omega)
 have e2:(x.length+2) * (s+t+1)=(x.length+1) * (s+t+1)+(s+t+1):=Nat.succ_mul _ _
 have e3:(i+1) * (s+t+1)=i* (s+t+1)+(s+t+1):=Nat.succ_mul _ _
 have e4:i* t≤i* (s+t+1):=Nat.mul_le_mul_left _ (by omega)
 have m1:=eV_ y (rq w) (hx y hym) (bg_ _) (by show qs y.1+qs w≤_;omega)
 have q1:=b3_ y.1 w
 have m2:=gh_ (rq o) (rq (y.1* w)) (bg_ _) (bg_ _) (by show qs o+qs (y.1* w)≤_;omega)
 have m3:=eV_ (rq w) a (bg_ _) ha (by show qs w+qs a.1≤_;omega)
 refine ac_ (ah_ (ac_ (r_d hmix 9 ?_)))
 refine a_3 ?_
 refine i_x hgt ?_
 refine l_x hgt ?_
 refine c_s (m1) ?_
 refine c_s (m2) ?_
 refine a_1 ?_
 refine ak_ (n_k ?_)
 refine r_m 4 ?_
 refine c_s (m3) ?_
 refine a_z ?_
 refine r_m 3 ?_
 refine a_z ?_
 refine⟨(i+1,o+y.1* w,w* a.1),by simp only;omega,⟨hlt,?_,by simp only;rw[hw,Rat.pow_succ]⟩,?_⟩
 simp only
 rw[cM_ _ _ _ (by omega),←ho,hyc,hw]
 simp only[sd_]
 exact s_e []
 have hge:i=x.length:=by
  have:¬i< x.length:=by simpa using h
  omega
 subst hge
 rw[List.take_of_length_le (by omega)] at ho
 subst ho
 refine av_ ⟨(),trivial,?_⟩
 exact s_e [(1,4),(2,5)]
 rintro _ _
 refine r_z 2 ?_
 exact ag_ (c_e (a0_ _))
def mxR(l:List Rat):Nat×List AV→AState
 |(i,o)=>⟨[(0,.arr (rE (rP l))),(2,.lptr 1 0 0),(3,.lptr 2 0 0),(4,i64 i)],[(1,some ⟨42,4,[zR4]⟩),(2,some ⟨42,4,[o]⟩)],3,27⟩
theorem ix_(l:List Rat)(i:Nat)(o:List AV):mxR l (i,o)=⟨[(0,.arr (rE (rP l))),(2,.lptr 1 0 0),(3,.lptr 2 0 0),(4,i64 i)],[(1,some ⟨42,4,[zR4]⟩),(2,some ⟨42,4,[o]⟩)],3,27⟩:=rfl
theorem od_(bf:Int→Bool){l:List Rat}(h:l≠[]):cj_ bf l∈l:=by
 cases l with
 |nil=>exact absurd rfl h
 |cons x l=>
  have key:∀(l:List Rat) (o:Rat),l.foldl (fun o y=>if bf (cmpQ y o) then y else o) o∈o::l:=by
   intro l
   induction l with
   |nil=>intro o;exact List.mem_cons_self ..
   |cons y l ih=>
    intro o
    have:=ih (if bf (cmpQ y o) then y else o)
    rw[List.foldl_cons]
    rcases List.mem_cons.1 this with e|e
    rw[e]
    split
    exact List.mem_cons_of_mem _ (List.mem_cons_self ..)
    exact List.mem_cons_self ..
    exact List.mem_cons_of_mem _ (List.mem_cons_of_mem _ e)
  exact key l x
theorem fs_rMax(l:List Rat)(s:Nat)(hs:bdL l s)(hlim:2* s≤1099511627776)(hl:l.length≤1000000)(h0:l≠[]):FSpec Tryz.prog 261 [.arr (rE (rP l))] (.agg (rC (rq (maxL l)))):=by
 refine f_n Tryz.func261 ?_ ?_
 exact aa_ (aF_ _) ab_
 refine r_z 1 ?_
 refine r_z 1 ?_
 refine ac_ (r_z 1 ?_)
 refine aD_ (fun _:Unit=>⟨[(2,.lptr 1 0 0),(3,.lptr 2 0 0)],[(1,some ⟨42,4,[zR4]⟩),(2,some ⟨42,4,[rC (rq (maxL l))]⟩)],3,27⟩) (fun _=>True) ?_ ?_
 refine ah_ (aw_ (fun x:Nat×List AV=>mxR l x) (fun x=>l.length- x.1) (fun x=>x.1≤l.length∧((x.1=0→x.2=zR4)∧(x.1≠0→x.2=rC (rq (maxL (l.take x.1)))))) (0,zR4) ⟨Nat.zero_le _,fun _=>rfl,fun h=>absurd rfl h⟩ ?_ ?_)
 simp only[ix_]
 exact s_e [(1,2),(2,3)]
 rintro⟨i,o⟩ ⟨hi,ho0,ho⟩
 simp only at hi ho0 ho
 simp only[ix_]
 by_cases hlt:i< l.length
 refine ac_ (s_r 4 ?_)
 refine a_3 ?_
 refine o_0 (.bin rfl rfl (vT dx_ (decide_eq_true (by simp;omega)))) ?_
 refine ak_ ?_
 refine cT (ai_ ?_)
 have hgt:=rP_get hlt
 have hq:l[i]?=some (coP l i):=be_ hlt
 have hc:=hs _ (List.mem_of_getElem? hq)
 have hsn:maxL (l.take (i+1))=if l.take i=[]∨decide (0< cmpQ (coP l i) (maxL (l.take i)))=true then coP l i else maxL (l.take i):=by
  rw[cc_ hq];exact hL_ _ _ _
 refine ac_ (ah_ (AWp.cutB (fun _:Unit=>mxR l (i,rC (rq (maxL (l.take (i+1)))))) (fun _=>True) ?_ ?_))
 by_cases h0:i=0
 subst h0
 have:=ho0 rfl
 subst this
 rw[if_pos (.inl (by simp))] at hsn
 refine ac_ (r_d hmix 11 ?_)
 refine a_3 ?_
 refine n_g rfl d_t ?_
 refine n_g rfl d_t ?_
 refine n_g rfl d_t ?_
 refine n_g rfl d_t ?_
 refine n_g rfl d_t ?_
 refine n_g rfl d_t ?_
 refine n_g rfl d_t ?_
 refine o_0 (.pickT rfl d_t rfl) ?_
 refine ak_ (n_k ?_)
 refine aj_ rfl (fun h=>?_) (fun h=>?_)
 refine r_m 5 ?_
 refine a_2 ?_
 refine i_x hgt ?_
 refine l_x hgt ?_
 refine a_z ?_
 refine⟨(),trivial,?_⟩
 simp only[ix_]
 rw[hsn]
 exact s_e []
 cases h
 have ho':o=rC (rq (maxL (l.take i))):=ho h0
 subst ho'
 have hne:l.take i≠[]:=fun h=>by
  have:=congrArg List.length h
  rw[List.length_take,List.length_nil] at this;omega
 have hmm:=hs _ (List.mem_of_mem_take (od_ (fun c=>decide (0< c)) hne))
 have hcm:=iV_ (rq (coP l i)) (rq (maxL (l.take i))) (bg_ _) (bg_ _) (by show qs (coP l i)+qs (cj_ _ (l.take i))≤_;omega)
 by_cases h1:0< cmpQ (coP l i) (maxL (l.take i))
 rw[if_pos (.inr (decide_eq_true h1))] at hsn
 refine ac_ (r_d hmix 11 ?_)
 refine a_3 ?_
 refine y_g rfl (by simp;omega) (.move rfl) ?_
 refine y_g rfl (by simp;omega) (.move rfl) ?_
 first|refine y_g rfl (by simp;omega) (.index_l rfl rfl (by omega) (by omega) te_65.h) ?_|refine y_g rfl (by simp;omega) (.index_a rfl rfl (by omega) hgt rfl te_65.h) ?_
 first|refine y_g rfl (by simp;omega) (.load_l rfl rfl hgt tg_42.h ts_42.h (nle rfl)) ?_|refine y_g rfl (by simp;omega) (.load_a rfl hgt tg_42.h ts_42.h (nle rfl)) ?_
 first|refine y_g rfl (by simp;omega) (.load_l rfl rfl rfl tg_42.h ts_42.h (nle rfl)) ?_|refine y_g rfl (by simp;omega) (.load_a rfl rfl tg_42.h ts_42.h (nle rfl)) ?_
 refine y_g rfl (by simp;omega) (.call rfl rfl rfl (hcm)) ?_
 refine y_g rfl (by simp;omega) (.bin rfl rfl (vT dQ_ (decide_eq_true h1))) ?_
 refine o_0 (.pickF rfl (by simp;omega) rfl) ?_
 refine ak_ (n_k ?_)
 refine aj_ rfl (fun h=>?_) (fun h=>?_)
 refine r_m 5 ?_
 refine a_2 ?_
 refine i_x hgt ?_
 refine l_x hgt ?_
 refine a_z ?_
 refine⟨(),trivial,?_⟩
 simp only[ix_]
 rw[hsn]
 exact s_e []
 cases h
 rw[if_neg (fun e=>e.elim hne fun e=>h1 (of_decide_eq_true e))] at hsn
 refine ac_ (r_d hmix 11 ?_)
 refine a_3 ?_
 refine y_g rfl (by simp;omega) (.move rfl) ?_
 refine y_g rfl (by simp;omega) (.move rfl) ?_
 first|refine y_g rfl (by simp;omega) (.index_l rfl rfl (by omega) (by omega) te_65.h) ?_|refine y_g rfl (by simp;omega) (.index_a rfl rfl (by omega) hgt rfl te_65.h) ?_
 first|refine y_g rfl (by simp;omega) (.load_l rfl rfl hgt tg_42.h ts_42.h (nle rfl)) ?_|refine y_g rfl (by simp;omega) (.load_a rfl hgt tg_42.h ts_42.h (nle rfl)) ?_
 first|refine y_g rfl (by simp;omega) (.load_l rfl rfl rfl tg_42.h ts_42.h (nle rfl)) ?_|refine y_g rfl (by simp;omega) (.load_a rfl rfl tg_42.h ts_42.h (nle rfl)) ?_
 refine y_g rfl (by simp;omega) (.call rfl rfl rfl (hcm)) ?_
 refine y_g rfl (by simp;omega) (.bin rfl rfl (vF dQ_ (decide_eq_false h1))) ?_
 refine o_0 (.pickF rfl (by simp;omega) rfl) ?_
 refine ak_ (n_k ?_)
 refine cF ?_
 refine ai_ (⟨(),trivial,?_⟩)
 simp only[ix_]
 rw[hsn]
 exact s_e []
 rintro _ _
 simp only[ix_]
 refine r_m 3 ?_
 refine a_z ?_
 refine⟨(i+1,rC (rq (maxL (l.take (i+1))))),by simp only;omega,⟨hlt,fun h=>absurd h (Nat.succ_ne_zero i),fun _=>rfl⟩,?_⟩
 simp only[ix_]
 exact s_e []
 refine ac_ (s_r 4 ?_)
 refine a_3 ?_
 refine o_0 (.bin rfl rfl (vF dx_ (decide_eq_false (by simp;omega)))) ?_
 refine ak_ ?_
 refine cF ?_
 have hge:i=l.length:=by omega
 subst hge
 have ho':=ho (by have:=List.length_pos_iff.2 h0;omega)
 rw[List.take_of_length_le (Nat.le_refl _)] at ho'
 subst ho'
 refine av_ ⟨(),trivial,?_⟩
 exact s_e [(1,2),(2,3)]
 rintro _ _
 refine r_z 2 ?_
 exact ag_ (c_e (a0_ _))
end Go.Proofs.YtdjfjpeoddmamaaGreatDoor
