/- Part O27 of the proof. -/
import Derived.Test.YtdjfjpeoddmamaaGreatDoorO26
set_option linter.all false
namespace Go.Proofs.YtdjfjpeoddmamaaGreatDoor
open Go.Abs
set_option maxRecDepth 20000
set_option maxHeartbeats 1000000
theorem mJ_(x:List RQ)(s:Nat)(hx:okX x)(hs:bdL (vR x) s)(hlim:s+64≤1099511627776)(hl:x.length≤1000000):FS 250 [.arr (rE x)] (.arr (rE (rP (aF_ (vR x))))):=by
 obtain⟨V,hV⟩:∃V,V=tabP ((vR x).length+1) (fun i=>if i=0 then 0 else coP (vR x) (i- 1) / ((i:Nat):Int)):=⟨_,rfl⟩;refine f_c Tryz.func250 ?_;have hi0:FS 112 [i64 0] (.agg (rC (rq 0))):=bF_ 0 (by decide);refine r_z 1 ?_;refine r_c 3 (hi0) ?_;refine a_z ?_;refine aa_ (r_z 1 ?_);have hVl:V.length=x.length+1:=by rw[hV];simp
 refine aw_ (fun _:Unit=>oS 3 26 [(0,.arr (rE x))] (rP V)) (fun _=>True) ?_ ?_;refine ac_ (ap_ (fun j:Nat=>oS 3 26 [(4,i64 ((j:Nat):Int)),(0,.arr (rE x))] (rP (V.take (j+1)))) (fun j=>x.length- j) (fun j=>j≤x.length) 0 (Nat.zero_le _) ?_ ?_)
 have e0:rP (V.take (0+1))=[rq 0]:=by
  rw[take_succ' (by omega),hV,dO_,if_pos (by simp),if_pos rfl,List.take_zero];rfl
 show SEnt _ (oS _ _ _ (rP (V.take (0+1))));rw[e0,bQ_];exact s_f [(1,3)];rintro j hj;have hQl:(rP (V.take (j+1))).length=j+1:=by simp;omega
 by_cases hlt:j< x.length;obtain⟨y,hy,hyv⟩:=fu_ (x:=x) (i:=j) hlt;have hyb:=vR_bd hs hy;have hyo:=hx y (List.mem_of_getElem? hy);have hgt:(rE x)[((j:Nat):Int).toNat]?=some (rC y):=eb_ hy;obtain⟨c,hc⟩:∃c,c=y.1/ ((j+1:Nat):Int):=⟨_,rfl⟩
 have hco:coP V (j+1)=c:=by
  rw[hV,dO_,if_pos (by simp;omega),if_neg (by omega),hc,hyv];rfl
 have hi1:=bF_ ((j+1:Nat):Int) (by omega);have hn:(rq (((j+1:Nat):Int):Rat)).1≠0:=by show(((j+1:Nat):Int):Rat)≠0;exact fun e=>by have:=Rat.intCast_inj.1 (e.trans (by rfl:(0:Rat)=((0:Int):Rat)));omega
 have hm:=fe_ y (rq (((j+1:Nat):Int):Rat)) hyo (aR_ _) hn (by have:=f2_ (j+1) (by omega);show qs y.1+qs (((j+1:Nat):Int):Rat)≤_;omega);rw[show y.1/ (rq (((j+1:Nat):Int):Rat)).1=c by rw[hc];rfl] at hm;have htk:=take_succ' (V:=V) (j:=j+1) (by omega);rw[hco] at htk;have hrp:rP (V.take (j+1+1))=rP (V.take (j+1))++[rq c]:=by rw[htk];simp[rP]
 cases hQ:rP (V.take (j+1)) with
 |nil=>rw[hQ] at hQl;simp at hQl
 |cons q Q=>
  rw[hQ] at hQl;rw[hQ,List.cons_append] at hrp;simp at hQl;simp only[bQ_];refine aa_ (q_z 4 ?_);refine cT (ae_ (aa_ (ac_ (r_d hmix 12 ?_))));refine a_3 ?_;refine i_x hgt ?_;refine l_x hgt ?_;refine c_s (hi1) ?_;refine c_s (hm) ?_;refine a_3 ?_;refine ai_ (n_k ?_);refine r_m 3 ?_;refine a_z ?_;refine⟨j+1,by omega,hlt,?_⟩;rw[hrp,bQ_];have e:rE (q::Q)++[rC (rq c)]=rE (q::(Q++[rq c])):=by simp[rE]
  exact s_x [(1,3)] (fun hs=>au_f) (fun hs=>e_9) e_4
 have hge:V.take (j+1)=V:=List.take_of_length_le (by omega);rw[hge];cases hQ:rP V with
 |nil=>rw[hge,hQ] at hQl;simp at hQl
 |cons q Q=>
  simp only[bQ_];refine aa_ (q_z 4 ?_);refine cF (am_ ⟨(),trivial,?_⟩);exact s_f [(1,3)]
 rintro _ _;have htr:=cI_ (rP V) (by simp;omega);rw[e2_] at htr;cases hQ:rP V with
 |nil=>have:=congrArg List.length hQ;simp[hVl] at this
 |cons q Q=>
  rw[hQ] at htr;simp only[bQ_];refine s_r 3 ?_;refine a_1 ?_;refine o_1 (.callS1 rfl rfl rfl (.shut rfl d_n (.nil)) rfl ((FSpec.argE htr (by rw[List.drop_zero];exact List.take_of_length_le (by simp))))) ?_;refine a_z ?_;refine af_ (aJ_ rfl ?_ ?_);rw[hV];rfl;exact aS_ _
theorem oE_{x:List RQ}{n:Nat}(h:(trimQ (vR x)).length=n+1):∃y,(trimR x)[n]?=some y∧y.1=leadP (vR x)∧y∈x:=by
 have e:=e1_ x;have g:=bD_ h;rw[←e,vR,List.getElem?_map] at g;cases hy:(trimR x)[n]? with
 |none=>rw[hy] at g;cases g
 |some y=>
  rw[hy] at g;exact⟨y,rfl,Option.some.inj g,List.mem_of_mem_take (List.mem_of_getElem? hy)⟩
@[simp] theorem cq_ (x:List RQ):(trimR x).length=(trimQ (vR x)).length:=by rw[←e1_,a3_]
theorem dw_(x:List RQ)(hl:x.length≤1000000):FS 32 [.arr (rE x)] (i64 (degP (vR x))):=by
 have htl:=aB_ (vR x);rw[a3_,←cq_] at htl;refine f_c Tryz.func32 ?_;refine r_z 1 ?_;refine r_c 5 (cI_ x (by omega)) ?_;refine a_z ?_;exact af_ (aJ_ rfl (by rw[cq_];rfl) (ad_ _))
theorem is_(x:List RQ)(y:RQ)(hl:x.length≤1000000)(hy:(trimR x).getLastD (rq 0)=y):FS 164 [.arr (rE x)] (.agg (rC y)):=by
 have hi0:FS 112 [i64 0] (.agg (rC (rq 0))):=bF_ 0 (by decide);have htr:(trimR x).length≤x.length:=by rw[cq_,←a3_ x];exact aB_ _
 refine f_c Tryz.func164 ?_;refine r_z 1 ?_;refine r_c 3 (cI_ x (by omega)) ?_;refine a_z ?_;cases hX:trimR x with
 |nil=>
  rw[hX] at hy;cases hy;refine aa_ (s_r 3 ?_);refine a_2 ?_;refine o_0 (.bin rfl rfl (vT aU_ (decide_eq_true (by simp)))) ?_;refine ai_ ?_;refine cT (r_c 2 (hi0) ?_);refine a_z ?_;exact af_ (c_e (bR_ (rq 0)))
 |cons a A=>
  rw[hX] at htr;rw[hX] at hy
  have hg:(rE (a::A))[(((a::A).length:Int)- 1).toNat]?=some (rC y):=by
   refine eb_ ?_;rw[show(((a::A).length:Int)- 1).toNat=A.length by simp,←hy];rw[List.getLastD_eq_getLast?,List.getLast?_eq_getElem?];simp
  refine aa_ (s_r 3 ?_);refine a_2 ?_;refine o_0 (.bin rfl rfl (vF aU_ (decide_eq_false (by simp;omega)))) ?_;refine ai_ ?_;refine cF (ae_ ?_);have hln:(a::A).length=A.length+1:=rfl;refine s_r 7 ?_;refine a_4 ?_;refine i_x hg ?_;refine l_x hg ?_;refine a_z ?_;exact af_ (c_e (bR_ y))
theorem mK_(q:Rat):FS 249 [.agg (rC (rq q))] (.arr (rE (rP (c3_ q)))):=by
 have htr:=cI_ (rP [q]) (by simp);rw[e2_] at htr;refine f_c Tryz.func249 ?_;refine r_z 2 ?_;refine s_r 4 ?_;refine a_2 ?_;refine o_1 (.callS1 rfl rfl rfl (.shut rfl d_n (.nil)) rfl ((FSpec.argE htr (by rw[List.drop_zero];exact List.take_of_length_le (by simp))))) ?_;refine a_z ?_;exact af_ (t_e (aS_ _))
theorem ll_(x y:List RQ)(s t:Nat)(hx:okX x)(hy:okX y)(hs:bdL (vR x) s)(ht:bdL (vR y) t)(hlim:s+t+64≤1099511627776)(hxl:x.length≤1000000)(hyl:y.length≤1000000):FS 209 [.arr (rE x),.arr (rE y)] (.arr (rE (rP (addP (vR x) (vR y))))):=by
 obtain⟨V,hV⟩:∃V,V=tabP (max (vR x).length (vR y).length) (fun i=>coP (vR x) i+coP (vR y) i):=⟨_,rfl⟩;have hi0:FS 112 [i64 0] (.agg (rC (rq 0))):=bF_ 0 (by decide);have q0:qs (rq 0).1≤64:=by decide
 refine f_c Tryz.func209 ?_;refine r_z 1 ?_;refine r_z 1 ?_;refine aa_ (r_z 1 ?_);have hVl:V.length=max x.length y.length:=by rw[hV];simp
 refine aw_ (fun _:Unit=>oS 5 47 [(0,.arr (rE x)),(1,.arr (rE y))] (rP V)) (fun _=>True) ?_ ?_;refine ac_ (ap_ (fun j:Nat=>oS 5 47 [(6,i64 ((j:Nat):Int)),(0,.arr (rE x)),(1,.arr (rE y))] (rP (V.take j))) (fun j=>V.length- j) (fun j=>j≤V.length) 0 (Nat.zero_le _) ?_ ?_);show SEnt _ (oS _ _ _ []);rw[ev_];exact s_e [];rintro j hj;have hQl:(rP (V.take j)).length=j:=by simp;omega
 by_cases hjx:j< x.length;by_cases hjy:j< y.length;obtain⟨a,ha,hav⟩:=fu_ (x:=x) (i:=j) hjx;have hab:=vR_bd hs ha;have hao:=hx a (List.mem_of_getElem? ha);have hgx:(rE x)[((j:Nat):Int).toNat]?=some (rC a):=eb_ ha;obtain⟨b,hb,hbv⟩:=fu_ (x:=y) (i:=j) hjy;have hbb:=vR_bd ht hb;have hbo:=hy b (List.mem_of_getElem? hb);have hgy:(rE y)[((j:Nat):Int).toNat]?=some (rC b):=eb_ hb;obtain⟨c,hc⟩:∃c,c=a.1+b.1:=⟨_,rfl⟩;have hco:coP V j=c:=by rw[hV,dO_,if_pos (by simp;omega),←hav,←hbv,hc]
 have m1:=fL_ (rq 0) a (aR_ _) hao (by omega);rw[show(rq 0).1+a.1=a.1 from Rat.zero_add _] at m1;have m2:=fL_ (rq a.1) b (aR_ _) hbo (by show qs a.1+qs b.1≤_;omega);rw[show(rq a.1).1+b.1=c by rw[hc];rfl] at m2;have htk:=take_succ' (V:=V) (j:=j) (by omega);rw[hco] at htk;have hrp:rP (V.take (j+1))=rP (V.take j)++[rq c]:=by rw[htk];simp[rP]
 cases hQ:rP (V.take j) with
 |nil=>
  rw[hQ,List.nil_append] at hrp;simp only[ev_];refine aa_ (q_z 10 ?_);refine cT (ae_ (aa_ (ac_ (r_c 3 (hi0) ?_))));refine a_z ?_;refine aa_ (q_z 4 ?_);refine cT (r_d hmix 7 ?_);refine a_3 ?_;refine i_x hgx ?_;refine l_x hgx ?_;refine c_s (m1) ?_;refine a_1 ?_;refine ai_ (n_k ?_);refine aa_ (q_z 4 ?_);refine cT (r_d hmix 7 ?_);refine a_3 ?_;refine i_x hgy ?_;refine l_x hgy ?_;refine c_s (m2) ?_;refine a_1 ?_;refine ai_ (n_k ?_);refine r_m 5 ?_;refine a_z ?_;refine r_m 3 ?_;refine a_z ?_;refine⟨j+1,by omega,by omega,?_⟩;rw[hrp,bQ_];exact s_f [(1,5)]
 |cons q Q=>
  rw[hQ] at hQl;rw[hQ,List.cons_append] at hrp;simp at hQl;simp only[bQ_];refine aa_ (q_z 10 ?_);refine cT (ae_ (aa_ (ac_ (r_c 3 (hi0) ?_))));refine a_z ?_;refine aa_ (q_z 4 ?_);refine cT (r_d hmix 7 ?_);refine a_3 ?_;refine i_x hgx ?_;refine l_x hgx ?_;refine c_s (m1) ?_;refine a_1 ?_;refine ai_ (n_k ?_);refine aa_ (q_z 4 ?_);refine cT (r_d hmix 7 ?_);refine a_3 ?_;refine i_x hgy ?_;refine l_x hgy ?_;refine c_s (m2) ?_;refine a_1 ?_;refine ai_ (n_k ?_);refine r_m 5 ?_;refine a_z ?_;refine r_m 3 ?_;refine a_z ?_;refine⟨j+1,by omega,by omega,?_⟩;rw[hrp,bQ_];have e:rE (q::Q)++[rC (rq c)]=rE (q::(Q++[rq c])):=by simp[rE]
  exact s_x [(1,5)] (fun hs=>au_f) (fun hs=>e_9) e_4
 obtain⟨a,ha,hav⟩:=fu_ (x:=x) (i:=j) hjx;have hab:=vR_bd hs ha;have hao:=hx a (List.mem_of_getElem? ha);have hgx:(rE x)[((j:Nat):Int).toNat]?=some (rC a):=eb_ ha;obtain⟨c,hc⟩:∃c,c=a.1:=⟨_,rfl⟩;have hco:coP V j=c:=by rw[hV,dO_,if_pos (by simp;omega),←hav,co_ (p:=vR y) (by simp;omega),Rat.add_zero,hc]
 have m1:=fL_ (rq 0) a (aR_ _) hao (by omega);rw[show(rq 0).1+a.1=a.1 from Rat.zero_add _] at m1;rw[←hc] at m1;have htk:=take_succ' (V:=V) (j:=j) (by omega);rw[hco] at htk;have hrp:rP (V.take (j+1))=rP (V.take j)++[rq c]:=by rw[htk];simp[rP]
 cases hQ:rP (V.take j) with
 |nil=>
  rw[hQ,List.nil_append] at hrp;simp only[ev_];refine aa_ (q_z 10 ?_);refine cT (ae_ (aa_ (ac_ (r_c 3 (hi0) ?_))));refine a_z ?_;refine aa_ (q_z 4 ?_);refine cT (r_d hmix 7 ?_);refine a_3 ?_;refine i_x hgx ?_;refine l_x hgx ?_;refine c_s (m1) ?_;refine a_1 ?_;refine ai_ (n_k ?_);refine aa_ (q_z 4 ?_);refine cF (ae_ (r_m 5 ?_));refine a_z ?_;refine r_m 3 ?_;refine a_z ?_;refine⟨j+1,by omega,by omega,?_⟩;rw[hrp,bQ_];exact s_f [(1,5)]
 |cons q Q=>
  rw[hQ] at hQl;rw[hQ,List.cons_append] at hrp;simp at hQl;simp only[bQ_];refine aa_ (q_z 10 ?_);refine cT (ae_ (aa_ (ac_ (r_c 3 (hi0) ?_))));refine a_z ?_;refine aa_ (q_z 4 ?_);refine cT (r_d hmix 7 ?_);refine a_3 ?_;refine i_x hgx ?_;refine l_x hgx ?_;refine c_s (m1) ?_;refine a_1 ?_;refine ai_ (n_k ?_);refine aa_ (q_z 4 ?_);refine cF (ae_ (r_m 5 ?_));refine a_z ?_;refine r_m 3 ?_;refine a_z ?_;refine⟨j+1,by omega,by omega,?_⟩;rw[hrp,bQ_];have e:rE (q::Q)++[rC (rq c)]=rE (q::(Q++[rq c])):=by simp[rE]
  exact s_x [(1,5)] (fun hs=>au_f) (fun hs=>e_9) e_4
 by_cases hjy:j< y.length;obtain⟨b,hb,hbv⟩:=fu_ (x:=y) (i:=j) hjy;have hbb:=vR_bd ht hb;have hbo:=hy b (List.mem_of_getElem? hb);have hgy:(rE y)[((j:Nat):Int).toNat]?=some (rC b):=eb_ hb;obtain⟨c,hc⟩:∃c,c=b.1:=⟨_,rfl⟩;have hco:coP V j=c:=by rw[hV,dO_,if_pos (by simp;omega),co_ (p:=vR x) (by simp;omega),←hbv,Rat.zero_add,hc]
 have m2:=fL_ (rq 0) b (aR_ _) hbo (by omega);rw[show(rq 0).1+b.1=c by rw[hc];exact Rat.zero_add _] at m2;have htk:=take_succ' (V:=V) (j:=j) (by omega);rw[hco] at htk;have hrp:rP (V.take (j+1))=rP (V.take j)++[rq c]:=by rw[htk];simp[rP]
 cases hQ:rP (V.take j) with
 |nil=>
  rw[hQ,List.nil_append] at hrp;simp only[ev_];refine aa_ (q_z 10 ?_);refine cT (ae_ (aa_ (ac_ (r_c 3 (hi0) ?_))));refine a_z ?_;refine aa_ (q_z 4 ?_);refine cF (ae_ (aa_ (q_z 4 ?_)));refine cT (r_d hmix 7 ?_);refine a_3 ?_;refine i_x hgy ?_;refine l_x hgy ?_;refine c_s (m2) ?_;refine a_1 ?_;refine ai_ (n_k ?_);refine r_m 5 ?_;refine a_z ?_;refine r_m 3 ?_;refine a_z ?_;refine⟨j+1,by omega,by omega,?_⟩;rw[hrp,bQ_];exact s_f [(1,5)]
 |cons q Q=>
  rw[hQ] at hQl;rw[hQ,List.cons_append] at hrp;simp at hQl;simp only[bQ_];refine aa_ (q_z 10 ?_);refine cT (ae_ (aa_ (ac_ (r_c 3 (hi0) ?_))));refine a_z ?_;refine aa_ (q_z 4 ?_);refine cF (ae_ (aa_ (q_z 4 ?_)));refine cT (r_d hmix 7 ?_);refine a_3 ?_;refine i_x hgy ?_;refine l_x hgy ?_;refine c_s (m2) ?_;refine a_1 ?_;refine ai_ (n_k ?_);refine r_m 5 ?_;refine a_z ?_;refine r_m 3 ?_;refine a_z ?_;refine⟨j+1,by omega,by omega,?_⟩;rw[hrp,bQ_];have e:rE (q::Q)++[rC (rq c)]=rE (q::(Q++[rq c])):=by simp[rE]
  exact s_x [(1,5)] (fun hs=>au_f) (fun hs=>e_9) e_4
 have hge:V.take j=V:=List.take_of_length_le (by omega);rw[hge];cases hQ:rP V with
 |nil=>
  simp only[ev_];refine aa_ (q_z 10 ?_);refine cF (am_ ⟨(),trivial,?_⟩);exact s_e []
 |cons q Q=>
  simp only[bQ_];refine aa_ (q_z 10 ?_);refine cF (am_ ⟨(),trivial,?_⟩);exact s_f [(1,5)]
 rintro _ _;have htr:=cI_ (rP V) (by simp;omega);rw[e2_] at htr;cases hQ:rP V with
 |nil=>
  rw[hQ] at htr;simp only[ev_];refine r_c 3 (htr) ?_;refine a_z ?_;refine af_ (aJ_ rfl ?_ ?_);rw[hV];rfl;exact aS_ _
 |cons q Q=>
  rw[hQ] at htr;simp only[bQ_];refine s_r 3 ?_;refine a_1 ?_;refine o_1 (.callS1 rfl rfl rfl (.shut rfl d_n (.nil)) rfl ((FSpec.argE htr (by rw[List.drop_zero];exact List.take_of_length_le (by simp))))) ?_;refine a_z ?_;refine af_ (aJ_ rfl ?_ ?_);rw[hV];rfl;exact aS_ _
theorem qj_:rq (((-1:Int)):Rat)=rq (-1):=rfl
theorem fs_rSubP(x y:List RQ)(s t:Nat)(hx:okX x)(hy:okX y)(hs:bdL (vR x) s)(ht:bdL (vR y) t)(ht1:1≤t)(hlim:s+t+128≤1099511627776)(hxl:x.length≤1000000)(hyl:y.length≤1000000):FS 295 [.arr (rE x),.arr (rE y)] (.arr (rE (rP (subP (vR x) (vR y))))):=by
 have h1:=bF_ (-1) (by decide);rw[qj_] at h1;have q1:qs (rq (-1)).1≤64:=by decide
 have h2:=eP_ y (rq (-1)) t hy (aR_ _) ht (by omega) hyl
 have hb:bdL (vR (rP (av_ (vR y) (rq (-1)).1))) t:=by
  rw[vR_rP];exact tU_ ht ht1
 have hlen:(rP (av_ (vR y) (rq (-1)).1)).length≤y.length:=by
  have:=aB_ (tabP (vR y).length fun i=>coP (vR y) i* (rq (-1)).1);rw[aP_];unfold av_;simp at this⊢;exact this
 have h3:=ll_ x (rP (av_ (vR y) (rq (-1)).1)) s t hx (bS_ _) hs hb (by omega) hxl (by omega);rw[vR_rP] at h3;refine f_c Tryz.func295 ?_;refine r_z 1 ?_;refine r_c 6 (h1) ?_;refine c_s (h2) ?_;refine c_s (h3) ?_;refine a_z ?_;exact af_ (t_e (aS_ _))
theorem hA_{x y:List RQ}(hx:okX x)(hy:okX y):okX (x++y):=fun z hz=>(List.mem_append.1 hz).elim (hx z) (hy z)
theorem iR_(n:Nat):okX (List.replicate n r0):=fun z hz=>by rw[List.eq_of_mem_replicate hz];exact iN_
theorem gK_(x y:List RQ):vR (x++y)=vR x++vR y:=by simp[vR]
theorem id_(n:Nat):vR (List.replicate n r0)=List.replicate n 0:=by simp[vR,r0]
def zR4:List AV:=[i64 0,.emp,i64 0,.emp]
theorem le_zR4:LeL zR4 (rC r0):=by
 rw[show rC r0=[i64 0,.arr [],i64 0,.arr []] from rC_r0];exact .cons (.refl _) (.cons .emp (.cons (.refl _) (.cons .emp .nil)))
theorem bT_:∀c∈zR4,Closed c:=ab_ (ad_ _) (ab_ bc_ (ab_ (ad_ _) (ab_ bc_ ah_)))
theorem kl_(L:List RQ):∀n,LeLL (List.replicate n zR4++rE L) (rE (List.replicate n r0++L))
 |0=>LeLL.refl _
 |n+1=> .cons le_zR4 (kl_ L n)
theorem nh_(n:Nat)(L:List RQ):Closed (.arr (List.replicate n zR4++rE L)):=aL_ fun c hc=>(List.mem_append.1 hc).elim (fun h=>by rw[List.eq_of_mem_replicate h];exact bT_) (a6_ L c)
theorem FSpec.zerosR{P:Program}{f n:Nat}{L:List RQ}{a r:AV}(h:FSpec P f [a,.arr (rE (List.replicate n r0++L))] r)(ha:Closed a):FSpec P f [a,.arr (List.replicate n zR4++rE L)] r:=
 h.weak (.cons (Le.refl _) (.cons (Le.arr (kl_ L n)) .nil)) (ab_ ha (ab_ (nh_ n L) ah_))
theorem nv_(n:Nat):(List.replicate n zR4).all (·.all AV.one)=true:=by
 simp only[List.all_replicate];cases n <;> rfl
theorem g4_(x y:List RQ)(s t B:Nat)(hx:okX x)(hy:okX y)(hs:bdL (vR x) s)(ht:bdL (vR y) t)(hs1:1≤s)(hB:∀n,n≤y.length→bdL (mR (vR x) (vR y) n) B)(hlim:s+t+B+64≤1099511627776)(hxl:x.length≤100000)(hyl:y.length≤100000):FS 130 [.arr (rE x),.arr (rE y)] (.arr (rE (rP (mulP (vR x) (vR y))))):=by
 obtain⟨m,hm⟩:∃m,m=mR (vR x) (vR y):=⟨_,rfl⟩;rw[←hm] at hB;refine f_c Tryz.func130 ?_;refine r_z 1 ?_;refine r_z 1 ?_;refine aa_ (r_z 1 ?_);refine aw_ (fun _:Unit=>⟨[(5,.arr (rE (rP (m y.length)))),(0,.arr (rE x)),(1,.arr (rE y))],[],1,25⟩) (fun _=>True) ?_ ?_;refine ac_ (ap_ (fun j:Nat=>⟨[(6,i64 ((j:Nat):Int)),(5,.arr (rE (rP (m j)))),(0,.arr (rE x)),(1,.arr (rE y))],[],1,25⟩) (fun j=>y.length- j) (fun j=>j≤y.length) 0 (Nat.zero_le _) ?_ ?_);rw[hm];exact s_e [];rintro j hj;by_cases hlt:j< y.length
 ·obtain⟨b,hb,hbv⟩:=fu_ (x:=y) (i:=j) hlt
  have hbb:=vR_bd ht hb;have hbo:=hy b (List.mem_of_getElem? hb);have hgt:(rE y)[((j:Nat):Int).toNat]?=some (rC b):=eb_ hb;have h1:=eP_ x b s hx hbo hs (by omega) (by omega);have hl1:=pa_ (vR x) (vR y) j;rw[←hm,a3_] at hl1;have hl2:=bM_ (vR x) b.1;rw[a3_] at hl2
  have hz:bdL (vR (List.replicate j r0++rP (av_ (vR x) b.1))) (s+qs b.1):=by
   rw[gK_,id_,vR_rP];intro q hq;rcases List.mem_append.1 hq with h|h
   rw[List.eq_of_mem_replicate h];have:qs 0=1:=by decide
   omega;exact kK_ hs hs1 q h
  have h2:=ll_ (rP (m j)) (List.replicate j r0++rP (av_ (vR x) b.1)) B (s+qs b.1) (bS_ _) (hA_ (iR_ _) (bS_ _)) (by rw[vR_rP];exact hB j (by omega)) hz (by omega) (by rw[aP_];omega) (by rw[List.length_append,List.length_replicate,aP_];omega)
  have hnx:addP (vR (rP (m j))) (vR (List.replicate j r0++rP (av_ (vR x) b.1)))=m (j+1):=by
   rw[vR_rP,gK_,id_,vR_rP,hm,mR,←hbv];rfl
  rw[hnx] at h2;refine aa_ (q_z 4 ?_);refine cT (ae_ (aa_ (ac_ ?_)));have h3:=FSpec.zerosR h2 (aS_ _);refine r_d hmix 12 ?_;refine a_6 ?_;refine i_x hgt ?_;refine l_x hgt ?_;refine c_s (h1) ?_;refine o_2 (.append_l rfl rfl rfl te_66.h rfl rfl rfl rfl rfl d_o (nv_ _) (cy_ _) rfl (.arr (e7_ _)) TZ.h rfl TB.h d_o (by first|(simp[maxLen];done)|(simp[maxLen];omega))) ?_;refine o_1 (.callS1 rfl rfl rfl (.keep (.shut rfl d_n (.nil))) rfl ((FSpec.argE2 h3 (by rw[List.drop_zero];exact List.take_of_length_le (by simp))))) ?_;refine a_1 ?_;refine ai_ (n_k ?_);refine r_m 3 ?_;refine a_z ?_;refine⟨j+1,by omega,hlt,?_⟩;exact s_e []
 have hge:j=y.length:=by omega
 subst hge;refine aa_ (q_z 4 ?_);refine cF (am_ ⟨(),trivial,?_⟩);exact s_e [];rintro _ _;refine r_z 2 ?_;refine af_ ?_;have e:m y.length=mulP (vR x) (vR y):=by rw[hm,←kk_,a3_]
 rw[e];exact t_e (aS_ _)
def dSt(d:List Rat)(s:List Rat×List RQ):List Rat×List RQ:=
 (addP s.1 (shP ((vR s.2).length- d.length) [leadP (vR s.2) / leadP d]),rP (subP (vR s.2) (mulP d (shP ((vR s.2).length- d.length) [leadP (vR s.2) / leadP d]))))
def dRn(d:List Rat):Nat→List Rat×List RQ→List Rat×List RQ
 |0,s=>s
 |n+1,s=>if d.length≤s.2.length then dRn d n (dSt d s) else s
structure DInv (p d:List Rat)(t L:Nat)(s:List Rat×List RQ):Prop where
 ok:okX s.2
 tr:trimQ (vR s.2)=vR s.2
 bd:∃b,1≤b∧bdL (vR s.2) b∧bdL s.1 b∧(b+2* t+3) * 2^ s.2.length≤L
 ln:s.2.length≤p.length
 lq:s.1.length≤p.length
 ev:∀x,evalP p x=evalP s.1 x* evalP d x+evalP (vR s.2) x
theorem DInv.step{p d:List Rat}{t L:Nat}{s:List Rat×List RQ}(h:DInv p d t L s)(hd:trimQ d=d)(hd0:d≠[])(hdt:bdL d t)(ht:1≤t)(hl:d.length≤s.2.length):DInv p d t L (dSt d s)∧(dSt d s).2.length< s.2.length:=by
 obtain⟨q,X⟩:=s;obtain⟨ok,tr,⟨b,b1,bx,bq,hb⟩,ln,lq,ev⟩:=h;simp only at *
 have hdl:=List.length_pos_iff.2 hd0;have hlt:=step_len tr hd hd0 (by rw[a3_];exact hl);obtain⟨s1,s2,s3⟩:=q8_ bx hdt b1 ht hd0 ((vR X).length- d.length);obtain⟨a,ha⟩:∃a,a=leadP (vR X) / leadP d:=⟨_,rfl⟩;unfold dSt;simp only;rw[a3_] at hlt s2 s3⊢;rw[←ha] at hlt s1 s2 s3⊢;refine⟨⟨bS_ _,?_,⟨2* b+2* t+3,by omega,?_,?_,?_⟩,?_,?_,?_⟩,?_⟩;rw[vR_rP];exact qY_ _ _;rw[vR_rP];exact s3;have h1:bdL [a] (b+t):=fun x hx=>by rw[List.mem_singleton.1 hx];exact s1
 exact eF_ (p5_ bq (tT_ h1 (by omega) _) b1 (by omega)) (by omega);simp only[aP_];obtain⟨n,hn⟩:∃n,X.length=n+1:=⟨X.length- 1,by omega⟩;have h1:2^ (subP (vR X) (mulP d (shP (X.length- d.length) [a]))).length≤2^ n:=Nat.pow_le_pow_right (by decide) (by omega);have h2:=Nat.mul_le_mul_left (2* b+2* t+3+2* t+3) h1
 have h3:(b+2* t+3) * 2^ X.length=(2* b+2* t+3+2* t+3) * 2^ n:=by
  rw[hn,Nat.pow_succ,show 2* b+2* t+3+2* t+3=(b+2* t+3) * 2 by omega,Nat.mul_assoc,Nat.mul_comm 2 (2^ n)]
 omega;simp only[aP_];omega;have h1:=hn_ q (shP (X.length- d.length) [a]);rw[dr_] at h1;simp at h1⊢;omega;intro x;rw[vR_rP,bf_,ak_,a1_,ev x];grind;simp only[aP_];exact hlt
theorem DInv.run{p d:List Rat}{t L:Nat}(hd:trimQ d=d)(hd0:d≠[])(hdt:bdL d t)(ht:1≤t):∀n s,DInv p d t L s→s.2.length≤n→DInv p d t L (dRn d n s)∧(dRn d n s).2.length< d.length
 |0,s,h,hn=>by
  have:=List.length_pos_iff.2 hd0;exact⟨h,by unfold dRn;omega⟩
 |n+1,s,h,hn=>by
  unfold dRn;by_cases hl:d.length≤s.2.length;rw[if_pos hl];obtain⟨h1,h2⟩:=h.step hd hd0 hdt ht hl;exact DInv.run hd hd0 hdt ht n _ h1 (by omega);rw[if_neg hl];exact⟨h,by omega⟩
theorem if_{x:List RQ}(h:trimQ (vR x)=vR x):trimR x=x:=by
 unfold trimR;rw[h,a3_,List.take_length]
theorem i8_{x:List RQ}(h:trimQ (vR x)=vR x)(hx:x≠[]):∃y,x.getLastD (rq 0)=y∧y.1=leadP (vR x)∧y∈x:=by
 obtain⟨n,hn⟩:∃n,x.length=n+1:=⟨x.length- 1,by have:=List.length_pos_iff.2 hx;omega⟩;obtain⟨y,h1,h2,h3⟩:=oE_ (x:=x) (n:=n) (by rw[h,a3_];exact hn);rw[if_ h] at h1;refine⟨y,?_,h2,h3⟩;rw[List.getLastD_eq_getLast?,List.getLast?_eq_getElem?,hn,Nat.add_sub_cancel,h1];rfl
theorem CvLL.zerosR{r:Ren}{hp hp':Nat→Option ABlk}(h:Shr r hp hp')(L:List RQ):∀n,CvLL r hp hp' (List.replicate n zR4++rE L) (rE (List.replicate n r0++L))
 |0=>bi_ h (a6_ L)
 |n+1=>by
  refine CvLL.cons (ys:=rE (List.replicate n r0++L)) ?_ (CvLL.zerosR h L n);show CvL r hp hp' zR4 (rC r0);rw[rC_r0];exact ag_ (an_ h (ad_ _)) (ag_ (Cv.emp _) (ag_ (an_ h (ad_ _)) (ag_ (Cv.emp _) ao_)))
theorem Cv.shutZ{r:Ren}{hp hp':Nat→Option ABlk}{id sz n k:Nat}{cap:Option Nat}{c:Rat}{B:ABlk}(h:Shr r hp hp')(hi:cellF hp id=some B)(hi':Dead r hp' id)(he:B.es=List.replicate k zR4++[rC (rq c)])(hn:n=k+1):Cv r hp hp' (.lsl id 0 n cap sz) (.arr (rE (List.replicate k r0++[rq c]))):=by
 subst hn;refine Cv.shut h hi hi' (by rw[he];simp) ?_;rw[he,List.drop_zero,List.take_of_length_le (by simp)];exact CvLL.zerosR h [rq c] k
theorem hF_(x y:List RQ)(s t:Nat)(hx:okX x)(hy:okX y)(hs:bdL (vR x) s)(ht:bdL (vR y) t)(hs1:1≤s)(ht1:1≤t)(hy0:nz (vR y))(hlim:(s+2* t+3) * 2^ x.length≤274877906944)(hxl:x.length≤50000)(hyl:y.length≤50000):
    ∃(u:List Rat) (v:List RQ),okX v∧trimQ u=(divP (vR x) (vR y)).1∧trimQ (vR v)=(divP (vR x) (vR y)).2∧u.length≤x.length∧v.length≤x.length∧FS 263 [.arr (rE x),.arr (rE y)] (.tup [.arr (rE (rP u)),.arr (rE v)]):=by
 obtain⟨d,hd⟩:∃d,d=vR (trimR y):=⟨_,rfl⟩;have hd':d=trimQ (vR y):=hd.trans (e1_ y);have hdd:trimQ d=d:=by rw[hd'];exact aO_ _
 have hd0:d≠[]:=by rw[hd'];exact hy0
 have hdt:bdL d t:=by rw[hd'];exact hk_ ht
 have hdl:d.length=(trimR y).length:=by rw[hd,a3_]
 have hyt:(trimR y).length≤y.length:=by rw[cq_,←a3_ y];exact aB_ _
 have hxt:(trimR x).length≤x.length:=by rw[cq_,←a3_ x];exact aB_ _
 have hoy:=gR_ hy;have hty:trimQ (vR (trimR y))=vR (trimR y):=by rw[←hd];exact hdd
 have i0:DInv (vR x) d t 274877906944 ([],trimR x):=by
  refine⟨gR_ hx,by rw[e1_];exact aO_ _,⟨s,hs1,by rw[e1_];exact hk_ hs,(fun _ h=>by cases h),?_⟩,by rw[a3_];exact hxt,Nat.zero_le _,fun z=>by rw[e1_,bk_,ax_];grind⟩;exact Nat.le_trans (Nat.mul_le_mul_left _ (Nat.pow_le_pow_right (by decide) hxt)) hlim
 obtain⟨⟨u,v⟩,hr⟩:∃r,r=dRn d x.length ([],trimR x):=⟨_,rfl⟩;obtain⟨hi,hlt⟩:=DInv.run hdd hd0 hdt ht1 x.length ([],trimR x) i0 hxt;rw[←hr] at hi hlt;have hu:=div_uniq (p:=vR x) (q:=vR y) (u:=u) (v:=vR v) hy0 (fun z=>by rw[hi.ev z,hd',bk_]) (by rw[hi.tr,a3_,←hd'];exact hlt);refine⟨u,v,hi.ok,hu.1,hu.2,by have:=hi.lq;rwa[a3_] at this,by have:=hi.ln;rwa[a3_] at this,?_⟩;have hyn:trimR y≠[]:=fun e=>hd0 (by rw[hd,e];rfl);obtain⟨b,hb,hbl,hbm⟩:=i8_ hty hyn;have hld:leadP d≠0:=bw_ (by rw[hdd];exact hd0);rw[←hd] at hbl;have hbt:qs b.1≤t:=hdt _ (by rw[hd];exact List.mem_map.2 ⟨b,hbm,rfl⟩);refine f_c Tryz.func263 ?_;refine r_z 2 ?_;refine r_c 6 (cI_ x (by omega)) ?_;refine c_s (cI_ y (by omega)) ?_;refine a_z ?_;refine r_z 1 ?_;have hlb:=is_ (trimR y) b (by omega) (by rw[if_ hty];exact hb);refine aa_ (aw_ (fun _:Unit=>⟨[(0,.arr (rE v)),(6,.arr (rE (rP u)))],[],1,40⟩) (fun _=>True) ?_ ?_);refine ac_ (ap_ (fun s:List Rat×List RQ=>⟨[(0,.arr (rE s.2)),(1,.arr (rE (trimR y))),(6,.arr (rE (rP s.1)))],[],1,40⟩) (fun s=>s.2.length) (fun s=>DInv (vR x) d t 274877906944 s∧∃n,s.2.length≤n∧dRn d n s=(u,v)) ([],trimR x) ⟨i0,x.length,hxt,hr.symm⟩ ?_ ?_);exact s_e [];rintro⟨q,X⟩ ⟨hI,n,hn,hrn⟩;have hI0:=hI;obtain⟨ok,tr,⟨w,w1,wx,wq,hw⟩,ln,lq,ev⟩:=hI;simp only at *
 rw[a3_] at ln lq;by_cases hle:(trimR y).length≤X.length
 ·have hstep:=hI0.step hdd hd0 hdt ht1 (by simp only;omega)
  have hXn:X≠[]:=fun e=>by
   have:=List.length_pos_iff.2 hyn;rw[e] at hle;have h0:([]:List RQ).length=0:=rfl;omega
  have hX1:=List.length_pos_iff.2 hXn;obtain⟨a,hal,hav,ham⟩:=i8_ tr hXn;have hao:=ok a ham;have hab:qs a.1≤w:=wx _ (List.mem_map.2 ⟨a,ham,rfl⟩);have hla:=is_ X a (by omega) (by rw[if_ tr];exact hal)
  have hwL:2* (w+2* t+3)≤274877906944:=by
   have h1:2^ 1≤2^ X.length:=Nat.pow_le_pow_right (by decide) hX1;have h2:=Nat.mul_le_mul_left (w+2* t+3) h1;omega
  have hdv:=fe_ a b hao (hoy b hbm) (by rw[hbl];exact hld) (by omega);obtain⟨k,hk⟩:∃k,k=X.length- (trimR y).length:=⟨_,rfl⟩;obtain⟨c,hc⟩:∃c,c=a.1/ b.1:=⟨_,rfl⟩;rw[←hc] at hdv;have hck:c=leadP (vR X) / leadP d:=by rw[hc,hav,hbl]
  obtain⟨s1,s2,s3⟩:=q8_ wx hdt w1 ht1 hd0 k;rw[←hck] at s1 s2 s3;have hcb:bdL [c] (w+t):=fun z hz=>by rw[List.mem_singleton.1 hz];exact s1
  have hT:vR (List.replicate k r0++[rq c])=shP k [c]:=by rw[gK_,id_];rfl
  have hTo:okX (List.replicate k r0++[rq c]):=hA_ (iR_ _) (fun z hz=>by rw[List.mem_singleton.1 hz];exact aR_ _);have hTb:bdL (vR (List.replicate k r0++[rq c])) (w+t):=by rw[hT];exact tT_ hcb (by omega) _
  have hTl:(List.replicate k r0++[rq c]).length=k+1:=by simp
  have hA:=ll_ (rP q) (List.replicate k r0++[rq c]) w (w+t) (bS_ _) hTo (by rw[vR_rP];exact wq) hTb (by omega) (by rw[aP_];omega) (by omega);rw[vR_rP,hT] at hA
  have hM:=g4_ (trimR y) (List.replicate k r0++[rq c]) t (w+t) (t+(w+t)+2) hoy hTo (by rw[←hd];exact hdt) hTb ht1 (fun i hi=>by
   rw[←hd,hT];exact eF_ (f8_ hdt ht1 i (by omega)) (by omega)) (by omega) (by omega) (by omega)
  rw[←hd,hT] at hM
  have hS:=fs_rSubP X (rP (mulP d (shP k [c]))) w (2* t+w+2) ok (bS_ _) wx (by rw[vR_rP];exact s2) (by omega) (by omega) (by omega) (by
   have h9:=pa_ d (shP k [c]) (shP k [c]).length;rw[kk_,dr_] at h9;simp at h9⊢;omega)
  rw[vR_rP] at hS
  have hnext:dSt d (q,X)=(addP q (shP k [c]),rP (subP (vR X) (mulP d (shP k [c])))):=by
   unfold dSt;simp only;rw[a3_,hdl,←hk,←hck]
  have hsub:((X.length:Nat):Int)- ((trimR y).length:Nat)=(k:Int):=by omega
  refine aa_ (q_z 5 ?_);refine cT (ae_ (ac_ (aa_ (r_d hmix 14 ?_))));refine a_5 ?_;refine o_1 (.makeSlice (l:=k) (c:=k) (by rw[←hsub];rfl) (by rw[←hsub];rfl) te_66.h TZ.h rfl TB.h (by first|omega|(simp;done)|(simp;omega)) (by first|omega|(simp;done)|(simp;omega)) (by unfold maxLen;first|omega|(simp;done)|(simp;omega))) ?_;refine c_s (hla) ?_;refine c_s (hlb) ?_;refine c_s (hdv) ?_;refine a_1 ?_;refine o_2 (.append_l rfl rfl rfl te_66.h rfl rfl rfl rfl rfl d_o (nv_ _) rfl rfl (.lsl rfl (nle rfl)) TZ.h rfl TB.h d_o (by first|(simp[maxLen];done)|(simp[maxLen];omega))) ?_;refine a_1 ?_;refine ai_ (n_k ?_);refine AWp.ent (st':=⟨[(0,.arr (rE X)),(1,.arr (rE (trimR y))),(6,.arr (rE (rP q))),(7,.arr (rE (List.replicate k r0++[rq c])))],[],1,40⟩) ?_ ?_;refine s_x [] (fun hs=>?_) (fun hs=>?_)
  ·repeat' (first|exact a2_|refine aH_ rfl ?_ ?_|exact Cv.shutZ hs rfl (aW_ rfl) rfl rfl|exact au_c)
  ·repeat' (first|exact az_|refine h_c ?_ ?_|exact au_e|refine al_ ?_|exact ao_|refine ag_ ?_ ?_|exact Cv.shutZ hs rfl (aW_ rfl) rfl rfl|exact au_c)
  refine r_c 4 (hA) ?_;refine a_z ?_;refine r_m 6 ?_;refine c_s (hM) ?_;refine c_s (hS) ?_;refine a_z ?_;refine⟨dSt d (q,X),hstep.2,⟨hstep.1,?_⟩,?_⟩;cases n with
  |zero=>omega
  |succ n=>
   refine⟨n,by have:=hstep.2;simp only at this;omega,?_⟩;rw[dRn,if_pos (by simp only;omega)] at hrn;exact hrn
  rw[hnext];exact s_e []
 have hfin:(q,X)=(u,v):=by
  rw[←hrn];cases n with
  |zero=>rfl
  |succ n=>rw[dRn,if_neg (by simp only;omega)]
 cases hfin;refine aa_ (q_z 5 ?_);refine cF (am_ ⟨(),trivial,?_⟩);exact s_e [];rintro _ _;refine r_z 4 ?_;refine af_ (Fin.many ⟨_,_,rfl,rfl,⟨_,_,rfl,rfl,rfl⟩⟩ (nle rfl) ?_);exact ag_ (an_ ar_ (aS_ _)) (ag_ (an_ ar_ (aS_ _)) ao_)
theorem g5_(x:List RQ)(L:Nat)(hx:okX x)(hs:bdL (vR x) L)(hL:1≤L)(hlim:2* L+64≤1099511627776)(hl:x.length≤1000000):FS 134 [.arr (rE x)] (.arr (rE (rP (aG_ (vR x))))):=by
 have hi1:FS 112 [i64 1] (.agg (rC (rq 1))):=bF_ 1 (by decide);refine f_c Tryz.func134 ?_;refine r_z 1 ?_;refine aa_ (r_c 3 (dw_ x (by omega)) ?_);refine a_z ?_;refine aj_ rfl (fun h1=>?_) (fun h1=>?_);have e:trimQ (vR x)=[]:=degP_neg.1 (by simpa using h1);have em:aG_ (vR x)=[]:=by unfold aG_;rw[if_pos e]
 refine r_z 1 ?_;refine af_ ?_;rw[em];exact Fin.tmpN rfl;have hz:nz (vR x):=fun e=>by have:=degP_neg.2 e;simp at h1;omega
 obtain⟨n,hn⟩:∃n,(trimQ (vR x)).length=n+1:=⟨(trimQ (vR x)).length- 1,by have:=List.length_pos_iff.2 hz;omega⟩;obtain⟨y,y1,y2,y3⟩:=oE_ hn;have yx:y∈x:=y3;have yo:rok y:=hx y yx;have yq:qs y.1≤L:=by rw[y2];exact gB_ hs hL
 have y0:y.1≠0:=by rw[y2];exact bw_ hz
 have hy:(trimR x).getLastD (rq 0)=y:=by
  rw[List.getLastD_eq_getLast?,List.getLast?_eq_getElem?,cq_,hn,Nat.add_sub_cancel,y1];rfl
 have hdv:=fe_ (rq 1) y (aR_ 1) yo y0 (by have:qs ((rq 1).1)=1:=kg_
                                          omega)
 have hk:qs (1/ y.1)≤1+L:=Nat.le_trans (cX_ _ _) (by have:=kg_;omega);have hsc:=eP_ x (rq (1/ y.1)) L hx (aR_ _) hs (by show L+qs (1/ y.1)≤_;omega) hl;have em:aG_ (vR x)=av_ (vR x) (1/ y.1):=by unfold aG_;rw[if_neg hz,y2]
 refine ae_ (r_c 7 (hi1) ?_);refine c_s (is_ x y hl hy) ?_;refine c_s (hdv) ?_;refine c_s (hsc) ?_;refine a_z ?_;refine af_ ?_;rw[em];exact t_e (aS_ _)
def gR:List RQ×List RQ→AState
 |(x,y)=>⟨[(0,.arr (rE x)),(1,.arr (rE y))],[],1,21⟩
theorem gR_mk(x:List RQ)(y:List RQ):gR (x,y)=⟨[(0,.arr (rE x)),(1,.arr (rE y))],[],1,21⟩:=rfl
theorem fs_rGcd(f B:Nat)(x y:List RQ)(g:List Rat)(hx:okX x)(hy:okX y)(hz:gsz f (vR x) (vR y) B)(hg:gcdM f (vR x) (vR y)=some g)(hB:1≤B)(hlim:(3* B+3) * 256≤274877906944)(hxl:x.length≤8)(hyl:y.length≤8):
    FS 264 [.arr (rE x),.arr (rE y)] (.arr (rE (rP g))):=by
 refine f_c Tryz.func264 ?_;refine r_z 1 ?_;refine aa_ (aw_ (fun p:List RQ=>⟨[(0,.arr (rE p))],[],1,21⟩) (fun p=>okX p∧bdL (vR p) B∧p.length≤8∧aG_ (vR p)=g) ?_ ?_);refine ac_ (ap_ (fun s:Nat×List RQ×List RQ=>gR (s.2.1,s.2.2)) (fun s=>s.1) (fun s=>okX s.2.1∧okX s.2.2∧gsz s.1 (vR s.2.1) (vR s.2.2) B∧gcdM s.1 (vR s.2.1) (vR s.2.2)=some g∧s.2.1.length≤8∧s.2.2.length≤8) (f,x,y) ⟨hx,hy,hz,hg,hxl,hyl⟩ ?_ ?_);simp only[gR_mk];exact s_e [];rintro⟨f,x,y⟩ ⟨hx,hy,hz,hg,hxl,hyl⟩;simp only at hx hy hz hg hxl hyl;simp only[gR_mk];cases f with
 |zero=>cases hg
 |succ f=>
  rw[gcdM] at hg;obtain⟨hbx,hz⟩:=hz;refine aa_ (r_c 3 (dw_ y (by omega)) ?_);refine a_z ?_;refine aj_ rfl (fun h1=>?_) (fun h1=>?_)
  ·have hn:nz (vR y):=fun e=>by have:=degP_neg.2 e;simp at h1;omega
   obtain⟨hby,hz⟩:=hz hn;rw[if_neg hn] at hg;split at hg
   case isFalse=>cases hg
   case isTrue hok=>
   have hp2:(B+2* B+3) * 2^ x.length≤274877906944:=Nat.le_trans (Nat.mul_le_mul (show B+2* B+3≤3* B+3 by omega) (Nat.pow_le_pow_right (by decide) hxl)) hlim;obtain⟨u,v,vo,v1,v2,v3,v4,hdv⟩:=hF_ x y B B hx hy hbx hby hB hB hn hp2 (by omega) (by omega)
   have hbr:bdL (vR v) 274877906944:=by
    refine dM_ fun i=>?_;rw[←bg_,v2]
    have:=(fk_ (L:=274877906944) hbx hby hB hB hn (Nat.le_trans (Nat.mul_le_mul (Nat.pow_le_pow_right (by decide) (show _≤8 by
     have h1:=aB_ (vR x);have h2:=List.length_pos_iff.2 hn;rw[a3_] at h1;omega)) (show B+2* B+1≤3* B+3 by omega)) (by rw[Nat.mul_comm];exact hlim))).2
    exact bj_ this (by decide) i
   have hmo:=g5_ v 274877906944 vo hbr (by decide) (by decide) (by omega);rw[←i0_,v2] at hmo;have hml:=f7_ (divP (vR x) (vR y)).2
   have hdl:(divP (vR x) (vR y)).2.length≤8:=by
    have:=(fj_ (p:=vR x) (q:=vR y)).2;rw[a3_] at this;omega
   refine ae_ (ac_ (r_c 8 (hdv) ?_));refine a_z ?_;refine r_m 5 ?_;refine c_s (hmo) ?_;refine a_z ?_;refine⟨(f,y,rP (aG_ (divP (vR x) (vR y)).2)),Nat.lt_succ_self f,⟨hy,bS_ _,by rw[vR_rP];exact hz,by rw[vR_rP];exact hg,hyl,by rw[aP_];omega⟩,?_⟩;simp only[gR_mk];exact s_e []
  ·have hn:trimQ (vR y)=[]:=degP_neg.1 (by simpa using h1)
   rw[if_pos hn] at hg;split at hg
   case isFalse=>cases hg
   case isTrue=>
   cases hg;refine am_ ⟨x,⟨hx,hbx,hxl,rfl⟩,?_⟩;exact s_e []
 rintro p ⟨po,pb,pl,pe⟩;have hmo:=g5_ p B po pb hB (by omega) (by omega);rw[pe] at hmo;refine r_c 3 (hmo) ?_;refine a_z ?_;exact af_ (t_e (aS_ _))
theorem gs_(f B:Nat)(x:List RQ)(s:List Rat)(hx:okX x)(hs:sqfM f (vR x)=some s)(hz:gsz f (vR x) (at_ (vR x)) B)(hB:1≤B)(hlim:(3* B+3) * 256≤274877906944)(hgB:∀g,gcdM f (vR x) (at_ (vR x))=some g→bdL g B∧g.length≤1000)(hxl:x.length≤8):
    FS 213 [.arr (rE x)] (.arr (rE (rP s))):=by
 unfold sqfM at hs;split at hs
 case isFalse=>cases hs
 case isTrue hsm=>
 cases hg:gcdM f (vR x) (at_ (vR x)) with
 |none=>rw[hg] at hs;cases hs
 |some g=>
  rw[hg,Option.bind_some] at hs;split at hs
  case isFalse=>cases hs
  case isTrue hok=>
  cases hs;have hdl:=dd_ (vR x);rw[a3_] at hdl
  have hbx:bdL (vR x) B:=by
   cases f with
   |zero=>cases hg
   |succ f=>exact hz.1
  obtain⟨hgb,hgl⟩:=hgB g hg;have hde:=kt_ x B hx hbx (by omega) (by omega);have hgc:=fs_rGcd f B x (rP (at_ (vR x))) g hx (bS_ _) (by rw[vR_rP];exact hz) (by rw[vR_rP];exact hg) hB hlim hxl (by rw[aP_];omega);have hp2:(B+2* B+3) * 2^ x.length≤274877906944:=Nat.le_trans (Nat.mul_le_mul (show B+2* B+3≤3* B+3 by omega) (Nat.pow_le_pow_right (by decide) hxl)) hlim;obtain⟨u,v,vo,v1,v2,v3,v4,hdv⟩:=hF_ x (rP g) B B hx (bS_ _) hbx (by rw[vR_rP];exact hgb) hB hB (by rw[vR_rP];exact hok.1) hp2 (by omega) (by rw[aP_];omega);rw[vR_rP] at v1 v2
  have hbr:bdL u 274877906944:=by
   refine dM_ fun i=>?_;rw[←bg_,v1]
   have:=(fk_ (L:=274877906944) hbx hgb hB hB hok.1 (Nat.le_trans (Nat.mul_le_mul (Nat.pow_le_pow_right (by decide) (show _≤8 by
    have h1:=aB_ (vR x);have h2:=List.length_pos_iff.2 hok.1;rw[a3_] at h1;omega)) (show B+2* B+1≤3* B+3 by omega)) (by rw[Nat.mul_comm];exact hlim))).1
   exact bj_ this (by decide) i
  have hmo:=g5_ (rP u) 274877906944 (bS_ _) (by rw[vR_rP];exact hbr) (by decide) (by decide) (by rw[aP_];omega);rw[vR_rP,←i0_,v1] at hmo;refine f_c Tryz.func213 ?_;refine r_z 1 ?_;refine r_c 11 (hde) ?_;refine c_s (hgc) ?_;refine c_s (hdv) ?_;refine a_z ?_;refine r_c 3 (hmo) ?_;refine a_z ?_;exact af_ (t_e (aS_ _))
theorem rP_get{l:List Rat}{i:Nat}(h:i< l.length):(rE (rP l))[((i:Nat):Int).toNat]?=some (rC (rq (coP l i))):=
 eb_ (show(rP l)[i]?=some (rq (coP l i)) by rw[rP,List.getElem?_map,a9_ h];rfl)
def kR(X:List RQ):Nat×Nat→AState
 |(i,k)=>⟨[(0,.arr (rE X)),(3,.lptr 1 0 0),(4,i64 i)],[(1,some ⟨40,2,[zZ (k:Int)]⟩)],2,48⟩
def nR2(l:List Rat):Nat×Nat→AState
 |(i,g)=>⟨[(0,.arr (rE (rP l))),(5,.lptr 1 0 0),(6,i64 i)],[(1,some ⟨40,2,[zZ (g:Int)]⟩)],2,48⟩
theorem fc_(x:List RQ)(s:Nat)(hx:okX x)(hs:bdL (vR x) s)(hs1:1≤s)(hz:nz (vR x))(hlim:(x.length+4) * s≤137438953472)(hl:x.length≤1000000):
    FS 293 [.arr (rE x)] (.arr (rE (rP (primP (vR x))))):=by
 have hi1:FS 112 [i64 1] (.agg (rC (rq 1))):=bF_ 1 (by decide);obtain⟨X,hX⟩:∃X,X=trimR x:=⟨_,rfl⟩;obtain⟨t,ht⟩:∃t,t=trimQ (vR x):=⟨_,rfl⟩;have hXt:vR X=t:=by rw[hX,ht,e1_]
 have hXl:X.length=t.length:=by rw[←hXt,a3_]
 have hXx:X.length≤x.length:=by rw[hX,cq_,←a3_ x];exact aB_ _
 have hXo:okX X:=by rw[hX];exact gR_ hx
 have hbt:bdL t s:=by rw[ht];exact hk_ hs
 have hts:t.length* s≤x.length* s:=Nat.mul_le_mul_right _ (by omega);rw[Nat.add_mul] at hlim;obtain⟨K,hK⟩:∃K,K=denP t 1:=⟨_,rfl⟩;have hK0:K≠0:=by rw[hK];exact om_ t (by decide)
 have hKb:bl K≤1+t.length* s:=by rw[hK];exact tu_ t 1 hbt
 have hKq:=qs_nQ (n:=K) (k:=1+t.length* s) hKb (by omega);obtain⟨l,hle⟩:∃l,l=av_ t (nQ K):=⟨_,rfl⟩;have hll:l.length≤t.length:=by rw[hle];exact bM_ _ _
 have hlb:bdL l (s+(1+t.length* s)):=by rw[hle];exact rj_ hbt hs1 hKq
 obtain⟨G,hG⟩:∃G,G=gcdN l 0:=⟨_,rfl⟩;have hdoc:=prim_doc hz;rw[←ht,←hK,←hle,←hG] at hdoc;have hG0:nQ G≠0:=fun e=>hdoc.2 (nQ_zero.1 e);rw[←hdoc.1];refine f_c Tryz.func293 ?_;refine r_z 1 ?_;refine r_c 3 (cI_ x (by omega)) ?_;refine a_z ?_;rw[←hX];refine r_c 3 (eG_ 1 (by decide)) ?_;refine a_z ?_;refine aa_ (r_z 1 ?_);refine aw_ (fun _:Unit=>⟨[(0,.arr (rE X)),(3,.lptr 1 0 0)],[(1,some ⟨40,2,[zZ (K:Int)]⟩)],2,48⟩) (fun _=>True) ?_ ?_;refine ac_ (ap_ (kR X) (fun x=>X.length- x.1) (fun x=>x.1≤X.length∧bl x.2+(t.length- x.1) * s≤1+t.length* s∧denP (t.drop x.1) x.2=K) (0,1) ⟨Nat.zero_le _,by simp only[jJ_,Nat.sub_zero];omega,by rw[hK];rfl⟩ ?_ ?_);simp only[kR.eq_1];exact s_e [(1,3)];rintro⟨i,k⟩ ⟨hi,hkb,hk⟩;simp only at hi hkb hk;rw[kR.eq_1];refine aa_ (r_z 4 ?_);refine aj_ rfl (fun h=>?_) (fun h=>?_);refine ae_ ?_;have hlt:i< X.length:=by simpa using h
 obtain⟨y,hy,hyc⟩:=fu_ hlt;have hym:=List.mem_of_getElem? hy;have hgt:(rE X)[((i:Nat):Int).toNat]?=some (rC y):=eb_ hy;rw[hXt] at hyc;have hc:=bj_ hbt hs1 i;rw[←hyc] at hc;have hd:=bU_ y.1;rw[hJ_ (show i< t.length by omega),denP,←hyc] at hk
 have e1:(t.length- i) * s=(t.length- (i+1)) * s+s:=by
  rw[show t.length- i=t.length- (i+1)+1 by omega,Nat.succ_mul]
 have hmb:=e0_ k y.1.den;have hmu:=eh_ (k:Int) (y.1.den:Int) (by unfold zl;rw[Int.natAbs_natCast];omega) (by unfold zl;rw[Int.natAbs_natCast];omega);rw[←Int.natCast_mul] at hmu;refine aa_ (ac_ (r_d hmix 8 ?_));refine a_3 ?_;refine i_x hgt ?_;refine l_x hgt ?_;refine c_s (fs_rDen y (hXo y hym)) ?_;refine c_s (hmu) ?_;refine a_1 ?_;refine ai_ (n_k ?_);refine r_m 3 ?_;refine a_z ?_;refine⟨(i+1,k* y.1.den),by simp only;omega,⟨hlt,by simp only;omega,hk⟩,?_⟩;simp only[kR.eq_1];exact s_e []
 have hge:i=X.length:=by
  have:¬i< X.length:=by simpa using h
  omega
 subst hge;rw[hXl,List.drop_length] at hk;have hk':k=K:=hk;subst hk';refine am_ ⟨(),trivial,?_⟩;exact s_e [];rintro _ _;have hsc:=eP_ X (rq (nQ K)) s hXo (aR_ _) (by rw[hXt];exact hbt) (by show s+qs (nQ K)≤_;omega) (by omega);rw[hXt] at hsc;have hsc':FS 131 [.arr (rE X),.agg (rC (rq (nQ K)))] (.arr (rE (rP l))):=by rw[hle];exact hsc
 refine r_c 5 (mH_ (K:Int)) ?_;refine c_s (hsc') ?_;refine a_z ?_;refine r_c 3 (eG_ 0 (by decide)) ?_;refine a_z ?_;refine aa_ (r_z 1 ?_);refine aw_ (fun _:Unit=>⟨[(0,.arr (rE (rP l))),(5,.lptr 1 0 0)],[(1,some ⟨40,2,[zZ (G:Int)]⟩)],2,48⟩) (fun _=>bl G≤s+(1+t.length* s)) ?_ ?_;refine ac_ (ap_ (nR2 l) (fun x=>l.length- x.1) (fun x=>x.1≤l.length∧bl x.2≤s+(1+t.length* s)∧gcdN (l.drop x.1) x.2=G) (0,0) ⟨Nat.zero_le _,by rw[tO_];exact Nat.zero_le _,by rw[hG];rfl⟩ ?_ ?_);simp only[nR2.eq_1];exact s_e [(1,5)];rintro⟨i,g⟩ ⟨hi,hgb,hg⟩;simp only at hi hgb hg;rw[nR2.eq_1];refine aa_ (r_z 4 ?_);refine aj_ rfl (fun h=>?_) (fun h=>?_);refine ae_ ?_;have hlt:i< l.length:=by simpa using h
 have hgt:=rP_get hlt;have hc:=bj_ hlb (by omega) i;have hn:=b5_ (absQ (coP l i));rw[mk_] at hn;rw[hJ_ hlt,gcdN] at hg;have hgg:=tP_ g (absQ (coP l i)).num.natAbs;have hzg:=sX_ (g:Int) (absQ (coP l i)).num (by rw[Int.natAbs_natCast];omega) (by omega);rw[Int.natAbs_natCast] at hzg;refine aa_ (ac_ (r_d hmix 9 ?_));refine a_3 ?_;refine i_x hgt ?_;refine l_x hgt ?_;refine c_s (sP_ (rq (coP l i)) (aR_ _)) ?_;refine c_s (fs_rNum (rq (absQ (coP l i)))) ?_;refine c_s (hzg) ?_;refine a_1 ?_;refine ai_ (n_k ?_);refine r_m 3 ?_;refine a_z ?_;refine⟨(i+1,Nat.gcd g (absQ (coP l i)).num.natAbs),by simp only;omega,⟨hlt,by simp only;omega,hg⟩,?_⟩;simp only[nR2.eq_1];exact s_e []
 have hge:i=l.length:=by
  have:¬i< l.length:=by simpa using h
  omega
 subst hge;rw[List.drop_length] at hg;have hg':g=G:=hg;subst hg';refine am_ ⟨(),hgb,?_⟩;exact s_e [];rintro _ hGb;have hGq:=qs_nQ (n:=G) (k:=s+(1+t.length* s)) hGb (by omega);have q1:qs ((rq 1).1)=1:=kg_;have hdv:=fe_ (rq 1) (rq (nQ G)) (aR_ 1) (aR_ _) hG0 (by rw[q1];show 1+qs (nQ G)≤_;omega);have hqd:=cX_ 1 (nQ G);have q2:=kg_;have hsc2:=eP_ (rP l) (rq (1/ nQ G)) (s+(1+t.length* s)) (bS_ _) (aR_ _) (by rw[vR_rP];exact hlb) (by show _+qs (1/ nQ G)≤_;omega) (by rw[aP_];omega);rw[vR_rP] at hsc2;have hsc2':FS 131 [.arr (rE (rP l)),.agg (rC (rq (1/ nQ G)))] (.arr (rE (rP (av_ l (1/ nQ G))))):=hsc2;refine aa_ (r_d hmix 7 ?_);refine c_s (hi1) ?_;refine c_s (mH_ (G:Int)) ?_;refine c_s (hdv) ?_;refine c_s (hsc2') ?_;refine a_1 ?_;refine ai_ (n_k ?_);exact af_ (t_e (aS_ _))
end Go.Proofs.YtdjfjpeoddmamaaGreatDoor
