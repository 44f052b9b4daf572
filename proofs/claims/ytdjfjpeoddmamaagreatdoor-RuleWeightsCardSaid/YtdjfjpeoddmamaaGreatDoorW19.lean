/- Part W19 of the proof. -/
import Derived.Test.YtdjfjpeoddmamaaGreatDoorW18
set_option linter.all false
namespace Go.Proofs.YtdjfjpeoddmamaaGreatDoor
open Go.Abs
set_option maxRecDepth 20000
set_option maxHeartbeats 1000000
def oS(t n:Nat)(fr:Fr):List RQ→AState
 |[]=>⟨(t,.emp)::fr,[],1,n⟩
 |y::Y=>⟨(t,.lsl 1 0 (Y.length+1) none 4)::fr,[(1,some ⟨42,4,rE (y::Y)⟩)],2,n⟩
theorem fj_(t n:Nat)(fr:Fr):oS t n fr []=⟨(t,.emp)::fr,[],1,n⟩:=rfl
theorem b3_(t n:Nat)(fr:Fr)(y:RQ)(Y:List RQ):oS t n fr (y::Y)=⟨(t,.lsl 1 0 (Y.length+1) none 4)::fr,[(1,some ⟨42,4,rE (y::Y)⟩)],2,n⟩:=rfl
def rP(v:List Rat):List RQ:=v.map rq
theorem ev_(v:List Rat):okX (rP v):=fun y hy=>by obtain⟨q,_,rfl⟩:=List.mem_map.1 hy;exact bm_ q
theorem vR_rP(v:List Rat):vR (rP v)=v:=by
 unfold vR rP
 rw[List.map_map]
 exact List.map_id' v
@[simp] theorem eB_ (v:List Rat):(rP v).length=v.length:=by simp[rP]
theorem fF_(v:List Rat):trimR (rP v)=rP (trimQ v):=by
 unfold trimR
 rw[vR_rP,rP,←List.map_take,←hc_];rfl
theorem gv_{x:List RQ}{i:Nat}(h:i< x.length):∃y,x[i]?=some y∧y.1=coP (vR x) i:=by
 refine⟨_,List.getElem?_eq_getElem h,?_⟩
 unfold coP vR
 rw[List.getD_eq_getElem?_getD,List.getElem?_map,List.getElem?_eq_getElem h];rfl
theorem vR_bd{x:List RQ}{s:Nat}(h:bdL (vR x) s){y:RQ}{i:Nat}(hy:x[i]?=some y):qs y.1≤s:=h _ (List.mem_map.2 ⟨y,List.mem_of_getElem? hy,rfl⟩)
theorem take_succ'{V:List Rat}{j:Nat}(h:j< V.length):V.take (j+1)=V.take j++[coP V j]:=cw_ (bc_ h)
theorem pS_(x:List RQ)(k:RQ)(s:Nat)(hx:okX x)(hk:rok k)(hs:bdL (vR x) s)(hlim:s+qs k.1≤1099511627776)(hl:x.length≤1000000):FSpec Tryz.prog 131 [.arr (rE x),.agg (rC k)] (.arr (rE (rP (aN_ (vR x) k.1)))):=by
 obtain⟨V,hV⟩:∃V,V=tabP (vR x).length (fun i=>coP (vR x) i* k.1):=⟨_,rfl⟩
 refine f_n Tryz.func131 ?_ ?_
 exact aa_ (a7_ x) (aa_ (a6_ k) ab_)
 have hkc:Closed (.aptr [rC k] 0 0):=aj_ (bi_ k)
 refine r_z 2 ?_
 refine AWp.ent (st':=⟨[(3,.aptr [rC k] 0 0),(0,.arr (rE x))],[],1,24⟩) ?_ ?_
 have:=bi_ k
 exact s_f []
 refine r_z 1 ?_
 refine ac_ (r_z 1 ?_)
 have hVl:V.length=x.length:=by rw[hV];simp
 refine aD_ (fun _:Unit=>oS 5 24 [(3,.aptr [rC k] 0 0),(0,.arr (rE x))] (rP V)) (fun _=>True) ?_ ?_
 refine ah_ (ax_ (fun j:Nat=>oS 5 24 [(6,i64 ((j:Nat):Int)),(3,.aptr [rC k] 0 0),(0,.arr (rE x))] (rP (V.take j))) (fun j=>V.length- j) (fun j=>j≤V.length) 0 (Nat.zero_le _) ?_ ?_)
 show SEnt _ (oS _ _ _ [])
 rw[fj_]
 exact s_e []
 rintro j hj
 by_cases hlt:j< V.length
 obtain⟨y,hy,hyv⟩:=gv_ (x:=x) (i:=j) (by omega)
 have hyb:=vR_bd hs hy
 have hyo:=hx y (List.mem_of_getElem? hy)
 have hgt:(rE x)[((j:Nat):Int).toNat]?=some (rC y):=et_ hy
 obtain⟨c,hc⟩:∃c,c=y.1* k.1:=⟨_,rfl⟩
 have hco:coP V j=c:=by rw[hV,dC_,if_pos (by simp;omega),←hyv,hc]
 have hm:=el_ y k hyo hk (by omega)
 rw[←hc] at hm
 have htk:=take_succ' hlt
 rw[hco] at htk
 have hrp:rP (V.take (j+1))=rP (V.take j)++[rq c]:=by rw[htk];simp[rP]
 have hQl:(rP (V.take j)).length=j:=by simp;omega
 cases hQ:rP (V.take j) with
 |nil=>
  rw[hQ,List.nil_append] at hrp
  simp only[fj_]
  refine ac_ (q_z 4 ?_)
  refine cT (ag_ (ac_ (ah_ (r_d hmix 10 ?_))))
  refine a_3 ?_
  refine i_x hgt ?_
  refine l_x hgt ?_
  refine c_s (hm) ?_
  refine a_3 ?_
  refine an_ (n_k ?_)
  refine r_m 3 ?_
  refine a_z ?_
  refine⟨j+1,by omega,hlt,?_⟩
  rw[hrp,b3_]
  exact s_f [(1,5)]
 |cons q Q=>
  rw[hQ] at hQl
  rw[hQ,List.cons_append] at hrp
  simp at hQl
  simp only[b3_]
  refine ac_ (q_z 4 ?_)
  refine cT (ag_ (ac_ (ah_ (r_d hmix 10 ?_))))
  refine a_3 ?_
  refine i_x hgt ?_
  refine l_x hgt ?_
  refine c_s (hm) ?_
  refine a_3 ?_
  refine an_ (n_k ?_)
  refine r_m 3 ?_
  refine a_z ?_
  refine⟨j+1,by omega,hlt,?_⟩
  rw[hrp,b3_]
  have e:rE (q::Q)++[rC (rq c)]=rE (q::(Q++[rq c])):=by simp[rE]
  refine as_ [(1,5)] rfl rfl rfl ?_ (fun hs=>au_f) (fun hs=>?_)
  ·repeat' (first|exact ShrL.nil|refine ShrL.cons rfl rfl rfl rfl (by first|(simp)|rfl|(simp;done)|(simp <;> omega)) ?_)
  ·repeat' (first|exact ao_|refine ak_ rfl rfl rfl rfl ?_ ?_)
   all_goals (first|(exact aG_ hs e (aY_ _))|exact au_e)
 have hge:j=V.length:=by omega
 subst hge
 rw[List.take_length]
 cases hQ:rP V with
 |nil=>
  simp only[fj_]
  refine ac_ (q_z 4 ?_)
  refine cF (au_ ⟨(),trivial,?_⟩)
  exact s_e []
 |cons q Q=>
  simp only[b3_]
  refine ac_ (q_z 4 ?_)
  refine cF (au_ ⟨(),trivial,?_⟩)
  exact s_f [(1,5)]
 rintro _ _
 have htr:=e7_ (rP V) (by simp;omega)
 rw[fF_] at htr
 cases hQ:rP V with
 |nil=>
  rw[hQ] at htr
  simp only[fj_]
  refine r_c 3 (htr) ?_
  refine a_z ?_
  refine ai_ (aP_ rfl ?_ ?_)
  rw[hV];rfl
  exact a7_ _
 |cons q Q=>
  rw[hQ] at htr
  simp only[b3_]
  refine s_r 3 ?_
  refine a_1 ?_
  refine o_1 (.callS1 rfl rfl rfl (.shut rfl d_n (.nil)) rfl ((FSpec.argE htr (by rw[List.drop_zero];exact List.take_of_length_le (by simp))))) ?_
  refine a_z ?_
  refine ai_ (aP_ rfl ?_ ?_)
  rw[hV];rfl
  exact a7_ _
theorem k0_(x:List RQ)(s:Nat)(hx:okX x)(hs:bdL (vR x) s)(hlim:s+64≤1099511627776)(hl:x.length≤1000000):FSpec Tryz.prog 250 [.arr (rE x)] (.arr (rE (rP (aI_ (vR x))))):=by
 obtain⟨V,hV⟩:∃V,V=tabP ((vR x).length+1) (fun i=>if i=0 then 0 else coP (vR x) (i- 1) / ((i:Nat):Int)):=⟨_,rfl⟩
 refine f_n Tryz.func250 ?_ ?_
 exact aa_ (a7_ x) ab_
 have hi0:FSpec Tryz.prog 112 [i64 0] (.agg (rC (rq 0))):=cr_ 0 (by decide)
 refine r_z 1 ?_
 refine r_c 3 (hi0) ?_
 refine a_z ?_
 refine ac_ (r_z 1 ?_)
 have hVl:V.length=x.length+1:=by rw[hV];simp
 refine aD_ (fun _:Unit=>oS 3 26 [(0,.arr (rE x))] (rP V)) (fun _=>True) ?_ ?_
 refine ah_ (ax_ (fun j:Nat=>oS 3 26 [(4,i64 ((j:Nat):Int)),(0,.arr (rE x))] (rP (V.take (j+1)))) (fun j=>x.length- j) (fun j=>j≤x.length) 0 (Nat.zero_le _) ?_ ?_)
 have e0:rP (V.take (0+1))=[rq 0]:=by
  rw[take_succ' (by omega),hV,dC_,if_pos (by simp),if_pos rfl,List.take_zero];rfl
 show SEnt _ (oS _ _ _ (rP (V.take (0+1))))
 rw[e0,b3_]
 exact s_f [(1,3)]
 rintro j hj
 have hQl:(rP (V.take (j+1))).length=j+1:=by simp;omega
 by_cases hlt:j< x.length
 obtain⟨y,hy,hyv⟩:=gv_ (x:=x) (i:=j) hlt
 have hyb:=vR_bd hs hy
 have hyo:=hx y (List.mem_of_getElem? hy)
 have hgt:(rE x)[((j:Nat):Int).toNat]?=some (rC y):=et_ hy
 obtain⟨c,hc⟩:∃c,c=y.1/ ((j+1:Nat):Int):=⟨_,rfl⟩
 have hco:coP V (j+1)=c:=by
  rw[hV,dC_,if_pos (by simp;omega),if_neg (by omega),hc,hyv];rfl
 have hi1:=cr_ ((j+1:Nat):Int) (by omega)
 have hn:(rq (((j+1:Nat):Int):Rat)).1≠0:=by show(((j+1:Nat):Int):Rat)≠0;exact fun e=>by have:=Rat.intCast_inj.1 (e.trans (by rfl:(0:Rat)=((0:Int):Rat)));omega
 have hm:=l7_ y (rq (((j+1:Nat):Int):Rat)) hyo (bm_ _) hn (by have:=jw_ (j+1) (by omega);show qs y.1+qs (((j+1:Nat):Int):Rat)≤_;omega)
 rw[show y.1/ (rq (((j+1:Nat):Int):Rat)).1=c by rw[hc];rfl] at hm
 have htk:=take_succ' (V:=V) (j:=j+1) (by omega)
 rw[hco] at htk
 have hrp:rP (V.take (j+1+1))=rP (V.take (j+1))++[rq c]:=by rw[htk];simp[rP]
 cases hQ:rP (V.take (j+1)) with
 |nil=>rw[hQ] at hQl;simp at hQl
 |cons q Q=>
  rw[hQ] at hQl
  rw[hQ,List.cons_append] at hrp
  simp at hQl
  simp only[b3_]
  refine ac_ (q_z 4 ?_)
  refine cT (ag_ (ac_ (ah_ (r_d hmix 12 ?_))))
  refine a_3 ?_
  refine i_x hgt ?_
  refine l_x hgt ?_
  refine c_s (hi1) ?_
  refine c_s (hm) ?_
  refine a_3 ?_
  refine an_ (n_k ?_)
  refine r_m 3 ?_
  refine a_z ?_
  refine⟨j+1,by omega,hlt,?_⟩
  rw[hrp,b3_]
  have e:rE (q::Q)++[rC (rq c)]=rE (q::(Q++[rq c])):=by simp[rE]
  refine as_ [(1,3)] rfl rfl rfl ?_ (fun hs=>au_f) (fun hs=>?_)
  ·repeat' (first|exact ShrL.nil|refine ShrL.cons rfl rfl rfl rfl (by first|(simp)|rfl|(simp;done)|(simp <;> omega)) ?_)
  ·repeat' (first|exact ao_|refine ak_ rfl rfl rfl rfl ?_ ?_)
   all_goals (first|(exact aG_ hs e (aY_ _))|exact au_e)
 have hge:V.take (j+1)=V:=List.take_of_length_le (by omega)
 rw[hge]
 cases hQ:rP V with
 |nil=>rw[hge,hQ] at hQl;simp at hQl
 |cons q Q=>
  simp only[b3_]
  refine ac_ (q_z 4 ?_)
  refine cF (au_ ⟨(),trivial,?_⟩)
  exact s_f [(1,3)]
 rintro _ _
 have htr:=e7_ (rP V) (by simp;omega)
 rw[fF_] at htr
 cases hQ:rP V with
 |nil=>have:=congrArg List.length hQ;simp[hVl] at this
 |cons q Q=>
  rw[hQ] at htr
  simp only[b3_]
  refine s_r 3 ?_
  refine a_1 ?_
  refine o_1 (.callS1 rfl rfl rfl (.shut rfl d_n (.nil)) rfl ((FSpec.argE htr (by rw[List.drop_zero];exact List.take_of_length_le (by simp))))) ?_
  refine a_z ?_
  refine ai_ (aP_ rfl ?_ ?_)
  rw[hV];rfl
  exact a7_ _
@[simp] theorem gx_ (x:List RQ):(trimR x).length=(trimQ (vR x)).length:=by rw[←vR_trim,cP_]
theorem oe_(x:List RQ)(hl:x.length≤1000000):FSpec Tryz.prog 32 [.arr (rE x)] (i64 (degP (vR x))):=by
 have htl:=a9_ (vR x)
 rw[cP_,←gx_] at htl
 refine f_n Tryz.func32 ?_ ?_
 exact aa_ (a7_ x) ab_
 refine r_z 1 ?_
 refine r_c 5 (e7_ x (by omega)) ?_
 refine a_z ?_
 exact ai_ (aP_ rfl (by rw[gx_];rfl) (ad_ _))
theorem k1_(q:Rat):FSpec Tryz.prog 249 [.agg (rC (rq q))] (.arr (rE (rP (dB_ q)))):=by
 have htr:=e7_ (rP [q]) (by simp)
 rw[fF_] at htr
 refine f_n Tryz.func249 ?_ ?_
 exact aa_ (a6_ _) ab_
 refine r_z 2 ?_
 refine s_r 4 ?_
 refine a_2 ?_
 refine o_1 (.callS1 rfl rfl rfl (.shut rfl d_n (.nil)) rfl ((FSpec.argE htr (by rw[List.drop_zero];exact List.take_of_length_le (by simp))))) ?_
 refine a_z ?_
 exact ai_ (t_e (a7_ _))
def v9:List Rat→AV
 |[]=> .emp
 |_::Q=> .lsl 1 0 (Q.length+1) none 3
def h9:List Rat→List (Nat×Option ABlk)
 |[]=>[]
 |q::Q=>[(1,some ⟨35,3,pE (q::Q)⟩)]
theorem cmpQ_eq(a b:Rat):(cmpQ a b==(0:Int))=decide (a=b):=by
 unfold cmpQ
 by_cases h1:a< b
 have h2:a≠b:=fun e=>by rw[e] at h1;exact absurd h1 Rat.lt_irrefl
 simp[h1,h2]
 by_cases h2:a=b
 simp[h1,h2,Rat.lt_irrefl]
 simp[h1,h2]


theorem fs_rAddP(x y:List RQ)(s t:Nat)(hx:okX x)(hy:okX y)(hs:bdL (vR x) s)(ht:bdL (vR y) t)(hlim:s+t+64≤1099511627776)(hxl:x.length≤1000000)(hyl:y.length≤1000000):FSpec Tryz.prog 209 [.arr (rE x),.arr (rE y)] (.arr (rE (rP (addP (vR x) (vR y))))):=by
 obtain⟨V,hV⟩:∃V,V=tabP (max (vR x).length (vR y).length) (fun i=>coP (vR x) i+coP (vR y) i):=⟨_,rfl⟩
 have hi0:FSpec Tryz.prog 112 [i64 0] (.agg (rC (rq 0))):=cr_ 0 (by decide)
 have q0:qs (rq 0).1≤64:=by decide
 refine f_n Tryz.func209 ?_ ?_
 exact aa_ (a7_ x) (aa_ (a7_ y) ab_)
 refine r_z 1 ?_
 refine r_z 1 ?_
 refine ac_ (r_z 1 ?_)
 have hVl:V.length=max x.length y.length:=by rw[hV];simp
 refine aD_ (fun _:Unit=>oS 5 47 [(0,.arr (rE x)),(1,.arr (rE y))] (rP V)) (fun _=>True) ?_ ?_
 refine ah_ (ax_ (fun j:Nat=>oS 5 47 [(6,i64 ((j:Nat):Int)),(0,.arr (rE x)),(1,.arr (rE y))] (rP (V.take j))) (fun j=>V.length- j) (fun j=>j≤V.length) 0 (Nat.zero_le _) ?_ ?_)
 show SEnt _ (oS _ _ _ [])
 rw[fj_]
 exact s_e []
 rintro j hj
 have hQl:(rP (V.take j)).length=j:=by simp;omega
 by_cases hjx:j< x.length
 by_cases hjy:j< y.length
 obtain⟨a,ha,hav⟩:=gv_ (x:=x) (i:=j) hjx
 have hab:=vR_bd hs ha
 have hao:=hx a (List.mem_of_getElem? ha)
 have hgx:(rE x)[((j:Nat):Int).toNat]?=some (rC a):=et_ ha
 obtain⟨b,hb,hbv⟩:=gv_ (x:=y) (i:=j) hjy
 have hbb:=vR_bd ht hb
 have hbo:=hy b (List.mem_of_getElem? hb)
 have hgy:(rE y)[((j:Nat):Int).toNat]?=some (rC b):=et_ hb
 obtain⟨c,hc⟩:∃c,c=a.1+b.1:=⟨_,rfl⟩
 have hco:coP V j=c:=by rw[hV,dC_,if_pos (by simp;omega),←hav,←hbv,hc]
 have m1:=fv_ (rq 0) a (bm_ _) hao (by omega)
 rw[show(rq 0).1+a.1=a.1 from Rat.zero_add _] at m1
 have m2:=fv_ (rq a.1) b (bm_ _) hbo (by show qs a.1+qs b.1≤_;omega)
 rw[show(rq a.1).1+b.1=c by rw[hc];rfl] at m2
 have htk:=take_succ' (V:=V) (j:=j) (by omega)
 rw[hco] at htk
 have hrp:rP (V.take (j+1))=rP (V.take j)++[rq c]:=by rw[htk];simp[rP]
 cases hQ:rP (V.take j) with
 |nil=>
  rw[hQ,List.nil_append] at hrp
  simp only[fj_]
  refine ac_ (q_z 10 ?_)
  refine cT (ag_ (ac_ (ah_ (r_c 3 (hi0) ?_))))
  refine a_z ?_
  refine ac_ (q_z 4 ?_)
  refine cT (r_d hmix 7 ?_)
  refine a_3 ?_
  refine i_x hgx ?_
  refine l_x hgx ?_
  refine c_s (m1) ?_
  refine a_1 ?_
  refine an_ (n_k ?_)
  refine ac_ (q_z 4 ?_)
  refine cT (r_d hmix 7 ?_)
  refine a_3 ?_
  refine i_x hgy ?_
  refine l_x hgy ?_
  refine c_s (m2) ?_
  refine a_1 ?_
  refine an_ (n_k ?_)
  refine r_m 5 ?_
  refine a_z ?_
  refine r_m 3 ?_
  refine a_z ?_
  refine⟨j+1,by omega,by omega,?_⟩
  rw[hrp,b3_]
  exact s_f [(1,5)]
 |cons q Q=>
  rw[hQ] at hQl
  rw[hQ,List.cons_append] at hrp
  simp at hQl
  simp only[b3_]
  refine ac_ (q_z 10 ?_)
  refine cT (ag_ (ac_ (ah_ (r_c 3 (hi0) ?_))))
  refine a_z ?_
  refine ac_ (q_z 4 ?_)
  refine cT (r_d hmix 7 ?_)
  refine a_3 ?_
  refine i_x hgx ?_
  refine l_x hgx ?_
  refine c_s (m1) ?_
  refine a_1 ?_
  refine an_ (n_k ?_)
  refine ac_ (q_z 4 ?_)
  refine cT (r_d hmix 7 ?_)
  refine a_3 ?_
  refine i_x hgy ?_
  refine l_x hgy ?_
  refine c_s (m2) ?_
  refine a_1 ?_
  refine an_ (n_k ?_)
  refine r_m 5 ?_
  refine a_z ?_
  refine r_m 3 ?_
  refine a_z ?_
  refine⟨j+1,by omega,by omega,?_⟩
  rw[hrp,b3_]
  have e:rE (q::Q)++[rC (rq c)]=rE (q::(Q++[rq c])):=by simp[rE]
  refine as_ [(1,5)] rfl rfl rfl ?_ (fun hs=>au_f) (fun hs=>?_)
  ·repeat' (first|exact ShrL.nil|refine ShrL.cons rfl rfl rfl rfl (by first|(simp)|rfl|(simp;done)|(simp <;> omega)) ?_)
  ·repeat' (first|exact ao_|refine ak_ rfl rfl rfl rfl ?_ ?_)
   all_goals (first|(exact aG_ hs e (aY_ _))|exact au_e)
 obtain⟨a,ha,hav⟩:=gv_ (x:=x) (i:=j) hjx
 have hab:=vR_bd hs ha
 have hao:=hx a (List.mem_of_getElem? ha)
 have hgx:(rE x)[((j:Nat):Int).toNat]?=some (rC a):=et_ ha
 obtain⟨c,hc⟩:∃c,c=a.1:=⟨_,rfl⟩
 have hco:coP V j=c:=by rw[hV,dC_,if_pos (by simp;omega),←hav,cs_ (p:=vR y) (by simp;omega),Rat.add_zero,hc]
 have m1:=fv_ (rq 0) a (bm_ _) hao (by omega)
 rw[show(rq 0).1+a.1=a.1 from Rat.zero_add _] at m1
 rw[←hc] at m1
 have htk:=take_succ' (V:=V) (j:=j) (by omega)
 rw[hco] at htk
 have hrp:rP (V.take (j+1))=rP (V.take j)++[rq c]:=by rw[htk];simp[rP]
 cases hQ:rP (V.take j) with
 |nil=>
  rw[hQ,List.nil_append] at hrp
  simp only[fj_]
  refine ac_ (q_z 10 ?_)
  refine cT (ag_ (ac_ (ah_ (r_c 3 (hi0) ?_))))
  refine a_z ?_
  refine ac_ (q_z 4 ?_)
  refine cT (r_d hmix 7 ?_)
  refine a_3 ?_
  refine i_x hgx ?_
  refine l_x hgx ?_
  refine c_s (m1) ?_
  refine a_1 ?_
  refine an_ (n_k ?_)
  refine ac_ (q_z 4 ?_)
  refine cF (ag_ (r_m 5 ?_))
  refine a_z ?_
  refine r_m 3 ?_
  refine a_z ?_
  refine⟨j+1,by omega,by omega,?_⟩
  rw[hrp,b3_]
  exact s_f [(1,5)]
 |cons q Q=>
  rw[hQ] at hQl
  rw[hQ,List.cons_append] at hrp
  simp at hQl
  simp only[b3_]
  refine ac_ (q_z 10 ?_)
  refine cT (ag_ (ac_ (ah_ (r_c 3 (hi0) ?_))))
  refine a_z ?_
  refine ac_ (q_z 4 ?_)
  refine cT (r_d hmix 7 ?_)
  refine a_3 ?_
  refine i_x hgx ?_
  refine l_x hgx ?_
  refine c_s (m1) ?_
  refine a_1 ?_
  refine an_ (n_k ?_)
  refine ac_ (q_z 4 ?_)
  refine cF (ag_ (r_m 5 ?_))
  refine a_z ?_
  refine r_m 3 ?_
  refine a_z ?_
  refine⟨j+1,by omega,by omega,?_⟩
  rw[hrp,b3_]
  have e:rE (q::Q)++[rC (rq c)]=rE (q::(Q++[rq c])):=by simp[rE]
  refine as_ [(1,5)] rfl rfl rfl ?_ (fun hs=>au_f) (fun hs=>?_)
  ·repeat' (first|exact ShrL.nil|refine ShrL.cons rfl rfl rfl rfl (by first|(simp)|rfl|(simp;done)|(simp <;> omega)) ?_)
  ·repeat' (first|exact ao_|refine ak_ rfl rfl rfl rfl ?_ ?_)
   all_goals (first|(exact aG_ hs e (aY_ _))|exact au_e)
 by_cases hjy:j< y.length
 obtain⟨b,hb,hbv⟩:=gv_ (x:=y) (i:=j) hjy
 have hbb:=vR_bd ht hb
 have hbo:=hy b (List.mem_of_getElem? hb)
 have hgy:(rE y)[((j:Nat):Int).toNat]?=some (rC b):=et_ hb
 obtain⟨c,hc⟩:∃c,c=b.1:=⟨_,rfl⟩
 have hco:coP V j=c:=by rw[hV,dC_,if_pos (by simp;omega),cs_ (p:=vR x) (by simp;omega),←hbv,Rat.zero_add,hc]
 have m2:=fv_ (rq 0) b (bm_ _) hbo (by omega)
 rw[show(rq 0).1+b.1=c by rw[hc];exact Rat.zero_add _] at m2
 have htk:=take_succ' (V:=V) (j:=j) (by omega)
 rw[hco] at htk
 have hrp:rP (V.take (j+1))=rP (V.take j)++[rq c]:=by rw[htk];simp[rP]
 cases hQ:rP (V.take j) with
 |nil=>
  rw[hQ,List.nil_append] at hrp
  simp only[fj_]
  refine ac_ (q_z 10 ?_)
  refine cT (ag_ (ac_ (ah_ (r_c 3 (hi0) ?_))))
  refine a_z ?_
  refine ac_ (q_z 4 ?_)
  refine cF (ag_ (ac_ (q_z 4 ?_)))
  refine cT (r_d hmix 7 ?_)
  refine a_3 ?_
  refine i_x hgy ?_
  refine l_x hgy ?_
  refine c_s (m2) ?_
  refine a_1 ?_
  refine an_ (n_k ?_)
  refine r_m 5 ?_
  refine a_z ?_
  refine r_m 3 ?_
  refine a_z ?_
  refine⟨j+1,by omega,by omega,?_⟩
  rw[hrp,b3_]
  exact s_f [(1,5)]
 |cons q Q=>
  rw[hQ] at hQl
  rw[hQ,List.cons_append] at hrp
  simp at hQl
  simp only[b3_]
  refine ac_ (q_z 10 ?_)
  refine cT (ag_ (ac_ (ah_ (r_c 3 (hi0) ?_))))
  refine a_z ?_
  refine ac_ (q_z 4 ?_)
  refine cF (ag_ (ac_ (q_z 4 ?_)))
  refine cT (r_d hmix 7 ?_)
  refine a_3 ?_
  refine i_x hgy ?_
  refine l_x hgy ?_
  refine c_s (m2) ?_
  refine a_1 ?_
  refine an_ (n_k ?_)
  refine r_m 5 ?_
  refine a_z ?_
  refine r_m 3 ?_
  refine a_z ?_
  refine⟨j+1,by omega,by omega,?_⟩
  rw[hrp,b3_]
  have e:rE (q::Q)++[rC (rq c)]=rE (q::(Q++[rq c])):=by simp[rE]
  refine as_ [(1,5)] rfl rfl rfl ?_ (fun hs=>au_f) (fun hs=>?_)
  ·repeat' (first|exact ShrL.nil|refine ShrL.cons rfl rfl rfl rfl (by first|(simp)|rfl|(simp;done)|(simp <;> omega)) ?_)
  ·repeat' (first|exact ao_|refine ak_ rfl rfl rfl rfl ?_ ?_)
   all_goals (first|(exact aG_ hs e (aY_ _))|exact au_e)
 have hge:V.take j=V:=List.take_of_length_le (by omega)
 rw[hge]
 cases hQ:rP V with
 |nil=>
  simp only[fj_]
  refine ac_ (q_z 10 ?_)
  refine cF (au_ ⟨(),trivial,?_⟩)
  exact s_e []
 |cons q Q=>
  simp only[b3_]
  refine ac_ (q_z 10 ?_)
  refine cF (au_ ⟨(),trivial,?_⟩)
  exact s_f [(1,5)]
 rintro _ _
 have htr:=e7_ (rP V) (by simp;omega)
 rw[fF_] at htr
 cases hQ:rP V with
 |nil=>
  rw[hQ] at htr
  simp only[fj_]
  refine r_c 3 (htr) ?_
  refine a_z ?_
  refine ai_ (aP_ rfl ?_ ?_)
  rw[hV];rfl
  exact a7_ _
 |cons q Q=>
  rw[hQ] at htr
  simp only[b3_]
  refine s_r 3 ?_
  refine a_1 ?_
  refine o_1 (.callS1 rfl rfl rfl (.shut rfl d_n (.nil)) rfl ((FSpec.argE htr (by rw[List.drop_zero];exact List.take_of_length_le (by simp))))) ?_
  refine a_z ?_
  refine ai_ (aP_ rfl ?_ ?_)
  rw[hV];rfl
  exact a7_ _
theorem iY_{x y:List RQ}(hx:okX x)(hy:okX y):okX (x++y):=fun z hz=>(List.mem_append.1 hz).elim (hx z) (hy z)
theorem kI_(n:Nat):okX (List.replicate n r0):=fun z hz=>by rw[List.eq_of_mem_replicate hz];exact hr_
theorem hb_(x y:List RQ):vR (x++y)=vR x++vR y:=by simp[vR]
theorem jl_(n:Nat):vR (List.replicate n r0)=List.replicate n 0:=by simp[vR,r0]
def zR4:List AV:=[i64 0,.emp,i64 0,.emp]
theorem le_zR4:LeL zR4 (rC r0):=by
 rw[show rC r0=[i64 0,.arr [],i64 0,.arr []] from rC_r0]
 exact .cons (.refl _) (.cons .emp (.cons (.refl _) (.cons .emp .nil)))
theorem bA_:∀c∈zR4,Closed c:=aa_ (ad_ _) (aa_ bB_ (aa_ (ad_ _) (aa_ bB_ ab_)))
theorem i1_(L:List RQ):∀n,LeLL (List.replicate n zR4++rE L) (rE (List.replicate n r0++L))
 |0=>LeLL.refl _
 |n+1=> .cons le_zR4 (i1_ L n)
theorem lu_(n:Nat)(L:List RQ):Closed (.arr (List.replicate n zR4++rE L)):=aC_ fun c hc=>(List.mem_append.1 hc).elim (fun h=>by rw[List.eq_of_mem_replicate h];exact bA_) (aY_ L c)
theorem FSpec.zerosR{P:Program}{f n:Nat}{L:List RQ}{a r:AV}(h:FSpec P f [a,.arr (rE (List.replicate n r0++L))] r)(ha:Closed a):FSpec P f [a,.arr (List.replicate n zR4++rE L)] r:=
 h.weak (.cons (Le.refl _) (.cons (Le.arr (i1_ L n)) .nil)) (aa_ ha (aa_ (lu_ n L) ab_))
theorem oF_(n:Nat):(List.replicate n zR4).all (·.all AV.one)=true:=by
 simp only[List.all_replicate]
 cases n <;> rfl
theorem jO_(x y:List RQ)(s t B:Nat)(hx:okX x)(hy:okX y)(hs:bdL (vR x) s)(ht:bdL (vR y) t)(hs1:1≤s)(hB:∀n,n≤y.length→bdL (mR (vR x) (vR y) n) B)(hlim:s+t+B+64≤1099511627776)(hxl:x.length≤100000)(hyl:y.length≤100000):FSpec Tryz.prog 130 [.arr (rE x),.arr (rE y)] (.arr (rE (rP (mulP (vR x) (vR y))))):=by
 obtain⟨m,hm⟩:∃m,m=mR (vR x) (vR y):=⟨_,rfl⟩
 rw[←hm] at hB
 refine f_n Tryz.func130 ?_ ?_
 exact aa_ (a7_ x) (aa_ (a7_ y) ab_)
 refine r_z 1 ?_
 refine r_z 1 ?_
 refine ac_ (r_z 1 ?_)
 refine aD_ (fun _:Unit=>⟨[(5,.arr (rE (rP (m y.length)))),(0,.arr (rE x)),(1,.arr (rE y))],[],1,25⟩) (fun _=>True) ?_ ?_
 refine ah_ (ax_ (fun j:Nat=>⟨[(6,i64 ((j:Nat):Int)),(5,.arr (rE (rP (m j)))),(0,.arr (rE x)),(1,.arr (rE y))],[],1,25⟩) (fun j=>y.length- j) (fun j=>j≤y.length) 0 (Nat.zero_le _) ?_ ?_)
 rw[hm]
 exact s_e []
 rintro j hj
 by_cases hlt:j< y.length
 ·obtain⟨b,hb,hbv⟩:=gv_ (x:=y) (i:=j) hlt
  have hbb:=vR_bd ht hb
  have hbo:=hy b (List.mem_of_getElem? hb)
  have hgt:(rE y)[((j:Nat):Int).toNat]?=some (rC b):=et_ hb
  have h1:=pS_ x b s hx hbo hs (by omega) (by omega)
  have hl1:=pv_ (vR x) (vR y) j
  rw[←hm,cP_] at hl1
  have hl2:=bW_ (vR x) b.1
  rw[cP_] at hl2
  have hz:bdL (vR (List.replicate j r0++rP (aN_ (vR x) b.1))) (s+qs b.1):=by
   rw[hb_,jl_,vR_rP]
   intro q hq
   rcases List.mem_append.1 hq with h|h
   rw[List.eq_of_mem_replicate h]
   have:qs 0=1:=by decide
   omega
   exact oA_ hs hs1 q h
  have h2:=fs_rAddP (rP (m j)) (List.replicate j r0++rP (aN_ (vR x) b.1)) B (s+qs b.1) (ev_ _) (iY_ (kI_ _) (ev_ _)) (by rw[vR_rP];exact hB j (by omega)) hz (by omega) (by rw[eB_];omega) (by rw[List.length_append,List.length_replicate,eB_];omega)
  have hnx:addP (vR (rP (m j))) (vR (List.replicate j r0++rP (aN_ (vR x) b.1)))=m (j+1):=by
   rw[vR_rP,hb_,jl_,vR_rP,hm,mR,←hbv];rfl
  rw[hnx] at h2
  refine ac_ (q_z 4 ?_)
  refine cT (ag_ (ac_ (ah_ ?_)))
  have h3:=FSpec.zerosR h2 (a7_ _)
  refine r_d hmix 12 ?_
  refine a_6 ?_
  refine i_x hgt ?_
  refine l_x hgt ?_
  refine c_s (h1) ?_
  refine o_2 (.append_l rfl rfl rfl te_66.h rfl rfl rfl rfl rfl d_o (oF_ _) (dw_ _) rfl (.arr (jv_ _)) tz_42.h rfl tb_42.h d_o (by first|(simp[maxLen];done)|(simp[maxLen];omega))) ?_
  refine o_1 (.callS1 rfl rfl rfl (.keep (.shut rfl d_n (.nil))) rfl ((FSpec.argE2 h3 (by rw[List.drop_zero];exact List.take_of_length_le (by simp))))) ?_
  refine a_1 ?_
  refine an_ (n_k ?_)
  refine r_m 3 ?_
  refine a_z ?_
  refine⟨j+1,by omega,hlt,?_⟩
  exact s_e []
 have hge:j=y.length:=by omega
 subst hge
 refine ac_ (q_z 4 ?_)
 refine cF (au_ ⟨(),trivial,?_⟩)
 exact s_e []
 rintro _ _
 refine r_z 2 ?_
 refine ai_ ?_
 have e:m y.length=mulP (vR x) (vR y):=by rw[hm,←kP_,cP_]
 rw[e]
 exact t_e (a7_ _)
def dSt(d:List Rat)(s:List Rat×List RQ):List Rat×List RQ:=
 (addP s.1 (shP ((vR s.2).length- d.length) [leadP (vR s.2) / leadP d]),rP (subP (vR s.2) (mulP d (shP ((vR s.2).length- d.length) [leadP (vR s.2) / leadP d]))))
def dRn(d:List Rat):Nat→List Rat×List RQ→List Rat×List RQ
 |0,s=>s
 |n+1,s=>if d.length≤s.2.length then dRn d n (dSt d s) else s
structure DInv (p d:List Rat)(t L:Nat)(s:List Rat×List RQ):Prop where
 ok:okX s.2
 tr:trimQ (vR s.2)=vR s.2
 bd:∃b,1≤b∧bdL (vR s.2) b∧bdL s.1 b∧(b+2* t+3) * 2^ s.2.length≤L
 ln:s.2.length≤p.length
 lq:s.1.length≤p.length
 ev:∀x,evalP p x=evalP s.1 x* evalP d x+evalP (vR s.2) x
theorem DInv.step{p d:List Rat}{t L:Nat}{s:List Rat×List RQ}(h:DInv p d t L s)(hd:trimQ d=d)(hd0:d≠[])(hdt:bdL d t)(ht:1≤t)(hl:d.length≤s.2.length):DInv p d t L (dSt d s)∧(dSt d s).2.length< s.2.length:=by
 obtain⟨q,X⟩:=s
 obtain⟨ok,tr,⟨b,b1,bx,bq,hb⟩,ln,lq,ev⟩:=h
 simp only at *
 have hdl:=List.length_pos_iff.2 hd0
 have hlt:=step_len tr hd hd0 (by rw[cP_];exact hl)
 obtain⟨s1,s2,s3⟩:=step_bd bx hdt b1 ht hd0 ((vR X).length- d.length)
 obtain⟨a,ha⟩:∃a,a=leadP (vR X) / leadP d:=⟨_,rfl⟩
 unfold dSt
 simp only
 rw[cP_] at hlt s2 s3⊢
 rw[←ha] at hlt s1 s2 s3⊢
 refine⟨⟨ev_ _,?_,⟨2* b+2* t+3,by omega,?_,?_,?_⟩,?_,?_,?_⟩,?_⟩
 rw[vR_rP];exact oM_ _ _
 rw[vR_rP];exact s3
 have h1:bdL [a] (b+t):=fun x hx=>by rw[List.mem_singleton.1 hx];exact s1
 exact dU_ (nT_ bq (bdL_sh h1 (by omega) _) b1 (by omega)) (by omega)
 simp only[eB_]
 obtain⟨n,hn⟩:∃n,X.length=n+1:=⟨X.length- 1,by omega⟩
 have h1:2^ (subP (vR X) (mulP d (shP (X.length- d.length) [a]))).length≤2^ n:=Nat.pow_le_pow_right (by decide) (by omega)
 have h2:=Nat.mul_le_mul_left (2* b+2* t+3+2* t+3) h1
 have h3:(b+2* t+3) * 2^ X.length=(2* b+2* t+3+2* t+3) * 2^ n:=by
  rw[hn,Nat.pow_succ,show 2* b+2* t+3+2* t+3=(b+2* t+3) * 2 by omega,Nat.mul_assoc,Nat.mul_comm 2 (2^ n)]
 omega
 simp only[eB_];omega
 have h1:=f9_ q (shP (X.length- d.length) [a])
 rw[dl_] at h1
 simp at h1⊢;omega
 intro x
 rw[vR_rP,cj_,bh_,ck_,ev x]
 grind
 simp only[eB_];exact hlt
theorem DInv.run{p d:List Rat}{t L:Nat}(hd:trimQ d=d)(hd0:d≠[])(hdt:bdL d t)(ht:1≤t):∀n s,DInv p d t L s→s.2.length≤n→DInv p d t L (dRn d n s)∧(dRn d n s).2.length< d.length
 |0,s,h,hn=>by
  have:=List.length_pos_iff.2 hd0
  exact⟨h,by unfold dRn;omega⟩
 |n+1,s,h,hn=>by
  unfold dRn
  by_cases hl:d.length≤s.2.length
  rw[if_pos hl]
  obtain⟨h1,h2⟩:=h.step hd hd0 hdt ht hl
  exact DInv.run hd hd0 hdt ht n _ h1 (by omega)
  rw[if_neg hl]
  exact⟨h,by omega⟩
theorem CvLL.zerosR{r:Ren}{hp hp':Nat→Option ABlk}(h:Shr r hp hp')(L:List RQ):∀n,CvLL r hp hp' (List.replicate n zR4++rE L) (rE (List.replicate n r0++L))
 |0=>aQ_ h (aY_ L)
 |n+1=>by
  refine CvLL.cons (ys:=rE (List.replicate n r0++L)) ?_ (CvLL.zerosR h L n)
  show CvL r hp hp' zR4 (rC r0)
  rw[rC_r0]
  exact af_ (al_ h (ad_ _)) (af_ (Cv.emp _) (af_ (al_ h (ad_ _)) (af_ (Cv.emp _) ap_)))
theorem Cv.shutZ{r:Ren}{hp hp':Nat→Option ABlk}{id sz n k:Nat}{cap:Option Nat}{c:Rat}{B:ABlk}(h:Shr r hp hp')(hi:cellF hp id=some B)(hi':Dead r hp' id)(he:B.es=List.replicate k zR4++[rC (rq c)])(hn:n=k+1):Cv r hp hp' (.lsl id 0 n cap sz) (.arr (rE (List.replicate k r0++[rq c]))):=by
 subst hn
 refine Cv.shut h hi hi' (by rw[he];simp) ?_
 rw[he,List.drop_zero,List.take_of_length_le (by simp)]
 exact CvLL.zerosR h [rq c] k
theorem mxL_le{p:List Rat}{s:Nat}(h:bdL p s)(hs:1≤s):mxL p≤s:=by
 unfold mxL
 induction p with
 |nil=>exact hs
 |cons a l ih=>
  have h1:=h a (List.mem_cons_self ..)
  have h2:=ih fun q hq=>h q (List.mem_cons_of_mem _ hq)
  rw[List.foldr_cons]
  omega



theorem qs_pow{x:Rat}{t:Nat}(h:qs x≤t):∀n,qs (x^ n)≤n* t+1
 |0=>by rw[Rat.pow_zero];exact Nat.le_trans (by decide:qs 1≤1) (Nat.le_add_left 1 _)
 |n+1=>by
  have h1:=qs_pow h n
  have h2:=cb_ (x^ n) x
  rw[Rat.pow_succ,Nat.succ_mul];omega
def evS(x:List RQ)(a:RQ):Nat×Rat×Rat→AState
 |(i,o,w)=>⟨[(0,.arr (rE x)),(3,.lptr 1 0 0),(4,.lptr 2 0 0),(5,.lptr 3 0 0),(6,.lptr 4 0 0),(7,i64 i)],[(1,some ⟨42,4,[rC a]⟩),(2,some ⟨42,4,[zR4]⟩),(3,some ⟨42,4,[rC (rq o)]⟩),(4,some ⟨42,4,[rC (rq w)]⟩)],5,28⟩
theorem ql_(x:List RQ)(a:RQ)(i:Nat)(o:Rat)(w:Rat):evS x a (i,o,w)=⟨[(0,.arr (rE x)),(3,.lptr 1 0 0),(4,.lptr 2 0 0),(5,.lptr 3 0 0),(6,.lptr 4 0 0),(7,i64 i)],[(1,some ⟨42,4,[rC a]⟩),(2,some ⟨42,4,[zR4]⟩),(3,some ⟨42,4,[rC (rq o)]⟩),(4,some ⟨42,4,[rC (rq w)]⟩)],5,28⟩:=rfl
theorem nh_(x:List RQ)(a:RQ)(s t:Nat)(hx:okX x)(ha:rok a)(hs:bdL (vR x) s)(hs1:1≤s)(ht:qs a.1≤t)(hlim:(x.length+2) * (s+t+1)≤137438953472)(hl:x.length≤1000000):
    FSpec Tryz.prog 251 [.arr (rE x),.agg (rC a)] (.agg (rC (rq (evalP (vR x) a.1)))):=by
 have hi0:FSpec Tryz.prog 112 [i64 0] (.agg (rC (rq 0))):=cr_ 0 (by decide)
 have hi1:FSpec Tryz.prog 112 [i64 1] (.agg (rC (rq 1))):=cr_ 1 (by decide)
 have hvl:=cP_ x
 refine f_n Tryz.func251 ?_ ?_
 exact aa_ (a7_ x) (aa_ (a6_ a) ab_)
 refine r_z 2 ?_
 refine r_c 6 (hi0) ?_
 refine c_s (hi1) ?_
 refine a_z ?_
 refine ac_ (r_z 1 ?_)
 refine aD_ (fun _:Unit=>⟨[(4,.lptr 1 0 0),(5,.lptr 2 0 0)],[(1,some ⟨42,4,[zR4]⟩),(2,some ⟨42,4,[rC (rq (evalP (vR x) a.1))]⟩)],3,28⟩) (fun _=>True) ?_ ?_
 refine ah_ (ax_ (evS x a) (fun y=>x.length- y.1) (fun y=>y.1≤x.length∧y.2.1=evalP ((vR x).take y.1) a.1∧y.2.2=a.1^ y.1) (0,0,1) ⟨Nat.zero_le _,rfl,(Rat.pow_zero _).symm⟩ ?_ ?_)
 simp only[ql_]
 exact s_e [(1,3),(2,4),(3,5),(4,6)]
 rintro⟨i,o,w⟩ ⟨hi,ho,hw⟩
 simp only at hi ho hw
 rw[ql_]
 refine ac_ (r_z 4 ?_)
 refine am_ rfl (fun h=>?_) (fun h=>?_)
 refine ag_ ?_
 have hlt:i< x.length:=by simpa using h
 obtain⟨y,hy,hyc⟩:=gv_ hlt
 have hym:=List.mem_of_getElem? hy
 have hgt:(rE x)[((i:Nat):Int).toNat]?=some (rC y):=et_ hy
 have hc:=bQ_ hs hs1 i
 rw[←hyc] at hc
 have hp:=qs_pow ht i
 rw[←hw] at hp
 have hob:=dP_ ht (l:=(vR x).take i) (s:=s) fun q hq=>hs q (List.mem_of_mem_take hq)
 rw[←ho,List.length_take,hvl,Nat.min_eq_left (by omega)] at hob
 have e1:(i+1) * (s+t+1)≤(x.length+1) * (s+t+1):=Nat.mul_le_mul_right _ (by omega)
 have e2:(x.length+2) * (s+t+1)=(x.length+1) * (s+t+1)+(s+t+1):=Nat.succ_mul _ _
 have e3:(i+1) * (s+t+1)=i* (s+t+1)+(s+t+1):=Nat.succ_mul _ _
 have e4:i* t≤i* (s+t+1):=Nat.mul_le_mul_left _ (by omega)
 have m1:=el_ y (rq w) (hx y hym) (bm_ _) (by show qs y.1+qs w≤_;omega)
 have q1:=cb_ y.1 w
 have m2:=fv_ (rq o) (rq (y.1* w)) (bm_ _) (bm_ _) (by show qs o+qs (y.1* w)≤_;omega)
 have m3:=el_ (rq w) a (bm_ _) ha (by show qs w+qs a.1≤_;omega)
 refine ac_ (ah_ (ac_ (r_d hmix 9 ?_)))
 refine a_3 ?_
 refine i_x hgt ?_
 refine l_x hgt ?_
 refine c_s (m1) ?_
 refine c_s (m2) ?_
 refine a_1 ?_
 refine an_ (n_k ?_)
 refine r_m 4 ?_
 refine c_s (m3) ?_
 refine a_z ?_
 refine r_m 3 ?_
 refine a_z ?_
 refine⟨(i+1,o+y.1* w,w* a.1),by simp only;omega,⟨hlt,?_,by simp only;rw[hw,Rat.pow_succ]⟩,?_⟩
 simp only
 rw[c1_ _ _ _ (by omega),←ho,hyc,hw]
 simp only[ql_]
 exact s_e []
 have hge:i=x.length:=by
  have:¬i< x.length:=by simpa using h
  omega
 subst hge
 rw[List.take_of_length_le (by omega)] at ho
 subst ho
 refine au_ ⟨(),trivial,?_⟩
 exact s_e [(1,4),(2,5)]
 rintro _ _
 refine r_z 2 ?_
 exact ai_ (c_e (a6_ _))
def cR(l:List (List Rat)):List (List AV):=l.map fun p=>[.arr (rE (rP p))]
@[simp] theorem cR_length (l:List (List Rat)):(cR l).length=l.length:=by simp[cR]
theorem gt_{r:Ren}{hp hp':Nat→Option ABlk}(h:Shr r hp hp'):CvL r hp hp' zR4 (rC r0):=by
 rw[show rC r0=[i64 0,.arr [],i64 0,.arr []] from rC_r0]
 exact af_ (al_ h (ad_ _)) (af_ (Cv.emp _) (af_ (al_ h (ad_ _)) (af_ (Cv.emp _) ap_)))
def mnX(k:Nat):List RQ:=List.replicate k r0++[rq 1]
theorem mnX_v(k:Nat):vR (mnX k)=shP k [1]:=by unfold mnX;rw[hb_,jl_];rfl
theorem mnX_ok(k:Nat):okX (mnX k):=iY_ (kI_ _) (fun z hz=>by rw[List.mem_singleton.1 hz];exact bm_ _)
theorem kY_(k:Nat)(hk:k≤1000000):FSpec Tryz.prog 163 [i64 k] (.arr (rE (mnX k))):=by
 have h1:FSpec Tryz.prog 112 [i64 1] (.agg (rC (rq 1))):=cr_ 1 (by decide)
 refine f_n Tryz.func163 ?_ ?_
 exact aa_ (ad_ _) ab_
 refine r_z 1 ?_
 refine ac_ (r_d hmix 6 ?_)
 refine a_1 ?_
 refine o_1 (.makeSlice (l:=k) (c:=k) rfl rfl te_66.h tz_42.h rfl tb_42.h (by first|omega|(simp;done)|(simp;omega)) (by first|omega|(simp;done)|(simp;omega)) (by unfold maxLen;first|omega|(simp;done)|(simp;omega))) ?_
 refine c_s (h1) ?_
 refine a_1 ?_
 refine o_2 (.append_l rfl rfl rfl te_66.h rfl rfl rfl rfl rfl d_o (oF_ _) rfl rfl (.lsl rfl (nle rfl)) tz_42.h rfl tb_42.h d_o (by first|(simp[maxLen];done)|(simp[maxLen];omega))) ?_
 refine a_1 ?_
 refine an_ (n_k ?_)
 exact ai_ (Fin.tmp rfl (Cv.shutZ (c:=1) at_ rfl (fun _ _ h=>by cases h) rfl rfl))
theorem nf_(a b:Rat):FSpec Tryz.prog 127 [.agg (rC (rq a)),.agg (rC (rq b))] (.arr (rE (rP [a,b]))):=by
 refine f_n Tryz.func127 ?_ ?_
 exact aa_ (a6_ _) (aa_ (a6_ _) ab_)
 refine r_z 3 ?_
 refine r_z 4 ?_
 exact ai_ (Fin.tmp rfl (Cv.shut at_ rfl (fun _ _ h=>by cases h) (by simp) (aQ_ at_ (aY_ (rP [a,b])))))
theorem kX_(u v:Rat)(n:Nat)(hu:qs u≤256)(hv:qs v≤256)(hn:n≤8):FSpec Tryz.prog 192 [.arr (rE (rP [u,v])),i64 n] (.arr (rE (rP (powP [u,v] n)))):=by
 have h1:FSpec Tryz.prog 112 [i64 1] (.agg (rC (rq 1))):=cr_ 1 (by decide)
 have h2:=k1_ 1
 refine f_n Tryz.func192 ?_ ?_
 exact aa_ (a7_ _) (aa_ (ad_ _) ab_)
 refine r_z 1 ?_
 refine r_c 3 (h1) ?_
 refine c_s (h2) ?_
 refine a_z ?_
 refine ac_ (r_z 1 ?_)
 refine aD_ (fun _:Unit=>⟨[(5,.arr (rE (rP (powP [u,v] n))))],[],1,18⟩) (fun _=>True) ?_ ?_
 refine ah_ (ax_ (fun j:Nat=>⟨[(6,i64 ((j:Nat):Int)),(5,.arr (rE (rP (powP [u,v] j)))),(0,.arr (rE (rP [u,v]))),(1,i64 n)],[],1,18⟩) (fun j=>n- j) (fun j=>j≤n) 0 (Nat.zero_le _) ?_ ?_)
 exact s_e []
 rintro j hj
 by_cases hlt:j< n
 have hll:=ef_ u v (n:=j) (by omega)
 have hb:=lB_le (n:=j) (by omega)
 have hbj:=fO_ hu hv j
 have hm:=jO_ (rP (powP [u,v] j)) (rP [u,v]) (lB j) 256 500000 (ev_ _) (ev_ _) (by rw[vR_rP];exact hbj) (by rw[vR_rP];exact bd_uv hu hv) (eG_ j) (fun i hi=>by
  rw[vR_rP,vR_rP]
  have hi2:i≤2:=by simpa[rP] using hi
  have h5:=Nat.mul_le_mul hi2 (show lB j+256+1≤160257 by omega)
  exact dU_ (mR_bd hbj (bd_uv hu hv) (eG_ j) (by decide) i) (by omega)) (by omega) (by simp[rP];omega) (by simp[rP])
 rw[vR_rP,vR_rP] at hm
 refine ac_ (q_z 3 ?_)
 refine cT (ag_ (ac_ (ah_ (r_m 4 ?_))))
 refine c_s (hm) ?_
 refine a_z ?_
 refine r_m 3 ?_
 refine a_z ?_
 refine⟨j+1,by omega,hlt,?_⟩
 exact s_e []
 have hge:j=n:=by omega
 subst hge
 refine ac_ (q_z 3 ?_)
 refine cF (au_ ⟨(),trivial,?_⟩)
 exact s_e []
 rintro _ _
 refine r_z 2 ?_
 exact ai_ (t_e (a7_ _))
theorem em_(n:Nat)(hn:n≤73):FSpec Tryz.prog 195 [i64 n] (.agg (rC (rq (((fcN n:Nat):Int):Rat)))):=by
 have h1:FSpec Tryz.prog 112 [i64 1] (.agg (rC (rq 1))):=cr_ 1 (by decide)
 refine f_n Tryz.func195 ?_ ?_
 exact aa_ (ad_ _) ab_
 refine r_z 1 ?_
 refine r_c 3 (h1) ?_
 refine a_z ?_
 refine ac_ (r_z 1 ?_)
 refine aD_ (fun _:Unit=>⟨[(2,.lptr 1 0 0),(3,.lptr 2 0 0)],[(1,some ⟨42,4,[zR4]⟩),(2,some ⟨42,4,[rC (rq (((fcN n:Nat):Int):Rat))]⟩)],3,16⟩) (fun _=>True) ?_ ?_
 refine ah_ (ax_ (fun j:Nat=>⟨[(4,i64 ((j+2:Nat):Int)),(0,i64 n),(2,.lptr 1 0 0),(3,.lptr 2 0 0)],[(1,some ⟨42,4,[zR4]⟩),(2,some ⟨42,4,[rC (rq (((fcN (j+1):Nat):Int):Rat))]⟩)],3,16⟩) (fun j=>n- j) (fun j=>j+1≤n∨j=0) 0 (.inr rfl) ?_ ?_)
 exact s_e [(1,2),(2,3)]
 rintro j hj
 by_cases hlt:j+2≤n
 have hi:=cr_ ((j+2:Nat):Int) (by omega)
 have hm:=el_ (rq (((fcN (j+1):Nat):Int):Rat)) (rq (((j+2:Nat):Int):Rat)) (bm_ _) (bm_ _) (by
  have q1:=gI_ (n:=j+1) (by omega)
  have q2:=qi21 (n:=((j+2:Nat):Int)) (by omega)
  show qs (((fcN (j+1):Nat):Int):Rat)+qs (((j+2:Nat):Int):Rat)≤_
  omega)
 have e:(rq (((fcN (j+1):Nat):Int):Rat)).1* (rq (((j+2:Nat):Int):Rat)).1=(((fcN (j+1+1):Nat):Int):Rat):=fcR (j+1)
 rw[e] at hm
 refine ac_ (q_z 3 ?_)
 refine cT (ag_ (ac_ (ah_ (r_d hmix 5 ?_))))
 refine c_s (hi) ?_
 refine c_s (hm) ?_
 refine a_1 ?_
 refine an_ (n_k ?_)
 refine r_m 3 ?_
 refine a_z ?_
 refine⟨j+1,by omega,.inl (by omega),?_⟩
 exact s_e [(1,2),(2,3)]
 have hge:fcN n=fcN (j+1):=by
  rcases hj with hj|hj
  rw[show n=j+1 by omega]
  subst hj
  have:n=0∨n=1:=by omega
  rcases this with e|e <;> rw[e]<;> rfl
 refine ac_ (q_z 3 ?_)
 refine cF (au_ ⟨(),trivial,?_⟩)
 rw[hge]
 exact s_e [(1,2),(2,3)]
 rintro _ _
 refine r_z 2 ?_
 exact ai_ (c_e (a6_ _))
theorem fs_rOver(X:List RQ)(a b:Rat)(s:Nat)(hx:okX X)(hs:bdL (vR X) s)(hs1:1≤s)(hl:X.length≤200)(ha:qs a≤256)(hb:qs b≤256)(hlim:s≤100000000):
    FSpec Tryz.prog 193 [.arr (rE X),.agg (rC (rq a)++rC (rq b))] (.agg (rC (rq (evalP (aI_ (vR X)) b- evalP (aI_ (vR X)) a)))):=by
 have hin:=k0_ X s hx hs (by omega) (by omega)
 have hvl:=cP_ X
 have il:=ej_ (vR X)
 have ib:=hM_ hs hs1 (by omega)
 generalize aI_ (vR X)=I at *
 have hil:(rP I).length=I.length:=by simp[rP]
 have h1:=Nat.mul_le_mul (show(rP I).length+2≤203 by omega) (show s+21+256+1≤100000278 by omega)
 have e1:=nh_ (rP I) (rq b) (s+21) 256 (ev_ _) (bm_ _) (by rw[vR_rP];exact ib) (by omega) hb (by omega) (by omega)
 have e2:=nh_ (rP I) (rq a) (s+21) 256 (ev_ _) (bm_ _) (by rw[vR_rP];exact ib) (by omega) ha (by omega) (by omega)
 rw[vR_rP] at e1 e2
 have h2:=Nat.mul_le_mul (show I.length≤201 by omega) (show s+21+256+1≤100000278 by omega)
 have b1:=dP_ hb ib
 have b2:=dP_ ha ib
 have hsu:=fs_rSub (rq (evalP I b)) (rq (evalP I a)) (bm_ _) (bm_ _) (by show qs (evalP I b)+qs (evalP I a)≤_;omega)
 refine f_n Tryz.func193 ?_ ?_
 exact aa_ (a7_ X) (aa_ (aq_ fun c hc=>(List.mem_append.1 hc).elim (bi_ _ c) (bi_ _ c)) ab_)
 refine r_z 2 ?_
 refine r_c 3 (hin) ?_
 refine a_z ?_
 refine ac_ (r_d hmix 10 ?_)
 refine c_s (e1) ?_
 refine c_s (e2) ?_
 refine c_s (hsu) ?_
 refine a_1 ?_
 refine an_ (n_k ?_)
 exact ai_ (c_e (a6_ _))
def rwC(m:List Rat)(l r:Bool)(lo hi:RQ):List AV:=[.arr (rE (rP m)),bln l,bln r]++rC lo++rC hi
theorem aV_{m:List Rat}{l r:Bool}{lo hi:RQ}:∀c∈rwC m l r lo hi,Closed c:=fun c hc=>by
 unfold rwC at hc
 rcases List.mem_append.1 hc with hc|hc
 rcases List.mem_append.1 hc with hc|hc
 exact aa_ (a7_ _) (aa_ (ad_ _) (aa_ (ad_ _) ab_)) c hc
 exact bi_ _ c hc
 exact bi_ _ c hc
def rwX(x:AV)(l r:Bool)(lo hi:List AV):List AV:=[x,bln l,bln r]++lo++hi
def rw0:List AV:=rwX .emp false false zR4 zR4
theorem az_:∀c∈rw0,Closed c:=fun c hc=>by
 unfold rw0 rwX at hc
 rcases List.mem_append.1 hc with hc|hc
 rcases List.mem_append.1 hc with hc|hc
 exact aa_ bB_ (aa_ (ad_ _) (aa_ (ad_ _) ab_)) c hc
 exact bA_ c hc
 exact bA_ c hc
theorem bb_{l r:Bool}{lo hi:List AV}(h1:∀c∈lo,Closed c)(h2:∀c∈hi,Closed c):∀c∈rwX .emp l r lo hi,Closed c:=fun c hc=>by
 unfold rwX at hc
 rcases List.mem_append.1 hc with hc|hc
 rcases List.mem_append.1 hc with hc|hc
 exact aa_ bB_ (aa_ (ad_ _) (aa_ (ad_ _) ab_)) c hc
 exact h1 c hc
 exact h2 c hc
theorem bF_{r:Ren}{hp hp':Nat→Option ABlk}{x x':AV}{l b:Bool}{lo hi lo' hi':List AV}(h:Shr r hp hp')(hx:Cv r hp hp' x x')(h1:CvL r hp hp' lo lo')(h2:CvL r hp hp' hi hi'):CvL r hp hp' (rwX x l b lo hi) (rwX x' l b lo' hi'):=
 cq_ (cq_ (af_ hx (af_ (al_ h (ad_ _)) (af_ (al_ h (ad_ _)) ap_))) h1) h2
theorem ik_{r:Ren}{hp hp':Nat→Option ABlk}{id n:Nat}{cap:Option Nat}{B:ABlk}{L:List RQ}(h:Shr r hp hp')(hi:cellF hp id=some B)(hi':Dead r hp' id)(he:B.es=rE L)(hn:n=L.length):Cv r hp hp' (.lsl id 0 n cap 4) (.arr (rE L)):=
 Cv.shut h hi hi' (by rw[he,hn];simp) (aG_ h (by rw[he,List.drop_zero];exact List.take_of_length_le (by simp[hn])) (aY_ _))
def rjS(n:Nat)(f:Nat→Rat)(fr:Fr)(l r:Bool)(lo hi:List AV)(t tw tr:Nat):Nat→AState
 |0=>⟨[(t,i64 ((0:Nat):Int)),(tr,.lptr 1 0 0),(tw,.lptr 2 0 0)]++fr,[(1,some ⟨77,11,[rw0]⟩),(2,some ⟨77,11,[rwX .emp l r lo hi]⟩)],3,n⟩
 |k+1=>⟨[(t,i64 ((k+1:Nat):Int)),(tr,.lptr 1 0 0),(tw,.lptr 2 0 0)]++fr,[(1,some ⟨77,11,[rw0]⟩),(2,some ⟨77,11,[rwX (.lsl 3 0 (k+1) none 4) l r lo hi]⟩),(3,some ⟨42,4,rE (rP (sqL f (k+1)))⟩)],4,n⟩
theorem rjS_0(n:Nat)(f:Nat→Rat)(fr:Fr)(l r:Bool)(lo hi:List AV)(t tw tr:Nat):rjS n f fr l r lo hi t tw tr 0=⟨[(t,i64 ((0:Nat):Int)),(tr,.lptr 1 0 0),(tw,.lptr 2 0 0)]++fr,[(1,some ⟨77,11,[rw0]⟩),(2,some ⟨77,11,[rwX .emp l r lo hi]⟩)],3,n⟩:=rfl
theorem rjS_s(n:Nat)(f:Nat→Rat)(fr:Fr)(l r:Bool)(lo hi:List AV)(t tw tr k:Nat):rjS n f fr l r lo hi t tw tr (k+1)=⟨[(t,i64 ((k+1:Nat):Int)),(tr,.lptr 1 0 0),(tw,.lptr 2 0 0)]++fr,[(1,some ⟨77,11,[rw0]⟩),(2,some ⟨77,11,[rwX (.lsl 3 0 (k+1) none 4) l r lo hi]⟩),(3,some ⟨42,4,rE (rP (sqL f (k+1)))⟩)],4,n⟩:=rfl
theorem lQ_(l:List Rat)(q:Rat):rE (rP (l++[q]))=rE (rP l)++[rC (rq q)]:=by simp[rE,rP]
theorem kZ_(p n:Nat)(hp:p≤8)(hn:n≤63):FSpec Tryz.prog 107 [i64 p,i64 n] (.agg (rwC (sqL (lgQ p) (n+1)) true false r0 r0)):=by
 have e:∀k,rE (rP (sqL (lgQ p) k))++[rC (rq (lgQ p k))]=rE (rP (sqL (lgQ p) (k+1))):=fun k=>by rw[ed_,lQ_]
 have hfc:∀k,k≤n→FSpec Tryz.prog 195 [i64 (((k:Nat):Int)+(p:Int))] (.agg (rC (rq (lgQ p k)))):=fun k hk=>by
  have:=em_ (p+k) (by omega)
  rw[show((p+k:Nat):Int)=((k:Nat):Int)+(p:Int) by omega] at this
  exact this
 generalize lgQ p=f at *
 refine f_n Tryz.func107 ?_ ?_
 exact aa_ (ad_ _) (aa_ (ad_ _) ab_)
 refine r_z 1 ?_
 refine r_z 3 ?_
 refine ac_ (r_z 1 ?_)
 refine aD_ (fun _:Unit=>⟨[(4,.lptr 1 0 0),(5,.lptr 2 0 0)],[(1,some ⟨77,11,[rw0]⟩),(2,some ⟨77,11,[rwC (sqL f (n+1)) true false r0 r0]⟩)],3,23⟩) (fun _=>True) ?_ ?_
 refine ah_ (ax_ (rjS 23 f [(0,i64 p),(1,i64 n)] true false zR4 zR4 6 5 4) (fun k=>n+1- k) (fun k=>k≤n+1) 0 (Nat.zero_le _) ?_ ?_)
 rw[rjS_0]
 refine as_ [(1,4),(2,5)] rfl rfl rfl au_r (fun hs=>au_f) (fun hs=>?_)
 ·repeat' (first|exact ao_|refine ak_ rfl rfl rfl rfl ?_ ?_)
  all_goals (first|((try exact ae_ (CvL.clo hs az_));(try exact ae_ (CvL.clo hs (bb_ bA_ bA_))))|exact au_e)
 rintro k hk
 by_cases hlt:k≤n
 have hf:=hfc k hlt
 have e:=e k
 cases k with
 |zero=>
  rw[rjS_0]
  refine ac_ (q_z 3 ?_)
  refine cT (ag_ (ac_ (ah_ (r_d hmix 10 ?_))))
  refine c_s (hf) ?_
  refine a_4 ?_
  refine an_ (n_k ?_)
  refine r_m 3 ?_
  refine a_z ?_
  refine⟨0+1,by omega,by omega,?_⟩
  rw[rjS_s]
  refine as_ [(1,4),(2,5),(3,20)] rfl rfl rfl au_r (fun hs=>au_f) (fun hs=>?_)
  ·repeat' (first|exact ao_|refine ak_ rfl rfl rfl rfl ?_ ?_)
   all_goals (first|((try exact ae_ (CvL.clo hs az_));(try exact ae_ (bF_ hs (Cv.sl rfl rfl rfl) (CvL.clo hs bA_) (CvL.clo hs bA_)));(try exact aQ_ hs (aY_ (rP [f 0]))))|exact au_e)
 |succ k=>
  rw[rjS_s]
  refine ac_ (q_z 3 ?_)
  refine cT (ag_ (ac_ (ah_ (r_d hmix 10 ?_))))
  refine c_s (hf) ?_
  refine a_4 ?_
  refine an_ (n_k ?_)
  refine r_m 3 ?_
  refine a_z ?_
  refine⟨k+1+1,by omega,by omega,?_⟩
  rw[rjS_s]
  refine as_ [(1,4),(2,5),(3,20)] rfl rfl rfl ?_ (fun hs=>au_f) (fun hs=>?_)
  ·repeat' (first|exact ShrL.nil|refine ShrL.cons rfl rfl rfl rfl (by first|(simp)|rfl|(simp;done)|(simp <;> omega)) ?_)
  ·repeat' (first|exact ao_|refine ak_ rfl rfl rfl rfl ?_ ?_)
   all_goals (first|((try exact ae_ (CvL.clo hs az_));(try exact ae_ (bF_ hs (Cv.sl rfl rfl rfl) (CvL.clo hs bA_) (CvL.clo hs bA_)));(try exact aG_ hs e (aY_ _)))|exact au_e)
 have hge:k=n+1:=by omega
 subst hge
 rw[rjS_s]
 refine ac_ (q_z 3 ?_)
 refine cF (au_ ⟨(),trivial,?_⟩)
 refine as_ [(1,4),(2,5)] rfl rfl rfl au_r (fun hs=>au_f) (fun hs=>?_)
 ·repeat' (first|exact ao_|refine ak_ rfl rfl rfl rfl ?_ ?_)
  all_goals (first|((try exact ae_ (CvL.clo hs az_));(try exact ae_ (bF_ hs (ik_ (L:=rP (sqL f (n+1))) hs rfl (aE_ rfl) rfl (by simp[rP])) (gt_ hs) (gt_ hs))))|exact au_e)
 rintro _ _
 refine r_z 2 ?_
 exact ai_ (c_e (aq_ aV_))
theorem b8_{r:Ren}{hp hp':Nat→Option ABlk}(h:Shr r hp hp')(x:RQ):CvL r hp hp' (rC x) (rC x):=CvL.clo h (bi_ x)
theorem od_(a b:Rat)(p q n:Nat)(hp:p≤8)(hq:q≤8)(hn:n≤63)(ha:qs a≤256)(hb:qs b≤256):
    FSpec Tryz.prog 105 [.agg (rC (rq a)++rC (rq b)),i64 p,i64 q,i64 n] (.agg (rwC (sqL (moQ (jcF a b p q) (a,b)) (n+1)) true true (rq a) (rq b))):=by
 have hcS:∀c∈rC (rq a)++rC (rq b),Closed c:=fun c hc=>(List.mem_append.1 hc).elim (bi_ _ c) (bi_ _ c)
 have i1:FSpec Tryz.prog 112 [i64 1] (.agg (rC (rq 1))):=cr_ 1 (by decide)
 have i2:FSpec Tryz.prog 112 [i64 (-1)] (.agg (rC (rq (-1)))):=cr_ (-1) (by decide)
 have ng:=pT_ (rq a) (bm_ a)
 have n1:=nf_ (-a) 1
 have n2:=nf_ b (-1)
 have t1:=kX_ (-a) 1 p (by rw[fi_];exact ha) (by decide) hp
 have t2:=kX_ b (-1) q hb (by decide) hq
 have l1:=ef_ (-a) 1 hp
 have l2:=ef_ b (-1) hq
 have m1:=lB_le hp
 have m2:=lB_le hq
 have hmu:=jO_ (rP (powP [-a,1] p)) (rP (powP [b,-1] q)) (lB p) (lB q) 6000000 (ev_ _) (ev_ _) (by rw[vR_rP];exact jc_p ha) (by rw[vR_rP];exact jc_q hb) (eG_ p) (fun i hi=>by
  rw[vR_rP,vR_rP]
  have hi2:i≤17:=by
   have:(rP (powP [b,-1] q)).length=(powP [b,-1] q).length:=by simp[rP]
   omega
  have h5:=Nat.mul_le_mul hi2 (show lB p+lB q+1≤320001 by omega)
  exact dU_ (mR_bd (jc_p ha) (jc_q hb) (eG_ p) (eG_ q) i) (by omega)) (by omega) (by simp[rP];omega) (by simp[rP];omega)
 rw[vR_rP,vR_rP,show mulP (powP [-a,1] p) (powP [b,-1] q)=jcF a b p q from rfl] at hmu
 obtain⟨f1,f2⟩:=jcF_bd ha hb hp hq
 have hov:∀k,k≤n→FSpec Tryz.prog 130 [.arr (rE (rP (jcF a b p q))),.arr (rE (mnX k))] (.arr (rE (rP (mulP (jcF a b p q) (shP k [1])))))∧
     FSpec Tryz.prog 193 [.arr (rE (rP (mulP (jcF a b p q) (shP k [1])))),.agg (rC (rq a)++rC (rq b))] (.agg (rC (rq (moQ (jcF a b p q) (a,b) k)))):=fun k hk=>by
  have b1:bdL (shP k [1]) 1:=bdL_sh (by decide) (by decide) k
  have hM:=jO_ (rP (jcF a b p q)) (mnX k) 5500000 1 6000000 (ev_ _) (mnX_ok k) (by rw[vR_rP];exact f1) (by rw[mnX_v];exact b1) (by decide) (fun i hi=>by
   rw[vR_rP,mnX_v]
   have hi2:i≤k+1:=by simpa[mnX] using hi
   exact dU_ (gh_ f1 (by decide) i hi2) (by have:qs 1=1:=by decide
                                            omega)) (by omega) (by simp[rP];omega) (by simp[mnX];omega)
  rw[vR_rP,mnX_v] at hM
  have hml:=lX_ (jcF a b p q) (shP k [1])
  rw[dl_] at hml
  have e1:([1]:List Rat).length=1:=rfl
  have hmb:bdL (mulP (jcF a b p q) (shP k [1])) 6000000:=by
   have:=gh_ (a:=1) (d:=k) f1 (by decide) (k+1) (Nat.le_refl _)
   have e:(shP k [(1:Rat)]).length=k+1:=by rw[dl_];rfl
   rw[←e,kP_] at this
   exact dU_ this (by have:qs 1=1:=by decide
                      omega)
  have hO:=fs_rOver (rP (mulP (jcF a b p q) (shP k [1]))) a b 6000000 (ev_ _) (by rw[vR_rP];exact hmb) (by decide) (by simp[rP];omega) ha hb (by decide)
  rw[vR_rP,mo_mono] at hO
  exact⟨hM,hO⟩
 have e:∀k,rE (rP (sqL (moQ (jcF a b p q) (a,b)) k))++[rC (rq (moQ (jcF a b p q) (a,b) k))]=rE (rP (sqL (moQ (jcF a b p q) (a,b)) (k+1))):=fun k=>by rw[ed_,lQ_]
 generalize moQ (jcF a b p q) (a,b)=f at *
 generalize jcF a b p q=F at *
 refine f_n Tryz.func105 ?_ ?_
 exact aa_ (aq_ hcS) (aa_ (ad_ _) (aa_ (ad_ _) (aa_ (ad_ _) ab_)))
 refine r_z 2 ?_
 refine ac_ (r_d hmix 15 ?_)
 refine c_s (ng) ?_
 refine c_s (i1) ?_
 refine c_s (n1) ?_
 refine c_s (t1) ?_
 refine c_s (i2) ?_
 refine c_s (n2) ?_
 refine c_s (t2) ?_
 refine c_s (hmu) ?_
 refine a_1 ?_
 refine an_ (n_k ?_)
 refine r_z 7 ?_
 refine ac_ (r_z 1 ?_)
 refine aD_ (fun _:Unit=>⟨[(8,.lptr 1 0 0),(10,.lptr 2 0 0)],[(1,some ⟨77,11,[rw0]⟩),(2,some ⟨77,11,[rwC (sqL f (n+1)) true true (rq a) (rq b)]⟩)],3,48⟩) (fun _=>True) ?_ ?_
 refine ah_ (ax_ (rjS 48 f [(3,i64 n),(4,.aptr [rC (rq a)++rC (rq b)] 0 0),(9,.arr (rE (rP F)))] true true (rC (rq a)) (rC (rq b)) 11 10 8) (fun k=>n+1- k) (fun k=>k≤n+1) 0 (Nat.zero_le _) ?_ ?_)
 rw[rjS_0]
 refine as_ [(1,8),(2,10)] rfl rfl rfl au_r (fun hs=>?_) (fun hs=>?_)
 ·repeat' (first|exact aA_|refine aw_ rfl ?_ ?_)
  all_goals (first|(exact Cv.boxp hs rfl (aE_ rfl) rfl hcS)|exact au_c)
 ·repeat' (first|exact ao_|refine ak_ rfl rfl rfl rfl ?_ ?_)
  all_goals (first|((try exact ae_ (CvL.clo hs az_));(try exact ae_ (CvL.clo hs (bb_ (bi_ _) (bi_ _)))))|exact au_e|(refine ae_ ?_;repeat' (first|exact ap_|refine af_ ?_ ?_)))
  all_goals (first|(exact Cv.boxp hs rfl (aE_ rfl) rfl hcS)|exact au_c)
 rintro k hk
 by_cases hlt:k≤n
 obtain⟨hM,hO⟩:=hov k hlt
 have hmn:=kY_ k (by omega)
 have e:=e k
 cases k with
 |zero=>
  rw[rjS_0]
  refine ac_ (q_z 3 ?_)
  refine cT (ag_ (ac_ (ah_ (r_d hmix 12 ?_))))
  refine c_s (hmn) ?_
  refine c_s (hM) ?_
  refine c_s (hO) ?_
  refine a_4 ?_
  refine an_ (n_k ?_)
  refine r_m 3 ?_
  refine a_z ?_
  refine⟨0+1,by omega,by omega,?_⟩
  rw[rjS_s]
  refine as_ [(1,8),(2,10),(3,45)] rfl rfl rfl au_r (fun hs=>?_) (fun hs=>?_)
  ·repeat' (first|exact aA_|refine aw_ rfl ?_ ?_)
   all_goals (first|(exact al_ hs (aj_ hcS))|exact au_c)
  ·repeat' (first|exact ao_|refine ak_ rfl rfl rfl rfl ?_ ?_)
   all_goals (first|((try exact ae_ (CvL.clo hs az_));(try exact ae_ (bF_ hs (Cv.sl rfl rfl rfl) (b8_ hs _) (b8_ hs _)));(try exact aQ_ hs (aY_ (rP [f 0]))))|exact au_e|(refine ae_ ?_;repeat' (first|exact ap_|refine af_ ?_ ?_)))
   all_goals (first|(exact al_ hs (aj_ hcS))|exact au_c)
 |succ k=>
  rw[rjS_s]
  refine ac_ (q_z 3 ?_)
  refine cT (ag_ (ac_ (ah_ (r_d hmix 12 ?_))))
  refine c_s (hmn) ?_
  refine c_s (hM) ?_
  refine c_s (hO) ?_
  refine a_4 ?_
  refine an_ (n_k ?_)
  refine r_m 3 ?_
  refine a_z ?_
  refine⟨k+1+1,by omega,by omega,?_⟩
  rw[rjS_s]
  refine as_ [(1,8),(2,10),(3,45)] rfl rfl rfl ?_ (fun hs=>?_) (fun hs=>?_)
  ·repeat' (first|exact ShrL.nil|refine ShrL.cons rfl rfl rfl rfl (by first|(simp)|rfl|(simp;done)|(simp <;> omega)) ?_)
  ·repeat' (first|exact aA_|refine aw_ rfl ?_ ?_)
   all_goals (first|(exact al_ hs (aj_ hcS))|exact au_c)
  ·repeat' (first|exact ao_|refine ak_ rfl rfl rfl rfl ?_ ?_)
   all_goals (first|((try exact ae_ (CvL.clo hs az_));(try exact ae_ (bF_ hs (Cv.sl rfl rfl rfl) (b8_ hs _) (b8_ hs _)));(try exact aG_ hs e (aY_ _)))|exact au_e|(refine ae_ ?_;repeat' (first|exact ap_|refine af_ ?_ ?_)))
   all_goals (first|(exact al_ hs (aj_ hcS))|exact au_c)
 have hge:k=n+1:=by omega
 subst hge
 rw[rjS_s]
 refine ac_ (q_z 3 ?_)
 refine cF (au_ ⟨(),trivial,?_⟩)
 refine as_ [(1,8),(2,10)] rfl rfl rfl au_r (fun hs=>au_f) (fun hs=>?_)
 ·repeat' (first|exact ao_|refine ak_ rfl rfl rfl rfl ?_ ?_)
  all_goals (first|((try exact ae_ (CvL.clo hs az_));(try exact ae_ (bF_ hs (ik_ (L:=rP (sqL f (n+1))) hs rfl (aE_ rfl) rfl (by simp[rP])) (b8_ hs _) (b8_ hs _))))|exact au_e)
 rintro _ _
 refine r_z 2 ?_
 exact ai_ (c_e (aq_ aV_))
end Go.Proofs.YtdjfjpeoddmamaaGreatDoor
