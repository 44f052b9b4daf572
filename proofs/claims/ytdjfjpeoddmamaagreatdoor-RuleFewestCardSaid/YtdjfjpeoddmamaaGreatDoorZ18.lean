/- Part Z18 of the proof. -/
import Derived.Test.YtdjfjpeoddmamaaGreatDoorZ17
import Derived.Lib.UnsafeStr
import Derived.Lib.Builder
import Derived.Shelf.RegionOpenPlain
import Derived.Lib.Strings
import Derived.Lib.Slices
import Derived.Lib.Walk
set_option linter.all false
namespace Go.Proofs.YtdjfjpeoddmamaaGreatDoor
open Go.Abs
set_option maxRecDepth 20000
theorem d7_(a b:Rat)(hb:b≠0)(h:qs a+qs b≤549755813888):FSpec Tryz.prog 95 [.agg (qC a),.agg (qC b)] (.agg (qC (a/ b))):=by
 refine f_n Tryz.func95 ?_ ?_
 exact aa_ (ay_ a) (aa_ (ay_ b) ab_)
 refine r_z 3 ?_
 refine r_c 9 (rN_ a b hb h) ?_
 refine a_z ?_
 refine r_z 2 ?_
 exact ag_ (c_e (ay_ _))
theorem a7_(n:Int)(h: -9223372036854775808≤n∧n≤9223372036854775807):FSpec Tryz.prog 80 [i64 n] (.agg (qC (n:Rat))):=by
 refine f_n Tryz.func80 ?_ ?_
 exact aa_ (ad_ _) ab_
 refine r_z 1 ?_
 refine r_c 3 (ea_ n h) ?_
 refine a_z ?_
 exact ag_ (c_e (ay_ _))
theorem bE_(n lo hi:Int):FSpec Tryz.prog 78 [i64 n,i64 lo,i64 hi] (bln (decide (n< lo∨hi< n))):=by
 refine f_n Tryz.func78 ?_ ?_
 exact aa_ (ad_ _) (aa_ (ad_ _) (aa_ (ad_ _) ab_))
 refine r_z 1 ?_
 by_cases h:n< lo
 rw[decide_eq_true (Or.inl h)]
 refine q_z 9 ?_
 exact ag_ (t_e (ad_ _))
 by_cases h2:hi< n
 rw[decide_eq_true (Or.inr h2)]
 refine q_z 9 ?_
 exact ag_ (t_e (ad_ _))
 rw[decide_eq_false (fun e=>e.elim h h2)]
 refine q_z 9 ?_
 exact ag_ (t_e (ad_ _))
theorem nM_(p q:List Rat)(h:okDiv p q)(h0:trimQ q≠[]):FSpec Tryz.prog 189 [.arr (pE p),.arr (pE q)] (.arr (pE (divP p q).2)):=by
 refine f_n Tryz.func189 ?_ ?_
 exact aa_ (as_ p) (aa_ (as_ q) ab_)
 refine r_z 1 ?_
 refine r_c 10 (r3_ p q h h0) ?_
 refine a_z ?_
 refine r_z 2 ?_
 exact ag_ (t_e (as_ _))
theorem jT_(p:List Rat)(hb:bdL p 68719476736)(h0:trimQ p≠[])(hl:p.length≤1099511627776):FSpec Tryz.prog 96 [.arr (pE p)] (.arr (pE (a6_ p))):=by
 have hp:smL p:=ev_ hb (by decide)
 have hle:qs (leadP p)≤68719476736:=by
  obtain⟨n,hn⟩:∃n,(trimQ p).length=n+1:=⟨(trimQ p).length- 1,by have:=List.length_pos_iff.2 h0;omega⟩
  exact hb _ (bk_ (List.mem_of_getElem? (bH_ hn)))
 have q1:qs ((1:Int):Rat)=1:=by decide
 have hq:=c8_ ((1:Int):Rat) (leadP p)
 have e:a6_ p=az_ p (((1:Int):Rat) / leadP p):=by unfold a6_;rw[if_neg h0];rfl
 rw[e]
 refine f_n Tryz.func96 ?_ ?_
 exact aa_ (as_ p) ab_
 refine r_z 1 ?_
 refine r_c 7 (a7_ 1 (by decide)) ?_
 refine c_s (gi_ p hl) ?_
 refine o_0 (.call rfl rfl rfl (d7_ _ (leadP p) (bF_ h0) (by omega))) ?_
 refine o_0 (.call rfl rfl rfl (er_ p _ hp (by unfold sm;omega) hl)) ?_
 refine o_0 (.assign rfl) ?_
 refine ak_ ?_
 exact ag_ (t_e (as_ _))
theorem nQ_(f:List Rat)(a b:Rat)(hf:smL f)(hl:f.length≤1000000)(ha:d3_ (aL_ f) a)(hb:d3_ (aL_ f) b):FSpec Tryz.prog 82 [.arr (pE f),.agg (spC a b)] (.agg (qC (evalP (aL_ f) b- evalP (aL_ f) a))):=by
 have q1:=pi_ ha
 have q2:=pi_ hb
 unfold sm at q1 q2
 refine f_n Tryz.func82 ?_ ?_
 exact aa_ (as_ f) (aa_ (ca_ _ _) ab_)
 refine r_z 2 ?_
 refine r_c 3 (nW_ f hf (by omega)) ?_
 refine a_z ?_
 refine ac_ (r_d hmix 10 ?_)
 refine c_s (ll_ (aL_ f) b hb) ?_
 refine c_s (ll_ (aL_ f) a ha) ?_
 refine o_0 (.call rfl rfl rfl (o2_ _ _ (by omega))) ?_
 refine o_1n (.store rfl rfl rfl rfl rfl rfl ts_35.h (nle rfl)) ?_
 refine ak_ (n_k ?_)
 exact ag_ (c_e (ay_ _))
theorem lb_(p:List Rat)(h:ff_ p)(h0:trimQ p≠[])(hl:p.length≤1099511627776):FSpec Tryz.prog 235 [.arr (pE p)] (.agg (spC (-bc_ p) (bc_ p))):=by
 refine f_n Tryz.func235 ?_ ?_
 exact aa_ (as_ p) ab_
 refine r_z 1 ?_
 refine r_c 8 (r5_ p h h0 hl) ?_
 refine a_z ?_
 refine ac_ (r_d hmix 5 ?_)
 refine c_s (hG_ (bc_ p)) ?_
 refine a_3 ?_
 refine ak_ (n_k ?_)
 exact ag_ (c_e (ca_ _ _))
def wC(m:List Rat)(l r:Bool)(lo hi:List AV):List AV:=[.arr (pE m),bln l,bln r]++lo++hi
def okC2(lo:List AV):Prop:=lo=zC∨∃q,lo=qC q
theorem jc_{lo:List AV}(h:okC2 lo):∀c∈lo,Closed c:=by
 rcases h with rfl|⟨q,rfl⟩
 exact ee_
 exact a1_ q
theorem aR_{m:List Rat}{l r:Bool}{lo hi:List AV}(h:okC2 lo)(h2:okC2 hi):∀c∈wC m l r lo hi,Closed c:=fun c hc=>by
 unfold wC at hc
 rcases List.mem_append.1 hc with hc|hc
 rcases List.mem_append.1 hc with hc|hc
 exact aa_ (as_ m) (aa_ (ad_ _) (aa_ (ad_ _) ab_)) c hc
 exact jc_ h c hc
 exact jc_ h2 c hc
def ofS(t:List Rat)(W:List AV):Nat×Rat→AState
 |(i,o)=>⟨[(2,.lptr 1 0 0),(4,.lptr 2 0 0),(5,.lptr 3 0 0),(9,.arr (pE t)),(10,i64 t.length),(11,i64 i)],[(1,some ⟨51,9,[W]⟩),(2,some ⟨35,3,[zC]⟩),(3,some ⟨35,3,[qC o]⟩)],4,27⟩
theorem q5_(t:List Rat)(W:List AV)(i:Nat)(o:Rat):ofS t W (i,o)=⟨[(2,.lptr 1 0 0),(4,.lptr 2 0 0),(5,.lptr 3 0 0),(9,.arr (pE t)),(10,i64 t.length),(11,i64 i)],[(1,some ⟨51,9,[W]⟩),(2,some ⟨35,3,[zC]⟩),(3,some ⟨35,3,[qC o]⟩)],4,27⟩:=rfl
theorem fs_of(p m:List Rat)(l r:Bool)(a b:Rat)(s t:Nat)(hp:bdL p s)(hm:bdL m t)(hs:1≤s)(ht:1≤t)(hpl:p.length≤1000000)(hlen:(trimQ p).length≤m.length)(hlim:(p.length+2) * (s+t+1)≤137438953472):
    FSpec Tryz.prog 114 [.agg (wC m l r (qC a) (qC b)),.arr (pE p)] (.agg (qC (ofQ (trimQ p) m (trimQ p).length))):=by
 obtain⟨T,hT⟩:∃T,T=trimQ p:=⟨_,rfl⟩
 have htl:=aI_ p
 have hTb:bdL T s:=fun q hq=>hp q (bk_ (by rw[←hT];exact hq))
 have htr:=cu_ p (by omega)
 rw[←hT] at htl hlen htr⊢
 obtain⟨W,hW⟩:∃W,W=wC m l r (qC a) (qC b):=⟨_,rfl⟩
 have hWc:∀c∈W,Closed c:=by rw[hW];exact aR_ (.inr ⟨a,rfl⟩) (.inr ⟨b,rfl⟩)
 rw[hW] at hWc
 refine f_n Tryz.func114 ?_ ?_
 exact aa_ (ao_ hWc) (aa_ (as_ p) ab_)
 refine r_z 2 ?_
 refine r_z 1 ?_
 refine ac_ (r_c 4 (htr) ?_)
 refine a_z ?_
 have hWr:W=wC m l r (qC a) (qC b):=hW
 refine aD_ (fun _:Unit=>⟨[(4,.lptr 1 0 0),(5,.lptr 2 0 0)],[(1,some ⟨35,3,[zC]⟩),(2,some ⟨35,3,[qC (ofQ T m T.length)]⟩)],3,27⟩) (fun _=>True) ?_ ?_
 refine ah_ (aw_ (ofS T (wC m l r (qC a) (qC b))) (fun x=>T.length- x.1) (fun x=>x.1≤T.length∧x.2=ofQ T m x.1) (0,0) ⟨Nat.zero_le _,rfl⟩ ?_ ?_)
 simp only[q5_]
 rw[qC0]
 exact s_f [(1,2),(2,4),(3,5)]
 rintro⟨i,o⟩ ⟨hi,ho⟩
 simp only at hi ho
 rw[q5_]
 by_cases hlt:i< T.length
 refine q_z 1 ?_
 refine ac_ (cT (ai_ ?_))
 have hgt:(pE T)[((i:Nat):Int).toNat]?=some (qC (coP T i)):=bO_ (be_ hlt)
 have hgm:(pE m)[((i:Nat):Int).toNat]?=some (qC (coP m i)):=bO_ (be_ (by omega))
 have hc:=bA_ hTb hs i
 have hd:=bA_ hm ht i
 have hq:=me_ hTb hm hs ht i
 rw[←ho] at hq
 have e1:i* (s+t+1)≤(p.length+1) * (s+t+1):=Nat.mul_le_mul_right _ (by omega)
 have e2:(p.length+2) * (s+t+1)=(p.length+1) * (s+t+1)+(s+t+1):=Nat.succ_mul _ _
 have hmu:=de_ (coP T i) (coP m i) (by omega)
 have hqm:=b3_ (coP T i) (coP m i)
 have had:=f4_ o (coP T i* coP m i) (by omega)
 refine ac_ (ah_ (s_r 6 ?_))
 refine a_1 ?_
 refine i_x hgt ?_
 refine l_x hgt ?_
 refine a_z ?_
 refine r_d hmix 10 ?_
 refine a_5 ?_
 refine i_x hgm ?_
 refine l_x hgm ?_
 refine c_s (hmu) ?_
 refine c_s (had) ?_
 refine a_1 ?_
 refine ak_ (n_k ?_)
 refine r_m 2 ?_
 refine a_z ?_
 refine⟨(i+1,o+coP T i* coP m i),by simp only;omega,⟨hlt,by simp only;rw[ofQ,←ho]⟩,?_⟩
 simp only[q5_]
 exact s_f []
 have hge:i=T.length:=by omega
 subst hge
 refine q_z 1 ?_
 refine ac_ (cF (av_ ⟨(),trivial,?_⟩))
 rw[ho]
 exact s_e [(1,4),(2,5)]
 rintro _ _
 refine r_z 2 ?_
 exact ag_ (c_e (ay_ _))
theorem o5_(p:List Rat)(n:Int)(hl:p.length≤1099511627776)(h:1≤degP p∧degP p≤25)(hb:ff_ p)(hc:FSpec Tryz.prog 56 [.arr (pE p),.agg (spC (-bc_ p) (bc_ p))] (.tup [i64 n,i64 0])):FSpec Tryz.prog 160 [.arr (pE p)] (bln (decide (n=degP p))):=by
 have ho:=bE_ (degP p) 1 25
 rw[decide_eq_false (by omega)] at ho
 have h0:trimQ p≠[]:=fun e=>by have:=degP_neg.2 e;omega
 have hev:=lb_ p hb h0 hl
 refine f_n Tryz.func160 ?_ ?_
 exact aa_ (as_ p) ab_
 refine r_z 1 ?_
 refine r_c 3 (bI_ p hl) ?_
 refine a_z ?_
 refine ac_ (r_c 2 (ho) ?_)
 refine ak_ ?_
 refine cF (ai_ (r_c 9 (hev) ?_))
 refine c_s (hc) ?_
 refine a_z ?_
 refine r_z 4 ?_
 exact ag_ (t_e (ad_ _))
abbrev ruC(p w:List Rat):List AV:=[.arr (pE p),.arr (pE w)]
theorem bw_(p w:List Rat):∀c∈ruC p w,Closed c:=aa_ (as_ p) (aa_ (as_ w) ab_)
theorem hH_(p w:List Rat)(hr:FSpec Tryz.prog 160 [.arr (pE p)] (bln true))(hm:leadP p=1)(hd:degP w< degP p)(hp:p.length≤1099511627776)(hw:w.length≤1099511627776):FSpec Tryz.prog 94 [.agg (ruC p w)] (i64 0):=by
 have hle:=gi_ p hp
 rw[hm] at hle
 have hwh:=a7_ 1 (by decide)
 have hcm:=j1_ 1 ((1:Int):Rat) (by decide) (by decide)
 rw[show cmpQ 1 ((1:Int):Rat)=0 by decide+kernel] at hcm
 refine f_n Tryz.func94 ?_ ?_
 exact aa_ (ao_ (bw_ p w)) ab_
 refine r_z 2 ?_
 refine ac_ (ac_ (r_d hmix 21 ?_))
 refine c_s (hr) ?_
 refine c_s (hle) ?_
 refine c_s (hwh) ?_
 refine c_s (hcm) ?_
 refine bl_ rfl rfl rfl (.bin rfl rfl (vF bu_ (rfl))) rfl rfl ?_
 refine c_s (bI_ w hw) ?_
 refine c_s (bI_ p hp) ?_
 refine d_2 ?_
 refine ak_ (n_k ?_)
 refine cF (ai_ (r_z 1 ?_))
 exact ag_ (t_e (ad_ _))
theorem cA_(m:List Rat)(l r:Bool)(a b:Rat)(hm:1≤m.length∧m.length≤64)(hab:l=true→r=true→a< b)(ha:sm a)(hb:sm b):FSpec Tryz.prog 31 [.agg (wC m l r (qC a) (qC b))] (i64 0):=by
 have ho:=bE_ (m.length:Nat) 1 64
 rw[decide_eq_false (by omega)] at ho
 have hWc:=aR_ (m:=m) (l:=l) (r:=r) (.inr ⟨a,rfl⟩) (.inr ⟨b,rfl⟩)
 have hcm:=j1_ a b ha hb
 refine f_n Tryz.func31 ?_ ?_
 exact aa_ (ao_ hWc) ab_
 refine r_z 2 ?_
 cases l with
 |false=>
  refine ac_ (r_c 20 (ho) ?_)
  refine a_z ?_
  refine cF (ai_ (r_z 1 ?_))
  exact ag_ (t_e (ad_ _))
 |true=>
  cases r with
  |false=>
   refine ac_ (r_c 20 (ho) ?_)
   refine a_z ?_
   refine cF (ai_ (r_z 1 ?_))
   exact ag_ (t_e (ad_ _))
  |true=>
   have hlt:=hab rfl rfl
   rw[show cmpQ a b= -1 by unfold cmpQ;rw[if_pos hlt]] at hcm
   refine ac_ (r_c 20 (ho) ?_)
   refine c_s (hcm) ?_
   refine bl_ rfl rfl rfl (.bin rfl rfl (vF dz_ (rfl))) rfl rfl ?_
   refine a_z ?_
   refine cF (ai_ (r_z 1 ?_))
   exact ag_ (t_e (ad_ _))
theorem mD_ (p:List Rat) (n:Nat) (hl:p.length≤1000000) (hn:n≤40) (hmx:(if (0:Int)> degP p then(0:Int) else degP p) * n≤72∧0≤(if (0:Int)> degP p then(0:Int) else degP p) * n)
    (hM:∀j,j< n→FSpec Tryz.prog 52 [.arr (pE (powP p j)),.arr (pE p)] (.arr (pE (powP p (j+1))))):FSpec Tryz.prog 174 [.arr (pE p),i64 n] (.tup [.arr (pE (powP p n)),i64 0]):=by
 have hdg:(0:Int)≤degP p+1∧degP p≤1000000:=by
  have:=aI_ p
  unfold degP
  omega
 refine f_n Tryz.func174 ?_ ?_
 exact aa_ (as_ p) (aa_ (ad_ _) ab_)
 refine r_z 2 ?_
 refine ac_ (ah_ (q_z 7 ?_))
 refine cF (r_c 7 (bI_ p (by omega)) ?_)
 refine a_2 ?_
 refine o_0 (.bin rfl rfl (g4_ (by omega))) ?_
 refine d_z ?_
 refine cF (ai_ ?_)
 have h1:=ea_ 1 (by decide)
 have h2:=iW_ 1
 refine r_c 3 (h1) ?_
 refine c_s (h2) ?_
 refine a_z ?_
 refine ac_ (r_z 2 ?_)
 refine aD_ (fun _:Unit=>⟨[(6,.arr (pE (powP p n)))],[],1,31⟩) (fun _=>True) ?_ ?_
 refine ah_ (aw_ (fun j:Nat=>⟨[(24,i64 ((j:Nat):Int)),(23,i64 ((n:Nat):Int)),(6,.arr (pE (powP p j))),(0,.arr (pE p))],[],1,31⟩) (fun j=>n- j) (fun j=>j≤n) 0 (Nat.zero_le _) ?_ ?_)
 exact s_e []
 rintro j hj
 by_cases hlt:j< n
 have hm:=hM j hlt
 refine q_z 1 ?_
 refine ac_ (cT (ai_ (ac_ (ah_ (r_m 4 ?_)))))
 refine c_s (hm) ?_
 refine a_z ?_
 refine r_m 2 ?_
 refine a_z ?_
 refine⟨j+1,by omega,hlt,?_⟩
 exact s_e []
 have hge:j=n:=by omega
 subst hge
 refine q_z 1 ?_
 refine ac_ (cF (av_ ⟨(),trivial,?_⟩))
 exact s_e []
 rintro _ _
 refine r_z 3 ?_
 refine ag_ (Fin.many ⟨_,_,rfl,rfl,⟨_,_,rfl,rfl,rfl⟩⟩ (nle rfl) ?_)
 exact af_ (an_ au_ (as_ _)) (af_ (an_ au_ (ad_ _)) ap_)
theorem fs_Power(p:List Rat)(n:Nat)(hs:bdL p 256)(hl:p.length≤12)(hn:n≤6)(hb:∀k,k≤n→pB p.length k≤1073741824):FSpec Tryz.prog 174 [.arr (pE p),i64 n] (.tup [.arr (pE (powP p n)),i64 0]):=by
 have hdg:(0:Int)≤degP p+1∧degP p≤12:=by
  have:=aI_ p
  unfold degP
  omega
 refine mD_ p n (by omega) (by omega) ?_ fun j hlt=>?_
 have h1:(0:Int)≤(if (0:Int)> degP p then(0:Int) else degP p)∧(if (0:Int)> degP p then(0:Int) else degP p)≤12:=by split <;> omega
 generalize (if (0:Int)> degP p then(0:Int) else degP p)=m at h1⊢
 have h2:m* n≤12* 6:=Int.mul_le_mul h1.2 (by omega) (by omega) (by decide)
 exact⟨h2,Int.mul_nonneg h1.1 (by omega)⟩
 have hB:=hb (j+1) hlt
 have hll:=gx_ p j
 have hjl:j* p.length≤6* 12:=Nat.mul_le_mul (by omega) hl
 exact j3_ (powP p j) p (pB p.length j) 256 (q2_ hs j) hs (pB_pos p.length j) (by decide) (by
  have h3:=Nat.mul_le_mul_right (pB p.length j+256+1) hll
  have h4:(j* p.length+1) * (pB p.length j+256+1)+1≤1073741824:=hB
  omega) (by decide) (by omega) (by omega)
theorem rW_(u v:Rat)(n:Nat)(hu:qs u≤256)(hv:qs v≤256)(hn:n≤8):FSpec Tryz.prog 174 [.arr (pE [u,v]),i64 n] (.tup [.arr (pE (powP [u,v] n)),i64 0]):=by
 have hd:degP [u,v]≤1:=by
  have:=aI_ [u,v]
  have e:[u,v].length=2:=rfl
  unfold degP
  omega
 refine mD_ [u,v] n (by simp) (by omega) ?_ fun j hj=>?_
 have h1:(0:Int)≤(if (0:Int)> degP [u,v] then(0:Int) else degP [u,v])∧(if (0:Int)> degP [u,v] then(0:Int) else degP [u,v])≤1:=by split <;> omega
 generalize (if (0:Int)> degP [u,v] then(0:Int) else degP [u,v])=m at h1⊢
 have h2:m* n≤1* 8:=Int.mul_le_mul h1.2 (by omega) (by omega) (by decide)
 exact⟨by omega,Int.mul_nonneg h1.1 (by omega)⟩
 have hll:=gx_ [u,v] j
 have e:[u,v].length=2:=rfl
 have hb:=lB_le (n:=j) (by omega)
 rw[e] at hll
 exact j3_ (powP [u,v] j) [u,v] (lB j) 256 (gy_ hu hv j) (bd_uv hu hv) (fk_ j) (by decide) (by
  have h3:=Nat.mul_le_mul (show(powP [u,v] j).length≤20 by omega) (show lB j+256+1≤200000 by omega)
  omega) (by decide) (by omega) (by simp)
end Go.Proofs.YtdjfjpeoddmamaaGreatDoor
namespace Go.Proofs.YtdjfjpeoddmamaaGreatDoor
open Go.Abs Go.RowKit
set_option maxRecDepth 20000
theorem qr_:Tryz.prog.underlying 220=some (.pointer 223):=by kernel_rfl
theorem lL_:Tryz.prog.underlying 323=some .unsafePointer:=by kernel_rfl
theorem qq_:(Tryz.prog.info? 223).map (·.size)=some 2:=by kernel_rfl
set_option maxHeartbeats 1000000 in
theorem cs_used(b:Nat)(w:World)(h0:w.cell? ⟨b,0,none⟩=some (.pointer (some ⟨b,0,none⟩))):
    Calls Tryz.prog 241 #[.pointer (some ⟨b,0,none⟩)] w fun e w'=>e= .returned (.tuple #[])∧w'=w:=by
 obtain⟨j,hj,_⟩:=Option.map_eq_some_iff.1 qq_
 go_enter Tryz.func241,Tryz.ntmps241
 go_wp2
 rw[Lib.run_neq_ptr_same w _ qr_ hj]
 go_wp2
 go_end0
 exact⟨rfl,rfl⟩
theorem mi_{n:Nat}(hn:2≤n):liesAt Tryz.prog Tryz.prog.depth 223 (n/ Tryz.prog.cellsOf 223) 0 223 1=true:=by
 have hc:Tryz.prog.cellsOf 223=2:=by kernel_rfl
 rw[hc]
 have hd:Tryz.prog.depth=(2* (Tryz.prog.types.size+Made.depth)+1)+1:=rfl
 rw[hd]
 simp only[liesAt,Bool.or_eq_true]
 left
 rw[hd]
 have:1≤n/ 2:=by omega
 simp[rowAt,sameLayout,this,hc]
set_option maxHeartbeats 1000000 in
theorem cs_fresh(b:Nat)(w:World)(cs:Array Value)(hh:w.heap[b]?=some (.cells cs 223 (0,0)))(hsz:2≤cs.size)(hc:cs[0]?=some (.pointer none)):
    Calls Tryz.prog 241 #[.pointer (some ⟨b,0,none⟩)] w fun e w'=>e= .returned (.tuple #[])∧w'=w.setCell ⟨b,0,none⟩ (.pointer (some ⟨b,0,none⟩)):=by
 obtain⟨j,hj,hjs⟩:=Option.map_eq_some_iff.1 qq_
 have h0:w.cell? ⟨b,0,none⟩=some (.pointer none):=by simp[World.cell?,hh,hc]
 have hsh:w.shape? b=some (223,cs.size):=by simp[World.shape?,hh]
 have hfz:w.frozen? ⟨b,0,none⟩=false:=by simp[World.frozen?,hh]
 go_enter Tryz.func241,Tryz.ntmps241
 go_wp2
 rw[Lib.run_to_unsafe w ⟨b,0,none⟩ qr_ lL_ hj (by rw[hjs];decide) hsh (by show 0< cs.size;omega)]
 simp only[Result.andThen]
 rw[Oper.upon_value]
 go_wp2
 rw[run_callFunc_extern Tryz.func288 (by kernel_rfl) (by kernel_rfl) (by kernel_rfl) (e:=Extern.AbiNoEscape.same) (by kernel_rfl)]
 rw[Lib.run_noEscape]
 simp only[Result.andThen]
 rw[Oper.upon_value]
 go_wp2
 rw[Lib.run_from_unsafe w ⟨b,0,none⟩ lL_ qr_ hj hsh (mi_ hsz)]
 simp only[Result.andThen]
 rw[Oper.upon_value]
 go_wp2
 go_end0
 exact⟨rfl,rfl⟩
theorem mW_{P:Go.Program}{f:Nat}{fn:Func}{c:Code}(hf:P.funcs[f]?=some fn)(hb:fn.body=some c)(hname:(fn.name== "runtime.NumGoroutine")=false)(xs:Array Value)(w:World):(callFunc f xs).run P w= .ok (.enter f xs) w:=by
 have hname':¬fn.name= "runtime.NumGoroutine" :=by simpa using hname
 simp[callFunc,hf,hname',hb]
theorem hK_:CSpec Tryz.prog 241 223:=
 ⟨fun xs w=>mW_ Tryz.func241 rfl (by kernel_rfl) xs w,fun b w h0=>cs_used b w h0,fun b w cs hh hsz h0=>cs_fresh b w cs hh hsz h0⟩
theorem oA_(a b:Value):Pure (.tup [.v a,.v b]):=by
 rintro M M' β β' w w' y ⟨xs,rfl,x1,x2,e,h1,⟨x3,x4,e2,h2,h3⟩⟩
 exact⟨xs,rfl,x1,x2,e,h1,x3,x4,e2,h2,h3⟩
theorem e9_:Tryz.prog.underlying 9=some .string:=by kernel_rfl
theorem bE_len(q:List UInt8):lenA (.arr (bE q))=some q.length:=by simp[lenA,bZ_]
theorem kj_(t:List UInt8):(⟨t.toArray⟩:ByteArray).size=t.length:=by simp[ByteArray.size]
theorem fz_(t:List UInt8)(h0:t≠[])(hl:t.length≤1099511627776):BSpec Tryz.prog 171 223 5 none t [tx t] (.tup [i64 t.length,.v .nilIface]):=by
 refine BSpec.intro Tryz.func171 rfl (by kernel_rfl) (aa_ (ad_ _) ab_) (oA_ _ _) (nle rfl) ?_
 show AWp _ _ _ _ ⟨[(0,.lptr 0 0 0),(1,tx t)],[(0,some ⟨223,2,[bldC 0 1 none]⟩)],2,19⟩
 refine r_z 2 ?_
 refine s_r 2 ?_
 refine a_1 ?_
 refine o_1 (.callC rfl rfl rfl rfl rfl (by first|exact .inl rfl|exact .inr rfl) (hK_)) ?_
 refine ak_ ?_
 refine s_r 10 ?_
 refine a_6 ?_
 refine o_1 (.appS_e rfl rfl rfl te_221.h e9_ rfl rfl h0 tz_5.h rfl tb_5.h (by omega)) ?_
 refine a_z ?_
 refine s_r 4 ?_
 refine o_0 (.move rfl) ?_
 refine o_0 (.builtinV (vs:=[_]) rfl rfl (fun _ _ _=>rfl)) ?_
 refine o_0 (.assign rfl) ?_
 refine o_0 (.assign rfl) ?_
 refine ak_ ?_
 refine ag_ ⟨.inr rfl,?_,12,by decide,rfl,rfl⟩
 refine⟨[_,_],⟨_,_,rfl,rfl,⟨_,_,rfl,rfl,rfl⟩⟩,Cv.tup ?_⟩
 refine af_ (Cv.loE au_ ?_ (ad_ _)) (af_ (an_ au_ (ad_ _)) ap_)
 rw[kj_];rfl
theorem eM_(q t:List UInt8)(hl:q.length+t.length≤1099511627776):BSpec Tryz.prog 171 223 5 (some q) (q++t) [tx t] (.tup [i64 t.length,.v .nilIface]):=by
 refine BSpec.intro Tryz.func171 rfl (by kernel_rfl) (aa_ (ad_ _) ab_) (oA_ _ _) (nle rfl) ?_
 show AWp _ _ _ _ ⟨[(0,.lptr 0 0 0),(1,tx t)],[(0,some ⟨223,2,[bldC 0 1 (some q)]⟩),(1,some ⟨5,1,bE q⟩)],2,19⟩
 refine r_z 2 ?_
 refine s_r 2 ?_
 refine a_1 ?_
 refine o_1 (.callC rfl rfl rfl rfl rfl (by first|exact .inl rfl|exact .inr rfl) (hK_)) ?_
 refine ak_ ?_
 refine s_r 10 ?_
 refine a_6 ?_
 refine o_2 (.appS_l rfl rfl rfl te_221.h e9_ rfl rfl rfl rfl tz_5.h rfl tb_5.h (by omega)) ?_
 refine a_z ?_
 refine s_r 4 ?_
 refine o_0 (.move rfl) ?_
 refine o_0 (.builtinV (vs:=[_]) rfl rfl (fun _ _ _=>rfl)) ?_
 refine o_0 (.assign rfl) ?_
 refine o_0 (.assign rfl) ?_
 refine ak_ ?_
 refine ag_ ⟨.inr rfl,?_,12,by decide,rfl,rfl⟩
 refine⟨[_,_],⟨_,_,rfl,rfl,⟨_,_,rfl,rfl,rfl⟩⟩,Cv.tup ?_⟩
 refine af_ (Cv.loE au_ ?_ (ad_ _)) (af_ (an_ au_ (ad_ _)) ap_)
 rw[kj_];rfl
theorem lk_:FSpec Tryz.prog 170 [.aptr [bldV none] 0 0] (i64 0):=by
 have hc:Closed (.aptr [bldV none] 0 0):=am_ (aa_ (ad_ _) (aa_ bQ_ ab_))
 refine f_n Tryz.func170 ?_ ?_
 exact aa_ hc ab_
 refine r_z 1 ?_
 refine r_z 6 ?_
 exact ag_ (t_e (ad_ _))
theorem lj_(q:List UInt8):FSpec Tryz.prog 170 [.aptr [bldV (some q)] 0 0] (i64 q.length):=by
 have hc:Closed (.aptr [bldV (some q)] 0 0):=am_ (aa_ (lo_any 0).closed (aa_ (aU_ (nb_ q)) ab_))
 refine f_n Tryz.func170 ?_ ?_
 exact aa_ hc ab_
 refine r_z 1 ?_
 refine s_r 6 ?_
 refine a_4 ?_
 refine o_0 (.len rfl rfl rfl rfl (bE_len q) te_221.h) ?_
 refine a_z ?_
 exact ag_ (t_e (ad_ _))
theorem ub_byte:Tryz.prog.underlying 288=some (.pointer 5):=by kernel_rfl
theorem ub_cells:Tryz.prog.cellsOf 5=1:=by kernel_rfl
theorem qi_(w:World)(g n:Nat):But g w (w.drew.freeze ⟨g,0,none⟩ n):=by
 have hh:∀x,x≠g→(w.drew.freeze ⟨g,0,none⟩ n).heap[x]?=w.heap[x]?:=by
  intro x hx
  unfold World.freeze
  split
  rfl
  show(w.heap.modify g _)[x]?=_
  rw[Array.getElem?_modify,if_neg (Ne.symm hx)]
 have hsz:(w.drew.freeze ⟨g,0,none⟩ n).heap.size=w.heap.size:=by
  unfold World.freeze
  split
  rfl
  show(w.heap.modify g _).size=_
  simp
 refine⟨?_,?_,?_,by omega,fun x _ hx=>hh x hx,fun x N hx=>?_⟩
 unfold World.freeze;split <;> rfl
 unfold World.freeze;split <;> rfl
 unfold World.freeze;split <;> rfl
 by_cases hxg:x=g
 subst hxg
 unfold World.freeze
 split
 exact hx
 unfold aP_ at hx⊢
 show(match (w.heap.modify x _)[x]? with|some (.cells cs _ _)=>some cs.size|some (.map _ _)=>some 0|_=>none)=some N
 rw[Array.getElem?_modify,if_pos rfl]
 cases ho:w.heap[x]? with
 |none=>rw[ho] at hx;cases hx
 |some o=>
  rw[ho] at hx
  cases o <;> simp_all
 unfold aP_ at hx⊢
 rw[hh x hxg];exact hx
set_option maxHeartbeats 2000000 in
theorem ds_run (b bj cap:Nat) (q:List UInt8) (w:World) (cs ck:Array Value) (h0:q≠[]) (hb:w.heap[b]?=some (.cells cs 223 (0,0))) (hc1:cs[1]?=some (.slice (some ⟨bj,0,none⟩) q.length cap)) (hl:q.length≤cap) (hm:cap≤maxLen) (hne:b≠bj) (hj:w.heap[bj]?=some (.cells ck 5 (0,0))) (hck:cap≤ck.size)
    (hq:∀(k:Nat) (x:UInt8),q[k]?=some x→ck[k]?=some (Value.int .u8 x.toNat)):Calls Tryz.prog 173 #[.pointer (some ⟨b,0,none⟩)] w fun e w'=>e= .returned (.string ⟨q.toArray⟩)∧But bj w w':=by
 have hl0:q.length≠0:=by simpa using h0
 have c1:w.drew.cell? ⟨b,1,none⟩=some (.slice (some ⟨bj,0,none⟩) q.length cap):=by
  have:w.drew.heap[b]?=some (.cells cs 223 (0,0)):=hb
  simp[World.cell?,this,hc1]
 have hSD:(Builtin.unsafeSliceData_ #[221] 288 #[.slice (some ⟨bj,0,none⟩) q.length cap]).run Tryz.prog w.drew= .ok (.pointer (some ⟨bj,0,none⟩)) w.drew:=
  Lib.run_unsafeSliceData_row _ _ _ _ _ _ (by omega)
 have hUS:(Builtin.unsafeString_ #[288,3] 9 #[.pointer (some ⟨bj,0,none⟩),.int .i64 q.length]).run Tryz.prog w.drew= .ok (.string ⟨q.toArray⟩) (w.drew.freeze ⟨bj,0,none⟩ q.length):=by
  refine Lib.run_unsafeString_row w.drew 288 3 9 5 ub_byte ub_cells bj ck.size (by have hg':w.drew.heap[bj]?=some (.cells ck 5 (0,0)):=hj;simp[World.shape?,hg']) q h0 (by omega) (by unfold maxLen at hm;omega) ?_
  intro j x hx
  have hg':w.drew.heap[bj]?=some (.cells ck 5 (0,0)):=hj
  rw[show(⟨bj,0,none⟩:Addr).add j=⟨bj,0+j,none⟩ from fB_ bj 0 j]
  simp[World.cell?,hg',hq j x hx]
 have mixed:=hmix
 go_enter Tryz.func173,Tryz.ntmps173
 go_wp2
 go_region_o
 all_goals (go_wp2;go_ret;exact⟨rfl,qi_ w bj q.length⟩)
theorem mX_:DSpec Tryz.prog 173 223 5:=
 ⟨fun xs w=>mW_ Tryz.func173 rfl (by kernel_rfl) xs w,fun b bj cap q w cs ck h0 hb hc1 hl hm hne hj hck hq=>ds_run b bj cap q w cs ck h0 hb hc1 hl hm hne hj hck hq⟩
end Go.Proofs.YtdjfjpeoddmamaaGreatDoor
namespace Go.Proofs.YtdjfjpeoddmamaaGreatDoor
open Go.Abs
set_option maxRecDepth 100000
set_option maxHeartbeats 2000000
def dec2(n:Nat):List UInt8:=if n< 10 then [48+n.toUInt8] else [48+(n/ 10).toUInt8,48+(n % 10).toUInt8]
theorem pu_(s:ByteArray)(l h:Nat)(zl zh:Int)(el:zl=(l:Int))(eh:zh=(h:Int))(hlh:l≤h)(hh:h≤s.size):∀w,(Instr.sliceAt 9 (.string s) (some (.int .i64 zl)) (some (.int .i64 zh)) none).run Tryz.prog w= .ok (.string (s.extract l h)) w:=fun w=>by
 subst el eh
 have b1:∀(i y:Nat) (c:BoundsCode),i≤y→(Instr.sliceBound (.int .i64 (i:Int)) y c).run Tryz.prog w= .ok i w:=fun i y c hi=>cH_ hi c w
 have hr:(Instr.slice 9 (.string s) (some (.int .i64 (l:Int))) (some (.int .i64 (h:Int))) none).run Tryz.prog w= .ok (.string (s.extract l h)) w:=by
  simp[Instr.slice,run_underlying e9_,Instr.sliceBounds,b1 h s.size _ hh,b1 l h _ hlh,Result.andThen]
 unfold Instr.sliceAt
 rw[Sem.run_bind,run_underlying e9_]
 exact hr
def smallsB:ByteArray:=⟨((List.range 100).flatMap fun n=>[48+(n/ 10).toUInt8,48+(n % 10).toUInt8]).toArray⟩
theorem rG_(i:Nat)(h:i< 100):FSpec Tryz.prog 315 [i64 i] (tx (dec2 i)):=by
 refine f_n Tryz.func315 ?_ ?_
 exact aa_ (ad_ _) ab_
 refine r_z 1 ?_
 refine ac_ (r_z 2 ?_)
 refine aj_ rfl (fun h1=>?_) (fun h1=>?_)
 have h2:i< 10:=by simp at h1;omega
 refine s_r 5 ?_
 refine a_3 ?_
 refine o_0 (.slice_v rfl rfl rfl rfl (pu_ _ i (i+1) _ _ rfl (by omega) (by omega) (by exact Nat.le_trans (m:=10) (by omega) (by decide)))) ?_
 refine a_z ?_
 refine ag_ (aS_ rfl ?_ ?_)
 have key:∀i,i< 10→(ByteArray.mk #[48,49,50,51,52,53,54,55,56,57,97,98,99,100,101,102,103,104,105,106,107,108,109,110,111,112,113,114,115,116,117,118,119,120,121,122]).extract i (i+1)=⟨(dec2 i).toArray⟩:=by decide
 exact congrArg (fun s=>AV.v (.string s)) (key i h2)
 exact ad_ _
 have h2:10≤i:=by simp at h1;omega
 refine ai_ (s_r 7 ?_)
 refine a_5 ?_
 refine o_0 (.slice_v rfl rfl rfl rfl (pu_ _ (i* 2) (i* 2+2) _ _ (by omega) (by omega) (by omega) (by exact Nat.le_trans (m:=200) (by omega) (by decide)))) ?_
 refine a_z ?_
 refine ag_ (aS_ rfl ?_ ?_)
 have key:∀i,i< 100→10≤i→smallsB.extract (i* 2) (i* 2+2)=⟨(dec2 i).toArray⟩:=by decide
 refine congrArg (fun s=>AV.v (.string s)) (Eq.trans (congrArg (fun s:ByteArray=>s.extract _ _) (?_:_=smallsB)) (key i h h2))
 kernel_rfl
 exact ad_ _
theorem mH_(i:Nat)(h:i< 100):FSpec Tryz.prog 289 [i64 i,i64 10] (tx (dec2 i)):=by
 refine f_n Tryz.func289 ?_ ?_
 exact aa_ (ad_ _) (aa_ (ad_ _) ab_)
 refine r_z 1 ?_
 refine ac_ (r_z 2 ?_)
 refine aj_ rfl (fun h1=>?_) (fun h1=>?_)
 refine ac_ (s_r 6 ?_)
 refine a_3 ?_
 refine y_g rfl (by simp) (.move rfl) ?_
 refine y_g rfl (by simp) (.bin rfl rfl dx_) ?_
 refine o_0 (.pickT rfl (by simp) rfl) ?_
 refine ak_ ?_
 refine aj_ rfl (fun h2=>?_) (fun h2=>?_)
 refine r_c 3 (rG_ i h) ?_
 refine a_z ?_
 exact ag_ (t_e (ad_ _))
 exact absurd h2 (by simp;omega)
 exact absurd h1 (by simp)
theorem fs_iItoa(i:Nat)(h:i< 100):FSpec Tryz.prog 242 [i64 i] (tx (dec2 i)):=by
 refine f_n Tryz.func242 ?_ ?_
 exact aa_ (ad_ _) ab_
 refine r_z 1 ?_
 refine r_c 3 (mH_ i h) ?_
 refine a_z ?_
 exact ag_ (t_e (ad_ _))
theorem r1_(i:Nat)(h:i< 100):FSpec Tryz.prog 172 [i64 i] (tx (dec2 i)):=by
 refine f_n Tryz.func172 ?_ ?_
 exact aa_ (ad_ _) ab_
 refine r_z 1 ?_
 refine r_c 3 (fs_iItoa i h) ?_
 refine a_z ?_
 exact ag_ (t_e (ad_ _))
def te0(m:Nat):Unit→AState
 |u=>⟨[(1,.lptr 1 0 0),(3,.lptr 2 0 0),(11,.clos 284 [] [.aptr [[.arr (dE [m])]] 0 0])],[(1,some ⟨31,1,[[.arr (dE [m])]]⟩),(2,some ⟨223,2,[bldC 2 0 none]⟩)],4,31⟩
theorem te0_mk(m:Nat)(u:Unit):te0 m u=⟨[(1,.lptr 1 0 0),(3,.lptr 2 0 0),(11,.clos 284 [] [.aptr [[.arr (dE [m])]] 0 0])],[(1,some ⟨31,1,[[.arr (dE [m])]]⟩),(2,some ⟨223,2,[bldC 2 0 none]⟩)],4,31⟩:=rfl
def te1(m:Nat):Unit→AState
 |u=>⟨[(1,.lptr 1 0 0),(3,.lptr 2 0 0),(11,.clos 284 [] [.aptr [[.arr (dE [m])]] 0 0])],[(1,some ⟨31,1,[[.arr (dE [m])]]⟩),(2,some ⟨223,2,[bldC 2 3 (some (dec2 m))]⟩),(3,some ⟨5,1,bE (dec2 m)⟩)],4,31⟩
theorem te1_mk(m:Nat)(u:Unit):te1 m u=⟨[(1,.lptr 1 0 0),(3,.lptr 2 0 0),(11,.clos 284 [] [.aptr [[.arr (dE [m])]] 0 0])],[(1,some ⟨31,1,[[.arr (dE [m])]]⟩),(2,some ⟨223,2,[bldC 2 3 (some (dec2 m))]⟩),(3,some ⟨5,1,bE (dec2 m)⟩)],4,31⟩:=rfl
def teS(m:Nat):Nat→AState
 |0=>te0 m ()
 |_+1=>te1 m ()
theorem sn_{m:Nat}(h0:m≠0)(h:m< 100):digs MB m=[m]:=by
 have hb:MB=1000000000:=rfl
 rw[cY_ (by decide) (by omega),Nat.mod_eq_of_lt (by omega),Nat.div_eq_of_lt (by omega),by_]
theorem n8_(m:Nat):dec2 m≠[]:=by unfold dec2;split <;> simp
theorem fS_(m:Nat):(dec2 m).length≤2:=by unfold dec2;split <;> simp
theorem o6_(m:Nat)(h:m< 100):FSpec Tryz.prog 168 [.agg [mag m]] (tx (dec2 m)):=by
 have hz:=gM_ m
 refine f_n Tryz.func168 ?_ ?_
 exact aa_ (ao_ (aa_ (aT_ m) ab_)) ab_
 refine r_z 2 ?_
 refine ac_ (r_c 2 (hz) ?_)
 refine ak_ ?_
 refine aj_ rfl (fun h1=>?_) (fun h1=>?_)
 have h2:m=0:=by simpa using h1
 subst h2
 refine r_z 1 ?_
 exact ag_ (t_e (ad_ _))
 have h2:m≠0:=by simpa using h1
 have hm:mag m= .arr (dE [m]):=by unfold mag;rw[sn_ h2 h]
 rw[hm]
 refine ai_ ?_
 have hln:([m]:List Nat).length=1:=rfl
 have hcl:Closed (.aptr [[.arr (dE [m])]] 0 0):=dt_ (fun e he c hc=>by simp at he;subst he;simp at hc;subst hc;exact bJ_ _)
 have hcl2:Closed (.clos 284 [] [.aptr [[.arr (dE [m])]] 0 0]):=aW_ ab_ (aa_ hcl ab_)
 refine r_z 1 ?_
 refine ac_ (r_c 3 (gR_ [m]) ?_)
 refine ak_ ?_
 refine aD_ (fun _:Unit=>te1 m ()) (fun _=>True) ?_ ?_
 refine ah_ (AWp.rangeFunc (α:=Nat) (γ:=Empty) 1 (teS m) (fun k=>k) (fun k=>k≤1) (fun e=>nomatch e) (fun _ e=>nomatch e) 0 rfl (gJ_ [m] (by simp)) rfl rfl ?_ (fun k=>by cases k <;> exact⟨rfl,rfl⟩) (fun e=>nomatch e) (Nat.zero_le _) rfl (fun _ h=>h) ?_ ?_ ?_ ?_ (fun _ e=>nomatch e))
 intro k xs hT
 unfold backT at hT
 split at hT
 cases hT;rfl
 cases hT
 show SEntT _ (te0 m ())
 rw[te0_mk]
 exact s_t [(1,1),(2,3)]
 exact aa_ hcl ab_
 ·intro l k xs hk hT
  unfold backT at hT
  split at hT
  rotate_left
  cases hT
  rename_i hlt
  have hk0:k=0:=by simpa using hlt
  subst hk0
  cases hT
  show AWp _ _ _ _ ⟨setPs (te0 m ()).fr _ _++cQ_ (te0 m ()).fr,_,_,_⟩
  show AWp _ _ _ _ ⟨[(13,u32 m),(12,i64 0),(1,.lptr 1 0 0),(3,.lptr 2 0 0),(11,.clos 284 [] [.aptr [[.arr (dE [m])]] 0 0]),(1001,.lptr 1 0 0),(1003,.lptr 2 0 0),(1011,.clos 284 [] [.aptr [[.arr (dE [m])]] 0 0])],[(1,some ⟨31,1,[[.arr (dE [m])]]⟩),(2,some ⟨223,2,[bldC 2 0 none]⟩)],4,31⟩
  refine r_z 1 ?_
  refine r_m 1 ?_
  refine a_z ?_
  refine ah_ (r_c 4 (r1_ m h) ?_)
  refine a_z ?_
  refine ac_ (r_z 6 ?_)
  refine aj_ rfl (fun h3=>?_) (fun h3=>?_)
  exact absurd h3 (by simp)
  refine ai_ (r_m 2 ?_)
  refine a_1 ?_
  refine o_2 (.callB (s:=none) (j:=0) rfl rfl rfl rfl rfl rfl (fun _ h=>by cases h) (fz_ (dec2 m) (n8_ m) (by have:=fS_ m;omega))) ?_
  refine ak_ ?_
  refine⟨0+1,⟨by omega,rfl⟩,?_⟩
  show SEntT _ ⟨[(1001,.lptr 1 0 0),(1003,.lptr 2 0 0),(1011,.clos 284 [] [.aptr [[.arr (dE [m])]] 0 0])],[(1,some ⟨31,1,[[.arr (dE [m])]]⟩),(2,some ⟨223,2,[bldC 2 3 (some (dec2 m))]⟩),(3,some ⟨5,1,bE (dec2 m)⟩)],4,31⟩
  refine SEntT.to2 [(3,100017)] rfl rfl rfl au_r (fun hs=>?_) (fun hs=>?_)
  ·repeat' (first|exact aK_|refine aE_ rfl ?_ ?_)
   all_goals (first|(exact an_ hs hcl2)|exact au_c)
  ·repeat' (first|exact aq_|refine al_ rfl rfl rfl rfl ?_ ?_)
   all_goals (first|exact au_e|(refine ae_ ?_;repeat' (first|exact ap_|refine af_ ?_ ?_)))
   all_goals (first|(exact an_ hs hcl2)|exact au_c)
 ·intro k hk hT
  unfold backT at hT
  split at hT
  cases hT
  have hk1:k=1:=by
   rename_i hn;simp at hn;omega
  subst hk1
  exact⟨(),trivial,SEnt.refl _⟩
 rintro _ _
 rw[te1_mk]
 have hne:=n8_ m
 refine s_r 2 ?_
 refine o_2 (.callD rfl rfl rfl rfl rfl rfl (by decide) (by first|assumption|simp) (mX_)) ?_
 refine a_z ?_
 exact ag_ (t_e (ad_ _))
section
variable {P:Go.Program}{T:Nat}{x y:Operand}
theorem fW_{l m:List UInt8}(h:l.length+m.length≤9223372036854775807):∀w,(do eqGuard .add T x y (.string ⟨l.toArray⟩) (.string ⟨m.toArray⟩);binOp .add T (.string ⟨l.toArray⟩) (.string ⟨m.toArray⟩):Sem Value).run P w= .ok (.string ⟨(l++m).toArray⟩) w:=fun w=>by
 have hm:IntKind.i64.max=9223372036854775807:=by decide
 have e:(⟨l.toArray⟩:ByteArray)++⟨m.toArray⟩=⟨(l++m).toArray⟩:=by
  apply ByteArray.ext;simp
 have hn:¬((((⟨l.toArray⟩:ByteArray).size+(⟨m.toArray⟩:ByteArray).size:Nat):Int)> IntKind.i64.max):=by
  rw[kj_,kj_,hm];omega
 simp only[eqGuard,binOp,Op.stringOp,hn,if_false,e,Sem.run_bind,Sem.run_pure,Result.andThen_ok]
 rfl
theorem fV_{l m:List UInt8}:∀w,(do eqGuard .eql T x y (.string ⟨l.toArray⟩) (.string ⟨m.toArray⟩);binOp .eql T (.string ⟨l.toArray⟩) (.string ⟨m.toArray⟩):Sem Value).run P w= .ok (.bool (decide (l=m))) w:=fun w=>by
 rw[pI_]
 congr 2
 have e:∀l:List UInt8,(⟨l.toArray⟩:ByteArray).toList=l:=by
  intro l
  have:=ByteArray.toList_eq (bs:=⟨l.toArray⟩)
  simpa using this
 rw[e,e]
 rw[Bool.eq_iff_iff];simp
end
def textQ(q:Rat):List UInt8:=((if q.num< 0 then [45] else [])++dec2 q.num.natAbs)++(if q.den=1 then [] else 47::dec2 q.den)
def okT(q:Rat):Prop:=q.num.natAbs< 100∧q.den< 100
instance (q:Rat):Decidable (okT q):=inferInstanceAs (Decidable (_∧_))
theorem okT_qs{q:Rat}(h:okT q):qs q≤1099511627776:=by
 obtain⟨h1,h2⟩:=h
 have e1:=bl_le (n:=q.num.natAbs) (k:=7) (by omega)
 have e2:=bl_le (n:=q.den) (k:=7) (by omega)
 unfold qs;omega
theorem textQ_len{q:Rat}:(textQ q).length≤6∧1≤(textQ q).length:=by
 have h1:=fS_ q.num.natAbs
 have h2:=fS_ q.den
 have h3:=List.length_pos_iff.2 (n8_ q.num.natAbs)
 unfold textQ
 split <;> split <;> simp <;> omega
def qtS(q:Rat):List UInt8→AState
 |l=>⟨[(1,.aptr [qC q] 0 0),(3,tx l)],[],2,24⟩
theorem jG_(q:Rat)(l:List UInt8):qtS q l=⟨[(1,.aptr [qC q] 0 0),(3,tx l)],[],2,24⟩:=rfl
theorem pb_(q:Rat)(h:okT q):FSpec Tryz.prog 74 [.agg (qC q)] (tx (textQ q)):=by
 have hd1:=fS_ q.num.natAbs
 have hd2:=fS_ q.den
 have hden:1≤q.den:=q.den_pos
 refine f_n Tryz.func74 ?_ ?_
 exact aa_ (ay_ q) ab_
 refine r_z 2 ?_
 refine AWp.ent (st':=⟨[(1,.aptr [qC q] 0 0)],[],2,24⟩) ?_ ?_
 exact s_e []
 refine r_c 5 (o6_ q.num.natAbs h.1) ?_
 refine a_z ?_
 refine a2_ (qtS q) (fun l=>l=(if q.num< 0 then [45] else [])++dec2 q.num.natAbs) ?_ ?_
 refine r_z 3 ?_
 refine aj_ rfl (fun h1=>?_) (fun h1=>?_)
 have h2:q.num< 0:=by simpa using h1
 refine r_m 3 ?_
 refine a_1 ?_
 refine o_0 (.bin rfl rfl (fW_ (l:=[45]) (by simp;omega))) ?_
 refine a_z ?_
 refine⟨_,by rw[if_pos h2],?_⟩
 rw[jG_]
 refine at_ [] rfl rfl rfl au_r (fun hs=>?_) (fun hs=>?_)
 ·repeat' (first|exact aK_|refine aE_ rfl ?_ ?_)
  all_goals (first|(exact an_ hs (am_ (a1_ q)))|exact au_c)
 ·repeat' (first|exact aq_|refine al_ rfl rfl rfl rfl ?_ ?_)
  all_goals (first|exact au_e|(refine ae_ ?_;repeat' (first|exact ap_|refine af_ ?_ ?_)))
  all_goals (first|(exact an_ hs (am_ (a1_ q)))|exact au_c)
 have h2:¬q.num< 0:=by simpa using h1
 refine ai_ ⟨dec2 q.num.natAbs,by rw[if_neg h2];rfl,?_⟩
 rw[jG_]
 refine at_ [] rfl rfl rfl au_r (fun hs=>?_) (fun hs=>?_)
 ·repeat' (first|exact aK_|refine aE_ rfl ?_ ?_)
  all_goals (first|(exact an_ hs (am_ (a1_ q)))|exact au_c)
 ·repeat' (first|exact aq_|refine al_ rfl rfl rfl rfl ?_ ?_)
  all_goals (first|exact au_e|(refine ae_ ?_;repeat' (first|exact ap_|refine af_ ?_ ?_)))
  all_goals (first|(exact an_ hs (am_ (a1_ q)))|exact au_c)
 rintro l hl
 have hll:l.length≤3:=by rw[hl];split <;> simp <;> omega
 rw[jG_]
 refine a2_ (qtS q) (fun l=>l=textQ q) ?_ ?_
 refine r_c 4 (gM_ (q.den- 1)) ?_
 refine a_z ?_
 refine aj_ rfl (fun h1=>?_) (fun h1=>?_)
 have h2:¬q.den=1:=by
  intro e;rw[e] at h1;simp at h1
 refine r_m 7 ?_
 refine c_s (cJ_ q (okT_qs h)) ?_
 refine c_s (o6_ q.den h.2) ?_
 refine o_0 (.bin rfl rfl (fW_ (l:=[47]) (by simp;omega))) ?_
 refine o_0 (.bin rfl rfl (fW_ (by simp;omega))) ?_
 refine a_z ?_
 refine⟨_,by unfold textQ;rw[if_neg h2,←hl],?_⟩
 rw[jG_]
 refine at_ [] rfl rfl rfl au_r (fun hs=>?_) (fun hs=>?_)
 ·repeat' (first|exact aK_|refine aE_ rfl ?_ ?_)
  all_goals (first|(exact an_ hs (am_ (a1_ q)))|exact au_c)
 ·repeat' (first|exact aq_|refine al_ rfl rfl rfl rfl ?_ ?_)
  all_goals (first|exact au_e|(refine ae_ ?_;repeat' (first|exact ap_|refine af_ ?_ ?_)))
  all_goals (first|(exact an_ hs (am_ (a1_ q)))|exact au_c)
 have h2:q.den=1:=by
  have h3:q.den- 1=0:=by simpa using h1
  omega
 refine ai_ ⟨l,by unfold textQ;rw[if_pos h2,←hl,List.append_nil],?_⟩
 rw[jG_]
 refine at_ [] rfl rfl rfl au_r (fun hs=>?_) (fun hs=>?_)
 ·repeat' (first|exact aK_|refine aE_ rfl ?_ ?_)
  all_goals (first|(exact an_ hs (am_ (a1_ q)))|exact au_c)
 ·repeat' (first|exact aq_|refine al_ rfl rfl rfl rfl ?_ ?_)
  all_goals (first|exact au_e|(refine ae_ ?_;repeat' (first|exact ap_|refine af_ ?_ ?_)))
  all_goals (first|(exact an_ hs (am_ (a1_ q)))|exact au_c)
 rintro l rfl
 rw[jG_]
 refine r_z 2 ?_
 exact ag_ (t_e (ad_ _))
section
variable {P:Go.Program}{T:Nat}{x y:Operand}
theorem pH_{l m:List UInt8}:∀w,(do eqGuard .neq T x y (.string ⟨l.toArray⟩) (.string ⟨m.toArray⟩);binOp .neq T (.string ⟨l.toArray⟩) (.string ⟨m.toArray⟩):Sem Value).run P w= .ok (.bool (!decide (l=m))) w:=fun w=>by
 rw[pG_]
 congr 2
 have e:∀l:List UInt8,(⟨l.toArray⟩:ByteArray).toList=l:=by
  intro l
  have:=ByteArray.toList_eq (bs:=⟨l.toArray⟩)
  simpa using this
 rw[e,e]
 rw[Bool.eq_iff_iff];simp
end
def sgnTx(o:Option (List UInt8))(c:Rat):Option (List UInt8):=
 match o with
 |none=>if c< 0 then some [45] else none
 |some s=>if c< 0 then some (s++[32,45,32]) else some (s++[32,43,32])
def wrO(o:Option (List UInt8))(t:List UInt8):Option (List UInt8):=some (o.getD []++t)
def fY_(o:Option (List UInt8))(t:List UInt8):Option (List UInt8):=if t=[49] then o else wrO o (t++[32])
def ie_(tq:Rat→List UInt8)(ti:Nat→List UInt8)(o:Option (List UInt8))(c:Rat)(n:Nat):Option (List UInt8):=
 if n=0 then wrO (sgnTx o c) (tq (absQ c))
 else if 1< n then wrO (wrO (fY_ (sgnTx o c) (tq (absQ c))) [120]) ([94]++ti n) else wrO (fY_ (sgnTx o c) (tq (absQ c))) [120]
def textR(tq:Rat→List UInt8)(ti:Nat→List UInt8)(p:List Rat):Nat→Option (List UInt8)→Option (List UInt8)
 |0,o=>o
 |n+1,o=>textR tq ti p n (if coP p n=0 then o else ie_ tq ti o (coP p n) n)
def textG(tq:Rat→List UInt8)(ti:Nat→List UInt8)(p:List Rat):List UInt8:=(textR tq ti (trimQ p) (trimQ p).length none).getD [48]
def textP(p:List Rat):List UInt8:=textG textQ dec2 p
def okPT(p:List Rat):Prop:=p.length≤1000∧(trimQ p).length≤99∧(∀c∈trimQ p,okT c)
instance (p:List Rat):Decidable (okPT p):=inferInstanceAs (Decidable (_∧_∧_))
def pb0(p:List Rat):Int→AState
 |n=>⟨[(0,.arr (pE p)),(3,.lptr 1 0 0),(4,i64 n)],[(1,some ⟨223,2,[bldC 1 2 none]⟩)],4,67⟩
theorem e4_(p:List Rat)(n:Int):pb0 p n=⟨[(0,.arr (pE p)),(3,.lptr 1 0 0),(4,i64 n)],[(1,some ⟨223,2,[bldC 1 2 none]⟩)],4,67⟩:=rfl
def pb1(p:List Rat):Int×List UInt8→AState
 |(n,s)=>⟨[(0,.arr (pE p)),(3,.lptr 1 0 0),(4,i64 n)],[(1,some ⟨223,2,[bldC 1 2 (some s)]⟩),(2,some ⟨5,1,bE s⟩)],4,67⟩
theorem c1_(p:List Rat)(n:Int)(s:List UInt8):pb1 p (n,s)=⟨[(0,.arr (pE p)),(3,.lptr 1 0 0),(4,i64 n)],[(1,some ⟨223,2,[bldC 1 2 (some s)]⟩),(2,some ⟨5,1,bE s⟩)],4,67⟩:=rfl
def pbS(p:List Rat)(n:Int):Option (List UInt8)→AState
 |none=>pb0 p n
 |some s=>pb1 p (n,s)
def pc0(p:List Rat)(c:Rat):Int→AState
 |n=>⟨[(0,.arr (pE p)),(3,.lptr 1 0 0),(4,i64 n),(5,.lptr 3 0 0)],[(1,some ⟨223,2,[bldC 1 2 none]⟩),(3,some ⟨35,3,[qC c]⟩)],4,67⟩
theorem jI_(p:List Rat)(c:Rat)(n:Int):pc0 p c n=⟨[(0,.arr (pE p)),(3,.lptr 1 0 0),(4,i64 n),(5,.lptr 3 0 0)],[(1,some ⟨223,2,[bldC 1 2 none]⟩),(3,some ⟨35,3,[qC c]⟩)],4,67⟩:=rfl
def pc1(p:List Rat)(c:Rat):Int×List UInt8→AState
 |(n,s)=>⟨[(0,.arr (pE p)),(3,.lptr 1 0 0),(4,i64 n),(5,.lptr 3 0 0)],[(1,some ⟨223,2,[bldC 1 2 (some s)]⟩),(2,some ⟨5,1,bE s⟩),(3,some ⟨35,3,[qC c]⟩)],4,67⟩
theorem hA_(p:List Rat)(c:Rat)(n:Int)(s:List UInt8):pc1 p c (n,s)=⟨[(0,.arr (pE p)),(3,.lptr 1 0 0),(4,i64 n),(5,.lptr 3 0 0)],[(1,some ⟨223,2,[bldC 1 2 (some s)]⟩),(2,some ⟨5,1,bE s⟩),(3,some ⟨35,3,[qC c]⟩)],4,67⟩:=rfl
def pcS(p:List Rat)(c:Rat)(n:Int):Option (List UInt8)→AState
 |none=>pc0 p c n
 |some s=>pc1 p c (n,s)
def pd0(p:List Rat)(t:List UInt8):Int→AState
 |n=>⟨[(0,.arr (pE p)),(3,.lptr 1 0 0),(4,i64 n),(6,tx t)],[(1,some ⟨223,2,[bldC 1 2 none]⟩)],4,67⟩
theorem oC_(p:List Rat)(t:List UInt8)(n:Int):pd0 p t n=⟨[(0,.arr (pE p)),(3,.lptr 1 0 0),(4,i64 n),(6,tx t)],[(1,some ⟨223,2,[bldC 1 2 none]⟩)],4,67⟩:=rfl
def pd1(p:List Rat)(t:List UInt8):Int×List UInt8→AState
 |(n,s)=>⟨[(0,.arr (pE p)),(3,.lptr 1 0 0),(4,i64 n),(6,tx t)],[(1,some ⟨223,2,[bldC 1 2 (some s)]⟩),(2,some ⟨5,1,bE s⟩)],4,67⟩
theorem oB_(p:List Rat)(t:List UInt8)(n:Int)(s:List UInt8):pd1 p t (n,s)=⟨[(0,.arr (pE p)),(3,.lptr 1 0 0),(4,i64 n),(6,tx t)],[(1,some ⟨223,2,[bldC 1 2 (some s)]⟩),(2,some ⟨5,1,bE s⟩)],4,67⟩:=rfl
def pdS(p:List Rat)(t:List UInt8)(n:Int):Option (List UInt8)→AState
 |none=>pd0 p t n
 |some s=>pd1 p t (n,s)
def okOx(o:Option (List UInt8))(n:Nat):Prop:=∀s,o=some s→s≠[]∧s.length≤n
theorem kP_(n:Nat):okOx none n:=fun s h=>by cases h
theorem jJ_{o:Option (List UInt8)}{n:Nat}{t:List UInt8}(h:okOx o n)(h0:t≠[]):okOx (wrO o t) (n+t.length):=by
 intro s hs
 cases hs
 cases o with
 |none=>exact⟨by simpa using h0,by simp⟩
 |some q=>exact⟨by simp[h0],by have:=(h q rfl).2;simp;omega⟩
theorem oI_{o:Option (List UInt8)}{n:Nat}(h:okOx o n)(c:Rat):okOx (sgnTx o c) (n+3):=by
 intro s hs
 cases o with
 |none=>
  simp only[sgnTx] at hs
  split at hs
  cases hs;exact⟨by simp,by simp⟩
  cases hs
 |some q=>
  have:=(h q rfl).2
  simp only[sgnTx] at hs
  split at hs <;> cases hs <;> exact⟨by simp,by simp;omega⟩
theorem dM_{o:Option (List UInt8)}{n m:Nat}(h:okOx o n)(hm:n≤m):okOx o m:=fun s hs=>⟨(h s hs).1,Nat.le_trans (h s hs).2 hm⟩
theorem textQ_ne(q:Rat):textQ q≠[]:=List.length_pos_iff.1 (textQ_len (q:=q)).2
theorem sgZ_neg(c:Rat):sgZ c.num< 0↔c< 0:=by
 rw[←hd_]
 unfold sgZ
 split
 omega
 split <;> omega
theorem okT_abs{c:Rat}(h:okT c):okT (absQ c):=by
 rw[hu_]
 split
 obtain⟨h1,h2⟩:=h
 exact⟨by rw[Rat.neg_num];simpa using h1,by rw[Rat.neg_den];exact h2⟩
 exact h
theorem rX_(tq:Rat→List UInt8)(ti:Nat→List UInt8)(L:Nat)(p:List Rat)(h1:p.length≤1000)(hL:L≤10000)(h3:∀c∈trimQ p,FSpec Tryz.prog 74 [.agg (qC (absQ c))] (tx (tq (absQ c)))∧tq (absQ c)≠[]∧(tq (absQ c)).length≤L)(hI:∀n,n< (trimQ p).length→FSpec Tryz.prog 172 [i64 n] (tx (ti n))∧(ti n).length≤20):FSpec Tryz.prog 75 [.arr (pE p)] (tx (textG tq ti p)):=by
 have htr:=cu_ p (by omega)
 obtain⟨q,hq⟩:∃q,q=trimQ p:=⟨_,rfl⟩
 have hR:textG tq ti p=(textR tq ti q q.length none).getD [48]:=by unfold textG;rw[hq]
 rw[hR]
 have h2:=aI_ p
 rw[←hq] at htr h2 h3 hI
 have hall:∀k,(q.length- k) * (L+30)≤10030000:=fun k=>Nat.mul_le_mul (show q.length- k≤1000 by omega) (show L+30≤10030 by omega)
 refine f_n Tryz.func75 ?_ ?_
 exact aa_ (as_ p) ab_
 refine r_z 1 ?_
 refine r_z 1 ?_
 refine r_c 3 (htr) ?_
 refine a_z ?_
 refine ac_ (r_z 4 ?_)
 refine aD_ (pbS q (-1)) (fun o=>o=textR tq ti q q.length none∧okOx o 20000000) ?_ ?_
 refine ah_ (aw_ (fun x:Nat×Option (List UInt8)=>pbS q ((x.1:Int)- 1) x.2) (fun x=>x.1) (fun x=>x.1≤q.length∧textR tq ti q x.1 x.2=textR tq ti q q.length none∧okOx x.2 ((q.length- x.1) * (L+30))) (q.length,none) ⟨Nat.le_refl _,rfl,kP_ _⟩ ?_ ?_)
 show SEnt _ (pb0 q ((q.length:Int)- 1))
 rw[e4_]
 exact s_e [(1,3)]
 rintro⟨n,o⟩ ⟨hn,hr,ho⟩
 simp only at hn hr ho
 cases n with
 |zero=>
  cases o with
  |none=>
   show AWp _ _ _ _ (pb0 q (((0:Nat):Int)- 1))
   rw[e4_]
   refine ac_ (r_z 2 ?_)
   refine aj_ rfl (fun h4=>?_) (fun h4=>?_)
   exact absurd h4 (by simp)
   refine av_ ⟨none,⟨hr,kP_ _⟩,?_⟩
   show SEnt _ (pb0 q (-1))
   rw[e4_]
   exact s_e []
  |some s=>
   show AWp _ _ _ _ (pb1 q (((0:Nat):Int)- 1,s))
   rw[c1_]
   refine ac_ (r_z 2 ?_)
   refine aj_ rfl (fun h4=>?_) (fun h4=>?_)
   exact absurd h4 (by simp)
   refine av_ ⟨some s,⟨hr,dM_ ho (by have:=hall 0;omega)⟩,?_⟩
   show SEnt _ (pb1 q (-1,s))
   rw[c1_]
   exact s_e []
 |succ n=>
  have hcn:((n+1:Nat):Int)- 1=(n:Int):=by omega
  rw[hcn]
  rw[textR] at hr
  have hlt:n< q.length:=by omega
  obtain⟨c,hc⟩:∃c,c=coP q n:=⟨_,rfl⟩
  rw[←hc] at hr
  have hg:(pE q)[((n:Nat):Int).toNat]?=some (qC c):=by rw[Int.toNat_natCast,hc];exact bO_ (be_ hlt)
  obtain⟨fT,htn,htl⟩:=h3 c (by rw[hc];exact List.mem_of_getElem? (be_ hlt))
  have hm:(q.length- n) * (L+30)=(q.length- (n+1)) * (L+30)+(L+30):=by
   rw[show q.length- n=(q.length- (n+1))+1 by omega,Nat.add_mul,Nat.one_mul]
  obtain⟨B,hB⟩:∃B,B=(q.length- (n+1)) * (L+30):=⟨_,rfl⟩
  have hmx:B≤10030000:=by rw[hB];exact hall _
  rw[←hB] at ho hm
  obtain⟨t,ht⟩:∃t,t=tq (absQ c):=⟨_,rfl⟩
  rw[←ht] at htn htl fT
  obtain⟨fI,hd2⟩:=hI n hlt
  refine a2_ (fun _:Unit=>pbS q n o) (fun _=>True) ?_ ?_
  cases o with
  |none=>
   show AWp _ _ _ _ (pb0 q n)
   rw[e4_]
   refine r_z 2 ?_
   refine aj_ rfl (fun h4=>?_) (fun h4=>?_)
   refine ai_ ⟨(),trivial,?_⟩
   show SEnt _ (pb0 q n)
   rw[e4_]
   exact s_e []
   exact absurd h4 (by simp)
  |some s=>
   show AWp _ _ _ _ (pb1 q (n,s))
   rw[c1_]
   refine r_z 2 ?_
   refine aj_ rfl (fun h4=>?_) (fun h4=>?_)
   refine ai_ ⟨(),trivial,?_⟩
   show SEnt _ (pb1 q (n,s))
   rw[c1_]
   exact s_e []
   exact absurd h4 (by simp)
  rintro _ _
  refine a2_ (pbS q n) (fun o'=>o'=(if c=0 then o else ie_ tq ti o c n)) ?_ ?_
  refine ah_ (a2_ (fun _:Unit=>pcS q c n o) (fun _=>True) ?_ ?_)
  cases o with
  |none=>
   show AWp _ _ _ _ (pb0 q n)
   rw[e4_]
   refine r_m 6 ?_
   refine a_2 ?_
   refine i_x hg ?_
   refine l_x hg ?_
   refine a_z ?_
   refine⟨(),trivial,?_⟩
   show SEnt _ (pc0 q c n)
   rw[jI_]
   refine at_ [(3,5)] rfl rfl rfl au_r (fun hs=>au_f) (fun hs=>?_)
   ·repeat' (first|exact aq_|refine al_ rfl rfl rfl rfl ?_ ?_)
    all_goals (first|(exact aO_ hs (aa_ (a1_ c) ab_))|exact au_e)
  |some s=>
   show AWp _ _ _ _ (pb1 q (n,s))
   rw[c1_]
   refine r_m 6 ?_
   refine a_2 ?_
   refine i_x hg ?_
   refine l_x hg ?_
   refine a_z ?_
   refine⟨(),trivial,?_⟩
   show SEnt _ (pc1 q c (n,s))
   rw[hA_]
   refine at_ [(3,5)] rfl rfl rfl au_r (fun hs=>au_f) (fun hs=>?_)
   ·repeat' (first|exact aq_|refine al_ rfl rfl rfl rfl ?_ ?_)
    all_goals (first|(exact aO_ hs (aa_ (a1_ c) ab_))|exact au_e)
  rintro _ _
  refine a2_ (fun _:Unit=>pcS q c n o) (fun _=>c≠0) ?_ ?_
  cases o with
  |none=>
   show AWp _ _ _ _ (pc0 q c n)
   rw[jI_]
   refine r_c 3 (bU_ c) ?_
   refine a_z ?_
   refine aj_ rfl (fun h4=>?_) (fun h4=>?_)
   have h5:c=0:=sgZ_num_eq.1 (by simpa using h4)
   refine av_ ⟨none,by rw[if_pos h5],?_⟩
   show SEnt _ (pb0 q n)
   rw[e4_]
   exact s_e []
   have h5:c≠0:=fun e=>by have h6:=sgZ_num_eq.2 e;simp[h6] at h4
   refine ai_ ⟨(),h5,?_⟩
   show SEnt _ (pc0 q c n)
   rw[jI_]
   exact s_e []
  |some s=>
   show AWp _ _ _ _ (pc1 q c (n,s))
   rw[hA_]
   refine r_c 3 (bU_ c) ?_
   refine a_z ?_
   refine aj_ rfl (fun h4=>?_) (fun h4=>?_)
   have h5:c=0:=sgZ_num_eq.1 (by simpa using h4)
   refine av_ ⟨some s,by rw[if_pos h5],?_⟩
   show SEnt _ (pb1 q (n,s))
   rw[c1_]
   exact s_e []
   have h5:c≠0:=fun e=>by have h6:=sgZ_num_eq.2 e;simp[h6] at h4
   refine ai_ ⟨(),h5,?_⟩
   show SEnt _ (pc1 q c (n,s))
   rw[hA_]
   exact s_e []
  rintro _ hc0
  rw[if_neg hc0]
  have hsg:(sgZ c.num< 0)↔c< 0:=sgZ_neg c
  refine a2_ (pcS q c n) (fun o'=>o'=sgnTx o c) ?_ ?_
  refine ah_ ?_
  cases o with
  |none=>
   show AWp _ _ _ _ (pc0 q c n)
   rw[jI_]
   refine s_r 8 ?_
   refine o_0 (.callR (s:=none) (j:=0) (tb:=0) rfl rfl rfl rfl rfl (fun _ h=>by cases h) (lk_)) ?_
   refine a_2 ?_
   first|refine y_g rfl d_t (.load_l rfl rfl rfl tg_35.h ts_35.h (nle rfl)) ?_|refine y_g rfl d_t (.load_a rfl rfl tg_35.h ts_35.h (nle rfl)) ?_
   refine y_g rfl d_t (.call rfl rfl rfl (bU_ c)) ?_
   refine y_g rfl d_t (.bin rfl rfl dx_) ?_
   refine o_0 (.pickT rfl d_t rfl) ?_
   refine a_z ?_
   refine aj_ rfl (fun h4=>?_) (fun h4=>?_)
   have h5:c< 0:=hsg.1 (by simpa using h4)
   refine r_m 1 ?_
   refine o_2 (.callB (s:=none) (j:=0) rfl rfl rfl rfl rfl rfl (fun _ h=>by cases h) (fz_ [45] (by simp) (by simp))) ?_
   refine ak_ ?_
   refine⟨some [45],by simp only[sgnTx];rw[if_pos h5],?_⟩
   show SEnt _ (pc1 q c (n,[45]))
   rw[hA_]
   refine SEnt.to2 [(2,100012)] rfl rfl rfl au_r (fun hs=>au_f) (fun hs=>?_)
   ·repeat' (first|exact aq_|refine al_ rfl rfl rfl rfl ?_ ?_)
    all_goals (first|(exact aO_ hs (aa_ (a1_ c) ab_))|exact au_e)
   have h5:¬c< 0:=fun e=>by have h6:=hsg.2 e;simp[h6] at h4
   refine s_r 8 ?_
   refine o_0 (.callR (s:=none) (j:=0) (tb:=0) rfl rfl rfl rfl rfl (fun _ h=>by cases h) (lk_)) ?_
   refine a_2 ?_
   refine n_g rfl d_f ?_
   refine n_g rfl d_f ?_
   refine n_g rfl d_f ?_
   refine o_0 (.pickF rfl d_f rfl) ?_
   refine a_z ?_
   refine cF (s_r 3 ?_)
   refine o_0 (.callR (s:=none) (j:=0) (tb:=0) rfl rfl rfl rfl rfl (fun _ h=>by cases h) (lk_)) ?_
   refine a_z ?_
   refine aj_ rfl (fun h7=>?_) (fun h7=>?_)
   exact absurd h7 (by simp)
   refine ai_ ⟨none,by simp only[sgnTx];rw[if_neg h5],?_⟩
   show SEnt _ (pc0 q c n)
   rw[jI_]
   exact s_e []
  |some s=>
   have hsn:=(ho s rfl).1
   have hsl:=(ho s rfl).2
   have hs0:s.length≠0:=by simpa using hsn
   show AWp _ _ _ _ (pc1 q c (n,s))
   rw[hA_]
   refine s_r 8 ?_
   refine o_0 (.callR (s:=some _) rfl rfl rfl rfl rfl (fun _ h=>by cases h;exact rfl) (lj_ s)) ?_
   refine a_2 ?_
   refine n_g rfl (by simp;omega) ?_
   refine n_g rfl (by simp;omega) ?_
   refine n_g rfl (by simp;omega) ?_
   refine o_0 (.pickF rfl (by simp;omega) rfl) ?_
   refine a_z ?_
   refine aj_ rfl (fun h4=>?_) (fun h4=>?_)
   ·first|(simp at h4;done)|(simp at h4;omega)|(simp at h4;exact absurd h4 hsn)
   refine s_r 8 ?_
   refine o_0 (.callR (s:=some _) rfl rfl rfl rfl rfl (fun _ h=>by cases h;exact rfl) (lj_ s)) ?_
   refine a_2 ?_
   first|refine y_g rfl (by simp;omega) (.load_l rfl rfl rfl tg_35.h ts_35.h (nle rfl)) ?_|refine y_g rfl (by simp;omega) (.load_a rfl rfl tg_35.h ts_35.h (nle rfl)) ?_
   refine y_g rfl (by simp;omega) (.call rfl rfl rfl (bU_ c)) ?_
   refine y_g rfl (by simp;omega) (.bin rfl rfl dx_) ?_
   refine o_0 (.pickT rfl (by simp;omega) rfl) ?_
   refine a_z ?_
   refine aj_ rfl (fun h6=>?_) (fun h6=>?_)
   have h5:c< 0:=hsg.1 (by simpa using h6)
   refine r_m 1 ?_
   refine o_3 (.callB (s:=some _) rfl rfl rfl rfl rfl rfl (fun _ h=>by cases h;exact⟨rfl,by decide⟩) (eM_ s [32,45,32] (by simp;omega))) ?_
   refine ak_ ?_
   refine⟨some (s++[32,45,32]),by simp only[sgnTx];rw[if_pos h5],?_⟩
   show SEnt _ (pc1 q c (n,s++[32,45,32]))
   rw[hA_]
   refine SEnt.to2 [(2,100020)] rfl rfl rfl au_r (fun hs=>au_f) (fun hs=>?_)
   ·repeat' (first|exact aq_|refine al_ rfl rfl rfl rfl ?_ ?_)
    all_goals (first|(exact aO_ hs (aa_ (a1_ c) ab_))|exact au_e)
   have h5:¬c< 0:=fun e=>by have h7:=hsg.2 e;simp[h7] at h6
   refine s_r 3 ?_
   refine o_0 (.callR (s:=some _) rfl rfl rfl rfl rfl (fun _ h=>by cases h;exact rfl) (lj_ s)) ?_
   refine a_z ?_
   refine aj_ rfl (fun h7=>?_) (fun h7=>?_)
   refine r_m 1 ?_
   refine o_3 (.callB (s:=some _) rfl rfl rfl rfl rfl rfl (fun _ h=>by cases h;exact⟨rfl,by decide⟩) (eM_ s [32,43,32] (by simp;omega))) ?_
   refine ak_ ?_
   refine⟨some (s++[32,43,32]),by simp only[sgnTx];rw[if_neg h5],?_⟩
   show SEnt _ (pc1 q c (n,s++[32,43,32]))
   rw[hA_]
   refine SEnt.to2 [(2,100023)] rfl rfl rfl au_r (fun hs=>au_f) (fun hs=>?_)
   ·repeat' (first|exact aq_|refine al_ rfl rfl rfl rfl ?_ ?_)
    all_goals (first|(exact aO_ hs (aa_ (a1_ c) ab_))|exact au_e)
   ·first|(simp at h7;done)|(simp at h7;omega)|(simp at h7;exact absurd h7 hsn)
  rintro o1 rfl
  have ho1:=oI_ ho c
  obtain⟨o1,ho1e⟩:∃o1,o1=sgnTx o c:=⟨_,rfl⟩
  rw[←ho1e] at ho1⊢
  refine a2_ (fun _:Unit=>pdS q t n o1) (fun _=>True) ?_ ?_
  cases o1 with
  |none=>
   show AWp _ _ _ _ (pc0 q c n)
   rw[jI_]
   refine r_m 4 ?_
   refine c_s (pa_ c) ?_
   refine c_s (fT) ?_
   refine a_z ?_
   refine⟨(),trivial,?_⟩
   show SEnt _ (pd0 q t n)
   rw[oC_]
   exact s_e []
  |some s=>
   show AWp _ _ _ _ (pc1 q c (n,s))
   rw[hA_]
   refine r_m 4 ?_
   refine c_s (pa_ c) ?_
   refine c_s (fT) ?_
   refine a_z ?_
   refine⟨(),trivial,?_⟩
   show SEnt _ (pd1 q t (n,s))
   rw[oB_]
   exact s_e []
  rintro _ _
  refine a2_ (fun _:Unit=>pdS q t n o1) (fun _=>n≠0) ?_ ?_
  cases o1 with
  |none=>
   show AWp _ _ _ _ (pd0 q t n)
   rw[oC_]
   refine r_z 2 ?_
   refine aj_ rfl (fun h4=>?_) (fun h4=>?_)
   have h5:n=0:=by simpa using h4
   subst h5
   refine s_r 2 ?_
   refine a_1 ?_
   refine o_2 (.callB (s:=none) (j:=0) rfl rfl rfl rfl rfl rfl (fun _ h=>by cases h) (fz_ t htn (by omega))) ?_
   refine ak_ ?_
   refine av_ ⟨some t,by unfold ie_;rw[if_pos rfl,←ho1e,←ht];rfl,?_⟩
   show SEnt _ (pb1 q (((0:Nat):Int),t))
   rw[c1_]
   refine SEnt.to2 [(2,100007)] rfl rfl rfl au_r (fun hs=>au_f) (fun hs=>au_h)
   have h5:n≠0:=fun e=>by simp[e] at h4
   refine ai_ ⟨(),h5,?_⟩
   show SEnt _ (pd0 q t n)
   rw[oC_]
   exact s_e []
  |some s=>
   have hsl:=(ho1 s rfl).2
   show AWp _ _ _ _ (pd1 q t (n,s))
   rw[oB_]
   refine r_z 2 ?_
   refine aj_ rfl (fun h4=>?_) (fun h4=>?_)
   have h5:n=0:=by simpa using h4
   subst h5
   refine s_r 2 ?_
   refine a_1 ?_
   refine o_3 (.callB (s:=some _) rfl rfl rfl rfl rfl rfl (fun _ h=>by cases h;exact⟨rfl,by decide⟩) (eM_ s t (by omega))) ?_
   refine ak_ ?_
   refine av_ ⟨some (s++t),by unfold ie_;rw[if_pos rfl,←ho1e,←ht];rfl,?_⟩
   show SEnt _ (pb1 q (((0:Nat):Int),s++t))
   rw[c1_]
   refine SEnt.to2 [(2,100007)] rfl rfl rfl au_r (fun hs=>au_f) (fun hs=>au_h)
   have h5:n≠0:=fun e=>by simp[e] at h4
   refine ai_ ⟨(),h5,?_⟩
   show SEnt _ (pd1 q t (n,s))
   rw[oB_]
   exact s_e []
  rintro _ hn0
  refine a2_ (pbS q n) (fun o'=>o'=fY_ o1 t) ?_ ?_
  cases o1 with
  |none=>
   show AWp _ _ _ _ (pd0 q t n)
   rw[oC_]
   refine s_r 2 ?_
   refine a_1 ?_
   refine o_0 (.bin rfl rfl (pH_ (m:=[49]))) ?_
   refine ak_ ?_
   refine aj_ rfl (fun h4=>?_) (fun h4=>?_)
   have h5:¬t=[49]:=by simpa using h4
   refine r_m 3 ?_
   refine a_1 ?_
   refine o_0 (.bin rfl rfl (fW_ (m:=[32]) (by simp;omega))) ?_
   refine o_2 (.callB (s:=none) (j:=0) rfl rfl rfl rfl rfl rfl (fun _ h=>by cases h) (fz_ (t++[32]) (by simp) (by simp;omega))) ?_
   refine ak_ ?_
   refine⟨some (t++[32]),by unfold fY_;rw[if_neg h5];rfl,?_⟩
   show SEnt _ (pb1 q (n,t++[32]))
   rw[c1_]
   refine SEnt.to2 [(2,100008)] rfl rfl rfl au_r (fun hs=>au_f) (fun hs=>au_h)
   have h5:t=[49]:=by simpa using h4
   refine ai_ ⟨none,by unfold fY_;rw[if_pos h5],?_⟩
   show SEnt _ (pb0 q n)
   rw[e4_]
   exact s_e []
  |some s=>
   have hsl:=(ho1 s rfl).2
   show AWp _ _ _ _ (pd1 q t (n,s))
   rw[oB_]
   refine s_r 2 ?_
   refine a_1 ?_
   refine o_0 (.bin rfl rfl (pH_ (m:=[49]))) ?_
   refine ak_ ?_
   refine aj_ rfl (fun h4=>?_) (fun h4=>?_)
   have h5:¬t=[49]:=by simpa using h4
   refine r_m 3 ?_
   refine a_1 ?_
   refine o_0 (.bin rfl rfl (fW_ (m:=[32]) (by simp;omega))) ?_
   refine o_3 (.callB (s:=some _) rfl rfl rfl rfl rfl rfl (fun _ h=>by cases h;exact⟨rfl,by decide⟩) (eM_ s (t++[32]) (by simp;omega))) ?_
   refine ak_ ?_
   refine⟨some (s++(t++[32])),by unfold fY_;rw[if_neg h5];rfl,?_⟩
   show SEnt _ (pb1 q (n,s++(t++[32])))
   rw[c1_]
   refine SEnt.to2 [(2,100008)] rfl rfl rfl au_r (fun hs=>au_f) (fun hs=>au_h)
   have h5:t=[49]:=by simpa using h4
   refine ai_ ⟨some s,by unfold fY_;rw[if_pos h5],?_⟩
   show SEnt _ (pb1 q (n,s))
   rw[c1_]
   exact s_e []
  rintro o2 ho2e
  have ho2:okOx o2 (B+L+4):=by
   rw[ho2e];unfold fY_
   split
   exact dM_ ho1 (by omega)
   exact dM_ (jJ_ ho1 (t:=t++[32]) (by simp)) (by simp;omega)
  refine a2_ (fun s=>pb1 q (n,s)) (fun s=>wrO o2 [120]=some s) ?_ ?_
  cases o2 with
  |none=>
   show AWp _ _ _ _ (pb0 q n)
   rw[e4_]
   refine r_m 1 ?_
   refine o_2 (.callB (s:=none) (j:=0) rfl rfl rfl rfl rfl rfl (fun _ h=>by cases h) (fz_ [120] (by simp) (by simp))) ?_
   refine ak_ ?_
   refine⟨[120],rfl,?_⟩
   simp only[c1_]
   refine SEnt.to2 [(2,100004)] rfl rfl rfl au_r (fun hs=>au_f) (fun hs=>au_h)
  |some s=>
   have hsl:=(ho2 s rfl).2
   show AWp _ _ _ _ (pb1 q (n,s))
   rw[c1_]
   refine r_m 1 ?_
   refine o_3 (.callB (s:=some _) rfl rfl rfl rfl rfl rfl (fun _ h=>by cases h;exact⟨rfl,by decide⟩) (eM_ s [120] (by simp;omega))) ?_
   refine ak_ ?_
   refine⟨s++[120],rfl,?_⟩
   simp only[c1_]
   refine SEnt.to2 [(2,100004)] rfl rfl rfl au_r (fun hs=>au_f) (fun hs=>au_h)
  rintro s hs3
  have ho3:=jJ_ ho2 (t:=[120]) (by simp) s hs3
  have hsl:s.length≤B+L+5:=ho3.2
  simp only[c1_]
  refine r_z 2 ?_
  refine aj_ rfl (fun h4=>?_) (fun h4=>?_)
  have h5:1< n:=by simp at h4;omega
  refine r_m 4 ?_
  refine c_s (fI) ?_
  refine o_0 (.bin rfl rfl (fW_ (l:=[94]) (by simp;omega))) ?_
  refine o_3 (.callB (s:=some _) rfl rfl rfl rfl rfl rfl (fun _ h=>by cases h;exact⟨rfl,by decide⟩) (eM_ s ([94]++ti n) (by simp;omega))) ?_
  refine ak_ ?_
  refine⟨some (s++([94]++ti n)),by unfold ie_;rw[if_neg hn0,if_pos h5,←ho1e,←ht,←ho2e,hs3];rfl,?_⟩
  show SEnt _ (pb1 q (n,s++([94]++ti n)))
  rw[c1_]
  refine SEnt.to2 [(2,100009)] rfl rfl rfl au_r (fun hs=>au_f) (fun hs=>au_h)
  have h5:¬1< n:=by simp at h4;omega
  refine ai_ ⟨some s,by unfold ie_;rw[if_neg hn0,if_neg h5,←ho1e,←ht,←ho2e,hs3],?_⟩
  show SEnt _ (pb1 q (n,s))
  rw[c1_]
  exact s_e []
  rintro o' ho'
  have hok':okOx o' (B+(L+30)):=by
   rw[ho']
   split
   exact dM_ ho (by omega)
   have g1:=oI_ ho c
   unfold ie_
   rw[←ht]
   have g2:okOx (fY_ (sgnTx o c) t) (B+L+4):=by
    unfold fY_
    split
    exact dM_ g1 (by omega)
    exact dM_ (jJ_ g1 (t:=t++[32]) (by simp)) (by simp;omega)
   have g3:=jJ_ g2 (t:=[120]) (by simp)
   split
   exact dM_ (jJ_ g1 htn) (by omega)
   split
   exact dM_ (jJ_ g3 (t:=[94]++ti n) (by simp)) (by simp;omega)
   exact dM_ g3 (by simp;omega)
  rw[←ho'] at hr
  cases o' with
  |none=>
   show AWp _ _ _ _ (pb0 q n)
   rw[e4_]
   refine r_m 3 ?_
   refine a_z ?_
   refine⟨(n,none),Nat.lt_succ_self n,⟨by simp only;omega,hr,kP_ _⟩,?_⟩
   show SEnt _ (pb0 q ((n:Int)- 1))
   rw[e4_]
   exact s_e []
  |some s=>
   show AWp _ _ _ _ (pb1 q (n,s))
   rw[c1_]
   refine r_m 3 ?_
   refine a_z ?_
   refine⟨(n,some s),Nat.lt_succ_self n,⟨by simp only;omega,hr,by simp only;rw[hm];exact hok'⟩,?_⟩
   show SEnt _ (pb1 q ((n:Int)- 1,s))
   rw[c1_]
   exact s_e []
 rintro o ⟨rfl,ho⟩
 cases ho2:textR tq ti q q.length none with
 |none=>
  show AWp _ _ _ _ (pb0 q (-1))
  rw[e4_]
  refine ac_ (s_r 2 ?_)
  refine o_0 (.callR (s:=none) (j:=0) (tb:=0) rfl rfl rfl rfl rfl (fun _ h=>by cases h) (lk_)) ?_
  refine a_z ?_
  refine aj_ rfl (fun h4=>?_) (fun h4=>?_)
  refine r_z 1 ?_
  exact ag_ (t_e (ad_ _))
  exact absurd h4 (by simp)
 |some s=>
  have hs:=ho s ho2
  have hsl:s.length≠0:=by have:=hs.1;simpa using this
  have hne:=hs.1
  show AWp _ _ _ _ (pb1 q (-1,s))
  rw[c1_]
  refine ac_ (s_r 2 ?_)
  refine o_0 (.callR (s:=some _) rfl rfl rfl rfl rfl (fun _ h=>by cases h;exact rfl) (lj_ s)) ?_
  refine a_z ?_
  refine aj_ rfl (fun h4=>?_) (fun h4=>?_)
  exact absurd h4 (by simp;omega)
  refine ai_ (s_r 2 ?_)
  refine o_2 (.callD rfl rfl rfl rfl rfl rfl (by decide) (by first|assumption|simp) (mX_)) ?_
  refine a_z ?_
  exact ag_ (t_e (ad_ _))
theorem gO_(p:List Rat)(h:okPT p):FSpec Tryz.prog 75 [.arr (pE p)] (tx (textP p)):=by
 obtain⟨h1,h2,h3⟩:=h
 exact rX_ textQ dec2 6 p h1 (by decide) (fun c hc=>⟨pb_ (absQ c) (okT_abs (h3 c hc)),textQ_ne _,textQ_len.1⟩) (fun n hn=>⟨r1_ n (by omega),Nat.le_trans (fS_ n) (by decide)⟩)
def okTo(L:Nat)(p t:List Rat)(k:Rat)(n:Nat):Prop:=n< L∧smL p∧smL t∧leadP t≠0∧sm k∧smL (az_ t k)∧p.length≤274877906944∧t.length≤274877906944
instance (L:Nat) (p t:List Rat) (k:Rat) (n:Nat):Decidable (okTo L p t k n):=inferInstanceAs (Decidable (_∧_∧_∧_∧_∧_∧_∧_))

inductive LeLL:List (List AV)→List (List AV)→Prop
 |nil:LeLL [] []
 |cons {e e' es es'}:LeL e e'→LeLL es es'→LeLL (e::es) (e'::es')
theorem leL_len{xs ys:List AV}(h:LeL xs ys):ys.length=xs.length:=by
 induction h with
 |nil=>rfl
 |cons _ _ ih=>simp[ih]
theorem leL_cs{M:Nat→Prop}{β:Nat→Option (Nat×Nat)}{w:World}{b:Nat}{xs ys:List AV}(h:LeL xs ys):∀{off:Nat},RVcs M β w b xs off→RVcs M β w b ys off:=by
 induction h with
 |nil=>exact fun h=>h
 |cons h1 _ ih=>rintro off ⟨⟨x,hx,hr⟩,hs⟩;exact⟨⟨x,hx,h1 M β w x hr⟩,ih hs⟩
theorem LeLL.ess{M:Nat→Prop}{β:Nat→Option (Nat×Nat)}{w:World}{b s:Nat}{es es':List (List AV)}(h:LeLL es es'):∀{off:Nat},RVess M β w b s es off→RVess M β w b s es' off:=by
 induction h with
 |nil=>exact fun h=>h
 |cons h1 _ ih=>rintro off ⟨h0,hc,hr⟩;exact⟨(leL_len h1).trans h0,leL_cs h1 hc,ih hr⟩
theorem LeLL.length{es es':List (List AV)}(h:LeLL es es'):es'.length=es.length:=by
 induction h with
 |nil=>rfl
 |cons _ _ ih=>simp[ih]
theorem Le.arr{es es':List (List AV)}(h:LeLL es es'):Le (.arr es) (.arr es'):=by
 rintro M β w y ⟨a,c,rfl,h1,h2,h3⟩
 refine⟨a,c,by rw[h.length],by rw[h.length];exact h1,h2,h3.imp (fun e=>?_) ?_⟩
 subst e;cases h;rfl
 rintro⟨b,off,s,rfl,hN,hm,hr⟩
 exact⟨b,off,s,rfl,hN,hm,h.ess hr⟩
theorem LeLL.refl:∀es,LeLL es es
 |[]=> .nil
 |e::es=> .cons (LeL.refl e) (LeLL.refl es)
section
variable {P:Go.Program}{T:Nat}{x y:Operand}
end
theorem jS_(p:List Rat)(n:Nat)(hs:bdL p 256)(hl:p.length≤12)(hn:n≤6)(hb:∀k,k≤n→pB p.length k≤1073741824):FSpec Tryz.prog 79 [.arr (pE p),i64 n] (.arr (pE (powP p n))):=by
 refine f_n Tryz.func79 ?_ ?_
 exact aa_ (as_ p) (aa_ (ad_ _) ab_)
 refine r_z 1 ?_
 refine r_c 8 (fs_Power p n hs hl hn hb) ?_
 refine a_z ?_
 refine r_z 2 ?_
 exact ag_ (t_e (as_ _))
theorem rY_(p:List Rat)(o:okMul p [0,1]):FSpec Tryz.prog 52 [.arr (pE p),.arr [zC,qC ((1:Int):Rat)]] (.arr (pE (mulP p [0,1]))):=
 (j3_ p [0,1] (mxL _) (mxL _) (cl_ _) (cl_ _) (b0_ _) (b0_ _) o.1 o.2.1 o.2.2.1 o.2.2.2).weak
  (.cons (Le.refl _) (.cons (Le.arr (.cons le_zC (.cons (LeL.refl _) .nil))) .nil)) (aa_ (as_ p) (aa_ (aU_ fun e he c hc=>by
   rcases List.mem_cons.1 he with rfl|he
   exact ee_ c hc
   rw[List.mem_singleton.1 he] at hc;exact a1_ _ c hc) ab_))
def moT(f:List Rat)(s:Sp)(k:Nat):Option (List AV):=some [.agg (qC (moQ f s k))]
theorem mo_(f:List Rat)(s:Sp)(K:Nat)(hK:K≤1000000)(hok:∀k,k≤K→okMo f s k):GSpecB Tryz.prog 81 [bP f,bS s] (moT f s) K:=by
 have hcb:Closed (bP f):=bz_ f
 have hcs:Closed (bS s):=fy_ s
 refine GSpecB.enter Tryz.func81 rfl (by kernel_rfl) rfl rfl rfl ?_ ?_ rfl ?_
 exact aa_ hcb (aa_ hcs ab_)
 intro k xs h
 cases h
 exact aa_ (ay_ _) ab_
 intro ll N hN E
 refine GWp.seq ?_
 refine GWp.lift ?_
 refine r_m 2 ?_
 refine a_z ?_
 refine GWp.block ?_
 refine GWp.loopS (fun k:Nat=>⟨[(0,.v (.func (.yield ll) #[] #[])),(1,bP f),(2,bS s),(4,.arr (pE (gK f k)))],[],1,16⟩) (fun k=>k) (fun k=>N+1- k) (fun k=>k≤N) 0 (Nat.zero_le _) rfl ?_ ?_
 exact s_e []
 intro k hk
 obtain⟨o1,o2,o3,o4,o5⟩:=hok k (by omega)
 have hin:FSpec Tryz.prog 82 [.arr (pE (gK f k)),.agg (spC s.1 s.2)] (.agg (qC (moQ f s k))):=nQ_ (gK f k) s.1 s.2 o1 o2 o3 o4
 refine GWp.seq ?_
 refine GWp.seq ?_
 refine GWp.regY (fr2:=[(0,.v (.func (.yield ll) #[] #[])),(1,bP f),(2,bS s),(4,.arr (pE (gK f k))),(6,.v (.func (.yield ll) #[] #[])),(9,.agg (qC (moQ f s k)))]) (hp2:=[]) (nx2:=1) 4 rfl rfl rfl rfl rfl rfl ?_ rfl rfl rfl ?_ ?_ ?_
 refine o_0 (.move rfl) ?_
 refine o_0 (.move rfl) ?_
 first|refine aM_ (.load_l rfl rfl rfl tg_37.h ts_37.h (nle rfl)) rfl rfl ?_|refine aM_ (.load_a rfl rfl tg_37.h ts_37.h (nle rfl)) rfl rfl ?_
 refine o_0 (.call rfl rfl rfl (hin)) ?_
 refine ak_ ?_
 refine SEntT.to [] rfl rfl rfl au_r (fun hs=>au_f) (fun hs=>au_h)
 rotate_left 2
 intro go
 refine ak_ ?_
 rotate_left
 rfl
 exact aa_ (ay_ _) ab_
 cases go with
 |false=>
  refine GWp.cond rfl (fun h=>?_) (fun h=>?_)
  cases h
  exact GWp.exit ⟨.inl rfl,fun h=>by cases h⟩
 |true=>
  refine GWp.bound fun hk1=>?_
  refine GWp.cond rfl (fun h=>?_) (fun h=>?_)
  rotate_left
  cases h
  refine GWp.skip ?_
  have hwh:=a7_ 1 (by decide)
  have hmu:=rY_ (gK f k) o5
  refine GWp.lift ?_
  refine ah_ (r_m 6 ?_)
  refine c_s (hwh) ?_
  refine a_1 ?_
  refine o_1 (.callS1 rfl rfl rfl (.keep (.shut rfl d_n (.nil))) rfl (hmu)) ?_
  refine a_z ?_
  refine⟨rfl,k+1,by omega,hk1,rfl,?_⟩
  exact s_e []
end Go.Proofs.YtdjfjpeoddmamaaGreatDoor
