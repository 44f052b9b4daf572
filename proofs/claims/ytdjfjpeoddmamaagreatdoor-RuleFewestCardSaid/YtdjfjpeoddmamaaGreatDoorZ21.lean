/- Part Z21 of the proof. -/
import Derived.Test.YtdjfjpeoddmamaaGreatDoorZ20
import Derived.ProofKit
import Derived.OpenShut
import Derived.Carry
import Derived.Deep.Slices
import Derived.Deep.Strs
set_option linter.all false
namespace Go.Proofs.YtdjfjpeoddmamaaGreatDoor
open Go.Abs
set_option maxRecDepth 20000
set_option maxHeartbeats 1000000
def bR(X:List RQ):Nat×Rat→AState
 |(i,m)=>⟨[(0,.arr (rE X)),(2,.lptr 1 0 0),(3,.lptr 2 0 0),(4,i64 i)],[(1,some ⟨42,4,[zR4]⟩),(2,some ⟨42,4,[rC (rq m)]⟩)],3,29⟩
theorem bR_mk(X:List RQ)(i:Nat)(m:Rat):bR X (i,m)=⟨[(0,.arr (rE X)),(2,.lptr 1 0 0),(3,.lptr 2 0 0),(4,i64 i)],[(1,some ⟨42,4,[zR4]⟩),(2,some ⟨42,4,[rC (rq m)]⟩)],3,29⟩:=rfl
theorem mw_(x:List RQ)(s:Nat)(hx:okX x)(hs:bdL (vR x) s)(hs1:1≤s)(hz:nz (vR x))(hlim:s≤137438953472)(hl:x.length≤1000000):FSpec Tryz.prog 212 [.arr (rE x)] (.agg (rC (rq (bc_ (vR x))))):=by
 have hi0:FSpec Tryz.prog 112 [i64 0] (.agg (rC (rq 0))):=bT_ 0 (by decide)
 have hi1:FSpec Tryz.prog 112 [i64 1] (.agg (rC (rq 1))):=bT_ 1 (by decide)
 obtain⟨X,hX⟩:∃X,X=trimR x:=⟨_,rfl⟩
 obtain⟨t,ht⟩:∃t,t=trimQ (vR x):=⟨_,rfl⟩
 have hXt:vR X=t:=by rw[hX,ht,e7_]
 have hXl:X.length=t.length:=by rw[←hXt,ba_]
 have hXx:X.length≤x.length:=by rw[hX,cs_,←ba_ x];exact aI_ _
 have hXo:okX X:=by rw[hX];exact hV_ hx
 have hbt:bdL t s:=by rw[ht];exact g3_ hs
 have htt:trimQ t=t:=by rw[ht];exact aN_ _
 have hpos:0< t.length:=by rw[ht];exact List.length_pos_iff.2 hz
 obtain⟨b,hb,hbl,hbm⟩:=iK_ (x:=X) (by rw[hXt];exact htt) (fun e=>by rw[e] at hXl;simp at hXl;omega)
 have hbo:=hXo b hbm
 rw[hXt,ht,dn_] at hbl
 have hb0:b.1≠0:=by rw[hbl];exact bF_ hz
 have hbs:qs b.1≤s:=by rw[hbl];exact hg_ hs hs1
 have hld:=gL_ X b (by omega) (by rw[hP_ (by rw[hXt];exact htt)];exact hb)
 obtain⟨l,hle⟩:∃l,l=t.take (t.length- 1):=⟨_,rfl⟩
 have hll:l.length=t.length- 1:=by rw[hle];simp
 obtain⟨B,hB⟩:∃B,B=boL (leadP (vR x)) l 0:=⟨_,rfl⟩
 have hbd:bc_ (vR x)=B+1:=by unfold bc_;rw[←ht,←hle,←hB]
 rw[hbd]
 refine f_n Tryz.func212 ?_ ?_
 exact aa_ (aF_ x) ab_
 refine r_z 1 ?_
 refine r_c 3 (c9_ x (by omega)) ?_
 refine a_z ?_
 rw[←hX]
 refine r_c 3 (hi0) ?_
 refine a_z ?_
 refine ac_ (r_z 1 ?_)
 refine aD_ (fun _:Unit=>⟨[(2,.lptr 1 0 0),(3,.lptr 2 0 0)],[(1,some ⟨42,4,[zR4]⟩),(2,some ⟨42,4,[rC (rq B)]⟩)],3,29⟩) (fun _=>qs B≤2* s+1) ?_ ?_
 refine ah_ (aw_ (bR X) (fun y=>t.length- y.1) (fun y=>y.1≤l.length∧qs y.2≤2* s+1∧boL (leadP (vR x)) (l.drop y.1) y.2=B) (0,0) ⟨Nat.zero_le _,Nat.le_trans (by decide:qs 0≤1) (Nat.le_add_left 1 _),by rw[hB];rfl⟩ ?_ ?_)
 simp only[bR_mk]
 exact s_e [(1,2),(2,3)]
 rintro⟨i,m⟩ ⟨hi,hm,hbo'⟩
 simp only at hi hm hbo'
 rw[bR_mk]
 by_cases hlt:i< l.length
 refine ac_ (q_z 5 ?_)
 refine cT (ai_ ?_)
 obtain⟨y,hy,hyc⟩:=e8_ (x:=X) (i:=i) (by omega)
 have hym:=List.mem_of_getElem? hy
 have hgt:(rE X)[((i:Nat):Int).toNat]?=some (rC y):=ej_ hy
 have hcl:coP (vR X) i=coP l i:=by
  rw[hXt,hle];unfold coP
  rw[List.getD_eq_getElem?_getD,List.getD_eq_getElem?_getD,List.getElem?_take_of_lt (by omega)]
 have hc:qs y.1≤s:=by rw[hyc,hXt];exact bA_ hbt hs1 i
 rw[hcl] at hyc
 rw[hm_ hlt,boL,←hyc] at hbo'
 have hq:=c8_ y.1 b.1
 have hdv:=gg_ y b (hXo y hym) hbo hb0 (by omega)
 have hqa:=l6_ (y.1/ b.1)
 have hab:=rK_ (rq (y.1/ b.1)) (bg_ _)
 rw[←hbl] at hbo'
 have hbm2:bdL [m,absQ (y.1/ b.1)] (2* s+1):=by
  intro z hz
  rcases List.mem_cons.1 hz with rfl|hz
  exact hm
  rw[List.mem_singleton.1 hz];omega
 have hmx:=fs_rMax [m,absQ (y.1/ b.1)] (2* s+1) hbm2 (by omega) (by simp) (by simp)
 refine ac_ (ah_ (r_d hmix 12 ?_))
 refine a_3 ?_
 refine i_x hgt ?_
 refine l_x hgt ?_
 refine c_s (hld) ?_
 refine c_s (hdv) ?_
 refine c_s (hab) ?_
 refine a_1 ?_
 refine o_1 (.callS1 rfl rfl rfl (.shut rfl d_n (.nil)) rfl (hmx)) ?_
 refine a_1 ?_
 refine ak_ (n_k ?_)
 refine r_m 3 ?_
 refine a_z ?_
 refine⟨(i+1,maxL [m,absQ (y.1/ b.1)]),by simp only;omega,⟨hlt,nF_ hbm2 (Nat.le_add_left 1 _),by rw[←hbl];exact hbo'⟩,?_⟩
 simp only[bR_mk]
 exact s_e []
 have hge:i=l.length:=by omega
 subst hge
 refine ac_ (q_z 5 ?_)
 refine cF ?_
 rw[List.drop_length] at hbo'
 have hb2:m=B:=hbo'
 subst hb2
 refine av_ ⟨(),hm,?_⟩
 exact s_e [(1,2),(2,3)]
 rintro _ hq
 have q1:qs ((rq 1).1)=1:=jH_
 have had:=gh_ (rq B) (rq 1) (bg_ _) (bg_ _) (by rw[q1];show qs B+1≤_;omega)
 refine ac_ (r_d hmix 4 ?_)
 refine c_s (hi1) ?_
 refine c_s (had) ?_
 refine a_1 ?_
 refine ak_ (n_k ?_)
 exact ag_ (c_e (a0_ _))
def cR(l:List (List Rat)):List (List AV):=l.map fun p=>[.arr (rE (rP p))]
@[simp] theorem sE_ (l:List (List Rat)):(cR l).length=l.length:=by simp[cR]
theorem sF_{l:List (List Rat)}{i:Nat}{p:List Rat}(h:l[i]?=some p):(cR l)[i]?=some [.arr (rE (rP p))]:=by simp[cR,h]
theorem cR_one(l:List (List Rat)):(cR l).all (·.all AV.one)=true:=by
 simp only[cR,List.all_map,List.all_eq_true];intro q _;rfl
theorem fw_(l:List (List Rat)):Closed (.arr (cR l)):=aU_ fun e he c hc=>by
 obtain⟨q,_,rfl⟩:=List.mem_map.1 he
 rw[List.mem_singleton.1 hc]
 exact aF_ _
theorem sD_(l:List (List Rat))(p:List Rat):cR (l++[p])=cR l++[[.arr (rE (rP p))]]:=by simp[cR]
theorem hv_{r:Ren}{hp hp':Nat→Option ABlk}(h:Shr r hp hp'):CvL r hp hp' zR4 (rC r0):=by
 rw[show rC r0=[i64 0,.arr [],i64 0,.arr []] from rC_r0]
 exact af_ (an_ h (ad_ _)) (af_ (Cv.emp _) (af_ (an_ h (ad_ _)) (af_ (Cv.emp _) ap_)))
def mnX(k:Nat):List RQ:=List.replicate k r0++[rq 1]
theorem mnX_v(k:Nat):vR (mnX k)=shP k [1]:=by unfold mnX;rw[gq_,hN_];rfl
theorem mnX_ok(k:Nat):okX (mnX k):=hc_ (is_ _) (fun z hz=>by rw[List.mem_singleton.1 hz];exact bg_ _)
theorem ms_(k:Nat)(hk:k≤1000000):FSpec Tryz.prog 163 [i64 k] (.arr (rE (mnX k))):=by
 have h1:FSpec Tryz.prog 112 [i64 1] (.agg (rC (rq 1))):=bT_ 1 (by decide)
 refine f_n Tryz.func163 ?_ ?_
 exact aa_ (ad_ _) ab_
 refine r_z 1 ?_
 refine ac_ (r_d hmix 6 ?_)
 refine a_1 ?_
 refine o_1 (.makeSlice (l:=k) (c:=k) rfl rfl te_66.h tz_42.h rfl tb_42.h (by first|omega|(simp;done)|(simp;omega)) (by first|omega|(simp;done)|(simp;omega)) (by unfold maxLen;first|omega|(simp;done)|(simp;omega))) ?_
 refine c_s (h1) ?_
 refine a_1 ?_
 refine o_2 (.append_l rfl rfl rfl te_66.h rfl rfl rfl rfl rfl d_o (no_ _) rfl rfl (.lsl rfl (nle rfl)) tz_42.h rfl tb_42.h d_o (by first|(simp[maxLen];done)|(simp[maxLen];omega))) ?_
 refine a_1 ?_
 refine ak_ (n_k ?_)
 exact ag_ (Fin.tmp rfl (Cv.shutZ (c:=1) au_ rfl (fun _ _ h=>by cases h) rfl rfl))
theorem o4_(a b:Rat):FSpec Tryz.prog 127 [.agg (rC (rq a)),.agg (rC (rq b))] (.arr (rE (rP [a,b]))):=by
 refine f_n Tryz.func127 ?_ ?_
 exact aa_ (a0_ _) (aa_ (a0_ _) ab_)
 refine r_z 3 ?_
 refine r_z 4 ?_
 exact ag_ (Fin.tmp rfl (Cv.shut au_ rfl (fun _ _ h=>by cases h) (by simp) (aO_ au_ (a3_ (rP [a,b])))))
theorem mq_(u v:Rat)(n:Nat)(hu:qs u≤256)(hv:qs v≤256)(hn:n≤8):FSpec Tryz.prog 192 [.arr (rE (rP [u,v])),i64 n] (.arr (rE (rP (powP [u,v] n)))):=by
 have h1:FSpec Tryz.prog 112 [i64 1] (.agg (rC (rq 1))):=bT_ 1 (by decide)
 have h2:=mv_ 1
 refine f_n Tryz.func192 ?_ ?_
 exact aa_ (aF_ _) (aa_ (ad_ _) ab_)
 refine r_z 1 ?_
 refine r_c 3 (h1) ?_
 refine c_s (h2) ?_
 refine a_z ?_
 refine ac_ (r_z 1 ?_)
 refine aD_ (fun _:Unit=>⟨[(5,.arr (rE (rP (powP [u,v] n))))],[],1,18⟩) (fun _=>True) ?_ ?_
 refine ah_ (aw_ (fun j:Nat=>⟨[(6,i64 ((j:Nat):Int)),(5,.arr (rE (rP (powP [u,v] j)))),(0,.arr (rE (rP [u,v]))),(1,i64 n)],[],1,18⟩) (fun j=>n- j) (fun j=>j≤n) 0 (Nat.zero_le _) ?_ ?_)
 exact s_e []
 rintro j hj
 by_cases hlt:j< n
 have hll:=dL_ u v (n:=j) (by omega)
 have hb:=lB_le (n:=j) (by omega)
 have hbj:=gy_ hu hv j
 have hm:=h1_ (rP (powP [u,v] j)) (rP [u,v]) (lB j) 256 500000 (ce_ _) (ce_ _) (by rw[vR_rP];exact hbj) (by rw[vR_rP];exact bd_uv hu hv) (fk_ j) (fun i hi=>by
  rw[vR_rP,vR_rP]
  have hi2:i≤2:=by simpa[rP] using hi
  have h5:=Nat.mul_le_mul hi2 (show lB j+256+1≤160257 by omega)
  exact cN_ (mR_bd hbj (bd_uv hu hv) (fk_ j) (by decide) i) (by omega)) (by omega) (by simp[rP];omega) (by simp[rP])
 rw[vR_rP,vR_rP] at hm
 refine ac_ (q_z 3 ?_)
 refine cT (ai_ (ac_ (ah_ (r_m 4 ?_))))
 refine c_s (hm) ?_
 refine a_z ?_
 refine r_m 3 ?_
 refine a_z ?_
 refine⟨j+1,by omega,hlt,?_⟩
 exact s_e []
 have hge:j=n:=by omega
 subst hge
 refine ac_ (q_z 3 ?_)
 refine cF (av_ ⟨(),trivial,?_⟩)
 exact s_e []
 rintro _ _
 refine r_z 2 ?_
 exact ag_ (t_e (aF_ _))
theorem eW_(n:Nat)(hn:n≤73):FSpec Tryz.prog 195 [i64 n] (.agg (rC (rq (((fcN n:Nat):Int):Rat)))):=by
 have h1:FSpec Tryz.prog 112 [i64 1] (.agg (rC (rq 1))):=bT_ 1 (by decide)
 refine f_n Tryz.func195 ?_ ?_
 exact aa_ (ad_ _) ab_
 refine r_z 1 ?_
 refine r_c 3 (h1) ?_
 refine a_z ?_
 refine ac_ (r_z 1 ?_)
 refine aD_ (fun _:Unit=>⟨[(2,.lptr 1 0 0),(3,.lptr 2 0 0)],[(1,some ⟨42,4,[zR4]⟩),(2,some ⟨42,4,[rC (rq (((fcN n:Nat):Int):Rat))]⟩)],3,16⟩) (fun _=>True) ?_ ?_
 refine ah_ (aw_ (fun j:Nat=>⟨[(4,i64 ((j+2:Nat):Int)),(0,i64 n),(2,.lptr 1 0 0),(3,.lptr 2 0 0)],[(1,some ⟨42,4,[zR4]⟩),(2,some ⟨42,4,[rC (rq (((fcN (j+1):Nat):Int):Rat))]⟩)],3,16⟩) (fun j=>n- j) (fun j=>j+1≤n∨j=0) 0 (.inr rfl) ?_ ?_)
 exact s_e [(1,2),(2,3)]
 rintro j hj
 by_cases hlt:j+2≤n
 have hi:=bT_ ((j+2:Nat):Int) (by omega)
 have hm:=eV_ (rq (((fcN (j+1):Nat):Int):Rat)) (rq (((j+2:Nat):Int):Rat)) (bg_ _) (bg_ _) (by
  have q1:=gS_ (n:=j+1) (by omega)
  have q2:=qi21 (n:=((j+2:Nat):Int)) (by omega)
  show qs (((fcN (j+1):Nat):Int):Rat)+qs (((j+2:Nat):Int):Rat)≤_
  omega)
 have e:(rq (((fcN (j+1):Nat):Int):Rat)).1* (rq (((j+2:Nat):Int):Rat)).1=(((fcN (j+1+1):Nat):Int):Rat):=fcR (j+1)
 rw[e] at hm
 refine ac_ (q_z 3 ?_)
 refine cT (ai_ (ac_ (ah_ (r_d hmix 5 ?_))))
 refine c_s (hi) ?_
 refine c_s (hm) ?_
 refine a_1 ?_
 refine ak_ (n_k ?_)
 refine r_m 3 ?_
 refine a_z ?_
 refine⟨j+1,by omega,.inl (by omega),?_⟩
 exact s_e [(1,2),(2,3)]
 have hge:fcN n=fcN (j+1):=by
  rcases hj with hj|hj
  rw[show n=j+1 by omega]
  subst hj
  have:n=0∨n=1:=by omega
  rcases this with e|e <;> rw[e]<;> rfl
 refine ac_ (q_z 3 ?_)
 refine cF (av_ ⟨(),trivial,?_⟩)
 rw[hge]
 exact s_e [(1,2),(2,3)]
 rintro _ _
 refine r_z 2 ?_
 exact ag_ (c_e (a0_ _))
theorem fs_rOver(X:List RQ)(a b:Rat)(s:Nat)(hx:okX X)(hs:bdL (vR X) s)(hs1:1≤s)(hl:X.length≤200)(ha:qs a≤256)(hb:qs b≤256)(hlim:s≤100000000):
    FSpec Tryz.prog 193 [.arr (rE X),.agg (rC (rq a)++rC (rq b))] (.agg (rC (rq (evalP (aL_ (vR X)) b- evalP (aL_ (vR X)) a)))):=by
 have hin:=mu_ X s hx hs (by omega) (by omega)
 have hvl:=ba_ X
 have il:=dO_ (vR X)
 have ib:=iM_ hs hs1 (by omega)
 generalize aL_ (vR X)=I at *
 have hil:(rP I).length=I.length:=by simp[rP]
 have h1:=Nat.mul_le_mul (show(rP I).length+2≤203 by omega) (show s+21+256+1≤100000278 by omega)
 have e1:=k6_ (rP I) (rq b) (s+21) 256 (ce_ _) (bg_ _) (by rw[vR_rP];exact ib) (by omega) hb (by omega) (by omega)
 have e2:=k6_ (rP I) (rq a) (s+21) 256 (ce_ _) (bg_ _) (by rw[vR_rP];exact ib) (by omega) ha (by omega) (by omega)
 rw[vR_rP] at e1 e2
 have h2:=Nat.mul_le_mul (show I.length≤201 by omega) (show s+21+256+1≤100000278 by omega)
 have b1:=es_ hb ib
 have b2:=es_ ha ib
 have hsu:=fs_rSub (rq (evalP I b)) (rq (evalP I a)) (bg_ _) (bg_ _) (by show qs (evalP I b)+qs (evalP I a)≤_;omega)
 refine f_n Tryz.func193 ?_ ?_
 exact aa_ (aF_ X) (aa_ (ao_ fun c hc=>(List.mem_append.1 hc).elim (bs_ _ c) (bs_ _ c)) ab_)
 refine r_z 2 ?_
 refine r_c 3 (hin) ?_
 refine a_z ?_
 refine ac_ (r_d hmix 10 ?_)
 refine c_s (e1) ?_
 refine c_s (e2) ?_
 refine c_s (hsu) ?_
 refine a_1 ?_
 refine ak_ (n_k ?_)
 exact ag_ (c_e (a0_ _))
def rwC(m:List Rat)(l r:Bool)(lo hi:RQ):List AV:=[.arr (rE (rP m)),bln l,bln r]++rC lo++rC hi
theorem bb_{m:List Rat}{l r:Bool}{lo hi:RQ}:∀c∈rwC m l r lo hi,Closed c:=fun c hc=>by
 unfold rwC at hc
 rcases List.mem_append.1 hc with hc|hc
 rcases List.mem_append.1 hc with hc|hc
 exact aa_ (aF_ _) (aa_ (ad_ _) (aa_ (ad_ _) ab_)) c hc
 exact bs_ _ c hc
 exact bs_ _ c hc
def rwX(x:AV)(l r:Bool)(lo hi:List AV):List AV:=[x,bln l,bln r]++lo++hi
def rw0:List AV:=rwX .emp false false zR4 zR4
theorem aC_:∀c∈rw0,Closed c:=fun c hc=>by
 unfold rw0 rwX at hc
 rcases List.mem_append.1 hc with hc|hc
 rcases List.mem_append.1 hc with hc|hc
 exact aa_ bQ_ (aa_ (ad_ _) (aa_ (ad_ _) ab_)) c hc
 exact bL_ c hc
 exact bL_ c hc
theorem bj_{l r:Bool}{lo hi:List AV}(h1:∀c∈lo,Closed c)(h2:∀c∈hi,Closed c):∀c∈rwX .emp l r lo hi,Closed c:=fun c hc=>by
 unfold rwX at hc
 rcases List.mem_append.1 hc with hc|hc
 rcases List.mem_append.1 hc with hc|hc
 exact aa_ bQ_ (aa_ (ad_ _) (aa_ (ad_ _) ab_)) c hc
 exact h1 c hc
 exact h2 c hc
theorem bV_{r:Ren}{hp hp':Nat→Option ABlk}{x x':AV}{l b:Bool}{lo hi lo' hi':List AV}(h:Shr r hp hp')(hx:Cv r hp hp' x x')(h1:CvL r hp hp' lo lo')(h2:CvL r hp hp' hi hi'):CvL r hp hp' (rwX x l b lo hi) (rwX x' l b lo' hi'):=
 cD_ (cD_ (af_ hx (af_ (an_ h (ad_ _)) (af_ (an_ h (ad_ _)) ap_))) h1) h2
theorem jn_{r:Ren}{hp hp':Nat→Option ABlk}{id n:Nat}{cap:Option Nat}{B:ABlk}{L:List RQ}(h:Shr r hp hp')(hi:cellF hp id=some B)(hi':Dead r hp' id)(he:B.es=rE L)(hn:n=L.length):Cv r hp hp' (.lsl id 0 n cap 4) (.arr (rE L)):=
 Cv.shut h hi hi' (by rw[he,hn];simp) (aH_ h (by rw[he,List.drop_zero];exact List.take_of_length_le (by simp[hn])) (a3_ _))
def rjS(n:Nat)(f:Nat→Rat)(fr:Fr)(l r:Bool)(lo hi:List AV)(t tw tr:Nat):Nat→AState
 |0=>⟨[(t,i64 ((0:Nat):Int)),(tr,.lptr 1 0 0),(tw,.lptr 2 0 0)]++fr,[(1,some ⟨77,11,[rw0]⟩),(2,some ⟨77,11,[rwX .emp l r lo hi]⟩)],3,n⟩
 |k+1=>⟨[(t,i64 ((k+1:Nat):Int)),(tr,.lptr 1 0 0),(tw,.lptr 2 0 0)]++fr,[(1,some ⟨77,11,[rw0]⟩),(2,some ⟨77,11,[rwX (.lsl 3 0 (k+1) none 4) l r lo hi]⟩),(3,some ⟨42,4,rE (rP (sqL f (k+1)))⟩)],4,n⟩
theorem rjS_0(n:Nat)(f:Nat→Rat)(fr:Fr)(l r:Bool)(lo hi:List AV)(t tw tr:Nat):rjS n f fr l r lo hi t tw tr 0=⟨[(t,i64 ((0:Nat):Int)),(tr,.lptr 1 0 0),(tw,.lptr 2 0 0)]++fr,[(1,some ⟨77,11,[rw0]⟩),(2,some ⟨77,11,[rwX .emp l r lo hi]⟩)],3,n⟩:=rfl
theorem rjS_s(n:Nat)(f:Nat→Rat)(fr:Fr)(l r:Bool)(lo hi:List AV)(t tw tr k:Nat):rjS n f fr l r lo hi t tw tr (k+1)=⟨[(t,i64 ((k+1:Nat):Int)),(tr,.lptr 1 0 0),(tw,.lptr 2 0 0)]++fr,[(1,some ⟨77,11,[rw0]⟩),(2,some ⟨77,11,[rwX (.lsl 3 0 (k+1) none 4) l r lo hi]⟩),(3,some ⟨42,4,rE (rP (sqL f (k+1)))⟩)],4,n⟩:=rfl
theorem nx_(l:List Rat)(q:Rat):rE (rP (l++[q]))=rE (rP l)++[rC (rq q)]:=by simp[rE,rP]
theorem mt_(p n:Nat)(hp:p≤8)(hn:n≤63):FSpec Tryz.prog 107 [i64 p,i64 n] (.agg (rwC (sqL (lgQ p) (n+1)) true false r0 r0)):=by
 have e:∀k,rE (rP (sqL (lgQ p) k))++[rC (rq (lgQ p k))]=rE (rP (sqL (lgQ p) (k+1))):=fun k=>by rw[eP_,nx_]
 have hfc:∀k,k≤n→FSpec Tryz.prog 195 [i64 (((k:Nat):Int)+(p:Int))] (.agg (rC (rq (lgQ p k)))):=fun k hk=>by
  have:=eW_ (p+k) (by omega)
  rw[show((p+k:Nat):Int)=((k:Nat):Int)+(p:Int) by omega] at this
  exact this
 generalize lgQ p=f at *
 refine f_n Tryz.func107 ?_ ?_
 exact aa_ (ad_ _) (aa_ (ad_ _) ab_)
 refine r_z 1 ?_
 refine r_z 3 ?_
 refine ac_ (r_z 1 ?_)
 refine aD_ (fun _:Unit=>⟨[(4,.lptr 1 0 0),(5,.lptr 2 0 0)],[(1,some ⟨77,11,[rw0]⟩),(2,some ⟨77,11,[rwC (sqL f (n+1)) true false r0 r0]⟩)],3,23⟩) (fun _=>True) ?_ ?_
 refine ah_ (aw_ (rjS 23 f [(0,i64 p),(1,i64 n)] true false zR4 zR4 6 5 4) (fun k=>n+1- k) (fun k=>k≤n+1) 0 (Nat.zero_le _) ?_ ?_)
 rw[rjS_0]
 refine at_ [(1,4),(2,5)] rfl rfl rfl au_r (fun hs=>au_f) (fun hs=>?_)
 ·repeat' (first|exact aq_|refine al_ rfl rfl rfl rfl ?_ ?_)
  all_goals (first|((try exact ae_ (CvL.clo hs aC_));(try exact ae_ (CvL.clo hs (bj_ bL_ bL_))))|exact au_e)
 rintro k hk
 by_cases hlt:k≤n
 have hf:=hfc k hlt
 have e:=e k
 cases k with
 |zero=>
  rw[rjS_0]
  refine ac_ (q_z 3 ?_)
  refine cT (ai_ (ac_ (ah_ (r_d hmix 10 ?_))))
  refine c_s (hf) ?_
  refine a_4 ?_
  refine ak_ (n_k ?_)
  refine r_m 3 ?_
  refine a_z ?_
  refine⟨0+1,by omega,by omega,?_⟩
  rw[rjS_s]
  refine at_ [(1,4),(2,5),(3,20)] rfl rfl rfl au_r (fun hs=>au_f) (fun hs=>?_)
  ·repeat' (first|exact aq_|refine al_ rfl rfl rfl rfl ?_ ?_)
   all_goals (first|((try exact ae_ (CvL.clo hs aC_));(try exact ae_ (bV_ hs (Cv.sl rfl rfl rfl) (CvL.clo hs bL_) (CvL.clo hs bL_)));(try exact aO_ hs (a3_ (rP [f 0]))))|exact au_e)
 |succ k=>
  rw[rjS_s]
  refine ac_ (q_z 3 ?_)
  refine cT (ai_ (ac_ (ah_ (r_d hmix 10 ?_))))
  refine c_s (hf) ?_
  refine a_4 ?_
  refine ak_ (n_k ?_)
  refine r_m 3 ?_
  refine a_z ?_
  refine⟨k+1+1,by omega,by omega,?_⟩
  rw[rjS_s]
  refine at_ [(1,4),(2,5),(3,20)] rfl rfl rfl ?_ (fun hs=>au_f) (fun hs=>?_)
  ·repeat' (first|exact ShrL.nil|refine ShrL.cons rfl rfl rfl rfl (by first|(simp)|rfl|(simp;done)|(simp <;> omega)) ?_)
  ·repeat' (first|exact aq_|refine al_ rfl rfl rfl rfl ?_ ?_)
   all_goals (first|((try exact ae_ (CvL.clo hs aC_));(try exact ae_ (bV_ hs (Cv.sl rfl rfl rfl) (CvL.clo hs bL_) (CvL.clo hs bL_)));(try exact aH_ hs e (a3_ _)))|exact au_e)
 have hge:k=n+1:=by omega
 subst hge
 rw[rjS_s]
 refine ac_ (q_z 3 ?_)
 refine cF (av_ ⟨(),trivial,?_⟩)
 refine at_ [(1,4),(2,5)] rfl rfl rfl au_r (fun hs=>au_f) (fun hs=>?_)
 ·repeat' (first|exact aq_|refine al_ rfl rfl rfl rfl ?_ ?_)
  all_goals (first|((try exact ae_ (CvL.clo hs aC_));(try exact ae_ (bV_ hs (jn_ (L:=rP (sqL f (n+1))) hs rfl (aQ_ rfl) rfl (by simp[rP])) (hv_ hs) (hv_ hs))))|exact au_e)
 rintro _ _
 refine r_z 2 ?_
 exact ag_ (c_e (ao_ bb_))
theorem cF_{r:Ren}{hp hp':Nat→Option ABlk}(h:Shr r hp hp')(x:RQ):CvL r hp hp' (rC x) (rC x):=CvL.clo h (bs_ x)
theorem p2_(a b:Rat)(p q n:Nat)(hp:p≤8)(hq:q≤8)(hn:n≤63)(ha:qs a≤256)(hb:qs b≤256):
    FSpec Tryz.prog 105 [.agg (rC (rq a)++rC (rq b)),i64 p,i64 q,i64 n] (.agg (rwC (sqL (moQ (jcF a b p q) (a,b)) (n+1)) true true (rq a) (rq b))):=by
 have hcS:∀c∈rC (rq a)++rC (rq b),Closed c:=fun c hc=>(List.mem_append.1 hc).elim (bs_ _ c) (bs_ _ c)
 have i1:FSpec Tryz.prog 112 [i64 1] (.agg (rC (rq 1))):=bT_ 1 (by decide)
 have i2:FSpec Tryz.prog 112 [i64 (-1)] (.agg (rC (rq (-1)))):=bT_ (-1) (by decide)
 have ng:=nN_ (rq a) (bg_ a)
 have n1:=o4_ (-a) 1
 have n2:=o4_ b (-1)
 have t1:=mq_ (-a) 1 p (by rw[dK_];exact ha) (by decide) hp
 have t2:=mq_ b (-1) q hb (by decide) hq
 have l1:=dL_ (-a) 1 hp
 have l2:=dL_ b (-1) hq
 have m1:=lB_le hp
 have m2:=lB_le hq
 have hmu:=h1_ (rP (powP [-a,1] p)) (rP (powP [b,-1] q)) (lB p) (lB q) 6000000 (ce_ _) (ce_ _) (by rw[vR_rP];exact jc_p ha) (by rw[vR_rP];exact jc_q hb) (fk_ p) (fun i hi=>by
  rw[vR_rP,vR_rP]
  have hi2:i≤17:=by
   have:(rP (powP [b,-1] q)).length=(powP [b,-1] q).length:=by simp[rP]
   omega
  have h5:=Nat.mul_le_mul hi2 (show lB p+lB q+1≤320001 by omega)
  exact cN_ (mR_bd (jc_p ha) (jc_q hb) (fk_ p) (fk_ q) i) (by omega)) (by omega) (by simp[rP];omega) (by simp[rP];omega)
 rw[vR_rP,vR_rP,show mulP (powP [-a,1] p) (powP [b,-1] q)=jcF a b p q from rfl] at hmu
 obtain⟨f1,f2⟩:=rq_ ha hb hp hq
 have hov:∀k,k≤n→FSpec Tryz.prog 130 [.arr (rE (rP (jcF a b p q))),.arr (rE (mnX k))] (.arr (rE (rP (mulP (jcF a b p q) (shP k [1])))))∧
     FSpec Tryz.prog 193 [.arr (rE (rP (mulP (jcF a b p q) (shP k [1])))),.agg (rC (rq a)++rC (rq b))] (.agg (rC (rq (moQ (jcF a b p q) (a,b) k)))):=fun k hk=>by
  have b1:bdL (shP k [1]) 1:=sP_ (by decide) (by decide) k
  have hM:=h1_ (rP (jcF a b p q)) (mnX k) 5500000 1 6000000 (ce_ _) (mnX_ok k) (by rw[vR_rP];exact f1) (by rw[mnX_v];exact b1) (by decide) (fun i hi=>by
   rw[vR_rP,mnX_v]
   have hi2:i≤k+1:=by simpa[mnX] using hi
   exact cN_ (fL_ f1 (by decide) i hi2) (by have:qs 1=1:=by decide
                                            omega)) (by omega) (by simp[rP];omega) (by simp[mnX];omega)
  rw[vR_rP,mnX_v] at hM
  have hml:=nD_ (jcF a b p q) (shP k [1])
  rw[di_] at hml
  have e1:([1]:List Rat).length=1:=rfl
  have hmb:bdL (mulP (jcF a b p q) (shP k [1])) 6000000:=by
   have:=fL_ (a:=1) (d:=k) f1 (by decide) (k+1) (Nat.le_refl _)
   have e:(shP k [(1:Rat)]).length=k+1:=by rw[di_];rfl
   rw[←e,jO_] at this
   exact cN_ this (by have:qs 1=1:=by decide
                      omega)
  have hO:=fs_rOver (rP (mulP (jcF a b p q) (shP k [1]))) a b 6000000 (ce_ _) (by rw[vR_rP];exact hmb) (by decide) (by simp[rP];omega) ha hb (by decide)
  rw[vR_rP,mo_mono] at hO
  exact⟨hM,hO⟩
 have e:∀k,rE (rP (sqL (moQ (jcF a b p q) (a,b)) k))++[rC (rq (moQ (jcF a b p q) (a,b) k))]=rE (rP (sqL (moQ (jcF a b p q) (a,b)) (k+1))):=fun k=>by rw[eP_,nx_]
 generalize moQ (jcF a b p q) (a,b)=f at *
 generalize jcF a b p q=F at *
 refine f_n Tryz.func105 ?_ ?_
 exact aa_ (ao_ hcS) (aa_ (ad_ _) (aa_ (ad_ _) (aa_ (ad_ _) ab_)))
 refine r_z 2 ?_
 refine ac_ (r_d hmix 15 ?_)
 refine c_s (ng) ?_
 refine c_s (i1) ?_
 refine c_s (n1) ?_
 refine c_s (t1) ?_
 refine c_s (i2) ?_
 refine c_s (n2) ?_
 refine c_s (t2) ?_
 refine c_s (hmu) ?_
 refine a_1 ?_
 refine ak_ (n_k ?_)
 refine r_z 7 ?_
 refine ac_ (r_z 1 ?_)
 refine aD_ (fun _:Unit=>⟨[(8,.lptr 1 0 0),(10,.lptr 2 0 0)],[(1,some ⟨77,11,[rw0]⟩),(2,some ⟨77,11,[rwC (sqL f (n+1)) true true (rq a) (rq b)]⟩)],3,48⟩) (fun _=>True) ?_ ?_
 refine ah_ (aw_ (rjS 48 f [(3,i64 n),(4,.aptr [rC (rq a)++rC (rq b)] 0 0),(9,.arr (rE (rP F)))] true true (rC (rq a)) (rC (rq b)) 11 10 8) (fun k=>n+1- k) (fun k=>k≤n+1) 0 (Nat.zero_le _) ?_ ?_)
 rw[rjS_0]
 refine at_ [(1,8),(2,10)] rfl rfl rfl au_r (fun hs=>?_) (fun hs=>?_)
 ·repeat' (first|exact aK_|refine aE_ rfl ?_ ?_)
  all_goals (first|(exact Cv.boxp hs rfl (aQ_ rfl) rfl hcS)|exact au_c)
 ·repeat' (first|exact aq_|refine al_ rfl rfl rfl rfl ?_ ?_)
  all_goals (first|((try exact ae_ (CvL.clo hs aC_));(try exact ae_ (CvL.clo hs (bj_ (bs_ _) (bs_ _)))))|exact au_e|(refine ae_ ?_;repeat' (first|exact ap_|refine af_ ?_ ?_)))
  all_goals (first|(exact Cv.boxp hs rfl (aQ_ rfl) rfl hcS)|exact au_c)
 rintro k hk
 by_cases hlt:k≤n
 obtain⟨hM,hO⟩:=hov k hlt
 have hmn:=ms_ k (by omega)
 have e:=e k
 cases k with
 |zero=>
  rw[rjS_0]
  refine ac_ (q_z 3 ?_)
  refine cT (ai_ (ac_ (ah_ (r_d hmix 12 ?_))))
  refine c_s (hmn) ?_
  refine c_s (hM) ?_
  refine c_s (hO) ?_
  refine a_4 ?_
  refine ak_ (n_k ?_)
  refine r_m 3 ?_
  refine a_z ?_
  refine⟨0+1,by omega,by omega,?_⟩
  rw[rjS_s]
  refine at_ [(1,8),(2,10),(3,45)] rfl rfl rfl au_r (fun hs=>?_) (fun hs=>?_)
  ·repeat' (first|exact aK_|refine aE_ rfl ?_ ?_)
   all_goals (first|(exact an_ hs (am_ hcS))|exact au_c)
  ·repeat' (first|exact aq_|refine al_ rfl rfl rfl rfl ?_ ?_)
   all_goals (first|((try exact ae_ (CvL.clo hs aC_));(try exact ae_ (bV_ hs (Cv.sl rfl rfl rfl) (cF_ hs _) (cF_ hs _)));(try exact aO_ hs (a3_ (rP [f 0]))))|exact au_e|(refine ae_ ?_;repeat' (first|exact ap_|refine af_ ?_ ?_)))
   all_goals (first|(exact an_ hs (am_ hcS))|exact au_c)
 |succ k=>
  rw[rjS_s]
  refine ac_ (q_z 3 ?_)
  refine cT (ai_ (ac_ (ah_ (r_d hmix 12 ?_))))
  refine c_s (hmn) ?_
  refine c_s (hM) ?_
  refine c_s (hO) ?_
  refine a_4 ?_
  refine ak_ (n_k ?_)
  refine r_m 3 ?_
  refine a_z ?_
  refine⟨k+1+1,by omega,by omega,?_⟩
  rw[rjS_s]
  refine at_ [(1,8),(2,10),(3,45)] rfl rfl rfl ?_ (fun hs=>?_) (fun hs=>?_)
  ·repeat' (first|exact ShrL.nil|refine ShrL.cons rfl rfl rfl rfl (by first|(simp)|rfl|(simp;done)|(simp <;> omega)) ?_)
  ·repeat' (first|exact aK_|refine aE_ rfl ?_ ?_)
   all_goals (first|(exact an_ hs (am_ hcS))|exact au_c)
  ·repeat' (first|exact aq_|refine al_ rfl rfl rfl rfl ?_ ?_)
   all_goals (first|((try exact ae_ (CvL.clo hs aC_));(try exact ae_ (bV_ hs (Cv.sl rfl rfl rfl) (cF_ hs _) (cF_ hs _)));(try exact aH_ hs e (a3_ _)))|exact au_e|(refine ae_ ?_;repeat' (first|exact ap_|refine af_ ?_ ?_)))
   all_goals (first|(exact an_ hs (am_ hcS))|exact au_c)
 have hge:k=n+1:=by omega
 subst hge
 rw[rjS_s]
 refine ac_ (q_z 3 ?_)
 refine cF (av_ ⟨(),trivial,?_⟩)
 refine at_ [(1,8),(2,10)] rfl rfl rfl au_r (fun hs=>au_f) (fun hs=>?_)
 ·repeat' (first|exact aq_|refine al_ rfl rfl rfl rfl ?_ ?_)
  all_goals (first|((try exact ae_ (CvL.clo hs aC_));(try exact ae_ (bV_ hs (jn_ (L:=rP (sqL f (n+1))) hs rfl (aQ_ rfl) rfl (by simp[rP])) (cF_ hs _) (cF_ hs _))))|exact au_e)
 rintro _ _
 refine r_z 2 ?_
 exact ag_ (c_e (ao_ bb_))
def evLo(c:Nat):RQ×RQ:=if c=1 then(r0,r0) else(rq (-1),rq 1)
def evP(c:Nat)(z:Bool×List AV×List AV):Prop:=z.1=decide (1< c)∧(∃u0 u1 u2 u3,z.2.1=[u0,u1,u2,u3])∧(∃u0 u1 u2 u3,z.2.2=[u0,u1,u2,u3])∧(∀x∈z.2.1,Closed x)∧(∀x∈z.2.2,Closed x)∧
 ∀r hp hp',Shr r hp hp'→CvL r hp hp' z.2.1 (rC (evLo c).1)∧CvL r hp hp' z.2.2 (rC (evLo c).2)
def evA(c k:Nat):Rat:=if c=1 then oddM k (k/ 2) else(((fcN k:Nat):Int):Rat) / (((fcN (k/ 2):Nat):Int) * ((fcN (k/ 2):Nat):Int):Rat)
theorem evD_A(c k:Nat)(hk:k % 2=0):evD c k=if c=1 then halfM (evA c k) (k/ 2) else if c=3 then halfM (halfM (evA c k) (k/ 2)) (k/ 2) / (((k/ 2+1:Nat):Int):Rat) else halfM (halfM (evA c k) (k/ 2)) (k/ 2):=by
 unfold evD evA
 rw[if_pos hk]
 by_cases h:c=1
 rw[if_pos h,if_pos h,if_pos h]
 rw[if_neg h,if_neg h,if_neg h]
theorem nA_(k:Nat):∀j,j≤100→qs (oddM k j)≤j* 21+1
 |0,_=>by rw[Nat.zero_mul];show qs 1≤0+1;decide
 |j+1,h=>by
  have h1:=nA_ k j (by omega)
  have h2:=b3_ (oddM k j) (((2* j+1:Nat):Int):Rat)
  have h3:=qi21 (n:=((2* j+1:Nat):Int)) (by omega)
  rw[oddM];omega
theorem kX_(m:Rat):∀j,qs (halfM m j)≤qs m+j* 2
 |0=>Nat.le_refl _
 |j+1=>by
  have h1:=kX_ m j
  have h2:=b3_ (halfM m j) (1/ 2)
  have h3:qs ((1:Rat) / 2)=2:=by decide+kernel
  rw[halfM];omega
theorem evA_qs(c k:Nat)(hk:k≤63):qs (evA c k)≤2000:=by
 unfold evA
 split
 have:=nA_ k (k/ 2) (by omega)
 omega
 have h1:=c8_ (((fcN k:Nat):Int):Rat) (((fcN (k/ 2):Nat):Int) * ((fcN (k/ 2):Nat):Int):Rat)
 have h2:=b3_ (((fcN (k/ 2):Nat):Int):Rat) (((fcN (k/ 2):Nat):Int):Rat)
 have h3:=gS_ (n:=k) (by omega)
 have h4:=gS_ (n:=k/ 2) (by omega)
 omega
theorem sa_:∀n,0< fcN n
 |0=>by decide
 |n+1=>Nat.mul_pos (sa_ n) (Nat.succ_pos n)
theorem fcN_ne(n:Nat):(((fcN n:Nat):Int):Rat)≠0:=oN_ (by have:=sa_ n;omega)
theorem rOf12:Rat.divInt 1 2=(1:Rat) / 2:=by decide+kernel
def evMS(f:Nat→Rat)(c n:Nat)(zb:Bool)(zl zh:List AV)(K:Nat):Nat→Fr→Rat→AState
 |0=>fun fx m=>⟨fx++[(6,i64 K),(7,.lptr 4 0 0),(4,.lptr 1 0 0),(5,.lptr 2 0 0),(0,i64 c),(1,i64 n)],[(1,some ⟨77,11,[rw0]⟩),(2,some ⟨77,11,[rwX .emp zb zb zl zh]⟩),(4,some ⟨42,4,[rC (rq m)]⟩)],5,86⟩
 |k+1=>fun fx m=>⟨fx++[(6,i64 K),(7,.lptr 4 0 0),(4,.lptr 1 0 0),(5,.lptr 2 0 0),(0,i64 c),(1,i64 n)],[(1,some ⟨77,11,[rw0]⟩),(2,some ⟨77,11,[rwX (.lsl 3 0 (k+1) none 4) zb zb zl zh]⟩),(3,some ⟨42,4,rE (rP (sqL f (k+1)))⟩),(4,some ⟨42,4,[rC (rq m)]⟩)],5,86⟩
theorem cP_(f:Nat→Rat)(c n:Nat)(zb:Bool)(zl zh:List AV)(K:Nat)(fx:Fr)(m:Rat):evMS f c n zb zl zh K 0 fx m=⟨fx++[(6,i64 K),(7,.lptr 4 0 0),(4,.lptr 1 0 0),(5,.lptr 2 0 0),(0,i64 c),(1,i64 n)],[(1,some ⟨77,11,[rw0]⟩),(2,some ⟨77,11,[rwX .emp zb zb zl zh]⟩),(4,some ⟨42,4,[rC (rq m)]⟩)],5,86⟩:=rfl
theorem cO_(f:Nat→Rat)(c n:Nat)(zb:Bool)(zl zh:List AV)(K k:Nat)(fx:Fr)(m:Rat):evMS f c n zb zl zh K (k+1) fx m=⟨fx++[(6,i64 K),(7,.lptr 4 0 0),(4,.lptr 1 0 0),(5,.lptr 2 0 0),(0,i64 c),(1,i64 n)],[(1,some ⟨77,11,[rw0]⟩),(2,some ⟨77,11,[rwX (.lsl 3 0 (k+1) none 4) zb zb zl zh]⟩),(3,some ⟨42,4,rE (rP (sqL f (k+1)))⟩),(4,some ⟨42,4,[rC (rq m)]⟩)],5,86⟩:=rfl
def evHS(f:Nat→Rat)(c n:Nat)(zb:Bool)(zl zh:List AV)(K:Nat):Nat→AState
 |0=>⟨[(6,i64 K),(4,.lptr 1 0 0),(5,.lptr 2 0 0),(0,i64 c),(1,i64 n)],[(1,some ⟨77,11,[rw0]⟩),(2,some ⟨77,11,[rwX .emp zb zb zl zh]⟩)],4,86⟩
 |k+1=>⟨[(6,i64 K),(4,.lptr 1 0 0),(5,.lptr 2 0 0),(0,i64 c),(1,i64 n)],[(1,some ⟨77,11,[rw0]⟩),(2,some ⟨77,11,[rwX (.lsl 3 0 (k+1) none 4) zb zb zl zh]⟩),(3,some ⟨42,4,rE (rP (sqL f (k+1)))⟩)],4,86⟩
theorem evHS_0(f:Nat→Rat)(c n:Nat)(zb:Bool)(zl zh:List AV)(K:Nat):evHS f c n zb zl zh K 0=⟨[(6,i64 K),(4,.lptr 1 0 0),(5,.lptr 2 0 0),(0,i64 c),(1,i64 n)],[(1,some ⟨77,11,[rw0]⟩),(2,some ⟨77,11,[rwX .emp zb zb zl zh]⟩)],4,86⟩:=rfl
theorem se_(f:Nat→Rat)(c n:Nat)(zb:Bool)(zl zh:List AV)(K k:Nat):evHS f c n zb zl zh K (k+1)=⟨[(6,i64 K),(4,.lptr 1 0 0),(5,.lptr 2 0 0),(0,i64 c),(1,i64 n)],[(1,some ⟨77,11,[rw0]⟩),(2,some ⟨77,11,[rwX (.lsl 3 0 (k+1) none 4) zb zb zl zh]⟩),(3,some ⟨42,4,rE (rP (sqL f (k+1)))⟩)],4,86⟩:=rfl
theorem fs_rEven(c n:Nat)(hc:1≤c∧c≤3)(hn:n≤63):FSpec Tryz.prog 111 [i64 c,i64 n] (.agg (rwC (sqL (evD c) (n+1)) (decide (1< c)) (decide (1< c)) (evLo c).1 (evLo c).2)):=by
 have i0:FSpec Tryz.prog 112 [i64 0] (.agg (rC (rq 0))):=bT_ 0 (by decide)
 have i1:FSpec Tryz.prog 112 [i64 1] (.agg (rC (rq 1))):=bT_ 1 (by decide)
 have im:FSpec Tryz.prog 112 [i64 (-1)] (.agg (rC (rq (-1)))):=bT_ (-1) (by decide)
 have ih:=fs_rOf 1 2 (by decide) (by decide) (by decide)
 rw[rOf12] at ih
 have e:∀k,rE (rP (sqL (evD c) k))++[rC (rq (evD c k))]=rE (rP (sqL (evD c) (k+1))):=fun k=>by rw[eP_,nx_]
 refine f_n Tryz.func111 ?_ ?_
 exact aa_ (ad_ _) (aa_ (ad_ _) ab_)
 refine r_z 1 ?_
 refine r_z 1 ?_
 refine a2_ (fun z:Bool×List AV×List AV=>⟨[(0,i64 c),(1,i64 n),(4,.lptr 1 0 0),(5,.lptr 2 0 0)],[(1,some ⟨77,11,[rw0]⟩),(2,some ⟨77,11,[rwX .emp z.1 z.1 z.2.1 z.2.2]⟩)],3,86⟩) (evP c) ?_ ?_
 by_cases h1:1< c
 refine q_z 2 ?_
 refine cT (r_m 4 ?_)
 refine c_s (im) ?_
 refine c_s (i1) ?_
 refine a_z ?_
 refine⟨(true,rC (rq (-1)),rC (rq 1)),⟨(decide_eq_true h1).symm,⟨_,_,_,_,rfl⟩,⟨_,_,_,_,rfl⟩,bs_ _,bs_ _,fun r hp hp' hs=>by
  unfold evLo
  rw[if_neg (by omega)]
  exact⟨cF_ hs _,cF_ hs _⟩⟩,?_⟩
 refine at_ [(1,4),(2,5)] rfl rfl rfl au_r (fun hs=>au_f) (fun hs=>?_)
 ·repeat' (first|exact aq_|refine al_ rfl rfl rfl rfl ?_ ?_)
  all_goals (first|((try exact ae_ (CvL.clo hs aC_));(try exact ae_ (CvL.clo hs (bj_ (bs_ _) (bs_ _)))))|exact au_e)
 refine q_z 2 ?_
 refine cF ?_
 refine ai_ ⟨(false,zR4,zR4),⟨(decide_eq_false h1).symm,⟨_,_,_,_,rfl⟩,⟨_,_,_,_,rfl⟩,bL_,bL_,fun r hp hp' hs=>by
  unfold evLo
  rw[if_pos (by omega)]
  exact⟨hv_ hs,hv_ hs⟩⟩,?_⟩
 refine at_ [(1,4),(2,5)] rfl rfl rfl au_r (fun hs=>au_f) (fun hs=>?_)
 ·repeat' (first|exact aq_|refine al_ rfl rfl rfl rfl ?_ ?_)
  all_goals (first|((try exact ae_ (CvL.clo hs aC_));(try exact ae_ (CvL.clo hs (bj_ bL_ bL_))))|exact au_e)
 rintro⟨zb,zl,zh⟩ ⟨ez,⟨u0,u1,u2,u3,e1⟩,⟨v0,v1,v2,v3,e2⟩,c1,c2,hcv⟩
 simp only at ez e1 e2 c1 c2 hcv⊢
 subst e1;subst e2
 rw[←ez]
 refine ac_ (r_z 1 ?_)
 refine aD_ (fun _:Unit=>⟨[(4,.lptr 1 0 0),(5,.lptr 2 0 0)],[(1,some ⟨77,11,[rw0]⟩),(2,some ⟨77,11,[rwC (sqL (evD c) (n+1)) zb zb (evLo c).1 (evLo c).2]⟩)],3,86⟩) (fun _=>True) ?_ ?_
 refine ah_ (aw_ (fun k=>evHS (evD c) c n zb [u0,u1,u2,u3] [v0,v1,v2,v3] k k) (fun k=>n+1- k) (fun k=>k≤n+1) 0 (Nat.zero_le _) ?_ ?_)
 rw[evHS_0]
 refine at_ [(1,4),(2,5)] rfl rfl rfl au_r (fun hs=>au_f) (fun hs=>?_)
 ·repeat' (first|exact aq_|refine al_ rfl rfl rfl rfl ?_ ?_)
  all_goals (first|((try exact ae_ (CvL.clo hs aC_));(try exact ae_ (CvL.clo hs (bj_ c1 c2))))|exact au_e)
 rintro k hk
 by_cases hlt:k≤n
 ·obtain⟨K,hK⟩:∃K,K=k:=⟨_,rfl⟩
  have eK:=e K
  have hKn:K≤n:=by omega
  obtain⟨h,hh⟩:∃h,h=K/ 2:=⟨_,rfl⟩
  have hA:=evA_qs c K (by omega)
  have fK:=eW_ K (by omega)
  have fh:=eW_ h (by omega)
  have qK:=gS_ (n:=K) (by omega)
  have qh:=gS_ (n:=h) (by omega)
  have qm:=b3_ (((fcN h:Nat):Int):Rat) (((fcN h:Nat):Int):Rat)
  have fm:=eV_ (rq (((fcN h:Nat):Int):Rat)) (rq (((fcN h:Nat):Int):Rat)) (bg_ _) (bg_ _) (by show qs (((fcN h:Nat):Int):Rat)+qs (((fcN h:Nat):Int):Rat)≤_;omega)
  have fne:(((fcN h:Nat):Int):Rat) * (((fcN h:Nat):Int):Rat)≠0:=fun e=>(Rat.mul_eq_zero.1 e).elim (fcN_ne h) (fcN_ne h)
  have fd:=gg_ (rq (((fcN K:Nat):Int):Rat)) (rq ((((fcN h:Nat):Int):Rat) * (((fcN h:Nat):Int):Rat))) (bg_ _) (bg_ _) fne (by show qs (((fcN K:Nat):Int):Rat)+qs ((((fcN h:Nat):Int):Rat) * (((fcN h:Nat):Int):Rat))≤_;omega)
  obtain⟨S0,hS0⟩:∃S0,S0=evMS (evD c) c n zb [u0,u1,u2,u3] [v0,v1,v2,v3] K k:=⟨_,rfl⟩
  rw[show evHS (evD c) c n zb [u0,u1,u2,u3] [v0,v1,v2,v3] k k=evHS (evD c) c n zb [u0,u1,u2,u3] [v0,v1,v2,v3] K k by rw[hK]]
  rcases k with _|k
  all_goals
   first|rw[evHS_0]|rw[se_]
   refine ac_ (q_z 3 ?_)
   refine cT (ai_ (ac_ (ah_ (r_c 3 (i0) ?_))))
   refine a_z ?_
   refine a2_ (fun _:Unit=>S0 [] (evD c K)) (fun _=>True) ?_ ?_
   by_cases hp:K % 2=0
   refine q_z 3 ?_
   refine cT (r_z 3 ?_)
   rw[show((K:Nat):Int) / 2=((h:Nat):Int) by omega]
   refine r_c 2 (i1) ?_
   refine a_z ?_
   refine ac_ (r_z 1 ?_)
   refine aD_ (fun _:Unit=>S0 [(8,i64 h)] (if c=1 then oddM K h else 1)) (fun _=>True) ?_ ?_
   refine ah_ (aw_ (fun j:Nat=>S0 [(8,i64 h),(9,i64 ((2* j+1:Nat):Int))] (oddM K j)) (fun j=>h- j) (fun j=>j≤h∧(c=1∨j=0)) 0 ⟨Nat.zero_le _,.inr rfl⟩ ?_ ?_)
   rw[hS0]
   try first|rw[cP_]|rw[cO_]
   refine SEnt.to2 [(1,4),(2,5),(3,100003),(4,7)] rfl rfl rfl au_r (fun hs=>au_f) (fun hs=>?_)
   ·repeat' (first|exact aq_|refine al_ rfl rfl rfl rfl ?_ ?_)
    all_goals (first|((try exact ae_ (CvL.clo hs aC_));(try exact ae_ (CvL.clo hs (bj_ c1 c2)));(try exact ae_ (bV_ hs (Cv.sl rfl rfl rfl) (CvL.clo hs c1) (CvL.clo hs c2)));(try exact aO_ hs (a3_ _));(try exact ae_ (cF_ hs _)))|exact au_e)
   rintro j ⟨hj,hj1⟩
   try rw[hS0]
   try first|rw[cP_]|rw[cO_]
   by_cases hlj:j< h
   by_cases hc1:c=1
   have ij:=bT_ ((2* j+1:Nat):Int) (by omega)
   have qj:=qi21 (n:=((2* j+1:Nat):Int)) (by omega)
   have qo:=nA_ K j (by omega)
   have mj:=eV_ (rq (oddM K j)) (rq (((2* j+1:Nat):Int):Rat)) (bg_ _) (bg_ _) (by show qs (oddM K j)+qs (((2* j+1:Nat):Int):Rat)≤_;omega)
   refine ac_ (q_z 7 ?_)
   refine cT (ai_ (ac_ (ah_ (r_d hmix 5 ?_))))
   refine c_s (ij) ?_
   refine c_s (mj) ?_
   refine a_1 ?_
   refine ak_ (n_k ?_)
   refine r_m 3 ?_
   refine a_z ?_
   refine⟨j+1,by omega,⟨hlj,.inl hc1⟩,?_⟩
   try rw[hS0]
   try first|rw[cP_]|rw[cO_]
   refine SEnt.to2 [(1,4),(2,5),(3,100003),(4,7)] rfl rfl rfl au_r (fun hs=>au_f) (fun hs=>?_)
   ·repeat' (first|exact aq_|refine al_ rfl rfl rfl rfl ?_ ?_)
    all_goals (first|((try exact ae_ (CvL.clo hs aC_));(try exact ae_ (CvL.clo hs (bj_ c1 c2)));(try exact ae_ (bV_ hs (Cv.sl rfl rfl rfl) (CvL.clo hs c1) (CvL.clo hs c2)));(try exact aO_ hs (a3_ _));(try exact ae_ (cF_ hs _)))|exact au_e)
   ·refine ac_ (s_r 7 ?_)
    refine o_0 (.move rfl) ?_
    refine o_0 (.move rfl) ?_
    refine o_0 (.bin rfl rfl (vT dx_ (decide_eq_true (by omega)))) ?_
    refine o_0 (.move rfl) ?_
    first|refine bl_ rfl rfl rfl (.move rfl) rfl rfl ?_|refine f7_ rfl rfl (by first|(simp[cV_];done)|exact nofun) rfl rfl ?_
    refine bl_ rfl rfl rfl (.bin rfl rfl (vF bq_ (decide_eq_false (by omega)))) rfl rfl ?_
    first|refine aM_ (.pick rfl (fun _=>rfl) (fun _=>rfl)) rfl rfl ?_|refine aM_ (.pick rfl (fun _=>rfl) (fun h=>absurd h (by decide))) rfl rfl ?_|refine aM_ (.pick rfl (fun h=>absurd h (by decide)) (fun _=>rfl)) rfl rfl ?_
    refine ak_ ?_
    refine cF (av_ ⟨(),trivial,?_⟩)
    rw[if_neg hc1,show j=0 from hj1.resolve_left hc1]
    try rw[hS0]
    try first|rw[cP_]|rw[cO_]
    refine SEnt.to2 [(1,4),(2,5),(3,100003),(4,7)] rfl rfl rfl au_r (fun hs=>au_f) (fun hs=>?_)
    ·repeat' (first|exact aq_|refine al_ rfl rfl rfl rfl ?_ ?_)
     all_goals (first|((try exact ae_ (CvL.clo hs aC_));(try exact ae_ (CvL.clo hs (bj_ c1 c2)));(try exact ae_ (bV_ hs (Cv.sl rfl rfl rfl) (CvL.clo hs c1) (CvL.clo hs c2)));(try exact aO_ hs (a3_ _));(try exact ae_ (cF_ hs _)))|exact au_e)
   refine ac_ (q_z 7 ?_)
   refine cF (av_ ⟨(),trivial,?_⟩)
   have eo:(if c=1 then oddM K h else 1)=oddM K j:=by
    have:j=h:=by omega
    subst this
    rcases hj1 with e|e
    rw[if_pos e]
    rw[e];split <;> rfl
   rw[eo]
   try rw[hS0]
   try first|rw[cP_]|rw[cO_]
   refine SEnt.to2 [(1,4),(2,5),(3,100003),(4,7)] rfl rfl rfl au_r (fun hs=>au_f) (fun hs=>?_)
   ·repeat' (first|exact aq_|refine al_ rfl rfl rfl rfl ?_ ?_)
    all_goals (first|((try exact ae_ (CvL.clo hs aC_));(try exact ae_ (CvL.clo hs (bj_ c1 c2)));(try exact ae_ (bV_ hs (Cv.sl rfl rfl rfl) (CvL.clo hs c1) (CvL.clo hs c2)));(try exact aO_ hs (a3_ _));(try exact ae_ (cF_ hs _)))|exact au_e)
   rintro _ _
   refine a2_ (fun _:Unit=>S0 [(8,i64 h)] (evA c K)) (fun _=>True) ?_ ?_
   rw[hS0]
   try first|rw[cP_]|rw[cO_]
   by_cases hc1:c=1
   refine q_z 2 ?_
   refine cF (ai_ ⟨(),trivial,?_⟩)
   rw[show(if c=1 then oddM K h else 1)=evA c K by unfold evA;rw[if_pos hc1,if_pos hc1,hh]]
   refine SEnt.to2 [(1,4),(2,5),(3,100003),(4,7)] rfl rfl rfl au_r (fun hs=>au_f) (fun hs=>?_)
   ·repeat' (first|exact aq_|refine al_ rfl rfl rfl rfl ?_ ?_)
    all_goals (first|((try exact ae_ (CvL.clo hs aC_));(try exact ae_ (CvL.clo hs (bj_ c1 c2)));(try exact ae_ (bV_ hs (Cv.sl rfl rfl rfl) (CvL.clo hs c1) (CvL.clo hs c2)));(try exact aO_ hs (a3_ _));(try exact ae_ (cF_ hs _)))|exact au_e)
   refine q_z 2 ?_
   refine cT (r_m 9 ?_)
   refine c_s (fK) ?_
   refine c_s (fh) ?_
   refine c_s (fh) ?_
   refine c_s (fm) ?_
   refine c_s (fd) ?_
   refine a_z ?_
   refine⟨(),trivial,?_⟩
   rw[show evA c K=(((fcN K:Nat):Int):Rat) / ((((fcN h:Nat):Int):Rat) * (((fcN h:Nat):Int):Rat)) by unfold evA;rw[if_neg hc1,hh]]
   refine SEnt.to2 [(1,4),(2,5),(3,100003),(4,7)] rfl rfl rfl au_r (fun hs=>au_f) (fun hs=>?_)
   ·repeat' (first|exact aq_|refine al_ rfl rfl rfl rfl ?_ ?_)
    all_goals (first|((try exact ae_ (CvL.clo hs aC_));(try exact ae_ (CvL.clo hs (bj_ c1 c2)));(try exact ae_ (bV_ hs (Cv.sl rfl rfl rfl) (CvL.clo hs c1) (CvL.clo hs c2)));(try exact aO_ hs (a3_ _));(try exact ae_ (cF_ hs _)))|exact au_e)
   rintro _ _
   have eD:=evD_A c K hp
   rw[←hh] at eD
   generalize evA c K=A at *
   try rw[hS0]
   try first|rw[cP_]|rw[cO_]
   refine ac_ (r_z 1 ?_)
   have hb4:∀j,j≤h→qs (halfM A j)≤2200:=fun j hj=>by have:=kX_ A j;omega
   have hb6:∀j,j≤h→qs (halfM (halfM A h) j)≤2400:=fun j hj=>by
    have h1:=kX_ (halfM A h) j
    have h2:=hb4 h (Nat.le_refl h)
    omega
   have mh:∀q:Rat,qs q≤3000→FSpec Tryz.prog 118 [.agg (rC (rq q)),.agg (rC (rq (1/ 2)))] (.agg (rC (rq (q* (1/ 2))))):=fun q hq=>eV_ (rq q) (rq (1/ 2)) (bg_ _) (bg_ _) (by
    have h3:qs ((1:Rat) / 2)=2:=by decide+kernel
    show qs q+qs (1/ 2)≤_;omega)
   refine aD_ (fun _:Unit=>S0 [(8,i64 h)] (halfM A h)) (fun _=>True) ?_ ?_
   refine ah_ (aw_ (fun j:Nat=>S0 [(8,i64 h),(10,i64 ((j:Nat):Int))] (halfM A j)) (fun j=>h- j) (fun j=>j≤h) 0 (Nat.zero_le _) ?_ ?_)
   rw[hS0]
   try first|rw[cP_]|rw[cO_]
   refine SEnt.to2 [(1,4),(2,5),(3,100003),(4,7)] rfl rfl rfl au_r (fun hs=>au_f) (fun hs=>?_)
   ·repeat' (first|exact aq_|refine al_ rfl rfl rfl rfl ?_ ?_)
    all_goals (first|((try exact ae_ (CvL.clo hs aC_));(try exact ae_ (CvL.clo hs (bj_ c1 c2)));(try exact ae_ (bV_ hs (Cv.sl rfl rfl rfl) (CvL.clo hs c1) (CvL.clo hs c2)));(try exact aO_ hs (a3_ _));(try exact ae_ (cF_ hs _)))|exact au_e)
   rintro j hj
   try rw[hS0]
   try first|rw[cP_]|rw[cO_]
   by_cases hlj:j< h
   have mj:=mh (halfM A j) (by have:=hb4 j hj;omega)
   refine ac_ (q_z 3 ?_)
   refine cT (ai_ (ac_ (ah_ (r_d hmix 4 ?_))))
   refine c_s (ih) ?_
   refine c_s (mj) ?_
   refine a_1 ?_
   refine ak_ (n_k ?_)
   refine r_m 3 ?_
   refine a_z ?_
   refine⟨j+1,by omega,hlj,?_⟩
   try rw[hS0]
   try first|rw[cP_]|rw[cO_]
   refine SEnt.to2 [(1,4),(2,5),(3,100003),(4,7)] rfl rfl rfl au_r (fun hs=>au_f) (fun hs=>?_)
   ·repeat' (first|exact aq_|refine al_ rfl rfl rfl rfl ?_ ?_)
    all_goals (first|((try exact ae_ (CvL.clo hs aC_));(try exact ae_ (CvL.clo hs (bj_ c1 c2)));(try exact ae_ (bV_ hs (Cv.sl rfl rfl rfl) (CvL.clo hs c1) (CvL.clo hs c2)));(try exact aO_ hs (a3_ _));(try exact ae_ (cF_ hs _)))|exact au_e)
   have:j=h:=by omega
   subst this
   refine ac_ (q_z 3 ?_)
   refine cF (av_ ⟨(),trivial,?_⟩)
   try rw[hS0]
   try first|rw[cP_]|rw[cO_]
   refine SEnt.to2 [(1,4),(2,5),(3,100003),(4,7)] rfl rfl rfl au_r (fun hs=>au_f) (fun hs=>?_)
   ·repeat' (first|exact aq_|refine al_ rfl rfl rfl rfl ?_ ?_)
    all_goals (first|((try exact ae_ (CvL.clo hs aC_));(try exact ae_ (CvL.clo hs (bj_ c1 c2)));(try exact ae_ (bV_ hs (Cv.sl rfl rfl rfl) (CvL.clo hs c1) (CvL.clo hs c2)));(try exact aO_ hs (a3_ _));(try exact ae_ (cF_ hs _)))|exact au_e)
   rintro _ _
   try rw[hS0]
   try first|rw[cP_]|rw[cO_]
   refine ac_ (r_z 1 ?_)
   refine aD_ (fun _:Unit=>S0 [(8,i64 h)] (if c=1 then halfM A h else halfM (halfM A h) h)) (fun _=>True) ?_ ?_
   refine ah_ (aw_ (fun j:Nat=>S0 [(8,i64 h),(11,i64 ((j:Nat):Int))] (halfM (halfM A h) j)) (fun j=>h- j) (fun j=>j≤h∧(1< c∨j=0)) 0 ⟨Nat.zero_le _,.inr rfl⟩ ?_ ?_)
   rw[hS0]
   try first|rw[cP_]|rw[cO_]
   refine SEnt.to2 [(1,4),(2,5),(3,100003),(4,7)] rfl rfl rfl au_r (fun hs=>au_f) (fun hs=>?_)
   ·repeat' (first|exact aq_|refine al_ rfl rfl rfl rfl ?_ ?_)
    all_goals (first|((try exact ae_ (CvL.clo hs aC_));(try exact ae_ (CvL.clo hs (bj_ c1 c2)));(try exact ae_ (bV_ hs (Cv.sl rfl rfl rfl) (CvL.clo hs c1) (CvL.clo hs c2)));(try exact aO_ hs (a3_ _));(try exact ae_ (cF_ hs _)))|exact au_e)
   rintro j ⟨hj,hj1⟩
   try rw[hS0]
   try first|rw[cP_]|rw[cO_]
   by_cases hlj:j< h
   by_cases hc1:1< c
   have mj:=mh (halfM (halfM A h) j) (by have:=hb6 j hj;omega)
   refine ac_ (q_z 7 ?_)
   refine cT (ai_ (ac_ (ah_ (r_d hmix 4 ?_))))
   refine c_s (ih) ?_
   refine c_s (mj) ?_
   refine a_1 ?_
   refine ak_ (n_k ?_)
   refine r_m 3 ?_
   refine a_z ?_
   refine⟨j+1,by omega,⟨hlj,.inl hc1⟩,?_⟩
   try rw[hS0]
   try first|rw[cP_]|rw[cO_]
   refine SEnt.to2 [(1,4),(2,5),(3,100003),(4,7)] rfl rfl rfl au_r (fun hs=>au_f) (fun hs=>?_)
   ·repeat' (first|exact aq_|refine al_ rfl rfl rfl rfl ?_ ?_)
    all_goals (first|((try exact ae_ (CvL.clo hs aC_));(try exact ae_ (CvL.clo hs (bj_ c1 c2)));(try exact ae_ (bV_ hs (Cv.sl rfl rfl rfl) (CvL.clo hs c1) (CvL.clo hs c2)));(try exact aO_ hs (a3_ _));(try exact ae_ (cF_ hs _)))|exact au_e)
   ·refine ac_ (s_r 7 ?_)
    refine o_0 (.move rfl) ?_
    refine o_0 (.move rfl) ?_
    refine o_0 (.bin rfl rfl (vT dx_ (decide_eq_true (by omega)))) ?_
    refine o_0 (.move rfl) ?_
    first|refine bl_ rfl rfl rfl (.move rfl) rfl rfl ?_|refine f7_ rfl rfl (by first|(simp[cV_];done)|exact nofun) rfl rfl ?_
    refine bl_ rfl rfl rfl (.bin rfl rfl (vF dQ_ (decide_eq_false (by omega)))) rfl rfl ?_
    first|refine aM_ (.pick rfl (fun _=>rfl) (fun _=>rfl)) rfl rfl ?_|refine aM_ (.pick rfl (fun _=>rfl) (fun h=>absurd h (by decide))) rfl rfl ?_|refine aM_ (.pick rfl (fun h=>absurd h (by decide)) (fun _=>rfl)) rfl rfl ?_
    refine ak_ ?_
    refine cF (av_ ⟨(),trivial,?_⟩)
    rw[if_pos (by omega),show j=0 from hj1.resolve_left hc1]
    try rw[hS0]
    try first|rw[cP_]|rw[cO_]
    refine SEnt.to2 [(1,4),(2,5),(3,100003),(4,7)] rfl rfl rfl au_r (fun hs=>au_f) (fun hs=>?_)
    ·repeat' (first|exact aq_|refine al_ rfl rfl rfl rfl ?_ ?_)
     all_goals (first|((try exact ae_ (CvL.clo hs aC_));(try exact ae_ (CvL.clo hs (bj_ c1 c2)));(try exact ae_ (bV_ hs (Cv.sl rfl rfl rfl) (CvL.clo hs c1) (CvL.clo hs c2)));(try exact aO_ hs (a3_ _));(try exact ae_ (cF_ hs _)))|exact au_e)
   refine ac_ (q_z 7 ?_)
   refine cF (av_ ⟨(),trivial,?_⟩)
   have eo:(if c=1 then halfM A h else halfM (halfM A h) h)=halfM (halfM A h) j:=by
    have:j=h:=by omega
    subst this
    rcases hj1 with e|e
    rw[if_neg (by omega)]
    subst e;split <;> rfl
   rw[eo]
   try rw[hS0]
   try first|rw[cP_]|rw[cO_]
   refine SEnt.to2 [(1,4),(2,5),(3,100003),(4,7)] rfl rfl rfl au_r (fun hs=>au_f) (fun hs=>?_)
   ·repeat' (first|exact aq_|refine al_ rfl rfl rfl rfl ?_ ?_)
    all_goals (first|((try exact ae_ (CvL.clo hs aC_));(try exact ae_ (CvL.clo hs (bj_ c1 c2)));(try exact ae_ (bV_ hs (Cv.sl rfl rfl rfl) (CvL.clo hs c1) (CvL.clo hs c2)));(try exact aO_ hs (a3_ _));(try exact ae_ (cF_ hs _)))|exact au_e)
   rintro _ _
   try rw[hS0]
   try first|rw[cP_]|rw[cO_]
   by_cases hc3:c=3
   rw[if_neg (show¬c=1 by omega)]
   have iq:=bT_ ((h+1:Nat):Int) (by omega)
   have qq:=qi21 (n:=((h+1:Nat):Int)) (by omega)
   have dq:=gg_ (rq (halfM (halfM A h) h)) (rq (((h+1:Nat):Int):Rat)) (bg_ _) (bg_ _) (oN_ (by omega)) (by
    have:=hb6 h (Nat.le_refl h)
    show qs (halfM (halfM A h) h)+qs (((h+1:Nat):Int):Rat)≤_;omega)
   refine q_z 2 ?_
   refine cT (r_d hmix 6 ?_)
   refine c_s (iq) ?_
   refine c_s (dq) ?_
   refine a_1 ?_
   refine ak_ (n_k ?_)
   refine⟨(),trivial,?_⟩
   rw[show evD c K=halfM (halfM A h) h/ (((h+1:Nat):Int):Rat) by rw[eD,if_neg (show¬c=1 by omega),if_pos hc3]]
   try rw[hS0]
   try first|rw[cP_]|rw[cO_]
   refine SEnt.to2 [(1,4),(2,5),(3,100003),(4,7)] rfl rfl rfl au_r (fun hs=>au_f) (fun hs=>?_)
   ·repeat' (first|exact aq_|refine al_ rfl rfl rfl rfl ?_ ?_)
    all_goals (first|((try exact ae_ (CvL.clo hs aC_));(try exact ae_ (CvL.clo hs (bj_ c1 c2)));(try exact ae_ (bV_ hs (Cv.sl rfl rfl rfl) (CvL.clo hs c1) (CvL.clo hs c2)));(try exact aO_ hs (a3_ _));(try exact ae_ (cF_ hs _)))|exact au_e)
   refine q_z 2 ?_
   refine cF (ai_ ⟨(),trivial,?_⟩)
   rw[show evD c K=(if c=1 then halfM A h else halfM (halfM A h) h) by rw[eD,if_neg hc3]]
   try rw[hS0]
   try first|rw[cP_]|rw[cO_]
   refine SEnt.to2 [(1,4),(2,5),(3,100003),(4,7)] rfl rfl rfl au_r (fun hs=>au_f) (fun hs=>?_)
   ·repeat' (first|exact aq_|refine al_ rfl rfl rfl rfl ?_ ?_)
    all_goals (first|((try exact ae_ (CvL.clo hs aC_));(try exact ae_ (CvL.clo hs (bj_ c1 c2)));(try exact ae_ (bV_ hs (Cv.sl rfl rfl rfl) (CvL.clo hs c1) (CvL.clo hs c2)));(try exact aO_ hs (a3_ _));(try exact ae_ (cF_ hs _)))|exact au_e)
   refine s_r 3 ?_
   refine o_0 (.move rfl) ?_
   refine o_0 (.bin rfl rfl (pN_ (by omega))) ?_
   refine o_0 (.bin rfl rfl (vF bq_ (decide_eq_false (by omega)))) ?_
   refine ak_ ?_
   refine cF (ai_ ⟨(),trivial,?_⟩)
   rw[show evD c K=0 by unfold evD;rw[if_neg hp]]
   try rw[hS0]
   try first|rw[cP_]|rw[cO_]
   refine SEnt.to2 [(1,4),(2,5),(3,100003),(4,7)] rfl rfl rfl au_r (fun hs=>au_f) (fun hs=>?_)
   ·repeat' (first|exact aq_|refine al_ rfl rfl rfl rfl ?_ ?_)
    all_goals (first|((try exact ae_ (CvL.clo hs aC_));(try exact ae_ (CvL.clo hs (bj_ c1 c2)));(try exact ae_ (bV_ hs (Cv.sl rfl rfl rfl) (CvL.clo hs c1) (CvL.clo hs c2)));(try exact aO_ hs (a3_ _));(try exact ae_ (cF_ hs _)))|exact au_e)
   ·rintro _ _
    try rw[hS0]
    generalize evD c=f at *
    try first|rw[cP_]|rw[cO_]
    refine r_m 7 ?_
    refine a_4 ?_
    first|refine AR.op2 (.append_l rfl rfl rfl te_65.h rfl rfl rfl rfl rfl d_o (by first|exact df_ _|exact dd_ _|exact c2_ _|exact dg_ _|exact c7_ _|assumption|rfl|simp) (by first|rfl|exact df_ _|exact dd_ _|exact c2_ _|exact dg_ _|exact c7_ _|simp) rfl (.lsl rfl (nle rfl)) tz_42.h rfl tb_42.h d_o (by first|(simp[maxLen];done)|(simp[maxLen];omega))) rfl rfl ?_|refine AR.op1 (.append_e rfl rfl rfl te_65.h rfl rfl rfl (.lsl rfl (nle rfl)) (by first|assumption|(simp;done)) tz_42.h rfl tb_42.h d_o (by first|(simp[maxLen];done)|(simp[maxLen];omega))) rfl rfl ?_
    refine a_z ?_
    refine r_m 3 ?_
    refine a_z ?_
    subst hK
    first|refine⟨k+1+1,by omega,by omega,?_⟩|refine⟨0+1,by omega,by omega,?_⟩
    rw[se_]
    refine at_ [(1,4),(2,5),(3,83)] rfl rfl rfl ?_ (fun hs=>au_f) (fun hs=>?_)
    ·repeat' (first|exact ShrL.nil|refine ShrL.cons rfl rfl rfl rfl (by first|(simp)|rfl|(simp;done)|(simp <;> omega)) ?_)
    ·repeat' (first|exact aq_|refine al_ rfl rfl rfl rfl ?_ ?_)
     all_goals (first|((try exact ae_ (CvL.clo hs aC_));(try exact ae_ (bV_ hs (Cv.sl rfl rfl rfl) (CvL.clo hs c1) (CvL.clo hs c2)));(try exact aO_ hs (a3_ (rP [f 0])));(try exact aH_ hs eK (a3_ _)))|exact au_e)
 have hge:k=n+1:=by omega
 subst hge
 rw[se_]
 refine ac_ (q_z 3 ?_)
 refine cF (av_ ⟨(),trivial,?_⟩)
 refine at_ [(1,4),(2,5)] rfl rfl rfl au_r (fun hs=>au_f) (fun hs=>?_)
 ·repeat' (first|exact aq_|refine al_ rfl rfl rfl rfl ?_ ?_)
  all_goals (first|((try exact ae_ (CvL.clo hs aC_));(try exact ae_ (bV_ hs (jn_ (L:=rP (sqL (evD c) (n+1))) hs rfl (aQ_ rfl) rfl (by simp[rP])) (hcv _ _ _ hs).1 (hcv _ _ _ hs).2)))|exact au_e)
 rintro _ _
 refine r_z 2 ?_
 exact ag_ (c_e (ao_ bb_))
end Go.Proofs.YtdjfjpeoddmamaaGreatDoor
namespace Go.Proofs.YtdjfjpeoddmamaaGreatDoor
open Go.Abs Go.Deep Go.RowKit
set_option maxRecDepth 20000
theorem ess_of{M:Nat→Prop}{β:Nat→Option (Nat×Nat)}{w:World}{b s off:Nat}{f:Nat→List AV}:∀(n j:Nat),(∀i,i< j+n→(f i).length=s∧RVcs M β w b (f i) (off+i* s))→RVess M β w b s ((List.range' j n).map f) (off+j* s)
 |0,_,_=>trivial
 |n+1,j,h=>by
  rw[List.range'_succ,List.map_cons]
  refine⟨(h j (by omega)).1,(h j (by omega)).2,?_⟩
  have:=ess_of (M:=M) (β:=β) (w:=w) (b:=b) (s:=s) (off:=off) n (j+1) (fun i hi=>h i (by omega))
  rwa[Nat.add_mul,Nat.one_mul,←Nat.add_assoc] at this
theorem lW_{w:World}{b o:Nat}{v:Value}(h:w.cell? ⟨b,o,none⟩=some v):∃N,aP_ w b=some N:=by
 unfold World.cell? at h
 unfold aP_
 split at h
 ·rename_i c _ _ e;rw[show w.heap[b]?=_ from e];exact⟨c.size,rfl⟩
 cases h
theorem tyS:(Tryz.prog).underlying 26=some (.slice 23):=by kernel_rfl
theorem tyN:∃f0 f1 f2,(Tryz.prog).underlying 23=some (.struct #[f0,f1,f2])∧f0.type=2∧f0.offset=0∧f1.type=2∧f1.offset=1∧f2.type=5∧f2.offset=2:=
 ⟨{name:= "N",type:=2,offset:=0,embedded:=false,tag:= "",pkgPath:= "",byteOffset:=0},{name:= "D",type:=2,offset:=1,embedded:=false,tag:= "",pkgPath:= "",byteOffset:=8},{name:= "Pow",type:=5,offset:=2,embedded:=false,tag:= "",pkgPath:= "",byteOffset:=16},by kernel_rfl,rfl,rfl,rfl,rfl,rfl,rfl⟩
theorem tyc82:(Tryz.prog).cellsOf 23=3:=by kernel_rfl
theorem tyc2:(Tryz.prog).cellsOf 2=1:=by kernel_rfl
theorem tyc5:(Tryz.prog).cellsOf 5=1:=by kernel_rfl
theorem tyu2:(Tryz.prog).underlying 2=some (.int .i64):=by kernel_rfl
theorem tyu5:(Tryz.prog).underlying 5=some (.int .u8):=by kernel_rfl
theorem mg_{H:Type}{enc:TypeId×Value→H}{W:World}{base n:Nat}{spare:Nat→Bool}{held:Bool}{cs:List Value}{x:DataW H×List MemPlace}(h:DataW.trod enc Tryz.prog W base spare held n 23 cs=some x):
    ∃r:NRow,i64r r.1∧i64r r.2.1∧r.2.2≤255∧cs=[.int .i64 r.1,.int .i64 r.2.1,.int .u8 r.2.2]:=by
 obtain⟨f0,f1,f2,hu,h1,h2,h3,h4,h5,h6⟩:=tyN
 obtain⟨y0,y1,y2,m,_,hl,g0,g1,g2⟩:=trod_struct3 hu h
 rw[h1,h2,tyc2] at g0
 rw[h3,h4,tyc2] at g1
 rw[h5,h6,tyc5] at g2
 rw[tyc82] at hl
 obtain⟨n0,e0,_,w0⟩:=DataW.trod_int tyu2 g0
 obtain⟨n1,e1,_,w1⟩:=DataW.trod_int tyu2 g1
 obtain⟨n2,e2,_,w2⟩:=DataW.trod_int tyu5 g2
 match cs,hl with
 |[c0,c1,c2],_=>
  simp at e0 e1 e2
  subst e0;subst e1;subst e2
  have b2:=bounds_u8 w2
  refine⟨(n0,n1,n2.toNat),bounds_i64 w0,bounds_i64 w1,?_,?_⟩
  show n2.toNat≤255;omega
  show _=[_,_,Value.int .u8 ((n2.toNat:Nat):Int)]
  rw[Int.toNat_of_nonneg b2.1]
theorem nv_{H:Type}{enc:TypeId×Value→H}{W:World}{a:Option Addr}{len cap:Nat}{d:DataW H}{ps:List MemPlace}(h:DataW.Trod enc Tryz.prog W 0 (fun _=>true) true 26 (.slice a len cap) d ps):
    ∃l:List NRow,okR l∧RV (fun _=>False) (fun _=>none) W (.arr (nR l)) (.slice a len cap):=by
 obtain⟨fuel,hf⟩:=h
 rcases open_slice tyS hf with⟨hcs,_⟩|⟨x,len',cap',m,n,D,Pl,hcs,_,hl,hm,hmm,_,hx⟩
 simp[Value.cells] at hcs
 obtain⟨rfl,rfl,rfl⟩:=hcs
 exact⟨[],(fun r hr=>by cases hr),none,0,rfl,Nat.le_refl _,by decide,.inl rfl⟩
 simp[Value.cells] at hcs
 obtain⟨rfl,rfl,rfl⟩:=hcs
 simp only[if_true] at hmm
 have hmc:m=cap:=hmm
 rw[hmc] at hx
 rw[tyc82] at hx
 have hx':∀i,i< len→∃r:NRow,(i64r r.1∧i64r r.2.1∧r.2.2≤255)∧W.cells? 0 (x.add (i* 3)) 3=some [.int .i64 r.1,.int .i64 r.2.1,.int .u8 r.2.2]:=fun i hi=>by
  obtain⟨cs',g1,g2⟩:=hx i (by omega)
  obtain⟨r,r1,r2,r3,e⟩:=mg_ g2
  exact⟨r,⟨r1,r2,r3⟩,by rw[g1,e]⟩
 obtain⟨R,hR⟩:=choose_lt (α:=NRow) hx'
 refine⟨(List.range len).map R,?_,some x,cap,by simp[nR],by simpa[nR] using hl,hm,?_⟩
 intro r hr
 obtain⟨i,hi,rfl⟩:=List.mem_map.1 hr
 exact(hR i (List.mem_range.1 hi)).1
 by_cases h0:len=0
 subst h0;exact .inl rfl
 right
 have c:∀i,i< len→∀j (v:Value),[.int .i64 (R i).1,.int .i64 (R i).2.1,.int .u8 (R i).2.2][j]?=some v→W.cell? (x.add (i* 3+j))=some v:=fun i hi j v hv=>by
  have hj:j< 3:=by
   have:=(List.getElem?_eq_some_iff.1 hv).1
   simpa using this
  have:=(World.cells?_some (hR i hi).2).2.2 j hj
  rw[hv,Go.Deep.add_add] at this
  exact this
 have c0:=c 0 (by omega) 0 _ rfl
 obtain⟨b,off,spot⟩:=x
 have hspot:spot=none:=by simpa[Addr.add] using World.cell?_spot c0
 subst hspot
 have hadd:∀k,Addr.add ⟨b,off,none⟩ k=⟨b,off+k,none⟩:=fun k=>by
  unfold Addr.add
  by_cases hk:k=0
  simp[hk]
  simp[hk]
 refine⟨b,off,3,rfl,lW_ (by rw[hadd] at c0;exact c0),(fun h=>h),?_⟩
 have:=ess_of (M:=fun _=>False) (β:=fun _=>none) (w:=W) (b:=b) (s:=3) (off:=off) (f:=fun i=>nuC (R i).1 (R i).2.1 (R i).2.2) len 0 (fun i hi=>⟨rfl,?_⟩)
 rw[Nat.zero_mul,Nat.add_zero,←List.range_eq_range'] at this
 rw[nR,List.map_map]
 exact this
 have hi':i< len:=by omega
 refine⟨⟨_,?_,rfl⟩,⟨_,?_,rfl⟩,⟨_,?_,rfl⟩,trivial⟩
 have:=c i hi' 0 _ rfl;rw[hadd] at this;exact this
 have:=c i hi' 1 _ rfl;rw[hadd] at this;rw[Nat.add_assoc];exact this
 have:=c i hi' 2 _ rfl;rw[hadd] at this;rw[Nat.add_assoc,Nat.add_assoc];exact this
end Go.Proofs.YtdjfjpeoddmamaaGreatDoor
namespace Go.Proofs.YtdjfjpeoddmamaaGreatDoor
open Go.Abs
set_option maxRecDepth 20000
def okW(m:List Rat)(l r:Bool)(a b:Rat):Prop:=1≤m.length∧m.length≤64∧(l=true→r=true→a< b)
instance (m:List Rat) (l r:Bool) (a b:Rat):Decidable (okW m l r a b):=inferInstanceAs (Decidable (_∧_∧_))
theorem cmp_ge{a b:Rat}(h:¬a< b):(0:Int)≤cmpQ a b:=by
 unfold cmpQ
 rw[if_neg h]
 split <;> decide
theorem cmp_lt{a b:Rat}(h:a< b):cmpQ a b= -1:=by unfold cmpQ;rw[if_pos h]
theorem rI_(m:List Rat)(l r:Bool)(x y:RQ)(hml:m.length≤1000000)(hx:rok x)(hy:rok y)(hq:qs x.1+qs y.1≤1099511627776):FSpec Tryz.prog 30 [.agg (rwC m l r x y)] (bln (decide (okW m l r x.1 y.1))):=by
 have hcm:=iV_ x y hx hy hq
 have hlen:(rP m).length=m.length:=by simp[rP]
 refine f_n Tryz.func30 ?_ ?_
 exact aa_ (ao_ bb_) ab_
 refine r_z 2 ?_
 by_cases h1:l=true∧r=true∧¬x.1< y.1
 obtain⟨rfl,rfl,hlt⟩:=h1
 rw[decide_eq_false (fun h:okW m true true x.1 y.1=>hlt (h.2.2 rfl rfl))]
 refine ac_ (r_c 14 (hcm) ?_)
 refine bl_ rfl rfl rfl (.bin rfl rfl (vT dz_ (decide_eq_true (cmp_ge hlt)))) rfl rfl ?_
 refine a_z ?_
 refine cT (r_z 1 ?_)
 exact ag_ (t_e (ad_ _))
 have hsh:l=true→r=true→x.1< y.1:=fun e1 e2=>Classical.byContradiction fun e3=>h1 ⟨e1,e2,e3⟩
 refine a2_ (fun _:Unit=>⟨[(1,.lptr 1 0 0)],[(1,some ⟨77,11,[rwC m l r x y]⟩)],2,27⟩) (fun _=>True) ?_ ?_
 cases l with
 |false=>
  refine r_z 14 ?_
  refine cF (ai_ ⟨(),trivial,?_⟩)
  exact s_f [(1,1)]
 |true=>
  cases r with
  |false=>
   refine r_z 14 ?_
   refine cF (ai_ ⟨(),trivial,?_⟩)
   exact s_f [(1,1)]
  |true=>
   rw[cmp_lt (hsh rfl rfl)] at hcm
   refine r_c 14 (hcm) ?_
   refine bl_ rfl rfl rfl (.bin rfl rfl (vF dz_ (rfl))) rfl rfl ?_
   refine a_z ?_
   refine cF (ai_ ⟨(),trivial,?_⟩)
   exact s_f [(1,1)]
 rintro _ _
 by_cases h2:1≤m.length
 by_cases h3:m.length≤64
 rw[decide_eq_true (show okW m l r x.1 y.1 from⟨h2,h3,hsh⟩)]
 refine q_z 11 ?_
 exact ag_ (t_e (ad_ _))
 rw[decide_eq_false (fun h:okW m l r x.1 y.1=>h3 h.2.1)]
 refine q_z 11 ?_
 exact ag_ (t_e (ad_ _))
 rw[decide_eq_false (fun h:okW m l r x.1 y.1=>h2 h.1)]
 refine q_z 11 ?_
 exact ag_ (t_e (ad_ _))
theorem fO_(p q:List Rat)(o:okDiv p q)(h0:trimQ q≠[]):FSpec Tryz.prog 227 [.arr (pE p),.arr (pE q)] (.tup [.arr (pE (divP p q).1),.arr (pE (divP p q).2)]):=
 fo_ p q (mxL p) (mxL q) (cl_ p) (cl_ q) (b0_ p) (b0_ q) o.1 h0 o.2.1 o.2.2
def bzS(p:List Rat)(q:List Rat):List Rat×List Rat×List Rat×List Rat→AState
 |(g,nx,a,c)=>⟨[(0,.arr (pE p)),(1,.arr (pE q)),(4,.arr (pE g)),(5,.arr (pE a)),(7,.arr (pE nx)),(8,.arr (pE c))],[],1,83⟩
theorem sH_(p:List Rat)(q:List Rat)(g:List Rat)(nx:List Rat)(a:List Rat)(c:List Rat):bzS p q (g,nx,a,c)=⟨[(0,.arr (pE p)),(1,.arr (pE q)),(4,.arr (pE g)),(5,.arr (pE a)),(7,.arr (pE nx)),(8,.arr (pE c))],[],1,83⟩:=rfl
theorem mO_(f:Nat)(p q g a:List Rat)(hq:trimQ q≠[])(hql:q.length≤1099511627776)(hz:bzL f p q (cU_ ((1:Int):Rat)) []=some (g,a))(ho:okBz p q g a):
    FSpec Tryz.prog 236 [.arr (pE p),.arr (pE q)] (.tup [.arr (pE (bzG g)),.arr (pE (bzA q g a)),.arr (pE (bzB p q g a))]):=by
 obtain⟨c1,c2,c3,c4,c5,c6,c7,c8,c9,c10,c11,c12,c13,c14,c15,c16⟩:=ho
 have hd:¬degP q< 0:=fun e=>hq (degP_neg.1 e)
 have q1:qs ((1:Int):Rat)=1:=by decide
 have hqd:=c8_ ((1:Int):Rat) (leadP g)
 have hsl:sm (((1:Int):Rat) / leadP g):=by unfold sm;omega
 refine f_n Tryz.func236 ?_ ?_
 exact aa_ (as_ p) (aa_ (as_ q) ab_)
 refine r_z 3 ?_
 refine ac_ (r_c 3 (bI_ q hql) ?_)
 refine d_z ?_
 refine cF (ai_ (r_z 4 ?_))
 refine r_c 4 (ea_ 1 (by decide)) ?_
 refine c_s (iW_ ((1:Int):Rat)) ?_
 refine a_z ?_
 refine ac_ (aD_ (fun _:Unit=>⟨[(0,.arr (pE p)),(1,.arr (pE q)),(4,.arr (pE g)),(5,.arr (pE a))],[],1,83⟩) (fun _=>True) ?_ ?_)
 refine ah_ (aw_ (fun x:Nat×List Rat×List Rat×List Rat×List Rat=>bzS p q x.2) (fun x=>x.1) (fun x=>bzL x.1 x.2.1 x.2.2.1 x.2.2.2.1 x.2.2.2.2=some (g,a)∧x.2.2.1.length≤1099511627776) (f,p,q,cU_ ((1:Int):Rat),[]) ⟨hz,hql⟩ ?_ ?_)
 simp only[sH_]
 exact s_e []
 rintro⟨f,g',nx,a',c⟩ ⟨hz,hnl⟩
 simp only at hz hnl
 simp only[sH_]
 cases f with
 |zero=>cases hz
 |succ f=>
  rw[bzL] at hz
  by_cases hn0:trimQ nx=[]
  rw[if_pos hn0] at hz
  cases hz
  refine ac_ (r_c 3 (bI_ nx hnl) ?_)
  refine o_0 (.bin rfl rfl (vF dz_ (decide_eq_false (by have:=degP_neg.2 hn0;omega)))) ?_
  refine ak_ ?_
  refine cF (av_ ⟨(),trivial,?_⟩)
  exact s_e []
  ·rw[if_neg hn0] at hz
   split at hz
   case isFalse=>cases hz
   case isTrue hs=>
   obtain⟨⟨o1,o2,o3,o4,o5,o6⟩,o7⟩:=hs
   have hrl:=(eZ_ (p:=g') (q:=nx))
   have hgl:=o1.2.1
   have hdn:¬degP nx< 0:=fun e=>hn0 (degP_neg.1 e)
   refine ac_ (r_c 3 (bI_ nx hnl) ?_)
   refine d_z ?_
   refine cT (ai_ (ah_ (r_c 8 (fO_ g' nx o1 hn0) ?_)))
   refine a_z ?_
   refine r_z 4 ?_
   refine r_m 8 ?_
   refine c_s (d9_ _ c o2) ?_
   refine c_s (rT_ a' _ o3 o4 o5 o6) ?_
   refine a_z ?_
   refine⟨(f,nx,(divP g' nx).2,c,subP a' (mulP (divP g' nx).1 c)),Nat.lt_succ_self f,⟨hz,by simp only;omega⟩,?_⟩
   simp only[sH_]
   exact s_e []
 rintro _ _
 refine r_c 6 (ea_ 1 (by decide)) ?_
 refine c_s (gi_ g c2) ?_
 refine o_0 (.call rfl rfl rfl (eq_ _ (leadP g) (bF_ c1) (by omega))) ?_
 refine o_1 (.alloc tz_35.h) ?_
 refine o_1n (.store rfl rfl rfl rfl rfl rfl ts_35.h (nle rfl)) ?_
 refine ak_ ?_
 refine ac_ (r_d hmix 8 ?_)
 refine c_s (er_ g _ c4 hsl c2) ?_
 refine c_s (er_ a _ c5 hsl c3) ?_
 refine a_2 ?_
 refine ak_ (n_k ?_)
 refine r_c 8 (fO_ q (bzG g) c7 c8) ?_
 refine a_z ?_
 refine r_c 7 (fO_ _ _ c9 c10) ?_
 refine a_z ?_
 refine r_c 11 (d9_ (bzA q g a) p c11) ?_
 refine c_s (rT_ (bzG g) _ c12 c13 c14 c15) ?_
 refine c_s (fO_ _ q c16 hq) ?_
 refine a_z ?_
 refine r_z 6 ?_
 refine ag_ (Fin.many ⟨_,_,rfl,rfl,⟨_,_,rfl,rfl,⟨_,_,rfl,rfl,rfl⟩⟩⟩ (nle rfl) ?_)
 exact CvL.clo au_ (aa_ (as_ _) (aa_ (as_ _) (aa_ (as_ _) ab_)))
theorem setT{p m:List Rat}{d j i e:Nat}(hi:i< j)(hj:j≤d)(he:e=i):(pE (tabP d (tpI p m j i))).set e (qC (tpI p m j i i+coP p j* coP m (j- 1- i)))=pE (tabP d (tpI p m j (i+1))):=by
 subst he
 rw[ir_,←tpI_set p m d j e hi hj]
 congr 3
 unfold tpI;rw[if_neg (by omega)]
theorem jq_{r:Ren}{hp hp':Nat→Option ABlk}(h:Shr r hp hp'):∀n,CvLL r hp hp' (List.replicate n zC) (pE (List.replicate n 0))
 |0=>aO_ h (aJ_ [])
 |n+1=>CvLL.cons (ys:=pE (List.replicate n 0)) (fD_ h) (jq_ h n)
theorem getT{d i e:Nat}{f:Nat→Rat}(h:i< d)(he:e=i):(pE (tabP d f))[e]?=some (qC (f i)):=by
 subst he
 exact bO_ (kg_ f h)
def onS(p:List Rat)(m:List Rat)(W:List AV)(d:Nat):Nat→AState
 |j=>⟨[(1,.arr (pE p)),(2,.lptr 1 0 0),(4,.lptr 2 0 0),(5,.lsl 3 0 d (some d) 3),(15,.arr (pE p)),(16,i64 ((d+1:Nat):Int)),(17,i64 j)],[(1,some ⟨51,9,[W]⟩),(2,some ⟨57,2,[[.emp,.emp]]⟩),(3,some ⟨35,3,pE (tabP d fun i=>tpV p m i j)⟩)],4,61⟩
theorem q3_(p:List Rat)(m:List Rat)(W:List AV)(d:Nat)(j:Nat):onS p m W d j=⟨[(1,.arr (pE p)),(2,.lptr 1 0 0),(4,.lptr 2 0 0),(5,.lsl 3 0 d (some d) 3),(15,.arr (pE p)),(16,i64 ((d+1:Nat):Int)),(17,i64 j)],[(1,some ⟨51,9,[W]⟩),(2,some ⟨57,2,[[.emp,.emp]]⟩),(3,some ⟨35,3,pE (tabP d fun i=>tpV p m i j)⟩)],4,61⟩:=rfl
def onI(p:List Rat)(m:List Rat)(W:List AV)(d:Nat)(j:Nat):Nat→AState
 |i=>⟨[(1,.arr (pE p)),(2,.lptr 1 0 0),(4,.lptr 2 0 0),(5,.lsl 3 0 d (some d) 3),(15,.arr (pE p)),(16,i64 ((d+1:Nat):Int)),(17,i64 j),(6,i64 j),(7,.lptr 4 0 0),(22,i64 j),(23,i64 i)],[(1,some ⟨51,9,[W]⟩),(2,some ⟨57,2,[[.emp,.emp]]⟩),(3,some ⟨35,3,pE (tabP d (tpI p m j i))⟩),(4,some ⟨35,3,[qC (coP p j)]⟩)],5,61⟩
theorem mb_(p:List Rat)(m:List Rat)(W:List AV)(d:Nat)(j:Nat)(i:Nat):onI p m W d j i=⟨[(1,.arr (pE p)),(2,.lptr 1 0 0),(4,.lptr 2 0 0),(5,.lsl 3 0 d (some d) 3),(15,.arr (pE p)),(16,i64 ((d+1:Nat):Int)),(17,i64 j),(6,i64 j),(7,.lptr 4 0 0),(22,i64 j),(23,i64 i)],[(1,some ⟨51,9,[W]⟩),(2,some ⟨57,2,[[.emp,.emp]]⟩),(3,some ⟨35,3,pE (tabP d (tpI p m j i))⟩),(4,some ⟨35,3,[qC (coP p j)]⟩)],5,61⟩:=rfl
theorem fs_on (p m:List Rat) (l r:Bool) (a b:Rat) (d s t:Nat) (g iv bz:List Rat) (hl:p.length=d+1) (htr:trimQ p=p) (hd:d≤1000) (hp:bdL p s) (hm:bdL m t) (hs:1≤s) (ht:1≤t) (hml:d≤m.length) (hlim:(d+2) * (s+t+1)≤137438953472)
    (hde:FSpec Tryz.prog 49 [.arr (pE p)] (.arr (pE (ax_ p)))) (hbz:FSpec Tryz.prog 236 [.arr (pE (ax_ p)),.arr (pE p)] (.tup [.arr (pE g),.arr (pE iv),.arr (pE bz)]))
    (hmu:okMul (tpQ p m) iv) (hdi:okDiv (mulP (tpQ p m) iv) p):
    FSpec Tryz.prog 161 [.agg (wC m l r (qC a) (qC b)),.arr (pE p)] (.agg (ruC p (divP (mulP (tpQ p m) iv) p).2)):=by
 have hWc:∀c∈wC m l r (qC a) (qC b),Closed c:=aR_ (.inr ⟨a,rfl⟩) (.inr ⟨b,rfl⟩)
 have hp0:trimQ p≠[]:=by rw[htr];intro e;rw[e] at hl;simp at hl
 have hdg:=bI_ p (by omega)
 rw[show degP p=(d:Int) by unfold degP;rw[htr,hl];omega] at hdg
 have etp:tabP d (fun i=>tpV p m i (d+1))=tpQ p m:=by unfold tpQ;rw[hl];rfl
 refine f_n Tryz.func161 ?_ ?_
 exact aa_ (ao_ hWc) (aa_ (as_ p) ab_)
 refine r_z 2 ?_
 refine r_c 4 (hdg) ?_
 refine a_z ?_
 refine ac_ (r_z 3 ?_)
 refine aD_ (fun _:Unit=>⟨[(1,.arr (pE p)),(4,.lptr 1 0 0),(5,.arr (pE (tpQ p m)))],[(1,some ⟨57,2,[[.emp,.emp]]⟩)],2,61⟩) (fun _=>True) ?_ ?_
 refine ah_ (aw_ (onS p m (wC m l r (qC a) (qC b)) d) (fun j=>d+1- j) (fun j=>j≤d+1) 0 (Nat.zero_le _) ?_ ?_)
 rw[q3_,qx_]
 refine at_ [(1,2),(2,4),(3,5)] rfl rfl rfl au_r (fun hs=>au_f) (fun hs=>?_)
 ·repeat' (first|exact aq_|refine al_ rfl rfl rfl rfl ?_ ?_)
  all_goals (first|((try exact ae_ (CvL.clo hs hWc));(try exact jq_ hs d);done)|exact au_e)
 intro j hj
 rw[q3_]
 by_cases hlt:j< d+1
 have hgt:(pE p)[((j:Nat):Int).toNat]?=some (qC (coP p j)):=bO_ (be_ (by omega))
 refine q_z 1 ?_
 refine ac_ (cT (ai_ (ac_ (ah_ (s_r 6 ?_)))))
 refine a_1 ?_
 refine i_x hgt ?_
 refine l_x hgt ?_
 refine a_z ?_
 refine r_z 2 ?_
 refine AWp.cutB (fun _:Unit=>onI p m (wC m l r (qC a) (qC b)) d j j) (fun _=>True) ?_ ?_
 refine ah_ (aw_ (onI p m (wC m l r (qC a) (qC b)) d j) (fun i=>j- i) (fun i=>i≤j) 0 (Nat.zero_le _) ?_ ?_)
 rw[mb_,tpI_0]
 refine at_ [(4,7)] rfl rfl rfl au_r (fun hs=>au_f) (fun hs=>?_)
 ·repeat' (first|exact aq_|refine al_ rfl rfl rfl rfl ?_ ?_)
  all_goals (first|((try exact ae_ (CvL.clo hs hWc));(try exact aO_ hs (aJ_ _));done)|exact au_e)
 intro i hi
 rw[mb_]
 by_cases hlt2:i< j
 have hv:tpI p m j i i=tpV p m i j:=by unfold tpI;rw[if_neg (by omega)]
 have hq:=qu_ hp hm hs ht i j
 have hc:=bA_ hp hs j
 have hc2:=bA_ hm ht (j- 1- i)
 have hqm:=b3_ (coP p j) (coP m (j- 1- i))
 have e1:j* (s+t+1)≤(d+1) * (s+t+1):=Nat.mul_le_mul_right _ (by omega)
 have e2:(d+2) * (s+t+1)=(d+1) * (s+t+1)+(s+t+1):=Nat.succ_mul _ _
 have hmul:=de_ (coP p j) (coP m (j- 1- i)) (by omega)
 have hadd:=f4_ (tpI p m j i i) (coP p j* coP m (j- 1- i)) (by rw[hv];omega)
 have hgm:(pE m)[((j- 1- i:Int)).toNat]?=some (qC (coP m (j- 1- i))):=by
  rw[show((j:Int)- 1- i).toNat=j- 1- i by omega]
  exact bO_ (be_ (by omega))
 refine q_z 1 ?_
 refine ac_ (cT (ai_ (ac_ (ah_ (r_z 2 ?_)))))
 refine r_d hmix 19 ?_
 refine a_5 ?_
 first|refine aM_ (.load_l rfl rfl (getT (i:=i) (d:=d) (f:=tpI p m j i) (by omega) (by omega)) tg_35.h ts_35.h (nle rfl)) rfl rfl ?_|refine aM_ (.load_a rfl (getT (i:=i) (d:=d) (f:=tpI p m j i) (by omega) (by omega)) tg_35.h ts_35.h (nle rfl)) rfl rfl ?_
 refine a_7 ?_
 refine i_x hgm ?_
 refine l_x hgm ?_
 refine c_s (hmul) ?_
 refine c_s (hadd) ?_
 refine a_1 ?_
 refine o_1n (.store rfl rfl (getT (i:=i) (d:=d) (f:=tpI p m j i) (by omega) (by omega)) rfl rfl rfl ts_35.h (nle rfl)) ?_
 refine ak_ (n_k ?_)
 refine r_m 2 ?_
 refine a_z ?_
 refine⟨i+1,by omega,hlt2,?_⟩
 rw[mb_]
 refine at_ [] rfl rfl rfl au_r (fun hs=>au_f) (fun hs=>?_)
 ·repeat' (first|exact aq_|refine al_ rfl rfl rfl rfl ?_ ?_)
  all_goals (first|((try exact ae_ (CvL.clo hs hWc));(try exact aO_ hs (aJ_ [coP p j]));(try exact aH_ hs (setT hlt2 (by omega) (Nat.zero_add i)) (aJ_ _));done)|exact au_e)
 have hge:i=j:=by omega
 subst hge
 refine q_z 1 ?_
 refine ac_ (cF (av_ ⟨(),trivial,?_⟩))
 try simp only[mb_]
 refine at_ [] rfl rfl rfl au_r (fun hs=>au_f) (fun hs=>?_)
 ·repeat' (first|exact aq_|refine al_ rfl rfl rfl rfl ?_ ?_)
  all_goals (first|((try exact ae_ (CvL.clo hs hWc));(try exact aO_ hs (aJ_ _));done)|exact au_e)
 rintro _ _
 rw[mb_,tpI_e]
 refine r_m 2 ?_
 refine a_z ?_
 refine⟨j+1,by omega,hlt,?_⟩
 rw[q3_]
 refine at_ [] rfl rfl rfl au_r (fun hs=>au_f) (fun hs=>?_)
 ·repeat' (first|exact aq_|refine al_ rfl rfl rfl rfl ?_ ?_)
  all_goals (first|((try exact ae_ (CvL.clo hs hWc));(try exact aO_ hs (aJ_ _));done)|exact au_e)
 have hge:j=d+1:=by omega
 subst hge
 refine q_z 1 ?_
 refine ac_ (cF (av_ ⟨(),trivial,?_⟩))
 rw[etp]
 refine at_ [(1,4)] rfl rfl rfl au_r (fun hs=>?_) (fun hs=>?_)
 ·repeat' (first|exact aK_|refine aE_ rfl ?_ ?_)
  all_goals (first|(exact dR_ hs rfl (aQ_ rfl) rfl (by rw[←etp];simp))|exact au_c)
 ·repeat' (first|exact aq_|refine al_ rfl rfl rfl rfl ?_ ?_)
  all_goals (first|exact au_e|(refine ae_ ?_;repeat' (first|exact ap_|refine af_ ?_ ?_)))
  all_goals (first|(exact dR_ hs rfl (aQ_ rfl) rfl (by rw[←etp];simp))|exact au_c)
 rintro _ _
 refine r_c 11 (hde) ?_
 refine c_s (hbz) ?_
 refine a_z ?_
 refine r_c 8 (d9_ _ iv hmu) ?_
 refine c_s (nM_ _ p hdi hp0) ?_
 refine a_z ?_
 exact ag_ (c_e (ao_ (bw_ _ _)))

end Go.Proofs.YtdjfjpeoddmamaaGreatDoor
