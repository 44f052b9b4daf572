/- Part S27 of the proof. -/
import Derived.Test.YtkhclghbcicapaaGreatDoorS26
set_option linter.all false
namespace Go.Proofs.YtkhclghbcicapaaGreatDoor
open Go.Abs
set_option maxRecDepth 20000
set_option maxHeartbeats 2000000
theorem cmpQ_le{a b:Rat}:ft a b≤0↔a≤b:=by
 unfold ft;grind

structure RB (f N h Q r g kk J J2 J3:Nat):Prop where
 c1:∃X T,cH f N (h+5) X T Q=true
 N1:1≤N
 N12:N≤12
 h1:1≤h
 hJ:jB N (h+5+12* N+8) (h+5+12* N+13) r J=true
 gJ:J< g
 QJ:r+J+4≤Q
 S:SB f N (h+5) Q r g (h+5+(h+5+(r+2) * 24+2)+kk+3) J2
 j3:h+5+(r+3) * 24+kk+1≤J3
 g3:J3< g
 Q3:r+J3+4≤Q
 lim:h+5+24* (r+J3+2+(h+5)+1)+(r+J3+2)≤60000000000
 k3:kk≤256
 rw_:(r+2) * 24≤100000
 hb:2* (h+5+12* N+8)+10≤Q
 hb2:h+5≤10000000
 hf:2* (h+5+12* N+8)+6≤f
 gg:549755813890≤g
section
variable {f N h Q r g J J2 J3:Nat}{k:Int}(B:RB f N h Q r g (wi k 256) J J2 J3){p:List Rat}{K:Rat}(hpl:p.length≤24)(lp:(aq p).length≤N)(bp:bdL p h)(Hp:HS p K h){lo hi:Rat}(hlh:lo≤hi)(hlo:ab lo≤p2 r)(hhi:ab hi≤p2 r)
include B hpl lp bp Hp hlh hlo hhi
end

theorem pp(p q:List Rat)(o:ef p q):FS 13 [.arr (pE p),.arr (pE q)] (.arr (pE (aT p q))):=
 GI p q (mxL p) (mxL q) (eJ p) (eJ q) (ej p) (ej q) o.1 o.2.1 o.2.2.1 o.2.2.2
theorem ct{a b:List AV}(ha:∀c∈a,Closed c)(hb:∀c∈b,Closed c):∀c∈a++b,Closed c:=fun c hc=>(List.mem_append.1 hc).elim (ha c) (hb c)
theorem fs_SNeg(a b:Rat):FS 177 [.agg (spC a b)] (.agg (spC (-b) (-a))):=by
 refine f_c Tryz.func177 ?_;refine r_z 2 ?_;refine ae (r_d aY 8 ?_);refine c_s (jU b) ?_;refine c_s (jU a) ?_;refine a_2 ?_;refine ao (n_k ?_);exact ai (c_e (bG _ _))
def absL(v:Sp):Rat:=if 0≤v.1 then v.1 else if v.2≤0 then -v.2 else 0
theorem sg_ge{q:Rat}:(0:Int)≤sgZ q.num↔0≤q:=by
 have h:=sgZ_num_lt (q:=q);constructor;intro g;have:¬q< 0:=fun e=>by have:=h.2 e;omega
 grind;intro g;have:¬sgZ q.num< 0:=fun e=>by have:=h.1 e;grind
 omega
theorem sg_le{q:Rat}:sgZ q.num≤(0:Int)↔q≤0:=by
 have h:=sgZ_num_gt (q:=q);constructor;intro g;have:¬0< q:=fun e=>by have:=h.2 e;omega
 grind;intro g;have:¬0< sgZ q.num:=fun e=>by have:=h.1 e;grind
 omega
theorem fs_SAbs(v:Sp)(h1:sm v.1)(h2:sm v.2):FS 140 [.agg (spC v.1 v.2)] (.agg (spC (absL v) (Cm v))):=by
 have hc:∀c∈spC v.1 v.2,Closed c:=a6 _ _;refine f_c Tryz.func140 ?_;refine r_z 2 ?_;refine ae (aj ?_);by_cases g1:0≤v.1;rw[show absL v=v.1 from if_pos g1,show Cm v=v.2 from if_pos g1];refine r_c 5 (ci v.1) ?_;refine o_0 (.bin rfl rfl (vT iI (decide_eq_true (sg_ge.2 g1)))) ?_;refine a_z ?_;refine cT (r_z 2 ?_);exact ai (c_e (bG _ _));refine r_c 5 (ci v.1) ?_;refine o_0 (.bin rfl rfl (vF iI (decide_eq_false (fun e=>g1 (sg_ge.1 e))))) ?_;refine a_z ?_;refine cF ?_;by_cases g2:v.2≤0;rw[show absL v= -v.2 from(if_neg g1).trans (if_pos g2),show Cm v= -v.1 from(if_neg g1).trans (if_pos g2)];refine r_c 5 (ci v.2) ?_;refine o_0 (.bin rfl rfl (vT gQ (decide_eq_true (sg_le.2 g2)))) ?_;refine a_z ?_;refine cT (r_c 3 (fs_SNeg v.1 v.2) ?_);refine a_z ?_;exact ai (c_e (bG _ _));rw[show absL v=0 from(if_neg g1).trans (if_neg g2),show Cm v=nS [-v.1,v.2] from(if_neg g1).trans (if_neg g2)];refine r_c 5 (ci v.2) ?_;refine o_0 (.bin rfl rfl (vF gQ (decide_eq_false (fun e=>g2 (sg_le.1 e))))) ?_;refine a_z ?_;refine cF (am ?_);have a:=xn [-v.1,v.2] (wz (by unfold sm;rw[iN];exact h1) h2) (by simp);refine ae (r_d aY 10 ?_);refine c_s (jU v.1) ?_;refine a_3 ?_;refine o_1 (.callS1 rfl rfl rfl (.shut rfl d_n (.nil)) rfl (a)) ?_;refine a_2 ?_;refine ao (n_k ?_);refine ai ?_;rw[show spC 0 (nS [-v.1,v.2])=[.arr [],bln false,.arr []]++qC (nS [-v.1,v.2]) from by unfold spC;rw[qC0]];refine Fin.cell rfl rfl rfl TG.h TS.h (nle rfl) ?_
 exact Cv.agg (ah (Cv.emp _) (ah (ak aD (ag _)) (ah (Cv.emp _) (CvL.clo aD (a8 _)))))
abbrev prC(p:List Rat×List Rat):List AV:=[.arr (pE p.1),.arr (pE p.2)]
def kE(k:Ke):List (List AV):=k.map prC
@[simp] theorem dU (k:Ke):(kE k).length=k.length:=by simp[kE]
theorem fv(p:List Rat×List Rat):∀c∈prC p,Closed c:=ac (ax _) (ac (ax _) af)
theorem dD(k:Ke):∀x∈kE k,∀c∈x,Closed c:=fun x a=>by
 obtain⟨p,_,rfl⟩:=List.mem_map.1 a;exact fv p
theorem aV(k:Ke):Closed (.arr (kE k)):=aG (dD k)
theorem kX{k:Ke}{i:Nat}{p:List Rat×List Rat}(h:k[i]?=some p):∀e,e=i→(kE k)[e]?=some (prC p):=fun e a=>by
 rw[a,kE,List.getElem?_map,h];rfl
def Cf(p:List Rat×List Rat):Bool:=decide (12< if bv p.2> bv p.1 then bv p.2 else bv p.1)
theorem EJ(p:List Rat×List Rat)(h1:p.1.length≤1099511627776)(h2:p.2.length≤1099511627776):FS 167 [.agg (prC p)] (bln (Cf p)):=by
 refine f_n Tryz.func167 ?_ ?_;exact ac (aA (fv p)) af;refine r_z 2 ?_;refine ae (r_d aY 9 ?_);refine c_s (cI p.1 h1) ?_;refine c_s (cI p.2 h2) ?_;refine a_3 ?_;refine ao (n_k ?_);exact ai (t_e (ag _))
def ju{α:Type}(t:α→Bool):List α→Int→Int
 |[],_=> -1
 |a::l,i=>if t a then i else ju t l (i+1)
theorem o0{α:Type}(t:α→Bool):∀(l:List α) (i:Int),0≤i→(decide (0≤ju t l i))=l.any t
 |[],i,_=>by simp[ju]
 |a::l,i,hi=>by
  unfold ju;cases h:t a with
  |true=>simp[h,hi]
  |false=>simp[h];rw[←o0 t l (i+1) (by omega)]
theorem xO{α:Type}{l:List α}{i:Nat}{a:α}(h:l[i]?=some a):l.drop i=a::l.drop (i+1):=by
 obtain⟨h1,b⟩:=List.getElem?_eq_some_iff.1 h;rw[←b];exact List.drop_eq_getElem_cons h1
def ikS(k:Ke)(g:Nat)(cap:List AV):Nat→AState
 |i=>⟨[(0,.arr (kE k)),(1,.clos g [] cap),(7,i64 k.length),(8,i64 i)],[],1,19⟩
theorem EF(k:Ke)(g:Nat)(cap:List AV)(t:List Rat×List Rat→Bool)(hcap:∀c∈cap,Closed c)(hl:k.length≤1099511627776)(hg:∀p∈k,FS g ((.agg (prC p)::cap).map coe) (bln (t p))):FS 196 [.arr (kE k),.clos g [] cap] (i64 (ju t k 0)):=by
 have d:Closed (.clos g [] cap):=aQ af hcap;have j:(kE k).length=k.length:=dU k;refine f_n Tryz.func196 ?_ ?_;exact ac (aV k) (ac d af);obtain⟨R,h⟩:∃R,R=ju t k 0:=⟨_,rfl⟩;rw[←h];refine r_z 1 ?_;refine ae (r_z 3 ?_);refine aH (fun _:Unit=>⟨[],[],1,19⟩) (fun _=>R= -1) ?_ ?_;refine aj (aB (ikS k g cap) (fun i=>k.length- i) (fun i=>i≤k.length∧ju t (k.drop i) i=R) 0 ⟨Nat.zero_le _,by rw[h];rfl⟩ ?_ ?_);simp only[ikS.eq_1];exact s_x [] (fun hs=>e_41) (fun hs=>e_42);rintro i ⟨l,a⟩;rw[ikS.eq_1];by_cases hlt:i< k.length;refine q_z 1 ?_;refine ae (cT (am ?_));obtain⟨p,hp⟩:∃p,k[i]?=some p:=⟨_,List.getElem?_eq_getElem hlt⟩;have b:(kE k)[((i:Nat):Int).toNat]?=some (prC p):=kX hp _ (by simp);rw[xO hp,ju] at a;refine ae (aj (r_z 2 ?_));refine s_r 6 ?_;refine a_3 ?_;refine i_x b ?_;refine l_x b ?_;refine c_s (hg p (List.mem_of_getElem? hp)) ?_;refine ao ?_;refine ap rfl (fun h1=>?_) (fun h1=>?_);have e:t p=true:=h1;rw[if_pos e] at a;refine r_z 2 ?_;refine ai (aU rfl ?_ ?_);rw[←a];exact ag _;have e:¬t p=true:=by rw[show t p=false from h1];decide
 rw[if_neg e] at a;refine am (r_m 2 ?_);refine a_z ?_;refine⟨i+1,by omega,⟨hlt,a⟩,?_⟩;simp only[ikS.eq_1];exact s_x [] (fun hs=>e_41) (fun hs=>e_42);have f:i=k.length:=by omega
 subst f;refine q_z 1 ?_;refine ae (cF ?_);rw[List.drop_length] at a;refine ay ⟨(),a.symm,?_⟩;exact s_e [];rintro _ a;refine r_z 1 ?_;refine ai (aU rfl ?_ ?_);rw[a];rfl;exact ag _
theorem xt(k:Ke)(g:Nat)(cap:List AV)(t:List Rat×List Rat→Bool)(hcap:∀c∈cap,Closed c)(hl:k.length≤1099511627776)(hg:∀p∈k,FS g ((.agg (prC p)::cap).map coe) (bln (t p)))(hcap2:cap.map coe=cap):FS 166 [.arr (kE k),.clos g [] cap] (bln (k.any t)):=by
 have a:Closed (.clos g [] cap):=aQ af hcap;have e:=o0 t k 0 (Int.le_refl 0);have b:=EF k g cap t hcap hl hg;refine f_n Tryz.func166 ?_ ?_;exact ac (aV k) (ac a af);refine r_z 1 ?_;refine r_c 5 (b) ?_;refine a_z ?_;refine ai (aU rfl ?_ ?_);rw[←e];rfl;exact ag _
def qj(k:Ke):Prop:=k.length≤8∧k.any Cf=false∧∀p∈k,p.1.length≤1099511627776∧p.2.length≤1099511627776
theorem BO(k:Ke)(h:qj k):FS 136 [.arr (kE k)] (i64 0):=by
 have a:(kE k).length=k.length:=dU k;have hc:=xt k 167 [] Cf af (by have:=h.1;omega) (fun p hp=>EJ p (h.2.2 p hp).1 (h.2.2 p hp).2) rfl;rw[h.2.1] at hc;have hl:=h.1;refine f_n Tryz.func136 ?_ ?_;exact ac (aV k) af;refine r_z 1 ?_;refine ae (q_c 7 (hc) ?_);refine a_z ?_;refine cF (am (r_z 1 ?_));exact ai (t_e (ag _))
theorem vC(k:Ke)(a b:Rat)(h:qj k)(ha:sm a)(hb:sm b)(hab:a≤b):FS 85 [.arr (kE k),.agg (spC a b)] (bln false):=by
 have h1:=BO k h;have c:=ng a b ha hb;rw[decide_eq_true (cmpQ_le.2 hab)] at c;refine f_n Tryz.func85 ?_ ?_;exact ac (aV k) (ac (bG _ _) af);refine r_z 2 ?_;refine r_c 9 (h1) ?_;refine o_0 (.bin rfl rfl (vF cb (rfl))) ?_;refine c_s (c) ?_;refine a_z ?_;exact ai (t_e (ag _))
abbrev eqC(k:Ke)(l:Rat)(g:List Rat):List AV:= .arr (kE k)::(qC l++[.arr (pE g)])
theorem cL(k:Ke)(l:Rat)(g:List Rat):∀c∈eqC k l g,Closed c:=ac (aV k) fun c hc=>(List.mem_append.1 hc).elim (a8 l c) (ac (ax g) af c)
theorem eR(k:Ke)(l:Rat)(g:List Rat)(a b:Rat)(h:qj k)(ha:sm a)(hb:sm b)(hab:a≤b)(hg:bv g≤20)(hgl:g.length≤1099511627776):FS 42 [.agg (eqC k l g++spC a b)] (bln false):=by
 have h1:=vC k a b h ha hb hab;have d:=cI g hgl;have e:∀c∈eqC k l g++spC a b,Closed c:=fun c hc=>(List.mem_append.1 hc).elim (cL k l g c) (a6 a b c);refine f_c Tryz.func42 ?_;refine r_z 2 ?_;refine r_c 14 (h1) ?_;refine c_s (d) ?_;refine d_z ?_;exact ai (t_e (ag _))
theorem pi(a b:Rat)(hb:b≠0)(h:qs a+qs b≤549755813888):FS 58 [.agg (qC a),.agg (qC b)] (.agg (qC (a/ b))):=by
 refine f_c Tryz.func58 ?_;refine r_z 3 ?_;refine r_c 9 (BH a b hb h) ?_;refine a_z ?_;refine r_z 2 ?_;exact ai (c_e (aP _))
theorem fs_cut(p:List Rat)(n:Nat)(hp:p.length≤1099511627776)(hn:n≤1000000):FS 44 [.arr (pE p),i64 n] (.arr (pE (B4 p n))):=by
 have c:(pE p).length=p.length:=by simp[pE]
 obtain⟨m,b⟩:∃m,m=min p.length (n+1):=⟨_,rfl⟩
 have ht:p.take m=p.take (n+1):=by
  rw[b];by_cases g:p.length≤n+1;rw[Nat.min_eq_left g,List.take_of_length_le (Nat.le_refl _),List.take_of_length_le g];rw[Nat.min_eq_right (by omega)]
 have e:(pE p).take m=pE (p.take (n+1)):=by rw[←ht];simp[pE,List.map_take]
 have a:=dc (p.take (n+1)) (by rw[List.length_take];omega);refine f_c Tryz.func44 ?_;refine r_z 1 ?_;refine s_r 9 ?_;refine a_6 ?_;refine o_0 (.sa_hE (h:=m) e rfl rfl (by rw[b];split <;> omega) (by omega) te_36.h (kV _)) ?_;refine c_s (a) ?_;refine a_z ?_;exact ai (t_e (ax _))
def qS(p:List Rat×List Rat):Bool:=decide (12< bv p.1)||decide (12< bv p.2)
def vaB(k:Ke):Bool:=!k.any qS && decide (k.length≤8)
theorem ES(p:List Rat×List Rat):Cf p=qS p:=by
 unfold Cf qS;by_cases h1:12< bv p.1;rw[decide_eq_true h1,Bool.true_or,decide_eq_true];split <;> omega;by_cases h2:12< bv p.2;rw[decide_eq_true h2,Bool.or_true,decide_eq_true];split <;> omega;rw[decide_eq_false h1,decide_eq_false h2,Bool.or_false,decide_eq_false];split <;> omega
def vkS(k:Ke):Nat→AState
 |i=>⟨[(0,.arr (keR k)),(3,i64 i)],[],1,29⟩
theorem By(k:Ke)(hl:k.length≤1000)(h2:∀p∈k,p.1.length≤1000000∧p.2.length≤1000000):FS 83 [.arr (keR k)] (bln (vaB k)):=by
 have j:(keR k).length=k.length:=nU k;refine f_n Tryz.func83 ?_ ?_;exact ac (fw k) af;obtain⟨r,n⟩:∃r,r=vaB k:=⟨_,rfl⟩;rw[←n];refine r_z 1 ?_;refine ae (r_z 1 ?_);refine aH (fun _:Unit=>⟨[(0,.arr (keR k))],[],1,29⟩) (fun _=> ∀p∈k,qS p=false) ?_ ?_;refine aj (aB (vkS k) (fun i=>k.length- i) (fun i=>i≤k.length∧∀p∈k.take i,qS p=false) 0 ⟨Nat.zero_le _,fun p hp=>by simp at hp⟩ ?_ ?_);rw[vkS.eq_1];have:=fw k;exact s_f [];rintro i ⟨o,b⟩;rw[vkS.eq_1];by_cases hlt:i< k.length;obtain⟨p,hp⟩:∃p,k[i]?=some p:=⟨_,List.getElem?_eq_getElem hlt⟩;have a:(keR k)[((i:Nat):Int).toNat]?=some (pkR p):=keR_get hp _ (by simp);have d:=List.mem_of_getElem? hp;obtain⟨l1,l2⟩:=h2 p d;have d1:=ij (rP p.1) (by simp;omega);have d2:=ij (rP p.2) (by simp;omega);rw[sE] at d1 d2
 have f:qS p=true→r=false:=fun e=>by
  rw[n];unfold vaB;rw[List.any_eq_true.2 ⟨p,d,e⟩];rfl
 by_cases e1:12< bv p.1;refine ae (q_z 4 ?_);refine cT (am (ae (aj (s_r 16 ?_))));refine a_2 ?_;refine i_x a ?_;refine a_1 ?_;refine l_1 a ?_;refine c_s (d1) ?_;refine d_z ?_;refine cT ?_;rw[f (by unfold qS;rw[decide_eq_true e1];rfl)];refine r_z 1 ?_;exact ai (t_e (ag _));by_cases e2:12< bv p.2;refine ae (q_z 4 ?_);refine cT (am (ae (aj (s_r 16 ?_))));refine a_2 ?_;refine i_x a ?_;refine a_1 ?_;refine l_1 a ?_;refine c_s (d1) ?_;refine d_4 ?_;refine aF rfl rfl rfl (.index_a rfl rfl (by omega) a rfl te_84.h) rfl rfl ?_;refine m_1 ?_;refine aF rfl rfl rfl (.load_a1 rfl a TG.h rfl) rfl rfl ?_;refine c_s (d2) ?_;refine d_z ?_;refine cT ?_;rw[f (by unfold qS;rw[decide_eq_true e2,Bool.or_true])];refine r_z 1 ?_;exact ai (t_e (ag _));refine ae (q_z 4 ?_);refine cT (am (ae (aj (s_r 16 ?_))));refine a_2 ?_;refine i_x a ?_;refine a_1 ?_;refine l_1 a ?_;refine c_s (d1) ?_;refine d_4 ?_;refine aF rfl rfl rfl (.index_a rfl rfl (by omega) a rfl te_84.h) rfl rfl ?_;refine m_1 ?_;refine aF rfl rfl rfl (.load_a1 rfl a TG.h rfl) rfl rfl ?_;refine c_s (d2) ?_;refine d_z ?_;refine cF (am (r_m 3 ?_));refine a_z ?_;refine⟨i+1,by omega,⟨by omega,fun q c=>?_⟩,?_⟩;rw[cw hp] at c;rcases List.mem_append.1 c with c|c
 exact b q c;rw[List.mem_singleton.1 c];unfold qS;rw[decide_eq_false e1,decide_eq_false e2];rfl;rw[vkS.eq_1];have:=fw k;exact s_f [];have l:i=k.length:=by omega
 refine ae (q_z 4 ?_);refine cF (ay ⟨(),(by rw[l,List.take_length] at b;exact b),?_⟩);have:=fw k;exact s_f [];rintro _ g
 have m:r=decide (((keR k).length:Int)≤8):=by
  rw[n];unfold vaB;have:k.any qS=false:=List.any_eq_false.2 fun p hp=>by rw[g p hp];decide
  rw[this,j];show decide (k.length≤8)=_;exact decide_eq_decide.2 (by omega)
 rw[m];refine r_z 4 ?_;exact ai (t_e (ag _))
theorem GD(k:Ke)(g:List Rat)(hl:k.length≤1000)(h2:∀p∈k,p.1.length≤1000000∧p.2.length≤1000000)(hg:g.length≤1000000):FS 31 [.arr (keR k),.arr (rE (rP g))] (bln (!vaB k||decide (20< bv g))):=by
 have hv:=By k hl h2;have a:=ij (rP g) (by simp;omega);rw[sE] at a;refine f_n Tryz.func31 ?_ ?_;exact ac (fw k) (ac (eS _) af);refine r_z 1 ?_;cases e:vaB k with
 |false=>
  rw[e] at hv;refine r_c 9 (hv) ?_;refine d_z ?_;exact ai (t_e (ag _))
 |true=>
  rw[e] at hv;refine r_c 9 (hv) ?_;refine e_s (a) ?_;refine d_z ?_;exact ai (t_e (ag _))
theorem smL_one{v:Rat}(h:sm v):smL [v]:=fun x a=>by rw[List.mem_singleton.1 a];exact h
def upS(k:Ke)(a:Rat)(u:List Rat):Nat×List Rat→AState
 |(i,o)=>⟨[(2,.arr (pE u)),(4,.lptr 1 0 0),(7,.arr (pE o)),(11,.arr (kE k)),(12,i64 k.length),(13,i64 i)],[(1,some ⟨34,3,[qC a]⟩)],2,35⟩
theorem Gk(k:Ke)(a:Rat)(u:List Rat)(h:yM k a u)(hl:k.length≤1000):FS 45 [.arr (kE k),.agg (qC a),.arr (pE u)] (.arr (pE (upK k a u))):=by
 have e:(kE k).length=k.length:=dU k;refine f_n Tryz.func45 ?_ ?_;exact ac (aV k) (ac (aP a) (ac (ax u) af));refine r_z 2 ?_;refine r_z 1 ?_;refine ae (r_z 3 ?_);refine aH (fun _:Unit=>⟨[(7,.arr (pE (upK k a u)))],[],1,35⟩) (fun _=>True) ?_ ?_;refine aj (aB (upS k a u) (fun x=>k.length- x.1) (fun x=>x.1≤k.length∧x.2=upL a u (k.take x.1) []) (0,[]) ⟨Nat.zero_le _,rfl⟩ ?_ ?_);simp only[upS.eq_1];exact s_x [(1,4)] (fun hs=>e_43) (fun hs=>e_44);rintro⟨i,o⟩ ⟨l,c⟩;simp only at l c;rw[upS.eq_1];by_cases hlt:i< k.length;obtain⟨p,hp⟩:∃p,k[i]?=some p:=⟨_,List.getElem?_eq_getElem hlt⟩;have b:(kE k)[((i:Nat):Int).toNat]?=some (prC p):=kX hp _ (by simp);have ok:=h i p hp;rw[←c] at ok;have h1:=pp p.2 u ok.m1;have m:=rn (aT p.2 u) (tA ok.m1) ok.i1;have g:=jJ (aJ (aT p.2 u)) a ok.e1;have f:=BK (aJ (aT p.2 u)) [au (aJ (aT p.2 u)) a] ok.i2 (smL_one (tZ ok.e1)) ok.l1 (by simp);have n:=pp p.1 _ ok.m2;have j:=jW o _ ok.o1 (tA ok.m2) ok.o2 ok.l2;refine q_z 1 ?_;refine ae (cT (am (ae (aj (s_r 4 ?_)))));refine i_x b ?_;refine l_x b ?_;refine a_z ?_;refine r_c 6 (h1) ?_;refine c_s (m) ?_;refine a_z ?_;refine r_d aY 12 ?_;refine c_s (g) ?_;refine a_1 ?_;refine o_1 (.callS1 rfl rfl rfl (.keep (.shut rfl d_n (.nil))) rfl (f)) ?_;refine c_s (n) ?_;refine c_s (j) ?_;refine a_1 ?_;refine ao (n_k ?_);refine r_m 2 ?_;refine a_z ?_;refine⟨(i+1,upF a u o p),by simp only;omega,⟨hlt,by simp only;rw[cw hp,yg,←c]⟩,?_⟩;simp only[upS.eq_1];unfold upF;exact s_x [] (fun hs=>e_43) (fun hs=>e_44)
 have d:i=k.length:=by omega
 subst d;refine q_z 1 ?_;refine ae (cF ?_);rw[List.take_length] at c;refine ay ⟨(),trivial,?_⟩;unfold upK;rw[←c];exact s_e [];rintro _ _;refine r_z 2 ?_;exact ai (t_e (ax _))
theorem Es(a:Rat)(p:List Rat×List Rat)(h1:fY [a,1] p.1∧p.1.length≤274877906944)(h2:fY [a,1] p.2∧p.2.length≤274877906944):FS 108 [.agg (prC p),bQ a] (.agg (prC (b6 [a,1] p.1,b6 [a,1] p.2))):=by
 have c:=tS p.1 a h1.1 h1.2;have b:=tS p.2 a h2.1 h2.2;refine f_n Tryz.func108 ?_ ?_;exact ac (aA (fv p)) (ac (cn a) af);refine r_z 2 ?_;refine ae (r_d aY 10 ?_);refine c_s (c) ?_;refine c_s (b) ?_;refine a_2 ?_;refine ao (n_k ?_);exact ai (c_e (aA (fv _)))
def ecS(k:Ke)(g:Nat)(cap:List AV)(f:List Rat×List Rat→List Rat×List Rat):Nat→AState
 |0=>⟨[(1,.clos g [] cap),(8,.arr (kE k)),(9,i64 k.length),(10,i64 0),(5,.emp)],[],1,22⟩
 |i+1=>⟨[(1,.clos g [] cap),(8,.arr (kE k)),(9,i64 k.length),(10,i64 ((i+1:Nat):Int)),(5,.lsl 1 0 (i+1) none 2)],[(1,some ⟨61,2,kE ((k.take (i+1)).map f)⟩)],2,22⟩
theorem Gb(k:Ke):(kE k).all (·.all AV.one)=true:=by
 rw[List.all_eq_true];intro x a;obtain⟨p,_,rfl⟩:=List.mem_map.1 a;rfl
theorem C6(k:Ke)(p:List Rat×List Rat):kE (k++[p])=kE k++[prC p]:=by simp[kE]
theorem GA(k:Ke)(g:Nat)(cap:List AV)(f:List Rat×List Rat→List Rat×List Rat)(hcap:∀c∈cap,Closed c)(hl:k.length≤1000)(hg:∀p∈k,FS g ((.agg (prC p)::cap).map coe) (.agg (prC (f p)))):FS 107 [.arr (kE k),.clos g [] cap] (.arr (kE (k.map f))):=by
 have q:(kE k).length=k.length:=dU k;have d:Closed (.clos g [] cap):=aQ af hcap;refine f_n Tryz.func107 ?_ ?_;exact ac (aV k) (ac d af);refine r_z 1 ?_;refine r_z 1 ?_;refine ae (r_z 3 ?_);refine aH (fun _:Unit=>⟨[(5,.arr (kE (k.map f)))],[],1,22⟩) (fun _=>True) ?_ ?_;refine aj (aB (ecS k g cap f) (fun i=>k.length- i) (fun i=>i≤k.length) 0 (Nat.zero_le _) ?_ ?_);rw[ecS.eq_1];exact s_x [] (fun hs=>e_3) (fun hs=>e_45);intro i r;by_cases hlt:i< k.length
 ·obtain⟨p,hp⟩:∃p,k[i]?=some p:=⟨_,List.getElem?_eq_getElem hlt⟩
  have j:=hg p (List.mem_of_getElem? hp);have n:(k.take (i+1)).length=i+1:=by rw[List.length_take];omega
  have b:kE ((k.take i).map f)++[prC (f p)]=kE ((k.take (i+1)).map f):=by rw[cw hp,List.map_append,List.map_singleton,C6]
  cases i with
  |zero=>
   have a:(kE k)[((0:Int)).toNat]?=some (prC p):=kX hp _ rfl;rw[ecS.eq_1];refine q_z 1 ?_;refine ae (cT (am (ae (aj (s_r 4 ?_)))));refine i_x a ?_;refine l_x a ?_;refine a_z ?_;refine r_m 7 ?_;refine c_s (j) ?_;refine a_z ?_;refine r_m 2 ?_;refine a_z ?_;refine⟨0+1,by omega,by omega,?_⟩;rw[ecS.eq_2];rw[←b];refine s_x [(1,5)] (fun hs=>e_3) (fun hs=>?_)
   ·repeat' (first|exact aE|refine h_c ?_ ?_|exact bC hs (dD [f p])|exact bF|refine aC ?_|exact av|refine ah ?_ ?_|exact ak hs (aV k)|exact ak hs d|exact aW)
  |succ i=>
   have a:(kE k)[(((i+1:Nat):Int)).toNat]?=some (prC p):=kX hp _ (by simp);have o:=Gb ((k.take (i+1)).map f);have e:(kE ((k.take (i+1)).map f)).length=i+1:=by rw[dU,List.length_map,List.length_take];omega
   rw[ecS.eq_2];refine q_z 1 ?_;refine ae (cT (am (ae (aj (s_r 4 ?_)))));refine i_x a ?_;refine l_x a ?_;refine a_z ?_;refine r_m 7 ?_;refine c_s (j) ?_;refine o_1 (.buildSlice te_26.h TZ.h rfl (by decide) rfl rfl rfl (by first|(simp;done)|(simp[b7,ofV];done)|rfl)) ?_;refine o_2 (.append_l rfl rfl rfl te_26.h rfl rfl rfl rfl rfl d_o (by first|exact eE _|exact eA _|exact dJ _|exact eG _|exact er _|assumption|rfl|simp) (by first|rfl|exact eE _|exact eA _|exact dJ _|exact eG _|exact er _|simp) rfl (.lsl rfl (nle rfl)) TZ.h rfl TB.h d_o (by first|(simp[maxLen];done)|(simp[maxLen];omega))) ?_;refine o_0 (.assign rfl) ?_;refine ao ?_;refine r_m 2 ?_;refine a_z ?_;refine⟨i+1+1,by omega,by omega,?_⟩;rw[ecS.eq_2];refine s_x [(1,5)] (fun hs=>e_3) (fun hs=>?_)
   ·repeat' (first|exact aE|refine h_c ?_ ?_|exact aI hs b (dD _)|exact bF|refine aC ?_|exact av|refine ah ?_ ?_|exact ak hs (aV k)|exact ak hs d|exact aW)
 have l:i=k.length:=by omega
 cases i with
 |zero=>
  have m:k=[]:=List.eq_nil_of_length_eq_zero l.symm;subst m;rw[ecS.eq_1];refine q_z 1 ?_;refine ae (cF (ay ⟨(),trivial,?_⟩));exact s_e []
 |succ i=>
  have e:(kE (k.map f)).length=i+1:=by rw[dU,List.length_map];omega
  rw[ecS.eq_2,l,List.take_length];refine q_z 1 ?_;refine ae (cF (ay ⟨(),trivial,?_⟩));refine s_x [] (fun hs=>?_) (fun hs=>?_)
  ·repeat' (first|exact aK|refine az rfl ?_ ?_|(refine Cv.shut hs rfl (aM rfl) (by simp) ?_;exact aI hs (by rw[List.drop_zero];exact List.take_of_length_le (by simp)) (dD _))|exact aW)
  ·repeat' (first|exact aE|refine h_c ?_ ?_|exact bF|refine aC ?_|exact av|refine ah ?_ ?_|(refine Cv.shut hs rfl (aM rfl) (by simp) ?_;exact aI hs (by rw[List.drop_zero];exact List.take_of_length_le (by simp)) (dD _))|exact aW)
 rintro _ _;refine r_z 2 ?_;exact ai (t_e (aV _))
theorem Gv(k:Ke)(l:Rat)(g:List Rat)(a:Rat)(hl:k.length≤1000)(hk:∀p∈k,(fY [a,1] p.1∧p.1.length≤274877906944)∧fY [a,1] p.2∧p.2.length≤274877906944)(hg:fY [a,1] g)(hgl:g.length≤274877906944):FS 43 [.agg (eqC k l g),.agg (qC a)] (.agg (eqC (mvK a k) l (b6 [a,1] g))):=by
 have h1:=GA k 108 [bQ a] (fun p=>(b6 [a,1] p.1,b6 [a,1] p.2)) (ac (cn a) af) hl fun p hp=>Es a p (hk p hp).1 (hk p hp).2;have c:=tS g a hg hgl;have b:=cL k l g;refine f_c Tryz.func43 ?_;refine r_z 3 ?_;refine AWp.ent (st':=⟨[(2,.aptr [eqC k l g] 0 0),(3,bQ a),(4,.lptr 1 0 0)],[(1,some ⟨38,5,[.emp::(zC++[.emp])]⟩)],2,16⟩) ?_ ?_;refine s_x [(1,4)] (fun hs=>?_) (fun hs=>?_)
 ·repeat' (first|exact aK|refine az rfl ?_ ?_|exact Cv.boxp hs rfl (aM rfl) rfl b|exact Cv.boxp hs rfl (aM rfl) rfl (a8 a)|exact aW)
 ·repeat' (first|exact aE|refine h_c ?_ ?_|exact bF|refine aC ?_|exact av|refine ah ?_ ?_|exact Cv.boxp hs rfl (aM rfl) rfl b|exact Cv.boxp hs rfl (aM rfl) rfl (a8 a)|exact aW)
 refine ae (r_d aY 12 ?_);refine c_s (h1) ?_;refine c_s (c) ?_;refine a_2 ?_;refine ao (n_k ?_);exact ai (c_e (aA (cL _ _ _)))
theorem spC00:spC 0 0=[.arr [],bln false,.arr [],.arr [],bln false,.arr []]:=by unfold spC;rw[qC0];rfl
theorem Bt(k:Ke)(l:Rat)(g:List Rat)(h:qj k)(hg:bv g≤20)(hgl:g.length≤1099511627776):FS 42 [.agg (eqC k l g++[.arr [],bln false,.arr [],.arr [],bln false,.arr []])] (bln false):=by
 have:=eR k l g 0 0 h (by decide) (by decide) Rat.le_refl hg hgl;rw[spC00] at this;exact this
theorem Gm(k:Ke)(u:List Rat)(h:yM k 0 u)(hl:k.length≤1000):FS 45 [.arr (kE k),.agg [.arr [],bln false,.arr []],.arr (pE u)] (.arr (pE (upK k 0 u))):=by
 have:=Gk k 0 u h hl;rw[qC0] at this;exact this
structure OkSe (k:Ke)(l:Rat)(g:List Rat)(a:Rat)(n:Nat):Prop where
 ke:qj k
 dg:bv g≤20
 mv:∀p∈k,(fY [a,1] p.1∧p.1.length≤274877906944)∧fY [a,1] p.2∧p.2.length≤274877906944
 mg:fY [a,1] g
 gl:g.length≤274877906944
 sl:sm l
 sg:smL (b6 [a,1] g)
 gl2:(b6 [a,1] g).length≤1099511627776
 up:∀r,r≤n→yM (mvK a k) 0 (seK (mvK a k) (b6 [a,1] g) l n r)
 us:∀r,r≤n→smL (upK (mvK a k) 0 (seK (mvK a k) (b6 [a,1] g) l n r))∧(upK (mvK a k) 0 (seK (mvK a k) (b6 [a,1] g) l n r)).length≤1099511627776
 ss:∀r,r≤n→smL (aZ (upK (mvK a k) 0 (seK (mvK a k) (b6 [a,1] g) l n r)) l)
def seS(k:Ke)(l:Rat)(g:List Rat)(a:Rat)(n:Nat):Nat→AState
 |r=>⟨[(2,i64 n),(9,.lptr 1 0 0),(10,.arr (pE (seK (mvK a k) (b6 [a,1] g) l n r))),(29,i64 ((n:Int)+1)),(30,i64 r)],[(1,some ⟨38,5,[eqC (mvK a k) l (b6 [a,1] g)]⟩)],2,47⟩
theorem EA(k:Ke)(l:Rat)(g:List Rat)(a:Rat)(n:Nat)(hn:n≤40)(hok:OkSe k l g a n):FS 9 [.agg (eqC k l g),.agg (qC a),i64 n] (.tup [.arr (pE (seK (mvK a k) (b6 [a,1] g) l n (n+1))),i64 0]):=by
 have m:=cL k l g;have o:=cL (mvK a k) l (b6 [a,1] g);have i:=hok.ke.1;have j:(mvK a k).length=k.length:=by simp[mvK]
 have q:=Bt k l g hok.ke hok.dg (by have:=hok.gl;omega);have p:=Gv k l g a (by omega) hok.mv hok.mg hok.gl;refine f_c Tryz.func9 ?_;refine r_z 4 ?_;refine r_z 5 ?_;refine ae (aj (r_c 3 (q) ?_));refine a_z ?_;refine cF (q_z 7 ?_);refine cF (am (r_c 6 (p) ?_));refine a_z ?_;refine r_z 1 ?_;refine ae (r_z 3 ?_);refine aH (fun _:Unit=>⟨[(10,.arr (pE (seK (mvK a k) (b6 [a,1] g) l n (n+1))))],[],1,47⟩) (fun _=>True) ?_ ?_;refine aj (aB (seS k l g a n) (fun r=>n+1- r) (fun r=>r≤n+1) 0 (Nat.zero_le _) ?_ ?_);simp only[seS.eq_1];exact s_f [(1,9)];intro r t;rw[seS.eq_1];by_cases hlt:r< n+1;have d:=Gm (mvK a k) _ (hok.up r (by omega)) (by omega);have b:=hok.us r (by omega);have c:=eD _ l b.1 hok.sl b.2;have e:=jW (b6 [a,1] g) _ hok.sg (hok.ss r (by omega)) hok.gl2 (Nat.le_trans (cy _ _) b.2)
 have f:=fs_cut (fa (b6 [a,1] g) (aZ (upK (mvK a k) 0 (seK (mvK a k) (b6 [a,1] g) l n r)) l)) n (by
  have h1:=gR (b6 [a,1] g) (aZ (upK (mvK a k) 0 (seK (mvK a k) (b6 [a,1] g) l n r)) l);have s:=cy (upK (mvK a k) 0 (seK (mvK a k) (b6 [a,1] g) l n r)) l;have:=hok.gl2;have:=b.2;omega) (by omega)
 refine q_z 1 ?_;refine ae (cT (am (ae (aj (r_d aY 14 ?_)))));refine c_s (d) ?_;refine c_s (c) ?_;refine c_s (e) ?_;refine c_s (f) ?_;refine a_1 ?_;refine ao (n_k ?_);refine r_m 2 ?_;refine a_z ?_;refine⟨r+1,by omega,by omega,?_⟩;simp only[seS.eq_1];rw[seK];exact s_f [(1,9)];have h:r=n+1:=by omega
 subst h;refine q_z 1 ?_;refine ae (cF (ay ⟨(),trivial,?_⟩));exact s_e [];rintro _ _;refine r_z 3 ?_;refine ai (Fin.many ⟨_,_,rfl,rfl,⟨_,_,rfl,rfl,rfl⟩⟩ (nle rfl) ?_);exact ah (ak aD (ax _)) (ah (ak aD (ag _)) av)
theorem vm{k:Ke}(hkl:k.length≤3)(h4:∀p∈k,p.1.length≤4∧p.2.length≤4):qj k:=by
 refine⟨by omega,?_,fun p hp=>by have:=h4 p hp;omega⟩;rw[List.any_eq_false];intro p hp;have h:=h4 p hp;have a:=bU p.1;have b:=bU p.2
 have:¬(12< if bv p.2> bv p.1 then bv p.2 else bv p.1):=by
  unfold bv;split <;> omega
 unfold Cf;simpa using this
theorem xR(g:List Rat){n:Nat}(h:g.length≤n+1):bv g≤n:=by
 have:=bU g;unfold bv;omega
theorem EV{k:Ke}{l:Rat}{g:List Rat}{a:Rat}{n:Nat}(hn:n≤40)(hkl:k.length≤3)(h4:∀p∈k,p.1.length≤4∧p.2.length≤4)(hb:∀p∈k,bdL p.1 20∧bdL p.2 20)(hg:g.length≤5)(bg:bdL g 20)(hl:qs l≤20)(ha:qs a≤20):OkSe k l g a n:=by
 obtain⟨Q,F,x,C,E,A,w⟩:=HM hkl h4 hb;obtain⟨c,i,d0⟩:=Co ha;obtain⟨o,q,y⟩:=Co hl;obtain⟨J,v⟩:=yc g bg;have v:=v.mono (show _≤101 by omega);obtain⟨z,D,s,m,u,j,h⟩:=EW x C E A w d0 i c;obtain⟨B,e⟩:=HS_shift' (N:=4) d0 i c v (by omega);have e:=e.mono (show _≤3000 by omega);have lg:=jx a g;have f:(mvK a k).length≤900:=by unfold mvK;simp;omega
 have S:=fun r (t:r≤1000)=>Fp (k:=mvK a k) (G:=b6 [a,1] g) (L:=l) s f (by omega) (by omega) m u j h e y q o hn r t;have U:=fun r (t:r≤1000) (K:Rat) (H:HS (seK (mvK a k) (b6 [a,1] g) l n r) K (20000* r+1))=>wr (a:=0) (d:=1) s f (by have:=wF (mvK a k) (b6 [a,1] g) l n r;omega) H (by decide) (IB.one.mono (by omega)) ((IB.zero 20).eq (by grind)) (by decide) (by omega) m u j h (by omega);refine⟨vm hkl h4,by have:=xR g (n:=4) (by omega);omega,fun p hp=>?_,?_,by omega,by unfold sm;omega,cW (e.bdL (by omega)) (by omega),by omega,fun r t=>(S r (by omega)).2,fun r t=>?_,fun r t=>?_⟩;obtain⟨O,M⟩:=h4 p hp;exact⟨⟨mV (N:=3) d0 i c ha (by omega) (by omega) (by omega) _ (by omega) (x.a p hp),by omega⟩,mV (N:=3) d0 i c ha (by omega) (by omega) (by omega) _ (by omega) (x.b p hp),by omega⟩;exact mV (N:=4) d0 i c ha (by omega) (by omega) (by omega) _ (by omega) v;obtain⟨K,H⟩:=(S r (by omega)).1;obtain⟨u1,u2,_⟩:=U r (by omega) K H;have hl:=wF (mvK a k) (b6 [a,1] g) l n r;exact⟨cW (u1.bdL (by omega)) (by omega),by omega⟩;obtain⟨K,H⟩:=(S r (by omega)).1;obtain⟨u1,u2,_⟩:=U r (by omega) K H;exact cW ((u1.k y q o).bdL (by omega)) (by omega)
theorem any_big(k:Ke):k.any Cf=k.any qS:=by
 congr 1;exact funext ES
theorem okKe_va{k:Ke}(h:vaB k=true)(h2:∀p∈k,p.1.length≤1099511627776∧p.2.length≤1099511627776):qj k:=by
 unfold vaB at h;simp only[Bool.and_eq_true,Bool.not_eq_true',decide_eq_true_eq] at h;exact⟨h.2,by rw[any_big];exact h.1,h2⟩
theorem EC(l:List eM)(ho:okR l)(hl:l.length≤9223372036854775807):
    FS 29 [.arr (nR l)] (if 40< l.length then .tup [.arr (pE []),.arr (rE []),bln false] else .tup [.arr (pE (nL l)),.arr (rE (rP (nL l))),bln (fc l 5||decide (20< bv (nL l)))]):=by
 have c:(nR l).length=l.length:=by simp[nR]
 have b:=aG (ce l);by_cases h40:40< l.length;rw[if_pos h40];refine f_c Tryz.func29 ?_;refine r_z 3 ?_;refine ae (q_z 3 ?_);refine cT (r_z 3 ?_);refine ai (Fin.many ⟨_,_,rfl,rfl,⟨_,_,rfl,rfl,⟨_,_,rfl,rfl,rfl⟩⟩⟩ (nle rfl) ?_);exact ah (Cv.emp _) (ah (Cv.emp _) (ah (ak aD (ag _)) av));rw[if_neg h40];have hb:=tV l (by omega) ho;have ht:=po l 5 hl (by decide);have a:=ij (rP (nL l)) (by simp[nL];omega);rw[sE] at a;cases e:fc l 5 with
 |true=>
  rw[e] at ht;refine f_c Tryz.func29 ?_;refine r_z 3 ?_;refine ae (q_z 3 ?_);refine cF (am (r_c 7 (hb) ?_));refine a_z ?_;refine r_c 12 (ht) ?_;refine d_z ?_;refine ai (Fin.many ⟨_,_,rfl,rfl,⟨_,_,rfl,rfl,⟨_,_,rfl,rfl,rfl⟩⟩⟩ (nle rfl) ?_);exact ah (ak aD (ax _)) (ah (ak aD (eS _)) (ah (ak aD (ag _)) av))
 |false=>
  rw[e] at ht;refine f_c Tryz.func29 ?_;refine r_z 3 ?_;refine ae (q_z 3 ?_);refine cF (am (r_c 7 (hb) ?_));refine a_z ?_;refine r_c 12 (ht) ?_;refine e_s (a) ?_;refine d_z ?_;refine ai (Fin.many ⟨_,_,rfl,rfl,⟨_,_,rfl,rfl,⟨_,_,rfl,rfl,rfl⟩⟩⟩ (nle rfl) ?_);exact ah (ak aD (ax _)) (ah (ak aD (eS _)) (ah (ak aD (ag _)) av))
def fiO(A:Nat→Nat→Rat)(n g:Nat)(cap:List AV)(i:Nat):AState:=⟨[(0,i64 n),(1,.clos g [] cap),(5,.lsl 1 0 n (some n) 1),(11,i64 n),(12,i64 i)],mzH 3 35 34 (foE (fun _=>n) (fun x=>x) n i) (fiL A n i),40,35⟩
def fiE(A:Nat→Nat→Rat)(n:Nat):AState:=⟨[(5,.lsl 1 0 n (some n) 1)],mzH 3 35 34 (foE (fun _=>n) (fun x=>x) n n) (fiL A n n),40,35⟩
def fiI(A:Nat→Nat→Rat)(n g:Nat)(cap:List AV)(i:Nat):Nat→AState
 |0=>⟨[(0,i64 n),(1,.clos g [] cap),(5,.lsl 1 0 n (some n) 1),(6,i64 i),(11,i64 n),(12,i64 i),(15,i64 n),(16,i64 0)],mzH 3 35 34 (foE (fun _=>n) (fun x=>x) n i) (fiL A n i),40,35⟩
 |j+1=>⟨[(0,i64 n),(1,.clos g [] cap),(5,.lsl 1 0 n (some n) 1),(6,i64 i),(11,i64 n),(12,i64 i),(15,i64 n),(16,i64 ((j+1:Nat):Int))],mzH 3 35 34 (foE (wJ n i (j+1)) (fun x=>x) n (i+1)) (fiL A n i++[pE (aS (j+1) (A i))]),40,35⟩
theorem zG{r:Ren}{hp hp':Nat→Option ABlk}{fr fr':Fr}{g:Nat}{cap:List AV}(hs:Shr r hp hp')(hcc:Closed (.clos g [] cap))(h:CvF r hp hp' fr fr':=by repeat' (first|exact aK|refine az rfl ?_ ?_|exact ak hs hcc|exact ak hs (ag _)|exact Cv.sl rfl rfl rfl|(refine Cv.loE hs ?_ (ag _);simp[i64];done))):CvF r hp hp' fr fr':=h
theorem DS(A:Nat→Nat→Rat)(n g:Nat)(cap:List AV)(hn:n≤25)(hcap:∀c∈cap,Closed c)(hg:∀i j:Nat,i< n→j< n→FS g ((i64 i::i64 j::cap).map coe) (.agg (qC (A i j)))):
    XSpecT Tryz.prog 143 [i64 n,.clos g [] cap] [] 1 (.lsl 1 0 n (some n) 1) (mzH 3 35 34 (mzO 3 (fun _=>n) (fun x=>x) n) (fiL A n n)) 40:=by
 have hcc:Closed (.clos g [] cap):=aQ af hcap;refine XSpecT.enter (t:=4) Tryz.func143 rfl (by kernel_rfl) rfl rfl rfl rfl rfl ?_;refine r_z 1 ?_;refine r_z 3 ?_;refine ae (r_z 3 ?_);refine aH (fun _:Unit=>fiE A n) (fun _=>True) ?_ ?_
 ·refine aj (aB (fiO A n g cap) (fun i=>n- i) (fun i=>i≤n) 0 (Nat.zero_le _) ?_ ?_)
  rw[fiO.eq_1];refine SEntT.ent (SEntT.mz (fun x=>cond (Nat.beq x 1) 3 x) _ (List.replicate n [.emp]) _ (by simp) rfl (fun i j h1 h2 h3 h4 _=>by rw[k4] at h2 h4;omega) rfl (by rw[foE_0]) ?_ ?_ ?_);intro i e hi;exact absurd (n4 hi).1 (by omega);intro hs;rw[foE_0];exact bC hs fun e he c hc=>by rw[(List.mem_replicate.1 he).2,List.mem_singleton] at hc;rw[hc];exact cM
  exact fun hs=>zG hs hcc;intro i hi;rw[fiO.eq_1];by_cases hlt:i< n;rotate_left;have hge:i=n:=by omega
  subst hge;refine q_z 1 ?_;refine ae (cF (ay ⟨(),trivial,?_⟩));refine SEntT.ent (SEntT.mz (fun x=>x) _ _ _ (by simp;omega) rfl (fun i j _ _ _ _ e=>e) rfl rfl ?_ ?_ ?_);intro k e hk;obtain⟨h1,rfl⟩:=n4 hk;exact⟨c6 (fb h1),aL _⟩;exact fun hs=>kK hs (by omega) fun k hk=>by rw[c6 (fb hk)];rfl
  exact fun hs=>zG hs hcc;refine q_z 1 ?_;refine ae (cT (am (ae (aj (r_z 2 ?_)))));refine r_z 2 ?_;refine AWp.cutB (fun _:Unit=>fiI A n g cap i n) (fun _=>True) ?_ ?_;refine aj (aB (fiI A n g cap i) (fun j=>n- j) (fun j=>j≤n) 0 (Nat.zero_le _) ?_ ?_);rw[fiI.eq_1];refine SEntT.ent (SEntT.mz (fun x=>x) _ _ _ (by simp;omega) rfl (fun i j _ _ _ _ e=>e) rfl rfl ?_ ?_ ?_);intro k e hk;obtain⟨h1,rfl⟩:=n4 hk;exact⟨c6 (fb h1),aL _⟩;exact fun hs=>kK hs (by omega) fun k hk=>by rw[c6 (fb hk)];rfl
  exact fun hs=>zG hs hcc;intro j hj;by_cases hjn:j< n
  ·have hg1:=hg i j hlt hjn
   cases j with
   |zero=>
    rw[fiI.eq_1];refine q_z 1 ?_;refine ae (cT (am (ae (aj (r_z 2 ?_)))));refine r_d aY 14 ?_;refine a_5 ?_;refine aO (.load_l1 rfl rfl (foE_ge' (Nat.le_refl _) hlt _ (by omega)) TG.h rfl) rfl rfl ?_;refine c_s (hg1) ?_;refine a_3 ?_;refine dX (.store rfl rfl (foE_ge' (Nat.le_refl _) hlt _ (by omega)) rfl rfl rfl TS.h (nle rfl)) ?_;refine ao (n_k ?_);refine r_m 2 ?_;refine a_z ?_;refine⟨0+1,by omega,by omega,?_⟩;rw[fiI.eq_2];refine SEntT.ent (SEntT.mz (fiR i 54) _ (foE (wJ n i (0+1)) (fiR i 54) n (i+1)) _ (by simp;omega) (zJ _ _) (fun x y _ h2 _ h4 e=>pu (m:=40) (Nat.le_refl _) (by decide) x y (by simp at h2;omega) (by simp at h4;omega) e) ?_ ?_ ?_ ?_ ?_);rw[zH,←fi_set0 hlt (0+((i:Nat):Int).toNat) (by omega)];rfl;rw[ik hlt,ik hlt];intro k e hk;rcases BR hk with⟨h1,rfl⟩|⟨rfl,rfl⟩
    ·rw[iy (by omega)]
     refine⟨?_,aL _⟩
     repeat rw[bt (by omega)]
     exact c6 (fb h1)
    rw[ni];exact⟨rfl,aL _⟩
    exact fun hs=>kK hs (by omega) fun k hk=>by
     by_cases hki:k< i;rw[c6 (qE hki)];rfl;obtain rfl:k=i:=by omega
     rw[c6 pv];rfl
    exact fun hs=>zG hs hcc
   |succ j=>
    rw[fiI.eq_2];have hlen:(pE (aS (j+1) (A i))).length=j+1:=by simp[pE]
    have hrw:∀(k:Nat) (B:Option ABlk),k≠i+2→dm (an ((k,B)::mzH 3 35 34 (foE (wJ n i (j+1)) (fun x=>x) n (i+1)) (fiL A n i++[pE (aS (j+1) (A i))]))) (i+2)=some ⟨34,3,pE (aS (j+1) (A i))⟩:=fun k B hk=>dy (by rw[bt hk];exact c6 pv) (show(3:Nat)≠0 by decide);have hi53:(53:Nat)≠i+2:=by omega
    refine q_z 1 ?_;refine ae (cT (am (ae (aj (r_z 2 ?_)))));refine r_d aY 14 ?_;refine a_5 ?_;refine aO (.load_l1 rfl rfl (foE_lt' (Nat.lt_succ_self _) Cs _ (by omega)) TG.h rfl) rfl rfl ?_;refine c_s (hg1) ?_;refine a_1 ?_;refine o_2 (.append_l rfl rfl rfl te_35.h rfl rfl (hrw 53 _ hi53) rfl rfl hlen (dJ _) (by rfl) rfl (.lsl rfl (nle rfl)) TZ.h rfl TB.h (by first|rfl|assumption|(simp;done)|(simp;omega)|omega) (by first|(simp[maxLen];done)|(simp[maxLen];omega))) ?_;refine a_1 ?_;refine dX (.store rfl rfl (foE_lt' (Nat.lt_succ_self _) Cs _ (by omega)) rfl rfl rfl TS.h (nle rfl)) ?_;refine ao (n_k ?_);refine r_m 2 ?_;refine a_z ?_;refine⟨j+1+1,by omega,by omega,?_⟩;rw[fiI.eq_2];refine SEntT.ent (SEntT.mz (fiR i 54) _ (foE (wJ n i (j+1+1)) (fiR i 54) n (i+1)) _ (by simp;omega) (zJ _ _) (fun x y _ h2 _ h4 e=>pu (m:=40) (Nat.le_refl _) (by decide) x y (by simp at h2;omega) (by simp at h4;omega) e) ?_ ?_ ?_ ?_ ?_);rw[zH,←fi_set hlt (0+((i:Nat):Int).toNat) (by omega)];rfl;rw[ik hlt,ik hlt];intro k e hk;rcases BR hk with⟨h1,rfl⟩|⟨rfl,rfl⟩
    ·rw[iy (by omega)]
     refine⟨?_,aL _⟩
     repeat rw[bt (by omega)]
     exact c6 (qE h1)
    rw[ni];refine⟨?_,aL _⟩;rw[u6 (j+1),j6];rfl
    exact fun hs=>kK hs (by omega) fun k hk=>by
     by_cases hki:k< i;rw[c6 (qE hki)];rfl;obtain rfl:k=i:=by omega
     rw[c6 pv];rfl
    exact fun hs=>zG hs hcc
  have hge:j=n:=by omega
  obtain⟨j,rfl⟩:∃j',j=j'+1:=⟨j- 1,by omega⟩;rw[fiI.eq_2];refine q_z 1 ?_;refine ae (cF (ay ⟨(),trivial,?_⟩));rw[←hge,fiI.eq_2];refine SEntT.ent (SEntT.mz (fun x=>x) _ _ _ (by simp;omega) rfl (fun i j _ _ _ _ e=>e) rfl rfl ?_ ?_ ?_);intro k e hk;rcases BR hk with⟨h1,rfl⟩|⟨rfl,rfl⟩
  exact⟨c6 (qE h1),aL _⟩;exact⟨c6 pv,aL _⟩
  exact fun hs=>kK hs (by omega) fun k hk=>by
   by_cases hki:k< i;rw[c6 (qE hki)];rfl;obtain rfl:k=i:=by omega
   rw[c6 pv];rfl
  exact fun hs=>zG hs hcc;rintro _ _;obtain⟨m,rfl⟩:∃m,n=m+1:=⟨n- 1,by omega⟩;rw[fiI.eq_2,GQ,EK (w:=wJ (m+1) i (m+1)) (w':=fun _=>m+1) (s':=fun x=>x) (fun k hk=>⟨by unfold wJ;cases Nat.blt k i <;> rfl,rfl⟩)];refine r_m 2 ?_;refine a_z ?_;refine⟨i+1,by omega,by omega,?_⟩;rw[fiO.eq_1];refine SEntT.ent (SEntT.mz (fun x=>x) _ _ _ (by simp;omega) rfl (fun i j _ _ _ _ e=>e) rfl rfl ?_ ?_ ?_);intro k e hk;obtain⟨h1,rfl⟩:=n4 hk;exact⟨c6 (fb h1),aL _⟩;exact fun hs=>kK hs (by omega) fun k hk=>by rw[c6 (fb hk)];rfl
  exact fun hs=>zG hs hcc
 rintro _ _;show AWp _ _ _ _ ⟨[(5,.lsl 1 0 n (some n) 1)],mzH 3 35 34 (foE (fun _=>n) (fun x=>x) n n) (fiL A n n),40,35⟩;rw[foE_n];refine r_z 2 ?_;refine ai (FinXT.of (SEntT.mz (fun x=>x) _ _ _ (by simp;omega) rfl (fun i j _ _ _ _ e=>e) rfl rfl ?_ ?_ ?_));intro k e hk;obtain⟨h1,rfl⟩:=n4 hk;exact⟨c6 (fb h1),aL _⟩;exact fun hs=>pQ (by omega) fun k hk=>by rw[c6 (fb hk)];rfl
 exact fun hs=>zG hs hcc
def inQ(p:List Rat)(a b:Rat):Rat:=au (aJ p) b- au (aJ p) a
structure OkIn (p:List Rat)(a b:Rat):Prop where
 s:smL p
 l:p.length≤1099511627775
 e1:e8 (aJ p) b
 e2:e8 (aJ p) a
 d:qs (au (aJ p) b)+qs (au (aJ p) a)≤549755813888
theorem lY(p:List Rat)(a b:Rat)(h:OkIn p a b):FS 71 [.arr (pE p),.agg (spC a b)] (.agg (qC (inQ p a b))):=by
 refine f_c Tryz.func71 ?_;refine r_z 2 ?_;refine r_c 3 (rn p h.s h.l) ?_;refine a_z ?_;refine ae (r_d aY 10 ?_);refine c_s (jJ _ b h.e1) ?_;refine c_s (jJ _ a h.e2) ?_;refine c_s (kZ _ _ h.d) ?_;refine a_1 ?_;refine ao (n_k ?_);exact ai (c_e (aP _))
def bKe(k:Ke):AV:= .aptr [[.arr (kE k)]] 0 0
def bSp(a b:Rat):AV:= .aptr [spC a b] 0 0
theorem eT(k:Ke):Closed (bKe k):=a7 (ac (aV k) af)
theorem bD(a b:Rat):Closed (bSp a b):=a7 (a6 a b)
theorem BB(k:Ke)(a b:Rat)(i j:Nat)(p q:List Rat×List Rat)(hp:k[i]?=some p)(hq:k[j]?=some q)(hl:k.length≤1000)(hm:ef p.2 q.1)(ho:OkIn (aT p.2 q.1) a b):
    FS 144 [i64 i,i64 j,bKe k,bSp a b] (.agg (qC (inQ (aT p.2 q.1) a b))):=by
 have e:(kE k).length=k.length:=dU k;have h1:i< k.length:=(List.getElem?_eq_some_iff.1 hp).1;have f:j< k.length:=(List.getElem?_eq_some_iff.1 hq).1;have d:(kE k)[((i:Nat):Int).toNat]?=some (prC p):=kX hp _ (by simp);have c:(kE k)[((j:Nat):Int).toNat]?=some (prC q):=kX hq _ (by simp);refine f_n Tryz.func144 ?_ ?_;exact ac (ag _) (ac (ag _) (ac (eT k) (ac (bD a b) af)));refine r_z 1 ?_;refine ae (r_d aY 14 ?_);refine a_2 ?_;refine i_x d ?_;refine a_1 ?_;refine l_1 d ?_;refine a_2 ?_;refine i_x c ?_;refine a_1 ?_;refine l_1 c ?_;refine c_s (pp p.2 q.1 hm) ?_;refine c_s (lY _ a b ho) ?_;refine a_1 ?_;refine ao (n_k ?_);exact ai (c_e (aP _))
def maK(k:Ke)(a b:Rat)(i j:Nat):Rat:=inQ (aT (k.getD i ([],[])).2 (k.getD j ([],[])).1) a b
structure OkMa (k:Ke)(a b:Rat):Prop where
 l:k.length≤8
 m:∀p∈k,∀q∈k,ef p.2 q.1∧OkIn (aT p.2 q.1) a b
theorem Bz(k:Ke)(a b:Rat)(h:OkMa k a b)(i j:Nat)(hi:i< k.length)(hj:j< k.length):FS 144 ((i64 i::i64 j::[bKe k,bSp a b]).map coe) (.agg (qC (maK k a b i j))):=by
 obtain⟨p,hp⟩:∃p,k[i]?=some p:=⟨_,List.getElem?_eq_getElem hi⟩;obtain⟨q,c⟩:∃q,k[j]?=some q:=⟨_,List.getElem?_eq_getElem hj⟩;have d:=h.m p (List.mem_of_getElem? hp) q (List.mem_of_getElem? c);have e:maK k a b i j=inQ (aT p.2 q.1) a b:=by unfold maK;rw[List.getD_eq_getElem?_getD,List.getD_eq_getElem?_getD,hp,c];rfl
 rw[e];exact BB k a b i j p q hp c (by have:=h.l;omega) d.1 d.2
theorem pS(k:Ke)(a b:Rat)(h:OkMa k a b):
    XSpecT Tryz.prog 92 [.arr (kE k),.agg (spC a b)] [] 1 (.lsl 1 0 k.length (some k.length) 1) (mzH 3 35 34 (mzO 3 (fun _=>k.length) (fun x=>x) k.length) (fiL (maK k a b) k.length k.length)) 40:=by
 have c:(kE k).length=k.length:=dU k;have hl:=h.l;have m:=(DS (maK k a b) k.length 144 [bKe k,bSp a b] (by omega) (ac (eT k) (ac (bD a b) af)) (Bz k a b h)).x;refine XSpecT.enter (t:=4) Tryz.func92 rfl (by kernel_rfl) rfl rfl rfl rfl rfl ?_;refine r_z 3 ?_;refine AWp.ent (st':=⟨[(2,bKe k),(3,bSp a b)],[],1,9⟩) ?_ ?_;refine s_x [] (fun hs=>?_) (fun hs=>?_)
 ·repeat' (first|exact aK|refine az rfl ?_ ?_|exact Cv.boxp hs rfl (aM rfl) rfl (ac (aV k) af)|exact Cv.boxp hs rfl (aM rfl) rfl (a6 a b)|exact aW)
 ·repeat' (first|exact aE|refine h_c ?_ ?_|exact bF|refine aC ?_|exact av|refine ah ?_ ?_|exact Cv.boxp hs rfl (aM rfl) rfl (ac (aV k) af)|exact Cv.boxp hs rfl (aM rfl) rfl (a6 a b)|exact aW)
 refine ae (AWp.regX (fr2:=[(6,i64 k.length),(7,.clos 144 [] [bKe k,bSp a b])]) (hp2:=[]) (nx2:=1) (fr3:=[]) 3 rfl rfl rfl rfl rfl rfl ?_ rfl rfl rfl m (fun t x f=>by cases f) (fun t x f=>by cases f) ?_);refine aO (.load_a1 rfl rfl TG.h rfl) rfl rfl ?_;refine aO (.len rfl rfl rfl rfl rfl te_27.h) rfl rfl ?_;refine o_0 (.makeFunc rfl rfl) ?_;refine ao ?_;refine s_y [] (fun hs=>?_) (fun hs=>?_)
 ·repeat' (first|exact aK|refine az rfl ?_ ?_|exact ak hs (aQ af (ac (eT k) (ac (bD a b) af)))|(refine Cv.loE hs ?_ (ag _);simp[i64,c];done)|exact aW)
 ·repeat' (first|exact aE|refine h_c ?_ ?_|exact bF|refine aC ?_|exact av|refine ah ?_ ?_|exact ak hs (aQ af (ac (eT k) (ac (bD a b) af)))|(refine Cv.loE hs ?_ (ag _);simp[i64,c];done)|exact aW)
 refine o_0 (.assign rfl) ?_;refine ao ?_;refine ai (FinXT.of (SEntT.mz (fun x=>x) _ _ _ (by simp;omega) rfl (fun i j _ _ _ _ e=>e) rfl rfl ?_ ?_ ?_));intro g e d;obtain⟨h1,rfl⟩:=n4 d;exact⟨c6 (fb h1),aL _⟩;exact fun hs=>pQ (by omega) fun g d=>by rw[c6 (fb d)];rfl
 exact fun hs=>az rfl (Cv.sl rfl rfl rfl) aK
end Go.Proofs.YtkhclghbcicapaaGreatDoor
