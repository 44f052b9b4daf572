/- Part V28 of the proof. -/
import Derived.Test.YtjkddcfoolilbaaGreatDoorV27
set_option linter.all false
namespace Go.Proofs.YtjkddcfoolilbaaGreatDoor
open Go.Abs
set_option maxRecDepth 20000
set_option maxHeartbeats 2000000
theorem kS_(p q:List Rat)(o:okMul p q):FS 76 [.arr (pE p),.arr (pE q)] (.arr (pE (mulP p q))):=
 fs_Mul p q (mxL p) (mxL q) (c3_ p) (c3_ q) (cW_ p) (cW_ q) o.1 o.2.1 o.2.2.1 o.2.2.2
theorem cf_{a b:List AV}(ha:∀c∈a,Closed c)(hb:∀c∈b,Closed c):∀c∈a++b,Closed c:=fun c hc=>(List.mem_append.1 hc).elim (ha c) (hb c)
theorem fs_SNeg(a b:Rat):FS 194 [.agg (spC a b)] (.agg (spC (-b) (-a))):=by
 refine f_c Tryz.func194 ?_;refine r_z 2 ?_;refine ab_ (r_d hmix 8 ?_);refine c_s (hE_ b) ?_;refine c_s (hE_ a) ?_;refine a_2 ?_;refine al_ (n_k ?_);exact af_ (c_e (aY_ _ _))
def absL(v:Sp):Rat:=if 0≤v.1 then v.1 else if v.2≤0 then -v.2 else 0
theorem sg_ge{q:Rat}:(0:Int)≤sgZ q.num↔0≤q:=by
 have h:=sgZ_num_lt (q:=q);constructor;intro g;have:¬q< 0:=fun e=>by have:=h.2 e;omega
 grind;intro g;have:¬sgZ q.num< 0:=fun e=>by have:=h.1 e;grind
 omega
theorem sg_le{q:Rat}:sgZ q.num≤(0:Int)↔q≤0:=by
 have h:=sgZ_num_gt (q:=q);constructor;intro g;have:¬0< q:=fun e=>by have:=h.2 e;omega
 grind;intro g;have:¬0< sgZ q.num:=fun e=>by have:=h.1 e;grind
 omega
theorem fs_SAbs(v:Sp)(h1:sm v.1)(h2:sm v.2):FS 155 [.agg (spC v.1 v.2)] (.agg (spC (absL v) (absH v))):=by
 have hc:∀c∈spC v.1 v.2,Closed c:=a0_ _ _;refine f_c Tryz.func155 ?_;refine r_z 2 ?_;refine ab_ (ae_ ?_);by_cases g1:0≤v.1;rw[show absL v=v.1 from if_pos g1,show absH v=v.2 from if_pos g1];refine r_c 5 (br_ v.1) ?_;refine o_0 (.bin rfl rfl (vT gN_ (decide_eq_true (sg_ge.2 g1)))) ?_;refine a_z ?_;refine cT (r_z 2 ?_);exact af_ (c_e (aY_ _ _));refine r_c 5 (br_ v.1) ?_;refine o_0 (.bin rfl rfl (vF gN_ (decide_eq_false (fun e=>g1 (sg_ge.1 e))))) ?_;refine a_z ?_;refine cF ?_;by_cases g2:v.2≤0;rw[show absL v= -v.2 from(if_neg g1).trans (if_pos g2),show absH v= -v.1 from(if_neg g1).trans (if_pos g2)];refine r_c 5 (br_ v.2) ?_;refine o_0 (.bin rfl rfl (vT a7_ (decide_eq_true (sg_le.2 g2)))) ?_;refine a_z ?_;refine cT (r_c 3 (fs_SNeg v.1 v.2) ?_);refine a_z ?_;exact af_ (c_e (aY_ _ _));rw[show absL v=0 from(if_neg g1).trans (if_neg g2),show absH v=maxL [-v.1,v.2] from(if_neg g1).trans (if_neg g2)];refine r_c 5 (br_ v.2) ?_;refine o_0 (.bin rfl rfl (vF a7_ (decide_eq_false (fun e=>g2 (sg_le.1 e))))) ?_;refine a_z ?_;refine cF (ah_ ?_);have hm:=oI_ [-v.1,v.2] (mR_ (by unfold sm;rw[eQ_];exact h1) h2) (by simp);refine ab_ (r_d hmix 10 ?_);refine c_s (hE_ v.1) ?_;refine a_3 ?_;refine o_1 (.callS1 rfl rfl rfl (.shut rfl d_n (.nil)) rfl (hm)) ?_;refine a_2 ?_;refine al_ (n_k ?_);refine af_ ?_;rw[show spC 0 (maxL [-v.1,v.2])=[.arr [],bln false,.arr []]++qC (maxL [-v.1,v.2]) from by unfold spC;rw[qC0]];refine Fin.cell rfl rfl rfl TG.h TS.h (nle rfl) ?_
 exact Cv.agg (ai_ (Cv.emp _) (ai_ (ak_ ax_ (ad_ _)) (ai_ (Cv.emp _) (CvL.clo ax_ (aR_ _)))))
abbrev prC(p:List Rat×List Rat):List AV:=[.arr (pE p.1),.arr (pE p.2)]
def kE(k:Ke):List (List AV):=k.map prC
@[simp] theorem b4_ (k:Ke):(kE k).length=k.length:=by simp[kE]
theorem di_(p:List Rat×List Rat):∀c∈prC p,Closed c:=aa_ (ar_ _) (aa_ (ar_ _) ac_)
theorem b9_(k:Ke):∀x∈kE k,∀c∈x,Closed c:=fun x hx=>by
 obtain⟨p,_,rfl⟩:=List.mem_map.1 hx;exact di_ p
theorem aE_(k:Ke):Closed (.arr (kE k)):=aB_ (b9_ k)
theorem gv_{k:Ke}{i:Nat}{p:List Rat×List Rat}(h:k[i]?=some p):∀e,e=i→(kE k)[e]?=some (prC p):=fun e he=>by
 rw[he,kE,List.getElem?_map,h];rfl
def bigP(p:List Rat×List Rat):Bool:=decide (12< if degP p.2> degP p.1 then degP p.2 else degP p.1)
theorem mf_(p:List Rat×List Rat)(h1:p.1.length≤1099511627776)(h2:p.2.length≤1099511627776):FS 173 [.agg (prC p)] (bln (bigP p)):=by
 refine f_n Tryz.func173 ?_ ?_;exact aa_ (ay_ (di_ p)) ac_;refine r_z 2 ?_;refine ab_ (r_d hmix 9 ?_);refine c_s (b5_ p.1 h1) ?_;refine c_s (b5_ p.2 h2) ?_;refine a_3 ?_;refine al_ (n_k ?_);exact af_ (t_e (ad_ _))
def idxA{α:Type}(t:α→Bool):List α→Int→Int
 |[],_=> -1
 |a::l,i=>if t a then i else idxA t l (i+1)
theorem h4_{α:Type}(t:α→Bool):∀(l:List α) (i:Int),0≤i→(decide (0≤idxA t l i))=l.any t
 |[],i,_=>by simp[idxA]
 |a::l,i,hi=>by
  unfold idxA;cases h:t a with
  |true=>simp[h,hi]
  |false=>simp[h];rw[←h4_ t l (i+1) (by omega)]
theorem np_{α:Type}{l:List α}{i:Nat}{a:α}(h:l[i]?=some a):l.drop i=a::l.drop (i+1):=by
 obtain⟨h1,h2⟩:=List.getElem?_eq_some_iff.1 h;rw[←h2];exact List.drop_eq_getElem_cons h1
def ikS(k:Ke)(g:Nat)(cap:List AV):Nat→AState
 |i=>⟨[(0,.arr (kE k)),(1,.clos g [] cap),(7,i64 k.length),(8,i64 i)],[],1,19⟩
theorem sd_(k:Ke)(g:Nat)(cap:List AV)(t:List Rat×List Rat→Bool)(hcap:∀c∈cap,Closed c)(hl:k.length≤1099511627776)(hg:∀p∈k,FS g ((.agg (prC p)::cap).map coe) (bln (t p))):FS 212 [.arr (kE k),.clos g [] cap] (i64 (idxA t k 0)):=by
 have hcc:Closed (.clos g [] cap):=aG_ ac_ hcap;have hkl:(kE k).length=k.length:=b4_ k;refine f_n Tryz.func212 ?_ ?_;exact aa_ (aE_ k) (aa_ hcc ac_);obtain⟨R,hR⟩:∃R,R=idxA t k 0:=⟨_,rfl⟩;rw[←hR];refine r_z 1 ?_;refine ab_ (r_z 3 ?_);refine aw_ (fun _:Unit=>⟨[],[],1,19⟩) (fun _=>R= -1) ?_ ?_;refine ae_ (aq_ (ikS k g cap) (fun i=>k.length- i) (fun i=>i≤k.length∧idxA t (k.drop i) i=R) 0 ⟨Nat.zero_le _,by rw[hR];rfl⟩ ?_ ?_);simp only[ikS.eq_1];exact s_x [] (fun hs=>e_38) (fun hs=>e_39);rintro i ⟨hi,hr⟩;rw[ikS.eq_1];by_cases hlt:i< k.length;refine q_z 1 ?_;refine ab_ (cT (ah_ ?_));obtain⟨p,hp⟩:∃p,k[i]?=some p:=⟨_,List.getElem?_eq_getElem hlt⟩;have hgt:(kE k)[((i:Nat):Int).toNat]?=some (prC p):=gv_ hp _ (by simp);rw[np_ hp,idxA] at hr;refine ab_ (ae_ (r_z 2 ?_));refine s_r 6 ?_;refine a_3 ?_;refine i_x hgt ?_;refine l_x hgt ?_;refine c_s (hg p (List.mem_of_getElem? hp)) ?_;refine al_ ?_;refine aj_ rfl (fun h1=>?_) (fun h1=>?_);have h2:t p=true:=h1;rw[if_pos h2] at hr;refine r_z 2 ?_;refine af_ (aD_ rfl ?_ ?_);rw[←hr];exact ad_ _;have h2:¬t p=true:=by rw[show t p=false from h1];decide
 rw[if_neg h2] at hr;refine ah_ (r_m 2 ?_);refine a_z ?_;refine⟨i+1,by omega,⟨hlt,hr⟩,?_⟩;simp only[ikS.eq_1];exact s_x [] (fun hs=>e_38) (fun hs=>e_39);have hge:i=k.length:=by omega
 subst hge;refine q_z 1 ?_;refine ab_ (cF ?_);rw[List.drop_length] at hr;refine ao_ ⟨(),hr.symm,?_⟩;exact s_e [];rintro _ hr;refine r_z 1 ?_;refine af_ (aD_ rfl ?_ ?_);rw[hr];rfl;exact ad_ _
theorem hF_(k:Ke)(g:Nat)(cap:List AV)(t:List Rat×List Rat→Bool)(hcap:∀c∈cap,Closed c)(hl:k.length≤1099511627776)(hg:∀p∈k,FS g ((.agg (prC p)::cap).map coe) (bln (t p)))(hcap2:cap.map coe=cap):FS 172 [.arr (kE k),.clos g [] cap] (bln (k.any t)):=by
 have hcc:Closed (.clos g [] cap):=aG_ ac_ hcap;have e:=h4_ t k 0 (Int.le_refl 0);have hi:=sd_ k g cap t hcap hl hg;refine f_n Tryz.func172 ?_ ?_;exact aa_ (aE_ k) (aa_ hcc ac_);refine r_z 1 ?_;refine r_c 5 (hi) ?_;refine a_z ?_;refine af_ (aD_ rfl ?_ ?_);rw[←e];rfl;exact ad_ _
def okKe(k:Ke):Prop:=k.length≤8∧k.any bigP=false∧∀p∈k,p.1.length≤1099511627776∧p.2.length≤1099511627776
theorem pZ_(k:Ke)(h:okKe k):FS 125 [.arr (kE k)] (i64 0):=by
 have hkl:(kE k).length=k.length:=b4_ k;have hc:=hF_ k 173 [] bigP ac_ (by have:=h.1;omega) (fun p hp=>mf_ p (h.2.2 p hp).1 (h.2.2 p hp).2) rfl;rw[h.2.1] at hc;have hl:=h.1;refine f_n Tryz.func125 ?_ ?_;exact aa_ (aE_ k) ac_;refine r_z 1 ?_;refine ab_ (q_c 7 (hc) ?_);refine a_z ?_;refine cF (ah_ (r_z 1 ?_));exact af_ (t_e (ad_ _))
theorem iU_(k:Ke)(a b:Rat)(h:okKe k)(ha:sm a)(hb:sm b)(hab:a≤b):FS 91 [.arr (kE k),.agg (spC a b)] (bln false):=by
 have h1:=pZ_ k h;have h2:=gC_ a b ha hb;rw[decide_eq_true (cmpQ_le.2 hab)] at h2;refine f_n Tryz.func91 ?_ ?_;exact aa_ (aE_ k) (aa_ (aY_ _ _) ac_);refine r_z 2 ?_;refine r_c 9 (h1) ?_;refine o_0 (.bin rfl rfl (vF bF_ (rfl))) ?_;refine c_s (h2) ?_;refine a_z ?_;exact af_ (t_e (ad_ _))
abbrev eqC(k:Ke)(l:Rat)(g:List Rat):List AV:= .arr (kE k)::(qC l++[.arr (pE g)])
theorem bB_(k:Ke)(l:Rat)(g:List Rat):∀c∈eqC k l g,Closed c:=aa_ (aE_ k) fun c hc=>(List.mem_append.1 hc).elim (aR_ l c) (aa_ (ar_ g) ac_ c)
theorem ec_(k:Ke)(l:Rat)(g:List Rat)(a b:Rat)(h:okKe k)(ha:sm a)(hb:sm b)(hab:a≤b)(hg:degP g≤20)(hgl:g.length≤1099511627776):FS 42 [.agg (eqC k l g++spC a b)] (bln false):=by
 have h1:=iU_ k a b h ha hb hab;have h2:=b5_ g hgl;have hcl:∀c∈eqC k l g++spC a b,Closed c:=fun c hc=>(List.mem_append.1 hc).elim (bB_ k l g c) (a0_ a b c);refine f_c Tryz.func42 ?_;refine r_z 2 ?_;refine r_c 14 (h1) ?_;refine c_s (h2) ?_;refine d_z ?_;exact af_ (t_e (ad_ _))
theorem kK_(a b:Rat)(hb:b≠0)(h:qs a+qs b≤549755813888):FS 101 [.agg (qC a),.agg (qC b)] (.agg (qC (a/ b))):=by
 refine f_c Tryz.func101 ?_;refine r_z 3 ?_;refine r_c 9 (r3_ a b hb h) ?_;refine a_z ?_;refine r_z 2 ?_;exact af_ (c_e (aC_ _))
theorem fs_cut(p:List Rat)(n:Nat)(hp:p.length≤1099511627776)(hn:n≤1000000):FS 44 [.arr (pE p),i64 n] (.arr (pE (cutP p n))):=by
 have hpl:(pE p).length=p.length:=by simp[pE]
 obtain⟨m,hm⟩:∃m,m=min p.length (n+1):=⟨_,rfl⟩
 have ht:p.take m=p.take (n+1):=by
  rw[hm];by_cases g:p.length≤n+1;rw[Nat.min_eq_left g,List.take_of_length_le (Nat.le_refl _),List.take_of_length_le g];rw[Nat.min_eq_right (by omega)]
 have e:(pE p).take m=pE (p.take (n+1)):=by rw[←ht];simp[pE,List.map_take]
 have htr:=ce_ (p.take (n+1)) (by rw[List.length_take];omega);refine f_c Tryz.func44 ?_;refine r_z 1 ?_;refine s_r 9 ?_;refine a_6 ?_;refine o_0 (.sa_hE (h:=m) e rfl rfl (by rw[hm];split <;> omega) (by omega) te_33.h (f1_ _)) ?_;refine c_s (htr) ?_;refine a_z ?_;exact af_ (t_e (ar_ _))
def bigR(p:List Rat×List Rat):Bool:=decide (12< degP p.1)||decide (12< degP p.2)
def vaB(k:Ke):Bool:=!k.any bigR && decide (k.length≤8)
theorem sS_(p:List Rat×List Rat):bigP p=bigR p:=by
 unfold bigP bigR;by_cases h1:12< degP p.1;rw[decide_eq_true h1,Bool.true_or,decide_eq_true];split <;> omega;by_cases h2:12< degP p.2;rw[decide_eq_true h2,Bool.or_true,decide_eq_true];split <;> omega;rw[decide_eq_false h1,decide_eq_false h2,Bool.or_false,decide_eq_false];split <;> omega
def vkS(k:Ke):Nat→AState
 |i=>⟨[(0,.arr (keR k)),(3,i64 i)],[],1,29⟩
theorem pH_(k:Ke)(hl:k.length≤1000)(h2:∀p∈k,p.1.length≤1000000∧p.2.length≤1000000):FS 46 [.arr (keR k)] (bln (vaB k)):=by
 have hkl:(keR k).length=k.length:=fv_ k;refine f_n Tryz.func46 ?_ ?_;exact aa_ (a1_ k) ac_;obtain⟨r,hr⟩:∃r,r=vaB k:=⟨_,rfl⟩;rw[←hr];refine r_z 1 ?_;refine ab_ (r_z 1 ?_);refine aw_ (fun _:Unit=>⟨[(0,.arr (keR k))],[],1,29⟩) (fun _=> ∀p∈k,bigR p=false) ?_ ?_;refine ae_ (aq_ (vkS k) (fun i=>k.length- i) (fun i=>i≤k.length∧∀p∈k.take i,bigR p=false) 0 ⟨Nat.zero_le _,fun p hp=>by simp at hp⟩ ?_ ?_);rw[vkS.eq_1];have:=a1_ k;exact s_f [];rintro i ⟨hi,hinv⟩;rw[vkS.eq_1];by_cases hlt:i< k.length
 ·obtain⟨p,hp⟩:∃p,k[i]?=some p:=⟨_,List.getElem?_eq_getElem hlt⟩
  have hgt:(keR k)[((i:Nat):Int).toNat]?=some (pkR p):=rC_ hp _ (by simp);have hpm:=List.mem_of_getElem? hp;obtain⟨l1,l2⟩:=h2 p hpm;have d1:=dQ_ (rP p.1) (by simp;omega);have d2:=dQ_ (rP p.2) (by simp;omega);rw[vR_rP] at d1 d2
  have bad:bigR p=true→r=false:=fun e=>by
   rw[hr];unfold vaB;rw[List.any_eq_true.2 ⟨p,hpm,e⟩];rfl
  by_cases e1:12< degP p.1;refine ab_ (s_r 4 ?_);refine a_3 ?_;refine o_0 (.bin rfl rfl (vT a6_ (decide_eq_true (by omega)))) ?_;refine al_ ?_;refine cT (ah_ (ab_ (ae_ (s_r 16 ?_))));refine a_2 ?_;refine i_x hgt ?_;refine a_1 ?_;refine l_1 hgt ?_;refine c_s (d1) ?_;refine o_0 (.bin rfl rfl (vT aU_ (decide_eq_true (by omega)))) ?_;refine a_z ?_;refine cT ?_;rw[bad (by unfold bigR;rw[decide_eq_true e1];rfl)];refine r_z 1 ?_;exact af_ (t_e (ad_ _));by_cases e2:12< degP p.2
  ·refine ab_ (s_r 4 ?_)
   refine a_3 ?_;refine o_0 (.bin rfl rfl (vT a6_ (decide_eq_true (by omega)))) ?_;refine al_ ?_;refine cT (ah_ (ab_ (ae_ (s_r 16 ?_))));refine a_2 ?_;refine i_x hgt ?_;refine a_1 ?_;refine l_1 hgt ?_;refine c_s (d1) ?_;refine o_0 (.bin rfl rfl (vF aU_ (decide_eq_false (by omega)))) ?_;refine a_1 ?_
   first|refine ag_ rfl rfl rfl (.move rfl) rfl rfl ?_|refine au_ rfl rfl (by first|(simp[as_];done)|exact nofun) rfl rfl ?_
   first|refine ag_ rfl rfl rfl (.move rfl) rfl rfl ?_|refine au_ rfl rfl (by first|(simp[as_];done)|exact nofun) rfl rfl ?_
   first|refine ag_ rfl rfl rfl (.index_l rfl rfl (by omega) (by omega) te_29.h) rfl rfl ?_|refine ag_ rfl rfl rfl (.index_a rfl rfl (by omega) hgt rfl te_29.h) rfl rfl ?_
   first|refine ag_ rfl rfl rfl (.fieldAddr_l rfl TF.h (by decide)) rfl rfl ?_|refine ag_ rfl rfl rfl (.fieldAddr_a rfl TF.h (by decide)) rfl rfl ?_|refine au_ rfl rfl (by first|(simp[as_];done)|exact nofun) rfl rfl ?_
   first|refine ag_ rfl rfl rfl (.load_l1 rfl rfl hgt TG.h rfl) rfl rfl ?_|refine ag_ rfl rfl rfl (.load_a1 rfl hgt TG.h rfl) rfl rfl ?_
   refine c_s (d2) ?_;refine ag_ rfl rfl rfl (.bin rfl rfl (vT aU_ (decide_eq_true (by omega)))) rfl rfl ?_;refine a_z ?_;refine cT ?_;rw[bad (by unfold bigR;rw[decide_eq_true e2,Bool.or_true])];refine r_z 1 ?_;exact af_ (t_e (ad_ _))
  refine ab_ (s_r 4 ?_);refine a_3 ?_;refine o_0 (.bin rfl rfl (vT a6_ (decide_eq_true (by omega)))) ?_;refine al_ ?_;refine cT (ah_ (ab_ (ae_ (s_r 16 ?_))));refine a_2 ?_;refine i_x hgt ?_;refine a_1 ?_;refine l_1 hgt ?_;refine c_s (d1) ?_;refine o_0 (.bin rfl rfl (vF aU_ (decide_eq_false (by omega)))) ?_;refine a_1 ?_
  first|refine ag_ rfl rfl rfl (.move rfl) rfl rfl ?_|refine au_ rfl rfl (by first|(simp[as_];done)|exact nofun) rfl rfl ?_
  first|refine ag_ rfl rfl rfl (.move rfl) rfl rfl ?_|refine au_ rfl rfl (by first|(simp[as_];done)|exact nofun) rfl rfl ?_
  first|refine ag_ rfl rfl rfl (.index_l rfl rfl (by omega) (by omega) te_29.h) rfl rfl ?_|refine ag_ rfl rfl rfl (.index_a rfl rfl (by omega) hgt rfl te_29.h) rfl rfl ?_
  first|refine ag_ rfl rfl rfl (.fieldAddr_l rfl TF.h (by decide)) rfl rfl ?_|refine ag_ rfl rfl rfl (.fieldAddr_a rfl TF.h (by decide)) rfl rfl ?_|refine au_ rfl rfl (by first|(simp[as_];done)|exact nofun) rfl rfl ?_
  first|refine ag_ rfl rfl rfl (.load_l1 rfl rfl hgt TG.h rfl) rfl rfl ?_|refine ag_ rfl rfl rfl (.load_a1 rfl hgt TG.h rfl) rfl rfl ?_
  refine c_s (d2) ?_;refine ag_ rfl rfl rfl (.bin rfl rfl (vF aU_ (decide_eq_false (by omega)))) rfl rfl ?_;refine a_z ?_;refine cF (ah_ (r_m 3 ?_));refine a_z ?_;refine⟨i+1,by omega,⟨by omega,fun q hq=>?_⟩,?_⟩;rw[bm_ hp] at hq;rcases List.mem_append.1 hq with hq|hq
  exact hinv q hq;rw[List.mem_singleton.1 hq];unfold bigR;rw[decide_eq_false e1,decide_eq_false e2];rfl;rw[vkS.eq_1];have:=a1_ k;exact s_f []
 have hge:i=k.length:=by omega
 refine ab_ (s_r 4 ?_);refine a_3 ?_;refine o_0 (.bin rfl rfl (vF a6_ (decide_eq_false (by omega)))) ?_;refine al_ ?_;refine cF (ao_ ⟨(),(by rw[hge,List.take_length] at hinv;exact hinv),?_⟩);have:=a1_ k;exact s_f [];rintro _ hall
 have hr2:r=decide (((keR k).length:Int)≤8):=by
  rw[hr];unfold vaB;have:k.any bigR=false:=List.any_eq_false.2 fun p hp=>by rw[hall p hp];decide
  rw[this,hkl];show decide (k.length≤8)=_;exact decide_eq_decide.2 (by omega)
 rw[hr2];refine r_z 4 ?_;exact af_ (t_e (ad_ _))
theorem fs_bad11(k:Ke)(g:List Rat)(hl:k.length≤1000)(h2:∀p∈k,p.1.length≤1000000∧p.2.length≤1000000)(hg:g.length≤1000000):FS 12 [.arr (keR k),.arr (rE (rP g))] (bln (!vaB k||decide (20< degP g))):=by
 have hv:=pH_ k hl h2;have hd:=dQ_ (rP g) (by simp;omega);rw[vR_rP] at hd;refine f_n Tryz.func12 ?_ ?_;exact aa_ (a1_ k) (aa_ (aQ_ _) ac_);refine r_z 1 ?_;cases e:vaB k with
 |false=>
  rw[e] at hv;refine r_c 9 (hv) ?_;refine a_z ?_;exact af_ (t_e (ad_ _))
 |true=>
  rw[e] at hv;refine r_c 9 (hv) ?_;refine c_s (hd) ?_;refine a_z ?_;exact af_ (t_e (ad_ _))
theorem smL_one{v:Rat}(h:sm v):smL [v]:=fun x hx=>by rw[List.mem_singleton.1 hx];exact h
def upS(k:Ke)(a:Rat)(u:List Rat):Nat×List Rat→AState
 |(i,o)=>⟨[(2,.arr (pE u)),(4,.lptr 1 0 0),(7,.arr (pE o)),(11,.arr (kE k)),(12,i64 k.length),(13,i64 i)],[(1,some ⟨46,3,[qC a]⟩)],2,35⟩
theorem fs_uptoK(k:Ke)(a:Rat)(u:List Rat)(h:okUpK k a u)(hl:k.length≤1000):FS 45 [.arr (kE k),.agg (qC a),.arr (pE u)] (.arr (pE (upK k a u))):=by
 have hkl:(kE k).length=k.length:=b4_ k;refine f_n Tryz.func45 ?_ ?_;exact aa_ (aE_ k) (aa_ (aC_ a) (aa_ (ar_ u) ac_));refine r_z 2 ?_;refine r_z 1 ?_;refine ab_ (r_z 3 ?_);refine aw_ (fun _:Unit=>⟨[(7,.arr (pE (upK k a u)))],[],1,35⟩) (fun _=>True) ?_ ?_;refine ae_ (aq_ (upS k a u) (fun x=>k.length- x.1) (fun x=>x.1≤k.length∧x.2=upL a u (k.take x.1) []) (0,[]) ⟨Nat.zero_le _,rfl⟩ ?_ ?_);simp only[upS.eq_1];exact s_x [(1,4)] (fun hs=>e_40) (fun hs=>e_41);rintro⟨i,o⟩ ⟨hi,ho⟩;simp only at hi ho;rw[upS.eq_1];by_cases hlt:i< k.length;obtain⟨p,hp⟩:∃p,k[i]?=some p:=⟨_,List.getElem?_eq_getElem hlt⟩;have hgt:(kE k)[((i:Nat):Int).toNat]?=some (prC p):=gv_ hp _ (by simp);have ok:=h i p hp;rw[←ho] at ok;have h1:=kS_ p.2 u ok.m1;have h2:=i3_ (mulP p.2 u) (kv_ ok.m1) ok.i1;have h3:=fa_ (am_ (mulP p.2 u)) a ok.e1;have h4:=fs_Sub (am_ (mulP p.2 u)) [evalP (am_ (mulP p.2 u)) a] ok.i2 (smL_one (kZ_ ok.e1)) ok.l1 (by simp);have h5:=kS_ p.1 _ ok.m2;have h6:=i6_ o _ ok.o1 (kv_ ok.m2) ok.o2 ok.l2;refine q_z 1 ?_;refine ab_ (cT (ah_ (ab_ (ae_ (s_r 4 ?_)))));refine i_x hgt ?_;refine l_x hgt ?_;refine a_z ?_;refine r_c 6 (h1) ?_;refine c_s (h2) ?_;refine a_z ?_;refine r_d hmix 12 ?_;refine c_s (h3) ?_;refine a_1 ?_;refine o_1 (.callS1 rfl rfl rfl (.keep (.shut rfl d_n (.nil))) rfl (h4)) ?_;refine c_s (h5) ?_;refine c_s (h6) ?_;refine a_1 ?_;refine al_ (n_k ?_);refine r_m 2 ?_;refine a_z ?_;refine⟨(i+1,upF a u o p),by simp only;omega,⟨hlt,by simp only;rw[bm_ hp,hQ_,←ho]⟩,?_⟩;simp only[upS.eq_1]
 unfold upF;exact s_x [] (fun hs=>e_40) (fun hs=>e_41);have hge:i=k.length:=by omega
 subst hge;refine q_z 1 ?_;refine ab_ (cF ?_);rw[List.take_length] at ho;refine ao_ ⟨(),trivial,?_⟩;unfold upK;rw[←ho];exact s_e [];rintro _ _;refine r_z 2 ?_;exact af_ (t_e (ar_ _))
theorem rZ_(a:Rat)(p:List Rat×List Rat)(h1:d2_ [a,1] p.1∧p.1.length≤274877906944)(h2:d2_ [a,1] p.2∧p.2.length≤274877906944):FS 115 [.agg (prC p),bQ a] (.agg (prC (compP [a,1] p.1,compP [a,1] p.2))):=by
 have g1:=kP_ p.1 a h1.1 h1.2;have g2:=kP_ p.2 a h2.1 h2.2;refine f_n Tryz.func115 ?_ ?_;exact aa_ (ay_ (di_ p)) (aa_ (bj_ a) ac_);refine r_z 2 ?_;refine ab_ (r_d hmix 10 ?_);refine c_s (g1) ?_;refine c_s (g2) ?_;refine a_2 ?_;refine al_ (n_k ?_);exact af_ (c_e (ay_ (di_ _)))
def ecS(k:Ke)(g:Nat)(cap:List AV)(f:List Rat×List Rat→List Rat×List Rat):Nat→AState
 |0=>⟨[(1,.clos g [] cap),(8,.arr (kE k)),(9,i64 k.length),(10,i64 0),(5,.emp)],[],1,22⟩
 |i+1=>⟨[(1,.clos g [] cap),(8,.arr (kE k)),(9,i64 k.length),(10,i64 ((i+1:Nat):Int)),(5,.lsl 1 0 (i+1) none 2)],[(1,some ⟨98,2,kE ((k.take (i+1)).map f)⟩)],2,22⟩
theorem kE_one(k:Ke):(kE k).all (·.all AV.one)=true:=by
 rw[List.all_eq_true];intro x hx;obtain⟨p,_,rfl⟩:=List.mem_map.1 hx;rfl
theorem rE_(k:Ke)(p:List Rat×List Rat):kE (k++[p])=kE k++[prC p]:=by simp[kE]
theorem fs_eachK(k:Ke)(g:Nat)(cap:List AV)(f:List Rat×List Rat→List Rat×List Rat)(hcap:∀c∈cap,Closed c)(hl:k.length≤1000)(hg:∀p∈k,FS g ((.agg (prC p)::cap).map coe) (.agg (prC (f p)))):FS 114 [.arr (kE k),.clos g [] cap] (.arr (kE (k.map f))):=by
 have hkl:(kE k).length=k.length:=b4_ k;have hcc:Closed (.clos g [] cap):=aG_ ac_ hcap;refine f_n Tryz.func114 ?_ ?_;exact aa_ (aE_ k) (aa_ hcc ac_);refine r_z 1 ?_;refine r_z 1 ?_;refine ab_ (r_z 3 ?_);refine aw_ (fun _:Unit=>⟨[(5,.arr (kE (k.map f)))],[],1,22⟩) (fun _=>True) ?_ ?_;refine ae_ (aq_ (ecS k g cap f) (fun i=>k.length- i) (fun i=>i≤k.length) 0 (Nat.zero_le _) ?_ ?_);rw[ecS.eq_1];exact s_x [] (fun hs=>e_5) (fun hs=>e_42);intro i hi;by_cases hlt:i< k.length
 ·obtain⟨p,hp⟩:∃p,k[i]?=some p:=⟨_,List.getElem?_eq_getElem hlt⟩
  have hg1:=hg p (List.mem_of_getElem? hp);have hlen:(k.take (i+1)).length=i+1:=by rw[List.length_take];omega
  have hnew:kE ((k.take i).map f)++[prC (f p)]=kE ((k.take (i+1)).map f):=by rw[bm_ hp,List.map_append,List.map_singleton,rE_]
  cases i with
  |zero=>
   have hgt:(kE k)[((0:Int)).toNat]?=some (prC p):=gv_ hp _ rfl;rw[ecS.eq_1];refine q_z 1 ?_;refine ab_ (cT (ah_ (ab_ (ae_ (s_r 4 ?_)))));refine i_x hgt ?_;refine l_x hgt ?_;refine a_z ?_;refine r_m 7 ?_;refine c_s (hg1) ?_;refine a_z ?_;refine r_m 2 ?_;refine a_z ?_;refine⟨0+1,by omega,by omega,?_⟩;rw[ecS.eq_2];rw[←hnew];refine s_x [(1,5)] (fun hs=>e_5) (fun hs=>?_)
   ·repeat' (first|exact az_|refine h_c ?_ ?_|exact a9_ hs (b9_ [f p])|exact au_e|refine av_ ?_|exact an_|refine ai_ ?_ ?_|exact ak_ hs (aE_ k)|exact ak_ hs hcc|exact au_c)
  |succ i=>
   have hgt:(kE k)[(((i+1:Nat):Int)).toNat]?=some (prC p):=gv_ hp _ (by simp);have hone:=kE_one ((k.take (i+1)).map f);have hlen2:(kE ((k.take (i+1)).map f)).length=i+1:=by rw[b4_,List.length_map,List.length_take];omega
   rw[ecS.eq_2];refine q_z 1 ?_;refine ab_ (cT (ah_ (ab_ (ae_ (s_r 4 ?_)))));refine i_x hgt ?_;refine l_x hgt ?_;refine a_z ?_;refine r_m 7 ?_;refine c_s (hg1) ?_;refine o_1 (.buildSlice te_26.h TZ.h rfl (by decide) rfl rfl rfl (by first|(simp;done)|(simp[a4_,ofV];done)|rfl)) ?_;refine o_2 (.append_l rfl rfl rfl te_26.h rfl rfl rfl rfl rfl d_o (by first|exact cU_ _|exact cT_ _|exact ci_ _|exact cV_ _|exact cD_ _|assumption|rfl|simp) (by first|rfl|exact cU_ _|exact cT_ _|exact ci_ _|exact cV_ _|exact cD_ _|simp) rfl (.lsl rfl (nle rfl)) TZ.h rfl TB.h d_o (by first|(simp[maxLen];done)|(simp[maxLen];omega))) ?_;refine o_0 (.assign rfl) ?_;refine al_ ?_;refine r_m 2 ?_;refine a_z ?_;refine⟨i+1+1,by omega,by omega,?_⟩;rw[ecS.eq_2];refine s_x [(1,5)] (fun hs=>e_5) (fun hs=>?_)
   ·repeat' (first|exact az_|refine h_c ?_ ?_|exact aF_ hs hnew (b9_ _)|exact au_e|refine av_ ?_|exact an_|refine ai_ ?_ ?_|exact ak_ hs (aE_ k)|exact ak_ hs hcc|exact au_c)
 have hge:i=k.length:=by omega
 cases i with
 |zero=>
  have hk0:k=[]:=List.eq_nil_of_length_eq_zero hge.symm;subst hk0;rw[ecS.eq_1];refine q_z 1 ?_;refine ab_ (cF (ao_ ⟨(),trivial,?_⟩));exact s_e []
 |succ i=>
  have hlen2:(kE (k.map f)).length=i+1:=by rw[b4_,List.length_map];omega
  rw[ecS.eq_2,hge,List.take_length];refine q_z 1 ?_;refine ab_ (cF (ao_ ⟨(),trivial,?_⟩));refine s_x [] (fun hs=>?_) (fun hs=>?_)
  ·repeat' (first|exact aH_|refine ap_ rfl ?_ ?_|(refine Cv.shut hs rfl (aK_ rfl) (by simp) ?_;exact aF_ hs (by rw[List.drop_zero];exact List.take_of_length_le (by simp)) (b9_ _))|exact au_c)
  ·repeat' (first|exact az_|refine h_c ?_ ?_|exact au_e|refine av_ ?_|exact an_|refine ai_ ?_ ?_|(refine Cv.shut hs rfl (aK_ rfl) (by simp) ?_;exact aF_ hs (by rw[List.drop_zero];exact List.take_of_length_le (by simp)) (b9_ _))|exact au_c)
 rintro _ _;refine r_z 2 ?_;exact af_ (t_e (aE_ _))
theorem fs_moved(k:Ke)(l:Rat)(g:List Rat)(a:Rat)(hl:k.length≤1000)(hk:∀p∈k,(d2_ [a,1] p.1∧p.1.length≤274877906944)∧d2_ [a,1] p.2∧p.2.length≤274877906944)(hg:d2_ [a,1] g)(hgl:g.length≤274877906944):FS 43 [.agg (eqC k l g),.agg (qC a)] (.agg (eqC (mvK a k) l (compP [a,1] g))):=by
 have h1:=fs_eachK k 115 [bQ a] (fun p=>(compP [a,1] p.1,compP [a,1] p.2)) (aa_ (bj_ a) ac_) hl fun p hp=>rZ_ a p (hk p hp).1 (hk p hp).2;have h2:=kP_ g a hg hgl;have hcl:=bB_ k l g;refine f_c Tryz.func43 ?_;refine r_z 3 ?_;refine AWp.ent (st':=⟨[(2,.aptr [eqC k l g] 0 0),(3,bQ a),(4,.lptr 1 0 0)],[(1,some ⟨58,5,[.emp::(zC++[.emp])]⟩)],2,16⟩) ?_ ?_;refine s_x [(1,4)] (fun hs=>?_) (fun hs=>?_)
 ·repeat' (first|exact aH_|refine ap_ rfl ?_ ?_|exact Cv.boxp hs rfl (aK_ rfl) rfl hcl|exact Cv.boxp hs rfl (aK_ rfl) rfl (aR_ a)|exact au_c)
 ·repeat' (first|exact az_|refine h_c ?_ ?_|exact au_e|refine av_ ?_|exact an_|refine ai_ ?_ ?_|exact Cv.boxp hs rfl (aK_ rfl) rfl hcl|exact Cv.boxp hs rfl (aK_ rfl) rfl (aR_ a)|exact au_c)
 refine ab_ (r_d hmix 12 ?_);refine c_s (h1) ?_;refine c_s (h2) ?_;refine a_2 ?_;refine al_ (n_k ?_);exact af_ (c_e (ay_ (bB_ _ _ _)))
theorem spC00:spC 0 0=[.arr [],bln false,.arr [],.arr [],bln false,.arr []]:=by unfold spC;rw[qC0];rfl
theorem jW_(k:Ke)(l:Rat)(g:List Rat)(h:okKe k)(hg:degP g≤20)(hgl:g.length≤1099511627776):FS 42 [.agg (eqC k l g++[.arr [],bln false,.arr [],.arr [],bln false,.arr []])] (bln false):=by
 have:=ec_ k l g 0 0 h (by decide) (by decide) Rat.le_refl hg hgl;rw[spC00] at this;exact this
theorem fs_upto0(k:Ke)(u:List Rat)(h:okUpK k 0 u)(hl:k.length≤1000):FS 45 [.arr (kE k),.agg [.arr [],bln false,.arr []],.arr (pE u)] (.arr (pE (upK k 0 u))):=by
 have:=fs_uptoK k 0 u h hl;rw[qC0] at this;exact this
structure OkSe (k:Ke)(l:Rat)(g:List Rat)(a:Rat)(n:Nat):Prop where
 ke:okKe k
 dg:degP g≤20
 mv:∀p∈k,(d2_ [a,1] p.1∧p.1.length≤274877906944)∧d2_ [a,1] p.2∧p.2.length≤274877906944
 mg:d2_ [a,1] g
 gl:g.length≤274877906944
 sl:sm l
 sg:smL (compP [a,1] g)
 gl2:(compP [a,1] g).length≤1099511627776
 up:∀r,r≤n→okUpK (mvK a k) 0 (seK (mvK a k) (compP [a,1] g) l n r)
 us:∀r,r≤n→smL (upK (mvK a k) 0 (seK (mvK a k) (compP [a,1] g) l n r))∧(upK (mvK a k) 0 (seK (mvK a k) (compP [a,1] g) l n r)).length≤1099511627776
 ss:∀r,r≤n→smL (aN_ (upK (mvK a k) 0 (seK (mvK a k) (compP [a,1] g) l n r)) l)
def seS(k:Ke)(l:Rat)(g:List Rat)(a:Rat)(n:Nat):Nat→AState
 |r=>⟨[(2,i64 n),(9,.lptr 1 0 0),(10,.arr (pE (seK (mvK a k) (compP [a,1] g) l n r))),(29,i64 ((n:Int)+1)),(30,i64 r)],[(1,some ⟨58,5,[eqC (mvK a k) l (compP [a,1] g)]⟩)],2,47⟩
theorem l6_(k:Ke)(l:Rat)(g:List Rat)(a:Rat)(n:Nat)(hn:n≤40)(hok:OkSe k l g a n):FS 11 [.agg (eqC k l g),.agg (qC a),i64 n] (.tup [.arr (pE (seK (mvK a k) (compP [a,1] g) l n (n+1))),i64 0]):=by
 have hcl:=bB_ k l g;have hcm:=bB_ (mvK a k) l (compP [a,1] g);have hkl:=hok.ke.1;have hml:(mvK a k).length=k.length:=by simp[mvK]
 have hw:=jW_ k l g hok.ke hok.dg (by have:=hok.gl;omega);have hm:=fs_moved k l g a (by omega) hok.mv hok.mg hok.gl;refine f_c Tryz.func11 ?_;refine r_z 4 ?_;refine r_z 5 ?_;refine ab_ (ae_ (r_c 3 (hw) ?_));refine a_z ?_;refine cF (q_z 7 ?_);refine cF (ah_ (r_c 6 (hm) ?_));refine a_z ?_;refine r_z 1 ?_;refine ab_ (r_z 3 ?_);refine aw_ (fun _:Unit=>⟨[(10,.arr (pE (seK (mvK a k) (compP [a,1] g) l n (n+1))))],[],1,47⟩) (fun _=>True) ?_ ?_;refine ae_ (aq_ (seS k l g a n) (fun r=>n+1- r) (fun r=>r≤n+1) 0 (Nat.zero_le _) ?_ ?_);simp only[seS.eq_1];exact s_f [(1,9)];intro r hr;rw[seS.eq_1];by_cases hlt:r< n+1;have hup:=fs_upto0 (mvK a k) _ (hok.up r (by omega)) (by omega);have hus:=hok.us r (by omega);have hsc:=ee_ _ l hus.1 hok.sl hus.2;have had:=i6_ (compP [a,1] g) _ hok.sg (hok.ss r (by omega)) hok.gl2 (Nat.le_trans (bG_ _ _) hus.2)
 have hcu:=fs_cut (addP (compP [a,1] g) (aN_ (upK (mvK a k) 0 (seK (mvK a k) (compP [a,1] g) l n r)) l)) n (by
  have h1:=dM_ (compP [a,1] g) (aN_ (upK (mvK a k) 0 (seK (mvK a k) (compP [a,1] g) l n r)) l);have h2:=bG_ (upK (mvK a k) 0 (seK (mvK a k) (compP [a,1] g) l n r)) l;have:=hok.gl2;have:=hus.2;omega) (by omega)
 refine q_z 1 ?_;refine ab_ (cT (ah_ (ab_ (ae_ (r_d hmix 14 ?_)))));refine c_s (hup) ?_;refine c_s (hsc) ?_;refine c_s (had) ?_;refine c_s (hcu) ?_;refine a_1 ?_;refine al_ (n_k ?_);refine r_m 2 ?_;refine a_z ?_;refine⟨r+1,by omega,by omega,?_⟩;simp only[seS.eq_1];rw[seK];exact s_f [(1,9)];have hge:r=n+1:=by omega
 subst hge;refine q_z 1 ?_;refine ab_ (cF (ao_ ⟨(),trivial,?_⟩));exact s_e [];rintro _ _;refine r_z 3 ?_;refine af_ (Fin.many ⟨_,_,rfl,rfl,⟨_,_,rfl,rfl,rfl⟩⟩ (nle rfl) ?_);exact ai_ (ak_ ax_ (ar_ _)) (ai_ (ak_ ax_ (ad_ _)) an_)
theorem lR_{k:Ke}(hkl:k.length≤3)(h4:∀p∈k,p.1.length≤4∧p.2.length≤4):okKe k:=by
 refine⟨by omega,?_,fun p hp=>by have:=h4 p hp;omega⟩;rw[List.any_eq_false];intro p hp;have h:=h4 p hp;have a1:=a8_ p.1;have a2:=a8_ p.2
 have:¬(12< if degP p.2> degP p.1 then degP p.2 else degP p.1):=by
  unfold degP;split <;> omega
 unfold bigP;simpa using this
theorem degP_le(g:List Rat){n:Nat}(h:g.length≤n+1):degP g≤n:=by
 have:=a8_ g;unfold degP;omega
theorem mJ_{k:Ke}{l:Rat}{g:List Rat}{a:Rat}{n:Nat}(hn:n≤40)(hkl:k.length≤3)(h4:∀p∈k,p.1.length≤4∧p.2.length≤4)(hb:∀p∈k,bdL p.1 20∧bdL p.2 20)(hg:g.length≤5)(bg:bdL g 20)(hl:qs l≤20)(ha:qs a≤20):OkSe k l g a n:=by
 obtain⟨KA,KB,hk,A0,B0,IA,IBB⟩:=lh_ hkl h4 hb;obtain⟨ha2,hd,d0⟩:=ju_ ha;obtain⟨hl2,hld,l0⟩:=ju_ hl;obtain⟨KG,HG⟩:=jv_ g bg;have HG:=HG.mono (show _≤101 by omega);obtain⟨KA',KB',hk',A0',B0',IA',IBB'⟩:=mK_ hk A0 B0 IA IBB d0 hd ha2;obtain⟨KG',HG'⟩:=HS_shift' (N:=4) d0 hd ha2 HG (by omega);have HG':=HG'.mono (show _≤3000 by omega);have lg:=cp_ a g;have hkl':(mvK a k).length≤900:=by unfold mvK;simp;omega
 have S:=fun r (hr:r≤1000)=>qL_ (k:=mvK a k) (G:=compP [a,1] g) (L:=l) hk' hkl' (by omega) (by omega) A0' B0' IA' IBB' HG' l0 hld hl2 hn r hr;have U:=fun r (hr:r≤1000) (K:Rat) (H:HS (seK (mvK a k) (compP [a,1] g) l n r) K (20000* r+1))=>jz_ (a:=0) (d:=1) hk' hkl' (by have:=is_ (mvK a k) (compP [a,1] g) l n r;omega) H (by decide) (IB.one.mono (by omega)) ((IB.zero 20).eq (by grind)) (by decide) (by omega) A0' B0' IA' IBB' (by omega);refine⟨lR_ hkl h4,by have:=degP_le g (n:=4) (by omega);omega,fun p hp=>?_,?_,by omega,by unfold sm;omega,fS_ (HG'.bdL (by omega)) (by omega),by omega,fun r hr=>(S r (by omega)).2,fun r hr=>?_,fun r hr=>?_⟩;obtain⟨h5,h6⟩:=h4 p hp;exact⟨⟨go_ (N:=3) d0 hd ha2 ha (by omega) (by omega) (by omega) _ (by omega) (hk.a p hp),by omega⟩,go_ (N:=3) d0 hd ha2 ha (by omega) (by omega) (by omega) _ (by omega) (hk.b p hp),by omega⟩;exact go_ (N:=4) d0 hd ha2 ha (by omega) (by omega) (by omega) _ (by omega) HG;obtain⟨K,H⟩:=(S r (by omega)).1;obtain⟨u1,u2,_⟩:=U r (by omega) K H;have hl:=is_ (mvK a k) (compP [a,1] g) l n r;exact⟨fS_ (u1.bdL (by omega)) (by omega),by omega⟩;obtain⟨K,H⟩:=(S r (by omega)).1;obtain⟨u1,u2,_⟩:=U r (by omega) K H;exact fS_ ((u1.k l0 hld hl2).bdL (by omega)) (by omega)
theorem sW_(k:Ke):k.any bigP=k.any bigR:=by
 congr 1;exact funext sS_
theorem rg_{k:Ke}(h:vaB k=true)(h2:∀p∈k,p.1.length≤1099511627776∧p.2.length≤1099511627776):okKe k:=by
 unfold vaB at h;simp only[Bool.and_eq_true,Bool.not_eq_true',decide_eq_true_eq] at h;exact⟨h.2,by rw[sW_];exact h.1,h2⟩
theorem pY_(k:Ke)(h:vaB k=false)(hl:k.length≤1000)(h2:∀p∈k,p.1.length≤1099511627776∧p.2.length≤1099511627776):FS 125 [.arr (kE k)] (i64 2):=by
 have hkl:(kE k).length=k.length:=b4_ k;have hc:=hF_ k 173 [] bigP ac_ (by omega) (fun p hp=>mf_ p (h2 p hp).1 (h2 p hp).2) rfl;by_cases h8:8< k.length;refine f_n Tryz.func125 ?_ ?_;exact aa_ (aE_ k) ac_;refine r_z 1 ?_;refine ab_ (s_r 7 ?_);refine a_2 ?_;refine o_0 (.bin rfl rfl (vT aU_ (decide_eq_true (by omega)))) ?_;refine a_z ?_;refine cT (r_z 1 ?_);exact af_ (t_e (ad_ _))
 have hb:k.any bigP=true:=by
  unfold vaB at h;rw[decide_eq_true (by omega:k.length≤8),Bool.and_true] at h;rw[sW_];simpa using h
 rw[hb] at hc;refine f_n Tryz.func125 ?_ ?_;exact aa_ (aE_ k) ac_;refine r_z 1 ?_;refine ab_ (s_r 7 ?_);refine a_2 ?_;refine o_0 (.bin rfl rfl (vF aU_ (decide_eq_false (by omega)))) ?_;refine c_s (hc) ?_;refine a_z ?_;refine cT (r_z 1 ?_);exact af_ (t_e (ad_ _))
theorem pC_(k:Ke)(a b:Rat)(h:vaB k=false)(hl:k.length≤1000)(h2:∀p∈k,p.1.length≤1099511627776∧p.2.length≤1099511627776):FS 91 [.arr (kE k),.agg (spC a b)] (bln true):=by
 have h1:=pY_ k h hl h2;refine f_n Tryz.func91 ?_ ?_;exact aa_ (aE_ k) (aa_ (aY_ _ _) ac_);refine r_z 2 ?_;refine r_c 9 (h1) ?_;refine o_0 (.bin rfl rfl (vT bF_ (rfl))) ?_;refine a_z ?_;exact af_ (t_e (ad_ _))
theorem kD_(k:Ke)(l:Rat)(g:List Rat)(a b:Rat)(h:vaB k=false∨20< degP g)(hl:k.length≤1000)(h2:∀p∈k,p.1.length≤1099511627776∧p.2.length≤1099511627776)(ha:sm a)(hb:sm b)(hab:a≤b)(hgl:g.length≤1099511627776):FS 42 [.agg (eqC k l g++spC a b)] (bln true):=by
 have hcl:∀c∈eqC k l g++spC a b,Closed c:=fun c hc=>(List.mem_append.1 hc).elim (bB_ k l g c) (a0_ a b c);have hd:=b5_ g hgl;cases e:vaB k with
 |false=>
  have h1:=pC_ k a b e hl h2;refine f_c Tryz.func42 ?_;refine r_z 2 ?_;refine r_c 14 (h1) ?_;refine a_z ?_;exact af_ (t_e (ad_ _))
 |true=>
  have h1:=iU_ k a b (rg_ e h2) ha hb hab
  have h20:20< degP g:=by
   rcases h with h|h
   rw[e] at h;cases h;exact h
  refine f_c Tryz.func42 ?_;refine r_z 2 ?_;refine r_c 14 (h1) ?_;refine c_s (hd) ?_;refine ag_ rfl rfl rfl (.bin rfl rfl (vT aU_ (decide_eq_true (by omega)))) rfl rfl ?_;refine a_z ?_;exact af_ (t_e (ad_ _))
theorem pT_(k:Ke)(l:Rat)(g:List Rat)(a:Rat)(n:Int)(h:vaB k=false∨20< degP g)(hl:k.length≤1000)(h2:∀p∈k,p.1.length≤1099511627776∧p.2.length≤1099511627776)(hgl:g.length≤1099511627776):
    FS 11 [.agg (eqC k l g),.agg (qC a),i64 n] (.tup [.arr (pE []),i64 2]):=by
 have hcl:=bB_ k l g;have hw:=kD_ k l g 0 0 h hl h2 (by decide) (by decide) Rat.le_refl hgl;rw[spC00] at hw;refine f_c Tryz.func11 ?_;refine r_z 4 ?_;refine r_z 5 ?_;refine ab_ (ae_ (r_c 3 (hw) ?_));refine a_z ?_;refine cT (r_z 2 ?_);refine af_ (Fin.many ⟨_,_,rfl,rfl,⟨_,_,rfl,rfl,rfl⟩⟩ (nle rfl) ?_);exact ai_ (Cv.emp _) (ai_ (ak_ ax_ (ad_ _)) an_)
theorem pS_(k:Ke)(l:Rat)(g:List Rat)(a:Rat)(n:Int)(h:okKe k)(hg:degP g≤20)(hgl:g.length≤1099511627776)(hn:n< 0∨40< n):
    FS 11 [.agg (eqC k l g),.agg (qC a),i64 n] (.tup [.arr (pE []),i64 3]):=by
 have hcl:=bB_ k l g;have hw:=jW_ k l g h hg hgl;refine f_c Tryz.func11 ?_;refine r_z 4 ?_;refine r_z 5 ?_;refine ab_ (ae_ (r_c 3 (hw) ?_));refine a_z ?_;refine cF ?_;by_cases h0:n< 0;refine s_r 7 ?_;refine a_1 ?_;refine o_0 (.bin rfl rfl (vT a6_ (decide_eq_true h0))) ?_;refine a_z ?_;refine cT (r_z 2 ?_);refine af_ (Fin.many ⟨_,_,rfl,rfl,⟨_,_,rfl,rfl,rfl⟩⟩ (nle rfl) ?_);exact ai_ (Cv.emp _) (ai_ (ak_ ax_ (ad_ _)) an_)
 ·refine s_r 7 ?_
  refine a_1 ?_;refine o_0 (.bin rfl rfl (vF a6_ (decide_eq_false h0))) ?_;refine a_1 ?_
  first|refine ag_ rfl rfl rfl (.move rfl) rfl rfl ?_|refine au_ rfl rfl (by first|(simp[as_];done)|exact nofun) rfl rfl ?_
  refine ag_ rfl rfl rfl (.bin rfl rfl (vT aU_ (decide_eq_true (by omega)))) rfl rfl ?_;refine a_z ?_;refine cT (r_z 2 ?_);refine af_ (Fin.many ⟨_,_,rfl,rfl,⟨_,_,rfl,rfl,rfl⟩⟩ (nle rfl) ?_);exact ai_ (Cv.emp _) (ai_ (ak_ ax_ (ad_ _)) an_)
theorem sa_(l:List NRow)(ho:okR l)(hl:l.length≤9223372036854775807):
    FS 7 [.arr (nR l)] (if 40< l.length then .tup [.arr (pE []),.arr (rE []),bln false] else .tup [.arr (pE (nL l)),.arr (rE (rP (nL l))),bln (tameB l 5||decide (20< degP (nL l)))]):=by
 have hrl:(nR l).length=l.length:=by simp[nR]
 have hcl:=aB_ (bC_ l);by_cases h40:40< l.length;rw[if_pos h40];refine f_c Tryz.func7 ?_;refine r_z 3 ?_;refine ab_ (s_r 3 ?_);refine a_2 ?_;refine o_0 (.bin rfl rfl (vT aU_ (decide_eq_true (by omega)))) ?_;refine al_ ?_;refine cT (r_z 3 ?_);refine af_ (Fin.many ⟨_,_,rfl,rfl,⟨_,_,rfl,rfl,⟨_,_,rfl,rfl,rfl⟩⟩⟩ (nle rfl) ?_);exact ai_ (Cv.emp _) (ai_ (Cv.emp _) (ai_ (ak_ ax_ (ad_ _)) an_));rw[if_neg h40];have hb:=kW_ l (by omega) ho;have ht:=kO_ l 5 hl (by decide);have hd:=dQ_ (rP (nL l)) (by simp[nL];omega);rw[vR_rP] at hd;cases e:tameB l 5 with
 |true=>
  rw[e] at ht;refine f_c Tryz.func7 ?_;refine r_z 3 ?_;refine ab_ (s_r 3 ?_);refine a_2 ?_;refine o_0 (.bin rfl rfl (vF aU_ (decide_eq_false (by omega)))) ?_;refine al_ ?_;refine cF (ah_ (r_c 7 (hb) ?_));refine a_z ?_;refine r_c 12 (ht) ?_;refine a_z ?_;refine af_ (Fin.many ⟨_,_,rfl,rfl,⟨_,_,rfl,rfl,⟨_,_,rfl,rfl,rfl⟩⟩⟩ (nle rfl) ?_);exact ai_ (ak_ ax_ (ar_ _)) (ai_ (ak_ ax_ (aQ_ _)) (ai_ (ak_ ax_ (ad_ _)) an_))
 |false=>
  rw[e] at ht;refine f_c Tryz.func7 ?_;refine r_z 3 ?_;refine ab_ (s_r 3 ?_);refine a_2 ?_;refine o_0 (.bin rfl rfl (vF aU_ (decide_eq_false (by omega)))) ?_;refine al_ ?_;refine cF (ah_ (r_c 7 (hb) ?_));refine a_z ?_;refine r_c 12 (ht) ?_;refine c_s (hd) ?_;refine a_z ?_;refine af_ (Fin.many ⟨_,_,rfl,rfl,⟨_,_,rfl,rfl,⟨_,_,rfl,rfl,rfl⟩⟩⟩ (nle rfl) ?_);exact ai_ (ak_ ax_ (ar_ _)) (ai_ (ak_ ax_ (aQ_ _)) (ai_ (ak_ ax_ (ad_ _)) an_))
def fiO(A:Nat→Nat→Rat)(n g:Nat)(cap:List AV)(i:Nat):AState:=⟨[(0,i64 n),(1,.clos g [] cap),(5,.lsl 1 0 n (some n) 1),(11,i64 n),(12,i64 i)],mzH 3 32 46 (foE (fun _=>n) (fun x=>x) n i) (fiL A n i),40,35⟩
def fiE(A:Nat→Nat→Rat)(n:Nat):AState:=⟨[(5,.lsl 1 0 n (some n) 1)],mzH 3 32 46 (foE (fun _=>n) (fun x=>x) n n) (fiL A n n),40,35⟩
def fiI(A:Nat→Nat→Rat)(n g:Nat)(cap:List AV)(i:Nat):Nat→AState
 |0=>⟨[(0,i64 n),(1,.clos g [] cap),(5,.lsl 1 0 n (some n) 1),(6,i64 i),(11,i64 n),(12,i64 i),(15,i64 n),(16,i64 0)],mzH 3 32 46 (foE (fun _=>n) (fun x=>x) n i) (fiL A n i),40,35⟩
 |j+1=>⟨[(0,i64 n),(1,.clos g [] cap),(5,.lsl 1 0 n (some n) 1),(6,i64 i),(11,i64 n),(12,i64 i),(15,i64 n),(16,i64 ((j+1:Nat):Int))],mzH 3 32 46 (foE (wJ n i (j+1)) (fun x=>x) n (i+1)) (fiL A n i++[pE (tabP (j+1) (A i))]),40,35⟩
theorem fi_f{r:Ren}{hp hp':Nat→Option ABlk}{fr fr':Fr}{g:Nat}{cap:List AV}(hs:Shr r hp hp')(hcc:Closed (.clos g [] cap))(h:CvF r hp hp' fr fr':=by repeat' (first|exact aH_|refine ap_ rfl ?_ ?_|exact ak_ hs hcc|exact ak_ hs (ad_ _)|exact Cv.sl rfl rfl rfl|(refine Cv.loE hs ?_ (ad_ _);simp[i64];done))):CvF r hp hp' fr fr':=h
theorem qm_(A:Nat→Nat→Rat)(n g:Nat)(cap:List AV)(hn:n≤25)(hcap:∀c∈cap,Closed c)(hg:∀i j:Nat,i< n→j< n→FS g ((i64 i::i64 j::cap).map coe) (.agg (qC (A i j)))):
    XSpecT Tryz.prog 54 [i64 n,.clos g [] cap] [] 1 (.lsl 1 0 n (some n) 1) (mzH 3 32 46 (mzO 3 (fun _=>n) (fun x=>x) n) (fiL A n n)) 40:=by
 have hcc:Closed (.clos g [] cap):=aG_ ac_ hcap;refine XSpecT.enter (t:=4) Tryz.func54 rfl (by kernel_rfl) rfl rfl rfl rfl rfl ?_;refine r_z 1 ?_;refine r_z 3 ?_;refine ab_ (r_z 3 ?_);refine aw_ (fun _:Unit=>fiE A n) (fun _=>True) ?_ ?_
 ·refine ae_ (aq_ (fiO A n g cap) (fun i=>n- i) (fun i=>i≤n) 0 (Nat.zero_le _) ?_ ?_)
  rw[fiO.eq_1];refine SEntT.ent (SEntT.mz (fun x=>cond (Nat.beq x 1) 3 x) _ (List.replicate n [.emp]) _ (by simp) rfl (fun i j h1 h2 h3 h4 _=>by rw[fy_] at h2 h4;omega) rfl (by rw[foE_0]) ?_ ?_ ?_);intro i e hi;exact absurd (ja_ hi).1 (by omega);intro hs;rw[foE_0];exact a9_ hs fun e he c hc=>by rw[(List.mem_replicate.1 he).2,List.mem_singleton] at hc;rw[hc];exact bs_
  exact fun hs=>fi_f hs hcc;intro i hi;rw[fiO.eq_1];by_cases hlt:i< n;rotate_left;have hge:i=n:=by omega
  subst hge;refine q_z 1 ?_;refine ab_ (cF (ao_ ⟨(),trivial,?_⟩));refine SEntT.ent (SEntT.mz (fun x=>x) _ _ _ (by simp;omega) rfl (fun i j _ _ _ _ e=>e) rfl rfl ?_ ?_ ?_);intro k e hk;obtain⟨h1,rfl⟩:=ja_ hk;exact⟨bE_ (c8_ h1),aI_ _⟩;exact fun hs=>fH_ hs (by omega) fun k hk=>by rw[bE_ (c8_ hk)];rfl
  exact fun hs=>fi_f hs hcc;refine q_z 1 ?_;refine ab_ (cT (ah_ (ab_ (ae_ (r_z 2 ?_)))));refine r_z 2 ?_;refine AWp.cutB (fun _:Unit=>fiI A n g cap i n) (fun _=>True) ?_ ?_;refine ae_ (aq_ (fiI A n g cap i) (fun j=>n- j) (fun j=>j≤n) 0 (Nat.zero_le _) ?_ ?_);rw[fiI.eq_1];refine SEntT.ent (SEntT.mz (fun x=>x) _ _ _ (by simp;omega) rfl (fun i j _ _ _ _ e=>e) rfl rfl ?_ ?_ ?_);intro k e hk;obtain⟨h1,rfl⟩:=ja_ hk;exact⟨bE_ (c8_ h1),aI_ _⟩;exact fun hs=>fH_ hs (by omega) fun k hk=>by rw[bE_ (c8_ hk)];rfl
  exact fun hs=>fi_f hs hcc;intro j hj;by_cases hjn:j< n
  ·have hg1:=hg i j hlt hjn
   cases j with
   |zero=>
    rw[fiI.eq_1];refine q_z 1 ?_;refine ab_ (cT (ah_ (ab_ (ae_ (r_z 2 ?_)))));refine r_d hmix 14 ?_;refine a_5 ?_
    first|refine aA_ (.load_l1 rfl rfl (foE_ge' (Nat.le_refl _) hlt _ (by omega)) TG.h rfl) rfl rfl ?_|refine aA_ (.load_a1 rfl (foE_ge' (Nat.le_refl _) hlt _ (by omega)) TG.h rfl) rfl rfl ?_
    refine c_s (hg1) ?_;refine a_3 ?_;refine o_1n (.store rfl rfl (foE_ge' (Nat.le_refl _) hlt _ (by omega)) rfl rfl rfl TS.h (nle rfl)) ?_;refine al_ (n_k ?_);refine r_m 2 ?_;refine a_z ?_;refine⟨0+1,by omega,by omega,?_⟩;rw[fiI.eq_2];refine SEntT.ent (SEntT.mz (fiR i 54) _ (foE (wJ n i (0+1)) (fiR i 54) n (i+1)) _ (by simp;omega) (fiR_0 _ _) (fun x y _ h2 _ h4 e=>i9_ (m:=40) (Nat.le_refl _) (by decide) x y (by simp at h2;omega) (by simp at h4;omega) e) ?_ ?_ ?_ ?_ ?_);rw[fiR_1,←fi_set0 hlt (0+((i:Nat):Int).toNat) (by omega)];rfl;rw[dR_ hlt,dR_ hlt];intro k e hk;rcases sp_ hk with⟨h1,rfl⟩|⟨rfl,rfl⟩
    ·rw[ej_ (by omega)]
     refine⟨?_,aI_ _⟩
     repeat rw[aS_ (by omega)]
     exact bE_ (c8_ h1)
    rw[gZ_];exact⟨rfl,aI_ _⟩
    exact fun hs=>fH_ hs (by omega) fun k hk=>by
     by_cases hki:k< i;rw[bE_ (j3_ hki)];rfl;obtain rfl:k=i:=by omega
     rw[bE_ g0_];rfl
    exact fun hs=>fi_f hs hcc
   |succ j=>
    rw[fiI.eq_2];have hlen:(pE (tabP (j+1) (A i))).length=j+1:=by simp[pE]
    have hrw:∀(k:Nat) (B:Option ABlk),k≠i+2→cellF (lookB ((k,B)::mzH 3 32 46 (foE (wJ n i (j+1)) (fun x=>x) n (i+1)) (fiL A n i++[pE (tabP (j+1) (A i))]))) (i+2)=some ⟨46,3,pE (tabP (j+1) (A i))⟩:=fun k B hk=>b2_ (by rw[aS_ hk];exact bE_ g0_) (show(3:Nat)≠0 by decide);have hi53:(53:Nat)≠i+2:=by omega
    refine q_z 1 ?_;refine ab_ (cT (ah_ (ab_ (ae_ (r_z 2 ?_)))));refine r_d hmix 14 ?_;refine a_5 ?_
    first|refine aA_ (.load_l1 rfl rfl (foE_lt' (Nat.lt_succ_self _) wJ_ge _ (by omega)) TG.h rfl) rfl rfl ?_|refine aA_ (.load_a1 rfl (foE_lt' (Nat.lt_succ_self _) wJ_ge _ (by omega)) TG.h rfl) rfl rfl ?_
    refine c_s (hg1) ?_;refine a_1 ?_;refine o_2 (.append_l rfl rfl rfl te_32.h rfl rfl (hrw 53 _ hi53) rfl rfl hlen (ci_ _) (by rfl) rfl (.lsl rfl (nle rfl)) TZ.h rfl TB.h (by first|rfl|assumption|(simp;done)|(simp;omega)|omega) (by first|(simp[maxLen];done)|(simp[maxLen];omega))) ?_;refine a_1 ?_;refine o_1n (.store rfl rfl (foE_lt' (Nat.lt_succ_self _) wJ_ge _ (by omega)) rfl rfl rfl TS.h (nle rfl)) ?_;refine al_ (n_k ?_);refine r_m 2 ?_;refine a_z ?_;refine⟨j+1+1,by omega,by omega,?_⟩;rw[fiI.eq_2];refine SEntT.ent (SEntT.mz (fiR i 54) _ (foE (wJ n i (j+1+1)) (fiR i 54) n (i+1)) _ (by simp;omega) (fiR_0 _ _) (fun x y _ h2 _ h4 e=>i9_ (m:=40) (Nat.le_refl _) (by decide) x y (by simp at h2;omega) (by simp at h4;omega) e) ?_ ?_ ?_ ?_ ?_);rw[fiR_1,←fi_set hlt (0+((i:Nat):Int).toNat) (by omega)];rfl;rw[dR_ hlt,dR_ hlt];intro k e hk;rcases sp_ hk with⟨h1,rfl⟩|⟨rfl,rfl⟩
    ·rw[ej_ (by omega)]
     refine⟨?_,aI_ _⟩
     repeat rw[aS_ (by omega)]
     exact bE_ (j3_ h1)
    rw[gZ_];refine⟨?_,aI_ _⟩;rw[ly_ (j+1),e2_];rfl
    exact fun hs=>fH_ hs (by omega) fun k hk=>by
     by_cases hki:k< i;rw[bE_ (j3_ hki)];rfl;obtain rfl:k=i:=by omega
     rw[bE_ g0_];rfl
    exact fun hs=>fi_f hs hcc
  have hge:j=n:=by omega
  obtain⟨j,rfl⟩:∃j',j=j'+1:=⟨j- 1,by omega⟩;rw[fiI.eq_2];refine q_z 1 ?_;refine ab_ (cF (ao_ ⟨(),trivial,?_⟩));rw[←hge,fiI.eq_2];refine SEntT.ent (SEntT.mz (fun x=>x) _ _ _ (by simp;omega) rfl (fun i j _ _ _ _ e=>e) rfl rfl ?_ ?_ ?_);intro k e hk;rcases sp_ hk with⟨h1,rfl⟩|⟨rfl,rfl⟩
  exact⟨bE_ (j3_ h1),aI_ _⟩;exact⟨bE_ g0_,aI_ _⟩
  exact fun hs=>fH_ hs (by omega) fun k hk=>by
   by_cases hki:k< i;rw[bE_ (j3_ hki)];rfl;obtain rfl:k=i:=by omega
   rw[bE_ g0_];rfl
  exact fun hs=>fi_f hs hcc;rintro _ _;obtain⟨m,rfl⟩:∃m,n=m+1:=⟨n- 1,by omega⟩;rw[fiI.eq_2,fiL_snoc,sm_ (w:=wJ (m+1) i (m+1)) (w':=fun _=>m+1) (s':=fun x=>x) (fun k hk=>⟨by unfold wJ;cases Nat.blt k i <;> rfl,rfl⟩)];refine r_m 2 ?_;refine a_z ?_;refine⟨i+1,by omega,by omega,?_⟩;rw[fiO.eq_1];refine SEntT.ent (SEntT.mz (fun x=>x) _ _ _ (by simp;omega) rfl (fun i j _ _ _ _ e=>e) rfl rfl ?_ ?_ ?_);intro k e hk;obtain⟨h1,rfl⟩:=ja_ hk;exact⟨bE_ (c8_ h1),aI_ _⟩;exact fun hs=>fH_ hs (by omega) fun k hk=>by rw[bE_ (c8_ hk)];rfl
  exact fun hs=>fi_f hs hcc
 rintro _ _;show AWp _ _ _ _ ⟨[(5,.lsl 1 0 n (some n) 1)],mzH 3 32 46 (foE (fun _=>n) (fun x=>x) n n) (fiL A n n),40,35⟩;rw[foE_n];refine r_z 2 ?_;refine af_ (FinXT.of (SEntT.mz (fun x=>x) _ _ _ (by simp;omega) rfl (fun i j _ _ _ _ e=>e) rfl rfl ?_ ?_ ?_));intro k e hk;obtain⟨h1,rfl⟩:=ja_ hk;exact⟨bE_ (c8_ h1),aI_ _⟩;exact fun hs=>ij_ (by omega) fun k hk=>by rw[bE_ (c8_ hk)];rfl
 exact fun hs=>fi_f hs hcc
end Go.Proofs.YtjkddcfoolilbaaGreatDoor
