/- Part W30 of the proof. -/
import Derived.Test.YtjmkjicckobojaaGreatDoorW29
set_option linter.all false
namespace Go.Proofs.YtjmkjicckobojaaGreatDoor
open Go.Abs
set_option maxRecDepth 20000
set_option maxHeartbeats 2000000
theorem vd(p q:Lq)(o:ls p q):FS 29 [.arr (pE p),.arr (pE q)] (.arr (pE (aT p q))):=
 KC p q (mxL p) (mxL q) (fx p) (fx q) (fh p) (fh q) o.1 o.2.1 o.2.2.1 o.2.2.2
theorem dI{a b:La}(ha:∀c∈a,Closed c)(hb:∀c∈b,Closed c):∀c∈a++b,Closed c:=λc hc=>(List.mem_append.1 hc).elim (ha c) (hb c)
theorem fs_SNeg(a b:Rat):FS 251 [.agg (spC a b)] (.agg (spC (-b) (-a))):=by
 refine f_c Tryz.func251 ?_;refine r_z 2 ?_;refine ac (r_d aX 8 ?_);refine c_s (mY b) ?_;refine c_s (mY a) ?_;refine a_2 ?_;refine aq (n_k ?_);exact ai (c_e (b9 _ _))
def absL(v:Sp):Rat:=if 0<=v.1 then v.1 else if v.2<=0 then -v.2 else 0
theorem sg_ge{q:Rat}:(0:Int)<=sgZ q.num↔0<=q:=by
 have h:=sgZ_num_lt (q:=q);constructor;intro g;have:¬q< 0:=λe=>by have:=h.2 e;omega
 grind;intro g;have:¬sgZ q.num< 0:=λe=>by have:=h.1 e;grind
 omega
theorem sg_le{q:Rat}:sgZ q.num<=(0:Int)↔q<=0:=by
 have h:=sgZ_num_gt (q:=q);constructor;intro g;have:¬0< q:=λe=>by have:=h.2 e;omega
 grind;intro g;have:¬0< sgZ q.num:=λe=>by have:=h.1 e;grind
 omega
theorem fs_SAbs(v:Sp)(h1:sm v.1)(h2:sm v.2):FS 203 [.agg (spC v.1 v.2)] (.agg (spC (absL v) (Fg v))):=by
 have hc:∀c∈spC v.1 v.2,Closed c:=bt _ _;refine f_c Tryz.func203 ?_;refine r_z 2 ?_;refine ac (ah ?_);by_cases g1:0<=v.1;rw[show absL v=v.1 from if_pos g1,show Fg v=v.2 from if_pos g1];refine r_c 5 (c6 v.1) ?_;refine o_0 (.bin rfl rfl (vT ov (decide_eq_true (sg_ge.2 g1)))) ?_;refine a_z ?_;refine cT (r_z 2 ?_);exact ai (c_e (b9 _ _));refine r_c 5 (c6 v.1) ?_;refine o_0 (.bin rfl rfl (vF ov (decide_eq_false (λe=>g1 (sg_ge.1 e))))) ?_;refine a_z ?_;refine cF ?_;by_cases g2:v.2<=0;rw[show absL v= -v.2 from(if_neg g1).trans (if_pos g2),show Fg v= -v.1 from(if_neg g1).trans (if_pos g2)];refine r_c 5 (c6 v.2) ?_;refine o_0 (.bin rfl rfl (vT gj (decide_eq_true (sg_le.2 g2)))) ?_;refine a_z ?_;refine cT (r_c 3 (fs_SNeg v.1 v.2) ?_);refine a_z ?_;exact ai (c_e (b9 _ _));rw[show absL v=0 from(if_neg g1).trans (if_neg g2),show Fg v=gQ [-v.1,v.2] from(if_neg g1).trans (if_neg g2)];refine r_c 5 (c6 v.2) ?_;refine o_0 (.bin rfl rfl (vF gj (decide_eq_false (λe=>g2 (sg_le.1 e))))) ?_;refine a_z ?_;refine cF (aj ?_);have a:=Ax [-v.1,v.2] (zG (by unfold sm;rw[dJ];exact h1) h2) ψ;refine ac (r_d aX 10 ?_);refine c_s (mY v.1) ?_;refine a_3 ?_;refine o_1 (.callS1 rfl rfl rfl (.shut rfl d_n (.nil)) rfl (a)) ?_;refine a_2 ?_;refine aq (n_k ?_);refine ai ?_;rw[show spC 0 (gQ [-v.1,v.2])=[.arr [],bln false,.arr []]++qC (gQ [-v.1,v.2]) from by unfold spC;rw[qC0]];refine Fin.cell rfl rfl rfl TG.h TS.h (nle rfl) ?_
 exact Cv.agg (am (Cv.emp _) (am (ao aF (ak _)) (am (Cv.emp _) (CvL.clo aF (bC _)))))
abbrev prC(p:Lq×Lq):La:=[.arr (pE p.1),.arr (pE p.2)]
def kE(k:Ke):Lc:=k.map prC
@[simp] theorem dP (k:Ke):(kE k).length=k.length:=by simp[kE]
theorem fF(p:Lq×Lq):∀c∈prC p,Closed c:=ae (aD _) (ae (aD _) af)
theorem eG(k:Ke):∀x∈kE k,∀c∈x,Closed c:=λx a=>by
 obtain⟨p,_,rfl⟩:=List.mem_map.1 a;exact fF p
theorem aH(k:Ke):Closed (.arr (kE k)):=aK (eG k)
theorem jo{k:Ke}{i:Nat}{p:Lq×Lq}(h:k[i]?=some p):∀e,e=i->(kE k)[e]?=some (prC p):=λe a=>by
 rw[a,kE,List.getElem?_map,h];rfl
def xZ(p:Lq×Lq):Bool:=decide (12< if dt p.2> dt p.1 then dt p.2 else dt p.1)
theorem yV(p:Lq×Lq)(h1:p.1.length<=1099511627776)(h2:p.2.length<=1099511627776):FS 56 [.agg (prC p)] (bln (xZ p)):=by
 refine f_n Tryz.func56 ?_ ?_;exact ae (aE (fF p)) af;refine r_z 2 ?_;refine ac (r_d aX 9 ?_);refine c_s (em p.1 h1) ?_;refine c_s (em p.2 h2) ?_;refine a_3 ?_;refine aq (n_k ?_);exact ai (t_e (ak _))
def kT{α:Type}(t:α->Bool):List α->Int->Int
 |[],_=> -1
 |a::l,i=>if t a then i else kT t l (i+1)
theorem rz{α:Type}(t:α->Bool):∀(l:List α) (i:Int),0<=i->(decide (0<=kT t l i))=l.any t
 |[],i,_=>by simp[kT]
 |a::l,i,hi=>by
  unfold kT;cases h:t a with
  |true=>simp[h,hi]
  |false=>simp[h];rw[<-rz t l (i+1) ω]
theorem AO{α:Type}{l:List α}{i:Nat}{a:α}(h:l[i]?=some a):l.drop i=a::l.drop (i+1):=by
 obtain⟨b,c⟩:=List.getElem?_eq_some_iff.1 h;rw[<-c];exact List.drop_eq_getElem_cons b
def ikS(k:Ke)(g:Nat)(cap:La):Nat->AState
 |i=>⟨[(0,.arr (kE k)),(1,.clos g [] cap),(7,i64 k.length),(8,i64 i)],[],1,19⟩
theorem Ie(k:Ke)(g:Nat)(cap:La)(t:Lq×Lq->Bool)(hcap:∀c∈cap,Closed c)(hl:k.length<=1099511627776)(hg:∀p∈k,FS g ((.agg (prC p)::cap).map coe) (bln (t p))):FS 146 [.arr (kE k),.clos g [] cap] (i64 (kT t k 0)):=by
 have hcc:Closed (.clos g [] cap):=a6 af hcap;have j:(kE k).length=k.length:=dP k;refine f_n Tryz.func146 ?_ ?_;exact ae (aH k) (ae hcc af);obtain⟨R,h⟩:∃R,R=kT t k 0:=⟨_,rfl⟩;rw[<-h];refine r_z 1 ?_;refine ac (r_z 3 ?_);refine aC (λ_:Unit=>⟨[],[],1,19⟩) (λ_=>R= -1) ?_ ?_;refine ah (ay (ikS k g cap) (λi=>k.length- i) (λi=>i<=k.length/\kT t (k.drop i) i=R) 0 ⟨Nat.zero_le _,by rw[h];rfl⟩ ?_ ?_);simp only[ikS.eq_1];exact s_x [] (λhs=>e_39) (λhs=>e_40);rintro i ⟨l,a⟩;rw[ikS.eq_1];by_cases hlt:i< k.length;refine q_z 1 ?_;refine ac (cT (aj ?_));obtain⟨p,hp⟩:∃p,k[i]?=some p:=⟨_,List.getElem?_eq_getElem hlt⟩;have b:(kE k)[((i:Nat):Int).toNat]?=some (prC p):=jo hp _ ψ;rw[AO hp,kT] at a;refine ac (ah (r_z 2 ?_));refine s_r 6 ?_;refine a_3 ?_;refine i_x b ?_;refine l_x b ?_;refine c_s (hg p (List.mem_of_getElem? hp)) ?_;refine aq ?_;refine ar rfl (λf=>?_) (λf=>?_);have e:t p=true:=f;rw[if_pos e] at a;refine r_z 2 ?_;refine ai (aS rfl ?_ ?_);rw[<-a];exact ak _;have e:¬t p=true:=by rw[show t p=false from f];decide
 rw[if_neg e] at a;refine aj (r_m 2 ?_);refine a_z ?_;refine⟨i+1,ω,⟨hlt,a⟩,?_⟩;simp only[ikS.eq_1];exact s_x [] (λhs=>e_39) (λhs=>e_40);have d:i=k.length:=ω
 subst d;refine q_z 1 ?_;refine ac (cF ?_);rw[List.drop_length] at a;refine ax ⟨(),a.symm,?_⟩;exact s_e [];rintro _ a;refine r_z 1 ?_;refine ai (aS rfl ?_ ?_);rw[a];rfl;exact ak _
theorem r7(k:Ke)(g:Nat)(cap:La)(t:Lq×Lq->Bool)(hcap:∀c∈cap,Closed c)(hl:k.length<=1099511627776)(hg:∀p∈k,FS g ((.agg (prC p)::cap).map coe) (bln (t p)))(hcap2:cap.map coe=cap):FS 55 [.arr (kE k),.clos g [] cap] (bln (k.any t)):=by
 have a:Closed (.clos g [] cap):=a6 af hcap;have e:=rz t k 0 (Int.le_refl 0);have b:=Ie k g cap t hcap hl hg;refine f_n Tryz.func55 ?_ ?_;exact ae (aH k) (ae a af);refine r_z 1 ?_;refine r_c 5 (b) ?_;refine a_z ?_;refine ai (aS rfl ?_ ?_);rw[<-e];rfl;exact ak _
def pp(k:Ke):Prop:=k.length<=8/\k.any xZ=false/\∀p∈k,p.1.length<=1099511627776/\p.2.length<=1099511627776
theorem kX(k:Ke)(h:pp k):FS 15 [.arr (kE k)] (i64 0):=by
 have a:(kE k).length=k.length:=dP k;have hc:=r7 k 56 [] xZ af (by have:=h.1;omega) (λp hp=>yV p (h.2.2 p hp).1 (h.2.2 p hp).2) rfl;rw[h.2.1] at hc;have b:=h.1;refine f_n Tryz.func15 ?_ ?_;exact ae (aH k) af;refine r_z 1 ?_;refine ac (q_c 7 (hc) ?_);refine a_z ?_;refine cF (aj (r_z 1 ?_));exact ai (t_e (ak _))
theorem o0(k:Ke)(a b:Rat)(h:pp k)(ha:sm a)(hb:sm b)(hab:a<=b):FS 51 [.arr (kE k),.agg (spC a b)] (bln false):=by
 have d:=kX k h;have c:=kx a b ha hb;rw[decide_eq_true (cmpQ_le.2 hab)] at c;refine f_n Tryz.func51 ?_ ?_;exact ae (aH k) (ae (b9 _ _) af);refine r_z 2 ?_;refine r_c 9 (d) ?_;refine o_0 (.bin rfl rfl (vF cm (rfl))) ?_;refine c_s (c) ?_;refine a_z ?_;exact ai (t_e (ak _))
abbrev eqC(k:Ke)(l:Rat)(g:Lq):La:= .arr (kE k)::(qC l++[.arr (pE g)])
theorem eP(k:Ke)(l:Rat)(g:Lq):∀c∈eqC k l g,Closed c:=ae (aH k) λc hc=>(List.mem_append.1 hc).elim (bC l c) (ae (aD g) af c)
theorem kg(k:Ke)(l:Rat)(g:Lq)(a b:Rat)(h:pp k)(ha:sm a)(hb:sm b)(hab:a<=b)(hg:dt g<=20)(hgl:g.length<=1099511627776):FS 77 [.agg (eqC k l g++spC a b)] (bln false):=by
 have e:=o0 k a b h ha hb hab;have d:=em g hgl;have f:∀c∈eqC k l g++spC a b,Closed c:=λc hc=>(List.mem_append.1 hc).elim (eP k l g c) (bt a b c);refine f_c Tryz.func77 ?_;refine r_z 2 ?_;refine r_c 14 (e) ?_;refine c_s (d) ?_;refine d_z ?_;exact ai (t_e (ak _))
theorem oe(a b:Rat)(hb:b≠0)(h:qs a+qs b<=549755813888):FS 123 [.agg (qC a),.agg (qC b)] (.agg (qC (a/ b))):=by
 refine f_c Tryz.func123 ?_;refine r_z 3 ?_;refine r_c 9 (Es a b hb h) ?_;refine a_z ?_;refine r_z 2 ?_;exact ai (c_e (aP _))
theorem fs_cut(p:Lq)(n:Nat)(hp:p.length<=1099511627776)(hn:n<=1000000):FS 125 [.arr (pE p),i64 n] (.arr (pE (EV p n))):=by
 have c:(pE p).length=p.length:=by simp[pE]
 obtain⟨m,b⟩:∃m,m=min p.length (n+1):=⟨_,rfl⟩
 have d:p.take m=p.take (n+1):=by
  rw[b];by_cases g:p.length<=n+1;rw[Nat.min_eq_left g,List.take_of_length_le (Nat.le_refl _),List.take_of_length_le g];rw[Nat.min_eq_right ω]
 have e:(pE p).take m=pE (p.take (n+1)):=by rw[<-d];simp[pE,List.map_take]
 have a:=dK (p.take (n+1)) (by rw[List.length_take];omega);refine f_c Tryz.func125 ?_;refine r_z 1 ?_;refine s_r 9 ?_;refine a_6 ?_;refine o_0 (.sa_hE (h:=m) e rfl rfl (by rw[b];split <;> omega) ω te_62.h (mN _)) ?_;refine c_s (a) ?_;refine a_z ?_;exact ai (t_e (aD _))
def uc(p:Lq×Lq):Bool:=decide (12< dt p.1)||decide (12< dt p.2)
def vaB(k:Ke):Bool:=!k.any uc && decide (k.length<=8)
theorem Iw(p:Lq×Lq):xZ p=uc p:=by
 unfold xZ uc;by_cases h1:12< dt p.1;rw[decide_eq_true h1,Bool.true_or,decide_eq_true];split <;> omega;by_cases h2:12< dt p.2;rw[decide_eq_true h2,Bool.or_true,decide_eq_true];split <;> omega;rw[decide_eq_false h1,decide_eq_false h2,Bool.or_false,decide_eq_false];split <;> omega
def vkS(k:Ke):Nat->AState
 |i=>⟨[(0,.arr (keR k)),(3,i64 i)],[],1,29⟩
theorem Ei(k:Ke)(hl:k.length<=1000)(h2:∀p∈k,p.1.length<=1000000/\p.2.length<=1000000):FS 14 [.arr (keR k)] (bln (vaB k)):=by
 have l:(keR k).length=k.length:=ii k;refine f_n Tryz.func14 ?_ ?_;exact ae (aY k) af;obtain⟨r,n⟩:∃r,r=vaB k:=⟨_,rfl⟩;rw[<-n];refine r_z 1 ?_;refine ac (r_z 1 ?_);refine aC (λ_:Unit=>⟨[(0,.arr (keR k))],[],1,29⟩) (λ_=> ∀p∈k,uc p=false) ?_ ?_;refine ah (ay (vkS k) (λi=>k.length- i) (λi=>i<=k.length/\∀p∈k.take i,uc p=false) 0 ⟨Nat.zero_le _,λp hp=>by simp at hp⟩ ?_ ?_);rw[vkS.eq_1];have:=aY k;exact s_f [];rintro i ⟨o,b⟩;rw[vkS.eq_1];by_cases hlt:i< k.length;obtain⟨p,hp⟩:∃p,k[i]?=some p:=⟨_,List.getElem?_eq_getElem hlt⟩;have a:(keR k)[((i:Nat):Int).toNat]?=some (pkR p):=iR hp _ ψ;have f:=List.mem_of_getElem? hp;obtain⟨l1,l2⟩:=h2 p f;have d1:=gd (rP p.1) χ;have d2:=gd (rP p.2) χ;rw[b5] at d1 d2
 have d:uc p=true->r=false:=λe=>by
  rw[n];unfold vaB;rw[List.any_eq_true.2 ⟨p,f,e⟩];rfl
 by_cases e1:12< dt p.1;refine ac (q_z 4 ?_);refine cT (aj (ac (ah (s_r 16 ?_))));refine a_2 ?_;refine i_x a ?_;refine a_1 ?_;refine l_1 a ?_;refine c_s (d1) ?_;refine d_z ?_;refine cT ?_;rw[d (by unfold uc;rw[decide_eq_true e1];rfl)];refine r_z 1 ?_;exact ai (t_e (ak _));by_cases e2:12< dt p.2;refine ac (q_z 4 ?_);refine cT (aj (ac (ah (s_r 16 ?_))));refine a_2 ?_;refine i_x a ?_;refine a_1 ?_;refine l_1 a ?_;refine c_s (d1) ?_;refine d_4 ?_;refine br rfl rfl rfl (.index_a rfl rfl ω a rfl te_30.h) rfl rfl ?_;refine m_1 ?_;refine br rfl rfl rfl (.load_a1 rfl a TG.h rfl) rfl rfl ?_;refine c_s (d2) ?_;refine d_z ?_;refine cT ?_;rw[d (by unfold uc;rw[decide_eq_true e2,Bool.or_true])];refine r_z 1 ?_;exact ai (t_e (ak _));refine ac (q_z 4 ?_);refine cT (aj (ac (ah (s_r 16 ?_))));refine a_2 ?_;refine i_x a ?_;refine a_1 ?_;refine l_1 a ?_;refine c_s (d1) ?_;refine d_4 ?_;refine br rfl rfl rfl (.index_a rfl rfl ω a rfl te_30.h) rfl rfl ?_;refine m_1 ?_;refine br rfl rfl rfl (.load_a1 rfl a TG.h rfl) rfl rfl ?_;refine c_s (d2) ?_;refine d_z ?_;refine cF (aj (r_m 3 ?_));refine a_z ?_;refine⟨i+1,ω,⟨ω,λq c=>?_⟩,?_⟩;rw[cO hp] at c;rcases List.mem_append.1 c with c|c
 exact b q c;rw[List.mem_singleton.1 c];unfold uc;rw[decide_eq_false e1,decide_eq_false e2];rfl;rw[vkS.eq_1];have:=aY k;exact s_f [];have j:i=k.length:=ω
 refine ac (q_z 4 ?_);refine cF (ax ⟨(),(by rw[j,List.take_length] at b;exact b),?_⟩);have:=aY k;exact s_f [];rintro _ g
 have m:r=decide (((keR k).length:Int)<=8):=by
  rw[n];unfold vaB;have:k.any uc=false:=List.any_eq_false.2 λp hp=>by rw[g p hp];decide
  rw[this,l];show decide (k.length<=8)=_;exact decide_eq_decide.2 ω
 rw[m];refine r_z 4 ?_;exact ai (t_e (ak _))
theorem smL_one{v:Rat}(h:sm v):smL [v]:=λx a=>by rw[List.mem_singleton.1 a];exact h
def upS(k:Ke)(a:Rat)(u:Lq):Nat×Lq->AState
 |(i,o)=>⟨[(2,.arr (pE u)),(4,.lptr 1 0 0),(7,.arr (pE o)),(11,.arr (kE k)),(12,i64 k.length),(13,i64 i)],[(1,some ⟨42,3,[qC a]⟩)],2,35⟩
theorem Kc(k:Ke)(a:Rat)(u:Lq)(h:BM k a u)(hl:k.length<=1000):FS 126 [.arr (kE k),.agg (qC a),.arr (pE u)] (.arr (pE (upK k a u))):=by
 have f:(kE k).length=k.length:=dP k;refine f_n Tryz.func126 ?_ ?_;exact ae (aH k) (ae (aP a) (ae (aD u) af));refine r_z 2 ?_;refine r_z 1 ?_;refine ac (r_z 3 ?_);refine aC (λ_:Unit=>⟨[(7,.arr (pE (upK k a u)))],[],1,35⟩) (λ_=>True) ?_ ?_;refine ah (ay (upS k a u) (λx=>k.length- x.1) (λx=>x.1<=k.length/\x.2=upL a u (k.take x.1) []) (0,[]) ⟨Nat.zero_le _,rfl⟩ ?_ ?_);simp only[upS.eq_1];exact s_x [(1,4)] (λhs=>e_41) (λhs=>e_42);rintro⟨i,o⟩ ⟨n,c⟩;simp only at n c;rw[upS.eq_1];by_cases hlt:i< k.length;obtain⟨p,hp⟩:∃p,k[i]?=some p:=⟨_,List.getElem?_eq_getElem hlt⟩;have b:(kE k)[((i:Nat):Int).toNat]?=some (prC p):=jo hp _ ψ;have ok:=h i p hp;rw[<-c] at ok;have j:=vd p.2 u ok.m1;have e:=uD (aT p.2 u) (ws ok.m1) ok.i1;have m:=jF (aM (aT p.2 u)) a ok.e1;have g:=Kx (aM (aT p.2 u)) [an (aM (aT p.2 u)) a] ok.i2 (smL_one (xa ok.e1)) ok.l1 ψ;have l:=vd p.1 _ ok.m2;have q:=pS o _ ok.o1 (ws ok.m2) ok.o2 ok.l2;refine q_z 1 ?_;refine ac (cT (aj (ac (ah (s_r 4 ?_)))));refine i_x b ?_;refine l_x b ?_;refine a_z ?_;refine r_c 6 (j) ?_;refine c_s (e) ?_;refine a_z ?_;refine r_d aX 12 ?_;refine c_s (m) ?_;refine a_1 ?_;refine o_1 (.callS1 rfl rfl rfl (.keep (.shut rfl d_n (.nil))) rfl (g)) ?_;refine c_s (l) ?_;refine c_s (q) ?_;refine a_1 ?_;refine aq (n_k ?_);refine r_m 2 ?_;refine a_z ?_;refine⟨(i+1,upF a u o p),by simp only;omega,⟨hlt,by simp only;rw[cO hp,Bk,<-c]⟩,?_⟩;simp only[upS.eq_1];unfold upF;exact s_x [] (λhs=>e_41) (λhs=>e_42)
 have d:i=k.length:=ω
 subst d;refine q_z 1 ?_;refine ac (cF ?_);rw[List.take_length] at c;refine ax ⟨(),trivial,?_⟩;unfold upK;rw[<-c];exact s_e [];rintro _ _;refine r_z 2 ?_;exact ai (t_e (aD _))
theorem HZ(a:Rat)(p:Lq×Lq)(h1:ie [a,1] p.1/\p.1.length<=274877906944)(h2:ie [a,1] p.2/\p.2.length<=274877906944):FS 205 [.agg (prC p),bQ a] (.agg (prC (cw [a,1] p.1,cw [a,1] p.2))):=by
 have c:=w4 p.1 a h1.1 h1.2;have b:=w4 p.2 a h2.1 h2.2;refine f_n Tryz.func205 ?_ ?_;exact ae (aE (fF p)) (ae (cL a) af);refine r_z 2 ?_;refine ac (r_d aX 10 ?_);refine c_s (c) ?_;refine c_s (b) ?_;refine a_2 ?_;refine aq (n_k ?_);exact ai (c_e (aE (fF _)))
def ecS(k:Ke)(g:Nat)(cap:La)(f:Lq×Lq->Lq×Lq):Nat->AState
 |0=>⟨[(1,.clos g [] cap),(8,.arr (kE k)),(9,i64 k.length),(10,i64 0),(5,.emp)],[],1,22⟩
 |i+1=>⟨[(1,.clos g [] cap),(8,.arr (kE k)),(9,i64 k.length),(10,i64 ((i+1:Nat):Int)),(5,.lsl 1 0 (i+1) none 2)],[(1,some ⟨76,2,kE ((k.take (i+1)).map f)⟩)],2,22⟩
theorem D3(k:Ke):(kE k).all (·.all AV.one)=true:=by
 rw[List.all_eq_true];intro x a;obtain⟨p,_,rfl⟩:=List.mem_map.1 a;rfl
theorem Gp(k:Ke)(p:Lq×Lq):kE (k++[p])=kE k++[prC p]:=by simp[kE]
theorem Ku(k:Ke)(g:Nat)(cap:La)(f:Lq×Lq->Lq×Lq)(hcap:∀c∈cap,Closed c)(hl:k.length<=1000)(hg:∀p∈k,FS g ((.agg (prC p)::cap).map coe) (.agg (prC (f p)))):FS 137 [.arr (kE k),.clos g [] cap] (.arr (kE (k.map f))):=by
 have n:(kE k).length=k.length:=dP k;have hcc:Closed (.clos g [] cap):=a6 af hcap;refine f_n Tryz.func137 ?_ ?_;exact ae (aH k) (ae hcc af);refine r_z 1 ?_;refine r_z 1 ?_;refine ac (r_z 3 ?_);refine aC (λ_:Unit=>⟨[(5,.arr (kE (k.map f)))],[],1,22⟩) (λ_=>True) ?_ ?_;refine ah (ay (ecS k g cap f) (λi=>k.length- i) (λi=>i<=k.length) 0 (Nat.zero_le _) ?_ ?_);rw[ecS.eq_1];exact s_x [] (λhs=>e_3) (λhs=>e_21);intro i o;by_cases hlt:i< k.length
 ·obtain⟨p,hp⟩:∃p,k[i]?=some p:=⟨_,List.getElem?_eq_getElem hlt⟩
  have e:=hg p (List.mem_of_getElem? hp);have l:(k.take (i+1)).length=i+1:=by rw[List.length_take];omega
  have hnew:kE ((k.take i).map f)++[prC (f p)]=kE ((k.take (i+1)).map f):=by rw[cO hp,List.map_append,List.map_singleton,Gp]
  cases i with
  |zero=>
   have a:(kE k)[((0:Int)).toNat]?=some (prC p):=jo hp _ rfl;rw[ecS.eq_1];refine q_z 1 ?_;refine ac (cT (aj (ac (ah (s_r 4 ?_)))));refine i_x a ?_;refine l_x a ?_;refine a_z ?_;refine r_m 7 ?_;refine c_s (e) ?_;refine a_z ?_;refine r_m 2 ?_;refine a_z ?_;refine⟨0+1,ω,ω,?_⟩;rw[ecS.eq_2];rw[<-hnew];exact s_x [(1,5)] (λhs=>e_3) (λhs=>e_43)
  |succ i=>
   have a:(kE k)[(((i+1:Nat):Int)).toNat]?=some (prC p):=jo hp _ ψ;have m:=D3 ((k.take (i+1)).map f);have b:(kE ((k.take (i+1)).map f)).length=i+1:=by rw[dP,List.length_map,List.length_take];omega
   rw[ecS.eq_2];refine q_z 1 ?_;refine ac (cT (aj (ac (ah (s_r 4 ?_)))));refine i_x a ?_;refine l_x a ?_;refine a_z ?_;refine r_m 7 ?_;refine c_s (e) ?_;refine o_1 (.buildSlice te_27.h TZ.h rfl δ rfl rfl rfl ν) ?_;refine o_2 (.append_l rfl rfl rfl te_27.h rfl rfl rfl rfl rfl d_o η ξ rfl (.lsl rfl (nle rfl)) TZ.h rfl TB.h d_o μ) ?_;refine o_0 (.assign rfl) ?_;refine aq ?_;refine r_m 2 ?_;refine a_z ?_;refine⟨i+1+1,ω,ω,?_⟩;rw[ecS.eq_2];exact s_x [(1,5)] (λhs=>e_3) (λhs=>e_44)
 have d:i=k.length:=ω
 cases i with
 |zero=>
  have j:k=[]:=List.eq_nil_of_length_eq_zero d.symm;subst j;rw[ecS.eq_1];refine q_z 1 ?_;refine ac (cF (ax ⟨(),trivial,?_⟩));exact s_e []
 |succ i=>
  have b:(kE (k.map f)).length=i+1:=by rw[dP,List.length_map];omega
  rw[ecS.eq_2,d,List.take_length];refine q_z 1 ?_;refine ac (cF (ax ⟨(),trivial,?_⟩));exact s_x [] (λhs=>e_45) (λhs=>e_46)
 rintro _ _;refine r_z 2 ?_;exact ai (t_e (aH _))
theorem Kp(k:Ke)(l:Rat)(g:Lq)(a:Rat)(hl:k.length<=1000)(hk:∀p∈k,(ie [a,1] p.1/\p.1.length<=274877906944)/\ie [a,1] p.2/\p.2.length<=274877906944)(hg:ie [a,1] g)(hgl:g.length<=274877906944):FS 124 [.agg (eqC k l g),.agg (qC a)] (.agg (eqC (mvK a k) l (cw [a,1] g))):=by
 have d:=Ku k 205 [bQ a] (λp=>(cw [a,1] p.1,cw [a,1] p.2)) (ae (cL a) af) hl λp hp=>HZ a p (hk p hp).1 (hk p hp).2;have c:=w4 g a hg hgl;have b:=eP k l g;refine f_c Tryz.func124 ?_;refine r_z 3 ?_;refine AWp.ent (st':=⟨[(2,.aptr [eqC k l g] 0 0),(3,bQ a),(4,.lptr 1 0 0)],[(1,some ⟨90,5,[.emp::(zC++[.emp])]⟩)],2,16⟩) ?_ ?_;refine s_x [(1,4)] (λhs=>?_) (λhs=>?_)
 ·repeat' (first|exact aL|refine az rfl ?_ ?_|exact Cv.boxp hs rfl (aG rfl) rfl b|exact Cv.boxp hs rfl (aG rfl) rfl (bC a)|exact aW)
 ·repeat' (first|exact aB|refine h_c ?_ ?_|exact bG|refine aA ?_|exact av|refine am ?_ ?_|exact Cv.boxp hs rfl (aG rfl) rfl b|exact Cv.boxp hs rfl (aG rfl) rfl (bC a)|exact aW)
 refine ac (r_d aX 12 ?_);refine c_s (d) ?_;refine c_s (c) ?_;refine a_2 ?_;refine aq (n_k ?_);exact ai (c_e (aE (eP _ _ _)))
theorem spC00:spC 0 0=[.arr [],bln false,.arr [],.arr [],bln false,.arr []]:=by unfold spC;rw[qC0];rfl
theorem Eb(k:Ke)(l:Rat)(g:Lq)(h:pp k)(hg:dt g<=20)(hgl:g.length<=1099511627776):FS 77 [.agg (eqC k l g++[.arr [],bln false,.arr [],.arr [],bln false,.arr []])] (bln false):=by
 have:=kg k l g 0 0 h δ δ Rat.le_refl hg hgl;rw[spC00] at this;exact this
theorem Kf(k:Ke)(u:Lq)(h:BM k 0 u)(hl:k.length<=1000):FS 126 [.arr (kE k),.agg [.arr [],bln false,.arr []],.arr (pE u)] (.arr (pE (upK k 0 u))):=by
 have:=Kc k 0 u h hl;rw[qC0] at this;exact this
structure OkSe (k:Ke)(l:Rat)(g:Lq)(a:Rat)(n:Nat):Prop where
 ke:pp k
 dg:dt g<=20
 mv:∀p∈k,(ie [a,1] p.1/\p.1.length<=274877906944)/\ie [a,1] p.2/\p.2.length<=274877906944
 mg:ie [a,1] g
 gl:g.length<=274877906944
 sl:sm l
 sg:smL (cw [a,1] g)
 gl2:(cw [a,1] g).length<=1099511627776
 up:∀r,r<=n->BM (mvK a k) 0 (seK (mvK a k) (cw [a,1] g) l n r)
 us:∀r,r<=n->smL (upK (mvK a k) 0 (seK (mvK a k) (cw [a,1] g) l n r))/\(upK (mvK a k) 0 (seK (mvK a k) (cw [a,1] g) l n r)).length<=1099511627776
 ss:∀r,r<=n->smL (aR (upK (mvK a k) 0 (seK (mvK a k) (cw [a,1] g) l n r)) l)
def seS(k:Ke)(l:Rat)(g:Lq)(a:Rat)(n:Nat):Nat->AState
 |r=>⟨[(2,i64 n),(9,.lptr 1 0 0),(10,.arr (pE (seK (mvK a k) (cw [a,1] g) l n r))),(29,i64 ((n:Int)+1)),(30,i64 r)],[(1,some ⟨90,5,[eqC (mvK a k) l (cw [a,1] g)]⟩)],2,47⟩
theorem H9(k:Ke)(l:Rat)(g:Lq)(a:Rat)(n:Nat)(hn:n<=40)(hok:OkSe k l g a n):FS 45 [.agg (eqC k l g),.agg (qC a),i64 n] (.tup [.arr (pE (seK (mvK a k) (cw [a,1] g) l n (n+1))),i64 0]):=by
 have p:=eP k l g;have m:=eP (mvK a k) l (cw [a,1] g);have o:=hok.ke.1;have q:(mvK a k).length=k.length:=by simp[mvK]
 have i:=Eb k l g hok.ke hok.dg (by have:=hok.gl;omega);have j:=Kp k l g a ω hok.mv hok.mg hok.gl;refine f_c Tryz.func45 ?_;refine r_z 4 ?_;refine r_z 5 ?_;refine ac (ah (r_c 3 (i) ?_));refine a_z ?_;refine cF (q_z 7 ?_);refine cF (aj (r_c 6 (j) ?_));refine a_z ?_;refine r_z 1 ?_;refine ac (r_z 3 ?_);refine aC (λ_:Unit=>⟨[(10,.arr (pE (seK (mvK a k) (cw [a,1] g) l n (n+1))))],[],1,47⟩) (λ_=>True) ?_ ?_;refine ah (ay (seS k l g a n) (λr=>n+1- r) (λr=>r<=n+1) 0 (Nat.zero_le _) ?_ ?_);simp only[seS.eq_1];exact s_f [(1,9)];intro r t;rw[seS.eq_1];by_cases hlt:r< n+1;have d:=Kf (mvK a k) _ (hok.up r ω) ω;have b:=hok.us r ω;have f:=jO _ l b.1 hok.sl b.2;have h:=pS (cw [a,1] g) _ hok.sg (hok.ss r ω) hok.gl2 (Nat.le_trans (dW _ _) b.2)
 have c:=fs_cut (fR (cw [a,1] g) (aR (upK (mvK a k) 0 (seK (mvK a k) (cw [a,1] g) l n r)) l)) n (by
  have u:=jX (cw [a,1] g) (aR (upK (mvK a k) 0 (seK (mvK a k) (cw [a,1] g) l n r)) l);have s:=dW (upK (mvK a k) 0 (seK (mvK a k) (cw [a,1] g) l n r)) l;have:=hok.gl2;have:=b.2;omega) ω
 refine q_z 1 ?_;refine ac (cT (aj (ac (ah (r_d aX 14 ?_)))));refine c_s (d) ?_;refine c_s (f) ?_;refine c_s (h) ?_;refine c_s (c) ?_;refine a_1 ?_;refine aq (n_k ?_);refine r_m 2 ?_;refine a_z ?_;refine⟨r+1,ω,ω,?_⟩;simp only[seS.eq_1];rw[seK];exact s_f [(1,9)];have e:r=n+1:=ω
 subst e;refine q_z 1 ?_;refine ac (cF (ax ⟨(),trivial,?_⟩));exact s_e [];rintro _ _;refine r_z 3 ?_;refine ai (Fin.many ⟨_,_,rfl,rfl,⟨_,_,rfl,rfl,rfl⟩⟩ (nle rfl) ?_);exact am (ao aF (aD _)) (am (ao aF (ak _)) av)
theorem yw{k:Ke}(hkl:k.length<=3)(h4:∀p∈k,p.1.length<=4/\p.2.length<=4):pp k:=by
 refine⟨ω,?_,λp hp=>by have:=h4 p hp;omega⟩;rw[List.any_eq_false];intro p hp;have h:=h4 p hp;have a:=bh p.1;have a2:=bh p.2
 have:¬(12< if dt p.2> dt p.1 then dt p.2 else dt p.1):=by
  unfold dt;split <;> omega
 unfold xZ;simpa using this
theorem GS(g:Lq){n:Nat}(h:g.length<=n+1):dt g<=n:=by
 have:=bh g;unfold dt;omega
theorem Iy{k:Ke}{l:Rat}{g:Lq}{a:Rat}{n:Nat}(hn:n<=40)(hkl:k.length<=3)(h4:∀p∈k,p.1.length<=4/\p.2.length<=4)(hb:∀p∈k,bdL p.1 20/\bdL p.2 20)(hg:g.length<=5)(bg:bdL g 20)(hl:qs l<=20)(ha:qs a<=20):OkSe k l g a n:=by
 obtain⟨M,Q,w,C,E,A,x⟩:=LK hkl h4 hb;obtain⟨c,i,d0⟩:=Fk ha;obtain⟨m,t,y⟩:=Fk hl;obtain⟨R,v⟩:=Bg g bg;have v:=v.mono (show _<=101 by omega);obtain⟨z,B,o,j,q,u,h⟩:=IC w C E A x d0 i c;obtain⟨D,e⟩:=HS_shift' (N:=4) d0 i c v ω;have e:=e.mono (show _<=3000 by omega);have F:=k8 a g;have f:(mvK a k).length<=900:=by unfold mvK;simp;omega
 have S:=λr (s:r<=1000)=>I3 (k:=mvK a k) (G:=cw [a,1] g) (L:=l) o f ω ω j q u h e y t m hn r s;have U:=λr (s:r<=1000) (K:Rat) (H:HS (seK (mvK a k) (cw [a,1] g) l n r) K (20000* r+1))=>zq (a:=0) (d:=1) o f (by have:=zL (mvK a k) (cw [a,1] g) l n r;omega) H δ (IB.one.mono ω) ((IB.zero 20).eq φ) δ ω j q u h ω;refine⟨yw hkl h4,by have:=GS g (n:=4) ω;omega,λp hp=>?_,?_,ω,by unfold sm;omega,io (e.bdL ω) ω,ω,λr s=>(S r ω).2,λr s=>?_,λr s=>?_⟩;obtain⟨J,O⟩:=h4 p hp;exact⟨⟨oR (N:=3) d0 i c ha ω ω ω _ ω (w.a p hp),ω⟩,oR (N:=3) d0 i c ha ω ω ω _ ω (w.b p hp),ω⟩;exact oR (N:=4) d0 i c ha ω ω ω _ ω v;obtain⟨K,H⟩:=(S r ω).1;obtain⟨u1,u2,_⟩:=U r ω K H;have hl:=zL (mvK a k) (cw [a,1] g) l n r;exact⟨io (u1.bdL ω) ω,ω⟩;obtain⟨K,H⟩:=(S r ω).1;obtain⟨u1,u2,_⟩:=U r ω K H;exact io ((u1.k y t m).bdL ω) ω
theorem G9(k:Ke):k.any xZ=k.any uc:=by
 congr 1;exact funext Iw
theorem okKe_va{k:Ke}(h:vaB k=true)(h2:∀p∈k,p.1.length<=1099511627776/\p.2.length<=1099511627776):pp k:=by
 unfold vaB at h;simp only[Bool.and_eq_true,Bool.not_eq_true',decide_eq_true_eq] at h;exact⟨h.2,by rw[G9];exact h.1,h2⟩
theorem mZ(k:Ke)(h:vaB k=false)(hl:k.length<=1000)(h2:∀p∈k,p.1.length<=1099511627776/\p.2.length<=1099511627776):FS 15 [.arr (kE k)] (i64 2):=by
 have a:(kE k).length=k.length:=dP k;have hc:=r7 k 56 [] xZ af ω (λp hp=>yV p (h2 p hp).1 (h2 p hp).2) rfl;by_cases h8:8< k.length;refine f_n Tryz.func15 ?_ ?_;exact ae (aH k) af;refine r_z 1 ?_;refine ac (q_z 7 ?_);refine cT (r_z 1 ?_);exact ai (t_e (ak _))
 have hb:k.any xZ=true:=by
  unfold vaB at h;rw[decide_eq_true (by omega:k.length<=8),Bool.and_true] at h;rw[G9];simpa using h
 rw[hb] at hc;refine f_n Tryz.func15 ?_ ?_;exact ae (aH k) af;refine r_z 1 ?_;refine ac (q_c 7 (hc) ?_);refine a_z ?_;refine cT (r_z 1 ?_);exact ai (t_e (ak _))
theorem D9(k:Ke)(a b:Rat)(h:vaB k=false)(hl:k.length<=1000)(h2:∀p∈k,p.1.length<=1099511627776/\p.2.length<=1099511627776):FS 51 [.arr (kE k),.agg (spC a b)] (bln true):=by
 have c:=mZ k h hl h2;refine f_n Tryz.func51 ?_ ?_;exact ae (aH k) (ae (b9 _ _) af);refine r_z 2 ?_;refine r_c 9 (c) ?_;refine o_0 (.bin rfl rfl (vT cm (rfl))) ?_;refine d_z ?_;exact ai (t_e (ak _))
def fiO(A:Nat->Nat->Rat)(n g:Nat)(cap:La)(i:Nat):AState:=⟨[(0,i64 n),(1,.clos g [] cap),(5,.lsl 1 0 n (some n) 1),(11,i64 n),(12,i64 i)],mzH 3 61 42 (foE (λ_=>n) (λx=>x) n i) (fiL A n i),40,35⟩
def fiE(A:Nat->Nat->Rat)(n:Nat):AState:=⟨[(5,.lsl 1 0 n (some n) 1)],mzH 3 61 42 (foE (λ_=>n) (λx=>x) n n) (fiL A n n),40,35⟩
def fiI(A:Nat->Nat->Rat)(n g:Nat)(cap:La)(i:Nat):Nat->AState
 |0=>⟨[(0,i64 n),(1,.clos g [] cap),(5,.lsl 1 0 n (some n) 1),(6,i64 i),(11,i64 n),(12,i64 i),(15,i64 n),(16,i64 0)],mzH 3 61 42 (foE (λ_=>n) (λx=>x) n i) (fiL A n i),40,35⟩
 |j+1=>⟨[(0,i64 n),(1,.clos g [] cap),(5,.lsl 1 0 n (some n) 1),(6,i64 i),(11,i64 n),(12,i64 i),(15,i64 n),(16,i64 ((j+1:Nat):Int))],mzH 3 61 42 (foE (wJ n i (j+1)) (λx=>x) n (i+1)) (fiL A n i++[pE (aN (j+1) (A i))]),40,35⟩
theorem Cs{r:Ren}{hp hp':Hq}{fr fr':Fr}{g:Nat}{cap:La}(hs:Shr r hp hp')(hcc:Closed (.clos g [] cap))(h:CvF r hp hp' fr fr':=by repeat' (first|exact aL|refine az rfl ?_ ?_|exact ao hs hcc|exact ao hs (ak _)|exact Cv.sl rfl rfl rfl|(refine Cv.loE hs ?_ (ak _);simp[i64];done))):CvF r hp hp' fr fr':=h
theorem ya(A:Nat->Nat->Rat)(n g:Nat)(cap:La)(hn:n<=25)(hcap:∀c∈cap,Closed c)(hg:∀i j:Nat,i< n->j< n->FS g ((i64 i::i64 j::cap).map coe) (.agg (qC (A i j)))):
    XSpecT Tryz.prog 111 [i64 n,.clos g [] cap] [] 1 (.lsl 1 0 n (some n) 1) (mzH 3 61 42 (mzO 3 (λ_=>n) (λx=>x) n) (fiL A n n)) 40:=by
 have hcc:Closed (.clos g [] cap):=a6 af hcap;refine XSpecT.enter (t:=4) Tryz.func111 rfl κ rfl rfl rfl rfl rfl ?_;refine r_z 1 ?_;refine r_z 3 ?_;refine ac (r_z 3 ?_);refine aC (λ_:Unit=>fiE A n) (λ_=>True) ?_ ?_
 ·refine ah (ay (fiO A n g cap) (λi=>n- i) (λi=>i<=n) 0 (Nat.zero_le _) ?_ ?_)
  rw[fiO.eq_1];refine SEntT.ent (SEntT.mz (λx=>cond (Nat.beq x 1) 3 x) _ (List.replicate n [.emp]) _ ψ rfl (λi j h1 h2 h3 h4 _=>by rw[kY] at h2 h4;omega) rfl (by rw[foE_0]) ?_ ?_ ?_);intro i e hi;exact absurd (oj hi).1 ω;intro hs;rw[foE_0];exact ba hs λe he c hc=>by rw[(List.mem_replicate.1 he).2,List.mem_singleton] at hc;rw[hc];exact dw
  exact λhs=>Cs hs hcc;intro i hi;rw[fiO.eq_1];by_cases hlt:i< n;rotate_left;have hge:i=n:=ω
  subst hge;refine q_z 1 ?_;refine ac (cF (ax ⟨(),trivial,?_⟩));refine SEntT.ent (SEntT.mz (λx=>x) _ _ _ χ rfl (λi j _ _ _ _ e=>e) rfl rfl ?_ ?_ ?_);intro k e hk;obtain⟨h1,rfl⟩:=oj hk;exact⟨dH (fQ h1),aQ _⟩;exact λhs=>mF hs ω λk hk=>by rw[dH (fQ hk)];rfl
  exact λhs=>Cs hs hcc;refine q_z 1 ?_;refine ac (cT (aj (ac (ah (r_z 2 ?_)))));refine r_z 2 ?_;refine AWp.cutB (λ_:Unit=>fiI A n g cap i n) (λ_=>True) ?_ ?_;refine ah (ay (fiI A n g cap i) (λj=>n- j) (λj=>j<=n) 0 (Nat.zero_le _) ?_ ?_);rw[fiI.eq_1];refine SEntT.ent (SEntT.mz (λx=>x) _ _ _ χ rfl (λi j _ _ _ _ e=>e) rfl rfl ?_ ?_ ?_);intro k e hk;obtain⟨h1,rfl⟩:=oj hk;exact⟨dH (fQ h1),aQ _⟩;exact λhs=>mF hs ω λk hk=>by rw[dH (fQ hk)];rfl
  exact λhs=>Cs hs hcc;intro j hj;by_cases hjn:j< n
  ·have hg1:=hg i j hlt hjn
   cases j with
   |zero=>
    rw[fiI.eq_1];refine q_z 1 ?_;refine ac (cT (aj (ac (ah (r_z 2 ?_)))));refine r_d aX 14 ?_;refine a_5 ?_;refine bm (.load_l1 rfl rfl (foE_ge' (Nat.le_refl _) hlt _ ω) TG.h rfl) rfl rfl ?_;refine c_s (hg1) ?_;refine a_3 ?_;refine fN (.store rfl rfl (foE_ge' (Nat.le_refl _) hlt _ ω) rfl rfl rfl TS.h (nle rfl)) ?_;refine aq (n_k ?_);refine r_m 2 ?_;refine a_z ?_;refine⟨0+1,ω,ω,?_⟩;rw[fiI.eq_2];refine SEntT.ent (SEntT.mz (fiR i 54) _ (foE (wJ n i (0+1)) (fiR i 54) n (i+1)) _ χ (Cu _ _) (λx y _ h2 _ h4 e=>r8 (m:=40) (Nat.le_refl _) δ x y (by simp at h2;omega) (by simp at h4;omega) e) ?_ ?_ ?_ ?_ ?_);rw[Ct,<-fi_set0 hlt (0+((i:Nat):Int).toNat) ω];rfl;rw[jr hlt,jr hlt];intro k e hk;rcases EE hk with⟨h1,rfl⟩|⟨rfl,rfl⟩
    ·rw[jG ω]
     refine⟨?_,aQ _⟩
     repeat rw[bZ ω]
     exact dH (fQ h1)
    rw[o5];exact⟨rfl,aQ _⟩
    exact λhs=>mF hs ω λk hk=>by
     by_cases hki:k< i;rw[dH (tI hki)];rfl;obtain rfl:k=i:=ω
     rw[dH r9];rfl
    exact λhs=>Cs hs hcc
   |succ j=>
    rw[fiI.eq_2];have hlen:(pE (aN (j+1) (A i))).length=j+1:=by simp[pE]
    have hrw:∀(k:Nat) (B:Option ABlk),k≠i+2->dS (au ((k,B)::mzH 3 61 42 (foE (wJ n i (j+1)) (λx=>x) n (i+1)) (fiL A n i++[pE (aN (j+1) (A i))]))) (i+2)=some ⟨42,3,pE (aN (j+1) (A i))⟩:=λk B hk=>eA (by rw[bZ hk];exact dH r9) (show(3:Nat)≠0 by decide);have hi53:(53:Nat)≠i+2:=ω
    refine q_z 1 ?_;refine ac (cT (aj (ac (ah (r_z 2 ?_)))));refine r_d aX 14 ?_;refine a_5 ?_;refine bm (.load_l1 rfl rfl (foE_lt' (Nat.lt_succ_self _) Fu _ ω) TG.h rfl) rfl rfl ?_;refine c_s (hg1) ?_;refine a_1 ?_;refine o_2 (.append_l rfl rfl rfl te_61.h rfl rfl (hrw 53 _ hi53) rfl rfl hlen (cD _) (by rfl) rfl (.lsl rfl (nle rfl)) TZ.h rfl TB.h (by first|rfl|assumption|(simp;done)|(simp;omega)|omega) μ) ?_;refine a_1 ?_;refine fN (.store rfl rfl (foE_lt' (Nat.lt_succ_self _) Fu _ ω) rfl rfl rfl TS.h (nle rfl)) ?_;refine aq (n_k ?_);refine r_m 2 ?_;refine a_z ?_;refine⟨j+1+1,ω,ω,?_⟩;rw[fiI.eq_2];refine SEntT.ent (SEntT.mz (fiR i 54) _ (foE (wJ n i (j+1+1)) (fiR i 54) n (i+1)) _ χ (Cu _ _) (λx y _ h2 _ h4 e=>r8 (m:=40) (Nat.le_refl _) δ x y (by simp at h2;omega) (by simp at h4;omega) e) ?_ ?_ ?_ ?_ ?_);rw[Ct,<-fi_set hlt (0+((i:Nat):Int).toNat) ω];rfl;rw[jr hlt,jr hlt];intro k e hk;rcases EE hk with⟨h1,rfl⟩|⟨rfl,rfl⟩
    ·rw[jG ω]
     refine⟨?_,aQ _⟩
     repeat rw[bZ ω]
     exact dH (tI h1)
    rw[o5];refine⟨?_,aQ _⟩;rw[yg (j+1),lZ];rfl
    exact λhs=>mF hs ω λk hk=>by
     by_cases hki:k< i;rw[dH (tI hki)];rfl;obtain rfl:k=i:=ω
     rw[dH r9];rfl
    exact λhs=>Cs hs hcc
  have hge:j=n:=ω
  obtain⟨j,rfl⟩:∃j',j=j'+1:=⟨j- 1,ω⟩;rw[fiI.eq_2];refine q_z 1 ?_;refine ac (cF (ax ⟨(),trivial,?_⟩));rw[<-hge,fiI.eq_2];refine SEntT.ent (SEntT.mz (λx=>x) _ _ _ χ rfl (λi j _ _ _ _ e=>e) rfl rfl ?_ ?_ ?_);intro k e hk;rcases EE hk with⟨h1,rfl⟩|⟨rfl,rfl⟩
  exact⟨dH (tI h1),aQ _⟩;exact⟨dH r9,aQ _⟩
  exact λhs=>mF hs ω λk hk=>by
   by_cases hki:k< i;rw[dH (tI hki)];rfl;obtain rfl:k=i:=ω
   rw[dH r9];rfl
  exact λhs=>Cs hs hcc;rintro _ _;obtain⟨m,rfl⟩:∃m,n=m+1:=⟨n- 1,ω⟩;rw[fiI.eq_2,KL,Ii (w:=wJ (m+1) i (m+1)) (w':=λ_=>m+1) (s':=λx=>x) (λk hk=>⟨by unfold wJ;cases Nat.blt k i <;> rfl,rfl⟩)];refine r_m 2 ?_;refine a_z ?_;refine⟨i+1,ω,ω,?_⟩;rw[fiO.eq_1];refine SEntT.ent (SEntT.mz (λx=>x) _ _ _ χ rfl (λi j _ _ _ _ e=>e) rfl rfl ?_ ?_ ?_);intro k e hk;obtain⟨h1,rfl⟩:=oj hk;exact⟨dH (fQ h1),aQ _⟩;exact λhs=>mF hs ω λk hk=>by rw[dH (fQ hk)];rfl
  exact λhs=>Cs hs hcc
 rintro _ _;show AWp _ _ _ _ ⟨[(5,.lsl 1 0 n (some n) 1)],mzH 3 61 42 (foE (λ_=>n) (λx=>x) n n) (fiL A n n),40,35⟩;rw[foE_n];refine r_z 2 ?_;refine ai (FinXT.of (SEntT.mz (λx=>x) _ _ _ χ rfl (λi j _ _ _ _ e=>e) rfl rfl ?_ ?_ ?_));intro k e hk;obtain⟨h1,rfl⟩:=oj hk;exact⟨dH (fQ h1),aQ _⟩;exact λhs=>sJ ω λk hk=>by rw[dH (fQ hk)];rfl
 exact λhs=>Cs hs hcc
theorem H1(A:Nat->Nat->Rat)(n g:Nat)(cap:La)(hn:n<=25)(hcap:∀c∈cap,Closed c)(hg:∀i j:Nat,i< n->j< n->FS g ((i64 i::i64 j::cap).map coe) (.agg (qC (A i j)))):
    FS 111 [i64 n,.clos g [] cap] (.arr ((fiL A n n).map λe=>[.arr e])):=
 (ya A n g cap hn hcap hg).shut rfl (ae (ak _) (ae (a6 af hcap) af))
  (Cv.mzShut (r:=⟨0,λi=>i⟩) (show(3:Nat)≠0 by decide) aF (λ_=>rfl) (kY _ _ _).symm (λi e h=>by have:=(oj h).2;subst this;simp[pE]) λe a x d c hc=>by
   obtain⟨k,_,rfl⟩:=List.mem_map.1 a;exact aQ _ x d c hc) (aK λe a c hc=>by
   obtain⟨y,b,rfl⟩:=List.mem_map.1 a;obtain⟨k,_,rfl⟩:=List.mem_map.1 b;rw[List.mem_singleton] at hc;rw[hc];exact aK (aQ _))
def inQ(p:Lq)(a b:Rat):Rat:=an (aM p) b- an (aM p) a
structure OkIn (p:Lq)(a b:Rat):Prop where
 s:smL p
 l:p.length<=1099511627775
 e1:fM (aM p) b
 e2:fM (aM p) a
 d:qs (an (aM p) b)+qs (an (aM p) a)<=549755813888
theorem rW(p:Lq)(a b:Rat)(h:OkIn p a b):FS 166 [.arr (pE p),.agg (spC a b)] (.agg (qC (inQ p a b))):=by
 refine f_c Tryz.func166 ?_;refine r_z 2 ?_;refine r_c 3 (uD p h.s h.l) ?_;refine a_z ?_;refine ac (r_d aX 10 ?_);refine c_s (jF _ b h.e1) ?_;refine c_s (jF _ a h.e2) ?_;refine c_s (kU _ _ h.d) ?_;refine a_1 ?_;refine aq (n_k ?_);exact ai (c_e (aP _))
def bKe(k:Ke):AV:= .aptr [[.arr (kE k)]] 0 0
def bSp(a b:Rat):AV:= .aptr [spC a b] 0 0
theorem dm(k:Ke):Closed (bKe k):=bi (ae (aH k) af)
theorem cW(a b:Rat):Closed (bSp a b):=bi (bt a b)
theorem Em(k:Ke)(a b:Rat)(i j:Nat)(p q:Lq×Lq)(hp:k[i]?=some p)(hq:k[j]?=some q)(hl:k.length<=1000)(hm:ls p.2 q.1)(ho:OkIn (aT p.2 q.1) a b):
    FS 204 [i64 i,i64 j,bKe k,bSp a b] (.agg (qC (inQ (aT p.2 q.1) a b))):=by
 have e:(kE k).length=k.length:=dP k;have g:i< k.length:=(List.getElem?_eq_some_iff.1 hp).1;have f:j< k.length:=(List.getElem?_eq_some_iff.1 hq).1;have d:(kE k)[((i:Nat):Int).toNat]?=some (prC p):=jo hp _ ψ;have c:(kE k)[((j:Nat):Int).toNat]?=some (prC q):=jo hq _ ψ;refine f_n Tryz.func204 ?_ ?_;exact ae (ak _) (ae (ak _) (ae (dm k) (ae (cW a b) af)));refine r_z 1 ?_;refine ac (r_d aX 14 ?_);refine a_2 ?_;refine i_x d ?_;refine a_1 ?_;refine l_1 d ?_;refine a_2 ?_;refine i_x c ?_;refine a_1 ?_;refine l_1 c ?_;refine c_s (vd p.2 q.1 hm) ?_;refine c_s (rW _ a b ho) ?_;refine a_1 ?_;refine aq (n_k ?_);exact ai (c_e (aP _))
def maK(k:Ke)(a b:Rat)(i j:Nat):Rat:=inQ (aT (k.getD i ([],[])).2 (k.getD j ([],[])).1) a b
structure OkMa (k:Ke)(a b:Rat):Prop where
 l:k.length<=8
 m:∀p∈k,∀q∈k,ls p.2 q.1/\OkIn (aT p.2 q.1) a b
theorem El(k:Ke)(a b:Rat)(h:OkMa k a b)(i j:Nat)(hi:i< k.length)(hj:j< k.length):FS 204 ((i64 i::i64 j::[bKe k,bSp a b]).map coe) (.agg (qC (maK k a b i j))):=by
 obtain⟨p,hp⟩:∃p,k[i]?=some p:=⟨_,List.getElem?_eq_getElem hi⟩;obtain⟨q,c⟩:∃q,k[j]?=some q:=⟨_,List.getElem?_eq_getElem hj⟩;have d:=h.m p (List.mem_of_getElem? hp) q (List.mem_of_getElem? c);have e:maK k a b i j=inQ (aT p.2 q.1) a b:=by unfold maK;rw[List.getD_eq_getElem?_getD,List.getD_eq_getElem?_getD,hp,c];rfl
 rw[e];exact Em k a b i j p q hp c (by have:=h.l;omega) d.1 d.2
theorem sK(k:Ke)(a b:Rat)(h:OkMa k a b):
    XSpecT Tryz.prog 121 [.arr (kE k),.agg (spC a b)] [] 1 (.lsl 1 0 k.length (some k.length) 1) (mzH 3 61 42 (mzO 3 (λ_=>k.length) (λx=>x) k.length) (fiL (maK k a b) k.length k.length)) 40:=by
 have c:(kE k).length=k.length:=dP k;have o:=h.l;have m:=(ya (maK k a b) k.length 204 [bKe k,bSp a b] ω (ae (dm k) (ae (cW a b) af)) (El k a b h)).x;refine XSpecT.enter (t:=4) Tryz.func121 rfl κ rfl rfl rfl rfl rfl ?_;refine r_z 3 ?_;refine AWp.ent (st':=⟨[(2,bKe k),(3,bSp a b)],[],1,9⟩) ?_ ?_;exact s_x [] (λhs=>e_47) (λhs=>e_48);refine ac (AWp.regX (fr2:=[(6,i64 k.length),(7,.clos 204 [] [bKe k,bSp a b])]) (hp2:=[]) (nx2:=1) (fr3:=[]) 3 rfl rfl rfl rfl rfl rfl ?_ rfl rfl rfl m (λt x f=>by cases f) (λt x f=>by cases f) ?_);refine bm (.load_a1 rfl rfl TG.h rfl) rfl rfl ?_;refine bm (.len rfl rfl rfl rfl rfl te_28.h) rfl rfl ?_;refine o_0 (.makeFunc rfl rfl) ?_;refine aq ?_;refine s_y [] (λhs=>?_) (λhs=>?_)
 ·repeat' (first|exact aL|refine az rfl ?_ ?_|exact ao hs (a6 af (ae (dm k) (ae (cW a b) af)))|(refine Cv.loE hs ?_ (ak _);simp[i64,c];done)|exact aW)
 ·repeat' (first|exact aB|refine h_c ?_ ?_|exact bG|refine aA ?_|exact av|refine am ?_ ?_|exact ao hs (a6 af (ae (dm k) (ae (cW a b) af)))|(refine Cv.loE hs ?_ (ak _);simp[i64,c];done)|exact aW)
 refine o_0 (.assign rfl) ?_;refine aq ?_;refine ai (FinXT.of (SEntT.mz (λx=>x) _ _ _ χ rfl (λi j _ _ _ _ e=>e) rfl rfl ?_ ?_ ?_));intro n e d;obtain⟨g,rfl⟩:=oj d;exact⟨dH (fQ g),aQ _⟩;exact λhs=>sJ ω λn d=>by rw[dH (fQ d)];rfl
 exact λhs=>az rfl (Cv.sl rfl rfl rfl) aL
def mE(k:Lw):Lc:=k.map λe=>[.arr (pE e)]
@[simp] theorem HK (k:Lw):(mE k).length=k.length:=by simp[mE]
theorem Ir(k:Lw):∀x∈mE k,∀c∈x,Closed c:=λx a=>by
 obtain⟨p,_,rfl⟩:=List.mem_map.1 a;exact ae (aD _) af
theorem closed_mA(k:Lw):Closed (.arr (mE k)):=aK (Ir k)
theorem tj{k:Lw}{i:Nat}{p:Lq}(h:k[i]?=some p):∀e,e=i->(mE k)[e]?=some [.arr (pE p)]:=λe a=>by
 rw[a,mE,List.getElem?_map,h];rfl
def imS(k:Lw)(g:Nat)(cap:La):Nat->AState
 |i=>⟨[(0,.arr (mE k)),(1,.clos g [] cap),(7,i64 k.length),(8,i64 i)],[],1,19⟩
theorem yU(k:Lw)(g:Nat)(cap:La)(t:Lq->Bool)(hcap:∀c∈cap,Closed c)(hl:k.length<=1099511627776)(hg:∀p∈k,FS g ((.arr (pE p)::cap).map coe) (bln (t p))):FS 199 [.arr (mE k),.clos g [] cap] (i64 (kT t k 0)):=by
 have hcc:Closed (.clos g [] cap):=a6 af hcap;have j:(mE k).length=k.length:=HK k;refine f_c Tryz.func199 ?_;obtain⟨R,h⟩:∃R,R=kT t k 0:=⟨_,rfl⟩;rw[<-h];refine r_z 1 ?_;refine ac (r_z 3 ?_);refine aC (λ_:Unit=>⟨[],[],1,19⟩) (λ_=>R= -1) ?_ ?_;refine ah (ay (imS k g cap) (λi=>k.length- i) (λi=>i<=k.length/\kT t (k.drop i) i=R) 0 ⟨Nat.zero_le _,by rw[h];rfl⟩ ?_ ?_);simp only[imS.eq_1];exact s_x [] (λhs=>e_49) (λhs=>e_50);rintro i ⟨l,a⟩;rw[imS.eq_1];by_cases hlt:i< k.length;refine q_z 1 ?_;refine ac (cT (aj ?_));obtain⟨p,hp⟩:∃p,k[i]?=some p:=⟨_,List.getElem?_eq_getElem hlt⟩;have b:(mE k)[((i:Nat):Int).toNat]?=some [.arr (pE p)]:=tj hp _ ψ;rw[AO hp,kT] at a;refine ac (ah (r_z 2 ?_));refine s_r 6 ?_;refine a_3 ?_;refine i_x b ?_;refine l_1 b ?_;refine c_s (hg p (List.mem_of_getElem? hp)) ?_;refine aq ?_;refine ar rfl (λf=>?_) (λf=>?_);have e:t p=true:=f;rw[if_pos e] at a;refine r_z 2 ?_;refine ai (aS rfl ?_ ?_);rw[<-a];exact ak _;have e:¬t p=true:=by rw[show t p=false from f];decide
 rw[if_neg e] at a;refine aj (r_m 2 ?_);refine a_z ?_;refine⟨i+1,ω,⟨hlt,a⟩,?_⟩;simp only[imS.eq_1];exact s_x [] (λhs=>e_49) (λhs=>e_50);have d:i=k.length:=ω
 subst d;refine q_z 1 ?_;refine ac (cF ?_);rw[List.drop_length] at a;refine ax ⟨(),a.symm,?_⟩;exact s_e [];rintro _ a;refine r_z 1 ?_;refine ai (aS rfl ?_ ?_);rw[a];rfl;exact ak _
theorem AB(k:Lw)(g:Nat)(cap:La)(t:Lq->Bool)(hcap:∀c∈cap,Closed c)(hl:k.length<=1099511627776)(hg:∀p∈k,FS g ((.arr (pE p)::cap).map coe) (bln (t p)))(hcap2:cap.map coe=cap):FS 167 [.arr (mE k),.clos g [] cap] (bln (k.any t)):=by
 have a:Closed (.clos g [] cap):=a6 af hcap;have e:=rz t k 0 (Int.le_refl 0);have b:=yU k g cap t hcap hl hg;refine f_c Tryz.func167 ?_;refine r_z 1 ?_;refine r_c 5 (b) ?_;refine a_z ?_;refine ai (aS rfl ?_ ?_);rw[<-e];rfl;exact ak _
theorem Ee(e:Lq)(c:Nat)(x:Rat)(hx:e[c]?=some x):FS 200 [.arr (pE e),.aptr [[i64 c]] 0 0] (bln (decide (x≠0))):=by
 have b:c< e.length:=(List.getElem?_eq_some_iff.1 hx).1;have d:(pE e).length=e.length:=by simp[pE]
 have a:(pE e)[((c:Nat):Int).toNat]?=some (qC x):=by simp[pE,hx]
 refine f_c Tryz.func200 ?_;refine r_z 1 ?_;refine s_r 7 ?_;refine a_2 ?_;refine i_x a ?_;refine l_x a ?_;refine c_s (c6 x) ?_;refine a_z ?_;refine ai (aS rfl ?_ ?_);rw[show decide (x≠0)=decide (sgZ x.num≠0) from decide_eq_decide.2 (not_congr sgZ_num_eq.symm)]
 first|rfl|(congr 1;cases hb:decide (sgZ x.num=0) with|true=>(have:=of_decide_eq_true hb;simp[this])|false=>(have:=of_decide_eq_false hb;simp[bln,bne,this]))
 exact ak _
end Go.Proofs.YtjmkjicckobojaaGreatDoor
