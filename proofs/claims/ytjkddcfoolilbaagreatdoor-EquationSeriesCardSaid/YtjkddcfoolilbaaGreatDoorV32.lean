/- Part V32 of the proof. -/
import Derived.Test.YtjkddcfoolilbaaGreatDoorV31
set_option linter.all false
namespace Go.Proofs.YtjkddcfoolilbaaGreatDoor
open Go.Abs
set_option maxRecDepth 20000
set_option maxHeartbeats 4000000
structure OkSm (k:Ke)(c:List Rat)(i:Nat)(p:List Rat×List Rat):Prop where
 p1:smL p.1
 p2:p.1.length≤1099511627776
 cs:sm (coP c i)
 o1:smL (smK k c i)
 o2:(smK k c i).length≤1099511627776
 s1:smL (aN_ p.1 (coP c i))
 s2:(aN_ p.1 (coP c i)).length≤1099511627776
def ksS(k:Ke)(c:List Rat):Nat→AState
 |i=>⟨[(1,.arr (pE c)),(5,.arr (pE (smK k c i))),(8,.arr (kE k)),(9,i64 k.length),(10,i64 i)],[],1,26⟩
theorem r0_(k:Ke)(c:List Rat)(hc:c.length=k.length)(hl:k.length≤1000)(h:∀i p,k[i]?=some p→OkSm k c i p):FS 72 [.arr (kE k),.arr (pE c)] (.arr (pE (smK k c k.length))):=by
 have hkl:(kE k).length=k.length:=b4_ k;refine f_n Tryz.func72 ?_ ?_;exact aa_ (aE_ k) (aa_ (ar_ c) ac_);refine r_z 1 ?_;refine r_z 1 ?_;refine ab_ (r_z 3 ?_);refine aw_ (fun _:Unit=>⟨[(5,.arr (pE (smK k c k.length)))],[],1,26⟩) (fun _=>True) ?_ ?_;refine ae_ (aq_ (ksS k c) (fun i=>k.length- i) (fun i=>i≤k.length) 0 (Nat.zero_le _) ?_ ?_);rw[ksS.eq_1];exact s_x [] (fun hs=>e_46) (fun hs=>e_47);intro i hi;rw[ksS.eq_1];by_cases hlt:i< k.length;obtain⟨p,hp⟩:∃p,k[i]?=some p:=⟨_,List.getElem?_eq_getElem hlt⟩;have hgt:(kE k)[((i:Nat):Int).toNat]?=some (prC p):=gv_ hp _ (by simp);have hcl:(pE c).length=k.length:=by simp[pE,hc]
 have hcg:(pE c)[((i:Nat):Int).toNat]?=some (qC (coP c i)):=by
  have:=bw_ (p:=c) (i:=i) (by omega);simp[pE,this]
 have ok:=h i p hp;have h1:=ee_ p.1 (coP c i) ok.p1 ok.cs ok.p2;have h2:=i6_ (smK k c i) _ ok.o1 ok.s1 ok.o2 ok.s2;refine q_z 1 ?_;refine ab_ (cT (ah_ (ab_ (ae_ (s_r 6 ?_)))));refine a_1 ?_;refine i_x hgt ?_;refine l_x hgt ?_;refine a_z ?_;refine r_d hmix 10 ?_;refine a_5 ?_;refine i_x hcg ?_;refine l_x hcg ?_;refine c_s (h1) ?_;refine c_s (h2) ?_;refine a_1 ?_;refine al_ (n_k ?_);refine r_m 2 ?_;refine a_z ?_;refine⟨i+1,by omega,by omega,?_⟩;rw[ksS.eq_1,smK_s hp];unfold smF;exact s_x [] (fun hs=>e_46) (fun hs=>e_47);have hge:i=k.length:=by omega
 refine q_z 1 ?_;refine ab_ (cF (ao_ ⟨(),trivial,?_⟩));rw[hge];exact s_e [];rintro _ _;refine r_z 2 ?_;exact af_ (t_e (ar_ _))
def tkC(k:Ke)(l:Rat)(g:List Rat)(a b:Rat):List AV:=eqC k l g++spC a b
theorem cr_(k:Ke)(l:Rat)(g:List Rat)(a b:Rat):∀c∈tkC k l g a b,Closed c:=cf_ (bB_ k l g) (a0_ a b)
def bTk(k:Ke)(l:Rat)(g:List Rat)(a b:Rat):AV:= .aptr [tkC k l g a b] 0 0
theorem bn_(k:Ke)(l:Rat)(g:List Rat)(a b:Rat):Closed (bTk k l g a b):=aL_ (cr_ k l g a b)
theorem fs_sys1(k:Ke)(l:Rat)(g:List Rat)(a b:Rat)(p:List Rat×List Rat)(hm:okMul p.2 g)(ho:OkIn (mulP p.2 g) a b):
    FS 136 [.agg (prC p),bTk k l g a b] (.agg (qC (inQ (mulP p.2 g) a b))):=by
 refine f_n Tryz.func136 ?_ ?_;exact aa_ (ay_ (di_ p)) (aa_ (bn_ k l g a b) ac_);refine r_z 2 ?_;refine ab_ (r_d hmix 10 ?_);refine c_s (kS_ p.2 g hm) ?_;refine c_s (iX_ _ a b ho) ?_;refine a_1 ?_;refine al_ (n_k ?_);exact af_ (c_e (aC_ _))
def rhK(k:Ke)(g:List Rat)(a b:Rat):List Rat:=k.map fun p=>inQ (mulP p.2 g) a b
@[simp] theorem rhK_length (k:Ke)(g:List Rat)(a b:Rat):(rhK k g a b).length=k.length:=by simp[rhK]
def syM(k:Ke)(l:Rat)(r:List Rat)(a b:Rat):Mx×List Nat:=slM (svM (maK k a b) l (fun t=>coP r t) k.length) k.length k.length
structure OkSy (k:Ke)(l:Rat)(a b:Rat)(s:Nat):Prop where
 m:OkMa k a b
 q:∀i j,i< k.length→j< k.length→qs (maK k a b i j)+qs l+2≤s
 s:slB s k.length≤100000000000
theorem OkSy.le{k:Ke}{l a b:Rat}{s:Nat}(h:OkSy k l a b s):s≤100000000000:=Nat.le_trans (nX_ (s:=s) (Nat.zero_le k.length)) h.s
theorem OkSy.bd{k:Ke}{l a b:Rat}{s:Nat}(h:OkSy k l a b s){r:List Rat}(hr:∀i,i< k.length→qs (coP r i)≤s):bdM (svM (maK k a b) l (fun t=>coP r t) k.length) k.length s:=fun i j hi hj=>by
 unfold svM;by_cases e1:j=k.length;rw[if_pos e1];exact hr i hi;rw[if_neg e1];have h1:=h.q i j hi (by omega);have h2:=cE_ (maK k a b i j) l;split;have h3:=fN_ (-(maK k a b i j* l)) 1;rw[eQ_] at h3;have h4:qs 1≤1:=by decide
 omega;rw[eQ_];omega
theorem jy_(k:Ke)(l a b:Rat)(s:Nat)(r:List Rat)(h:OkSy k l a b s)(hrl:r.length=k.length)(hr:∀i,i< k.length→qs (coP r i)≤s):
    XSpec Tryz.prog 57 [.lsl 1 0 k.length (some k.length) 1,.agg (qC l),.arr (pE r)] (mzH 3 32 46 (mzO 3 (fun _=>k.length) (fun x=>x) k.length) (fiL (maK k a b) k.length k.length)) 40 (syV k.length (syM k l r a b)) [] 1:=by
 have hl8:=h.m.l;have hle:=h.le;have hbd:=h.bd hr;refine ql_ (maK k a b) l r k.length (slB s k.length) (by omega) hrl h.s (fun i j hi hj=>by have:=h.q i j hi hj;omega) (fun i hi=>?_) fun c hc i j hi hj=>Nat.le_trans (bd_slM hbd c hc i j hi hj) (nX_ hc);have h1:=h.q i i hi hi;have h2:=cE_ (maK k a b i i) l;rw[eQ_];omega
theorem iV_(k:Ke)(l:Rat)(g:List Rat)(a b:Rat)(s:Nat)(h:OkSy k l a b s)(hr:∀p∈k,okMul p.2 g∧OkIn (mulP p.2 g) a b∧qs (inQ (mulP p.2 g) a b)≤s):
    FS 68 [.agg (tkC k l g a b)] (syV k.length (syM k l (rhK k g a b) a b)):=by
 have hl8:=h.m.l
 have hX:=jy_ k l a b s (rhK k g a b) h (by simp) fun i hi=>by
  have e:coP (rhK k g a b) i=inQ (mulP k[i].2 g) a b:=by
   unfold coP rhK;rw[List.getD_eq_getElem?_getD];simp[hi]
  rw[e];exact(hr _ (List.getElem_mem hi)).2.2
 have hE:=kL_ k 136 [bTk k l g a b] (fun p=>inQ (mulP p.2 g) a b) (aa_ (bn_ k l g a b) ac_) (by omega) fun p hp=>fs_sys1 k l g a b p (hr p hp).1 (hr p hp).2.1;have hcl:Closed (syV k.length (syM k l (rhK k g a b) a b)):=dT_ _ _ _;refine f_n Tryz.func68 ?_ ?_;exact aa_ (ay_ (cr_ k l g a b)) ac_;refine r_z 2 ?_;refine AWp.ent (st':=⟨[(1,bTk k l g a b),(2,.lptr 1 0 0)],[(1,some ⟨131,3,[[.emp,.emp,i64 0]]⟩)],2,18⟩) ?_ ?_;have:=cr_ k l g a b;exact s_f [(1,2)];refine ab_ (AWp.regAB 5 14 8 hmix (ik_ k a b h.m) (hX) (hcl) rfl rfl rfl rfl rfl rfl rfl rfl rfl rfl (by kernel_rfl) rfl rfl rfl ?_)
 first|refine AY.op0 (.fieldAddr_l rfl TF.h (by decide)) rfl rfl ?_|refine AY.op0 (.fieldAddr_a rfl TF.h (by decide)) rfl rfl ?_
 first|refine AY.op0 (.fieldAddr_l rfl TF.h (by decide)) rfl rfl ?_|refine AY.op0 (.fieldAddr_a rfl TF.h (by decide)) rfl rfl ?_
 first|refine AY.op0 (.load_l1 rfl rfl rfl TG.h rfl) rfl rfl ?_|refine AY.op0 (.load_a1 rfl rfl TG.h rfl) rfl rfl ?_
 first|refine AY.op0 (.fieldAddr_l rfl TF.h (by decide)) rfl rfl ?_|refine AY.op0 (.fieldAddr_a rfl TF.h (by decide)) rfl rfl ?_
 first|refine AY.op0 (.load_l rfl rfl rfl TG.h TS.h (nle rfl)) rfl rfl ?_|refine AY.op0 (.load_a rfl rfl TG.h TS.h (nle rfl)) rfl rfl ?_
 refine AY.sp rfl rfl (kAB.a rfl rfl rfl (aa_ (aE_ k) (aa_ (ay_ (a0_ a b)) ac_)) rfl) ?_
 first|refine AY.op0 (.fieldAddr_l rfl TF.h (by decide)) rfl rfl ?_|refine AY.op0 (.fieldAddr_a rfl TF.h (by decide)) rfl rfl ?_
 first|refine AY.op0 (.fieldAddr_l rfl TF.h (by decide)) rfl rfl ?_|refine AY.op0 (.fieldAddr_a rfl TF.h (by decide)) rfl rfl ?_
 first|refine AY.op0 (.load_l rfl rfl rfl TG.h TS.h (nle rfl)) rfl rfl ?_|refine AY.op0 (.load_a rfl rfl TG.h TS.h (nle rfl)) rfl rfl ?_
 first|refine AY.op0 (.fieldAddr_l rfl TF.h (by decide)) rfl rfl ?_|refine AY.op0 (.fieldAddr_a rfl TF.h (by decide)) rfl rfl ?_
 first|refine AY.op0 (.fieldAddr_l rfl TF.h (by decide)) rfl rfl ?_|refine AY.op0 (.fieldAddr_a rfl TF.h (by decide)) rfl rfl ?_
 first|refine AY.op0 (.load_l1 rfl rfl rfl TG.h rfl) rfl rfl ?_|refine AY.op0 (.load_a1 rfl rfl TG.h rfl) rfl rfl ?_
 refine AY.op0 (.makeFunc rfl rfl) rfl rfl ?_;refine AY.op0 (.call rfl rfl rfl (hE)) rfl rfl ?_;refine AY.sp rfl rfl (kAB.b rfl rfl (ArgsB.own (ArgsB.clo rfl (ay_ (aR_ l)) (ArgsB.clo rfl (ar_ _) ArgsB.nil))) rfl) ?_;refine AY.on1 (.store rfl rfl rfl rfl rfl rfl TS.h (nle rfl)) rfl ?_;refine AY.nil ⟨by kernel_rfl,?_⟩;exact af_ (c_e (hcl))
def backM(l:List (List Rat))(k:Nat):Option (List AV):=if k< l.length then some [i64 ((l.length- 1- k:Nat):Int),.arr (pE (l.getD (l.length- 1- k) []))] else none
def bM(l:List (List Rat)):AV:= .aptr [[.arr (mE l)]] 0 0
theorem bX_(l:List (List Rat)):Closed (bM l):=aL_ (aa_ (closed_mA l) ac_)
theorem mE_getD{l:List (List Rat)}{i:Nat}(h:i< l.length):(mE l)[i]?=some [.arr (pE (l.getD i []))]:=by
 refine or_ ?_ i rfl;rw[List.getD_eq_getElem?_getD,List.getElem?_eq_getElem h];rfl
theorem gs_BackM(l:List (List Rat))(hl:l.length≤281474976710656):GSpec Tryz.prog 182 [bM l] (backM l):=by
 refine GSpec.enter Tryz.func182 rfl (by kernel_rfl) rfl rfl rfl ?_ ?_ rfl ?_;exact aa_ (bX_ l) ac_;intro k xs h;unfold backM at h;split at h;cases h;exact aa_ (ad_ _) (aa_ (ar_ _) ac_);cases h;intro ll N E;refine GWp.seq ?_;refine GWp.lift ?_;refine r_m 4 ?_;refine a_z ?_;refine GWp.block ?_;refine GWp.loopS (fun m:Nat=>⟨[(0,.v (.func (.yield ll) #[] #[])),(1,bM l),(3,i64 ((m:Int)- 1))],[],1,19⟩) (fun m=>l.length- m) (fun m=>m) (fun m=>m≤l.length) l.length (Nat.le_refl _) (by simp) ?_ ?_;have:=bX_ l;exact s_f [];intro m hm;refine GWp.seq ?_;refine GWp.seq ?_;refine GWp.lift ?_;refine r_m 2 ?_;refine a_z ?_;refine GWp.cond rfl (fun h=>?_) (fun h=>?_)
 ·refine GWp.skip ?_
  have hm1:1≤m:=by have:=of_decide_eq_true h;omega
  have hx':(mE l)[((m:Int)- 1).toNat]?=some [.arr (pE (l.getD (m- 1) []))]:=by rw[show((m:Int)- 1).toNat=m- 1 by omega];exact mE_getD (by omega)
  refine GWp.seq ?_;refine GWp.block ?_;refine GWp.seq ?_;refine GWp.regY (fr2:=[(0,.v (.func (.yield ll) #[] #[])),(1,bM l),(3,i64 ((m:Int)- 1)),(11,.v (.func (.yield ll) #[] #[])),(12,i64 ((m:Int)- 1)),(16,.arr (pE (l.getD (m- 1) [])))]) (hp2:=[]) (nx2:=1) 6 rfl rfl rfl rfl rfl rfl ?_ rfl rfl rfl ?_ ?_ ?_;refine o_0 (.move rfl) ?_;refine o_0 (.move rfl) ?_
  first|refine aA_ (.load_l1 rfl rfl rfl TG.h rfl) rfl rfl ?_|refine aA_ (.load_a1 rfl rfl TG.h rfl) rfl rfl ?_
  refine o_0 (.move rfl) ?_;refine i_x hx' ?_;refine l_1 hx' ?_;refine al_ ?_;have:=bX_ l;exact s_t [];rotate_left 2;intro go;refine o_0 (.un rfl cR_) ?_;refine al_ ?_;rotate_left;unfold backM;rw[if_pos (by omega)];have e1:((l.length- 1- (l.length- m):Nat):Int)=(m:Int)- 1:=by omega
  have e2:l.length- 1- (l.length- m)=m- 1:=by omega
  rw[e1,e2];rfl;exact aa_ (ad_ _) (aa_ (ar_ _) ac_);cases go with
  |false=>
   refine GWp.cond rfl (fun h=>?_) (fun h=>?_);exact GWp.ret ⟨.inr rfl,fun h=>by cases h⟩;cases h
  |true=>
   refine GWp.cond rfl (fun h=>?_) (fun h=>?_);cases h;refine GWp.skip ?_;refine GWp.lift ?_;refine r_m 3 ?_;refine a_z ?_;refine⟨rfl,m- 1,by omega,by omega,by omega,?_⟩;have:=bX_ l;exact s_f []
 refine GWp.exit ⟨.inl rfl,fun _=>?_⟩;have:m=0:=by have:=of_decide_eq_false h;omega
 subst this;unfold backM;rw[if_neg (by omega)]
theorem fs_BackM(l:List (List Rat)):FS 142 [.arr (mE l)] (.clos 182 [] [bM l]):=by
 refine f_c Tryz.func142 ?_;refine r_z 2 ?_;refine r_z 2 ?_;refine af_ (⟨.inr rfl,[_],⟨_,[],rfl,rfl,rfl⟩,?_⟩);exact Cv.clos an_ (ai_ (Cv.boxp ax_ rfl (fun _ _ h=>by cases h) rfl (aa_ (closed_mA l) ac_)) an_)
theorem pG_(p:List Rat)(hp:p.length≤1099511627776):FS 71 [.arr (pE p),.arr (mE [])] (.arr (pE (trimQ p))):=by
 have hb:=fs_BackM [];have hgs:=gs_BackM [] (by simp);have ht:=ce_ p hp;refine f_c Tryz.func71 ?_;refine r_z 2 ?_;refine ab_ (r_c 2 (hb) ?_);refine al_ ?_;refine aw_ (fun _:Unit=>⟨[(2,.lptr 1 0 0)],[(1,some ⟨33,1,[[.arr (pE p)]]⟩)],2,28⟩) (fun _=>True) ?_ ?_;refine ae_ (AWp.rangeFunc (α:=Unit) (γ:=Empty) 0 (fun _=>⟨[(2,.lptr 1 0 0),(9,.clos 182 [] [bM []])],[(1,some ⟨33,1,[[.arr (pE p)]]⟩)],2,28⟩) (fun _=>0) (fun _=>True) (fun e=>nomatch e) (fun _ e=>nomatch e) () rfl hgs rfl rfl ?_ (fun _=>⟨rfl,rfl⟩) (fun e=>nomatch e) trivial rfl (fun _ _=>Nat.le_refl _) ?_ ?_ ?_ ?_ (fun _ e=>nomatch e));intro k xs hT;exact absurd hT (by unfold backM;simp);refine s_y [(1,2)] (fun hs=>?_) (fun hs=>?_)
 ·repeat' (first|exact aH_|refine ap_ rfl ?_ ?_|exact ak_ hs (aG_ ac_ (aa_ (bX_ []) ac_))|exact au_c)
 ·repeat' (first|exact az_|refine h_c ?_ ?_|exact au_e|refine av_ ?_|exact an_|refine ai_ ?_ ?_|exact ak_ hs (aG_ ac_ (aa_ (bX_ []) ac_))|exact au_c)
 exact aa_ (bX_ []) ac_;intro l k xs hk hT;exact absurd hT (by unfold backM;simp);intro k hk hT;refine⟨(),trivial,?_⟩;exact s_e [];rintro _ _;refine r_c 3 (ht) ?_;refine a_z ?_;exact af_ (t_e (ar_ _))
def ixS(L:List Nat)(f:Nat):Nat→AState
 |i=>⟨[(0,.arr (lvE L)),(1,i64 f),(7,i64 L.length),(8,i64 i)],[],1,19⟩
theorem se_(L:List Nat)(f:Nat)(hl:L.length≤1099511627776):FS 219 [.arr (lvE L),i64 f] (i64 (idxA (fun c:Nat=>((f:Int)==(c:Int))) L 0)):=by
 have hkl:(lvE L).length=L.length:=fs_ L;refine f_n Tryz.func219 ?_ ?_;exact aa_ (aB_ (cs_ L)) (aa_ (ad_ _) ac_);obtain⟨R,hR⟩:∃R,R=idxA (fun c:Nat=>((f:Int)==(c:Int))) L 0:=⟨_,rfl⟩;rw[←hR];refine r_z 1 ?_;refine ab_ (r_z 3 ?_);refine aw_ (fun _:Unit=>⟨[],[],1,19⟩) (fun _=>R= -1) ?_ ?_;refine ae_ (aq_ (ixS L f) (fun i=>L.length- i) (fun i=>i≤L.length∧idxA (fun c:Nat=>((f:Int)==(c:Int))) (L.drop i) i=R) 0 ⟨Nat.zero_le _,by rw[hR];rfl⟩ ?_ ?_);simp only[ixS.eq_1];have:=(aB_ (cs_ L));exact s_f [];rintro i ⟨hi,hr⟩;rw[ixS.eq_1];by_cases hlt:i< L.length;refine q_z 1 ?_;refine ab_ (cT (ah_ ?_));obtain⟨c,hc⟩:∃c,L[i]?=some c:=⟨_,List.getElem?_eq_getElem hlt⟩;have hgt:(lvE L)[((i:Nat):Int).toNat]?=some [i64 c]:=rx_ hc _ (by simp);rw[np_ hc,idxA] at hr;refine ab_ (ae_ (r_z 2 ?_));refine s_r 6 ?_;refine a_3 ?_;refine i_x hgt ?_;refine l_1 hgt ?_;refine a_z ?_;refine aj_ rfl (fun h1=>?_) (fun h1=>?_);rw[if_pos h1] at hr;refine r_z 2 ?_;refine af_ (aD_ rfl ?_ ?_);rw[←hr];exact ad_ _;rw[if_neg (by rw[h1];decide)] at hr;refine ah_ (r_m 2 ?_);refine a_z ?_;refine⟨i+1,by omega,⟨hlt,hr⟩,?_⟩;simp only[ixS.eq_1];have:=(aB_ (cs_ L));exact s_f [];have hge:i=L.length:=by omega
 subst hge;refine q_z 1 ?_;refine ab_ (cF ?_);rw[List.drop_length] at hr;refine ao_ ⟨(),hr.symm,?_⟩;exact s_e [];rintro _ hr;refine r_z 1 ?_;refine af_ (aD_ rfl ?_ ?_);rw[hr];rfl;exact ad_ _
theorem hN_(f:Nat):∀L:List Nat,L.any (fun c:Nat=>((f:Int)==(c:Int)))=L.contains f
 |[]=>rfl
 |a::L=>by
  rw[List.any_cons,hN_ f L,List.contains_cons];refine congrArg (· ||L.contains f) ?_;cases hb:(f==a) with
  |true=>rw[eq_of_beq hb];exact beq_self_eq_true _
  |false=>
   have h1:¬f=a:=fun e=>by rw[e] at hb;simp at hb
   exact beq_eq_false_iff_ne.2 (by omega)
theorem mc_(L:List Nat)(f:Nat)(hl:L.length≤1099511627776):FS 181 [.arr (lvE L),i64 f] (bln (L.contains f)):=by
 have e:=h4_ (fun c:Nat=>((f:Int)==(c:Int))) L 0 (Int.le_refl 0);rw[hN_] at e;have hi:=se_ L f hl;refine f_n Tryz.func181 ?_ ?_;exact aa_ (aB_ (cs_ L)) (aa_ (ad_ _) ac_);refine r_z 1 ?_;refine r_c 5 (hi) ?_;refine a_z ?_;refine af_ (aD_ rfl ?_ ?_);rw[←e];rfl;exact ad_ _
def z0S(A:Mx)(n:Nat)(L:List Nat):Nat→AState
 |f=>⟨[(1,bSy n A L),(3,.emp),(9,i64 n),(10,i64 f)],[],1,51⟩
theorem rP_(A:Mx)(n:Nat)(L:List Nat)(hn:n≤25)(hLn:L.length≤n)(hL:∀f,f< n→L.contains f=true):FS 141 [syV n (A,L)] (.arr (mE [])):=by
 refine f_n Tryz.func141 ?_ ?_;exact aa_ (dT_ n A L) ac_;refine r_z 2 ?_;refine AWp.ent (st':=⟨[(1,bSy n A L)],[],1,51⟩) ?_ ?_;have:=b7_ n A L;exact s_f [];refine r_z 1 ?_;refine ab_ (r_z 3 ?_);refine aw_ (fun _:Unit=>⟨[(3,.emp)],[],1,51⟩) (fun _=>True) ?_ ?_;refine ae_ (aq_ (z0S A n L) (fun f=>n- f) (fun f=>f≤n) 0 (Nat.zero_le _) ?_ ?_);rw[z0S.eq_1];have:=bg_ n A L;exact s_f [];intro f hf;rw[z0S.eq_1];by_cases hlt:f< n;have hc:=mc_ L f (by omega);rw[hL f hlt] at hc;refine q_z 1 ?_;refine ab_ (cT (ah_ (ab_ (ae_ (r_z 2 ?_)))));refine ab_ (r_c 4 (hc) ?_);refine al_ ?_;refine cT (ao_ (r_m 2 ?_));refine a_z ?_;refine⟨f+1,by omega,by omega,?_⟩;rw[z0S.eq_1];have:=bg_ n A L;exact s_f [];refine q_z 1 ?_;refine ab_ (cF (ao_ ⟨(),trivial,?_⟩));exact s_e [];rintro _ _;refine r_z 2 ?_;exact af_ (Fin.tmpN rfl)
theorem r2_(g:Nat)(bn:List AV)(hb:∀c∈bn,Closed c):FS 140 [.arr (mE []),.clos g bn []] (.arr (mE [])):=by
 have hcc:Closed (.clos g bn []):=aG_ hb ac_;refine f_c Tryz.func140 ?_;refine r_z 1 ?_;refine r_z 1 ?_;refine ab_ (r_z 3 ?_);refine aw_ (fun _:Unit=>⟨[(5,.emp)],[],1,22⟩) (fun _=>True) ?_ ?_;refine ae_ (aq_ (fun _:Unit=>⟨[(5,.emp),(9,i64 0),(10,i64 0)],[],1,22⟩) (fun _=>0) (fun _=>True) () trivial ?_ ?_);exact s_e [];rintro _ _;refine q_z 1 ?_;refine ab_ (cF (ao_ ⟨(),trivial,?_⟩));exact s_e [];rintro _ _;refine r_z 2 ?_;exact af_ (Fin.tmpN rfl)
theorem nf_:FS 139 [.arr (mE [])] (.arr (mE [])):=by
 refine f_c Tryz.func139 ?_;refine r_z 1 ?_;refine r_z 1 ?_;refine ab_ (r_z 3 ?_);refine aw_ (fun _:Unit=>⟨[(3,.emp)],[],1,49⟩) (fun _=>True) ?_ ?_;refine ae_ (aq_ (fun _:Unit=>⟨[(3,.emp),(8,i64 0),(9,i64 0)],[],1,49⟩) (fun _=>0) (fun _=>True) () trivial ?_ ?_);exact s_e [];rintro _ _;refine q_z 1 ?_;refine ab_ (cF (ao_ ⟨(),trivial,?_⟩));exact s_e [];rintro _ _;refine r_z 2 ?_;exact af_ (Fin.tmpN rfl)
theorem fs_free0(k:Ke)(l:Rat)(g:List Rat)(a b:Rat)(A:Mx)(n:Nat)(L:List Nat)(hz:FS 141 [syV n (A,L)] (.arr (mE []))):FS 70 [.agg (tkC k l g a b),syV n (A,L)] (.arr (mE [])):=by
 have h1:=r2_ 72 [.arr (kE k)] (aa_ (aE_ k) ac_);have h2:=nf_;refine f_n Tryz.func70 ?_ ?_;exact aa_ (ay_ (cr_ k l g a b)) (aa_ (dT_ n A L) ac_);refine r_z 3 ?_;refine AWp.ent (st':=⟨[(2,bTk k l g a b),(3,bSy n A L)],[],1,13⟩) ?_ ?_;refine s_x [] (fun hs=>?_) (fun hs=>?_)
 ·repeat' (first|exact aH_|refine ap_ rfl ?_ ?_|exact Cv.boxp hs rfl (aK_ rfl) rfl (cr_ k l g a b)|exact Cv.boxp hs rfl (aK_ rfl) rfl (b7_ n A L)|exact au_c)
 ·repeat' (first|exact az_|refine h_c ?_ ?_|exact au_e|refine av_ ?_|exact an_|refine ai_ ?_ ?_|exact Cv.boxp hs rfl (aK_ rfl) rfl (cr_ k l g a b)|exact Cv.boxp hs rfl (aK_ rfl) rfl (b7_ n A L)|exact au_c)
 refine ab_ (r_d hmix 9 ?_);refine c_s (hz) ?_;refine c_s (h1) ?_;refine c_s (h2) ?_;refine a_1 ?_;refine al_ (n_k ?_);exact af_ (t_e (closed_mA _))
def syC1(k:Ke)(l:Rat)(g:List Rat)(a b:Rat):List Rat:=oneL (syM k l (rhK k g a b) a b).1 k.length (syM k l (rhK k g a b) a b).2
def syU(k:Ke)(l:Rat)(g:List Rat)(a b:Rat):List Rat:=addP g (aN_ (smK k (syC1 k l g a b) k.length) l)
structure OkTa (k:Ke)(l:Rat)(g:List Rat)(a b:Rat)(s:Nat):Prop where
 ke:okKe k
 ha:sm a
 hb:sm b
 ab:a≤b
 dg:degP g≤20
 gl:g.length≤1099511627776
 sy:OkSy k l a b s
 rh:∀p∈k,okMul p.2 g∧OkIn (mulP p.2 g) a b∧qs (inQ (mulP p.2 g) a b)≤s
structure OkSu (k:Ke)(l:Rat)(g:List Rat)(a b:Rat):Prop where
 ms:∀i p,k[i]?=some p→OkSm k (syC1 k l g a b) i p
 u1:smL (smK k (syC1 k l g a b) k.length)
 u2:(smK k (syC1 k l g a b) k.length).length≤1099511627776
 sl:sm l
 sg:smL g
 v1:smL (aN_ (smK k (syC1 k l g a b) k.length) l)
 v2:(aN_ (smK k (syC1 k l g a b) k.length) l).length≤1099511627776
theorem OkTa.none{k:Ke}{l:Rat}{g:List Rat}{a b:Rat}{s:Nat}(h:OkTa k l g a b s):FS 69 [syV k.length (syM k l (rhK k g a b) a b)] (bln (noneB k.length (syM k l (rhK k g a b) a b).1 (syM k l (rhK k g a b) a b).2)):=
 fs_noneS (syM k l (rhK k g a b) a b).1 k.length (syM k l (rhK k g a b) a b).2 (eW_ _ _ _).len (by have:=h.ke.1;omega)
theorem r8_(k:Ke)(l:Rat)(g:List Rat)(a b:Rat)(s:Nat)(h:OkTa k l g a b s)(h2:OkSu k l g a b)(hL:∀f,f< k.length→(syM k l (rhK k g a b) a b).2.contains f=true)(hN:noneB k.length (syM k l (rhK k g a b) a b).1 (syM k l (rhK k g a b) a b).2=false)(hu:(syU k l g a b).length≤1099511627776):
    FS 20 [.agg (eqC k l g),.agg (spC a b)] (.tup [.arr (pE (trimQ (syU k l g a b))),.arr (mE []),i64 0]):=by
 have hl8:=h.ke.1;have hw:=ec_ k l g a b h.ke h.ha h.hb h.ab h.dg h.gl;have hs:=iV_ k l g a b s h.sy h.rh;have hn:=h.none;rw[hN] at hn;have hz:=rP_ (syM k l (rhK k g a b) a b).1 k.length (syM k l (rhK k g a b) a b).2 (by omega) (eW_ _ _ _).len hL;have hf:=fs_free0 k l g a b _ _ _ hz;have ho:=nc_ (syM k l (rhK k g a b) a b).1 k.length (syM k l (rhK k g a b) a b).2 (eW_ _ _ _) (by omega);have hsu:=r0_ k (syC1 k l g a b) (by unfold syC1;simp) (by omega) h2.ms;have hsc:=ee_ _ l h2.u1 h2.sl h2.u2;have had:=i6_ g _ h2.sg h2.v1 h.gl h2.v2;have hre:=pG_ (syU k l g a b) hu;refine f_n Tryz.func20 ?_ ?_;exact aa_ (ay_ (bB_ k l g)) (aa_ (ay_ (a0_ a b)) ac_);refine r_z 5 ?_;refine r_z 5 ?_;refine AWp.ent (st':=⟨[(7,bTk k l g a b)],[],1,38⟩) ?_ ?_;have:=cr_ k l g a b;exact s_f [];refine ab_ (r_c 2 (hw) ?_);refine al_ ?_;refine cF (ah_ (r_c 4 (hs) ?_));refine a_z ?_;refine AWp.ent (st':=⟨[(7,bTk k l g a b),(8,bSy k.length (syM k l (rhK k g a b) a b).1 (syM k l (rhK k g a b) a b).2)],[],1,38⟩) ?_ ?_;exact s_x [] (fun hs=>e_48) (fun hs=>e_49);refine ab_ (r_c 2 (hn) ?_);refine al_ ?_;refine cF (ah_ (r_c 4 (hf) ?_));refine a_z ?_;refine ab_ (r_d hmix 20 ?_);refine c_s (ho) ?_;refine c_s (hsu) ?_;refine c_s (hsc) ?_;refine c_s (had) ?_;refine c_s (hre) ?_;refine a_4 ?_;refine al_ (n_k ?_);refine af_ (Fin.many ⟨_,_,rfl,rfl,⟨_,_,rfl,rfl,⟨_,_,rfl,rfl,rfl⟩⟩⟩ (nle rfl) ?_);exact ai_ (ak_ ax_ (ar_ _)) (ai_ (ak_ ax_ (closed_mA _)) (ai_ (ak_ ax_ (ad_ _)) an_))
theorem r7_(k:Ke)(l:Rat)(g:List Rat)(a b:Rat)(s:Nat)(h:OkTa k l g a b s)(hN:noneB k.length (syM k l (rhK k g a b) a b).1 (syM k l (rhK k g a b) a b).2=true):
    FS 20 [.agg (eqC k l g),.agg (spC a b)] (.tup [.arr (pE []),.arr (mE []),i64 12]):=by
 have hl8:=h.ke.1;have hw:=ec_ k l g a b h.ke h.ha h.hb h.ab h.dg h.gl;have hs:=iV_ k l g a b s h.sy h.rh;have hn:=h.none;rw[hN] at hn;refine f_n Tryz.func20 ?_ ?_;exact aa_ (ay_ (bB_ k l g)) (aa_ (ay_ (a0_ a b)) ac_);refine r_z 5 ?_;refine r_z 5 ?_;refine AWp.ent (st':=⟨[(7,bTk k l g a b)],[],1,38⟩) ?_ ?_;have:=cr_ k l g a b;exact s_f [];refine ab_ (r_c 2 (hw) ?_);refine al_ ?_;refine cF (ah_ (r_c 4 (hs) ?_));refine a_z ?_;refine AWp.ent (st':=⟨[(7,bTk k l g a b),(8,bSy k.length (syM k l (rhK k g a b) a b).1 (syM k l (rhK k g a b) a b).2)],[],1,38⟩) ?_ ?_;exact s_x [] (fun hs=>e_48) (fun hs=>e_49);refine ab_ (r_c 2 (hn) ?_);refine al_ ?_;refine cT (r_z 3 ?_);refine af_ (Fin.many ⟨_,_,rfl,rfl,⟨_,_,rfl,rfl,⟨_,_,rfl,rfl,rfl⟩⟩⟩ (nle rfl) ?_);exact ai_ (Cv.emp _) (ai_ (Cv.emp _) (ai_ (ak_ ax_ (ad_ _)) an_))
def sqR(n:Nat)(A:Mx):List (List Rat):=(List.range n).map fun k=>tabP n (A k)
@[simp] theorem sqR_length (n:Nat)(A:Mx):(sqR n A).length=n:=by simp[sqR]
theorem sqR_get{n i:Nat}{A:Mx}(h:i< n):(sqR n A)[i]?=some (tabP n (A i)):=by simp[sqR,h]
theorem sr_(n:Nat)(A:Mx):(fiL A n n).map (fun e=>([.arr e]:List AV))=mE (sqR n A):=by
 rw[fiL_rwL,rwL_mE];rfl
theorem pK_(k:Ke)(a b:Rat)(h:OkMa k a b):FS 97 [.arr (kE k),.agg (spC a b)] (.arr (mE (sqR k.length (maK k a b)))):=by
 have:=(ik_ k a b h).shut rfl (aa_ (aE_ k) (aa_ (ay_ (a0_ a b)) ac_))
  (Cv.mzShut (r:=⟨0,fun i=>i⟩) (show(3:Nat)≠0 by decide) ax_ (fun _=>rfl) (fy_ _ _ _).symm (fun i e h=>by have:=(ja_ h).2;subst this;simp[pE]) fun e he x hx c hc=>by
   obtain⟨k,_,rfl⟩:=List.mem_map.1 he;exact aI_ _ x hx c hc) (by rw[sr_];exact closed_mA _)
 rw[sr_] at this;exact this
def trQ(A:Mx)(i:Nat):Rat:=sQ (fun t=>A t t) i
def tcS(pM:Nat→Mx)(n ll j:Nat):Nat→AState
 |i=>⟨[(0,.v (.func (.yield ll) #[] #[])),(1,bM (sqR n (pM 0))),(3,.arr (mE (sqR n (pM j)))),(4,.lptr 1 0 0),(11,i64 n),(12,i64 i)],[(1,some ⟨46,3,[qC (trQ (pM j) i)]⟩)],2,29⟩
theorem rN_(pM:Nat→Mx)(n K:Nat)(hn:n≤25)(hs:∀j,j≤K→∀i,i< n→qs (trQ (pM j) i)+qs (pM j i i)≤549755813888)(hmul:∀j,j< K→FS 186 [.arr (mE (sqR n (pM j))),.arr (mE (sqR n (pM 0)))] (.arr (mE (sqR n (pM (j+1)))))):
    GSpecB Tryz.prog 185 [bM (sqR n (pM 0))] (fun j=>some [.agg (qC (trQ (pM j) n))]) K:=by
 refine GSpecB.enter Tryz.func185 rfl (by kernel_rfl) rfl rfl rfl ?_ ?_ rfl ?_;exact aa_ (bX_ _) ac_;intro j xs h;cases h;exact aa_ (aC_ _) ac_;intro ll N hN E;refine GWp.seq ?_;refine GWp.lift ?_;refine r_m 2 ?_;refine a_z ?_;refine GWp.block ?_;refine GWp.loopS (fun j:Nat=>⟨[(0,.v (.func (.yield ll) #[] #[])),(1,bM (sqR n (pM 0))),(3,.arr (mE (sqR n (pM j))))],[],1,29⟩) (fun j=>j) (fun j=>N+1- j) (fun j=>j≤N) 0 (Nat.zero_le _) rfl ?_ ?_;exact s_x [] (fun hs=>e_6) (fun hs=>e_10);intro j hj;have hml:(mE (sqR n (pM j))).length=n:=by simp
 refine GWp.seq ?_;refine GWp.block ?_;refine GWp.seq ?_;refine GWp.lift ?_;refine r_m 1 ?_;refine a_z ?_;refine GWp.seq ?_;refine GWp.seq ?_;refine GWp.lift ?_;refine r_m 3 ?_;refine a_z ?_;refine GWp.cutT (fun _:Unit=>tcS pM n ll j n) (fun _=>True) ?_ ?_;refine ae_ (aq_ (tcS pM n ll j) (fun i=>n- i) (fun i=>i≤n) 0 (Nat.zero_le _) ?_ ?_);rw[tcS.eq_1];refine s_x [(1,4)] (fun hs=>e_6) (fun hs=>?_)
 ·repeat' (first|exact az_|refine h_c ?_ ?_|exact CvLL.zeros hs 1|exact au_e|refine av_ ?_|exact an_|refine ai_ ?_ ?_|exact ak_ hs (bX_ _)|exact ak_ hs (closed_mA _)|exact au_c)
 intro i hi;rw[tcS.eq_1];by_cases hlt:i< n;have hrow:(mE (sqR n (pM j)))[((i:Nat):Int).toNat]?=some [.arr (pE (tabP n (pM j i)))]:=or_ (sqR_get hlt) _ (by simp);have hval:(pE (tabP n (pM j i)))[((i:Nat):Int).toNat]?=some (qC (pM j i i)):=df_ hlt _ (by simp);have hpl:(pE (tabP n (pM j i))).length=n:=by simp[pE]
 have had:=dy_ (trQ (pM j) i) (pM j i i) (hs j (by omega) i hlt);refine q_z 1 ?_;refine ab_ (cT (ah_ (ab_ (ae_ (r_z 2 ?_)))));refine r_d hmix 10 ?_;refine a_3 ?_;refine i_x hrow ?_;refine l_1 hrow ?_;refine a_1 ?_;refine i_x hval ?_;refine l_x hval ?_;refine c_s (had) ?_;refine a_1 ?_;refine al_ (n_k ?_);refine r_m 2 ?_;refine a_z ?_;refine⟨i+1,by omega,by omega,?_⟩;rw[tcS.eq_1];exact s_x [] (fun hs=>e_6) (fun hs=>e_10);have hge:i=n:=by omega
 subst hge;refine q_z 1 ?_;refine ab_ (cF (ao_ ⟨(),trivial,?_⟩));exact s_x [] (fun hs=>e_6) (fun hs=>e_10);rintro _ _;rw[tcS.eq_1];refine GWp.seq ?_;refine GWp.regY (fr2:=[(0,.v (.func (.yield ll) #[] #[])),(1,bM (sqR n (pM 0))),(3,.arr (mE (sqR n (pM j)))),(25,.v (.func (.yield ll) #[] #[])),(26,.agg (qC (trQ (pM j) n)))]) (hp2:=[]) (nx2:=1) 2 rfl rfl rfl rfl rfl rfl ?_ rfl rfl rfl ?_ ?_ ?_;refine o_0 (.move rfl) ?_
 first|refine aA_ (.load_l rfl rfl rfl TG.h TS.h (nle rfl)) rfl rfl ?_|refine aA_ (.load_a rfl rfl TG.h TS.h (nle rfl)) rfl rfl ?_
 refine al_ ?_;exact s_y [] (fun hs=>e_6) (fun hs=>e_10);rotate_left 2;intro go;refine o_0 (.un rfl cR_) ?_;refine al_ ?_;rotate_left;rfl;exact aa_ (aC_ _) ac_;cases go with
 |false=>
  refine GWp.cond rfl (fun h=>?_) (fun h=>?_);exact GWp.ret ⟨.inr rfl,fun h=>by cases h⟩;cases h
 |true=>
  refine GWp.bound fun hk1=>?_;refine GWp.cond rfl (fun h=>?_) (fun h=>?_);cases h;refine GWp.skip ?_;refine GWp.lift ?_;refine r_m 4 ?_;refine c_s (hmul j (by omega)) ?_;refine a_z ?_;refine⟨rfl,j+1,by omega,hk1,rfl,?_⟩;exact s_x [] (fun hs=>e_6) (fun hs=>e_10)
theorem rT_(l:List (List Rat)):FS 152 [.arr (mE l)] (.clos 185 [] [bM l]):=by
 refine f_c Tryz.func152 ?_;refine r_z 2 ?_;refine r_z 2 ?_;refine af_ (⟨.inr rfl,[_],⟨_,[],rfl,rfl,rfl⟩,?_⟩);exact Cv.clos an_ (ai_ (Cv.boxp ax_ rfl (fun _ _ h=>by cases h) rfl (aa_ (closed_mA l) ac_)) an_)
def dtS(k:Ke)(M:List (List Rat)):Unit→AState
 |u=>⟨[(2,bKe k),(5,.lptr 1 0 0),(6,.lptr 2 0 0),(20,.clos 185 [] [bM M])],[(1,some ⟨33,1,[[.lsl 3 0 1 none 3]]⟩),(2,some ⟨32,1,[[.emp]]⟩),(3,some ⟨46,3,[qC ((1:Int):Rat)]⟩)],4,60⟩
theorem dtS_mk(k:Ke)(M:List (List Rat))(u:Unit):dtS k M u=⟨[(2,bKe k),(5,.lptr 1 0 0),(6,.lptr 2 0 0),(20,.clos 185 [] [bM M])],[(1,some ⟨33,1,[[.lsl 3 0 1 none 3]]⟩),(2,some ⟨32,1,[[.emp]]⟩),(3,some ⟨46,3,[qC ((1:Int):Rat)]⟩)],4,60⟩:=rfl
def dtX(c:Rat):Unit→AState
 |u=>⟨[(5,.lptr 1 0 0)],[(1,some ⟨33,1,[[.lsl 3 0 2 none 3]]⟩),(3,some ⟨46,3,[qC ((1:Int):Rat),qC c]⟩)],4,60⟩
def dtI(k:Ke)(t:Rat)(w:Nat→Rat)(i:Nat):AState:=⟨[(2,bKe k),(5,.lptr 1 0 0),(6,.lptr 2 0 0),(8,i64 1),(9,.lptr 5 0 0),(28,.lsl 4 0 1 none 3),(29,i64 1),(30,i64 i),(1005,.lptr 1 0 0)],[(1,some ⟨33,1,[[.lsl 3 0 1 none 3]]⟩),(2,some ⟨32,1,[[.lsl 4 0 1 none 3]]⟩),(3,some ⟨46,3,[qC ((1:Int):Rat)]⟩),(4,some ⟨46,3,[qC t]⟩),(5,some ⟨46,3,[qC (w i)]⟩)],6,60⟩
def dtC(t:Rat):Nat→Rat
 |0=>0
 |_+1=>0- t* ((1:Int):Rat)
def deV(t:Rat):List Rat:=[((1:Int):Rat),dtC t 1/ ((1:Int):Rat)]
theorem fs_det1(p:List Rat×List Rat)(a b:Rat)(h:OkMa [p] a b)(hs:qs (maK [p] a b 0 0)≤100000000000):
    FS 92 [.arr (kE [p]),.agg (spC a b)] (.arr (pE (trimQ (deV (trQ (maK [p] a b) 1))))):=by
 have i1:=c2_ 1 (by decide);have hm:=pK_ [p] a b h;obtain⟨A,hA⟩:∃A,A=maK [p] a b:=⟨_,rfl⟩;rw[←hA] at hm hs⊢;have hq1:qs ((1:Int):Rat)≤1:=by decide
 have hgs:=rN_ (fun _=>A) 1 0 (by omega) (fun j hj i hi=>by
  obtain rfl:i=0:=by omega
  show qs (0:Rat)+qs (A 0 0)≤_;have:qs (0:Rat)≤1:=by decide
  omega) (fun j hj=>by omega)
 have htr:=rT_ (sqR 1 A);obtain⟨t,ht⟩:∃t,t=trQ A 1:=⟨_,rfl⟩
 have hqt:qs t≤100000000002:=by
  rw[ht];show qs (0+A 0 0)≤_;have:=fN_ 0 (A 0 0);have:qs (0:Rat)≤1:=by decide
  omega
 simp only[←ht] at hgs⊢;have hmu:=bK_ t ((1:Int):Rat) (by omega)
 have hsu:=gz_ 0 (t* ((1:Int):Rat)) (by have:=cE_ t ((1:Int):Rat);have:qs (0:Rat)≤1:=by decide
                                        omega)
 have hov:=kK_ (dtC t 1) ((1:Int):Rat) (by decide) (by
  have h1:=q4_ 0 (t* ((1:Int):Rat));have h2:=cE_ t ((1:Int):Rat);have h3:qs (0:Rat)≤1:=by decide
  show qs (0- t* ((1:Int):Rat))+_≤_;omega)
 have hti:=ce_ (deV t) (by simp[deV]);refine f_n Tryz.func92 ?_ ?_;exact aa_ (aE_ [p]) (aa_ (ay_ (a0_ a b)) ac_);refine r_z 3 ?_;refine AWp.ent (st':=⟨[(2,bKe [p]),(3,bSp a b)],[],1,60⟩) ?_ ?_;refine s_x [] (fun hs=>?_) (fun hs=>?_)
 ·repeat' (first|exact aH_|refine ap_ rfl ?_ ?_|exact Cv.boxp hs rfl (aK_ rfl) rfl (aa_ (aE_ [p]) ac_)|exact Cv.boxp hs rfl (aK_ rfl) rfl (a0_ a b)|exact au_c)
 ·repeat' (first|exact az_|refine h_c ?_ ?_|exact au_e|refine av_ ?_|exact an_|refine ai_ ?_ ?_|exact Cv.boxp hs rfl (aK_ rfl) rfl (aa_ (aE_ [p]) ac_)|exact Cv.boxp hs rfl (aK_ rfl) rfl (a0_ a b)|exact au_c)
 refine r_c 4 (i1) ?_;refine a_z ?_;refine r_z 1 ?_;refine ab_ (s_r 3 ?_);refine a_2 ?_;refine o_0 (.bin rfl rfl (vT aU_ (rfl))) ?_;refine al_ ?_;refine aw_ (fun _:Unit=>dtX (dtC t 1/ ((1:Int):Rat)) ()) (fun _=>True) ?_ ?_;refine cT (r_c 4 (hm) ?_);refine c_s (htr) ?_;refine al_ ?_;refine ae_ (AWp.rangeFuncB (α:=Unit) (γ:=Unit) 0 (dtS [p] (sqR 1 A)) (fun _=>0) (fun _=>True) (dtX (dtC t 1/ ((1:Int):Rat))) (fun e _=>e= .exit 0) () rfl hgs rfl rfl ?_ (fun _=>⟨rfl,rfl⟩) (fun _=>rfl) trivial rfl (fun _ _=>Nat.le_refl _) ?_ ?_ ?_ ?_ ?_);intro j xs hT;cases hT;rfl;rw[dtS_mk];refine s_y [(1,5),(2,6),(3,13)] (fun hs=>?_) (fun hs=>?_)
 ·repeat' (first|exact aH_|refine ap_ rfl ?_ ?_|exact ak_ hs (cP_ [p])|exact ak_ hs (aG_ ac_ (aa_ (bX_ _) ac_))|exact au_c)
 ·repeat' (first|exact az_|refine h_c ?_ ?_|exact au_e|refine av_ ?_|exact an_|refine ai_ ?_ ?_|exact ak_ hs (cP_ [p])|exact ak_ hs (aG_ ac_ (aa_ (bX_ _) ac_))|exact au_c)
 exact aa_ (bX_ _) ac_
 ·intro ll j xs hj hT
  cases hT;show AWp _ _ _ _ ⟨[(21,.agg (qC t)),(2,bKe [p]),(5,.lptr 1 0 0),(6,.lptr 2 0 0),(20,.clos 185 [] [bM (sqR 1 A)]),(1002,bKe [p]),(1005,.lptr 1 0 0),(1006,.lptr 2 0 0),(1020,.clos 185 [] [bM (sqR 1 A)])],[(1,some ⟨33,1,[[.lsl 3 0 1 none 3]]⟩),(2,some ⟨32,1,[[.emp]]⟩),(3,some ⟨46,3,[qC ((1:Int):Rat)]⟩)],4,60⟩;refine r_m 2 ?_;refine a_z ?_;refine ae_ (s_r 5 ?_);refine a_3 ?_
  first|refine AR.op2 (.append_l rfl rfl rfl te_32.h rfl rfl rfl rfl rfl d_o (by first|exact cU_ _|exact cT_ _|exact ci_ _|exact cV_ _|exact cD_ _|assumption|rfl|simp) (by first|rfl|exact cU_ _|exact cT_ _|exact ci_ _|exact cV_ _|exact cD_ _|simp) rfl (.lsl rfl (nle rfl)) TZ.h rfl TB.h d_o (by first|(simp[maxLen];done)|(simp[maxLen];omega))) rfl rfl ?_|refine AR.op1 (.append_e rfl rfl rfl te_32.h rfl rfl rfl (.lsl rfl (nle rfl)) (by first|assumption|(simp;done)) TZ.h rfl TB.h d_o (by first|(simp[maxLen];done)|(simp[maxLen];omega))) rfl rfl ?_
  refine a_z ?_;refine r_z 3 ?_;refine r_z 1 ?_;refine ab_ (r_z 3 ?_);refine aw_ (fun _:Unit=>dtI [p] t (dtC t) 1) (fun _=>True) ?_ ?_;refine ae_ (aq_ (dtI [p] t (dtC t)) (fun i=>1- i) (fun i=>i≤1) 0 (Nat.zero_le _) ?_ ?_);rw[dtI.eq_1];refine s_z [(1,5),(2,6),(3,100003),(4,28),(5,9)] (fun hs=>e_19) (fun hs=>?_)
  ·repeat' (first|exact az_|refine h_c ?_ ?_|exact CvLL.zeros hs 1|exact au_e|refine av_ ?_|exact an_|refine ai_ ?_ ?_|exact ak_ hs (cP_ [p])|exact au_c)
  intro i hi;by_cases h1:i< 1;obtain rfl:i=0:=by omega
  rw[dtI.eq_1];refine s_r 1 ?_;refine o_0 (.bin rfl rfl (vT a6_ (rfl))) ?_;refine al_ ?_;refine ab_ (cT (ah_ (ab_ (ae_ (r_z 6 ?_)))));refine r_d hmix 12 ?_;refine c_s (hmu) ?_;refine c_s (hsu) ?_;refine a_1 ?_;refine al_ (n_k ?_);refine r_m 2 ?_;refine a_z ?_;refine⟨1,by omega,by omega,?_⟩;rw[dtI.eq_1];exact s_z [(1,5),(2,6),(3,100003),(4,28),(5,9)] (fun hs=>e_19) (fun hs=>e_50);obtain rfl:i=1:=by omega
  rw[dtI.eq_1];refine s_r 1 ?_;refine o_0 (.bin rfl rfl (vF a6_ (rfl))) ?_;refine al_ ?_;refine ab_ (cF (ao_ ⟨(),trivial,?_⟩));exact s_z [(1,5),(2,6),(3,100003),(4,28),(5,9)] (fun hs=>e_19) (fun hs=>e_50);rintro _ _;rw[dtI.eq_1];refine ab_ (r_d hmix 8 ?_);refine c_s (i1) ?_;refine c_s (hov) ?_;refine a_3 ?_;refine al_ (n_k ?_);refine s_r 4 ?_;refine a_3 ?_;refine o_0 (.bin rfl rfl (vT a3_ (rfl))) ?_;refine al_ ?_;refine cT (ao_ (⟨rfl,(),rfl,?_⟩));show SEntT _ ⟨[(1005,.lptr 1 0 0)],[(1,some ⟨33,1,[[.lsl 3 0 2 none 3]]⟩),(3,some ⟨46,3,[qC ((1:Int):Rat),qC (dtC t 1/ ((1:Int):Rat))]⟩)],4,60⟩;have:=(aI_ [((1:Int):Rat),dtC t 1/ ((1:Int):Rat)]);exact s_t [(1,5),(3,53)]
 intro j hj hT;cases hT;rintro e u rfl;exact⟨u,trivial,SEnt.refl _⟩;rintro _ _;rw[dtX.eq_1];refine s_r 3 ?_;refine a_1 ?_;refine o_1 (.callS1 rfl rfl rfl (.shut rfl d_n (.nil)) rfl (hti)) ?_;refine a_z ?_;exact af_ (t_e (ar_ _))
theorem fs_Det1(p:List Rat×List Rat)(a b:Rat)(hke:okKe [p])(ha:sm a)(hb:sm b)(hab:a≤b)(h:OkMa [p] a b)(hs:qs (maK [p] a b 0 0)≤100000000000):
    FS 34 [.arr (kE [p]),.agg (spC a b)] (.tup [.arr (pE (trimQ (deV (trQ (maK [p] a b) 1)))),i64 0]):=by
 have hw:=iU_ [p] a b hke ha hb hab;have hd:=fs_det1 p a b h hs;refine f_n Tryz.func34 ?_ ?_;exact aa_ (aE_ [p]) (aa_ (ay_ (a0_ a b)) ac_);refine r_z 3 ?_;refine ab_ (r_c 3 (hw) ?_);refine al_ ?_;refine cF (ah_ (r_c 5 (hd) ?_));refine a_z ?_;refine af_ (Fin.many ⟨_,_,rfl,rfl,⟨_,_,rfl,rfl,rfl⟩⟩ (nle rfl) ?_);exact ai_ (ak_ ax_ (ar_ _)) (ai_ (ak_ ax_ (ad_ _)) an_)
theorem oy_(p:List Rat)(lo hi:Rat)(gr:Int)(v:Sp)(hR:FS 154 [.arr (pE p),.agg (spC lo hi),i64 gr] (.tup [.agg (spC v.1 v.2),i64 0]))(h1:sm v.1)(h2:sm v.2):FS 94 [.agg (spC lo hi++[i64 gr]),.arr (pE p)] (.agg (qC (absH v))):=by
 have hcl:∀c∈spC lo hi++[i64 gr],Closed c:=fun c hc=>(List.mem_append.1 hc).elim (a0_ lo hi c) (aa_ (ad_ _) ac_ c);refine f_c Tryz.func94 ?_;refine r_z 2 ?_;refine r_c 12 (hR) ?_;refine a_z ?_;refine r_c 4 (fs_SAbs v h1 h2) ?_;refine a_z ?_;exact af_ (c_e (aC_ _))
def szC(a b:Rat)(gr:Int):AV:= .clos 94 [.agg (spC a b++[i64 gr])] []
theorem hs_(a b:Rat)(gr:Int):Closed (szC a b gr):=aG_ (aa_ (ay_ fun c hc=>(List.mem_append.1 hc).elim (a0_ a b c) (aa_ (ad_ _) ac_ c)) ac_) ac_
def bSz(a b:Rat)(gr:Int):AV:= .aptr [[szC a b gr]] 0 0
theorem bH_(a b:Rat)(gr:Int):Closed (bSz a b gr):=aL_ (aa_ (hs_ a b gr) ac_)
theorem fs_Clo1(p:List Rat×List Rat)(a b:Rat)(gr:Int)(v:Rat)(h:FS 94 [.agg (spC a b++[i64 gr]),.arr (pE p.1)] (.agg (qC v))):FS 95 [.agg (prC p),bSz a b gr] (.agg (qC v)):=by
 refine f_n Tryz.func95 ?_ ?_;exact aa_ (ay_ (di_ p)) (aa_ (bH_ a b gr) ac_);refine r_z 2 ?_;refine r_c 5 (h) ?_;refine a_z ?_;exact af_ (c_e (aC_ _))
theorem fs_Clo2(p:List Rat×List Rat)(a b:Rat)(gr:Int)(v:Rat)(h:FS 94 [.agg (spC a b++[i64 gr]),.arr (pE p.2)] (.agg (qC v))):FS 96 [.agg (prC p),bSz a b gr] (.agg (qC v)):=by
 refine f_n Tryz.func96 ?_ ?_;exact aa_ (ay_ (di_ p)) (aa_ (bH_ a b gr) ac_);refine r_z 2 ?_;refine r_c 5 (h) ?_;refine a_z ?_;exact af_ (c_e (aC_ _))
end Go.Proofs.YtjkddcfoolilbaaGreatDoor
