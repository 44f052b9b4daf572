/- Part V32. -/
import Derived.Test.YtiodeiecpoopgaaGreatDoorV31
set_option linter.all false
namespace Go.Proofs.YtiodeiecpoopgaaGreatDoor
open Go.Abs
set_option maxRecDepth 20000
set_option maxHeartbeats 4000000
structure OkSm (k:Ke)(c:Lq)(i:Nat)(p:Lq×Lq):Prop where
 p1:smL p.1
 p2:p.1.length<=1099511627776
 cs:sm (coP c i)
 o1:smL (smK k c i)
 o2:(smK k c i).length<=1099511627776
 s1:smL (a7 p.1 (coP c i))
 s2:(a7 p.1 (coP c i)).length<=1099511627776
def ksS(k:Ke)(c:Lq):Nat->AState
 |i=>⟨[(1,.arr (pE c)),(5,.arr (pE (smK k c i))),(8,.arr (kE k)),(9,i64 k.length),(10,i64 i)],[],1,26⟩
theorem pO(k:Ke)(c:Lq)(hc:c.length=k.length)(hl:k.length<=1000)(h:∀i p,k[i]?=some p->OkSm k c i p):FS 43 [.arr (kE k),.arr (pE c)] (.arr (pE (smK k c k.length))):=by
 have f:(kE k).length=k.length:=dV k;refine f_n Tryz.func43 ?_ ?_;exact ac (aN k) (ac (az c) af);refine r_z 1 ?_;refine r_z 1 ?_;refine ae (r_z 3 ?_);refine aC (fun _:Unit=>⟨[(5,.arr (pE (smK k c k.length)))],[],1,26⟩) (fun _=>True) ?_ ?_;refine ah (ax (ksS k c) (fun i=>k.length- i) (fun i=>i<=k.length) 0 (Nat.zero_le _) ?_ ?_);rw[ksS.eq_1];exact s_x [] (fun hs=>e_51) (fun hs=>e_52);intro i l;rw[ksS.eq_1];by_cases hlt:i< k.length;obtain⟨p,hp⟩:∃p,k[i]?=some p:=⟨_,List.getElem?_eq_getElem hlt⟩;have a:(kE k)[((i:Nat):Int).toNat]?=some (prC p):=l6 hp _ (by simp);have j:(pE c).length=k.length:=by simp[pE,hc]
 have b:(pE c)[((i:Nat):Int).toNat]?=some (qC (coP c i)):=by
  have:=ci (p:=c) (i:=i) (by omega);simp[pE,this]
 have ok:=h i p hp;have g:=fk p.1 (coP c i) ok.p1 ok.cs ok.p2;have e:=ma (smK k c i) _ ok.o1 ok.s1 ok.o2 ok.s2;refine q_z 1 ?_;refine ae (cT (am (ae (ah (s_r 6 ?_)))));refine a_1 ?_;refine i_x a ?_;refine l_x a ?_;refine a_z ?_;refine r_d aT 10 ?_;refine a_5 ?_;refine i_x b ?_;refine l_x b ?_;refine c_s (g) ?_;refine c_s (e) ?_;refine a_1 ?_;refine ao (n_k ?_);refine r_m 2 ?_;refine a_z ?_;refine⟨i+1,by omega,by omega,?_⟩;rw[ksS.eq_1,H7 hp];unfold smF;exact s_x [] (fun hs=>e_51) (fun hs=>e_52);have d:i=k.length:=by omega
 refine q_z 1 ?_;refine ae (cF (aw ⟨(),trivial,?_⟩));rw[d];exact s_e [];rintro _ _;refine r_z 2 ?_;exact aj (t_e (az _))
def tkC(k:Ke)(l:Rat)(g:Lq)(a b:Rat):La:=eqC k l g++spC a b
theorem dk(k:Ke)(l:Rat)(g:Lq)(a b:Rat):∀c∈tkC k l g a b,Closed c:=cj (cv k l g) (bh a b)
def bTk(k:Ke)(l:Rat)(g:Lq)(a b:Rat):AV:= .aptr [tkC k l g a b] 0 0
theorem cw(k:Ke)(l:Rat)(g:Lq)(a b:Rat):Closed (bTk k l g a b):=aU (dk k l g a b)
theorem fs_sys1(k:Ke)(l:Rat)(g:Lq)(a b:Rat)(p:Lq×Lq)(hm:jZ p.2 g)(ho:OkIn (aX p.2 g) a b):
    FS 101 [.agg (prC p),bTk k l g a b] (.agg (qC (inQ (aX p.2 g) a b))):=by
 refine f_n Tryz.func101 ?_ ?_;exact ac (aD (fT p)) (ac (cw k l g a b) af);refine r_z 2 ?_;refine ae (r_d aT 10 ?_);refine c_s (pW p.2 g hm) ?_;refine c_s (nn _ a b ho) ?_;refine a_1 ?_;refine ao (n_k ?_);exact aj (c_e (aO _))
def rhK(k:Ke)(g:Lq)(a b:Rat):Lq:=k.map fun p=>inQ (aX p.2 g) a b
@[simp] theorem rhK_length (k:Ke)(g:Lq)(a b:Rat):(rhK k g a b).length=k.length:=by simp[rhK]
def syM(k:Ke)(l:Rat)(r:Lq)(a b:Rat):Mx×Ln:=slM (svM (maK k a b) l (fun t=>coP r t) k.length) k.length k.length
structure OkSy (k:Ke)(l:Rat)(a b:Rat)(s:Nat):Prop where
 m:OkMa k a b
 q:∀i j,i< k.length->j< k.length->qs (maK k a b i j)+qs l+2<=s
 s:slB s k.length<=100000000000
theorem OkSy.le{k:Ke}{l a b:Rat}{s:Nat}(h:OkSy k l a b s):s<=100000000000:=Nat.le_trans (k8 (s:=s) (Nat.zero_le k.length)) h.s
theorem OkSy.bd{k:Ke}{l a b:Rat}{s:Nat}(h:OkSy k l a b s){r:Lq}(hr:∀i,i< k.length->qs (coP r i)<=s):bdM (svM (maK k a b) l (fun t=>coP r t) k.length) k.length s:=fun i j c e=>by
 unfold svM;by_cases e1:j=k.length;rw[if_pos e1];exact hr i c;rw[if_neg e1];have m:=h.q i j c (by omega);have f:=dS (maK k a b i j) l;split;have d:=kQ (-(maK k a b i j* l)) 1;rw[iB] at d;have g:qs 1<=1:=by decide
 omega;rw[iB];omega
theorem ua(k:Ke)(l a b:Rat)(s:Nat)(r:Lq)(h:OkSy k l a b s)(hrl:r.length=k.length)(hr:∀i,i< k.length->qs (coP r i)<=s):
    XSpec Tryz.prog 72 [.lsl 1 0 k.length (some k.length) 1,.agg (qC l),.arr (pE r)] (mzH 3 34 48 (mzO 3 (fun _=>k.length) (fun x=>x) k.length) (fiL (maK k a b) k.length k.length)) 40 (syV k.length (syM k l r a b)) [] 1:=by
 have o:=h.m.l;have n:=h.le;have f:=h.bd hr;refine Ga (maK k a b) l r k.length (slB s k.length) (by omega) hrl h.s (fun i j d e=>by have:=h.q i j d e;omega) (fun i d=>?_) fun c g i j d e=>Nat.le_trans (Kw f c g i j d e) (k8 g);have t:=h.q i i d d;have p:=dS (maK k a b i i) l;rw[iB];omega
theorem lu(k:Ke)(l:Rat)(g:Lq)(a b:Rat)(s:Nat)(h:OkSy k l a b s)(hr:∀p∈k,jZ p.2 g/\OkIn (aX p.2 g) a b/\qs (inQ (aX p.2 g) a b)<=s):
    FS 39 [.agg (tkC k l g a b)] (syV k.length (syM k l (rhK k g a b) a b)):=by
 have j:=h.m.l
 have n:=ua k l a b s (rhK k g a b) h (by simp) fun i d=>by
  have e:coP (rhK k g a b) i=inQ (aX k[i].2 g) a b:=by
   unfold coP rhK;rw[List.getD_eq_getElem?_getD];simp[d]
  rw[e];exact(hr _ (List.getElem_mem d)).2.2
 have f:=pS k 101 [bTk k l g a b] (fun p=>inQ (aX p.2 g) a b) (ac (cw k l g a b) af) (by omega) fun p hp=>fs_sys1 k l g a b p (hr p hp).1 (hr p hp).2.1;have c:Closed (syV k.length (syM k l (rhK k g a b) a b)):=fS _ _ _;refine f_n Tryz.func39 ?_ ?_;exact ac (aD (dk k l g a b)) af;refine r_z 2 ?_;refine AWp.ent (st':=⟨[(1,bTk k l g a b),(2,.lptr 1 0 0)],[(1,some ⟨117,3,[[.emp,.emp,i64 0]]⟩)],2,18⟩) ?_ ?_;have:=dk k l g a b;exact s_f [(1,2)];refine ae (AWp.regAB 5 14 8 aT (qV k a b h.m) (n) (c) rfl rfl rfl rfl rfl rfl rfl rfl rfl rfl (by kernel_rfl) rfl rfl rfl ?_);refine AY.op0 (.fieldAddr_a rfl TF.h (by decide)) rfl rfl ?_;refine AY.op0 (.fieldAddr_a rfl TF.h (by decide)) rfl rfl ?_;refine AY.op0 (.load_a1 rfl rfl TG.h rfl) rfl rfl ?_;refine AY.op0 (.fieldAddr_a rfl TF.h (by decide)) rfl rfl ?_;refine AY.op0 (.load_a rfl rfl TG.h TS.h (nle rfl)) rfl rfl ?_;refine AY.sp rfl rfl (kAB.a rfl rfl rfl (ac (aN k) (ac (aD (bh a b)) af)) rfl) ?_;refine AY.op0 (.fieldAddr_a rfl TF.h (by decide)) rfl rfl ?_;refine AY.op0 (.fieldAddr_a rfl TF.h (by decide)) rfl rfl ?_;refine AY.op0 (.load_a rfl rfl TG.h TS.h (nle rfl)) rfl rfl ?_;refine AY.op0 (.fieldAddr_a rfl TF.h (by decide)) rfl rfl ?_;refine AY.op0 (.fieldAddr_a rfl TF.h (by decide)) rfl rfl ?_;refine AY.op0 (.load_a1 rfl rfl TG.h rfl) rfl rfl ?_;refine AY.op0 (.makeFunc rfl rfl) rfl rfl ?_;refine AY.op0 (.call rfl rfl rfl (f)) rfl rfl ?_
 refine AY.sp rfl rfl (kAB.b rfl rfl (ArgsB.own (ArgsB.clo rfl (aD (bi l)) (ArgsB.clo rfl (az _) ArgsB.nil))) rfl) ?_;refine AY.on1 (.store rfl rfl rfl rfl rfl rfl TS.h (nle rfl)) rfl ?_;refine AY.nil ⟨by kernel_rfl,?_⟩;exact aj (c_e (c))
def mB(l:Lw)(k:Nat):Option La:=if k< l.length then some [i64 ((l.length- 1- k:Nat):Int),.arr (pE (l.getD (l.length- 1- k) []))] else none
def bM(l:Lw):AV:= .aptr [[.arr (mE l)]] 0 0
theorem dx(l:Lw):Closed (bM l):=aU (ac (closed_mA l) af)
theorem mE_getD{l:Lw}{i:Nat}(h:i< l.length):(mE l)[i]?=some [.arr (pE (l.getD i []))]:=by
 refine iH ?_ i rfl;rw[List.getD_eq_getElem?_getD,List.getElem?_eq_getElem h];rfl
theorem A7(l:Lw)(hl:l.length<=281474976710656):GSpec Tryz.prog 157 [bM l] (mB l):=by
 refine GSpec.enter Tryz.func157 rfl (by kernel_rfl) rfl rfl rfl ?_ ?_ rfl ?_;exact ac (dx l) af;intro k xs h;unfold mB at h;split at h;cases h;exact ac (ag _) (ac (az _) af);cases h;intro b N E;refine GWp.seq ?_;refine GWp.lift ?_;refine r_m 4 ?_;refine a_z ?_;refine GWp.block ?_;refine GWp.loopS (fun m:Nat=>⟨[(0,.v (.func (.yield b) #[] #[])),(1,bM l),(3,i64 ((m:Int)- 1))],[],1,19⟩) (fun m=>l.length- m) (fun m=>m) (fun m=>m<=l.length) l.length (Nat.le_refl _) (by simp) ?_ ?_;have:=dx l;exact s_f [];intro m e;refine GWp.seq ?_;refine GWp.seq ?_;refine GWp.lift ?_;refine r_m 2 ?_;refine a_z ?_;refine GWp.cond rfl (fun h=>?_) (fun h=>?_)
 ·refine GWp.skip ?_
  have d:1<=m:=by have:=of_decide_eq_true h;omega
  have a:(mE l)[((m:Int)- 1).toNat]?=some [.arr (pE (l.getD (m- 1) []))]:=by rw[show((m:Int)- 1).toNat=m- 1 by omega];exact mE_getD (by omega)
  refine GWp.seq ?_;refine GWp.block ?_;refine GWp.seq ?_;refine GWp.regY (fr2:=[(0,.v (.func (.yield b) #[] #[])),(1,bM l),(3,i64 ((m:Int)- 1)),(11,.v (.func (.yield b) #[] #[])),(12,i64 ((m:Int)- 1)),(16,.arr (pE (l.getD (m- 1) [])))]) (hp2:=[]) (nx2:=1) 6 rfl rfl rfl rfl rfl rfl ?_ rfl rfl rfl ?_ ?_ ?_;refine o_0 (.move rfl) ?_;refine o_0 (.move rfl) ?_;refine bF (.load_a1 rfl rfl TG.h rfl) rfl rfl ?_;refine o_0 (.move rfl) ?_;refine i_x a ?_;refine l_1 a ?_;refine ao ?_;have:=dx l;exact s_t [];rotate_left 2;intro c;refine o_0 (.un rfl mJ) ?_;refine ao ?_;rotate_left;unfold mB;rw[if_pos (by omega)];have e1:((l.length- 1- (l.length- m):Nat):Int)=(m:Int)- 1:=by omega
  have e2:l.length- 1- (l.length- m)=m- 1:=by omega
  rw[e1,e2];rfl;exact ac (ag _) (ac (az _) af);cases c with
  |false=>
   refine GWp.cond rfl (fun h=>?_) (fun h=>?_);exact GWp.ret ⟨.inr rfl,fun h=>by cases h⟩;cases h
  |true=>
   refine GWp.cond rfl (fun h=>?_) (fun h=>?_);cases h;refine GWp.skip ?_;refine GWp.lift ?_;refine r_m 3 ?_;refine a_z ?_;refine⟨rfl,m- 1,by omega,by omega,by omega,?_⟩;have:=dx l;exact s_f []
 refine GWp.exit ⟨.inl rfl,fun _=>?_⟩;have:m=0:=by have:=of_decide_eq_false h;omega
 subst this;unfold mB;rw[if_neg (by omega)]
theorem Bs(l:Lw):FS 104 [.arr (mE l)] (.clos 157 [] [bM l]):=by
 refine f_c Tryz.func104 ?_;refine r_z 2 ?_;refine r_z 2 ?_;refine aj (⟨.inr rfl,[_],⟨_,[],rfl,rfl,rfl⟩,?_⟩);exact Cv.clos aq (ak (Cv.boxp aB rfl (fun _ _ h=>by cases h) rfl (ac (closed_mA l) af)) aq)
theorem Dk(p:Lq)(hp:p.length<=1099511627776):FS 41 [.arr (pE p),.arr (mE [])] (.arr (pE (ar p))):=by
 have hb:=Bs [];have b:=A7 [] (by simp);have d:=dq p hp;refine f_c Tryz.func41 ?_;refine r_z 2 ?_;refine ae (r_c 2 (hb) ?_);refine ao ?_;refine aC (fun _:Unit=>⟨[(2,.lptr 1 0 0)],[(1,some ⟨35,1,[[.arr (pE p)]]⟩)],2,28⟩) (fun _=>True) ?_ ?_;refine ah (AWp.rangeFunc (α:=Unit) (γ:=Empty) 0 (fun _=>⟨[(2,.lptr 1 0 0),(9,.clos 157 [] [bM []])],[(1,some ⟨35,1,[[.arr (pE p)]]⟩)],2,28⟩) (fun _=>0) (fun _=>True) (fun e=>nomatch e) (fun _ e=>nomatch e) () rfl b rfl rfl ?_ (fun _=>⟨rfl,rfl⟩) (fun e=>nomatch e) trivial rfl (fun _ _=>Nat.le_refl _) ?_ ?_ ?_ ?_ (fun _ e=>nomatch e));intro k xs a;exact absurd a (by unfold mB;simp);refine s_y [(1,2)] (fun hs=>?_) (fun hs=>?_)
 ·repeat' (first|exact aI|refine au rfl ?_ ?_|exact ai hs (aQ af (ac (dx []) af))|exact aS)
 ·repeat' (first|exact aA|refine h_c ?_ ?_|exact br|refine ay ?_|exact aq|refine ak ?_ ?_|exact ai hs (aQ af (ac (dx []) af))|exact aS)
 exact ac (dx []) af;intro l k xs c a;exact absurd a (by unfold mB;simp);intro k c a;refine⟨(),trivial,?_⟩;exact s_e [];rintro _ _;refine r_c 3 (d) ?_;refine a_z ?_;exact aj (t_e (az _))
def ixS(L:Ln)(f:Nat):Nat->AState
 |i=>⟨[(0,.arr (lvE L)),(1,i64 f),(7,i64 L.length),(8,i64 i)],[],1,19⟩
theorem G8(L:Ln)(f:Nat)(hl:L.length<=1099511627776):FS 196 [.arr (lvE L),i64 f] (i64 (j5 (fun c:Nat=>((f:Int)==(c:Int))) L 0)):=by
 have j:(lvE L).length=L.length:=iI L;refine f_n Tryz.func196 ?_ ?_;exact ac (aG (cu L)) (ac (ag _) af);obtain⟨R,g⟩:∃R,R=j5 (fun c:Nat=>((f:Int)==(c:Int))) L 0:=⟨_,rfl⟩;rw[<-g];refine r_z 1 ?_;refine ae (r_z 3 ?_);refine aC (fun _:Unit=>⟨[],[],1,19⟩) (fun _=>R= -1) ?_ ?_;refine ah (ax (ixS L f) (fun i=>L.length- i) (fun i=>i<=L.length/\j5 (fun c:Nat=>((f:Int)==(c:Int))) (L.drop i) i=R) 0 ⟨Nat.zero_le _,by rw[g];rfl⟩ ?_ ?_);simp only[ixS.eq_1];have:=(aG (cu L));exact s_f [];rintro i ⟨k,a⟩;rw[ixS.eq_1];by_cases hlt:i< L.length;refine q_z 1 ?_;refine ae (cT (am ?_));obtain⟨c,h⟩:∃c,L[i]?=some c:=⟨_,List.getElem?_eq_getElem hlt⟩;have b:(lvE L)[((i:Nat):Int).toNat]?=some [i64 c]:=nT h _ (by simp);rw[zt h,j5] at a;refine ae (ah (r_z 2 ?_));refine s_r 6 ?_;refine a_3 ?_;refine i_x b ?_;refine l_1 b ?_;refine a_z ?_;refine ap rfl (fun e=>?_) (fun e=>?_);rw[if_pos e] at a;refine r_z 2 ?_;refine aj (aM rfl ?_ ?_);rw[<-a];exact ag _;rw[if_neg (by rw[e];decide)] at a;refine am (r_m 2 ?_);refine a_z ?_;refine⟨i+1,by omega,⟨hlt,a⟩,?_⟩;simp only[ixS.eq_1];have:=(aG (cu L));exact s_f [];have d:i=L.length:=by omega
 subst d;refine q_z 1 ?_;refine ae (cF ?_);rw[List.drop_length] at a;refine aw ⟨(),a.symm,?_⟩;exact s_e [];rintro _ a;refine r_z 1 ?_;refine aj (aM rfl ?_ ?_);rw[a];rfl;exact ag _
theorem qU(f:Nat):∀L:Ln,L.any (fun c:Nat=>((f:Int)==(c:Int)))=L.contains f
 |[]=>rfl
 |a::L=>by
  rw[List.any_cons,qU f L,List.contains_cons];refine congrArg (· ||L.contains f) ?_;cases hb:(f==a) with
  |true=>rw[eq_of_beq hb];exact beq_self_eq_true _
  |false=>
   have b:¬f=a:=fun e=>by rw[e] at hb;simp at hb
   exact beq_eq_false_iff_ne.2 (by omega)
theorem p9(L:Ln)(f:Nat)(hl:L.length<=1099511627776):FS 156 [.arr (lvE L),i64 f] (bln (L.contains f)):=by
 have e:=pz (fun c:Nat=>((f:Int)==(c:Int))) L 0 (Int.le_refl 0);rw[qU] at e;have a:=G8 L f hl;refine f_n Tryz.func156 ?_ ?_;exact ac (aG (cu L)) (ac (ag _) af);refine r_z 1 ?_;refine r_c 5 (a) ?_;refine a_z ?_;refine aj (aM rfl ?_ ?_);rw[<-e];rfl;exact ag _
def z0S(A:Mx)(n:Nat)(L:Ln):Nat->AState
 |f=>⟨[(1,bSy n A L),(3,.emp),(9,i64 n),(10,i64 f)],[],1,51⟩
theorem GD(A:Mx)(n:Nat)(L:Ln)(hn:n<=25)(hLn:L.length<=n)(hL:∀f,f< n->L.contains f=true):FS 100 [syV n (A,L)] (.arr (mE [])):=by
 refine f_n Tryz.func100 ?_ ?_;exact ac (fS n A L) af;refine r_z 2 ?_;refine AWp.ent (st':=⟨[(1,bSy n A L)],[],1,51⟩) ?_ ?_;have:=dN n A L;exact s_f [];refine r_z 1 ?_;refine ae (r_z 3 ?_);refine aC (fun _:Unit=>⟨[(3,.emp)],[],1,51⟩) (fun _=>True) ?_ ?_;refine ah (ax (z0S A n L) (fun f=>n- f) (fun f=>f<=n) 0 (Nat.zero_le _) ?_ ?_);rw[z0S.eq_1];have:=bq n A L;exact s_f [];intro f b;rw[z0S.eq_1];by_cases hlt:f< n;have a:=p9 L f (by omega);rw[hL f hlt] at a;refine q_z 1 ?_;refine ae (cT (am (ae (ah (r_z 2 ?_)))));refine ae (r_c 4 (a) ?_);refine ao ?_;refine cT (aw (r_m 2 ?_));refine a_z ?_;refine⟨f+1,by omega,by omega,?_⟩;rw[z0S.eq_1];have:=bq n A L;exact s_f [];refine q_z 1 ?_;refine ae (cF (aw ⟨(),trivial,?_⟩));exact s_e [];rintro _ _;refine r_z 2 ?_;exact aj (Fin.tmpN rfl)
theorem GU(g:Nat)(bn:La)(hb:∀c∈bn,Closed c):FS 99 [.arr (mE []),.clos g bn []] (.arr (mE [])):=by
 have a:Closed (.clos g bn []):=aQ hb af;refine f_c Tryz.func99 ?_;refine r_z 1 ?_;refine r_z 1 ?_;refine ae (r_z 3 ?_);refine aC (fun _:Unit=>⟨[(5,.emp)],[],1,22⟩) (fun _=>True) ?_ ?_;refine ah (ax (fun _:Unit=>⟨[(5,.emp),(9,i64 0),(10,i64 0)],[],1,22⟩) (fun _=>0) (fun _=>True) () trivial ?_ ?_);exact s_e [];rintro _ _;refine q_z 1 ?_;refine ae (cF (aw ⟨(),trivial,?_⟩));exact s_e [];rintro _ _;refine r_z 2 ?_;exact aj (Fin.tmpN rfl)
theorem Bj:FS 98 [.arr (mE [])] (.arr (mE [])):=by
 refine f_c Tryz.func98 ?_;refine r_z 1 ?_;refine r_z 1 ?_;refine ae (r_z 3 ?_);refine aC (fun _:Unit=>⟨[(3,.emp)],[],1,49⟩) (fun _=>True) ?_ ?_;refine ah (ax (fun _:Unit=>⟨[(3,.emp),(8,i64 0),(9,i64 0)],[],1,49⟩) (fun _=>0) (fun _=>True) () trivial ?_ ?_);exact s_e [];rintro _ _;refine q_z 1 ?_;refine ae (cF (aw ⟨(),trivial,?_⟩));exact s_e [];rintro _ _;refine r_z 2 ?_;exact aj (Fin.tmpN rfl)
theorem JD(k:Ke)(l:Rat)(g:Lq)(a b:Rat)(A:Mx)(n:Nat)(L:Ln)(hz:FS 100 [syV n (A,L)] (.arr (mE []))):FS 38 [.agg (tkC k l g a b),syV n (A,L)] (.arr (mE [])):=by
 have c:=GU 43 [.arr (kE k)] (ac (aN k) af);have d:=Bj;refine f_n Tryz.func38 ?_ ?_;exact ac (aD (dk k l g a b)) (ac (fS n A L) af);refine r_z 3 ?_;refine AWp.ent (st':=⟨[(2,bTk k l g a b),(3,bSy n A L)],[],1,13⟩) ?_ ?_;refine s_x [] (fun hs=>?_) (fun hs=>?_)
 ·repeat' (first|exact aI|refine au rfl ?_ ?_|exact Cv.boxp hs rfl (aH rfl) rfl (dk k l g a b)|exact Cv.boxp hs rfl (aH rfl) rfl (dN n A L)|exact aS)
 ·repeat' (first|exact aA|refine h_c ?_ ?_|exact br|refine ay ?_|exact aq|refine ak ?_ ?_|exact Cv.boxp hs rfl (aH rfl) rfl (dk k l g a b)|exact Cv.boxp hs rfl (aH rfl) rfl (dN n A L)|exact aS)
 refine ae (r_d aT 9 ?_);refine c_s (hz) ?_;refine c_s (c) ?_;refine c_s (d) ?_;refine a_1 ?_;refine ao (n_k ?_);exact aj (t_e (closed_mA _))
def mK(k:Ke)(l:Rat)(g:Lq)(a b:Rat):Lq:=pj (syM k l (rhK k g a b) a b).1 k.length (syM k l (rhK k g a b) a b).2
def syU(k:Ke)(l:Rat)(g:Lq)(a b:Rat):Lq:=fy g (a7 (smK k (mK k l g a b) k.length) l)
structure OkTa (k:Ke)(l:Rat)(g:Lq)(a b:Rat)(s:Nat):Prop where
 ke:rD k
 ha:sm a
 hb:sm b
 ab:a<=b
 dg:a8 g<=20
 gl:g.length<=1099511627776
 sy:OkSy k l a b s
 rh:∀p∈k,jZ p.2 g/\OkIn (aX p.2 g) a b/\qs (inQ (aX p.2 g) a b)<=s
structure OkSu (k:Ke)(l:Rat)(g:Lq)(a b:Rat):Prop where
 ms:∀i p,k[i]?=some p->OkSm k (mK k l g a b) i p
 u1:smL (smK k (mK k l g a b) k.length)
 u2:(smK k (mK k l g a b) k.length).length<=1099511627776
 sl:sm l
 sg:smL g
 v1:smL (a7 (smK k (mK k l g a b) k.length) l)
 v2:(a7 (smK k (mK k l g a b) k.length) l).length<=1099511627776
theorem OkTa.none{k:Ke}{l:Rat}{g:Lq}{a b:Rat}{s:Nat}(h:OkTa k l g a b s):FS 40 [syV k.length (syM k l (rhK k g a b) a b)] (bln (eA k.length (syM k l (rhK k g a b) a b).1 (syM k l (rhK k g a b) a b).2)):=
 Jz (syM k l (rhK k g a b) a b).1 k.length (syM k l (rhK k g a b) a b).2 (c8 _ _ _).len (by have:=h.ke.1;omega)
theorem GX(k:Ke)(l:Rat)(g:Lq)(a b:Rat)(s:Nat)(h:OkTa k l g a b s)(h2:OkSu k l g a b)(hL:∀f,f< k.length->(syM k l (rhK k g a b) a b).2.contains f=true)(hN:eA k.length (syM k l (rhK k g a b) a b).1 (syM k l (rhK k g a b) a b).2=false)(hu:(syU k l g a b).length<=1099511627776):
    FS 12 [.agg (eqC k l g),.agg (spC a b)] (.tup [.arr (pE (ar (syU k l g a b))),.arr (mE []),i64 0]):=by
 have p:=h.ke.1;have m:=ff k l g a b h.ke h.ha h.hb h.ab h.dg h.gl;have hs:=lu k l g a b s h.sy h.rh;have j:=h.none;rw[hN] at j;have q:=GD (syM k l (rhK k g a b) a b).1 k.length (syM k l (rhK k g a b) a b).2 (by omega) (c8 _ _ _).len hL;have n:=JD k l g a b _ _ _ q;have o:=tJ (syM k l (rhK k g a b) a b).1 k.length (syM k l (rhK k g a b) a b).2 (c8 _ _ _) (by omega);have c:=pO k (mK k l g a b) (by unfold mK;simp) (by omega) h2.ms;have d:=fk _ l h2.u1 h2.sl h2.u2;have e:=ma g _ h2.sg h2.v1 h.gl h2.v2;have i:=Dk (syU k l g a b) hu;refine f_n Tryz.func12 ?_ ?_;exact ac (aD (cv k l g)) (ac (aD (bh a b)) af);refine r_z 5 ?_;refine r_z 5 ?_;refine AWp.ent (st':=⟨[(7,bTk k l g a b)],[],1,38⟩) ?_ ?_;have:=dk k l g a b;exact s_f [];refine ae (r_c 2 (m) ?_);refine ao ?_;refine cF (am (r_c 4 (hs) ?_));refine a_z ?_;refine AWp.ent (st':=⟨[(7,bTk k l g a b),(8,bSy k.length (syM k l (rhK k g a b) a b).1 (syM k l (rhK k g a b) a b).2)],[],1,38⟩) ?_ ?_;exact s_x [] (fun hs=>e_22) (fun hs=>e_23);refine ae (r_c 2 (j) ?_);refine ao ?_;refine cF (am (r_c 4 (n) ?_));refine a_z ?_;refine ae (r_d aT 20 ?_);refine c_s (o) ?_;refine c_s (c) ?_;refine c_s (d) ?_;refine c_s (e) ?_;refine c_s (i) ?_;refine a_4 ?_;refine ao (n_k ?_);refine aj (Fin.many ⟨_,_,rfl,rfl,⟨_,_,rfl,rfl,⟨_,_,rfl,rfl,rfl⟩⟩⟩ (nle rfl) ?_);exact ak (ai aB (az _)) (ak (ai aB (closed_mA _)) (ak (ai aB (ag _)) aq))
theorem xn(k:Ke)(l:Rat)(g:Lq)(a b:Rat)(s:Nat)(h:OkTa k l g a b s)(hN:eA k.length (syM k l (rhK k g a b) a b).1 (syM k l (rhK k g a b) a b).2=true):
    FS 12 [.agg (eqC k l g),.agg (spC a b)] (.tup [.arr (pE []),.arr (mE []),i64 12]):=by
 have e:=h.ke.1;have d:=ff k l g a b h.ke h.ha h.hb h.ab h.dg h.gl;have hs:=lu k l g a b s h.sy h.rh;have c:=h.none;rw[hN] at c;refine f_n Tryz.func12 ?_ ?_;exact ac (aD (cv k l g)) (ac (aD (bh a b)) af);refine r_z 5 ?_;refine r_z 5 ?_;refine AWp.ent (st':=⟨[(7,bTk k l g a b)],[],1,38⟩) ?_ ?_;have:=dk k l g a b;exact s_f [];refine ae (r_c 2 (d) ?_);refine ao ?_;refine cF (am (r_c 4 (hs) ?_));refine a_z ?_;refine AWp.ent (st':=⟨[(7,bTk k l g a b),(8,bSy k.length (syM k l (rhK k g a b) a b).1 (syM k l (rhK k g a b) a b).2)],[],1,38⟩) ?_ ?_;exact s_x [] (fun hs=>e_22) (fun hs=>e_23);refine ae (r_c 2 (c) ?_);refine ao ?_;refine cT (r_z 3 ?_);refine aj (Fin.many ⟨_,_,rfl,rfl,⟨_,_,rfl,rfl,⟨_,_,rfl,rfl,rfl⟩⟩⟩ (nle rfl) ?_);exact ak (Cv.emp _) (ak (Cv.emp _) (ak (ai aB (ag _)) aq))
def sqR(n:Nat)(A:Mx):Lw:=(List.range n).map fun k=>aJ n (A k)
@[simp] theorem sqR_length (n:Nat)(A:Mx):(sqR n A).length=n:=by simp[sqR]
theorem sqR_get{n i:Nat}{A:Mx}(h:i< n):(sqR n A)[i]?=some (aJ n (A i)):=by simp[sqR,h]
theorem FG(n:Nat)(A:Mx):(fiL A n n).map (fun e=>([.arr e]:La))=mE (sqR n A):=by
 rw[fiL_rwL,If];rfl
theorem Dn(k:Ke)(a b:Rat)(h:OkMa k a b):FS 73 [.arr (kE k),.agg (spC a b)] (.arr (mE (sqR k.length (maK k a b)))):=by
 have:=(qV k a b h).shut rfl (ac (aN k) (ac (aD (bh a b)) af))
  (Cv.mzShut (r:=⟨0,fun i=>i⟩) (show(3:Nat)≠0 by decide) aB (fun _=>rfl) (me _ _ _).symm (fun i e h=>by have:=(oG h).2;subst this;simp[pE]) fun e d x g c f=>by
   obtain⟨k,_,rfl⟩:=List.mem_map.1 d;exact aP _ x g c f) (by rw[FG];exact closed_mA _)
 rw[FG] at this;exact this
def trQ(A:Mx)(i:Nat):Rat:=sQ (fun t=>A t t) i
def tcS(pM:Nat->Mx)(n ll j:Nat):Nat->AState
 |i=>⟨[(0,.v (.func (.yield ll) #[] #[])),(1,bM (sqR n (pM 0))),(3,.arr (mE (sqR n (pM j)))),(4,.lptr 1 0 0),(11,i64 n),(12,i64 i)],[(1,some ⟨48,3,[qC (trQ (pM j) i)]⟩)],2,29⟩
theorem GB(pM:Nat->Mx)(n K:Nat)(hn:n<=25)(hs:∀j,j<=K->∀i,i< n->qs (trQ (pM j) i)+qs (pM j i i)<=549755813888)(hmul:∀j,j< K->FS 169 [.arr (mE (sqR n (pM j))),.arr (mE (sqR n (pM 0)))] (.arr (mE (sqR n (pM (j+1)))))):
    GSpecB Tryz.prog 168 [bM (sqR n (pM 0))] (fun j=>some [.agg (qC (trQ (pM j) n))]) K:=by
 refine GSpecB.enter Tryz.func168 rfl (by kernel_rfl) rfl rfl rfl ?_ ?_ rfl ?_;exact ac (dx _) af;intro j xs h;cases h;exact ac (aO _) af;intro ll N hN E;refine GWp.seq ?_;refine GWp.lift ?_;refine r_m 2 ?_;refine a_z ?_;refine GWp.block ?_;refine GWp.loopS (fun j:Nat=>⟨[(0,.v (.func (.yield ll) #[] #[])),(1,bM (sqR n (pM 0))),(3,.arr (mE (sqR n (pM j))))],[],1,29⟩) (fun j=>j) (fun j=>N+1- j) (fun j=>j<=N) 0 (Nat.zero_le _) rfl ?_ ?_;exact s_x [] (fun hs=>e_8) (fun hs=>Ka);intro j l;have k:(mE (sqR n (pM j))).length=n:=by simp
 refine GWp.seq ?_;refine GWp.block ?_;refine GWp.seq ?_;refine GWp.lift ?_;refine r_m 1 ?_;refine a_z ?_;refine GWp.seq ?_;refine GWp.seq ?_;refine GWp.lift ?_;refine r_m 3 ?_;refine a_z ?_;refine GWp.cutT (fun _:Unit=>tcS pM n ll j n) (fun _=>True) ?_ ?_;refine ah (ax (tcS pM n ll j) (fun i=>n- i) (fun i=>i<=n) 0 (Nat.zero_le _) ?_ ?_);rw[tcS.eq_1];refine s_x [(1,4)] (fun hs=>e_8) (fun hs=>?_)
 ·repeat' (first|exact aA|refine h_c ?_ ?_|exact CvLL.zeros hs 1|exact br|refine ay ?_|exact aq|refine ak ?_ ?_|exact ai hs (dx _)|exact ai hs (closed_mA _)|exact aS)
 intro i m;rw[tcS.eq_1];by_cases hlt:i< n;have a:(mE (sqR n (pM j)))[((i:Nat):Int).toNat]?=some [.arr (pE (aJ n (pM j i)))]:=iH (sqR_get hlt) _ (by simp);have b:(pE (aJ n (pM j i)))[((i:Nat):Int).toNat]?=some (qC (pM j i i)):=eD hlt _ (by simp);have g:(pE (aJ n (pM j i))).length=n:=by simp[pE]
 have e:=fM (trQ (pM j) i) (pM j i i) (hs j (by omega) i hlt);refine q_z 1 ?_;refine ae (cT (am (ae (ah (r_z 2 ?_)))));refine r_d aT 10 ?_;refine a_3 ?_;refine i_x a ?_;refine l_1 a ?_;refine a_1 ?_;refine i_x b ?_;refine l_x b ?_;refine c_s (e) ?_;refine a_1 ?_;refine ao (n_k ?_);refine r_m 2 ?_;refine a_z ?_;refine⟨i+1,by omega,by omega,?_⟩;rw[tcS.eq_1];exact s_x [] (fun hs=>e_8) (fun hs=>Ka);have c:i=n:=by omega
 subst c;refine q_z 1 ?_;refine ae (cF (aw ⟨(),trivial,?_⟩));exact s_x [] (fun hs=>e_8) (fun hs=>Ka);rintro _ _;rw[tcS.eq_1];refine GWp.seq ?_;refine GWp.regY (fr2:=[(0,.v (.func (.yield ll) #[] #[])),(1,bM (sqR n (pM 0))),(3,.arr (mE (sqR n (pM j)))),(25,.v (.func (.yield ll) #[] #[])),(26,.agg (qC (trQ (pM j) n)))]) (hp2:=[]) (nx2:=1) 2 rfl rfl rfl rfl rfl rfl ?_ rfl rfl rfl ?_ ?_ ?_;refine o_0 (.move rfl) ?_;refine bF (.load_l rfl rfl rfl TG.h TS.h (nle rfl)) rfl rfl ?_;refine ao ?_;exact s_y [] (fun hs=>e_8) (fun hs=>Ka);rotate_left 2;intro f;refine o_0 (.un rfl mJ) ?_;refine ao ?_;rotate_left;rfl;exact ac (aO _) af;cases f with
 |false=>
  refine GWp.cond rfl (fun h=>?_) (fun h=>?_);exact GWp.ret ⟨.inr rfl,fun h=>by cases h⟩;cases h
 |true=>
  refine GWp.bound fun d=>?_;refine GWp.cond rfl (fun h=>?_) (fun h=>?_);cases h;refine GWp.skip ?_;refine GWp.lift ?_;refine r_m 4 ?_;refine c_s (hmul j (by omega)) ?_;refine a_z ?_;refine⟨rfl,j+1,by omega,d,rfl,?_⟩;exact s_x [] (fun hs=>e_8) (fun hs=>Ka)
theorem GG(l:Lw):FS 125 [.arr (mE l)] (.clos 168 [] [bM l]):=by
 refine f_c Tryz.func125 ?_;refine r_z 2 ?_;refine r_z 2 ?_;refine aj (⟨.inr rfl,[_],⟨_,[],rfl,rfl,rfl⟩,?_⟩);exact Cv.clos aq (ak (Cv.boxp aB rfl (fun _ _ h=>by cases h) rfl (ac (closed_mA l) af)) aq)
def dtS(k:Ke)(M:Lw):Unit->AState
 |u=>⟨[(2,bKe k),(5,.lptr 1 0 0),(6,.lptr 2 0 0),(20,.clos 168 [] [bM M])],[(1,some ⟨35,1,[[.lsl 3 0 1 none 3]]⟩),(2,some ⟨34,1,[[.emp]]⟩),(3,some ⟨48,3,[qC ((1:Int):Rat)]⟩)],4,60⟩
def dtX(c:Rat):Unit->AState
 |u=>⟨[(5,.lptr 1 0 0)],[(1,some ⟨35,1,[[.lsl 3 0 2 none 3]]⟩),(3,some ⟨48,3,[qC ((1:Int):Rat),qC c]⟩)],4,60⟩
def dtI(k:Ke)(t:Rat)(w:Nat->Rat)(i:Nat):AState:=⟨[(2,bKe k),(5,.lptr 1 0 0),(6,.lptr 2 0 0),(8,i64 1),(9,.lptr 5 0 0),(28,.lsl 4 0 1 none 3),(29,i64 1),(30,i64 i),(1005,.lptr 1 0 0)],[(1,some ⟨35,1,[[.lsl 3 0 1 none 3]]⟩),(2,some ⟨34,1,[[.lsl 4 0 1 none 3]]⟩),(3,some ⟨48,3,[qC ((1:Int):Rat)]⟩),(4,some ⟨48,3,[qC t]⟩),(5,some ⟨48,3,[qC (w i)]⟩)],6,60⟩
def dtC(t:Rat):Nat->Rat
 |0=>0
 |_+1=>0- t* ((1:Int):Rat)
def deV(t:Rat):Lq:=[((1:Int):Rat),dtC t 1/ ((1:Int):Rat)]
theorem fs_det1(p:Lq×Lq)(a b:Rat)(h:OkMa [p] a b)(hs:qs (maK [p] a b 0 0)<=100000000000):
    FS 66 [.arr (kE [p]),.agg (spC a b)] (.arr (pE (ar (deV (trQ (maK [p] a b) 1))))):=by
 have i1:=ei 1 (by decide);have hm:=Dn [p] a b h;obtain⟨A,hA⟩:∃A,A=maK [p] a b:=⟨_,rfl⟩;rw[<-hA] at hm hs⊢;have hq1:qs ((1:Int):Rat)<=1:=by decide
 have hgs:=GB (fun _=>A) 1 0 (by omega) (fun j hj i hi=>by
  obtain rfl:i=0:=by omega
  show qs (0:Rat)+qs (A 0 0)<=_;have:qs (0:Rat)<=1:=by decide
  omega) (fun j hj=>by omega)
 have htr:=GG (sqR 1 A);obtain⟨t,ht⟩:∃t,t=trQ A 1:=⟨_,rfl⟩
 have hqt:qs t<=100000000002:=by
  rw[ht];show qs (0+A 0 0)<=_;have:=kQ 0 (A 0 0);have:qs (0:Rat)<=1:=by decide
  omega
 simp only[<-ht] at hgs⊢;have hmu:=da t ((1:Int):Rat) (by omega)
 have hsu:=l8 0 (t* ((1:Int):Rat)) (by have:=dS t ((1:Int):Rat);have:qs (0:Rat)<=1:=by decide
                                       omega)
 have hov:=pR (dtC t 1) ((1:Int):Rat) (by decide) (by
  have h1:=uM 0 (t* ((1:Int):Rat));have h2:=dS t ((1:Int):Rat);have h3:qs (0:Rat)<=1:=by decide
  show qs (0- t* ((1:Int):Rat))+_<=_;omega)
 have hti:=dq (deV t) (by simp[deV]);refine f_n Tryz.func66 ?_ ?_;exact ac (aN [p]) (ac (aD (bh a b)) af);refine r_z 3 ?_;refine AWp.ent (st':=⟨[(2,bKe [p]),(3,bSp a b)],[],1,60⟩) ?_ ?_;refine s_x [] (fun hs=>?_) (fun hs=>?_)
 ·repeat' (first|exact aI|refine au rfl ?_ ?_|exact Cv.boxp hs rfl (aH rfl) rfl (ac (aN [p]) af)|exact Cv.boxp hs rfl (aH rfl) rfl (bh a b)|exact aS)
 ·repeat' (first|exact aA|refine h_c ?_ ?_|exact br|refine ay ?_|exact aq|refine ak ?_ ?_|exact Cv.boxp hs rfl (aH rfl) rfl (ac (aN [p]) af)|exact Cv.boxp hs rfl (aH rfl) rfl (bh a b)|exact aS)
 refine r_c 4 (i1) ?_;refine a_z ?_;refine r_z 1 ?_;refine ae (s_r 3 ?_);refine a_2 ?_;refine o_0 (.bin rfl rfl (vT lK (rfl))) ?_;refine ao ?_;refine aC (fun _:Unit=>dtX (dtC t 1/ ((1:Int):Rat)) ()) (fun _=>True) ?_ ?_;refine cT (r_c 4 (hm) ?_);refine c_s (htr) ?_;refine ao ?_;refine ah (AWp.rangeFuncB (α:=Unit) (γ:=Unit) 0 (dtS [p] (sqR 1 A)) (fun _=>0) (fun _=>True) (dtX (dtC t 1/ ((1:Int):Rat))) (fun e _=>e= .exit 0) () rfl hgs rfl rfl ?_ (fun _=>⟨rfl,rfl⟩) (fun _=>rfl) trivial rfl (fun _ _=>Nat.le_refl _) ?_ ?_ ?_ ?_ ?_);intro j xs hT;cases hT;rfl;rw[dtS.eq_1];refine s_y [(1,5),(2,6),(3,13)] (fun hs=>?_) (fun hs=>?_)
 ·repeat' (first|exact aI|refine au rfl ?_ ?_|exact ai hs (fi [p])|exact ai hs (aQ af (ac (dx _) af))|exact aS)
 ·repeat' (first|exact aA|refine h_c ?_ ?_|exact br|refine ay ?_|exact aq|refine ak ?_ ?_|exact ai hs (fi [p])|exact ai hs (aQ af (ac (dx _) af))|exact aS)
 exact ac (dx _) af
 ·intro ll j xs hj hT
  cases hT;show AWp _ _ _ _ ⟨[(21,.agg (qC t)),(2,bKe [p]),(5,.lptr 1 0 0),(6,.lptr 2 0 0),(20,.clos 168 [] [bM (sqR 1 A)]),(1002,bKe [p]),(1005,.lptr 1 0 0),(1006,.lptr 2 0 0),(1020,.clos 168 [] [bM (sqR 1 A)])],[(1,some ⟨35,1,[[.lsl 3 0 1 none 3]]⟩),(2,some ⟨34,1,[[.emp]]⟩),(3,some ⟨48,3,[qC ((1:Int):Rat)]⟩)],4,60⟩;refine r_m 2 ?_;refine a_z ?_;refine ah (s_r 5 ?_);refine a_3 ?_;refine AR.op1 (.append_e rfl rfl rfl te_34.h rfl rfl rfl (.lsl rfl (nle rfl)) (by first|assumption|(simp;done)) TZ.h rfl TB.h d_o (by first|(simp[maxLen];done)|(simp[maxLen];omega))) rfl rfl ?_;refine a_z ?_;refine r_z 3 ?_;refine r_z 1 ?_;refine ae (r_z 3 ?_);refine aC (fun _:Unit=>dtI [p] t (dtC t) 1) (fun _=>True) ?_ ?_;refine ah (ax (dtI [p] t (dtC t)) (fun i=>1- i) (fun i=>i<=1) 0 (Nat.zero_le _) ?_ ?_);rw[dtI.eq_1];refine s_z [(1,5),(2,6),(3,100003),(4,28),(5,9)] (fun hs=>e_24) (fun hs=>?_)
  ·repeat' (first|exact aA|refine h_c ?_ ?_|exact CvLL.zeros hs 1|exact br|refine ay ?_|exact aq|refine ak ?_ ?_|exact ai hs (fi [p])|exact aS)
  intro i hi;by_cases h1:i< 1;obtain rfl:i=0:=by omega
  rw[dtI.eq_1];refine s_r 1 ?_;refine o_0 (.bin rfl rfl (vT ec (rfl))) ?_;refine ao ?_;refine ae (cT (am (ae (ah (r_z 6 ?_)))));refine r_d aT 12 ?_;refine c_s (hmu) ?_;refine c_s (hsu) ?_;refine a_1 ?_;refine ao (n_k ?_);refine r_m 2 ?_;refine a_z ?_;refine⟨1,by omega,by omega,?_⟩;rw[dtI.eq_1];exact s_z [(1,5),(2,6),(3,100003),(4,28),(5,9)] (fun hs=>e_24) (fun hs=>e_53);obtain rfl:i=1:=by omega
  rw[dtI.eq_1];refine s_r 1 ?_;refine o_0 (.bin rfl rfl (vF ec (rfl))) ?_;refine ao ?_;refine ae (cF (aw ⟨(),trivial,?_⟩));exact s_z [(1,5),(2,6),(3,100003),(4,28),(5,9)] (fun hs=>e_24) (fun hs=>e_53);rintro _ _;rw[dtI.eq_1];refine ae (r_d aT 8 ?_);refine c_s (i1) ?_;refine c_s (hov) ?_;refine a_3 ?_;refine ao (n_k ?_);refine s_r 4 ?_;refine a_3 ?_;refine o_0 (.bin rfl rfl (vT bv (rfl))) ?_;refine ao ?_;refine cT (aw (⟨rfl,(),rfl,?_⟩));show SEntT _ ⟨[(1005,.lptr 1 0 0)],[(1,some ⟨35,1,[[.lsl 3 0 2 none 3]]⟩),(3,some ⟨48,3,[qC ((1:Int):Rat),qC (dtC t 1/ ((1:Int):Rat))]⟩)],4,60⟩;have:=(aP [((1:Int):Rat),dtC t 1/ ((1:Int):Rat)]);exact s_t [(1,5),(3,53)]
 intro j hj hT;cases hT;rintro e u rfl;exact⟨u,trivial,SEnt.refl _⟩;rintro _ _;rw[dtX.eq_1];refine s_r 3 ?_;refine a_1 ?_;refine o_1 (.callS1 rfl rfl rfl (.shut rfl d_n (.nil)) rfl (hti)) ?_;refine a_z ?_;exact aj (t_e (az _))
theorem fs_Det1(p:Lq×Lq)(a b:Rat)(hke:rD [p])(ha:sm a)(hb:sm b)(hab:a<=b)(h:OkMa [p] a b)(hs:qs (maK [p] a b 0 0)<=100000000000):
    FS 27 [.arr (kE [p]),.agg (spC a b)] (.tup [.arr (pE (ar (deV (trQ (maK [p] a b) 1)))),i64 0]):=by
 have d:=rQ [p] a b hke ha hb hab;have c:=fs_det1 p a b h hs;refine f_n Tryz.func27 ?_ ?_;exact ac (aN [p]) (ac (aD (bh a b)) af);refine r_z 3 ?_;refine ae (r_c 3 (d) ?_);refine ao ?_;refine cF (am (r_c 5 (c) ?_));refine a_z ?_;refine aj (Fin.many ⟨_,_,rfl,rfl,⟨_,_,rfl,rfl,rfl⟩⟩ (nle rfl) ?_);exact ak (ai aB (az _)) (ak (ai aB (ag _)) aq)
theorem Bc(p:Lq)(lo hi:Rat)(gr:Int)(v:Sp)(hR:FS 128 [.arr (pE p),.agg (spC lo hi),i64 gr] (.tup [.agg (spC v.1 v.2),i64 0]))(h1:sm v.1)(h2:sm v.2):FS 69 [.agg (spC lo hi++[i64 gr]),.arr (pE p)] (.agg (qC (Ee v))):=by
 have a:∀c∈spC lo hi++[i64 gr],Closed c:=fun c b=>(List.mem_append.1 b).elim (bh lo hi c) (ac (ag _) af c);refine f_c Tryz.func69 ?_;refine r_z 2 ?_;refine r_c 12 (hR) ?_;refine a_z ?_;refine r_c 4 (fs_SAbs v h1 h2) ?_;refine a_z ?_;exact aj (c_e (aO _))
def szC(a b:Rat)(gr:Int):AV:= .clos 69 [.agg (spC a b++[i64 gr])] []
theorem oO(a b:Rat)(gr:Int):Closed (szC a b gr):=aQ (ac (aD fun c d=>(List.mem_append.1 d).elim (bh a b c) (ac (ag _) af c)) af) af
def bSz(a b:Rat)(gr:Int):AV:= .aptr [[szC a b gr]] 0 0
theorem du(a b:Rat)(gr:Int):Closed (bSz a b gr):=aU (ac (oO a b gr) af)
theorem fs_Clo1(p:Lq×Lq)(a b:Rat)(gr:Int)(v:Rat)(h:FS 69 [.agg (spC a b++[i64 gr]),.arr (pE p.1)] (.agg (qC v))):FS 70 [.agg (prC p),bSz a b gr] (.agg (qC v)):=by
 refine f_n Tryz.func70 ?_ ?_;exact ac (aD (fT p)) (ac (du a b gr) af);refine r_z 2 ?_;refine r_c 5 (h) ?_;refine a_z ?_;exact aj (c_e (aO _))
theorem fs_Clo2(p:Lq×Lq)(a b:Rat)(gr:Int)(v:Rat)(h:FS 69 [.agg (spC a b++[i64 gr]),.arr (pE p.2)] (.agg (qC v))):FS 71 [.agg (prC p),bSz a b gr] (.agg (qC v)):=by
 refine f_n Tryz.func71 ?_ ?_;exact ac (aD (fT p)) (ac (du a b gr) af);refine r_z 2 ?_;refine r_c 5 (h) ?_;refine a_z ?_;exact aj (c_e (aO _))
end Go.Proofs.YtiodeiecpoopgaaGreatDoor
