/- Part W32 of the proof. -/
import Derived.Test.YtjkddcfoolilbaaGreatDoorW31
set_option linter.all false
namespace Go.Proofs.YtjkddcfoolilbaaGreatDoor
open Go.Abs
set_option maxRecDepth 20000
set_option maxHeartbeats 4000000
def backM(l:List (List Rat))(k:Nat):Option (List AV):=if k< l.length then some [i64 ((l.length- 1- k:Nat):Int),.arr (pE (l.getD (l.length- 1- k) []))] else none
def bM(l:List (List Rat)):AV:= .aptr [[.arr (mE l)]] 0 0
theorem b1_(l:List (List Rat)):Closed (bM l):=aM_ (aa_ (closed_mA l) ac_)
theorem mE_getD{l:List (List Rat)}{i:Nat}(h:i< l.length):(mE l)[i]?=some [.arr (pE (l.getD i []))]:=by
 refine oh_ ?_ i rfl;rw[List.getD_eq_getElem?_getD,List.getElem?_eq_getElem h];rfl
theorem gs_BackM(l:List (List Rat))(hl:l.length≤281474976710656):GSpec Tryz.prog 182 [bM l] (backM l):=by
 refine GSpec.enter Tryz.func182 rfl (by kernel_rfl) rfl rfl rfl ?_ ?_ rfl ?_;exact aa_ (b1_ l) ac_;intro k xs h;unfold backM at h;split at h;cases h;exact aa_ (ad_ _) (aa_ (ap_ _) ac_);cases h;intro ll N E;refine GWp.seq ?_;refine GWp.lift ?_;refine r_m 4 ?_;refine a_z ?_;refine GWp.block ?_;refine GWp.loopS (fun m:Nat=>⟨[(0,.v (.func (.yield ll) #[] #[])),(1,bM l),(3,i64 ((m:Int)- 1))],[],1,19⟩) (fun m=>l.length- m) (fun m=>m) (fun m=>m≤l.length) l.length (Nat.le_refl _) (by simp) ?_ ?_;have:=b1_ l;exact s_f [];intro m hm;refine GWp.seq ?_;refine GWp.seq ?_;refine GWp.lift ?_;refine r_m 2 ?_;refine a_z ?_;refine GWp.cond rfl (fun h=>?_) (fun h=>?_)
 ·refine GWp.skip ?_
  have hm1:1≤m:=by have:=of_decide_eq_true h;omega
  have hx':(mE l)[((m:Int)- 1).toNat]?=some [.arr (pE (l.getD (m- 1) []))]:=by rw[show((m:Int)- 1).toNat=m- 1 by omega];exact mE_getD (by omega)
  refine GWp.seq ?_;refine GWp.block ?_;refine GWp.seq ?_;refine GWp.regY (fr2:=[(0,.v (.func (.yield ll) #[] #[])),(1,bM l),(3,i64 ((m:Int)- 1)),(11,.v (.func (.yield ll) #[] #[])),(12,i64 ((m:Int)- 1)),(16,.arr (pE (l.getD (m- 1) [])))]) (hp2:=[]) (nx2:=1) 6 rfl rfl rfl rfl rfl rfl ?_ rfl rfl rfl ?_ ?_ ?_;refine o_0 (.move rfl) ?_;refine o_0 (.move rfl) ?_;refine az_ (.load_a1 rfl rfl TG.h rfl) rfl rfl ?_;refine o_0 (.move rfl) ?_;refine i_x hx' ?_;refine l_1 hx' ?_;refine ak_ ?_;have:=b1_ l;exact s_t [];rotate_left 2;intro go;refine o_0 (.un rfl cJ_) ?_;refine ak_ ?_;rotate_left;unfold backM;rw[if_pos (by omega)];have e1:((l.length- 1- (l.length- m):Nat):Int)=(m:Int)- 1:=by omega
  have e2:l.length- 1- (l.length- m)=m- 1:=by omega
  rw[e1,e2];rfl;exact aa_ (ad_ _) (aa_ (ap_ _) ac_);cases go with
  |false=>
   refine GWp.cond rfl (fun h=>?_) (fun h=>?_);exact GWp.ret ⟨.inr rfl,fun h=>by cases h⟩;cases h
  |true=>
   refine GWp.cond rfl (fun h=>?_) (fun h=>?_);cases h;refine GWp.skip ?_;refine GWp.lift ?_;refine r_m 3 ?_;refine a_z ?_;refine⟨rfl,m- 1,by omega,by omega,by omega,?_⟩;have:=b1_ l;exact s_f []
 refine GWp.exit ⟨.inl rfl,fun _=>?_⟩;have:m=0:=by have:=of_decide_eq_false h;omega
 subst this;unfold backM;rw[if_neg (by omega)]
theorem fs_BackM(l:List (List Rat)):FS 142 [.arr (mE l)] (.clos 182 [] [bM l]):=by
 refine f_c Tryz.func142 ?_;refine r_z 2 ?_;refine r_z 2 ?_;refine ag_ (⟨.inr rfl,[_],⟨_,[],rfl,rfl,rfl⟩,?_⟩);exact Cv.clos am_ (ae_ (Cv.boxp as_ rfl (fun _ _ h=>by cases h) rfl (aa_ (closed_mA l) ac_)) am_)
theorem ps_(p:List Rat)(hp:p.length≤1099511627776):FS 71 [.arr (pE p),.arr (mE [])] (.arr (pE (trimQ p))):=by
 have hb:=fs_BackM [];have hgs:=gs_BackM [] (by simp);have ht:=cf_ p hp;refine f_c Tryz.func71 ?_;refine r_z 2 ?_;refine ab_ (r_c 2 (hb) ?_);refine ak_ ?_;refine av_ (fun _:Unit=>⟨[(2,.lptr 1 0 0)],[(1,some ⟨33,1,[[.arr (pE p)]]⟩)],2,28⟩) (fun _=>True) ?_ ?_;refine af_ (AWp.rangeFunc (α:=Unit) (γ:=Empty) 0 (fun _=>⟨[(2,.lptr 1 0 0),(9,.clos 182 [] [bM []])],[(1,some ⟨33,1,[[.arr (pE p)]]⟩)],2,28⟩) (fun _=>0) (fun _=>True) (fun e=>nomatch e) (fun _ e=>nomatch e) () rfl hgs rfl rfl ?_ (fun _=>⟨rfl,rfl⟩) (fun e=>nomatch e) trivial rfl (fun _ _=>Nat.le_refl _) ?_ ?_ ?_ ?_ (fun _ e=>nomatch e));intro k xs hT;exact absurd hT (by unfold backM;simp);refine s_y [(1,2)] (fun hs=>?_) (fun hs=>?_)
 ·repeat' (first|exact aD_|refine an_ rfl ?_ ?_|exact ai_ hs (aE_ ac_ (aa_ (b1_ []) ac_))|exact au_c)
 ·repeat' (first|exact au_|refine h_c ?_ ?_|exact au_e|refine ar_ ?_|exact am_|refine ae_ ?_ ?_|exact ai_ hs (aE_ ac_ (aa_ (b1_ []) ac_))|exact au_c)
 exact aa_ (b1_ []) ac_;intro l k xs hk hT;exact absurd hT (by unfold backM;simp);intro k hk hT;refine⟨(),trivial,?_⟩;exact s_e [];rintro _ _;refine r_c 3 (ht) ?_;refine a_z ?_;exact ag_ (t_e (ap_ _))
def ixS(L:List Nat)(f:Nat):Nat→AState
 |i=>⟨[(0,.arr (lvE L)),(1,i64 f),(7,i64 L.length),(8,i64 i)],[],1,19⟩
theorem rX_(L:List Nat)(f:Nat)(hl:L.length≤1099511627776):FS 219 [.arr (lvE L),i64 f] (i64 (idxA (fun c:Nat=>((f:Int)==(c:Int))) L 0)):=by
 have hkl:(lvE L).length=L.length:=ei_ L;refine f_n Tryz.func219 ?_ ?_;exact aa_ (ax_ (co_ L)) (aa_ (ad_ _) ac_);obtain⟨R,hR⟩:∃R,R=idxA (fun c:Nat=>((f:Int)==(c:Int))) L 0:=⟨_,rfl⟩;rw[←hR];refine r_z 1 ?_;refine ab_ (r_z 3 ?_);refine av_ (fun _:Unit=>⟨[],[],1,19⟩) (fun _=>R= -1) ?_ ?_;refine af_ (aq_ (ixS L f) (fun i=>L.length- i) (fun i=>i≤L.length∧idxA (fun c:Nat=>((f:Int)==(c:Int))) (L.drop i) i=R) 0 ⟨Nat.zero_le _,by rw[hR];rfl⟩ ?_ ?_);simp only[ixS.eq_1];have:=(ax_ (co_ L));exact s_f [];rintro i ⟨hi,hr⟩;rw[ixS.eq_1];by_cases hlt:i< L.length;refine q_z 1 ?_;refine ab_ (cT (ah_ ?_));obtain⟨c,hc⟩:∃c,L[i]?=some c:=⟨_,List.getElem?_eq_getElem hlt⟩;have hgt:(lvE L)[((i:Nat):Int).toNat]?=some [i64 c]:=q7_ hc _ (by simp);rw[ni_ hc,idxA] at hr;refine ab_ (af_ (r_z 2 ?_));refine s_r 6 ?_;refine a_3 ?_;refine i_x hgt ?_;refine l_1 hgt ?_;refine a_z ?_;refine aj_ rfl (fun h1=>?_) (fun h1=>?_);rw[if_pos h1] at hr;refine r_z 2 ?_;refine ag_ (aH_ rfl ?_ ?_);rw[←hr];exact ad_ _;rw[if_neg (by rw[h1];decide)] at hr;refine ah_ (r_m 2 ?_);refine a_z ?_;refine⟨i+1,by omega,⟨hlt,hr⟩,?_⟩;simp only[ixS.eq_1];have:=(ax_ (co_ L));exact s_f [];have hge:i=L.length:=by omega
 subst hge;refine q_z 1 ?_;refine ab_ (cF ?_);rw[List.drop_length] at hr;refine ao_ ⟨(),hr.symm,?_⟩;exact s_e [];rintro _ hr;refine r_z 1 ?_;refine ag_ (aH_ rfl ?_ ?_);rw[hr];rfl;exact ad_ _
theorem hn_(f:Nat):∀L:List Nat,L.any (fun c:Nat=>((f:Int)==(c:Int)))=L.contains f
 |[]=>rfl
 |a::L=>by
  rw[List.any_cons,hn_ f L,List.contains_cons];refine congrArg (· ||L.contains f) ?_;cases hb:(f==a) with
  |true=>rw[eq_of_beq hb];exact beq_self_eq_true _
  |false=>
   have h1:¬f=a:=fun e=>by rw[e] at hb;simp at hb
   exact beq_eq_false_iff_ne.2 (by omega)
theorem l7_(L:List Nat)(f:Nat)(hl:L.length≤1099511627776):FS 181 [.arr (lvE L),i64 f] (bln (L.contains f)):=by
 have e:=hW_ (fun c:Nat=>((f:Int)==(c:Int))) L 0 (Int.le_refl 0);rw[hn_] at e;have hi:=rX_ L f hl;refine f_n Tryz.func181 ?_ ?_;exact aa_ (ax_ (co_ L)) (aa_ (ad_ _) ac_);refine r_z 1 ?_;refine r_c 5 (hi) ?_;refine a_z ?_;refine ag_ (aH_ rfl ?_ ?_);rw[←e];rfl;exact ad_ _
def z0S(A:Mx)(n:Nat)(L:List Nat):Nat→AState
 |f=>⟨[(1,bSy n A L),(3,.emp),(9,i64 n),(10,i64 f)],[],1,51⟩
theorem rs_(A:Mx)(n:Nat)(L:List Nat)(hn:n≤25)(hLn:L.length≤n)(hL:∀f,f< n→L.contains f=true):FS 141 [syV n (A,L)] (.arr (mE [])):=by
 refine f_n Tryz.func141 ?_ ?_;exact aa_ (de_ n A L) ac_;refine r_z 2 ?_;refine AWp.ent (st':=⟨[(1,bSy n A L)],[],1,51⟩) ?_ ?_;have:=b9_ n A L;exact s_f [];refine r_z 1 ?_;refine ab_ (r_z 3 ?_);refine av_ (fun _:Unit=>⟨[(3,.emp)],[],1,51⟩) (fun _=>True) ?_ ?_;refine af_ (aq_ (z0S A n L) (fun f=>n- f) (fun f=>f≤n) 0 (Nat.zero_le _) ?_ ?_);rw[z0S.eq_1];have:=bl_ n A L;exact s_f [];intro f hf;rw[z0S.eq_1];by_cases hlt:f< n;have hc:=l7_ L f (by omega);rw[hL f hlt] at hc;refine q_z 1 ?_;refine ab_ (cT (ah_ (ab_ (af_ (r_z 2 ?_)))));refine ab_ (r_c 4 (hc) ?_);refine ak_ ?_;refine cT (ao_ (r_m 2 ?_));refine a_z ?_;refine⟨f+1,by omega,by omega,?_⟩;rw[z0S.eq_1];have:=bl_ n A L;exact s_f [];refine q_z 1 ?_;refine ab_ (cF (ao_ ⟨(),trivial,?_⟩));exact s_e [];rintro _ _;refine r_z 2 ?_;exact ag_ (Fin.tmpN rfl)
theorem rI_(g:Nat)(bn:List AV)(hb:∀c∈bn,Closed c):FS 140 [.arr (mE []),.clos g bn []] (.arr (mE [])):=by
 have hcc:Closed (.clos g bn []):=aE_ hb ac_;refine f_c Tryz.func140 ?_;refine r_z 1 ?_;refine r_z 1 ?_;refine ab_ (r_z 3 ?_);refine av_ (fun _:Unit=>⟨[(5,.emp)],[],1,22⟩) (fun _=>True) ?_ ?_;refine af_ (aq_ (fun _:Unit=>⟨[(5,.emp),(9,i64 0),(10,i64 0)],[],1,22⟩) (fun _=>0) (fun _=>True) () trivial ?_ ?_);exact s_e [];rintro _ _;refine q_z 1 ?_;refine ab_ (cF (ao_ ⟨(),trivial,?_⟩));exact s_e [];rintro _ _;refine r_z 2 ?_;exact ag_ (Fin.tmpN rfl)
theorem m5_:FS 139 [.arr (mE [])] (.arr (mE [])):=by
 refine f_c Tryz.func139 ?_;refine r_z 1 ?_;refine r_z 1 ?_;refine ab_ (r_z 3 ?_);refine av_ (fun _:Unit=>⟨[(3,.emp)],[],1,49⟩) (fun _=>True) ?_ ?_;refine af_ (aq_ (fun _:Unit=>⟨[(3,.emp),(8,i64 0),(9,i64 0)],[],1,49⟩) (fun _=>0) (fun _=>True) () trivial ?_ ?_);exact s_e [];rintro _ _;refine q_z 1 ?_;refine ab_ (cF (ao_ ⟨(),trivial,?_⟩));exact s_e [];rintro _ _;refine r_z 2 ?_;exact ag_ (Fin.tmpN rfl)
theorem fs_free0(k:Ke)(l:Rat)(g:List Rat)(a b:Rat)(A:Mx)(n:Nat)(L:List Nat)(hz:FS 141 [syV n (A,L)] (.arr (mE []))):FS 70 [.agg (tkC k l g a b),syV n (A,L)] (.arr (mE [])):=by
 have h1:=rI_ 72 [.arr (kE k)] (aa_ (aA_ k) ac_);have h2:=m5_;refine f_n Tryz.func70 ?_ ?_;exact aa_ (aw_ (b8_ k l g a b)) (aa_ (de_ n A L) ac_);refine r_z 3 ?_;refine AWp.ent (st':=⟨[(2,bTk k l g a b),(3,bSy n A L)],[],1,13⟩) ?_ ?_;refine s_x [] (fun hs=>?_) (fun hs=>?_)
 ·repeat' (first|exact aD_|refine an_ rfl ?_ ?_|exact Cv.boxp hs rfl (aB_ rfl) rfl (b8_ k l g a b)|exact Cv.boxp hs rfl (aB_ rfl) rfl (b9_ n A L)|exact au_c)
 ·repeat' (first|exact au_|refine h_c ?_ ?_|exact au_e|refine ar_ ?_|exact am_|refine ae_ ?_ ?_|exact Cv.boxp hs rfl (aB_ rfl) rfl (b8_ k l g a b)|exact Cv.boxp hs rfl (aB_ rfl) rfl (b9_ n A L)|exact au_c)
 refine ab_ (r_d hmix 9 ?_);refine c_s (hz) ?_;refine c_s (h1) ?_;refine c_s (h2) ?_;refine a_1 ?_;refine ak_ (n_k ?_);exact ag_ (t_e (closed_mA _))
def syC1(k:Ke)(l:Rat)(g:List Rat)(a b:Rat):List Rat:=oneL (syM k l (rhK k g a b) a b).1 k.length (syM k l (rhK k g a b) a b).2
def syU(k:Ke)(l:Rat)(g:List Rat)(a b:Rat):List Rat:=addP g (bd_ (smK k (syC1 k l g a b) k.length) l)
structure OkTa (k:Ke)(l:Rat)(g:List Rat)(a b:Rat)(s:Nat):Prop where
 ke:okKe k
 ha:sm a
 hb:sm b
 ab:a≤b
 dg:degP g≤20
 gl:g.length≤1099511627776
 sy:OkSy k l a b s
 rh:∀p∈k,okMul p.2 g∧OkIn (mulP p.2 g) a b∧qs (inQ (mulP p.2 g) a b)≤s
structure OkSu (k:Ke)(l:Rat)(g:List Rat)(a b:Rat):Prop where
 ms:∀i p,k[i]?=some p→OkSm k (syC1 k l g a b) i p
 u1:smL (smK k (syC1 k l g a b) k.length)
 u2:(smK k (syC1 k l g a b) k.length).length≤1099511627776
 sl:sm l
 sg:smL g
 v1:smL (bd_ (smK k (syC1 k l g a b) k.length) l)
 v2:(bd_ (smK k (syC1 k l g a b) k.length) l).length≤1099511627776
theorem OkTa.none{k:Ke}{l:Rat}{g:List Rat}{a b:Rat}{s:Nat}(h:OkTa k l g a b s):FS 69 [syV k.length (syM k l (rhK k g a b) a b)] (bln (noneB k.length (syM k l (rhK k g a b) a b).1 (syM k l (rhK k g a b) a b).2)):=
 fs_noneS (syM k l (rhK k g a b) a b).1 k.length (syM k l (rhK k g a b) a b).2 (da_ _ _ _).len (by have:=h.ke.1;omega)
theorem rO_(k:Ke)(l:Rat)(g:List Rat)(a b:Rat)(s:Nat)(h:OkTa k l g a b s)(h2:OkSu k l g a b)(hL:∀f,f< k.length→(syM k l (rhK k g a b) a b).2.contains f=true)(hN:noneB k.length (syM k l (rhK k g a b) a b).1 (syM k l (rhK k g a b) a b).2=false)(hu:(syU k l g a b).length≤1099511627776):
    FS 20 [.agg (eqC k l g),.agg (spC a b)] (.tup [.arr (pE (trimQ (syU k l g a b))),.arr (mE []),i64 0]):=by
 have hl8:=h.ke.1;have hw:=d5_ k l g a b h.ke h.ha h.hb h.ab h.dg h.gl;have hs:=iQ_ k l g a b s h.sy h.rh;have hn:=h.none;rw[hN] at hn;have hz:=rs_ (syM k l (rhK k g a b) a b).1 k.length (syM k l (rhK k g a b) a b).2 (by omega) (da_ _ _ _).len hL;have hf:=fs_free0 k l g a b _ _ _ hz;have ho:=kF_ (syM k l (rhK k g a b) a b).1 k.length (syM k l (rhK k g a b) a b).2 (da_ _ _ _) (by omega);have hsu:=rG_ k (syC1 k l g a b) (by unfold syC1;simp) (by omega) h2.ms;have hsc:=d7_ _ l h2.u1 h2.sl h2.u2;have had:=i0_ g _ h2.sg h2.v1 h.gl h2.v2;have hre:=ps_ (syU k l g a b) hu;refine f_n Tryz.func20 ?_ ?_;exact aa_ (aw_ (bv_ k l g)) (aa_ (aw_ (a4_ a b)) ac_);refine r_z 5 ?_;refine r_z 5 ?_;refine AWp.ent (st':=⟨[(7,bTk k l g a b)],[],1,38⟩) ?_ ?_;have:=b8_ k l g a b;exact s_f [];refine ab_ (r_c 2 (hw) ?_);refine ak_ ?_;refine cF (ah_ (r_c 4 (hs) ?_));refine a_z ?_;refine AWp.ent (st':=⟨[(7,bTk k l g a b),(8,bSy k.length (syM k l (rhK k g a b) a b).1 (syM k l (rhK k g a b) a b).2)],[],1,38⟩) ?_ ?_;exact s_x [] (fun hs=>e_46) (fun hs=>e_47);refine ab_ (r_c 2 (hn) ?_);refine ak_ ?_;refine cF (ah_ (r_c 4 (hf) ?_));refine a_z ?_;refine ab_ (r_d hmix 20 ?_);refine c_s (ho) ?_;refine c_s (hsu) ?_;refine c_s (hsc) ?_;refine c_s (had) ?_;refine c_s (hre) ?_;refine a_4 ?_;refine ak_ (n_k ?_);refine ag_ (Fin.many ⟨_,_,rfl,rfl,⟨_,_,rfl,rfl,⟨_,_,rfl,rfl,rfl⟩⟩⟩ (nle rfl) ?_);exact ae_ (ai_ as_ (ap_ _)) (ae_ (ai_ as_ (closed_mA _)) (ae_ (ai_ as_ (ad_ _)) am_))
theorem rN_(k:Ke)(l:Rat)(g:List Rat)(a b:Rat)(s:Nat)(h:OkTa k l g a b s)(hN:noneB k.length (syM k l (rhK k g a b) a b).1 (syM k l (rhK k g a b) a b).2=true):
    FS 20 [.agg (eqC k l g),.agg (spC a b)] (.tup [.arr (pE []),.arr (mE []),i64 12]):=by
 have hl8:=h.ke.1;have hw:=d5_ k l g a b h.ke h.ha h.hb h.ab h.dg h.gl;have hs:=iQ_ k l g a b s h.sy h.rh;have hn:=h.none;rw[hN] at hn;refine f_n Tryz.func20 ?_ ?_;exact aa_ (aw_ (bv_ k l g)) (aa_ (aw_ (a4_ a b)) ac_);refine r_z 5 ?_;refine r_z 5 ?_;refine AWp.ent (st':=⟨[(7,bTk k l g a b)],[],1,38⟩) ?_ ?_;have:=b8_ k l g a b;exact s_f [];refine ab_ (r_c 2 (hw) ?_);refine ak_ ?_;refine cF (ah_ (r_c 4 (hs) ?_));refine a_z ?_;refine AWp.ent (st':=⟨[(7,bTk k l g a b),(8,bSy k.length (syM k l (rhK k g a b) a b).1 (syM k l (rhK k g a b) a b).2)],[],1,38⟩) ?_ ?_;exact s_x [] (fun hs=>e_46) (fun hs=>e_47);refine ab_ (r_c 2 (hn) ?_);refine ak_ ?_;refine cT (r_z 3 ?_);refine ag_ (Fin.many ⟨_,_,rfl,rfl,⟨_,_,rfl,rfl,⟨_,_,rfl,rfl,rfl⟩⟩⟩ (nle rfl) ?_);exact ae_ (Cv.emp _) (ae_ (Cv.emp _) (ae_ (ai_ as_ (ad_ _)) am_))
def sqR(n:Nat)(A:Mx):List (List Rat):=(List.range n).map fun k=>tabP n (A k)
@[simp] theorem sqR_length (n:Nat)(A:Mx):(sqR n A).length=n:=by simp[sqR]
theorem sqR_get{n i:Nat}{A:Mx}(h:i< n):(sqR n A)[i]?=some (tabP n (A i)):=by simp[sqR,h]
theorem r8_(n:Nat)(A:Mx):(fiL A n n).map (fun e=>([.arr e]:List AV))=mE (sqR n A):=by
 rw[fiL_rwL,rwL_mE];rfl
theorem pv_(k:Ke)(a b:Rat)(h:OkMa k a b):FS 97 [.arr (kE k),.agg (spC a b)] (.arr (mE (sqR k.length (maK k a b)))):=by
 have:=(ic_ k a b h).shut rfl (aa_ (aA_ k) (aa_ (aw_ (a4_ a b)) ac_))
  (Cv.mzShut (r:=⟨0,fun i=>i⟩) (show(3:Nat)≠0 by decide) as_ (fun _=>rfl) (fm_ _ _ _).symm (fun i e h=>by have:=(hj_ h).2;subst this;simp[pE]) fun e he x hx c hc=>by
   obtain⟨k,_,rfl⟩:=List.mem_map.1 he;exact aG_ _ x hx c hc) (by rw[r8_];exact closed_mA _)
 rw[r8_] at this;exact this
def trQ(A:Mx)(i:Nat):Rat:=sQ (fun t=>A t t) i
def tcS(pM:Nat→Mx)(n ll j:Nat):Nat→AState
 |i=>⟨[(0,.v (.func (.yield ll) #[] #[])),(1,bM (sqR n (pM 0))),(3,.arr (mE (sqR n (pM j)))),(4,.lptr 1 0 0),(11,i64 n),(12,i64 i)],[(1,some ⟨46,3,[qC (trQ (pM j) i)]⟩)],2,29⟩
theorem ro_(pM:Nat→Mx)(n K:Nat)(hn:n≤25)(hs:∀j,j≤K→∀i,i< n→qs (trQ (pM j) i)+qs (pM j i i)≤549755813888)(hmul:∀j,j< K→FS 186 [.arr (mE (sqR n (pM j))),.arr (mE (sqR n (pM 0)))] (.arr (mE (sqR n (pM (j+1)))))):
    GSpecB Tryz.prog 185 [bM (sqR n (pM 0))] (fun j=>some [.agg (qC (trQ (pM j) n))]) K:=by
 refine GSpecB.enter Tryz.func185 rfl (by kernel_rfl) rfl rfl rfl ?_ ?_ rfl ?_;exact aa_ (b1_ _) ac_;intro j xs h;cases h;exact aa_ (aC_ _) ac_;intro ll N hN E;refine GWp.seq ?_;refine GWp.lift ?_;refine r_m 2 ?_;refine a_z ?_;refine GWp.block ?_;refine GWp.loopS (fun j:Nat=>⟨[(0,.v (.func (.yield ll) #[] #[])),(1,bM (sqR n (pM 0))),(3,.arr (mE (sqR n (pM j))))],[],1,29⟩) (fun j=>j) (fun j=>N+1- j) (fun j=>j≤N) 0 (Nat.zero_le _) rfl ?_ ?_;exact s_x [] (fun hs=>e_6) (fun hs=>e_10);intro j hj;have hml:(mE (sqR n (pM j))).length=n:=by simp
 refine GWp.seq ?_;refine GWp.block ?_;refine GWp.seq ?_;refine GWp.lift ?_;refine r_m 1 ?_;refine a_z ?_;refine GWp.seq ?_;refine GWp.seq ?_;refine GWp.lift ?_;refine r_m 3 ?_;refine a_z ?_;refine GWp.cutT (fun _:Unit=>tcS pM n ll j n) (fun _=>True) ?_ ?_;refine af_ (aq_ (tcS pM n ll j) (fun i=>n- i) (fun i=>i≤n) 0 (Nat.zero_le _) ?_ ?_);rw[tcS.eq_1];refine s_x [(1,4)] (fun hs=>e_6) (fun hs=>?_)
 ·repeat' (first|exact au_|refine h_c ?_ ?_|exact CvLL.zeros hs 1|exact au_e|refine ar_ ?_|exact am_|refine ae_ ?_ ?_|exact ai_ hs (b1_ _)|exact ai_ hs (closed_mA _)|exact au_c)
 intro i hi;rw[tcS.eq_1];by_cases hlt:i< n;have hrow:(mE (sqR n (pM j)))[((i:Nat):Int).toNat]?=some [.arr (pE (tabP n (pM j i)))]:=oh_ (sqR_get hlt) _ (by simp);have hval:(pE (tabP n (pM j i)))[((i:Nat):Int).toNat]?=some (qC (pM j i i)):=dc_ hlt _ (by simp);have hpl:(pE (tabP n (pM j i))).length=n:=by simp[pE]
 have had:=c6_ (trQ (pM j) i) (pM j i i) (hs j (by omega) i hlt);refine q_z 1 ?_;refine ab_ (cT (ah_ (ab_ (af_ (r_z 2 ?_)))));refine r_d hmix 10 ?_;refine a_3 ?_;refine i_x hrow ?_;refine l_1 hrow ?_;refine a_1 ?_;refine i_x hval ?_;refine l_x hval ?_;refine c_s (had) ?_;refine a_1 ?_;refine ak_ (n_k ?_);refine r_m 2 ?_;refine a_z ?_;refine⟨i+1,by omega,by omega,?_⟩;rw[tcS.eq_1];exact s_x [] (fun hs=>e_6) (fun hs=>e_10);have hge:i=n:=by omega
 subst hge;refine q_z 1 ?_;refine ab_ (cF (ao_ ⟨(),trivial,?_⟩));exact s_x [] (fun hs=>e_6) (fun hs=>e_10);rintro _ _;rw[tcS.eq_1];refine GWp.seq ?_;refine GWp.regY (fr2:=[(0,.v (.func (.yield ll) #[] #[])),(1,bM (sqR n (pM 0))),(3,.arr (mE (sqR n (pM j)))),(25,.v (.func (.yield ll) #[] #[])),(26,.agg (qC (trQ (pM j) n)))]) (hp2:=[]) (nx2:=1) 2 rfl rfl rfl rfl rfl rfl ?_ rfl rfl rfl ?_ ?_ ?_;refine o_0 (.move rfl) ?_;refine az_ (.load_l rfl rfl rfl TG.h TS.h (nle rfl)) rfl rfl ?_;refine ak_ ?_;exact s_y [] (fun hs=>e_6) (fun hs=>e_10);rotate_left 2;intro go;refine o_0 (.un rfl cJ_) ?_;refine ak_ ?_;rotate_left;rfl;exact aa_ (aC_ _) ac_;cases go with
 |false=>
  refine GWp.cond rfl (fun h=>?_) (fun h=>?_);exact GWp.ret ⟨.inr rfl,fun h=>by cases h⟩;cases h
 |true=>
  refine GWp.bound fun hk1=>?_;refine GWp.cond rfl (fun h=>?_) (fun h=>?_);cases h;refine GWp.skip ?_;refine GWp.lift ?_;refine r_m 4 ?_;refine c_s (hmul j (by omega)) ?_;refine a_z ?_;refine⟨rfl,j+1,by omega,hk1,rfl,?_⟩;exact s_x [] (fun hs=>e_6) (fun hs=>e_10)
theorem rx_(l:List (List Rat)):FS 152 [.arr (mE l)] (.clos 185 [] [bM l]):=by
 refine f_c Tryz.func152 ?_;refine r_z 2 ?_;refine r_z 2 ?_;refine ag_ (⟨.inr rfl,[_],⟨_,[],rfl,rfl,rfl⟩,?_⟩);exact Cv.clos am_ (ae_ (Cv.boxp as_ rfl (fun _ _ h=>by cases h) rfl (aa_ (closed_mA l) ac_)) am_)
def dtS(k:Ke)(M:List (List Rat)):Unit→AState
 |u=>⟨[(2,bKe k),(5,.lptr 1 0 0),(6,.lptr 2 0 0),(20,.clos 185 [] [bM M])],[(1,some ⟨33,1,[[.lsl 3 0 1 none 3]]⟩),(2,some ⟨32,1,[[.emp]]⟩),(3,some ⟨46,3,[qC ((1:Int):Rat)]⟩)],4,60⟩
theorem dtS_mk(k:Ke)(M:List (List Rat))(u:Unit):dtS k M u=⟨[(2,bKe k),(5,.lptr 1 0 0),(6,.lptr 2 0 0),(20,.clos 185 [] [bM M])],[(1,some ⟨33,1,[[.lsl 3 0 1 none 3]]⟩),(2,some ⟨32,1,[[.emp]]⟩),(3,some ⟨46,3,[qC ((1:Int):Rat)]⟩)],4,60⟩:=rfl
def dtX(c:Rat):Unit→AState
 |u=>⟨[(5,.lptr 1 0 0)],[(1,some ⟨33,1,[[.lsl 3 0 2 none 3]]⟩),(3,some ⟨46,3,[qC ((1:Int):Rat),qC c]⟩)],4,60⟩
def dtI(k:Ke)(t:Rat)(w:Nat→Rat)(i:Nat):AState:=⟨[(2,bKe k),(5,.lptr 1 0 0),(6,.lptr 2 0 0),(8,i64 1),(9,.lptr 5 0 0),(28,.lsl 4 0 1 none 3),(29,i64 1),(30,i64 i),(1005,.lptr 1 0 0)],[(1,some ⟨33,1,[[.lsl 3 0 1 none 3]]⟩),(2,some ⟨32,1,[[.lsl 4 0 1 none 3]]⟩),(3,some ⟨46,3,[qC ((1:Int):Rat)]⟩),(4,some ⟨46,3,[qC t]⟩),(5,some ⟨46,3,[qC (w i)]⟩)],6,60⟩
def dtC(t:Rat):Nat→Rat
 |0=>0
 |_+1=>0- t* ((1:Int):Rat)
def deV(t:Rat):List Rat:=[((1:Int):Rat),dtC t 1/ ((1:Int):Rat)]
theorem fs_det1(p:List Rat×List Rat)(a b:Rat)(h:OkMa [p] a b)(hs:qs (maK [p] a b 0 0)≤100000000000):
    FS 92 [.arr (kE [p]),.agg (spC a b)] (.arr (pE (trimQ (deV (trQ (maK [p] a b) 1))))):=by
 have i1:=cV_ 1 (by decide);have hm:=pv_ [p] a b h;obtain⟨A,hA⟩:∃A,A=maK [p] a b:=⟨_,rfl⟩;rw[←hA] at hm hs⊢;have hq1:qs ((1:Int):Rat)≤1:=by decide
 have hgs:=ro_ (fun _=>A) 1 0 (by omega) (fun j hj i hi=>by
  obtain rfl:i=0:=by omega
  show qs (0:Rat)+qs (A 0 0)≤_;have:qs (0:Rat)≤1:=by decide
  omega) (fun j hj=>by omega)
 have htr:=rx_ (sqR 1 A);obtain⟨t,ht⟩:∃t,t=trQ A 1:=⟨_,rfl⟩
 have hqt:qs t≤100000000002:=by
  rw[ht];show qs (0+A 0 0)≤_;have:=fD_ 0 (A 0 0);have:qs (0:Rat)≤1:=by decide
  omega
 simp only[←ht] at hgs⊢;have hmu:=bE_ t ((1:Int):Rat) (by omega)
 have hsu:=gm_ 0 (t* ((1:Int):Rat)) (by have:=bH_ t ((1:Int):Rat);have:qs (0:Rat)≤1:=by decide
                                        omega)
 have hov:=kH_ (dtC t 1) ((1:Int):Rat) (by decide) (by
  have h1:=nX_ 0 (t* ((1:Int):Rat));have h2:=bH_ t ((1:Int):Rat);have h3:qs (0:Rat)≤1:=by decide
  show qs (0- t* ((1:Int):Rat))+_≤_;omega)
 have hti:=cf_ (deV t) (by simp[deV]);refine f_n Tryz.func92 ?_ ?_;exact aa_ (aA_ [p]) (aa_ (aw_ (a4_ a b)) ac_);refine r_z 3 ?_;refine AWp.ent (st':=⟨[(2,bKe [p]),(3,bSp a b)],[],1,60⟩) ?_ ?_;refine s_x [] (fun hs=>?_) (fun hs=>?_)
 ·repeat' (first|exact aD_|refine an_ rfl ?_ ?_|exact Cv.boxp hs rfl (aB_ rfl) rfl (aa_ (aA_ [p]) ac_)|exact Cv.boxp hs rfl (aB_ rfl) rfl (a4_ a b)|exact au_c)
 ·repeat' (first|exact au_|refine h_c ?_ ?_|exact au_e|refine ar_ ?_|exact am_|refine ae_ ?_ ?_|exact Cv.boxp hs rfl (aB_ rfl) rfl (aa_ (aA_ [p]) ac_)|exact Cv.boxp hs rfl (aB_ rfl) rfl (a4_ a b)|exact au_c)
 refine r_c 4 (i1) ?_;refine a_z ?_;refine r_z 1 ?_;refine ab_ (s_r 3 ?_);refine a_2 ?_;refine o_0 (.bin rfl rfl (vT a3_ (rfl))) ?_;refine ak_ ?_;refine av_ (fun _:Unit=>dtX (dtC t 1/ ((1:Int):Rat)) ()) (fun _=>True) ?_ ?_;refine cT (r_c 4 (hm) ?_);refine c_s (htr) ?_;refine ak_ ?_;refine af_ (AWp.rangeFuncB (α:=Unit) (γ:=Unit) 0 (dtS [p] (sqR 1 A)) (fun _=>0) (fun _=>True) (dtX (dtC t 1/ ((1:Int):Rat))) (fun e _=>e= .exit 0) () rfl hgs rfl rfl ?_ (fun _=>⟨rfl,rfl⟩) (fun _=>rfl) trivial rfl (fun _ _=>Nat.le_refl _) ?_ ?_ ?_ ?_ ?_);intro j xs hT;cases hT;rfl;rw[dtS_mk];refine s_y [(1,5),(2,6),(3,13)] (fun hs=>?_) (fun hs=>?_)
 ·repeat' (first|exact aD_|refine an_ rfl ?_ ?_|exact ai_ hs (cH_ [p])|exact ai_ hs (aE_ ac_ (aa_ (b1_ _) ac_))|exact au_c)
 ·repeat' (first|exact au_|refine h_c ?_ ?_|exact au_e|refine ar_ ?_|exact am_|refine ae_ ?_ ?_|exact ai_ hs (cH_ [p])|exact ai_ hs (aE_ ac_ (aa_ (b1_ _) ac_))|exact au_c)
 exact aa_ (b1_ _) ac_
 ·intro ll j xs hj hT
  cases hT;show AWp _ _ _ _ ⟨[(21,.agg (qC t)),(2,bKe [p]),(5,.lptr 1 0 0),(6,.lptr 2 0 0),(20,.clos 185 [] [bM (sqR 1 A)]),(1002,bKe [p]),(1005,.lptr 1 0 0),(1006,.lptr 2 0 0),(1020,.clos 185 [] [bM (sqR 1 A)])],[(1,some ⟨33,1,[[.lsl 3 0 1 none 3]]⟩),(2,some ⟨32,1,[[.emp]]⟩),(3,some ⟨46,3,[qC ((1:Int):Rat)]⟩)],4,60⟩;refine r_m 2 ?_;refine a_z ?_;refine af_ (s_r 5 ?_);refine a_3 ?_;refine AR.op1 (.append_e rfl rfl rfl te_32.h rfl rfl rfl (.lsl rfl (nle rfl)) (by first|assumption|(simp;done)) TZ.h rfl TB.h d_o (by first|(simp[maxLen];done)|(simp[maxLen];omega))) rfl rfl ?_;refine a_z ?_;refine r_z 3 ?_;refine r_z 1 ?_;refine ab_ (r_z 3 ?_);refine av_ (fun _:Unit=>dtI [p] t (dtC t) 1) (fun _=>True) ?_ ?_;refine af_ (aq_ (dtI [p] t (dtC t)) (fun i=>1- i) (fun i=>i≤1) 0 (Nat.zero_le _) ?_ ?_);rw[dtI.eq_1];refine s_z [(1,5),(2,6),(3,100003),(4,28),(5,9)] (fun hs=>e_18) (fun hs=>?_)
  ·repeat' (first|exact au_|refine h_c ?_ ?_|exact CvLL.zeros hs 1|exact au_e|refine ar_ ?_|exact am_|refine ae_ ?_ ?_|exact ai_ hs (cH_ [p])|exact au_c)
  intro i hi;by_cases h1:i< 1;obtain rfl:i=0:=by omega
  rw[dtI.eq_1];refine s_r 1 ?_;refine o_0 (.bin rfl rfl (vT aT_ (rfl))) ?_;refine ak_ ?_;refine ab_ (cT (ah_ (ab_ (af_ (r_z 6 ?_)))));refine r_d hmix 12 ?_;refine c_s (hmu) ?_;refine c_s (hsu) ?_;refine a_1 ?_;refine ak_ (n_k ?_);refine r_m 2 ?_;refine a_z ?_;refine⟨1,by omega,by omega,?_⟩;rw[dtI.eq_1];exact s_z [(1,5),(2,6),(3,100003),(4,28),(5,9)] (fun hs=>e_18) (fun hs=>e_48);obtain rfl:i=1:=by omega
  rw[dtI.eq_1];refine s_r 1 ?_;refine o_0 (.bin rfl rfl (vF aT_ (rfl))) ?_;refine ak_ ?_;refine ab_ (cF (ao_ ⟨(),trivial,?_⟩));exact s_z [(1,5),(2,6),(3,100003),(4,28),(5,9)] (fun hs=>e_18) (fun hs=>e_48);rintro _ _;rw[dtI.eq_1];refine ab_ (r_d hmix 8 ?_);refine c_s (i1) ?_;refine c_s (hov) ?_;refine a_3 ?_;refine ak_ (n_k ?_);refine s_r 4 ?_;refine a_3 ?_;refine o_0 (.bin rfl rfl (vT aS_ (rfl))) ?_;refine ak_ ?_;refine cT (ao_ (⟨rfl,(),rfl,?_⟩));show SEntT _ ⟨[(1005,.lptr 1 0 0)],[(1,some ⟨33,1,[[.lsl 3 0 2 none 3]]⟩),(3,some ⟨46,3,[qC ((1:Int):Rat),qC (dtC t 1/ ((1:Int):Rat))]⟩)],4,60⟩;have:=(aG_ [((1:Int):Rat),dtC t 1/ ((1:Int):Rat)]);exact s_t [(1,5),(3,53)]
 intro j hj hT;cases hT;rintro e u rfl;exact⟨u,trivial,SEnt.refl _⟩;rintro _ _;rw[dtX.eq_1];refine s_r 3 ?_;refine a_1 ?_;refine o_1 (.callS1 rfl rfl rfl (.shut rfl d_n (.nil)) rfl (hti)) ?_;refine a_z ?_;exact ag_ (t_e (ap_ _))
theorem fs_Det1(p:List Rat×List Rat)(a b:Rat)(hke:okKe [p])(ha:sm a)(hb:sm b)(hab:a≤b)(h:OkMa [p] a b)(hs:qs (maK [p] a b 0 0)≤100000000000):
    FS 34 [.arr (kE [p]),.agg (spC a b)] (.tup [.arr (pE (trimQ (deV (trQ (maK [p] a b) 1)))),i64 0]):=by
 have hw:=iP_ [p] a b hke ha hb hab;have hd:=fs_det1 p a b h hs;refine f_n Tryz.func34 ?_ ?_;exact aa_ (aA_ [p]) (aa_ (aw_ (a4_ a b)) ac_);refine r_z 3 ?_;refine ab_ (r_c 3 (hw) ?_);refine ak_ ?_;refine cF (ah_ (r_c 5 (hd) ?_));refine a_z ?_;refine ag_ (Fin.many ⟨_,_,rfl,rfl,⟨_,_,rfl,rfl,rfl⟩⟩ (nle rfl) ?_);exact ae_ (ai_ as_ (ap_ _)) (ae_ (ai_ as_ (ad_ _)) am_)
theorem on_(p:List Rat)(lo hi:Rat)(gr:Int)(v:Sp)(hR:FS 154 [.arr (pE p),.agg (spC lo hi),i64 gr] (.tup [.agg (spC v.1 v.2),i64 0]))(h1:sm v.1)(h2:sm v.2):FS 94 [.agg (spC lo hi++[i64 gr]),.arr (pE p)] (.agg (qC (absH v))):=by
 have hcl:∀c∈spC lo hi++[i64 gr],Closed c:=fun c hc=>(List.mem_append.1 hc).elim (a4_ lo hi c) (aa_ (ad_ _) ac_ c);refine f_c Tryz.func94 ?_;refine r_z 2 ?_;refine r_c 12 (hR) ?_;refine a_z ?_;refine r_c 4 (fs_SAbs v h1 h2) ?_;refine a_z ?_;exact ag_ (c_e (aC_ _))
def szC(a b:Rat)(gr:Int):AV:= .clos 94 [.agg (spC a b++[i64 gr])] []
theorem g5_(a b:Rat)(gr:Int):Closed (szC a b gr):=aE_ (aa_ (aw_ fun c hc=>(List.mem_append.1 hc).elim (a4_ a b c) (aa_ (ad_ _) ac_ c)) ac_) ac_
def bSz(a b:Rat)(gr:Int):AV:= .aptr [[szC a b gr]] 0 0
theorem bI_(a b:Rat)(gr:Int):Closed (bSz a b gr):=aM_ (aa_ (g5_ a b gr) ac_)
theorem fs_Clo1(p:List Rat×List Rat)(a b:Rat)(gr:Int)(v:Rat)(h:FS 94 [.agg (spC a b++[i64 gr]),.arr (pE p.1)] (.agg (qC v))):FS 95 [.agg (prC p),bSz a b gr] (.agg (qC v)):=by
 refine f_n Tryz.func95 ?_ ?_;exact aa_ (aw_ (dg_ p)) (aa_ (bI_ a b gr) ac_);refine r_z 2 ?_;refine r_c 5 (h) ?_;refine a_z ?_;exact ag_ (c_e (aC_ _))
theorem fs_Clo2(p:List Rat×List Rat)(a b:Rat)(gr:Int)(v:Rat)(h:FS 94 [.agg (spC a b++[i64 gr]),.arr (pE p.2)] (.agg (qC v))):FS 96 [.agg (prC p),bSz a b gr] (.agg (qC v)):=by
 refine f_n Tryz.func96 ?_ ?_;exact aa_ (aw_ (dg_ p)) (aa_ (bI_ a b gr) ac_);refine r_z 2 ?_;refine r_c 5 (h) ?_;refine a_z ?_;exact ag_ (c_e (aC_ _))
abbrev q1I:Rat:=((1:Int):Rat)
def clL(p:List Rat×List Rat)(l a b:Rat):List Rat:=oneL (syM [p] l [q1I] a b).1 1 (syM [p] l [q1I] a b).2
def clC(p:List Rat×List Rat)(l a b:Rat):Rat:=coP (clL p l a b) 0
def clS1(p:List Rat×List Rat)(l a b vA vB:Rat):Rat:=0+vA* absQ (clC p l a b) * vB
def clW(l a b:Rat):Rat:=absQ l* (b- a)
def clB(p:List Rat×List Rat)(l a b vA vB:Rat):Rat:=q1I+clW l a b* clS1 p l a b vA vB
def clSh(p:List Rat×List Rat)(l a b vA vB ep:Rat):Rat:=clW l a b* ep* clB p l a b vA vB
def clRe(p:List Rat×List Rat)(l a b vA vB ep:Rat):Rat:=q1I- clSh p l a b vA vB ep
def clRa(p:List Rat×List Rat)(l a b vA vB ep de vU:Rat):Rat:=clB p l a b vA vB* (de+clW l a b* ep* vU) / clRe p l a b vA vB ep
def mxQ:Nat:=549755813888
structure OkCl (p:List Rat×List Rat)(l:Rat)(g:List Rat)(a b ep de vA vB vU:Rat):Prop where
 e0:0≤ep
 d0:0≤de
 q1:qs vA+qs (absQ (clC p l a b))≤mxQ
 q2:qs (vA* absQ (clC p l a b))+qs vB≤mxQ
 q3:qs 0+qs (vA* absQ (clC p l a b) * vB)≤mxQ
 q4:qs (absQ l)+qs (b- a)≤mxQ
 q5:qs (clW l a b)+qs (clS1 p l a b vA vB)≤mxQ
 q6:qs q1I+qs (clW l a b* clS1 p l a b vA vB)≤mxQ
 q7:qs (clW l a b)+qs ep≤mxQ
 q8:qs (clW l a b* ep)+qs (clB p l a b vA vB)≤mxQ
 q9:qs q1I+qs (clSh p l a b vA vB ep)≤mxQ
 r0:0< clRe p l a b vA vB ep
 qa:qs (clW l a b* ep)+qs vU≤mxQ
 qb:qs de+qs (clW l a b* ep* vU)≤mxQ
 qc:qs (clB p l a b vA vB)+qs (de+clW l a b* ep* vU)≤mxQ
 qd:qs (clB p l a b vA vB* (de+clW l a b* ep* vU))+qs (clRe p l a b vA vB ep)≤mxQ
def neC(U:List Rat)(bo sh ra:Rat):List AV:= .arr (pE U)::(qC bo++(qC sh++qC ra))
theorem dK_(U:List Rat)(bo sh ra:Rat):∀c∈neC U bo sh ra,Closed c:=aa_ (ap_ U) (bG_ (aN_ bo) (bG_ (aN_ sh) (aN_ ra)))
def nC1(U:List Rat)(bo:Rat):List AV:= .arr (pE U)::(qC bo++(zC++zC))
theorem pR_(U:List Rat)(bo:Rat):∀e∈[nC1 U bo],∀c∈e,Closed c:=fun e he=>by
 rw[List.mem_singleton.1 he];exact aa_ (ap_ U) (bG_ (aN_ bo) (bG_ gw_ gw_))
def nC2(U:List Rat)(bo sh:Rat):List AV:= .arr (pE U)::(qC bo++(qC sh++zC))
theorem pQ_(U:List Rat)(bo sh:Rat):∀e∈[nC2 U bo sh],∀c∈e,Closed c:=fun e he=>by
 rw[List.mem_singleton.1 he];exact aa_ (ap_ U) (bG_ (aN_ bo) (bG_ (aN_ sh) gw_))
def zNe:List AV:=[.emp,.emp,bln false,.emp,.emp,bln false,.emp,.emp,bln false,.emp]
def clV(x y:Rat):Nat→Rat
 |0=>x
 |_+1=>y
def clO(p:List Rat×List Rat)(l:Rat)(g:List Rat)(a b ep de vA vB:Rat)(gr:Int)(A:Mx)(L:List Nat):Nat→AState
 |j=>⟨[(6,bSp a b),(7,bQ ep),(8,bQ de),(10,.lptr 1 0 0),(12,bTk [p] l g a b),(13,bSy 1 A L),(14,bSz a b gr),(15,.arr (pE [vA])),(16,.arr (pE [vB])),(17,.lptr 2 0 0),(67,i64 1),(68,i64 j)],[(1,some ⟨106,10,[zNe]⟩),(2,some ⟨46,3,[qC (clV 0 (clS1 p l a b vA vB) j)]⟩)],3,172⟩
def clI(p:List Rat×List Rat)(l:Rat)(g:List Rat)(a b ep de vA vB:Rat)(gr:Int)(A:Mx)(L:List Nat):Nat→AState
 |i=>⟨[(6,bSp a b),(7,bQ ep),(8,bQ de),(10,.lptr 1 0 0),(12,bTk [p] l g a b),(13,bSy 1 A L),(14,bSz a b gr),(15,.arr (pE [vA])),(16,.arr (pE [vB])),(17,.lptr 2 0 0),(67,i64 1),(68,i64 0),(18,i64 0),(90,.arr (pE (clL p l a b))),(91,i64 1),(92,i64 i)],[(1,some ⟨106,10,[zNe]⟩),(2,some ⟨46,3,[qC (clV 0 (clS1 p l a b vA vB) i)]⟩)],3,172⟩
theorem rZ_ (p:List Rat×List Rat) (l:Rat) (g:List Rat) (a b ep de vA vB vU:Rat) (gr:Int) (s:Nat) (h:OkTa [p] l g a b s) (h2:OkSu [p] l g a b) (hs1:1≤s) (hL:(syM [p] l (rhK [p] g a b) a b).2.length=1) (ok:OkCl p l g a b ep de vA vB vU)
    (hzA:FS 94 [.agg (spC a b++[i64 gr]),.arr (pE p.1)] (.agg (qC vA))) (hzB:FS 94 [.agg (spC a b++[i64 gr]),.arr (pE p.2)] (.agg (qC vB))) (hzU:FS 94 [.agg (spC a b++[i64 gr]),.arr (pE (syU [p] l g a b))] (.agg (qC vU))):
    FS 36 [.agg (eqC [p] l g),.agg (spC a b),.agg (qC ep),.agg (qC de),i64 gr] (.tup [.agg (neC (syU [p] l g a b) (clB p l a b vA vB) (clSh p l a b vA vB ep) (clRa p l a b vA vB ep de vU)),i64 0]):=by
 have hw:=d5_ [p] l g a b h.ke h.ha h.hb h.ab h.dg h.gl;have hs:=iQ_ [p] l g a b s h.sy h.rh;have he0:¬sgZ ep.num< 0:=fun e=>by have:=sgZ_num_lt.1 e;have:=ok.e0;grind
 have hd0:¬sgZ de.num< 0:=fun e=>by have:=sgZ_num_lt.1 e;have:=ok.d0;grind
 have hea:=kI_ [p] 95 [bSz a b gr] (fun _=>vA) (aa_ (bI_ a b gr) ac_) (by simp) fun q hq=>by
  rw[List.mem_singleton.1 hq];exact fs_Clo1 p a b gr vA hzA
 have heb:=kI_ [p] 96 [bSz a b gr] (fun _=>vB) (aa_ (bI_ a b gr) ac_) (by simp) fun q hq=>by
  rw[List.mem_singleton.1 hq];exact fs_Clo2 p a b gr vB hzB
 have i1:=cV_ 1 (by decide);obtain⟨A,hA⟩:∃A,A=(syM [p] l (rhK [p] g a b) a b).1:=⟨_,rfl⟩;obtain⟨L,hLe⟩:∃L,L=(syM [p] l (rhK [p] g a b) a b).2:=⟨_,rfl⟩;have hsy:syV 1 (A,L)=syV [p].length (syM [p] l (rhK [p] g a b) a b):=by rw[hA,hLe];rfl
 rw[←hsy] at hs;rw[←hLe] at hL;have hk1:(kE [p]).length=1:=rfl;have hll:(lvE L).length=1:=by rw[ei_,hL]
 refine f_n Tryz.func36 ?_ ?_;exact aa_ (aw_ (bv_ [p] l g)) (aa_ (aw_ (a4_ a b)) (aa_ (aC_ ep) (aa_ (aC_ de) (aa_ (ad_ _) ac_))));refine r_z 6 ?_;refine AWp.ent (st':=⟨[(4,i64 gr),(5,.aptr [eqC [p] l g] 0 0),(6,bSp a b),(7,bQ ep),(8,bQ de),(10,.lptr 1 0 0)],[(1,some ⟨106,10,[zNe]⟩)],2,172⟩) ?_ ?_;refine s_x [(1,10)] (fun hs=>?_) (fun hs=>?_)
 ·repeat' (first|exact aD_|refine an_ rfl ?_ ?_|exact Cv.boxp hs rfl (aB_ rfl) rfl (bv_ [p] l g)|exact Cv.boxp hs rfl (aB_ rfl) rfl (a4_ a b)|exact Cv.boxp hs rfl (aB_ rfl) rfl (aN_ _)|exact au_c)
 ·repeat' (first|exact au_|refine h_c ?_ ?_|exact au_e|refine ar_ ?_|exact am_|refine ae_ ?_ ?_|exact Cv.boxp hs rfl (aB_ rfl) rfl (bv_ [p] l g)|exact Cv.boxp hs rfl (aB_ rfl) rfl (a4_ a b)|exact Cv.boxp hs rfl (aB_ rfl) rfl (aN_ _)|exact au_c)
 refine r_z 5 ?_;refine AWp.ent (st':=⟨[(4,i64 gr),(6,bSp a b),(7,bQ ep),(8,bQ de),(10,.lptr 1 0 0),(12,bTk [p] l g a b)],[(1,some ⟨106,10,[zNe]⟩)],2,172⟩) ?_ ?_;refine s_x [(1,10)] (fun hs=>?_) (fun hs=>?_)
 ·repeat' (first|exact aD_|refine an_ rfl ?_ ?_|exact ai_ hs (bg_ a b)|exact Cv.boxp hs rfl (aB_ rfl) rfl (b8_ [p] l g a b)|exact au_c)
 ·repeat' (first|exact au_|refine h_c ?_ ?_|exact au_e|refine ar_ ?_|exact am_|refine ae_ ?_ ?_|exact ai_ hs (bg_ a b)|exact Cv.boxp hs rfl (aB_ rfl) rfl (b8_ [p] l g a b)|exact au_c)
 refine ab_ (r_c 12 (hw) ?_);refine c_s (bt_ ep) ?_;refine e_s (bt_ de) ?_;refine d_z ?_;refine cF (ah_ (r_c 4 (hs) ?_));refine a_z ?_;refine AWp.ent (st':=⟨[(4,i64 gr),(6,bSp a b),(7,bQ ep),(8,bQ de),(10,.lptr 1 0 0),(12,bTk [p] l g a b),(13,bSy 1 A L)],[(1,some ⟨106,10,[zNe]⟩)],2,172⟩) ?_ ?_;refine s_x [(1,10)] (fun hs=>?_) (fun hs=>?_)
 ·repeat' (first|exact aD_|refine an_ rfl ?_ ?_|exact ai_ hs (bg_ a b)|exact ai_ hs (a5_ [p] l g a b)|exact Cv.boxp hs rfl (aB_ rfl) rfl (b9_ 1 A L)|exact au_c)
 ·repeat' (first|exact au_|refine h_c ?_ ?_|exact au_e|refine ar_ ?_|exact am_|refine ae_ ?_ ?_|exact ai_ hs (bg_ a b)|exact ai_ hs (a5_ [p] l g a b)|exact Cv.boxp hs rfl (aB_ rfl) rfl (b9_ 1 A L)|exact au_c)
 refine ab_ (q_z 6 ?_);refine cF (ah_ (r_z 6 ?_));refine AWp.ent (st':=⟨[(6,bSp a b),(7,bQ ep),(8,bQ de),(10,.lptr 1 0 0),(12,bTk [p] l g a b),(13,bSy 1 A L),(14,bSz a b gr)],[(1,some ⟨106,10,[zNe]⟩)],2,172⟩) ?_ ?_;refine s_x [(1,10)] (fun hs=>?_) (fun hs=>?_)
 ·repeat' (first|exact aD_|refine an_ rfl ?_ ?_|exact ai_ hs (bg_ a b)|exact ai_ hs (a5_ [p] l g a b)|exact ai_ hs (bl_ 1 A L)|exact Cv.boxp hs rfl (aB_ rfl) rfl (aa_ (g5_ a b gr) ac_)|exact au_c)
 ·repeat' (first|exact au_|refine h_c ?_ ?_|exact au_e|refine ar_ ?_|exact am_|refine ae_ ?_ ?_|exact ai_ hs (bg_ a b)|exact ai_ hs (a5_ [p] l g a b)|exact ai_ hs (bl_ 1 A L)|exact Cv.boxp hs rfl (aB_ rfl) rfl (aa_ (g5_ a b gr) ac_)|exact au_c)
 refine r_c 6 (hea) ?_;refine a_z ?_;refine r_c 6 (heb) ?_;refine a_z ?_;refine r_z 1 ?_;refine ab_ (r_z 5 ?_);refine av_ (fun _:Unit=>clO p l g a b ep de vA vB gr A L 1) (fun _=>True) ?_ ?_;refine af_ (aq_ (clO p l g a b ep de vA vB gr A L) (fun j=>1- j) (fun j=>j≤1) 0 (Nat.zero_le _) ?_ ?_);rw[clO.eq_1];refine s_x [(1,10),(2,17)] (fun hs=>e_7) (fun hs=>?_)
 ·repeat' (first|exact au_|refine h_c ?_ ?_|exact CvLL.zeros hs 1|exact au_e|refine ar_ ?_|exact am_|refine ae_ ?_ ?_|exact ai_ hs (bg_ a b)|exact ai_ hs (a5_ [p] l g a b)|exact ai_ hs (bl_ 1 A L)|exact ai_ hs (bI_ a b gr)|exact ai_ hs (bf_ _)|exact ai_ hs (ap_ _)|exact au_c)
 intro j hj;by_cases h1:j< 1;obtain rfl:j=0:=by omega
 rw[clO.eq_1]
 have hXs:=jn_ [p] l a b s [q1I] h.sy rfl fun i hi=>by
  obtain rfl:i=0:=by simpa using hi
  exact Nat.le_trans (by decide:qs (coP [q1I] 0)≤1) hs1
 have ho:=kF_ (syM [p] l [q1I] a b).1 1 (syM [p] l [q1I] a b).2 (da_ _ _ _) (by decide);have hcl:Closed (syV [p].length (syM [p] l [q1I] a b)):=de_ _ _ _;have hcll:(pE (clL p l a b)).length=1:=by simp[pE,clL]
 refine s_r 1 ?_;refine o_0 (.bin rfl rfl (vT aT_ (rfl))) ?_;refine ak_ ?_;refine ab_ (cT (ah_ (ab_ (af_ (r_z 2 ?_)))));refine r_z 6 ?_;refine r_c 5 (i1) ?_;refine a_z ?_;refine AWp.ent (st':=⟨[(6,bSp a b),(7,bQ ep),(8,bQ de),(10,.lptr 1 0 0),(12,bTk [p] l g a b),(13,bSy 1 A L),(14,bSz a b gr),(15,.arr (pE [vA])),(16,.arr (pE [vB])),(17,.lptr 2 0 0),(67,i64 1),(68,i64 0),(18,i64 0),(19,.arr (pE [q1I]))],[(1,some ⟨106,10,[zNe]⟩),(2,some ⟨46,3,[qC (clV 0 (clS1 p l a b vA vB) 0)]⟩)],3,172⟩) ?_ ?_;refine s_x [(1,10),(2,17)] (fun hs=>?_) (fun hs=>?_)
 ·repeat' (first|exact aD_|refine an_ rfl ?_ ?_|exact ai_ hs (bg_ a b)|exact ai_ hs (a5_ [p] l g a b)|exact ai_ hs (bl_ 1 A L)|exact ai_ hs (bI_ a b gr)|exact ai_ hs (bf_ _)|exact ai_ hs (ap_ _)|(refine Cv.shut hs rfl (aB_ rfl) (nle rfl) ?_;exact ay_ hs rfl (aG_ [q1I]))|exact au_c)
 ·repeat' (first|exact au_|refine h_c ?_ ?_|exact au_e|refine ar_ ?_|exact am_|refine ae_ ?_ ?_|exact ai_ hs (bg_ a b)|exact ai_ hs (a5_ [p] l g a b)|exact ai_ hs (bl_ 1 A L)|exact ai_ hs (bI_ a b gr)|exact ai_ hs (bf_ _)|exact ai_ hs (ap_ _)|(refine Cv.shut hs rfl (aB_ rfl) (nle rfl) ?_;exact ay_ hs rfl (aG_ [q1I]))|exact au_c)
 refine ab_ (AWp.regAB 4 9 84 hmix (ic_ [p] a b h.sy.m) (hXs) (hcl) rfl rfl rfl rfl rfl rfl rfl rfl rfl rfl (by kernel_rfl) rfl rfl rfl ?_);refine AY.op0 (.fieldAddr_a rfl TF.h (by decide)) rfl rfl ?_;refine AY.op0 (.fieldAddr_a rfl TF.h (by decide)) rfl rfl ?_;refine AY.op0 (.load_a1 rfl rfl TG.h rfl) rfl rfl ?_;refine AY.op0 (.load_a rfl rfl TG.h TS.h (nle rfl)) rfl rfl ?_;refine AY.sp rfl rfl (kAB.a rfl rfl rfl (aa_ (aA_ [p]) (aa_ (aw_ (a4_ a b)) ac_)) rfl) ?_;refine AY.op0 (.fieldAddr_a rfl TF.h (by decide)) rfl rfl ?_;refine AY.op0 (.fieldAddr_a rfl TF.h (by decide)) rfl rfl ?_;refine AY.op0 (.load_a rfl rfl TG.h TS.h (nle rfl)) rfl rfl ?_;refine AY.op0 (.move rfl) rfl rfl ?_;refine AY.sp rfl rfl (kAB.b rfl rfl (ArgsB.own (ArgsB.clo rfl (aw_ (aN_ l)) (ArgsB.clo rfl (ap_ _) ArgsB.nil))) rfl) ?_;refine AY.op0 (.call rfl rfl rfl (ho)) rfl rfl ?_;refine AY.op0 (.lenP rfl rfl rfl rfl te_32.h) rfl rfl ?_;refine AY.op0 (.move rfl) rfl rfl ?_;refine AY.nil ⟨by kernel_rfl,?_⟩;refine AWp.cutB (fun _:Unit=>clI p l g a b ep de vA vB gr A L 1) (fun _=>True) ?_ ?_;refine af_ (aq_ (clI p l g a b ep de vA vB gr A L) (fun i=>1- i) (fun i=>i≤1) 0 (Nat.zero_le _) ?_ ?_);rw[clI.eq_1];exact s_x [] (fun hs=>e_7) (fun hs=>e_11);intro i hi;by_cases h1:i< 1;obtain rfl:i=0:=by omega
 rw[clI.eq_1]
 have hcg:(pE (clL p l a b))[((0:Nat):Int).toNat]?=some (qC (clC p l a b)):=by
  have:(clL p l a b).length=1:=by simp[clL]
  have:=bo_ (p:=clL p l a b) (i:=0) (by omega);simp[pE,clC,this]
 have m1:=bE_ vA (absQ (clC p l a b)) ok.q1;have m2:=bE_ (vA* absQ (clC p l a b)) vB ok.q2;have a1:=c6_ 0 (vA* absQ (clC p l a b) * vB) ok.q3;refine s_r 1 ?_;refine o_0 (.bin rfl rfl (vT aT_ (rfl))) ?_;refine ak_ ?_;refine ab_ (cT (ah_ (ab_ (af_ (s_r 6 ?_)))));refine a_1 ?_;refine i_x hcg ?_;refine l_x hcg ?_;refine a_z ?_;refine r_d hmix 15 ?_;refine c_s (jN_ (clC p l a b)) ?_;refine c_s (m1) ?_;refine c_s (m2) ?_;refine c_s (a1) ?_;refine a_1 ?_;refine ak_ (n_k ?_);refine r_m 2 ?_;refine a_z ?_;refine⟨1,by omega,by omega,?_⟩;rw[clI.eq_1];exact s_x [] (fun hs=>e_7) (fun hs=>e_11);obtain rfl:i=1:=by omega
 rw[clI.eq_1];refine s_r 1 ?_;refine o_0 (.bin rfl rfl (vF aT_ (rfl))) ?_;refine ak_ ?_;refine ab_ (cF (ao_ ⟨(),trivial,?_⟩));exact s_x [] (fun hs=>e_7) (fun hs=>e_11);rintro _ _;rw[clI.eq_1];refine r_m 2 ?_;refine a_z ?_;refine⟨1,by omega,by omega,?_⟩;rw[clO.eq_1];exact s_x [] (fun hs=>e_7) (fun hs=>e_11);obtain rfl:j=1:=by omega
 rw[clO.eq_1];refine s_r 1 ?_;refine o_0 (.bin rfl rfl (vF aT_ (rfl))) ?_;refine ak_ ?_;refine ab_ (cF (ao_ ⟨(),trivial,?_⟩));exact s_x [] (fun hs=>e_7) (fun hs=>e_11);rintro _ _;rw[clO.eq_1];have w1:=l2_ a b h.ha h.hb;have w2:=bE_ (absQ l) (b- a) ok.q4;have ho:=kF_ A 1 L (by rw[hA,hLe];exact da_ _ _ _) (by decide);have hsu:=rG_ [p] (syC1 [p] l g a b) (by unfold syC1;simp) (by simp) h2.ms;have hsc:=d7_ _ l h2.u1 h2.sl h2.u2;have had:=i0_ g _ h2.sg h2.v1 h.gl h2.v2;have eo:oneL A 1 L=syC1 [p] l g a b:=by rw[hA,hLe];rfl
 rw[eo] at ho;have m1:=bE_ (clW l a b) (clS1 p l a b vA vB) ok.q5;have a1:=c6_ q1I (clW l a b* clS1 p l a b vA vB) ok.q6;have m2:=bE_ (clW l a b) ep ok.q7;have m3:=bE_ (clW l a b* ep) (clB p l a b vA vB) ok.q8;have s1:=gm_ q1I (clSh p l a b vA vB ep) ok.q9;have m4:=bE_ (clW l a b* ep) vU ok.qa;have a2:=c6_ de (clW l a b* ep* vU) ok.qb;have m5:=bE_ (clB p l a b vA vB) (de+clW l a b* ep* vU) ok.qc;have ov:=kH_ (clB p l a b vA vB* (de+clW l a b* ep* vU)) (clRe p l a b vA vB ep) (by have:=ok.r0;grind) ok.qd;have hr0:¬sgZ (clRe p l a b vA vB ep).num≤0:=by have:=sgZ_num_gt.2 ok.r0;omega
 refine ab_ (r_d hmix 9 ?_);refine c_s (jN_ l) ?_;refine c_s (w1) ?_;refine c_s (w2) ?_;refine a_2 ?_;refine ak_ (n_k ?_);refine AWp.ent (st':=⟨[(7,bQ ep),(8,bQ de),(10,.lptr 1 0 0),(12,bTk [p] l g a b),(13,bSy 1 A L),(14,bSz a b gr),(17,bQ (clS1 p l a b vA vB)),(22,bQ (clW l a b))],[(1,some ⟨106,10,[zNe]⟩)],2,172⟩) ?_ ?_;refine s_x [(1,10)] (fun hs=>e_13) (fun hs=>?_)
 ·repeat' (first|exact au_|refine h_c ?_ ?_|exact au_e|refine ar_ ?_|exact am_|refine ae_ ?_ ?_|exact ai_ hs (bg_ a b)|exact ai_ hs (a5_ [p] l g a b)|exact ai_ hs (bl_ 1 A L)|exact ai_ hs (bI_ a b gr)|exact ai_ hs (bf_ _)|exact ai_ hs (ap_ _)|exact Cv.boxp hs rfl (aB_ rfl) rfl (aN_ _)|exact au_c)
 refine ab_ (r_d hmix 22 ?_);refine c_s (ho) ?_;refine c_s (hsu) ?_;refine c_s (hsc) ?_;refine c_s (had) ?_;refine c_s (i1) ?_;refine c_s (m1) ?_;refine c_s (a1) ?_;refine a_3 ?_;refine ak_ (n_k ?_);refine AWp.ent (st':=⟨[(7,bQ ep),(8,bQ de),(10,.lptr 1 0 0),(14,bSz a b gr),(22,bQ (clW l a b)),(23,.lptr 2 0 0)],[(1,some ⟨106,10,[zNe]⟩),(2,some ⟨106,10,[nC1 (syU [p] l g a b) (clB p l a b vA vB)]⟩)],3,172⟩) ?_ ?_;refine s_x [(1,10),(2,23)] (fun hs=>e_13) (fun hs=>?_)
 ·repeat' (first|exact au_|refine h_c ?_ ?_|exact ay_ hs rfl (pR_ _ _)|exact au_e|refine ar_ ?_|exact am_|refine ae_ ?_ ?_|exact ai_ hs (bg_ a b)|exact ai_ hs (a5_ [p] l g a b)|exact ai_ hs (bl_ 1 A L)|exact ai_ hs (bI_ a b gr)|exact ai_ hs (bf_ _)|exact ai_ hs (ap_ _)|exact Cv.boxp hs rfl (aB_ rfl) rfl (aN_ _)|exact au_c)
 refine ab_ (r_d hmix 8 ?_);refine c_s (m2) ?_;refine c_s (m3) ?_;refine a_2 ?_;refine ak_ (n_k ?_);refine AWp.ent (st':=⟨[(7,bQ ep),(8,bQ de),(10,.lptr 1 0 0),(14,bSz a b gr),(22,bQ (clW l a b)),(23,.lptr 2 0 0)],[(1,some ⟨106,10,[zNe]⟩),(2,some ⟨106,10,[nC2 (syU [p] l g a b) (clB p l a b vA vB) (clSh p l a b vA vB ep)]⟩)],3,172⟩) ?_ ?_;exact s_x [(1,10),(2,23)] (fun hs=>e_13) (fun hs=>e_49);refine ab_ (r_d hmix 6 ?_);refine c_s (i1) ?_;refine c_s (s1) ?_;refine a_2 ?_;refine ak_ (n_k ?_);refine AWp.ent (st':=⟨[(7,bQ ep),(8,bQ de),(10,.lptr 1 0 0),(14,bSz a b gr),(22,bQ (clW l a b)),(23,.lptr 2 0 0),(24,bQ (clRe p l a b vA vB ep))],[(1,some ⟨106,10,[zNe]⟩),(2,some ⟨106,10,[nC2 (syU [p] l g a b) (clB p l a b vA vB) (clSh p l a b vA vB ep)]⟩)],3,172⟩) ?_ ?_;exact s_x [(1,10),(2,23)] (fun hs=>e_13) (fun hs=>e_49);refine ab_ (r_c 3 (bt_ (clRe p l a b vA vB ep)) ?_);refine d_z ?_;refine cF (ah_ (ab_ (r_d hmix 17 ?_)));refine c_s (m2) ?_;refine c_s (hzU) ?_;refine c_s (m4) ?_;refine c_s (a2) ?_;refine c_s (m5) ?_;refine c_s (ov) ?_;refine a_2 ?_;refine ak_ (n_k ?_);refine AWp.ent (st':=⟨[(10,.lptr 1 0 0),(23,.lptr 2 0 0)],[(1,some ⟨106,10,[zNe]⟩),(2,some ⟨106,10,[neC (syU [p] l g a b) (clB p l a b vA vB) (clSh p l a b vA vB ep) (clRa p l a b vA vB ep de vU)]⟩)],3,172⟩) ?_ ?_;exact s_f [(1,10),(2,23)];refine r_z 3 ?_;refine ag_ (Fin.many ⟨_,_,rfl,⟨_,_,_,_,_,rfl,rfl,rfl,.inl ⟨TG.h,_,TS.h,nle rfl,rfl⟩⟩,⟨_,_,rfl,rfl,rfl⟩⟩ (nle rfl) ?_)
 exact ae_ (ai_ as_ (aw_ (dK_ _ _ _ _))) (ae_ (ai_ as_ (ad_ _)) am_)
end Go.Proofs.YtjkddcfoolilbaaGreatDoor
