/- Part X27 of the proof. -/
import Derived.Test.YtjgokhkahkmpbaaGreatDoorX26
set_option linter.all false
namespace Go.Proofs.YtjgokhkahkmpbaaGreatDoor
open Go.Abs
set_option maxRecDepth 100000
set_option maxHeartbeats 2000000
def twP:Lq:=aW [0,1] 2
def fmC(p:Lq)(g:Nat)(cap:La):La:=[.arr (pE p),.clos g [] cap]
def u8v(k:Int):Value:= .int .u8 k
def famK:List Value:=[u8v 1,u8v 2,u8v 3,u8v 4,u8v 5]
def famV:La:=[.agg (fmC [0,1] 220 [bP twP]),.agg (fmC twP 220 [bP twP]),.agg (fmC [0,1] 221 []),.agg (fmC [1,-1] 222 []),.agg (fmC twP 223 [bP twP])]
abbrev famA:AV:= .mp famK famV
theorem dX(p:Lq)(g:Nat){cap:La}(h:∀c∈cap,Closed c):∀c∈fmC p g cap,Closed c:=ae (ap p) (ae (aV ai h) ai)
theorem y6:∀c∈famV,Closed c:=by
 have c1:∀c∈[bP twP],Closed c:=ae (cu _) ai;exact ae (aG (dX _ _ c1)) (ae (aG (dX _ _ c1)) (ae (aG (dX _ _ ai)) (ae (aG (dX _ _ ai)) (ae (aG (dX _ _ c1)) ai))))
def FH:MapTab:=⟨217,.u8,0,7,[(4,1,10,3),(8,2,13,7),(11,3,15,10),(16,4,19,15),(20,5,22,19)],[(21,23),(22,0)]⟩
theorem yK:FS 167 [] famA:=by
 refine f_c Tryz.func167 ?_;refine r_z 1 ?_;refine r_c 5 (fs_x) ?_;refine c_s (da 2 (by decide)) ?_;refine c_s (iA [0,1] 2 (by decide) (by decide) (by decide)) ?_;refine a_z ?_;refine AWp.ent (st':=⟨[(1,bP twP)],[],2,24⟩) ?_ ?_;exact s_f [];refine r_z 2 ?_;refine ac (AWp.mapRegion FH (vs:=famV) (d:=0) hmix tm_217.h tu_5.h (by kernel_rfl) (by kernel_rfl) (by kernel_rfl) ⟨22,by simp[FH],by decide⟩ (by decide) ?_ ?_)
 ·refine AX.sp rfl rfl ?_
  refine AX.op0 (.call rfl rfl rfl (fs_x)) rfl rfl ?_;refine AX.op0 (.move rfl) rfl rfl ?_;refine AX.op0 (.build TZ.h tp_216.h rfl rfl) rfl rfl ?_;refine AX.spn rfl ?_
  first|refine AX.op0 (.load_l1 rfl rfl rfl TG.h rfl) rfl rfl ?_|refine AX.op0 (.load_a1 rfl rfl TG.h rfl) rfl rfl ?_
  refine AX.op0 (.move rfl) rfl rfl ?_;refine AX.op0 (.build TZ.h tp_216.h rfl rfl) rfl rfl ?_;refine AX.spn rfl ?_;refine AX.op0 (.call rfl rfl rfl (fs_x)) rfl rfl ?_;refine AX.op0 (.build TZ.h tp_216.h rfl rfl) rfl rfl ?_;refine AX.spn rfl ?_;refine AX.op0 (.call rfl rfl rfl (da 1 (by decide))) rfl rfl ?_;refine AX.op0 (.call rfl rfl rfl (da (-1) (by decide))) rfl rfl ?_;refine AX.op1 (.buildSlice te_30.h TZ.h rfl (by decide) rfl rfl rfl (by first|(simp;done)|(simp[dc,ofV];done)|rfl)) rfl rfl ?_;refine AX.op0 (.build TZ.h tp_216.h rfl rfl) rfl rfl ?_;refine AX.spn rfl ?_
  first|refine AX.op0 (.load_l1 rfl rfl rfl TG.h rfl) rfl rfl ?_|refine AX.op0 (.load_a1 rfl rfl TG.h rfl) rfl rfl ?_
  refine AX.op0 (.makeFunc rfl rfl) rfl rfl ?_;refine AX.op0 (.build TZ.h tp_216.h rfl rfl) rfl rfl ?_;refine AX.spn rfl ?_;refine AX.sp rfl rfl ?_;refine AX.sp rfl rfl ?_;refine AX.nil ⟨by kernel_rfl,?_⟩;have c1:∀c∈[bP twP],Closed c:=ae (cu _) ai;refine CvS.cons rfl (ah aB (aG (dX _ _ c1))) (CvS.cons rfl (ah aB (aG (dX _ _ c1))) (CvS.cons rfl (ah aB (aG (dX _ _ ai))) (CvS.cons rfl ?_ (CvS.cons rfl (ah aB (aG (dX _ _ c1))) CvS.nil))));exact Cv.agg (af (Cv.sealE aB rfl (fun _ _ h=>by cases h) rfl rfl (aL _)) (af (ah aB (aV ai ai)) ax))
 exact aj (t_e (DY y6))
theorem fs_fam1(n:Int)(p last:Lq)(h:tc twP p)(hl:smL last)(h1:(ef twP p).length≤274877906944)(h2:last.length≤274877906944):FS 220 [i64 n,.arr (pE p),.arr (pE last),bP twP] (.arr (pE (dH (ef twP p) last))):=by
 refine f_c Tryz.func220 ?_;refine r_z 1 ?_;refine r_c 6 (A7 twP p (mxL twP) (mxL p) (dK _) (dK _) (dZ _) (dZ _) h.1 h.2.1 h.2.2.1 h.2.2.2) ?_;refine c_s (ob (ef twP p) last (ye h) hl (by omega) (by omega)) ?_;refine a_z ?_;exact aj (t_e (ap _))
def chP:Nat→Lq×Lq
 |0=>(fe 1,[0,1])
 |k+1=>((chP k).2,dH (ef twP (chP k).2) (chP k).1)
def Dn(k:Nat):Prop:=tc twP (chP k).2∧smL (chP k).1∧(ef twP (chP k).2).length≤274877906944∧(chP k).1.length≤274877906944
instance (k:Nat):Decidable (Dn k):=inferInstanceAs (Decidable (_∧_∧_∧_))
def chT(k:Nat):Option La:=some [.arr (pE (chP k).1)]
abbrev bF:AV:= .aptr [fmC [0,1] 220 [bP twP]] 0 0
theorem kL:Closed bF:=ba (dX _ _ (ae (cu _) ai))
theorem AI(K:Nat)(hK:K≤1000000)(hok:∀k,k< K→Dn k):GSpecB Tryz.prog 224 [bF] chT K:=by
 refine GSpecB.enter Tryz.func224 rfl (by kernel_rfl) rfl rfl rfl ?_ ?_ rfl ?_;exact ae kL ai;intro k xs h;cases h;exact ae (ap _) ai;intro ll N hN E;refine GWp.seq ?_;refine GWp.lift ?_;refine r_d hmix 6 ?_;refine c_s (da 1 (by decide)) ?_;refine c_s (jO 1) ?_;refine a_4 ?_;refine an (n_k ?_);refine GWp.seq ?_;refine GWp.lift ?_;refine r_m 1 ?_;refine a_z ?_;refine GWp.block ?_;refine GWp.loopS (fun k:Nat=>⟨[(0,.v (.func (.yield ll) #[] #[])),(1,bF),(3,.arr (pE (chP k).1)),(4,.arr (pE (chP k).2)),(5,i64 ((k:Int)+1))],[],1,22⟩) (fun k=>k) (fun k=>N+1- k) (fun k=>k≤N) 0 (Nat.zero_le _) rfl ?_ ?_;exact s_f [];intro k hk;refine GWp.seq ?_;refine GWp.seq ?_;refine GWp.regY (fr2:=[(0,.v (.func (.yield ll) #[] #[])),(1,bF),(3,.arr (pE (chP k).1)),(4,.arr (pE (chP k).2)),(5,i64 ((k:Int)+1)),(10,.v (.func (.yield ll) #[] #[])),(11,.arr (pE (chP k).1))]) (hp2:=[]) (nx2:=2) 2 rfl rfl rfl rfl rfl rfl ?_ rfl rfl rfl ?_ ?_ ?_;refine o_0 (.move rfl) ?_;refine o_0 (.move rfl) ?_;refine an ?_;exact s_y [] (fun hs=>db) (fun hs=>jG);rotate_left 2;intro go;refine an ?_;rotate_left;rfl;exact ae (ap _) ai;cases go with
 |false=>
  refine GWp.cond rfl (fun h=>?_) (fun h=>?_);cases h;exact GWp.exit ⟨.inl rfl,fun h=>by cases h⟩
 |true=>
  refine GWp.bound fun hk1=>?_;refine GWp.cond rfl (fun h=>?_) (fun h=>?_);rotate_left;cases h;refine GWp.skip ?_;obtain⟨o1,o2,o3,o4⟩:=hok k (by omega);refine GWp.lift ?_;refine ac (am (r_m 9 ?_));refine c_s (fs_fam1 ((k:Int)+1) (chP k).2 (chP k).1 o1 o2 o3 o4) ?_;refine a_z ?_;refine r_m 3 ?_;refine a_z ?_;refine⟨rfl,k+1,by omega,hk1,rfl,?_⟩;exact s_f []
theorem AT:FS 168 [.agg (fmC [0,1] 220 [bP twP])] (.clos 224 [] [bF]):=by
 have hc:∀c∈fmC [0,1] 220 [bP twP],Closed c:=dX _ _ (ae (cu _) ai);refine f_c Tryz.func168 ?_;refine r_z 2 ?_;refine r_z 2 ?_;refine aj (⟨.inr rfl,[_],⟨_,[],rfl,rfl,rfl⟩,?_⟩);exact Cv.clos ax (af (Cv.boxp aB rfl (fun _ _ h=>by cases h) rfl hc) ax)
def j8(n:Nat):Lw:=(List.range n).map fun k=>(chP k).1
theorem vy(n:Nat):j8 (n+1)=j8 n++[(chP n).1]:=by simp[j8,List.range_succ]
@[simp] theorem chL2_length (n:Nat):(j8 n).length=n:=by simp[j8]
def fi0(n:Int):Unit→AState
 |u=>⟨[(1,.lptr 1 0 0),(3,.lptr 2 0 0),(7,.clos 224 [] [bF])],[(1,some ⟨3,1,[[i64 n]]⟩),(2,some ⟨161,1,[[.emp]]⟩)],4,18⟩
def fi1(n:Int):Nat→AState
 |k=>⟨[(1,.lptr 1 0 0),(3,.lptr 2 0 0),(7,.clos 224 [] [bF])],[(1,some ⟨3,1,[[i64 n]]⟩),(2,some ⟨161,1,[[.lsl 3 0 (k+1) none 1]]⟩),(3,some ⟨30,1,cE (j8 (k+1))⟩)],4,18⟩
def fiX(z:Nat):Unit→AState
 |u=>⟨[(3,.lptr 1 0 0)],[(1,some ⟨161,1,[[.lsl 2 0 (z+1) none 1]]⟩),(2,some ⟨30,1,cE (j8 (z+1))⟩)],4,18⟩
def fiS(n:Int):Nat→AState
 |0=>fi0 n ()
 |k+1=>fi1 n k
theorem na:Closed (.clos 224 [] [bF]):=aV ai (ae kL ai)
theorem vh(n:Nat)(hn:n≤1000)(hok:∀k,k< n→Dn k):FS 108 [i64 n] (.arr (cE (j8 (n+1)))):=by
 have hgs:=AI n (by omega) hok;refine f_c Tryz.func108 ?_;refine r_z 2 ?_;refine r_z 1 ?_;refine ac (r_c 3 (yK) ?_);refine c_s (AT) ?_;refine an ?_;refine aI (fiX n) (fun _=>True) ?_ ?_;refine am (AWp.rangeFuncB (α:=Nat) (γ:=Unit) n (fiS n) (fun k=>k) (fun k=>k≤n) (fiX n) (fun e _=>e= .exit 0) 0 rfl hgs rfl rfl ?_ (fun k=>by cases k <;> exact⟨rfl,rfl⟩) (fun _=>rfl) (Nat.zero_le _) rfl (fun _ h=>h) ?_ ?_ ?_ ?_ ?_);intro k xs hT;cases hT;rfl;show SEntT _ (fi0 n ());rw[fi0.eq_1];refine s_y [(2,3)] (fun hs=>e_17) (fun hs=>?_)
 ·repeat' (first|exact aD|refine h_c ?_ ?_|exact bG|refine aw ?_|exact ax|refine af ?_ ?_|exact ah hs na|exact aY)
 exact ae kL ai
 ·intro l k xs hk hT
  cases hT;cases k with
  |zero=>
   show AWp _ _ _ _ ⟨gV (fi0 n ()).fr _ _++dB (fi0 n ()).fr,_,_,_⟩;show AWp _ _ _ _ ⟨[(8,.arr (pE (chP 0).1)),(1,.lptr 1 0 0),(3,.lptr 2 0 0),(7,.clos 224 [] [bF]),(1001,.lptr 1 0 0),(1003,.lptr 2 0 0),(1007,.clos 224 [] [bF])],[(1,some ⟨3,1,[[i64 n]]⟩),(2,some ⟨161,1,[[.emp]]⟩)],4,18⟩;refine r_m 1 ?_;refine a_z ?_;refine am (s_r 5 ?_);refine a_3 ?_;refine o_1 (.append_e rfl rfl rfl te_161.h rfl rfl rfl (.lsl rfl (nle rfl)) (by first|assumption|(simp;done)) TZ.h rfl TB.h d_o (by first|(simp[maxLen];done)|(simp[maxLen];omega))) ?_;refine a_z ?_;refine r_z 4 ?_;refine aq rfl (fun h1=>?_) (fun h1=>?_)
   have h2:n=0:=by
    simp at h1;omega
   subst h2;refine aA (⟨rfl,(),rfl,?_⟩);show SEntT _ ⟨[(1003,.lptr 1 0 0)],[(1,some ⟨161,1,[[.lsl 2 0 (0+1) none 1]]⟩),(2,some ⟨30,1,cE (j8 (0+1))⟩)],4,18⟩;have:=(eM [(chP 0).1]);exact s_t [(1,1003),(2,12)]
   have h2:¬n=0:=by
    simp at h1;omega
   refine ak (⟨0+1,⟨by omega,rfl⟩,?_⟩);show SEntT _ ⟨[(1001,.lptr 1 0 0),(1003,.lptr 2 0 0),(1007,.clos 224 [] [bF])],[(1,some ⟨3,1,[[i64 n]]⟩),(2,some ⟨161,1,[[.lsl 3 0 (0+1) none 1]]⟩),(3,some ⟨30,1,cE (j8 (0+1))⟩)],4,18⟩;refine s_y [(3,12)] (fun hs=>e_17) (fun hs=>?_)
   ·repeat' (first|exact aD|refine h_c ?_ ?_|exact cU hs (eM [(chP 0).1])|exact bG|refine aw ?_|exact ax|refine af ?_ ?_|exact ah hs na|exact aY)
  |succ k=>
   show AWp _ _ _ _ ⟨gV (fi1 n k).fr _ _++dB (fi1 n k).fr,_,_,_⟩;show AWp _ _ _ _ ⟨[(8,.arr (pE (chP (k+1)).1)),(1,.lptr 1 0 0),(3,.lptr 2 0 0),(7,.clos 224 [] [bF]),(1001,.lptr 1 0 0),(1003,.lptr 2 0 0),(1007,.clos 224 [] [bF])],[(1,some ⟨3,1,[[i64 n]]⟩),(2,some ⟨161,1,[[.lsl 3 0 (k+1) none 1]]⟩),(3,some ⟨30,1,cE (j8 (k+1))⟩)],4,18⟩;refine r_m 1 ?_;refine a_z ?_;refine am (r_z 5 ?_);refine r_z 4 ?_;refine aq rfl (fun h1=>?_) (fun h1=>?_)
   have h2:n=k+1:=by
    simp at h1;omega
   subst h2;refine aA (⟨rfl,(),rfl,?_⟩);show SEntT _ ⟨[(1003,.lptr 1 0 0)],[(1,some ⟨161,1,[[.lsl 2 0 ((k+1)+1) none 1]]⟩),(2,some ⟨30,1,cE (j8 ((k+1)+1))⟩)],4,18⟩;refine s_y [(1,1003),(2,12)] (fun hs=>db) (fun hs=>?_)
   ·repeat' (first|exact aD|refine h_c ?_ ?_|exact aM hs (by rw[vy (k+1),xk];rfl) (eM _)|exact bG)
   have h2:¬n=k+1:=by
    simp at h1;omega
   refine ak (⟨k+1+1,⟨by omega,rfl⟩,?_⟩);show SEntT _ ⟨[(1001,.lptr 1 0 0),(1003,.lptr 2 0 0),(1007,.clos 224 [] [bF])],[(1,some ⟨3,1,[[i64 n]]⟩),(2,some ⟨161,1,[[.lsl 3 0 ((k+1)+1) none 1]]⟩),(3,some ⟨30,1,cE (j8 ((k+1)+1))⟩)],4,18⟩;refine s_y [(3,12)] (fun hs=>e_17) (fun hs=>?_)
   ·repeat' (first|exact aD|refine h_c ?_ ?_|exact aM hs (by rw[vy (k+1),xk];rfl) (eM _)|exact bG|refine aw ?_|exact ax|refine af ?_ ?_|exact ah hs na|exact aY)
 intro k hk hT;cases hT;rintro e u rfl;exact⟨u,trivial,SEnt.refl _⟩;rintro u _;rw[fiX.eq_1];refine r_z 2 ?_;exact aj (Fin.tmpS rfl rfl rfl (by simp) (eM _))
def okTo(L:Nat)(p t:Lq)(k:Rat)(n:Nat):Prop:=n< L∧smL p∧smL t∧aT t≠0∧sm k∧smL (aW t k)∧p.length≤274877906944∧t.length≤274877906944
instance (L:Nat) (p t:Lq) (k:Rat) (n:Nat):Decidable (okTo L p t k n):=inferInstanceAs (Decidable (_∧_∧_∧_∧_∧_∧_∧_))
def toM:Nat→Lq→Lq→Option Lq
 |0,_,_=>none
 |f+1,p,out=>if av p=[] then(if p.length≤1099511627776 then some out else none) else
  let n:=(av p).length- 1
  let t:=(chP n).1
  let k:=aT p/ aT t
  if okTo out.length p t k n then toM f (dH p (aW t k)) (out.set n k) else none
def ka(f:Nat)(p:Lq):Option Lq:=
 if p.length≤1000∧(av p).length≤41∧(∀k,k< (av p).length→Dn k) then toM f (av p) (List.replicate (av p).length 0) else none
def toS(ts:Lw):Lq×Lq→AState
 |(p,out)=>⟨[(0,.arr (pE p)),(4,.lsl 1 0 out.length (some out.length) 3),(5,.arr (cE ts)),(6,i64 (cC p))],[(1,some ⟨42,3,pE out⟩)],2,47⟩
theorem A5(f:Nat)(p r:Lq)(h:ka f p=some r):FS 43 [.arr (pE p)] (.tup [.arr (pE r),i64 0]):=by
 unfold ka at h;split at h
 case isFalse=>cases h
 case isTrue hp=>
 obtain⟨hp1,hp2,hp3⟩:=hp;have htl:=b9 p;obtain⟨q,hq⟩:∃q,q=av p:=⟨_,rfl⟩;rw[←hq] at h hp2 hp3 htl;have hql:q.length≤41:=hp2;refine f_c Tryz.func43 ?_;refine r_z 2 ?_;have htr:=ea p (by omega);rw[←hq] at htr;refine r_c 3 (htr) ?_;refine a_z ?_;refine ac (r_c 3 (cr q (by omega)) ?_);refine a_z ?_;refine aq rfl (fun h1=>?_) (fun h1=>?_);have h2:(40:Int)< cC q:=by simpa using h1
 have h3:=b9 q;unfold cC at h2;omega;refine ak (s_r 4 ?_);refine a_2 ?_;refine o_1 (.makeSlice (l:=q.length) (c:=q.length) rfl rfl te_29.h TZ.h rfl TB.h (by first|omega|(simp;done)|(simp;omega)) (by first|omega|(simp;done)|(simp;omega)) (by unfold maxLen;first|omega|(simp;done)|(simp;omega))) ?_;refine a_z ?_;refine r_c 4 (vh q.length (by omega) hp3) ?_;refine a_z ?_;refine ac (r_c 3 (cr q (by omega)) ?_);refine a_z ?_;refine aI (fun _:Unit=>⟨[(4,.lsl 1 0 r.length (some r.length) 3)],[(1,some ⟨42,3,pE r⟩)],2,47⟩) (fun _=>True) ?_ ?_;refine am (aC (fun x:Nat×Lq×Lq=>toS (j8 (q.length+1)) x.2) (fun x=>x.1) (fun x=>toM x.1 x.2.1 x.2.2=some r∧x.2.2.length=q.length∧x.2.1.length≤1099511627776) (f,q,List.replicate q.length 0) ⟨h,by simp,by simp only;omega⟩ ?_ ?_);simp only[toS.eq_1,List.length_replicate];refine s_x [(1,4)] (fun hs=>e_42) (fun hs=>?_)
 ·repeat' (first|exact aD|refine h_c ?_ ?_|exact CvLL.zeros hs _|exact bG|refine aw ?_|exact ax|refine af ?_ ?_|exact ah hs (fK _)|exact aY)
 rintro⟨k,p,out⟩ ⟨h,ho,hpl⟩;simp only at h ho hpl;simp only[toS.eq_1];cases k with
 |zero=>cases h
 |succ k=>
  rw[toM] at h;refine ac (r_z 2 ?_);refine aq rfl (fun h1=>?_) (fun h1=>?_)
  ·have h0:av p≠[]:=by
    intro e;have e2:=degP_neg.2 e;simp at h1;omega
   rw[if_neg h0] at h;simp only at h;split at h
   case isFalse=>cases h
   case isTrue hk=>
   obtain⟨n,hn⟩:∃n,n=(av p).length- 1:=⟨_,rfl⟩;obtain⟨t,ht⟩:∃t,t=(chP n).1:=⟨_,rfl⟩;obtain⟨x,hx⟩:∃x,x=aT p/ aT t:=⟨_,rfl⟩;rw[←hn,←ht,←hx] at h hk;obtain⟨k1,k2,k3,k4,k5,k6,k7,k8⟩:=hk
   have hdn:cC p=(n:Int):=by
    unfold cC;have:=List.length_pos_iff.2 h0;omega
   have hov:=fR (aT p) (aT t) k4 (by have e1:=tl k2;have e2:=tl k3;unfold sm at e1 e2;omega);rw[←hx] at hov
   have hgt:(cE (j8 (q.length+1)))[((n:Nat):Int).toNat]?=some [.arr (pE t)]:=by
    refine ut ?_;rw[Int.toNat_natCast,ht,j8,List.getElem?_map,List.getElem?_range (by omega)];rfl
   have hsl:=cm t x
   have hgo:(pE (out.set n x))[0+((n:Nat):Int).toNat]?=some (qC x):=by
    rw[show 0+((n:Nat):Int).toNat=n by omega];exact b7 (by rw[List.getElem?_set,if_pos rfl,if_pos k1])
   have hst:(pE out).set (0+((n:Nat):Int).toNat) (qC x)=pE (out.set n x):=by
    rw[show 0+((n:Nat):Int).toNat=n by omega,lc]
   have hlo:(out.set n x).length=out.length:=by simp
   have hg0:(pE out)[0+((n:Nat):Int).toNat]?=some (qC (coP out n)):=by
    rw[show 0+((n:Nat):Int).toNat=n by omega];exact b7 (bv k1)
   have hsb:(dH p (aW t x)).length≤1099511627776:=by
    have h1:=iG p (aW (aW t x) (-1));have h2:=cm (aW t x) (-1);unfold dH;omega
   rw[hdn];refine ak (ac (am (ac (r_d hmix 12 ?_))));refine c_s (lG p (by omega)) ?_;refine a_2 ?_;refine i_x hgt ?_;refine l_1 hgt ?_;refine c_s (lG t (by omega)) ?_;refine c_s (hov) ?_;refine a_1 ?_;refine fk (.store rfl rfl hg0 rfl rfl rfl TS.h (nle rfl)) ?_;refine an (n_k ?_);refine AWp.ent (st':=⟨[(0,.arr (pE p)),(4,.lsl 1 0 out.length (some out.length) 3),(5,.arr (cE (j8 (q.length+1)))),(6,i64 n)],[(1,some ⟨42,3,pE (out.set n x)⟩)],2,47⟩) ?_ ?_;refine s_x [] (fun hs=>e_42) (fun hs=>?_) e_1
   ·repeat' (first|exact aD|refine h_c ?_ ?_|exact aM hs hst (aL _)|exact bG|refine aw ?_|exact ax|refine af ?_ ?_|exact ah hs (fK _)|exact aY)
   refine r_d hmix 12 ?_;refine a_3 ?_;refine i_x hgt ?_;refine l_1 hgt ?_;refine a_3 ?_
   first|refine ay (.load_l rfl rfl hgo TG.h TS.h (nle rfl)) rfl rfl ?_|refine ay (.load_a rfl hgo TG.h TS.h (nle rfl)) rfl rfl ?_
   refine c_s (iA t x k3 k5 (by omega)) ?_;refine c_s (ob p (aW t x) k2 k6 (by omega) (by omega)) ?_;refine a_1 ?_;refine an (n_k ?_);refine r_m 3 ?_;refine c_s (cr (dH p (aW t x)) hsb) ?_;refine a_z ?_;refine⟨(k,dH p (aW t x),out.set n x),Nat.lt_succ_self k,⟨h,by simp only;omega,hsb⟩,?_⟩;simp only[toS.eq_1,hlo];exact s_f []
  have h0:av p=[]:=by
   refine degP_neg.1 ?_;simp at h1;omega
  rw[if_pos h0,if_pos hpl] at h;cases h;refine aA ⟨(),trivial,?_⟩;exact s_e []
 rintro _ _;refine r_z 3 ?_;refine aj (Fin.many ⟨_,_,rfl,rfl,⟨_,_,rfl,rfl,rfl⟩⟩ (nle rfl) ?_);exact af (Cv.sealE aB rfl (fun _ _ h=>by cases h) rfl (by simp) (aL r)) (af (ah aB (ag _)) ax)

inductive LeLL:Lc→Lc→Prop
 |nil:LeLL [] []
 |cons {e e' es es'}:LeL e e'→LeLL es es'→LeLL (e::es) (e'::es')
theorem leL_len{xs ys:La}(h:LeL xs ys):ys.length=xs.length:=by
 induction h with
 |nil=>rfl
 |cons _ _ ih=>simp[ih]
theorem leL_cs{M:Nat→Prop}{β:Bq}{w:World}{b:Nat}{xs ys:La}(h:LeL xs ys):∀{off:Nat},RVcs M β w b xs off→RVcs M β w b ys off:=by
 induction h with
 |nil=>exact fun h=>h
 |cons h1 _ ih=>rintro off ⟨⟨x,hx,hr⟩,hs⟩;exact⟨⟨x,hx,h1 M β w x hr⟩,ih hs⟩
theorem LeLL.ess{M:Nat→Prop}{β:Bq}{w:World}{b s:Nat}{es es':Lc}(h:LeLL es es'):∀{off:Nat},RVess M β w b s es off→RVess M β w b s es' off:=by
 induction h with
 |nil=>exact fun h=>h
 |cons h1 _ ih=>rintro off ⟨h0,hc,hr⟩;exact⟨(leL_len h1).trans h0,leL_cs h1 hc,ih hr⟩
theorem LeLL.length{es es':Lc}(h:LeLL es es'):es'.length=es.length:=by
 induction h with
 |nil=>rfl
 |cons _ _ ih=>simp[ih]
theorem Le.arr{es es':Lc}(h:LeLL es es'):Le (.arr es) (.arr es'):=by
 rintro M β w y ⟨a,c,rfl,h1,h2,h3⟩;refine⟨a,c,by rw[h.length],by rw[h.length];exact h1,h2,h3.imp (fun e=>?_) ?_⟩;subst e;cases h;rfl;rintro⟨b,off,s,rfl,hN,hm,hr⟩;exact⟨b,off,s,rfl,hN,hm,h.ess hr⟩
theorem LeLL.refl:∀es,LeLL es es
 |[]=> .nil
 |e::es=> .cons (LeL.refl e) (LeLL.refl es)
section
variable {P:Go.Program}{T:Nat}{x y:Operand}
end
abbrev iH:=Int×Int×Nat
def nV(r:iH):Rat:=lT r.1 r.2.1 r.2.2
def nR(l:List iH):Lc:=l.map fun r=>nuC r.1 r.2.1 r.2.2
def nL(l:List iH):Lq:=l.map nV
abbrev rL(l:Lq):Lc:=rE (l.map rq)
def okR(l:List iH):Prop:=∀r∈l,jF r.1∧jF r.2.1∧r.2.2≤255
theorem dU(l:List iH):∀e∈nR l,∀c∈e,Closed c:=by
 intro e he c hc;obtain⟨r,_,rfl⟩:=List.mem_map.1 he;exact fD _ _ _ c hc
theorem kJ(l:Lq):∀e∈rL l,∀c∈e,Closed c:=fJ _
def liS(l:List iH):Lq→Nat→AState
 |[],i=>⟨[(0,.arr (nR l)),(4,.emp),(5,.emp),(6,i64 i)],[],1,33⟩
 |q::Q,i=>⟨[(0,.arr (nR l)),(4,.lsl 1 0 (Q.length+1) none 3),(5,.lsl 2 0 (Q.length+1) none 4),(6,i64 i)],[(1,some ⟨42,3,pE (q::Q)⟩),(2,some ⟨49,4,rL (q::Q)⟩)],3,33⟩
theorem oV(l:List iH)(i:Nat):liS l [] i=⟨[(0,.arr (nR l)),(4,.emp),(5,.emp),(6,i64 i)],[],1,33⟩:=rfl
theorem ku(l:List iH)(q:Rat)(Q:Lq)(i:Nat):liS l (q::Q) i=⟨[(0,.arr (nR l)),(4,.lsl 1 0 (Q.length+1) none 3),(5,.lsl 2 0 (Q.length+1) none 4),(6,i64 i)],[(1,some ⟨42,3,pE (q::Q)⟩),(2,some ⟨49,4,rL (q::Q)⟩)],3,33⟩:=rfl
theorem fs_List(l:List iH)(hl:l.length≤1099511627776)(hb:okR l):FS 17 [.arr (nR l)] (.tup [.arr (pE (nL l)),.arr (rL (nL l))]):=by
 have hcr:∀q:Rat,∀e∈[rC (rq q)],∀c∈e,Closed c:=fun q=>kJ [q];refine f_n Tryz.func17 ?_ ?_;exact ae (aR (dU l)) ai;refine r_z 2 ?_;refine r_z 1 ?_;refine r_z 1 ?_;refine ac (r_z 1 ?_);refine aI (fun _:Unit=>liS l (nL l) l.length) (fun _=>True) ?_ ?_;refine am (aC (fun i:Nat=>liS l (nL (l.take i)) i) (fun i=>l.length- i) (fun i=>i≤l.length) 0 (Nat.zero_le _) ?_ ?_);show SEnt _ (liS l [] 0);rw[oV];have:=(aR (dU l));exact s_f [];rintro i hi;have hlen:(nR l).length=l.length:=by simp[nR]
 by_cases hlt:i< l.length
 ·obtain⟨n,hn⟩:∃n,l[i]?=some n:=⟨_,List.getElem?_eq_getElem hlt⟩
  have hgt:(nR l)[((i:Nat):Int).toNat]?=some (nuC n.1 n.2.1 n.2.2):=by
   show(nR l)[i]?=_;simp[nR,hn]
  obtain⟨hn1,hn2,hn3⟩:=hb n (List.mem_of_getElem? hn);have hbo:=tM n.1 n.2.1 n.2.2 hn1 hn2 hn3;obtain⟨v,hv⟩:∃v,v=lT n.1 n.2.1 n.2.2:=⟨_,rfl⟩;rw[←hv] at hbo;have htk:nL (l.take (i+1))=nL (l.take i)++[v]:=by rw[dA hn];simp[nL,nV,hv]
  have hQl:(nL (l.take i)).length=i:=by simp[nL];omega
  cases hQ:nL (l.take i) with
  |nil=>
   simp only[oV];refine ac (r_z 4 ?_);refine aq rfl (fun h=>?_) (fun h=>?_);rotate_left;exact absurd h (by simp[nR];omega);refine ak (ac (am (s_r 12 ?_)));refine a_2 ?_;refine i_x hgt ?_;refine l_x hgt ?_;refine c_s (hbo) ?_;refine a_z ?_;refine r_d hmix 10 ?_;refine a_8 ?_;refine a_2 ?_;refine an (n_k ?_);refine r_m 3 ?_;refine a_z ?_;refine⟨i+1,by omega,hlt,?_⟩;simp only[htk,hQ,List.nil_append,ku];refine s_x [(1,4),(2,5)] (fun hs=>e_43) (fun hs=>?_)
   ·repeat' (first|exact aD|refine h_c ?_ ?_|exact cU hs (aL [v])|exact cU hs (kJ [v])|exact bG|refine aw ?_|exact ax|refine af ?_ ?_|exact ah hs (aR (dU l))|exact aY)
  |cons q Q=>
   rw[hQ] at hQl;simp at hQl;simp only[ku];refine ac (r_z 4 ?_);refine aq rfl (fun h=>?_) (fun h=>?_);rotate_left;exact absurd h (by simp[nR];omega);refine ak (ac (am (s_r 12 ?_)));refine a_2 ?_;refine i_x hgt ?_;refine l_x hgt ?_;refine c_s (hbo) ?_;refine a_z ?_;refine r_d hmix 10 ?_;refine a_8 ?_;refine a_2 ?_;refine an (n_k ?_);refine r_m 3 ?_;refine a_z ?_;refine⟨i+1,by omega,hlt,?_⟩;simp only[htk,hQ,List.cons_append,ku];have e:pE (q::Q)++[qC v]=pE (q::(Q++[v])):=by simp[pE]
   have e2:rL (q::Q)++[rC (rq v)]=rL (q::(Q++[v])):=by simp[rE]
   refine s_x [(1,4),(2,5)] (fun hs=>e_43) (fun hs=>?_) e_1
   ·repeat' (first|exact aD|refine h_c ?_ ?_|exact aM hs e (aL _)|exact aM hs e2 (kJ _)|exact bG|refine aw ?_|exact ax|refine af ?_ ?_|exact ah hs (aR (dU l))|exact aY)
 have hge:i=l.length:=by omega
 subst hge;simp only[List.take_length];cases hQ:nL l with
 |nil=>
  simp only[oV];refine ac (r_z 4 ?_);refine aq rfl (fun h=>?_) (fun h=>?_);exact absurd h (by simp[nR]);refine aA ⟨(),trivial,?_⟩;simp only[hQ,oV];have:=(aR (dU l));exact s_f []
 |cons q Q=>
  simp only[ku];refine ac (r_z 4 ?_);refine aq rfl (fun h=>?_) (fun h=>?_);exact absurd h (by simp[nR]);refine aA ⟨(),trivial,?_⟩;simp only[hQ,ku];have:=(aR (dU l));exact s_f []
 rintro _ _;cases hQ:nL l with
 |nil=>
  simp only[oV];refine r_z 4 ?_;refine aj (Fin.many ⟨_,_,rfl,rfl,⟨_,_,rfl,rfl,rfl⟩⟩ (nle rfl) ?_);exact af (Cv.emp _) (af (Cv.emp _) ax)
 |cons q Q=>
  simp only[ku];refine r_z 4 ?_;refine aj (Fin.many ⟨_,_,rfl,rfl,⟨_,_,rfl,rfl,rfl⟩⟩ (nle rfl) ?_);exact af (Cv.sealE aB rfl (fun _ _ h=>by cases h) rfl (by simp) (aL _)) (af (Cv.sealE aB rfl (fun _ _ h=>by cases h) rfl (by simp) (kJ _)) ax)
theorem FE(l:List iH)(hl:l.length≤1099511627776)(hb:okR l):FS 8 [.arr (nR l)] (.tup [.arr (pE (nL l)),.arr (rL (nL l))]):=by
 refine f_n Tryz.func8 ?_ ?_;exact ae (aR (dU l)) ai;refine r_z 2 ?_;refine r_c 7 (fs_List l hl hb) ?_;refine a_z ?_;refine r_z 4 ?_;refine aj (Fin.many ⟨_,_,rfl,rfl,⟨_,_,rfl,rfl,rfl⟩⟩ (nle rfl) ?_);exact af (ah aB (aR (aL _))) (af (ah aB (aR (kJ _))) ax)
theorem dec_one{n:Nat}(h:Lib.decDigits n=[49]):n=1:=by
 by_cases h1:n< 10;rw[Lib.decDigits_one h1] at h;have:∀n,n< 10→[UInt8.ofNat (48+n)]=[49]→n=1:=by decide
 exact this n h1 h;have h2:=Lib.decDigits_length n;rw[h,Lib.nDigits_big h1] at h2;have:=Lib.nDigits_pos (n/ 10);simp at h2;omega
theorem BI(n:Nat):ztx (n:Int)=Lib.decDigits n:=by
 unfold ztx;rw[if_neg (by omega),Int.natAbs_natCast];rfl
theorem BJ(z:Int):(ztx z).length≤bl z.natAbs+2:=by
 have:=ua z.natAbs;unfold ztx;split <;> simp <;> omega
theorem Fo(x:RQ)(hx:rok x)(h:qs x.1≤68719476736):FS 68 [.agg (rC x)] (tx (qtx x.1)):=by
 have hn:=Nat.le_trans (c9 x.1) h;have hd:=Nat.le_trans (c7 x.1) h;have zn:=yQ x.1.num hn;have zd:=yQ (x.1.den:Int) (by rw[Int.natAbs_natCast];exact hd);have ln:=BJ x.1.num;have ld:=BJ (x.1.den:Int);rw[Int.natAbs_natCast] at ld;have hcx:Closed (.aptr [rC x] 0 0):=ba (c8 x);refine f_c Tryz.func68 ?_;refine r_z 2 ?_;by_cases h1:x.1.den=1;have e1:decide (ztx (x.1.den:Int)=[49])=true:=decide_eq_true (by rw[h1];decide+kernel);refine ac (r_c 4 (eX x hx) ?_);refine c_s (zd) ?_;refine o_0 (.bin rfl rfl (vT gU e1)) ?_;refine an ?_;refine cT (r_c 4 (zn) ?_);refine a_z ?_;exact aj (aN rfl (by rw[EG,if_pos h1,List.append_nil]) (ag _));have e1:decide (ztx (x.1.den:Int)=[49])=false:=decide_eq_false fun e=>h1 (dec_one (by rw[←BI];exact e));refine ac (r_c 4 (eX x hx) ?_);refine c_s (zd) ?_;refine o_0 (.bin rfl rfl (vF gU e1)) ?_;refine an ?_;refine cF (ak (ac (r_d hmix 9 ?_)));refine c_s (zn) ?_;refine o_0 (.bin rfl rfl (eQ (m:=[47]) (by simp;omega))) ?_;refine c_s (eX x hx) ?_;refine c_s (zd) ?_;refine o_0 (.bin rfl rfl (eQ (by simp;omega))) ?_;refine a_1 ?_;refine an (n_k ?_);exact aj (aN rfl (by rw[EG,if_neg h1,BI,List.append_assoc];rfl) (ag _))
theorem yR(q:Rat)(x:RQ)(hx:rok x)(h:x.1=q)(hs:qs q≤68719476736):FS 16 [.agg (qC q),.agg (rC x)] (bln true):=by
 subst h;have e1:decide (qtx x.1=qtx x.1)=true:=decide_eq_true rfl;refine f_c Tryz.func16 ?_;refine r_z 3 ?_;refine ac (r_d hmix 6 ?_);refine c_s (DM x.1 hs) ?_;refine c_s (Fo x hx hs) ?_;refine o_0 (.bin rfl rfl (vT gU e1)) ?_;refine a_1 ?_;refine an (n_k ?_);exact aj (t_e (ag _))
def vR(x:List RQ):Lq:=x.map (·.1)
def okX(x:List RQ):Prop:=∀y∈x,rok y
def jH(x:List RQ):List RQ:=x.take (av (vR x)).length
theorem BN(x:List RQ):vR (jH x)=av (vR x):=by
 unfold jH;rw[vR,List.map_take];exact(pM (vR x)).symm
theorem ET{x:List RQ}(h:okX x):okX (jH x):=fun y hy=>h y (List.mem_of_mem_take hy)
@[simp] theorem jg (x:List RQ):(vR x).length=x.length:=by simp[vR]
def lkS(l:Lq)(x:List RQ):Nat→AState
 |i=>⟨[(0,.arr (pE l)),(1,.arr (rE x)),(5,i64 i)],[],1,27⟩
theorem FF(l:Lq)(x:List RQ)(hx:okX x)(h:vR x=l)(hs:bdL l 68719476736)(hl:l.length≤1099511627776):FS 67 [.arr (pE l),.arr (rE x)] (bln true):=by
 have hxl:x.length=l.length:=by rw[←h];simp
 refine f_c Tryz.func67 ?_;refine r_z 1 ?_;refine ac (s_r 5 ?_);refine a_4 ?_;refine o_0 (.bin rfl rfl (vF cv ((by rw[hxl];simp)))) ?_;refine an ?_;refine cF (ak (ac (r_z 1 ?_)));refine aI (fun _:Unit=>⟨[(0,.arr (pE l)),(1,.arr (rE x))],[],1,27⟩) (fun _=>True) ?_ ?_;refine am (aC (lkS l x) (fun i=>l.length- i) (fun i=>i≤l.length) 0 (Nat.zero_le _) ?_ ?_);simp only[lkS.eq_1];exact s_e [];rintro i hi;simp only[lkS.eq_1];by_cases hlt:i< l.length;obtain⟨y,hy⟩:∃y,x[i]?=some y:=⟨_,List.getElem?_eq_getElem (by omega)⟩;have hq:l[i]?=some y.1:=by rw[←h,vR,List.getElem?_map,hy];rfl
 have g1:(pE l)[((i:Nat):Int).toNat]?=some (qC y.1):=b7 hq;have g2:(rE x)[((i:Nat):Int).toNat]?=some (rC y):=jT hy;refine ac (q_z 4 ?_);refine cT (ak (ac (am (ac (r_d hmix 10 ?_)))));refine a_2 ?_;refine i_x g1 ?_;refine l_x g1 ?_;refine a_2 ?_;refine i_x g2 ?_;refine l_x g2 ?_;refine c_s (yR y.1 y (hx y (List.mem_of_getElem? hy)) rfl (hs _ (List.mem_of_getElem? hq))) ?_;refine a_1 ?_;refine an (n_k ?_);refine cF (ak (r_m 3 ?_));refine a_z ?_;refine⟨i+1,by omega,hlt,?_⟩;exact s_e [];refine ac (q_z 4 ?_);refine cF (aA ⟨(),trivial,?_⟩);exact s_e [];rintro _ _;refine r_z 1 ?_;exact aj (t_e (ag _))
def rtmS(x:List RQ):Nat→AState
 |n=>⟨[(0,.arr (rE x)),(3,i64 n)],[],1,23⟩
theorem ky(x:List RQ)(hl:x.length≤1099511627776):FS 36 [.arr (rE x)] (.arr (rE (jH x))):=by
 obtain⟨v,hv⟩:∃v,v=vR x:=⟨_,rfl⟩;have hvl:v.length=x.length:=by rw[hv];simp
 refine f_c Tryz.func36 ?_;refine r_z 1 ?_;refine r_z 3 ?_;refine aU (rtmS x) (fun n=>n≤v.length∧av v=v.take n) ?_ ?_;refine am (aC (rtmS x) (fun n=>n) (fun n=>n≤v.length∧av v=av (v.take n)) v.length ⟨Nat.le_refl _,by rw[List.take_length]⟩ ?_ ?_);simp only[rtmS.eq_1];rw[hvl];exact s_e [];rintro n ⟨hn,ht⟩;simp only[rtmS.eq_1];cases n with
 |zero=>
  refine ac (s_r 11 ?_);refine a_1 ?_;refine o_0 (.bin rfl rfl (vF cS ((by simp)))) ?_;refine a_z ?_;refine cF (aA ⟨0,⟨Nat.zero_le _,?_⟩,?_⟩);rw[ht];rfl;simp only[rtmS.eq_1];exact s_e []
 |succ n=>
  obtain⟨y,hy⟩:∃y,x[n]?=some y:=⟨_,List.getElem?_eq_getElem (by omega)⟩;have hq:v[n]?=some y.1:=by rw[hv,vR,List.getElem?_map,hy];rfl
  have g2:(rE x)[(((n+1:Nat):Int)- 1).toNat]?=some (rC y):=by
   rw[show(((n+1:Nat):Int)- 1).toNat=n by omega];exact jT hy
  have hs:av (v.take (n+1))=if y.1=0 then av (v.take n) else v.take (n+1):=by
   rw[dA hq,kU]
  by_cases h0:y.1=0;refine ac (s_r 11 ?_);refine d_6 ?_
  first|refine aE rfl rfl rfl (.index_l rfl rfl (by omega) (by omega) te_32.h) rfl rfl ?_|refine aE rfl rfl rfl (.index_a rfl rfl (by omega) g2 rfl te_32.h) rfl rfl ?_
  first|refine aE rfl rfl rfl (.load_l rfl rfl g2 TG.h TS.h (nle rfl)) rfl rfl ?_|refine aE rfl rfl rfl (.load_a rfl g2 TG.h TS.h (nle rfl)) rfl rfl ?_
  refine c_s (yz y) ?_;refine aE rfl rfl rfl (.bin rfl rfl (vT aJ ((by rw[h0];decide)))) rfl rfl ?_;refine a_z ?_;refine cT (ak (am (r_m 3 ?_)));refine a_z ?_;refine⟨n,Nat.lt_succ_self n,⟨by omega,?_⟩,?_⟩;rw[ht,hs,if_pos h0];exact s_e []
  have hz:(sgZ y.1.num==(0:Int))=false:=by
   rw[beq_eq_false_iff_ne];exact fun e=>h0 (sgZ_num_eq.1 e)
  refine ac (s_r 11 ?_);refine d_6 ?_
  first|refine aE rfl rfl rfl (.index_l rfl rfl (by omega) (by omega) te_32.h) rfl rfl ?_|refine aE rfl rfl rfl (.index_a rfl rfl (by omega) g2 rfl te_32.h) rfl rfl ?_
  first|refine aE rfl rfl rfl (.load_l rfl rfl g2 TG.h TS.h (nle rfl)) rfl rfl ?_|refine aE rfl rfl rfl (.load_a rfl g2 TG.h TS.h (nle rfl)) rfl rfl ?_
  refine c_s (yz y) ?_;refine aE rfl rfl rfl (.bin rfl rfl (vF aJ (hz))) rfl rfl ?_;refine a_z ?_;refine cF (aA ⟨n+1,⟨hn,?_⟩,?_⟩);rw[ht,hs,if_neg h0];simp only[rtmS.eq_1];exact s_e []
 rintro n ⟨hn,ht⟩;simp only[rtmS.eq_1];have hnl:(av v).length=n:=by rw[ht];simp;omega
 have htr:jH x=x.take n:=by unfold jH;rw[←hv,hnl]
 cases n with
 |zero=>
  refine s_r 5 ?_;refine a_2 ?_;refine o_0 (.sa_h rfl rfl (h:=0) rfl (by simp) te_32.h (rA _)) ?_;refine o_0 (.append0 rfl rfl rfl te_32.h rfl rfl rfl (.arr (es:=[]) (by simp))) ?_;refine a_z ?_;refine aj ?_;rw[htr];exact Fin.tmpN rfl
 |succ n=>
  obtain⟨X,hX⟩:∃X,X=x.take (n+1):=⟨_,rfl⟩;have hXl:X.length=n+1:=by rw[hX];simp;omega
  have hXn:rE X≠[]:=fun e=>by have:=congrArg List.length e;simp[hXl] at this
  have e4:(rE x).take (n+1)=rE X:=by rw[rE_take,hX]
  have hXn':(rE x).take (n+1)≠[]:=by rw[e4];exact hXn
  refine s_r 5 ?_;refine a_2 ?_;refine o_0 (.sa_h rfl rfl (h:=n+1) rfl (by simp;omega) te_32.h (rA _)) ?_;refine o_1 (.append_e rfl rfl rfl te_32.h rfl rfl rfl (.arr (by rw[e4];exact rA _)) (by first|assumption|(simp;done)) TZ.h rfl TB.h d_o (by first|(simp[maxLen];done)|(simp[maxLen];omega))) ?_;refine a_z ?_;refine aj ?_;rw[htr,←hX,←e4];exact Fin.tmpS rfl rfl rfl rfl (by rw[e4];exact fJ _)
theorem Fy(l:Lq)(x:List RQ)(hx:okX x)(h:av (vR x)=l)(hs:bdL l 68719476736)(hl:x.length≤1099511627776):FS 15 [.arr (pE l),.arr (rE x)] (bln true):=by
 have hll:l.length≤x.length:=by rw[←h];have:=b9 (vR x);simpa using this
 refine f_c Tryz.func15 ?_;refine r_z 1 ?_;refine r_c 5 (ky x hl) ?_;refine c_s (FF l (jH x) (ET hx) ((BN x).trans h) hs (by omega)) ?_;refine a_z ?_;exact aj (t_e (ag _))
def oS(t n:Nat)(fr:Fr):List RQ→AState
 |[]=>⟨(t,.emp)::fr,[],1,n⟩
 |y::Y=>⟨(t,.lsl 1 0 (Y.length+1) none 4)::fr,[(1,some ⟨49,4,rE (y::Y)⟩)],2,n⟩
theorem jU(t n:Nat)(fr:Fr):oS t n fr []=⟨(t,.emp)::fr,[],1,n⟩:=rfl
theorem ez(t n:Nat)(fr:Fr)(y:RQ)(Y:List RQ):oS t n fr (y::Y)=⟨(t,.lsl 1 0 (Y.length+1) none 4)::fr,[(1,some ⟨49,4,rE (y::Y)⟩)],2,n⟩:=rfl
def rP(v:Lq):List RQ:=v.map rq
theorem eD(v:Lq):okX (rP v):=fun y hy=>by obtain⟨q,_,rfl⟩:=List.mem_map.1 hy;exact cY q
theorem cW(v:Lq):vR (rP v)=v:=by
 unfold vR rP;rw[List.map_map];exact List.map_id' v
@[simp] theorem mJ (v:Lq):(rP v).length=v.length:=by simp[rP]
theorem ov(v:Lq):jH (rP v)=rP (av v):=by
 unfold jH;rw[cW,rP,←List.map_take,←pM];rfl
theorem nU{x:List RQ}{i:Nat}(h:i< x.length):∃y,x[i]?=some y∧y.1=coP (vR x) i:=by
 refine⟨_,List.getElem?_eq_getElem h,?_⟩;unfold coP vR;rw[List.getD_eq_getElem?_getD,List.getElem?_map,List.getElem?_eq_getElem h];rfl
theorem uK{x:List RQ}{s:Nat}(h:bdL (vR x) s){y:RQ}{i:Nat}(hy:x[i]?=some y):qs y.1≤s:=h _ (List.mem_map.2 ⟨y,List.mem_of_getElem? hy,rfl⟩)
theorem take_succ'{V:Lq}{j:Nat}(h:j< V.length):V.take (j+1)=V.take j++[coP V j]:=dA (bv h)
theorem jn(x:List RQ)(k:RQ)(s:Nat)(hx:okX x)(hk:rok k)(hs:bdL (vR x) s)(hlim:s+qs k.1≤1099511627776)(hl:x.length≤1000000):FS 63 [.arr (rE x),.agg (rC k)] (.arr (rE (rP (aW (vR x) k.1)))):=by
 obtain⟨V,hV⟩:∃V,V=bR (vR x).length (fun i=>coP (vR x) i* k.1):=⟨_,rfl⟩;refine f_c Tryz.func63 ?_;have hkc:Closed (.aptr [rC k] 0 0):=ba (c8 k);refine r_z 2 ?_;refine AWp.ent (st':=⟨[(3,.aptr [rC k] 0 0),(0,.arr (rE x))],[],1,24⟩) ?_ ?_;have:=c8 k;exact s_f [];refine r_z 1 ?_;refine ac (r_z 1 ?_);have hVl:V.length=x.length:=by rw[hV];simp
 refine aI (fun _:Unit=>oS 5 24 [(3,.aptr [rC k] 0 0),(0,.arr (rE x))] (rP V)) (fun _=>True) ?_ ?_;refine am (aC (fun j:Nat=>oS 5 24 [(6,i64 ((j:Nat):Int)),(3,.aptr [rC k] 0 0),(0,.arr (rE x))] (rP (V.take j))) (fun j=>V.length- j) (fun j=>j≤V.length) 0 (Nat.zero_le _) ?_ ?_);show SEnt _ (oS _ _ _ []);rw[jU];exact s_e [];rintro j hj;by_cases hlt:j< V.length;obtain⟨y,hy,hyv⟩:=nU (x:=x) (i:=j) (by omega);have hyb:=uK hs hy;have hyo:=hx y (List.mem_of_getElem? hy);have hgt:(rE x)[((j:Nat):Int).toNat]?=some (rC y):=jT hy;obtain⟨c,hc⟩:∃c,c=y.1* k.1:=⟨_,rfl⟩;have hco:coP V j=c:=by rw[hV,mY,if_pos (by simp;omega),←hyv,hc]
 have hm:=rJ y k hyo hk (by omega);rw[←hc] at hm;have htk:=take_succ' hlt;rw[hco] at htk;have hrp:rP (V.take (j+1))=rP (V.take j)++[rq c]:=by rw[htk];simp[rP]
 have hQl:(rP (V.take j)).length=j:=by simp;omega
 cases hQ:rP (V.take j) with
 |nil=>
  rw[hQ,List.nil_append] at hrp;simp only[jU];refine ac (q_z 4 ?_);refine cT (ak (ac (am (r_d hmix 10 ?_))));refine a_3 ?_;refine i_x hgt ?_;refine l_x hgt ?_;refine c_s (hm) ?_;refine a_3 ?_;refine an (n_k ?_);refine r_m 3 ?_;refine a_z ?_;refine⟨j+1,by omega,hlt,?_⟩;rw[hrp,ez];exact s_f [(1,5)]
 |cons q Q=>
  rw[hQ] at hQl;rw[hQ,List.cons_append] at hrp;simp at hQl;simp only[ez];refine ac (q_z 4 ?_);refine cT (ak (ac (am (r_d hmix 10 ?_))));refine a_3 ?_;refine i_x hgt ?_;refine l_x hgt ?_;refine c_s (hm) ?_;refine a_3 ?_;refine an (n_k ?_);refine r_m 3 ?_;refine a_z ?_;refine⟨j+1,by omega,hlt,?_⟩;rw[hrp,ez];have e:rE (q::Q)++[rC (rq c)]=rE (q::(Q++[rq c])):=by simp[rE]
  exact s_x [(1,5)] (fun hs=>db) (fun hs=>e_11) e_1
 have hge:j=V.length:=by omega
 subst hge;rw[List.take_length];cases hQ:rP V with
 |nil=>
  simp only[jU];refine ac (q_z 4 ?_);refine cF (aA ⟨(),trivial,?_⟩);exact s_e []
 |cons q Q=>
  simp only[ez];refine ac (q_z 4 ?_);refine cF (aA ⟨(),trivial,?_⟩);exact s_f [(1,5)]
 rintro _ _;have htr:=ky (rP V) (by simp;omega);rw[ov] at htr;cases hQ:rP V with
 |nil=>
  rw[hQ] at htr;simp only[jU];refine r_c 3 (htr) ?_;refine a_z ?_;refine aj (aN rfl ?_ ?_);rw[hV];rfl;exact b8 _
 |cons q Q=>
  rw[hQ] at htr;simp only[ez];refine s_r 3 ?_;refine a_1 ?_;refine o_1 (.callS1 rfl rfl rfl (.shut rfl d_n (.nil)) rfl ((FSpec.argE htr (by rw[List.drop_zero];exact List.take_of_length_le (by simp))))) ?_;refine a_z ?_;refine aj (aN rfl ?_ ?_);rw[hV];rfl;exact b8 _
@[simp] theorem kT (x:List RQ):(jH x).length=(av (vR x)).length:=by rw[←BN,jg]
theorem tz(x:List RQ)(hl:x.length≤1000000):FS 9 [.arr (rE x)] (i64 (cC (vR x))):=by
 have htl:=b9 (vR x);rw[jg,←kT] at htl;refine f_c Tryz.func9 ?_;refine r_z 1 ?_;refine r_c 5 (ky x (by omega)) ?_;refine a_z ?_;exact aj (aN rfl (by rw[kT];rfl) (ag _))
theorem yB(x:List RQ)(y:RQ)(hl:x.length≤1000000)(hy:(jH x).getLastD (rq 0)=y):FS 61 [.arr (rE x)] (.agg (rC y)):=by
 have hi0:FS 59 [i64 0] (.agg (rC (rq 0))):=jb 0 (by decide);have htr:(jH x).length≤x.length:=by rw[kT,←jg x];exact b9 _
 refine f_c Tryz.func61 ?_;refine r_z 1 ?_;refine r_c 3 (ky x (by omega)) ?_;refine a_z ?_;cases hX:jH x with
 |nil=>
  rw[hX] at hy;cases hy;refine ac (s_r 3 ?_);refine a_2 ?_;refine o_0 (.bin rfl rfl (vT aJ (decide_eq_true (by simp)))) ?_;refine an ?_;refine cT (r_c 2 (hi0) ?_);refine a_z ?_;exact aj (c_e (fj (rq 0)))
 |cons a A=>
  rw[hX] at htr;rw[hX] at hy
  have hg:(rE (a::A))[(((a::A).length:Int)- 1).toNat]?=some (rC y):=by
   refine jT ?_;rw[show(((a::A).length:Int)- 1).toNat=A.length by simp,←hy];rw[List.getLastD_eq_getLast?,List.getLast?_eq_getElem?];simp
  refine ac (s_r 3 ?_);refine a_2 ?_;refine o_0 (.bin rfl rfl (vF aJ (decide_eq_false (by simp;omega)))) ?_;refine an ?_;refine cF (ak ?_);have hln:(a::A).length=A.length+1:=rfl;refine s_r 7 ?_;refine a_4 ?_;refine i_x hg ?_;refine l_x hg ?_;refine a_z ?_;exact aj (c_e (fj y))
theorem pi(q:Rat):FS 120 [.agg (rC (rq q))] (.arr (rE (rP (fe q)))):=by
 have htr:=ky (rP [q]) (by simp);rw[ov] at htr;refine f_c Tryz.func120 ?_;refine r_z 2 ?_;refine s_r 4 ?_;refine a_2 ?_;refine o_1 (.callS1 rfl rfl rfl (.shut rfl d_n (.nil)) rfl ((FSpec.argE htr (by rw[List.drop_zero];exact List.take_of_length_le (by simp))))) ?_;refine a_z ?_;exact aj (t_e (b8 _))
theorem pk(x y:List RQ)(s t:Nat)(hx:okX x)(hy:okX y)(hs:bdL (vR x) s)(ht:bdL (vR y) t)(hlim:s+t+64≤1099511627776)(hxl:x.length≤1000000)(hyl:y.length≤1000000):FS 64 [.arr (rE x),.arr (rE y)] (.arr (rE (rP (ik (vR x) (vR y))))):=by
 obtain⟨V,hV⟩:∃V,V=bR (max (vR x).length (vR y).length) (fun i=>coP (vR x) i+coP (vR y) i):=⟨_,rfl⟩;have hi0:FS 59 [i64 0] (.agg (rC (rq 0))):=jb 0 (by decide);have q0:qs (rq 0).1≤64:=by decide
 refine f_c Tryz.func64 ?_;refine r_z 1 ?_;refine r_z 1 ?_;refine ac (r_z 1 ?_);have hVl:V.length=max x.length y.length:=by rw[hV];simp
 refine aI (fun _:Unit=>oS 5 47 [(0,.arr (rE x)),(1,.arr (rE y))] (rP V)) (fun _=>True) ?_ ?_;refine am (aC (fun j:Nat=>oS 5 47 [(6,i64 ((j:Nat):Int)),(0,.arr (rE x)),(1,.arr (rE y))] (rP (V.take j))) (fun j=>V.length- j) (fun j=>j≤V.length) 0 (Nat.zero_le _) ?_ ?_);show SEnt _ (oS _ _ _ []);rw[jU];exact s_e [];rintro j hj;have hQl:(rP (V.take j)).length=j:=by simp;omega
 by_cases hjx:j< x.length;by_cases hjy:j< y.length;obtain⟨a,ha,hav⟩:=nU (x:=x) (i:=j) hjx;have hab:=uK hs ha;have hao:=hx a (List.mem_of_getElem? ha);have hgx:(rE x)[((j:Nat):Int).toNat]?=some (rC a):=jT ha;obtain⟨b,hb,hbv⟩:=nU (x:=y) (i:=j) hjy;have hbb:=uK ht hb;have hbo:=hy b (List.mem_of_getElem? hb);have hgy:(rE y)[((j:Nat):Int).toNat]?=some (rC b):=jT hb;obtain⟨c,hc⟩:∃c,c=a.1+b.1:=⟨_,rfl⟩;have hco:coP V j=c:=by rw[hV,mY,if_pos (by simp;omega),←hav,←hbv,hc]
 have m1:=lD (rq 0) a (cY _) hao (by omega);rw[show(rq 0).1+a.1=a.1 from Rat.zero_add _] at m1;have m2:=lD (rq a.1) b (cY _) hbo (by show qs a.1+qs b.1≤_;omega);rw[show(rq a.1).1+b.1=c by rw[hc];rfl] at m2;have htk:=take_succ' (V:=V) (j:=j) (by omega);rw[hco] at htk;have hrp:rP (V.take (j+1))=rP (V.take j)++[rq c]:=by rw[htk];simp[rP]
 cases hQ:rP (V.take j) with
 |nil=>
  rw[hQ,List.nil_append] at hrp;simp only[jU];refine ac (q_z 10 ?_);refine cT (ak (ac (am (r_c 3 (hi0) ?_))));refine a_z ?_;refine ac (q_z 4 ?_);refine cT (r_d hmix 7 ?_);refine a_3 ?_;refine i_x hgx ?_;refine l_x hgx ?_;refine c_s (m1) ?_;refine a_1 ?_;refine an (n_k ?_);refine ac (q_z 4 ?_);refine cT (r_d hmix 7 ?_);refine a_3 ?_;refine i_x hgy ?_;refine l_x hgy ?_;refine c_s (m2) ?_;refine a_1 ?_;refine an (n_k ?_);refine r_m 5 ?_;refine a_z ?_;refine r_m 3 ?_;refine a_z ?_;refine⟨j+1,by omega,by omega,?_⟩;rw[hrp,ez];exact s_f [(1,5)]
 |cons q Q=>
  rw[hQ] at hQl;rw[hQ,List.cons_append] at hrp;simp at hQl;simp only[ez];refine ac (q_z 10 ?_);refine cT (ak (ac (am (r_c 3 (hi0) ?_))));refine a_z ?_;refine ac (q_z 4 ?_);refine cT (r_d hmix 7 ?_);refine a_3 ?_;refine i_x hgx ?_;refine l_x hgx ?_;refine c_s (m1) ?_;refine a_1 ?_;refine an (n_k ?_);refine ac (q_z 4 ?_);refine cT (r_d hmix 7 ?_);refine a_3 ?_;refine i_x hgy ?_;refine l_x hgy ?_;refine c_s (m2) ?_;refine a_1 ?_;refine an (n_k ?_);refine r_m 5 ?_;refine a_z ?_;refine r_m 3 ?_;refine a_z ?_;refine⟨j+1,by omega,by omega,?_⟩;rw[hrp,ez];have e:rE (q::Q)++[rC (rq c)]=rE (q::(Q++[rq c])):=by simp[rE]
  exact s_x [(1,5)] (fun hs=>db) (fun hs=>e_11) e_1
 obtain⟨a,ha,hav⟩:=nU (x:=x) (i:=j) hjx;have hab:=uK hs ha;have hao:=hx a (List.mem_of_getElem? ha);have hgx:(rE x)[((j:Nat):Int).toNat]?=some (rC a):=jT ha;obtain⟨c,hc⟩:∃c,c=a.1:=⟨_,rfl⟩;have hco:coP V j=c:=by rw[hV,mY,if_pos (by simp;omega),←hav,jf (p:=vR y) (by simp;omega),Rat.add_zero,hc]
 have m1:=lD (rq 0) a (cY _) hao (by omega);rw[show(rq 0).1+a.1=a.1 from Rat.zero_add _] at m1;rw[←hc] at m1;have htk:=take_succ' (V:=V) (j:=j) (by omega);rw[hco] at htk;have hrp:rP (V.take (j+1))=rP (V.take j)++[rq c]:=by rw[htk];simp[rP]
 cases hQ:rP (V.take j) with
 |nil=>
  rw[hQ,List.nil_append] at hrp;simp only[jU];refine ac (q_z 10 ?_);refine cT (ak (ac (am (r_c 3 (hi0) ?_))));refine a_z ?_;refine ac (q_z 4 ?_);refine cT (r_d hmix 7 ?_);refine a_3 ?_;refine i_x hgx ?_;refine l_x hgx ?_;refine c_s (m1) ?_;refine a_1 ?_;refine an (n_k ?_);refine ac (q_z 4 ?_);refine cF (ak (r_m 5 ?_));refine a_z ?_;refine r_m 3 ?_;refine a_z ?_;refine⟨j+1,by omega,by omega,?_⟩;rw[hrp,ez];exact s_f [(1,5)]
 |cons q Q=>
  rw[hQ] at hQl;rw[hQ,List.cons_append] at hrp;simp at hQl;simp only[ez];refine ac (q_z 10 ?_);refine cT (ak (ac (am (r_c 3 (hi0) ?_))));refine a_z ?_;refine ac (q_z 4 ?_);refine cT (r_d hmix 7 ?_);refine a_3 ?_;refine i_x hgx ?_;refine l_x hgx ?_;refine c_s (m1) ?_;refine a_1 ?_;refine an (n_k ?_);refine ac (q_z 4 ?_);refine cF (ak (r_m 5 ?_));refine a_z ?_;refine r_m 3 ?_;refine a_z ?_;refine⟨j+1,by omega,by omega,?_⟩;rw[hrp,ez];have e:rE (q::Q)++[rC (rq c)]=rE (q::(Q++[rq c])):=by simp[rE]
  exact s_x [(1,5)] (fun hs=>db) (fun hs=>e_11) e_1
 by_cases hjy:j< y.length;obtain⟨b,hb,hbv⟩:=nU (x:=y) (i:=j) hjy;have hbb:=uK ht hb;have hbo:=hy b (List.mem_of_getElem? hb);have hgy:(rE y)[((j:Nat):Int).toNat]?=some (rC b):=jT hb;obtain⟨c,hc⟩:∃c,c=b.1:=⟨_,rfl⟩;have hco:coP V j=c:=by rw[hV,mY,if_pos (by simp;omega),jf (p:=vR x) (by simp;omega),←hbv,Rat.zero_add,hc]
 have m2:=lD (rq 0) b (cY _) hbo (by omega);rw[show(rq 0).1+b.1=c by rw[hc];exact Rat.zero_add _] at m2;have htk:=take_succ' (V:=V) (j:=j) (by omega);rw[hco] at htk;have hrp:rP (V.take (j+1))=rP (V.take j)++[rq c]:=by rw[htk];simp[rP]
 cases hQ:rP (V.take j) with
 |nil=>
  rw[hQ,List.nil_append] at hrp;simp only[jU];refine ac (q_z 10 ?_);refine cT (ak (ac (am (r_c 3 (hi0) ?_))));refine a_z ?_;refine ac (q_z 4 ?_);refine cF (ak (ac (q_z 4 ?_)));refine cT (r_d hmix 7 ?_);refine a_3 ?_;refine i_x hgy ?_;refine l_x hgy ?_;refine c_s (m2) ?_;refine a_1 ?_;refine an (n_k ?_);refine r_m 5 ?_;refine a_z ?_;refine r_m 3 ?_;refine a_z ?_;refine⟨j+1,by omega,by omega,?_⟩;rw[hrp,ez];exact s_f [(1,5)]
 |cons q Q=>
  rw[hQ] at hQl;rw[hQ,List.cons_append] at hrp;simp at hQl;simp only[ez];refine ac (q_z 10 ?_);refine cT (ak (ac (am (r_c 3 (hi0) ?_))));refine a_z ?_;refine ac (q_z 4 ?_);refine cF (ak (ac (q_z 4 ?_)));refine cT (r_d hmix 7 ?_);refine a_3 ?_;refine i_x hgy ?_;refine l_x hgy ?_;refine c_s (m2) ?_;refine a_1 ?_;refine an (n_k ?_);refine r_m 5 ?_;refine a_z ?_;refine r_m 3 ?_;refine a_z ?_;refine⟨j+1,by omega,by omega,?_⟩;rw[hrp,ez];have e:rE (q::Q)++[rC (rq c)]=rE (q::(Q++[rq c])):=by simp[rE]
  exact s_x [(1,5)] (fun hs=>db) (fun hs=>e_11) e_1
 have hge:V.take j=V:=List.take_of_length_le (by omega);rw[hge];cases hQ:rP V with
 |nil=>
  simp only[jU];refine ac (q_z 10 ?_);refine cF (aA ⟨(),trivial,?_⟩);exact s_e []
 |cons q Q=>
  simp only[ez];refine ac (q_z 10 ?_);refine cF (aA ⟨(),trivial,?_⟩);exact s_f [(1,5)]
 rintro _ _;have htr:=ky (rP V) (by simp;omega);rw[ov] at htr;cases hQ:rP V with
 |nil=>
  rw[hQ] at htr;simp only[jU];refine r_c 3 (htr) ?_;refine a_z ?_;refine aj (aN rfl ?_ ?_);rw[hV];rfl;exact b8 _
 |cons q Q=>
  rw[hQ] at htr;simp only[ez];refine s_r 3 ?_;refine a_1 ?_;refine o_1 (.callS1 rfl rfl rfl (.shut rfl d_n (.nil)) rfl ((FSpec.argE htr (by rw[List.drop_zero];exact List.take_of_length_le (by simp))))) ?_;refine a_z ?_;refine aj (aN rfl ?_ ?_);rw[hV];rfl;exact b8 _
theorem Ah:rq (((-1:Int)):Rat)=rq (-1):=rfl
theorem yy(x y:List RQ)(s t:Nat)(hx:okX x)(hy:okX y)(hs:bdL (vR x) s)(ht:bdL (vR y) t)(ht1:1≤t)(hlim:s+t+128≤1099511627776)(hxl:x.length≤1000000)(hyl:y.length≤1000000):FS 62 [.arr (rE x),.arr (rE y)] (.arr (rE (rP (dH (vR x) (vR y))))):=by
 have h1:=jb (-1) (by decide);rw[Ah] at h1;have q1:qs (rq (-1)).1≤64:=by decide
 have h2:=jn y (rq (-1)) t hy (cY _) ht (by omega) hyl
 have hb:bdL (vR (rP (aW (vR y) (rq (-1)).1))) t:=by
  rw[cW];exact bdL_neg ht ht1
 have hlen:(rP (aW (vR y) (rq (-1)).1)).length≤y.length:=by
  have:=b9 (bR (vR y).length fun i=>coP (vR y) i* (rq (-1)).1);rw[mJ];unfold aW;simp at this⊢;exact this
 have h3:=pk x (rP (aW (vR y) (rq (-1)).1)) s t hx (eD _) hs hb (by omega) hxl (by omega);rw[cW] at h3;refine f_c Tryz.func62 ?_;refine r_z 1 ?_;refine r_c 6 (h1) ?_;refine c_s (h2) ?_;refine c_s (h3) ?_;refine a_z ?_;exact aj (t_e (b8 _))
end Go.Proofs.YtjgokhkahkmpbaaGreatDoor
