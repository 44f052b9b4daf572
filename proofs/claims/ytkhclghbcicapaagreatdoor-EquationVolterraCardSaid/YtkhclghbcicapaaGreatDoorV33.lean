/- Part V33 of the proof. -/
import Derived.Test.YtkhclghbcicapaaGreatDoorV32
set_option linter.all false
namespace Go.Proofs.YtkhclghbcicapaaGreatDoor
open Go.Abs
set_option maxRecDepth 100000
set_option maxHeartbeats 4000000
def sqR(n:Nat)(A:Mx):List (List Rat):=(List.range n).map fun k=>aW n (A k)
@[simp] theorem sqR_length (n:Nat)(A:Mx):(sqR n A).length=n:=by simp[sqR]
theorem sqR_get{n i:Nat}{A:Mx}(h:i< n):(sqR n A)[i]?=some (aW n (A i)):=by simp[sqR,h]
theorem Fk(n:Nat)(A:Mx):(fiL A n n).map (fun e=>([.arr e]:List AV))=mE (sqR n A):=by
 rw[fiL_rwL,Hs];rfl
theorem DF(k:Ke)(a b:Rat)(h:OkMa k a b):FS 92 [.arr (kE k),.agg (spC a b)] (.arr (mE (sqR k.length (maK k a b)))):=by
 have:=(sM k a b h).shut rfl (ac (aX k) (ac (aB (bi a b)) ag))
  (Cv.mzShut (r:=⟨0,fun i=>i⟩) (show(3:Nat)≠0 by decide) ay (fun _=>rfl) (mS _ _ _).symm (fun i e h=>by have:=(ql h).2;subst this;simp[pE]) fun e f x d c hc=>by
   obtain⟨k,_,rfl⟩:=List.mem_map.1 f;exact aV _ x d c hc) (by rw[Fk];exact closed_mA _)
 rw[Fk] at this;exact this
def trQ(A:Mx)(i:Nat):Rat:=sQ (fun t=>A t t) i
def tcS(pM:Nat→Mx)(n ll j:Nat):Nat→AState
 |i=>⟨[(0,.v (.func (.yield ll) #[] #[])),(1,bM (sqR n (pM 0))),(3,.arr (mE (sqR n (pM j)))),(4,.lptr 1 0 0),(11,i64 n),(12,i64 i)],[(1,some ⟨34,3,[qC (trQ (pM j) i)]⟩)],2,29⟩
theorem F9(pM:Nat→Mx)(n K:Nat)(hn:n≤25)(hs:∀j,j≤K→∀i,i< n→qs (trQ (pM j) i)+qs (pM j i i)≤549755813888)(hmul:∀j,j< K→FS 169 [.arr (mE (sqR n (pM j))),.arr (mE (sqR n (pM 0)))] (.arr (mE (sqR n (pM (j+1)))))):
    GSpecB Tryz.prog 168 [bM (sqR n (pM 0))] (fun j=>some [.agg (qC (trQ (pM j) n))]) K:=by
 refine GSpecB.enter Tryz.func168 rfl (by kernel_rfl) rfl rfl rfl ?_ ?_ rfl ?_;exact ac (eg _) ag;intro j xs h;cases h;exact ac (aP _) ag;intro ll N hN E;refine GWp.seq ?_;refine GWp.lift ?_;refine r_m 2 ?_;refine a_z ?_;refine GWp.block ?_;refine GWp.loopS (fun j:Nat=>⟨[(0,.v (.func (.yield ll) #[] #[])),(1,bM (sqR n (pM 0))),(3,.arr (mE (sqR n (pM j))))],[],1,29⟩) (fun j=>j) (fun j=>N+1- j) (fun j=>j≤N) 0 (Nat.zero_le _) rfl ?_ ?_;exact s_x [] (fun hs=>e_5) (fun hs=>e_9);intro j m;have k:(mE (sqR n (pM j))).length=n:=by simp
 refine GWp.seq ?_;refine GWp.block ?_;refine GWp.seq ?_;refine GWp.lift ?_;refine r_m 1 ?_;refine a_z ?_;refine GWp.seq ?_;refine GWp.seq ?_;refine GWp.lift ?_;refine r_m 3 ?_;refine a_z ?_;refine GWp.cutT (fun _:Unit=>tcS pM n ll j n) (fun _=>True) ?_ ?_;refine am (aD (tcS pM n ll j) (fun i=>n- i) (fun i=>i≤n) 0 (Nat.zero_le _) ?_ ?_);rw[tcS.eq_1];refine s_x [(1,4)] (fun hs=>e_5) (fun hs=>?_)
 ·repeat' (first|exact aI|refine h_c ?_ ?_|exact CvLL.zeros hs 1|exact cu|refine aG ?_|exact aw|refine ai ?_ ?_|exact ao hs (eg _)|exact ao hs (closed_mA _)|exact bm)
 intro i l;rw[tcS.eq_1];by_cases hlt:i< n;have a:(mE (sqR n (pM j)))[((i:Nat):Int).toNat]?=some [.arr (pE (aW n (pM j i)))]:=zA (sqR_get hlt) _ (by simp);have b:(pE (aW n (pM j i)))[((i:Nat):Int).toNat]?=some (qC (pM j i i)):=ir hlt _ (by simp);have g:(pE (aW n (pM j i))).length=n:=by simp[pE]
 have e:=fD (trQ (pM j) i) (pM j i i) (hs j (by omega) i hlt);refine q_z 1 ?_;refine ae (cT (an (ae (am (r_z 2 ?_)))));refine r_d ba 10 ?_;refine a_3 ?_;refine i_x a ?_;refine l_1 a ?_;refine a_1 ?_;refine i_x b ?_;refine l_x b ?_;refine c_s (e) ?_;refine a_1 ?_;refine au (n_k ?_);refine r_m 2 ?_;refine a_z ?_;refine⟨i+1,by omega,by omega,?_⟩;rw[tcS.eq_1];exact s_x [] (fun hs=>e_5) (fun hs=>e_9);have d:i=n:=by omega
 subst d;refine q_z 1 ?_;refine ae (cF (aA ⟨(),trivial,?_⟩));exact s_x [] (fun hs=>e_5) (fun hs=>e_9);rintro _ _;rw[tcS.eq_1];refine GWp.seq ?_;refine GWp.regY (fr2:=[(0,.v (.func (.yield ll) #[] #[])),(1,bM (sqR n (pM 0))),(3,.arr (mE (sqR n (pM j)))),(25,.v (.func (.yield ll) #[] #[])),(26,.agg (qC (trQ (pM j) n)))]) (hp2:=[]) (nx2:=1) 2 rfl rfl rfl rfl rfl rfl ?_ rfl rfl rfl ?_ ?_ ?_;refine o_0 (.move rfl) ?_;refine ci (.load_l rfl rfl rfl TG.h TS.h (nle rfl)) rfl rfl ?_;refine au ?_;exact s_y [] (fun hs=>e_5) (fun hs=>e_9);rotate_left 2;intro f;refine o_0 (.un rfl pQ) ?_;refine au ?_;rotate_left;rfl;exact ac (aP _) ag;cases f with
 |false=>
  refine GWp.cond rfl (fun h=>?_) (fun h=>?_);exact GWp.ret ⟨.inr rfl,fun h=>by cases h⟩;cases h
 |true=>
  refine GWp.bound fun c=>?_;refine GWp.cond rfl (fun h=>?_) (fun h=>?_);cases h;refine GWp.skip ?_;refine GWp.lift ?_;refine r_m 4 ?_;refine c_s (hmul j (by omega)) ?_;refine a_z ?_;refine⟨rfl,j+1,by omega,c,rfl,?_⟩;exact s_x [] (fun hs=>e_5) (fun hs=>e_9)
theorem Gc(l:List (List Rat)):FS 137 [.arr (mE l)] (.clos 168 [] [bM l]):=by
 refine f_c Tryz.func137 ?_;refine r_z 2 ?_;refine r_z 2 ?_;refine ak (⟨.inr rfl,[_],⟨_,[],rfl,rfl,rfl⟩,?_⟩);exact Cv.clos aw (ai (Cv.boxp ay rfl (fun _ _ h=>by cases h) rfl (ac (closed_mA l) ag)) aw)
def dtS(k:Ke)(M:List (List Rat)):Unit→AState
 |u=>⟨[(2,bKe k),(5,.lptr 1 0 0),(6,.lptr 2 0 0),(20,.clos 168 [] [bM M])],[(1,some ⟨36,1,[[.lsl 3 0 1 none 3]]⟩),(2,some ⟨35,1,[[.emp]]⟩),(3,some ⟨34,3,[qC ((1:Int):Rat)]⟩)],4,60⟩
theorem dtS_mk(k:Ke)(M:List (List Rat))(u:Unit):dtS k M u=⟨[(2,bKe k),(5,.lptr 1 0 0),(6,.lptr 2 0 0),(20,.clos 168 [] [bM M])],[(1,some ⟨36,1,[[.lsl 3 0 1 none 3]]⟩),(2,some ⟨35,1,[[.emp]]⟩),(3,some ⟨34,3,[qC ((1:Int):Rat)]⟩)],4,60⟩:=rfl
def dtX(c:Rat):Unit→AState
 |u=>⟨[(5,.lptr 1 0 0)],[(1,some ⟨36,1,[[.lsl 3 0 2 none 3]]⟩),(3,some ⟨34,3,[qC ((1:Int):Rat),qC c]⟩)],4,60⟩
def dtI(k:Ke)(t:Rat)(w:Nat→Rat)(i:Nat):AState:=⟨[(2,bKe k),(5,.lptr 1 0 0),(6,.lptr 2 0 0),(8,i64 1),(9,.lptr 5 0 0),(28,.lsl 4 0 1 none 3),(29,i64 1),(30,i64 i),(1005,.lptr 1 0 0)],[(1,some ⟨36,1,[[.lsl 3 0 1 none 3]]⟩),(2,some ⟨35,1,[[.lsl 4 0 1 none 3]]⟩),(3,some ⟨34,3,[qC ((1:Int):Rat)]⟩),(4,some ⟨34,3,[qC t]⟩),(5,some ⟨34,3,[qC (w i)]⟩)],6,60⟩
def dtC(t:Rat):Nat→Rat
 |0=>0
 |_+1=>0- t* ((1:Int):Rat)
def deV(t:Rat):List Rat:=[((1:Int):Rat),dtC t 1/ ((1:Int):Rat)]
theorem fs_det1(p:List Rat×List Rat)(a b:Rat)(h:OkMa [p] a b)(hs:qs (maK [p] a b 0 0)≤100000000000):
    FS 86 [.arr (kE [p]),.agg (spC a b)] (.arr (pE (aj (deV (trQ (maK [p] a b) 1))))):=by
 have i1:=ej 1 (by decide);have hm:=DF [p] a b h;obtain⟨A,hA⟩:∃A,A=maK [p] a b:=⟨_,rfl⟩;rw[←hA] at hm hs⊢;have hq1:qs ((1:Int):Rat)≤1:=by decide
 have hgs:=F9 (fun _=>A) 1 0 (by omega) (fun j hj i hi=>by
  obtain rfl:i=0:=by omega
  show qs (0:Rat)+qs (A 0 0)≤_;have:qs (0:Rat)≤1:=by decide
  omega) (fun j hj=>by omega)
 have htr:=Gc (sqR 1 A);obtain⟨t,ht⟩:∃t,t=trQ A 1:=⟨_,rfl⟩
 have hqt:qs t≤100000000002:=by
  rw[ht];show qs (0+A 0 0)≤_;have:=fX 0 (A 0 0);have:qs (0:Rat)≤1:=by decide
  omega
 simp only[←ht] at hgs⊢;have hmu:=cN t ((1:Int):Rat) (by omega)
 have hsu:=lE 0 (t* ((1:Int):Rat)) (by have:=dk t ((1:Int):Rat);have:qs (0:Rat)≤1:=by decide
                                       omega)
 have hov:=rN (dtC t 1) ((1:Int):Rat) (by decide) (by
  have h1:=nD 0 (t* ((1:Int):Rat));have h2:=dk t ((1:Int):Rat);have h3:qs (0:Rat)≤1:=by decide
  show qs (0- t* ((1:Int):Rat))+_≤_;omega)
 have hti:=eC (deV t) (by simp[deV]);refine f_n Tryz.func86 ?_ ?_;exact ac (aX [p]) (ac (aB (bi a b)) ag);refine r_z 3 ?_;refine AWp.ent (st':=⟨[(2,bKe [p]),(3,bSp a b)],[],1,60⟩) ?_ ?_;refine s_x [] (fun hs=>?_) (fun hs=>?_)
 ·repeat' (first|exact aS|refine az rfl ?_ ?_|exact Cv.boxp hs rfl (aQ rfl) rfl (ac (aX [p]) ag)|exact Cv.boxp hs rfl (aQ rfl) rfl (bi a b)|exact bm)
 ·repeat' (first|exact aI|refine h_c ?_ ?_|exact cu|refine aG ?_|exact aw|refine ai ?_ ?_|exact Cv.boxp hs rfl (aQ rfl) rfl (ac (aX [p]) ag)|exact Cv.boxp hs rfl (aQ rfl) rfl (bi a b)|exact bm)
 refine r_c 4 (i1) ?_;refine a_z ?_;refine r_z 1 ?_;refine ae (s_r 3 ?_);refine a_2 ?_;refine o_0 (.bin rfl rfl (vT mw (rfl))) ?_;refine au ?_;refine aH (fun _:Unit=>dtX (dtC t 1/ ((1:Int):Rat)) ()) (fun _=>True) ?_ ?_;refine cT (r_c 4 (hm) ?_);refine c_s (htr) ?_;refine au ?_;refine am (AWp.rangeFuncB (α:=Unit) (γ:=Unit) 0 (dtS [p] (sqR 1 A)) (fun _=>0) (fun _=>True) (dtX (dtC t 1/ ((1:Int):Rat))) (fun e _=>e= .exit 0) () rfl hgs rfl rfl ?_ (fun _=>⟨rfl,rfl⟩) (fun _=>rfl) trivial rfl (fun _ _=>Nat.le_refl _) ?_ ?_ ?_ ?_ ?_);intro j xs hT;cases hT;rfl;rw[dtS_mk];refine s_y [(1,5),(2,6),(3,13)] (fun hs=>?_) (fun hs=>?_)
 ·repeat' (first|exact aS|refine az rfl ?_ ?_|exact ao hs (fR [p])|exact ao hs (aU ag (ac (eg _) ag))|exact bm)
 ·repeat' (first|exact aI|refine h_c ?_ ?_|exact cu|refine aG ?_|exact aw|refine ai ?_ ?_|exact ao hs (fR [p])|exact ao hs (aU ag (ac (eg _) ag))|exact bm)
 exact ac (eg _) ag
 ·intro ll j xs hj hT
  cases hT;show AWp _ _ _ _ ⟨[(21,.agg (qC t)),(2,bKe [p]),(5,.lptr 1 0 0),(6,.lptr 2 0 0),(20,.clos 168 [] [bM (sqR 1 A)]),(1002,bKe [p]),(1005,.lptr 1 0 0),(1006,.lptr 2 0 0),(1020,.clos 168 [] [bM (sqR 1 A)])],[(1,some ⟨36,1,[[.lsl 3 0 1 none 3]]⟩),(2,some ⟨35,1,[[.emp]]⟩),(3,some ⟨34,3,[qC ((1:Int):Rat)]⟩)],4,60⟩;refine r_m 2 ?_;refine a_z ?_;refine am (s_r 5 ?_);refine a_3 ?_;refine AR.op1 (.append_e rfl rfl rfl te_35.h rfl rfl rfl (.lsl rfl (nle rfl)) (by first|assumption|(simp;done)) TZ.h rfl TB.h d_o (by first|(simp[maxLen];done)|(simp[maxLen];omega))) rfl rfl ?_;refine a_z ?_;refine r_z 3 ?_;refine r_z 1 ?_;refine ae (r_z 3 ?_);refine aH (fun _:Unit=>dtI [p] t (dtC t) 1) (fun _=>True) ?_ ?_;refine am (aD (dtI [p] t (dtC t)) (fun i=>1- i) (fun i=>i≤1) 0 (Nat.zero_le _) ?_ ?_);rw[dtI.eq_1];refine s_z [(1,5),(2,6),(3,100003),(4,28),(5,9)] (fun hs=>e_20) (fun hs=>?_)
  ·repeat' (first|exact aI|refine h_c ?_ ?_|exact CvLL.zeros hs 1|exact cu|refine aG ?_|exact aw|refine ai ?_ ?_|exact ao hs (fR [p])|exact bm)
  intro i hi;by_cases h1:i< 1;obtain rfl:i=0:=by omega
  rw[dtI.eq_1];refine s_r 1 ?_;refine o_0 (.bin rfl rfl (vT fH (rfl))) ?_;refine au ?_;refine ae (cT (an (ae (am (r_z 6 ?_)))));refine r_d ba 12 ?_;refine c_s (hmu) ?_;refine c_s (hsu) ?_;refine a_1 ?_;refine au (n_k ?_);refine r_m 2 ?_;refine a_z ?_;refine⟨1,by omega,by omega,?_⟩;rw[dtI.eq_1];exact s_z [(1,5),(2,6),(3,100003),(4,28),(5,9)] (fun hs=>e_20) (fun hs=>e_49);obtain rfl:i=1:=by omega
  rw[dtI.eq_1];refine s_r 1 ?_;refine o_0 (.bin rfl rfl (vF fH (rfl))) ?_;refine au ?_;refine ae (cF (aA ⟨(),trivial,?_⟩));exact s_z [(1,5),(2,6),(3,100003),(4,28),(5,9)] (fun hs=>e_20) (fun hs=>e_49);rintro _ _;rw[dtI.eq_1];refine ae (r_d ba 8 ?_);refine c_s (i1) ?_;refine c_s (hov) ?_;refine a_3 ?_;refine au (n_k ?_);refine s_r 4 ?_;refine a_3 ?_;refine o_0 (.bin rfl rfl (vT db (rfl))) ?_;refine au ?_;refine cT (aA (⟨rfl,(),rfl,?_⟩));show SEntT _ ⟨[(1005,.lptr 1 0 0)],[(1,some ⟨36,1,[[.lsl 3 0 2 none 3]]⟩),(3,some ⟨34,3,[qC ((1:Int):Rat),qC (dtC t 1/ ((1:Int):Rat))]⟩)],4,60⟩;have:=(aV [((1:Int):Rat),dtC t 1/ ((1:Int):Rat)]);exact s_t [(1,5),(3,53)]
 intro j hj hT;cases hT;rintro e u rfl;exact⟨u,trivial,SEnt.refl _⟩;rintro _ _;rw[dtX.eq_1];refine s_r 3 ?_;refine a_1 ?_;refine o_1 (.callS1 rfl rfl rfl (.shut rfl d_n (.nil)) rfl (hti)) ?_;refine a_z ?_;exact ak (t_e (aC _))
theorem fs_Det1(p:List Rat×List Rat)(a b:Rat)(hke:qZ [p])(ha:sm a)(hb:sm b)(hab:a≤b)(h:OkMa [p] a b)(hs:qs (maK [p] a b 0 0)≤100000000000):
    FS 34 [.arr (kE [p]),.agg (spC a b)] (.tup [.arr (pE (aj (deV (trQ (maK [p] a b) 1)))),i64 0]):=by
 have c:=yg [p] a b hke ha hb hab;have d:=fs_det1 p a b h hs;refine f_n Tryz.func34 ?_ ?_;exact ac (aX [p]) (ac (aB (bi a b)) ag);refine r_z 3 ?_;refine ae (r_c 3 (c) ?_);refine au ?_;refine cF (an (r_c 5 (d) ?_));refine a_z ?_;refine ak (Fin.many ⟨_,_,rfl,rfl,⟨_,_,rfl,rfl,rfl⟩⟩ (nle rfl) ?_);exact ai (ao ay (aC _)) (ai (ao ay (ah _)) aw)
theorem By(p:List Rat)(lo hi:Rat)(gr:Int)(v:Sp)(hR:FS 139 [.arr (pE p),.agg (spC lo hi),i64 gr] (.tup [.agg (spC v.1 v.2),i64 0]))(h1:sm v.1)(h2:sm v.2):FS 88 [.agg (spC lo hi++[i64 gr]),.arr (pE p)] (.agg (qC (tW v))):=by
 have a:∀c∈spC lo hi++[i64 gr],Closed c:=fun c hc=>(List.mem_append.1 hc).elim (bi lo hi c) (ac (ah _) ag c);refine f_c Tryz.func88 ?_;refine r_z 2 ?_;refine r_c 12 (hR) ?_;refine a_z ?_;refine r_c 4 (Fe v h1 h2) ?_;refine a_z ?_;exact ak (c_e (aP _))
def szC(a b:Rat)(gr:Int):AV:= .clos 88 [.agg (spC a b++[i64 gr])] []
theorem qq(a b:Rat)(gr:Int):Closed (szC a b gr):=aU (ac (aB fun c hc=>(List.mem_append.1 hc).elim (bi a b c) (ac (ah _) ag c)) ag) ag
def bSz(a b:Rat)(gr:Int):AV:= .aptr [[szC a b gr]] 0 0
theorem dS(a b:Rat)(gr:Int):Closed (bSz a b gr):=bC (ac (qq a b gr) ag)
theorem fs_Clo1(p:List Rat×List Rat)(a b:Rat)(gr:Int)(v:Rat)(h:FS 88 [.agg (spC a b++[i64 gr]),.arr (pE p.1)] (.agg (qC v))):FS 89 [.agg (prC p),bSz a b gr] (.agg (qC v)):=by
 refine f_n Tryz.func89 ?_ ?_;exact ac (aB (iw p)) (ac (dS a b gr) ag);refine r_z 2 ?_;refine r_c 5 (h) ?_;refine a_z ?_;exact ak (c_e (aP _))
theorem fs_Clo2(p:List Rat×List Rat)(a b:Rat)(gr:Int)(v:Rat)(h:FS 88 [.agg (spC a b++[i64 gr]),.arr (pE p.2)] (.agg (qC v))):FS 90 [.agg (prC p),bSz a b gr] (.agg (qC v)):=by
 refine f_n Tryz.func90 ?_ ?_;exact ac (aB (iw p)) (ac (dS a b gr) ag);refine r_z 2 ?_;refine r_c 5 (h) ?_;refine a_z ?_;exact ak (c_e (aP _))
abbrev q1I:Rat:=((1:Int):Rat)
def clL(p:List Rat×List Rat)(l a b:Rat):List Rat:=zj (syM [p] l [q1I] a b).1 1 (syM [p] l [q1I] a b).2
def clC(p:List Rat×List Rat)(l a b:Rat):Rat:=coP (clL p l a b) 0
def wT(p:List Rat×List Rat)(l a b vA vB:Rat):Rat:=0+vA* eN (clC p l a b) * vB
def clW(l a b:Rat):Rat:=eN l* (b- a)
def clB(p:List Rat×List Rat)(l a b vA vB:Rat):Rat:=q1I+clW l a b* wT p l a b vA vB
def wS(p:List Rat×List Rat)(l a b vA vB ep:Rat):Rat:=clW l a b* ep* clB p l a b vA vB
def Ea(p:List Rat×List Rat)(l a b vA vB ep:Rat):Rat:=q1I- wS p l a b vA vB ep
def Cf(p:List Rat×List Rat)(l a b vA vB ep de vU:Rat):Rat:=clB p l a b vA vB* (de+clW l a b* ep* vU) / Ea p l a b vA vB ep
def mxQ:Nat:=549755813888
structure OkCl (p:List Rat×List Rat)(l:Rat)(g:List Rat)(a b ep de vA vB vU:Rat):Prop where
 e0:0≤ep
 d0:0≤de
 q1:qs vA+qs (eN (clC p l a b))≤mxQ
 q2:qs (vA* eN (clC p l a b))+qs vB≤mxQ
 q3:qs 0+qs (vA* eN (clC p l a b) * vB)≤mxQ
 q4:qs (eN l)+qs (b- a)≤mxQ
 q5:qs (clW l a b)+qs (wT p l a b vA vB)≤mxQ
 q6:qs q1I+qs (clW l a b* wT p l a b vA vB)≤mxQ
 q7:qs (clW l a b)+qs ep≤mxQ
 q8:qs (clW l a b* ep)+qs (clB p l a b vA vB)≤mxQ
 q9:qs q1I+qs (wS p l a b vA vB ep)≤mxQ
 r0:0< Ea p l a b vA vB ep
 qa:qs (clW l a b* ep)+qs vU≤mxQ
 qb:qs de+qs (clW l a b* ep* vU)≤mxQ
 qc:qs (clB p l a b vA vB)+qs (de+clW l a b* ep* vU)≤mxQ
 qd:qs (clB p l a b vA vB* (de+clW l a b* ep* vU))+qs (Ea p l a b vA vB ep)≤mxQ
def neC(U:List Rat)(bo sh ra:Rat):List AV:= .arr (pE U)::(qC bo++(qC sh++qC ra))
theorem jx(U:List Rat)(bo sh ra:Rat):∀c∈neC U bo sh ra,Closed c:=ac (aC U) (dy (a7 bo) (dy (a7 sh) (a7 ra)))
def nC1(U:List Rat)(bo:Rat):List AV:= .arr (pE U)::(qC bo++(zC++zC))
theorem D9(U:List Rat)(bo:Rat):∀e∈[nC1 U bo],∀c∈e,Closed c:=fun e a=>by
 rw[List.mem_singleton.1 a];exact ac (aC U) (dy (a7 bo) (dy oV oV))
def nC2(U:List Rat)(bo sh:Rat):List AV:= .arr (pE U)::(qC bo++(qC sh++zC))
theorem D8(U:List Rat)(bo sh:Rat):∀e∈[nC2 U bo sh],∀c∈e,Closed c:=fun e a=>by
 rw[List.mem_singleton.1 a];exact ac (aC U) (dy (a7 bo) (dy (a7 sh) oV))
def zNe:List AV:=[.emp,.emp,bln false,.emp,.emp,bln false,.emp,.emp,bln false,.emp]
def clV(x y:Rat):Nat→Rat
 |0=>x
 |_+1=>y
def clO(p:List Rat×List Rat)(l:Rat)(g:List Rat)(a b ep de vA vB:Rat)(gr:Int)(A:Mx)(L:List Nat):Nat→AState
 |j=>⟨[(6,bSp a b),(7,bQ ep),(8,bQ de),(10,.lptr 1 0 0),(12,bTk [p] l g a b),(13,bSy 1 A L),(14,bSz a b gr),(15,.arr (pE [vA])),(16,.arr (pE [vB])),(17,.lptr 2 0 0),(67,i64 1),(68,i64 j)],[(1,some ⟨101,10,[zNe]⟩),(2,some ⟨34,3,[qC (clV 0 (wT p l a b vA vB) j)]⟩)],3,172⟩
def clI(p:List Rat×List Rat)(l:Rat)(g:List Rat)(a b ep de vA vB:Rat)(gr:Int)(A:Mx)(L:List Nat):Nat→AState
 |i=>⟨[(6,bSp a b),(7,bQ ep),(8,bQ de),(10,.lptr 1 0 0),(12,bTk [p] l g a b),(13,bSy 1 A L),(14,bSz a b gr),(15,.arr (pE [vA])),(16,.arr (pE [vB])),(17,.lptr 2 0 0),(67,i64 1),(68,i64 0),(18,i64 0),(90,.arr (pE (clL p l a b))),(91,i64 1),(92,i64 i)],[(1,some ⟨101,10,[zNe]⟩),(2,some ⟨34,3,[qC (clV 0 (wT p l a b vA vB) i)]⟩)],3,172⟩
theorem Gy (p:List Rat×List Rat) (l:Rat) (g:List Rat) (a b ep de vA vB vU:Rat) (gr:Int) (s:Nat) (h:OkTa [p] l g a b s) (h2:OkSu [p] l g a b) (hs1:1≤s) (hL:(syM [p] l (rhK [p] g a b) a b).2.length=1) (ok:OkCl p l g a b ep de vA vB vU)
    (hzA:FS 88 [.agg (spC a b++[i64 gr]),.arr (pE p.1)] (.agg (qC vA))) (hzB:FS 88 [.agg (spC a b++[i64 gr]),.arr (pE p.2)] (.agg (qC vB))) (hzU:FS 88 [.agg (spC a b++[i64 gr]),.arr (pE (syU [p] l g a b))] (.agg (qC vU))):
    FS 36 [.agg (eqC [p] l g),.agg (spC a b),.agg (qC ep),.agg (qC de),i64 gr] (.tup [.agg (neC (syU [p] l g a b) (clB p l a b vA vB) (wS p l a b vA vB ep) (Cf p l a b vA vB ep de vU)),i64 0]):=by
 have R:=j7 [p] l g a b h.ke h.ha h.hb h.ab h.dg h.gl;have hs:=tn [p] l g a b s h.sy h.rh;have G:¬sgZ ep.num< 0:=fun e=>by have:=sgZ_num_lt.1 e;have:=ok.e0;grind
 have J:¬sgZ de.num< 0:=fun e=>by have:=sgZ_num_lt.1 e;have:=ok.d0;grind
 have o:=wo [p] 89 [bSz a b gr] (fun _=>vA) (ac (dS a b gr) ag) (by simp) fun q r=>by
  rw[List.mem_singleton.1 r];exact fs_Clo1 p a b gr vA hzA
 have u:=wo [p] 90 [bSz a b gr] (fun _=>vB) (ac (dS a b gr) ag) (by simp) fun q r=>by
  rw[List.mem_singleton.1 r];exact fs_Clo2 p a b gr vB hzB
 have i1:=ej 1 (by decide);obtain⟨A,hA⟩:∃A,A=(syM [p] l (rhK [p] g a b) a b).1:=⟨_,rfl⟩;obtain⟨L,c⟩:∃L,L=(syM [p] l (rhK [p] g a b) a b).2:=⟨_,rfl⟩;have v:syV 1 (A,L)=syV [p].length (syM [p] l (rhK [p] g a b) a b):=by rw[hA,c];rfl
 rw[←v] at hs;rw[←c] at hL;have D:(kE [p]).length=1:=rfl;have F:(lvE L).length=1:=by rw[mN,hL]
 refine f_n Tryz.func36 ?_ ?_;exact ac (aB (cG [p] l g)) (ac (aB (bi a b)) (ac (aP ep) (ac (aP de) (ac (ah _) ag))));refine r_z 6 ?_;refine AWp.ent (st':=⟨[(4,i64 gr),(5,.aptr [eqC [p] l g] 0 0),(6,bSp a b),(7,bQ ep),(8,bQ de),(10,.lptr 1 0 0)],[(1,some ⟨101,10,[zNe]⟩)],2,172⟩) ?_ ?_;refine s_x [(1,10)] (fun hs=>?_) (fun hs=>?_)
 ·repeat' (first|exact aS|refine az rfl ?_ ?_|exact Cv.boxp hs rfl (aQ rfl) rfl (cG [p] l g)|exact Cv.boxp hs rfl (aQ rfl) rfl (bi a b)|exact Cv.boxp hs rfl (aQ rfl) rfl (a7 _)|exact bm)
 ·repeat' (first|exact aI|refine h_c ?_ ?_|exact cu|refine aG ?_|exact aw|refine ai ?_ ?_|exact Cv.boxp hs rfl (aQ rfl) rfl (cG [p] l g)|exact Cv.boxp hs rfl (aQ rfl) rfl (bi a b)|exact Cv.boxp hs rfl (aQ rfl) rfl (a7 _)|exact bm)
 refine r_z 5 ?_;refine AWp.ent (st':=⟨[(4,i64 gr),(6,bSp a b),(7,bQ ep),(8,bQ de),(10,.lptr 1 0 0),(12,bTk [p] l g a b)],[(1,some ⟨101,10,[zNe]⟩)],2,172⟩) ?_ ?_;refine s_x [(1,10)] (fun hs=>?_) (fun hs=>?_)
 ·repeat' (first|exact aS|refine az rfl ?_ ?_|exact ao hs (cL a b)|exact Cv.boxp hs rfl (aQ rfl) rfl (ff [p] l g a b)|exact bm)
 ·repeat' (first|exact aI|refine h_c ?_ ?_|exact cu|refine aG ?_|exact aw|refine ai ?_ ?_|exact ao hs (cL a b)|exact Cv.boxp hs rfl (aQ rfl) rfl (ff [p] l g a b)|exact bm)
 refine ae (r_c 12 (R) ?_);refine c_s (cx ep) ?_;refine e_s (cx de) ?_;refine d_z ?_;refine cF (an (r_c 4 (hs) ?_));refine a_z ?_;refine AWp.ent (st':=⟨[(4,i64 gr),(6,bSp a b),(7,bQ ep),(8,bQ de),(10,.lptr 1 0 0),(12,bTk [p] l g a b),(13,bSy 1 A L)],[(1,some ⟨101,10,[zNe]⟩)],2,172⟩) ?_ ?_;refine s_x [(1,10)] (fun hs=>?_) (fun hs=>?_)
 ·repeat' (first|exact aS|refine az rfl ?_ ?_|exact ao hs (cL a b)|exact ao hs (da [p] l g a b)|exact Cv.boxp hs rfl (aQ rfl) rfl (eK 1 A L)|exact bm)
 ·repeat' (first|exact aI|refine h_c ?_ ?_|exact cu|refine aG ?_|exact aw|refine ai ?_ ?_|exact ao hs (cL a b)|exact ao hs (da [p] l g a b)|exact Cv.boxp hs rfl (aQ rfl) rfl (eK 1 A L)|exact bm)
 refine ae (q_z 6 ?_);refine cF (an (r_z 6 ?_));refine AWp.ent (st':=⟨[(6,bSp a b),(7,bQ ep),(8,bQ de),(10,.lptr 1 0 0),(12,bTk [p] l g a b),(13,bSy 1 A L),(14,bSz a b gr)],[(1,some ⟨101,10,[zNe]⟩)],2,172⟩) ?_ ?_;refine s_x [(1,10)] (fun hs=>?_) (fun hs=>?_)
 ·repeat' (first|exact aS|refine az rfl ?_ ?_|exact ao hs (cL a b)|exact ao hs (da [p] l g a b)|exact ao hs (cX 1 A L)|exact Cv.boxp hs rfl (aQ rfl) rfl (ac (qq a b gr) ag)|exact bm)
 ·repeat' (first|exact aI|refine h_c ?_ ?_|exact cu|refine aG ?_|exact aw|refine ai ?_ ?_|exact ao hs (cL a b)|exact ao hs (da [p] l g a b)|exact ao hs (cX 1 A L)|exact Cv.boxp hs rfl (aQ rfl) rfl (ac (qq a b gr) ag)|exact bm)
 refine r_c 6 (o) ?_;refine a_z ?_;refine r_c 6 (u) ?_;refine a_z ?_;refine r_z 1 ?_;refine ae (r_z 5 ?_);refine aH (fun _:Unit=>clO p l g a b ep de vA vB gr A L 1) (fun _=>True) ?_ ?_;refine am (aD (clO p l g a b ep de vA vB gr A L) (fun j=>1- j) (fun j=>j≤1) 0 (Nat.zero_le _) ?_ ?_);rw[clO.eq_1];refine s_x [(1,10),(2,17)] (fun hs=>e_6) (fun hs=>?_)
 ·repeat' (first|exact aI|refine h_c ?_ ?_|exact CvLL.zeros hs 1|exact cu|refine aG ?_|exact aw|refine ai ?_ ?_|exact ao hs (cL a b)|exact ao hs (da [p] l g a b)|exact ao hs (cX 1 A L)|exact ao hs (dS a b gr)|exact ao hs (b7 _)|exact ao hs (aC _)|exact bm)
 intro j T;by_cases h1:j< 1;obtain rfl:j=0:=by omega
 rw[clO.eq_1]
 have k:=vg [p] l a b s [q1I] h.sy rfl fun i z=>by
  obtain rfl:i=0:=by simpa using z
  exact Nat.le_trans (by decide:qs (coP [q1I] 0)≤1) hs1
 have f:=zO (syM [p] l [q1I] a b).1 1 (syM [p] l [q1I] a b).2 (k4 _ _ _) (by decide);have y:Closed (syV [p].length (syM [p] l [q1I] a b)):=jv _ _ _;have B:(pE (clL p l a b)).length=1:=by simp[pE,clL]
 refine s_r 1 ?_;refine o_0 (.bin rfl rfl (vT fH (rfl))) ?_;refine au ?_;refine ae (cT (an (ae (am (r_z 2 ?_)))));refine r_z 6 ?_;refine r_c 5 (i1) ?_;refine a_z ?_;refine AWp.ent (st':=⟨[(6,bSp a b),(7,bQ ep),(8,bQ de),(10,.lptr 1 0 0),(12,bTk [p] l g a b),(13,bSy 1 A L),(14,bSz a b gr),(15,.arr (pE [vA])),(16,.arr (pE [vB])),(17,.lptr 2 0 0),(67,i64 1),(68,i64 0),(18,i64 0),(19,.arr (pE [q1I]))],[(1,some ⟨101,10,[zNe]⟩),(2,some ⟨34,3,[qC (clV 0 (wT p l a b vA vB) 0)]⟩)],3,172⟩) ?_ ?_;refine s_x [(1,10),(2,17)] (fun hs=>?_) (fun hs=>?_)
 ·repeat' (first|exact aS|refine az rfl ?_ ?_|exact ao hs (cL a b)|exact ao hs (da [p] l g a b)|exact ao hs (cX 1 A L)|exact ao hs (dS a b gr)|exact ao hs (b7 _)|exact ao hs (aC _)|(refine Cv.shut hs rfl (aQ rfl) (nle rfl) ?_;exact aT hs rfl (aV [q1I]))|exact bm)
 ·repeat' (first|exact aI|refine h_c ?_ ?_|exact cu|refine aG ?_|exact aw|refine ai ?_ ?_|exact ao hs (cL a b)|exact ao hs (da [p] l g a b)|exact ao hs (cX 1 A L)|exact ao hs (dS a b gr)|exact ao hs (b7 _)|exact ao hs (aC _)|(refine Cv.shut hs rfl (aQ rfl) (nle rfl) ?_;exact aT hs rfl (aV [q1I]))|exact bm)
 refine ae (AWp.regAB 4 9 84 ba (sM [p] a b h.sy.m) (k) (y) rfl rfl rfl rfl rfl rfl rfl rfl rfl rfl (by kernel_rfl) rfl rfl rfl ?_);refine AY.op0 (.fieldAddr_a rfl TF.h (by decide)) rfl rfl ?_;refine AY.op0 (.fieldAddr_a rfl TF.h (by decide)) rfl rfl ?_;refine AY.op0 (.load_a1 rfl rfl TG.h rfl) rfl rfl ?_;refine AY.op0 (.load_a rfl rfl TG.h TS.h (nle rfl)) rfl rfl ?_;refine AY.sp rfl rfl (kAB.a rfl rfl rfl (ac (aX [p]) (ac (aB (bi a b)) ag)) rfl) ?_;refine AY.op0 (.fieldAddr_a rfl TF.h (by decide)) rfl rfl ?_;refine AY.op0 (.fieldAddr_a rfl TF.h (by decide)) rfl rfl ?_;refine AY.op0 (.load_a rfl rfl TG.h TS.h (nle rfl)) rfl rfl ?_;refine AY.op0 (.move rfl) rfl rfl ?_;refine AY.sp rfl rfl (kAB.b rfl rfl (ArgsB.own (ArgsB.clo rfl (aB (a7 l)) (ArgsB.clo rfl (aC _) ArgsB.nil))) rfl) ?_;refine AY.op0 (.call rfl rfl rfl (f)) rfl rfl ?_;refine AY.op0 (.lenP rfl rfl rfl rfl te_35.h) rfl rfl ?_;refine AY.op0 (.move rfl) rfl rfl ?_;refine AY.nil ⟨by kernel_rfl,?_⟩;refine AWp.cutB (fun _:Unit=>clI p l g a b ep de vA vB gr A L 1) (fun _=>True) ?_ ?_;refine am (aD (clI p l g a b ep de vA vB gr A L) (fun i=>1- i) (fun i=>i≤1) 0 (Nat.zero_le _) ?_ ?_);rw[clI.eq_1];exact s_x [] (fun hs=>e_6) (fun hs=>IX);intro i z;by_cases h1:i< 1;obtain rfl:i=0:=by omega
 rw[clI.eq_1]
 have d:(pE (clL p l a b))[((0:Nat):Int).toNat]?=some (qC (clC p l a b)):=by
  have:(clL p l a b).length=1:=by simp[clL]
  have:=cK (p:=clL p l a b) (i:=0) (by omega);simp[pE,clC,this]
 have m1:=cN vA (eN (clC p l a b)) ok.q1;have m2:=cN (vA* eN (clC p l a b)) vB ok.q2;have t:=fD 0 (vA* eN (clC p l a b) * vB) ok.q3;refine s_r 1 ?_;refine o_0 (.bin rfl rfl (vT fH (rfl))) ?_;refine au ?_;refine ae (cT (an (ae (am (s_r 6 ?_)))));refine a_1 ?_;refine i_x d ?_;refine l_x d ?_;refine a_z ?_;refine r_d ba 15 ?_;refine c_s (qi (clC p l a b)) ?_;refine c_s (m1) ?_;refine c_s (m2) ?_;refine c_s (t) ?_;refine a_1 ?_;refine au (n_k ?_);refine r_m 2 ?_;refine a_z ?_;refine⟨1,by omega,by omega,?_⟩;rw[clI.eq_1];exact s_x [] (fun hs=>e_6) (fun hs=>IX);obtain rfl:i=1:=by omega
 rw[clI.eq_1];refine s_r 1 ?_;refine o_0 (.bin rfl rfl (vF fH (rfl))) ?_;refine au ?_;refine ae (cF (aA ⟨(),trivial,?_⟩));exact s_x [] (fun hs=>e_6) (fun hs=>IX);rintro _ _;rw[clI.eq_1];refine r_m 2 ?_;refine a_z ?_;refine⟨1,by omega,by omega,?_⟩;rw[clO.eq_1];exact s_x [] (fun hs=>e_6) (fun hs=>IX);obtain rfl:j=1:=by omega
 rw[clO.eq_1];refine s_r 1 ?_;refine o_0 (.bin rfl rfl (vF fH (rfl))) ?_;refine au ?_;refine ae (cF (aA ⟨(),trivial,?_⟩));exact s_x [] (fun hs=>e_6) (fun hs=>IX);rintro _ _;rw[clO.eq_1];have S:=tw a b h.ha h.hb;have K:=cN (eN l) (b- a) ok.q4;have f:=zO A 1 L (by rw[hA,c];exact k4 _ _ _) (by decide);have w:=Fb [p] (vv [p] l g a b) (by unfold vv;simp) (by simp) h2.ms;have x:=iq _ l h2.u1 h2.sl h2.u2;have n:=qj g _ h2.sg h2.v1 h.gl h2.v2;have N:zj A 1 L=vv [p] l g a b:=by rw[hA,c];rfl
 rw[N] at f;have m1:=cN (clW l a b) (wT p l a b vA vB) ok.q5;have t:=fD q1I (clW l a b* wT p l a b vA vB) ok.q6;have m2:=cN (clW l a b) ep ok.q7;have M:=cN (clW l a b* ep) (clB p l a b vA vB) ok.q8;have s1:=lE q1I (wS p l a b vA vB ep) ok.q9;have O:=cN (clW l a b* ep) vU ok.qa;have E:=fD de (clW l a b* ep* vU) ok.qb;have Q:=cN (clB p l a b vA vB) (de+clW l a b* ep* vU) ok.qc;have H:=rN (clB p l a b vA vB* (de+clW l a b* ep* vU)) (Ea p l a b vA vB ep) (by have:=ok.r0;grind) ok.qd;have C:¬sgZ (Ea p l a b vA vB ep).num≤0:=by have:=sgZ_num_gt.2 ok.r0;omega
 refine ae (r_d ba 9 ?_);refine c_s (qi l) ?_;refine c_s (S) ?_;refine c_s (K) ?_;refine a_2 ?_;refine au (n_k ?_);refine AWp.ent (st':=⟨[(7,bQ ep),(8,bQ de),(10,.lptr 1 0 0),(12,bTk [p] l g a b),(13,bSy 1 A L),(14,bSz a b gr),(17,bQ (wT p l a b vA vB)),(22,bQ (clW l a b))],[(1,some ⟨101,10,[zNe]⟩)],2,172⟩) ?_ ?_;refine s_x [(1,10)] (fun hs=>e_14) (fun hs=>?_)
 ·repeat' (first|exact aI|refine h_c ?_ ?_|exact cu|refine aG ?_|exact aw|refine ai ?_ ?_|exact ao hs (cL a b)|exact ao hs (da [p] l g a b)|exact ao hs (cX 1 A L)|exact ao hs (dS a b gr)|exact ao hs (b7 _)|exact ao hs (aC _)|exact Cv.boxp hs rfl (aQ rfl) rfl (a7 _)|exact bm)
 refine ae (r_d ba 22 ?_);refine c_s (f) ?_;refine c_s (w) ?_;refine c_s (x) ?_;refine c_s (n) ?_;refine c_s (i1) ?_;refine c_s (m1) ?_;refine c_s (t) ?_;refine a_3 ?_;refine au (n_k ?_);refine AWp.ent (st':=⟨[(7,bQ ep),(8,bQ de),(10,.lptr 1 0 0),(14,bSz a b gr),(22,bQ (clW l a b)),(23,.lptr 2 0 0)],[(1,some ⟨101,10,[zNe]⟩),(2,some ⟨101,10,[nC1 (syU [p] l g a b) (clB p l a b vA vB)]⟩)],3,172⟩) ?_ ?_;refine s_x [(1,10),(2,23)] (fun hs=>e_14) (fun hs=>?_)
 ·repeat' (first|exact aI|refine h_c ?_ ?_|exact aT hs rfl (D9 _ _)|exact cu|refine aG ?_|exact aw|refine ai ?_ ?_|exact ao hs (cL a b)|exact ao hs (da [p] l g a b)|exact ao hs (cX 1 A L)|exact ao hs (dS a b gr)|exact ao hs (b7 _)|exact ao hs (aC _)|exact Cv.boxp hs rfl (aQ rfl) rfl (a7 _)|exact bm)
 refine ae (r_d ba 8 ?_);refine c_s (m2) ?_;refine c_s (M) ?_;refine a_2 ?_;refine au (n_k ?_);refine AWp.ent (st':=⟨[(7,bQ ep),(8,bQ de),(10,.lptr 1 0 0),(14,bSz a b gr),(22,bQ (clW l a b)),(23,.lptr 2 0 0)],[(1,some ⟨101,10,[zNe]⟩),(2,some ⟨101,10,[nC2 (syU [p] l g a b) (clB p l a b vA vB) (wS p l a b vA vB ep)]⟩)],3,172⟩) ?_ ?_;exact s_x [(1,10),(2,23)] (fun hs=>e_14) (fun hs=>e_50);refine ae (r_d ba 6 ?_);refine c_s (i1) ?_;refine c_s (s1) ?_;refine a_2 ?_;refine au (n_k ?_);refine AWp.ent (st':=⟨[(7,bQ ep),(8,bQ de),(10,.lptr 1 0 0),(14,bSz a b gr),(22,bQ (clW l a b)),(23,.lptr 2 0 0),(24,bQ (Ea p l a b vA vB ep))],[(1,some ⟨101,10,[zNe]⟩),(2,some ⟨101,10,[nC2 (syU [p] l g a b) (clB p l a b vA vB) (wS p l a b vA vB ep)]⟩)],3,172⟩) ?_ ?_;exact s_x [(1,10),(2,23)] (fun hs=>e_14) (fun hs=>e_50);refine ae (r_c 3 (cx (Ea p l a b vA vB ep)) ?_);refine d_z ?_;refine cF (an (ae (r_d ba 17 ?_)));refine c_s (m2) ?_;refine c_s (hzU) ?_;refine c_s (O) ?_;refine c_s (E) ?_;refine c_s (Q) ?_;refine c_s (H) ?_;refine a_2 ?_;refine au (n_k ?_);refine AWp.ent (st':=⟨[(10,.lptr 1 0 0),(23,.lptr 2 0 0)],[(1,some ⟨101,10,[zNe]⟩),(2,some ⟨101,10,[neC (syU [p] l g a b) (clB p l a b vA vB) (wS p l a b vA vB ep) (Cf p l a b vA vB ep de vU)]⟩)],3,172⟩) ?_ ?_;exact s_f [(1,10),(2,23)];refine r_z 3 ?_;refine ak (Fin.many ⟨_,_,rfl,⟨_,_,_,_,_,rfl,rfl,rfl,.inl ⟨TG.h,_,TS.h,nle rfl,rfl⟩⟩,⟨_,_,rfl,rfl,rfl⟩⟩ (nle rfl) ?_);exact ai (ao ay (aB (jx _ _ _ _))) (ai (ao ay (ah _)) aw)
def itE(l:List Int):List Rat→Nat→AState
 |[],i=>⟨[(0,.arr (zE l)),(3,.emp),(4,i64 i)],[],1,20⟩
 |q::Q,i=>⟨[(0,.arr (zE l)),(3,.lsl 1 0 (Q.length+1) none 3),(4,i64 i)],[(1,some ⟨34,3,pE (q::Q)⟩)],2,20⟩
theorem rv(l:List Int)(i:Nat):itE l [] i=⟨[(0,.arr (zE l)),(3,.emp),(4,i64 i)],[],1,20⟩:=rfl
theorem lU(l:List Int)(q:Rat)(Q:List Rat)(i:Nat):itE l (q::Q) i=⟨[(0,.arr (zE l)),(3,.lsl 1 0 (Q.length+1) none 3),(4,i64 i)],[(1,some ⟨34,3,pE (q::Q)⟩)],2,20⟩:=rfl
theorem yi(l:List Int)(hl:l.length≤1099511627776)(hb:∀n∈l,-9223372036854775808≤n∧n≤9223372036854775807):FS 33 [.arr (zE l)] (.arr (pE (zR l))):=by
 refine f_n Tryz.func33 ?_ ?_;exact ac (aK (jt l)) ag;refine r_z 1 ?_;refine r_z 1 ?_;refine ae (r_z 1 ?_);refine aH (fun _:Unit=>itE l (zR l) l.length) (fun _=>True) ?_ ?_;refine am (aD (fun i:Nat=>itE l (zR (l.take i)) i) (fun i=>l.length- i) (fun i=>i≤l.length) 0 (Nat.zero_le _) ?_ ?_);show SEnt _ (itE l [] 0);rw[rv];have:=(aK (jt l));exact s_f [];rintro i k;have j:(zE l).length=l.length:=by simp[zE]
 by_cases hlt:i< l.length
 ·obtain⟨n,g⟩:∃n,l[i]?=some n:=⟨_,List.getElem?_eq_getElem hlt⟩
  have a:(zE l)[((i:Nat):Int).toNat]?=some [i64 n]:=by
   show(zE l)[i]?=_;simp[zE,g]
  have b:=hb n (List.mem_of_getElem? g);have c:zR (l.take (i+1))=zR (l.take i)++[(n:Rat)]:=by rw[dt g];simp[zR]
  have d:(zR (l.take i)).length=i:=by simp[zR];omega
  cases hQ:zR (l.take i) with
  |nil=>
   simp only[rv];refine ae (r_z 4 ?_);refine aq rfl (fun h=>?_) (fun h=>?_);rotate_left;exact absurd h (by simp[zE];omega);refine an (ae (am (r_m 9 ?_)));refine a_3 ?_;refine i_x a ?_;refine l_1 a ?_;refine c_s (ej n b) ?_;refine a_z ?_;refine r_m 3 ?_;refine a_z ?_;refine⟨i+1,by omega,hlt,?_⟩;simp only[c,hQ,List.nil_append,lU];have:=(aK (jt l));have:=(aV [(n:Rat)]);exact s_f [(1,3)]
  |cons q Q=>
   rw[hQ] at d;simp at d;simp only[lU];refine ae (r_z 4 ?_);refine aq rfl (fun h=>?_) (fun h=>?_);rotate_left;exact absurd h (by simp[zE];omega);refine an (ae (am (r_m 9 ?_)));refine a_3 ?_;refine i_x a ?_;refine l_1 a ?_;refine c_s (ej n b) ?_;refine a_z ?_;refine r_m 3 ?_;refine a_z ?_;refine⟨i+1,by omega,hlt,?_⟩;simp only[c,hQ,List.cons_append,lU];have e:pE (q::Q)++[qC (n:Rat)]=pE (q::(Q++[(n:Rat)])):=by simp[pE]
   refine s_x [(1,3)] (fun hs=>?_) (fun hs=>?_) e_7
   ·repeat' (first|exact aS|refine az rfl ?_ ?_|exact ao hs (aK (jt l))|exact bm)
   ·repeat' (first|exact aI|refine h_c ?_ ?_|exact aT hs e (aV _)|exact cu|refine aG ?_|exact aw|refine ai ?_ ?_|exact ao hs (aK (jt l))|exact bm)
 have f:i=l.length:=by omega
 subst f;simp only[List.take_length];cases hQ:zR l with
 |nil=>
  simp only[rv];refine ae (r_z 4 ?_);refine aq rfl (fun h=>?_) (fun h=>?_);exact absurd h (by simp[zE]);refine aA ⟨(),trivial,?_⟩;simp only[hQ,rv];have:=(aK (jt l));exact s_f []
 |cons q Q=>
  simp only[lU];refine ae (r_z 4 ?_);refine aq rfl (fun h=>?_) (fun h=>?_);exact absurd h (by simp[zE]);refine aA ⟨(),trivial,?_⟩;simp only[hQ,lU];have:=(aK (jt l));exact s_f []
 rintro _ _;cases hQ:zR l with
 |nil=>
  simp only[rv];refine r_z 2 ?_;exact ak (Fin.tmpN rfl)
 |cons q Q=>
  simp only[lU];refine r_z 2 ?_;exact ak (Fin.tmpS rfl rfl rfl (by simp) (aV _))
abbrev x1W:List Rat:=zR [0,1]
abbrev p1W:List Rat×List Rat:=(x1W,x1W)
abbrev o1W:List Rat:=zR [1]
abbrev p2W:List Rat×List Rat:=(o1W,o1W)
abbrev q3I:Rat:=((3:Int):Rat)
abbrev tnW:Rat:=((1:Int):Rat) / ((10:Int):Rat)
theorem wk_ma:OkMa [p1W] 0 q1I:=⟨by decide,fun p hp q a=>by
 rw[List.mem_singleton.1 hp,List.mem_singleton.1 a];exact⟨by decide+kernel,⟨by decide+kernel,by decide+kernel,by decide+kernel,by decide+kernel,by decide+kernel⟩⟩⟩
theorem wk_sy(l:Rat)(hl:qs l≤2):OkSy [p1W] l 0 q1I 100:=⟨wk_ma,fun i j a b=>by
 obtain rfl:i=0:=by simpa using a
 obtain rfl:j=0:=by simpa using b
 have:qs (maK [p1W] 0 q1I 0 0)≤10:=by decide+kernel
 omega,by decide⟩
theorem Ep(l:Rat)(hl:qs l≤2):OkTa [p1W] l x1W 0 q1I 100:=⟨xX (by decide) (fun p hp=>by rw[List.mem_singleton.1 hp];decide),by decide+kernel,by decide+kernel,by decide+kernel,by decide+kernel,by decide,wk_sy l hl,fun p hp=>by
 rw[List.mem_singleton.1 hp];exact⟨by decide+kernel,⟨by decide+kernel,by decide+kernel,by decide+kernel,by decide+kernel,by decide+kernel⟩,by decide+kernel⟩⟩
theorem wk_su:OkSu [p1W] q1I x1W 0 q1I:=⟨fun i p hp=>by
 have a:=(List.getElem?_eq_some_iff.1 hp).1;obtain rfl:i=0:=by simpa using a
 cases hp;exact⟨by decide+kernel,by decide+kernel,by decide+kernel,by decide+kernel,by decide+kernel,by decide+kernel,by decide+kernel⟩,by decide+kernel,by decide+kernel,by decide+kernel,by decide+kernel,by decide+kernel,by decide+kernel⟩
theorem wk_1:(syM [p1W] q1I (rhK [p1W] x1W 0 q1I) 0 q1I).2=[0]∧xZ 1 (syM [p1W] q1I (rhK [p1W] x1W 0 q1I) 0 q1I).1 (syM [p1W] q1I (rhK [p1W] x1W 0 q1I) 0 q1I).2=false:=by decide+kernel
theorem wk_3:xZ 1 (syM [p1W] q3I (rhK [p1W] x1W 0 q1I) 0 q1I).1 (syM [p1W] q3I (rhK [p1W] x1W 0 q1I) 0 q1I).2=true:=by decide+kernel
theorem wk_r:sV 40 40 x1W (0,q1I) 0=some (0,1)∧sV 40 40 (syU [p1W] q1I x1W 0 q1I) (0,q1I) 0=some (0,2)∧tW (0,1)=1∧tW (0,2)=2:=by decide+kernel
theorem wk_cl:OkCl p1W q1I x1W 0 q1I tnW 0 1 1 2:=⟨by decide+kernel,by decide+kernel,by decide+kernel,by decide+kernel,by decide+kernel,by decide+kernel,by decide+kernel,by decide+kernel,by decide+kernel,by decide+kernel,by decide+kernel,by decide+kernel,by decide+kernel,by decide+kernel,by decide+kernel,by decide+kernel⟩
theorem wk_t1:Eu (aj (deV (trQ (maK [p1W] 0 q1I) 1)))=[45,49,47,51,32,120,32,43,32,49]∧HW (aj (deV (trQ (maK [p1W] 0 q1I) 1))):=by decide+kernel
theorem wk_t2:Eu (aj (syU [p1W] q1I x1W 0 q1I))=[51,47,50,32,120]∧HW (aj (syU [p1W] q1I x1W 0 q1I)):=by decide+kernel
theorem wk_t3:Eu (seK (mvK 0 [p2W]) (ca [0,1] o1W) q1I 3 4)=[49,47,54,32,120,94,51,32,43,32,49,47,50,32,120,94,50,32,43,32,120,32,43,32,49]∧HW (seK (mvK 0 [p2W]) (ca [0,1] o1W) q1I 3 4):=by decide+kernel
theorem wk_t4:nh (Cf p1W q1I 0 q1I 1 1 tnW 0 2)=[50,47,51]∧okT (Cf p1W q1I 0 q1I 1 1 tnW 0 2)∧nh (clB p1W q1I 0 q1I 1 1)=[53,47,50]∧okT (clB p1W q1I 0 q1I 1 1):=by decide+kernel
theorem sp_01:([.arr [],bln false,.arr []]:List AV)++qC q1I=spC 0 q1I:=by unfold spC;rw[qC0]
theorem wk_i2:FS 33 [.arr (zE [0,1])] (.arr (pE x1W)):=yi [0,1] (by decide) (by decide)
theorem wk_i1:FS 33 [.arr (zE [1])] (.arr (pE o1W)):=yi [1] (by decide) (by decide)
theorem wk_det:FS 34 [.arr (kE [p1W]),.agg (spC 0 q1I)] (.tup [.arr (pE (aj (deV (trQ (maK [p1W] 0 q1I) 1)))),i64 0]):=
 fs_Det1 p1W 0 q1I (Ep q1I (by decide)).ke (by decide+kernel) (by decide+kernel) (by decide+kernel) wk_ma (by decide+kernel)
theorem wk_so:FS 19 [.agg (eqC [p1W] q1I x1W),.agg (spC 0 q1I)] (.tup [.arr (pE (aj (syU [p1W] q1I x1W 0 q1I))),.arr (mE []),i64 0]):=
 Gr [p1W] q1I x1W 0 q1I 100 (Ep q1I (by decide)) wk_su (fun f hf=>by
  obtain rfl:f=0:=by simpa using hf
  show(syM [p1W] q1I (rhK [p1W] x1W 0 q1I) 0 q1I).2.contains 0=true;rw[wk_1.1];rfl) wk_1.2 (by decide+kernel)
theorem wk_sv:FS 19 [.agg (eqC [p1W] q3I x1W),.agg (spC 0 q1I)] (.tup [.arr (pE []),.arr (mE []),i64 12]):=
 Gq [p1W] q3I x1W 0 q1I 100 (Ep q3I (by decide)) wk_3
theorem wk_cs:FS 36 [.agg (eqC [p1W] q1I x1W),.agg (spC 0 q1I),.agg (qC tnW),.agg (qC 0),i64 0] (.tup [.agg (neC (syU [p1W] q1I x1W 0 q1I) (clB p1W q1I 0 q1I 1 1) (wS p1W q1I 0 q1I 1 1 tnW) (Cf p1W q1I 0 q1I 1 1 tnW 0 2)),i64 0]):=by
 obtain⟨b,c,a,d⟩:=wk_r;have s1:=By x1W 0 q1I 0 (0,1) (wv 40 40 x1W (0,q1I) 0 _ b (by decide)) (by decide+kernel) (by decide+kernel);have s2:=By (syU [p1W] q1I x1W 0 q1I) 0 q1I 0 (0,2) (wv 40 40 _ (0,q1I) 0 _ c (by decide)) (by decide+kernel) (by decide+kernel);rw[a] at s1;rw[d] at s2;exact Gy p1W q1I x1W 0 q1I tnW 0 1 1 2 0 100 (Ep q1I (by decide)) wk_su (by decide) (by rw[wk_1.1];rfl) wk_cl s1 s1 s2
theorem wk_se:FS 9 [.agg (eqC [p2W] q1I o1W),.agg (qC 0),i64 3] (.tup [.arr (pE (seK (mvK 0 [p2W]) (ca [0,1] o1W) q1I 3 4)),i64 0]):=
 yk [p2W] q1I o1W 0 3 (by decide) (tY (by decide) (by decide) (fun p hp=>by rw[List.mem_singleton.1 hp];decide) (fun p hp=>by rw[List.mem_singleton.1 hp];decide+kernel) (by decide) (by decide+kernel) (by decide) (by decide))
theorem wk_cb:∀c∈([.arr [],bln false,.arr []]:List AV)++qC q1I,Closed c:=by rw[sp_01];exact bi 0 q1I
theorem Dy:FS 7 [] (.v (.bool true)):=by
 have i2:=wk_i2;have i1:=wk_i1;have g:=wk_det;have c:=wk_so;have d:=wk_sv;have a:=wk_cs;have b:=wk_se;rw[←sp_01] at g c d a;rw[qC0] at a b;have f:=ej 1 (by decide);have m:=ej 3 (by decide);have e:=fs_Of 1 10 (by decide) (by decide) (by decide);have t1:=wx _ wk_t1.2;rw[wk_t1.1] at t1;have t2:=wx _ wk_t2.2;rw[wk_t2.1] at t2;have j:=wx _ wk_t3.2;rw[wk_t3.1] at j;have i:=ww _ wk_t4.2.1;rw[wk_t4.1] at i;have k:=ww _ wk_t4.2.2.2;rw[wk_t4.2.2.1] at k;refine f_c Tryz.func7 ?_;refine r_z 1 ?_;refine s_r 7 ?_;refine a_1 ?_;refine o_1 (.callS1 rfl rfl rfl (.shut rfl d_n (.nil)) rfl (i2)) ?_;refine a_1 ?_;refine o_1 (.callS1 rfl rfl rfl (.shut rfl d_n (.nil)) rfl (i2)) ?_;refine a_z ?_;refine AWp.ent (st':=⟨[(1,.arr (kE [p1W]))],[],1,130⟩) ?_ ?_;refine s_x [] (fun hs=>?_) (fun hs=>?_)
 ·repeat' (first|exact aS|refine az rfl ?_ ?_|(refine Cv.shut hs rfl (aQ rfl) (nle rfl) ?_;exact aT hs rfl (eG [p1W]))|exact bm)
 ·repeat' (first|exact aI|refine h_c ?_ ?_|exact cu|refine aG ?_|exact aw|refine ai ?_ ?_|(refine Cv.shut hs rfl (aQ rfl) (nle rfl) ?_;exact aT hs rfl (eG [p1W]))|exact bm)
 refine r_c 4 (f) ?_;refine a_z ?_;refine AWp.ent (st':=⟨[(1,.arr (kE [p1W])),(2,.lptr 1 0 0)],[(1,some ⟨40,6,[[.arr [],bln false,.arr []]++qC q1I]⟩)],2,130⟩) ?_ ?_;refine s_x [(1,2)] (fun hs=>?_) (fun hs=>?_)
 ·repeat' (first|exact aS|refine az rfl ?_ ?_|exact ao hs (aX [p1W])|exact bm)
 ·repeat' (first|exact aI|refine h_c ?_ ?_|exact CvLL.cons (ai (Cv.emp _) (ai (ao hs (ah _)) (ai (Cv.emp _) (CvL.clo hs (a7 q1I))))) CvLL.nil|exact cu|refine aG ?_|exact aw|refine ai ?_ ?_|exact ao hs (aX [p1W])|exact bm)
 refine AWp.ent (st':=⟨[(1,.arr (kE [p1W])),(2,.aptr [[.arr [],bln false,.arr []]++qC q1I] 0 0)],[],1,130⟩) ?_ ?_;refine s_x [] (fun hs=>?_) (fun hs=>?_)
 ·repeat' (first|exact aS|refine az rfl ?_ ?_|exact ao hs (aX [p1W])|exact Cv.boxp hs rfl (aQ rfl) rfl wk_cb|exact bm)
 ·repeat' (first|exact aI|refine h_c ?_ ?_|exact cu|refine aG ?_|exact aw|refine ai ?_ ?_|exact ao hs (aX [p1W])|exact Cv.boxp hs rfl (aQ rfl) rfl wk_cb|exact bm)
 refine r_c 8 (g) ?_;refine a_z ?_;refine r_c 7 (f) ?_;refine a_1 ?_;refine o_1 (.callS1 rfl rfl rfl (.shut rfl d_n (.nil)) rfl (i2)) ?_;refine a_z ?_;refine r_c 10 (c) ?_;refine a_z ?_;refine r_c 7 (e) ?_;refine a_z ?_;refine r_c 11 (a) ?_;refine a_z ?_;refine r_c 3 (m) ?_;refine a_z ?_;refine r_c 10 (d) ?_;refine a_z ?_;refine AWp.ent (st':=⟨[(3,.arr (pE (aj (deV (trQ (maK [p1W] 0 q1I) 1))))),(4,i64 0),(6,.arr (pE (aj (syU [p1W] q1I x1W 0 q1I)))),(7,.arr (mE [])),(8,i64 0),(11,.aptr [neC (syU [p1W] q1I x1W 0 q1I) (clB p1W q1I 0 q1I 1 1) (wS p1W q1I 0 q1I 1 1 tnW) (Cf p1W q1I 0 q1I 1 1 tnW 0 2)] 0 0),(12,i64 0),(15,i64 12)],[],1,130⟩) ?_ ?_;refine s_x [] (fun hs=>?_) (fun hs=>?_)
 ·repeat' (first|exact aS|refine az rfl ?_ ?_|exact ao hs (aC _)|exact ao hs (closed_mA _)|exact Cv.boxp hs rfl (aQ rfl) rfl (jx _ _ _ _)|exact bm)
 ·repeat' (first|exact aI|refine h_c ?_ ?_|exact cu|refine aG ?_|exact aw|refine ai ?_ ?_|exact ao hs (aC _)|exact ao hs (closed_mA _)|exact Cv.boxp hs rfl (aQ rfl) rfl (jx _ _ _ _)|exact bm)
 have l:=b.xs (D7 (ac (aC _) (ac (ah _) ag)));refine ae (AWp.regX (fr2:=[(75,.agg (eqC [p2W] q1I o1W)),(76,.agg [.arr [],bln false,.arr []]),(3,.arr (pE (aj (deV (trQ (maK [p1W] 0 q1I) 1))))),(4,i64 0),(6,.arr (pE (aj (syU [p1W] q1I x1W 0 q1I)))),(7,.arr (mE [])),(8,i64 0),(11,.aptr [neC (syU [p1W] q1I x1W 0 q1I) (clB p1W q1I 0 q1I 1 1) (wS p1W q1I 0 q1I 1 1 tnW) (Cf p1W q1I 0 q1I 1 1 tnW 0 2)] 0 0),(12,i64 0),(15,i64 12)]) (hp2:=[]) (nx2:=1) (fr3:=[(3,.arr (pE (aj (deV (trQ (maK [p1W] 0 q1I) 1))))),(4,i64 0),(6,.arr (pE (aj (syU [p1W] q1I x1W 0 q1I)))),(7,.arr (mE [])),(8,i64 0),(11,.aptr [neC (syU [p1W] q1I x1W 0 q1I) (clB p1W q1I 0 q1I 1 1) (wS p1W q1I 0 q1I 1 1 tnW) (Cf p1W q1I 0 q1I 1 1 tnW 0 2)] 0 0),(12,i64 0),(15,i64 12)]) 11 rfl rfl rfl rfl rfl rfl ?_ rfl rfl rfl l (keepF ?_) (loF rfl) ?_)
 ·refine o_1 (.buildSlice te_150.h TZ.h rfl (by decide) rfl rfl rfl (by first|(simp;done)|(simp[cC,ofV];done)|rfl)) ?_
  refine o_1 (.callS1 rfl rfl rfl (.shut rfl d_n (.nil)) rfl (i1)) ?_;refine o_1 (.buildSlice te_150.h TZ.h rfl (by decide) rfl rfl rfl (by first|(simp;done)|(simp[cC,ofV];done)|rfl)) ?_;refine o_1 (.callS1 rfl rfl rfl (.shut rfl d_n (.nil)) rfl (i1)) ?_;refine o_0 (.build TZ.h tp_61.h rfl rfl) ?_;refine o_1 (.buildSlice te_27.h TZ.h rfl (by decide) rfl rfl rfl (by first|(simp;done)|(simp[cC,ofV];done)|rfl)) ?_;refine o_0 (.call rfl rfl rfl (f)) ?_;refine o_1 (.buildSlice te_150.h TZ.h rfl (by decide) rfl rfl rfl (by first|(simp;done)|(simp[cC,ofV];done)|rfl)) ?_;refine o_1 (.callS1 rfl rfl rfl (.shut rfl d_n (.nil)) rfl (i1)) ?_;refine o_0 (.build TZ.h tp_38.h rfl rfl) ?_;refine o_0 (.build TZ.h tp_34.h rfl rfl) ?_;refine au ?_;refine s_y [] (fun hs=>?_) (fun hs=>?_)
  ·repeat' (first|exact aS|refine az rfl ?_ ?_|exact ao hs (aC _)|exact ao hs (closed_mA _)|exact ao hs (bC (jx _ _ _ _))|exact Cv.agg (ai (Cv.shut hs rfl (aQ rfl) (nle rfl) (aT hs rfl (eG [p2W]))) (CvL.clo hs (dy (a7 q1I) (ac (aC o1W) ag))))|exact Cv.agg (ai (Cv.emp _) (ai (ao hs (ah _)) (ai (Cv.emp _) aw)))|exact bm)
  ·repeat' (first|exact aI|refine h_c ?_ ?_|exact cu|refine aG ?_|exact aw|refine ai ?_ ?_|exact ao hs (aC _)|exact ao hs (closed_mA _)|exact ao hs (bC (jx _ _ _ _))|exact Cv.agg (ai (Cv.shut hs rfl (aQ rfl) (nle rfl) (aT hs rfl (eG [p2W]))) (CvL.clo hs (dy (a7 q1I) (ac (aC o1W) ag))))|exact Cv.agg (ai (Cv.emp _) (ai (ao hs (ah _)) (ai (Cv.emp _) aw)))|exact bm)
 intro p hp;rcases List.mem_cons.1 hp with rfl|hp
 exact⟨rfl,aC _⟩;rcases List.mem_cons.1 hp with rfl|hp
 exact⟨rfl,ah _⟩;rcases List.mem_cons.1 hp with rfl|hp
 exact⟨rfl,aC _⟩;rcases List.mem_cons.1 hp with rfl|hp
 exact⟨rfl,closed_mA _⟩;rcases List.mem_cons.1 hp with rfl|hp
 exact⟨rfl,ah _⟩;rcases List.mem_cons.1 hp with rfl|hp
 exact⟨rfl,bC (jx _ _ _ _)⟩;rcases List.mem_cons.1 hp with rfl|hp
 exact⟨rfl,ah _⟩;rcases List.mem_cons.1 hp with rfl|hp
 exact⟨rfl,ah _⟩;cases hp;refine o_0 (.move rfl) ?_;refine o_0 (.extract rfl rfl) ?_;refine o_0 (.extract rfl rfl) ?_;refine o_0 (.assign rfl) ?_;refine o_0 (.assign rfl) ?_;refine au ?_;refine s_r 51 ?_;refine a_1 ?_;refine o_0 (.bin rfl rfl (vT db (rfl))) ?_;refine e_s (t1) ?_;refine bK rfl rfl rfl (.bin rfl rfl (vT ob rfl)) rfl rfl ?_;refine d_3 ?_;refine bK rfl rfl rfl (.bin rfl rfl (vT db (rfl))) rfl rfl ?_;refine e_s (t2) ?_;refine bK rfl rfl rfl (.bin rfl rfl (vT ob rfl)) rfl rfl ?_;refine d_4 ?_;refine bK rfl rfl rfl (.bin rfl rfl (vT db (rfl))) rfl rfl ?_;refine d_3 ?_;refine bK rfl rfl rfl (.bin rfl rfl (vT db (rfl))) rfl rfl ?_;refine e_s (i) ?_;refine bK rfl rfl rfl (.bin rfl rfl (vT ob rfl)) rfl rfl ?_;refine e_s (k) ?_;refine bK rfl rfl rfl (.bin rfl rfl (vT ob rfl)) rfl rfl ?_;refine d_3 ?_;refine bK rfl rfl rfl (.bin rfl rfl (vT db (rfl))) rfl rfl ?_;refine d_3 ?_;refine bK rfl rfl rfl (.bin rfl rfl (vT db (rfl))) rfl rfl ?_;refine e_s (j) ?_;refine bK rfl rfl rfl (.bin rfl rfl (vT ob rfl)) rfl rfl ?_;refine a_z ?_;exact ak (t_e (ah _))
end Go.Proofs.YtkhclghbcicapaaGreatDoor
