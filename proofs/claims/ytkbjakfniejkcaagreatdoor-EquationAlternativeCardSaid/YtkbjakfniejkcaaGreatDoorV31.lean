/- Part V31 of the proof. -/
import Derived.Test.YtkbjakfniejkcaaGreatDoorV30
set_option linter.all false
namespace Go.Proofs.YtkbjakfniejkcaaGreatDoor
open Go.Abs
set_option maxRecDepth 20000
set_option maxHeartbeats 4000000
def nj(l:Lw)(k:Nat):Option La:=if k< l.length then some [i64 ((l.length- 1- k:Nat):Int),.arr (pE (l.getD (l.length- 1- k) []))] else none
def bM(l:Lw):AV:= .aptr [[.arr (mE l)]] 0 0
theorem cj(l:Lw):Closed (bM l):=bq (ac (closed_mA l) af)
theorem mE_getD{l:Lw}{i:Nat}(h:i< l.length):(mE l)[i]?=some [.arr (pE (l.getD i []))]:=by
 refine gR ?_ i rfl;rw[List.getD_eq_getElem?_getD,List.getElem?_eq_getElem h];rfl
theorem Bf(l:Lw)(hl:l.length<=281474976710656):GSpec Tryz.prog 167 [bM l] (nj l):=by
 refine GSpec.enter Tryz.func167 rfl (by kernel_rfl) rfl rfl rfl ?_ ?_ rfl ?_;exact ac (cj l) af;intro k xs h;unfold nj at h;split at h;cases h;exact ac (ag _) (ac (aB _) af);cases h;intro b N E;refine GWp.seq ?_;refine GWp.lift ?_;refine r_m 4 ?_;refine a_z ?_;refine GWp.block ?_;refine GWp.loopS (fun m:Nat=>⟨[(0,.v (.func (.yield b) #[] #[])),(1,bM l),(3,i64 ((m:Int)- 1))],[],1,19⟩) (fun m=>l.length- m) (fun m=>m) (fun m=>m<=l.length) l.length (Nat.le_refl _) (by simp) ?_ ?_;have:=cj l;exact s_f [];intro m e;refine GWp.seq ?_;refine GWp.seq ?_;refine GWp.lift ?_;refine r_m 2 ?_;refine a_z ?_;refine GWp.cond rfl (fun h=>?_) (fun h=>?_)
 ·refine GWp.skip ?_
  have d:1<=m:=by have:=of_decide_eq_true h;omega
  have a:(mE l)[((m:Int)- 1).toNat]?=some [.arr (pE (l.getD (m- 1) []))]:=by rw[show((m:Int)- 1).toNat=m- 1 by omega];exact mE_getD (by omega)
  refine GWp.seq ?_;refine GWp.block ?_;refine GWp.seq ?_;refine GWp.regY (fr2:=[(0,.v (.func (.yield b) #[] #[])),(1,bM l),(3,i64 ((m:Int)- 1)),(11,.v (.func (.yield b) #[] #[])),(12,i64 ((m:Int)- 1)),(16,.arr (pE (l.getD (m- 1) [])))]) (hp2:=[]) (nx2:=1) 6 rfl rfl rfl rfl rfl rfl ?_ rfl rfl rfl ?_ ?_ ?_;refine o_0 (.move rfl) ?_;refine o_0 (.move rfl) ?_
  first|refine aY (.load_l1 rfl rfl rfl TG.h rfl) rfl rfl ?_|refine aY (.load_a1 rfl rfl TG.h rfl) rfl rfl ?_
  refine o_0 (.move rfl) ?_;refine i_x a ?_;refine l_1 a ?_;refine aq ?_;have:=cj l;exact s_t [];rotate_left 2;intro c;refine o_0 (.un rfl nr) ?_;refine aq ?_;rotate_left;unfold nj;rw[if_pos (by omega)];have e1:((l.length- 1- (l.length- m):Nat):Int)=(m:Int)- 1:=by omega
  have e2:l.length- 1- (l.length- m)=m- 1:=by omega
  rw[e1,e2];rfl;exact ac (ag _) (ac (aB _) af);cases c with
  |false=>
   refine GWp.cond rfl (fun h=>?_) (fun h=>?_);exact GWp.ret ⟨.inr rfl,fun h=>by cases h⟩;cases h
  |true=>
   refine GWp.cond rfl (fun h=>?_) (fun h=>?_);cases h;refine GWp.skip ?_;refine GWp.lift ?_;refine r_m 3 ?_;refine a_z ?_;refine⟨rfl,m- 1,by omega,by omega,by omega,?_⟩;have:=cj l;exact s_f []
 refine GWp.exit ⟨.inl rfl,fun _=>?_⟩;have:m=0:=by have:=of_decide_eq_false h;omega
 subst this;unfold nj;rw[if_neg (by omega)]
theorem BB(l:Lw):FS 119 [.arr (mE l)] (.clos 167 [] [bM l]):=by
 refine f_c Tryz.func119 ?_;refine r_z 2 ?_;refine r_z 2 ?_;refine ai (⟨.inr rfl,[_],⟨_,[],rfl,rfl,rfl⟩,?_⟩);exact Cv.clos av (ah (Cv.boxp aA rfl (fun _ _ h=>by cases h) rfl (ac (closed_mA l) af)) av)
theorem DC(p:Lq)(hp:p.length<=1099511627776):FS 55 [.arr (pE p),.arr (mE [])] (.arr (pE (ao p))):=by
 have hb:=BB [];have b:=Bf [] (by simp);have d:=c9 p hp;refine f_c Tryz.func55 ?_;refine r_z 2 ?_;refine ae (r_c 2 (hb) ?_);refine aq ?_;refine aF (fun _:Unit=>⟨[(2,.lptr 1 0 0)],[(1,some ⟨38,1,[[.arr (pE p)]]⟩)],2,28⟩) (fun _=>True) ?_ ?_;refine aj (AWp.rangeFunc (α:=Unit) (γ:=Empty) 0 (fun _=>⟨[(2,.lptr 1 0 0),(9,.clos 167 [] [bM []])],[(1,some ⟨38,1,[[.arr (pE p)]]⟩)],2,28⟩) (fun _=>0) (fun _=>True) (fun e=>nomatch e) (fun _ e=>nomatch e) () rfl b rfl rfl ?_ (fun _=>⟨rfl,rfl⟩) (fun e=>nomatch e) trivial rfl (fun _ _=>Nat.le_refl _) ?_ ?_ ?_ ?_ (fun _ e=>nomatch e));intro k xs a;exact absurd a (by unfold nj;simp);refine s_y [(1,2)] (fun hs=>?_) (fun hs=>?_)
 ·repeat' (first|exact aP|refine ay rfl ?_ ?_|exact an hs (aR af (ac (cj []) af))|exact aX)
 ·repeat' (first|exact aE|refine h_c ?_ ?_|exact bZ|refine aD ?_|exact av|refine ah ?_ ?_|exact an hs (aR af (ac (cj []) af))|exact aX)
 exact ac (cj []) af;intro l k xs c a;exact absurd a (by unfold nj;simp);intro k c a;refine⟨(),trivial,?_⟩;exact s_e [];rintro _ _;refine r_c 3 (d) ?_;refine a_z ?_;exact ai (t_e (aB _))
def ixS(L:Ln)(f:Nat):Nat->AState
 |i=>⟨[(0,.arr (lvE L)),(1,i64 f),(7,i64 L.length),(8,i64 i)],[],1,19⟩
theorem GW(L:Ln)(f:Nat)(hl:L.length<=1099511627776):FS 190 [.arr (lvE L),i64 f] (i64 (kg (fun c:Nat=>((f:Int)==(c:Int))) L 0)):=by
 have j:(lvE L).length=L.length:=j8 L;refine f_n Tryz.func190 ?_ ?_;exact ac (aG (c8 L)) (ac (ag _) af);obtain⟨R,g⟩:∃R,R=kg (fun c:Nat=>((f:Int)==(c:Int))) L 0:=⟨_,rfl⟩;rw[<-g];refine r_z 1 ?_;refine ae (r_z 3 ?_);refine aF (fun _:Unit=>⟨[],[],1,19⟩) (fun _=>R= -1) ?_ ?_;refine aj (aC (ixS L f) (fun i=>L.length- i) (fun i=>i<=L.length/\kg (fun c:Nat=>((f:Int)==(c:Int))) (L.drop i) i=R) 0 ⟨Nat.zero_le _,by rw[g];rfl⟩ ?_ ?_);simp only[ixS.eq_1];have:=(aG (c8 L));exact s_f [];rintro i ⟨k,a⟩;rw[ixS.eq_1];by_cases hlt:i< L.length;refine q_z 1 ?_;refine ae (cT (am ?_));obtain⟨c,h⟩:∃c,L[i]?=some c:=⟨_,List.getElem?_eq_getElem hlt⟩;have b:(lvE L)[((i:Nat):Int).toNat]?=some [i64 c]:=tO h _ (by simp);rw[zQ h,kg] at a;refine ae (aj (r_z 2 ?_));refine s_r 6 ?_;refine a_3 ?_;refine i_x b ?_;refine l_1 b ?_;refine a_z ?_;refine au rfl (fun e=>?_) (fun e=>?_);rw[if_pos e] at a;refine r_z 2 ?_;refine ai (aW rfl ?_ ?_);rw[<-a];exact ag _;rw[if_neg (by rw[e];decide)] at a;refine am (r_m 2 ?_);refine a_z ?_;refine⟨i+1,by omega,⟨hlt,a⟩,?_⟩;simp only[ixS.eq_1];have:=(aG (c8 L));exact s_f [];have d:i=L.length:=by omega
 subst d;refine q_z 1 ?_;refine ae (cF ?_);rw[List.drop_length] at a;refine ax ⟨(),a.symm,?_⟩;exact s_e [];rintro _ a;refine r_z 1 ?_;refine ai (aW rfl ?_ ?_);rw[a];rfl;exact ag _
theorem ry(f:Nat):∀L:Ln,L.any (fun c:Nat=>((f:Int)==(c:Int)))=L.contains f
 |[]=>rfl
 |a::L=>by
  rw[List.any_cons,ry f L,List.contains_cons];refine congrArg (· ||L.contains f) ?_;cases hb:(f==a) with
  |true=>rw[eq_of_beq hb];exact beq_self_eq_true _
  |false=>
   have b:¬f=a:=fun e=>by rw[e] at hb;simp at hb
   exact beq_eq_false_iff_ne.2 (by omega)
theorem qU(L:Ln)(f:Nat)(hl:L.length<=1099511627776):FS 152 [.arr (lvE L),i64 f] (bln (L.contains f)):=by
 have e:=qA (fun c:Nat=>((f:Int)==(c:Int))) L 0 (Int.le_refl 0);rw[ry] at e;have a:=GW L f hl;refine f_n Tryz.func152 ?_ ?_;exact ac (aG (c8 L)) (ac (ag _) af);refine r_z 1 ?_;refine r_c 5 (a) ?_;refine a_z ?_;refine ai (aW rfl ?_ ?_);rw[<-e];rfl;exact ag _
def z0S(A:Mx)(n:Nat)(L:Ln):Nat->AState
 |f=>⟨[(1,bSy n A L),(3,.emp),(9,i64 n),(10,i64 f)],[],1,51⟩
theorem Gw(A:Mx)(n:Nat)(L:Ln)(hn:n<=25)(hLn:L.length<=n)(hL:∀f,f< n->L.contains f=true):FS 97 [syV n (A,L)] (.arr (mE [])):=by
 refine f_n Tryz.func97 ?_ ?_;exact ac (fN n A L) af;refine r_z 2 ?_;refine AWp.ent (st':=⟨[(1,bSy n A L)],[],1,51⟩) ?_ ?_;have:=ef n A L;exact s_f [];refine r_z 1 ?_;refine ae (r_z 3 ?_);refine aF (fun _:Unit=>⟨[(3,.emp)],[],1,51⟩) (fun _=>True) ?_ ?_;refine aj (aC (z0S A n L) (fun f=>n- f) (fun f=>f<=n) 0 (Nat.zero_le _) ?_ ?_);rw[z0S.eq_1];have:=bD n A L;exact s_f [];intro f b;rw[z0S.eq_1];by_cases hlt:f< n;have a:=qU L f (by omega);rw[hL f hlt] at a;refine q_z 1 ?_;refine ae (cT (am (ae (aj (r_z 2 ?_)))));refine ae (r_c 4 (a) ?_);refine aq ?_;refine cT (ax (r_m 2 ?_));refine a_z ?_;refine⟨f+1,by omega,by omega,?_⟩;rw[z0S.eq_1];have:=bD n A L;exact s_f [];refine q_z 1 ?_;refine ae (cF (ax ⟨(),trivial,?_⟩));exact s_e [];rintro _ _;refine r_z 2 ?_;exact ai (Fin.tmpN rfl)
theorem GG(g:Nat)(bn:La)(hb:∀c∈bn,Closed c):FS 96 [.arr (mE []),.clos g bn []] (.arr (mE [])):=by
 have a:Closed (.clos g bn []):=aR hb af;refine f_c Tryz.func96 ?_;refine r_z 1 ?_;refine r_z 1 ?_;refine ae (r_z 3 ?_);refine aF (fun _:Unit=>⟨[(5,.emp)],[],1,22⟩) (fun _=>True) ?_ ?_;refine aj (aC (fun _:Unit=>⟨[(5,.emp),(9,i64 0),(10,i64 0)],[],1,22⟩) (fun _=>0) (fun _=>True) () trivial ?_ ?_);exact s_e [];rintro _ _;refine q_z 1 ?_;refine ae (cF (ax ⟨(),trivial,?_⟩));exact s_e [];rintro _ _;refine r_z 2 ?_;exact ai (Fin.tmpN rfl)
theorem Bt:FS 95 [.arr (mE [])] (.arr (mE [])):=by
 refine f_c Tryz.func95 ?_;refine r_z 1 ?_;refine r_z 1 ?_;refine ae (r_z 3 ?_);refine aF (fun _:Unit=>⟨[(3,.emp)],[],1,49⟩) (fun _=>True) ?_ ?_;refine aj (aC (fun _:Unit=>⟨[(3,.emp),(8,i64 0),(9,i64 0)],[],1,49⟩) (fun _=>0) (fun _=>True) () trivial ?_ ?_);exact s_e [];rintro _ _;refine q_z 1 ?_;refine ae (cF (ax ⟨(),trivial,?_⟩));exact s_e [];rintro _ _;refine r_z 2 ?_;exact ai (Fin.tmpN rfl)
theorem Jb(k:Ke)(l:Rat)(g:Lq)(a b:Rat)(A:Mx)(n:Nat)(L:Ln)(hz:FS 97 [syV n (A,L)] (.arr (mE []))):FS 36 [.agg (tkC k l g a b),syV n (A,L)] (.arr (mE [])):=by
 have c:=GG 57 [.arr (kE k)] (ac (aL k) af);have d:=Bt;refine f_n Tryz.func36 ?_ ?_;exact ac (az (ee k l g a b)) (ac (fN n A L) af);refine r_z 3 ?_;refine AWp.ent (st':=⟨[(2,bTk k l g a b),(3,bSy n A L)],[],1,13⟩) ?_ ?_;refine s_x [] (fun hs=>?_) (fun hs=>?_)
 ·repeat' (first|exact aP|refine ay rfl ?_ ?_|exact Cv.boxp hs rfl (aT rfl) rfl (ee k l g a b)|exact Cv.boxp hs rfl (aT rfl) rfl (ef n A L)|exact aX)
 ·repeat' (first|exact aE|refine h_c ?_ ?_|exact bZ|refine aD ?_|exact av|refine ah ?_ ?_|exact Cv.boxp hs rfl (aT rfl) rfl (ee k l g a b)|exact Cv.boxp hs rfl (aT rfl) rfl (ef n A L)|exact aX)
 refine ae (r_d a7 9 ?_);refine c_s (hz) ?_;refine c_s (c) ?_;refine c_s (d) ?_;refine a_1 ?_;refine aq (n_k ?_);exact ai (t_e (closed_mA _))
def ns(k:Ke)(l:Rat)(g:Lq)(a b:Rat):Lq:=yU (syM k l (rhK k g a b) a b).1 k.length (syM k l (rhK k g a b) a b).2
def syU(k:Ke)(l:Rat)(g:Lq)(a b:Rat):Lq:=fQ g (ba (smK k (ns k l g a b) k.length) l)
structure OkTa (k:Ke)(l:Rat)(g:Lq)(a b:Rat)(s:Nat):Prop where
 ke:pn k
 ha:sm a
 hb:sm b
 ab:a<=b
 dg:bO g<=20
 gl:g.length<=1099511627776
 sy:OkSy k l a b s
 rh:∀p∈k,j7 p.2 g/\OkIn (aK p.2 g) a b/\qs (inQ (aK p.2 g) a b)<=s
structure OkSu (k:Ke)(l:Rat)(g:Lq)(a b:Rat):Prop where
 ms:∀i p,k[i]?=some p->OkSm k (ns k l g a b) i p
 u1:smL (smK k (ns k l g a b) k.length)
 u2:(smK k (ns k l g a b) k.length).length<=1099511627776
 sl:sm l
 sg:smL g
 v1:smL (ba (smK k (ns k l g a b) k.length) l)
 v2:(ba (smK k (ns k l g a b) k.length) l).length<=1099511627776
theorem OkTa.none{k:Ke}{l:Rat}{g:Lq}{a b:Rat}{s:Nat}(h:OkTa k l g a b s):FS 54 [syV k.length (syM k l (rhK k g a b) a b)] (bln (ji k.length (syM k l (rhK k g a b) a b).1 (syM k l (rhK k g a b) a b).2)):=
 I7 (syM k l (rhK k g a b) a b).1 k.length (syM k l (rhK k g a b) a b).2 (dh _ _ _).len (by have:=h.ke.1;omega)
theorem GN(k:Ke)(l:Rat)(g:Lq)(a b:Rat)(s:Nat)(h:OkTa k l g a b s)(h2:OkSu k l g a b)(hL:∀f,f< k.length->(syM k l (rhK k g a b) a b).2.contains f=true)(hN:ji k.length (syM k l (rhK k g a b) a b).1 (syM k l (rhK k g a b) a b).2=false)(hu:(syU k l g a b).length<=1099511627776):
    FS 16 [.agg (eqC k l g),.agg (spC a b)] (.tup [.arr (pE (ao (syU k l g a b))),.arr (mE []),i64 0]):=by
 have p:=h.ke.1;have m:=fW k l g a b h.ke h.ha h.hb h.ab h.dg h.gl;have hs:=lE k l g a b s h.sy h.rh;have j:=h.none;rw[hN] at j;have q:=Gw (syM k l (rhK k g a b) a b).1 k.length (syM k l (rhK k g a b) a b).2 (by omega) (dh _ _ _).len hL;have n:=Jb k l g a b _ _ _ q;have o:=tU (syM k l (rhK k g a b) a b).1 k.length (syM k l (rhK k g a b) a b).2 (dh _ _ _) (by omega);have c:=tV k (ns k l g a b) (by unfold ns;simp) (by omega) h2.ms;have d:=fK _ l h2.u1 h2.sl h2.u2;have e:=nZ g _ h2.sg h2.v1 h.gl h2.v2;have i:=DC (syU k l g a b) hu;refine f_n Tryz.func16 ?_ ?_;exact ac (az (dk k l g)) (ac (az (aZ a b)) af);refine r_z 5 ?_;refine r_z 5 ?_;refine AWp.ent (st':=⟨[(7,bTk k l g a b)],[],1,38⟩) ?_ ?_;have:=ee k l g a b;exact s_f [];refine ae (r_c 2 (m) ?_);refine aq ?_;refine cF (am (r_c 4 (hs) ?_));refine a_z ?_;refine AWp.ent (st':=⟨[(7,bTk k l g a b),(8,bSy k.length (syM k l (rhK k g a b) a b).1 (syM k l (rhK k g a b) a b).2)],[],1,38⟩) ?_ ?_;exact s_x [] (fun hs=>e_25) (fun hs=>e_26);refine ae (r_c 2 (j) ?_);refine aq ?_;refine cF (am (r_c 4 (n) ?_));refine a_z ?_;refine ae (r_d a7 20 ?_);refine c_s (o) ?_;refine c_s (c) ?_;refine c_s (d) ?_;refine c_s (e) ?_;refine c_s (i) ?_;refine a_4 ?_;refine aq (n_k ?_);refine ai (Fin.many ⟨_,_,rfl,rfl,⟨_,_,rfl,rfl,⟨_,_,rfl,rfl,rfl⟩⟩⟩ (nle rfl) ?_);exact ah (an aA (aB _)) (ah (an aA (closed_mA _)) (ah (an aA (ag _)) av))
theorem xF(k:Ke)(l:Rat)(g:Lq)(a b:Rat)(s:Nat)(h:OkTa k l g a b s)(hN:ji k.length (syM k l (rhK k g a b) a b).1 (syM k l (rhK k g a b) a b).2=true):
    FS 16 [.agg (eqC k l g),.agg (spC a b)] (.tup [.arr (pE []),.arr (mE []),i64 12]):=by
 have e:=h.ke.1;have d:=fW k l g a b h.ke h.ha h.hb h.ab h.dg h.gl;have hs:=lE k l g a b s h.sy h.rh;have c:=h.none;rw[hN] at c;refine f_n Tryz.func16 ?_ ?_;exact ac (az (dk k l g)) (ac (az (aZ a b)) af);refine r_z 5 ?_;refine r_z 5 ?_;refine AWp.ent (st':=⟨[(7,bTk k l g a b)],[],1,38⟩) ?_ ?_;have:=ee k l g a b;exact s_f [];refine ae (r_c 2 (d) ?_);refine aq ?_;refine cF (am (r_c 4 (hs) ?_));refine a_z ?_;refine AWp.ent (st':=⟨[(7,bTk k l g a b),(8,bSy k.length (syM k l (rhK k g a b) a b).1 (syM k l (rhK k g a b) a b).2)],[],1,38⟩) ?_ ?_;exact s_x [] (fun hs=>e_25) (fun hs=>e_26);refine ae (r_c 2 (c) ?_);refine aq ?_;refine cT (r_z 3 ?_);refine ai (Fin.many ⟨_,_,rfl,rfl,⟨_,_,rfl,rfl,⟨_,_,rfl,rfl,rfl⟩⟩⟩ (nle rfl) ?_);exact ah (Cv.emp _) (ah (Cv.emp _) (ah (an aA (ag _)) av))
def sqR(n:Nat)(A:Mx):Lw:=(List.range n).map fun k=>aN n (A k)
@[simp] theorem CO (n:Nat)(A:Mx):(sqR n A).length=n:=by simp[sqR]
theorem yr{n i:Nat}{A:Mx}(h:i< n):(sqR n A)[i]?=some (aN n (A i)):=by simp[sqR,h]
theorem zy(n:Nat)(A:Mx):(fiL A n n).map (fun e=>([.arr e]:La))=mE (sqR n A):=by
 rw[fiL_rwL,HV];rfl
theorem vo(k:Ke)(a b:Rat)(h:OkMa k a b):FS 74 [.arr (kE k),.agg (spC a b)] (.arr (mE (sqR k.length (maK k a b)))):=by
 have:=(rA k a b h).shut rfl (ac (aL k) (ac (az (aZ a b)) af))
  (Cv.mzShut (r:=⟨0,fun i=>i⟩) (show(3:Nat)≠0 by decide) aA (fun _=>rfl) (ko _ _ _).symm (fun i e h=>by have:=(n5 h).2;subst this;simp[pE]) fun e d x g c f=>by
   obtain⟨k,_,rfl⟩:=List.mem_map.1 d;exact aJ _ x g c f) (by rw[zy];exact closed_mA _)
 rw[zy] at this;exact this
def trQ(A:Mx)(i:Nat):Rat:=sQ (fun t=>A t t) i
def tcS(pM:Nat->Mx)(n ll j:Nat):Nat->AState
 |i=>⟨[(0,.v (.func (.yield ll) #[] #[])),(1,bM (sqR n (pM 0))),(3,.arr (mE (sqR n (pM j)))),(4,.lptr 1 0 0),(11,i64 n),(12,i64 i)],[(1,some ⟨36,3,[qC (trQ (pM j) i)]⟩)],2,29⟩
theorem xu(pM:Nat->Mx)(n K:Nat)(hn:n<=25)(hs:∀j,j<=K->∀i,i< n->qs (trQ (pM j) i)+qs (pM j i i)<=549755813888)(hmul:∀j,j< K->FS 148 [.arr (mE (sqR n (pM j))),.arr (mE (sqR n (pM 0)))] (.arr (mE (sqR n (pM (j+1)))))):
    GSpecB Tryz.prog 147 [bM (sqR n (pM 0))] (fun j=>some [.agg (qC (trQ (pM j) n))]) K:=by
 refine GSpecB.enter Tryz.func147 rfl (by kernel_rfl) rfl rfl rfl ?_ ?_ rfl ?_;exact ac (cj _) af;intro j xs h;cases h;exact ac (aS _) af;intro ll N hN E;refine GWp.seq ?_;refine GWp.lift ?_;refine r_m 2 ?_;refine a_z ?_;refine GWp.block ?_;refine GWp.loopS (fun j:Nat=>⟨[(0,.v (.func (.yield ll) #[] #[])),(1,bM (sqR n (pM 0))),(3,.arr (mE (sqR n (pM j))))],[],1,29⟩) (fun j=>j) (fun j=>N+1- j) (fun j=>j<=N) 0 (Nat.zero_le _) rfl ?_ ?_;exact s_x [] (fun hs=>e_5) (fun hs=>JD);intro j l;have k:(mE (sqR n (pM j))).length=n:=by simp
 refine GWp.seq ?_;refine GWp.block ?_;refine GWp.seq ?_;refine GWp.lift ?_;refine r_m 1 ?_;refine a_z ?_;refine GWp.seq ?_;refine GWp.seq ?_;refine GWp.lift ?_;refine r_m 3 ?_;refine a_z ?_;refine GWp.cutT (fun _:Unit=>tcS pM n ll j n) (fun _=>True) ?_ ?_;refine aj (aC (tcS pM n ll j) (fun i=>n- i) (fun i=>i<=n) 0 (Nat.zero_le _) ?_ ?_);rw[tcS.eq_1];refine s_x [(1,4)] (fun hs=>e_5) (fun hs=>?_)
 ·repeat' (first|exact aE|refine h_c ?_ ?_|exact CvLL.zeros hs 1|exact bZ|refine aD ?_|exact av|refine ah ?_ ?_|exact an hs (cj _)|exact an hs (closed_mA _)|exact aX)
 intro i m;rw[tcS.eq_1];by_cases hlt:i< n;have a:(mE (sqR n (pM j)))[((i:Nat):Int).toNat]?=some [.arr (pE (aN n (pM j i)))]:=gR (yr hlt) _ (by simp);have b:(pE (aN n (pM j i)))[((i:Nat):Int).toNat]?=some (qC (pM j i i)):=dx hlt _ (by simp);have g:(pE (aN n (pM j i))).length=n:=by simp[pE]
 have e:=fy (trQ (pM j) i) (pM j i i) (hs j (by omega) i hlt);refine q_z 1 ?_;refine ae (cT (am (ae (aj (r_z 2 ?_)))));refine r_d a7 10 ?_;refine a_3 ?_;refine i_x a ?_;refine l_1 a ?_;refine a_1 ?_;refine i_x b ?_;refine l_x b ?_;refine c_s (e) ?_;refine a_1 ?_;refine aq (n_k ?_);refine r_m 2 ?_;refine a_z ?_;refine⟨i+1,by omega,by omega,?_⟩;rw[tcS.eq_1];exact s_x [] (fun hs=>e_5) (fun hs=>JD);have c:i=n:=by omega
 subst c;refine q_z 1 ?_;refine ae (cF (ax ⟨(),trivial,?_⟩));exact s_x [] (fun hs=>e_5) (fun hs=>JD);rintro _ _;rw[tcS.eq_1];refine GWp.seq ?_;refine GWp.regY (fr2:=[(0,.v (.func (.yield ll) #[] #[])),(1,bM (sqR n (pM 0))),(3,.arr (mE (sqR n (pM j)))),(25,.v (.func (.yield ll) #[] #[])),(26,.agg (qC (trQ (pM j) n)))]) (hp2:=[]) (nx2:=1) 2 rfl rfl rfl rfl rfl rfl ?_ rfl rfl rfl ?_ ?_ ?_;refine o_0 (.move rfl) ?_;refine aY (.load_l rfl rfl rfl TG.h TS.h (nle rfl)) rfl rfl ?_;refine aq ?_;exact s_y [] (fun hs=>e_5) (fun hs=>JD);rotate_left 2;intro f;refine o_0 (.un rfl nr) ?_;refine aq ?_;rotate_left;rfl;exact ac (aS _) af;cases f with
 |false=>
  refine GWp.cond rfl (fun h=>?_) (fun h=>?_);exact GWp.ret ⟨.inr rfl,fun h=>by cases h⟩;cases h
 |true=>
  refine GWp.bound fun d=>?_;refine GWp.cond rfl (fun h=>?_) (fun h=>?_);cases h;refine GWp.skip ?_;refine GWp.lift ?_;refine r_m 4 ?_;refine c_s (hmul j (by omega)) ?_;refine a_z ?_;refine⟨rfl,j+1,by omega,d,rfl,?_⟩;exact s_x [] (fun hs=>e_5) (fun hs=>JD)
theorem xy(l:Lw):FS 94 [.arr (mE l)] (.clos 147 [] [bM l]):=by
 refine f_c Tryz.func94 ?_;refine r_z 2 ?_;refine r_z 2 ?_;refine ai (⟨.inr rfl,[_],⟨_,[],rfl,rfl,rfl⟩,?_⟩);exact Cv.clos av (ah (Cv.boxp aA rfl (fun _ _ h=>by cases h) rfl (ac (closed_mA l) af)) av)
def dtS(k:Ke)(M:Lw):Unit->AState
 |u=>⟨[(2,bKe k),(5,.lptr 1 0 0),(6,.lptr 2 0 0),(20,.clos 147 [] [bM M])],[(1,some ⟨38,1,[[.lsl 3 0 1 none 3]]⟩),(2,some ⟨37,1,[[.emp]]⟩),(3,some ⟨36,3,[qC ((1:Int):Rat)]⟩)],4,60⟩
def dtX(c:Rat):Unit->AState
 |u=>⟨[(5,.lptr 1 0 0)],[(1,some ⟨38,1,[[.lsl 3 0 2 none 3]]⟩),(3,some ⟨36,3,[qC ((1:Int):Rat),qC c]⟩)],4,60⟩
def dtI(k:Ke)(t:Rat)(w:Nat->Rat)(i:Nat):AState:=⟨[(2,bKe k),(5,.lptr 1 0 0),(6,.lptr 2 0 0),(8,i64 1),(9,.lptr 5 0 0),(28,.lsl 4 0 1 none 3),(29,i64 1),(30,i64 i),(1005,.lptr 1 0 0)],[(1,some ⟨38,1,[[.lsl 3 0 1 none 3]]⟩),(2,some ⟨37,1,[[.lsl 4 0 1 none 3]]⟩),(3,some ⟨36,3,[qC ((1:Int):Rat)]⟩),(4,some ⟨36,3,[qC t]⟩),(5,some ⟨36,3,[qC (w i)]⟩)],6,60⟩
def dtC(t:Rat):Nat->Rat
 |0=>0
 |_+1=>0- t* ((1:Int):Rat)
def deV(t:Rat):Lq:=[((1:Int):Rat),dtC t 1/ ((1:Int):Rat)]
theorem fs_det1(p:Lq×Lq)(a b:Rat)(h:OkMa [p] a b)(hs:qs (maK [p] a b 0 0)<=100000000000):
    FS 34 [.arr (kE [p]),.agg (spC a b)] (.arr (pE (ao (deV (trQ (maK [p] a b) 1))))):=by
 have i1:=dU 1 (by decide);have hm:=vo [p] a b h;obtain⟨A,hA⟩:∃A,A=maK [p] a b:=⟨_,rfl⟩;rw[<-hA] at hm hs⊢;have hq1:qs ((1:Int):Rat)<=1:=by decide
 have hgs:=xu (fun _=>A) 1 0 (by omega) (fun j hj i hi=>by
  obtain rfl:i=0:=by omega
  show qs (0:Rat)+qs (A 0 0)<=_;have:qs (0:Rat)<=1:=by decide
  omega) (fun j hj=>by omega)
 have htr:=xy (sqR 1 A);obtain⟨t,ht⟩:∃t,t=trQ A 1:=⟨_,rfl⟩
 have hqt:qs t<=100000000002:=by
  rw[ht];show qs (0+A 0 0)<=_;have:=gx 0 (A 0 0);have:qs (0:Rat)<=1:=by decide
  omega
 simp only[<-ht] at hgs⊢;have hmu:=c6 t ((1:Int):Rat) (by omega)
 have hsu:=jC 0 (t* ((1:Int):Rat)) (by have:=dw t ((1:Int):Rat);have:qs (0:Rat)<=1:=by decide
                                       omega)
 have hov:=lF (dtC t 1) ((1:Int):Rat) (by decide) (by
  have h1:=me 0 (t* ((1:Int):Rat));have h2:=dw t ((1:Int):Rat);have h3:qs (0:Rat)<=1:=by decide
  show qs (0- t* ((1:Int):Rat))+_<=_;omega)
 have hti:=c9 (deV t) (by simp[deV]);refine f_n Tryz.func34 ?_ ?_;exact ac (aL [p]) (ac (az (aZ a b)) af);refine r_z 3 ?_;refine AWp.ent (st':=⟨[(2,bKe [p]),(3,bSp a b)],[],1,60⟩) ?_ ?_;refine s_x [] (fun hs=>?_) (fun hs=>?_)
 ·repeat' (first|exact aP|refine ay rfl ?_ ?_|exact Cv.boxp hs rfl (aT rfl) rfl (ac (aL [p]) af)|exact Cv.boxp hs rfl (aT rfl) rfl (aZ a b)|exact aX)
 ·repeat' (first|exact aE|refine h_c ?_ ?_|exact bZ|refine aD ?_|exact av|refine ah ?_ ?_|exact Cv.boxp hs rfl (aT rfl) rfl (ac (aL [p]) af)|exact Cv.boxp hs rfl (aT rfl) rfl (aZ a b)|exact aX)
 refine r_c 4 (i1) ?_;refine a_z ?_;refine r_z 1 ?_;refine ae (s_r 3 ?_);refine a_2 ?_;refine o_0 (.bin rfl rfl (vT kG (rfl))) ?_;refine aq ?_;refine aF (fun _:Unit=>dtX (dtC t 1/ ((1:Int):Rat)) ()) (fun _=>True) ?_ ?_;refine cT (r_c 4 (hm) ?_);refine c_s (htr) ?_;refine aq ?_;refine aj (AWp.rangeFuncB (α:=Unit) (γ:=Unit) 0 (dtS [p] (sqR 1 A)) (fun _=>0) (fun _=>True) (dtX (dtC t 1/ ((1:Int):Rat))) (fun e _=>e= .exit 0) () rfl hgs rfl rfl ?_ (fun _=>⟨rfl,rfl⟩) (fun _=>rfl) trivial rfl (fun _ _=>Nat.le_refl _) ?_ ?_ ?_ ?_ ?_);intro j xs hT;cases hT;rfl;rw[dtS.eq_1];refine s_y [(1,5),(2,6),(3,13)] (fun hs=>?_) (fun hs=>?_)
 ·repeat' (first|exact aP|refine ay rfl ?_ ?_|exact an hs (cW [p])|exact an hs (aR af (ac (cj _) af))|exact aX)
 ·repeat' (first|exact aE|refine h_c ?_ ?_|exact bZ|refine aD ?_|exact av|refine ah ?_ ?_|exact an hs (cW [p])|exact an hs (aR af (ac (cj _) af))|exact aX)
 exact ac (cj _) af
 ·intro ll j xs hj hT
  cases hT;show AWp _ _ _ _ ⟨[(21,.agg (qC t)),(2,bKe [p]),(5,.lptr 1 0 0),(6,.lptr 2 0 0),(20,.clos 147 [] [bM (sqR 1 A)]),(1002,bKe [p]),(1005,.lptr 1 0 0),(1006,.lptr 2 0 0),(1020,.clos 147 [] [bM (sqR 1 A)])],[(1,some ⟨38,1,[[.lsl 3 0 1 none 3]]⟩),(2,some ⟨37,1,[[.emp]]⟩),(3,some ⟨36,3,[qC ((1:Int):Rat)]⟩)],4,60⟩;refine r_m 2 ?_;refine a_z ?_;refine aj (s_r 5 ?_);refine a_3 ?_
  first|refine AR.op2 (.append_l rfl rfl rfl te_37.h rfl rfl rfl rfl rfl d_o (by first|exact dV _|exact dT _|exact dy _|exact dX _|exact dS _|assumption|rfl|simp) (by first|rfl|exact dV _|exact dT _|exact dy _|exact dX _|exact dS _|simp) rfl (.lsl rfl (nle rfl)) TZ.h rfl TB.h d_o (by first|(simp[maxLen];done)|(simp[maxLen];omega))) rfl rfl ?_|refine AR.op1 (.append_e rfl rfl rfl te_37.h rfl rfl rfl (.lsl rfl (nle rfl)) (by first|assumption|(simp;done)) TZ.h rfl TB.h d_o (by first|(simp[maxLen];done)|(simp[maxLen];omega))) rfl rfl ?_
  refine a_z ?_;refine r_z 3 ?_;refine r_z 1 ?_;refine ae (r_z 3 ?_);refine aF (fun _:Unit=>dtI [p] t (dtC t) 1) (fun _=>True) ?_ ?_;refine aj (aC (dtI [p] t (dtC t)) (fun i=>1- i) (fun i=>i<=1) 0 (Nat.zero_le _) ?_ ?_);rw[dtI.eq_1];refine s_z [(1,5),(2,6),(3,100003),(4,28),(5,9)] (fun hs=>e_27) (fun hs=>?_)
  ·repeat' (first|exact aE|refine h_c ?_ ?_|exact CvLL.zeros hs 1|exact bZ|refine aD ?_|exact av|refine ah ?_ ?_|exact an hs (cW [p])|exact aX)
  intro i hi;by_cases h1:i< 1;obtain rfl:i=0:=by omega
  rw[dtI.eq_1];refine s_r 1 ?_;refine o_0 (.bin rfl rfl (vT ej (rfl))) ?_;refine aq ?_;refine ae (cT (am (ae (aj (r_z 6 ?_)))));refine r_d a7 12 ?_;refine c_s (hmu) ?_;refine c_s (hsu) ?_;refine a_1 ?_;refine aq (n_k ?_);refine r_m 2 ?_;refine a_z ?_;refine⟨1,by omega,by omega,?_⟩;rw[dtI.eq_1];exact s_z [(1,5),(2,6),(3,100003),(4,28),(5,9)] (fun hs=>e_27) (fun hs=>e_58);obtain rfl:i=1:=by omega
  rw[dtI.eq_1];refine s_r 1 ?_;refine o_0 (.bin rfl rfl (vF ej (rfl))) ?_;refine aq ?_;refine ae (cF (ax ⟨(),trivial,?_⟩));exact s_z [(1,5),(2,6),(3,100003),(4,28),(5,9)] (fun hs=>e_27) (fun hs=>e_58);rintro _ _;rw[dtI.eq_1];refine ae (r_d a7 8 ?_);refine c_s (i1) ?_;refine c_s (hov) ?_;refine a_3 ?_;refine aq (n_k ?_);refine s_r 4 ?_;refine a_3 ?_;refine o_0 (.bin rfl rfl (vT cb (rfl))) ?_;refine aq ?_;refine cT (ax (⟨rfl,(),rfl,?_⟩));show SEntT _ ⟨[(1005,.lptr 1 0 0)],[(1,some ⟨38,1,[[.lsl 3 0 2 none 3]]⟩),(3,some ⟨36,3,[qC ((1:Int):Rat),qC (dtC t 1/ ((1:Int):Rat))]⟩)],4,60⟩;have:=(aJ [((1:Int):Rat),dtC t 1/ ((1:Int):Rat)]);exact s_t [(1,5),(3,53)]
 intro j hj hT;cases hT;rintro e u rfl;exact⟨u,trivial,SEnt.refl _⟩;rintro _ _;rw[dtX.eq_1];refine s_r 3 ?_;refine a_1 ?_;refine o_1 (.callS1 rfl rfl rfl (.shut rfl d_n (.nil)) rfl (hti)) ?_;refine a_z ?_;exact ai (t_e (aB _))
theorem fs_Det1(p:Lq×Lq)(a b:Rat)(hke:pn [p])(ha:sm a)(hb:sm b)(hab:a<=b)(h:OkMa [p] a b)(hs:qs (maK [p] a b 0 0)<=100000000000):
    FS 7 [.arr (kE [p]),.agg (spC a b)] (.tup [.arr (pE (ao (deV (trQ (maK [p] a b) 1)))),i64 0]):=by
 have d:=oM [p] a b hke ha hb hab;have c:=fs_det1 p a b h hs;refine f_n Tryz.func7 ?_ ?_;exact ac (aL [p]) (ac (az (aZ a b)) af);refine r_z 3 ?_;refine ae (r_c 3 (d) ?_);refine aq ?_;refine cF (am (r_c 5 (c) ?_));refine a_z ?_;refine ai (Fin.many ⟨_,_,rfl,rfl,⟨_,_,rfl,rfl,rfl⟩⟩ (nle rfl) ?_);exact ah (an aA (aB _)) (ah (an aA (ag _)) av)
theorem Bk(p:Lq)(lo hi:Rat)(gr:Int)(v:Sp)(hR:FS 133 [.arr (pE p),.agg (spC lo hi),i64 gr] (.tup [.agg (spC v.1 v.2),i64 0]))(h1:sm v.1)(h2:sm v.2):FS 69 [.agg (spC lo hi++[i64 gr]),.arr (pE p)] (.agg (qC (Ep v))):=by
 have a:∀c∈spC lo hi++[i64 gr],Closed c:=fun c b=>(List.mem_append.1 b).elim (aZ lo hi c) (ac (ag _) af c);refine f_c Tryz.func69 ?_;refine r_z 2 ?_;refine r_c 12 (hR) ?_;refine a_z ?_;refine r_c 4 (fs_SAbs v h1 h2) ?_;refine a_z ?_;exact ai (c_e (aS _))
def szC(a b:Rat)(gr:Int):AV:= .clos 69 [.agg (spC a b++[i64 gr])] []
theorem pG(a b:Rat)(gr:Int):Closed (szC a b gr):=aR (ac (az fun c d=>(List.mem_append.1 d).elim (aZ a b c) (ac (ag _) af c)) af) af
def bSz(a b:Rat)(gr:Int):AV:= .aptr [[szC a b gr]] 0 0
theorem dM(a b:Rat)(gr:Int):Closed (bSz a b gr):=bq (ac (pG a b gr) af)
theorem fs_Clo1(p:Lq×Lq)(a b:Rat)(gr:Int)(v:Rat)(h:FS 69 [.agg (spC a b++[i64 gr]),.arr (pE p.1)] (.agg (qC v))):FS 71 [.agg (prC p),bSz a b gr] (.agg (qC v)):=by
 refine f_n Tryz.func71 ?_ ?_;exact ac (az (fk p)) (ac (dM a b gr) af);refine r_z 2 ?_;refine r_c 5 (h) ?_;refine a_z ?_;exact ai (c_e (aS _))
theorem fs_Clo2(p:Lq×Lq)(a b:Rat)(gr:Int)(v:Rat)(h:FS 69 [.agg (spC a b++[i64 gr]),.arr (pE p.2)] (.agg (qC v))):FS 72 [.agg (prC p),bSz a b gr] (.agg (qC v)):=by
 refine f_n Tryz.func72 ?_ ?_;exact ac (az (fk p)) (ac (dM a b gr) af);refine r_z 2 ?_;refine r_c 5 (h) ?_;refine a_z ?_;exact ai (c_e (aS _))
abbrev q1I:Rat:=((1:Int):Rat)
def clL(p:Lq×Lq)(l a b:Rat):Lq:=yU (syM [p] l [q1I] a b).1 1 (syM [p] l [q1I] a b).2
def clC(p:Lq×Lq)(l a b:Rat):Rat:=coP (clL p l a b) 0
def wa(p:Lq×Lq)(l a b vA vB:Rat):Rat:=0+vA* fq (clC p l a b) * vB
def clW(l a b:Rat):Rat:=fq l* (b- a)
def clB(p:Lq×Lq)(l a b vA vB:Rat):Rat:=q1I+clW l a b* wa p l a b vA vB
def v8(p:Lq×Lq)(l a b vA vB ep:Rat):Rat:=clW l a b* ep* clB p l a b vA vB
def Ef(p:Lq×Lq)(l a b vA vB ep:Rat):Rat:=q1I- v8 p l a b vA vB ep
def B4(p:Lq×Lq)(l a b vA vB ep de vU:Rat):Rat:=clB p l a b vA vB* (de+clW l a b* ep* vU) / Ef p l a b vA vB ep
def mxQ:Nat:=549755813888
structure OkCl (p:Lq×Lq)(l:Rat)(g:Lq)(a b ep de vA vB vU:Rat):Prop where
 e0:0<=ep
 d0:0<=de
 q1:qs vA+qs (fq (clC p l a b))<=mxQ
 q2:qs (vA* fq (clC p l a b))+qs vB<=mxQ
 q3:qs 0+qs (vA* fq (clC p l a b) * vB)<=mxQ
 q4:qs (fq l)+qs (b- a)<=mxQ
 q5:qs (clW l a b)+qs (wa p l a b vA vB)<=mxQ
 q6:qs q1I+qs (clW l a b* wa p l a b vA vB)<=mxQ
 q7:qs (clW l a b)+qs ep<=mxQ
 q8:qs (clW l a b* ep)+qs (clB p l a b vA vB)<=mxQ
 q9:qs q1I+qs (v8 p l a b vA vB ep)<=mxQ
 r0:0< Ef p l a b vA vB ep
 qa:qs (clW l a b* ep)+qs vU<=mxQ
 qb:qs de+qs (clW l a b* ep* vU)<=mxQ
 qc:qs (clB p l a b vA vB)+qs (de+clW l a b* ep* vU)<=mxQ
 qd:qs (clB p l a b vA vB* (de+clW l a b* ep* vU))+qs (Ef p l a b vA vB ep)<=mxQ
def neC(U:Lq)(bo sh ra:Rat):La:= .arr (pE U)::(qC bo++(qC sh++qC ra))
theorem iY(U:Lq)(bo sh ra:Rat):∀c∈neC U bo sh ra,Closed c:=ac (aB U) (cY (bC bo) (cY (bC sh) (bC ra)))
def nC1(U:Lq)(bo:Rat):La:= .arr (pE U)::(qC bo++(zC++zC))
theorem Ee(U:Lq)(bo:Rat):∀e∈[nC1 U bo],∀c∈e,Closed c:=fun e a=>by
 rw[List.mem_singleton.1 a];exact ac (aB U) (cY (bC bo) (cY oX oX))
def nC2(U:Lq)(bo sh:Rat):La:= .arr (pE U)::(qC bo++(qC sh++zC))
theorem Ed(U:Lq)(bo sh:Rat):∀e∈[nC2 U bo sh],∀c∈e,Closed c:=fun e a=>by
 rw[List.mem_singleton.1 a];exact ac (aB U) (cY (bC bo) (cY (bC sh) oX))
def zNe:La:=[.emp,.emp,bln false,.emp,.emp,bln false,.emp,.emp,bln false,.emp]
def clV(x y:Rat):Nat->Rat
 |0=>x
 |_+1=>y
def clO(p:Lq×Lq)(l:Rat)(g:Lq)(a b ep de vA vB:Rat)(gr:Int)(A:Mx)(L:Ln):Nat->AState
 |j=>⟨[(6,bSp a b),(7,bQ ep),(8,bQ de),(10,.lptr 1 0 0),(12,bTk [p] l g a b),(13,bSy 1 A L),(14,bSz a b gr),(15,.arr (pE [vA])),(16,.arr (pE [vB])),(17,.lptr 2 0 0),(67,i64 1),(68,i64 j)],[(1,some ⟨98,10,[zNe]⟩),(2,some ⟨36,3,[qC (clV 0 (wa p l a b vA vB) j)]⟩)],3,172⟩
def clI(p:Lq×Lq)(l:Rat)(g:Lq)(a b ep de vA vB:Rat)(gr:Int)(A:Mx)(L:Ln):Nat->AState
 |i=>⟨[(6,bSp a b),(7,bQ ep),(8,bQ de),(10,.lptr 1 0 0),(12,bTk [p] l g a b),(13,bSy 1 A L),(14,bSz a b gr),(15,.arr (pE [vA])),(16,.arr (pE [vB])),(17,.lptr 2 0 0),(67,i64 1),(68,i64 0),(18,i64 0),(90,.arr (pE (clL p l a b))),(91,i64 1),(92,i64 i)],[(1,some ⟨98,10,[zNe]⟩),(2,some ⟨36,3,[qC (clV 0 (wa p l a b vA vB) i)]⟩)],3,172⟩
theorem GX (p:Lq×Lq) (l:Rat) (g:Lq) (a b ep de vA vB vU:Rat) (gr:Int) (s:Nat) (h:OkTa [p] l g a b s) (h2:OkSu [p] l g a b) (hs1:1<=s) (hL:(syM [p] l (rhK [p] g a b) a b).2.length=1) (ok:OkCl p l g a b ep de vA vB vU)
    (hzA:FS 69 [.agg (spC a b++[i64 gr]),.arr (pE p.1)] (.agg (qC vA))) (hzB:FS 69 [.agg (spC a b++[i64 gr]),.arr (pE p.2)] (.agg (qC vB))) (hzU:FS 69 [.agg (spC a b++[i64 gr]),.arr (pE (syU [p] l g a b))] (.agg (qC vU))):
    FS 27 [.agg (eqC [p] l g),.agg (spC a b),.agg (qC ep),.agg (qC de),i64 gr] (.tup [.agg (neC (syU [p] l g a b) (clB p l a b vA vB) (v8 p l a b vA vB ep) (B4 p l a b vA vB ep de vU)),i64 0]):=by
 have J:=fW [p] l g a b h.ke h.ha h.hb h.ab h.dg h.gl;have hs:=lE [p] l g a b s h.sy h.rh;have H:¬sgZ ep.num< 0:=fun e=>by have:=sgZ_num_lt.1 e;have:=ok.e0;grind
 have R:¬sgZ de.num< 0:=fun e=>by have:=sgZ_num_lt.1 e;have:=ok.d0;grind
 have k:=vu [p] 71 [bSz a b gr] (fun _=>vA) (ac (dM a b gr) af) (by simp) fun q o=>by
  rw[List.mem_singleton.1 o];exact fs_Clo1 p a b gr vA hzA
 have y:=vu [p] 72 [bSz a b gr] (fun _=>vB) (ac (dM a b gr) af) (by simp) fun q o=>by
  rw[List.mem_singleton.1 o];exact fs_Clo2 p a b gr vB hzB
 have i1:=dU 1 (by decide);obtain⟨A,r⟩:∃A,A=(syM [p] l (rhK [p] g a b) a b).1:=⟨_,rfl⟩;obtain⟨L,c⟩:∃L,L=(syM [p] l (rhK [p] g a b) a b).2:=⟨_,rfl⟩;have z:syV 1 (A,L)=syV [p].length (syM [p] l (rhK [p] g a b) a b):=by rw[r,c];rfl
 rw[<-z] at hs;rw[<-c] at hL;have F:(kE [p]).length=1:=rfl;have E:(lvE L).length=1:=by rw[j8,hL]
 refine f_n Tryz.func27 ?_ ?_;exact ac (az (dk [p] l g)) (ac (az (aZ a b)) (ac (aS ep) (ac (aS de) (ac (ag _) af))));refine r_z 6 ?_;refine AWp.ent (st':=⟨[(4,i64 gr),(5,.aptr [eqC [p] l g] 0 0),(6,bSp a b),(7,bQ ep),(8,bQ de),(10,.lptr 1 0 0)],[(1,some ⟨98,10,[zNe]⟩)],2,172⟩) ?_ ?_;refine s_x [(1,10)] (fun hs=>?_) (fun hs=>?_)
 ·repeat' (first|exact aP|refine ay rfl ?_ ?_|exact Cv.boxp hs rfl (aT rfl) rfl (dk [p] l g)|exact Cv.boxp hs rfl (aT rfl) rfl (aZ a b)|exact Cv.boxp hs rfl (aT rfl) rfl (bC _)|exact aX)
 ·repeat' (first|exact aE|refine h_c ?_ ?_|exact bZ|refine aD ?_|exact av|refine ah ?_ ?_|exact Cv.boxp hs rfl (aT rfl) rfl (dk [p] l g)|exact Cv.boxp hs rfl (aT rfl) rfl (aZ a b)|exact Cv.boxp hs rfl (aT rfl) rfl (bC _)|exact aX)
 refine r_z 5 ?_;refine AWp.ent (st':=⟨[(4,i64 gr),(6,bSp a b),(7,bQ ep),(8,bQ de),(10,.lptr 1 0 0),(12,bTk [p] l g a b)],[(1,some ⟨98,10,[zNe]⟩)],2,172⟩) ?_ ?_;refine s_x [(1,10)] (fun hs=>?_) (fun hs=>?_)
 ·repeat' (first|exact aP|refine ay rfl ?_ ?_|exact an hs (b9 a b)|exact Cv.boxp hs rfl (aT rfl) rfl (ee [p] l g a b)|exact aX)
 ·repeat' (first|exact aE|refine h_c ?_ ?_|exact bZ|refine aD ?_|exact av|refine ah ?_ ?_|exact an hs (b9 a b)|exact Cv.boxp hs rfl (aT rfl) rfl (ee [p] l g a b)|exact aX)
 refine ae (r_c 12 (J) ?_);refine c_s (cC ep) ?_;refine e_s (cC de) ?_;refine d_z ?_;refine cF (am (r_c 4 (hs) ?_));refine a_z ?_;refine AWp.ent (st':=⟨[(4,i64 gr),(6,bSp a b),(7,bQ ep),(8,bQ de),(10,.lptr 1 0 0),(12,bTk [p] l g a b),(13,bSy 1 A L)],[(1,some ⟨98,10,[zNe]⟩)],2,172⟩) ?_ ?_;refine s_x [(1,10)] (fun hs=>?_) (fun hs=>?_)
 ·repeat' (first|exact aP|refine ay rfl ?_ ?_|exact an hs (b9 a b)|exact an hs (cV [p] l g a b)|exact Cv.boxp hs rfl (aT rfl) rfl (ef 1 A L)|exact aX)
 ·repeat' (first|exact aE|refine h_c ?_ ?_|exact bZ|refine aD ?_|exact av|refine ah ?_ ?_|exact an hs (b9 a b)|exact an hs (cV [p] l g a b)|exact Cv.boxp hs rfl (aT rfl) rfl (ef 1 A L)|exact aX)
 refine ae (q_z 6 ?_);refine cF (am (r_z 6 ?_));refine AWp.ent (st':=⟨[(6,bSp a b),(7,bQ ep),(8,bQ de),(10,.lptr 1 0 0),(12,bTk [p] l g a b),(13,bSy 1 A L),(14,bSz a b gr)],[(1,some ⟨98,10,[zNe]⟩)],2,172⟩) ?_ ?_;refine s_x [(1,10)] (fun hs=>?_) (fun hs=>?_)
 ·repeat' (first|exact aP|refine ay rfl ?_ ?_|exact an hs (b9 a b)|exact an hs (cV [p] l g a b)|exact an hs (bD 1 A L)|exact Cv.boxp hs rfl (aT rfl) rfl (ac (pG a b gr) af)|exact aX)
 ·repeat' (first|exact aE|refine h_c ?_ ?_|exact bZ|refine aD ?_|exact av|refine ah ?_ ?_|exact an hs (b9 a b)|exact an hs (cV [p] l g a b)|exact an hs (bD 1 A L)|exact Cv.boxp hs rfl (aT rfl) rfl (ac (pG a b gr) af)|exact aX)
 refine r_c 6 (k) ?_;refine a_z ?_;refine r_c 6 (y) ?_;refine a_z ?_;refine r_z 1 ?_;refine ae (r_z 5 ?_);refine aF (fun _:Unit=>clO p l g a b ep de vA vB gr A L 1) (fun _=>True) ?_ ?_;refine aj (aC (clO p l g a b ep de vA vB gr A L) (fun j=>1- j) (fun j=>j<=1) 0 (Nat.zero_le _) ?_ ?_);rw[clO.eq_1];refine s_x [(1,10),(2,17)] (fun hs=>e_6) (fun hs=>?_)
 ·repeat' (first|exact aE|refine h_c ?_ ?_|exact CvLL.zeros hs 1|exact bZ|refine aD ?_|exact av|refine ah ?_ ?_|exact an hs (b9 a b)|exact an hs (cV [p] l g a b)|exact an hs (bD 1 A L)|exact an hs (dM a b gr)|exact an hs (cN _)|exact an hs (aB _)|exact aX)
 intro j U;by_cases h1:j< 1;obtain rfl:j=0:=by omega
 rw[clO.eq_1]
 have x:=uq [p] l a b s [q1I] h.sy rfl fun i C=>by
  obtain rfl:i=0:=by simpa using C
  exact Nat.le_trans (by decide:qs (coP [q1I] 0)<=1) hs1
 have f:=tU (syM [p] l [q1I] a b).1 1 (syM [p] l [q1I] a b).2 (dh _ _ _) (by decide);have w:Closed (syV [p].length (syM [p] l [q1I] a b)):=fN _ _ _;have B:(pE (clL p l a b)).length=1:=by simp[pE,clL]
 refine s_r 1 ?_;refine o_0 (.bin rfl rfl (vT ej (rfl))) ?_;refine aq ?_;refine ae (cT (am (ae (aj (r_z 2 ?_)))));refine r_z 6 ?_;refine r_c 5 (i1) ?_;refine a_z ?_;refine AWp.ent (st':=⟨[(6,bSp a b),(7,bQ ep),(8,bQ de),(10,.lptr 1 0 0),(12,bTk [p] l g a b),(13,bSy 1 A L),(14,bSz a b gr),(15,.arr (pE [vA])),(16,.arr (pE [vB])),(17,.lptr 2 0 0),(67,i64 1),(68,i64 0),(18,i64 0),(19,.arr (pE [q1I]))],[(1,some ⟨98,10,[zNe]⟩),(2,some ⟨36,3,[qC (clV 0 (wa p l a b vA vB) 0)]⟩)],3,172⟩) ?_ ?_;refine s_x [(1,10),(2,17)] (fun hs=>?_) (fun hs=>?_)
 ·repeat' (first|exact aP|refine ay rfl ?_ ?_|exact an hs (b9 a b)|exact an hs (cV [p] l g a b)|exact an hs (bD 1 A L)|exact an hs (dM a b gr)|exact an hs (cN _)|exact an hs (aB _)|(refine Cv.shut hs rfl (aT rfl) (nle rfl) ?_;exact aI hs rfl (aJ [q1I]))|exact aX)
 ·repeat' (first|exact aE|refine h_c ?_ ?_|exact bZ|refine aD ?_|exact av|refine ah ?_ ?_|exact an hs (b9 a b)|exact an hs (cV [p] l g a b)|exact an hs (bD 1 A L)|exact an hs (dM a b gr)|exact an hs (cN _)|exact an hs (aB _)|(refine Cv.shut hs rfl (aT rfl) (nle rfl) ?_;exact aI hs rfl (aJ [q1I]))|exact aX)
 refine ae (AWp.regAB 4 9 84 a7 (rA [p] a b h.sy.m) (x) (w) rfl rfl rfl rfl rfl rfl rfl rfl rfl rfl (by kernel_rfl) rfl rfl rfl ?_)
 first|refine AY.op0 (.fieldAddr_l rfl TF.h (by decide)) rfl rfl ?_|refine AY.op0 (.fieldAddr_a rfl TF.h (by decide)) rfl rfl ?_
 first|refine AY.op0 (.fieldAddr_l rfl TF.h (by decide)) rfl rfl ?_|refine AY.op0 (.fieldAddr_a rfl TF.h (by decide)) rfl rfl ?_
 first|refine AY.op0 (.load_l1 rfl rfl rfl TG.h rfl) rfl rfl ?_|refine AY.op0 (.load_a1 rfl rfl TG.h rfl) rfl rfl ?_
 first|refine AY.op0 (.load_l rfl rfl rfl TG.h TS.h (nle rfl)) rfl rfl ?_|refine AY.op0 (.load_a rfl rfl TG.h TS.h (nle rfl)) rfl rfl ?_
 refine AY.sp rfl rfl (kAB.a rfl rfl rfl (ac (aL [p]) (ac (az (aZ a b)) af)) rfl) ?_
 first|refine AY.op0 (.fieldAddr_l rfl TF.h (by decide)) rfl rfl ?_|refine AY.op0 (.fieldAddr_a rfl TF.h (by decide)) rfl rfl ?_
 first|refine AY.op0 (.fieldAddr_l rfl TF.h (by decide)) rfl rfl ?_|refine AY.op0 (.fieldAddr_a rfl TF.h (by decide)) rfl rfl ?_
 first|refine AY.op0 (.load_l rfl rfl rfl TG.h TS.h (nle rfl)) rfl rfl ?_|refine AY.op0 (.load_a rfl rfl TG.h TS.h (nle rfl)) rfl rfl ?_
 refine AY.op0 (.move rfl) rfl rfl ?_;refine AY.sp rfl rfl (kAB.b rfl rfl (ArgsB.own (ArgsB.clo rfl (az (bC l)) (ArgsB.clo rfl (aB _) ArgsB.nil))) rfl) ?_;refine AY.op0 (.call rfl rfl rfl (f)) rfl rfl ?_
 first|refine AY.op0 (.lenD rfl rfl rfl rfl te_37.h) rfl rfl ?_|refine AY.op0 (.lenI rfl rfl rfl rfl te_37.h) rfl rfl ?_|refine AY.op0 (.lenP rfl rfl rfl rfl te_37.h) rfl rfl ?_|refine AY.op0 (.lenC rfl rfl rfl rfl te_37.h) rfl rfl ?_|refine AY.op0 (.lenR rfl rfl rfl rfl te_37.h) rfl rfl ?_|refine AY.op0 (.len rfl rfl rfl rfl rfl te_37.h) rfl rfl ?_
 refine AY.op0 (.move rfl) rfl rfl ?_;refine AY.nil ⟨by kernel_rfl,?_⟩;refine AWp.cutB (fun _:Unit=>clI p l g a b ep de vA vB gr A L 1) (fun _=>True) ?_ ?_;refine aj (aC (clI p l g a b ep de vA vB gr A L) (fun i=>1- i) (fun i=>i<=1) 0 (Nat.zero_le _) ?_ ?_);rw[clI.eq_1];exact s_x [] (fun hs=>e_6) (fun hs=>JC);intro i C;by_cases h1:i< 1;obtain rfl:i=0:=by omega
 rw[clI.eq_1]
 have d:(pE (clL p l a b))[((0:Nat):Int).toNat]?=some (qC (clC p l a b)):=by
  have:(clL p l a b).length=1:=by simp[clL]
  have:=ci (p:=clL p l a b) (i:=0) (by omega);simp[pE,clC,this]
 have m1:=c6 vA (fq (clC p l a b)) ok.q1;have m2:=c6 (vA* fq (clC p l a b)) vB ok.q2;have u:=fy 0 (vA* fq (clC p l a b) * vB) ok.q3;refine s_r 1 ?_;refine o_0 (.bin rfl rfl (vT ej (rfl))) ?_;refine aq ?_;refine ae (cT (am (ae (aj (s_r 6 ?_)))));refine a_1 ?_;refine i_x d ?_;refine l_x d ?_;refine a_z ?_;refine r_d a7 15 ?_;refine c_s (sf (clC p l a b)) ?_;refine c_s (m1) ?_;refine c_s (m2) ?_;refine c_s (u) ?_;refine a_1 ?_;refine aq (n_k ?_);refine r_m 2 ?_;refine a_z ?_;refine⟨1,by omega,by omega,?_⟩;rw[clI.eq_1];exact s_x [] (fun hs=>e_6) (fun hs=>JC);obtain rfl:i=1:=by omega
 rw[clI.eq_1];refine s_r 1 ?_;refine o_0 (.bin rfl rfl (vF ej (rfl))) ?_;refine aq ?_;refine ae (cF (ax ⟨(),trivial,?_⟩));exact s_x [] (fun hs=>e_6) (fun hs=>JC);rintro _ _;rw[clI.eq_1];refine r_m 2 ?_;refine a_z ?_;refine⟨1,by omega,by omega,?_⟩;rw[clO.eq_1];exact s_x [] (fun hs=>e_6) (fun hs=>JC);obtain rfl:j=1:=by omega
 rw[clO.eq_1];refine s_r 1 ?_;refine o_0 (.bin rfl rfl (vF ej (rfl))) ?_;refine aq ?_;refine ae (cF (ax ⟨(),trivial,?_⟩));exact s_x [] (fun hs=>e_6) (fun hs=>JC);rintro _ _;rw[clO.eq_1];have D:=xG a b h.ha h.hb;have T:=c6 (fq l) (b- a) ok.q4;have f:=tU A 1 L (by rw[r,c];exact dh _ _ _) (by decide);have t:=tV [p] (ns [p] l g a b) (by unfold ns;simp) (by simp) h2.ms;have v:=fK _ l h2.u1 h2.sl h2.u2;have n:=nZ g _ h2.sg h2.v1 h.gl h2.v2;have M:yU A 1 L=ns [p] l g a b:=by rw[r,c];rfl
 rw[M] at f;have m1:=c6 (clW l a b) (wa p l a b vA vB) ok.q5;have u:=fy q1I (clW l a b* wa p l a b vA vB) ok.q6;have m2:=c6 (clW l a b) ep ok.q7;have G:=c6 (clW l a b* ep) (clB p l a b vA vB) ok.q8;have s1:=jC q1I (v8 p l a b vA vB ep) ok.q9;have S:=c6 (clW l a b* ep) vU ok.qa;have Q:=fy de (clW l a b* ep* vU) ok.qb;have N:=c6 (clB p l a b vA vB) (de+clW l a b* ep* vU) ok.qc;have O:=lF (clB p l a b vA vB* (de+clW l a b* ep* vU)) (Ef p l a b vA vB ep) (by have:=ok.r0;grind) ok.qd;have K:¬sgZ (Ef p l a b vA vB ep).num<=0:=by have:=sgZ_num_gt.2 ok.r0;omega
 refine ae (r_d a7 9 ?_);refine c_s (sf l) ?_;refine c_s (D) ?_;refine c_s (T) ?_;refine a_2 ?_;refine aq (n_k ?_);refine AWp.ent (st':=⟨[(7,bQ ep),(8,bQ de),(10,.lptr 1 0 0),(12,bTk [p] l g a b),(13,bSy 1 A L),(14,bSz a b gr),(17,bQ (wa p l a b vA vB)),(22,bQ (clW l a b))],[(1,some ⟨98,10,[zNe]⟩)],2,172⟩) ?_ ?_;refine s_x [(1,10)] (fun hs=>e_19) (fun hs=>?_)
 ·repeat' (first|exact aE|refine h_c ?_ ?_|exact bZ|refine aD ?_|exact av|refine ah ?_ ?_|exact an hs (b9 a b)|exact an hs (cV [p] l g a b)|exact an hs (bD 1 A L)|exact an hs (dM a b gr)|exact an hs (cN _)|exact an hs (aB _)|exact Cv.boxp hs rfl (aT rfl) rfl (bC _)|exact aX)
 refine ae (r_d a7 22 ?_);refine c_s (f) ?_;refine c_s (t) ?_;refine c_s (v) ?_;refine c_s (n) ?_;refine c_s (i1) ?_;refine c_s (m1) ?_;refine c_s (u) ?_;refine a_3 ?_;refine aq (n_k ?_);refine AWp.ent (st':=⟨[(7,bQ ep),(8,bQ de),(10,.lptr 1 0 0),(14,bSz a b gr),(22,bQ (clW l a b)),(23,.lptr 2 0 0)],[(1,some ⟨98,10,[zNe]⟩),(2,some ⟨98,10,[nC1 (syU [p] l g a b) (clB p l a b vA vB)]⟩)],3,172⟩) ?_ ?_;refine s_x [(1,10),(2,23)] (fun hs=>e_19) (fun hs=>?_)
 ·repeat' (first|exact aE|refine h_c ?_ ?_|exact aI hs rfl (Ee _ _)|exact bZ|refine aD ?_|exact av|refine ah ?_ ?_|exact an hs (b9 a b)|exact an hs (cV [p] l g a b)|exact an hs (bD 1 A L)|exact an hs (dM a b gr)|exact an hs (cN _)|exact an hs (aB _)|exact Cv.boxp hs rfl (aT rfl) rfl (bC _)|exact aX)
 refine ae (r_d a7 8 ?_);refine c_s (m2) ?_;refine c_s (G) ?_;refine a_2 ?_;refine aq (n_k ?_);refine AWp.ent (st':=⟨[(7,bQ ep),(8,bQ de),(10,.lptr 1 0 0),(14,bSz a b gr),(22,bQ (clW l a b)),(23,.lptr 2 0 0)],[(1,some ⟨98,10,[zNe]⟩),(2,some ⟨98,10,[nC2 (syU [p] l g a b) (clB p l a b vA vB) (v8 p l a b vA vB ep)]⟩)],3,172⟩) ?_ ?_;exact s_x [(1,10),(2,23)] (fun hs=>e_19) (fun hs=>e_59);refine ae (r_d a7 6 ?_);refine c_s (i1) ?_;refine c_s (s1) ?_;refine a_2 ?_;refine aq (n_k ?_);refine AWp.ent (st':=⟨[(7,bQ ep),(8,bQ de),(10,.lptr 1 0 0),(14,bSz a b gr),(22,bQ (clW l a b)),(23,.lptr 2 0 0),(24,bQ (Ef p l a b vA vB ep))],[(1,some ⟨98,10,[zNe]⟩),(2,some ⟨98,10,[nC2 (syU [p] l g a b) (clB p l a b vA vB) (v8 p l a b vA vB ep)]⟩)],3,172⟩) ?_ ?_;exact s_x [(1,10),(2,23)] (fun hs=>e_19) (fun hs=>e_59);refine ae (r_c 3 (cC (Ef p l a b vA vB ep)) ?_);refine d_z ?_;refine cF (am (ae (r_d a7 17 ?_)));refine c_s (m2) ?_;refine c_s (hzU) ?_;refine c_s (S) ?_;refine c_s (Q) ?_;refine c_s (N) ?_;refine c_s (O) ?_;refine a_2 ?_;refine aq (n_k ?_);refine AWp.ent (st':=⟨[(10,.lptr 1 0 0),(23,.lptr 2 0 0)],[(1,some ⟨98,10,[zNe]⟩),(2,some ⟨98,10,[neC (syU [p] l g a b) (clB p l a b vA vB) (v8 p l a b vA vB ep) (B4 p l a b vA vB ep de vU)]⟩)],3,172⟩) ?_ ?_;exact s_f [(1,10),(2,23)];refine r_z 3 ?_;refine ai (Fin.many ⟨_,_,rfl,⟨_,_,_,_,_,rfl,rfl,rfl,.inl ⟨TG.h,_,TS.h,nle rfl,rfl⟩⟩,⟨_,_,rfl,rfl,rfl⟩⟩ (nle rfl) ?_);exact ah (an aA (az (iY _ _ _ _))) (ah (an aA (ag _)) av)
end Go.Proofs.YtkbjakfniejkcaaGreatDoor
