/- Part Y22 of the proof. -/
import Derived.Test.YtjgokhkahkmpbaaGreatDoorY21
set_option linter.all false
namespace Go.Proofs.YtjgokhkahkmpbaaGreatDoor
open Go.Abs
set_option maxRecDepth 20000
set_option maxHeartbeats 2000000
def Fu(c:Cnt)(q:Lq)(step:Rat)(s:Sp):Option Bool:=if xm q s/\smS (ie q s)/\sm ((ie q s).2- (ie q s).1)/\sm step/\mr c s then some (decide (dr ((ie q s).2- (ie q s).1) step< 0)) else none
def valR(f g:Nat)(c:Cnt)(i:Int)(q:Lq)(k:Int)(v:Sp):Option Sp:=
 if sm (gQ v.2 (wi k 256))/\smS v/\sm (cw (wi k 256))/\smL q/\q.length<=274877906944 then
  if dr (gQ v.2 (wi k 256)) v.1< 0 then some (gQ v.2 (wi k 256),gQ v.2 (wi k 256)+cw (wi k 256))
  else(rJ f g c i (gz q (fY (gQ v.2 (wi k 256))))).bind λsg=>
   some (if sg=0 then(gQ v.2 (wi k 256),gQ v.2 (wi k 256)) else if sg=1 then(gQ v.2 (wi k 256),gQ v.2 (wi k 256)+cw (wi k 256)) else(gQ v.2 (wi k 256)- cw (wi k 256),gQ v.2 (wi k 256)))
 else none
def td(f g:Nat)(c:Cnt)(i:Int)(q:Lq)(k:Int):Option Sp:=
 (tn f c i 0).bind λs0=>(om (λj=>Fu c q (cw (wi k 256)) (c9 c i s0 j)) g 0).bind λj=>valR f g c i q k (ie q (c9 c i s0 j))
abbrev bI(k:Int):AV:= .aptr [[i64 k]] 0 0
theorem js(k:Int):Closed (bI k):=aW (ae (ag _) ai)
def vaS(c:Cnt)(i:Int)(q:Lq)(k:Int)(step:Rat):Nat->AState
 |j=>⟨[(3,bPl c i),(4,bP q),(5,bI k),(6,.lptr 1 0 0),(7,bQ step),(14,.clos 273 [] [bPl c i])],[(1,some ⟨44,6,[zC++zC]⟩)],2,61⟩
def vaX(r:Sp):Unit->AState
 |u=>⟨[(6,.lptr 1 0 0)],[(1,some ⟨44,6,[spC r.1 r.2]⟩)],2,61⟩
theorem Hb(f g:Nat)(c:Cnt)(i:Int)(q:Lq)(k:Int)(r:Sp)(h:td f g c i q k=some r)(hf:f<=1000000):FS 235 [plA c i,.arr (pE q),i64 k] (.agg (spC r.1 r.2)):=by
 unfold td at h;obtain⟨s0,hs0,h2⟩:=Option.bind_eq_some_iff.1 h;obtain⟨kk,hkk,hR⟩:=Option.bind_eq_some_iff.1 h2;obtain⟨t1,_,t2⟩:=jX hkk;obtain⟨step,hst⟩:∃step,step=cw (wi k 256):=⟨_,rfl⟩;rw[<-hst] at t1 t2
 have hok:∀j,j<=kk->xm q (c9 c i s0 j)/\smS (ie q (c9 c i s0 j))/\sm ((ie q (c9 c i s0 j)).2- (ie q (c9 c i s0 j)).1)/\sm step/\mr c (c9 c i s0 j):=λj hj=>by
  have:∃b,Fu c q step (c9 c i s0 j)=some b:=by
   by_cases e:j=kk;rw[e];exact⟨_,t1⟩;exact⟨_,t2 j (Nat.zero_le _) ω⟩
  obtain⟨b,hb⟩:=this;unfold Fu at hb;split at hb;assumption;cases hb
 have hgs:=qT f c i s0 kk hs0 (λj hj=>(hok j ω).2.2.2.2);have hfi:=jk k;rw[<-hst] at hfi;refine f_n Tryz.func235 ?_ ?_;exact ae (dh c i) (ae (aq q) (ae (ag _) ai));refine r_z 4 ?_;refine r_c 4 (hfi) ?_;refine a_z ?_;refine AWp.ent (st':=⟨[(3,bPl c i),(4,bP q),(5,bI k),(6,.lptr 1 0 0),(7,bQ step)],[(1,some ⟨44,6,[zC++zC]⟩)],2,61⟩) ?_ ?_;have:=(ae (dh c i) ai);exact s_f [(1,6)];refine ac (r_c 2 (qY c i) ?_);refine ao ?_;refine aG (vaX r) (λ_=>False) ?_ (λ_ h=>h.elim);refine ak (AWp.rangeFuncB (α:=Nat) (γ:=Unit) kk (vaS c i q k step) (λj=>j) (λj=>j<=kk) (vaX r) (λe _=>e= .ret) 0 rfl hgs rfl rfl ?_ (λ_=>⟨rfl,rfl⟩) (λ_=>rfl) (Nat.zero_le _) rfl (λ_ h=>h) ?_ ?_ ?_ ?_ ?_);intro j xs hT;cases hT;rfl;rw[vaS.eq_1];have:=js k;exact s_t [];exact ae (dI c i) ai;intro l j xs hj hT;cases hT;have hx:=hok j hj;obtain⟨s,hsd⟩:∃s,s=c9 c i s0 j:=⟨_,rfl⟩;rw[<-hsd] at hx⊢;obtain⟨x1,x2,x3,x4,x5⟩:=hx;obtain⟨v,hv⟩:∃v,v=ie q s:=⟨_,rfl⟩;have hov:=fs_Over q s x1;rw[<-hv] at hov x2 x3;show AWp _ _ _ _ ⟨[(15,.agg (spC s.1 s.2)),(3,bPl c i),(4,bP q),(5,bI k),(6,.lptr 1 0 0),(7,bQ step),(14,.clos 273 [] [bPl c i]),(1003,bPl c i),(1004,bP q),(1005,bI k),(1006,.lptr 1 0 0),(1007,bQ step),(1014,.clos 273 [] [bPl c i])],[(1,some ⟨44,6,[zC++zC]⟩)],2,61⟩;refine r_m 2 ?_;refine a_z ?_;refine ak (r_c 5 (hov) ?_);refine a_z ?_;refine ac (ac (r_d hmix 5 ?_));refine c_s (nA v.1 v.2 x2.1 x2.2) ?_;refine c_s (ej (v.2- v.1) step x3 x4) ?_;refine a_1 ?_;refine ao (n_k ?_)
 refine aw rfl (λh6=>?_) (λh6=>?_)
 have h7:¬dr (v.2- v.1) step< 0:=by
  have:0<=dr (v.2- v.1) step:=by simpa using h6
  omega
 have he:j< kk:=by
  refine Nat.lt_of_le_of_ne hj λe=>?_;subst e;rw[<-hsd] at t1;unfold Fu at t1;rw[<-hv] at t1;rw[if_pos ⟨x1,x2,x3,x4,x5⟩] at t1;simp[h7] at t1
 refine aB (⟨j+1,⟨he,rfl⟩,?_⟩);show SEntT _ ⟨[(1003,bPl c i),(1004,bP q),(1005,bI k),(1006,.lptr 1 0 0),(1007,bQ step),(1014,.clos 273 [] [bPl c i])],[(1,some ⟨44,6,[zC++zC]⟩)],2,61⟩;have:=js k;exact s_t []
 ·have h7:dr (v.2- v.1) step< 0:=by
   have:¬0<=dr (v.2- v.1) step:=by simpa using h6
   omega
  have he:j=kk:=by
   refine Nat.le_antisymm hj (Nat.le_of_not_lt λhlt=>?_);have h8:=t2 j (Nat.zero_le _) hlt;rw[<-hsd] at h8;unfold Fu at h8;rw[<-hv] at h8;rw[if_pos ⟨x1,x2,x3,x4,x5⟩] at h8;simp[h7] at h8
  subst he;rw[<-hsd,<-hv] at hR;unfold valR at hR;rw[<-hst] at hR;obtain⟨m,hm⟩:∃m,m=gQ v.2 (wi k 256):=⟨_,rfl⟩;rw[<-hm] at hR;split at hR
  case isFalse=>cases hR
  case isTrue hz=>
  obtain⟨z1,z2,z3,z4,z5⟩:=hz;have hdn:=DS v.2 k x2.2;rw[<-hm] at hdn;refine am (r_c 6 (hdn) ?_);refine a_z ?_;refine ac (r_c 5 (ej m v.1 z1 z2.1) ?_);refine a_z ?_;refine aw rfl (λh8=>?_) (λh8=>?_);have h9:dr m v.1< 0:=by simpa using h8
  rw[if_pos h9] at hR;cases hR;refine ac (r_d hmix 6 ?_);refine c_s (fz m step (sm2 z1 z3)) ?_;refine a_2 ?_;refine ao (n_k ?_);refine an (⟨rfl,(),rfl,?_⟩);show SEntT _ ⟨[(1006,.lptr 1 0 0)],[(1,some ⟨44,6,[spC (m,m+step).1 (m,m+step).2]⟩)],2,61⟩;have:=js k;exact s_t [];have h9:¬dr m v.1< 0:=by simpa using h8
  rw[if_neg h9] at hR;obtain⟨sg,hsg,hR2⟩:=Option.bind_eq_some_iff.1 hR;cases hR2;have hcl:=uT m;have hsmc:smL (fY m):=tu λx hx=>by rw[List.mem_singleton.1 hx];exact z1
  refine am (ac (ac (r_d hmix 6 ?_)));refine c_s (jV m) ?_;refine c_s (oi q (fY m) z4 hsmc ω ω) ?_;refine c_s (DN f g c i (gz q (fY m)) sg hsg hf) ?_;refine ao (n_k ?_);refine ak (r_z 2 ?_);refine aw rfl (λh10=>?_) (λh10=>?_);have h11:sg=0:=by simpa using h10
  refine r_c 3 (Aj m) ?_;refine a_z ?_;refine an (⟨rfl,(),rfl,?_⟩);rw[if_pos h11];show SEntT _ ⟨[(1006,.lptr 1 0 0)],[(1,some ⟨44,6,[spC (m,m).1 (m,m).2]⟩)],2,61⟩;have:=js k;exact s_t [];have h11:¬sg=0:=by simpa using h10
  refine r_z 2 ?_;refine aw rfl (λh12=>?_) (λh12=>?_);have h13:sg=1:=by simpa using h12
  refine ac (r_d hmix 6 ?_);refine c_s (fz m step (sm2 z1 z3)) ?_;refine a_2 ?_;refine ao (n_k ?_);refine an (⟨rfl,(),rfl,?_⟩);rw[if_neg h11,if_pos h13];show SEntT _ ⟨[(1006,.lptr 1 0 0)],[(1,some ⟨44,6,[spC (m,m+step).1 (m,m+step).2]⟩)],2,61⟩;have:=js k;exact s_t [];have h13:¬sg=1:=by simpa using h12
  refine am (ac (r_d hmix 6 ?_));refine c_s (gO m step (sm2 z1 z3)) ?_;refine a_3 ?_;refine ao (n_k ?_);refine an (⟨rfl,(),rfl,?_⟩);rw[if_neg h11,if_neg h13];show SEntT _ ⟨[(1006,.lptr 1 0 0)],[(1,some ⟨44,6,[spC (m- step,m).1 (m- step,m).2]⟩)],2,61⟩;have:=js k;exact s_t []
 intro j hj hT;cases hT;rintro e u rfl;exact Fin.cell rfl rfl rfl TG.h TS.h (nle rfl) (ah aE (bK _ _))


def zL(t:Rat->Bool):Lq->Int->Int
 |[],_=> -1
 |a::l,i=>if t a then i else zL t l (i+1)
theorem zK(t:Rat->Bool):∀(l:Lq) (i:Int),0<=i->(decide (0<=zL t l i))=l.any t
 |[],i,_=>by simp[zL]
 |a::l,i,hi=>by
  unfold zL;cases h:t a with
  |true=>simp[h,hi]
  |false=>simp[h];rw[<-zK t l (i+1) ω]
def ixS(l:Lq)(g:Nat)(cap:La):Nat->AState
 |i=>⟨[(0,.arr (pE l)),(1,.clos g [] cap),(7,i64 l.length),(8,i64 i)],[],1,19⟩
theorem xR(l:Lq)(g:Nat)(cap:La)(t:Rat->Bool)(hcap:∀c∈cap,Closed c)(hl:l.length<=1099511627776)(hg:∀q∈l,FS g ((.agg (qC q)::cap).map coe) (bln (t q))):FS 185 [.arr (pE l),.clos g [] cap] (i64 (zL t l 0)):=by
 have hcc:Closed (.clos g [] cap):=aY ai hcap;refine f_c Tryz.func185 ?_;obtain⟨R,hR⟩:∃R,R=zL t l 0:=⟨_,rfl⟩;rw[<-hR];refine r_z 1 ?_;refine ac (r_z 3 ?_);refine aG (λ_:Unit=>⟨[],[],1,19⟩) (λ_=>R= -1) ?_ ?_;refine ak (aC (ixS l g cap) (λi=>l.length- i) (λi=>i<=l.length/\zL t (l.drop i) i=R) 0 ⟨Nat.zero_le _,by rw[hR];rfl⟩ ?_ ?_);simp only[ixS.eq_1];exact s_f [];rintro i ⟨hi,hr⟩;rw[ixS.eq_1];refine r_z 1 ?_;refine ac (aw rfl (λh=>?_) (λh=>?_));refine am ?_;have hlt:i< l.length:=by simpa using h
 have hgt:(pE l)[((i:Nat):Int).toNat]?=some (qC (coP l i)):=cj (bJ hlt);rw[gP hlt,zL] at hr;refine ac (ak (r_z 2 ?_));refine s_r 6 ?_;refine a_3 ?_;refine i_x hgt ?_;refine l_x hgt ?_;refine c_s (hg (coP l i) (List.mem_of_getElem? (bJ hlt))) ?_;refine ao ?_;refine aw rfl (λh1=>?_) (λh1=>?_);have h2:t (coP l i)=true:=h1;rw[if_pos h2] at hr;refine r_z 2 ?_;refine an (aR rfl ?_ ?_);rw[<-hr];exact ag _;have h2:¬t (coP l i)=true:=by rw[show t (coP l i)=false from h1];decide
 rw[if_neg h2] at hr;refine am (r_m 2 ?_);refine a_z ?_;refine⟨i+1,ω,⟨hlt,hr⟩,?_⟩;simp only[ixS.eq_1];exact s_f []
 have hge:i=l.length:=by
  have:¬i< l.length:=by simpa using h
  omega
 subst hge;rw[List.drop_length] at hr;refine aB ⟨(),hr.symm,?_⟩;exact s_e [];rintro _ hr;refine r_z 1 ?_;refine an (aR rfl ?_ ?_);rw[hr];rfl;exact ag _
theorem lV(l:Lq)(g:Nat)(cap:La)(t:Rat->Bool)(hcap:∀c∈cap,Closed c)(hl:l.length<=1099511627776)(hg:∀q∈l,FS g ((.agg (qC q)::cap).map coe) (bln (t q)))(hcap2:cap.map coe=cap):FS 136 [.arr (pE l),.clos g [] cap] (bln (l.any t)):=by
 have hcc:Closed (.clos g [] cap):=aY ai hcap;have e:=zK t l 0 (Int.le_refl 0);refine f_c Tryz.func136 ?_;refine r_z 1 ?_;refine r_c 5 (xR l g cap t hcap hl hg) ?_;refine a_z ?_;refine an (aR rfl ?_ ?_);rw[<-e];rfl;exact ag _
theorem sk(a b:Rat)(ha:sm a)(hb:sm b):FS 186 [.agg (qC b),bQ a] (bln (decide (a=b))):=by
 have e:(dr a b==(0:Int))=decide (a=b):=by
  unfold dr;by_cases h:a=b;subst h;simp[Rat.lt_irrefl];by_cases h1:a< b;simp[h,h1];simp[h,h1]
 refine f_c Tryz.func186 ?_;refine r_z 2 ?_;refine r_c 5 (ej a b ha hb) ?_;refine a_z ?_;refine an (aR rfl ?_ ?_);rw[<-e];rfl;exact ag _
abbrev dC(d:Dt):La:=[.arr (pE d.X),.arr (pE d.Y),.arr (pE d.W)]
theorem cX(d:Dt):∀c∈dC d,Closed c:=ae (aq _) (ae (aq _) (ae (aq _) ai))
theorem eqI{a b:Int}(h:a=b):(a==b)=true:=by simp[h]
theorem neI{a b:Int}(h:a≠b):(a==b)=false:=by simpa using h
theorem sg_lt0{q:Rat}:sgZ q.num< (0:Int)↔q< 0:=lf
theorem fQ(a b:Rat)(hb:b≠0)(h:qs a+qs b<=549755813888):FS 40 [.agg (qC a),.agg (qC b)] (.agg (qC (a/ b))):=by
 refine f_c Tryz.func40 ?_;refine r_z 3 ?_;refine r_c 9 (B9 a b hb h) ?_;refine a_z ?_;refine r_z 2 ?_;exact an (c_e (aS _))
theorem EH(h:Rat):FS 143 [.agg (qC h)] (i64 (sgO h)):=by
 refine f_c Tryz.func143 ?_;refine r_z 2 ?_;by_cases g:h< 0;rw[show sgO h= -1 from if_pos g];refine ac (r_c 3 (cb h) ?_);refine o_0 (.bin rfl rfl (vT aZ (decide_eq_true (sg_lt0.2 g)))) ?_;refine ao ?_;refine cT (r_z 1 ?_);exact an (t_e (ag _));rw[show sgO h=1 from if_neg g];refine ac (r_c 3 (cb h) ?_);refine o_0 (.bin rfl rfl (vF aZ (decide_eq_false (mt sg_lt0.1 g)))) ?_;refine ao ?_;refine cF (am (r_z 1 ?_));exact an (t_e (ag _))
theorem wg(d:Dt)(i:Nat)(h:d.W.length=0\/i< d.W.length):FS 188 [.agg (dC d),i64 i] (.agg (qC (wtD d i))):=by
 refine f_n Tryz.func188 ?_ ?_;exact ae (aN (cX d)) (ae (ag _) ai);have hl:(pE d.W).length=d.W.length:=by simp[pE]
 refine r_z 2 ?_;by_cases g:d.W.length=0;rw[show wtD d i=((1:Int):Rat) from if_pos g];have h1:=df 1 δ;refine ac (s_r 4 ?_);refine a_3 ?_;refine o_0 (.bin rfl rfl (vT aM (eqI ω))) ?_;refine ao ?_;refine cT (r_c 2 (h1) ?_);refine a_z ?_;exact an (c_e (aS _));rw[show wtD d i=coP d.W i from if_neg g];have hi:i< d.W.length:=h.resolve_left g;have hgt:(pE d.W)[((i:Nat):Int).toNat]?=some (qC (coP d.W i)):=cj (bJ hi);refine ac (s_r 4 ?_);refine a_3 ?_;refine o_0 (.bin rfl rfl (vF aM (neI ω))) ?_;refine ao ?_;refine cF (am (s_r 6 ?_));refine a_3 ?_;refine i_x hgt ?_;refine l_x hgt ?_;refine a_z ?_;exact an (c_e (aS _))
theorem xI(d:Dt)(p:Lq)(i:Nat)(hy:d.Y.length=d.X.length)(hw:d.W.length=0\/d.W.length=d.X.length)(h:okMs d p i):FS 140 [.agg (dC d),.arr (pE p),i64 i] (.agg (qC (msD d p i))):=by
 obtain⟨h1,h2,h3,h4,h5,h6,h7⟩:=h;have hwt:=wg d i (hw.imp id λe=>ω);have hev:=e8 p (coP d.X i) h4;have hsu:=gO (coP d.Y i) (aO p (coP d.X i)) (h3.two h5);have hmu:=dq (wtD d i) (coP d.Y i- aO p (coP d.X i)) (h2.two h6);have hgx:(pE d.X)[((i:Nat):Int).toNat]?=some (qC (coP d.X i)):=cj (bJ h1);have hgy:(pE d.Y)[((i:Nat):Int).toNat]?=some (qC (coP d.Y i)):=cj (bJ ω);refine f_n Tryz.func140 ?_ ?_;exact ae (aN (cX d)) (ae (aq p) (ae (ag _) ai));refine r_z 2 ?_;refine ac (r_d hmix 18 ?_);refine c_s (hwt) ?_;refine a_3 ?_;refine i_x hgy ?_;refine l_x hgy ?_;refine a_4 ?_;refine i_x hgx ?_;refine l_x hgx ?_;refine c_s (hev) ?_;refine c_s (hsu) ?_;refine c_s (hmu) ?_;refine a_1 ?_;refine ao (n_k ?_);exact an (c_e (aS _))
theorem DH{f:Nat->Rat}{n:Nat}(hs:∀i,i< n->sm (f i)):∀i,i<=n->sm (pJ f i).2
 |0,_=>(by decide:sm 0)
 |i+1,hi=>by
  rw[pJ];split;exact hs i ω;exact DH hs i ω
theorem xC(f:Nat->Rat):∀n,0< n->(pJ f n).1< n
 |0,h=>by omega
 |n+1,_=>by
  rw[pJ];split;exact Nat.lt_succ_self n
  ·rename_i hh
   have:n≠0:=λe=>hh (.inl e);have:=xC f n ω;omega
def grS(l:Lq)(g:Nat)(cap:La):Nat×Nat×Rat->AState
 |(i,x)=>⟨[(1,.clos g [] cap),(5,i64 x.1),(6,.lptr 1 0 0),(11,i64 l.length),(12,i64 i)],[(1,some ⟨42,3,[qC x.2]⟩)],2,30⟩
theorem zY(l:Lq)(g:Nat)(cap:La)(f:Nat->Rat)(hcap:∀c∈cap,Closed c)(hl:l.length<=1099511627776)(hs:∀i,i< l.length->sm (f i))(hg:∀i:Nat,i< l.length->FS g ((i64 i::cap).map coe) (.agg (qC (f i)))):
    FS 189 [.arr (pE l),.clos g [] cap] (i64 ((pJ f l.length).1:Nat)):=by
 have hcc:Closed (.clos g [] cap):=aY ai hcap;have hll:(pE l).length=l.length:=by simp[pE]
 refine f_c Tryz.func189 ?_;refine r_z 1 ?_;refine r_z 4 ?_;refine ac (r_z 3 ?_);refine aG (λ_:Unit=>⟨[(5,i64 ((pJ f l.length).1:Nat))],[],2,30⟩) (λ_=>True) ?_ ?_;refine ak (aC (λi:Nat=>grS l g cap (i,pJ f i)) (λi=>l.length- i) (λi=>i<=l.length) 0 (Nat.zero_le _) ?_ ?_);simp only[grS.eq_1,pJ];rw[qC0];refine s_x [(1,6)] (λhs=>?_) (λhs=>?_)
 ·repeat' (first|exact aF|refine aj rfl ?_ ?_|exact ah hs hcc|exact aX)
 ·repeat' (first|exact aD|refine h_c ?_ ?_|exact ay (af (Cv.emp _) (af (ah hs (ag _)) (af (Cv.emp _) ax)))|exact bG|refine ay ?_|exact ax|refine af ?_ ?_|exact ah hs hcc|exact aX)
 intro i hi;simp only[grS.eq_1];by_cases hlt:i< l.length
 ·refine q_z 1 ?_
  refine ac (cT (am ?_));have hgi:=hg i hlt;refine ac (ak (r_z 2 ?_));refine r_c 5 (hgi) ?_;refine a_z ?_;obtain⟨x,hx⟩:∃x,x=pJ f i:=⟨_,rfl⟩;have hsx:sm x.2:=by rw[hx];exact DH hs i ω
  have hcm:=ej (f i) x.2 (hs i hlt) hsx;rw[<-hx];have next:∀y,y=(if i=0\/x.2< f i then(i,f i) else x)->y=pJ f (i+1):=λy hy=>by rw[hy,pJ,<-hx]
  by_cases h0:i=0
  ·have hn:=next (i,f i) (by rw[if_pos (.inl h0)])
   refine s_r 8 ?_;refine a_1 ?_;refine o_0 (.bin rfl rfl (vT aM (eqI ω))) ?_;refine d_z ?_;refine cT (r_d hmix 4 ?_);refine a_4 ?_;refine ao (n_k ?_);refine r_m 2 ?_;refine a_z ?_;refine⟨i+1,ω,ω,?_⟩;simp only[grS.eq_1];rw[<-hn];exact s_f []
  by_cases h1:x.2< f i
  ·have hn:=next (i,f i) (by rw[if_pos (.inr h1)])
   refine s_r 8 ?_;refine a_1 ?_;refine o_0 (.bin rfl rfl (vF aM (neI ω))) ?_;refine e_s (hcm) ?_;refine ap rfl rfl rfl (.bin rfl rfl (vT ct (decide_eq_true (cq_gt.2 h1)))) rfl rfl ?_;refine a_z ?_;refine cT (r_d hmix 4 ?_);refine a_4 ?_;refine ao (n_k ?_);refine r_m 2 ?_;refine a_z ?_;refine⟨i+1,ω,ω,?_⟩;simp only[grS.eq_1];rw[<-hn];exact s_f []
  ·have hn:=next x (by rw[if_neg (λe=>e.elim h0 h1)])
   refine s_r 8 ?_;refine a_1 ?_;refine o_0 (.bin rfl rfl (vF aM (neI ω))) ?_;refine e_s (hcm) ?_;refine ap rfl rfl rfl (.bin rfl rfl (vF ct (decide_eq_false (mt cq_gt.1 h1)))) rfl rfl ?_;refine a_z ?_;refine cF (am (r_m 2 ?_));refine a_z ?_;refine⟨i+1,ω,ω,?_⟩;simp only[grS.eq_1];rw[<-hn];exact s_f []
 have hge:i=l.length:=ω
 subst hge;refine q_z 1 ?_;refine ac (cF (aB ⟨(),trivial,?_⟩));exact s_e [];rintro _ _;refine r_z 2 ?_;exact an (t_e (ag _))
abbrev bD(d:Dt):AV:= .aptr [dC d] 0 0
theorem b6(d:Dt):Closed (bD d):=aW (cX d)
theorem EE(d:Dt)(p:Lq)(i:Nat)(hy:d.Y.length=d.X.length)(hw:d.W.length=0\/d.W.length=d.X.length)(h:okMs d p i):FS 190 [i64 i,bD d,bP p] (.agg (qC (c8 (msD d p i)))):=by
 have hm:=xI d p i hy hw h;have ha:=eY (msD d p i);refine f_n Tryz.func190 ?_ ?_;exact ae (ag _) (ae (b6 d) (ae (cD p) ai));refine r_z 1 ?_;refine r_c 6 (hm) ?_;refine c_s (ha) ?_;refine a_z ?_;exact an (c_e (aS _))
theorem qs_abs(q:Rat):qs (c8 q)=qs q:=by
 rw[sY];split;exact ij q;rfl
theorem zO(d:Dt)(p:Lq)(h:Gy d p):FS 139 [.agg (dC d),.arr (pE p)] (i64 (woD d p:Nat)):=by
 obtain⟨h0,hy,hw,hm⟩:=h;have hg:=zY d.X 190 [bD d,bP p] (λi=>c8 (msD d p i)) (ae (b6 d) (ae (cD p) ai)) ω (λi hi=>by have:=(hm i hi).2.2.2.2.2.2.sm;unfold sm at *;rw[qs_abs];exact this) (λi hi=>EE d p i hy hw (hm i hi));refine f_n Tryz.func139 ?_ ?_;exact ae (aN (cX d)) (ae (aq p) ai);refine r_z 3 ?_;refine AWp.ent (st':=⟨[(2,bD d),(3,bP p)],[],1,9⟩) ?_ ?_;refine s_x [] (λhs=>?_) (λhs=>?_)
 ·repeat' (first|exact aF|refine aj rfl ?_ ?_|exact Cv.boxp hs rfl (aP rfl) rfl (cX d)|exact Cv.boxp hs rfl (aP rfl) rfl (ae (aq _) ai)|exact aX)
 ·repeat' (first|exact aD|refine h_c ?_ ?_|exact bG|refine ay ?_|exact ax|refine af ?_ ?_|exact Cv.boxp hs rfl (aP rfl) rfl (cX d)|exact Cv.boxp hs rfl (aP rfl) rfl (ae (aq _) ai)|exact aX)
 refine r_c 5 (hg) ?_;refine a_z ?_;exact an (t_e (ag _))
def riS(l:Lq):Nat->AState
 |i=>⟨[(0,.arr (pE l)),(3,i64 i)],[],1,21⟩
theorem wh(l:Lq)(hs:smL l)(hl:l.length<=1099511627776):FS 102 [.arr (pE l)] (bln (xd l)):=by
 have hll:(pE l).length=l.length:=by simp[pE]
 refine f_c Tryz.func102 ?_;refine r_z 1 ?_;refine ac (r_z 1 ?_);refine aG (λ_:Unit=>⟨[],[],1,21⟩) (λ_=>xd l=true) ?_ ?_;refine ak (aC (riS l) (λi=>l.length- i) (λi=>1<=i/\(i<=l.length\/i=1)/\∀j,j+1< i->coP l j< coP l (j+1)) 1 ⟨Nat.le_refl _,.inr rfl,λj hj=>by omega⟩ ?_ ?_);simp only[riS.eq_1];exact s_e [];rintro i ⟨h1,h2,h3⟩;rw[riS.eq_1];by_cases hlt:i< l.length;obtain⟨k,rfl⟩:∃k,i=k+1:=⟨i- 1,ω⟩;refine ac (q_z 4 ?_);refine cT (am ?_);have hg1:∀e:Nat,e=k->(pE l)[e]?=some (qC (coP l k)):=λe he=>by rw[he];exact cj (bJ ω)
 have hg2:∀e:Nat,e=k+1->(pE l)[e]?=some (qC (coP l (k+1))):=λe he=>by rw[he];exact cj (bJ hlt)
 have hcm:=ej (coP l k) (coP l (k+1)) (iX hs k) (iX hs (k+1));refine ac (ak ?_);by_cases hc:coP l k< coP l (k+1);refine ac (r_d hmix 11 ?_);refine a_3 ?_
 first|refine av (.index_l rfl rfl ω ω te_29.h) rfl rfl ?_|refine av (.index_a rfl rfl ω (hg1 _ ω) rfl te_29.h) rfl rfl ?_
 first|refine av (.load_l rfl rfl (hg1 _ ω) TG.h TS.h (nle rfl)) rfl rfl ?_|refine av (.load_a rfl (hg1 _ ω) TG.h TS.h (nle rfl)) rfl rfl ?_
 refine a_2 ?_
 first|refine av (.index_l rfl rfl ω ω te_29.h) rfl rfl ?_|refine av (.index_a rfl rfl ω (hg2 _ ω) rfl te_29.h) rfl rfl ?_
 first|refine av (.load_l rfl rfl (hg2 _ ω) TG.h TS.h (nle rfl)) rfl rfl ?_|refine av (.load_a rfl (hg2 _ ω) TG.h TS.h (nle rfl)) rfl rfl ?_
 refine c_s (hcm) ?_;refine o_0 (.bin rfl rfl (vF dc (decide_eq_false (λe=>by have:=cq_lt.2 hc;omega)))) ?_;refine ao (n_k ?_);refine cF (am (r_m 3 ?_));refine a_z ?_;refine⟨k+1+1,ω,⟨ω,.inl hlt,λj hj=>?_⟩,?_⟩;by_cases e:j=k;subst e;exact hc;exact h3 j ω;simp only[riS.eq_1];exact s_e [];refine ac (r_d hmix 11 ?_);refine a_3 ?_
 first|refine av (.index_l rfl rfl ω ω te_29.h) rfl rfl ?_|refine av (.index_a rfl rfl ω (hg1 _ ω) rfl te_29.h) rfl rfl ?_
 first|refine av (.load_l rfl rfl (hg1 _ ω) TG.h TS.h (nle rfl)) rfl rfl ?_|refine av (.load_a rfl (hg1 _ ω) TG.h TS.h (nle rfl)) rfl rfl ?_
 refine a_2 ?_
 first|refine av (.index_l rfl rfl ω ω te_29.h) rfl rfl ?_|refine av (.index_a rfl rfl ω (hg2 _ ω) rfl te_29.h) rfl rfl ?_
 first|refine av (.load_l rfl rfl (hg2 _ ω) TG.h TS.h (nle rfl)) rfl rfl ?_|refine av (.load_a rfl (hg2 _ ω) TG.h TS.h (nle rfl)) rfl rfl ?_
 refine c_s (hcm) ?_;refine o_0 (.bin rfl rfl (vT dc (decide_eq_true (by have:=mt cq_lt.1 hc;omega)))) ?_;refine ao (n_k ?_);refine cT (r_z 1 ?_);refine an (aR rfl ?_ ?_);have:¬xd l=true:=λe=>hc (risB_iff.1 e k hlt);rw[Bool.not_eq_true] at this;rw[this];rfl;exact ag _;refine ac (q_z 4 ?_);refine cF (aB ⟨(),risB_iff.2 λj hj=>h3 j ω,?_⟩);exact s_e [];rintro _ hr;rw[hr];refine r_z 1 ?_;exact an (t_e (ag _))
theorem fs_low(w:Rat):FS 135 [.agg (qC w)] (bln (decide (w<=0))):=by
 have e:decide (sgZ w.num<=(0:Int))=decide (w<=0):=by
  have h:=tC (q:=w);by_cases g:w<=0;rw[decide_eq_true g,decide_eq_true];have:¬0< sgZ w.num:=λe=>by have:=h.1 e;grind
  omega;rw[decide_eq_false g,decide_eq_false];have:0< sgZ w.num:=h.2 φ;omega
 refine f_c Tryz.func135 ?_;refine r_z 2 ?_;refine r_c 4 (cb w) ?_;refine a_z ?_;refine an (aR rfl ?_ ?_);rw[<-e];rfl;exact ag _
def mE(k:Lw):Lc:=k.map λe=>[.arr (pE e)]
@[simp] theorem Ey (k:Lw):(mE k).length=k.length:=by simp[mE]
theorem Fb(k:Lw):∀x∈mE k,∀c∈x,Closed c:=λx hx=>by
 obtain⟨p,_,rfl⟩:=List.mem_map.1 hx;exact ae (aq _) ai
theorem closed_mA(k:Lw):Closed (.arr (mE k)):=aU (Fb k)
theorem HL{α:Type}{l:List α}{i:Nat}{a:α}(h:l[i]?=some a):l.drop i=a::l.drop (i+1):=by
 obtain⟨h1,h2⟩:=List.getElem?_eq_some_iff.1 h;rw[List.drop_eq_getElem_cons h1,h2]
theorem GS{k:Lw}{i:Nat}{p:Lq}(h:k[i]?=some p):∀e,e=i->(mE k)[e]?=some [.arr (pE p)]:=λe he=>by
 rw[he,mE,List.getElem?_map,h];rfl
def irS(k:Lw)(g:Nat)(cap:La):Nat->AState
 |i=>⟨[(0,.arr (mE k)),(1,.clos g [] cap),(7,i64 k.length),(8,i64 i)],[],1,19⟩
theorem EZ(k:Lw)(g:Nat)(cap:La)(t:Lq->Bool)(hcap:∀c∈cap,Closed c)(hl:k.length<=1099511627776)(hg:∀p∈k,FS g ((.arr (pE p)::cap).map coe) (bln (t p))):FS 125 [.arr (mE k),.clos g [] cap] (i64 (qR t k 0)):=by
 have hcc:Closed (.clos g [] cap):=aY ai hcap;have hkl:(mE k).length=k.length:=Ey k;refine f_c Tryz.func125 ?_;obtain⟨R,hR⟩:∃R,R=qR t k 0:=⟨_,rfl⟩;rw[<-hR];refine r_z 1 ?_;refine ac (r_z 3 ?_);refine aG (λ_:Unit=>⟨[],[],1,19⟩) (λ_=>R= -1) ?_ ?_;refine ak (aC (irS k g cap) (λi=>k.length- i) (λi=>i<=k.length/\qR t (k.drop i) i=R) 0 ⟨Nat.zero_le _,by rw[hR];rfl⟩ ?_ ?_);simp only[irS.eq_1];exact s_x [] (λhs=>e_29) (λhs=>e_30);rintro i ⟨hi,hr⟩;rw[irS.eq_1];by_cases hlt:i< k.length;refine q_z 1 ?_;refine ac (cT (am ?_));obtain⟨p,hp⟩:∃p,k[i]?=some p:=⟨_,List.getElem?_eq_getElem hlt⟩;have hgt:(mE k)[((i:Nat):Int).toNat]?=some [.arr (pE p)]:=GS hp _ ψ;rw[HL hp,qR] at hr;refine ac (ak (r_z 2 ?_));refine s_r 6 ?_;refine a_3 ?_;refine i_x hgt ?_;refine l_1 hgt ?_;refine c_s (hg p (List.mem_of_getElem? hp)) ?_;refine ao ?_;refine aw rfl (λh1=>?_) (λh1=>?_);have h2:t p=true:=h1;rw[if_pos h2] at hr;refine r_z 2 ?_;refine an (aR rfl ?_ ?_);rw[<-hr];exact ag _;have h2:¬t p=true:=by rw[show t p=false from h1];decide
 rw[if_neg h2] at hr;refine am (r_m 2 ?_);refine a_z ?_;refine⟨i+1,ω,⟨hlt,hr⟩,?_⟩;simp only[irS.eq_1];exact s_x [] (λhs=>e_29) (λhs=>e_30);have hge:i=k.length:=ω
 subst hge;refine q_z 1 ?_;refine ac (cF ?_);rw[List.drop_length] at hr;refine aB ⟨(),hr.symm,?_⟩;exact s_e [];rintro _ hr;refine r_z 1 ?_;refine an (aR rfl ?_ ?_);rw[hr];rfl;exact ag _
theorem BX(e:Lq)(c:Nat)(x:Rat)(hx:e[c]?=some x):FS 126 [.arr (pE e),.aptr [[i64 c]] 0 0] (bln (decide (x≠0))):=by
 have hlt:c< e.length:=(List.getElem?_eq_some_iff.1 hx).1;have hl:(pE e).length=e.length:=by simp[pE]
 have g1:(pE e)[((c:Nat):Int).toNat]?=some (qC x):=by simp[pE,hx]
 refine f_c Tryz.func126 ?_;refine r_z 1 ?_;refine s_r 7 ?_;refine a_2 ?_;refine i_x g1 ?_;refine l_x g1 ?_;refine c_s (cb x) ?_;refine a_z ?_;refine an (aR rfl ?_ ?_);rw[show decide (x≠0)=decide (sgZ x.num≠0) from decide_eq_decide.2 (not_congr sgZ_num_eq.symm)]
 first|rfl|(congr 1;cases hb:decide (sgZ x.num=0) with|true=>(have:=of_decide_eq_true hb;simp[this])|false=>(have:=of_decide_eq_false hb;simp[bln,bne,this]))
 exact ag _
theorem rwL_mR(R:Nat->Lq)(n:Nat):(rwL R n).map (λe=>([.arr e]:La))=mE ((List.range n).map R):=by simp[rwL,mE]
theorem GU(k:Lw)(a:Nat):(mE k).drop a=mE (k.drop a):=by simp[mE,List.map_drop]
theorem yD{r:Ren}{hp hp':Hq}{cap:Option Nat}{TS TQ a m n:Nat}{R:Nat->Lq}(hh:∀i∈rzI n,hp' i=hp i)(h1:hp 0=some ⟨TS,1,rwO R (λx=>x) n⟩)(hr:∀i,i< n->hp (i+2)=some ⟨TQ,3,pE (R i)⟩)(ham:a+m=n):
    Cv r hp' (λ_=>none) (.lsl 0 a m cap 1) (.arr (mE (((List.range n).map R).drop a))):=by
 have e:mE (((List.range n).map R).drop a)=(((rwL R n).map λe=>([.arr e]:La)).drop a).take m:=by
  rw[rwL_mR,GU,List.take_of_length_le χ]
 rw[e];have hn:(rwL R n).length=n:=jz R n;have h0:hp' 0=some ⟨TS,1,mzO 3 (λk=>(R k).length) (λx=>x) (rwL R n).length⟩:=by rw[hh 0 (List.mem_cons_self ..),h1,hn];rfl
 refine Cv.shut (es:=((rwL R n).map λe=>([.arr e]:La)).drop a|>.take m) aE (dY h0 (show(1:Nat)≠0 by decide)) (λj B hj=>by cases hj) (by show a+m<=(mzO 3 _ (λx=>x) (rwL R n).length).length;rw[ua,hn];omega) (wI m (wL a (Fk (sz:=3) (TQ:=TQ) (w:=λk=>(R k).length) δ (λi x hx=>?_) (λi x hx=>by rw[(w8 hx).2];simp[pE]) (λx hx y hy c hc=>?_))));obtain⟨h2,rfl⟩:=w8 hx;rw[hh (i+2) (List.mem_cons_of_mem _ (List.mem_map.2 ⟨i,List.mem_range.2 h2,rfl⟩)),hr i h2];obtain⟨k,_,rfl⟩:=List.mem_map.1 hx;exact aJ _ y hy c hc
theorem uq(R:Nat->Lq)(n r c:Nat)(hn:n<=1000)(hl:∀i,i< n->c< (R i).length):
    FS 125 [.arr (mE (((List.range n).map R).drop r)),.clos 126 [] [.aptr [[i64 c]] 0 0]] (i64 (qR (λe:Lq=>decide (coP e c≠0)) (((List.range n).map R).drop r) 0)):=
 EZ _ 126 [.aptr [[i64 c]] 0 0] _ (ae (aW (ae (ag _) ai)) ai) χ λe he=>by
  obtain⟨i,hi,rfl⟩:=List.mem_map.1 (List.mem_of_mem_drop he);exact BX _ c _ (bJ (hl i (List.mem_range.1 hi)))
theorem fh{r:Ren}{hp hp':Hq}{fr fr':Fr}(hs:Shr r hp hp')(h:CvF r hp hp' fr fr':=by repeat' (first|exact aF|refine aj rfl ?_ ?_|exact ah hs (ag _)|exact ah hs (aT _)|exact ah hs (aW (ae (ag _) ai))|exact Cv.sl rfl rfl rfl|exact Cv.sl (Nat.ble_eq_true_of_le (by show _+1<=40;omega)) rfl (by rw[bH (by assumption)];rfl)|exact Cv.boxp hs rfl (AC hs δ) rfl (ae (ag _) ai)|exact Cv.boxp hs rfl (AC hs δ) rfl (bo _)|(refine Cv.loE hs ?_ (ag _);simp[i64];done))):CvF r hp hp' fr fr':=h
def rcS(M:Mx)(n:Nat):Nat->AState
 |c=>⟨[(0,.lsl 0 0 n none 1),(2,bln false),(12,i64 n),(13,i64 c)],rzH 29 42 (λk=>aH (n+1) ((slM M n c).1 k)) n,40,118⟩
def rcK(X:Mx)(n c:Nat)(f:Rat):Nat->AState
 |j=>⟨[(0,.lsl 0 0 n none 1),(2,bln false),(3,.aptr [[i64 c]] 0 0),(5,bQ f),(12,i64 n),(13,i64 c),(54,i64 ((n+1:Nat):Int)),(55,i64 j)],rzH 29 42 (λk=>aH (n+1) (scJ X c f j k)) n,40,118⟩
def rcI(Y:Mx)(n c:Nat):Nat->AState
 |i=>⟨[(0,.lsl 0 0 n none 1),(2,bln false),(3,.aptr [[i64 c]] 0 0),(12,i64 n),(13,i64 c),(74,.lsl 0 0 n none 1),(75,i64 n),(76,i64 i)],rzH 29 42 (λk=>aH (n+1) (rdJ Y c c i 0 k)) n,40,118⟩
def rcJ(Y:Mx)(n c i:Nat):Nat->AState
 |j=>⟨[(0,.lsl 0 0 n none 1),(2,bln false),(3,.aptr [[i64 c]] 0 0),(7,i64 i),(8,.lsl (i+2) 0 (n+1) none 3),(9,bQ (Y i c)),(12,i64 n),(13,i64 c),(74,.lsl 0 0 n none 1),(75,i64 n),(76,i64 i),(94,i64 ((n+1:Nat):Int)),(95,i64 j)],rzH 29 42 (λk=>aH (n+1) (rdJ Y c c i j k)) n,40,118⟩
theorem D9(M:Mx)(n B:Nat)(hn:n<=25)(hfull:n<=(slM M n n).2.length)(hB:B<=100000000000)(hq:∀c,c<=n->∀i j,i< n->j<=n->qs ((slM M n c).1 i j)<=B):
    XSpec Tryz.prog 70 [.lsl 0 0 n none 1] (rzH 29 42 (λk=>aH (n+1) (M k)) n) 40 (bln true) (rzH 29 42 (λk=>aH (n+1) ((slM M n n).1 k)) n) 40:=by
 refine XSpec.enter Tryz.func70 rfl κ rfl rfl rfl rfl rfl ?_;refine r_z 1 ?_;refine ac (r_z 3 ?_);refine aG (λ_:Unit=>rcS M n n) (λ_=>True) ?_ ?_
 ·refine ak (aC (rcS M n) (λc=>n- c) (λc=>c<=n) 0 (Nat.zero_le _) ?_ ?_)
  rw[rcS.eq_1];exact(SEntT.rz1 ω bv (λi hi=>bH hi) λhs=>fh hs).ent;intro c hc;rw[rcS.eq_1];by_cases hlt:c< n;rotate_left;have hge:c=n:=ω
  subst hge;refine q_z 1 ?_;refine ac (cF (aB ⟨(),trivial,?_⟩));exact(SEntT.rz1 ω bv (λi hi=>bH hi) λhs=>fh hs).ent;refine q_z 1 ?_;refine ac (cT (am (ac (ak ?_))));have hqc:=hq c hc;obtain⟨p,hp,hn1⟩:=FO hfull hlt;have hqn:=hq (c+1) hlt;rw[hn1] at hqn;obtain⟨A,hA⟩:∃A,A=(slM M n c).1:=⟨_,rfl⟩;rw[<-hA] at hqc hp hn1 hqn⊢;obtain⟨p1,p2,p3⟩:=kD hp;refine r_z 3 ?_;refine AWp.ent (st':=⟨[(0,.lsl 0 0 n none 1),(2,bln false),(3,.aptr [[i64 c]] 0 0),(12,i64 n),(13,i64 c)],rzH 29 42 (λk=>aH (n+1) (A k)) n,40,118⟩) ?_ ?_;refine(SEntT.rz1 ω ?_ ?_ λhs=>fh hs).ent
  ·repeat rw[bh δ]
   exact bv
  ·intro k hk
   repeat rw[bh ω]
   exact bH hk
  have hcl:Closed (.clos 126 [] [.aptr [[i64 c]] 0 0]):=aY ai (ae (aW (ae (ag _) ai)) ai);have hlead:=uq (λk=>aH (n+1) (A k)) n (0+c) c ω (λi hi=>χ);rw[DE (p:=p) ω (by rw[Nat.zero_add];exact hp)] at hlead;refine s_r 6 ?_;refine a_2 ?_;refine o_0 (.slice_l (l:=c) (h:=n) rfl ⟨⟨_,rfl,.inr ⟨_,_,rfl,rfl⟩⟩,⟨_,rfl,.inl ⟨rfl,rfl,rfl⟩⟩,⟨_,rfl,.inl ⟨rfl,rfl⟩⟩⟩ ω (Nat.le_refl _) (.inr ω) te_117.h) ?_;refine a_1 ?_;refine o_0 (.callV (rd:=rzI n) (rr:=⟨0,λi=>i⟩) rfl rfl rfl (λhp' hh=>af (yD hh bv (λi hi=>bH hi) ω) (af (ah aE hcl) ax)) hlead) ?_;refine a_z ?_;refine ac (q_z 2 ?_);refine cF (am ?_);have hgp:∀e,e=p->(rwO (λk=>aH (n+1) (A k)) (λx=>x) n)[e]?=some [.lsl (p+2) 0 (n+1) none 3]:=λe he=>by rw[dQ p1 e he];simp
  have hgr:∀e,e=c->(rwO (λk=>aH (n+1) (A k)) (λx=>x) n)[e]?=some [.lsl (c+2) 0 (n+1) none 3]:=λe he=>by rw[dQ hlt e he];simp
  have hst:∀a b,a=c->b=p->((rwO (λk=>aH (n+1) (A k)) (λx=>x) n).set a [.lsl (p+2) 0 (n+1) none 3])[b]?=some [.lsl (p+2) 0 (n+1) none 3]:=λa b ha hb=>by
   rw[List.getElem?_set];split;rw[if_pos (by rw[jy];omega)];exact hgp b hb
  have ho:=dY (bv (TS:=29) (TQ:=42) (n:=n) (R:=λk=>aH (n+1) (A k))) (show(1:Nat)≠0 by decide);refine ac (r_d hmix 20 ?_);refine a_8 ?_;refine a_3 ?_;refine o_0 (.load_l1 rfl ho (hgp _ ω) TG.h rfl) ?_;refine a_3 ?_;refine o_0 (.load_l1 rfl ho (hgr _ ω) TG.h rfl) ?_;refine a_1 ?_;refine ee (.store rfl ho (hgr _ ω) rfl rfl rfl TS.h (nle rfl)) ?_;refine a_1 ?_;refine ee (.store rfl rfl (hst _ _ ω ω) rfl rfl rfl TS.h (nle rfl)) ?_;refine ao (n_k ?_);refine AWp.ent (st':=⟨[(0,.lsl 0 0 n none 1),(2,bln false),(3,.aptr [[i64 c]] 0 0),(12,i64 n),(13,i64 c)],rzH 29 42 (λk=>aH (n+1) (swM A c p k)) n,40,118⟩) ?_ ?_;have q0:swx (p+2) (c+2) 0=0:=qu ω ω;have hinj:∀i j,InZ n i->InZ n j->swx (p+2) (c+2) i=swx (p+2) (c+2) j->i=j:=λ_ _ _ _ e=>C1 e;refine(SEntT.rz (swx (p+2) (c+2)) ω (qu ω ω) hinj ?_ ?_ λhs=>?_).ent;rw[gi (R':=λi=>aH (n+1) (A (swx p c i))) (s':=swx (p+2) (c+2)) (λk hk=>⟨ψ,rfl⟩),<-yX (R:=λk=>aH (n+1) (A k)) p1 hlt (0+((c:Nat):Int).toNat) (0+(((c:Nat):Int)+((p- (0+c):Nat):Int)).toNat) ω ω];simp only[jP];rfl
  ·intro i hi
   rw[swx2,FI]
   repeat rw[bh ω]
   exact bH (R:=λk=>aH (n+1) (A k)) (FH p1 hlt hi)
  exact aj rfl (Cv.sl rfl q0 rfl) (aj rfl (ah hs (ag _)) (aj rfl (ah hs (aW (ae (ag _) ai))) (aj rfl (ah hs (ag _)) (aj rfl (ah hs (ag _)) aF))));have hrow:=fN (TS:=29) (TQ:=42) (R:=λk=>aH (n+1) (swM A c p k)) hlt;have ho2:=dY (bv (TS:=29) (TQ:=42) (n:=n) (R:=λk=>aH (n+1) (swM A c p k))) (show(1:Nat)≠0 by decide);have hg2:∀e,e=c->(rwO (λk=>aH (n+1) (swM A c p k)) (λx=>x) n)[e]?=some [.lsl (c+2) 0 (n+1) none 3]:=λe he=>by rw[dQ hlt e he];simp
  have hx:swM A c p c c=A p c:=by simp[swM]
  have hge:∀e,e=c->(pE (aH (n+1) (swM A c p c)))[e]?=some (qC (A p c)):=λe he=>by
   subst he;simp[pE,aH,show e< n+1 by omega,hx]
  have hi1:=df 1 δ;have hq1:qs ((1:Int):Rat)<=1:=δ
  have hov:=fQ ((1:Int):Rat) (A p c) p3 (by have:=hqc p c p1 ω;omega);refine ac (r_d hmix 11 ?_);refine c_s (hi1) ?_;refine a_3 ?_;refine o_0 (.load_l1 rfl ho2 (hg2 _ ω) TG.h rfl) ?_;refine a_2 ?_;refine o_0 (.load_l rfl hrow (hge _ ω) TG.h TS.h (nle rfl)) ?_;refine c_s (hov) ?_;refine a_2 ?_;refine ao ⟨oa (fps0:=[([],[]),([],[]),([],[]),([],[]),([],[]),([],[]),([],[]),([],[]),([],[]),([49],[]),([49],[49])]) κ (lessF.zz (lessF.zz (lessF.zz (lessF.zz (lessF.rd ω (lessF.zz (lessF.zz (lessF.rd ω (lessF.zz (lessF.al rfl (show 40<=49 by decide) (lessF.st rfl (show 40<=49 by decide) lessF.nil))))))))))),?_⟩;refine AWp.ent (st':=⟨[(0,.lsl 0 0 n none 1),(2,bln false),(3,.aptr [[i64 c]] 0 0),(5,bQ (((1:Int):Rat) / A p c)),(12,i64 n),(13,i64 c)],rzH 29 42 (λk=>aH (n+1) (swM A c p k)) n,40,118⟩) ?_ ?_;refine(SEntT.rz1 ω ?_ ?_ λhs=>fh hs).ent
  ·repeat rw[bh δ]
   exact bv
  ·intro k hk
   repeat rw[bh ω]
   exact bH (R:=λk=>aH (n+1) (swM A c p k)) hk
  refine ac (s_r 6 ?_);refine a_3 ?_;refine o_0 (.load_l1 rfl ho2 (hg2 _ ω) TG.h rfl) ?_;refine a_z ?_;obtain⟨X,hX⟩:∃X,X=swM A c p:=⟨_,rfl⟩;obtain⟨f,hf⟩:∃f,f=((1:Int):Rat) / A p c:=⟨_,rfl⟩;rw[<-hX,<-hf];have hqX:∀i j,i< n->j<=n->qs (X i j)<=B:=by rw[hX];exact AM hqc hlt p1
  have hqf:qs f<=B+1:=by
   rw[hf];have h1:=fu ((1:Int):Rat) (A p c);have h2:=hqc p c p1 ω;omega
  rw[<-hX,show(1:Rat) / A p c=f by rw[hf,show((1:Int):Rat)=1 by decide]] at hn1 hqn;clear hrow ho2 hg2 hx hge hi1 hq1 hov hgp hgr hst ho hlead;refine aG (λ_:Unit=>rcK X n c f (n+1)) (λ_=>True) ?_ ?_
  ·refine ak (aC (rcK X n c f) (λj=>n+1- j) (λj=>j<=n+1) 0 (Nat.zero_le _) ?_ ?_)
   rw[rcK.eq_1,scJ_0];exact(SEntT.rz1 ω bv (λi hi=>bH hi) λhs=>fh hs).ent;intro j hj;rw[rcK.eq_1];by_cases hjn:j< n+1;rotate_left;have hge:j=n+1:=ω
   subst hge;refine q_z 1 ?_;refine ac (cF (aB ⟨(),trivial,?_⟩));exact(SEntT.rz1 ω bv (λi hi=>bH hi) λhs=>fh hs).ent;refine q_z 1 ?_;refine ac (cT (am (ac (ak (r_z 2 ?_)))));have hmu:=dq (X c j) f (by have:=hqX c j hlt ω;omega);have hce:=fN (TS:=29) (TQ:=42) (R:=λk=>aH (n+1) (scJ X c f j k)) hlt;have ho3:=dY (bv (TS:=29) (TQ:=42) (n:=n) (R:=λk=>aH (n+1) (scJ X c f j k))) (show(1:Nat)≠0 by decide);have hg3:∀e,e=c->(rwO (λk=>aH (n+1) (scJ X c f j k)) (λx=>x) n)[e]?=some [.lsl (c+2) 0 (n+1) none 3]:=λe he=>by rw[dQ hlt e he];simp
   have hgj:∀e,e=j->(pE (aH (n+1) (scJ X c f j c)))[e]?=some (qC (X c j)):=λe he=>by rw[fv hjn e he,FQ]
   refine r_d hmix 16 ?_;refine a_3 ?_;refine o_0 (.load_l1 rfl ho3 (hg3 _ ω) TG.h rfl) ?_;refine a_4 ?_;refine o_0 (.load_l1 rfl ho3 (hg3 _ ω) TG.h rfl) ?_;refine a_2 ?_;refine o_0 (.load_l rfl hce (hgj _ ω) TG.h TS.h (nle rfl)) ?_;refine c_s (hmu) ?_;refine a_1 ?_;refine ee (.store rfl hce (hgj _ ω) rfl rfl rfl TS.h (nle rfl)) ?_;refine ao (n_k ?_);refine r_m 2 ?_;refine a_z ?_;refine⟨j+1,ω,ω,?_⟩;rw[rcK.eq_1,scJ_s];exact(w7 ω hlt hjn ω λhs=>fh hs).ent
  rintro _ _;show AWp _ _ _ _ (rcK X n c f (n+1));rw[rcK.eq_1,show(λk=>aH (n+1) (scJ X c f (n+1) k))=λk=>aH (n+1) (scM X c f k) from funext λk=>kz λj hj=>scJ_n k j hj];obtain⟨Y,hY⟩:∃Y,Y=scM X c f:=⟨_,rfl⟩
  have hqS:∀i j,i< n->j<=n->qs (Y i j)<=B:=λi j hi hj=>by
   rw[hY];by_cases e:i=c;subst e;have:=hqn i j hi hj;rwa[show rdM (scM X i f) i i i j=scM X i f i j from if_pos rfl] at this;rw[show scM X c f i j=X i j from if_neg e];exact hqX i j hi hj
  rw[<-hY] at hn1⊢;refine r_z 3 ?_;refine AWp.cutB (λ_:Unit=>rcI Y n c n) (λ_=>True) ?_ ?_
  ·refine ak (aC (rcI Y n c) (λi=>n- i) (λi=>i<=n) 0 (Nat.zero_le _) ?_ ?_)
   rw[rcI.eq_1,rdJ_0];exact(SEntT.rz1 ω bv (λi hi=>bH hi) λhs=>fh hs).ent;intro i hi;rw[rcI.eq_1];by_cases hin:i< n;rotate_left;have hge:i=n:=ω
   rw[hge];refine q_z 1 ?_;refine ac (cF (aB ⟨(),trivial,?_⟩));exact(SEntT.rz1 ω bv (λi hi=>bH hi) λhs=>fh hs).ent;refine q_z 1 ?_;refine ac (cT (am (ac (ak ?_))));have hce:=fN (TS:=29) (TQ:=42) (R:=λk=>aH (n+1) (rdJ Y c c i 0 k)) hin;have ho3:=dY (bv (TS:=29) (TQ:=42) (n:=n) (R:=λk=>aH (n+1) (rdJ Y c c i 0 k))) (show(1:Nat)≠0 by decide);have hg3:∀e,e=i->(rwO (λk=>aH (n+1) (rdJ Y c c i 0 k)) (λx=>x) n)[e]?=some [.lsl (i+2) 0 (n+1) none 3]:=λe he=>by rw[dQ hin e he];simp
   have hgc:∀e,e=c->(pE (aH (n+1) (rdJ Y c c i 0 i)))[e]?=some (qC (Y i c)):=λe he=>by rw[rdJ_c];exact fv ω e he
   refine s_r 5 ?_;refine a_2 ?_;refine o_0 (.load_l1 rfl ho3 (hg3 _ ω) TG.h rfl) ?_;refine a_z ?_;refine s_r 6 ?_;refine a_3 ?_;refine o_0 (.load_l rfl hce (hgc _ ω) TG.h TS.h (nle rfl)) ?_;refine a_z ?_;refine AWp.ent (st':=⟨[(0,.lsl 0 0 n none 1),(2,bln false),(3,.aptr [[i64 c]] 0 0),(7,i64 i),(8,.lsl (i+2) 0 (n+1) none 3),(9,bQ (Y i c)),(12,i64 n),(13,i64 c),(74,.lsl 0 0 n none 1),(75,i64 n),(76,i64 i)],rzH 29 42 (λk=>aH (n+1) (rdJ Y c c i 0 k)) n,40,118⟩) ?_ ?_;refine(SEntT.rz1 ω ?_ ?_ λhs=>fh hs).ent
   ·repeat rw[bh δ]
    exact bv
   ·intro k hk
    repeat rw[bh ω]
    exact bH (R:=λk=>aH (n+1) (rdJ Y c c i 0 k)) hk
   by_cases hir:i=c;refine s_r 8 ?_;refine a_2 ?_;refine o_0 (.bin rfl rfl (vF bO (ntF ω))) ?_;refine a_1 ?_;refine n_g rfl d_f ?_;refine n_g rfl d_f ?_;refine n_g rfl d_f ?_;refine o_0 (.pickF rfl d_f rfl) ?_;refine ao ?_;refine cF (am (r_m 2 ?_));refine a_z ?_;refine⟨i+1,ω,ω,?_⟩;rw[rcI.eq_1,pm (.inl hir)];exact(SEntT.rz1 ω bv (λi hi=>bH hi) λhs=>fh hs).ent;by_cases hic:Y i c=0;refine s_r 8 ?_;refine a_2 ?_;refine o_0 (.bin rfl rfl (vT bO (ntT ω))) ?_;refine a_1 ?_
   first|refine y_g rfl d_t (.load_l rfl rfl rfl TG.h TS.h (nle rfl)) ?_|refine y_g rfl d_t (.load_a rfl rfl TG.h TS.h (nle rfl)) ?_
   refine y_g rfl d_t (.call rfl rfl rfl (cb (Y i c))) ?_;refine y_g rfl d_t (.bin rfl rfl (vF bO (ntF (sgZ_num_eq.2 hic)))) ?_;refine o_0 (.pickT rfl d_t rfl) ?_;refine ao ?_;refine cF (am (r_m 2 ?_));refine a_z ?_;refine⟨i+1,ω,ω,?_⟩;rw[rcI.eq_1,pm (.inr hic)];exact(SEntT.rz1 ω bv (λi hi=>bH hi) λhs=>fh hs).ent;refine s_r 8 ?_;refine a_2 ?_;refine o_0 (.bin rfl rfl (vT bO (ntT ω))) ?_;refine a_1 ?_
   first|refine y_g rfl d_t (.load_l rfl rfl rfl TG.h TS.h (nle rfl)) ?_|refine y_g rfl d_t (.load_a rfl rfl TG.h TS.h (nle rfl)) ?_
   refine y_g rfl d_t (.call rfl rfl rfl (cb (Y i c))) ?_;refine y_g rfl d_t (.bin rfl rfl (vT bO (ntT (mt sgZ_num_eq.1 hic)))) ?_;refine o_0 (.pickT rfl d_t rfl) ?_;refine ao ?_;refine cT (r_z 3 ?_);refine AWp.cutB (λ_:Unit=>rcJ Y n c i (n+1)) (λ_=>True) ?_ ?_
   ·refine ak (aC (rcJ Y n c i) (λj=>n+1- j) (λj=>j<=n+1) 0 (Nat.zero_le _) ?_ ?_)
    rw[rcJ.eq_1];exact(SEntT.rz1 ω bv (λi hi=>bH hi) λhs=>fh hs).ent;intro j hj;rw[rcJ.eq_1];by_cases hjn:j< n+1;rotate_left;have hge:j=n+1:=ω
    subst hge;refine q_z 1 ?_;refine ac (cF (aB ⟨(),trivial,?_⟩));exact(SEntT.rz1 ω bv (λi hi=>bH hi) λhs=>fh hs).ent;refine q_z 1 ?_;refine ac (cT (am (ac (ak (r_z 2 ?_)))));have hmu:=dq (Y i c) (Y c j) (by have:=hqS i c hin ω;have:=hqS c j hlt ω;omega);have hsu:=gO (Y i j) (Y i c* Y c j) (by have:=hqS i c hin ω;have:=hqS c j hlt ω;have:=hqS i j hin ω;have:=eV (Y i c) (Y c j);omega);have hcei:=fN (TS:=29) (TQ:=42) (R:=λk=>aH (n+1) (rdJ Y c c i j k)) hin;have hcer:=fN (TS:=29) (TQ:=42) (R:=λk=>aH (n+1) (rdJ Y c c i j k)) hlt;have ho5:=dY (bv (TS:=29) (TQ:=42) (n:=n) (R:=λk=>aH (n+1) (rdJ Y c c i j k))) (show(1:Nat)≠0 by decide);have hg6:∀e,e=c->(rwO (λk=>aH (n+1) (rdJ Y c c i j k)) (λx=>x) n)[e]?=some [.lsl (c+2) 0 (n+1) none 3]:=λe he=>by rw[dQ hlt e he];simp
    have hgi:∀e,e=j->(pE (aH (n+1) (rdJ Y c c i j i)))[e]?=some (qC (Y i j)):=λe he=>by rw[fv hjn e he,Gd]
    have hgr:∀e,e=j->(pE (aH (n+1) (rdJ Y c c i j c)))[e]?=some (qC (Y c j)):=λe he=>by rw[fv hjn e he,rdJ_r]
    refine r_d hmix 18 ?_;refine a_5 ?_;refine o_0 (.load_l rfl hcei (hgi _ ω) TG.h TS.h (nle rfl)) ?_;refine a_4 ?_;refine o_0 (.load_l1 rfl ho5 (hg6 _ ω) TG.h rfl) ?_;refine a_2 ?_;refine o_0 (.load_l rfl hcer (hgr _ ω) TG.h TS.h (nle rfl)) ?_;refine c_s (hmu) ?_;refine c_s (hsu) ?_;refine a_1 ?_;refine ee (.store rfl hcei (hgi _ ω) rfl rfl rfl TS.h (nle rfl)) ?_;refine ao (n_k ?_);refine r_m 2 ?_;refine a_z ?_;refine⟨j+1,ω,ω,?_⟩;rw[rcJ.eq_1,rdJ_s hir];exact(w7 ω hin hjn ω λhs=>fh hs).ent
   rintro _ _;show AWp _ _ _ _ (rcJ Y n c i (n+1));rw[rcJ.eq_1,show(λk=>aH (n+1) (rdJ Y c c i (n+1) k))=λk=>aH (n+1) (rdJ Y c c (i+1) 0 k) from funext λk=>kz λj hj=>rdJ_n i k j hj];refine r_m 2 ?_;refine a_z ?_;refine⟨i+1,ω,ω,?_⟩;rw[rcI.eq_1];exact(SEntT.rz1 ω bv (λi hi=>bH hi) λhs=>fh hs).ent
  rintro _ _;show AWp _ _ _ _ (rcI Y n c n);rw[rcI.eq_1,vP (R:=λk=>aH (n+1) (rdJ Y c c n 0 k)) (R':=λk=>aH (n+1) (rdM Y c c k)) λk hk=>(kz λj _=>Dl hk j:rT n (rdJ Y c c n 0) k=rT n (rdM Y c c) k),<-hn1];refine r_m 2 ?_;refine a_z ?_;refine⟨c+1,ω,ω,?_⟩;rw[rcS.eq_1];exact(SEntT.rz1 ω bv (λi hi=>bH hi) λhs=>fh hs).ent
 rintro _ _;rw[rcS.eq_1];refine r_z 1 ?_;refine an (FinX.of ?_);exact(SEntT.rz1 ω bv (λi hi=>bH hi) λhs=>fh hs).ent
end Go.Proofs.YtjgokhkahkmpbaaGreatDoor
