/- Part X21 of the proof. -/
import Derived.Test.YtjgokhkahkmpbaaGreatDoorX20
set_option linter.all false
namespace Go.Proofs.YtjgokhkahkmpbaaGreatDoor
open Go.Abs
set_option maxRecDepth 20000
set_option maxHeartbeats 2000000
def Ed(c:Cnt)(q:Lq)(step:Rat)(s:Sp):Option Bool:=if wl q s∧smS (gX q s)∧sm ((gX q s).2- (gX q s).1)∧sm step∧l7 c s then some (decide (cZ ((gX q s).2- (gX q s).1) step< 0)) else none
def valR(f g:Nat)(c:Cnt)(i:Int)(q:Lq)(k:Int)(v:Sp):Option Sp:=
 if sm (gM v.2 (wi k 256))∧smS v∧sm (ci (wi k 256))∧smL q∧q.length≤274877906944 then
  if cZ (gM v.2 (wi k 256)) v.1< 0 then some (gM v.2 (wi k 256),gM v.2 (wi k 256)+ci (wi k 256))
  else(qR f g c i (dH q (fe (gM v.2 (wi k 256))))).bind fun sg=>
   some (if sg=0 then(gM v.2 (wi k 256),gM v.2 (wi k 256)) else if sg=1 then(gM v.2 (wi k 256),gM v.2 (wi k 256)+ci (wi k 256)) else(gM v.2 (wi k 256)- ci (wi k 256),gM v.2 (wi k 256)))
 else none
def sa(f g:Nat)(c:Cnt)(i:Int)(q:Lq)(k:Int):Option Sp:=
 (sj f c i 0).bind fun s0=>(oc (fun j=>Ed c q (ci (wi k 256)) (cX c i s0 j)) g 0).bind fun j=>valR f g c i q k (gX q (cX c i s0 j))
abbrev bI(k:Int):AV:= .aptr [[i64 k]] 0 0
theorem jp(k:Int):Closed (bI k):=ba (ae (ag _) ai)
def vaS(c:Cnt)(i:Int)(q:Lq)(k:Int)(step:Rat):Nat→AState
 |j=>⟨[(3,bPl c i),(4,bP q),(5,bI k),(6,.lptr 1 0 0),(7,bQ step),(14,.clos 273 [] [bPl c i])],[(1,some ⟨44,6,[zC++zC]⟩)],2,61⟩
def vaX(r:Sp):Unit→AState
 |u=>⟨[(6,.lptr 1 0 0)],[(1,some ⟨44,6,[spC r.1 r.2]⟩)],2,61⟩
theorem Fi(f g:Nat)(c:Cnt)(i:Int)(q:Lq)(k:Int)(r:Sp)(h:sa f g c i q k=some r)(hf:f≤1000000):FS 235 [plA c i,.arr (pE q),i64 k] (.agg (spC r.1 r.2)):=by
 unfold sa at h;obtain⟨s0,hs0,h2⟩:=Option.bind_eq_some_iff.1 h;obtain⟨kk,hkk,hR⟩:=Option.bind_eq_some_iff.1 h2;obtain⟨t1,_,t2⟩:=jP hkk;obtain⟨step,hst⟩:∃step,step=ci (wi k 256):=⟨_,rfl⟩;rw[←hst] at t1 t2
 have hok:∀j,j≤kk→wl q (cX c i s0 j)∧smS (gX q (cX c i s0 j))∧sm ((gX q (cX c i s0 j)).2- (gX q (cX c i s0 j)).1)∧sm step∧l7 c (cX c i s0 j):=fun j hj=>by
  have:∃b,Ed c q step (cX c i s0 j)=some b:=by
   by_cases e:j=kk;rw[e];exact⟨_,t1⟩;exact⟨_,t2 j (Nat.zero_le _) (by omega)⟩
  obtain⟨b,hb⟩:=this;unfold Ed at hb;split at hb;assumption;cases hb
 have hgs:=ql f c i s0 kk hs0 (fun j hj=>(hok j (by omega)).2.2.2.2);have hfi:=jc k;rw[←hst] at hfi;refine f_n Tryz.func235 ?_ ?_;exact ae (c6 c i) (ae (ap q) (ae (ag _) ai));refine r_z 4 ?_;refine r_c 4 (hfi) ?_;refine a_z ?_;refine AWp.ent (st':=⟨[(3,bPl c i),(4,bP q),(5,bI k),(6,.lptr 1 0 0),(7,bQ step)],[(1,some ⟨44,6,[zC++zC]⟩)],2,61⟩) ?_ ?_;have:=(ae (c6 c i) ai);exact s_f [(1,6)];refine ac (r_c 2 (qt c i) ?_);refine an ?_;refine aI (vaX r) (fun _=>False) ?_ (fun _ h=>h.elim);refine am (AWp.rangeFuncB (α:=Nat) (γ:=Unit) kk (vaS c i q k step) (fun j=>j) (fun j=>j≤kk) (vaX r) (fun e _=>e= .ret) 0 rfl hgs rfl rfl ?_ (fun _=>⟨rfl,rfl⟩) (fun _=>rfl) (Nat.zero_le _) rfl (fun _ h=>h) ?_ ?_ ?_ ?_ ?_);intro j xs hT;cases hT;rfl;rw[vaS.eq_1];have:=jp k;exact s_t [];exact ae (dr c i) ai;intro l j xs hj hT;cases hT;have hx:=hok j hj;obtain⟨s,hsd⟩:∃s,s=cX c i s0 j:=⟨_,rfl⟩;rw[←hsd] at hx⊢;obtain⟨x1,x2,x3,x4,x5⟩:=hx;obtain⟨v,hv⟩:∃v,v=gX q s:=⟨_,rfl⟩;have hov:=fs_Over q s x1;rw[←hv] at hov x2 x3;show AWp _ _ _ _ ⟨[(15,.agg (spC s.1 s.2)),(3,bPl c i),(4,bP q),(5,bI k),(6,.lptr 1 0 0),(7,bQ step),(14,.clos 273 [] [bPl c i]),(1003,bPl c i),(1004,bP q),(1005,bI k),(1006,.lptr 1 0 0),(1007,bQ step),(1014,.clos 273 [] [bPl c i])],[(1,some ⟨44,6,[zC++zC]⟩)],2,61⟩;refine r_m 2 ?_;refine a_z ?_;refine am (r_c 5 (hov) ?_);refine a_z ?_;refine ac (ac (r_d hmix 5 ?_));refine c_s (kD v.1 v.2 x2.1 x2.2) ?_;refine c_s (dW (v.2- v.1) step x3 x4) ?_;refine a_1 ?_;refine an (n_k ?_)
 refine aq rfl (fun h6=>?_) (fun h6=>?_)
 have h7:¬cZ (v.2- v.1) step< 0:=by
  have:0≤cZ (v.2- v.1) step:=by simpa using h6
  omega
 have he:j< kk:=by
  refine Nat.lt_of_le_of_ne hj fun e=>?_;subst e;rw[←hsd] at t1;unfold Ed at t1;rw[←hv] at t1;rw[if_pos ⟨x1,x2,x3,x4,x5⟩] at t1;simp[h7] at t1
 refine aA (⟨j+1,⟨he,rfl⟩,?_⟩);show SEntT _ ⟨[(1003,bPl c i),(1004,bP q),(1005,bI k),(1006,.lptr 1 0 0),(1007,bQ step),(1014,.clos 273 [] [bPl c i])],[(1,some ⟨44,6,[zC++zC]⟩)],2,61⟩;have:=jp k;exact s_t []
 ·have h7:cZ (v.2- v.1) step< 0:=by
   have:¬0≤cZ (v.2- v.1) step:=by simpa using h6
   omega
  have he:j=kk:=by
   refine Nat.le_antisymm hj (Nat.le_of_not_lt fun hlt=>?_);have h8:=t2 j (Nat.zero_le _) hlt;rw[←hsd] at h8;unfold Ed at h8;rw[←hv] at h8;rw[if_pos ⟨x1,x2,x3,x4,x5⟩] at h8;simp[h7] at h8
  subst he;rw[←hsd,←hv] at hR;unfold valR at hR;rw[←hst] at hR;obtain⟨m,hm⟩:∃m,m=gM v.2 (wi k 256):=⟨_,rfl⟩;rw[←hm] at hR;split at hR
  case isFalse=>cases hR
  case isTrue hz=>
  obtain⟨z1,z2,z3,z4,z5⟩:=hz;have hdn:=CR v.2 k x2.2;rw[←hm] at hdn;refine ak (r_c 6 (hdn) ?_);refine a_z ?_;refine ac (r_c 5 (dW m v.1 z1 z2.1) ?_);refine a_z ?_;refine aq rfl (fun h8=>?_) (fun h8=>?_);have h9:cZ m v.1< 0:=by simpa using h8
  rw[if_pos h9] at hR;cases hR;refine ac (r_d hmix 6 ?_);refine c_s (fz m step (sm2 z1 z3)) ?_;refine a_2 ?_;refine an (n_k ?_);refine aj (⟨rfl,(),rfl,?_⟩);show SEntT _ ⟨[(1006,.lptr 1 0 0)],[(1,some ⟨44,6,[spC (m,m+step).1 (m,m+step).2]⟩)],2,61⟩;have:=jp k;exact s_t [];have h9:¬cZ m v.1< 0:=by simpa using h8
  rw[if_neg h9] at hR;obtain⟨sg,hsg,hR2⟩:=Option.bind_eq_some_iff.1 hR;cases hR2;have hcl:=og m;have hsmc:smL (fe m):=sr fun x hx=>by rw[List.mem_singleton.1 hx];exact z1
  refine ak (ac (ac (r_d hmix 6 ?_)));refine c_s (jO m) ?_;refine c_s (ob q (fe m) z4 hsmc (by omega) (by omega)) ?_;refine c_s (CK f g c i (dH q (fe m)) sg hsg hf) ?_;refine an (n_k ?_);refine am (r_z 2 ?_);refine aq rfl (fun h10=>?_) (fun h10=>?_);have h11:sg=0:=by simpa using h10
  refine r_c 3 (yV m) ?_;refine a_z ?_;refine aj (⟨rfl,(),rfl,?_⟩);rw[if_pos h11];show SEntT _ ⟨[(1006,.lptr 1 0 0)],[(1,some ⟨44,6,[spC (m,m).1 (m,m).2]⟩)],2,61⟩;have:=jp k;exact s_t [];have h11:¬sg=0:=by simpa using h10
  refine r_z 2 ?_;refine aq rfl (fun h12=>?_) (fun h12=>?_);have h13:sg=1:=by simpa using h12
  refine ac (r_d hmix 6 ?_);refine c_s (fz m step (sm2 z1 z3)) ?_;refine a_2 ?_;refine an (n_k ?_);refine aj (⟨rfl,(),rfl,?_⟩);rw[if_neg h11,if_pos h13];show SEntT _ ⟨[(1006,.lptr 1 0 0)],[(1,some ⟨44,6,[spC (m,m+step).1 (m,m+step).2]⟩)],2,61⟩;have:=jp k;exact s_t [];have h13:¬sg=1:=by simpa using h12
  refine ak (ac (r_d hmix 6 ?_));refine c_s (iP m step (sm2 z1 z3)) ?_;refine a_3 ?_;refine an (n_k ?_);refine aj (⟨rfl,(),rfl,?_⟩);rw[if_neg h11,if_neg h13];show SEntT _ ⟨[(1006,.lptr 1 0 0)],[(1,some ⟨44,6,[spC (m- step,m).1 (m- step,m).2]⟩)],2,61⟩;have:=jp k;exact s_t []
 intro j hj hT;cases hT;rintro e u rfl;exact Fin.cell rfl rfl rfl TG.h TS.h (nle rfl) (ah aB (bq _ _))


def yr(t:Rat→Bool):Lq→Int→Int
 |[],_=> -1
 |a::l,i=>if t a then i else yr t l (i+1)
theorem yq(t:Rat→Bool):∀(l:Lq) (i:Int),0≤i→(decide (0≤yr t l i))=l.any t
 |[],i,_=>by simp[yr]
 |a::l,i,hi=>by
  unfold yr;cases h:t a with
  |true=>simp[h,hi]
  |false=>simp[h];rw[←yq t l (i+1) (by omega)]
def ixS(l:Lq)(g:Nat)(cap:La):Nat→AState
 |i=>⟨[(0,.arr (pE l)),(1,.clos g [] cap),(7,i64 l.length),(8,i64 i)],[],1,19⟩
theorem wK(l:Lq)(g:Nat)(cap:La)(t:Rat→Bool)(hcap:∀c∈cap,Closed c)(hl:l.length≤1099511627776)(hg:∀q∈l,FS g ((.agg (qC q)::cap).map coe) (bln (t q))):FS 185 [.arr (pE l),.clos g [] cap] (i64 (yr t l 0)):=by
 have hcc:Closed (.clos g [] cap):=aV ai hcap;refine f_c Tryz.func185 ?_;obtain⟨R,hR⟩:∃R,R=yr t l 0:=⟨_,rfl⟩;rw[←hR];refine r_z 1 ?_;refine ac (r_z 3 ?_);refine aI (fun _:Unit=>⟨[],[],1,19⟩) (fun _=>R= -1) ?_ ?_;refine am (aC (ixS l g cap) (fun i=>l.length- i) (fun i=>i≤l.length∧yr t (l.drop i) i=R) 0 ⟨Nat.zero_le _,by rw[hR];rfl⟩ ?_ ?_);simp only[ixS.eq_1];exact s_f [];rintro i ⟨hi,hr⟩;rw[ixS.eq_1];refine r_z 1 ?_;refine ac (aq rfl (fun h=>?_) (fun h=>?_));refine ak ?_;have hlt:i< l.length:=by simpa using h
 have hgt:(pE l)[((i:Nat):Int).toNat]?=some (qC (coP l i)):=b7 (bv hlt);rw[gL hlt,yr] at hr;refine ac (am (r_z 2 ?_));refine s_r 6 ?_;refine a_3 ?_;refine i_x hgt ?_;refine l_x hgt ?_;refine c_s (hg (coP l i) (List.mem_of_getElem? (bv hlt))) ?_;refine an ?_;refine aq rfl (fun h1=>?_) (fun h1=>?_);have h2:t (coP l i)=true:=h1;rw[if_pos h2] at hr;refine r_z 2 ?_;refine aj (aN rfl ?_ ?_);rw[←hr];exact ag _;have h2:¬t (coP l i)=true:=by rw[show t (coP l i)=false from h1];decide
 rw[if_neg h2] at hr;refine ak (r_m 2 ?_);refine a_z ?_;refine⟨i+1,by omega,⟨hlt,hr⟩,?_⟩;simp only[ixS.eq_1];exact s_f []
 have hge:i=l.length:=by
  have:¬i< l.length:=by simpa using h
  omega
 subst hge;rw[List.drop_length] at hr;refine aA ⟨(),hr.symm,?_⟩;exact s_e [];rintro _ hr;refine r_z 1 ?_;refine aj (aN rfl ?_ ?_);rw[hr];rfl;exact ag _
theorem lQ(l:Lq)(g:Nat)(cap:La)(t:Rat→Bool)(hcap:∀c∈cap,Closed c)(hl:l.length≤1099511627776)(hg:∀q∈l,FS g ((.agg (qC q)::cap).map coe) (bln (t q)))(hcap2:cap.map coe=cap):FS 136 [.arr (pE l),.clos g [] cap] (bln (l.any t)):=by
 have hcc:Closed (.clos g [] cap):=aV ai hcap;have e:=yq t l 0 (Int.le_refl 0);refine f_c Tryz.func136 ?_;refine r_z 1 ?_;refine r_c 5 (wK l g cap t hcap hl hg) ?_;refine a_z ?_;refine aj (aN rfl ?_ ?_);rw[←e];rfl;exact ag _
theorem ru(a b:Rat)(ha:sm a)(hb:sm b):FS 186 [.agg (qC b),bQ a] (bln (decide (a=b))):=by
 have e:(cZ a b==(0:Int))=decide (a=b):=by
  unfold cZ;by_cases h:a=b;subst h;simp[Rat.lt_irrefl];by_cases h1:a< b;simp[h,h1];simp[h,h1]
 refine f_c Tryz.func186 ?_;refine r_z 2 ?_;refine r_c 5 (dW a b ha hb) ?_;refine a_z ?_;refine aj (aN rfl ?_ ?_);rw[←e];rfl;exact ag _
abbrev dC(d:Dt):La:=[.arr (pE d.X),.arr (pE d.Y),.arr (pE d.W)]
theorem cN(d:Dt):∀c∈dC d,Closed c:=ae (ap _) (ae (ap _) (ae (ap _) ai))
theorem eqI{a b:Int}(h:a=b):(a==b)=true:=by simp[h]
theorem neI{a b:Int}(h:a≠b):(a==b)=false:=by simpa using h
theorem sg_lt0{q:Rat}:sgZ q.num< (0:Int)↔q< 0:=kX
theorem iz(a b:Rat)(hb:b≠0)(h:qs a+qs b≤549755813888):FS 40 [.agg (qC a),.agg (qC b)] (.agg (qC (a/ b))):=by
 refine f_c Tryz.func40 ?_;refine r_z 3 ?_;refine r_c 9 (A2 a b hb h) ?_;refine a_z ?_;refine r_z 2 ?_;exact aj (c_e (aO _))
theorem DD(h:Rat):FS 143 [.agg (qC h)] (i64 (sgO h)):=by
 refine f_c Tryz.func143 ?_;refine r_z 2 ?_;by_cases g:h< 0;rw[show sgO h= -1 from if_pos g];refine ac (r_c 3 (bY h) ?_);refine o_0 (.bin rfl rfl (vT cw (decide_eq_true (sg_lt0.2 g)))) ?_;refine an ?_;refine cT (r_z 1 ?_);exact aj (t_e (ag _));rw[show sgO h=1 from if_neg g];refine ac (r_c 3 (bY h) ?_);refine o_0 (.bin rfl rfl (vF cw (decide_eq_false (mt sg_lt0.1 g)))) ?_;refine an ?_;refine cF (ak (r_z 1 ?_));exact aj (t_e (ag _))
theorem vc(d:Dt)(i:Nat)(h:d.W.length=0∨i< d.W.length):FS 188 [.agg (dC d),i64 i] (.agg (qC (wtD d i))):=by
 refine f_n Tryz.func188 ?_ ?_;exact ae (aG (cN d)) (ae (ag _) ai);have hl:(pE d.W).length=d.W.length:=by simp[pE]
 refine r_z 2 ?_;by_cases g:d.W.length=0;rw[show wtD d i=((1:Int):Rat) from if_pos g];have h1:=da 1 (by decide);refine ac (s_r 4 ?_);refine a_3 ?_;refine o_0 (.bin rfl rfl (vT aJ (eqI (by omega)))) ?_;refine an ?_;refine cT (r_c 2 (h1) ?_);refine a_z ?_;exact aj (c_e (aO _));rw[show wtD d i=coP d.W i from if_neg g];have hi:i< d.W.length:=h.resolve_left g;have hgt:(pE d.W)[((i:Nat):Int).toNat]?=some (qC (coP d.W i)):=b7 (bv hi);refine ac (s_r 4 ?_);refine a_3 ?_;refine o_0 (.bin rfl rfl (vF aJ (neI (by omega)))) ?_;refine an ?_;refine cF (ak (s_r 6 ?_));refine a_3 ?_;refine i_x hgt ?_;refine l_x hgt ?_;refine a_z ?_;exact aj (c_e (aO _))
theorem wF(d:Dt)(p:Lq)(i:Nat)(hy:d.Y.length=d.X.length)(hw:d.W.length=0∨d.W.length=d.X.length)(h:okMs d p i):FS 140 [.agg (dC d),.arr (pE p),i64 i] (.agg (qC (msD d p i))):=by
 obtain⟨h1,h2,h3,h4,h5,h6,h7⟩:=h;have hwt:=vc d i (hw.imp id fun e=>by omega);have hev:=e8 p (coP d.X i) h4;have hsu:=iP (coP d.Y i) (aF p (coP d.X i)) (h3.two h5);have hmu:=dx (wtD d i) (coP d.Y i- aF p (coP d.X i)) (h2.two h6);have hgx:(pE d.X)[((i:Nat):Int).toNat]?=some (qC (coP d.X i)):=b7 (bv h1);have hgy:(pE d.Y)[((i:Nat):Int).toNat]?=some (qC (coP d.Y i)):=b7 (bv (by omega));refine f_n Tryz.func140 ?_ ?_;exact ae (aG (cN d)) (ae (ap p) (ae (ag _) ai));refine r_z 2 ?_;refine ac (r_d hmix 18 ?_);refine c_s (hwt) ?_;refine a_3 ?_;refine i_x hgy ?_;refine l_x hgy ?_;refine a_4 ?_;refine i_x hgx ?_;refine l_x hgx ?_;refine c_s (hev) ?_;refine c_s (hsu) ?_;refine c_s (hmu) ?_;refine a_1 ?_;refine an (n_k ?_);exact aj (c_e (aO _))
theorem CH{f:Nat→Rat}{n:Nat}(hs:∀i,i< n→sm (f i)):∀i,i≤n→sm (oZ f i).2
 |0,_=>(by decide:sm 0)
 |i+1,hi=>by
  rw[oZ];split;exact hs i (by omega);exact CH hs i (by omega)
theorem wz(f:Nat→Rat):∀n,0< n→(oZ f n).1< n
 |0,h=>by omega
 |n+1,_=>by
  rw[oZ];split;exact Nat.lt_succ_self n
  ·rename_i hh
   have:n≠0:=fun e=>hh (.inl e);have:=wz f n (by omega);omega
def grS(l:Lq)(g:Nat)(cap:La):Nat×Nat×Rat→AState
 |(i,x)=>⟨[(1,.clos g [] cap),(5,i64 x.1),(6,.lptr 1 0 0),(11,i64 l.length),(12,i64 i)],[(1,some ⟨42,3,[qC x.2]⟩)],2,30⟩
theorem yJ(l:Lq)(g:Nat)(cap:La)(f:Nat→Rat)(hcap:∀c∈cap,Closed c)(hl:l.length≤1099511627776)(hs:∀i,i< l.length→sm (f i))(hg:∀i:Nat,i< l.length→FS g ((i64 i::cap).map coe) (.agg (qC (f i)))):
    FS 189 [.arr (pE l),.clos g [] cap] (i64 ((oZ f l.length).1:Nat)):=by
 have hcc:Closed (.clos g [] cap):=aV ai hcap;have hll:(pE l).length=l.length:=by simp[pE]
 refine f_c Tryz.func189 ?_;refine r_z 1 ?_;refine r_z 4 ?_;refine ac (r_z 3 ?_);refine aI (fun _:Unit=>⟨[(5,i64 ((oZ f l.length).1:Nat))],[],2,30⟩) (fun _=>True) ?_ ?_;refine am (aC (fun i:Nat=>grS l g cap (i,oZ f i)) (fun i=>l.length- i) (fun i=>i≤l.length) 0 (Nat.zero_le _) ?_ ?_);simp only[grS.eq_1,oZ];rw[qC0];refine s_x [(1,6)] (fun hs=>?_) (fun hs=>?_)
 ·repeat' (first|exact aH|refine ao rfl ?_ ?_|exact ah hs hcc|exact aY)
 ·repeat' (first|exact aD|refine h_c ?_ ?_|exact aw (af (Cv.emp _) (af (ah hs (ag _)) (af (Cv.emp _) ax)))|exact bG|refine aw ?_|exact ax|refine af ?_ ?_|exact ah hs hcc|exact aY)
 intro i hi;simp only[grS.eq_1];by_cases hlt:i< l.length
 ·refine q_z 1 ?_
  refine ac (cT (ak ?_));have hgi:=hg i hlt;refine ac (am (r_z 2 ?_));refine r_c 5 (hgi) ?_;refine a_z ?_;obtain⟨x,hx⟩:∃x,x=oZ f i:=⟨_,rfl⟩;have hsx:sm x.2:=by rw[hx];exact CH hs i (by omega)
  have hcm:=dW (f i) x.2 (hs i hlt) hsx;rw[←hx];have next:∀y,y=(if i=0∨x.2< f i then(i,f i) else x)→y=oZ f (i+1):=fun y hy=>by rw[hy,oZ,←hx]
  by_cases h0:i=0
  ·have hn:=next (i,f i) (by rw[if_pos (.inl h0)])
   refine s_r 8 ?_;refine a_1 ?_;refine o_0 (.bin rfl rfl (vT aJ (eqI (by omega)))) ?_;refine d_z ?_;refine cT (r_d hmix 4 ?_);refine a_4 ?_;refine an (n_k ?_);refine r_m 2 ?_;refine a_z ?_;refine⟨i+1,by omega,by omega,?_⟩;simp only[grS.eq_1];rw[←hn];exact s_f []
  by_cases h1:x.2< f i
  ·have hn:=next (i,f i) (by rw[if_pos (.inr h1)])
   refine s_r 8 ?_;refine a_1 ?_;refine o_0 (.bin rfl rfl (vF aJ (neI (by omega)))) ?_;refine e_s (hcm) ?_;refine aE rfl rfl rfl (.bin rfl rfl (vT cS (decide_eq_true (cq_gt.2 h1)))) rfl rfl ?_;refine a_z ?_;refine cT (r_d hmix 4 ?_);refine a_4 ?_;refine an (n_k ?_);refine r_m 2 ?_;refine a_z ?_;refine⟨i+1,by omega,by omega,?_⟩;simp only[grS.eq_1];rw[←hn];exact s_f []
  ·have hn:=next x (by rw[if_neg (fun e=>e.elim h0 h1)])
   refine s_r 8 ?_;refine a_1 ?_;refine o_0 (.bin rfl rfl (vF aJ (neI (by omega)))) ?_;refine e_s (hcm) ?_;refine aE rfl rfl rfl (.bin rfl rfl (vF cS (decide_eq_false (mt cq_gt.1 h1)))) rfl rfl ?_;refine a_z ?_;refine cF (ak (r_m 2 ?_));refine a_z ?_;refine⟨i+1,by omega,by omega,?_⟩;simp only[grS.eq_1];rw[←hn];exact s_f []
 have hge:i=l.length:=by omega
 subst hge;refine q_z 1 ?_;refine ac (cF (aA ⟨(),trivial,?_⟩));exact s_e [];rintro _ _;refine r_z 2 ?_;exact aj (t_e (ag _))
abbrev bD(d:Dt):AV:= .aptr [dC d] 0 0
theorem bC(d:Dt):Closed (bD d):=ba (cN d)
theorem DA(d:Dt)(p:Lq)(i:Nat)(hy:d.Y.length=d.X.length)(hw:d.W.length=0∨d.W.length=d.X.length)(h:okMs d p i):FS 190 [i64 i,bD d,bP p] (.agg (qC (cj (msD d p i)))):=by
 have hm:=wF d p i hy hw h;have ha:=eY (msD d p i);refine f_n Tryz.func190 ?_ ?_;exact ae (ag _) (ae (bC d) (ae (cu p) ai));refine r_z 1 ?_;refine r_c 6 (hm) ?_;refine c_s (ha) ?_;refine a_z ?_;exact aj (c_e (aO _))
theorem qs_abs(q:Rat):qs (cj q)=qs q:=by
 rw[rX];split;exact fX q;rfl
theorem yw(d:Dt)(p:Lq)(h:EU d p):FS 139 [.agg (dC d),.arr (pE p)] (i64 (woD d p:Nat)):=by
 obtain⟨h0,hy,hw,hm⟩:=h;have hg:=yJ d.X 190 [bD d,bP p] (fun i=>cj (msD d p i)) (ae (bC d) (ae (cu p) ai)) (by omega) (fun i hi=>by have:=(hm i hi).2.2.2.2.2.2.sm;unfold sm at *;rw[qs_abs];exact this) (fun i hi=>DA d p i hy hw (hm i hi));refine f_n Tryz.func139 ?_ ?_;exact ae (aG (cN d)) (ae (ap p) ai);refine r_z 3 ?_;refine AWp.ent (st':=⟨[(2,bD d),(3,bP p)],[],1,9⟩) ?_ ?_;refine s_x [] (fun hs=>?_) (fun hs=>?_)
 ·repeat' (first|exact aH|refine ao rfl ?_ ?_|exact Cv.boxp hs rfl (aP rfl) rfl (cN d)|exact Cv.boxp hs rfl (aP rfl) rfl (ae (ap _) ai)|exact aY)
 ·repeat' (first|exact aD|refine h_c ?_ ?_|exact bG|refine aw ?_|exact ax|refine af ?_ ?_|exact Cv.boxp hs rfl (aP rfl) rfl (cN d)|exact Cv.boxp hs rfl (aP rfl) rfl (ae (ap _) ai)|exact aY)
 refine r_c 5 (hg) ?_;refine a_z ?_;exact aj (t_e (ag _))
def riS(l:Lq):Nat→AState
 |i=>⟨[(0,.arr (pE l)),(3,i64 i)],[],1,21⟩
theorem vd(l:Lq)(hs:smL l)(hl:l.length≤1099511627776):FS 102 [.arr (pE l)] (bln (vZ l)):=by
 have hll:(pE l).length=l.length:=by simp[pE]
 refine f_c Tryz.func102 ?_;refine r_z 1 ?_;refine ac (r_z 1 ?_);refine aI (fun _:Unit=>⟨[],[],1,21⟩) (fun _=>vZ l=true) ?_ ?_;refine am (aC (riS l) (fun i=>l.length- i) (fun i=>1≤i∧(i≤l.length∨i=1)∧∀j,j+1< i→coP l j< coP l (j+1)) 1 ⟨Nat.le_refl _,.inr rfl,fun j hj=>by omega⟩ ?_ ?_);simp only[riS.eq_1];exact s_e [];rintro i ⟨h1,h2,h3⟩;rw[riS.eq_1];by_cases hlt:i< l.length;obtain⟨k,rfl⟩:∃k,i=k+1:=⟨i- 1,by omega⟩;refine ac (q_z 4 ?_);refine cT (ak ?_);have hg1:∀e:Nat,e=k→(pE l)[e]?=some (qC (coP l k)):=fun e he=>by rw[he];exact b7 (bv (by omega))
 have hg2:∀e:Nat,e=k+1→(pE l)[e]?=some (qC (coP l (k+1))):=fun e he=>by rw[he];exact b7 (bv hlt)
 have hcm:=dW (coP l k) (coP l (k+1)) (iS hs k) (iS hs (k+1));refine ac (am ?_);by_cases hc:coP l k< coP l (k+1);refine ac (r_d hmix 11 ?_);refine a_3 ?_
 first|refine ay (.index_l rfl rfl (by omega) (by omega) te_29.h) rfl rfl ?_|refine ay (.index_a rfl rfl (by omega) (hg1 _ (by omega)) rfl te_29.h) rfl rfl ?_
 first|refine ay (.load_l rfl rfl (hg1 _ (by omega)) TG.h TS.h (nle rfl)) rfl rfl ?_|refine ay (.load_a rfl (hg1 _ (by omega)) TG.h TS.h (nle rfl)) rfl rfl ?_
 refine a_2 ?_
 first|refine ay (.index_l rfl rfl (by omega) (by omega) te_29.h) rfl rfl ?_|refine ay (.index_a rfl rfl (by omega) (hg2 _ (by omega)) rfl te_29.h) rfl rfl ?_
 first|refine ay (.load_l rfl rfl (hg2 _ (by omega)) TG.h TS.h (nle rfl)) rfl rfl ?_|refine ay (.load_a rfl (hg2 _ (by omega)) TG.h TS.h (nle rfl)) rfl rfl ?_
 refine c_s (hcm) ?_;refine o_0 (.bin rfl rfl (vF ei (decide_eq_false (fun e=>by have:=cq_lt.2 hc;omega)))) ?_;refine an (n_k ?_);refine cF (ak (r_m 3 ?_));refine a_z ?_;refine⟨k+1+1,by omega,⟨by omega,.inl hlt,fun j hj=>?_⟩,?_⟩;by_cases e:j=k;subst e;exact hc;exact h3 j (by omega);simp only[riS.eq_1];exact s_e [];refine ac (r_d hmix 11 ?_);refine a_3 ?_
 first|refine ay (.index_l rfl rfl (by omega) (by omega) te_29.h) rfl rfl ?_|refine ay (.index_a rfl rfl (by omega) (hg1 _ (by omega)) rfl te_29.h) rfl rfl ?_
 first|refine ay (.load_l rfl rfl (hg1 _ (by omega)) TG.h TS.h (nle rfl)) rfl rfl ?_|refine ay (.load_a rfl (hg1 _ (by omega)) TG.h TS.h (nle rfl)) rfl rfl ?_
 refine a_2 ?_
 first|refine ay (.index_l rfl rfl (by omega) (by omega) te_29.h) rfl rfl ?_|refine ay (.index_a rfl rfl (by omega) (hg2 _ (by omega)) rfl te_29.h) rfl rfl ?_
 first|refine ay (.load_l rfl rfl (hg2 _ (by omega)) TG.h TS.h (nle rfl)) rfl rfl ?_|refine ay (.load_a rfl (hg2 _ (by omega)) TG.h TS.h (nle rfl)) rfl rfl ?_
 refine c_s (hcm) ?_;refine o_0 (.bin rfl rfl (vT ei (decide_eq_true (by have:=mt cq_lt.1 hc;omega)))) ?_;refine an (n_k ?_);refine cT (r_z 1 ?_);refine aj (aN rfl ?_ ?_);have:¬vZ l=true:=fun e=>hc (risB_iff.1 e k hlt);rw[Bool.not_eq_true] at this;rw[this];rfl;exact ag _;refine ac (q_z 4 ?_);refine cF (aA ⟨(),risB_iff.2 fun j hj=>h3 j (by omega),?_⟩);exact s_e [];rintro _ hr;rw[hr];refine r_z 1 ?_;exact aj (t_e (ag _))
theorem fs_low(w:Rat):FS 135 [.agg (qC w)] (bln (decide (w≤0))):=by
 have e:decide (sgZ w.num≤(0:Int))=decide (w≤0):=by
  have h:=sD (q:=w);by_cases g:w≤0;rw[decide_eq_true g,decide_eq_true];have:¬0< sgZ w.num:=fun e=>by have:=h.1 e;grind
  omega;rw[decide_eq_false g,decide_eq_false];have:0< sgZ w.num:=h.2 (by grind);omega
 refine f_c Tryz.func135 ?_;refine r_z 2 ?_;refine r_c 4 (bY w) ?_;refine a_z ?_;refine aj (aN rfl ?_ ?_);rw[←e];rfl;exact ag _
def nE(L:Ln):Lc:=L.map fun(k:Nat)=>[i64 (k:Int)]
@[simp] theorem jk (L:Ln):(nE L).length=L.length:=by simp[nE]
theorem dp(L:Ln):∀e∈nE L,∀c∈e,Closed c:=fun e he=>by
 obtain⟨k,_,rfl⟩:=List.mem_map.1 he;exact ae (ag _) ai
theorem ce(L:Ln):Closed (.arr (nE L)):=aR (dp L)
theorem lh{L:Ln}{k e:Nat}(h:k< L.length)(he:e=k):(nE L)[e]?=some [i64 (L.getD k 0:Nat)]:=by
 subst he;rw[nE,List.getElem?_map,List.getElem?_eq_getElem h,List.getD_eq_getElem?_getD,List.getElem?_eq_getElem h];rfl
theorem tf(L:Ln):(nE L).all (·.all AV.one)=true:=by
 simp only[nE,List.all_map,List.all_eq_true];intro q _;rfl
theorem wm(L:Ln):∀e∈nE L,e.length=1:=fun e he=>by
 obtain⟨k,_,rfl⟩:=List.mem_map.1 he;rfl
theorem nE_take(L:Ln)(k:Nat):(nE L).take k=nE (L.take k):=by simp[nE,List.map_take]
theorem nE_drop(L:Ln)(k:Nat):(nE L).drop k=nE (L.drop k):=by simp[nE,List.map_drop]
theorem pY(L M:Ln):nE (L++M)=nE L++nE M:=by simp[nE]
theorem E3(L:Ln)(k x e:Nat)(he:e=k):(nE L).set e [i64 (x:Int)]=nE (L.set k x):=by
 subst he;simp[nE,List.map_set]
theorem Dj(L:Ln)(h0:L≠[])(hl:L.length≤1000000):OSpec Tryz.prog 193 [.arr (nE L)] 3 1 (nE L):=by
 have hne:nE L≠[]:=by
  intro e;exact h0 (List.length_eq_zero_iff.1 (by rw[←jk,e];rfl))
 have hll:(nE L).length=L.length:=jk L;have hon:=tf L;refine OSpec.enter Tryz.func193 rfl (by kernel_rfl) rfl rfl rfl ?_ ?_ rfl ?_;exact ae (ce L) ai;exact dp L;refine r_z 1 ?_;refine ac (s_r 2 ?_);refine a_1 ?_
 first|refine ay (.nilq_v rfl rfl te_45.h) rfl rfl ?_|refine ay (.nilq_arr rfl (hne) rfl te_45.h) rfl rfl ?_
 refine an ?_;refine cF ?_
 ·refine ak (s_r 4 ?_)
  refine a_2 ?_;refine o_2 (.append_l rfl rfl rfl te_45.h rfl rfl rfl rfl rfl d_o (by first|exact eI _|exact eF _|exact ec _|exact eN _|exact eo _|assumption|rfl|simp) (by first|rfl|exact eI _|exact eF _|exact ec _|exact eN _|exact eo _|simp) rfl (.arr (wm _)) TZ.h rfl TB.h d_o (by first|(simp[maxLen];done)|(simp[maxLen];omega))) ?_;refine a_z ?_;exact aj (FinO.tmp rfl rfl rfl (by simp))
theorem xn(t:Nat→Bool):∀(f i j:Nat),i≤j→i≤bsM t f i j∧bsM t f i j≤j
 |0,i,j,h=>⟨Nat.le_refl _,h⟩
 |f+1,i,j,h=>by
  rw[bsM];by_cases hlt:i< j;rw[if_pos hlt];split;have:=xn t f ((i+j) / 2+1) j (by omega);omega;have:=xn t f i ((i+j) / 2) (by omega);omega;rw[if_neg hlt];omega
def bsS(L:Ln)(x g:Nat):Nat×Nat→AState
 |(i,j)=>⟨[(0,.arr (nE L)),(1,i64 x),(2,.clos g [] []),(8,i64 L.length),(9,i64 i),(10,i64 j)],[],1,49⟩
theorem Bb(L:Ln)(x g:Nat)(hl:L.length≤1000000)(hL:∀a∈L,a≤1000000)(hx:x≤1000000)(hg:∀a:Nat,a≤1000000→FS g [i64 a,i64 x] (i64 ((a:Int)- (x:Int)))):
    FS 191 [.arr (nE L),i64 x,.clos g [] []] (.tup [i64 (bsL L x:Nat),bln (decide (bsL L x< L.length) && decide (L.getD (bsL L x) 0=x))]):=by
 have hll:(nE L).length=L.length:=jk L;have hcc:Closed (.clos g [] []):=aV ai ai;obtain⟨R,hR⟩:∃R,R=bsL L x:=⟨_,rfl⟩;have hRle:R≤L.length:=by rw[hR];exact(xn _ _ 0 L.length (Nat.zero_le _)).2
 rw[←hR]
 have hgd:∀k,L.getD k 0≤1000000:=fun k=>by
  rw[List.getD_eq_getElem?_getD];cases h:L[k]? with
  |none=>decide
  |some v=>exact hL v (List.mem_of_getElem? h)
 refine f_n Tryz.func191 ?_ ?_;exact ae (ce L) (ae (ag _) (ae hcc ai));refine r_z 2 ?_;refine r_z 3 ?_;refine r_z 3 ?_;refine aU (fun _:Unit=>⟨[(0,.arr (nE L)),(1,i64 x),(2,.clos g [] []),(8,i64 L.length),(9,i64 R)],[],1,49⟩) (fun _=>True) ?_ ?_;refine am (aC (fun p:Nat×Nat=>bsS L x g p) (fun p=>p.2- p.1) (fun p=>p.1≤p.2∧p.2≤L.length∧∃f,p.2- p.1≤f∧bsM (fun h=>decide (L.getD h 0< x)) f p.1 p.2=R) (0,L.length) ⟨Nat.zero_le _,Nat.le_refl _,L.length,by simp,by rw[hR];rfl⟩ ?_ ?_);simp only[bsS.eq_1];exact s_x [] (fun hs=>e_9) (fun hs=>e_10);rintro⟨i,j⟩ ⟨h1,h2,f,h3,h4⟩;simp only at h1 h2 h3 h4;rw[bsS.eq_1];by_cases hlt:i< j;refine ac (q_z 3 ?_);refine cT (ak ?_);obtain⟨f,rfl⟩:∃f',f=f'+1:=⟨f- 1,by omega⟩;rw[bsM,if_pos hlt] at h4;obtain⟨m,hm⟩:∃m,m=(i+j) / 2:=⟨_,rfl⟩;rw[←hm] at h4;have hmj:m< j:=by omega
 have hge:∀e:Nat,e=m→(nE L)[e]?=some [i64 (L.getD m 0:Nat)]:=fun e he=>lh (by omega) he;have hgm:=hg (L.getD m 0) (hgd m);refine am (s_r 7 ?_);refine a_4 ?_;refine o_0 (.bin rfl rfl (D2 (by omega))) ?_;refine a_z ?_;rw[show(((i:Nat):Int)+((j:Nat):Int)) / 2=((m:Nat):Int) by omega];have hd1:=hgd m;by_cases hc:L.getD m 0< x;rw[if_pos (decide_eq_true hc)] at h4;refine s_r 8 ?_;refine a_3 ?_
 first|refine ay (.index_l rfl rfl (by omega) (by omega) te_45.h) rfl rfl ?_|refine ay (.index_a rfl rfl (by omega) (hge _ (by omega)) rfl te_45.h) rfl rfl ?_
 first|refine ay (.load_l1 rfl rfl (hge _ (by omega)) TG.h rfl) rfl rfl ?_|refine ay (.load_a1 rfl (hge _ (by omega)) TG.h rfl) rfl rfl ?_
 refine c_s (hgm) ?_;refine d_z ?_;refine cT (r_m 3 ?_);refine a_z ?_;refine⟨(m+1,j),by simp only;omega,⟨by simp only;omega,h2,f,by simp only;omega,h4⟩,?_⟩;rw[bsS.eq_1];exact s_x [] (fun hs=>e_9) (fun hs=>e_10);rw[if_neg (by simpa using hc)] at h4;refine s_r 8 ?_;refine a_3 ?_
 first|refine ay (.index_l rfl rfl (by omega) (by omega) te_45.h) rfl rfl ?_|refine ay (.index_a rfl rfl (by omega) (hge _ (by omega)) rfl te_45.h) rfl rfl ?_
 first|refine ay (.load_l1 rfl rfl (hge _ (by omega)) TG.h rfl) rfl rfl ?_|refine ay (.load_a1 rfl (hge _ (by omega)) TG.h rfl) rfl rfl ?_
 refine c_s (hgm) ?_;refine d_z ?_;refine cF (r_m 2 ?_);refine a_z ?_;refine⟨(i,m),by simp only;omega,⟨by simp only;omega,by simp only;omega,f,by simp only;omega,h4⟩,?_⟩;rw[bsS.eq_1];exact s_x [] (fun hs=>e_9) (fun hs=>e_10)
 have hge:i=R:=by
  rw[←h4];cases f with
  |zero=>rfl
  |succ f=>rw[bsM,if_neg hlt]
 subst hge;refine ac (q_z 3 ?_);refine cF (aA ⟨(),trivial,?_⟩);exact s_x [] (fun hs=>e_9) (fun hs=>e_10);rintro _ _;by_cases hlt:R< L.length;have hge:∀e:Nat,e=R→(nE L)[e]?=some [i64 (L.getD R 0:Nat)]:=fun e he=>lh hlt he;have hgm:=hg (L.getD R 0) (hgd R);have hd1:=hgd R;rw[decide_eq_true hlt,Bool.true_and];by_cases hc:L.getD R 0=x;refine s_r 16 ?_;refine d_8 ?_
 first|refine aE rfl rfl rfl (.index_l rfl rfl (by omega) (by omega) te_45.h) rfl rfl ?_|refine aE rfl rfl rfl (.index_a rfl rfl (by omega) (hge _ (by omega)) rfl te_45.h) rfl rfl ?_
 first|refine aE rfl rfl rfl (.load_l1 rfl rfl (hge _ (by omega)) TG.h rfl) rfl rfl ?_|refine aE rfl rfl rfl (.load_a1 rfl (hge _ (by omega)) TG.h rfl) rfl rfl ?_
 refine e_s (hgm) ?_;refine aE rfl rfl rfl (.bin rfl rfl (vT aJ (eqI (by omega)))) rfl rfl ?_;refine a_z ?_;refine aj ?_;rw[decide_eq_true hc];refine Fin.many ⟨_,_,rfl,rfl,⟨_,_,rfl,rfl,rfl⟩⟩ (nle rfl) ?_;exact af (ah aB (ag _)) (af (ah aB (ag _)) ax);refine s_r 16 ?_;refine d_8 ?_
 first|refine aE rfl rfl rfl (.index_l rfl rfl (by omega) (by omega) te_45.h) rfl rfl ?_|refine aE rfl rfl rfl (.index_a rfl rfl (by omega) (hge _ (by omega)) rfl te_45.h) rfl rfl ?_
 first|refine aE rfl rfl rfl (.load_l1 rfl rfl (hge _ (by omega)) TG.h rfl) rfl rfl ?_|refine aE rfl rfl rfl (.load_a1 rfl (hge _ (by omega)) TG.h rfl) rfl rfl ?_
 refine e_s (hgm) ?_;refine aE rfl rfl rfl (.bin rfl rfl (vF aJ (neI (by omega)))) rfl rfl ?_;refine a_z ?_;refine aj ?_;rw[decide_eq_false hc];refine Fin.many ⟨_,_,rfl,rfl,⟨_,_,rfl,rfl,rfl⟩⟩ (nle rfl) ?_;exact af (ah aB (ag _)) (af (ah aB (ag _)) ax);refine q_z 16 ?_;refine aj ?_;rw[decide_eq_false hlt,Bool.false_and];refine Fin.many ⟨_,_,rfl,rfl,⟨_,_,rfl,rfl,rfl⟩⟩ (nle rfl) ?_;exact af (ah aB (ag _)) (af (ah aB (ag _)) ax)
theorem Fq(a b:Nat)(ha:a≤1000000)(hb:b≤1000000):FS 142 [i64 a,i64 b] (i64 ((a:Int)- (b:Int))):=by
 refine f_c Tryz.func142 ?_;refine r_z 1 ?_;refine r_z 4 ?_;exact aj (t_e (ag _))
abbrev bS1(sg:Int):AV:= .aptr [[i64 sg]] 0 0
theorem bJ(sg:Int):Closed (bS1 sg):=ba (ae (ag _) ai)
theorem wA(k:Nat)(sg:Int)(hs: -1≤sg∧sg≤1)(hk:k≤1000000):FS 192 [i64 k,bS1 sg] (i64 (sdE sg k)):=by
 refine f_n Tryz.func192 ?_ ?_;exact ae (ag _) (ae (bJ sg) ai);refine r_z 1 ?_;by_cases h1:k % 2=1;rw[show sdE sg k= -sg from if_pos h1];refine ac (s_r 3 ?_);refine a_2 ?_;refine o_0 (.bin rfl rfl (vT aJ (eqI (by omega)))) ?_;refine an ?_;refine cT (r_z 3 ?_);exact aj (t_e (ag _));rw[show sdE sg k=sg from if_neg h1];refine ac (s_r 3 ?_);refine a_2 ?_;refine o_0 (.bin rfl rfl (vF aJ (neI (by omega)))) ?_;refine an ?_;refine cF (ak (r_z 2 ?_));exact aj (t_e (ag _))
def exS(u:Unit):Ln→AState
 |L=>⟨[(14,.lsl 1 0 L.length none 1)],[(1,some ⟨3,1,nE L⟩)],2,85⟩
theorem yL(L:Ln)(x:Nat)(sg own:Int)(hl:2≤L.length∧L.length≤1000)(hL:∀a∈L,a≤1000000)(hx:x≤1000000)(hs: -1≤sg∧sg≤1):
    FS 141 [.arr (nE L),i64 x,.clos 142 [] [],i64 sg,i64 own] (.arr (nE (exM L x sg own))):=by
 have hll:(nE L).length=L.length:=jk L;have hon:=tf L;have hcc:Closed (.clos 142 [] []):=aV ai ai;have hbs:=Bb L x 142 (by omega) hL hx fun a ha=>Fq a x ha hx;obtain⟨i,hi⟩:∃i,i=bsL L x:=⟨_,rfl⟩;have hile:i≤L.length:=by rw[hi];exact(xn _ _ 0 L.length (Nat.zero_le _)).2
 rw[←hi] at hbs;obtain⟨l,hll2⟩:∃l,L.length=l+1:=⟨L.length- 1,by omega⟩;have hcl:=Dj L (by intro e;rw[e] at hll2;cases hll2) (by omega);have hs0:=wA 0 sg hs (by decide);have hsl:=wA l sg hs (by omega);have hsi:=wA i sg hs (by omega);have hclc:Closed (.clos 192 [] [bS1 sg]):=aV ai (ae (bJ sg) ai);refine f_n Tryz.func141 ?_ ?_;exact ae (ce L) (ae (ag _) (ae hcc (ae (ag _) (ae (ag _) ai))));refine r_z 2 ?_;refine r_c 9 (hbs) ?_;refine a_z ?_;refine AWp.ent (st':=⟨[(0,.arr (nE L)),(1,i64 x),(4,i64 own),(8,bS1 sg),(11,i64 i)],[],1,85⟩) ?_ ?_;refine s_x [] (fun hs=>?_) (fun hs=>?_)
 ·repeat' (first|exact aH|refine ao rfl ?_ ?_|exact ah hs (ce L)|exact Cv.boxp hs rfl (aP rfl) rfl (ae (ag _) ai)|exact aY)
 ·repeat' (first|exact aD|refine h_c ?_ ?_|exact bG|refine aw ?_|exact ax|refine af ?_ ?_|exact ah hs (ce L)|exact Cv.boxp hs rfl (aP rfl) rfl (ae (ag _) ai)|exact aY)
 refine r_z 2 ?_;refine s_r 3 ?_;refine a_1 ?_;refine o_1 (.callO rfl rfl rfl (hcl)) ?_;refine a_z ?_;refine AWp.ent (st':=⟨[(0,.arr (nE L)),(1,i64 x),(4,i64 own),(11,i64 i),(13,.clos 192 [] [bS1 sg]),(14,.lsl 1 0 L.length none 1)],[(1,some ⟨3,1,nE L⟩)],2,85⟩) ?_ ?_;rw[hll];refine s_x [(1,14)] (fun hs=>?_) (fun hs=>?_)
 ·repeat' (first|exact aH|refine ao rfl ?_ ?_|exact ah hs (ce L)|exact ah hs hclc|exact aY)
 ·repeat' (first|exact aD|refine h_c ?_ ?_|exact cU hs (dp L)|exact bG|refine aw ?_|exact ax|refine af ?_ ?_|exact ah hs (ce L)|exact ah hs hclc|exact aY)
 refine ac (r_z 4 ?_);rw[show((L.length:Nat):Int)- 1=((l:Nat):Int) by omega];refine aI (exS ()) (fun M=>M=exM L x sg own) ?_ ?_;refine am ?_;by_cases h0:i=0;by_cases h1:sdE sg 0=own
 have hr:exM L x sg own=L.set i x:=by
  unfold exM;rw[←hi,if_neg (fun e=>e.2 h1),if_neg (fun e=>by have:=e.1;omega),if_pos (.inl h0)]
 refine s_r 9 ?_;refine a_1 ?_;refine o_0 (.bin rfl rfl (vT aJ (eqI (by omega)))) ?_;refine e_s (hs0) ?_;refine m_1 ?_;refine aE rfl rfl rfl (.bin rfl rfl (vF cv ((by rw[h1];simp)))) rfl rfl ?_;refine a_z ?_;refine cF (q_z 11 ?_);refine cF (s_r 15 ?_);refine a_1 ?_;refine o_0 (.bin rfl rfl (vT aJ (eqI (by omega)))) ?_;refine d_z ?_;refine cT ?_;have hgt:=lh (L:=L) (k:=i) (e:=0+((i:Nat):Int).toNat) (by omega) (by omega);refine r_m 5 ?_;refine a_4 ?_;refine fk (.store rfl rfl hgt rfl rfl rfl TS.h (nle rfl)) ?_;refine an ?_;refine⟨L.set i x,hr.symm,?_⟩;rw[exS.eq_1,List.length_set];exact s_x [] (fun hs=>db) (fun hs=>e_28)
 ·have hr:exM L x sg own=x::L.take l:=by
   unfold exM;rw[←hi,if_pos ⟨h0,h1⟩,show L.length- 1=l by omega]
  refine s_r 9 ?_;refine a_1 ?_;refine o_0 (.bin rfl rfl (vT aJ (eqI (by omega)))) ?_;refine e_s (hs0) ?_;refine m_1 ?_;refine aE rfl rfl rfl (.bin rfl rfl (vT cv ((by simpa using h1)))) rfl rfl ?_;refine a_z ?_;refine cT (AWp.ent (st':=⟨[(1,i64 x),(14,.arr (nE L)),(15,i64 l)],[],1,85⟩) ?_ ?_);refine s_x [] (fun hs=>?_) (fun hs=>?_)
  ·repeat' (first|exact aH|refine ao rfl ?_ ?_|(refine Cv.shut hs rfl (aP rfl) (by simp) ?_;exact aM hs (by rw[List.drop_zero];exact List.take_of_length_le (by simp)) (dp _))|exact aY)
  ·repeat' (first|exact aD|refine h_c ?_ ?_|exact bG|refine aw ?_|exact ax|refine af ?_ ?_|(refine Cv.shut hs rfl (aP rfl) (by simp) ?_;exact aM hs (by rw[List.drop_zero];exact List.take_of_length_le (by simp)) (dp _))|exact aY)
  have hc1:[[i64 x]]++nE (L.take l)=nE (x::L.take l):=rfl;have hc2:(nE (L.take l)).length=l:=by rw[jk,List.length_take];omega
  have hon2:=tf (L.take l);refine s_r 7 ?_;refine a_4 ?_;refine o_0 (.sa_hE (h:=l) (nE_take L l) rfl rfl (by omega) (by omega) te_45.h (wm _)) ?_;refine o_2 (.append_l rfl rfl rfl te_45.h rfl rfl rfl rfl rfl d_o (by first|exact eI _|exact eF _|exact ec _|exact eN _|exact eo _|assumption|rfl|simp) (by first|rfl|exact eI _|exact eF _|exact ec _|exact eN _|exact eo _|simp) rfl (.arr (wm _)) TZ.h rfl TB.h d_o (by first|(simp[maxLen];done)|(simp[maxLen];omega))) ?_;refine a_z ?_;refine aj ?_;rw[hr];exact Fin.tmpS rfl rfl rfl (by simp;omega) (dp _)
 by_cases h1:l< i;by_cases h2:sdE sg l=own
 have hr:exM L x sg own=L.set (i- 1) x:=by
  unfold exM;rw[←hi,show L.length- 1=l by omega,if_neg (fun e=>h0 e.1),if_neg (fun e=>e.2 h2),if_neg (fun e=>by rcases e with e|e;exact h0 e;have:=e.1;omega)]
 refine s_r 9 ?_;refine a_1 ?_;refine o_0 (.bin rfl rfl (vF aJ (neI (by omega)))) ?_;refine d_z ?_;refine cF (q_c 11 (hsl) ?_);refine m_1 ?_;refine aE rfl rfl rfl (.bin rfl rfl (vF cv ((by rw[h2];simp)))) rfl rfl ?_;refine a_z ?_;refine cF (s_r 15 ?_);refine a_1 ?_;refine o_0 (.bin rfl rfl (vF aJ (neI (by omega)))) ?_;refine d_z ?_;refine cF ?_;have hgt:=lh (L:=L) (k:=i- 1) (e:=0+(((i:Nat):Int)- 1).toNat) (by omega) (by omega);refine r_m 6 ?_;refine a_5 ?_;refine fk (.store rfl rfl hgt rfl rfl rfl TS.h (nle rfl)) ?_;refine an ?_;refine⟨L.set (i- 1) x,hr.symm,?_⟩;rw[exS.eq_1,List.length_set];exact s_x [] (fun hs=>db) (fun hs=>e_29)
 have hr:exM L x sg own=L.drop 1++[x]:=by
  unfold exM;rw[←hi,show L.length- 1=l by omega,if_neg (fun e=>h0 e.1),if_pos ⟨h1,h2⟩]
 refine s_r 9 ?_;refine a_1 ?_;refine o_0 (.bin rfl rfl (vF aJ (neI (by omega)))) ?_;refine d_z ?_;refine cF (q_c 11 (hsl) ?_);refine m_1 ?_;refine aE rfl rfl rfl (.bin rfl rfl (vT cv ((by simpa using h2)))) rfl rfl ?_;refine a_z ?_;refine cT (s_r 6 ?_);refine a_1 ?_;refine o_0 (.slice_l (l:=1) (h:=L.length) rfl ⟨⟨_,rfl,.inr ⟨_,_,rfl,rfl⟩⟩,⟨_,rfl,.inl ⟨rfl,rfl,rfl⟩⟩,⟨_,rfl,.inl ⟨rfl,rfl⟩⟩⟩ (by omega) (Nat.le_refl _) (.inr (by omega)) te_45.h) ?_;refine a_2 ?_;refine o_1 (.append_oS rfl rfl rfl te_45.h rfl rfl rfl rfl rfl (by rw[hll];omega) rfl rfl (.lsl rfl (nle rfl)) TZ.h rfl TB.h (by simp;omega) (by simp[maxLen];omega)) ?_;refine a_z ?_;refine aj ?_;rw[hr];exact aN rfl (by rw[pY,nE_drop];rfl) (ce _);by_cases h2:sdE sg i=own
 have hr:exM L x sg own=L.set i x:=by
  unfold exM;rw[←hi,show L.length- 1=l by omega,if_neg (fun e=>h0 e.1),if_neg (fun e=>h1 e.1),if_pos (.inr ⟨by omega,h2⟩)]
 refine s_r 9 ?_;refine a_1 ?_;refine o_0 (.bin rfl rfl (vF aJ (neI (by omega)))) ?_;refine d_z ?_;refine cF (q_z 11 ?_);refine cF (s_r 15 ?_);refine a_1 ?_;refine o_0 (.bin rfl rfl (vF aJ (neI (by omega)))) ?_;refine e_s (hsi) ?_;refine m_1 ?_;refine aE rfl rfl rfl (.bin rfl rfl (vT aJ (eqI h2))) rfl rfl ?_;refine d_z ?_;refine cT ?_;have hgt:=lh (L:=L) (k:=i) (e:=0+((i:Nat):Int).toNat) (by omega) (by omega);refine r_m 5 ?_;refine a_4 ?_;refine fk (.store rfl rfl hgt rfl rfl rfl TS.h (nle rfl)) ?_;refine an ?_;refine⟨L.set i x,hr.symm,?_⟩;rw[exS.eq_1,List.length_set];exact s_x [] (fun hs=>db) (fun hs=>e_28)
 have hr:exM L x sg own=L.set (i- 1) x:=by
  unfold exM;rw[←hi,show L.length- 1=l by omega,if_neg (fun e=>h0 e.1),if_neg (fun e=>h1 e.1),if_neg (fun e=>by rcases e with e|e;exact h0 e;exact h2 e.2)]
 refine s_r 9 ?_;refine a_1 ?_;refine o_0 (.bin rfl rfl (vF aJ (neI (by omega)))) ?_;refine d_z ?_;refine cF (q_z 11 ?_);refine cF (s_r 15 ?_);refine a_1 ?_;refine o_0 (.bin rfl rfl (vF aJ (neI (by omega)))) ?_;refine e_s (hsi) ?_;refine m_1 ?_;refine aE rfl rfl rfl (.bin rfl rfl (vF aJ (neI h2))) rfl rfl ?_;refine d_z ?_;refine cF ?_;have hgt:=lh (L:=L) (k:=i- 1) (e:=0+(((i:Nat):Int)- 1).toNat) (by omega) (by omega);refine r_m 6 ?_;refine a_5 ?_;refine fk (.store rfl rfl hgt rfl rfl rfl TS.h (nle rfl)) ?_;refine an ?_;refine⟨L.set (i- 1) x,hr.symm,?_⟩;rw[exS.eq_1,List.length_set];exact s_x [] (fun hs=>db) (fun hs=>e_29);rintro M rfl;rw[exS.eq_1];refine r_z 2 ?_;exact aj (Fin.tmpS rfl rfl rfl (by simp) (dp _))
def inS(p:Lq)(v:Lq):Nat→AState
 |i=>⟨[(0,.arr (pE p)),(1,.arr (pE v)),(23,.arr (pE p)),(24,i64 p.length),(25,i64 i)],[],1,69⟩
def inT(p:Lq)(v:Lq):Nat×Lq×Lq→AState
 |(i,out,zeros)=>⟨[(1,.arr (pE v)),(8,.arr (pE out)),(9,.arr (pE zeros)),(38,.arr (pE p)),(39,i64 p.length),(40,i64 i)],[],1,69⟩
theorem mc(p v r:Lq)(hl:p.length=v.length)(hl2:p.length≤41)(hp:smL p)(htw:pK [] p=false)(h:yp p v [] (fe 1)=some r):FS 137 [.arr (pE p),.arr (pE v)] (.tup [.arr (pE r),i64 0]):=by
 refine f_c Tryz.func137 ?_;refine r_z 2 ?_;refine aU (fun _:Unit=>⟨[(0,.arr (pE p)),(1,.arr (pE v))],[],1,69⟩) (fun _=>True) ?_ ?_;refine am (r_z 6 ?_);refine aq rfl (fun h1=>?_) (fun h1=>?_);exact absurd h1 (by simp[hl]);refine r_z 4 ?_;refine aq rfl (fun h2=>?_) (fun h2=>?_);exact absurd h2 (by simp;omega);refine ak ⟨(),trivial,?_⟩;exact s_e [];rintro _ _;refine ac (r_z 3 ?_);refine aI (fun _:Unit=>⟨[(0,.arr (pE p)),(1,.arr (pE v))],[],1,69⟩) (fun _=>True) ?_ ?_;refine am (aC (inS p v) (fun i=>p.length- i) (fun i=>i≤p.length∧pK (p.take i) (p.drop i)=false) 0 ⟨Nat.zero_le _,htw⟩ ?_ ?_);simp only[inS.eq_1];exact s_e [];rintro i ⟨hi,ht⟩;rw[inS.eq_1];refine r_z 1 ?_;refine ac (aq rfl (fun h=>?_) (fun h=>?_));refine ak ?_;have hlt:i< p.length:=by simpa using h
 have hgt:(pE p)[((i:Nat):Int).toNat]?=some (qC (coP p i)):=b7 (bv hlt);rw[gL hlt,pK,Bool.or_eq_false_iff] at ht;obtain⟨ht1,ht2⟩:=ht;have hco:=lQ (p.take i) 186 [bQ (coP p i)] (fun b=>decide (coP p i=b)) (ae (aQ _) ai) (by simp;omega) (fun q hq=>ru (coP p i) q (iS hp i) (hp q (List.mem_of_mem_take hq))) rfl;rw[ht1] at hco;refine ac (am (s_r 6 ?_));refine a_1 ?_;refine i_x hgt ?_;refine l_x hgt ?_;refine a_z ?_;refine AWp.ent (st':=⟨[(0,.arr (pE p)),(1,.arr (pE v)),(6,i64 i),(7,bQ (coP p i)),(23,.arr (pE p)),(24,i64 p.length),(25,i64 i)],[],1,69⟩) ?_ ?_;exact s_e [];refine s_r 5 ?_;refine a_2 ?_;refine o_0 (.sa_h rfl rfl (h:=i) rfl (by simp;omega) te_29.h (gF _)) ?_;refine o_0 (.makeFunc rfl rfl) ?_;refine o_0 (.call rfl rfl rfl ((by rw[kZ];exact hco))) ?_;refine an ?_;refine cF (ak (r_m 2 ?_));refine a_z ?_;refine⟨i+1,by omega,⟨hlt,by rw[dA (bv hlt)];exact ht2⟩,?_⟩;simp only[inS.eq_1];exact s_e [];refine aA ⟨(),trivial,?_⟩;exact s_e [];rintro _ _;refine r_c 4 (da 1 (by decide)) ?_;refine c_s (jO 1) ?_;refine a_z ?_;refine ac (r_z 3 ?_);refine aI (fun _:Unit=>⟨[(8,.arr (pE r))],[],1,69⟩) (fun _=>True) ?_ ?_;refine am (aC (inT p v) (fun x=>p.length- x.1) (fun x=>x.1≤p.length∧yp (p.drop x.1) (v.drop x.1) x.2.1 x.2.2=some r) (0,[],fe 1) ⟨Nat.zero_le _,h⟩ ?_ ?_);simp only[inT.eq_1];exact s_e [];rintro⟨i,out,zeros⟩ ⟨hi,hm⟩;simp only at hi hm;rw[inT.eq_1];refine r_z 1 ?_;refine ac (aq rfl (fun h=>?_) (fun h=>?_))
 ·refine ak ?_
  have hlt:i< p.length:=by simpa using h
  have hgp:(pE p)[((i:Nat):Int).toNat]?=some (qC (coP p i)):=b7 (bv hlt);have hgv:(pE v)[((i:Nat):Int).toNat]?=some (qC (coP v i)):=b7 (bv (by omega));rw[gL hlt,gL (show i< v.length by omega),yp] at hm;split at hm
  case isFalse=>cases hm
  case isTrue hk=>
  obtain⟨k1,k2,k3,k4,k5,k6,k7,k8,k9,k10,k11⟩:=hk;have e1:=y7 k3;have e2:=y7 k4;have e3:=nZ (coP v i) (aF out (coP p i));have hsl:=cm zeros (inK (coP p i) (coP v i) out zeros);have hz:=k10.2.2.1;refine ac (am (s_r 6 ?_));refine a_1 ?_;refine i_x hgp ?_;refine l_x hgp ?_;refine a_z ?_;refine ac (r_d hmix 14 ?_);refine a_2 ?_;refine i_x hgv ?_;refine l_x hgv ?_;refine c_s (e8 out (coP p i) k3) ?_;refine c_s (iP (coP v i) (aF out (coP p i)) (sm2 k2 e1)) ?_;refine c_s (e8 zeros (coP p i) k4) ?_;refine c_s (fR (coP v i- aF out (coP p i)) (aF zeros (coP p i)) k5 (by unfold sm at e1 e2 k2;omega)) ?_;refine a_2 ?_;refine an (n_k ?_);refine r_c 6 (iA zeros (inK (coP p i) (coP v i) out zeros) k8 k6 (by omega)) ?_;refine c_s (tN out (aW zeros (inK (coP p i) (coP v i) out zeros)) k7 k9 (by omega) (by omega)) ?_;refine a_z ?_;refine r_m 6 ?_;refine c_s (jZ (coP p i)) ?_;refine c_s (CM (-coP p i)) ?_;refine c_s (A7 zeros [-coP p i,1] (mxL zeros) (mxL [-coP p i,1]) (dK _) (dK _) (dZ _) (dZ _) k10.1 k10.2.1 k10.2.2.1 k10.2.2.2) ?_;refine a_z ?_;refine r_m 2 ?_;refine a_z ?_;refine⟨(i+1,_,_),by simp only;omega,⟨hlt,hm⟩,?_⟩;simp only[inT.eq_1];exact s_e []
 have hge:i=p.length:=by
  have:¬i< p.length:=by simpa using h
  omega
 subst hge;rw[List.drop_length,yp] at hm;cases hm;refine aA ⟨(),trivial,?_⟩;exact s_e [];rintro _ _;refine r_z 3 ?_;refine aj (Fin.many ⟨_,_,rfl,rfl,⟨_,_,rfl,rfl,rfl⟩⟩ (nle rfl) ?_);exact af (ah aB (ap _)) (af (ah aB (ag _)) ax)
end Go.Proofs.YtjgokhkahkmpbaaGreatDoor
