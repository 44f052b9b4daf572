/- Part Z22 of the proof. -/
import Derived.Test.YtjgokhkahkmpbaaGreatDoorZ21
set_option linter.all false
namespace Go.Proofs.YtjgokhkahkmpbaaGreatDoor
open Go.Abs
set_option maxRecDepth 20000
set_option maxHeartbeats 2000000
def Gj(f g:Nat)(c:Cnt)(i:Int):Option Sp:=(rR f c i 0).bind fun s0=>(nk (fun k=>nA c i (cJ c i s0 k)) g 0).map (cJ c i s0)
theorem Dr(f g:Nat)(c:Cnt)(i:Int)(s:Sp)(h:Gj f g c i=some s):FS 272 [plA c i] (.agg (spC s.1 s.2)):=by
 obtain⟨s0,h1,h2⟩:=Option.bind_eq_some_iff.1 h;obtain⟨k,h3,rfl⟩:=Option.map_eq_some_iff.1 h2;exact FB f g c i s0 k h1 h3
def vG(f g:Nat)(c:Cnt)(i:Int)(q:Lq):Option Bool:=
 if c.p.length≤274877906944∧q.length≤274877906944 then(mu f c.p q).bind fun d=>
  if d.length≤274877906944 then
   if ct d< 1 then some false
   else(fH f d).bind fun c2=>(Gj f g c i).bind fun s=>if qy c2 s.2∧n8 c2 s.1 then some (decide (cr c2 s.1< eW c2 s.2)) else none
  else none
 else none
theorem Dn(f g:Nat)(c:Cnt)(i:Int)(q:Lq)(r:Bool)(h:vG f g c i q=some r)(hf:f≤1000000):FS 252 [plA c i,.arr (pE q)] (bln r):=by
 unfold vG at h;split at h
 case isFalse=>cases h
 case isTrue hl=>
 obtain⟨d,hd,h2⟩:=Option.bind_eq_some_iff.1 h;split at h2
 case isFalse=>cases h2
 case isTrue hdl=>
 refine f_n Tryz.func252 ?_ ?_;exact ac (cO c i) (ac (ao q) ai);refine r_z 1 ?_;refine r_c 10 (AW f c.p q d hd hl.1 hl.2) ?_;refine a_z ?_;refine ae (r_c 3 (bZ d (by omega)) ?_);refine a_z ?_;refine au rfl (fun h3=>?_) (fun h3=>?_);have h4:ct d< 1:=by simpa using h3
 rw[if_pos h4] at h2;cases h2;refine r_z 1 ?_;exact am (t_e (ag _))
 ·have h4:¬ct d< 1:=by simpa using h3
  rw[if_neg h4] at h2;obtain⟨c2,hc2,h5⟩:=Option.bind_eq_some_iff.1 h2;obtain⟨s,hs,h6⟩:=Option.bind_eq_some_iff.1 h5;split at h6
  case isFalse=>cases h6
  case isTrue hk=>
  cases h6;refine an (r_c 7 (mc f d c2 hc2 hf) ?_);refine c_s (Dr f g c i s hs) ?_;refine a_z ?_;refine ae (r_d hmix 10 ?_);refine c_s (kJ c2 s.2 hk.1) ?_;refine c_s (jW c2 s.1 hk.2) ?_;refine a_2 ?_;refine aq (n_k ?_);exact am (t_e (ag _))
def xw(c:Cnt)(i:Int)(c2:Cnt)(s:Sp):Option Bool:=if qy c2 s.2∧n8 c2 s.1∧lC c s then some (decide (eW c2 s.2=cr c2 s.1)) else none
def qe(f g:Nat)(c:Cnt)(i:Int)(q:Lq):Option Int:=
 if q.length≤274877906944 then
  if ct q< 0 then some 0
  else(vG f g c i q).bind fun b=>if b then some 0 else(fH f q).bind fun c2=>(rR f c i 0).bind fun s0=>
   (nk (fun k=>xw c i c2 (cJ c i s0 k)) g 0).bind fun k=>if dI q (cJ c i s0 k).2 then some (sgZ (aA q (cJ c i s0 k).2).num) else none
 else none
def pgS(c:Cnt)(i:Int)(q:Lq)(c2:Cnt):Nat→AState
 |k=>⟨[(0,plA c i),(3,bP q),(4,.lptr 1 0 0),(5,.aptr [[kA c2]] 0 0),(18,.clos 273 [] [bPl c i])],[(1,some ⟨3,1,[[i64 0]]⟩)],2,34⟩
def pgX(r:Int):Unit→AState
 |u=>⟨[(4,.lptr 1 0 0)],[(1,some ⟨3,1,[[i64 r]]⟩)],2,34⟩
theorem tS(c:Cnt):Closed (.aptr [[kA c]] 0 0):=aX (ac (fY c) ai)
theorem Cm(f g:Nat)(c:Cnt)(i:Int)(q:Lq)(r:Int)(h:qe f g c i q=some r)(hf:f≤1000000):FS 218 [plA c i,.arr (pE q)] (i64 r):=by
 unfold qe at h;split at h
 case isFalse=>cases h
 case isTrue hl=>
 refine f_n Tryz.func218 ?_ ?_;exact ac (cO c i) (ac (ao q) ai);refine r_z 2 ?_;refine AWp.ent (st':=⟨[(0,plA c i),(3,bP q),(4,.lptr 1 0 0)],[(1,some ⟨3,1,[[i64 0]]⟩)],2,34⟩) ?_ ?_;exact s_f [(1,4)];by_cases hd:ct q< 0;rw[if_pos hd] at h;cases h;refine ae (r_c 8 (bZ q (by omega)) ?_);refine a_2 ?_;refine n_g rfl (by simp[hd]) ?_;refine n_g rfl (by simp[hd]) ?_;refine n_g rfl (by simp[hd]) ?_;refine o_0 (.pickT rfl (by simp[hd]) rfl) ?_;refine aq ?_;refine au rfl (fun h1=>?_) (fun h1=>?_);refine r_z 1 ?_;exact am (Fin.cell1E rfl rfl rfl TG.h rfl rfl (ag _));cases h1;rw[if_neg hd] at h;obtain⟨b,hb,h2⟩:=Option.bind_eq_some_iff.1 h;refine ae (r_c 8 (bZ q (by omega)) ?_);refine a_2 ?_;refine y_g rfl (by simp[hd]) (.move rfl) ?_
 first|refine y_g rfl (by simp[hd]) (.load_l1 rfl rfl rfl TG.h rfl) ?_|refine y_g rfl (by simp[hd]) (.load_a1 rfl rfl TG.h rfl) ?_
 refine y_g rfl (by simp[hd]) (.call rfl rfl rfl (Dn f g c i q b hb hf)) ?_;refine o_0 (.pickF rfl (by simp[hd]) rfl) ?_;refine aq ?_;refine au rfl (fun h1=>?_) (fun h1=>?_);have hb1:b=true:=h1;subst hb1;rw[if_pos rfl] at h2;cases h2;refine r_z 1 ?_;exact am (Fin.cell1E rfl rfl rfl TG.h rfl rfl (ag _));have hb1:b=false:=h1;subst hb1;rw[if_neg (show¬false=true by decide)] at h2;obtain⟨c2,hc2,h3⟩:=Option.bind_eq_some_iff.1 h2;obtain⟨s0,hs0,h4⟩:=Option.bind_eq_some_iff.1 h3;obtain⟨kk,hkk,h5⟩:=Option.bind_eq_some_iff.1 h4;split at h5
 case isFalse=>cases h5
 case isTrue hev=>
 cases h5;obtain⟨t1,_,t2⟩:=jw hkk
 have hok:∀k,k≤kk→qy c2 (cJ c i s0 k).2∧n8 c2 (cJ c i s0 k).1∧lC c (cJ c i s0 k):=fun k hk=>by
  have:∃b,xw c i c2 (cJ c i s0 k)=some b:=by
   by_cases e:k=kk;rw[e];exact⟨_,t1⟩;exact⟨_,t2 k (Nat.zero_le _) (by omega)⟩
  obtain⟨b,hb⟩:=this;unfold xw at hb;split at hb;assumption;cases hb
 have hgs:=pz f c i s0 kk hs0 (fun k hk=>(hok k (by omega)).2.2);obtain⟨r,hr⟩:∃r,r=sgZ (aA q (cJ c i s0 kk).2).num:=⟨_,rfl⟩;rw[←hr];refine an (r_c 4 (mc f q c2 hc2 hf) ?_);refine a_z ?_;refine AWp.ent (st':=⟨[(0,plA c i),(3,bP q),(4,.lptr 1 0 0),(5,.aptr [[kA c2]] 0 0)],[(1,some ⟨3,1,[[i64 0]]⟩)],2,34⟩) ?_ ?_;have:=(ac (fY c2) ai);exact s_f [];refine ae (r_c 2 (pH c i) ?_);refine aq ?_;refine aH (pgX r) (fun _=>False) ?_ (fun _ h=>h.elim);refine ak (AWp.rangeFuncB (α:=Nat) (γ:=Unit) kk (pgS c i q c2) (fun k=>k) (fun k=>k≤kk) (pgX r) (fun e _=>e= .ret) 0 rfl hgs rfl rfl ?_ (fun _=>⟨rfl,rfl⟩) (fun _=>rfl) (Nat.zero_le _) rfl (fun _ h=>h) ?_ ?_ ?_ ?_ ?_);intro k xs hT;cases hT;rfl;rw[pgS.eq_1];have:=tS c2;exact s_t [];exact ac (dr c i) ai;intro l k xs hk hT;cases hT;have hx:=hok k hk;obtain⟨s,hsd⟩:∃s,s=cJ c i s0 k:=⟨_,rfl⟩;rw[←hsd] at hx⊢;obtain⟨x1,x2,x3⟩:=hx;show AWp _ _ _ _ ⟨[(19,.agg (spC s.1 s.2)),(0,plA c i),(3,bP q),(4,.lptr 1 0 0),(5,.aptr [[kA c2]] 0 0),(18,.clos 273 [] [bPl c i]),(1000,plA c i),(1003,bP q),(1004,.lptr 1 0 0),(1005,.aptr [[kA c2]] 0 0),(1018,.clos 273 [] [bPl c i])],[(1,some ⟨3,1,[[i64 0]]⟩)],2,34⟩;refine r_m 2 ?_;refine a_z ?_;refine ak (ae (r_d hmix 9 ?_));refine c_s (kJ c2 s.2 x1) ?_;refine c_s (jW c2 s.1 x2) ?_;refine a_1 ?_;refine aq (n_k ?_);refine au rfl (fun h6=>?_) (fun h6=>?_);have h7:eW c2 s.2=cr c2 s.1:=by simpa using h6
 have he:k=kk:=by
  refine Nat.le_antisymm hk (Nat.le_of_not_lt fun hlt=>?_);have h8:=t2 k (Nat.zero_le _) hlt;rw[←hsd] at h8;unfold xw at h8;rw[if_pos ⟨x1,x2,x3⟩] at h8;simp[h7] at h8
 subst he;rw[←hsd] at hev hr;refine r_c 6 (eI q s.2 hev) ?_;refine c_s (b6 (aA q s.2)) ?_;refine a_z ?_;refine am (⟨rfl,(),rfl,?_⟩);rw[hr];show SEntT _ ⟨[(1004,.lptr 1 0 0)],[(1,some ⟨3,1,[[i64 (sgZ (aA q s.2).num)]]⟩)],2,34⟩;exact s_t [];have h7:¬eW c2 s.2=cr c2 s.1:=by simpa using h6
 have he:k< kk:=by
  refine Nat.lt_of_le_of_ne hk fun e=>?_;subst e;rw[←hsd] at t1;unfold xw at t1;rw[if_pos ⟨x1,x2,x3⟩] at t1;simp[h7] at t1
 refine an (⟨k+1,⟨he,rfl⟩,?_⟩);show SEntT _ ⟨[(1000,plA c i),(1003,bP q),(1004,.lptr 1 0 0),(1005,.aptr [[kA c2]] 0 0),(1018,.clos 273 [] [bPl c i])],[(1,some ⟨3,1,[[i64 0]]⟩)],2,34⟩;have:=tS c2;exact s_t [];intro k hk hT;cases hT;rintro e u rfl;exact Fin.cell1E rfl rfl rfl TG.h rfl rfl (ag _)
def D3(c:Cnt)(q:Lq)(step:Rat)(s:Sp):Option Bool:=if v8 q s∧smS (gL q s)∧sm ((gL q s).2- (gL q s).1)∧sm step∧lC c s then some (decide (cZ ((gL q s).2- (gL q s).1) step< 0)) else none
def valR(f g:Nat)(c:Cnt)(i:Int)(q:Lq)(k:Int)(v:Sp):Option Sp:=
 if sm (gD v.2 (wi k 256))∧smS v∧sm (cg (wi k 256))∧smL q∧q.length≤274877906944 then
  if cZ (gD v.2 (wi k 256)) v.1< 0 then some (gD v.2 (wi k 256),gD v.2 (wi k 256)+cg (wi k 256))
  else(qe f g c i (fK q (fP (gD v.2 (wi k 256))))).bind fun sg=>
   some (if sg=0 then(gD v.2 (wi k 256),gD v.2 (wi k 256)) else if sg=1 then(gD v.2 (wi k 256),gD v.2 (wi k 256)+cg (wi k 256)) else(gD v.2 (wi k 256)- cg (wi k 256),gD v.2 (wi k 256)))
 else none
def rI(f g:Nat)(c:Cnt)(i:Int)(q:Lq)(k:Int):Option Sp:=
 (rR f c i 0).bind fun s0=>(nk (fun j=>D3 c q (cg (wi k 256)) (cJ c i s0 j)) g 0).bind fun j=>valR f g c i q k (gL q (cJ c i s0 j))
abbrev bI(k:Int):AV:= .aptr [[i64 k]] 0 0
theorem iT(k:Int):Closed (bI k):=aX (ac (ag _) ai)
def vaS(c:Cnt)(i:Int)(q:Lq)(k:Int)(step:Rat):Nat→AState
 |j=>⟨[(3,bPl c i),(4,bP q),(5,bI k),(6,.lptr 1 0 0),(7,bQ step),(14,.clos 273 [] [bPl c i])],[(1,some ⟨44,6,[zC++zC]⟩)],2,61⟩
def vaX(r:Sp):Unit→AState
 |u=>⟨[(6,.lptr 1 0 0)],[(1,some ⟨44,6,[spC r.1 r.2]⟩)],2,61⟩
theorem Fl(f g:Nat)(c:Cnt)(i:Int)(q:Lq)(k:Int)(r:Sp)(h:rI f g c i q k=some r)(hf:f≤1000000):FS 235 [plA c i,.arr (pE q),i64 k] (.agg (spC r.1 r.2)):=by
 unfold rI at h;obtain⟨s0,hs0,h2⟩:=Option.bind_eq_some_iff.1 h;obtain⟨kk,hkk,hR⟩:=Option.bind_eq_some_iff.1 h2;obtain⟨t1,_,t2⟩:=jw hkk;obtain⟨step,hst⟩:∃step,step=cg (wi k 256):=⟨_,rfl⟩;rw[←hst] at t1 t2
 have hok:∀j,j≤kk→v8 q (cJ c i s0 j)∧smS (gL q (cJ c i s0 j))∧sm ((gL q (cJ c i s0 j)).2- (gL q (cJ c i s0 j)).1)∧sm step∧lC c (cJ c i s0 j):=fun j hj=>by
  have:∃b,D3 c q step (cJ c i s0 j)=some b:=by
   by_cases e:j=kk;rw[e];exact⟨_,t1⟩;exact⟨_,t2 j (Nat.zero_le _) (by omega)⟩
  obtain⟨b,hb⟩:=this;unfold D3 at hb;split at hb;assumption;cases hb
 have hgs:=pz f c i s0 kk hs0 (fun j hj=>(hok j (by omega)).2.2.2.2);have hfi:=iK k;rw[←hst] at hfi;refine f_n Tryz.func235 ?_ ?_;exact ac (cO c i) (ac (ao q) (ac (ag _) ai));refine r_z 4 ?_;refine r_c 4 (hfi) ?_;refine a_z ?_;refine AWp.ent (st':=⟨[(3,bPl c i),(4,bP q),(5,bI k),(6,.lptr 1 0 0),(7,bQ step)],[(1,some ⟨44,6,[zC++zC]⟩)],2,61⟩) ?_ ?_;have:=(ac (cO c i) ai);exact s_f [(1,6)];refine ae (r_c 2 (pH c i) ?_);refine aq ?_;refine aH (vaX r) (fun _=>False) ?_ (fun _ h=>h.elim);refine ak (AWp.rangeFuncB (α:=Nat) (γ:=Unit) kk (vaS c i q k step) (fun j=>j) (fun j=>j≤kk) (vaX r) (fun e _=>e= .ret) 0 rfl hgs rfl rfl ?_ (fun _=>⟨rfl,rfl⟩) (fun _=>rfl) (Nat.zero_le _) rfl (fun _ h=>h) ?_ ?_ ?_ ?_ ?_);intro j xs hT;cases hT;rfl;rw[vaS.eq_1];have:=iT k;exact s_t [];exact ac (dr c i) ai;intro l j xs hj hT;cases hT;have hx:=hok j hj;obtain⟨s,hsd⟩:∃s,s=cJ c i s0 j:=⟨_,rfl⟩;rw[←hsd] at hx⊢;obtain⟨x1,x2,x3,x4,x5⟩:=hx;obtain⟨v,hv⟩:∃v,v=gL q s:=⟨_,rfl⟩;have hov:=fs_Over q s x1;rw[←hv] at hov x2 x3;show AWp _ _ _ _ ⟨[(15,.agg (spC s.1 s.2)),(3,bPl c i),(4,bP q),(5,bI k),(6,.lptr 1 0 0),(7,bQ step),(14,.clos 273 [] [bPl c i]),(1003,bPl c i),(1004,bP q),(1005,bI k),(1006,.lptr 1 0 0),(1007,bQ step),(1014,.clos 273 [] [bPl c i])],[(1,some ⟨44,6,[zC++zC]⟩)],2,61⟩;refine r_m 2 ?_;refine a_z ?_;refine ak (r_c 5 (hov) ?_);refine a_z ?_;refine ae (ae (r_d hmix 5 ?_));refine c_s (mf v.1 v.2 x2.1 x2.2) ?_;refine c_s (dJ (v.2- v.1) step x3 x4) ?_;refine a_1 ?_;refine aq (n_k ?_)
 refine au rfl (fun h6=>?_) (fun h6=>?_)
 have h7:¬cZ (v.2- v.1) step< 0:=by
  have:0≤cZ (v.2- v.1) step:=by simpa using h6
  omega
 have he:j< kk:=by
  refine Nat.lt_of_le_of_ne hj fun e=>?_;subst e;rw[←hsd] at t1;unfold D3 at t1;rw[←hv] at t1;rw[if_pos ⟨x1,x2,x3,x4,x5⟩] at t1;simp[h7] at t1
 refine aB (⟨j+1,⟨he,rfl⟩,?_⟩);show SEntT _ ⟨[(1003,bPl c i),(1004,bP q),(1005,bI k),(1006,.lptr 1 0 0),(1007,bQ step),(1014,.clos 273 [] [bPl c i])],[(1,some ⟨44,6,[zC++zC]⟩)],2,61⟩;have:=iT k;exact s_t []
 ·have h7:cZ (v.2- v.1) step< 0:=by
   have:¬0≤cZ (v.2- v.1) step:=by simpa using h6
   omega
  have he:j=kk:=by
   refine Nat.le_antisymm hj (Nat.le_of_not_lt fun hlt=>?_);have h8:=t2 j (Nat.zero_le _) hlt;rw[←hsd] at h8;unfold D3 at h8;rw[←hv] at h8;rw[if_pos ⟨x1,x2,x3,x4,x5⟩] at h8;simp[h7] at h8
  subst he;rw[←hsd,←hv] at hR;unfold valR at hR;rw[←hst] at hR;obtain⟨m,hm⟩:∃m,m=gD v.2 (wi k 256):=⟨_,rfl⟩;rw[←hm] at hR;split at hR
  case isFalse=>cases hR
  case isTrue hz=>
  obtain⟨z1,z2,z3,z4,z5⟩:=hz;have hdn:=Cw v.2 k x2.2;rw[←hm] at hdn;refine an (r_c 6 (hdn) ?_);refine a_z ?_;refine ae (r_c 5 (dJ m v.1 z1 z2.1) ?_);refine a_z ?_;refine au rfl (fun h8=>?_) (fun h8=>?_);have h9:cZ m v.1< 0:=by simpa using h8
  rw[if_pos h9] at hR;cases hR;refine ae (r_d hmix 6 ?_);refine c_s (ff m step (sm2 z1 z3)) ?_;refine a_2 ?_;refine aq (n_k ?_);refine am (⟨rfl,(),rfl,?_⟩);show SEntT _ ⟨[(1006,.lptr 1 0 0)],[(1,some ⟨44,6,[spC (m,m+step).1 (m,m+step).2]⟩)],2,61⟩;have:=iT k;exact s_t [];have h9:¬cZ m v.1< 0:=by simpa using h8
  rw[if_neg h9] at hR;obtain⟨sg,hsg,hR2⟩:=Option.bind_eq_some_iff.1 hR;cases hR2;have hcl:=tO m;have hsmc:smL (fP m):=lh fun x hx=>by rw[List.mem_singleton.1 hx];exact z1
  refine an (ae (ae (r_d hmix 6 ?_)));refine c_s (jv m) ?_;refine c_s (ni q (fP m) z4 hsmc (by omega) (by omega)) ?_;refine c_s (Cm f g c i (fK q (fP m)) sg hsg hf) ?_;refine aq (n_k ?_);refine ak (r_z 2 ?_);refine au rfl (fun h10=>?_) (fun h10=>?_);have h11:sg=0:=by simpa using h10
  refine r_c 3 (yK m) ?_;refine a_z ?_;refine am (⟨rfl,(),rfl,?_⟩);rw[if_pos h11];show SEntT _ ⟨[(1006,.lptr 1 0 0)],[(1,some ⟨44,6,[spC (m,m).1 (m,m).2]⟩)],2,61⟩;have:=iT k;exact s_t [];have h11:¬sg=0:=by simpa using h10
  refine r_z 2 ?_;refine au rfl (fun h12=>?_) (fun h12=>?_);have h13:sg=1:=by simpa using h12
  refine ae (r_d hmix 6 ?_);refine c_s (ff m step (sm2 z1 z3)) ?_;refine a_2 ?_;refine aq (n_k ?_);refine am (⟨rfl,(),rfl,?_⟩);rw[if_neg h11,if_pos h13];show SEntT _ ⟨[(1006,.lptr 1 0 0)],[(1,some ⟨44,6,[spC (m,m+step).1 (m,m+step).2]⟩)],2,61⟩;have:=iT k;exact s_t [];have h13:¬sg=1:=by simpa using h12
  refine an (ae (r_d hmix 6 ?_));refine c_s (gx m step (sm2 z1 z3)) ?_;refine a_3 ?_;refine aq (n_k ?_);refine am (⟨rfl,(),rfl,?_⟩);rw[if_neg h11,if_neg h13];show SEntT _ ⟨[(1006,.lptr 1 0 0)],[(1,some ⟨44,6,[spC (m- step,m).1 (m- step,m).2]⟩)],2,61⟩;have:=iT k;exact s_t []
 intro j hj hT;cases hT;rintro e u rfl;exact Fin.cell rfl rfl rfl TG.h TS.h (nle rfl) (ah aE (bt _ _))


def yi(t:Rat→Bool):Lq→Int→Int
 |[],_=> -1
 |a::l,i=>if t a then i else yi t l (i+1)
theorem yh(t:Rat→Bool):∀(l:Lq) (i:Int),0≤i→(decide (0≤yi t l i))=l.any t
 |[],i,_=>by simp[yi]
 |a::l,i,hi=>by
  unfold yi;cases h:t a with
  |true=>simp[h,hi]
  |false=>simp[h];rw[←yh t l (i+1) (by omega)]
def ixS(l:Lq)(g:Nat)(cap:La):Nat→AState
 |i=>⟨[(0,.arr (pE l)),(1,.clos g [] cap),(7,i64 l.length),(8,i64 i)],[],1,19⟩
theorem wD(l:Lq)(g:Nat)(cap:La)(t:Rat→Bool)(hcap:∀c∈cap,Closed c)(hl:l.length≤1099511627776)(hg:∀q∈l,FS g ((.agg (qC q)::cap).map coe) (bln (t q))):FS 185 [.arr (pE l),.clos g [] cap] (i64 (yi t l 0)):=by
 have hcc:Closed (.clos g [] cap):=aT ai hcap;refine f_c Tryz.func185 ?_;obtain⟨R,hR⟩:∃R,R=yi t l 0:=⟨_,rfl⟩;rw[←hR];refine r_z 1 ?_;refine ae (r_z 3 ?_);refine aH (fun _:Unit=>⟨[],[],1,19⟩) (fun _=>R= -1) ?_ ?_;refine ak (aC (ixS l g cap) (fun i=>l.length- i) (fun i=>i≤l.length∧yi t (l.drop i) i=R) 0 ⟨Nat.zero_le _,by rw[hR];rfl⟩ ?_ ?_);simp only[ixS.eq_1];exact s_f [];rintro i ⟨hi,hr⟩;rw[ixS.eq_1];refine r_z 1 ?_;refine ae (au rfl (fun h=>?_) (fun h=>?_));refine an ?_;have hlt:i< l.length:=by simpa using h
 have hgt:(pE l)[((i:Nat):Int).toNat]?=some (qC (coP l i)):=bK (bm hlt);rw[gC hlt,yi] at hr;refine ae (ak (r_z 2 ?_));refine s_r 6 ?_;refine a_3 ?_;refine i_x hgt ?_;refine l_x hgt ?_;refine c_s (hg (coP l i) (List.mem_of_getElem? (bm hlt))) ?_;refine aq ?_;refine au rfl (fun h1=>?_) (fun h1=>?_);have h2:t (coP l i)=true:=h1;rw[if_pos h2] at hr;refine r_z 2 ?_;refine am (aR rfl ?_ ?_);rw[←hr];exact ag _;have h2:¬t (coP l i)=true:=by rw[show t (coP l i)=false from h1];decide
 rw[if_neg h2] at hr;refine an (r_m 2 ?_);refine a_z ?_;refine⟨i+1,by omega,⟨hlt,hr⟩,?_⟩;simp only[ixS.eq_1];exact s_f []
 have hge:i=l.length:=by
  have:¬i< l.length:=by simpa using h
  omega
 subst hge;rw[List.drop_length] at hr;refine aB ⟨(),hr.symm,?_⟩;exact s_e [];rintro _ hr;refine r_z 1 ?_;refine am (aR rfl ?_ ?_);rw[hr];rfl;exact ag _
theorem kV(l:Lq)(g:Nat)(cap:La)(t:Rat→Bool)(hcap:∀c∈cap,Closed c)(hl:l.length≤1099511627776)(hg:∀q∈l,FS g ((.agg (qC q)::cap).map coe) (bln (t q)))(hcap2:cap.map coe=cap):FS 136 [.arr (pE l),.clos g [] cap] (bln (l.any t)):=by
 have hcc:Closed (.clos g [] cap):=aT ai hcap;have e:=yh t l 0 (Int.le_refl 0);refine f_c Tryz.func136 ?_;refine r_z 1 ?_;refine r_c 5 (wD l g cap t hcap hl hg) ?_;refine a_z ?_;refine am (aR rfl ?_ ?_);rw[←e];rfl;exact ag _
theorem qD(a b:Rat)(ha:sm a)(hb:sm b):FS 186 [.agg (qC b),bQ a] (bln (decide (a=b))):=by
 have e:(cZ a b==(0:Int))=decide (a=b):=by
  unfold cZ;by_cases h:a=b;subst h;simp[Rat.lt_irrefl];by_cases h1:a< b;simp[h,h1];simp[h,h1]
 refine f_c Tryz.func186 ?_;refine r_z 2 ?_;refine r_c 5 (dJ a b ha hb) ?_;refine a_z ?_;refine am (aR rfl ?_ ?_);rw[←e];rfl;exact ag _
abbrev dC(d:Dt):La:=[.arr (pE d.X),.arr (pE d.Y),.arr (pE d.W)]
theorem cz(d:Dt):∀c∈dC d,Closed c:=ac (ao _) (ac (ao _) (ac (ao _) ai))
theorem eqI{a b:Int}(h:a=b):(a==b)=true:=by simp[h]
theorem neI{a b:Int}(h:a≠b):(a==b)=false:=by simpa using h
theorem sg_lt0{q:Rat}:sgZ q.num< (0:Int)↔q< 0:=kr
theorem gz(a b:Rat)(hb:b≠0)(h:qs a+qs b≤549755813888):FS 40 [.agg (qC a),.agg (qC b)] (.agg (qC (a/ b))):=by
 refine f_c Tryz.func40 ?_;refine r_z 3 ?_;refine r_c 9 (AP a b hb h) ?_;refine a_z ?_;refine r_z 2 ?_;exact am (c_e (aM _))
theorem Dm(h:Rat):FS 143 [.agg (qC h)] (i64 (sgO h)):=by
 refine f_c Tryz.func143 ?_;refine r_z 2 ?_;by_cases g:h< 0;rw[show sgO h= -1 from if_pos g];refine ae (r_c 3 (b6 h) ?_);refine o_0 (.bin rfl rfl (vT dY (decide_eq_true (sg_lt0.2 g)))) ?_;refine aq ?_;refine cT (r_z 1 ?_);exact am (t_e (ag _));rw[show sgO h=1 from if_neg g];refine ae (r_c 3 (b6 h) ?_);refine o_0 (.bin rfl rfl (vF dY (decide_eq_false (mt sg_lt0.1 g)))) ?_;refine aq ?_;refine cF (an (r_z 1 ?_));exact am (t_e (ag _))
theorem uO(d:Dt)(i:Nat)(h:d.W.length=0∨i< d.W.length):FS 188 [.agg (dC d),i64 i] (.agg (qC (wtD d i))):=by
 refine f_n Tryz.func188 ?_ ?_;exact ac (aK (cz d)) (ac (ag _) ai);have hl:(pE d.W).length=d.W.length:=by simp[pE]
 refine r_z 2 ?_;by_cases g:d.W.length=0;rw[show wtD d i=((1:Int):Rat) from if_pos g];have h1:=cN 1 (by decide);refine ae (s_r 4 ?_);refine a_3 ?_;refine o_0 (.bin rfl rfl (vT aV (eqI (by omega)))) ?_;refine aq ?_;refine cT (r_c 2 (h1) ?_);refine a_z ?_;exact am (c_e (aM _));rw[show wtD d i=coP d.W i from if_neg g];have hi:i< d.W.length:=h.resolve_left g;have hgt:(pE d.W)[((i:Nat):Int).toNat]?=some (qC (coP d.W i)):=bK (bm hi);refine ae (s_r 4 ?_);refine a_3 ?_;refine o_0 (.bin rfl rfl (vF aV (neI (by omega)))) ?_;refine aq ?_;refine cF (an (s_r 6 ?_));refine a_3 ?_;refine i_x hgt ?_;refine l_x hgt ?_;refine a_z ?_;exact am (c_e (aM _))
theorem wx(d:Dt)(p:Lq)(i:Nat)(hy:d.Y.length=d.X.length)(hw:d.W.length=0∨d.W.length=d.X.length)(h:okMs d p i):FS 140 [.agg (dC d),.arr (pE p),i64 i] (.agg (qC (msD d p i))):=by
 obtain⟨h1,h2,h3,h4,h5,h6,h7⟩:=h;have hwt:=uO d i (hw.imp id fun e=>by omega);have hev:=eI p (coP d.X i) h4;have hsu:=gx (coP d.Y i) (aA p (coP d.X i)) (h3.two h5);have hmu:=c7 (wtD d i) (coP d.Y i- aA p (coP d.X i)) (h2.two h6);have hgx:(pE d.X)[((i:Nat):Int).toNat]?=some (qC (coP d.X i)):=bK (bm h1);have hgy:(pE d.Y)[((i:Nat):Int).toNat]?=some (qC (coP d.Y i)):=bK (bm (by omega));refine f_n Tryz.func140 ?_ ?_;exact ac (aK (cz d)) (ac (ao p) (ac (ag _) ai));refine r_z 2 ?_;refine ae (r_d hmix 18 ?_);refine c_s (hwt) ?_;refine a_3 ?_;refine i_x hgy ?_;refine l_x hgy ?_;refine a_4 ?_;refine i_x hgx ?_;refine l_x hgx ?_;refine c_s (hev) ?_;refine c_s (hsu) ?_;refine c_s (hmu) ?_;refine a_1 ?_;refine aq (n_k ?_);exact am (c_e (aM _))
theorem Cg{f:Nat→Rat}{n:Nat}(hs:∀i,i< n→sm (f i)):∀i,i≤n→sm (oo f i).2
 |0,_=>(by decide:sm 0)
 |i+1,hi=>by
  rw[oo];split;exact hs i (by omega);exact Cg hs i (by omega)
theorem ws(f:Nat→Rat):∀n,0< n→(oo f n).1< n
 |0,h=>by omega
 |n+1,_=>by
  rw[oo];split;exact Nat.lt_succ_self n
  ·rename_i hh
   have:n≠0:=fun e=>hh (.inl e);have:=ws f n (by omega);omega
def grS(l:Lq)(g:Nat)(cap:La):Nat×Nat×Rat→AState
 |(i,x)=>⟨[(1,.clos g [] cap),(5,i64 x.1),(6,.lptr 1 0 0),(11,i64 l.length),(12,i64 i)],[(1,some ⟨42,3,[qC x.2]⟩)],2,30⟩
theorem yy(l:Lq)(g:Nat)(cap:La)(f:Nat→Rat)(hcap:∀c∈cap,Closed c)(hl:l.length≤1099511627776)(hs:∀i,i< l.length→sm (f i))(hg:∀i:Nat,i< l.length→FS g ((i64 i::cap).map coe) (.agg (qC (f i)))):
    FS 189 [.arr (pE l),.clos g [] cap] (i64 ((oo f l.length).1:Nat)):=by
 have hcc:Closed (.clos g [] cap):=aT ai hcap;have hll:(pE l).length=l.length:=by simp[pE]
 refine f_c Tryz.func189 ?_;refine r_z 1 ?_;refine r_z 4 ?_;refine ae (r_z 3 ?_);refine aH (fun _:Unit=>⟨[(5,i64 ((oo f l.length).1:Nat))],[],2,30⟩) (fun _=>True) ?_ ?_;refine ak (aC (fun i:Nat=>grS l g cap (i,oo f i)) (fun i=>l.length- i) (fun i=>i≤l.length) 0 (Nat.zero_le _) ?_ ?_);simp only[grS.eq_1,oo];rw[qC0];refine s_x [(1,6)] (fun hs=>?_) (fun hs=>?_)
 ·repeat' (first|exact aG|refine aj rfl ?_ ?_|exact ah hs hcc|exact aW)
 ·repeat' (first|exact aD|refine h_c ?_ ?_|exact aw (af (Cv.emp _) (af (ah hs (ag _)) (af (Cv.emp _) ay)))|exact bC|refine aw ?_|exact ay|refine af ?_ ?_|exact ah hs hcc|exact aW)
 intro i hi;simp only[grS.eq_1];by_cases hlt:i< l.length
 ·refine q_z 1 ?_
  refine ae (cT (an ?_));have hgi:=hg i hlt;refine ae (ak (r_z 2 ?_));refine r_c 5 (hgi) ?_;refine a_z ?_;obtain⟨x,hx⟩:∃x,x=oo f i:=⟨_,rfl⟩;have hsx:sm x.2:=by rw[hx];exact Cg hs i (by omega)
  have hcm:=dJ (f i) x.2 (hs i hlt) hsx;rw[←hx];have next:∀y,y=(if i=0∨x.2< f i then(i,f i) else x)→y=oo f (i+1):=fun y hy=>by rw[hy,oo,←hx]
  by_cases h0:i=0
  ·have hn:=next (i,f i) (by rw[if_pos (.inl h0)])
   refine s_r 8 ?_;refine a_1 ?_;refine o_0 (.bin rfl rfl (vT aV (eqI (by omega)))) ?_;refine d_z ?_;refine cT (r_d hmix 4 ?_);refine a_4 ?_;refine aq (n_k ?_);refine r_m 2 ?_;refine a_z ?_;refine⟨i+1,by omega,by omega,?_⟩;simp only[grS.eq_1];rw[←hn];exact s_f []
  by_cases h1:x.2< f i
  ·have hn:=next (i,f i) (by rw[if_pos (.inr h1)])
   refine s_r 8 ?_;refine a_1 ?_;refine o_0 (.bin rfl rfl (vF aV (neI (by omega)))) ?_;refine e_s (hcm) ?_;refine bv rfl rfl rfl (.bin rfl rfl (vT fl (decide_eq_true (cq_gt.2 h1)))) rfl rfl ?_;refine a_z ?_;refine cT (r_d hmix 4 ?_);refine a_4 ?_;refine aq (n_k ?_);refine r_m 2 ?_;refine a_z ?_;refine⟨i+1,by omega,by omega,?_⟩;simp only[grS.eq_1];rw[←hn];exact s_f []
  ·have hn:=next x (by rw[if_neg (fun e=>e.elim h0 h1)])
   refine s_r 8 ?_;refine a_1 ?_;refine o_0 (.bin rfl rfl (vF aV (neI (by omega)))) ?_;refine e_s (hcm) ?_;refine bv rfl rfl rfl (.bin rfl rfl (vF fl (decide_eq_false (mt cq_gt.1 h1)))) rfl rfl ?_;refine a_z ?_;refine cF (an (r_m 2 ?_));refine a_z ?_;refine⟨i+1,by omega,by omega,?_⟩;simp only[grS.eq_1];rw[←hn];exact s_f []
 have hge:i=l.length:=by omega
 subst hge;refine q_z 1 ?_;refine ae (cF (aB ⟨(),trivial,?_⟩));exact s_e [];rintro _ _;refine r_z 2 ?_;exact am (t_e (ag _))
abbrev bD(d:Dt):AV:= .aptr [dC d] 0 0
theorem bG(d:Dt):Closed (bD d):=aX (cz d)
theorem Dj(d:Dt)(p:Lq)(i:Nat)(hy:d.Y.length=d.X.length)(hw:d.W.length=0∨d.W.length=d.X.length)(h:okMs d p i):FS 190 [i64 i,bD d,bP p] (.agg (qC (cI (msD d p i)))):=by
 have hm:=wx d p i hy hw h;have ha:=eH (msD d p i);refine f_n Tryz.func190 ?_ ?_;exact ac (ag _) (ac (bG d) (ac (cm p) ai));refine r_z 1 ?_;refine r_c 6 (hm) ?_;refine c_s (ha) ?_;refine a_z ?_;exact am (c_e (aM _))
theorem qs_abs(q:Rat):qs (cI q)=qs q:=by
 rw[rD];split;exact iw q;rfl
theorem ym(d:Dt)(p:Lq)(h:ET d p):FS 139 [.agg (dC d),.arr (pE p)] (i64 (woD d p:Nat)):=by
 obtain⟨h0,hy,hw,hm⟩:=h;have hg:=yy d.X 190 [bD d,bP p] (fun i=>cI (msD d p i)) (ac (bG d) (ac (cm p) ai)) (by omega) (fun i hi=>by have:=(hm i hi).2.2.2.2.2.2.sm;unfold sm at *;rw[qs_abs];exact this) (fun i hi=>Dj d p i hy hw (hm i hi));refine f_n Tryz.func139 ?_ ?_;exact ac (aK (cz d)) (ac (ao p) ai);refine r_z 3 ?_;refine AWp.ent (st':=⟨[(2,bD d),(3,bP p)],[],1,9⟩) ?_ ?_;refine s_x [] (fun hs=>?_) (fun hs=>?_)
 ·repeat' (first|exact aG|refine aj rfl ?_ ?_|exact Cv.boxp hs rfl (aQ rfl) rfl (cz d)|exact Cv.boxp hs rfl (aQ rfl) rfl (ac (ao _) ai)|exact aW)
 ·repeat' (first|exact aD|refine h_c ?_ ?_|exact bC|refine aw ?_|exact ay|refine af ?_ ?_|exact Cv.boxp hs rfl (aQ rfl) rfl (cz d)|exact Cv.boxp hs rfl (aQ rfl) rfl (ac (ao _) ai)|exact aW)
 refine r_c 5 (hg) ?_;refine a_z ?_;exact am (t_e (ag _))
def riS(l:Lq):Nat→AState
 |i=>⟨[(0,.arr (pE l)),(3,i64 i)],[],1,21⟩
theorem uP(l:Lq)(hs:smL l)(hl:l.length≤1099511627776):FS 102 [.arr (pE l)] (bln (vP l)):=by
 have hll:(pE l).length=l.length:=by simp[pE]
 refine f_c Tryz.func102 ?_;refine r_z 1 ?_;refine ae (r_z 1 ?_);refine aH (fun _:Unit=>⟨[],[],1,21⟩) (fun _=>vP l=true) ?_ ?_;refine ak (aC (riS l) (fun i=>l.length- i) (fun i=>1≤i∧(i≤l.length∨i=1)∧∀j,j+1< i→coP l j< coP l (j+1)) 1 ⟨Nat.le_refl _,.inr rfl,fun j hj=>by omega⟩ ?_ ?_);simp only[riS.eq_1];exact s_e [];rintro i ⟨h1,h2,h3⟩;rw[riS.eq_1];by_cases hlt:i< l.length;obtain⟨k,rfl⟩:∃k,i=k+1:=⟨i- 1,by omega⟩;refine ae (q_z 4 ?_);refine cT (an ?_);have hg1:∀e:Nat,e=k→(pE l)[e]?=some (qC (coP l k)):=fun e he=>by rw[he];exact bK (bm (by omega))
 have hg2:∀e:Nat,e=k+1→(pE l)[e]?=some (qC (coP l (k+1))):=fun e he=>by rw[he];exact bK (bm hlt)
 have hcm:=dJ (coP l k) (coP l (k+1)) (gG hs k) (gG hs (k+1));refine ae (ak ?_);by_cases hc:coP l k< coP l (k+1);refine ae (r_d hmix 11 ?_);refine a_3 ?_
 first|refine ax (.index_l rfl rfl (by omega) (by omega) te_29.h) rfl rfl ?_|refine ax (.index_a rfl rfl (by omega) (hg1 _ (by omega)) rfl te_29.h) rfl rfl ?_
 first|refine ax (.load_l rfl rfl (hg1 _ (by omega)) TG.h TS.h (nle rfl)) rfl rfl ?_|refine ax (.load_a rfl (hg1 _ (by omega)) TG.h TS.h (nle rfl)) rfl rfl ?_
 refine a_2 ?_
 first|refine ax (.index_l rfl rfl (by omega) (by omega) te_29.h) rfl rfl ?_|refine ax (.index_a rfl rfl (by omega) (hg2 _ (by omega)) rfl te_29.h) rfl rfl ?_
 first|refine ax (.load_l rfl rfl (hg2 _ (by omega)) TG.h TS.h (nle rfl)) rfl rfl ?_|refine ax (.load_a rfl (hg2 _ (by omega)) TG.h TS.h (nle rfl)) rfl rfl ?_
 refine c_s (hcm) ?_;refine o_0 (.bin rfl rfl (vF jm (decide_eq_false (fun e=>by have:=cq_lt.2 hc;omega)))) ?_;refine aq (n_k ?_);refine cF (an (r_m 3 ?_));refine a_z ?_;refine⟨k+1+1,by omega,⟨by omega,.inl hlt,fun j hj=>?_⟩,?_⟩;by_cases e:j=k;subst e;exact hc;exact h3 j (by omega);simp only[riS.eq_1];exact s_e [];refine ae (r_d hmix 11 ?_);refine a_3 ?_
 first|refine ax (.index_l rfl rfl (by omega) (by omega) te_29.h) rfl rfl ?_|refine ax (.index_a rfl rfl (by omega) (hg1 _ (by omega)) rfl te_29.h) rfl rfl ?_
 first|refine ax (.load_l rfl rfl (hg1 _ (by omega)) TG.h TS.h (nle rfl)) rfl rfl ?_|refine ax (.load_a rfl (hg1 _ (by omega)) TG.h TS.h (nle rfl)) rfl rfl ?_
 refine a_2 ?_
 first|refine ax (.index_l rfl rfl (by omega) (by omega) te_29.h) rfl rfl ?_|refine ax (.index_a rfl rfl (by omega) (hg2 _ (by omega)) rfl te_29.h) rfl rfl ?_
 first|refine ax (.load_l rfl rfl (hg2 _ (by omega)) TG.h TS.h (nle rfl)) rfl rfl ?_|refine ax (.load_a rfl (hg2 _ (by omega)) TG.h TS.h (nle rfl)) rfl rfl ?_
 refine c_s (hcm) ?_;refine o_0 (.bin rfl rfl (vT jm (decide_eq_true (by have:=mt cq_lt.1 hc;omega)))) ?_;refine aq (n_k ?_);refine cT (r_z 1 ?_);refine am (aR rfl ?_ ?_);have:¬vP l=true:=fun e=>hc (risB_iff.1 e k hlt);rw[Bool.not_eq_true] at this;rw[this];rfl;exact ag _;refine ae (q_z 4 ?_);refine cF (aB ⟨(),risB_iff.2 fun j hj=>h3 j (by omega),?_⟩);exact s_e [];rintro _ hr;rw[hr];refine r_z 1 ?_;exact am (t_e (ag _))
theorem fs_low(w:Rat):FS 135 [.agg (qC w)] (bln (decide (w≤0))):=by
 have e:decide (sgZ w.num≤(0:Int))=decide (w≤0):=by
  have h:=r9 (q:=w);by_cases g:w≤0;rw[decide_eq_true g,decide_eq_true];have:¬0< sgZ w.num:=fun e=>by have:=h.1 e;grind
  omega;rw[decide_eq_false g,decide_eq_false];have:0< sgZ w.num:=h.2 (by grind);omega
 refine f_c Tryz.func135 ?_;refine r_z 2 ?_;refine r_c 4 (b6 w) ?_;refine a_z ?_;refine am (aR rfl ?_ ?_);rw[←e];rfl;exact ag _
def mE(k:Lw):Lc:=k.map fun e=>[.arr (pE e)]
@[simp] theorem Dd (k:Lw):(mE k).length=k.length:=by simp[mE]
theorem DN(k:Lw):∀x∈mE k,∀c∈x,Closed c:=fun x hx=>by
 obtain⟨p,_,rfl⟩:=List.mem_map.1 hx;exact ac (ao _) ai
theorem closed_mA(k:Lw):Closed (.arr (mE k)):=aP (DN k)
theorem FP{α:Type}{l:List α}{i:Nat}{a:α}(h:l[i]?=some a):l.drop i=a::l.drop (i+1):=by
 obtain⟨h1,h2⟩:=List.getElem?_eq_some_iff.1 h;rw[List.drop_eq_getElem_cons h1,h2]
theorem E7{k:Lw}{i:Nat}{p:Lq}(h:k[i]?=some p):∀e,e=i→(mE k)[e]?=some [.arr (pE p)]:=fun e he=>by
 rw[he,mE,List.getElem?_map,h];rfl
def irS(k:Lw)(g:Nat)(cap:La):Nat→AState
 |i=>⟨[(0,.arr (mE k)),(1,.clos g [] cap),(7,i64 k.length),(8,i64 i)],[],1,19⟩
theorem DB(k:Lw)(g:Nat)(cap:La)(t:Lq→Bool)(hcap:∀c∈cap,Closed c)(hl:k.length≤1099511627776)(hg:∀p∈k,FS g ((.arr (pE p)::cap).map coe) (bln (t p))):FS 125 [.arr (mE k),.clos g [] cap] (i64 (ui t k 0)):=by
 have hcc:Closed (.clos g [] cap):=aT ai hcap;have hkl:(mE k).length=k.length:=Dd k;refine f_c Tryz.func125 ?_;obtain⟨R,hR⟩:∃R,R=ui t k 0:=⟨_,rfl⟩;rw[←hR];refine r_z 1 ?_;refine ae (r_z 3 ?_);refine aH (fun _:Unit=>⟨[],[],1,19⟩) (fun _=>R= -1) ?_ ?_;refine ak (aC (irS k g cap) (fun i=>k.length- i) (fun i=>i≤k.length∧ui t (k.drop i) i=R) 0 ⟨Nat.zero_le _,by rw[hR];rfl⟩ ?_ ?_);simp only[irS.eq_1];exact s_x [] (fun hs=>e_27) (fun hs=>e_28);rintro i ⟨hi,hr⟩;rw[irS.eq_1];by_cases hlt:i< k.length;refine q_z 1 ?_;refine ae (cT (an ?_));obtain⟨p,hp⟩:∃p,k[i]?=some p:=⟨_,List.getElem?_eq_getElem hlt⟩;have hgt:(mE k)[((i:Nat):Int).toNat]?=some [.arr (pE p)]:=E7 hp _ (by simp);rw[FP hp,ui] at hr;refine ae (ak (r_z 2 ?_));refine s_r 6 ?_;refine a_3 ?_;refine i_x hgt ?_;refine l_1 hgt ?_;refine c_s (hg p (List.mem_of_getElem? hp)) ?_;refine aq ?_;refine au rfl (fun h1=>?_) (fun h1=>?_);have h2:t p=true:=h1;rw[if_pos h2] at hr;refine r_z 2 ?_;refine am (aR rfl ?_ ?_);rw[←hr];exact ag _;have h2:¬t p=true:=by rw[show t p=false from h1];decide
 rw[if_neg h2] at hr;refine an (r_m 2 ?_);refine a_z ?_;refine⟨i+1,by omega,⟨hlt,hr⟩,?_⟩;simp only[irS.eq_1];exact s_x [] (fun hs=>e_27) (fun hs=>e_28);have hge:i=k.length:=by omega
 subst hge;refine q_z 1 ?_;refine ae (cF ?_);rw[List.drop_length] at hr;refine aB ⟨(),hr.symm,?_⟩;exact s_e [];rintro _ hr;refine r_z 1 ?_;refine am (aR rfl ?_ ?_);rw[hr];rfl;exact ag _
theorem AG(e:Lq)(c:Nat)(x:Rat)(hx:e[c]?=some x):FS 126 [.arr (pE e),.aptr [[i64 c]] 0 0] (bln (decide (x≠0))):=by
 have hlt:c< e.length:=(List.getElem?_eq_some_iff.1 hx).1;have hl:(pE e).length=e.length:=by simp[pE]
 have g1:(pE e)[((c:Nat):Int).toNat]?=some (qC x):=by simp[pE,hx]
 refine f_c Tryz.func126 ?_;refine r_z 1 ?_;refine s_r 7 ?_;refine a_2 ?_;refine i_x g1 ?_;refine l_x g1 ?_;refine c_s (b6 x) ?_;refine a_z ?_;refine am (aR rfl ?_ ?_);rw[show decide (x≠0)=decide (sgZ x.num≠0) from decide_eq_decide.2 (not_congr sgZ_num_eq.symm)]
 first|rfl|(congr 1;cases hb:decide (sgZ x.num=0) with|true=>(have:=of_decide_eq_true hb;simp[this])|false=>(have:=of_decide_eq_false hb;simp[bln,bne,this]))
 exact ag _
end Go.Proofs.YtjgokhkahkmpbaaGreatDoor
