/- Part V23 of the proof. -/
import Derived.Test.YtjkddcfoolilbaaGreatDoorV22
set_option linter.all false
namespace Go.Proofs.YtjkddcfoolilbaaGreatDoor
open Go.Abs
set_option maxRecDepth 20000
set_option maxHeartbeats 1000000
def aloneM(f g:Nat)(c:Cnt)(i:Int):Option Sp:=(spanM f c i 0).bind fun s0=>(i7_ (fun k=>jr_ c i (closV c i s0 k)) g 0).map (closV c i s0)
theorem r6_(f g:Nat)(c:Cnt)(i:Int)(s:Sp)(h:aloneM f g c i=some s):FS 291 [plA c i] (.agg (spC s.1 s.2)):=by
 obtain⟨s0,h1,h2⟩:=Option.bind_eq_some_iff.1 h;obtain⟨k,h3,rfl⟩:=Option.map_eq_some_iff.1 h2;exact fs_alone f g c i s0 k h1 h3
def mS_(f g:Nat)(c:Cnt)(i:Int)(q:List Rat):Option Bool:=
 if c.p.length≤274877906944∧q.length≤274877906944 then(gcdM f c.p q).bind fun d=>
  if d.length≤274877906944 then
   if degP d< 1 then some false
   else(ek_ f d).bind fun c2=>(aloneM f g c i).bind fun s=>if okUp c2 s.2∧okBe c2 s.1 then some (decide (cz_ c2 s.1< uptoV c2 s.2)) else none
  else none
 else none
theorem rW_(f g:Nat)(c:Cnt)(i:Int)(q:List Rat)(r:Bool)(h:mS_ f g c i q=some r)(hf:f≤1000000):FS 273 [plA c i,.arr (pE q)] (bln r):=by
 unfold mS_ at h;split at h
 case isFalse=>cases h
 case isTrue hl=>
 obtain⟨d,hd,h2⟩:=Option.bind_eq_some_iff.1 h;split at h2
 case isFalse=>cases h2
 case isTrue hdl=>
 refine f_n Tryz.func273 ?_ ?_;exact aa_ (bA_ c i) (aa_ (ar_ q) ac_);refine r_z 1 ?_;refine r_c 10 (fs_Gcd f c.p q d hd hl.1 hl.2) ?_;refine a_z ?_;refine ab_ (r_c 3 (b5_ d (by omega)) ?_);refine a_z ?_;refine aj_ rfl (fun h3=>?_) (fun h3=>?_);have h4:degP d< 1:=by simpa using h3
 rw[if_pos h4] at h2;cases h2;refine r_z 1 ?_;exact af_ (t_e (ad_ _))
 ·have h4:¬degP d< 1:=by simpa using h3
  rw[if_neg h4] at h2;obtain⟨c2,hc2,h5⟩:=Option.bind_eq_some_iff.1 h2;obtain⟨s,hs,h6⟩:=Option.bind_eq_some_iff.1 h5;split at h6
  case isFalse=>cases h6
  case isTrue hk=>
  cases h6;refine ah_ (r_c 7 (iZ_ f d c2 hc2 hf) ?_);refine c_s (r6_ f g c i s hs) ?_;refine a_z ?_;refine ab_ (r_d hmix 10 ?_);refine c_s (gW_ c2 s.2 hk.1) ?_;refine c_s (fx_ c2 s.1 hk.2) ?_;refine a_2 ?_;refine al_ (n_k ?_);exact af_ (t_e (ad_ _))
def signT(c:Cnt)(i:Int)(c2:Cnt)(s:Sp):Option Bool:=if okUp c2 s.2∧okBe c2 s.1∧hA_ c s then some (decide (uptoV c2 s.2=cz_ c2 s.1)) else none
def signM(f g:Nat)(c:Cnt)(i:Int)(q:List Rat):Option Int:=
 if q.length≤274877906944 then
  if degP q< 0 then some 0
  else(mS_ f g c i q).bind fun b=>if b then some 0 else(ek_ f q).bind fun c2=>(spanM f c i 0).bind fun s0=>
   (i7_ (fun k=>signT c i c2 (closV c i s0 k)) g 0).bind fun k=>if dv_ q (closV c i s0 k).2 then some (sgZ (evalP q (closV c i s0 k).2).num) else none
 else none
def pgS(c:Cnt)(i:Int)(q:List Rat)(c2:Cnt):Nat→AState
 |k=>⟨[(0,plA c i),(3,bP q),(4,.lptr 1 0 0),(5,.aptr [[kA c2]] 0 0),(18,.clos 265 [] [bPl c i])],[(1,some ⟨3,1,[[i64 0]]⟩)],2,34⟩
def pgX(r:Int):Unit→AState
 |u=>⟨[(4,.lptr 1 0 0)],[(1,some ⟨3,1,[[i64 r]]⟩)],2,34⟩
theorem kb_(c:Cnt):Closed (.aptr [[kA c]] 0 0):=aL_ (aa_ (dB_ c) ac_)
theorem fs_sign(f g:Nat)(c:Cnt)(i:Int)(q:List Rat)(r:Int)(h:signM f g c i q=some r)(hf:f≤1000000):FS 233 [plA c i,.arr (pE q)] (i64 r):=by
 unfold signM at h;split at h
 case isFalse=>cases h
 case isTrue hl=>
 refine f_n Tryz.func233 ?_ ?_;exact aa_ (bA_ c i) (aa_ (ar_ q) ac_);refine r_z 2 ?_;refine AWp.ent (st':=⟨[(0,plA c i),(3,bP q),(4,.lptr 1 0 0)],[(1,some ⟨3,1,[[i64 0]]⟩)],2,34⟩) ?_ ?_;exact s_f [(1,4)];by_cases hd:degP q< 0;rw[if_pos hd] at h;cases h;refine ab_ (r_c 8 (b5_ q (by omega)) ?_);refine a_2 ?_;refine n_g rfl (by simp[hd]) ?_;refine n_g rfl (by simp[hd]) ?_;refine n_g rfl (by simp[hd]) ?_;refine o_0 (.pickT rfl (by simp[hd]) rfl) ?_;refine al_ ?_;refine aj_ rfl (fun h1=>?_) (fun h1=>?_);refine r_z 1 ?_;exact af_ (Fin.cell1E rfl rfl rfl TG.h rfl rfl (ad_ _));cases h1;rw[if_neg hd] at h;obtain⟨b,hb,h2⟩:=Option.bind_eq_some_iff.1 h;refine ab_ (r_c 8 (b5_ q (by omega)) ?_);refine a_2 ?_;refine y_g rfl (by simp[hd]) (.move rfl) ?_
 first|refine y_g rfl (by simp[hd]) (.load_l1 rfl rfl rfl TG.h rfl) ?_|refine y_g rfl (by simp[hd]) (.load_a1 rfl rfl TG.h rfl) ?_
 refine y_g rfl (by simp[hd]) (.call rfl rfl rfl (rW_ f g c i q b hb hf)) ?_;refine o_0 (.pickF rfl (by simp[hd]) rfl) ?_;refine al_ ?_;refine aj_ rfl (fun h1=>?_) (fun h1=>?_);have hb1:b=true:=h1;subst hb1;rw[if_pos rfl] at h2;cases h2;refine r_z 1 ?_;exact af_ (Fin.cell1E rfl rfl rfl TG.h rfl rfl (ad_ _));have hb1:b=false:=h1;subst hb1;rw[if_neg (show¬false=true by decide)] at h2;obtain⟨c2,hc2,h3⟩:=Option.bind_eq_some_iff.1 h2;obtain⟨s0,hs0,h4⟩:=Option.bind_eq_some_iff.1 h3;obtain⟨kk,hkk,h5⟩:=Option.bind_eq_some_iff.1 h4;split at h5
 case isFalse=>cases h5
 case isTrue hev=>
 cases h5;obtain⟨t1,_,t2⟩:=eM_ hkk
 have hok:∀k,k≤kk→okUp c2 (closV c i s0 k).2∧okBe c2 (closV c i s0 k).1∧hA_ c (closV c i s0 k):=fun k hk=>by
  have:∃b,signT c i c2 (closV c i s0 k)=some b:=by
   by_cases e:k=kk;rw[e];exact⟨_,t1⟩;exact⟨_,t2 k (Nat.zero_le _) (by omega)⟩
  obtain⟨b,hb⟩:=this;unfold signT at hb;split at hb;assumption;cases hb
 have hgs:=iS_ f c i s0 kk hs0 (fun k hk=>(hok k (by omega)).2.2);obtain⟨r,hr⟩:∃r,r=sgZ (evalP q (closV c i s0 kk).2).num:=⟨_,rfl⟩;rw[←hr];refine ah_ (r_c 4 (iZ_ f q c2 hc2 hf) ?_);refine a_z ?_;refine AWp.ent (st':=⟨[(0,plA c i),(3,bP q),(4,.lptr 1 0 0),(5,.aptr [[kA c2]] 0 0)],[(1,some ⟨3,1,[[i64 0]]⟩)],2,34⟩) ?_ ?_;have:=(aa_ (dB_ c2) ac_);exact s_f [];refine ab_ (r_c 2 (i1_ c i) ?_);refine al_ ?_;refine aw_ (pgX r) (fun _=>False) ?_ (fun _ h=>h.elim);refine ae_ (AWp.rangeFuncB (α:=Nat) (γ:=Unit) kk (pgS c i q c2) (fun k=>k) (fun k=>k≤kk) (pgX r) (fun e _=>e= .ret) 0 rfl hgs rfl rfl ?_ (fun _=>⟨rfl,rfl⟩) (fun _=>rfl) (Nat.zero_le _) rfl (fun _ h=>h) ?_ ?_ ?_ ?_ ?_);intro k xs hT;cases hT;rfl;rw[pgS.eq_1];have:=kb_ c2;exact s_t [];exact aa_ (bI_ c i) ac_;intro l k xs hk hT;cases hT;have hx:=hok k hk;obtain⟨s,hsd⟩:∃s,s=closV c i s0 k:=⟨_,rfl⟩;rw[←hsd] at hx⊢;obtain⟨x1,x2,x3⟩:=hx;show AWp _ _ _ _ ⟨[(19,.agg (spC s.1 s.2)),(0,plA c i),(3,bP q),(4,.lptr 1 0 0),(5,.aptr [[kA c2]] 0 0),(18,.clos 265 [] [bPl c i]),(1000,plA c i),(1003,bP q),(1004,.lptr 1 0 0),(1005,.aptr [[kA c2]] 0 0),(1018,.clos 265 [] [bPl c i])],[(1,some ⟨3,1,[[i64 0]]⟩)],2,34⟩;refine r_m 2 ?_;refine a_z ?_;refine ae_ (ab_ (r_d hmix 9 ?_));refine c_s (gW_ c2 s.2 x1) ?_;refine c_s (fx_ c2 s.1 x2) ?_;refine a_1 ?_;refine al_ (n_k ?_);refine aj_ rfl (fun h6=>?_) (fun h6=>?_);have h7:uptoV c2 s.2=cz_ c2 s.1:=by simpa using h6
 have he:k=kk:=by
  refine Nat.le_antisymm hk (Nat.le_of_not_lt fun hlt=>?_);have h8:=t2 k (Nat.zero_le _) hlt;rw[←hsd] at h8;unfold signT at h8;rw[if_pos ⟨x1,x2,x3⟩] at h8;simp[h7] at h8
 subst he;rw[←hsd] at hev hr;refine r_c 6 (fa_ q s.2 hev) ?_;refine c_s (br_ (evalP q s.2)) ?_;refine a_z ?_;refine af_ (⟨rfl,(),rfl,?_⟩);rw[hr];show SEntT _ ⟨[(1004,.lptr 1 0 0)],[(1,some ⟨3,1,[[i64 (sgZ (evalP q s.2).num)]]⟩)],2,34⟩;exact s_t [];have h7:¬uptoV c2 s.2=cz_ c2 s.1:=by simpa using h6
 have he:k< kk:=by
  refine Nat.lt_of_le_of_ne hk fun e=>?_;subst e;rw[←hsd] at t1;unfold signT at t1;rw[if_pos ⟨x1,x2,x3⟩] at t1;simp[h7] at t1
 refine ah_ (⟨k+1,⟨he,rfl⟩,?_⟩);show SEntT _ ⟨[(1000,plA c i),(1003,bP q),(1004,.lptr 1 0 0),(1005,.aptr [[kA c2]] 0 0),(1018,.clos 265 [] [bPl c i])],[(1,some ⟨3,1,[[i64 0]]⟩)],2,34⟩;have:=kb_ c2;exact s_t [];intro k hk hT;cases hT;rintro e u rfl;exact Fin.cell1E rfl rfl rfl TG.h rfl rfl (ad_ _)
def valT(c:Cnt)(q:List Rat)(step:Rat)(s:Sp):Option Bool:=if om_ q s∧smS (overP q s)∧sm ((overP q s).2- (overP q s).1)∧sm step∧hA_ c s then some (decide (cmpQ ((overP q s).2- (overP q s).1) step< 0)) else none
def valR(f g:Nat)(c:Cnt)(i:Int)(q:List Rat)(k:Int)(v:Sp):Option Sp:=
 if sm (downQ v.2 (wi k 256))∧smS v∧sm (fineQ (wi k 256))∧smL q∧q.length≤274877906944 then
  if cmpQ (downQ v.2 (wi k 256)) v.1< 0 then some (downQ v.2 (wi k 256),downQ v.2 (wi k 256)+fineQ (wi k 256))
  else(signM f g c i (subP q (bo_ (downQ v.2 (wi k 256))))).bind fun sg=>
   some (if sg=0 then(downQ v.2 (wi k 256),downQ v.2 (wi k 256)) else if sg=1 then(downQ v.2 (wi k 256),downQ v.2 (wi k 256)+fineQ (wi k 256)) else(downQ v.2 (wi k 256)- fineQ (wi k 256),downQ v.2 (wi k 256)))
 else none
def qq_(f g:Nat)(c:Cnt)(i:Int)(q:List Rat)(k:Int):Option Sp:=
 (spanM f c i 0).bind fun s0=>(i7_ (fun j=>valT c q (fineQ (wi k 256)) (closV c i s0 j)) g 0).bind fun j=>valR f g c i q k (overP q (closV c i s0 j))
abbrev bI(k:Int):AV:= .aptr [[i64 k]] 0 0
theorem ew_(k:Int):Closed (bI k):=aL_ (aa_ (ad_ _) ac_)
def vaS(c:Cnt)(i:Int)(q:List Rat)(k:Int)(step:Rat):Nat→AState
 |j=>⟨[(3,bPl c i),(4,bP q),(5,bI k),(6,.lptr 1 0 0),(7,bQ step),(14,.clos 265 [] [bPl c i])],[(1,some ⟨74,6,[zC++zC]⟩)],2,61⟩
def vaX(r:Sp):Unit→AState
 |u=>⟨[(6,.lptr 1 0 0)],[(1,some ⟨74,6,[spC r.1 r.2]⟩)],2,61⟩
theorem fs_value(f g:Nat)(c:Cnt)(i:Int)(q:List Rat)(k:Int)(r:Sp)(h:qq_ f g c i q k=some r)(hf:f≤1000000):FS 193 [plA c i,.arr (pE q),i64 k] (.agg (spC r.1 r.2)):=by
 unfold qq_ at h;obtain⟨s0,hs0,h2⟩:=Option.bind_eq_some_iff.1 h;obtain⟨kk,hkk,hR⟩:=Option.bind_eq_some_iff.1 h2;obtain⟨t1,_,t2⟩:=eM_ hkk;obtain⟨step,hst⟩:∃step,step=fineQ (wi k 256):=⟨_,rfl⟩;rw[←hst] at t1 t2
 have hok:∀j,j≤kk→om_ q (closV c i s0 j)∧smS (overP q (closV c i s0 j))∧sm ((overP q (closV c i s0 j)).2- (overP q (closV c i s0 j)).1)∧sm step∧hA_ c (closV c i s0 j):=fun j hj=>by
  have:∃b,valT c q step (closV c i s0 j)=some b:=by
   by_cases e:j=kk;rw[e];exact⟨_,t1⟩;exact⟨_,t2 j (Nat.zero_le _) (by omega)⟩
  obtain⟨b,hb⟩:=this;unfold valT at hb;split at hb;assumption;cases hb
 have hgs:=iS_ f c i s0 kk hs0 (fun j hj=>(hok j (by omega)).2.2.2.2);have hfi:=i4_ k;rw[←hst] at hfi;refine f_n Tryz.func193 ?_ ?_;exact aa_ (bA_ c i) (aa_ (ar_ q) (aa_ (ad_ _) ac_));refine r_z 4 ?_;refine r_c 4 (hfi) ?_;refine a_z ?_;refine AWp.ent (st':=⟨[(3,bPl c i),(4,bP q),(5,bI k),(6,.lptr 1 0 0),(7,bQ step)],[(1,some ⟨74,6,[zC++zC]⟩)],2,61⟩) ?_ ?_;have:=(aa_ (bA_ c i) ac_);exact s_f [(1,6)];refine ab_ (r_c 2 (i1_ c i) ?_);refine al_ ?_;refine aw_ (vaX r) (fun _=>False) ?_ (fun _ h=>h.elim);refine ae_ (AWp.rangeFuncB (α:=Nat) (γ:=Unit) kk (vaS c i q k step) (fun j=>j) (fun j=>j≤kk) (vaX r) (fun e _=>e= .ret) 0 rfl hgs rfl rfl ?_ (fun _=>⟨rfl,rfl⟩) (fun _=>rfl) (Nat.zero_le _) rfl (fun _ h=>h) ?_ ?_ ?_ ?_ ?_);intro j xs hT;cases hT;rfl;rw[vaS.eq_1];have:=ew_ k;exact s_t [];exact aa_ (bI_ c i) ac_;intro l j xs hj hT;cases hT;have hx:=hok j hj;obtain⟨s,hsd⟩:∃s,s=closV c i s0 j:=⟨_,rfl⟩;rw[←hsd] at hx⊢;obtain⟨x1,x2,x3,x4,x5⟩:=hx;obtain⟨v,hv⟩:∃v,v=overP q s:=⟨_,rfl⟩;have hov:=fs_Over q s x1;rw[←hv] at hov x2 x3;show AWp _ _ _ _ ⟨[(15,.agg (spC s.1 s.2)),(3,bPl c i),(4,bP q),(5,bI k),(6,.lptr 1 0 0),(7,bQ step),(14,.clos 265 [] [bPl c i]),(1003,bPl c i),(1004,bP q),(1005,bI k),(1006,.lptr 1 0 0),(1007,bQ step),(1014,.clos 265 [] [bPl c i])],[(1,some ⟨74,6,[zC++zC]⟩)],2,61⟩;refine r_m 2 ?_;refine a_z ?_;refine ae_ (r_c 5 (hov) ?_);refine a_z ?_;refine ab_ (ab_ (r_d hmix 5 ?_));refine c_s (l7_ v.1 v.2 x2.1 x2.2) ?_;refine c_s (l4_ (v.2- v.1) step x3 x4) ?_;refine a_1 ?_
 refine al_ (n_k ?_);refine aj_ rfl (fun h6=>?_) (fun h6=>?_)
 have h7:¬cmpQ (v.2- v.1) step< 0:=by
  have:0≤cmpQ (v.2- v.1) step:=by simpa using h6
  omega
 have he:j< kk:=by
  refine Nat.lt_of_le_of_ne hj fun e=>?_;subst e;rw[←hsd] at t1;unfold valT at t1;rw[←hv] at t1;rw[if_pos ⟨x1,x2,x3,x4,x5⟩] at t1;simp[h7] at t1
 refine ao_ (⟨j+1,⟨he,rfl⟩,?_⟩);show SEntT _ ⟨[(1003,bPl c i),(1004,bP q),(1005,bI k),(1006,.lptr 1 0 0),(1007,bQ step),(1014,.clos 265 [] [bPl c i])],[(1,some ⟨74,6,[zC++zC]⟩)],2,61⟩;have:=ew_ k;exact s_t []
 ·have h7:cmpQ (v.2- v.1) step< 0:=by
   have:¬0≤cmpQ (v.2- v.1) step:=by simpa using h6
   omega
  have he:j=kk:=by
   refine Nat.le_antisymm hj (Nat.le_of_not_lt fun hlt=>?_);have h8:=t2 j (Nat.zero_le _) hlt;rw[←hsd] at h8;unfold valT at h8;rw[←hv] at h8;rw[if_pos ⟨x1,x2,x3,x4,x5⟩] at h8;simp[h7] at h8
  subst he;rw[←hsd,←hv] at hR;unfold valR at hR;rw[←hst] at hR;obtain⟨m,hm⟩:∃m,m=downQ v.2 (wi k 256):=⟨_,rfl⟩;rw[←hm] at hR;split at hR
  case isFalse=>cases hR
  case isTrue hz=>
  obtain⟨z1,z2,z3,z4,z5⟩:=hz;have hdn:=sf_ v.2 k x2.2;rw[←hm] at hdn;refine ah_ (r_c 6 (hdn) ?_);refine a_z ?_;refine ab_ (r_c 5 (l4_ m v.1 z1 z2.1) ?_);refine a_z ?_;refine aj_ rfl (fun h8=>?_) (fun h8=>?_);have h9:cmpQ m v.1< 0:=by simpa using h8
  rw[if_pos h9] at hR;cases hR;refine ab_ (r_d hmix 6 ?_);refine c_s (dy_ m step (sm2 z1 z3)) ?_;refine a_2 ?_;refine al_ (n_k ?_);refine af_ (⟨rfl,(),rfl,?_⟩);show SEntT _ ⟨[(1006,.lptr 1 0 0)],[(1,some ⟨74,6,[spC (m,m+step).1 (m,m+step).2]⟩)],2,61⟩;have:=ew_ k;exact s_t [];have h9:¬cmpQ m v.1< 0:=by simpa using h8
  rw[if_neg h9] at hR;obtain⟨sg,hsg,hR2⟩:=Option.bind_eq_some_iff.1 hR;cases hR2;have hcl:=dS_ m;have hsmc:smL (bo_ m):=kg_ fun x hx=>by rw[List.mem_singleton.1 hx];exact z1
  refine ah_ (ab_ (ab_ (r_d hmix 6 ?_)));refine c_s (i0_ m) ?_;refine c_s (fs_Sub q (bo_ m) z4 hsmc (by omega) (by omega)) ?_;refine c_s (fs_sign f g c i (subP q (bo_ m)) sg hsg hf) ?_;refine al_ (n_k ?_);refine ae_ (r_z 2 ?_);refine aj_ rfl (fun h10=>?_) (fun h10=>?_);have h11:sg=0:=by simpa using h10
  refine r_c 3 (fs_At m) ?_;refine a_z ?_;refine af_ (⟨rfl,(),rfl,?_⟩);rw[if_pos h11];show SEntT _ ⟨[(1006,.lptr 1 0 0)],[(1,some ⟨74,6,[spC (m,m).1 (m,m).2]⟩)],2,61⟩;have:=ew_ k;exact s_t [];have h11:¬sg=0:=by simpa using h10
  refine r_z 2 ?_;refine aj_ rfl (fun h12=>?_) (fun h12=>?_);have h13:sg=1:=by simpa using h12
  refine ab_ (r_d hmix 6 ?_);refine c_s (dy_ m step (sm2 z1 z3)) ?_;refine a_2 ?_;refine al_ (n_k ?_);refine af_ (⟨rfl,(),rfl,?_⟩);rw[if_neg h11,if_pos h13];show SEntT _ ⟨[(1006,.lptr 1 0 0)],[(1,some ⟨74,6,[spC (m,m+step).1 (m,m+step).2]⟩)],2,61⟩;have:=ew_ k;exact s_t [];have h13:¬sg=1:=by simpa using h12
  refine ah_ (ab_ (r_d hmix 6 ?_));refine c_s (gz_ m step (sm2 z1 z3)) ?_;refine a_3 ?_;refine al_ (n_k ?_);refine af_ (⟨rfl,(),rfl,?_⟩);rw[if_neg h11,if_neg h13];show SEntT _ ⟨[(1006,.lptr 1 0 0)],[(1,some ⟨74,6,[spC (m- step,m).1 (m- step,m).2]⟩)],2,61⟩;have:=ew_ k;exact s_t []
 intro j hj hT;cases hT;rintro e u rfl;exact Fin.cell rfl rfl rfl TG.h TS.h (nle rfl) (ak_ ax_ (aY_ _ _))
def hullS(a b:Sp):Sp:=(minL [a.1,b.1],maxL [a.2,b.2])
def qSpan(a:Rat)(k:Int):Sp:=(downQ a (wi k 256),upQ a (wi k 256))
def rlM(f g:Nat)(c:Cnt)(p:List Rat)(k:Int)(up:Int):Nat→Int→Sp→Option Sp
 |0,_,_=>none
 |n+1,i,o=>if i< up then(qq_ f g c i p k).bind fun v=>if smS o∧smS v then rlM f g c p k up n (i+1) (hullS o v) else none else some o
def rf_(p:List Rat)(s:Sp)(k:Int):Prop:=smS s∧dv_ p s.1∧dv_ p s.2∧smL p∧p.length≤274877906944∧cmpQ s.1 s.2≤0∧degP p≤40∧smS (qSpan (evalP p s.1) k)∧smS (qSpan (evalP p s.2) k)
instance (p:List Rat) (s:Sp) (k:Int):Decidable (rf_ p s k):=inferInstanceAs (Decidable (_∧_∧_∧_∧_∧_∧_∧_∧_))
def oa_(f g:Nat)(p:List Rat)(s:Sp)(k:Int):Option Sp:=
 if rf_ p s k then
  if degP (bz_ p)< 0 then some (hullS (qSpan (evalP p s.1) k) (qSpan (evalP p s.2) k))
  else(ek_ f (bz_ p)).bind fun c=>if okBe c s.1∧okUp c s.2 then rlM f g c p k (uptoV c s.2) g (cz_ c s.1) (hullS (qSpan (evalP p s.1) k) (qSpan (evalP p s.2) k)) else none
 else none
def rgS(p:List Rat)(s:Sp)(k:Int)(c:Cnt):Int×Sp→AState
 |(i,o)=>⟨[(0,.arr (pE p)),(2,i64 k),(4,bS s),(6,.lptr 1 0 0),(8,.lptr 2 0 0),(10,kA c),(11,i64 i)],[(1,some ⟨74,6,[zC++zC]⟩),(2,some ⟨74,6,[spC o.1 o.2]⟩)],3,66⟩
theorem oG_(f g:Nat)(p:List Rat)(s:Sp)(k:Int)(r:Sp)(h:oa_ f g p s k=some r)(hf:f≤1000000):FS 154 [.arr (pE p),.agg (spC s.1 s.2),i64 k] (.tup [.agg (spC r.1 r.2),i64 0]):=by
 unfold oa_ at h;split at h
 case isFalse=>cases h
 case isTrue hk=>
 obtain⟨k1,k2,k3,k4,k5,k6,k7,k8,k9⟩:=hk;have hdl:=ga_ p;obtain⟨o0,ho⟩:∃o,o=hullS (qSpan (evalP p s.1) k) (qSpan (evalP p s.2) k):=⟨_,rfl⟩;have hhu:=oF_ (qSpan (evalP p s.1) k).1 (qSpan (evalP p s.1) k).2 (qSpan (evalP p s.2) k).1 (qSpan (evalP p s.2) k).2 k8.1 k8.2 k9.1 k9.2;rw[←ho] at h;have hhu':FS 188 [.agg (spC (qSpan (evalP p s.1) k).1 (qSpan (evalP p s.1) k).2),.agg (spC (qSpan (evalP p s.2) k).1 (qSpan (evalP p s.2) k).2)] (.agg (spC o0.1 o0.2)):=by rw[ho];exact hhu
 refine f_c Tryz.func154 ?_;refine r_z 3 ?_;refine aP_ (fun _:Unit=>⟨[(0,.arr (pE p)),(2,i64 k),(4,bS s),(6,.lptr 1 0 0)],[(1,some ⟨74,6,[zC++zC]⟩)],2,66⟩) (fun _=>True) ?_ ?_;refine ae_ (r_c 4 (gC_ s.1 s.2 k1.1 k1.2) ?_);refine a_z ?_;refine aj_ rfl (fun h1=>?_) (fun h1=>?_);exact absurd h1 (by simp[k6]);refine r_c 4 (b5_ p (by omega)) ?_;refine a_z ?_;refine aj_ rfl (fun h2=>?_) (fun h2=>?_);exact absurd h2 (by simp;omega);refine ah_ ⟨(),trivial,?_⟩;exact s_e [(1,6)];rintro _ _;refine ab_ (r_d hmix 15 ?_);refine c_s (fa_ p s.1 k2) ?_;refine c_s (oH_ (evalP p s.1) k (kZ_ k2)) ?_;refine c_s (fa_ p s.2 k3) ?_;refine c_s (oH_ (evalP p s.2) k (kZ_ k3)) ?_;refine c_s (hhu') ?_;refine a_2 ?_;refine al_ (n_k ?_);refine ab_ (r_c 3 (i5_ p k4 (by omega)) ?_);refine a_z ?_;refine r_c 3 (b5_ (bz_ p) (by omega)) ?_;refine a_z ?_;refine aw_ (fun _:Unit=>⟨[(6,.lptr 1 0 0),(8,.lptr 2 0 0)],[(1,some ⟨74,6,[zC++zC]⟩),(2,some ⟨74,6,[spC r.1 r.2]⟩)],3,66⟩) (fun _=>True) ?_ ?_;refine aj_ rfl (fun h3=>?_) (fun h3=>?_)
 ·have h4:¬degP (bz_ p)< 0:=by
   have:0≤degP (bz_ p):=by simpa using h3
   omega
  rw[if_neg h4] at h;obtain⟨c,hc,h5⟩:=Option.bind_eq_some_iff.1 h;split at h5
  case isFalse=>cases h5
  case isTrue hb=>
  refine r_c 3 (iZ_ f (bz_ p) c hc hf) ?_;refine a_z ?_;refine r_c 5 (fx_ c s.1 hb.1) ?_;refine a_z ?_;have hub:=hP_ (x:=s.2) hb.2.1;have hbb:=sT_ (x:=s.1) hb.1.1.1;refine ae_ (aq_ (fun x:Nat×Int×Sp=>rgS p s k c x.2) (fun x=>x.1) (fun x=>rlM f g c p k (uptoV c s.2) x.1 x.2.1 x.2.2=some r∧ -4611686018427387904≤x.2.1) (g,cz_ c s.1,o0) ⟨h5,by simp only;omega⟩ ?_ ?_);simp only[rgS.eq_1];exact s_e [(2,8)];rintro⟨n,i,o⟩ ⟨hrl,hil⟩;simp only at hrl hil;simp only[rgS.eq_1];cases n with
  |zero=>cases hrl
  |succ n=>
   rw[rlM] at hrl;refine ab_ (r_c 6 (gW_ c s.2 hb.2) ?_);refine a_z ?_;refine aj_ rfl (fun h6=>?_) (fun h6=>?_)
   ·have h7:i< uptoV c s.2:=by simpa using h6
    rw[if_pos h7] at hrl;obtain⟨v,hv,h8⟩:=Option.bind_eq_some_iff.1 hrl;split at h8
    case isFalse=>cases h8
    case isTrue hsm=>
    have hhv:FS 188 [.agg (spC o.1 o.2),.agg (spC v.1 v.2)] (.agg (spC (hullS o v).1 (hullS o v).2)):=oF_ o.1 o.2 v.1 v.2 hsm.1.1 hsm.1.2 hsm.2.1 hsm.2.2;refine ah_ (ab_ (ae_ (r_z 5 ?_)));refine AWp.ent (st':=⟨[(0,.arr (pE p)),(2,i64 k),(4,bS s),(6,.lptr 1 0 0),(8,.lptr 2 0 0),(10,kA c),(11,i64 i),(12,plA c i)],[(1,some ⟨74,6,[zC++zC]⟩),(2,some ⟨74,6,[spC o.1 o.2]⟩)],3,66⟩) ?_ ?_;refine s_x [] (fun hs=>?_) (fun hs=>?_)
    ·repeat' (first|exact aH_|refine ap_ rfl ?_ ?_|exact Cv.boxp hs rfl (aK_ rfl) rfl (aa_ (dB_ c) (aa_ (ad_ _) ac_))|exact au_c)
    ·repeat' (first|exact az_|refine h_c ?_ ?_|exact au_e|refine av_ ?_|exact an_|refine ai_ ?_ ?_|exact Cv.boxp hs rfl (aK_ rfl) rfl (aa_ (dB_ c) (aa_ (ad_ _) ac_))|exact au_c)
    refine r_d hmix 7 ?_;refine c_s (fs_value f g c i p k v hv hf) ?_;refine c_s (hhv) ?_;refine a_1 ?_;refine al_ (n_k ?_);refine r_m 3 ?_;refine a_z ?_;refine⟨(n,i+1,hullS o v),Nat.lt_succ_self n,⟨h8,by simp only;omega⟩,?_⟩;simp only[rgS.eq_1];exact s_e []
   have h7:¬i< uptoV c s.2:=by simpa using h6
   rw[if_neg h7] at hrl;cases hrl;refine ao_ ⟨(),trivial,?_⟩;exact s_e []
 have h4:degP (bz_ p)< 0:=by
  have:¬0≤degP (bz_ p):=by simpa using h3
  omega
 rw[if_pos h4] at h;cases h;refine ah_ ⟨(),trivial,?_⟩;exact s_e [(2,8)];rintro _ _;refine r_z 3 ?_;refine af_ (Fin.many ⟨_,_,rfl,⟨_,_,_,_,_,rfl,rfl,rfl,.inl ⟨TG.h,_,TS.h,nle rfl,rfl⟩⟩,⟨_,_,rfl,rfl,rfl⟩⟩ (nle rfl) ?_);exact ai_ (ak_ ax_ (aY_ _ _)) (ai_ (ak_ ax_ (ad_ _)) an_)



def zE(l:List Int):List (List AV):=l.map fun n=>[i64 n]
theorem d5_(l:List Int):∀e∈zE l,∀c∈e,Closed c:=by
 intro e he c hc;obtain⟨n,_,rfl⟩:=List.mem_map.1 he;rw[List.mem_singleton.1 hc];exact ad_ _
def zR(l:List Int):List Rat:=l.map fun(n:Int)=>(n:Rat)
def qE_:List Nat→AState
 |l=>⟨[(0,.arr (iE l))],[],1,15⟩
theorem el_(l:List Nat):qE_ l=⟨[(0,.arr (iE l))],[],1,15⟩:=rfl
theorem ed_(l:List Nat)(hl:l.length≤281474976710656):FS 203 [.arr (iE l)] (.arr (iE (dF_ l))):=by
 refine f_c Tryz.func203 ?_;refine r_z 1 ?_;refine aP_ qE_ (fun m=>m=dF_ l) ?_ ?_;refine ae_ (aq_ qE_ (fun m=>m.length) (fun m=>m.length≤281474976710656∧dF_ m=dF_ l) l ⟨hl,rfl⟩ ?_ ?_);simp only[el_];exact s_e [];rintro m ⟨hm,he⟩;rw[el_];cases m with
 |nil=>
  refine ab_ (s_r 9 ?_);refine a_4 ?_;refine n_g rfl d_f ?_;refine n_g rfl d_f ?_;refine n_g rfl d_f ?_;refine n_g rfl d_f ?_;refine o_0 (.pickF rfl d_f rfl) ?_;refine al_ ?_;refine cF ?_;refine ao_ ⟨[],by simpa[dF_] using he,?_⟩;simp only[el_];exact s_e []
 |cons d m=>
  have hd:(iE (d::m))[(0:Int).toNat]?=some [i64 d]:=rfl;refine ab_ (s_r 9 ?_);refine a_4 ?_;refine y_g rfl (by simp) (.move rfl) ?_
  first|refine y_g rfl (by simp) (.index_l rfl rfl (by omega) (by omega) te_47.h) ?_|refine y_g rfl (by simp) (.index_a rfl rfl (by omega) hd rfl te_47.h) ?_
  first|refine y_g rfl (by simp) (.load_l1 rfl rfl hd TG.h rfl) ?_|refine y_g rfl (by simp) (.load_a1 rfl hd TG.h rfl) ?_
  refine y_g rfl (by simp) (.bin rfl rfl a3_) ?_;refine o_0 (.pickT rfl (by simp) rfl) ?_;refine al_ ?_;refine aj_ rfl (fun h=>?_) (fun h=>?_);have h0:d=0:=by simpa using h
  refine ah_ ?_;subst h0;refine ae_ (r_m 3 ?_);refine a_1 ?_;refine o_0 (.sa_l rfl rfl rfl (by simp) te_47.h (f5_ _)) ?_;refine a_z ?_;refine⟨m,by simp,⟨by simp at hm;omega,by simpa[dF_] using he⟩,?_⟩;simp only[el_];exact s_e [];have h0:d≠0:=by simpa using h
  refine ao_ ⟨d::m,by rw[←he];simp[dF_,h0],?_⟩;simp only[el_];exact s_e []
 rintro m rfl;rw[el_];refine r_z 2 ?_;exact af_ (t_e (cK_ _))
theorem e7_(s:Int)(l:List Nat)(z:Int)(hl:l.length≤281474976710656)(hd:∀d∈l,d< UB)(hz:hv l=z.natAbs)(hs:z≠0→s=sgZ z):FS 163 [i64 s,.arr (iE l)] (.agg (zZ z)):=by
 refine f_c Tryz.func163 ?_;refine r_z 1 ?_;refine r_c 3 (ed_ l hl) ?_;refine a_z ?_;refine ab_ (r_z 3 ?_);refine aj_ rfl (fun h=>?_) (fun h=>?_)
 have h0:dF_ l=[]:=by
  have:(dF_ l).length=0:=by simpa using h
  exact List.length_eq_zero_iff.1 this
 have hz0:z=0:=by have:=(jE_ hd).1 h0;omega
 subst hz0;refine r_z 2 ?_;refine af_ (Fin.cell rfl rfl rfl TG.h TS.h (nle rfl) ?_);rw[qi_];exact Cv.agg (ai_ (ak_ ax_ (ad_ _)) (ai_ (Cv.emp _) an_));have h0:dF_ l≠[]:=fun e=>by rw[e] at h;simp at h
 have hz0:z≠0:=by
  intro e;subst e;exact h0 ((jE_ hd).2 hz)
 refine ah_ (r_z 4 ?_);refine af_ (bQ_ rfl rfl rfl TG.h TS.h (nle rfl) ?_ ?_);show AV.agg [i64 s,.arr (iE (dF_ l))]=_;unfold zZ;rw[hs hz0,c4_ hd,hz];exact bx_ _
theorem zZ_neg(z:Int):zZ (-z)=[i64 (-sgZ z),.arr (iE (zd z.natAbs))]:=by
 unfold zZ;rw[Int.natAbs_neg];congr 2;unfold sgZ;split <;> split <;>(try split)<;>(try split)<;> omega
theorem by_(z:Int):sgZ z= -1∧z< 0∨sgZ z=0∧z=0∨sgZ z=1∧0< z:=by
 unfold sgZ;split;right;left;exact⟨rfl,by assumption⟩;split;left;exact⟨rfl,by assumption⟩;right;right;exact⟨rfl,by omega⟩
theorem nh_(z:Int):FS 124 [.agg (zZ z)] (.agg (zZ (-z))):=by
 have hs:=by_ z;have hc:=bx_ (-z);rw[zZ_neg] at hc⊢;refine f_c Tryz.func124 ?_;refine r_z 2 ?_;refine r_z 7 ?_;exact af_ (c_e (hc))
theorem kN_(l:List Nat)(i:Nat)(hl:l.length≤281474976710656):FS 215 [.arr (iE l),i64 i] (i64 (l.reverse[i]?.getD 0:Nat)):=by
 refine f_c Tryz.func215 ?_;refine r_z 1 ?_;refine ab_ (r_z 4 ?_);refine aj_ rfl (fun h=>?_) (fun h=>?_);have hi:l.length≤i:=by simpa using h
 refine r_z 1 ?_;refine af_ (aD_ rfl ?_ (ad_ _));rw[List.getElem?_eq_none (by simpa using hi)];rfl;have hi:i< l.length:=by simp at h;omega
 refine ah_ ?_;obtain⟨d,hd⟩:∃d,l[l.length- 1- i]?=some d:=⟨_,List.getElem?_eq_getElem (by omega)⟩;have hd':(iE l)[((l.length:Int)- 1- i).toNat]?=some [i64 d]:=by rw[show((l.length:Int)- 1- i).toNat=l.length- 1- i by omega];exact fP_ hd
 refine s_r 9 ?_;refine a_6 ?_;refine i_x hd' ?_;refine l_1 hd' ?_;refine a_z ?_;refine af_ (aD_ rfl ?_ (ad_ _));rw[List.getElem?_reverse hi,hd];rfl
theorem pM_(a b:List Nat):FS 214 [.arr (iE a),.arr (iE b)] (i64 (max a.length b.length:Nat)):=by
 refine f_c Tryz.func214 ?_;refine r_z 1 ?_;refine ab_ (r_z 5 ?_);refine aj_ rfl (fun h=>?_) (fun h=>?_);refine r_z 3 ?_;refine af_ (aD_ rfl ?_ (ad_ _));have:b.length< a.length:=by simpa using h
 simp[i64];omega;refine ah_ (r_z 3 ?_);refine af_ (aD_ rfl ?_ (ad_ _));have:¬b.length< a.length:=by simpa using h
 simp[i64];omega
def sX_(a:Nat)(b:Nat):Nat→AState
 |i=>⟨[(0,.arr (iE (zd a))),(1,.arr (iE (zd b))),(5,i64 i)],[],1,40⟩
theorem nK_{n i d:Nat}(h:(digs UB n)[i]?=some d):(zd n)[(digs UB n).length- 1- i]?=some d:=by
 have hi:i< (digs UB n).length:=(List.getElem?_eq_some_iff.1 h).1;unfold zd;rw[List.getElem?_reverse (by omega),show(digs UB n).length- 1- ((digs UB n).length- 1- i)=i by omega];exact h
theorem oD_(a b:Nat)(ha:(zd a).length≤281474976710656)(hb:(zd b).length≤281474976710656):FS 176 [.arr (iE (zd a)),.arr (iE (zd b))] (i64 (cmpZ a b)):=by
 have hza:=bh_ a;have hzb:=bh_ b;refine f_c Tryz.func176 ?_;refine r_z 1 ?_;refine ab_ (r_z 5 ?_);refine aj_ rfl (fun h=>?_) (fun h=>?_);have hne:(zd a).length≠(zd b).length:=by simp at h;omega
 refine ab_ (r_z 5 ?_);refine aj_ rfl (fun h1=>?_) (fun h1=>?_);refine r_z 1 ?_;refine af_ (aD_ rfl ?_ (ad_ _));have hl:(zd a).length< (zd b).length:=by simpa using h1
 rw[gc_];rfl;have:=ep_ (b:=UB) (by decide) (show(digs UB a).length< (digs UB b).length by omega);omega;refine ah_ (r_z 1 ?_);refine af_ (aD_ rfl ?_ (ad_ _));have hl:(zd b).length< (zd a).length:=by simp at h1;omega
 rw[hr_];rfl;have:=ep_ (b:=UB) (by decide) (show(digs UB b).length< (digs UB a).length by omega);omega;have heq:(digs UB a).length=(digs UB b).length:=by simp at h;omega
 refine ah_ (ab_ (r_z 1 ?_));refine aw_ (sX_ a b) (fun _=>a=b) ?_ ?_;refine ae_ (aq_ (sX_ a b) (fun i=>(digs UB a).length- i) (fun i=>i≤(digs UB a).length∧(digs UB a).drop ((digs UB a).length- i)=(digs UB b).drop ((digs UB a).length- i)) 0 ⟨Nat.zero_le _,by rw[Nat.sub_zero,List.drop_length,heq,List.drop_length]⟩ ?_ ?_);simp only[sX_.eq_1];exact s_e [];rintro i ⟨hi,hd⟩;rw[sX_.eq_1];refine ab_ (r_z 4 ?_);refine aj_ rfl (fun h=>?_) (fun h=>?_);have hlt:i< (digs UB a).length:=by simp at h;omega
 obtain⟨k,hk⟩:∃k,k=(digs UB a).length- 1- i:=⟨_,rfl⟩;have hk1:(digs UB a).length- i=k+1:=by omega
 rw[hk1] at hd;obtain⟨x,hx⟩:∃x,(digs UB a)[k]?=some x:=⟨_,List.getElem?_eq_getElem (by omega)⟩;obtain⟨y,hy⟩:∃y,(digs UB b)[k]?=some y:=⟨_,List.getElem?_eq_getElem (by omega)⟩
 have hx':(iE (zd a))[((i:Nat):Int).toNat]?=some [i64 x]:=by
  have:=nK_ hx;rw[show(digs UB a).length- 1- k=i by omega] at this;exact fP_ this
 have hy':(iE (zd b))[((i:Nat):Int).toNat]?=some [i64 y]:=by
  have:=nK_ hy;rw[show(digs UB b).length- 1- k=i by omega] at this;exact fP_ this
 refine ah_ (ab_ (ae_ (ab_ (ab_ (r_d hmix 9 ?_)))));refine a_2 ?_;refine i_x hx' ?_;refine l_1 hx' ?_;refine a_2 ?_;refine i_x hy' ?_;refine l_1 hy' ?_;refine a_1 ?_;refine al_ (n_k ?_);refine aj_ rfl (fun h1=>?_) (fun h1=>?_);refine r_z 1 ?_;refine af_ (aD_ rfl ?_ (ad_ _));have hxy:x< y:=by simpa using h1
 have:=gr_ (fun d hd=>bT_ (by decide) a d hd) hx hy hd hxy;rw[aV_ (by decide),aV_ (by decide)] at this;rw[gc_ (by omega)];rfl;refine ah_ (ab_ (r_d hmix 9 ?_));refine a_2 ?_;refine i_x hx' ?_;refine l_1 hx' ?_;refine a_2 ?_;refine i_x hy' ?_;refine l_1 hy' ?_;refine a_1 ?_;refine al_ (n_k ?_);refine aj_ rfl (fun h2=>?_) (fun h2=>?_);refine r_z 1 ?_;refine af_ (aD_ rfl ?_ (ad_ _));have hxy:y< x:=by simpa using h2
 have:=gr_ (fun d hd=>bT_ (by decide) b d hd) hy hx hd.symm hxy;rw[aV_ (by decide),aV_ (by decide)] at this;rw[hr_ (by omega)];rfl;have hxy:x=y:=by simp at h1 h2;omega
 subst hxy;refine ah_ (r_m 3 ?_);refine a_z ?_;refine⟨i+1,by omega,⟨by omega,?_⟩,?_⟩;rw[show(digs UB a).length- (i+1)=k by omega,db_ hx,db_ hy,hd];simp only[sX_.eq_1];exact s_e [];have hge:i=(digs UB a).length:=by simp at h;omega
 refine ao_ ⟨i,?_,?_⟩;subst hge;rw[Nat.sub_self,List.drop_zero,List.drop_zero] at hd;rw[←aV_ (b:=UB) (by decide) a,←aV_ (b:=UB) (by decide) b,hd];simp only[sX_.eq_1];exact s_e [];rintro i rfl;rw[sX_.eq_1];refine r_z 1 ?_;refine af_ (aD_ rfl ?_ (ad_ _));rw[sK_ rfl];rfl
def bothS(a:Nat)(b:Nat)(k:Int)(N:Nat):List Nat×Int→AState
 |(s,c)=>⟨[(0,.arr (iE (zd a))),(1,.arr (iE (zd b))),(2,i64 k),(7,i64 N),(8,.lsl 1 0 N (some N) 1),(9,i64 c),(10,i64 s.length)],[(1,some ⟨3,1,iE (List.replicate (N- s.length) 0++s.reverse)⟩)],2,51⟩
def bothT(a:Nat)(b:Nat)(k:Int)(N:Nat)(s:List Nat):Int×Int→AState
 |(x,c)=>⟨[(0,.arr (iE (zd a))),(1,.arr (iE (zd b))),(2,i64 k),(7,i64 N),(8,.lsl 1 0 N (some N) 1),(9,i64 c),(10,i64 s.length),(11,i64 x)],[(1,some ⟨3,1,iE (List.replicate (N- s.length) 0++s.reverse)⟩)],2,51⟩
theorem i2_(a b:Nat)(k:Int)(r:Nat)(hk:k=1∨k= -1)(hr:(r:Int)=a+k* b)(ha:(zd a).length≤17592186044416)(hb:(zd b).length≤17592186044416):FS 175 [.arr (iE (zd a)),.arr (iE (zd b)),i64 k] (.arr (iE (zd r))):=by
 have hza:=bh_ a;have hzb:=bh_ b;obtain⟨N,hN⟩:∃N,N=max (zd a).length (zd b).length+1:=⟨_,rfl⟩;refine f_c Tryz.func175 ?_;refine r_z 1 ?_;refine r_c 5 (pM_ (zd a) (zd b)) ?_;refine a_z ?_;have hNI:((max (zd a).length (zd b).length:Nat):Int)+1=(N:Int):=by omega
 refine s_r 3 ?_;refine a_1 ?_;refine o_1 (.makeSlice (congrArg (fun z=>some (AV.v (.int .i64 z))) hNI) (congrArg (fun z=>some (AV.v (.int .i64 z))) hNI) te_47.h TZ.h rfl TB.h (by first|omega|(simp;done)|(simp;omega)) (by first|omega|(simp;done)|(simp;omega)) (by unfold maxLen;first|omega|(simp;done)|(simp;omega))) ?_;refine a_z ?_;refine r_z 1 ?_;refine ab_ (r_z 1 ?_)
 have hdl:=co_ (b:=UB) (by decide) (n:=r) (k:=N) (by
  have h1:=dx_ (b:=UB) (bT_ (by decide) a);have h2:=dx_ (b:=UB) (bT_ (by decide) b);rw[aV_ (by decide)] at h1 h2;have h3:UB^ (digs UB a).length≤UB^ (N- 1):=Nat.pow_le_pow_right (by decide) (by omega);have h4:UB^ (digs UB b).length≤UB^ (N- 1):=Nat.pow_le_pow_right (by decide) (by omega);have h5:UB^ N=UB^ (N- 1) * UB:=by rw[←Nat.pow_succ];congr 1;omega
  rw[h5];show r< UB^ (N- 1) * 32768;rcases hk with rfl|rfl <;> omega)
 have hrN:r< UB^ N:=by
  have h1:=dx_ (b:=UB) (bT_ (by decide) r);rw[aV_ (by decide)] at h1;exact Nat.lt_of_lt_of_le h1 (Nat.pow_le_pow_right (by decide) hdl)
 refine aw_ (fun s:List Nat=>⟨[(8,.lsl 1 0 N (some N) 1)],[(1,some ⟨3,1,iE s.reverse⟩)],2,51⟩) (fun s=>s.length=N∧(∀d∈s,d< UB)∧ofD UB s=r) ?_ ?_;refine ae_ (aq_ (bothS a b k N) (fun x=>N- x.1.length) (fun x=>x.1.length≤N∧(∀d∈x.1,d< UB)∧(x.2= -1∨x.2=0∨x.2=1)∧((ofD UB x.1:Nat):Int)+((UB^ x.1.length:Nat):Int) * x.2=(ofD UB ((digs UB a).take x.1.length):Nat)+k* (ofD UB ((digs UB b).take x.1.length):Nat)) ([],0) ⟨by simp,by simp,by simp,by simp[ofD]⟩ ?_ ?_);simp only[bothS.eq_1];exact s_e [(1,8)];rintro⟨s,c⟩ ⟨hs,hd,hc,hval⟩;simp only at hs hd hc hval;simp only[bothS.eq_1];refine ab_ (r_z 3 ?_);refine aj_ rfl (fun h=>?_) (fun h=>?_);have hlt:s.length< N:=by simpa using h
 refine ah_ ?_;obtain⟨x,hx⟩:∃x,x=(digs UB a)[s.length]?.getD 0:=⟨_,rfl⟩;obtain⟨y,hy⟩:∃y,y=(digs UB b)[s.length]?.getD 0:=⟨_,rfl⟩
 have hx1:x< 32768:=by
  rw[hx];cases hh:(digs UB a)[s.length]? with
  |none=>decide
  |some d=>exact be_ (by decide) hh
 have hy1:y< 32768:=by
  rw[hy];cases hh:(digs UB b)[s.length]? with
  |none=>decide
  |some d=>exact be_ (by decide) hh
 have hda:=kN_ (zd a) s.length (by omega);have hdb:=kN_ (zd b) s.length (by omega);unfold zd at hda hdb;rw[List.reverse_reverse,←hx] at hda;rw[List.reverse_reverse,←hy] at hdb;have hky: -32768< k* y∧k* y< 32768:=by rcases hk with rfl|rfl <;> omega
 obtain⟨X,hX⟩:∃X:Int,X=x+k* y+c:=⟨_,rfl⟩;have hXr: -32768≤X∧X≤65536:=by omega
 refine ab_ (ae_ (r_c 12 (hda) ?_));refine c_s (hdb) ?_;refine a_z ?_;refine r_z 1 ?_;refine aP_ (bothT a b k N s) (fun v=>v.1=(if X< 0 then X+32768 else X)∧v.2=(if X< 0 then -1 else 0)) ?_ ?_;refine r_z 2 ?_;refine aj_ rfl (fun h1=>?_) (fun h1=>?_);have hX0:X< 0:=by rw[hX];simpa using h1
 refine r_z 3 ?_;refine r_m 1 ?_;refine a_z ?_;refine⟨(X+32768,-1),⟨by rw[if_pos hX0],by rw[if_pos hX0]⟩,?_⟩;simp only[bothT.eq_1];exact s_x [] (fun hs=>e_29) (fun hs=>e_30) e_28;have hX0:¬X< 0:=by rw[hX];simpa using h1
 refine ah_ ⟨(X,0),⟨by rw[if_neg hX0],by rw[if_neg hX0]⟩,?_⟩;simp only[bothT.eq_1];exact s_x [] (fun hs=>e_29) (fun hs=>e_30) e_28;rintro⟨X1,c1⟩ ⟨hX1,hc1⟩;simp only at hX1 hc1;rw[bothT.eq_1];refine aP_ (bothT a b k N s) (fun v=>v.1=X % 32768∧v.2=X/ 32768) ?_ ?_;refine r_z 2 ?_;refine aj_ rfl (fun h1=>?_) (fun h1=>?_);have h2:32768≤X1:=by simpa using h1
 have hX1r:X1≤65536:=by rw[hX1];split <;> omega
 refine r_z 3 ?_;refine r_m 1 ?_;refine a_z ?_;have hX0:¬X< 0:=by intro h0;rw[if_pos h0] at hX1;omega
 rw[if_neg hX0] at hX1;refine⟨(X1- 32768,1),⟨by simp only;omega,by simp only;omega⟩,?_⟩;simp only[bothT.eq_1];exact s_e []
 ·have h2:X1< 32768:=by simp at h1;omega
  refine ah_ ⟨(X1,c1),⟨by rw[hX1] at h2⊢;simp only;split <;> rename_i h3 <;> simp only[h3,if_true,if_false] at h2 <;> omega,by rw[hX1] at h2;rw[hc1];simp only;split <;> rename_i h3 <;> simp only[h3,if_true,if_false] at h2 <;> omega⟩,?_⟩;simp only[bothT.eq_1];exact s_e []
 rintro⟨X2,c2⟩ ⟨hX2,hc2⟩;simp only at hX2 hc2;rw[bothT.eq_1];obtain⟨d,hdX⟩:∃d:Nat,X2=d:=⟨X2.toNat,by omega⟩;have hd1:d< 32768:=by omega
 subst hdX;have hlen:(List.replicate (N- s.length) 0++s.reverse).length=N:=by simp;omega
 have hrep:List.replicate (N- s.length) 0=List.replicate (N- (s.length+1)) 0++[0]:=by
  rw[show N- s.length=(N- (s.length+1))+1 by omega,List.replicate_succ']
 have hget:(iE (List.replicate (N- s.length) 0++s.reverse))[0+((N:Int)- 1- s.length).toNat]?=some [i64 0]:=by
  rw[show 0+((N:Int)- 1- s.length).toNat=N- (s.length+1) by omega];refine fP_ ?_;rw[hrep,List.append_assoc];exact iT_ _ _ _ _ (by simp)
 have hset:(iE (List.replicate (N- s.length) 0++s.reverse)).set (0+((N:Int)- 1- s.length).toNat) [i64 d]=iE (List.replicate (N- (s++[d]).length) 0++(s++[d]).reverse):=by
  rw[show 0+((N:Int)- 1- s.length).toNat=N- (s.length+1) by omega,iO_,hrep,List.append_assoc];simp only[List.singleton_append,List.length_append,List.length_cons,List.length_nil,List.reverse_append,List.reverse_cons,List.reverse_nil,List.nil_append];rw[iq_ _ _ _ _ _ (by simp)];simp
 refine r_m 8 ?_;refine a_7 ?_;refine o_1n (.store rfl rfl hget rfl rfl rfl TS.h (nle rfl)) ?_;refine al_ ?_;refine r_m 3 ?_;refine a_z ?_;refine⟨(s++[d],c2),by simp;omega,⟨by simp;omega,?_,by simp only;omega,?_⟩,?_⟩;intro e he;rcases List.mem_append.1 he with he|he
 exact hd e he;simp at he;subst he;exact hd1;simp only[List.length_append,List.length_cons,List.length_nil,Nat.zero_add];rw[dI_,cn_,cn_,←hx,←hy,Nat.pow_succ];obtain⟨B,hB⟩:∃B,B=UB^ s.length:=⟨_,rfl⟩;rw[←hB] at hval⊢;have hXX:X=32768* c2+d:=by omega
 have hBX:(B:Int) * X=B* x+k* (B* y)+B* c:=by
  rw[hX,Int.mul_add,Int.mul_add,Int.mul_left_comm]
 rw[hXX,Int.mul_add] at hBX;have e1:((B* 32768:Nat):Int) * c2=B* (32768* c2):=by rw[Int.natCast_mul,Int.mul_assoc];rfl
 have e2:k* ((ofD UB ((digs UB b).take s.length)+B* y:Nat):Int)=k* (ofD UB ((digs UB b).take s.length):Nat)+k* (B* y):=by
  rw[Int.natCast_add,Int.mul_add,Int.natCast_mul]
 show((ofD UB s+B* d:Nat):Int)+((B* 32768:Nat):Int) * c2=_;rw[e1,e2,Int.natCast_add,Int.natCast_add,Int.natCast_mul,Int.natCast_mul];omega;simp only[bothS.eq_1];refine s_x [] (fun hs=>au_f) (fun hs=>?_) e_31
 ·repeat' (first|exact az_|refine h_c ?_ ?_|exact aF_ hs hset (bP_ _)|exact au_e)
 have hge:s.length=N:=by simp at h;omega
 refine ao_ ⟨s,⟨hge,hd,?_⟩,?_⟩;rw[hge,List.take_of_length_le (by omega),List.take_of_length_le (by omega),aV_ (by decide),aV_ (by decide),←hr] at hval;have hsl:=dx_ hd;rw[hge] at hsl;obtain⟨B,hB⟩:∃B,B=UB^ N:=⟨_,rfl⟩;rw[←hB] at hval hsl hrN;rcases hc with rfl|rfl|rfl <;> omega
 have e:iE (List.replicate (N- s.length) 0++s.reverse)=iE s.reverse:=by rw[hge];simp
 refine s_x [] (fun hs=>au_f) (fun hs=>e_32) ?_
 ·repeat' (first|exact ShrL.nil|refine ShrL.cons rfl rfl rfl rfl (by first|(exact congrArg List.length e)|rfl|(simp;done)|(simp <;> omega)) ?_)
 rintro s ⟨hs,hd,hval⟩;have hd':∀d∈s.reverse,d< UB:=fun d h=>hd d (List.mem_reverse.1 h);have hst:=ed_ s.reverse (by simp;omega);rw[c4_ hd',show hv s.reverse=r by unfold hv;rw[List.reverse_reverse];assumption] at hst;have hfull:((iE s.reverse).drop 0).take N=iE s.reverse:=by rw[List.drop_zero,List.take_of_length_le (by simp;omega)]
 refine s_r 3 ?_;refine a_1 ?_;refine o_1 (.callS1 rfl rfl rfl (.shut rfl d_n (.nil)) rfl ((by rw[hfull];exact hst))) ?_;refine a_z ?_;exact af_ (t_e (cK_ _))
def zl(z:Int):Prop:=bl z.natAbs≤8796093022208
theorem nJ_{z:Int}(h:zl z):(zd z.natAbs).length≤17592186044416:=by
 have:=aT_ (b:=UB) (by decide) z.natAbs;rw[bh_];unfold zl at h;omega
theorem lG_{x y:Int}(h:sgZ x=sgZ y)(hx:x≠0):(x+y).natAbs=x.natAbs+y.natAbs∧(x+y≠0→sgZ x=sgZ (x+y)):=by
 rcases by_ x with⟨a,b⟩|⟨a,b⟩|⟨a,b⟩<;> rcases by_ y with⟨c,d⟩|⟨c,d⟩|⟨c,d⟩<;> rcases by_ (x+y) with⟨e,f⟩|⟨e,f⟩|⟨e,f⟩<;> rw[a,c] at h <;> rw[a,e]<;> first|omega|(constructor <;> omega)
theorem jG_{x y:Int}(h:sgZ x≠sgZ y)(hx:x≠0)(hy:y≠0)(hg:y.natAbs≤x.natAbs):(x+y).natAbs=x.natAbs- y.natAbs∧(x+y≠0→sgZ x=sgZ (x+y)):=by
 rcases by_ x with⟨a,b⟩|⟨a,b⟩|⟨a,b⟩<;> rcases by_ y with⟨c,d⟩|⟨c,d⟩|⟨c,d⟩<;> rcases by_ (x+y) with⟨e,f⟩|⟨e,f⟩|⟨e,f⟩<;> rw[a,c] at h <;> rw[a,e]<;> first|omega|(constructor <;> omega)
theorem fs_ZAdd(x y:Int)(hx:zl x)(hy:zl y):FS 131 [.agg (zZ x),.agg (zZ y)] (.agg (zZ (x+y))):=by
 have hlx:=nJ_ hx;have hly:=nJ_ hy
 have bound:∀r:Nat,r≤x.natAbs+y.natAbs→(zd r).length≤281474976710656:=by
  intro r hr;have h1:=aT_ (b:=UB) (by decide) r;have h2:=b0_ hr;have h3:=o9_ x.natAbs y.natAbs;unfold zl at hx hy;rw[bh_];omega
 refine f_c Tryz.func131 ?_;refine r_z 3 ?_;refine ab_ (r_z 3 ?_);refine aj_ rfl (fun h=>?_) (fun h=>?_)
 have h0:x=0:=by
  have:sgZ x=0:=by simpa using h
  rcases by_ x with⟨a,b⟩|⟨a,b⟩|⟨a,b⟩<;> omega
 refine r_z 2 ?_;refine af_ (bQ_ rfl rfl rfl TG.h TS.h (nle rfl) ?_ ?_);rw[h0,Int.zero_add];rfl;exact bx_ _;have hx0:x≠0:=by rintro rfl;simp[sgZ] at h
 refine ah_ (ab_ (r_z 3 ?_));refine aj_ rfl (fun h1=>?_) (fun h1=>?_)
 have h0:y=0:=by
  have:sgZ y=0:=by simpa using h1
  rcases by_ y with⟨a,b⟩|⟨a,b⟩|⟨a,b⟩<;> omega
 refine r_z 2 ?_;refine af_ (bQ_ rfl rfl rfl TG.h TS.h (nle rfl) ?_ ?_);rw[h0,Int.add_zero];rfl;exact bx_ _;have hy0:y≠0:=by rintro rfl;simp[sgZ] at h1
 refine ah_ (ab_ (r_z 5 ?_));refine aj_ rfl (fun h2=>?_) (fun h2=>?_);have hs:sgZ x=sgZ y:=by simpa using h2
 obtain⟨e1,e2⟩:=lG_ hs hx0;refine ab_ (r_d hmix 9 ?_);refine c_s (i2_ x.natAbs y.natAbs 1 (x.natAbs+y.natAbs) (.inl rfl) (by omega) hlx hly) ?_;refine c_s (e7_ (sgZ x) (zd (x.natAbs+y.natAbs)) (x+y) (bound _ (Nat.le_refl _)) (zd_lt _) (by rw[hv_zd,e1]) e2) ?_;refine a_1 ?_;refine al_ (n_k ?_);exact af_ (c_e (bx_ _));have hs:sgZ x≠sgZ y:=by simpa using h2
 refine ah_ (ab_ (r_c 6 (oD_ x.natAbs y.natAbs (by omega) (by omega)) ?_));refine a_z ?_;refine aj_ rfl (fun h3=>?_) (fun h3=>?_)
 have hge:y.natAbs≤x.natAbs:=by
  have:=of_decide_eq_true h3;unfold cmpZ at this;split at this;omega;omega
 obtain⟨e1,e2⟩:=jG_ hs hx0 hy0 hge;refine ab_ (r_d hmix 9 ?_);refine c_s (i2_ x.natAbs y.natAbs (-1) (x.natAbs- y.natAbs) (.inr rfl) (by omega) hlx hly) ?_;refine c_s (e7_ (sgZ x) (zd (x.natAbs- y.natAbs)) (x+y) (bound _ (by omega)) (zd_lt _) (by rw[hv_zd,e1]) e2) ?_;refine a_1 ?_;refine al_ (n_k ?_);exact af_ (c_e (bx_ _))
 have hlt:x.natAbs≤y.natAbs:=by
  have:=of_decide_eq_false h3;unfold cmpZ at this;split at this;omega;split at this <;> omega
 obtain⟨e1,e2⟩:=jG_ (fun h=>hs h.symm) hy0 hx0 hlt;rw[Int.add_comm] at e1 e2;refine ah_ (ab_ (r_d hmix 9 ?_));refine c_s (i2_ y.natAbs x.natAbs (-1) (y.natAbs- x.natAbs) (.inr rfl) (by omega) hly hlx) ?_;refine c_s (e7_ (sgZ y) (zd (y.natAbs- x.natAbs)) (x+y) (bound _ (by omega)) (zd_lt _) (by rw[hv_zd,e1]) e2) ?_;refine a_1 ?_;refine al_ (n_k ?_);exact af_ (c_e (bx_ _))
def qH_(l:List Nat):Nat→AState
 |i=>⟨[(0,.arr (iE l)),(3,i64 (hv (l.take i))),(4,i64 i)],[],1,19⟩
theorem pB_{l:List Nat}(hd:∀d∈l,d< UB)(hl:l.length≤4)(i:Nat):hv (l.take i)< 1152921504606846976:=by
 have h1:=hv_lt (l:=l.take i) fun d h=>hd d (List.mem_of_mem_take h);have h2:(l.take i).length≤4:=by rw[List.length_take];omega
 exact Nat.lt_of_lt_of_le h1 (Nat.pow_le_pow_right (by decide) h2)
theorem kF_(l:List Nat)(hl:l.length≤4)(hd:∀d∈l,d< UB):FS 202 [.arr (iE l)] (i64 (hv l)):=by
 refine f_c Tryz.func202 ?_;refine r_z 1 ?_;refine r_z 1 ?_;refine ab_ (r_z 1 ?_);refine aw_ (qH_ l) (fun i=>i=l.length) ?_ ?_;refine ae_ (aq_ (qH_ l) (fun i=>l.length- i) (fun i=>i≤l.length) 0 (Nat.zero_le _) ?_ ?_);simp only[qH_.eq_1];exact s_e [];intro i hi;rw[qH_.eq_1];refine ab_ (r_z 4 ?_);refine aj_ rfl (fun h=>?_) (fun h=>?_);have hlt:i< l.length:=by simpa using h
 obtain⟨d,hdi⟩:∃d,l[i]?=some d:=⟨_,List.getElem?_eq_getElem hlt⟩;have hd1:=hd d (List.mem_of_getElem? hdi);have hdi':(iE l)[((i:Nat):Int).toNat]?=some [i64 d]:=fP_ hdi;have hsn:=iQ_ (l.take i) d;rw[←bm_ hdi] at hsn;have hb:=pB_ hd hl (i+1);obtain⟨V,hV⟩:∃V,V=hv (l.take i):=⟨_,rfl⟩;rw[←hV] at hsn⊢;have hsn':hv (l.take (i+1))=V* 32768+d:=hsn;refine ah_ (ab_ (ae_ (r_m 8 ?_)));refine a_4 ?_;refine i_x hdi' ?_;refine l_1 hdi' ?_;refine a_z ?_;refine r_m 3 ?_;refine a_z ?_;refine⟨i+1,by omega,hlt,?_⟩;simp only[qH_.eq_1];refine s_x [] (fun hs=>?_) (fun hs=>?_) ?_
 ·repeat' (first|exact aH_|refine ap_ rfl ?_ ?_|exact au_c|(refine Cv.loE hs ?_ (ad_ _);first|rfl|(simp[i64,u64,u32,bln,hsn'];done)|(simp[i64,u64,u32,bln,hsn']<;> omega)))
 ·repeat' (first|exact az_|refine h_c ?_ ?_|exact au_e|(refine aF_ hs ?_ (bP_ _);first|(simp[iO_,gx_,eb_,hsn'];done)|(simp[iE,i64,ofV,hsn'];done))|refine av_ ?_|exact an_|refine ai_ ?_ ?_|exact au_c|(refine Cv.loE hs ?_ (ad_ _);first|(simp[i64,u64,u32,bln,hsn'];done)|(simp[i64,u64,u32,bln,hsn']<;> omega)))
 ·repeat' (first|exact ShrL.nil|refine ShrL.cons rfl rfl rfl rfl (by first|rfl|(simp;done)|(simp[hsn']<;> omega)) ?_)
 have hge:i=l.length:=by simp at h;omega
 refine ao_ ⟨i,hge,?_⟩;exact s_e [];rintro i rfl;rw[qH_.eq_1,List.take_length];refine r_z 2 ?_;refine af_ (aD_ rfl rfl (ad_ _))
end Go.Proofs.YtjkddcfoolilbaaGreatDoor
