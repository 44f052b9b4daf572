/- Part V23 of the proof. -/
import Derived.Test.YtjjllafelolfoaaGreatDoorV22
set_option linter.all false
namespace Go.Proofs.YtjjllafelolfoaaGreatDoor
open Go.Abs
set_option maxRecDepth 20000
set_option maxHeartbeats 1000000
def oh_(f g:Nat)(c:Cnt)(i:Int):Option Sp:=(spanM f c i 0).bind fun s0=>(gs_ (fun k=>fm_ c i (closV c i s0 k)) g 0).map (closV c i s0)
theorem qM_(f g:Nat)(c:Cnt)(i:Int)(s:Sp)(h:oh_ f g c i=some s):FS 351 [plA c i] (.agg (spC s.1 s.2)):=by
 obtain⟨s0,h1,h2⟩:=Option.bind_eq_some_iff.1 h;obtain⟨k,h3,rfl⟩:=Option.map_eq_some_iff.1 h2;exact fs_alone f g c i s0 k h1 h3
def hU_(f g:Nat)(c:Cnt)(i:Int)(q:List Rat):Option Bool:=
 if c.p.length≤274877906944∧q.length≤274877906944 then(gcdM f c.p q).bind fun d=>
  if d.length≤274877906944 then
   if degP d< 1 then some false
   else(b9_ f d).bind fun c2=>(oh_ f g c i).bind fun s=>if okUp c2 s.2∧okBe c2 s.1 then some (decide (aM_ c2 s.1< uptoV c2 s.2)) else none
  else none
 else none
theorem qB_(f g:Nat)(c:Cnt)(i:Int)(q:List Rat)(r:Bool)(h:hU_ f g c i q=some r)(hf:f≤1000000):FS 324 [plA c i,.arr (pE q)] (bln r):=by
 unfold hU_ at h;split at h
 case isFalse=>cases h
 case isTrue hl=>
 obtain⟨d,hd,h2⟩:=Option.bind_eq_some_iff.1 h;split at h2
 case isFalse=>cases h2
 case isTrue hdl=>
 refine f_n Tryz.func324 ?_ ?_;exact aa_ (bE_ c i) (aa_ (ap_ q) ac_);refine r_z 1 ?_;refine r_c 10 (fs_Gcd f c.p q d hd hl.1 hl.2) ?_;refine a_z ?_;refine ab_ (r_c 3 (bc_ d (by omega)) ?_);refine a_z ?_;refine ai_ rfl (fun h3=>?_) (fun h3=>?_);have h4:degP d< 1:=by simpa using h3
 rw[if_pos h4] at h2;cases h2;refine r_z 1 ?_;exact ad_ (t_e (af_ _))
 ·have h4:¬degP d< 1:=by simpa using h3
  rw[if_neg h4] at h2;obtain⟨c2,hc2,h5⟩:=Option.bind_eq_some_iff.1 h2;obtain⟨s,hs,h6⟩:=Option.bind_eq_some_iff.1 h5;split at h6
  case isFalse=>cases h6
  case isTrue hk=>
  cases h6;refine ag_ (r_c 7 (gp_ f d c2 hc2 hf) ?_);refine c_s (qM_ f g c i s hs) ?_;refine a_z ?_;refine ab_ (r_d hmix 10 ?_);refine c_s (fU_ c2 s.2 hk.1) ?_;refine c_s (eP_ c2 s.1 hk.2) ?_;refine a_2 ?_;refine ak_ (n_k ?_);exact ad_ (t_e (af_ _))
def signT(c:Cnt)(i:Int)(c2:Cnt)(s:Sp):Option Bool:=if okUp c2 s.2∧okBe c2 s.1∧g2_ c s then some (decide (uptoV c2 s.2=aM_ c2 s.1)) else none
def signM(f g:Nat)(c:Cnt)(i:Int)(q:List Rat):Option Int:=
 if q.length≤274877906944 then
  if degP q< 0 then some 0
  else(hU_ f g c i q).bind fun b=>if b then some 0 else(b9_ f q).bind fun c2=>(spanM f c i 0).bind fun s0=>
   (gs_ (fun k=>signT c i c2 (closV c i s0 k)) g 0).bind fun k=>if b2_ q (closV c i s0 k).2 then some (sgZ (evalP q (closV c i s0 k).2).num) else none
 else none
def pgS(c:Cnt)(i:Int)(q:List Rat)(c2:Cnt):Nat→AState
 |k=>⟨[(0,plA c i),(3,bP q),(4,.lptr 1 0 0),(5,.aptr [[kA c2]] 0 0),(18,.clos 317 [] [bPl c i])],[(1,some ⟨3,1,[[i64 0]]⟩)],2,34⟩
def pgX(r:Int):Unit→AState
 |u=>⟨[(4,.lptr 1 0 0)],[(1,some ⟨3,1,[[i64 r]]⟩)],2,34⟩
theorem jO_(c:Cnt):Closed (.aptr [[kA c]] 0 0):=bg_ (aa_ (dB_ c) ac_)
theorem fs_sign(f g:Nat)(c:Cnt)(i:Int)(q:List Rat)(r:Int)(h:signM f g c i q=some r)(hf:f≤1000000):FS 258 [plA c i,.arr (pE q)] (i64 r):=by
 unfold signM at h;split at h
 case isFalse=>cases h
 case isTrue hl=>
 refine f_n Tryz.func258 ?_ ?_;exact aa_ (bE_ c i) (aa_ (ap_ q) ac_);refine r_z 2 ?_;refine AWp.ent (st':=⟨[(0,plA c i),(3,bP q),(4,.lptr 1 0 0)],[(1,some ⟨3,1,[[i64 0]]⟩)],2,34⟩) ?_ ?_;exact s_f [(1,4)];by_cases hd:degP q< 0;rw[if_pos hd] at h;cases h;refine ab_ (r_c 8 (bc_ q (by omega)) ?_);refine a_2 ?_;refine n_g rfl (by simp[hd]) ?_;refine n_g rfl (by simp[hd]) ?_;refine n_g rfl (by simp[hd]) ?_;refine o_0 (.pickT rfl (by simp[hd]) rfl) ?_;refine ak_ ?_;refine ai_ rfl (fun h1=>?_) (fun h1=>?_);refine r_z 1 ?_;exact ad_ (Fin.cell1E rfl rfl rfl TG.h rfl rfl (af_ _));cases h1;rw[if_neg hd] at h;obtain⟨b,hb,h2⟩:=Option.bind_eq_some_iff.1 h;refine ab_ (r_c 8 (bc_ q (by omega)) ?_);refine a_2 ?_;refine y_g rfl (by simp[hd]) (.move rfl) ?_
 first|refine y_g rfl (by simp[hd]) (.load_l1 rfl rfl rfl TG.h rfl) ?_|refine y_g rfl (by simp[hd]) (.load_a1 rfl rfl TG.h rfl) ?_
 refine y_g rfl (by simp[hd]) (.call rfl rfl rfl (qB_ f g c i q b hb hf)) ?_;refine o_0 (.pickF rfl (by simp[hd]) rfl) ?_;refine ak_ ?_;refine ai_ rfl (fun h1=>?_) (fun h1=>?_);have hb1:b=true:=h1;subst hb1;rw[if_pos rfl] at h2;cases h2;refine r_z 1 ?_;exact ad_ (Fin.cell1E rfl rfl rfl TG.h rfl rfl (af_ _));have hb1:b=false:=h1;subst hb1;rw[if_neg (show¬false=true by decide)] at h2;obtain⟨c2,hc2,h3⟩:=Option.bind_eq_some_iff.1 h2;obtain⟨s0,hs0,h4⟩:=Option.bind_eq_some_iff.1 h3;obtain⟨kk,hkk,h5⟩:=Option.bind_eq_some_iff.1 h4;split at h5
 case isFalse=>cases h5
 case isTrue hev=>
 cases h5;obtain⟨t1,_,t2⟩:=eR_ hkk
 have hok:∀k,k≤kk→okUp c2 (closV c i s0 k).2∧okBe c2 (closV c i s0 k).1∧g2_ c (closV c i s0 k):=fun k hk=>by
  have:∃b,signT c i c2 (closV c i s0 k)=some b:=by
   by_cases e:k=kk;rw[e];exact⟨_,t1⟩;exact⟨_,t2 k (Nat.zero_le _) (by omega)⟩
  obtain⟨b,hb⟩:=this;unfold signT at hb;split at hb;assumption;cases hb
 have hgs:=im_ f c i s0 kk hs0 (fun k hk=>(hok k (by omega)).2.2);obtain⟨r,hr⟩:∃r,r=sgZ (evalP q (closV c i s0 kk).2).num:=⟨_,rfl⟩;rw[←hr];refine ag_ (r_c 4 (gp_ f q c2 hc2 hf) ?_);refine a_z ?_;refine AWp.ent (st':=⟨[(0,plA c i),(3,bP q),(4,.lptr 1 0 0),(5,.aptr [[kA c2]] 0 0)],[(1,some ⟨3,1,[[i64 0]]⟩)],2,34⟩) ?_ ?_;have:=(aa_ (dB_ c2) ac_);exact s_f [];refine ab_ (r_c 2 (ir_ c i) ?_);refine ak_ ?_;refine ay_ (pgX r) (fun _=>False) ?_ (fun _ h=>h.elim);refine ae_ (AWp.rangeFuncB (α:=Nat) (γ:=Unit) kk (pgS c i q c2) (fun k=>k) (fun k=>k≤kk) (pgX r) (fun e _=>e= .ret) 0 rfl hgs rfl rfl ?_ (fun _=>⟨rfl,rfl⟩) (fun _=>rfl) (Nat.zero_le _) rfl (fun _ h=>h) ?_ ?_ ?_ ?_ ?_);intro k xs hT;cases hT;rfl;rw[pgS.eq_1];have:=jO_ c2;exact s_t [];exact aa_ (bM_ c i) ac_;intro l k xs hk hT;cases hT;have hx:=hok k hk;obtain⟨s,hsd⟩:∃s,s=closV c i s0 k:=⟨_,rfl⟩;rw[←hsd] at hx⊢;obtain⟨x1,x2,x3⟩:=hx;show AWp _ _ _ _ ⟨[(19,.agg (spC s.1 s.2)),(0,plA c i),(3,bP q),(4,.lptr 1 0 0),(5,.aptr [[kA c2]] 0 0),(18,.clos 317 [] [bPl c i]),(1000,plA c i),(1003,bP q),(1004,.lptr 1 0 0),(1005,.aptr [[kA c2]] 0 0),(1018,.clos 317 [] [bPl c i])],[(1,some ⟨3,1,[[i64 0]]⟩)],2,34⟩;refine r_m 2 ?_;refine a_z ?_;refine ae_ (ab_ (r_d hmix 9 ?_));refine c_s (fU_ c2 s.2 x1) ?_;refine c_s (eP_ c2 s.1 x2) ?_;refine a_1 ?_;refine ak_ (n_k ?_);refine ai_ rfl (fun h6=>?_) (fun h6=>?_);have h7:uptoV c2 s.2=aM_ c2 s.1:=by simpa using h6
 have he:k=kk:=by
  refine Nat.le_antisymm hk (Nat.le_of_not_lt fun hlt=>?_);have h8:=t2 k (Nat.zero_le _) hlt;rw[←hsd] at h8;unfold signT at h8;rw[if_pos ⟨x1,x2,x3⟩] at h8;simp[h7] at h8
 subst he;rw[←hsd] at hev hr;refine r_c 6 (c5_ q s.2 hev) ?_;refine c_s (bP_ (evalP q s.2)) ?_;refine a_z ?_;refine ad_ (⟨rfl,(),rfl,?_⟩);rw[hr];show SEntT _ ⟨[(1004,.lptr 1 0 0)],[(1,some ⟨3,1,[[i64 (sgZ (evalP q s.2).num)]]⟩)],2,34⟩;exact s_t [];have h7:¬uptoV c2 s.2=aM_ c2 s.1:=by simpa using h6
 have he:k< kk:=by
  refine Nat.lt_of_le_of_ne hk fun e=>?_;subst e;rw[←hsd] at t1;unfold signT at t1;rw[if_pos ⟨x1,x2,x3⟩] at t1;simp[h7] at t1
 refine ag_ (⟨k+1,⟨he,rfl⟩,?_⟩);show SEntT _ ⟨[(1000,plA c i),(1003,bP q),(1004,.lptr 1 0 0),(1005,.aptr [[kA c2]] 0 0),(1018,.clos 317 [] [bPl c i])],[(1,some ⟨3,1,[[i64 0]]⟩)],2,34⟩;have:=jO_ c2;exact s_t [];intro k hk hT;cases hT;rintro e u rfl;exact Fin.cell1E rfl rfl rfl TG.h rfl rfl (af_ _)
def valT(c:Cnt)(q:List Rat)(step:Rat)(s:Sp):Option Bool:=if ld_ q s∧smS (overP q s)∧sm ((overP q s).2- (overP q s).1)∧sm step∧g2_ c s then some (decide (cmpQ ((overP q s).2- (overP q s).1) step< 0)) else none
def valR(f g:Nat)(c:Cnt)(i:Int)(q:List Rat)(k:Int)(v:Sp):Option Sp:=
 if sm (downQ v.2 (wi k 256))∧smS v∧sm (fineQ (wi k 256))∧smL q∧q.length≤274877906944 then
  if cmpQ (downQ v.2 (wi k 256)) v.1< 0 then some (downQ v.2 (wi k 256),downQ v.2 (wi k 256)+fineQ (wi k 256))
  else(signM f g c i (subP q (a0_ (downQ v.2 (wi k 256))))).bind fun sg=>
   some (if sg=0 then(downQ v.2 (wi k 256),downQ v.2 (wi k 256)) else if sg=1 then(downQ v.2 (wi k 256),downQ v.2 (wi k 256)+fineQ (wi k 256)) else(downQ v.2 (wi k 256)- fineQ (wi k 256),downQ v.2 (wi k 256)))
 else none
def kO_(f g:Nat)(c:Cnt)(i:Int)(q:List Rat)(k:Int):Option Sp:=
 (spanM f c i 0).bind fun s0=>(gs_ (fun j=>valT c q (fineQ (wi k 256)) (closV c i s0 j)) g 0).bind fun j=>valR f g c i q k (overP q (closV c i s0 j))
abbrev bI(k:Int):AV:= .aptr [[i64 k]] 0 0
theorem eA_(k:Int):Closed (bI k):=bg_ (aa_ (af_ _) ac_)
def vaS(c:Cnt)(i:Int)(q:List Rat)(k:Int)(step:Rat):Nat→AState
 |j=>⟨[(3,bPl c i),(4,bP q),(5,bI k),(6,.lptr 1 0 0),(7,bQ step),(14,.clos 317 [] [bPl c i])],[(1,some ⟨62,6,[zC++zC]⟩)],2,61⟩
def vaX(r:Sp):Unit→AState
 |u=>⟨[(6,.lptr 1 0 0)],[(1,some ⟨62,6,[spC r.1 r.2]⟩)],2,61⟩
theorem fs_value(f g:Nat)(c:Cnt)(i:Int)(q:List Rat)(k:Int)(r:Sp)(h:kO_ f g c i q k=some r)(hf:f≤1000000):FS 142 [plA c i,.arr (pE q),i64 k] (.agg (spC r.1 r.2)):=by
 unfold kO_ at h;obtain⟨s0,hs0,h2⟩:=Option.bind_eq_some_iff.1 h;obtain⟨kk,hkk,hR⟩:=Option.bind_eq_some_iff.1 h2;obtain⟨t1,_,t2⟩:=eR_ hkk;obtain⟨step,hst⟩:∃step,step=fineQ (wi k 256):=⟨_,rfl⟩;rw[←hst] at t1 t2
 have hok:∀j,j≤kk→ld_ q (closV c i s0 j)∧smS (overP q (closV c i s0 j))∧sm ((overP q (closV c i s0 j)).2- (overP q (closV c i s0 j)).1)∧sm step∧g2_ c (closV c i s0 j):=fun j hj=>by
  have:∃b,valT c q step (closV c i s0 j)=some b:=by
   by_cases e:j=kk;rw[e];exact⟨_,t1⟩;exact⟨_,t2 j (Nat.zero_le _) (by omega)⟩
  obtain⟨b,hb⟩:=this;unfold valT at hb;split at hb;assumption;cases hb
 have hgs:=im_ f c i s0 kk hs0 (fun j hj=>(hok j (by omega)).2.2.2.2);have hfi:=gL_ k;rw[←hst] at hfi;refine f_n Tryz.func142 ?_ ?_;exact aa_ (bE_ c i) (aa_ (ap_ q) (aa_ (af_ _) ac_));refine r_z 4 ?_;refine r_c 4 (hfi) ?_;refine a_z ?_;refine AWp.ent (st':=⟨[(3,bPl c i),(4,bP q),(5,bI k),(6,.lptr 1 0 0),(7,bQ step)],[(1,some ⟨62,6,[zC++zC]⟩)],2,61⟩) ?_ ?_;have:=(aa_ (bE_ c i) ac_);exact s_f [(1,6)];refine ab_ (r_c 2 (ir_ c i) ?_);refine ak_ ?_;refine ay_ (vaX r) (fun _=>False) ?_ (fun _ h=>h.elim);refine ae_ (AWp.rangeFuncB (α:=Nat) (γ:=Unit) kk (vaS c i q k step) (fun j=>j) (fun j=>j≤kk) (vaX r) (fun e _=>e= .ret) 0 rfl hgs rfl rfl ?_ (fun _=>⟨rfl,rfl⟩) (fun _=>rfl) (Nat.zero_le _) rfl (fun _ h=>h) ?_ ?_ ?_ ?_ ?_);intro j xs hT;cases hT;rfl;rw[vaS.eq_1];have:=eA_ k;exact s_t [];exact aa_ (bM_ c i) ac_;intro l j xs hj hT;cases hT;have hx:=hok j hj;obtain⟨s,hsd⟩:∃s,s=closV c i s0 j:=⟨_,rfl⟩;rw[←hsd] at hx⊢;obtain⟨x1,x2,x3,x4,x5⟩:=hx;obtain⟨v,hv⟩:∃v,v=overP q s:=⟨_,rfl⟩;have hov:=fs_Over q s x1;rw[←hv] at hov x2 x3;show AWp _ _ _ _ ⟨[(15,.agg (spC s.1 s.2)),(3,bPl c i),(4,bP q),(5,bI k),(6,.lptr 1 0 0),(7,bQ step),(14,.clos 317 [] [bPl c i]),(1003,bPl c i),(1004,bP q),(1005,bI k),(1006,.lptr 1 0 0),(1007,bQ step),(1014,.clos 317 [] [bPl c i])],[(1,some ⟨62,6,[zC++zC]⟩)],2,61⟩;refine r_m 2 ?_;refine a_z ?_;refine ae_ (r_c 5 (hov) ?_);refine a_z ?_;refine ab_ (ab_ (r_d hmix 5 ?_));refine c_s (iu_ v.1 v.2 x2.1 x2.2) ?_;refine c_s (eY_ (v.2- v.1) step x3 x4) ?_;refine a_1 ?_
 refine ak_ (n_k ?_);refine ai_ rfl (fun h6=>?_) (fun h6=>?_)
 have h7:¬cmpQ (v.2- v.1) step< 0:=by
  have:0≤cmpQ (v.2- v.1) step:=by simpa using h6
  omega
 have he:j< kk:=by
  refine Nat.lt_of_le_of_ne hj fun e=>?_;subst e;rw[←hsd] at t1;unfold valT at t1;rw[←hv] at t1;rw[if_pos ⟨x1,x2,x3,x4,x5⟩] at t1;simp[h7] at t1
 refine ar_ (⟨j+1,⟨he,rfl⟩,?_⟩);show SEntT _ ⟨[(1003,bPl c i),(1004,bP q),(1005,bI k),(1006,.lptr 1 0 0),(1007,bQ step),(1014,.clos 317 [] [bPl c i])],[(1,some ⟨62,6,[zC++zC]⟩)],2,61⟩;have:=eA_ k;exact s_t []
 ·have h7:cmpQ (v.2- v.1) step< 0:=by
   have:¬0≤cmpQ (v.2- v.1) step:=by simpa using h6
   omega
  have he:j=kk:=by
   refine Nat.le_antisymm hj (Nat.le_of_not_lt fun hlt=>?_);have h8:=t2 j (Nat.zero_le _) hlt;rw[←hsd] at h8;unfold valT at h8;rw[←hv] at h8;rw[if_pos ⟨x1,x2,x3,x4,x5⟩] at h8;simp[h7] at h8
  subst he;rw[←hsd,←hv] at hR;unfold valR at hR;rw[←hst] at hR;obtain⟨m,hm⟩:∃m,m=downQ v.2 (wi k 256):=⟨_,rfl⟩;rw[←hm] at hR;split at hR
  case isFalse=>cases hR
  case isTrue hz=>
  obtain⟨z1,z2,z3,z4,z5⟩:=hz;have hdn:=qZ_ v.2 k x2.2;rw[←hm] at hdn;refine ag_ (r_c 6 (hdn) ?_);refine a_z ?_;refine ab_ (r_c 5 (eY_ m v.1 z1 z2.1) ?_);refine a_z ?_;refine ai_ rfl (fun h8=>?_) (fun h8=>?_);have h9:cmpQ m v.1< 0:=by simpa using h8
  rw[if_pos h9] at hR;cases hR;refine ab_ (r_d hmix 6 ?_);refine c_s (c4_ m step (sm2 z1 z3)) ?_;refine a_2 ?_;refine ak_ (n_k ?_);refine ad_ (⟨rfl,(),rfl,?_⟩);show SEntT _ ⟨[(1006,.lptr 1 0 0)],[(1,some ⟨62,6,[spC (m,m+step).1 (m,m+step).2]⟩)],2,61⟩;have:=eA_ k;exact s_t [];have h9:¬cmpQ m v.1< 0:=by simpa using h8
  rw[if_neg h9] at hR;obtain⟨sg,hsg,hR2⟩:=Option.bind_eq_some_iff.1 hR;cases hR2;have hcl:=et_ m;have hsmc:smL (a0_ m):=f7_ fun x hx=>by rw[List.mem_singleton.1 hx];exact z1
  refine ag_ (ab_ (ab_ (r_d hmix 6 ?_)));refine c_s (eO_ m) ?_;refine c_s (it_ q (a0_ m) z4 hsmc (by omega) (by omega)) ?_;refine c_s (fs_sign f g c i (subP q (a0_ m)) sg hsg hf) ?_;refine ak_ (n_k ?_);refine ae_ (r_z 2 ?_);refine ai_ rfl (fun h10=>?_) (fun h10=>?_);have h11:sg=0:=by simpa using h10
  refine r_c 3 (fs_At m) ?_;refine a_z ?_;refine ad_ (⟨rfl,(),rfl,?_⟩);rw[if_pos h11];show SEntT _ ⟨[(1006,.lptr 1 0 0)],[(1,some ⟨62,6,[spC (m,m).1 (m,m).2]⟩)],2,61⟩;have:=eA_ k;exact s_t [];have h11:¬sg=0:=by simpa using h10
  refine r_z 2 ?_;refine ai_ rfl (fun h12=>?_) (fun h12=>?_);have h13:sg=1:=by simpa using h12
  refine ab_ (r_d hmix 6 ?_);refine c_s (c4_ m step (sm2 z1 z3)) ?_;refine a_2 ?_;refine ak_ (n_k ?_);refine ad_ (⟨rfl,(),rfl,?_⟩);rw[if_neg h11,if_pos h13];show SEntT _ ⟨[(1006,.lptr 1 0 0)],[(1,some ⟨62,6,[spC (m,m+step).1 (m,m+step).2]⟩)],2,61⟩;have:=eA_ k;exact s_t [];have h13:¬sg=1:=by simpa using h12
  refine ag_ (ab_ (r_d hmix 6 ?_));refine c_s (g4_ m step (sm2 z1 z3)) ?_;refine a_3 ?_;refine ak_ (n_k ?_);refine ad_ (⟨rfl,(),rfl,?_⟩);rw[if_neg h11,if_neg h13];show SEntT _ ⟨[(1006,.lptr 1 0 0)],[(1,some ⟨62,6,[spC (m- step,m).1 (m- step,m).2]⟩)],2,61⟩;have:=eA_ k;exact s_t []
 intro j hj hT;cases hT;rintro e u rfl;exact Fin.cell rfl rfl rfl TG.h TS.h (nle rfl) (au_ av_ (aP_ _ _))
structure CG (f N h Q:Nat)(p:List Rat)(c:Cnt):Prop where
 hc:b9_ f p=some c
 np:nz p
 ok:∀x,qs x≤Q→okUp c x∧okBe c x
 len:c.p.length≤N
 bd:bdL c.p (h+12* N+8)
 ht:Ht c.p (h+12* N+8)
theorem CG.ex{f N h X T Q:Nat}(hc:cH f N h X T Q=true){p:List Rat}(np:nz p)(hl:(trimQ p).length≤N)(hp:p.length≤1000)(hb:bdL p h)(hH:Ht p h):∃c,CG f N h Q p c:=by
 obtain⟨c,a1,a2,a3,a4,a5⟩:=countsH hc np hl hp hb hH;exact⟨c,a1,np,a2,a3,a4,a5⟩
theorem plC_nn{c:Cnt}{i:Int}{x:Rat}:0≤plC c i x↔aM_ c x≤i:=by unfold plC;grind
theorem plC_neg{c:Cnt}{i:Int}{x:Rat}:plC c i x< 0↔i< aM_ c x:=by have:=plC_nn (c:=c) (i:=i) (x:=x);omega
theorem plC_z{c:Cnt}{i:Int}{x:Rat}:plC c i x=0↔aM_ c x=i∧aM_ c x< uptoV c x:=by
 unfold plC;grind
theorem plC_one{c:Cnt}{i:Int}{x:Rat}(h:plC c i x=1):aM_ c x≤i:=plC_nn.1 (by omega)
theorem plC_els{c:Cnt}{i:Int}{x:Rat}(h0:plC c i x≠0)(h1:plC c i x≠1):i< aM_ c x:=by
 unfold plC at *
 grind
theorem j7_{z:Int}{b:Nat}(h:z.natAbs≤2^ b):qs (z:Rat)≤b+2:=by
 have h1:=qs_int z;have h2:bl z.natAbs≤b+1:=bl_le (Nat.lt_of_le_of_lt h (Nat.pow_lt_pow_right (by decide) (by omega)));omega
theorem fine0:fineQ 0=1:=by decide+kernel
theorem kC_{f N h Q:Nat}{p:List Rat}{c:Cnt}(H:CG f N h Q p c)(i:Int){b:Nat}(hb:b+6≤Q)(hb2:b≤100000000):∀(n g:Nat) (lo hi:Int),n< g→lo< hi→hi- lo≤2^ n→lo.natAbs≤2^ b→hi.natAbs≤2^ b→aM_ c lo≤i→i< aM_ c hi→
    ∃l:Int,biM c i 1 g lo hi=some (l:Rat)∧lo≤l∧l< hi∧aM_ c l≤i∧i< aM_ c ((l+1:Int):Rat)
 |_,0,_,_,hg,_,_,_,_,_,_=>by omega
 |n,g+1,lo,hi,hg,hlt,hn,h1,h2,h3,h4=>by
  have sl:=j7_ h1;have sh:=j7_ h2;have sd:=jr_ (hi:Rat) (lo:Rat);rw[biM,if_pos (show sm (lo:Rat)∧sm (hi:Rat)∧sm ((hi:Rat)- lo) from⟨by show _≤137438953472;omega,by show _≤137438953472;omega,by show _≤137438953472;omega⟩)];have e1:(1:Rat)=((1:Int):Rat):=rfl;by_cases hd:hi- lo≤1;have hh:hi=lo+1:=by omega
  rw[if_neg (by
   unfold cmpQ;have:(hi:Rat)- (lo:Rat)=1:=by rw[hh,Rat.intCast_add];grind
   grind)]
  exact⟨lo,rfl,by omega,by omega,h3,by rw[←hh];grind⟩
  rw[if_pos (by
   unfold cmpQ;have:(1:Rat)< (hi:Rat)- (lo:Rat):=by rw[e1,←Rat.intCast_sub,Rat.intCast_lt_intCast];omega
   grind)]
  generalize hm:(((lo:Rat)+(hi:Rat)) / 2).floor=m;have f1:=Rat.floor_le (((lo:Rat)+(hi:Rat)) / 2);have f2:=Rat.lt_floor_add_one (((lo:Rat)+(hi:Rat)) / 2);rw[hm] at f1 f2;have e2:((lo:Rat)+(hi:Rat)) / 2* 2=(lo:Rat)+(hi:Rat):=Rat.div_mul_cancel (by decide)
  have g1:2* m≤lo+hi:=by
   rw[←Rat.intCast_le_intCast,Rat.intCast_mul,Rat.intCast_add,show((2:Int):Rat)=2 from rfl];grind
  have g2:lo+hi< 2* (m+1):=by
   rw[←Rat.intCast_lt_intCast,Rat.intCast_mul,Rat.intCast_add lo hi,show((2:Int):Rat)=2 from rfl];grind
  have hmb:m.natAbs≤2^ b:=by omega
  have sm':=j7_ hmb;have s1:qs 1=1:=by decide
  rw[Rat.mul_one,if_pos (show qs (m:Rat)+qs 1≤549755813888∧okBe c (m:Rat) from⟨by omega,(H.ok _ (by omega)).2⟩)];cases n with
  |zero=>omega
  |succ n=>
  have hp:(2:Int) ^ (n+1)=2^ n* 2:=Int.pow_succ 2 n;by_cases hb':aM_ c (m:Rat)≤i;rw[if_pos (plC_nn.2 hb')];obtain⟨l,q1,q2,q3,q4⟩:=kC_ H i hb hb2 n g m hi (by omega) (by omega) (by omega) hmb h2 hb' h4;exact⟨l,q1,by omega,q3,q4⟩;rw[if_neg (fun e=>hb' (plC_nn.1 e))];obtain⟨l,q1,q2,q3,q4⟩:=kC_ H i hb hb2 n g lo m (by omega) (by omega) (by omega) h1 hmb h3 (by omega);exact⟨l,q1,q2,by omega,q4⟩
theorem qo_{c:Cnt}{b:Nat}(hb:qs (a1_ c.p)+1≤b):∃z:Int,hiV c 1=(z:Rat)∧1≤z∧z.natAbs≤2^ b∧a1_ c.p≤(z:Rat):=by
 have h1:=gA_ c.p;refine⟨-(-a1_ c.p).floor,by unfold hiV ceilQ;grind,?_,?_,?_⟩;have:=Rat.floor_le (-a1_ c.p);have h2:((-a1_ c.p).floor:Rat)≤((-1:Int):Rat):=by grind
 rw[Rat.intCast_le_intCast] at h2;omega;have h2:=hl_ (-a1_ c.p);rw[cQ_] at h2;have h3:=co_ (((-a1_ c.p).floor:Rat));rw[Rat.num_intCast] at h3;have:=lt_bl (-a1_ c.p).floor.natAbs;have:=Nat.pow_le_pow_right (n:=2) (by decide) (show bl (-a1_ c.p).floor.natAbs≤b by omega);omega;have:=Rat.floor_le (-a1_ c.p);grind
theorem high_ne{q:List Rat}(h:nz q){x:Rat}(hx:a1_ q≤x):evalP q x≠0:=fun e=>by
 have h1:=jQ_ h hx;rw[e,gZ_] at h1;have:=rK_ (bj_ h);grind
theorem span0{f N h Q b:Nat}{p:List Rat}{c:Cnt}(H:CG f N h Q p c)(hN:N≤12)(h1:1≤h)(hb:2* (h+12* N+8)+4≤b)(hb3:b≤100000000)(hQ:b+6≤Q)(hf:b+2≤f)(i:Int)(h0:0≤i)(hi:i< allV c):∃l u:Int,spanM f c i 0=some ((l:Rat),(u:Rat))∧u- l≤1∧At c i l u∧l.natAbs≤2^ b∧u.natAbs≤2^ b:=by
 have hq:=bound_qs H.bd (by omega);obtain⟨z,z1,z2,z3,z4⟩:=qo_ (c:=c) (b:=b) (by omega);obtain⟨n1,_,_,hfar,hlow,hmono⟩:=cT_ H.hc H.np
 have lo:aM_ c ((-z:Int):Rat)≤i:=by
  have:=hlow ((-z:Int):Rat) (by grind);have:=(cn_ (c:=c) H.hc H.np ((-z:Int):Rat)).1;omega
 have hi':i< aM_ c (z:Rat):=by
  unfold allV at hi;by_cases g:a1_ c.p< (z:Rat);have:=cj_ H.hc H.np g;omega;have e:a1_ c.p=(z:Rat):=by grind
  rw[←e];unfold aM_;rw[if_neg (high_ne n1 (by grind))];grind
 have hpw:(2:Int) ^ (b+1)=2^ b* 2:=Int.pow_succ 2 b;have hpc:((2^ b:Nat):Int)=2^ b:=Int.natCast_pow 2 b;obtain⟨l,q1,q2,q3,q4,q5⟩:=kC_ H i (b:=b) (by omega) (by omega) (b+1) f (-z) z (by omega) (by omega) (by omega) (by grind) z3 lo hi';have hlb:l.natAbs≤2^ b:=by omega
 have hub:(l+1).natAbs≤2^ b:=by omega
 have sl:=j7_ hlb;have s1:qs 1=1:=by decide
 have hd:downM f c i 1=some ((l:Rat),plC c i (l:Rat)==0):=by
  unfold downM;rw[z1,show -((z:Int):Rat)=((-z:Int):Rat) by grind,q1,Option.bind_some,if_pos (show pW_ c 1 (l:Rat) from⟨?_,n1,by decide,by omega,by omega,by rw[Rat.mul_one];exact(H.ok _ (by omega)).2⟩),Rat.mul_one];have:=bz_ H.bd (by omega);exact⟨by omega,by have:=H.len;omega⟩
 have hw:wi 0 256=0:=by decide
 unfold spanM;rw[hw,fine0,hd,Option.bind_some];by_cases g:plC c i (l:Rat)=0;refine⟨l,l,by simp only[g];rfl,by omega,⟨by grind,q4,by have:=plC_z.1 g;omega⟩,hlb,hlb⟩;refine⟨l,l+1,?_,by omega,⟨by rw[Rat.intCast_le_intCast];omega,q4,?_⟩,hlb,hub⟩;have e:(plC c i (l:Rat)==0)=false:=by rw[beq_eq_false_iff_ne];exact g
 simp only[e];rw[if_neg (by decide),if_pos (by omega),Rat.intCast_add];rfl;have:=(cn_ (c:=c) H.hc H.np ((l+1:Int):Rat)).1;omega
theorem gr_{t:Nat→Option Bool}:∀(J g k0:Nat),J< g→(∀k,k0≤k→k≤k0+J→∃b,t k=some b)→t (k0+J)=some true→∃kk,gs_ t g k0=some kk∧t kk=some true∧kk≤k0+J
 |_,0,_,hg,_,_=>by omega
 |J,g+1,k0,hg,h,ht=>by
  rw[gs_];obtain⟨b,hb⟩:=h k0 (Nat.le_refl _) (by omega);cases b with
  |true=>grind
  |false=>
   have hJ:J≠0:=fun e=>by grind
   obtain⟨kk,a1,a2,a3⟩:=gr_ (J- 1) g (k0+1) (by omega) (fun k h1 h2=>h k (by omega) (by omega)) (by grind);grind
theorem fine1:fineQ 1=1/ 2:=by decide+kernel
theorem le_p2{a b:Rat}{k:Nat}(h:a* p2 k≤b* p2 k):a≤b:=dy_ (bH_ k) (by grind)
theorem n5_{f N h Q:Nat}{p:List Rat}{c:Cnt}(H:CG f N h Q p c){i l u:Int}(hl:l≤u)(hu:u≤l+1)(a:At c i l u):∀k,∃z w:Int,(closV c i ((l:Rat),(u:Rat)) k).1* p2 k=(z:Rat)∧(closV c i ((l:Rat),(u:Rat)) k).2* p2 k=(w:Rat)∧z≤w∧w≤z+1∧At c i (closV c i ((l:Rat),(u:Rat)) k).1 (closV c i ((l:Rat),(u:Rat)) k).2
 |0=>⟨l,u,by rw[h3_,Rat.mul_one];rfl,by rw[h3_,Rat.mul_one];rfl,hl,hu,a⟩
 |k+1=>by
  obtain⟨z,w,h1,h2,h3,h4,h5⟩:=n5_ H hl hu a k;rw[closV];generalize closV c i ((l:Rat),(u:Rat)) k=s at *
  have hm:midV s* p2 (k+1)=((z+w:Int):Rat):=by
   unfold midV;rw[fine1,cp_,e4_,Rat.intCast_add,←h1,←h2];grind
  have d1:s.1* p2 (k+1)=((2* z:Int):Rat):=by rw[cp_,e4_,Rat.intCast_mul,←h1,show((2:Int):Rat)=2 from rfl];grind
  have d2:s.2* p2 (k+1)=((2* w:Int):Rat):=by rw[cp_,e4_,Rat.intCast_mul,←h2,show((2:Int):Rat)=2 from rfl];grind
  have lm:s.1≤midV s:=le_p2 (k:=k+1) (by rw[hm,d1,Rat.intCast_le_intCast];omega);have mu:midV s≤s.2:=le_p2 (k:=k+1) (by rw[hm,d2,Rat.intCast_le_intCast];omega);unfold nextS;by_cases e0:plC c i (midV s)=0;rw[if_pos e0];have:=plC_z.1 e0;exact⟨z+w,z+w,hm,hm,by omega,by omega,⟨Rat.le_refl,by grind,by grind⟩⟩;rw[if_neg e0];by_cases e1:plC c i (midV s)=1;rw[if_pos e1];exact⟨z+w,2* w,hm,d2,by omega,by omega,mu,plC_one e1,h5.2.2⟩;rw[if_neg e1];have q1:=plC_els e0 e1;have q2:=(cn_ (c:=c) H.hc H.np (midV s)).1;exact⟨2* z,z+w,d1,hm,by omega,by omega,⟨lm,h5.2.1,by grind⟩⟩
theorem at_ord{f N h Q:Nat}{p:List Rat}{c:Cnt}(H:CG f N h Q p c){i:Int}{x y x' y':Rat}(a:At c i x y)(b:At c i x' y'):x≤y':=by
 by_cases g:x≤y';exact g;have:=cj_ H.hc H.np (show y'< x by grind);have:=a.2.1;have:=b.2.2;omega
theorem mT_{f N h Q:Nat}{p:List Rat}{c:Cnt}(H:CG f N h Q p c){i l u:Int}(hl:l≤u)(hu:u≤l+1)(a:At c i l u){A B:Rat}{r:Nat}(ab0:At c i A B)(hA:ab A≤p2 r)(hB:ab B≤p2 r)(k:Nat):
    qs (closV c i ((l:Rat),(u:Rat)) k).1≤r+k+2∧qs (closV c i ((l:Rat),(u:Rat)) k).2≤r+k+2∧qs (midV (closV c i ((l:Rat),(u:Rat)) k))≤r+k+4∧ab (closV c i ((l:Rat),(u:Rat)) k).1≤p2 (r+1)∧ab (closV c i ((l:Rat),(u:Rat)) k).2≤p2 (r+1)∧
     ((closV c i ((l:Rat),(u:Rat)) k).2- (closV c i ((l:Rat),(u:Rat)) k).1) * p2 k≤1∧At c i (closV c i ((l:Rat),(u:Rat)) k).1 (closV c i ((l:Rat),(u:Rat)) k).2:=by
 obtain⟨z,w,h1,h2,h3,h4,h5⟩:=n5_ H hl hu a k;generalize closV c i ((l:Rat),(u:Rat)) k=s at *
 have o1:=at_ord H h5 ab0;have o2:=at_ord H ab0 h5;have hA':=(ab_le.1 hA).1;have hB':=(ab_le.1 hB).2;have pk:=Rat.le_of_lt (bH_ k)
 have e1:z≤((2^ (r+k):Nat):Int):=by
  have t1:=Rat.mul_le_mul_of_nonneg_right (show s.1≤p2 r by grind) pk;rw[h1,←cp_] at t1;unfold p2 at t1;rw[Rat.intCast_le_intCast] at t1;grind
 have e2: -((2^ (r+k):Nat):Int)≤w:=by
  have t1:=Rat.mul_le_mul_of_nonneg_right (show -p2 r≤s.2 by grind) pk;rw[h2,show -p2 r* p2 k= -(p2 r* p2 k) by grind,←cp_] at t1;unfold p2 at t1;rw[←Rat.intCast_neg,Rat.intCast_le_intCast] at t1;grind
 have hp1:=Nat.one_le_two_pow (n:=r+k);have hps:2^ (r+k+1)=2^ (r+k) * 2:=Nat.pow_succ 2 (r+k);have zl:z.natAbs≤2^ (r+k+1):=by grind
 have wl:w.natAbs≤2^ (r+k+1):=by grind
 have bz:bl z.natAbs≤r+k+2:=bl_le (Nat.lt_of_le_of_lt zl (Nat.pow_lt_pow_right (by decide) (by omega)));have bw:bl w.natAbs≤r+k+2:=bl_le (Nat.lt_of_le_of_lt wl (Nat.pow_lt_pow_right (by decide) (by omega)))
 have bp:∀j,j≤r+k+1→IB (p2 j) (r+k+2):=fun j hj=>⟨((2^ j:Nat):Int),rfl,by
  rw[Int.natAbs_natCast];exact bl_le (Nat.pow_lt_pow_right (by decide) (by omega))⟩
 have quo:∀(x:Rat) (v:Int) (j n:Nat),x* p2 j=(v:Rat)→bl v.natAbs≤n→IB (p2 j) n→1≤n→qs x≤n:=fun x v j n e hb hp h1=>by
  have:=mY_ (x:=x* p2 j) (y:=p2 j) ⟨v,e,hb⟩ hp (by have:=bH_ j;grind) h1;rwa[Rat.mul_div_cancel (by have:=bH_ j;grind)] at this
 have hm:midV s* p2 (k+1)=((z+w:Int):Rat):=by
  unfold midV;rw[fine1,cp_,e4_,Rat.intCast_add,←h1,←h2];have:(1:Rat) / 2* 2=1:=by decide+kernel
  generalize (1:Rat) / 2=t at *
  grind
 have mag:∀(x:Rat) (v:Int),x* p2 k=(v:Rat)→v.natAbs≤2^ (r+k+1)→ab x≤p2 (r+1):=fun x v e hv=>by
  have t:ab (x* p2 k)≤p2 (r+k+1):=by
   rw[e,ab_le];unfold p2;rw[←Rat.intCast_neg,Rat.intCast_le_intCast,Rat.intCast_le_intCast];omega
  rw[bx_,show ab (p2 k)=p2 k by unfold ab;rw[if_neg (by grind)],show r+k+1=r+1+k by omega,cp_] at t;exact le_p2 t
 refine⟨quo _ z k _ h1 bz (bp k (by omega)) (by omega),quo _ w k _ h2 bw (bp k (by omega)) (by omega),quo _ (z+w) (k+1) _ hm ?_ ((bp (k+1) (by omega)).mono (by omega)) (by omega),mag _ z h1 zl,mag _ w h2 wl,?_,h5⟩;have:=gB_ bz bw;omega;rw[Rat.sub_eq_add_neg,Rat.add_mul,h2,show -s.1* p2 k= -(s.1* p2 k) by grind,h1,←Rat.intCast_neg,←Rat.intCast_add,show(1:Rat)=((1:Int):Rat) from rfl,Rat.intCast_le_intCast];omega
def jB(N h g r J:Nat):Bool:=(List.range (N+1)).all fun m=>(List.range (m+1)).all fun n=>decide (sF (n+1) m n h g (r+1)+(max h g+(r+1+2) * m)+1≤J) && decide (sF (n+1) m n g h (r+1)+(max h g+(r+1+2) * m)+1≤J)
theorem sepJ{N h g r J k:Nat}(hJ:jB N h g r J=true)(hk:J≤k){p q:List Rat}(lp:(trimQ p).length≤N)(lq:(trimQ q).length≤N)(np:nz p)(nq:nz q)(Hp:Ht p h)(Hq:Ht q g)(hco:∀d,nz d→Dv d p→Dv d q→dg d=0){x y:Rat}(hxy:x≤y)(hx:ab x≤p2 (r+1))(hy:ab y≤p2 (r+1))(hd:(y- x) * p2 k≤1):Far p x y∨Far q x y:=by
 unfold jB at hJ;simp only[List.all_eq_true,List.mem_range,Bool.and_eq_true,decide_eq_true_eq] at hJ;obtain⟨a,a0,ha⟩:=Hp;obtain⟨b,b0,hb⟩:=Hq
 have hd':(y- x) * p2 J≤1:=by
  have:=Rat.mul_le_mul_of_nonneg_left (cw_ hk) (show 0≤y- x by grind);grind
 by_cases hl:(trimQ q).length≤(trimQ p).length;have t:=(hJ (trimQ p).length (by omega) (trimQ q).length (by omega)).1;exact pu_ (r:=r+1) (J:=J) rfl rfl hl nq a0 b0 ha hb hco (by omega) (by omega) hxy hx hy hd';have t:=(hJ (trimQ q).length (by omega) (trimQ p).length (by omega)).2;exact(pu_ (r:=r+1) (J:=J) rfl rfl (show(trimQ p).length≤(trimQ q).length by omega) np b0 a0 hb ha (fun d d0 d1 d2=>hco d d0 d2 d1) (by omega) (by omega) hxy hx hy hd').symm
theorem CG.sq{f N h Q:Nat}{p:List Rat}{c:Cnt}(H:CG f N h Q p c):nz c.p∧∀d,nz d→Dv d c.p→Dv d (ao_ c.p)→dg d=0:=by
 obtain⟨n1,hs,_⟩:=cT_ H.hc H.np;exact hQ_ hs H.np
theorem kE_{f N h Q:Nat}{p:List Rat}{c:Cnt}(H:CG f N h Q p c){i:Int}{x y:Rat}(a:At c i x y):¬Far c.p x y:=fun g=>by
 obtain⟨hSF,hdv,_⟩:=es_ H.hc H.np;exact at_not H.hc H.np a (SF.far _ p c.p (Nat.le_refl _) H.np hSF x y g)
theorem iso_at{f N h Q r J k:Nat}{p:List Rat}{c:Cnt}(H:CG f N h Q p c)(h1:1≤h)(hN:N≤12)(hJ:jB N (h+12* N+8) (h+12* N+13) r J=true)(hk:J≤k){i:Int}{x y:Rat}(a:At c i x y)(hx:ab x≤p2 (r+1))(hy:ab y≤p2 (r+1))(hd:(y- x) * p2 k≤1):aM_ c x=i∧uptoV c y=i+1:=by
 obtain⟨n1,hco⟩:=H.sq;have hl:(trimQ c.p).length≤N:=by have:=aD_ c.p;have:=H.len;omega
 have key:Far (ao_ c.p) x y:=by
  by_cases hn:nz (ao_ c.p);have hdl:=dV_ n1;have hdt:trimQ (ao_ c.p)=ao_ c.p:=aY_ _;rcases sepJ hJ hk hl (by grind) n1 hn H.ht ((fx_ (by omega) H.bd (by omega) H.ht).2) hco a.1 hx hy hd with g|g
  exact absurd g (kE_ H a);exact g;exfalso;have hd0:=hco c.p n1 (.refl _) (.zero _ (cR_ hn));obtain⟨v,v0,hv⟩:=g1_ n1 hd0;exact kE_ H a (Far.const v0 hv)
 have:=rp_ H.hc H.np a.1 key;have:=a.2.1;have:=a.2.2;omega
structure RC (f N h Q r J:Nat)(p:List Rat)(c:Cnt)(i:Int)(A B:Rat):Prop where
 H:CG f N h Q p c
 h1:1≤h
 hN:N≤12
 hJ:jB N (h+12* N+8) (h+12* N+13) r J=true
 at_:At c i A B
 hA:ab A≤p2 r
 hB:ab B≤p2 r
 i0:0≤i
 ia:i< allV c
 hQ:r+J+4≤Q
 hb:2* (h+12* N+8)+10≤Q
 hb2:h≤10000000
 hf:2* (h+12* N+8)+6≤f
section
variable {f N h Q r J g:Nat}{p:List Rat}{c:Cnt}{i:Int}{A B:Rat}(R:RC f N h Q r J p c i A B)
include R
theorem RC.span:∃l u:Int,spanM f c i 0=some ((l:Rat),(u:Rat))∧l≤u∧u≤l+1∧At c i l u:=by
 obtain⟨l,u,a1,a2,a3,_⟩:=span0 (b:=2* (h+12* N+8)+4) R.H R.hN R.h1 (Nat.le_refl _) (by have:=R.hb2;have:=R.hN;omega) (by have:=R.hb;omega) (by have:=R.hf;omega) i R.i0 R.ia;exact⟨l,u,a1,Rat.intCast_le_intCast.1 a3.1,by omega,a3⟩
theorem RC.ibd: -4611686018427387904≤i∧i≤4611686018427387904:=by
 have q0:qs 0≤Q:=Nat.le_trans (by decide:qs 0≤1) (by have:=R.hb;omega);have h1:=eC_ (c:=c) (x:=B) (R.H.ok 0 q0).1.1;have:=R.i0;have:=R.at_.2.2;omega
theorem RC.alone(hg:J< g)(hQ2:r+J+4≤100000000000):∃s:Sp,oh_ f g c i=some s∧At c i s.1 s.2∧uptoV c s.2≤aM_ c s.1+1∧qs s.1≤r+J+2∧qs s.2≤r+J+2:=by
 obtain⟨l,u,hs,l1,l2,a⟩:=R.span;have sz:=mT_ R.H l1 l2 a R.at_ R.hA R.hB;have hi:=R.ibd;have hQ:=R.hQ
 have val:∀k,k≤J→fm_ c i (closV c i ((l:Rat),(u:Rat)) k)=some (decide (aM_ c (closV c i ((l:Rat),(u:Rat)) k).1=i∧uptoV c (closV c i ((l:Rat),(u:Rat)) k).2=i+1)):=fun k hk=>by
  obtain⟨q1,q2,q3,_⟩:=sz k;unfold fm_;rw[if_pos ⟨(R.H.ok _ (by omega)).2,(R.H.ok _ (by omega)).1,⟨⟨Nat.le_trans q1 (by omega),Nat.le_trans q2 (by omega)⟩,(R.H.ok _ (by omega)).2⟩,hi⟩]
 obtain⟨q1,q2,q3,q4,q5,q6,q7⟩:=sz J
 obtain⟨kk,b1,b2,b3⟩:=gr_ (t:=fun k=>fm_ c i (closV c i ((l:Rat),(u:Rat)) k)) J g 0 hg (fun k _ hk=>⟨_,val k (by omega)⟩) (by
  rw[Nat.zero_add,val J (Nat.le_refl _),decide_eq_true (iso_at R.H R.h1 R.hN R.hJ (Nat.le_refl _) q7 q4 q5 q6)])
 have b4:=val kk (by omega);have b2':fm_ c i (closV c i ((l:Rat),(u:Rat)) kk)=some true:=b2;rw[b4] at b2';have b5:=of_decide_eq_true (Option.some.inj b2');obtain⟨w1,w2,_,_,_,_,w7⟩:=sz kk;unfold oh_;grind
end
theorem nz_:∀{f:Nat} {p q g:List Rat},gcdM f p q=some g→∃u,g=a4_ u
 |0,_,_,_,h=>by cases h
 |f+1,p,q,g,h=>by
  rw[gcdM] at h;split at h;split at h;cases h;exact⟨_,rfl⟩;cases h;split at h;exact nz_ h;cases h
theorem p6_{v:List Rat}(h:nz v)(hl:leadP v=1)(ht:trimQ v=v):a4_ v=v:=by
 unfold a4_;rw[if_neg h,hl,←eD_,←ht]
 conv=>rhs;rw[ht]
 exact(eqv_trim.1 fun x=>by rw[an_];grind).trans ht
theorem mk_(u:List Rat):a4_ (a4_ u)=a4_ u:=by
 by_cases h:nz u;have hm:=cx_ h;refine p6_ hm.2.1 ?_ (eE_ u);have h0:=bj_ h;rw[(dG_ h (k:=1/ leadP u) (fun e=>by grind) hm.1).2.2];grind;have h':trimQ u=[]:=Classical.not_not.1 h;have e:a4_ u=[]:=by unfold a4_;grind
 rw[e];rfl
theorem op_{f N h Q r J:Nat}{p:List Rat}{c:Cnt}{i:Int}{A B:Rat}(R:RC f N h Q r J p c i A B){x y:Rat}(a:At c i x y)(h1:uptoV c y≤aM_ c x+1){q G:List Rat}(gp:Dv G c.p)(gq:Dv G q)(hb:∃u v:List Rat,∀z,evalP G z=evalP u z* evalP c.p z+evalP v z* evalP q z):Far G x y↔∃t,Sgn c i q t:=
 oo_ R.H.hc R.H.np a h1 (fun _ _ b=>kE_ R.H b) (fun x y b e=>((c9_ R.H.hc R.H.np b).1 e).dv (es_ R.H.hc R.H.np).2.1) gp gq hb
section
variable {f N h Q r J g M hq X Xd Td J2:Nat}{p:List Rat}{c:Cnt}{i:Int}{A B:Rat}(R:RC f N h Q r J p c i A B)
include R
theorem RC.gcd {q:List Rat} (nq:nz q) (hql:q.length≤1000) (lq:(trimQ q).length≤N) (bq:bdL q hq) (Hq:Ht q hq) (h1q:1≤hq) (hX:X≤137438953472)
    (hT:((List.range (N+1)).all fun m=>(List.range (N+1)).all fun n=>hG f m n (h+12* N+8) hq X)=true):
    ∃d,gcdM f c.p q=some d∧nz d∧Dv d c.p∧Dv d q∧(∃u v:List Rat,∀x,evalP d x=evalP u x* evalP c.p x+evalP v x* evalP q x)∧bdL d (h+24* N+16)∧Ht d (h+24* N+16)∧(trimQ d).length≤N∧d.length≤1000:=by
 obtain⟨n1,hco⟩:=R.H.sq;have hl:=aD_ c.p;have hlen:=R.H.len;have hN:=R.hN;simp only[List.all_eq_true,List.mem_range] at hT;obtain⟨d,g1,g2,g3,g4⟩:=io_ f _ _ (h+12* N+8) hq X c.p q (hT (trimQ c.p).length (by omega) (trimQ q).length (by omega)) rfl rfl R.H.bd bq R.H.ht Hq (by omega) h1q (by omega) hql hX;obtain⟨z0,z1,z2,u,v,z3⟩:=eN_ f _ _ _ g1 (.inl n1);have hd1:=z1.dg n1;have l1:=fH_ n1;have l2:=fH_ z0;have hH:Ht d (h+24* N+16):=(dv_ht n1 z1 R.H.ht (show dg c.p≤N by omega) (by omega)).mono (by omega);obtain⟨w,hw⟩:=nz_ g1;have hb:=(hH.monic (by grind)).1;rw[show a4_ d=d by rw[hw,mk_]] at hb;exact⟨d,g1,z0,z1,z2,⟨u,v,z3⟩,hb,hH,by omega,g2⟩
theorem RC.shares (hg:J< g) (hQ2:r+J+4≤100000000000) {q:List Rat} (nq:nz q) (hql:q.length≤1000) (lq:(trimQ q).length≤N) (bq:bdL q hq) (Hq:Ht q hq) (h1q:1≤hq) (hX:X≤137438953472)
    (hT:((List.range (N+1)).all fun m=>(List.range (N+1)).all fun n=>hG f m n (h+12* N+8) hq X)=true) (hc2:cH f N (h+24* N+16) Xd Td Q=true):
    ∃b,hU_ f g c i q=some b∧(b=true↔¬ ∃t,Sgn c i q t):=by
 obtain⟨d,g1,z0,z1,z2,⟨u,v,z3⟩,hb,hH,hdl,hdl2⟩:=R.gcd nq hql lq bq Hq h1q hX hT;obtain⟨c2,C2⟩:=CG.ex hc2 z0 hdl hdl2 hb hH;obtain⟨s,s1,s2,s3,s4,s5⟩:=R.alone hg hQ2;have hQ:=R.hQ;have hgen:=op_ R s2 s3 z1 z2 ⟨u,v,z3⟩;unfold hU_;have hlen:=R.H.len;have hN:=R.hN;rw[if_pos ⟨by omega,by omega⟩,g1,Option.bind_some,if_pos (by omega)];by_cases hd:degP d< 1;rw[if_pos hd];refine⟨false,rfl,fun e=>(by cases e),fun e=>absurd ?_ e⟩;have hd0:dg d=0:=by rw[mN_ z0] at hd;omega
 obtain⟨γ,γ0,hγ⟩:=g1_ z0 hd0;exact hgen.1 (Far.const γ0 hγ);rw[if_neg hd,C2.hc,Option.bind_some,s1,Option.bind_some,if_pos ⟨(C2.ok _ (by omega)).1,(C2.ok _ (by omega)).2⟩];have hm:=c9_ C2.hc C2.np s2.1;have hb1:=(cn_ (c:=c2) C2.hc C2.np s.1).1;have hmo:=cX_ C2.hc C2.np s2.1;grind
end
theorem no_zero{q:List Rat}(h:∀x,evalP q x=0){x y:Rat}(hxy:x≤y):¬Far q x y:=fun g=>g.ne (by grind) hxy (h x)
structure SB (f N h Q r g hq J2:Nat):Prop where
 hq1:1≤hq
 gcd:∃X,X≤137438953472∧((List.range (N+1)).all fun m=>(List.range (N+1)).all fun n=>hG f m n (h+12* N+8) hq X)=true
 cd:∃X T,cH f N (h+24* N+16) X T Q=true
 cq:∃X T,cH f N hq X T Q=true
 hJ2:jB N (h+24* N+16) hq r J2=true
 hg:J2< g
 hQ2:r+J2+4≤Q
 ev:24* (hq+Q+1)+hq+Q+2≤137438953472
theorem RC.sign{f N h Q r J g hq J2:Nat}{p:List Rat}{c:Cnt}{i:Int}{A B:Rat}(R:RC f N h Q r J p c i A B)(S:SB f N h Q r g hq J2)(hgJ:J< g){q:List Rat}(hql:q.length≤24)(lq:(trimQ q).length≤N)(bq:bdL q hq)(Hq:Ht q hq):
    ∃t,signM f g c i q=some t∧((∃t',Sgn c i q t')→Sgn c i q t∧(t=1∨t= -1))∧((¬ ∃t',Sgn c i q t')→t=0):=by
 have hQ:=R.hQ;have hQ2:=S.hQ2;have hev:=S.ev;by_cases nq:nz q;rotate_left;have hz:=cR_ nq;have hd:=degP_nil.2 nq;refine⟨0,?_,fun⟨t,x,y,a,b,_⟩=>absurd b (no_zero hz a.1),fun _=>rfl⟩;unfold signM;rw[if_pos (by omega),if_pos (by omega)];obtain⟨X,hX,hT⟩:=S.gcd;obtain⟨Xd,Td,hc2⟩:=S.cd;obtain⟨Xq,Tq,hcq⟩:=S.cq;obtain⟨b,b1,b2⟩:=R.shares hgJ (by omega) nq (by omega) lq bq Hq S.hq1 hX hT hc2;obtain⟨d,g1,z0,z1,z2,⟨u,v,z3⟩,hb,hH,hdl,hdl2⟩:=R.gcd nq (by omega) lq bq Hq S.hq1 hX hT;have hdeg:¬degP q< 0:=by rw[mN_ nq];omega
 unfold signM;rw[if_pos (by omega),if_neg hdeg,b1,Option.bind_some];cases b with
 |true=>
  simp_all
 |false=>
 have hex:∃t',Sgn c i q t':=Classical.not_not.1 fun e=>by grind
 obtain⟨c2,C2⟩:=CG.ex hcq nq lq (by omega) bq Hq;obtain⟨l,w,hs,l1,l2,a⟩:=R.span;have sz:=mT_ R.H l1 l2 a R.at_ R.hA R.hB;rw[if_neg (by decide),C2.hc,Option.bind_some,hs,Option.bind_some]
 have val:∀k,k≤J2→signT c i c2 (closV c i ((l:Rat),(w:Rat)) k)=some (decide (uptoV c2 (closV c i ((l:Rat),(w:Rat)) k).2=aM_ c2 (closV c i ((l:Rat),(w:Rat)) k).1)):=fun k hk=>by
  obtain⟨q1,q2,q3,_⟩:=sz k;unfold signT;rw[if_pos ⟨(C2.ok _ (by omega)).1,(C2.ok _ (by omega)).2,⟨⟨Nat.le_trans q1 (by omega),Nat.le_trans q2 (by omega)⟩,(R.H.ok _ (by omega)).2⟩⟩]
 obtain⟨q1,q2,q3,q4,q5,q6,q7⟩:=sz J2
 have far:Far q (closV c i ((l:Rat),(w:Rat)) J2).1 (closV c i ((l:Rat),(w:Rat)) J2).2:=by
  obtain⟨n1,hco⟩:=R.H.sq;obtain⟨m,hm⟩:=z1;have hm':∀x,evalP c.p x=evalP m x* evalP d x:=hm;have nm:=(cJ_ hm' n1).1;have dm:Dv m c.p:=⟨d,fun x=>by rw[hm];grind⟩;have hlen:=R.H.len;have hN:=R.hN;have htl:=aD_ c.p;have ld:=dm.dg n1;have l1:=fH_ n1;have lm:=fH_ nm;have hH2:Ht m (h+24* N+16):=(dv_ht n1 dm R.H.ht (show dg c.p≤N by omega) (by omega)).mono (by omega)
  have co:∀e,nz e→Dv e m→Dv e q→dg e=0:=fun e e0 e1 e2=>by
   have e3:Dv e c.p:=e1.trans dm;have e4:Dv e d:=e3.lin e2 (u:=u) (v:=v) z3;refine hco e e0 e3 (e4.lin e1 (u:=ao_ m) (v:=ao_ d) fun x=>?_);rw[aI_,nU_ hm',aI_,aI_];grind
  rcases sepJ S.hJ2 (Nat.le_refl _) (by omega) lq nm nq hH2 Hq co q7.1 q4 q5 q6 with g|g
  exfalso;obtain⟨t',x,y,a1,a2,_⟩:=hex;obtain⟨x',y',u1,u2,v1,v2,huv⟩:=iO_ R.H.hc R.H.np q7 a1;exact kE_ R.H huv ((g.sub u1 v1).mul ((a2.sub u2 v2).dv z2) hm');exact g
 obtain⟨kk,b1,b2,b3⟩:=gr_ (t:=fun k=>signT c i c2 (closV c i ((l:Rat),(w:Rat)) k)) J2 g 0 S.hg (fun k _ hk=>⟨_,val k (by omega)⟩) (by
  rw[Nat.zero_add,val J2 (Nat.le_refl _),decide_eq_true ((c9_ C2.hc C2.np q7.1).2 far)])
 have b2':signT c i c2 (closV c i ((l:Rat),(w:Rat)) kk)=some true:=b2;rw[val kk (by omega)] at b2';have b5:=of_decide_eq_true (Option.some.inj b2');obtain⟨w1,w2,_,_,_,_,w7⟩:=sz kk;rw[b1,Option.bind_some];have hmx:=bz_ bq S.hq1;have hmul:=Nat.mul_le_mul hql (show mxL q+qs (closV c i ((l:Rat),(w:Rat)) kk).2+1≤hq+Q+1 by omega);rw[if_pos (show b2_ q _ from⟨by omega,by omega⟩)];have f2:=(c9_ C2.hc C2.np w7.1).1 b5;have sg:=f2.sg w7.1 (by grind);refine⟨_,rfl,fun _=>⟨⟨_,_,w7,f2,sg.symm⟩,?_⟩,fun e=>absurd hex e⟩;have:=sgE_ne.2 (f2.ne w7.1 (by grind));have:=cH_ (closV c i ((l:Rat),(w:Rat)) kk).2 q;unfold sgE at *
 omega
theorem cmpQ_lt{a b:Rat}:cmpQ a b< 0↔a< b:=by
 unfold cmpQ;grind
theorem cmpQ_le{a b:Rat}:cmpQ a b≤0↔a≤b:=by
 unfold cmpQ;grind
theorem jt_{q:List Rat}{r H L:Nat}(hq:bdL q H)(hl:q.length≤L){s:Sp}(hs:s.1≤s.2)(h1:ab s.1≤p2 r)(h2:ab s.2≤p2 r):
    (overP q s).1≤(overP q s).2∧ab (overP q s).1≤p2 (H+(r+1) * L)∧ab (overP q s).2≤p2 (H+(r+1) * L)∧(overP q s).2- (overP q s).1≤p2 (H+(r+2) * L) * (s.2- s.1)∧∀x,s.1≤x→x≤s.2→(overP q s).1≤evalP q x∧evalP q x≤(overP q s).2:=by
 have hR:=Rat.le_of_lt (bH_ r);have hD:0≤s.2- s.1:=by grind
 by_cases nq:trimQ q=[];have e:overP q s=(0,0):=by unfold overP;grind
 rw[e];have z:∀x,evalP q x=0:=fun x=>by rw[←aT_,nq];rfl
 have n1:=Rat.mul_nonneg (Rat.le_of_lt (bH_ (H+(r+2) * L))) hD;exact⟨Rat.le_refl,by show ab 0≤_;rw[gZ_];exact Rat.le_of_lt (bH_ _),by show ab 0≤_;rw[gZ_];exact Rat.le_of_lt (bH_ _),by show(0:Rat)- 0≤_;grind,fun x _ _=>by rw[z];exact⟨Rat.le_refl,Rat.le_refl⟩⟩
 have e:overP q s=ovP (leadP q,leadP q) s ((trimQ q).take ((trimQ q).length- 1)):=by
  unfold overP;rw[if_neg (by rintro(g|g);exact g (cmpQ_le.2 hs);exact nq g)]
 have hlen:=List.length_pos_iff.2 nq;have hg:=bk_ (l:=q) (n:=(trimQ q).length- 1) (by omega)
 have el:(trimQ q).take ((trimQ q).length- 1)++[leadP q]=trimQ q:=by
  have hk:(trimQ q).length- 1< (trimQ q).length:=by omega
  have:=List.take_append_getElem hk;rw[List.getElem?_eq_getElem hk] at hg;rw[Option.some.inj hg] at this;rw[this,show(trimQ q).length- 1+1=(trimQ q).length by omega,List.take_length]
 have key:=nk_ hR hD hs h1 h2 Rat.le_refl (leadP q) ((trimQ q).take ((trimQ q).length- 1));rw[el,←e] at key;obtain⟨k1,k2,k3,k4,k5⟩:=key
 have hc:∀x∈trimQ q,ab x≤p2 H:=fun x hx=>by
  have h3:=co_ x;have h4:=hq x (ba_ hx);have h5:=lt_bl x.num.natAbs;have h6:=Nat.pow_le_pow_right (n:=2) (by decide) (show bl x.num.natAbs≤H by omega);have e1:=mg_ x;have e2:1≤((x.den:Int):Rat):=by rw[show(1:Rat)=((1:Int):Rat) from rfl,Rat.intCast_le_intCast];have:=x.den_pos;omega
  have e3:ab ((x.num:Rat))≤p2 H:=by
   rw[ab_le];unfold p2;rw[←Rat.intCast_neg,Rat.intCast_le_intCast,Rat.intCast_le_intCast];omega
  rw[e1,bx_,show ab ((x.den:Int):Rat)=((x.den:Int):Rat) by unfold ab;rw[if_neg (by grind)]] at e3;have:=Rat.mul_le_mul_of_nonneg_left e2 (ab_nn x);grind
 have htl:=aD_ q;have v1:=bV_p2 (r:=r) (trimQ q) hc;have v2:=cw_ (show H+(r+1) * (trimQ q).length≤H+(r+1) * L by have:=Nat.mul_le_mul_left (r+1) (show(trimQ q).length≤L by omega);omega);have w1:=bL_p2 (r:=r) (trimQ q) hc;have w2:=cw_ (show H+(r+2) * (trimQ q).length≤H+(r+2) * L by have:=Nat.mul_le_mul_left (r+2) (show(trimQ q).length≤L by omega);omega);have w3:=Rat.mul_le_mul_of_nonneg_right (Rat.le_trans w1 w2) hD;refine⟨k1,Rat.le_trans k2 (Rat.le_trans v1 v2),Rat.le_trans k3 (Rat.le_trans v1 v2),Rat.le_trans k4 w3,fun x a b=>?_⟩;have:=k5 x a b;rwa[aT_] at this
theorem pT_{q:List Rat}{t u:Nat}{s:Sp}(h1:qs s.1≤t)(h2:qs s.2≤t)(hq:bdL q u)(hu:1≤u)(hl:q.length≤24)(hlim:u+24* (t+u+1)+t≤137438953472):ld_ q s∧qs (overP q s).1≤u+24* (t+u+1)∧qs (overP q s).2≤u+24* (t+u+1):=by
 have hlen:((trimQ q).take ((trimQ q).length- 1)).length≤24:=by have:=aD_ q;grind
 have hb:bdL ((trimQ q).take ((trimQ q).length- 1)) u:=fun x hx=>hq x (ba_ (List.mem_of_mem_take hx))
 have hv:qs (leadP q)≤u:=by
  by_cases nq:nz q;rw[←(b3_ nq).2];exact bL_ hq hu _;have:leadP q=0:=by unfold leadP;rw[Classical.not_not.1 nq];rfl
  rw[this];exact Nat.le_trans (by decide:qs 0≤1) hu
 have hm:=Nat.mul_le_mul_right (t+u+1) hlen;obtain⟨j1,j2,_⟩:=ov_qs h1 h2 hv _ hb;refine⟨⟨bI_ hq (by omega),⟨Nat.le_trans h1 (by omega),Nat.le_trans h2 (by omega)⟩,by omega,ov_ok h1 h2 hv _ hb (by omega)⟩,?_,?_⟩;unfold overP;split;exact Nat.le_trans (by decide:qs 0≤1) (by omega);omega;unfold overP;split;exact Nat.le_trans (by decide:qs 0≤1) (by omega);omega
theorem gm_(a:Rat)(k:Nat):∃z:Int,downQ a k* p2 k=(z:Rat)∧downQ a k≤a∧a< downQ a k+fineQ k∧fineQ k* p2 k=1:=by
 have hf:fineQ k* p2 k=1:=by
  unfold fineQ p2;rw[Rat.mkRat_eq_div]
  have:(((2^ k:Nat):Int):Rat)≠0:=fun e=>by
   have:=Rat.intCast_inj.1 (e.trans Rat.intCast_zero.symm);have:=Nat.two_pow_pos k;omega
  grind
 have ht:twoQ k=p2 k:=rfl;refine⟨(a* twoQ k).floor,?_,?_,?_,hf⟩;unfold downQ;rw[Rat.mul_assoc,hf,Rat.mul_one];have:=Rat.floor_le (a* twoQ k);refine le_p2 (k:=k) ?_;unfold downQ;rw[Rat.mul_assoc,hf,Rat.mul_one];exact this;have:=Rat.lt_floor_add_one (a* twoQ k);have pk:=bH_ k;by_cases g:a< downQ a k+fineQ k;exact g;have:=Rat.mul_le_mul_of_nonneg_right (show downQ a k+fineQ k≤a by grind) (Rat.le_of_lt pk);rw[Rat.add_mul] at this;unfold downQ at this;rw[Rat.mul_assoc,hf,ht] at this;grind
end Go.Proofs.YtjjllafelolfoaaGreatDoor
