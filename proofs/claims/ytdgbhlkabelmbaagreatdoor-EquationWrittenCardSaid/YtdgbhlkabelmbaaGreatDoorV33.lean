/- Part V33 of the proof. -/
import Derived.Test.YtdgbhlkabelmbaaGreatDoorV32
set_option linter.all false
namespace Go.Proofs.YtdgbhlkabelmbaaGreatDoor
open Go.Abs
set_option maxRecDepth 20000
set_option maxHeartbeats 4000000
def lenT(n:Nat):Nat:=if n< 2 then 1 else if n< 4 then 2 else if n< 8 then 3 else 4
theorem Fi(n:Nat)(h:n=1∨n=2∨n=3∨n=4∨n=5∨n=6∨n=7∨n=8∨n=9∨n=10∨n=11∨n=12):FS 217 [.v (.int .u64 (n:Int))] (i64 (lenT n)):=by
 rcases h with rfl|rfl|rfl|rfl|rfl|rfl|rfl|rfl|rfl|rfl|rfl|rfl
 all_goals (
  refine f_c Tryz.func217 ?_;refine r_z 1 ?_;refine ae (s_r 2 ?_);refine a_1 ?_;refine o_0 (.bin rfl rfl (vF gj (decide_eq_false (by decide)))) ?_;refine ao ?_;refine cF (ak (ae (s_r 2 ?_)));refine a_1 ?_;refine o_0 (.bin rfl rfl (vF gj (decide_eq_false (by decide)))) ?_;refine ao ?_;refine cF (ak (ae (s_r 2 ?_)));refine a_1 ?_;refine o_0 (.bin rfl rfl (vF gj (decide_eq_false (by decide)))) ?_;refine ao ?_;refine cF (ak (s_r 7 ?_));refine a_3 ?_;refine o_0 ((by first|exact .index_s (r:= .int .u8 1) rfl rfl (fun w=>rfl)|exact .index_s (r:= .int .u8 2) rfl rfl (fun w=>rfl)|exact .index_s (r:= .int .u8 3) rfl rfl (fun w=>rfl)|exact .index_s (r:= .int .u8 4) rfl rfl (fun w=>rfl))) ?_;refine a_z ?_;exact ai (t_e (ag _)))
theorem fs_Lens(n:Nat)(h1:1≤n)(hl:n≤12):FS 172 [.v (.int .u64 (n:Int))] (i64 (lenT n)):=by
 have a:=Fi n (by omega);refine f_c Tryz.func172 ?_;refine r_z 1 ?_;refine ae (cF (ak (r_c 3 (a) ?_)));refine a_z ?_;exact ai (t_e (ag _))
theorem D8(L:List (List Rat))(n:Nat)(hn:L.length=n)(h1:1≤n)(hl:n≤12)(hb:∀p∈L,p.length≤1099511627776):
    ESpec Tryz.prog 132 38 1 (mE L) (mE (jJ L (n- 1))) 0 n none [.clos 133 [] []] (.tuple #[]):=by
 have a:=es_pdq L n (lenT n) hn h1 hl hb;have b:=fs_Lens n h1 hl;refine ESpec.enter Tryz.func132 rfl (by kernel_rfl) rfl rfl rfl ?_ ?_ ?_ rfl ?_;exact ac (aP af af) af;exact cb _;exact cb _;refine r_z 3 ?_;refine r_m 7 ?_;refine c_s (b) ?_;refine a_1 ?_;refine o_1 (.callE2 rfl rfl rfl rfl rfl rfl (a)) ?_;refine ao ?_;exact FinE.none (.inl rfl) rfl rfl
theorem rd_ok{p:List Rat}{B:List (List Rat)}{s t k:Nat}(hB:∀b∈B,Piv b)(hp:bdL p s)(hs:1≤s)(hbt:∀b∈B,bdL b t)(ht:1≤t)(hk:B.length≤k)(h:rbB s t k≤100000000000)(hpl:p.length≤1000)(hbl:∀b∈B,b.length≤1000)(hk2:k≤1000):(∀i,i< B.length→OkRd (rbK p B i) (B.getD (B.length- 1- i) []))∧(rbK p B B.length).length≤1099511627776:=by
 refine⟨fun i d=>?_,Nat.le_trans (xj hB hp hs hbt ht B.length (Nat.le_refl _)).2 (by omega)⟩;obtain⟨h1,e⟩:=xj hB hp hs hbt ht i (by omega);have a:=py (B:=B) (i:=B.length- 1- i) (by omega);generalize B.getD (B.length- 1- i) []=b at a⊢;have g:2* rbB s t i+t+1≤100000000000:=Nat.le_trans (y9 s t (show i+1≤k by omega)) h;have f:=xk s t i;have hb:=hB b a;have hc:=eP h1 (by omega) (bD b).toNat;have c:=hbl b a;refine⟨by rw[hb.deg];omega,by omega,by omega,c6 (hbt b a) (by omega),Nat.le_trans hc (by omega),c6 (fJ (hbt b a) ht hc) (by omega),c6 h1 (by omega)⟩
theorem uh{p:List Rat}{B:List (List Rat)}{s t k:Nat}(hB:∀b∈B,Piv b)(hp:bdL p s)(hs:1≤s)(hbt:∀b∈B,bdL b t)(ht:1≤t)(hk:B.length≤k)(h:rbB s t k≤100000000000)(hpl:p.length≤1000)(hbl:∀b∈B,b.length≤1000)(hk2:k≤1000):FS 39 [.arr (pE p),.arr (mE B)] (.arr (pE (reP p B))):=by
 obtain⟨h1,a⟩:=rd_ok hB hp hs hbt ht hk h hpl hbl hk2;exact wj p B (by omega) h1 a
theorem mE_eq(B:List (List Rat)):mE B=(B.map fun b=>AV.arr (pE b)).map fun z=>[z]:=by simp[mE]
def mpI(f:List Rat→List Rat)(B:List (List Rat))(i:Nat):List (List Rat):=(B.take i).map f++B.drop i
@[simp] theorem mpI_length (f:List Rat→List Rat)(B:List (List Rat))(i:Nat):(mpI f B i).length=B.length:=by simp[mpI];omega
theorem mpI_0(f:List Rat→List Rat)(B:List (List Rat)):mpI f B 0=B:=by simp[mpI]
theorem mpI_n{f:List Rat→List Rat}{B:List (List Rat)}{i:Nat}(h:B.length≤i):mpI f B i=B.map f:=by simp[mpI,List.take_of_length_le h,List.drop_eq_nil_of_le h]
theorem mpI_get{f:List Rat→List Rat}{B:List (List Rat)}{i:Nat}{b:List Rat}(h:B[i]?=some b):(mpI f B i)[i]?=some b:=by
 have a:=(List.getElem?_eq_some_iff.1 h).1;unfold mpI;rw[List.getElem?_append_right (by simp;omega),List.getElem?_drop];simp;rw[show i+(i- min i B.length)=i by omega];exact h
theorem mpI_s{f:List Rat→List Rat}{B:List (List Rat)}{i:Nat}{b:List Rat}(h:B[i]?=some b):(mpI f B i).set i (f b)=mpI f B (i+1):=by
 have a:=(List.getElem?_eq_some_iff.1 h).1;unfold mpI;rw[List.set_append_right _ _ (by simp;omega),List.length_map,List.length_take,Nat.min_eq_left (by omega),Nat.sub_self,List.take_add_one,h,List.drop_eq_getElem_cons a,List.set_cons_zero];simp
def ehS(l:List (List Rat))(k:Nat):Nat→List (List Rat)→AState
 |0,_=>⟨[(3,.emp),(7,.arr (mE l)),(8,i64 l.length),(9,i64 k)],[],1,49⟩
 |n+1,out=>⟨[(3,.lsl 1 0 (n+1) none 1),(7,.arr (mE l)),(8,i64 l.length),(9,i64 k)],[(1,some ⟨38,1,mE out⟩)],2,49⟩
theorem Eb(l:List (List Rat))(k:Nat)(out:List (List Rat)):ehS l k 0 out=⟨[(3,.emp),(7,.arr (mE l)),(8,i64 l.length),(9,i64 k)],[],1,49⟩:=rfl
theorem Ax(l:List (List Rat))(k n:Nat)(out:List (List Rat)):ehS l k (n+1) out=⟨[(3,.lsl 1 0 (n+1) none 1),(7,.arr (mE l)),(8,i64 l.length),(9,i64 k)],[(1,some ⟨38,1,mE out⟩)],2,49⟩:=rfl
def ejqS(l:List (List Rat))(k n:Nat)(q:List Rat)(f:List Rat→List Rat)(out:List (List Rat)):Nat→AState
 |i=>⟨[(3,.lsl 1 0 (n+1) none 1),(5,.arr (pE q)),(7,.arr (mE l)),(8,i64 l.length),(9,i64 k),(26,i64 ((n+1:Nat):Int)),(27,i64 i)],[(1,some ⟨38,1,mE (mpI f out i)⟩)],2,49⟩
theorem yi(l:List (List Rat))(k n:Nat)(q:List Rat)(f:List Rat→List Rat)(out:List (List Rat))(i:Nat):ejqS l k n q f out i=⟨[(3,.lsl 1 0 (n+1) none 1),(5,.arr (pE q)),(7,.arr (mE l)),(8,i64 l.length),(9,i64 k),(26,i64 ((n+1:Nat):Int)),(27,i64 i)],[(1,some ⟨38,1,mE (mpI f out i)⟩)],2,49⟩:=rfl
theorem Cn(l:List (List Rat))(s:Nat)(hs:1≤s)(hl12:l.length≤12)(hl:∀p∈l,bdL p s∧p.length≤1000)(hE:ecB s l.length≤50000000000):FS 90 [.arr (mE l)] (.arr (mE (ecL l))):=by
 have hml:(mE l).length=l.length:=by simp[mE]
 refine f_c Tryz.func90 ?_;refine r_z 1 ?_;refine r_z 1 ?_;refine ae (r_z 3 ?_);refine aG (fun _:Unit=>⟨[(3,.arr (mE (ecL l)))],[],1,49⟩) (fun _=>True) ?_ ?_;refine aj (aB (fun k=>ehS l k (ecK l k).length (ecK l k)) (fun k=>l.length- k) (fun k=>k≤l.length) 0 (Nat.zero_le _) ?_ ?_);show SEnt _ (ehS l 0 0 []);rw[Eb];have:=closed_mA l;exact s_f [];intro k hk;have hB:=jf l k;have t:=yj hs hl k;have y:=pX l k;have n:=yl s k;by_cases hlt:k< l.length;obtain⟨p,hp⟩:∃p,l[k]?=some p:=⟨_,List.getElem?_eq_getElem hlt⟩;have X:l.getD k []=p:=by rw[List.getD_eq_getElem?_getD,hp];rfl
 obtain⟨N,hp2⟩:=hl p (List.mem_of_getElem? hp);have C:(mE l)[((k:Nat):Int).toNat]?=some [.arr (pE p)]:=gx hp _ (by simp);have a:ecK l (k+1)=ecT (ecK l k) p:=by rw[ecK,X]
 have hEk:2* ecB s k+2* rbB s (ecB s k) k+2≤50000000000:=Nat.le_trans (HZ s (show k+1≤l.length by omega)) hE;obtain⟨E,F⟩:=rd_ok hB.piv N hs (fun b hb=>(t b hb).1) n y (by omega) hp2 (fun b hb=>(t b hb).2) (by omega);obtain⟨q1,q2⟩:=tN hB.piv N hs (fun b hb=>(t b hb).1) n y;have hu1:=xk s (ecB s k) k;have w:¬bD (reP p (ecK l k))< 0→Piv (ecP (reP p (ecK l k))):=fun v=>(pW (Classical.byContradiction fun e=>v (degP_nil.2 e))).1;obtain⟨e1,e2⟩:=HY q1 (by omega);generalize hu:rbB s (ecB s k) k=u at *
 generalize hO:ecK l k=O at *
 obtain⟨q,hq⟩:∃q,q=reP p O:=⟨_,rfl⟩;have hR:=wj p O (by omega) E F;have V:=fun b1 c=>B7 p O b1 (some ⟨b1,0,none⟩) (O.map fun b=>AV.arr (pE b)).length c (by omega) E F;rw[←hq] at hR V q1 q2 e1 e2 w;have W:=dk q (by omega);have U:=pL q (by omega);have hI:FS 9 [i64 1] (.agg (qC 1)):=du 1 (by decide);have hlq:=sD q1 (by omega);have h11:qs 1≤1:=by decide
 have hqsd:=gO 1 (aS q);have J:=eI q (1/ aS q) (c6 q1 (by omega)) (show qs _≤_ by omega) (by omega);rw[show aX q (1/ aS q)=ecP q from rfl] at J;have r:¬bD q< 0→FS 63 [.agg (qC 1),.agg (qC (aS q))] (.agg (qC (1/ aS q))):=fun v=>kN 1 (aS q) (fZ (Classical.byContradiction fun e=>v (degP_neg.2 (Classical.byContradiction fun e'=>e e')))) (by omega);have j:ecT O p=if bD q< 0 then O else jJ (O.map (fun o=>reP o [ecP q])++[ecP q]) O.length:=by rw[hq];rfl
 rcases hm:O.length with _|m
 have G:O=[]:=List.eq_nil_of_length_eq_zero hm;subst G;rw[Eb];refine q_z 1 ?_;refine ae (cT (ak (ae (aj (s_r 3 ?_)))));refine i_x C ?_;refine l_1 C ?_;refine a_z ?_;refine ae (r_c 4 (hR) ?_);refine a_z ?_;by_cases v:bD q< 0;refine r_c 3 (W) ?_;refine d_z ?_;refine cT (ay (r_m 2 ?_));refine a_z ?_;refine⟨k+1,by omega,by omega,?_⟩;rw[a,j,if_pos v];show SEnt _ (ehS l (k+1) 0 []);rw[Eb];have:=closed_mA l;exact s_f [];have r:=r v;have d:=D8 [ecP q] 1 rfl (by omega) (by omega) (fun x Z=>by rw[List.mem_singleton.1 Z];omega);refine r_c 3 (W) ?_;refine d_z ?_;refine cF (ak (r_c 7 (hI) ?_));refine c_s (U) ?_;refine c_s (r) ?_;refine c_s (J) ?_;refine a_z ?_;refine ae (r_z 3 ?_);refine aG (fun _:Unit=>⟨[(3,.emp),(5,.arr (pE (ecP q))),(7,.arr (mE l)),(8,i64 l.length),(9,i64 k)],[],1,49⟩) (fun _=>True) ?_ ?_;refine aj (aB (fun _:Unit=>⟨[(3,.emp),(5,.arr (pE (ecP q))),(7,.arr (mE l)),(8,i64 l.length),(9,i64 k),(26,i64 0),(27,i64 0)],[],1,49⟩) (fun _=>0) (fun _=>True) () trivial ?_ ?_);exact s_x [] (fun hs=>H1) (fun hs=>e_56);rintro _ _;refine q_z 1 ?_;refine ae (cF (ay ⟨(),trivial,?_⟩));exact s_x [] (fun hs=>H1) (fun hs=>e_56);rintro _ _;refine r_z 5 ?_;refine AWp.ent (st':=⟨[(3,.lsl 1 0 1 none 1),(7,.arr (mE l)),(8,i64 l.length),(9,i64 k)],[(1,some ⟨38,1,mE [ecP q]⟩)],2,49⟩) ?_ ?_;have:=closed_mA l;have:=cb [ecP q];exact s_f [(1,3)];refine r_m 2 ?_;refine a_1 ?_;refine o_1 (.callE2 rfl rfl rfl rfl rfl rfl (d)) ?_;refine ao ?_;refine r_m 2 ?_;refine a_z ?_;refine⟨k+1,by omega,by omega,?_⟩
 rw[a,j,if_neg v];show SEnt _ (ehS l (k+1) (0+1) (jJ ([ecP q]) 0));rw[Ax];have:=closed_mA l;exact s_f [(1,3)];have hmO:(mE O).length=m+1:=by simp[mE,hm]
 have hfull:List.take (m+1) (List.drop 0 (mE O))=mE O:=by rw[List.drop_zero,List.take_of_length_le (by omega)]
 have hone:=xG O;rw[Ax];refine q_z 1 ?_;refine ae (cT (ak (ae (aj (s_r 3 ?_)))));refine i_x C ?_;refine l_1 C ?_;refine a_z ?_;refine ae (s_r 4 ?_);refine a_2 ?_;refine o_0 (.callL (L:=O.map fun b=>AV.arr (pE b)) rfl rfl rfl rfl rfl rfl (mE_eq O) (by rw[List.length_map,hm]) (fun z hz=>by obtain⟨b,_,rfl⟩:=List.mem_map.1 hz;exact ax b) V) ?_;refine a_z ?_;by_cases v:bD q< 0;refine r_c 3 (W) ?_;refine d_z ?_;refine cT (ay (r_m 2 ?_));refine a_z ?_;refine⟨k+1,by omega,by omega,?_⟩;rw[a,j,if_pos v,hm,Ax];have:=closed_mA l;exact s_f [(1,3)];have r:=r v;have R:=w v;refine r_c 3 (W) ?_;refine d_z ?_;refine cF (ak (r_c 7 (hI) ?_));refine c_s (U) ?_;refine c_s (r) ?_;refine c_s (J) ?_;refine a_z ?_;refine ae (r_z 3 ?_);obtain⟨f,hf⟩:∃f,f=fun o=>reP o [ecP q]:=⟨_,rfl⟩;refine aG (fun _:Unit=>⟨[(3,.lsl 1 0 (m+1) none 1),(5,.arr (pE (ecP q))),(7,.arr (mE l)),(8,i64 l.length),(9,i64 k)],[(1,some ⟨38,1,mE (O.map f)⟩)],2,49⟩) (fun _=>True) ?_ ?_;refine aj (aB (ejqS l k m (ecP q) f O) (fun i=>m+1- i) (fun i=>i≤m+1) 0 (Nat.zero_le _) ?_ ?_);rw[yi,mpI_0];exact s_x [(1,3)] (fun hs=>H1) (fun hs=>e_57);intro i hi;rw[yi];have hll:(mE (mpI f O i)).length=m+1:=by simp[mE,hm]
 by_cases hil:i< m+1;obtain⟨o,M⟩:∃o,O[i]?=some o:=⟨_,List.getElem?_eq_getElem (by omega)⟩;have K:(mE (mpI f O i))[0+((i:Nat):Int).toNat]?=some [.arr (pE o)]:=gx (mpI_get M) _ (by simp);obtain⟨H,Q⟩:=t o (List.mem_of_getElem? M)
 have hRo:FS 39 [.arr (pE o),.arr [[.arr (pE (ecP q))]]] (.arr (pE (f o))):=by
  rw[hf];exact uh (B:=[ecP q]) (k:=1) (fun c hc=>by rw[List.mem_singleton.1 hc];exact R) H n (fun c hc=>by rw[List.mem_singleton.1 hc];exact e1) (by omega) (Nat.le_refl _) (by rw[rbB,rbB];omega) Q (fun c hc=>by rw[List.mem_singleton.1 hc];omega) (by omega)
 have S:(mE (mpI f O i)).set (0+((i:Nat):Int).toNat) [.arr (pE (f o))]=mE (mpI f O (i+1)):=by rw[BV,show 0+((i:Nat):Int).toNat=i by simp,mpI_s M]
 refine q_z 1 ?_;refine ae (cT (ak (ae (aj (r_z 2 ?_)))));refine r_m 11 ?_;refine a_5 ?_
 first|refine aF (.load_l1 rfl rfl K TG.h rfl) rfl rfl ?_|refine aF (.load_a1 rfl K TG.h rfl) rfl rfl ?_
 refine a_2 ?_;refine o_1 (.callS1 rfl rfl rfl (.keep (.shut rfl d_n (.nil))) rfl (hRo)) ?_;refine a_1 ?_;refine dX (.store rfl rfl K rfl rfl rfl TS.h (nle rfl)) ?_;refine ao ?_;refine r_m 2 ?_;refine a_z ?_;refine⟨i+1,by omega,by omega,?_⟩;rw[yi];refine s_x [(1,3)] (fun hs=>H1) (fun hs=>?_)
 ·repeat' (first|exact aE|refine h_c ?_ ?_|exact aI hs S (cb _)|exact bC|refine az ?_|exact av|refine ah ?_ ?_|exact am hs (closed_mA l)|exact am hs (ax _)|exact aV)
 have he:i=m+1:=by omega
 refine q_z 1 ?_;refine ae (cF (ay ⟨(),trivial,?_⟩));rw[mpI_n (by omega)];exact s_x [(1,3)] (fun hs=>H1) (fun hs=>e_57);rintro _ _;have hone2:=xG (O.map f);have hln2:(mE (O.map f)).length=m+1:=by simp[mE,hm]
 have d:=D8 (O.map f++[ecP q]) (m+1+1) (by simp[hm]) (by omega) (by omega) (fun x Z=>by
  rcases List.mem_append.1 Z with g|g
  obtain⟨o,M,rfl⟩:=List.mem_map.1 g;obtain⟨H,Q⟩:=t o M;have:=(tN (B:=[ecP q]) (k:=1) (fun c hc=>by rw[List.mem_singleton.1 hc];exact R) H n (fun c hc=>by rw[List.mem_singleton.1 hc];exact e1) (by omega) (Nat.le_refl _)).2;rw[hf];show(reP o [ecP q]).length≤_;omega;rw[List.mem_singleton.1 g];omega)
 refine r_z 5 ?_;refine AWp.ent (st':=⟨[(3,.lsl 1 0 (m+1+1) none 1),(7,.arr (mE l)),(8,i64 l.length),(9,i64 k)],[(1,some ⟨38,1,mE (O.map f++[ecP q])⟩)],2,49⟩) ?_ ?_;refine s_x [(1,3)] (fun hs=>?_) (fun hs=>?_)
 ·repeat' (first|exact aN|refine aA rfl ?_ ?_|exact am hs (closed_mA l)|exact aV)
 ·repeat' (first|exact aE|refine h_c ?_ ?_|exact aI hs (by rw[vX];rfl) (cb _)|exact bC|refine az ?_|exact av|refine ah ?_ ?_|exact am hs (closed_mA l)|exact aV)
 refine r_m 2 ?_;refine a_1 ?_;refine o_1 (.callE2 rfl rfl rfl rfl rfl rfl (d)) ?_;refine ao ?_;refine r_m 2 ?_;refine a_z ?_;refine⟨k+1,by omega,by omega,?_⟩;rw[a,j,if_neg v,hm,ma,show(O.map (fun o=>reP o [ecP q])++[ecP q]).length=m+1+1 by simp[hm],Ax,←hf];have:=closed_mA l;exact s_f [(1,3)];have hge:k=l.length:=by omega
 have T:ecK l k=ecL l:=by rw[hge];rfl
 rw[T] at t y hB⊢;rcases hm:(ecL l).length with _|m
 have G:ecL l=[]:=List.eq_nil_of_length_eq_zero hm;rw[G,Eb];refine q_z 1 ?_;refine ae (cF (ay ⟨(),trivial,?_⟩));exact s_e [];have Y:(mE (ecL l)).length=m+1:=by simp[mE,hm]
 have D:0+(m+1)≤(mE (ecL l)).length:=by omega
 have A:List.take (m+1) (List.drop 0 (mE (ecL l)))=mE (ecL l):=by rw[List.drop_zero];exact List.take_of_length_le (by omega)
 rw[Ax];refine q_z 1 ?_;refine ae (cF (ay ⟨(),trivial,?_⟩));refine s_x [] (fun hs=>?_) (fun hs=>?_)
 ·repeat' (first|exact aN|refine aA rfl ?_ ?_|exact Cv.shut hs rfl (aM rfl) D (aI hs A (cb _))|exact aV)
 ·repeat' (first|exact aE|refine h_c ?_ ?_|exact bC|refine az ?_|exact av|refine ah ?_ ?_|exact Cv.shut hs rfl (aM rfl) D (aI hs A (cb _))|exact aV)
 rintro _ _;refine r_z 2 ?_;exact ai (t_e (closed_mA _))
theorem yg{r p q:List Rat}{c:Rat}(h:∀i,coP r i=coP p i- c* coP q i)(x:Rat):au r x=au p x- c* au q x:=by
 have:=gE (p:=r) (q:=cK p (aX q c)) (fun i=>by rw[cP,bO,h];grind) x;rw[iA,dT] at this;grind
theorem eF{B r p q:List Rat}{c:Rat}(h:∀i,coP r i=coP p i- c* coP q i)(a b:Rat):inQ (aL B r) a b=inQ (aL B p) a b- c* inQ (aL B q) a b:=by
 have e:aq (aL B r)=aq (cK (aL B p) (aX (aL B q) c)):=gi fun x=>by
  rw[eJ,iA,dT,eJ,eJ,yg h];grind
 have h1:∀i,coP (aL B r) i=coP (aL B p) i- c* coP (aL B q) i:=fun i=>by
  rw[←b5 (aL B r),e,b5,cP,bO];grind
 have d:∀y,au (aK (aL B r)) y=au (aK (aL B p)) y- c* au (aK (aL B q)) y:=fun y=>yg (fun i=>by
  rw[eW,eW,eW];split;grind;rw[h1,Rat.div_def,Rat.div_def,Rat.div_def];grind) y
 unfold inQ;rw[d,d];grind
theorem DR(B:List Rat)(a b:Rat):inQ (aL B []) a b=0:=by
 have:=eF (B:=B) (r:=[]) (p:=[]) (q:=[]) (c:=1) (fun i=>by rw[show coP [] i=0 from rfl];grind) a b;grind
theorem kw{α:Type}{f g h:α→Rat}{c:Rat}(H:∀p,f p=g p- c* h p):∀k:List α,ei f k=ei g k- c* ei h k
 |[]=>by rw[ei,ei,ei];grind
 |p::k=>by rw[ei,ei,ei,H p,kw H k];grind
def SolE(k:Ke)(l a b:Rat)(g u:List Rat):Prop:=∀x,au u x=au g x+l* ei (fun p=>au p.1 x* inQ (aL p.2 u) a b) k
theorem SolE.comb{k:Ke}{l a b c:Rat}{g r p q:List Rat}(hp:SolE k l a b g p)(hq:SolE k l a b [] q)(h:∀i,coP r i=coP p i- c* coP q i):SolE k l a b g r:=fun x=>by
 have h1:=hp x;have d:=hq x;rw[c9] at d;have e:=kw (f:=fun p:List Rat×List Rat=>au p.1 x* inQ (aL p.2 r) a b) (g:=fun z=>au z.1 x* inQ (aL z.2 p) a b) (h:=fun z=>au z.1 x* inQ (aL z.2 q) a b) (c:=c) (fun z=>by rw[eF h];grind) k;rw[yg h,e,h1,d];grind
theorem SolE.nil(k:Ke)(l a b:Rat):SolE k l a b [] []:=fun x=>by
 have d:=kw (f:=fun p:List Rat×List Rat=>au p.1 x* inQ (aL p.2 []) a b) (g:=fun _=>0) (h:=fun _=>0) (c:=1) (fun z=>by rw[DR];grind) k;rw[d,c9];grind
theorem SolE.ext{k:Ke}{l a b:Rat}{g p r:List Rat}(hp:SolE k l a b g p)(h:∀i,coP r i=coP p i):SolE k l a b g r:=
 hp.comb (c:=0) (SolE.nil k l a b) fun i=>by rw[h];grind
theorem SolE.add{k:Ke}{l a b c:Rat}{g p q:List Rat}(hp:SolE k l a b g p)(hq:SolE k l a b [] q):SolE k l a b g (fR p (aX q c)):=
 hp.comb (c:= -c) hq fun i=>by rw[ez,bO];grind
theorem sQ_sh(f:Nat→Rat):∀n,sQ f (n+1)=f 0+sQ (fun i=>f (i+1)) n
 |0=>by rw[sQ,sQ,sQ];grind
 |n+1=>by rw[sQ,sQ_sh f n,sQ];grind
theorem jW{α:Type}(f:α→Rat)(d:α):∀k:List α,ei f k=sQ (fun j=>f (k.getD j d)) k.length
 |[]=>rfl
 |p::k=>by
  rw[ei,jW f d k,List.length_cons,sQ_sh];rfl
theorem oM{α:Type}(F:α→Rat)(d:α)(k:List α)(c:List Rat)(hc:c.length=k.length):ei (fun z=>F z.1* z.2) (k.zip c)=sQ (fun j=>F (k.getD j d) * coP c j) k.length:=by
 rw[jW _ (d,0),List.length_zip,hc,Nat.min_self];refine b4 _ fun j b=>?_;have h1:k[j]?=some k[j]:=List.getElem?_eq_getElem b;have a:c[j]?=some c[j]:=List.getElem?_eq_getElem (by omega);unfold coP;have e:(k.zip c)[j]?=some (k[j],c[j]):=by rw[List.getElem?_zip_eq_some];exact⟨h1,a⟩
 rw[List.getD_eq_getElem?_getD,e,List.getD_eq_getElem?_getD,h1,List.getD_eq_getElem?_getD,a];rfl
theorem oO(k:Ke)(c:List Rat)(hc:c.length=k.length)(x:Rat):au (smK k c k.length) x=sQ (fun j=>au (k.getD j ([],[])).1 x* coP c j) k.length:=by
 have h:=vK x k c [] hc;rw[c9] at h;rw[←oM (fun p:List Rat×List Rat=>au p.1 x) ([],[]) k c hc];unfold smK;rw[List.take_length,h];grind
theorem yS(B:List Rat)(a b:Rat):∀(k:Ke) (c o:List Rat),c.length=k.length→inQ (aL B (la k c o)) a b=inQ (aL B o) a b+ei (fun p=>inQ (aL B p.1.1) a b* p.2) (k.zip c)
 |[],[],o,_=>by rw[la];show _=_+0;grind
 |p::k,[],_,h=>by cases h
 |[],z::c,_,h=>by cases h
 |p::k,z::c,o,h=>by
  have e:=eF (B:=B) (r:=smF z o p) (p:=o) (q:=p.1) (c:= -z) (fun i=>by unfold smF;rw[ez,bO];grind) a b;rw[la,List.tail_cons,fb,yS B a b k c _ (by simpa using h),e,List.zip_cons_cons,ei];grind
theorem r7(B:List Rat)(a b:Rat)(k:Ke)(c:List Rat)(hc:c.length=k.length):inQ (aL B (smK k c k.length)) a b=sQ (fun j=>inQ (aL B (k.getD j ([],[])).1) a b* coP c j) k.length:=by
 rw[←oM (fun p:List Rat×List Rat=>inQ (aL B p.1) a b) ([],[]) k c hc];unfold smK;rw[List.take_length,yS B a b k c [] hc,DR];grind
theorem Gj{A:Nat→Nat→Rat}{l c0:Rat}{r:Nat→Rat}{n i:Nat}{x:Nat→Rat}(hx:Sol c0 (svM A l r n) n x)(hi:i< n):x i=l* sQ (fun j=>A i j* x j) n+c0* r i:=by
 have h:=hx i hi;rw[show svM A l r n i n=r i from if_pos rfl,b4 (g:=fun j=>(if j=i then x i else 0)- l* (A i j* x j)) n fun j a=>?_,jX,jy,if_pos hi] at h;grind;unfold svM;rw[if_neg (by omega)];by_cases e:j=i;subst e;rw[if_pos rfl,if_pos rfl];grind;rw[if_neg e,if_neg e];grind
theorem ek{n j:Nat}{x:Nat→Rat}(hj:j< n):coP (aO n x) j=x j:=by rw[AD,if_pos hj]
theorem yR{k:Ke}{l a b:Rat}{r:Nat→Rat}{x:Nat→Rat}(hx:Sol 0 (svM (maK k a b) l r k.length) k.length x):SolE k l a b [] (smK k (aO k.length x) k.length):=fun t=>by
 rw[c9,oO k _ (by simp),jW _ ([],[]),b4 (g:=fun j=>(au (k.getD j ([],[])).1 t* inQ (aL (k.getD j ([],[])).2 (smK k (aO k.length x) k.length)) a b) * l) k.length fun j c=>?_,xd];grind;rw[r7 _ a b k _ (by simp),ek c,b4 (g:=fun i=>maK k a b j i* x i) k.length fun i d=>by rw[ek d];rfl];have:=Gj hx c;generalize sQ (fun i=>maK k a b j i* x i) k.length=z at *
 rw[this];grind
theorem F7{k:Ke}{l a b:Rat}{g:List Rat}{x:Nat→Rat}(hx:Sol 1 (svM (maK k a b) l (fun t=>coP (rhK k g a b) t) k.length) k.length x):SolE k l a b g (fR g (aX (smK k (aO k.length x) k.length) l)):=fun t=>by
 have e:∀j,j< k.length→inQ (aL (k.getD j ([],[])).2 (fR g (aX (smK k (aO k.length x) k.length) l))) a b=x j:=fun j d=>by
  rw[eF (p:=g) (q:=smK k (aO k.length x) k.length) (c:= -l) (fun i=>by rw[ez,bO];grind),r7 _ a b k _ (by simp),b4 (g:=fun i=>maK k a b j i* x i) k.length fun i h=>by rw[ek h];rfl];have h1:=Gj hx d
  have f:coP (rhK k g a b) j=inQ (aL (k.getD j ([],[])).2 g) a b:=by
   unfold coP rhK;rw[List.getD_eq_getElem?_getD,List.getD_eq_getElem?_getD,List.getElem?_map,List.getElem?_eq_getElem d];rfl
  rw[f] at h1;generalize sQ (fun i=>maK k a b j i* x i) k.length=z at *
  rw[h1];grind
 rw[iB,dT,oO k _ (by simp),jW _ ([],[]),b4 (g:=fun j=>au (k.getD j ([],[])).1 t* inQ (aL (k.getD j ([],[])).2 (fR g (aX (smK k (aO k.length x) k.length) l))) a b) k.length fun j d=>by rw[e j d,ek d]];grind
theorem mem_frL{L:List Nat}{n f:Nat}:f∈frL L n↔f< n∧f∉L:=by simp[frL]
theorem D3(M:Mx)(n:Nat):∀c,(frL (slM M n c).2 c).length+(slM M n c).2.length=c
 |0=>rfl
 |c+1=>by
  have g:=D3 M n c;have d:=dY M n c
  have a:c∉ (slM M n c).2:=fun h=>by
   obtain⟨i,f⟩:=List.getElem?_of_mem h;have:=d.lt i c f;omega
  rw[slM];unfold slC;cases pvR (slM M n c).1 n (slM M n c).2.length c with
  |none=>
   show(frL (slM M n c).2 (c+1)).length+(slM M n c).2.length=c+1;rw[sP (by simpa using a),List.length_append,List.length_singleton];omega
  |some p=>
   show(frL ((slM M n c).2++[c]) (c+1)).length+((slM M n c).2++[c]).length=c+1
   have e:frL ((slM M n c).2++[c]) c=frL (slM M n c).2 c:=by
    unfold frL;refine List.filter_congr fun j b=>?_;have:=List.mem_range.1 b;simp;omega
   rw[x9 (by simp),e,List.length_append,List.length_singleton];omega
theorem Im{M:Mx}{n s:Nat}(h:bdM M n s):∀c,c≤n→bdM (slM M n c).1 n (slB s (slM M n c).2.length)
 |0,_=>h
 |c+1,hc=>by
  have b:=Im h c (by omega);have a:=Ip b (dY M n c).len (show c< n by omega);rw[slM]
  revert a
  unfold slC;cases pvR (slM M n c).1 n (slM M n c).2.length c with
  |none=>exact fun _=>b
  |some p=>
   intro a;show bdM _ n (slB s ((slM M n c).2++[c]).length);rw[List.length_append,List.length_singleton,slB];exact a
def bK(k:Ke)(l:Rat)(g:List Rat)(a b:Rat):List (List Rat):=ecL (zsK k (syM k l (rhK k g a b) a b))
theorem FW{n C:Nat}{x:Nat→Rat}(h:∀j,j< n→qs (x j)≤C)(hC:1≤C)(i:Nat):qs (coP (aO n x) i)≤C:=by
 rw[AD];split;exact h i (by assumption);exact Nat.le_trans (by decide:qs 0≤1) hC
section
variable {k:Ke}{l a b:Rat}{g:List Rat}
end
section
variable {k:Ke}{l a b:Rat}{g:List Rat}
end
theorem Dh(i:Nat):∀(k:Ke) (c o:List Rat),c.length=k.length→coP (la k c o) i=coP o i+ei (fun p=>coP p.1.1 i* p.2) (k.zip c)
 |[],[],o,_=>by rw[la];show _=_+0;grind
 |p::k,[],_,h=>by cases h
 |[],z::c,_,h=>by cases h
 |p::k,z::c,o,h=>by
  rw[la,List.tail_cons,fb,Dh i k c _ (by simpa using h),List.zip_cons_cons,ei];unfold smF;rw[ez,bO];grind
theorem nH(k:Ke)(c:List Rat)(hc:c.length=k.length)(i:Nat):coP (smK k c k.length) i=sQ (fun j=>coP (k.getD j ([],[])).1 i* coP c j) k.length:=by
 rw[←oM (fun p:List Rat×List Rat=>coP p.1 i) ([],[]) k c hc];unfold smK;rw[List.take_length,Dh i k c [] hc,show coP [] i=0 from rfl];grind
theorem sol_lin{A:Mx}{n:Nat}{x y:Nat→Rat}{c:Rat}(hx:Sol 0 A n x)(hy:Sol 0 A n y):Sol 0 A n (fun j=>x j- c* y j):=fun i a=>by
 rw[b4 (g:=fun j=>A i j* x j- c* (A i j* y j)) n fun j b=>by grind,jX,hx i a,hy i a];grind
def fvS(A:Mx)(L:List Nat)(y:Nat→Rat):List Nat→Nat→Rat
 |[],j=>0
 |f::F,j=>fvS A L y F j+y f* zerX A L f j
theorem DW{A:Mx}{n:Nat}{L:List Nat}(hE:Ech A n n L)(y:Nat→Rat):∀F:List Nat,(∀f∈F,f< n∧f∉L)→Sol 0 A n (fvS A L y F)
 |[],_=>F4 A n
 |f::F,h=>by
  obtain⟨h1,b⟩:=h f (List.mem_cons_self ..);have e:=sol_lin (c:= -y f) (DW hE y F fun g hg=>h g (List.mem_cons_of_mem _ hg)) (hE.zerX h1 b);intro i a;have d:=e i a;rw[←d];exact b4 n fun j k=>by rw[fvS];grind
theorem Hf{A:Mx}{L:List Nat}{y:Nat→Rat}:∀(F:List Nat),F.Nodup→(∀f∈F,f∉L)→∀j,j∉L→fvS A L y F j=if j∈F then y j else 0
 |[],_,_,j,_=>by simp[fvS]
 |f::F,hn,h,j,hj=>by
  obtain⟨b,a⟩:=List.nodup_cons.1 hn;have c:zerX A L f j=if j=f then 1 else 0:=by unfold zerX;rw[if_neg (by simpa using hj)]
  rw[fvS,Hf F a (fun g hg=>h g (List.mem_cons_of_mem _ hg)) j hj,c];by_cases e:j=f;subst e;rw[if_neg b,if_pos rfl,if_pos (List.mem_cons_self ..)];grind;rw[if_neg e];by_cases g:j∈F;rw[if_pos g,if_pos (List.mem_cons_of_mem _ g)];grind;rw[if_neg g,if_neg (by simp[e,g])];grind
theorem Fo(L:List Nat)(n:Nat):(frL L n).Nodup:=List.Pairwise.filter _ List.nodup_range
theorem sol_fvS{A:Mx}{n:Nat}{L:List Nat}(hE:Ech A n n L){y:Nat→Rat}(hy:Sol 0 A n y):∀j,j< n→y j=fvS A L y (frL L n) j:=
 hE.uniq hy (DW hE y _ fun f hf=>mem_frL.1 hf) fun j a g=>by
  rw[Hf _ (Fo L n) (fun f hf=>(mem_frL.1 hf).2) j g,if_pos (mem_frL.2 ⟨a,g⟩)]
theorem zU{k:Ke}{A:Mx}{L:List Nat}{y:Nat→Rat}:∀F:List Nat,(∀f∈F,f∈frL L k.length)→Spn (zsK k (A,L)) (smK k (aO k.length (fvS A L y F)) k.length)
 |[],_=> .zero fun i=>by
  rw[nH k _ (by simp),b4 (g:=fun j=>if j=k.length then 0 else 0) k.length fun j a=>by rw[ek a,fvS];split <;> grind,jy,if_neg (by omega)]
 |f::F,h=>by
  have b:=zU (k:=k) (A:=A) (y:=y) F fun g hg=>h g (List.mem_cons_of_mem _ hg);have d:smK k (ij A k.length L f) k.length∈zsK k (A,L):=List.mem_map_of_mem (f:=fun z=>smK k z k.length) (List.mem_map_of_mem (f:=ij A k.length L) (h f (List.mem_cons_self ..)));refine .step (c:= -y f) b d fun i=>?_;rw[nH k _ (by simp),nH k _ (by simp),nH k _ (by simp),←jX];refine b4 k.length fun j a=>?_;unfold ij;rw[ek a,ek a,ek a,fvS];grind
theorem F6{k:Ke}{l a b:Rat}{r:List Rat}{u:List Rat}(h:SolE k l a b [] u):Spn (zsK k (syM k l r a b)) u:=by
 obtain⟨y,n⟩:∃y:Nat→Rat,y=fun j=>l* inQ (aL (k.getD j ([],[])).2 u) a b:=⟨_,rfl⟩
 have s:∀x,au u x=au (smK k (aO k.length y) k.length) x:=fun x=>by
  rw[h x,c9,oO k _ (by simp),jW _ ([],[]),b4 (g:=fun j=>(au (k.getD j ([],[])).1 x* inQ (aL (k.getD j ([],[])).2 u) a b) * l) (f:=fun j=>au (k.getD j ([],[])).1 x* coP (aO k.length y) j) k.length fun j d=>by rw[ek d,n];grind,xd];grind
 have m:∀i,coP u i=coP (smK k (aO k.length y) k.length) i:=fun i=>by
  rw[←b5 u,gi s,b5]
 have hs:Sol 0 (svM (maK k a b) l (fun t=>coP r t) k.length) k.length y:=fun i w=>by
  have e1:inQ (aL (k.getD i ([],[])).2 u) a b=sQ (fun j=>maK k a b i j* y j) k.length:=by
   have:=eF (B:=(k.getD i ([],[])).2) (r:=u) (p:=smK k (aO k.length y) k.length) (q:=[]) (c:=0) (fun t=>by rw[m];grind) a b;rw[this,r7 _ a b k _ (by simp),b4 (g:=fun j=>maK k a b i j* y j) k.length fun j d=>by rw[ek d];rfl];grind
  have e2:y i=l* sQ (fun j=>maK k a b i j* y j) k.length:=by rw[←e1,n]
  rw[show svM (maK k a b) l (fun t=>coP r t) k.length i k.length=coP r i from if_pos rfl,b4 (g:=fun j=>(if j=i then y i else 0)- l* (maK k a b i j* y j)) k.length fun j d=>?_,jX,jy,if_pos w];rw[←e2];grind;unfold svM;rw[if_neg (by omega)];by_cases e:j=i;subst e;rw[if_pos rfl,if_pos rfl];grind;rw[if_neg e,if_neg e];grind
 have v:=dY (svM (maK k a b) l (fun t=>coP r t) k.length) k.length k.length;have o:=sol_fvS v ((mK k.length).2 hs);have:=zU (k:=k) (A:=(syM k l r a b).1) (L:=(syM k l r a b).2) (y:=y) (frL (syM k l r a b).2 k.length) fun f hf=>hf;refine this.ext fun i=>?_;rw[m,nH k _ (by simp),nH k _ (by simp)];exact b4 k.length fun j d=>by rw[ek d,ek d,o j d];rfl
theorem zs_sol{k:Ke}{l a b:Rat}{r:List Rat}:∀p∈zsK k (syM k l r a b),SolE k l a b [] p:=fun p hp=>by
 have g:=dY (svM (maK k a b) l (fun t=>coP r t) k.length) k.length k.length;obtain⟨z,c,rfl⟩:=List.mem_map.1 hp;obtain⟨f,hf,rfl⟩:=List.mem_map.1 c;obtain⟨e,d⟩:=mem_frL.1 hf;exact yR (r:=fun t=>coP r t) ((mK k.length).1 (g.zerX e d))
theorem yD{k:Ke}{l a b:Rat}{g u:List Rat}:Spn (bK k l g a b) u↔SolE k l a b [] u:=by
 unfold bK;rw[ecL_span.2 u];exact⟨fun h=>h.closed (fun v e=>(SolE.nil k l a b).ext fun i=>by rw[e];rfl) (fun p b c r hp hb d=>hp.comb hb d) zs_sol,F6⟩
theorem bK_eq{k k':Ke}{l a b:Rat}{g g':List Rat}(h:∀u,SolE k l a b [] u↔SolE k' l a b [] u):bK k l g a b=bK k' l g' a b:=
 C1 (jf _ _) (jf _ _) ecL_span.1 ecL_span.1 fun u=>by rw[yD,yD];exact h u
theorem red_one{k:Ke}{l a b:Rat}{g u v:List Rat}(hu:SolE k l a b g u)(hv:SolE k l a b g v)(zu:∀p∈bK k l g a b,coP u (dg p)=0)(zv:∀p∈bK k l g a b,coP v (dg p)=0):aq u=aq v:=by
 refine Gq (jf _ _) ?_ zu zv;rw[show ecK (zsK k (syM k l (rhK k g a b) a b)) (zsK k (syM k l (rhK k g a b) a b)).length=bK k l g a b from rfl,yD];intro x;have h1:=hu x;have d:=hv x;have e:=kw (f:=fun p:List Rat×List Rat=>au p.1 x* inQ (aL p.2 (cK u v)) a b) (g:=fun z=>au z.1 x* inQ (aL z.2 u) a b) (h:=fun z=>au z.1 x* inQ (aL z.2 v) a b) (c:=1) (fun z=>by rw[eF (p:=u) (q:=v) (c:=1) (fun i=>by rw[cP];grind)];grind) k;rw[e,iA,c9,h1,d];grind
theorem GV{k:Ke}{l a b:Rat}{g u:List Rat}(h:SolE k l a b g u):jG k.length (syM k l (rhK k g a b) a b).1 (syM k l (rhK k g a b) a b).2=false:=by
 have n:=dY (svM (maK k a b) l (fun t=>coP (rhK k g a b) t) k.length) k.length k.length;obtain⟨y,d⟩:∃y:Nat→Rat,y=fun j=>inQ (aL (k.getD j ([],[])).2 u) a b:=⟨_,rfl⟩
 have hs:Sol 1 (svM (maK k a b) l (fun t=>coP (rhK k g a b) t) k.length) k.length y:=fun i m=>by
  have q:∀x,au u x=au (fR g (aX (smK k (aO k.length y) k.length) l)) x:=fun x=>by
   rw[h x,iB,dT,oO k _ (by simp),jW _ ([],[]),b4 (g:=fun j=>au (k.getD j ([],[])).1 x* coP (aO k.length y) j) k.length fun j c=>by rw[ek c,d]];grind
  have f:∀t,coP u t=coP g t- (-l) * coP (smK k (aO k.length y) k.length) t:=fun t=>by
   rw[←b5 u,gi q,b5,ez,bO];grind
  have e1:y i=inQ (aL (k.getD i ([],[])).2 g) a b+l* sQ (fun j=>maK k a b i j* y j) k.length:=by
   have:=eF (B:=(k.getD i ([],[])).2) f a b;rw[r7 _ a b k _ (by simp),b4 (g:=fun j=>maK k a b i j* y j) k.length fun j c=>by rw[ek c];rfl] at this;rw[d];rw[d] at this;simp only at this⊢;rw[this];grind
  have r:coP (rhK k g a b) i=inQ (aL (k.getD i ([],[])).2 g) a b:=by
   unfold coP rhK;rw[List.getD_eq_getElem?_getD,List.getD_eq_getElem?_getD,List.getElem?_map,List.getElem?_eq_getElem m];rfl
  rw[show svM (maK k a b) l (fun t=>coP (rhK k g a b) t) k.length i k.length=coP (rhK k g a b) i from if_pos rfl,b4 (g:=fun j=>(if j=i then y i else 0)- l* (maK k a b i j* y j)) k.length fun j c=>?_,jX,jy,if_pos m,r];generalize sQ (fun j=>maK k a b i j* y j) k.length=z at *
  rw[e1];grind;unfold svM;rw[if_neg (by omega)];by_cases e:j=i;subst e;rw[if_pos rfl,if_pos rfl];grind;rw[if_neg e,if_neg e];grind
 have hA:=(mK k.length).2 hs;cases hN:jG k.length (syM k l (rhK k g a b) a b).1 (syM k l (rhK k g a b) a b).2 with
 |false=>rfl
 |true=>
  obtain⟨i,i1,i2,p⟩:=BL hN;have o:=hA i i2;rw[b4 (g:=fun j=>if j=k.length then 0 else 0) k.length fun j c=>by rw[n.rest i j i1 i2 c];split <;> grind,jy,if_neg (by omega)] at o;exact absurd (show(syM k l (rhK k g a b) a b).1 i k.length=0 by unfold syM;grind) p
def mmQ(n:Nat)(A B:Mx):Mx:=fun i j=>sQ (fun t=>A i t* B t j) n
def mmS(n:Nat)(A B:Mx)(i j:Nat):Nat→AState
 |t=>⟨[(0,i64 i),(1,i64 j),(2,bM (sqR n A)),(3,bM (sqR n B)),(6,.lptr 1 0 0),(7,.lptr 2 0 0),(10,i64 n),(11,i64 t)],[(1,some ⟨36,3,[zC]⟩),(2,some ⟨36,3,[qC (sQ (fun t=>A i t* B t j) t)]⟩)],3,33⟩
theorem fs_mm1(n:Nat)(A B:Mx)(i j:Nat)(hi:i< n)(hj:j< n)(hn:n≤25)(hs:∀t,t< n→qs (A i t)+qs (B t j)≤549755813888∧qs (sQ (fun t=>A i t* B t j) t)+qs (A i t* B t j)≤549755813888):FS 170 [i64 i,i64 j,bM (sqR n A),bM (sqR n B)] (.agg (qC (mmQ n A B i j))):=by
 have g:(mE (sqR n A)).length=n:=by simp
 have f:(mE (sqR n B)).length=n:=by simp
 refine f_n Tryz.func170 ?_ ?_;exact ac (ag _) (ac (ag _) (ac (b9 _) (ac (b9 _) af)));refine r_z 1 ?_;refine r_z 1 ?_;refine ae (r_z 3 ?_);refine aG (fun _:Unit=>⟨[(6,.lptr 1 0 0),(7,.lptr 2 0 0)],[(1,some ⟨36,3,[zC]⟩),(2,some ⟨36,3,[qC (mmQ n A B i j)]⟩)],3,33⟩) (fun _=>True) ?_ ?_;refine aj (aB (mmS n A B i j) (fun t=>n- t) (fun t=>t≤n) 0 (Nat.zero_le _) ?_ ?_);rw[mmS.eq_1,sQ,qC0];refine s_x [(1,6),(2,7)] (fun hs=>?_) (fun hs=>?_)
 ·repeat' (first|exact aN|refine aA rfl ?_ ?_|exact am hs (b9 _)|(refine Cv.loE hs ?_ (ag _);simp[i64];done)|exact aV)
 ·repeat' (first|exact aE|refine h_c ?_ ?_|exact bC|refine az ?_|exact av|refine ah ?_ ?_|exact am hs (b9 _)|(refine Cv.loE hs ?_ (ag _);simp[i64];done)|exact aV)
 intro t ht;rw[mmS.eq_1];by_cases hlt:t< n;have d:(mE (sqR n A))[((i:Nat):Int).toNat]?=some [.arr (pE (aO n (A i)))]:=gx (w4 hi) _ (by simp);have e:(pE (aO n (A i)))[((t:Nat):Int).toNat]?=some (qC (A i t)):=dh hlt _ (by simp);have g3:(mE (sqR n B))[((t:Nat):Int).toNat]?=some [.arr (pE (aO n (B t)))]:=gx (w4 hlt) _ (by simp);have c:(pE (aO n (B t)))[((j:Nat):Int).toNat]?=some (qC (B t j)):=dh hj _ (by simp);have l1:(pE (aO n (A i))).length=n:=by simp[pE]
 have l2:(pE (aO n (B t))).length=n:=by simp[pE]
 obtain⟨h1,l⟩:=hs t hlt;have b:=cJ (A i t) (B t j) h1;have a:=fh (sQ (fun t=>A i t* B t j) t) (A i t* B t j) l;refine q_z 1 ?_;refine ae (cT (ak (ae (aj (r_z 2 ?_)))));refine r_d a6 18 ?_;refine a_3 ?_;refine i_x d ?_;refine l_1 d ?_;refine a_1 ?_;refine i_x e ?_;refine l_x e ?_;refine a_2 ?_;refine i_x g3 ?_
 first|refine aF (.load_l1 rfl rfl g3 TG.h rfl) rfl rfl ?_|refine aF (.load_a1 rfl g3 TG.h rfl) rfl rfl ?_
 refine a_1 ?_;refine i_x c ?_;refine l_x c ?_;refine c_s (b) ?_;refine c_s (a) ?_;refine a_1 ?_;refine ao (n_k ?_);refine r_m 2 ?_;refine a_z ?_;refine⟨t+1,by omega,by omega,?_⟩;rw[mmS.eq_1,sQ];refine s_x [(1,6),(2,7)] (fun hs=>?_) (fun hs=>?_)
 ·repeat' (first|exact aN|refine aA rfl ?_ ?_|exact am hs (b9 _)|exact aV)
 ·repeat' (first|exact aE|refine h_c ?_ ?_|exact bC|refine az ?_|exact av|refine ah ?_ ?_|exact am hs (b9 _)|exact aV)
 have k:t=n:=by omega
 refine q_z 1 ?_;refine ae (cF (ay ⟨(),trivial,?_⟩));subst k;unfold mmQ;exact s_e [(1,6),(2,7)];rintro _ _;refine r_z 2 ?_;exact ai (c_e (aT _))
theorem fs_mm(n:Nat)(A B:Mx)(hn:n≤25)(hs:∀i j t,i< n→j< n→t< n→qs (A i t)+qs (B t j)≤549755813888∧qs (sQ (fun t=>A i t* B t j) t)+qs (A i t* B t j)≤549755813888):FS 130 [.arr (mE (sqR n A)),.arr (mE (sqR n B))] (.arr (mE (sqR n (mmQ n A B)))):=by
 have a:=E7 (mmQ n A B) n 170 [bM (sqR n A),bM (sqR n B)] hn (ac (b9 _) (ac (b9 _) af)) fun i j c b=>fs_mm1 n A B i j c b hn fun t ht=>hs i j t c b ht;rw[yc] at a;have d:(mE (sqR n A)).length=n:=by simp
 refine f_c Tryz.func130 ?_;refine r_z 3 ?_;refine AWp.ent (st':=⟨[(2,bM (sqR n A)),(3,bM (sqR n B))],[],1,9⟩) ?_ ?_;refine s_x [] (fun hs=>?_) (fun hs=>?_)
 ·repeat' (first|exact aN|refine aA rfl ?_ ?_|exact Cv.boxp hs rfl (aM rfl) rfl (ac (closed_mA (sqR n A)) af)|exact Cv.boxp hs rfl (aM rfl) rfl (ac (closed_mA (sqR n B)) af)|exact aV)
 ·repeat' (first|exact aE|refine h_c ?_ ?_|exact bC|refine az ?_|exact av|refine ah ?_ ?_|exact Cv.boxp hs rfl (aM rfl) rfl (ac (closed_mA (sqR n A)) af)|exact Cv.boxp hs rfl (aM rfl) rfl (ac (closed_mA (sqR n B)) af)|exact aV)
 refine s_r 5 ?_
 first|refine aF (.load_l1 rfl rfl rfl TG.h rfl) rfl rfl ?_|refine aF (.load_a1 rfl rfl TG.h rfl) rfl rfl ?_
 first|refine aF (.lenD rfl rfl rfl rfl te_104.h) rfl rfl ?_|refine aF (.lenI rfl rfl rfl rfl te_104.h) rfl rfl ?_|refine aF (.lenP rfl rfl rfl rfl te_104.h) rfl rfl ?_|refine aF (.lenC rfl rfl rfl rfl te_104.h) rfl rfl ?_|refine aF (.lenR rfl rfl rfl rfl te_104.h) rfl rfl ?_|refine aF (.len rfl rfl rfl rfl rfl te_104.h) rfl rfl ?_
 refine o_0 (.makeFunc rfl rfl) ?_;refine o_0 (.call rfl rfl rfl ((by rw[Bs];exact a))) ?_;refine o_0 (.assign rfl) ?_;refine ao ?_;exact ai (t_e (closed_mA _))
end Go.Proofs.YtdgbhlkabelmbaaGreatDoor
