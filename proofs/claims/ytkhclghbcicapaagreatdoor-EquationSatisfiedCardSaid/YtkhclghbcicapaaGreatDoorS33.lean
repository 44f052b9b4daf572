/- Part S33 of the proof. -/
import Derived.Test.YtkhclghbcicapaaGreatDoorS32
set_option linter.all false
namespace Go.Proofs.YtkhclghbcicapaaGreatDoor
open Go.Abs
set_option maxRecDepth 20000
set_option maxHeartbeats 4000000
theorem es_pdq(L:List (List Rat))(n m:Nat)(hn:L.length=n)(h1:1≤n)(hl:n≤12)(hb:∀p∈L,p.length≤1099511627776):
    ESpec Tryz.prog 192 36 1 (mE L) (mE (jt L (n- 1))) 0 n none [i64 0,i64 n,i64 m,.clos 159 [] []] (.tuple #[]):=by
 have a:=EL L n hn h1 hl hb;refine ESpec.enter Tryz.func192 rfl (by kernel_rfl) rfl rfl rfl ?_ ?_ ?_ rfl ?_;exact ac (ag _) (ac (ag _) (ac (ag _) (ac (aQ af af) af)));exact b5 _;exact b5 _;refine r_z 1 ?_;refine r_z 1 ?_;refine aj (aB (fun _:Unit=>⟨[(0,.lsl 0 0 n none 1),(1,i64 0),(2,i64 n),(4,.clos 159 [] [])],[(0,some ⟨36,1,mE L⟩)],1,148⟩) (fun _=>0) (fun _=>True) () trivial ?_ ?_);exact s_f [];rintro _ _;refine aj (r_z 4 ?_);refine ae (q_z 2 ?_);refine cT (s_r 5 ?_);refine a_4 ?_;refine o_1 (.callE2 rfl rfl rfl rfl rfl rfl (a)) ?_;refine ao ?_;exact ai (FinE.none (.inr rfl) rfl rfl)
def lenT(n:Nat):Nat:=if n< 2 then 1 else if n< 4 then 2 else if n< 8 then 3 else 4
theorem EE(n:Nat)(h:n=1∨n=2∨n=3∨n=4∨n=5∨n=6∨n=7∨n=8∨n=9∨n=10∨n=11∨n=12):FS 231 [.v (.int .u64 (n:Int))] (i64 (lenT n)):=by
 rcases h with rfl|rfl|rfl|rfl|rfl|rfl|rfl|rfl|rfl|rfl|rfl|rfl
 all_goals (
  refine f_c Tryz.func231 ?_;refine r_z 1 ?_;refine ae (s_r 2 ?_);refine a_1 ?_;refine o_0 (.bin rfl rfl (vF iI (decide_eq_false (by decide)))) ?_;refine ao ?_;refine cF (am (ae (s_r 2 ?_)));refine a_1 ?_;refine o_0 (.bin rfl rfl (vF iI (decide_eq_false (by decide)))) ?_;refine ao ?_;refine cF (am (ae (s_r 2 ?_)));refine a_1 ?_;refine o_0 (.bin rfl rfl (vF iI (decide_eq_false (by decide)))) ?_;refine ao ?_;refine cF (am (s_r 7 ?_));refine a_3 ?_;refine o_0 ((by first|exact .index_s (r:= .int .u8 1) rfl rfl (fun w=>rfl)|exact .index_s (r:= .int .u8 2) rfl rfl (fun w=>rfl)|exact .index_s (r:= .int .u8 3) rfl rfl (fun w=>rfl)|exact .index_s (r:= .int .u8 4) rfl rfl (fun w=>rfl))) ?_;refine a_z ?_;exact ai (t_e (ag _)))
theorem fs_Lens(n:Nat)(h1:1≤n)(hl:n≤12):FS 193 [.v (.int .u64 (n:Int))] (i64 (lenT n)):=by
 have a:=EE n (by omega);refine f_c Tryz.func193 ?_;refine r_z 1 ?_;refine ae (cF (am (r_c 3 (a) ?_)));refine a_z ?_;exact ai (t_e (ag _))
theorem Dq(L:List (List Rat))(n:Nat)(hn:L.length=n)(h1:1≤n)(hl:n≤12)(hb:∀p∈L,p.length≤1099511627776):
    ESpec Tryz.prog 158 36 1 (mE L) (mE (jt L (n- 1))) 0 n none [.clos 159 [] []] (.tuple #[]):=by
 have a:=es_pdq L n (lenT n) hn h1 hl hb;have b:=fs_Lens n h1 hl;refine ESpec.enter Tryz.func158 rfl (by kernel_rfl) rfl rfl rfl ?_ ?_ ?_ rfl ?_;exact ac (aQ af af) af;exact b5 _;exact b5 _;refine r_z 3 ?_;refine r_m 7 ?_;refine c_s (b) ?_;refine a_1 ?_;refine o_1 (.callE2 rfl rfl rfl rfl rfl rfl (a)) ?_;refine ao ?_;exact FinE.none (.inl rfl) rfl rfl
theorem rd_ok{p:List Rat}{B:List (List Rat)}{s t k:Nat}(hB:∀b∈B,Piv b)(hp:bdL p s)(hs:1≤s)(hbt:∀b∈B,bdL b t)(ht:1≤t)(hk:B.length≤k)(h:rbB s t k≤100000000000)(hpl:p.length≤1000)(hbl:∀b∈B,b.length≤1000)(hk2:k≤1000):(∀i,i< B.length→OkRd (rbK p B i) (B.getD (B.length- 1- i) []))∧(rbK p B B.length).length≤1099511627776:=by
 refine⟨fun i e=>?_,Nat.le_trans (wO hB hp hs hbt ht B.length (Nat.le_refl _)).2 (by omega)⟩;obtain⟨h1,d⟩:=wO hB hp hs hbt ht i (by omega);have a:=lW (B:=B) (i:=B.length- 1- i) (by omega);generalize B.getD (B.length- 1- i) []=b at a⊢;have g:2* rbB s t i+t+1≤100000000000:=Nat.le_trans (yB s t (show i+1≤k by omega)) h;have f:=wQ s t i;have hb:=hB b a;have hc:=dN h1 (by omega) (bv b).toNat;have c:=hbl b a;refine⟨by rw[hb.deg];omega,by omega,by omega,cW (hbt b a) (by omega),Nat.le_trans hc (by omega),cW (gi (hbt b a) ht hc) (by omega),cW h1 (by omega)⟩
theorem tK{p:List Rat}{B:List (List Rat)}{s t k:Nat}(hB:∀b∈B,Piv b)(hp:bdL p s)(hs:1≤s)(hbt:∀b∈B,bdL b t)(ht:1≤t)(hk:B.length≤k)(h:rbB s t k≤100000000000)(hpl:p.length≤1000)(hbl:∀b∈B,b.length≤1000)(hk2:k≤1000):FS 66 [.arr (pE p),.arr (mE B)] (.arr (pE (reP p B))):=by
 obtain⟨h1,a⟩:=rd_ok hB hp hs hbt ht hk h hpl hbl hk2;exact vD p B (by omega) h1 a
theorem mE_eq(B:List (List Rat)):mE B=(B.map fun b=>AV.arr (pE b)).map fun z=>[z]:=by simp[mE]
def mpI(f:List Rat→List Rat)(B:List (List Rat))(i:Nat):List (List Rat):=(B.take i).map f++B.drop i
@[simp] theorem mpI_length (f:List Rat→List Rat)(B:List (List Rat))(i:Nat):(mpI f B i).length=B.length:=by simp[mpI];omega
theorem mpI_0(f:List Rat→List Rat)(B:List (List Rat)):mpI f B 0=B:=by simp[mpI]
theorem mpI_n{f:List Rat→List Rat}{B:List (List Rat)}{i:Nat}(h:B.length≤i):mpI f B i=B.map f:=by simp[mpI,List.take_of_length_le h,List.drop_eq_nil_of_le h]
theorem mpI_get{f:List Rat→List Rat}{B:List (List Rat)}{i:Nat}{b:List Rat}(h:B[i]?=some b):(mpI f B i)[i]?=some b:=by
 have hl:=(List.getElem?_eq_some_iff.1 h).1;unfold mpI;rw[List.getElem?_append_right (by simp;omega),List.getElem?_drop];simp;rw[show i+(i- min i B.length)=i by omega];exact h
theorem mpI_s{f:List Rat→List Rat}{B:List (List Rat)}{i:Nat}{b:List Rat}(h:B[i]?=some b):(mpI f B i).set i (f b)=mpI f B (i+1):=by
 have hl:=(List.getElem?_eq_some_iff.1 h).1;unfold mpI;rw[List.set_append_right _ _ (by simp;omega),List.length_map,List.length_take,Nat.min_eq_left (by omega),Nat.sub_self,List.take_add_one,h,List.drop_eq_getElem_cons hl,List.set_cons_zero];simp
def ehS(l:List (List Rat))(k:Nat):Nat→List (List Rat)→AState
 |0,_=>⟨[(3,.emp),(7,.arr (mE l)),(8,i64 l.length),(9,i64 k)],[],1,49⟩
 |n+1,out=>⟨[(3,.lsl 1 0 (n+1) none 1),(7,.arr (mE l)),(8,i64 l.length),(9,i64 k)],[(1,some ⟨36,1,mE out⟩)],2,49⟩
theorem Du(l:List (List Rat))(k:Nat)(out:List (List Rat)):ehS l k 0 out=⟨[(3,.emp),(7,.arr (mE l)),(8,i64 l.length),(9,i64 k)],[],1,49⟩:=rfl
theorem zS(l:List (List Rat))(k n:Nat)(out:List (List Rat)):ehS l k (n+1) out=⟨[(3,.lsl 1 0 (n+1) none 1),(7,.arr (mE l)),(8,i64 l.length),(9,i64 k)],[(1,some ⟨36,1,mE out⟩)],2,49⟩:=rfl
def ejqS(l:List (List Rat))(k n:Nat)(q:List Rat)(f:List Rat→List Rat)(out:List (List Rat)):Nat→AState
 |i=>⟨[(3,.lsl 1 0 (n+1) none 1),(5,.arr (pE q)),(7,.arr (mE l)),(8,i64 l.length),(9,i64 k),(26,i64 ((n+1:Nat):Int)),(27,i64 i)],[(1,some ⟨36,1,mE (mpI f out i)⟩)],2,49⟩
theorem xJ(l:List (List Rat))(k n:Nat)(q:List Rat)(f:List Rat→List Rat)(out:List (List Rat))(i:Nat):ejqS l k n q f out i=⟨[(3,.lsl 1 0 (n+1) none 1),(5,.arr (pE q)),(7,.arr (mE l)),(8,i64 l.length),(9,i64 k),(26,i64 ((n+1:Nat):Int)),(27,i64 i)],[(1,some ⟨36,1,mE (mpI f out i)⟩)],2,49⟩:=rfl
theorem BG(l:List (List Rat))(s:Nat)(hs:1≤s)(hl12:l.length≤12)(hl:∀p∈l,bdL p s∧p.length≤1000)(hE:ecB s l.length≤50000000000):FS 124 [.arr (mE l)] (.arr (mE (ecL l))):=by
 have hml:(mE l).length=l.length:=by simp[mE]
 refine f_c Tryz.func124 ?_;refine r_z 1 ?_;refine r_z 1 ?_;refine ae (r_z 3 ?_);refine aH (fun _:Unit=>⟨[(3,.arr (mE (ecL l)))],[],1,49⟩) (fun _=>True) ?_ ?_;refine aj (aB (fun k=>ehS l k (ecK l k).length (ecK l k)) (fun k=>l.length- k) (fun k=>k≤l.length) 0 (Nat.zero_le _) ?_ ?_);show SEnt _ (ehS l 0 0 []);rw[Du];have:=closed_mA l;exact s_f [];intro k hk;have hB:=pD l k;have r:=xK hs hl k;have A:=pC l k;have j:=xL s k;by_cases hlt:k< l.length;obtain⟨p,hp⟩:∃p,l[k]?=some p:=⟨_,List.getElem?_eq_getElem hlt⟩;have Z:l.getD k []=p:=by rw[List.getD_eq_getElem?_getD,hp];rfl
 obtain⟨U,hp2⟩:=hl p (List.mem_of_getElem? hp);have C:(mE l)[((k:Nat):Int).toNat]?=some [.arr (pE p)]:=fP hp _ (by simp);have a:ecK l (k+1)=ecT (ecK l k) p:=by rw[ecK,Z]
 have hEk:2* ecB s k+2* rbB s (ecB s k) k+2≤50000000000:=Nat.le_trans (GY s (show k+1≤l.length by omega)) hE;obtain⟨F,D⟩:=rd_ok hB.piv U hs (fun b hb=>(r b hb).1) j A (by omega) hp2 (fun b hb=>(r b hb).2) (by omega);obtain⟨q1,q2⟩:=tk hB.piv U hs (fun b hb=>(r b hb).1) j A;have hu1:=wQ s (ecB s k) k;have w:¬bv (reP p (ecK l k))< 0→Piv (ecP (reP p (ecK l k))):=fun v=>(si (Classical.byContradiction fun e=>v (degP_nil.2 e))).1;obtain⟨e1,e2⟩:=GX q1 (by omega);generalize hu:rbB s (ecB s k) k=u at *
 generalize hO:ecK l k=O at *
 obtain⟨q,hq⟩:∃q,q=reP p O:=⟨_,rfl⟩;have hR:=vD p O (by omega) F D;have Q:=fun b1 c=>Br p O b1 (some ⟨b1,0,none⟩) (O.map fun b=>AV.arr (pE b)).length c (by omega) F D;rw[←hq] at hR Q q1 q2 e1 e2 w;have W:=cI q (by omega);have S:=nh q (by omega);have hI:FS 24 [i64 1] (.agg (qC 1)):=dK 1 (by decide);have hlq:=rY q1 (by omega);have h11:qs 1≤1:=by decide
 have hqsd:=gY 1 (aR q);have G:=eD q (1/ aR q) (cW q1 (by omega)) (show qs _≤_ by omega) (by omega);rw[show aZ q (1/ aR q)=ecP q from rfl] at G;have t:¬bv q< 0→FS 58 [.agg (qC 1),.agg (qC (aR q))] (.agg (qC (1/ aR q))):=fun v=>pi 1 (aR q) (gG (Classical.byContradiction fun e=>v (degP_neg.2 (Classical.byContradiction fun e'=>e e')))) (by omega);have n:ecT O p=if bv q< 0 then O else jt (O.map (fun o=>reP o [ecP q])++[ecP q]) O.length:=by rw[hq];rfl
 rcases hm:O.length with _|m
 have K:O=[]:=List.eq_nil_of_length_eq_zero hm;subst K;rw[Du];refine q_z 1 ?_;refine ae (cT (am (ae (aj (s_r 3 ?_)))));refine i_x C ?_;refine l_1 C ?_;refine a_z ?_;refine ae (r_c 4 (hR) ?_);refine a_z ?_;by_cases v:bv q< 0;refine r_c 3 (W) ?_;refine d_z ?_;refine cT (ay (r_m 2 ?_));refine a_z ?_;refine⟨k+1,by omega,by omega,?_⟩;rw[a,n,if_pos v];show SEnt _ (ehS l (k+1) 0 []);rw[Du];have:=closed_mA l;exact s_f [];have t:=t v;have d:=Dq [ecP q] 1 rfl (by omega) (by omega) (fun x hx=>by rw[List.mem_singleton.1 hx];omega);refine r_c 3 (W) ?_;refine d_z ?_;refine cF (am (r_c 7 (hI) ?_));refine c_s (S) ?_;refine c_s (t) ?_;refine c_s (G) ?_;refine a_z ?_;refine ae (r_z 3 ?_);refine aH (fun _:Unit=>⟨[(3,.emp),(5,.arr (pE (ecP q))),(7,.arr (mE l)),(8,i64 l.length),(9,i64 k)],[],1,49⟩) (fun _=>True) ?_ ?_;refine aj (aB (fun _:Unit=>⟨[(3,.emp),(5,.arr (pE (ecP q))),(7,.arr (mE l)),(8,i64 l.length),(9,i64 k),(26,i64 0),(27,i64 0)],[],1,49⟩) (fun _=>0) (fun _=>True) () trivial ?_ ?_);exact s_x [] (fun hs=>G0) (fun hs=>e_55);rintro _ _;refine q_z 1 ?_;refine ae (cF (ay ⟨(),trivial,?_⟩));exact s_x [] (fun hs=>G0) (fun hs=>e_55);rintro _ _;refine r_z 5 ?_;refine AWp.ent (st':=⟨[(3,.lsl 1 0 1 none 1),(7,.arr (mE l)),(8,i64 l.length),(9,i64 k)],[(1,some ⟨36,1,mE [ecP q]⟩)],2,49⟩) ?_ ?_;have:=closed_mA l;have:=b5 [ecP q];exact s_f [(1,3)];refine r_m 2 ?_;refine a_1 ?_;refine o_1 (.callE2 rfl rfl rfl rfl rfl rfl (d)) ?_;refine ao ?_;refine r_m 2 ?_;refine a_z ?_;refine⟨k+1,by omega,by omega,?_⟩
 rw[a,n,if_neg v];show SEnt _ (ehS l (k+1) (0+1) (jt ([ecP q]) 0));rw[zS];have:=closed_mA l;exact s_f [(1,3)];have hmO:(mE O).length=m+1:=by simp[mE,hm]
 have hfull:List.take (m+1) (List.drop 0 (mE O))=mE O:=by rw[List.drop_zero,List.take_of_length_le (by omega)]
 have hone:=xd O;rw[zS];refine q_z 1 ?_;refine ae (cT (am (ae (aj (s_r 3 ?_)))));refine i_x C ?_;refine l_1 C ?_;refine a_z ?_;refine ae (s_r 4 ?_);refine a_2 ?_;refine o_0 (.callL (L:=O.map fun b=>AV.arr (pE b)) rfl rfl rfl rfl rfl rfl (mE_eq O) (by rw[List.length_map,hm]) (fun z hz=>by obtain⟨b,_,rfl⟩:=List.mem_map.1 hz;exact ax b) Q) ?_;refine a_z ?_;by_cases v:bv q< 0;refine r_c 3 (W) ?_;refine d_z ?_;refine cT (ay (r_m 2 ?_));refine a_z ?_;refine⟨k+1,by omega,by omega,?_⟩;rw[a,n,if_pos v,hm,zS];have:=closed_mA l;exact s_f [(1,3)];have t:=t v;have V:=w v;refine r_c 3 (W) ?_;refine d_z ?_;refine cF (am (r_c 7 (hI) ?_));refine c_s (S) ?_;refine c_s (t) ?_;refine c_s (G) ?_;refine a_z ?_;refine ae (r_z 3 ?_);obtain⟨f,hf⟩:∃f,f=fun o=>reP o [ecP q]:=⟨_,rfl⟩;refine aH (fun _:Unit=>⟨[(3,.lsl 1 0 (m+1) none 1),(5,.arr (pE (ecP q))),(7,.arr (mE l)),(8,i64 l.length),(9,i64 k)],[(1,some ⟨36,1,mE (O.map f)⟩)],2,49⟩) (fun _=>True) ?_ ?_;refine aj (aB (ejqS l k m (ecP q) f O) (fun i=>m+1- i) (fun i=>i≤m+1) 0 (Nat.zero_le _) ?_ ?_);rw[xJ,mpI_0];exact s_x [(1,3)] (fun hs=>G0) (fun hs=>e_56);intro i hi;rw[xJ];have hll:(mE (mpI f O i)).length=m+1:=by simp[mE,hm]
 by_cases hil:i< m+1;obtain⟨o,M⟩:∃o,O[i]?=some o:=⟨_,List.getElem?_eq_getElem (by omega)⟩;have J:(mE (mpI f O i))[0+((i:Nat):Int).toNat]?=some [.arr (pE o)]:=fP (mpI_get M) _ (by simp);obtain⟨H,R⟩:=r o (List.mem_of_getElem? M)
 have X:FS 66 [.arr (pE o),.arr [[.arr (pE (ecP q))]]] (.arr (pE (f o))):=by
  rw[hf];exact tK (B:=[ecP q]) (k:=1) (fun c hc=>by rw[List.mem_singleton.1 hc];exact V) H j (fun c hc=>by rw[List.mem_singleton.1 hc];exact e1) (by omega) (Nat.le_refl _) (by rw[rbB,rbB];omega) R (fun c hc=>by rw[List.mem_singleton.1 hc];omega) (by omega)
 have T:(mE (mpI f O i)).set (0+((i:Nat):Int).toNat) [.arr (pE (f o))]=mE (mpI f O (i+1)):=by rw[Bg,show 0+((i:Nat):Int).toNat=i by simp,mpI_s M]
 refine q_z 1 ?_;refine ae (cT (am (ae (aj (r_z 2 ?_)))));refine r_m 11 ?_;refine a_5 ?_
 first|refine aO (.load_l1 rfl rfl J TG.h rfl) rfl rfl ?_|refine aO (.load_a1 rfl J TG.h rfl) rfl rfl ?_
 refine a_2 ?_;refine o_1 (.callS1 rfl rfl rfl (.keep (.shut rfl d_n (.nil))) rfl (X)) ?_;refine a_1 ?_;refine dX (.store rfl rfl J rfl rfl rfl TS.h (nle rfl)) ?_;refine ao ?_;refine r_m 2 ?_;refine a_z ?_;refine⟨i+1,by omega,by omega,?_⟩;rw[xJ];refine s_x [(1,3)] (fun hs=>G0) (fun hs=>?_)
 ·repeat' (first|exact aE|refine h_c ?_ ?_|exact aI hs T (b5 _)|exact bF|refine aC ?_|exact av|refine ah ?_ ?_|exact ak hs (closed_mA l)|exact ak hs (ax _)|exact aW)
 have he:i=m+1:=by omega
 refine q_z 1 ?_;refine ae (cF (ay ⟨(),trivial,?_⟩));rw[mpI_n (by omega)];exact s_x [(1,3)] (fun hs=>G0) (fun hs=>e_56);rintro _ _;have Y:=xd (O.map f);have hln2:(mE (O.map f)).length=m+1:=by simp[mE,hm]
 have d:=Dq (O.map f++[ecP q]) (m+1+1) (by simp[hm]) (by omega) (by omega) (fun x hx=>by
  rcases List.mem_append.1 hx with g|g
  obtain⟨o,M,rfl⟩:=List.mem_map.1 g;obtain⟨H,R⟩:=r o M;have:=(tk (B:=[ecP q]) (k:=1) (fun c hc=>by rw[List.mem_singleton.1 hc];exact V) H j (fun c hc=>by rw[List.mem_singleton.1 hc];exact e1) (by omega) (Nat.le_refl _)).2;rw[hf];show(reP o [ecP q]).length≤_;omega;rw[List.mem_singleton.1 g];omega)
 refine r_z 5 ?_;refine AWp.ent (st':=⟨[(3,.lsl 1 0 (m+1+1) none 1),(7,.arr (mE l)),(8,i64 l.length),(9,i64 k)],[(1,some ⟨36,1,mE (O.map f++[ecP q])⟩)],2,49⟩) ?_ ?_;refine s_x [(1,3)] (fun hs=>?_) (fun hs=>?_)
 ·repeat' (first|exact aK|refine az rfl ?_ ?_|exact ak hs (closed_mA l)|exact aW)
 ·repeat' (first|exact aE|refine h_c ?_ ?_|exact aI hs (by rw[vo];rfl) (b5 _)|exact bF|refine aC ?_|exact av|refine ah ?_ ?_|exact ak hs (closed_mA l)|exact aW)
 refine r_m 2 ?_;refine a_1 ?_;refine o_1 (.callE2 rfl rfl rfl rfl rfl rfl (d)) ?_;refine ao ?_;refine r_m 2 ?_;refine a_z ?_;refine⟨k+1,by omega,by omega,?_⟩;rw[a,n,if_neg v,hm,lT,show(O.map (fun o=>reP o [ecP q])++[ecP q]).length=m+1+1 by simp[hm],zS,←hf];have:=closed_mA l;exact s_f [(1,3)];have hge:k=l.length:=by omega
 have N:ecK l k=ecL l:=by rw[hge];rfl
 rw[N] at r A hB⊢;rcases hm:(ecL l).length with _|m
 have K:ecL l=[]:=List.eq_nil_of_length_eq_zero hm;rw[K,Du];refine q_z 1 ?_;refine ae (cF (ay ⟨(),trivial,?_⟩));exact s_e [];have hlen2:(mE (ecL l)).length=m+1:=by simp[mE,hm]
 have E:0+(m+1)≤(mE (ecL l)).length:=by omega
 have y:List.take (m+1) (List.drop 0 (mE (ecL l)))=mE (ecL l):=by rw[List.drop_zero];exact List.take_of_length_le (by omega)
 rw[zS];refine q_z 1 ?_;refine ae (cF (ay ⟨(),trivial,?_⟩));refine s_x [] (fun hs=>?_) (fun hs=>?_)
 ·repeat' (first|exact aK|refine az rfl ?_ ?_|exact Cv.shut hs rfl (aM rfl) E (aI hs y (b5 _))|exact aW)
 ·repeat' (first|exact aE|refine h_c ?_ ?_|exact bF|refine aC ?_|exact av|refine ah ?_ ?_|exact Cv.shut hs rfl (aM rfl) E (aI hs y (b5 _))|exact aW)
 rintro _ _;refine r_z 2 ?_;exact ai (t_e (closed_mA _))
theorem xH{r p q:List Rat}{c:Rat}(h:∀i,coP r i=coP p i- c* coP q i)(x:Rat):au r x=au p x- c* au q x:=by
 have:=kq (p:=r) (q:=dC p (aZ q c)) (fun i=>by rw[nk,cZ,h];grind) x;rw[jb,dY] at this;grind
theorem oZ{B r p q:List Rat}{c:Rat}(h:∀i,coP r i=coP p i- c* coP q i)(a b:Rat):inQ (aT B r) a b=inQ (aT B p) a b- c* inQ (aT B q) a b:=by
 have e:aq (aT B r)=aq (dC (aT B p) (aZ (aT B q) c)):=kp fun x=>by
  rw[fE,jb,dY,fE,fE,xH h];grind
 have h1:∀i,coP (aT B r) i=coP (aT B p) i- c* coP (aT B q) i:=fun i=>by
  rw[←cQ (aT B r),e,cQ,nk,cZ];grind
 have d:∀y,au (aJ (aT B r)) y=au (aJ (aT B p)) y- c* au (aJ (aT B q)) y:=fun y=>xH (fun i=>by
  rw[gO,gO,gO];split;grind;rw[h1,Rat.div_def,Rat.div_def,Rat.div_def];grind) y
 unfold inQ;rw[d,d];grind
theorem C7(B:List Rat)(a b:Rat):inQ (aT B []) a b=0:=by
 have:=oZ (B:=B) (r:=[]) (p:=[]) (q:=[]) (c:=1) (fun i=>by rw[show coP [] i=0 from rfl];grind) a b;grind
theorem pU{α:Type}{f g h:α→Rat}{c:Rat}(H:∀p,f p=g p- c* h p):∀k:List α,kO f k=kO g k- c* kO h k
 |[]=>by rw[kO,kO,kO];grind
 |p::k=>by rw[kO,kO,kO,H p,pU H k];grind
def SolE(k:Ke)(l a b:Rat)(g u:List Rat):Prop:=∀x,au u x=au g x+l* kO (fun p=>au p.1 x* inQ (aT p.2 u) a b) k
theorem SolE.comb{k:Ke}{l a b c:Rat}{g r p q:List Rat}(hp:SolE k l a b g p)(hq:SolE k l a b [] q)(h:∀i,coP r i=coP p i- c* coP q i):SolE k l a b g r:=fun x=>by
 have h1:=hp x;have d:=hq x;rw[dd] at d;have e:=pU (f:=fun p:List Rat×List Rat=>au p.1 x* inQ (aT p.2 r) a b) (g:=fun z=>au z.1 x* inQ (aT z.2 p) a b) (h:=fun z=>au z.1 x* inQ (aT z.2 q) a b) (c:=c) (fun z=>by rw[oZ h];grind) k;rw[xH h,e,h1,d];grind
theorem SolE.nil(k:Ke)(l a b:Rat):SolE k l a b [] []:=fun x=>by
 have d:=pU (f:=fun p:List Rat×List Rat=>au p.1 x* inQ (aT p.2 []) a b) (g:=fun _=>0) (h:=fun _=>0) (c:=1) (fun z=>by rw[C7];grind) k;rw[d,dd];grind
theorem SolE.ext{k:Ke}{l a b:Rat}{g p r:List Rat}(hp:SolE k l a b g p)(h:∀i,coP r i=coP p i):SolE k l a b g r:=
 hp.comb (c:=0) (SolE.nil k l a b) fun i=>by rw[h];grind
theorem SolE.add{k:Ke}{l a b c:Rat}{g p q:List Rat}(hp:SolE k l a b g p)(hq:SolE k l a b [] q):SolE k l a b g (fa p (aZ q c)):=
 hp.comb (c:= -c) hq fun i=>by rw[fJ,cZ];grind
theorem sQ_sh(f:Nat→Rat):∀n,sQ f (n+1)=f 0+sQ (fun i=>f (i+1)) n
 |0=>by rw[sQ,sQ,sQ];grind
 |n+1=>by rw[sQ,sQ_sh f n,sQ];grind
theorem oq{α:Type}(f:α→Rat)(d:α):∀k:List α,kO f k=sQ (fun j=>f (k.getD j d)) k.length
 |[]=>rfl
 |p::k=>by
  rw[kO,oq f d k,List.length_cons,sQ_sh];rfl
theorem yh{α:Type}(F:α→Rat)(d:α)(k:List α)(c:List Rat)(hc:c.length=k.length):kO (fun z=>F z.1* z.2) (k.zip c)=sQ (fun j=>F (k.getD j d) * coP c j) k.length:=by
 rw[oq _ (d,0),List.length_zip,hc,Nat.min_self];refine dx _ fun j b=>?_;have h1:k[j]?=some k[j]:=List.getElem?_eq_getElem b;have a:c[j]?=some c[j]:=List.getElem?_eq_getElem (by omega);unfold coP;have e:(k.zip c)[j]?=some (k[j],c[j]):=by rw[List.getElem?_zip_eq_some];exact⟨h1,a⟩
 rw[List.getD_eq_getElem?_getD,e,List.getD_eq_getElem?_getD,h1,List.getD_eq_getElem?_getD,a];rfl
theorem sR(k:Ke)(c:List Rat)(hc:c.length=k.length)(x:Rat):au (smK k c k.length) x=sQ (fun j=>au (k.getD j ([],[])).1 x* coP c j) k.length:=by
 have h:=vd x k c [] hc;rw[dd] at h;rw[←yh (fun p:List Rat×List Rat=>au p.1 x) ([],[]) k c hc];unfold smK;rw[List.take_length,h];grind
theorem yk(B:List Rat)(a b:Rat):∀(k:Ke) (c o:List Rat),c.length=k.length→inQ (aT B (rz k c o)) a b=inQ (aT B o) a b+kO (fun p=>inQ (aT B p.1.1) a b* p.2) (k.zip c)
 |[],[],o,_=>by rw[rz];show _=_+0;grind
 |p::k,[],_,h=>by cases h
 |[],z::c,_,h=>by cases h
 |p::k,z::c,o,h=>by
  have e:=oZ (B:=B) (r:=smF z o p) (p:=o) (q:=p.1) (c:= -z) (fun i=>by unfold smF;rw[fJ,cZ];grind) a b;rw[rz,List.tail_cons,fW,yk B a b k c _ (by simpa using h),e,List.zip_cons_cons,kO];grind
theorem CB(B:List Rat)(a b:Rat)(k:Ke)(c:List Rat)(hc:c.length=k.length):inQ (aT B (smK k c k.length)) a b=sQ (fun j=>inQ (aT B (k.getD j ([],[])).1) a b* coP c j) k.length:=by
 rw[←yh (fun p:List Rat×List Rat=>inQ (aT B p.1) a b) ([],[]) k c hc];unfold smK;rw[List.take_length,yk B a b k c [] hc,C7];grind
theorem Fz{A:Nat→Nat→Rat}{l c0:Rat}{r:Nat→Rat}{n i:Nat}{x:Nat→Rat}(hx:Sol c0 (svM A l r n) n x)(hi:i< n):x i=l* sQ (fun j=>A i j* x j) n+c0* r i:=by
 have h:=hx i hi;rw[show svM A l r n i n=r i from if_pos rfl,dx (g:=fun j=>(if j=i then x i else 0)- l* (A i j* x j)) n fun j a=>?_,wH,pY,if_pos hi] at h;grind;unfold svM;rw[if_neg (by omega)];by_cases e:j=i;subst e;rw[if_pos rfl,if_pos rfl];grind;rw[if_neg e,if_neg e];grind
theorem pH{n j:Nat}{x:Nat→Rat}(hj:j< n):coP (aS n x) j=x j:=by rw[z6,if_pos hj]
theorem Fm{k:Ke}{l a b:Rat}{r:Nat→Rat}{x:Nat→Rat}(hx:Sol 0 (svM (maK k a b) l r k.length) k.length x):SolE k l a b [] (smK k (aS k.length x) k.length):=fun t=>by
 rw[dd,sR k _ (by simp),oq _ ([],[]),dx (g:=fun j=>(au (k.getD j ([],[])).1 t* inQ (aT (k.getD j ([],[])).2 (smK k (aS k.length x) k.length)) a b) * l) k.length fun j c=>?_,AS];grind;rw[CB _ a b k _ (by simp),pH c,dx (g:=fun i=>maK k a b j i* x i) k.length fun i d=>by rw[pH d];rfl];have:=Fz hx c;generalize sQ (fun i=>maK k a b j i* x i) k.length=z at *
 rw[this];grind
theorem Fl{k:Ke}{l a b:Rat}{g:List Rat}{x:Nat→Rat}(hx:Sol 1 (svM (maK k a b) l (fun t=>coP (rhK k g a b) t) k.length) k.length x):SolE k l a b g (fa g (aZ (smK k (aS k.length x) k.length) l)):=fun t=>by
 have e:∀j,j< k.length→inQ (aT (k.getD j ([],[])).2 (fa g (aZ (smK k (aS k.length x) k.length) l))) a b=x j:=fun j d=>by
  rw[oZ (p:=g) (q:=smK k (aS k.length x) k.length) (c:= -l) (fun i=>by rw[fJ,cZ];grind),CB _ a b k _ (by simp),dx (g:=fun i=>maK k a b j i* x i) k.length fun i h=>by rw[pH h];rfl];have h1:=Fz hx d
  have f:coP (rhK k g a b) j=inQ (aT (k.getD j ([],[])).2 g) a b:=by
   unfold coP rhK;rw[List.getD_eq_getElem?_getD,List.getD_eq_getElem?_getD,List.getElem?_map,List.getElem?_eq_getElem d];rfl
  rw[f] at h1;generalize sQ (fun i=>maK k a b j i* x i) k.length=z at *
  rw[h1];grind
 rw[io,dY,sR k _ (by simp),oq _ ([],[]),dx (g:=fun j=>au (k.getD j ([],[])).1 t* inQ (aT (k.getD j ([],[])).2 (fa g (aZ (smK k (aS k.length x) k.length) l))) a b) k.length fun j d=>by rw[e j d,pH d]];grind
theorem Gf(k:Ke)(l:Rat)(g u:List Rat)(a b x:Rat):au (hoP k l g u a b) x=au g x+l* kO (fun p=>au p.1 x* inQ (aT p.2 u) a b) k:=by
 unfold hoP;rw[io,dY,sR k _ (by simp),oq _ ([],[]),dx (g:=fun j=>au (k.getD j ([],[])).1 x* inQ (aT (k.getD j ([],[])).2 u) a b) k.length fun j c=>?_];grind
 have d:coP (rhK k u a b) j=inQ (aT (k.getD j ([],[])).2 u) a b:=by
  unfold coP rhK;rw[List.getD_eq_getElem?_getD,List.getD_eq_getElem?_getD,List.getElem?_map,List.getElem?_eq_getElem c];rfl
 rw[d]
theorem y7{k:Ke}{l a b:Rat}{g u:List Rat}(h:SolE k l a b g u):CD (hoP k l g u a b) u=true:=
 decide_eq_true (kp fun x=>by rw[Gf];exact(h x).symm)
theorem mem_frL{L:List Nat}{n f:Nat}:f∈frL L n↔f< n∧f∉L:=by simp[frL]
theorem Dl(M:Mx)(n:Nat):∀c,(frL (slM M n c).2 c).length+(slM M n c).2.length=c
 |0=>rfl
 |c+1=>by
  have g:=Dl M n c;have d:=ei M n c
  have f:c∉ (slM M n c).2:=fun h=>by
   obtain⟨i,b⟩:=List.getElem?_of_mem h;have:=d.lt i c b;omega
  rw[slM];unfold slC;cases pvR (slM M n c).1 n (slM M n c).2.length c with
  |none=>
   show(frL (slM M n c).2 (c+1)).length+(slM M n c).2.length=c+1;rw[sf (by simpa using f),List.length_append,List.length_singleton];omega
  |some p=>
   show(frL ((slM M n c).2++[c]) (c+1)).length+((slM M n c).2++[c]).length=c+1
   have e:frL ((slM M n c).2++[c]) c=frL (slM M n c).2 c:=by
    unfold frL;refine List.filter_congr fun j a=>?_;have:=List.mem_range.1 a;simp;omega
   rw[xz (by simp),e,List.length_append,List.length_singleton];omega
theorem Hm{M:Mx}{n s:Nat}(h:bdM M n s):∀c,c≤n→bdM (slM M n c).1 n (slB s (slM M n c).2.length)
 |0,_=>h
 |c+1,hc=>by
  have b:=Hm h c (by omega);have a:=Hq b (ei M n c).len (show c< n by omega);rw[slM]
  revert a
  unfold slC;cases pvR (slM M n c).1 n (slM M n c).2.length c with
  |none=>exact fun _=>b
  |some p=>
   intro a;show bdM _ n (slB s ((slM M n c).2++[c]).length);rw[List.length_append,List.length_singleton,slB];exact a
theorem Da{p u:List Rat}{a b:Rat}{t:Nat}(hp:p.length≤4)(bp:bdL p 20)(hu:u.length≤5)(bu:bdL u t)(ht:1≤t)(ht2:t≤100000000)(qa:qs a≤20)(qb:qs b≤20):ef p u∧OkIn (aT p u) a b∧qs (inQ (aT p u) a b)≤80* t+2600:=by
 have m1:=CY bp bu (by omega) ht;have l1:=tE p u;have e1:p.length* (20+t+1)≤4* (20+t+1):=Nat.mul_le_mul_right _ hp;have m2:=bdL_mono' (b:=4* t+85) m1 (by omega);have i1:=y3 m2 (by omega) (by omega);have k:=jR (aT p u);have n:=mxL_le bp (by omega);have m:=mxL_le bu ht;have c1:p.length* (mxL p+mxL u+1)≤4* (20+t+1):=Nat.mul_le_mul hp (by omega)
 have ev:∀y:Rat,qs y≤20→e8 (aJ (aT p u)) y∧qs (au (aJ (aT p u)) y)≤40* t+1271:=fun y g=>by
  have h1:=pz g i1;have l:=mxL_le i1 (by omega);have j:(aJ (aT p u)).length* (4* t+85+21+20+1)≤10* (4* t+85+21+20+1):=Nat.mul_le_mul_right _ (by omega);have i:(aJ (aT p u)).length* (mxL (aJ (aT p u))+qs y+1)≤10* (4* t+127):=Nat.mul_le_mul (by omega) (by omega);exact⟨⟨by omega,by omega⟩,by omega⟩
 obtain⟨d,e⟩:=ev a qa;obtain⟨c,f⟩:=ev b qb;refine⟨⟨by omega,by omega,by omega,by omega⟩,⟨cW m2 (by omega),by omega,c,d,by omega⟩,?_⟩;have h:=tn (au (aJ (aT p u)) b) (au (aJ (aT p u)) a);unfold inQ;omega
theorem kQ{k:Ke}(hk:TmK k){c:List Rat}{C:Nat}(hc:∀i,qs (coP c i)≤C)(hC:C≤10000000000):(∀i,i≤k.length→bdL (smK k c i) (i* (C+22)+1)∧(smK k c i).length≤4)∧∀i p,k[i]?=some p→OkSm k c i p:=by
 have g:=hk.l
 have d:∀i,i≤k.length→bdL (smK k c i) (i* (C+22)+1)∧(smK k c i).length≤4:=fun i=>by
  induction i with
  |zero=>exact fun _=>⟨fun q o=>(by cases o),Nat.zero_le _⟩
  |succ i h=>
   intro f;obtain⟨b1,l1⟩:=h (by omega);obtain⟨p,hp⟩:∃p,k[i]?=some p:=⟨_,List.getElem?_eq_getElem f⟩;have a:=List.mem_of_getElem? hp;have s1:=gi (hk.b p a).1 (by omega) (hc i);have s2:=cy p.1 (coP c i);have j:=(hk.n p a).1;have m:=sw b1 s1 (by omega) (by omega);have r:=gR (smK k c i) (aZ p.1 (coP c i));rw[smK_s hp];unfold smF;exact⟨bdL_mono' m (by rw[Nat.succ_mul];omega),by omega⟩
 refine⟨d,fun i p hp=>?_⟩;have f:=(List.getElem?_eq_some_iff.1 hp).1;obtain⟨b1,l1⟩:=d i (by omega);have a:=List.mem_of_getElem? hp;have e:i* (C+22)≤3* (C+22):=Nat.mul_le_mul_right _ (by omega);have s1:=gi (hk.b p a).1 (by omega) (hc i);have s2:=cy p.1 (coP c i);have j:=(hk.n p a).1;exact⟨cW (hk.b p a).1 (by omega),by omega,Nat.le_trans (hc i) (by omega),cW b1 (by omega),by omega,cW s1 (by omega),by omega⟩
theorem Dd{k:Ke}{l a b:Rat}{g u:List Rat}{t:Nat}(hk:TmK k)(hke:qj k)(hg:g.length≤5)(bg:bdL g 20)(qL:qs l≤20)(qa:qs a≤20)(qb:qs b≤20)(ab:a≤b)(hu:u.length≤5)(bu:bdL u t)(ht:1≤t)(ht2:t≤100000000):OkHo k l g u a b:=by
 have f:=hk.l;have d:=fun p hp=>Da (a:=a) (b:=b) (hk.n p hp).2 (hk.b p hp).2 hu bu ht ht2 qa qb
 obtain⟨s1,s2⟩:=kQ hk (c:=rhK k u a b) (C:=80* t+2600) (fun i=>by
  by_cases h:i< k.length
  have e:coP (rhK k u a b) i=inQ (aT k[i].2 u) a b:=by
   unfold coP rhK;rw[List.getD_eq_getElem?_getD];simp[h]
  rw[e];exact(d _ (List.getElem_mem h)).2.2;rw[fH (by simp;omega)];exact Nat.le_trans (by decide:qs 0≤1) (by omega)) (by omega)
 obtain⟨m,q⟩:=s1 k.length (Nat.le_refl _);have e:k.length* (80* t+2600+22)≤3* (80* t+2600+22):=Nat.mul_le_mul_right _ f;have c1:=gi m (by omega) qL;have r:=cy (smK k (rhK k u a b) k.length) l;have o:=sw bg c1 (by omega) (by omega);have s:=gR g (aZ (smK k (rhK k u a b) k.length) l);have j:bv g≤20:=by have:=xR g (n:=4) (by omega);omega
 exact⟨hke,j,by omega,by unfold sm;omega,by unfold sm;omega,ab,fun p hp=>⟨(d p hp).1,(d p hp).2.1⟩,s2,cW m (by omega),by omega,by unfold sm;omega,cW c1 (by omega),cW bg (by omega),cW o (by omega),by omega,cW bu (by omega),by omega⟩
theorem ta_tame{k:Ke}{l a b:Rat}{g:List Rat}(hk:TmK k)(hke:qj k)(hg:g.length≤5)(bg:bdL g 20)(qL:qs l≤20)(qa:qs a≤20)(qb:qs b≤20)(ab:a≤b):OkTa k l g a b 4300:=by
 have f:=hk.l;have c:=fun p hp u (hu:u.length≤5) bu=>Da (u:=u) (t:=20) (a:=a) (b:=b) (hk.n p hp).2 (hk.b p hp).2 hu bu (by omega) (by omega) qa qb;have m:bv g≤20:=by have:=xR g (n:=4) (by omega);omega
 have e:∀i,i< k.length→k.getD i ([],[])∈k:=fun i d=>by
  rw[List.getD_eq_getElem?_getD,List.getElem?_eq_getElem d];exact List.getElem_mem d
 refine⟨hke,by unfold sm;omega,by unfold sm;omega,ab,m,by omega,⟨⟨by omega,fun p hp q r=>?_⟩,fun i j d o=>?_,?_⟩,fun p hp=>?_⟩;have h:=c p hp q.1 (by have:=(hk.n q r).1;omega) (hk.b q r).1;exact⟨h.1,h.2.1⟩;have h:=(c _ (e i d) (k.getD j ([],[])).1 (by have:=(hk.n _ (e j o)).1;omega) (hk.b _ (e j o)).1).2.2;unfold maK;omega;have:slB 4300 k.length≤slB 4300 3:=lD f;exact Nat.le_trans this (by decide);have h:=c p hp g hg bg;exact⟨h.1,h.2.1,by omega⟩
theorem ym{M M':Mx}{n:Nat}(h:∀i j,j< n→M i j=M' i j):∀c,c≤n→(slM M n c).2=(slM M' n c).2∧∀i j,j< n→(slM M n c).1 i j=(slM M' n c).1 i j
 |0,_=>⟨rfl,h⟩
 |c+1,hc=>by
  obtain⟨e1,e2⟩:=ym h c (by omega);rw[slM,slM];generalize slM M n c=A at *
  generalize slM M' n c=B at *
  have hp:pvR A.1 n A.2.length c=pvR B.1 n B.2.length c:=by
   unfold pvR;rw[e1];congr 1;funext p;rw[e2 p c (by omega)]
  unfold slC;rw[hp];cases pvR B.1 n B.2.length c with
  |none=>exact⟨e1,e2⟩
  |some p=>
   refine⟨by show A.2++[c]=B.2++[c];rw[e1],fun i j a=>?_⟩;show rdM (scM (swM A.1 A.2.length p) A.2.length (1/ A.1 p c)) A.2.length c i j=rdM (scM (swM B.1 B.2.length p) B.2.length (1/ B.1 p c)) B.2.length c i j
   have b:∀r i j,j< n→swM A.1 r p i j=swM B.1 r p i j:=fun r i j a=>by
    unfold swM;split;exact e2 _ _ a;split <;> exact e2 _ _ a
   have sc:∀r f i j,j< n→scM (swM A.1 r p) r f i j=scM (swM B.1 r p) r f i j:=fun r f i j a=>by
    unfold scM;split <;> rw[b _ _ _ a]
   rw[e1,e2 p c (by omega)];unfold rdM;split;exact sc _ _ _ _ a;rw[sc _ _ _ _ a,sc _ _ _ _ (show c< n by omega),sc _ _ _ _ a]
def bK(k:Ke)(l:Rat)(g:List Rat)(a b:Rat):List (List Rat):=ecL (zsK k (syM k l (rhK k g a b) a b))
theorem DP{A B:Mx}{L:List Nat}{f n:Nat}(h:∀i j,j< n→A i j=B i j)(hf:f< n):zerX A L f=zerX B L f:=funext fun j=>by
 unfold zerX;rw[h _ f hf]
theorem bK_same(k:Ke)(l:Rat)(g g':List Rat)(a b:Rat):bK k l g a b=bK k l g' a b:=by
 obtain⟨e1,e2⟩:=ym (M:=svM (maK k a b) l (fun t=>coP (rhK k g a b) t) k.length) (M':=svM (maK k a b) l (fun t=>coP (rhK k g' a b) t) k.length) (n:=k.length) (fun i j c=>by unfold svM;simp only[show¬j=k.length by omega,if_false]) k.length (Nat.le_refl _);unfold bK zsK syM;rw[e1,List.map_congr_left (l:=frL _ k.length) (f:=gV (slM (svM (maK k a b) l (fun t=>coP (rhK k g a b) t) k.length) k.length k.length).1 k.length (slM (svM (maK k a b) l (fun t=>coP (rhK k g' a b) t) k.length) k.length k.length).2) (g:=gV (slM (svM (maK k a b) l (fun t=>coP (rhK k g' a b) t) k.length) k.length k.length).1 k.length (slM (svM (maK k a b) l (fun t=>coP (rhK k g' a b) t) k.length) k.length k.length).2) fun f hf=>?_];unfold gV;rw[DP e2 (mem_frL.1 hf).1]
structure Fre (k:Ke)(l a b:Rat)(B:List (List Rat)):Prop where
 bas:Bas B
 sol:∀p∈B,SolE k l a b [] p
 bd:∀p∈B,bdL p 1400000∧p.length≤4
 len:B.length≤3
theorem Hr{k:Ke}{l a b:Rat}{g:List Rat}(h:OkTa k l g a b 4300):bdM (svM (maK k a b) l (fun t=>coP (rhK k g a b) t) k.length) k.length 4300:=h.sy.bd fun i c=>by
 have e:coP (rhK k g a b) i=inQ (aT k[i].2 g) a b:=by
  unfold coP rhK;rw[List.getD_eq_getElem?_getD];simp[c]
 rw[e];exact(h.rh _ (List.getElem_mem c)).2.2
theorem Fb{n C:Nat}{x:Nat→Rat}(h:∀j,j< n→qs (x j)≤C)(hC:1≤C)(i:Nat):qs (coP (aS n x) i)≤C:=by
 rw[z6];split;exact h i (by assumption);exact Nat.le_trans (by decide:qs 0≤1) hC
section
variable {k:Ke}{l a b:Rat}{g:List Rat}
theorem oo(h:OkTa k l g a b 4300)(hkl:k.length≤3):∃C r,(syM k l (rhK k g a b) a b).2.length=r∧(frL (syM k l (rhK k g a b) a b).2 k.length).length+r=k.length∧1≤C∧C≤300000∧
    (∀f∈frL (syM k l (rhK k g a b) a b).2 k.length,∀i,qs (coP (gV (syM k l (rhK k g a b) a b).1 k.length (syM k l (rhK k g a b) a b).2 f) i)≤C)∧(∀i,qs (coP (ly k l g a b) i)≤C)∧∀m,m+r≤3→ecB (3* (C+22)+1) m≤1400000∧rbB (3* (C+22)+50) (ecB (3* (C+22)+1) m) m≤10000000:=by
 have hb:=Hm (Hr h) k.length (Nat.le_refl _);have u:=ei (svM (maK k a b) l (fun t=>coP (rhK k g a b) t) k.length) k.length k.length;have d:=Dl (svM (maK k a b) l (fun t=>coP (rhK k g a b) t) k.length) k.length k.length;unfold ly;change∃C r,(slM (svM (maK k a b) l (fun t=>coP (rhK k g a b) t) k.length) k.length k.length).2.length=r∧_;unfold syM;generalize slM (svM (maK k a b) l (fun t=>coP (rhK k g a b) t) k.length) k.length k.length=A at *
 have p:∀j,j∈A.2→A.2.idxOf j< k.length:=fun j o=>by
  have h1:=List.idxOf_lt_length_of_mem o;have w:=u.len2;omega
 have q:1≤slB 4300 A.2.length:=Nat.le_trans (by decide) (lD (s:=4300) (Nat.zero_le _));refine⟨slB 4300 A.2.length+1,A.2.length,rfl,d,by omega,?_,fun f hf i=>?_,fun i=>?_,fun m c=>?_⟩;have:slB 4300 A.2.length≤slB 4300 3:=lD (by omega);have e:slB 4300 3=275242:=by decide
 omega;refine Fb (fun j o=>?_) (by omega) i;unfold zerX;split
 ·rename_i c
  rw[iN];exact Nat.le_trans (hb _ _ (p j (by simpa using c)) (by have:=(mem_frL.1 hf).1;omega)) (by omega)
 split;exact Nat.le_trans (by decide:qs 1≤1) (by omega);exact Nat.le_trans (by decide:qs 0≤1) (by omega);refine Fb (fun j o=>?_) (by omega) i;unfold oneX;split
 ·rename_i c
  exact Nat.le_trans (hb _ _ (p j (by simpa using c)) (Nat.le_refl _)) (by omega)
 exact Nat.le_trans (by decide:qs 0≤1) (by omega);generalize A.2.length=r at c;have v:r=0∨r=1∨r=2∨r=3:=by omega
 have n:m=0∨m=1∨m=2∨m=3:=by omega
 rcases v with rfl|rfl|rfl|rfl <;> rcases n with rfl|rfl|rfl|rfl <;> first|omega|decide
theorem vL(hk:TmK k)(h:OkTa k l g a b 4300):Fre k l a b (bK k l g a b):=by
 obtain⟨C,r,e1,e2,A,y,v,_,hs⟩:=oo h hk.l;have u:=ei (svM (maK k a b) l (fun t=>coP (rhK k g a b) t) k.length) k.length k.length;have j:=hk.l;have o:(zsK k (syM k l (rhK k g a b) a b)).length+r=k.length:=by rw[←e2];simp[zsK]
 have n:=pC (zsK k (syM k l (rhK k g a b) a b)) (zsK k (syM k l (rhK k g a b) a b)).length
 have m:∀p∈zsK k (syM k l (rhK k g a b) a b),bdL p (3* (C+22)+1)∧p.length≤4:=fun p hp=>by
  obtain⟨z,d,rfl⟩:=List.mem_map.1 hp;obtain⟨f,hf,rfl⟩:=List.mem_map.1 d;obtain⟨s1,s2⟩:=(kQ hk (v f hf) (by omega)).1 k.length (Nat.le_refl _);have e:k.length* (C+22)≤3* (C+22):=Nat.mul_le_mul_right _ j;exact⟨bdL_mono' s1 (by omega),s2⟩
 obtain⟨t1,t2⟩:=hs (zsK k (syM k l (rhK k g a b) a b)).length (by omega);have i:=xK (by omega) m (zsK k (syM k l (rhK k g a b) a b)).length;refine⟨pD _ _,Dx (Q:=SolE k l a b []) (fun p q c r hp x h=>hp.comb x h) (SolE.nil k l a b) _ (fun p hp=>?_) _,fun p hp=>⟨bdL_mono' (i p hp).1 t1,(i p hp).2⟩,by show(ecK _ _).length≤3;omega⟩;obtain⟨z,d,rfl⟩:=List.mem_map.1 hp;obtain⟨f,hf,rfl⟩:=List.mem_map.1 d;obtain⟨w,s⟩:=mem_frL.1 hf;exact Fm (r:=fun t=>coP (rhK k g a b) t) ((wA k.length).1 (u.zerX w s))
theorem GU(hk:TmK k)(h:OkTa k l g a b 4300):FS 124 [.arr (mE (zsK k (syM k l (rhK k g a b) a b)))] (.arr (mE (bK k l g a b))):=by
 obtain⟨C,r,e1,e2,n,m,j,_,hs⟩:=oo h hk.l;have c:=hk.l;have i:(zsK k (syM k l (rhK k g a b) a b)).length+r=k.length:=by rw[←e2];simp[zsK]
 refine BG _ (3* (C+22)+1) (by omega) (by omega) (fun p hp=>?_) (Nat.le_trans (hs _ (by omega)).1 (by decide));obtain⟨z,d,rfl⟩:=List.mem_map.1 hp;obtain⟨f,hf,rfl⟩:=List.mem_map.1 d;obtain⟨s1,s2⟩:=(kQ hk (j f hf) (by omega)).1 k.length (Nat.le_refl _);have e:k.length* (C+22)≤3* (C+22):=Nat.mul_le_mul_right _ c;exact⟨bdL_mono' s1 (by omega),by omega⟩
theorem fs_Free(hk:TmK k)(h:OkTa k l [] a b 4300):FS 20 [.arr (kE k),.agg (spC a b),.agg (qC l)] (.tup [.arr (mE (bK k l [] a b)),i64 0]):=by
 obtain⟨C,r,e1,e2,n,m,g,_,hs⟩:=oo h hk.l;have e:=hk.l;have j:=eR k l [] a b h.ke h.ha h.hb h.ab h.dg h.gl;have d:=kj k l [] a b 4300 h.sy h.rh;have hf:=zk k l [] a b (syM k l (rhK k [] a b) a b).1 (syM k l (rhK k [] a b) a b).2 (ei _ _ _) (by omega) (fun f hf=>(kQ hk (g f hf) (by omega)).2) _ (GU hk h);refine f_n Tryz.func20 ?_ ?_;exact ac (aV k) (ac (aA (a6 a b)) (ac (aP l) af));refine r_z 4 ?_;refine r_z 7 ?_;have i:∀c∈(.arr (kE k)::(qC l++[.emp]))++spC a b,Closed c:=ct (ac (aV k) (ct (a8 l) (ac cM af))) (a6 a b);refine AWp.ent (st':=⟨[(8,.aptr [(.arr (kE k)::(qC l++[.emp]))++spC a b] 0 0)],[],1,20⟩) ?_ ?_;exact s_f [];refine ae (r_c 2 (j) ?_);refine ao ?_;refine cF (am (ae (r_d aY 6 ?_)));refine c_s (d) ?_;refine c_s (hf) ?_;refine a_2 ?_;refine ao (n_k ?_);refine ai (Fin.many ⟨_,_,rfl,rfl,⟨_,_,rfl,rfl,rfl⟩⟩ (nle rfl) ?_);exact ah (ak aD (closed_mA _)) (ah (ak aD (ag _)) av)
end
section
variable {k:Ke}{l a b:Rat}{g:List Rat}
theorem Fj(hk:TmK k)(h:OkTa k l g a b 4300)(hg:g.length≤5)(bg:bdL g 20)(qL:qs l≤20):
    ∃(u:List Rat) (B:List (List Rat)) (e:Int),FS 19 [.agg (eqC k l g),.agg (spC a b)] (.tup [.arr (pE u),.arr (mE B),i64 e])∧u.length≤5∧bdL u 10000000∧(∀p∈bK k l g a b,coP u (dg p)=0)∧(e=12∨e=0∧B=bK k l g a b∧SolE k l a b g u):=by
 cases hN:lN k.length (syM k l (rhK k g a b) a b).1 (syM k l (rhK k g a b) a b).2 with
 |true=>exact⟨[],[],12,vI k l g a b 4300 h hN,Nat.zero_le _,fun q y=>(by cases y),fun _ _=>rfl,.inl rfl⟩
 |false=>
  obtain⟨C,r,e1,e2,S,N,D,h1,hs⟩:=oo h hk.l;have o:=vL hk h;have m:=hk.l;have M:=ei (svM (maK k a b) l (fun t=>coP (rhK k g a b) t) k.length) k.length k.length;have F:(zsK k (syM k l (rhK k g a b) a b)).length+r=k.length:=by rw[←e2];simp[zsK]
  have i:=pC (zsK k (syM k l (rhK k g a b) a b)) (zsK k (syM k l (rhK k g a b) a b)).length
  have v:∀p∈zsK k (syM k l (rhK k g a b) a b),bdL p (3* (C+22)+1)∧p.length≤4:=fun p hp=>by
   obtain⟨z,x,rfl⟩:=List.mem_map.1 hp;obtain⟨f,hf,rfl⟩:=List.mem_map.1 x;obtain⟨s1,s2⟩:=(kQ hk (D f hf) (by omega)).1 k.length (Nat.le_refl _);have e:k.length* (C+22)≤3* (C+22):=Nat.mul_le_mul_right _ m;exact⟨bdL_mono' s1 (by omega),s2⟩
  have w:=xK (by omega) v (zsK k (syM k l (rhK k g a b) a b)).length;obtain⟨t1,t2⟩:=hs (zsK k (syM k l (rhK k g a b) a b)).length (by omega);obtain⟨s1,s2⟩:=kQ hk h1 (by omega);obtain⟨A,T⟩:=s1 k.length (Nat.le_refl _);have e:k.length* (C+22)≤3* (C+22):=Nat.mul_le_mul_right _ m;have c1:=gi A (by omega) qL;have U:=cy (smK k (ly k l g a b) k.length) l;have K:=sw bg c1 (by omega) (by omega);have R:=gR g (aZ (smK k (ly k l g a b) k.length) l);have s:OkSu k l g a b:=⟨s2,cW A (by omega),by omega,by unfold sm;omega,cW bg (by omega),cW c1 (by omega),by omega⟩;have E:bdL (syU k l g a b) (3* (C+22)+50):=bdL_mono' K (by omega);have ul:(syU k l g a b).length≤5:=by show(fa _ _).length≤5;omega
  have d:∀p∈bK k l g a b,Piv p:=o.bas.piv;have n:∀p∈bK k l g a b,bdL p (ecB (3* (C+22)+1) (zsK k (syM k l (rhK k g a b) a b)).length):=fun p hp=>(w p hp).1;have j:=xL (3* (C+22)+1) (zsK k (syM k l (rhK k g a b) a b)).length;have G:=tK d E (by omega) n j i (by omega) (by omega) (fun p hp=>by have:=(o.bd p hp).2;omega) (by omega);obtain⟨L,O⟩:=tk d E (by omega) n j i;refine⟨_,_,0,Ez k l g a b 4300 h s hN (fun f hf=>(kQ hk (D f hf) (by omega)).2) _ (GU hk h) G,by omega,bdL_mono' L t2,fun p hp=>?_,.inr ⟨rfl,rfl,?_⟩⟩;rw[p9,cQ];exact wS _ _ _ rfl d o.bas.up p hp;have J:=Fl ((wA k.length).1 (M.oneX (yQ hN)));rw[p9];exact(wU (Q:=SolE k l a b g) (H:=SolE k l a b []) (fun p q c r hp y h=>hp.comb y h) _ _ _ rfl (fun p hp=>⟨d p hp,o.sol p hp⟩) J).ext (cQ _)
end
abbrev bEq(k:Ke)(l:Rat)(g:List Rat):AV:= .aptr [eqC k l g] 0 0
theorem ec(k:Ke)(l:Rat)(g:List Rat):Closed (bEq k l g):=a7 (cL k l g)
end Go.Proofs.YtkhclghbcicapaaGreatDoor
