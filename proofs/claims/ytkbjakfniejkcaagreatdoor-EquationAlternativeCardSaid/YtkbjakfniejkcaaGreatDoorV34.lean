/- Part V34 of the proof. -/
import Derived.Test.YtkbjakfniejkcaaGreatDoorV33
set_option linter.all false
namespace Go.Proofs.YtkbjakfniejkcaaGreatDoor
open Go.Abs
set_option maxRecDepth 20000
set_option maxHeartbeats 4000000
section
variable {B:Lw}{f:Lq->Lq}{i:Nat}
theorem rd_ok{p:Lq}{s t k:Nat}(hB:∀b∈B,Piv b)(hp:bdL p s)(hs:1<=s)(hbt:∀b∈B,bdL b t)(ht:1<=t)(hk:B.length<=k)(h:rbB s t k<=100000000000)(hpl:p.length<=1000)(hbl:∀b∈B,b.length<=1000)(hk2:k<=1000):(∀i,i< B.length->OkRd (rbK p B i) (B.getD (B.length- 1- i) []))/\(rbK p B B.length).length<=1099511627776:=by
 refine⟨fun i l=>?_,Nat.le_trans (yJ hB hp hs hbt ht B.length (Nat.le_refl _)).2 (by omega)⟩;obtain⟨c,f⟩:=yJ hB hp hs hbt ht i (by omega);have a:=nW (B:=B) (i:=B.length- 1- i) (by omega);generalize B.getD (B.length- 1- i) []=b at a⊢;have j:2* rbB s t i+t+1<=100000000000:=Nat.le_trans (AH s t (show i+1<=k by omega)) h;have g:=yK s t i;have hb:=hB b a;have d:=eM c (by omega) (bO b).toNat;have e:=hbl b a;refine⟨by rw[hb.deg];omega,by omega,by omega,dG (hbt b a) (by omega),Nat.le_trans d (by omega),dG (lb (hbt b a) ht d) (by omega),dG c (by omega)⟩
theorem vm{p:Lq}{s t k:Nat}(hB:∀b∈B,Piv b)(hp:bdL p s)(hs:1<=s)(hbt:∀b∈B,bdL b t)(ht:1<=t)(hk:B.length<=k)(h:rbB s t k<=100000000000)(hpl:p.length<=1000)(hbl:∀b∈B,b.length<=1000)(hk2:k<=1000):FS 55 [.arr (pE p),.arr (mE B)] (.arr (pE (reP p B))):=by
 obtain⟨a,c⟩:=rd_ok hB hp hs hbt ht hk h hpl hbl hk2;exact xz p B (by omega) a c
theorem mE_eq(B:Lw):mE B=(B.map fun b=>AV.arr (pE b)).map fun z=>[z]:=by simp[mE]
def mpI(f:Lq->Lq)(B:Lw)(i:Nat):Lw:=(B.take i).map f++B.drop i
@[simp] theorem mpI_length (f:Lq->Lq)(B:Lw)(i:Nat):(mpI f B i).length=B.length:=by simp[mpI];omega
theorem mpI_0(f:Lq->Lq)(B:Lw):mpI f B 0=B:=by simp[mpI]
theorem mpI_n(h:B.length<=i):mpI f B i=B.map f:=by simp[mpI,List.take_of_length_le h,List.drop_eq_nil_of_le h]
theorem mpI_get{b:Lq}(h:B[i]?=some b):(mpI f B i)[i]?=some b:=by
 have a:=(List.getElem?_eq_some_iff.1 h).1;unfold mpI;rw[List.getElem?_append_right (by simp;omega),List.getElem?_drop];simp;rw[show i+(i- min i B.length)=i by omega];exact h
theorem mpI_s{b:Lq}(h:B[i]?=some b):(mpI f B i).set i (f b)=mpI f B (i+1):=by
 have a:=(List.getElem?_eq_some_iff.1 h).1;unfold mpI;rw[List.set_append_right _ _ (by simp;omega),List.length_map,List.length_take,Nat.min_eq_left (by omega),Nat.sub_self,List.take_add_one,h,List.drop_eq_getElem_cons a,List.set_cons_zero];simp
def ehS(l:Lw)(k:Nat):Nat->Lw->AState
 |0,_=>⟨[(3,.emp),(7,.arr (mE l)),(8,i64 l.length),(9,i64 k)],[],1,49⟩
 |n+1,out=>⟨[(3,.lsl 1 0 (n+1) none 1),(7,.arr (mE l)),(8,i64 l.length),(9,i64 k)],[(1,some ⟨38,1,mE out⟩)],2,49⟩
theorem FH(l:Lw)(k:Nat)(out:Lw):ehS l k 0 out=⟨[(3,.emp),(7,.arr (mE l)),(8,i64 l.length),(9,i64 k)],[],1,49⟩:=rfl
theorem BP(l:Lw)(k n:Nat)(out:Lw):ehS l k (n+1) out=⟨[(3,.lsl 1 0 (n+1) none 1),(7,.arr (mE l)),(8,i64 l.length),(9,i64 k)],[(1,some ⟨38,1,mE out⟩)],2,49⟩:=rfl
def ejqS(l:Lw)(k n:Nat)(q:Lq)(f:Lq->Lq)(out:Lw):Nat->AState
 |i=>⟨[(3,.lsl 1 0 (n+1) none 1),(5,.arr (pE q)),(7,.arr (mE l)),(8,i64 l.length),(9,i64 k),(26,i64 ((n+1:Nat):Int)),(27,i64 i)],[(1,some ⟨38,1,mE (mpI f out i)⟩)],2,49⟩
theorem DL(l:Lw)(s:Nat)(hs:1<=s)(hl12:l.length<=12)(hl:∀p∈l,bdL p s/\p.length<=1000)(hE:ecB s l.length<=50000000000):FS 95 [.arr (mE l)] (.arr (mE (ecL l))):=by
 have hml:(mE l).length=l.length:=by simp[mE]
 refine f_c Tryz.func95 ?_;refine r_z 1 ?_;refine r_z 1 ?_;refine ae (r_z 3 ?_);refine aF (fun _:Unit=>⟨[(3,.arr (mE (ecL l)))],[],1,49⟩) (fun _=>True) ?_ ?_;refine aj (aC (fun k=>ehS l k (ecK l k).length (ecK l k)) (fun k=>l.length- k) (fun k=>k<=l.length) 0 (Nat.zero_le _) ?_ ?_);show SEnt _ (ehS l 0 0 []);rw[FH];have:=closed_mA l;exact s_f [];intro k hk;have hB:=mV l k;have r:=zL hs hl k;have y:=rc l k;have j:=zN s k;by_cases hlt:k< l.length;obtain⟨p,hp⟩:∃p,l[k]?=some p:=⟨_,List.getElem?_eq_getElem hlt⟩;have hpd:l.getD k []=p:=by rw[List.getD_eq_getElem?_getD,hp];rfl
 obtain⟨T,hp2⟩:=hl p (List.mem_of_getElem? hp);have D:(mE l)[((k:Nat):Int).toNat]?=some [.arr (pE p)]:=gR hp _ (by simp);have a:ecK l (k+1)=ecT (ecK l k) p:=by rw[ecK,hpd]
 have hEk:2* ecB s k+2* rbB s (ecB s k) k+2<=50000000000:=Nat.le_trans (Jx s (show k+1<=l.length by omega)) hE;obtain⟨F,G⟩:=rd_ok hB.piv T hs (fun b hb=>(r b hb).1) j y (by omega) hp2 (fun b hb=>(r b hb).2) (by omega);obtain⟨q1,q2⟩:=uS hB.piv T hs (fun b hb=>(r b hb).1) j y;have hu1:=yK s (ecB s k) k;have w:¬bO (reP p (ecK l k))< 0->Piv (ecP (reP p (ecK l k))):=fun v=>(qZ (Classical.byContradiction fun e=>v (degP_nil.2 e))).1;obtain⟨e1,e2⟩:=Jw q1 (by omega);generalize hu:rbB s (ecB s k) k=u at *
 generalize hO:ecK l k=O at *
 obtain⟨q,hq⟩:∃q,q=reP p O:=⟨_,rfl⟩;have hR:=xz p O (by omega) F G;have V:=fun b1 c=>Dw p O b1 (some ⟨b1,0,none⟩) (O.map fun b=>AV.arr (pE b)).length c (by omega) F G;rw[<-hq] at hR V q1 q2 e1 e2 w;have X:=db q (by omega);have Q:=qS q (by omega);have hI:FS 25 [i64 1] (.agg (qC 1)):=dU 1 (by decide);have hlq:=y6 q1 (by omega);have h11:qs 1<=1:=by decide
 have hqsd:=ik 1 (aM q);have K:=fK q (1/ aM q) (dG q1 (by omega)) (show qs _<=_ by omega) (by omega);rw[show ba q (1/ aM q)=ecP q from rfl] at K;have t:¬bO q< 0->FS 77 [.agg (qC 1),.agg (qC (aM q))] (.agg (qC (1/ aM q))):=fun v=>lF 1 (aM q) (dd (Classical.byContradiction fun e=>v (degP_neg.2 (Classical.byContradiction fun e'=>e e')))) (by omega);have n:ecT O p=if bO q< 0 then O else kf (O.map (fun o=>reP o [ecP q])++[ecP q]) O.length:=by rw[hq];rfl
 rcases hm:O.length with _|m
 have J:O=[]:=List.eq_nil_of_length_eq_zero hm;subst J;rw[FH];refine q_z 1 ?_;refine ae (cT (am (ae (aj (s_r 3 ?_)))));refine i_x D ?_;refine l_1 D ?_;refine a_z ?_;refine ae (r_c 4 (hR) ?_);refine a_z ?_;by_cases v:bO q< 0;refine r_c 3 (X) ?_;refine d_z ?_;refine cT (ax (r_m 2 ?_));refine a_z ?_;refine⟨k+1,by omega,by omega,?_⟩;rw[a,n,if_pos v];show SEnt _ (ehS l (k+1) 0 []);rw[FH];have:=closed_mA l;exact s_f [];have t:=t v;have d:=FE [ecP q] 1 rfl (by omega) (by omega) (fun x Y=>by rw[List.mem_singleton.1 Y];omega);refine r_c 3 (X) ?_;refine d_z ?_;refine cF (am (r_c 7 (hI) ?_));refine c_s (Q) ?_;refine c_s (t) ?_;refine c_s (K) ?_;refine a_z ?_;refine ae (r_z 3 ?_);refine aF (fun _:Unit=>⟨[(3,.emp),(5,.arr (pE (ecP q))),(7,.arr (mE l)),(8,i64 l.length),(9,i64 k)],[],1,49⟩) (fun _=>True) ?_ ?_;refine aj (aC (fun _:Unit=>⟨[(3,.emp),(5,.arr (pE (ecP q))),(7,.arr (mE l)),(8,i64 l.length),(9,i64 k),(26,i64 0),(27,i64 0)],[],1,49⟩) (fun _=>0) (fun _=>True) () trivial ?_ ?_);exact s_x [] (fun hs=>JB) (fun hs=>e_63);rintro _ _;refine q_z 1 ?_;refine ae (cF (ax ⟨(),trivial,?_⟩));exact s_x [] (fun hs=>JB) (fun hs=>e_63);rintro _ _;refine r_z 5 ?_;refine AWp.ent (st':=⟨[(3,.lsl 1 0 1 none 1),(7,.arr (mE l)),(8,i64 l.length),(9,i64 k)],[(1,some ⟨38,1,mE [ecP q]⟩)],2,49⟩) ?_ ?_;have:=closed_mA l;have:=cm [ecP q];exact s_f [(1,3)];refine r_m 2 ?_;refine a_1 ?_;refine o_1 (.callE2 rfl rfl rfl rfl rfl rfl (d)) ?_;refine aq ?_;refine r_m 2 ?_;refine a_z ?_;refine⟨k+1,by omega,by omega,?_⟩
 rw[a,n,if_neg v];show SEnt _ (ehS l (k+1) (0+1) (kf ([ecP q]) 0));rw[BP];have:=closed_mA l;exact s_f [(1,3)];have hmO:(mE O).length=m+1:=by simp[mE,hm]
 have hfull:List.take (m+1) (List.drop 0 (mE O))=mE O:=by rw[List.drop_zero,List.take_of_length_le (by omega)]
 have hone:=y4 O;rw[BP];refine q_z 1 ?_;refine ae (cT (am (ae (aj (s_r 3 ?_)))));refine i_x D ?_;refine l_1 D ?_;refine a_z ?_;refine ae (s_r 4 ?_);refine a_2 ?_;refine o_0 (.callL (L:=O.map fun b=>AV.arr (pE b)) rfl rfl rfl rfl rfl rfl (mE_eq O) (by rw[List.length_map,hm]) (fun z hz=>by obtain⟨b,_,rfl⟩:=List.mem_map.1 hz;exact aB b) V) ?_;refine a_z ?_;by_cases v:bO q< 0;refine r_c 3 (X) ?_;refine d_z ?_;refine cT (ax (r_m 2 ?_));refine a_z ?_;refine⟨k+1,by omega,by omega,?_⟩;rw[a,n,if_pos v,hm,BP];have:=closed_mA l;exact s_f [(1,3)];have t:=t v;have U:=w v;refine r_c 3 (X) ?_;refine d_z ?_;refine cF (am (r_c 7 (hI) ?_));refine c_s (Q) ?_;refine c_s (t) ?_;refine c_s (K) ?_;refine a_z ?_;refine ae (r_z 3 ?_);obtain⟨f,hf⟩:∃f,f=fun o=>reP o [ecP q]:=⟨_,rfl⟩;refine aF (fun _:Unit=>⟨[(3,.lsl 1 0 (m+1) none 1),(5,.arr (pE (ecP q))),(7,.arr (mE l)),(8,i64 l.length),(9,i64 k)],[(1,some ⟨38,1,mE (O.map f)⟩)],2,49⟩) (fun _=>True) ?_ ?_;refine aj (aC (ejqS l k m (ecP q) f O) (fun i=>m+1- i) (fun i=>i<=m+1) 0 (Nat.zero_le _) ?_ ?_);rw[ejqS.eq_1,mpI_0];exact s_x [(1,3)] (fun hs=>JB) (fun hs=>e_64);intro i hi;rw[ejqS.eq_1];have hll:(mE (mpI f O i)).length=m+1:=by simp[mE,hm]
 by_cases hil:i< m+1;obtain⟨o,R⟩:∃o,O[i]?=some o:=⟨_,List.getElem?_eq_getElem (by omega)⟩;have M:(mE (mpI f O i))[0+((i:Nat):Int).toNat]?=some [.arr (pE o)]:=gR (mpI_get R) _ (by simp);obtain⟨H,N⟩:=r o (List.mem_of_getElem? R)
 have hRo:FS 55 [.arr (pE o),.arr [[.arr (pE (ecP q))]]] (.arr (pE (f o))):=by
  rw[hf];exact vm (B:=[ecP q]) (k:=1) (fun c C=>by rw[List.mem_singleton.1 C];exact U) H j (fun c C=>by rw[List.mem_singleton.1 C];exact e1) (by omega) (Nat.le_refl _) (by rw[rbB,rbB];omega) N (fun c C=>by rw[List.mem_singleton.1 C];omega) (by omega)
 have S:(mE (mpI f O i)).set (0+((i:Nat):Int).toNat) [.arr (pE (f o))]=mE (mpI f O (i+1)):=by rw[Di,show 0+((i:Nat):Int).toNat=i by simp,mpI_s R]
 refine q_z 1 ?_;refine ae (cT (am (ae (aj (r_z 2 ?_)))));refine r_m 11 ?_;refine a_5 ?_
 first|refine aY (.load_l1 rfl rfl M TG.h rfl) rfl rfl ?_|refine aY (.load_a1 rfl M TG.h rfl) rfl rfl ?_
 refine a_2 ?_;refine o_1 (.callS1 rfl rfl rfl (.keep (.shut rfl d_n (.nil))) rfl (hRo)) ?_;refine a_1 ?_;refine eF (.store rfl rfl M rfl rfl rfl TS.h (nle rfl)) ?_;refine aq ?_;refine r_m 2 ?_;refine a_z ?_;refine⟨i+1,by omega,by omega,?_⟩;rw[ejqS.eq_1];refine s_x [(1,3)] (fun hs=>JB) (fun hs=>?_)
 ·repeat' (first|exact aE|refine h_c ?_ ?_|exact aI hs S (cm _)|exact bZ|refine aD ?_|exact av|refine ah ?_ ?_|exact an hs (closed_mA l)|exact an hs (aB _)|exact aX)
 have he:i=m+1:=by omega
 refine q_z 1 ?_;refine ae (cF (ax ⟨(),trivial,?_⟩));rw[mpI_n (by omega)];exact s_x [(1,3)] (fun hs=>JB) (fun hs=>e_64);rintro _ _;have Z:=y4 (O.map f);have hln2:(mE (O.map f)).length=m+1:=by simp[mE,hm]
 have d:=FE (O.map f++[ecP q]) (m+1+1) (by simp[hm]) (by omega) (by omega) (fun x Y=>by
  rcases List.mem_append.1 Y with g|g
  obtain⟨o,R,rfl⟩:=List.mem_map.1 g;obtain⟨H,N⟩:=r o R;have:=(uS (B:=[ecP q]) (k:=1) (fun c C=>by rw[List.mem_singleton.1 C];exact U) H j (fun c C=>by rw[List.mem_singleton.1 C];exact e1) (by omega) (Nat.le_refl _)).2;rw[hf];show(reP o [ecP q]).length<=_;omega;rw[List.mem_singleton.1 g];omega)
 refine r_z 5 ?_;refine AWp.ent (st':=⟨[(3,.lsl 1 0 (m+1+1) none 1),(7,.arr (mE l)),(8,i64 l.length),(9,i64 k)],[(1,some ⟨38,1,mE (O.map f++[ecP q])⟩)],2,49⟩) ?_ ?_;refine s_x [(1,3)] (fun hs=>?_) (fun hs=>?_)
 ·repeat' (first|exact aP|refine ay rfl ?_ ?_|exact an hs (closed_mA l)|exact aX)
 ·repeat' (first|exact aE|refine h_c ?_ ?_|exact aI hs (by rw[xk];rfl) (cm _)|exact bZ|refine aD ?_|exact av|refine ah ?_ ?_|exact an hs (closed_mA l)|exact aX)
 refine r_m 2 ?_;refine a_1 ?_;refine o_1 (.callE2 rfl rfl rfl rfl rfl rfl (d)) ?_;refine aq ?_;refine r_m 2 ?_;refine a_z ?_;refine⟨k+1,by omega,by omega,?_⟩;rw[a,n,if_neg v,hm,ly,show(O.map (fun o=>reP o [ecP q])++[ecP q]).length=m+1+1 by simp[hm],BP,<-hf];have:=closed_mA l;exact s_f [(1,3)];have hge:k=l.length:=by omega
 have W:ecK l k=ecL l:=by rw[hge];rfl
 rw[W] at r y hB⊢;rcases hm:(ecL l).length with _|m
 have J:ecL l=[]:=List.eq_nil_of_length_eq_zero hm;rw[J,FH];refine q_z 1 ?_;refine ae (cF (ax ⟨(),trivial,?_⟩));exact s_e [];have hlen2:(mE (ecL l)).length=m+1:=by simp[mE,hm]
 have E:0+(m+1)<=(mE (ecL l)).length:=by omega
 have A:List.take (m+1) (List.drop 0 (mE (ecL l)))=mE (ecL l):=by rw[List.drop_zero];exact List.take_of_length_le (by omega)
 rw[BP];refine q_z 1 ?_;refine ae (cF (ax ⟨(),trivial,?_⟩));refine s_x [] (fun hs=>?_) (fun hs=>?_)
 ·repeat' (first|exact aP|refine ay rfl ?_ ?_|exact Cv.shut hs rfl (aT rfl) E (aI hs A (cm _))|exact aX)
 ·repeat' (first|exact aE|refine h_c ?_ ?_|exact bZ|refine aD ?_|exact av|refine ah ?_ ?_|exact Cv.shut hs rfl (aT rfl) E (aI hs A (cm _))|exact aX)
 rintro _ _;refine r_z 2 ?_;exact ai (t_e (closed_mA _))
end
section
variable {r p q g:Lq}{c l a b:Rat}{k:Ke}{n:Nat}{x:Nat->Rat}
theorem zG(h:∀i,coP r i=coP p i- c* coP q i)(x:Rat):ak r x=ak p x- c* ak q x:=by
 have:=dZ (p:=r) (q:=eg p (ba q c)) (fun i=>by rw[ff,cy,h];grind) x;rw[dp,bG] at this;grind
theorem fm{B:Lq}(h:∀i,coP r i=coP p i- c* coP q i)(a b:Rat):inQ (aK B r) a b=inQ (aK B p) a b- c* inQ (aK B q) a b:=by
 have f:ao (aK B r)=ao (eg (aK B p) (ba (aK B q) c)):=iw fun x=>by
  rw[a6,dp,bG,a6,a6,zG h];grind
 have e:∀i,coP (aK B r) i=coP (aK B p) i- c* coP (aK B q) i:=fun i=>by
  rw[<-bv (aK B r),f,bv,ff,cy];grind
 have d:∀y,ak (aH (aK B r)) y=ak (aH (aK B p)) y- c* ak (aH (aK B q)) y:=fun y=>zG (fun i=>by
  rw[fg,fg,fg];split;grind;rw[e,Rat.div_def,Rat.div_def,Rat.div_def];grind) y
 unfold inQ;rw[d,d];grind
theorem tP(B:Lq)(a b:Rat):inQ (aK B []) a b=0:=by
 have:=fm (B:=B) (r:=[]) (p:=[]) (q:=[]) (c:=1) (fun i=>by rw[show coP [] i=0 from rfl];grind) a b;grind
theorem oj{α:Type}{f g h:α->Rat}{c:Rat}(H:∀p,f p=g p- c* h p):∀k:List α,jG f k=jG g k- c* jG h k
 |[]=>by rw[jG,jG,jG];grind
 |p::k=>by rw[jG,jG,jG,H p,oj H k];grind
def SolE(k:Ke)(l a b:Rat)(g u:Lq):Prop:=∀x,ak u x=ak g x+l* jG (fun p=>ak p.1 x* inQ (aK p.2 u) a b) k
theorem SolE.comb(hp:SolE k l a b g p)(hq:SolE k l a b [] q)(h:∀i,coP r i=coP p i- c* coP q i):SolE k l a b g r:=fun x=>by
 have e:=hp x;have d:=hq x;rw[aV] at d;have j:=oj (f:=fun p:Lq×Lq=>ak p.1 x* inQ (aK p.2 r) a b) (g:=fun z=>ak z.1 x* inQ (aK z.2 p) a b) (h:=fun z=>ak z.1 x* inQ (aK z.2 q) a b) (c:=c) (fun z=>by rw[fm h];grind) k;rw[zG h,j,e,d];grind
theorem SolE.nil(k:Ke)(l a b:Rat):SolE k l a b [] []:=fun x=>by
 have d:=oj (f:=fun p:Lq×Lq=>ak p.1 x* inQ (aK p.2 []) a b) (g:=fun _=>0) (h:=fun _=>0) (c:=1) (fun z=>by rw[tP];grind) k;rw[d,aV];grind
theorem SolE.ext(hp:SolE k l a b g p)(h:∀i,coP r i=coP p i):SolE k l a b g r:=
 hp.comb (c:=0) (SolE.nil k l a b) fun i=>by rw[h];grind
theorem sQ_sh(f:Nat->Rat):∀n,sQ f (n+1)=f 0+sQ (fun i=>f (i+1)) n
 |0=>by rw[sQ,sQ,sQ];grind
 |n+1=>by rw[sQ,sQ_sh f n,sQ];grind
theorem l7{α:Type}(f:α->Rat)(d:α):∀k:List α,jG f k=sQ (fun j=>f (k.getD j d)) k.length
 |[]=>rfl
 |p::k=>by
  rw[jG,l7 f d k,List.length_cons,sQ_sh];rfl
theorem pR{α:Type}(F:α->Rat)(d:α)(k:List α)(c:Lq)(hc:c.length=k.length):jG (fun z=>F z.1* z.2) (k.zip c)=sQ (fun j=>F (k.getD j d) * coP c j) k.length:=by
 rw[l7 _ (d,0),List.length_zip,hc,Nat.min_self];refine bF _ fun j e=>?_;have b:k[j]?=some k[j]:=List.getElem?_eq_getElem e;have a:c[j]?=some c[j]:=List.getElem?_eq_getElem (by omega);unfold coP;have f:(k.zip c)[j]?=some (k[j],c[j]):=by rw[List.getElem?_zip_eq_some];exact⟨b,a⟩
 rw[List.getD_eq_getElem?_getD,f,List.getD_eq_getElem?_getD,b,List.getD_eq_getElem?_getD,a];rfl
theorem pS(k:Ke)(c:Lq)(hc:c.length=k.length)(x:Rat):ak (smK k c k.length) x=sQ (fun j=>ak (k.getD j ([],[])).1 x* coP c j) k.length:=by
 have h:=w4 x k c [] hc;rw[aV] at h;rw[<-pR (fun p:Lq×Lq=>ak p.1 x) ([],[]) k c hc];unfold smK;rw[List.take_length,h];grind
theorem Av(B:Lq)(a b:Rat):∀(k:Ke) (c o:Lq),c.length=k.length->inQ (aK B (ma k c o)) a b=inQ (aK B o) a b+jG (fun p=>inQ (aK B p.1.1) a b* p.2) (k.zip c)
 |[],[],o,_=>by rw[ma];show _=_+0;grind
 |p::k,[],_,h=>by cases h
 |[],z::c,_,h=>by cases h
 |p::k,z::c,o,h=>by
  have e:=fm (B:=B) (r:=smF z o p) (p:=o) (q:=p.1) (c:= -z) (fun i=>by unfold smF;rw[iB,cy];grind) a b;rw[ma,List.tail_cons,dA,Av B a b k c _ (by simpa using h),e,List.zip_cons_cons,jG];grind
theorem oo(B:Lq)(a b:Rat)(k:Ke)(c:Lq)(hc:c.length=k.length):inQ (aK B (smK k c k.length)) a b=sQ (fun j=>inQ (aK B (k.getD j ([],[])).1) a b* coP c j) k.length:=by
 rw[<-pR (fun p:Lq×Lq=>inQ (aK B p.1) a b) ([],[]) k c hc];unfold smK;rw[List.take_length,Av B a b k c [] hc,tP];grind
theorem CX{A:Nat->Nat->Rat}{c0:Rat}{r:Nat->Rat}{i:Nat}(hx:Sol c0 (svM A l r n) n x)(hi:i< n):x i=l* sQ (fun j=>A i j* x j) n+c0* r i:=by
 have h:=hx i hi;rw[show svM A l r n i n=r i from if_pos rfl,bF (g:=fun j=>(if j=i then x i else 0)- l* (A i j* x j)) n fun j a=>?_,ie,ju,if_pos hi] at h;grind;unfold svM;rw[if_neg (by omega)];by_cases e:j=i;subst e;rw[if_pos rfl,if_pos rfl];grind;rw[if_neg e,if_neg e];grind
theorem cS{j:Nat}(hj:j< n):coP (aN n x) j=x j:=by rw[BY,if_pos hj]
theorem uD{r:Nat->Rat}(hx:Sol 0 (svM (maK k a b) l r k.length) k.length x):SolE k l a b [] (smK k (aN k.length x) k.length):=fun t=>by
 rw[aV,pS k _ (by simp),l7 _ ([],[]),bF (g:=fun j=>(ak (k.getD j ([],[])).1 t* inQ (aK (k.getD j ([],[])).2 (smK k (aN k.length x) k.length)) a b) * l) k.length fun j c=>?_,ny];grind;rw[oo _ a b k _ (by simp),cS c,bF (g:=fun i=>maK k a b j i* x i) k.length fun i d=>by rw[cS d];rfl];have:=CX hx c;generalize sQ (fun i=>maK k a b j i* x i) k.length=z at *
 rw[this];grind
theorem HP(hx:Sol 1 (svM (maK k a b) l (fun t=>coP (rhK k g a b) t) k.length) k.length x):SolE k l a b g (fQ g (ba (smK k (aN k.length x) k.length) l)):=fun t=>by
 have e:∀j,j< k.length->inQ (aK (k.getD j ([],[])).2 (fQ g (ba (smK k (aN k.length x) k.length) l))) a b=x j:=fun j d=>by
  rw[fm (p:=g) (q:=smK k (aN k.length x) k.length) (c:= -l) (fun i=>by rw[iB,cy];grind),oo _ a b k _ (by simp),bF (g:=fun i=>maK k a b j i* x i) k.length fun i m=>by rw[cS m];rfl];have f:=CX hx d
  have h:coP (rhK k g a b) j=inQ (aK (k.getD j ([],[])).2 g) a b:=by
   unfold coP rhK;rw[List.getD_eq_getElem?_getD,List.getD_eq_getElem?_getD,List.getElem?_map,List.getElem?_eq_getElem d];rfl
  rw[h] at f;generalize sQ (fun i=>maK k a b j i* x i) k.length=z at *
  rw[f];grind
 rw[eW,bG,pS k _ (by simp),l7 _ ([],[]),bF (g:=fun j=>ak (k.getD j ([],[])).1 t* inQ (aK (k.getD j ([],[])).2 (fQ g (ba (smK k (aN k.length x) k.length) l))) a b) k.length fun j d=>by rw[e j d,cS d]];grind
theorem Be(k:Ke)(l:Rat)(g u:Lq)(a b x:Rat):ak (hoP k l g u a b) x=ak g x+l* jG (fun p=>ak p.1 x* inQ (aK p.2 u) a b) k:=by
 unfold hoP;rw[eW,bG,pS k _ (by simp),l7 _ ([],[]),bF (g:=fun j=>ak (k.getD j ([],[])).1 x* inQ (aK (k.getD j ([],[])).2 u) a b) k.length fun j c=>?_];grind
 have d:coP (rhK k u a b) j=inQ (aK (k.getD j ([],[])).2 u) a b:=by
  unfold coP rhK;rw[List.getD_eq_getElem?_getD,List.getD_eq_getElem?_getD,List.getElem?_map,List.getElem?_eq_getElem c];rfl
 rw[d]
theorem mem_frL{L:Ln}{f:Nat}:f∈frL L n↔f< n/\f∉L:=by simp[frL]
theorem zw(M:Mx)(n:Nat):∀c,(frL (slM M n c).2 c).length+(slM M n c).2.length=c
 |0=>rfl
 |c+1=>by
  have g:=zw M n c;have a:=dh M n c
  have f:c∉ (slM M n c).2:=fun h=>by
   obtain⟨i,d⟩:=List.getElem?_of_mem h;have:=a.lt i c d;omega
  rw[slM];unfold slC;cases pvR (slM M n c).1 n (slM M n c).2.length c with
  |none=>
   show(frL (slM M n c).2 (c+1)).length+(slM M n c).2.length=c+1;rw[ua (by simpa using f),List.length_append,List.length_singleton];omega
  |some p=>
   show(frL ((slM M n c).2++[c]) (c+1)).length+((slM M n c).2++[c]).length=c+1
   have e:frL ((slM M n c).2++[c]) c=frL (slM M n c).2 c:=by
    unfold frL;refine List.filter_congr fun j b=>?_;have:=List.mem_range.1 b;simp;omega
   rw[zu (by simp),e,List.length_append,List.length_singleton];omega
theorem J4{M:Mx}{n s:Nat}(h:bdM M n s):∀c,c<=n->bdM (slM M n c).1 n (slB s (slM M n c).2.length)
 |0,_=>h
 |c+1,hc=>by
  have b:=J4 h c (by omega);have a:=J6 b (dh M n c).len (show c< n by omega);rw[slM]
  revert a
  unfold slC;cases pvR (slM M n c).1 n (slM M n c).2.length c with
  |none=>exact fun _=>b
  |some p=>
   intro a;show bdM _ n (slB s ((slM M n c).2++[c]).length);rw[List.length_append,List.length_singleton,slB];exact a
end
theorem Fl{p u:Lq}{a b:Rat}{t:Nat}(hp:p.length<=4)(bp:bdL p 20)(hu:u.length<=6)(bu:bdL u t)(ht:1<=t)(ht2:t<=100000000)(qa:qs a<=20)(qb:qs b<=20):j7 p u/\OkIn (aK p u) a b/\qs (inQ (aK p u) a b)<=80* t+2600:=by
 have m1:=tM bp bu (by omega) ht;have l1:=xh p u;have e1:p.length* (20+t+1)<=4* (20+t+1):=Nat.mul_le_mul_right _ hp;have m2:=bdL_mono' (b:=4* t+85) m1 (by omega);have i1:=nS m2 (by omega) (by omega);have m:=gF (aK p u);have q:=mxL_le bp (by omega);have o:=mxL_le bu ht;have l:p.length* (mxL p+mxL u+1)<=4* (20+t+1):=Nat.mul_le_mul hp (by omega)
 have ev:∀y:Rat,qs y<=20->gz (aH (aK p u)) y/\qs (ak (aH (aK p u)) y)<=40* t+1271:=fun y f=>by
  have k:=lJ f i1;have i:=mxL_le i1 (by omega);have n:(aH (aK p u)).length* (4* t+85+21+20+1)<=10* (4* t+85+21+20+1):=Nat.mul_le_mul_right _ (by omega);have j:(aH (aK p u)).length* (mxL (aH (aK p u))+qs y+1)<=10* (4* t+127):=Nat.mul_le_mul (by omega) (by omega);exact⟨⟨by omega,by omega⟩,by omega⟩
 obtain⟨g,e⟩:=ev a qa;obtain⟨d,c⟩:=ev b qb;refine⟨⟨by omega,by omega,by omega,by omega⟩,⟨dG m2 (by omega),by omega,d,g,by omega⟩,?_⟩;have h:=me (ak (aH (aK p u)) b) (ak (aH (aK p u)) a);unfold inQ;omega
theorem om{k:Ke}(hk:TmK k){c:Lq}{C:Nat}(hc:∀i,qs (coP c i)<=C)(hC:C<=10000000000):(∀i,i<=k.length->bdL (smK k c i) (i* (C+22)+1)/\(smK k c i).length<=4)/\∀i p,k[i]?=some p->OkSm k c i p:=by
 have g:=hk.l
 have d:∀i,i<=k.length->bdL (smK k c i) (i* (C+22)+1)/\(smK k c i).length<=4:=fun i=>by
  induction i with
  |zero=>exact fun _=>⟨fun q h=>(by cases h),Nat.zero_le _⟩
  |succ i m=>
   intro f;obtain⟨b1,l1⟩:=m (by omega);obtain⟨p,hp⟩:∃p,k[i]?=some p:=⟨_,List.getElem?_eq_getElem f⟩;have a:=List.mem_of_getElem? hp;have s1:=lb (hk.b p a).1 (by omega) (hc i);have s2:=dJ p.1 (coP c i);have j:=(hk.n p a).1;have o:=F0 b1 s1 (by omega) (by omega);have r:=lX (smK k c i) (ba p.1 (coP c i));rw[smK_s hp];unfold smF;exact⟨bdL_mono' o (by rw[Nat.succ_mul];omega),by omega⟩
 refine⟨d,fun i p hp=>?_⟩;have f:=(List.getElem?_eq_some_iff.1 hp).1;obtain⟨b1,l1⟩:=d i (by omega);have a:=List.mem_of_getElem? hp;have e:i* (C+22)<=3* (C+22):=Nat.mul_le_mul_right _ (by omega);have s1:=lb (hk.b p a).1 (by omega) (hc i);have s2:=dJ p.1 (coP c i);have j:=(hk.n p a).1;exact⟨dG (hk.b p a).1 (by omega),by omega,Nat.le_trans (hc i) (by omega),dG b1 (by omega),by omega,dG s1 (by omega),by omega⟩
theorem ta_tame{k:Ke}{l a b:Rat}{g:Lq}(hk:TmK k)(hke:pn k)(hg:g.length<=5)(bg:bdL g 20)(qL:qs l<=20)(qa:qs a<=20)(qb:qs b<=20)(ab:a<=b):OkTa k l g a b 4300:=by
 have e:=hk.l;have c:=fun p hp u (hu:u.length<=5) bu=>Fl (u:=u) (t:=20) (a:=a) (b:=b) (hk.n p hp).2 (hk.b p hp).2 (Nat.le_trans hu (by decide)) bu (by omega) (by omega) qa qb;have m:bO g<=20:=by have:=zX g (n:=4) (by omega);omega
 have f:∀i,i< k.length->k.getD i ([],[])∈k:=fun i d=>by
  rw[List.getD_eq_getElem?_getD,List.getElem?_eq_getElem d];exact List.getElem_mem d
 refine⟨hke,by unfold sm;omega,by unfold sm;omega,ab,m,by omega,⟨⟨by omega,fun p hp q o=>?_⟩,fun i j d r=>?_,?_⟩,fun p hp=>?_⟩;have h:=c p hp q.1 (by have:=(hk.n q o).1;omega) (hk.b q o).1;exact⟨h.1,h.2.1⟩;have h:=(c _ (f i d) (k.getD j ([],[])).1 (by have:=(hk.n _ (f j r)).1;omega) (hk.b _ (f j r)).1).2.2;unfold maK;omega;have:slB 4300 k.length<=slB 4300 3:=nw e;exact Nat.le_trans this (by decide);have h:=c p hp g hg bg;exact⟨h.1,h.2.1,by omega⟩
def bK(k:Ke)(l:Rat)(g:Lq)(a b:Rat):Lw:=ecL (zsK k (syM k l (rhK k g a b) a b))
structure Fre (k:Ke)(l a b:Rat)(B:Lw):Prop where
 bas:Bas B
 sol:∀p∈B,SolE k l a b [] p
 bd:∀p∈B,bdL p 1400000/\p.length<=4
 len:B.length<=3
theorem J7{k:Ke}{l a b:Rat}{g:Lq}(h:OkTa k l g a b 4300):bdM (svM (maK k a b) l (fun t=>coP (rhK k g a b) t) k.length) k.length 4300:=h.sy.bd fun i c=>by
 have e:coP (rhK k g a b) i=inQ (aK k[i].2 g) a b:=by
  unfold coP rhK;rw[List.getD_eq_getElem?_getD];simp[c]
 rw[e];exact(h.rh _ (List.getElem_mem c)).2.2
theorem HF{n C:Nat}{x:Nat->Rat}(h:∀j,j< n->qs (x j)<=C)(hC:1<=C)(i:Nat):qs (coP (aN n x) i)<=C:=by
 rw[BY];split;exact h i (by assumption);exact Nat.le_trans (by decide:qs 0<=1) hC
section
variable {k:Ke}{l a b:Rat}{g:Lq}
theorem pQ(h:OkTa k l g a b 4300)(hkl:k.length<=3):∃C r,(syM k l (rhK k g a b) a b).2.length=r/\(frL (syM k l (rhK k g a b) a b).2 k.length).length+r=k.length/\1<=C/\C<=300000/\
    (∀f∈frL (syM k l (rhK k g a b) a b).2 k.length,∀i,qs (coP (gq (syM k l (rhK k g a b) a b).1 k.length (syM k l (rhK k g a b) a b).2 f) i)<=C)/\(∀i,qs (coP (ns k l g a b) i)<=C)/\∀m,m+r<=3->ecB (3* (C+22)+1) m<=1400000/\rbB (3* (C+22)+50) (ecB (3* (C+22)+1) m) m<=10000000:=by
 have hb:=J4 (J7 h) k.length (Nat.le_refl _);have q:=dh (svM (maK k a b) l (fun t=>coP (rhK k g a b) t) k.length) k.length k.length;have n:=zw (svM (maK k a b) l (fun t=>coP (rhK k g a b) t) k.length) k.length k.length;unfold ns;change∃C r,(slM (svM (maK k a b) l (fun t=>coP (rhK k g a b) t) k.length) k.length k.length).2.length=r/\_;unfold syM;generalize slM (svM (maK k a b) l (fun t=>coP (rhK k g a b) t) k.length) k.length k.length=A at *
 have p:∀j,j∈A.2->A.2.idxOf j< k.length:=fun j o=>by
  have y:=List.idxOf_lt_length_of_mem o;have x:=q.len2;omega
 have w:1<=slB 4300 A.2.length:=Nat.le_trans (by decide) (nw (s:=4300) (Nat.zero_le _));refine⟨slB 4300 A.2.length+1,A.2.length,rfl,n,by omega,?_,fun f u i=>?_,fun i=>?_,fun m c=>?_⟩;have:slB 4300 A.2.length<=slB 4300 3:=nw (by omega);have e:slB 4300 3=275242:=by decide
 omega;refine HF (fun j o=>?_) (by omega) i;unfold zerX;split
 ·rename_i c
  rw[fw];exact Nat.le_trans (hb _ _ (p j (by simpa using c)) (by have:=(mem_frL.1 u).1;omega)) (by omega)
 split;exact Nat.le_trans (by decide:qs 1<=1) (by omega);exact Nat.le_trans (by decide:qs 0<=1) (by omega);refine HF (fun j o=>?_) (by omega) i;unfold oneX;split
 ·rename_i c
  exact Nat.le_trans (hb _ _ (p j (by simpa using c)) (Nat.le_refl _)) (by omega)
 exact Nat.le_trans (by decide:qs 0<=1) (by omega);generalize A.2.length=r at c;have v:r=0\/r=1\/r=2\/r=3:=by omega
 have d:m=0\/m=1\/m=2\/m=3:=by omega
 rcases v with rfl|rfl|rfl|rfl <;> rcases d with rfl|rfl|rfl|rfl <;> first|omega|decide
theorem sj(hk:TmK k)(h:OkTa k l g a b 4300):Fre k l a b (bK k l g a b):=by
 obtain⟨C,r,e1,e2,B,A,w,_,hs⟩:=pQ h hk.l;have x:=dh (svM (maK k a b) l (fun t=>coP (rhK k g a b) t) k.length) k.length k.length;have j:=hk.l;have v:(zsK k (syM k l (rhK k g a b) a b)).length+r=k.length:=by rw[<-e2];simp[zsK]
 have o:=rc (zsK k (syM k l (rhK k g a b) a b)) (zsK k (syM k l (rhK k g a b) a b)).length
 have m:∀p∈zsK k (syM k l (rhK k g a b) a b),bdL p (3* (C+22)+1)/\p.length<=4:=fun p hp=>by
  obtain⟨z,d,rfl⟩:=List.mem_map.1 hp;obtain⟨f,n,rfl⟩:=List.mem_map.1 d;obtain⟨s1,s2⟩:=(om hk (w f n) (by omega)).1 k.length (Nat.le_refl _);have e:k.length* (C+22)<=3* (C+22):=Nat.mul_le_mul_right _ j;exact⟨bdL_mono' s1 (by omega),s2⟩
 obtain⟨t1,t2⟩:=hs (zsK k (syM k l (rhK k g a b) a b)).length (by omega);have i:=zL (by omega) m (zsK k (syM k l (rhK k g a b) a b)).length;refine⟨mV _ _,zM (Q:=SolE k l a b []) (fun p q c r hp s h=>hp.comb s h) (SolE.nil k l a b) _ (fun p hp=>?_) _,fun p hp=>⟨bdL_mono' (i p hp).1 t1,(i p hp).2⟩,by show(ecK _ _).length<=3;omega⟩;obtain⟨z,d,rfl⟩:=List.mem_map.1 hp;obtain⟨f,n,rfl⟩:=List.mem_map.1 d;obtain⟨u,y⟩:=mem_frL.1 n;exact uD (r:=fun t=>coP (rhK k g a b) t) ((mc k.length).1 (x.zerX u y))
theorem Ju(hk:TmK k)(h:OkTa k l g a b 4300):FS 95 [.arr (mE (zsK k (syM k l (rhK k g a b) a b)))] (.arr (mE (bK k l g a b))):=by
 obtain⟨C,r,e1,e2,o,n,j,_,hs⟩:=pQ h hk.l;have c:=hk.l;have i:(zsK k (syM k l (rhK k g a b) a b)).length+r=k.length:=by rw[<-e2];simp[zsK]
 refine DL _ (3* (C+22)+1) (by omega) (by omega) (fun p hp=>?_) (Nat.le_trans (hs _ (by omega)).1 (by decide));obtain⟨z,d,rfl⟩:=List.mem_map.1 hp;obtain⟨f,m,rfl⟩:=List.mem_map.1 d;obtain⟨s1,s2⟩:=(om hk (j f m) (by omega)).1 k.length (Nat.le_refl _);have e:k.length* (C+22)<=3* (C+22):=Nat.mul_le_mul_right _ c;exact⟨bdL_mono' s1 (by omega),by omega⟩
theorem Fy(hk:TmK k)(h:OkTa k l [] a b 4300):FS 8 [.arr (kE k),.agg (spC a b),.agg (qC l)] (.tup [.arr (mE (bK k l [] a b)),i64 0]):=by
 obtain⟨C,r,e1,e2,o,n,m,_,hs⟩:=pQ h hk.l;have i:=hk.l;have g:=fW k l [] a b h.ke h.ha h.hb h.ab h.dg h.gl;have e:=lE k l [] a b 4300 h.sy h.rh;have d:=Bs k l [] a b (syM k l (rhK k [] a b) a b).1 (syM k l (rhK k [] a b) a b).2 (dh _ _ _) (by omega) (fun f d=>(om hk (m f d) (by omega)).2) _ (Ju hk h);refine f_n Tryz.func8 ?_ ?_;exact ac (aL k) (ac (az (aZ a b)) (ac (aS l) af));refine r_z 4 ?_;refine r_z 7 ?_;have j:∀c∈(.arr (kE k)::(qC l++[.emp]))++spC a b,Closed c:=cY (ac (aL k) (cY (bC l) (ac dl af))) (aZ a b);refine AWp.ent (st':=⟨[(8,.aptr [(.arr (kE k)::(qC l++[.emp]))++spC a b] 0 0)],[],1,20⟩) ?_ ?_;exact s_f [];refine ae (r_c 2 (g) ?_);refine aq ?_;refine cF (am (ae (r_d a7 6 ?_)));refine c_s (e) ?_;refine c_s (d) ?_;refine a_2 ?_;refine aq (n_k ?_);refine ai (Fin.many ⟨_,_,rfl,rfl,⟨_,_,rfl,rfl,rfl⟩⟩ (nle rfl) ?_);exact ah (an aA (closed_mA _)) (ah (an aA (ag _)) av)
end
section
variable {k:Ke}{l a b:Rat}{g:Lq}
theorem Gc(hk:TmK k)(h:OkTa k l g a b 4300)(hg:g.length<=5)(bg:bdL g 20)(qL:qs l<=20):
    ∃(u:Lq) (B:Lw) (e:Int),FS 16 [.agg (eqC k l g),.agg (spC a b)] (.tup [.arr (pE u),.arr (mE B),i64 e])/\u.length<=5/\bdL u 10000000/\(∀p∈bK k l g a b,coP u (dg p)=0)/\(ji k.length (syM k l (rhK k g a b) a b).1 (syM k l (rhK k g a b) a b).2=true/\u=[]/\B=[]/\e=12\/ji k.length (syM k l (rhK k g a b) a b).1 (syM k l (rhK k g a b) a b).2=false/\ao u=u/\e=0/\B=bK k l g a b/\SolE k l a b g u):=by
 cases hN:ji k.length (syM k l (rhK k g a b) a b).1 (syM k l (rhK k g a b) a b).2 with
 |true=>exact⟨[],[],12,xF k l g a b 4300 h hN,Nat.zero_le _,fun q s=>(by cases s),fun _ _=>rfl,.inl ⟨rfl,rfl,rfl,rfl⟩⟩
 |false=>
  obtain⟨C,r,e1,e2,V,S,F,K,hs⟩:=pQ h hk.l;have o:=sj hk h;have m:=hk.l;have M:=dh (svM (maK k a b) l (fun t=>coP (rhK k g a b) t) k.length) k.length k.length;have L:(zsK k (syM k l (rhK k g a b) a b)).length+r=k.length:=by rw[<-e2];simp[zsK]
  have j:=rc (zsK k (syM k l (rhK k g a b) a b)) (zsK k (syM k l (rhK k g a b) a b)).length
  have w:∀p∈zsK k (syM k l (rhK k g a b) a b),bdL p (3* (C+22)+1)/\p.length<=4:=fun p hp=>by
   obtain⟨z,v,rfl⟩:=List.mem_map.1 hp;obtain⟨f,x,rfl⟩:=List.mem_map.1 v;obtain⟨s1,s2⟩:=(om hk (F f x) (by omega)).1 k.length (Nat.le_refl _);have e:k.length* (C+22)<=3* (C+22):=Nat.mul_le_mul_right _ m;exact⟨bdL_mono' s1 (by omega),s2⟩
  have A:=zL (by omega) w (zsK k (syM k l (rhK k g a b) a b)).length;obtain⟨t1,t2⟩:=hs (zsK k (syM k l (rhK k g a b) a b)).length (by omega);obtain⟨s1,s2⟩:=om hk K (by omega);obtain⟨D,Y⟩:=s1 k.length (Nat.le_refl _);have e:k.length* (C+22)<=3* (C+22):=Nat.mul_le_mul_right _ m;have E:=lb D (by omega) qL;have T:=dJ (smK k (ns k l g a b) k.length) l;have O:=F0 bg E (by omega) (by omega);have X:=lX g (ba (smK k (ns k l g a b) k.length) l);have y:OkSu k l g a b:=⟨s2,dG D (by omega),by omega,by unfold sm;omega,dG bg (by omega),dG E (by omega),by omega⟩;have G:bdL (syU k l g a b) (3* (C+22)+50):=bdL_mono' O (by omega);have U:(syU k l g a b).length<=5:=by show(fQ _ _).length<=5;omega
  have d:∀p∈bK k l g a b,Piv p:=o.bas.piv;have n:∀p∈bK k l g a b,bdL p (ecB (3* (C+22)+1) (zsK k (syM k l (rhK k g a b) a b)).length):=fun p hp=>(A p hp).1;have i:=zN (3* (C+22)+1) (zsK k (syM k l (rhK k g a b) a b)).length;have R:=vm d G (by omega) n i j (by omega) (by omega) (fun p hp=>by have:=(o.bd p hp).2;omega) (by omega);obtain⟨J,W⟩:=uS d G (by omega) n i j;refine⟨_,_,0,GO k l g a b 4300 h y hN (fun f x=>(om hk (F f x) (by omega)).2) _ (Ju hk h) R,by omega,bdL_mono' J t2,fun p hp=>?_,.inr ⟨rfl,by rw[j5,cw],rfl,rfl,?_⟩⟩;rw[j5,bv];exact tE _ _ _ rfl d o.bas.up p hp;have N:=HP ((mc k.length).1 (M.oneX (tf hN)));rw[j5];exact(uV (Q:=SolE k l a b g) (H:=SolE k l a b []) (fun p q c r hp s h=>hp.comb s h) _ _ _ rfl (fun p hp=>⟨d p hp,o.sol p hp⟩) N).ext (bv _)
end
section
variable {k:Ke}{l a b:Rat}
theorem EI(i:Nat):∀(k:Ke) (c o:Lq),c.length=k.length->coP (ma k c o) i=coP o i+jG (fun p=>coP p.1.1 i* p.2) (k.zip c)
 |[],[],o,_=>by rw[ma];show _=_+0;grind
 |p::k,[],_,h=>by cases h
 |[],z::c,_,h=>by cases h
 |p::k,z::c,o,h=>by
  rw[ma,List.tail_cons,dA,EI i k c _ (by simpa using h),List.zip_cons_cons,jG];unfold smF;rw[iB,cy];grind
theorem gw(k:Ke)(c:Lq)(hc:c.length=k.length)(i:Nat):coP (smK k c k.length) i=sQ (fun j=>coP (k.getD j ([],[])).1 i* coP c j) k.length:=by
 rw[<-pR (fun p:Lq×Lq=>coP p.1 i) ([],[]) k c hc];unfold smK;rw[List.take_length,EI i k c [] hc,show coP [] i=0 from rfl];grind
theorem yu{A:Mx}{n:Nat}{x y:Nat->Rat}{c:Rat}(hx:Sol 0 A n x)(hy:Sol 0 A n y):Sol 0 A n (fun j=>x j- c* y j):=fun i a=>by
 rw[bF (g:=fun j=>A i j* x j- c* (A i j* y j)) n fun j b=>by grind,ie,hx i a,hy i a];grind
def fvS(A:Mx)(L:Ln)(y:Nat->Rat):Ln->Nat->Rat
 |[],j=>0
 |f::F,j=>fvS A L y F j+y f* zerX A L f j
theorem Fs{A:Mx}{n:Nat}{L:Ln}(hE:Ech A n n L)(y:Nat->Rat):∀F:Ln,(∀f∈F,f< n/\f∉L)->Sol 0 A n (fvS A L y F)
 |[],_=>Au A n
 |f::F,h=>by
  obtain⟨d,a⟩:=h f (List.mem_cons_self ..);have e:=yu (c:= -y f) (Fs hE y F fun g k=>h g (List.mem_cons_of_mem _ k)) (hE.zerX d a);intro i l;have b:=e i l;rw[<-b];exact bF n fun j m=>by rw[fvS];grind
theorem IT{A:Mx}{L:Ln}{y:Nat->Rat}:∀(F:Ln),F.Nodup->(∀f∈F,f∉L)->∀j,j∉L->fvS A L y F j=if j∈F then y j else 0
 |[],_,_,j,_=>by simp[fvS]
 |f::F,hn,h,j,hj=>by
  obtain⟨a,b⟩:=List.nodup_cons.1 hn;have d:zerX A L f j=if j=f then 1 else 0:=by unfold zerX;rw[if_neg (by simpa using hj)]
  rw[fvS,IT F b (fun g c=>h g (List.mem_cons_of_mem _ c)) j hj,d];by_cases e:j=f;subst e;rw[if_neg a,if_pos rfl,if_pos (List.mem_cons_self ..)];grind;rw[if_neg e];by_cases g:j∈F;rw[if_pos g,if_pos (List.mem_cons_of_mem _ g)];grind;rw[if_neg g,if_neg (by simp[e,g])];grind
theorem xI(L:Ln)(n:Nat):(frL L n).Nodup:=List.Pairwise.filter _ List.nodup_range
theorem sol_fvS{A:Mx}{n:Nat}{L:Ln}(hE:Ech A n n L){y:Nat->Rat}(hy:Sol 0 A n y):∀j,j< n->y j=fvS A L y (frL L n) j:=
 hE.uniq hy (Fs hE y _ fun f a=>mem_frL.1 a) fun j b g=>by
  rw[IT _ (xI L n) (fun f a=>(mem_frL.1 a).2) j g,if_pos (mem_frL.2 ⟨b,g⟩)]
theorem Bj{k:Ke}{A:Mx}{L:Ln}{y:Nat->Rat}:∀F:Ln,(∀f∈F,f∈frL L k.length)->Spn (zsK k (A,L)) (smK k (aN k.length (fvS A L y F)) k.length)
 |[],_=> .zero fun i=>by
  rw[gw k _ (by simp),bF (g:=fun j=>if j=k.length then 0 else 0) k.length fun j a=>by rw[cS a,fvS];split <;> grind,ju,if_neg (by omega)]
 |f::F,h=>by
  have d:=Bj (k:=k) (A:=A) (y:=y) F fun g e=>h g (List.mem_cons_of_mem _ e);have b:smK k (gq A k.length L f) k.length∈zsK k (A,L):=List.mem_map_of_mem (f:=fun z=>smK k z k.length) (List.mem_map_of_mem (f:=gq A k.length L) (h f (List.mem_cons_self ..)));refine .step (c:= -y f) d b fun i=>?_;rw[gw k _ (by simp),gw k _ (by simp),gw k _ (by simp),<-ie];refine bF k.length fun j a=>?_;unfold gq;rw[cS a,cS a,cS a,fvS];grind
theorem HO{r:Lq}{u:Lq}(h:SolE k l a b [] u):Spn (zsK k (syM k l r a b)) u:=by
 obtain⟨y,n⟩:∃y:Nat->Rat,y=fun j=>l* inQ (aK (k.getD j ([],[])).2 u) a b:=⟨_,rfl⟩
 have w:∀x,ak u x=ak (smK k (aN k.length y) k.length) x:=fun x=>by
  rw[h x,aV,pS k _ (by simp),l7 _ ([],[]),bF (g:=fun j=>(ak (k.getD j ([],[])).1 x* inQ (aK (k.getD j ([],[])).2 u) a b) * l) (f:=fun j=>ak (k.getD j ([],[])).1 x* coP (aN k.length y) j) k.length fun j d=>by rw[cS d,n];grind,ny];grind
 have m:∀i,coP u i=coP (smK k (aN k.length y) k.length) i:=fun i=>by
  rw[<-bv u,iw w,bv]
 have hs:Sol 0 (svM (maK k a b) l (fun t=>coP r t) k.length) k.length y:=fun i v=>by
  have e1:inQ (aK (k.getD i ([],[])).2 u) a b=sQ (fun j=>maK k a b i j* y j) k.length:=by
   have:=fm (B:=(k.getD i ([],[])).2) (r:=u) (p:=smK k (aN k.length y) k.length) (q:=[]) (c:=0) (fun t=>by rw[m];grind) a b;rw[this,oo _ a b k _ (by simp),bF (g:=fun j=>maK k a b i j* y j) k.length fun j d=>by rw[cS d];rfl];grind
  have e2:y i=l* sQ (fun j=>maK k a b i j* y j) k.length:=by rw[<-e1,n]
  rw[show svM (maK k a b) l (fun t=>coP r t) k.length i k.length=coP r i from if_pos rfl,bF (g:=fun j=>(if j=i then y i else 0)- l* (maK k a b i j* y j)) k.length fun j d=>?_,ie,ju,if_pos v];rw[<-e2];grind;unfold svM;rw[if_neg (by omega)];by_cases e:j=i;subst e;rw[if_pos rfl,if_pos rfl];grind;rw[if_neg e,if_neg e];grind
 have o:=dh (svM (maK k a b) l (fun t=>coP r t) k.length) k.length k.length;have z:=sol_fvS o ((mc k.length).2 hs);have:=Bj (k:=k) (A:=(syM k l r a b).1) (L:=(syM k l r a b).2) (y:=y) (frL (syM k l r a b).2 k.length) fun f s=>s;refine this.ext fun i=>?_;rw[m,gw k _ (by simp),gw k _ (by simp)];exact bF k.length fun j d=>by rw[cS d,cS d,z j d];rfl
theorem zs_sol{r:Lq}:∀p∈zsK k (syM k l r a b),SolE k l a b [] p:=fun p hp=>by
 have e:=dh (svM (maK k a b) l (fun t=>coP r t) k.length) k.length k.length;obtain⟨z,c,rfl⟩:=List.mem_map.1 hp;obtain⟨f,g,rfl⟩:=List.mem_map.1 c;obtain⟨h,d⟩:=mem_frL.1 g;exact uD (r:=fun t=>coP r t) ((mc k.length).1 (e.zerX h d))
theorem bK_span{g u:Lq}:Spn (bK k l g a b) u↔SolE k l a b [] u:=by
 unfold bK;rw[ecL_span.2 u];exact⟨fun h=>h.closed (fun v e=>(SolE.nil k l a b).ext fun i=>by rw[e];rfl) (fun p b c r hp hb d=>hp.comb hb d) zs_sol,HO⟩
end
def mmQ(n:Nat)(A B:Mx):Mx:=fun i j=>sQ (fun t=>A i t* B t j) n
def mmS(n:Nat)(A B:Mx)(i j:Nat):Nat->AState
 |t=>⟨[(0,i64 i),(1,i64 j),(2,bM (sqR n A)),(3,bM (sqR n B)),(6,.lptr 1 0 0),(7,.lptr 2 0 0),(10,i64 n),(11,i64 t)],[(1,some ⟨36,3,[zC]⟩),(2,some ⟨36,3,[qC (sQ (fun t=>A i t* B t j) t)]⟩)],3,33⟩
theorem fs_mm1(n:Nat)(A B:Mx)(i j:Nat)(hi:i< n)(hj:j< n)(hn:n<=25)(hs:∀t,t< n->qs (A i t)+qs (B t j)<=549755813888/\qs (sQ (fun t=>A i t* B t j) t)+qs (A i t* B t j)<=549755813888):FS 187 [i64 i,i64 j,bM (sqR n A),bM (sqR n B)] (.agg (qC (mmQ n A B i j))):=by
 have g:(mE (sqR n A)).length=n:=by simp
 have o:(mE (sqR n B)).length=n:=by simp
 refine f_n Tryz.func187 ?_ ?_;exact ac (ag _) (ac (ag _) (ac (cj _) (ac (cj _) af)));refine r_z 1 ?_;refine r_z 1 ?_;refine ae (r_z 3 ?_);refine aF (fun _:Unit=>⟨[(6,.lptr 1 0 0),(7,.lptr 2 0 0)],[(1,some ⟨36,3,[zC]⟩),(2,some ⟨36,3,[qC (mmQ n A B i j)]⟩)],3,33⟩) (fun _=>True) ?_ ?_;refine aj (aC (mmS n A B i j) (fun t=>n- t) (fun t=>t<=n) 0 (Nat.zero_le _) ?_ ?_);rw[mmS.eq_1,sQ,qC0];refine s_x [(1,6),(2,7)] (fun hs=>?_) (fun hs=>?_)
 ·repeat' (first|exact aP|refine ay rfl ?_ ?_|exact an hs (cj _)|(refine Cv.loE hs ?_ (ag _);simp[i64];done)|exact aX)
 ·repeat' (first|exact aE|refine h_c ?_ ?_|exact bZ|refine aD ?_|exact av|refine ah ?_ ?_|exact an hs (cj _)|(refine Cv.loE hs ?_ (ag _);simp[i64];done)|exact aX)
 intro t p;rw[mmS.eq_1];by_cases hlt:t< n;have e:(mE (sqR n A))[((i:Nat):Int).toNat]?=some [.arr (pE (aN n (A i)))]:=gR (yr hi) _ (by simp);have d:(pE (aN n (A i)))[((t:Nat):Int).toNat]?=some (qC (A i t)):=dx hlt _ (by simp);have f:(mE (sqR n B))[((t:Nat):Int).toNat]?=some [.arr (pE (aN n (B t)))]:=gR (yr hlt) _ (by simp);have c:(pE (aN n (B t)))[((j:Nat):Int).toNat]?=some (qC (B t j)):=dx hj _ (by simp);have l1:(pE (aN n (A i))).length=n:=by simp[pE]
 have l2:(pE (aN n (B t))).length=n:=by simp[pE]
 obtain⟨l,m⟩:=hs t hlt;have a:=c6 (A i t) (B t j) l;have b:=fy (sQ (fun t=>A i t* B t j) t) (A i t* B t j) m;refine q_z 1 ?_;refine ae (cT (am (ae (aj (r_z 2 ?_)))));refine r_d a7 18 ?_;refine a_3 ?_;refine i_x e ?_;refine l_1 e ?_;refine a_1 ?_;refine i_x d ?_;refine l_x d ?_;refine a_2 ?_;refine i_x f ?_;refine aY (.load_a1 rfl f TG.h rfl) rfl rfl ?_;refine a_1 ?_;refine i_x c ?_;refine l_x c ?_;refine c_s (a) ?_;refine c_s (b) ?_;refine a_1 ?_;refine aq (n_k ?_);refine r_m 2 ?_;refine a_z ?_;refine⟨t+1,by omega,by omega,?_⟩;rw[mmS.eq_1,sQ];refine s_x [(1,6),(2,7)] (fun hs=>?_) (fun hs=>?_)
 ·repeat' (first|exact aP|refine ay rfl ?_ ?_|exact an hs (cj _)|exact aX)
 ·repeat' (first|exact aE|refine h_c ?_ ?_|exact bZ|refine aD ?_|exact av|refine ah ?_ ?_|exact an hs (cj _)|exact aX)
 have k:t=n:=by omega
 refine q_z 1 ?_;refine ae (cF (ax ⟨(),trivial,?_⟩));subst k;unfold mmQ;exact s_e [(1,6),(2,7)];rintro _ _;refine r_z 2 ?_;exact ai (c_e (aS _))
theorem fs_mm(n:Nat)(A B:Mx)(hn:n<=25)(hs:∀i j t,i< n->j< n->t< n->qs (A i t)+qs (B t j)<=549755813888/\qs (sQ (fun t=>A i t* B t j) t)+qs (A i t* B t j)<=549755813888):FS 148 [.arr (mE (sqR n A)),.arr (mE (sqR n B))] (.arr (mE (sqR n (mmQ n A B)))):=by
 have c:=GF (mmQ n A B) n 187 [bM (sqR n A),bM (sqR n B)] hn (ac (cj _) (ac (cj _) af)) fun i j b a=>fs_mm1 n A B i j b a hn fun t e=>hs i j t b a e;rw[zy] at c;have d:(mE (sqR n A)).length=n:=by simp
 refine f_c Tryz.func148 ?_;refine r_z 3 ?_;refine AWp.ent (st':=⟨[(2,bM (sqR n A)),(3,bM (sqR n B))],[],1,9⟩) ?_ ?_;refine s_x [] (fun hs=>?_) (fun hs=>?_)
 ·repeat' (first|exact aP|refine ay rfl ?_ ?_|exact Cv.boxp hs rfl (aT rfl) rfl (ac (closed_mA (sqR n A)) af)|exact Cv.boxp hs rfl (aT rfl) rfl (ac (closed_mA (sqR n B)) af)|exact aX)
 ·repeat' (first|exact aE|refine h_c ?_ ?_|exact bZ|refine aD ?_|exact av|refine ah ?_ ?_|exact Cv.boxp hs rfl (aT rfl) rfl (ac (closed_mA (sqR n A)) af)|exact Cv.boxp hs rfl (aT rfl) rfl (ac (closed_mA (sqR n B)) af)|exact aX)
 refine s_r 5 ?_;refine aY (.load_a1 rfl rfl TG.h rfl) rfl rfl ?_;refine aY (.lenC rfl rfl rfl rfl te_111.h) rfl rfl ?_;refine o_0 (.makeFunc rfl rfl) ?_;refine o_0 (.call rfl rfl rfl ((by rw[CO];exact c))) ?_;refine o_0 (.assign rfl) ?_;refine aq ?_;exact ai (t_e (closed_mA _))
end Go.Proofs.YtkbjakfniejkcaaGreatDoor
