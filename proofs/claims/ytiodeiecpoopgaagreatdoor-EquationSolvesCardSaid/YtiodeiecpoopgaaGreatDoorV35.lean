/- Part V35. -/
import Derived.Test.YtiodeiecpoopgaaGreatDoorV34
set_option linter.all false
namespace Go.Proofs.YtiodeiecpoopgaaGreatDoor
open Go.Abs
set_option maxRecDepth 20000
set_option maxHeartbeats 4000000
section
variable {B:Lw}{f:Lq->Lq}{i:Nat}
theorem rd_ok{p:Lq}{s t k:Nat}(hB:∀b∈B,Piv b)(hp:bdL p s)(hs:1<=s)(hbt:∀b∈B,bdL b t)(ht:1<=t)(hk:B.length<=k)(h:rbB s t k<=100000000000)(hpl:p.length<=1000)(hbl:∀b∈B,b.length<=1000)(hk2:k<=1000):(∀i,i< B.length->OkRd (rbK p B i) (B.getD (B.length- 1- i) []))/\(rbK p B B.length).length<=1099511627776:=by
 refine⟨fun i l=>?_,Nat.le_trans (yr hB hp hs hbt ht B.length (Nat.le_refl _)).2 (by omega)⟩;obtain⟨c,f⟩:=yr hB hp hs hbt ht i (by omega);have a:=pI (B:=B) (i:=B.length- 1- i) (by omega);generalize B.getD (B.length- 1- i) []=b at a⊢;have j:2* rbB s t i+t+1<=100000000000:=Nat.le_trans (Aw s t (show i+1<=k by omega)) h;have g:=yu s t i;have hb:=hB b a;have d:=ej c (by omega) (a8 b).toNat;have e:=hbl b a;refine⟨by rw[hb.deg];omega,by omega,by omega,dI (hbt b a) (by omega),Nat.le_trans d (by omega),dI (fm (hbt b a) ht d) (by omega),dI c (by omega)⟩
theorem vf{p:Lq}{s t k:Nat}(hB:∀b∈B,Piv b)(hp:bdL p s)(hs:1<=s)(hbt:∀b∈B,bdL b t)(ht:1<=t)(hk:B.length<=k)(h:rbB s t k<=100000000000)(hpl:p.length<=1000)(hbl:∀b∈B,b.length<=1000)(hk2:k<=1000):FS 41 [.arr (pE p),.arr (mE B)] (.arr (pE (reP p B))):=by
 obtain⟨a,c⟩:=rd_ok hB hp hs hbt ht hk h hpl hbl hk2;exact xf p B (by omega) a c
theorem mE_eq(B:Lw):mE B=(B.map fun b=>AV.arr (pE b)).map fun z=>[z]:=by simp[mE]
def mpI(f:Lq->Lq)(B:Lw)(i:Nat):Lw:=(B.take i).map f++B.drop i
@[simp] theorem mpI_length (f:Lq->Lq)(B:Lw)(i:Nat):(mpI f B i).length=B.length:=by simp[mpI];omega
theorem mpI_0(f:Lq->Lq)(B:Lw):mpI f B 0=B:=by simp[mpI]
theorem mpI_n(h:B.length<=i):mpI f B i=B.map f:=by simp[mpI,List.take_of_length_le h,List.drop_eq_nil_of_le h]
theorem mpI_get{b:Lq}(h:B[i]?=some b):(mpI f B i)[i]?=some b:=by
 have hl:=(List.getElem?_eq_some_iff.1 h).1;unfold mpI;rw[List.getElem?_append_right (by simp;omega),List.getElem?_drop];simp;rw[show i+(i- min i B.length)=i by omega];exact h
theorem mpI_s{b:Lq}(h:B[i]?=some b):(mpI f B i).set i (f b)=mpI f B (i+1):=by
 have hl:=(List.getElem?_eq_some_iff.1 h).1;unfold mpI;rw[List.set_append_right _ _ (by simp;omega),List.length_map,List.length_take,Nat.min_eq_left (by omega),Nat.sub_self,List.take_add_one,h,List.drop_eq_getElem_cons hl,List.set_cons_zero];simp
def ehS(l:Lw)(k:Nat):Nat->Lw->AState
 |0,_=>⟨[(3,.emp),(7,.arr (mE l)),(8,i64 l.length),(9,i64 k)],[],1,49⟩
 |n+1,out=>⟨[(3,.lsl 1 0 (n+1) none 1),(7,.arr (mE l)),(8,i64 l.length),(9,i64 k)],[(1,some ⟨35,1,mE out⟩)],2,49⟩
theorem FK(l:Lw)(k:Nat)(out:Lw):ehS l k 0 out=⟨[(3,.emp),(7,.arr (mE l)),(8,i64 l.length),(9,i64 k)],[],1,49⟩:=rfl
theorem BG(l:Lw)(k n:Nat)(out:Lw):ehS l k (n+1) out=⟨[(3,.lsl 1 0 (n+1) none 1),(7,.arr (mE l)),(8,i64 l.length),(9,i64 k)],[(1,some ⟨35,1,mE out⟩)],2,49⟩:=rfl
def ejqS(l:Lw)(k n:Nat)(q:Lq)(f:Lq->Lq)(out:Lw):Nat->AState
 |i=>⟨[(3,.lsl 1 0 (n+1) none 1),(5,.arr (pE q)),(7,.arr (mE l)),(8,i64 l.length),(9,i64 k),(26,i64 ((n+1:Nat):Int)),(27,i64 i)],[(1,some ⟨35,1,mE (mpI f out i)⟩)],2,49⟩
theorem Du(l:Lw)(s:Nat)(hs:1<=s)(hl12:l.length<=12)(hl:∀p∈l,bdL p s/\p.length<=1000)(hE:ecB s l.length<=50000000000):FS 98 [.arr (mE l)] (.arr (mE (ecL l))):=by
 have hml:(mE l).length=l.length:=by simp[mE]
 refine f_c Tryz.func98 ?_;refine r_z 1 ?_;refine r_z 1 ?_;refine ae (r_z 3 ?_);refine aC (fun _:Unit=>⟨[(3,.arr (mE (ecL l)))],[],1,49⟩) (fun _=>True) ?_ ?_;refine ah (ax (fun k=>ehS l k (ecK l k).length (ecK l k)) (fun k=>l.length- k) (fun k=>k<=l.length) 0 (Nat.zero_le _) ?_ ?_);show SEnt _ (ehS l 0 0 []);rw[FK];have:=closed_mA l;exact s_f [];intro k hk;have hB:=kG l k;have r:=zn hs hl k;have y:=qK l k;have j:=zp s k;by_cases hlt:k< l.length;obtain⟨p,hp⟩:∃p,l[k]?=some p:=⟨_,List.getElem?_eq_getElem hlt⟩;have hpd:l.getD k []=p:=by rw[List.getD_eq_getElem?_getD,hp];rfl
 obtain⟨S,hp2⟩:=hl p (List.mem_of_getElem? hp);have D:(mE l)[((k:Nat):Int).toNat]?=some [.arr (pE p)]:=iH hp _ (by simp);have a:ecK l (k+1)=ecT (ecK l k) p:=by rw[ecK,hpd]
 have hEk:2* ecB s k+2* rbB s (ecB s k) k+2<=50000000000:=Nat.le_trans (J6 s (show k+1<=l.length by omega)) hE;obtain⟨F,G⟩:=rd_ok hB.piv S hs (fun b hb=>(r b hb).1) j y (by omega) hp2 (fun b hb=>(r b hb).2) (by omega);obtain⟨q1,q2⟩:=uJ hB.piv S hs (fun b hb=>(r b hb).1) j y;have hu1:=yu s (ecB s k) k;have w:¬a8 (reP p (ecK l k))< 0->Piv (ecP (reP p (ecK l k))):=fun v=>(qJ (Classical.byContradiction fun e=>v (degP_nil.2 e))).1;obtain⟨e1,e2⟩:=J5 q1 (by omega);generalize hu:rbB s (ecB s k) k=u at *
 generalize hO:ecK l k=O at *
 obtain⟨q,hq⟩:∃q,q=reP p O:=⟨_,rfl⟩;have hR:=xf p O (by omega) F G;have V:=fun b1 c=>Df p O b1 (some ⟨b1,0,none⟩) (O.map fun b=>AV.arr (pE b)).length c (by omega) F G;rw[<-hq] at hR V q1 q2 e1 e2 w;have X:=dc q (by omega);have N:=pX q (by omega);have hI:FS 26 [i64 1] (.agg (qC 1)):=ei 1 (by decide);have hlq:=Fg q1 (by omega);have h11:qs 1<=1:=by decide
 have hqsd:=iC 1 (ba q);have K:=fk q (1/ ba q) (dI q1 (by omega)) (show qs _<=_ by omega) (by omega);rw[show a7 q (1/ ba q)=ecP q from rfl] at K;have t:¬a8 q< 0->FS 78 [.agg (qC 1),.agg (qC (ba q))] (.agg (qC (1/ ba q))):=fun v=>pR 1 (ba q) (je (Classical.byContradiction fun e=>v (degP_neg.2 (Classical.byContradiction fun e'=>e e')))) (by omega);have n:ecT O p=if a8 q< 0 then O else j4 (O.map (fun o=>reP o [ecP q])++[ecP q]) O.length:=by rw[hq];rfl
 rcases hm:O.length with _|m
 have J:O=[]:=List.eq_nil_of_length_eq_zero hm;subst J;rw[FK];refine q_z 1 ?_;refine ae (cT (am (ae (ah (s_r 3 ?_)))));refine i_x D ?_;refine l_1 D ?_;refine a_z ?_;refine ae (r_c 4 (hR) ?_);refine a_z ?_;by_cases v:a8 q< 0;refine r_c 3 (X) ?_;refine d_z ?_;refine cT (aw (r_m 2 ?_));refine a_z ?_;refine⟨k+1,by omega,by omega,?_⟩;rw[a,n,if_pos v];show SEnt _ (ehS l (k+1) 0 []);rw[FK];have:=closed_mA l;exact s_f [];have t:=t v;have d:=FH [ecP q] 1 rfl (by omega) (by omega) (fun x Y=>by rw[List.mem_singleton.1 Y];omega);refine r_c 3 (X) ?_;refine d_z ?_;refine cF (am (r_c 7 (hI) ?_));refine c_s (N) ?_;refine c_s (t) ?_;refine c_s (K) ?_;refine a_z ?_;refine ae (r_z 3 ?_);refine aC (fun _:Unit=>⟨[(3,.emp),(5,.arr (pE (ecP q))),(7,.arr (mE l)),(8,i64 l.length),(9,i64 k)],[],1,49⟩) (fun _=>True) ?_ ?_;refine ah (ax (fun _:Unit=>⟨[(3,.emp),(5,.arr (pE (ecP q))),(7,.arr (mE l)),(8,i64 l.length),(9,i64 k),(26,i64 0),(27,i64 0)],[],1,49⟩) (fun _=>0) (fun _=>True) () trivial ?_ ?_);exact s_x [] (fun hs=>J8) (fun hs=>e_58);rintro _ _;refine q_z 1 ?_;refine ae (cF (aw ⟨(),trivial,?_⟩));exact s_x [] (fun hs=>J8) (fun hs=>e_58);rintro _ _;refine r_z 5 ?_;refine AWp.ent (st':=⟨[(3,.lsl 1 0 1 none 1),(7,.arr (mE l)),(8,i64 l.length),(9,i64 k)],[(1,some ⟨35,1,mE [ecP q]⟩)],2,49⟩) ?_ ?_;have:=closed_mA l;have:=ca [ecP q];exact s_f [(1,3)];refine r_m 2 ?_;refine a_1 ?_;refine o_1 (.callE2 rfl rfl rfl rfl rfl rfl (d)) ?_;refine ao ?_;refine r_m 2 ?_;refine a_z ?_;refine⟨k+1,by omega,by omega,?_⟩
 rw[a,n,if_neg v];show SEnt _ (ehS l (k+1) (0+1) (j4 ([ecP q]) 0));rw[BG];have:=closed_mA l;exact s_f [(1,3)];have hmO:(mE O).length=m+1:=by simp[mE,hm]
 have hfull:List.take (m+1) (List.drop 0 (mE O))=mE O:=by rw[List.drop_zero,List.take_of_length_le (by omega)]
 have hone:=yP O;rw[BG];refine q_z 1 ?_;refine ae (cT (am (ae (ah (s_r 3 ?_)))));refine i_x D ?_;refine l_1 D ?_;refine a_z ?_;refine ae (s_r 4 ?_);refine a_2 ?_;refine o_0 (.callL (L:=O.map fun b=>AV.arr (pE b)) rfl rfl rfl rfl rfl rfl (mE_eq O) (by rw[List.length_map,hm]) (fun z hz=>by obtain⟨b,_,rfl⟩:=List.mem_map.1 hz;exact az b) V) ?_;refine a_z ?_;by_cases v:a8 q< 0;refine r_c 3 (X) ?_;refine d_z ?_;refine cT (aw (r_m 2 ?_));refine a_z ?_;refine⟨k+1,by omega,by omega,?_⟩;rw[a,n,if_pos v,hm,BG];have:=closed_mA l;exact s_f [(1,3)];have t:=t v;have T:=w v;refine r_c 3 (X) ?_;refine d_z ?_;refine cF (am (r_c 7 (hI) ?_));refine c_s (N) ?_;refine c_s (t) ?_;refine c_s (K) ?_;refine a_z ?_;refine ae (r_z 3 ?_);obtain⟨f,hf⟩:∃f,f=fun o=>reP o [ecP q]:=⟨_,rfl⟩;refine aC (fun _:Unit=>⟨[(3,.lsl 1 0 (m+1) none 1),(5,.arr (pE (ecP q))),(7,.arr (mE l)),(8,i64 l.length),(9,i64 k)],[(1,some ⟨35,1,mE (O.map f)⟩)],2,49⟩) (fun _=>True) ?_ ?_;refine ah (ax (ejqS l k m (ecP q) f O) (fun i=>m+1- i) (fun i=>i<=m+1) 0 (Nat.zero_le _) ?_ ?_);rw[ejqS.eq_1,mpI_0];exact s_x [(1,3)] (fun hs=>J8) (fun hs=>e_59);intro i hi;rw[ejqS.eq_1];have hll:(mE (mpI f O i)).length=m+1:=by simp[mE,hm]
 by_cases hil:i< m+1;obtain⟨o,Q⟩:∃o,O[i]?=some o:=⟨_,List.getElem?_eq_getElem (by omega)⟩;have U:(mE (mpI f O i))[0+((i:Nat):Int).toNat]?=some [.arr (pE o)]:=iH (mpI_get Q) _ (by simp);obtain⟨H,M⟩:=r o (List.mem_of_getElem? Q)
 have hRo:FS 41 [.arr (pE o),.arr [[.arr (pE (ecP q))]]] (.arr (pE (f o))):=by
  rw[hf];exact vf (B:=[ecP q]) (k:=1) (fun c C=>by rw[List.mem_singleton.1 C];exact T) H j (fun c C=>by rw[List.mem_singleton.1 C];exact e1) (by omega) (Nat.le_refl _) (by rw[rbB,rbB];omega) M (fun c C=>by rw[List.mem_singleton.1 C];omega) (by omega)
 have R:(mE (mpI f O i)).set (0+((i:Nat):Int).toNat) [.arr (pE (f o))]=mE (mpI f O (i+1)):=by rw[C3,show 0+((i:Nat):Int).toNat=i by simp,mpI_s Q]
 refine q_z 1 ?_;refine ae (cT (am (ae (ah (r_z 2 ?_)))));refine r_m 11 ?_;refine a_5 ?_;refine bF (.load_l1 rfl rfl U TG.h rfl) rfl rfl ?_;refine a_2 ?_;refine o_1 (.callS1 rfl rfl rfl (.keep (.shut rfl d_n (.nil))) rfl (hRo)) ?_;refine a_1 ?_;refine dB (.store rfl rfl U rfl rfl rfl TS.h (nle rfl)) ?_;refine ao ?_;refine r_m 2 ?_;refine a_z ?_;refine⟨i+1,by omega,by omega,?_⟩;rw[ejqS.eq_1];refine s_x [(1,3)] (fun hs=>J8) (fun hs=>?_)
 ·repeat' (first|exact aA|refine h_c ?_ ?_|exact aF hs R (ca _)|exact br|refine ay ?_|exact aq|refine ak ?_ ?_|exact ai hs (closed_mA l)|exact ai hs (az _)|exact aS)
 have he:i=m+1:=by omega
 refine q_z 1 ?_;refine ae (cF (aw ⟨(),trivial,?_⟩));rw[mpI_n (by omega)];exact s_x [(1,3)] (fun hs=>J8) (fun hs=>e_59);rintro _ _;have Z:=yP (O.map f);have hln2:(mE (O.map f)).length=m+1:=by simp[mE,hm]
 have d:=FH (O.map f++[ecP q]) (m+1+1) (by simp[hm]) (by omega) (by omega) (fun x Y=>by
  rcases List.mem_append.1 Y with g|g
  obtain⟨o,Q,rfl⟩:=List.mem_map.1 g;obtain⟨H,M⟩:=r o Q;have:=(uJ (B:=[ecP q]) (k:=1) (fun c C=>by rw[List.mem_singleton.1 C];exact T) H j (fun c C=>by rw[List.mem_singleton.1 C];exact e1) (by omega) (Nat.le_refl _)).2;rw[hf];show(reP o [ecP q]).length<=_;omega;rw[List.mem_singleton.1 g];omega)
 refine r_z 5 ?_;refine AWp.ent (st':=⟨[(3,.lsl 1 0 (m+1+1) none 1),(7,.arr (mE l)),(8,i64 l.length),(9,i64 k)],[(1,some ⟨35,1,mE (O.map f++[ecP q])⟩)],2,49⟩) ?_ ?_;refine s_x [(1,3)] (fun hs=>?_) (fun hs=>?_)
 ·repeat' (first|exact aI|refine au rfl ?_ ?_|exact ai hs (closed_mA l)|exact aS)
 ·repeat' (first|exact aA|refine h_c ?_ ?_|exact aF hs (by rw[w7];rfl) (ca _)|exact br|refine ay ?_|exact aq|refine ak ?_ ?_|exact ai hs (closed_mA l)|exact aS)
 refine r_m 2 ?_;refine a_1 ?_;refine o_1 (.callE2 rfl rfl rfl rfl rfl rfl (d)) ?_;refine ao ?_;refine r_m 2 ?_;refine a_z ?_;refine⟨k+1,by omega,by omega,?_⟩;rw[a,n,if_neg v,hm,ni,show(O.map (fun o=>reP o [ecP q])++[ecP q]).length=m+1+1 by simp[hm],BG,<-hf];have:=closed_mA l;exact s_f [(1,3)];have hge:k=l.length:=by omega
 have W:ecK l k=ecL l:=by rw[hge];rfl
 rw[W] at r y hB⊢;rcases hm:(ecL l).length with _|m
 have J:ecL l=[]:=List.eq_nil_of_length_eq_zero hm;rw[J,FK];refine q_z 1 ?_;refine ae (cF (aw ⟨(),trivial,?_⟩));exact s_e [];have hlen2:(mE (ecL l)).length=m+1:=by simp[mE,hm]
 have E:0+(m+1)<=(mE (ecL l)).length:=by omega
 have A:List.take (m+1) (List.drop 0 (mE (ecL l)))=mE (ecL l):=by rw[List.drop_zero];exact List.take_of_length_le (by omega)
 rw[BG];refine q_z 1 ?_;refine ae (cF (aw ⟨(),trivial,?_⟩));refine s_x [] (fun hs=>?_) (fun hs=>?_)
 ·repeat' (first|exact aI|refine au rfl ?_ ?_|exact Cv.shut hs rfl (aH rfl) E (aF hs A (ca _))|exact aS)
 ·repeat' (first|exact aA|refine h_c ?_ ?_|exact br|refine ay ?_|exact aq|refine ak ?_ ?_|exact Cv.shut hs rfl (aH rfl) E (aF hs A (ca _))|exact aS)
 rintro _ _;refine r_z 2 ?_;exact aj (t_e (closed_mA _))
end
section
variable {r p q g:Lq}{c l a b:Rat}{k:Ke}{n:Nat}{x:Nat->Rat}
theorem zi(h:∀i,coP r i=coP p i- c* coP q i)(x:Rat):aE r x=aE p x- c* aE q x:=by
 have:=ga (p:=r) (q:=dP p (a7 q c)) (fun i=>by rw[c9,bU,h];grind) x;rw[jL,fc] at this;grind
theorem jf{B:Lq}(h:∀i,coP r i=coP p i- c* coP q i)(a b:Rat):inQ (aX B r) a b=inQ (aX B p) a b- c* inQ (aX B q) a b:=by
 have f:ar (aX B r)=ar (dP (aX B p) (a7 (aX B q) c)):=fN fun x=>by
  rw[iN,jL,fc,iN,iN,zi h];grind
 have e:∀i,coP (aX B r) i=coP (aX B p) i- c* coP (aX B q) i:=fun i=>by
  rw[<-bH (aX B r),f,bH,c9,bU];grind
 have d:∀y,aE (aL (aX B r)) y=aE (aL (aX B p)) y- c* aE (aL (aX B q)) y:=fun y=>zi (fun i=>by
  rw[io,io,io];split;grind;rw[e,Rat.div_def,Rat.div_def,Rat.div_def];grind) y
 unfold inQ;rw[d,d];grind
theorem Fl(B:Lq)(a b:Rat):inQ (aX B []) a b=0:=by
 have:=jf (B:=B) (r:=[]) (p:=[]) (q:=[]) (c:=1) (fun i=>by rw[show coP [] i=0 from rfl];grind) a b;grind
theorem nG{α:Type}{f g h:α->Rat}{c:Rat}(H:∀p,f p=g p- c* h p):∀k:List α,kL f k=kL g k- c* kL h k
 |[]=>by rw[kL,kL,kL];grind
 |p::k=>by rw[kL,kL,kL,H p,nG H k];grind
def SolE(k:Ke)(l a b:Rat)(g u:Lq):Prop:=∀x,aE u x=aE g x+l* kL (fun p=>aE p.1 x* inQ (aX p.2 u) a b) k
theorem SolE.comb(hp:SolE k l a b g p)(hq:SolE k l a b [] q)(h:∀i,coP r i=coP p i- c* coP q i):SolE k l a b g r:=fun x=>by
 have e:=hp x;have d:=hq x;rw[eR] at d;have j:=nG (f:=fun p:Lq×Lq=>aE p.1 x* inQ (aX p.2 r) a b) (g:=fun z=>aE z.1 x* inQ (aX z.2 p) a b) (h:=fun z=>aE z.1 x* inQ (aX z.2 q) a b) (c:=c) (fun z=>by rw[jf h];grind) k;rw[zi h,j,e,d];grind
theorem SolE.nil(k:Ke)(l a b:Rat):SolE k l a b [] []:=fun x=>by
 have d:=nG (f:=fun p:Lq×Lq=>aE p.1 x* inQ (aX p.2 []) a b) (g:=fun _=>0) (h:=fun _=>0) (c:=1) (fun z=>by rw[Fl];grind) k;rw[d,eR];grind
theorem SolE.ext(hp:SolE k l a b g p)(h:∀i,coP r i=coP p i):SolE k l a b g r:=
 hp.comb (c:=0) (SolE.nil k l a b) fun i=>by rw[h];grind
theorem sQ_sh(f:Nat->Rat):∀n,sQ f (n+1)=f 0+sQ (fun i=>f (i+1)) n
 |0=>by rw[sQ,sQ,sQ];grind
 |n+1=>by rw[sQ,sQ_sh f n,sQ];grind
theorem lU{α:Type}(f:α->Rat)(d:α):∀k:List α,kL f k=sQ (fun j=>f (k.getD j d)) k.length
 |[]=>rfl
 |p::k=>by
  rw[kL,lU f d k,List.length_cons,sQ_sh];rfl
theorem uo{α:Type}(F:α->Rat)(d:α)(k:List α)(c:Lq)(hc:c.length=k.length):kL (fun z=>F z.1* z.2) (k.zip c)=sQ (fun j=>F (k.getD j d) * coP c j) k.length:=by
 rw[lU _ (d,0),List.length_zip,hc,Nat.min_self];refine bJ _ fun j e=>?_;have b:k[j]?=some k[j]:=List.getElem?_eq_getElem e;have a:c[j]?=some c[j]:=List.getElem?_eq_getElem (by omega);unfold coP;have f:(k.zip c)[j]?=some (k[j],c[j]):=by rw[List.getElem?_zip_eq_some];exact⟨b,a⟩
 rw[List.getD_eq_getElem?_getD,f,List.getD_eq_getElem?_getD,b,List.getD_eq_getElem?_getD,a];rfl
theorem mN(k:Ke)(c:Lq)(hc:c.length=k.length)(x:Rat):aE (smK k c k.length) x=sQ (fun j=>aE (k.getD j ([],[])).1 x* coP c j) k.length:=by
 have h:=wM x k c [] hc;rw[eR] at h;rw[<-uo (fun p:Lq×Lq=>aE p.1 x) ([],[]) k c hc];unfold smK;rw[List.take_length,h];grind
theorem Ag(B:Lq)(a b:Rat):∀(k:Ke) (c o:Lq),c.length=k.length->inQ (aX B (om k c o)) a b=inQ (aX B o) a b+kL (fun p=>inQ (aX B p.1.1) a b* p.2) (k.zip c)
 |[],[],o,_=>by rw[om];show _=_+0;grind
 |p::k,[],_,h=>by cases h
 |[],z::c,_,h=>by cases h
 |p::k,z::c,o,h=>by
  have e:=jf (B:=B) (r:=smF z o p) (p:=o) (q:=p.1) (c:= -z) (fun i=>by unfold smF;rw[fx,bU];grind) a b;rw[om,List.tail_cons,im,Ag B a b k c _ (by simpa using h),e,List.zip_cons_cons,kL];grind
theorem tk(B:Lq)(a b:Rat)(k:Ke)(c:Lq)(hc:c.length=k.length):inQ (aX B (smK k c k.length)) a b=sQ (fun j=>inQ (aX B (k.getD j ([],[])).1) a b* coP c j) k.length:=by
 rw[<-uo (fun p:Lq×Lq=>inQ (aX B p.1) a b) ([],[]) k c hc];unfold smK;rw[List.take_length,Ag B a b k c [] hc,Fl];grind
theorem Il{A:Nat->Nat->Rat}{c0:Rat}{r:Nat->Rat}{i:Nat}(hx:Sol c0 (svM A l r n) n x)(hi:i< n):x i=l* sQ (fun j=>A i j* x j) n+c0* r i:=by
 have h:=hx i hi;rw[show svM A l r n i n=r i from if_pos rfl,bJ (g:=fun j=>(if j=i then x i else 0)- l* (A i j* x j)) n fun j a=>?_,iU,gS,if_pos hi] at h;grind;unfold svM;rw[if_neg (by omega)];by_cases e:j=i;subst e;rw[if_pos rfl,if_pos rfl];grind;rw[if_neg e,if_neg e];grind
theorem ea{j:Nat}(hj:j< n):coP (aJ n x) j=x j:=by rw[fQ,if_pos hj]
theorem Af{r:Nat->Rat}(hx:Sol 0 (svM (maK k a b) l r k.length) k.length x):SolE k l a b [] (smK k (aJ k.length x) k.length):=fun t=>by
 rw[eR,mN k _ (by simp),lU _ ([],[]),bJ (g:=fun j=>(aE (k.getD j ([],[])).1 t* inQ (aX (k.getD j ([],[])).2 (smK k (aJ k.length x) k.length)) a b) * l) k.length fun j c=>?_,yk];grind;rw[tk _ a b k _ (by simp),ea c,bJ (g:=fun i=>maK k a b j i* x i) k.length fun i d=>by rw[ea d];rfl];have:=Il hx c;generalize sQ (fun i=>maK k a b j i* x i) k.length=z at *
 rw[this];grind
theorem Ae(hx:Sol 1 (svM (maK k a b) l (fun t=>coP (rhK k g a b) t) k.length) k.length x):SolE k l a b g (fy g (a7 (smK k (aJ k.length x) k.length) l)):=fun t=>by
 have e:∀j,j< k.length->inQ (aX (k.getD j ([],[])).2 (fy g (a7 (smK k (aJ k.length x) k.length) l))) a b=x j:=fun j d=>by
  rw[jf (p:=g) (q:=smK k (aJ k.length x) k.length) (c:= -l) (fun i=>by rw[fx,bU];grind),tk _ a b k _ (by simp),bJ (g:=fun i=>maK k a b j i* x i) k.length fun i m=>by rw[ea m];rfl];have f:=Il hx d
  have h:coP (rhK k g a b) j=inQ (aX (k.getD j ([],[])).2 g) a b:=by
   unfold coP rhK;rw[List.getD_eq_getElem?_getD,List.getD_eq_getElem?_getD,List.getElem?_map,List.getElem?_eq_getElem d];rfl
  rw[h] at f;generalize sQ (fun i=>maK k a b j i* x i) k.length=z at *
  rw[f];grind
 rw[jM,fc,mN k _ (by simp),lU _ ([],[]),bJ (g:=fun j=>aE (k.getD j ([],[])).1 t* inQ (aX (k.getD j ([],[])).2 (fy g (a7 (smK k (aJ k.length x) k.length) l))) a b) k.length fun j d=>by rw[e j d,ea d]];grind
theorem A6(k:Ke)(l:Rat)(g u:Lq)(a b x:Rat):aE (hoP k l g u a b) x=aE g x+l* kL (fun p=>aE p.1 x* inQ (aX p.2 u) a b) k:=by
 unfold hoP;rw[jM,fc,mN k _ (by simp),lU _ ([],[]),bJ (g:=fun j=>aE (k.getD j ([],[])).1 x* inQ (aX (k.getD j ([],[])).2 u) a b) k.length fun j c=>?_];grind
 have d:coP (rhK k u a b) j=inQ (aX (k.getD j ([],[])).2 u) a b:=by
  unfold coP rhK;rw[List.getD_eq_getElem?_getD,List.getD_eq_getElem?_getD,List.getElem?_map,List.getElem?_eq_getElem c];rfl
 rw[d]
theorem mem_frL{L:Ln}{f:Nat}:f∈frL L n↔f< n/\f∉L:=by simp[frL]
theorem FC(M:Mx)(n:Nat):∀c,(frL (slM M n c).2 c).length+(slM M n c).2.length=c
 |0=>rfl
 |c+1=>by
  have g:=FC M n c;have a:=c8 M n c
  have f:c∉ (slM M n c).2:=fun h=>by
   obtain⟨i,d⟩:=List.getElem?_of_mem h;have:=a.lt i c d;omega
  rw[slM];unfold slC;cases pvR (slM M n c).1 n (slM M n c).2.length c with
  |none=>
   show(frL (slM M n c).2 (c+1)).length+(slM M n c).2.length=c+1;rw[qg (by simpa using f),List.length_append,List.length_singleton];omega
  |some p=>
   show(frL ((slM M n c).2++[c]) (c+1)).length+((slM M n c).2++[c]).length=c+1
   have e:frL ((slM M n c).2++[c]) c=frL (slM M n c).2 c:=by
    unfold frL;refine List.filter_congr fun j b=>?_;have:=List.mem_range.1 b;simp;omega
   rw[vw (by simp),e,List.length_append,List.length_singleton];omega
theorem D8{M:Mx}{n s:Nat}(h:bdM M n s):∀c,c<=n->bdM (slM M n c).1 n (slB s (slM M n c).2.length)
 |0,_=>h
 |c+1,hc=>by
  have b:=D8 h c (by omega);have a:=Kx b (c8 M n c).len (show c< n by omega);rw[slM]
  revert a
  unfold slC;cases pvR (slM M n c).1 n (slM M n c).2.length c with
  |none=>exact fun _=>b
  |some p=>
   intro a;show bdM _ n (slB s ((slM M n c).2++[c]).length);rw[List.length_append,List.length_singleton,slB];exact a
end
section
variable {a b l:Rat}{k:Ke}{g:Lq}
theorem tH{p u:Lq}{t:Nat}(hp:p.length<=4)(bp:bdL p 20)(hu:u.length<=6)(bu:bdL u t)(ht:1<=t)(ht2:t<=100000000)(qa:qs a<=20)(qb:qs b<=20):jZ p u/\OkIn (aX p u) a b/\qs (inQ (aX p u) a b)<=80* t+2600:=by
 have m1:=yN bp bu (by omega) ht;have l1:=wY p u;have e1:p.length* (20+t+1)<=4* (20+t+1):=Nat.mul_le_mul_right _ hp;have m2:=bdL_mono' (b:=4* t+85) m1 (by omega);have i1:=sT m2 (by omega) (by omega);have m:=iV (aX p u);have q:=mxL_le bp (by omega);have o:=mxL_le bu ht;have l:p.length* (mxL p+mxL u+1)<=4* (20+t+1):=Nat.mul_le_mul hp (by omega)
 have ev:∀y:Rat,qs y<=20->hZ (aL (aX p u)) y/\qs (aE (aL (aX p u)) y)<=40* t+1271:=fun y f=>by
  have k:=j7 f i1;have i:=mxL_le i1 (by omega);have n:(aL (aX p u)).length* (4* t+85+21+20+1)<=10* (4* t+85+21+20+1):=Nat.mul_le_mul_right _ (by omega);have j:(aL (aX p u)).length* (mxL (aL (aX p u))+qs y+1)<=10* (4* t+127):=Nat.mul_le_mul (by omega) (by omega);exact⟨⟨by omega,by omega⟩,by omega⟩
 obtain⟨g,e⟩:=ev a qa;obtain⟨d,c⟩:=ev b qb;refine⟨⟨by omega,by omega,by omega,by omega⟩,⟨dI m2 (by omega),by omega,d,g,by omega⟩,?_⟩;have h:=uM (aE (aL (aX p u)) b) (aE (aL (aX p u)) a);unfold inQ;omega
theorem ko(hk:TmK k){c:Lq}{C:Nat}(hc:∀i,qs (coP c i)<=C)(hC:C<=10000000000):(∀i,i<=k.length->bdL (smK k c i) (i* (C+22)+1)/\(smK k c i).length<=4)/\∀i p,k[i]?=some p->OkSm k c i p:=by
 have g:=hk.l
 have d:∀i,i<=k.length->bdL (smK k c i) (i* (C+22)+1)/\(smK k c i).length<=4:=fun i=>by
  induction i with
  |zero=>exact fun _=>⟨fun q h=>(by cases h),Nat.zero_le _⟩
  |succ i m=>
   intro f;obtain⟨b1,l1⟩:=m (by omega);obtain⟨p,hp⟩:∃p,k[i]?=some p:=⟨_,List.getElem?_eq_getElem f⟩;have a:=List.mem_of_getElem? hp;have s1:=fm (hk.b p a).1 (by omega) (hc i);have s2:=b8 p.1 (coP c i);have j:=(hk.n p a).1;have o:=zU b1 s1 (by omega) (by omega);have a2:=jm (smK k c i) (a7 p.1 (coP c i));rw[H7 hp];unfold smF;exact⟨bdL_mono' o (by rw[Nat.succ_mul];omega),by omega⟩
 refine⟨d,fun i p hp=>?_⟩;have f:=(List.getElem?_eq_some_iff.1 hp).1;obtain⟨b1,l1⟩:=d i (by omega);have a:=List.mem_of_getElem? hp;have e:i* (C+22)<=3* (C+22):=Nat.mul_le_mul_right _ (by omega);have s1:=fm (hk.b p a).1 (by omega) (hc i);have s2:=b8 p.1 (coP c i);have j:=(hk.n p a).1;exact⟨dI (hk.b p a).1 (by omega),by omega,Nat.le_trans (hc i) (by omega),dI b1 (by omega),by omega,dI s1 (by omega),by omega⟩
theorem ho_tame{u:Lq}{t:Nat}(hk:TmK k)(hke:rD k)(hg:g.length<=5)(bg:bdL g 20)(qL:qs l<=20)(qa:qs a<=20)(qb:qs b<=20)(ab:a<=b)(hu:u.length<=6)(bu:bdL u t)(ht:1<=t)(ht2:t<=100000000):OkHo k l g u a b:=by
 have f:=hk.l;have d:=fun p hp=>tH (a:=a) (b:=b) (hk.n p hp).2 (hk.b p hp).2 hu bu ht ht2 qa qb
 obtain⟨s1,s2⟩:=ko hk (c:=rhK k u a b) (C:=80* t+2600) (fun i=>by
  by_cases h:i< k.length
  have e:coP (rhK k u a b) i=inQ (aX k[i].2 u) a b:=by
   unfold coP rhK;rw[List.getD_eq_getElem?_getD];simp[h]
  rw[e];exact(d _ (List.getElem_mem h)).2.2;rw[eJ (by simp;omega)];exact Nat.le_trans (by decide:qs 0<=1) (by omega)) (by omega)
 obtain⟨m,s⟩:=s1 k.length (Nat.le_refl _);have e:k.length* (80* t+2600+22)<=3* (80* t+2600+22):=Nat.mul_le_mul_right _ f;have o:=fm m (by omega) qL;have r:=b8 (smK k (rhK k u a b) k.length) l;have q:=zU bg o (by omega) (by omega);have a2:=jm g (a7 (smK k (rhK k u a b) k.length) l);have j:a8 g<=20:=by have:=qN g (n:=4) (by omega);omega
 exact⟨hke,j,by omega,by unfold sm;omega,by unfold sm;omega,ab,fun p hp=>⟨(d p hp).1,(d p hp).2.1⟩,s2,dI m (by omega),by omega,by unfold sm;omega,dI o (by omega),dI bg (by omega),dI q (by omega),by omega,dI bu (by omega),by omega⟩
theorem ta_tame(hk:TmK k)(hke:rD k)(hg:g.length<=5)(bg:bdL g 20)(qL:qs l<=20)(qa:qs a<=20)(qb:qs b<=20)(ab:a<=b):OkTa k l g a b 4300:=by
 have e:=hk.l;have c:=fun p hp u (hu:u.length<=5) bu=>tH (u:=u) (t:=20) (a:=a) (b:=b) (hk.n p hp).2 (hk.b p hp).2 (Nat.le_trans hu (by decide)) bu (by omega) (by omega) qa qb;have m:a8 g<=20:=by have:=qN g (n:=4) (by omega);omega
 have f:∀i,i< k.length->k.getD i ([],[])∈k:=fun i d=>by
  rw[List.getD_eq_getElem?_getD,List.getElem?_eq_getElem d];exact List.getElem_mem d
 refine⟨hke,by unfold sm;omega,by unfold sm;omega,ab,m,by omega,⟨⟨by omega,fun p hp q o=>?_⟩,fun i j d r=>?_,?_⟩,fun p hp=>?_⟩;have h:=c p hp q.1 (by have:=(hk.n q o).1;omega) (hk.b q o).1;exact⟨h.1,h.2.1⟩;have h:=(c _ (f i d) (k.getD j ([],[])).1 (by have:=(hk.n _ (f j r)).1;omega) (hk.b _ (f j r)).1).2.2;unfold maK;omega;have:slB 4300 k.length<=slB 4300 3:=k8 e;exact Nat.le_trans this (by decide);have h:=c p hp g hg bg;exact⟨h.1,h.2.1,by omega⟩
theorem Ai{M M':Mx}{n:Nat}(h:∀i j,j< n->M i j=M' i j):∀c,c<=n->(slM M n c).2=(slM M' n c).2/\∀i j,j< n->(slM M n c).1 i j=(slM M' n c).1 i j
 |0,_=>⟨rfl,h⟩
 |c+1,hc=>by
  obtain⟨e1,e2⟩:=Ai h c (by omega);rw[slM,slM];generalize slM M n c=A at *
  generalize slM M' n c=B at *
  have hp:pvR A.1 n A.2.length c=pvR B.1 n B.2.length c:=by
   unfold pvR;rw[e1];congr 1;funext p;rw[e2 p c (by omega)]
  unfold slC;rw[hp];cases pvR B.1 n B.2.length c with
  |none=>exact⟨e1,e2⟩
  |some p=>
   refine⟨by show A.2++[c]=B.2++[c];rw[e1],fun i j a=>?_⟩;show rdM (scM (swM A.1 A.2.length p) A.2.length (1/ A.1 p c)) A.2.length c i j=rdM (scM (swM B.1 B.2.length p) B.2.length (1/ B.1 p c)) B.2.length c i j
   have b:∀r i j,j< n->swM A.1 r p i j=swM B.1 r p i j:=fun r i j a=>by
    unfold swM;split;exact e2 _ _ a;split <;> exact e2 _ _ a
   have sc:∀r f i j,j< n->scM (swM A.1 r p) r f i j=scM (swM B.1 r p) r f i j:=fun r f i j a=>by
    unfold scM;split <;> rw[b _ _ _ a]
   rw[e1,e2 p c (by omega)];unfold rdM;split;exact sc _ _ _ _ a;rw[sc _ _ _ _ a,sc _ _ _ _ (show c< n by omega),sc _ _ _ _ a]
def bK(k:Ke)(l:Rat)(g:Lq)(a b:Rat):Lw:=ecL (zsK k (syM k l (rhK k g a b) a b))
theorem F8{A B:Mx}{L:Ln}{f n:Nat}(h:∀i j,j< n->A i j=B i j)(hf:f< n):zerX A L f=zerX B L f:=funext fun j=>by
 unfold zerX;rw[h _ f hf]
theorem bK_same(k:Ke)(l:Rat)(g g':Lq)(a b:Rat):bK k l g a b=bK k l g' a b:=by
 obtain⟨e1,e2⟩:=Ai (M:=svM (maK k a b) l (fun t=>coP (rhK k g a b) t) k.length) (M':=svM (maK k a b) l (fun t=>coP (rhK k g' a b) t) k.length) (n:=k.length) (fun i j d=>by unfold svM;simp only[show¬j=k.length by omega,if_false]) k.length (Nat.le_refl _);unfold bK zsK syM;rw[e1,List.map_congr_left (l:=frL _ k.length) (f:=e9 (slM (svM (maK k a b) l (fun t=>coP (rhK k g a b) t) k.length) k.length k.length).1 k.length (slM (svM (maK k a b) l (fun t=>coP (rhK k g' a b) t) k.length) k.length k.length).2) (g:=e9 (slM (svM (maK k a b) l (fun t=>coP (rhK k g' a b) t) k.length) k.length k.length).1 k.length (slM (svM (maK k a b) l (fun t=>coP (rhK k g' a b) t) k.length) k.length k.length).2) fun f c=>?_];unfold e9;rw[F8 e2 (mem_frL.1 c).1]
structure Fre (k:Ke)(l a b:Rat)(B:Lw):Prop where
 bas:Bas B
 sol:∀p∈B,SolE k l a b [] p
 bd:∀p∈B,bdL p 1400000/\p.length<=4
 len:B.length<=3
theorem Ky(h:OkTa k l g a b 4300):bdM (svM (maK k a b) l (fun t=>coP (rhK k g a b) t) k.length) k.length 4300:=h.sy.bd fun i c=>by
 have e:coP (rhK k g a b) i=inQ (aX k[i].2 g) a b:=by
  unfold coP rhK;rw[List.getD_eq_getElem?_getD];simp[c]
 rw[e];exact(h.rh _ (List.getElem_mem c)).2.2
theorem HP{n C:Nat}{x:Nat->Rat}(h:∀j,j< n->qs (x j)<=C)(hC:1<=C)(i:Nat):qs (coP (aJ n x) i)<=C:=by
 rw[fQ];split;exact h i (by assumption);exact Nat.le_trans (by decide:qs 0<=1) hC
section
variable {k:Ke}{l a b:Rat}{g:Lq}
theorem oZ(h:OkTa k l g a b 4300)(hkl:k.length<=3):∃C r,(syM k l (rhK k g a b) a b).2.length=r/\(frL (syM k l (rhK k g a b) a b).2 k.length).length+r=k.length/\1<=C/\C<=300000/\
    (∀f∈frL (syM k l (rhK k g a b) a b).2 k.length,∀i,qs (coP (e9 (syM k l (rhK k g a b) a b).1 k.length (syM k l (rhK k g a b) a b).2 f) i)<=C)/\(∀i,qs (coP (mK k l g a b) i)<=C)/\∀m,m+r<=3->ecB (3* (C+22)+1) m<=1400000/\rbB (3* (C+22)+50) (ecB (3* (C+22)+1) m) m<=10000000:=by
 have hb:=D8 (Ky h) k.length (Nat.le_refl _);have q:=c8 (svM (maK k a b) l (fun t=>coP (rhK k g a b) t) k.length) k.length k.length;have n:=FC (svM (maK k a b) l (fun t=>coP (rhK k g a b) t) k.length) k.length k.length;unfold mK;change∃C r,(slM (svM (maK k a b) l (fun t=>coP (rhK k g a b) t) k.length) k.length k.length).2.length=r/\_;unfold syM;generalize slM (svM (maK k a b) l (fun t=>coP (rhK k g a b) t) k.length) k.length k.length=A at *
 have p:∀j,j∈A.2->A.2.idxOf j< k.length:=fun j o=>by
  have y:=List.idxOf_lt_length_of_mem o;have x:=q.len2;omega
 have w:1<=slB 4300 A.2.length:=Nat.le_trans (by decide) (k8 (s:=4300) (Nat.zero_le _));refine⟨slB 4300 A.2.length+1,A.2.length,rfl,n,by omega,?_,fun f u i=>?_,fun i=>?_,fun m c=>?_⟩;have:slB 4300 A.2.length<=slB 4300 3:=k8 (by omega);have e:slB 4300 3=275242:=by decide
 omega;refine HP (fun j o=>?_) (by omega) i;unfold zerX;split
 ·rename_i c
  rw[iB];exact Nat.le_trans (hb _ _ (p j (by simpa using c)) (by have:=(mem_frL.1 u).1;omega)) (by omega)
 split;exact Nat.le_trans (by decide:qs 1<=1) (by omega);exact Nat.le_trans (by decide:qs 0<=1) (by omega);refine HP (fun j o=>?_) (by omega) i;unfold oneX;split
 ·rename_i c
  exact Nat.le_trans (hb _ _ (p j (by simpa using c)) (Nat.le_refl _)) (by omega)
 exact Nat.le_trans (by decide:qs 0<=1) (by omega);generalize A.2.length=r at c;have v:r=0\/r=1\/r=2\/r=3:=by omega
 have d:m=0\/m=1\/m=2\/m=3:=by omega
 rcases v with rfl|rfl|rfl|rfl <;> rcases d with rfl|rfl|rfl|rfl <;> first|omega|decide
theorem rZ(hk:TmK k)(h:OkTa k l g a b 4300):Fre k l a b (bK k l g a b):=by
 obtain⟨C,r,e1,e2,B,A,w,_,hs⟩:=oZ h hk.l;have x:=c8 (svM (maK k a b) l (fun t=>coP (rhK k g a b) t) k.length) k.length k.length;have j:=hk.l;have v:(zsK k (syM k l (rhK k g a b) a b)).length+r=k.length:=by rw[<-e2];simp[zsK]
 have o:=qK (zsK k (syM k l (rhK k g a b) a b)) (zsK k (syM k l (rhK k g a b) a b)).length
 have m:∀p∈zsK k (syM k l (rhK k g a b) a b),bdL p (3* (C+22)+1)/\p.length<=4:=fun p hp=>by
  obtain⟨z,d,rfl⟩:=List.mem_map.1 hp;obtain⟨f,n,rfl⟩:=List.mem_map.1 d;obtain⟨s1,s2⟩:=(ko hk (w f n) (by omega)).1 k.length (Nat.le_refl _);have e:k.length* (C+22)<=3* (C+22):=Nat.mul_le_mul_right _ j;exact⟨bdL_mono' s1 (by omega),s2⟩
 obtain⟨t1,t2⟩:=hs (zsK k (syM k l (rhK k g a b) a b)).length (by omega);have i:=zn (by omega) m (zsK k (syM k l (rhK k g a b) a b)).length;refine⟨kG _ _,zo (Q:=SolE k l a b []) (fun p q c r hp s h=>hp.comb s h) (SolE.nil k l a b) _ (fun p hp=>?_) _,fun p hp=>⟨bdL_mono' (i p hp).1 t1,(i p hp).2⟩,by show(ecK _ _).length<=3;omega⟩;obtain⟨z,d,rfl⟩:=List.mem_map.1 hp;obtain⟨f,n,rfl⟩:=List.mem_map.1 d;obtain⟨u,y⟩:=mem_frL.1 n;exact Af (r:=fun t=>coP (rhK k g a b) t) ((jz k.length).1 (x.zerX u y))
theorem J1(hk:TmK k)(h:OkTa k l g a b 4300):FS 98 [.arr (mE (zsK k (syM k l (rhK k g a b) a b)))] (.arr (mE (bK k l g a b))):=by
 obtain⟨C,r,e1,e2,o,n,j,_,hs⟩:=oZ h hk.l;have c:=hk.l;have i:(zsK k (syM k l (rhK k g a b) a b)).length+r=k.length:=by rw[<-e2];simp[zsK]
 refine Du _ (3* (C+22)+1) (by omega) (by omega) (fun p hp=>?_) (Nat.le_trans (hs _ (by omega)).1 (by decide));obtain⟨z,d,rfl⟩:=List.mem_map.1 hp;obtain⟨f,m,rfl⟩:=List.mem_map.1 d;obtain⟨s1,s2⟩:=(ko hk (j f m) (by omega)).1 k.length (Nat.le_refl _);have e:k.length* (C+22)<=3* (C+22):=Nat.mul_le_mul_right _ c;exact⟨bdL_mono' s1 (by omega),by omega⟩
theorem fs_Free(hk:TmK k)(h:OkTa k l [] a b 4300):FS 11 [.arr (kE k),.agg (spC a b),.agg (qC l)] (.tup [.arr (mE (bK k l [] a b)),i64 0]):=by
 obtain⟨C,r,e1,e2,o,n,m,_,hs⟩:=oZ h hk.l;have i:=hk.l;have g:=ff k l [] a b h.ke h.ha h.hb h.ab h.dg h.gl;have e:=lu k l [] a b 4300 h.sy h.rh;have d:=Bi k l [] a b (syM k l (rhK k [] a b) a b).1 (syM k l (rhK k [] a b) a b).2 (c8 _ _ _) (by omega) (fun f d=>(ko hk (m f d) (by omega)).2) _ (J1 hk h);refine f_n Tryz.func11 ?_ ?_;exact ac (aN k) (ac (aD (bh a b)) (ac (aO l) af));refine r_z 4 ?_;refine r_z 7 ?_;have j:∀c∈(.arr (kE k)::(qC l++[.emp]))++spC a b,Closed c:=cj (ac (aN k) (cj (bi l) (ac b9 af))) (bh a b);refine AWp.ent (st':=⟨[(8,.aptr [(.arr (kE k)::(qC l++[.emp]))++spC a b] 0 0)],[],1,20⟩) ?_ ?_;exact s_f [];refine ae (r_c 2 (g) ?_);refine ao ?_;refine cF (am (ae (r_d aT 6 ?_)));refine c_s (e) ?_;refine c_s (d) ?_;refine a_2 ?_;refine ao (n_k ?_);refine aj (Fin.many ⟨_,_,rfl,rfl,⟨_,_,rfl,rfl,rfl⟩⟩ (nle rfl) ?_);exact ak (ai aB (closed_mA _)) (ak (ai aB (ag _)) aq)
end
end
abbrev apK(k:Ke)(u:Lq)(a b:Rat)(i:Nat):Lq:=smK k (rhK k u a b) i
theorem apK_s{k:Ke}{u:Lq}{a b:Rat}{i:Nat}{p:Lq×Lq}(h:k[i]?=some p):apK k u a b (i+1)=fy (apK k u a b i) (a7 p.1 (inQ (aX p.2 u) a b)):=by
 have e:coP (rhK k u a b) i=inQ (aX p.2 u) a b:=by
  unfold coP rhK;rw[List.getD_eq_getElem?_getD,List.getElem?_map,h];rfl
 unfold apK;rw[H7 h,smF,e]
theorem tT{k:Ke}{u:Lq}{a b:Rat}{t:Nat}(hk:TmK k)(hu:u.length<=6)(bu:bdL u t)(ht:1<=t)(ht2:t<=20)(qa:qs a<=20)(qb:qs b<=20):∀i,i<=k.length->bdL (apK k u a b i) (i* 4222+1)/\(apK k u a b i).length<=4:=by
 have d:=fun p hp=>tH (a:=a) (b:=b) (hk.n p hp).2 (hk.b p hp).2 hu bu ht (by omega) qa qb;refine(ko hk (c:=rhK k u a b) (C:=4200) (fun i=>?_) (by decide)).1;by_cases h:i< k.length
 have e:coP (rhK k u a b) i=inQ (aX k[i].2 u) a b:=by
  unfold coP rhK;rw[List.getD_eq_getElem?_getD];simp[h]
 rw[e];have:=(d _ (List.getElem_mem h)).2.2;omega;rw[eJ (by simp;omega)];decide
def rapS(k:Ke)(x:List RQ)(a b:Rat):Nat->AState
 |i=>⟨[(0,.arr (keR k)),(2,.arr (rE x)),(4,.aptr [rC (rq a)++rC (rq b)] 0 0),(7,.arr (rE (rP (apK k (vR x) a b i)))),(8,i64 i)],[],1,33⟩
theorem dl(a b:Rat):∀c∈rC (rq a)++rC (rq b),Closed c:=fun c d=>(List.mem_append.1 d).elim (b6 _ c) (b6 _ c)
theorem xg(k:Ke)(x:List RQ)(a b:Rat)(t:Nat)(hk:TmK k)(hx:okX x)(hu:x.length<=6)(bu:bdL (vR x) t)(ht:1<=t)(ht2:t<=20)(qa:qs a<=20)(qb:qs b<=20):
    FS 22 [.arr (keR k),.agg (rC (rq a)++rC (rq b)),.arr (rE x)] (.arr (rE (rP (apK k (vR x) a b k.length)))):=by
 have z:=hk.l;have q:(keR k).length=k.length:=j2 k;have d:(vR x).length<=6:=by rw[cO];exact hu
 have B:=tT hk d bu ht ht2 qa qb;have m:Closed (.aptr [rC (rq a)++rC (rq b)] 0 0):=aU (dl a b);refine f_n Tryz.func22 ?_ ?_;exact ac (b5 k) (ac (aD (dl a b)) (ac (aY _) af));refine r_z 2 ?_;refine r_z 1 ?_;refine ae (r_z 1 ?_);refine aC (fun _:Unit=>⟨[(7,.arr (rE (rP (apK k (vR x) a b k.length))))],[],1,33⟩) (fun _=>True) ?_ ?_
 ·refine ah (ax (rapS k x a b) (fun i=>k.length- i) (fun i=>i<=k.length) 0 (Nat.zero_le _) ?_ ?_)
  rw[rapS.eq_1];refine s_x [] (fun hs=>?_) (fun hs=>?_)
  ·repeat' (first|exact aI|refine au rfl ?_ ?_|exact ai hs (b5 k)|exact ai hs (aY _)|exact Cv.boxp hs rfl (aH rfl) rfl (dl a b)|exact aS)
  ·repeat' (first|exact aA|refine h_c ?_ ?_|exact br|refine ay ?_|exact aq|refine ak ?_ ?_|exact ai hs (b5 k)|exact ai hs (aY _)|exact Cv.boxp hs rfl (aH rfl) rfl (dl a b)|exact aS)
  intro i A;rw[rapS.eq_1];by_cases hlt:i< k.length;rotate_left;have j:i=k.length:=by omega
  refine ae (q_z 4 ?_);refine cF (aw ⟨(),trivial,?_⟩);rw[j];exact s_f [];obtain⟨p,hp⟩:∃p,k[i]?=some p:=⟨_,List.getElem?_eq_getElem hlt⟩;have w:=List.mem_of_getElem? hp;have c:(keR k)[((i:Nat):Int).toNat]?=some (pkR p):=yT hp _ (by simp);obtain⟨b1,l1⟩:=B i A;obtain⟨E,r⟩:=hk.n p w;obtain⟨o,g⟩:=hk.b p w;have f:=tH (a:=a) (b:=b) r g d bu ht (by omega) qa qb;have m1:=yN g bu (by decide) ht;have C:=wY p.2 (vR x);have e1:p.2.length* (20+t+1)<=4* (20+t+1):=Nat.mul_le_mul_right _ r;have m2:=bdL_mono' (b:=200) m1 (by omega)
  have s:=Jx (rP p.2) x 20 t 400 (fq _) hx (by rw[c6];exact g) bu (by decide) (fun n D=>by
   rw[c6];have e:n* (20+t+1)<=6* (20+t+1):=Nat.mul_le_mul_right _ (by omega);exact bdL_mono' (mR_bd g bu (by decide) ht n) (by omega)) (by omega) (by simp;omega) (by omega)
  rw[c6] at s;have u:=Jw (rP (aX p.2 (vR x))) a b 200 (fq _) (by rw[c6];exact m2) (by decide) (by simp;omega) (by omega) (by omega) (by decide);rw[c6] at u;have v:=lx (rP p.1) (rq (inQ (aX p.2 (vR x)) a b)) 20 (fq _) (cK _) (by rw[c6];exact o) (by show 20+qs (inQ (aX p.2 (vR x)) a b)<=_;have:=f.2.2;omega) (by simp;omega);rw[c6] at v;have s1:=fm o (by decide) f.2.2;have s2:=b8 p.1 (inQ (aX p.2 (vR x)) a b);have y:=vh (rP (apK k (vR x) a b i)) (rP (a7 p.1 (inQ (aX p.2 (vR x)) a b))) (i* 4222+1) (20+(80* t+2600)) (fq _) (fq _) (by rw[c6];exact b1) (by rw[c6];exact s1) (by omega) (by simp;omega) (by simp;omega);rw[c6,c6,<-apK_s hp] at y;refine ae (q_z 4 ?_);refine cT (am (ae (ah (r_d aT 18 ?_))));refine a_3 ?_;refine i_x c ?_;refine bF (.fieldAddr_a rfl TF.h (by decide)) rfl rfl ?_;refine l_1 c ?_;refine a_2 ?_;refine i_x c ?_;refine bF (.fieldAddr_a rfl TF.h (by decide)) rfl rfl ?_;refine l_1 c ?_;refine c_s (s) ?_;refine c_s (u) ?_;refine c_s (v) ?_;refine c_s (y) ?_;refine a_1 ?_;refine ao (n_k ?_);refine r_m 3 ?_;refine a_z ?_;refine⟨i+1,by omega,by omega,?_⟩;rw[rapS.eq_1];refine s_x [] (fun hs=>?_) (fun hs=>?_)
  ·repeat' (first|exact aI|refine au rfl ?_ ?_|exact ai hs (b5 k)|exact ai hs (aY _)|exact ai hs m|exact aS)
  ·repeat' (first|exact aA|refine h_c ?_ ?_|exact br|refine ay ?_|exact aq|refine ak ?_ ?_|exact ai hs (b5 k)|exact ai hs (aY _)|exact ai hs m|exact aS)
 rintro _ _;refine r_z 2 ?_;exact aj (t_e (aY _))
end Go.Proofs.YtiodeiecpoopgaaGreatDoor
