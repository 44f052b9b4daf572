/- Part V24 of the proof. -/
import Derived.Test.YtjjllafelolfoaaGreatDoorV23
set_option linter.all false
namespace Go.Proofs.YtjjllafelolfoaaGreatDoor
open Go.Abs
set_option maxRecDepth 20000
set_option maxHeartbeats 2000000
theorem cg_(q:List Rat)(m x:Rat):evalP (subP q (a0_ m)) x=evalP q x- m:=by rw[a8_,cO_]
theorem up_le{f N h Q:Nat}{p:List Rat}{c:Cnt}(H:CG f N h Q p c){i:Int}{x y M:Rat}(a:At c i x y){q:List Rat}(hv:∀z,x≤z→z≤y→evalP q z≤M):¬Sgn c i (subP q (a0_ M)) 1:=by
 rintro⟨u,v,b1,b2,b3⟩;obtain⟨z,w,c1,c2,c3,c4,c5⟩:=iO_ H.hc H.np a b1;have s:=b2.sg c2 (by have:=c5.1;grind);rcases aS_ z (subP q (a0_ M)) with⟨_,g⟩|⟨g,_⟩|⟨g,_⟩
 rw[cg_] at g;have:=hv z c1 (by have:=c5.1;grind);grind;omega;omega
theorem lo_le{f N h Q:Nat}{p:List Rat}{c:Cnt}(H:CG f N h Q p c){i:Int}{x y M:Rat}(a:At c i x y){q:List Rat}(hv:∀z,x≤z→z≤y→M≤evalP q z):¬Sgn c i (subP q (a0_ M)) (-1):=by
 rintro⟨u,v,b1,b2,b3⟩;obtain⟨z,w,c1,c2,c3,c4,c5⟩:=iO_ H.hc H.np a b1;have s:=b2.sg c2 (by have:=c5.1;grind);rcases aS_ z (subP q (a0_ M)) with⟨g,_⟩|⟨_,g⟩|⟨g,_⟩
 omega;rw[cg_] at g;have:=hv z c1 (by have:=c5.1;grind);grind;omega
theorem qs_p2{x:Rat}{k n:Nat}{z:Int}(e:x* p2 k=(z:Rat))(hz:bl z.natAbs≤n)(hk:k+1≤n):qs x≤n:=by
 have:=mY_ (x:=x* p2 k) (y:=p2 k) ⟨z,e,hz⟩ (⟨((2^ k:Nat):Int),rfl,by
  exact bl_le (Nat.pow_lt_pow_right (by decide) (by omega))⟩:IB (p2 k) n) (by have:=bH_ k;grind) (by omega)
 rwa[Rat.mul_div_cancel (by have:=bH_ k;grind)] at this
theorem qd_{q:List Rat}{K m:Rat}{hq W kk:Nat}{z:Int}(bq:bdL q hq)(h1:1≤hq)(H:HS q K hq)(e:m* p2 kk=(z:Rat))(hz:bl z.natAbs≤W+kk):bdL (subP q (a0_ m)) (hq+W+kk+3)∧Ht (subP q (a0_ m)) (hq+W+kk+3):=by
 have hm:qs m≤W+kk+1:=qs_p2 e (by omega) (by omega);have hp:IB (p2 kk) (kk+1):=⟨((2^ kk:Nat):Int),rfl,by exact bl_le (Nat.pow_lt_pow_right (by decide) (by omega))⟩;have pk:=bH_ kk;have hzI:IB (m* p2 kk) (W+kk):=⟨z,e,hz⟩;constructor;refine ew_ fun i=>?_;rw[ei_,ev_];have a:=bL_ bq h1 i;split;have:=jr_ (coP q i) m;omega;have:=jr_ (coP q i) 0;have:qs 0≤1:=by decide
 omega;refine⟨K* p2 kk,fun g=>?_,fun i=>?_⟩;rcases Rat.mul_eq_zero.1 g with g|g
 exact H.ne g;grind;have a:IB (coP q i* K* p2 kk) (hq+W+kk+2):=((H.co i).mul hp).mono (by omega);rw[ei_,ev_];split;have b:IB (-(m* p2 kk* K)) (hq+W+kk+2):=((hzI.mul H.sc).neg).mono (by omega);obtain⟨w,w1,w2⟩:=(a.add b);exact⟨w,by grind,w2⟩;obtain⟨w,w1,w2⟩:=a.mono (show _≤hq+W+kk+3 by omega);grind
theorem RC.value {f N h Q r J g hq J2 J3:Nat} {p:List Rat} {c:Cnt} {i k:Int} {A B K:Rat} (R:RC f N h Q r J p c i A B) {q:List Rat} (hql:q.length≤24) (lq:(trimQ q).length≤N) (hN1:1≤N) (bq:bdL q hq) (h1:1≤hq) (H:HS q K hq)
    (S:SB f N h Q r g (hq+(hq+(r+2) * 24+2)+wi k 256+3) J2) (hgJ:J< g) (hJ3:hq+(r+3) * 24+wi k 256+1≤J3) (hg3:J3< g) (hQ3:r+J3+4≤Q) (hlim:hq+24* (r+J3+2+hq+1)+(r+J3+2)≤60000000000) (hw3:wi k 256≤256) (hrw:(r+2) * 24≤100000):
    ∃v:Sp,kO_ f g c i q k=some v∧qs v.1≤hq+(r+2) * 24+2* wi k 256+4∧qs v.2≤hq+(r+2) * 24+2* wi k 256+4∧¬Sgn c i (subP q (a0_ v.2)) 1∧¬Sgn c i (subP q (a0_ v.1)) (-1):=by
 obtain⟨l,u,hs,l1,l2,a⟩:=R.span;have sz:=mT_ R.H l1 l2 a R.at_ R.hA R.hB;have hQ:=R.hQ;generalize hkk:wi k 256=kk at *
 have hfi:=hm_ kk;have pk:=bH_ kk
 have val:∀j,j≤J3→valT c q (fineQ kk) (closV c i ((l:Rat),(u:Rat)) j)=some (decide (cmpQ ((overP q (closV c i ((l:Rat),(u:Rat)) j)).2- (overP q (closV c i ((l:Rat),(u:Rat)) j)).1) (fineQ kk)< 0)):=fun j hj=>by
  obtain⟨q1,q2,q3,_⟩:=sz j;obtain⟨o1,o2,o3⟩:=pT_ (t:=r+J3+2) (u:=hq) (Nat.le_trans q1 (by omega)) (Nat.le_trans q2 (by omega)) bq h1 hql (by omega);have o4:=jr_ (overP q (closV c i ((l:Rat),(u:Rat)) j)).2 (overP q (closV c i ((l:Rat),(u:Rat)) j)).1;unfold valT;rw[if_pos ⟨o1,⟨Nat.le_trans o2 (by omega),Nat.le_trans o3 (by omega)⟩,Nat.le_trans o4 (by omega),Nat.le_trans hfi (by omega),⟨⟨Nat.le_trans q1 (by omega),Nat.le_trans q2 (by omega)⟩,(R.H.ok _ (by omega)).2⟩⟩]
 obtain⟨q1,q2,q3,q4,q5,q6,q7⟩:=sz J3;obtain⟨z0,_,_,_,f1⟩:=gm_ 0 kk
 have narrow:(overP q (closV c i ((l:Rat),(u:Rat)) J3)).2- (overP q (closV c i ((l:Rat),(u:Rat)) J3)).1< fineQ kk:=by
  obtain⟨_,_,_,t4,_⟩:=jt_ bq hql q7.1 q4 q5;have e1:hq+(r+1+2) * 24+(kk+1)≤J3:=by omega
  have e2:=Rat.mul_le_mul_of_nonneg_left (cw_ e1) (show 0≤(closV c i ((l:Rat),(u:Rat)) J3).2- (closV c i ((l:Rat),(u:Rat)) J3).1 by have:=q7.1;grind);rw[cp_,cp_ kk 1,e4_] at e2;have e3:=Rat.mul_le_mul_of_nonneg_right t4 (show 0≤p2 kk* 2 by grind);generalize (overP q (closV c i ((l:Rat),(u:Rat)) J3)).2- (overP q (closV c i ((l:Rat),(u:Rat)) J3)).1=w at *
  by_cases g:w< fineQ kk;exact g;have:=Rat.mul_le_mul_of_nonneg_right (show fineQ kk≤w by grind) (show 0≤p2 kk* 2 by grind);grind
 obtain⟨j,b1,b2,b3⟩:=gr_ (t:=fun j=>valT c q (fineQ kk) (closV c i ((l:Rat),(u:Rat)) j)) J3 g 0 hg3 (fun j _ hj=>⟨_,val j (by omega)⟩) (by
  rw[Nat.zero_add,val J3 (Nat.le_refl _),decide_eq_true (cmpQ_lt.2 narrow)])
 have b2':valT c q (fineQ kk) (closV c i ((l:Rat),(u:Rat)) j)=some true:=b2;rw[val j (by omega)] at b2';have b5:=cmpQ_lt.1 (of_decide_eq_true (Option.some.inj b2'));obtain⟨w1,w2,w3,w4,w5,w6,w7⟩:=sz j;obtain⟨t1,t2,t3,t4,t5⟩:=jt_ bq hql w7.1 w4 w5;obtain⟨o1,o2,o3⟩:=pT_ (t:=r+J3+2) (u:=hq) (Nat.le_trans w1 (by omega)) (Nat.le_trans w2 (by omega)) bq h1 hql (by omega);unfold kO_;rw[hs,Option.bind_some,hkk,b1,Option.bind_some];generalize closV c i ((l:Rat),(u:Rat)) j=s at *
 generalize overP q s=v at *
 obtain⟨z,g1,g2,g3,_⟩:=gm_ v.2 kk
 have hf0:0< fineQ kk:=by
  by_cases g:0< fineQ kk;exact g;have:=Rat.mul_le_mul_of_nonneg_right (show fineQ kk≤0 by grind) (Rat.le_of_lt pk);grind
 have hf1:fineQ kk≤1:=le_p2 (k:=kk) (by have:=p2_ge kk;grind);generalize hm:downQ v.2 kk=m at *
 -- the size of the number of the grid
 have hmag:ab m≤p2 (hq+(r+2) * 24+1):=by
  have a1:=ab_le.1 t3;have a2:=p2_ge (hq+(r+1+1) * 24);rw[show hq+(r+2) * 24+1=hq+(r+1+1) * 24+1 by omega,cp_ _ 1,e4_];exact ab_le.2 ⟨by grind,by grind⟩
 have hz:bl z.natAbs≤hq+(r+2) * 24+2+kk:=by
  have a1:ab (m* p2 kk)≤p2 (hq+(r+2) * 24+1+kk):=by
   rw[bx_,show ab (p2 kk)=p2 kk by unfold ab;rw[if_neg (by grind)],cp_ _ kk];exact Rat.mul_le_mul_of_nonneg_right hmag (Rat.le_of_lt pk)
  rw[g1,ab_le] at a1;unfold p2 at a1;rw[←Rat.intCast_neg,Rat.intCast_le_intCast,Rat.intCast_le_intCast] at a1;refine bl_le (Nat.lt_of_le_of_lt (show z.natAbs≤2^ (hq+(r+2) * 24+1+kk) by omega) (Nat.pow_lt_pow_right (by decide) (by omega)))
 have hmq:qs m≤hq+(r+2) * 24+2+kk:=qs_p2 g1 hz (by omega);have hm1:=c3_ m (fineQ kk);have hm2:=jr_ m (fineQ kk);unfold valR;rw[hkk,hm,if_pos ⟨Nat.le_trans hmq (by omega),⟨Nat.le_trans o2 (by omega),Nat.le_trans o3 (by omega)⟩,Nat.le_trans hfi (by omega),bI_ bq (by omega),by omega⟩];by_cases c1:cmpQ m v.1< 0;rw[if_pos c1];have:=cmpQ_lt.1 c1;exact⟨_,rfl,by show qs m≤_;omega,by show qs (m+fineQ kk)≤_;omega,up_le R.H w7 fun x a b=>by have:=(t5 x a b).2;show _≤m+fineQ kk;grind,lo_le R.H w7 fun x a b=>by have:=(t5 x a b).1;show m≤_;grind⟩;rw[if_neg c1];obtain⟨l1,l2⟩:=qd_ (W:=hq+(r+2) * 24+2) bq h1 H g1 hz
 obtain⟨t,s1,s2,s3⟩:=R.sign S hgJ (q:=subP q (a0_ m)) (by have:=eG_ q (a0_ m);have:=et_ m;omega) (by
  have e:trimQ (subP q (a0_ m))=trimQ (subP (trimQ q) (a0_ m)):=d3_ fun i=>by rw[ei_,ei_,aU_]
  rw[e];have a1:=aD_ (subP (trimQ q) (a0_ m));have a2:=eG_ (trimQ q) (a0_ m);have a3:=et_ m;omega) l1 l2
 rw[s1,Option.bind_some];by_cases ex:∃t',Sgn c i (subP q (a0_ m)) t';obtain⟨e1,e2⟩:=s2 ex;rcases e2 with rfl|rfl
 rw[if_neg (by decide),if_pos rfl];exact⟨_,rfl,by show qs m≤_;omega,by show qs (m+fineQ kk)≤_;omega,up_le R.H w7 fun x a b=>by have:=(t5 x a b).2;show _≤m+fineQ kk;grind,fun e=>by have:=m6_ R.H.hc R.H.np e1 e;omega⟩;rw[if_neg (by decide),if_neg (by decide)];exact⟨_,rfl,by show qs (m- fineQ kk)≤_;omega,by show qs m≤_;omega,fun e=>by have:=m6_ R.H.hc R.H.np e1 e;omega,lo_le R.H w7 fun x a b=>by have:=(t5 x a b).1;show m- fineQ kk≤_;grind⟩;rw[s3 ex,if_pos rfl];exact⟨_,rfl,by show qs m≤_;omega,by show qs m≤_;omega,fun e=>ex ⟨_,e⟩,fun e=>ex ⟨_,e⟩⟩
def hullS(a b:Sp):Sp:=(minL [a.1,b.1],maxL [a.2,b.2])
def qSpan(a:Rat)(k:Int):Sp:=(downQ a (wi k 256),upQ a (wi k 256))
def rlM(f g:Nat)(c:Cnt)(p:List Rat)(k:Int)(up:Int):Nat→Int→Sp→Option Sp
 |0,_,_=>none
 |n+1,i,o=>if i< up then(kO_ f g c i p k).bind fun v=>if smS o∧smS v then rlM f g c p k up n (i+1) (hullS o v) else none else some o
def mf_(p:List Rat)(s:Sp)(k:Int):Prop:=smS s∧b2_ p s.1∧b2_ p s.2∧smL p∧p.length≤274877906944∧cmpQ s.1 s.2≤0∧degP p≤40∧smS (qSpan (evalP p s.1) k)∧smS (qSpan (evalP p s.2) k)
instance (p:List Rat) (s:Sp) (k:Int):Decidable (mf_ p s k):=inferInstanceAs (Decidable (_∧_∧_∧_∧_∧_∧_∧_∧_))
def nf_(f g:Nat)(p:List Rat)(s:Sp)(k:Int):Option Sp:=
 if mf_ p s k then
  if degP (ao_ p)< 0 then some (hullS (qSpan (evalP p s.1) k) (qSpan (evalP p s.2) k))
  else(b9_ f (ao_ p)).bind fun c=>if okBe c s.1∧okUp c s.2 then rlM f g c p k (uptoV c s.2) g (aM_ c s.1) (hullS (qSpan (evalP p s.1) k) (qSpan (evalP p s.2) k)) else none
 else none
def rgS(p:List Rat)(s:Sp)(k:Int)(c:Cnt):Int×Sp→AState
 |(i,o)=>⟨[(0,.arr (pE p)),(2,i64 k),(4,bS s),(6,.lptr 1 0 0),(8,.lptr 2 0 0),(10,kA c),(11,i64 i)],[(1,some ⟨62,6,[zC++zC]⟩),(2,some ⟨62,6,[spC o.1 o.2]⟩)],3,66⟩
theorem fs_Range(f g:Nat)(p:List Rat)(s:Sp)(k:Int)(r:Sp)(h:nf_ f g p s k=some r)(hf:f≤1000000):FS 43 [.arr (pE p),.agg (spC s.1 s.2),i64 k] (.tup [.agg (spC r.1 r.2),i64 0]):=by
 unfold nf_ at h;split at h
 case isFalse=>cases h
 case isTrue hk=>
 obtain⟨k1,k2,k3,k4,k5,k6,k7,k8,k9⟩:=hk;have hdl:=dX_ p;obtain⟨o0,ho⟩:∃o,o=hullS (qSpan (evalP p s.1) k) (qSpan (evalP p s.2) k):=⟨_,rfl⟩;have hhu:=nH_ (qSpan (evalP p s.1) k).1 (qSpan (evalP p s.1) k).2 (qSpan (evalP p s.2) k).1 (qSpan (evalP p s.2) k).2 k8.1 k8.2 k9.1 k9.2;rw[←ho] at h;have hhu':FS 138 [.agg (spC (qSpan (evalP p s.1) k).1 (qSpan (evalP p s.1) k).2),.agg (spC (qSpan (evalP p s.2) k).1 (qSpan (evalP p s.2) k).2)] (.agg (spC o0.1 o0.2)):=by rw[ho];exact hhu
 refine f_c Tryz.func43 ?_;refine r_z 3 ?_;refine a2_ (fun _:Unit=>⟨[(0,.arr (pE p)),(2,i64 k),(4,bS s),(6,.lptr 1 0 0)],[(1,some ⟨62,6,[zC++zC]⟩)],2,66⟩) (fun _=>True) ?_ ?_;refine ae_ (r_c 4 (ep_ s.1 s.2 k1.1 k1.2) ?_);refine a_z ?_;refine ai_ rfl (fun h1=>?_) (fun h1=>?_);exact absurd h1 (by simp[k6]);refine r_c 4 (bc_ p (by omega)) ?_;refine a_z ?_;refine ai_ rfl (fun h2=>?_) (fun h2=>?_);exact absurd h2 (by simp;omega);refine ag_ ⟨(),trivial,?_⟩;exact s_e [(1,6)];rintro _ _;refine ab_ (r_d hmix 15 ?_);refine c_s (c5_ p s.1 k2) ?_;refine c_s (nJ_ (evalP p s.1) k (eT_ k2)) ?_;refine c_s (c5_ p s.2 k3) ?_;refine c_s (nJ_ (evalP p s.2) k (eT_ k3)) ?_;refine c_s (hhu') ?_;refine a_2 ?_;refine ak_ (n_k ?_);refine ab_ (r_c 3 (dS_ p k4 (by omega)) ?_);refine a_z ?_;refine r_c 3 (bc_ (ao_ p) (by omega)) ?_;refine a_z ?_;refine ay_ (fun _:Unit=>⟨[(6,.lptr 1 0 0),(8,.lptr 2 0 0)],[(1,some ⟨62,6,[zC++zC]⟩),(2,some ⟨62,6,[spC r.1 r.2]⟩)],3,66⟩) (fun _=>True) ?_ ?_;refine ai_ rfl (fun h3=>?_) (fun h3=>?_)
 ·have h4:¬degP (ao_ p)< 0:=by
   have:0≤degP (ao_ p):=by simpa using h3
   omega
  rw[if_neg h4] at h;obtain⟨c,hc,h5⟩:=Option.bind_eq_some_iff.1 h;split at h5
  case isFalse=>cases h5
  case isTrue hb=>
  refine r_c 3 (gp_ f (ao_ p) c hc hf) ?_;refine a_z ?_;refine r_c 5 (eP_ c s.1 hb.1) ?_;refine a_z ?_;have hub:=eC_ (x:=s.2) hb.2.1;have hbb:=l0_ (x:=s.1) hb.1.1.1;refine ae_ (as_ (fun x:Nat×Int×Sp=>rgS p s k c x.2) (fun x=>x.1) (fun x=>rlM f g c p k (uptoV c s.2) x.1 x.2.1 x.2.2=some r∧ -4611686018427387904≤x.2.1) (g,aM_ c s.1,o0) ⟨h5,by simp only;omega⟩ ?_ ?_);simp only[rgS.eq_1];exact s_e [(2,8)];rintro⟨n,i,o⟩ ⟨hrl,hil⟩;simp only at hrl hil;simp only[rgS.eq_1];cases n with
  |zero=>cases hrl
  |succ n=>
   rw[rlM] at hrl;refine ab_ (r_c 6 (fU_ c s.2 hb.2) ?_);refine a_z ?_;refine ai_ rfl (fun h6=>?_) (fun h6=>?_)
   ·have h7:i< uptoV c s.2:=by simpa using h6
    rw[if_pos h7] at hrl;obtain⟨v,hv,h8⟩:=Option.bind_eq_some_iff.1 hrl;split at h8
    case isFalse=>cases h8
    case isTrue hsm=>
    have hhv:FS 138 [.agg (spC o.1 o.2),.agg (spC v.1 v.2)] (.agg (spC (hullS o v).1 (hullS o v).2)):=nH_ o.1 o.2 v.1 v.2 hsm.1.1 hsm.1.2 hsm.2.1 hsm.2.2;refine ag_ (ab_ (ae_ (r_z 5 ?_)));refine AWp.ent (st':=⟨[(0,.arr (pE p)),(2,i64 k),(4,bS s),(6,.lptr 1 0 0),(8,.lptr 2 0 0),(10,kA c),(11,i64 i),(12,plA c i)],[(1,some ⟨62,6,[zC++zC]⟩),(2,some ⟨62,6,[spC o.1 o.2]⟩)],3,66⟩) ?_ ?_;refine s_x [] (fun hs=>?_) (fun hs=>?_)
    ·repeat' (first|exact a9_|refine aV_ rfl ?_ ?_|exact Cv.boxp hs rfl (a7_ rfl) rfl (aa_ (dB_ c) (aa_ (af_ _) ac_))|exact au_c)
    ·repeat' (first|exact aC_|refine h_c ?_ ?_|exact au_e|refine aA_ ?_|exact aq_|refine ah_ ?_ ?_|exact Cv.boxp hs rfl (a7_ rfl) rfl (aa_ (dB_ c) (aa_ (af_ _) ac_))|exact au_c)
    refine r_d hmix 7 ?_;refine c_s (fs_value f g c i p k v hv hf) ?_;refine c_s (hhv) ?_;refine a_1 ?_;refine ak_ (n_k ?_);refine r_m 3 ?_;refine a_z ?_;refine⟨(n,i+1,hullS o v),Nat.lt_succ_self n,⟨h8,by simp only;omega⟩,?_⟩;simp only[rgS.eq_1];exact s_e []
   have h7:¬i< uptoV c s.2:=by simpa using h6
   rw[if_neg h7] at hrl;cases hrl;refine ar_ ⟨(),trivial,?_⟩;exact s_e []
 have h4:degP (ao_ p)< 0:=by
  have:¬0≤degP (ao_ p):=by simpa using h3
  omega
 rw[if_pos h4] at h;cases h;refine ag_ ⟨(),trivial,?_⟩;exact s_e [(2,8)];rintro _ _;refine r_z 3 ?_;refine ad_ (Fin.many ⟨_,_,rfl,⟨_,_,_,_,_,rfl,rfl,rfl,.inl ⟨TG.h,_,TS.h,nle rfl,rfl⟩⟩,⟨_,_,rfl,rfl,rfl⟩⟩ (nle rfl) ?_);exact ah_ (au_ av_ (aP_ _ _)) (ah_ (au_ av_ (af_ _)) aq_)
theorem sgn_up{c:Cnt}{i:Int}{q:List Rat}{M M':Rat}(h:M≤M')(hn:¬Sgn c i (subP q (a0_ M)) 1):¬Sgn c i (subP q (a0_ M')) 1:=by
 rintro⟨x,y,a,b,e⟩
 have hx:0< evalP (subP q (a0_ M')) x:=by
  rcases aS_ x (subP q (a0_ M')) with⟨_,g⟩|⟨g,_⟩|⟨g,_⟩
  exact g;omega;omega
 obtain⟨ε,e0,he⟩:=b.pos (show x≤x by grind) a.1 hx;refine hn ⟨x,y,a,⟨ε,e0,fun z z1 z2=>ab_ge (.inl ?_) (by grind)⟩,c0_ ?_⟩;have:=he z z1 z2;rw[cg_] at *;grind;rw[cg_] at *;grind
theorem sgn_lo{c:Cnt}{i:Int}{q:List Rat}{M M':Rat}(h:M'≤M)(hn:¬Sgn c i (subP q (a0_ M)) (-1)):¬Sgn c i (subP q (a0_ M')) (-1):=by
 rintro⟨x,y,a,b,e⟩
 have hx:evalP (subP q (a0_ M')) x< 0:=by
  rcases aS_ x (subP q (a0_ M')) with⟨g,_⟩|⟨_,g⟩|⟨g,_⟩
  omega;exact g;omega
 obtain⟨ε,e0,he⟩:=b.neg (show x≤x by grind) a.1 hx;refine hn ⟨x,y,a,⟨ε,e0,fun z z1 z2=>ab_ge (.inr ?_) (by grind)⟩,eh_ ?_⟩;have:=he z z1 z2;rw[cg_] at *;grind;rw[cg_] at *;grind
theorem jw_(a b:Sp){M:Nat}(h1:qs a.1≤M)(h2:qs a.2≤M)(h3:qs b.1≤M)(h4:qs b.2≤M):(hullS a b).1≤a.1∧(hullS a b).1≤b.1∧a.2≤(hullS a b).2∧b.2≤(hullS a b).2∧qs (hullS a b).1≤M∧qs (hullS a b).2≤M:=by
 refine⟨mm_ a.1 (by simp),mm_ b.1 (by simp),mo_ a.2 (by simp),mo_ b.2 (by simp),?_,?_⟩;have:=dL_ (fun c=>decide (c< 0)) (l:=[a.1,b.1]) (by simp);show qs (minL [a.1,b.1])≤M;unfold minL;simp only[List.mem_cons,List.not_mem_nil,or_false] at this;rcases this with e|e <;> rw[e]<;> assumption
 have:=dL_ (fun c=>decide (0< c)) (l:=[a.2,b.2]) (by simp);show qs (maxL [a.2,b.2])≤M;unfold maxL;grind
theorem upto_all{f N h Q:Nat}{p:List Rat}{c:Cnt}(H:CG f N h Q p c)(x:Rat):uptoV c x≤allV c:=by
 unfold allV;by_cases g:x≤a1_ c.p;exact cX_ H.hc H.np g;obtain⟨n1,_⟩:=H.sq;have hF:Far c.p (a1_ c.p) x:=⟨ab (leadP c.p),rK_ (bj_ n1),fun z a _=>jQ_ n1 a⟩;obtain⟨hSF,_⟩:=es_ H.hc H.np;have:=(c9_ H.hc H.np (show a1_ c.p≤x by grind)).2 (SF.far _ p c.p (Nat.le_refl _) H.np hSF _ _ hF);have:=(cn_ (c:=c) H.hc H.np (a1_ c.p)).1;omega
theorem od_{f N h Q:Nat}{p:List Rat}{c:Cnt}(H:CG f N h Q p c)(x:Rat):0≤aM_ c x:=by
 obtain⟨_,_,_,_,hlow,hmono⟩:=cT_ H.hc H.np
 obtain⟨w,w1,w2⟩:∃w,w< x∧w≤ -a1_ c.p:=by
  by_cases g: -a1_ c.p< x;exact⟨-a1_ c.p,g,by grind⟩;exact⟨x- 1,by grind,by grind⟩
 have:=cj_ H.hc H.np w1;grind
structure RB (f N h Q r g kk J J2 J3:Nat):Prop where
 c1:∃X T,cH f N (h+5) X T Q=true
 N1:1≤N
 N12:N≤12
 h1:1≤h
 hJ:jB N (h+5+12* N+8) (h+5+12* N+13) r J=true
 gJ:J< g
 QJ:r+J+4≤Q
 S:SB f N (h+5) Q r g (h+5+(h+5+(r+2) * 24+2)+kk+3) J2
 j3:h+5+(r+3) * 24+kk+1≤J3
 g3:J3< g
 Q3:r+J3+4≤Q
 lim:h+5+24* (r+J3+2+(h+5)+1)+(r+J3+2)≤60000000000
 k3:kk≤256
 rw_:(r+2) * 24≤100000
 hb:2* (h+5+12* N+8)+10≤Q
 hb2:h+5≤10000000
 hf:2* (h+5+12* N+8)+6≤f
 gg:549755813890≤g
section
variable {f N h Q r g J J2 J3:Nat}{k:Int}(B:RB f N h Q r g (wi k 256) J J2 J3){p:List Rat}{K:Rat}(hpl:p.length≤24)(lp:(trimQ p).length≤N)(bp:bdL p h)(Hp:HS p K h){lo hi:Rat}(hlh:lo≤hi)(hlo:ab lo≤p2 r)(hhi:ab hi≤p2 r)
include B hpl lp bp Hp hlh hlo hhi
theorem pE_{c:Cnt}(C:CG f N (h+5) Q (ao_ p) c){M:Nat}(hM:h+5+(r+2) * 24+2* wi k 256+4≤M)(hM2:M≤137438953472):∀(n m:Nat) (i:Int) (o:Sp),n< m→uptoV c hi- i≤(n:Int)→aM_ c lo≤i→qs o.1≤M→qs o.2≤M→
    ∃v:Sp,rlM f g c p k (uptoV c hi) m i o=some v∧v.1≤o.1∧o.2≤v.2∧qs v.1≤M∧qs v.2≤M∧∀j,i≤j→j< uptoV c hi→¬Sgn c j (subP p (a0_ v.2)) 1∧¬Sgn c j (subP p (a0_ v.1)) (-1)
 |_,0,_,_,hm,_,_,_,_=>by omega
 |n,m+1,i,o,hm,hn,hi0,o1,o2=>by
  rw[rlM];by_cases g0:i< uptoV c hi;rotate_left;rw[if_neg g0];exact⟨o,rfl,Rat.le_refl,Rat.le_refl,o1,o2,fun j a b=>by omega⟩;rw[if_pos g0];have R:RC f N (h+5) Q r J (ao_ p) c i lo hi:=⟨C,by omega,B.N12,B.hJ,⟨hlh,hi0,g0⟩,hlo,hhi,by have:=od_ C lo;omega,by have:=upto_all C hi;omega,B.QJ,B.hb,B.hb2,B.hf⟩;have H5:HS p K (h+5):=⟨Hp.ne,Hp.sc.mono (by omega),fun i=>(Hp.co i).mono (by omega)⟩;obtain⟨v,v1,v2,v3,v4,v5⟩:=R.value (q:=p) (k:=k) hpl lp B.N1 (fun x hx=>Nat.le_trans (bp x hx) (by omega)) (by omega) H5 B.S B.gJ B.j3 B.g3 B.Q3 B.lim B.k3 B.rw_;rw[v1,Option.bind_some,if_pos ⟨⟨Nat.le_trans o1 hM2,Nat.le_trans o2 hM2⟩,⟨Nat.le_trans v2 (by omega),Nat.le_trans v3 (by omega)⟩⟩];obtain⟨h1,h2,h3,h4,h5,h6⟩:=jw_ o v o1 o2 (Nat.le_trans v2 hM) (Nat.le_trans v3 hM);cases n with
  |zero=>omega
  |succ n=>
  obtain⟨w,w1,w2,w3,w4,w5,w6⟩:=pE_ C hM hM2 n m (i+1) (hullS o v) (by omega) (by omega) (by omega) h5 h6;refine⟨w,w1,Rat.le_trans w2 h1,Rat.le_trans h3 w3,w4,w5,fun j a b=>?_⟩;by_cases e:j=i;rw[e];exact⟨sgn_up (Rat.le_trans h4 w3) v4,sgn_lo (Rat.le_trans w2 h2) v5⟩;exact w6 j (by omega) b
omit B hpl lp bp Hp hlh hlo hhi in
theorem nV_(p:List Rat)(m x:Rat):dvE (subP p (a0_ m)) x=dvE p x:=by
 have e:=gN_ (p:=subP p (a0_ m)) (q:=addL p (ci_ [m] (-1))) (fun x=>by rw[a8_,cO_,bv_,a6_,al_,am_];grind) x;rw[e,eb_,cD_,show dvE [m] x=0 from by show evalP [] x+dvE [] x* x=0;rw[am_,show dvE [] x=0 from rfl];grind];grind
omit B hpl lp bp Hp hlh hlo hhi in
theorem sgn_neg{c:Cnt}{i:Int}{q:List Rat}(hn:¬Sgn c i q (-1)):¬Sgn c i (aw_ q (-1)) 1:=by
 rintro⟨x,y,a,b,e⟩
 have hx:0< evalP (aw_ q (-1)) x:=by
  rcases aS_ x (aw_ q (-1)) with⟨_,g⟩|⟨g,_⟩|⟨g,_⟩
  exact g;omega;omega
 obtain⟨ε,e0,he⟩:=b.pos (show x≤x by grind) a.1 hx;refine hn ⟨x,y,a,⟨ε,e0,fun z z1 z2=>ab_ge (.inr ?_) (by grind)⟩,eh_ ?_⟩;have:=he z z1 z2;rw[an_] at this;grind;rw[an_] at hx;grind
omit B hpl lp bp Hp hlh hlo hhi in
theorem h1_(a:Rat):(qSpan a k).1≤a∧a≤(qSpan a k).2∧qs (qSpan a k).1≤qs a+2* wi k 256+4∧qs (qSpan a k).2≤qs a+2* wi k 256+4:=by
 unfold qSpan;generalize wi k 256=kk
 have dn:∀b:Rat,qs (downQ b kk)≤qs b+2* kk+4:=fun b=>by
  unfold downQ;have h1:=bK_ ((b* twoQ kk).floor:Rat) (fineQ kk);have h2:=hl_ (b* twoQ kk);have h3:=bK_ b (twoQ kk);have h4:=j6_ kk;have h5:=hm_ kk;omega
 have up:upQ a kk= -downQ (-a) kk:=by
  unfold upQ downQ ceilQ;rw[show -a* twoQ kk= -(a* twoQ kk) by grind];grind
 obtain⟨_,_,d1,_⟩:=gm_ a kk;obtain⟨_,_,d2,_⟩:=gm_ (-a) kk;refine⟨d1,by show a≤upQ a kk;rw[up];grind,dn a,?_⟩;show qs (upQ a kk)≤_;rw[up,cQ_];have:=dn (-a);rw[cQ_] at this;exact this
theorem ow_{t M:Nat}(ht1:qs lo≤t)(ht2:qs hi≤t)(htQ:t≤Q)(hM1:26* (h+t+1)+2* wi k 256+8≤M)(hM:h+5+(r+2) * 24+2* wi k 256+4≤M)(hM2:M≤137438953472):
    ∃v:Sp,nf_ f g p (lo,hi) k=some v∧qs v.1≤M∧qs v.2≤M∧∀x,lo≤x→x≤hi→v.1≤evalP p x∧evalP p x≤v.2:=by
 have ev:∀x,qs x≤t→qs (evalP p x)≤24* (h+t+1)+1:=fun x hx=>by
  have:=fv_ hx bp;have:=Nat.mul_le_mul_right (h+t+1) hpl;omega
 have oke:∀x,qs x≤t→b2_ p x:=fun x hx=>by
  have hmx:=bz_ bp B.h1;have hmul:=Nat.mul_le_mul hpl (show mxL p+qs x+1≤h+t+1 by omega);exact⟨by omega,by omega⟩
 have e1:=ev lo ht1;have e2:=ev hi ht2;obtain⟨a1,a2,a3,a4⟩:=h1_ (k:=k) (evalP p lo);obtain⟨b1,b2,b3,b4⟩:=h1_ (k:=k) (evalP p hi);obtain⟨h1,h2,h3,h4,h5,h6⟩:=jw_ (qSpan (evalP p lo) k) (qSpan (evalP p hi) k) (M:=M) (by omega) (by omega) (by omega) (by omega);have htl:=aD_ p;have hdeg:degP p≤40:=by unfold degP;omega
 unfold nf_;rw[if_pos (show mf_ p (lo,hi) k from⟨⟨by show qs lo≤_;omega,by show qs hi≤_;omega⟩,oke lo ht1,oke hi ht2,bI_ bp (by omega),by omega,cmpQ_le.2 hlh,hdeg,⟨Nat.le_trans a3 (by omega),Nat.le_trans a4 (by omega)⟩,⟨Nat.le_trans b3 (by omega),Nat.le_trans b4 (by omega)⟩⟩)];by_cases hd:nz (ao_ p);rotate_left;rw[if_pos (by have:=degP_nil.2 hd;omega)];refine⟨_,rfl,h5,h6,fun x _ _=>?_⟩
 have hc:evalP p x=evalP p lo:=by
  by_cases np:nz p;by_cases h0:dg p=0;obtain⟨γ,_,hγ⟩:=g1_ np h0;rw[hγ,hγ];exact absurd (iD_ h0 np).1 hd;rw[cR_ np,cR_ np]
 rw[hc];exact⟨Rat.le_trans h1 a1,Rat.le_trans a2 h3⟩;rw[if_neg (by rw[mN_ hd];omega)];obtain⟨X,T,hcH⟩:=B.c1
 have np:nz p:=fun e=>hd (by
  have:ao_ p=ao_ (trimQ p):=by
   have h1:trimQ (ao_ p)=ao_ p:=aY_ _;have h2:trimQ (ao_ (trimQ p))=ao_ (trimQ p):=aY_ _;rw[←h1,←h2];exact d3_ fun i=>by rw[bn_,bn_,aU_]
  rw[this,e];rfl)
 have hdl:=dV_ np;have hdt:trimQ (ao_ p)=ao_ p:=aY_ _;have hN12:=B.N12;have dz:=fx_ (by omega) bp B.h1 Hp.ht;obtain⟨c,C⟩:=CG.ex hcH hd (by rw[hdt];omega) (by omega) dz.1 dz.2;rw[C.hc,Option.bind_some,if_pos ⟨(C.ok lo (by omega)).2,(C.ok hi (by omega)).1⟩];have ub:=eC_ (c:=c) (x:=hi) (C.ok lo (by omega)).1.1;have bn:=od_ C lo;have hg:=B.gg;obtain⟨v,v1,v2,v3,v4,v5,v6⟩:=pE_ B hpl lp bp Hp hlh hlo hhi C hM hM2 ((uptoV c hi- aM_ c lo).toNat) g (aM_ c lo) (hullS (qSpan (evalP p lo) k) (qSpan (evalP p hi) k)) (by omega) (by omega) (Int.le_refl _) h5 h6;refine⟨v,v1,v4,v5,fun x x1 x2=>⟨?_,?_⟩⟩
 have:=ne_ (q:=aw_ (subP p (a0_ v.1)) (-1)) (d:=ao_ p) (σ:= -1) C.hc hd (.inr rfl) (fun z=>by
  rw[dvE_k (p:=subP p (a0_ v.1)) (k:= -1) fun x=>an_ _ _ x,nV_,aI_];grind) (A:=lo) (B:=hi) (by rw[an_,cg_];have:=Rat.le_trans v2 (Rat.le_trans h1 a1);grind) (by rw[an_,cg_];have:=Rat.le_trans v2 (Rat.le_trans h2 b1);grind) (fun i i1 i2=>sgn_neg (v6 i i1 i2).2) x x1 x2
 rw[an_,cg_] at this;grind
 have:=ne_ (q:=subP p (a0_ v.2)) (d:=ao_ p) (σ:=1) C.hc hd (.inl rfl) (fun z=>by
  rw[nV_,aI_];grind) (A:=lo) (B:=hi) (by rw[cg_];have:=Rat.le_trans a2 (Rat.le_trans h3 v3);grind) (by rw[cg_];have:=Rat.le_trans b2 (Rat.le_trans h4 v3);grind) (fun i i1 i2=>(v6 i i1 i2).1) x x1 x2
 rw[cg_] at this;grind
end
theorem rb_c1:cH 20000 9 2005 4000000 9000000000 100000000=true:=by decide+kernel
theorem rb_cd:cH 20000 9 2237 4000000 9000000000 100000000=true:=by decide+kernel
theorem rb_cq:cH 20000 9 4601 8000000 9000000000 100000000=true:=by decide+kernel
theorem rb_J:jB 9 2121 2126 22 13000000=true:=by decide+kernel
theorem rb_J2:jB 9 2237 4601 22 22000000=true:=by decide+kernel
theorem rb_g:((List.range 10).all fun m=>(List.range 10).all fun n=>hG 20000 m n 2121 4601 30000000)=true:=by decide+kernel
theorem rb:RB 20000 9 2000 100000000 22 1000000000000 10 13000000 22000000 3000 where
 c1:=⟨_,_,rb_c1⟩
 N1:=by decide
 N12:=by decide
 h1:=by decide
 hJ:=rb_J
 gJ:=by decide
 QJ:=by decide
 S:={hq1:=by decide,gcd:=⟨_,by decide,rb_g⟩,cd:=⟨_,_,rb_cd⟩,cq:=⟨_,_,rb_cq⟩,hJ2:=rb_J2,hg:=by decide,hQ2:=by decide,ev:=by decide}
 j3:=by decide
 g3:=by decide
 Q3:=by decide
 lim:=by decide
 k3:=by decide
 rw_:=by decide
 hb:=by decide
 hb2:=by decide
 hf:=by decide
 gg:=by decide
theorem qT_{p:List Rat}{K:Rat}(hpl:p.length≤24)(lp:(trimQ p).length≤9)(bp:bdL p 2000)(Hp:HS p K 2000){lo hi:Rat}(hlh:lo≤hi)(hlo:ab lo≤p2 22)(hhi:ab hi≤p2 22)(ht1:qs lo≤1000)(ht2:qs hi≤1000):
    ∃v:Sp,FS 43 [.arr (pE p),.agg (spC lo hi),i64 10] (.tup [.agg (spC v.1 v.2),i64 0])∧qs v.1≤100000∧qs v.2≤100000∧∀x,lo≤x→x≤hi→v.1≤evalP p x∧evalP p x≤v.2:=by
 have hw:wi 10 256=10:=by decide
 have B:RB 20000 9 2000 100000000 22 1000000000000 (wi 10 256) 13000000 22000000 3000:=by rw[hw];exact rb
 obtain⟨v,v1,v2,v3,v4⟩:=ow_ B hpl lp bp Hp hlh hlo hhi (t:=1000) (M:=100000) ht1 ht2 (by decide) (by rw[hw];decide) (by rw[hw];decide) (by decide);exact⟨v,fs_Range _ _ p (lo,hi) 10 v v1 (by decide),v2,v3,v4⟩
theorem iv_(p q:List Rat)(o:okMul p q):FS 18 [.arr (pE p),.arr (pE q)] (.arr (pE (mulP p q))):=
 jD_ p q (mxL p) (mxL q) (bB_ p) (bB_ q) (br_ p) (br_ q) o.1 o.2.1 o.2.2.1 o.2.2.2
theorem dH_{a b:List AV}(ha:∀c∈a,Closed c)(hb:∀c∈b,Closed c):∀c∈a++b,Closed c:=fun c hc=>(List.mem_append.1 hc).elim (ha c) (hb c)
theorem fs_SNeg(a b:Rat):FS 143 [.agg (spC a b)] (.agg (spC (-b) (-a))):=by
 refine f_c Tryz.func143 ?_;refine r_z 2 ?_;refine ab_ (r_d hmix 8 ?_);refine c_s (eX_ b) ?_;refine c_s (eX_ a) ?_;refine a_2 ?_;refine ak_ (n_k ?_);exact ad_ (c_e (aP_ _ _))
def absL(v:Sp):Rat:=if 0≤v.1 then v.1 else if v.2≤0 then -v.2 else 0
theorem sg_ge{q:Rat}:(0:Int)≤sgZ q.num↔0≤q:=by
 have h:=sgZ_num_lt (q:=q);constructor;intro g;have:¬q< 0:=fun e=>by have:=h.2 e;omega
 grind;intro g;have:¬sgZ q.num< 0:=fun e=>by have:=h.1 e;grind
 omega
theorem sg_le{q:Rat}:sgZ q.num≤(0:Int)↔q≤0:=by
 have h:=sgZ_num_gt (q:=q);constructor;intro g;have:¬0< q:=fun e=>by have:=h.2 e;omega
 grind;intro g;have:¬0< sgZ q.num:=fun e=>by have:=h.1 e;grind
 omega
theorem fs_SAbs(v:Sp)(h1:sm v.1)(h2:sm v.2):FS 44 [.agg (spC v.1 v.2)] (.agg (spC (absL v) (absH v))):=by
 have hc:∀c∈spC v.1 v.2,Closed c:=cU_ _ _;refine f_c Tryz.func44 ?_;refine r_z 2 ?_;refine ab_ (ae_ ?_);by_cases g1:0≤v.1;rw[show absL v=v.1 from if_pos g1,show absH v=v.2 from if_pos g1];refine r_c 5 (bP_ v.1) ?_;refine o_0 (.bin rfl rfl (vT dr_ (decide_eq_true (sg_ge.2 g1)))) ?_;refine a_z ?_;refine cT (r_z 2 ?_);exact ad_ (c_e (aP_ _ _));refine r_c 5 (bP_ v.1) ?_;refine o_0 (.bin rfl rfl (vF dr_ (decide_eq_false (fun e=>g1 (sg_ge.1 e))))) ?_;refine a_z ?_;refine cF ?_;by_cases g2:v.2≤0;rw[show absL v= -v.2 from(if_neg g1).trans (if_pos g2),show absH v= -v.1 from(if_neg g1).trans (if_pos g2)];refine r_c 5 (bP_ v.2) ?_;refine o_0 (.bin rfl rfl (vT cf_ (decide_eq_true (sg_le.2 g2)))) ?_;refine a_z ?_;refine cT (r_c 3 (fs_SNeg v.1 v.2) ?_);refine a_z ?_;exact ad_ (c_e (aP_ _ _));rw[show absL v=0 from(if_neg g1).trans (if_neg g2),show absH v=maxL [-v.1,v.2] from(if_neg g1).trans (if_neg g2)];refine r_c 5 (bP_ v.2) ?_;refine o_0 (.bin rfl rfl (vF cf_ (decide_eq_false (fun e=>g2 (sg_le.1 e))))) ?_;refine a_z ?_;refine cF (ag_ ?_);have hm:=lu_ [-v.1,v.2] (hT_ (by unfold sm;rw[cQ_];exact h1) h2) (by simp);refine ab_ (r_d hmix 10 ?_);refine c_s (eX_ v.1) ?_;refine a_3 ?_;refine o_1 (.callS1 rfl rfl rfl (.shut rfl d_n (.nil)) rfl (hm)) ?_;refine a_2 ?_;refine ak_ (n_k ?_);refine ad_ ?_;rw[show spC 0 (maxL [-v.1,v.2])=[.arr [],bln false,.arr []]++qC (maxL [-v.1,v.2]) from by unfold spC;rw[qC0]];refine Fin.cell rfl rfl rfl TG.h TS.h (nle rfl) ?_
 exact Cv.agg (ah_ (Cv.emp _) (ah_ (au_ av_ (af_ _)) (ah_ (Cv.emp _) (CvL.clo av_ (aN_ _)))))
theorem fs_SHas(a b x:Rat)(ha:sm a)(hb:sm b)(hx:sm x)(h:a≤x∧x≤b):FS 28 [.agg (spC a b),.agg (qC x)] (bln true):=by
 have c1:=eY_ a x ha hx;have c2:=eY_ x b hx hb;refine f_c Tryz.func28 ?_;refine r_z 3 ?_;refine r_c 13 (c1) ?_;refine o_0 (.bin rfl rfl (vT cf_ (decide_eq_true (cmpQ_le.2 h.1)))) ?_;refine c_s (c2) ?_;refine de_ rfl rfl rfl (.bin rfl rfl (vT cf_ (decide_eq_true (cmpQ_le.2 h.2)))) rfl rfl ?_;refine a_z ?_;exact ad_ (t_e (af_ _))
abbrev prC(p:List Rat×List Rat):List AV:=[.arr (pE p.1),.arr (pE p.2)]
def kE(k:Ke):List (List AV):=k.map prC
@[simp] theorem dR_ (k:Ke):(kE k).length=k.length:=by simp[kE]
theorem fz_(p:List Rat×List Rat):∀c∈prC p,Closed c:=aa_ (ap_ _) (aa_ (ap_ _) ac_)
theorem ex_(k:Ke):∀x∈kE k,∀c∈x,Closed c:=fun x hx=>by
 obtain⟨p,_,rfl⟩:=List.mem_map.1 hx;exact fz_ p
theorem bf_(k:Ke):Closed (.arr (kE k)):=aL_ (ex_ k)
theorem ll_{k:Ke}{i:Nat}{p:List Rat×List Rat}(h:k[i]?=some p):∀e,e=i→(kE k)[e]?=some (prC p):=fun e he=>by
 rw[he,kE,List.getElem?_map,h];rfl
def bigP(p:List Rat×List Rat):Bool:=decide (12< if degP p.2> degP p.1 then degP p.2 else degP p.1)
theorem q1_(p:List Rat×List Rat)(h1:p.1.length≤1099511627776)(h2:p.2.length≤1099511627776):FS 179 [.agg (prC p)] (bln (bigP p)):=by
 refine f_n Tryz.func179 ?_ ?_;exact aa_ (aB_ (fz_ p)) ac_;refine r_z 2 ?_;refine ab_ (r_d hmix 9 ?_);refine c_s (bc_ p.1 h1) ?_;refine c_s (bc_ p.2 h2) ?_;refine a_3 ?_;refine ak_ (n_k ?_);exact ad_ (t_e (af_ _))
def idxA{α:Type}(t:α→Bool):List α→Int→Int
 |[],_=> -1
 |a::l,i=>if t a then i else idxA t l (i+1)
theorem nv_{α:Type}(t:α→Bool):∀(l:List α) (i:Int),0≤i→(decide (0≤idxA t l i))=l.any t
 |[],i,_=>by simp[idxA]
 |a::l,i,hi=>by
  unfold idxA;cases h:t a with
  |true=>simp[h,hi]
  |false=>simp[h];rw[←nv_ t l (i+1) (by omega)]
theorem drop_at{α:Type}{l:List α}{i:Nat}{a:α}(h:l[i]?=some a):l.drop i=a::l.drop (i+1):=by
 obtain⟨h1,h2⟩:=List.getElem?_eq_some_iff.1 h;rw[←h2];exact List.drop_eq_getElem_cons h1
def ikS(k:Ke)(g:Nat)(cap:List AV):Nat→AState
 |i=>⟨[(0,.arr (kE k)),(1,.clos g [] cap),(7,i64 k.length),(8,i64 i)],[],1,19⟩
theorem qX_(k:Ke)(g:Nat)(cap:List AV)(t:List Rat×List Rat→Bool)(hcap:∀c∈cap,Closed c)(hl:k.length≤1099511627776)(hg:∀p∈k,FS g ((.agg (prC p)::cap).map coe) (bln (t p))):FS 275 [.arr (kE k),.clos g [] cap] (i64 (idxA t k 0)):=by
 have hcc:Closed (.clos g [] cap):=aG_ ac_ hcap;have hkl:(kE k).length=k.length:=dR_ k;refine f_n Tryz.func275 ?_ ?_;exact aa_ (bf_ k) (aa_ hcc ac_);obtain⟨R,hR⟩:∃R,R=idxA t k 0:=⟨_,rfl⟩;rw[←hR];refine r_z 1 ?_;refine ab_ (r_z 3 ?_);refine ay_ (fun _:Unit=>⟨[],[],1,19⟩) (fun _=>R= -1) ?_ ?_;refine ae_ (as_ (ikS k g cap) (fun i=>k.length- i) (fun i=>i≤k.length∧idxA t (k.drop i) i=R) 0 ⟨Nat.zero_le _,by rw[hR];rfl⟩ ?_ ?_);simp only[ikS.eq_1];exact s_x [] (fun hs=>e_25) (fun hs=>e_26);rintro i ⟨hi,hr⟩;rw[ikS.eq_1];by_cases hlt:i< k.length;refine q_z 1 ?_;refine ab_ (cT (ag_ ?_));obtain⟨p,hp⟩:∃p,k[i]?=some p:=⟨_,List.getElem?_eq_getElem hlt⟩;have hgt:(kE k)[((i:Nat):Int).toNat]?=some (prC p):=ll_ hp _ (by simp);rw[drop_at hp,idxA] at hr;refine ab_ (ae_ (r_z 2 ?_));refine s_r 6 ?_;refine a_3 ?_;refine i_x hgt ?_;refine l_x hgt ?_;refine c_s (hg p (List.mem_of_getElem? hp)) ?_;refine ak_ ?_;refine ai_ rfl (fun h1=>?_) (fun h1=>?_);have h2:t p=true:=h1;rw[if_pos h2] at hr;refine r_z 2 ?_;refine ad_ (aE_ rfl ?_ ?_);rw[←hr];exact af_ _;have h2:¬t p=true:=by rw[show t p=false from h1];decide
 rw[if_neg h2] at hr;refine ag_ (r_m 2 ?_);refine a_z ?_;refine⟨i+1,by omega,⟨hlt,hr⟩,?_⟩;simp only[ikS.eq_1];exact s_x [] (fun hs=>e_25) (fun hs=>e_26);have hge:i=k.length:=by omega
 subst hge;refine q_z 1 ?_;refine ab_ (cF ?_);rw[List.drop_length] at hr;refine ar_ ⟨(),hr.symm,?_⟩;exact s_e [];rintro _ hr;refine r_z 1 ?_;refine ad_ (aE_ rfl ?_ ?_);rw[hr];rfl;exact af_ _
theorem ly_(k:Ke)(g:Nat)(cap:List AV)(t:List Rat×List Rat→Bool)(hcap:∀c∈cap,Closed c)(hl:k.length≤1099511627776)(hg:∀p∈k,FS g ((.agg (prC p)::cap).map coe) (bln (t p)))(hcap2:cap.map coe=cap):FS 178 [.arr (kE k),.clos g [] cap] (bln (k.any t)):=by
 have hcc:Closed (.clos g [] cap):=aG_ ac_ hcap;have e:=nv_ t k 0 (Int.le_refl 0);have hi:=qX_ k g cap t hcap hl hg;refine f_n Tryz.func178 ?_ ?_;exact aa_ (bf_ k) (aa_ hcc ac_);refine r_z 1 ?_;refine r_c 5 (hi) ?_;refine a_z ?_;refine ad_ (aE_ rfl ?_ ?_);rw[←e];rfl;exact af_ _
def okKe(k:Ke):Prop:=k.length≤8∧k.any bigP=false∧∀p∈k,p.1.length≤1099511627776∧p.2.length≤1099511627776
theorem oO_(k:Ke)(h:okKe k):FS 70 [.arr (kE k)] (i64 0):=by
 have hkl:(kE k).length=k.length:=dR_ k;have hc:=ly_ k 179 [] bigP ac_ (by have:=h.1;omega) (fun p hp=>q1_ p (h.2.2 p hp).1 (h.2.2 p hp).2) rfl;rw[h.2.1] at hc;have hl:=h.1;refine f_n Tryz.func70 ?_ ?_;exact aa_ (bf_ k) ac_;refine r_z 1 ?_;refine ab_ (q_c 7 (hc) ?_);refine a_z ?_;refine cF (ag_ (r_z 1 ?_));exact ad_ (t_e (af_ _))
theorem qv_(k:Ke)(a b:Rat)(h:okKe k)(ha:sm a)(hb:sm b)(hab:a≤b):FS 128 [.arr (kE k),.agg (spC a b)] (bln false):=by
 have h1:=oO_ k h;have h2:=ep_ a b ha hb;rw[decide_eq_true (cmpQ_le.2 hab)] at h2;refine f_n Tryz.func128 ?_ ?_;exact aa_ (bf_ k) (aa_ (aP_ _ _) ac_);refine r_z 2 ?_;refine r_c 9 (h1) ?_;refine o_0 (.bin rfl rfl (vF b4_ (rfl))) ?_;refine c_s (h2) ?_;refine a_z ?_;exact ad_ (t_e (af_ _))
abbrev eqC(k:Ke)(l:Rat)(g:List Rat):List AV:= .arr (kE k)::(qC l++[.arr (pE g)])
theorem bV_(k:Ke)(l:Rat)(g:List Rat):∀c∈eqC k l g,Closed c:=aa_ (bf_ k) fun c hc=>(List.mem_append.1 hc).elim (aN_ l c) (aa_ (ap_ g) ac_ c)
theorem lq_(k:Ke)(l:Rat)(g:List Rat)(a b:Rat)(h:okKe k)(ha:sm a)(hb:sm b)(hab:a≤b)(hg:degP g≤20)(hgl:g.length≤1099511627776):FS 99 [.agg (eqC k l g++spC a b)] (bln false):=by
 have h1:=qv_ k a b h ha hb hab;have h2:=bc_ g hgl;have hcl:∀c∈eqC k l g++spC a b,Closed c:=fun c hc=>(List.mem_append.1 hc).elim (bV_ k l g c) (cU_ a b c);refine f_c Tryz.func99 ?_;refine r_z 2 ?_;refine r_c 14 (h1) ?_;refine c_s (h2) ?_;refine d_z ?_;exact ad_ (t_e (af_ _))
theorem fs_eover(a b:Rat)(hb:b≠0)(h:qs a+qs b≤549755813888):FS 109 [.agg (qC a),.agg (qC b)] (.agg (qC (a/ b))):=by
 refine f_c Tryz.func109 ?_;refine r_z 3 ?_;refine r_c 9 (ls_ a b hb h) ?_;refine a_z ?_;refine r_z 2 ?_;exact ad_ (c_e (az_ _))
theorem fs_cut(p:List Rat)(n:Nat)(hp:p.length≤1099511627776)(hn:n≤1000000):FS 101 [.arr (pE p),i64 n] (.arr (pE (cutP p n))):=by
 have hpl:(pE p).length=p.length:=by simp[pE]
 obtain⟨m,hm⟩:∃m,m=min p.length (n+1):=⟨_,rfl⟩
 have ht:p.take m=p.take (n+1):=by
  rw[hm];by_cases g:p.length≤n+1;rw[Nat.min_eq_left g,List.take_of_length_le (Nat.le_refl _),List.take_of_length_le g];rw[Nat.min_eq_right (by omega)]
 have e:(pE p).take m=pE (p.take (n+1)):=by rw[←ht];simp[pE,List.map_take]
 have htr:=b6_ (p.take (n+1)) (by rw[List.length_take];omega);refine f_c Tryz.func101 ?_;refine r_z 1 ?_;refine s_r 9 ?_;refine a_6 ?_;refine o_0 (.sa_hE (h:=m) e rfl rfl (by rw[hm];split <;> omega) (by omega) te_28.h (fP_ _)) ?_;refine c_s (htr) ?_;refine a_z ?_;exact ad_ (t_e (ap_ _))
theorem pp_{v:Rat}(h:sm v):smL [v]:=fun x hx=>by rw[List.mem_singleton.1 hx];exact h
def upS(k:Ke)(a:Rat)(u:List Rat):Nat×List Rat→AState
 |(i,o)=>⟨[(2,.arr (pE u)),(4,.lptr 1 0 0),(7,.arr (pE o)),(11,.arr (kE k)),(12,i64 k.length),(13,i64 i)],[(1,some ⟨39,3,[qC a]⟩)],2,35⟩
theorem nA_(k:Ke)(a:Rat)(u:List Rat)(h:okUpK k a u)(hl:k.length≤1000):FS 102 [.arr (kE k),.agg (qC a),.arr (pE u)] (.arr (pE (upK k a u))):=by
 have hkl:(kE k).length=k.length:=dR_ k;refine f_n Tryz.func102 ?_ ?_;exact aa_ (bf_ k) (aa_ (az_ a) (aa_ (ap_ u) ac_));refine r_z 2 ?_;refine r_z 1 ?_;refine ab_ (r_z 3 ?_);refine ay_ (fun _:Unit=>⟨[(7,.arr (pE (upK k a u)))],[],1,35⟩) (fun _=>True) ?_ ?_;refine ae_ (as_ (upS k a u) (fun x=>k.length- x.1) (fun x=>x.1≤k.length∧x.2=upL a u (k.take x.1) []) (0,[]) ⟨Nat.zero_le _,rfl⟩ ?_ ?_);simp only[upS.eq_1];exact s_x [(1,4)] (fun hs=>e_27) (fun hs=>e_28);rintro⟨i,o⟩ ⟨hi,ho⟩;simp only at hi ho;rw[upS.eq_1];by_cases hlt:i< k.length;obtain⟨p,hp⟩:∃p,k[i]?=some p:=⟨_,List.getElem?_eq_getElem hlt⟩;have hgt:(kE k)[((i:Nat):Int).toNat]?=some (prC p):=ll_ hp _ (by simp);have ok:=h i p hp;rw[←ho] at ok;have h1:=iv_ p.2 u ok.m1;have h2:=fX_ (mulP p.2 u) (gd_ ok.m1) ok.i1;have h3:=c5_ (aj_ (mulP p.2 u)) a ok.e1;have h4:=it_ (aj_ (mulP p.2 u)) [evalP (aj_ (mulP p.2 u)) a] ok.i2 (pp_ (eT_ ok.e1)) ok.l1 (by simp);have h5:=iv_ p.1 _ ok.m2;have h6:=lC_ o _ ok.o1 (gd_ ok.m2) ok.o2 ok.l2;refine q_z 1 ?_;refine ab_ (cT (ag_ (ab_ (ae_ (s_r 4 ?_)))));refine i_x hgt ?_;refine l_x hgt ?_;refine a_z ?_;refine r_c 6 (h1) ?_;refine c_s (h2) ?_;refine a_z ?_;refine r_d hmix 12 ?_;refine c_s (h3) ?_;refine a_1 ?_;refine o_1 (.callS1 rfl rfl rfl (.keep (.shut rfl d_n (.nil))) rfl (h4)) ?_;refine c_s (h5) ?_;refine c_s (h6) ?_;refine a_1 ?_;refine ak_ (n_k ?_);refine r_m 2 ?_;refine a_z ?_;refine⟨(i+1,upF a u o p),by simp only;omega,⟨hlt,by simp only;rw[b5_ hp,m3_,←ho]⟩,?_⟩;simp only[upS.eq_1];unfold upF
 exact s_x [] (fun hs=>e_27) (fun hs=>e_28);have hge:i=k.length:=by omega
 subst hge;refine q_z 1 ?_;refine ab_ (cF ?_);rw[List.take_length] at ho;refine ar_ ⟨(),trivial,?_⟩;unfold upK;rw[←ho];exact s_e [];rintro _ _;refine r_z 2 ?_;exact ad_ (t_e (ap_ _))
def mvK(a:Rat)(k:Ke):Ke:=k.map fun p=>(compP [a,1] p.1,compP [a,1] p.2)
theorem qG_(a:Rat)(p:List Rat×List Rat)(h1:dv_ [a,1] p.1∧p.1.length≤274877906944)(h2:dv_ [a,1] p.2∧p.2.length≤274877906944):FS 221 [.agg (prC p),bQ a] (.agg (prC (compP [a,1] p.1,compP [a,1] p.2))):=by
 have g1:=hv_ p.1 a h1.1 h1.2;have g2:=hv_ p.2 a h2.1 h2.2;refine f_n Tryz.func221 ?_ ?_;exact aa_ (aB_ (fz_ p)) (aa_ (b0_ a) ac_);refine r_z 2 ?_;refine ab_ (r_d hmix 10 ?_);refine c_s (g1) ?_;refine c_s (g2) ?_;refine a_2 ?_;refine ak_ (n_k ?_);exact ad_ (c_e (aB_ (fz_ _)))
def ecS(k:Ke)(g:Nat)(cap:List AV)(f:List Rat×List Rat→List Rat×List Rat):Nat→AState
 |0=>⟨[(1,.clos g [] cap),(8,.arr (kE k)),(9,i64 k.length),(10,i64 0),(5,.emp)],[],1,22⟩
 |i+1=>⟨[(1,.clos g [] cap),(8,.arr (kE k)),(9,i64 k.length),(10,i64 ((i+1:Nat):Int)),(5,.lsl 1 0 (i+1) none 2)],[(1,some ⟨52,2,kE ((k.take (i+1)).map f)⟩)],2,22⟩
theorem kE_one(k:Ke):(kE k).all (·.all AV.one)=true:=by
 rw[List.all_eq_true];intro x hx;obtain⟨p,_,rfl⟩:=List.mem_map.1 hx;rfl
theorem kE_snoc(k:Ke)(p:List Rat×List Rat):kE (k++[p])=kE k++[prC p]:=by simp[kE]
theorem fs_eachK(k:Ke)(g:Nat)(cap:List AV)(f:List Rat×List Rat→List Rat×List Rat)(hcap:∀c∈cap,Closed c)(hl:k.length≤1000)(hg:∀p∈k,FS g ((.agg (prC p)::cap).map coe) (.agg (prC (f p)))):FS 220 [.arr (kE k),.clos g [] cap] (.arr (kE (k.map f))):=by
 have hkl:(kE k).length=k.length:=dR_ k;have hcc:Closed (.clos g [] cap):=aG_ ac_ hcap;refine f_n Tryz.func220 ?_ ?_;exact aa_ (bf_ k) (aa_ hcc ac_);refine r_z 1 ?_;refine r_z 1 ?_;refine ab_ (r_z 3 ?_);refine ay_ (fun _:Unit=>⟨[(5,.arr (kE (k.map f)))],[],1,22⟩) (fun _=>True) ?_ ?_;refine ae_ (as_ (ecS k g cap f) (fun i=>k.length- i) (fun i=>i≤k.length) 0 (Nat.zero_le _) ?_ ?_);rw[ecS.eq_1];refine s_x [] (fun hs=>e_10) (fun hs=>?_)
 ·repeat' (first|exact aC_|refine h_c ?_ ?_|exact au_e|refine aA_ ?_|exact aq_|refine ah_ ?_ ?_|exact au_ hs (bf_ k)|exact au_ hs hcc|exact au_c)
 intro i hi;by_cases hlt:i< k.length
 ·obtain⟨p,hp⟩:∃p,k[i]?=some p:=⟨_,List.getElem?_eq_getElem hlt⟩
  have hg1:=hg p (List.mem_of_getElem? hp);have hlen:(k.take (i+1)).length=i+1:=by rw[List.length_take];omega
  have hnew:kE ((k.take i).map f)++[prC (f p)]=kE ((k.take (i+1)).map f):=by rw[b5_ hp,List.map_append,List.map_singleton,kE_snoc]
  cases i with
  |zero=>
   have hgt:(kE k)[((0:Int)).toNat]?=some (prC p):=ll_ hp _ rfl;rw[ecS.eq_1];refine q_z 1 ?_;refine ab_ (cT (ag_ (ab_ (ae_ (s_r 4 ?_)))));refine i_x hgt ?_;refine l_x hgt ?_;refine a_z ?_;refine r_m 7 ?_;refine c_s (hg1) ?_;refine a_z ?_;refine r_m 2 ?_;refine a_z ?_;refine⟨0+1,by omega,by omega,?_⟩;rw[ecS.eq_2];rw[←hnew];refine s_x [(1,5)] (fun hs=>e_10) (fun hs=>?_)
   ·repeat' (first|exact aC_|refine h_c ?_ ?_|exact bt_ hs (ex_ [f p])|exact au_e|refine aA_ ?_|exact aq_|refine ah_ ?_ ?_|exact au_ hs (bf_ k)|exact au_ hs hcc|exact au_c)
  |succ i=>
   have hgt:(kE k)[(((i+1:Nat):Int)).toNat]?=some (prC p):=ll_ hp _ (by simp);have hone:=kE_one ((k.take (i+1)).map f);have hlen2:(kE ((k.take (i+1)).map f)).length=i+1:=by rw[dR_,List.length_map,List.length_take];omega
   rw[ecS.eq_2];refine q_z 1 ?_;refine ab_ (cT (ag_ (ab_ (ae_ (s_r 4 ?_)))));refine i_x hgt ?_;refine l_x hgt ?_;refine a_z ?_;refine r_m 7 ?_;refine c_s (hg1) ?_;refine o_1 (.buildSlice te_53.h TZ.h rfl (by decide) rfl rfl rfl (by first|(simp;done)|(simp[bJ_,ofV];done)|rfl)) ?_;refine o_2 (.append_l rfl rfl rfl te_53.h rfl rfl rfl rfl rfl d_o (by first|exact ed_ _|exact d9_ _|exact d7_ _|exact ee_ _|exact d5_ _|assumption|rfl|simp) (by first|rfl|exact ed_ _|exact d9_ _|exact d7_ _|exact ee_ _|exact d5_ _|simp) rfl (.lsl rfl (nle rfl)) TZ.h rfl TB.h d_o (by first|(simp[maxLen];done)|(simp[maxLen];omega))) ?_;refine o_0 (.assign rfl) ?_;refine ak_ ?_;refine r_m 2 ?_;refine a_z ?_;refine⟨i+1+1,by omega,by omega,?_⟩;rw[ecS.eq_2];refine s_x [(1,5)] (fun hs=>e_10) (fun hs=>?_)
   ·repeat' (first|exact aC_|refine h_c ?_ ?_|exact aJ_ hs hnew (ex_ _)|exact au_e|refine aA_ ?_|exact aq_|refine ah_ ?_ ?_|exact au_ hs (bf_ k)|exact au_ hs hcc|exact au_c)
 have hge:i=k.length:=by omega
 cases i with
 |zero=>
  have hk0:k=[]:=List.eq_nil_of_length_eq_zero hge.symm;subst hk0;rw[ecS.eq_1];refine q_z 1 ?_;refine ab_ (cF (ar_ ⟨(),trivial,?_⟩));exact s_e []
 |succ i=>
  have hlen2:(kE (k.map f)).length=i+1:=by rw[dR_,List.length_map];omega
  rw[ecS.eq_2,hge,List.take_length];refine q_z 1 ?_;refine ab_ (cF (ar_ ⟨(),trivial,?_⟩));refine s_x [] (fun hs=>?_) (fun hs=>?_)
  ·repeat' (first|exact a9_|refine aV_ rfl ?_ ?_|(refine Cv.shut hs rfl (a7_ rfl) (by simp) ?_;exact aJ_ hs (by rw[List.drop_zero];exact List.take_of_length_le (by simp)) (ex_ _))|exact au_c)
  ·repeat' (first|exact aC_|refine h_c ?_ ?_|exact au_e|refine aA_ ?_|exact aq_|refine ah_ ?_ ?_|(refine Cv.shut hs rfl (a7_ rfl) (by simp) ?_;exact aJ_ hs (by rw[List.drop_zero];exact List.take_of_length_le (by simp)) (ex_ _))|exact au_c)
 rintro _ _;refine r_z 2 ?_;exact ad_ (t_e (bf_ _))
theorem fs_moved(k:Ke)(l:Rat)(g:List Rat)(a:Rat)(hl:k.length≤1000)(hk:∀p∈k,(dv_ [a,1] p.1∧p.1.length≤274877906944)∧dv_ [a,1] p.2∧p.2.length≤274877906944)(hg:dv_ [a,1] g)(hgl:g.length≤274877906944):FS 100 [.agg (eqC k l g),.agg (qC a)] (.agg (eqC (mvK a k) l (compP [a,1] g))):=by
 have h1:=fs_eachK k 221 [bQ a] (fun p=>(compP [a,1] p.1,compP [a,1] p.2)) (aa_ (b0_ a) ac_) hl fun p hp=>qG_ a p (hk p hp).1 (hk p hp).2;have h2:=hv_ g a hg hgl;have hcl:=bV_ k l g;refine f_c Tryz.func100 ?_;refine r_z 3 ?_;refine AWp.ent (st':=⟨[(2,.aptr [eqC k l g] 0 0),(3,bQ a),(4,.lptr 1 0 0)],[(1,some ⟨56,5,[.emp::(zC++[.emp])]⟩)],2,16⟩) ?_ ?_;refine s_x [(1,4)] (fun hs=>?_) (fun hs=>?_)
 ·repeat' (first|exact a9_|refine aV_ rfl ?_ ?_|exact Cv.boxp hs rfl (a7_ rfl) rfl hcl|exact Cv.boxp hs rfl (a7_ rfl) rfl (aN_ a)|exact au_c)
 ·repeat' (first|exact aC_|refine h_c ?_ ?_|exact au_e|refine aA_ ?_|exact aq_|refine ah_ ?_ ?_|exact Cv.boxp hs rfl (a7_ rfl) rfl hcl|exact Cv.boxp hs rfl (a7_ rfl) rfl (aN_ a)|exact au_c)
 refine ab_ (r_d hmix 12 ?_);refine c_s (h1) ?_;refine c_s (h2) ?_;refine a_2 ?_;refine ak_ (n_k ?_);exact ad_ (c_e (aB_ (bV_ _ _ _)))
end Go.Proofs.YtjjllafelolfoaaGreatDoor
