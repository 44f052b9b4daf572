/- For every input the law TopVolterra returns true; the listed variables start as the program's text lays them (tied). -/
import Derived.Test.YtjjllafelolfoaaGreatDoorV29
import Derived.Test.YtjjllafelolfoaaGreatDoorRows
import Derived.JoinedOf
import Derived.SevenTiedAt
import Derived.Lib.LaidTab
import Derived.Test.YtjjllafelolfoaaGreatDoorTie
import Derived.Test.YtjjllafelolfoaaGreatDoorCards
import Derived.LaidMore
import Derived.Stop.Joined
import Derived.MakeChecks
set_option linter.all false
namespace Go.Proofs.YtjjllafelolfoaaGreatDoor
open Go.Abs
set_option maxRecDepth 20000
set_option maxHeartbeats 4000000
theorem rvlen{W:World}{l:List NRow}{v:Value}(h:RV (fun _=>False) (fun _=>none) W (.arr (nR l)) v):l.length≤9223372036854775807:=by
 obtain⟨_,_,_,hle,hcap,_⟩:=h;have h1:(nR l).length=l.length:=by simp[nR]
 have hm:maxLen=9223372036854775807:=by decide
 omega
theorem mr_{u:List Rat}{a:Rat}(hu:u.length≤4)(bu:bdL u 20)(ha:qs a≤20)(v:List Rat)(hvl:v.length=4)(hv:∀k,k< 4→coP v k=evalP (dIt u k) a):
    ∃z,FS 30 [.arr [jtC a v]] (.tup [.arr (pE z),i64 0])∧FS 24 [.arr (pE z),.arr (pE u)] (bln true):=by
 obtain⟨hf,hend⟩:=qp_ hu hv;have hB:=he_sizes hu bu ha hv
 have hH:=oM_ a v (by omega) (fun r hr=>by
  have B:=hB r (by omega);obtain⟨f1,f2⟩:=hf r (by omega);have o1:=B.o;have z1:=B.z;have ol:=B.ol;have zl:=B.zl;have vq:=B.vq;have kq:=B.k;have d1:=lM_ o1 (by omega) (by omega);have d2:=lM_ z1 (by omega) (by omega)
  have ev:∀w:List Rat,∀s,bdL w s→1≤s→s≤100000→w.length≤200→b2_ w a:=fun w s h1 h2 h3 h4=>by
   have m:=bz_ h1 h2;have c:w.length* (mxL w+qs a+1)≤200* 100021:=Nat.mul_le_mul h4 (by omega);exact⟨by omega,by omega⟩
  have m1:=bz_ z1 (by omega)
  have m2:mxL [-a,((1:Int):Rat)]≤20:=bz_ (fun q hq=>by
   rcases List.mem_cons.1 hq with rfl|hq
   rw[cQ_];exact ha;rw[List.mem_singleton.1 hq];exact Nat.le_trans (by decide:qs ((1:Int):Rat)≤1) (by decide)) (by decide)
  have c2:(heT v a r).2.length* (mxL (heT v a r).2+mxL [-a,((1:Int):Rat)]+1)≤5* 221:=Nat.mul_le_mul zl (by omega);have q6:qs (evalP (dIt (heT v a r).2 r) a)≤4:=by rcases f2 with e|e|e <;> rw[e]<;> decide
  have q0:qs (evalP (dIt (heT v a r).1 r) a)≤1:=by rw[f1];decide
  have qd:=c3_ (coP v r) (-(evalP (dIt (heT v a r).1 r) a));rw[cQ_,←Rat.sub_eq_add_neg] at qd;have sc:=ga_ z1 (by omega) kq;exact⟨fun j hj=>⟨bI_ (d1 j).1 (by omega),by have:=(d1 j).2;omega⟩,fun j hj=>⟨bI_ (d2 j).1 (by omega),by have:=(d2 j).2;omega⟩,ev _ _ (d1 r).1 (by omega) (by omega) (d1 r).2,ev _ _ (d2 r).1 (by omega) (by omega) (d2 r).2,by rcases f2 with e|e|e <;> rw[e]<;> decide,by omega,by omega,bI_ o1 (by omega),by omega,bI_ z1 (by omega),by omega,bI_ sc (by omega),⟨by omega,by omega,by omega,by simp⟩⟩)
 rw[hvl] at hH;have B:=hB 3 (by omega);have o1:=B.o;have ol:=B.ol;have zl:=B.zl;have sc:=ga_ B.z (by omega) B.k;have a1:=rI_ o1 sc (by omega) (by omega);have al:=ds_ (heT v a 3).1 (aw_ (heT v a 3).2 ((coP v 3- evalP (dIt (heT v a 3).1 3) a) / evalP (dIt (heT v a 3).2 3) a));have sl:=a3_ (heT v a 3).2 ((coP v 3- evalP (dIt (heT v a 3).1 3) a) / evalP (dIt (heT v a 3).2 3) a);rw[←heT_o] at a1 al;have hsa:=qS_ (heT v a (3+1)).1 u (bI_ a1 (by omega)) (bI_ bu (by omega)) (by omega) (by omega);rw[show sameP (heT v a (3+1)).1 u=true from decide_eq_true hend] at hsa;exact⟨_,hH,hsa⟩
theorem kG_{r:Ren}{hp hp':Nat→Option ABlk}:∀{a a' b b':List AV},CvL r hp hp' a a'→CvL r hp hp' b b'→CvL r hp hp' (a++b) (a'++b')
 |[],a',_,_,h,h2=>by cases (h:a'=[]);exact h2
 |_::_,_,_,b',⟨y,ys,e,h1,h2⟩,h=>by subst e;exact⟨y,ys++b',rfl,h1,kG_ h2 h⟩
def jvS(u:List Rat)(a:Rat):Nat→AState
 |0=>⟨[(13,.arr (pE u)),(19,bQ a),(32,.lptr 1 0 0),(33,.arr (pE (dIt u 0))),(34,i64 0)],[(1,some ⟨68,4,[qC a++[.emp]]⟩)],2,188⟩
 |k+1=>⟨[(13,.arr (pE u)),(19,bQ a),(32,.lptr 1 0 0),(33,.arr (pE (dIt u (k+1)))),(34,i64 ((k+1:Nat):Int))],[(1,some ⟨68,4,[qC a++[.lsl 2 0 (k+1) none 3]]⟩),(2,some ⟨39,3,pE (sqL (fun j=>evalP (dIt u j) a) (k+1))⟩)],3,188⟩
theorem je_(ur pr qr:List NRow)(ar xr br:NRow)(hu:okR ur)(hul:ur.length≤9223372036854775807)(hp:okR pr)(hpl:pr.length≤9223372036854775807)(hq:okR qr)(hql:qr.length≤9223372036854775807)(ha:okN ar)(hx:okN xr)(hb:okN br):
    FS 3 [.arr (nR ur),.arr (nR pr),.arr (nR qr),.agg (nuC ar.1 ar.2.1 ar.2.2),.agg (nuC xr.1 xr.2.1 xr.2.2),.agg (nuC br.1 br.2.1 br.2.2)] (.v (.bool true)):=by
 have cu:=aL_ (bQ_ ur);have cp:=aL_ (bQ_ pr);have cq:=aL_ (bQ_ qr);have t1:=kp_ ur 4 hul (by decide);have t2:=kp_ pr 3 hpl (by decide);have t3:=kp_ qr 3 hql (by decide);have t4:=kp_ [ar,xr,br] 3 (by simp) (by decide);refine f_n Tryz.func3 ?_ ?_;exact aa_ cu (aa_ cp (aa_ cq (aa_ (aB_ (dk_ _ _ _)) (aa_ (aB_ (dk_ _ _ _)) (aa_ (aB_ (dk_ _ _ _)) ac_)))));refine r_z 4 ?_;cases e1:tameB ur 4 with
 |false=>
  rw[e1] at t1;refine ab_ (r_c 21 (t1) ?_);refine a_z ?_;refine cT (r_c 2 (fa_) ?_);refine a_z ?_;exact ad_ (t_e (af_ _))
 |true=>
 rw[e1] at t1;cases e2:tameB pr 3 with
 |false=>
  rw[e2] at t2;refine ab_ (r_c 21 (t1) ?_);refine c_s (t2) ?_;refine a_z ?_;refine cT (r_c 2 (fa_) ?_);refine a_z ?_;exact ad_ (t_e (af_ _))
 |true=>
 rw[e2] at t2;cases e3:tameB qr 3 with
 |false=>
  rw[e3] at t3;refine ab_ (r_c 21 (t1) ?_);refine c_s (t2) ?_;refine c_s (t3) ?_;refine a_z ?_;refine cT (r_c 2 (fa_) ?_);refine a_z ?_;exact ad_ (t_e (af_ _))
 |true=>
 rw[e3] at t3;cases e4:tameB [ar,xr,br] 3 with
 |false=>
  rw[e4] at t4;refine ab_ (r_c 21 (t1) ?_);refine c_s (t2) ?_;refine c_s (t3) ?_;refine d_6 ?_;refine AR.op1y rfl rfl rfl (.buildSlice te_22.h TZ.h rfl (by decide) rfl rfl rfl (by simp[nuC])) rfl rfl ?_;refine AR.op1y rfl rfl rfl (.callS1 rfl rfl rfl (.shut rfl d_n (.keep (.nil))) rfl (t4)) rfl rfl ?_;refine a_z ?_;refine cT (r_c 2 (fa_) ?_);refine a_z ?_;exact ad_ (t_e (af_ _))
 |true=>
 rw[e4] at t4;refine ab_ (r_c 21 (t1) ?_);refine c_s (t2) ?_;refine c_s (t3) ?_;refine d_6 ?_;refine AR.op1y rfl rfl rfl (.buildSlice te_22.h TZ.h rfl (by decide) rfl rfl rfl (by simp[nuC])) rfl rfl ?_;refine AR.op1y rfl rfl rfl (.callS1 rfl rfl rfl (.shut rfl d_n (.keep (.nil))) rfl (t4)) rfl rfl ?_;refine a_z ?_;refine cF (ag_ ?_);obtain⟨bu,lu⟩:=jW_ e1 hu;obtain⟨bp,lp⟩:=jW_ e2 hp;obtain⟨bq,lq⟩:=jW_ e3 hq
 have h3:okR [ar,xr,br]:=fun r hr=>by
  simp only[List.mem_cons,List.not_mem_nil,or_false] at hr;rcases hr with rfl|rfl|rfl
  exact ha;exact hx;exact hb
 obtain⟨bn,_⟩:=jW_ e4 h3;have qa:qs (nV ar)≤20:=bn _ (by simp[nL]);have qx:qs (nV xr)≤20:=bn _ (by simp[nL]);have qb:qs (nV br)≤20:=bn _ (by simp[nL])
 have bo1:=kr_ ur (by have:(nL ur).length=ur.length:=by simp[nL]
                      omega) hu
 have bo2:=kr_ pr (by have:(nL pr).length=pr.length:=by simp[nL]
                      omega) hp
 have bo3:=kr_ qr (by have:(nL qr).length=qr.length:=by simp[nL]
                      omega) hq
 have bo4:=hw_ ar.1 ar.2.1 ar.2.2 ha.1 ha.2.1 ha.2.2;have bo5:=hw_ xr.1 xr.2.1 xr.2.2 hx.1 hx.2.1 hx.2.2;have bo6:=hw_ br.1 br.2.1 br.2.2 hb.1 hb.2.1 hb.2.2;refine r_c 7 (bo1) ?_;refine a_z ?_;refine r_c 7 (bo2) ?_;refine a_z ?_;refine r_c 7 (bo3) ?_;refine a_z ?_;refine r_c 9 (bo4) ?_;refine a_z ?_;refine r_c 9 (bo5) ?_;refine a_z ?_;refine r_c 9 (bo6) ?_;refine a_z ?_;change qs (numV ar.1 ar.2.1 ar.2.2)≤20 at qa;change qs (numV xr.1 xr.2.1 xr.2.2)≤20 at qx;change qs (numV br.1 br.2.1 br.2.2)≤20 at qb;generalize nL ur=u at *
 generalize nL pr=p at *
 generalize nL qr=q at *
 generalize numV ar.1 ar.2.1 ar.2.2=a at *
 generalize numV xr.1 xr.2.1 xr.2.2=x at *
 generalize numV br.1 br.2.1 br.2.2=b at *
 refine AWp.ent (st':=⟨[(13,.arr (pE u)),(15,.arr (pE p)),(17,.arr (pE q)),(19,bQ a),(21,bQ x),(23,bQ b)],[],1,188⟩) ?_ ?_;refine s_x [] (fun hs=>?_) (fun hs=>?_)
 ·repeat' (first|exact a9_|refine aV_ rfl ?_ ?_|exact au_ hs (ap_ _)|exact Cv.boxp hs rfl (a7_ rfl) rfl (aN_ _)|exact au_c)
 ·repeat' (first|exact aC_|refine h_c ?_ ?_|exact au_e|refine aA_ ?_|exact aq_|refine ah_ ?_ ?_|exact au_ hs (ap_ _)|exact Cv.boxp hs rfl (a7_ rfl) rfl (aN_ _)|exact au_c)
 obtain⟨_,hgl,g1,g2,g3,g4,g5,g6,g7⟩:=rg_HS lu lp lq bu bp bq qa qb;have sb:sm b:=Nat.le_trans qb (by decide);have sx:sm x:=Nat.le_trans qx (by decide);have su:=bI_ bu (show 20≤137438953472 by omega);have m1:=iv_ q u g1;have m2:=fX_ (mulP q u) (gd_ g1) (by have:=el_ q u;omega);have m3:=c5_ (aj_ (mulP q u)) a g3;have m4:=it_ (aj_ (mulP q u)) [evalP (aj_ (mulP q u)) a] g2 (pp_ (eT_ g3)) (by omega) (by simp);have m5:=iv_ p _ g5;have m6:=cL_ _ b (gd_ g5) sb (by omega);have m7:=it_ u _ su g7 (by omega) (Nat.le_trans (a3_ _ _) (by omega));change FSpec _ _ _ (.arr (pE (rgM u p q a b))) at m7;obtain⟨s,z1,z2,z3⟩:=pH_ lu lp lq bu bp bq qa qb;have hval:=rg_Value lu lp lq bu bp bq qa qb qx;generalize rgM u p q a b=g at *
 have hcl:=bV_ [(p,q)] b g;refine r_c 5 (m1) ?_;refine c_s (m2) ?_;refine a_z ?_;refine r_c 7 (m3) ?_;refine a_1 ?_;refine o_1 (.callS1 rfl rfl rfl (.keep (.shut rfl d_n (.nil))) rfl (m4)) ?_;refine a_z ?_;refine ab_ (r_d hmix 8 ?_);refine c_s (m5) ?_;refine c_s (m6) ?_;refine c_s (m7) ?_;refine a_1 ?_;refine ak_ (n_k ?_);refine r_z 9 ?_;refine AWp.ent (st':=⟨[(13,.arr (pE u)),(19,bQ a),(21,bQ x),(27,.lptr 1 0 0)],[(1,some ⟨56,5,[eqC [(p,q)] b g]⟩)],2,188⟩) ?_ ?_;refine s_x [(1,27)] (fun hs=>au_f) (fun hs=>?_)
 ·repeat' (first|exact aC_|refine h_c ?_ ?_|exact aA_ (ah_ (Cv.shut hs rfl (a7_ rfl) (by simp) (bt_ hs (ex_ [(p,q)]))) (CvL.clo hs (dH_ (aN_ b) (aa_ (ap_ g) ac_))))|exact au_e)
 refine r_c 8 (z1) ?_;refine a_z ?_;refine ab_ (s_r 10 ?_);refine a_1 ?_;refine o_0 (.bin rfl rfl (vF b4_ (rfl))) ?_;refine c_s (z2) ?_;refine c_s (z3) ?_;refine a_z ?_;refine cF (ag_ ?_);have hfi:=gL_ 20;have w20:wi 20 256=20:=by decide
 rw[w20] at hfi
 have ok:b2_ u x:=by
  have m:=bz_ bu (by omega);have c:u.length* (mxL u+qs x+1)≤4* 41:=Nat.mul_le_mul lu (by omega);exact⟨by omega,by omega⟩
 have evu:=c5_ u x ok
 obtain⟨lo,hi,er,hv,hve⟩:∃(lo hi:Rat) (er:Int),FS 26 [.agg (eqC [(p,q)] b g),.agg (qC a),.agg (qC x),.agg (qC (fineQ 20))] (.tup [.agg (spC lo hi),i64 er])∧(er=5∨er=0∧sm lo∧sm hi∧lo≤evalP u x∧evalP u x≤hi):=by
  rcases hval with hv|⟨lo,hi,hv,h⟩
  exact⟨0,0,5,hv,.inl rfl⟩;exact⟨lo,hi,0,hv,.inr ⟨rfl,h⟩⟩
 refine ab_ (r_d hmix 11 ?_);refine c_s (hfi) ?_;refine c_s (hv) ?_;refine a_6 ?_;refine ak_ (n_k ?_);refine a2_ (fun _:Unit=>⟨[(13,.arr (pE u)),(19,bQ a)],[],1,188⟩) (fun _=>True) ?_ ?_;rcases hve with rfl|⟨rfl,v1,v2,v3,v4⟩
 refine ab_ (r_d hmix 18 ?_);refine a_1 ?_;refine o_0 (.bin rfl rfl (vT b4_ (rfl))) ?_;refine d_2 ?_;refine de_ rfl rfl rfl (.bin rfl rfl (vF b4_ (rfl))) rfl rfl ?_;refine d_3 ?_;refine de_ rfl rfl rfl (.bin rfl rfl (vF bF_ (rfl))) rfl rfl ?_;refine d_8 ?_;refine m_1 ?_;refine ak_ (n_k ?_);refine cF (ag_ ⟨(),trivial,?_⟩);exact s_e [];have hh:=fs_SHas lo hi (evalP u x) v1 v2 (eT_ ok) ⟨v3,v4⟩;refine ab_ (r_d hmix 18 ?_);refine a_1 ?_;refine o_0 (.bin rfl rfl (vF b4_ (rfl))) ?_;refine d_6 ?_;refine de_ rfl rfl rfl (.bin rfl rfl (vT bF_ (rfl))) rfl rfl ?_;refine c_s (evu) ?_;refine c_s (hh) ?_;refine d_3 ?_;refine ak_ (n_k ?_);refine cF (ag_ ⟨(),trivial,?_⟩);exact s_e [];rintro _ _;obtain⟨v,hvd⟩:∃v,v=sqL (fun j=>evalP (dIt u j) a) 4:=⟨_,rfl⟩;have hvl:v.length=4:=by rw[hvd];rfl
 obtain⟨z,hH,hZ⟩:=mr_ lu bu qa v hvl (fun k hk=>by rw[hvd,coP_sqL _ _ _ hk]);have hcj:=gU_ a v;refine r_z 4 ?_;refine r_z 2 ?_;refine ab_ (r_z 1 ?_);refine ay_ (fun _:Unit=>⟨[(13,.arr (pE u)),(32,.lptr 1 0 0)],[(1,some ⟨68,4,[jtC a v]⟩)],2,188⟩) (fun _=>True) ?_ ?_;refine ae_ (as_ (jvS u a) (fun k=>4- k) (fun k=>k≤4) 0 (Nat.zero_le _) ?_ ?_);rw[jvS.eq_1,dIt];have:=(dH_ (aN_ a) (aa_ cb_ ac_));exact s_f [(1,32)];intro k hk;have B:=lM_ bu (by omega) (by omega) k
 have okk:b2_ (dIt u k) a:=by
  have m:=bz_ B.1 (by omega);have c:(dIt u k).length* (mxL (dIt u k)+qs a+1)≤200* 100:=Nat.mul_le_mul B.2 (by omega);exact⟨by omega,by omega⟩
 have ee:=c5_ (dIt u k) a okk;have ed:=dS_ (dIt u k) (bI_ B.1 (by omega)) (by omega);cases k with
 |zero=>
  rw[jvS.eq_1];refine ab_ (s_r 2 ?_);refine a_1 ?_;refine o_0 (.bin rfl rfl (vT cF_ (rfl))) ?_;refine ak_ ?_;refine cT (ag_ (ab_ (ae_ (ab_ (r_d hmix 9 ?_)))));refine c_s (ee) ?_;refine a_4 ?_;refine ak_ (n_k ?_);refine r_m 3 ?_;refine c_s (ed) ?_;refine a_z ?_;refine r_m 3 ?_;refine a_z ?_;refine⟨0+1,by omega,by omega,?_⟩;rw[jvS.eq_2,dIt];refine s_x [(1,32),(2,168)] (fun hs=>au_f) (fun hs=>?_)
  ·repeat' (first|exact aC_|refine h_c ?_ ?_|exact bt_ hs (aF_ [evalP (dIt u 0) a])|exact aA_ (kG_ (CvL.clo hs (aN_ a)) (ah_ (Cv.sl rfl rfl rfl) aq_))|exact au_e)
 |succ k=>
  by_cases hlt:k+1< 4;have e:pE (sqL (fun j=>evalP (dIt u j) a) (k+1))++[qC (evalP (dIt u (k+1)) a)]=pE (sqL (fun j=>evalP (dIt u j) a) (k+1+1)):=by rw[he_ (fun j=>evalP (dIt u j) a) (k+1),h2_]
  rw[jvS.eq_2];refine ab_ (q_z 2 ?_);refine cT (ag_ (ab_ (ae_ (ab_ (r_d hmix 9 ?_)))));refine c_s (ee) ?_;refine a_4 ?_;refine ak_ (n_k ?_);refine r_m 3 ?_;refine c_s (ed) ?_;refine a_z ?_;refine r_m 3 ?_;refine a_z ?_;refine⟨k+1+1,by omega,by omega,?_⟩;rw[jvS.eq_2,dIt];refine s_x [(1,32),(2,168)] (fun hs=>au_f) (fun hs=>?_)
  ·repeat' (first|exact aC_|refine h_c ?_ ?_|exact aJ_ hs e (aF_ _)|exact aA_ (kG_ (CvL.clo hs (aN_ a)) (ah_ (Cv.sl rfl rfl rfl) aq_))|exact au_e)
  have hk3:k=3:=by omega
  subst hk3;rw[jvS.eq_2];refine ab_ (s_r 2 ?_);refine a_1 ?_;refine o_0 (.bin rfl rfl (vF cF_ (rfl))) ?_;refine ak_ ?_;refine cF (ar_ ⟨(),trivial,?_⟩);unfold jtC;rw[hvd];refine s_x [(1,32)] (fun hs=>au_f) (fun hs=>?_)
  ·repeat' (first|exact aC_|refine h_c ?_ ?_|exact aA_ (kG_ (CvL.clo hs (aN_ a)) (ah_ (Cv.shut hs rfl (a7_ rfl) (by simp[sqL]) (aJ_ hs (by rw[List.drop_zero];exact List.take_of_length_le (by simp[pE])) (aF_ _))) aq_))|exact au_e)
 rintro _ _;refine s_r 8 ?_;refine a_2 ?_;refine o_1 (.callS1 rfl rfl rfl (.shut rfl d_n (.nil)) rfl (hH)) ?_;refine a_z ?_;refine s_r 11 ?_;refine a_1 ?_;refine o_0 (.bin rfl rfl (vT bF_ (rfl))) ?_;refine c_s (hZ) ?_;refine c_s (fa_) ?_;refine a_z ?_;exact ad_ (t_e (af_ _))
end Go.Proofs.YtjjllafelolfoaaGreatDoor
namespace Go.Proofs.YtjjllafelolfoaaGreatDoor
open Go
def mkF(P:Program)(fn:Func)(c:OpenClaim):Bool:=(P.make==some c.make) && (c.kinds==(if c.domain.isEmpty then [] else fn.params.toList.map fun t=>match P.underlying t with|some (.int k)=>some k|_=>none)) && (c.pinned==c.pinnedBy)
section
variable {P:Program}{f:FuncId}{fn:Func}{s:ChangeSpec}{c:OpenClaim}
theorem qh_ (h1:c.wf (OpenSpec.ofChange s)=true) (h2:laidOutB P=true) (h3:mapsRowed P=true)
    (h4:fn.params.all (P.readableRec ·)=true) (h5:namedTie P c.named s.vars=true)
    (h6:((c.stops==[]) && (P.stops==[]) && (c.knobs==[]) && (P.stopKnobs==[]))=true)
    (h7:(c.inPlace==P.inPlace f)=true) (h8:(c.unfollowed==P.unfollowed f)=true) (h9:(c.recurses==P.recurses f)=true) (h10:(c.named==P.varsNamed f)=true)
    (h11:((c.maps==(fn.params.toList++s.plain.varTypes P).any (P.mapsRec ·)) && (c.ifaces==(fn.params.toList++s.plain.varTypes P).any (P.ifacesRec ·)) && (c.mapsOut==P.mapsAmong fn.resultTypes.toList))=true)
    (h12:((c.loops==(fn.params.toList++s.plain.varTypes P).any (P.loopsFrom ·)) && (c.wideKeys==(fn.params.toList++s.plain.varTypes P++fn.resultTypes.toList).any (P.wideKeysFrom ·)))=true)
    (h13:(s.vars.all (P.varReadable ·) && fn.resultTypes.all (fun t=>P.readableRec t && decide (t< P.types.size)) && (c.ifacesOut==fn.resultTypes.toList.any (P.ifacesRec ·)) && (c.loopsOut==fn.resultTypes.toList.any (P.loopsFrom ·)) && (c.plainKeys==P.plainKeys) && c.shortTexts.isNone)=true)
    (h14:P.stopsHeard=true) (h15:P.mayEnter=true) (h16:(c.lifted==P.liftsFinal)=true)
    (h17:mkF P fn c=true)
    (h18:((c.veiled==(fn.params.toList++s.plain.varTypes P++fn.resultTypes.toList).any (P.veiledRec ·)) && c.veiledFits P fn.params.toList (fn.params.toList++s.plain.varTypes P++fn.resultTypes.toList))=true):
    joinedFacts P f fn s c=true:=by
 unfold mkF at h17;simp only[Bool.and_eq_true] at h6 h11 h12 h13 h17 h18;simp only[joinedFacts,Bool.and_eq_true]
 and_intros
 all_goals first|assumption|exact h6.1.1.1|exact h6.1.1.2|exact h6.1.2|exact h6.2|exact h11.1.1|exact h11.1.2|exact h11.2|exact h12.1|exact h12.2|exact h13.1.1.1.1.1|exact h13.1.1.1.1.2|exact h13.1.1.1.2|exact h13.1.1.2|exact h13.1.2|exact h13.2|exact h17.1.1|exact h17.1.2|exact h17.2|exact h18.1|exact h18.2
end
theorem iQ_:laidOutB Tryz.prog=true:=by kernel_rfl
theorem all_mr:mapsRowed Tryz.prog=true:=by kernel_rfl
theorem all_sh:Tryz.prog.stopsHeard=true:=by kernel_rfl
theorem all_me:Tryz.prog.mayEnter=true:=by kernel_rfl
theorem all_lk:false=Tryz.prog.looks []:=by kernel_rfl
theorem all_mi:Tryz.prog.mainIs=some (true,("75090e6c7c39e3844a1285015c24d362bf2f939361017007ff8708d7da8651e3" :String).toList):=by kernel_rfl
theorem all_lf:Tryz.prog.liftsFinal=Rows.topVolterraRow.lifted:=by kernel_rfl
theorem iX_:Rows.topVolterraRow.wf (OpenSpec.ofChange Rows.topVolterraSpec)=true:=by kernel_rfl
theorem i3_:Tryz.f3.params.all (Tryz.prog.readableRec ·)=true:=by kernel_rfl
theorem i5_:namedTie Tryz.prog Rows.topVolterraRow.named Rows.topVolterraSpec.vars=true:=by kernel_rfl
theorem i2_:((Rows.topVolterraRow.stops==[]) && (Tryz.prog.stops==[]) && (Rows.topVolterraRow.knobs==[]) && (Tryz.prog.stopKnobs==[]))=true:=by kernel_rfl
theorem jb_:(Rows.topVolterraRow.inPlace==Tryz.prog.inPlace 3)=true:=by kernel_rfl
theorem i1_:(Rows.topVolterraRow.unfollowed==Tryz.prog.unfollowed 3)=true:=by kernel_rfl
theorem i4_:(Rows.topVolterraRow.recurses==Tryz.prog.recurses 3)=true:=by kernel_rfl
theorem iZ_:(Rows.topVolterraRow.named==Tryz.prog.varsNamed 3)=true:=by kernel_rfl
theorem i6_:((Rows.topVolterraRow.maps==(Tryz.f3.params.toList++Rows.topVolterraSpec.plain.varTypes Tryz.prog).any (Tryz.prog.mapsRec ·)) && (Rows.topVolterraRow.ifaces==(Tryz.f3.params.toList++Rows.topVolterraSpec.plain.varTypes Tryz.prog).any (Tryz.prog.ifacesRec ·)) && (Rows.topVolterraRow.mapsOut==Tryz.prog.mapsAmong Tryz.f3.resultTypes.toList))=true:=by kernel_rfl
theorem i8_:((Rows.topVolterraRow.loops==(Tryz.f3.params.toList++Rows.topVolterraSpec.plain.varTypes Tryz.prog).any (Tryz.prog.loopsFrom ·)) && (Rows.topVolterraRow.wideKeys==(Tryz.f3.params.toList++Rows.topVolterraSpec.plain.varTypes Tryz.prog++Tryz.f3.resultTypes.toList).any (Tryz.prog.wideKeysFrom ·)))=true:=by kernel_rfl
theorem iY_:(Rows.topVolterraSpec.vars.all (Tryz.prog.varReadable ·) && Tryz.f3.resultTypes.all (fun t=>Tryz.prog.readableRec t && decide (t< Tryz.prog.types.size)) && (Rows.topVolterraRow.ifacesOut==Tryz.f3.resultTypes.toList.any (Tryz.prog.ifacesRec ·)) && (Rows.topVolterraRow.loopsOut==Tryz.f3.resultTypes.toList.any (Tryz.prog.loopsFrom ·)) && (Rows.topVolterraRow.plainKeys==Tryz.prog.plainKeys) && Rows.topVolterraRow.shortTexts.isNone)=true:=by kernel_rfl
theorem i0_:((Rows.topVolterraRow.veiled==(Tryz.f3.params.toList++Rows.topVolterraSpec.plain.varTypes Tryz.prog++Tryz.f3.resultTypes.toList).any (Tryz.prog.veiledRec ·)) && Rows.topVolterraRow.veiledFits Tryz.prog Tryz.f3.params.toList (Tryz.f3.params.toList++Rows.topVolterraSpec.plain.varTypes Tryz.prog++Tryz.f3.resultTypes.toList))=true:=by kernel_rfl
theorem iV_:Rows.topVolterraRow.wfByText (OpenSpec.ofChange Rows.topVolterraSpec)=true:=by kernel_rfl
theorem jc_:false=Rows.topVolterraRow.goesBy Tryz.prog:=by kernel_rfl
theorem topVolterra_fn:Tryz.prog.funcNamed Rows.topVolterraRow.func=some 3:=by kernel_rfl
theorem ja_:decide (Tryz.f3.isInstance Tryz.prog Rows.topVolterraRow.origin Rows.topVolterraRow.targs)=true:=by kernel_rfl
theorem iW_:(Tryz.f3.params.toList.all fun u=>!Tryz.prog.wantsStandIn u)=true:=by kernel_rfl
theorem i7_:mkF Tryz.prog Tryz.f3 Rows.topVolterraRow=true:=by kernel_rfl
theorem i9_:(Rows.topVolterraRow.lifted==Tryz.prog.liftsFinal)=true:=by rw[all_lf];kernel_rfl
theorem f5_:joinedFacts Tryz.prog 3 Tryz.f3 Rows.topVolterraSpec Rows.topVolterraRow=true:=
 qh_ iX_ iQ_ all_mr i3_ i5_ i2_ jb_ i1_ i4_ iZ_ i6_ i8_ iY_ all_sh all_me i9_ i7_ i0_
theorem hc_:Tryz.f3.isWrapper Tryz.prog Rows.topVolterraRow.wrapper Rows.topVolterraRow.mainSum:=by
 unfold Func.isWrapper;first|(rw[if_pos (by decide+kernel)];kernel_rfl)|(rw[if_neg (by decide+kernel)];exact⟨rfl,rfl⟩)
end Go.Proofs.YtjjllafelolfoaaGreatDoor
namespace Go.Proofs.YtjjllafelolfoaaGreatDoor
open Go.Abs Go.RowKit
theorem tab_glb:(Tryz.prog).globalNamed "internal/strconv.uint64pow10" =some GT:=by kernel_rfl
theorem tab_of{n1 n2:String}{a b:DataW Unit}{W:World}(h:laidMet Tryz.prog [(n1,a),(n2,b),("internal/strconv.uint64pow10",Lib.tabData .u64 Lib.pow10Tab)] W):TabW W:=by
 obtain⟨ps,⟨g1,t1,c1,u1,p1,q1,_,_,_,_,⟨g2,t2,c2,u2,p2,q2,_,_,_,_,⟨g,t,cs,fuel,p,q,hg,ht,hv,hd,_,_⟩,_⟩,_⟩,_,_⟩:=h;obtain rfl:=Option.some.inj (tab_glb.symm.trans hg);have hT:((Tryz.prog).globals[GT]?).map (·.type)=some 414:=by kernel_rfl
 have hu:(Tryz.prog).underlying 414=some (.array 20 288):=by kernel_rfl
 have he:(Tryz.prog).underlying 288=some (.int .u64):=by kernel_rfl
 have hce:(Tryz.prog).cellsOf 288=1:=by kernel_rfl
 have hct:(Tryz.prog).cellsOf 414=20:=by kernel_rfl
 obtain rfl:=Option.some.inj (hT.symm.trans ht);have hc:=Lib.cells_of_tab (zs:=Lib.pow10Tab) hu he hce hct hd;unfold World.var? at hv;rw[tab_glb] at hv;have hv':(match W.heap[GT]? with|some (.cells cs _ _)=>some cs|_=>none)=some cs:=hv;cases hh:W.heap[GT]? with
 |none=>rw[hh] at hv';cases hv'
 |some o=>
  rw[hh] at hv';cases o with
  |cells a b c=>
   obtain rfl:a=cs:=Option.some.inj hv';refine⟨b,c,?_⟩;rw[hh]
   have:a=tabA:=by
    unfold tabA;rw[←hc]
   rw[this]
  |_=>cases hv'
end Go.Proofs.YtjjllafelolfoaaGreatDoor
namespace Go.Proofs.YtjjllafelolfoaaGreatDoor
open Go.Abs Go.ChangeAt Go.ChangeShapes Go.RowKit Go.WideShapes
theorem own:ownKnob Tryz.prog.godebug=none:=by kernel_rfl
theorem und4:Tryz.prog.underlying 4=some .bool:=by kernel_rfl
abbrev laid3:List (String×DataW Unit):=Rows.topVolterraRow.laid
theorem door_met(os:Os)(args:Array Value):laidMetH Tryz.prog laid3 ((World.doorLaid Tryz.prog 24 os).forCall (fun _ _=>0) ⟨#[],args,[]⟩).memory:=
 laidMetH_of_parts3 (fuel:=8) (laidMet_of_run' 8 (by kernel_rfl) (by kernel_rfl)) (by kernel_rfl) (by kernel_rfl)
set_option maxRecDepth 100000 in
theorem f4_(os:Os)(started:os.Started)(H:Type)(enc:TypeId×Value→H):
    ReturnsInHanded {} Tryz.checked os 3 .any (fun w args=>(Rows.topVolterraSpec.pre enc Tryz.prog Tryz.f3 [] false w args∧laidMetH Tryz.prog laid3 w)∧sizedMet enc Tryz.prog Tryz.f3 (OpenSpec.ofChange Rows.topVolterraSpec) false w args)
     (Rows.topVolterraSpec.post enc Tryz.prog Tryz.f3 false true false false):=by
 refine returnsInHanded_of_change_and (C:=Tryz.checked) (X:=fun w _=>laidMetH Tryz.prog laid3 w) (fun _ _ _ hh h=>h.of_heap hh) own started (by kernel_rfl) Tryz.func3
  (ChangeSpec.witness_shaped (enc:=enc) (C:=Tryz.checked) (os:=os) (X:=fun w _=>laidMetH Tryz.prog laid3 w) false (World.doorLaid Tryz.prog 24 os) #[.slice none 0 0,.slice none 0 0,.slice none 0 0,(.agg #[.int .i64 0,.int .i64 0,.int .u8 0]),(.agg #[.int .i64 0,.int .i64 0,.int .u8 0]),(.agg #[.int .i64 0,.int .i64 0,.int .u8 0])] 8 rfl (World.shaped_of_RefB (by kernel_rfl) (by kernel_rfl)) (by kernel_rfl) (by kernel_rfl) (by kernel_rfl) (door_met os _)) ?_
 intro W base args ds gs before hval0 hW _ _ hX _;have hval:∀(j:Nat) t v,Tryz.f3.params[j]?=some t→args[j]?=some v→Value.okWide Tryz.prog W .any base t v:=hval0;have hW':=hW;obtain⟨p,q,hA0,hV,rfl,hfz,hnd⟩:=hW;have hA:DataW.TrodAll enc Tryz.prog W 0 (fun _=>true) true Tryz.f3.params.toList args.toList ds p:=hA0;rw[Tryz.params3] at hA hval;obtain⟨v0,vs0,d0,ds0,p0,q0,hargs,rfl,rfl,h0,r0⟩:=trodAll_cons hA;obtain⟨v1,vs1,d1,ds1,p1,q1,rfl,rfl,rfl,h1,r1⟩:=trodAll_cons r0;obtain⟨v2,vs2,d2,ds2,p2,q2,rfl,rfl,rfl,h2,r2⟩:=trodAll_cons r1;obtain⟨v3,vs3,d3,ds3,p3,q3,rfl,rfl,rfl,h3,r3⟩:=trodAll_cons r2;obtain⟨v4,vs4,d4,ds4,p4,q4,rfl,rfl,rfl,h4,r4⟩:=trodAll_cons r3;obtain⟨v5,vs5,d5,ds5,p5,q5,rfl,rfl,rfl,h5,r5⟩:=trodAll_cons r4;obtain⟨rfl,rfl,rfl⟩:=trodAll_nil r5;obtain rfl:args= #[v0,v1,v2,v3,v4,v5]:=by cases args;simp_all
 obtain⟨rfl,rfl⟩:=trodVars_none hV;obtain⟨a0,len0,cap0,rfl⟩:=okWide_slice tyS (hval 0 22 v0 rfl rfl);obtain⟨a1,len1,cap1,rfl⟩:=okWide_slice tyS (hval 1 22 v1 rfl rfl);obtain⟨a2,len2,cap2,rfl⟩:=okWide_slice tyS (hval 2 22 v2 rfl rfl);have lt0:∀x∈p0,x.block< W.heap.size:=by obtain⟨m,hm⟩:=h0;exact DataW.trod_lt m _ _ _ hm
 have lt1:∀x∈p1,x.block< W.heap.size:=by obtain⟨m,hm⟩:=h1;exact DataW.trod_lt m _ _ _ hm
 have lt2:∀x∈p2,x.block< W.heap.size:=by obtain⟨m,hm⟩:=h2;exact DataW.trod_lt m _ _ _ hm
 have lt3:∀x∈p3,x.block< W.heap.size:=by obtain⟨m,hm⟩:=h3;exact DataW.trod_lt m _ _ _ hm
 have lt4:∀x∈p4,x.block< W.heap.size:=by obtain⟨m,hm⟩:=h4;exact DataW.trod_lt m _ _ _ hm
 have lt5:∀x∈p5,x.block< W.heap.size:=by obtain⟨m,hm⟩:=h5;exact DataW.trod_lt m _ _ _ hm
 obtain⟨l0,o0,g0⟩:=mb_ h0;obtain⟨l1,o1,g1⟩:=mb_ h1;obtain⟨l2,o2,g2⟩:=mb_ h2;obtain⟨l3,o3,g3⟩:=mh_ (hval 3 24 v3 rfl rfl) h3;obtain⟨l4,o4,g4⟩:=mh_ (hval 4 24 v4 rfl rfl) h4;obtain⟨l5,o5,g5⟩:=mh_ (hval 5 24 v5 rfl rfl) h5;clear hA0 hval0;refine((je_ l0 l1 l2 l3 l4 l5 o0 (rvlen g0) o1 (rvlen g1) o2 (rvlen g2) o3 o4 o5).calls (fun _=>False) W [.slice a0 len0 cap0,.slice a1 len1 cap1,.slice a2 len2 cap2,v3,v4,v5] ⟨fun _ h=>h.elim,fun h=>h,tab_of (by rw[MakeChecks.laidMetH_plain _ _ _ (by kernel_rfl)] at hX;exact hX)⟩ ⟨_,_,rfl,g0,⟨_,_,rfl,g1,⟨_,_,rfl,g2,⟨_,_,rfl,g3,⟨_,_,rfl,g4,⟨_,_,rfl,g5,rfl⟩⟩⟩⟩⟩⟩).mono fun e W' ⟨y,he,hy,bel⟩=>?_;have hy':y= .bool true:=hy;subst he;subst hy';exact⟨_,rfl,_,_,_,[],_,[],hW',trodAll_mk1 (shut_bool und4 _),(trodAll_cons_mk (Below.trod iQ_ (by kernel_rfl) (of_decide_eq_true (by kernel_rfl)) h0 bel lt0) (trodAll_cons_mk (Below.trod iQ_ (by kernel_rfl) (of_decide_eq_true (by kernel_rfl)) h1 bel lt1) (trodAll_cons_mk (Below.trod iQ_ (by kernel_rfl) (of_decide_eq_true (by kernel_rfl)) h2 bel lt2) (trodAll_cons_mk (Below.trod iQ_ (by kernel_rfl) (of_decide_eq_true (by kernel_rfl)) h3 bel lt3) (trodAll_cons_mk (Below.trod iQ_ (by kernel_rfl) (of_decide_eq_true (by kernel_rfl)) h4 bel lt4) (trodAll_cons_mk (Below.trod iQ_ (by kernel_rfl) (of_decide_eq_true (by kernel_rfl)) h5 bel lt5) trodAll_mk0)))))),rfl,bel.frame _,fun h=>by cases h⟩
theorem hO_:Rows.TopVolterraSaid:=
 OpenClaim.holds_of_wide 3 Tryz.f3 rfl rfl rfl rfl rfl rfl rfl ⟨rfl,rfl,rfl,rfl,rfl⟩ rfl rfl rfl rfl rfl topVolterra_fn Tryz.func3 f5_
  (of_decide_eq_true ja_) hc_
  (fun os started H enc _=>f4_ os started H enc)
theorem topVolterra_card:Rows.TopVolterraCardSaid:=
 Claim7.holds_tied_plain_at .later [] [.data,.data,.data] true (true, "75090e6c7c39e3844a1285015c24d362bf2f939361017007ff8708d7da8651e3") false
  hO_ (fun _ h=>by cases h) iV_ (fun _ h=>by cases h) topVolterra_row_tie rfl ⟨rfl,rfl⟩ all_mi rfl
  (fun f fn hf hfn=>by
   obtain rfl:f=3:=Option.some.inj (topVolterra_fn.symm.trans hf)|>.symm;obtain rfl:fn=Tryz.f3:=(Option.some.inj (Tryz.func3.symm.trans hfn)).symm
   exact⟨all_lk,fun j t ht=>by
    have hm:t∈Tryz.f3.params.toList:=by simpa using Array.mem_of_getElem? ht
    exact(show Tryz.prog.wantsStandIn t=false by simpa using List.all_eq_true.1 iW_ t hm)⟩)
  jc_
#print axioms topVolterra_card
end Go.Proofs.YtjjllafelolfoaaGreatDoor
