/- Part X30 of the proof. -/
import Derived.Test.YtjgokhkahkmpbaaGreatDoorX29
import Derived.ProofKit
import Derived.OpenShut
import Derived.Carry
import Derived.Deep.Slices
import Derived.Deep.Strs
import Derived.ChangeSame
set_option linter.all false
namespace Go.Proofs.YtjgokhkahkmpbaaGreatDoor
open Go.Abs
set_option maxRecDepth 20000
set_option maxHeartbeats 4000000
abbrev rspC(a b:Rat):La:=rC (rq a)++rC (rq b)
theorem mq(a b:Rat):∀c∈rspC a b,Closed c:=fun c hc=>(List.mem_append.1 hc).elim (c8 _ c) (c8 _ c)
theorem DF(a b:Rat)(h:qs a+qs b≤1000):FS 53 [.agg (rspC a b)] (.agg (rC (rq (b- a)))):=by
 have hs:=fs_rSub (rq b) (rq a) (cY _) (cY _) (by show qs b+qs a≤_;omega);refine f_n Tryz.func53 ?_ ?_;exact ae (aG (mq a b)) ai;refine r_z 2 ?_;refine r_c 6 (hs) ?_;refine a_z ?_;exact aj (c_e (aG (c8 _)))
theorem CF:Rat.divInt 1 2=(1/ 2:Rat):=by decide+kernel
theorem AP(a b:Rat)(h:qs a+qs b≤1000):FS 56 [.agg (rspC a b)] (.agg (rC (rq ((a+b) * (1/ 2))))):=by
 have ha:=lD (rq a) (rq b) (cY _) (cY _) (by show qs a+qs b≤_;omega);have ho:=AO 1 2 (by decide) (by decide) (by decide);rw[CF] at ho;have hq:=iM a b;have hh:qs (1/ 2:Rat)≤10:=by decide+kernel
 have hm:=rJ (rq (a+b)) (rq (1/ 2)) (cY _) (cY _) (by show qs (a+b)+qs (1/ 2:Rat)≤_;omega);refine f_n Tryz.func56 ?_ ?_;exact ae (aG (mq a b)) ai;refine r_z 2 ?_;refine r_c 8 (ha) ?_;refine c_s (ho) ?_;refine c_s (hm) ?_;refine a_z ?_;exact aj (c_e (aG (c8 _)))
theorem Cy(p:Lq):(jH (rP p)).getLastD (rq 0)=rq (aT p):=by
 rw[ov];unfold aT rP;rw[List.getLastD_eq_getLast?,List.getLastD_eq_getLast?,List.getLast?_map];cases (av p).getLast? <;> rfl
def reZ(n:Nat)(u v:Rat):Lq×Lq×Rat→AState
 |(g,O,b)=>⟨[(2,i64 n),(7,.lptr 1 0 0),(9,.arr (rE (rP g))),(10,.arr (rE (rP [u,v]))),(11,.arr (rE (rP O))),(12,.lptr 2 0 0)],[(1,some ⟨49,4,[zR4]⟩),(2,some ⟨49,4,[rC (rq b)]⟩)],3,69⟩
def z8(j:Nat):Nat:=j* 200000000+1
theorem z8_s(j:Nat):z8 (j+1)=z8 j+200000000:=by unfold z8;omega
theorem z8_le{j:Nat}(h:j≤8):z8 j≤1600000001∧1≤z8 j:=by unfold z8;omega
def reI(n:Nat)(u v:Rat)(G:Nat)(R:Lq×Rat)(x:Nat×Lq×Lq×Rat):Prop:=
 reM n u v x.1 x.2.1 x.2.2.1 x.2.2.2=some R∧x.2.1.length≤1000∧x.2.2.1.length≤1000∧∃j,j+(av x.2.1).length≤8∧bdL x.2.1 (ecG G j)∧bdL x.2.2.1 (z8 j)∧qs x.2.2.2≤z8 j
theorem uD (F:Lq) (s:Sp) (n f:Nat) (R:Lq×Rat) (hF:F.length≤8) (hb:bdL F 20) (h1:qs s.1≤20) (h2:qs s.2≤20) (hs:s.1< s.2)
    (hR:reM n (-((s.1+s.2) * (1/ 2) / ((s.2- s.1) * (1/ 2)))) (1/ ((s.2- s.1) * (1/ 2))) f (cM [(s.1+s.2) * (1/ 2),(s.2- s.1) * (1/ 2)] F) [] 0=some R):
    FS 14 [.arr (rE (rP F)),.agg (rspC s.1 s.2),i64 n] (.tup [.arr (rE (rP R.1)),.agg (rC (rq R.2))]):=by
 obtain⟨mid,hmid⟩:∃m,m=(s.1+s.2) * (1/ 2):=⟨_,rfl⟩;obtain⟨ha,hha⟩:∃h,h=(s.2- s.1) * (1/ 2):=⟨_,rfl⟩;obtain⟨u,hu⟩:∃u,u= -(mid/ ha):=⟨_,rfl⟩;obtain⟨v,hv⟩:∃v,v=1/ ha:=⟨_,rfl⟩;rw[←hmid,←hha,←hu,←hv] at hR;have qh:qs (1/ 2:Rat)=2:=by decide+kernel
 have q1:qs (1:Rat)=1:=by decide
 have z1:=iM s.1 s.2;have z2:=eV (s.1+s.2) (1/ 2);have z3:=nZ s.2 s.1;have z4:=eV (s.2- s.1) (1/ 2);have z5:=fP mid ha;have z6:=fX (mid/ ha);have z7:=fP 1 ha;rw[←hmid] at z2;rw[←hha] at z4;rw[←hu] at z6;rw[←hv] at z7;have ha0:ha≠0:=by rw[hha];grind
 have hw:=DF s.1 s.2 (by omega);have hmd:=AP s.1 s.2 (by omega);rw[←hmid] at hmd;have ho:=AO 1 2 (by decide) (by decide) (by decide);rw[CF] at ho;have hml:=rJ (rq (s.2- s.1)) (rq (1/ 2)) (cY _) (cY _) (by show qs (s.2- s.1)+qs (1/ 2:Rat)≤_;omega);rw[show(rq (s.2- s.1)).1* (rq (1/ 2)).1=ha from hha.symm] at hml;have hco:=pj F mid ha 20 (by omega) (by omega) hb (by decide) hF (by decide);have hdv:=wB (rq mid) (rq ha) (cY _) (cY _) ha0 (by show qs mid+qs ha≤_;omega);have hng:=CL (rq (mid/ ha)) (cY _);rw[show -(rq (mid/ ha)).1=u from hu.symm] at hng;have i1:FS 59 [i64 1] (.agg (rC (rq 1))):=jb 1 (by decide);have i0:FS 59 [i64 0] (.agg (rC (rq 0))):=jb 0 (by decide);have hd1:=wB (rq 1) (rq ha) (cY _) (cY _) ha0 (by show qs (1:Rat)+qs ha≤_;omega);rw[show(rq 1).1/ (rq ha).1=v from hv.symm] at hd1;have cF:=b8 (rP F);obtain⟨c1,c2⟩:=tk (p:=F) (u:=mid) (v:=ha) (s:=20) (by omega) (by omega) hb (by decide) hF;refine f_n Tryz.func14 ?_ ?_;exact ae cF (ae (aG (mq s.1 s.2)) (ae (ag _) ai));refine r_z 3 ?_;refine r_c 6 (hw) ?_;refine c_s (ho) ?_;refine c_s (hml) ?_;refine a_z ?_;refine ac (r_d hmix 7 ?_);refine c_s (hmd) ?_;refine a_2 ?_;refine o_1 (.callS1 rfl rfl rfl (.keep (.shut rfl d_n (.nil))) rfl (hco)) ?_;refine a_1 ?_;refine an (n_k ?_);refine ac (r_d hmix 10 ?_);refine c_s (hmd) ?_;refine c_s (hdv) ?_;refine c_s (hng) ?_;refine c_s (i1) ?_;refine c_s (hd1) ?_;refine a_2 ?_;refine an (n_k ?_);refine r_z 1 ?_;refine r_c 3 (i0) ?_;refine a_z ?_
 refine aU (fun _:Unit=>⟨[(7,.lptr 1 0 0),(11,.arr (rE (rP R.1))),(12,.lptr 2 0 0)],[(1,some ⟨49,4,[zR4]⟩),(2,some ⟨49,4,[rC (rq R.2)]⟩)],3,69⟩) (fun _=>True) ?_ ?_;refine am (aC (fun x:Nat×Lq×Lq×Rat=>reZ n u v x.2) (fun x=>x.1) (reI n u v 424200 R) (f,cM [mid,ha] F,[],0) ⟨hR,by show(cM [mid,ha] F).length≤1000;omega,Nat.zero_le _,0,?_,dN c1 (by decide),fun q hq=>(by cases hq),(by show qs 0≤_;decide)⟩ ?_ ?_);show 0+(av (cM [mid,ha] F)).length≤8;have:=b9 (cM [mid,ha] F);omega;simp only[reZ.eq_1];refine s_x [(1,7),(2,12)] (fun hs=>?_) (fun hs=>?_)
 ·repeat' (first|exact aH|refine ao rfl ?_ ?_|exact ah hs (b8 _)|exact nf (L:=rP [u,v]) hs rfl (aP rfl) rfl rfl|exact Cv.emp _|exact aY)
 ·repeat' (first|exact aD|refine h_c ?_ ?_|exact aw (CvL.clo hs oh)|exact aw (CvL.clo hs (c8 _))|exact bG|refine aw ?_|exact ax|refine af ?_ ?_|exact ah hs (b8 _)|exact nf (L:=rP [u,v]) hs rfl (aP rfl) rfl rfl|exact Cv.emp _|exact aY)
 rintro⟨k,g,O,b⟩ ⟨hre,hg,hO,j,j1,j2,j3,j4⟩;simp only at hre hg hO j1 j2 j3 j4;simp only[reZ.eq_1];cases k with
 |zero=>cases hre
 |succ k=>
  rw[reM] at hre;have hdg:=tz (rP g) (by simp[rP];omega);rw[cW] at hdg;by_cases h0:av g=[];rw[if_pos h0] at hre;cases hre;have hneg:=degP_neg.2 h0;refine ac (r_c 3 (hdg) ?_);refine o_0 (.bin rfl rfl (vF ei (decide_eq_false (by omega)))) ?_;refine an ?_;refine aq rfl (fun h=>?_) (fun h=>?_);cases h;refine aA ⟨(),trivial,?_⟩;exact s_x [(1,7),(2,12)] (fun hs=>e_18) (fun hs=>e_19);rw[if_neg h0] at hre;simp only[] at hre;obtain⟨D,hD⟩:∃D,(av g).length=D+1:=⟨(av g).length- 1,by have:=List.length_pos_iff.2 h0;omega⟩;rw[show(av g).length- 1=D by omega] at hre;have hdD:cC g=(D:Int):=by unfold cC;omega
  rw[hdD] at hdg;have hfam:=AQ D (by omega);obtain⟨e1,e2,e3,e4,_⟩:=fS D (by omega);have cb:=C4 (show D≤8 by omega);have hdr:=xi hD (by omega);obtain⟨t,ht⟩:∃t,t=(chP D).1:=⟨_,rfl⟩;rw[←ht] at hre hfam e1 e2 e3 e4 cb hdr;have g1:1≤ecG 424200 j:=Nat.le_trans (by decide) (py 424200 (Nat.zero_le j));have g2:ecG 424200 j≤ecG 424200 8:=py 424200 (by omega);have g3:ecG 424200 8≤110000000:=by decide
  have y1:qs (aT g)≤ecG 424200 j:=by
   have e:coP (av g) D=aT (av g):=kw (ft g) hD;rw[gQ,lj] at e;rw[←e];exact dL j2 g1 D
  have y2:qs (aT t)≤10:=by
   rw[←kw e2 e1];exact dL cb (by decide) D
  have y3:=fP (aT g) (aT t);have hl1:=yB (rP g) _ (by simp[rP];omega) (Cy g);have hl2:=yB (rP t) _ (by simp[rP];omega) (Cy t);have hdc:=wB (rq (aT g)) (rq (aT t)) (cY _) (cY _) e4 (by show qs (aT g)+qs (aT t)≤_;omega);obtain⟨c,hc⟩:∃c,c=aT g/ aT t:=⟨_,rfl⟩;rw[show(rq (aT g)).1/ (rq (aT t)).1=c from hc.symm] at hdc;rw[←hc] at hre hdr y3;have hsc:=jn (rP t) (rq c) 10 (eD _) (cY _) (by rw[cW];exact cb) (by show 10+qs c≤_;omega) (by simp[rP];omega);rw[cW] at hsc;have b1:=gi cb (by decide) (show qs c≤ecG 424200 j+10 by omega);have l1:=cm t c;have hsb:=yy (rP g) (rP (aW t c)) _ _ (eD _) (eD _) (by rw[cW];exact j2) (by rw[cW];exact b1) (by omega) (by omega) (by simp[rP];omega) (by simp[rP];omega);rw[cW,cW] at hsb
  have b2:bdL (dH g (aW t c)) (ecG 424200 (j+1)):=j7 fun i=>by
   rw[rU];have a1:=dL j2 g1 i;have a2:=dL b1 (by omega) i;have a3:=nZ (coP g i) (coP (aW t c) i);rw[ecG];omega
  have l2:=xI g (aW t c);refine ac (r_c 3 (hdg) ?_);refine o_0 (.bin rfl rfl (vT ei (decide_eq_true (by omega)))) ?_;refine an ?_;refine cT (ak (am (r_c 3 (hdg) ?_)));refine a_z ?_;refine r_c 3 (hfam) ?_;refine a_z ?_;refine r_c 7 (hl1) ?_;refine c_s (hl2) ?_;refine c_s (hdc) ?_;refine a_z ?_;refine r_c 6 (hsc) ?_;refine c_s (hsb) ?_;refine a_z ?_;by_cases hn:D≤n;rw[if_pos hn] at hre;have hcm:=pj t u v 10 (by omega) (by omega) cb (by decide) (by omega) (by decide);obtain⟨k1,k2⟩:=tk (p:=t) (u:=u) (v:=v) (s:=10) (by omega) (by omega) cb (by decide) (by omega);have hs2:=jn (rP (cM [u,v] t)) (rq c) _ (eD _) (cY _) (by rw[cW];exact k1) (by show 8* (53000+10+1)+1+qs c≤_;omega) (by simp[rP];omega);rw[cW] at hs2;have b3:=gi k1 (by decide) (show qs c≤ecG 424200 j+10 by omega);have l3:=cm (cM [u,v] t) c;obtain⟨hj8,hj9⟩:=z8_le (show j≤8 by omega);have hzs:=z8_s j;have had:=pk (rP O) (rP (aW (cM [u,v] t) c)) _ _ (eD _) (eD _) (by rw[cW];exact j3) (by rw[cW];exact b3) (by omega) (by simp[rP];omega) (by simp[rP];omega);rw[cW,cW] at had;have b4:=xw j3 b3 (by omega) (by omega);have l4:=iG O (aW (cM [u,v] t) c);have nb:bdL (ik O (aW (cM [u,v] t) c)) (z8 (j+1)):=dN b4 (by omega);have nq:qs b≤z8 (j+1):=by omega
  refine s_r 3 ?_;refine a_2 ?_;refine o_0 (.bin rfl rfl (vT dY (decide_eq_true (by omega)))) ?_;refine an ?_;refine cT (r_d hmix 8 ?_);refine c_s (hcm) ?_;refine c_s (hs2) ?_;refine c_s (had) ?_;refine a_1 ?_;refine an (n_k ?_);refine⟨(k,_,_,_),Nat.lt_succ_self k,⟨hre,by show(dH g (aW t c)).length≤1000;omega,by show(ik O (aW (cM [u,v] t) c)).length≤1000;omega,j+1,by show j+1+(av (dH g (aW t c))).length≤8;omega,b2,nb,nq⟩,?_⟩;simp only[reZ.eq_1];exact s_x [(1,7),(2,12)] (fun hs=>e_18) (fun hs=>e_19);rw[if_neg hn] at hre;have hab:=fs_rAbs (rq c) (cY _);have qa:qs (cj c)=qs c:=qs_abs c;obtain⟨hj8,hj9⟩:=z8_le (show j≤8 by omega);have hzs:=z8_s j;have had:=lD (rq b) (rq (cj c)) (cY _) (cY _) (by show qs b+qs (cj c)≤_;omega);have qb:=iM b (cj c);have nb:bdL O (z8 (j+1)):=dN j3 (by omega);have nq:qs (b+cj c)≤z8 (j+1):=by omega
  refine s_r 3 ?_;refine a_2 ?_;refine o_0 (.bin rfl rfl (vF dY (decide_eq_false (by omega)))) ?_;refine an ?_;refine aq rfl (fun h=>?_) (fun h=>?_);cases h;refine r_d hmix 5 ?_;refine c_s (hab) ?_;refine c_s (had) ?_;refine a_1 ?_;refine an (n_k ?_);refine⟨(k,_,_,_),Nat.lt_succ_self k,⟨hre,by show(dH g (aW t c)).length≤1000;omega,hO,j+1,by show j+1+(av (dH g (aW t c))).length≤8;omega,b2,nb,nq⟩,?_⟩;simp only[reZ.eq_1];exact s_x [(1,7),(2,12)] (fun hs=>e_18) (fun hs=>e_19)
 rintro _ _;refine ac (r_d hmix 4 ?_);refine a_4 ?_;refine an (n_k ?_);refine aj (Fin.many ⟨_,_,rfl,rfl,⟨_,_,rfl,⟨_,_,_,_,_,rfl,rfl,rfl,.inl ⟨TG.h,_,TS.h,nle rfl,rfl⟩⟩,rfl⟩⟩ (nle rfl) ?_);exact af (ah aB (b8 _)) (af (ah aB (aG (c8 _))) ax)
theorem qH(q l:Lq):av (cM q l)=cM q l:=by
 cases l with
 |nil=>rfl
 |cons a l=>rw[cM,ou]
theorem pW{u v:Rat}{s:Nat}(hu:qs u≤100)(hv:qs v≤100)(hs:1≤s)(hs2:s≤1000000000):∀l:Lq,l.length≤8→bdL l s→lf [u,v] l
 |[],_,_=>trivial
 |a::l,hl,hb=>by
  have hl1:l.length≤7:=by simpa using hl
  have hb1:bdL l s:=fun q hq=>hb q (List.mem_cons_of_mem _ hq);obtain⟨k1,k2⟩:=tk hu hv hb1 hs (by omega);have m2:=E4 k1 (by omega);have m3:=E4 (xr hu hv) (by decide);have m5:(cM [u,v] l).length* (mxL (cM [u,v] l)+mxL [u,v]+1)≤7* (8* (53000+s+1)+1+100+1):=Nat.mul_le_mul (by omega) (by omega);have h1:=wt (cM [u,v] l) [u,v] 2;rw[show mR (cM [u,v] l) [u,v] 2=ef (cM [u,v] l) [u,v] from tg _ [u,v]] at h1;exact⟨pW hu hv hs hs2 l (by omega) hb1,⟨by omega,by omega,by omega,by simp⟩,Nat.le_trans (hb a (List.mem_cons_self ..)) (by omega),by omega⟩
theorem wR(l:Lq)(x:Rat):∀i,aF (ffM l i) x=sQ (fun k=>if k< l.length then coP l k* aF (chP k).1 x else 0) i
 |0=>rfl
 |i+1=>by
  rw[ffM,sQ];by_cases h:i< l.length;rw[if_pos h,if_pos h,jo,eS,wR l x i];grind;rw[if_neg h,if_neg h,wR l x i];grind
theorem FG{l:Lq}{X:Nat}(hl:l.length≤8)(h:∀i,qs (coP l i)≤X):∀i,bdL (ffM l i) (i* (X+12)+1)∧(ffM l i).length≤9
 |0=>⟨fun q hq=>by(cases hq),Nat.zero_le _⟩
 |i+1=>by
  obtain⟨h1,h2⟩:=FG hl h i;rw[ffM];split
  ·rename_i hi
   obtain⟨c1,_⟩:=fS i (by omega);have b1:=gi (C4 (show i≤8 by omega)) (by decide) (h i);have l1:=cm (chP i).1 (coP l i);have l2:=iG (ffM l i) (aW (chP i).1 (coP l i));exact⟨dN (xw h1 b1 (by omega) (by omega)) (by rw[Nat.succ_mul];omega),by omega⟩
  exact⟨dN h1 (by rw[Nat.succ_mul];omega),h2⟩
theorem CT(r:Lq)(n:Nat):∀j,sQ (fun i=>if i≤n then 0 else cj (coP r i)) (n+1+j)=ecB r n j
 |0=>by
  have:∀m,m≤n+1→sQ (fun i=>if i≤n then 0 else cj (coP r i)) m=0:=fun m=>by
   induction m with
   |zero=>exact fun _=>rfl
   |succ m ih=>intro h;rw[sQ,ih (by omega),if_pos (by omega)];grind
  exact this _ (Nat.le_refl _)
 |j+1=>by rw[←Nat.add_assoc,sQ,CT r n j,if_neg (by omega),ecB]
theorem Bl{r:Lq}{X:Nat}(h:∀i,qs (coP r i)≤X)(n:Nat):∀j,qs (ecB r n j)≤j* (X+1)+1
 |0=>by rw[Nat.zero_mul];exact(by decide:qs 0≤1)
 |j+1=>by
  have h1:=Bl h n j;have h2:=h (n+1+j);have h3:=iM (ecB r n j) (cj (coP r (n+1+j)));rw[qs_abs] at h3;rw[ecB,Nat.succ_mul];omega
theorem w7(p:Lq):cC p≤(p.length:Int)- 1:=by
 have:=b9 p;unfold cC;omega
theorem fineH:ci 1=(1/ 2:Rat):=by decide+kernel
theorem ec_same(F:Lq)(s:Sp)(n:Nat)(hF:F.length≤8)(hb:bdL F 20)(h1:qs s.1≤20)(h2:qs s.2≤20)(hs:s.1< s.2)(hn:n≤40):
    ∃(r:Lq) (P:Lq) (b:Rat),ka 9 (cM [gr s,(s.2- s.1) * (1/ 2)] F)=some r∧EY F s n r∧P=cM [-(gr s* eG s),eG s] (ecP r n)∧b=ecB r n (r.length- (n+1))∧
     reM n (-((s.1+s.2) * (1/ 2) / ((s.2- s.1) * (1/ 2)))) (1/ ((s.2- s.1) * (1/ 2))) 9 (cM [(s.1+s.2) * (1/ 2),(s.2- s.1) * (1/ 2)] F) [] 0=some (P,b)∧
     bdL P 20000000000∧P.length≤20∧qs b≤2000000000:=by
 have qh:qs (1/ 2:Rat)=2:=by decide+kernel
 have q2:qs (2:Rat)=2:=by decide
 have z1:=iM s.1 s.2;have z2:=eV (s.1+s.2) (1/ 2);have z3:=nZ s.2 s.1;have z4:=eV (s.2- s.1) (1/ 2);have z5:=fP 2 (s.2- s.1);have em:gr s=(s.1+s.2) * (1/ 2):=by unfold gr;rw[fineH]
 obtain⟨mid,hmid⟩:∃m,m=gr s:=⟨_,rfl⟩;obtain⟨ha,hha⟩:∃h,h=(s.2- s.1) * (1/ 2):=⟨_,rfl⟩;obtain⟨v,hv⟩:∃v,v=eG s:=⟨_,rfl⟩;obtain⟨u,hu⟩:∃u,u= -(mid* v):=⟨_,rfl⟩;have ha0:ha≠0:=by rw[hha];grind
 have ev:1/ ha=v:=by
  rw[hv,hha];unfold eG;have:s.2- s.1≠0:=by grind
  grind
 have eu: -(mid/ ha)=u:=by
  rw[hu,←ev];grind
 rw[←em,←hmid,←hha,←hv,ev,eu,←hu];have qm:qs mid≤43:=by rw[hmid,em];omega
 have qa:qs ha≤43:=by rw[hha];omega
 have qv:qs v≤43:=by rw[hv];unfold eG;omega
 have z6:=eV mid v;have qu:qs u≤86:=by rw[hu,fX];omega
 obtain⟨c1,c2⟩:=tk (p:=F) (u:=mid) (v:=ha) (s:=20) (by omega) (by omega) hb (by decide) hF;obtain⟨g,hg⟩:∃g,g=cM [mid,ha] F:=⟨_,rfl⟩;have gt:av g=g:=by rw[hg];exact qH _ _
 rw[←hg] at c1 c2⊢;have hB:ecG 424200 8≤110000000:=by decide
 have hz:∀i,coP (List.replicate g.length (0:Rat)) i=0:=fun i=>by
  unfold coP;rw[List.getD_eq_getElem?_getD,List.getElem?_replicate];split <;> rfl
 obtain⟨r,hr,hrq⟩:=BS 424200 (by decide) 8 0 g (List.replicate g.length 0) (by rw[gt];omega) (by decide) hB (dN c1 (by decide)) (by omega) (by rw[gt];simp) (by simp;omega) fun i=>by
  rw[hz];exact Nat.le_trans (by decide:qs 0≤1) (by omega)
 obtain⟨O,b,t1,t2,t3,t4,t5,t6,t7⟩:=El n u v 9 g (List.replicate g.length 0) r [] 0 hr (by rw[gt];omega) (fun i _=>hz i) rfl;rw[List.length_replicate] at t2;rw[gt] at t3 t5 t6 t7;have rq:∀i,qs (coP r i)≤110000020:=fun i=>Nat.le_trans (hrq i) (by omega);obtain⟨m,hm⟩:∃m,m=min r.length (n+1):=⟨_,rfl⟩;have lt:(r.take m).length=m:=by rw[List.length_take];omega
 have lq:∀i,qs (coP (r.take m) i)≤110000020:=fun i=>by
  rw[zk];split;exact rq i;decide
 have hm8:m≤8:=by omega
 obtain⟨fb,fl⟩:=FG (l:=r.take m) (X:=110000020) (by omega) lq (m+1);have eP:ecP r n=ffM (r.take m) (m+1):=by unfold ecP;rw[←hm,lt]
 have hfb:(m+1) * (110000020+12)+1≤9* (110000020+12)+1:=Nat.add_le_add_right (Nat.mul_le_mul_right _ (by omega)) 1
 have fl8:(ffM (r.take m) (m+1)).length≤8:=by
  rw[ffM,if_neg (by omega)];cases m with
  |zero=>exact Nat.zero_le _
  |succ m=>
   rw[ffM,if_pos (by omega)]
   have key:∀i,i≤8→(ffM (r.take (m+1)) i).length≤i:=fun i=>by
    induction i with
    |zero=>exact fun _=>Nat.zero_le _
    |succ i ih=>
     intro hi;have:=ih (by omega);rw[ffM];split;obtain⟨c1,_⟩:=fS i (by omega);have l1:=cm (chP i).1 (coP (r.take (m+1)) i);have l2:=iG (ffM (r.take (m+1)) i) (aW (chP i).1 (coP (r.take (m+1)) i));omega;omega
   have:=key m (by omega);obtain⟨c1,_⟩:=fS m (by omega);have l1:=cm (chP m).1 (coP (r.take (m+1)) m);have l2:=iG (ffM (r.take (m+1)) m) (aW (chP m).1 (coP (r.take (m+1)) m));omega
 have pb:bdL (ecP r n) 1000000000:=by rw[eP];exact dN fb (by omega)
 have pl:(ecP r n).length≤8:=by rw[eP];exact fl8
 obtain⟨k1,k2⟩:=tk (p:=ecP r n) (u:=u) (v:=v) (s:=1000000000) (by omega) (by omega) pb (by decide) pl
 have hP:O=cM [u,v] (ecP r n):=by
  rw[←t4,←qH [u,v] (ecP r n)];refine mj fun x=>?_;rw[t6,lH,Cw,eP,wR,sQ,if_neg (by omega)];have e1:sQ (fun i=>if i≤n then coP r i* aF (chP i).1 (u+v* x) else 0) g.length=sQ (fun i=>if i≤n then coP r i* aF (chP i).1 (u+v* x) else 0) m:=sI _ _ (by omega) fun j a b=>if_neg (by omega)
  have e2:sQ (fun k=>if k< (r.take m).length then coP (r.take m) k* aF (chP k).1 (u+v* x) else 0) m=sQ (fun i=>if i≤n then coP r i* aF (chP i).1 (u+v* x) else 0) m:=sJ _ fun j hj=>by
   show(if j< (r.take m).length then _ else _)=if j≤n then _ else _
   rw[if_pos (by omega),if_pos (by omega),zk,if_pos hj]
  rw[e1,e2,mV];grind
 have hbb:b=ecB r n (r.length- (n+1)):=by
  rw[t7];by_cases hc:n+1≤r.length;have:=CT r n (r.length- (n+1));rw[show n+1+(r.length- (n+1))=g.length by omega] at this;rw[this];grind;rw[show r.length- (n+1)=0 by omega];have e1:sQ (fun i=>if i≤n then 0 else cj (coP r i)) g.length=sQ (fun _=>0) g.length:=sJ _ fun j hj=>if_pos (by omega)
  have e0:∀k,sQ (fun _=>(0:Rat)) k=0:=fun k=>by
   induction k with
   |zero=>rfl
   |succ k ih=>rw[sQ,ih];grind
  rw[e1,e0];show 0+0=(0:Rat);grind
 have d1:=w7 F;have d2:=w7 (ecP r n);have d3:=w7 [mid,ha];have d4:=w7 [u,v];have hbq:=Bl rq n (r.length- (n+1));have hbq2:(r.length- (n+1)) * (110000020+1)+1≤8* (110000020+1)+1:=Nat.add_le_add_right (Nat.mul_le_mul_right _ (by omega)) 1;refine⟨r,O,b,?_,?_,hP,hbb,t1,?_,?_,?_⟩;unfold ka;rw[if_pos ⟨by omega,by rw[gt];omega,fun k hk=>(fS k (by rw[gt] at hk;omega)).2.2.2.2⟩,gt];exact hr;unfold EY;rw[←hmid,←hha,←hv,←hu,←hm]
 refine⟨hs,Nat.le_trans h1 (by decide),Nat.le_trans h2 (by decide),by unfold sz1;omega,by unfold sz1;omega,by unfold sz1;omega,hn,by omega,by omega,pW (s:=20) (by omega) (by omega) (by decide) (by decide) F hF hb,?_,by omega,fun i _=>Nat.le_trans (rq i) (by decide),fun j hj=>?_,⟨by omega,fun q hq=>?_,fun i hi=>?_⟩,
  pW (s:=1000000000) (by omega) (by omega) (by decide) (by decide) _ pl pb,by omega,by omega,?_,by unfold sz1;omega⟩
 simp only[List.length_cons,List.length_nil] at d3;omega;have a1:=Bl rq n j;have a2:j* (110000020+1)+1≤9* (110000020+1)+1:=Nat.add_le_add_right (Nat.mul_le_mul_right _ (by omega)) 1;unfold sz1;omega;obtain⟨i,hi⟩:=List.mem_iff_getElem?.1 hq;have hl:=(List.getElem?_eq_some_iff.1 hi).1;rw[bv hl] at hi;cases hi;exact Nat.le_trans (lq i) (by decide);obtain⟨f1,f2,f3,f4,f5⟩:=fS i (by omega);have cb:=C4 (show i≤8 by omega);have b1:=gi cb (by decide) (lq i);obtain⟨w1,w2⟩:=FG (l:=r.take m) (X:=110000020) (by omega) lq i;have w3:i* (110000020+12)+1≤9* (110000020+12)+1:=Nat.add_le_add_right (Nat.mul_le_mul_right _ (by omega)) 1;exact⟨f5,jD cb (by decide),jD b1 (by decide),jD w1 (Nat.le_trans w3 (by decide)),by omega,by omega⟩;simp only[List.length_cons,List.length_nil] at d4;omega;rw[hP];exact dN k1 (by decide);rw[hP];omega;rw[hbb];omega
end Go.Proofs.YtjgokhkahkmpbaaGreatDoor
namespace Go.Proofs.YtjgokhkahkmpbaaGreatDoor
open Go.Abs Go.Deep Go.RowKit
set_option maxRecDepth 20000
theorem FI{M:Nat→Prop}{β:Bq}{w:World}{b s off:Nat}{f:Nat→La}:∀(n j:Nat),(∀i,i< j+n→(f i).length=s∧RVcs M β w b (f i) (off+i* s))→RVess M β w b s ((List.range' j n).map f) (off+j* s)
 |0,_,_=>trivial
 |n+1,j,h=>by
  rw[List.range'_succ,List.map_cons];refine⟨(h j (by omega)).1,(h j (by omega)).2,?_⟩;have:=FI (M:=M) (β:=β) (w:=w) (b:=b) (s:=s) (off:=off) n (j+1) (fun i hi=>h i (by omega));rwa[Nat.add_mul,Nat.one_mul,←Nat.add_assoc] at this
theorem vO{w:World}{b o:Nat}{v:Value}(h:w.cell? ⟨b,o,none⟩=some v):∃N,aK w b=some N:=by
 unfold World.cell? at h;unfold aK;split at h
 ·rename_i c _ _ e;rw[show w.heap[b]?=_ from e];exact⟨c.size,rfl⟩
 cases h
theorem tyS:(Tryz.prog).underlying 22=some (.slice 24):=by kernel_rfl
theorem tyN:∃f0 f1 f2,(Tryz.prog).underlying 24=some (.struct #[f0,f1,f2])∧f0.type=2∧f0.offset=0∧f1.type=2∧f1.offset=1∧f2.type=5∧f2.offset=2:=
 ⟨{name:= "N",type:=2,offset:=0,embedded:=false,tag:= "",pkgPath:= "",byteOffset:=0},{name:= "D",type:=2,offset:=1,embedded:=false,tag:= "",pkgPath:= "",byteOffset:=8},{name:= "Pow",type:=5,offset:=2,embedded:=false,tag:= "",pkgPath:= "",byteOffset:=16},by kernel_rfl,rfl,rfl,rfl,rfl,rfl,rfl⟩
theorem BP:(Tryz.prog).cellsOf 24=3:=by kernel_rfl
theorem tyc2:(Tryz.prog).cellsOf 2=1:=by kernel_rfl
theorem tyc5:(Tryz.prog).cellsOf 5=1:=by kernel_rfl
theorem tyu2:(Tryz.prog).underlying 2=some (.int .i64):=by kernel_rfl
theorem tyu5:(Tryz.prog).underlying 5=some (.int .u8):=by kernel_rfl
theorem As{H:Type}{enc:TypeId×Value→H}{W:World}{base n:Nat}{spare:Nat→Bool}{held:Bool}{cs:List Value}{x:DataW H×List MemPlace}(h:DataW.trod enc Tryz.prog W base spare held n 24 cs=some x):
    ∃r:iH,jF r.1∧jF r.2.1∧r.2.2≤255∧cs=[.int .i64 r.1,.int .i64 r.2.1,.int .u8 r.2.2]:=by
 obtain⟨f0,f1,f2,hu,h1,h2,h3,h4,h5,h6⟩:=tyN;obtain⟨y0,y1,y2,m,_,hl,g0,g1,g2⟩:=trod_struct3 hu h;rw[h1,h2,tyc2] at g0;rw[h3,h4,tyc2] at g1;rw[h5,h6,tyc5] at g2;rw[BP] at hl;obtain⟨n0,e0,_,w0⟩:=DataW.trod_int tyu2 g0;obtain⟨n1,e1,_,w1⟩:=DataW.trod_int tyu2 g1;obtain⟨n2,e2,_,w2⟩:=DataW.trod_int tyu5 g2
 match cs,hl with
 |[c0,c1,c2],_=>
  simp at e0 e1 e2;subst e0;subst e1;subst e2;have b2:=bounds_u8 w2;refine⟨(n0,n1,n2.toNat),bounds_i64 w0,bounds_i64 w1,?_,?_⟩;show n2.toNat≤255;omega;show _=[_,_,Value.int .u8 ((n2.toNat:Nat):Int)];rw[Int.toNat_of_nonneg b2.1]
theorem rows_of{H:Type}{enc:TypeId×Value→H}{W:World}{a:Option Addr}{len cap:Nat}{d:DataW H}{ps:List MemPlace}(h:DataW.Trod enc Tryz.prog W 0 (fun _=>true) true 22 (.slice a len cap) d ps):
    ∃l:List iH,okR l∧RV (fun _=>False) (fun _=>none) W (.arr (nR l)) (.slice a len cap):=by
 obtain⟨fuel,hf⟩:=h;rcases open_slice tyS hf with⟨hcs,_⟩|⟨x,len',cap',m,n,D,Pl,hcs,_,hl,hm,hmm,_,hx⟩
 simp[Value.cells] at hcs;obtain⟨rfl,rfl,rfl⟩:=hcs;exact⟨[],(fun r hr=>by cases hr),none,0,rfl,Nat.le_refl _,by decide,.inl rfl⟩;simp[Value.cells] at hcs;obtain⟨rfl,rfl,rfl⟩:=hcs;simp only[if_true] at hmm;have hmc:m=cap:=hmm;rw[hmc] at hx;rw[BP] at hx
 have hx':∀i,i< len→∃r:iH,(jF r.1∧jF r.2.1∧r.2.2≤255)∧W.cells? 0 (x.add (i* 3)) 3=some [.int .i64 r.1,.int .i64 r.2.1,.int .u8 r.2.2]:=fun i hi=>by
  obtain⟨cs',g1,g2⟩:=hx i (by omega);obtain⟨r,r1,r2,r3,e⟩:=As g2;exact⟨r,⟨r1,r2,r3⟩,by rw[g1,e]⟩
 obtain⟨R,hR⟩:=choose_lt (α:=iH) hx';refine⟨(List.range len).map R,?_,some x,cap,by simp[nR],by simpa[nR] using hl,hm,?_⟩;intro r hr;obtain⟨i,hi,rfl⟩:=List.mem_map.1 hr;exact(hR i (List.mem_range.1 hi)).1;by_cases h0:len=0;subst h0;exact .inl rfl;right
 have c:∀i,i< len→∀j (v:Value),[.int .i64 (R i).1,.int .i64 (R i).2.1,.int .u8 (R i).2.2][j]?=some v→W.cell? (x.add (i* 3+j))=some v:=fun i hi j v hv=>by
  have hj:j< 3:=by
   have:=(List.getElem?_eq_some_iff.1 hv).1;simpa using this
  have:=(World.cells?_some (hR i hi).2).2.2 j hj;rw[hv,Go.Deep.add_add] at this;exact this
 have c0:=c 0 (by omega) 0 _ rfl;obtain⟨b,off,spot⟩:=x;have hspot:spot=none:=by simpa[Addr.add] using World.cell?_spot c0
 subst hspot
 have hadd:∀k,Addr.add ⟨b,off,none⟩ k=⟨b,off+k,none⟩:=fun k=>by
  unfold Addr.add;by_cases hk:k=0;simp[hk];simp[hk]
 refine⟨b,off,3,rfl,vO (by rw[hadd] at c0;exact c0),(fun h=>h),?_⟩;have:=FI (M:=fun _=>False) (β:=fun _=>none) (w:=W) (b:=b) (s:=3) (off:=off) (f:=fun i=>nuC (R i).1 (R i).2.1 (R i).2.2) len 0 (fun i hi=>⟨rfl,?_⟩);rw[Nat.zero_mul,Nat.add_zero,←List.range_eq_range'] at this;rw[nR,List.map_map];exact this;have hi':i< len:=by omega
 refine⟨⟨_,?_,rfl⟩,⟨_,?_,rfl⟩,⟨_,?_,rfl⟩,trivial⟩;have:=c i hi' 0 _ rfl;rw[hadd] at this;exact this;have:=c i hi' 1 _ rfl;rw[hadd] at this;rw[Nat.add_assoc];exact this;have:=c i hi' 2 _ rfl;rw[hadd] at this;rw[Nat.add_assoc,Nat.add_assoc];exact this
end Go.Proofs.YtjgokhkahkmpbaaGreatDoor
namespace Go.Proofs.YtjgokhkahkmpbaaGreatDoor
open Go.Abs Go.Deep Go.RowKit Go.WideShapes
set_option maxRecDepth 20000
def okN(r:iH):Prop:=jF r.1∧jF r.2.1∧r.2.2≤255
end Go.Proofs.YtjgokhkahkmpbaaGreatDoor
namespace Go.Proofs.YtjgokhkahkmpbaaGreatDoor
open Go.Abs
set_option maxRecDepth 20000
def ma(r:iH):Bool:=decide (¬((r.2.2:Int) % 4≠0)∧¬r.1> 999999∧¬r.1< -999999∧¬r.2.1> 999999∧¬r.2.1< -999999)
def lM(l:List iH)(k:Nat):Bool:=l.all ma && decide (l.length≤k)
theorem CQ(l:List iH)(k:Nat)(hl:l.length≤9223372036854775807)(hk:k≤1000000):FS 6 [.arr (nR l),i64 k] (bln (lM l k)):=by
 have hnl:(nR l).length=l.length:=by simp[nR]
 refine f_n Tryz.func6 ?_ ?_;exact ae (aR (dU l)) (ae (ag _) ai);refine r_z 1 ?_;refine ac (r_z 1 ?_);refine aI (fun _:Unit=>⟨[(0,.arr (nR l)),(1,i64 k)],[],1,45⟩) (fun _=>l.all ma=true) ?_ ?_;refine am (aC (fun j:Nat=>⟨[(5,i64 ((j:Nat):Int)),(0,.arr (nR l)),(1,i64 k)],[],1,45⟩) (fun j=>l.length- j) (fun j=>j≤l.length∧(l.take j).all ma=true) 0 ⟨Nat.zero_le _,rfl⟩ ?_ ?_);have:=(aR (dU l));exact s_f [];rintro j ⟨hj,hg⟩;by_cases hlt:j< l.length;obtain⟨r,hr⟩:∃r,l[j]?=some r:=⟨_,List.getElem?_eq_getElem hlt⟩
 have hgt:(nR l)[((j:Nat):Int).toNat]?=some (nuC r.1 r.2.1 r.2.2):=by
  rw[Int.toNat_natCast,nR,List.getElem?_map,hr];rfl
 have hbad:ma r=false→lM l k=false:=fun h=>by
  unfold lM;rw[Bool.and_eq_false_iff];exact .inl (List.all_eq_false.2 ⟨r,List.mem_of_getElem? hr,by rw[h];decide⟩)
 refine ac (q_z 4 ?_);refine cT (ak (ac (am (s_r 6 ?_))));refine a_2 ?_;refine i_x hgt ?_;refine l_x hgt ?_;refine a_z ?_;by_cases c0:((r.2.2:Int) % 4≠0);have hgd:ma r=false:=decide_eq_false (by rintro⟨e0,e1,e2,e3,e4⟩;exact e0 c0);rw[hbad hgd];refine s_r 24 ?_;refine a_3 ?_;refine o_0 (.bin rfl rfl (vT cv ((by simpa using c0)))) ?_;refine d_z ?_;refine cT (r_z 1 ?_);exact aj (t_e (ag _));by_cases c1:r.1> 999999;have hgd:ma r=false:=decide_eq_false (by rintro⟨e0,e1,e2,e3,e4⟩;exact e1 c1);rw[hbad hgd];refine s_r 24 ?_;refine a_3 ?_;refine o_0 (.bin rfl rfl (vF cv ((by simpa using c0)))) ?_;refine d_z ?_;refine cT (r_z 1 ?_);exact aj (t_e (ag _));by_cases c2:r.1< -999999;have hgd:ma r=false:=decide_eq_false (by rintro⟨e0,e1,e2,e3,e4⟩;exact e2 c2);rw[hbad hgd];refine s_r 24 ?_;refine a_3 ?_;refine o_0 (.bin rfl rfl (vF cv ((by simpa using c0)))) ?_;refine d_z ?_;refine cT (r_z 1 ?_);exact aj (t_e (ag _));by_cases c3:r.2.1> 999999;have hgd:ma r=false:=decide_eq_false (by rintro⟨e0,e1,e2,e3,e4⟩;exact e3 c3);rw[hbad hgd];refine s_r 24 ?_;refine a_3 ?_;refine o_0 (.bin rfl rfl (vF cv ((by simpa using c0)))) ?_;refine d_z ?_;refine cT (r_z 1 ?_);exact aj (t_e (ag _));by_cases c4:r.2.1< -999999;have hgd:ma r=false:=decide_eq_false (by rintro⟨e0,e1,e2,e3,e4⟩;exact e4 c4);rw[hbad hgd];refine s_r 24 ?_;refine a_3 ?_;refine o_0 (.bin rfl rfl (vF cv ((by simpa using c0)))) ?_;refine d_z ?_;refine cT (r_z 1 ?_);exact aj (t_e (ag _));have hgd:ma r=true:=decide_eq_true ⟨c0,c1,c2,c3,c4⟩
 refine s_r 24 ?_;refine a_3 ?_;refine o_0 (.bin rfl rfl (vF cv ((by simpa using c0)))) ?_;refine d_z ?_;refine cF (ak (r_m 3 ?_));refine a_z ?_;refine⟨j+1,by omega,⟨hlt,?_⟩,?_⟩;rw[dA hr,List.all_append,hg];simp[hgd];have:=(aR (dU l));exact s_f [];have hge:l.take j=l:=List.take_of_length_le (by omega);rw[hge] at hg;refine ac (q_z 4 ?_);refine cF (aA ⟨(),hg,?_⟩);have:=(aR (dU l));exact s_f [];rintro _ hg
 have e:lM l k=decide ((((nR l).length:Nat):Int)≤(k:Int)):=by
  unfold lM;rw[hg,Bool.true_and,hnl];exact decide_eq_decide.2 (by omega)
 rw[e];refine r_z 5 ?_;exact aj (t_e (ag _))
theorem good_qs{r:iH}(h:ma r=true)(hb:jF r.1)(hd:jF r.2.1):qs (lT r.1 r.2.1 r.2.2)≤20:=by
 obtain⟨h0,h1,h2,h3,h4⟩:=of_decide_eq_true h;have hp:r.2.2 % 4=0:=by omega
 have hN:bl r.1.natAbs≤20:=iW (by omega);unfold lT;rw[hp];show qs (Rat.divInt r.1 (uF r.2.1))≤20;obtain⟨d,hde⟩:∃d,d=uF r.2.1:=⟨_,rfl⟩;have hd0:d≠0:=by rw[hde];unfold uF;split <;> omega
 have hdb:bl d.natAbs≤20:=by rw[hde];unfold uF;split <;> exact iW (by omega)
 rw[←hde];by_cases hn:d< 0;rw[oe _ d hn];exact gE (by omega) (by rw[Int.natAbs_neg];exact hN) (by omega);rw[od _ d (by omega)];exact gE (by omega) hN (by omega)
theorem BV{l:List iH}{k:Nat}(h:lM l k=true)(ho:okR l):bdL (nL l) 20∧(nL l).length≤k:=by
 unfold lM at h;rw[Bool.and_eq_true,List.all_eq_true] at h;refine⟨fun q hq=>?_,by simpa[nL] using h.2⟩;obtain⟨r,hr,rfl⟩:=List.mem_map.1 hq;exact good_qs (h.1 r hr) (ho r hr).1 (ho r hr).2.1
theorem rvlen{W:World}{l:List iH}{v:Value}(h:RV (fun _=>False) (fun _=>none) W (.arr (nR l)) v):l.length≤9223372036854775807:=by
 obtain⟨_,_,_,hle,hcap,_⟩:=h;have h1:(nR l).length=l.length:=by simp[nR]
 have hm:maxLen=9223372036854775807:=by decide
 omega

end Go.Proofs.YtjgokhkahkmpbaaGreatDoor
namespace Go.Proofs.YtjgokhkahkmpbaaGreatDoor
open Go.Abs Go.Deep Go.RowKit Go.WideShapes
set_option maxRecDepth 20000
theorem tyu3:(Tryz.prog).underlying 3=some (.int .i64):=by kernel_rfl
theorem intP_of{H:Type}{enc:TypeId×Value→H}{W:World}{base:Nat}{v:Value}{d:DataW H}{ps:List MemPlace}(hv:Value.okWide Tryz.prog W .any base 3 v)(h:DataW.Trod enc Tryz.prog W 0 (fun _=>true) true 3 v d ps):
    ∃r:Int,jF r∧RV (fun _=>False) (fun _=>none) W (i64 r) v:=by
 obtain⟨n,rfl⟩:∃n,v= .int .i64 n:=by
  unfold Value.okWide at hv;rw[tyu3] at hv;cases v with
  |int k n=>obtain⟨rfl,_⟩:=hv;exact⟨n,rfl⟩
  |_=>exact False.elim hv
 obtain⟨fuel,hf⟩:=h;obtain⟨n0,e0,_,w0⟩:=DataW.trod_int tyu3 hf;have e:n=n0:=by simpa[Value.cells] using e0
 subst e;exact⟨n,bounds_i64 w0,rfl⟩
end Go.Proofs.YtjgokhkahkmpbaaGreatDoor
namespace Go.Proofs.YtjgokhkahkmpbaaGreatDoor
open Go.Abs Go.ChangeShapes Go.Deep Go.RowKit Go.WideShapes
set_option maxRecDepth 20000
theorem tyG:∃f0 f1,(Tryz.prog).underlying 26=some (.struct #[f0,f1])∧f0.type=24∧f0.offset=0∧f1.type=24∧f1.offset=3:=
 ⟨{name:= "Low",type:=24,offset:=0,embedded:=false,tag:= "",pkgPath:= "",byteOffset:=0},{name:= "High",type:=24,offset:=3,embedded:=false,tag:= "",pkgPath:= "",byteOffset:=24},by kernel_rfl,rfl,rfl,rfl,rfl⟩
theorem tycG:(Tryz.prog).cellsOf 26=6:=by kernel_rfl
theorem gapP_of{H:Type}{enc:TypeId×Value→H}{W:World}{base:Nat}{v:Value}{d:DataW H}{ps:List MemPlace}(hv:Value.okWide Tryz.prog W .any base 26 v)(h:DataW.Trod enc Tryz.prog W 0 (fun _=>true) true 26 v d ps):
    ∃r:iH×iH,(okN r.1∧okN r.2)∧RV (fun _=>False) (fun _=>none) W (.agg (nuC r.1.1 r.1.2.1 r.1.2.2++nuC r.2.1 r.2.2.1 r.2.2.2)) v:=by
 obtain⟨f0,f1,hu,h1,h2,h3,h4⟩:=tyG
 obtain⟨cs,rfl,_⟩:∃cs,v= .agg cs∧True:=by
  unfold Value.okWide at hv;rw[hu] at hv;obtain⟨cs,h1,_⟩:=hv;exact⟨cs,h1,trivial⟩
 obtain⟨fuel,hf⟩:=h;obtain⟨y0,y1,m,_,hl,g0,g1⟩:=trod_struct2 hu hf;rw[h1,h2,BP] at g0;rw[h3,h4,BP] at g1;rw[tycG] at hl;obtain⟨r,r1,r2,r3,e⟩:=As g0;obtain⟨r',r1',r2',r3',e'⟩:=As g1
 have hcs:cs.toList=[.int .i64 r.1,.int .i64 r.2.1,.int .u8 r.2.2,.int .i64 r'.1,.int .i64 r'.2.1,.int .u8 r'.2.2]:=by
  have h0:(Value.agg cs).cells.toList=cs.toList:=by simp[Value.cells]
  rw[h0] at e e' hl;generalize cs.toList=l at *
  match l,hl with
  |[a0,a1,a2,a3,a4,a5],_=>
   simp at e e';obtain⟨rfl,rfl,rfl⟩:=e;obtain⟨rfl,rfl,rfl⟩:=e';rfl
 refine⟨(r,r'),⟨⟨r1,r2,r3⟩,⟨r1',r2',r3'⟩⟩,cs,rfl,?_⟩;rw[hcs];exact⟨_,_,rfl,rfl,_,_,rfl,rfl,_,_,rfl,rfl,_,_,rfl,rfl,_,_,rfl,rfl,_,_,rfl,rfl,rfl⟩
end Go.Proofs.YtjgokhkahkmpbaaGreatDoor
namespace Go.Proofs.YtjgokhkahkmpbaaGreatDoor
open Go.Abs
set_option maxRecDepth 100000
set_option maxHeartbeats 8000000

def daX(i:Nat):Rat:=((i:Int):Rat)
def daH(l:List Int):Nat→Hp
 |0=>[]
 |i+1=>[(3,some ⟨42,3,pE (bR (i+1) daX)⟩),(4,some ⟨42,3,pE (zR (l.take (i+1)))⟩)]
def daS(l:List Int):Nat→AState
 |i=>⟨[(0,.arr (zE l)),(2,.lptr 1 0 0),(3,.lptr 2 0 0),(4,i64 i)],(1,some ⟨82,3,[[.emp,.emp,.emp]]⟩)::(2,some ⟨82,3,[[lvV 3 i,lvV 4 i,.emp]]⟩)::daH l i,5,29⟩
theorem DH(l:List Int)(h0:1≤l.length)(hl:l.length≤1000)(hb:∀n∈l,-9223372036854775808≤n∧n≤9223372036854775807):FS 28 [.arr (zE l)] (.agg (dC ⟨bR l.length daX,zR l,[]⟩)):=by
 have hzl:(zE l).length=l.length:=by simp[zE]
 refine f_n Tryz.func28 ?_ ?_;exact ae (aR (eJ l)) ai;refine r_z 1 ?_;refine r_z 1 ?_;refine ac (r_z 1 ?_);refine aI (fun _:Unit=>daS l l.length) (fun _=>True) ?_ ?_
 ·refine am (aC (daS l) (fun i=>l.length- i) (fun i=>i≤l.length) 0 (Nat.zero_le _) ?_ ?_)
  rw[daS.eq_1];simp only[lvV,daH];have:=(aR (eJ l));have:=(ae aS (ae aS (ae aS ai)));exact s_f [(1,2),(2,3)];intro i hi;rw[daS.eq_1];by_cases hlt:i< l.length;rotate_left;have hge:i=l.length:=by omega
  subst hge;refine ac (q_z 4 ?_);refine cF (aA ⟨(),trivial,?_⟩);show SEnt _ (daS l l.length);rw[daS.eq_1];obtain⟨m,hm⟩:∃m,l.length=m+1:=⟨l.length- 1,by omega⟩;rw[hm];simp only[lvV,daH];refine s_x [] (fun hs=>e_14) (fun hs=>?_)
  ·repeat' (first|exact aD|refine h_c ?_ ?_|exact cU hs (aL _)|exact aw (CvL.clo hs (ae aS (ae aS (ae aS ai))))|exact aw (af (Cv.sl rfl rfl rfl) (af (Cv.sl rfl rfl rfl) (af (ah hs aS) ax)))|exact bG|refine aw ?_|exact ax|refine af ?_ ?_|exact ah hs (aR (eJ l))|exact aY)
  obtain⟨n,hn⟩:∃n,l[i]?=some n:=⟨_,List.getElem?_eq_getElem hlt⟩;have hgt:∀e:Nat,e=i→(zE l)[e]?=some [i64 n]:=fun e he=>by subst he;simp[zE,hn]
  have hi1:=da (i:Int) (by omega);have hi2:=da n (hb n (List.mem_of_getElem? hn));have ex:pE (bR (i+1) daX)=pE (bR i daX)++[qC ((i:Int):Rat)]:=kg _ _;have ey:pE (zR (l.take (i+1)))=pE (zR (l.take i))++[qC (n:Rat)]:=by rw[dA hn];simp[zR,pE]
  refine ac (q_z 4 ?_);refine cT (ak (ac (am ?_)));cases i with
  |zero=>
   simp only[lvV,daH];refine r_d hmix 19 ?_;refine c_s (hi1) ?_;refine a_6 ?_
   first|refine ay (.index_l rfl rfl (by omega) (by omega) te_137.h) rfl rfl ?_|refine ay (.index_a rfl rfl (by omega) (hgt _ (by omega)) rfl te_137.h) rfl rfl ?_
   first|refine ay (.load_l1 rfl rfl (hgt _ (by omega)) TG.h rfl) rfl rfl ?_|refine ay (.load_a1 rfl (hgt _ (by omega)) TG.h rfl) rfl rfl ?_
   refine c_s (hi2) ?_;refine a_6 ?_;refine an (n_k ?_);refine r_m 3 ?_;refine a_z ?_;refine⟨0+1,by omega,by omega,?_⟩;rw[daS.eq_1];simp only[lvV,daH];refine s_x [(3,16),(4,25)] (fun hs=>e_14) (fun hs=>e_56) ?_
   ·repeat' (first|exact ShrL.nil|refine ShrL.cons rfl rfl rfl rfl (by first|(simp[zR]<;> omega)|rfl|(simp;done)|(simp <;> omega)) ?_)
  |succ i=>
   simp only[lvV,daH];have lx:(pE (bR (i+1) daX)).length=i+1:=eU _ _;have ly:(pE (zR (l.take (i+1)))).length=i+1:=by simp[zR];omega
   refine r_d hmix 19 ?_;refine c_s (hi1) ?_;refine a_6 ?_
   first|refine ay (.index_l rfl rfl (by omega) (by omega) te_137.h) rfl rfl ?_|refine ay (.index_a rfl rfl (by omega) (hgt _ (by omega)) rfl te_137.h) rfl rfl ?_
   first|refine ay (.load_l1 rfl rfl (hgt _ (by omega)) TG.h rfl) rfl rfl ?_|refine ay (.load_a1 rfl (hgt _ (by omega)) TG.h rfl) rfl rfl ?_
   refine c_s (hi2) ?_;refine a_6 ?_;refine an (n_k ?_);refine r_m 3 ?_;refine a_z ?_;refine⟨i+1+1,by omega,by omega,?_⟩;rw[daS.eq_1];simp only[lvV,daH];refine s_x [(3,16),(4,25)] (fun hs=>e_14) (fun hs=>e_56) ?_
   ·repeat' (first|exact ShrL.nil|refine ShrL.cons rfl rfl rfl rfl (by first|(simp[zR,List.length_take]<;> omega)|rfl|(simp;done)|(simp <;> omega)) ?_)
 rintro _ _;rw[daS.eq_1];obtain⟨m,hm⟩:∃m,l.length=m+1:=⟨l.length- 1,by omega⟩;rw[hm];simp only[lvV,daH];have lx:(pE (bR (m+1) daX)).length=m+1:=eU _ _;have et:l.take (m+1)=l:=List.take_of_length_le (by omega);rw[et];have ly:(pE (zR l)).length=m+1:=by simp[zR];omega
 refine r_z 2 ?_;refine aj (Fin.cell rfl rfl rfl TG.h TS.h (nle rfl) ?_);exact Cv.agg (af (Cv.sealE aB rfl (fun _ _ h=>by cases h) rfl lx.symm (aL _)) (af (Cv.sealE aB rfl (fun _ _ h=>by cases h) rfl ly.symm (aL _)) (af (Cv.emp _) ax)))
abbrev fW:Lq:=zR [0,0,1]
abbrev cuW:Lq:=zR [0,0,0,1]
abbrev dtW:Dt:=⟨bR 3 daX,zR [0,1,4],[]⟩
abbrev gW:Lq:=dH fW [-1/8,1]
def Cn:Bool:=match fU 40 (fc gW) with
 |some c=>decide (oQ c 0) && (decide (rl c 1) && (decide (fq c 1=cx c 0+1) && (decide (c.p.length≤1000) && (decide (cx c 0=0) && (match n4 40 c.p with|some c2=>decide (0< D5 c2) && (decide (sa 40 40 c2 0 gW 12=some (-1/8,-1/8)) && (decide (qR 40 40 c2 0 (dH gW [1/8])=some (-1)) && decide (qR 40 40 c2 0 (ik gW [1/8])=some 0)))|none=>false)))))
 |none=>false
theorem w8_near:Cn=true:=by decide+kernel
theorem w8_fit:(uE 6 dtW 1).map (fun r=>(r.1,r.2.1,r.2.2))=some ([-1/2,2],1/2,[0,1,2]):=by decide+kernel
theorem w8_try:(ot 6 0 2 dtW [] ⟨[],0,false⟩).map (fun s=>(s.best,s.err,s.got))=some ([1,1],1,true):=by decide+kernel
theorem w8_lev:AA (mnD fW (0,1) 1) (List.range 3)=some [-1/8,1]∧hD (mnD fW (0,1) 1) (List.range 3)=1/8∧bR 3 (iZ (0,1) 1)=[0,1/2,1]:=by decide+kernel
theorem w8_dt:Dm dtW=true∧smL dtW.X:=by decide+kernel
theorem w8_ec:ka 10 (cM [gr (-1,1),((1:Rat)- -1) * (1/ 2)] cuW)=some [0,3/4,0,1/4]∧EY cuW (-1,1) 2 [0,3/4,0,1/4]:=by decide+kernel
theorem w8_mn:okMn fW (0,1) 1∧smL fW∧smL [(-1:Rat)/8,1]:=by decide+kernel
theorem w8_fine:(∀j,j< 13→sm (ci j))∧(∀j,j< 12→ci 10/ 4< ci j)∧ci 12≤ci 10/ 4∧sm (ci 200)∧ci 200≤ci 10∧sm (ci 10/ 4)∧sz1 (ci 10)∧0< ci 10:=by decide+kernel
theorem w8_e2:cM [-(gr (-1,1) * eG (-1,1)),eG (-1,1)] (ecP [0,3/4,0,1/4] 2)=[0,3/4]∧ecB [0,3/4,0,1/4] 2 1=1/4:=by decide+kernel
theorem w8_g:dP gW 0∧dP gW 1∧aF gW 0=1/8∧aF gW 1=1/8∧smL gW∧gW.length≤1000∧(fc gW).length≤1000∧lr (fc gW)=0∧cZ 0 1≤0:=by decide+kernel
theorem w8_sp:(gM (1/8) 12,upQ (1/8) 12)=((1/8,1/8):Sp)∧dsM (joS (abS (1/8,1/8)) (abS (1/8,1/8))) (fun _=>(-1/8,-1/8)) 1=(1/8,1/8):=by decide+kernel
theorem w8_pt:vZ [(0:Rat),1/2,1]=true∧smL [(0:Rat),1/2,1]∧(∀i,i< 3→(0:Rat)≤coP [0,1/2,1] i∧coP [(0:Rat),1/2,1] i≤1∧dP gW (coP [0,1/2,1] i)∧sm (aF gW (coP [0,1/2,1] i))∧(1/8:Rat)≤cj (aF gW (coP [0,1/2,1] i)))∧(∀i,i< 2→sgZ (aF gW (coP [0,1/2,1] (i+1))).num≠sgZ (aF gW (coP [0,1/2,1] i)).num):=by decide+kernel
theorem w8_t1:BT [-1/2,2]=[50,32,120,32,45,32,49,47,50]∧EV [-1/2,2]∧kf (1/2)=[49,47,50]∧okT (1/2)∧BT [1,1]=[120,32,43,32,49]∧EV [1,1]∧kf 1=[49]∧okT 1∧BT [0,3/4]=[51,47,52,32,120]∧EV [0,3/4]∧kf (1/4)=[49,47,52]∧okT (1/4):=by decide+kernel
theorem w8_f0:dP (dH fW []) 0∧dP (dH fW []) 1∧sm (aF (dH fW []) 0)∧sm (aF (dH fW []) 1)∧cj (aF (dH fW []) 0)≤0∧0< cj (aF (dH fW []) 1)∧cC fW≤40∧cC ([]:Lq)≤1∧cC fW=2∧cC [(-1:Rat)/8,1]≤1:=by decide+kernel
theorem wk8_fit:FS 27 [.agg (dC dtW),i64 1] (.tup [.agg (beC [-1/2,2] (1/2) [0,1,2]),i64 0]):=by
 have h:=w8_fit;cases hf:uE 6 dtW 1 with
 |none=>rw[hf] at h;cases h
 |some r=>
 rw[hf] at h;have e:(r.1,r.2.1,r.2.2)=(([-1/2,2],1/2,[0,1,2]):Lq×Rat×Ln):=Option.some.inj h;have:=fs_Fit 6 dtW 1 r w8_dt.1 w8_dt.2 (by decide) hf;rw[show r.1=[-1/2,2] from congrArg (·.1) e,show r.2.1=1/2 from congrArg (·.2.1) e,show r.2.2=[0,1,2] from congrArg (·.2.2) e] at this;exact this
theorem Ec:FS 29 [.agg (dC dtW),i64 1,i64 0] (.tup [.arr (pE [1,1]),.agg (qC 1),i64 0]):=by
 have h:=w8_try;cases hf:ot 6 0 2 dtW [] ⟨[],0,false⟩ with
 |none=>rw[hf] at h;cases h
 |some s=>
 rw[hf] at h;obtain⟨B,E,G⟩:=s;have e:(B,E,G)=(([1,1],1,true):Lq×Rat×Bool):=Option.some.inj h;cases e;have:=fs_Grid 6 dtW 1 0 [1,1] 1 w8_dt.1 w8_dt.2 (by decide) (by decide) (by rw[show wi 0 256=0 by decide];exact hf) (by decide);rw[show av ([1,1]:Lq).reverse=[1,1] by decide+kernel] at this;exact this
theorem xE:∃c c2:Cnt,Turn 40 gW (0,1) c 1∧cx c 0=0∧n4 40 c.p=some c2∧0< D5 c2∧sa 40 40 c2 0 gW 12=some (-1/8,-1/8)∧qR 40 40 c2 0 (dH gW [1/8])=some (-1)∧qR 40 40 c2 0 (ik gW [1/8])=some 0:=by
 have h:=w8_near;unfold Cn at h;cases hc:fU 40 (fc gW) with
 |none=>rw[hc] at h;cases h
 |some c=>
 rw[hc] at h;simp only[Bool.and_eq_true,decide_eq_true_eq] at h;obtain⟨h1,h2,h3,h4,h5,h6⟩:=h;cases hp:n4 40 c.p with
 |none=>rw[hp] at h6;cases h6
 |some c2=>
 rw[hp] at h6;simp only[Bool.and_eq_true,decide_eq_true_eq] at h6;obtain⟨g1,g2,g3,g4⟩:=h6;obtain⟨_,_,_,_,k1,k2,k3,k4,k5⟩:=w8_g;exact⟨c,c2,⟨hc,by decide,h1,h2,⟨by decide,by decide⟩,k5,k4,k1,k2,k3,h4,h3⟩,h5,hp,g1,g2,g3,g4⟩
theorem Eb:FS 30 [.arr (pE fW),.agg (spC 0 1),i64 1,.agg (qC (ci 10))] (.tup [.agg (naC [-1/8,1] [0,1/2,1] (1/8) (1/8)),i64 0]):=by
 obtain⟨c,c2,t,b0,hp,ha,hv,_,_⟩:=xE;obtain⟨g1,g2,g3,g4,g5,g6,g7,g8,g9⟩:=w8_g;obtain⟨f1,f2,f3,f4,f5,f6,f7,f8⟩:=w8_fine;obtain⟨l1,l2,l3⟩:=w8_lev;obtain⟨s1,s2⟩:=w8_sp;have hfi:=Fu (ci 10/ 4) 12 (by decide) f2 f3 f6 f1;have hval:=DL 40 40 c.p 0 12 c2 gW (-1/8,-1/8) hp (by decide) (Int.le_refl 0) ha (by decide+kernel) (by omega) hv
 have hdi:=yM 40 gW (0,1) c 1 12 (fun _=>(-1/8,-1/8)) (1/8,1/8) (1/8,1/8) t (by decide) g1 g2 (by rw[g3];decide+kernel) (by rw[g4];decide+kernel) (by rw[g3,show wi 12 256=12 by decide];exact s1.symm) (by rw[g4,show wi 12 256=12 by decide];exact s1.symm) (by decide+kernel) (by decide+kernel) (fun j hj=>⟨by decide+kernel,by
  obtain rfl:j=0:=by omega
  rw[show cx c ((0:Rat),(1:Rat)).1=0 from b0];exact hval⟩)
 rw[s2] at hdi;have hm:=yF fW (0,1) 1 (ci 10) [-1/8,1] 12 (1/8,1/8) w8_mn.1 f7 l1 w8_mn.2.1 w8_mn.2.2 (by decide) (by decide) hfi hdi (by decide+kernel) (by rw[l2];decide+kernel) (by rw[l2];decide+kernel) (by rw[l2];decide+kernel) (by rw[l2];decide+kernel);rw[l2,l3,show cj (1/8)=1/8 by decide+kernel] at hm;exact A8 fW (0,1) 1 (ci 10) _ (by decide+kernel) (by decide) (by decide) f8 f7.sm (by decide) ⟨w8_f0.2.2.2.2.2.2.1,by rw[w8_f0.2.2.2.2.2.2.2.2.1];decide⟩ (by decide) f4 f5 hm rfl (ff _ _ _ _) rfl
theorem zN:FS 35 [.arr (pE fW),.agg (spC 0 1),i64 1,.agg (naC [-1/8,1] [0,1/2,1] (1/8) (1/8))] (bln true):=by
 obtain⟨c,c2,t,b0,hp,ha,_,h1,h2⟩:=xE;obtain⟨g1,g2,g3,g4,g5,g6,g7,g8,g9⟩:=w8_g;obtain⟨p1,p2,p3,p4⟩:=w8_pt;have r1:=yS 40 40 c.p 0 c2 (dH gW [1/8]) (-1) hp (by decide) (Int.le_refl 0) ha (by decide+kernel) (by decide+kernel) h1;have r2:=yS 40 40 c.p 0 c2 (ik gW [1/8]) 0 hp (by decide) (Int.le_refl 0) ha (by decide+kernel) (by decide+kernel) h2
 have hw:=AL 40 gW (0,1) c 1 (1/8) t (by decide) g1 g2 (by rw[g3];decide+kernel) (by rw[g4];decide+kernel) (by decide+kernel) (by rw[g3];decide+kernel) (by rw[g4];decide+kernel) (fun j hj=>by
  obtain rfl:j=0:=by omega
  rw[show cx c ((0:Rat),(1:Rat)).1=0 from b0];exact⟨-1,0,r1,r2,by decide,by decide⟩)
 exact DO fW (0,1) 1 [-1/8,1] [0,1/2,1] (1/8) (1/8) gW rfl (by decide) (by decide) (by decide+kernel) (by decide) w8_f0.2.2.2.2.2.2.1 w8_f0.2.2.2.2.2.2.2.2.2 (by decide) (by decide) w8_mn.2.1 w8_mn.2.2 hw (by decide+kernel) (by decide+kernel) rfl p1 p2 p3 (fun i hi=>p4 i (by have:i+1< 3:=hi;omega))
theorem na_00:([.arr [],.arr []]++([.arr [],bln false,.arr []]++[.arr [],bln false,.arr []]):La)=naC [] [] 0 0:=by
 rw[show naC [] [] 0 0=[.arr (pE []),.arr (pE [])]++(qC 0++qC 0) from rfl,qC0];rfl
theorem zO:FS 35 [.arr (pE fW),.agg (spC 0 1),i64 1,.agg ([.arr [],.arr []]++([.arr [],bln false,.arr []]++[.arr [],bln false,.arr []]))] (bln false):=by
 obtain⟨a1,a2,a3,a4,a5,a6,a7,a8,a9,_⟩:=w8_f0;rw[na_00];have hw:=AM (dH fW []) (0,1) 0 a1 a2 a3 a4 (by decide) a5 a6;exact DP fW (0,1) 1 [] [] 0 0 (by decide) (by decide) (by decide+kernel) (by decide) a7 a8 (by decide) (by decide) w8_mn.2.1 (fun q hq=>by cases hq) hw
theorem wk8_eco:FS 11 [.arr (pE cuW),.agg (spC (-1) 1),i64 2] (.tup [.arr (pE [0,3/4]),.agg (qC (1/4)),i64 0]):=by
 have h:=pt 10 cuW (-1,1) 2 [0,3/4,0,1/4] w8_ec.2 w8_ec.1;rw[w8_e2.1,show([0,3/4,0,1/4]:Lq).length- (2+1)=1 from rfl,w8_e2.2] at h;exact h
end Go.Proofs.YtjgokhkahkmpbaaGreatDoor
