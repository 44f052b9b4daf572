/- EquationSolves: the basis of the free solutions, the reduced solution, and whether a polynomial is one, are the document's, or the error is, at every input of the law's kinds. -/
import Derived.Test.YtiodeiecpoopgaaGreatDoorV36
import Derived.Test.YtiodeiecpoopgaaGreatDoorRows
import Derived.JoinedOf
import Derived.SevenTiedAt
import Derived.Lib.LaidTab
import Derived.Test.YtiodeiecpoopgaaGreatDoorTie
import Derived.Test.YtiodeiecpoopgaaGreatDoorCards
import Derived.LaidMore
import Derived.Stop.Joined
import Derived.MakeChecks
set_option linter.all false
namespace Go.Proofs.YtiodeiecpoopgaaGreatDoor
open Go.Abs
set_option maxRecDepth 20000
set_option maxHeartbeats 4000000
theorem trim_iff{x y:Lq}:ar x=ar y↔∀i,coP x i=coP y i:=
 ⟨fun h i=>by rw[<-bH x,h,bH],fun h=>fN fun t=>ga h t⟩
theorem want_eq(k:Ke)(l:Rat)(g p:Lq)(a b:Rat):o8 (dP p (a7 (apK k p a b k.length) l)) g=o8 (hoP k l g p a b) p:=by
 unfold o8;refine decide_eq_decide.2 ?_;rw[trim_iff,trim_iff]
 have e:∀i,coP (hoP k l g p a b) i=coP g i+l* coP (apK k p a b k.length) i:=fun i=>by
  unfold hoP;rw[fx,bU];show _+coP (apK k p a b k.length) i* l=_;grind
 constructor;intro h i;have:=h i;rw[c9,bU] at this;rw[e];grind;intro h i;have:=h i;rw[e] at this;rw[c9,bU];grind
def s11S(B:Lw)(X:List (List RQ)):Nat->AState
 |i=>⟨[(0,.arr (mE B)),(1,.arr (X.map fun x=>[.arr (rE x)])),(5,i64 i)],[],1,27⟩
theorem yl(B:Lw)(X:List (List RQ))(i:Nat):s11S B X i=⟨[(0,.arr (mE B)),(1,.arr (X.map fun x=>[.arr (rE x)])),(5,i64 i)],[],1,27⟩:=rfl
theorem GM(B:Lw)(X:List (List RQ))(hl:B.length=X.length)(h6:B.length<=100)(hx:∀(i:Nat) p x,B[i]?=some p->X[i]?=some x->ar (vR x)=p/\okX x/\bdL p 68719476736/\x.length<=1000):
    FS 17 [.arr (mE B),.arr (X.map fun x=>[.arr (rE x)])] (bln true):=by
 have n:Closed (.arr (X.map fun x=>([.arr (rE x)]:La))):=aG fun e k c l=>by
  obtain⟨x,_,rfl⟩:=List.mem_map.1 k;rw[List.mem_singleton.1 l];exact aY _
 have l1:(mE B).length=B.length:=by simp[mE]
 have l2:(X.map fun x=>([.arr (rE x)]:La)).length=X.length:=by simp
 refine f_c Tryz.func17 ?_;refine r_z 1 ?_;refine ae (s_r 5 ?_);refine a_4 ?_;refine o_0 (.bin rfl rfl (vF bR (neF (by omega)))) ?_;refine ao ?_;refine cF (am (ae (r_z 1 ?_)));refine aC (fun _:Unit=>⟨[],[],1,27⟩) (fun _=>True) ?_ ?_
 ·refine ah (ax (s11S B X) (fun i=>B.length- i) (fun i=>i<=B.length) 0 (Nat.zero_le _) ?_ ?_)
  rw[yl];exact s_x [] (fun hs=>e_60) (fun hs=>e_61);intro i o;rw[yl];by_cases hlt:i< B.length;rotate_left;refine ae (q_z 4 ?_);refine cF (aw ⟨(),trivial,?_⟩);exact s_e [];obtain⟨p,hp⟩:∃p,B[i]?=some p:=⟨_,List.getElem?_eq_getElem hlt⟩;obtain⟨x,a⟩:∃x,X[i]?=some x:=⟨_,List.getElem?_eq_getElem (by omega)⟩;obtain⟨h,g,j,m⟩:=hx i p x hp a;have f:=Bn p x g h j (by omega);have b:(mE B)[((i:Nat):Int).toNat]?=some [.arr (pE p)]:=iH hp _ (by simp)
  have d:(X.map fun x=>([.arr (rE x)]:La))[((i:Nat):Int).toNat]?=some [.arr (rE x)]:=by
   rw[List.getElem?_map,show((i:Nat):Int).toNat=i by simp,a];rfl
  refine ae (q_z 4 ?_);refine cT (am (ae (ah (ae (r_d aT 10 ?_)))));refine a_2 ?_;refine i_x b ?_;refine l_1 b ?_;refine a_2 ?_;refine i_x d ?_;refine l_1 d ?_;refine c_s (f) ?_;refine a_1 ?_;refine ao (n_k ?_);refine cF (am (r_m 3 ?_));refine a_z ?_;refine⟨i+1,by omega,by omega,?_⟩;rw[yl];exact s_x [] (fun hs=>e_60) (fun hs=>e_61)
 rintro _ _;refine r_z 1 ?_;exact aj (t_e (ag _))
theorem rs_ok{k:Ke}{g:Lq}{a b l:Rat}(hk:TmK k)(hg:g.length<=5)(bg:bdL g 20)(qa:qs a<=20)(qb:qs b<=20)(ql:qs l<=20):
    ∃(A:Mx) (L:Ln),slM (cuM k g a b l) (soN g k) (soN g k)=(A,L)/\FS 16 [.arr (keR k),.agg (rC (rq a)++rC (rq b)),.agg (rC (rq l)),.arr (rE (rP g))] (soR (soN g k) A L):=by
 obtain⟨⟨A,L⟩,h⟩:∃p,p=slM (cuM k g a b l) (soN g k) (soN g k):=⟨_,rfl⟩;have hs:=GN k g a b l hk hg bg qa qb ql;rw[<-h] at hs;exact⟨A,L,h.symm,hs⟩
theorem IU(z v:Nat->RQ)(n:Nat)(L:Ln)(i:Nat)(hz:∀j,rok (z j))(hv:∀j,rok (v j)):okX (xzL z v n L i):=fun y a=>by
 obtain⟨j,_,rfl⟩:=List.mem_map.1 a;show rok (if _ then _ else _);split;exact hv _;exact hz _
theorem same_so{k:Ke}{g g':Lq}{a b l:Rat}{A:Mx}{L:Ln}(hA:slM (cuM k g a b l) (soN g k) (soN g k)=(A,L))(h5:soN g k<=5)(hF:Fre k l a b (bK k l g' a b)):
    FS 17 [.arr (mE (bK k l g' a b)),.arr (soE A (soN g k) L (soN g k))] (bln true):=by
 have hb:=bK_zr (g':=g') hA;have h:=qh L (soN g k);have e:soE A (soN g k) L (soN g k)=((frL L (soN g k)).map fun f=>gz (soF A (soN g k) L f)).map fun x=>[.arr (rE x)]:=by unfold soE;rw[List.map_map];rfl
 rw[e];refine GM _ _ (by rw[hb];simp[zrL]) (by have:=hF.len;omega) fun i p x hp d=>?_;have c:=(hF.bd p (List.mem_of_getElem? hp)).1;rw[hb,zrL,List.getElem?_map] at hp;rw[List.getElem?_map] at d;cases hf:(frL L (soN g k))[i]? with
 |none=>rw[hf] at hp;cases hp
 |some f=>
  rw[hf] at hp d;cases hp;cases d;refine⟨by rw[nF,soF_v,dX],mU (IU _ _ _ _ _ (fun j=>by split;exact cK _;exact CL) fun j=>cK _),bdL_mono' c (by decide),?_⟩;rw[jy];have:=bw (vR (soF A (soN g k) L f));rw[cO,Ct] at this;omega
theorem pZ(l:List iu)(gp:fV×fV)(cr:fV)(gr tr:List fV)(ho:∀t∈l,AG t)(hll:l.length<=9223372036854775807)(hgp:okN gp.1/\okN gp.2)(hc:okN cr)(hg:okR gr)(hgl:gr.length<=9223372036854775807)(hp:okR tr)(hpl:tr.length<=9223372036854775807):
    FS 3 [.arr (twR l),.agg (nuC gp.1.1 gp.1.2.1 gp.1.2.2++nuC gp.2.1 gp.2.2.1 gp.2.2.2),.agg (nuC cr.1 cr.2.1 cr.2.2),.arr (nR gr),.arr (nR tr)] (.v (.bool true)):=by
 obtain⟨k1,k2,kb,hk,kc1,kc2,hkf⟩:=Jb l ho hll;obtain⟨g1,g2,gb,hr,gc1,gc2,hgf⟩:=Io gr hg hgl;have ht:=pU [gp.1,gp.2,cr] 3 (by simp) (by decide);have ht2:=pU tr 6 hpl (by decide);have hw:=Dg;have cG:∀c∈nuC gp.1.1 gp.1.2.1 gp.1.2.2++nuC gp.2.1 gp.2.2.1 gp.2.2.2,Closed c:=cj (lI gp.1) (lI gp.2);have cN:=aG (dd tr);refine f_n Tryz.func3 ?_ ?_;exact ac (eF l) (ac (aD cG) (ac (aD (lI cr)) (ac (aG (dd gr)) (ac cN af))));refine r_z 3 ?_;refine r_c 9 (hk) ?_;refine a_z ?_;refine r_c 9 (hr) ?_;refine a_z ?_;refine AWp.ent (st':=⟨[(4,.arr (nR tr)),(6,.aptr [nuC gp.1.1 gp.1.2.1 gp.1.2.2++nuC gp.2.1 gp.2.2.1 gp.2.2.2] 0 0),(7,bNu cr),(11,k1),(12,k2),(13,bln kb),(14,g1),(15,g2),(16,bln gb)],[],1,244⟩) ?_ ?_;refine s_x [] (fun hs=>?_) (fun hs=>?_)
 ·repeat' (first|exact aI|refine au rfl ?_ ?_|exact ai hs kc1|exact ai hs kc2|exact ai hs gc1|exact ai hs gc2|exact ai hs cN|exact Cv.boxp hs rfl (aH rfl) rfl (lI _)|exact Cv.boxp hs rfl (aH rfl) rfl cG|exact aS)
 ·repeat' (first|exact aA|refine h_c ?_ ?_|exact br|refine ay ?_|exact aq|refine ak ?_ ?_|exact ai hs kc1|exact ai hs kc2|exact ai hs gc1|exact ai hs gc2|exact ai hs cN|exact Cv.boxp hs rfl (aH rfl) rfl (lI _)|exact Cv.boxp hs rfl (aH rfl) rfl cG|exact aS)
 cases kb with
 |false=>
  refine ae (q_z 21 ?_);refine cT (r_c 2 (hw) ?_);refine a_z ?_;exact aj (t_e (ag _))
 |true=>
 cases gb with
 |false=>
  refine ae (q_z 21 ?_);refine cT (r_c 2 (hw) ?_);refine a_z ?_;exact aj (t_e (ag _))
 |true=>
 obtain⟨rfl,rfl,hkok⟩:=hkf rfl;obtain⟨rfl,rfl,hg40,hgt⟩:=hgf rfl;cases et:fC [gp.1,gp.2,cr] 3 with
 |false=>
  rw[et] at ht;refine ae (s_r 21 ?_);refine d_8 ?_;refine d_4 ?_;refine AR.op1y rfl rfl rfl (.buildSlice te_27.h TZ.h rfl (by decide) rfl rfl rfl (by simp[nuC])) rfl rfl ?_;refine AR.op1y rfl rfl rfl (.callS1 rfl rfl rfl (.shut rfl d_n (.keep (.nil))) rfl (ht)) rfl rfl ?_;refine d_z ?_;refine cT (r_c 2 (hw) ?_);refine a_z ?_;exact aj (t_e (ag _))
 |true=>
 rw[et] at ht;cases et2:fC tr 6 with
 |false=>
  rw[et2] at ht2;refine ae (s_r 21 ?_);refine d_8 ?_;refine d_4 ?_;refine AR.op1y rfl rfl rfl (.buildSlice te_27.h TZ.h rfl (by decide) rfl rfl rfl (by simp[nuC])) rfl rfl ?_;refine AR.op1y rfl rfl rfl (.callS1 rfl rfl rfl (.shut rfl d_n (.keep (.nil))) rfl (ht)) rfl rfl ?_;refine e_s (ht2) ?_;refine d_z ?_;refine cT (r_c 2 (hw) ?_);refine a_z ?_;exact aj (t_e (ag _))
 |true=>
 rw[et2] at ht2;refine ae (s_r 21 ?_);refine d_8 ?_;refine d_4 ?_;refine AR.op1y rfl rfl rfl (.buildSlice te_27.h TZ.h rfl (by decide) rfl rfl rfl (by simp[nuC])) rfl rfl ?_;refine AR.op1y rfl rfl rfl (.callS1 rfl rfl rfl (.shut rfl d_n (.keep (.nil))) rfl (ht)) rfl rfl ?_;refine e_s (ht2) ?_;refine d_z ?_;refine cF (am ?_)
 have hab:okR [gp.1,gp.2,cr]:=fun r hr=>by
  simp only[List.mem_cons,List.not_mem_nil,or_false] at hr;rcases hr with rfl|rfl|rfl
  exact hgp.1;exact hgp.2;exact hc
 obtain⟨bn,_⟩:=oY et hab;have qa:qs (nV gp.1)<=20:=bn _ (by simp[nL]);have qb:qs (nV gp.2)<=20:=bn _ (by simp[nL]);have qL:qs (nV cr)<=20:=bn _ (by simp[nL]);obtain⟨bp,lp⟩:=oY et2 hp;have hsp:=zb gp.1.1 gp.1.2.1 gp.2.1 gp.2.2.1 gp.1.2.2 gp.2.2.2 hgp.1.1 hgp.1.2.1 hgp.1.2.2 hgp.2.1 hgp.2.2.1 hgp.2.2.2;have hb1:=qf cr.1 cr.2.1 cr.2.2 hc.1 hc.2.1 hc.2.2
 have hbo:=qe tr (by have:(nL tr).length=tr.length:=by simp[nL]
                     omega) hp
 have hglen:(nL gr).length<=40:=by simpa[nL] using hg40
 have hgtame:a8 (nL gr)<=20->bdL (nL gr) 20/\(nL gr).length<=5:=fun h=>by
  rcases hgt with h1|h1
  exact oY h1 hg;omega
 obtain⟨f1,f2,f3⟩:=Ja ho hkok;have f2b:∀p∈keM l,p.1.length<=1099511627776/\p.2.length<=1099511627776:=fun p hp=>by have:=f2 p hp;omega
 have hbad:=JI (keM l) (nL gr) f1 (fun p hp=>by have:=f2 p hp;omega) (by omega);have hvk:=vg (keM l) f1 (fun p hp=>by have:=f2 p hp;omega);have hvs:=Dl (nV gp.1) (nV gp.2) qa qb;change FSpec _ _ _ (.tup [.agg (spC (nV gp.1) (nV gp.2)),.agg (rC (rq (nV gp.1))++rC (rq (nV gp.2)))]) at hsp;change FSpec _ _ _ (.tup [.agg (qC (nV cr)),.agg (rC (rq (nV cr)))]) at hb1;change FSpec _ _ _ (.tup [.arr (pE (nL tr)),.arr (rE (rP (nL tr)))]) at hbo;refine r_c 9 (hsp) ?_;refine a_z ?_;refine r_c 9 (hb1) ?_;refine a_z ?_;refine r_c 7 (hbo) ?_;refine a_z ?_;refine r_z 6 ?_;generalize keM l=k at *
 generalize nV cr=L at *
 generalize nL gr=g at *
 generalize nL tr=p at *
 generalize nV gp.1=a at *
 generalize nV gp.2=b at *
 refine AWp.ent (st':=⟨[(11,.arr (kE k)),(12,.arr (keR k)),(15,.arr (rE (rP g))),(17,bSp a b),(18,.aptr [rC (rq a)++rC (rq b)] 0 0),(19,bQ L),(20,bRq L),(21,.arr (pE p)),(22,.arr (rE (rP p))),(23,bEq k L g)],[],1,244⟩) ?_ ?_;refine s_x [] (fun hs=>?_) (fun hs=>?_)
 ·repeat' (first|exact aI|refine au rfl ?_ ?_|exact ai hs (aN _)|exact ai hs (b5 _)|exact ai hs (aY _)|exact Cv.boxp hs rfl (aH rfl) rfl (bi _)|exact Cv.boxp hs rfl (aH rfl) rfl (b6 _)|exact Cv.boxp hs rfl (aH rfl) rfl (dl a b)|exact Cv.boxp hs rfl (aH rfl) rfl (cv _ _ _)|exact aS)
 ·repeat' (first|exact aA|refine h_c ?_ ?_|exact br|refine ay ?_|exact aq|refine ak ?_ ?_|exact ai hs (aN _)|exact ai hs (b5 _)|exact ai hs (aY _)|exact Cv.boxp hs rfl (aH rfl) rfl (bi _)|exact Cv.boxp hs rfl (aH rfl) rfl (b6 _)|exact Cv.boxp hs rfl (aH rfl) rfl (dl a b)|exact Cv.boxp hs rfl (aH rfl) rfl (cv _ _ _)|exact aS)
 have nil0:([]:Lc).length=0:=rfl;have sa:sm a:=by unfold sm;omega
 have sb:sm b:=by unfold sm;omega
 by_cases hbd:vaB k=false\/¬a<=b;have hX0:Bad k [] a b:=⟨hbd.elim .inl fun h=> .inr (.inl h),f1,f2b,sa,sb,by decide⟩;have hX:Bad k g a b:=⟨hbd.elim .inl fun h=> .inr (.inl h),f1,f2b,sa,sb,by omega⟩;have e1:=JS k L a b hX0;have e2:=xm k L g a b hX;have e3:=xq k L g p a b hX;refine r_c 9 (e1) ?_;refine a_z ?_;refine r_c 10 (e2) ?_;refine a_z ?_;refine r_c 9 (e3) ?_;refine a_z ?_;cases ev:vaB k with
 |false=>
  rw[ev] at hvk;refine ae (r_c 8 (hvk) ?_);refine d_z ?_;refine cT (s_r 29 ?_);refine a_1 ?_;refine o_0 (.bin rfl rfl (vT bv (rfl))) ?_;refine d_2 ?_;refine aW rfl rfl rfl (.bin rfl rfl (vT bv (rfl))) rfl rfl ?_;refine d_3 ?_;refine aW rfl rfl rfl (.bin rfl rfl (vT bv (rfl))) rfl rfl ?_;refine d_8 ?_;refine d_2 ?_;refine aW rfl rfl rfl (.bin rfl rfl (vT bv (rfl))) rfl rfl ?_;refine e_s (hw) ?_;refine a_z ?_;exact aj (t_e (ag _))
 |true=>
  rw[ev] at hvk;rw[decide_eq_false (hbd.resolve_left (by rw[ev];decide))] at hvs;refine ae (r_c 8 (hvk) ?_);refine e_s (hvs) ?_;refine d_z ?_;refine cT (s_r 29 ?_);refine a_1 ?_;refine o_0 (.bin rfl rfl (vT bv (rfl))) ?_;refine d_2 ?_;refine aW rfl rfl rfl (.bin rfl rfl (vT bv (rfl))) rfl rfl ?_;refine d_3 ?_;refine aW rfl rfl rfl (.bin rfl rfl (vT bv (rfl))) rfl rfl ?_;refine d_8 ?_;refine d_2 ?_;refine aW rfl rfl rfl (.bin rfl rfl (vT bv (rfl))) rfl rfl ?_;refine e_s (hw) ?_;refine a_z ?_;exact aj (t_e (ag _))
 have hva:vaB k=true:=by
  cases e:vaB k with
  |true=>rfl
  |false=>exact absurd (.inl e) hbd
 have hab:a<=b:=Classical.byContradiction fun h=>hbd (.inr h);rw[hva] at hvk;rw[decide_eq_true hab] at hvs;obtain⟨v1,v2,v3⟩:=f3 hva;have hkt:TmK k:=⟨v1,v2,v3⟩;have hke:=yH hva f2b;have b0:bdL ([]:Lq) 20:=fun q hq=>by cases hq
 have hT0:=ta_tame (g:=[]) hkt hke (by decide) b0 qL qa qb hab;have hF0:=rZ hkt hT0;have e1:=fs_Free hkt hT0;obtain⟨A0,L0,hA0,hs0⟩:=rs_ok (g:=[]) (l:=L) hkt (by decide) b0 qa qb qL
 have hn0:eA (soN [] k) A0 L0=false:=by
  rw[(EF hA0).1];exact AL (SolE.nil k L a b)
 have h05:=x9 (g:=[]) hkt (by decide);have hsm0:=same_so (g':=[]) hA0 h05 hF0;unfold soR at hs0;rw[if_neg (by rw[hn0];decide)] at hs0;generalize hbs:soE A0 (soN [] k) L0 (soN [] k)=BS at *
 have cBS:Closed (.arr BS):=by rw[<-hbs];exact aG (oQ _ _ _ _)
 generalize gz (soX A0 (soN [] k) L0)=U0 at *
 cases eb:decide (20< a8 g) with
 |true=>
  rw[hva,eb] at hbad;have hX:Bad k g a b:=⟨.inr (.inr (of_decide_eq_true eb)),f1,f2b,sa,sb,by omega⟩;have e2:=xm k L g a b hX;have e3:=xq k L g p a b hX;refine r_c 9 (e1) ?_;refine a_z ?_;refine r_c 10 (e2) ?_;refine a_z ?_;refine r_c 9 (e3) ?_;refine a_z ?_;refine ae (r_c 8 (hvk) ?_);refine e_s (hvs) ?_;refine d_z ?_;refine cF (am (r_c 11 (hs0) ?_));refine a_z ?_;refine ae (s_r 8 ?_);refine a_1 ?_;refine o_0 (.bin rfl rfl (vF bR (rfl))) ?_;refine e_s (hsm0) ?_;refine d_z ?_;refine cF (am (ae (r_c 3 (hbad) ?_)));refine ao ?_;refine cT (s_r 22 ?_);refine a_1 ?_;refine o_0 (.bin rfl rfl (vT bv (rfl))) ?_;refine d_2 ?_;refine aW rfl rfl rfl (.bin rfl rfl (vT bv (rfl))) rfl rfl ?_;refine d_7 ?_;refine aW rfl rfl rfl (.bin rfl rfl (vT bv (rfl))) rfl rfl ?_;refine e_s (hw) ?_;refine a_z ?_;exact aj (t_e (ag _))
 |false=>
 rw[hva,eb] at hbad;obtain⟨bg,lg⟩:=hgtame (by have:=of_decide_eq_false eb;omega);have hT:=ta_tame hkt hke lg bg qL qa qb hab;have hF:=rZ hkt hT;obtain⟨u,B,e,e2,u1,u2,u3,u4⟩:=Gg hkt hT lg bg qL;have e3:=JQ k L g p a b (ho_tame hkt hke lg bg qL qa qb hab lp bp (by decide) (by decide));have hap:=xg k (rP p) a b 20 hkt (fq _) (by simp;omega) (by rw[c6];exact bp) (by decide) (by decide) qa qb;rw[c6] at hap;obtain⟨p1,p2⟩:=tT hkt lp bp (by decide) (by decide) qa qb k.length (Nat.le_refl _);have hsc:=lx (rP (apK k p a b k.length)) (rq L) 13000 (fq _) (cK _) (by rw[c6];exact bdL_mono' p1 (by omega)) (by show 13000+qs L<=_;omega) (by simp;omega);rw[c6] at hsc;have s1:=fm p1 (by omega) qL;have s2:=b8 (apK k p a b k.length) L;have s1':=bdL_mono' (b:=13000) s1 (by omega);have hsb:=Bd (rP p) (rP (a7 (apK k p a b k.length) L)) 20 13000 (fq _) (fq _) (by rw[c6];exact bp) (by rw[c6];exact s1') (by decide) (by decide) (by simp;omega) (by simp;omega);rw[c6,c6] at hsb;have s3:=BW bp s1' (by decide) (by decide);have s4:=o0 p (a7 (apK k p a b k.length) L);have hwt:=GO (rP (dP p (a7 (apK k p a b k.length) L))) (rP g) 20000 (fq _) (fq _) (by rw[c6];exact bdL_mono' s3 (by decide)) (by rw[c6];exact bdL_mono' bg (by decide)) (by decide) (by simp;omega) (by simp;omega);rw[c6,c6,want_eq] at hwt;obtain⟨A1,L1,hA1,hs1⟩:=rs_ok (g:=g) (l:=L) hkt lg bg qa qb qL;obtain⟨n1,n2⟩:=EF hA1;generalize hWd:o8 (hoP k L g p a b) p=W at *
 refine r_c 9 (e1) ?_;refine a_z ?_;refine r_c 10 (e2) ?_;refine a_z ?_;refine r_c 9 (e3) ?_;refine a_z ?_;refine ae (r_c 8 (hvk) ?_);refine e_s (hvs) ?_;refine d_z ?_;refine cF (am (r_c 11 (hs0) ?_));refine a_z ?_;refine ae (s_r 8 ?_);refine a_1 ?_;refine o_0 (.bin rfl rfl (vF bR (rfl))) ?_;refine e_s (hsm0) ?_;refine d_z ?_;refine cF (am (ae (r_c 3 (hbad) ?_)));refine ao ?_;refine cF (am (ae (r_d aT 11 ?_)));refine c_s (hap) ?_;refine c_s (hsc) ?_;refine c_s (hsb) ?_;refine c_s (hwt) ?_;refine a_1 ?_;refine ao (n_k ?_);refine a6 (fun _:Unit=>⟨[(12,.arr (keR k)),(15,.arr (rE (rP g))),(18,.aptr [rC (rq a)++rC (rq b)] 0 0),(20,bRq L),(26,.arr (pE u)),(27,.arr (mE B)),(28,i64 e),(32,.arr BS)],[],1,244⟩) (fun _=>True) ?_ ?_;cases W with
 |true=>
  refine s_r 7 ?_;refine a_1 ?_;refine o_0 (.bin rfl rfl (vF bR (rfl))) ?_;refine d_z ?_;refine cF (am (⟨(),trivial,?_⟩));exact s_x [] (fun hs=>e_62) (fun hs=>e_63)
 |false=>
  refine s_r 7 ?_;refine a_1 ?_;refine o_0 (.bin rfl rfl (vF bR (rfl))) ?_;refine d_z ?_;refine cF (am (⟨(),trivial,?_⟩));exact s_x [] (fun hs=>e_62) (fun hs=>e_63)
 rintro _ _;rcases u4 with⟨w0,rfl,rfl,rfl⟩|⟨w0,w1,rfl,rfl,w4⟩
 unfold soR at hs1;rw[if_pos (n1.trans w0)] at hs1;refine r_c 12 (hs1) ?_;refine a_z ?_;refine ae (r_z 2 ?_);refine cT (s_r 14 ?_);refine a_1 ?_;refine o_0 (.bin rfl rfl (vT bv (rfl))) ?_;refine d_6 ?_;refine aW rfl rfl rfl (.bin rfl rfl (vT bv (rfl))) rfl rfl ?_;refine c_s (hw) ?_;refine a_z ?_;exact aj (t_e (ag _));have nf:=n1.trans w0;unfold soR at hs1;rw[if_neg (by rw[nf];decide)] at hs1
 have hus:=Bn u (gz (soX A1 (soN g k) L1)) (mU (IU _ _ _ _ _ (fun j=>CL) fun j=>cK _)) (by rw[nF,soX_v,dX,<-n2 nf u w4 u3,w1]) (bdL_mono' u2 (by decide)) (by
  rw[jy];have h1:=bw (vR (soX A1 (soN g k) L1));have h2:=x9 hkt lg;rw[cO,Cs] at h1;omega)
 rw[bK_same k L g [] a b];refine r_c 12 (hs1) ?_;refine a_z ?_;refine ae (r_z 2 ?_);refine cF (am (s_r 16 ?_));refine a_1 ?_;refine o_0 (.bin rfl rfl (vT bv (rfl))) ?_;refine e_s (hus) ?_;refine e_s (hsm0) ?_;refine c_s (hw) ?_;refine a_z ?_;exact aj (t_e (ag _))
end Go.Proofs.YtiodeiecpoopgaaGreatDoor
namespace Go.Proofs.YtiodeiecpoopgaaGreatDoor
open Go.Abs Go.Deep Go.RowKit
set_option maxRecDepth 20000
theorem rvlen{W:World}{l:List fV}{v:Value}(h:RV (fun _=>False) (fun _=>none) W (.arr (nR l)) v):l.length<=9223372036854775807:=by
 obtain⟨_,_,_,b,a,_⟩:=h;have d:(nR l).length=l.length:=by simp[nR]
 have c:maxLen=9223372036854775807:=by decide
 omega
theorem tySt:(Tryz.prog).underlying 22=some (.slice 88):=by kernel_rfl
def twF:Array Field:= #[{name:= "A",type:=27,offset:=0,embedded:=false,tag:= "",pkgPath:= "",byteOffset:=0},{name:= "B",type:=27,offset:=1,embedded:=false,tag:= "",pkgPath:= "",byteOffset:=24}]
theorem tyTw:(Tryz.prog).underlying 88=some (.struct twF):=by kernel_rfl
theorem tycTw:(Tryz.prog).cellsOf 88=2:=by kernel_rfl
theorem tycS2:(Tryz.prog).cellsOf 27=1:=by kernel_rfl
theorem two_of{H:Type}{enc:TypeId×Value->H}{W:World}{n:Nat}{cs:List Value}{x:DataW H×List MemPlace}(h:DataW.trod enc Tryz.prog W 0 (fun _=>true) true n 88 cs=some x):
    ∃(t:iu) (c0 c1:Value),AG t/\cs=[c0,c1]/\RV (fun _=>False) (fun _=>none) W (.arr (nR t.1)) c0/\RV (fun _=>False) (fun _=>none) W (.arr (nR t.2)) c1:=by
 obtain⟨B,m,_,_,hl,g,v⟩:=DataW.trod_struct tyTw h;rw[tycTw] at hl
 match cs,hl,B,g with
 |[c0,c1],_,[y0,y1],_=>
  have i:DataW.trod enc Tryz.prog W 0 (fun _=>true) true m 27 (([c0,c1].drop 0).take ((Tryz.prog).cellsOf 27))=some y0:=v 0 _ rfl;have j:DataW.trod enc Tryz.prog W 0 (fun _=>true) true m 27 (([c0,c1].drop 1).take ((Tryz.prog).cellsOf 27))=some y1:=v 1 _ rfl;rw[tycS2] at i j;simp only[List.drop,List.take] at i j
  have k:∃a len b,c0= .slice a len b:=by
   rcases open_slice tyS i with⟨c,_⟩|⟨a,len,b,_,_,_,_,c,_⟩
   simp at c;exact⟨_,_,_,c⟩;simp at c;exact⟨_,_,_,c⟩
  have q:∃a len b,c1= .slice a len b:=by
   rcases open_slice tyS j with⟨c,_⟩|⟨a,len,b,_,_,_,_,c,_⟩
   simp at c;exact⟨_,_,_,c⟩;simp at c;exact⟨_,_,_,c⟩
  obtain⟨a,len,b,rfl⟩:=k;obtain⟨y,f,d,rfl⟩:=q;have r:DataW.Trod enc Tryz.prog W 0 (fun _=>true) true 27 (.slice a len b) y0.1 y0.2:=⟨m,by simpa[Value.cells] using i⟩;have o:DataW.Trod enc Tryz.prog W 0 (fun _=>true) true 27 (.slice y f d) y1.1 y1.2:=⟨m,by simpa[Value.cells] using j⟩;obtain⟨m0,l,r0⟩:=tp r;obtain⟨m1,p,u⟩:=tp o;have C:maxLen=9223372036854775807:=by decide
  have z:m0.length<=9223372036854775807:=by
   obtain⟨_,_,A,s,e,_⟩:=r0;have:(nR m0).length=m0.length:=by simp[nR]
   omega
  have w:m1.length<=9223372036854775807:=by
   obtain⟨_,_,A,s,e,_⟩:=u;have:(nR m1).length=m1.length:=by simp[nR]
   omega
  exact⟨(m0,m1),_,_,⟨⟨l,p⟩,z,w⟩,rfl,r0,u⟩
theorem twP_of{H:Type}{enc:TypeId×Value->H}{W:World}{a:Option Addr}{len cap:Nat}{d:DataW H}{ps:List MemPlace}(h:DataW.Trod enc Tryz.prog W 0 (fun _=>true) true 22 (.slice a len cap) d ps):
    ∃l:List iu,((∀t∈l,AG t)/\l.length<=9223372036854775807)/\RV (fun _=>False) (fun _=>none) W (.arr (twR l)) (.slice a len cap):=by
 obtain⟨O,V⟩:=h;rcases open_slice tySt V with⟨o,_⟩|⟨x,N,L,m,n,D,Pl,o,_,hl,Z,u,_,G⟩
 simp[Value.cells] at o;obtain⟨rfl,rfl,rfl⟩:=o;exact⟨[],⟨(fun r F=>by cases F),by simp⟩,none,0,rfl,Nat.le_refl _,by decide,.inl rfl⟩;simp[Value.cells] at o;obtain⟨rfl,rfl,rfl⟩:=o;simp only[if_true] at u;have E:m=cap:=u;rw[E] at G;rw[tycTw] at G
 have B:∀i,i< len->∃r:iu×Value×Value,AG r.1/\W.cells? 0 (x.add (i* 2)) 2=some [r.2.1,r.2.2]/\RV (fun _=>False) (fun _=>none) W (.arr (nR r.1.1)) r.2.1/\RV (fun _=>False) (fun _=>none) W (.arr (nR r.1.2)) r.2.2:=fun i z=>by
  obtain⟨Y,X,S⟩:=G i (by omega);obtain⟨t,A,U,Q,e,J,C⟩:=two_of S;exact⟨(t,A,U),Q,by rw[X,e],J,C⟩
 obtain⟨R,K⟩:=choose_lt (α:=iu×Value×Value) B;have T:maxLen=9223372036854775807:=by decide
 refine⟨(List.range len).map fun i=>(R i).1,⟨?_,by simp;omega⟩,some x,cap,by simp[twR],by simpa[twR] using hl,Z,?_⟩;intro r F;obtain⟨i,z,rfl⟩:=List.mem_map.1 F;exact(K i (List.mem_range.1 z)).1;by_cases h0:len=0;subst h0;exact .inl rfl;right
 have c:∀i,i< len->∀j (v:Value),[(R i).2.1,(R i).2.2][j]?=some v->W.cell? (x.add (i* 2+j))=some v:=fun i z j v hv=>by
  have hj:j< 2:=by
   have:=(List.getElem?_eq_some_iff.1 hv).1;simpa using this
  have:=(World.cells?_some (K i z).2.1).2.2 j hj;rw[hv,Go.Deep.add_add] at this;exact this
 have A:=c 0 (by omega) 0 _ rfl;obtain⟨b,off,y⟩:=x;have q:y=none:=by simpa[Addr.add] using World.cell?_spot A
 subst q
 have g:∀k,Addr.add ⟨b,off,none⟩ k=⟨b,off+k,none⟩:=fun k=>by
  unfold Addr.add;by_cases hk:k=0;simp[hk];simp[hk]
 refine⟨b,off,2,rfl,o5 (by rw[g] at A;exact A),(fun h=>h),?_⟩;have:=DL (M:=fun _=>False) (β:=fun _=>none) (w:=W) (b:=b) (s:=2) (off:=off) (f:=fun i=>twC (R i).1) len 0 (fun i z=>⟨rfl,?_⟩);rw[Nat.zero_mul,Nat.add_zero,<-List.range_eq_range'] at this;rw[twR,List.map_map];exact this;have p:i< len:=by omega
 obtain⟨_,_,J,C⟩:=K i p;refine⟨⟨_,?_,J⟩,⟨_,?_,C⟩,trivial⟩;have:=c i p 0 _ rfl;rw[g] at this;exact this;have:=c i p 1 _ rfl;rw[g] at this;rw[Nat.add_assoc];exact this
end Go.Proofs.YtiodeiecpoopgaaGreatDoor
namespace Go.Proofs.YtiodeiecpoopgaaGreatDoor
open Go
def mkF(P:Program)(fn:Func)(c:OpenClaim):Bool:=(P.make==some c.make) && (c.kinds==(if c.domain.isEmpty then [] else fn.params.toList.map fun t=>match P.underlying t with|some (.int k)=>some k|_=>none)) && (c.pinned==c.pinnedBy)
section
variable {P:Program}{f:FuncId}{fn:Func}{s:ChangeSpec}{c:OpenClaim}
theorem Gy (h1:c.wf (OpenSpec.ofChange s)=true) (h2:laidOutB P=true) (h3:mapsRowed P=true)
    (h4:fn.params.all (P.readableRec ·)=true) (h5:namedTie P c.named s.vars=true)
    (h6:((c.stops==[]) && (P.stops==[]) && (c.knobs==[]) && (P.stopKnobs==[]))=true)
    (h7:(c.inPlace==P.inPlace f)=true) (h8:(c.unfollowed==P.unfollowed f)=true) (h9:(c.recurses==P.recurses f)=true) (h10:(c.named==P.varsNamed f)=true)
    (h11:((c.maps==(fn.params.toList++s.plain.varTypes P).any (P.mapsRec ·)) && (c.ifaces==(fn.params.toList++s.plain.varTypes P).any (P.ifacesRec ·)) && (c.mapsOut==P.mapsAmong fn.resultTypes.toList))=true)
    (h12:((c.loops==(fn.params.toList++s.plain.varTypes P).any (P.loopsFrom ·)) && (c.wideKeys==(fn.params.toList++s.plain.varTypes P++fn.resultTypes.toList).any (P.wideKeysFrom ·)))=true)
    (h13:(s.vars.all (P.varReadable ·) && fn.resultTypes.all (fun t=>P.readableRec t && decide (t< P.types.size)) && (c.ifacesOut==fn.resultTypes.toList.any (P.ifacesRec ·)) && (c.loopsOut==fn.resultTypes.toList.any (P.loopsFrom ·)) && (c.plainKeys==P.plainKeys) && c.shortTexts.isNone)=true)
    (h14:P.stopsHeard=true) (h15:P.mayEnter=true) (h16:(c.lifted==P.liftsFinal)=true)
    (h17:mkF P fn c=true)
    (h18:((c.veiled==(fn.params.toList++s.plain.varTypes P++fn.resultTypes.toList).any (P.veiledRec ·)) && c.veiledFits P fn.params.toList (fn.params.toList++s.plain.varTypes P++fn.resultTypes.toList))=true):
    joinedFacts P f fn s c=true:=by
 unfold mkF at h17;simp only[Bool.and_eq_true] at h6 h11 h12 h13 h17 h18;simp only[joinedFacts,Bool.and_eq_true]
 and_intros
 all_goals first|assumption|exact h6.1.1.1|exact h6.1.1.2|exact h6.1.2|exact h6.2|exact h11.1.1|exact h11.1.2|exact h11.2|exact h12.1|exact h12.2|exact h13.1.1.1.1.1|exact h13.1.1.1.1.2|exact h13.1.1.1.2|exact h13.1.1.2|exact h13.1.2|exact h13.2|exact h17.1.1|exact h17.1.2|exact h17.2|exact h18.1|exact h18.2
end
theorem sD:laidOutB Tryz.prog=true:=by kernel_rfl
theorem all_mr:mapsRowed Tryz.prog=true:=by kernel_rfl
theorem all_sh:Tryz.prog.stopsHeard=true:=by kernel_rfl
theorem all_me:Tryz.prog.mayEnter=true:=by kernel_rfl
theorem all_lk:false=Tryz.prog.looks []:=by kernel_rfl
theorem all_mi:Tryz.prog.mainIs=some (true,("981fe422cfd5df9daaba7b6483a57d3003ba322159e10363fe6e259c167a23cd" :String).toList):=by kernel_rfl
theorem all_lf:Tryz.prog.liftsFinal=Rows.equationSolvesRow.lifted:=by kernel_rfl
theorem qo:Rows.equationSolvesRow.wf (OpenSpec.ofChange Rows.equationSolvesSpec)=true:=by kernel_rfl
theorem qw:Tryz.f3.params.all (Tryz.prog.readableRec ·)=true:=by kernel_rfl
theorem qz:namedTie Tryz.prog Rows.equationSolvesRow.named Rows.equationSolvesSpec.vars=true:=by kernel_rfl
theorem qv:((Rows.equationSolvesRow.stops==[]) && (Tryz.prog.stops==[]) && (Rows.equationSolvesRow.knobs==[]) && (Tryz.prog.stopKnobs==[]))=true:=by kernel_rfl
theorem qG:(Rows.equationSolvesRow.inPlace==Tryz.prog.inPlace 3)=true:=by kernel_rfl
theorem qu:(Rows.equationSolvesRow.unfollowed==Tryz.prog.unfollowed 3)=true:=by kernel_rfl
theorem qy:(Rows.equationSolvesRow.recurses==Tryz.prog.recurses 3)=true:=by kernel_rfl
theorem qq:(Rows.equationSolvesRow.named==Tryz.prog.varsNamed 3)=true:=by kernel_rfl
theorem qA:((Rows.equationSolvesRow.maps==(Tryz.f3.params.toList++Rows.equationSolvesSpec.plain.varTypes Tryz.prog).any (Tryz.prog.mapsRec ·)) && (Rows.equationSolvesRow.ifaces==(Tryz.f3.params.toList++Rows.equationSolvesSpec.plain.varTypes Tryz.prog).any (Tryz.prog.ifacesRec ·)) && (Rows.equationSolvesRow.mapsOut==Tryz.prog.mapsAmong Tryz.f3.resultTypes.toList))=true:=by kernel_rfl
theorem qD:((Rows.equationSolvesRow.loops==(Tryz.f3.params.toList++Rows.equationSolvesSpec.plain.varTypes Tryz.prog).any (Tryz.prog.loopsFrom ·)) && (Rows.equationSolvesRow.wideKeys==(Tryz.f3.params.toList++Rows.equationSolvesSpec.plain.varTypes Tryz.prog++Tryz.f3.resultTypes.toList).any (Tryz.prog.wideKeysFrom ·)))=true:=by kernel_rfl
theorem qp:(Rows.equationSolvesSpec.vars.all (Tryz.prog.varReadable ·) && Tryz.f3.resultTypes.all (fun t=>Tryz.prog.readableRec t && decide (t< Tryz.prog.types.size)) && (Rows.equationSolvesRow.ifacesOut==Tryz.f3.resultTypes.toList.any (Tryz.prog.ifacesRec ·)) && (Rows.equationSolvesRow.loopsOut==Tryz.f3.resultTypes.toList.any (Tryz.prog.loopsFrom ·)) && (Rows.equationSolvesRow.plainKeys==Tryz.prog.plainKeys) && Rows.equationSolvesRow.shortTexts.isNone)=true:=by kernel_rfl
theorem qt:((Rows.equationSolvesRow.veiled==(Tryz.f3.params.toList++Rows.equationSolvesSpec.plain.varTypes Tryz.prog++Tryz.f3.resultTypes.toList).any (Tryz.prog.veiledRec ·)) && Rows.equationSolvesRow.veiledFits Tryz.prog Tryz.f3.params.toList (Tryz.f3.params.toList++Rows.equationSolvesSpec.plain.varTypes Tryz.prog++Tryz.f3.resultTypes.toList))=true:=by kernel_rfl
theorem qm:Rows.equationSolvesRow.wfByText (OpenSpec.ofChange Rows.equationSolvesSpec)=true:=by kernel_rfl
theorem qI:false=Rows.equationSolvesRow.goesBy Tryz.prog:=by kernel_rfl
theorem equationSolves_fn:Tryz.prog.funcNamed Rows.equationSolvesRow.func=some 3:=by kernel_rfl
theorem qF:decide (Tryz.f3.isInstance Tryz.prog Rows.equationSolvesRow.origin Rows.equationSolvesRow.targs)=true:=by kernel_rfl
theorem qn:(Tryz.f3.params.toList.all fun u=>!Tryz.prog.wantsStandIn u)=true:=by kernel_rfl
theorem qB:mkF Tryz.prog Tryz.f3 Rows.equationSolvesRow=true:=by kernel_rfl
theorem qE:(Rows.equationSolvesRow.lifted==Tryz.prog.liftsFinal)=true:=by rw[all_lf];kernel_rfl
theorem mG:joinedFacts Tryz.prog 3 Tryz.f3 Rows.equationSolvesSpec Rows.equationSolvesRow=true:=
 Gy qo sD all_mr qw qz qv qG qu qy qq qA qD qp all_sh all_me qE qB qt
theorem oa:Tryz.f3.isWrapper Tryz.prog Rows.equationSolvesRow.wrapper Rows.equationSolvesRow.mainSum:=by
 unfold Func.isWrapper;first|(rw[if_pos (by decide+kernel)];kernel_rfl)|(rw[if_neg (by decide+kernel)];exact⟨rfl,rfl⟩)
end Go.Proofs.YtiodeiecpoopgaaGreatDoor
namespace Go.Proofs.YtiodeiecpoopgaaGreatDoor
open Go.Abs Go.RowKit
theorem tab_glb:(Tryz.prog).globalNamed "internal/strconv.uint64pow10" =some GT:=by kernel_rfl
theorem tab_of{n1 n2:String}{a b:DataW Unit}{W:World}(h:laidMet Tryz.prog [(n1,a),(n2,b),("internal/strconv.uint64pow10",Lib.tabData .u64 Lib.pow10Tab)] W):TabW W:=by
 obtain⟨ps,⟨x,t1,v,u1,p1,q1,_,_,_,_,⟨u,t2,w,u2,p2,q2,_,_,_,_,⟨g,t,cs,i,p,q,l,k,hv,j,_,_⟩,_⟩,_⟩,_,_⟩:=h;obtain rfl:=Option.some.inj (tab_glb.symm.trans l);have m:((Tryz.prog).globals[GT]?).map (·.type)=some 309:=by kernel_rfl
 have n:(Tryz.prog).underlying 309=some (.array 20 192):=by kernel_rfl
 have r:(Tryz.prog).underlying 192=some (.int .u64):=by kernel_rfl
 have f:(Tryz.prog).cellsOf 192=1:=by kernel_rfl
 have e:(Tryz.prog).cellsOf 309=20:=by kernel_rfl
 obtain rfl:=Option.some.inj (m.symm.trans k);have s:=Lib.cells_of_tab (zs:=Lib.pow10Tab) n r f e j;unfold World.var? at hv;rw[tab_glb] at hv;have d:(match W.heap[GT]? with|some (.cells cs _ _)=>some cs|_=>none)=some cs:=hv;cases hh:W.heap[GT]? with
 |none=>rw[hh] at d;cases d
 |some o=>
  rw[hh] at d;cases o with
  |cells a b c=>
   obtain rfl:a=cs:=Option.some.inj d;refine⟨b,c,?_⟩;rw[hh]
   have:a=tabA:=by
    unfold tabA;rw[<-s]
   rw[this]
  |_=>cases d
end Go.Proofs.YtiodeiecpoopgaaGreatDoor
namespace Go.Proofs.YtiodeiecpoopgaaGreatDoor
open Go.Abs Go.ChangeAt Go.ChangeShapes Go.RowKit Go.WideShapes
theorem own:ownKnob Tryz.prog.godebug=none:=by kernel_rfl
theorem und4:Tryz.prog.underlying 4=some .bool:=by kernel_rfl
abbrev Fi:List (String×DataW Unit):=Rows.equationSolvesRow.laid
theorem Kf(os:Os)(args:Array Value):laidMetH Tryz.prog Fi ((World.doorLaid Tryz.prog 24 os).forCall (fun _ _=>0) ⟨#[],args,[]⟩).memory:=
 laidMetH_of_parts3 (fuel:=8) (laidMet_of_run' 8 (by kernel_rfl) (by kernel_rfl)) (by kernel_rfl) (by kernel_rfl)
set_option maxRecDepth 100000 in
theorem mF(os:Os)(started:os.Started)(H:Type)(enc:TypeId×Value->H):
    ReturnsInHanded {} Tryz.checked os 3 .any (fun w args=>(Rows.equationSolvesSpec.pre enc Tryz.prog Tryz.f3 [] false w args/\laidMetH Tryz.prog Fi w)/\sizedMet enc Tryz.prog Tryz.f3 (OpenSpec.ofChange Rows.equationSolvesSpec) false w args)
     (Rows.equationSolvesSpec.post enc Tryz.prog Tryz.f3 false true false false):=by
 refine returnsInHanded_of_change_and (C:=Tryz.checked) (X:=fun w _=>laidMetH Tryz.prog Fi w) (fun _ _ _ hh h=>h.of_heap hh) own started (by kernel_rfl) Tryz.func3
  (ChangeSpec.witness_shaped (enc:=enc) (C:=Tryz.checked) (os:=os) (X:=fun w _=>laidMetH Tryz.prog Fi w) false (World.doorLaid Tryz.prog 24 os) #[.slice none 0 0,(.agg #[.int .i64 0,.int .i64 0,.int .u8 0,.int .i64 0,.int .i64 0,.int .u8 0]),(.agg #[.int .i64 0,.int .i64 0,.int .u8 0]),.slice none 0 0,.slice none 0 0] 8 rfl (World.shaped_of_RefB (by kernel_rfl) (by kernel_rfl)) (by kernel_rfl) (by kernel_rfl) (by kernel_rfl) (Kf os _)) ?_
 intro W k args ds gs s c S _ _ O _;have a:∀(j:Nat) t v,Tryz.f3.params[j]?=some t->args[j]?=some v->Value.okWide Tryz.prog W .any k t v:=c;have G:=S;obtain⟨p,q,i,hV,rfl,hfz,hnd⟩:=S;have Q:DataW.TrodAll enc Tryz.prog W 0 (fun _=>true) true Tryz.f3.params.toList args.toList ds p:=i;rw[Tryz.params3] at Q a;obtain⟨v0,vs0,d0,Z,p0,q0,B,rfl,rfl,K,r0⟩:=trodAll_cons Q;obtain⟨v1,Y,d1,ds1,p1,q1,rfl,rfl,rfl,L,r1⟩:=trodAll_cons r0;obtain⟨v2,vs2,d2,ds2,p2,q2,rfl,rfl,rfl,E,r2⟩:=trodAll_cons r1;obtain⟨v3,vs3,d3,ds3,V,q3,rfl,rfl,rfl,z,r3⟩:=trodAll_cons r2;obtain⟨v4,vs4,d4,ds4,p4,q4,rfl,rfl,rfl,F,r4⟩:=trodAll_cons r3;obtain⟨rfl,rfl,rfl⟩:=trodAll_nil r4;obtain rfl:args= #[v0,v1,v2,v3,v4]:=by cases args;simp_all
 obtain⟨rfl,rfl⟩:=trodVars_none hV;obtain⟨a0,r,g,rfl⟩:=okWide_slice tySt (a 0 22 v0 rfl rfl);obtain⟨a3,o,f,rfl⟩:=okWide_slice tyS (a 3 27 v3 rfl rfl);obtain⟨a4,n,l,rfl⟩:=okWide_slice tyS (a 4 27 v4 rfl rfl);have u:∀x∈p0,x.block< W.heap.size:=by obtain⟨m,d⟩:=K;exact DataW.trod_lt m _ _ _ d
 have A:∀x∈p1,x.block< W.heap.size:=by obtain⟨m,d⟩:=L;exact DataW.trod_lt m _ _ _ d
 have M:∀x∈p2,x.block< W.heap.size:=by obtain⟨m,d⟩:=E;exact DataW.trod_lt m _ _ _ d
 have D:∀x∈V,x.block< W.heap.size:=by obtain⟨m,d⟩:=z;exact DataW.trod_lt m _ _ _ d
 have J:∀x∈p4,x.block< W.heap.size:=by obtain⟨m,d⟩:=F;exact DataW.trod_lt m _ _ _ d
 obtain⟨l0,T,g0⟩:=twP_of K;obtain⟨l1,o1,g1⟩:=gapP_of (a 1 26 v1 rfl rfl) L;obtain⟨l2,o2,g2⟩:=numP_of (a 2 24 v2 rfl rfl) E;obtain⟨l3,o3,U⟩:=tp z;obtain⟨l4,o4,R⟩:=tp F;clear i c;refine((pZ l0 l1 l2 l3 l4 T.1 T.2 o1 o2 o3 (rvlen U) o4 (rvlen R)).calls (fun _=>False) W [.slice a0 r g,v1,v2,.slice a3 o f,.slice a4 n l] ⟨fun _ h=>h.elim,fun h=>h,tab_of (by rw[MakeChecks.laidMetH_plain _ _ _ (by kernel_rfl)] at O;exact O)⟩ ⟨_,_,rfl,g0,⟨_,_,rfl,g1,⟨_,_,rfl,g2,⟨_,_,rfl,U,⟨_,_,rfl,R,rfl⟩⟩⟩⟩⟩).mono fun e W' ⟨y,he,hy,b⟩=>?_;have N:y= .bool true:=hy;subst he;subst N;exact⟨_,rfl,_,_,_,[],_,[],G,trodAll_mk1 (shut_bool und4 _),(trodAll_cons_mk (Below.trod sD (by kernel_rfl) (of_decide_eq_true (by kernel_rfl)) K b u) (trodAll_cons_mk (Below.trod sD (by kernel_rfl) (of_decide_eq_true (by kernel_rfl)) L b A) (trodAll_cons_mk (Below.trod sD (by kernel_rfl) (of_decide_eq_true (by kernel_rfl)) E b M) (trodAll_cons_mk (Below.trod sD (by kernel_rfl) (of_decide_eq_true (by kernel_rfl)) z b D) (trodAll_cons_mk (Below.trod sD (by kernel_rfl) (of_decide_eq_true (by kernel_rfl)) F b J) trodAll_mk0))))),rfl,b.frame _,fun h=>by cases h⟩
theorem oI:Rows.EquationSolvesSaid:=
 OpenClaim.holds_of_wide 3 Tryz.f3 rfl rfl rfl rfl rfl rfl rfl ⟨rfl,rfl,rfl,rfl,rfl⟩ rfl rfl rfl rfl rfl equationSolves_fn Tryz.func3 mG
  (of_decide_eq_true qF) oa
  (fun os a H b _=>mF os a H b)
theorem equationSolves_card:Rows.EquationSolvesCardSaid:=
 Claim7.holds_tied_plain_at .later [] [.data,.data,.data] true (true, "981fe422cfd5df9daaba7b6483a57d3003ba322159e10363fe6e259c167a23cd") false
  oI (fun _ h=>by cases h) qm (fun _ h=>by cases h) equationSolves_row_tie rfl ⟨rfl,rfl⟩ all_mi rfl
  (fun f fn hf hfn=>by
   obtain rfl:f=3:=Option.some.inj (equationSolves_fn.symm.trans hf)|>.symm;obtain rfl:fn=Tryz.f3:=(Option.some.inj (Tryz.func3.symm.trans hfn)).symm
   exact⟨all_lk,fun j t ht=>by
    have hm:t∈Tryz.f3.params.toList:=by simpa using Array.mem_of_getElem? ht
    exact(show Tryz.prog.wantsStandIn t=false by simpa using List.all_eq_true.1 qn t hm)⟩)
  qI
#print axioms equationSolves_card
end Go.Proofs.YtiodeiecpoopgaaGreatDoor
