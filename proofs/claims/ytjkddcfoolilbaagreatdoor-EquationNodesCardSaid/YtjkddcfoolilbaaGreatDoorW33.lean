/- Part W33 of the proof. -/
import Derived.Test.YtjkddcfoolilbaaGreatDoorW32
set_option linter.all false
namespace Go.Proofs.YtjkddcfoolilbaaGreatDoor
open Go.Abs
set_option maxRecDepth 100000
set_option maxHeartbeats 4000000
def itE(l:List Int):List Rat→Nat→AState
 |[],i=>⟨[(0,.arr (zE l)),(3,.emp),(4,i64 i)],[],1,20⟩
 |q::Q,i=>⟨[(0,.arr (zE l)),(3,.lsl 1 0 (Q.length+1) none 3),(4,i64 i)],[(1,some ⟨46,3,pE (q::Q)⟩)],2,20⟩
theorem iI_(l:List Int)(i:Nat):itE l [] i=⟨[(0,.arr (zE l)),(3,.emp),(4,i64 i)],[],1,20⟩:=rfl
theorem fk_(l:List Int)(q:Rat)(Q:List Rat)(i:Nat):itE l (q::Q) i=⟨[(0,.arr (zE l)),(3,.lsl 1 0 (Q.length+1) none 3),(4,i64 i)],[(1,some ⟨46,3,pE (q::Q)⟩)],2,20⟩:=rfl
theorem lZ_(l:List Int)(hl:l.length≤1099511627776)(hb:∀n∈l,-9223372036854775808≤n∧n≤9223372036854775807):FS 33 [.arr (zE l)] (.arr (pE (zR l))):=by
 refine f_n Tryz.func33 ?_ ?_;exact aa_ (ax_ (dW_ l)) ac_;refine r_z 1 ?_;refine r_z 1 ?_;refine ab_ (r_z 1 ?_);refine av_ (fun _:Unit=>itE l (zR l) l.length) (fun _=>True) ?_ ?_;refine af_ (aq_ (fun i:Nat=>itE l (zR (l.take i)) i) (fun i=>l.length- i) (fun i=>i≤l.length) 0 (Nat.zero_le _) ?_ ?_);show SEnt _ (itE l [] 0);rw[iI_];have:=(ax_ (dW_ l));exact s_f [];rintro i hi;have hlen:(zE l).length=l.length:=by simp[zE]
 by_cases hlt:i< l.length
 ·obtain⟨n,hn⟩:∃n,l[i]?=some n:=⟨_,List.getElem?_eq_getElem hlt⟩
  have hgt:(zE l)[((i:Nat):Int).toNat]?=some [i64 n]:=by
   show(zE l)[i]?=_;simp[zE,hn]
  have hnb:=hb n (List.mem_of_getElem? hn);have htk:zR (l.take (i+1))=zR (l.take i)++[(n:Rat)]:=by rw[br_ hn];simp[zR]
  have hQl:(zR (l.take i)).length=i:=by simp[zR];omega
  cases hQ:zR (l.take i) with
  |nil=>
   simp only[iI_];refine ab_ (r_z 4 ?_);refine aj_ rfl (fun h=>?_) (fun h=>?_);rotate_left;exact absurd h (by simp[zE];omega);refine ah_ (ab_ (af_ (r_m 9 ?_)));refine a_3 ?_;refine i_x hgt ?_;refine l_1 hgt ?_;refine c_s (cV_ n hnb) ?_;refine a_z ?_;refine r_m 3 ?_;refine a_z ?_;refine⟨i+1,by omega,hlt,?_⟩;simp only[htk,hQ,List.nil_append,fk_];have:=(ax_ (dW_ l));have:=(aG_ [(n:Rat)]);exact s_f [(1,3)]
  |cons q Q=>
   rw[hQ] at hQl;simp at hQl;simp only[fk_];refine ab_ (r_z 4 ?_);refine aj_ rfl (fun h=>?_) (fun h=>?_);rotate_left;exact absurd h (by simp[zE];omega);refine ah_ (ab_ (af_ (r_m 9 ?_)));refine a_3 ?_;refine i_x hgt ?_;refine l_1 hgt ?_;refine c_s (cV_ n hnb) ?_;refine a_z ?_;refine r_m 3 ?_;refine a_z ?_;refine⟨i+1,by omega,hlt,?_⟩;simp only[htk,hQ,List.cons_append,fk_];have e:pE (q::Q)++[qC (n:Rat)]=pE (q::(Q++[(n:Rat)])):=by simp[pE]
   refine s_x [(1,3)] (fun hs=>?_) (fun hs=>?_) e_9
   ·repeat' (first|exact aD_|refine an_ rfl ?_ ?_|exact ai_ hs (ax_ (dW_ l))|exact au_c)
   ·repeat' (first|exact au_|refine h_c ?_ ?_|exact ay_ hs e (aG_ _)|exact au_e|refine ar_ ?_|exact am_|refine ae_ ?_ ?_|exact ai_ hs (ax_ (dW_ l))|exact au_c)
 have hge:i=l.length:=by omega
 subst hge;simp only[List.take_length];cases hQ:zR l with
 |nil=>
  simp only[iI_];refine ab_ (r_z 4 ?_);refine aj_ rfl (fun h=>?_) (fun h=>?_);exact absurd h (by simp[zE]);refine ao_ ⟨(),trivial,?_⟩;simp only[hQ,iI_];have:=(ax_ (dW_ l));exact s_f []
 |cons q Q=>
  simp only[fk_];refine ab_ (r_z 4 ?_);refine aj_ rfl (fun h=>?_) (fun h=>?_);exact absurd h (by simp[zE]);refine ao_ ⟨(),trivial,?_⟩;simp only[hQ,fk_];have:=(ax_ (dW_ l));exact s_f []
 rintro _ _;cases hQ:zR l with
 |nil=>
  simp only[iI_];refine r_z 2 ?_;exact ag_ (Fin.tmpN rfl)
 |cons q Q=>
  simp only[fk_];refine r_z 2 ?_;exact ag_ (Fin.tmpS rfl rfl rfl (by simp) (aG_ _))
abbrev x1W:List Rat:=zR [0,1]
abbrev p1W:List Rat×List Rat:=(x1W,x1W)
abbrev o1W:List Rat:=zR [1]
abbrev p2W:List Rat×List Rat:=(o1W,o1W)
abbrev q3I:Rat:=((3:Int):Rat)
abbrev tnW:Rat:=((1:Int):Rat) / ((10:Int):Rat)
theorem wk_ma:OkMa [p1W] 0 q1I:=⟨by decide,fun p hp q hq=>by
 rw[List.mem_singleton.1 hp,List.mem_singleton.1 hq];exact⟨by decide+kernel,⟨by decide+kernel,by decide+kernel,by decide+kernel,by decide+kernel,by decide+kernel⟩⟩⟩
theorem wk_sy(l:Rat)(hl:qs l≤2):OkSy [p1W] l 0 q1I 100:=⟨wk_ma,fun i j hi hj=>by
 obtain rfl:i=0:=by simpa using hi
 obtain rfl:j=0:=by simpa using hj
 have:qs (maK [p1W] 0 q1I 0 0)≤10:=by decide+kernel
 omega,by decide⟩
theorem wk_ta(l:Rat)(hl:qs l≤2):OkTa [p1W] l x1W 0 q1I 100:=⟨lN_ (by decide) (fun p hp=>by rw[List.mem_singleton.1 hp];decide),by decide+kernel,by decide+kernel,by decide+kernel,by decide+kernel,by decide,wk_sy l hl,fun p hp=>by
 rw[List.mem_singleton.1 hp];exact⟨by decide+kernel,⟨by decide+kernel,by decide+kernel,by decide+kernel,by decide+kernel,by decide+kernel⟩,by decide+kernel⟩⟩
theorem wk_su:OkSu [p1W] q1I x1W 0 q1I:=⟨fun i p hp=>by
 have hi:=(List.getElem?_eq_some_iff.1 hp).1;obtain rfl:i=0:=by simpa using hi
 cases hp;exact⟨by decide+kernel,by decide+kernel,by decide+kernel,by decide+kernel,by decide+kernel,by decide+kernel,by decide+kernel⟩,by decide+kernel,by decide+kernel,by decide+kernel,by decide+kernel,by decide+kernel,by decide+kernel⟩
theorem wk_1:(syM [p1W] q1I (rhK [p1W] x1W 0 q1I) 0 q1I).2=[0]∧noneB 1 (syM [p1W] q1I (rhK [p1W] x1W 0 q1I) 0 q1I).1 (syM [p1W] q1I (rhK [p1W] x1W 0 q1I) 0 q1I).2=false:=by decide+kernel
theorem wk_3:noneB 1 (syM [p1W] q3I (rhK [p1W] x1W 0 q1I) 0 q1I).1 (syM [p1W] q3I (rhK [p1W] x1W 0 q1I) 0 q1I).2=true:=by decide+kernel
theorem wk_r:nW_ 40 40 x1W (0,q1I) 0=some (0,1)∧nW_ 40 40 (syU [p1W] q1I x1W 0 q1I) (0,q1I) 0=some (0,2)∧absH (0,1)=1∧absH (0,2)=2:=by decide+kernel
theorem wk_cl:OkCl p1W q1I x1W 0 q1I tnW 0 1 1 2:=⟨by decide+kernel,by decide+kernel,by decide+kernel,by decide+kernel,by decide+kernel,by decide+kernel,by decide+kernel,by decide+kernel,by decide+kernel,by decide+kernel,by decide+kernel,by decide+kernel,by decide+kernel,by decide+kernel,by decide+kernel,by decide+kernel⟩
theorem wk_t1:textP (trimQ (deV (trQ (maK [p1W] 0 q1I) 1)))=[45,49,47,51,32,120,32,43,32,49]∧okPT (trimQ (deV (trQ (maK [p1W] 0 q1I) 1))):=by decide+kernel
theorem wk_t2:textP (trimQ (syU [p1W] q1I x1W 0 q1I))=[51,47,50,32,120]∧okPT (trimQ (syU [p1W] q1I x1W 0 q1I)):=by decide+kernel
theorem wk_t3:textP (seK (mvK 0 [p2W]) (compP [0,1] o1W) q1I 3 4)=[49,47,54,32,120,94,51,32,43,32,49,47,50,32,120,94,50,32,43,32,120,32,43,32,49]∧okPT (seK (mvK 0 [p2W]) (compP [0,1] o1W) q1I 3 4):=by decide+kernel
theorem wk_t4:textQ (clRa p1W q1I 0 q1I 1 1 tnW 0 2)=[50,47,51]∧okT (clRa p1W q1I 0 q1I 1 1 tnW 0 2)∧textQ (clB p1W q1I 0 q1I 1 1)=[53,47,50]∧okT (clB p1W q1I 0 q1I 1 1):=by decide+kernel
theorem sp_01:([.arr [],bln false,.arr []]:List AV)++qC q1I=spC 0 q1I:=by unfold spC;rw[qC0]
theorem wk_i2:FS 33 [.arr (zE [0,1])] (.arr (pE x1W)):=lZ_ [0,1] (by decide) (by decide)
theorem wk_i1:FS 33 [.arr (zE [1])] (.arr (pE o1W)):=lZ_ [1] (by decide) (by decide)
theorem wk_det:FS 34 [.arr (kE [p1W]),.agg (spC 0 q1I)] (.tup [.arr (pE (trimQ (deV (trQ (maK [p1W] 0 q1I) 1)))),i64 0]):=
 fs_Det1 p1W 0 q1I (wk_ta q1I (by decide)).ke (by decide+kernel) (by decide+kernel) (by decide+kernel) wk_ma (by decide+kernel)
theorem wk_so:FS 20 [.agg (eqC [p1W] q1I x1W),.agg (spC 0 q1I)] (.tup [.arr (pE (trimQ (syU [p1W] q1I x1W 0 q1I))),.arr (mE []),i64 0]):=
 rO_ [p1W] q1I x1W 0 q1I 100 (wk_ta q1I (by decide)) wk_su (fun f hf=>by
  obtain rfl:f=0:=by simpa using hf
  show(syM [p1W] q1I (rhK [p1W] x1W 0 q1I) 0 q1I).2.contains 0=true;rw[wk_1.1];rfl) wk_1.2 (by decide+kernel)
theorem wk_sv:FS 20 [.agg (eqC [p1W] q3I x1W),.agg (spC 0 q1I)] (.tup [.arr (pE []),.arr (mE []),i64 12]):=
 rN_ [p1W] q3I x1W 0 q1I 100 (wk_ta q3I (by decide)) wk_3
theorem wk_cs:FS 36 [.agg (eqC [p1W] q1I x1W),.agg (spC 0 q1I),.agg (qC tnW),.agg (qC 0),i64 0] (.tup [.agg (neC (syU [p1W] q1I x1W 0 q1I) (clB p1W q1I 0 q1I 1 1) (clSh p1W q1I 0 q1I 1 1 tnW) (clRa p1W q1I 0 q1I 1 1 tnW 0 2)),i64 0]):=by
 obtain⟨r1,r2,a1,a2⟩:=wk_r;have s1:=on_ x1W 0 q1I 0 (0,1) (ou_ 40 40 x1W (0,q1I) 0 _ r1 (by decide)) (by decide+kernel) (by decide+kernel);have s2:=on_ (syU [p1W] q1I x1W 0 q1I) 0 q1I 0 (0,2) (ou_ 40 40 _ (0,q1I) 0 _ r2 (by decide)) (by decide+kernel) (by decide+kernel);rw[a1] at s1;rw[a2] at s2;exact rZ_ p1W q1I x1W 0 q1I tnW 0 1 1 2 0 100 (wk_ta q1I (by decide)) wk_su (by decide) (by rw[wk_1.1];rfl) wk_cl s1 s1 s2
theorem wk_se:FS 11 [.agg (eqC [p2W] q1I o1W),.agg (qC 0),i64 3] (.tup [.arr (pE (seK (mvK 0 [p2W]) (compP [0,1] o1W) q1I 3 4)),i64 0]):=
 rR_ [p2W] q1I o1W 0 3 (by decide) (sF_ (by decide) (by decide) (fun p hp=>by rw[List.mem_singleton.1 hp];decide) (fun p hp=>by rw[List.mem_singleton.1 hp];decide+kernel) (by decide) (by decide+kernel) (by decide) (by decide))
theorem wk_cb:∀c∈([.arr [],bln false,.arr []]:List AV)++qC q1I,Closed c:=by rw[sp_01];exact a4_ 0 q1I
theorem pp_:FS 9 [] (.v (.bool true)):=by
 have i2:=wk_i2;have i1:=wk_i1;have hd:=wk_det;have hso:=wk_so;have hsv:=wk_sv;have hcs:=wk_cs;have hse:=wk_se;rw[←sp_01] at hd hso hsv hcs;rw[qC0] at hcs hse;have n1:=cV_ 1 (by decide);have n3:=cV_ 3 (by decide);have n10:=fs_Of 1 10 (by decide) (by decide) (by decide);have t1:=kN_ _ wk_t1.2;rw[wk_t1.1] at t1;have t2:=kN_ _ wk_t2.2;rw[wk_t2.1] at t2;have t3:=kN_ _ wk_t3.2;rw[wk_t3.1] at t3;have t4:=kM_ _ wk_t4.2.1;rw[wk_t4.1] at t4;have t5:=kM_ _ wk_t4.2.2.2;rw[wk_t4.2.2.1] at t5;refine f_c Tryz.func9 ?_;refine r_z 1 ?_;refine s_r 7 ?_;refine a_1 ?_;refine o_1 (.callS1 rfl rfl rfl (.shut rfl d_n (.nil)) rfl (i2)) ?_;refine a_1 ?_;refine o_1 (.callS1 rfl rfl rfl (.shut rfl d_n (.nil)) rfl (i2)) ?_;refine a_z ?_;refine AWp.ent (st':=⟨[(1,.arr (kE [p1W]))],[],1,130⟩) ?_ ?_;refine s_x [] (fun hs=>?_) (fun hs=>?_)
 ·repeat' (first|exact aD_|refine an_ rfl ?_ ?_|(refine Cv.shut hs rfl (aB_ rfl) (nle rfl) ?_;exact ay_ hs rfl (ca_ [p1W]))|exact au_c)
 ·repeat' (first|exact au_|refine h_c ?_ ?_|exact au_e|refine ar_ ?_|exact am_|refine ae_ ?_ ?_|(refine Cv.shut hs rfl (aB_ rfl) (nle rfl) ?_;exact ay_ hs rfl (ca_ [p1W]))|exact au_c)
 refine r_c 4 (n1) ?_;refine a_z ?_;refine AWp.ent (st':=⟨[(1,.arr (kE [p1W])),(2,.lptr 1 0 0)],[(1,some ⟨74,6,[[.arr [],bln false,.arr []]++qC q1I]⟩)],2,130⟩) ?_ ?_;refine s_x [(1,2)] (fun hs=>?_) (fun hs=>?_)
 ·repeat' (first|exact aD_|refine an_ rfl ?_ ?_|exact ai_ hs (aA_ [p1W])|exact au_c)
 ·repeat' (first|exact au_|refine h_c ?_ ?_|exact CvLL.cons (ae_ (Cv.emp _) (ae_ (ai_ hs (ad_ _)) (ae_ (Cv.emp _) (CvL.clo hs (aN_ q1I))))) CvLL.nil|exact au_e|refine ar_ ?_|exact am_|refine ae_ ?_ ?_|exact ai_ hs (aA_ [p1W])|exact au_c)
 refine AWp.ent (st':=⟨[(1,.arr (kE [p1W])),(2,.aptr [[.arr [],bln false,.arr []]++qC q1I] 0 0)],[],1,130⟩) ?_ ?_;refine s_x [] (fun hs=>?_) (fun hs=>?_)
 ·repeat' (first|exact aD_|refine an_ rfl ?_ ?_|exact ai_ hs (aA_ [p1W])|exact Cv.boxp hs rfl (aB_ rfl) rfl wk_cb|exact au_c)
 ·repeat' (first|exact au_|refine h_c ?_ ?_|exact au_e|refine ar_ ?_|exact am_|refine ae_ ?_ ?_|exact ai_ hs (aA_ [p1W])|exact Cv.boxp hs rfl (aB_ rfl) rfl wk_cb|exact au_c)
 refine r_c 8 (hd) ?_;refine a_z ?_;refine r_c 7 (n1) ?_;refine a_1 ?_;refine o_1 (.callS1 rfl rfl rfl (.shut rfl d_n (.nil)) rfl (i2)) ?_;refine a_z ?_;refine r_c 10 (hso) ?_;refine a_z ?_;refine r_c 7 (n10) ?_;refine a_z ?_;refine r_c 11 (hcs) ?_;refine a_z ?_;refine r_c 3 (n3) ?_;refine a_z ?_;refine r_c 10 (hsv) ?_;refine a_z ?_;refine AWp.ent (st':=⟨[(3,.arr (pE (trimQ (deV (trQ (maK [p1W] 0 q1I) 1))))),(4,i64 0),(6,.arr (pE (trimQ (syU [p1W] q1I x1W 0 q1I)))),(7,.arr (mE [])),(8,i64 0),(11,.aptr [neC (syU [p1W] q1I x1W 0 q1I) (clB p1W q1I 0 q1I 1 1) (clSh p1W q1I 0 q1I 1 1 tnW) (clRa p1W q1I 0 q1I 1 1 tnW 0 2)] 0 0),(12,i64 0),(15,i64 12)],[],1,130⟩) ?_ ?_;refine s_x [] (fun hs=>?_) (fun hs=>?_)
 ·repeat' (first|exact aD_|refine an_ rfl ?_ ?_|exact ai_ hs (ap_ _)|exact ai_ hs (closed_mA _)|exact Cv.boxp hs rfl (aB_ rfl) rfl (dK_ _ _ _ _)|exact au_c)
 ·repeat' (first|exact au_|refine h_c ?_ ?_|exact au_e|refine ar_ ?_|exact am_|refine ae_ ?_ ?_|exact ai_ hs (ap_ _)|exact ai_ hs (closed_mA _)|exact Cv.boxp hs rfl (aB_ rfl) rfl (dK_ _ _ _ _)|exact au_c)
 have hX:=hse.xs (pP_ (aa_ (ap_ _) (aa_ (ad_ _) ac_)));refine ab_ (AWp.regX (fr2:=[(75,.agg (eqC [p2W] q1I o1W)),(76,.agg [.arr [],bln false,.arr []]),(3,.arr (pE (trimQ (deV (trQ (maK [p1W] 0 q1I) 1))))),(4,i64 0),(6,.arr (pE (trimQ (syU [p1W] q1I x1W 0 q1I)))),(7,.arr (mE [])),(8,i64 0),(11,.aptr [neC (syU [p1W] q1I x1W 0 q1I) (clB p1W q1I 0 q1I 1 1) (clSh p1W q1I 0 q1I 1 1 tnW) (clRa p1W q1I 0 q1I 1 1 tnW 0 2)] 0 0),(12,i64 0),(15,i64 12)]) (hp2:=[]) (nx2:=1) (fr3:=[(3,.arr (pE (trimQ (deV (trQ (maK [p1W] 0 q1I) 1))))),(4,i64 0),(6,.arr (pE (trimQ (syU [p1W] q1I x1W 0 q1I)))),(7,.arr (mE [])),(8,i64 0),(11,.aptr [neC (syU [p1W] q1I x1W 0 q1I) (clB p1W q1I 0 q1I 1 1) (clSh p1W q1I 0 q1I 1 1 tnW) (clRa p1W q1I 0 q1I 1 1 tnW 0 2)] 0 0),(12,i64 0),(15,i64 12)]) 11 rfl rfl rfl rfl rfl rfl ?_ rfl rfl rfl hX (keepF ?_) (loF rfl) ?_)
 ·refine o_1 (.buildSlice te_162.h TZ.h rfl (by decide) rfl rfl rfl (by first|(simp;done)|(simp[a7_,ofV];done)|rfl)) ?_
  refine o_1 (.callS1 rfl rfl rfl (.shut rfl d_n (.nil)) rfl (i1)) ?_;refine o_1 (.buildSlice te_162.h TZ.h rfl (by decide) rfl rfl rfl (by first|(simp;done)|(simp[a7_,ofV];done)|rfl)) ?_;refine o_1 (.callS1 rfl rfl rfl (.shut rfl d_n (.nil)) rfl (i1)) ?_;refine o_0 (.build TZ.h tp_98.h rfl rfl) ?_;refine o_1 (.buildSlice te_27.h TZ.h rfl (by decide) rfl rfl rfl (by first|(simp;done)|(simp[a7_,ofV];done)|rfl)) ?_;refine o_0 (.call rfl rfl rfl (n1)) ?_;refine o_1 (.buildSlice te_162.h TZ.h rfl (by decide) rfl rfl rfl (by first|(simp;done)|(simp[a7_,ofV];done)|rfl)) ?_;refine o_1 (.callS1 rfl rfl rfl (.shut rfl d_n (.nil)) rfl (i1)) ?_;refine o_0 (.build TZ.h tp_58.h rfl rfl) ?_;refine o_0 (.build TZ.h tp_46.h rfl rfl) ?_;refine ak_ ?_;refine s_y [] (fun hs=>?_) (fun hs=>?_)
  ·repeat' (first|exact aD_|refine an_ rfl ?_ ?_|exact ai_ hs (ap_ _)|exact ai_ hs (closed_mA _)|exact ai_ hs (aM_ (dK_ _ _ _ _))|exact Cv.agg (ae_ (Cv.shut hs rfl (aB_ rfl) (nle rfl) (ay_ hs rfl (ca_ [p2W]))) (CvL.clo hs (bG_ (aN_ q1I) (aa_ (ap_ o1W) ac_))))|exact Cv.agg (ae_ (Cv.emp _) (ae_ (ai_ hs (ad_ _)) (ae_ (Cv.emp _) am_)))|exact au_c)
  ·repeat' (first|exact au_|refine h_c ?_ ?_|exact au_e|refine ar_ ?_|exact am_|refine ae_ ?_ ?_|exact ai_ hs (ap_ _)|exact ai_ hs (closed_mA _)|exact ai_ hs (aM_ (dK_ _ _ _ _))|exact Cv.agg (ae_ (Cv.shut hs rfl (aB_ rfl) (nle rfl) (ay_ hs rfl (ca_ [p2W]))) (CvL.clo hs (bG_ (aN_ q1I) (aa_ (ap_ o1W) ac_))))|exact Cv.agg (ae_ (Cv.emp _) (ae_ (ai_ hs (ad_ _)) (ae_ (Cv.emp _) am_)))|exact au_c)
 intro p hp;rcases List.mem_cons.1 hp with rfl|hp
 exact⟨rfl,ap_ _⟩;rcases List.mem_cons.1 hp with rfl|hp
 exact⟨rfl,ad_ _⟩;rcases List.mem_cons.1 hp with rfl|hp
 exact⟨rfl,ap_ _⟩;rcases List.mem_cons.1 hp with rfl|hp
 exact⟨rfl,closed_mA _⟩;rcases List.mem_cons.1 hp with rfl|hp
 exact⟨rfl,ad_ _⟩;rcases List.mem_cons.1 hp with rfl|hp
 exact⟨rfl,aM_ (dK_ _ _ _ _)⟩;rcases List.mem_cons.1 hp with rfl|hp
 exact⟨rfl,ad_ _⟩;rcases List.mem_cons.1 hp with rfl|hp
 exact⟨rfl,ad_ _⟩;cases hp;refine o_0 (.move rfl) ?_;refine o_0 (.extract rfl rfl) ?_;refine o_0 (.extract rfl rfl) ?_;refine o_0 (.assign rfl) ?_;refine o_0 (.assign rfl) ?_;refine ak_ ?_;refine s_r 51 ?_;refine a_1 ?_;refine o_0 (.bin rfl rfl (vT aS_ (rfl))) ?_;refine c_s (t1) ?_;refine al_ rfl rfl rfl (.bin rfl rfl (vT d9_ rfl)) rfl rfl ?_;refine a_2 ?_;refine al_ rfl rfl rfl (.move rfl) rfl rfl ?_;refine al_ rfl rfl rfl (.bin rfl rfl (vT aS_ (rfl))) rfl rfl ?_;refine c_s (t2) ?_;refine al_ rfl rfl rfl (.bin rfl rfl (vT d9_ rfl)) rfl rfl ?_;refine a_2 ?_;refine al_ rfl rfl rfl (.move rfl) rfl rfl ?_;refine al_ rfl rfl rfl (.lenC rfl rfl rfl rfl te_77.h) rfl rfl ?_;refine al_ rfl rfl rfl (.bin rfl rfl (vT aS_ (rfl))) rfl rfl ?_;refine a_2 ?_;refine al_ rfl rfl rfl (.move rfl) rfl rfl ?_;refine al_ rfl rfl rfl (.bin rfl rfl (vT aS_ (rfl))) rfl rfl ?_;refine c_s (t4) ?_;refine al_ rfl rfl rfl (.bin rfl rfl (vT d9_ rfl)) rfl rfl ?_;refine c_s (t5) ?_;refine al_ rfl rfl rfl (.bin rfl rfl (vT d9_ rfl)) rfl rfl ?_;refine a_2 ?_;refine al_ rfl rfl rfl (.move rfl) rfl rfl ?_;refine al_ rfl rfl rfl (.bin rfl rfl (vT aS_ (rfl))) rfl rfl ?_;refine a_2 ?_;refine al_ rfl rfl rfl (.move rfl) rfl rfl ?_;refine al_ rfl rfl rfl (.bin rfl rfl (vT aS_ (rfl))) rfl rfl ?_;refine c_s (t3) ?_;refine al_ rfl rfl rfl (.bin rfl rfl (vT d9_ rfl)) rfl rfl ?_;refine a_z ?_;exact ag_ (t_e (ad_ _))
theorem ke_cases(l:List TRow)(ho:∀t∈l,okT2 t)(hl:l.length≤9223372036854775807):∃k1 k2 b,FS 6 [.arr (twR l)] (.tup [k1,k2,bln b])∧Closed k1∧Closed k2∧(b=true→k1= .arr (kE (keM l))∧k2= .arr (keR (keM l))∧keOk l=true):=by
 have h:=pG_ l ho hl;unfold keV at h;cases e:keOk l with
 |true=>rw[e] at h;exact⟨_,_,true,h,aA_ _,aO_ _,fun _=>⟨rfl,rfl,rfl⟩⟩
 |false=>rw[e] at h;exact⟨_,_,false,h,aA_ _,aO_ _,fun h=>by cases h⟩
theorem ri_cases(l:List NRow)(ho:okR l)(hl:l.length≤9223372036854775807):∃k1 k2 b,FS 7 [.arr (nR l)] (.tup [k1,k2,bln b])∧Closed k1∧Closed k2∧(b=true→k1= .arr (pE (nL l))∧k2= .arr (rE (rP (nL l)))∧l.length≤40∧(tameB l 5=true∨20< degP (nL l))):=by
 have h:=rT_ l ho hl;by_cases e:40< l.length;rw[if_pos e] at h;exact⟨_,_,false,h,ap_ _,aR_ _,fun h=>by cases h⟩;rw[if_neg e] at h;exact⟨_,_,_,h,ap_ _,aR_ _,fun h=>⟨rfl,rfl,by omega,by simpa using h⟩⟩
theorem ke_facts{l:List TRow}(ho:∀t∈l,okT2 t)(h:keOk l=true):(keM l).length≤1000∧(∀p∈keM l,p.1.length≤30∧p.2.length≤30)∧(vaB (keM l)=true→(keM l).length≤3∧(∀p∈keM l,p.1.length≤4∧p.2.length≤4)∧∀p∈keM l,bdL p.1 20∧bdL p.2 20):=by
 unfold keOk at h;rw[Bool.and_eq_true,List.all_eq_true] at h;obtain⟨h1,h2⟩:=h
 have hlen:l.length≤12∧(3< l.length→8< l.length):=by
  unfold lenOk at h1;simp only[Bool.not_eq_true',Bool.or_eq_false_iff,Bool.and_eq_false_iff,decide_eq_false_iff_not] at h1;omega
 have hp:∀p∈keM l,∃t∈l,p=(nL t.1,nL t.2):=fun p hp=>by
  obtain⟨t,ht,e⟩:=List.mem_map.1 hp;exact⟨t,ht,e.symm⟩
 have hs:∀t∈l,t.1.length≤30∧t.2.length≤30∧dn_ t.1=true∧dn_ t.2=true:=fun t ht=>by
  have h3:=h2 t ht;unfold ef_ longT at h3;simp only[Bool.and_eq_true,Bool.not_eq_true',Bool.or_eq_false_iff,decide_eq_false_iff_not] at h3;exact⟨by omega,by omega,h3.2.1,h3.2.2⟩
 refine⟨by rw[cU_];omega,fun p hp'=>?_,fun hv=>?_⟩;obtain⟨t,ht,rfl⟩:=hp p hp';obtain⟨a1,a2,_,_⟩:=hs t ht;exact⟨by simpa[nL] using a1,by simpa[nL] using a2⟩;unfold vaB at hv;simp only[Bool.and_eq_true,Bool.not_eq_true',decide_eq_true_eq] at hv;obtain⟨v1,v2⟩:=hv;rw[cU_] at v2
 have hb:∀t∈l,(bdL (nL t.1) 20∧(nL t.1).length≤4)∧bdL (nL t.2) 20∧(nL t.2).length≤4:=fun t ht=>by
  obtain⟨_,_,a3,a4⟩:=hs t ht
  have hbig:bigR (nL t.1,nL t.2)=false:=by
   have:=List.any_eq_false.1 v1 (nL t.1,nL t.2) (List.mem_map.2 ⟨t,ht,rfl⟩);simpa using this
  unfold bigR at hbig;rw[Bool.or_eq_false_iff] at hbig;unfold dn_ at a3 a4
  have g1:tameB t.1 4=true:=by
   rw[Bool.or_eq_true] at a3;rcases a3 with a3|a3
   exact a3;rw[hbig.1] at a3;cases a3
  have g2:tameB t.2 4=true:=by
   rw[Bool.or_eq_true] at a4;rcases a4 with a4|a4
   exact a4;rw[hbig.2] at a4;cases a4
  exact⟨gJ_ g1 (ho t ht).1.1,gJ_ g2 (ho t ht).1.2⟩
 refine⟨by rw[cU_];omega,fun p hp'=>?_,fun p hp'=>?_⟩;obtain⟨t,ht,rfl⟩:=hp p hp';exact⟨(hb t ht).1.2,(hb t ht).2.2⟩;obtain⟨t,ht,rfl⟩:=hp p hp';exact⟨(hb t ht).1.1,(hb t ht).2.1⟩
def bNu(r:NRow):AV:= .aptr [nuC r.1 r.2.1 r.2.2] 0 0
theorem gy_(r:NRow):∀c∈nuC r.1 r.2.1 r.2.2,Closed c:=aa_ (ad_ _) (aa_ (ad_ _) (aa_ (ad_ _) ac_))
theorem j3_(r:NRow):Closed (bNu r):=aM_ (gy_ r)
end Go.Proofs.YtjkddcfoolilbaaGreatDoor
namespace Go.Proofs.YtjkddcfoolilbaaGreatDoor
open Go.Abs Go.Deep Go.RowKit
set_option maxRecDepth 20000
theorem rvlen{W:World}{l:List NRow}{v:Value}(h:RV (fun _=>False) (fun _=>none) W (.arr (nR l)) v):l.length≤9223372036854775807:=by
 obtain⟨_,_,_,hle,hcap,_⟩:=h;have h1:(nR l).length=l.length:=by simp[nR]
 have hm:maxLen=9223372036854775807:=by decide
 omega
theorem tySt:(Tryz.prog).underlying 22=some (.slice 93):=by kernel_rfl
def twF:Array Field:= #[{name:= "A",type:=25,offset:=0,embedded:=false,tag:= "",pkgPath:= "",byteOffset:=0},{name:= "B",type:=25,offset:=1,embedded:=false,tag:= "",pkgPath:= "",byteOffset:=24}]
theorem tyTw:(Tryz.prog).underlying 93=some (.struct twF):=by kernel_rfl
theorem tycTw:(Tryz.prog).cellsOf 93=2:=by kernel_rfl
theorem tycS2:(Tryz.prog).cellsOf 25=1:=by kernel_rfl
theorem two_of{H:Type}{enc:TypeId×Value→H}{W:World}{n:Nat}{cs:List Value}{x:DataW H×List MemPlace}(h:DataW.trod enc Tryz.prog W 0 (fun _=>true) true n 93 cs=some x):
    ∃(t:TRow) (c0 c1:Value),okT2 t∧cs=[c0,c1]∧RV (fun _=>False) (fun _=>none) W (.arr (nR t.1)) c0∧RV (fun _=>False) (fun _=>none) W (.arr (nR t.2)) c1:=by
 obtain⟨ys,m,_,_,hl,hlen,hg⟩:=DataW.trod_struct tyTw h;rw[tycTw] at hl
 match cs,hl,ys,hlen with
 |[c0,c1],_,[y0,y1],_=>
  have g0:DataW.trod enc Tryz.prog W 0 (fun _=>true) true m 25 (([c0,c1].drop 0).take ((Tryz.prog).cellsOf 25))=some y0:=hg 0 _ rfl;have g1:DataW.trod enc Tryz.prog W 0 (fun _=>true) true m 25 (([c0,c1].drop 1).take ((Tryz.prog).cellsOf 25))=some y1:=hg 1 _ rfl;rw[tycS2] at g0 g1;simp only[List.drop,List.take] at g0 g1
  have hs0:∃a len cap,c0= .slice a len cap:=by
   rcases open_slice tyS g0 with⟨e5,_⟩|⟨a,len,cap,_,_,_,_,e5,_⟩
   simp at e5;exact⟨_,_,_,e5⟩;simp at e5;exact⟨_,_,_,e5⟩
  have hs1:∃a len cap,c1= .slice a len cap:=by
   rcases open_slice tyS g1 with⟨e5,_⟩|⟨a,len,cap,_,_,_,_,e5,_⟩
   simp at e5;exact⟨_,_,_,e5⟩;simp at e5;exact⟨_,_,_,e5⟩
  obtain⟨a,len,cap,rfl⟩:=hs0;obtain⟨a',len',cap',rfl⟩:=hs1;have hT0:DataW.Trod enc Tryz.prog W 0 (fun _=>true) true 25 (.slice a len cap) y0.1 y0.2:=⟨m,by simpa[Value.cells] using g0⟩;have hT1:DataW.Trod enc Tryz.prog W 0 (fun _=>true) true 25 (.slice a' len' cap') y1.1 y1.2:=⟨m,by simpa[Value.cells] using g1⟩;obtain⟨m0,hm0,r0⟩:=iq_ hT0;obtain⟨m1,hm1,r1⟩:=iq_ hT1;have hm:maxLen=9223372036854775807:=by decide
  have k0:m0.length≤9223372036854775807:=by
   obtain⟨_,_,e',hle,hcap,_⟩:=r0;have:(nR m0).length=m0.length:=by simp[nR]
   omega
  have k1:m1.length≤9223372036854775807:=by
   obtain⟨_,_,e',hle,hcap,_⟩:=r1;have:(nR m1).length=m1.length:=by simp[nR]
   omega
  exact⟨(m0,m1),_,_,⟨⟨hm0,hm1⟩,k0,k1⟩,rfl,r0,r1⟩
theorem twP_of{H:Type}{enc:TypeId×Value→H}{W:World}{a:Option Addr}{len cap:Nat}{d:DataW H}{ps:List MemPlace}(h:DataW.Trod enc Tryz.prog W 0 (fun _=>true) true 22 (.slice a len cap) d ps):
    ∃l:List TRow,((∀t∈l,okT2 t)∧l.length≤9223372036854775807)∧RV (fun _=>False) (fun _=>none) W (.arr (twR l)) (.slice a len cap):=by
 obtain⟨fuel,hf⟩:=h;rcases open_slice tySt hf with⟨hcs,_⟩|⟨x,len',cap',m,n,D,Pl,hcs,_,hl,hm,hmm,_,hx⟩
 simp[Value.cells] at hcs;obtain⟨rfl,rfl,rfl⟩:=hcs;exact⟨[],⟨(fun r hr=>by cases hr),by simp⟩,none,0,rfl,Nat.le_refl _,by decide,.inl rfl⟩;simp[Value.cells] at hcs;obtain⟨rfl,rfl,rfl⟩:=hcs;simp only[if_true] at hmm;have hmc:m=cap:=hmm;rw[hmc] at hx;rw[tycTw] at hx
 have hx':∀i,i< len→∃r:TRow×Value×Value,okT2 r.1∧W.cells? 0 (x.add (i* 2)) 2=some [r.2.1,r.2.2]∧RV (fun _=>False) (fun _=>none) W (.arr (nR r.1.1)) r.2.1∧RV (fun _=>False) (fun _=>none) W (.arr (nR r.1.2)) r.2.2:=fun i hi=>by
  obtain⟨cs',g1,g2⟩:=hx i (by omega);obtain⟨t,c0,c1,r1,e,r2,r3⟩:=two_of g2;exact⟨(t,c0,c1),r1,by rw[g1,e],r2,r3⟩
 obtain⟨R,hR⟩:=choose_lt (α:=TRow×Value×Value) hx';have hmx:maxLen=9223372036854775807:=by decide
 refine⟨(List.range len).map fun i=>(R i).1,⟨?_,by simp;omega⟩,some x,cap,by simp[twR],by simpa[twR] using hl,hm,?_⟩;intro r hr;obtain⟨i,hi,rfl⟩:=List.mem_map.1 hr;exact(hR i (List.mem_range.1 hi)).1;by_cases h0:len=0;subst h0;exact .inl rfl;right
 have c:∀i,i< len→∀j (v:Value),[(R i).2.1,(R i).2.2][j]?=some v→W.cell? (x.add (i* 2+j))=some v:=fun i hi j v hv=>by
  have hj:j< 2:=by
   have:=(List.getElem?_eq_some_iff.1 hv).1;simpa using this
  have:=(World.cells?_some (hR i hi).2.1).2.2 j hj;rw[hv,Go.Deep.add_add] at this;exact this
 have c0:=c 0 (by omega) 0 _ rfl;obtain⟨b,off,spot⟩:=x;have hspot:spot=none:=by simpa[Addr.add] using World.cell?_spot c0
 subst hspot
 have hadd:∀k,Addr.add ⟨b,off,none⟩ k=⟨b,off+k,none⟩:=fun k=>by
  unfold Addr.add;by_cases hk:k=0;simp[hk];simp[hk]
 refine⟨b,off,2,rfl,hb_ (by rw[hadd] at c0;exact c0),(fun h=>h),?_⟩;have:=sa_ (M:=fun _=>False) (β:=fun _=>none) (w:=W) (b:=b) (s:=2) (off:=off) (f:=fun i=>twC (R i).1) len 0 (fun i hi=>⟨rfl,?_⟩);rw[Nat.zero_mul,Nat.add_zero,←List.range_eq_range'] at this;rw[twR,List.map_map];exact this;have hi':i< len:=by omega
 obtain⟨_,_,r2,r3⟩:=hR i hi';refine⟨⟨_,?_,r2⟩,⟨_,?_,r3⟩,trivial⟩;have:=c i hi' 0 _ rfl;rw[hadd] at this;exact this;have:=c i hi' 1 _ rfl;rw[hadd] at this;rw[Nat.add_assoc];exact this
end Go.Proofs.YtjkddcfoolilbaaGreatDoor
namespace Go.Proofs.YtjkddcfoolilbaaGreatDoor
open Go.Abs
set_option maxRecDepth 20000
set_option maxHeartbeats 2000000
theorem pE_get{p:List Rat}{i:Nat}{q:Rat}(h:p[i]?=some q):∀e,e=i→(pE p)[e]?=some (qC q):=fun e he=>by
 subst he;simp[pE,h]
def nqS(k:List Rat)(g:Nat)(fst:List AV)(f:Rat→Rat):Nat→AState
 |0=>⟨[(1,.clos g fst []),(8,.arr (pE k)),(9,i64 k.length),(10,i64 0),(5,.emp)],[],1,22⟩
 |i+1=>⟨[(1,.clos g fst []),(8,.arr (pE k)),(9,i64 k.length),(10,i64 ((i+1:Nat):Int)),(5,.lsl 1 0 (i+1) none 3)],[(1,some ⟨46,3,pE ((k.take (i+1)).map f)⟩)],2,22⟩
theorem fs_eachQ(k:List Rat)(g:Nat)(fst:List AV)(f:Rat→Rat)(hfst:∀c∈fst,Closed c)(hl:k.length≤1000)(hg:∀p∈k,FS g ((fst++[AV.agg (qC p)]++[]).map coe) (.agg (qC (f p)))):FS 58 [.arr (pE k),.clos g fst []] (.arr (pE (k.map f))):=by
 have hkl:(pE k).length=k.length:=(by simp[pE]:(pE k).length=k.length);have hcc:Closed (.clos g fst []):=aE_ hfst ac_;refine f_c Tryz.func58 ?_;refine r_z 1 ?_;refine r_z 1 ?_;refine ab_ (r_z 3 ?_);refine av_ (fun _:Unit=>⟨[(5,.arr (pE (k.map f)))],[],1,22⟩) (fun _=>True) ?_ ?_;refine af_ (aq_ (nqS k g fst f) (fun i=>k.length- i) (fun i=>i≤k.length) 0 (Nat.zero_le _) ?_ ?_);rw[nqS.eq_1];refine s_x [] (fun hs=>e_19) (fun hs=>?_)
 ·repeat' (first|exact au_|refine h_c ?_ ?_|exact au_e|refine ar_ ?_|exact am_|refine ae_ ?_ ?_|exact ai_ hs (ap_ k)|exact ai_ hs hcc|exact au_c)
 intro i hi;by_cases hlt:i< k.length;obtain⟨p,hp⟩:∃p,k[i]?=some p:=⟨_,List.getElem?_eq_getElem hlt⟩;have hg1:=hg p (List.mem_of_getElem? hp);have hlen:(k.take (i+1)).length=i+1:=by rw[List.length_take];omega
 have hnew:pE ((k.take i).map f)++[qC (f p)]=pE ((k.take (i+1)).map f):=by rw[br_ hp,List.map_append,List.map_singleton,eg_];rfl
 cases i with
 |zero=>
  have hgt:(pE k)[((0:Int)).toNat]?=some (qC p):=pE_get hp _ rfl;rw[nqS.eq_1];refine s_r 1 ?_;refine o_0 (.bin rfl rfl (vT aT_ (decide_eq_true (by omega)))) ?_;refine ak_ ?_;refine ab_ (cT (ah_ (ab_ (af_ (s_r 4 ?_)))));refine i_x hgt ?_;refine l_x hgt ?_;refine a_z ?_;refine r_m 7 ?_;refine c_s (hg1) ?_;refine a_z ?_;refine r_m 2 ?_;refine a_z ?_;refine⟨0+1,by omega,by omega,?_⟩;rw[nqS.eq_2];rw[←hnew];refine s_x [(1,5)] (fun hs=>e_19) (fun hs=>?_)
  ·repeat' (first|exact au_|refine h_c ?_ ?_|exact aU_ hs (aG_ [f p])|exact au_e|refine ar_ ?_|exact am_|refine ae_ ?_ ?_|exact ai_ hs (ap_ k)|exact ai_ hs hcc|exact au_c)
 |succ i=>
  have hgt:(pE k)[(((i+1:Nat):Int)).toNat]?=some (qC p):=pE_get hp _ (by simp);have hone:=b6_ ((k.take (i+1)).map f);have hlen2:(pE ((k.take (i+1)).map f)).length=i+1:=by simp[pE];omega
  rw[nqS.eq_2];refine s_r 1 ?_;refine o_0 (.bin rfl rfl (vT aT_ (decide_eq_true (by omega)))) ?_;refine ak_ ?_;refine ab_ (cT (ah_ (ab_ (af_ (s_r 4 ?_)))));refine i_x hgt ?_;refine l_x hgt ?_;refine a_z ?_;refine r_m 7 ?_;refine c_s (hg1) ?_;refine a_z ?_;refine r_m 2 ?_;refine a_z ?_;refine⟨i+1+1,by omega,by omega,?_⟩;rw[nqS.eq_2];refine s_x [(1,5)] (fun hs=>e_19) (fun hs=>?_)
  ·repeat' (first|exact au_|refine h_c ?_ ?_|exact ay_ hs hnew (aG_ _)|exact au_e|refine ar_ ?_|exact am_|refine ae_ ?_ ?_|exact ai_ hs (ap_ k)|exact ai_ hs hcc|exact au_c)
 have hge:i=k.length:=by omega
 cases i with
 |zero=>
  have hk0:k=[]:=List.eq_nil_of_length_eq_zero hge.symm;subst hk0;rw[nqS.eq_1];refine s_r 1 ?_;refine o_0 (.bin rfl rfl (vF aT_ (decide_eq_false (by omega)))) ?_;refine ak_ ?_;refine ab_ (cF (ao_ ⟨(),trivial,?_⟩));exact s_e []
 |succ i=>
  have hlen2:(pE (k.map f)).length=i+1:=by simp[pE];omega
  rw[nqS.eq_2,hge,List.take_length];refine s_r 1 ?_;refine o_0 (.bin rfl rfl (vF aT_ (decide_eq_false (by omega)))) ?_;refine ak_ ?_;refine ab_ (cF (ao_ ⟨(),trivial,?_⟩));exact s_x [] (fun hs=>e_41) (fun hs=>e_42)
 rintro _ _;refine r_z 2 ?_;exact ag_ (t_e (ap_ _))
def atS(k:Ke)(x y:Rat)(i:Nat):Rat:=(k.take i).foldl (fun s p=>s+evalP p.1 x* evalP p.2 y) 0
def atK(k:Ke)(x y:Rat):Rat:=atS k x y k.length
theorem atS_0(k:Ke)(x y:Rat):atS k x y 0=0:=rfl
theorem atS_s{k:Ke}{x y:Rat}{i:Nat}{p:List Rat×List Rat}(h:k[i]?=some p):atS k x y (i+1)=atS k x y i+evalP p.1 x* evalP p.2 y:=by
 unfold atS;rw[br_ h,List.foldl_append];rfl
structure OkAt (k:Ke)(x y:Rat):Prop where
 ke:okKe k
 e:∀p∈k,cO_ p.1 x∧cO_ p.2 y∧qs (evalP p.1 x)+qs (evalP p.2 y)≤549755813888
 a:∀i p,k[i]?=some p→qs (atS k x y i)+qs (evalP p.1 x* evalP p.2 y)≤549755813888
def atR(k:Ke)(x y:Rat):Nat→AState
 |i=>⟨[(4,bQ x),(5,bQ y),(6,.lptr 1 0 0),(9,.lptr 2 0 0),(18,.arr (kE k)),(19,i64 k.length),(20,i64 i)],[(2,some ⟨46,3,[qC (atS k x y i)]⟩),(1,some ⟨46,3,[qC 0]⟩)],3,37⟩
theorem fs_KAt(k:Ke)(x y:Rat)(h:OkAt k x y):FS 56 [.arr (kE k),.agg (qC x),.agg (qC y)] (.tup [.agg (qC (atK k x y)),i64 0]):=by
 have hkl:(kE k).length=k.length:=bX_ k;have h8:=h.ke.1;have hck:=jO_ k h.ke;refine f_n Tryz.func56 ?_ ?_;exact aa_ (aA_ k) (aa_ (aC_ x) (aa_ (aC_ y) ac_));refine r_z 4 ?_;refine ab_ (r_c 3 (hck) ?_);refine a_z ?_;refine s_r 2 ?_;refine a_1 ?_;refine o_0 (.bin rfl rfl (vF bu_ (rfl))) ?_;refine ak_ ?_;refine cF (ah_ (r_z 1 ?_));refine ab_ (r_z 3 ?_);refine av_ (fun _:Unit=>⟨[(6,.lptr 1 0 0),(9,.lptr 2 0 0)],[(2,some ⟨46,3,[qC (atK k x y)]⟩),(1,some ⟨46,3,[qC 0]⟩)],3,37⟩) (fun _=>True) ?_ ?_;refine af_ (aq_ (atR k x y) (fun i=>k.length- i) (fun i=>i≤k.length) 0 (Nat.zero_le _) ?_ ?_);rw[atR.eq_1,atS_0,qC0];refine s_x [(1,6),(2,9)] (fun hs=>?_) (fun hs=>?_)
 ·repeat' (first|exact aD_|refine an_ rfl ?_ ?_|exact ai_ hs (aA_ k)|exact Cv.boxp hs rfl (aB_ rfl) rfl (aN_ _)|exact au_c)
 ·repeat' (first|exact au_|refine h_c ?_ ?_|exact aU_ hs (aG_ [0])|exact au_e|refine ar_ ?_|exact am_|refine ae_ ?_ ?_|exact ai_ hs (aA_ k)|exact Cv.boxp hs rfl (aB_ rfl) rfl (aN_ _)|exact au_c)
 intro i hi;rw[atR.eq_1];by_cases hlt:i< k.length;obtain⟨p,hp⟩:∃p,k[i]?=some p:=⟨_,List.getElem?_eq_getElem hlt⟩;have hgt:(kE k)[((i:Nat):Int).toNat]?=some (prC p):=fF_ hp _ (by simp);have hm:=List.mem_of_getElem? hp;have h1:=dU_ p.1 x (h.e p hm).1;have h2:=dU_ p.2 y (h.e p hm).2.1;have h3:=bE_ _ _ (h.e p hm).2.2;have h4:=c6_ _ _ (h.a i p hp);refine s_r 1 ?_;refine o_0 (.bin rfl rfl (vT aT_ (decide_eq_true (by omega)))) ?_;refine ak_ ?_;refine ab_ (cT (ah_ (ab_ (af_ (s_r 4 ?_)))));refine i_x hgt ?_;refine l_x hgt ?_;refine a_z ?_;refine r_d hmix 12 ?_;refine c_s (h1) ?_;refine c_s (h2) ?_;refine c_s (h3) ?_;refine c_s (h4) ?_;refine a_1 ?_;refine ak_ (n_k ?_);refine r_m 2 ?_;refine a_z ?_;refine⟨i+1,by omega,by omega,?_⟩;rw[atR.eq_1,atS_s hp];refine s_x [(1,6),(2,9)] (fun hs=>?_) (fun hs=>?_)
 ·repeat' (first|exact aD_|refine an_ rfl ?_ ?_|exact ai_ hs (aA_ k)|exact ai_ hs (bf_ _)|exact au_c)
 ·repeat' (first|exact au_|refine h_c ?_ ?_|exact aU_ hs (aG_ [_])|exact au_e|refine ar_ ?_|exact am_|refine ae_ ?_ ?_|exact ai_ hs (aA_ k)|exact ai_ hs (bf_ _)|exact au_c)
 have hge:i=k.length:=by omega
 refine s_r 1 ?_;refine o_0 (.bin rfl rfl (vF aT_ (decide_eq_false (by omega)))) ?_;refine ak_ ?_;refine ab_ (cF (ao_ ⟨(),trivial,?_⟩));rw[hge];exact s_f [(1,6),(2,9)];rintro _ _;refine r_z 3 ?_;refine ag_ (Fin.many ⟨_,_,rfl,⟨_,_,_,_,_,rfl,rfl,rfl,.inl ⟨TG.h,_,TS.h,nle rfl,rfl⟩⟩,⟨_,_,rfl,rfl,rfl⟩⟩ (nle rfl) ?_);exact ae_ (ai_ as_ (aC_ _)) (ae_ (ai_ as_ (ad_ _)) am_)
def noA(k:Ke)(x v:List Rat)(i j:Nat):Rat:=atK k (coP x i) (coP x j) * coP v j
theorem na_(k:Ke)(l:Rat)(g x v:List Rat)(i j:Nat)(hi:i< x.length)(hj:j< x.length)(hv:v.length=x.length)(hxl:x.length≤1000)(h:OkAt k (coP x i) (coP x j))(hm:qs (atK k (coP x i) (coP x j))+qs (coP v j)≤549755813888):
    FS 55 ((i64 i::i64 j::[bTk k l g 0 0,bP x,bP v]).map coe) (.agg (qC (noA k x v i j))):=by
 have hA:=fs_KAt k _ _ h;have hM:=bE_ _ _ hm;have hxl2:(pE x).length=x.length:=by simp[pE]
 have hvl2:(pE v).length=v.length:=by simp[pE]
 have g1:(pE x)[((i:Nat):Int).toNat]?=some (qC (coP x i)):=by
  have:=bo_ (p:=x) (i:=i) hi;simp[pE,this]
 have g2:(pE x)[((j:Nat):Int).toNat]?=some (qC (coP x j)):=by
  have:=bo_ (p:=x) (i:=j) hj;simp[pE,this]
 have g3:(pE v)[((j:Nat):Int).toNat]?=some (qC (coP v j)):=by
  have:=bo_ (p:=v) (i:=j) (by omega);simp[pE,this]
 refine f_n Tryz.func55 ?_ ?_;exact aa_ (ad_ _) (aa_ (ad_ _) (aa_ (a5_ k l g 0 0) (aa_ (a2_ x) (aa_ (a2_ v) ac_))));refine r_z 1 ?_;refine ab_ (r_d hmix 18 ?_);refine a_5 ?_;refine i_x g1 ?_;refine l_x g1 ?_;refine a_2 ?_;refine i_x g2 ?_;refine l_x g2 ?_;refine c_s (hA) ?_;refine a_6 ?_;refine ak_ (n_k ?_);refine ab_ (r_d hmix 7 ?_);refine a_3 ?_;refine i_x g3 ?_;refine l_x g3 ?_;refine c_s (hM) ?_;refine a_1 ?_;refine ak_ (n_k ?_);exact ag_ (c_e (aC_ _))
theorem nv_{A:Nat→Nat→Rat}{l:Rat}{r:List Rat}{n s:Nat}(hq:∀i j,i< n→j< n→qs (A i j)+qs l+2≤s)(hr:∀i,i< n→qs (coP r i)≤s):bdM (svM A l (fun t=>coP r t) n) n s:=fun i j hi hj=>by
 unfold svM;by_cases e1:j=n;rw[if_pos e1];exact hr i hi;rw[if_neg e1];have h1:=hq i j hi (by omega);have h2:=bH_ (A i j) l;split;have h3:=fD_ (-(A i j* l)) 1;rw[dA_] at h3;have h4:qs 1≤1:=by decide
 omega;rw[dA_];omega
theorem o8_(A:Nat→Nat→Rat)(l:Rat)(r:List Rat)(n s:Nat)(hn:n≤25)(hrl:r.length=n)(hq:∀i j,i< n→j< n→qs (A i j)+qs l+2≤s)(hr:∀i,i< n→qs (coP r i)≤s)(hs:slB s n≤100000000000):
    XSpec Tryz.prog 57 [.lsl 1 0 n (some n) 1,.agg (qC l),.arr (pE r)] (mzH 3 32 46 (mzO 3 (fun _=>n) (fun x=>x) n) (fiL A n n)) 40 (syV n (slM (svM A l (fun t=>coP r t) n) n n)) [] 1:=by
 have hle:s≤100000000000:=Nat.le_trans (hK_ (s:=s) (Nat.zero_le n)) hs;have hbd:=nv_ hq hr;refine lk_ A l r n (slB s n) hn hrl hs (fun i j hi hj=>by have:=hq i j hi hj;omega) (fun i hi=>?_) fun c hc i j hi hj=>Nat.le_trans (o0_ hbd c hc i j hi hj) (hK_ hc);have h1:=hq i i hi hi;have h2:=bH_ (A i i) l;rw[dA_];omega
theorem tk00(k:Ke)(l:Rat)(g:List Rat):eqC k l g++[.arr [],bln false,.arr [],.arr [],bln false,.arr []]=tkC k l g 0 0:=by unfold tkC;rw[spC00]
theorem mzH_zero{sz TS TQ:Nat}{o:List (List AV)}{L:List (List (List AV))}:(lookB (mzH sz TS TQ o L) 0).isSome=false:=by
 cases h:lookB (mzH sz TS TQ o L) 0 with
 |none=>rfl
 |some B=>
  rcases List.mem_cons.1 (c1_ h) with h|h
  cases h;obtain⟨k,e,_,k2,_⟩:=iB_ L 2 0 B h;omega
theorem CvL.app{r:Ren}{hp hp':Nat→Option ABlk}:∀{xs ys xs' ys':List AV},CvL r hp hp' xs ys→CvL r hp hp' xs' ys'→CvL r hp hp' (xs++xs') (ys++ys')
 |[],_,_,_,h,h'=>by cases h;exact h'
 |_::_,_,_,_,⟨_,_,e,h1,h2⟩,h'=>by subst e;exact ae_ h1 (CvL.app h2 h')
theorem cv_tk0{r:Ren}{hp hp':Nat→Option ABlk}(h:Shr r hp hp')(k:Ke)(l:Rat)(g:List Rat):CvL r hp hp' (eqC k l g++[.emp,bln false,.emp,.emp,bln false,.emp]) (eqC k l g++[.arr [],bln false,.arr [],.arr [],bln false,.arr []]):=
 CvL.app (CvL.clo h (bv_ k l g)) (ae_ (Cv.emp _) (ae_ (ai_ h (ad_ _)) (ae_ (Cv.emp _) (ae_ (Cv.emp _) (ae_ (ai_ h (ad_ _)) (ae_ (Cv.emp _) am_))))))
structure OkNo (k:Ke)(l:Rat)(g x v:List Rat)(s:Nat):Prop where
 ke:okKe k
 dg:degP g≤20
 gl:g.length≤1099511627776
 xl:x.length≤25
 vl:v.length=x.length
 a:∀i j,i< x.length→j< x.length→OkAt k (coP x i) (coP x j)∧qs (atK k (coP x i) (coP x j))+qs (coP v j)≤549755813888
 e:∀q∈x,cO_ g q
 q:∀i j,i< x.length→j< x.length→qs (noA k x v i j)+qs l+2≤s
 r:∀i,i< x.length→qs (evalP g (coP x i))≤s
 s:slB s x.length≤100000000000
def noM(k:Ke)(l:Rat)(g x v:List Rat):Mx×List Nat:=slM (svM (noA k x v) l (fun t=>coP (x.map (evalP g)) t) x.length) x.length x.length
theorem m9_(k:Ke)(l:Rat)(g x v:List Rat)(h:vaB k=false∨20< degP g)(hl:k.length≤1000)(h2:∀p∈k,p.1.length≤1099511627776∧p.2.length≤1099511627776)(hgl:g.length≤1099511627776):
    FS 16 [.agg (eqC k l g),.arr (pE x),.arr (pE v)] (.tup [.arr (pE []),i64 2]):=by
 have hw:=ky_ k l g 0 0 h hl h2 (by decide) (by decide) Rat.le_refl hgl;rw[spC00] at hw;refine f_n Tryz.func16 ?_ ?_;exact aa_ (aw_ (bv_ k l g)) (aa_ (ap_ x) (aa_ (ap_ v) ac_));refine r_z 5 ?_;refine r_z 5 ?_;refine ab_ (r_c 14 (hw) ?_);refine a_z ?_;refine cT (r_z 2 ?_);refine ag_ (Fin.many ⟨_,_,rfl,rfl,⟨_,_,rfl,rfl,rfl⟩⟩ (nle rfl) ?_);exact ae_ (Cv.emp _) (ae_ (ai_ as_ (ad_ _)) am_)
theorem m8_(k:Ke)(l:Rat)(g x v:List Rat)(h:okKe k)(hg:degP g≤20)(hgl:g.length≤1099511627776)(hxl:x.length≤1000)(hvl:v.length≤1000)(hn:x.length≠v.length∨25< x.length):
    FS 16 [.agg (eqC k l g),.arr (pE x),.arr (pE v)] (.tup [.arr (pE []),i64 2]):=by
 have hw:=gU_ k l g h hg hgl;have hx1:(pE x).length=x.length:=by simp[pE]
 have hv1:(pE v).length=v.length:=by simp[pE]
 refine f_n Tryz.func16 ?_ ?_;exact aa_ (aw_ (bv_ k l g)) (aa_ (ap_ x) (aa_ (ap_ v) ac_));refine r_z 5 ?_;refine r_z 5 ?_;by_cases e:x.length=v.length
 ·refine ab_ (r_c 14 (hw) ?_)
  refine a_1 ?_;refine al_ rfl rfl rfl (.load_l1 rfl rfl rfl TG.h rfl) rfl rfl ?_;refine al_ rfl rfl rfl (.lenP rfl rfl rfl rfl te_32.h) rfl rfl ?_;refine al_ rfl rfl rfl (.load_l1 rfl rfl rfl TG.h rfl) rfl rfl ?_;refine al_ rfl rfl rfl (.lenP rfl rfl rfl rfl te_32.h) rfl rfl ?_;refine al_ rfl rfl rfl (.bin rfl rfl (vF bu_ ((by simp[e])))) rfl rfl ?_;refine a_2 ?_;refine al_ rfl rfl rfl (.load_l1 rfl rfl rfl TG.h rfl) rfl rfl ?_;refine al_ rfl rfl rfl (.lenP rfl rfl rfl rfl te_32.h) rfl rfl ?_;refine al_ rfl rfl rfl (.bin rfl rfl (vT a3_ (decide_eq_true (by omega)))) rfl rfl ?_;refine a_z ?_;refine cT (r_z 2 ?_);refine ag_ (Fin.many ⟨_,_,rfl,rfl,⟨_,_,rfl,rfl,rfl⟩⟩ (nle rfl) ?_);exact ae_ (Cv.emp _) (ae_ (ai_ as_ (ad_ _)) am_)
 ·refine ab_ (r_c 14 (hw) ?_)
  refine a_1 ?_;refine al_ rfl rfl rfl (.load_l1 rfl rfl rfl TG.h rfl) rfl rfl ?_;refine al_ rfl rfl rfl (.lenP rfl rfl rfl rfl te_32.h) rfl rfl ?_;refine al_ rfl rfl rfl (.load_l1 rfl rfl rfl TG.h rfl) rfl rfl ?_;refine al_ rfl rfl rfl (.lenP rfl rfl rfl rfl te_32.h) rfl rfl ?_;refine al_ rfl rfl rfl (.bin rfl rfl (vT bu_ ((by simp;omega)))) rfl rfl ?_;refine a_z ?_;refine cT (r_z 2 ?_);refine ag_ (Fin.many ⟨_,_,rfl,rfl,⟨_,_,rfl,rfl,rfl⟩⟩ (nle rfl) ?_);exact ae_ (Cv.emp _) (ae_ (ai_ as_ (ad_ _)) am_)
theorem pF_(k:Ke)(l:Rat)(g x v:List Rat)(s:Nat)(h:OkNo k l g x v s):
    FS 16 [.agg (eqC k l g),.arr (pE x),.arr (pE v)] (if (noM k l g x v).2.length< x.length then .tup [.arr (pE []),i64 14] else .tup [.arr (pE (oneL (noM k l g x v).1 x.length (noM k l g x v).2)),i64 0]):=by
 have hw:=gU_ k l g h.ke h.dg h.gl;have hx1:(pE x).length=x.length:=by simp[pE]
 have hv1:(pE v).length=v.length:=by simp[pE]
 have hxl:=h.xl;have hvl:=h.vl;have hF:=(ll_ (noA k x v) x.length 55 [bTk k l g 0 0,bP x,bP v] hxl (aa_ (a5_ k l g 0 0) (aa_ (a2_ x) (aa_ (a2_ v) ac_))) fun i j hi hj=>na_ k l g x v i j hi hj hvl (by omega) (h.a i j hi hj).1 (h.a i j hi hj).2).x;have hE:=fs_eachQ x 59 [.arr (pE g)] (evalP g) (aa_ (ap_ g) ac_) (by omega) fun q hq=>dU_ g q (h.e q hq)
 have hS:=o8_ (noA k x v) l (x.map (evalP g)) x.length s hxl (by simp) h.q (fun i hi=>by
  have e:coP (x.map (evalP g)) i=evalP g (coP x i):=by
   unfold coP;rw[List.getD_eq_getElem?_getD,List.getD_eq_getElem?_getD];simp[hi]
  rw[e];exact h.r i hi) h.s
 have hO:=kF_ (noM k l g x v).1 x.length (noM k l g x v).2 (da_ _ _ _) hxl;change XSpec _ _ _ _ _ (syV x.length (noM k l g x v)) _ _ at hS;have hcl:Closed (syV x.length (noM k l g x v)):=de_ _ _ _;have hLn:(lvE (noM k l g x v).2).length=(noM k l g x v).2.length:=ei_ _;have hL25:(noM k l g x v).2.length≤x.length:=(da_ _ _ _).len2;have hc8:∀c∈eqC k l g++[.arr [],bln false,.arr [],.arr [],bln false,.arr []],Closed c:=by rw[tk00];exact b8_ k l g 0 0
 refine f_n Tryz.func16 ?_ ?_;exact aa_ (aw_ (bv_ k l g)) (aa_ (ap_ x) (aa_ (ap_ v) ac_));refine r_z 5 ?_;refine r_z 5 ?_;refine ab_ (r_c 14 (hw) ?_);refine a_1 ?_;refine al_ rfl rfl rfl (.load_l1 rfl rfl rfl TG.h rfl) rfl rfl ?_;refine al_ rfl rfl rfl (.lenP rfl rfl rfl rfl te_32.h) rfl rfl ?_;refine al_ rfl rfl rfl (.load_l1 rfl rfl rfl TG.h rfl) rfl rfl ?_;refine al_ rfl rfl rfl (.lenP rfl rfl rfl rfl te_32.h) rfl rfl ?_;refine al_ rfl rfl rfl (.bin rfl rfl (vF bu_ ((by simp[hvl])))) rfl rfl ?_;refine a_2 ?_;refine al_ rfl rfl rfl (.load_l1 rfl rfl rfl TG.h rfl) rfl rfl ?_;refine al_ rfl rfl rfl (.lenP rfl rfl rfl rfl te_32.h) rfl rfl ?_;refine al_ rfl rfl rfl (.bin rfl rfl (vF a3_ (decide_eq_false (by omega)))) rfl rfl ?_;refine a_z ?_;refine cF (ah_ (r_z 3 ?_));refine AWp.ent (st':=⟨[(4,bP x),(5,bP v),(8,.aptr [eqC k l g++[.arr [],bln false,.arr [],.arr [],bln false,.arr []]] 0 0),(9,i64 x.length)],[],1,52⟩) ?_ ?_;refine s_x [] (fun hs=>?_) (fun hs=>?_)
 ·repeat' (first|exact aD_|refine an_ rfl ?_ ?_|exact Cv.boxp hs rfl (aB_ rfl) rfl (aa_ (ap_ x) ac_)|exact Cv.boxp hs rfl (aB_ rfl) rfl (aa_ (ap_ v) ac_)|exact Cv.sealp hs rfl (aB_ rfl) Nat.zero_lt_one (CvLL.cons (cv_tk0 hs k l g) CvLL.nil)|(refine Cv.loE hs ?_ (ad_ _);simp[i64,hx1];done)|exact au_c)
 ·repeat' (first|exact au_|refine h_c ?_ ?_|exact au_e|refine ar_ ?_|exact am_|refine ae_ ?_ ?_|exact Cv.boxp hs rfl (aB_ rfl) rfl (aa_ (ap_ x) ac_)|exact Cv.boxp hs rfl (aB_ rfl) rfl (aa_ (ap_ v) ac_)|exact Cv.sealp hs rfl (aB_ rfl) Nat.zero_lt_one (CvLL.cons (cv_tk0 hs k l g) CvLL.nil)|(refine Cv.loE hs ?_ (ad_ _);simp[i64,hx1];done)|exact au_c)
 rw[show AV.aptr [eqC k l g++[.arr [],bln false,.arr [],.arr [],bln false,.arr []]] 0 0=bTk k l g 0 0 by rw[tk00];rfl];generalize noM k l g x v=m at *
 have hcf:∀t z,_root_.Go.Abs.look ([(4,bP x),(8,bTk k l g 0 0),(9,i64 x.length)]:Fr) t=some z→Closed z:=fun t z hz=>by
  rw[aZ_] at hz;unfold upd at hz;split at hz;cases hz;exact a2_ x;rw[aZ_] at hz;unfold upd at hz;split at hz;cases hz;exact a5_ k l g 0 0;rw[aZ_] at hz;unfold upd at hz;split at hz;cases hz;exact ad_ _;cases hz
 have hlo:∀t z,_root_.Go.Abs.look ([(4,bP x),(8,bTk k l g 0 0),(9,i64 x.length)]:Fr) t=some z→t< 1000:=fun t z hz=>by
  rw[aZ_] at hz;unfold upd at hz;split at hz;omega;rw[aZ_] at hz;unfold upd at hz;split at hz;omega;rw[aZ_] at hz;unfold upd at hz;split at hz;omega;cases hz
 refine ab_ (AWp.regX (fr2:=[(4,bP x),(8,bTk k l g 0 0),(9,i64 x.length),(31,i64 x.length),(32,.clos 55 [] [bTk k l g 0 0,bP x,bP v])]) (hp2:=[]) (nx2:=1) (fr3:=[(4,bP x),(8,bTk k l g 0 0),(9,i64 x.length)]) 2 rfl rfl rfl rfl rfl rfl ?_ rfl rfl rfl hF ?_ ?_ ?_);refine o_0 (.move rfl) ?_;refine o_0 (.makeFunc rfl rfl) ?_;refine ak_ ?_;refine s_y [] (fun hs=>?_) (fun hs=>?_)
 ·repeat' (first|exact aD_|refine an_ rfl ?_ ?_|exact ai_ hs (a5_ k l g 0 0)|exact ai_ hs (a2_ x)|exact ai_ hs (aE_ ac_ (aa_ (a5_ k l g 0 0) (aa_ (a2_ x) (aa_ (a2_ v) ac_))))|exact au_c)
 ·repeat' (first|exact au_|refine h_c ?_ ?_|exact au_e|refine ar_ ?_|exact am_|refine ae_ ?_ ?_|exact ai_ hs (a5_ k l g 0 0)|exact ai_ hs (a2_ x)|exact ai_ hs (aE_ ac_ (aa_ (a5_ k l g 0 0) (aa_ (a2_ x) (aa_ (a2_ v) ac_))))|exact au_c)
 intro t z hz;have hz':=hz;rw[aZ_] at hz;unfold upd at hz;split at hz
 ·rename_i e;subst e;cases hz;exact⟨rfl,a2_ x⟩
 rw[aZ_] at hz;unfold upd at hz;split at hz
 ·rename_i e;subst e;cases hz;exact⟨rfl,a5_ k l g 0 0⟩
 rw[aZ_] at hz;unfold upd at hz;split at hz
 ·rename_i e;subst e;cases hz;exact⟨rfl,ad_ _⟩
 cases hz;exact fun t z hz=>(hlo t z hz);refine o_0 (.assign rfl) ?_;refine ak_ ?_;refine ab_ (AWp.regB (fr:=[(4,bP x),(8,bTk k l g 0 0),(9,i64 x.length)]) (v:= .lsl 1 0 x.length (some x.length) 1) 10 10 hmix ?_ (hcf) (mzH_zero) (hS) (hcl) rfl rfl rfl rfl ?_);refine SEntT.mz (fun x=>x) _ _ _ (by simp;omega) rfl (fun i j _ _ _ _ e=>e) rfl rfl ?_ ?_ ?_;intro k' e hk;obtain⟨h1,rfl⟩:=hj_ hk;exact⟨bB_ (cM_ h1),aG_ _⟩;exact fun hs=>gF_ (by omega) fun k' hk=>by rw[bB_ (cM_ hk)];rfl
 exact fun hs=>an_ rfl (Cv.sl rfl rfl rfl) (an_ rfl (ai_ hs (a2_ x)) (an_ rfl (ai_ hs (a5_ k l g 0 0)) (an_ rfl (ai_ hs (ad_ _)) aD_)));intro y0;refine AY.op0 (.move rfl) rfl rfl ?_;refine AY.op0 (.fieldAddr_a rfl TF.h (by decide)) rfl rfl ?_;refine AY.op0 (.fieldAddr_a rfl TF.h (by decide)) rfl rfl ?_;refine AY.op0 (.load_a rfl rfl TG.h TS.h (nle rfl)) rfl rfl ?_;refine AY.op0 (.load_a1 rfl rfl TG.h rfl) rfl rfl ?_;refine AY.op0 (.fieldAddr_a rfl TF.h (by decide)) rfl rfl ?_;refine AY.op0 (.fieldAddr_a rfl TF.h (by decide)) rfl rfl ?_;refine AY.op0 (.load_a1 rfl rfl TG.h rfl) rfl rfl ?_;refine AY.op0 (.makeFunc rfl rfl) rfl rfl ?_;refine AY.op0 (.call rfl rfl rfl (hE)) rfl rfl ?_;refine AY.sp rfl rfl (kB.b rfl (ArgsV.own rfl (ArgsV.clo rfl (aw_ (aN_ l)) (ArgsV.clo rfl (ap_ _) ArgsV.nil))) rfl) ?_;refine AY.op1 (.alloc TZ.h) rfl rfl ?_;refine AY.on1 (.store rfl rfl rfl rfl rfl rfl TS.h (nle rfl)) rfl ?_;refine AY.nil ⟨by kernel_rfl,?_⟩;by_cases hlt:m.2.length< x.length;rw[if_pos hlt];refine ab_ (s_r 5 ?_);refine a_4 ?_;refine o_0 (.bin rfl rfl (vT aT_ (decide_eq_true (by omega)))) ?_;refine ak_ ?_;refine cT (r_z 2 ?_);refine ag_ (Fin.many ⟨_,_,rfl,rfl,⟨_,_,rfl,rfl,rfl⟩⟩ (nle rfl) ?_);exact ae_ (Cv.emp _) (ae_ (ai_ as_ (ad_ _)) am_);rw[if_neg hlt];refine ab_ (s_r 5 ?_);refine a_4 ?_;refine o_0 (.bin rfl rfl (vF aT_ (decide_eq_false (by omega)))) ?_;refine ak_ ?_;refine cF (ah_ (r_c 4 (hO) ?_));refine a_z ?_;refine ag_ (Fin.many ⟨_,_,rfl,rfl,⟨_,_,rfl,rfl,rfl⟩⟩ (nle rfl) ?_)
 exact ae_ (ai_ as_ (ap_ _)) (ae_ (ai_ as_ (ad_ _)) am_)




def cR(l:List (List Rat)):List (List AV):=l.map fun p=>[.arr (rE (rP p))]
@[simp] theorem cR_length (l:List (List Rat)):(cR l).length=l.length:=by simp[cR]




end Go.Proofs.YtjkddcfoolilbaaGreatDoor
