/- Part V32 of the proof. -/
import Derived.Test.YtkbjakfniejkcaaGreatDoorV31
import Derived.ChangeSame
import Derived.ProofKit
import Derived.OpenShut
import Derived.Carry
import Derived.Deep.Slices
import Derived.Deep.Strs
import Derived.ChangeArms
set_option linter.all false
namespace Go.Proofs.YtkbjakfniejkcaaGreatDoor
open Go.Abs
set_option maxRecDepth 100000
set_option maxHeartbeats 4000000
def itE(l:List Int):Lq->Nat->AState
 |[],i=>⟨[(0,.arr (zE l)),(3,.emp),(4,i64 i)],[],1,20⟩
 |q::Q,i=>⟨[(0,.arr (zE l)),(3,.lsl 1 0 (Q.length+1) none 3),(4,i64 i)],[(1,some ⟨36,3,pE (q::Q)⟩)],2,20⟩
theorem qz(l:List Int)(i:Nat):itE l [] i=⟨[(0,.arr (zE l)),(3,.emp),(4,i64 i)],[],1,20⟩:=rfl
theorem lx(l:List Int)(q:Rat)(Q:Lq)(i:Nat):itE l (q::Q) i=⟨[(0,.arr (zE l)),(3,.lsl 1 0 (Q.length+1) none 3),(4,i64 i)],[(1,some ⟨36,3,pE (q::Q)⟩)],2,20⟩:=rfl
theorem xD(l:List Int)(hl:l.length<=1099511627776)(hb:∀n∈l,-9223372036854775808<=n/\n<=9223372036854775807):FS 24 [.arr (zE l)] (.arr (pE (zR l))):=by
 refine f_n Tryz.func24 ?_ ?_;exact ac (aG (iU l)) af;refine r_z 1 ?_;refine r_z 1 ?_;refine ae (r_z 1 ?_);refine aF (fun _:Unit=>itE l (zR l) l.length) (fun _=>True) ?_ ?_;refine aj (aC (fun i:Nat=>itE l (zR (l.take i)) i) (fun i=>l.length- i) (fun i=>i<=l.length) 0 (Nat.zero_le _) ?_ ?_);show SEnt _ (itE l [] 0);rw[qz];have:=(aG (iU l));exact s_f [];rintro i k;have j:(zE l).length=l.length:=by simp[zE]
 by_cases hlt:i< l.length
 ·obtain⟨n,g⟩:∃n,l[i]?=some n:=⟨_,List.getElem?_eq_getElem hlt⟩
  have a:(zE l)[((i:Nat):Int).toNat]?=some [i64 n]:=by
   show(zE l)[i]?=_;simp[zE,g]
  have c:=hb n (List.mem_of_getElem? g);have d:zR (l.take (i+1))=zR (l.take i)++[(n:Rat)]:=by rw[cJ g];simp[zR]
  have b:(zR (l.take i)).length=i:=by simp[zR];omega
  cases hQ:zR (l.take i) with
  |nil=>
   simp only[qz];refine ae (r_z 4 ?_);refine au rfl (fun h=>?_) (fun h=>?_);rotate_left;exact absurd h (by simp[zE];omega);refine am (ae (aj (r_m 9 ?_)));refine a_3 ?_;refine i_x a ?_;refine l_1 a ?_;refine c_s (dU n c) ?_;refine a_z ?_;refine r_m 3 ?_;refine a_z ?_;refine⟨i+1,by omega,hlt,?_⟩;simp only[d,hQ,List.nil_append,lx];have:=(aG (iU l));have:=(aJ [(n:Rat)]);exact s_f [(1,3)]
  |cons q Q=>
   rw[hQ] at b;simp at b;simp only[lx];refine ae (r_z 4 ?_);refine au rfl (fun h=>?_) (fun h=>?_);rotate_left;exact absurd h (by simp[zE];omega);refine am (ae (aj (r_m 9 ?_)));refine a_3 ?_;refine i_x a ?_;refine l_1 a ?_;refine c_s (dU n c) ?_;refine a_z ?_;refine r_m 3 ?_;refine a_z ?_;refine⟨i+1,by omega,hlt,?_⟩;simp only[d,hQ,List.cons_append,lx];have e:pE (q::Q)++[qC (n:Rat)]=pE (q::(Q++[(n:Rat)])):=by simp[pE]
   refine s_x [(1,3)] (fun hs=>?_) (fun hs=>?_) e_9
   ·repeat' (first|exact aP|refine ay rfl ?_ ?_|exact an hs (aG (iU l))|exact aX)
   ·repeat' (first|exact aE|refine h_c ?_ ?_|exact aI hs e (aJ _)|exact bZ|refine aD ?_|exact av|refine ah ?_ ?_|exact an hs (aG (iU l))|exact aX)
 have f:i=l.length:=by omega
 subst f;simp only[List.take_length];cases hQ:zR l with
 |nil=>
  simp only[qz];refine ae (r_z 4 ?_);refine au rfl (fun h=>?_) (fun h=>?_);exact absurd h (by simp[zE]);refine ax ⟨(),trivial,?_⟩;simp only[hQ,qz];have:=(aG (iU l));exact s_f []
 |cons q Q=>
  simp only[lx];refine ae (r_z 4 ?_);refine au rfl (fun h=>?_) (fun h=>?_);exact absurd h (by simp[zE]);refine ax ⟨(),trivial,?_⟩;simp only[hQ,lx];have:=(aG (iU l));exact s_f []
 rintro _ _;cases hQ:zR l with
 |nil=>
  simp only[qz];refine r_z 2 ?_;exact ai (Fin.tmpN rfl)
 |cons q Q=>
  simp only[lx];refine r_z 2 ?_;exact ai (Fin.tmpS rfl rfl rfl (by simp) (aJ _))
abbrev x1W:Lq:=zR [0,1]
abbrev p1W:Lq×Lq:=(x1W,x1W)
abbrev o1W:Lq:=zR [1]
abbrev p2W:Lq×Lq:=(o1W,o1W)
abbrev q3I:Rat:=((3:Int):Rat)
abbrev tnW:Rat:=((1:Int):Rat) / ((10:Int):Rat)
theorem wk_ma:OkMa [p1W] 0 q1I:=⟨by decide,fun p hp q a=>by
 rw[List.mem_singleton.1 hp,List.mem_singleton.1 a];exact⟨by decide+kernel,⟨by decide+kernel,by decide+kernel,by decide+kernel,by decide+kernel,by decide+kernel⟩⟩⟩
theorem wk_sy(l:Rat)(hl:qs l<=2):OkSy [p1W] l 0 q1I 100:=⟨wk_ma,fun i j b a=>by
 obtain rfl:i=0:=by simpa using b
 obtain rfl:j=0:=by simpa using a
 have:qs (maK [p1W] 0 q1I 0 0)<=10:=by decide+kernel
 omega,by decide⟩
theorem Ez(l:Rat)(hl:qs l<=2):OkTa [p1W] l x1W 0 q1I 100:=⟨xe (by decide) (fun p hp=>by rw[List.mem_singleton.1 hp];decide),by decide+kernel,by decide+kernel,by decide+kernel,by decide+kernel,by decide,wk_sy l hl,fun p hp=>by
 rw[List.mem_singleton.1 hp];exact⟨by decide+kernel,⟨by decide+kernel,by decide+kernel,by decide+kernel,by decide+kernel,by decide+kernel⟩,by decide+kernel⟩⟩
theorem wk_su:OkSu [p1W] q1I x1W 0 q1I:=⟨fun i p hp=>by
 have a:=(List.getElem?_eq_some_iff.1 hp).1;obtain rfl:i=0:=by simpa using a
 cases hp;exact⟨by decide+kernel,by decide+kernel,by decide+kernel,by decide+kernel,by decide+kernel,by decide+kernel,by decide+kernel⟩,by decide+kernel,by decide+kernel,by decide+kernel,by decide+kernel,by decide+kernel,by decide+kernel⟩
theorem wk_1:(syM [p1W] q1I (rhK [p1W] x1W 0 q1I) 0 q1I).2=[0]/\ji 1 (syM [p1W] q1I (rhK [p1W] x1W 0 q1I) 0 q1I).1 (syM [p1W] q1I (rhK [p1W] x1W 0 q1I) 0 q1I).2=false:=by decide+kernel
theorem wk_3:ji 1 (syM [p1W] q3I (rhK [p1W] x1W 0 q1I) 0 q1I).1 (syM [p1W] q3I (rhK [p1W] x1W 0 q1I) 0 q1I).2=true:=by decide+kernel
theorem wk_r:yL 40 40 x1W (0,q1I) 0=some (0,1)/\yL 40 40 (syU [p1W] q1I x1W 0 q1I) (0,q1I) 0=some (0,2)/\Ep (0,1)=1/\Ep (0,2)=2:=by decide+kernel
theorem wk_cl:OkCl p1W q1I x1W 0 q1I tnW 0 1 1 2:=⟨by decide+kernel,by decide+kernel,by decide+kernel,by decide+kernel,by decide+kernel,by decide+kernel,by decide+kernel,by decide+kernel,by decide+kernel,by decide+kernel,by decide+kernel,by decide+kernel,by decide+kernel,by decide+kernel,by decide+kernel,by decide+kernel⟩
theorem wk_t1:EF (ao (deV (trQ (maK [p1W] 0 q1I) 1)))=[45,49,47,51,32,120,32,43,32,49]/\Iu (ao (deV (trQ (maK [p1W] 0 q1I) 1))):=by decide+kernel
theorem wk_t2:EF (ao (syU [p1W] q1I x1W 0 q1I))=[51,47,50,32,120]/\Iu (ao (syU [p1W] q1I x1W 0 q1I)):=by decide+kernel
theorem wk_t3:EF (seK (mvK 0 [p2W]) (cn [0,1] o1W) q1I 3 4)=[49,47,54,32,120,94,51,32,43,32,49,47,50,32,120,94,50,32,43,32,120,32,43,32,49]/\Iu (seK (mvK 0 [p2W]) (cn [0,1] o1W) q1I 3 4):=by decide+kernel
theorem wk_t4:na (B4 p1W q1I 0 q1I 1 1 tnW 0 2)=[50,47,51]/\okT (B4 p1W q1I 0 q1I 1 1 tnW 0 2)/\na (clB p1W q1I 0 q1I 1 1)=[53,47,50]/\okT (clB p1W q1I 0 q1I 1 1):=by decide+kernel
theorem sp_01:([.arr [],bln false,.arr []]:La)++qC q1I=spC 0 q1I:=by unfold spC;rw[qC0]
theorem wk_i2:FS 24 [.arr (zE [0,1])] (.arr (pE x1W)):=xD [0,1] (by decide) (by decide)
theorem wk_i1:FS 24 [.arr (zE [1])] (.arr (pE o1W)):=xD [1] (by decide) (by decide)
theorem wk_det:FS 7 [.arr (kE [p1W]),.agg (spC 0 q1I)] (.tup [.arr (pE (ao (deV (trQ (maK [p1W] 0 q1I) 1)))),i64 0]):=
 fs_Det1 p1W 0 q1I (Ez q1I (by decide)).ke (by decide+kernel) (by decide+kernel) (by decide+kernel) wk_ma (by decide+kernel)
theorem wk_so:FS 16 [.agg (eqC [p1W] q1I x1W),.agg (spC 0 q1I)] (.tup [.arr (pE (ao (syU [p1W] q1I x1W 0 q1I))),.arr (mE []),i64 0]):=
 GN [p1W] q1I x1W 0 q1I 100 (Ez q1I (by decide)) wk_su (fun f a=>by
  obtain rfl:f=0:=by simpa using a
  show(syM [p1W] q1I (rhK [p1W] x1W 0 q1I) 0 q1I).2.contains 0=true;rw[wk_1.1];rfl) wk_1.2 (by decide+kernel)
theorem wk_sv:FS 16 [.agg (eqC [p1W] q3I x1W),.agg (spC 0 q1I)] (.tup [.arr (pE []),.arr (mE []),i64 12]):=
 xF [p1W] q3I x1W 0 q1I 100 (Ez q3I (by decide)) wk_3
theorem wk_cs:FS 27 [.agg (eqC [p1W] q1I x1W),.agg (spC 0 q1I),.agg (qC tnW),.agg (qC 0),i64 0] (.tup [.agg (neC (syU [p1W] q1I x1W 0 q1I) (clB p1W q1I 0 q1I 1 1) (v8 p1W q1I 0 q1I 1 1 tnW) (B4 p1W q1I 0 q1I 1 1 tnW 0 2)),i64 0]):=by
 obtain⟨d,a,b,c⟩:=wk_r;have s1:=Bk x1W 0 q1I 0 (0,1) (By 40 40 x1W (0,q1I) 0 _ d (by decide)) (by decide+kernel) (by decide+kernel);have s2:=Bk (syU [p1W] q1I x1W 0 q1I) 0 q1I 0 (0,2) (By 40 40 _ (0,q1I) 0 _ a (by decide)) (by decide+kernel) (by decide+kernel);rw[b] at s1;rw[c] at s2;exact GX p1W q1I x1W 0 q1I tnW 0 1 1 2 0 100 (Ez q1I (by decide)) wk_su (by decide) (by rw[wk_1.1];rfl) wk_cl s1 s1 s2
theorem wk_se:FS 28 [.agg (eqC [p2W] q1I o1W),.agg (qC 0),i64 3] (.tup [.arr (pE (seK (mvK 0 [p2W]) (cn [0,1] o1W) q1I 3 4)),i64 0]):=
 GP [p2W] q1I o1W 0 3 (by decide) (Hh (by decide) (by decide) (fun p hp=>by rw[List.mem_singleton.1 hp];decide) (fun p hp=>by rw[List.mem_singleton.1 hp];decide+kernel) (by decide) (by decide+kernel) (by decide) (by decide))
theorem wk_cb:∀c∈([.arr [],bln false,.arr []]:La)++qC q1I,Closed c:=by rw[sp_01];exact aZ 0 q1I
theorem Dx:FS 5 [] (.v (.bool true)):=by
 have i2:=wk_i2;have i1:=wk_i1;have g:=wk_det;have d:=wk_so;have b:=wk_sv;have a:=wk_cs;have c:=wk_se;rw[<-sp_01] at g d b a;rw[qC0] at a c;have f:=dU 1 (by decide);have l:=dU 3 (by decide);have e:=fs_Of 1 10 (by decide) (by decide) (by decide);have t1:=vD _ wk_t1.2;rw[wk_t1.1] at t1;have t2:=vD _ wk_t2.2;rw[wk_t2.1] at t2;have i:=vD _ wk_t3.2;rw[wk_t3.1] at i;have j:=vC _ wk_t4.2.1;rw[wk_t4.1] at j;have k:=vC _ wk_t4.2.2.2;rw[wk_t4.2.2.1] at k;refine f_c Tryz.func5 ?_;refine r_z 1 ?_;refine s_r 7 ?_;refine a_1 ?_;refine o_1 (.callS1 rfl rfl rfl (.shut rfl d_n (.nil)) rfl (i2)) ?_;refine a_1 ?_;refine o_1 (.callS1 rfl rfl rfl (.shut rfl d_n (.nil)) rfl (i2)) ?_;refine a_z ?_;refine AWp.ent (st':=⟨[(1,.arr (kE [p1W]))],[],1,130⟩) ?_ ?_;refine s_x [] (fun hs=>?_) (fun hs=>?_)
 ·repeat' (first|exact aP|refine ay rfl ?_ ?_|(refine Cv.shut hs rfl (aT rfl) (nle rfl) ?_;exact aI hs rfl (eu [p1W]))|exact aX)
 ·repeat' (first|exact aE|refine h_c ?_ ?_|exact bZ|refine aD ?_|exact av|refine ah ?_ ?_|(refine Cv.shut hs rfl (aT rfl) (nle rfl) ?_;exact aI hs rfl (eu [p1W]))|exact aX)
 refine r_c 4 (f) ?_;refine a_z ?_;refine AWp.ent (st':=⟨[(1,.arr (kE [p1W])),(2,.lptr 1 0 0)],[(1,some ⟨42,6,[[.arr [],bln false,.arr []]++qC q1I]⟩)],2,130⟩) ?_ ?_;refine s_x [(1,2)] (fun hs=>?_) (fun hs=>?_)
 ·repeat' (first|exact aP|refine ay rfl ?_ ?_|exact an hs (aL [p1W])|exact aX)
 ·repeat' (first|exact aE|refine h_c ?_ ?_|exact CvLL.cons (ah (Cv.emp _) (ah (an hs (ag _)) (ah (Cv.emp _) (CvL.clo hs (bC q1I))))) CvLL.nil|exact bZ|refine aD ?_|exact av|refine ah ?_ ?_|exact an hs (aL [p1W])|exact aX)
 refine AWp.ent (st':=⟨[(1,.arr (kE [p1W])),(2,.aptr [[.arr [],bln false,.arr []]++qC q1I] 0 0)],[],1,130⟩) ?_ ?_;refine s_x [] (fun hs=>?_) (fun hs=>?_)
 ·repeat' (first|exact aP|refine ay rfl ?_ ?_|exact an hs (aL [p1W])|exact Cv.boxp hs rfl (aT rfl) rfl wk_cb|exact aX)
 ·repeat' (first|exact aE|refine h_c ?_ ?_|exact bZ|refine aD ?_|exact av|refine ah ?_ ?_|exact an hs (aL [p1W])|exact Cv.boxp hs rfl (aT rfl) rfl wk_cb|exact aX)
 refine r_c 8 (g) ?_;refine a_z ?_;refine r_c 7 (f) ?_;refine a_1 ?_;refine o_1 (.callS1 rfl rfl rfl (.shut rfl d_n (.nil)) rfl (i2)) ?_;refine a_z ?_;refine r_c 10 (d) ?_;refine a_z ?_;refine r_c 7 (e) ?_;refine a_z ?_;refine r_c 11 (a) ?_;refine a_z ?_;refine r_c 3 (l) ?_;refine a_z ?_;refine r_c 10 (b) ?_;refine a_z ?_;refine AWp.ent (st':=⟨[(3,.arr (pE (ao (deV (trQ (maK [p1W] 0 q1I) 1))))),(4,i64 0),(6,.arr (pE (ao (syU [p1W] q1I x1W 0 q1I)))),(7,.arr (mE [])),(8,i64 0),(11,.aptr [neC (syU [p1W] q1I x1W 0 q1I) (clB p1W q1I 0 q1I 1 1) (v8 p1W q1I 0 q1I 1 1 tnW) (B4 p1W q1I 0 q1I 1 1 tnW 0 2)] 0 0),(12,i64 0),(15,i64 12)],[],1,130⟩) ?_ ?_;refine s_x [] (fun hs=>?_) (fun hs=>?_)
 ·repeat' (first|exact aP|refine ay rfl ?_ ?_|exact an hs (aB _)|exact an hs (closed_mA _)|exact Cv.boxp hs rfl (aT rfl) rfl (iY _ _ _ _)|exact aX)
 ·repeat' (first|exact aE|refine h_c ?_ ?_|exact bZ|refine aD ?_|exact av|refine ah ?_ ?_|exact an hs (aB _)|exact an hs (closed_mA _)|exact Cv.boxp hs rfl (aT rfl) rfl (iY _ _ _ _)|exact aX)
 have m:=c.xs (Ec (ac (aB _) (ac (ag _) af)));refine ae (AWp.regX (fr2:=[(75,.agg (eqC [p2W] q1I o1W)),(76,.agg [.arr [],bln false,.arr []]),(3,.arr (pE (ao (deV (trQ (maK [p1W] 0 q1I) 1))))),(4,i64 0),(6,.arr (pE (ao (syU [p1W] q1I x1W 0 q1I)))),(7,.arr (mE [])),(8,i64 0),(11,.aptr [neC (syU [p1W] q1I x1W 0 q1I) (clB p1W q1I 0 q1I 1 1) (v8 p1W q1I 0 q1I 1 1 tnW) (B4 p1W q1I 0 q1I 1 1 tnW 0 2)] 0 0),(12,i64 0),(15,i64 12)]) (hp2:=[]) (nx2:=1) (fr3:=[(3,.arr (pE (ao (deV (trQ (maK [p1W] 0 q1I) 1))))),(4,i64 0),(6,.arr (pE (ao (syU [p1W] q1I x1W 0 q1I)))),(7,.arr (mE [])),(8,i64 0),(11,.aptr [neC (syU [p1W] q1I x1W 0 q1I) (clB p1W q1I 0 q1I 1 1) (v8 p1W q1I 0 q1I 1 1 tnW) (B4 p1W q1I 0 q1I 1 1 tnW 0 2)] 0 0),(12,i64 0),(15,i64 12)]) 11 rfl rfl rfl rfl rfl rfl ?_ rfl rfl rfl m (keepF ?_) (loF rfl) ?_)
 ·refine o_1 (.buildSlice te_142.h TZ.h rfl (by decide) rfl rfl rfl (by first|(simp;done)|(simp[cf,ofV];done)|rfl)) ?_
  refine o_1 (.callS1 rfl rfl rfl (.shut rfl d_n (.nil)) rfl (i1)) ?_;refine o_1 (.buildSlice te_142.h TZ.h rfl (by decide) rfl rfl rfl (by first|(simp;done)|(simp[cf,ofV];done)|rfl)) ?_;refine o_1 (.callS1 rfl rfl rfl (.shut rfl d_n (.nil)) rfl (i1)) ?_;refine o_0 (.build TZ.h tp_93.h rfl rfl) ?_;refine o_1 (.buildSlice te_29.h TZ.h rfl (by decide) rfl rfl rfl (by first|(simp;done)|(simp[cf,ofV];done)|rfl)) ?_;refine o_0 (.call rfl rfl rfl (f)) ?_;refine o_1 (.buildSlice te_142.h TZ.h rfl (by decide) rfl rfl rfl (by first|(simp;done)|(simp[cf,ofV];done)|rfl)) ?_;refine o_1 (.callS1 rfl rfl rfl (.shut rfl d_n (.nil)) rfl (i1)) ?_;refine o_0 (.build TZ.h tp_40.h rfl rfl) ?_;refine o_0 (.build TZ.h tp_36.h rfl rfl) ?_;refine aq ?_;refine s_y [] (fun hs=>?_) (fun hs=>?_)
  ·repeat' (first|exact aP|refine ay rfl ?_ ?_|exact an hs (aB _)|exact an hs (closed_mA _)|exact an hs (bq (iY _ _ _ _))|exact Cv.agg (ah (Cv.shut hs rfl (aT rfl) (nle rfl) (aI hs rfl (eu [p2W]))) (CvL.clo hs (cY (bC q1I) (ac (aB o1W) af))))|exact Cv.agg (ah (Cv.emp _) (ah (an hs (ag _)) (ah (Cv.emp _) av)))|exact aX)
  ·repeat' (first|exact aE|refine h_c ?_ ?_|exact bZ|refine aD ?_|exact av|refine ah ?_ ?_|exact an hs (aB _)|exact an hs (closed_mA _)|exact an hs (bq (iY _ _ _ _))|exact Cv.agg (ah (Cv.shut hs rfl (aT rfl) (nle rfl) (aI hs rfl (eu [p2W]))) (CvL.clo hs (cY (bC q1I) (ac (aB o1W) af))))|exact Cv.agg (ah (Cv.emp _) (ah (an hs (ag _)) (ah (Cv.emp _) av)))|exact aX)
 intro p hp;rcases List.mem_cons.1 hp with rfl|hp
 exact⟨rfl,aB _⟩;rcases List.mem_cons.1 hp with rfl|hp
 exact⟨rfl,ag _⟩;rcases List.mem_cons.1 hp with rfl|hp
 exact⟨rfl,aB _⟩;rcases List.mem_cons.1 hp with rfl|hp
 exact⟨rfl,closed_mA _⟩;rcases List.mem_cons.1 hp with rfl|hp
 exact⟨rfl,ag _⟩;rcases List.mem_cons.1 hp with rfl|hp
 exact⟨rfl,bq (iY _ _ _ _)⟩;rcases List.mem_cons.1 hp with rfl|hp
 exact⟨rfl,ag _⟩;rcases List.mem_cons.1 hp with rfl|hp
 exact⟨rfl,ag _⟩;cases hp;refine o_0 (.move rfl) ?_;refine o_0 (.extract rfl rfl) ?_;refine o_0 (.extract rfl rfl) ?_;refine o_0 (.assign rfl) ?_;refine o_0 (.assign rfl) ?_;refine aq ?_;refine s_r 51 ?_;refine a_1 ?_;refine o_0 (.bin rfl rfl (vT cb (rfl))) ?_;refine e_s (t1) ?_;refine aQ rfl rfl rfl (.bin rfl rfl (vT od rfl)) rfl rfl ?_;refine d_3 ?_;refine aQ rfl rfl rfl (.bin rfl rfl (vT cb (rfl))) rfl rfl ?_;refine e_s (t2) ?_;refine aQ rfl rfl rfl (.bin rfl rfl (vT od rfl)) rfl rfl ?_;refine d_4 ?_;refine aQ rfl rfl rfl (.bin rfl rfl (vT cb (rfl))) rfl rfl ?_;refine d_3 ?_;refine aQ rfl rfl rfl (.bin rfl rfl (vT cb (rfl))) rfl rfl ?_;refine e_s (j) ?_;refine aQ rfl rfl rfl (.bin rfl rfl (vT od rfl)) rfl rfl ?_;refine e_s (k) ?_;refine aQ rfl rfl rfl (.bin rfl rfl (vT od rfl)) rfl rfl ?_;refine d_3 ?_;refine aQ rfl rfl rfl (.bin rfl rfl (vT cb (rfl))) rfl rfl ?_;refine d_3 ?_;refine aQ rfl rfl rfl (.bin rfl rfl (vT cb (rfl))) rfl rfl ?_;refine e_s (i) ?_;refine aQ rfl rfl rfl (.bin rfl rfl (vT od rfl)) rfl rfl ?_;refine a_z ?_;exact ai (t_e (ag _))
theorem II{l:List gU}(ho:∀t∈l,yV t)(h:tv l=true):(keM l).length<=1000/\(∀p∈keM l,p.1.length<=30/\p.2.length<=30)/\(vaB (keM l)=true->(keM l).length<=3/\(∀p∈keM l,p.1.length<=4/\p.2.length<=4)/\∀p∈keM l,bdL p.1 20/\bdL p.2 20):=by
 unfold tv at h;rw[Bool.and_eq_true,List.all_eq_true] at h;obtain⟨i,k⟩:=h
 have j:l.length<=12/\(3< l.length->8< l.length):=by
  unfold xn at i;simp only[Bool.not_eq_true',Bool.or_eq_false_iff,Bool.and_eq_false_iff,decide_eq_false_iff_not] at i;omega
 have hp:∀p∈keM l,∃t∈l,p=(nL t.1,nL t.2):=fun p hp=>by
  obtain⟨t,a,e⟩:=List.mem_map.1 hp;exact⟨t,a,e.symm⟩
 have hs:∀t∈l,t.1.length<=30/\t.2.length<=30/\fC t.1=true/\fC t.2=true:=fun t a=>by
  have g:=k t a;unfold iL xm at g;simp only[Bool.and_eq_true,Bool.not_eq_true',Bool.or_eq_false_iff,decide_eq_false_iff_not] at g;exact⟨by omega,by omega,g.2.1,g.2.2⟩
 refine⟨by rw[fH];omega,fun p c=>?_,fun hv=>?_⟩;obtain⟨t,a,rfl⟩:=hp p c;obtain⟨o,q,_,_⟩:=hs t a;exact⟨by simpa[nL] using o,by simpa[nL] using q⟩;unfold vaB at hv;simp only[Bool.and_eq_true,Bool.not_eq_true',decide_eq_true_eq] at hv;obtain⟨v1,v2⟩:=hv;rw[fH] at v2
 have hb:∀t∈l,(bdL (nL t.1) 20/\(nL t.1).length<=4)/\bdL (nL t.2) 20/\(nL t.2).length<=4:=fun t a=>by
  obtain⟨_,_,d,f⟩:=hs t a
  have b:sP (nL t.1,nL t.2)=false:=by
   have:=List.any_eq_false.1 v1 (nL t.1,nL t.2) (List.mem_map.2 ⟨t,a,rfl⟩);simpa using this
  unfold sP at b;rw[Bool.or_eq_false_iff] at b;unfold fC at d f
  have n:gf t.1 4=true:=by
   rw[Bool.or_eq_true] at d;rcases d with d|d
   exact d;rw[b.1] at d;cases d
  have m:gf t.2 4=true:=by
   rw[Bool.or_eq_true] at f;rcases f with f|f
   exact f;rw[b.2] at f;cases f
  exact⟨tz n (ho t a).1.1,tz m (ho t a).1.2⟩
 refine⟨by rw[fH];omega,fun p c=>?_,fun p c=>?_⟩;obtain⟨t,a,rfl⟩:=hp p c;exact⟨(hb t a).1.2,(hb t a).2.2⟩;obtain⟨t,a,rfl⟩:=hp p c;exact⟨(hb t a).1.1,(hb t a).2.1⟩
theorem fu(r:ft):∀c∈nuC r.1 r.2.1 r.2.2,Closed c:=ac (ag _) (ac (ag _) (ac (ag _) af))
theorem pE_get{p:Lq}{i:Nat}{q:Rat}(h:p[i]?=some q):∀e,e=i->(pE p)[e]?=some (qC q):=fun e a=>by
 subst a;simp[pE,h]











end Go.Proofs.YtkbjakfniejkcaaGreatDoor
namespace Go.Proofs.YtkbjakfniejkcaaGreatDoor
open Go.Abs Go.Deep Go.RowKit Go.WideShapes
set_option maxRecDepth 20000

end Go.Proofs.YtkbjakfniejkcaaGreatDoor
namespace Go.Proofs.YtkbjakfniejkcaaGreatDoor
open Go.Abs Go.ChangeShapes Go.Deep Go.RowKit Go.WideShapes
set_option maxRecDepth 20000
theorem tyG:∃f0 f1,(Tryz.prog).underlying 26=some (.struct #[f0,f1])/\f0.type=24/\f0.offset=0/\f1.type=24/\f1.offset=3:=
 ⟨{name:= "Low",type:=24,offset:=0,embedded:=false,tag:= "",pkgPath:= "",byteOffset:=0},{name:= "High",type:=24,offset:=3,embedded:=false,tag:= "",pkgPath:= "",byteOffset:=24},by kernel_rfl,rfl,rfl,rfl,rfl⟩
theorem tycG:(Tryz.prog).cellsOf 26=6:=by kernel_rfl
theorem gapP_of{H:Type}{enc:TypeId×Value->H}{W:World}{base:Nat}{v:Value}{d:DataW H}{ps:List MemPlace}(hv:Value.okWide Tryz.prog W .any base 26 v)(h:DataW.Trod enc Tryz.prog W 0 (fun _=>true) true 26 v d ps):
    ∃r:ft×ft,(okN r.1/\okN r.2)/\RV (fun _=>False) (fun _=>none) W (.agg (nuC r.1.1 r.1.2.1 r.1.2.2++nuC r.2.1 r.2.2.1 r.2.2.2)) v:=by
 obtain⟨C,D,p,c,t,z,x⟩:=tyG
 obtain⟨cs,rfl,_⟩:∃cs,v= .agg cs/\True:=by
  unfold Value.okWide at hv;rw[p] at hv;obtain⟨cs,c,_⟩:=hv;exact⟨cs,c,trivial⟩
 obtain⟨q,y⟩:=h;obtain⟨E,B,m,_,g,n,o⟩:=trod_struct2 p y;rw[c,t,ED] at n;rw[z,x,ED] at o;rw[tycG] at g;obtain⟨r,u,A,s,e⟩:=yX n;obtain⟨a,k,b,i,f⟩:=yX o
 have j:cs.toList=[.int .i64 r.1,.int .i64 r.2.1,.int .u8 r.2.2,.int .i64 a.1,.int .i64 a.2.1,.int .u8 a.2.2]:=by
  have w:(Value.agg cs).cells.toList=cs.toList:=by simp[Value.cells]
  rw[w] at e f g;generalize cs.toList=l at *
  match l,g with
  |[a0,a1,a2,a3,a4,a5],_=>
   simp at e f;obtain⟨rfl,rfl,rfl⟩:=e;obtain⟨rfl,rfl,rfl⟩:=f;rfl
 refine⟨(r,a),⟨⟨u,A,s⟩,⟨k,b,i⟩⟩,cs,rfl,?_⟩;rw[j];exact⟨_,_,rfl,rfl,_,_,rfl,rfl,_,_,rfl,rfl,_,_,rfl,rfl,_,_,rfl,rfl,_,_,rfl,rfl,rfl⟩
end Go.Proofs.YtkbjakfniejkcaaGreatDoor
namespace Go.Proofs.YtkbjakfniejkcaaGreatDoor
open Go.Abs
set_option maxRecDepth 20000
set_option maxHeartbeats 2000000











end Go.Proofs.YtkbjakfniejkcaaGreatDoor
namespace Go.Proofs.YtkbjakfniejkcaaGreatDoor
open Go.Abs Go.Deep Go.RowKit Go.WideShapes
set_option maxRecDepth 20000

end Go.Proofs.YtkbjakfniejkcaaGreatDoor
namespace Go.Proofs.YtkbjakfniejkcaaGreatDoor
open Go.Abs Go.ChangeShapes Go.Deep Go.RowKit Go.WideShapes
set_option maxRecDepth 20000

end Go.Proofs.YtkbjakfniejkcaaGreatDoor
namespace Go.Proofs.YtkbjakfniejkcaaGreatDoor
open Go.Abs
set_option maxRecDepth 20000
set_option maxHeartbeats 4000000

section
variable {T:Lq}{n:Nat}(hn:1<=n/\n<=5)(hl:T.length=n+1)(ht:ao T=T)(hm:aM T=1)(hb:bdL T 20)
include hn hl ht hm hb
end



theorem yg{r:Ren}{hp hp':Hq}{x y:La}(h:CvL r hp hp' x y):∀{xs ys:Lc},CvLL r hp hp' xs ys->CvLL r hp hp' (xs++[x]) (ys++[y])
 |[],ys,h'=>by cases (h':ys=[]);exact aD h
 |a::xs,ys,⟨b,ys',e,h1,h2⟩=>by
  subst e;exact CvLL.cons h1 (yg h h2)
theorem Kq{r:Ren}{hp hp':Hq}{xs ys zs:Lc}(h:CvLL r hp hp' xs ys)(e:ys=zs):CvLL r hp hp' xs zs:=e▸h
structure TmK (k:Ke):Prop where
 l:k.length<=3
 n:∀p∈k,p.1.length<=4/\p.2.length<=4
 b:∀p∈k,bdL p.1 20/\bdL p.2 20

theorem DD(a b:Rat)(ha:qs a<=20)(hb:qs b<=20):FS 23 [.agg (rC (rq a)++rC (rq b))] (bln (decide (a<=b))):=by
 have d:=fs_rCmp (rq a) (rq b) (yH _) (yH _) (by show qs a+qs b<=_;omega);have f:∀c∈rC (rq a)++rC (rq b),Closed c:=fun c d=>(List.mem_append.1 d).elim (gd _ c) (gd _ c)
 have e:(decide (fi a b<=0))=decide (a<=b):=by
  unfold fi;by_cases h1:a< b;rw[if_pos h1,decide_eq_true (show a<=b by grind)];rfl;rw[if_neg h1];by_cases h2:a=b;rw[if_pos h2,decide_eq_true (show a<=b by grind)];rfl;rw[if_neg h2,decide_eq_false (show¬a<=b by grind)];rfl
 rw[<-e];refine f_c Tryz.func23 ?_;refine r_z 2 ?_;refine r_c 7 (d) ?_;refine a_z ?_;exact ai (t_e (ag _))
theorem ke_arr(l:List gU)(ho:∀t∈l,yV t)(hl:l.length<=9223372036854775807):∃K1 K2 b,FS 17 [.arr (twR l)] (.tup [.arr K1,.arr K2,bln b])/\Closed (.arr K1)/\Closed (.arr K2)/\(b=true->K1=kE (keM l)/\K2=keR (keM l)/\tv l=true):=by
 have h:=DR l ho hl;unfold keV at h;cases e:tv l with
 |true=>rw[e] at h;exact⟨_,_,true,h,aL _,fO _,fun _=>⟨rfl,rfl,rfl⟩⟩
 |false=>rw[e] at h;exact⟨_,_,false,h,aL _,fO _,fun h=>by cases h⟩
theorem ri_arr(l:List ft)(ho:okR l)(hl:l.length<=9223372036854775807):∃k1 k2 b,FS 18 [.arr (nR l)] (.tup [.arr k1,.arr k2,bln b])/\Closed (.arr k1)/\Closed (.arr k2)/\(b=true->k1=pE (nL l)/\k2=rE (rP (nL l))/\l.length<=40/\(gf l 5=true\/20< bO (nL l))):=by
 have h:=GR l ho hl;by_cases e:40< l.length;rw[if_pos e] at h;exact⟨_,_,false,h,aB _,fj _,fun h=>by cases h⟩;rw[if_neg e] at h;exact⟨_,_,_,h,aB _,fj _,fun h=>⟨rfl,rfl,by omega,by simpa using h⟩⟩
structure Posed (l:List gU)(ar br cr:ft)(gr:List ft):Prop where
 va:vaB (keM l)=true
 t:TmK (keM l)
 ok:pn (keM l)
 dg:bO (nL gr)<=20
 bg:bdL (nL gr) 20
 lg:(nL gr).length<=5
 qa:qs (nV ar)<=20
 qb:qs (nV br)<=20
 qc:qs (nV cr)<=20
 ab:nV ar<=nV br
theorem I4(l:List gU)(ar br cr:ft)(gr:List ft)(ho:∀t∈l,yV t)(hll:l.length<=9223372036854775807)(ha:okN ar)(hb:okN br)(hc:okN cr)(hg:okR gr)(hgl:gr.length<=9223372036854775807):
    ∃(k1 g1:Lc) (b:Bool),FS 4 [.arr (twR l),.agg (nuC ar.1 ar.2.1 ar.2.2++nuC br.1 br.2.1 br.2.2),.agg (nuC cr.1 cr.2.1 cr.2.2),.arr (nR gr)] (.tup [.agg (.arr k1::(qC (nV cr)++[.arr g1])),.agg (spC (nV ar) (nV br)),bln b])/\Closed (.arr k1)/\Closed (.arr g1)/\(b=true->k1=kE (keM l)/\g1=pE (nL gr)/\Posed l ar br cr gr):=by
 obtain⟨k1,R,O,n,i,H,E⟩:=ke_arr l ho hll;obtain⟨g1,Q,K,f,k,M,y⟩:=ri_arr gr hg hgl;have j:=tX [ar,br,cr] 3 (by simp) (by decide);have s:=zt ar.1 ar.2.1 br.1 br.2.1 ar.2.2 br.2.2 ha.1 ha.2.1 ha.2.2 hb.1 hb.2.1 hb.2.2;have b2:=qV cr.1 cr.2.1 cr.2.2 hc.1 hc.2.1 hc.2.2;have q:∀c∈nuC ar.1 ar.2.1 ar.2.2++nuC br.1 br.2.1 br.2.2,Closed c:=fun c hc=>(List.mem_append.1 hc).elim (fu ar c) (fu br c);have d:∀c∈ .arr k1::(qC (nV cr)++[.arr g1]),Closed c:=ac i fun c hc=>(List.mem_append.1 hc).elim (bC _ c) (ac k af c)
 have u:∀b:Bool,FS 4 [.arr (twR l),.agg (nuC ar.1 ar.2.1 ar.2.2++nuC br.1 br.2.1 br.2.2),.agg (nuC cr.1 cr.2.1 cr.2.2),.arr (nR gr)] (.tup [.agg (.arr k1::(qC (nV cr)++[.arr g1])),.agg (spC (nV ar) (nV br)),bln b])->(b=true->k1=kE (keM l)/\g1=pE (nL gr)/\Posed l ar br cr gr)->
  ∃(k1 g1:Lc) (b:Bool),FS 4 [.arr (twR l),.agg (nuC ar.1 ar.2.1 ar.2.2++nuC br.1 br.2.1 br.2.2),.agg (nuC cr.1 cr.2.1 cr.2.2),.arr (nR gr)] (.tup [.agg (.arr k1::(qC (nV cr)++[.arr g1])),.agg (spC (nV ar) (nV br)),bln b])/\Closed (.arr k1)/\Closed (.arr g1)/\(b=true->k1=kE (keM l)/\g1=pE (nL gr)/\Posed l ar br cr gr):=fun b x G=>
  ⟨k1,g1,b,x,i,k,G⟩
 cases O with
 |false=>
  refine u false ?_ (fun h=>by cases h);refine f_n Tryz.func4 ?_ ?_;exact ac (dj l) (ac (az q) (ac (az (fu cr)) (ac (aG (cM gr)) af)));refine r_z 5 ?_;refine r_c 9 (n) ?_;refine a_z ?_;refine r_c 9 (f) ?_;refine a_z ?_;refine r_c 9 (s) ?_;refine a_z ?_;refine r_c 9 (b2) ?_;refine a_z ?_;refine r_z 6 ?_;refine ae (r_d a7 28 ?_);refine d_8 ?_;refine d_8 ?_;refine d_8 ?_;refine d_4 ?_;refine aq (n_k ?_);refine ai (Fin.many ⟨_,_,rfl,⟨_,_,_,_,_,rfl,rfl,rfl,.inl ⟨TG.h,_,TS.h,nle rfl,rfl⟩⟩,⟨_,_,rfl,⟨_,_,_,_,_,rfl,rfl,rfl,.inl ⟨TG.h,_,TS.h,nle rfl,rfl⟩⟩,⟨_,_,rfl,rfl,rfl⟩⟩⟩ (nle rfl) ?_);exact ah (an aA (az d)) (ah (an aA (az (aZ _ _))) (ah (an aA (ag _)) av))
 |true=>
 cases K with
 |false=>
  refine u false ?_ (fun h=>by cases h);refine f_n Tryz.func4 ?_ ?_;exact ac (dj l) (ac (az q) (ac (az (fu cr)) (ac (aG (cM gr)) af)));refine r_z 5 ?_;refine r_c 9 (n) ?_;refine a_z ?_;refine r_c 9 (f) ?_;refine a_z ?_;refine r_c 9 (s) ?_;refine a_z ?_;refine r_c 9 (b2) ?_;refine a_z ?_;refine r_z 6 ?_;refine ae (r_d a7 28 ?_);refine d_8 ?_;refine d_8 ?_;refine d_8 ?_;refine d_4 ?_;refine aq (n_k ?_);refine ai (Fin.many ⟨_,_,rfl,⟨_,_,_,_,_,rfl,rfl,rfl,.inl ⟨TG.h,_,TS.h,nle rfl,rfl⟩⟩,⟨_,_,rfl,⟨_,_,_,_,_,rfl,rfl,rfl,.inl ⟨TG.h,_,TS.h,nle rfl,rfl⟩⟩,⟨_,_,rfl,rfl,rfl⟩⟩⟩ (nle rfl) ?_);exact ah (an aA (az d)) (ah (an aA (az (aZ _ _))) (ah (an aA (ag _)) av))
 |true=>
 cases et:gf [ar,br,cr] 3 with
 |false=>
  rw[et] at j;refine u false ?_ (fun h=>by cases h);refine f_n Tryz.func4 ?_ ?_;exact ac (dj l) (ac (az q) (ac (az (fu cr)) (ac (aG (cM gr)) af)));refine r_z 5 ?_;refine r_c 9 (n) ?_;refine a_z ?_;refine r_c 9 (f) ?_;refine a_z ?_;refine r_c 9 (s) ?_;refine a_z ?_;refine r_c 9 (b2) ?_;refine a_z ?_;refine r_z 6 ?_;refine ae (r_d a7 28 ?_);refine d_8 ?_;refine d_4 ?_;refine AR.op1y rfl rfl rfl (.buildSlice te_27.h TZ.h rfl (by decide) rfl rfl rfl (by simp[nuC])) rfl rfl ?_;refine AR.op1y rfl rfl rfl (.callS1 rfl rfl rfl (.shut rfl d_n (.keep (.nil))) rfl (j)) rfl rfl ?_;refine d_8 ?_;refine d_6 ?_;refine aq (n_k ?_);refine ai (Fin.many ⟨_,_,rfl,⟨_,_,_,_,_,rfl,rfl,rfl,.inl ⟨TG.h,_,TS.h,nle rfl,rfl⟩⟩,⟨_,_,rfl,⟨_,_,_,_,_,rfl,rfl,rfl,.inl ⟨TG.h,_,TS.h,nle rfl,rfl⟩⟩,⟨_,_,rfl,rfl,rfl⟩⟩⟩ (nle rfl) ?_);exact ah (an aA (az d)) (ah (an aA (az (aZ _ _))) (ah (an aA (ag _)) av))
 |true=>
 rw[et] at j;obtain⟨rfl,rfl,v⟩:=E rfl;obtain⟨rfl,rfl,w,C⟩:=y rfl
 have z:okR [ar,br,cr]:=fun r f=>by
  simp only[List.mem_cons,List.not_mem_nil,or_false] at f;rcases f with rfl|rfl|rfl
  exact ha;exact hb;exact hc
 obtain⟨A,_⟩:=tz et z;have qa:qs (nV ar)<=20:=A _ (by simp[nL]);have qb:qs (nV br)<=20:=A _ (by simp[nL]);have qc:qs (nV cr)<=20:=A _ (by simp[nL]);have D:(nL gr).length<=40:=by simpa[nL] using w
 have e:bO (nL gr)<=20->bdL (nL gr) 20/\(nL gr).length<=5:=fun h=>by
  rcases C with x|x
  exact tz x hg;omega
 obtain⟨L,F,N⟩:=II ho v;have B:∀p∈keM l,p.1.length<=1099511627776/\p.2.length<=1099511627776:=fun p hp=>by have:=F p hp;omega
 have a:=Jf (keM l) (nL gr) L (fun p hp=>by have:=F p hp;omega) (by omega);have o:=DD (nV ar) (nV br) qa qb;cases eb:(!vaB (keM l)||decide (20< bO (nL gr))) with
 |true=>
  rw[eb] at a;refine u false ?_ (fun h=>by cases h);refine f_n Tryz.func4 ?_ ?_;exact ac (dj l) (ac (az q) (ac (az (fu cr)) (ac (aG (cM gr)) af)));refine r_z 5 ?_;refine r_c 9 (n) ?_;refine a_z ?_;refine r_c 9 (f) ?_;refine a_z ?_;refine r_c 9 (s) ?_;refine a_z ?_;refine r_c 9 (b2) ?_;refine a_z ?_;refine r_z 6 ?_;refine ae (r_d a7 28 ?_);refine d_8 ?_;refine d_4 ?_;refine AR.op1y rfl rfl rfl (.buildSlice te_27.h TZ.h rfl (by decide) rfl rfl rfl (by simp[nuC])) rfl rfl ?_;refine AR.op1y rfl rfl rfl (.callS1 rfl rfl rfl (.shut rfl d_n (.keep (.nil))) rfl (j)) rfl rfl ?_;refine e_s (a) ?_;refine d_8 ?_;refine m_1 ?_;refine aq (n_k ?_);refine ai (Fin.many ⟨_,_,rfl,⟨_,_,_,_,_,rfl,rfl,rfl,.inl ⟨TG.h,_,TS.h,nle rfl,rfl⟩⟩,⟨_,_,rfl,⟨_,_,_,_,_,rfl,rfl,rfl,.inl ⟨TG.h,_,TS.h,nle rfl,rfl⟩⟩,⟨_,_,rfl,rfl,rfl⟩⟩⟩ (nle rfl) ?_);exact ah (an aA (az d)) (ah (an aA (az (aZ _ _))) (ah (an aA (ag _)) av))
 |false=>
 rw[eb] at a;rw[Bool.or_eq_false_iff] at eb;have g:vaB (keM l)=true:=by simpa using eb.1
 have m:bO (nL gr)<=20:=by have:=of_decide_eq_false eb.2;omega
 obtain⟨v1,v2,J⟩:=N g;obtain⟨bg,lg⟩:=e m;refine u (decide (nV ar<=nV br)) ?_ (fun h=>⟨rfl,rfl,g,⟨v1,v2,J⟩,okKe_va g B,m,bg,lg,qa,qb,qc,of_decide_eq_true h⟩);refine f_n Tryz.func4 ?_ ?_;exact ac (dj l) (ac (az q) (ac (az (fu cr)) (ac (aG (cM gr)) af)));refine r_z 5 ?_;refine r_c 9 (n) ?_;refine a_z ?_;refine r_c 9 (f) ?_;refine a_z ?_;refine r_c 9 (s) ?_;refine a_z ?_;refine r_c 9 (b2) ?_;refine a_z ?_;refine r_z 6 ?_;refine ae (r_d a7 28 ?_);refine d_8 ?_;refine d_4 ?_;refine AR.op1y rfl rfl rfl (.buildSlice te_27.h TZ.h rfl (by decide) rfl rfl rfl (by simp[nuC])) rfl rfl ?_;refine AR.op1y rfl rfl rfl (.callS1 rfl rfl rfl (.shut rfl d_n (.keep (.nil))) rfl (j)) rfl rfl ?_;refine e_s (a) ?_;refine e_s (o) ?_;refine a_4 ?_;refine aq (n_k ?_);refine ai (Fin.many ⟨_,_,rfl,⟨_,_,_,_,_,rfl,rfl,rfl,.inl ⟨TG.h,_,TS.h,nle rfl,rfl⟩⟩,⟨_,_,rfl,⟨_,_,_,_,_,rfl,rfl,rfl,.inl ⟨TG.h,_,TS.h,nle rfl,rfl⟩⟩,⟨_,_,rfl,rfl,rfl⟩⟩⟩ (nle rfl) ?_);exact ah (an aA (az d)) (ah (an aA (az (aZ _ _))) (ah (an aA (ag _)) av))
end Go.Proofs.YtkbjakfniejkcaaGreatDoor
