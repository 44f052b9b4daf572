/- Part V21 of the proof. -/
import Derived.Test.YtjkddcfoolilbaaGreatDoorV20
set_option linter.all false
namespace Go.Proofs.YtjkddcfoolilbaaGreatDoor
open Go.Abs
set_option maxRecDepth 20000
theorem sm_neg1{a:Rat}(h:sm a):sm (a* (-1)):=by
 unfold sm at *
 rw[show a* (-1)= -a by rw[Rat.mul_comm,Rat.neg_mul,Rat.one_mul],eQ_];exact h
theorem qs_inv(b:Rat)(hb:b≠0):qs (1/ b)≤qs b:=by
 rw[jg_ 1 b hb];have hn:b.num≠0:=fun e=>hb (Rat.num_eq_zero.1 e);have h1:=b1_ b;have h2:=bR_ b
 refine c7_ (by have:0< b.num.natAbs:=by omega
                show 0< 1* b.num.natAbs;omega) ?_ ?_
 show bl ((1:Int) * sgn (decide (b.num< 0)) b.den).natAbs≤qs b;rw[Int.one_mul,cZ_];exact h2;show bl (1* b.num.natAbs)≤qs b;rw[Nat.one_mul];exact h1
theorem po_{q:List Rat}(h:smL q):smL (aN_ q (-1)):=by
 refine kg_ fun x hx=>?_;obtain⟨i,_,rfl⟩:=List.mem_map.1 hx;exact sm_neg1 (ka_ h i)
theorem fs_Sub(p q:List Rat)(hp:smL p)(hq:smL q)(hp1:p.length≤1099511627776)(hq1:q.length≤1099511627776):FS 118 [.arr (pE p),.arr (pE q)] (.arr (pE (subP p q))):=by
 have hl:=bG_ q (-1);refine f_c Tryz.func118 ?_;refine r_z 1 ?_;refine r_c 6 (c2_ (-1) (by decide)) ?_;refine c_s (ee_ q (-1) hq (by decide) hq1) ?_;refine c_s (i6_ p (aN_ q (-1)) hp (po_ hq) hp1 (by omega)) ?_;refine a_z ?_;exact af_ (t_e (ar_ _))
theorem kJ_(p:List Rat)(hp:smL p)(hp1:p.length≤1099511627776):FS 262 [.arr (pE p)] (.arr (pE (e3_ p))):=by
 have hlead:=leadP_sm hp;refine f_c Tryz.func262 ?_;refine r_z 1 ?_;refine ab_ (r_c 3 (b5_ p hp1) ?_);refine a_z ?_;refine aj_ rfl (fun h=>?_) (fun h=>?_)
 have h0:trimQ p=[]:=by
  have h1:degP p< 0:=by simpa using h
  unfold degP at h1;exact List.length_eq_zero_iff.1 (by omega)
 refine r_z 1 ?_;refine af_ ?_;unfold e3_;rw[if_pos h0];exact Fin.tmpN rfl
 have h0:trimQ p≠[]:=by
  intro e;have h1:¬degP p< 0:=by simpa using h
  unfold degP at h1;rw[e] at h1;exact h1 (by decide)
 have hne:=fu_ h0;have hinv:=qs_inv (leadP p) hne;unfold sm at hlead;have h1:qs 1=1:=by decide
 unfold e3_;rw[if_neg h0];refine ah_ (r_c 7 (c2_ 1 (by decide)) ?_);refine c_s (kV_ p hp1) ?_;refine c_s (dJ_ 1 (leadP p) hne (by omega)) ?_;refine c_s (ee_ p (1/ leadP p) hp (by unfold sm;omega) hp1) ?_;refine a_z ?_;exact af_ (t_e (ar_ _))
theorem hY_(i:Nat)(h:i≤1099511627776):qs (((i:Nat):Int):Rat)≤64:=by
 refine Nat.max_le.2 ⟨?_,?_⟩;show bl ((i:Int)).natAbs≤64;rw[Int.natAbs_natCast];exact bl_le (by omega);show bl 1≤64;decide
theorem pX_(p:List Rat)(i:Nat)(hp:smL p)(hi:i+1< p.length)(hp1:p.length≤1099511627776):FS 224 [i64 i,bP p] (.agg (qC (coP p (i+1) * ((i+1:Nat):Int)))):=by
 have hg:(pE p)[(((i:Nat):Int)+1).toNat]?=some (qC (coP p (i+1))):=by
  rw[show(((i:Nat):Int)+1).toNat=i+1 by omega];exact cS_ (bw_ hi)
 have hs:=ka_ hp (i+1);have hq:=hY_ (i+1) (by omega);unfold sm at hs;have hI:=c2_ (((i:Nat):Int)+1) (by omega);rw[show((i:Nat):Int)+1=((i+1:Nat):Int) by omega] at hI;refine f_c Tryz.func224 ?_;refine r_z 1 ?_;refine ab_ (r_d hmix 10 ?_);refine a_3 ?_;refine i_x hg ?_;refine l_x hg ?_;refine c_s (hI) ?_;refine c_s (bK_ (coP p (i+1)) ((i+1:Nat):Int) (by omega)) ?_;refine a_1 ?_;refine al_ (n_k ?_);exact af_ (c_e (aC_ _))
theorem i5_(p:List Rat)(hp:smL p)(hp1:p.length≤1099511627776):FS 189 [.arr (pE p)] (.arr (pE (bz_ p))):=by
 have he:=kM_ (p.length- 1) (fun i=>coP p (i+1) * ((i+1:Nat):Int)) 224 [bP p] (by omega) (aa_ (bu_ p) ac_) (fun i hi=>pX_ p i hp (by omega) hp1);have hm:(if (0:Int)>((p.length:Nat):Int)- 1 then(0:Int) else((p.length:Nat):Int)- 1)=((p.length- 1:Nat):Int):=by split <;> omega
 rw[←hm] at he;refine f_c Tryz.func189 ?_;refine r_z 2 ?_;refine AWp.ent (st':=⟨[(1,bP p)],[],1,9⟩) ?_ ?_;exact s_e [];refine r_c 7 (he) ?_;refine a_z ?_;exact af_ (t_e (ar_ _))
theorem l8_(p:List Rat)(i:Nat)(hp:smL p)(hi:i< p.length+1)(hp1:p.length≤1099511627775):FS 170 [i64 i,bP p] (.agg (qC (if i=0 then 0 else coP p (i- 1) / ((i:Nat):Int)))):=by
 refine f_c Tryz.func170 ?_;refine r_z 1 ?_;refine ab_ (r_z 2 ?_);refine aj_ rfl (fun h=>?_) (fun h=>?_)
 have h0:i=0:=by
  have h1:(i:Int)=0:=by simpa using h
  omega
 rw[if_pos h0];refine r_z 2 ?_;refine af_ (Fin.cell rfl rfl rfl TG.h TS.h (nle rfl) (Cv.agg ?_));rw[qC0];exact ai_ (Cv.emp _) (ai_ (ak_ ax_ (ad_ _)) (ai_ (Cv.emp _) an_))
 have h0:i≠0:=by
  intro e;have h1:¬(i:Int)=0:=by simpa using h
  omega
 rw[if_neg h0]
 have hg:(pE p)[(((i:Nat):Int)- 1).toNat]?=some (qC (coP p (i- 1))):=by
  rw[show(((i:Nat):Int)- 1).toNat=i- 1 by omega];exact cS_ (bw_ (by omega))
 have hs:=ka_ hp (i- 1);have hq:=hY_ i (by omega);unfold sm at hs;refine ah_ (ab_ (r_d hmix 9 ?_));refine a_3 ?_;refine i_x hg ?_;refine l_x hg ?_;refine c_s (c2_ ((i:Nat):Int) (by omega)) ?_;refine c_s (dJ_ (coP p (i- 1)) ((i:Nat):Int) (by intro e;have e2:=congrArg Rat.num e;simp at e2;omega) (by omega)) ?_;refine a_1 ?_;refine al_ (n_k ?_);exact af_ (c_e (aC_ _))
theorem i3_(p:List Rat)(hp:smL p)(hp1:p.length≤1099511627775):FS 117 [.arr (pE p)] (.arr (pE (am_ p))):=by
 have he:=kM_ (p.length+1) (fun i=>if i=0 then 0 else coP p (i- 1) / ((i:Nat):Int)) 170 [bP p] (by omega) (aa_ (bu_ p) ac_) (fun i hi=>l8_ p i hp hi hp1);rw[show((p.length+1:Nat):Int)=((p.length:Nat):Int)+1 by omega] at he;refine f_c Tryz.func117 ?_;refine r_z 2 ?_;refine AWp.ent (st':=⟨[(1,bP p)],[],1,8⟩) ?_ ?_;exact s_e [];refine r_c 6 (he) ?_;refine a_z ?_;exact af_ (t_e (ar_ _))

def mulS(p:List Rat)(q:List Rat):Nat×List Rat→AState
 |(i,o)=>⟨[(1,.arr (pE q)),(5,.lsl 1 0 o.length (some o.length) 3),(25,.arr (pE p)),(26,i64 p.length),(27,i64 i)],[(1,some ⟨46,3,pE o⟩)],2,61⟩
def mulT(p:List Rat)(q:List Rat)(i:Nat)(a:Rat):Nat×List Rat→AState
 |(k,o)=>⟨[(1,.arr (pE q)),(5,.lsl 1 0 o.length (some o.length) 3),(6,i64 i),(7,.lptr 2 0 0),(25,.arr (pE p)),(26,i64 p.length),(27,i64 i),(35,.arr (pE q)),(36,i64 q.length),(37,i64 k)],[(1,some ⟨46,3,pE o⟩),(2,some ⟨46,3,[qC a]⟩)],3,61⟩
theorem fs_Mul(p q:List Rat)(s t:Nat)(hp:bdL p s)(hq:bdL q t)(hs:1≤s)(ht:1≤t)(h:p.length* (s+t+1)+1≤137438953472)(ht2:t≤137438953472)(hp1:p.length≤274877906944)(hq1:q.length≤274877906944):FS 76 [.arr (pE p),.arr (pE q)] (.arr (pE (mulP p q))):=by
 refine f_c Tryz.func76 ?_;refine r_z 1 ?_;refine aP_ (fun _:Unit=>⟨[(0,.arr (pE p)),(1,.arr (pE q))],[],1,61⟩) (fun _=>p≠[]∧q≠[]) ?_ ?_;by_cases h1:p=[];subst h1;refine s_r 8 ?_;refine a_4 ?_;refine n_g rfl (by simp) ?_;refine n_g rfl (by simp) ?_;refine n_g rfl (by simp) ?_;refine o_0 (.pickT rfl (by simp) rfl) ?_;refine al_ ?_;refine aj_ rfl (fun h=>?_) (fun h=>?_);refine r_z 1 ?_;refine af_ ?_;unfold mulP;rw[if_pos (.inl rfl)];exact Fin.tmpN rfl;cases h;have hp0:p.length≠0:=fun e=>h1 (List.length_eq_zero_iff.1 e);refine s_r 8 ?_;refine a_4 ?_;refine y_g rfl (by simp <;> omega) (.move rfl) ?_
 first|refine y_g rfl (by simp <;> omega) (.lenD rfl rfl rfl rfl te_33.h) ?_|refine y_g rfl (by simp <;> omega) (.lenI rfl rfl rfl rfl te_33.h) ?_|refine y_g rfl (by simp <;> omega) (.lenP rfl rfl rfl rfl te_33.h) ?_|refine y_g rfl (by simp <;> omega) (.lenC rfl rfl rfl rfl te_33.h) ?_|refine y_g rfl (by simp <;> omega) (.lenR rfl rfl rfl rfl te_33.h) ?_|refine y_g rfl (by simp <;> omega) (.len rfl rfl rfl rfl rfl te_33.h) ?_
 refine y_g rfl (by simp <;> omega) (.bin rfl rfl a3_) ?_;refine o_0 (.pickF rfl (by simp <;> omega) rfl) ?_;refine al_ ?_;refine aj_ rfl (fun h2=>?_) (fun h2=>?_)
 have hq0:q=[]:=by
  have:q.length=0:=by simpa using h2
  exact List.length_eq_zero_iff.1 this
 refine r_z 1 ?_;refine af_ ?_;unfold mulP;rw[if_pos (.inr hq0)];exact Fin.tmpN rfl
 have hq0:q≠[]:=by
  have:¬q.length=0:=by simpa using h2
  exact fun e=>this (by rw[e];rfl)
 refine ah_ ⟨(),⟨h1,hq0⟩,?_⟩;exact s_e [];rintro _ ⟨hp0,hq0⟩;have hpl:=List.length_pos_iff.2 hp0;have hql:=List.length_pos_iff.2 hq0;have hN:(p.length:Int)+q.length- 1=((p.length+q.length- 1:Nat):Int):=by omega
 refine s_r 8 ?_;refine a_6 ?_;refine o_1 (.makeSlice (l:=p.length+q.length- 1) (c:=p.length+q.length- 1) (by rw[←hN];rfl) (by rw[←hN];rfl) te_33.h TZ.h rfl TB.h (by first|omega|(simp;done)|(simp;omega)) (by first|omega|(simp;done)|(simp;omega)) (by unfold maxLen;first|omega|(simp;done)|(simp;omega))) ?_;refine a_z ?_;refine ab_ (r_z 3 ?_);have hbd:=fun i=>ky_ (de_ hp hs) (de_ hq ht) i
 have hbi:∀i,i≤p.length→i* (s+t+1)+1≤137438953472:=fun i hi=>by
  have:=Nat.mul_le_mul_right (s+t+1) hi;omega
 have hs2:s≤137438953472:=by
  have:=hbi 1 hpl;omega
 refine aw_ (fun _:Unit=>mulS p q (p.length,mulR p q p.length)) (fun _=>True) ?_ ?_;refine ae_ (aq_ (fun i:Nat=>mulS p q (i,mulR p q i)) (fun i=>p.length- i) (fun i=>i≤p.length) 0 (Nat.zero_le _) ?_ ?_);simp only[mulS.eq_1,mulR];exact s_x [(1,5)] (fun hs=>au_f) (fun hs=>e_26);rintro i hi;simp only[mulS.eq_1];refine r_z 1 ?_;refine ab_ (aj_ rfl (fun h=>?_) (fun h=>?_));refine ah_ ?_;have hlt:i< p.length:=by simpa using h
 have hgp:(pE p)[((i:Nat):Int).toNat]?=some (qC (coP p i)):=cS_ (bw_ hlt);refine ab_ (ae_ (s_r 6 ?_));refine a_1 ?_;refine i_x hgp ?_;refine l_x hgp ?_;refine a_z ?_;refine ab_ (r_c 3 (br_ (coP p i)) ?_);refine a_z ?_;refine aj_ rfl (fun h1=>?_) (fun h1=>?_)
 have h0:coP p i=0:=by
  have h1:sgZ (coP p i).num=0:=by simpa using h1
  exact sgZ_num_eq.1 h1
 have hst:mulR p q (i+1)=mulR p q i:=by rw[mulR,if_pos h0]
 refine ao_ (r_m 2 ?_);refine a_z ?_;refine⟨i+1,by omega,hlt,?_⟩;simp only[mulS.eq_1,hst];exact s_e []
 have h0:coP p i≠0:=by
  intro e;have h1:¬sgZ (coP p i).num=0:=by simpa using h1
  exact h1 (sgZ_num_eq.2 e)
 have hst:mulR p q (i+1)=rowP (mulR p q i) (coP p i) q i q.length:=by rw[mulR,if_neg h0]
 refine ah_ (r_z 3 ?_);refine AWp.cutB (fun _:Unit=>mulS p q (i,mulR p q (i+1))) (fun _=>True) ?_ ?_;refine ae_ (aq_ (fun k:Nat=>mulT p q i (coP p i) (k,rowP (mulR p q i) (coP p i) q i k)) (fun k=>q.length- k) (fun k=>k≤q.length) 0 (Nat.zero_le _) ?_ ?_);simp only[mulT.eq_1,rowP];exact s_e [(2,7)];rintro k hk;simp only[mulT.eq_1];refine r_z 1 ?_;refine ab_ (aj_ rfl (fun h2=>?_) (fun h2=>?_));refine ah_ ?_;have hlt2:k< q.length:=by simpa using h2
 have hgq:(pE q)[((k:Nat):Int).toNat]?=some (qC (coP q k)):=cS_ (bw_ hlt2);refine ab_ (ae_ (s_r 6 ?_));refine a_1 ?_;refine i_x hgq ?_;refine l_x hgq ?_;refine a_z ?_;have hb1:=hbd i;have hb2:=hbi (i+1) hlt;have hb3:=hbi i hi
 have hcur:qs (coP (rowP (mulR p q i) (coP p i) q i k) (i+k))≤137438953472:=by
  rw[km_ _ _ _ _ _ _ (by omega)];exact Nat.le_trans (hb1 (i+k)) hb3
 have hab:=cE_ (coP p i) (coP q k);have hqa:=de_ hp hs i;have hqb:=de_ hq ht k;have hik:i+k< (rowP (mulR p q i) (coP p i) q i k).length:=by simp;omega
 have hgo:(pE (rowP (mulR p q i) (coP p i) q i k))[(0+(((i:Nat):Int)+(k:Nat)).toNat)]?=some (qC (coP (rowP (mulR p q i) (coP p i) q i k) (i+k))):=by
  rw[show 0+(((i:Nat):Int)+(k:Nat)).toNat=i+k by omega];exact cS_ (bw_ hik)
 refine r_d hmix 16 ?_;refine a_8 ?_;refine a_1 ?_
 first|refine aA_ (.load_l rfl rfl hgo TG.h TS.h (nle rfl)) rfl rfl ?_|refine aA_ (.load_a rfl hgo TG.h TS.h (nle rfl)) rfl rfl ?_
 refine c_s (bK_ (coP p i) (coP q k) (by omega)) ?_;refine c_s (dy_ (coP (rowP (mulR p q i) (coP p i) q i k) (i+k)) (coP p i* coP q k) (by omega)) ?_;refine a_1 ?_;refine o_1n (.store rfl rfl hgo rfl rfl rfl TS.h (nle rfl)) ?_;refine al_ (n_k ?_);refine r_m 2 ?_;refine a_z ?_;refine⟨k+1,by omega,hlt2,?_⟩
 have hst2:(pE (rowP (mulR p q i) (coP p i) q i k)).set (0+(((i:Nat):Int)+(k:Nat)).toNat) (qC (coP (rowP (mulR p q i) (coP p i) q i k) (i+k)+coP p i* coP q k))=pE (rowP (mulR p q i) (coP p i) q i (k+1)):=by
  rw[show 0+(((i:Nat):Int)+(k:Nat)).toNat=i+k by omega,gm_];rfl
 have hl2:(rowP (mulR p q i) (coP p i) q i (k+1)).length=(rowP (mulR p q i) (coP p i) q i k).length:=by simp
 simp only[mulT.eq_1,hl2];exact s_x [] (fun hs=>au_f) (fun hs=>e_27) e_1
 have hge:k=q.length:=by
  have:¬k< q.length:=by simpa using h2
  omega
 subst hge;refine ao_ ⟨(),trivial,?_⟩;simp only[mulS.eq_1,hst];exact s_e [];rintro _ _;simp only[mulS.eq_1];refine r_m 2 ?_;refine a_z ?_;refine⟨i+1,by omega,hlt,?_⟩;exact s_e []
 have hge:i=p.length:=by
  have:¬i< p.length:=by simpa using h
  omega
 subst hge;refine ao_ ⟨(),trivial,?_⟩;simp only[mulS.eq_1];exact s_e [];rintro _ _;simp only[mulS.eq_1]
 have hfull:List.take (mulR p q p.length).length (List.drop 0 (pE (mulR p q p.length)))=pE (mulR p q p.length):=by
  rw[List.drop_zero,List.take_of_length_le (by simp)]
 have hfin:mulP p q=trimQ (mulR p q p.length):=by
  unfold mulP;rw[if_neg (by rintro(h|h);exact hp0 h;exact hq0 h)]
 rw[hfin];refine s_r 3 ?_;refine a_1 ?_;refine o_1 (.callS1 rfl rfl rfl (.shut rfl d_n (.nil)) rfl ((by rw[hfull];exact ce_ (mulR p q p.length) (by simp;omega)))) ?_;refine a_z ?_;exact af_ (t_e (ar_ _))
theorem os_Clone(l:List Rat)(h0:l≠[])(hl:l.length≤1099511627776):OSpec Tryz.prog 143 [.arr (pE l)] 46 3 (pE l):=by
 have hne:pE l≠[]:=by
  intro e;exact h0 (List.length_eq_zero_iff.1 (by rw[←rc_,e];rfl))
 refine OSpec.enter Tryz.func143 rfl (by kernel_rfl) rfl rfl rfl ?_ ?_ rfl ?_;exact aa_ (aB_ (aI_ _)) ac_;exact aI_ l;refine r_z 1 ?_;refine ab_ (s_r 2 ?_);refine a_1 ?_
 first|refine aA_ (.nilq_v rfl rfl te_33.h) rfl rfl ?_|refine aA_ (.nilq_arr rfl (hne) rfl te_33.h) rfl rfl ?_
 refine al_ ?_;refine cF ?_
 ·refine ah_ (s_r 4 ?_)
  refine a_2 ?_;refine o_2 (.append_l rfl rfl rfl te_33.h rfl rfl rfl rfl rfl d_o (by first|exact cU_ _|exact cT_ _|exact ci_ _|exact cV_ _|exact cD_ _|assumption|rfl|simp) (by first|rfl|exact cU_ _|exact cT_ _|exact ci_ _|exact cV_ _|exact cD_ _|simp) rfl (.arr (f1_ _)) TZ.h rfl TB.h d_o (by first|(simp[maxLen];done)|(simp[maxLen];omega))) ?_;refine a_z ?_;exact af_ (FinO.tmp rfl rfl rfl (by simp))
theorem os_Trim(l:List Rat)(h0:trimQ l≠[])(hl:l.length≤1099511627776):OSpec Tryz.prog 77 [.arr (pE l)] 46 3 (pE (trimQ l)):=by
 refine OSpec.enter Tryz.func77 rfl (by kernel_rfl) rfl rfl rfl ?_ ?_ rfl ?_;exact aa_ (aB_ (aI_ _)) ac_;exact aI_ _;refine r_z 1 ?_;refine r_z 3 ?_;refine aP_ (trS l) (fun n=>n≤l.length∧trimQ l=l.take n) ?_ ?_;refine ae_ (aq_ (trS l) (fun n=>n) (fun n=>n≤l.length∧trimQ l=trimQ (l.take n)) l.length ⟨Nat.le_refl _,by rw[List.take_length]⟩ ?_ ?_);simp only[trS.eq_1];exact s_e [];rintro n ⟨hn,ht⟩;rw[trS.eq_1];cases n with
 |zero=>exact absurd (ht.trans rfl) h0
 |succ n=>
  obtain⟨q,hq⟩:∃q,l[n]?=some q:=⟨_,List.getElem?_eq_getElem (by omega)⟩
  have hq':(pE l)[(((n+1:Nat):Int)- 1).toNat]?=some (qC q):=by
   rw[show(((n+1:Nat):Int)- 1).toNat=n by omega];exact cS_ hq
  have hs:trimQ (l.take (n+1))=if q=0 then trimQ (l.take n) else l.take (n+1):=by
   rw[bm_ hq,fk_]
  refine ab_ (s_r 11 ?_);refine a_3 ?_;refine y_g rfl (by simp <;> omega) (.move rfl) ?_;refine y_g rfl (by simp <;> omega) (.move rfl) ?_;refine y_g rfl (by simp <;> omega) (.bin rfl rfl (gO_ (by omega))) ?_
  first|refine y_g rfl (by simp <;> omega) (.index_l rfl rfl (by omega) (by omega) te_33.h) ?_|refine y_g rfl (by simp <;> omega) (.index_a rfl rfl (by omega) hq' rfl te_33.h) ?_
  first|refine y_g rfl (by simp <;> omega) (.load_l rfl rfl hq' TG.h TS.h (nle rfl)) ?_|refine y_g rfl (by simp <;> omega) (.load_a rfl hq' TG.h TS.h (nle rfl)) ?_
  refine y_g rfl (by simp <;> omega) (.call rfl rfl rfl (br_ q)) ?_;refine y_g rfl (by simp <;> omega) (.bin rfl rfl a3_) ?_;refine o_0 (.pickT rfl (by simp <;> omega) rfl) ?_;refine al_ ?_;refine aj_ rfl (fun h=>?_) (fun h=>?_)
  have h0:q=0:=by
   have h1:sgZ q.num=0:=by simpa using h
   exact sgZ_num_eq.1 h1
  refine ah_ (ae_ (r_m 3 ?_));refine a_z ?_;refine⟨n,Nat.lt_succ_self n,⟨by omega,?_⟩,?_⟩;rw[ht,hs,if_pos h0];simp only[trS.eq_1];exact s_e []
  have h0:q≠0:=by
   intro e;have h1:¬sgZ q.num=0:=by simpa using h
   exact h1 (sgZ_num_eq.2 e)
  refine ao_ ⟨n+1,⟨hn,?_⟩,?_⟩;rw[ht,hs,if_neg h0];simp only[trS.eq_1];exact s_e []
 rintro n ⟨hn,ht⟩;rw[trS.eq_1];rw[ht] at h0;have hcl:=os_Clone (l.take n) h0 (by simp;omega);refine s_r 5 ?_;refine a_2 ?_;refine o_0 (.sa_h rfl rfl (h:=n) rfl (by simp;omega) te_33.h (f1_ _)) ?_;refine o_1 (.callO rfl rfl rfl ((by rw[kt_];exact hcl))) ?_;refine a_z ?_;refine af_ ?_;rw[ht];exact FinO.tmp rfl rfl rfl (by simp)
def dvS(q:List Rat)(lead:Rat):Nat×List Rat×List Rat→AState
 |(c,u,o)=>⟨[(0,.lsl 1 0 o.length none 3),(1,.arr (pE q)),(4,.lsl 2 0 u.length (some u.length) 3),(6,.lptr 3 0 0),(7,i64 ((c:Int)- 1))],[(1,some ⟨46,3,pE o⟩),(2,some ⟨46,3,pE u⟩),(3,some ⟨46,3,[qC lead]⟩)],4,82⟩
def dvT(q:List Rat)(lead:Rat)(n:Nat)(u:List Rat)(k:Rat):Nat×List Rat→AState
 |(i,o)=>⟨[(0,.lsl 1 0 o.length none 3),(1,.arr (pE q)),(4,.lsl 2 0 u.length (some u.length) 3),(6,.lptr 3 0 0),(7,i64 n),(8,.lptr 4 0 0),(55,.arr (pE q)),(56,i64 q.length),(57,i64 i)],[(1,some ⟨46,3,pE o⟩),(2,some ⟨46,3,pE u⟩),(3,some ⟨46,3,[qC lead]⟩),(4,some ⟨46,3,[qC k]⟩)],5,82⟩
theorem iY_(p q:List Rat)(s t:Nat)(hp:bdL p s)(hq:bdL q t)(hs:1≤s)(ht:1≤t)(h:2^ ((trimQ p).length+1- (trimQ q).length) * (s+2* t+1)≤137438953472)(hq0:trimQ q≠[])(hp1:p.length≤274877906944)(hq1:q.length≤274877906944):FS 260 [.arr (pE p),.arr (pE q)] (.tup [.arr (pE (divP p q).1),.arr (pE (divP p q).2)]):=by
 have hlp:=a8_ p;have hlq:=a8_ q;have hql:=List.length_pos_iff.2 hq0
 have hg:(pE (trimQ q))[(((trimQ q).length:Int)- 1).toNat]?=some (qC (leadP q)):=by
  rw[show(((trimQ q).length:Int)- 1).toNat=(trimQ q).length- 1 by omega];exact cS_ (cG_ (by omega))
 have hne:=fu_ hq0;obtain⟨m,hm⟩:∃m,m=(trimQ p).length+1- (trimQ q).length:=⟨_,rfl⟩;have hmx:(if (0:Int)>((trimQ p).length:Int)- (trimQ q).length+1 then(0:Int) else((trimQ p).length:Int)- (trimQ q).length+1)=(m:Int):=by split <;> omega
 have hB:divB (trimQ q) (leadP q) 137438953472 m (List.replicate m 0) (trimQ p):=by
  refine⟨s,t,de_ (fun x hx=>hp x (bp_ hx)) hs,de_ (fun x hx=>hq x (bp_ hx)) ht,hq _ (bp_ (List.mem_of_getElem? (cG_ (n:=(trimQ q).length- 1) (by omega)))),ht,fun n=>?_,by rw[hm];exact h⟩
  have:coP (List.replicate m 0) n=0:=by
   unfold coP;rw[List.getD_eq_getElem?_getD,List.getElem?_replicate];split <;> rfl
  rw[this];decide
 have hdv:divP p q=(trimQ (divR (trimQ q) (leadP q) m (List.replicate m 0) (trimQ p)).1,trimQ (divR (trimQ q) (leadP q) m (List.replicate m 0) (trimQ p)).2):=by rw[hm];rfl
 rw[hdv];refine f_c Tryz.func260 ?_;refine r_z 2 ?_;by_cases hp0:trimQ p=[]
 ·have hm0:m=0:=by rw[hm,hp0];simp;omega
  subst hm0;rw[hp0] at hmx⊢;have htp:=ce_ p (by omega);rw[hp0] at htp;refine r_c 6 (htp) ?_;refine c_s (ce_ q (by omega)) ?_;refine a_z ?_;refine s_r 8 ?_;refine a_4 ?_;refine i_x hg ?_;refine l_x hg ?_;refine a_z ?_;refine s_r 9 ?_;refine a_7 ?_;refine o_1 (.makeSlice (l:=0) (c:=0) (by rw[←hmx];rfl) (by rw[←hmx];rfl) te_33.h TZ.h rfl TB.h (by first|omega|(simp;done)|(simp;omega)) (by first|omega|(simp;done)|(simp;omega)) (by unfold maxLen;first|omega|(simp;done)|(simp;omega))) ?_;refine a_z ?_;refine ab_ (r_z 6 ?_);refine aw_ (fun _:Unit=>⟨[(0,.arr (pE [])),(4,.lsl 2 0 0 (some 0) 3)],[(2,some ⟨46,3,[]⟩)],3,82⟩) (fun _=>True) ?_ ?_;refine ae_ (aq_ (fun _:Unit=>⟨[(0,.arr (pE [])),(4,.lsl 2 0 0 (some 0) 3),(7,i64 (0- ((trimQ q).length:Int)))],[(2,some ⟨46,3,[]⟩)],3,82⟩) (fun _=>0) (fun _=>True) () trivial ?_ ?_);exact s_x [(2,4)] (fun hs=>au_f) (fun hs=>e_15);rintro _ _;refine ab_ (r_z 2 ?_);refine aj_ rfl (fun h1=>?_) (fun h1=>?_);exact absurd h1 (by simp;omega);refine ao_ ⟨(),trivial,?_⟩;exact s_x [] (fun hs=>au_f) (fun hs=>e_15);rintro _ _;refine s_r 6 ?_;refine a_1 ?_;refine o_1 (.callS1 rfl rfl rfl (.shut rfl d_n (.nil)) rfl ((ce_ [] (by simp)))) ?_;refine c_s (ce_ [] (by simp)) ?_;refine a_z ?_;refine af_ (Fin.many ⟨_,_,rfl,rfl,⟨_,_,rfl,rfl,rfl⟩⟩ (nle rfl) ?_);exact ai_ (ak_ ax_ (ar_ _)) (ai_ (ak_ ax_ (ar_ _)) an_)
 have hpl:=List.length_pos_iff.2 hp0;have hto:=os_Trim p hp0 (by omega);have hdl:=eO_ (trimQ q) (leadP q) m (List.replicate m 0) (trimQ p);have hend:=nr_ hB;refine s_r 6 ?_;refine a_1 ?_;refine o_1 (.callO rfl rfl rfl (hto)) ?_;refine c_s (ce_ q (by omega)) ?_;refine a_z ?_;refine AWp.ent (st':=⟨[(0,.lsl 1 0 (trimQ p).length none 3),(1,.arr (pE (trimQ q)))],[(1,some ⟨46,3,pE (trimQ p)⟩)],2,82⟩) ?_ ?_;exact s_e [(1,0)];refine s_r 8 ?_;refine a_4 ?_;refine i_x hg ?_;refine l_x hg ?_;refine a_z ?_;refine s_r 9 ?_;refine a_7 ?_;refine o_1 (.makeSlice (l:=m) (c:=m) (by rw[←hmx];rfl) (by rw[←hmx];rfl) te_33.h TZ.h rfl TB.h (by first|omega|(simp;done)|(simp;omega)) (by first|omega|(simp;done)|(simp;omega)) (by unfold maxLen;first|omega|(simp;done)|(simp;omega))) ?_;refine a_z ?_;refine ab_ (r_z 6 ?_);refine aw_ (fun x:List Rat×List Rat=>⟨[(0,.lsl 1 0 x.2.length none 3),(4,.lsl 2 0 x.1.length (some x.1.length) 3)],[(1,some ⟨46,3,pE x.2⟩),(2,some ⟨46,3,pE x.1⟩)],3,82⟩) (fun x=>x=divR (trimQ q) (leadP q) m (List.replicate m 0) (trimQ p)) ?_ ?_;refine ae_ ?_;by_cases hab:(trimQ p).length< (trimQ q).length;have hm0:m=0:=by omega
 subst hm0;refine aq_ (fun _:Unit=>⟨[(0,.lsl 1 0 (trimQ p).length none 3),(4,.lsl 2 0 0 (some 0) 3),(7,i64 (((trimQ p).length:Int)- ((trimQ q).length:Int)))],[(1,some ⟨46,3,pE (trimQ p)⟩),(2,some ⟨46,3,[]⟩)],3,82⟩) (fun _=>0) (fun _=>True) () trivial ?_ ?_;exact s_x [(1,0),(2,4)] (fun hs=>au_f) (fun hs=>e_15);rintro _ _;refine ab_ (r_z 2 ?_);refine aj_ rfl (fun h1=>?_) (fun h1=>?_);exact absurd h1 (by simp;omega);refine ao_ ⟨([],trimQ p),rfl,?_⟩;exact s_f [];refine aq_ (fun x:Nat×List Rat×List Rat=>dvS (trimQ q) (leadP q) x) (fun x=>x.1) (fun x=>x.1≤m∧x.2.1.length=m∧x.2.2.length=(trimQ p).length∧divB (trimQ q) (leadP q) 137438953472 x.1 x.2.1 x.2.2∧divR (trimQ q) (leadP q) x.1 x.2.1 x.2.2=divR (trimQ q) (leadP q) m (List.replicate m 0) (trimQ p)) (m,List.replicate m 0,trimQ p) ⟨Nat.le_refl _,by simp,rfl,hB,rfl⟩ ?_ ?_;simp only[dvS.eq_1];have hm1:((trimQ p).length:Int)- (trimQ q).length=(m:Int)- 1:=by omega
 rw[hm1];exact s_x [(1,0),(2,4),(3,6)] (fun hs=>au_f) (fun hs=>e_26);rintro⟨c,u,o⟩ ⟨hc,hu,ho,hb,hr⟩;simp only at hc hu ho hb hr;simp only[dvS.eq_1];cases c with
 |zero=>
  refine ab_ (r_z 2 ?_);refine aj_ rfl (fun h1=>?_) (fun h1=>?_);exact absurd h1 (by simp);refine ao_ ⟨(u,o),hr,?_⟩;exact s_e []
 |succ n=>
  obtain⟨B,tt,hb1,hb2,hb3,hb4⟩:=oX_ hb;have hcn:((n+1:Nat):Int)- 1=(n:Int):=by omega
  rw[hcn];refine ab_ (r_z 2 ?_);refine aj_ rfl (fun h1=>?_) (fun h1=>?_);refine ah_ ?_;obtain⟨k,hk⟩:∃k,k=coP o (n+(trimQ q).length- 1) / leadP q:=⟨_,rfl⟩;have hst:=mo_ hb;rw[divR] at hr;rw[←hk] at hst hr
  have hgo:(pE o)[(0+(((n:Nat):Int)+((trimQ q).length:Nat)- 1).toNat)]?=some (qC (coP o (n+(trimQ q).length- 1))):=by
   rw[show 0+(((n:Nat):Int)+((trimQ q).length:Nat)- 1).toNat=n+(trimQ q).length- 1 by omega];exact cS_ (bw_ (by omega))
  have hov:=dJ_ (coP o (n+(trimQ q).length- 1)) (leadP q) hne (by have:=hb1 (n+(trimQ q).length- 1);omega);rw[←hk] at hov
  have hgu:(pE u)[0+((n:Nat):Int).toNat]?=some (qC (coP u n)):=by
   rw[show 0+((n:Nat):Int).toNat=n by omega];exact cS_ (bw_ (by omega))
  refine ab_ (ae_ (ab_ (r_d hmix 12 ?_)));refine a_7 ?_
  first|refine aA_ (.load_l rfl rfl hgo TG.h TS.h (nle rfl)) rfl rfl ?_|refine aA_ (.load_a rfl hgo TG.h TS.h (nle rfl)) rfl rfl ?_
  refine c_s (hov) ?_;refine a_2 ?_;refine al_ (n_k ?_);refine s_r 5 ?_;refine a_4 ?_;refine o_1n (.store rfl rfl hgu rfl rfl rfl TS.h (nle rfl)) ?_;refine al_ ?_
  have hsu:(pE u).set (0+((n:Nat):Int).toNat) (qC k)=pE (u.set n k):=by
   rw[show 0+((n:Nat):Int).toNat=n by omega,gm_]
  have hlu:(u.set n k).length=u.length:=by simp
  refine ab_ (r_c 3 (br_ k) ?_);refine a_z ?_;refine aj_ rfl (fun h2=>?_) (fun h2=>?_)
  have h0:k=0:=by
   have h2:sgZ k.num=0:=by simpa using h2
   exact sgZ_num_eq.1 h2
  rw[if_pos h0] at hst hr;refine ao_ (r_m 3 ?_);refine a_z ?_;refine⟨(n,u.set n k,o),Nat.lt_succ_self n,⟨by omega,by simp only;omega,ho,hst,hr⟩,?_⟩;simp only[dvS.eq_1,hlu];exact s_f []
  have h0:k≠0:=by
   intro e;have h2:¬sgZ k.num=0:=by simpa using h2
   exact h2 (sgZ_num_eq.2 e)
  rw[if_neg h0] at hst hr;refine ah_ (r_z 3 ?_);refine AWp.cutB (fun _:Unit=>⟨[(0,.lsl 1 0 o.length none 3),(1,.arr (pE (trimQ q))),(4,.lsl 2 0 u.length (some u.length) 3),(6,.lptr 3 0 0),(7,i64 n)],[(1,some ⟨46,3,pE (rowM o k (trimQ q) n (trimQ q).length)⟩),(2,some ⟨46,3,pE (u.set n k)⟩),(3,some ⟨46,3,[qC (leadP q)]⟩)],4,82⟩) (fun _=>True) ?_ ?_;refine ae_ (aq_ (fun i:Nat=>dvT (trimQ q) (leadP q) n (u.set n k) k (i,rowM o k (trimQ q) n i)) (fun i=>(trimQ q).length- i) (fun i=>i≤(trimQ q).length) 0 (Nat.zero_le _) ?_ ?_);simp only[dvT.eq_1,rowM,hlu];exact s_f [(4,8)];rintro i hi;simp only[dvT.eq_1];refine r_z 1 ?_;refine ab_ (aj_ rfl (fun h3=>?_) (fun h3=>?_));refine ah_ ?_;have hlt2:i< (trimQ q).length:=by simpa using h3
  have hgq:(pE (trimQ q))[((i:Nat):Int).toNat]?=some (qC (coP (trimQ q) i)):=cS_ (bw_ hlt2)
  have hcur:qs (coP (rowM o k (trimQ q) n i) (n+i))≤B:=by
   rw[n5_ _ _ _ _ _ _ (by omega)];exact hb1 _
  have hkq:qs k≤B+tt:=by
   have e1:=e1_ (coP o (n+(trimQ q).length- 1)) (leadP q);have e2:=hb1 (n+(trimQ q).length- 1);rw[hk];omega
  have hkm:=cE_ k (coP (trimQ q) i);have hqi:=hb2 i;have hik:n+i< (rowM o k (trimQ q) n i).length:=by simp;omega
  have hgr:(pE (rowM o k (trimQ q) n i))[(0+(((n:Nat):Int)+(i:Nat)).toNat)]?=some (qC (coP (rowM o k (trimQ q) n i) (n+i))):=by
   rw[show 0+(((n:Nat):Int)+(i:Nat)).toNat=n+i by omega];exact cS_ (bw_ hik)
  refine ab_ (ae_ (s_r 6 ?_));refine a_1 ?_;refine i_x hgq ?_;refine l_x hgq ?_;refine a_z ?_;refine r_d hmix 16 ?_;refine a_8 ?_;refine a_1 ?_
  first|refine aA_ (.load_l rfl rfl hgr TG.h TS.h (nle rfl)) rfl rfl ?_|refine aA_ (.load_a rfl hgr TG.h TS.h (nle rfl)) rfl rfl ?_
  refine c_s (bK_ k (coP (trimQ q) i) (by omega)) ?_;refine c_s (gz_ (coP (rowM o k (trimQ q) n i) (n+i)) (k* coP (trimQ q) i) (by omega)) ?_;refine a_1 ?_;refine o_1n (.store rfl rfl hgr rfl rfl rfl TS.h (nle rfl)) ?_;refine al_ (n_k ?_);refine r_m 2 ?_;refine a_z ?_;refine⟨i+1,by omega,hlt2,?_⟩
  have hst2:(pE (rowM o k (trimQ q) n i)).set (0+(((n:Nat):Int)+(i:Nat)).toNat) (qC (coP (rowM o k (trimQ q) n i) (n+i)- k* coP (trimQ q) i))=pE (rowM o k (trimQ q) n (i+1)):=by
   rw[show 0+(((n:Nat):Int)+(i:Nat)).toNat=n+i by omega,gm_];rfl
  have hl2:(rowM o k (trimQ q) n (i+1)).length=(rowM o k (trimQ q) n i).length:=by simp
  simp only[dvT.eq_1,hl2];exact s_x [] (fun hs=>au_f) (fun hs=>e_27) e_1
  have hge:i=(trimQ q).length:=by
   have:¬i< (trimQ q).length:=by simpa using h3
   omega
  subst hge;refine ao_ ⟨(),trivial,?_⟩;rw[fX_,hlu];exact s_e [];rintro _ _;refine r_m 3 ?_;refine a_z ?_;refine⟨(n,u.set n k,rowM o k (trimQ q) n (trimQ q).length),Nat.lt_succ_self n,⟨by omega,by simp only;omega,by simp only;rw[fX_];exact ho,hst,hr⟩,?_⟩;simp only[dvS.eq_1,hlu,fX_];exact s_e [];exact absurd h1 (by simp)
 rintro⟨u,o⟩ hx;rw[←hx] at hdl hend⊢;simp only at hdl hend⊢;have hlu:u.length≤274877906945:=by rw[hdl.1];simp;omega
 have hfu:List.take u.length (List.drop 0 (pE u))=pE u:=by rw[List.drop_zero,List.take_of_length_le (by simp)]
 have hfo:List.take o.length (List.drop 0 (pE o))=pE o:=by rw[List.drop_zero,List.take_of_length_le (by simp)]
 refine s_r 6 ?_;refine a_1 ?_;refine o_1 (.callS1 rfl rfl rfl (.shut rfl d_n (.nil)) rfl ((by rw[hfu];exact ce_ u (by omega)))) ?_;refine a_1 ?_;refine o_1 (.callS1 rfl rfl rfl (.shut rfl d_n (.nil)) rfl ((by rw[hfo];exact ce_ o (by rw[hdl.2];omega)))) ?_;refine a_z ?_;refine af_ (Fin.many ⟨_,_,rfl,rfl,⟨_,_,rfl,rfl,rfl⟩⟩ (nle rfl) ?_);exact ai_ (ak_ ax_ (ar_ _)) (ai_ (ak_ ax_ (ar_ _)) an_)
def gcS:List Rat×List Rat→AState
 |(p,q)=>⟨[(0,.arr (pE p)),(1,.arr (pE q))],[],1,21⟩
theorem rO_(p:List Rat)(q:List Rat):gcS (p,q)=⟨[(0,.arr (pE p)),(1,.arr (pE q))],[],1,21⟩:=rfl
theorem degP_neg{l:List Rat}:degP l< 0↔trimQ l=[]:=by
 unfold degP;constructor;intro h;exact List.length_eq_zero_iff.1 (by omega);intro h;rw[h];decide
theorem fs_Gcd(f:Nat)(p q g:List Rat)(h:gcdM f p q=some g)(hp1:p.length≤274877906944)(hq1:q.length≤274877906944):FS 261 [.arr (pE p),.arr (pE q)] (.arr (pE g)):=by
 refine f_c Tryz.func261 ?_;refine r_z 1 ?_;refine aP_ (fun p:List Rat=>⟨[(0,.arr (pE p))],[],1,21⟩) (fun p=>smL p∧p.length≤274877906944∧g=e3_ p) ?_ ?_;refine ae_ (aq_ (fun x:Nat×List Rat×List Rat=>gcS x.2) (fun x=>x.1) (fun x=>gcdM x.1 x.2.1 x.2.2=some g∧x.2.1.length≤274877906944∧x.2.2.length≤274877906944) (f,p,q) ⟨h,hp1,hq1⟩ ?_ ?_);simp only[rO_];exact s_e [];rintro⟨f,p,q⟩ ⟨h,hp1,hq1⟩;simp only at h hp1 hq1;simp only[rO_];cases f with
 |zero=>cases h
 |succ f=>
  rw[gcdM] at h;refine ab_ (r_c 3 (b5_ q (by omega)) ?_);refine a_z ?_;refine aj_ rfl (fun h1=>?_) (fun h1=>?_)
  ·have hq0:trimQ q≠[]:=by
    intro e;have e2:=degP_neg.2 e;simp at h1;omega
   rw[if_neg hq0] at h;split at h
   case isFalse=>cases h
   case isTrue hs=>
   have hl:=k1_ (p:=p) (q:=q);have hm:=px_ (divP p q).2;refine ah_ (ae_ (r_c 8 (iY_ p q (mxL p) (mxL q) (c3_ p) (c3_ q) (cW_ p) (cW_ q) hs.1 hq0 hp1 hq1) ?_));refine a_z ?_;refine r_m 5 ?_;refine c_s (kJ_ (divP p q).2 (ns_ hs hq0).2 (by omega)) ?_;refine a_z ?_;refine⟨(f,q,e3_ (divP p q).2),Nat.lt_succ_self f,⟨h,hq1,by simp only;omega⟩,?_⟩;simp only[rO_];exact s_e []
  ·have hq0:trimQ q=[]:=by
    refine degP_neg.1 ?_;simp at h1;omega
   rw[if_pos hq0] at h;split at h
   case isFalse=>cases h
   case isTrue hs=>
   cases h;refine ao_ ⟨p,⟨hs,hp1,rfl⟩,?_⟩;exact s_e []
 rintro p ⟨hs,hp1,rfl⟩;refine r_c 3 (kJ_ p hs (by omega)) ?_;refine a_z ?_;exact af_ (t_e (ar_ _))

theorem eH_(l:List Rat)(hl:l.length≤281474976710656):GSpec Tryz.prog 213 [bP l] (backP l):=by
 refine GSpec.enter Tryz.func213 rfl (by kernel_rfl) rfl rfl rfl ?_ ?_ rfl ?_;exact aa_ (bu_ l) ac_;intro k xs h;unfold backP at h;split at h;cases h;exact aa_ (ad_ _) (aa_ (aC_ _) ac_);cases h;intro ll N E;refine GWp.seq ?_;refine GWp.lift ?_;refine r_m 4 ?_;refine a_z ?_;refine GWp.block ?_;refine GWp.loopS (fun m:Nat=>⟨[(0,.v (.func (.yield ll) #[] #[])),(1,bP l),(3,i64 ((m:Int)- 1))],[],1,19⟩) (fun m=>l.length- m) (fun m=>m) (fun m=>m≤l.length) l.length (Nat.le_refl _) (by simp) ?_ ?_;exact s_e [];intro m hm;refine GWp.seq ?_;refine GWp.seq ?_;refine GWp.lift ?_;refine r_m 2 ?_;refine a_z ?_;refine GWp.cond rfl (fun h=>?_) (fun h=>?_)
 ·refine GWp.skip ?_
  have hm1:1≤m:=by have:=of_decide_eq_true h;omega
  have hx':(pE l)[((m:Int)- 1).toNat]?=some (qC (coP l (m- 1))):=by rw[show((m:Int)- 1).toNat=m- 1 by omega];exact cS_ (bw_ (by omega))
  refine GWp.seq ?_;refine GWp.block ?_;refine GWp.seq ?_;refine GWp.regY (fr2:=[(0,.v (.func (.yield ll) #[] #[])),(1,bP l),(3,i64 ((m:Int)- 1)),(11,.v (.func (.yield ll) #[] #[])),(12,i64 ((m:Int)- 1)),(16,.agg (qC (coP l (m- 1))))]) (hp2:=[]) (nx2:=1) 6 rfl rfl rfl rfl rfl rfl ?_ rfl rfl rfl ?_ ?_ ?_;refine o_0 (.move rfl) ?_;refine o_0 (.move rfl) ?_
  first|refine aA_ (.load_l1 rfl rfl rfl TG.h rfl) rfl rfl ?_|refine aA_ (.load_a1 rfl rfl TG.h rfl) rfl rfl ?_
  refine o_0 (.move rfl) ?_;refine i_x hx' ?_;refine l_x hx' ?_;refine al_ ?_;exact s_y [] (fun hs=>au_f) (fun hs=>au_h);rotate_left 2;intro go;refine o_0 (.un rfl cR_) ?_;refine al_ ?_;rotate_left;unfold backP;rw[if_pos (by omega)];have e1:((l.length- 1- (l.length- m):Nat):Int)=(m:Int)- 1:=by omega
  have e2:l.length- 1- (l.length- m)=m- 1:=by omega
  rw[e1,e2];rfl;exact aa_ (ad_ _) (aa_ (aC_ _) ac_);cases go with
  |false=>
   refine GWp.cond rfl (fun h=>?_) (fun h=>?_);exact GWp.ret ⟨.inr rfl,fun h=>by cases h⟩;cases h
  |true=>
   refine GWp.cond rfl (fun h=>?_) (fun h=>?_);cases h;refine GWp.skip ?_;refine GWp.lift ?_;refine r_m 3 ?_;refine a_z ?_;refine⟨rfl,m- 1,by omega,by omega,by omega,?_⟩;exact s_e []
 refine GWp.exit ⟨.inl rfl,fun _=>?_⟩;have:m=0:=by have:=of_decide_eq_false h;omega
 subst this;unfold backP;rw[if_neg (by omega)]
theorem eL_(l:List Rat):FS 174 [.arr (pE l)] (.clos 213 [] [bP l]):=by
 refine f_c Tryz.func174 ?_;refine r_z 2 ?_;refine r_z 2 ?_;refine af_ (⟨.inr rfl,[_],⟨_,[],rfl,rfl,rfl⟩,?_⟩);exact Cv.clos an_ (ai_ (Cv.boxp ax_ rfl (fun _ _ h=>by cases h) rfl (aa_ (ar_ l) ac_)) an_)
def hoS(p:List Rat)(g:Nat)(cap:List AV)(w:Nat→Rat):Nat→AState
 |k=>⟨[(4,.lptr 1 0 0),(5,.aptr [[.clos g [] cap]] 0 0),(6,.lptr 2 0 0),(10,.clos 213 [] [bP p])],[(1,some ⟨46,3,[qC (w k)]⟩),(2,some ⟨46,3,[zC]⟩)],3,18⟩
theorem pO_(p:List Rat)(g:Nat)(cap:List AV)(w:Nat→Rat)(hl:p.length≤281474976710656)(hcap:∀c∈cap,Closed c)(hg:∀k,k< p.length→FS g ((.agg (qC (w k)):: .agg (qC (coP p (p.length- 1- k)))::cap).map coe) (.agg (qC (w (k+1))))):FS 129 [.arr (pE p),.agg (qC (w 0)),.clos g [] cap] (.agg (qC (w p.length))):=by
 have hb:=eL_ p;have hgs:=eH_ p hl;have hcc:Closed (.clos g [] cap):=aG_ ac_ hcap;have hcc2:Closed (.aptr [[.clos g [] cap]] 0 0):=aL_ (aa_ hcc ac_);have hcl2:Closed (.clos 213 [] [bP p]):=aG_ ac_ (aa_ (bu_ p) ac_);refine f_c Tryz.func129 ?_;refine r_z 3 ?_;refine AWp.ent (st':=⟨[(0,.arr (pE p)),(4,.lptr 1 0 0),(5,.aptr [[.clos g [] cap]] 0 0),(6,.lptr 2 0 0)],[(1,some ⟨46,3,[qC (w 0)]⟩),(2,some ⟨46,3,[zC]⟩)],3,18⟩) ?_ ?_;have:=aa_ hcc ac_;exact s_f [(1,4),(2,6)];refine ab_ (r_c 2 (hb) ?_);refine al_ ?_;refine aw_ (fun _:Unit=>⟨[(4,.lptr 1 0 0),(6,.lptr 2 0 0)],[(1,some ⟨46,3,[qC (w p.length)]⟩),(2,some ⟨46,3,[zC]⟩)],3,18⟩) (fun _=>True) ?_ ?_;refine ae_ (AWp.rangeFunc (α:=Nat) (γ:=Empty) p.length (hoS p g cap w) (fun k=>k) (fun k=>k≤p.length) (fun e=>nomatch e) (fun _ e=>nomatch e) 0 rfl hgs rfl rfl ?_ (fun _=>⟨rfl,rfl⟩) (fun e=>nomatch e) (Nat.zero_le _) rfl (fun _ h=>h) ?_ ?_ ?_ ?_ (fun _ e=>nomatch e));intro k xs hT;unfold backP at hT;split at hT;cases hT;rfl;cases hT;rw[hoS.eq_1];exact s_y [] (fun hs=>au_f) (fun hs=>au_h);exact aa_ (bu_ p) ac_
 ·intro l k xs hk hT
  unfold backP at hT;split at hT;rotate_left;cases hT;rename_i hlt;cases hT;show AWp _ _ _ _ ⟨[(12,.agg (qC (coP p (p.length- 1- k)))),(11,i64 (p.length- 1- k:Nat)),(4,.lptr 1 0 0),(5,.aptr [[.clos g [] cap]] 0 0),(6,.lptr 2 0 0),(10,.clos 213 [] [bP p]),(1004,.lptr 1 0 0),(1005,.aptr [[.clos g [] cap]] 0 0),(1006,.lptr 2 0 0),(1010,.clos 213 [] [bP p])],[(1,some ⟨46,3,[qC (w k)]⟩),(2,some ⟨46,3,[zC]⟩)],3,18⟩;refine r_m 2 ?_;refine a_z ?_;refine ae_ (r_m 5 ?_);refine c_s (hg k hlt) ?_;refine a_z ?_;refine⟨k+1,⟨hlt,rfl⟩,?_⟩;show SEntT _ ⟨[(1004,.lptr 1 0 0),(1005,.aptr [[.clos g [] cap]] 0 0),(1006,.lptr 2 0 0),(1010,.clos 213 [] [bP p])],[(1,some ⟨46,3,[qC (w (k+1))]⟩),(2,some ⟨46,3,[zC]⟩)],3,18⟩;exact s_y [] (fun hs=>au_f) (fun hs=>au_h)
 intro k hk hT;unfold backP at hT;split at hT;cases hT;refine⟨(),trivial,?_⟩;rw[hoS.eq_1];have h1:k=p.length:=by omega
 subst h1;exact s_e [];rintro _ _;refine r_z 2 ?_;exact af_ (c_e (aC_ _))
theorem fs_Eval1(v c x:Rat)(h1:qs v+qs x≤549755813888)(h2:qs (v* x)+qs c≤549755813888):FS 130 [.agg (qC v),.agg (qC c),bQ x] (.agg (qC (v* x+c))):=by
 refine f_c Tryz.func130 ?_;refine r_z 3 ?_;refine ab_ (r_d hmix 6 ?_);refine c_s (bK_ v x h1) ?_;refine c_s (dy_ (v* x) c h2) ?_;refine a_1 ?_;refine al_ (n_k ?_);exact af_ (c_e (aC_ _))
theorem fa_(p:List Rat)(x:Rat)(h:dv_ p x):FS 59 [.arr (pE p),.agg (qC x)] (.agg (qC (evalP p x))):=by
 have hw:∀k,k< p.length→FS 130 [.agg (qC (evalP (p.drop (p.length- k)) x)),.agg (qC (coP p (p.length- 1- k))),bQ x] (.agg (qC (evalP (p.drop (p.length- (k+1))) x))):=fun k hk=>by
  have:=p0_ h k hk;rw[jf_ hk];exact fs_Eval1 _ _ _ this.1 this.2
 have hh:=pO_ p 130 [bQ x] (fun k=>evalP (p.drop (p.length- k)) x) (by have:=h.2;omega) (aa_ (bj_ x) ac_) hw;simp only[Nat.sub_zero,Nat.sub_self,List.drop_zero,List.drop_length] at hh;rw[show evalP [] x=0 from rfl,qC0] at hh;refine f_c Tryz.func59 ?_;refine r_z 2 ?_;refine AWp.ent (st':=⟨[(0,.arr (pE p)),(3,bQ x),(4,.lptr 1 0 0)],[(1,some ⟨46,3,[zC]⟩)],2,9⟩) ?_ ?_;exact s_e [(1,4)];refine r_c 5 (hh) ?_;refine a_z ?_;exact af_ (c_e (aC_ _))
def hsS(p:List Rat)(g:Nat)(cap:List AV)(w:Nat→Rat×Rat):Nat→AState
 |k=>⟨[(4,.lptr 1 0 0),(5,.aptr [[.clos g [] cap]] 0 0),(6,.lptr 2 0 0),(10,.clos 213 [] [bP p])],[(1,some ⟨74,6,[spC (w k).1 (w k).2]⟩),(2,some ⟨74,6,[zC++zC]⟩)],3,18⟩
theorem pN_(p:List Rat)(g:Nat)(cap:List AV)(w:Nat→Rat×Rat)(hl:p.length≤281474976710656)(hcap:∀c∈cap,Closed c)(hg:∀k,k< p.length→FS g ((.agg (spC (w k).1 (w k).2):: .agg (qC (coP p (p.length- 1- k)))::cap).map coe) (.agg (spC (w (k+1)).1 (w (k+1)).2))):FS 269 [.arr (pE p),.agg (spC (w 0).1 (w 0).2),.clos g [] cap] (.agg (spC (w p.length).1 (w p.length).2)):=by
 have hb:=eL_ p;have hgs:=eH_ p hl;have hcc:Closed (.clos g [] cap):=aG_ ac_ hcap;have hcc2:Closed (.aptr [[.clos g [] cap]] 0 0):=aL_ (aa_ hcc ac_);have hcl2:Closed (.clos 213 [] [bP p]):=aG_ ac_ (aa_ (bu_ p) ac_);refine f_c Tryz.func269 ?_;refine r_z 3 ?_;refine AWp.ent (st':=⟨[(0,.arr (pE p)),(4,.lptr 1 0 0),(5,.aptr [[.clos g [] cap]] 0 0),(6,.lptr 2 0 0)],[(1,some ⟨74,6,[spC (w 0).1 (w 0).2]⟩),(2,some ⟨74,6,[zC++zC]⟩)],3,18⟩) ?_ ?_;have:=aa_ hcc ac_;exact s_f [(1,4),(2,6)];refine ab_ (r_c 2 (hb) ?_);refine al_ ?_;refine aw_ (fun _:Unit=>⟨[(4,.lptr 1 0 0),(6,.lptr 2 0 0)],[(1,some ⟨74,6,[spC (w p.length).1 (w p.length).2]⟩),(2,some ⟨74,6,[zC++zC]⟩)],3,18⟩) (fun _=>True) ?_ ?_;refine ae_ (AWp.rangeFunc (α:=Nat) (γ:=Empty) p.length (hsS p g cap w) (fun k=>k) (fun k=>k≤p.length) (fun e=>nomatch e) (fun _ e=>nomatch e) 0 rfl hgs rfl rfl ?_ (fun _=>⟨rfl,rfl⟩) (fun e=>nomatch e) (Nat.zero_le _) rfl (fun _ h=>h) ?_ ?_ ?_ ?_ (fun _ e=>nomatch e));intro k xs hT;unfold backP at hT;split at hT;cases hT;rfl;cases hT;rw[hsS.eq_1];exact s_y [] (fun hs=>au_f) (fun hs=>au_h);exact aa_ (bu_ p) ac_
 ·intro l k xs hk hT
  unfold backP at hT;split at hT;rotate_left;cases hT;rename_i hlt;cases hT;show AWp _ _ _ _ ⟨[(12,.agg (qC (coP p (p.length- 1- k)))),(11,i64 (p.length- 1- k:Nat)),(4,.lptr 1 0 0),(5,.aptr [[.clos g [] cap]] 0 0),(6,.lptr 2 0 0),(10,.clos 213 [] [bP p]),(1004,.lptr 1 0 0),(1005,.aptr [[.clos g [] cap]] 0 0),(1006,.lptr 2 0 0),(1010,.clos 213 [] [bP p])],[(1,some ⟨74,6,[spC (w k).1 (w k).2]⟩),(2,some ⟨74,6,[zC++zC]⟩)],3,18⟩;refine r_m 2 ?_;refine a_z ?_;refine ae_ (r_m 5 ?_);refine c_s (hg k hlt) ?_;refine a_z ?_;refine⟨k+1,⟨hlt,rfl⟩,?_⟩;show SEntT _ ⟨[(1004,.lptr 1 0 0),(1005,.aptr [[.clos g [] cap]] 0 0),(1006,.lptr 2 0 0),(1010,.clos 213 [] [bP p])],[(1,some ⟨74,6,[spC (w (k+1)).1 (w (k+1)).2]⟩),(2,some ⟨74,6,[zC++zC]⟩)],3,18⟩;exact s_y [] (fun hs=>au_f) (fun hs=>au_h)
 intro k hk hT;unfold backP at hT;split at hT;cases hT;refine⟨(),trivial,?_⟩;rw[hsS.eq_1];have h1:k=p.length:=by omega
 subst h1;exact s_e [];rintro _ _;refine r_z 2 ?_;exact af_ (c_e (aY_ _ _))
abbrev bS(s:Sp):AV:= .aptr [spC s.1 s.2] 0 0
theorem gL_(s:Sp):Closed (bS s):=aL_ (a0_ _ _)
theorem spMul_sm{a b:Sp}(h:smL (prods a b)):smS (spMul a b):=⟨ht_ h,ht_ h⟩
theorem fs_Over1(v s:Sp)(c:Rat)(hv:smS v)(hs:smS s)(hc:sm c)(hp:smL (prods v s)):FS 270 [.agg (spC v.1 v.2),.agg (qC c),bS s] (.agg (spC (spAdd (spMul v s) (c,c)).1 (spAdd (spMul v s) (c,c)).2)):=by
 have hm:=spMul_sm hp;refine f_n Tryz.func270 ?_ ?_;exact aa_ (aY_ _ _) (aa_ (aC_ c) (aa_ (gL_ s) ac_));refine r_z 3 ?_;refine ab_ (r_d hmix 7 ?_);refine c_s (fs_SMul v.1 v.2 s.1 s.2 hv.1 hv.2 hs.1 hs.2 hp) ?_;refine c_s (fs_At c) ?_;refine c_s (fs_SAdd (spMul v s).1 (spMul v s).2 c c hm.1 hm.2 hc hc) ?_;refine a_1 ?_;refine al_ (n_k ?_);exact af_ (c_e (aY_ _ _))
theorem fs_Over(p:List Rat)(s:Sp)(h:om_ p s):FS 232 [.arr (pE p),.agg (spC s.1 s.2)] (.agg (spC (overP p s).1 (overP p s).2)):=by
 obtain⟨hsm,hs,hl,hov⟩:=h;have htl:=a8_ p;refine f_c Tryz.func232 ?_;refine r_z 2 ?_;refine AWp.ent (st':=⟨[(0,.arr (pE p)),(3,bS s),(4,.lptr 1 0 0)],[(1,some ⟨74,6,[zC++zC]⟩)],2,30⟩) ?_ ?_;exact s_e [(1,4)];refine r_c 3 (ce_ p (by omega)) ?_;refine a_z ?_;refine aP_ (fun _:Unit=>⟨[(0,.arr (pE (trimQ p))),(3,bS s),(4,.lptr 1 0 0)],[(1,some ⟨74,6,[zC++zC]⟩)],2,30⟩) (fun _=>cmpQ s.1 s.2≤0∧trimQ p≠[]) ?_ ?_;by_cases hv:cmpQ s.1 s.2≤0;refine r_c 8 (gC_ s.1 s.2 hs.1 hs.2) ?_;refine a_2 ?_;refine y_g rfl (by simp[hv]) (.move rfl) ?_
 first|refine y_g rfl (by simp[hv]) (.lenD rfl rfl rfl rfl te_33.h) ?_|refine y_g rfl (by simp[hv]) (.lenI rfl rfl rfl rfl te_33.h) ?_|refine y_g rfl (by simp[hv]) (.lenP rfl rfl rfl rfl te_33.h) ?_|refine y_g rfl (by simp[hv]) (.lenC rfl rfl rfl rfl te_33.h) ?_|refine y_g rfl (by simp[hv]) (.lenR rfl rfl rfl rfl te_33.h) ?_|refine y_g rfl (by simp[hv]) (.len rfl rfl rfl rfl rfl te_33.h) ?_
 refine y_g rfl (by simp[hv]) (.bin rfl rfl a3_) ?_;refine o_0 (.pickF rfl (by simp[hv]) rfl) ?_;refine al_ ?_;refine aj_ rfl (fun h1=>?_) (fun h1=>?_)
 have h0:trimQ p=[]:=by
  have:(trimQ p).length=0:=by simpa using h1
  exact List.length_eq_zero_iff.1 this
 have hr:overP p s=(0,0):=by unfold overP;rw[if_pos (.inr h0)]
 rw[hr];refine r_z 2 ?_;refine af_ (Fin.cell rfl rfl rfl TG.h TS.h (nle rfl) (Cv.agg ?_));show CvL _ _ _ _ (qC 0++qC 0);rw[qC0];exact ai_ (Cv.emp _) (ai_ (ak_ ax_ (ad_ _)) (ai_ (Cv.emp _) (ai_ (Cv.emp _) (ai_ (ak_ ax_ (ad_ _)) (ai_ (Cv.emp _) an_)))))
 have h0:trimQ p≠[]:=by
  have:¬(trimQ p).length=0:=by simpa using h1
  exact fun e=>this (by rw[e];rfl)
 refine ah_ ⟨(),⟨hv,h0⟩,?_⟩;exact s_e [];refine r_c 8 (gC_ s.1 s.2 hs.1 hs.2) ?_;refine a_2 ?_;refine n_g rfl (by simp[hv]) ?_;refine n_g rfl (by simp[hv]) ?_;refine n_g rfl (by simp[hv]) ?_;refine o_0 (.pickT rfl (by simp[hv]) rfl) ?_;refine al_ ?_;refine aj_ rfl (fun h1=>?_) (fun h1=>?_);have hr:overP p s=(0,0):=by unfold overP;rw[if_pos (.inl hv)]
 rw[hr];refine r_z 2 ?_;refine af_ (Fin.cell rfl rfl rfl TG.h TS.h (nle rfl) (Cv.agg ?_));show CvL _ _ _ _ (qC 0++qC 0);rw[qC0];exact ai_ (Cv.emp _) (ai_ (ak_ ax_ (ad_ _)) (ai_ (Cv.emp _) (ai_ (Cv.emp _) (ai_ (ak_ ax_ (ad_ _)) (ai_ (Cv.emp _) an_)))));cases h1;rintro _ ⟨hv,h0⟩;have hpl:=List.length_pos_iff.2 h0
 have hr:overP p s=ovP (leadP p,leadP p) s ((trimQ p).take ((trimQ p).length- 1)):=by
  unfold overP;rw[if_neg (by rintro(e|e);exact e hv;exact h0 e)]
 obtain⟨l,hll⟩:∃l,l=(trimQ p).take ((trimQ p).length- 1):=⟨_,rfl⟩;rw[←hll] at hov hr;rw[hr];have hlen:l.length=(trimQ p).length- 1:=by rw[hll];simp
 have hsml:∀q∈l,sm q:=fun q hq=>hsm q (bp_ (List.mem_of_mem_take (by rw[←hll];exact hq)))
 have hw:∀k,k< l.length→FS 270 [.agg (spC (ovP (leadP p,leadP p) s (l.drop (l.length- k))).1 (ovP (leadP p,leadP p) s (l.drop (l.length- k))).2),.agg (qC (coP l (l.length- 1- k))),bS s] (.agg (spC (ovP (leadP p,leadP p) s (l.drop (l.length- (k+1)))).1 (ovP (leadP p,leadP p) s (l.drop (l.length- (k+1)))).2)):=fun k hk=>by
  have h1:=lQ_ (l.length- (k+1)) hov;rw[jf_ hk] at h1⊢;exact fs_Over1 _ s _ (okOv_sm h1.1) hs h1.2.2.1 h1.2.1
 have hh:=pN_ l 270 [bS s] (fun k=>ovP (leadP p,leadP p) s (l.drop (l.length- k))) (by omega) (aa_ (gL_ s) ac_) hw;simp only[Nat.sub_zero,Nat.sub_self,List.drop_zero,List.drop_length] at hh
 have hg:(pE (trimQ p))[(((trimQ p).length:Int)- 1).toNat]?=some (qC (leadP p)):=by
  rw[show(((trimQ p).length:Int)- 1).toNat=(trimQ p).length- 1 by omega];exact cS_ (cG_ (by omega))
 refine r_z 4 ?_;refine ab_ (r_d hmix 11 ?_);refine a_2 ?_;refine o_0 (.sa_h rfl rfl (h:=(trimQ p).length- 1) (by omega) (by simp) te_33.h (f1_ _)) ?_;refine a_2 ?_;refine i_x hg ?_;refine l_x hg ?_;refine c_s (fs_At (leadP p)) ?_;refine o_0 (.makeFunc rfl rfl) ?_;refine o_0 (.call rfl rfl rfl ((by rw[kt_,←hll];exact hh))) ?_;refine o_1n (.store rfl rfl rfl rfl rfl rfl TS.h (nle rfl)) ?_;refine al_ (n_k ?_);exact af_ (c_e (aY_ _ _))
end Go.Proofs.YtjkddcfoolilbaaGreatDoor
