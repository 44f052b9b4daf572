/- Part Z15 of the proof. -/
import Derived.Test.YtdjfjpeoddmamaaGreatDoorZ14
set_option linter.all false
namespace Go.Proofs.YtdjfjpeoddmamaaGreatDoor
open Go.Abs
set_option maxRecDepth 20000
theorem fs_Clone(l:List Rat)(hl:l.length≤1099511627776):FSpec Tryz.prog 184 [.arr (pE l)] (.arr (pE l)):=by
 cases l with
 |nil=>
  refine FSpec.nil1 fun a c=>?_
  refine f_n Tryz.func184 ?_ ?_
  exact aa_ (ad_ _) ab_
  refine r_z 1 ?_
  refine ac_ (r_z 2 ?_)
  refine aj_ rfl (fun h=>?_) (fun h=>?_)
  refine r_z 1 ?_
  exact ag_ (Fin.tmpN rfl)
  ·refine ai_ (s_r 4 ?_)
   refine a_2 ?_
   refine o_2 (.append_l rfl rfl rfl te_55.h rfl rfl rfl rfl rfl d_o (by first|exact df_ _|exact dd_ _|exact c2_ _|exact dg_ _|exact c7_ _|assumption|rfl|simp) (by first|rfl|exact df_ _|exact dd_ _|exact c2_ _|exact dg_ _|exact c7_ _|simp) rfl (.vnil) tz_35.h rfl tb_35.h d_o (by first|(simp[maxLen];done)|(simp[maxLen];omega))) ?_
   refine a_z ?_
   exact ag_ (Fin.tmpS rfl rfl rfl rfl (aJ_ []))
 |cons q l=>
  have hne:pE (q::l)≠[]:=by simp[pE]
  simp at hl
  refine f_n Tryz.func184 ?_ ?_
  exact aa_ (aU_ (aJ_ _)) ab_
  refine r_z 1 ?_
  refine ac_ (s_r 2 ?_)
  refine a_1 ?_
  first|refine aM_ (.nilq_v rfl rfl te_55.h) rfl rfl ?_|refine aM_ (.nilq_arr rfl (hne) rfl te_55.h) rfl rfl ?_
  refine ak_ ?_
  refine cF ?_
  ·refine ai_ (s_r 4 ?_)
   refine a_2 ?_
   refine o_2 (.append_l rfl rfl rfl te_55.h rfl rfl rfl rfl rfl d_o (by first|exact df_ _|exact dd_ _|exact c2_ _|exact dg_ _|exact c7_ _|assumption|rfl|simp) (by first|rfl|exact df_ _|exact dd_ _|exact c2_ _|exact dg_ _|exact c7_ _|simp) rfl (.arr (gc_ _)) tz_35.h rfl tb_35.h d_o (by first|(simp[maxLen];done)|(simp[maxLen];omega))) ?_
   refine a_z ?_
   exact ag_ (Fin.tmpS rfl rfl rfl (by simp) (aJ_ _))
def trS(l:List Rat):Nat→AState
 |n=>⟨[(0,.arr (pE l)),(3,i64 n)],[],1,23⟩
theorem fc_(l:List Rat)(n:Nat):trS l n=⟨[(0,.arr (pE l)),(3,i64 n)],[],1,23⟩:=rfl
theorem cu_(l:List Rat)(hl:l.length≤1099511627776):FSpec Tryz.prog 99 [.arr (pE l)] (.arr (pE (trimQ l))):=by
 refine f_n Tryz.func99 ?_ ?_
 exact aa_ (aU_ (aJ_ _)) ab_
 refine r_z 1 ?_
 refine r_z 3 ?_
 refine a2_ (trS l) (fun n=>n≤l.length∧trimQ l=l.take n) ?_ ?_
 refine ah_ (aw_ (trS l) (fun n=>n) (fun n=>n≤l.length∧trimQ l=trimQ (l.take n)) l.length ⟨Nat.le_refl _,by rw[List.take_length]⟩ ?_ ?_)
 simp only[fc_]
 exact s_e []
 rintro n ⟨hn,ht⟩
 rw[fc_]
 cases n with
 |zero=>
  refine ac_ (s_r 11 ?_)
  refine a_3 ?_
  refine n_g rfl (by simp) ?_
  refine n_g rfl (by simp) ?_
  refine n_g rfl (by simp) ?_
  refine n_g rfl (by simp) ?_
  refine n_g rfl (by simp) ?_
  refine n_g rfl (by simp) ?_
  refine n_g rfl (by simp) ?_
  refine o_0 (.pickF rfl (by simp) rfl) ?_
  refine ak_ ?_
  refine cF ?_
  refine av_ ⟨0,⟨Nat.zero_le _,?_⟩,?_⟩
  rw[ht];rfl
  simp only[fc_]
  exact s_e []
 |succ n=>
  obtain⟨q,hq⟩:∃q,l[n]?=some q:=⟨_,List.getElem?_eq_getElem (by omega)⟩
  have hq':(pE l)[(((n+1:Nat):Int)- 1).toNat]?=some (qC q):=by
   rw[show(((n+1:Nat):Int)- 1).toNat=n by omega];exact bO_ hq
  have hs:trimQ (l.take (n+1))=if q=0 then trimQ (l.take n) else l.take (n+1):=by
   rw[cc_ hq,fF_]
  refine ac_ (s_r 11 ?_)
  refine a_3 ?_
  refine y_g rfl (by simp <;> omega) (.move rfl) ?_
  refine y_g rfl (by simp <;> omega) (.move rfl) ?_
  refine y_g rfl (by simp <;> omega) (.bin rfl rfl (h9_ (by omega))) ?_
  first|refine y_g rfl (by simp <;> omega) (.index_l rfl rfl (by omega) (by omega) te_55.h) ?_|refine y_g rfl (by simp <;> omega) (.index_a rfl rfl (by omega) hq' rfl te_55.h) ?_
  first|refine y_g rfl (by simp <;> omega) (.load_l rfl rfl hq' tg_35.h ts_35.h (nle rfl)) ?_|refine y_g rfl (by simp <;> omega) (.load_a rfl hq' tg_35.h ts_35.h (nle rfl)) ?_
  refine y_g rfl (by simp <;> omega) (.call rfl rfl rfl (bU_ q)) ?_
  refine y_g rfl (by simp <;> omega) (.bin rfl rfl bq_) ?_
  refine o_0 (.pickT rfl (by simp <;> omega) rfl) ?_
  refine ak_ ?_
  refine aj_ rfl (fun h=>?_) (fun h=>?_)
  have h0:q=0:=by
   have h1:sgZ q.num=0:=by simpa using h
   exact sgZ_num_eq.1 h1
  refine ai_ (ah_ (r_m 3 ?_))
  refine a_z ?_
  refine⟨n,Nat.lt_succ_self n,⟨by omega,?_⟩,?_⟩
  rw[ht,hs,if_pos h0]
  simp only[fc_]
  exact s_e []
  have h0:q≠0:=by
   intro e
   have h1:¬sgZ q.num=0:=by simpa using h
   exact h1 (sgZ_num_eq.2 e)
  refine av_ ⟨n+1,⟨hn,?_⟩,?_⟩
  rw[ht,hs,if_neg h0]
  simp only[fc_]
  exact s_e []
 rintro n ⟨hn,ht⟩
 rw[fc_]
 have hcl:=fs_Clone (l.take n) (by simp;omega)
 refine s_r 5 ?_
 refine a_2 ?_
 refine o_0 (.sa_h rfl rfl (h:=n) rfl (by simp;omega) te_55.h (gc_ _)) ?_
 refine o_0 (.call rfl rfl rfl ((by rw[nz_];exact hcl))) ?_
 refine o_0 (.assign rfl) ?_
 refine ak_ ?_
 refine ag_ (aS_ rfl ?_ ?_)
 rw[ht]
 exact aU_ (aJ_ _)
theorem bI_(l:List Rat)(hl:l.length≤1099511627776):FSpec Tryz.prog 66 [.arr (pE l)] (i64 (degP l)):=by
 have:=aI_ l
 refine f_n Tryz.func66 ?_ ?_
 exact aa_ (aU_ (aJ_ _)) ab_
 refine r_z 1 ?_
 refine r_c 5 (cu_ l hl) ?_
 refine a_z ?_
 exact ag_ (t_e (ad_ _))
theorem gi_(l:List Rat)(hl:l.length≤1099511627776):FSpec Tryz.prog 183 [.arr (pE l)] (.agg (qC (leadP l))):=by
 have hlen:=aI_ l
 refine f_n Tryz.func183 ?_ ?_
 exact aa_ (aU_ (aJ_ _)) ab_
 refine r_z 1 ?_
 refine r_c 3 (cu_ l hl) ?_
 refine a_z ?_
 refine ac_ (r_z 3 ?_)
 refine aj_ rfl (fun h=>?_) (fun h=>?_)
 have h0:trimQ l=[]:=by
  have h1:(trimQ l).length=0:=by simpa using h
  exact List.length_eq_zero_iff.1 h1
 rw[iI_ h0]
 refine r_z 2 ?_
 refine ag_ (Fin.cell rfl rfl rfl tg_35.h ts_35.h (nle rfl) (Cv.agg ?_))
 rw[qC0]
 exact af_ (Cv.emp _) (af_ (an_ au_ (ad_ _)) (af_ (Cv.emp _) ap_))
 obtain⟨n,hn⟩:∃n,(trimQ l).length=n+1:=⟨(trimQ l).length- 1,by
  have h1:¬(trimQ l).length=0:=by simpa using h
  omega⟩
 have hg:(pE (trimQ l))[(((trimQ l).length:Int)- 1).toNat]?=some (qC (leadP l)):=by
  rw[hn,show(((n+1:Nat):Int)- 1).toNat=n by omega];exact bO_ (bH_ hn)
 refine ai_ (s_r 7 ?_)
 refine a_4 ?_
 refine i_x hg ?_
 refine l_x hg ?_
 refine a_z ?_
 exact ag_ (c_e (ay_ _))
theorem fs_at(l:List Rat)(i:Nat):FSpec Tryz.prog 238 [.arr (pE l),i64 i] (.agg (qC (coP l i))):=by
 refine f_n Tryz.func238 ?_ ?_
 exact aa_ (aU_ (aJ_ _)) (aa_ (ad_ _) ab_)
 refine r_z 1 ?_
 refine ac_ (r_z 4 ?_)
 refine aj_ rfl (fun h=>?_) (fun h=>?_)
 have hlt:i< l.length:=by simpa using h
 have hg:(pE l)[((i:Nat):Int).toNat]?=some (qC (coP l i)):=bO_ (be_ hlt)
 refine s_r 5 ?_
 refine a_2 ?_
 refine i_x hg ?_
 refine l_x hg ?_
 refine a_z ?_
 exact ag_ (c_e (ay_ _))
 have hge:l.length≤i:=by simpa using h
 rw[cr_ hge]
 refine ai_ (r_z 2 ?_)
 refine ag_ (Fin.cell rfl rfl rfl tg_35.h ts_35.h (nle rfl) (Cv.agg ?_))
 rw[qC0]
 exact af_ (Cv.emp _) (af_ (an_ au_ (ad_ _)) (af_ (Cv.emp _) ap_))
theorem eE_set{n i e:Nat}{f:Nat→Rat}(h:i< n)(he:e=i):(pE (tabP i f)++List.replicate (n- i) zC).set e (qC (f i))=pE (tabP (i+1) f)++List.replicate (n- (i+1)) zC:=by
 subst he
 obtain⟨k,rfl⟩:∃k,n=e+1+k:=⟨n- (e+1),by omega⟩
 rw[show e+1+k- e=k+1 by omega,show e+1+k- (e+1)=k by omega,List.replicate_succ,List.set_append_right _ _ (by simp)]
 simp[tabP,List.range_succ,pE]
theorem eE_get{n i e:Nat}{f:Nat→Rat}(h:i< n)(he:e=i):(pE (tabP i f)++List.replicate (n- i) zC)[e]?=some zC:=by
 subst he
 rw[List.getElem?_append_right (by simp),List.getElem?_replicate,if_pos (by simp;omega)]
theorem jd_(n i:Nat)(f:Nat→Rat):∀e∈pE (tabP i f)++List.replicate (n- i) zC,∀c∈e,Closed c:=by
 intro e he
 rcases List.mem_append.1 he with he|he
 exact aJ_ _ e he
 rw[List.eq_of_mem_replicate he];exact ee_
def eachS(n:Nat)(f:Nat→Rat)(g:Nat)(cap:List AV):Nat→AState
 |i=>⟨[(1,.clos g [] cap),(5,.lsl 1 0 n (some n) 3),(10,i64 n),(11,i64 i)],[(1,some ⟨35,3,pE (tabP i f)++List.replicate (n- i) zC⟩)],2,23⟩
theorem gU_(n:Nat)(f:Nat→Rat)(g:Nat)(cap:List AV)(i:Nat):eachS n f g cap i=⟨[(1,.clos g [] cap),(5,.lsl 1 0 n (some n) 3),(10,i64 n),(11,i64 i)],[(1,some ⟨35,3,pE (tabP i f)++List.replicate (n- i) zC⟩)],2,23⟩:=rfl
theorem ld_(n:Nat)(f:Nat→Rat)(g:Nat)(cap:List AV)(hn:n≤1099511627776)(hcap:∀c∈cap,Closed c)(hg:∀i,i< n→FSpec Tryz.prog g ((i64 i::cap).map coe) (.agg (qC (f i)))):FSpec Tryz.prog 138 [i64 n,.clos g [] cap] (.arr (pE (trimQ (tabP n f)))):=by
 refine f_n Tryz.func138 ?_ ?_
 exact aa_ (ad_ _) (aa_ (aW_ ab_ hcap) ab_)
 refine r_z 1 ?_
 refine r_z 3 ?_
 refine ac_ (r_z 3 ?_)
 refine aD_ (fun _:Unit=>eachS n f g cap n) (fun _=>True) ?_ ?_
 refine ah_ (aw_ (eachS n f g cap) (fun i=>n- i) (fun i=>i≤n) 0 (Nat.zero_le _) ?_ ?_)
 simp only[gU_]
 refine at_ [(1,5)] rfl rfl rfl au_r (fun hs=>?_) (fun hs=>?_)
 ·repeat' (first|exact aK_|refine aE_ rfl ?_ ?_)
  all_goals (first|(exact an_ hs (aW_ ab_ hcap))|exact au_c)
 ·repeat' (first|exact aq_|refine al_ rfl rfl rfl rfl ?_ ?_)
  all_goals (first|(exact aH_ hs rfl (jd_ n 0 f))|exact au_e|(refine ae_ ?_;repeat' (first|exact ap_|refine af_ ?_ ?_)))
  all_goals (first|(exact an_ hs (aW_ ab_ hcap))|exact au_c)
 rintro i hi
 rw[gU_]
 refine r_z 1 ?_
 refine ac_ (aj_ rfl (fun h=>?_) (fun h=>?_))
 refine ai_ ?_
 have hlt:i< n:=by simpa using h
 refine ac_ (ah_ (r_z 2 ?_))
 refine r_m 7 ?_
 refine c_s (hg i hlt) ?_
 refine a_1 ?_
 refine o_1n (.store rfl rfl (eE_get hlt (Nat.zero_add i)) rfl rfl rfl ts_35.h (nle rfl)) ?_
 refine ak_ ?_
 refine r_m 2 ?_
 refine a_z ?_
 refine⟨i+1,by omega,hlt,?_⟩
 simp only[gU_]
 refine at_ [] rfl rfl rfl au_r (fun hs=>?_) (fun hs=>?_)
 ·repeat' (first|exact aK_|refine aE_ rfl ?_ ?_)
  all_goals (first|(exact an_ hs (aW_ ab_ hcap))|exact au_c)
 ·repeat' (first|exact aq_|refine al_ rfl rfl rfl rfl ?_ ?_)
  all_goals (first|(exact aH_ hs (eE_set hlt (Nat.zero_add i)) (jd_ n (i+1) f))|exact au_e|(refine ae_ ?_;repeat' (first|exact ap_|refine af_ ?_ ?_)))
  all_goals (first|(exact an_ hs (aW_ ab_ hcap))|exact au_c)
 have hge:i=n:=by
  have:¬i< n:=by simpa using h
  omega
 subst hge
 refine av_ ⟨(),trivial,?_⟩
 simp only[gU_]
 refine at_ [] rfl rfl rfl au_r (fun hs=>?_) (fun hs=>?_)
 ·repeat' (first|exact aK_|refine aE_ rfl ?_ ?_)
  all_goals (first|(exact an_ hs (aW_ ab_ hcap))|exact au_c)
 ·repeat' (first|exact aq_|refine al_ rfl rfl rfl rfl ?_ ?_)
  all_goals (first|(exact aO_ hs (jd_ i i f))|exact au_e|(refine ae_ ?_;repeat' (first|exact ap_|refine af_ ?_ ?_)))
  all_goals (first|(exact an_ hs (aW_ ab_ hcap))|exact au_c)
 rintro _ _
 rw[gU_]
 have hfull:List.take n (List.drop 0 (pE (tabP n f)++List.replicate (n- n) zC))=pE (tabP n f):=by
  rw[Nat.sub_self,List.replicate_zero,List.append_nil,List.drop_zero,List.take_of_length_le (by simp)]
 refine s_r 3 ?_
 refine a_1 ?_
 refine o_1 (.callS1 rfl rfl rfl (.shut rfl d_n (.nil)) rfl ((by rw[hfull];exact cu_ (tabP n f) (by simp;exact hn)))) ?_
 refine a_z ?_
 exact ag_ (t_e (aU_ (aJ_ _)))
abbrev bP(p:List Rat):AV:= .aptr [[.arr (pE p)]] 0 0
abbrev bQ(q:Rat):AV:= .aptr [qC q] 0 0
theorem bz_(p:List Rat):Closed (bP p):=am_ (aa_ (as_ p) ab_)
theorem cx_(q:Rat):Closed (bQ q):=am_ (a1_ q)
theorem fs_Add1(p q:List Rat)(i:Nat)(hp:smL p)(hq:smL q):FSpec Tryz.prog 237 [i64 i,bP p,bP q] (.agg (qC (coP p i+coP q i))):=by
 refine f_n Tryz.func237 ?_ ?_
 exact aa_ (ad_ _) (aa_ (bz_ p) (aa_ (bz_ q) ab_))
 refine r_z 1 ?_
 refine ac_ (r_d hmix 8 ?_)
 refine c_s (fs_at p i) ?_
 refine c_s (fs_at q i) ?_
 refine c_s (f4_ (coP p i) (coP q i) (sm2 (gX_ hp i) (gX_ hq i))) ?_
 refine a_1 ?_
 refine ak_ (n_k ?_)
 exact ag_ (c_e (ay_ _))
theorem fs_Add(p q:List Rat)(hp:smL p)(hq:smL q)(hp1:p.length≤1099511627776)(hq1:q.length≤1099511627776):FSpec Tryz.prog 167 [.arr (pE p),.arr (pE q)] (.arr (pE (addP p q))):=by
 refine f_n Tryz.func167 ?_ ?_
 exact aa_ (as_ p) (aa_ (as_ q) ab_)
 refine r_z 3 ?_
 refine AWp.ent (st':=⟨[(2,bP p),(3,bP q)],[],1,12⟩) ?_ ?_
 exact s_e []
 have hm:(if ((q.length:Nat):Int)>(p.length:Nat) then((q.length:Nat):Int) else(p.length:Nat))=((max p.length q.length:Nat):Int):=by
  rw[Nat.max_def];split <;> split <;> omega
 have he:=ld_ (max p.length q.length) (fun i=>coP p i+coP q i) 237 [bP p,bP q] (Nat.max_le.2 ⟨hp1,hq1⟩) (aa_ (bz_ p) (aa_ (bz_ q) ab_)) (fun i _=>fs_Add1 p q i hp hq)
 rw[←hm] at he
 refine r_c 8 (he) ?_
 refine a_z ?_
 exact ag_ (t_e (as_ _))
theorem rU_(p:List Rat)(k:Rat)(i:Nat)(hp:smL p)(hk:sm k)(hi:i< p.length):FSpec Tryz.prog 140 [i64 i,bP p,bQ k] (.agg (qC (coP p i* k))):=by
 have hg:(pE p)[((i:Nat):Int).toNat]?=some (qC (coP p i)):=bO_ (be_ hi)
 refine f_n Tryz.func140 ?_ ?_
 exact aa_ (ad_ _) (aa_ (bz_ p) (aa_ (cx_ k) ab_))
 refine r_z 1 ?_
 refine ac_ (r_d hmix 7 ?_)
 refine a_2 ?_
 refine i_x hg ?_
 refine l_x hg ?_
 refine c_s (de_ (coP p i) k (sm2 (gX_ hp i) hk)) ?_
 refine a_1 ?_
 refine ak_ (n_k ?_)
 exact ag_ (c_e (ay_ _))
theorem er_(p:List Rat)(k:Rat)(hp:smL p)(hk:sm k)(hp1:p.length≤1099511627776):FSpec Tryz.prog 50 [.arr (pE p),.agg (qC k)] (.arr (pE (az_ p k))):=by
 have he:=ld_ p.length (fun i=>coP p i* k) 140 [bP p,bQ k] hp1 (aa_ (bz_ p) (aa_ (cx_ k) ab_)) (fun i hi=>rU_ p k i hp hk hi)
 refine f_n Tryz.func50 ?_ ?_
 exact aa_ (as_ p) (aa_ (ay_ k) ab_)
 refine r_z 3 ?_
 refine AWp.ent (st':=⟨[(2,bP p),(3,bQ k)],[],1,9⟩) ?_ ?_
 exact s_e []
 refine r_c 5 (he) ?_
 refine a_z ?_
 exact ag_ (t_e (as_ _))
theorem eq_(a b:Rat)(hb:b≠0)(h:qs a+qs b≤549755813888):FSpec Tryz.prog 144 [.agg (qC a),.agg (qC b)] (.agg (qC (a/ b))):=by
 refine f_n Tryz.func144 ?_ ?_
 exact aa_ (ay_ a) (aa_ (ay_ b) ab_)
 refine r_z 3 ?_
 refine r_c 9 (rN_ a b hb h) ?_
 refine a_z ?_
 refine r_z 2 ?_
 exact ag_ (c_e (ay_ _))
theorem iW_(a:Rat):FSpec Tryz.prog 187 [.agg (qC a)] (.arr (pE (cU_ a))):=by
 refine f_n Tryz.func187 ?_ ?_
 exact aa_ (ay_ a) ab_
 refine r_z 2 ?_
 refine s_r 4 ?_
 refine a_2 ?_
 refine o_1 (.callS1 rfl rfl rfl (.shut rfl d_n (.nil)) rfl ((cu_ [a] (by simp)))) ?_
 refine a_z ?_
 exact ag_ (t_e (as_ _))
theorem sm_neg1{a:Rat}(h:sm a):sm (a* (-1)):=by
 unfold sm at *
 rw[show a* (-1)= -a by rw[Rat.mul_comm,Rat.neg_mul,Rat.one_mul],dK_];exact h
theorem qs_inv(b:Rat)(hb:b≠0):qs (1/ b)≤qs b:=by
 rw[i1_ 1 b hb]
 have hn:b.num≠0:=fun e=>hb (Rat.num_eq_zero.1 e)
 have h1:=co_ b
 have h2:=b8_ b
 refine cX_ (by have:0< b.num.natAbs:=by omega
                show 0< 1* b.num.natAbs
                omega) ?_ ?_
 show bl ((1:Int) * sgn (decide (b.num< 0)) b.den).natAbs≤qs b
 rw[Int.one_mul,dj_];exact h2
 show bl (1* b.num.natAbs)≤qs b
 rw[Nat.one_mul];exact h1
theorem pS_{q:List Rat}(h:smL q):smL (az_ q (-1)):=by
 refine ki_ fun x hx=>?_
 obtain⟨i,_,rfl⟩:=List.mem_map.1 hx
 exact sm_neg1 (gX_ h i)
theorem rT_(p q:List Rat)(hp:smL p)(hq:smL q)(hp1:p.length≤1099511627776)(hq1:q.length≤1099511627776):FSpec Tryz.prog 73 [.arr (pE p),.arr (pE q)] (.arr (pE (subP p q))):=by
 have hl:=bK_ q (-1)
 refine f_n Tryz.func73 ?_ ?_
 exact aa_ (as_ p) (aa_ (as_ q) ab_)
 refine r_z 1 ?_
 refine r_c 6 (ea_ (-1) (by decide)) ?_
 refine c_s (er_ q (-1) hq (by decide) hq1) ?_
 refine c_s (fs_Add p (az_ q (-1)) hp (pS_ hq) hp1 (by omega)) ?_
 refine a_z ?_
 exact ag_ (t_e (as_ _))
theorem la_(p:List Rat)(hp:smL p)(hp1:p.length≤1099511627776):FSpec Tryz.prog 270 [.arr (pE p)] (.arr (pE (a6_ p))):=by
 have hlead:=leadP_sm hp
 refine f_n Tryz.func270 ?_ ?_
 exact aa_ (as_ p) ab_
 refine r_z 1 ?_
 refine ac_ (r_c 3 (bI_ p hp1) ?_)
 refine a_z ?_
 refine aj_ rfl (fun h=>?_) (fun h=>?_)
 have h0:trimQ p=[]:=by
  have h1:degP p< 0:=by simpa using h
  unfold degP at h1
  exact List.length_eq_zero_iff.1 (by omega)
 refine r_z 1 ?_
 refine ag_ ?_
 unfold a6_
 rw[if_pos h0]
 exact Fin.tmpN rfl
 have h0:trimQ p≠[]:=by
  intro e
  have h1:¬degP p< 0:=by simpa using h
  unfold degP at h1
  rw[e] at h1
  exact h1 (by decide)
 have hne:=bF_ h0
 have hinv:=qs_inv (leadP p) hne
 unfold sm at hlead
 have h1:qs 1=1:=by decide
 unfold a6_
 rw[if_neg h0]
 refine ai_ (r_c 7 (ea_ 1 (by decide)) ?_)
 refine c_s (gi_ p hp1) ?_
 refine c_s (eq_ 1 (leadP p) hne (by omega)) ?_
 refine c_s (er_ p (1/ leadP p) hp (by unfold sm;omega) hp1) ?_
 refine a_z ?_
 exact ag_ (t_e (as_ _))
theorem gw_(i:Nat)(h:i≤1099511627776):qs (((i:Nat):Int):Rat)≤64:=by
 refine Nat.max_le.2 ⟨?_,?_⟩
 show bl ((i:Int)).natAbs≤64
 rw[Int.natAbs_natCast]
 exact bl_le (by omega)
 show bl 1≤64
 decide
theorem p9_(p:List Rat)(i:Nat)(hp:smL p)(hi:i+1< p.length)(hp1:p.length≤1099511627776):FSpec Tryz.prog 139 [i64 i,bP p] (.agg (qC (coP p (i+1) * ((i+1:Nat):Int)))):=by
 have hg:(pE p)[(((i:Nat):Int)+1).toNat]?=some (qC (coP p (i+1))):=by
  rw[show(((i:Nat):Int)+1).toNat=i+1 by omega];exact bO_ (be_ hi)
 have hs:=gX_ hp (i+1)
 have hq:=gw_ (i+1) (by omega)
 unfold sm at hs
 have hI:=ea_ (((i:Nat):Int)+1) (by omega)
 rw[show((i:Nat):Int)+1=((i+1:Nat):Int) by omega] at hI
 refine f_n Tryz.func139 ?_ ?_
 exact aa_ (ad_ _) (aa_ (bz_ p) ab_)
 refine r_z 1 ?_
 refine ac_ (r_d hmix 10 ?_)
 refine a_3 ?_
 refine i_x hg ?_
 refine l_x hg ?_
 refine c_s (hI) ?_
 refine c_s (de_ (coP p (i+1)) ((i+1:Nat):Int) (by omega)) ?_
 refine a_1 ?_
 refine ak_ (n_k ?_)
 exact ag_ (c_e (ay_ _))
theorem gP_(p:List Rat)(hp:smL p)(hp1:p.length≤1099511627776):FSpec Tryz.prog 49 [.arr (pE p)] (.arr (pE (ax_ p))):=by
 have he:=ld_ (p.length- 1) (fun i=>coP p (i+1) * ((i+1:Nat):Int)) 139 [bP p] (by omega) (aa_ (bz_ p) ab_) (fun i hi=>p9_ p i hp (by omega) hp1)
 have hm:(if (0:Int)>((p.length:Nat):Int)- 1 then(0:Int) else((p.length:Nat):Int)- 1)=((p.length- 1:Nat):Int):=by split <;> omega
 rw[←hm] at he
 refine f_n Tryz.func49 ?_ ?_
 exact aa_ (as_ p) ab_
 refine r_z 2 ?_
 refine AWp.ent (st':=⟨[(1,bP p)],[],1,9⟩) ?_ ?_
 exact s_e []
 refine r_c 7 (he) ?_
 refine a_z ?_
 exact ag_ (t_e (as_ _))
theorem mF_(p:List Rat)(i:Nat)(hp:smL p)(hi:i< p.length+1)(hp1:p.length≤1099511627775):FSpec Tryz.prog 143 [i64 i,bP p] (.agg (qC (if i=0 then 0 else coP p (i- 1) / ((i:Nat):Int)))):=by
 refine f_n Tryz.func143 ?_ ?_
 exact aa_ (ad_ _) (aa_ (bz_ p) ab_)
 refine r_z 1 ?_
 refine ac_ (r_z 2 ?_)
 refine aj_ rfl (fun h=>?_) (fun h=>?_)
 have h0:i=0:=by
  have h1:(i:Int)=0:=by simpa using h
  omega
 rw[if_pos h0]
 refine r_z 2 ?_
 refine ag_ (Fin.cell rfl rfl rfl tg_35.h ts_35.h (nle rfl) (Cv.agg ?_))
 rw[qC0]
 exact af_ (Cv.emp _) (af_ (an_ au_ (ad_ _)) (af_ (Cv.emp _) ap_))
 have h0:i≠0:=by
  intro e
  have h1:¬(i:Int)=0:=by simpa using h
  omega
 rw[if_neg h0]
 have hg:(pE p)[(((i:Nat):Int)- 1).toNat]?=some (qC (coP p (i- 1))):=by
  rw[show(((i:Nat):Int)- 1).toNat=i- 1 by omega];exact bO_ (be_ (by omega))
 have hs:=gX_ hp (i- 1)
 have hq:=gw_ i (by omega)
 unfold sm at hs
 refine ai_ (ac_ (r_d hmix 9 ?_))
 refine a_3 ?_
 refine i_x hg ?_
 refine l_x hg ?_
 refine c_s (ea_ ((i:Nat):Int) (by omega)) ?_
 refine c_s (eq_ (coP p (i- 1)) ((i:Nat):Int) (by intro e;have e2:=congrArg Rat.num e;simp at e2;omega) (by omega)) ?_
 refine a_1 ?_
 refine ak_ (n_k ?_)
 exact ag_ (c_e (ay_ _))
theorem nW_(p:List Rat)(hp:smL p)(hp1:p.length≤1099511627775):FSpec Tryz.prog 53 [.arr (pE p)] (.arr (pE (aL_ p))):=by
 have he:=ld_ (p.length+1) (fun i=>if i=0 then 0 else coP p (i- 1) / ((i:Nat):Int)) 143 [bP p] (by omega) (aa_ (bz_ p) ab_) (fun i hi=>mF_ p i hp hi hp1)
 rw[show((p.length+1:Nat):Int)=((p.length:Nat):Int)+1 by omega] at he
 refine f_n Tryz.func53 ?_ ?_
 exact aa_ (as_ p) ab_
 refine r_z 2 ?_
 refine AWp.ent (st':=⟨[(1,bP p)],[],1,8⟩) ?_ ?_
 exact s_e []
 refine r_c 6 (he) ?_
 refine a_z ?_
 exact ag_ (t_e (as_ _))
theorem fs_Same1(a b:Rat)(ha:sm a)(hb:sm b):FSpec Tryz.prog 100 [.agg (qC a),.agg (qC b)] (bln (decide (a=b))):=by
 have e:(cmpQ a b==(0:Int))=decide (a=b):=by
  unfold cmpQ
  by_cases h:a=b
  subst h;simp[Rat.lt_irrefl]
  by_cases h1:a< b
  simp[h,h1]
  simp[h,h1]
 refine f_n Tryz.func100 ?_ ?_
 exact aa_ (ay_ a) (aa_ (ay_ b) ab_)
 refine r_z 3 ?_
 refine r_c 5 (j1_ a b ha hb) ?_
 refine a_z ?_
 refine ag_ (aS_ rfl ?_ ?_)
 rw[←e];rfl
 exact ad_ _
def eqS(p:List Rat)(q:List Rat):Nat→AState
 |i=>⟨[(1,.arr (pE q)),(2,.clos 100 [] []),(15,.arr (pE p)),(16,i64 p.length),(17,i64 i)],[],1,32⟩
theorem sg_(p:List Rat)(q:List Rat)(i:Nat):eqS p q i=⟨[(1,.arr (pE q)),(2,.clos 100 [] []),(15,.arr (pE p)),(16,i64 p.length),(17,i64 i)],[],1,32⟩:=rfl
theorem mI_(p q:List Rat)(hp:smL p)(hq:smL q)(hp1:p.length≤1099511627776):FSpec Tryz.prog 98 [.arr (pE p),.arr (pE q),.clos 100 [] []] (bln (decide (p=q))):=by
 refine f_n Tryz.func98 ?_ ?_
 exact aa_ (as_ p) (aa_ (as_ q) (aa_ (aW_ ab_ ab_) ab_))
 refine r_z 1 ?_
 refine ac_ (r_z 5 ?_)
 refine aj_ rfl (fun h=>?_) (fun h=>?_)
 have hne:p≠q:=by
  intro e
  subst e
  simp at h
 refine r_z 1 ?_
 refine ag_ (aS_ rfl ?_ ?_)
 simp[hne];rfl
 exact ad_ _
 have hlen:p.length=q.length:=by
  have h1:(p.length:Int)=q.length:=by simpa using h
  omega
 refine ai_ (ac_ (r_z 3 ?_))
 refine aD_ (fun _:Unit=>⟨[],[],1,32⟩) (fun _=>p=q) ?_ ?_
 refine ah_ (aw_ (eqS p q) (fun i=>p.length- i) (fun i=>i≤p.length∧p.take i=q.take i) 0 ⟨Nat.zero_le _,rfl⟩ ?_ ?_)
 simp only[sg_]
 exact s_e []
 rintro i ⟨hi,ht⟩
 rw[sg_]
 refine r_z 1 ?_
 refine ac_ (aj_ rfl (fun h1=>?_) (fun h1=>?_))
 refine ai_ ?_
 have hlt:i< p.length:=by simpa using h1
 have hlt2:i< q.length:=by omega
 have hgp:(pE p)[((i:Nat):Int).toNat]?=some (qC (coP p i)):=bO_ (be_ hlt)
 have hgq:(pE q)[((i:Nat):Int).toNat]?=some (qC (coP q i)):=bO_ (be_ hlt2)
 refine ac_ (ah_ (s_r 6 ?_))
 refine a_1 ?_
 refine i_x hgp ?_
 refine l_x hgp ?_
 refine a_z ?_
 refine s_r 6 ?_
 refine a_2 ?_
 refine i_x hgq ?_
 refine l_x hgq ?_
 refine a_z ?_
 refine r_c 5 (fs_Same1 (coP p i) (coP q i) (gX_ hp i) (gX_ hq i)) ?_
 refine a_z ?_
 refine aj_ rfl (fun h2=>?_) (fun h2=>?_)
 have hc:coP p i≠coP q i:=by simpa using h2
 have hne:p≠q:=fun e=>hc (by rw[e])
 refine r_z 1 ?_
 refine ag_ (aS_ rfl ?_ ?_)
 simp[hne];rfl
 exact ad_ _
 have hc:coP p i=coP q i:=by simpa using h2
 refine ai_ (r_m 2 ?_)
 refine a_z ?_
 refine⟨i+1,by omega,⟨hlt,?_⟩,?_⟩
 rw[cc_ (be_ hlt),cc_ (be_ hlt2),ht,hc]
 simp only[sg_]
 exact s_e []
 have hge:i=p.length:=by
  have:¬i< p.length:=by simpa using h1
  omega
 subst hge
 refine av_ ⟨(),?_,?_⟩
 rw[List.take_length,hlen,List.take_length] at ht;exact ht
 exact s_e []
 rintro _ he
 refine r_z 1 ?_
 refine ag_ (aS_ rfl ?_ ?_)
 simp[he];rfl
 exact ad_ _
theorem lh_(p q:List Rat)(hp:smL p)(hq:smL q)(hp1:p.length≤1099511627776)(hq1:q.length≤1099511627776):FSpec Tryz.prog 21 [.arr (pE p),.arr (pE q)] (bln (sameP p q)):=by
 refine f_n Tryz.func21 ?_ ?_
 exact aa_ (as_ p) (aa_ (as_ q) ab_)
 refine r_z 1 ?_
 refine r_c 6 (cu_ p hp1) ?_
 refine c_s (cu_ q hq1) ?_
 refine c_s (mI_ (trimQ p) (trimQ q) (ki_ hp) (ki_ hq) (Nat.le_trans (aI_ p) hp1)) ?_
 refine a_z ?_
 exact ag_ (t_e (ad_ _))
def mulS(p:List Rat)(q:List Rat):Nat×List Rat→AState
 |(i,o)=>⟨[(1,.arr (pE q)),(5,.lsl 1 0 o.length (some o.length) 3),(25,.arr (pE p)),(26,i64 p.length),(27,i64 i)],[(1,some ⟨35,3,pE o⟩)],2,61⟩
theorem ge_(p:List Rat)(q:List Rat)(i:Nat)(o:List Rat):mulS p q (i,o)=⟨[(1,.arr (pE q)),(5,.lsl 1 0 o.length (some o.length) 3),(25,.arr (pE p)),(26,i64 p.length),(27,i64 i)],[(1,some ⟨35,3,pE o⟩)],2,61⟩:=rfl
def mulT(p:List Rat)(q:List Rat)(i:Nat)(a:Rat):Nat×List Rat→AState
 |(k,o)=>⟨[(1,.arr (pE q)),(5,.lsl 1 0 o.length (some o.length) 3),(6,i64 i),(7,.lptr 2 0 0),(25,.arr (pE p)),(26,i64 p.length),(27,i64 i),(35,.arr (pE q)),(36,i64 q.length),(37,i64 k)],[(1,some ⟨35,3,pE o⟩),(2,some ⟨35,3,[qC a]⟩)],3,61⟩
theorem nC_(p:List Rat)(q:List Rat)(i:Nat)(a:Rat)(k:Nat)(o:List Rat):mulT p q i a (k,o)=⟨[(1,.arr (pE q)),(5,.lsl 1 0 o.length (some o.length) 3),(6,i64 i),(7,.lptr 2 0 0),(25,.arr (pE p)),(26,i64 p.length),(27,i64 i),(35,.arr (pE q)),(36,i64 q.length),(37,i64 k)],[(1,some ⟨35,3,pE o⟩),(2,some ⟨35,3,[qC a]⟩)],3,61⟩:=rfl
theorem j3_(p q:List Rat)(s t:Nat)(hp:bdL p s)(hq:bdL q t)(hs:1≤s)(ht:1≤t)(h:p.length* (s+t+1)+1≤137438953472)(ht2:t≤137438953472)(hp1:p.length≤274877906944)(hq1:q.length≤274877906944):FSpec Tryz.prog 52 [.arr (pE p),.arr (pE q)] (.arr (pE (mulP p q))):=by
 refine f_n Tryz.func52 ?_ ?_
 exact aa_ (as_ p) (aa_ (as_ q) ab_)
 refine r_z 1 ?_
 refine a2_ (fun _:Unit=>⟨[(0,.arr (pE p)),(1,.arr (pE q))],[],1,61⟩) (fun _=>p≠[]∧q≠[]) ?_ ?_
 by_cases h1:p=[]
 subst h1
 refine s_r 8 ?_
 refine a_4 ?_
 refine n_g rfl (by simp) ?_
 refine n_g rfl (by simp) ?_
 refine n_g rfl (by simp) ?_
 refine o_0 (.pickT rfl (by simp) rfl) ?_
 refine ak_ ?_
 refine aj_ rfl (fun h=>?_) (fun h=>?_)
 refine r_z 1 ?_
 refine ag_ ?_
 unfold mulP
 rw[if_pos (.inl rfl)]
 exact Fin.tmpN rfl
 cases h
 have hp0:p.length≠0:=fun e=>h1 (List.length_eq_zero_iff.1 e)
 refine s_r 8 ?_
 refine a_4 ?_
 refine y_g rfl (by simp <;> omega) (.move rfl) ?_
 first|refine y_g rfl (by simp <;> omega) (.lenD rfl rfl rfl rfl te_55.h) ?_|refine y_g rfl (by simp <;> omega) (.lenI rfl rfl rfl rfl te_55.h) ?_|refine y_g rfl (by simp <;> omega) (.lenP rfl rfl rfl rfl te_55.h) ?_|refine y_g rfl (by simp <;> omega) (.lenC rfl rfl rfl rfl te_55.h) ?_|refine y_g rfl (by simp <;> omega) (.lenR rfl rfl rfl rfl te_55.h) ?_|refine y_g rfl (by simp <;> omega) (.len rfl rfl rfl rfl rfl te_55.h) ?_
 refine y_g rfl (by simp <;> omega) (.bin rfl rfl bq_) ?_
 refine o_0 (.pickF rfl (by simp <;> omega) rfl) ?_
 refine ak_ ?_
 refine aj_ rfl (fun h2=>?_) (fun h2=>?_)
 have hq0:q=[]:=by
  have:q.length=0:=by simpa using h2
  exact List.length_eq_zero_iff.1 this
 refine r_z 1 ?_
 refine ag_ ?_
 unfold mulP
 rw[if_pos (.inr hq0)]
 exact Fin.tmpN rfl
 have hq0:q≠[]:=by
  have:¬q.length=0:=by simpa using h2
  exact fun e=>this (by rw[e];rfl)
 refine ai_ ⟨(),⟨h1,hq0⟩,?_⟩
 exact s_e []
 rintro _ ⟨hp0,hq0⟩
 have hpl:=List.length_pos_iff.2 hp0
 have hql:=List.length_pos_iff.2 hq0
 have hN:(p.length:Int)+q.length- 1=((p.length+q.length- 1:Nat):Int):=by omega
 refine s_r 8 ?_
 refine a_6 ?_
 refine o_1 (.makeSlice (l:=p.length+q.length- 1) (c:=p.length+q.length- 1) (by rw[←hN];rfl) (by rw[←hN];rfl) te_55.h tz_35.h rfl tb_35.h (by first|omega|(simp;done)|(simp;omega)) (by first|omega|(simp;done)|(simp;omega)) (by unfold maxLen;first|omega|(simp;done)|(simp;omega))) ?_
 refine a_z ?_
 refine ac_ (r_z 3 ?_)
 have hbd:=fun i=>kQ_ (bA_ hp hs) (bA_ hq ht) i
 have hbi:∀i,i≤p.length→i* (s+t+1)+1≤137438953472:=fun i hi=>by
  have:=Nat.mul_le_mul_right (s+t+1) hi
  omega
 have hs2:s≤137438953472:=by
  have:=hbi 1 hpl
  omega
 refine aD_ (fun _:Unit=>mulS p q (p.length,mulR p q p.length)) (fun _=>True) ?_ ?_
 refine ah_ (aw_ (fun i:Nat=>mulS p q (i,mulR p q i)) (fun i=>p.length- i) (fun i=>i≤p.length) 0 (Nat.zero_le _) ?_ ?_)
 simp only[ge_,mulR]
 refine at_ [(1,5)] rfl rfl rfl au_r (fun hs=>au_f) (fun hs=>?_)
 ·repeat' (first|exact aq_|refine al_ rfl rfl rfl rfl ?_ ?_)
  all_goals (first|(exact CvLL.zeros hs _)|exact au_e)
 rintro i hi
 simp only[ge_]
 refine r_z 1 ?_
 refine ac_ (aj_ rfl (fun h=>?_) (fun h=>?_))
 refine ai_ ?_
 have hlt:i< p.length:=by simpa using h
 have hgp:(pE p)[((i:Nat):Int).toNat]?=some (qC (coP p i)):=bO_ (be_ hlt)
 refine ac_ (ah_ (s_r 6 ?_))
 refine a_1 ?_
 refine i_x hgp ?_
 refine l_x hgp ?_
 refine a_z ?_
 refine ac_ (r_c 3 (bU_ (coP p i)) ?_)
 refine a_z ?_
 refine aj_ rfl (fun h1=>?_) (fun h1=>?_)
 have h0:coP p i=0:=by
  have h1:sgZ (coP p i).num=0:=by simpa using h1
  exact sgZ_num_eq.1 h1
 have hst:mulR p q (i+1)=mulR p q i:=by rw[mulR,if_pos h0]
 refine av_ (r_m 2 ?_)
 refine a_z ?_
 refine⟨i+1,by omega,hlt,?_⟩
 simp only[ge_,hst]
 exact s_e []
 have h0:coP p i≠0:=by
  intro e
  have h1:¬sgZ (coP p i).num=0:=by simpa using h1
  exact h1 (sgZ_num_eq.2 e)
 have hst:mulR p q (i+1)=rowP (mulR p q i) (coP p i) q i q.length:=by rw[mulR,if_neg h0]
 refine ai_ (r_z 3 ?_)
 refine AWp.cutB (fun _:Unit=>mulS p q (i,mulR p q (i+1))) (fun _=>True) ?_ ?_
 refine ah_ (aw_ (fun k:Nat=>mulT p q i (coP p i) (k,rowP (mulR p q i) (coP p i) q i k)) (fun k=>q.length- k) (fun k=>k≤q.length) 0 (Nat.zero_le _) ?_ ?_)
 simp only[nC_,rowP]
 exact s_e [(2,7)]
 rintro k hk
 simp only[nC_]
 refine r_z 1 ?_
 refine ac_ (aj_ rfl (fun h2=>?_) (fun h2=>?_))
 refine ai_ ?_
 have hlt2:k< q.length:=by simpa using h2
 have hgq:(pE q)[((k:Nat):Int).toNat]?=some (qC (coP q k)):=bO_ (be_ hlt2)
 refine ac_ (ah_ (s_r 6 ?_))
 refine a_1 ?_
 refine i_x hgq ?_
 refine l_x hgq ?_
 refine a_z ?_
 have hb1:=hbd i
 have hb2:=hbi (i+1) hlt
 have hb3:=hbi i hi
 have hcur:qs (coP (rowP (mulR p q i) (coP p i) q i k) (i+k))≤137438953472:=by
  rw[kI_ _ _ _ _ _ _ (by omega)];exact Nat.le_trans (hb1 (i+k)) hb3
 have hab:=b3_ (coP p i) (coP q k)
 have hqa:=bA_ hp hs i
 have hqb:=bA_ hq ht k
 have hik:i+k< (rowP (mulR p q i) (coP p i) q i k).length:=by simp;omega
 have hgo:(pE (rowP (mulR p q i) (coP p i) q i k))[(0+(((i:Nat):Int)+(k:Nat)).toNat)]?=some (qC (coP (rowP (mulR p q i) (coP p i) q i k) (i+k))):=by
  rw[show 0+(((i:Nat):Int)+(k:Nat)).toNat=i+k by omega];exact bO_ (be_ hik)
 refine r_d hmix 16 ?_
 refine a_8 ?_
 refine a_1 ?_
 first|refine aM_ (.load_l rfl rfl hgo tg_35.h ts_35.h (nle rfl)) rfl rfl ?_|refine aM_ (.load_a rfl hgo tg_35.h ts_35.h (nle rfl)) rfl rfl ?_
 refine c_s (de_ (coP p i) (coP q k) (by omega)) ?_
 refine c_s (f4_ (coP (rowP (mulR p q i) (coP p i) q i k) (i+k)) (coP p i* coP q k) (by omega)) ?_
 refine a_1 ?_
 refine o_1n (.store rfl rfl hgo rfl rfl rfl ts_35.h (nle rfl)) ?_
 refine ak_ (n_k ?_)
 refine r_m 2 ?_
 refine a_z ?_
 refine⟨k+1,by omega,hlt2,?_⟩
 have hst2:(pE (rowP (mulR p q i) (coP p i) q i k)).set (0+(((i:Nat):Int)+(k:Nat)).toNat) (qC (coP (rowP (mulR p q i) (coP p i) q i k) (i+k)+coP p i* coP q k))=pE (rowP (mulR p q i) (coP p i) q i (k+1)):=by
  rw[show 0+(((i:Nat):Int)+(k:Nat)).toNat=i+k by omega,ir_];rfl
 have hl2:(rowP (mulR p q i) (coP p i) q i (k+1)).length=(rowP (mulR p q i) (coP p i) q i k).length:=by simp
 simp only[nC_,hl2]
 refine at_ [] rfl rfl rfl ?_ (fun hs=>au_f) (fun hs=>?_)
 ·repeat' (first|exact ShrL.nil|refine ShrL.cons rfl rfl rfl rfl (by first|(simp)|rfl|(simp;done)|(simp <;> omega)) ?_)
 ·repeat' (first|exact aq_|refine al_ rfl rfl rfl rfl ?_ ?_)
  all_goals (first|(exact aH_ hs hst2 (aJ_ _))|exact au_e)
 have hge:k=q.length:=by
  have:¬k< q.length:=by simpa using h2
  omega
 subst hge
 refine av_ ⟨(),trivial,?_⟩
 simp only[ge_,hst]
 exact s_e []
 rintro _ _
 simp only[ge_]
 refine r_m 2 ?_
 refine a_z ?_
 refine⟨i+1,by omega,hlt,?_⟩
 exact s_e []
 have hge:i=p.length:=by
  have:¬i< p.length:=by simpa using h
  omega
 subst hge
 refine av_ ⟨(),trivial,?_⟩
 simp only[ge_]
 exact s_e []
 rintro _ _
 simp only[ge_]
 have hfull:List.take (mulR p q p.length).length (List.drop 0 (pE (mulR p q p.length)))=pE (mulR p q p.length):=by
  rw[List.drop_zero,List.take_of_length_le (by simp)]
 have hfin:mulP p q=trimQ (mulR p q p.length):=by
  unfold mulP;rw[if_neg (by rintro(h|h);exact hp0 h;exact hq0 h)]
 rw[hfin]
 refine s_r 3 ?_
 refine a_1 ?_
 refine o_1 (.callS1 rfl rfl rfl (.shut rfl d_n (.nil)) rfl ((by rw[hfull];exact cu_ (mulR p q p.length) (by simp;omega)))) ?_
 refine a_z ?_
 exact ag_ (t_e (as_ _))
theorem os_Clone(l:List Rat)(h0:l≠[])(hl:l.length≤1099511627776):OSpec Tryz.prog 184 [.arr (pE l)] 35 3 (pE l):=by
 have hne:pE l≠[]:=by
  intro e
  exact h0 (List.length_eq_zero_iff.1 (by rw[←l7_,e];rfl))
 refine OSpec.enter Tryz.func184 rfl (by kernel_rfl) rfl rfl rfl ?_ ?_ rfl ?_
 exact aa_ (aU_ (aJ_ _)) ab_
 exact aJ_ l
 refine r_z 1 ?_
 refine ac_ (s_r 2 ?_)
 refine a_1 ?_
 first|refine aM_ (.nilq_v rfl rfl te_55.h) rfl rfl ?_|refine aM_ (.nilq_arr rfl (hne) rfl te_55.h) rfl rfl ?_
 refine ak_ ?_
 refine cF ?_
 ·refine ai_ (s_r 4 ?_)
  refine a_2 ?_
  refine o_2 (.append_l rfl rfl rfl te_55.h rfl rfl rfl rfl rfl d_o (by first|exact df_ _|exact dd_ _|exact c2_ _|exact dg_ _|exact c7_ _|assumption|rfl|simp) (by first|rfl|exact df_ _|exact dd_ _|exact c2_ _|exact dg_ _|exact c7_ _|simp) rfl (.arr (gc_ _)) tz_35.h rfl tb_35.h d_o (by first|(simp[maxLen];done)|(simp[maxLen];omega))) ?_
  refine a_z ?_
  exact ag_ (FinO.tmp rfl rfl rfl (by simp))
theorem os_Trim(l:List Rat)(h0:trimQ l≠[])(hl:l.length≤1099511627776):OSpec Tryz.prog 99 [.arr (pE l)] 35 3 (pE (trimQ l)):=by
 refine OSpec.enter Tryz.func99 rfl (by kernel_rfl) rfl rfl rfl ?_ ?_ rfl ?_
 exact aa_ (aU_ (aJ_ _)) ab_
 exact aJ_ _
 refine r_z 1 ?_
 refine r_z 3 ?_
 refine a2_ (trS l) (fun n=>n≤l.length∧trimQ l=l.take n) ?_ ?_
 refine ah_ (aw_ (trS l) (fun n=>n) (fun n=>n≤l.length∧trimQ l=trimQ (l.take n)) l.length ⟨Nat.le_refl _,by rw[List.take_length]⟩ ?_ ?_)
 simp only[fc_]
 exact s_e []
 rintro n ⟨hn,ht⟩
 rw[fc_]
 cases n with
 |zero=>exact absurd (ht.trans rfl) h0
 |succ n=>
  obtain⟨q,hq⟩:∃q,l[n]?=some q:=⟨_,List.getElem?_eq_getElem (by omega)⟩
  have hq':(pE l)[(((n+1:Nat):Int)- 1).toNat]?=some (qC q):=by
   rw[show(((n+1:Nat):Int)- 1).toNat=n by omega];exact bO_ hq
  have hs:trimQ (l.take (n+1))=if q=0 then trimQ (l.take n) else l.take (n+1):=by
   rw[cc_ hq,fF_]
  refine ac_ (s_r 11 ?_)
  refine a_3 ?_
  refine y_g rfl (by simp <;> omega) (.move rfl) ?_
  refine y_g rfl (by simp <;> omega) (.move rfl) ?_
  refine y_g rfl (by simp <;> omega) (.bin rfl rfl (h9_ (by omega))) ?_
  first|refine y_g rfl (by simp <;> omega) (.index_l rfl rfl (by omega) (by omega) te_55.h) ?_|refine y_g rfl (by simp <;> omega) (.index_a rfl rfl (by omega) hq' rfl te_55.h) ?_
  first|refine y_g rfl (by simp <;> omega) (.load_l rfl rfl hq' tg_35.h ts_35.h (nle rfl)) ?_|refine y_g rfl (by simp <;> omega) (.load_a rfl hq' tg_35.h ts_35.h (nle rfl)) ?_
  refine y_g rfl (by simp <;> omega) (.call rfl rfl rfl (bU_ q)) ?_
  refine y_g rfl (by simp <;> omega) (.bin rfl rfl bq_) ?_
  refine o_0 (.pickT rfl (by simp <;> omega) rfl) ?_
  refine ak_ ?_
  refine aj_ rfl (fun h=>?_) (fun h=>?_)
  have h0:q=0:=by
   have h1:sgZ q.num=0:=by simpa using h
   exact sgZ_num_eq.1 h1
  refine ai_ (ah_ (r_m 3 ?_))
  refine a_z ?_
  refine⟨n,Nat.lt_succ_self n,⟨by omega,?_⟩,?_⟩
  rw[ht,hs,if_pos h0]
  simp only[fc_]
  exact s_e []
  have h0:q≠0:=by
   intro e
   have h1:¬sgZ q.num=0:=by simpa using h
   exact h1 (sgZ_num_eq.2 e)
  refine av_ ⟨n+1,⟨hn,?_⟩,?_⟩
  rw[ht,hs,if_neg h0]
  simp only[fc_]
  exact s_e []
 rintro n ⟨hn,ht⟩
 rw[fc_]
 rw[ht] at h0
 have hcl:=os_Clone (l.take n) h0 (by simp;omega)
 refine s_r 5 ?_
 refine a_2 ?_
 refine o_0 (.sa_h rfl rfl (h:=n) rfl (by simp;omega) te_55.h (gc_ _)) ?_
 refine o_1 (.callO rfl rfl rfl ((by rw[nz_];exact hcl))) ?_
 refine a_z ?_
 refine ag_ ?_
 rw[ht]
 exact FinO.tmp rfl rfl rfl (by simp)
def dvS(q:List Rat)(lead:Rat):Nat×List Rat×List Rat→AState
 |(c,u,o)=>⟨[(0,.lsl 1 0 o.length none 3),(1,.arr (pE q)),(4,.lsl 2 0 u.length (some u.length) 3),(6,.lptr 3 0 0),(7,i64 ((c:Int)- 1))],[(1,some ⟨35,3,pE o⟩),(2,some ⟨35,3,pE u⟩),(3,some ⟨35,3,[qC lead]⟩)],4,82⟩
theorem pm_(q:List Rat)(lead:Rat)(c:Nat)(u:List Rat)(o:List Rat):dvS q lead (c,u,o)=⟨[(0,.lsl 1 0 o.length none 3),(1,.arr (pE q)),(4,.lsl 2 0 u.length (some u.length) 3),(6,.lptr 3 0 0),(7,i64 ((c:Int)- 1))],[(1,some ⟨35,3,pE o⟩),(2,some ⟨35,3,pE u⟩),(3,some ⟨35,3,[qC lead]⟩)],4,82⟩:=rfl
def dvT(q:List Rat)(lead:Rat)(n:Nat)(u:List Rat)(k:Rat):Nat×List Rat→AState
 |(i,o)=>⟨[(0,.lsl 1 0 o.length none 3),(1,.arr (pE q)),(4,.lsl 2 0 u.length (some u.length) 3),(6,.lptr 3 0 0),(7,i64 n),(8,.lptr 4 0 0),(55,.arr (pE q)),(56,i64 q.length),(57,i64 i)],[(1,some ⟨35,3,pE o⟩),(2,some ⟨35,3,pE u⟩),(3,some ⟨35,3,[qC lead]⟩),(4,some ⟨35,3,[qC k]⟩)],5,82⟩
theorem si_(q:List Rat)(lead:Rat)(n:Nat)(u:List Rat)(k:Rat)(i:Nat)(o:List Rat):dvT q lead n u k (i,o)=⟨[(0,.lsl 1 0 o.length none 3),(1,.arr (pE q)),(4,.lsl 2 0 u.length (some u.length) 3),(6,.lptr 3 0 0),(7,i64 n),(8,.lptr 4 0 0),(55,.arr (pE q)),(56,i64 q.length),(57,i64 i)],[(1,some ⟨35,3,pE o⟩),(2,some ⟨35,3,pE u⟩),(3,some ⟨35,3,[qC lead]⟩),(4,some ⟨35,3,[qC k]⟩)],5,82⟩:=rfl
theorem fo_(p q:List Rat)(s t:Nat)(hp:bdL p s)(hq:bdL q t)(hs:1≤s)(ht:1≤t)(h:2^ ((trimQ p).length+1- (trimQ q).length) * (s+2* t+1)≤137438953472)(hq0:trimQ q≠[])(hp1:p.length≤274877906944)(hq1:q.length≤274877906944):FSpec Tryz.prog 227 [.arr (pE p),.arr (pE q)] (.tup [.arr (pE (divP p q).1),.arr (pE (divP p q).2)]):=by
 have hlp:=aI_ p
 have hlq:=aI_ q
 have hql:=List.length_pos_iff.2 hq0
 have hg:(pE (trimQ q))[(((trimQ q).length:Int)- 1).toNat]?=some (qC (leadP q)):=by
  rw[show(((trimQ q).length:Int)- 1).toNat=(trimQ q).length- 1 by omega];exact bO_ (bH_ (by omega))
 have hne:=bF_ hq0
 obtain⟨m,hm⟩:∃m,m=(trimQ p).length+1- (trimQ q).length:=⟨_,rfl⟩
 have hmx:(if (0:Int)>((trimQ p).length:Int)- (trimQ q).length+1 then(0:Int) else((trimQ p).length:Int)- (trimQ q).length+1)=(m:Int):=by split <;> omega
 have hB:divB (trimQ q) (leadP q) 137438953472 m (List.replicate m 0) (trimQ p):=by
  refine⟨s,t,bA_ (fun x hx=>hp x (bk_ hx)) hs,bA_ (fun x hx=>hq x (bk_ hx)) ht,hq _ (bk_ (List.mem_of_getElem? (bH_ (n:=(trimQ q).length- 1) (by omega)))),ht,fun n=>?_,by rw[hm];exact h⟩
  have:coP (List.replicate m 0) n=0:=by
   unfold coP
   rw[List.getD_eq_getElem?_getD,List.getElem?_replicate]
   split <;> rfl
  rw[this];decide
 have hdv:divP p q=(trimQ (divR (trimQ q) (leadP q) m (List.replicate m 0) (trimQ p)).1,trimQ (divR (trimQ q) (leadP q) m (List.replicate m 0) (trimQ p)).2):=by rw[hm];rfl
 rw[hdv]
 refine f_n Tryz.func227 ?_ ?_
 exact aa_ (as_ p) (aa_ (as_ q) ab_)
 refine r_z 2 ?_
 by_cases hp0:trimQ p=[]
 ·have hm0:m=0:=by rw[hm,hp0];simp;omega
  subst hm0
  rw[hp0] at hmx⊢
  have htp:=cu_ p (by omega)
  rw[hp0] at htp
  refine r_c 6 (htp) ?_
  refine c_s (cu_ q (by omega)) ?_
  refine a_z ?_
  refine s_r 8 ?_
  refine a_4 ?_
  refine i_x hg ?_
  refine l_x hg ?_
  refine a_z ?_
  refine s_r 9 ?_
  refine a_7 ?_
  refine o_1 (.makeSlice (l:=0) (c:=0) (by rw[←hmx];rfl) (by rw[←hmx];rfl) te_55.h tz_35.h rfl tb_35.h (by first|omega|(simp;done)|(simp;omega)) (by first|omega|(simp;done)|(simp;omega)) (by unfold maxLen;first|omega|(simp;done)|(simp;omega))) ?_
  refine a_z ?_
  refine ac_ (r_z 6 ?_)
  refine aD_ (fun _:Unit=>⟨[(0,.arr (pE [])),(4,.lsl 2 0 0 (some 0) 3)],[(2,some ⟨35,3,[]⟩)],3,82⟩) (fun _=>True) ?_ ?_
  refine ah_ (aw_ (fun _:Unit=>⟨[(0,.arr (pE [])),(4,.lsl 2 0 0 (some 0) 3),(7,i64 (0- ((trimQ q).length:Int)))],[(2,some ⟨35,3,[]⟩)],3,82⟩) (fun _=>0) (fun _=>True) () trivial ?_ ?_)
  refine at_ [(2,4)] rfl rfl rfl au_r (fun hs=>au_f) (fun hs=>?_)
  ·repeat' (first|exact aq_|refine al_ rfl rfl rfl rfl ?_ ?_)
   all_goals (first|(exact CvLL.nil)|exact au_e)
  rintro _ _
  refine ac_ (r_z 2 ?_)
  refine aj_ rfl (fun h1=>?_) (fun h1=>?_)
  exact absurd h1 (by simp;omega)
  refine av_ ⟨(),trivial,?_⟩
  refine at_ [] rfl rfl rfl au_r (fun hs=>au_f) (fun hs=>?_)
  ·repeat' (first|exact aq_|refine al_ rfl rfl rfl rfl ?_ ?_)
   all_goals (first|(exact CvLL.nil)|exact au_e)
  rintro _ _
  refine s_r 6 ?_
  refine a_1 ?_
  refine o_1 (.callS1 rfl rfl rfl (.shut rfl d_n (.nil)) rfl ((cu_ [] (by simp)))) ?_
  refine c_s (cu_ [] (by simp)) ?_
  refine a_z ?_
  refine ag_ (Fin.many ⟨_,_,rfl,rfl,⟨_,_,rfl,rfl,rfl⟩⟩ (nle rfl) ?_)
  exact af_ (an_ au_ (as_ _)) (af_ (an_ au_ (as_ _)) ap_)
 have hpl:=List.length_pos_iff.2 hp0
 have hto:=os_Trim p hp0 (by omega)
 have hdl:=eb_ (trimQ q) (leadP q) m (List.replicate m 0) (trimQ p)
 have hend:=n3_ hB
 refine s_r 6 ?_
 refine a_1 ?_
 refine o_1 (.callO rfl rfl rfl (hto)) ?_
 refine c_s (cu_ q (by omega)) ?_
 refine a_z ?_
 refine AWp.ent (st':=⟨[(0,.lsl 1 0 (trimQ p).length none 3),(1,.arr (pE (trimQ q)))],[(1,some ⟨35,3,pE (trimQ p)⟩)],2,82⟩) ?_ ?_
 exact s_e [(1,0)]
 refine s_r 8 ?_
 refine a_4 ?_
 refine i_x hg ?_
 refine l_x hg ?_
 refine a_z ?_
 refine s_r 9 ?_
 refine a_7 ?_
 refine o_1 (.makeSlice (l:=m) (c:=m) (by rw[←hmx];rfl) (by rw[←hmx];rfl) te_55.h tz_35.h rfl tb_35.h (by first|omega|(simp;done)|(simp;omega)) (by first|omega|(simp;done)|(simp;omega)) (by unfold maxLen;first|omega|(simp;done)|(simp;omega))) ?_
 refine a_z ?_
 refine ac_ (r_z 6 ?_)
 refine aD_ (fun x:List Rat×List Rat=>⟨[(0,.lsl 1 0 x.2.length none 3),(4,.lsl 2 0 x.1.length (some x.1.length) 3)],[(1,some ⟨35,3,pE x.2⟩),(2,some ⟨35,3,pE x.1⟩)],3,82⟩) (fun x=>x=divR (trimQ q) (leadP q) m (List.replicate m 0) (trimQ p)) ?_ ?_
 refine ah_ ?_
 by_cases hab:(trimQ p).length< (trimQ q).length
 have hm0:m=0:=by omega
 subst hm0
 refine aw_ (fun _:Unit=>⟨[(0,.lsl 1 0 (trimQ p).length none 3),(4,.lsl 2 0 0 (some 0) 3),(7,i64 (((trimQ p).length:Int)- ((trimQ q).length:Int)))],[(1,some ⟨35,3,pE (trimQ p)⟩),(2,some ⟨35,3,[]⟩)],3,82⟩) (fun _=>0) (fun _=>True) () trivial ?_ ?_
 refine at_ [(1,0),(2,4)] rfl rfl rfl au_r (fun hs=>au_f) (fun hs=>?_)
 ·repeat' (first|exact aq_|refine al_ rfl rfl rfl rfl ?_ ?_)
  all_goals (first|(exact CvLL.nil)|exact au_e)
 rintro _ _
 refine ac_ (r_z 2 ?_)
 refine aj_ rfl (fun h1=>?_) (fun h1=>?_)
 exact absurd h1 (by simp;omega)
 refine av_ ⟨([],trimQ p),rfl,?_⟩
 exact s_f []
 refine aw_ (fun x:Nat×List Rat×List Rat=>dvS (trimQ q) (leadP q) x) (fun x=>x.1) (fun x=>x.1≤m∧x.2.1.length=m∧x.2.2.length=(trimQ p).length∧divB (trimQ q) (leadP q) 137438953472 x.1 x.2.1 x.2.2∧divR (trimQ q) (leadP q) x.1 x.2.1 x.2.2=divR (trimQ q) (leadP q) m (List.replicate m 0) (trimQ p)) (m,List.replicate m 0,trimQ p) ⟨Nat.le_refl _,by simp,rfl,hB,rfl⟩ ?_ ?_
 simp only[pm_]
 have hm1:((trimQ p).length:Int)- (trimQ q).length=(m:Int)- 1:=by omega
 rw[hm1]
 refine at_ [(1,0),(2,4),(3,6)] rfl rfl rfl au_r (fun hs=>au_f) (fun hs=>?_)
 ·repeat' (first|exact aq_|refine al_ rfl rfl rfl rfl ?_ ?_)
  all_goals (first|(exact CvLL.zeros hs _)|exact au_e)
 rintro⟨c,u,o⟩ ⟨hc,hu,ho,hb,hr⟩
 simp only at hc hu ho hb hr
 simp only[pm_]
 cases c with
 |zero=>
  refine ac_ (r_z 2 ?_)
  refine aj_ rfl (fun h1=>?_) (fun h1=>?_)
  exact absurd h1 (by simp)
  refine av_ ⟨(u,o),hr,?_⟩
  exact s_e []
 |succ n=>
  obtain⟨B,tt,hb1,hb2,hb3,hb4⟩:=pq_ hb
  have hcn:((n+1:Nat):Int)- 1=(n:Int):=by omega
  rw[hcn]
  refine ac_ (r_z 2 ?_)
  refine aj_ rfl (fun h1=>?_) (fun h1=>?_)
  refine ai_ ?_
  obtain⟨k,hk⟩:∃k,k=coP o (n+(trimQ q).length- 1) / leadP q:=⟨_,rfl⟩
  have hst:=m0_ hb
  rw[divR] at hr
  rw[←hk] at hst hr
  have hgo:(pE o)[(0+(((n:Nat):Int)+((trimQ q).length:Nat)- 1).toNat)]?=some (qC (coP o (n+(trimQ q).length- 1))):=by
   rw[show 0+(((n:Nat):Int)+((trimQ q).length:Nat)- 1).toNat=n+(trimQ q).length- 1 by omega];exact bO_ (be_ (by omega))
  have hov:=eq_ (coP o (n+(trimQ q).length- 1)) (leadP q) hne (by have:=hb1 (n+(trimQ q).length- 1);omega)
  rw[←hk] at hov
  have hgu:(pE u)[0+((n:Nat):Int).toNat]?=some (qC (coP u n)):=by
   rw[show 0+((n:Nat):Int).toNat=n by omega];exact bO_ (be_ (by omega))
  refine ac_ (ah_ (ac_ (r_d hmix 12 ?_)))
  refine a_7 ?_
  first|refine aM_ (.load_l rfl rfl hgo tg_35.h ts_35.h (nle rfl)) rfl rfl ?_|refine aM_ (.load_a rfl hgo tg_35.h ts_35.h (nle rfl)) rfl rfl ?_
  refine c_s (hov) ?_
  refine a_2 ?_
  refine ak_ (n_k ?_)
  refine s_r 5 ?_
  refine a_4 ?_
  refine o_1n (.store rfl rfl hgu rfl rfl rfl ts_35.h (nle rfl)) ?_
  refine ak_ ?_
  have hsu:(pE u).set (0+((n:Nat):Int).toNat) (qC k)=pE (u.set n k):=by
   rw[show 0+((n:Nat):Int).toNat=n by omega,ir_]
  have hlu:(u.set n k).length=u.length:=by simp
  refine ac_ (r_c 3 (bU_ k) ?_)
  refine a_z ?_
  refine aj_ rfl (fun h2=>?_) (fun h2=>?_)
  have h0:k=0:=by
   have h2:sgZ k.num=0:=by simpa using h2
   exact sgZ_num_eq.1 h2
  rw[if_pos h0] at hst hr
  refine av_ (r_m 3 ?_)
  refine a_z ?_
  refine⟨(n,u.set n k,o),Nat.lt_succ_self n,⟨by omega,by simp only;omega,ho,hst,hr⟩,?_⟩
  simp only[pm_,hlu]
  exact s_f []
  have h0:k≠0:=by
   intro e
   have h2:¬sgZ k.num=0:=by simpa using h2
   exact h2 (sgZ_num_eq.2 e)
  rw[if_neg h0] at hst hr
  refine ai_ (r_z 3 ?_)
  refine AWp.cutB (fun _:Unit=>⟨[(0,.lsl 1 0 o.length none 3),(1,.arr (pE (trimQ q))),(4,.lsl 2 0 u.length (some u.length) 3),(6,.lptr 3 0 0),(7,i64 n)],[(1,some ⟨35,3,pE (rowM o k (trimQ q) n (trimQ q).length)⟩),(2,some ⟨35,3,pE (u.set n k)⟩),(3,some ⟨35,3,[qC (leadP q)]⟩)],4,82⟩) (fun _=>True) ?_ ?_
  refine ah_ (aw_ (fun i:Nat=>dvT (trimQ q) (leadP q) n (u.set n k) k (i,rowM o k (trimQ q) n i)) (fun i=>(trimQ q).length- i) (fun i=>i≤(trimQ q).length) 0 (Nat.zero_le _) ?_ ?_)
  simp only[si_,rowM,hlu]
  exact s_f [(4,8)]
  rintro i hi
  simp only[si_]
  refine r_z 1 ?_
  refine ac_ (aj_ rfl (fun h3=>?_) (fun h3=>?_))
  refine ai_ ?_
  have hlt2:i< (trimQ q).length:=by simpa using h3
  have hgq:(pE (trimQ q))[((i:Nat):Int).toNat]?=some (qC (coP (trimQ q) i)):=bO_ (be_ hlt2)
  have hcur:qs (coP (rowM o k (trimQ q) n i) (n+i))≤B:=by
   rw[gv_ _ _ _ _ _ _ (by omega)];exact hb1 _
  have hkq:qs k≤B+tt:=by
   have e1:=c8_ (coP o (n+(trimQ q).length- 1)) (leadP q)
   have e2:=hb1 (n+(trimQ q).length- 1)
   rw[hk];omega
  have hkm:=b3_ k (coP (trimQ q) i)
  have hqi:=hb2 i
  have hik:n+i< (rowM o k (trimQ q) n i).length:=by simp;omega
  have hgr:(pE (rowM o k (trimQ q) n i))[(0+(((n:Nat):Int)+(i:Nat)).toNat)]?=some (qC (coP (rowM o k (trimQ q) n i) (n+i))):=by
   rw[show 0+(((n:Nat):Int)+(i:Nat)).toNat=n+i by omega];exact bO_ (be_ hik)
  refine ac_ (ah_ (s_r 6 ?_))
  refine a_1 ?_
  refine i_x hgq ?_
  refine l_x hgq ?_
  refine a_z ?_
  refine r_d hmix 16 ?_
  refine a_8 ?_
  refine a_1 ?_
  first|refine aM_ (.load_l rfl rfl hgr tg_35.h ts_35.h (nle rfl)) rfl rfl ?_|refine aM_ (.load_a rfl hgr tg_35.h ts_35.h (nle rfl)) rfl rfl ?_
  refine c_s (de_ k (coP (trimQ q) i) (by omega)) ?_
  refine c_s (o2_ (coP (rowM o k (trimQ q) n i) (n+i)) (k* coP (trimQ q) i) (by omega)) ?_
  refine a_1 ?_
  refine o_1n (.store rfl rfl hgr rfl rfl rfl ts_35.h (nle rfl)) ?_
  refine ak_ (n_k ?_)
  refine r_m 2 ?_
  refine a_z ?_
  refine⟨i+1,by omega,hlt2,?_⟩
  have hst2:(pE (rowM o k (trimQ q) n i)).set (0+(((n:Nat):Int)+(i:Nat)).toNat) (qC (coP (rowM o k (trimQ q) n i) (n+i)- k* coP (trimQ q) i))=pE (rowM o k (trimQ q) n (i+1)):=by
   rw[show 0+(((n:Nat):Int)+(i:Nat)).toNat=n+i by omega,ir_];rfl
  have hl2:(rowM o k (trimQ q) n (i+1)).length=(rowM o k (trimQ q) n i).length:=by simp
  simp only[si_,hl2]
  refine at_ [] rfl rfl rfl ?_ (fun hs=>au_f) (fun hs=>?_)
  ·repeat' (first|exact ShrL.nil|refine ShrL.cons rfl rfl rfl rfl (by first|(simp)|rfl|(simp;done)|(simp <;> omega)) ?_)
  ·repeat' (first|exact aq_|refine al_ rfl rfl rfl rfl ?_ ?_)
   all_goals (first|(exact aH_ hs hst2 (aJ_ _))|exact au_e)
  have hge:i=(trimQ q).length:=by
   have:¬i< (trimQ q).length:=by simpa using h3
   omega
  subst hge
  refine av_ ⟨(),trivial,?_⟩
  rw[dl_,hlu]
  exact s_e []
  rintro _ _
  refine r_m 3 ?_
  refine a_z ?_
  refine⟨(n,u.set n k,rowM o k (trimQ q) n (trimQ q).length),Nat.lt_succ_self n,⟨by omega,by simp only;omega,by simp only;rw[dl_];exact ho,hst,hr⟩,?_⟩
  simp only[pm_,hlu,dl_]
  exact s_e []
  exact absurd h1 (by simp)
 rintro⟨u,o⟩ hx
 rw[←hx] at hdl hend⊢
 simp only at hdl hend⊢
 have hlu:u.length≤274877906945:=by rw[hdl.1];simp;omega
 have hfu:List.take u.length (List.drop 0 (pE u))=pE u:=by rw[List.drop_zero,List.take_of_length_le (by simp)]
 have hfo:List.take o.length (List.drop 0 (pE o))=pE o:=by rw[List.drop_zero,List.take_of_length_le (by simp)]
 refine s_r 6 ?_
 refine a_1 ?_
 refine o_1 (.callS1 rfl rfl rfl (.shut rfl d_n (.nil)) rfl ((by rw[hfu];exact cu_ u (by omega)))) ?_
 refine a_1 ?_
 refine o_1 (.callS1 rfl rfl rfl (.shut rfl d_n (.nil)) rfl ((by rw[hfo];exact cu_ o (by rw[hdl.2];omega)))) ?_
 refine a_z ?_
 refine ag_ (Fin.many ⟨_,_,rfl,rfl,⟨_,_,rfl,rfl,rfl⟩⟩ (nle rfl) ?_)
 exact af_ (an_ au_ (as_ _)) (af_ (an_ au_ (as_ _)) ap_)
def gcS:List Rat×List Rat→AState
 |(p,q)=>⟨[(0,.arr (pE p)),(1,.arr (pE q))],[],1,21⟩
theorem rz_(p:List Rat)(q:List Rat):gcS (p,q)=⟨[(0,.arr (pE p)),(1,.arr (pE q))],[],1,21⟩:=rfl
theorem degP_neg{l:List Rat}:degP l< 0↔trimQ l=[]:=by
 unfold degP
 constructor
 intro h;exact List.length_eq_zero_iff.1 (by omega)
 intro h;rw[h];decide
theorem fs_Gcd(f:Nat)(p q g:List Rat)(h:gcdM f p q=some g)(hp1:p.length≤274877906944)(hq1:q.length≤274877906944):FSpec Tryz.prog 269 [.arr (pE p),.arr (pE q)] (.arr (pE g)):=by
 refine f_n Tryz.func269 ?_ ?_
 exact aa_ (as_ p) (aa_ (as_ q) ab_)
 refine r_z 1 ?_
 refine a2_ (fun p:List Rat=>⟨[(0,.arr (pE p))],[],1,21⟩) (fun p=>smL p∧p.length≤274877906944∧g=a6_ p) ?_ ?_
 refine ah_ (aw_ (fun x:Nat×List Rat×List Rat=>gcS x.2) (fun x=>x.1) (fun x=>gcdM x.1 x.2.1 x.2.2=some g∧x.2.1.length≤274877906944∧x.2.2.length≤274877906944) (f,p,q) ⟨h,hp1,hq1⟩ ?_ ?_)
 simp only[rz_]
 exact s_e []
 rintro⟨f,p,q⟩ ⟨h,hp1,hq1⟩
 simp only at h hp1 hq1
 simp only[rz_]
 cases f with
 |zero=>cases h
 |succ f=>
  rw[gcdM] at h
  refine ac_ (r_c 3 (bI_ q (by omega)) ?_)
  refine a_z ?_
  refine aj_ rfl (fun h1=>?_) (fun h1=>?_)
  ·have hq0:trimQ q≠[]:=by
    intro e
    have e2:=degP_neg.2 e
    simp at h1;omega
   rw[if_neg hq0] at h
   split at h
   case isFalse=>cases h
   case isTrue hs=>
   have hl:=eZ_ (p:=p) (q:=q)
   have hm:=fK_ (divP p q).2
   refine ai_ (ah_ (r_c 8 (fo_ p q (mxL p) (mxL q) (cl_ p) (cl_ q) (b0_ p) (b0_ q) hs.1 hq0 hp1 hq1) ?_))
   refine a_z ?_
   refine r_m 5 ?_
   refine c_s (la_ (divP p q).2 (n4_ hs hq0).2 (by omega)) ?_
   refine a_z ?_
   refine⟨(f,q,a6_ (divP p q).2),Nat.lt_succ_self f,⟨h,hq1,by simp only;omega⟩,?_⟩
   simp only[rz_]
   exact s_e []
  ·have hq0:trimQ q=[]:=by
    refine degP_neg.1 ?_
    simp at h1;omega
   rw[if_pos hq0] at h
   split at h
   case isFalse=>cases h
   case isTrue hs=>
   cases h
   refine av_ ⟨p,⟨hs,hp1,rfl⟩,?_⟩
   exact s_e []
 rintro p ⟨hs,hp1,rfl⟩
 refine r_c 3 (la_ p hs (by omega)) ?_
 refine a_z ?_
 exact ag_ (t_e (as_ _))

theorem kY_(l:List Rat)(hl:l.length≤281474976710656):GSpec Tryz.prog 268 [bP l] (backP l):=by
 refine GSpec.enter Tryz.func268 rfl (by kernel_rfl) rfl rfl rfl ?_ ?_ rfl ?_
 exact aa_ (bz_ l) ab_
 intro k xs h
 unfold backP at h
 split at h
 cases h;exact aa_ (ad_ _) (aa_ (ay_ _) ab_)
 cases h
 intro ll N E
 refine GWp.seq ?_
 refine GWp.lift ?_
 refine r_m 4 ?_
 refine a_z ?_
 refine GWp.block ?_
 refine GWp.loopS (fun m:Nat=>⟨[(0,.v (.func (.yield ll) #[] #[])),(1,bP l),(3,i64 ((m:Int)- 1))],[],1,19⟩) (fun m=>l.length- m) (fun m=>m) (fun m=>m≤l.length) l.length (Nat.le_refl _) (by simp) ?_ ?_
 exact s_e []
 intro m hm
 refine GWp.seq ?_
 refine GWp.seq ?_
 refine GWp.lift ?_
 refine r_m 2 ?_
 refine a_z ?_
 refine GWp.cond rfl (fun h=>?_) (fun h=>?_)
 ·refine GWp.skip ?_
  have hm1:1≤m:=by have:=of_decide_eq_true h;omega
  have hx':(pE l)[((m:Int)- 1).toNat]?=some (qC (coP l (m- 1))):=by rw[show((m:Int)- 1).toNat=m- 1 by omega];exact bO_ (be_ (by omega))
  refine GWp.seq ?_
  refine GWp.block ?_
  refine GWp.seq ?_
  refine GWp.regY (fr2:=[(0,.v (.func (.yield ll) #[] #[])),(1,bP l),(3,i64 ((m:Int)- 1)),(11,.v (.func (.yield ll) #[] #[])),(12,i64 ((m:Int)- 1)),(16,.agg (qC (coP l (m- 1))))]) (hp2:=[]) (nx2:=1) 6 rfl rfl rfl rfl rfl rfl ?_ rfl rfl rfl ?_ ?_ ?_
  refine o_0 (.move rfl) ?_
  refine o_0 (.move rfl) ?_
  first|refine aM_ (.load_l1 rfl rfl rfl tg_55.h rfl) rfl rfl ?_|refine aM_ (.load_a1 rfl rfl tg_55.h rfl) rfl rfl ?_
  refine o_0 (.move rfl) ?_
  refine i_x hx' ?_
  refine l_x hx' ?_
  refine ak_ ?_
  refine SEntT.to [] rfl rfl rfl au_r (fun hs=>au_f) (fun hs=>au_h)
  rotate_left 2
  intro go
  refine o_0 (.un rfl lK_) ?_
  refine ak_ ?_
  rotate_left
  unfold backP
  rw[if_pos (by omega)]
  have e1:((l.length- 1- (l.length- m):Nat):Int)=(m:Int)- 1:=by omega
  have e2:l.length- 1- (l.length- m)=m- 1:=by omega
  rw[e1,e2]
  rfl
  exact aa_ (ad_ _) (aa_ (ay_ _) ab_)
  cases go with
  |false=>
   refine GWp.cond rfl (fun h=>?_) (fun h=>?_)
   exact GWp.ret ⟨.inr rfl,fun h=>by cases h⟩
   cases h
  |true=>
   refine GWp.cond rfl (fun h=>?_) (fun h=>?_)
   cases h
   refine GWp.skip ?_
   refine GWp.lift ?_
   refine r_m 3 ?_
   refine a_z ?_
   refine⟨rfl,m- 1,by omega,by omega,by omega,?_⟩
   exact s_e []
 refine GWp.exit ⟨.inl rfl,fun _=>?_⟩
 have:m=0:=by have:=of_decide_eq_false h;omega
 subst this
 unfold backP
 rw[if_neg (by omega)]
theorem lm_(l:List Rat):FSpec Tryz.prog 220 [.arr (pE l)] (.clos 268 [] [bP l]):=by
 refine f_n Tryz.func220 ?_ ?_
 exact aa_ (as_ l) ab_
 refine r_z 2 ?_
 refine r_z 2 ?_
 refine ag_ (⟨.inr rfl,[_],⟨_,[],rfl,rfl,rfl⟩,?_⟩)
 exact Cv.clos ap_ (af_ (Cv.boxp au_ rfl (fun _ _ h=>by cases h) rfl (aa_ (as_ l) ab_)) ap_)
def hoS(p:List Rat)(g:Nat)(cap:List AV)(w:Nat→Rat):Nat→AState
 |k=>⟨[(4,.lptr 1 0 0),(5,.aptr [[.clos g [] cap]] 0 0),(6,.lptr 2 0 0),(10,.clos 268 [] [bP p])],[(1,some ⟨35,3,[qC (w k)]⟩),(2,some ⟨35,3,[zC]⟩)],3,18⟩
theorem hoS_mk(p:List Rat)(g:Nat)(cap:List AV)(w:Nat→Rat)(k:Nat):hoS p g cap w k=⟨[(4,.lptr 1 0 0),(5,.aptr [[.clos g [] cap]] 0 0),(6,.lptr 2 0 0),(10,.clos 268 [] [bP p])],[(1,some ⟨35,3,[qC (w k)]⟩),(2,some ⟨35,3,[zC]⟩)],3,18⟩:=rfl
theorem p4_(p:List Rat)(g:Nat)(cap:List AV)(w:Nat→Rat)(hl:p.length≤281474976710656)(hcap:∀c∈cap,Closed c)(hg:∀k,k< p.length→FSpec Tryz.prog g ((.agg (qC (w k)):: .agg (qC (coP p (p.length- 1- k)))::cap).map coe) (.agg (qC (w (k+1))))):FSpec Tryz.prog 145 [.arr (pE p),.agg (qC (w 0)),.clos g [] cap] (.agg (qC (w p.length))):=by
 have hb:=lm_ p
 have hgs:=kY_ p hl
 have hcc:Closed (.clos g [] cap):=aW_ ab_ hcap
 have hcc2:Closed (.aptr [[.clos g [] cap]] 0 0):=am_ (aa_ hcc ab_)
 have hcl2:Closed (.clos 268 [] [bP p]):=aW_ ab_ (aa_ (bz_ p) ab_)
 refine f_n Tryz.func145 ?_ ?_
 exact aa_ (as_ p) (aa_ (ay_ _) (aa_ hcc ab_))
 refine r_z 3 ?_
 refine AWp.ent (st':=⟨[(0,.arr (pE p)),(4,.lptr 1 0 0),(5,.aptr [[.clos g [] cap]] 0 0),(6,.lptr 2 0 0)],[(1,some ⟨35,3,[qC (w 0)]⟩),(2,some ⟨35,3,[zC]⟩)],3,18⟩) ?_ ?_
 have:=aa_ hcc ab_
 exact s_f [(1,4),(2,6)]
 refine ac_ (r_c 2 (hb) ?_)
 refine ak_ ?_
 refine aD_ (fun _:Unit=>⟨[(4,.lptr 1 0 0),(6,.lptr 2 0 0)],[(1,some ⟨35,3,[qC (w p.length)]⟩),(2,some ⟨35,3,[zC]⟩)],3,18⟩) (fun _=>True) ?_ ?_
 refine ah_ (AWp.rangeFunc (α:=Nat) (γ:=Empty) p.length (hoS p g cap w) (fun k=>k) (fun k=>k≤p.length) (fun e=>nomatch e) (fun _ e=>nomatch e) 0 rfl hgs rfl rfl ?_ (fun _=>⟨rfl,rfl⟩) (fun e=>nomatch e) (Nat.zero_le _) rfl (fun _ h=>h) ?_ ?_ ?_ ?_ (fun _ e=>nomatch e))
 intro k xs hT
 unfold backP at hT
 split at hT
 cases hT;rfl
 cases hT
 rw[hoS_mk]
 refine SEntT.to [] rfl rfl rfl au_r (fun hs=>au_f) (fun hs=>au_h)
 exact aa_ (bz_ p) ab_
 ·intro l k xs hk hT
  unfold backP at hT
  split at hT
  rotate_left
  cases hT
  rename_i hlt
  cases hT
  show AWp _ _ _ _ ⟨[(12,.agg (qC (coP p (p.length- 1- k)))),(11,i64 (p.length- 1- k:Nat)),(4,.lptr 1 0 0),(5,.aptr [[.clos g [] cap]] 0 0),(6,.lptr 2 0 0),(10,.clos 268 [] [bP p]),(1004,.lptr 1 0 0),(1005,.aptr [[.clos g [] cap]] 0 0),(1006,.lptr 2 0 0),(1010,.clos 268 [] [bP p])],[(1,some ⟨35,3,[qC (w k)]⟩),(2,some ⟨35,3,[zC]⟩)],3,18⟩
  refine r_m 2 ?_
  refine a_z ?_
  refine ah_ (r_m 5 ?_)
  refine c_s (hg k hlt) ?_
  refine a_z ?_
  refine⟨k+1,⟨hlt,rfl⟩,?_⟩
  show SEntT _ ⟨[(1004,.lptr 1 0 0),(1005,.aptr [[.clos g [] cap]] 0 0),(1006,.lptr 2 0 0),(1010,.clos 268 [] [bP p])],[(1,some ⟨35,3,[qC (w (k+1))]⟩),(2,some ⟨35,3,[zC]⟩)],3,18⟩
  refine SEntT.to [] rfl rfl rfl au_r (fun hs=>au_f) (fun hs=>au_h)
 intro k hk hT
 unfold backP at hT
 split at hT
 cases hT
 refine⟨(),trivial,?_⟩
 rw[hoS_mk]
 have h1:k=p.length:=by omega
 subst h1
 exact s_e []
 rintro _ _
 refine r_z 2 ?_
 exact ag_ (c_e (ay_ _))
theorem fs_Eval1(v c x:Rat)(h1:qs v+qs x≤549755813888)(h2:qs (v* x)+qs c≤549755813888):FSpec Tryz.prog 146 [.agg (qC v),.agg (qC c),bQ x] (.agg (qC (v* x+c))):=by
 refine f_n Tryz.func146 ?_ ?_
 exact aa_ (ay_ v) (aa_ (ay_ c) (aa_ (cx_ x) ab_))
 refine r_z 3 ?_
 refine ac_ (r_d hmix 6 ?_)
 refine c_s (de_ v x h1) ?_
 refine c_s (f4_ (v* x) c h2) ?_
 refine a_1 ?_
 refine ak_ (n_k ?_)
 exact ag_ (c_e (ay_ _))
theorem ll_(p:List Rat)(x:Rat)(h:d3_ p x):FSpec Tryz.prog 54 [.arr (pE p),.agg (qC x)] (.agg (qC (evalP p x))):=by
 have hw:∀k,k< p.length→FSpec Tryz.prog 146 [.agg (qC (evalP (p.drop (p.length- k)) x)),.agg (qC (coP p (p.length- 1- k))),bQ x] (.agg (qC (evalP (p.drop (p.length- (k+1))) x))):=fun k hk=>by
  have:=qb_ h k hk
  rw[sk_ hk]
  exact fs_Eval1 _ _ _ this.1 this.2
 have hh:=p4_ p 146 [bQ x] (fun k=>evalP (p.drop (p.length- k)) x) (by have:=h.2;omega) (aa_ (cx_ x) ab_) hw
 simp only[Nat.sub_zero,Nat.sub_self,List.drop_zero,List.drop_length] at hh
 rw[show evalP [] x=0 from rfl,qC0] at hh
 refine f_n Tryz.func54 ?_ ?_
 exact aa_ (as_ p) (aa_ (ay_ x) ab_)
 refine r_z 2 ?_
 refine AWp.ent (st':=⟨[(0,.arr (pE p)),(3,bQ x),(4,.lptr 1 0 0)],[(1,some ⟨35,3,[zC]⟩)],2,9⟩) ?_ ?_
 exact s_e [(1,4)]
 refine r_c 5 (hh) ?_
 refine a_z ?_
 exact ag_ (c_e (ay_ _))
abbrev bS(s:Sp):AV:= .aptr [spC s.1 s.2] 0 0
theorem fy_(s:Sp):Closed (bS s):=am_ (hp_ _ _)

def coS:Nat×Nat→AState
 |(a,b)=>⟨[(2,.lptr 1 0 0),(3,.lptr 2 0 0),(4,.lptr 3 0 0)],[(1,some ⟨35,3,[qC (nQ a)]⟩),(2,some ⟨35,3,[qC (nQ b)]⟩),(3,some ⟨35,3,[zC]⟩)],4,18⟩
theorem m5_(a:Nat)(b:Nat):coS (a,b)=⟨[(2,.lptr 1 0 0),(3,.lptr 2 0 0),(4,.lptr 3 0 0)],[(1,some ⟨35,3,[qC (nQ a)]⟩),(2,some ⟨35,3,[qC (nQ b)]⟩),(3,some ⟨35,3,[zC]⟩)],4,18⟩:=rfl
theorem j0_(a b:Nat)(ha:bl a≤68719476736)(hb:bl b≤68719476736):FSpec Tryz.prog 297 [.agg (qC (nQ a)),.agg (qC (nQ b))] (.agg (qC (nQ (Nat.gcd a b)))):=by
 refine f_n Tryz.func297 ?_ ?_
 exact aa_ (ay_ _) (aa_ (ay_ _) ab_)
 refine r_z 3 ?_
 refine a2_ (fun _:Unit=>coS (Nat.gcd a b,0)) (fun _=>True) ?_ ?_
 refine ah_ (aw_ coS (fun x=>x.2) (fun x=>Nat.gcd x.1 x.2=Nat.gcd a b∧bl x.1≤68719476736∧bl x.2≤68719476736) (a,b) ⟨rfl,ha,hb⟩ ?_ ?_)
 simp only[m5_]
 exact s_e []
 rintro⟨u,v⟩ ⟨hg,hu,hv⟩
 simp only at hg hu hv
 rw[m5_]
 refine ac_ (r_c 3 (bU_ (nQ v)) ?_)
 refine a_z ?_
 refine aj_ rfl (fun h=>?_) (fun h=>?_)
 have hv0:v≠0:=by
  intro e
  subst e
  exact absurd h (by decide)
 refine ai_ ?_
 have h1:=qs_nQ (n:=u) hu (by decide)
 have h2:=qs_nQ (n:=v) hv (by decide)
 have hq:=c8_ (nQ u) (nQ v)
 have hov:=eq_ (nQ u) (nQ v) (fun e=>hv0 (nQ_zero.1 e)) (by omega)
 have hfl:=fs_floor (nQ u/ nQ v) (by omega)
 rw[oQ_ u v hv0,nE_ u v hv0] at hfl
 rw[oQ_ u v hv0] at hov
 have h3:=qs_nQ (n:=u/ v) (k:=68719476736) (Nat.le_trans (cW_ u v) hu) (by decide)
 have hmu:=de_ (nQ v) (nQ (u/ v)) (by omega)
 rw[oP_] at hmu
 have hle:v* (u/ v)≤u:=Nat.mul_div_le u v
 have h4:=qs_nQ (n:=v* (u/ v)) (k:=68719476736) (Nat.le_trans (b6_ hle) hu) (by decide)
 have hsu:=o2_ (nQ u) (nQ (v* (u/ v))) (by omega)
 rw[nQ_sub hle,show u- v* (u/ v)=u % v by have:=Nat.div_add_mod u v;omega] at hsu
 refine ah_ (r_d hmix 11 ?_)
 refine c_s (hov) ?_
 refine c_s (hfl) ?_
 refine c_s (hmu) ?_
 refine c_s (hsu) ?_
 refine a_2 ?_
 refine ak_ (n_k ?_)
 refine⟨(v,u % v),Nat.mod_lt _ (by omega),⟨?_,hv,Nat.le_trans (b6_ (Nat.mod_le u v)) hu⟩,?_⟩
 rw[←hg];show Nat.gcd v (u % v)=Nat.gcd u v
 rw[Nat.gcd_comm v,Nat.gcd_comm u v,←Nat.gcd_rec]
 simp only[m5_]
 exact s_e []
 have hv0:v=0:=by
  have h1:sgZ (nQ v).num=0:=by simpa using h
  exact nQ_zero.1 (sgZ_num_eq.1 h1)
 subst hv0
 rw[Nat.gcd_zero_right] at hg
 refine av_ ⟨(),trivial,?_⟩
 rw[←hg]
 simp only[m5_]
 exact s_e []
 rintro _ _
 simp only[m5_]
 refine r_z 2 ?_
 exact ag_ (c_e (ay_ _))
end Go.Proofs.YtdjfjpeoddmamaaGreatDoor
