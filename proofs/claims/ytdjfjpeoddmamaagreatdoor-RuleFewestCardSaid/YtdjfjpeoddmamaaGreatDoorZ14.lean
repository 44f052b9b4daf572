/- Part Z14 of the proof. -/
import Derived.Test.YtdjfjpeoddmamaaGreatDoorZ13
set_option linter.all false
namespace Go.Proofs.YtdjfjpeoddmamaaGreatDoor
open Go.Abs
set_option maxRecDepth 20000
set_option maxHeartbeats 1000000
def ovS(s:Nat)(V:List Nat)(L:Nat):List Nat×List Nat×Nat→AState
 |(R,T,k)=>⟨[(4,.lptr 1 0 0),(5,.lptr 2 0 0),(6,.lptr 3 0 0),(7,.arr (dE V)),(8,i64 V.length),(9,.lsl 4 0 L (some L) 1),(10,.lsl 5 0 (L- V.length) (some (L- V.length)) 1),(11,i64 ((k:Int)- 1))],
  [(1,some ⟨31,1,[[.emp]]⟩),(2,some ⟨31,1,[[.emp]]⟩),(3,some ⟨31,1,[[mag s]]⟩),(4,some ⟨236,1,dE R⟩),(5,some ⟨236,1,dE (List.replicate k 0++T)⟩)],6,142⟩
theorem l9_(s:Nat)(V:List Nat)(L:Nat)(R:List Nat)(T:List Nat)(k:Nat):ovS s V L (R,T,k)=⟨[(4,.lptr 1 0 0),(5,.lptr 2 0 0),(6,.lptr 3 0 0),(7,.arr (dE V)),(8,i64 V.length),(9,.lsl 4 0 L (some L) 1),(10,.lsl 5 0 (L- V.length) (some (L- V.length)) 1),(11,i64 ((k:Int)- 1))],
   [(1,some ⟨31,1,[[.emp]]⟩),(2,some ⟨31,1,[[.emp]]⟩),(3,some ⟨31,1,[[mag s]]⟩),(4,some ⟨236,1,dE R⟩),(5,some ⟨236,1,dE (List.replicate k 0++T)⟩)],6,142⟩:=rfl
def ovM(s:Nat)(V:List Nat)(L:Nat)(T:List Nat)(pre:List Nat)(post:List Nat)(j:Nat)(n:Nat):List Nat×Nat×Bool→AState
 |(A,g,made)=>⟨[(4,.lptr 1 0 0),(5,.lptr 2 0 0),(6,.lptr 3 0 0),(7,.arr (dE V)),(8,i64 V.length),(9,.lsl 4 0 L (some L) 1),(10,.lsl 5 0 (L- V.length) (some (L- V.length)) 1),(11,i64 (((j+1:Nat):Int)- 1)),(13,u64 g),(14,.lsl 4 j n (some n) 1),(15,bln made)],
  [(1,some ⟨31,1,[[.emp]]⟩),(2,some ⟨31,1,[[.emp]]⟩),(3,some ⟨31,1,[[mag s]]⟩),(4,some ⟨236,1,dE (pre++A++post)⟩),(5,some ⟨236,1,dE (List.replicate (j+1) 0++T)⟩)],6,142⟩
theorem oF_(s:Nat)(V:List Nat)(L:Nat)(T:List Nat)(pre:List Nat)(post:List Nat)(j:Nat)(n:Nat)(A:List Nat)(g:Nat)(made:Bool):ovM s V L T pre post j n (A,g,made)=⟨[(4,.lptr 1 0 0),(5,.lptr 2 0 0),(6,.lptr 3 0 0),(7,.arr (dE V)),(8,i64 V.length),(9,.lsl 4 0 L (some L) 1),(10,.lsl 5 0 (L- V.length) (some (L- V.length)) 1),(11,i64 (((j+1:Nat):Int)- 1)),(13,u64 g),(14,.lsl 4 j n (some n) 1),(15,bln made)],
   [(1,some ⟨31,1,[[.emp]]⟩),(2,some ⟨31,1,[[.emp]]⟩),(3,some ⟨31,1,[[mag s]]⟩),(4,some ⟨236,1,dE (pre++A++post)⟩),(5,some ⟨236,1,dE (List.replicate (j+1) 0++T)⟩)],6,142⟩:=rfl
theorem oE_ (a b:Nat) (h:bl a+bl b≤8796093022208) (hb:0< b)
    (hrec:2≤(digs MB b).length→∀r s,0< s→s< 1000000000→bl r≤bl b+30→FSpec Tryz.prog 178 [.agg [mag r],.agg [mag s]] (.tup [.agg [mag (r/ s)],.agg [mag (r % s)]])):
    FSpec Tryz.prog 178 [.agg [mag a],.agg [mag b]] (.tup [.agg [mag (a/ b)],.agg [mag (a % b)]]):=by
 have hla:=bd_ (b:=MB) (by decide) a
 have hlb:=bd_ (b:=MB) (by decide) b
 have va:=a8_ (b:=MB) (by decide) a
 have vb:=a8_ (b:=MB) (by decide) b
 refine f_n Tryz.func178 ?_ ?_
 exact aa_ (ao_ (aa_ (aT_ a) ab_)) (aa_ (ao_ (aa_ (aT_ b) ab_)) ab_)
 refine r_z 4 ?_
 refine ac_ (ah_ (r_c 5 (hi_ a b (by omega)) ?_))
 refine a_z ?_
 refine aj_ rfl (fun h=>?_) (fun h=>?_)
 have hlt:a< b:=by
  have h1:=of_decide_eq_true h
  unfold cmpZ at h1
  split at h1
  omega
  split at h1 <;> omega
 refine ac_ (r_d hmix 4 ?_)
 refine a_4 ?_
 refine ak_ (n_k ?_)
 refine ag_ ?_
 rw[Nat.div_eq_of_lt hlt,Nat.mod_eq_of_lt hlt]
 refine Fin.many ⟨_,_,rfl,⟨_,_,_,_,_,rfl,rfl,rfl,.inl ⟨tg_31.h,_,ts_31.h,nle rfl,rfl⟩⟩,_,_,rfl,⟨_,_,_,_,_,rfl,rfl,rfl,.inl ⟨tg_31.h,_,ts_31.h,nle rfl,rfl⟩⟩,rfl⟩ (nle rfl) ?_
 refine af_ (Cv.agg (af_ (Cv.emp _ ?_) ap_)) (af_ (an_ au_ (ao_ (aa_ (aT_ a) ab_))) ap_)
 unfold mag;rw[by_];rfl
 have hge:b≤a:=by
  have h1:=of_decide_eq_false h
  refine Nat.le_of_not_lt fun hlt=>h1 ?_
  rw[gn_ (by omega)];decide
 refine r_z 5 ?_
 refine aj_ rfl (fun h2=>?_) (fun h2=>?_)
 have hl1:(digs MB b).length=1:=by simp at h2;omega
 have hbm:b< 1000000000:=by
  have:=dC_ (b:=MB) (cq_ (by decide) b)
  rw[vb,hl1] at this;simpa using this
 have hg:(dE (digs MB b))[(0:Int).toNat]?=some [u32 b]:=by rw[qe_ hb hbm];rfl
 refine ac_ (r_d hmix 10 ?_)
 refine a_3 ?_
 refine i_x hg ?_
 refine l_1 hg ?_
 refine c_s (rH_ a b (by omega) hb (by omega)) ?_
 refine a_4 ?_
 refine ak_ (n_k ?_)
 refine ag_ (Fin.many ⟨_,_,rfl,⟨_,_,_,_,_,rfl,rfl,rfl,.inl ⟨tg_31.h,_,ts_31.h,nle rfl,rfl⟩⟩,_,_,rfl,⟨_,_,_,_,_,rfl,rfl,rfl,.inl ⟨tg_31.h,_,ts_31.h,nle rfl,rfl⟩⟩,rfl⟩ (nle rfl) ?_)
 exact af_ (an_ au_ (ao_ (aa_ (aT_ _) ab_))) (af_ (an_ au_ (ao_ (aa_ (aT_ _) ab_))) ap_)
 have hl2:2≤(digs MB b).length:=by
  have h1:¬(digs MB b).length=1:=by simp at h2;omega
  have h0:(digs MB b).length≠0:=fun e=>by
   rw[List.length_eq_zero_iff] at e
   have:=(ec_ (b:=MB) (by decide)).1 e;omega
  omega
 refine ai_ ?_
 -- the leading digit,the factor
 obtain⟨vt,hvt⟩:∃d,(digs MB b)[(digs MB b).length- 1]?=some d:=⟨_,List.getElem?_eq_getElem (by omega)⟩
 have hvt1:vt< 1000000000:=bv_ (by decide) hvt
 have hvt0:1≤vt:=by
  have:=i3_ (b:=MB) (by decide) b
  rw[List.getLast?_eq_getElem?,hvt] at this
  simp at this;omega
 have hvt':(dE (digs MB b))[(((digs MB b).length:Int)- 1).toNat]?=some [u32 vt]:=by rw[show(((digs MB b).length:Int)- 1).toNat=(digs MB b).length- 1 by omega];exact ct_ hvt
 obtain⟨sc1,sc2,sc3⟩:=qJ_ hvt0 hvt1
 have hsI:(1000000000:Int) / ((vt:Int)+1)=((1000000000/ (vt+1):Nat):Int):=by rw[show((vt:Int)+1)=((vt+1:Nat):Int) by omega];exact(Int.natCast_ediv _ _).symm
 have hs9:1000000000/ (vt+1)≤500000000:=by
  have:1000000000/ (vt+1)≤1000000000/ 2:=Nat.div_le_div_left (by omega) (by omega)
  omega
 obtain⟨s,hs⟩:∃s,s=1000000000/ (vt+1):=⟨_,rfl⟩
 rw[←hs] at sc1 sc2 sc3 hsI hs9
 have hsm:FSpec Tryz.prog 180 [.v (.int .u64 ((1000000000:Int) / ((vt:Int)+1)))] (.agg [mag s]):=by rw[hsI];exact ep_ s (by omega)
 have hbls:bl s≤30:=bl_le (by omega)
 have hbs:=eN_ b s
 have has:=eN_ a s
 refine s_r 14 ?_
 refine a_6 ?_
 refine i_x hvt' ?_
 refine l_1 hvt' ?_
 refine a_1 ?_
 refine o_0 (.bin rfl rfl (pM_ (by omega))) ?_
 refine o_0 (.conv rfl (cU64 (by rw[hsI];omega) tu_236.h tu_235.h)) ?_
 refine c_s (hsm) ?_
 refine a_z ?_
 obtain⟨k,hk⟩:∃k,(digs MB b).length=k+1:=⟨(digs MB b).length- 1,by omega⟩
 obtain⟨hVl,hb1,hv2,v1,lw,hv1,hvw,hlw,hv500,hv1b⟩:=qc_ (s:=s) hk (by rw[hk] at hvt;exact hvt) hvt0 sc1 sc2
 have hv1':(dE (digs MB (b* s)))[(((digs MB (b* s)).length:Int)- 1).toNat]?=some [u32 v1]:=by rw[show(((digs MB (b* s)).length:Int)- 1).toNat=k by omega];exact ct_ hv1
 have hab:=oS_ (b:=MB) (by decide) hge
 have hU1:a* s< MB^ (digs MB a).length* s:=by
  have:=dC_ (b:=MB) (cq_ (by decide) a)
  rw[va] at this
  exact Nat.mul_lt_mul_of_pos_right this sc3
 have hUl:(digs MB (a* s)).length≤(digs MB a).length+1:=by
  refine cT_ (by decide) ?_
  rw[Nat.pow_succ]
  have:MB^ (digs MB a).length* s≤MB^ (digs MB a).length* MB:=Nat.mul_le_mul_left _ (by show s≤1000000000;omega)
  omega
 have hcp:setAt (List.replicate ((digs MB a).length+1) [ofV (Value.int IntKind.u32 0)]) 0 (List.take (Nat.min (dE (digs MB (a* s))).length ((digs MB a).length+1)) (dE (digs MB (a* s))))=dE (padD MB ((digs MB a).length+1) (a* s)):=by
  rw[List.take_of_length_le (by rw[i7_];exact Nat.le_min.2 ⟨Nat.le_refl _,hUl⟩),ns_ (by rw[i7_,List.length_replicate];exact hUl)]
  rw[←n1_ (l:=digs MB (a* s)++List.replicate ((digs MB a).length+1- (digs MB (a* s)).length) 0) ?_ ?_ ?_]
  rw[fs_,←dF_];simp[u32,ofV]
  intro d hd
  rcases List.mem_append.1 hd with hd|hd
  exact cq_ (by decide) _ d hd
  simp at hd;rw[hd.2];decide
  simp;omega
  rw[dm_,it_,a8_ (by decide)];simp
 refine r_c 5 (en_ b s (by omega)) ?_
 refine a_z ?_
 refine r_z 3 ?_
 have hL0:((digs MB a).length:Int)+1=(((digs MB a).length+1:Nat):Int):=by omega
 refine s_r 6 ?_
 refine a_4 ?_
 refine o_1 (.makeSlice (congrArg (fun z=>some (AV.v (.int .i64 z))) hL0) (congrArg (fun z=>some (AV.v (.int .i64 z))) hL0) te_29.h tz_236.h rfl tb_236.h (by first|omega|(simp;done)|(simp;omega)) (by first|omega|(simp;done)|(simp;omega)) (by unfold maxLen;first|omega|(simp;done)|(simp;omega))) ?_
 refine a_z ?_
 refine r_c 6 (en_ a s (by omega)) ?_
 refine a_1 ?_
 refine o_1 (.copy rfl rfl rfl te_29.h rfl rfl rfl (by first|(simp;done)|(simp;omega)) (by first|exact df_ _|exact dd_ _|exact c2_ _|exact dg_ _|exact c7_ _|rfl|simp) rfl (.arr (n9_ _))) ?_
 refine ak_ ?_
 have hLI:(((digs MB a).length+1:Nat):Int)- ((digs MB (b* s)).length:Nat)=(((digs MB a).length+1- (digs MB (b* s)).length:Nat):Int):=by omega
 refine s_r 6 ?_
 refine a_4 ?_
 refine o_1 (.makeSlice (congrArg (fun z=>some (AV.v (.int .i64 z))) hLI) (congrArg (fun z=>some (AV.v (.int .i64 z))) hLI) te_29.h tz_236.h rfl tb_236.h (by first|omega|(simp;done)|(simp;omega)) (by first|omega|(simp;done)|(simp;omega)) (by unfold maxLen;first|omega|(simp;done)|(simp;omega))) ?_
 refine a_z ?_
 refine ac_ (r_z 4 ?_)
 have hst:DivI (a* s) (b* s) (k+1) ((digs MB a).length+1) (padD MB ((digs MB a).length+1) (a* s)) [] ((digs MB a).length+1- (k+1)):=by
  have hUL:a* s< MB^ ((digs MB a).length+1):=by
   rw[Nat.pow_succ]
   have:MB^ (digs MB a).length* s≤MB^ (digs MB a).length* MB:=Nat.mul_le_mul_left _ (by show s≤1000000000;omega)
   omega
  exact DivI.start (by simp) (kO_ (by decide) _ _) (hW_ (by decide) hUL) (by omega) (by simpa using hb1) (by omega) rfl (by simpa using hU1)
 refine aD_ (ovS s (digs MB (b* s)) ((digs MB a).length+1)) (fun x=>DivI (a* s) (b* s) (k+1) ((digs MB a).length+1) x.1 x.2.1 x.2.2∧x.2.2=0) ?_ ?_
 refine ah_ (aw_ (ovS s (digs MB (b* s)) ((digs MB a).length+1)) (fun x=>x.2.2) (fun x=>DivI (a* s) (b* s) (k+1) ((digs MB a).length+1) x.1 x.2.1 x.2.2) (padD MB ((digs MB a).length+1) (a* s),[],(digs MB a).length+1- (digs MB (b* s)).length) (by rw[hVl];exact hst) ?_ ?_)
 rw[l9_]
 refine at_ [(1,4),(2,5),(3,6),(4,9),(5,10)] rfl rfl rfl ?_ (fun hs=>au_f) (fun hs=>?_)
 ·repeat' (first|exact ShrL.nil|refine ShrL.cons rfl rfl rfl rfl (by first|(exact(congrArg List.length hcp).trans (by simp))|rfl|(simp;done)|(simp <;> omega)) ?_)
 ·repeat' (first|exact aq_|refine al_ rfl rfl rfl rfl ?_ ?_)
  all_goals (first|(exact aH_ hs hcp (a4_ _))|exact au_e)
 rintro⟨R,T,j1⟩ hinv
 simp only at hinv
 rw[l9_]
 refine ac_ (r_z 2 ?_)
 refine aj_ rfl (fun h3=>?_) (fun h3=>?_)
 have hj1:0< j1:=by have:=of_decide_eq_true h3;omega
 obtain⟨j,rfl⟩:∃j,j1=j+1:=⟨j1- 1,by omega⟩
 have hRl:=hinv.len
 have hkl:=hinv.k_le
 obtain⟨p1,p2,p3,p4,p5⟩:=hinv.parts hv2
 have hnext:=hinv.next hv2 (Nat.mul_pos hb sc3) rfl
 obtain⟨A,hA⟩:∃A,A=(R.drop j).take (k+1+1):=⟨_,rfl⟩
 obtain⟨pre,hpre⟩:∃x,x=R.take j:=⟨_,rfl⟩
 obtain⟨post,hpost⟩:∃x,x=R.drop (j+(k+1)+1):=⟨_,rfl⟩
 obtain⟨p,hp⟩:∃p,p=ofD MB (R.drop j):=⟨_,rfl⟩
 have hprel:pre.length=j:=by rw[hpre];simp;omega
 rw[←hA,←hp] at p2
 rw[←hp] at p3 hnext
 rw[←hA] at p4
 rw[←hA,←hpre,←hpost] at p5
 rw[←hpre,←hpost] at hnext
 have hAd:∀d∈A,d< MB:=fun d hd=>hinv.dig d (List.mem_of_mem_drop (List.mem_of_mem_take (by rw[hA] at hd;exact hd)))
 obtain⟨x0,hx0⟩:∃x,A[k]?=some x:=⟨_,List.getElem?_eq_getElem (by omega)⟩
 obtain⟨x1,hx1⟩:∃x,A[k+1]?=some x:=⟨_,List.getElem?_eq_getElem (by omega)⟩
 have hx0b:x0< 1000000000:=hAd x0 (List.mem_of_getElem? hx0)
 have hx1b:x1< 1000000000:=hAd x1 (List.mem_of_getElem? hx1)
 obtain⟨lo,hlo,hlob⟩:=part_two p4 hx0 hx1 hAd
 rw[p2] at hlo
 obtain⟨gu1,gu2⟩:=guess_ok (b:=MB) (by decide) hlo hlob hvw hlw (by show 1000000000≤2* v1;omega) hv1b p3
 have hgR:∀i x,A[i]?=some x→(dE R)[0+(j+i)]?=some [u32 x]:=by
  intro i x hx
  rw[Nat.zero_add]
  refine ct_ ?_
  rw[p5,List.append_assoc,List.getElem?_append_right (by omega),List.getElem?_append_left (by have:=(List.getElem?_eq_some_iff.1 hx).1;omega)]
  rw[show j+i- pre.length=i by omega];exact hx
 have hgN:(dE R)[0+((((j+1:Nat):Int)- 1)+((digs MB (b* s)).length:Nat)).toNat]?=some [u32 x1]:=by
  rw[show((((j+1:Nat):Int)- 1)+((digs MB (b* s)).length:Nat)).toNat=j+(k+1) by omega];exact hgR _ _ hx1
 have hgM:(dE R)[0+((((j+1:Nat):Int)- 1)+((digs MB (b* s)).length:Nat)- 1).toNat]?=some [u32 x0]:=by
  rw[show((((j+1:Nat):Int)- 1)+((digs MB (b* s)).length:Nat)- 1).toNat=j+k by omega];exact hgR _ _ hx0
 obtain⟨g,hg⟩:∃g,g=min ((x1* 1000000000+x0) / v1) 999999999:=⟨_,rfl⟩
 have hg9:g≤999999999:=by rw[hg];exact Nat.min_le_right _ _
 have hgI:(if (999999999:Int)< ((x1:Int) * 1000000000+x0) / (v1:Int) then(999999999:Int) else((x1:Int) * 1000000000+x0) / (v1:Int))=(g:Int):=by
  have e1:((x1:Int) * 1000000000+x0) / (v1:Int)=(((x1* 1000000000+x0) / v1:Nat):Int):=by
   rw[show(x1:Int) * 1000000000+x0=((x1* 1000000000+x0:Nat):Int) by omega];exact(Int.natCast_ediv _ _).symm
  rw[e1,hg]
  generalize (x1* 1000000000+x0) / v1=Q
  by_cases hQ:Q≤999999999
  rw[if_neg (by omega),Nat.min_eq_left hQ]
  rw[if_pos (by omega),Nat.min_eq_right (by omega)];rfl
 rw[show MB- 1=999999999 from rfl,←hg] at gu1 gu2
 refine ai_ (ac_ (ah_ (ac_ (r_d hmix 18 ?_))))
 refine a_5 ?_
 first|refine aM_ (.load_l1 rfl rfl hgN tg_236.h rfl) rfl rfl ?_|refine aM_ (.load_a1 rfl hgN tg_236.h rfl) rfl rfl ?_
 refine a_8 ?_
 first|refine aM_ (.load_l1 rfl rfl hgM tg_236.h rfl) rfl rfl ?_|refine aM_ (.load_a1 rfl hgM tg_236.h rfl) rfl rfl ?_
 refine a_3 ?_
 refine ak_ (n_k ?_)
 refine s_r 10 ?_
 refine a_4 ?_
 refine i_x hv1' ?_
 refine l_1 hv1' ?_
 refine a_z ?_
 refine s_r 12 ?_
 refine a_8 ?_
 refine a_2 ?_
 refine o_0 (.sl_lhm rfl rfl (l:=j) (by omega) rfl (h:=j+(k+1)+1) (by omega) rfl (m:=j+(k+1)+1) (by omega) (by omega) te_29.h) ?_
 refine a_z ?_
 refine AWp.ent (st':=⟨[(4,.lptr 1 0 0),(5,.lptr 2 0 0),(6,.lptr 3 0 0),(7,.arr (dE (digs MB (b* s)))),(8,i64 (digs MB (b* s)).length),(9,.lsl 4 0 ((digs MB a).length+1) (some ((digs MB a).length+1)) 1),(10,.lsl 5 0 ((digs MB a).length+1- (digs MB (b* s)).length) (some ((digs MB a).length+1- (digs MB (b* s)).length)) 1),(11,i64 (((j+1:Nat):Int)- 1)),(13,u64 g),(14,.lsl 4 j (k+1+1) (some (k+1+1)) 1)],
  [(1,some ⟨31,1,[[.emp]]⟩),(2,some ⟨31,1,[[.emp]]⟩),(3,some ⟨31,1,[[mag s]]⟩),(4,some ⟨236,1,dE (pre++A++post)⟩),(5,some ⟨236,1,dE (List.replicate (j+1) 0++T)⟩)],6,142⟩) ?_ ?_
 refine at_ [] rfl rfl rfl ?_ (fun hs=>?_) (fun hs=>?_)
 ·repeat' (first|exact ShrL.nil|refine ShrL.cons rfl rfl rfl rfl (by first|(simp[←p5])|rfl|(simp;done)|(simp <;> omega)) ?_)
 ·repeat' (first|exact aK_|refine aE_ rfl ?_ ?_)
  all_goals (first|(exact Cv.loE hs (congrArg (fun z=>AV.v (.int .u64 z)) hgI) (ad_ _))|exact au_c)
 ·repeat' (first|exact aq_|refine al_ rfl rfl rfl rfl ?_ ?_)
  all_goals (first|(exact aH_ hs (congrArg dE p5) (a4_ _))|exact au_e|(refine ae_ ?_;repeat' (first|exact ap_|refine af_ ?_ ?_)))
  all_goals (first|(exact Cv.loE hs (congrArg (fun z=>AV.v (.int .u64 z)) hgI) (ad_ _))|exact au_c)
 have hV:=a8_ (b:=MB) (by decide) (b* s)
 have hVd:=cq_ (b:=MB) (by decide) (b* s)
 have hsub:∀D q,D+g* (b* s)=p+MB^ (k+1+1) * q→D< MB^ (k+1+1)→q≤1→ESpec Tryz.prog 245 236 1 (dE (pre++A++post)) (dE (pre++padD MB (k+1+1) D++post)) j (k+1+1) (some (k+1+1)) [.arr (dE (digs MB (b* s))),u64 g] (.bool (q !=0)):=by
  intro D q h1 h2 h3
  have:=nZ_ pre A post (digs MB (b* s)) g D q (some (k+1+1)) hAd hVd (Nat.lt_of_le_of_lt hg9 (by decide)) (by omega) (by omega) h3 (by rw[hV,p2,p4];exact h1) (by rw[p4];exact h2)
  rw[hprel,p4] at this;exact this
 have hgive:∀D D' q,D'+MB^ (k+1+1) * q=D+b* s→D< MB^ (k+1+1)→D'< MB^ (k+1+1)→q≤1→ESpec Tryz.prog 246 236 1 (dE (pre++padD MB (k+1+1) D++post)) (dE (pre++padD MB (k+1+1) D'++post)) j (k+1+1) (some (k+1+1)) [.arr (dE (digs MB (b* s)))] (.bool (q !=0)):=by
  intro D D' q h1 h2 h3 h4
  have:=n0_ pre (padD MB (k+1+1) D) post (digs MB (b* s)) D' q (some (k+1+1)) (kO_ (by decide) _ _) hVd (by simp;omega) (by simp;omega) h4 (by rw[hV,eR_,hW_ (by decide) h2];exact h1) (by rw[eR_];exact h3)
  rw[hprel,eR_] at this;exact this
 have hvp:0< b* s:=Nat.mul_pos hb sc3
 have m1:=Nat.mod_add_div p (b* s)
 have m2:=Nat.mod_lt p hvp
 have hBv:MB* (b* s)< MB^ (k+1+1):=by
  rw[Nat.pow_succ MB (k+1),Nat.mul_comm MB]
  exact Nat.mul_lt_mul_of_pos_right hv2 (by decide)
 have hgv:g* (b* s)≤MB* (b* s):=Nat.mul_le_mul_right _ (Nat.le_trans hg9 (by decide))
 obtain⟨W,hW⟩:∃W,W=MB^ (k+1+1):=⟨_,rfl⟩
 simp only[←hW] at hsub hgive hBv
 have hvW:b* s< W:=by
  have:1* (b* s)≤MB* (b* s):=Nat.mul_le_mul_right _ (by decide)
  omega
 refine a2_ (fun _:Unit=>⟨[(4,.lptr 1 0 0),(5,.lptr 2 0 0),(6,.lptr 3 0 0),(7,.arr (dE (digs MB (b* s)))),(8,i64 (digs MB (b* s)).length),(9,.lsl 4 0 ((digs MB a).length+1) (some ((digs MB a).length+1)) 1),(10,.lsl 5 0 ((digs MB a).length+1- (digs MB (b* s)).length) (some ((digs MB a).length+1- (digs MB (b* s)).length)) 1),(11,i64 (((j+1:Nat):Int)- 1)),(13,u64 (p/ (b* s):Nat))],
  [(1,some ⟨31,1,[[.emp]]⟩),(2,some ⟨31,1,[[.emp]]⟩),(3,some ⟨31,1,[[mag s]]⟩),(4,some ⟨236,1,dE (pre++padD MB (k+1+1) (p % (b* s))++post)⟩),(5,some ⟨236,1,dE (List.replicate (j+1) 0++T)⟩)],6,142⟩) (fun _=>True) ?_ ?_
 by_cases hc:g* (b* s)≤p
 have hgq:g=p/ (b* s):=Nat.le_antisymm ((Nat.le_div_iff_mul_le hvp).2 hc) gu1
 have e1:p % (b* s)+g* (b* s)=p+W* 0:=by rw[hgq,Nat.mul_comm (p/ (b* s))];omega
 have hs1:=hsub (p % (b* s)) 0 e1 (by omega) (by omega)
 refine s_r 4 ?_
 refine a_3 ?_
 refine o_1 (.callE2 rfl rfl rfl rfl rfl rfl (hs1)) ?_
 refine ak_ ?_
 refine cF (ai_ ⟨(),trivial,?_⟩)
 have hgI2:u64 g=u64 (p/ (b* s):Nat):=by rw[←hgq]
 exact s_f []
 have hc1:p< g* (b* s):=by omega
 have e1:(p+W- g* (b* s))+g* (b* s)=p+W* 1:=by omega
 have hs1:=hsub (p+W- g* (b* s)) 1 e1 (by omega) (by omega)
 have hgt:p/ (b* s)< g:=by
  rw[Nat.div_lt_iff_lt_mul hvp];exact hc1
 refine s_r 4 ?_
 refine a_3 ?_
 refine o_1 (.callE2 rfl rfl rfl rfl rfl rfl (hs1)) ?_
 refine ak_ ?_
 refine aj_ rfl (fun h4=>?_) (fun h4=>?_)
 refine r_z 1 ?_
 refine ah_ ?_
 refine aw_ (ovM s (digs MB (b* s)) ((digs MB a).length+1) T pre post j (k+1+1)) (fun x=>if x.2.2 then 0 else x.2.1+1)
  (fun x=>(x.2.2=true∧x.2.1=p/ (b* s)∧x.1=padD MB (k+1+1) (p % (b* s)))∨(x.2.2=false∧p/ (b* s)< x.2.1∧x.2.1≤999999999∧∃D,x.1=padD MB (k+1+1) D∧D+x.2.1* (b* s)=p+W∧D< W))
  (padD MB (k+1+1) (p+W- g* (b* s)),g,false) (.inr ⟨rfl,hgt,hg9,_,rfl,by simp only;omega,by omega⟩) ?_ ?_
 rw[oF_]
 exact s_e []
 rintro⟨A',g',made⟩ hin
 rw[oF_]
 refine ac_ (r_z 2 ?_)
 refine aj_ rfl (fun h5=>?_) (fun h5=>?_)
 have hm:made=false:=by simpa using h5
 subst hm
 rcases hin with⟨h6,_⟩|⟨_,h6,h7,D,h8,h9,h10⟩
 cases h6
 simp only at h6 h7 h8 h9
 subst h8
 have hg0:1≤g':=Nat.lt_of_le_of_lt (Nat.zero_le _) h6
 refine ai_ ?_
 have hI:(g':Int)- 1=((g'- 1:Nat):Int):=by omega
 have hq1:b* s* (p/ (b* s))=p- p % (b* s):=by omega
 by_cases hlast:g'=p/ (b* s)+1
 have e2:p % (b* s)+W* 1=D+b* s:=by
  rw[hlast,Nat.add_mul,Nat.one_mul,Nat.mul_comm (p/ (b* s))] at h9;omega
 have hg1:=hgive D (p % (b* s)) 1 e2 h10 (by omega) (by omega)
 refine ac_ (ah_ (r_m 4 ?_))
 refine a_2 ?_
 refine o_1 (.callE2 rfl rfl rfl rfl rfl rfl (hg1)) ?_
 refine a_z ?_
 refine r_m 3 ?_
 refine a_z ?_
 refine⟨(padD MB (k+1+1) (p % (b* s)),g'- 1,true),by simp,.inl ⟨rfl,by simp only;omega,rfl⟩,?_⟩
 rw[oF_]
 have:=(congrArg (fun z=>AV.v (.int .u64 z)) hI)
 exact s_f []
 have hgt2:p/ (b* s)< g'- 1:=by omega
 have h11:(g'- 1) * (b* s)+b* s=g'* (b* s):=by
  conv=>rhs;rw[show g'=(g'- 1)+1 by omega,Nat.add_mul,Nat.one_mul]
 have h12:p< (g'- 1) * (b* s):=by
  rw[Nat.div_lt_iff_lt_mul hvp] at hgt2;exact hgt2
 have hg1:=hgive D (D+b* s) 0 (by omega) h10 (by omega) (by omega)
 refine ac_ (ah_ (r_m 4 ?_))
 refine a_2 ?_
 refine o_1 (.callE2 rfl rfl rfl rfl rfl rfl (hg1)) ?_
 refine a_z ?_
 refine r_m 3 ?_
 refine a_z ?_
 refine⟨(padD MB (k+1+1) (D+b* s),g'- 1,false),by simp;omega,.inr ⟨rfl,hgt2,by simp only;omega,_,rfl,by simp only;omega,by omega⟩,?_⟩
 rw[oF_]
 have:=(congrArg (fun z=>AV.v (.int .u64 z)) hI)
 exact s_f []
 have hm:made=true:=by simpa using h5
 subst hm
 rcases hin with⟨_,h6,h7⟩|⟨h6,_⟩
 simp only at h6 h7
 subst h6 h7
 refine av_ ⟨(),trivial,?_⟩
 exact s_e []
 cases h6
 cases h4
 rintro _ _
 have hq9:p/ (b* s)≤999999999:=Nat.le_trans gu1 hg9
 obtain⟨q,hq⟩:∃q,q=p/ (b* s):=⟨_,rfl⟩
 rw[←hq] at hq9 hnext⊢
 have hrep:List.replicate (j+1) 0++T=List.replicate j 0++0::T:=by rw[List.replicate_succ'];simp
 have hgT:(dE (List.replicate (j+1) 0++T))[0+(((j+1:Nat):Int)- 1).toNat]?=some [u32 0]:=by
  rw[show 0+(((j+1:Nat):Int)- 1).toNat=j by omega,hrep];exact ct_ (iQ_ _ _ _ _ (by simp))
 have hsetT:(dE (List.replicate (j+1) 0++T)).set (0+(((j+1:Nat):Int)- 1).toNat) [u32 q]=dE (List.replicate j 0++(q::T)):=by
  rw[show 0+(((j+1:Nat):Int)- 1).toNat=j by omega,eu_,hrep,ih_ _ _ _ _ _ (by simp)];simp
 refine r_m 6 ?_
 refine a_5 ?_
 refine o_1n (.store rfl rfl hgT rfl rfl rfl ts_236.h (nle rfl)) ?_
 refine ak_ ?_
 refine r_m 3 ?_
 refine a_z ?_
 refine⟨(pre++padD MB (k+1+1) (p % (b* s))++post,q::T,j),by simp only;omega,hnext,?_⟩
 rw[l9_]
 refine at_ [] rfl rfl rfl ?_ (fun hs=>au_f) (fun hs=>?_)
 ·repeat' (first|exact ShrL.nil|refine ShrL.cons rfl rfl rfl rfl (by first|(exact(congrArg List.length hsetT))|rfl|(simp;done)|(simp <;> omega)) ?_)
 ·repeat' (first|exact aq_|refine al_ rfl rfl rfl rfl ?_ ?_)
  all_goals (first|(exact aH_ hs hsetT (a4_ _))|exact au_e)
 have hj:j1=0:=by have:=of_decide_eq_false h3;omega
 subst hj
 refine av_ ⟨(R,T,0),⟨hinv,rfl⟩,?_⟩
 rw[l9_]
 exact s_e []
 rintro⟨R,T,j1⟩ ⟨hinv,hj⟩
 simp only at hinv hj
 subst hj
 obtain⟨hq,hr⟩:=hinv.last rfl rfl hb sc3
 rw[l9_]
 refine AWp.ent (st':=⟨[(4,.lptr 1 0 0),(5,.lptr 2 0 0),(6,.lptr 3 0 0),(9,.arr (dE R)),(10,.arr (dE T))],
  [(1,some ⟨31,1,[[.emp]]⟩),(2,some ⟨31,1,[[.emp]]⟩),(3,some ⟨31,1,[[mag s]]⟩)],4,142⟩) ?_ ?_
 have hlen:=hinv.len
 have hkl:=hinv.k_le
 refine at_ [] rfl rfl rfl au_r (fun hs=>?_) (fun hs=>?_)
 ·repeat' (first|exact aK_|refine aE_ rfl ?_ ?_)
  all_goals (first|(exact Cv.sealE hs rfl (aQ_ rfl) rfl (by simp;omega) (a4_ _))|exact au_c)
 ·repeat' (first|exact aq_|refine al_ rfl rfl rfl rfl ?_ ?_)
  all_goals (first|exact au_e|(refine ae_ ?_;repeat' (first|exact ap_|refine af_ ?_ ?_)))
  all_goals (first|(exact Cv.sealE hs rfl (aQ_ rfl) rfl (by simp;omega) (a4_ _))|exact au_c)
 have hRl:=hinv.len
 have hkl:=hinv.k_le
 have hRt:FSpec Tryz.prog 182 [.arr (dE R)] (.agg [mag (ofD MB R)]):=by
  have:=dU_ R (by omega)
  rwa[eO_ (b:=MB) (by decide) hinv.dig] at this
 have hTt:FSpec Tryz.prog 182 [.arr (dE T)] (.agg [mag (ofD MB T)]):=by
  have:=dU_ T (by omega)
  rwa[eO_ (b:=MB) (by decide) hinv.digT] at this
 have hblr:bl (ofD MB R)≤bl b+30:=by
  have h1:=hinv.top
  rw[List.drop_zero] at h1
  have h2:=b6_ (Nat.le_of_lt h1)
  omega
 have hov:=hrec hl2 (ofD MB R) s (by omega) (by omega) hblr
 rw[hr] at hov
 refine ac_ (r_d hmix 11 ?_)
 refine c_s (hRt) ?_
 refine c_s (hov) ?_
 refine a_7 ?_
 refine ak_ (n_k ?_)
 refine ac_ (r_d hmix 5 ?_)
 refine c_s (hTt) ?_
 refine a_3 ?_
 refine ak_ (n_k ?_)
 refine ag_ (Fin.many ⟨_,_,rfl,⟨_,_,_,_,_,rfl,rfl,rfl,.inl ⟨tg_31.h,_,ts_31.h,nle rfl,rfl⟩⟩,_,_,rfl,⟨_,_,_,_,_,rfl,rfl,rfl,.inl ⟨tg_31.h,_,ts_31.h,nle rfl,rfl⟩⟩,rfl⟩ (nle rfl) ?_)
 rw[←hq]
 exact af_ (an_ au_ (ao_ (aa_ (aT_ _) ab_))) (af_ (an_ au_ (ao_ (aa_ (aT_ _) ab_))) ap_)
theorem len1{b:Nat}(hb:b< 1000000000):(digs MB b).length≤1:=cT_ (by decide) (by simpa using hb)
theorem k8_(a b:Nat)(h:bl a+bl b≤4398046511104)(hb:0< b):FSpec Tryz.prog 178 [.agg [mag a],.agg [mag b]] (.tup [.agg [mag (a/ b)],.agg [mag (a % b)]]):=
 oE_ a b (by omega) hb fun _ r s hs hs1 hr=>oE_ r s (by have:=bl_le (n:=s) (k:=30) (by omega);omega) hs fun h2=>absurd h2 (by have:=len1 hs1;omega)
def backT(l:List Nat)(k:Nat):Option (List AV):=if k< l.length then some [i64 ((l.length- 1- k:Nat):Int),u32 (l.getD (l.length- 1- k) 0)] else none
theorem gJ_(l:List Nat)(hl:l.length≤281474976710656):GSpec Tryz.prog 284 [.aptr [[.arr (dE l)]] 0 0] (backT l):=by
 have hcl:Closed (.aptr [[.arr (dE l)]] 0 0):=dt_ (fun e he c hc=>by simp at he;subst he;simp at hc;subst hc;exact bJ_ l)
 refine GSpec.enter Tryz.func284 rfl (by kernel_rfl) rfl rfl rfl ?_ ?_ rfl ?_
 exact aa_ hcl ab_
 intro k xs h
 unfold backT at h
 split at h
 cases h;exact aa_ (ad_ _) (aa_ (ad_ _) ab_)
 cases h
 intro ll N E
 refine GWp.seq ?_
 refine GWp.lift ?_
 refine r_m 4 ?_
 refine a_z ?_
 refine GWp.block ?_
 refine GWp.loopS (fun m:Nat=>⟨[(0,.v (.func (.yield ll) #[] #[])),(1,.aptr [[.arr (dE l)]] 0 0),(3,i64 ((m:Int)- 1))],[],1,19⟩) (fun m=>l.length- m) (fun m=>m) (fun m=>m≤l.length) l.length (Nat.le_refl _) (by simp) ?_ ?_
 exact s_e []
 intro m hm
 refine GWp.seq ?_
 refine GWp.seq ?_
 refine GWp.lift ?_
 refine r_m 2 ?_
 refine a_z ?_
 refine GWp.cond rfl (fun h=>?_) (fun h=>?_)
 ·refine GWp.skip ?_
  have hm1:1≤m:=by have:=of_decide_eq_true h;omega
  obtain⟨x,hx⟩:∃x,l[m- 1]?=some x:=⟨_,List.getElem?_eq_getElem (by omega)⟩
  have hx':(dE l)[((m:Int)- 1).toNat]?=some [u32 x]:=by rw[show((m:Int)- 1).toNat=m- 1 by omega];exact ct_ hx
  refine GWp.seq ?_
  refine GWp.block ?_
  refine GWp.seq ?_
  refine GWp.regY (fr2:=[(0,.v (.func (.yield ll) #[] #[])),(1,.aptr [[.arr (dE l)]] 0 0),(3,i64 ((m:Int)- 1)),(11,.v (.func (.yield ll) #[] #[])),(12,i64 ((m:Int)- 1)),(16,u32 x)]) (hp2:=[]) (nx2:=1) 6 rfl rfl rfl rfl rfl rfl ?_ rfl rfl rfl ?_ ?_ ?_
  refine o_0 (.move rfl) ?_
  refine o_0 (.move rfl) ?_
  first|refine aM_ (.load_l1 rfl rfl rfl tg_29.h rfl) rfl rfl ?_|refine aM_ (.load_a1 rfl rfl tg_29.h rfl) rfl rfl ?_
  refine o_0 (.move rfl) ?_
  refine i_x hx' ?_
  refine l_1 hx' ?_
  refine ak_ ?_
  refine SEntT.to [] rfl rfl rfl au_r (fun hs=>au_f) (fun hs=>au_h)
  rotate_left 2
  intro go
  refine o_0 (.un rfl lK_) ?_
  refine ak_ ?_
  rotate_left
  unfold backT
  rw[if_pos (by omega)]
  simp only[List.map_cons,List.map_nil,coe,i64,u32,Option.some.injEq,List.cons.injEq,AV.v.injEq,Value.int.injEq,true_and,and_true]
  refine⟨by omega,?_⟩
  rw[show l.length- 1- (l.length- m)=m- 1 by omega,List.getD_eq_getElem?_getD,hx];rfl
  exact aa_ (ad_ _) (aa_ (ad_ _) ab_)
  cases go with
  |false=>
   refine GWp.cond rfl (fun h=>?_) (fun h=>?_)
   exact GWp.ret ⟨.inr rfl,fun h=>by cases h⟩
   cases h
  |true=>
   refine GWp.cond rfl (fun h=>?_) (fun h=>?_)
   cases h
   refine GWp.skip ?_
   refine GWp.lift ?_
   refine r_m 3 ?_
   refine a_z ?_
   refine⟨rfl,m- 1,by omega,by omega,by omega,?_⟩
   exact s_e []
 refine GWp.exit ⟨.inl rfl,fun _=>?_⟩
 have:m=0:=by have:=of_decide_eq_false h;omega
 subst this
 unfold backT
 rw[if_neg (by omega)]
theorem gR_(l:List Nat):FSpec Tryz.prog 239 [.arr (dE l)] (.clos 284 [] [.aptr [[.arr (dE l)]] 0 0]):=by
 refine f_n Tryz.func239 ?_ ?_
 exact aa_ (bJ_ l) ab_
 refine r_z 2 ?_
 refine r_z 2 ?_
 refine ag_ (⟨.inr rfl,[_],⟨_,[],rfl,rfl,rfl⟩,?_⟩)
 exact Cv.clos ap_ (af_ (Cv.sealp au_ rfl (fun _ _ h=>by cases h) (by simp) (ae_ (af_ (an_ au_ (bJ_ l)) ap_))) ap_)
def wordS(n:Nat):Nat→AState
 |k=>⟨[(3,.lptr 1 0 0),(8,.clos 284 [] [.aptr [[.arr (dE (digs MB n))]] 0 0])],[(1,some ⟨235,1,[[u64 (ofD MB ((digs MB n).drop ((digs MB n).length- k)))]]⟩)],2,17⟩
theorem ol_(n:Nat)(k:Nat):wordS n k=⟨[(3,.lptr 1 0 0),(8,.clos 284 [] [.aptr [[.arr (dE (digs MB n))]] 0 0])],[(1,some ⟨235,1,[[u64 (ofD MB ((digs MB n).drop ((digs MB n).length- k)))]]⟩)],2,17⟩:=rfl
theorem rB_(n:Nat)(h:(digs MB n).length≤2):FSpec Tryz.prog 243 [.agg [mag n]] (u64 n):=by
 have hb:=gR_ (digs MB n)
 have hg:=gJ_ (digs MB n) (by omega)
 have hcl:Closed (.aptr [[.arr (dE (digs MB n))]] 0 0):=dt_ (fun e he c hc=>by simp at he;subst he;simp at hc;subst hc;exact bJ_ _)
 have hcl2:Closed (.clos 284 [] [.aptr [[.arr (dE (digs MB n))]] 0 0]):=aW_ ab_ (aa_ hcl ab_)
 refine f_n Tryz.func243 ?_ ?_
 exact aa_ (ao_ (aa_ (aT_ n) ab_)) ab_
 refine r_z 2 ?_
 refine r_z 2 ?_
 refine ac_ (r_c 3 (hb) ?_)
 refine ak_ ?_
 refine aD_ (fun _:Unit=>⟨[(3,.lptr 1 0 0)],[(1,some ⟨235,1,[[u64 n]]⟩)],2,17⟩) (fun _=>True) ?_ ?_
 refine ah_ (AWp.rangeFunc (α:=Nat) (γ:=Empty) (digs MB n).length (wordS n) (fun k=>k) (fun k=>k≤(digs MB n).length) (fun e=>nomatch e) (fun _ e=>nomatch e) 0 rfl hg rfl rfl ?_ (fun _=>⟨rfl,rfl⟩) (fun e=>nomatch e) (Nat.zero_le _) rfl (fun _ h=>h) ?_ ?_ ?_ ?_ (fun _ e=>nomatch e))
 intro k xs hT
 unfold backT at hT
 split at hT
 cases hT;rfl
 cases hT
 rw[ol_]
 have h0:AV.v (.int .u64 0)=u64 ((ofD MB ((digs MB n).drop ((digs MB n).length- 0)):Nat):Int):=by simp[ofD,u64]
 exact s_t [(1,3)]
 exact aa_ hcl ab_
 ·intro l k xs hk hT
  unfold backT at hT
  split at hT
  rotate_left
  cases hT
  rename_i hlt
  cases hT
  obtain⟨x,hx⟩:∃x,(digs MB n)[(digs MB n).length- 1- k]?=some x:=⟨_,List.getElem?_eq_getElem (by omega)⟩
  have hx1:x< 1000000000:=bv_ (by decide) hx
  have hxd:(digs MB n).getD ((digs MB n).length- 1- k) 0=x:=by rw[List.getD_eq_getElem?_getD,hx];rfl
  rw[hxd]
  have hv:=fI_ MB hx
  rw[show(digs MB n).length- 1- k+1=(digs MB n).length- k by omega] at hv
  have hlt2:ofD MB ((digs MB n).drop ((digs MB n).length- k))< 1000000000:=by
   have h1:=dC_ (b:=MB) (l:=(digs MB n).drop ((digs MB n).length- k)) fun d hd=>cq_ (by decide) n d (List.mem_of_mem_drop hd)
   have h2:((digs MB n).drop ((digs MB n).length- k)).length≤1:=by simp;omega
   exact Nat.lt_of_lt_of_le h1 (Nat.pow_le_pow_right (by decide) h2)
  show AWp _ _ _ _ ⟨[(10,u32 x),(9,i64 ((digs MB n).length- 1- k:Nat)),(3,.lptr 1 0 0),(8,.clos 284 [] [.aptr [[.arr (dE (digs MB n))]] 0 0]),(1003,.lptr 1 0 0),(1008,.clos 284 [] [.aptr [[.arr (dE (digs MB n))]] 0 0])],[(1,some ⟨235,1,[[u64 (ofD MB ((digs MB n).drop ((digs MB n).length- k)))]]⟩)],2,17⟩
  refine r_m 1 ?_
  refine a_z ?_
  refine ah_ (r_m 6 ?_)
  refine a_z ?_
  refine⟨k+1,⟨by omega,rfl⟩,?_⟩
  show SEntT _ ⟨[(1003,.lptr 1 0 0),(1008,.clos 284 [] [.aptr [[.arr (dE (digs MB n))]] 0 0])],[(1,some ⟨235,1,[[u64 (ofD MB ((digs MB n).drop ((digs MB n).length- (k+1))))]]⟩)],2,17⟩
  have h1:AV.v (.int .u64 ((ofD MB ((digs MB n).drop ((digs MB n).length- k)):Nat) * 1000000000+(x:Int)))=u64 ((ofD MB ((digs MB n).drop ((digs MB n).length- (k+1))):Nat):Int):=by
   rw[show(digs MB n).length- (k+1)=(digs MB n).length- 1- k by omega,hv]
   simp[u64];omega
  exact s_t []
 intro k hk hT
 unfold backT at hT
 split at hT
 cases hT
 refine⟨(),trivial,?_⟩
 rw[ol_]
 have h1:ofD MB ((digs MB n).drop ((digs MB n).length- k))=n:=by
  rw[show(digs MB n).length- k=0 by omega,List.drop_zero,a8_ (by decide)]
 rw[h1]
 exact s_e []
 rintro _ _
 refine r_z 2 ?_
 refine ag_ (aS_ rfl rfl (ad_ _))
def oa_:Nat×Nat→AState
 |(p,q)=>⟨[(2,.lptr 1 0 0),(3,.lptr 2 0 0),(4,.lptr 3 0 0)],[(1,some ⟨31,1,[[mag p]]⟩),(2,some ⟨31,1,[[mag q]]⟩),(3,some ⟨31,1,[[.emp]]⟩)],4,43⟩
theorem eI_(p:Nat)(q:Nat):oa_ (p,q)=⟨[(2,.lptr 1 0 0),(3,.lptr 2 0 0),(4,.lptr 3 0 0)],[(1,some ⟨31,1,[[mag p]]⟩),(2,some ⟨31,1,[[mag q]]⟩),(3,some ⟨31,1,[[.emp]]⟩)],4,43⟩:=rfl
def wordsS:Nat×Nat→AState
 |(x,y)=>⟨[(4,.lptr 3 0 0),(5,u64 x),(6,u64 y)],[(3,some ⟨31,1,[[.emp]]⟩)],4,43⟩
theorem ib_(x:Nat)(y:Nat):wordsS (x,y)=⟨[(4,.lptr 3 0 0),(5,u64 x),(6,u64 y)],[(3,some ⟨31,1,[[.emp]]⟩)],4,43⟩:=rfl
theorem oZ_(p q:Nat):Nat.gcd q (p % q)=Nat.gcd p q:=by
 rw[Nat.gcd_comm p q,Nat.gcd_rec q p,Nat.gcd_comm]
theorem qo_{n:Nat}(h:(digs MB n).length≤2):n< 1000000000000000000:=by
 have h1:=dC_ (b:=MB) (cq_ (by decide) n)
 rw[a8_ (by decide)] at h1
 exact Nat.lt_of_lt_of_le h1 (Nat.pow_le_pow_right (by decide) h)
theorem rP_(a b:Nat)(h:bl a+bl b≤4398046511104):FSpec Tryz.prog 176 [.agg [mag a],.agg [mag b]] (.agg [mag (Nat.gcd a b)]):=by
 refine f_n Tryz.func176 ?_ ?_
 exact aa_ (ao_ (aa_ (aT_ a) ab_)) (aa_ (ao_ (aa_ (aT_ b) ab_)) ab_)
 refine r_z 3 ?_
 refine a2_ oa_ (fun x=>x.1=Nat.gcd a b) ?_ ?_
 refine ah_ (aw_ oa_ (fun x=>x.2) (fun x=>Nat.gcd x.1 x.2=Nat.gcd a b∧bl x.1+bl x.2≤4398046511104) (a,b) ⟨rfl,h⟩ ?_ ?_)
 rw[eI_]
 exact s_e []
 rintro⟨p,q⟩ ⟨hg,hb⟩
 simp only at hg hb
 rw[eI_]
 have hz:=rA_ (digs MB q)
 refine ac_ (r_c 3 (hz) ?_)
 refine a_z ?_
 refine aj_ rfl (fun h0=>?_) (fun h0=>?_)
 have hq:0< q:=by
  rcases Nat.eq_zero_or_pos q with e|e
  subst e;rw[by_] at h0;simp at h0
  exact e
 refine ai_ (ah_ (a2_ (fun _:Unit=>⟨[(2,.lptr 1 0 0),(3,.lptr 2 0 0),(4,.lptr 3 0 0)],[(1,some ⟨31,1,[[mag p]]⟩),(2,some ⟨31,1,[[mag q]]⟩),(3,some ⟨31,1,[[.emp]]⟩)],4,43⟩) (fun _=>True) ?_ ?_))
 by_cases hl:(digs MB p).length≤2
 by_cases hl2:(digs MB q).length≤2
 have hwp:=qo_ hl
 have hwq:=qo_ hl2
 refine s_r 10 ?_
 refine a_5 ?_
 first|refine y_g rfl (by simp;omega) (.fieldAddr_l rfl tf_31_0.h (by decide)) ?_|refine y_g rfl (by simp;omega) (.fieldAddr_a rfl tf_31_0.h (by decide)) ?_
 first|refine y_g rfl (by simp;omega) (.load_l1 rfl rfl rfl tg_29.h rfl) ?_|refine y_g rfl (by simp;omega) (.load_a1 rfl rfl tg_29.h rfl) ?_
 first|refine y_g rfl (by simp;omega) (.lenD rfl rfl rfl rfl te_29.h) ?_|refine y_g rfl (by simp;omega) (.lenI rfl rfl rfl rfl te_29.h) ?_|refine y_g rfl (by simp;omega) (.lenP rfl rfl rfl rfl te_29.h) ?_|refine y_g rfl (by simp;omega) (.lenC rfl rfl rfl rfl te_29.h) ?_|refine y_g rfl (by simp;omega) (.lenR rfl rfl rfl rfl te_29.h) ?_|refine y_g rfl (by simp;omega) (.len rfl rfl rfl rfl rfl te_29.h) ?_
 refine y_g rfl (by simp;omega) (.bin rfl rfl dy_) ?_
 refine o_0 (.pickT rfl (by simp;omega) rfl) ?_
 refine ak_ ?_
 refine aj_ rfl (fun h1=>?_) (fun h1=>?_)
 refine ac_ (r_d hmix 6 ?_)
 refine c_s (rB_ p hl) ?_
 refine c_s (rB_ q hl2) ?_
 refine a_2 ?_
 refine ak_ (n_k ?_)
 refine a2_ (fun x:Nat=>⟨[(4,.lptr 3 0 0),(5,u64 x)],[(3,some ⟨31,1,[[.emp]]⟩)],4,43⟩) (fun x=>x=Nat.gcd a b) ?_ ?_
 refine ah_ (aw_ wordsS (fun x=>x.2) (fun x=>Nat.gcd x.1 x.2=Nat.gcd a b∧x.1< 1000000000000000000∧x.2< 1000000000000000000) (p,q) ⟨hg,hwp,hwq⟩ ?_ ?_)
 rw[ib_]
 exact s_e []
 rintro⟨x,y⟩ ⟨hxy,hx,hy⟩
 simp only at hxy hx hy
 rw[ib_]
 refine ac_ (r_z 2 ?_)
 refine aj_ rfl (fun h2=>?_) (fun h2=>?_)
 have hy0:0< y:=by simp at h2;omega
 refine ai_ (ah_ (r_d hmix 6 ?_))
 refine a_6 ?_
 refine ak_ (n_k ?_)
 refine⟨(y,x % y),Nat.mod_lt _ hy0,⟨(oZ_ x y).trans hxy,hy,Nat.lt_trans (Nat.mod_lt _ hy0) hy⟩,?_⟩
 rw[ib_]
 exact s_e []
 have hy0:y=0:=by simp at h2;omega
 subst hy0
 refine av_ ⟨x,by simpa using hxy,?_⟩
 exact s_e []
 rintro x rfl
 have hx64:Nat.gcd a b< 18446744073709551616:=by
  rw[←hg]
  have h1:Nat.gcd p q≤q:=Nat.gcd_le_right _ hq
  omega
 refine r_c 3 (ep_ _ hx64) ?_
 refine a_z ?_
 exact ag_ (b7_ rfl rfl rfl tg_31.h ts_31.h (nle rfl) rfl (ao_ (aa_ (aT_ _) ab_)))
 exact absurd h1 (by simp;omega)
 refine s_r 10 ?_
 refine a_5 ?_
 first|refine y_g rfl (by simp;omega) (.fieldAddr_l rfl tf_31_0.h (by decide)) ?_|refine y_g rfl (by simp;omega) (.fieldAddr_a rfl tf_31_0.h (by decide)) ?_
 first|refine y_g rfl (by simp;omega) (.load_l1 rfl rfl rfl tg_29.h rfl) ?_|refine y_g rfl (by simp;omega) (.load_a1 rfl rfl tg_29.h rfl) ?_
 first|refine y_g rfl (by simp;omega) (.lenD rfl rfl rfl rfl te_29.h) ?_|refine y_g rfl (by simp;omega) (.lenI rfl rfl rfl rfl te_29.h) ?_|refine y_g rfl (by simp;omega) (.lenP rfl rfl rfl rfl te_29.h) ?_|refine y_g rfl (by simp;omega) (.lenC rfl rfl rfl rfl te_29.h) ?_|refine y_g rfl (by simp;omega) (.lenR rfl rfl rfl rfl te_29.h) ?_|refine y_g rfl (by simp;omega) (.len rfl rfl rfl rfl rfl te_29.h) ?_
 refine y_g rfl (by simp;omega) (.bin rfl rfl dy_) ?_
 refine o_0 (.pickT rfl (by simp;omega) rfl) ?_
 refine ak_ ?_
 refine aj_ rfl (fun h=>?_) (fun _=>ai_ ⟨(),trivial,?_⟩)
 exact absurd h (by simp;omega)
 exact s_e []
 refine s_r 10 ?_
 refine a_5 ?_
 refine n_g rfl (by simp;omega) ?_
 refine n_g rfl (by simp;omega) ?_
 refine n_g rfl (by simp;omega) ?_
 refine n_g rfl (by simp;omega) ?_
 refine o_0 (.pickF rfl (by simp;omega) rfl) ?_
 refine ak_ ?_
 refine aj_ rfl (fun h=>?_) (fun _=>ai_ ⟨(),trivial,?_⟩)
 cases h
 exact s_e []
 rintro _ _
 refine r_c 10 (k8_ p q hb hq) ?_
 refine a_z ?_
 refine r_d hmix 4 ?_
 refine a_4 ?_
 refine ak_ (n_k ?_)
 refine⟨(q,p % q),Nat.mod_lt _ hq,⟨(oZ_ p q).trans hg,?_⟩,?_⟩
 have:=b6_ (Nat.mod_le p q)
 simp only;omega
 rw[eI_]
 exact s_e []
 have hq:q=0:=by
  rcases Nat.eq_zero_or_pos q with e|e
  exact e
  have:(digs MB q).length≠0:=fun e'=>by
   rw[List.length_eq_zero_iff] at e'
   have:=(ec_ (b:=MB) (by decide)).1 e';omega
  simp[this] at h0
 subst hq
 refine av_ ⟨(p,0),?_,?_⟩
 simpa using hg
 rw[eI_]
 exact s_e []
 rintro⟨p,q⟩ hp
 simp only at hp
 subst hp
 rw[eI_]
 refine r_z 2 ?_
 refine ag_ (b7_ rfl rfl rfl tg_31.h ts_31.h (nle rfl) rfl (ao_ (aa_ (aT_ _) ab_)))
theorem so_(n:Nat):((digs MB n).length==0)=(n==0):=by
 rw[Bool.eq_iff_iff]
 simp only[beq_iff_eq,List.length_eq_zero_iff]
 exact ec_ (by decide)
theorem gM_(n:Nat):FSpec Tryz.prog 169 [.agg [mag n]] (bln (n==0)):=by
 rw[←so_];exact rA_ _
theorem cI_(b:Bool)(m:Nat):FSpec Tryz.prog 152 [bln b,.agg [mag m]] (.agg (zI (sgn b m))):=by
 have e:AV.agg (zI (sgn b m))= .agg [mag m,bln (b && !(m==0))]:=by unfold zI;rw[dj_,sgn_neg]
 rw[e]
 refine f_n Tryz.func152 ?_ ?_
 exact aa_ (ad_ _) (aa_ (eJ_ m) ab_)
 cases b with
 |true=>
  refine r_z 2 ?_
  refine ac_ (r_d hmix 9 ?_)
  refine a_3 ?_
  first|refine y_g rfl d_t (.load_l rfl rfl rfl tg_31.h ts_31.h (nle rfl)) ?_|refine y_g rfl d_t (.load_a rfl rfl tg_31.h ts_31.h (nle rfl)) ?_
  refine y_g rfl d_t (.call rfl rfl rfl (gM_ m)) ?_
  refine y_g rfl d_t (.un rfl lK_) ?_
  refine o_0 (.pickT rfl d_t rfl) ?_
  refine a_2 ?_
  refine ak_ (n_k ?_)
  exact ag_ (c_e (ao_ (aa_ (aT_ m) (aa_ (ad_ _) ab_))))
 |false=>
  refine r_z 2 ?_
  refine ac_ (r_d hmix 9 ?_)
  refine a_3 ?_
  refine n_g rfl d_f ?_
  refine n_g rfl d_f ?_
  refine n_g rfl d_f ?_
  refine o_0 (.pickF rfl d_f rfl) ?_
  refine a_2 ?_
  refine ak_ (n_k ?_)
  exact ag_ (c_e (ao_ (aa_ (aT_ m) (aa_ (ad_ _) ab_))))
theorem fs_isign(z:Int):FSpec Tryz.prog 76 [.agg (zI z)] (i64 (sgZ z)):=by
 refine f_n Tryz.func76 ?_ ?_
 exact aa_ (b5_ z) ab_
 refine r_z 2 ?_
 refine a2_ (fun _:Unit=>⟨[],[],1,10⟩) (fun _=>0< z) ?_ ?_
 refine ah_ (r_c 4 (gM_ z.natAbs) ?_)
 refine a_z ?_
 refine aj_ rfl (fun h=>?_) (fun h=>?_)
 refine r_z 1 ?_
 refine ag_ (aS_ rfl ?_ (ad_ _))
 have:z=0:=by simpa using h
 simp[i64,sgZ,this,ofV]
 have h0:z≠0:=by simpa using h
 refine r_z 3 ?_
 refine aj_ rfl (fun h1=>?_) (fun h1=>?_)
 refine r_z 1 ?_
 refine ag_ (aS_ rfl ?_ (ad_ _))
 have:z< 0:=by simpa using h1
 simp[i64,sgZ,this,h0,ofV]
 have:¬z< 0:=by simpa using h1
 refine ai_ ⟨(),by omega,?_⟩
 exact s_e []
 rintro _ h1
 refine r_z 1 ?_
 refine ag_ (aS_ rfl ?_ (ad_ _))
 simp only[i64,sgZ]
 rw[if_neg (by omega),if_neg (by omega)]
 rfl
theorem bU_(q:Rat):FSpec Tryz.prog 14 [.agg (qC q)] (i64 (sgZ q.num)):=by
 refine f_n Tryz.func14 ?_ ?_
 exact aa_ (ay_ q) ab_
 refine r_z 2 ?_
 refine r_c 4 (fs_isign q.num) ?_
 refine a_z ?_
 exact ag_ (t_e (ad_ _))
theorem sgn_mul(a b:Bool)(m n:Nat):sgn a m* sgn b n=sgn (a !=b) (m* n):=by
 cases a <;> cases b <;> simp[sgn,Int.neg_mul,Int.mul_neg]
theorem lZ_(a:Bool)(m n:Nat):sgn a m+sgn a n=sgn a (m+n):=by
 cases a <;> simp[sgn]<;> omega
theorem pT_{a b:Bool}(h:a≠b){m n:Nat}(hl:m≤n):sgn a m+sgn b n=sgn b (n- m):=by
 cases a <;> cases b <;> simp[sgn] at h⊢ <;> omega
theorem pU_{a b:Bool}(h:a≠b){m n:Nat}(hl:n≤m):sgn a m+sgn b n=sgn a (m- n):=by
 cases a <;> cases b <;> simp[sgn] at h⊢ <;> omega
theorem nR_(x y:Int)(h:bl x.natAbs+bl y.natAbs≤17592186044416):FSpec Tryz.prog 91 [.agg (zI x),.agg (zI y)] (.agg (zI (x* y))):=by
 have e:x* y=sgn (decide (x< 0) !=decide (y< 0)) (x.natAbs* y.natAbs):=by
  rw[←sgn_mul,hQ_,hQ_]
 rw[e]
 refine f_n Tryz.func91 ?_ ?_
 exact aa_ (b5_ x) (aa_ (b5_ y) ab_)
 refine r_z 3 ?_
 refine ac_ (r_d hmix 12 ?_)
 refine c_s (en_ x.natAbs y.natAbs h) ?_
 refine c_s (cI_ (decide (x< 0) !=decide (y< 0)) (x.natAbs* y.natAbs)) ?_
 refine a_1 ?_
 refine ak_ (n_k ?_)
 exact ag_ (c_e (b5_ _))
theorem fs_iadd(x y:Int)(h:bl x.natAbs+bl y.natAbs≤17592186044416):FSpec Tryz.prog 175 [.agg (zI x),.agg (zI y)] (.agg (zI (x+y))):=by
 obtain⟨a,ha⟩:∃a,a=decide (x< 0):=⟨_,rfl⟩
 obtain⟨b,hb⟩:∃b,b=decide (y< 0):=⟨_,rfl⟩
 have ex:x=sgn a x.natAbs:=by rw[ha,hQ_]
 have ey:y=sgn b y.natAbs:=by rw[hb,hQ_]
 refine f_n Tryz.func175 ?_ ?_
 exact aa_ (b5_ x) (aa_ (b5_ y) ab_)
 refine r_z 3 ?_
 refine a2_ (fun _:Unit=>⟨[(2,.lptr 1 0 0),(3,.lptr 2 0 0),(4,.lptr 3 0 0)],[(1,some ⟨33,2,[zI x]⟩),(2,some ⟨33,2,[zI y]⟩),(3,some ⟨33,2,[[.emp,bln false]]⟩)],4,42⟩) (fun _=>a≠b∧y.natAbs≤x.natAbs) ?_ ?_
 refine ah_ (r_z 6 ?_)
 refine aj_ rfl (fun h1=>?_) (fun h1=>?_)
 have hab:a=b:=by rw[ha,hb];simpa using h1
 have e:x+y=sgn (decide (x< 0)) (x.natAbs+y.natAbs):=by
  conv=>lhs;rw[ex,ey,←hab]
  rw[lZ_,ha]
 rw[e]
 refine ac_ (r_d hmix 9 ?_)
 refine c_s (nO_ x.natAbs y.natAbs h) ?_
 refine c_s (cI_ (decide (x< 0)) (x.natAbs+y.natAbs)) ?_
 refine a_1 ?_
 refine ak_ (n_k ?_)
 exact ag_ (c_e (b5_ _))
 have hab:a≠b:=by rw[ha,hb];simpa using h1
 refine r_c 7 (hi_ x.natAbs y.natAbs h) ?_
 refine a_z ?_
 refine aj_ rfl (fun h2=>?_) (fun h2=>?_)
 have hlt:x.natAbs< y.natAbs:=by
  have:=of_decide_eq_true h2
  unfold cmpZ at this;split at this
  omega
  split at this <;> omega
 have e:x+y=sgn (decide (y< 0)) (y.natAbs- x.natAbs):=by
  conv=>lhs;rw[ex,ey]
  rw[pT_ hab (Nat.le_of_lt hlt),hb]
 rw[e]
 refine ac_ (r_d hmix 9 ?_)
 refine c_s (nP_ y.natAbs x.natAbs (by omega) (Nat.le_of_lt hlt)) ?_
 refine c_s (cI_ (decide (y< 0)) (y.natAbs- x.natAbs)) ?_
 refine a_1 ?_
 refine ak_ (n_k ?_)
 exact ag_ (c_e (b5_ _))
 have hge:y.natAbs≤x.natAbs:=by
  have:=of_decide_eq_false h2
  unfold cmpZ at this;split at this
  omega
  split at this <;> omega
 refine ai_ ⟨(),⟨hab,hge⟩,?_⟩
 exact s_e []
 rintro _ ⟨hab,hge⟩
 have e:x+y=sgn (decide (x< 0)) (x.natAbs- y.natAbs):=by
  conv=>lhs;rw[ex,ey]
  rw[pU_ hab hge,ha]
 rw[e]
 refine ac_ (r_d hmix 9 ?_)
 refine c_s (nP_ x.natAbs y.natAbs (by omega) hge) ?_
 refine c_s (cI_ (decide (x< 0)) (x.natAbs- y.natAbs)) ?_
 refine a_1 ?_
 refine ak_ (n_k ?_)
 exact ag_ (c_e (b5_ _))
theorem fs_ofInt(n:Int)(h: -9223372036854775808≤n∧n≤9223372036854775807):FSpec Tryz.prog 142 [i64 n] (.agg (zI n)):=by
 refine f_n Tryz.func142 ?_ ?_
 exact aa_ (ad_ _) ab_
 refine r_z 1 ?_
 refine ac_ (r_z 2 ?_)
 refine aj_ rfl (fun h1=>?_) (fun h1=>?_)
 have hn:n< 0:=of_decide_eq_true h1
 have e:n=sgn true n.natAbs:=by simp[sgn];omega
 have hI:18446744073709551616- (n+18446744073709551616)=((n.natAbs:Nat):Int):=by omega
 have hs:FSpec Tryz.prog 180 [.v (.int .u64 (18446744073709551616- (n+18446744073709551616)))] (.agg [mag n.natAbs]):=by rw[hI];exact ep_ _ (by omega)
 refine s_r 6 ?_
 refine a_1 ?_
 refine o_0 (.conv rfl (cU64n (by omega) tu_2.h tu_235.h)) ?_
 refine o_0 (.un rfl (uU64_neg (by omega))) ?_
 refine c_s (hs) ?_
 refine c_s (cI_ true n.natAbs) ?_
 refine a_z ?_
 refine ag_ (b7_ rfl rfl rfl tg_33.h ts_33.h (nle rfl) ?_ ?_)
 show _=AV.agg (zI n)
 conv=>rhs;rw[e]
 rfl
 exact b5_ _
 refine ai_ ?_
 have hn:0≤n:=by have:=of_decide_eq_false h1;omega
 have e:n=sgn false n.natAbs:=by simp[sgn];omega
 have hI:n=((n.natAbs:Nat):Int):=by omega
 have hs:FSpec Tryz.prog 180 [.v (.int .u64 n)] (.agg [mag n.natAbs]):=by
  have:=ep_ n.natAbs (by omega)
  rwa[u64,←hI] at this
 refine s_r 5 ?_
 refine a_1 ?_
 refine o_0 (.conv rfl (cU64 (by omega) tu_2.h tu_235.h)) ?_
 refine c_s (hs) ?_
 refine c_s (cI_ false n.natAbs) ?_
 refine a_z ?_
 refine ag_ (b7_ rfl rfl rfl tg_33.h ts_33.h (nle rfl) ?_ ?_)
 show _=AV.agg (zI n)
 conv=>rhs;rw[e]
 rfl
 exact b5_ _
theorem mag_zero:mag 0= .arr []:=by unfold mag;rw[by_];rfl
theorem kZ_(n:Int):FSpec Tryz.prog 141 [.agg (zI n)] (.agg (qC n)):=by
 have e:qC (n:Rat)=[mag n.natAbs,bln (decide (n< 0)),mag 0]:=rfl
 rw[e]
 refine f_n Tryz.func141 ?_ ?_
 exact aa_ (b5_ n) ab_
 refine r_z 2 ?_
 refine r_z 3 ?_
 refine ag_ (Fin.cell rfl rfl rfl tg_35.h ts_35.h (nle rfl) (Cv.agg (af_ (an_ au_ (aT_ _)) (af_ (an_ au_ (ad_ _)) (af_ (Cv.emp _ mag_zero) ap_)))))
theorem ea_(n:Int)(h: -9223372036854775808≤n∧n≤9223372036854775807):FSpec Tryz.prog 51 [i64 n] (.agg (qC n)):=by
 refine f_n Tryz.func51 ?_ ?_
 exact aa_ (ad_ _) ab_
 refine r_z 1 ?_
 refine r_c 4 (fs_ofInt n h) ?_
 refine c_s (kZ_ n) ?_
 refine a_z ?_
 exact ag_ (c_e (ay_ _))
theorem cJ_(q:Rat)(h:qs q≤1099511627776):FSpec Tryz.prog 92 [.agg (qC q)] (.agg [mag q.den]):=by
 have hp:=q.den_pos
 have hd:=b8_ q
 have e:q.den=q.den- 1+1:=by omega
 have hb1:=b6_ (show q.den- 1≤q.den by omega)
 have h1:bl 1=1:=jh_
 refine f_n Tryz.func92 ?_ ?_
 exact aa_ (ay_ q) ab_
 refine r_z 2 ?_
 refine ac_ (r_d hmix 5 ?_)
 refine c_s (ep_ 1 (by decide)) ?_
 refine c_s (nO_ (q.den- 1) 1 (by omega)) ?_
 refine a_1 ?_
 refine ak_ (n_k ?_)
 refine ag_ (b7_ rfl rfl rfl tg_31.h ts_31.h (nle rfl) ?_ ?_)
 show AV.agg [mag (q.den- 1+1)]=_
 rw[←e]
 exact eJ_ _
theorem k3_(n:Int)(d:Nat)(hd:0< d)(h:bl n.natAbs+bl d≤2199023255552):FSpec Tryz.prog 90 [.agg (zI n),.agg [mag d]] (.agg (qC (mkRat n d))):=by
 obtain⟨g,hg⟩:∃g,g=Nat.gcd n.natAbs d:=⟨_,rfl⟩
 have hgp:0< g:=by rw[hg];exact Nat.gcd_pos_of_pos_right _ hd
 have hgd:g≤d:=by rw[hg];exact Nat.gcd_le_right _ hd
 have hbg:=b6_ hgd
 have hbn:=cW_ n.natAbs g
 have hbd:=cW_ d g
 have hqd:0< d/ g:=Nat.div_pos hgd hgp
 have hfin:AV.agg (qC (mkRat n d))= .agg (zI (sgn (decide (n< 0)) (n.natAbs/ g))++[mag (d/ g- 1)]):=by
  unfold qC
  rw[eC_ hd,(fi_ hd).2,←hg]
  rfl
 rw[hfin]
 have hc:=rP_ n.natAbs d (by omega)
 rw[←hg] at hc
 refine f_n Tryz.func90 ?_ ?_
 exact aa_ (b5_ n) (aa_ (eJ_ d) ab_)
 refine r_z 3 ?_
 refine ac_ (r_c 6 (hc) ?_)
 refine a_z ?_
 refine r_c 3 (fs_one g) ?_
 refine a_z ?_
 refine aD_ (fun _:Unit=>⟨[(2,.lptr 1 0 0),(3,.lptr 2 0 0),(4,.lptr 3 0 0)],[(1,some ⟨33,2,[[mag (n.natAbs/ g),bln (decide (n< 0))]]⟩),(2,some ⟨31,1,[[mag (d/ g)]]⟩),(3,some ⟨35,3,[[.emp,bln false,.emp]]⟩)],4,36⟩) (fun _=>True) ?_ ?_
 refine aj_ rfl (fun h1=>?_) (fun h1=>?_)
 refine r_c 9 (k8_ n.natAbs g (by omega) hgp) ?_
 refine a_z ?_
 refine r_m 7 ?_
 refine c_s (k8_ d g (by omega) hgp) ?_
 refine a_z ?_
 refine⟨(),trivial,?_⟩
 exact s_e []
 have hg1:g=1:=by simpa using h1
 subst hg1
 refine ai_ ⟨(),trivial,?_⟩
 rw[Nat.div_one,Nat.div_one]
 exact s_e []
 rintro _ _
 refine ac_ (r_d hmix 10 ?_)
 refine c_s (cI_ (decide (n< 0)) (n.natAbs/ g)) ?_
 refine c_s (ep_ 1 (by decide)) ?_
 refine c_s (nP_ (d/ g) 1 (by omega) hqd) ?_
 refine a_2 ?_
 refine ak_ (n_k ?_)
 exact ag_ (c_e (ao_ (aa_ (aT_ _) (aa_ (ad_ _) (aa_ (aT_ _) ab_)))))
theorem de_(a b:Rat)(h:qs a+qs b≤549755813888):FSpec Tryz.prog 19 [.agg (qC a),.agg (qC b)] (.agg (qC (a* b))):=by
 have hp:=iy_ a b
 have h1:=co_ a;have h2:=b8_ a;have h3:=co_ b;have h4:=b8_ b
 rw[fg_]
 refine f_n Tryz.func19 ?_ ?_
 exact aa_ (ay_ a) (aa_ (ay_ b) ab_)
 refine r_z 3 ?_
 refine ac_ (r_d hmix 12 ?_)
 refine c_s (nR_ a.num b.num (by omega)) ?_
 refine c_s (cJ_ a (by omega)) ?_
 refine c_s (cJ_ b (by omega)) ?_
 refine c_s (en_ a.den b.den (by omega)) ?_
 refine c_s (k3_ (a.num* b.num) (a.den* b.den) (fR_ a b) (by omega)) ?_
 refine a_1 ?_
 refine ak_ (n_k ?_)
 exact ag_ (c_e (ay_ _))
theorem zI_nat(n:Nat):zI (n:Int)=[mag n,bln false]:=by
 unfold zI;rw[Int.natAbs_natCast];rfl
theorem o7_(x:Int)(n:Nat)(h:bl x.natAbs+bl n≤17592186044416):FSpec Tryz.prog 91 [.agg (zI x),.agg [mag n,bln false]] (.agg (zI (x* n))):=by
 have:=nR_ x n (by simpa using h)
 rwa[zI_nat] at this
theorem f4_(a b:Rat)(h:qs a+qs b≤549755813888):FSpec Tryz.prog 89 [.agg (qC a),.agg (qC b)] (.agg (qC (a+b))):=by
 have hp:=jl_ a b
 have h1:=co_ a;have h2:=b8_ a;have h3:=co_ b;have h4:=b8_ b
 have e1:=bx_ (x:=a.num) (y:=b.den) h1 (by simpa using h4)
 have e2:=bx_ (x:=b.num) (y:=a.den) h3 (by simpa using h2)
 rw[jm_]
 refine f_n Tryz.func89 ?_ ?_
 exact aa_ (ay_ a) (aa_ (ay_ b) ab_)
 refine r_z 3 ?_
 refine ac_ (r_d hmix 8 ?_)
 refine c_s (cJ_ a (by omega)) ?_
 refine c_s (cJ_ b (by omega)) ?_
 refine a_4 ?_
 refine ak_ (n_k ?_)
 refine ac_ (r_d hmix 16 ?_)
 refine c_s (o7_ a.num b.den (by omega)) ?_
 refine c_s (o7_ b.num a.den (by omega)) ?_
 refine c_s (fs_iadd (a.num* b.den) (b.num* a.den) (by omega)) ?_
 refine c_s (en_ a.den b.den (by omega)) ?_
 refine c_s (k3_ (a.num* b.den+b.num* a.den) (a.den* b.den) (fR_ a b) (by omega)) ?_
 refine a_1 ?_
 refine ak_ (n_k ?_)
 exact ag_ (c_e (ay_ _))
theorem ra_(a:Rat):qC (-a)=zI (sgn (!decide (a.num< 0)) a.num.natAbs)++[mag (a.den- 1)]:=by
 unfold qC
 rw[Rat.neg_num,Rat.neg_den]
 have e: -a.num=sgn (!decide (a.num< 0)) a.num.natAbs:=by
  unfold sgn
  by_cases h:a.num< 0
  simp[h];omega
  simp[h];omega
 rw[e];rfl
theorem hG_(a:Rat):FSpec Tryz.prog 58 [.agg (qC a)] (.agg (qC (-a))):=by
 have hc:=ay_ (-a)
 rw[ra_] at hc⊢
 refine f_n Tryz.func58 ?_ ?_
 exact aa_ (ay_ a) ab_
 refine r_z 2 ?_
 refine ac_ (r_d hmix 12 ?_)
 refine c_s (cI_ (!decide (a.num< 0)) a.num.natAbs) ?_
 refine a_4 ?_
 refine ak_ (n_k ?_)
 exact ag_ (c_e (hc))
theorem o2_(a b:Rat)(h:qs a+qs b≤549755813888):FSpec Tryz.prog 18 [.agg (qC a),.agg (qC b)] (.agg (qC (a- b))):=by
 have hs:=f4_ a (-b) (by rw[dK_];exact h)
 rw[←Rat.sub_eq_add_neg] at hs
 refine f_n Tryz.func18 ?_ ?_
 exact aa_ (ay_ a) (aa_ (ay_ b) ab_)
 refine r_z 3 ?_
 refine ac_ (r_d hmix 5 ?_)
 refine c_s (hG_ b) ?_
 refine c_s (hs) ?_
 refine a_1 ?_
 refine ak_ (n_k ?_)
 exact ag_ (c_e (ay_ _))
theorem fs_qover(a b:Rat)(hb:b≠0)(h:qs a+qs b≤549755813888):FSpec Tryz.prog 88 [.agg (qC a),.agg (qC b)] (.agg (qC (a/ b))):=by
 have hp:=mY_ a b
 have h1:=co_ a;have h2:=b8_ a;have h3:=co_ b;have h4:=b8_ b
 have hn:b.num≠0:=fun h=>hb (Rat.num_eq_zero.1 h)
 have hs:=dj_ (decide (b.num< 0)) b.den
 rw[i1_ a b hb]
 refine f_n Tryz.func88 ?_ ?_
 exact aa_ (ay_ a) (aa_ (ay_ b) ab_)
 refine r_z 3 ?_
 refine ac_ (r_d hmix 17 ?_)
 refine c_s (cJ_ b (by omega)) ?_
 refine c_s (cI_ (decide (b.num< 0)) b.den) ?_
 refine c_s (nR_ a.num (sgn (decide (b.num< 0)) b.den) (by rw[hs];omega)) ?_
 refine c_s (cJ_ a (by omega)) ?_
 refine c_s (en_ a.den b.num.natAbs (by omega)) ?_
 refine c_s (k3_ (a.num* sgn (decide (b.num< 0)) b.den) (a.den* b.num.natAbs) (Nat.mul_pos a.den_pos (by omega)) (by omega)) ?_
 refine a_1 ?_
 refine ak_ (n_k ?_)
 exact ag_ (c_e (ay_ _))
theorem rN_(a b:Rat)(hb:b≠0)(h:qs a+qs b≤549755813888):FSpec Tryz.prog 17 [.agg (qC a),.agg (qC b)] (.tup [.agg (qC (a/ b)),i64 0]):=by
 have hn:b.num≠0:=fun h=>hb (Rat.num_eq_zero.1 h)
 have hsg:sgZ b.num≠0:=by unfold sgZ;rw[if_neg hn];split <;> decide
 refine f_n Tryz.func17 ?_ ?_
 exact aa_ (ay_ a) (aa_ (ay_ b) ab_)
 refine r_z 4 ?_
 refine ac_ (r_c 3 (bU_ b) ?_)
 refine a_z ?_
 refine aj_ rfl (fun h=>?_) (fun h=>?_)
 exact absurd h (by simpa using hsg)
 refine ai_ (r_c 5 (fs_qover a b hb (by assumption)) ?_)
 refine a_z ?_
 refine ag_ (Fin.many ⟨_,_,rfl,⟨_,_,_,_,_,rfl,rfl,rfl,.inl ⟨tg_35.h,_,ts_35.h,nle rfl,rfl⟩⟩,⟨_,_,rfl,rfl,rfl⟩⟩ (nle rfl) ?_)
 exact af_ (an_ au_ (ay_ _)) (af_ (an_ au_ (ad_ _)) ap_)
theorem sx_(x:Int)(n:Nat)(hn:0< n):(sgZ x= -1∧∃p:Nat,0< p∧x* n= -(p:Int)∧x.natAbs* n=p)∨(sgZ x=0∧x* n=0∧x.natAbs* n=0)∨(sgZ x=1∧∃p:Nat,0< p∧x* n=p∧x.natAbs* n=p):=by
 rcases Int.lt_trichotomy x 0 with hx|hx|hx
 refine .inl ⟨by unfold sgZ;rw[if_neg (by omega),if_pos hx],x.natAbs* n,Nat.mul_pos (by omega) hn,?_,rfl⟩
 rw[Int.natCast_mul,←Int.neg_mul];congr 1;omega
 subst hx;refine .inr (.inl ⟨rfl,by simp,by simp⟩)
 refine .inr (.inr ⟨by unfold sgZ;rw[if_neg (by omega),if_neg (by omega)],x.natAbs* n,Nat.mul_pos (by omega) hn,?_,rfl⟩)
 rw[Int.natCast_mul];congr 1;omega
theorem cmp_code(a b:Rat):cmpQ a b=if sgZ a.num≠sgZ b.num∨sgZ a.num=0 then sgZ a.num- sgZ b.num- (sgZ a.num- sgZ b.num).tdiv 2 else sgZ a.num* cmpZ ((a.num.natAbs* b.den:Nat):Int) ((b.num.natAbs* a.den:Nat):Int):=by
 rw[sz_]
 rcases sx_ a.num b.den b.den_pos with⟨s1,p,hp,e1,f1⟩|⟨s1,e1,f1⟩|⟨s1,p,hp,e1,f1⟩<;> rcases sx_ b.num a.den a.den_pos with⟨s2,q,hq,e2,f2⟩|⟨s2,e2,f2⟩|⟨s2,q,hq,e2,f2⟩<;> rw[s1,s2,e1,e2,f1,f2]<;> unfold cmpZ <;> simp <;>(repeat' split)<;> first|rfl|omega
theorem j1_(a b:Rat)(ha:sm a)(hb:sm b):FSpec Tryz.prog 25 [.agg (qC a),.agg (qC b)] (i64 (cmpQ a b)):=by
 have hs:=sm2 ha hb
 have h1:=co_ a;have h2:=b8_ a;have h3:=co_ b;have h4:=b8_ b
 have hc:=cmp_code a b
 have hsa:sgZ a.num= -1∨sgZ a.num=0∨sgZ a.num=1:=by unfold sgZ;split;simp;split <;> simp
 have hsb:sgZ b.num= -1∨sgZ b.num=0∨sgZ b.num=1:=by unfold sgZ;split;simp;split <;> simp
 have hbm1:=eN_ a.num.natAbs b.den
 have hbm2:=eN_ b.num.natAbs a.den
 refine f_n Tryz.func25 ?_ ?_
 exact aa_ (ay_ a) (aa_ (ay_ b) ab_)
 refine r_z 3 ?_
 refine ac_ (ac_ (r_d hmix 6 ?_))
 refine c_s (bU_ a) ?_
 refine c_s (bU_ b) ?_
 refine a_2 ?_
 refine ak_ (n_k ?_)
 obtain⟨x,hx⟩:∃x,x=sgZ a.num:=⟨_,rfl⟩
 obtain⟨y,hy⟩:∃y,y=sgZ b.num:=⟨_,rfl⟩
 rw[←hx] at hsa hc⊢
 rw[←hy] at hsb hc⊢
 have hq:(x- y).tdiv 2= -1∨(x- y).tdiv 2=0∨(x- y).tdiv 2=1:=by
  rcases hsa with h|h|h <;> rcases hsb with h'|h'|h' <;> rw[h,h']<;> decide
 refine aD_ (fun _:Unit=>⟨[(2,.lptr 1 0 0),(3,.lptr 2 0 0)],[(1,some ⟨35,3,[qC a]⟩),(2,some ⟨35,3,[qC b]⟩)],3,42⟩) (fun _=>x=y∧x≠0) ?_ ?_
 by_cases he:x=y
 refine s_r 7 ?_
 refine a_4 ?_
 refine y_g rfl (by simp[he]) (.move rfl) ?_
 refine y_g rfl (by simp[he]) (.bin rfl rfl bq_) ?_
 refine o_0 (.pickF rfl (by simp[he]) rfl) ?_
 refine ak_ ?_
 refine aj_ rfl (fun h=>?_) (fun h=>?_)
 have h0:x=0:=by simpa using h
 refine s_r 9 ?_
 refine a_6 ?_
 refine o_0 (.bin rfl rfl (jj_ (by decide) (by omega))) ?_
 refine a_z ?_
 refine ag_ (aS_ rfl ?_ (ad_ _))
 rw[hc,if_pos (.inr h0)];rfl
 have h0:x≠0:=by simpa using h
 refine ai_ ⟨(),⟨he,h0⟩,?_⟩
 exact s_e []
 refine s_r 7 ?_
 refine a_4 ?_
 refine n_g rfl (by simp[he]) ?_
 refine n_g rfl (by simp[he]) ?_
 refine o_0 (.pickT rfl (by simp[he]) rfl) ?_
 refine ak_ ?_
 refine aj_ rfl (fun h=>?_) (fun h=>?_)
 refine s_r 9 ?_
 refine a_6 ?_
 refine o_0 (.bin rfl rfl (jj_ (by decide) (by omega))) ?_
 refine a_z ?_
 refine ag_ (aS_ rfl ?_ (ad_ _))
 rw[hc,if_pos (.inl he)];rfl
 cases h
 rintro _ ⟨he,h0⟩
 have hcz:cmpZ ((a.num.natAbs* b.den:Nat):Int) ((b.num.natAbs* a.den:Nat):Int)= -1∨cmpZ ((a.num.natAbs* b.den:Nat):Int) ((b.num.natAbs* a.den:Nat):Int)=0∨cmpZ ((a.num.natAbs* b.den:Nat):Int) ((b.num.natAbs* a.den:Nat):Int)=1:=by
  unfold cmpZ;split;simp;split <;> simp
 have hsx:=bU_ a
 rw[←hx] at hsx
 have hmul: -9223372036854775808≤x* cmpZ ((a.num.natAbs* b.den:Nat):Int) ((b.num.natAbs* a.den:Nat):Int)∧x* cmpZ ((a.num.natAbs* b.den:Nat):Int) ((b.num.natAbs* a.den:Nat):Int)≤9223372036854775807:=by
  rcases hsa with h|h|h <;> rcases hcz with h'|h'|h' <;> rw[h,h']<;> decide
 refine ac_ (r_d hmix 17 ?_)
 refine c_s (hsx) ?_
 refine c_s (cJ_ b (by omega)) ?_
 refine c_s (en_ a.num.natAbs b.den (by omega)) ?_
 refine c_s (cJ_ a (by omega)) ?_
 refine c_s (en_ b.num.natAbs a.den (by omega)) ?_
 refine c_s (hi_ (a.num.natAbs* b.den) (b.num.natAbs* a.den) (by omega)) ?_
 refine o_0 (.bin rfl rfl (g4_ hmul)) ?_
 refine a_1 ?_
 refine ak_ (n_k ?_)
 refine ag_ (aS_ rfl ?_ (ad_ _))
 rw[hc,if_neg (by omega)];rfl
theorem pa_(a:Rat):FSpec Tryz.prog 97 [.agg (qC a)] (.agg (qC (absQ a))):=by
 have hc:=ay_ (absQ a)
 rw[qC_abs] at hc⊢
 refine f_n Tryz.func97 ?_ ?_
 exact aa_ (ay_ a) ab_
 refine r_z 2 ?_
 refine ac_ (r_d hmix 8 ?_)
 refine c_s (cI_ false a.num.natAbs) ?_
 refine a_4 ?_
 refine ak_ (n_k ?_)
 exact ag_ (c_e (hc))
theorem fs_den(a:Rat)(ha:sm a):FSpec Tryz.prog 296 [.agg (qC a)] (.agg (qC ((a.den:Int):Rat))):=by
 have hw:=kZ_ (a.den:Int)
 rw[zI_nat] at hw
 refine f_n Tryz.func296 ?_ ?_
 exact aa_ (ay_ a) ab_
 refine r_z 2 ?_
 refine r_c 5 (cJ_ a (by unfold sm at ha;omega)) ?_
 refine c_s (hw) ?_
 refine a_z ?_
 exact ag_ (c_e (ay_ _))
theorem sh_{z q:Int}{d:Nat}(hd:0< d)(h1:q* d≤z)(h2:z< q* d+d):z/ (d:Int)=q:=by
 have hdi:(0:Int)< d:=by omega
 have a1:q≤z/ (d:Int):=(Int.le_ediv_iff_mul_le hdi).2 h1
 have a2:z/ (d:Int)< q+1:=(Int.ediv_lt_iff_lt_mul hdi).2 (by rw[Int.add_mul];omega)
 omega
theorem qa_(z:Int)(d:Nat)(hd:0< d):z/ (d:Int)=sgn (decide (z< 0)) (if (decide (z< 0) && !(z.natAbs % d==0))=true then z.natAbs/ d+1 else z.natAbs/ d):=by
 have h1:=Nat.div_add_mod z.natAbs d
 have h2:=Nat.mod_lt z.natAbs hd
 generalize hr:z.natAbs % d=r at *
 generalize hq:z.natAbs/ d=a at *
 have h3:((d* a:Nat):Int)=(a:Int) * d:=by rw[Int.natCast_mul,Int.mul_comm]
 refine sh_ hd ?_ ?_ <;> by_cases hz:z< 0 <;> by_cases h0:r=0 <;> simp[sgn,hz,h0,Int.neg_mul,Int.add_mul]<;> omega
theorem rM_(z:Int)(d:Nat)(hd:0< d)(h:bl z.natAbs+bl d≤4398046511104):FSpec Tryz.prog 325 [.agg (zI z),.agg [mag d]] (.agg (zI (z/ d))):=by
 rw[qa_ z d hd]
 have hbq:=cW_ z.natAbs d
 have hb1:=sN_ (z.natAbs/ d) 1
 have hb2:bl 1=1:=jh_
 obtain⟨Q,hQ⟩:∃Q,Q=(if (decide (z< 0) && !(z.natAbs % d==0))=true then z.natAbs/ d+1 else z.natAbs/ d):=⟨_,rfl⟩
 rw[←hQ]
 refine f_n Tryz.func325 ?_ ?_
 exact aa_ (b5_ z) (aa_ (eJ_ d) ab_)
 refine r_z 3 ?_
 refine r_c 11 (k8_ z.natAbs d h hd) ?_
 refine a_z ?_
 refine a2_ (fun _:Unit=>⟨[(2,.lptr 1 0 0),(4,.lptr 2 0 0),(5,.lptr 3 0 0)],[(1,some ⟨33,2,[zI z]⟩),(2,some ⟨33,2,[[.emp,bln false]]⟩),(3,some ⟨31,1,[[mag Q]]⟩)],4,28⟩) (fun _=>True) ?_ ?_
 by_cases hz:z< 0
 refine s_r 7 ?_
 refine a_3 ?_
 first|refine y_g rfl (by simp[hz]) (.load_l rfl rfl rfl tg_31.h ts_31.h (nle rfl)) ?_|refine y_g rfl (by simp[hz]) (.load_a rfl rfl tg_31.h ts_31.h (nle rfl)) ?_
 refine y_g rfl (by simp[hz]) (.call rfl rfl rfl (gM_ (z.natAbs % d))) ?_
 refine y_g rfl (by simp[hz]) (.un rfl lK_) ?_
 refine o_0 (.pickT rfl (by simp[hz]) rfl) ?_
 refine ak_ ?_
 refine aj_ rfl (fun h1=>?_) (fun h1=>?_)
 have:Q=z.natAbs/ d+1:=by rw[hQ,if_pos];simpa[hz] using h1
 rw[this]
 refine r_d hmix 4 ?_
 refine c_s (ep_ 1 (by decide)) ?_
 refine c_s (nO_ (z.natAbs/ d) 1 (by omega)) ?_
 refine a_1 ?_
 refine ak_ (n_k ?_)
 refine⟨(),trivial,?_⟩
 exact s_e [(2,4),(3,5)]
 have:Q=z.natAbs/ d:=by rw[hQ,if_neg];simpa[hz] using h1
 rw[this]
 refine ai_ ⟨(),trivial,?_⟩
 exact s_e [(2,4),(3,5)]
 refine s_r 7 ?_
 refine a_3 ?_
 refine n_g rfl (by simp[hz]) ?_
 refine n_g rfl (by simp[hz]) ?_
 refine n_g rfl (by simp[hz]) ?_
 refine o_0 (.pickF rfl (by simp[hz]) rfl) ?_
 refine ak_ ?_
 have:Q=z.natAbs/ d:=by rw[hQ,if_neg];simp[hz]
 rw[this]
 refine aj_ rfl (fun h=>?_) (fun h=>ai_ ⟨(),trivial,?_⟩)
 cases h
 exact s_e [(2,4),(3,5)]
 rintro _ _
 refine r_c 5 (cI_ (decide (z< 0)) Q) ?_
 refine a_z ?_
 exact ag_ (c_e (b5_ _))
theorem fs_floor(q:Rat)(h:qs q≤1099511627776):FSpec Tryz.prog 300 [.agg (qC q)] (.agg (qC (q.floor:Rat))):=by
 have h1:=co_ q;have h2:=b8_ q
 rw[Rat.floor_def]
 refine f_n Tryz.func300 ?_ ?_
 exact aa_ (ay_ q) ab_
 refine r_z 2 ?_
 refine ac_ (r_d hmix 7 ?_)
 refine c_s (cJ_ q h) ?_
 refine c_s (rM_ q.num q.den q.den_pos (by omega)) ?_
 refine c_s (kZ_ (q.num/ q.den)) ?_
 refine a_1 ?_
 refine ak_ (n_k ?_)
 exact ag_ (c_e (ay_ _))
def ceilQ(q:Rat):Rat:= -((-q).floor:Rat)
def wi(k:Int)(m:Nat):Nat:=(max 0 (min k m)).toNat
def twoQ(k:Nat):Rat:=((2^ k:Nat):Int)
def downQ(a:Rat)(k:Nat):Rat:=((a* twoQ k).floor:Rat) * fineQ k
def upQ(a:Rat)(k:Nat):Rat:=ceilQ (a* twoQ k) * fineQ k
theorem fp_(a b:Rat)(ha:sm a)(hb:sm b):FSpec Tryz.prog 77 [.agg (spC a b)] (bln (decide (cmpQ a b≤0))):=by
 refine f_n Tryz.func77 ?_ ?_
 exact aa_ (ca_ a b) ab_
 refine r_z 2 ?_
 refine r_c 7 (j1_ a b ha hb) ?_
 refine a_z ?_
 exact ag_ (t_e (ad_ _))
theorem gN_(a b:Rat)(ha:sm a)(hb:sm b):FSpec Tryz.prog 13 [.agg (spC a b)] (.agg (qC (b- a))):=by
 refine f_n Tryz.func13 ?_ ?_
 exact aa_ (ca_ a b) ab_
 refine r_z 2 ?_
 refine r_c 6 (o2_ b a (sm2 hb ha)) ?_
 refine a_z ?_
 exact ag_ (c_e (ay_ _))
theorem fs_Max1(c:Int):FSpec Tryz.prog 273 [i64 c] (bln (decide (0< c))):=by
 refine f_n Tryz.func273 ?_ ?_
 exact aa_ (ad_ _) ab_
 refine r_z 1 ?_
 refine r_z 3 ?_
 exact ag_ (t_e (ad_ _))
def oc_(g:Nat)(l:List Rat):Nat×List AV→AState
 |(i,o)=>⟨[(0,.clos g [] []),(4,.lptr 1 0 0),(5,.lptr 2 0 0),(8,.arr (pE l)),(9,i64 l.length),(10,i64 i)],[(1,some ⟨35,3,[zC]⟩),(2,some ⟨35,3,[o]⟩)],3,27⟩
theorem du_(g:Nat)(l:List Rat)(i:Nat)(o:List AV):oc_ g l (i,o)=⟨[(0,.clos g [] []),(4,.lptr 1 0 0),(5,.lptr 2 0 0),(8,.arr (pE l)),(9,i64 l.length),(10,i64 i)],[(1,some ⟨35,3,[zC]⟩),(2,some ⟨35,3,[o]⟩)],3,27⟩:=rfl
theorem rQ_(g:Nat)(bf:Int→Bool)(hg:∀c,FSpec Tryz.prog g [i64 c] (bln (bf c)))(l:List Rat)(hl:smL l)(hln:l.length≤1099511627776):FSpec Tryz.prog 272 [.clos g [] [],.arr (pE l)] (.agg (qC (cj_ bf l))):=by
 refine f_n Tryz.func272 ?_ ?_
 exact aa_ (aW_ ab_ ab_) (aa_ (as_ l) ab_)
 refine r_z 1 ?_
 refine r_z 1 ?_
 refine ac_ (r_z 3 ?_)
 refine aD_ (fun _:Unit=>⟨[(4,.lptr 1 0 0),(5,.lptr 2 0 0)],[(1,some ⟨35,3,[zC]⟩),(2,some ⟨35,3,[qC (cj_ bf l)]⟩)],3,27⟩) (fun _=>True) ?_ ?_
 refine ah_ (aw_ (fun x:Nat×List AV=>oc_ g l x) (fun x=>l.length- x.1) (fun x=>x.1≤l.length∧((x.1=0→x.2=zC)∧(x.1≠0→x.2=qC (cj_ bf (l.take x.1))))) (0,zC) ⟨Nat.zero_le _,fun _=>rfl,fun h=>absurd rfl h⟩ ?_ ?_)
 simp only[du_]
 exact s_e [(1,4),(2,5)]
 rintro⟨i,o⟩ ⟨hi,ho0,ho⟩
 simp only at hi ho0 ho
 simp only[du_]
 refine r_z 1 ?_
 refine ac_ (aj_ rfl (fun h=>?_) (fun h=>?_))
 refine ai_ ?_
 have hlt:i< l.length:=by simpa using h
 obtain⟨q,hq⟩:∃q,l[i]?=some q:=⟨_,List.getElem?_eq_getElem hlt⟩
 have hq':(pE l)[((i:Nat):Int).toNat]?=some (qC q):=bO_ hq
 have hsq:sm q:=hl q (List.mem_of_getElem? hq)
 have hst:sm (cj_ bf (l.take i)):=qh_ fun q hq=>hl q (List.mem_of_mem_take hq)
 have hsn:=hL_ bf (l.take i) q
 rw[←cc_ hq] at hsn
 refine ac_ (ah_ (s_r 6 ?_))
 refine a_1 ?_
 refine i_x hq' ?_
 refine l_x hq' ?_
 refine a_z ?_
 refine AWp.cutB (fun _:Unit=>oc_ g l (i,qC (cj_ bf (l.take (i+1))))) (fun _=>True) ?_ ?_
 by_cases h0:i=0
 subst h0
 have:=ho0 rfl
 subst this
 rw[if_pos (.inl (by simp))] at hsn
 refine s_r 9 ?_
 refine a_3 ?_
 refine n_g rfl d_t ?_
 refine n_g rfl d_t ?_
 refine n_g rfl d_t ?_
 refine n_g rfl d_t ?_
 refine n_g rfl d_t ?_
 refine o_0 (.pickT rfl d_t rfl) ?_
 refine ak_ ?_
 refine aj_ rfl (fun h=>?_) (fun h=>?_)
 refine r_m 2 ?_
 refine a_z ?_
 refine⟨(),trivial,?_⟩
 simp only[du_]
 rw[hsn]
 exact s_e []
 cases h
 have ho':o=qC (cj_ bf (l.take i)):=ho h0
 subst ho'
 have hne:l.take i≠[]:=fun h=>by
  have:=congrArg List.length h
  rw[List.length_take,List.length_nil] at this;omega
 refine s_r 9 ?_
 refine a_3 ?_
 refine y_g rfl (by simp;omega) (.move rfl) ?_
 first|refine y_g rfl (by simp;omega) (.load_l rfl rfl rfl tg_35.h ts_35.h (nle rfl)) ?_|refine y_g rfl (by simp;omega) (.load_a rfl rfl tg_35.h ts_35.h (nle rfl)) ?_
 first|refine y_g rfl (by simp;omega) (.load_l rfl rfl rfl tg_35.h ts_35.h (nle rfl)) ?_|refine y_g rfl (by simp;omega) (.load_a rfl rfl tg_35.h ts_35.h (nle rfl)) ?_
 refine y_g rfl (by simp;omega) (.call rfl rfl rfl (j1_ q (cj_ bf (l.take i)) hsq hst)) ?_
 refine y_g rfl (by simp;omega) (.call rfl rfl rfl (hg (cmpQ q (cj_ bf (l.take i))))) ?_
 refine o_0 (.pickF rfl (by simp;omega) rfl) ?_
 refine ak_ ?_
 refine aj_ rfl (fun h1=>?_) (fun h1=>?_)
 refine r_m 2 ?_
 refine a_z ?_
 refine⟨(),trivial,?_⟩
 simp only[du_]
 rw[hsn,if_pos (.inr h1)]
 exact s_e []
 refine ai_ ⟨(),trivial,?_⟩
 simp only[du_]
 rw[hsn,if_neg (fun hh=>hh.elim hne fun h2=>by rw[h1] at h2;cases h2)]
 exact s_e []
 rintro _ _
 rw[du_]
 refine r_m 2 ?_
 refine a_z ?_
 refine⟨(i+1,qC (cj_ bf (l.take (i+1)))),by simp only;omega,⟨by simp only;omega,fun h=>absurd h (by simp),fun _=>rfl⟩,?_⟩
 simp only[du_]
 exact s_e []
 have hge:i=l.length:=by simp at h;omega
 refine av_ ⟨(),trivial,?_⟩
 subst hge
 by_cases h0:l.length=0
 have:=ho0 h0
 subst this
 have:cj_ bf l=0:=by
  rw[List.length_eq_zero_iff] at h0;rw[h0];rfl
 rw[this,qC0]
 exact s_e []
 have:=ho h0
 subst this
 rw[List.take_length]
 exact s_e []
 rintro _ _
 refine r_z 2 ?_
 exact ag_ (c_e (ay_ _))
theorem fs_Max(l:List Rat)(hl:smL l)(hln:l.length≤1099511627776):FSpec Tryz.prog 226 [.arr (pE l)] (.agg (qC (maxL l))):=by
 refine f_n Tryz.func226 ?_ ?_
 exact aa_ (as_ l) ab_
 refine r_z 1 ?_
 refine r_c 3 (rQ_ 273 _ fs_Max1 l hl hln) ?_
 refine a_z ?_
 exact ag_ (c_e (ay_ _))
theorem qs_int(n:Int):qs (n:Rat)≤max (bl n.natAbs) 1:=by
 have e1:(n:Rat).num=n:=rfl
 have e2:(n:Rat).den=1:=rfl
 unfold qs;rw[e1,e2,jh_];exact Nat.le_refl _
theorem qs_i64{n:Int}(h: -9223372036854775808≤n∧n≤9223372036854775807):qs (n:Rat)≤64:=by
 have h1:=qs_int n
 have h2:bl n.natAbs≤64:=bl_le (Nat.lt_of_le_of_lt (show n.natAbs≤9223372036854775808 by omega) (by decide))
 omega
theorem fs_Of(n d:Int)(hn: -9223372036854775808≤n∧n≤9223372036854775807)(hd: -9223372036854775808≤d∧d≤9223372036854775807)(h0:d≠0):FSpec Tryz.prog 55 [i64 n,i64 d] (.tup [.agg (qC ((n:Rat) / (d:Rat))),i64 0]):=by
 have h1:=qs_i64 hn
 have h2:=qs_i64 hd
 have hd0:(d:Rat)≠0:=by
  intro h
  have:(d:Rat).num=0:=by rw[h];rfl
  exact h0 this
 refine f_n Tryz.func55 ?_ ?_
 exact aa_ (ad_ _) (aa_ (ad_ _) ab_)
 refine r_z 2 ?_
 refine r_c 9 (ea_ n hn) ?_
 refine c_s (ea_ d hd) ?_
 refine c_s (rN_ (n:Rat) (d:Rat) hd0 (by omega)) ?_
 refine a_z ?_
 refine ag_ (Fin.many ⟨_,_,rfl,⟨_,_,_,_,_,rfl,rfl,rfl,.inl ⟨tg_35.h,_,ts_35.h,nle rfl,rfl⟩⟩,⟨_,_,rfl,rfl,rfl⟩⟩ (nle rfl) ?_)
 exact af_ (an_ au_ (ay_ _)) (af_ (an_ au_ (ad_ _)) ap_)
end Go.Proofs.YtdjfjpeoddmamaaGreatDoor
