/- For every input the law RuleWeights returns true; the listed variables start as the program's text lays them (tied). -/
import Derived.Test.YtdjfjpeoddmamaaGreatDoorW21
import Derived.ChangeArms
import Derived.Test.YtdjfjpeoddmamaaGreatDoorRows
import Derived.JoinedOf
import Derived.SevenTiedAt
import Derived.Lib.LaidTab
import Derived.Test.YtdjfjpeoddmamaaGreatDoorTie
import Derived.Test.YtdjfjpeoddmamaaGreatDoorCards
import Derived.LaidMore
import Derived.Stop.Joined
import Derived.MakeChecks
set_option linter.all false
namespace Go.Proofs.YtdjfjpeoddmamaaGreatDoor
open Go.Abs
set_option maxRecDepth 20000
set_option maxHeartbeats 1000000
theorem ib_{x:AV}{l r:Bool}{lo hi:List AV}(hx:Closed x)(h1:∀c∈lo,Closed c)(h2:∀c∈hi,Closed c):∀c∈rwX x l r lo hi,Closed c:=fun c hc=>by
 unfold rwX at hc
 rcases List.mem_append.1 hc with hc|hc
 rcases List.mem_append.1 hc with hc|hc
 exact aa_ hx (aa_ (ad_ _) (aa_ (ad_ _) ab_)) c hc
 exact h1 c hc
 exact h2 c hc
def ldW(x:LoR)(most:Nat):Option Wt:=
 if 1≤x.k∧x.k≤5 then
  if (most:Int)< x.n∨tameB [x.g.1,x.g.2] 2=false then none else some (gvW x).1
 else if (tameB x.mo (most+1)=false∧x.mo.length≤64)∨70< x.mo.length then none
 else some ⟨nL x.mo,x.l,x.r,nV x.lo,nV x.hi,rq (nV x.lo),rq (nV x.hi)⟩
theorem fs_Loads(x:LoR)(most:Nat)(hx:okLo x)(hm:most≤20)(hml:x.mo.length≤9223372036854775807):FSpec Tryz.prog 28 [.agg (loC x),i64 most] (.tup [.agg ((ldW x most).getD wZt).A,.agg ((ldW x most).getD wZt).B,bln (ldW x most).isSome]):=by
 have hgv:=nl_ x hx
 obtain⟨k,g,p,q,n,mo,l,r,lo,hi⟩:=x
 obtain⟨hk255,⟨g1,g2⟩,hp,hq,hn,hmo,hlo,hhi⟩:=hx
 simp only at *
 have kk:(⟨k,g,p,q,n,mo,l,r,lo,hi⟩:LoR).k=k:=rfl
 have mm:(nR (⟨k,g,p,q,n,mo,l,r,lo,hi⟩:LoR).mo).length=mo.length:=by simp[nR]
 have nn:(⟨k,g,p,q,n,mo,l,r,lo,hi⟩:LoR).n=n:=rfl
 have cX:=gr_ ⟨k,g,p,q,n,mo,l,r,lo,hi⟩
 obtain⟨Z,hZ⟩:∃Z,Z=ldW ⟨k,g,p,q,n,mo,l,r,lo,hi⟩ most:=⟨_,rfl⟩
 rw[←hZ]
 unfold ldW at hZ
 simp only at hZ
 have hT:=p2_ [g.1,g.2] 2 (by simp) (by omega)
 have hT2:=p2_ mo (most+1) (by omega) (by omega)
 have hnl:(nR mo).length=mo.length:=by simp[nR]
 refine f_n Tryz.func28 ?_ ?_
 exact aa_ (aq_ cX) (aa_ (ad_ _) ab_)
 refine r_z 4 ?_
 by_cases hk:1≤k∧k≤5
 rw[if_pos hk] at hZ
 refine ac_ (q_z 8 ?_)
 refine cT ?_
 by_cases hn1:(most:Int)< n
 rw[if_pos (.inl hn1)] at hZ
 subst hZ
 refine ac_ (q_z 15 ?_)
 refine cT (r_z 5 ?_)
 refine ai_ (Fin.many ⟨_,_,rfl,⟨_,_,_,_,_,rfl,rfl,rfl,.inl ⟨tg_51.h,_,ts_51.h,nle rfl,rfl⟩⟩,⟨_,_,rfl,⟨_,_,_,_,_,rfl,rfl,rfl,.inl ⟨tg_77.h,_,ts_77.h,nle rfl,rfl⟩⟩,⟨_,_,rfl,rfl,rfl⟩⟩⟩ (nle rfl) ?_)
 exact af_ (Cv_wZ at_) (af_ (Cv.agg (b5_ at_)) (af_ (al_ at_ (ad_ _)) ap_))
 cases ht:tameB [g.1,g.2] 2 with
 |false=>
  rw[if_pos (.inr ht)] at hZ
  subst hZ
  rw[ht] at hT
  refine ac_ (s_r 15 ?_)
  refine d_8 ?_
  refine d_3 ?_
  refine AR.op1y rfl rfl rfl (.buildSlice te_26.h tz_23.h rfl (by decide) rfl rfl rfl (by simp[loC,gapC,nuC])) rfl rfl ?_
  refine AR.op1y rfl rfl rfl (.callS1 rfl rfl rfl (.shut rfl d_n (.keep (.nil))) rfl (hT)) rfl rfl ?_
  refine a_z ?_
  refine cT (r_z 5 ?_)
  refine ai_ (Fin.many ⟨_,_,rfl,⟨_,_,_,_,_,rfl,rfl,rfl,.inl ⟨tg_51.h,_,ts_51.h,nle rfl,rfl⟩⟩,⟨_,_,rfl,⟨_,_,_,_,_,rfl,rfl,rfl,.inl ⟨tg_77.h,_,ts_77.h,nle rfl,rfl⟩⟩,⟨_,_,rfl,rfl,rfl⟩⟩⟩ (nle rfl) ?_)
  exact af_ (Cv_wZ at_) (af_ (Cv.agg (b5_ at_)) (af_ (al_ at_ (ad_ _)) ap_))
 |true=>
  rw[if_neg (fun h=>h.elim hn1 (fun e=>by rw[ht] at e;cases e))] at hZ
  subst hZ
  rw[ht] at hT
  have hgv:=hgv hk (by omega)
  generalize gvW ⟨k,g,p,q,n,mo,l,r,lo,hi⟩=G at *
  refine ac_ (s_r 15 ?_)
  refine d_8 ?_
  refine d_3 ?_
  refine AR.op1y rfl rfl rfl (.buildSlice te_26.h tz_23.h rfl (by decide) rfl rfl rfl (by simp[loC,gapC,nuC])) rfl rfl ?_
  refine AR.op1y rfl rfl rfl (.callS1 rfl rfl rfl (.shut rfl d_n (.keep (.nil))) rfl (hT)) rfl rfl ?_
  refine a_z ?_
  refine cF (ag_ (r_c 13 (hgv) ?_))
  refine a_z ?_
  refine ac_ (r_d hmix 5 ?_)
  refine a_5 ?_
  refine an_ (n_k ?_)
  refine ai_ (Fin.many ⟨_,_,rfl,⟨_,_,_,_,_,rfl,rfl,rfl,.inl ⟨tg_51.h,_,ts_51.h,nle rfl,rfl⟩⟩,⟨_,_,rfl,⟨_,_,_,_,_,rfl,rfl,rfl,.inl ⟨tg_77.h,_,ts_77.h,nle rfl,rfl⟩⟩,⟨_,_,rfl,rfl,rfl⟩⟩⟩ (nle rfl) ?_)
  exact af_ (al_ at_ (aq_ (Wt.cA _))) (af_ (al_ at_ (aq_ aV_)) (af_ (al_ at_ (ad_ _)) ap_))
 rw[if_neg hk] at hZ
 refine aS_ (fun _:Unit=>⟨[(1,i64 most),(2,.aptr [loC ⟨k,g,p,q,n,mo,l,r,lo,hi⟩] 0 0),(4,.lptr 1 0 0),(5,.lptr 2 0 0)],[(1,some ⟨51,9,[w0C]⟩),(2,some ⟨77,11,[rw0]⟩)],3,105⟩) (fun _=>True) ?_ ?_
 by_cases k1:1≤k
 refine q_z 8 ?_
 refine cF (ag_ ⟨(),trivial,?_⟩)
 refine as_ [(1,4),(2,5)] rfl rfl rfl au_r (fun hs=>?_) (fun hs=>?_)
 ·repeat' (first|exact aA_|refine aw_ rfl ?_ ?_)
  all_goals (first|(exact Cv.boxp hs rfl (aE_ rfl) rfl cX)|exact au_c)
 ·repeat' (first|exact ao_|refine ak_ rfl rfl rfl rfl ?_ ?_)
  all_goals (first|((try exact ae_ (CvL.clo hs aT_));(try exact ae_ (CvL.clo hs az_)))|exact au_e|(refine ae_ ?_;repeat' (first|exact ap_|refine af_ ?_ ?_)))
  all_goals (first|(exact Cv.boxp hs rfl (aE_ rfl) rfl cX)|exact au_c)
 refine q_z 8 ?_
 refine cF (ag_ ⟨(),trivial,?_⟩)
 refine as_ [(1,4),(2,5)] rfl rfl rfl au_r (fun hs=>?_) (fun hs=>?_)
 ·repeat' (first|exact aA_|refine aw_ rfl ?_ ?_)
  all_goals (first|(exact Cv.boxp hs rfl (aE_ rfl) rfl cX)|exact au_c)
 ·repeat' (first|exact ao_|refine ak_ rfl rfl rfl rfl ?_ ?_)
  all_goals (first|((try exact ae_ (CvL.clo hs aT_));(try exact ae_ (CvL.clo hs az_)))|exact au_e|(refine ae_ ?_;repeat' (first|exact ap_|refine af_ ?_ ?_)))
  all_goals (first|(exact Cv.boxp hs rfl (aE_ rfl) rfl cX)|exact au_c)
 rintro _ _
 rw[show((most+1:Nat):Int)=((most:Nat):Int)+1 by omega] at hT2
 by_cases hb:(tameB mo (most+1)=false∧mo.length≤64)∨70< mo.length
 rw[if_pos hb] at hZ
 subst hZ
 refine ac_ (aS_ (fun _:Unit=>⟨[(4,.lptr 1 0 0),(5,.lptr 2 0 0),(66,bln true)],[(1,some ⟨51,9,[w0C]⟩),(2,some ⟨77,11,[rw0]⟩)],3,105⟩) (fun _=>True) ?_ ?_)
 cases ht:tameB mo (most+1) with
 |true=>
  rw[ht] at hT2
  have h70:70< mo.length:=hb.resolve_left fun h=>by rw[ht] at h;cases h.1
  refine r_m 18 ?_
  refine c_s (hT2) ?_
  refine d_z ?_
  refine⟨(),trivial,?_⟩
  refine as_ [(1,4),(2,5)] rfl rfl rfl au_r (fun hs=>?_) (fun hs=>?_)
  ·repeat' (first|exact aA_|refine aw_ rfl ?_ ?_)
   all_goals (first|(exact al_ hs (aj_ cX))|exact au_c)
  ·repeat' (first|exact ao_|refine ak_ rfl rfl rfl rfl ?_ ?_)
   all_goals (first|((try exact ae_ (CvL.clo hs aT_));(try exact ae_ (CvL.clo hs az_)))|exact au_e|(refine ae_ ?_;repeat' (first|exact ap_|refine af_ ?_ ?_)))
   all_goals (first|(exact al_ hs (aj_ cX))|exact au_c)
 |false=>
  rw[ht] at hT2
  by_cases h64:mo.length≤64
  refine r_m 18 ?_
  refine c_s (hT2) ?_
  refine d_z ?_
  refine⟨(),trivial,?_⟩
  refine as_ [(1,4),(2,5)] rfl rfl rfl au_r (fun hs=>?_) (fun hs=>?_)
  ·repeat' (first|exact aA_|refine aw_ rfl ?_ ?_)
   all_goals (first|(exact al_ hs (aj_ cX))|exact au_c)
  ·repeat' (first|exact ao_|refine ak_ rfl rfl rfl rfl ?_ ?_)
   all_goals (first|((try exact ae_ (CvL.clo hs aT_));(try exact ae_ (CvL.clo hs az_)))|exact au_e|(refine ae_ ?_;repeat' (first|exact ap_|refine af_ ?_ ?_)))
   all_goals (first|(exact al_ hs (aj_ cX))|exact au_c)
  refine r_m 18 ?_
  refine c_s (hT2) ?_
  refine d_z ?_
  refine⟨(),trivial,?_⟩
  refine as_ [(1,4),(2,5)] rfl rfl rfl au_r (fun hs=>?_) (fun hs=>?_)
  ·repeat' (first|exact aA_|refine aw_ rfl ?_ ?_)
   all_goals (first|(exact al_ hs (aj_ cX))|exact au_c)
  ·repeat' (first|exact ao_|refine ak_ rfl rfl rfl rfl ?_ ?_)
   all_goals (first|((try exact ae_ (CvL.clo hs aT_));(try exact ae_ (CvL.clo hs az_)))|exact au_e|(refine ae_ ?_;repeat' (first|exact ap_|refine af_ ?_ ?_)))
   all_goals (first|(exact al_ hs (aj_ cX))|exact au_c)
 rintro _ _
 refine cT (r_z 5 ?_)
 refine ai_ (Fin.many ⟨_,_,rfl,⟨_,_,_,_,_,rfl,rfl,rfl,.inl ⟨tg_51.h,_,ts_51.h,nle rfl,rfl⟩⟩,⟨_,_,rfl,⟨_,_,_,_,_,rfl,rfl,rfl,.inl ⟨tg_77.h,_,ts_77.h,nle rfl,rfl⟩⟩,⟨_,_,rfl,rfl,rfl⟩⟩⟩ (nle rfl) ?_)
 exact af_ (Cv_wZ at_) (af_ (Cv.agg (b5_ at_)) (af_ (al_ at_ (ad_ _)) ap_))
 rw[if_neg hb] at hZ
 subst hZ
 refine ac_ (aS_ (fun _:Unit=>⟨[(2,.aptr [loC ⟨k,g,p,q,n,mo,l,r,lo,hi⟩] 0 0),(4,.lptr 1 0 0),(5,.lptr 2 0 0),(66,bln false)],[(1,some ⟨51,9,[w0C]⟩),(2,some ⟨77,11,[rw0]⟩)],3,105⟩) (fun _=>True) ?_ ?_)
 cases ht:tameB mo (most+1) with
 |true=>
  rw[ht] at hT2
  refine r_m 18 ?_
  refine c_s (hT2) ?_
  refine d_z ?_
  refine⟨(),trivial,?_⟩
  refine as_ [(1,4),(2,5)] rfl rfl rfl au_r (fun hs=>?_) (fun hs=>?_)
  ·repeat' (first|exact aA_|refine aw_ rfl ?_ ?_)
   all_goals (first|(exact al_ hs (aj_ cX))|exact au_c)
  ·repeat' (first|exact ao_|refine ak_ rfl rfl rfl rfl ?_ ?_)
   all_goals (first|((try exact ae_ (CvL.clo hs aT_));(try exact ae_ (CvL.clo hs az_)))|exact au_e|(refine ae_ ?_;repeat' (first|exact ap_|refine af_ ?_ ?_)))
   all_goals (first|(exact al_ hs (aj_ cX))|exact au_c)
 |false=>
  rw[ht] at hT2
  refine r_m 18 ?_
  refine c_s (hT2) ?_
  refine d_5 ?_
  refine ay_ rfl rfl rfl (.bin rfl rfl (vF dj_ (decide_eq_false (fun h=>hb (.inl ⟨ht,by omega⟩))))) rfl rfl ?_
  refine d_z ?_
  refine⟨(),trivial,?_⟩
  refine as_ [(1,4),(2,5)] rfl rfl rfl au_r (fun hs=>?_) (fun hs=>?_)
  ·repeat' (first|exact aA_|refine aw_ rfl ?_ ?_)
   all_goals (first|(exact al_ hs (aj_ cX))|exact au_c)
  ·repeat' (first|exact ao_|refine ak_ rfl rfl rfl rfl ?_ ?_)
   all_goals (first|((try exact ae_ (CvL.clo hs aT_));(try exact ae_ (CvL.clo hs az_)))|exact au_e|(refine ae_ ?_;repeat' (first|exact ap_|refine af_ ?_ ?_)))
   all_goals (first|(exact al_ hs (aj_ cX))|exact au_c)
 rintro _ _
 refine cF (ag_ ?_)
 have hL:=qa_ mo (by omega) hmo
 have b1:FSpec Tryz.prog 35 [.agg (nuC lo.1 lo.2.1 lo.2.2)] (.tup [.agg (qC (nV lo)),.agg (rC (rq (nV lo)))]):=fY_ _ _ _ hlo.1 hlo.2.1 hlo.2.2
 have b2:FSpec Tryz.prog 35 [.agg (nuC hi.1 hi.2.1 hi.2.2)] (.tup [.agg (qC (nV hi)),.agg (rC (rq (nV hi)))]):=fY_ _ _ _ hhi.1 hhi.2.1 hhi.2.2
 generalize nV lo=A at *
 generalize nV hi=B at *
 generalize nL mo=LM at *
 refine r_c 8 (hL) ?_
 refine a_z ?_
 refine r_z 8 ?_
 refine r_z 8 ?_
 refine AWp.ent (st':=⟨[(2,.aptr [loC ⟨k,g,p,q,n,mo,l,r,lo,hi⟩] 0 0),(4,.lptr 1 0 0),(5,.lptr 2 0 0),(13,.lptr 3 0 0),(14,.lptr 4 0 0)],[(1,some ⟨51,9,[w0C]⟩),(2,some ⟨77,11,[rw0]⟩),(3,some ⟨51,9,[wC LM l r zC zC]⟩),(4,some ⟨77,11,[rwX (.arr (rE (rP LM))) l r zR4 zR4]⟩)],5,105⟩) ?_ ?_
 refine as_ [(1,4),(2,5),(3,13),(4,14)] rfl rfl rfl au_r (fun hs=>?_) (fun hs=>?_)
 ·repeat' (first|exact aA_|refine aw_ rfl ?_ ?_)
  all_goals (first|(exact al_ hs (aj_ cX))|exact au_c)
 ·repeat' (first|exact ao_|refine ak_ rfl rfl rfl rfl ?_ ?_)
  all_goals (first|((first|exact ae_ (CvL.clo hs (aJ_ (.inl rfl) (.inl rfl)))|exact ae_ (CvL.clo hs (ib_ (a7_ _) bA_ bA_))|exact ae_ (CvL.clo hs aT_)|exact ae_ (CvL.clo hs az_)))|exact au_e|(refine ae_ ?_;repeat' (first|exact ap_|refine af_ ?_ ?_)))
  all_goals (first|(exact al_ hs (aj_ cX))|exact au_c)
 refine r_c 10 (b1) ?_
 refine a_z ?_
 refine AWp.ent (st':=⟨[(2,.aptr [loC ⟨k,g,p,q,n,mo,l,r,lo,hi⟩] 0 0),(4,.lptr 1 0 0),(5,.lptr 2 0 0),(13,.lptr 3 0 0),(14,.lptr 4 0 0)],[(1,some ⟨51,9,[w0C]⟩),(2,some ⟨77,11,[rw0]⟩),(3,some ⟨51,9,[wC LM l r (qC A) zC]⟩),(4,some ⟨77,11,[rwX (.arr (rE (rP LM))) l r (rC (rq A)) zR4]⟩)],5,105⟩) ?_ ?_
 refine as_ [(1,4),(2,5),(3,13),(4,14)] rfl rfl rfl au_r (fun hs=>?_) (fun hs=>?_)
 ·repeat' (first|exact aA_|refine aw_ rfl ?_ ?_)
  all_goals (first|(exact al_ hs (aj_ cX))|exact au_c)
 ·repeat' (first|exact ao_|refine ak_ rfl rfl rfl rfl ?_ ?_)
  all_goals (first|((first|exact ae_ (CvL.clo hs (aJ_ (.inr ⟨_,rfl⟩) (.inl rfl)))|exact ae_ (CvL.clo hs (ib_ (a7_ _) (bi_ _) bA_))|exact ae_ (CvL.clo hs aT_)|exact ae_ (CvL.clo hs az_)))|exact au_e|(refine ae_ ?_;repeat' (first|exact ap_|refine af_ ?_ ?_)))
  all_goals (first|(exact al_ hs (aj_ cX))|exact au_c)
 refine r_c 10 (b2) ?_
 refine a_z ?_
 refine AWp.ent (st':=⟨[(4,.lptr 1 0 0),(5,.lptr 2 0 0),(13,.lptr 3 0 0),(14,.lptr 4 0 0)],[(1,some ⟨51,9,[w0C]⟩),(2,some ⟨77,11,[rw0]⟩),(3,some ⟨51,9,[wC LM l r (qC A) (qC B)]⟩),(4,some ⟨77,11,[rwC LM l r (rq A) (rq B)]⟩)],5,105⟩) ?_ ?_
 refine as_ [(1,4),(2,5),(3,13),(4,14)] rfl rfl rfl au_r (fun hs=>au_f) (fun hs=>?_)
 ·repeat' (first|exact ao_|refine ak_ rfl rfl rfl rfl ?_ ?_)
  all_goals (first|((first|exact ae_ (CvL.clo hs (aJ_ (.inr ⟨_,rfl⟩) (.inr ⟨_,rfl⟩)))|exact ae_ (CvL.clo hs aV_)|exact ae_ (CvL.clo hs aT_)|exact ae_ (CvL.clo hs az_)))|exact au_e)
 refine ac_ (r_d hmix 5 ?_)
 refine a_5 ?_
 refine an_ (n_k ?_)
 refine ai_ (Fin.many ⟨_,_,rfl,⟨_,_,_,_,_,rfl,rfl,rfl,.inl ⟨tg_51.h,_,ts_51.h,nle rfl,rfl⟩⟩,⟨_,_,rfl,⟨_,_,_,_,_,rfl,rfl,rfl,.inl ⟨tg_77.h,_,ts_77.h,nle rfl,rfl⟩⟩,⟨_,_,rfl,rfl,rfl⟩⟩⟩ (nle rfl) ?_)
 exact af_ (al_ at_ (aq_ (aJ_ (.inr ⟨_,rfl⟩) (.inr ⟨_,rfl⟩)))) (af_ (al_ at_ (aq_ aV_)) (af_ (al_ at_ (ad_ _)) ap_))
theorem evLo_ok(c:Nat):rok (evLo c).1∧rok (evLo c).2∧qs (evLo c).1.1≤256∧qs (evLo c).2.1≤256:=by
 unfold evLo
 split
 exact⟨hr_,hr_,by decide,by decide⟩
 exact⟨bm_ _,bm_ _,by decide,by decide⟩
theorem gvW_ok(x:LoR)(hx:okLo x)(hk0:1≤x.k):(gvW x).1.Ok∧((gvW x).1.l=false→(gvW x).1.a=0)∧((gvW x).1.r=false→(gvW x).1.b=0)∧((gvW x).2=0∨(gvW x).1=wZt∧((gvW x).2=2∨(gvW x).2=3)):=by
 have hz:∀e:Int,(e=2∨e=3)→(wZt,e).1.Ok∧((wZt,e).1.l=false→(wZt,e).1.a=0)∧((wZt,e).1.r=false→(wZt,e).1.b=0)∧((wZt,e).2=0∨(wZt,e).1=wZt∧((wZt,e).2=2∨(wZt,e).2=3)):=fun e he=>⟨wZt_ok,fun _=>rfl,fun _=>rfl,.inr ⟨rfl,he⟩⟩
 have qa:qs (nV x.g.1)≤256:=fs_ hx.2.1.1.1 hx.2.1.1.2.1
 have qb:qs (nV x.g.2)≤256:=fs_ hx.2.1.2.1 hx.2.1.2.2.1
 unfold gvW
 split
 split
 split
 exact hz 3 (.inr rfl)
 ·rename_i h
  have b5:¬bdN x.n:=fun e=>h (.inl e)
  have b6:¬bdP x.p:=fun e=>h (.inr (.inl e))
  have b7:¬bdP x.q:=fun e=>h (.inr (.inr e))
  unfold bdN at b5
  unfold bdP at b6 b7
  refine⟨⟨bm_ _,bm_ _,rfl,rfl,qa,qb,oY_ fun k hk=>(jc_mom qa qb (by omega) (by omega) k (by omega)).2,?_⟩,fun e=>(by cases e),fun e=>(by cases e),.inl rfl⟩
  show(sqL _ _).length≤70
  rw[gc_];omega
 exact hz 2 (.inl rfl)
 split
 split
 exact hz 3 (.inr rfl)
 ·rename_i h
  have b5:¬bdN x.n:=fun e=>h (.inl e)
  have b6:¬bdP x.p:=fun e=>h (.inr e)
  unfold bdN at b5
  unfold bdP at b6
  refine⟨⟨hr_,hr_,rfl,rfl,(by decide:qs 0≤256),(by decide:qs 0≤256),oY_ fun k hk=>?_,?_⟩,fun _=>rfl,fun _=>rfl,.inl rfl⟩
  exact Nat.le_trans (gI_ (n:=x.p.toNat+k) (by omega)) (by decide)
  show(sqL _ _).length≤70
  rw[gc_];omega
 split
 exact hz 3 (.inr rfl)
 ·rename_i b5
  unfold bdN at b5
  obtain⟨o1,o2,o3,o4⟩:=evLo_ok (x.k- 2)
  have hw:∀k,qs (evW (evK (x.k- 2)) k)≤(k/ 2) * 42+1∨200< k:=fun k=>by
   by_cases h:k≤200
   refine .inl ?_
   unfold evW
   split
   exact qm_ _ fun j hj=>nv_ _ _ (by omega)
   exact Nat.le_trans (by decide:qs 0≤1) (Nat.le_add_left _ _)
   exact .inr (by omega)
  refine⟨⟨o1,o2,rfl,rfl,o3,o4,oY_ fun k hk=>?_,?_⟩,?_,?_,.inl rfl⟩
  rcases hw k with h|h <;> omega
  show(sqL _ _).length≤70
  rw[gc_];omega
  all_goals
   intro e
   have h0:¬1< x.k- 2:=of_decide_eq_false e
   have h1:x.k- 2=1:=by omega
  show(evLo (x.k- 2)).1.1=0
  unfold evLo;rw[if_pos h1];rfl
  show(evLo (x.k- 2)).2.1=0
  unfold evLo;rw[if_pos h1];rfl
theorem ldW_ok(x:LoR)(hx:okLo x)(most:Nat)(w:Wt)(h:ldW x most=some w):w.Ok:=by
 unfold ldW at h
 split at h
 split at h
 cases h
 ·rename_i h1 _;cases h;exact(gvW_ok x hx h1.1).1
 split at h
 cases h
 ·rename_i h2
  cases h
  obtain⟨hk255,hg,hp,hq,hn,hmo,hlo,hhi⟩:=hx
  refine⟨bm_ _,bm_ _,rfl,rfl,fs_ hlo.1 hlo.2.1,fs_ hhi.1 hhi.2.1,fun q hq=>Nat.le_trans (nL_qs hmo q hq) (by decide),?_⟩
  show(nL x.mo).length≤70
  have:(nL x.mo).length=x.mo.length:=by simp[nL]
  omega
theorem iH_(x:LoR)(lr:List NRow)(hx:okLo x)(hm:x.mo.length≤9223372036854775807)(hl:okR lr):FSpec Tryz.prog 4 [.agg (loC x),.arr (nR lr)] (.v (.bool true)):=by
 have cX:=gr_ x
 have hnl:(nR lr).length=lr.length:=by simp[nR]
 have hgv:=nl_ x hx
 have hld:=fs_Loads x 20 hx (by decide) hm
 have lok:=ldW_ok x hx 20
 have kk:∀y:Nat,loC x= .v (.int .u8 x.k)::(loC x).tail:=fun _=>rfl
 refine f_n Tryz.func4 ?_ ?_
 exact aa_ (aq_ cX) (aa_ (aC_ (ba_ lr)) ab_)
 refine r_z 2 ?_
 by_cases hlen:30< lr.length
 refine ac_ (q_z 3 ?_)
 refine cT (r_c 2 (eK_) ?_)
 refine a_z ?_
 exact ai_ (t_e (ad_ _))
 refine ac_ (q_z 3 ?_)
 refine cF (ag_ (aS_ (fun _:Unit=>⟨[(1,.arr (nR lr)),(2,.aptr [loC x] 0 0)],[],1,152⟩) (fun _=>True) ?_ ?_))
 ·by_cases k1:1≤x.k
  rotate_left
  refine q_z 18 ?_
  refine cF (ag_ ⟨(),trivial,?_⟩)
  refine as_ [] rfl rfl rfl au_r (fun hs=>?_) (fun hs=>?_)
  ·repeat' (first|exact aA_|refine aw_ rfl ?_ ?_)
   all_goals (first|((first|exact Cv.boxp hs rfl (aE_ rfl) rfl cX|exact al_ hs (aC_ (ba_ lr))))|exact au_c)
  ·repeat' (first|exact ao_|refine ak_ rfl rfl rfl rfl ?_ ?_)
   all_goals (first|exact au_e|(refine ae_ ?_;repeat' (first|exact ap_|refine af_ ?_ ?_)))
   all_goals (first|((first|exact Cv.boxp hs rfl (aE_ rfl) rfl cX|exact al_ hs (aC_ (ba_ lr))))|exact au_c)
  by_cases k5:x.k≤5
  rotate_left
  refine q_z 18 ?_
  refine cF (ag_ ⟨(),trivial,?_⟩)
  refine as_ [] rfl rfl rfl au_r (fun hs=>?_) (fun hs=>?_)
  ·repeat' (first|exact aA_|refine aw_ rfl ?_ ?_)
   all_goals (first|((first|exact Cv.boxp hs rfl (aE_ rfl) rfl cX|exact al_ hs (aC_ (ba_ lr))))|exact au_c)
  ·repeat' (first|exact ao_|refine ak_ rfl rfl rfl rfl ?_ ?_)
   all_goals (first|exact au_e|(refine ae_ ?_;repeat' (first|exact ap_|refine af_ ?_ ?_)))
   all_goals (first|((first|exact Cv.boxp hs rfl (aE_ rfl) rfl cX|exact al_ hs (aC_ (ba_ lr))))|exact au_c)
  have hgv:=hgv ⟨k1,k5⟩
  obtain⟨gok,g1,g2,g3⟩:=gvW_ok x hx k1
  have hsw:=jM_ (gvW x).1 gok g1 g2
  by_cases hn:x.n≤20∨63< x.n
  rotate_left
  refine s_r 18 ?_
  refine d_8 ?_
  refine d_3 ?_
  refine ay_ rfl rfl rfl (.bin rfl rfl (vF dj_ (decide_eq_false (fun e=>hn (.inl e))))) rfl rfl ?_
  refine d_3 ?_
  refine ay_ rfl rfl rfl (.bin rfl rfl (vF dT_ (decide_eq_false (fun e=>hn (.inr e))))) rfl rfl ?_
  refine a_z ?_
  refine cF (ag_ ⟨(),trivial,?_⟩)
  refine as_ [] rfl rfl rfl au_r (fun hs=>?_) (fun hs=>?_)
  ·repeat' (first|exact aA_|refine aw_ rfl ?_ ?_)
   all_goals (first|((first|exact al_ hs (aj_ cX)|exact Cv.boxp hs rfl (aE_ rfl) rfl cX|exact al_ hs (aC_ (ba_ lr))))|exact au_c)
  ·repeat' (first|exact ao_|refine ak_ rfl rfl rfl rfl ?_ ?_)
   all_goals (first|exact au_e|(refine ae_ ?_;repeat' (first|exact ap_|refine af_ ?_ ?_)))
   all_goals (first|((first|exact al_ hs (aj_ cX)|exact Cv.boxp hs rfl (aE_ rfl) rfl cX|exact al_ hs (aC_ (ba_ lr))))|exact au_c)
  have hgv:=hgv hn
  refine aS_ (fun _:Unit=>⟨[(1,.arr (nR lr)),(2,.aptr [loC x] 0 0),(37,bln true)],[],1,152⟩) (fun _=>True) ?_ ?_
  by_cases h20:x.n≤20
  refine r_m 18 ?_
  refine d_z ?_
  refine⟨(),trivial,?_⟩
  refine as_ [] rfl rfl rfl au_r (fun hs=>?_) (fun hs=>?_)
  ·repeat' (first|exact aA_|refine aw_ rfl ?_ ?_)
   all_goals (first|((first|exact al_ hs (aj_ cX)|exact Cv.boxp hs rfl (aE_ rfl) rfl cX|exact al_ hs (aC_ (ba_ lr))))|exact au_c)
  ·repeat' (first|exact ao_|refine ak_ rfl rfl rfl rfl ?_ ?_)
   all_goals (first|exact au_e|(refine ae_ ?_;repeat' (first|exact ap_|refine af_ ?_ ?_)))
   all_goals (first|((first|exact al_ hs (aj_ cX)|exact Cv.boxp hs rfl (aE_ rfl) rfl cX|exact al_ hs (aC_ (ba_ lr))))|exact au_c)
  refine r_m 18 ?_
  refine d_8 ?_
  refine d_7 ?_
  refine ay_ rfl rfl rfl (.bin rfl rfl (vT dT_ (decide_eq_true (hn.resolve_left h20)))) rfl rfl ?_
  refine a_z ?_
  refine⟨(),trivial,?_⟩
  refine as_ [] rfl rfl rfl au_r (fun hs=>?_) (fun hs=>?_)
  ·repeat' (first|exact aA_|refine aw_ rfl ?_ ?_)
   all_goals (first|((first|exact al_ hs (aj_ cX)|exact Cv.boxp hs rfl (aE_ rfl) rfl cX|exact al_ hs (aC_ (ba_ lr))))|exact au_c)
  ·repeat' (first|exact ao_|refine ak_ rfl rfl rfl rfl ?_ ?_)
   all_goals (first|exact au_e|(refine ae_ ?_;repeat' (first|exact ap_|refine af_ ?_ ?_)))
   all_goals (first|((first|exact al_ hs (aj_ cX)|exact Cv.boxp hs rfl (aE_ rfl) rfl cX|exact al_ hs (aC_ (ba_ lr))))|exact au_c)
  rintro _ _
  generalize gvW x=Z at *
  obtain⟨w,e⟩:=Z
  simp only at hgv hsw g3
  refine cT (r_c 13 (hgv) ?_)
  refine a_z ?_
  rcases g3 with rfl|⟨rfl,he⟩
  refine s_r 31 ?_
  refine a_2 ?_
  refine o_0 (.bin rfl rfl (vF by_ (rfl))) ?_
  refine d_2 ?_
  refine ay_ rfl rfl rfl (.bin rfl rfl (vF by_ (rfl))) rfl rfl ?_
  refine d_8 ?_
  refine d_8 ?_
  refine m_1 ?_
  refine ay_ rfl rfl rfl (.bin rfl rfl (vT a8_ (rfl))) rfl rfl ?_
  refine c_s (hsw) ?_
  refine a_z ?_
  refine cF (ag_ ⟨(),trivial,?_⟩)
  refine as_ [] rfl rfl rfl au_r (fun hs=>?_) (fun hs=>?_)
  ·repeat' (first|exact aA_|refine aw_ rfl ?_ ?_)
   all_goals (first|((first|exact al_ hs (aj_ cX)|exact Cv.boxp hs rfl (aE_ rfl) rfl cX|exact al_ hs (aC_ (ba_ lr))))|exact au_c)
  ·repeat' (first|exact ao_|refine ak_ rfl rfl rfl rfl ?_ ?_)
   all_goals (first|exact au_e|(refine ae_ ?_;repeat' (first|exact ap_|refine af_ ?_ ?_)))
   all_goals (first|((first|exact al_ hs (aj_ cX)|exact Cv.boxp hs rfl (aE_ rfl) rfl cX|exact al_ hs (aC_ (ba_ lr))))|exact au_c)
  ·rcases he with rfl|rfl
   all_goals
    refine s_r 31 ?_
    refine a_2 ?_
    refine o_0 (.bin rfl rfl (vF by_ (rfl))) ?_
    refine d_2 ?_
    refine ay_ rfl rfl rfl (.bin rfl rfl (vT by_ (rfl))) rfl rfl ?_
    refine d_4 ?_
    refine ay_ rfl rfl rfl (.bin rfl rfl (vF dT_ (rfl))) rfl rfl ?_
    refine d_8 ?_
    refine d_4 ?_
    refine ay_ rfl rfl rfl (.bin rfl rfl (vF a8_ (rfl))) rfl rfl ?_
    refine a_z ?_
    refine cF (ag_ ⟨(),trivial,?_⟩)
    refine as_ [] rfl rfl rfl au_r (fun hs=>?_) (fun hs=>?_)
    ·repeat' (first|exact aA_|refine aw_ rfl ?_ ?_)
     all_goals (first|((first|exact al_ hs (aj_ cX)|exact Cv.boxp hs rfl (aE_ rfl) rfl cX|exact al_ hs (aC_ (ba_ lr))))|exact au_c)
    ·repeat' (first|exact ao_|refine ak_ rfl rfl rfl rfl ?_ ?_)
     all_goals (first|exact au_e|(refine ae_ ?_;repeat' (first|exact ap_|refine af_ ?_ ?_)))
     all_goals (first|((first|exact al_ hs (aj_ cX)|exact Cv.boxp hs rfl (aE_ rfl) rfl cX|exact al_ hs (aC_ (ba_ lr))))|exact au_c)
 rintro _ _
 cases hw:ldW x 20 with
 |none=>
  rw[hw] at hld
  refine r_c 11 (hld) ?_
  refine a_z ?_
  refine ac_ (r_z 2 ?_)
  refine cT (r_c 2 (eK_) ?_)
  refine a_z ?_
  exact ai_ (t_e (ad_ _))
 |some w=>
  rw[hw] at hld
  have ok:=lok w hw
  simp only[Option.getD_some,Option.isSome_some] at hld
  refine r_c 11 (hld) ?_
  refine a_z ?_
  have cA:∀c∈w.A,Closed c:=w.cA
  have cB:∀c∈w.B,Closed c:=aV_
  refine AWp.ent (st':=⟨[(1,.arr (nR lr)),(9,.aptr [w.A] 0 0),(10,.aptr [w.B] 0 0),(11,bln true)],[],1,152⟩) ?_ ?_
  refine as_ [] rfl rfl rfl au_r (fun hs=>?_) (fun hs=>?_)
  ·repeat' (first|exact aA_|refine aw_ rfl ?_ ?_)
   all_goals (first|((first|exact al_ hs (aC_ (ba_ lr))|exact Cv.boxp hs rfl (aE_ rfl) rfl cA|exact Cv.boxp hs rfl (aE_ rfl) rfl cB))|exact au_c)
  ·repeat' (first|exact ao_|refine ak_ rfl rfl rfl rfl ?_ ?_)
   all_goals (first|exact au_e|(refine ae_ ?_;repeat' (first|exact ap_|refine af_ ?_ ?_)))
   all_goals (first|((first|exact al_ hs (aC_ (ba_ lr))|exact Cv.boxp hs rfl (aE_ rfl) rfl cA|exact Cv.boxp hs rfl (aE_ rfl) rfl cB))|exact au_c)
  have bP:=fs_BothP lr (by omega) hl
  have hvl:=pR_ w.m w.l w.r w.x w.y (by have:=ok.len;omega) ok.ox ok.oy (by have:=ok.qa;have:=ok.qb;rw[ok.ex,ok.ey];omega)
  rw[ok.ex,ok.ey] at hvl
  have lp:(nL lr).length≤30:=by simp[nL];omega
  have bp:bdL (nL lr) 256:=nL_qs hl
  have sa:sm w.a:=Nat.le_trans ok.qa (by decide)
  have sb:sm w.b:=Nat.le_trans ok.qb (by decide)
  have hdg:=oe_ (rP (nL lr)) (by simp[rP];omega)
  rw[vR_rP] at hdg
  have hs0:FSpec Tryz.prog 14 [.agg (qC 0)] (i64 0):=bK_ 0
  have hml:(rP w.m).length=w.m.length:=by simp[rP]
  generalize nL lr=c at *
  refine ac_ (r_z 2 ?_)
  refine cF (ag_ (r_c 7 (bP) ?_))
  refine a_z ?_
  by_cases hv:okW w.m w.l w.r w.a w.b
  rotate_left
  have hOf:=fs_OfA w.m c w.l w.r w.a w.b hv (by have:=ok.len;omega) sa sb
  have hck:=eN_ w.m w.l w.r w.a w.b hv (by have:=ok.len;omega) sa sb
  rw[decide_eq_false hv] at hvl
  refine r_c 9 (hOf) ?_
  refine a_z ?_
  refine ac_ (r_c 3 (hvl) ?_)
  refine a_z ?_
  refine cT (r_c 16 (hck) ?_)
  refine o_0 (.bin rfl rfl (vT a8_ (rfl))) ?_
  refine d_2 ?_
  refine ay_ rfl rfl rfl (.bin rfl rfl (vT a8_ (rfl))) rfl rfl ?_
  refine c_s (hs0) ?_
  refine ay_ rfl rfl rfl (.bin rfl rfl (vT a8_ (rfl))) rfl rfl ?_
  refine c_s (eK_) ?_
  refine a_z ?_
  exact ai_ (t_e (ad_ _))
  have hck:=cI_ w.m w.l w.r w.a w.b ⟨hv.1,hv.2.1⟩ hv.2.2 sa sb
  rw[decide_eq_true hv] at hvl
  by_cases hd:(w.m.length:Int)≤degP c
  have hOf:=fs_OfL w.m c w.l w.r w.a w.b hv (by omega) hd sa sb
  refine r_c 9 (hOf) ?_
  refine a_z ?_
  refine ac_ (r_c 3 (hvl) ?_)
  refine a_z ?_
  refine cF (ag_ (ac_ (ac_ (r_d hmix 6 ?_))))
  refine c_s (hdg) ?_
  refine d_4 ?_
  refine an_ (n_k ?_)
  refine cT (r_c 16 (hck) ?_)
  refine o_0 (.bin rfl rfl (vT a8_ (rfl))) ?_
  refine d_2 ?_
  refine ay_ rfl rfl rfl (.bin rfl rfl (vT a8_ (rfl))) rfl rfl ?_
  refine c_s (hs0) ?_
  refine ay_ rfl rfl rfl (.bin rfl rfl (vT a8_ (rfl))) rfl rfl ?_
  refine c_s (eK_) ?_
  refine a_z ?_
  exact ai_ (t_e (ad_ _))
  have htl:(trimQ c).length≤w.m.length:=by unfold degP at hd;omega
  have hmx:=mxL_le bp (by decide)
  have hmm:=mxL_le ok.bd (by decide)
  have h1:=Nat.mul_le_mul (show c.length+2≤32 by omega) (show mxL c+mxL w.m+1≤2000000257 by omega)
  have h2:=Nat.mul_le_mul (show c.length+2≤32 by omega) (show 256+2000000000+1≤2000000257 by omega)
  have hOf:=fs_Of1 w.m c w.l w.r w.a w.b hv (by omega) (by omega) sa sb ⟨by omega,htl,by omega⟩
  have hrO:=fs_rOfP c w.m w.l w.r w.x w.y 256 2000000000 bp ok.bd (by decide) (by decide) (by omega) htl (by omega)
  have hct:=a9_ c
  have hqo:qs (ofP w.m c)≤68719476736:=by
   have h3:=kK_ (p:=trimQ c) (m:=w.m) (fun q hq=>bp q (bk_ hq)) ok.bd (by decide) (by decide) (trimQ c).length
   have h4:=Nat.mul_le_mul (show(trimQ c).length≤30 by omega) (Nat.le_refl (256+2000000000+1))
   show qs (ofQ _ _ _)≤_
   omega
  have hsm:=g3_ (ofP w.m c) (rq (ofP w.m c)) (bm_ _) rfl hqo
  generalize ofP w.m c=v at *
  refine s_r 9 ?_
  first|refine aB_ (.load_l rfl rfl rfl tg_51.h ts_51.h (nle rfl)) rfl rfl ?_|refine aB_ (.load_a rfl rfl tg_51.h ts_51.h (nle rfl)) rfl rfl ?_
  refine o_0 (.move rfl) ?_
  refine o_0 (.call rfl rfl rfl (hOf)) ?_
  refine o_0 (.move rfl) ?_
  refine o_0 (.extract rfl rfl) ?_
  refine o_0 (.extract rfl rfl) ?_
  refine o_1 (.alloc tz_35.h) ?_
  refine o_1n (.store rfl rfl rfl rfl rfl rfl ts_35.h (nle rfl)) ?_
  refine o_0 (.assign rfl) ?_
  refine an_ ?_
  refine ac_ (s_r 3 ?_)
  first|refine aB_ (.load_l rfl rfl rfl tg_77.h ts_77.h (nle rfl)) rfl rfl ?_|refine aB_ (.load_a rfl rfl tg_77.h ts_77.h (nle rfl)) rfl rfl ?_
  refine o_0 (.call rfl rfl rfl (hvl)) ?_
  refine o_0 (.un rfl iI_) ?_
  refine an_ ?_
  refine cF (ag_ (ac_ (ac_ (r_d hmix 6 ?_))))
  refine o_0 (.move rfl) ?_
  refine o_0 (.call rfl rfl rfl (hdg)) ?_
  first|refine aB_ (.fieldAddr_l rfl tf_77_0.h (by decide)) rfl rfl ?_|refine aB_ (.fieldAddr_a rfl tf_77_0.h (by decide)) rfl rfl ?_
  first|refine aB_ (.load_l1 rfl rfl rfl tg_65.h rfl) rfl rfl ?_|refine aB_ (.load_a1 rfl rfl tg_65.h rfl) rfl rfl ?_
  first|refine aB_ (.lenD rfl rfl rfl rfl te_65.h) rfl rfl ?_|refine aB_ (.lenI rfl rfl rfl rfl te_65.h) rfl rfl ?_|refine aB_ (.lenP rfl rfl rfl rfl te_65.h) rfl rfl ?_|refine aB_ (.lenC rfl rfl rfl rfl te_65.h) rfl rfl ?_|refine aB_ (.lenR rfl rfl rfl rfl te_65.h) rfl rfl ?_|refine aB_ (.len rfl rfl rfl rfl rfl te_65.h) rfl rfl ?_
  refine o_0 (.bin rfl rfl (vF cv_ (decide_eq_false (by omega)))) ?_
  refine an_ (n_k ?_)
  refine cF (ag_ (ac_ (r_d hmix 18 ?_)))
  first|refine aB_ (.load_l rfl rfl rfl tg_51.h ts_51.h (nle rfl)) rfl rfl ?_|refine aB_ (.load_a rfl rfl tg_51.h ts_51.h (nle rfl)) rfl rfl ?_
  refine o_0 (.call rfl rfl rfl (hck)) ?_
  refine o_0 (.bin rfl rfl (vT a8_ (rfl))) ?_
  refine o_0 (.move rfl) ?_
  first|refine ay_ rfl rfl rfl (.move rfl) rfl rfl ?_|refine bt_ rfl rfl (by first|(simp[bf_];done)|exact nofun) rfl rfl ?_
  refine ay_ rfl rfl rfl (.bin rfl rfl (vT a8_ (rfl))) rfl rfl ?_
  first|refine aB_ (.pick rfl (fun _=>rfl) (fun _=>rfl)) rfl rfl ?_|refine aB_ (.pick rfl (fun _=>rfl) (fun h=>absurd h (by decide))) rfl rfl ?_|refine aB_ (.pick rfl (fun h=>absurd h (by decide)) (fun _=>rfl)) rfl rfl ?_
  refine o_0 (.move rfl) ?_
  first|refine ay_ rfl rfl rfl (.load_l rfl rfl rfl tg_35.h ts_35.h (nle rfl)) rfl rfl ?_|refine ay_ rfl rfl rfl (.load_a rfl rfl tg_35.h ts_35.h (nle rfl)) rfl rfl ?_|refine bt_ rfl rfl (by first|(simp[bf_];done)|exact nofun) rfl rfl ?_
  first|refine ay_ rfl rfl rfl (.load_l rfl rfl rfl tg_77.h ts_77.h (nle rfl)) rfl rfl ?_|refine ay_ rfl rfl rfl (.load_a rfl rfl tg_77.h ts_77.h (nle rfl)) rfl rfl ?_|refine bt_ rfl rfl (by first|(simp[bf_];done)|exact nofun) rfl rfl ?_
  first|refine ay_ rfl rfl rfl (.move rfl) rfl rfl ?_|refine bt_ rfl rfl (by first|(simp[bf_];done)|exact nofun) rfl rfl ?_
  refine ay_ rfl rfl rfl (.call rfl rfl rfl (hrO)) rfl rfl ?_
  refine ay_ rfl rfl rfl (.call rfl rfl rfl (hsm)) rfl rfl ?_
  first|refine aB_ (.pick rfl (fun _=>rfl) (fun _=>rfl)) rfl rfl ?_|refine aB_ (.pick rfl (fun _=>rfl) (fun h=>absurd h (by decide))) rfl rfl ?_|refine aB_ (.pick rfl (fun h=>absurd h (by decide)) (fun _=>rfl)) rfl rfl ?_
  refine o_0 (.move rfl) ?_
  refine ay_ rfl rfl rfl (.call rfl rfl rfl (eK_)) rfl rfl ?_
  first|refine aB_ (.pick rfl (fun _=>rfl) (fun _=>rfl)) rfl rfl ?_|refine aB_ (.pick rfl (fun _=>rfl) (fun h=>absurd h (by decide))) rfl rfl ?_|refine aB_ (.pick rfl (fun h=>absurd h (by decide)) (fun _=>rfl)) rfl rfl ?_
  refine o_0 (.assign rfl) ?_
  refine an_ (n_k ?_)
  exact ai_ (t_e (ad_ _))
end Go.Proofs.YtdjfjpeoddmamaaGreatDoor
namespace Go.Proofs.YtdjfjpeoddmamaaGreatDoor
open Go.Abs Go.ChangeShapes Go.Deep Go.RowKit Go.WideShapes
set_option maxRecDepth 20000
def loF:Array Field:= #[{name:= "Kind",type:=5,offset:=0,embedded:=false,tag:= "",pkgPath:= "",byteOffset:=0},{name:= "S",type:=25,offset:=1,embedded:=false,tag:= "",pkgPath:= "",byteOffset:=8},{name:= "P",type:=3,offset:=7,embedded:=false,tag:= "",pkgPath:= "",byteOffset:=56},{name:= "Q",type:=3,offset:=8,embedded:=false,tag:= "",pkgPath:= "",byteOffset:=64},{name:= "N",type:=3,offset:=9,embedded:=false,tag:= "",pkgPath:= "",byteOffset:=72},{name:= "Moments",type:=26,offset:=10,embedded:=false,tag:= "",pkgPath:= "",byteOffset:=80},{name:= "Left",type:=4,offset:=11,embedded:=false,tag:= "",pkgPath:= "",byteOffset:=104},{name:= "Right",type:=4,offset:=12,embedded:=false,tag:= "",pkgPath:= "",byteOffset:=105},{name:= "Low",type:=23,offset:=13,embedded:=false,tag:= "",pkgPath:= "",byteOffset:=112},{name:= "High",type:=23,offset:=16,embedded:=false,tag:= "",pkgPath:= "",byteOffset:=136}]
theorem tyL:(Tryz.prog).underlying 75=some (.struct loF):=by kernel_rfl
theorem tycL:(Tryz.prog).cellsOf 75=19:=by kernel_rfl
theorem tycb:(Tryz.prog).cellsOf 4=1:=by kernel_rfl
theorem tyc3:(Tryz.prog).cellsOf 3=1:=by kernel_rfl
theorem tycS:(Tryz.prog).cellsOf 26=1:=by kernel_rfl
theorem tyub:(Tryz.prog).underlying 4=some .bool:=by kernel_rfl
theorem gap_of{H:Type}{enc:TypeId×Value→H}{W:World}{base n:Nat}{spare:Nat→Bool}{held:Bool}{cs:List Value}{x:DataW H×List MemPlace}(h:DataW.trod enc Tryz.prog W base spare held n 25 cs=some x):
    ∃r:NRow×NRow,(okN r.1∧okN r.2)∧cs=[.int .i64 r.1.1,.int .i64 r.1.2.1,.int .u8 r.1.2.2,.int .i64 r.2.1,.int .i64 r.2.2.1,.int .u8 r.2.2.2]:=by
 obtain⟨f0,f1,hu,h1,h2,h3,h4⟩:=tyG
 obtain⟨y0,y1,m,_,hl,g0,g1⟩:=trod_struct2 hu h
 rw[h1,h2,tyc82] at g0
 rw[h3,h4,tyc82] at g1
 rw[tycG] at hl
 obtain⟨r,r1,r2,r3,e⟩:=kN_ g0
 obtain⟨r',r1',r2',r3',e'⟩:=kN_ g1
 match cs,hl with
 |[a0,a1,a2,a3,a4,a5],_=>
  simp at e e'
  obtain⟨rfl,rfl,rfl⟩:=e
  obtain⟨rfl,rfl,rfl⟩:=e'
  exact⟨(r,r'),⟨⟨r1,r2,r3⟩,⟨r1',r2',r3'⟩⟩,rfl⟩
theorem loP_of{H:Type}{enc:TypeId×Value→H}{W:World}{base:Nat}{v:Value}{d:DataW H}{ps:List MemPlace}(hv:Value.okWide Tryz.prog W .any base 75 v)(h:DataW.Trod enc Tryz.prog W 0 (fun _=>true) true 75 v d ps):
    ∃x:LoR,(okLo x∧x.mo.length≤9223372036854775807)∧RV (fun _=>False) (fun _=>none) W (.agg (loC x)) v:=by
 obtain⟨cs,rfl,_⟩:∃cs,v= .agg cs∧True:=by
  unfold Value.okWide at hv
  rw[tyL] at hv
  obtain⟨cs,h1,_⟩:=hv
  exact⟨cs,h1,trivial⟩
 obtain⟨fuel,hf⟩:=h
 obtain⟨ys,m,_,_,hl,hlen,hg⟩:=DataW.trod_struct tyL hf
 rw[tycL] at hl
 have h0:(Value.agg cs).cells.toList=cs.toList:=by simp[Value.cells]
 rw[h0] at hg hl
 have hcs:cs=⟨cs.toList⟩:=rfl
 generalize cs.toList=l at *
 match l,hl,ys,hlen with
 |[c0,c1,c2,c3,c4,c5,c6,c7,c8,c9,c10,c11,c12,c13,c14,c15,c16,c17,c18],_,[y0,y1,y2,y3,y4,y5,y6,y7,y8,y9],_=>
  obtain⟨L,hL⟩:∃L,L=[c0,c1,c2,c3,c4,c5,c6,c7,c8,c9,c10,c11,c12,c13,c14,c15,c16,c17,c18]:=⟨_,rfl⟩
  rw[←hL] at hg
  have g0:DataW.trod enc Tryz.prog W 0 (fun _=>true) true m 5 ((L.drop 0).take ((Tryz.prog).cellsOf 5))=some y0:=hg 0 _ rfl
  have g1:DataW.trod enc Tryz.prog W 0 (fun _=>true) true m 25 ((L.drop 1).take ((Tryz.prog).cellsOf 25))=some y1:=hg 1 _ rfl
  have g2:DataW.trod enc Tryz.prog W 0 (fun _=>true) true m 3 ((L.drop 7).take ((Tryz.prog).cellsOf 3))=some y2:=hg 2 _ rfl
  have g3:DataW.trod enc Tryz.prog W 0 (fun _=>true) true m 3 ((L.drop 8).take ((Tryz.prog).cellsOf 3))=some y3:=hg 3 _ rfl
  have g4:DataW.trod enc Tryz.prog W 0 (fun _=>true) true m 3 ((L.drop 9).take ((Tryz.prog).cellsOf 3))=some y4:=hg 4 _ rfl
  have g5:DataW.trod enc Tryz.prog W 0 (fun _=>true) true m 26 ((L.drop 10).take ((Tryz.prog).cellsOf 26))=some y5:=hg 5 _ rfl
  have g6:DataW.trod enc Tryz.prog W 0 (fun _=>true) true m 4 ((L.drop 11).take ((Tryz.prog).cellsOf 4))=some y6:=hg 6 _ rfl
  have g7:DataW.trod enc Tryz.prog W 0 (fun _=>true) true m 4 ((L.drop 12).take ((Tryz.prog).cellsOf 4))=some y7:=hg 7 _ rfl
  have g8:DataW.trod enc Tryz.prog W 0 (fun _=>true) true m 23 ((L.drop 13).take ((Tryz.prog).cellsOf 23))=some y8:=hg 8 _ rfl
  have g9:DataW.trod enc Tryz.prog W 0 (fun _=>true) true m 23 ((L.drop 16).take ((Tryz.prog).cellsOf 23))=some y9:=hg 9 _ rfl
  rw[tyc5] at g0
  rw[tycG] at g1
  rw[tyc3] at g2 g3 g4
  rw[tycS] at g5
  rw[tycb] at g6 g7
  rw[tyc82] at g8 g9
  subst hL
  simp only[List.drop,List.take] at g0 g1 g2 g3 g4 g5 g6 g7 g8 g9
  obtain⟨n0,e0,_,w0⟩:=DataW.trod_int tyu5 g0
  obtain⟨r,hr,e1⟩:=gap_of g1
  obtain⟨n2,e2,_,w2⟩:=DataW.trod_int tyu3 g2
  obtain⟨n3,e3,_,w3⟩:=DataW.trod_int tyu3 g3
  obtain⟨n4,e4,_,w4⟩:=DataW.trod_int tyu3 g4
  obtain⟨b6,e6,_⟩:=DataW.trod_bool tyub g6
  obtain⟨b7,e7,_⟩:=DataW.trod_bool tyub g7
  obtain⟨r8,r81,r82,r83,e8⟩:=kN_ g8
  obtain⟨r9,r91,r92,r93,e9⟩:=kN_ g9
  have hsl:∃a len cap,c10= .slice a len cap:=by
   rcases open_slice tyS g5 with⟨e5,_⟩|⟨a,len,cap,_,_,_,_,e5,_⟩
   simp at e5;exact⟨_,_,_,e5⟩
   simp at e5;exact⟨_,_,_,e5⟩
  obtain⟨a,len,cap,rfl⟩:=hsl
  have hT:DataW.Trod enc Tryz.prog W 0 (fun _=>true) true 26 (.slice a len cap) y5.1 y5.2:=⟨m,by simpa[Value.cells] using g5⟩
  obtain⟨mo,hmo,hrv⟩:=o8_ hT
  have hml:mo.length≤9223372036854775807:=by
   obtain⟨a',cap',e',hle,hcap,_⟩:=hrv
   have:(nR mo).length=mo.length:=by simp[nR]
   have hm:maxLen=9223372036854775807:=by decide
   omega
  simp at e0 e1 e2 e3 e4 e6 e7 e8 e9
  obtain⟨rfl,rfl,rfl,rfl,rfl,rfl⟩:=e1
  obtain⟨rfl,rfl,rfl⟩:=e8
  obtain⟨rfl,rfl,rfl⟩:=e9
  subst e0;subst e2;subst e3;subst e4;subst e6;subst e7
  have b:=bounds_u8 w0
  refine⟨⟨n0.toNat,r,n2,n3,n4,mo,b6,b7,r8,r9⟩,⟨⟨by show n0.toNat≤255;omega,hr,bounds_i64 w2,bounds_i64 w3,bounds_i64 w4,hmo,⟨r81,r82,r83⟩,⟨r91,r92,r93⟩⟩,hml⟩,cs,rfl,?_⟩
  rw[hcs]
  refine⟨_,_,rfl,?_,?_⟩
  show _=Value.int .u8 ((n0.toNat:Nat):Int)
  rw[Int.toNat_of_nonneg b.1]
  exact⟨_,_,rfl,rfl,_,_,rfl,rfl,_,_,rfl,rfl,_,_,rfl,rfl,_,_,rfl,rfl,_,_,rfl,rfl,_,_,rfl,rfl,_,_,rfl,rfl,_,_,rfl,rfl,_,_,rfl,hrv,_,_,rfl,rfl,_,_,rfl,rfl,_,_,rfl,rfl,_,_,rfl,rfl,_,_,rfl,rfl,_,_,rfl,rfl,_,_,rfl,rfl,_,_,rfl,rfl,rfl⟩
end Go.Proofs.YtdjfjpeoddmamaaGreatDoor
namespace Go.Proofs.YtdjfjpeoddmamaaGreatDoor
open Go
def mkF(P:Program)(fn:Func)(c:OpenClaim):Bool:=(P.make==some c.make) && (c.kinds==(if c.domain.isEmpty then [] else fn.params.toList.map fun t=>match P.underlying t with|some (.int k)=>some k|_=>none)) && (c.pinned==c.pinnedBy)
section
variable {P:Program}{f:FuncId}{fn:Func}{s:ChangeSpec}{c:OpenClaim}
theorem pC_ (h1:c.wf (OpenSpec.ofChange s)=true) (h2:laidOutB P=true) (h3:mapsRowed P=true)
    (h4:fn.params.all (P.readableRec ·)=true) (h5:namedTie P c.named s.vars=true)
    (h6:((c.stops==[]) && (P.stops==[]) && (c.knobs==[]) && (P.stopKnobs==[]))=true)
    (h7:(c.inPlace==P.inPlace f)=true) (h8:(c.unfollowed==P.unfollowed f)=true) (h9:(c.recurses==P.recurses f)=true) (h10:(c.named==P.varsNamed f)=true)
    (h11:((c.maps==(fn.params.toList++s.plain.varTypes P).any (P.mapsRec ·)) && (c.ifaces==(fn.params.toList++s.plain.varTypes P).any (P.ifacesRec ·)) && (c.mapsOut==P.mapsAmong fn.resultTypes.toList))=true)
    (h12:((c.loops==(fn.params.toList++s.plain.varTypes P).any (P.loopsFrom ·)) && (c.wideKeys==(fn.params.toList++s.plain.varTypes P++fn.resultTypes.toList).any (P.wideKeysFrom ·)))=true)
    (h13:(s.vars.all (P.varReadable ·) && fn.resultTypes.all (fun t=>P.readableRec t && decide (t< P.types.size)) && (c.ifacesOut==fn.resultTypes.toList.any (P.ifacesRec ·)) && (c.loopsOut==fn.resultTypes.toList.any (P.loopsFrom ·)) && (c.plainKeys==P.plainKeys) && c.shortTexts.isNone)=true)
    (h14:P.stopsHeard=true) (h15:P.mayEnter=true) (h16:(c.lifted==P.liftsFinal)=true)
    (h17:mkF P fn c=true)
    (h18:((c.veiled==(fn.params.toList++s.plain.varTypes P++fn.resultTypes.toList).any (P.veiledRec ·)) && c.veiledFits P fn.params.toList (fn.params.toList++s.plain.varTypes P++fn.resultTypes.toList))=true):
    joinedFacts P f fn s c=true:=by
 unfold mkF at h17
 simp only[Bool.and_eq_true] at h6 h11 h12 h13 h17 h18
 simp only[joinedFacts,Bool.and_eq_true]
 and_intros
 all_goals first|assumption|exact h6.1.1.1|exact h6.1.1.2|exact h6.1.2|exact h6.2|exact h11.1.1|exact h11.1.2|exact h11.2|exact h12.1|exact h12.2|exact h13.1.1.1.1.1|exact h13.1.1.1.1.2|exact h13.1.1.1.2|exact h13.1.1.2|exact h13.1.2|exact h13.2|exact h17.1.1|exact h17.1.2|exact h17.2|exact h18.1|exact h18.2
end
theorem qR_:laidOutB Tryz.prog=true:=by kernel_rfl
theorem all_mr:mapsRowed Tryz.prog=true:=by kernel_rfl
theorem all_sh:Tryz.prog.stopsHeard=true:=by kernel_rfl
theorem all_me:Tryz.prog.mayEnter=true:=by kernel_rfl
theorem all_lk:false=Tryz.prog.looks []:=by kernel_rfl
theorem all_mi:Tryz.prog.mainIs=some (true,("854b0172178e1658f68fdbd1af1c5e470e78f85c99764663bd0791e63856cf6f" :String).toList):=by kernel_rfl
theorem all_lf:Tryz.prog.liftsFinal=Rows.polyMembersRow.lifted:=by kernel_rfl
theorem ir_:Rows.ruleWeightsRow.wf (OpenSpec.ofChange Rows.ruleWeightsSpec)=true:=by kernel_rfl
theorem ix_:Tryz.f4.params.all (Tryz.prog.readableRec ·)=true:=by kernel_rfl
theorem iz_:namedTie Tryz.prog Rows.ruleWeightsRow.named Rows.ruleWeightsSpec.vars=true:=by kernel_rfl
theorem iw_:((Rows.ruleWeightsRow.stops==[]) && (Tryz.prog.stops==[]) && (Rows.ruleWeightsRow.knobs==[]) && (Tryz.prog.stopKnobs==[]))=true:=by kernel_rfl
theorem iF_:(Rows.ruleWeightsRow.inPlace==Tryz.prog.inPlace 4)=true:=by kernel_rfl
theorem iv_:(Rows.ruleWeightsRow.unfollowed==Tryz.prog.unfollowed 4)=true:=by kernel_rfl
theorem iy_:(Rows.ruleWeightsRow.recurses==Tryz.prog.recurses 4)=true:=by kernel_rfl
theorem it_:(Rows.ruleWeightsRow.named==Tryz.prog.varsNamed 4)=true:=by kernel_rfl
theorem iA_:((Rows.ruleWeightsRow.maps==(Tryz.f4.params.toList++Rows.ruleWeightsSpec.plain.varTypes Tryz.prog).any (Tryz.prog.mapsRec ·)) && (Rows.ruleWeightsRow.ifaces==(Tryz.f4.params.toList++Rows.ruleWeightsSpec.plain.varTypes Tryz.prog).any (Tryz.prog.ifacesRec ·)) && (Rows.ruleWeightsRow.mapsOut==Tryz.prog.mapsAmong Tryz.f4.resultTypes.toList))=true:=by kernel_rfl
theorem iC_:((Rows.ruleWeightsRow.loops==(Tryz.f4.params.toList++Rows.ruleWeightsSpec.plain.varTypes Tryz.prog).any (Tryz.prog.loopsFrom ·)) && (Rows.ruleWeightsRow.wideKeys==(Tryz.f4.params.toList++Rows.ruleWeightsSpec.plain.varTypes Tryz.prog++Tryz.f4.resultTypes.toList).any (Tryz.prog.wideKeysFrom ·)))=true:=by kernel_rfl
theorem is_:(Rows.ruleWeightsSpec.vars.all (Tryz.prog.varReadable ·) && Tryz.f4.resultTypes.all (fun t=>Tryz.prog.readableRec t && decide (t< Tryz.prog.types.size)) && (Rows.ruleWeightsRow.ifacesOut==Tryz.f4.resultTypes.toList.any (Tryz.prog.ifacesRec ·)) && (Rows.ruleWeightsRow.loopsOut==Tryz.f4.resultTypes.toList.any (Tryz.prog.loopsFrom ·)) && (Rows.ruleWeightsRow.plainKeys==Tryz.prog.plainKeys) && Rows.ruleWeightsRow.shortTexts.isNone)=true:=by kernel_rfl
theorem iu_:((Rows.ruleWeightsRow.veiled==(Tryz.f4.params.toList++Rows.ruleWeightsSpec.plain.varTypes Tryz.prog++Tryz.f4.resultTypes.toList).any (Tryz.prog.veiledRec ·)) && Rows.ruleWeightsRow.veiledFits Tryz.prog Tryz.f4.params.toList (Tryz.f4.params.toList++Rows.ruleWeightsSpec.plain.varTypes Tryz.prog++Tryz.f4.resultTypes.toList))=true:=by kernel_rfl
theorem ip_:Rows.ruleWeightsRow.wfByText (OpenSpec.ofChange Rows.ruleWeightsSpec)=true:=by kernel_rfl
theorem iG_:false=Rows.ruleWeightsRow.goesBy Tryz.prog:=by kernel_rfl
theorem ruleWeights_fn:Tryz.prog.funcNamed Rows.ruleWeightsRow.func=some 4:=by kernel_rfl
theorem iE_:decide (Tryz.f4.isInstance Tryz.prog Rows.ruleWeightsRow.origin Rows.ruleWeightsRow.targs)=true:=by kernel_rfl
theorem iq_:(Tryz.f4.params.toList.all fun u=>!Tryz.prog.wantsStandIn u)=true:=by kernel_rfl
theorem iB_:mkF Tryz.prog Tryz.f4 Rows.ruleWeightsRow=true:=by kernel_rfl
theorem iD_:(Rows.ruleWeightsRow.lifted==Tryz.prog.liftsFinal)=true:=by rw[all_lf];kernel_rfl
theorem fL_:joinedFacts Tryz.prog 4 Tryz.f4 Rows.ruleWeightsSpec Rows.ruleWeightsRow=true:=
 pC_ ir_ qR_ all_mr ix_ iz_ iw_ iF_ iv_ iy_ it_ iA_ iC_ is_ all_sh all_me iD_ iB_ iu_
theorem gP_:Tryz.f4.isWrapper Tryz.prog Rows.ruleWeightsRow.wrapper Rows.ruleWeightsRow.mainSum:=by
 unfold Func.isWrapper;first|(rw[if_pos (by decide+kernel)];kernel_rfl)|(rw[if_neg (by decide+kernel)];exact⟨rfl,rfl⟩)
end Go.Proofs.YtdjfjpeoddmamaaGreatDoor
namespace Go.Proofs.YtdjfjpeoddmamaaGreatDoor
open Go.Abs Go.RowKit
theorem tab_of{n1 n2:String}{a b:DataW Unit}{W:World}(h:laidMet Tryz.prog [(n1,a),(n2,b),("internal/strconv.uint64pow10",Lib.tabData .u64 Lib.pow10Tab)] W):TabW W:=by
 obtain⟨ps,⟨g1,t1,c1,u1,p1,q1,_,_,_,_,⟨g2,t2,c2,u2,p2,q2,_,_,_,_,⟨g,t,cs,fuel,p,q,hg,ht,hv,hd,_,_⟩,_⟩,_⟩,_,_⟩:=h
 obtain rfl:=Option.some.inj (tab_glob.symm.trans hg)
 have hT:((Tryz.prog).globals[GT]?).map (·.type)=some 351:=by kernel_rfl
 have hu:(Tryz.prog).underlying 351=some (.array 20 235):=by kernel_rfl
 have he:(Tryz.prog).underlying 235=some (.int .u64):=by kernel_rfl
 have hce:(Tryz.prog).cellsOf 235=1:=by kernel_rfl
 have hct:(Tryz.prog).cellsOf 351=20:=by kernel_rfl
 obtain rfl:=Option.some.inj (hT.symm.trans ht)
 have hc:=Lib.cells_of_tab (zs:=Lib.pow10Tab) hu he hce hct hd
 unfold World.var? at hv
 rw[tab_glob] at hv
 have hv':(match W.heap[GT]? with|some (.cells cs _ _)=>some cs|_=>none)=some cs:=hv
 cases hh:W.heap[GT]? with
 |none=>rw[hh] at hv';cases hv'
 |some o=>
  rw[hh] at hv'
  cases o with
  |cells a b c=>
   obtain rfl:a=cs:=Option.some.inj hv'
   refine⟨b,c,?_⟩
   rw[hh]
   have:a=tabA:=by
    unfold tabA
    rw[←hc]
   rw[this]
  |_=>cases hv'
end Go.Proofs.YtdjfjpeoddmamaaGreatDoor
namespace Go.Proofs.YtdjfjpeoddmamaaGreatDoor
open Go.Abs Go.ChangeAt Go.ChangeShapes Go.RowKit Go.WideShapes
theorem own:ownKnob Tryz.prog.godebug=none:=by kernel_rfl
theorem und4:Tryz.prog.underlying 4=some .bool:=by kernel_rfl
abbrev laid3:List (String×DataW Unit):=Rows.ruleWeightsRow.laid
theorem door_met(os:Os)(args:Array Value):laidMetH Tryz.prog laid3 ((World.doorLaid Tryz.prog 24 os).forCall (fun _ _=>0) ⟨#[],args,[]⟩).memory:=
 laidMetH_of_parts3 (fuel:=8) (laidMet_of_run' 8 (by kernel_rfl) (by kernel_rfl)) (by kernel_rfl) (by kernel_rfl)
set_option maxRecDepth 100000 in
theorem fK_(os:Os)(started:os.Started)(H:Type)(enc:TypeId×Value→H):
    ReturnsInHanded {} Tryz.checked os 4 .any (fun w args=>(Rows.ruleWeightsSpec.pre enc Tryz.prog Tryz.f4 [] false w args∧laidMetH Tryz.prog laid3 w)∧sizedMet enc Tryz.prog Tryz.f4 (OpenSpec.ofChange Rows.ruleWeightsSpec) false w args)
     (Rows.ruleWeightsSpec.post enc Tryz.prog Tryz.f4 false true false false):=by
 refine returnsInHanded_of_change_and (C:=Tryz.checked) (X:=fun w _=>laidMetH Tryz.prog laid3 w) (fun _ _ _ hh h=>h.of_heap hh) own started (by kernel_rfl) Tryz.func4
  (ChangeSpec.witness_shaped (enc:=enc) (C:=Tryz.checked) (os:=os) (X:=fun w _=>laidMetH Tryz.prog laid3 w) false (World.doorLaid Tryz.prog 24 os) #[(.agg #[.int .u8 0,.int .i64 0,.int .i64 0,.int .u8 0,.int .i64 0,.int .i64 0,.int .u8 0,.int .i64 0,.int .i64 0,.int .i64 0,.slice none 0 0,.bool false,.bool false,.int .i64 0,.int .i64 0,.int .u8 0,.int .i64 0,.int .i64 0,.int .u8 0]),.slice none 0 0] 8 rfl (World.shaped_of_RefB (by kernel_rfl) (by kernel_rfl)) (by kernel_rfl) (by kernel_rfl) (by kernel_rfl) (door_met os _)) ?_
 intro W base args ds gs before hval0 hW _ _ hX _
 have hval:∀(j:Nat) t v,Tryz.f4.params[j]?=some t→args[j]?=some v→Value.okWide Tryz.prog W .any base t v:=hval0
 have hW':=hW
 obtain⟨p,q,hA0,hV,rfl,hfz,hnd⟩:=hW
 have hA:DataW.TrodAll enc Tryz.prog W 0 (fun _=>true) true Tryz.f4.params.toList args.toList ds p:=hA0
 rw[Tryz.params4] at hA hval
 obtain⟨v0,vs0,d0,ds0,p0,q0,hargs,rfl,rfl,h0,r0⟩:=trodAll_cons hA
 obtain⟨v1,vs1,d1,ds1,p1,q1,rfl,rfl,rfl,h1,r1⟩:=trodAll_cons r0
 obtain⟨rfl,rfl,rfl⟩:=trodAll_nil r1
 obtain rfl:args= #[v0,v1]:=by cases args;simp_all
 obtain⟨rfl,rfl⟩:=trodVars_none hV
 obtain⟨a1,len1,cap1,rfl⟩:=okWide_slice tyS (hval 1 26 v1 rfl rfl)
 have lt0:∀x∈p0,x.block< W.heap.size:=by obtain⟨m,hm⟩:=h0;exact DataW.trod_lt m _ _ _ hm
 have lt1:∀x∈p1,x.block< W.heap.size:=by obtain⟨m,hm⟩:=h1;exact DataW.trod_lt m _ _ _ hm
 obtain⟨l0,o0,g0⟩:=loP_of (hval 0 75 v0 rfl rfl) h0
 obtain⟨l1,o1,g1⟩:=o8_ h1
 clear hA0 hval0
 refine((iH_ l0 l1 o0.1 o0.2 o1).calls (fun _=>False) W [v0,.slice a1 len1 cap1] ⟨fun _ h=>h.elim,fun h=>h,tab_of (by rw[MakeChecks.laidMetH_plain _ _ _ (by kernel_rfl)] at hX;exact hX)⟩ ⟨_,_,rfl,g0,⟨_,_,rfl,g1,rfl⟩⟩).mono fun e W' ⟨y,he,hy,bel⟩=>?_
 have hy':y= .bool true:=hy
 subst he;subst hy'
 exact⟨_,rfl,_,_,_,[],_,[],hW',trodAll_mk1 (shut_bool und4 _),(trodAll_cons_mk (Below.trod qR_ (by kernel_rfl) (of_decide_eq_true (by kernel_rfl)) h0 bel lt0) (trodAll_cons_mk (Below.trod qR_ (by kernel_rfl) (of_decide_eq_true (by kernel_rfl)) h1 bel lt1) trodAll_mk0)),rfl,bel.frame _,fun h=>by cases h⟩
theorem hp_:Rows.RuleWeightsSaid:=
 OpenClaim.holds_of_wide 4 Tryz.f4 rfl rfl rfl rfl rfl rfl rfl ⟨rfl,rfl,rfl,rfl,rfl⟩ rfl rfl rfl rfl rfl ruleWeights_fn Tryz.func4 fL_
  (of_decide_eq_true iE_) gP_
  (fun os started H enc _=>fK_ os started H enc)
theorem ruleWeights_card:Rows.RuleWeightsCardSaid:=
 Claim7.holds_tied_plain_at .later [] [.data,.data,.data] true (true, "854b0172178e1658f68fdbd1af1c5e470e78f85c99764663bd0791e63856cf6f") false
  hp_ (fun _ h=>by cases h) ip_ (fun _ h=>by cases h) ruleWeights_row_tie rfl ⟨rfl,rfl⟩ all_mi rfl
  (fun f fn hf hfn=>by
   obtain rfl:f=4:=Option.some.inj (ruleWeights_fn.symm.trans hf)|>.symm
   obtain rfl:fn=Tryz.f4:=(Option.some.inj (Tryz.func4.symm.trans hfn)).symm
   exact⟨all_lk,fun j t ht=>by
    have hm:t∈Tryz.f4.params.toList:=by simpa using Array.mem_of_getElem? ht
    exact(show Tryz.prog.wantsStandIn t=false by simpa using List.all_eq_true.1 iq_ t hm)⟩)
  iG_
#print axioms ruleWeights_card
end Go.Proofs.YtdjfjpeoddmamaaGreatDoor
