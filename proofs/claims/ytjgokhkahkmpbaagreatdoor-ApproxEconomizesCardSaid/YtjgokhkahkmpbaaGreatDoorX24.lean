/- Part X24 of the proof. -/
import Derived.Test.YtjgokhkahkmpbaaGreatDoorX23
import Derived.Shelf.Strconv.Itoa3
import Derived.Shelf.Strings.Repeat
set_option linter.all false
namespace Go.Proofs.YtjgokhkahkmpbaaGreatDoor
open Go.Abs
set_option maxRecDepth 20000
set_option maxHeartbeats 8000000
section
variable {l:Lq}{i:Nat}
def rvF(l:Lq)(i t:Nat):Rat:=if t< i∨l.length≤t+i then coP l (l.length- 1- t) else coP l t
def rvL(l:Lq)(i:Nat):Lq:=bR l.length (rvF l i)
theorem nY(l:Lq)(i:Nat):(rvL l i).length=l.length:=by simp[rvL,bR]
theorem B7{a b:Nat→Rat}(h:∀t,t< l.length→a t=b t):bR l.length a=bR l.length b:=by
 unfold bR;exact List.map_congr_left fun t ht=>h t (List.mem_range.1 ht)
theorem tab_co(l:Lq):bR l.length (fun t=>coP l t)=l:=by
 refine List.ext_getElem (by simp[bR]) fun i h1 h2=>?_;simp only[bR,List.getElem_map,List.getElem_range];unfold coP;rw[List.getD_eq_getElem?_getD,List.getElem?_eq_getElem h2];rfl
theorem rvL_0(l:Lq):rvL l 0=l:=by
 have:rvL l 0=bR l.length fun t=>coP l t:=B7 fun t ht=>by unfold rvF;rw[if_neg (by omega)]
 rw[this,tab_co]
theorem rvL_end(h:l.length≤2* i+1):rvL l i=l.reverse:=by
 have h1:rvL l i=bR l.length fun t=>coP l (l.length- 1- t):=B7 fun t ht=>by
  unfold rvF;by_cases g:t< i∨l.length≤t+i;rw[if_pos g];rw[if_neg g,show l.length- 1- t=t by omega]
 rw[h1];refine List.ext_getElem (by simp[bR]) fun j h1 h2=>?_;simp only[bR,List.getElem_map,List.getElem_range,List.getElem_reverse];simp only[List.length_reverse] at h2;unfold coP;rw[List.getD_eq_getElem?_getD,List.getElem?_eq_getElem (by omega)];rfl
theorem B6{t:Nat}(ht:t< l.length):∀e,e=t→(pE (rvL l i))[e]?=some (qC (rvF l i t)):=vI (rvF l i) ht
theorem rvL_set(h:2* i+1< l.length):((rvL l i).set i (coP l (l.length- 1- i))).set (l.length- 1- i) (coP l i)=rvL l (i+1):=by
 refine List.ext_getElem (by simp[rvL,bR]) fun t h1 h2=>?_;rw[nY] at h2;rw[List.getElem_set,List.getElem_set];simp only[rvL,bR,List.getElem_map,List.getElem_range];unfold rvF;by_cases e1:l.length- 1- i=t;rw[if_pos e1,if_pos (by omega),←e1,show l.length- 1- (l.length- 1- i)=i by omega];rw[if_neg e1];by_cases e2:i=t;rw[if_pos e2,if_pos (by omega),←e2];rw[if_neg e2];by_cases g:t< i∨l.length≤t+i;rw[if_pos g,if_pos (by omega)];rw[if_neg g,if_neg (by omega)]
def rvS(l:Lq):Nat→AState
 |i=>⟨[(0,.lsl 0 0 l.length none 3),(2,i64 i),(3,i64 ((l.length:Int)- 1- (i:Int)))],[(0,some ⟨42,3,pE (rvL l i)⟩)],1,28⟩
theorem Bj(l:Lq)(n:Nat)(hn:l.length=n)(hl:l.length≤1000):ESpec Tryz.prog 90 42 3 (pE l) (pE l.reverse) 0 n none [] (.tuple #[]):=by
 subst hn;have hll:(pE l).length=l.length:=by simp[pE]
 refine ESpec.enter Tryz.func90 rfl (by kernel_rfl) rfl rfl rfl ?_ ?_ ?_ rfl ?_;exact ai;exact aL l;exact aL _;refine r_z 5 ?_;refine am (aC (rvS l) (fun i=>l.length- i) (fun i=>2* i≤l.length+1) 0 (Nat.zero_le _) ?_ ?_);rw[rvS.eq_1,rvL_0];refine s_x [] (fun hs=>?_) (fun hs=>?_)
 ·repeat' (first|exact aH|refine ao rfl ?_ ?_|(refine Cv.loE hs ?_ (ag _);simp[i64];done)|exact aY)
 ·repeat' (first|exact aD|refine h_c ?_ ?_|exact bG|refine aw ?_|exact ax|refine af ?_ ?_|(refine Cv.loE hs ?_ (ag _);simp[i64];done)|exact aY)
 intro i hi;rw[rvS.eq_1];have hrl:=nY l i;by_cases hlt:2* i+1< l.length;have hgi:=B6 (l:=l) (i:=i) (t:=i) (by omega);have hgj:=B6 (l:=l) (i:=i) (t:=l.length- 1- i) (by omega);have e1:rvF l i i=coP l i:=by unfold rvF;rw[if_neg (by omega)]
 have e2:rvF l i (l.length- 1- i)=coP l (l.length- 1- i):=by unfold rvF;rw[if_neg (by omega)]
 rw[e1] at hgi;rw[e2] at hgj
 have hgj2:∀e e',e=i→e'=l.length- 1- i→((pE (rvL l i)).set e (qC (coP l (l.length- 1- i))))[e']?=some (qC (coP l (l.length- 1- i))):=fun e e' he he'=>by
  rw[List.getElem?_set_ne (by omega)];exact hgj _ he'
 have hst:∀e e',e=i→e'=l.length- 1- i→((pE (rvL l i)).set e (qC (coP l (l.length- 1- i)))).set e' (qC (coP l i))=pE (rvL l (i+1)):=fun e e' he he'=>by
  rw[he,he',lc,lc,rvL_set hlt]
 have hl2:=nY l (i+1);refine ac (q_z 3 ?_);refine cT (ak (ac (am (r_d hmix 16 ?_))));refine a_7 ?_
 first|refine ay (.load_l rfl rfl (hgj _ (by omega)) TG.h TS.h (nle rfl)) rfl rfl ?_|refine ay (.load_a rfl (hgj _ (by omega)) TG.h TS.h (nle rfl)) rfl rfl ?_
 refine a_3 ?_
 first|refine ay (.load_l rfl rfl (hgi _ (by omega)) TG.h TS.h (nle rfl)) rfl rfl ?_|refine ay (.load_a rfl (hgi _ (by omega)) TG.h TS.h (nle rfl)) rfl rfl ?_
 refine a_1 ?_;refine fk (.store rfl rfl (hgi _ (by omega)) rfl rfl rfl TS.h (nle rfl)) ?_;refine a_1 ?_;refine fk (.store rfl rfl (hgj2 _ _ (by omega) (by omega)) rfl rfl rfl TS.h (nle rfl)) ?_;refine an (n_k ?_);refine r_m 6 ?_;refine a_z ?_;refine⟨i+1,by omega,by omega,?_⟩;rw[rvS.eq_1];refine s_x [] (fun hs=>?_) (fun hs=>?_) ?_
 ·repeat' (first|exact aH|refine ao rfl ?_ ?_|(refine Cv.loE hs ?_ (ag _);simp[i64];omega)|exact aY)
 ·repeat' (first|exact aD|refine h_c ?_ ?_|exact aM hs (hst _ _ (by omega) (by omega)) (aL _)|exact bG|refine aw ?_|exact ax|refine af ?_ ?_|(refine Cv.loE hs ?_ (ag _);simp[i64];omega)|exact aY)
 ·repeat' (first|exact ShrL.nil|refine ShrL.cons rfl rfl rfl rfl (by first|(simp[hrl,hl2])|rfl|(simp;done)|(simp <;> omega)) ?_)
 refine ac (q_z 3 ?_);refine cF (aA ?_);rw[rvL_end (by omega)];exact FinE.none (.inl rfl) rfl rfl
theorem se_boxG(d:Dt)(k:Int)(nv:Option Lq)(s:SeS):∀i B,3≤i→au (seH d k nv s++[(3,some ⟨42,3,[zC]⟩)]) i=some B→B.sz≠0∧∀e∈B.es,∀c∈e,Top (fun j=>j=0∨3≤j) c:=fun i B hi h=>by
 have hm:=dR h;unfold seH at hm;simp only[List.cons_append,List.nil_append,List.mem_cons,Prod.mk.injEq,List.not_mem_nil,or_false] at hm;rcases hm with⟨rfl,_⟩|⟨rfl,_⟩|⟨rfl,_⟩|⟨rfl,hB⟩
 omega;omega;omega;cases hB;refine⟨by simp,fun e he c hc=>?_⟩;rw[List.mem_singleton.1 he] at hc;exact .clo (bH c hc)
theorem se_mixG(d:Dt)(k:Int)(nv nv':Option Lq)(s s':SeS):∀i,au (seH d k nv' s'++[(3,some ⟨42,3,[zC]⟩)]) i=if i< 3 then au (seH d k nv' s') i else au (seH d k nv s++[(3,some ⟨42,3,[zC]⟩)]) i:=fun i=>by
 match i with
 |0=>rfl
 |1=>rfl
 |2=>rfl
 |3=>rfl
 |i+4=>
  rw[if_neg (by omega)];unfold seH;simp only[List.cons_append,List.nil_append];rw[cg (show 0≠i+4 by omega),cg (show 1≠i+4 by omega),cg (show 2≠i+4 by omega),cg (show 3≠i+4 by omega),cg (show 0≠i+4 by omega),cg (show 1≠i+4 by omega),cg (show 2≠i+4 by omega),cg (show 3≠i+4 by omega)]
theorem se_top0(d:Dt)(k:Int):∀i B,au (seH d k none ⟨[],0,false⟩) i=some B→B.sz≠0∧∀e∈B.es,∀c∈e,Top (fun j=>j< 3∧(au (seH d k none ⟨[],0,false⟩) j).isSome=true) c:=fun i B h=>by
 have hm:=dR h;unfold seH at hm;simp only[List.mem_cons,Prod.mk.injEq,List.not_mem_nil,or_false] at hm;rcases hm with⟨rfl,hB⟩|⟨rfl,hB⟩|⟨rfl,hB⟩
 cases hB;refine⟨by simp,fun e he c hc=> .clo ?_⟩;rw[List.mem_singleton.1 he] at hc;rcases List.mem_append.1 hc with hc|hc
 simp only[List.mem_cons,List.not_mem_nil,or_false] at hc;rcases hc with rfl|rfl|rfl|rfl|rfl|rfl
 exact ap _;exact ap _;exact ap _;exact ag _;exact aS;exact aS;exact gS _ c hc;cases hB;cases hB
theorem fs_Grid(f:Nat)(d:Dt)(n:Nat)(k:Int)(B:Lq)(E:Rat)(h:Dm d=true)(hs:smL d.X)(hn:n≤3)(hx:n+1≤d.X.length)(hM:ot f (wi k 256) (n+1) d [] ⟨[],0,false⟩=some ⟨B,E,true⟩)(hb:B.length≤1000):
    FS 29 [.agg (dC d),i64 n,i64 k] (.tup [.arr (pE (av B.reverse)),.agg (qC E),i64 0]):=by
 have hc:=pu d h hs;have hXs:=D9 f k (n+1) d none ⟨[],0,false⟩ ⟨B,E,true⟩ hM (fun _=>⟨rfl,by simp⟩);rw[show(none:Option Lq).getD []=[] from rfl,show(((n+1:Nat):Int)- 1)=(n:Int) by omega] at hXs;have hrv:=Bj B B.length rfl hb;have htr:=ea B.reverse (by simp;omega)
 have htr2:FS 21 [.arr (List.take B.length (List.drop 0 (pE B.reverse)))] (.arr (pE (av B.reverse))):=by
  rw[List.drop_zero,List.take_of_length_le (by simp)];exact htr
 have hxl:(pE d.X).length=d.X.length:=by simp[pE]
 refine f_n Tryz.func29 ?_ ?_;exact ae (aG (cN d)) (ae (ag _) (ae (ag _) ai));refine r_z 4 ?_;refine ac (r_c 3 (hc) ?_);refine a_z ?_;refine AWp.ent (st':=⟨[(1,i64 n),(2,i64 k),(3,bD d),(7,.lptr 1 0 0),(9,i64 0)],[(1,some ⟨42,3,[zC]⟩)],2,55⟩) ?_ ?_;have:=cN d;exact s_f [(1,7)];refine aI (fun _:Unit=>⟨[(1,i64 n),(2,i64 k),(3,bD d),(7,.lptr 1 0 0)],[(1,some ⟨42,3,[zC]⟩)],2,55⟩) (fun _=>True) ?_ ?_;refine am (s_r 3 ?_);refine a_1 ?_;refine o_0 (.bin rfl rfl (vF cv (rfl))) ?_;refine a_z ?_;refine cF (q_z 7 ?_);refine cF (q_z 7 ?_);refine cF (ak ⟨(),trivial,?_⟩);have:=bC d;exact s_f [];rintro _ _;refine r_z 5 ?_;refine AWp.pinned (st':=⟨[(1,i64 n),(7,.lptr 3 0 0),(10,.lptr 0 0 0)],[(0,some ⟨140,10,[seC d k none ⟨[],0,false⟩]⟩),(3,some ⟨42,3,[zC]⟩)],4,55⟩) ?_ ?_;refine SEntP.to [(0,10),(3,7)] rfl rfl (ShrL.cons rfl rfl rfl rfl rfl (ShrL.cons rfl rfl rfl rfl rfl ShrL.nil)) (fun hs=>ao rfl (ah hs (ag _)) (ao rfl (Cv.ptr rfl rfl rfl) (ao rfl (Cv.ptr rfl rfl rfl) aH))) (fun hs=>?_);refine bi rfl rfl rfl rfl (aw ?_) (bi rfl rfl rfl rfl (aw (CvL.clo hs bH)) aD);show CvL _ _ _ _ ([.arr (pE d.X),.arr (pE d.Y),.arr (pE d.W),i64 k,.emp,.emp]++(qC 0++[bln false]));rw[qC0];exact(af (ah hs (ap _)) (af (ah hs (ap _)) (af (ah hs (ap _)) (af (ah hs (ag _)) (af (ah hs aS) (af (ah hs aS) (af (Cv.emp _) (af (ah hs (ag _)) (af (Cv.emp _) (af (ah hs (ag _)) ax))))))))))
 refine ac (AWp.regF (fr2:=[(38,.lptr 0 0 0),(39,i64 n),(7,.lptr 3 0 0),(10,.lptr 0 0 0)]) (hp2:=seH d k none ⟨[],0,false⟩++[(3,some ⟨42,3,[zC]⟩)]) (nx2:=4) (k:=3) (hpc:=seH d k none ⟨[],0,false⟩) (hpd:=seH d k (some []) ⟨B,E,true⟩) (hp3:=seH d k (some []) ⟨B,E,true⟩++[(3,some ⟨42,3,[zC]⟩)]) (fr3:=[(7,.lptr 3 0 0),(10,.lptr 0 0 0)]) 2 rfl rfl rfl rfl rfl ?_ (fun d h=>by cases h;rfl) rfl rfl hXs (by decide) (Nat.le_refl _) ?_ ?_ (ry _ _ _ _) (se_top0 _ _) (se_boxG _ _ _ _) (se_mixG _ _ _ _ _ _) (ry _ _ _ _) rfl rfl ?_ ?_);refine o_0 (.move rfl) ?_;refine o_0 (.move rfl) ?_;refine an ?_;refine SEntT.to [] rfl rfl rfl (ShrL.cons rfl rfl rfl rfl rfl ⟨trivial,⟨trivial,ShrL.cons rfl rfl rfl rfl rfl ShrL.nil⟩⟩) (fun hs=>ao rfl (Cv.ptr rfl rfl rfl) (ao rfl (ah hs (ag _)) (ao rfl (Cv.ptr rfl rfl rfl) (ao rfl (Cv.ptr rfl rfl rfl) aH)))) (fun hs=>?_);exact bi rfl rfl rfl rfl (aw (af (ah hs (ap _)) (af (ah hs (ap _)) (af (ah hs (ap _)) (af (ah hs (ag _)) (af (ah hs aS) (af (ah hs aS) (CvL.clo hs (gS _))))))))) ⟨trivial,⟨trivial,bi rfl rfl rfl rfl (aw (CvL.clo hs bH)) aD⟩⟩;intro x hx;simp only[List.append_nil,List.mem_cons,List.not_mem_nil,or_false] at hx;rcases hx with rfl|rfl
 exact .ptr ⟨by decide,rfl⟩;exact .clo (ag _);intro i hi
 match i,hi with
 |0,_=>rfl
 |1,_=>rfl
 |2,_=>rfl
 intro t x hx;have hm:=look_mem' hx;simp only[List.mem_cons,Prod.mk.injEq,List.not_mem_nil,or_false] at hm;rcases hm with⟨rfl,rfl⟩|⟨rfl,rfl⟩
 exact⟨rfl,.ptr (.inr (Nat.le_refl _))⟩;exact⟨rfl,.ptr (.inl rfl)⟩;refine an ?_;refine s_r 5 ?_;refine a_4 ?_;refine o_1 (.callE2 rfl rfl rfl rfl rfl rfl (hrv)) ?_;refine an ?_;refine ac (r_d hmix 12 ?_);refine a_4 ?_;refine o_1 (.callS1 rfl rfl rfl (.shut rfl d_n (.nil)) rfl (htr2)) ?_;refine a_7 ?_;refine an (n_k ?_);refine AWp.ent (st':=⟨[(6,.arr (pE (av B.reverse))),(7,.lptr 3 0 0),(8,i64 0)],[(3,some ⟨42,3,[qC E]⟩)],4,55⟩) ?_ ?_;have:=aZ E;exact s_f [];refine aj ⟨rfl,?_⟩;refine Fin.many ⟨_,_,rfl,rfl,⟨_,_,rfl,⟨_,_,_,_,_,rfl,rfl,rfl,.inl ⟨TG.h,_,TS.h,nle rfl,rfl⟩⟩,⟨_,_,rfl,rfl,rfl⟩⟩⟩ (nle rfl) ?_;exact af (ah aB (ap _)) (af (ah aB (aO _)) (af (ah aB (ag _)) ax))
end
end Go.Proofs.YtjgokhkahkmpbaaGreatDoor
namespace Go.Proofs.YtjgokhkahkmpbaaGreatDoor
open Go.Shelf
def AC:Go.Shelf.Ren:=⟨fun|171=>96|243=>158|246=>210|283=>238|284=>239|285=>240|286=>241|129=>261|317=>260|318=>262|319=>263|320=>264|337=>280|338=>281|n=>n,fun|3=>3|9=>9|2=>2|4=>4|171=>269|0=>0|53=>173|37=>146|5=>5|173=>272|212=>293|51=>176|20=>20|213=>294|46=>253|232=>305|233=>306|n=>n,fun|17=>0|18=>2|19=>3|n=>n⟩
theorem lay171:Go.Proofs.LaysM.n171 Tryz.prog AC:={
 mixed:=by kernel_rfl,
 f129:=Tryz.func261.trans (congrArg some (by kernel_rfl)),
 f171:=Tryz.func96.trans (congrArg some (by kernel_rfl)),
 f243:=Tryz.func158.trans (congrArg some (by kernel_rfl)),
 f246:=Tryz.func210.trans (congrArg some (by kernel_rfl)),
 f283:=Tryz.func238.trans (congrArg some (by kernel_rfl)),
 f284:=Tryz.func239.trans (congrArg some (by kernel_rfl)),
 f285:=Tryz.func240.trans (congrArg some (by kernel_rfl)),
 f286:=Tryz.func241.trans (congrArg some (by kernel_rfl)),
 f317:=Tryz.func260.trans (congrArg some (by kernel_rfl)),
 f318:=Tryz.func262.trans (congrArg some (by kernel_rfl)),
 f319:=Tryz.func263.trans (congrArg some (by kernel_rfl)),
 f320:=Tryz.func264.trans (congrArg some (by kernel_rfl)),
 f337:=Tryz.func280.trans (congrArg some (by kernel_rfl)),
 f338:=Tryz.func281.trans (congrArg some (by kernel_rfl)),
 t0:=Tryz.underlying0,
 a0:=Tryz.isAgg0,
 z0:=Tryz.sizeOf0,
 v0:=Tryz.zeroValue0,
 t2:=Tryz.underlying2,
 a2:=Tryz.isAgg2,
 z2:=Tryz.sizeOf2,
 v2:=Tryz.zeroValue2,
 t3:=Tryz.underlying3,
 a3:=Tryz.isAgg3,
 z3:=Tryz.sizeOf3,
 v3:=Tryz.zeroValue3,
 t4:=Tryz.underlying4,
 a4:=Tryz.isAgg4,
 z4:=Tryz.sizeOf4,
 v4:=Tryz.zeroValue4,
 t5:=Tryz.underlying5,
 a5:=Tryz.isAgg5,
 z5:=Tryz.sizeOf5,
 v5:=Tryz.zeroValue5,
 t9:=Tryz.underlying9,
 a9:=Tryz.isAgg9,
 z9:=Tryz.sizeOf9,
 v9:=Tryz.zeroValue9,
 t20:=Tryz.underlying20,
 a20:=Tryz.isAgg20,
 z20:=Tryz.sizeOf20,
 v20:=Tryz.zeroValue20,
 t37:=Tryz.underlying146,
 a37:=Tryz.isAgg146,
 z37:=Tryz.sizeOf146,
 v37:=Tryz.zeroValue146,
 t46:=Tryz.underlying253,
 a46:=Tryz.isAgg253,
 z46:=Tryz.sizeOf253,
 v46:=Tryz.zeroValue253,
 t51:=Tryz.underlying176,
 a51:=Tryz.isAgg176,
 z51:=Tryz.sizeOf176,
 v51:=Tryz.zeroValue176,
 t53:=Tryz.underlying173,
 a53:=Tryz.isAgg173,
 z53:=Tryz.sizeOf173,
 v53:=Tryz.zeroValue173,
 t171:=Tryz.underlying269,
 a171:=Tryz.isAgg269,
 z171:=Tryz.sizeOf269,
 v171:=Tryz.zeroValue269,
 t173:=Tryz.underlying272,
 a173:=Tryz.isAgg272,
 z173:=Tryz.sizeOf272,
 v173:=Tryz.zeroValue272,
 t212:=Tryz.underlying293,
 a212:=Tryz.isAgg293,
 z212:=Tryz.sizeOf293,
 v212:=Tryz.zeroValue293,
 t213:=Tryz.underlying294,
 a213:=Tryz.isAgg294,
 z213:=Tryz.sizeOf294,
 t232:=Tryz.underlying305,
 a232:=Tryz.isAgg305,
 z232:=Tryz.sizeOf305,
 v232:=Tryz.zeroValue305,
 t233:=Tryz.underlying306,
 a233:=Tryz.isAgg306,
 z233:=Tryz.sizeOf306,
 v233:=Tryz.zeroValue306,
 g17:=by kernel_rfl,
 g18:=by kernel_rfl,
 g19:=by kernel_rfl,
 i0:=by kernel_rfl,
 i2:=by kernel_rfl,
 i3:=by kernel_rfl,
 i4:=by kernel_rfl,
 i5:=by kernel_rfl,
 i9:=by kernel_rfl,
 i20:=by kernel_rfl,
 i37:=by kernel_rfl,
 i46:=by kernel_rfl,
 i51:=by kernel_rfl,
 i53:=by kernel_rfl,
 i171:=by kernel_rfl,
 i173:=by kernel_rfl,
 i212:=by kernel_rfl,
 i232:=by kernel_rfl,
 i233:=by kernel_rfl,
 m17:=by kernel_rfl,
 m18:=by kernel_rfl,
 m19:=by kernel_rfl}
def tp:Go.Shelf.Ren:=⟨fun|105=>160|212=>212|99=>213|165=>214|166=>95|170=>94|169=>97|263=>242|264=>243|206=>244|240=>157|241=>245|276=>209|277=>265|n=>n,fun|9=>9|3=>3|4=>4|20=>20|0=>0|46=>253|109=>254|5=>5|72=>148|76=>151|51=>176|146=>274|53=>173|148=>276|70=>145|37=>146|75=>150|127=>199|164=>249|80=>91|n=>n,fun|n=>n⟩
theorem lay105:Go.Proofs.Lays.n105 Tryz.prog tp:={
 mixed:=by kernel_rfl,
 f99:=Tryz.func213.trans (congrArg some (by kernel_rfl)),
 f105:=Tryz.func160.trans (congrArg some (by kernel_rfl)),
 f165:=Tryz.func214.trans (congrArg some (by kernel_rfl)),
 f166:=Tryz.func95.trans (congrArg some (by kernel_rfl)),
 f169:=Tryz.func97.trans (congrArg some (by kernel_rfl)),
 f170:=Tryz.func94.trans (congrArg some (by kernel_rfl)),
 f206:=Tryz.func244.trans (congrArg some (by kernel_rfl)),
 f212:=Tryz.func212.trans (congrArg some (by kernel_rfl)),
 f240:=Tryz.func157.trans (congrArg some (by kernel_rfl)),
 f241:=Tryz.func245.trans (congrArg some (by kernel_rfl)),
 f263:=Tryz.func242.trans (congrArg some (by kernel_rfl)),
 f264:=Tryz.func243.trans (congrArg some (by kernel_rfl)),
 f276:=Tryz.func209.trans (congrArg some (by kernel_rfl)),
 f277:=Tryz.func265.trans (congrArg some (by kernel_rfl)),
 t0:=Tryz.underlying0,
 a0:=Tryz.isAgg0,
 z0:=Tryz.sizeOf0,
 v0:=Tryz.zeroValue0,
 t3:=Tryz.underlying3,
 a3:=Tryz.isAgg3,
 z3:=Tryz.sizeOf3,
 v3:=Tryz.zeroValue3,
 t4:=Tryz.underlying4,
 a4:=Tryz.isAgg4,
 z4:=Tryz.sizeOf4,
 v4:=Tryz.zeroValue4,
 t5:=Tryz.underlying5,
 a5:=Tryz.isAgg5,
 z5:=Tryz.sizeOf5,
 v5:=Tryz.zeroValue5,
 t9:=Tryz.underlying9,
 a9:=Tryz.isAgg9,
 z9:=Tryz.sizeOf9,
 v9:=Tryz.zeroValue9,
 t20:=Tryz.underlying20,
 a20:=Tryz.isAgg20,
 z20:=Tryz.sizeOf20,
 v20:=Tryz.zeroValue20,
 t37:=Tryz.underlying146,
 a37:=Tryz.isAgg146,
 z37:=Tryz.sizeOf146,
 v37:=Tryz.zeroValue146,
 t46:=Tryz.underlying253,
 a46:=Tryz.isAgg253,
 z46:=Tryz.sizeOf253,
 v46:=Tryz.zeroValue253,
 t51:=Tryz.underlying176,
 a51:=Tryz.isAgg176,
 z51:=Tryz.sizeOf176,
 v51:=Tryz.zeroValue176,
 t53:=Tryz.underlying173,
 a53:=Tryz.isAgg173,
 z53:=Tryz.sizeOf173,
 v53:=Tryz.zeroValue173,
 t70:=Tryz.underlying145,
 a70:=Tryz.isAgg145,
 z70:=Tryz.sizeOf145,
 v70:=Tryz.zeroValue145,
 t72:=Tryz.underlying148,
 a72:=Tryz.isAgg148,
 z72:=Tryz.sizeOf148,
 v72:=Tryz.zeroValue148,
 t75:=Tryz.underlying150,
 a75:=Tryz.isAgg150,
 z75:=Tryz.sizeOf150,
 v75:=Tryz.zeroValue150,
 t76:=Tryz.underlying151,
 a76:=Tryz.isAgg151,
 z76:=Tryz.sizeOf151,
 v76:=Tryz.zeroValue151,
 t109:=Tryz.underlying254,
 a109:=Tryz.isAgg254,
 z109:=Tryz.sizeOf254,
 v109:=Tryz.zeroValue254,
 t127:=Tryz.underlying199,
 a127:=Tryz.isAgg199,
 z127:=Tryz.sizeOf199,
 v127:=Tryz.zeroValue199,
 t146:=Tryz.underlying274,
 a146:=Tryz.isAgg274,
 z146:=Tryz.sizeOf274,
 v146:=Tryz.zeroValue274,
 t148:=Tryz.underlying276,
 a148:=Tryz.isAgg276,
 z148:=Tryz.sizeOf276,
 v148:=Tryz.zeroValue276,
 t164:=Tryz.underlying249,
 a164:=Tryz.isAgg249,
 z164:=Tryz.sizeOf249,
 v164:=Tryz.zeroValue249}
theorem ext105:Builder.Extra Tryz.prog tp:={
 sizeBuilder:=by kernel_rfl,
 liesBuilder:=by kernel_rfl,
 t5:=Tryz.underlying5,
 a5:=Tryz.isAgg5,
 z5:=Tryz.sizeOf5,
 v5:=Tryz.zeroValue5,
 infoByte:=by kernel_rfl,
 cellsByte:=by kernel_rfl,
 sizeByte:=by kernel_rfl,
 neB5:=by decide}
end Go.Proofs.YtjgokhkahkmpbaaGreatDoor
namespace Go.Proofs.YtjgokhkahkmpbaaGreatDoor
open Go.Abs Go.RowKit
theorem Eo:(Tryz.prog).globalNamed "internal/strconv.uint64pow10" =some GT:=by kernel_rfl
theorem tab_is{w:World}(h:TabW w):Lib.TabIs Tryz.prog w "internal/strconv.uint64pow10" .u64 Lib.pow10Tab:=by
 obtain⟨t,z,h⟩:=h;unfold Lib.TabIs World.var?;rw[Eo];show(match w.heap[GT]? with|some (.cells cs _ _)=>some cs|_=>none)=_;rw[h];rfl
theorem BB(w:World)(k:Nat)(os:Array Obj):Below w.heap.size w (Sort.grow (w.drewN k) os):=
 ⟨rfl,rfl,rfl,by show w.heap.size≤(w.heap++os).size;simp,fun i hi=>by show(w.heap++os)[i]?=_;rw[Array.getElem?_append_left hi]⟩
theorem FB(n:Nat)(h:n≤9223372036854775807):FS 96 [i64 n] (tx (Lib.decDigits n)):=by
 refine⟨ae (ag _) ai,(wI 0 (by decide)).enters,fun M w vals hM hargs=>?_⟩;obtain⟨x,xs,rfl,hx,hxs⟩:=hargs;have hx':x= .int .i64 n:=hx;have hxs':xs=[]:=hxs;subst hx';subst hxs';have hc:=Any.strconv_Itoa lay171 (n:Int) (by omega) (by omega) w (tab_is hM.tab);refine Calls.mono hc fun e w' ⟨he,k,os,hw⟩=>⟨_,he,?_,?_⟩;show Value.string _=Value.string _;unfold Lib.itoa;rw[if_neg (by omega),Int.toNat_natCast];rw[hw];exact BB w k os
theorem A6(z:UInt8)(n:Nat)(h:n≤100):FS 160 [tx [z],i64 n] (tx (List.replicate n z)):=by
 have en:∀(xs:Array Value) (w:World),(callFunc 160 xs).run Tryz.prog w= .ok (.enter 160 xs) w:=fun xs w=>qz Tryz.func160 (c:=(Tryz.f160).body.get rfl) (by kernel_rfl) rfl xs w;refine⟨ae (ag _) (ae (ag _) ai),en,fun M w vals hM hargs=>?_⟩;obtain⟨x,xs,rfl,hx,y,ys,rfl,hy,hxs⟩:=hargs;have hx':x= .string ⟨[z].toArray⟩:=hx;have hy':y= .int .i64 n:=hy;have hxs':ys=[]:=hxs;subst hx';subst hy';subst hxs';have hc:=Any.strings_Repeat lay105 ext105 ⟨[z].toArray⟩ n w (by omega) (by simp[ByteArray.size];omega);refine Calls.mono hc fun e w' ⟨he,hb⟩=>⟨_,he,?_,hb⟩;show Value.string _=Value.string _;congr 2
 have:∀k,Lib.repeatL [z] k=List.replicate k z:=fun k=>by
  induction k with
  |zero=>rfl
  |succ k ih=>rw[Lib.repeatL,ih,List.replicate_succ];rfl
 exact congrArg List.toArray (this n)
end Go.Proofs.YtjgokhkahkmpbaaGreatDoor
namespace Go.Proofs.YtjgokhkahkmpbaaGreatDoor
open Go.Abs
set_option maxRecDepth 20000
def Dh(n:Nat):List UInt8:=List.replicate (9- (Lib.decDigits n).length) 48++Lib.decDigits n
def txD:Ln→List UInt8
 |[]=>[]
 |x::xs=>Lib.decDigits x++xs.flatMap Dh
def mtx(m:Nat):List UInt8:=if m=0 then [48] else txD (az MB m).reverse
theorem xG{l:Ln}(h:l≠[])(x:Nat):txD (l++[x])=txD l++Dh x:=by
 cases l with
 |nil=>exact absurd rfl h
 |cons a l=>simp[txD]
theorem wn:∀k n,n< 10^ (k+1)→Lib.nDigits n≤k+1
 |0,n,h=>by rw[Lib.nDigits_small (by simpa using h)];omega
 |k+1,n,h=>by
  by_cases h1:n< 10;rw[Lib.nDigits_small h1];omega;rw[Lib.nDigits_big h1];have:n/ 10< 10^ (k+1):=by rw[Nat.pow_succ] at h;omega
  have:=wn k (n/ 10) this;omega
theorem w8{n:Nat}(h:n< 1000000000):(Lib.decDigits n).length≤9:=by
 rw[Lib.decDigits_length];exact wn 8 n h
theorem FU(n:Nat):Lib.decDigits n≠[]:=by
 intro e;have h1:=Lib.decDigits_length n;rw[e] at h1;have:=Lib.nDigits_pos n;simp at h1;omega
theorem EQ{n:Nat}(h:n< 1000000000):(Dh n).length=9:=by
 have:=w8 h;simp[Dh];omega
theorem txD_ne{l:Ln}(h:l≠[]):txD l≠[]:=by
 cases l with
 |nil=>exact absurd rfl h
 |cons a l=>intro e;exact FU a (List.append_eq_nil_iff.1 e).1
theorem BQ{l:Ln}(h:∀x∈l,x< 1000000000):(txD l).length≤9* l.length:=by
 cases l with
 |nil=>simp[txD]
 |cons a l=>
  have h1:=w8 (h a (List.mem_cons_self ..))
  have h2:∀l:Ln,(∀x∈l,x< 1000000000)→(l.flatMap Dh).length=9* l.length:=by
   intro l
   induction l with
   |nil=>intro _;rfl
   |cons b l ih=>
    intro h;rw[List.flatMap_cons,List.length_append,EQ (h b (List.mem_cons_self ..)),ih fun x hx=>h x (List.mem_cons_of_mem _ hx),List.length_cons];omega
  have h3:=h2 l fun x hx=>h x (List.mem_cons_of_mem _ hx);simp only[txD,List.length_append,List.length_cons];omega
def tf0(L:Ln):Unit→AState
 |u=>⟨[(1,.lptr 1 0 0),(3,.lptr 2 0 0),(11,.clos 211 [] [.aptr [[.arr (dE L)]] 0 0])],[(1,some ⟨38,1,[[.arr (dE L)]]⟩),(2,some ⟨148,2,[dI 2 0 none]⟩)],4,31⟩
def tf1(L:Ln):List UInt8→AState
 |q=>⟨[(1,.lptr 1 0 0),(3,.lptr 2 0 0),(11,.clos 211 [] [.aptr [[.arr (dE L)]] 0 0])],[(1,some ⟨38,1,[[.arr (dE L)]]⟩),(2,some ⟨148,2,[dI 2 3 (some q)]⟩),(3,some ⟨5,1,bE q⟩)],4,31⟩
def tfS(L:Ln):Nat→AState
 |0=>tf0 L ()
 |k+1=>tf1 L (txD (L.reverse.take (k+1)))
theorem vf(m:Nat)(h:bl m≤68719476736):FS 98 [.agg [mag m]] (tx (mtx m)):=by
 have hz:=jy m;refine f_c Tryz.func98 ?_;refine r_z 2 ?_;refine ac (r_c 2 (hz) ?_);refine an ?_;refine aq rfl (fun h1=>?_) (fun h1=>?_);have h2:m=0:=by simpa using h1
 subst h2;refine r_z 1 ?_;exact aj (t_e (ag _));have h2:m≠0:=by simpa using h1
 obtain⟨L,hL⟩:∃L,L=az MB m:=⟨_,rfl⟩;have hm:mag m= .arr (dE L):=by unfold mag;rw[hL]
 have hLl:L.length≤68719476736:=by
  rw[hL];exact Nat.le_trans (bu (b:=MB) (by decide) m) h
 have hLb:∀x∈L,x< 1000000000:=by rw[hL];exact dn (b:=MB) (by decide) m
 have hLn:L≠[]:=by rw[hL];exact fun e=>h2 ((fC (b:=MB) (by decide)).1 e)
 have hn1:=List.length_pos_iff.2 hLn;rw[show mtx m=txD L.reverse by unfold mtx;rw[if_neg h2,hL]];clear hz;rw[hm];refine ak ?_;have hcl:Closed (.aptr [[.arr (dE L)]] 0 0):=iB (fun e he c hc=>by simp at he;subst he;simp at hc;subst hc;exact cQ _);have hcl2:Closed (.clos 211 [] [.aptr [[.arr (dE L)]] 0 0]):=aV ai (ae hcl ai);have hdl:(dE L).length=L.length:=mX L;refine r_z 1 ?_;refine ac (r_c 3 (j0 L) ?_);refine an ?_;refine aI (fun _:Unit=>tf1 L (txD L.reverse)) (fun _=>True) ?_ ?_;refine am (AWp.rangeFunc (α:=Nat) (γ:=Empty) L.length (tfS L) (fun k=>k) (fun k=>k≤L.length) (fun e=>nomatch e) (fun _ e=>nomatch e) 0 rfl (jX L (by omega)) rfl rfl ?_ (fun k=>by cases k <;> exact⟨rfl,rfl⟩) (fun e=>nomatch e) (Nat.zero_le _) rfl (fun _ h=>h) ?_ ?_ ?_ ?_ (fun _ e=>nomatch e));intro k xs hT;unfold kN at hT;split at hT;cases hT;rfl;cases hT;show SEntT _ (tf0 L ());rw[tf0.eq_1];exact s_t [(1,1),(2,3)];exact ae hcl ai
 ·intro l k xs hk hT
  unfold kN at hT;split at hT;rotate_left;cases hT;rename_i hlt;cases hT;obtain⟨x,hx⟩:∃x,x=L.getD (L.length- 1- k) 0:=⟨_,rfl⟩
  have hgx:L[L.length- 1- k]?=some x:=by
   rw[hx,List.getD_eq_getElem?_getD,List.getElem?_eq_getElem (by omega)];rfl
  have hxb:x< 1000000000:=hLb x (List.mem_of_getElem? hgx)
  have htk:L.reverse.take (k+1)=L.reverse.take k++[x]:=by
   rw[List.take_add_one,List.getElem?_reverse (by omega),hgx];rfl
  have hit:=FB x (by omega);have hdl9:=w8 hxb;rw[←hx];cases k with
  |zero=>
   show AWp _ _ _ _ ⟨gV (tf0 L ()).fr _ _++dB (tf0 L ()).fr,_,_,_⟩;show AWp _ _ _ _ ⟨[(13,u32 x),(12,i64 ((L.length- 1- 0:Nat):Int)),(1,.lptr 1 0 0),(3,.lptr 2 0 0),(11,.clos 211 [] [.aptr [[.arr (dE L)]] 0 0]),(1001,.lptr 1 0 0),(1003,.lptr 2 0 0),(1011,.clos 211 [] [.aptr [[.arr (dE L)]] 0 0])],[(1,some ⟨38,1,[[.arr (dE L)]]⟩),(2,some ⟨148,2,[dI 2 0 none]⟩)],4,31⟩;refine r_z 1 ?_;refine r_m 1 ?_;refine a_z ?_;refine am (r_c 4 (hit) ?_);refine a_z ?_;refine ac (r_z 6 ?_);refine aq rfl (fun h3=>?_) (fun h3=>?_);exact absurd h3 (by simp;omega);refine ak (r_m 2 ?_);refine a_1 ?_;refine o_2 (.callB (s:=none) (j:=0) rfl rfl rfl rfl rfl rfl (fun _ h=>by cases h) (jq (Lib.decDigits x) (FU x) (by omega))) ?_;refine an ?_;refine⟨0+1,⟨by omega,rfl⟩,?_⟩;have e:txD (L.reverse.take (0+1))=Lib.decDigits x:=by rw[htk];simp[txD]
   show SEntT _ ⟨dB (tf1 L (txD (L.reverse.take (0+1)))).fr,(tf1 L (txD (L.reverse.take (0+1)))).hp,_,_⟩;rw[e];show SEntT _ ⟨[(1001,.lptr 1 0 0),(1003,.lptr 2 0 0),(1011,.clos 211 [] [.aptr [[.arr (dE L)]] 0 0])],[(1,some ⟨38,1,[[.arr (dE L)]]⟩),(2,some ⟨148,2,[dI 2 3 (some (Lib.decDigits x))]⟩),(3,some ⟨5,1,bE (Lib.decDigits x)⟩)],4,31⟩;refine SEntT.to2 [(3,100017)] rfl rfl rfl xt (fun hs=>?_) (fun hs=>?_)
   ·repeat' (first|exact aH|refine ao rfl ?_ ?_)
    all_goals (first|(exact ah hs hcl2)|exact aY)
   ·repeat' (first|exact aD|refine bi rfl rfl rfl rfl ?_ ?_)
    all_goals (first|exact bG|(refine aw ?_;repeat' (first|exact ax|refine af ?_ ?_)))
    all_goals (first|(exact ah hs hcl2)|exact aY)
  |succ k=>
   obtain⟨q,hq⟩:∃q,q=txD (L.reverse.take (k+1)):=⟨_,rfl⟩
   have hrn:L.reverse.take (k+1)≠[]:=by
    intro e;have:=congrArg List.length e;rw[List.length_take,List.length_reverse] at this;simp only[List.length_nil] at this;omega
   have hql:q.length≤9* L.length:=by
    have h3:=BQ (l:=L.reverse.take (k+1)) (fun y hy=>hLb y (List.mem_reverse.1 (List.mem_of_mem_take hy)));have h4:(L.reverse.take (k+1)).length≤L.length:=by simp;omega
    rw[hq];omega
   show AWp _ _ _ _ ⟨gV (tf1 L (txD (L.reverse.take (k+1)))).fr _ _++dB (tf1 L (txD (L.reverse.take (k+1)))).fr,(tf1 L (txD (L.reverse.take (k+1)))).hp,4,_⟩;rw[←hq];show AWp _ _ _ _ ⟨[(13,u32 x),(12,i64 ((L.length- 1- (k+1):Nat):Int)),(1,.lptr 1 0 0),(3,.lptr 2 0 0),(11,.clos 211 [] [.aptr [[.arr (dE L)]] 0 0]),(1001,.lptr 1 0 0),(1003,.lptr 2 0 0),(1011,.clos 211 [] [.aptr [[.arr (dE L)]] 0 0])],[(1,some ⟨38,1,[[.arr (dE L)]]⟩),(2,some ⟨148,2,[dI 2 3 (some q)]⟩),(3,some ⟨5,1,bE q⟩)],4,31⟩;refine r_z 1 ?_;refine r_m 1 ?_;refine a_z ?_;refine am (r_c 4 (hit) ?_);refine a_z ?_;refine ac (r_z 6 ?_);refine aq rfl (fun h3=>?_) (fun h3=>?_);rotate_left;exact absurd (of_decide_eq_false h3) (by omega);have e9:((9:Int)- ((⟨(Lib.decDigits x).toArray⟩:ByteArray).size:Int))=((9- (Lib.decDigits x).length:Nat):Int):=by rw[mG];omega
   have hrep:FS 160 [tx [48],.v (.int .i64 ((9:Int)- ((⟨(Lib.decDigits x).toArray⟩:ByteArray).size:Int)))] (tx (List.replicate (9- (Lib.decDigits x).length) 48)):=by
    rw[e9];exact A6 48 (9- (Lib.decDigits x).length) (by omega)
   refine r_m 5 ?_;refine o_0 (.move rfl) ?_;refine o_0 (.builtinV (vs:=[_]) rfl rfl (fun _ _ _=>rfl)) ?_;refine o_0 (.bin rfl rfl (iD (by rw[mG];omega))) ?_;refine c_s (hrep) ?_;refine o_3 (.callB (s:=some _) rfl rfl rfl rfl rfl rfl (fun _ h=>by cases h;exact⟨rfl,by decide⟩) (gx q (List.replicate (9- (Lib.decDigits x).length) 48) (by simp;omega))) ?_;refine an ?_;refine r_m 2 ?_;refine a_1 ?_;refine o_3 (.callB (s:=some _) rfl rfl rfl rfl rfl rfl (fun _ h=>by cases h;exact⟨rfl,by decide⟩) (gx (q++List.replicate (9- (Lib.decDigits x).length) 48) (Lib.decDigits x) (by simp;omega))) ?_;refine an ?_;refine⟨k+1+1,⟨by omega,rfl⟩,?_⟩
   have e:txD (L.reverse.take (k+1+1))=q++List.replicate (9- (Lib.decDigits x).length) 48++Lib.decDigits x:=by
    rw[htk,xG hrn,←hq,List.append_assoc];rfl
   show SEntT _ ⟨dB (tf1 L (txD (L.reverse.take (k+1+1)))).fr,(tf1 L (txD (L.reverse.take (k+1+1)))).hp,_,_⟩;rw[e];show SEntT _ ⟨[(1001,.lptr 1 0 0),(1003,.lptr 2 0 0),(1011,.clos 211 [] [.aptr [[.arr (dE L)]] 0 0])],[(1,some ⟨38,1,[[.arr (dE L)]]⟩),(2,some ⟨148,2,[dI 2 3 (some (q++List.replicate (9- (Lib.decDigits x).length) 48++Lib.decDigits x))]⟩),(3,some ⟨5,1,bE (q++List.replicate (9- (Lib.decDigits x).length) 48++Lib.decDigits x)⟩)],4,31⟩;refine SEntT.to2 [(3,100022)] rfl rfl rfl xt (fun hs=>?_) (fun hs=>?_)
   ·repeat' (first|exact aH|refine ao rfl ?_ ?_)
    all_goals (first|(exact ah hs hcl2)|exact aY)
   ·repeat' (first|exact aD|refine bi rfl rfl rfl rfl ?_ ?_)
    all_goals (first|exact bG|(refine aw ?_;repeat' (first|exact ax|refine af ?_ ?_)))
    all_goals (first|(exact ah hs hcl2)|exact aY)
 ·intro k hk hT
  unfold kN at hT;split at hT;cases hT
  have hk1:k=L.length:=by
   rename_i hn;omega
  subst hk1;obtain⟨j,hj⟩:∃j,L.length=j+1:=⟨L.length- 1,by omega⟩;refine⟨(),trivial,?_⟩;show SEnt (tfS L L.length) _;rw[hj];show SEnt (tf1 L (txD (L.reverse.take (j+1)))) _;rw[←hj,List.take_of_length_le (by simp)];exact SEnt.refl _
 rintro _ _;rw[tf1.eq_1];have hne:txD L.reverse≠[]:=txD_ne (by simpa using hLn);refine s_r 2 ?_;refine o_2 (.callD rfl rfl rfl rfl rfl rfl (by decide) (by first|assumption|simp) (qA)) ?_;refine a_z ?_;exact aj (t_e (ag _))
theorem Cq(m:Nat):(mtx m).length≤9* bl m+1:=by
 unfold mtx;split;simp;have h1:=BQ (l:=(az MB m).reverse) fun x hx=>dn (b:=MB) (by decide) m x (List.mem_reverse.1 hx);have h2:=bu (b:=MB) (by decide) m;rw[List.length_reverse] at h1;omega
def qtx(q:Rat):List UInt8:=((if q.num< 0 then [45] else [])++mtx q.num.natAbs)++(if q.den=1 then [] else 47::mtx q.den)
def quS(q:Rat):List UInt8→AState
 |l=>⟨[(1,.aptr [qC q] 0 0),(3,tx l)],[],2,24⟩
theorem DM(q:Rat)(h:qs q≤68719476736):FS 34 [.agg (qC q)] (tx (qtx q)):=by
 have hd1:=Cq q.num.natAbs;have hd2:=Cq q.den;have hden:1≤q.den:=q.den_pos;have hq1:=c9 q;have hq2:=c7 q;refine f_c Tryz.func34 ?_;refine r_z 2 ?_;refine AWp.ent (st':=⟨[(1,.aptr [qC q] 0 0)],[],2,24⟩) ?_ ?_;exact s_e [];refine r_c 5 (vf q.num.natAbs (Nat.le_trans (c9 q) h)) ?_;refine a_z ?_;refine aU (quS q) (fun l=>l=(if q.num< 0 then [45] else [])++mtx q.num.natAbs) ?_ ?_;refine r_z 3 ?_;refine aq rfl (fun h1=>?_) (fun h1=>?_);have h2:q.num< 0:=by simpa using h1
 refine r_m 3 ?_;refine a_1 ?_;refine o_0 (.bin rfl rfl (eQ (l:=[45]) (by simp;omega))) ?_;refine a_z ?_;refine⟨_,by rw[if_pos h2],?_⟩;rw[quS.eq_1];exact s_x [] (fun hs=>e_3) (fun hs=>e_4);have h2:¬q.num< 0:=by simpa using h1
 refine ak ⟨mtx q.num.natAbs,by rw[if_neg h2];rfl,?_⟩;rw[quS.eq_1];exact s_x [] (fun hs=>e_3) (fun hs=>e_4);rintro l hl;have hll:l.length≤618475290626:=by rw[hl];split <;> simp <;> omega
 rw[quS.eq_1];refine aU (quS q) (fun l=>l=qtx q) ?_ ?_;refine r_c 4 (jy (q.den- 1)) ?_;refine a_z ?_;refine aq rfl (fun h1=>?_) (fun h1=>?_)
 have h2:¬q.den=1:=by
  intro e;rw[e] at h1;simp at h1
 refine r_m 7 ?_;refine c_s (dS q (by omega)) ?_;refine c_s (vf q.den (Nat.le_trans (c7 q) h)) ?_;refine o_0 (.bin rfl rfl (eQ (l:=[47]) (by simp;omega))) ?_;refine o_0 (.bin rfl rfl (eQ (by simp;omega))) ?_;refine a_z ?_;refine⟨_,by unfold qtx;rw[if_neg h2,←hl],?_⟩;rw[quS.eq_1];exact s_x [] (fun hs=>e_3) (fun hs=>e_4)
 have h2:q.den=1:=by
  have h3:q.den- 1=0:=by simpa using h1
  omega
 refine ak ⟨l,by unfold qtx;rw[if_pos h2,←hl,List.append_nil],?_⟩;rw[quS.eq_1];exact s_x [] (fun hs=>e_3) (fun hs=>e_4);rintro l rfl;rw[quS.eq_1];refine r_z 2 ?_;exact aj (t_e (ag _))
def zX:Ln→AState
 |l=>⟨[(0,.arr (iE l))],[],1,15⟩
theorem ji(l:Ln):zX l=⟨[(0,.arr (iE l))],[],1,15⟩:=rfl
theorem iy(l:Ln)(hl:l.length≤281474976710656):FS 173 [.arr (iE l)] (.arr (iE (fN l))):=by
 refine f_c Tryz.func173 ?_;refine r_z 1 ?_;refine aU zX (fun m=>m=fN l) ?_ ?_;refine am (aC zX (fun m=>m.length) (fun m=>m.length≤281474976710656∧fN m=fN l) l ⟨hl,rfl⟩ ?_ ?_);simp only[ji];exact s_e [];rintro m ⟨hm,he⟩;rw[ji];cases m with
 |nil=>
  refine ac (s_r 9 ?_);refine a_4 ?_;refine n_g rfl d_f ?_;refine n_g rfl d_f ?_;refine n_g rfl d_f ?_;refine n_g rfl d_f ?_;refine o_0 (.pickF rfl d_f rfl) ?_;refine an ?_;refine cF ?_;refine aA ⟨[],by simpa[fN] using he,?_⟩;simp only[ji];exact s_e []
 |cons d m=>
  have hd:(iE (d::m))[(0:Int).toNat]?=some [i64 d]:=rfl;refine ac (s_r 9 ?_);refine a_4 ?_;refine y_g rfl (by simp) (.move rfl) ?_
  first|refine y_g rfl (by simp) (.index_l rfl rfl (by omega) (by omega) te_45.h) ?_|refine y_g rfl (by simp) (.index_a rfl rfl (by omega) hd rfl te_45.h) ?_
  first|refine y_g rfl (by simp) (.load_l1 rfl rfl hd TG.h rfl) ?_|refine y_g rfl (by simp) (.load_a1 rfl hd TG.h rfl) ?_
  refine y_g rfl (by simp) (.bin rfl rfl aJ) ?_;refine o_0 (.pickT rfl (by simp) rfl) ?_;refine an ?_;refine aq rfl (fun h=>?_) (fun h=>?_);have h0:d=0:=by simpa using h
  refine ak ?_;subst h0;refine am (r_m 3 ?_);refine a_1 ?_;refine o_0 (.sa_l rfl rfl rfl (by simp) te_45.h (lA _)) ?_;refine a_z ?_;refine⟨m,by simp,⟨by simp at hm;omega,by simpa[fN] using he⟩,?_⟩;simp only[ji];exact s_e [];have h0:d≠0:=by simpa using h
  refine aA ⟨d::m,by rw[←he];simp[fN,h0],?_⟩;simp only[ji];exact s_e []
 rintro m rfl;rw[ji];refine r_z 2 ?_;exact aj (t_e (eK _))
theorem jN(s:Int)(l:Ln)(z:Int)(hl:l.length≤281474976710656)(hd:∀d∈l,d< UB)(hz:hv l=z.natAbs)(hs:z≠0→s=sgZ z):FS 116 [i64 s,.arr (iE l)] (.agg (zZ z)):=by
 refine f_c Tryz.func116 ?_;refine r_z 1 ?_;refine r_c 3 (iy l hl) ?_;refine a_z ?_;refine ac (r_z 3 ?_);refine aq rfl (fun h=>?_) (fun h=>?_)
 have h0:fN l=[]:=by
  have:(fN l).length=0:=by simpa using h
  exact List.length_eq_zero_iff.1 this
 have hz0:z=0:=by have:=(si hd).1 h0;omega
 subst hz0;refine r_z 2 ?_;refine aj (Fin.cell rfl rfl rfl TG.h TS.h (nle rfl) ?_);rw[BK];exact Cv.agg (af (ah aB (ag _)) (af (Cv.emp _) ax));have h0:fN l≠[]:=fun e=>by rw[e] at h;simp at h
 have hz0:z≠0:=by
  intro e;subst e;exact h0 ((si hd).2 hz)
 refine ak (r_z 4 ?_);refine aj (dt rfl rfl rfl TG.h TS.h (nle rfl) ?_ ?_);show AV.agg [i64 s,.arr (iE (fN l))]=_;unfold zZ;rw[hs hz0,fE hd,hz];exact cP _
theorem zZ_neg(z:Int):zZ (-z)=[i64 (-sgZ z),.arr (iE (zd z.natAbs))]:=by
 unfold zZ;rw[Int.natAbs_neg];congr 2;unfold sgZ;split <;> split <;>(try split)<;>(try split)<;> omega
theorem cL(z:Int):sgZ z= -1∧z< 0∨sgZ z=0∧z=0∨sgZ z=1∧0< z:=by
 unfold sgZ;split;right;left;exact⟨rfl,by assumption⟩;split;left;exact⟨rfl,by assumption⟩;right;right;exact⟨rfl,by omega⟩
theorem rN(z:Int):FS 121 [.agg (zZ z)] (.agg (zZ (-z))):=by
 have hs:=cL z;have hc:=cP (-z);rw[zZ_neg] at hc⊢;refine f_c Tryz.func121 ?_;refine r_z 2 ?_;refine r_z 7 ?_;exact aj (c_e (hc))
theorem zZ_abs(z:Int):zZ (z.natAbs:Int)=[i64 (sgZ z* sgZ z),.arr (iE (zd z.natAbs))]:=by
 unfold zZ;rw[Int.natAbs_natCast];congr 2;rcases cL z with⟨h,h'⟩|⟨h,h'⟩|⟨h,h'⟩<;> rcases cL (z.natAbs:Int) with⟨g,g'⟩|⟨g,g'⟩|⟨g,g'⟩<;> rw[h,g]<;> omega
theorem fs_ZAbs(z:Int):FS 123 [.agg (zZ z)] (.agg (zZ (z.natAbs:Int))):=by
 have hs:=cL z;have hm: -9223372036854775808≤sgZ z* sgZ z∧sgZ z* sgZ z≤9223372036854775807:=by rcases hs with⟨h,_⟩|⟨h,_⟩|⟨h,_⟩<;> rw[h]<;> decide
 have hc:=cP (z.natAbs:Int);rw[zZ_abs] at hc⊢;refine f_c Tryz.func123 ?_;refine r_z 2 ?_;refine s_r 9 ?_;refine a_4 ?_;refine o_0 (.bin rfl rfl (pI hm)) ?_;refine a_z ?_;exact aj (c_e (hc))
theorem tE(l:Ln)(i:Nat)(hl:l.length≤281474976710656):FS 227 [.arr (iE l),i64 i] (i64 (l.reverse[i]?.getD 0:Nat)):=by
 refine f_c Tryz.func227 ?_;refine r_z 1 ?_;refine ac (r_z 4 ?_);refine aq rfl (fun h=>?_) (fun h=>?_);have hi:l.length≤i:=by simpa using h
 refine r_z 1 ?_;refine aj (aN rfl ?_ (ag _));rw[List.getElem?_eq_none (by simpa using hi)];rfl;have hi:i< l.length:=by simp at h;omega
 refine ak ?_;obtain⟨d,hd⟩:∃d,l[l.length- 1- i]?=some d:=⟨_,List.getElem?_eq_getElem (by omega)⟩;have hd':(iE l)[((l.length:Int)- 1- i).toNat]?=some [i64 d]:=by rw[show((l.length:Int)- 1- i).toNat=l.length- 1- i by omega];exact jW hd
 refine s_r 9 ?_;refine a_6 ?_;refine i_x hd' ?_;refine l_1 hd' ?_;refine a_z ?_;refine aj (aN rfl ?_ (ag _));rw[List.getElem?_reverse hi,hd];rfl
theorem AU(a b:Ln):FS 226 [.arr (iE a),.arr (iE b)] (i64 (max a.length b.length:Nat)):=by
 refine f_c Tryz.func226 ?_;refine r_z 1 ?_;refine ac (r_z 5 ?_);refine aq rfl (fun h=>?_) (fun h=>?_);refine r_z 3 ?_;refine aj (aN rfl ?_ (ag _));have:b.length< a.length:=by simpa using h
 simp[i64];omega;refine ak (r_z 3 ?_);refine aj (aN rfl ?_ (ag _));have:¬b.length< a.length:=by simpa using h
 simp[i64];omega
end Go.Proofs.YtjgokhkahkmpbaaGreatDoor
