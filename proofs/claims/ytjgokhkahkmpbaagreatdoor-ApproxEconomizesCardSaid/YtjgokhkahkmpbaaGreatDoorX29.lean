/- Part X29 of the proof. -/
import Derived.Test.YtjgokhkahkmpbaaGreatDoorX28
set_option linter.all false
namespace Go.Proofs.YtjgokhkahkmpbaaGreatDoor
open Go.Abs
set_option maxRecDepth 20000
set_option maxHeartbeats 8000000
def shQ(n i:Nat):Rat:=((i:Int):Rat) / (((n:Int)+1:Int):Rat)
def iZ(s:Sp)(n i:Nat):Rat:=s.1+(s.2- s.1) * shQ n i
def mnD(F:Lq)(s:Sp)(n:Nat):Dt:=⟨bR (n+2) (iZ s n),bR (n+2) fun i=>aF F (iZ s n i),[]⟩
def okMn(F:Lq)(s:Sp)(n:Nat):Prop:=n≤12∧sz1 s.1∧sz1 (s.2- s.1)∧sz1 s.2∧∀i,i< n+2→sz1 ((i:Int):Rat)∧sz1 (shQ n i)∧sz1 ((s.2- s.1) * shQ n i)∧dP F (iZ s n i)
instance (F:Lq) (s:Sp) (n:Nat):Decidable (okMn F s n):=inferInstanceAs (Decidable (_∧_∧_∧_∧_))
abbrev na0:La:=[.emp,.emp]++(zC++zC)
theorem ga:∀c∈na0,Closed c:=cz (ae aS (ae aS ai)) (cz bH bH)
def mnH(s:Sp)(n:Nat):Nat→Hp
 |0=>[]
 |i+1=>[(2,some ⟨42,3,pE (bR (i+1) (iZ s n))⟩)]
def mnS(F:Lq)(s:Sp)(n:Nat)(w:Rat):Nat→AState
 |i=>⟨[(0,.arr (pE F)),(2,i64 n),(5,bS s),(7,bQ w),(8,.lptr 1 0 0),(9,lvV 2 i),(23,i64 ((n:Int)+2)),(24,i64 i)],(1,some ⟨86,8,[na0]⟩)::mnH s n i,3,121⟩
def mnV(b i:Nat):AV:=match i with|0=> .emp|i+1=> .lsl b 0 (i+1) none 1
def mnK(F:Lq)(s:Sp)(n:Nat):Nat→Hp
 |0=>[]
 |i+1=>[(3,some ⟨42,3,pE (bR (i+1) fun i=>aF F (iZ s n i))⟩),(4,some ⟨3,1,nE (List.range (i+1))⟩)]
def mkS(F:Lq)(s:Sp)(n:Nat)(w q:Rat)(A:Lq):Nat→AState
 |i=>⟨[(0,.arr (pE F)),(5,bS s),(7,bQ w),(8,.lptr 1 0 0),(9,.arr (pE A)),(12,bQ q),(13,.lptr 2 0 0),(14,mnV 4 i),(49,.arr (pE A)),(50,i64 A.length),(51,i64 i)],(1,some ⟨86,8,[na0]⟩)::(2,some ⟨82,3,[[.arr (pE A),lvV 3 i,.emp]]⟩)::mnK F s n i,5,121⟩
theorem yF (F:Lq) (s:Sp) (n:Nat) (w:Rat) (p:Lq) (K:Nat) (u:Sp) (ok:okMn F s n) (hw:sz1 w) (hl:AA (mnD F s n) (List.range (n+2))=some p) (mF:smL F) (mp:smL p) (lF:F.length≤1000) (lp:p.length≤1000)
    (hfi:FS 151 [.agg (qC (w/ 4))] (i64 K)) (hdi:FS 150 [.arr (pE (dH F p)),.agg (spC s.1 s.2),i64 K] (.agg (spC u.1 u.2))) (hu:sz1 u.2) (hH:sz1 (hD (mnD F s n) (List.range (n+2)))) (hH0:hD (mnD F s n) (List.range (n+2))≠0)
    (hle:u.2- cj (hD (mnD F s n) (List.range (n+2)))≤w) (hsm:sm (u.2- cj (hD (mnD F s n) (List.range (n+2))))):
    FS 92 [.arr (pE F),.agg (spC s.1 s.2),i64 n,.agg (qC w)] (.agg (naC p (bR (n+2) (iZ s n)) (cj (hD (mnD F s n) (List.range (n+2)))) u.2)):=by
 obtain⟨o1,o2,o3,o4,o5⟩:=ok;have hwd:=kD s.1 s.2 o2.sm o4.sm;have hn1:=da ((n:Int)+1) (by omega)
 have hnz:(((n:Int)+1:Int):Rat)≠0:=by
  intro e;have:(n:Int)+1=0:=by exact_mod_cast e
  omega
 have hq1:qs (((n:Int)+1:Int):Rat)≤100:=by
  have:n=0∨n=1∨n=2∨n=3∨n=4∨n=5∨n=6∨n=7∨n=8∨n=9∨n=10∨n=11∨n=12:=by omega
  rcases this with rfl|rfl|rfl|rfl|rfl|rfl|rfl|rfl|rfl|rfl|rfl|rfl|rfl <;> decide
 refine f_c Tryz.func92 ?_;refine r_z 3 ?_;refine r_z 1 ?_;refine ac (r_z 3 ?_);refine aI (fun _:Unit=>⟨[(0,.arr (pE F)),(5,bS s),(7,bQ w),(8,.lptr 1 0 0),(9,.arr (pE (bR (n+2) (iZ s n))))],[(1,some ⟨86,8,[na0]⟩)],2,121⟩) (fun _=>True) ?_ ?_
 ·refine am (aC (mnS F s n w) (fun i=>n+2- i) (fun i=>i≤n+2) 0 (Nat.zero_le _) ?_ ?_)
  rw[mnS.eq_1];simp only[lvV,mnH];exact s_x [(1,8)] (fun hs=>e_48) (fun hs=>e_49);intro i hi;rw[mnS.eq_1];by_cases hlt:i< n+2;rotate_left;have hge:i=n+2:=by omega
  subst hge;refine q_z 1 ?_;refine ac (cF (aA ⟨(),trivial,?_⟩));simp only[lvV,mnH];have lx:(pE (bR (n+1+1) (iZ s n))).length=n+1+1:=eU _ _;refine s_x [] (fun hs=>?_) (fun hs=>?_)
  ·repeat' (first|exact aH|refine ao rfl ?_ ?_|exact ah hs (bw s)|exact ah hs (aQ w)|exact ah hs (ap _)|(refine Cv.shut hs rfl (aP rfl) (by rw[Nat.zero_add];exact Nat.le_of_eq lx.symm) ?_;exact aM hs (by rw[List.drop_zero];exact List.take_of_length_le (Nat.le_of_eq lx)) (aL _))|exact aY)
  ·repeat' (first|exact aD|refine h_c ?_ ?_|exact aw (CvL.clo hs ga)|exact bG|refine aw ?_|exact ax|refine af ?_ ?_|exact ah hs (bw s)|exact ah hs (aQ w)|exact ah hs (ap _)|(refine Cv.shut hs rfl (aP rfl) (by rw[Nat.zero_add];exact Nat.le_of_eq lx.symm) ?_;exact aM hs (by rw[List.drop_zero];exact List.take_of_length_le (Nat.le_of_eq lx)) (aL _))|exact aY)
  obtain⟨i1,i2,i3,i4⟩:=o5 i hlt;have hI:=da (i:Int) (by omega);have hov:=iz ((i:Int):Rat) (((n:Int)+1:Int):Rat) hnz (by unfold sz1 at i1;omega);rw[show((i:Int):Rat) / (((n:Int)+1:Int):Rat)=shQ n i from rfl] at hov;have hmu:=dx (s.2- s.1) (shQ n i) (o3.two i2);have had:=fz s.1 ((s.2- s.1) * shQ n i) (o2.two i3);rw[show s.1+(s.2- s.1) * shQ n i=iZ s n i from rfl] at had;have ex:pE (bR (i+1) (iZ s n))=pE (bR i (iZ s n))++[qC (iZ s n i)]:=kg _ _;refine q_z 1 ?_;refine ac (cT (ak (ac (am (r_z 2 ?_)))));refine r_c 8 (hI) ?_;refine c_s (hn1) ?_;refine c_s (hov) ?_;refine a_z ?_;cases i with
  |zero=>
   simp only[lvV,mnH];refine r_d hmix 11 ?_;refine c_s (hwd) ?_;refine c_s (hmu) ?_;refine c_s (had) ?_;refine a_3 ?_;refine an (n_k ?_);refine r_m 2 ?_;refine a_z ?_;refine⟨0+1,by omega,by omega,?_⟩;rw[mnS.eq_1];simp only[lvV,mnH];exact s_x [(2,9)] (fun hs=>e_50) (fun hs=>e_51)
  |succ i=>
   simp only[lvV,mnH];have lx:(pE (bR (i+1) (iZ s n))).length=i+1:=eU _ _;refine r_d hmix 11 ?_;refine c_s (hwd) ?_;refine c_s (hmu) ?_;refine c_s (had) ?_;refine a_3 ?_;refine an (n_k ?_);refine r_m 2 ?_;refine a_z ?_;refine⟨i+1+1,by omega,by omega,?_⟩;rw[mnS.eq_1];simp only[lvV,mnH];exact s_x [(2,9)] (fun hs=>e_50) (fun hs=>e_51)
 rintro _ _;have h4:=da 4 (by decide);have hq4:qs ((4:Int):Rat)≤10:=by decide
 have hov4:=iz w ((4:Int):Rat) (by decide) (by unfold sz1 at hw;omega);rw[show((4:Int):Rat)=4 from rfl] at hov4 h4;obtain⟨A,hA⟩:∃A,A=bR (n+2) (iZ s n):=⟨_,rfl⟩;have hAl:A.length=n+2:=by rw[hA];simp[bR]
 have hdX:(mnD F s n)=⟨A,bR (n+2) fun i=>aF F (iZ s n i),[]⟩:=by rw[hA];rfl
 have hlv:=yG (mnD F s n) (List.range (n+2)) p (by simp[mnD,bR]) (.inl rfl) hl;rw[hdX] at hlv;obtain⟨Hh,hHh⟩:∃Hh,Hh=hD (mnD F s n) (List.range (n+2)):=⟨_,rfl⟩;rw[←hHh] at hH hH0 hle hsm⊢;rw[←hdX,←hHh] at hlv;rw[hdX] at hlv;rw[←hA];have hAc:∀i,i< n+2→∀e,e=i→(pE A)[e]?=some (qC (iZ s n i)):=fun i hi e he=>by rw[hA];exact vI _ hi e he
 have hsu:=ob F p mF mp (by omega) (by omega);have hab:=eY Hh;have hsb:=iP u.2 (cj Hh) (by unfold sz1 at hu hH;rw[qs_abs];omega);have hcm:=dW (u.2- cj Hh) w hsm hw.sm;have hsg:=bY Hh;refine ac (r_d hmix 5 ?_);refine c_s (h4) ?_;refine c_s (hov4) ?_;refine a_2 ?_;refine an (n_k ?_);refine AWp.ent (st':=⟨[(0,.arr (pE F)),(5,bS s),(7,bQ w),(8,.lptr 1 0 0),(9,.arr (pE A)),(12,bQ (w/ 4))],[(1,some ⟨86,8,[na0]⟩)],2,121⟩) ?_ ?_;refine s_x [] (fun hs=>?_) (fun hs=>?_)
 ·repeat' (first|exact aH|refine ao rfl ?_ ?_|exact ah hs (bw s)|exact ah hs (aQ w)|exact ah hs (ap _)|exact Cv.boxp hs rfl (aP rfl) rfl (aZ _)|exact aY)
 ·repeat' (first|exact aD|refine h_c ?_ ?_|exact aw (CvL.clo hs ga)|exact bG|refine aw ?_|exact ax|refine af ?_ ?_|exact ah hs (bw s)|exact ah hs (aQ w)|exact ah hs (ap _)|exact Cv.boxp hs rfl (aP rfl) rfl (aZ _)|exact aY)
 refine am (aC (fun _:Unit=>⟨[(0,.arr (pE F)),(5,bS s),(7,bQ w),(8,.lptr 1 0 0),(9,.arr (pE A)),(12,bQ (w/ 4))],[(1,some ⟨86,8,[na0]⟩)],2,121⟩) (fun _=>0) (fun _=>True) () trivial (SEnt.refl _) ?_);rintro⟨⟩ _;refine am (r_z 4 ?_);refine r_z 1 ?_;refine ac (r_z 3 ?_);refine aI (fun _:Unit=>⟨[(0,.arr (pE F)),(5,bS s),(7,bQ w),(8,.lptr 1 0 0),(9,.arr (pE A)),(12,bQ (w/ 4)),(13,bD ⟨A,bR (n+2) fun i=>aF F (iZ s n i),[]⟩),(14,.arr (nE (List.range (n+2))))],[(1,some ⟨86,8,[na0]⟩)],2,121⟩) (fun _=>True) ?_ ?_
 ·refine am (aC (mkS F s n w (w/ 4) A) (fun i=>n+2- i) (fun i=>i≤n+2) 0 (Nat.zero_le _) ?_ ?_)
  rw[mkS.eq_1];simp only[lvV,mnV,mnK];refine s_x [(2,13)] (fun hs=>?_) (fun hs=>?_)
  ·repeat' (first|exact aH|refine ao rfl ?_ ?_|exact ah hs (bw s)|exact ah hs (aQ _)|exact ah hs (ap _)|(refine Cv.loE hs ?_ (ag _);simp[i64,hAl];done)|exact aY)
  ·repeat' (first|exact aD|refine h_c ?_ ?_|exact aw (CvL.clo hs ga)|exact aw (CvL.clo hs (ae (ap _) (ae aS (ae aS ai))))|exact bG|refine aw ?_|exact ax|refine af ?_ ?_|exact ah hs (bw s)|exact ah hs (aQ _)|exact ah hs (ap _)|(refine Cv.loE hs ?_ (ag _);simp[i64,hAl];done)|exact aY)
  intro i hi;rw[mkS.eq_1];by_cases hlt:i< n+2;rotate_left;have hge:i=n+2:=by omega
  subst hge;refine q_z 1 ?_;refine ac (cF (aA ⟨(),trivial,?_⟩));simp only[lvV,mnV,mnK];have lx:(pE (bR (n+1+1) fun i=>aF F (iZ s n i))).length=n+1+1:=eU _ _;refine s_x [] (fun hs=>?_) (fun hs=>?_)
  ·repeat' (first|exact aH|refine ao rfl ?_ ?_|exact ah hs (bw s)|exact ah hs (aQ _)|exact ah hs (ap _)|(refine Cv.shut hs rfl (aP rfl) (by simp) ?_;exact aM hs (by rw[List.drop_zero];exact List.take_of_length_le (by simp)) (dp _))|(refine Cv.sealp hs rfl (aP rfl) Nat.zero_lt_one ?_;exact aw (af (ah hs (ap _)) (af (Cv.sealE hs rfl (aP rfl) rfl lx.symm (aL _)) (af (Cv.emp _) ax))))|exact aY)
  ·repeat' (first|exact aD|refine h_c ?_ ?_|exact aw (CvL.clo hs ga)|exact bG|refine aw ?_|exact ax|refine af ?_ ?_|exact ah hs (bw s)|exact ah hs (aQ _)|exact ah hs (ap _)|(refine Cv.shut hs rfl (aP rfl) (by simp) ?_;exact aM hs (by rw[List.drop_zero];exact List.take_of_length_le (by simp)) (dp _))|(refine Cv.sealp hs rfl (aP rfl) Nat.zero_lt_one ?_;exact aw (af (ah hs (ap _)) (af (Cv.sealE hs rfl (aP rfl) rfl lx.symm (aL _)) (af (Cv.emp _) ax))))|exact aY)
  obtain⟨i1,i2,i3,i4⟩:=o5 i hlt;have hE:=e8 F (iZ s n i) i4;have ex:pE (bR (i+1) fun i=>aF F (iZ s n i))=pE (bR i fun i=>aF F (iZ s n i))++[qC (aF F (iZ s n i))]:=kg _ _;have hsn:nE (List.range (i+1))=nE (List.range i)++[[i64 i]]:=by rw[List.range_succ,pY];rfl
  refine q_z 1 ?_;refine ac (cT (ak (ac (am (s_r 6 ?_)))));refine a_1 ?_
  first|refine ay (.index_l rfl rfl (by omega) (by omega) te_29.h) rfl rfl ?_|refine ay (.index_a rfl rfl (by omega) (hAc i hlt _ (by omega)) rfl te_29.h) rfl rfl ?_
  first|refine ay (.load_l rfl rfl (hAc i hlt _ (by omega)) TG.h TS.h (nle rfl)) rfl rfl ?_|refine ay (.load_a rfl (hAc i hlt _ (by omega)) TG.h TS.h (nle rfl)) rfl rfl ?_
  refine a_z ?_;cases i with
  |zero=>
   simp only[lvV,mnV,mnK];refine r_d hmix 14 ?_;refine c_s (hE) ?_;refine a_8 ?_;refine a_1 ?_;refine an (n_k ?_);refine r_m 2 ?_;refine a_z ?_;refine⟨0+1,by omega,by omega,?_⟩;rw[mkS.eq_1];simp only[lvV,mnV,mnK];exact s_x [(3,62),(4,14)] (fun hs=>e_52) (fun hs=>e_53)
  |succ i=>
   simp only[lvV,mnV,mnK];have lx:(pE (bR (i+1) fun i=>aF F (iZ s n i))).length=i+1:=eU _ _;have hon:=tf (List.range (i+1));have hlr:(nE (List.range (i+1))).length=i+1:=by simp
   refine r_d hmix 14 ?_;refine c_s (hE) ?_;refine a_8 ?_;refine a_1 ?_;refine an (n_k ?_);refine r_m 2 ?_;refine a_z ?_;refine⟨i+1+1,by omega,by omega,?_⟩;rw[mkS.eq_1];simp only[lvV,mnV,mnK];exact s_x [(3,62),(4,14)] (fun hs=>e_52) (fun hs=>e_53)
 rintro _ _;refine r_c 9 (hlv) ?_;refine a_z ?_;refine r_c 4 (hsu) ?_;refine a_z ?_;refine ac (r_d hmix 7 ?_);refine c_s (hfi) ?_;refine c_s (hdi) ?_;refine a_2 ?_;refine an (n_k ?_);refine ac (ac (r_d hmix 8 ?_));refine c_s (hab) ?_;refine c_s (hsb) ?_;refine c_s (hcm) ?_;refine o_0 (.bin rfl rfl (vT dY (decide_eq_true (ue hle)))) ?_;refine an (n_k ?_);refine cT (ac (r_c 3 (hsg) ?_));refine o_0 (.bin rfl rfl (vF aJ (neI (mt sgZ_num_eq.1 hH0)))) ?_;refine an ?_;refine cF (ak (ac (r_d hmix 8 ?_)));refine c_s (hab) ?_;refine a_4 ?_;refine an (n_k ?_);exact aj (c_e (aG (ff _ _ _ _)))
def itO(l:List Int):Lq→Nat→AState
 |[],i=>⟨[(0,.arr (zE l)),(3,.emp),(4,i64 i)],[],1,20⟩
 |q::Q,i=>⟨[(0,.arr (zE l)),(3,.lsl 1 0 (Q.length+1) none 3),(4,i64 i)],[(1,some ⟨42,3,pE (q::Q)⟩)],2,20⟩
theorem oW(l:List Int)(i:Nat):itO l [] i=⟨[(0,.arr (zE l)),(3,.emp),(4,i64 i)],[],1,20⟩:=rfl
theorem kx(l:List Int)(q:Rat)(Q:Lq)(i:Nat):itO l (q::Q) i=⟨[(0,.arr (zE l)),(3,.lsl 1 0 (Q.length+1) none 3),(4,i64 i)],[(1,some ⟨42,3,pE (q::Q)⟩)],2,20⟩:=rfl
theorem vg(l:List Int)(hl:l.length≤1099511627776)(hb:∀n∈l,-9223372036854775808≤n∧n≤9223372036854775807):FS 31 [.arr (zE l)] (.arr (pE (zR l))):=by
 refine f_n Tryz.func31 ?_ ?_;exact ae (aR (eJ l)) ai;refine r_z 1 ?_;refine r_z 1 ?_;refine ac (r_z 1 ?_);refine aI (fun _:Unit=>itO l (zR l) l.length) (fun _=>True) ?_ ?_;refine am (aC (fun i:Nat=>itO l (zR (l.take i)) i) (fun i=>l.length- i) (fun i=>i≤l.length) 0 (Nat.zero_le _) ?_ ?_);show SEnt _ (itO l [] 0);rw[oW];have:=(aR (eJ l));exact s_f [];rintro i hi;have hlen:(zE l).length=l.length:=by simp[zE]
 by_cases hlt:i< l.length
 ·obtain⟨n,hn⟩:∃n,l[i]?=some n:=⟨_,List.getElem?_eq_getElem hlt⟩
  have hgt:(zE l)[((i:Nat):Int).toNat]?=some [i64 n]:=by
   show(zE l)[i]?=_;simp[zE,hn]
  have hnb:=hb n (List.mem_of_getElem? hn);have htk:zR (l.take (i+1))=zR (l.take i)++[(n:Rat)]:=by rw[dA hn];simp[zR]
  have hQl:(zR (l.take i)).length=i:=by simp[zR];omega
  cases hQ:zR (l.take i) with
  |nil=>
   simp only[oW];refine ac (r_z 4 ?_);refine aq rfl (fun h=>?_) (fun h=>?_);rotate_left;exact absurd h (by simp[zE];omega);refine ak (ac (am (r_m 9 ?_)));refine a_3 ?_;refine i_x hgt ?_;refine l_1 hgt ?_;refine c_s (da n hnb) ?_;refine a_z ?_;refine r_m 3 ?_;refine a_z ?_;refine⟨i+1,by omega,hlt,?_⟩;simp only[htk,hQ,List.nil_append,kx];have:=(aR (eJ l));have:=(aL [(n:Rat)]);exact s_f [(1,3)]
  |cons q Q=>
   rw[hQ] at hQl;simp at hQl;simp only[kx];refine ac (r_z 4 ?_);refine aq rfl (fun h=>?_) (fun h=>?_);rotate_left;exact absurd h (by simp[zE];omega);refine ak (ac (am (r_m 9 ?_)));refine a_3 ?_;refine i_x hgt ?_;refine l_1 hgt ?_;refine c_s (da n hnb) ?_;refine a_z ?_;refine r_m 3 ?_;refine a_z ?_;refine⟨i+1,by omega,hlt,?_⟩;simp only[htk,hQ,List.cons_append,kx];have e:pE (q::Q)++[qC (n:Rat)]=pE (q::(Q++[(n:Rat)])):=by simp[pE]
   refine s_x [(1,3)] (fun hs=>e_14) (fun hs=>?_) e_1
   ·repeat' (first|exact aD|refine h_c ?_ ?_|exact aM hs e (aL _)|exact bG|refine aw ?_|exact ax|refine af ?_ ?_|exact ah hs (aR (eJ l))|exact aY)
 have hge:i=l.length:=by omega
 subst hge;simp only[List.take_length];cases hQ:zR l with
 |nil=>
  simp only[oW];refine ac (r_z 4 ?_);refine aq rfl (fun h=>?_) (fun h=>?_);exact absurd h (by simp[zE]);refine aA ⟨(),trivial,?_⟩;simp only[hQ,oW];have:=(aR (eJ l));exact s_f []
 |cons q Q=>
  simp only[kx];refine ac (r_z 4 ?_);refine aq rfl (fun h=>?_) (fun h=>?_);exact absurd h (by simp[zE]);refine aA ⟨(),trivial,?_⟩;simp only[hQ,kx];have:=(aR (eJ l));exact s_f []
 rintro _ _;cases hQ:zR l with
 |nil=>
  simp only[oW];refine r_z 2 ?_;exact aj (Fin.tmpN rfl)
 |cons q Q=>
  simp only[kx];refine r_z 2 ?_;exact aj (Fin.tmpS rfl rfl rfl (by simp) (aL _))
theorem rc(p q:Lq)(h:lf q p)(hp:p.length≤274877906944)(hq:q.length≤274877906944)(hd:0≤(if 0> cC p then 0 else cC p) * (if 0> cC q then 0 else cC q)∧(if 0> cC p then 0 else cC p) * (if 0> cC q then 0 else cC q)≤1000):FS 42 [.arr (pE p),.arr (pE q)] (.tup [.arr (pE (cM q p)),i64 0]):=by
 refine f_c Tryz.func42 ?_;refine r_z 2 ?_;refine ac (r_c 8 (cr p (by omega)) ?_);refine c_s (cr q (by omega)) ?_;refine d_z ?_;refine cF (ak (r_c 5 (A4 p q h hp) ?_));refine a_z ?_;refine aj (Fin.many ⟨_,_,rfl,rfl,⟨_,_,rfl,rfl,rfl⟩⟩ (nle rfl) ?_);exact af (ah aB (ap _)) (af (ah aB (ag _)) ax)
theorem A8(F:Lq)(s:Sp)(n:Nat)(w:Rat)(r:La)(hs:s.1< s.2)(s1:sm s.1)(s2:sm s.2)(hw:0< w)(mw:sm w)(hn:n≤12)(hd:cC F≤40∧(n:Int)< cC F)(lF:F.length≤1000)(hf:sm (ci 200))(hw2:ci 200≤w)(hr:FS 92 [.arr (pE F),.agg (spC s.1 s.2),i64 n,.agg (qC w)] (.agg r))(hl:r.length=8)(hc:∀c∈r,Closed c)(ho:r.all AV.one=true):
    FS 30 [.arr (pE F),.agg (spC s.1 s.2),i64 n,.agg (qC w)] (.tup [.agg r,i64 0]):=by
 have hv:=gq s.1 s.2 s1 s2;rw[decide_eq_true (ue (by grind))] at hv;have hsg:=bY w;have hdg:=cr F (by omega);have hfi:=jc 200;rw[show wi 200 256=200 by decide] at hfi;have hcm:=dW w (ci 200) mw hf;have hwd:=kD s.1 s.2 s1 s2;have hsw:=bY (s.2- s.1);have e1:¬sgZ w.num≤(0:Int):=fun e=>by have:=sg_leA.1 e;grind
 have e2:¬cZ w (ci 200)< 0:=fun e=>by have:=cq_lt.1 e;grind
 have e3:¬sgZ (s.2- s.1).num=0:=fun e=>by have:=sgZ_num_eq.1 e;grind
 refine f_c Tryz.func30 ?_;refine r_z 4 ?_;refine aU (fun _:Unit=>⟨[(0,.arr (pE F)),(2,i64 n),(5,bS s),(7,bQ w),(8,.lptr 1 0 0)],[(1,some ⟨86,8,[na0]⟩)],2,64⟩) (fun _=>True) ?_ ?_;refine am (r_c 9 (hv) ?_);refine e_s (hsg) ?_;refine d_z ?_;refine cF (q_z 7 ?_);refine cF (ac (r_d hmix 10 ?_));refine c_s (hdg) ?_;refine e_s (hfi) ?_;refine c_s (hcm) ?_;refine d_3 ?_;refine an (n_k ?_);refine cF (r_c 5 (hdg) ?_);refine d_z ?_;refine cF (r_c 5 (hwd) ?_);refine c_s (hsw) ?_;refine o_0 (.bin rfl rfl (vF aJ (neI e3))) ?_;refine a_z ?_;refine cF (ak ⟨(),trivial,?_⟩);exact s_x [(1,8)] (fun hs=>e_48) (fun hs=>e_49);rintro _ _
 obtain⟨r0,r1,r2,r3,r4,r5,r6,r7,rfl⟩:∃a b c d e f g h,r=[a,b,c,d,e,f,g,h]:=by
  match r,hl with
  |[a,b,c,d,e,f,g,h],_=>exact⟨a,b,c,d,e,f,g,h,rfl⟩
 refine r_c 7 (hr) ?_;refine fk (.store rfl rfl rfl rfl rfl ho TS.h (nle rfl)) ?_;refine a_z ?_;refine aj (Fin.many ⟨_,_,rfl,⟨_,_,_,_,_,rfl,rfl,rfl,.inl ⟨TG.h,_,TS.h,nle rfl,rfl⟩⟩,⟨_,_,rfl,rfl,rfl⟩⟩ (nle rfl) ?_);exact af (Cv.agg (CvL.clo aB hc)) (af (ah aB (ag _)) ax)
def ffM(l:Lq):Nat→Lq
 |0=>[]
 |i+1=>if i< l.length then ik (ffM l i) (aW (chP i).1 (coP l i)) else ffM l i
def okFf(l:Lq):Prop:=l.length≤41∧smL l∧∀i,i< l.length→Dn i∧smL (chP i).1∧smL (aW (chP i).1 (coP l i))∧smL (ffM l i)∧(chP i).1.length≤1000∧(ffM l i).length≤1000
instance (l:Lq):Decidable (okFf l):=inferInstanceAs (Decidable (_∧_∧_))
def ffS(l:Lq)(R:Lc):Nat→AState
 |i=>⟨[(0,.arr (pE l)),(4,.arr (pE (ffM l i))),(13,.arr R),(14,i64 ((l.length:Int)+1)),(15,i64 i)],[],1,34⟩
theorem wL(l:Lq)(ok:okFf l):FS 46 [.arr (pE l)] (.tup [.arr (pE (ffM l (l.length+1))),i64 0]):=by
 obtain⟨o1,o2,o3⟩:=ok;have hll:(pE l).length=l.length:=by simp[pE]
 have hfi:=vh l.length (by omega) fun k hk=>(o3 k hk).1;have hRc:=fK (j8 (l.length+1));obtain⟨R,hR⟩:∃R,R=cE (j8 (l.length+1)):=⟨_,rfl⟩;have hRl:R.length=l.length+1:=by rw[hR];simp[cE]
 rw[←hR] at hfi;have hRc:Closed (.arr R):=by rw[hR];exact fK _
 have hRg:∀i,i< l.length+1→∀e,e=i→R[e]?=some [.arr (pE (chP i).1)]:=fun i hi e he=>by
  subst he;rw[hR];refine ut ?_;rw[j8,List.getElem?_map,List.getElem?_range hi];rfl
 refine f_c Tryz.func46 ?_;refine r_z 2 ?_;refine ac (q_z 4 ?_);refine cF (ak (r_z 1 ?_));refine ac (r_c 5 (hfi) ?_);refine a_z ?_;refine aI (fun _:Unit=>⟨[(4,.arr (pE (ffM l (l.length+1))))],[],1,34⟩) (fun _=>True) ?_ ?_
 ·refine am (aC (ffS l R) (fun i=>l.length+1- i) (fun i=>i≤l.length+1) 0 (Nat.zero_le _) ?_ ?_)
  rw[ffS.eq_1];refine s_x [] (fun hs=>?_) (fun hs=>?_)
  ·repeat' (first|exact aH|refine ao rfl ?_ ?_|exact ah hs hRc|exact ah hs (ap _)|exact Cv.emp _|(refine Cv.loE hs ?_ (ag _);simp[i64,hRl];done)|exact aY)
  ·repeat' (first|exact aD|refine h_c ?_ ?_|exact bG|refine aw ?_|exact ax|refine af ?_ ?_|exact ah hs hRc|exact ah hs (ap _)|exact Cv.emp _|(refine Cv.loE hs ?_ (ag _);simp[i64,hRl];done)|exact aY)
  intro i hi;rw[ffS.eq_1];by_cases hlt:i< l.length+1;rotate_left;have hge:i=l.length+1:=by omega
  subst hge;refine q_z 1 ?_;refine ac (cF (aA ⟨(),trivial,?_⟩));exact s_e [];refine q_z 1 ?_;refine ac (cT (ak (ac (am (s_r 5 ?_)))));refine a_1 ?_
  first|refine ay (.index_l rfl rfl (by omega) (by omega) te_161.h) rfl rfl ?_|refine ay (.index_a rfl rfl (by omega) (hRg i hlt _ (by omega)) rfl te_161.h) rfl rfl ?_
  first|refine ay (.load_l1 rfl rfl (hRg i hlt _ (by omega)) TG.h rfl) rfl rfl ?_|refine ay (.load_a1 rfl (hRg i hlt _ (by omega)) TG.h rfl) rfl rfl ?_
  refine a_z ?_;by_cases hll2:i< l.length;obtain⟨p1,p2,p3,p4,p5,p6⟩:=o3 i hll2;have hgl:∀e:Nat,e=i→(pE l)[e]?=some (qC (coP l i)):=fun e he=>by rw[he];exact b7 (bv hll2)
  have hsl:=cm (chP i).1 (coP l i);have hsc:=iA (chP i).1 (coP l i) p2 (iS o2 i) (by omega);have had:=tN (ffM l i) (aW (chP i).1 (coP l i)) p4 p3 (by omega) (by omega);have hff:ffM l (i+1)=ik (ffM l i) (aW (chP i).1 (coP l i)):=by rw[ffM,if_pos hll2]
  rw[←hff] at had;refine q_z 4 ?_;refine cT (r_m 9 ?_);refine a_4 ?_
  first|refine ay (.index_l rfl rfl (by omega) (by omega) te_29.h) rfl rfl ?_|refine ay (.index_a rfl rfl (by omega) (hgl _ (by omega)) rfl te_29.h) rfl rfl ?_
  first|refine ay (.load_l rfl rfl (hgl _ (by omega)) TG.h TS.h (nle rfl)) rfl rfl ?_|refine ay (.load_a rfl (hgl _ (by omega)) TG.h TS.h (nle rfl)) rfl rfl ?_
  refine c_s (hsc) ?_;refine c_s (had) ?_;refine a_z ?_;refine r_m 2 ?_;refine a_z ?_;refine⟨i+1,by omega,by omega,?_⟩;rw[ffS.eq_1];exact s_x [] (fun hs=>e_54) (fun hs=>e_55);have hff:ffM l (i+1)=ffM l i:=by rw[ffM,if_neg hll2]
  refine q_z 4 ?_;refine cF (ak (r_m 2 ?_));refine a_z ?_;refine⟨i+1,by omega,by omega,?_⟩;rw[ffS.eq_1,hff];exact s_x [] (fun hs=>e_54) (fun hs=>e_55)
 rintro _ _;refine r_z 3 ?_;refine aj (Fin.many ⟨_,_,rfl,rfl,⟨_,_,rfl,rfl,rfl⟩⟩ (nle rfl) ?_);exact af (ah aB (ap _)) (af (ah aB (ag _)) ax)
def ecB(r:Lq)(n:Nat):Nat→Rat
 |0=>0
 |j+1=>ecB r n j+cj (coP r (n+1+j))
def gr(s:Sp):Rat:=(s.1+s.2) * ci 1
def eG(s:Sp):Rat:=2/ (s.2- s.1)
def ecP(r:Lq)(n:Nat):Lq:=ffM (r.take (min r.length (n+1))) ((r.take (min r.length (n+1))).length+1)
def EY(F:Lq)(s:Sp)(n:Nat)(r:Lq):Prop:=s.1< s.2∧sm s.1∧sm s.2∧sz1 (s.2- s.1)∧sz1 (gr s)∧sz1 (eG s)∧n≤40∧cC F≤40∧F.length≤1000∧lf [gr s,(s.2- s.1) * (1/ 2)] F∧cC [gr s,(s.2- s.1) * (1/ 2)]≤1∧r.length≤1000∧
 (∀i,i< r.length→sz1 (coP r i))∧(∀j,j< r.length+1→sz1 (ecB r n j))∧okFf (r.take (min r.length (n+1)))∧lf [-(gr s* eG s),eG s] (ecP r n)∧(ecP r n).length≤1000∧cC (ecP r n)≤40∧cC [-(gr s* eG s),eG s]≤1∧sz1 (gr s* eG s)
instance (F:Lq) (s:Sp) (n:Nat) (r:Lq):Decidable (EY F s n r):=inferInstanceAs (Decidable (_∧_∧_∧_∧_∧_∧_∧_∧_∧_∧_∧_∧_∧_∧_∧_∧_∧_∧_∧_))
theorem zj{p q:Lq}(h1:cC p≤40)(h2:cC q≤1):0≤(if 0> cC p then 0 else cC p) * (if 0> cC q then 0 else cC q)∧(if 0> cC p then 0 else cC p) * (if 0> cC q then 0 else cC q)≤1000:=by
 obtain⟨a,ha⟩:∃a,a=if 0> cC p then 0 else cC p:=⟨_,rfl⟩
 obtain⟨b,hb⟩:∃b,b=if 0> cC q then 0 else cC q:=⟨_,rfl⟩
 rw[←ha,←hb];have a1:0≤a∧a≤40:=by rw[ha];split <;> omega
 have b1:b=0∨b=1:=by rw[hb];split <;> omega
 rcases b1 with e|e <;> rw[e]<;> omega
def ecS(s:Sp)(r:Lq)(n:Nat):Nat→AState
 |j=>⟨[(2,i64 n),(4,bS s),(7,.lptr 1 0 0),(13,.arr (pE r)),(15,i64 ((n:Int)+1+(j:Int)))],[(1,some ⟨42,3,[qC (ecB r n j)]⟩)],2,106⟩
theorem pt(f:Nat)(F:Lq)(s:Sp)(n:Nat)(r:Lq)(ok:EY F s n r)(hr:ka f (cM [gr s,(s.2- s.1) * (1/ 2)] F)=some r):
    FS 11 [.arr (pE F),.agg (spC s.1 s.2),i64 n] (.tup [.arr (pE (cM [-(gr s* eG s),eG s] (ecP r n))),.agg (qC (ecB r n (r.length- (n+1)))),i64 0]):=by
 obtain⟨o1,o2,o3,o4,o5,o6,o7,o8,o9,p1,p2,p3,p4,p5,p6,p7,p8,p9,q1,q2⟩:=ok;have hv:=gq s.1 s.2 o2 o3;rw[decide_eq_true (ue (by grind))] at hv;have hwd:=kD s.1 s.2 o2 o3;have hsw:=bY (s.2- s.1);have e3:¬sgZ (s.2- s.1).num=0:=fun e=>by have:=sgZ_num_eq.1 e;grind
 have hnz:s.2- s.1≠0:=by grind
 have hdg:=cr F (by omega);have i1:=da 1 (by decide);have i2:=da 2 (by decide);have q12:qs ((1:Int):Rat)+qs ((2:Int):Rat)≤549755813888:=by decide
 have ov1:=iz ((1:Int):Rat) ((2:Int):Rat) (by decide) q12;rw[show((1:Int):Rat) / ((2:Int):Rat)=1/ 2 from rfl] at ov1;have hmd:=tI s.1 s.2 o2 o3;rw[show(s.1+s.2) * ci 1=gr s from rfl] at hmd;have qh:qs (1/ 2:Rat)≤10:=by decide+kernel
 have hmw:=dx (s.2- s.1) (1/ 2) (by unfold sz1 at o4;omega);have hco:=rc F [gr s,(s.2- s.1) * (1/ 2)] p1 (by omega) (by simp) (zj o8 p2);have hto:=A5 f _ r hr;have hff:=wL (r.take (min r.length (n+1))) p6;rw[show ffM (r.take (min r.length (n+1))) ((r.take (min r.length (n+1))).length+1)=ecP r n from rfl] at hff;have q22:qs ((2:Int):Rat)≤10:=by decide
 have ov2:=iz ((2:Int):Rat) (s.2- s.1) hnz (by unfold sz1 at o4;omega);rw[show((2:Int):Rat) / (s.2- s.1)=eG s from rfl] at ov2;have hmb:=dx (gr s) (eG s) (o5.two o6);have hng:=jZ (gr s* eG s);have hc2:=rc (ecP r n) [-(gr s* eG s),eG s] p7 (by omega) (by simp) (zj p9 q1);have hrl:(pE r).length=r.length:=by simp[pE]
 obtain⟨m,hm⟩:∃m,m=min r.length (n+1):=⟨_,rfl⟩;rw[←hm] at hff;have e:(pE r).take m=pE (r.take m):=by simp[pE,List.map_take]
 refine f_c Tryz.func11 ?_;refine r_z 4 ?_;refine aU (fun _:Unit=>⟨[(0,.arr (pE F)),(2,i64 n),(4,bS s),(7,.lptr 1 0 0)],[(1,some ⟨42,3,[zC]⟩)],2,106⟩) (fun _=>True) ?_ ?_;refine am (r_c 10 (hv) ?_);refine e_s (hwd) ?_;refine c_s (hsw) ?_;refine aE rfl rfl rfl (.bin rfl rfl (vF aJ (neI e3))) rfl rfl ?_;refine a_z ?_;refine cF (q_z 7 ?_);refine cF (r_c 4 (hdg) ?_);refine d_z ?_;refine cF (ak ⟨(),trivial,?_⟩);exact s_f [(1,7)];rintro _ _;refine r_c 5 (i1) ?_;refine c_s (i2) ?_;refine c_s (ov1) ?_;refine a_z ?_;refine ac (r_d hmix 8 ?_);refine c_s (hmd) ?_;refine c_s (hwd) ?_;refine c_s (hmw) ?_;refine a_2 ?_;refine an (n_k ?_);refine s_r 8 ?_;refine a_2 ?_;refine o_1 (.callS1 rfl rfl rfl (.keep (.shut rfl d_n (.nil))) rfl (hco)) ?_;refine a_z ?_;refine r_c 7 (hto) ?_;refine a_z ?_;refine ac (r_z 3 ?_);refine aI (fun _:Unit=>⟨[(2,i64 n),(4,bS s),(7,.lptr 1 0 0),(13,.arr (pE r))],[(1,some ⟨42,3,[qC (ecB r n (r.length- (n+1)))]⟩)],2,106⟩) (fun _=>True) ?_ ?_;refine am (aC (ecS s r n) (fun j=>r.length- j) (fun j=>j≤r.length- (n+1)) 0 (Nat.zero_le _) ?_ ?_);rw[ecS.eq_1,show ecB r n 0=0 from rfl,qC0];refine s_x [] (fun hs=>?_) (fun hs=>?_)
 ·repeat' (first|exact aH|refine ao rfl ?_ ?_|exact ah hs (bw s)|exact ah hs (ap _)|(refine Cv.loE hs ?_ (ag _);simp[i64];done)|exact aY)
 ·repeat' (first|exact aD|refine h_c ?_ ?_|exact aw (af (Cv.emp _) (af (ah hs (ag _)) (af (Cv.emp _) ax)))|exact bG|refine aw ?_|exact ax|refine af ?_ ?_|exact ah hs (bw s)|exact ah hs (ap _)|(refine Cv.loE hs ?_ (ag _);simp[i64];done)|exact aY)
 intro j hj;rw[ecS.eq_1];by_cases hlt:n+1+j< r.length;have hgr:∀e:Nat,e=n+1+j→(pE r)[e]?=some (qC (coP r (n+1+j))):=fun e he=>by rw[he];exact b7 (bv hlt)
 have hab:=eY (coP r (n+1+j));have c1:=p4 (n+1+j) hlt;have had:=fz (ecB r n j) (cj (coP r (n+1+j))) (by have:=p5 j (by omega);unfold sz1 at c1 this;rw[qs_abs];omega);refine ac (q_z 4 ?_);refine cT (ak (ac (am (r_d hmix 8 ?_))));refine a_3 ?_
 first|refine ay (.index_l rfl rfl (by omega) (by omega) te_29.h) rfl rfl ?_|refine ay (.index_a rfl rfl (by omega) (hgr _ (by omega)) rfl te_29.h) rfl rfl ?_
 first|refine ay (.load_l rfl rfl (hgr _ (by omega)) TG.h TS.h (nle rfl)) rfl rfl ?_|refine ay (.load_a rfl (hgr _ (by omega)) TG.h TS.h (nle rfl)) rfl rfl ?_
 refine c_s (hab) ?_;refine c_s (had) ?_;refine a_1 ?_;refine an (n_k ?_);refine r_m 3 ?_;refine a_z ?_;refine⟨j+1,by omega,by omega,?_⟩;rw[ecS.eq_1,ecB];refine s_x [] (fun hs=>?_) (fun hs=>?_)
 ·repeat' (first|exact aH|refine ao rfl ?_ ?_|exact ah hs (bw s)|exact ah hs (ap _)|(refine Cv.loE hs ?_ (ag _);simp[i64];omega)|exact aY)
 ·repeat' (first|exact aD|refine h_c ?_ ?_|exact bG|refine aw ?_|exact ax|refine af ?_ ?_|exact ah hs (bw s)|exact ah hs (ap _)|(refine Cv.loE hs ?_ (ag _);simp[i64];omega)|exact aY)
 have hge:j=r.length- (n+1):=by omega
 subst hge;refine ac (q_z 4 ?_);refine cF (aA ⟨(),trivial,?_⟩);refine s_x [] (fun hs=>?_) (fun hs=>?_)
 ·repeat' (first|exact aH|refine ao rfl ?_ ?_|exact ah hs (bw s)|exact ah hs (ap _)|exact aY)
 ·repeat' (first|exact aD|refine h_c ?_ ?_|exact bG|refine aw ?_|exact ax|refine af ?_ ?_|exact ah hs (bw s)|exact ah hs (ap _)|exact aY)
 rintro _ _;refine s_r 12 ?_;refine a_6 ?_;refine o_0 (.sa_hE (h:=m) e rfl rfl (by rw[hm];split <;> omega) (by omega) te_29.h (gF _)) ?_;refine c_s (hff) ?_;refine a_z ?_;refine ac (r_d hmix 6 ?_);refine c_s (i2) ?_;refine c_s (hwd) ?_;refine c_s (ov2) ?_;refine a_2 ?_;refine an (n_k ?_);refine ac (r_d hmix 13 ?_);refine c_s (hmd) ?_;refine c_s (hmb) ?_;refine c_s (hng) ?_;refine a_2 ?_;refine o_1 (.callS1 rfl rfl rfl (.keep (.shut rfl d_n (.nil))) rfl (hc2)) ?_;refine a_4 ?_;refine an (n_k ?_);refine ac (r_d hmix 5 ?_);refine a_5 ?_;refine an (n_k ?_);refine aj (Fin.many ⟨_,_,rfl,rfl,⟨_,_,rfl,⟨_,_,_,_,_,rfl,rfl,rfl,.inl ⟨TG.h,_,TS.h,nle rfl,rfl⟩⟩,⟨_,_,rfl,rfl,rfl⟩⟩⟩ (nle rfl) ?_);exact af (ah aB (ap _)) (af (ah aB (aO _)) (af (ah aB (ag _)) ax))
theorem fS:∀k,k≤8→(chP k).1.length=k+1∧av (chP k).1=(chP k).1∧mxL (chP k).1≤10∧aT (chP k).1≠0∧Dn k:=by decide+kernel
theorem C4{k:Nat}(h:k≤8):bdL (chP k).1 10:=dN (dK _) (fS k h).2.2.1
def reM(n:Nat)(u v:Rat):Nat→Lq→Lq→Rat→Option (Lq×Rat)
 |0,_,_,_=>none
 |f+1,p,O,b=>if av p=[] then some (O,b) else
  let m:=(av p).length- 1
  let t:=(chP m).1
  let k:=aT p/ aT t
  if m≤n then reM n u v f (dH p (aW t k)) (ik O (aW (cM [u,v] t) k)) b else reM n u v f (dH p (aW t k)) O (b+cj k)
theorem xi{p:Lq}{D:Nat}(hp:(av p).length=D+1)(hD:D≤8):(av (dH p (aW (chP D).1 (aT p/ aT (chP D).1)))).length≤D:=by
 obtain⟨c1,c2,_,c3,_⟩:=fS D hD;refine vG fun j hj=>?_;rw[rU,ig];have h1:coP (av p) D=aT (av p):=kw (ft p) hp;rw[gQ,lj] at h1;have h2:=kw c2 c1;by_cases e:j=D;rw[e,h1,h2];grind;have e1:coP p j=0:=by rw[←gQ];exact jf (by omega)
 have e2:coP (chP D).1 j=0:=jf (by omega);rw[e1,e2];grind
theorem sI(f:Nat→Rat){a:Nat}:∀b,a≤b→(∀j,a≤j→j< b→f j=0)→sQ f b=sQ f a
 |0,h,_=>by rw[show a=0 by omega]
 |b+1,h,hz=>by
  by_cases e:a=b+1;rw[e];rw[sQ,sI f b (by omega) fun j h1 h2=>hz j h1 (by omega),hz b (by omega) (by omega)];grind
theorem Cw(u v x:Rat):aF [u,v] x=u+v* x:=by
 show(0* x+v) * x+u=_;grind
theorem El(n:Nat)(u v:Rat):∀(f:Nat) (p out r O:Lq) (b:Rat),toM f p out=some r→(av p).length≤9→(∀i,i< (av p).length→coP out i=0)→av O=O→
    ∃O' b',reM n u v f p O b=some (O',b')∧r.length=out.length∧(∀i,(av p).length≤i→coP r i=coP out i)∧av O'=O'∧
     (∀x,aF p x=sQ (fun i=>coP r i* aF (chP i).1 x) (av p).length)∧
     (∀x,aF O' x=aF O x+sQ (fun i=>if i≤n then coP r i* aF (chP i).1 (u+v* x) else 0) (av p).length)∧b'=b+sQ (fun i=>if i≤n then 0 else cj (coP r i)) (av p).length
 |0,_,_,_,_,_,h,_,_,_=>nomatch h
 |f+1,p,out,r,O,b,h,hl,hz,hO=>by
  rw[toM] at h;rw[reM];by_cases h0:av p=[]
  ·rw[if_pos h0] at h⊢
   split at h
   case isFalse=>cases h
   cases h;refine⟨O,b,rfl,rfl,fun _ _=>rfl,hO,fun x=>?_,fun x=>?_,?_⟩;rw[h0,←tR,h0];rfl;rw[h0];show _=_+0;grind;rw[h0];show _=_+0;grind
  ·rw[if_neg h0] at h⊢
   simp only[] at h⊢;split at h
   case isFalse=>cases h
   rename_i hok;obtain⟨D,hD⟩:∃D,(av p).length=D+1:=⟨(av p).length- 1,by have:=List.length_pos_iff.2 h0;omega⟩;rw[show(av p).length- 1=D by omega] at h hok⊢;obtain⟨t,ht⟩:∃t,t=(chP D).1:=⟨_,rfl⟩;obtain⟨k,hk⟩:∃k,k=aT p/ aT t:=⟨_,rfl⟩;have hdr:=xi hD (by omega);rw[←ht] at h hok hdr⊢;rw[←hk] at h hok hdr⊢;obtain⟨p',hp'⟩:∃p',p'=dH p (aW t k):=⟨_,rfl⟩;rw[←hp'] at h hdr⊢;have hoD:D< out.length:=hok.1
   have hset:∀i,coP (out.set D k) i=if i=D then k else coP out i:=fun i=>by
    unfold coP;rw[List.getD_eq_getElem?_getD,List.getElem?_set,List.getD_eq_getElem?_getD];by_cases e:D=i;subst e;rw[if_pos rfl,if_pos rfl,if_pos hoD];rfl;rw[if_neg e,if_neg fun h=>e h.symm]
   have hz2:∀i,i< (av p').length→coP (out.set D k) i=0:=fun i hi=>by
    rw[hset,if_neg (by omega)];exact hz i (by omega)
   have ev:∀x,aF p x=aF p' x+k* aF t x:=fun x=>by rw[hp',mU,eS];grind
   have fin:∀(O2 O':Lq) (b2 b':Rat),(∀i,(av p').length≤i→coP r i=coP (out.set D k) i)→(∀x,aF p' x=sQ (fun i=>coP r i* aF (chP i).1 x) (av p').length)→
       (∀x,aF O' x=aF O2 x+sQ (fun i=>if i≤n then coP r i* aF (chP i).1 (u+v* x) else 0) (av p').length)→b'=b2+sQ (fun i=>if i≤n then 0 else cj (coP r i)) (av p').length→
       (∀x,aF O2 x=aF O x+if D≤n then k* aF t (u+v* x) else 0)→b2=b+(if D≤n then 0 else cj k)→
       (∀x,aF p x=sQ (fun i=>coP r i* aF (chP i).1 x) (D+1))∧(∀x,aF O' x=aF O x+sQ (fun i=>if i≤n then coP r i* aF (chP i).1 (u+v* x) else 0) (D+1))∧b'=b+sQ (fun i=>if i≤n then 0 else cj (coP r i)) (D+1):=fun O2 O' b2 b' e1 e2 e3 e4 e5 e6=>by
    have r0:∀j,(av p').length≤j→j< D→coP r j=0:=fun j h1 h2=>by
     rw[e1 j h1,hset,if_neg (by omega)];exact hz j (by omega)
    have rD:coP r D=k:=by rw[e1 D hdr,hset,if_pos rfl]
    refine⟨fun x=>?_,fun x=>?_,?_⟩;rw[sQ,sI _ D hdr fun j h1 h2=>by rw[r0 j h1 h2];grind,←e2,ev,rD,ht];rw[sQ,sI _ D hdr fun j h1 h2=>by rw[r0 j h1 h2];split <;> grind,e3,e5,rD,ht];grind;rw[sQ,sI _ D hdr fun j h1 h2=>by rw[r0 j h1 h2];split <;> first|rfl|decide+kernel,e4,e6,rD];grind
   by_cases hn:D≤n;rw[if_pos hn];obtain⟨O',b',i1,i2,i3,i4,i5,i6,i7⟩:=El n u v f p' (out.set D k) r (ik O (aW (cM [u,v] t) k)) b h (by omega) hz2 (ft _);obtain⟨f1,f2,f3⟩:=fin _ O' b b' i3 i5 i6 i7 (fun x=>by rw[if_pos hn,jo,eS,lH,Cw];grind) (by rw[if_pos hn];grind);refine⟨O',b',i1,by rw[i2,List.length_set],fun i hi=>?_,i4,by rw[hD];exact f1,by rw[hD];exact f2,by rw[hD];exact f3⟩;rw[i3 i (by omega),hset,if_neg (by omega)];rw[if_neg hn];obtain⟨O',b',i1,i2,i3,i4,i5,i6,i7⟩:=El n u v f p' (out.set D k) r O (b+cj k) h (by omega) hz2 hO;obtain⟨f1,f2,f3⟩:=fin _ O' _ b' i3 i5 i6 i7 (fun x=>by rw[if_neg hn];grind) (by rw[if_neg hn]);refine⟨O',b',i1,by rw[i2,List.length_set],fun i hi=>?_,i4,by rw[hD];exact f1,by rw[hD];exact f2,by rw[hD];exact f3⟩;rw[i3 i (by omega),hset,if_neg (by omega)]
def ecG(G:Nat):Nat→Nat
 |0=>G
 |j+1=>2* ecG G j+40
theorem py(G:Nat):∀{i j:Nat},i≤j→ecG G i≤ecG G j:=fun{i j} h=>by
 induction j with
 |zero=>rw[show i=0 by omega];exact Nat.le_refl _
 |succ j ih=>
  by_cases e:i=j+1;rw[e];exact Nat.le_refl _;have:=ih (by omega);rw[ecG];omega
theorem BS(G:Nat)(hG:1≤G):∀(d j:Nat) (p out:Lq),(av p).length≤d→d+j≤8→ecG G 8≤110000000→bdL p (ecG G j)→p.length≤1000→(av p).length≤out.length→out.length≤1000→(∀i,qs (coP out i)≤ecG G 8+20)→
    ∃r,toM (d+1) p out=some r∧∀i,qs (coP r i)≤ecG G 8+20
 |0,j,p,out,h1,_,_,_,h5,_,_,h8=>by
  have h0:av p=[]:=List.length_eq_zero_iff.1 (by omega);exact⟨out,by rw[toM,if_pos h0,if_pos (by omega)],h8⟩
 |d+1,j,p,out,h1,h2,h3,h4,h5,h6,h7,h8=>by
  by_cases h0:av p=[];exact⟨out,by rw[toM,if_pos h0,if_pos (by omega)],h8⟩;obtain⟨D,hD⟩:∃D,(av p).length=D+1:=⟨(av p).length- 1,by have:=List.length_pos_iff.2 h0;omega⟩;obtain⟨c1,c2,c3,c4,c5⟩:=fS D (by omega);have cb:=C4 (show D≤8 by omega);have g1:1≤ecG G j:=Nat.le_trans hG (py G (Nat.zero_le j));have g2:ecG G j≤ecG G 8:=py G (by omega)
  have q1:qs (aT p)≤ecG G j:=by
   have e:coP (av p) D=aT (av p):=kw (ft p) hD;rw[gQ,lj] at e;rw[←e];exact dL h4 g1 D
  have q2:qs (aT (chP D).1)≤10:=by
   rw[←kw c2 c1];exact dL cb (by decide) D
  have q3:=fP (aT p) (aT (chP D).1);obtain⟨k,hk⟩:∃k,k=aT p/ aT (chP D).1:=⟨_,rfl⟩;rw[←hk] at q3;have b1:=gi cb (by decide) (show qs k≤ecG G j+10 by omega)
  have b2:bdL (dH p (aW (chP D).1 k)) (ecG G (j+1)):=j7 fun i=>by
   rw[rU];have a1:=dL h4 g1 i;have a2:=dL b1 (by omega) i;have a3:=nZ (coP p i) (coP (aW (chP D).1 k) i);rw[ecG];omega
  have hdr:=xi hD (by omega);rw[←hk] at hdr
  have hsl:(dH p (aW (chP D).1 k)).length≤1000:=by
   have h1:=xI p (aW (chP D).1 k);have h2:=cm (chP D).1 k;omega
  have hset:∀i,qs (coP (out.set D k) i)≤ecG G 8+20:=fun i=>by
   unfold coP;rw[List.getD_eq_getElem?_getD,List.getElem?_set];split;split;show qs k≤_;omega;show qs 0≤_;exact Nat.le_trans (by decide:qs 0≤1) (by omega);rw[←List.getD_eq_getElem?_getD];exact h8 i
  obtain⟨r,r1,r2⟩:=BS G hG d (j+1) (dH p (aW (chP D).1 k)) (out.set D k) (by omega) (by omega) h3 b2 hsl (by rw[List.length_set];omega) (by rw[List.length_set];exact h7) hset;refine⟨r,?_,r2⟩;rw[toM,if_neg h0];simp only[];rw[show(av p).length- 1=D by omega,←hk,if_pos ?_,r1];refine⟨by omega,jD h4 (by omega),jD cb (by decide),c4,by unfold sm;omega,jD b1 (by omega),by omega,by omega⟩

def cmZ(p:Lq)(u v:Rat):Nat→AState
 |i=>⟨[(0,.arr (rE (rP p))),(1,.arr (rE (rP [u,v]))),(5,.arr (rE (rP (cmL u v p i)))),(6,.arr (rE (rP (pwL u v i)))),(7,i64 i)],[],1,28⟩
theorem pj(p:Lq)(u v:Rat)(s:Nat)(hu:qs u≤100)(hv:qs v≤100)(hp:bdL p s)(hs:1≤s)(hl:p.length≤8)(hs2:s≤1000000000):FS 55 [.arr (rE (rP p)),.arr (rE (rP [u,v]))] (.arr (rE (rP (cM [u,v] p)))):=by
 have hi1:=jb 1 (by decide);have hco:=pi i1Q;have hpl:=mJ p;have hB:oH 8≤53000:=by decide
 refine f_c Tryz.func55 ?_;refine r_z 1 ?_;refine r_z 1 ?_;refine r_c 3 (hi1) ?_;refine c_s (hco) ?_;refine a_z ?_;refine ac (r_z 1 ?_);refine aI (fun _:Unit=>⟨[(5,.arr (rE (rP (cmL u v p p.length))))],[],1,28⟩) (fun _=>True) ?_ ?_;refine am (aC (cmZ p u v) (fun i=>p.length- i) (fun i=>i≤p.length) 0 (Nat.zero_le _) ?_ ?_);rw[cmZ.eq_1];exact s_f [];intro i hi;rw[cmZ.eq_1];have hrl:(rE (rP p)).length=p.length:=by simp[rE]
 by_cases hlt:i< p.length
 have hgt:(rE (rP p))[((i:Nat):Int).toNat]?=some (rC (rq (coP p i))):=by
  obtain⟨y,hy,hyc⟩:=nU (x:=rP p) (i:=i) (by omega)
  have hv:y=rq (coP p i):=by
   have h1:(rP p)[i]?=some (rq p[i]):=by simp[rP,hlt]
   rw[hy] at h1;cases h1;unfold coP;rw[List.getD_eq_getElem?_getD,List.getElem?_eq_getElem hlt];rfl
  rw[hv] at hy;exact jT hy
 have b1:=Am hu hv i;have b2:=Cg (show i≤8 by omega);have b3:=oG i;have b4:=dL hp hs i;obtain⟨b5,b6⟩:=Bu hu hv hp hs (by omega) i hi;have l1:=v8 u v i;have m1:=jn (rP (pwL u v i)) (rq (coP p i)) (oH i) (eD _) (cY _) (by rw[cW];exact b1) (by show oH i+qs (coP p i)≤_;omega) (by simp;omega);rw[cW] at m1;have s1:=gi b1 b3 b4;have sl:=cm (pwL u v i) (coP p i);have e1:i* (53000+s+1)≤8* (53000+s+1):=Nat.mul_le_mul_right _ (by omega);have he:i* (53000+s+1)+1+(oH i+s)+64≤1099511627776:=by omega
 have m2:=pk (rP (cmL u v p i)) (rP (aW (pwL u v i) (coP p i))) _ _ (eD _) (eD _) (by rw[cW];exact b5) (by rw[cW];exact s1) he (by simp;omega) (by simp;omega);rw[cW,cW] at m2
 have m3:=yA (rP (pwL u v i)) (rP [u,v]) (oH i) 100 (2* (oH i+100+1)+1) (eD _) (eD _) (by rw[cW];exact b1) (by rw[cW];exact xr hu hv) b3 (fun n hn=>by
  rw[cW,cW];exact dN (Cu b1 (xr hu hv) b3 (by decide) n) (Nat.add_le_add_right (Nat.mul_le_mul_right _ (by simpa using hn)) 1)) (by omega) (by simp;omega) (by simp)
 rw[cW,cW] at m3;refine ac (s_r 4 ?_);refine a_3 ?_;refine o_0 (.bin rfl rfl (vT cw (decide_eq_true (by omega)))) ?_;refine an ?_;refine cT (ak (ac (am (s_r 9 ?_))));refine a_4 ?_;refine i_x hgt ?_;refine l_x hgt ?_;refine c_s (m1) ?_;refine c_s (m2) ?_;refine a_z ?_;refine r_m 4 ?_;refine c_s (m3) ?_;refine a_z ?_;refine r_m 3 ?_;refine a_z ?_;refine⟨i+1,by omega,by omega,?_⟩;rw[cmZ.eq_1,cmL,pwL];exact s_f [];have hge:i=p.length:=by omega
 refine ac (s_r 4 ?_);refine a_3 ?_;refine o_0 (.bin rfl rfl (vF cw (decide_eq_false (by omega)))) ?_;refine an ?_;refine cF (aA ⟨(),trivial,?_⟩);rw[hge];exact s_f [];rintro _ _;rw[zu];refine r_z 2 ?_;exact aj (t_e (b8 _))
theorem nf{r:Ren}{hp hp':Hq}{id n:Nat}{cap:Option Nat}{B:ABlk}{L:List RQ}(h:Shr r hp hp')(hi:dz hp id=some B)(hi':BG r hp' id)(he:B.es=rE L)(hn:n=L.length):Cv r hp hp' (.lsl id 0 n cap 4) (.arr (rE L)):=
 Cv.shut h hi hi' (by rw[he,hn];simp) (aM h (by rw[he,List.drop_zero];exact List.take_of_length_le (by simp[hn])) (fJ _))
theorem ch_next(k:Nat):dH (aW (ef [(0:Rat),1] (chP k).2) 2) (chP k).1=(chP (k+1)).2:=by
 have e:av (dH (aW (ef [(0:Rat),1] (chP k).2) 2) (chP k).1)=av (dH (ef twP (chP k).2) (chP k).1):=mj fun x=>by
  rw[mU,mU,eS,ie,ie];have h1:aF [(0:Rat),1] x=x:=by show(0* x+1) * x+0=x;grind
  have h2:aF twP x=2* x:=by unfold twP;rw[eS,h1];grind
  rw[h1,h2];grind
 have t1:∀a b:Lq,av (dH a b)=dH a b:=fun a b=>by unfold dH;exact ou _ _
 rw[t1,t1] at e;rw[e];rfl
theorem F9:bdL [(0:Rat),1] 20:=fun q hq=>by
 rcases List.mem_cons.1 hq with rfl|hq
 decide;rw[List.mem_singleton.1 hq];decide
theorem ch_sz:∀k,k≤8→mxL (chP k).2≤20∧(chP k).2.length≤10:=by decide+kernel
def fmZ(n:Nat):Nat→AState
 |k=>⟨[(0,.v (.int .u8 1)),(1,i64 n),(6,.arr (rE (rP [(0:Rat),1]))),(7,.arr (rE (rP (chP k).1))),(8,.arr (rE (rP (chP k).2))),(9,i64 ((k+1:Nat):Int))],[],1,103⟩
theorem AQ(n:Nat)(hn:n≤8):FS 60 [.v (.int .u8 1),i64 n] (.arr (rE (rP (chP n).1))):=by
 have i1:FS 59 [i64 1] (.agg (rC (rq 1))):=jb 1 (by decide);have i0:FS 59 [i64 0] (.agg (rC (rq 0))):=jb 0 (by decide);have i2:FS 59 [i64 2] (.agg (rC (rq 2))):=jb 2 (by decide);have c1:FS 120 [.agg (rC (rq 1))] (.arr (rE (rP (chP 0).1))):=pi 1;refine f_c Tryz.func60 ?_;refine r_z 1 ?_;refine r_c 7 (i1) ?_;refine c_s (c1) ?_;refine c_s (i0) ?_;refine c_s (i1) ?_;refine a_z ?_;refine r_z 4 ?_;refine AWp.ent (st':=⟨[(0,.v (.int .u8 1)),(1,i64 n),(6,.arr (rE (rP [(0:Rat),1]))),(7,.arr (rE (rP (chP 0).1))),(8,.arr (rE (rP (chP 0).2)))],[],1,103⟩) ?_ ?_;refine s_x [] (fun hs=>?_) (fun hs=>?_)
 ·repeat' (first|exact aH|refine ao rfl ?_ ?_|exact ah hs (b8 _)|exact nf (L:=rP [(0:Rat),1]) hs rfl (aP rfl) rfl rfl|exact aY)
 ·repeat' (first|exact aD|refine h_c ?_ ?_|exact bG|refine aw ?_|exact ax|refine af ?_ ?_|exact ah hs (b8 _)|exact nf (L:=rP [(0:Rat),1]) hs rfl (aP rfl) rfl rfl|exact aY)
 refine ac (s_r 6 ?_);refine a_1 ?_;refine o_0 (.bin rfl rfl (vF aJ (rfl))) ?_;refine a_1 ?_
 first|refine aE rfl rfl rfl (.move rfl) rfl rfl ?_|refine dM rfl rfl (by first|(simp[cD];done)|exact nofun) rfl rfl ?_
 refine aE rfl rfl rfl (.bin rfl rfl (vF aJ (rfl))) rfl rfl ?_;refine a_z ?_;refine cF (ak (ac (s_r 2 ?_)));refine a_1 ?_;refine o_0 (.bin rfl rfl (vF aJ (rfl))) ?_;refine an ?_;refine cF (ak ?_);by_cases hn0:n=0;subst hn0;refine ac (s_r 2 ?_);refine a_1 ?_;refine o_0 (.bin rfl rfl (vT aJ (rfl))) ?_;refine an ?_;refine cT (r_z 2 ?_);exact aj (t_e (b8 _));refine ac (s_r 2 ?_);refine a_1 ?_;refine o_0 (.bin rfl rfl (vF aJ (neI (by omega)))) ?_;refine an ?_;refine cF (ak (ac (r_z 1 ?_)));refine aI (fun _:Unit=>⟨[(8,.arr (rE (rP (chP n).1)))],[],1,103⟩) (fun _=>True) ?_ ?_;refine am (aC (fmZ n) (fun k=>n- k) (fun k=>k+1≤n) 0 (by omega) ?_ ?_);rw[fmZ.eq_1];exact s_f [];intro k hk;rw[fmZ.eq_1];by_cases hlt:k+1< n;obtain⟨s1,s2⟩:=ch_sz k (by omega);obtain⟨z1,_,z2,_⟩:=fS k (by omega);have b0:bdL [(0:Rat),1] 20:=F9;have b1:bdL (chP k).2 20:=dN (dK _) s1;have b2:bdL (chP k).1 10:=dN (dK _) z2;have mb:∀m,m≤(chP k).2.length→bdL (mR [(0:Rat),1] (chP k).2 m) 1000:=fun m hm=>dN (Cu b0 b1 (by decide) (by decide) m) (Nat.le_trans (Nat.add_le_add_right (Nat.mul_le_mul_right _ (Nat.le_trans hm s2)) 1) (by decide));have m1:=yA (rP [(0:Rat),1]) (rP (chP k).2) 20 20 1000 (eD _) (eD _) (by rw[cW];exact b0) (by rw[cW];exact b1) (by decide) (fun m hm=>by rw[cW,cW];exact mb m (by simpa[rP] using hm)) (by decide) (by simp[rP]) (by simp[rP];omega);rw[cW,cW] at m1;have bm:bdL (ef [(0:Rat),1] (chP k).2) 1000:=by rw[←tg];exact mb _ (Nat.le_refl _)
 have lm:(ef [(0:Rat),1] (chP k).2).length≤100:=by
  have:=wt [(0:Rat),1] (chP k).2 (chP k).2.length;rw[tg] at this;simp only[List.length_cons,List.length_nil] at this;omega
 have m2:=jn (rP (ef [(0:Rat),1] (chP k).2)) (rq 2) 1000 (eD _) (cY _) (by rw[cW];exact bm) (Nat.le_trans (Nat.add_le_add_left (by decide:qs (rq 2).1≤10) 1000) (by decide)) (by simp[rP];omega);rw[cW] at m2;have bs:=gi (k:=2) (t:=10) bm (by decide) (by decide);have ls:=cm (ef [(0:Rat),1] (chP k).2) 2;have m3:=yy (rP (aW (ef [(0:Rat),1] (chP k).2) 2)) (rP (chP k).1) _ 10 (eD _) (eD _) (by rw[cW];exact bs) (by rw[cW];exact b2) (by decide) (by decide) (by simp[rP];omega) (by simp[rP];omega);rw[cW,cW,ch_next] at m3;refine ac (s_r 3 ?_);refine a_2 ?_;refine o_0 (.bin rfl rfl (vT cw (decide_eq_true (by omega)))) ?_;refine an ?_;refine cT (ak (ac (am (r_z 1 ?_))));refine ac (r_z 1 ?_);refine aI (fun _:Unit=>⟨[(0,.v (.int .u8 1)),(1,i64 n),(6,.arr (rE (rP [(0:Rat),1]))),(8,.arr (rE (rP (chP k).2))),(9,i64 ((k+1:Nat):Int)),(10,.arr (rE (rP (chP (k+1)).2)))],[],1,103⟩) (fun _=>True) ?_ ?_;refine am (ac (s_r 2 ?_));refine o_0 (.bin rfl rfl (vT aJ (rfl))) ?_;refine a_z ?_;refine cT (ak (cT (r_m 8 ?_)));refine c_s (m1) ?_;refine c_s (i2) ?_;refine c_s (m2) ?_;refine c_s (m3) ?_;refine a_z ?_;refine⟨(),trivial,?_⟩;exact s_f [];rintro _ _;refine r_m 4 ?_;refine a_z ?_;refine r_m 3 ?_;refine a_z ?_;refine⟨k+1,by omega,by omega,?_⟩;rw[fmZ.eq_1];exact s_f [];obtain rfl:n=k+1:=by omega
 refine ac (s_r 3 ?_);refine a_2 ?_;refine o_0 (.bin rfl rfl (vF cw (decide_eq_false (by omega)))) ?_;refine an ?_;refine cF (aA ⟨(),trivial,?_⟩);exact s_f [];rintro _ _;refine r_z 2 ?_;exact aj (t_e (b8 _))
end Go.Proofs.YtjgokhkahkmpbaaGreatDoor
