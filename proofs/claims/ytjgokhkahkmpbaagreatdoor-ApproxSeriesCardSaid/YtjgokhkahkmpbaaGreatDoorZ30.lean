/- Part Z30 of the proof. -/
import Derived.Test.YtjgokhkahkmpbaaGreatDoorZ29
set_option linter.all false
namespace Go.Proofs.YtjgokhkahkmpbaaGreatDoor
open Go.Abs
set_option maxRecDepth 100000
set_option maxHeartbeats 8000000
def shQ(n i:Nat):Rat:=((i:Int):Rat) / (((n:Int)+1:Int):Rat)
def mnX(s:Sp)(n i:Nat):Rat:=s.1+(s.2- s.1) * shQ n i
def mnD(F:Lq)(s:Sp)(n:Nat):Dt:=⟨aL (n+2) (mnX s n),aL (n+2) fun i=>aA F (mnX s n i),[]⟩
def okMn(F:Lq)(s:Sp)(n:Nat):Prop:=n≤12∧sz1 s.1∧sz1 (s.2- s.1)∧sz1 s.2∧∀i,i< n+2→sz1 ((i:Int):Rat)∧sz1 (shQ n i)∧sz1 ((s.2- s.1) * shQ n i)∧dI F (mnX s n i)
instance (F:Lq) (s:Sp) (n:Nat):Decidable (okMn F s n):=inferInstanceAs (Decidable (_∧_∧_∧_∧_))
abbrev na0:La:=[.emp,.emp]++(zC++zC)
theorem fR:∀c∈na0,Closed c:=cw (ac aN (ac aN ai)) (cw bJ bJ)
def mnH(s:Sp)(n:Nat):Nat→Hp
 |0=>[]
 |i+1=>[(2,some ⟨42,3,pE (aL (i+1) (mnX s n))⟩)]
def mnS(F:Lq)(s:Sp)(n:Nat)(w:Rat):Nat→AState
 |i=>⟨[(0,.arr (pE F)),(2,i64 n),(5,bS s),(7,bQ w),(8,.lptr 1 0 0),(9,lvV 2 i),(23,i64 ((n:Int)+2)),(24,i64 i)],(1,some ⟨86,8,[na0]⟩)::mnH s n i,3,121⟩
def mnV(b i:Nat):AV:=match i with|0=> .emp|i+1=> .lsl b 0 (i+1) none 1
def mnK(F:Lq)(s:Sp)(n:Nat):Nat→Hp
 |0=>[]
 |i+1=>[(3,some ⟨42,3,pE (aL (i+1) fun i=>aA F (mnX s n i))⟩),(4,some ⟨3,1,nE (List.range (i+1))⟩)]
def mkS(F:Lq)(s:Sp)(n:Nat)(w q:Rat)(A:Lq):Nat→AState
 |i=>⟨[(0,.arr (pE F)),(5,bS s),(7,bQ w),(8,.lptr 1 0 0),(9,.arr (pE A)),(12,bQ q),(13,.lptr 2 0 0),(14,mnV 4 i),(49,.arr (pE A)),(50,i64 A.length),(51,i64 i)],(1,some ⟨86,8,[na0]⟩)::(2,some ⟨82,3,[[.arr (pE A),lvV 3 i,.emp]]⟩)::mnK F s n i,5,121⟩
theorem yu (F:Lq) (s:Sp) (n:Nat) (w:Rat) (p:Lq) (K:Nat) (u:Sp) (ok:okMn F s n) (hw:sz1 w) (hl:Ao (mnD F s n) (List.range (n+2))=some p) (mF:smL F) (mp:smL p) (lF:F.length≤1000) (lp:p.length≤1000)
    (hfi:FS 151 [.agg (qC (w/ 4))] (i64 K)) (hdi:FS 150 [.arr (pE (fK F p)),.agg (spC s.1 s.2),i64 K] (.agg (spC u.1 u.2))) (hu:sz1 u.2) (hH:sz1 (hD (mnD F s n) (List.range (n+2)))) (hH0:hD (mnD F s n) (List.range (n+2))≠0)
    (hle:u.2- cI (hD (mnD F s n) (List.range (n+2)))≤w) (hsm:sm (u.2- cI (hD (mnD F s n) (List.range (n+2))))):
    FS 92 [.arr (pE F),.agg (spC s.1 s.2),i64 n,.agg (qC w)] (.agg (naC p (aL (n+2) (mnX s n)) (cI (hD (mnD F s n) (List.range (n+2)))) u.2)):=by
 obtain⟨o1,o2,o3,o4,o5⟩:=ok;have hwd:=mf s.1 s.2 o2.sm o4.sm;have hn1:=cN ((n:Int)+1) (by omega)
 have hnz:(((n:Int)+1:Int):Rat)≠0:=by
  intro e;have:(n:Int)+1=0:=by exact_mod_cast e
  omega
 have hq1:qs (((n:Int)+1:Int):Rat)≤100:=by
  have:n=0∨n=1∨n=2∨n=3∨n=4∨n=5∨n=6∨n=7∨n=8∨n=9∨n=10∨n=11∨n=12:=by omega
  rcases this with rfl|rfl|rfl|rfl|rfl|rfl|rfl|rfl|rfl|rfl|rfl|rfl|rfl <;> decide
 refine f_c Tryz.func92 ?_;refine r_z 3 ?_;refine r_z 1 ?_;refine ae (r_z 3 ?_);refine aH (fun _:Unit=>⟨[(0,.arr (pE F)),(5,bS s),(7,bQ w),(8,.lptr 1 0 0),(9,.arr (pE (aL (n+2) (mnX s n))))],[(1,some ⟨86,8,[na0]⟩)],2,121⟩) (fun _=>True) ?_ ?_
 ·refine ak (aC (mnS F s n w) (fun i=>n+2- i) (fun i=>i≤n+2) 0 (Nat.zero_le _) ?_ ?_)
  rw[mnS.eq_1];simp only[lvV,mnH];exact s_x [(1,8)] (fun hs=>e_49) (fun hs=>e_50);intro i hi;rw[mnS.eq_1];by_cases hlt:i< n+2;rotate_left;have hge:i=n+2:=by omega
  subst hge;refine q_z 1 ?_;refine ae (cF (aB ⟨(),trivial,?_⟩));simp only[lvV,mnH];have lx:(pE (aL (n+1+1) (mnX s n))).length=n+1+1:=eE _ _;refine s_x [] (fun hs=>?_) (fun hs=>?_)
  ·repeat' (first|exact aG|refine aj rfl ?_ ?_|exact ah hs (bw s)|exact ah hs (aO w)|exact ah hs (ao _)|(refine Cv.shut hs rfl (aQ rfl) (by rw[Nat.zero_add];exact Nat.le_of_eq lx.symm) ?_;exact aI hs (by rw[List.drop_zero];exact List.take_of_length_le (Nat.le_of_eq lx)) (aF _))|exact aW)
  ·repeat' (first|exact aD|refine h_c ?_ ?_|exact aw (CvL.clo hs fR)|exact bC|refine aw ?_|exact ay|refine af ?_ ?_|exact ah hs (bw s)|exact ah hs (aO w)|exact ah hs (ao _)|(refine Cv.shut hs rfl (aQ rfl) (by rw[Nat.zero_add];exact Nat.le_of_eq lx.symm) ?_;exact aI hs (by rw[List.drop_zero];exact List.take_of_length_le (Nat.le_of_eq lx)) (aF _))|exact aW)
  obtain⟨i1,i2,i3,i4⟩:=o5 i hlt;have hI:=cN (i:Int) (by omega);have hov:=gz ((i:Int):Rat) (((n:Int)+1:Int):Rat) hnz (by unfold sz1 at i1;omega);rw[show((i:Int):Rat) / (((n:Int)+1:Int):Rat)=shQ n i from rfl] at hov;have hmu:=c7 (s.2- s.1) (shQ n i) (o3.two i2);have had:=ff s.1 ((s.2- s.1) * shQ n i) (o2.two i3);rw[show s.1+(s.2- s.1) * shQ n i=mnX s n i from rfl] at had;have ex:pE (aL (i+1) (mnX s n))=pE (aL i (mnX s n))++[qC (mnX s n i)]:=jM _ _;refine q_z 1 ?_;refine ae (cT (an (ae (ak (r_z 2 ?_)))));refine r_c 8 (hI) ?_;refine c_s (hn1) ?_;refine c_s (hov) ?_;refine a_z ?_;cases i with
  |zero=>
   simp only[lvV,mnH];refine r_d hmix 11 ?_;refine c_s (hwd) ?_;refine c_s (hmu) ?_;refine c_s (had) ?_;refine a_3 ?_;refine aq (n_k ?_);refine r_m 2 ?_;refine a_z ?_;refine⟨0+1,by omega,by omega,?_⟩;rw[mnS.eq_1];simp only[lvV,mnH];exact s_x [(2,9)] (fun hs=>e_51) (fun hs=>e_52)
  |succ i=>
   simp only[lvV,mnH];have lx:(pE (aL (i+1) (mnX s n))).length=i+1:=eE _ _;refine r_d hmix 11 ?_;refine c_s (hwd) ?_;refine c_s (hmu) ?_;refine c_s (had) ?_;refine a_3 ?_;refine aq (n_k ?_);refine r_m 2 ?_;refine a_z ?_;refine⟨i+1+1,by omega,by omega,?_⟩;rw[mnS.eq_1];simp only[lvV,mnH];exact s_x [(2,9)] (fun hs=>e_51) (fun hs=>e_52)
 rintro _ _;have h4:=cN 4 (by decide);have hq4:qs ((4:Int):Rat)≤10:=by decide
 have hov4:=gz w ((4:Int):Rat) (by decide) (by unfold sz1 at hw;omega);rw[show((4:Int):Rat)=4 from rfl] at hov4 h4;obtain⟨A,hA⟩:∃A,A=aL (n+2) (mnX s n):=⟨_,rfl⟩;have hAl:A.length=n+2:=by rw[hA];simp[aL]
 have hdX:(mnD F s n)=⟨A,aL (n+2) fun i=>aA F (mnX s n i),[]⟩:=by rw[hA];rfl
 have hlv:=yv (mnD F s n) (List.range (n+2)) p (by simp[mnD,aL]) (.inl rfl) hl;rw[hdX] at hlv;obtain⟨Hh,hHh⟩:∃Hh,Hh=hD (mnD F s n) (List.range (n+2)):=⟨_,rfl⟩;rw[←hHh] at hH hH0 hle hsm⊢;rw[←hdX,←hHh] at hlv;rw[hdX] at hlv;rw[←hA];have hAc:∀i,i< n+2→∀e,e=i→(pE A)[e]?=some (qC (mnX s n i)):=fun i hi e he=>by rw[hA];exact qY _ hi e he
 have hsu:=ni F p mF mp (by omega) (by omega);have hab:=eH Hh;have hsb:=gx u.2 (cI Hh) (by unfold sz1 at hu hH;rw[qs_abs];omega);have hcm:=dJ (u.2- cI Hh) w hsm hw.sm;have hsg:=b6 Hh;refine ae (r_d hmix 5 ?_);refine c_s (h4) ?_;refine c_s (hov4) ?_;refine a_2 ?_;refine aq (n_k ?_);refine AWp.ent (st':=⟨[(0,.arr (pE F)),(5,bS s),(7,bQ w),(8,.lptr 1 0 0),(9,.arr (pE A)),(12,bQ (w/ 4))],[(1,some ⟨86,8,[na0]⟩)],2,121⟩) ?_ ?_;refine s_x [] (fun hs=>?_) (fun hs=>?_)
 ·repeat' (first|exact aG|refine aj rfl ?_ ?_|exact ah hs (bw s)|exact ah hs (aO w)|exact ah hs (ao _)|exact Cv.boxp hs rfl (aQ rfl) rfl (aU _)|exact aW)
 ·repeat' (first|exact aD|refine h_c ?_ ?_|exact aw (CvL.clo hs fR)|exact bC|refine aw ?_|exact ay|refine af ?_ ?_|exact ah hs (bw s)|exact ah hs (aO w)|exact ah hs (ao _)|exact Cv.boxp hs rfl (aQ rfl) rfl (aU _)|exact aW)
 refine ak (aC (fun _:Unit=>⟨[(0,.arr (pE F)),(5,bS s),(7,bQ w),(8,.lptr 1 0 0),(9,.arr (pE A)),(12,bQ (w/ 4))],[(1,some ⟨86,8,[na0]⟩)],2,121⟩) (fun _=>0) (fun _=>True) () trivial (SEnt.refl _) ?_);rintro⟨⟩ _;refine ak (r_z 4 ?_);refine r_z 1 ?_;refine ae (r_z 3 ?_);refine aH (fun _:Unit=>⟨[(0,.arr (pE F)),(5,bS s),(7,bQ w),(8,.lptr 1 0 0),(9,.arr (pE A)),(12,bQ (w/ 4)),(13,bD ⟨A,aL (n+2) fun i=>aA F (mnX s n i),[]⟩),(14,.arr (nE (List.range (n+2))))],[(1,some ⟨86,8,[na0]⟩)],2,121⟩) (fun _=>True) ?_ ?_
 ·refine ak (aC (mkS F s n w (w/ 4) A) (fun i=>n+2- i) (fun i=>i≤n+2) 0 (Nat.zero_le _) ?_ ?_)
  rw[mkS.eq_1];simp only[lvV,mnV,mnK];refine s_x [(2,13)] (fun hs=>?_) (fun hs=>?_)
  ·repeat' (first|exact aG|refine aj rfl ?_ ?_|exact ah hs (bw s)|exact ah hs (aO _)|exact ah hs (ao _)|(refine Cv.loE hs ?_ (ag _);simp[i64,hAl];done)|exact aW)
  ·repeat' (first|exact aD|refine h_c ?_ ?_|exact aw (CvL.clo hs fR)|exact aw (CvL.clo hs (ac (ao _) (ac aN (ac aN ai))))|exact bC|refine aw ?_|exact ay|refine af ?_ ?_|exact ah hs (bw s)|exact ah hs (aO _)|exact ah hs (ao _)|(refine Cv.loE hs ?_ (ag _);simp[i64,hAl];done)|exact aW)
  intro i hi;rw[mkS.eq_1];by_cases hlt:i< n+2;rotate_left;have hge:i=n+2:=by omega
  subst hge;refine q_z 1 ?_;refine ae (cF (aB ⟨(),trivial,?_⟩));simp only[lvV,mnV,mnK];have lx:(pE (aL (n+1+1) fun i=>aA F (mnX s n i))).length=n+1+1:=eE _ _;refine s_x [] (fun hs=>?_) (fun hs=>?_)
  ·repeat' (first|exact aG|refine aj rfl ?_ ?_|exact ah hs (bw s)|exact ah hs (aO _)|exact ah hs (ao _)|(refine Cv.shut hs rfl (aQ rfl) (by simp) ?_;exact aI hs (by rw[List.drop_zero];exact List.take_of_length_le (by simp)) (dm _))|(refine Cv.sealp hs rfl (aQ rfl) Nat.zero_lt_one ?_;exact aw (af (ah hs (ao _)) (af (Cv.sealE hs rfl (aQ rfl) rfl lx.symm (aF _)) (af (Cv.emp _) ay))))|exact aW)
  ·repeat' (first|exact aD|refine h_c ?_ ?_|exact aw (CvL.clo hs fR)|exact bC|refine aw ?_|exact ay|refine af ?_ ?_|exact ah hs (bw s)|exact ah hs (aO _)|exact ah hs (ao _)|(refine Cv.shut hs rfl (aQ rfl) (by simp) ?_;exact aI hs (by rw[List.drop_zero];exact List.take_of_length_le (by simp)) (dm _))|(refine Cv.sealp hs rfl (aQ rfl) Nat.zero_lt_one ?_;exact aw (af (ah hs (ao _)) (af (Cv.sealE hs rfl (aQ rfl) rfl lx.symm (aF _)) (af (Cv.emp _) ay))))|exact aW)
  obtain⟨i1,i2,i3,i4⟩:=o5 i hlt;have hE:=eI F (mnX s n i) i4;have ex:pE (aL (i+1) fun i=>aA F (mnX s n i))=pE (aL i fun i=>aA F (mnX s n i))++[qC (aA F (mnX s n i))]:=jM _ _;have hsn:nE (List.range (i+1))=nE (List.range i)++[[i64 i]]:=by rw[List.range_succ,po];rfl
  refine q_z 1 ?_;refine ae (cT (an (ae (ak (s_r 6 ?_)))));refine a_1 ?_
  first|refine ax (.index_l rfl rfl (by omega) (by omega) te_29.h) rfl rfl ?_|refine ax (.index_a rfl rfl (by omega) (hAc i hlt _ (by omega)) rfl te_29.h) rfl rfl ?_
  first|refine ax (.load_l rfl rfl (hAc i hlt _ (by omega)) TG.h TS.h (nle rfl)) rfl rfl ?_|refine ax (.load_a rfl (hAc i hlt _ (by omega)) TG.h TS.h (nle rfl)) rfl rfl ?_
  refine a_z ?_;cases i with
  |zero=>
   simp only[lvV,mnV,mnK];refine r_d hmix 14 ?_;refine c_s (hE) ?_;refine a_8 ?_;refine a_1 ?_;refine aq (n_k ?_);refine r_m 2 ?_;refine a_z ?_;refine⟨0+1,by omega,by omega,?_⟩;rw[mkS.eq_1];simp only[lvV,mnV,mnK];exact s_x [(3,62),(4,14)] (fun hs=>e_53) (fun hs=>e_54)
  |succ i=>
   simp only[lvV,mnV,mnK];have lx:(pE (aL (i+1) fun i=>aA F (mnX s n i))).length=i+1:=eE _ _;have hon:=sS (List.range (i+1));have hlr:(nE (List.range (i+1))).length=i+1:=by simp
   refine r_d hmix 14 ?_;refine c_s (hE) ?_;refine a_8 ?_;refine a_1 ?_;refine aq (n_k ?_);refine r_m 2 ?_;refine a_z ?_;refine⟨i+1+1,by omega,by omega,?_⟩;rw[mkS.eq_1];simp only[lvV,mnV,mnK];exact s_x [(3,62),(4,14)] (fun hs=>e_53) (fun hs=>e_54)
 rintro _ _;refine r_c 9 (hlv) ?_;refine a_z ?_;refine r_c 4 (hsu) ?_;refine a_z ?_;refine ae (r_d hmix 7 ?_);refine c_s (hfi) ?_;refine c_s (hdi) ?_;refine a_2 ?_;refine aq (n_k ?_);refine ae (ae (r_d hmix 8 ?_));refine c_s (hab) ?_;refine c_s (hsb) ?_;refine c_s (hcm) ?_;refine o_0 (.bin rfl rfl (vT fG (decide_eq_true (tI hle)))) ?_;refine aq (n_k ?_);refine cT (ae (r_c 3 (hsg) ?_));refine o_0 (.bin rfl rfl (vF aV (neI (mt sgZ_num_eq.1 hH0)))) ?_;refine aq ?_;refine cF (an (ae (r_d hmix 8 ?_)));refine c_s (hab) ?_;refine a_4 ?_;refine aq (n_k ?_);exact am (c_e (aK (eM _ _ _ _)))
def itO(l:List Int):Lq→Nat→AState
 |[],i=>⟨[(0,.arr (zE l)),(3,.emp),(4,i64 i)],[],1,20⟩
 |q::Q,i=>⟨[(0,.arr (zE l)),(3,.lsl 1 0 (Q.length+1) none 3),(4,i64 i)],[(1,some ⟨42,3,pE (q::Q)⟩)],2,20⟩
theorem og(l:List Int)(i:Nat):itO l [] i=⟨[(0,.arr (zE l)),(3,.emp),(4,i64 i)],[],1,20⟩:=rfl
theorem jV(l:List Int)(q:Rat)(Q:Lq)(i:Nat):itO l (q::Q) i=⟨[(0,.arr (zE l)),(3,.lsl 1 0 (Q.length+1) none 3),(4,i64 i)],[(1,some ⟨42,3,pE (q::Q)⟩)],2,20⟩:=rfl
theorem uR(l:List Int)(hl:l.length≤1099511627776)(hb:∀n∈l,-9223372036854775808≤n∧n≤9223372036854775807):FS 31 [.arr (zE l)] (.arr (pE (zR l))):=by
 refine f_n Tryz.func31 ?_ ?_;exact ac (aP (ew l)) ai;refine r_z 1 ?_;refine r_z 1 ?_;refine ae (r_z 1 ?_);refine aH (fun _:Unit=>itO l (zR l) l.length) (fun _=>True) ?_ ?_;refine ak (aC (fun i:Nat=>itO l (zR (l.take i)) i) (fun i=>l.length- i) (fun i=>i≤l.length) 0 (Nat.zero_le _) ?_ ?_);show SEnt _ (itO l [] 0);rw[og];have:=(aP (ew l));exact s_f [];rintro i hi;have hlen:(zE l).length=l.length:=by simp[zE]
 by_cases hlt:i< l.length
 ·obtain⟨n,hn⟩:∃n,l[i]?=some n:=⟨_,List.getElem?_eq_getElem hlt⟩
  have hgt:(zE l)[((i:Nat):Int).toNat]?=some [i64 n]:=by
   show(zE l)[i]?=_;simp[zE,hn]
  have hnb:=hb n (List.mem_of_getElem? hn);have htk:zR (l.take (i+1))=zR (l.take i)++[(n:Rat)]:=by rw[dx hn];simp[zR]
  have hQl:(zR (l.take i)).length=i:=by simp[zR];omega
  cases hQ:zR (l.take i) with
  |nil=>
   simp only[og];refine ae (r_z 4 ?_);refine au rfl (fun h=>?_) (fun h=>?_);rotate_left;exact absurd h (by simp[zE];omega);refine an (ae (ak (r_m 9 ?_)));refine a_3 ?_;refine i_x hgt ?_;refine l_1 hgt ?_;refine c_s (cN n hnb) ?_;refine a_z ?_;refine r_m 3 ?_;refine a_z ?_;refine⟨i+1,by omega,hlt,?_⟩;simp only[htk,hQ,List.nil_append,jV];have:=(aP (ew l));have:=(aF [(n:Rat)]);exact s_f [(1,3)]
  |cons q Q=>
   rw[hQ] at hQl;simp at hQl;simp only[jV];refine ae (r_z 4 ?_);refine au rfl (fun h=>?_) (fun h=>?_);rotate_left;exact absurd h (by simp[zE];omega);refine an (ae (ak (r_m 9 ?_)));refine a_3 ?_;refine i_x hgt ?_;refine l_1 hgt ?_;refine c_s (cN n hnb) ?_;refine a_z ?_;refine r_m 3 ?_;refine a_z ?_;refine⟨i+1,by omega,hlt,?_⟩;simp only[htk,hQ,List.cons_append,jV];have e:pE (q::Q)++[qC (n:Rat)]=pE (q::(Q++[(n:Rat)])):=by simp[pE]
   refine s_x [(1,3)] (fun hs=>e_15) (fun hs=>?_) e_5
   ·repeat' (first|exact aD|refine h_c ?_ ?_|exact aI hs e (aF _)|exact bC|refine aw ?_|exact ay|refine af ?_ ?_|exact ah hs (aP (ew l))|exact aW)
 have hge:i=l.length:=by omega
 subst hge;simp only[List.take_length];cases hQ:zR l with
 |nil=>
  simp only[og];refine ae (r_z 4 ?_);refine au rfl (fun h=>?_) (fun h=>?_);exact absurd h (by simp[zE]);refine aB ⟨(),trivial,?_⟩;simp only[hQ,og];have:=(aP (ew l));exact s_f []
 |cons q Q=>
  simp only[jV];refine ae (r_z 4 ?_);refine au rfl (fun h=>?_) (fun h=>?_);exact absurd h (by simp[zE]);refine aB ⟨(),trivial,?_⟩;simp only[hQ,jV];have:=(aP (ew l));exact s_f []
 rintro _ _;cases hQ:zR l with
 |nil=>
  simp only[og];refine r_z 2 ?_;exact am (Fin.tmpN rfl)
 |cons q Q=>
  simp only[jV];refine r_z 2 ?_;exact am (Fin.tmpS rfl rfl rfl (by simp) (aF _))
theorem qq(p q:Lq)(h:lE q p)(hp:p.length≤274877906944)(hq:q.length≤274877906944)(hd:0≤(if 0> ct p then 0 else ct p) * (if 0> ct q then 0 else ct q)∧(if 0> ct p then 0 else ct p) * (if 0> ct q then 0 else ct q)≤1000):FS 42 [.arr (pE p),.arr (pE q)] (.tup [.arr (pE (kX q p)),i64 0]):=by
 refine f_c Tryz.func42 ?_;refine r_z 2 ?_;refine ae (r_c 8 (bZ p (by omega)) ?_);refine c_s (bZ q (by omega)) ?_;refine d_z ?_;refine cF (an (r_c 5 (AS p q h hp) ?_));refine a_z ?_;refine am (Fin.many ⟨_,_,rfl,rfl,⟨_,_,rfl,rfl,rfl⟩⟩ (nle rfl) ?_);exact af (ah aE (ao _)) (af (ah aE (ag _)) ay)
theorem AU(F:Lq)(s:Sp)(n:Nat)(w:Rat)(r:La)(hs:s.1< s.2)(s1:sm s.1)(s2:sm s.2)(hw:0< w)(mw:sm w)(hn:n≤12)(hd:ct F≤40∧(n:Int)< ct F)(lF:F.length≤1000)(hf:sm (cg 200))(hw2:cg 200≤w)(hr:FS 92 [.arr (pE F),.agg (spC s.1 s.2),i64 n,.agg (qC w)] (.agg r))(hl:r.length=8)(hc:∀c∈r,Closed c)(ho:r.all AV.one=true):
    FS 30 [.arr (pE F),.agg (spC s.1 s.2),i64 n,.agg (qC w)] (.tup [.agg r,i64 0]):=by
 have hv:=gQ s.1 s.2 s1 s2;rw[decide_eq_true (tI (by grind))] at hv;have hsg:=b6 w;have hdg:=bZ F (by omega);have hfi:=iK 200;rw[show wi 200 256=200 by decide] at hfi;have hcm:=dJ w (cg 200) mw hf;have hwd:=mf s.1 s.2 s1 s2;have hsw:=b6 (s.2- s.1);have e1:¬sgZ w.num≤(0:Int):=fun e=>by have:=sg_leA.1 e;grind
 have e2:¬cZ w (cg 200)< 0:=fun e=>by have:=cq_lt.1 e;grind
 have e3:¬sgZ (s.2- s.1).num=0:=fun e=>by have:=sgZ_num_eq.1 e;grind
 refine f_c Tryz.func30 ?_;refine r_z 4 ?_;refine aZ (fun _:Unit=>⟨[(0,.arr (pE F)),(2,i64 n),(5,bS s),(7,bQ w),(8,.lptr 1 0 0)],[(1,some ⟨86,8,[na0]⟩)],2,64⟩) (fun _=>True) ?_ ?_;refine ak (r_c 9 (hv) ?_);refine e_s (hsg) ?_;refine d_z ?_;refine cF (q_z 7 ?_);refine cF (ae (r_d hmix 10 ?_));refine c_s (hdg) ?_;refine e_s (hfi) ?_;refine c_s (hcm) ?_;refine d_3 ?_;refine aq (n_k ?_);refine cF (r_c 5 (hdg) ?_);refine d_z ?_;refine cF (r_c 5 (hwd) ?_);refine c_s (hsw) ?_;refine o_0 (.bin rfl rfl (vF aV (neI e3))) ?_;refine a_z ?_;refine cF (an ⟨(),trivial,?_⟩);exact s_x [(1,8)] (fun hs=>e_49) (fun hs=>e_50);rintro _ _
 obtain⟨r0,r1,r2,r3,r4,r5,r6,r7,rfl⟩:∃a b c d e f g h,r=[a,b,c,d,e,f,g,h]:=by
  match r,hl with
  |[a,b,c,d,e,f,g,h],_=>exact⟨a,b,c,d,e,f,g,h,rfl⟩
 refine r_c 7 (hr) ?_;refine ep (.store rfl rfl rfl rfl rfl ho TS.h (nle rfl)) ?_;refine a_z ?_;refine am (Fin.many ⟨_,_,rfl,⟨_,_,_,_,_,rfl,rfl,rfl,.inl ⟨TG.h,_,TS.h,nle rfl,rfl⟩⟩,⟨_,_,rfl,rfl,rfl⟩⟩ (nle rfl) ?_);exact af (Cv.agg (CvL.clo aE hc)) (af (ah aE (ag _)) ay)
def ffM(l:Lq):Nat→Lq
 |0=>[]
 |i+1=>if i< l.length then kQ (ffM l i) (cj (chP i).1 (coP l i)) else ffM l i
def okFf(l:Lq):Prop:=l.length≤41∧smL l∧∀i,i< l.length→EY i∧smL (chP i).1∧smL (cj (chP i).1 (coP l i))∧smL (ffM l i)∧(chP i).1.length≤1000∧(ffM l i).length≤1000
instance (l:Lq):Decidable (okFf l):=inferInstanceAs (Decidable (_∧_∧_))
def ffS(l:Lq)(R:Lc):Nat→AState
 |i=>⟨[(0,.arr (pE l)),(4,.arr (pE (ffM l i))),(13,.arr R),(14,i64 ((l.length:Int)+1)),(15,i64 i)],[],1,34⟩
theorem wE(l:Lq)(ok:okFf l):FS 46 [.arr (pE l)] (.tup [.arr (pE (ffM l (l.length+1))),i64 0]):=by
 obtain⟨o1,o2,o3⟩:=ok;have hll:(pE l).length=l.length:=by simp[pE]
 have hfi:=uS l.length (by omega) fun k hk=>(o3 k hk).1;have hRc:=fw (jH (l.length+1));obtain⟨R,hR⟩:∃R,R=cE (jH (l.length+1)):=⟨_,rfl⟩;have hRl:R.length=l.length+1:=by rw[hR];simp[cE]
 rw[←hR] at hfi;have hRc:Closed (.arr R):=by rw[hR];exact fw _
 have hRg:∀i,i< l.length+1→∀e,e=i→R[e]?=some [.arr (pE (chP i).1)]:=fun i hi e he=>by
  subst he;rw[hR];refine tY ?_;rw[jH,List.getElem?_map,List.getElem?_range hi];rfl
 refine f_c Tryz.func46 ?_;refine r_z 2 ?_;refine ae (q_z 4 ?_);refine cF (an (r_z 1 ?_));refine ae (r_c 5 (hfi) ?_);refine a_z ?_;refine aH (fun _:Unit=>⟨[(4,.arr (pE (ffM l (l.length+1))))],[],1,34⟩) (fun _=>True) ?_ ?_
 ·refine ak (aC (ffS l R) (fun i=>l.length+1- i) (fun i=>i≤l.length+1) 0 (Nat.zero_le _) ?_ ?_)
  rw[ffS.eq_1];refine s_x [] (fun hs=>?_) (fun hs=>?_)
  ·repeat' (first|exact aG|refine aj rfl ?_ ?_|exact ah hs hRc|exact ah hs (ao _)|exact Cv.emp _|(refine Cv.loE hs ?_ (ag _);simp[i64,hRl];done)|exact aW)
  ·repeat' (first|exact aD|refine h_c ?_ ?_|exact bC|refine aw ?_|exact ay|refine af ?_ ?_|exact ah hs hRc|exact ah hs (ao _)|exact Cv.emp _|(refine Cv.loE hs ?_ (ag _);simp[i64,hRl];done)|exact aW)
  intro i hi;rw[ffS.eq_1];by_cases hlt:i< l.length+1;rotate_left;have hge:i=l.length+1:=by omega
  subst hge;refine q_z 1 ?_;refine ae (cF (aB ⟨(),trivial,?_⟩));exact s_e [];refine q_z 1 ?_;refine ae (cT (an (ae (ak (s_r 5 ?_)))));refine a_1 ?_
  first|refine ax (.index_l rfl rfl (by omega) (by omega) te_161.h) rfl rfl ?_|refine ax (.index_a rfl rfl (by omega) (hRg i hlt _ (by omega)) rfl te_161.h) rfl rfl ?_
  first|refine ax (.load_l1 rfl rfl (hRg i hlt _ (by omega)) TG.h rfl) rfl rfl ?_|refine ax (.load_a1 rfl (hRg i hlt _ (by omega)) TG.h rfl) rfl rfl ?_
  refine a_z ?_;by_cases hll2:i< l.length;obtain⟨p1,p2,p3,p4,p5,p6⟩:=o3 i hll2;have hgl:∀e:Nat,e=i→(pE l)[e]?=some (qC (coP l i)):=fun e he=>by rw[he];exact bK (bm hll2)
  have hsl:=eY (chP i).1 (coP l i);have hsc:=ii (chP i).1 (coP l i) p2 (gG o2 i) (by omega);have had:=tu (ffM l i) (cj (chP i).1 (coP l i)) p4 p3 (by omega) (by omega);have hff:ffM l (i+1)=kQ (ffM l i) (cj (chP i).1 (coP l i)):=by rw[ffM,if_pos hll2]
  rw[←hff] at had;refine q_z 4 ?_;refine cT (r_m 9 ?_);refine a_4 ?_
  first|refine ax (.index_l rfl rfl (by omega) (by omega) te_29.h) rfl rfl ?_|refine ax (.index_a rfl rfl (by omega) (hgl _ (by omega)) rfl te_29.h) rfl rfl ?_
  first|refine ax (.load_l rfl rfl (hgl _ (by omega)) TG.h TS.h (nle rfl)) rfl rfl ?_|refine ax (.load_a rfl (hgl _ (by omega)) TG.h TS.h (nle rfl)) rfl rfl ?_
  refine c_s (hsc) ?_;refine c_s (had) ?_;refine a_z ?_;refine r_m 2 ?_;refine a_z ?_;refine⟨i+1,by omega,by omega,?_⟩;rw[ffS.eq_1];exact s_x [] (fun hs=>e_55) (fun hs=>e_56);have hff:ffM l (i+1)=ffM l i:=by rw[ffM,if_neg hll2]
  refine q_z 4 ?_;refine cF (an (r_m 2 ?_));refine a_z ?_;refine⟨i+1,by omega,by omega,?_⟩;rw[ffS.eq_1,hff];exact s_x [] (fun hs=>e_55) (fun hs=>e_56)
 rintro _ _;refine r_z 3 ?_;refine am (Fin.many ⟨_,_,rfl,rfl,⟨_,_,rfl,rfl,rfl⟩⟩ (nle rfl) ?_);exact af (ah aE (ao _)) (af (ah aE (ag _)) ay)
def ecB(r:Lq)(n:Nat):Nat→Rat
 |0=>0
 |j+1=>ecB r n j+cI (coP r (n+1+j))
def jg(s:Sp):Rat:=(s.1+s.2) * cg 1
def fO(s:Sp):Rat:=2/ (s.2- s.1)
def ecP(r:Lq)(n:Nat):Lq:=ffM (r.take (min r.length (n+1))) ((r.take (min r.length (n+1))).length+1)
def okEc(F:Lq)(s:Sp)(n:Nat)(r:Lq):Prop:=s.1< s.2∧sm s.1∧sm s.2∧sz1 (s.2- s.1)∧sz1 (jg s)∧sz1 (fO s)∧n≤40∧ct F≤40∧F.length≤1000∧lE [jg s,(s.2- s.1) * (1/ 2)] F∧ct [jg s,(s.2- s.1) * (1/ 2)]≤1∧r.length≤1000∧
 (∀i,i< r.length→sz1 (coP r i))∧(∀j,j< r.length+1→sz1 (ecB r n j))∧okFf (r.take (min r.length (n+1)))∧lE [-(jg s* fO s),fO s] (ecP r n)∧(ecP r n).length≤1000∧ct (ecP r n)≤40∧ct [-(jg s* fO s),fO s]≤1∧sz1 (jg s* fO s)
instance (F:Lq) (s:Sp) (n:Nat) (r:Lq):Decidable (okEc F s n r):=inferInstanceAs (Decidable (_∧_∧_∧_∧_∧_∧_∧_∧_∧_∧_∧_∧_∧_∧_∧_∧_∧_∧_∧_))
theorem yX{p q:Lq}(h1:ct p≤40)(h2:ct q≤1):0≤(if 0> ct p then 0 else ct p) * (if 0> ct q then 0 else ct q)∧(if 0> ct p then 0 else ct p) * (if 0> ct q then 0 else ct q)≤1000:=by
 obtain⟨a,ha⟩:∃a,a=if 0> ct p then 0 else ct p:=⟨_,rfl⟩
 obtain⟨b,hb⟩:∃b,b=if 0> ct q then 0 else ct q:=⟨_,rfl⟩
 rw[←ha,←hb];have a1:0≤a∧a≤40:=by rw[ha];split <;> omega
 have b1:b=0∨b=1:=by rw[hb];split <;> omega
 rcases b1 with e|e <;> rw[e]<;> omega
def ecS(s:Sp)(r:Lq)(n:Nat):Nat→AState
 |j=>⟨[(2,i64 n),(4,bS s),(7,.lptr 1 0 0),(13,.arr (pE r)),(15,i64 ((n:Int)+1+(j:Int)))],[(1,some ⟨42,3,[qC (ecB r n j)]⟩)],2,106⟩
theorem wH(f:Nat)(F:Lq)(s:Sp)(n:Nat)(r:Lq)(ok:okEc F s n r)(hr:nI f (kX [jg s,(s.2- s.1) * (1/ 2)] F)=some r):
    FS 11 [.arr (pE F),.agg (spC s.1 s.2),i64 n] (.tup [.arr (pE (kX [-(jg s* fO s),fO s] (ecP r n))),.agg (qC (ecB r n (r.length- (n+1)))),i64 0]):=by
 obtain⟨o1,o2,o3,o4,o5,o6,o7,o8,o9,p1,p2,p3,p4,p5,p6,p7,p8,p9,q1,q2⟩:=ok;have hv:=gQ s.1 s.2 o2 o3;rw[decide_eq_true (tI (by grind))] at hv;have hwd:=mf s.1 s.2 o2 o3;have hsw:=b6 (s.2- s.1);have e3:¬sgZ (s.2- s.1).num=0:=fun e=>by have:=sgZ_num_eq.1 e;grind
 have hnz:s.2- s.1≠0:=by grind
 have hdg:=bZ F (by omega);have i1:=cN 1 (by decide);have i2:=cN 2 (by decide);have q12:qs ((1:Int):Rat)+qs ((2:Int):Rat)≤549755813888:=by decide
 have ov1:=gz ((1:Int):Rat) ((2:Int):Rat) (by decide) q12;rw[show((1:Int):Rat) / ((2:Int):Rat)=1/ 2 from rfl] at ov1;have hmd:=tk s.1 s.2 o2 o3;rw[show(s.1+s.2) * cg 1=jg s from rfl] at hmd;have qh:qs (1/ 2:Rat)≤10:=by decide+kernel
 have hmw:=c7 (s.2- s.1) (1/ 2) (by unfold sz1 at o4;omega);have hco:=qq F [jg s,(s.2- s.1) * (1/ 2)] p1 (by omega) (by simp) (yX o8 p2);have hto:=AT f _ r hr;have hff:=wE (r.take (min r.length (n+1))) p6;rw[show ffM (r.take (min r.length (n+1))) ((r.take (min r.length (n+1))).length+1)=ecP r n from rfl] at hff;have q22:qs ((2:Int):Rat)≤10:=by decide
 have ov2:=gz ((2:Int):Rat) (s.2- s.1) hnz (by unfold sz1 at o4;omega);rw[show((2:Int):Rat) / (s.2- s.1)=fO s from rfl] at ov2;have hmb:=c7 (jg s) (fO s) (o5.two o6);have hng:=jf (jg s* fO s);have hc2:=qq (ecP r n) [-(jg s* fO s),fO s] p7 (by omega) (by simp) (yX p9 q1);have hrl:(pE r).length=r.length:=by simp[pE]
 obtain⟨m,hm⟩:∃m,m=min r.length (n+1):=⟨_,rfl⟩;rw[←hm] at hff;have e:(pE r).take m=pE (r.take m):=by simp[pE,List.map_take]
 refine f_c Tryz.func11 ?_;refine r_z 4 ?_;refine aZ (fun _:Unit=>⟨[(0,.arr (pE F)),(2,i64 n),(4,bS s),(7,.lptr 1 0 0)],[(1,some ⟨42,3,[zC]⟩)],2,106⟩) (fun _=>True) ?_ ?_;refine ak (r_c 10 (hv) ?_);refine e_s (hwd) ?_;refine c_s (hsw) ?_;refine bv rfl rfl rfl (.bin rfl rfl (vF aV (neI e3))) rfl rfl ?_;refine a_z ?_;refine cF (q_z 7 ?_);refine cF (r_c 4 (hdg) ?_);refine d_z ?_;refine cF (an ⟨(),trivial,?_⟩);exact s_f [(1,7)];rintro _ _;refine r_c 5 (i1) ?_;refine c_s (i2) ?_;refine c_s (ov1) ?_;refine a_z ?_;refine ae (r_d hmix 8 ?_);refine c_s (hmd) ?_;refine c_s (hwd) ?_;refine c_s (hmw) ?_;refine a_2 ?_;refine aq (n_k ?_);refine s_r 8 ?_;refine a_2 ?_;refine o_1 (.callS1 rfl rfl rfl (.keep (.shut rfl d_n (.nil))) rfl (hco)) ?_;refine a_z ?_;refine r_c 7 (hto) ?_;refine a_z ?_;refine ae (r_z 3 ?_);refine aH (fun _:Unit=>⟨[(2,i64 n),(4,bS s),(7,.lptr 1 0 0),(13,.arr (pE r))],[(1,some ⟨42,3,[qC (ecB r n (r.length- (n+1)))]⟩)],2,106⟩) (fun _=>True) ?_ ?_;refine ak (aC (ecS s r n) (fun j=>r.length- j) (fun j=>j≤r.length- (n+1)) 0 (Nat.zero_le _) ?_ ?_);rw[ecS.eq_1,show ecB r n 0=0 from rfl,qC0];refine s_x [] (fun hs=>?_) (fun hs=>?_)
 ·repeat' (first|exact aG|refine aj rfl ?_ ?_|exact ah hs (bw s)|exact ah hs (ao _)|(refine Cv.loE hs ?_ (ag _);simp[i64];done)|exact aW)
 ·repeat' (first|exact aD|refine h_c ?_ ?_|exact aw (af (Cv.emp _) (af (ah hs (ag _)) (af (Cv.emp _) ay)))|exact bC|refine aw ?_|exact ay|refine af ?_ ?_|exact ah hs (bw s)|exact ah hs (ao _)|(refine Cv.loE hs ?_ (ag _);simp[i64];done)|exact aW)
 intro j hj;rw[ecS.eq_1];by_cases hlt:n+1+j< r.length;have hgr:∀e:Nat,e=n+1+j→(pE r)[e]?=some (qC (coP r (n+1+j))):=fun e he=>by rw[he];exact bK (bm hlt)
 have hab:=eH (coP r (n+1+j));have c1:=p4 (n+1+j) hlt;have had:=ff (ecB r n j) (cI (coP r (n+1+j))) (by have:=p5 j (by omega);unfold sz1 at c1 this;rw[qs_abs];omega);refine ae (q_z 4 ?_);refine cT (an (ae (ak (r_d hmix 8 ?_))));refine a_3 ?_
 first|refine ax (.index_l rfl rfl (by omega) (by omega) te_29.h) rfl rfl ?_|refine ax (.index_a rfl rfl (by omega) (hgr _ (by omega)) rfl te_29.h) rfl rfl ?_
 first|refine ax (.load_l rfl rfl (hgr _ (by omega)) TG.h TS.h (nle rfl)) rfl rfl ?_|refine ax (.load_a rfl (hgr _ (by omega)) TG.h TS.h (nle rfl)) rfl rfl ?_
 refine c_s (hab) ?_;refine c_s (had) ?_;refine a_1 ?_;refine aq (n_k ?_);refine r_m 3 ?_;refine a_z ?_;refine⟨j+1,by omega,by omega,?_⟩;rw[ecS.eq_1,ecB];refine s_x [] (fun hs=>?_) (fun hs=>?_)
 ·repeat' (first|exact aG|refine aj rfl ?_ ?_|exact ah hs (bw s)|exact ah hs (ao _)|(refine Cv.loE hs ?_ (ag _);simp[i64];omega)|exact aW)
 ·repeat' (first|exact aD|refine h_c ?_ ?_|exact bC|refine aw ?_|exact ay|refine af ?_ ?_|exact ah hs (bw s)|exact ah hs (ao _)|(refine Cv.loE hs ?_ (ag _);simp[i64];omega)|exact aW)
 have hge:j=r.length- (n+1):=by omega
 subst hge;refine ae (q_z 4 ?_);refine cF (aB ⟨(),trivial,?_⟩);refine s_x [] (fun hs=>?_) (fun hs=>?_)
 ·repeat' (first|exact aG|refine aj rfl ?_ ?_|exact ah hs (bw s)|exact ah hs (ao _)|exact aW)
 ·repeat' (first|exact aD|refine h_c ?_ ?_|exact bC|refine aw ?_|exact ay|refine af ?_ ?_|exact ah hs (bw s)|exact ah hs (ao _)|exact aW)
 rintro _ _;refine s_r 12 ?_;refine a_6 ?_;refine o_0 (.sa_hE (h:=m) e rfl rfl (by rw[hm];split <;> omega) (by omega) te_29.h (eF _)) ?_;refine c_s (hff) ?_;refine a_z ?_;refine ae (r_d hmix 6 ?_);refine c_s (i2) ?_;refine c_s (hwd) ?_;refine c_s (ov2) ?_;refine a_2 ?_;refine aq (n_k ?_);refine ae (r_d hmix 13 ?_);refine c_s (hmd) ?_;refine c_s (hmb) ?_;refine c_s (hng) ?_;refine a_2 ?_;refine o_1 (.callS1 rfl rfl rfl (.keep (.shut rfl d_n (.nil))) rfl (hc2)) ?_;refine a_4 ?_;refine aq (n_k ?_);refine ae (r_d hmix 5 ?_);refine a_5 ?_;refine aq (n_k ?_);refine am (Fin.many ⟨_,_,rfl,rfl,⟨_,_,rfl,⟨_,_,_,_,_,rfl,rfl,rfl,.inl ⟨TG.h,_,TS.h,nle rfl,rfl⟩⟩,⟨_,_,rfl,rfl,rfl⟩⟩⟩ (nle rfl) ?_);exact af (ah aE (ao _)) (af (ah aE (aM _)) (af (ah aE (ag _)) ay))
def daX(i:Nat):Rat:=((i:Int):Rat)
def daH(l:List Int):Nat→Hp
 |0=>[]
 |i+1=>[(3,some ⟨42,3,pE (aL (i+1) daX)⟩),(4,some ⟨42,3,pE (zR (l.take (i+1)))⟩)]
def daS(l:List Int):Nat→AState
 |i=>⟨[(0,.arr (zE l)),(2,.lptr 1 0 0),(3,.lptr 2 0 0),(4,i64 i)],(1,some ⟨82,3,[[.emp,.emp,.emp]]⟩)::(2,some ⟨82,3,[[lvV 3 i,lvV 4 i,.emp]]⟩)::daH l i,5,29⟩
theorem Dp(l:List Int)(h0:1≤l.length)(hl:l.length≤1000)(hb:∀n∈l,-9223372036854775808≤n∧n≤9223372036854775807):FS 28 [.arr (zE l)] (.agg (dC ⟨aL l.length daX,zR l,[]⟩)):=by
 have hzl:(zE l).length=l.length:=by simp[zE]
 refine f_n Tryz.func28 ?_ ?_;exact ac (aP (ew l)) ai;refine r_z 1 ?_;refine r_z 1 ?_;refine ae (r_z 1 ?_);refine aH (fun _:Unit=>daS l l.length) (fun _=>True) ?_ ?_
 ·refine ak (aC (daS l) (fun i=>l.length- i) (fun i=>i≤l.length) 0 (Nat.zero_le _) ?_ ?_)
  rw[daS.eq_1];simp only[lvV,daH];have:=(aP (ew l));have:=(ac aN (ac aN (ac aN ai)));exact s_f [(1,2),(2,3)];intro i hi;rw[daS.eq_1];by_cases hlt:i< l.length;rotate_left;have hge:i=l.length:=by omega
  subst hge;refine ae (q_z 4 ?_);refine cF (aB ⟨(),trivial,?_⟩);show SEnt _ (daS l l.length);rw[daS.eq_1];obtain⟨m,hm⟩:∃m,l.length=m+1:=⟨l.length- 1,by omega⟩;rw[hm];simp only[lvV,daH];refine s_x [] (fun hs=>e_15) (fun hs=>?_)
  ·repeat' (first|exact aD|refine h_c ?_ ?_|exact b9 hs (aF _)|exact aw (CvL.clo hs (ac aN (ac aN (ac aN ai))))|exact aw (af (Cv.sl rfl rfl rfl) (af (Cv.sl rfl rfl rfl) (af (ah hs aN) ay)))|exact bC|refine aw ?_|exact ay|refine af ?_ ?_|exact ah hs (aP (ew l))|exact aW)
  obtain⟨n,hn⟩:∃n,l[i]?=some n:=⟨_,List.getElem?_eq_getElem hlt⟩;have hgt:∀e:Nat,e=i→(zE l)[e]?=some [i64 n]:=fun e he=>by subst he;simp[zE,hn]
  have hi1:=cN (i:Int) (by omega);have hi2:=cN n (hb n (List.mem_of_getElem? hn));have ex:pE (aL (i+1) daX)=pE (aL i daX)++[qC ((i:Int):Rat)]:=jM _ _;have ey:pE (zR (l.take (i+1)))=pE (zR (l.take i))++[qC (n:Rat)]:=by rw[dx hn];simp[zR,pE]
  refine ae (q_z 4 ?_);refine cT (an (ae (ak ?_)));cases i with
  |zero=>
   simp only[lvV,daH];refine r_d hmix 19 ?_;refine c_s (hi1) ?_;refine a_6 ?_
   first|refine ax (.index_l rfl rfl (by omega) (by omega) te_137.h) rfl rfl ?_|refine ax (.index_a rfl rfl (by omega) (hgt _ (by omega)) rfl te_137.h) rfl rfl ?_
   first|refine ax (.load_l1 rfl rfl (hgt _ (by omega)) TG.h rfl) rfl rfl ?_|refine ax (.load_a1 rfl (hgt _ (by omega)) TG.h rfl) rfl rfl ?_
   refine c_s (hi2) ?_;refine a_6 ?_;refine aq (n_k ?_);refine r_m 3 ?_;refine a_z ?_;refine⟨0+1,by omega,by omega,?_⟩;rw[daS.eq_1];simp only[lvV,daH];refine s_x [(3,16),(4,25)] (fun hs=>e_15) (fun hs=>e_57) ?_
   ·repeat' (first|exact ShrL.nil|refine ShrL.cons rfl rfl rfl rfl (by first|(simp[zR]<;> omega)|rfl|(simp;done)|(simp <;> omega)) ?_)
  |succ i=>
   simp only[lvV,daH];have lx:(pE (aL (i+1) daX)).length=i+1:=eE _ _;have ly:(pE (zR (l.take (i+1)))).length=i+1:=by simp[zR];omega
   refine r_d hmix 19 ?_;refine c_s (hi1) ?_;refine a_6 ?_
   first|refine ax (.index_l rfl rfl (by omega) (by omega) te_137.h) rfl rfl ?_|refine ax (.index_a rfl rfl (by omega) (hgt _ (by omega)) rfl te_137.h) rfl rfl ?_
   first|refine ax (.load_l1 rfl rfl (hgt _ (by omega)) TG.h rfl) rfl rfl ?_|refine ax (.load_a1 rfl (hgt _ (by omega)) TG.h rfl) rfl rfl ?_
   refine c_s (hi2) ?_;refine a_6 ?_;refine aq (n_k ?_);refine r_m 3 ?_;refine a_z ?_;refine⟨i+1+1,by omega,by omega,?_⟩;rw[daS.eq_1];simp only[lvV,daH];refine s_x [(3,16),(4,25)] (fun hs=>e_15) (fun hs=>e_57) ?_
   ·repeat' (first|exact ShrL.nil|refine ShrL.cons rfl rfl rfl rfl (by first|(simp[zR,List.length_take]<;> omega)|rfl|(simp;done)|(simp <;> omega)) ?_)
 rintro _ _;rw[daS.eq_1];obtain⟨m,hm⟩:∃m,l.length=m+1:=⟨l.length- 1,by omega⟩;rw[hm];simp only[lvV,daH];have lx:(pE (aL (m+1) daX)).length=m+1:=eE _ _;have et:l.take (m+1)=l:=List.take_of_length_le (by omega);rw[et];have ly:(pE (zR l)).length=m+1:=by simp[zR];omega
 refine r_z 2 ?_;refine am (Fin.cell rfl rfl rfl TG.h TS.h (nle rfl) ?_);exact Cv.agg (af (Cv.sealE aE rfl (fun _ _ h=>by cases h) rfl lx.symm (aF _)) (af (Cv.sealE aE rfl (fun _ _ h=>by cases h) rfl ly.symm (aF _)) (af (Cv.emp _) ay)))
abbrev fW:Lq:=zR [0,0,1]
abbrev cuW:Lq:=zR [0,0,0,1]
abbrev dtW:Dt:=⟨aL 3 daX,zR [0,1,4],[]⟩
abbrev gW:Lq:=fK fW [-1/8,1]
def B4:Bool:=match fH 40 (eJ gW) with
 |some c=>decide (n8 c 0) && (decide (qy c 1) && (decide (eW c 1=cr c 0+1) && (decide (c.p.length≤1000) && (decide (cr c 0=0) && (match mV 40 c.p with|some c2=>decide (0< DU c2) && (decide (rI 40 40 c2 0 gW 12=some (-1/8,-1/8)) && (decide (qe 40 40 c2 0 (fK gW [1/8])=some (-1)) && decide (qe 40 40 c2 0 (kQ gW [1/8])=some 0)))|none=>false)))))
 |none=>false
theorem w8_near:B4=true:=by decide+kernel
theorem w8_fit:(uk 6 dtW 1).map (fun r=>(r.1,r.2.1,r.2.2))=some ([-1/2,2],1/2,[0,1,2]):=by decide+kernel
theorem w8_try:(nH 6 0 2 dtW [] ⟨[],0,false⟩).map (fun s=>(s.best,s.err,s.got))=some ([1,1],1,true):=by decide+kernel
theorem w8_lev:Ao (mnD fW (0,1) 1) (List.range 3)=some [-1/8,1]∧hD (mnD fW (0,1) 1) (List.range 3)=1/8∧aL 3 (mnX (0,1) 1)=[0,1/2,1]:=by decide+kernel
theorem w8_dt:C6 dtW=true∧smL dtW.X:=by decide+kernel
theorem w8_ec:nI 10 (kX [jg (-1,1),((1:Rat)- -1) * (1/ 2)] cuW)=some [0,3/4,0,1/4]∧okEc cuW (-1,1) 2 [0,3/4,0,1/4]:=by decide+kernel
theorem w8_mn:okMn fW (0,1) 1∧smL fW∧smL [(-1:Rat)/8,1]:=by decide+kernel
theorem w8_fine:(∀j,j< 13→sm (cg j))∧(∀j,j< 12→cg 10/ 4< cg j)∧cg 12≤cg 10/ 4∧sm (cg 200)∧cg 200≤cg 10∧sm (cg 10/ 4)∧sz1 (cg 10)∧0< cg 10:=by decide+kernel
theorem w8_e2:kX [-(jg (-1,1) * fO (-1,1)),fO (-1,1)] (ecP [0,3/4,0,1/4] 2)=[0,3/4]∧ecB [0,3/4,0,1/4] 2 1=1/4:=by decide+kernel
theorem w8_g:dI gW 0∧dI gW 1∧aA gW 0=1/8∧aA gW 1=1/8∧smL gW∧gW.length≤1000∧(eJ gW).length≤1000∧kF (eJ gW)=0∧cZ 0 1≤0:=by decide+kernel
theorem w8_sp:(gD (1/8) 12,upQ (1/8) 12)=((1/8,1/8):Sp)∧dsM (joS (abS (1/8,1/8)) (abS (1/8,1/8))) (fun _=>(-1/8,-1/8)) 1=(1/8,1/8):=by decide+kernel
theorem w8_pt:vP [(0:Rat),1/2,1]=true∧smL [(0:Rat),1/2,1]∧(∀i,i< 3→(0:Rat)≤coP [0,1/2,1] i∧coP [(0:Rat),1/2,1] i≤1∧dI gW (coP [0,1/2,1] i)∧sm (aA gW (coP [0,1/2,1] i))∧(1/8:Rat)≤cI (aA gW (coP [0,1/2,1] i)))∧(∀i,i< 2→sgZ (aA gW (coP [0,1/2,1] (i+1))).num≠sgZ (aA gW (coP [0,1/2,1] i)).num):=by decide+kernel
theorem w8_t1:BB [-1/2,2]=[50,32,120,32,45,32,49,47,50]∧EU [-1/2,2]∧jL (1/2)=[49,47,50]∧okT (1/2)∧BB [1,1]=[120,32,43,32,49]∧EU [1,1]∧jL 1=[49]∧okT 1∧BB [0,3/4]=[51,47,52,32,120]∧EU [0,3/4]∧jL (1/4)=[49,47,52]∧okT (1/4):=by decide+kernel
theorem w8_f0:dI (fK fW []) 0∧dI (fK fW []) 1∧sm (aA (fK fW []) 0)∧sm (aA (fK fW []) 1)∧cI (aA (fK fW []) 0)≤0∧0< cI (aA (fK fW []) 1)∧ct fW≤40∧ct ([]:Lq)≤1∧ct fW=2∧ct [(-1:Rat)/8,1]≤1:=by decide+kernel
theorem wk8_fit:FS 27 [.agg (dC dtW),i64 1] (.tup [.agg (beC [-1/2,2] (1/2) [0,1,2]),i64 0]):=by
 have h:=w8_fit;cases hf:uk 6 dtW 1 with
 |none=>rw[hf] at h;cases h
 |some r=>
 rw[hf] at h;have e:(r.1,r.2.1,r.2.2)=(([-1/2,2],1/2,[0,1,2]):Lq×Rat×Ln):=Option.some.inj h;have:=fs_Fit 6 dtW 1 r w8_dt.1 w8_dt.2 (by decide) hf;rw[show r.1=[-1/2,2] from congrArg (·.1) e,show r.2.1=1/2 from congrArg (·.2.1) e,show r.2.2=[0,1,2] from congrArg (·.2.2) e] at this;exact this
theorem D2:FS 29 [.agg (dC dtW),i64 1,i64 0] (.tup [.arr (pE [1,1]),.agg (qC 1),i64 0]):=by
 have h:=w8_try;cases hf:nH 6 0 2 dtW [] ⟨[],0,false⟩ with
 |none=>rw[hf] at h;cases h
 |some s=>
 rw[hf] at h;obtain⟨B,E,G⟩:=s;have e:(B,E,G)=(([1,1],1,true):Lq×Rat×Bool):=Option.some.inj h;cases e;have:=fs_Grid 6 dtW 1 0 [1,1] 1 w8_dt.1 w8_dt.2 (by decide) (by decide) (by rw[show wi 0 256=0 by decide];exact hf) (by decide);rw[show av ([1,1]:Lq).reverse=[1,1] by decide+kernel] at this;exact this
theorem xp:∃c c2:Cnt,Turn 40 gW (0,1) c 1∧cr c 0=0∧mV 40 c.p=some c2∧0< DU c2∧rI 40 40 c2 0 gW 12=some (-1/8,-1/8)∧qe 40 40 c2 0 (fK gW [1/8])=some (-1)∧qe 40 40 c2 0 (kQ gW [1/8])=some 0:=by
 have h:=w8_near;unfold B4 at h;cases hc:fH 40 (eJ gW) with
 |none=>rw[hc] at h;cases h
 |some c=>
 rw[hc] at h;simp only[Bool.and_eq_true,decide_eq_true_eq] at h;obtain⟨h1,h2,h3,h4,h5,h6⟩:=h;cases hp:mV 40 c.p with
 |none=>rw[hp] at h6;cases h6
 |some c2=>
 rw[hp] at h6;simp only[Bool.and_eq_true,decide_eq_true_eq] at h6;obtain⟨g1,g2,g3,g4⟩:=h6;obtain⟨_,_,_,_,k1,k2,k3,k4,k5⟩:=w8_g;exact⟨c,c2,⟨hc,by decide,h1,h2,⟨by decide,by decide⟩,k5,k4,k1,k2,k3,h4,h3⟩,h5,hp,g1,g2,g3,g4⟩
theorem D1:FS 30 [.arr (pE fW),.agg (spC 0 1),i64 1,.agg (qC (cg 10))] (.tup [.agg (naC [-1/8,1] [0,1/2,1] (1/8) (1/8)),i64 0]):=by
 obtain⟨c,c2,t,b0,hp,ha,hv,_,_⟩:=xp;obtain⟨g1,g2,g3,g4,g5,g6,g7,g8,g9⟩:=w8_g;obtain⟨f1,f2,f3,f4,f5,f6,f7,f8⟩:=w8_fine;obtain⟨l1,l2,l3⟩:=w8_lev;obtain⟨s1,s2⟩:=w8_sp;have hfi:=Fy (cg 10/ 4) 12 (by decide) f2 f3 f6 f1;have hval:=Dw 40 40 c.p 0 12 c2 gW (-1/8,-1/8) hp (by decide) (Int.le_refl 0) ha (by decide+kernel) (by omega) hv
 have hdi:=yB 40 gW (0,1) c 1 12 (fun _=>(-1/8,-1/8)) (1/8,1/8) (1/8,1/8) t (by decide) g1 g2 (by rw[g3];decide+kernel) (by rw[g4];decide+kernel) (by rw[g3,show wi 12 256=12 by decide];exact s1.symm) (by rw[g4,show wi 12 256=12 by decide];exact s1.symm) (by decide+kernel) (by decide+kernel) (fun j hj=>⟨by decide+kernel,by
  obtain rfl:j=0:=by omega
  rw[show cr c ((0:Rat),(1:Rat)).1=0 from b0];exact hval⟩)
 rw[s2] at hdi;have hm:=yu fW (0,1) 1 (cg 10) [-1/8,1] 12 (1/8,1/8) w8_mn.1 f7 l1 w8_mn.2.1 w8_mn.2.2 (by decide) (by decide) hfi hdi (by decide+kernel) (by rw[l2];decide+kernel) (by rw[l2];decide+kernel) (by rw[l2];decide+kernel) (by rw[l2];decide+kernel);rw[l2,l3,show cI (1/8)=1/8 by decide+kernel] at hm;exact AU fW (0,1) 1 (cg 10) _ (by decide+kernel) (by decide) (by decide) f8 f7.sm (by decide) ⟨w8_f0.2.2.2.2.2.2.1,by rw[w8_f0.2.2.2.2.2.2.2.2.1];decide⟩ (by decide) f4 f5 hm rfl (eM _ _ _ _) rfl
theorem zx:FS 35 [.arr (pE fW),.agg (spC 0 1),i64 1,.agg (naC [-1/8,1] [0,1/2,1] (1/8) (1/8))] (bln true):=by
 obtain⟨c,c2,t,b0,hp,ha,_,h1,h2⟩:=xp;obtain⟨g1,g2,g3,g4,g5,g6,g7,g8,g9⟩:=w8_g;obtain⟨p1,p2,p3,p4⟩:=w8_pt;have r1:=yF 40 40 c.p 0 c2 (fK gW [1/8]) (-1) hp (by decide) (Int.le_refl 0) ha (by decide+kernel) (by decide+kernel) h1;have r2:=yF 40 40 c.p 0 c2 (kQ gW [1/8]) 0 hp (by decide) (Int.le_refl 0) ha (by decide+kernel) (by decide+kernel) h2
 have hw:=AD 40 gW (0,1) c 1 (1/8) t (by decide) g1 g2 (by rw[g3];decide+kernel) (by rw[g4];decide+kernel) (by decide+kernel) (by rw[g3];decide+kernel) (by rw[g4];decide+kernel) (fun j hj=>by
  obtain rfl:j=0:=by omega
  rw[show cr c ((0:Rat),(1:Rat)).1=0 from b0];exact⟨-1,0,r1,r2,by decide,by decide⟩)
 exact Dy fW (0,1) 1 [-1/8,1] [0,1/2,1] (1/8) (1/8) gW rfl (by decide) (by decide) (by decide+kernel) (by decide) w8_f0.2.2.2.2.2.2.1 w8_f0.2.2.2.2.2.2.2.2.2 (by decide) (by decide) w8_mn.2.1 w8_mn.2.2 hw (by decide+kernel) (by decide+kernel) rfl p1 p2 p3 (fun i hi=>p4 i (by have:i+1< 3:=hi;omega))
theorem na_00:([.arr [],.arr []]++([.arr [],bln false,.arr []]++[.arr [],bln false,.arr []]):La)=naC [] [] 0 0:=by
 rw[show naC [] [] 0 0=[.arr (pE []),.arr (pE [])]++(qC 0++qC 0) from rfl,qC0];rfl
theorem zy:FS 35 [.arr (pE fW),.agg (spC 0 1),i64 1,.agg ([.arr [],.arr []]++([.arr [],bln false,.arr []]++[.arr [],bln false,.arr []]))] (bln false):=by
 obtain⟨a1,a2,a3,a4,a5,a6,a7,a8,a9,_⟩:=w8_f0;rw[na_00];have hw:=AE (fK fW []) (0,1) 0 a1 a2 a3 a4 (by decide) a5 a6;exact Dz fW (0,1) 1 [] [] 0 0 (by decide) (by decide) (by decide+kernel) (by decide) a7 a8 (by decide) (by decide) w8_mn.2.1 (fun q hq=>by cases hq) hw
theorem wk8_eco:FS 11 [.arr (pE cuW),.agg (spC (-1) 1),i64 2] (.tup [.arr (pE [0,3/4]),.agg (qC (1/4)),i64 0]):=by
 have h:=wH 10 cuW (-1,1) 2 [0,3/4,0,1/4] w8_ec.2 w8_ec.1;rw[w8_e2.1,show([0,3/4,0,1/4]:Lq).length- (2+1)=1 from rfl,w8_e2.2] at h;exact h
end Go.Proofs.YtjgokhkahkmpbaaGreatDoor
