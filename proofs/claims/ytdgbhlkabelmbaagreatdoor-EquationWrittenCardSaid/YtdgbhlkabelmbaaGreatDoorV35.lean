/- EquationWritten: a kernel written by other pairs has the same determinant, free solutions and solutions, at every input of the law's kinds. -/
import Derived.Test.YtdgbhlkabelmbaaGreatDoorV34
import Derived.Test.YtdgbhlkabelmbaaGreatDoorRows
import Derived.JoinedOf
import Derived.SevenTiedAt
import Derived.Lib.LaidTab
import Derived.Test.YtdgbhlkabelmbaaGreatDoorTie
import Derived.Test.YtdgbhlkabelmbaaGreatDoorCards
import Derived.LaidMore
import Derived.Stop.Joined
import Derived.MakeChecks
set_option linter.all false
namespace Go.Proofs.YtdgbhlkabelmbaaGreatDoor
open Go.Abs
set_option maxRecDepth 20000
set_option maxHeartbeats 4000000
theorem fs_det0(T:Nat→Rat)(a b:Rat):FS 34 [.arr (kE []),.agg (spC a b)] (.arr (pE (aq (nwL T 0)))):=by
 have i1:=du 1 (by decide);have c:=dd (nwL T 0) (by simp);refine f_n Tryz.func34 ?_ ?_;exact ac (aU []) (ac (aC (aY a b)) af);refine r_z 3 ?_;refine AWp.ent (st':=⟨[(2,bKe []),(3,bSp a b)],[],1,60⟩) ?_ ?_;refine s_x [] (fun hs=>?_) (fun hs=>?_)
 ·repeat' (first|exact aN|refine aA rfl ?_ ?_|exact Cv.boxp hs rfl (aM rfl) rfl (ac (aU []) af)|exact Cv.boxp hs rfl (aM rfl) rfl (aY a b)|exact aV)
 ·repeat' (first|exact aE|refine h_c ?_ ?_|exact bC|refine az ?_|exact av|refine ah ?_ ?_|exact Cv.boxp hs rfl (aM rfl) rfl (ac (aU []) af)|exact Cv.boxp hs rfl (aM rfl) rfl (aY a b)|exact aV)
 refine r_c 4 (i1) ?_;refine a_z ?_;refine r_z 1 ?_;refine ae (s_r 3 ?_);refine a_2 ?_;refine o_0 (.bin rfl rfl (vF jT (rfl))) ?_;refine ao ?_;refine cF (ak (s_r 3 ?_));refine a_1 ?_;refine o_1 (.callS1 rfl rfl rfl (.shut rfl d_n (.nil)) rfl (c)) ?_;refine a_z ?_;exact ai (t_e (ax _))
section
variable {k:Ke}{a b:Rat}
theorem pwB_4{m:Nat}(h:m≤4):pwB m≤15400000:=Nat.le_trans (Gx h) (by decide)
theorem ma_G(hk:TmG k)(qa:qs a≤20)(qb:qs b≤20):OkMa k a b:=
 ⟨by have:=hk.l;omega,fun p hp q c=>by
  have h:=in_G (u:=q.1) (t:=60) (a:=a) (b:=b) (hk.n p hp).2 (hk.b p hp).2 (by have:=(hk.n q c).1;omega) (hk.b q c).1 (by omega) (by omega) qa qb;exact⟨h.1,h.2.1⟩⟩
def yr(k:Ke)(a b:Rat):List Rat:=aq (nwL (fun m=>trQ (pwM k a b m) k.length) k.length)
theorem fs_detG(hk:TmG k)(qa:qs a≤20)(qb:qs b≤20):FS 34 [.arr (kE k),.agg (spC a b)] (.arr (pE (yr k a b))):=by
 have o:=hk.l;by_cases q:k.length=0;rw[List.length_eq_zero_iff.1 q];exact fs_det0 _ a b;have bd:∀m i j,m≤4→i< k.length→j< k.length→qs (pwM k a b m i j)≤15400000:=fun m i j g d p=>Nat.le_trans (Dz hk qa qb m i j d p) (pwB_4 g)
 have tr:∀m n,m≤4→n≤k.length→qs (trQ (pwM k a b m) n)≤78000000:=fun m n g q=>by
  have h:=y3 (f:=fun t=>pwM k a b m t t) (c:=15400000) n fun t ht=>bd m t t g (by omega) (by omega);have e:n* (15400000+1)≤5* (15400000+1):=Nat.mul_le_mul_right _ (by omega);exact Nat.le_trans h (Nat.le_trans (Nat.succ_le_succ e) (Nat.le_of_ble_eq_true rfl))
 refine fs_detN k a b (pwM k a b) (ma_G hk qa qb) (pwM_0 k a b) (by omega) (by omega) (fun j p i d=>?_) (fun j p=>?_) (okDt_G (τ:=78000000) o (fun i d=>tr i _ (by omega) (Nat.le_refl _)) (by omega) (by omega));have h1:=tr j i (by omega) (by omega);have w:=bd j i i (by omega) d d;omega;rw[←Gw];refine fs_mm k.length (pwM k a b j) (pwM k a b 0) (by omega) fun i c t d hc ht=>?_;have h1:=bd j i t (by omega) d ht;have w:=bd 0 t c (by omega) ht hc;have r:=dK (pwM k a b j i t) (pwM k a b 0 t c)
 have v:=y3 (f:=fun t=>pwM k a b j i t* pwM k a b 0 t c) (c:=30900000) t fun s hs=>by
  have x:=bd j i s (by omega) d (by omega);have y:=bd 0 s c (by omega) (by omega) hc;have g3:=dK (pwM k a b j i s) (pwM k a b 0 s c);omega
 have e:t* (30900000+1)≤5* (30900000+1):=Nat.mul_le_mul_right _ (by omega);have u:=Nat.le_trans v (Nat.le_trans (Nat.succ_le_succ e) (show 5* (30900000+1)+1≤155000000 from Nat.le_of_ble_eq_true rfl));exact⟨by omega,Nat.le_trans (Nat.add_le_add u r) (by omega)⟩
theorem D2(hk:TmG k)(qa:qs a≤20)(qb:qs b≤20)(ha:sm a)(hb:sm b)(hab:a≤b):FS 11 [.arr (kE k),.agg (spC a b)] (.tup [.arr (pE (yr k a b)),i64 0]):=by
 have d:=qM k a b (GN hk) ha hb hab;have c:=fs_detG hk qa qb;refine f_n Tryz.func11 ?_ ?_;exact ac (aU k) (ac (aC (aY a b)) af);refine r_z 3 ?_;refine ae (r_c 3 (d) ?_);refine ao ?_;refine cF (ak (r_c 5 (c) ?_));refine a_z ?_;refine ai (Fin.many ⟨_,_,rfl,rfl,⟨_,_,rfl,rfl,rfl⟩⟩ (nle rfl) ?_);exact ah (am aD (ax _)) (ah (am aD (ag _)) av)
end
theorem GR{p:List Rat}{t:Nat}{z:List Rat×List Rat}:∀{k:Ke} {i:Nat},z∈oR p t k i→∃y∈k,z=y∨z=(aX y.1 ((2:Int):Rat),p)∨z=(y.1,cK y.2 (aX p ((2:Int):Rat)))
 |[],_,h=>by cases h
 |y::k,i,h=>by
  rw[oR] at h;rcases List.mem_append.1 h with g|g
  obtain⟨w,h1,a⟩:=GR g;exact⟨w,List.mem_cons_of_mem _ h1,a⟩;refine⟨y,List.mem_cons_self,?_⟩;unfold nm at g;split at g;rcases List.mem_cons.1 g with e|g
  exact .inr (.inl e);exact .inr (.inr (List.mem_singleton.1 g));exact .inl (List.mem_singleton.1 g)
theorem q2_bd:qs ((2:Int):Rat)≤3:=by decide
theorem oK_G{k:Ke}{p:List Rat}{t:Nat}(hk:TmK k)(hp:p.length≤4)(bp:bdL p 20):TmG (oK k p t):=by
 have sp:=fJ bp (by omega) q2_bd;have f:=cL p ((2:Int):Rat)
 have c:∀z∈oK k p t,(z.1.length≤4∧z.2.length≤4)∧bdL z.1 60∧bdL z.2 60:=fun z a=>by
  unfold oK at a;rcases List.mem_append.1 a with g|g
  obtain⟨y,d,h⟩:=GR g;have n:=hk.n y d;have b:=hk.b y d;rcases h with rfl|rfl|rfl
  exact⟨n,bdL_mono' b.1 (by omega),bdL_mono' b.2 (by omega)⟩;have l1:=cL y.1 ((2:Int):Rat);exact⟨⟨Nat.le_trans l1 n.1,hp⟩,bdL_mono' (fJ b.1 (by omega) q2_bd) (by omega),bdL_mono' bp (by omega)⟩;have s2:=fJ (k:=(-1:Rat)) sp (by omega) (show qs (-1:Rat)≤2 by decide);have l2:=tk y.2 (aX p ((2:Int):Rat));exact⟨⟨n.1,by show(cK y.2 (aX p ((2:Int):Rat))).length≤4;omega⟩,bdL_mono' b.1 (by omega),bdL_mono' (yF b.2 s2 (by omega) (by omega)) (by omega)⟩;rw[List.mem_singleton.1 g];exact⟨⟨hp,Nat.zero_le _⟩,bdL_mono' bp (by omega),fun q e=>by cases e⟩
 refine⟨by have:=GU k p t;have:=hk.l;omega,fun z a=>(c z a).1,fun z a=>(c z a).2⟩
theorem oR_ge(p:List Rat)(t:Nat):∀(k:Ke) (i:Nat),k.length≤(oR p t k i).length
 |[],i=>Nat.zero_le _
 |z::k,i=>by
  have a:=oR_ge p t k (i+1);rw[oR,List.length_append,List.length_cons];unfold nm;split <;> simp <;> omega
section
variable {k:Ke}{a b l:Rat}{p g:List Rat}{t:Nat}
theorem detQ_oK(hk:k.length≤3):yr (oK k p t) a b=yr k a b:=by
 unfold yr;have e:(fun m=>trQ (pwM (oK k p t) a b m) (oK k p t).length)=fun m=>trQ (pwM k a b m) k.length:=funext fun m=>oK_tr m;rw[e];have h1:=GU k p t
 have f:k.length≤(oK k p t).length:=by
  have:=oR_ge p t k 0;unfold oK;rw[List.length_append];omega
 obtain⟨d,c,e2⟩:∃d,d≤2∧(oK k p t).length=k.length+d:=⟨(oK k p t).length- k.length,by omega,by omega⟩;rw[e2];exact BM hk (fun m=>Gw k a b m) d c
theorem detQ_bd(hk:TmG k)(qa:qs a≤20)(qb:qs b≤20):bdL (yr k a b) 16000000000∧(yr k a b).length≤6:=by
 have d:=hk.l
 have tr:∀m,m< 5→qs (trQ (pwM k a b m) k.length)≤78000000:=fun m o=>by
  have h:=y3 (f:=fun t=>pwM k a b m t t) (c:=15400000) k.length fun t ht=>Nat.le_trans (Dz hk qa qb m t t ht ht) (pwB_4 (by omega));have e:k.length* (15400000+1)≤5* (15400000+1):=Nat.mul_le_mul_right _ d;exact Nat.le_trans h (Nat.le_trans (Nat.succ_le_succ e) (Nat.le_of_ble_eq_true rfl))
 obtain⟨c,_⟩:=nw_bd tr (by omega) k.length d;have n:=bF (nwL (fun m=>trQ (pwM k a b m) k.length) k.length);rw[ir] at n;refine⟨AQ fun q j=>?_,by unfold yr;omega⟩;obtain⟨i,g,rfl⟩:=List.mem_iff_getElem.1 j;have e:=ca g;rw[List.getElem?_eq_getElem g,Option.some.injEq] at e;rw[e];rw[ir] at g;have p2:2^ i≤2^ 5:=Nat.pow_le_pow_right (by omega) (by omega);exact Nat.le_trans (c i) (Nat.le_trans (Nat.mul_le_mul_right _ p2) (Nat.le_of_ble_eq_true rfl))
theorem sol_two(hk:TmG k)(hk':TmG (oK k p t))(h:OkTa k l g a b 11000)(h':OkTa (oK k p t) l g a b 11000)(hg:g.length≤5)(bg:bdL g 20)(qL:qs l≤20):
    ∃(u v:List Rat) (B:List (List Rat)) (e:Int),FS 12 [.agg (eqC k l g),.agg (spC a b)] (.tup [.arr (pE u),.arr (mE B),i64 e])∧FS 12 [.agg (eqC (oK k p t) l g),.agg (spC a b)] (.tup [.arr (pE v),.arr (mE B),i64 e])∧(u.length≤5∧bdL u 93000000000)∧(v.length≤5∧bdL v 93000000000)∧aq u=aq v∧B.length≤5∧∀p∈B,bdL p 3000000000∧p.length≤4:=by
 obtain⟨u,B,e,j,d,b1,n,c1⟩:=sol_G hk h hg bg qL;obtain⟨v,q,o,c,i,b2,f,m⟩:=sol_G hk' h' hg bg qL;have hB:bK (oK k p t) l g a b=bK k l g a b:=bK_eq fun w=>oK_sol;rcases c1 with⟨rfl,rfl,rfl,no⟩|⟨rfl,rfl,s1⟩
 rcases m with⟨rfl,rfl,rfl,_⟩|⟨rfl,rfl,s2⟩
 exact⟨[],[],[],12,j,c,⟨d,b1⟩,⟨i,b2⟩,rfl,Nat.zero_le _,fun p hp=>by cases hp⟩;exact absurd (oK_sol.1 s2) (no v);rcases m with⟨rfl,rfl,rfl,no⟩|⟨rfl,rfl,s2⟩
 exact absurd (oK_sol.2 s1) (no u);rw[hB] at c f;exact⟨u,v,_,0,j,c,⟨d,b1⟩,⟨i,b2⟩,red_one s1 (oK_sol.1 s2) n f,(HR hk h).len,(HR hk h).bd⟩
end
abbrev bEq(k:Ke)(l:Rat)(g:List Rat):AV:= .aptr [eqC k l g] 0 0
theorem fE(k:Ke)(l:Rat)(g:List Rat):Closed (bEq k l g):=ba (cZ k l g)
def ewS(k:Ke)(l:Rat)(g:List Rat)(a b:Rat)(p:List Rat)(at':Nat):Nat→Ke→Nat→AState
 |0,_,m=>⟨[(5,.v (.int .u8 (at':Int))),(13,bEq k l g),(14,bSp a b),(16,.arr (pE p)),(18,.lptr 1 0 0),(19,i64 ((m:Int)- 1))],[(1,some ⟨40,5,[.emp::(qC l++[.arr (pE g)])]⟩)],2,197⟩
 |n+1,L,m=>⟨[(5,.v (.int .u8 (at':Int))),(13,bEq k l g),(14,bSp a b),(16,.arr (pE p)),(18,.lptr 1 0 0),(19,i64 ((m:Int)- 1))],[(1,some ⟨40,5,[.lsl 2 0 (n+1) none 2::(qC l++[.arr (pE g)])]⟩),(2,some ⟨52,2,kE L⟩)],3,197⟩
theorem D7(k:Ke)(l:Rat)(g:List Rat)(a b:Rat)(p:List Rat)(at':Nat)(L:Ke)(m:Nat):ewS k l g a b p at' 0 L m=⟨[(5,.v (.int .u8 (at':Int))),(13,bEq k l g),(14,bSp a b),(16,.arr (pE p)),(18,.lptr 1 0 0),(19,i64 ((m:Int)- 1))],[(1,some ⟨40,5,[.emp::(qC l++[.arr (pE g)])]⟩)],2,197⟩:=rfl
theorem uC(k:Ke)(l:Rat)(g:List Rat)(a b:Rat)(p:List Rat)(at' n:Nat)(L:Ke)(m:Nat):ewS k l g a b p at' (n+1) L m=⟨[(5,.v (.int .u8 (at':Int))),(13,bEq k l g),(14,bSp a b),(16,.arr (pE p)),(18,.lptr 1 0 0),(19,i64 ((m:Int)- 1))],[(1,some ⟨40,5,[.lsl 2 0 (n+1) none 2::(qC l++[.arr (pE g)])]⟩),(2,some ⟨52,2,kE L⟩)],3,197⟩:=rfl
def efS(B:List (List Rat)):Nat→AState
 |i=>⟨[(25,.arr (mE B)),(28,.arr (mE B)),(30,i64 i)],[],1,197⟩
theorem uH(B:List (List Rat))(i:Nat):efS B i=⟨[(25,.arr (mE B)),(28,.arr (mE B)),(30,i64 i)],[],1,197⟩:=rfl
theorem CM{r:Ren}{hp hp':Nat→Option ABlk}(hs:Shr r hp hp'):∀(O:Ke) (p:List Rat),CvLL r hp hp' (kE O++[[.arr (pE p),.emp]]) (kE (O++[(p,[])]))
 |[],p=>az (ah (am hs (ax p)) (ah (Cv.emp _) av))
 |z::O,p=>CvLL.cons (CvL.clo hs (fC z)) (CM hs O p)
theorem nW(l:List gD)(gp:fc×fc)(cr:fc)(gr pr:List fc)(n:Nat)(ho:∀t∈l,xu t)(hll:l.length≤9223372036854775807)(hgp:okN gp.1∧okN gp.2)(hc:okN cr)(hg:okR gr)(hgl:gr.length≤9223372036854775807)(hp:okR pr)(hpl:pr.length≤9223372036854775807)(hn:n≤255):
    FS 3 [.arr (twR l),.agg (nuC gp.1.1 gp.1.2.1 gp.1.2.2++nuC gp.2.1 gp.2.2.1 gp.2.2.2),.agg (nuC cr.1 cr.2.1 cr.2.2),.arr (nR gr),.arr (nR pr),.v (.int .u8 (n:Int))] (.v (.bool true)):=by
 obtain⟨k1,g1,bb,hP,hk1,hg1,hbb⟩:=Hs l gp.1 gp.2 cr gr ho hll hgp.1 hgp.2 hc hg hgl;have ht:=pK pr 4 hpl (by decide);have hw:=B8;have cG:∀c∈nuC gp.1.1 gp.1.2.1 gp.1.2.2++nuC gp.2.1 gp.2.2.1 gp.2.2.2,Closed c:=b8 (fe gp.1) (fe gp.2);have cN:=aH (cj pr);have htl:(twR l).length=l.length:=by simp[twR]
 refine f_n Tryz.func3 ?_ ?_;exact ac (cY l) (ac (aC cG) (ac (aC (fe cr)) (ac (aH (cj gr)) (ac cN (ac (ag _) af)))));refine r_z 3 ?_;cases bb with
 |false=>
  refine r_c 14 (hP) ?_;refine a_z ?_;refine ae (q_z 12 ?_);refine cT (r_c 2 (hw) ?_);refine a_z ?_;exact ai (t_e (ag _))
 |true=>
 obtain⟨rfl,rfl,hpo⟩:=hbb rfl;refine r_c 14 (hP) ?_;refine a_z ?_;cases et:fj pr 4 with
 |false=>
  rw[et] at ht;refine ae (q_c 12 (ht) ?_);refine d_z ?_;refine cT (r_c 2 (hw) ?_);refine a_z ?_;exact ai (t_e (ag _))
 |true=>
 rw[et] at ht;by_cases h3:3< l.length;refine ae (q_c 12 (ht) ?_);refine d_z ?_;refine cT (r_c 2 (hw) ?_);refine a_z ?_;exact ai (t_e (ag _));refine ae (q_c 12 (ht) ?_);refine d_z ?_;refine cF (ak ?_);obtain⟨bp,lp⟩:=oJ et hp
 have hBo:=pP pr (by have:(nL pr).length=pr.length:=by simp[nL]
                     omega) hp
 have qa:=hpo.qa;have qb:=hpo.qb;have qL:=hpo.qc;have ab:=hpo.ab;have hk:=hpo.t;have hke:=hpo.ok;have bg:=hpo.bg;have lg:=hpo.lg;generalize keM l=k at *
 generalize nV cr=L at *
 generalize nL gr=G at *
 generalize nV gp.1=a at *
 generalize nV gp.2=b at *
 refine r_c 7 (hBo) ?_;refine a_z ?_;generalize nL pr=p at *
 refine AWp.ent (st':=⟨[(5,.v (.int .u8 (n:Int))),(13,bEq k L G),(14,bSp a b),(16,.arr (pE p))],[],1,197⟩) ?_ ?_;refine s_x [] (fun hs=>?_) (fun hs=>?_)
 ·repeat' (first|exact aN|refine aA rfl ?_ ?_|exact am hs (ag _)|exact am hs (ax _)|exact Cv.boxp hs rfl (aM rfl) rfl (cZ _ _ _)|exact Cv.boxp hs rfl (aM rfl) rfl (aY _ _)|exact aV)
 ·repeat' (first|exact aE|refine h_c ?_ ?_|exact bC|refine az ?_|exact av|refine ah ?_ ?_|exact am hs (ag _)|exact am hs (ax _)|exact Cv.boxp hs rfl (aM rfl) rfl (cZ _ _ _)|exact Cv.boxp hs rfl (aM rfl) rfl (aY _ _)|exact aV)
 obtain⟨t,ht'⟩:∃t,t=n % 3:=⟨_,rfl⟩;have hkl3:=hk.l;have hkl:(kE k).length=k.length:=dj k;refine r_z 3 ?_;refine r_z 2 ?_;refine ae (r_z 5 ?_);refine aG (fun _:Unit=>ewS k L G a b p n (oR p t k 0).length (oR p t k 0) 0) (fun _=>True) ?_ ?_;refine aj (aB (fun m=>ewS k L G a b p n (oR p t (k.drop m) m).length (oR p t (k.drop m) m) m) (fun m=>m) (fun m=>m≤k.length) k.length (Nat.le_refl _) ?_ ?_);rw[List.drop_length,oR];show SEnt _ (ewS k L G a b p n 0 [] k.length);rw[D7];exact s_x [(1,18)] (fun hs=>e_4) (fun hs=>e_59);intro m hm;rcases m with _|m'
 rw[List.drop_zero];generalize oR p t k 0=O at *
 rcases hq:O.length with _|q
 rw[D7];refine ae (s_r 2 ?_);refine a_1 ?_;refine o_0 (.bin rfl rfl (vF gj (rfl))) ?_;refine ao ?_;refine cF (ay ⟨(),trivial,?_⟩);exact s_x [(1,18)] (fun hs=>e_4) (fun hs=>e_59);rw[uC];refine ae (s_r 2 ?_);refine a_1 ?_;refine o_0 (.bin rfl rfl (vF gj (rfl))) ?_;refine ao ?_;refine cF (ay ⟨(),trivial,?_⟩);refine s_z [(1,18),(2,100002)] (fun hs=>e_4) (fun hs=>?_)
 ·repeat' (first|exact aE|refine h_c ?_ ?_|exact a8 hs (cU _)|exact az (ah (Cv.sl rfl rfl rfl) (CvL.clo hs (b8 (aZ L) (ac (ax G) af))))|exact bC|refine az ?_|exact av|refine ah ?_ ?_|exact am hs (ag _)|exact am hs (ax _)|exact am hs (fE _ _ _)|exact am hs (bJ _ _)|exact aV)
 obtain⟨z,hz⟩:∃z,k[m']?=some z:=⟨_,List.getElem?_eq_getElem (by omega)⟩;have hgt:(kE k)[(((m'+1:Nat):Int)- 1).toNat]?=some (prC z):=kj hz _ (by omega)
 have hdr:k.drop m'=z::k.drop (m'+1):=by
  rw[List.drop_eq_getElem_cons (by omega),(List.getElem?_eq_some_iff.1 hz).2]
 have hO':oR p t (k.drop m') m'=oR p t (k.drop (m'+1)) (m'+1)++nm p z (decide (m'=t)):=by rw[hdr,oR]
 have hOl:(oR p t (k.drop (m'+1)) (m'+1)).length≤8:=Nat.le_trans (xz p t _ _) (by rw[List.length_drop];split <;> omega);generalize oR p t (k.drop (m'+1)) (m'+1)=O at *
 have hone:=xJ O;have nz:=hk.n z (List.mem_of_getElem? hz);have bz:=hk.b z (List.mem_of_getElem? hz);have i2:FS 9 [i64 2] (.agg (qC ((2:Int):Rat))):=du 2 (by decide);have q2:qs ((2:Int):Rat)≤3:=by decide
 have s1:=eI z.1 ((2:Int):Rat) (c6 bz.1 (by omega)) (by unfold sm;omega) (by omega);have s2:=eI p ((2:Int):Rat) (c6 bp (by omega)) (by unfold sm;omega) (by omega);have b2:=fJ bp (by omega) q2;have l2:=cL p ((2:Int):Rat);have s3:=xQ z.2 (aX p ((2:Int):Rat)) (c6 bz.2 (by omega)) (c6 b2 (by omega)) (by omega) (by omega);have h1:kE O++[[.arr (pE (aX z.1 ((2:Int):Rat))),.arr (pE p)],[.arr (pE z.1),.arr (pE (cK z.2 (aX p ((2:Int):Rat))))]]=kE (O++nm p z true):=by simp[kE,nm,prC]
 have h2:kE O++[prC z]=kE (O++nm p z false):=by simp[kE,nm]
 have lp1:(nm p z true).length=2:=rfl;have lp0:(nm p z false).length=1:=rfl;have l1:(O++nm p z true).length=O.length+1+1:=by simp[nm]
 have l0:(O++nm p z false).length=O.length+1:=by simp[nm]
 rcases hq:O.length with _|q
 have hOe:O=[]:=List.eq_nil_of_length_eq_zero hq;subst hOe;rw[D7];refine ae (q_z 2 ?_);refine cT (ak (ae (aj ?_)));by_cases e:m'=t;refine s_r 5 ?_;refine a_4 ?_;refine o_0 (.bin rfl rfl (vT ci ((by simp;omega)))) ?_;refine ao ?_;refine cT (r_d a6 33 ?_);refine a_5 ?_;refine i_x hgt ?_;refine a_1 ?_;refine l_1 hgt ?_;refine c_s (i2) ?_;refine c_s (s1) ?_;refine a_5 ?_;refine i_x hgt ?_;refine a_1 ?_;refine l_1 hgt ?_;refine a_3 ?_;refine i_x hgt ?_;refine a_1 ?_;refine l_1 hgt ?_;refine c_s (i2) ?_;refine c_s (s2) ?_;refine c_s (s3) ?_;refine a_5 ?_;refine ao (n_k ?_);refine r_m 3 ?_;refine a_z ?_;refine⟨m',by omega,by omega,?_⟩;rw[hO',decide_eq_true e,l1,uC];exact s_x [(1,18),(2,103)] (fun hs=>e_4) (fun hs=>e_60);refine s_r 5 ?_;refine a_4 ?_;refine o_0 (.bin rfl rfl (vF ci ((by simp;omega)))) ?_;refine ao ?_;refine cF (r_d a6 11 ?_);refine a_5 ?_;refine i_x hgt ?_;refine l_x hgt ?_;refine a_4 ?_;refine ao (n_k ?_);refine r_m 3 ?_;refine a_z ?_;refine⟨m',by omega,by omega,?_⟩;rw[hO',decide_eq_false e,l0,uC];exact s_x [(1,18),(2,113)] (fun hs=>e_4) (fun hs=>e_61);have hkO:(kE O).length=q+1:=by rw[dj,hq]
 rw[uC];refine ae (q_z 2 ?_);refine cT (ak (ae (aj ?_)));by_cases e:m'=t
 ·refine s_r 5 ?_
  refine a_4 ?_;refine o_0 (.bin rfl rfl (vT ci ((by simp;omega)))) ?_;refine ao ?_;refine cT (r_d a6 33 ?_);refine a_5 ?_;refine i_x hgt ?_;refine a_1 ?_;refine l_1 hgt ?_;refine c_s (i2) ?_;refine c_s (s1) ?_;refine a_5 ?_;refine i_x hgt ?_;refine a_1 ?_;refine l_1 hgt ?_;refine a_3 ?_;refine i_x hgt ?_;refine a_1 ?_;refine l_1 hgt ?_;refine c_s (i2) ?_;refine c_s (s2) ?_;refine c_s (s3) ?_;refine o_0 (.build TZ.h tp_52.h rfl rfl) ?_;refine o_1 (.buildSlice te_29.h TZ.h rfl (by decide) rfl rfl rfl (by first|(simp;done)|(simp[bZ,ofV];done)|rfl)) ?_;refine o_2 (.append_l rfl rfl rfl te_29.h rfl rfl rfl rfl rfl d_o (by first|exact dq _|exact dp _|exact cW _|exact dr _|exact dn _|assumption|rfl|simp) (by first|rfl|exact dq _|exact dp _|exact cW _|exact dr _|exact dn _|simp) rfl (.lsl rfl (nle rfl)) TZ.h rfl TB.h d_o (by first|(simp[maxLen];done)|(simp[maxLen];omega))) ?_
  first|refine aF (.fieldAddr_l rfl TF.h (by decide)) rfl rfl ?_|refine aF (.fieldAddr_a rfl TF.h (by decide)) rfl rfl ?_
  refine dX (.store rfl rfl rfl rfl rfl rfl TS.h (nle rfl)) ?_;refine ao (n_k ?_);refine r_m 3 ?_;refine a_z ?_;refine⟨m',by omega,by omega,?_⟩;rw[hO',decide_eq_true e,l1,hq,uC];exact s_x [(1,18),(2,103)] (fun hs=>e_4) (fun hs=>e_60)
 ·refine s_r 5 ?_
  refine a_4 ?_;refine o_0 (.bin rfl rfl (vF ci ((by simp;omega)))) ?_;refine ao ?_;refine cF (r_d a6 11 ?_);refine a_5 ?_;refine i_x hgt ?_;refine l_x hgt ?_;refine o_1 (.buildSlice te_29.h TZ.h rfl (by decide) rfl rfl rfl (by first|(simp;done)|(simp[bZ,ofV];done)|rfl)) ?_;refine o_2 (.append_l rfl rfl rfl te_29.h rfl rfl rfl rfl rfl d_o (by first|exact dq _|exact dp _|exact cW _|exact dr _|exact dn _|assumption|rfl|simp) (by first|rfl|exact dq _|exact dp _|exact cW _|exact dr _|exact dn _|simp) rfl (.lsl rfl (nle rfl)) TZ.h rfl TB.h d_o (by first|(simp[maxLen];done)|(simp[maxLen];omega))) ?_
  first|refine aF (.fieldAddr_l rfl TF.h (by decide)) rfl rfl ?_|refine aF (.fieldAddr_a rfl TF.h (by decide)) rfl rfl ?_
  refine dX (.store rfl rfl rfl rfl rfl rfl TS.h (nle rfl)) ?_;refine ao (n_k ?_);refine r_m 3 ?_;refine a_z ?_;refine⟨m',by omega,by omega,?_⟩;rw[hO',decide_eq_false e,l0,hq,uC];exact s_x [(1,18),(2,113)] (fun hs=>e_4) (fun hs=>e_61)
 rintro _ _;have hO:oK k p t=oR p t k 0++[(p,[])]:=rfl;refine bi (fun _:Unit=>⟨[(13,bEq k L G),(14,bSp a b),(18,.lptr 1 0 0)],[(1,some ⟨40,5,[.arr (kE (oK k p t))::(qC L++[.arr (pE G)])]⟩)],2,197⟩) (fun _=>True) ?_ ?_;rw[hO];have hOl:(oR p t k 0).length≤8:=Nat.le_trans (xz p t _ _) (by split <;> omega);generalize oR p t k 0=O at *
 have hone:=xJ O;rcases hq:O.length with _|q
 have hOe:O=[]:=List.eq_nil_of_length_eq_zero hq;subst hOe;rw[D7];refine r_m 8 ?_;refine a_z ?_;refine⟨(),trivial,?_⟩;refine s_x [(1,18)] (fun hs=>e_62) (fun hs=>?_)
 ·repeat' (first|exact aE|refine h_c ?_ ?_|exact az (ah (Cv.shut hs rfl (aM rfl) (by simp) (by rw[List.drop_zero,List.take_of_length_le (by simp)];exact CM hs [] p)) (CvL.clo hs (b8 (aZ L) (ac (ax G) af))))|exact bC|refine az ?_|exact av|refine ah ?_ ?_|exact am hs (fE _ _ _)|exact am hs (bJ _ _)|exact aV)
 ·have hkO:(kE O).length=q+1:=by rw[dj,hq]
  have hle:0+(q+1+1)≤(kE O++[[AV.arr (pE p),AV.emp]]).length:=by rw[List.length_append,hkO];exact Nat.le_of_eq (Nat.zero_add _)
  have key:∀{r:Ren} {hp hp':Nat→Option ABlk},Shr r hp hp'→CvLL r hp hp' (List.take (q+1+1) (List.drop 0 (kE O++[[AV.arr (pE p),AV.emp]]))) (kE (O++[(p,[])])):=fun hs=>by
   rw[List.drop_zero,List.take_of_length_le (by rw[List.length_append,hkO];exact Nat.le_refl _)];exact CM hs O p
  rw[uC];refine r_m 8 ?_
  first|refine aF (.fieldAddr_l rfl TF.h (by decide)) rfl rfl ?_|refine aF (.fieldAddr_a rfl TF.h (by decide)) rfl rfl ?_
  first|refine aF (.load_l1 rfl rfl rfl TG.h rfl) rfl rfl ?_|refine aF (.load_a1 rfl rfl TG.h rfl) rfl rfl ?_
  refine o_0 (.move rfl) ?_;refine o_0 (.build TZ.h tp_52.h rfl rfl) ?_;refine o_1 (.buildSlice te_29.h TZ.h rfl (by decide) rfl rfl rfl (by first|(simp;done)|(simp[bZ,ofV];done)|rfl)) ?_;refine o_2 (.append_l rfl rfl rfl te_29.h rfl rfl rfl rfl rfl d_o (by first|exact dq _|exact dp _|exact cW _|exact dr _|exact dn _|assumption|rfl|simp) (by first|rfl|exact dq _|exact dp _|exact cW _|exact dr _|exact dn _|simp) rfl (.lsl rfl (nle rfl)) TZ.h rfl TB.h d_o (by first|(simp[maxLen];done)|(simp[maxLen];omega))) ?_
  first|refine aF (.fieldAddr_l rfl TF.h (by decide)) rfl rfl ?_|refine aF (.fieldAddr_a rfl TF.h (by decide)) rfl rfl ?_
  refine dX (.store rfl rfl rfl rfl rfl rfl TS.h (nle rfl)) ?_;refine ao ?_;refine⟨(),trivial,?_⟩;refine s_x [(1,18)] (fun hs=>e_62) (fun hs=>?_)
  ·repeat' (first|exact aE|refine h_c ?_ ?_|exact az (ah (Cv.shut hs rfl (aM rfl) hle (key hs)) (CvL.clo hs (b8 (aZ L) (ac (ax G) af))))|exact bC|refine az ?_|exact av|refine ah ?_ ?_|exact am hs (fE _ _ _)|exact am hs (bJ _ _)|exact aV)
 rintro _ _;have hG:=hk.toG;have hG':=oK_G (t:=t) hk lp bp;have sa:sm a:=by unfold sm;omega
 have sb:sm b:=by unfold sm;omega
 have d1:=D2 hG qa qb sa sb ab;have d2:=D2 hG' qa qb sa sb ab;rw[detQ_oK hk.l] at d2;obtain⟨db,dl⟩:=detQ_bd hG qa qb;generalize yr k a b=d at *
 have sd:=xR d d (c6 db (by omega)) (c6 db (by omega)) (by omega) (by omega);rw[show Dj d d=true from decide_eq_true rfl] at sd;obtain⟨u,v,B,e,f1,f2,⟨ul,ub⟩,⟨vl,vb⟩,uv,Bl,Bb⟩:=sol_two hG hG' (ta_G hG lg bg qL qa qb ab) (ta_G hG' lg bg qL qa qb ab) lg bg qL;have su:=xR u v (c6 ub (by omega)) (c6 vb (by omega)) (by omega) (by omega);rw[show Dj u v=true from decide_eq_true uv] at su;have hmB:(mE B).length=B.length:=by simp[mE]
 have cB:=closed_mA B;refine r_c 9 (d1) ?_;refine a_z ?_;refine r_c 9 (d2) ?_;refine a_z ?_;refine r_c 10 (f1) ?_;refine a_z ?_;refine r_c 10 (f2) ?_;refine a_z ?_;refine ae (s_r 30 ?_);refine a_1 ?_;refine o_0 (.bin rfl rfl (vF dG (rfl))) ?_;refine d_2 ?_;refine aQ rfl rfl rfl (.bin rfl rfl (vF dG (rfl))) rfl rfl ?_;refine d_4 ?_;refine aQ rfl rfl rfl (.bin rfl rfl (vF dG ((by simp)))) rfl rfl ?_;refine e_s (sd) ?_;refine e_s (su) ?_;refine d_7 ?_;refine aQ rfl rfl rfl (.bin rfl rfl (vF dG ((by simp)))) rfl rfl ?_;refine a_z ?_;refine cF (ak (ae (r_z 1 ?_)));refine aG (fun _:Unit=>⟨[(25,.arr (mE B))],[],1,197⟩) (fun _=>True) ?_ ?_;refine aj (aB (efS B) (fun i=>B.length- i) (fun i=>i≤B.length) 0 (Nat.zero_le _) ?_ ?_);rw[uH];exact s_f [];intro i hi;rw[uH];by_cases hlt:i< B.length;obtain⟨q,hq⟩:∃q,B[i]?=some q:=⟨_,List.getElem?_eq_getElem hlt⟩;have hgt:(mE B)[((i:Nat):Int).toNat]?=some [.arr (pE q)]:=gx hq _ (by simp);obtain⟨qb',ql'⟩:=Bb q (List.mem_of_getElem? hq);have sq:=xR q q (c6 qb' (by omega)) (c6 qb' (by omega)) (by omega) (by omega);rw[show Dj q q=true from decide_eq_true rfl] at sq;refine ae (q_z 4 ?_);refine cT (ak (bi (fun _:Unit=>efS B i) (fun _=>True) ?_ ?_));refine aj (ae (r_d a6 10 ?_));refine a_2 ?_;refine i_x hgt ?_;refine l_1 hgt ?_;refine a_2 ?_;refine i_x hgt ?_;refine l_1 hgt ?_;refine c_s (sq) ?_;refine a_1 ?_;refine ao (n_k ?_);refine cF (ak ⟨(),trivial,?_⟩);rw[uH];exact s_f [];rintro _ _;rw[uH];refine r_m 3 ?_;refine a_z ?_
 refine⟨i+1,by omega,by omega,?_⟩;rw[uH];exact s_f [];refine ae (q_z 4 ?_);refine cF (ay ⟨(),trivial,?_⟩);exact s_f [];rintro _ _;refine r_c 2 (hw) ?_;refine a_z ?_;exact ai (t_e (ag _))
end Go.Proofs.YtdgbhlkabelmbaaGreatDoor
namespace Go.Proofs.YtdgbhlkabelmbaaGreatDoor
open Go.Abs Go.Deep Go.RowKit
set_option maxRecDepth 20000
theorem rvlen{W:World}{l:List fc}{v:Value}(h:RV (fun _=>False) (fun _=>none) W (.arr (nR l)) v):l.length≤9223372036854775807:=by
 obtain⟨_,_,_,b,a,_⟩:=h;have h1:(nR l).length=l.length:=by simp[nR]
 have c:maxLen=9223372036854775807:=by decide
 omega
theorem tySt:(Tryz.prog).underlying 22=some (.slice 117):=by kernel_rfl
def twF:Array Field:= #[{name:= "A",type:=27,offset:=0,embedded:=false,tag:= "",pkgPath:= "",byteOffset:=0},{name:= "B",type:=27,offset:=1,embedded:=false,tag:= "",pkgPath:= "",byteOffset:=24}]
theorem tyTw:(Tryz.prog).underlying 117=some (.struct twF):=by kernel_rfl
theorem tycTw:(Tryz.prog).cellsOf 117=2:=by kernel_rfl
theorem tycS2:(Tryz.prog).cellsOf 27=1:=by kernel_rfl
theorem two_of{H:Type}{enc:TypeId×Value→H}{W:World}{n:Nat}{cs:List Value}{x:DataW H×List MemPlace}(h:DataW.trod enc Tryz.prog W 0 (fun _=>true) true n 117 cs=some x):
    ∃(t:gD) (c0 c1:Value),xu t∧cs=[c0,c1]∧RV (fun _=>False) (fun _=>none) W (.arr (nR t.1)) c0∧RV (fun _=>False) (fun _=>none) W (.arr (nR t.2)) c1:=by
 obtain⟨w,m,_,_,v,g,hg⟩:=DataW.trod_struct tyTw h;rw[tycTw] at v
 match cs,v,w,g with
 |[c0,c1],_,[y0,y1],_=>
  have i:DataW.trod enc Tryz.prog W 0 (fun _=>true) true m 27 (([c0,c1].drop 0).take ((Tryz.prog).cellsOf 27))=some y0:=hg 0 _ rfl;have j:DataW.trod enc Tryz.prog W 0 (fun _=>true) true m 27 (([c0,c1].drop 1).take ((Tryz.prog).cellsOf 27))=some y1:=hg 1 _ rfl;rw[tycS2] at i j;simp only[List.drop,List.take] at i j
  have l:∃a len b,c0= .slice a len b:=by
   rcases open_slice tyS i with⟨c,_⟩|⟨a,len,b,_,_,_,_,c,_⟩
   simp at c;exact⟨_,_,_,c⟩;simp at c;exact⟨_,_,_,c⟩
  have o:∃a len b,c1= .slice a len b:=by
   rcases open_slice tyS j with⟨c,_⟩|⟨a,len,b,_,_,_,_,c,_⟩
   simp at c;exact⟨_,_,_,c⟩;simp at c;exact⟨_,_,_,c⟩
  obtain⟨a,len,b,rfl⟩:=l;obtain⟨z,e,f,rfl⟩:=o;have s:DataW.Trod enc Tryz.prog W 0 (fun _=>true) true 27 (.slice a len b) y0.1 y0.2:=⟨m,by simpa[Value.cells] using i⟩;have k:DataW.Trod enc Tryz.prog W 0 (fun _=>true) true 27 (.slice z e f) y1.1 y1.2:=⟨m,by simpa[Value.cells] using j⟩;obtain⟨m0,p,r0⟩:=se s;obtain⟨m1,r,u⟩:=se k;have C:maxLen=9223372036854775807:=by decide
  have A:m0.length≤9223372036854775807:=by
   obtain⟨_,_,B,q,d,_⟩:=r0;have:(nR m0).length=m0.length:=by simp[nR]
   omega
  have y:m1.length≤9223372036854775807:=by
   obtain⟨_,_,B,q,d,_⟩:=u;have:(nR m1).length=m1.length:=by simp[nR]
   omega
  exact⟨(m0,m1),_,_,⟨⟨p,r⟩,A,y⟩,rfl,r0,u⟩
theorem twP_of{H:Type}{enc:TypeId×Value→H}{W:World}{a:Option Addr}{len cap:Nat}{d:DataW H}{ps:List MemPlace}(h:DataW.Trod enc Tryz.prog W 0 (fun _=>true) true 22 (.slice a len cap) d ps):
    ∃l:List gD,((∀t∈l,xu t)∧l.length≤9223372036854775807)∧RV (fun _=>False) (fun _=>none) W (.arr (twR l)) (.slice a len cap):=by
 obtain⟨O,hf⟩:=h;rcases open_slice tySt hf with⟨g,_⟩|⟨x,L,N,m,n,D,Pl,g,_,V,T,u,_,G⟩
 simp[Value.cells] at g;obtain⟨rfl,rfl,rfl⟩:=g;exact⟨[],⟨(fun r J=>by cases J),by simp⟩,none,0,rfl,Nat.le_refl _,by decide,.inl rfl⟩;simp[Value.cells] at g;obtain⟨rfl,rfl,rfl⟩:=g;simp only[if_true] at u;have F:m=cap:=u;rw[F] at G;rw[tycTw] at G
 have C:∀i,i< len→∃r:gD×Value×Value,xu r.1∧W.cells? 0 (x.add (i* 2)) 2=some [r.2.1,r.2.2]∧RV (fun _=>False) (fun _=>none) W (.arr (nR r.1.1)) r.2.1∧RV (fun _=>False) (fun _=>none) W (.arr (nR r.1.2)) r.2.2:=fun i z=>by
  obtain⟨U,Q,S⟩:=G i (by omega);obtain⟨t,y,c1,Z,e,E,K⟩:=two_of S;exact⟨(t,y,c1),Z,by rw[Q,e],E,K⟩
 obtain⟨R,B⟩:=choose_lt (α:=gD×Value×Value) C;have Y:maxLen=9223372036854775807:=by decide
 refine⟨(List.range len).map fun i=>(R i).1,⟨?_,by simp;omega⟩,some x,cap,by simp[twR],by simpa[twR] using V,T,?_⟩;intro r J;obtain⟨i,z,rfl⟩:=List.mem_map.1 J;exact(B i (List.mem_range.1 z)).1;by_cases h0:len=0;subst h0;exact .inl rfl;right
 have c:∀i,i< len→∀j (v:Value),[(R i).2.1,(R i).2.2][j]?=some v→W.cell? (x.add (i* 2+j))=some v:=fun i z j v hv=>by
  have X:j< 2:=by
   have:=(List.getElem?_eq_some_iff.1 hv).1;simpa using this
  have:=(World.cells?_some (B i z).2.1).2.2 j X;rw[hv,Go.Deep.add_add] at this;exact this
 have y:=c 0 (by omega) 0 _ rfl;obtain⟨b,off,A⟩:=x;have q:A=none:=by simpa[Addr.add] using World.cell?_spot y
 subst q
 have o:∀k,Addr.add ⟨b,off,none⟩ k=⟨b,off+k,none⟩:=fun k=>by
  unfold Addr.add;by_cases hk:k=0;simp[hk];simp[hk]
 refine⟨b,off,2,rfl,oQ (by rw[o] at y;exact y),(fun h=>h),?_⟩;have:=CD (M:=fun _=>False) (β:=fun _=>none) (w:=W) (b:=b) (s:=2) (off:=off) (f:=fun i=>twC (R i).1) len 0 (fun i z=>⟨rfl,?_⟩);rw[Nat.zero_mul,Nat.add_zero,←List.range_eq_range'] at this;rw[twR,List.map_map];exact this;have p:i< len:=by omega
 obtain⟨_,_,E,K⟩:=B i p;refine⟨⟨_,?_,E⟩,⟨_,?_,K⟩,trivial⟩;have:=c i p 0 _ rfl;rw[o] at this;exact this;have:=c i p 1 _ rfl;rw[o] at this;rw[Nat.add_assoc];exact this
end Go.Proofs.YtdgbhlkabelmbaaGreatDoor
namespace Go.Proofs.YtdgbhlkabelmbaaGreatDoor
open Go
def mkF(P:Program)(fn:Func)(c:OpenClaim):Bool:=(P.make==some c.make) && (c.kinds==(if c.domain.isEmpty then [] else fn.params.toList.map fun t=>match P.underlying t with|some (.int k)=>some k|_=>none)) && (c.pinned==c.pinnedBy)
section
variable {P:Program}{f:FuncId}{fn:Func}{s:ChangeSpec}{c:OpenClaim}
theorem EU (h1:c.wf (OpenSpec.ofChange s)=true) (h2:laidOutB P=true) (h3:mapsRowed P=true)
    (h4:fn.params.all (P.readableRec ·)=true) (h5:namedTie P c.named s.vars=true)
    (h6:((c.stops==[]) && (P.stops==[]) && (c.knobs==[]) && (P.stopKnobs==[]))=true)
    (h7:(c.inPlace==P.inPlace f)=true) (h8:(c.unfollowed==P.unfollowed f)=true) (h9:(c.recurses==P.recurses f)=true) (h10:(c.named==P.varsNamed f)=true)
    (h11:((c.maps==(fn.params.toList++s.plain.varTypes P).any (P.mapsRec ·)) && (c.ifaces==(fn.params.toList++s.plain.varTypes P).any (P.ifacesRec ·)) && (c.mapsOut==P.mapsAmong fn.resultTypes.toList))=true)
    (h12:((c.loops==(fn.params.toList++s.plain.varTypes P).any (P.loopsFrom ·)) && (c.wideKeys==(fn.params.toList++s.plain.varTypes P++fn.resultTypes.toList).any (P.wideKeysFrom ·)))=true)
    (h13:(s.vars.all (P.varReadable ·) && fn.resultTypes.all (fun t=>P.readableRec t && decide (t< P.types.size)) && (c.ifacesOut==fn.resultTypes.toList.any (P.ifacesRec ·)) && (c.loopsOut==fn.resultTypes.toList.any (P.loopsFrom ·)) && (c.plainKeys==P.plainKeys) && c.shortTexts.isNone)=true)
    (h14:P.stopsHeard=true) (h15:P.mayEnter=true) (h16:(c.lifted==P.liftsFinal)=true)
    (h17:mkF P fn c=true)
    (h18:((c.veiled==(fn.params.toList++s.plain.varTypes P++fn.resultTypes.toList).any (P.veiledRec ·)) && c.veiledFits P fn.params.toList (fn.params.toList++s.plain.varTypes P++fn.resultTypes.toList))=true):
    joinedFacts P f fn s c=true:=by
 unfold mkF at h17;simp only[Bool.and_eq_true] at h6 h11 h12 h13 h17 h18;simp only[joinedFacts,Bool.and_eq_true]
 and_intros
 all_goals first|assumption|exact h6.1.1.1|exact h6.1.1.2|exact h6.1.2|exact h6.2|exact h11.1.1|exact h11.1.2|exact h11.2|exact h12.1|exact h12.2|exact h13.1.1.1.1.1|exact h13.1.1.1.1.2|exact h13.1.1.1.2|exact h13.1.1.2|exact h13.1.2|exact h13.2|exact h17.1.1|exact h17.1.2|exact h17.2|exact h18.1|exact h18.2
end
theorem oE:laidOutB Tryz.prog=true:=by kernel_rfl
theorem all_mr:mapsRowed Tryz.prog=true:=by kernel_rfl
theorem all_sh:Tryz.prog.stopsHeard=true:=by kernel_rfl
theorem all_me:Tryz.prog.mayEnter=true:=by kernel_rfl
theorem all_lk:false=Tryz.prog.looks []:=by kernel_rfl
theorem all_mi:Tryz.prog.mainIs=some (true,("e9a678be14d88860ccb656ef529de31502fd7915d6f7dcf5afdb39577deff45c" :String).toList):=by kernel_rfl
theorem all_lf:Tryz.prog.liftsFinal=Rows.equationWrittenRow.lifted:=by kernel_rfl
theorem n5:Rows.equationWrittenRow.wf (OpenSpec.ofChange Rows.equationWrittenSpec)=true:=by kernel_rfl
theorem oc:Tryz.f3.params.all (Tryz.prog.readableRec ·)=true:=by kernel_rfl
theorem oe:namedTie Tryz.prog Rows.equationWrittenRow.named Rows.equationWrittenSpec.vars=true:=by kernel_rfl
theorem ob:((Rows.equationWrittenRow.stops==[]) && (Tryz.prog.stops==[]) && (Rows.equationWrittenRow.knobs==[]) && (Tryz.prog.stopKnobs==[]))=true:=by kernel_rfl
theorem oo:(Rows.equationWrittenRow.inPlace==Tryz.prog.inPlace 3)=true:=by kernel_rfl
theorem oa:(Rows.equationWrittenRow.unfollowed==Tryz.prog.unfollowed 3)=true:=by kernel_rfl
theorem od:(Rows.equationWrittenRow.recurses==Tryz.prog.recurses 3)=true:=by kernel_rfl
theorem n7:(Rows.equationWrittenRow.named==Tryz.prog.varsNamed 3)=true:=by kernel_rfl
theorem og:((Rows.equationWrittenRow.maps==(Tryz.f3.params.toList++Rows.equationWrittenSpec.plain.varTypes Tryz.prog).any (Tryz.prog.mapsRec ·)) && (Rows.equationWrittenRow.ifaces==(Tryz.f3.params.toList++Rows.equationWrittenSpec.plain.varTypes Tryz.prog).any (Tryz.prog.ifacesRec ·)) && (Rows.equationWrittenRow.mapsOut==Tryz.prog.mapsAmong Tryz.f3.resultTypes.toList))=true:=by kernel_rfl
theorem oi:((Rows.equationWrittenRow.loops==(Tryz.f3.params.toList++Rows.equationWrittenSpec.plain.varTypes Tryz.prog).any (Tryz.prog.loopsFrom ·)) && (Rows.equationWrittenRow.wideKeys==(Tryz.f3.params.toList++Rows.equationWrittenSpec.plain.varTypes Tryz.prog++Tryz.f3.resultTypes.toList).any (Tryz.prog.wideKeysFrom ·)))=true:=by kernel_rfl
theorem n6:(Rows.equationWrittenSpec.vars.all (Tryz.prog.varReadable ·) && Tryz.f3.resultTypes.all (fun t=>Tryz.prog.readableRec t && decide (t< Tryz.prog.types.size)) && (Rows.equationWrittenRow.ifacesOut==Tryz.f3.resultTypes.toList.any (Tryz.prog.ifacesRec ·)) && (Rows.equationWrittenRow.loopsOut==Tryz.f3.resultTypes.toList.any (Tryz.prog.loopsFrom ·)) && (Rows.equationWrittenRow.plainKeys==Tryz.prog.plainKeys) && Rows.equationWrittenRow.shortTexts.isNone)=true:=by kernel_rfl
theorem n8:((Rows.equationWrittenRow.veiled==(Tryz.f3.params.toList++Rows.equationWrittenSpec.plain.varTypes Tryz.prog++Tryz.f3.resultTypes.toList).any (Tryz.prog.veiledRec ·)) && Rows.equationWrittenRow.veiledFits Tryz.prog Tryz.f3.params.toList (Tryz.f3.params.toList++Rows.equationWrittenSpec.plain.varTypes Tryz.prog++Tryz.f3.resultTypes.toList))=true:=by kernel_rfl
theorem n0:Rows.equationWrittenRow.wfByText (OpenSpec.ofChange Rows.equationWrittenSpec)=true:=by kernel_rfl
theorem oq:false=Rows.equationWrittenRow.goesBy Tryz.prog:=by kernel_rfl
theorem equationWritten_fn:Tryz.prog.funcNamed Rows.equationWrittenRow.func=some 3:=by kernel_rfl
theorem om:decide (Tryz.f3.isInstance Tryz.prog Rows.equationWrittenRow.origin Rows.equationWrittenRow.targs)=true:=by kernel_rfl
theorem n4:(Tryz.f3.params.toList.all fun u=>!Tryz.prog.wantsStandIn u)=true:=by kernel_rfl
theorem oh:mkF Tryz.prog Tryz.f3 Rows.equationWrittenRow=true:=by kernel_rfl
theorem oj:(Rows.equationWrittenRow.lifted==Tryz.prog.liftsFinal)=true:=by rw[all_lf];kernel_rfl
theorem lr:joinedFacts Tryz.prog 3 Tryz.f3 Rows.equationWrittenSpec Rows.equationWrittenRow=true:=
 EU n5 oE all_mr oc oe ob oo oa od n7 og oi n6 all_sh all_me oj oh n8
theorem mr:Tryz.f3.isWrapper Tryz.prog Rows.equationWrittenRow.wrapper Rows.equationWrittenRow.mainSum:=by
 unfold Func.isWrapper;first|(rw[if_pos (by decide+kernel)];kernel_rfl)|(rw[if_neg (by decide+kernel)];exact⟨rfl,rfl⟩)
end Go.Proofs.YtdgbhlkabelmbaaGreatDoor
namespace Go.Proofs.YtdgbhlkabelmbaaGreatDoor
open Go.Abs Go.RowKit
theorem tab_glb:(Tryz.prog).globalNamed "internal/strconv.uint64pow10" =some GT:=by kernel_rfl
theorem tab_of{n1 n2:String}{a b:DataW Unit}{W:World}(h:laidMet Tryz.prog [(n1,a),(n2,b),("internal/strconv.uint64pow10",Lib.tabData .u64 Lib.pow10Tab)] W):TabW W:=by
 obtain⟨ps,⟨n,t1,c1,u1,p1,q1,_,_,_,_,⟨r,t2,s,u2,p2,q2,_,_,_,_,⟨g,t,cs,i,p,q,hg,ht,hv,m,_,_⟩,_⟩,_⟩,_,_⟩:=h;obtain rfl:=Option.some.inj (tab_glb.symm.trans hg);have j:((Tryz.prog).globals[GT]?).map (·.type)=some 287:=by kernel_rfl
 have k:(Tryz.prog).underlying 287=some (.array 20 155):=by kernel_rfl
 have l:(Tryz.prog).underlying 155=some (.int .u64):=by kernel_rfl
 have f:(Tryz.prog).cellsOf 155=1:=by kernel_rfl
 have e:(Tryz.prog).cellsOf 287=20:=by kernel_rfl
 obtain rfl:=Option.some.inj (j.symm.trans ht);have hc:=Lib.cells_of_tab (zs:=Lib.pow10Tab) k l f e m;unfold World.var? at hv;rw[tab_glb] at hv;have d:(match W.heap[GT]? with|some (.cells cs _ _)=>some cs|_=>none)=some cs:=hv;cases hh:W.heap[GT]? with
 |none=>rw[hh] at d;cases d
 |some o=>
  rw[hh] at d;cases o with
  |cells a b c=>
   obtain rfl:a=cs:=Option.some.inj d;refine⟨b,c,?_⟩;rw[hh]
   have:a=tabA:=by
    unfold tabA;rw[←hc]
   rw[this]
  |_=>cases d
end Go.Proofs.YtdgbhlkabelmbaaGreatDoor
namespace Go.Proofs.YtdgbhlkabelmbaaGreatDoor
open Go.Abs Go.ChangeAt Go.ChangeShapes Go.RowKit Go.WideShapes
theorem own:ownKnob Tryz.prog.godebug=none:=by kernel_rfl
theorem und4:Tryz.prog.underlying 4=some .bool:=by kernel_rfl
abbrev DO:List (String×DataW Unit):=Rows.equationWrittenRow.laid
theorem H6(os:Os)(args:Array Value):laidMetH Tryz.prog DO ((World.doorLaid Tryz.prog 24 os).forCall (fun _ _=>0) ⟨#[],args,[]⟩).memory:=
 laidMetH_of_parts3 (fuel:=8) (laidMet_of_run' 8 (by kernel_rfl) (by kernel_rfl)) (by kernel_rfl) (by kernel_rfl)
set_option maxRecDepth 100000 in
theorem lm(os:Os)(started:os.Started)(H:Type)(enc:TypeId×Value→H):
    ReturnsInHanded {} Tryz.checked os 3 .any (fun w args=>(Rows.equationWrittenSpec.pre enc Tryz.prog Tryz.f3 [] false w args∧laidMetH Tryz.prog DO w)∧sizedMet enc Tryz.prog Tryz.f3 (OpenSpec.ofChange Rows.equationWrittenSpec) false w args)
     (Rows.equationWrittenSpec.post enc Tryz.prog Tryz.f3 false true false false):=by
 refine returnsInHanded_of_change_and (C:=Tryz.checked) (X:=fun w _=>laidMetH Tryz.prog DO w) (fun _ _ _ hh h=>h.of_heap hh) own started (by kernel_rfl) Tryz.func3
  (ChangeSpec.witness_shaped (enc:=enc) (C:=Tryz.checked) (os:=os) (X:=fun w _=>laidMetH Tryz.prog DO w) false (World.doorLaid Tryz.prog 24 os) #[.slice none 0 0,(.agg #[.int .i64 0,.int .i64 0,.int .u8 0,.int .i64 0,.int .i64 0,.int .u8 0]),(.agg #[.int .i64 0,.int .i64 0,.int .u8 0]),.slice none 0 0,.slice none 0 0,(.int .u8 0)] 8 rfl (World.shaped_of_RefB (by kernel_rfl) (by kernel_rfl)) (by kernel_rfl) (by kernel_rfl) (by kernel_rfl) (H6 os _)) ?_
 intro W f args ds gs s d Z _ _ V _;have a:∀(j:Nat) t v,Tryz.f3.params[j]?=some t→args[j]?=some v→Value.okWide Tryz.prog W .any f t v:=d;have M:=Z;obtain⟨p,q,l,hV,rfl,hfz,hnd⟩:=Z;have hA:DataW.TrodAll enc Tryz.prog W 0 (fun _=>true) true Tryz.f3.params.toList args.toList ds p:=l;rw[Tryz.params3] at hA a;obtain⟨S,vs0,d0,ds0,p0,q0,L,rfl,rfl,K,r0⟩:=trodAll_cons hA;obtain⟨v1,vs1,d1,ds1,p1,q1,rfl,rfl,rfl,h1,r1⟩:=trodAll_cons r0;obtain⟨v2,vs2,d2,ds2,p2,q2,rfl,rfl,rfl,B,r2⟩:=trodAll_cons r1;obtain⟨T,vs3,d3,ds3,p3,q3,rfl,rfl,rfl,D,r3⟩:=trodAll_cons r2;obtain⟨R,vs4,d4,ds4,p4,q4,rfl,rfl,rfl,z,r4⟩:=trodAll_cons r3;obtain⟨N,vs5,d5,ds5,p5,q5,rfl,rfl,rfl,E,r5⟩:=trodAll_cons r4;obtain⟨rfl,rfl,rfl⟩:=trodAll_nil r5;obtain rfl:args= #[S,v1,v2,T,R,N]:=by cases args;simp_all
 obtain⟨rfl,rfl⟩:=trodVars_none hV;obtain⟨a0,o,i,rfl⟩:=okWide_slice tySt (a 0 22 S rfl rfl);obtain⟨a3,r,g,rfl⟩:=okWide_slice tyS (a 3 27 T rfl rfl);obtain⟨a4,k,n,rfl⟩:=okWide_slice tyS (a 4 27 R rfl rfl);have Q:∀x∈p0,x.block< W.heap.size:=by obtain⟨m,c⟩:=K;exact DataW.trod_lt m _ _ _ c
 have A:∀x∈p1,x.block< W.heap.size:=by obtain⟨m,c⟩:=h1;exact DataW.trod_lt m _ _ _ c
 have u:∀x∈p2,x.block< W.heap.size:=by obtain⟨m,c⟩:=B;exact DataW.trod_lt m _ _ _ c
 have J:∀x∈p3,x.block< W.heap.size:=by obtain⟨m,c⟩:=D;exact DataW.trod_lt m _ _ _ c
 have F:∀x∈p4,x.block< W.heap.size:=by obtain⟨m,c⟩:=z;exact DataW.trod_lt m _ _ _ c
 have G:∀x∈p5,x.block< W.heap.size:=by obtain⟨m,c⟩:=E;exact DataW.trod_lt m _ _ _ c
 obtain⟨l0,U,g0⟩:=twP_of K;obtain⟨l1,o1,g1⟩:=gapP_of (a 1 26 v1 rfl rfl) h1;obtain⟨l2,o2,g2⟩:=numP_of (a 2 24 v2 rfl rfl) B;obtain⟨l3,o3,g3⟩:=se D;obtain⟨l4,o4,Y⟩:=se z;obtain⟨l5,o5,g5⟩:=u8P_of (a 5 5 N rfl rfl) E;clear l d;refine((nW l0 l1 l2 l3 l4 l5 U.1 U.2 o1 o2 o3 (rvlen g3) o4 (rvlen Y) o5).calls (fun _=>False) W [.slice a0 o i,v1,v2,.slice a3 r g,.slice a4 k n,N] ⟨fun _ h=>h.elim,fun h=>h,tab_of (by rw[MakeChecks.laidMetH_plain _ _ _ (by kernel_rfl)] at V;exact V)⟩ ⟨_,_,rfl,g0,⟨_,_,rfl,g1,⟨_,_,rfl,g2,⟨_,_,rfl,g3,⟨_,_,rfl,Y,⟨_,_,rfl,g5,rfl⟩⟩⟩⟩⟩⟩).mono fun e W' ⟨y,he,hy,b⟩=>?_;have O:y= .bool true:=hy;subst he;subst O;exact⟨_,rfl,_,_,_,[],_,[],M,trodAll_mk1 (shut_bool und4 _),(trodAll_cons_mk (Below.trod oE (by kernel_rfl) (of_decide_eq_true (by kernel_rfl)) K b Q) (trodAll_cons_mk (Below.trod oE (by kernel_rfl) (of_decide_eq_true (by kernel_rfl)) h1 b A) (trodAll_cons_mk (Below.trod oE (by kernel_rfl) (of_decide_eq_true (by kernel_rfl)) B b u) (trodAll_cons_mk (Below.trod oE (by kernel_rfl) (of_decide_eq_true (by kernel_rfl)) D b J) (trodAll_cons_mk (Below.trod oE (by kernel_rfl) (of_decide_eq_true (by kernel_rfl)) z b F) (trodAll_cons_mk (Below.trod oE (by kernel_rfl) (of_decide_eq_true (by kernel_rfl)) E b G) trodAll_mk0)))))),rfl,b.frame _,fun h=>by cases h⟩
theorem nq:Rows.EquationWrittenSaid:=
 OpenClaim.holds_of_wide 3 Tryz.f3 rfl rfl rfl rfl rfl rfl rfl ⟨rfl,rfl,rfl,rfl,rfl⟩ rfl rfl rfl rfl rfl equationWritten_fn Tryz.func3 lr
  (of_decide_eq_true om) mr
  (fun os a H b _=>lm os a H b)
theorem equationWritten_card:Rows.EquationWrittenCardSaid:=
 Claim7.holds_tied_plain_at .later [] [.data,.data,.data] true (true, "e9a678be14d88860ccb656ef529de31502fd7915d6f7dcf5afdb39577deff45c") false
  nq (fun _ h=>by cases h) n0 (fun _ h=>by cases h) equationWritten_row_tie rfl ⟨rfl,rfl⟩ all_mi rfl
  (fun f fn hf hfn=>by
   obtain rfl:f=3:=Option.some.inj (equationWritten_fn.symm.trans hf)|>.symm;obtain rfl:fn=Tryz.f3:=(Option.some.inj (Tryz.func3.symm.trans hfn)).symm
   exact⟨all_lk,fun j t ht=>by
    have hm:t∈Tryz.f3.params.toList:=by simpa using Array.mem_of_getElem? ht
    exact(show Tryz.prog.wantsStandIn t=false by simpa using List.all_eq_true.1 n4 t hm)⟩)
  oq
#print axioms equationWritten_card
end Go.Proofs.YtdgbhlkabelmbaaGreatDoor
