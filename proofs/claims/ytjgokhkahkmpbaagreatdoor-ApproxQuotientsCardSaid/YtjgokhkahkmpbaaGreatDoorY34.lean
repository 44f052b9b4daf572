/- Part Y34 of the proof. -/
import Derived.Test.YtjgokhkahkmpbaaGreatDoorY33
set_option linter.all false
namespace Go.Proofs.YtjgokhkahkmpbaaGreatDoor
open Go.Abs
set_option maxRecDepth 100000
set_option maxHeartbeats 8000000
abbrev naC(P L:Lq)(lo up:Rat):La:=[.arr (pE P),.arr (pE L)]++(qC lo++qC up)
theorem fe(P L:Lq)(lo up:Rat):∀c∈naC P L lo up,Closed c:=cL (ae (aq _) (ae (aq _) ai)) (cL (bo _) (bo _))
abbrev bNa(P L:Lq)(lo up:Rat):AV:= .aptr [naC P L lo up] 0 0
theorem lM(P L:Lq)(lo up:Rat):Closed (bNa P L lo up):=aW (fe P L lo up)
theorem uQ{a b:Rat}(h:a<=b):dr a b<=0:=by
 have:¬0< dr a b:=λe=>by have:=cq_gt.1 e;grind
 omega
theorem EX(F:Lq)(s:Sp)(n:Nat)(P L:Lq)(lo up:Rat)(s1:sm s.1)(s2:sm s.2)(hs:s.1<=s.2)(hn:n<=12)(hd:db F<=40)(hp:db P<=n)(lF:F.length<=1000)(lP:P.length<=1000)(mF:smL F)(mP:smL P)(hw:FS 101 [.arr (pE (gz F P)),.agg (spC s.1 s.2),.agg (qC up)] (bln false)):
    FS 35 [.arr (pE F),.agg (spC s.1 s.2),i64 n,.agg (naC P L lo up)] (bln false):=by
 have hv:=ir s.1 s.2 s1 s2;rw[decide_eq_true (uQ hs)] at hv;have d1:=cK F ω;have d2:=cK P ω;have hsu:=oi F P mF mP ω ω;refine f_n Tryz.func35 ?_ ?_;exact ae (aq F) (ae (bK _ _) (ae (ag _) (ae (aN (fe P L lo up)) ai)));refine r_z 3 ?_;refine ac (r_c 23 (hv) ?_);refine e_s (d1) ?_;refine e_s (d2) ?_;refine d_z ?_;refine cF (am (r_c 5 (hsu) ?_));refine a_z ?_;refine ac (r_c 6 (hw) ?_);refine a_z ?_;refine cT (r_z 1 ?_);exact an (t_e (ag _))
def pnS(s:Sp)(P L:Lq)(lo up:Rat)(g:Lq):Nat->AState
 |i=>⟨[(5,bS s),(7,bNa P L lo up),(9,.arr (pE g)),(73,.arr (pE L)),(74,i64 L.length),(75,i64 i)],[],1,114⟩
theorem EW (F:Lq) (s:Sp) (n:Nat) (P L:Lq) (lo up:Rat) (g:Lq) (hg:g=gz F P) (s1:sm s.1) (s2:sm s.2) (hs:s.1<=s.2) (hn:n<=12) (hd:db F<=40) (hp:db P<=n) (lF:F.length<=1000) (lP:P.length<=1000) (mF:smL F) (mP:smL P) (hw:FS 101 [.arr (pE g),.agg (spC s.1 s.2),.agg (qC up)] (bln true))
    (h0:0< lo) (ml:sm lo) (hL:L.length=n+2) (hr:xd L=true) (mL:smL L) (hx:∀i,i< L.length->s.1<=coP L i/\coP L i<=s.2/\ea g (coP L i)/\sm (aO g (coP L i))/\lo<=c8 (aO g (coP L i))) (ha:∀i,i+1< L.length->sgZ (aO g (coP L (i+1))).num≠sgZ (aO g (coP L i)).num):
    FS 35 [.arr (pE F),.agg (spC s.1 s.2),i64 n,.agg (naC P L lo up)] (bln true):=by
 have hv:=ir s.1 s.2 s1 s2;rw[decide_eq_true (uQ hs)] at hv;have d1:=cK F ω;have d2:=cK P ω;have hsu:=oi F P mF mP ω ω;rw[<-hg] at hsu;have hsl:=cb lo;have hri:=wh L mL ω;rw[hr] at hri;have hll:(pE L).length=L.length:=by simp[pE]
 have hsp:¬sgZ lo.num<=(0:Int):=λe=>by have:=sg_leA.1 e;grind
 refine f_n Tryz.func35 ?_ ?_;exact ae (aq F) (ae (bK _ _) (ae (ag _) (ae (aN (fe P L lo up)) ai)));refine r_z 3 ?_;refine ac (r_c 23 (hv) ?_);refine e_s (d1) ?_;refine e_s (d2) ?_;refine d_z ?_;refine cF (am (r_c 5 (hsu) ?_));refine a_z ?_;refine ac (r_c 6 (hw) ?_);refine a_z ?_;refine cF (am (ac (r_c 4 (hsl) ?_)));refine d_z ?_;refine cF (am (ac (s_r 12 ?_)));refine a_5 ?_;refine o_0 (.bin rfl rfl (vF bO (χ))) ?_;refine e_s (hri) ?_;refine d_z ?_;refine cF (am (ac (r_z 4 ?_)));refine aG (λ_:Unit=>⟨[],[],1,114⟩) (λ_=>True) ?_ ?_
 ·refine ak (aC (pnS s P L lo up g) (λi=>L.length- i) (λi=>i<=L.length) 0 (Nat.zero_le _) ?_ ?_)
  rw[pnS.eq_1];refine s_x [] (λhs=>?_) (λhs=>?_)
  ·repeat' (first|exact aF|refine aj rfl ?_ ?_|exact Cv.boxp hs rfl (aP rfl) rfl (cu _ _)|exact Cv.boxp hs rfl (aP rfl) rfl (fe _ _ _ _)|(refine Cv.loE hs ?_ (ag _);simp[i64];done)|exact aX)
  ·repeat' (first|exact aD|refine h_c ?_ ?_|exact bG|refine ay ?_|exact ax|refine af ?_ ?_|exact Cv.boxp hs rfl (aP rfl) rfl (cu _ _)|exact Cv.boxp hs rfl (aP rfl) rfl (fe _ _ _ _)|(refine Cv.loE hs ?_ (ag _);simp[i64];done)|exact aX)
  intro i hi;rw[pnS.eq_1];by_cases hlt:i< L.length;rotate_left;have hge:i=L.length:=ω
  subst hge;refine q_z 1 ?_;refine ac (cF (aB ⟨(),trivial,?_⟩));exact s_e [];obtain⟨x1,x2,x3,x4,x5⟩:=hx i hlt;have hgx:∀e:Nat,e=i->(pE L)[e]?=some (qC (coP L i)):=λe he=>by rw[he];exact cj (bJ hlt)
  have hE:=e8 g (coP L i) x3;have hH:=fs_aHas s.1 s.2 (coP L i) s1 s2 (iX mL i) ⟨x1,x2⟩;have hA:=eY (aO g (coP L i));have hC:=ej (c8 (aO g (coP L i))) lo (by unfold sm;rw[qs_abs];exact x4) ml;have hS:=cb (aO g (coP L i));have hcl:¬dr (c8 (aO g (coP L i))) lo< 0:=λe=>by have:=cq_lt.1 e;grind
  refine q_z 1 ?_;refine ac (cT (am (ac (ak (s_r 6 ?_)))));refine a_1 ?_
  first|refine av (.index_l rfl rfl ω ω te_29.h) rfl rfl ?_|refine av (.index_a rfl rfl ω (hgx _ ω) rfl te_29.h) rfl rfl ?_
  first|refine av (.load_l rfl rfl (hgx _ ω) TG.h TS.h (nle rfl)) rfl rfl ?_|refine av (.load_a rfl (hgx _ ω) TG.h TS.h (nle rfl)) rfl rfl ?_
  refine a_z ?_;refine r_c 5 (hE) ?_;refine a_z ?_;cases i with
  |zero=>
   refine ac (r_d hmix 30 ?_);refine c_s (hH) ?_;refine e_s (hA) ?_;refine e_s (hC) ?_;refine d_4 ?_;refine ap rfl rfl rfl (.bin rfl rfl (vF ct (rfl))) rfl rfl ?_;refine d_8 ?_;refine d_7 ?_;refine ao (n_k ?_);refine cF (am (r_m 2 ?_));refine a_z ?_;refine⟨0+1,ω,ω,?_⟩;rw[pnS.eq_1];exact s_x [] (λhs=>e_58) (λhs=>e_59)
  |succ i=>
   obtain⟨y1,y2,y3,y4,y5⟩:=hx i ω;have hgy:∀e:Nat,e=i->(pE L)[e]?=some (qC (coP L i)):=λe he=>by rw[he];exact cj (bJ ω)
   have hE2:=e8 g (coP L i) y3;have hS2:=cb (aO g (coP L i));refine ac (r_d hmix 30 ?_);refine c_s (hH) ?_;refine e_s (hA) ?_;refine e_s (hC) ?_;refine e_s (hS) ?_;refine d_5 ?_
   first|refine ap rfl rfl rfl (.index_l rfl rfl ω ω te_29.h) rfl rfl ?_|refine ap rfl rfl rfl (.index_a rfl rfl ω (hgy _ ω) rfl te_29.h) rfl rfl ?_
   first|refine ap rfl rfl rfl (.load_l rfl rfl (hgy _ ω) TG.h TS.h (nle rfl)) rfl rfl ?_|refine ap rfl rfl rfl (.load_a rfl (hgy _ ω) TG.h TS.h (nle rfl)) rfl rfl ?_
   refine c_s (hE2) ?_;refine c_s (hS2) ?_;refine ap rfl rfl rfl (.bin rfl rfl (vF aM (neI (ha i hlt)))) rfl rfl ?_;refine d_2 ?_;refine ao (n_k ?_);refine cF (am (r_m 2 ?_));refine a_z ?_;refine⟨i+1+1,ω,ω,?_⟩;rw[pnS.eq_1];exact s_x [] (λhs=>e_58) (λhs=>e_59)
 rintro _ _;refine r_z 1 ?_;exact an (t_e (ag _))
def shQ(n i:Nat):Rat:=((i:Int):Rat) / (((n:Int)+1:Int):Rat)
def jh(s:Sp)(n i:Nat):Rat:=s.1+(s.2- s.1) * shQ n i
def mnD(F:Lq)(s:Sp)(n:Nat):Dt:=⟨aH (n+2) (jh s n),aH (n+2) λi=>aO F (jh s n i),[]⟩
def okMn(F:Lq)(s:Sp)(n:Nat):Prop:=n<=12/\sz1 s.1/\sz1 (s.2- s.1)/\sz1 s.2/\∀i,i< n+2->sz1 ((i:Int):Rat)/\sz1 (shQ n i)/\sz1 ((s.2- s.1) * shQ n i)/\ea F (jh s n i)
instance (F:Lq) (s:Sp) (n:Nat):Decidable (okMn F s n):=inferInstanceAs (Decidable (_/\_/\_/\_/\_))
abbrev na0:La:=[.emp,.emp]++(zC++zC)
theorem ga:∀c∈na0,Closed c:=cL (ae aK (ae aK ai)) (cL b7 b7)
def mnH(s:Sp)(n:Nat):Nat->Hp
 |0=>[]
 |i+1=>[(2,some ⟨42,3,pE (aH (i+1) (jh s n))⟩)]
def mnS(F:Lq)(s:Sp)(n:Nat)(w:Rat):Nat->AState
 |i=>⟨[(0,.arr (pE F)),(2,i64 n),(5,bS s),(7,bQ w),(8,.lptr 1 0 0),(9,lvV 2 i),(23,i64 ((n:Int)+2)),(24,i64 i)],(1,some ⟨86,8,[na0]⟩)::mnH s n i,3,121⟩
def mnV(b i:Nat):AV:=match i with|0=> .emp|i+1=> .lsl b 0 (i+1) none 1
def mnK(F:Lq)(s:Sp)(n:Nat):Nat->Hp
 |0=>[]
 |i+1=>[(3,some ⟨42,3,pE (aH (i+1) λi=>aO F (jh s n i))⟩),(4,some ⟨3,1,nE (List.range (i+1))⟩)]
def mkS(F:Lq)(s:Sp)(n:Nat)(w q:Rat)(A:Lq):Nat->AState
 |i=>⟨[(0,.arr (pE F)),(5,bS s),(7,bQ w),(8,.lptr 1 0 0),(9,.arr (pE A)),(12,bQ q),(13,.lptr 2 0 0),(14,mnV 4 i),(49,.arr (pE A)),(50,i64 A.length),(51,i64 i)],(1,some ⟨86,8,[na0]⟩)::(2,some ⟨82,3,[[.arr (pE A),lvV 3 i,.emp]]⟩)::mnK F s n i,5,121⟩
theorem zU (F:Lq) (s:Sp) (n:Nat) (w:Rat) (p:Lq) (K:Nat) (u:Sp) (ok:okMn F s n) (hw:sz1 w) (hl:BH (mnD F s n) (List.range (n+2))=some p) (mF:smL F) (mp:smL p) (lF:F.length<=1000) (lp:p.length<=1000)
    (hfi:FS 151 [.agg (qC (w/ 4))] (i64 K)) (hdi:FS 150 [.arr (pE (gz F p)),.agg (spC s.1 s.2),i64 K] (.agg (spC u.1 u.2))) (hu:sz1 u.2) (hH:sz1 (hD (mnD F s n) (List.range (n+2)))) (hH0:hD (mnD F s n) (List.range (n+2))≠0)
    (hle:u.2- c8 (hD (mnD F s n) (List.range (n+2)))<=w) (hsm:sm (u.2- c8 (hD (mnD F s n) (List.range (n+2))))):
    FS 92 [.arr (pE F),.agg (spC s.1 s.2),i64 n,.agg (qC w)] (.agg (naC p (aH (n+2) (jh s n)) (c8 (hD (mnD F s n) (List.range (n+2)))) u.2)):=by
 obtain⟨o1,o2,o3,o4,o5⟩:=ok;have hwd:=nA s.1 s.2 o2.sm o4.sm;have hn1:=df ((n:Int)+1) ω
 have hnz:(((n:Int)+1:Int):Rat)≠0:=by
  intro e;have:(n:Int)+1=0:=by exact_mod_cast e
  omega
 have hq1:qs (((n:Int)+1:Int):Rat)<=100:=by
  have:n=0\/n=1\/n=2\/n=3\/n=4\/n=5\/n=6\/n=7\/n=8\/n=9\/n=10\/n=11\/n=12:=ω
  rcases this with rfl|rfl|rfl|rfl|rfl|rfl|rfl|rfl|rfl|rfl|rfl|rfl|rfl <;> decide
 refine f_c Tryz.func92 ?_;refine r_z 3 ?_;refine r_z 1 ?_;refine ac (r_z 3 ?_);refine aG (λ_:Unit=>⟨[(0,.arr (pE F)),(5,bS s),(7,bQ w),(8,.lptr 1 0 0),(9,.arr (pE (aH (n+2) (jh s n))))],[(1,some ⟨86,8,[na0]⟩)],2,121⟩) (λ_=>True) ?_ ?_
 ·refine ak (aC (mnS F s n w) (λi=>n+2- i) (λi=>i<=n+2) 0 (Nat.zero_le _) ?_ ?_)
  rw[mnS.eq_1];simp only[lvV,mnH];exact s_x [(1,8)] (λhs=>e_60) (λhs=>e_61);intro i hi;rw[mnS.eq_1];by_cases hlt:i< n+2;rotate_left;have hge:i=n+2:=ω
  subst hge;refine q_z 1 ?_;refine ac (cF (aB ⟨(),trivial,?_⟩));simp only[lvV,mnH];have lx:(pE (aH (n+1+1) (jh s n))).length=n+1+1:=eT _ _;refine s_x [] (λhs=>?_) (λhs=>?_)
  ·repeat' (first|exact aF|refine aj rfl ?_ ?_|exact ah hs (bU s)|exact ah hs (aT w)|exact ah hs (aq _)|(refine Cv.shut hs rfl (aP rfl) (by rw[Nat.zero_add];exact Nat.le_of_eq lx.symm) ?_;exact aI hs (by rw[List.drop_zero];exact List.take_of_length_le (Nat.le_of_eq lx)) (aJ _))|exact aX)
  ·repeat' (first|exact aD|refine h_c ?_ ?_|exact ay (CvL.clo hs ga)|exact bG|refine ay ?_|exact ax|refine af ?_ ?_|exact ah hs (bU s)|exact ah hs (aT w)|exact ah hs (aq _)|(refine Cv.shut hs rfl (aP rfl) (by rw[Nat.zero_add];exact Nat.le_of_eq lx.symm) ?_;exact aI hs (by rw[List.drop_zero];exact List.take_of_length_le (Nat.le_of_eq lx)) (aJ _))|exact aX)
  obtain⟨i1,i2,i3,i4⟩:=o5 i hlt;have hI:=df (i:Int) ω;have hov:=fQ ((i:Int):Rat) (((n:Int)+1:Int):Rat) hnz (by unfold sz1 at i1;omega);rw[show((i:Int):Rat) / (((n:Int)+1:Int):Rat)=shQ n i from rfl] at hov;have hmu:=dq (s.2- s.1) (shQ n i) (o3.two i2);have had:=fz s.1 ((s.2- s.1) * shQ n i) (o2.two i3);rw[show s.1+(s.2- s.1) * shQ n i=jh s n i from rfl] at had;have ex:pE (aH (i+1) (jh s n))=pE (aH i (jh s n))++[qC (jh s n i)]:=kr _ _;refine q_z 1 ?_;refine ac (cT (am (ac (ak (r_z 2 ?_)))));refine r_c 8 (hI) ?_;refine c_s (hn1) ?_;refine c_s (hov) ?_;refine a_z ?_;cases i with
  |zero=>
   simp only[lvV,mnH];refine r_d hmix 11 ?_;refine c_s (hwd) ?_;refine c_s (hmu) ?_;refine c_s (had) ?_;refine a_3 ?_;refine ao (n_k ?_);refine r_m 2 ?_;refine a_z ?_;refine⟨0+1,ω,ω,?_⟩;rw[mnS.eq_1];simp only[lvV,mnH];exact s_x [(2,9)] (λhs=>e_62) (λhs=>e_63)
  |succ i=>
   simp only[lvV,mnH];have lx:(pE (aH (i+1) (jh s n))).length=i+1:=eT _ _;refine r_d hmix 11 ?_;refine c_s (hwd) ?_;refine c_s (hmu) ?_;refine c_s (had) ?_;refine a_3 ?_;refine ao (n_k ?_);refine r_m 2 ?_;refine a_z ?_;refine⟨i+1+1,ω,ω,?_⟩;rw[mnS.eq_1];simp only[lvV,mnH];exact s_x [(2,9)] (λhs=>e_62) (λhs=>e_63)
 rintro _ _;have h4:=df 4 δ;have hq4:qs ((4:Int):Rat)<=10:=δ
 have hov4:=fQ w ((4:Int):Rat) δ (by unfold sz1 at hw;omega);rw[show((4:Int):Rat)=4 from rfl] at hov4 h4;obtain⟨A,hA⟩:∃A,A=aH (n+2) (jh s n):=⟨_,rfl⟩;have hAl:A.length=n+2:=by rw[hA];simp[aH]
 have hdX:(mnD F s n)=⟨A,aH (n+2) λi=>aO F (jh s n i),[]⟩:=by rw[hA];rfl
 have hlv:=zV (mnD F s n) (List.range (n+2)) p (by simp[mnD,aH]) (.inl rfl) hl;rw[hdX] at hlv;obtain⟨Hh,hHh⟩:∃Hh,Hh=hD (mnD F s n) (List.range (n+2)):=⟨_,rfl⟩;rw[<-hHh] at hH hH0 hle hsm⊢;rw[<-hdX,<-hHh] at hlv;rw[hdX] at hlv;rw[<-hA];have hAc:∀i,i< n+2->∀e,e=i->(pE A)[e]?=some (qC (jh s n i)):=λi hi e he=>by rw[hA];exact sv _ hi e he
 have hsu:=oi F p mF mp ω ω;have hab:=eY Hh;have hsb:=gO u.2 (c8 Hh) (by unfold sz1 at hu hH;rw[qs_abs];omega);have hcm:=ej (u.2- c8 Hh) w hsm hw.sm;have hsg:=cb Hh;refine ac (r_d hmix 5 ?_);refine c_s (h4) ?_;refine c_s (hov4) ?_;refine a_2 ?_;refine ao (n_k ?_);refine AWp.ent (st':=⟨[(0,.arr (pE F)),(5,bS s),(7,bQ w),(8,.lptr 1 0 0),(9,.arr (pE A)),(12,bQ (w/ 4))],[(1,some ⟨86,8,[na0]⟩)],2,121⟩) ?_ ?_;refine s_x [] (λhs=>?_) (λhs=>?_)
 ·repeat' (first|exact aF|refine aj rfl ?_ ?_|exact ah hs (bU s)|exact ah hs (aT w)|exact ah hs (aq _)|exact Cv.boxp hs rfl (aP rfl) rfl (bo _)|exact aX)
 ·repeat' (first|exact aD|refine h_c ?_ ?_|exact ay (CvL.clo hs ga)|exact bG|refine ay ?_|exact ax|refine af ?_ ?_|exact ah hs (bU s)|exact ah hs (aT w)|exact ah hs (aq _)|exact Cv.boxp hs rfl (aP rfl) rfl (bo _)|exact aX)
 refine ak (aC (λ_:Unit=>⟨[(0,.arr (pE F)),(5,bS s),(7,bQ w),(8,.lptr 1 0 0),(9,.arr (pE A)),(12,bQ (w/ 4))],[(1,some ⟨86,8,[na0]⟩)],2,121⟩) (λ_=>0) (λ_=>True) () trivial (SEnt.refl _) ?_);rintro⟨⟩ _;refine ak (r_z 4 ?_);refine r_z 1 ?_;refine ac (r_z 3 ?_);refine aG (λ_:Unit=>⟨[(0,.arr (pE F)),(5,bS s),(7,bQ w),(8,.lptr 1 0 0),(9,.arr (pE A)),(12,bQ (w/ 4)),(13,bD ⟨A,aH (n+2) λi=>aO F (jh s n i),[]⟩),(14,.arr (nE (List.range (n+2))))],[(1,some ⟨86,8,[na0]⟩)],2,121⟩) (λ_=>True) ?_ ?_
 ·refine ak (aC (mkS F s n w (w/ 4) A) (λi=>n+2- i) (λi=>i<=n+2) 0 (Nat.zero_le _) ?_ ?_)
  rw[mkS.eq_1];simp only[lvV,mnV,mnK];refine s_x [(2,13)] (λhs=>?_) (λhs=>?_)
  ·repeat' (first|exact aF|refine aj rfl ?_ ?_|exact ah hs (bU s)|exact ah hs (aT _)|exact ah hs (aq _)|(refine Cv.loE hs ?_ (ag _);simp[i64,hAl];done)|exact aX)
  ·repeat' (first|exact aD|refine h_c ?_ ?_|exact ay (CvL.clo hs ga)|exact ay (CvL.clo hs (ae (aq _) (ae aK (ae aK ai))))|exact bG|refine ay ?_|exact ax|refine af ?_ ?_|exact ah hs (bU s)|exact ah hs (aT _)|exact ah hs (aq _)|(refine Cv.loE hs ?_ (ag _);simp[i64,hAl];done)|exact aX)
  intro i hi;rw[mkS.eq_1];by_cases hlt:i< n+2;rotate_left;have hge:i=n+2:=ω
  subst hge;refine q_z 1 ?_;refine ac (cF (aB ⟨(),trivial,?_⟩));simp only[lvV,mnV,mnK];have lx:(pE (aH (n+1+1) λi=>aO F (jh s n i))).length=n+1+1:=eT _ _;refine s_x [] (λhs=>?_) (λhs=>?_)
  ·repeat' (first|exact aF|refine aj rfl ?_ ?_|exact ah hs (bU s)|exact ah hs (aT _)|exact ah hs (aq _)|(refine Cv.shut hs rfl (aP rfl) ψ ?_;exact aI hs π (dG _))|(refine Cv.sealp hs rfl (aP rfl) Nat.zero_lt_one ?_;exact ay (af (ah hs (aq _)) (af (Cv.sealE hs rfl (aP rfl) rfl lx.symm (aJ _)) (af (Cv.emp _) ax))))|exact aX)
  ·repeat' (first|exact aD|refine h_c ?_ ?_|exact ay (CvL.clo hs ga)|exact bG|refine ay ?_|exact ax|refine af ?_ ?_|exact ah hs (bU s)|exact ah hs (aT _)|exact ah hs (aq _)|(refine Cv.shut hs rfl (aP rfl) ψ ?_;exact aI hs π (dG _))|(refine Cv.sealp hs rfl (aP rfl) Nat.zero_lt_one ?_;exact ay (af (ah hs (aq _)) (af (Cv.sealE hs rfl (aP rfl) rfl lx.symm (aJ _)) (af (Cv.emp _) ax))))|exact aX)
  obtain⟨i1,i2,i3,i4⟩:=o5 i hlt;have hE:=e8 F (jh s n i) i4;have ex:pE (aH (i+1) λi=>aO F (jh s n i))=pE (aH i λi=>aO F (jh s n i))++[qC (aO F (jh s n i))]:=kr _ _;have hsn:nE (List.range (i+1))=nE (List.range i)++[[i64 i]]:=by rw[List.range_succ,qJ];rfl
  refine q_z 1 ?_;refine ac (cT (am (ac (ak (s_r 6 ?_)))));refine a_1 ?_
  first|refine av (.index_l rfl rfl ω ω te_29.h) rfl rfl ?_|refine av (.index_a rfl rfl ω (hAc i hlt _ ω) rfl te_29.h) rfl rfl ?_
  first|refine av (.load_l rfl rfl (hAc i hlt _ ω) TG.h TS.h (nle rfl)) rfl rfl ?_|refine av (.load_a rfl (hAc i hlt _ ω) TG.h TS.h (nle rfl)) rfl rfl ?_
  refine a_z ?_;cases i with
  |zero=>
   simp only[lvV,mnV,mnK];refine r_d hmix 14 ?_;refine c_s (hE) ?_;refine a_8 ?_;refine a_1 ?_;refine ao (n_k ?_);refine r_m 2 ?_;refine a_z ?_;refine⟨0+1,ω,ω,?_⟩;rw[mkS.eq_1];simp only[lvV,mnV,mnK];exact s_x [(3,62),(4,14)] (λhs=>e_64) (λhs=>e_65)
  |succ i=>
   simp only[lvV,mnV,mnK];have lx:(pE (aH (i+1) λi=>aO F (jh s n i))).length=i+1:=eT _ _;have hon:=tZ (List.range (i+1));have hlr:(nE (List.range (i+1))).length=i+1:=ψ
   refine r_d hmix 14 ?_;refine c_s (hE) ?_;refine a_8 ?_;refine a_1 ?_;refine ao (n_k ?_);refine r_m 2 ?_;refine a_z ?_;refine⟨i+1+1,ω,ω,?_⟩;rw[mkS.eq_1];simp only[lvV,mnV,mnK];exact s_x [(3,62),(4,14)] (λhs=>e_64) (λhs=>e_65)
 rintro _ _;refine r_c 9 (hlv) ?_;refine a_z ?_;refine r_c 4 (hsu) ?_;refine a_z ?_;refine ac (r_d hmix 7 ?_);refine c_s (hfi) ?_;refine c_s (hdi) ?_;refine a_2 ?_;refine ao (n_k ?_);refine ac (ac (r_d hmix 8 ?_));refine c_s (hab) ?_;refine c_s (hsb) ?_;refine c_s (hcm) ?_;refine o_0 (.bin rfl rfl (vT cO (decide_eq_true (uQ hle)))) ?_;refine ao (n_k ?_);refine cT (ac (r_c 3 (hsg) ?_));refine o_0 (.bin rfl rfl (vF aM (neI (mt sgZ_num_eq.1 hH0)))) ?_;refine ao ?_;refine cF (am (ac (r_d hmix 8 ?_)));refine c_s (hab) ?_;refine a_4 ?_;refine ao (n_k ?_);exact an (c_e (aN (fe _ _ _ _)))
def itO(l:List Int):Lq->Nat->AState
 |[],i=>⟨[(0,.arr (zE l)),(3,.emp),(4,i64 i)],[],1,20⟩
 |q::Q,i=>⟨[(0,.arr (zE l)),(3,.lsl 1 0 (Q.length+1) none 3),(4,i64 i)],[(1,some ⟨42,3,pE (q::Q)⟩)],2,20⟩
theorem pF(l:List Int)(i:Nat):itO l [] i=⟨[(0,.arr (zE l)),(3,.emp),(4,i64 i)],[],1,20⟩:=rfl
theorem kK(l:List Int)(q:Rat)(Q:Lq)(i:Nat):itO l (q::Q) i=⟨[(0,.arr (zE l)),(3,.lsl 1 0 (Q.length+1) none 3),(4,i64 i)],[(1,some ⟨42,3,pE (q::Q)⟩)],2,20⟩:=rfl
theorem wm(l:List Int)(hl:l.length<=1099511627776)(hb:∀n∈l,-9223372036854775808<=n/\n<=9223372036854775807):FS 31 [.arr (zE l)] (.arr (pE (zR l))):=by
 refine f_n Tryz.func31 ?_ ?_;exact ae (aU (eK l)) ai;refine r_z 1 ?_;refine r_z 1 ?_;refine ac (r_z 1 ?_);refine aG (λ_:Unit=>itO l (zR l) l.length) (λ_=>True) ?_ ?_;refine ak (aC (λi:Nat=>itO l (zR (l.take i)) i) (λi=>l.length- i) (λi=>i<=l.length) 0 (Nat.zero_le _) ?_ ?_);show SEnt _ (itO l [] 0);rw[pF];have:=(aU (eK l));exact s_f [];rintro i hi;have hlen:(zE l).length=l.length:=by simp[zE]
 by_cases hlt:i< l.length
 ·obtain⟨n,hn⟩:∃n,l[i]?=some n:=⟨_,List.getElem?_eq_getElem hlt⟩
  have hgt:(zE l)[((i:Nat):Int).toNat]?=some [i64 n]:=by
   show(zE l)[i]?=_;simp[zE,hn]
  have hnb:=hb n (List.mem_of_getElem? hn);have htk:zR (l.take (i+1))=zR (l.take i)++[(n:Rat)]:=by rw[dO hn];simp[zR]
  have hQl:(zR (l.take i)).length=i:=by simp[zR];omega
  cases hQ:zR (l.take i) with
  |nil=>
   simp only[pF];refine ac (r_z 4 ?_);refine aw rfl (λh=>?_) (λh=>?_);rotate_left;exact absurd h (by simp[zE];omega);refine am (ac (ak (r_m 9 ?_)));refine a_3 ?_;refine i_x hgt ?_;refine l_1 hgt ?_;refine c_s (df n hnb) ?_;refine a_z ?_;refine r_m 3 ?_;refine a_z ?_;refine⟨i+1,ω,hlt,?_⟩;simp only[htk,hQ,List.nil_append,kK];have:=(aU (eK l));have:=(aJ [(n:Rat)]);exact s_f [(1,3)]
  |cons q Q=>
   rw[hQ] at hQl;simp at hQl;simp only[kK];refine ac (r_z 4 ?_);refine aw rfl (λh=>?_) (λh=>?_);rotate_left;exact absurd h (by simp[zE];omega);refine am (ac (ak (r_m 9 ?_)));refine a_3 ?_;refine i_x hgt ?_;refine l_1 hgt ?_;refine c_s (df n hnb) ?_;refine a_z ?_;refine r_m 3 ?_;refine a_z ?_;refine⟨i+1,ω,hlt,?_⟩;simp only[htk,hQ,List.cons_append,kK];have e:pE (q::Q)++[qC (n:Rat)]=pE (q::(Q++[(n:Rat)])):=by simp[pE]
   refine s_x [(1,3)] (λhs=>e_15) (λhs=>?_) e_2
   ·repeat' (first|exact aD|refine h_c ?_ ?_|exact aI hs e (aJ _)|exact bG|refine ay ?_|exact ax|refine af ?_ ?_|exact ah hs (aU (eK l))|exact aX)
 have hge:i=l.length:=ω
 subst hge;simp only[List.take_length];cases hQ:zR l with
 |nil=>
  simp only[pF];refine ac (r_z 4 ?_);refine aw rfl (λh=>?_) (λh=>?_);exact absurd h (by simp[zE]);refine aB ⟨(),trivial,?_⟩;simp only[hQ,pF];have:=(aU (eK l));exact s_f []
 |cons q Q=>
  simp only[kK];refine ac (r_z 4 ?_);refine aw rfl (λh=>?_) (λh=>?_);exact absurd h (by simp[zE]);refine aB ⟨(),trivial,?_⟩;simp only[hQ,kK];have:=(aU (eK l));exact s_f []
 rintro _ _;cases hQ:zR l with
 |nil=>
  simp only[pF];refine r_z 2 ?_;exact an (Fin.tmpN rfl)
 |cons q Q=>
  simp only[kK];refine r_z 2 ?_;exact an (Fin.tmpS rfl rfl rfl ψ (aJ _))
theorem r9(p q:Lq)(h:mu q p)(hp:p.length<=274877906944)(hq:q.length<=274877906944)(hd:0<=(if 0> db p then 0 else db p) * (if 0> db q then 0 else db q)/\(if 0> db p then 0 else db p) * (if 0> db q then 0 else db q)<=1000):FS 42 [.arr (pE p),.arr (pE q)] (.tup [.arr (pE (lX q p)),i64 0]):=by
 refine f_c Tryz.func42 ?_;refine r_z 2 ?_;refine ac (r_c 8 (cK p ω) ?_);refine c_s (cK q ω) ?_;refine d_z ?_;refine cF (am (r_c 5 (Cb p q h hp) ?_));refine a_z ?_;refine an (Fin.many ⟨_,_,rfl,rfl,⟨_,_,rfl,rfl,rfl⟩⟩ (nle rfl) ?_);exact af (ah aE (aq _)) (af (ah aE (ag _)) ax)
theorem Ce(F:Lq)(s:Sp)(n:Nat)(w:Rat)(r:La)(hs:s.1< s.2)(s1:sm s.1)(s2:sm s.2)(hw:0< w)(mw:sm w)(hn:n<=12)(hd:db F<=40/\(n:Int)< db F)(lF:F.length<=1000)(hf:sm (cw 200))(hw2:cw 200<=w)(hr:FS 92 [.arr (pE F),.agg (spC s.1 s.2),i64 n,.agg (qC w)] (.agg r))(hl:r.length=8)(hc:∀c∈r,Closed c)(ho:r.all AV.one=true):
    FS 30 [.arr (pE F),.agg (spC s.1 s.2),i64 n,.agg (qC w)] (.tup [.agg r,i64 0]):=by
 have hv:=ir s.1 s.2 s1 s2;rw[decide_eq_true (uQ φ)] at hv;have hsg:=cb w;have hdg:=cK F ω;have hfi:=jk 200;rw[show wi 200 256=200 by decide] at hfi;have hcm:=ej w (cw 200) mw hf;have hwd:=nA s.1 s.2 s1 s2;have hsw:=cb (s.2- s.1);have e1:¬sgZ w.num<=(0:Int):=λe=>by have:=sg_leA.1 e;grind
 have e2:¬dr w (cw 200)< 0:=λe=>by have:=cq_lt.1 e;grind
 have e3:¬sgZ (s.2- s.1).num=0:=λe=>by have:=sgZ_num_eq.1 e;grind
 refine f_c Tryz.func30 ?_;refine r_z 4 ?_;refine bi (λ_:Unit=>⟨[(0,.arr (pE F)),(2,i64 n),(5,bS s),(7,bQ w),(8,.lptr 1 0 0)],[(1,some ⟨86,8,[na0]⟩)],2,64⟩) (λ_=>True) ?_ ?_;refine ak (r_c 9 (hv) ?_);refine e_s (hsg) ?_;refine d_z ?_;refine cF (q_z 7 ?_);refine cF (ac (r_d hmix 10 ?_));refine c_s (hdg) ?_;refine e_s (hfi) ?_;refine c_s (hcm) ?_;refine d_3 ?_;refine ao (n_k ?_);refine cF (r_c 5 (hdg) ?_);refine d_z ?_;refine cF (r_c 5 (hwd) ?_);refine c_s (hsw) ?_;refine o_0 (.bin rfl rfl (vF aM (neI e3))) ?_;refine a_z ?_;refine cF (am ⟨(),trivial,?_⟩);exact s_x [(1,8)] (λhs=>e_60) (λhs=>e_61);rintro _ _
 obtain⟨r0,r1,r2,r3,r4,r5,r6,r7,rfl⟩:∃a b c d e f g h,r=[a,b,c,d,e,f,g,h]:=by
  match r,hl with
  |[a,b,c,d,e,f,g,h],_=>exact⟨a,b,c,d,e,f,g,h,rfl⟩
 refine r_c 7 (hr) ?_;refine ee (.store rfl rfl rfl rfl rfl ho TS.h (nle rfl)) ?_;refine a_z ?_;refine an (Fin.many ⟨_,_,rfl,⟨_,_,_,_,_,rfl,rfl,rfl,.inl ⟨TG.h,_,TS.h,nle rfl,rfl⟩⟩,⟨_,_,rfl,rfl,rfl⟩⟩ (nle rfl) ?_);exact af (Cv.agg (CvL.clo aE hc)) (af (ah aE (ag _)) ax)
def ffM(l:Lq):Nat->Lq
 |0=>[]
 |i+1=>if i< l.length then lR (ffM l i) (cI (chP i).1 (coP l i)) else ffM l i
def okFf(l:Lq):Prop:=l.length<=41/\smL l/\∀i,i< l.length->GD i/\smL (chP i).1/\smL (cI (chP i).1 (coP l i))/\smL (ffM l i)/\(chP i).1.length<=1000/\(ffM l i).length<=1000
instance (l:Lq):Decidable (okFf l):=inferInstanceAs (Decidable (_/\_/\_))
def ffS(l:Lq)(R:Lc):Nat->AState
 |i=>⟨[(0,.arr (pE l)),(4,.arr (pE (ffM l i))),(13,.arr R),(14,i64 ((l.length:Int)+1)),(15,i64 i)],[],1,34⟩
theorem xT(l:Lq)(ok:okFf l):FS 46 [.arr (pE l)] (.tup [.arr (pE (ffM l (l.length+1))),i64 0]):=by
 obtain⟨o1,o2,o3⟩:=ok;have hll:(pE l).length=l.length:=by simp[pE]
 have hfi:=wn l.length ω λk hk=>(o3 k hk).1;have hRc:=fH (kn (l.length+1));obtain⟨R,hR⟩:∃R,R=cE (kn (l.length+1)):=⟨_,rfl⟩;have hRl:R.length=l.length+1:=by rw[hR];simp[cE]
 rw[<-hR] at hfi;have hRc:Closed (.arr R):=by rw[hR];exact fH _
 have hRg:∀i,i< l.length+1->∀e,e=i->R[e]?=some [.arr (pE (chP i).1)]:=λi hi e he=>by
  subst he;rw[hR];refine vg ?_;rw[kn,List.getElem?_map,List.getElem?_range hi];rfl
 refine f_c Tryz.func46 ?_;refine r_z 2 ?_;refine ac (q_z 4 ?_);refine cF (am (r_z 1 ?_));refine ac (r_c 5 (hfi) ?_);refine a_z ?_;refine aG (λ_:Unit=>⟨[(4,.arr (pE (ffM l (l.length+1))))],[],1,34⟩) (λ_=>True) ?_ ?_
 ·refine ak (aC (ffS l R) (λi=>l.length+1- i) (λi=>i<=l.length+1) 0 (Nat.zero_le _) ?_ ?_)
  rw[ffS.eq_1];refine s_x [] (λhs=>?_) (λhs=>?_)
  ·repeat' (first|exact aF|refine aj rfl ?_ ?_|exact ah hs hRc|exact ah hs (aq _)|exact Cv.emp _|(refine Cv.loE hs ?_ (ag _);simp[i64,hRl];done)|exact aX)
  ·repeat' (first|exact aD|refine h_c ?_ ?_|exact bG|refine ay ?_|exact ax|refine af ?_ ?_|exact ah hs hRc|exact ah hs (aq _)|exact Cv.emp _|(refine Cv.loE hs ?_ (ag _);simp[i64,hRl];done)|exact aX)
  intro i hi;rw[ffS.eq_1];by_cases hlt:i< l.length+1;rotate_left;have hge:i=l.length+1:=ω
  subst hge;refine q_z 1 ?_;refine ac (cF (aB ⟨(),trivial,?_⟩));exact s_e [];refine q_z 1 ?_;refine ac (cT (am (ac (ak (s_r 5 ?_)))));refine a_1 ?_
  first|refine av (.index_l rfl rfl ω ω te_161.h) rfl rfl ?_|refine av (.index_a rfl rfl ω (hRg i hlt _ ω) rfl te_161.h) rfl rfl ?_
  first|refine av (.load_l1 rfl rfl (hRg i hlt _ ω) TG.h rfl) rfl rfl ?_|refine av (.load_a1 rfl (hRg i hlt _ ω) TG.h rfl) rfl rfl ?_
  refine a_z ?_;by_cases hll2:i< l.length;obtain⟨p1,p2,p3,p4,p5,p6⟩:=o3 i hll2;have hgl:∀e:Nat,e=i->(pE l)[e]?=some (qC (coP l i)):=λe he=>by rw[he];exact cj (bJ hll2)
  have hsl:=eB (chP i).1 (coP l i);have hsc:=iH (chP i).1 (coP l i) p2 (iX o2 i) ω;have had:=uB (ffM l i) (cI (chP i).1 (coP l i)) p4 p3 ω ω;have hff:ffM l (i+1)=lR (ffM l i) (cI (chP i).1 (coP l i)):=by rw[ffM,if_pos hll2]
  rw[<-hff] at had;refine q_z 4 ?_;refine cT (r_m 9 ?_);refine a_4 ?_
  first|refine av (.index_l rfl rfl ω ω te_29.h) rfl rfl ?_|refine av (.index_a rfl rfl ω (hgl _ ω) rfl te_29.h) rfl rfl ?_
  first|refine av (.load_l rfl rfl (hgl _ ω) TG.h TS.h (nle rfl)) rfl rfl ?_|refine av (.load_a rfl (hgl _ ω) TG.h TS.h (nle rfl)) rfl rfl ?_
  refine c_s (hsc) ?_;refine c_s (had) ?_;refine a_z ?_;refine r_m 2 ?_;refine a_z ?_;refine⟨i+1,ω,ω,?_⟩;rw[ffS.eq_1];exact s_x [] (λhs=>e_66) (λhs=>e_67);have hff:ffM l (i+1)=ffM l i:=by rw[ffM,if_neg hll2]
  refine q_z 4 ?_;refine cF (am (r_m 2 ?_));refine a_z ?_;refine⟨i+1,ω,ω,?_⟩;rw[ffS.eq_1,hff];exact s_x [] (λhs=>e_66) (λhs=>e_67)
 rintro _ _;refine r_z 3 ?_;refine an (Fin.many ⟨_,_,rfl,rfl,⟨_,_,rfl,rfl,rfl⟩⟩ (nle rfl) ?_);exact af (ah aE (aq _)) (af (ah aE (ag _)) ax)
def ecB(r:Lq)(n:Nat):Nat->Rat
 |0=>0
 |j+1=>ecB r n j+c8 (coP r (n+1+j))
def jI(s:Sp):Rat:=(s.1+s.2) * cw 1
def fX(s:Sp):Rat:=2/ (s.2- s.1)
def ecP(r:Lq)(n:Nat):Lq:=ffM (r.take (min r.length (n+1))) ((r.take (min r.length (n+1))).length+1)
def okEc(F:Lq)(s:Sp)(n:Nat)(r:Lq):Prop:=s.1< s.2/\sm s.1/\sm s.2/\sz1 (s.2- s.1)/\sz1 (jI s)/\sz1 (fX s)/\n<=40/\db F<=40/\F.length<=1000/\mu [jI s,(s.2- s.1) * (1/ 2)] F/\db [jI s,(s.2- s.1) * (1/ 2)]<=1/\r.length<=1000/\
 (∀i,i< r.length->sz1 (coP r i))/\(∀j,j< r.length+1->sz1 (ecB r n j))/\okFf (r.take (min r.length (n+1)))/\mu [-(jI s* fX s),fX s] (ecP r n)/\(ecP r n).length<=1000/\db (ecP r n)<=40/\db [-(jI s* fX s),fX s]<=1/\sz1 (jI s* fX s)
instance (F:Lq) (s:Sp) (n:Nat) (r:Lq):Decidable (okEc F s n r):=inferInstanceAs (Decidable (_/\_/\_/\_/\_/\_/\_/\_/\_/\_/\_/\_/\_/\_/\_/\_/\_/\_/\_/\_))
theorem AB{p q:Lq}(h1:db p<=40)(h2:db q<=1):0<=(if 0> db p then 0 else db p) * (if 0> db q then 0 else db q)/\(if 0> db p then 0 else db p) * (if 0> db q then 0 else db q)<=1000:=by
 obtain⟨a,ha⟩:∃a,a=if 0> db p then 0 else db p:=⟨_,rfl⟩
 obtain⟨b,hb⟩:∃b,b=if 0> db q then 0 else db q:=⟨_,rfl⟩
 rw[<-ha,<-hb];have a1:0<=a/\a<=40:=by rw[ha];split <;> omega
 have b1:b=0\/b=1:=by rw[hb];split <;> omega
 rcases b1 with e|e <;> rw[e]<;> omega
def ecS(s:Sp)(r:Lq)(n:Nat):Nat->AState
 |j=>⟨[(2,i64 n),(4,bS s),(7,.lptr 1 0 0),(13,.arr (pE r)),(15,i64 ((n:Int)+1+(j:Int)))],[(1,some ⟨42,3,[qC (ecB r n j)]⟩)],2,106⟩
theorem xV(f:Nat)(F:Lq)(s:Sp)(n:Nat)(r:Lq)(ok:okEc F s n r)(hr:oY f (lX [jI s,(s.2- s.1) * (1/ 2)] F)=some r):
    FS 11 [.arr (pE F),.agg (spC s.1 s.2),i64 n] (.tup [.arr (pE (lX [-(jI s* fX s),fX s] (ecP r n))),.agg (qC (ecB r n (r.length- (n+1)))),i64 0]):=by
 obtain⟨o1,o2,o3,o4,o5,o6,o7,o8,o9,p1,p2,p3,p4,p5,p6,p7,p8,p9,q1,q2⟩:=ok;have hv:=ir s.1 s.2 o2 o3;rw[decide_eq_true (uQ φ)] at hv;have hwd:=nA s.1 s.2 o2 o3;have hsw:=cb (s.2- s.1);have e3:¬sgZ (s.2- s.1).num=0:=λe=>by have:=sgZ_num_eq.1 e;grind
 have hnz:s.2- s.1≠0:=φ
 have hdg:=cK F ω;have i1:=df 1 δ;have i2:=df 2 δ;have q12:qs ((1:Int):Rat)+qs ((2:Int):Rat)<=549755813888:=δ
 have ov1:=fQ ((1:Int):Rat) ((2:Int):Rat) δ q12;rw[show((1:Int):Rat) / ((2:Int):Rat)=1/ 2 from rfl] at ov1;have hmd:=uy s.1 s.2 o2 o3;rw[show(s.1+s.2) * cw 1=jI s from rfl] at hmd;have qh:qs (1/ 2:Rat)<=10:=by decide+kernel
 have hmw:=dq (s.2- s.1) (1/ 2) (by unfold sz1 at o4;omega);have hco:=r9 F [jI s,(s.2- s.1) * (1/ 2)] p1 ω ψ (AB o8 p2);have hto:=Cc f _ r hr;have hff:=xT (r.take (min r.length (n+1))) p6;rw[show ffM (r.take (min r.length (n+1))) ((r.take (min r.length (n+1))).length+1)=ecP r n from rfl] at hff;have q22:qs ((2:Int):Rat)<=10:=δ
 have ov2:=fQ ((2:Int):Rat) (s.2- s.1) hnz (by unfold sz1 at o4;omega);rw[show((2:Int):Rat) / (s.2- s.1)=fX s from rfl] at ov2;have hmb:=dq (jI s) (fX s) (o5.two o6);have hng:=jG (jI s* fX s);have hc2:=r9 (ecP r n) [-(jI s* fX s),fX s] p7 ω ψ (AB p9 q1);have hrl:(pE r).length=r.length:=by simp[pE]
 obtain⟨m,hm⟩:∃m,m=min r.length (n+1):=⟨_,rfl⟩;rw[<-hm] at hff;have e:(pE r).take m=pE (r.take m):=by simp[pE,List.map_take]
 refine f_c Tryz.func11 ?_;refine r_z 4 ?_;refine bi (λ_:Unit=>⟨[(0,.arr (pE F)),(2,i64 n),(4,bS s),(7,.lptr 1 0 0)],[(1,some ⟨42,3,[zC]⟩)],2,106⟩) (λ_=>True) ?_ ?_;refine ak (r_c 10 (hv) ?_);refine e_s (hwd) ?_;refine c_s (hsw) ?_;refine ap rfl rfl rfl (.bin rfl rfl (vF aM (neI e3))) rfl rfl ?_;refine a_z ?_;refine cF (q_z 7 ?_);refine cF (r_c 4 (hdg) ?_);refine d_z ?_;refine cF (am ⟨(),trivial,?_⟩);exact s_f [(1,7)];rintro _ _;refine r_c 5 (i1) ?_;refine c_s (i2) ?_;refine c_s (ov1) ?_;refine a_z ?_;refine ac (r_d hmix 8 ?_);refine c_s (hmd) ?_;refine c_s (hwd) ?_;refine c_s (hmw) ?_;refine a_2 ?_;refine ao (n_k ?_);refine s_r 8 ?_;refine a_2 ?_;refine o_1 (.callS1 rfl rfl rfl (.keep (.shut rfl d_n (.nil))) rfl (hco)) ?_;refine a_z ?_;refine r_c 7 (hto) ?_;refine a_z ?_;refine ac (r_z 3 ?_);refine aG (λ_:Unit=>⟨[(2,i64 n),(4,bS s),(7,.lptr 1 0 0),(13,.arr (pE r))],[(1,some ⟨42,3,[qC (ecB r n (r.length- (n+1)))]⟩)],2,106⟩) (λ_=>True) ?_ ?_;refine ak (aC (ecS s r n) (λj=>r.length- j) (λj=>j<=r.length- (n+1)) 0 (Nat.zero_le _) ?_ ?_);rw[ecS.eq_1,show ecB r n 0=0 from rfl,qC0];refine s_x [] (λhs=>?_) (λhs=>?_)
 ·repeat' (first|exact aF|refine aj rfl ?_ ?_|exact ah hs (bU s)|exact ah hs (aq _)|(refine Cv.loE hs ?_ (ag _);simp[i64];done)|exact aX)
 ·repeat' (first|exact aD|refine h_c ?_ ?_|exact ay (af (Cv.emp _) (af (ah hs (ag _)) (af (Cv.emp _) ax)))|exact bG|refine ay ?_|exact ax|refine af ?_ ?_|exact ah hs (bU s)|exact ah hs (aq _)|(refine Cv.loE hs ?_ (ag _);simp[i64];done)|exact aX)
 intro j hj;rw[ecS.eq_1];by_cases hlt:n+1+j< r.length;have hgr:∀e:Nat,e=n+1+j->(pE r)[e]?=some (qC (coP r (n+1+j))):=λe he=>by rw[he];exact cj (bJ hlt)
 have hab:=eY (coP r (n+1+j));have c1:=p4 (n+1+j) hlt;have had:=fz (ecB r n j) (c8 (coP r (n+1+j))) (by have:=p5 j ω;unfold sz1 at c1 this;rw[qs_abs];omega);refine ac (q_z 4 ?_);refine cT (am (ac (ak (r_d hmix 8 ?_))));refine a_3 ?_
 first|refine av (.index_l rfl rfl ω ω te_29.h) rfl rfl ?_|refine av (.index_a rfl rfl ω (hgr _ ω) rfl te_29.h) rfl rfl ?_
 first|refine av (.load_l rfl rfl (hgr _ ω) TG.h TS.h (nle rfl)) rfl rfl ?_|refine av (.load_a rfl (hgr _ ω) TG.h TS.h (nle rfl)) rfl rfl ?_
 refine c_s (hab) ?_;refine c_s (had) ?_;refine a_1 ?_;refine ao (n_k ?_);refine r_m 3 ?_;refine a_z ?_;refine⟨j+1,ω,ω,?_⟩;rw[ecS.eq_1,ecB];refine s_x [] (λhs=>?_) (λhs=>?_)
 ·repeat' (first|exact aF|refine aj rfl ?_ ?_|exact ah hs (bU s)|exact ah hs (aq _)|(refine Cv.loE hs ?_ (ag _);simp[i64];omega)|exact aX)
 ·repeat' (first|exact aD|refine h_c ?_ ?_|exact bG|refine ay ?_|exact ax|refine af ?_ ?_|exact ah hs (bU s)|exact ah hs (aq _)|(refine Cv.loE hs ?_ (ag _);simp[i64];omega)|exact aX)
 have hge:j=r.length- (n+1):=ω
 subst hge;refine ac (q_z 4 ?_);refine cF (aB ⟨(),trivial,?_⟩);refine s_x [] (λhs=>?_) (λhs=>?_)
 ·repeat' (first|exact aF|refine aj rfl ?_ ?_|exact ah hs (bU s)|exact ah hs (aq _)|exact aX)
 ·repeat' (first|exact aD|refine h_c ?_ ?_|exact bG|refine ay ?_|exact ax|refine af ?_ ?_|exact ah hs (bU s)|exact ah hs (aq _)|exact aX)
 rintro _ _;refine s_r 12 ?_;refine a_6 ?_;refine o_0 (.sa_hE (h:=m) e rfl rfl (by rw[hm];split <;> omega) ω te_29.h (fl _)) ?_;refine c_s (hff) ?_;refine a_z ?_;refine ac (r_d hmix 6 ?_);refine c_s (i2) ?_;refine c_s (hwd) ?_;refine c_s (ov2) ?_;refine a_2 ?_;refine ao (n_k ?_);refine ac (r_d hmix 13 ?_);refine c_s (hmd) ?_;refine c_s (hmb) ?_;refine c_s (hng) ?_;refine a_2 ?_;refine o_1 (.callS1 rfl rfl rfl (.keep (.shut rfl d_n (.nil))) rfl (hc2)) ?_;refine a_4 ?_;refine ao (n_k ?_);refine ac (r_d hmix 5 ?_);refine a_5 ?_;refine ao (n_k ?_);refine an (Fin.many ⟨_,_,rfl,rfl,⟨_,_,rfl,⟨_,_,_,_,_,rfl,rfl,rfl,.inl ⟨TG.h,_,TS.h,nle rfl,rfl⟩⟩,⟨_,_,rfl,rfl,rfl⟩⟩⟩ (nle rfl) ?_);exact af (ah aE (aq _)) (af (ah aE (aS _)) (af (ah aE (ag _)) ax))
def daX(i:Nat):Rat:=((i:Int):Rat)
def daH(l:List Int):Nat->Hp
 |0=>[]
 |i+1=>[(3,some ⟨42,3,pE (aH (i+1) daX)⟩),(4,some ⟨42,3,pE (zR (l.take (i+1)))⟩)]
def daS(l:List Int):Nat->AState
 |i=>⟨[(0,.arr (zE l)),(2,.lptr 1 0 0),(3,.lptr 2 0 0),(4,i64 i)],(1,some ⟨82,3,[[.emp,.emp,.emp]]⟩)::(2,some ⟨82,3,[[lvV 3 i,lvV 4 i,.emp]]⟩)::daH l i,5,29⟩
theorem EN(l:List Int)(h0:1<=l.length)(hl:l.length<=1000)(hb:∀n∈l,-9223372036854775808<=n/\n<=9223372036854775807):FS 28 [.arr (zE l)] (.agg (dC ⟨aH l.length daX,zR l,[]⟩)):=by
 have hzl:(zE l).length=l.length:=by simp[zE]
 refine f_n Tryz.func28 ?_ ?_;exact ae (aU (eK l)) ai;refine r_z 1 ?_;refine r_z 1 ?_;refine ac (r_z 1 ?_);refine aG (λ_:Unit=>daS l l.length) (λ_=>True) ?_ ?_
 ·refine ak (aC (daS l) (λi=>l.length- i) (λi=>i<=l.length) 0 (Nat.zero_le _) ?_ ?_)
  rw[daS.eq_1];simp only[lvV,daH];have:=(aU (eK l));have:=(ae aK (ae aK (ae aK ai)));exact s_f [(1,2),(2,3)];intro i hi;rw[daS.eq_1];by_cases hlt:i< l.length;rotate_left;have hge:i=l.length:=ω
  subst hge;refine ac (q_z 4 ?_);refine cF (aB ⟨(),trivial,?_⟩);show SEnt _ (daS l l.length);rw[daS.eq_1];obtain⟨m,hm⟩:∃m,l.length=m+1:=⟨l.length- 1,ω⟩;rw[hm];simp only[lvV,daH];refine s_x [] (λhs=>e_15) (λhs=>?_)
  ·repeat' (first|exact aD|refine h_c ?_ ?_|exact bZ hs (aJ _)|exact ay (CvL.clo hs (ae aK (ae aK (ae aK ai))))|exact ay (af (Cv.sl rfl rfl rfl) (af (Cv.sl rfl rfl rfl) (af (ah hs aK) ax)))|exact bG|refine ay ?_|exact ax|refine af ?_ ?_|exact ah hs (aU (eK l))|exact aX)
  obtain⟨n,hn⟩:∃n,l[i]?=some n:=⟨_,List.getElem?_eq_getElem hlt⟩;have hgt:∀e:Nat,e=i->(zE l)[e]?=some [i64 n]:=λe he=>by subst he;simp[zE,hn]
  have hi1:=df (i:Int) ω;have hi2:=df n (hb n (List.mem_of_getElem? hn));have ex:pE (aH (i+1) daX)=pE (aH i daX)++[qC ((i:Int):Rat)]:=kr _ _;have ey:pE (zR (l.take (i+1)))=pE (zR (l.take i))++[qC (n:Rat)]:=by rw[dO hn];simp[zR,pE]
  refine ac (q_z 4 ?_);refine cT (am (ac (ak ?_)));cases i with
  |zero=>
   simp only[lvV,daH];refine r_d hmix 19 ?_;refine c_s (hi1) ?_;refine a_6 ?_
   first|refine av (.index_l rfl rfl ω ω te_137.h) rfl rfl ?_|refine av (.index_a rfl rfl ω (hgt _ ω) rfl te_137.h) rfl rfl ?_
   first|refine av (.load_l1 rfl rfl (hgt _ ω) TG.h rfl) rfl rfl ?_|refine av (.load_a1 rfl (hgt _ ω) TG.h rfl) rfl rfl ?_
   refine c_s (hi2) ?_;refine a_6 ?_;refine ao (n_k ?_);refine r_m 3 ?_;refine a_z ?_;refine⟨0+1,ω,ω,?_⟩;rw[daS.eq_1];simp only[lvV,daH];refine s_x [(3,16),(4,25)] (λhs=>e_15) (λhs=>e_68) ?_
   ·repeat' (first|exact ShrL.nil|refine ShrL.cons rfl rfl rfl rfl (by first|(simp[zR]<;> omega)|rfl|(simp;done)|(simp <;> omega)) ?_)
  |succ i=>
   simp only[lvV,daH];have lx:(pE (aH (i+1) daX)).length=i+1:=eT _ _;have ly:(pE (zR (l.take (i+1)))).length=i+1:=by simp[zR];omega
   refine r_d hmix 19 ?_;refine c_s (hi1) ?_;refine a_6 ?_
   first|refine av (.index_l rfl rfl ω ω te_137.h) rfl rfl ?_|refine av (.index_a rfl rfl ω (hgt _ ω) rfl te_137.h) rfl rfl ?_
   first|refine av (.load_l1 rfl rfl (hgt _ ω) TG.h rfl) rfl rfl ?_|refine av (.load_a1 rfl (hgt _ ω) TG.h rfl) rfl rfl ?_
   refine c_s (hi2) ?_;refine a_6 ?_;refine ao (n_k ?_);refine r_m 3 ?_;refine a_z ?_;refine⟨i+1+1,ω,ω,?_⟩;rw[daS.eq_1];simp only[lvV,daH];refine s_x [(3,16),(4,25)] (λhs=>e_15) (λhs=>e_68) ?_
   ·repeat' (first|exact ShrL.nil|refine ShrL.cons rfl rfl rfl rfl (by first|(simp[zR,List.length_take]<;> omega)|rfl|(simp;done)|(simp <;> omega)) ?_)
 rintro _ _;rw[daS.eq_1];obtain⟨m,hm⟩:∃m,l.length=m+1:=⟨l.length- 1,ω⟩;rw[hm];simp only[lvV,daH];have lx:(pE (aH (m+1) daX)).length=m+1:=eT _ _;have et:l.take (m+1)=l:=List.take_of_length_le ω;rw[et];have ly:(pE (zR l)).length=m+1:=by simp[zR];omega
 refine r_z 2 ?_;refine an (Fin.cell rfl rfl rfl TG.h TS.h (nle rfl) ?_);exact Cv.agg (af (Cv.sealE aE rfl (λ_ _ h=>by cases h) rfl lx.symm (aJ _)) (af (Cv.sealE aE rfl (λ_ _ h=>by cases h) rfl ly.symm (aJ _)) (af (Cv.emp _) ax)))
end Go.Proofs.YtjgokhkahkmpbaaGreatDoor
