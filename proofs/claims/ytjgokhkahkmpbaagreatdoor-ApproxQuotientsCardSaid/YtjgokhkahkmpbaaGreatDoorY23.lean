/- Part Y23 of the proof. -/
import Derived.Test.YtjgokhkahkmpbaaGreatDoorY22
set_option linter.all false
namespace Go.Proofs.YtjgokhkahkmpbaaGreatDoor
open Go.Abs
set_option maxRecDepth 20000
set_option maxHeartbeats 2000000
def atZ(c:Lq)(z:Int):Rat:=if z< 0 then 0 else coP c z.toNat
theorem atZ_at(c:Lq)(s j:Nat)(z:Int)(h:z=(s:Int)- (j:Int)):atZ c z=atQ c s j:=by
 subst h;unfold atZ atQ;by_cases h:j<=s;rw[if_neg ω,if_pos h,show((s:Int)- (j:Int)).toNat=s- j by omega];rw[if_pos ω,if_neg h]
theorem cC(c:Lq):Closed (.aptr [[.arr (pE c)]] 0 0):=aW (ae (aq c) ai)
theorem Hl(c:Lq)(z:Int)(h1: -1000<=z)(h2:z< c.length)(hl:c.length<=1000):FS 69 [i64 z,.aptr [[.arr (pE c)]] 0 0] (.agg (qC (atZ c z))):=by
 have hcl:(pE c).length=c.length:=by simp[pE]
 refine f_n Tryz.func69 ?_ ?_;exact ae (ag _) (ae (cC c) ai);refine r_z 1 ?_;by_cases hz:z< 0;refine ac (q_z 2 ?_);refine cT (r_z 2 ?_);refine an ?_;unfold atZ;rw[if_pos hz,qC0];exact Fin.cell rfl rfl rfl TG.h TS.h (nle rfl) (Cv.agg (af (Cv.emp _) (af (ah aE (ag _)) (af (Cv.emp _) ax))));refine ac (q_z 2 ?_);refine cF (am ?_);have hg:(pE c)[z.toNat]?=some (qC (coP c z.toNat)):=cj (bJ ω);refine s_r 5 ?_;refine a_2 ?_;refine i_x hg ?_;refine l_x hg ?_;refine a_z ?_;refine an (dA rfl rfl rfl TG.h TS.h (nle rfl) ?_ ?_);unfold atZ;rw[if_neg hz];rfl;exact aN (bo _)
theorem jL(c:Lq):Closed (.clos 69 [] [.aptr [[.arr (pE c)]] 0 0]):=aY ai (ae (cC c) ai)
def quR(c:Lq)(m n k:Nat):Lq:=aH (n+1) (quM c m n k)
def quO(c:Lq)(m n:Nat):Nat->AState
 |i=>⟨[(1,i64 m),(2,i64 n),(3,.aptr [[.arr (pE c)]] 0 0),(9,.clos 69 [] [.aptr [[.arr (pE c)]] 0 0]),(10,oV i),(11,i64 ((m+1+i:Nat):Int))],hI 29 42 (quR c m n) i (λ_=>0) 0,40,116⟩
def quI(c:Lq)(m n i:Nat):Nat->AState
 |j=>⟨[(1,i64 m),(2,i64 n),(3,.aptr [[.arr (pE c)]] 0 0),(9,.clos 69 [] [.aptr [[.arr (pE c)]] 0 0]),(10,oV i),(11,i64 ((m+1+i:Nat):Int)),(12,rV j),(13,i64 ((j+1:Nat):Int))],hI 29 42 (quR c m n) i (quM c m n i) j,40,116⟩
theorem Gg{r:Ren}{hp hp':Hq}{fr fr':Fr}{c:Lq}(hs:Shr r hp hp')(h:CvF r hp hp' fr fr':=by repeat' (first|exact aF|refine aj rfl ?_ ?_|exact ah hs (cC c)|exact ah hs (jL c)|exact ah hs (ag _)|exact ah hs aK|exact Ii hs rfl|exact Cv_rV hs rfl|exact Cv.sl rfl rfl rfl|(refine Cv.loE hs ?_ (ag _);simp[i64];done)|(refine Cv.loE hs ?_ (ag _);simp[i64];omega))):CvF r hp hp' fr fr':=h
noncomputable def quRest:Code:=match Tryz.f18.body with|some (.seq _ (.seq _ (.seq _ (.seq _ (.seq _ y)))))=>y|_=> .skip
theorem Dm (c:Lq) (m n:Nat) (hn:n<=19) (hm:m<=19) (hmn:m+n+1<=20) (hl:m+n+1<=c.length) (hc:c.length<=1000) (v:AV)
    (hrest:AWp none Tryz.prog quRest (Fin Tryz.prog Tryz.f18.results.toList v) ⟨[(1,i64 m),(2,i64 n),(3,.aptr [[.arr (pE c)]] 0 0),(10,oV n)],hI 29 42 (quR c m n) n (λ_=>0) 0,40,116⟩):
    FS 18 [.arr (pE c),i64 m,i64 n] v:=by
 have hcl:(pE c).length=c.length:=by simp[pE]
 refine f_c Tryz.func18 ?_;refine r_z 4 ?_;refine bi (λ_:Unit=>⟨[(1,i64 m),(2,i64 n),(3,.aptr [[.arr (pE c)]] 0 0)],[],1,116⟩) (λ_=>True) ?_ ?_;refine ak (q_z 22 ?_);refine cF (q_z 8 ?_);refine cF (am (⟨(),trivial,?_⟩));have:=cC c;exact s_f [];rintro _ _;refine r_z 2 ?_;refine r_z 1 ?_;refine ac (r_z 3 ?_);refine aG (λ_:Unit=>quO c m n n) (λ_=>True) ?_ ?_
 ·refine ak (aC (quO c m n) (λi=>n- i) (λi=>i<=n) 0 (Nat.zero_le _) ?_ ?_)
  rw[quO.eq_1];exact(SEntT.hi1 ω (λh=>absurd rfl h) (λk hk=>ω) (λh=>absurd rfl h) λhs=>Gg (c:=c) hs).ent;intro i hi;rw[quO.eq_1];by_cases hin:i< n;rotate_left;have hge:i=n:=ω
  rw[hge];refine ac (q_z 5 ?_);refine cF (aB ⟨(),trivial,?_⟩);exact(SEntT.hi1 ω (λh=>lD h) (λk hk=>j9 ω hk) (λh=>absurd rfl h) λhs=>Gg (c:=c) hs).ent;refine ac (q_z 5 ?_);refine cT (am (ac (ak (r_z 1 ?_))));refine ac (r_z 1 ?_);refine aG (λ_:Unit=>quI c m n i n) (λ_=>True) ?_ ?_
  ·refine ak (aC (quI c m n i) (λj=>n- j) (λj=>j<=n) 0 (Nat.zero_le _) ?_ ?_)
   rw[quI.eq_1];exact(SEntT.hi1 ω (λh=>lD h) (λk hk=>j9 ω hk) (λh=>absurd rfl h) λhs=>Gg (c:=c) hs).ent;intro j hj;rw[quI.eq_1];by_cases hjn:j< n;rotate_left;have hge:j=n:=ω
   rw[hge];refine ac (q_z 3 ?_);refine cF (aB ⟨(),trivial,?_⟩);refine(SEntT.hi1 ω (λh=>lD h) (λk hk=>j9 ω hk) (λh=>?_) λhs=>Gg (c:=c) hs).ent;obtain⟨n',rfl⟩:∃n',n=n'+1:=⟨n- 1,ω⟩;rfl;have hat:=Hl c (((m+1+i:Nat):Int)- ((j+1:Nat):Int)) ω ω hc;rw[atZ_at c (m+i) j _ ω] at hat;have hrow:quM c m n i j=atQ c (m+i) j:=if_neg ω;have hnew:pE (aH (j+1) (quM c m n i))=pE (aH j (quM c m n i))++[qC (atQ c (m+i) j)]:=by rw[<-hrow];simp[pE,aH,List.range_succ]
   refine ac (q_z 3 ?_);refine cT (am (ac (ak ?_)));cases j with
   |zero=>
    refine r_m 9 ?_;refine c_s (hat) ?_;refine a_z ?_;refine r_m 3 ?_;refine a_z ?_;refine⟨0+1,ω,ω,?_⟩;rw[quI.eq_1];refine(SEntT.hi (sG 50) ω rfl (λx y=>FU ω ω x y) ?_ ?_ ?_ ?_).ent
    ·intro h
     rw[nP δ]
     repeat rw[bh δ]
     rw[lD h,gi (R':=quR c m n) (s':=sG 50)];exact λk hk=>⟨rfl,(nP ω).symm⟩
    ·intro k hk
     rw[nP ω]
     repeat rw[bh ω]
     exact j9 ω hk
    intro _;rw[hnew];rfl;intro hs;exact aj rfl (ah hs (ag _)) (aj rfl (ah hs (ag _)) (aj rfl (ah hs (cC c)) (aj rfl (ah hs (jL c)) (aj rfl (Ii hs rfl) (aj rfl (ah hs (ag _)) (aj rfl (Cv.sl rfl rfl rfl) (aj rfl (Cv.loE hs (by simp[i64]) (ag _)) aF)))))))
   |succ j=>
    have hlen:(pE (aH (j+1) (quM c m n i))).length=j+1:=by simp[pE]
    have hone:=cy (aH (j+1) (quM c m n i));refine r_m 9 ?_;refine c_s (hat) ?_;refine a_z ?_;refine r_m 3 ?_;refine a_z ?_;refine⟨j+1+1,ω,ω,?_⟩;rw[quI.eq_1];refine(SEntT.hi (sG 50) ω rfl (λx y=>FU ω ω x y) ?_ ?_ ?_ ?_).ent
    ·intro h
     rw[nP δ]
     repeat rw[bh δ]
     rw[lD h,gi (R':=quR c m n) (s':=sG 50)];exact λk hk=>⟨rfl,(nP ω).symm⟩
    ·intro k hk
     rw[nP ω]
     repeat rw[bh ω]
     exact j9 ω hk
    intro _;rw[hnew];rfl;intro hs;exact aj rfl (ah hs (ag _)) (aj rfl (ah hs (ag _)) (aj rfl (ah hs (cC c)) (aj rfl (ah hs (jL c)) (aj rfl (Ii hs rfl) (aj rfl (ah hs (ag _)) (aj rfl (Cv.sl rfl rfl rfl) (aj rfl (Cv.loE hs (by simp[i64];try omega) (ag _)) aF)))))))
  rintro _ _;show AWp _ _ _ _ (quI c m n i n);rw[quI.eq_1];obtain⟨n',rfl⟩:∃n',n=n'+1:=⟨n- 1,ω⟩;have hat:=Hl c ((m+1+i:Nat):Int) ω ω hc;have haz:atZ c ((m+1+i:Nat):Int)=coP c (m+1+i):=by unfold atZ;rw[if_neg ω];rfl
  rw[haz] at hat;have hne:=jG (coP c (m+1+i));have hlast:quM c m (n'+1) i (n'+1)= -coP c (m+1+i):=if_pos rfl
  have hnew:pE (quR c m (n'+1) i)=pE (aH (n'+1) (quM c m (n'+1) i))++[qC (-coP c (m+1+i))]:=by
   unfold quR;rw[<-hlast];simp[pE,aH,List.range_succ]
  have hlen:(pE (aH (n'+1) (quM c m (n'+1) i))).length=n'+1:=by simp[pE]
  have hone:=cy (aH (n'+1) (quM c m (n'+1) i));cases i with
  |zero=>
   refine r_m 11 ?_;refine c_s (hat) ?_;refine c_s (hne) ?_;refine a_z ?_;refine r_m 3 ?_;refine a_z ?_;refine⟨0+1,ω,ω,?_⟩;rw[quO.eq_1];refine(SEntT.hi (sD 0 49 47) ω rfl (λx y=>FV ω ω ω ω x y) ?_ ?_ (λh=>absurd rfl h) ?_).ent;intro _;rw[<-yY (m:=n'+1+1) (by simp[quR])];rfl;intro k hk;obtain rfl:k=0:=ω
   rw[hnew];rfl;intro hs;exact aj rfl (ah hs (ag _)) (aj rfl (ah hs (ag _)) (aj rfl (ah hs (cC c)) (aj rfl (ah hs (jL c)) (aj rfl (Cv.sl rfl rfl rfl) (aj rfl (Cv.loE hs (by simp[i64];try omega) (ag _)) aF)))))
  |succ i=>
   have hlo:(rwO (quR c m (n'+1)) (λx=>x) (i+1)).length=i+1:=ψ
   have hoo:=rwO_one (quR c m (n'+1)) (λx=>x) (i+1);refine r_m 11 ?_;refine c_s (hat) ?_;refine c_s (hne) ?_;refine o_1 (.buildSlice te_29.h TZ.h rfl δ rfl rfl rfl υ) ?_;refine o_2 (.append_l rfl rfl rfl te_29.h rfl rfl rfl rfl rfl d_o η ξ rfl (.lsl rfl (nle rfl)) TZ.h rfl TB.h d_o μ) ?_;refine o_1 (.buildSlice te_117.h TZ.h rfl δ rfl rfl rfl υ) ?_;refine o_2 (.append_l rfl rfl rfl te_117.h rfl rfl rfl rfl rfl d_o η ξ rfl (.lsl rfl (nle rfl)) TZ.h rfl TB.h d_o μ) ?_;refine o_0 (.assign rfl) ?_;refine ao ?_;refine r_m 3 ?_;refine a_z ?_;refine⟨i+1+1,ω,ω,?_⟩;rw[quO.eq_1];refine(SEntT.hi (sD (i+1) 49 47) ω rfl (λx y=>FV ω ω ω ω x y) ?_ ?_ (λh=>absurd rfl h) ?_).ent;intro _;rw[<-yY (m:=n'+1+1) (by simp[quR])];rfl;intro k hk;by_cases hki:k=i+1;subst hki;rw[Eh,hnew];rfl
   ·rw[rK ω ω]
    repeat rw[bh ω]
    exact j9 ω ω
   intro hs;exact aj rfl (ah hs (ag _)) (aj rfl (ah hs (ag _)) (aj rfl (ah hs (cC c)) (aj rfl (ah hs (jL c)) (aj rfl (Cv.sl rfl rfl rfl) (aj rfl (Cv.loE hs (by simp[i64];try omega) (ag _)) aF)))))
 rintro _ _;show AWp _ _ _ _ (quO c m n n);rw[quO.eq_1];refine AWp.ent ?_ hrest;exact(SEntT.hi1 ω (λh=>lD h) (λk hk=>j9 ω hk) (λh=>absurd rfl h) λhs=>Gg (c:=c) hs).ent
def nE(L:Ln):Lc:=L.map fun(k:Nat)=>[i64 (k:Int)]
@[simp] theorem jo (L:Ln):(nE L).length=L.length:=by simp[nE]
theorem dG(L:Ln):∀e∈nE L,∀c∈e,Closed c:=λe he=>by
 obtain⟨k,_,rfl⟩:=List.mem_map.1 he;exact ae (ag _) ai
theorem cm(L:Ln):Closed (.arr (nE L)):=aU (dG L)
theorem lj{L:Ln}{k e:Nat}(h:k< L.length)(he:e=k):(nE L)[e]?=some [i64 (L.getD k 0:Nat)]:=by
 subst he;rw[nE,List.getElem?_map,List.getElem?_eq_getElem h,List.getD_eq_getElem?_getD,List.getElem?_eq_getElem h];rfl
theorem tZ(L:Ln):(nE L).all (·.all AV.one)=true:=by
 simp only[nE,List.all_map,List.all_eq_true];intro q _;rfl
theorem xn(L:Ln):∀e∈nE L,e.length=1:=λe he=>by
 obtain⟨k,_,rfl⟩:=List.mem_map.1 he;rfl
theorem nE_take(L:Ln)(k:Nat):(nE L).take k=nE (L.take k):=by simp[nE,List.map_take]
theorem nE_drop(L:Ln)(k:Nat):(nE L).drop k=nE (L.drop k):=by simp[nE,List.map_drop]
theorem qJ(L M:Ln):nE (L++M)=nE L++nE M:=by simp[nE]
theorem GG(L:Ln)(k x e:Nat)(he:e=k):(nE L).set e [i64 (x:Int)]=nE (L.set k x):=by
 subst he;simp[nE,List.map_set]
theorem Em(L:Ln)(h0:L≠[])(hl:L.length<=1000000):OSpec Tryz.prog 193 [.arr (nE L)] 3 1 (nE L):=by
 have hne:nE L≠[]:=by
  intro e;exact h0 (List.length_eq_zero_iff.1 (by rw[<-jo,e];rfl))
 have hll:(nE L).length=L.length:=jo L;have hon:=tZ L;refine OSpec.enter Tryz.func193 rfl κ rfl rfl rfl ?_ ?_ rfl ?_;exact ae (cm L) ai;exact dG L;refine r_z 1 ?_;refine ac (s_r 2 ?_);refine a_1 ?_
 first|refine av (.nilq_v rfl rfl te_45.h) rfl rfl ?_|refine av (.nilq_arr rfl (hne) rfl te_45.h) rfl rfl ?_
 refine ao ?_;refine cF ?_
 ·refine am (s_r 4 ?_)
  refine a_2 ?_;refine o_2 (.append_l rfl rfl rfl te_45.h rfl rfl rfl rfl rfl d_o η ξ rfl (.arr (xn _)) TZ.h rfl TB.h d_o μ) ?_;refine a_z ?_;exact an (FinO.tmp rfl rfl rfl ψ)
theorem yv(t:Nat->Bool):∀(f i j:Nat),i<=j->i<=bsM t f i j/\bsM t f i j<=j
 |0,i,j,h=>⟨Nat.le_refl _,h⟩
 |f+1,i,j,h=>by
  rw[bsM];by_cases hlt:i< j;rw[if_pos hlt];split;have:=yv t f ((i+j) / 2+1) j ω;omega;have:=yv t f i ((i+j) / 2) ω;omega;rw[if_neg hlt];omega
def bsS(L:Ln)(x g:Nat):Nat×Nat->AState
 |(i,j)=>⟨[(0,.arr (nE L)),(1,i64 x),(2,.clos g [] []),(8,i64 L.length),(9,i64 i),(10,i64 j)],[],1,49⟩
theorem Ci(L:Ln)(x g:Nat)(hl:L.length<=1000000)(hL:∀a∈L,a<=1000000)(hx:x<=1000000)(hg:∀a:Nat,a<=1000000->FS g [i64 a,i64 x] (i64 ((a:Int)- (x:Int)))):
    FS 191 [.arr (nE L),i64 x,.clos g [] []] (.tup [i64 (bsL L x:Nat),bln (decide (bsL L x< L.length) && decide (L.getD (bsL L x) 0=x))]):=by
 have hll:(nE L).length=L.length:=jo L;have hcc:Closed (.clos g [] []):=aY ai ai;obtain⟨R,hR⟩:∃R,R=bsL L x:=⟨_,rfl⟩;have hRle:R<=L.length:=by rw[hR];exact(yv _ _ 0 L.length (Nat.zero_le _)).2
 rw[<-hR]
 have hgd:∀k,L.getD k 0<=1000000:=λk=>by
  rw[List.getD_eq_getElem?_getD];cases h:L[k]? with
  |none=>decide
  |some v=>exact hL v (List.mem_of_getElem? h)
 refine f_n Tryz.func191 ?_ ?_;exact ae (cm L) (ae (ag _) (ae hcc ai));refine r_z 2 ?_;refine r_z 3 ?_;refine r_z 3 ?_;refine bi (λ_:Unit=>⟨[(0,.arr (nE L)),(1,i64 x),(2,.clos g [] []),(8,i64 L.length),(9,i64 R)],[],1,49⟩) (λ_=>True) ?_ ?_;refine ak (aC (λp:Nat×Nat=>bsS L x g p) (λp=>p.2- p.1) (λp=>p.1<=p.2/\p.2<=L.length/\∃f,p.2- p.1<=f/\bsM (λh=>decide (L.getD h 0< x)) f p.1 p.2=R) (0,L.length) ⟨Nat.zero_le _,Nat.le_refl _,L.length,ψ,by rw[hR];rfl⟩ ?_ ?_);simp only[bsS.eq_1];exact s_x [] (λhs=>e_10) (λhs=>e_11);rintro⟨i,j⟩ ⟨h1,h2,f,h3,h4⟩;simp only at h1 h2 h3 h4;rw[bsS.eq_1];by_cases hlt:i< j;refine ac (q_z 3 ?_);refine cT (am ?_);obtain⟨f,rfl⟩:∃f',f=f'+1:=⟨f- 1,ω⟩;rw[bsM,if_pos hlt] at h4;obtain⟨m,hm⟩:∃m,m=(i+j) / 2:=⟨_,rfl⟩;rw[<-hm] at h4;have hmj:m< j:=ω
 have hge:∀e:Nat,e=m->(nE L)[e]?=some [i64 (L.getD m 0:Nat)]:=λe he=>lj ω he;have hgm:=hg (L.getD m 0) (hgd m);refine ak (s_r 7 ?_);refine a_4 ?_;refine o_0 (.bin rfl rfl (Fg ω)) ?_;refine a_z ?_;rw[show(((i:Nat):Int)+((j:Nat):Int)) / 2=((m:Nat):Int) by omega];have hd1:=hgd m;by_cases hc:L.getD m 0< x;rw[if_pos (decide_eq_true hc)] at h4;refine s_r 8 ?_;refine a_3 ?_
 first|refine av (.index_l rfl rfl ω ω te_45.h) rfl rfl ?_|refine av (.index_a rfl rfl ω (hge _ ω) rfl te_45.h) rfl rfl ?_
 first|refine av (.load_l1 rfl rfl (hge _ ω) TG.h rfl) rfl rfl ?_|refine av (.load_a1 rfl (hge _ ω) TG.h rfl) rfl rfl ?_
 refine c_s (hgm) ?_;refine d_z ?_;refine cT (r_m 3 ?_);refine a_z ?_;refine⟨(m+1,j),by simp only;omega,⟨by simp only;omega,h2,f,by simp only;omega,h4⟩,?_⟩;rw[bsS.eq_1];exact s_x [] (λhs=>e_10) (λhs=>e_11);rw[if_neg (by simpa using hc)] at h4;refine s_r 8 ?_;refine a_3 ?_
 first|refine av (.index_l rfl rfl ω ω te_45.h) rfl rfl ?_|refine av (.index_a rfl rfl ω (hge _ ω) rfl te_45.h) rfl rfl ?_
 first|refine av (.load_l1 rfl rfl (hge _ ω) TG.h rfl) rfl rfl ?_|refine av (.load_a1 rfl (hge _ ω) TG.h rfl) rfl rfl ?_
 refine c_s (hgm) ?_;refine d_z ?_;refine cF (r_m 2 ?_);refine a_z ?_;refine⟨(i,m),by simp only;omega,⟨by simp only;omega,by simp only;omega,f,by simp only;omega,h4⟩,?_⟩;rw[bsS.eq_1];exact s_x [] (λhs=>e_10) (λhs=>e_11)
 have hge:i=R:=by
  rw[<-h4];cases f with
  |zero=>rfl
  |succ f=>rw[bsM,if_neg hlt]
 subst hge;refine ac (q_z 3 ?_);refine cF (aB ⟨(),trivial,?_⟩);exact s_x [] (λhs=>e_10) (λhs=>e_11);rintro _ _;by_cases hlt:R< L.length;have hge:∀e:Nat,e=R->(nE L)[e]?=some [i64 (L.getD R 0:Nat)]:=λe he=>lj hlt he;have hgm:=hg (L.getD R 0) (hgd R);have hd1:=hgd R;rw[decide_eq_true hlt,Bool.true_and];by_cases hc:L.getD R 0=x;refine s_r 16 ?_;refine d_8 ?_
 first|refine ap rfl rfl rfl (.index_l rfl rfl ω ω te_45.h) rfl rfl ?_|refine ap rfl rfl rfl (.index_a rfl rfl ω (hge _ ω) rfl te_45.h) rfl rfl ?_
 first|refine ap rfl rfl rfl (.load_l1 rfl rfl (hge _ ω) TG.h rfl) rfl rfl ?_|refine ap rfl rfl rfl (.load_a1 rfl (hge _ ω) TG.h rfl) rfl rfl ?_
 refine e_s (hgm) ?_;refine ap rfl rfl rfl (.bin rfl rfl (vT aM (eqI ω))) rfl rfl ?_;refine a_z ?_;refine an ?_;rw[decide_eq_true hc];refine Fin.many ⟨_,_,rfl,rfl,⟨_,_,rfl,rfl,rfl⟩⟩ (nle rfl) ?_;exact af (ah aE (ag _)) (af (ah aE (ag _)) ax);refine s_r 16 ?_;refine d_8 ?_
 first|refine ap rfl rfl rfl (.index_l rfl rfl ω ω te_45.h) rfl rfl ?_|refine ap rfl rfl rfl (.index_a rfl rfl ω (hge _ ω) rfl te_45.h) rfl rfl ?_
 first|refine ap rfl rfl rfl (.load_l1 rfl rfl (hge _ ω) TG.h rfl) rfl rfl ?_|refine ap rfl rfl rfl (.load_a1 rfl (hge _ ω) TG.h rfl) rfl rfl ?_
 refine e_s (hgm) ?_;refine ap rfl rfl rfl (.bin rfl rfl (vF aM (neI ω))) rfl rfl ?_;refine a_z ?_;refine an ?_;rw[decide_eq_false hc];refine Fin.many ⟨_,_,rfl,rfl,⟨_,_,rfl,rfl,rfl⟩⟩ (nle rfl) ?_;exact af (ah aE (ag _)) (af (ah aE (ag _)) ax);refine q_z 16 ?_;refine an ?_;rw[decide_eq_false hlt,Bool.false_and];refine Fin.many ⟨_,_,rfl,rfl,⟨_,_,rfl,rfl,rfl⟩⟩ (nle rfl) ?_;exact af (ah aE (ag _)) (af (ah aE (ag _)) ax)
theorem Hm(a b:Nat)(ha:a<=1000000)(hb:b<=1000000):FS 142 [i64 a,i64 b] (i64 ((a:Int)- (b:Int))):=by
 refine f_c Tryz.func142 ?_;refine r_z 1 ?_;refine r_z 4 ?_;exact an (t_e (ag _))
abbrev bS1(sg:Int):AV:= .aptr [[i64 sg]] 0 0
theorem b9(sg:Int):Closed (bS1 sg):=aW (ae (ag _) ai)
theorem xD(k:Nat)(sg:Int)(hs: -1<=sg/\sg<=1)(hk:k<=1000000):FS 192 [i64 k,bS1 sg] (i64 (sdE sg k)):=by
 refine f_n Tryz.func192 ?_ ?_;exact ae (ag _) (ae (b9 sg) ai);refine r_z 1 ?_;by_cases h1:k % 2=1;rw[show sdE sg k= -sg from if_pos h1];refine ac (s_r 3 ?_);refine a_2 ?_;refine o_0 (.bin rfl rfl (vT aM (eqI ω))) ?_;refine ao ?_;refine cT (r_z 3 ?_);exact an (t_e (ag _));rw[show sdE sg k=sg from if_neg h1];refine ac (s_r 3 ?_);refine a_2 ?_;refine o_0 (.bin rfl rfl (vF aM (neI ω))) ?_;refine ao ?_;refine cF (am (r_z 2 ?_));exact an (t_e (ag _))
def exS(u:Unit):Ln->AState
 |L=>⟨[(14,.lsl 1 0 L.length none 1)],[(1,some ⟨3,1,nE L⟩)],2,85⟩
theorem π{p:Prop}(h:p:=by rw[List.drop_zero];exact List.take_of_length_le (by simp)):p:=h
theorem z7(L:Ln)(x:Nat)(sg own:Int)(hl:2<=L.length/\L.length<=1000)(hL:∀a∈L,a<=1000000)(hx:x<=1000000)(hs: -1<=sg/\sg<=1):
    FS 141 [.arr (nE L),i64 x,.clos 142 [] [],i64 sg,i64 own] (.arr (nE (exM L x sg own))):=by
 have hll:(nE L).length=L.length:=jo L;have hon:=tZ L;have hcc:Closed (.clos 142 [] []):=aY ai ai;have hbs:=Ci L x 142 ω hL hx λa ha=>Hm a x ha hx;obtain⟨i,hi⟩:∃i,i=bsL L x:=⟨_,rfl⟩;have hile:i<=L.length:=by rw[hi];exact(yv _ _ 0 L.length (Nat.zero_le _)).2
 rw[<-hi] at hbs;obtain⟨l,hll2⟩:∃l,L.length=l+1:=⟨L.length- 1,ω⟩;have hcl:=Em L (by intro e;rw[e] at hll2;cases hll2) ω;have hs0:=xD 0 sg hs δ;have hsl:=xD l sg hs ω;have hsi:=xD i sg hs ω;have hclc:Closed (.clos 192 [] [bS1 sg]):=aY ai (ae (b9 sg) ai);refine f_n Tryz.func141 ?_ ?_;exact ae (cm L) (ae (ag _) (ae hcc (ae (ag _) (ae (ag _) ai))));refine r_z 2 ?_;refine r_c 9 (hbs) ?_;refine a_z ?_;refine AWp.ent (st':=⟨[(0,.arr (nE L)),(1,i64 x),(4,i64 own),(8,bS1 sg),(11,i64 i)],[],1,85⟩) ?_ ?_;refine s_x [] (λhs=>?_) (λhs=>?_)
 ·repeat' (first|exact aF|refine aj rfl ?_ ?_|exact ah hs (cm L)|exact Cv.boxp hs rfl (aP rfl) rfl (ae (ag _) ai)|exact aX)
 ·repeat' (first|exact aD|refine h_c ?_ ?_|exact bG|refine ay ?_|exact ax|refine af ?_ ?_|exact ah hs (cm L)|exact Cv.boxp hs rfl (aP rfl) rfl (ae (ag _) ai)|exact aX)
 refine r_z 2 ?_;refine s_r 3 ?_;refine a_1 ?_;refine o_1 (.callO rfl rfl rfl (hcl)) ?_;refine a_z ?_;refine AWp.ent (st':=⟨[(0,.arr (nE L)),(1,i64 x),(4,i64 own),(11,i64 i),(13,.clos 192 [] [bS1 sg]),(14,.lsl 1 0 L.length none 1)],[(1,some ⟨3,1,nE L⟩)],2,85⟩) ?_ ?_;rw[hll];refine s_x [(1,14)] (λhs=>?_) (λhs=>?_)
 ·repeat' (first|exact aF|refine aj rfl ?_ ?_|exact ah hs (cm L)|exact ah hs hclc|exact aX)
 ·repeat' (first|exact aD|refine h_c ?_ ?_|exact bZ hs (dG L)|exact bG|refine ay ?_|exact ax|refine af ?_ ?_|exact ah hs (cm L)|exact ah hs hclc|exact aX)
 refine ac (r_z 4 ?_);rw[show((L.length:Nat):Int)- 1=((l:Nat):Int) by omega];refine aG (exS ()) (λM=>M=exM L x sg own) ?_ ?_;refine ak ?_;by_cases h0:i=0;by_cases h1:sdE sg 0=own
 have hr:exM L x sg own=L.set i x:=by
  unfold exM;rw[<-hi,if_neg (λe=>e.2 h1),if_neg (λe=>by have:=e.1;omega),if_pos (.inl h0)]
 refine s_r 9 ?_;refine a_1 ?_;refine o_0 (.bin rfl rfl (vT aM (eqI ω))) ?_;refine e_s (hs0) ?_;refine m_1 ?_;refine ap rfl rfl rfl (.bin rfl rfl (vF bO ((by rw[h1];simp)))) rfl rfl ?_;refine a_z ?_;refine cF (q_z 11 ?_);refine cF (s_r 15 ?_);refine a_1 ?_;refine o_0 (.bin rfl rfl (vT aM (eqI ω))) ?_;refine d_z ?_;refine cT ?_;have hgt:=lj (L:=L) (k:=i) (e:=0+((i:Nat):Int).toNat) ω ω;refine r_m 5 ?_;refine a_4 ?_;refine ee (.store rfl rfl hgt rfl rfl rfl TS.h (nle rfl)) ?_;refine ao ?_;refine⟨L.set i x,hr.symm,?_⟩;rw[exS.eq_1,List.length_set];exact s_x [] (λhs=>cN) (λhs=>e_31)
 ·have hr:exM L x sg own=x::L.take l:=by
   unfold exM;rw[<-hi,if_pos ⟨h0,h1⟩,show L.length- 1=l by omega]
  refine s_r 9 ?_;refine a_1 ?_;refine o_0 (.bin rfl rfl (vT aM (eqI ω))) ?_;refine e_s (hs0) ?_;refine m_1 ?_;refine ap rfl rfl rfl (.bin rfl rfl (vT bO ((by simpa using h1)))) rfl rfl ?_;refine a_z ?_;refine cT (AWp.ent (st':=⟨[(1,i64 x),(14,.arr (nE L)),(15,i64 l)],[],1,85⟩) ?_ ?_);refine s_x [] (λhs=>?_) (λhs=>?_)
  ·repeat' (first|exact aF|refine aj rfl ?_ ?_|(refine Cv.shut hs rfl (aP rfl) ψ ?_;exact aI hs π (dG _))|exact aX)
  ·repeat' (first|exact aD|refine h_c ?_ ?_|exact bG|refine ay ?_|exact ax|refine af ?_ ?_|(refine Cv.shut hs rfl (aP rfl) ψ ?_;exact aI hs π (dG _))|exact aX)
  have hc1:[[i64 x]]++nE (L.take l)=nE (x::L.take l):=rfl;have hc2:(nE (L.take l)).length=l:=by rw[jo,List.length_take];omega
  have hon2:=tZ (L.take l);refine s_r 7 ?_;refine a_4 ?_;refine o_0 (.sa_hE (h:=l) (nE_take L l) rfl rfl ω ω te_45.h (xn _)) ?_;refine o_2 (.append_l rfl rfl rfl te_45.h rfl rfl rfl rfl rfl d_o η ξ rfl (.arr (xn _)) TZ.h rfl TB.h d_o μ) ?_;refine a_z ?_;refine an ?_;rw[hr];exact Fin.tmpS rfl rfl rfl χ (dG _)
 by_cases h1:l< i;by_cases h2:sdE sg l=own
 have hr:exM L x sg own=L.set (i- 1) x:=by
  unfold exM;rw[<-hi,show L.length- 1=l by omega,if_neg (λe=>h0 e.1),if_neg (λe=>e.2 h2),if_neg (λe=>by rcases e with e|e;exact h0 e;have:=e.1;omega)]
 refine s_r 9 ?_;refine a_1 ?_;refine o_0 (.bin rfl rfl (vF aM (neI ω))) ?_;refine d_z ?_;refine cF (q_c 11 (hsl) ?_);refine m_1 ?_;refine ap rfl rfl rfl (.bin rfl rfl (vF bO ((by rw[h2];simp)))) rfl rfl ?_;refine a_z ?_;refine cF (s_r 15 ?_);refine a_1 ?_;refine o_0 (.bin rfl rfl (vF aM (neI ω))) ?_;refine d_z ?_;refine cF ?_;have hgt:=lj (L:=L) (k:=i- 1) (e:=0+(((i:Nat):Int)- 1).toNat) ω ω;refine r_m 6 ?_;refine a_5 ?_;refine ee (.store rfl rfl hgt rfl rfl rfl TS.h (nle rfl)) ?_;refine ao ?_;refine⟨L.set (i- 1) x,hr.symm,?_⟩;rw[exS.eq_1,List.length_set];exact s_x [] (λhs=>cN) (λhs=>e_32)
 have hr:exM L x sg own=L.drop 1++[x]:=by
  unfold exM;rw[<-hi,show L.length- 1=l by omega,if_neg (λe=>h0 e.1),if_pos ⟨h1,h2⟩]
 refine s_r 9 ?_;refine a_1 ?_;refine o_0 (.bin rfl rfl (vF aM (neI ω))) ?_;refine d_z ?_;refine cF (q_c 11 (hsl) ?_);refine m_1 ?_;refine ap rfl rfl rfl (.bin rfl rfl (vT bO ((by simpa using h2)))) rfl rfl ?_;refine a_z ?_;refine cT (s_r 6 ?_);refine a_1 ?_;refine o_0 (.slice_l (l:=1) (h:=L.length) rfl ⟨⟨_,rfl,.inr ⟨_,_,rfl,rfl⟩⟩,⟨_,rfl,.inl ⟨rfl,rfl,rfl⟩⟩,⟨_,rfl,.inl ⟨rfl,rfl⟩⟩⟩ ω (Nat.le_refl _) (.inr ω) te_45.h) ?_;refine a_2 ?_;refine o_1 (.append_oS rfl rfl rfl te_45.h rfl rfl rfl rfl rfl (by rw[hll];omega) rfl rfl (.lsl rfl (nle rfl)) TZ.h rfl TB.h χ (by simp[maxLen];omega)) ?_;refine a_z ?_;refine an ?_;rw[hr];exact aR rfl (by rw[qJ,nE_drop];rfl) (cm _);by_cases h2:sdE sg i=own
 have hr:exM L x sg own=L.set i x:=by
  unfold exM;rw[<-hi,show L.length- 1=l by omega,if_neg (λe=>h0 e.1),if_neg (λe=>h1 e.1),if_pos (.inr ⟨ω,h2⟩)]
 refine s_r 9 ?_;refine a_1 ?_;refine o_0 (.bin rfl rfl (vF aM (neI ω))) ?_;refine d_z ?_;refine cF (q_z 11 ?_);refine cF (s_r 15 ?_);refine a_1 ?_;refine o_0 (.bin rfl rfl (vF aM (neI ω))) ?_;refine e_s (hsi) ?_;refine m_1 ?_;refine ap rfl rfl rfl (.bin rfl rfl (vT aM (eqI h2))) rfl rfl ?_;refine d_z ?_;refine cT ?_;have hgt:=lj (L:=L) (k:=i) (e:=0+((i:Nat):Int).toNat) ω ω;refine r_m 5 ?_;refine a_4 ?_;refine ee (.store rfl rfl hgt rfl rfl rfl TS.h (nle rfl)) ?_;refine ao ?_;refine⟨L.set i x,hr.symm,?_⟩;rw[exS.eq_1,List.length_set];exact s_x [] (λhs=>cN) (λhs=>e_31)
 have hr:exM L x sg own=L.set (i- 1) x:=by
  unfold exM;rw[<-hi,show L.length- 1=l by omega,if_neg (λe=>h0 e.1),if_neg (λe=>h1 e.1),if_neg (λe=>by rcases e with e|e;exact h0 e;exact h2 e.2)]
 refine s_r 9 ?_;refine a_1 ?_;refine o_0 (.bin rfl rfl (vF aM (neI ω))) ?_;refine d_z ?_;refine cF (q_z 11 ?_);refine cF (s_r 15 ?_);refine a_1 ?_;refine o_0 (.bin rfl rfl (vF aM (neI ω))) ?_;refine e_s (hsi) ?_;refine m_1 ?_;refine ap rfl rfl rfl (.bin rfl rfl (vF aM (neI h2))) rfl rfl ?_;refine d_z ?_;refine cF ?_;have hgt:=lj (L:=L) (k:=i- 1) (e:=0+(((i:Nat):Int)- 1).toNat) ω ω;refine r_m 6 ?_;refine a_5 ?_;refine ee (.store rfl rfl hgt rfl rfl rfl TS.h (nle rfl)) ?_;refine ao ?_;refine⟨L.set (i- 1) x,hr.symm,?_⟩;rw[exS.eq_1,List.length_set];exact s_x [] (λhs=>cN) (λhs=>e_32);rintro M rfl;rw[exS.eq_1];refine r_z 2 ?_;exact an (Fin.tmpS rfl rfl rfl ψ (dG _))
def inS(p:Lq)(v:Lq):Nat->AState
 |i=>⟨[(0,.arr (pE p)),(1,.arr (pE v)),(23,.arr (pE p)),(24,i64 p.length),(25,i64 i)],[],1,69⟩
def inT(p:Lq)(v:Lq):Nat×Lq×Lq->AState
 |(i,out,zeros)=>⟨[(1,.arr (pE v)),(8,.arr (pE out)),(9,.arr (pE zeros)),(38,.arr (pE p)),(39,i64 p.length),(40,i64 i)],[],1,69⟩
theorem mG(p v r:Lq)(hl:p.length=v.length)(hl2:p.length<=41)(hp:smL p)(htw:qp [] p=false)(h:zJ p v [] (fY 1)=some r):FS 137 [.arr (pE p),.arr (pE v)] (.tup [.arr (pE r),i64 0]):=by
 refine f_c Tryz.func137 ?_;refine r_z 2 ?_;refine bi (λ_:Unit=>⟨[(0,.arr (pE p)),(1,.arr (pE v))],[],1,69⟩) (λ_=>True) ?_ ?_;refine ak (r_z 6 ?_);refine aw rfl (λh1=>?_) (λh1=>?_);exact absurd h1 (by simp[hl]);refine r_z 4 ?_;refine aw rfl (λh2=>?_) (λh2=>?_);exact absurd h2 χ;refine am ⟨(),trivial,?_⟩;exact s_e [];rintro _ _;refine ac (r_z 3 ?_);refine aG (λ_:Unit=>⟨[(0,.arr (pE p)),(1,.arr (pE v))],[],1,69⟩) (λ_=>True) ?_ ?_;refine ak (aC (inS p v) (λi=>p.length- i) (λi=>i<=p.length/\qp (p.take i) (p.drop i)=false) 0 ⟨Nat.zero_le _,htw⟩ ?_ ?_);simp only[inS.eq_1];exact s_e [];rintro i ⟨hi,ht⟩;rw[inS.eq_1];refine r_z 1 ?_;refine ac (aw rfl (λh=>?_) (λh=>?_));refine am ?_;have hlt:i< p.length:=by simpa using h
 have hgt:(pE p)[((i:Nat):Int).toNat]?=some (qC (coP p i)):=cj (bJ hlt);rw[gP hlt,qp,Bool.or_eq_false_iff] at ht;obtain⟨ht1,ht2⟩:=ht;have hco:=lV (p.take i) 186 [bQ (coP p i)] (λb=>decide (coP p i=b)) (ae (aT _) ai) χ (λq hq=>sk (coP p i) q (iX hp i) (hp q (List.mem_of_mem_take hq))) rfl;rw[ht1] at hco;refine ac (ak (s_r 6 ?_));refine a_1 ?_;refine i_x hgt ?_;refine l_x hgt ?_;refine a_z ?_;refine AWp.ent (st':=⟨[(0,.arr (pE p)),(1,.arr (pE v)),(6,i64 i),(7,bQ (coP p i)),(23,.arr (pE p)),(24,i64 p.length),(25,i64 i)],[],1,69⟩) ?_ ?_;exact s_e [];refine s_r 5 ?_;refine a_2 ?_;refine o_0 (.sa_h rfl rfl (h:=i) rfl χ te_29.h (fl _)) ?_;refine o_0 (.makeFunc rfl rfl) ?_;refine o_0 (.call rfl rfl rfl ((by rw[li];exact hco))) ?_;refine ao ?_;refine cF (am (r_m 2 ?_));refine a_z ?_;refine⟨i+1,ω,⟨hlt,by rw[dO (bJ hlt)];exact ht2⟩,?_⟩;simp only[inS.eq_1];exact s_e [];refine aB ⟨(),trivial,?_⟩;exact s_e [];rintro _ _;refine r_c 4 (df 1 δ) ?_;refine c_s (jV 1) ?_;refine a_z ?_;refine ac (r_z 3 ?_);refine aG (λ_:Unit=>⟨[(8,.arr (pE r))],[],1,69⟩) (λ_=>True) ?_ ?_;refine ak (aC (inT p v) (λx=>p.length- x.1) (λx=>x.1<=p.length/\zJ (p.drop x.1) (v.drop x.1) x.2.1 x.2.2=some r) (0,[],fY 1) ⟨Nat.zero_le _,h⟩ ?_ ?_);simp only[inT.eq_1];exact s_e [];rintro⟨i,out,zeros⟩ ⟨hi,hm⟩;simp only at hi hm;rw[inT.eq_1];refine r_z 1 ?_;refine ac (aw rfl (λh=>?_) (λh=>?_))
 ·refine am ?_
  have hlt:i< p.length:=by simpa using h
  have hgp:(pE p)[((i:Nat):Int).toNat]?=some (qC (coP p i)):=cj (bJ hlt);have hgv:(pE v)[((i:Nat):Int).toNat]?=some (qC (coP v i)):=cj (bJ ω);rw[gP hlt,gP (show i< v.length by omega),zJ] at hm;split at hm
  case isFalse=>cases hm
  case isTrue hk=>
  obtain⟨k1,k2,k3,k4,k5,k6,k7,k8,k9,k10,k11⟩:=hk;have e1:=Aq k3;have e2:=Aq k4;have e3:=tT (coP v i) (aO out (coP p i));have hsl:=eB zeros (inK (coP p i) (coP v i) out zeros);have hz:=k10.2.2.1;refine ac (ak (s_r 6 ?_));refine a_1 ?_;refine i_x hgp ?_;refine l_x hgp ?_;refine a_z ?_;refine ac (r_d hmix 14 ?_);refine a_2 ?_;refine i_x hgv ?_;refine l_x hgv ?_;refine c_s (e8 out (coP p i) k3) ?_;refine c_s (gO (coP v i) (aO out (coP p i)) (sm2 k2 e1)) ?_;refine c_s (e8 zeros (coP p i) k4) ?_;refine c_s (fP (coP v i- aO out (coP p i)) (aO zeros (coP p i)) k5 (by unfold sm at e1 e2 k2;omega)) ?_;refine a_2 ?_;refine ao (n_k ?_);refine r_c 6 (iH zeros (inK (coP p i) (coP v i) out zeros) k8 k6 ω) ?_;refine c_s (uB out (cI zeros (inK (coP p i) (coP v i) out zeros)) k7 k9 ω ω) ?_;refine a_z ?_;refine r_m 6 ?_;refine c_s (jG (coP p i)) ?_;refine c_s (DQ (-coP p i)) ?_;refine c_s (xP zeros [-coP p i,1] (mxL zeros) (mxL [-coP p i,1]) (eb _) (eb _) (dR _) (dR _) k10.1 k10.2.1 k10.2.2.1 k10.2.2.2) ?_;refine a_z ?_;refine r_m 2 ?_;refine a_z ?_;refine⟨(i+1,_,_),by simp only;omega,⟨hlt,hm⟩,?_⟩;simp only[inT.eq_1];exact s_e []
 have hge:i=p.length:=by
  have:¬i< p.length:=by simpa using h
  omega
 subst hge;rw[List.drop_length,zJ] at hm;cases hm;refine aB ⟨(),trivial,?_⟩;exact s_e [];rintro _ _;refine r_z 3 ?_;refine an (Fin.many ⟨_,_,rfl,rfl,⟨_,_,rfl,rfl,rfl⟩⟩ (nle rfl) ?_);exact af (ah aE (aq _)) (af (ah aE (ag _)) ax)
end Go.Proofs.YtjgokhkahkmpbaaGreatDoor
