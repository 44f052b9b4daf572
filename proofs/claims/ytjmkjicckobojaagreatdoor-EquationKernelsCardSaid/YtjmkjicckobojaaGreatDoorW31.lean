/- Part W31 of the proof. -/
import Derived.Test.YtjmkjicckobojaaGreatDoorW30
set_option linter.all false
namespace Go.Proofs.YtjmkjicckobojaaGreatDoor
open Go.Abs
set_option maxRecDepth 20000
set_option maxHeartbeats 2000000
def syX(rows leads:AV)(n:Int):Hp:=[(35,some ⟨157,3,[[rows,leads,i64 n]]⟩)]
theorem syX_id{rows leads:AV}{n:Int}:∀p∈syX rows leads n,35<=p.1/\p.1< 40:=λp hp=>by rw[List.mem_singleton.1 hp];exact⟨(show 35<=35 by decide),(show 35< 40 by decide)⟩
def sx0:Hp:=syX .emp .emp 0
theorem eI:∀p∈sx0,35<=p.1/\p.1< 40:=syX_id
theorem DC {fr fr':Fr} {hp:Hp} {nx N n:Nat} {R:Nat->Lq} (s:Nat->Nat) (hn:n<=30) (s0:s 0=0) (hinj:∀i j,InX n i->InX n j->s i=s j->i=j) (h1:au hp (s 1)=some ⟨61,1,rwO R s n⟩) (hr:∀i,i< n->au hp (s (i+2))=some ⟨42,3,pE (R i)⟩) (h35:au hp (s 35)=some ⟨157,3,[[.emp,.emp,i64 0]]⟩)
    (hF:Shr ⟨40,s⟩ (au hp) (au (rwH 61 42 R n sx0))->CvF ⟨40,s⟩ (au hp) (au (rwH 61 42 R n sx0)) fr fr'):SEnt ⟨fr,hp,nx,N⟩ ⟨fr',rwH 61 42 R n sx0,40,N⟩:=
 SEntT.ent (SEntT.rw s hn s0 hinj h1 hr eI (λi B h=>by
  cases List.mem_singleton.1 h;exact⟨_,h35,rfl,rfl,rfl⟩) (λhs i B b h a=>by
  cases List.mem_singleton.1 h;have a:au hp (s 35)=some b:=a;rw[h35] at a;cases a
  exact ba hs λe d c hc=>by
   rw[List.mem_singleton.1 d] at hc;exact ae dw (ae dw (ae (ak _) af)) c hc) hF)
theorem oK {fr fr':Fr} {hp:Hp} {nx N n:Nat} {R:Nat->Lq} (hn:n<=30) (h1:au hp 1=some ⟨61,1,rwO R (λx=>x) n⟩) (hr:∀i,i< n->au hp (i+2)=some ⟨42,3,pE (R i)⟩) (h35:au hp 35=some ⟨157,3,[[.emp,.emp,i64 0]]⟩)
    (hF:Shr ⟨40,λx=>x⟩ (au hp) (au (rwH 61 42 R n sx0))->CvF ⟨40,λx=>x⟩ (au hp) (au (rwH 61 42 R n sx0)) fr fr'):SEnt ⟨fr,hp,nx,N⟩ ⟨fr',rwH 61 42 R n sx0,40,N⟩:=
 DC (λx=>x) hn rfl (λ_ _ _ _ e=>e) h1 hr h35 hF
theorem KK{i new x:Nat}(h:x≠i+2):fiR i new x=x:=by
 unfold fiR;rw[show Nat.beq x (i+2)=false by cases hb:Nat.beq x (i+2) with|false=>rfl|true=>exact absurd (Nat.eq_of_beq_eq_true hb) h];rfl
theorem ui{n i:Nat}(hn:n<=30)(h:InX n i):i< 40:=by unfold InX at h;omega
theorem Dp{r:Ren}{hp hp':Hq}{fr fr':Fr}{l:Rat}{b:Lq}(hs:Shr r hp hp')(h:CvF r hp hp' fr fr':=by repeat' (first|exact aL|refine az rfl ?_ ?_|exact ao hs (aD b)|exact ao hs (cL l)|exact ao hs (ak _)|exact Cv.sl rfl rfl rfl|exact Cv.ptr rfl rfl rfl|exact Cv.ptr rfl (by assumption) rfl|(refine Cv.loE hs ?_ (ak _);simp[i64];done))):CvF r hp hp' fr fr':=h
def svO(A:Nat->Nat->Rat)(l:Rat)(b:Lq)(n:Nat):Nat->AState
 |i=>⟨[(0,.lsl 1 0 n (some n) 1),(2,.arr (pE b)),(4,bQ l),(6,.lptr 35 0 0),(7,i64 n),(22,i64 n),(23,i64 i)],rwH 61 42 (ph1 A l (λt=>coP b t) n i) n sx0,40,209⟩
def svI(A:Nat->Nat->Rat)(l:Rat)(b:Lq)(n i:Nat):Nat->AState
 |j=>⟨[(0,.lsl 1 0 n (some n) 1),(2,.arr (pE b)),(4,bQ l),(6,.lptr 35 0 0),(7,i64 n),(8,i64 i),(22,i64 n),(23,i64 i),(30,i64 n),(31,i64 j)],rwH 61 42 (upR (ph1 A l (λt=>coP b t) n i) i (mxr A l n i j)) n sx0,40,209⟩
noncomputable def svRest:Code:=match Tryz.f113.body with|some (.seq _ (.seq _ (.seq _ y)))=>y|_=> .skip
theorem mzO_rwO(A:Nat->Nat->Rat)(n:Nat){s:Nat->Nat}(h:∀k,k< n->s (k+2)=k+2):mzO 3 (λ_=>n) (λx=>x) n=rwO (λk=>aN n (A k)) s n:=by
 refine List.ext_getElem? λk=>?_;by_cases hk:k< n;rw[Ad hk,eC hk k rfl,h k hk,uo];rw[rwO_out ω,List.getElem?_eq_none χ]
theorem sv_rows (A:Nat->Nat->Rat) (l:Rat) (b:Lq) (n:Nat) (hn:n<=25) (hb:b.length=n) (r:AV)
    (hm:∀i j:Nat,i< n->j< n->qs (A i j)+qs l<=549755813888) (ha:∀i:Nat,i< n->qs (-(A i i* l))+1<=549755813887)
    (hrest:AWp none Tryz.prog svRest (Fin Tryz.prog Tryz.f113.results.toList r) ⟨[(0,.lsl 1 0 n (some n) 1),(6,.lptr 35 0 0),(7,i64 n)],rwH 61 42 (λk=>aN (n+1) (svM A l (λt=>coP b t) n k)) n sx0,40,209⟩):
    XSpec Tryz.prog 113 [.lsl 1 0 n (some n) 1,.agg (qC l),.arr (pE b)] (mzH 3 61 42 (mzO 3 (λ_=>n) (λx=>x) n) (fiL A n n)) 40 r [] 1:=by
 refine XSpec.enterC Tryz.func113 rfl κ rfl rfl rfl rfl ?_;refine r_z 2 ?_;refine AWp.ent (st':=⟨[(0,.lsl 1 0 n (some n) 1),(2,.arr (pE b)),(4,bQ l),(6,.lptr 35 0 0)],rwH 61 42 (λk=>aN n (A k)) n sx0,40,209⟩) ?_ ?_;refine DC (fiR 33 41) ω (Cu _ _) (λx y K G e=>r8 (m:=40) (Nat.le_refl _) δ x y (ui ω K) (ui ω G) e) ?_ ?_ rfl ?_;rw[Ct,<-mzO_rwO A n (s:=fiR 33 41) λk a=>jG ω];rfl
 ·intro k a
  rw[jG ω]
  repeat rw[bZ ω]
  exact dH (fQ a)
 intro hs
 have Q:uj ⟨40,fiR 33 41⟩ (au (rwH 61 42 (λk=>aN n (A k)) n sx0)) 40:=λj B O e=>by
  obtain⟨U⟩:=hs;have V:j< 40:=(U j B O).1;have e:fiR 33 41 j=40:=e;unfold fiR at e;cases hb:Nat.beq j (33+2)<;> rw[hb] at e <;> simp only[cond_true,cond_false] at e <;> omega
 exact az rfl (Cv.sl rfl rfl rfl) (az rfl (ao hs (aD b)) (az rfl (Cv.boxp hs rfl Q rfl (bC l)) (az rfl (Cv.ptr rfl rfl rfl) aL)));refine r_z 3 ?_;refine ac (r_z 3 ?_);refine aC (λ_:Unit=>⟨[(0,.lsl 1 0 n (some n) 1),(6,.lptr 35 0 0),(7,i64 n)],rwH 61 42 (λk=>aN (n+1) (svM A l (λt=>coP b t) n k)) n sx0,40,209⟩) (λ_=>True) ?_ ?_
 ·refine ah (ay (svO A l b n) (λi=>n- i) (λi=>i<=n) 0 (Nat.zero_le _) ?_ ?_)
  rw[svO.eq_1,ph1_0];exact oK ω (cy eI) (λi q=>dT eI ω q) rfl λhs=>Dp (l:=l) (b:=b) hs;intro i q;rw[svO.eq_1];by_cases hlt:i< n;rotate_left;have f:i=n:=ω
  subst f;refine q_z 1 ?_;refine ac (cF (ax ⟨(),trivial,?_⟩));refine oK ω ?_ ?_ rfl λhs=>Dp (l:=l) (b:=b) hs;rw[cy eI,gx (R':=λk=>aN (i+1) (svM A l (λt=>coP b t) i k)) (s':=λx=>x)];intro k a;exact⟨by rw[ph1_n a],rfl⟩;intro k a;rw[dT eI ω a,ph1_n a];refine q_z 1 ?_;refine ac (cT (aj (ac (ah (r_z 2 ?_)))));have o:(ph1 A l (λt=>coP b t) n i i).length=n:=by rw[Jy];simp
  have H:∀e,e=i->(rwO (ph1 A l (λt=>coP b t) n i) (λx=>x) n)[e]?=some [.lsl (i+2) 0 n none 3]:=λe g=>by rw[eC hlt e g,o]
  refine ac (s_r 6 ?_);refine a_3 ?_;refine o_0 (.load_l1 rfl (eA (cy eI) (show(1:Nat)≠0 by decide)) (H _ ω) TG.h rfl) ?_;refine a_z ?_;refine aC (λ_:Unit=>svI A l b n i n) (λ_=>True) ?_ ?_
  ·refine ah (ay (svI A l b n i) (λj=>n- j) (λj=>j<=n) 0 (Nat.zero_le _) ?_ ?_)
   rw[svI.eq_1,<-Jy A l (λt=>coP b t),upR_id];exact oK ω (cy eI) (λi q=>dT eI ω q) rfl λhs=>Dp (l:=l) (b:=b) hs;intro j O;rw[svI.eq_1];by_cases hjn:j< n;rotate_left;have f:j=n:=ω
   subst f;refine q_z 1 ?_;refine ac (cF (ax ⟨(),trivial,?_⟩));exact oK ω (cy eI) (λi q=>dT eI ω q) rfl λhs=>Dp (l:=l) (b:=b) hs;have F:=dk (A i j) l (hm i j hlt hjn);have E:=mY (A i j* l);have c:=kM (TS:=61) (TQ:=42) (R:=upR (ph1 A l (λt=>coP b t) n i) i (mxr A l n i j)) eI (by omega:n<=30) hlt;rw[eU] at c;have d:∀e,e=i->(rwO (upR (ph1 A l (λt=>coP b t) n i) i (mxr A l n i j)) (λx=>x) n)[e]?=some [.lsl (i+2) 0 n none 3]:=λe g=>by rw[eC hlt e g,eU,wy]
   have w:=eA (cy (TS:=61) (TQ:=42) (n:=n) (R:=upR (ph1 A l (λt=>coP b t) n i) i (mxr A l n i j)) eI) (show(1:Nat)≠0 by decide);refine q_z 1 ?_;refine ac (cT (aj (ac (ah (r_z 2 ?_)))));refine r_d aX 17 ?_;refine a_3 ?_;refine o_0 (.load_l1 rfl w (d _ ω) TG.h rfl) ?_;refine a_4 ?_;refine o_0 (.load_l1 rfl w (d _ ω) TG.h rfl) ?_;refine a_2 ?_;refine o_0 (.load_l rfl c (F8 hjn _ ω) TG.h TS.h (nle rfl)) ?_;refine c_s (F) ?_;refine c_s (E) ?_;refine a_1 ?_;refine fN (.store rfl c (F8 hjn _ ω) rfl rfl rfl TS.h (nle rfl)) ?_;refine aq (n_k ?_);refine r_m 2 ?_;refine a_z ?_;refine⟨j+1,ω,ω,?_⟩;rw[svI.eq_1];refine oK ω ?_ ?_ ?_ λhs=>Dp (l:=l) (b:=b) hs;rw[bZ ω,cy eI,gx (R':=upR (ph1 A l (λt=>coP b t) n i) i (mxr A l n i (j+1))) (s':=λx=>x)];intro k a;by_cases h:k=i;subst h;rw[eU,eU];simp;rw[lF _ _ h,lF _ _ h];simp;intro k a;by_cases h:k=i;subst h;rw[eU,<-mxr_set hjn (0+((j:Nat):Int).toNat) ω,dB,bq];rfl;rw[bZ ω,dT eI ω a,lF _ _ h,lF _ _ h];rw[bZ ω];rfl
  rintro _ _;show AWp _ _ _ _ (svI A l b n i n);rw[svI.eq_1];have c:=kM (TS:=61) (TQ:=42) (R:=upR (ph1 A l (λt=>coP b t) n i) i (mxr A l n i n)) eI (by omega:n<=30) hlt;rw[eU] at c;have d:∀e,e=i->(rwO (upR (ph1 A l (λt=>coP b t) n i) i (mxr A l n i n)) (λx=>x) n)[e]?=some [.lsl (i+2) 0 n none 3]:=λe g=>by rw[eC hlt e g,eU,wy]
  have w:=eA (cy (TS:=61) (TQ:=42) (n:=n) (R:=upR (ph1 A l (λt=>coP b t) n i) i (mxr A l n i n)) eI) (show(1:Nat)≠0 by decide);have D:=eD 1 δ;have S:qs 1<=1:=δ
  have M:=fD (-(A i i* l)) 1 (by have:=ha i hlt;omega);refine ac (r_d aX 16 ?_);refine a_3 ?_;refine o_0 (.load_l1 rfl w (d _ ω) TG.h rfl) ?_;refine a_4 ?_;refine o_0 (.load_l1 rfl w (d _ ω) TG.h rfl) ?_;refine a_2 ?_;refine o_0 (.load_l rfl c (BR hlt _ ω) TG.h TS.h (nle rfl)) ?_;refine c_s (D) ?_;refine c_s (M) ?_;refine a_1 ?_;refine fN (.store rfl c (BR hlt _ ω) rfl rfl rfl TS.h (nle rfl)) ?_;refine aq (n_k ?_);refine AWp.ent (st':=⟨[(0,.lsl 1 0 n (some n) 1),(2,.arr (pE b)),(4,bQ l),(6,.lptr 35 0 0),(7,i64 n),(8,i64 i),(22,i64 n),(23,i64 i)],rwH 61 42 (upR (ph1 A l (λt=>coP b t) n i) i (dgr A l n i)) n sx0,40,209⟩) ?_ ?_;refine oK ω ?_ ?_ ?_ λhs=>Dp (l:=l) (b:=b) hs;rw[bZ ω,cy eI,gx (R':=upR (ph1 A l (λt=>coP b t) n i) i (dgr A l n i)) (s':=λx=>x)];intro k a;by_cases h:k=i;subst h;rw[eU,eU];simp;rw[lF _ _ h,lF _ _ h];simp;intro k a;by_cases h:k=i;subst h;rw[eU,<-mxr_one hlt (0+((k:Nat):Int).toNat) ω,dB,bq];rfl;rw[bZ ω,dT eI ω a,lF _ _ h,lF _ _ h];rw[bZ ω];rfl
  have u:∀(k:Nat) (B:Option ABlk),k≠i+2->dS (au ((k,B)::rwH 61 42 (upR (ph1 A l (λt=>coP b t) n i) i (dgr A l n i)) n sx0)) (i+2)=some ⟨42,3,pE (dgr A l n i)⟩:=λk B a=>eA (by
   have:=dT (TS:=61) (TQ:=42) (R:=upR (ph1 A l (λt=>coP b t) n i) i (dgr A l n i)) eI (by omega:n<=30) hlt;rw[eU] at this;rw[bZ a];exact this) (show(3:Nat)≠0 by decide)
  have v:∀e,e=i->(rwO (upR (ph1 A l (λt=>coP b t) n i) i (dgr A l n i)) (λx=>x) n)[e]?=some [.lsl (i+2) 0 n none 3]:=λe g=>by rw[eC hlt e g,eU,ER]
  have L:=eA (cy (TS:=61) (TQ:=42) (n:=n) (R:=upR (ph1 A l (λt=>coP b t) n i) i (dgr A l n i)) eI) (show(1:Nat)≠0 by decide);have T:(pE b).length=n:=by simp[pE,hb]
  have z:(pE b)[((i:Nat):Int).toNat]?=some (qC (coP b i)):=by
   have:=ci (p:=b) (i:=i) ω;simp[pE,this]
  have J:(pE (dgr A l n i)).length=n:=by simp[pE]
  have C:(50:Nat)≠i+2:=ω
  refine r_d aX 14 ?_;refine a_5 ?_;refine o_0 (.load_l1 rfl L (v _ ω) TG.h rfl) ?_;refine a_2 ?_;refine i_x z ?_;refine l_x z ?_;refine a_1 ?_;refine o_2 (.append_l rfl rfl rfl te_61.h rfl rfl (u 50 _ C) rfl rfl J (cD _) (by rfl) rfl (.lsl rfl (nle rfl)) TZ.h rfl TB.h (by first|rfl|assumption|(simp;done)|(simp;omega)|omega) μ) ?_;refine a_1 ?_;refine fN (.store rfl rfl (v _ ω) rfl rfl rfl TS.h (nle rfl)) ?_;refine aq (n_k ?_);refine r_m 2 ?_;refine a_z ?_;refine⟨i+1,ω,ω,?_⟩;rw[svO.eq_1,<-Jx,<-upR_up (ph1 A l (λt=>coP b t) n i) i (dgr A l n i) (aN (n+1) (svM A l (λt=>coP b t) n i))];have N:fiR i 51 35=35:=KK ω;refine DC (fiR i 51) ω (Cu _ _) (λx y K G e=>r8 (m:=40) (Nat.le_refl _) δ x y (ui ω K) (ui ω G) e) ?_ ?_ ?_ λhs=>Dp (l:=l) (b:=b) hs;rw[Ct,<-I5 (new:=51) (m:=n+1) hlt ψ (0+((i:Nat):Int).toNat) ω];rfl;intro k a;by_cases h:k=i;subst h;rw[eU,o5,<-dgr_app,lZ];rfl
  ·rw[jG h,lF _ _ h]
   repeat rw[bZ ω]
   exact dT eI ω a
  ·rw[KK ω]
   repeat rw[bZ ω]
   rfl
 rintro _ _;exact hrest
theorem I6(R:Nat->Lq)(n:Nat):(rwL R n).map (λe=>([.arr e]:La))=mE ((List.range n).map R):=by simp[rwL,mE]
theorem Gf(k:Lw)(a:Nat):(mE k).drop a=mE (k.drop a):=by simp[mE,List.map_drop]
def rwI(n:Nat):Ln:=1::(List.range n).map (· +2)
theorem LN{r:Ren}{hp hp':Hq}{cap:Option Nat}{TS TQ a m n:Nat}{R:Nat->Lq}(hh:∀i∈rwI n,hp' i=hp i)(h1:hp 1=some ⟨TS,1,rwO R (λx=>x) n⟩)(hr:∀i,i< n->hp (i+2)=some ⟨TQ,3,pE (R i)⟩)(ham:a+m=n):
    Cv r hp' (λ_=>none) (.lsl 1 a m cap 1) (.arr (mE (((List.range n).map R).drop a))):=by
 have e:mE (((List.range n).map R).drop a)=(((rwL R n).map λe=>([.arr e]:La)).drop a).take m:=by
  rw[I6,Gf,List.take_of_length_le χ]
 rw[e];have f:(rwL R n).length=n:=pG R n;refine Cv.mzV (sz:=3) (TS:=TS) (TQ:=TQ) (w:=λk=>(R k).length) δ ?_ (λi x b=>?_) (λi x b=>by rw[(DD b).2];simp[pE]) (λx b y g c hc=>?_) (by rw[f];omega);rw[hh 1 (List.mem_cons_self ..),h1,f];rfl;obtain⟨d,rfl⟩:=DD b;rw[hh (i+2) (List.mem_cons_of_mem _ (List.mem_map.2 ⟨i,List.mem_range.2 d,rfl⟩)),hr i d];obtain⟨k,_,rfl⟩:=List.mem_map.1 b;exact aQ _ y g c hc
theorem fs_lead(R:Nat->Lq)(n r c:Nat)(hn:n<=1000)(hl:∀i,i< n->c< (R i).length):
    FS 199 [.arr (mE (((List.range n).map R).drop r)),.clos 200 [] [.aptr [[i64 c]] 0 0]] (i64 (kT (λe:Lq=>decide (coP e c≠0)) (((List.range n).map R).drop r) 0)):=
 yU _ 200 [.aptr [[i64 c]] 0 0] _ (ae (bi (ae (ak _) af)) af) χ λe a=>by
  obtain⟨i,b,rfl⟩:=List.mem_map.1 (List.mem_of_mem_drop a);exact Ee _ c _ (ci (hl i (List.mem_range.1 b)))
theorem yJ{α:Type}(t:α->Bool):∀(l:List α) (k:Int),(∀x∈l,t x=false)->kT t l k= -1
 |[],_,_=>rfl
 |a::l,k,h=>by
  rw[kT,if_neg (by rw[h a (List.mem_cons_self ..)];decide)];exact yJ t l _ λx b=>h x (List.mem_cons_of_mem _ b)
theorem Gr{α:Type}(t:α->Bool):∀(l:List α) (k:Int) (j:Nat) (x:α),l[j]?=some x->t x=true->(∀i y,i< j->l[i]?=some y->t y=false)->kT t l k=k+j
 |[],_,_,_,h,_,_=>by cases h
 |a::l,k,0,x,h,h2,_=>by
  cases h;rw[kT,if_pos h2];simp
 |a::l,k,j+1,x,h,h2,h3=>by
  rw[kT,if_neg (by rw[h3 0 a ω rfl];decide),Gr t l (k+1) j x (by simpa using h) h2 λi y c b=>h3 (i+1) y ω (by simpa using b)];omega
theorem zS{M:Mx}{n r i:Nat}(h:r+i< n):(((List.range n).map λk=>aN (n+1) (M k)).drop r)[i]?=some (aN (n+1) (M (r+i))):=by
 rw[List.getElem?_drop];simp[h]
theorem xk{n c:Nat}{f:Nat->Rat}(h:c<=n):coP (aN (n+1) f) c=f c:=by
 unfold coP aN;rw[List.getD_eq_getElem?_getD];simp[show c< n+1 by omega]
theorem idx_pv(M:Mx)(n r c:Nat)(hr:r<=n)(hc:c<=n):kT (λe:Lq=>decide (coP e c≠0)) (((List.range n).map λk=>aN (n+1) (M k)).drop r) 0=match pvR M n r c with|some p=>((p- r:Nat):Int)|none=> -1:=by
 cases e:pvR M n r c with
 |none=>
  refine yJ _ _ _ λx l=>?_;obtain⟨i,d⟩:=List.mem_iff_getElem?.1 l
  have b:r+i< n:=by
   have:=(List.getElem?_eq_some_iff.1 d).1;simp at this;omega
  rw[zS b] at d;cases d;rw[xk hc,BF e (r+i) b ω];decide
 |some p=>
  obtain⟨p1,p2,j⟩:=qV e
  have a:∀q,q< p->r<=q->M q c=0:=λq h g=>by
   have e2:=e;unfold pvR at e2;rw[List.find?_range_eq_some] at e2;have:=e2.2.2 q h;simp at this;exact this.resolve_left ω
  rw[Gr _ _ 0 (p- r) (aN (n+1) (M p)) (by rw[zS ω,show r+(p- r)=p by omega]) (by rw[xk hc];exact decide_eq_true j) λi y d f=>?_];simp;rw[zS ω] at f;cases f;rw[xk hc,a (r+i) ω ω];decide
def lvE(L:Ln):Lc:=L.map fun(l:Nat)=>[i64 (l:Int)]
@[simp] theorem mS (L:Ln):(lvE L).length=L.length:=by simp[lvE]
theorem ff(L:Ln):∀e∈lvE L,∀c∈e,Closed c:=λe a=>by
 obtain⟨l,_,rfl⟩:=List.mem_map.1 a;exact ae (ak _) af
theorem JQ(L:Ln)(c:Nat):lvE (L++[c])=lvE L++[[i64 c]]:=by simp[lvE]
def lvA:Ln->AV
 |[]=> .emp
 |l::L=> .lsl 37 0 (L.length+1) none 1
def lvB:Ln->Hp
 |[]=>[]
 |l::L=>[(37,some ⟨3,1,lvE (l::L)⟩)]
def sx1(n:Nat)(L:Ln):Hp:=(35,some ⟨157,3,[[.emp,.emp,i64 0]]⟩)::(36,some ⟨157,3,[[.lsl 1 0 n (some n) 1,lvA L,i64 n]]⟩)::lvB L
theorem cS{n:Nat}{L:Ln}:∀p∈sx1 n L,35<=p.1/\p.1< 40:=λp hp=>by
 rcases List.mem_cons.1 hp with rfl|hp
 exact⟨(show 35<=35 by decide),(show 35< 40 by decide)⟩;rcases List.mem_cons.1 hp with rfl|hp
 exact⟨(show 35<=36 by decide),(show 36< 40 by decide)⟩;cases L with
 |nil=>cases hp
 |cons l L=>rw[List.mem_singleton.1 hp];exact⟨(show 35<=37 by decide),(show 37< 40 by decide)⟩
theorem ka {fr fr':Fr} {hp:Hp} {nx N n:Nat} {R:Nat->Lq} {L:Ln} {x:AV} (s:Nat->Nat) (hn:n<=30) (s0:s 0=0) (hinj:∀i j,InX n i->InX n j->s i=s j->i=j) (h1:au hp (s 1)=some ⟨61,1,rwO R s n⟩) (hr:∀i,i< n->au hp (s (i+2))=some ⟨42,3,pE (R i)⟩)
    (h35:au hp (s 35)=some ⟨157,3,[[.emp,.emp,i64 0]]⟩) (h36:au hp (s 36)=some ⟨157,3,[[.lsl (s 1) 0 n (some n) 1,x,i64 n]]⟩) (hx:(L=[]/\x= .emp)\/(L≠[]/\x= .lsl (s 37) 0 L.length none 1/\au hp (s 37)=some ⟨3,1,lvE L⟩))
    (hF:Shr ⟨40,s⟩ (au hp) (au (rwH 61 42 R n (sx1 n L)))->CvF ⟨40,s⟩ (au hp) (au (rwH 61 42 R n (sx1 n L))) fr fr'):SEnt ⟨fr,hp,nx,N⟩ ⟨fr',rwH 61 42 R n (sx1 n L),40,N⟩:=by
 refine SEntT.ent (SEntT.rw s hn s0 hinj h1 hr cS (λi B h=>?_) (λhs i B g h b=>?_) hF);rcases List.mem_cons.1 h with h|h
 cases h;exact⟨_,h35,rfl,rfl,rfl⟩;rcases List.mem_cons.1 h with h|h
 cases h;exact⟨_,h36,rfl,rfl,rfl⟩;rcases hx with⟨rfl,_⟩|⟨d,_,a⟩
 cases h;cases L with
 |nil=>exact absurd rfl d
 |cons l L=>cases List.mem_singleton.1 h;exact⟨_,a,rfl,rfl,rfl⟩
 rcases List.mem_cons.1 h with h|h
 cases h;rw[h35] at b;cases b
 exact ba hs λe f c hc=>by
  rw[List.mem_singleton.1 f] at hc;exact ae dw (ae dw (ae (ak _) af)) c hc
 rcases List.mem_cons.1 h with h|h
 cases h;rw[h36] at b;cases b;refine CvLL.cons (am (Cv.sl rfl rfl ?_) (am ?_ (am (ao hs (ak _)) av))) CvLL.nil;rw[cy (cS (n:=n) (L:=L))];rfl;rcases hx with⟨rfl,rfl⟩|⟨d,rfl,a⟩
 exact ao hs dw;cases L with
 |nil=>exact absurd rfl d
 |cons l L=>exact Cv.sl rfl rfl rfl
 rcases hx with⟨rfl,_⟩|⟨d,_,a⟩
 cases h;cases L with
 |nil=>exact absurd rfl d
 |cons l L=>
  cases List.mem_singleton.1 h;rw[a] at b;cases b;exact ba hs (ff _)
end Go.Proofs.YtjmkjicckobojaaGreatDoor
