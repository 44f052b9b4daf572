/- Part Y30 of the proof. -/
import Derived.Test.YtjmkjicckobojaaGreatDoorY29
set_option linter.all false
namespace Go.Proofs.YtjmkjicckobojaaGreatDoor
open Go.Abs
set_option maxRecDepth 20000
set_option maxHeartbeats 2000000
def inQ(p:Lq)(a b:Rat):Rat:=ag (aH p) b- ag (aH p) a
structure OkIn (p:Lq)(a b:Rat):Prop where
 s:smL p
 l:p.length<=1099511627775
 e1:eg (aH p) b
 e2:eg (aH p) a
 d:qs (ag (aH p) b)+qs (ag (aH p) a)<=549755813888
theorem ri(p:Lq)(a b:Rat)(h:OkIn p a b):FS 166 [.arr (pE p),.agg (spC a b)] (.agg (qC (inQ p a b))):=by
 refine f_c Tryz.func166 ?_;refine r_z 2 ?_;refine r_c 3 (nS p h.s h.l) ?_;refine a_z ?_;refine ae (r_d ba 10 ?_);refine c_s (fg _ b h.e1) ?_;refine c_s (fg _ a h.e2) ?_;refine c_s (lC _ _ h.d) ?_;refine a_1 ?_;refine aq (n_k ?_);exact ak (c_e (aU _))
def bKe(k:Ke):AV:= .aptr [[.arr (kE k)]] 0 0
def bSp(a b:Rat):AV:= .aptr [spC a b] 0 0
theorem fK(k:Ke):Closed (bKe k):=aN (ac (a6 k) af)
theorem cY(a b:Rat):Closed (bSp a b):=aN (bh a b)
theorem ET(k:Ke)(a b:Rat)(i j:Nat)(p q:Lq×Lq)(hp:k[i]?=some p)(hq:k[j]?=some q)(hl:k.length<=1000)(hm:gQ p.2 q.1)(ho:OkIn (aG p.2 q.1) a b):
    FS 204 [i64 i,i64 j,bKe k,bSp a b] (.agg (qC (inQ (aG p.2 q.1) a b))):=by
 have e:(kE k).length=k.length:=em k;have g:i< k.length:=(jY.1 hp).1;have f:j< k.length:=(jY.1 hq).1;have d:(kE k)[((i:Nat):Int).toNat]?=some (prC p):=kR hp _ ψ;have c:(kE k)[((j:Nat):Int).toNat]?=some (prC q):=kR hq _ ψ;refine f_n Tryz.func204 ?_ ?_;exact ac (ah _) (ac (ah _) (ac (fK k) (ac (cY a b) af)));refine r_z 1 ?_;refine ae (r_d ba 14 ?_);refine a_2 ?_;refine i_x d ?_;refine a_1 ?_;refine l_1 d ?_;refine a_2 ?_;refine i_x c ?_;refine a_1 ?_;refine l_1 c ?_;refine c_s (uT p.2 q.1 hm) ?_;refine c_s (ri _ a b ho) ?_;refine a_1 ?_;refine aq (n_k ?_);exact ak (c_e (aU _))
def maK(k:Ke)(a b:Rat)(i j:Nat):Rat:=inQ (aG (k.getD i ([],[])).2 (k.getD j ([],[])).1) a b
structure OkMa (k:Ke)(a b:Rat):Prop where
 l:k.length<=8
 m:∀p∈k,∀q∈k,gQ p.2 q.1/\OkIn (aG p.2 q.1) a b
theorem ER(k:Ke)(a b:Rat)(h:OkMa k a b)(i j:Nat)(hi:i< k.length)(hj:j< k.length):FS 204 ((i64 i::i64 j::[bKe k,bSp a b]).map coe) (.agg (qC (maK k a b i j))):=by
 obtain⟨p,hp⟩:∃p,k[i]?=some p:=⟨_,eT hi⟩;obtain⟨q,c⟩:∃q,k[j]?=some q:=⟨_,eT hj⟩;have d:=h.m p (mc hp) q (mc c);have e:maK k a b i j=inQ (aG p.2 q.1) a b:=by unfold maK;rw[jH,jH,hp,c];rfl
 rw[e];exact ET k a b i j p q hp c (by have:=h.l;omega) d.1 d.2
theorem rZ(k:Ke)(a b:Rat)(h:OkMa k a b):
    XSpecT Tryz.prog 121 [.arr (kE k),.agg (spC a b)] [] 1 (.lsl 1 0 k.length (some k.length) 1) (mzH 3 61 42 (mzO 3 (λ_=>k.length) (λx=>x) k.length) (fiL (maK k a b) k.length k.length)) 40:=by
 have c:(kE k).length=k.length:=em k;have o:=h.l;have m:=(xG (maK k a b) k.length 204 [bKe k,bSp a b] ω (ac (fK k) (ac (cY a b) af)) (ER k a b h)).x;refine XSpecT.enter (t:=4) Tryz.func121 rfl ξ rfl rfl rfl rfl rfl ?_;refine r_z 3 ?_;refine AWp.ent (st':=⟨[(2,bKe k),(3,bSp a b)],[],1,9⟩) ?_ ?_;refine s_x [] (λhs=>?_) (λhs=>?_)
 ·repeat' (first|exact aV|refine aA rfl ?_ ?_|exact Cv.boxp hs rfl (aR rfl) rfl (ac (a6 k) af)|exact Cv.boxp hs rfl (aR rfl) rfl (bh a b)|exact aZ)
 ·repeat' (first|exact aF|refine h_c ?_ ?_|exact bG|refine aB ?_|exact av|refine ai ?_ ?_|exact Cv.boxp hs rfl (aR rfl) rfl (ac (a6 k) af)|exact Cv.boxp hs rfl (aR rfl) rfl (bh a b)|exact aZ)
 refine ae (AWp.regX (fr2:=[(6,i64 k.length),(7,.clos 204 [] [bKe k,bSp a b])]) (hp2:=[]) (nx2:=1) (fr3:=[]) 3 rfl rfl rfl rfl rfl rfl ?_ rfl rfl rfl m (λt x f=>by cases f) (λt x f=>by cases f) ?_);refine bZ (.load_a1 rfl rfl TG.h rfl) rfl rfl ?_;refine bZ (.len rfl rfl rfl rfl rfl te_28.h) rfl rfl ?_;refine o_0 (.makeFunc rfl rfl) ?_;refine aq ?_;refine s_y [] (λhs=>?_) (λhs=>?_)
 ·repeat' (first|exact aV|refine aA rfl ?_ ?_|exact ao hs (aX af (ac (fK k) (ac (cY a b) af)))|(refine Cv.loE hs ?_ (ah _);simp[i64,c];done)|exact aZ)
 ·repeat' (first|exact aF|refine h_c ?_ ?_|exact bG|refine aB ?_|exact av|refine ai ?_ ?_|exact ao hs (aX af (ac (fK k) (ac (cY a b) af)))|(refine Cv.loE hs ?_ (ah _);simp[i64,c];done)|exact aZ)
 refine o_0 (.assign rfl) ?_;refine aq ?_;refine ak (FinXT.of (SEntT.mz (λx=>x) _ _ _ χ rfl (λi j _ _ _ _ e=>e) rfl rfl ?_ ?_ ?_));intro n e d;obtain⟨g,rfl⟩:=nY d;exact⟨dq (fh g),aK _⟩;exact λhs=>og ω λn d=>by rw[dq (fh d)];rfl
 exact λhs=>aA rfl (Cv.sl rfl rfl rfl) aV
def mE(k:Lw):Lc:=k.map λe=>[.arr (pE e)]
@[simp] theorem HZ (k:Lw):(mE k).length=k.length:=by simp[mE]
theorem cI(k:Lw):∀x∈mE k,∀c∈x,Closed c:=λx a=>by
 obtain⟨p,_,rfl⟩:=sd.1 a;exact ac (aw _) af
theorem closed_mA(k:Lw):Closed (.arr (mE k)):=aP (cI k)
theorem jZ{k:Lw}{i:Nat}{p:Lq}(h:k[i]?=some p):∀e,e=i->(mE k)[e]?=some [.arr (pE p)]:=λe a=>by
 rw[a,mE,wS,h];rfl
def imS(k:Lw)(g:Nat)(cap:La):Nat->AState
 |i=>⟨[(0,.arr (mE k)),(1,.clos g [] cap),(7,i64 k.length),(8,i64 i)],[],1,19⟩
theorem yq(k:Lw)(g:Nat)(cap:La)(t:Lq->Bool)(hcap:∀c∈cap,Closed c)(hl:k.length<=1099511627776)(hg:∀p∈k,FS g ((.arr (pE p)::cap).map coe) (bln (t p))):FS 199 [.arr (mE k),.clos g [] cap] (i64 (kT t k 0)):=by
 have hcc:Closed (.clos g [] cap):=aX af hcap;have j:(mE k).length=k.length:=HZ k;refine f_c Tryz.func199 ?_;obtain⟨R,h⟩:∃R,R=kT t k 0:=⟨_,rfl⟩;rw[<-h];refine r_z 1 ?_;refine ae (r_z 3 ?_);refine aJ (λ_:Unit=>⟨[],[],1,19⟩) (λ_=>R= -1) ?_ ?_;refine aj (aC (imS k g cap) (λi=>k.length- i) (λi=>i<=k.length/\kT t (k.drop i) i=R) 0 ⟨mN _,by rw[h];rfl⟩ ?_ ?_);simp only[imS.eq_1];exact s_x [] (λhs=>e_49) (λhs=>e_50);rintro i ⟨l,a⟩;rw[imS.eq_1];by_cases hlt:i< k.length;refine q_z 1 ?_;refine ae (cT (an ?_));obtain⟨p,hp⟩:∃p,k[i]?=some p:=⟨_,eT hlt⟩;have b:(mE k)[((i:Nat):Int).toNat]?=some [.arr (pE p)]:=jZ hp _ ψ;rw[AJ hp,kT] at a;refine ae (aj (r_z 2 ?_));refine s_r 6 ?_;refine a_3 ?_;refine i_x b ?_;refine l_1 b ?_;refine c_s (hg p (mc hp)) ?_;refine aq ?_;refine au rfl (λf=>?_) (λf=>?_);have e:t p=true:=f;rw[if_pos e] at a;refine r_z 2 ?_;refine ak (a7 rfl ?_ ?_);rw[<-a];exact ah _;have e:¬t p=true:=by rw[show t p=false from f];decide
 rw[if_neg e] at a;refine an (r_m 2 ?_);refine a_z ?_;refine⟨i+1,ω,⟨hlt,a⟩,?_⟩;simp only[imS.eq_1];exact s_x [] (λhs=>e_49) (λhs=>e_50);have d:i=k.length:=ω
 subst d;refine q_z 1 ?_;refine ae (cF ?_);rw[DJ] at a;refine ay ⟨(),a.symm,?_⟩;exact s_e [];rintro _ a;refine r_z 1 ?_;refine ak (a7 rfl ?_ ?_);rw[a];rfl;exact ah _
theorem Aq(k:Lw)(g:Nat)(cap:La)(t:Lq->Bool)(hcap:∀c∈cap,Closed c)(hl:k.length<=1099511627776)(hg:∀p∈k,FS g ((.arr (pE p)::cap).map coe) (bln (t p)))(hcap2:cap.map coe=cap):FS 167 [.arr (mE k),.clos g [] cap] (bln (k.any t)):=by
 have a:Closed (.clos g [] cap):=aX af hcap;have e:=qN t k 0 (N5 0);have b:=yq k g cap t hcap hl hg;refine f_c Tryz.func167 ?_;refine r_z 1 ?_;refine r_c 5 (b) ?_;refine a_z ?_;refine ak (a7 rfl ?_ ?_);rw[<-e];rfl;exact ah _
theorem EL(e:Lq)(c:Nat)(x:Rat)(hx:e[c]?=some x):FS 200 [.arr (pE e),.aptr [[i64 c]] 0 0] (bln (decide (x≠0))):=by
 have b:c< e.length:=(jY.1 hx).1;have d:(pE e).length=e.length:=by simp[pE]
 have a:(pE e)[((c:Nat):Int).toNat]?=some (qC x):=by simp[pE,hx]
 refine f_c Tryz.func200 ?_;refine r_z 1 ?_;refine s_r 7 ?_;refine a_2 ?_;refine i_x a ?_;refine l_x a ?_;refine c_s (cX x) ?_;refine a_z ?_;refine ak (a7 rfl ?_ ?_);rw[show decide (x≠0)=decide (sgZ x.num≠0) from decide_eq_decide.2 (not_congr sgZ_num_eq.symm)]
 first|rfl|(congr 1;cases hb:decide (sgZ x.num=0) with|true=>(have:=of_decide_eq_true hb;simp[this])|false=>(have:=of_decide_eq_false hb;simp[bln,bne,this]))
 exact ah _
def syX(rows leads:AV)(n:Int):Hp:=[(35,some ⟨157,3,[[rows,leads,i64 n]]⟩)]
theorem syX_id{rows leads:AV}{n:Int}:∀p∈syX rows leads n,35<=p.1/\p.1< 40:=λp hp=>by rw[kI.1 hp];exact⟨(show 35<=35 by decide),(show 35< 40 by decide)⟩
def sx0:Hp:=syX .emp .emp 0
theorem eI:∀p∈sx0,35<=p.1/\p.1< 40:=syX_id
theorem D3 {fr fr':Fr} {hp:Hp} {nx N n:Nat} {R:Nat->Lq} (s:Nat->Nat) (hn:n<=30) (s0:s 0=0) (hinj:∀i j,InX n i->InX n j->s i=s j->i=j) (h1:ap hp (s 1)=some ⟨61,1,rwO R s n⟩) (hr:∀i,i< n->ap hp (s (i+2))=some ⟨42,3,pE (R i)⟩) (h35:ap hp (s 35)=some ⟨157,3,[[.emp,.emp,i64 0]]⟩)
    (hF:Shr ⟨40,s⟩ (ap hp) (ap (rwH 61 42 R n sx0))->CvF ⟨40,s⟩ (ap hp) (ap (rwH 61 42 R n sx0)) fr fr'):SEnt ⟨fr,hp,nx,N⟩ ⟨fr',rwH 61 42 R n sx0,40,N⟩:=
 SEntT.ent (SEntT.rw s hn s0 hinj h1 hr eI (λi B h=>by
  cases kI.1 h;exact⟨_,h35,rfl,rfl,rfl⟩) (λhs i B d h a=>by
  cases kI.1 h;have a:ap hp (s 35)=some d:=a;rw[h35] at a;cases a
  exact bv hs λe f c b=>by
   rw[kI.1 f] at b;exact ac dy (ac dy (ac (ah _) af)) c b) hF)
theorem ou {fr fr':Fr} {hp:Hp} {nx N n:Nat} {R:Nat->Lq} (hn:n<=30) (h1:ap hp 1=some ⟨61,1,rwO R (λx=>x) n⟩) (hr:∀i,i< n->ap hp (i+2)=some ⟨42,3,pE (R i)⟩) (h35:ap hp 35=some ⟨157,3,[[.emp,.emp,i64 0]]⟩)
    (hF:Shr ⟨40,λx=>x⟩ (ap hp) (ap (rwH 61 42 R n sx0))->CvF ⟨40,λx=>x⟩ (ap hp) (ap (rwH 61 42 R n sx0)) fr fr'):SEnt ⟨fr,hp,nx,N⟩ ⟨fr',rwH 61 42 R n sx0,40,N⟩:=
 D3 (λx=>x) hn rfl (λ_ _ _ _ e=>e) h1 hr h35 hF
theorem LG{i new x:Nat}(h:x≠i+2):fiR i new x=x:=by
 unfold fiR;rw[show Nat.beq x (i+2)=false by cases hb:Nat.beq x (i+2) with|false=>rfl|true=>exact absurd (Nb hb) h];rfl
theorem tT{n i:Nat}(hn:n<=30)(h:InX n i):i< 40:=by unfold InX at h;omega
theorem DR{r:Ren}{hp hp':Hq}{fr fr':Fr}{l:Rat}{b:Lq}(hs:Shr r hp hp')(h:CvF r hp hp' fr fr':=by repeat' (first|exact aV|refine aA rfl ?_ ?_|exact ao hs (aw b)|exact ao hs (cO l)|exact ao hs (ah _)|exact Cv.sl rfl rfl rfl|exact Cv.ptr rfl rfl rfl|exact Cv.ptr rfl (by assumption) rfl|(refine Cv.loE hs ?_ (ah _);simp[i64];done))):CvF r hp hp' fr fr':=h
def svO(A:Nat->Nat->Rat)(l:Rat)(b:Lq)(n:Nat):Nat->AState
 |i=>⟨[(0,.lsl 1 0 n (some n) 1),(2,.arr (pE b)),(4,bQ l),(6,.lptr 35 0 0),(7,i64 n),(22,i64 n),(23,i64 i)],rwH 61 42 (ph1 A l (λt=>coP b t) n i) n sx0,40,209⟩
def svI(A:Nat->Nat->Rat)(l:Rat)(b:Lq)(n i:Nat):Nat->AState
 |j=>⟨[(0,.lsl 1 0 n (some n) 1),(2,.arr (pE b)),(4,bQ l),(6,.lptr 35 0 0),(7,i64 n),(8,i64 i),(22,i64 n),(23,i64 i),(30,i64 n),(31,i64 j)],rwH 61 42 (upR (ph1 A l (λt=>coP b t) n i) i (mxr A l n i j)) n sx0,40,209⟩
noncomputable def svRest:Code:=match Tryz.f113.body with|some (.seq _ (.seq _ (.seq _ y)))=>y|_=> .skip
theorem mzO_rwO(A:Nat->Nat->Rat)(n:Nat){s:Nat->Nat}(h:∀k,k< n->s (k+2)=k+2):mzO 3 (λ_=>n) (λx=>x) n=rwO (λk=>aI n (A k)) s n:=by
 refine DE λk=>?_;by_cases hk:k< n;rw[zV hk,eB hk k rfl,h k hk,fY];rw[rwO_out ω,zt χ]
theorem sv_rows (A:Nat->Nat->Rat) (l:Rat) (b:Lq) (n:Nat) (hn:n<=25) (hb:b.length=n) (r:AV)
    (hm:∀i j:Nat,i< n->j< n->qs (A i j)+qs l<=549755813888) (ha:∀i:Nat,i< n->qs (-(A i i* l))+1<=549755813887)
    (hrest:AWp none Tryz.prog svRest (Fin Tryz.prog Tryz.f113.results.toList r) ⟨[(0,.lsl 1 0 n (some n) 1),(6,.lptr 35 0 0),(7,i64 n)],rwH 61 42 (λk=>aI (n+1) (svM A l (λt=>coP b t) n k)) n sx0,40,209⟩):
    XSpec Tryz.prog 113 [.lsl 1 0 n (some n) 1,.agg (qC l),.arr (pE b)] (mzH 3 61 42 (mzO 3 (λ_=>n) (λx=>x) n) (fiL A n n)) 40 r [] 1:=by
 refine XSpec.enterC Tryz.func113 rfl ξ rfl rfl rfl rfl ?_;refine r_z 2 ?_;refine AWp.ent (st':=⟨[(0,.lsl 1 0 n (some n) 1),(2,.arr (pE b)),(4,bQ l),(6,.lptr 35 0 0)],rwH 61 42 (λk=>aI n (A k)) n sx0,40,209⟩) ?_ ?_;refine D3 (fiR 33 41) ω (CM _ _) (λx y K G e=>ru (m:=40) (ir _) δ x y (tT ω K) (tT ω G) e) ?_ ?_ rfl ?_;rw[CL,<-mzO_rwO A n (s:=fiR 33 41) λk a=>jD ω];rfl
 ·intro k a
  rw[jD ω]
  repeat rw[bR ω]
  exact dq (fh a)
 intro hs
 have Q:ux ⟨40,fiR 33 41⟩ (ap (rwH 61 42 (λk=>aI n (A k)) n sx0)) 40:=λj B O e=>by
  obtain⟨U⟩:=hs;have V:j< 40:=(U j B O).1;have e:fiR 33 41 j=40:=e;unfold fiR at e;cases hb:Nat.beq j (33+2)<;> rw[hb] at e <;> simp only[cond_true,cond_false] at e <;> omega
 exact aA rfl (Cv.sl rfl rfl rfl) (aA rfl (ao hs (aw b)) (aA rfl (Cv.boxp hs rfl Q rfl (bi l)) (aA rfl (Cv.ptr rfl rfl rfl) aV)));refine r_z 3 ?_;refine ae (r_z 3 ?_);refine aJ (λ_:Unit=>⟨[(0,.lsl 1 0 n (some n) 1),(6,.lptr 35 0 0),(7,i64 n)],rwH 61 42 (λk=>aI (n+1) (svM A l (λt=>coP b t) n k)) n sx0,40,209⟩) (λ_=>True) ?_ ?_
 ·refine aj (aC (svO A l b n) (λi=>n- i) (λi=>i<=n) 0 (mN _) ?_ ?_)
  rw[svO.eq_1,ph1_0];exact ou ω (cM eI) (λi q=>dP eI ω q) rfl λhs=>DR (l:=l) (b:=b) hs;intro i q;rw[svO.eq_1];by_cases hlt:i< n;rotate_left;have f:i=n:=ω
  subst f;refine q_z 1 ?_;refine ae (cF (ay ⟨(),trivial,?_⟩));refine ou ω ?_ ?_ rfl λhs=>DR (l:=l) (b:=b) hs;rw[cM eI,gE (R':=λk=>aI (i+1) (svM A l (λt=>coP b t) i k)) (s':=λx=>x)];intro k a;exact⟨by rw[ph1_n a],rfl⟩;intro k a;rw[dP eI ω a,ph1_n a];refine q_z 1 ?_;refine ae (cT (an (ae (aj (r_z 2 ?_)))));have o:(ph1 A l (λt=>coP b t) n i i).length=n:=by rw[J5];simp
  have H:∀e,e=i->(rwO (ph1 A l (λt=>coP b t) n i) (λx=>x) n)[e]?=some [.lsl (i+2) 0 n none 3]:=λe g=>by rw[eB hlt e g,o]
  refine ae (s_r 6 ?_);refine a_3 ?_;refine o_0 (.load_l1 rfl (ez (cM eI) (show(1:Nat)≠0 by decide)) (H _ ω) TG.h rfl) ?_;refine a_z ?_;refine aJ (λ_:Unit=>svI A l b n i n) (λ_=>True) ?_ ?_
  ·refine aj (aC (svI A l b n i) (λj=>n- j) (λj=>j<=n) 0 (mN _) ?_ ?_)
   rw[svI.eq_1,<-J5 A l (λt=>coP b t),upR_id];exact ou ω (cM eI) (λi q=>dP eI ω q) rfl λhs=>DR (l:=l) (b:=b) hs;intro j O;rw[svI.eq_1];by_cases hjn:j< n;rotate_left;have f:j=n:=ω
   subst f;refine q_z 1 ?_;refine ae (cF (ay ⟨(),trivial,?_⟩));exact ou ω (cM eI) (λi q=>dP eI ω q) rfl λhs=>DR (l:=l) (b:=b) hs;have F:=cQ (A i j) l (hm i j hlt hjn);have E:=iP (A i j* l);have c:=kL (TS:=61) (TQ:=42) (R:=upR (ph1 A l (λt=>coP b t) n i) i (mxr A l n i j)) eI (by omega:n<=30) hlt;rw[eV] at c;have d:∀e,e=i->(rwO (upR (ph1 A l (λt=>coP b t) n i) i (mxr A l n i j)) (λx=>x) n)[e]?=some [.lsl (i+2) 0 n none 3]:=λe g=>by rw[eB hlt e g,eV,wh]
   have w:=ez (cM (TS:=61) (TQ:=42) (n:=n) (R:=upR (ph1 A l (λt=>coP b t) n i) i (mxr A l n i j)) eI) (show(1:Nat)≠0 by decide);refine q_z 1 ?_;refine ae (cT (an (ae (aj (r_z 2 ?_)))));refine r_d ba 17 ?_;refine a_3 ?_;refine o_0 (.load_l1 rfl w (d _ ω) TG.h rfl) ?_;refine a_4 ?_;refine o_0 (.load_l1 rfl w (d _ ω) TG.h rfl) ?_;refine a_2 ?_;refine o_0 (.load_l rfl c (GB hjn _ ω) TG.h TS.h (nle rfl)) ?_;refine c_s (F) ?_;refine c_s (E) ?_;refine a_1 ?_;refine eK (.store rfl c (GB hjn _ ω) rfl rfl rfl TS.h (nle rfl)) ?_;refine aq (n_k ?_);refine r_m 2 ?_;refine a_z ?_;refine⟨j+1,ω,ω,?_⟩;rw[svI.eq_1];refine ou ω ?_ ?_ ?_ λhs=>DR (l:=l) (b:=b) hs;rw[bR ω,cM eI,gE (R':=upR (ph1 A l (λt=>coP b t) n i) i (mxr A l n i (j+1))) (s':=λx=>x)];intro k a;by_cases h:k=i;subst h;rw[eV,eV];simp;rw[lm _ _ h,lm _ _ h];simp;intro k a;by_cases h:k=i;subst h;rw[eV,<-mxr_set hjn (0+((j:Nat):Int).toNat) ω,dw,bq];rfl;rw[bR ω,dP eI ω a,lm _ _ h,lm _ _ h];rw[bR ω];rfl
  rintro _ _;show AWp _ _ _ _ (svI A l b n i n);rw[svI.eq_1];have c:=kL (TS:=61) (TQ:=42) (R:=upR (ph1 A l (λt=>coP b t) n i) i (mxr A l n i n)) eI (by omega:n<=30) hlt;rw[eV] at c;have d:∀e,e=i->(rwO (upR (ph1 A l (λt=>coP b t) n i) i (mxr A l n i n)) (λx=>x) n)[e]?=some [.lsl (i+2) 0 n none 3]:=λe g=>by rw[eB hlt e g,eV,wh]
  have w:=ez (cM (TS:=61) (TQ:=42) (n:=n) (R:=upR (ph1 A l (λt=>coP b t) n i) i (mxr A l n i n)) eI) (show(1:Nat)≠0 by decide);have D:=dM 1 δ;have S:qs 1<=1:=δ
  have M:=eS (-(A i i* l)) 1 (by have:=ha i hlt;omega);refine ae (r_d ba 16 ?_);refine a_3 ?_;refine o_0 (.load_l1 rfl w (d _ ω) TG.h rfl) ?_;refine a_4 ?_;refine o_0 (.load_l1 rfl w (d _ ω) TG.h rfl) ?_;refine a_2 ?_;refine o_0 (.load_l rfl c (BZ hlt _ ω) TG.h TS.h (nle rfl)) ?_;refine c_s (D) ?_;refine c_s (M) ?_;refine a_1 ?_;refine eK (.store rfl c (BZ hlt _ ω) rfl rfl rfl TS.h (nle rfl)) ?_;refine aq (n_k ?_);refine AWp.ent (st':=⟨[(0,.lsl 1 0 n (some n) 1),(2,.arr (pE b)),(4,bQ l),(6,.lptr 35 0 0),(7,i64 n),(8,i64 i),(22,i64 n),(23,i64 i)],rwH 61 42 (upR (ph1 A l (λt=>coP b t) n i) i (dgr A l n i)) n sx0,40,209⟩) ?_ ?_;refine ou ω ?_ ?_ ?_ λhs=>DR (l:=l) (b:=b) hs;rw[bR ω,cM eI,gE (R':=upR (ph1 A l (λt=>coP b t) n i) i (dgr A l n i)) (s':=λx=>x)];intro k a;by_cases h:k=i;subst h;rw[eV,eV];simp;rw[lm _ _ h,lm _ _ h];simp;intro k a;by_cases h:k=i;subst h;rw[eV,<-mxr_one hlt (0+((k:Nat):Int).toNat) ω,dw,bq];rfl;rw[bR ω,dP eI ω a,lm _ _ h,lm _ _ h];rw[bR ω];rfl
  have u:∀(k:Nat) (B:Option ABlk),k≠i+2->dS (ap ((k,B)::rwH 61 42 (upR (ph1 A l (λt=>coP b t) n i) i (dgr A l n i)) n sx0)) (i+2)=some ⟨42,3,pE (dgr A l n i)⟩:=λk B a=>ez (by
   have:=dP (TS:=61) (TQ:=42) (R:=upR (ph1 A l (λt=>coP b t) n i) i (dgr A l n i)) eI (by omega:n<=30) hlt;rw[eV] at this;rw[bR a];exact this) (show(3:Nat)≠0 by decide)
  have v:∀e,e=i->(rwO (upR (ph1 A l (λt=>coP b t) n i) i (dgr A l n i)) (λx=>x) n)[e]?=some [.lsl (i+2) 0 n none 3]:=λe g=>by rw[eB hlt e g,eV,Fj]
  have L:=ez (cM (TS:=61) (TQ:=42) (n:=n) (R:=upR (ph1 A l (λt=>coP b t) n i) i (dgr A l n i)) eI) (show(1:Nat)≠0 by decide);have T:(pE b).length=n:=by simp[pE,hb]
  have z:(pE b)[((i:Nat):Int).toNat]?=some (qC (coP b i)):=by
   have:=cm (p:=b) (i:=i) ω;simp[pE,this]
  have J:(pE (dgr A l n i)).length=n:=by simp[pE]
  have C:(50:Nat)≠i+2:=ω
  refine r_d ba 14 ?_;refine a_5 ?_;refine o_0 (.load_l1 rfl L (v _ ω) TG.h rfl) ?_;refine a_2 ?_;refine i_x z ?_;refine l_x z ?_;refine a_1 ?_;refine o_2 (.append_l rfl rfl rfl te_61.h rfl rfl (u 50 _ C) rfl rfl J (eR _) (by rfl) rfl (.lsl rfl (nle rfl)) TZ.h rfl TB.h (by first|rfl|assumption|(simp;done)|(simp;omega)|omega) μ) ?_;refine a_1 ?_;refine eK (.store rfl rfl (v _ ω) rfl rfl rfl TS.h (nle rfl)) ?_;refine aq (n_k ?_);refine r_m 2 ?_;refine a_z ?_;refine⟨i+1,ω,ω,?_⟩;rw[svO.eq_1,<-J4,<-upR_up (ph1 A l (λt=>coP b t) n i) i (dgr A l n i) (aI (n+1) (svM A l (λt=>coP b t) n i))];have N:fiR i 51 35=35:=LG ω;refine D3 (fiR i 51) ω (CM _ _) (λx y K G e=>ru (m:=40) (ir _) δ x y (tT ω K) (tT ω G) e) ?_ ?_ ?_ λhs=>DR (l:=l) (b:=b) hs;rw[CL,<-JB (new:=51) (m:=n+1) hlt ψ (0+((i:Nat):Int).toNat) ω];rfl;intro k a;by_cases h:k=i;subst h;rw[eV,oM,<-dgr_app,ki];rfl
  ·rw[jD h,lm _ _ h]
   repeat rw[bR ω]
   exact dP eI ω a
  ·rw[LG ω]
   repeat rw[bR ω]
   rfl
 rintro _ _;exact hrest
theorem JC(R:Nat->Lq)(n:Nat):(rwL R n).map (λe=>([.arr e]:La))=mE ((List.range n).map R):=by simp[rwL,mE]
theorem GJ(k:Lw)(a:Nat):(mE k).drop a=mE (k.drop a):=by simp[mE,List.map_drop]
def rwI(n:Nat):Ln:=1::(List.range n).map (· +2)
theorem MP{r:Ren}{hp hp':Hq}{cap:Option Nat}{TS TQ a m n:Nat}{R:Nat->Lq}(hh:∀i∈rwI n,hp' i=hp i)(h1:hp 1=some ⟨TS,1,rwO R (λx=>x) n⟩)(hr:∀i,i< n->hp (i+2)=some ⟨TQ,3,pE (R i)⟩)(ham:a+m=n):
    Cv r hp' (λ_=>none) (.lsl 1 a m cap 1) (.arr (mE (((List.range n).map R).drop a))):=by
 have e:mE (((List.range n).map R).drop a)=(((rwL R n).map λe=>([.arr e]:La)).drop a).take m:=by
  rw[JC,GJ,nk χ]
 rw[e];have f:(rwL R n).length=n:=pk R n;refine Cv.mzV (sz:=3) (TS:=TS) (TQ:=TQ) (w:=λk=>(R k).length) δ ?_ (λi x b=>?_) (λi x b=>by rw[(D4 b).2];simp[pE]) (λx b y g c h=>?_) (by rw[f];omega);rw[hh 1 (mu ..),h1,f];rfl;obtain⟨d,rfl⟩:=D4 b;rw[hh (i+2) (lQ _ (sd.2 ⟨i,xd.2 d,rfl⟩)),hr i d];obtain⟨k,_,rfl⟩:=sd.1 b;exact aK _ y g c h
theorem fs_lead(R:Nat->Lq)(n r c:Nat)(hn:n<=1000)(hl:∀i,i< n->c< (R i).length):
    FS 199 [.arr (mE (((List.range n).map R).drop r)),.clos 200 [] [.aptr [[i64 c]] 0 0]] (i64 (kT (λe:Lq=>decide (coP e c≠0)) (((List.range n).map R).drop r) 0)):=
 yq _ 200 [.aptr [[i64 c]] 0 0] _ (ac (aN (ac (ah _) af)) af) χ λe a=>by
  obtain⟨i,b,rfl⟩:=sd.1 (Hc a);exact EL _ c _ (cm (hl i (xd.1 b)))
theorem yi{α:Type}(t:α->Bool):∀(l:List α) (k:Int),(∀x∈l,t x=false)->kT t l k= -1
 |[],_,_=>rfl
 |a::l,k,h=>by
  rw[kT,if_neg (by rw[h a (mu ..)];decide)];exact yi t l _ λx b=>h x (lQ _ b)
theorem GS{α:Type}(t:α->Bool):∀(l:List α) (k:Int) (j:Nat) (x:α),l[j]?=some x->t x=true->(∀i y,i< j->l[i]?=some y->t y=false)->kT t l k=k+j
 |[],_,_,_,h,_,_=>by cases h
 |a::l,k,0,x,h,h2,_=>by
  cases h;rw[kT,if_pos h2];simp
 |a::l,k,j+1,x,h,h2,h3=>by
  rw[kT,if_neg (by rw[h3 0 a ω rfl];decide),GS t l (k+1) j x (by simpa using h) h2 λi y c b=>h3 (i+1) y ω (by simpa using b)];omega
theorem zk{M:Mx}{n r i:Nat}(h:r+i< n):(((List.range n).map λk=>aI (n+1) (M k)).drop r)[i]?=some (aI (n+1) (M (r+i))):=by
 rw[OU];simp[h]
theorem wY{n c:Nat}{f:Nat->Rat}(h:c<=n):coP (aI (n+1) f) c=f c:=by
 unfold coP aI;rw[jH];simp[show c< n+1 by omega]
theorem idx_pv(M:Mx)(n r c:Nat)(hr:r<=n)(hc:c<=n):kT (λe:Lq=>decide (coP e c≠0)) (((List.range n).map λk=>aI (n+1) (M k)).drop r) 0=match pvR M n r c with|some p=>((p- r:Nat):Int)|none=> -1:=by
 cases e:pvR M n r c with
 |none=>
  refine yi _ _ _ λx l=>?_;obtain⟨i,d⟩:=OF.1 l
  have b:r+i< n:=by
   have:=(jY.1 d).1;simp at this;omega
  rw[zk b] at d;cases d;rw[wY hc,BJ e (r+i) b ω];decide
 |some p=>
  obtain⟨p1,p2,j⟩:=ny e
  have a:∀q,q< p->r<=q->M q c=0:=λq h g=>by
   have e2:=e;unfold pvR at e2;rw[List.find?_range_eq_some] at e2;have:=e2.2.2 q h;simp at this;exact this.resolve_left ω
  rw[GS _ _ 0 (p- r) (aI (n+1) (M p)) (by rw[zk ω,show r+(p- r)=p by omega]) (by rw[wY hc];exact decide_eq_true j) λi y d f=>?_];simp;rw[zk ω] at f;cases f;rw[wY hc,a (r+i) ω ω];decide
def lvE(L:Ln):Lc:=L.map fun(l:Nat)=>[i64 (l:Int)]
@[simp] theorem jm (L:Ln):(lvE L).length=L.length:=by simp[lvE]
theorem dp(L:Ln):∀e∈lvE L,∀c∈e,Closed c:=λe a=>by
 obtain⟨l,_,rfl⟩:=sd.1 a;exact ac (ah _) af
theorem Ky(L:Ln)(c:Nat):lvE (L++[c])=lvE L++[[i64 c]]:=by simp[lvE]
def lvA:Ln->AV
 |[]=> .emp
 |l::L=> .lsl 37 0 (L.length+1) none 1
def lvB:Ln->Hp
 |[]=>[]
 |l::L=>[(37,some ⟨3,1,lvE (l::L)⟩)]
def sx1(n:Nat)(L:Ln):Hp:=(35,some ⟨157,3,[[.emp,.emp,i64 0]]⟩)::(36,some ⟨157,3,[[.lsl 1 0 n (some n) 1,lvA L,i64 n]]⟩)::lvB L
theorem cU{n:Nat}{L:Ln}:∀p∈sx1 n L,35<=p.1/\p.1< 40:=λp hp=>by
 rcases pY.1 hp with rfl|hp
 exact⟨(show 35<=35 by decide),(show 35< 40 by decide)⟩;rcases pY.1 hp with rfl|hp
 exact⟨(show 35<=36 by decide),(show 36< 40 by decide)⟩;cases L with
 |nil=>cases hp
 |cons l L=>rw[kI.1 hp];exact⟨(show 35<=37 by decide),(show 37< 40 by decide)⟩
theorem j5 {fr fr':Fr} {hp:Hp} {nx N n:Nat} {R:Nat->Lq} {L:Ln} {x:AV} (s:Nat->Nat) (hn:n<=30) (s0:s 0=0) (hinj:∀i j,InX n i->InX n j->s i=s j->i=j) (h1:ap hp (s 1)=some ⟨61,1,rwO R s n⟩) (hr:∀i,i< n->ap hp (s (i+2))=some ⟨42,3,pE (R i)⟩)
    (h35:ap hp (s 35)=some ⟨157,3,[[.emp,.emp,i64 0]]⟩) (h36:ap hp (s 36)=some ⟨157,3,[[.lsl (s 1) 0 n (some n) 1,x,i64 n]]⟩) (hx:(L=[]/\x= .emp)\/(L≠[]/\x= .lsl (s 37) 0 L.length none 1/\ap hp (s 37)=some ⟨3,1,lvE L⟩))
    (hF:Shr ⟨40,s⟩ (ap hp) (ap (rwH 61 42 R n (sx1 n L)))->CvF ⟨40,s⟩ (ap hp) (ap (rwH 61 42 R n (sx1 n L))) fr fr'):SEnt ⟨fr,hp,nx,N⟩ ⟨fr',rwH 61 42 R n (sx1 n L),40,N⟩:=by
 refine SEntT.ent (SEntT.rw s hn s0 hinj h1 hr cU (λi B h=>?_) (λhs i B k h b=>?_) hF);rcases pY.1 h with h|h
 cases h;exact⟨_,h35,rfl,rfl,rfl⟩;rcases pY.1 h with h|h
 cases h;exact⟨_,h36,rfl,rfl,rfl⟩;rcases hx with⟨rfl,_⟩|⟨d,_,a⟩
 cases h;cases L with
 |nil=>exact absurd rfl d
 |cons l L=>cases kI.1 h;exact⟨_,a,rfl,rfl,rfl⟩
 rcases pY.1 h with h|h
 cases h;rw[h35] at b;cases b
 exact bv hs λe g c f=>by
  rw[kI.1 g] at f;exact ac dy (ac dy (ac (ah _) af)) c f
 rcases pY.1 h with h|h
 cases h;rw[h36] at b;cases b;refine CvLL.cons (ai (Cv.sl rfl rfl ?_) (ai ?_ (ai (ao hs (ah _)) av))) CvLL.nil;rw[cM (cU (n:=n) (L:=L))];rfl;rcases hx with⟨rfl,rfl⟩|⟨d,rfl,a⟩
 exact ao hs dy;cases L with
 |nil=>exact absurd rfl d
 |cons l L=>exact Cv.sl rfl rfl rfl
 rcases hx with⟨rfl,_⟩|⟨d,_,a⟩
 cases h;cases L with
 |nil=>exact absurd rfl d
 |cons l L=>
  cases kI.1 h;rw[a] at b;cases b;exact bv hs (dp _)
end Go.Proofs.YtjmkjicckobojaaGreatDoor
