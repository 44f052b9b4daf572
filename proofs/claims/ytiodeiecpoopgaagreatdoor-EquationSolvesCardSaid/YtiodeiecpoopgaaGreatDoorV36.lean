/- Part V36. -/
import Derived.Test.YtiodeiecpoopgaaGreatDoorV35
set_option linter.all false
namespace Go.Proofs.YtiodeiecpoopgaaGreatDoor
open Go.Abs
set_option maxRecDepth 20000
set_option maxHeartbeats 4000000
def mxI(m:Int)(k:Ke):Int:=k.foldl (fun m p=>if a8 p.1> m then a8 p.1 else m) m
theorem I0(m:Int)(k:Ke)(p:Lq×Lq):mxI m (k++[p])=if a8 p.1> mxI m k then a8 p.1 else mxI m k:=by simp[mxI,List.foldl_append]
theorem yL:∀(k:Ke) (m:Int),m<=mxI m k/\∀p∈k,a8 p.1<=mxI m k
 |[],m=>⟨Int.le_refl _,fun p hp=>by cases hp⟩
 |q::k,m=>by
  obtain⟨b,a⟩:=yL k (if a8 q.1> m then a8 q.1 else m);have e:mxI m (q::k)=mxI (if a8 q.1> m then a8 q.1 else m) k:=rfl;have c:m<=(if a8 q.1> m then a8 q.1 else m)/\a8 q.1<=(if a8 q.1> m then a8 q.1 else m):=by split <;> omega
  rw[e];refine⟨by omega,fun p hp=>?_⟩;rcases List.mem_cons.1 hp with rfl|h
  omega;exact a p h
theorem I1{N:Int}:∀(k:Ke) (m:Int),m<=N->(∀p∈k,a8 p.1<=N)->mxI m k<=N
 |[],m,h,_=>h
 |q::k,m,h,h2=>by
  have e:mxI m (q::k)=mxI (if a8 q.1> m then a8 q.1 else m) k:=rfl;rw[e];exact I1 k _ (by have:=h2 q (List.mem_cons_self ..);split <;> omega) fun p hp=>h2 p (List.mem_cons_of_mem _ hp)
theorem degP_m1(p:Lq): -1<=a8 p:=by unfold a8;omega
def soN(g:Lq)(k:Ke):Nat:=(mxI (a8 g) k+1).toNat
theorem ya(g:Lq)(k:Ke):((soN g k:Nat):Int)=mxI (a8 g) k+1:=by
 have a:=(yL k (a8 g)).1;have b:=degP_m1 g;unfold soN;omega
theorem x9{g:Lq}{k:Ke}(hk:TmK k)(hg:g.length<=5):soN g k<=5:=by
 have h:=I1 (N:=4) k (a8 g) (qN g (n:=4) (by omega)) fun p hp=>by have:=qN p.1 (n:=3) (by have:=(hk.n p hp).1;omega);omega
 have:=ya g k;omega
def cuJ(k:Ke)(g:Lq)(a b l:Rat)(j:Nat):Lq:=if j< soN g k then dP (shP j [1]) (a7 (apK k (shP j [1]) a b k.length) l) else ar g
def cuM(k:Ke)(g:Lq)(a b l:Rat):Mx:=fun i j=>coP (cuJ k g a b l j) i
def bdR(M:Mx)(j i:Nat):Nat->List RQ:=fun t=>rP (aJ (if t< i then j+1 else j) (M t))
def mmN(n j i:Nat):Nat:=if j=0 then i else n
theorem Ix(n:Nat)(f:Nat->Rat):rE (rP (aJ n f))++[rC (rq (f n))]=rE (rP (aJ (n+1) f)):=by
 rw[qZ];simp[rP,rE]
theorem D9(M:Mx)(j i:Nat):∀t,bdR M j (i+1) t=upZ (bdR M j i) i (rP (aJ (j+1) (M i))) t:=fun t=>by
 unfold bdR upZ;by_cases h:t=i;subst h;rw[if_pos rfl,if_pos (by omega)];rw[if_neg h];show _=rP (aJ (if t< i then j+1 else j) (M t));by_cases h2:t< i;rw[if_pos h2,if_pos (by omega)];rw[if_neg h2,if_neg (by omega)]
theorem nO {fr fr':Fr} {hp:Hp} {nx N n m:Nat} {R:Nat->List RQ} (s:Nat->Nat) (hn:m<=30) (s0:s 0=0) (hmn:m<=n) (hinj:∀i j,InX m i->InX m j->s i=s j->i=j) (h1:an hp (s 1)=some ⟨36,1,rqO R s n m⟩) (hr:∀i,i< m->an hp (s (i+2))=some ⟨55,4,rE (R i)⟩)
    (hF:Shr ⟨40,s⟩ (an hp) (an (rqH 36 55 R n m []))->CvF ⟨40,s⟩ (an hp) (an (rqH 36 55 R n m [])) fr fr'):SEnt ⟨fr,hp,nx,N⟩ ⟨fr',rqH 36 55 R n m [],40,N⟩:=
 SEntT.ent (SEntT.rq s hn s0 hmn hinj h1 hr (fun p hp=>by cases hp) (fun i B h=>by cases h) (fun hs i B a h=>by cases h) hF)
theorem mY:∀p∈([]:Hp),35<=p.1/\p.1< 40:=fun p hp=>by cases hp
theorem rl{fr fr':Fr}{nx N n m:Nat}{R:Nat->List RQ}(hn:m<=30)(hmn:m<=n)(hF:Shr ⟨40,fun x=>x⟩ (an (rqH 36 55 R n m [])) (an (rqH 36 55 R n m []))->CvF ⟨40,fun x=>x⟩ (an (rqH 36 55 R n m [])) (an (rqH 36 55 R n m [])) fr fr'):SEnt ⟨fr,rqH 36 55 R n m [],nx,N⟩ ⟨fr',rqH 36 55 R n m [],40,N⟩:=
 nO (fun x=>x) hn rfl hmn (fun _ _ _ _ e=>e) (ez mY) (fun i a=>ew mY hn a) hF
theorem uu{r:Ren}{hp hp':Hq}{fr fr':Fr}{k:Ke}{a b l:Rat}(hs:Shr r hp hp')(h:CvF r hp hp' fr fr':=by repeat' (first|exact aI|refine au rfl ?_ ?_|exact ai hs (ag _)|exact ai hs (b5 k)|exact ai hs (aY _)|exact ai hs (aU (dl a b))|exact ai hs (iS _)|exact Cv.sl rfl rfl rfl|exact Cv.sl rfl rfl (by rw[ez mY];rfl)|exact Cv.boxp hs rfl (zF hs (by decide)) rfl (b6 _)|exact Cv.boxp hs rfl (aH rfl) rfl (b6 _)|exact Cv.boxp hs rfl (aH rfl) rfl (dl a b)|(refine Cv.loE hs ?_ (ag _);simp[i64];done))):CvF r hp hp' fr fr':=h
def smS(k:Ke)(g:Lq)(a b l:Rat):Nat->AState
 |i=>⟨[(0,.arr (keR k)),(3,.arr (rE (rP g))),(5,.aptr [rC (rq a)++rC (rq b)] 0 0),(6,bRq l),(11,i64 (mxI (a8 g) (k.take i))),(12,i64 i)],[],1,303⟩
def sjS(k:Ke)(g:Lq)(a b l:Rat)(n:Nat)(M:Mx):Nat->AState
 |j=>⟨[(0,.arr (keR k)),(3,.arr (rE (rP g))),(5,.aptr [rC (rq a)++rC (rq b)] 0 0),(6,bRq l),(11,i64 n),(13,.lsl 1 0 n (some n) 1),(14,i64 j)],rqH 36 55 (bdR M j 0) n (mmN n j 0) [],40,303⟩
def sjI(k:Ke)(g:Lq)(a b l:Rat)(n:Nat)(M:Mx)(j:Nat)(u:Lq):Nat->AState
 |i=>⟨[(0,.arr (keR k)),(3,.arr (rE (rP g))),(5,.aptr [rC (rq a)++rC (rq b)] 0 0),(6,bRq l),(11,i64 n),(13,.lsl 1 0 n (some n) 1),(14,i64 j),(15,.arr (rE (rP u))),(16,i64 i)],rqH 36 55 (bdR M j i) n (mmN n j i) [],40,303⟩
theorem uY(j:Nat)(hj:j<=4):(shP j [1]).length<=5/\bdL (shP j [1]) 20:=by
 rcases(by omega:j=0\/j=1\/j=2\/j=3\/j=4) with rfl|rfl|rfl|rfl|rfl <;> exact⟨by decide,by decide⟩
theorem cu_bd{k:Ke}{g:Lq}{a b l:Rat}(hk:TmK k)(hg:g.length<=5)(bg:bdL g 20)(qa:qs a<=20)(qb:qs b<=20)(ql:qs l<=20)(j:Nat):bdL (cuJ k g a b l j) 13000/\(cuJ k g a b l j).length<=5:=by
 unfold cuJ;split
 ·rename_i h
  have e:=x9 hk hg;obtain⟨m1,m2⟩:=uY j (by omega);obtain⟨p1,p2⟩:=tT hk (u:=shP j [1]) (by omega) m2 (by decide) (by decide) qa qb k.length (Nat.le_refl _);have d:=hk.l;have s1:=fm p1 (by omega) ql;have s2:=b8 (apK k (shP j [1]) a b k.length) l;have d1:=BW m2 s1 (by decide) (by omega);have d2:=o0 (shP j [1]) (a7 (apK k (shP j [1]) a b k.length) l);exact⟨bdL_mono' d1 (by omega),by omega⟩
 exact⟨fun q c=>Nat.le_trans (bg q (c5 c)) (by decide),Nat.le_trans (bw g) hg⟩
theorem GN(k:Ke)(g:Lq)(a b l:Rat)(hk:TmK k)(hg:g.length<=5)(bg:bdL g 20)(qa:qs a<=20)(qb:qs b<=20)(ql:qs l<=20):
    FS 16 [.arr (keR k),.agg (rC (rq a)++rC (rq b)),.agg (rC (rq l)),.arr (rE (rP g))] (soR (soN g k) (slM (cuM k g a b l) (soN g k) (soN g k)).1 (slM (cuM k g a b l) (soN g k) (soN g k)).2):=by
 have h5:=x9 hk hg;have hkl:=hk.l;have hkl2:(keR k).length=k.length:=j2 k;have cB:Closed (.aptr [rC (rq a)++rC (rq b)] 0 0):=aU (dl a b);have E:=fL (rP g) (by simp;omega);rw[c6] at E;have J:=gE (rP g) (by simp;omega);rw[oX] at J;refine f_n Tryz.func16 ?_ ?_;exact ac (b5 k) (ac (aD (dl a b)) (ac (eU _) (ac (aY _) af)));refine r_z 5 ?_;refine r_c 3 (E) ?_;refine a_z ?_;refine ae (r_z 1 ?_);refine aC (fun _:Unit=>⟨[(0,.arr (keR k)),(3,.arr (rE (rP g))),(5,.aptr [rC (rq a)++rC (rq b)] 0 0),(6,bRq l),(11,i64 (mxI (a8 g) k))],[],1,303⟩) (fun _=>True) ?_ ?_
 ·refine ah (ax (smS k g a b l) (fun i=>k.length- i) (fun i=>i<=k.length) 0 (Nat.zero_le _) ?_ ?_)
  rw[smS.eq_1];exact s_x [] (fun hs=>e_27) (fun hs=>e_28);intro i v;rw[smS.eq_1];by_cases hlt:i< k.length;rotate_left;have f:i=k.length:=by omega
  refine ae (q_z 4 ?_);refine cF (aw ⟨(),trivial,?_⟩);rw[f,List.take_length];exact s_x [] (fun hs=>e_27) (fun hs=>e_28);obtain⟨p,hp⟩:∃p,k[i]?=some p:=⟨_,List.getElem?_eq_getElem hlt⟩;have hm:=List.mem_of_getElem? hp;have F:(keR k)[((i:Nat):Int).toNat]?=some (pkR p):=yT hp _ (by simp);have A:=fL (rP p.1) (by have:=(hk.n p hm).1;simp;omega);rw[c6] at A;refine ae (q_z 4 ?_);refine cT (am (ae (ah (r_m 9 ?_))));refine a_3 ?_;refine i_x F ?_;refine bF (.fieldAddr_a rfl TF.h (by decide)) rfl rfl ?_;refine l_1 F ?_;refine c_s (A) ?_;refine a_z ?_;refine r_m 3 ?_;refine a_z ?_;refine⟨i+1,by omega,by omega,?_⟩;rw[smS.eq_1,cm hp,I0];exact s_x [] (fun hs=>e_27) (fun hs=>e_28)
 rintro _ _;obtain⟨n,Y⟩:∃n,n=soN g k:=⟨_,rfl⟩;have Z:mxI (a8 g) k+1=((n:Nat):Int):=by rw[Y,ya]
 have h5':=h5;rw[<-Y] at h5';refine r_z 3 ?_;rw[Z,<-Y];rw[<-Y] at h5;refine r_z 3 ?_;refine ae (r_z 1 ?_);obtain⟨M,hM⟩:∃M,M=cuM k g a b l:=⟨_,rfl⟩;rw[<-hM];refine aC (fun _:Unit=>⟨[(11,i64 n),(13,.lsl 1 0 n (some n) 1)],rqH 36 55 (qrw M n) n n [],40,303⟩) (fun _=>True) ?_ ?_
 ·refine ah (ax (sjS k g a b l n M) (fun j=>n+1- j) (fun j=>j<=n+1) 0 (Nat.zero_le _) ?_ ?_)
  rw[sjS.eq_1];rw[show mmN n 0 0=0 from rfl];exact nO (swx 1 5) (by decide) rfl (Nat.zero_le _) (fun x y hx hy e=>xX e) rfl (fun i v=>absurd v (Nat.not_lt_zero i)) fun hs=>uu (k:=k) (a:=a) (b:=b) (l:=l) hs;intro j T;rw[sjS.eq_1];by_cases hlt:j< n+1;rotate_left;have f:j=n+1:=by omega
  subst f;refine ae (q_z 3 ?_);refine cF (aw ⟨(),trivial,?_⟩);rw[show mmN n (n+1) 0=n from rfl,show rqH 36 55 (qrw M n) n n []=rqH 36 55 (bdR M (n+1) 0) n n [] from lb fun t _=>rfl];exact rl (by omega) (Nat.le_refl _) fun hs=>uu (k:=k) (a:=a) (b:=b) (l:=l) hs;refine ae (q_z 3 ?_);refine cT (am (ae (ah (r_c 3 (J) ?_))));refine a_z ?_;obtain⟨u,X⟩:∃u,u=cuJ k g a b l j:=⟨_,rfl⟩;have N:∀i,M i j=coP u i:=fun i=>by rw[hM,X];rfl
  obtain⟨ub,ul⟩:=cu_bd (k:=k) (g:=g) (a:=a) (b:=b) (l:=l) hk hg bg qa qb ql j;rw[<-X] at ub ul;refine a6 (fun _:Unit=>⟨[(0,.arr (keR k)),(3,.arr (rE (rP g))),(5,.aptr [rC (rq a)++rC (rq b)] 0 0),(6,bRq l),(11,i64 n),(13,.lsl 1 0 n (some n) 1),(14,i64 j),(15,.arr (rE (rP u)))],rqH 36 55 (bdR M j 0) n (mmN n j 0) [],40,303⟩) (fun _=>True) ?_ ?_;by_cases hjn:j< n;obtain⟨m1,m2⟩:=uY j (by omega);have V:=yV j (by omega);have G:=xg k (mnX j) a b 20 hk (I5 j) (by unfold mnX;simp;omega) (by rw[Fb];exact m2) (by decide) (by decide) qa qb;rw[Fb] at G;obtain⟨p1,p2⟩:=tT hk (u:=shP j [1]) (by omega) m2 (by decide) (by decide) qa qb k.length (Nat.le_refl _);have U:=lx (rP (apK k (shP j [1]) a b k.length)) (rq l) 13000 (fq _) (cK _) (by rw[c6];exact bdL_mono' p1 (by omega)) (by show 13000+qs l<=_;omega) (by simp;omega);rw[c6] at U;have s1:=fm p1 (by omega) ql;have s2:=b8 (apK k (shP j [1]) a b k.length) l;have H:=Bd (mnX j) (rP (a7 (apK k (shP j [1]) a b k.length) l)) 20 13000 (I5 j) (fq _) (by rw[Fb];exact m2) (by rw[c6];exact bdL_mono' s1 (by omega)) (by decide) (by decide) (by unfold mnX;simp;omega) (by simp;omega);rw[Fb,c6] at H;have z:u=dP (shP j [1]) (a7 (apK k (shP j [1]) a b k.length) l):=by rw[X];unfold cuJ;rw[if_pos (by omega)]
  refine q_z 3 ?_;refine cT (r_d aT 11 ?_);refine c_s (V) ?_;refine c_s (V) ?_;refine c_s (G) ?_;refine c_s (U) ?_;refine c_s (H) ?_;refine a_1 ?_;refine ao (n_k ?_);refine⟨(),trivial,?_⟩;rw[z];exact rl (by unfold mmN;split <;> omega) (by unfold mmN;split <;> omega) fun hs=>uu (k:=k) (a:=a) (b:=b) (l:=l) hs;have z:u=ar g:=by rw[X];unfold cuJ;rw[if_neg (by omega)]
  refine q_z 3 ?_;refine cF (am (⟨(),trivial,?_⟩));rw[z];exact rl (by unfold mmN;split <;> omega) (by unfold mmN;split <;> omega) fun hs=>uu (k:=k) (a:=a) (b:=b) (l:=l) hs;rintro _ _;refine r_z 1 ?_;refine AWp.cutB (fun _:Unit=>⟨[(0,.arr (keR k)),(3,.arr (rE (rP g))),(5,.aptr [rC (rq a)++rC (rq b)] 0 0),(6,bRq l),(11,i64 n),(13,.lsl 1 0 n (some n) 1),(14,i64 j)],rqH 36 55 (bdR M j n) n (mmN n j n) [],40,303⟩) (fun _=>True) ?_ ?_
  ·refine ah (ax (sjI k g a b l n M j u) (fun i=>n- i) (fun i=>i<=n) 0 (Nat.zero_le _) ?_ ?_)
   rw[sjI.eq_1];exact rl (by unfold mmN;split <;> omega) (by unfold mmN;split <;> omega) fun hs=>uu (k:=k) (a:=a) (b:=b) (l:=l) hs;intro i v;rw[sjI.eq_1];by_cases hin:i< n;rotate_left;have f:i=n:=by omega
   subst f;refine ae (q_z 3 ?_);refine cF (aw ⟨(),trivial,?_⟩);exact rl (by unfold mmN;split <;> omega) (by unfold mmN;split <;> omega) fun hs=>uu (k:=k) (a:=a) (b:=b) (l:=l) hs;refine ae (q_z 3 ?_);refine cT (am (ae (ah ?_)));have hi0:FS 54 [i64 0] (.agg (rC (rq 0))):=iW 0 (by decide);refine r_c 3 (hi0) ?_;refine a_z ?_;have D:mmN n j i<=n:=by unfold mmN;split <;> omega
   have hmi:mmN n j i=n\/mmN n j i=i:=by unfold mmN;split <;> simp
   refine a6 (fun _:Unit=>⟨[(0,.arr (keR k)),(3,.arr (rE (rP g))),(5,.aptr [rC (rq a)++rC (rq b)] 0 0),(6,bRq l),(11,i64 n),(13,.lsl 1 0 n (some n) 1),(14,i64 j),(15,.arr (rE (rP u))),(16,i64 i),(17,bRq (coP u i))],rqH 36 55 (bdR M j i) n (mmN n j i) [],40,303⟩) (fun _=>True) ?_ ?_;by_cases hc:i< u.length
   have S:(rE (rP u))[((i:Nat):Int).toNat]?=some (rC (rq (coP u i))):=by
    have:=ci (p:=u) (i:=i) hc;simp[rE,rP,this]
   have Q:(rE (rP u)).length=u.length:=by simp
   have C:(rP u).length=u.length:=by simp
   refine q_z 4 ?_;refine cT (r_m 5 ?_);refine a_2 ?_;refine i_x S ?_;refine l_x S ?_;refine a_z ?_;refine⟨(),trivial,?_⟩;refine nO (fun x=>x) (by omega) rfl D (fun _ _ _ _ e=>e) ?_ ?_ fun hs=>uu (k:=k) (a:=a) (b:=b) (l:=l) hs
   ·repeat rw[aK (by decide)]
    exact ez mY
   ·intro t w
    repeat rw[aK (by omega)]
    exact ew mY (by omega) w
   have Q:(rE (rP u)).length=u.length:=by simp
   have C:(rP u).length=u.length:=by simp
   refine q_z 4 ?_;refine cF (am (⟨(),trivial,?_⟩));rw[eJ (p:=u) (i:=i) (by omega)];refine nO (fun x=>x) (by omega) rfl D (fun _ _ _ _ e=>e) ?_ ?_ fun hs=>uu (k:=k) (a:=a) (b:=b) (l:=l) hs
   ·repeat rw[aK (by decide)]
    exact ez mY
   ·intro t w
    repeat rw[aK (by omega)]
    exact ew mY (by omega) w
   rintro _ _;have W:=rk (TS:=36) (TQ:=55) (R:=bdR M j i) (n:=n) (m:=mmN n j i) mY;have d:∀x y,InX (mmN n j (i+1)) x->InX (mmN n j (i+1)) y->fiR i 48 x=fiR i 48 y->x=y:=fun x y hx hy e=>mc (m:=40) (Nat.le_refl _) (by decide) x y (k6 (by unfold mmN;split <;> omega) hx) (k6 (by unfold mmN;split <;> omega) hy) e;have q:∀B:Option ABlk,rqO (upZ (bdR M j i) i (rP (aJ (j+1) (M i)))) (fiR i 48) n (mmN n j (i+1))=rqO (bdR M j (i+1)) (fiR i 48) n (mmN n j (i+1)):=fun _=>iA fun t _=>⟨by rw[D9],rfl⟩;by_cases hj0:j=0
   ·subst hj0
    have o:mmN n 0 i=i:=rfl;have K:mmN n 0 (i+1)=i+1:=rfl;rw[o] at W⊢;rw[K] at d q;have hg:∀e,e=i->(rqO (bdR M 0 i) (fun x=>x) n i)[e]?=some [.emp]:=CI (Nat.le_refl _) hin;refine r_d aT 11 ?_;refine a_5 ?_;refine o_0 (.load_l1 rfl W (hg _ (by omega)) TG.h rfl) ?_;refine a_2 ?_;refine AR.op1 (.append_e rfl rfl rfl te_36.h rfl rfl rfl (.lsl rfl (nle rfl)) (by first|assumption|(simp;done)) TZ.h rfl TB.h d_o (by first|(simp[maxLen];done)|(simp[maxLen];omega))) rfl rfl ?_;refine a_1 ?_;refine dB (.store rfl rfl (hg _ (by omega)) rfl rfl rfl TS.h (nle rfl)) ?_;refine ao (n_k ?_);refine r_m 3 ?_;refine a_z ?_;refine⟨i+1,by omega,by omega,?_⟩;rw[sjI.eq_1,K];refine nO (fiR i 48) (by omega) (sY _ _) (by omega) d ?_ ?_ fun hs=>uu (k:=k) (a:=a) (b:=b) (l:=l) hs;rw[sX];show some (ABlk.mk 36 1 ((rqO (bdR M 0 i) (fun x=>x) n i).set (0+((i:Nat):Int).toNat) [.lsl 48 0 1 none 4]))=_;rw[EP (r:=rP (aJ (0+1) (M i))) (m':=i+1) hin (by omega) (by simp) (.inr ⟨rfl,rfl⟩) _ (by omega),q none];intro t w;rw[D9];by_cases h:t=i;subst h;rw[jE,ue,<-Ix,N];rfl
    ·rw[fg h,Cf _ _ h]
     repeat rw[aK (by omega)]
     exact ew mY (by omega) (by omega)
   ·have o:∀t,mmN n j t=n:=fun t=>by unfold mmN;rw[if_neg hj0]
    rw[o i] at W⊢;rw[o (i+1)] at d q;have hrl:(rE (bdR M j i i)).length=j:=by simp[bdR]
    have hg:∀e,e=i->(rqO (bdR M j i) (fun x=>x) n n)[e]?=some [.lsl (i+2) 0 j none 4]:=mP hin (by simp[bdR])
    have hce:∀(k:Nat) (B:Option ABlk),k≠i+2->cZ (an ((k,B)::rqH 36 55 (bdR M j i) n n [])) (i+2)=some ⟨55,4,rE (bdR M j i i)⟩:=fun k B hk=>dn (by
     rw[aK hk];exact ew mY (by omega) hin) (show(4:Nat)≠0 by decide)
    have O:(47:Nat)≠i+2:=by omega
    refine r_d aT 11 ?_;refine a_5 ?_;refine o_0 (.load_l1 rfl W (hg _ (by omega)) TG.h rfl) ?_;refine a_2 ?_;refine o_2 (.append_l rfl rfl rfl te_36.h rfl rfl (hce 47 _ O) rfl rfl hrl (eg _) (by rfl) rfl (.lsl rfl (nle rfl)) TZ.h rfl TB.h (by first|rfl|assumption|(simp;done)|(simp;omega)|omega) (by first|(simp[maxLen];done)|(simp[maxLen];omega))) ?_;refine a_1 ?_;refine dB (.store rfl rfl (hg _ (by omega)) rfl rfl rfl TS.h (nle rfl)) ?_;refine ao (n_k ?_);refine r_m 3 ?_;refine a_z ?_;refine⟨i+1,by omega,by omega,?_⟩;rw[sjI.eq_1,o];refine nO (fiR i 48) (by omega) (sY _ _) (by omega) d ?_ ?_ fun hs=>uu (k:=k) (a:=a) (b:=b) (l:=l) hs;rw[sX];show some (ABlk.mk 36 1 ((rqO (bdR M j i) (fun x=>x) n n).set (0+((i:Nat):Int).toNat) [.lsl 48 0 (j+1) none 4]))=_;rw[EP (r:=rP (aJ (j+1) (M i))) (m':=n) hin (by omega) (by simp) (.inl ⟨hin,rfl⟩) _ (by omega),q none];intro t w;rw[D9];by_cases h:t=i;subst h;rw[jE,ue,<-Ix,N];unfold bdR;rw[if_neg (by omega)];rfl
    ·rw[fg h,Cf _ _ h]
     repeat rw[aK (by omega)]
     exact ew mY (by omega) (by omega)
  rintro _ _;refine r_m 3 ?_;refine a_z ?_;refine⟨j+1,by omega,by omega,?_⟩;rw[sjS.eq_1,show mmN n (j+1) 0=n from rfl,show mmN n j n=n by unfold mmN;split <;> rfl,show rqH 36 55 (bdR M (j+1) 0) n n []=rqH 36 55 (bdR M j n) n n [] from lb fun t w=>by unfold bdR;rw[if_neg (Nat.not_lt_zero t),if_pos w]];exact rl (by omega) (Nat.le_refl _) fun hs=>uu (k:=k) (a:=a) (b:=b) (l:=l) hs
 rintro _ _
 have hbd:bdM M n 13000:=fun i j v T=>by
  obtain⟨c1,c2⟩:=cu_bd (k:=k) (g:=g) (a:=a) (b:=b) (l:=l) hk hg bg qa qb ql j;rw[hM];exact ej c1 (by decide) i
 have hE:=c8 M n n
 have L:∀c,c<=n->∀i j,i< n->j<=n->qs ((slM M n c).1 i j)<=100000000:=fun c hc i j v T=>by
  have h1:=D8 hbd c hc i j v T;have h2:=k8 (s:=13000) (show(slM M n c).2.length<=5 by have:=(c8 M n c).len;omega);exact Nat.le_trans h1 (Nat.le_trans h2 (by decide))
 have hrd:=so_read (slM M n n).1 n (slM M n n).2 hE (by omega) fun i j v T=>Nat.le_trans (L n (Nat.le_refl _) i j v T) (by decide);have hco:=so_cols M n 100000000 (by omega) (by decide) L _ hrd;exact hco
section
variable {k:Ke}{l a b:Rat}{g:Lq}
theorem Gg(hk:TmK k)(h:OkTa k l g a b 4300)(hg:g.length<=5)(bg:bdL g 20)(qL:qs l<=20):
    ∃(u:Lq) (B:Lw) (e:Int),FS 12 [.agg (eqC k l g),.agg (spC a b)] (.tup [.arr (pE u),.arr (mE B),i64 e])/\u.length<=5/\bdL u 10000000/\(∀p∈bK k l g a b,coP u (dg p)=0)/\(eA k.length (syM k l (rhK k g a b) a b).1 (syM k l (rhK k g a b) a b).2=true/\u=[]/\B=[]/\e=12\/eA k.length (syM k l (rhK k g a b) a b).1 (syM k l (rhK k g a b) a b).2=false/\ar u=u/\e=0/\B=bK k l g a b/\SolE k l a b g u):=by
 cases hN:eA k.length (syM k l (rhK k g a b) a b).1 (syM k l (rhK k g a b) a b).2 with
 |true=>exact⟨[],[],12,xn k l g a b 4300 h hN,Nat.zero_le _,fun q s=>(by cases s),fun _ _=>rfl,.inl ⟨rfl,rfl,rfl,rfl⟩⟩
 |false=>
  obtain⟨C,r,e1,e2,U,S,F,K,hs⟩:=oZ h hk.l;have o:=rZ hk h;have m:=hk.l;have M:=c8 (svM (maK k a b) l (fun t=>coP (rhK k g a b) t) k.length) k.length k.length;have L:(zsK k (syM k l (rhK k g a b) a b)).length+r=k.length:=by rw[<-e2];simp[zsK]
  have j:=qK (zsK k (syM k l (rhK k g a b) a b)) (zsK k (syM k l (rhK k g a b) a b)).length
  have w:∀p∈zsK k (syM k l (rhK k g a b) a b),bdL p (3* (C+22)+1)/\p.length<=4:=fun p hp=>by
   obtain⟨z,v,rfl⟩:=List.mem_map.1 hp;obtain⟨f,x,rfl⟩:=List.mem_map.1 v;obtain⟨s1,s2⟩:=(ko hk (F f x) (by omega)).1 k.length (Nat.le_refl _);have e:k.length* (C+22)<=3* (C+22):=Nat.mul_le_mul_right _ m;exact⟨bdL_mono' s1 (by omega),s2⟩
  have A:=zn (by omega) w (zsK k (syM k l (rhK k g a b) a b)).length;obtain⟨t1,t2⟩:=hs (zsK k (syM k l (rhK k g a b) a b)).length (by omega);obtain⟨s1,s2⟩:=ko hk K (by omega);obtain⟨D,W⟩:=s1 k.length (Nat.le_refl _);have e:k.length* (C+22)<=3* (C+22):=Nat.mul_le_mul_right _ m;have E:=fm D (by omega) qL;have T:=b8 (smK k (mK k l g a b) k.length) l;have O:=zU bg E (by omega) (by omega);have a2:=jm g (a7 (smK k (mK k l g a b) k.length) l);have y:OkSu k l g a b:=⟨s2,dI D (by omega),by omega,by unfold sm;omega,dI bg (by omega),dI E (by omega),by omega⟩;have G:bdL (syU k l g a b) (3* (C+22)+50):=bdL_mono' O (by omega);have ul:(syU k l g a b).length<=5:=by show(fy _ _).length<=5;omega
  have d:∀p∈bK k l g a b,Piv p:=o.bas.piv;have n:∀p∈bK k l g a b,bdL p (ecB (3* (C+22)+1) (zsK k (syM k l (rhK k g a b) a b)).length):=fun p hp=>(A p hp).1;have i:=zp (3* (C+22)+1) (zsK k (syM k l (rhK k g a b) a b)).length;have R:=vf d G (by omega) n i j (by omega) (by omega) (fun p hp=>by have:=(o.bd p hp).2;omega) (by omega);obtain⟨J,V⟩:=uJ d G (by omega) n i j;refine⟨_,_,0,GY k l g a b 4300 h y hN (fun f x=>(ko hk (F f x) (by omega)).2) _ (J1 hk h) R,by omega,bdL_mono' J t2,fun p hp=>?_,.inr ⟨rfl,by rw[kP,dX],rfl,rfl,?_⟩⟩;rw[kP,bH];exact pg _ _ _ rfl d o.bas.up p hp;have N:=Ae ((jz k.length).1 (M.oneX (kx hN)));rw[kP];exact(uL (Q:=SolE k l a b g) (H:=SolE k l a b []) (fun p q c r hp s h=>hp.comb s h) _ _ _ rfl (fun p hp=>⟨d p hp,o.sol p hp⟩) N).ext (bH _)
end
section
variable {k:Ke}{l a b:Rat}{u g:Lq}
theorem EG(i:Nat):∀(k:Ke) (c o:Lq),c.length=k.length->coP (om k c o) i=coP o i+kL (fun p=>coP p.1.1 i* p.2) (k.zip c)
 |[],[],o,_=>by rw[om];show _=_+0;grind
 |p::k,[],_,h=>by cases h
 |[],z::c,_,h=>by cases h
 |p::k,z::c,o,h=>by
  rw[om,List.tail_cons,im,EG i k c _ (by simpa using h),List.zip_cons_cons,kL];unfold smF;rw[fx,bU];grind
theorem kM(k:Ke)(c:Lq)(hc:c.length=k.length)(i:Nat):coP (smK k c k.length) i=sQ (fun j=>coP (k.getD j ([],[])).1 i* coP c j) k.length:=by
 rw[<-uo (fun p:Lq×Lq=>coP p.1 i) ([],[]) k c hc];unfold smK;rw[List.take_length,EG i k c [] hc,show coP [] i=0 from rfl];grind
theorem sol_lin{A:Mx}{n:Nat}{x y:Nat->Rat}{c:Rat}(hx:Sol 0 A n x)(hy:Sol 0 A n y):Sol 0 A n (fun j=>x j- c* y j):=fun i a=>by
 rw[bJ (g:=fun j=>A i j* x j- c* (A i j* y j)) n fun j b=>by grind,iU,hx i a,hy i a];grind
def fvS(A:Mx)(L:Ln)(y:Nat->Rat):Ln->Nat->Rat
 |[],j=>0
 |f::F,j=>fvS A L y F j+y f* zerX A L f j
theorem Fs{A:Mx}{n:Nat}{L:Ln}(hE:Ech A n n L)(y:Nat->Rat):∀F:Ln,(∀f∈F,f< n/\f∉L)->Sol 0 A n (fvS A L y F)
 |[],_=>H2 A n
 |f::F,h=>by
  obtain⟨d,a⟩:=h f (List.mem_cons_self ..);have e:=sol_lin (c:= -y f) (Fs hE y F fun g k=>h g (List.mem_cons_of_mem _ k)) (hE.zerX d a);intro i l;have b:=e i l;rw[<-b];exact bJ n fun j m=>by rw[fvS];grind
theorem Jm{A:Mx}{L:Ln}{y:Nat->Rat}:∀(F:Ln),F.Nodup->(∀f∈F,f∉L)->∀j,j∉L->fvS A L y F j=if j∈F then y j else 0
 |[],_,_,j,_=>by simp[fvS]
 |f::F,hn,h,j,hj=>by
  obtain⟨a,b⟩:=List.nodup_cons.1 hn;have d:zerX A L f j=if j=f then 1 else 0:=by unfold zerX;rw[if_neg (by simpa using hj)]
  rw[fvS,Jm F b (fun g c=>h g (List.mem_cons_of_mem _ c)) j hj,d];by_cases e:j=f;subst e;rw[if_neg a,if_pos rfl,if_pos (List.mem_cons_self ..)];grind;rw[if_neg e];by_cases g:j∈F;rw[if_pos g,if_pos (List.mem_cons_of_mem _ g)];grind;rw[if_neg g,if_neg (by simp[e,g])];grind
theorem Hb(L:Ln)(n:Nat):(frL L n).Nodup:=List.Pairwise.filter _ List.nodup_range
theorem EE{A:Mx}{n:Nat}{L:Ln}(hE:Ech A n n L){y:Nat->Rat}(hy:Sol 0 A n y):∀j,j< n->y j=fvS A L y (frL L n) j:=
 hE.uniq hy (Fs hE y _ fun f a=>mem_frL.1 a) fun j b g=>by
  rw[Jm _ (Hb L n) (fun f a=>(mem_frL.1 a).2) j g,if_pos (mem_frL.2 ⟨b,g⟩)]
theorem Bb{k:Ke}{A:Mx}{L:Ln}{y:Nat->Rat}:∀F:Ln,(∀f∈F,f∈frL L k.length)->Spn (zsK k (A,L)) (smK k (aJ k.length (fvS A L y F)) k.length)
 |[],_=> .zero fun i=>by
  rw[kM k _ (by simp),bJ (g:=fun j=>if j=k.length then 0 else 0) k.length fun j a=>by rw[ea a,fvS];split <;> grind,gS,if_neg (by omega)]
 |f::F,h=>by
  have d:=Bb (k:=k) (A:=A) (y:=y) F fun g e=>h g (List.mem_cons_of_mem _ e);have b:smK k (e9 A k.length L f) k.length∈zsK k (A,L):=List.mem_map_of_mem (f:=fun z=>smK k z k.length) (List.mem_map_of_mem (f:=e9 A k.length L) (h f (List.mem_cons_self ..)));refine .step (c:= -y f) d b fun i=>?_;rw[kM k _ (by simp),kM k _ (by simp),kM k _ (by simp),<-iU];refine bJ k.length fun j a=>?_;unfold e9;rw[ea a,ea a,ea a,fvS];grind
theorem H5{r:Lq}(h:SolE k l a b [] u):Spn (zsK k (syM k l r a b)) u:=by
 obtain⟨y,n⟩:∃y:Nat->Rat,y=fun j=>l* inQ (aX (k.getD j ([],[])).2 u) a b:=⟨_,rfl⟩
 have w:∀x,aE u x=aE (smK k (aJ k.length y) k.length) x:=fun x=>by
  rw[h x,eR,mN k _ (by simp),lU _ ([],[]),bJ (g:=fun j=>(aE (k.getD j ([],[])).1 x* inQ (aX (k.getD j ([],[])).2 u) a b) * l) (f:=fun j=>aE (k.getD j ([],[])).1 x* coP (aJ k.length y) j) k.length fun j d=>by rw[ea d,n];grind,yk];grind
 have m:∀i,coP u i=coP (smK k (aJ k.length y) k.length) i:=fun i=>by
  rw[<-bH u,fN w,bH]
 have hs:Sol 0 (svM (maK k a b) l (fun t=>coP r t) k.length) k.length y:=fun i v=>by
  have e1:inQ (aX (k.getD i ([],[])).2 u) a b=sQ (fun j=>maK k a b i j* y j) k.length:=by
   have:=jf (B:=(k.getD i ([],[])).2) (r:=u) (p:=smK k (aJ k.length y) k.length) (q:=[]) (c:=0) (fun t=>by rw[m];grind) a b;rw[this,tk _ a b k _ (by simp),bJ (g:=fun j=>maK k a b i j* y j) k.length fun j d=>by rw[ea d];rfl];grind
  have e2:y i=l* sQ (fun j=>maK k a b i j* y j) k.length:=by rw[<-e1,n]
  rw[show svM (maK k a b) l (fun t=>coP r t) k.length i k.length=coP r i from if_pos rfl,bJ (g:=fun j=>(if j=i then y i else 0)- l* (maK k a b i j* y j)) k.length fun j d=>?_,iU,gS,if_pos v];rw[<-e2];grind;unfold svM;rw[if_neg (by omega)];by_cases e:j=i;subst e;rw[if_pos rfl,if_pos rfl];grind;rw[if_neg e,if_neg e];grind
 have o:=c8 (svM (maK k a b) l (fun t=>coP r t) k.length) k.length k.length;have z:=EE o ((jz k.length).2 hs);have:=Bb (k:=k) (A:=(syM k l r a b).1) (L:=(syM k l r a b).2) (y:=y) (frL (syM k l r a b).2 k.length) fun f s=>s;refine this.ext fun i=>?_;rw[m,kM k _ (by simp),kM k _ (by simp)];exact bJ k.length fun j d=>by rw[ea d,ea d,z j d];rfl
theorem zs_sol{r:Lq}:∀p∈zsK k (syM k l r a b),SolE k l a b [] p:=fun p hp=>by
 have e:=c8 (svM (maK k a b) l (fun t=>coP r t) k.length) k.length k.length;obtain⟨z,c,rfl⟩:=List.mem_map.1 hp;obtain⟨f,g,rfl⟩:=List.mem_map.1 c;obtain⟨h,d⟩:=mem_frL.1 g;exact Af (r:=fun t=>coP r t) ((jz k.length).1 (e.zerX h d))
theorem F2:Spn (bK k l g a b) u↔SolE k l a b [] u:=by
 unfold bK;rw[ecL_span.2 u];exact⟨fun h=>h.closed (fun v e=>(SolE.nil k l a b).ext fun i=>by rw[e];rfl) (fun p b c r hp hb d=>hp.comb hb d) zs_sol,H5⟩
theorem red_one{v:Lq}(hu:SolE k l a b g u)(hv:SolE k l a b g v)(zu:∀p∈bK k l g a b,coP u (dg p)=0)(zv:∀p∈bK k l g a b,coP v (dg p)=0):ar u=ar v:=by
 refine It (kG _ _) ?_ zu zv;rw[show ecK (zsK k (syM k l (rhK k g a b) a b)) (zsK k (syM k l (rhK k g a b) a b)).length=bK k l g a b from rfl,F2];intro x;have e:=hu x;have d:=hv x;have j:=nG (f:=fun p:Lq×Lq=>aE p.1 x* inQ (aX p.2 (dP u v)) a b) (g:=fun z=>aE z.1 x* inQ (aX z.2 u) a b) (h:=fun z=>aE z.1 x* inQ (aX z.2 v) a b) (c:=1) (fun z=>by rw[jf (p:=u) (q:=v) (c:=1) (fun i=>by rw[c9];grind)];grind) k;rw[j,jL,eR,e,d];grind
theorem AL(h:SolE k l a b g u):eA k.length (syM k l (rhK k g a b) a b).1 (syM k l (rhK k g a b) a b).2=false:=by
 have q:=c8 (svM (maK k a b) l (fun t=>coP (rhK k g a b) t) k.length) k.length k.length;obtain⟨y,f⟩:∃y:Nat->Rat,y=fun j=>inQ (aX (k.getD j ([],[])).2 u) a b:=⟨_,rfl⟩
 have hs:Sol 1 (svM (maK k a b) l (fun t=>coP (rhK k g a b) t) k.length) k.length y:=fun i m=>by
  have r:∀x,aE u x=aE (fy g (a7 (smK k (aJ k.length y) k.length) l)) x:=fun x=>by
   rw[h x,jM,fc,mN k _ (by simp),lU _ ([],[]),bJ (g:=fun j=>aE (k.getD j ([],[])).1 x* coP (aJ k.length y) j) k.length fun j c=>by rw[ea c,f]];grind
  have d:∀t,coP u t=coP g t- (-l) * coP (smK k (aJ k.length y) k.length) t:=fun t=>by
   rw[<-bH u,fN r,bH,fx,bU];grind
  have e1:y i=inQ (aX (k.getD i ([],[])).2 g) a b+l* sQ (fun j=>maK k a b i j* y j) k.length:=by
   have:=jf (B:=(k.getD i ([],[])).2) d a b;rw[tk _ a b k _ (by simp),bJ (g:=fun j=>maK k a b i j* y j) k.length fun j c=>by rw[ea c];rfl] at this;rw[f];rw[f] at this;simp only at this⊢;rw[this];grind
  have n:coP (rhK k g a b) i=inQ (aX (k.getD i ([],[])).2 g) a b:=by
   unfold coP rhK;rw[List.getD_eq_getElem?_getD,List.getD_eq_getElem?_getD,List.getElem?_map,List.getElem?_eq_getElem m];rfl
  rw[show svM (maK k a b) l (fun t=>coP (rhK k g a b) t) k.length i k.length=coP (rhK k g a b) i from if_pos rfl,bJ (g:=fun j=>(if j=i then y i else 0)- l* (maK k a b i j* y j)) k.length fun j c=>?_,iU,gS,if_pos m,n];generalize sQ (fun j=>maK k a b i j* y j) k.length=z at *
  rw[e1];grind;unfold svM;rw[if_neg (by omega)];by_cases e:j=i;subst e;rw[if_pos rfl,if_pos rfl];grind;rw[if_neg e,if_neg e];grind
 have p:=(jz k.length).2 hs;cases hN:eA k.length (syM k l (rhK k g a b) a b).1 (syM k l (rhK k g a b) a b).2 with
 |false=>rfl
 |true=>
  obtain⟨i,i1,i2,i3⟩:=ow hN;have o:=p i i2;rw[bJ (g:=fun j=>if j=k.length then 0 else 0) k.length fun j c=>by rw[q.rest i j i1 i2 c];split <;> grind,gS,if_neg (by omega)] at o;exact absurd (show(syM k l (rhK k g a b) a b).1 i k.length=0 by unfold syM;grind) i3
end
section
variable {u p G:Lq}{i:Nat}{c0:Rat}
theorem FV(j i:Nat):coP (shP j [1]) i=if i=j then 1 else 0:=by
 unfold coP shP;rw[List.getD_eq_getElem?_getD,List.getElem?_append,List.length_replicate];by_cases h:i< j;rw[if_pos h,List.getElem?_replicate,if_pos h,if_neg (by omega)];rfl;rw[if_neg h];by_cases e:i=j;rw[if_pos e,e,Nat.sub_self];rfl;rw[if_neg e,List.getElem?_eq_none (by simp;omega)];rfl
section
variable {k:Ke}{g:Lq}{a b l:Rat}
theorem zJ{t:Nat}(h:t< k.length):coP (rhK k u a b) t=inQ (aX (k.getD t ([],[])).2 u) a b:=by
 unfold coP rhK;rw[List.getD_eq_getElem?_getD,List.getD_eq_getElem?_getD,List.getElem?_map,List.getElem?_eq_getElem h];rfl
theorem zT{r q:Lq}{c:Rat}(h:∀t,coP r t=coP p t- c* coP q t)(i:Nat):coP (apK k r a b k.length) i=coP (apK k p a b k.length) i- c* coP (apK k q a b k.length) i:=by
 unfold apK;rw[kM k _ (by simp),kM k _ (by simp),kM k _ (by simp),<-iU];refine bJ k.length fun j d=>?_;rw[zJ d,zJ d,zJ d,jf h];grind
theorem ap_same{r:Lq}(h:∀t,coP r t=coP p t)(i:Nat):coP (apK k r a b k.length) i=coP (apK k p a b k.length) i:=by
 have:=zT (k:=k) (a:=a) (b:=b) (r:=r) (p:=p) (q:=[]) (c:=0) (fun t=>by rw[h];grind) i;rw[this];grind
theorem KM(x:Nat->Rat)(i:Nat):∀m,coP (apK k (aJ m x) a b k.length) i=sQ (fun j=>x j* coP (apK k (shP j [1]) a b k.length) i) m
 |0=>by
  have:=zT (k:=k) (a:=a) (b:=b) (r:=aJ 0 x) (p:=aJ 0 x) (q:=aJ 0 x) (c:=1) (fun t=>by rw[show coP (aJ 0 x) t=0 from rfl];grind) i;rw[sQ];grind
 |m+1=>by
  rw[sQ,<-KM x i m,zT (p:=aJ m x) (q:=shP m [1]) (c:= -x m) (fun t=>?_) i];grind;rw[fQ,fQ,FV];by_cases h1:t< m;rw[if_pos (by omega),if_pos h1,if_neg (by omega)];grind;by_cases h2:t=m;subst h2;rw[if_pos (by omega),if_neg h1,if_pos rfl];grind;rw[if_neg (by omega),if_neg h1,if_neg h2];grind
theorem solE_co:SolE k l a b G u↔∀i,coP u i=coP G i+l* coP (apK k u a b k.length) i:=by
 have e:∀i,coP (hoP k l G u a b) i=coP G i+l* coP (apK k u a b k.length) i:=fun i=>by
  unfold hoP;rw[fx,bU];show _+coP (apK k u a b k.length) i* l=_;grind
 constructor;intro h i;have c:ar u=ar (hoP k l G u a b):=fN fun x=>by rw[A6];exact h x
 rw[<-e,<-bH u,c,bH];intro h x;rw[<-A6];exact ga (fun i=>by rw[e];exact h i) x
theorem FP{n:Nat}(h:a8 p< (n:Int))(hi:n<=i):coP p i=0:=by
 rw[<-bH];exact eJ (by unfold a8 at h;omega)
theorem g_out(hi:soN g k<=i):coP g i=0:=FP (by have:=(yL k (a8 g)).1;have:=ya g k;omega) hi
theorem KN(hi:soN g k<=i):coP (apK k u a b k.length) i=0:=by
 unfold apK;rw[kM k _ (by simp),bJ (g:=fun j=>if j=k.length then 0 else 0) k.length fun j c=>?_,gS,if_neg (by omega)]
 have d:k.getD j ([],[])∈k:=by
  rw[List.getD_eq_getElem?_getD,List.getElem?_eq_getElem c];exact List.getElem_mem c
 rw[FP (p:=(k.getD j ([],[])).1) (n:=soN g k) (by have:=(yL k (a8 g)).2 _ d;have:=ya g k;omega) hi];split <;> grind
theorem sys_iff{x:Nat->Rat}:Sol c0 (cuM k g a b l) (soN g k) x↔∀i,i< soN g k->x i=c0* coP g i+l* coP (apK k (aJ (soN g k) x) a b k.length) i:=by
 have d:∀i,i< soN g k->sQ (fun j=>cuM k g a b l i j* x j) (soN g k)=x i- l* coP (apK k (aJ (soN g k) x) a b k.length) i:=fun i c=>by
  rw[KM,bJ (g:=fun j=>(if j=i then x i else 0)- l* (x j* coP (apK k (shP j [1]) a b k.length) i)) (soN g k) fun j m=>?_,iU,gS,if_pos c];unfold cuM cuJ;rw[if_pos m,c9,bU,FV];by_cases e:j=i;subst e;rw[if_pos rfl,if_pos rfl];grind;rw[if_neg (fun h=>e h.symm),if_neg e];grind
 have f:∀i,cuM k g a b l i (soN g k)=coP g i:=fun i=>by
  unfold cuM cuJ;rw[if_neg (Nat.lt_irrefl _),bH]
 constructor;intro h i c;have:=h i c;rw[d i c,f] at this;grind;intro h i c;rw[d i c,f,h i c];grind
theorem H3{x:Nat->Rat}(hG:∀i,coP G i=c0* coP g i)(h:Sol c0 (cuM k g a b l) (soN g k) x):SolE k l a b G (aJ (soN g k) x):=
 solE_co.2 fun i=>by
  rw[fQ,hG];by_cases hi:i< soN g k;rw[if_pos hi];exact sys_iff.1 h i hi;rw[if_neg hi,g_out (k:=k) (by omega),KN (g:=g) (by omega)];grind
theorem H6(hG:∀i,coP G i=c0* coP g i)(h:SolE k l a b G u):Sol c0 (cuM k g a b l) (soN g k) (coP u)/\∀i,soN g k<=i->coP u i=0:=by
 have e:=solE_co.1 h;have d:∀i,soN g k<=i->coP u i=0:=fun i c=>by rw[e,hG,g_out c,KN (g:=g) c];grind
 have f:∀t,coP (aJ (soN g k) (coP u)) t=coP u t:=fun t=>by
  rw[fQ];split;rfl;exact(d t (by omega)).symm
 exact⟨sys_iff.2 fun i c=>by rw[ap_same f,<-hG];exact e i,d⟩
variable {A:Mx}{n:Nat}{L:Ln}
def zrL(A:Mx)(n:Nat)(L:Ln):Lw:=(frL L n).map fun f=>ar (e9 A n L f)
theorem Ek{f:Nat}(i:Nat):coP (ar (e9 A n L f)) i=if i< n then zerX A L f i else 0:=by
 rw[bH];unfold e9;rw[fQ]
theorem xP{f:Nat}(hi:i< n)(hL:i∉L):coP (ar (e9 A n L f)) i=if i=f then 1 else 0:=by
 rw[Ek,if_pos hi];unfold zerX;rw[if_neg (by simpa using hL)]
theorem oh(hE:Ech A n n L){f:Nat}(hf:f∈frL L n):Piv (ar (e9 A n L f))/\dg (ar (e9 A n L f))=f:=by
 obtain⟨c,b⟩:=mem_frL.1 hf;refine CW (dX _) (by rw[xP c b,if_pos rfl]) fun i d=>?_;by_cases hin:i< n;by_cases hL:i∈L;obtain⟨t,a⟩:=List.getElem?_of_mem hL;rw[Ek,if_pos hin];unfold zerX;rw[if_pos (by simpa using hL),hE.idx a,hE.low t i f a d];grind;rw[xP hin hL,if_neg (by omega)];rw[Ek,if_neg hin]
theorem zr_bas(hE:Ech A n n L):Bas (zrL A n L)/\Ef (zrL A n L):=by
 refine⟨⟨fun p hp=>?_,?_⟩,fun p hp q g c=>?_⟩;obtain⟨f,b,rfl⟩:=List.mem_map.1 hp;exact(oh hE b).1;have hs:(frL L n).Pairwise (· < ·):=List.Pairwise.filter _ List.pairwise_lt_range;refine List.pairwise_map.2 (hs.imp_of_mem fun{f d} b a hfd=>?_);obtain⟨j,h⟩:=oh hE b;obtain⟨k,i⟩:=oh hE a;rw[j.deg,k.deg,h,i];omega;obtain⟨f,b,rfl⟩:=List.mem_map.1 hp;obtain⟨d,a,rfl⟩:=List.mem_map.1 g;rw[(oh hE b).2,(oh hE a).2] at c;rw[(oh hE a).2,xP (mem_frL.1 a).1 (mem_frL.1 a).2,if_neg (fun e=>c e.symm)]
theorem Hv{y:Nat->Rat}:∀F:Ln,(∀f∈F,f∈frL L n)->Spn (zrL A n L) (aJ n (fvS A L y F))
 |[],_=> .zero fun i=>by rw[fQ];split <;> rfl
 |f::F,h=>by
  have b:=Hv (y:=y) F fun g d=>h g (List.mem_cons_of_mem _ d);have a:ar (e9 A n L f)∈zrL A n L:=List.mem_map_of_mem (f:=fun f=>ar (e9 A n L f)) (h f (List.mem_cons_self ..));refine .step (c:= -y f) b a fun i=>?_;rw[Ek,fQ,fQ];split;rw[fvS];grind;grind
theorem bK_zr{g':Lq}(hA:slM (cuM k g a b l) (soN g k) (soN g k)=(A,L)):bK k l g' a b=zrL A (soN g k) L:=by
 have e:=c8 (cuM k g a b l) (soN g k) (soN g k);have m:=fun{c0:Rat} {x:Nat->Rat}=>jz (c0:=c0) (M:=cuM k g a b l) (n:=soN g k) (x:=x) (soN g k);rw[hA] at e m;obtain⟨s,z2⟩:=zr_bas e;have d:∀i,coP ([]:Lq) i=0* coP g i:=fun i=>by rw[show coP [] i=0 from rfl];grind
 refine Eb (kG _ _) s ecL_span.1 z2 fun u=>?_;show Spn (bK k l g' a b) u↔_;rw[F2];constructor;intro h;obtain⟨t,o⟩:=H6 (g:=g) d h;have w:=EE e (m.2 t);refine(Hv (A:=A) (L:=L) (y:=coP u) (frL L (soN g k)) fun f j=>j).ext fun i=>?_;rw[fQ];split;exact w i (by assumption);exact o i (by omega);intro h;refine h.closed (fun v d=>(SolE.nil k l a b).ext fun i=>by rw[d];rfl) (fun p b c r hp hb z=>hp.comb hb z) fun p hp=>?_;obtain⟨f,j,rfl⟩:=List.mem_map.1 hp;obtain⟨q,B⟩:=mem_frL.1 j;exact(H3 (g:=g) d (m.1 (e.zerX q B))).ext (bH _)
theorem EF(hA:slM (cuM k g a b l) (soN g k) (soN g k)=(A,L)):eA (soN g k) A L=eA k.length (syM k l (rhK k g a b) a b).1 (syM k l (rhK k g a b) a b).2/\
    (eA (soN g k) A L=false->∀u,SolE k l a b g u->(∀p∈bK k l g a b,coP u (dg p)=0)->ar u=ar (pj A (soN g k) L)):=by
 have d:=c8 (cuM k g a b l) (soN g k) (soN g k);have j:=fun{c0:Rat} {x:Nat->Rat}=>jz (c0:=c0) (M:=cuM k g a b l) (n:=soN g k) (x:=x) (soN g k);rw[hA] at d j;have m:∀i,coP g i=1* coP g i:=fun i=>by grind
 have c:eA (soN g k) A L=false->SolE k l a b g (pj A (soN g k) L):=fun h=>H3 m (j.1 (d.oneX (kx h)));refine⟨?_,fun h u s q=>?_⟩;cases h:eA (soN g k) A L with
 |false=>exact(AL (c h)).symm
 |true=>
  cases h2:eA k.length (syM k l (rhK k g a b) a b).1 (syM k l (rhK k g a b) a b).2 with
  |true=>rfl
  |false=>
   have e:=c8 (svM (maK k a b) l (fun t=>coP (rhK k g a b) t) k.length) k.length k.length;have v:=Ae ((jz k.length).1 (e.oneX (kx h2)));obtain⟨i,i1,i2,i3⟩:=ow h;exact absurd (j.2 (H6 m v).1) (d.none i1 i2 i3 _)
 refine red_one s (c h) q fun p hp=>?_;rw[bK_zr hA] at hp;obtain⟨f,o,rfl⟩:=List.mem_map.1 hp;obtain⟨r,w⟩:=mem_frL.1 o;rw[(oh d o).2];unfold pj oneX;rw[ea r,if_neg (by simpa using w)]
end
theorem soF_v(A:Mx)(n:Nat)(L:Ln)(f:Nat):vR (soF A n L f)=e9 A n L f:=by
 unfold soF xzL e9 aJ vR;rw[List.map_map,List.take_length];refine List.map_congr_left fun j _=>?_;show Prod.fst (if L.contains j=true then rq (-A (L.idxOf j) f) else if j=f then rq 1 else r0)=zerX A L f j;unfold zerX;split;rfl;split <;> rfl
theorem soX_v(A:Mx)(n:Nat)(L:Ln):vR (soX A n L)=pj A n L:=by
 unfold soX xzL pj aJ vR;rw[List.map_map,List.take_length];refine List.map_congr_left fun j _=>?_;show Prod.fst (if L.contains j=true then rq (A (L.idxOf j) n) else r0)=oneX A n L j;unfold oneX;split <;> rfl
end
theorem GE(k:Ke)(a b:Rat)(h:rD k)(ha:sm a)(hb:sm b)(hab:¬a<=b):FS 65 [.arr (kE k),.agg (spC a b)] (bln true):=by
 have d:=vv k h;have c:=lA a b ha hb;rw[decide_eq_false (fun e=>hab (cmpQ_le.1 e))] at c;refine f_n Tryz.func65 ?_ ?_;exact ac (aN k) (ac (bD _ _) af);refine r_z 2 ?_;refine r_c 9 (d) ?_;refine o_0 (.bin rfl rfl (vF bR (rfl))) ?_;refine e_s (c) ?_;refine d_z ?_;exact aj (t_e (ag _))
structure Bad (k:Ke)(g:Lq)(a b:Rat):Prop where
 h:vaB k=false\/¬a<=b\/20< a8 g
 kl:k.length<=1000
 pl:∀p∈k,p.1.length<=1099511627776/\p.2.length<=1099511627776
 ha:sm a
 hb:sm b
 gl:g.length<=1099511627776
theorem kW(k:Ke)(l:Rat)(g:Lq)(a b:Rat)(h:Bad k g a b):FS 37 [.agg (eqC k l g++spC a b)] (bln true):=by
 by_cases hab:a<=b;exact wu k l g a b (h.h.elim .inl fun e=> .inr (e.resolve_left fun g=>g hab)) h.kl h.pl h.ha h.hb hab h.gl;have f:∀c∈eqC k l g++spC a b,Closed c:=fun c i=>(List.mem_append.1 i).elim (cv k l g c) (bh a b c)
 have d:FS 65 [.arr (kE k),.agg (spC a b)] (bln true):=by
  cases e:vaB k with
  |false=>exact vd k a b e h.kl h.pl
  |true=>exact GE k a b (yH e h.pl) h.ha h.hb hab
 refine f_c Tryz.func37 ?_;refine r_z 2 ?_;refine r_c 14 (d) ?_;refine d_z ?_;exact aj (t_e (ag _))
theorem JS(k:Ke)(l a b:Rat)(h:Bad k [] a b):FS 11 [.arr (kE k),.agg (spC a b),.agg (qC l)] (.tup [.arr (mE []),i64 2]):=by
 have d:=kW k l [] a b h;refine f_n Tryz.func11 ?_ ?_;exact ac (aN k) (ac (aD (bh a b)) (ac (aO l) af));refine r_z 4 ?_;refine r_z 7 ?_;have e:∀c∈(.arr (kE k)::(qC l++[.emp]))++spC a b,Closed c:=cj (ac (aN k) (cj (bi l) (ac b9 af))) (bh a b);refine AWp.ent (st':=⟨[(8,.aptr [(.arr (kE k)::(qC l++[.emp]))++spC a b] 0 0)],[],1,20⟩) ?_ ?_;exact s_f [];refine ae (r_c 2 (d) ?_);refine ao ?_;refine cT (r_z 2 ?_);refine aj (Fin.many ⟨_,_,rfl,rfl,⟨_,_,rfl,rfl,rfl⟩⟩ (nle rfl) ?_);exact ak (Cv.emp _) (ak (ai aB (ag _)) aq)
theorem xm(k:Ke)(l:Rat)(g:Lq)(a b:Rat)(h:Bad k g a b):FS 12 [.agg (eqC k l g),.agg (spC a b)] (.tup [.arr (pE []),.arr (mE []),i64 2]):=by
 have c:=kW k l g a b h;refine f_n Tryz.func12 ?_ ?_;exact ac (aD (cv k l g)) (ac (aD (bh a b)) af);refine r_z 5 ?_;refine r_z 5 ?_;refine ae (r_c 2 (c) ?_);refine ao ?_;refine cT (r_z 3 ?_);refine aj (Fin.many ⟨_,_,rfl,rfl,⟨_,_,rfl,rfl,⟨_,_,rfl,rfl,rfl⟩⟩⟩ (nle rfl) ?_);exact ak (Cv.emp _) (ak (Cv.emp _) (ak (ai aB (ag _)) aq))
theorem xq(k:Ke)(l:Rat)(g u:Lq)(a b:Rat)(h:Bad k g a b):FS 13 [.agg (eqC k l g),.agg (spC a b),.arr (pE u)] (.tup [bln false,i64 2]):=by
 have c:=kW k l g a b h;refine f_n Tryz.func13 ?_ ?_;exact ac (aD (cv k l g)) (ac (aD (bh a b)) (ac (az u) af));refine r_z 5 ?_;refine r_z 5 ?_;refine ae (r_c 2 (c) ?_);refine ao ?_;refine cT (r_z 2 ?_);refine aj (Fin.many ⟨_,_,rfl,rfl,⟨_,_,rfl,rfl,rfl⟩⟩ (nle rfl) ?_);exact ak (ai aB (ag _)) (ak (ai aB (ag _)) aq)
theorem GO(x y:List RQ)(s:Nat)(hx:okX x)(hy:okX y)(hs:bdL (vR x) s)(ht:bdL (vR y) s)(hlim:2* s<=1099511627776)(hxl:x.length<=1000000)(hyl:y.length<=1000000):FS 19 [.arr (rE x),.arr (rE y)] (bln (o8 (vR x) (vR y))):=by
 obtain⟨a,ha⟩:∃a,a=gz x:=⟨_,rfl⟩;obtain⟨b,hb⟩:∃b,b=gz y:=⟨_,rfl⟩;have f:vR a=ar (vR x):=by rw[ha,nF]
 have c:vR b=ar (vR y):=by rw[hb,nF]
 have z:okX a:=by rw[ha];exact mU hx
 have w:okX b:=by rw[hb];exact mU hy
 have A:a.length<=x.length:=by rw[<-cO a,f,<-cO x];exact bw _
 have B:b.length<=y.length:=by rw[<-cO b,c,<-cO y];exact bw _
 have sa:bdL (vR a) s:=by rw[f];exact we hs
 have sb:bdL (vR b) s:=by rw[c];exact we ht
 have q:=gE x (by omega);have r:=gE y (by omega);rw[<-ha] at q;rw[<-hb] at r;have d:o8 (vR x) (vR y)=decide (vR a=vR b):=by unfold o8;rw[f,c]
 rw[d];refine f_c Tryz.func19 ?_;refine r_z 1 ?_;refine r_c 6 (q) ?_;refine c_s (r) ?_;refine a_z ?_;by_cases hl:a.length=b.length;rotate_left;have e:decide (vR a=vR b)=false:=decide_eq_false fun e=>hl (by rw[<-cO a,e,cO]);rw[e];refine ae (s_r 5 ?_);refine a_4 ?_;refine o_0 (.bin rfl rfl (vT bR ((bne_iff_ne.2 (by omega))))) ?_;refine ao ?_;refine cT (r_z 1 ?_);exact aj (t_e (ag _));refine ae (s_r 5 ?_);refine a_4 ?_;refine o_0 (.bin rfl rfl (vF bR ((by rw[hl];exact bne_self_eq_false _)))) ?_;refine ao ?_;refine cF (am (ae (r_z 1 ?_)));refine aC (fun _:Unit=>⟨[(0,.arr (rE a)),(1,.arr (rE b))],[],1,31⟩) (fun _=>vR a=vR b) ?_ ?_;refine ah (ax (fun j:Nat=>⟨[(5,i64 ((j:Nat):Int)),(0,.arr (rE a)),(1,.arr (rE b))],[],1,31⟩) (fun j=>a.length- j) (fun j=>j<=a.length/\(vR a).take j=(vR b).take j) 0 ⟨Nat.zero_le _,rfl⟩ ?_ ?_);exact s_e [];rintro j ⟨C,n⟩;by_cases hlt:j< a.length;obtain⟨u,o,h⟩:=kJ (x:=a) (i:=j) hlt;obtain⟨v,hv,k⟩:=kJ (x:=b) (i:=j) (by omega);have m:(rE a)[((j:Nat):Int).toNat]?=some (rC u):=gX o;have l:(rE b)[((j:Nat):Int).toNat]?=some (rC v):=gX hv;have p:=Fy u v (z u (List.mem_of_getElem? o)) (w v (List.mem_of_getElem? hv)) (by have:=oU sa o;have:=oU sb hv;omega);have g:(fl u.1 v.1 !=(0:Int))=!decide (u.1=v.1):=by rw[bne,cmpQ_eq]
 refine ae (q_z 4 ?_);refine cT (am (ae (ah ?_)));by_cases huv2:u.1=v.1;refine ae (r_d aT 10 ?_);refine a_2 ?_;refine i_x m ?_;refine l_x m ?_;refine a_2 ?_;refine i_x l ?_;refine l_x l ?_;refine c_s (p) ?_;refine o_0 (.bin rfl rfl (vF bR ((by rw[g,decide_eq_true huv2];rfl)))) ?_;refine ao (n_k ?_);refine cF (am (r_m 3 ?_));refine a_z ?_;refine⟨j+1,by omega,⟨hlt,?_⟩,?_⟩;rw[take_succ' (by rw[cO];exact hlt),take_succ' (by rw[cO];omega),n,<-h,<-k,huv2];exact s_e [];have e:decide (vR a=vR b)=false:=decide_eq_false fun e=>huv2 (by rw[h,k,e]);rw[e];refine ae (r_d aT 10 ?_);refine a_2 ?_;refine i_x m ?_;refine l_x m ?_;refine a_2 ?_;refine i_x l ?_;refine l_x l ?_;refine c_s (p) ?_;refine o_0 (.bin rfl rfl (vT bR ((by rw[g,decide_eq_false huv2];rfl)))) ?_;refine ao (n_k ?_);refine cT (r_z 1 ?_);exact aj (t_e (ag _));have t:j=a.length:=by omega
 refine ae (q_z 4 ?_);refine cF (aw ⟨(),?_,?_⟩);rwa[List.take_of_length_le (by rw[cO];omega),List.take_of_length_le (by rw[cO];omega)] at n;exact s_e [];rintro _ n;rw[decide_eq_true n];refine r_z 1 ?_;exact aj (t_e (ag _))


section
variable {k:Ke}{a b:Rat}{p:Lq}{t:Nat}
end


section
variable {k:Ke}{l a b:Rat}{g:Lq}
end
section
variable {k:Ke}{a b:Rat}
end
section
variable {k:Ke}{a b:Rat}
end

section
variable {k:Ke}{a b l:Rat}{p g:Lq}{t:Nat}
end
abbrev bEq(k:Ke)(l:Rat)(g:Lq):AV:= .aptr [eqC k l g] 0 0
end Go.Proofs.YtiodeiecpoopgaaGreatDoor
