/- Part Y23 of the proof. -/
import Derived.Test.YtjmkjicckobojaaGreatDoorY22
set_option linter.all false
namespace Go.Proofs.YtjmkjicckobojaaGreatDoor
open Go.Abs
set_option maxRecDepth 20000
set_option maxHeartbeats 2000000
def hpS(p:Lq)(g:Nat)(cap:La)(w:Nat->Lq):Nat->AState
 |k=>⟨[(4,.lptr 1 0 0),(5,.aptr [[.clos g [] cap]] 0 0),(10,.clos 241 [] [bP p])],[(1,some ⟨62,1,[[.arr (pE (w k))]]⟩)],2,18⟩
theorem EX(p:Lq)(g:Nat)(cap:La)(w:Nat->Lq)(hl:p.length<=281474976710656)(hcap:∀c∈cap,Closed c)(hg:∀k,k< p.length->FS g ((.arr (pE (w k)):: .agg (qC (coP p (p.length- 1- k)))::cap).map coe) (.arr (pE (w (k+1))))):FS 283 [.arr (pE p),.arr (pE (w 0)),.clos g [] cap] (.arr (pE (w p.length))):=by
 have hb:=lE p;have d:=lA p hl;have b:Closed (.clos g [] cap):=aX af hcap;have i:Closed (.aptr [[.clos g [] cap]] 0 0):=aN (ac b af);have f:Closed (.clos 241 [] [bP p]):=aX af (ac (b9 p) af);refine f_c Tryz.func283 ?_;refine r_z 3 ?_;refine AWp.ent (st':=⟨[(0,.arr (pE p)),(4,.lptr 1 0 0),(5,.aptr [[.clos g [] cap]] 0 0)],[(1,some ⟨62,1,[[.arr (pE (w 0))]]⟩)],2,18⟩) ?_ ?_;have:=ac b af;exact s_f [(1,4)];refine ae (r_c 2 (hb) ?_);refine aq ?_;refine aJ (λ_:Unit=>⟨[(4,.lptr 1 0 0)],[(1,some ⟨62,1,[[.arr (pE (w p.length))]]⟩)],2,18⟩) (λ_=>True) ?_ ?_;refine aj (AWp.rangeFunc (α:=Nat) (γ:=Empty) p.length (hpS p g cap w) (λk=>k) (λk=>k<=p.length) (λe=>nomatch e) (λ_ e=>nomatch e) 0 rfl d rfl rfl ?_ (λ_=>⟨rfl,rfl⟩) (λe=>nomatch e) (mN _) rfl (λ_ h=>h) ?_ ?_ ?_ ?_ (λ_ e=>nomatch e));intro k xs a;unfold mA at a;split at a;cases a;rfl;cases a;rw[hpS.eq_1];exact s_y [] (λhs=>dJ) (λhs=>lG);exact ac (b9 p) af
 ·intro l k xs j a
  unfold mA at a;split at a;rotate_left;cases a;rename_i hlt;cases a;show AWp _ _ _ _ ⟨[(12,.agg (qC (coP p (p.length- 1- k)))),(11,i64 (p.length- 1- k:Nat)),(4,.lptr 1 0 0),(5,.aptr [[.clos g [] cap]] 0 0),(10,.clos 241 [] [bP p]),(1004,.lptr 1 0 0),(1005,.aptr [[.clos g [] cap]] 0 0),(1010,.clos 241 [] [bP p])],[(1,some ⟨62,1,[[.arr (pE (w k))]]⟩)],2,18⟩;refine r_m 2 ?_;refine a_z ?_;refine aj (r_m 5 ?_);refine c_s (hg k hlt) ?_;refine a_z ?_;refine⟨k+1,⟨hlt,rfl⟩,?_⟩;show SEntT _ ⟨[(1004,.lptr 1 0 0),(1005,.aptr [[.clos g [] cap]] 0 0),(1010,.clos 241 [] [bP p])],[(1,some ⟨62,1,[[.arr (pE (w (k+1)))]]⟩)],2,18⟩;exact s_y [] (λhs=>dJ) (λhs=>lG)
 intro k j a;unfold mA at a;split at a;cases a;refine⟨(),trivial,?_⟩;rw[hpS.eq_1];have m:k=p.length:=ω
 subst m;exact s_e [];rintro _ _;refine r_z 2 ?_;exact ak (t_e (aw _))
theorem Cs(v q:Lq)(c:Rat)(h:gQ v q)(hc:sm c)(hl:(aG v q).length<=274877906944):FS 284 [.arr (pE v),.agg (qC c),bP q] (.arr (pE (ec (aG v q) (dk c)))):=by
 have a:=pK c;refine f_c Tryz.func284 ?_;refine r_z 2 ?_;refine ae (r_d ba 7 ?_);refine c_s (pz v q (mxL v) (mxL q) (dO v) (dO q) (dB v) (dB q) h.1 h.2.1 h.2.2.1 h.2.2.2) ?_;refine c_s (lf c) ?_;refine c_s (nU (aG v q) (dk c) (v8 h) (vr λx b=>by rw[kI.1 b];exact hc) ω ω) ?_;refine a_1 ?_;refine aq (n_k ?_);exact ak (t_e (aw _))
theorem E0(p q:Lq)(h:ik q p)(hp:p.length<=274877906944):FS 252 [.arr (pE p),.arr (pE q)] (.arr (pE (cJ q p))):=by
 have c:∀k,k< p.length->FS 284 [.arr (pE (cJ q (p.drop (p.length- k)))),.agg (qC (coP p (p.length- 1- k))),bP q] (.arr (pE (cJ q (p.drop (p.length- (k+1)))))):=λk d=>by
  have a:=ua (p.length- (k+1)) h;rw[tD d] at a⊢;exact Cs _ q _ a.2.1 a.2.2.1 a.2.2.2
 have b:=EX p 284 [bP q] (λk=>cJ q (p.drop (p.length- k))) ω (ac (b9 q) af) c;simp only[Oc,Nj,sr,DJ] at b;refine f_c Tryz.func252 ?_;refine r_z 2 ?_;refine AWp.ent (st':=⟨[(0,.arr (pE p)),(3,bP q)],[],1,8⟩) ?_ ?_;exact s_e [];refine r_c 4 (b) ?_;refine a_z ?_;exact ak (t_e (aw _))
theorem wE(p:Lq)(c:Rat)(h:ik [c,1] p)(hp:p.length<=274877906944):FS 206 [.arr (pE p),.agg (qC c)] (.arr (pE (cJ [c,1] p))):=by
 refine f_c Tryz.func206 ?_;refine r_z 2 ?_;refine r_c 5 (fs_line c) ?_;refine c_s (E0 p [c,1] h hp) ?_;refine a_z ?_;exact ak (t_e (aw _))
def coS:Nat×Nat->AState
 |(a,b)=>⟨[(2,.lptr 1 0 0),(3,.lptr 2 0 0),(4,.lptr 3 0 0)],[(1,some ⟨42,3,[qC (nQ a)]⟩),(2,some ⟨42,3,[qC (nQ b)]⟩),(3,some ⟨42,3,[zC]⟩)],4,18⟩
theorem wX(a:Nat)(b:Nat):coS (a,b)=⟨[(2,.lptr 1 0 0),(3,.lptr 2 0 0),(4,.lptr 3 0 0)],[(1,some ⟨42,3,[qC (nQ a)]⟩),(2,some ⟨42,3,[qC (nQ b)]⟩),(3,some ⟨42,3,[zC]⟩)],4,18⟩:=rfl
theorem wA(a b:Nat)(ha:bl a<=68719476736)(hb:bl b<=68719476736):FS 295 [.agg (qC (nQ a)),.agg (qC (nQ b))] (.agg (qC (nQ (Nat.gcd a b)))):=by
 refine f_c Tryz.func295 ?_;refine r_z 3 ?_;refine bD (λ_:Unit=>coS (Nat.gcd a b,0)) (λ_=>True) ?_ ?_;refine aj (aC coS (λx=>x.2) (λx=>Nat.gcd x.1 x.2=Nat.gcd a b/\bl x.1<=68719476736/\bl x.2<=68719476736) (a,b) ⟨rfl,ha,hb⟩ ?_ ?_);simp only[wX];exact s_e [];rintro⟨u,v⟩ ⟨m,i,hv⟩;simp only at m i hv;rw[wX];refine ae (r_c 3 (cX (nQ v)) ?_);refine a_z ?_;refine au rfl (λh=>?_) (λh=>?_)
 have c:v≠0:=by
  intro e;subst e;exact absurd h δ
 refine an ?_;have o:=lP (n:=u) i δ;have p:=lP (n:=v) hv δ;have q:=fS (nQ u) (nQ v);have d:=hZ (nQ u) (nQ v) (λe=>c (nQ_zero.1 e)) ω;have g:=re (nQ u/ nQ v) ω;rw[zU u v c,B2 u v c] at g;rw[zU u v c] at d;have s:=lP (n:=u/ v) (k:=68719476736) (fo (fy u v) i) δ;have f:=cQ (nQ v) (nQ (u/ v)) ω;rw[Kr] at f;have l:v* (u/ v)<=u:=OJ u v;have r:=lP (n:=v* (u/ v)) (k:=68719476736) (fo (dQ l) i) δ;have j:=lC (nQ u) (nQ (v* (u/ v))) ω;rw[nQ_sub l,show u- v* (u/ v)=u % v by have:=MX u v;omega] at j;refine aj (r_d ba 11 ?_);refine c_s (d) ?_;refine c_s (g) ?_;refine c_s (f) ?_;refine c_s (j) ?_;refine a_2 ?_;refine aq (n_k ?_);refine⟨(v,u % v),EC _ ω,⟨?_,hv,fo (dQ (Nat.mod_le u v)) i⟩,?_⟩;rw[<-m];show Nat.gcd v (u % v)=Nat.gcd u v;rw[Oe v,Oe u v,<-Pr];simp only[wX];exact s_e []
 have c:v=0:=by
  have o:sgZ (nQ v).num=0:=by simpa using h
  exact nQ_zero.1 (sgZ_num_eq.1 o)
 subst c;rw[Nat.gcd_zero_right] at m;refine ay ⟨(),trivial,?_⟩;rw[<-m];simp only[wX];exact s_e [];rintro _ _;simp only[wX];refine r_z 2 ?_;exact ak (c_e (aU _))
def prS(t:Lq):Nat×Nat->AState
 |(i,d)=>⟨[(0,.arr (pE t)),(3,.lptr 1 0 0),(4,.lptr 2 0 0),(13,.arr (pE t)),(14,i64 t.length),(15,i64 i)],[(1,some ⟨42,3,[qC (nQ d)]⟩),(2,some ⟨42,3,[qC 0]⟩)],3,47⟩
def prT(t:Lq)(D:Nat):Nat×Nat->AState
 |(i,n)=>⟨[(0,.arr (pE t)),(3,.lptr 1 0 0),(4,.lptr 2 0 0),(29,.arr (pE t)),(30,i64 t.length),(31,i64 i)],[(1,some ⟨42,3,[qC (nQ D)]⟩),(2,some ⟨42,3,[qC (nQ n)]⟩)],3,47⟩
theorem AI{l:Lq}{i:Nat}(h:i< l.length):l.drop i=coP l i::l.drop (i+1):=by
 rw[DA h];congr 1;have:=cm h;rw[eT h] at this;exact Option.some.inj this
theorem Ml(a b:Nat):bl (Nat.gcd a b)<=max (bl a) (bl b):=by
 rcases zW a with h|h
 subst h;rw[Nat.gcd_zero_left];exact NX _ _;exact fo (dQ (Nat.gcd_le_left b h)) (OA _ _)
theorem qY(p:Lq)(h:v6 p)(h0:am p≠[]):FS 266 [.arr (pE p)] (.arr (pE (cn p))):=by
 obtain⟨t,C⟩:∃t,t=am p:=⟨_,rfl⟩;obtain⟨s,hs⟩:∃s,s=mxL p:=⟨_,rfl⟩;have hs1:1<=s:=by rw[hs];exact dB p
 have f:bdL t s:=λq hq=>by rw[hs];exact dO p q (cS (by rw[<-C];exact hq))
 have M:t.length<=p.length:=by rw[C];exact bm p
 obtain⟨H,Y⟩:=h;rw[<-hs] at H;have hts:t.length* s<=p.length* s:=mC _ M;rw[zu] at H;obtain⟨D,G⟩:∃D,D=iS t 1:=⟨_,rfl⟩;have Q:D≠0:=by rw[G];exact rH t δ
 have hDb:bl D<=1+t.length* s:=by rw[G];exact AN t 1 f
 have F:∀c∈t,c.den∣D:=by rw[G];exact(mf t 1).2
 obtain⟨N,hN⟩:∃N,N=ji D t 0:=⟨_,rfl⟩
 have b:aL p∈t:=by
  rw[C];obtain⟨n,w⟩:∃n,(am p).length=n+1:=⟨(am p).length- 1,by have:=nB.2 h0;omega⟩;exact mc (dt w)
 have j:=(qD D t 0).2 (aL p) b;rw[<-hN] at j;have W:=Ab (F _ b) Q (df h0);have S:N≠0:=λe=>W (by rw[e] at j;exact Nat.zero_dvd.1 j);have hNb:bl N<=s+bl D:=fo (dQ (Pj ω j)) (fo (Ac _ _) (by have:=f _ b;omega));have R:cn p=aW t (nQ D/ nQ N):=by unfold cn;rw[<-C,<-G,<-hN]
 rw[R];have l:∀i,i< t.length->(pE t)[((i:Nat):Int).toNat]?=some (qC (coP t i)):=λi u=>pE_get (cm u);have g:∀i,i< t.length->coP t i∈t:=λi u=>mc (cm u);have J:=ee p ω;rw[<-C] at J;refine f_c Tryz.func266 ?_;refine r_z 1 ?_;refine r_c 3 (J) ?_;refine a_z ?_;refine r_c 6 (dM 1 δ) ?_;refine a_z ?_;refine ae (r_z 3 ?_);refine aJ (λ_:Unit=>⟨[(0,.arr (pE t)),(3,.lptr 1 0 0),(4,.lptr 2 0 0)],[(1,some ⟨42,3,[qC (nQ D)]⟩),(2,some ⟨42,3,[qC 0]⟩)],3,47⟩) (λ_=>True) ?_ ?_;refine aj (aC (prS t) (λx=>t.length- x.1) (λx=>x.1<=t.length/\x.2≠0/\iS (t.drop x.1) x.2=D) (0,1) ⟨mN _,δ,by rw[G];rfl⟩ ?_ ?_);simp only[prS.eq_1];rw[qC0];exact s_e [(1,3),(2,4)];rintro⟨i,d⟩ ⟨u,y,z⟩;simp only at u y z;rw[prS.eq_1];refine r_z 1 ?_;refine ae (au rfl (λh=>?_) (λh=>?_));refine an ?_;have a:i< t.length:=by simpa using h
 have hc:=f _ (g i a);have hcd:=eu (coP t i);have L:=(coP t i).den_nz;rw[AI a] at z;have O:d∣D:=by rw[<-z];exact(mf _ d).1
 have Z:=dQ (Pj ω O);have A:=lP (n:=d) (k:=34359738368) ω δ;have X:=lP (n:=(coP t i).den) (k:=34359738368) ω δ;have m:=cQ (nQ d) (nQ (coP t i).den) ω;have r:=wA d (coP t i).den ω ω;have v:Nat.gcd d (coP t i).den≠0:=by have:=Nat.gcd_pos_of_pos_left (coP t i).den (Nat.pos_of_ne_zero y);omega
 have T:=Ml d (coP t i).den;have U:=lP (n:=Nat.gcd d (coP t i).den) (k:=34359738368) ω δ;have K:=cP (nQ d) (nQ (coP t i).den);rw[Kr] at K m;have E:=hZ (nQ (d* (coP t i).den)) (nQ (Nat.gcd d (coP t i).den)) (λe=>v (nQ_zero.1 e)) ω;rw[zU _ _ v,yb _ _ v (Nat.dvd_mul_right_of_dvd (O4 _ _) _)] at E;refine ae (aj (s_r 4 ?_));refine bZ (.index_a rfl rfl ω (l i a) rfl te_62.h) rfl rfl ?_;refine bZ (.load_a rfl (l i a) TG.h TS.h (nle rfl)) rfl rfl ?_;refine a_z ?_;refine r_d ba 10 ?_;refine c_s (Lp (coP t i) (by unfold sm;omega)) ?_;refine c_s (m) ?_;refine c_s (Lp (coP t i) (by unfold sm;omega)) ?_;refine c_s (r) ?_;refine c_s (E) ?_;refine a_1 ?_;refine aq (n_k ?_);refine r_m 2 ?_;refine a_z ?_;refine⟨(i+1,Nat.lcm d (coP t i).den),by simp only;omega,⟨a,GM y L,z⟩,?_⟩;simp only[prS.eq_1];exact s_e []
 have o:i=t.length:=by
  have:¬i< t.length:=by simpa using h
  omega
 subst o;rw[DJ] at z;refine ay ⟨(),trivial,?_⟩;rw[<-z];exact s_e [];rintro _ _;refine ae (r_z 3 ?_);refine aJ (λ_:Unit=>⟨[(0,.arr (pE t)),(3,.lptr 1 0 0),(4,.lptr 2 0 0)],[(1,some ⟨42,3,[qC (nQ D)]⟩),(2,some ⟨42,3,[qC (nQ N)]⟩)],3,47⟩) (λ_=>True) ?_ ?_;refine aj (aC (prT t D) (λx=>t.length- x.1) (λx=>x.1<=t.length/\bl x.2<=s+bl D/\ji D (t.drop x.1) x.2=N) (0,0) ⟨mN _,by rw[bl_zero];exact mN _,by rw[hN];rfl⟩ ?_ ?_);simp only[prT.eq_1];exact s_e [];rintro⟨i,n⟩ ⟨u,V,w⟩;simp only at u V w;rw[prT.eq_1];refine r_z 1 ?_;refine ae (au rfl (λh=>?_) (λh=>?_));refine an ?_;have a:i< t.length:=by simpa using h
 have hc:=f _ (g i a);rw[AI a] at w;have hib:=Ac (coP t i) D;have T:=Ml n (iZ (coP t i) D);have A:=lP (n:=D) (k:=34359738368) ω δ;have m:=cQ (coP t i) (nQ D) ω;have B:=sR (coP t i* nQ D);rw[qF _ _ (F _ (g i a))] at B;have r:=wA n (iZ (coP t i) D) ω ω;refine ae (aj (s_r 4 ?_));refine bZ (.index_a rfl rfl ω (l i a) rfl te_62.h) rfl rfl ?_;refine bZ (.load_a rfl (l i a) TG.h TS.h (nle rfl)) rfl rfl ?_;refine a_z ?_;refine r_d ba 7 ?_;refine c_s (m) ?_;refine c_s (B) ?_;refine c_s (r) ?_;refine a_1 ?_;refine aq (n_k ?_);refine r_m 2 ?_;refine a_z ?_;refine⟨(i+1,Nat.gcd n (iZ (coP t i) D)),by simp only;omega,⟨a,by simp only;omega,w⟩,?_⟩;simp only[prT.eq_1];exact s_e []
 have o:i=t.length:=by
  have:¬i< t.length:=by simpa using h
  omega
 subst o;rw[DJ] at w;refine ay ⟨(),trivial,?_⟩;rw[<-w];exact s_e [];rintro _ _;have A:=lP (n:=D) (k:=34359738368) ω δ;have X:=lP (n:=N) (k:=34359738368) ω δ;have U:=fS (nQ D) (nQ N);refine r_c 6 (hZ (nQ D) (nQ N) (λe=>S (nQ_zero.1 e)) ω) ?_;refine c_s (eY t (nQ D/ nQ N) (ek f ω) (by unfold sm;omega) ω) ?_;refine a_z ?_;exact ak (t_e (aw _))
theorem xr(f:Nat)(p r:Lq)(h:vn f p=some r):FS 219 [.arr (pE p)] (.arr (pE r)):=by
 unfold vn at h;split at h
 case isFalse=>cases h
 case isTrue hs=>
 obtain⟨g,c,a⟩:=vd.1 h;split at a
 case isFalse=>cases a
 case isTrue hg2=>
 cases a;have d:=iC p;have b:=me (p:=p) (q:=g);refine f_c Tryz.func219 ?_;refine r_z 1 ?_;refine r_c 11 (oK p hs.1 ω) ?_;refine c_s (LA f p (aQ p) g c hs.2 ω) ?_;refine c_s (ma p g (mxL p) (mxL g) (dO p) (dO g) (dB p) (dB g) hg2.2.1 hg2.1 hs.2 hg2.2.2.2) ?_;refine a_z ?_;refine r_c 3 (wv (bJ p g).1 (AL hg2.2 hg2.1).1 ω) ?_;refine a_z ?_;exact ak (t_e (aw _))
theorem Lf(p:Lq)(hp:p.length<=1099511627776):FS 141 [.arr (pE p)] (i64 (pu p)):=by
 refine f_c Tryz.func141 ?_;refine r_z 1 ?_;refine ae (r_c 3 (ce p hp) ?_);refine a_z ?_;refine aJ (λ_:Unit=>⟨[],[],1,12⟩) (λ_=>pu p=0) ?_ ?_;refine aj (r_z 3 ?_);refine au rfl (λh=>?_) (λh=>?_);have a:a8 p< 0:=by simpa using h
 refine r_z 1 ?_;refine ak (a7 rfl ?_ ?_);unfold pu;rw[if_pos a];rfl;exact ah _;have a:¬a8 p< 0:=by simpa using h
 refine r_z 3 ?_;refine au rfl (λb=>?_) (λb=>?_);have c:40< a8 p:=by simpa using b
 refine r_z 1 ?_;refine ak (a7 rfl ?_ ?_);unfold pu;rw[if_neg a,if_pos c];rfl;exact ah _;have c:¬40< a8 p:=by simpa using b
 refine an ⟨(),by unfold pu;rw[if_neg a,if_neg c],?_⟩;exact s_e [];rintro _ d;refine r_z 1 ?_;refine ak (a7 rfl ?_ ?_);rw[d];rfl;exact ah _
def boS(t:Lq)(l:Lq):Nat×Rat->AState
 |(i,m)=>⟨[(0,.arr (pE t)),(2,.lptr 1 0 0),(3,.lptr 2 0 0),(13,.arr (pE l)),(14,i64 l.length),(15,i64 i)],[(1,some ⟨42,3,[zC]⟩),(2,some ⟨42,3,[qC m]⟩)],3,31⟩
theorem Ct(p:Lq)(h:oz p)(h0:am p≠[]):FS 140 [.arr (pE p)] (.agg (qC (cg p))):=by
 obtain⟨G,F⟩:=h;obtain⟨t,f⟩:∃t,t=am p:=⟨_,rfl⟩;have o:=ee p ω;have w:=bm p;rw[<-f] at o w;obtain⟨l,s⟩:∃l,l=t.take (t.length- 1):=⟨_,rfl⟩;have a:l.length=t.length- 1:=by rw[s];simp
 have v:bdL l (mxL p):=λq y=>dO p q (cS (by rw[<-f];exact AG (by rw[<-s];exact y)));have D:0< t.length:=by rw[f];exact nB.2 h0
 have e:aL t=aL p:=by rw[f,Ex]
 have L:qs (aL p)<=mxL p:=by
  obtain⟨n,K⟩:∃n,(am p).length=n+1:=⟨(am p).length- 1,by rw[<-f];omega⟩;exact dO p _ (cS (mc (dt K)))
 have hb:cg p=boL (aL p) l 0+1:=by unfold cg;rw[<-f,<-s]
 rw[hb];obtain⟨B,E⟩:∃B,B=boL (aL p) l 0:=⟨_,rfl⟩;rw[<-E];refine f_c Tryz.func140 ?_;refine r_z 1 ?_;refine r_c 3 (o) ?_;refine a_z ?_;refine r_z 3 ?_;refine ae (s_r 7 ?_);refine a_4 ?_;refine o_0 (.sa_h rfl rfl (h:=t.length- 1) ω ψ te_62.h (mM _)) ?_;refine a_z ?_;refine aJ (λ_:Unit=>⟨[(2,.lptr 1 0 0),(3,.lptr 2 0 0)],[(1,some ⟨42,3,[zC]⟩),(2,some ⟨42,3,[qC B]⟩)],3,31⟩) (λ_=>qs B<=2* mxL p+1) ?_ ?_;refine aj (aC (boS t l) (λx=>l.length- x.1) (λx=>x.1<=l.length/\qs x.2<=2* mxL p+1/\boL (aL p) (l.drop x.1) x.2=B) (0,0) ⟨mN _,fo (by decide:qs 0<=1) (Nd 1 _),by rw[E];rfl⟩ ?_ ?_);simp only[boS.eq_1];rw[qC0];have d:AV.arr (List.take (t.length- 1) (pE t))=AV.arr (pE l):=by rw[s,uF]
 refine s_x [(1,2),(2,3)] (λhs=>?_) (λhs=>?_) ?_
 ·repeat' (first|exact aV|refine aA rfl ?_ ?_|exact Cv.loE hs d (d▸aw l)|exact aZ|(refine Cv.loE hs ?_ (ah _);first|rfl|(simp[i64,u64,u32,bln,a];done)|(simp[i64,u64,u32,bln,a]<;> omega)))
 ·repeat' (first|exact aF|refine h_c ?_ ?_|exact bG|(refine aM hs ?_ (aK _);first|(simp[jg,ki,a];done)|(simp[pE,ofV,a];done))|refine aB ?_|exact av|refine ai ?_ ?_|exact Cv.loE hs d (d▸aw l)|exact aZ|(refine Cv.loE hs ?_ (ah _);first|(simp[i64,u64,u32,bln,a];done)|(simp[i64,u64,u32,bln,a]<;> omega)))
 ·repeat' (first|exact ShrL.nil|refine ShrL.cons rfl rfl rfl rfl (by first|rfl|(simp;done)|(simp[a]<;> omega)) ?_)
 rintro⟨i,m⟩ ⟨J,C,b⟩;simp only at J C b;rw[boS.eq_1];refine r_z 1 ?_;refine ae (au rfl (λh=>?_) (λh=>?_));refine an ?_;have c:i< l.length:=by simpa using h
 have j:(pE l)[((i:Nat):Int).toNat]?=some (qC (coP l i)):=pE_get (cm c);have N:qs (coP l i)<=mxL p:=v _ (mc (cm c));rw[AI c] at b;have y:=fS (coP l i) (aL p);have r:=lh t ω;rw[e] at r;have H:=Ea (coP l i/ aL p)
 have g:bdL [m,fN (coP l i/ aL p)] (2* mxL p+1):=by
  intro x A;rcases pY.1 A with rfl|A
  exact C;rw[kI.1 A];omega
 have z:=An [m,fN (coP l i/ aL p)] (ek g ω) ψ;refine ae (aj (s_r 4 ?_));refine i_x j ?_;refine l_x j ?_;refine a_z ?_;refine r_d ba 9 ?_;refine c_s (r) ?_;refine c_s (hZ (coP l i) (aL p) (df h0) ω) ?_;refine c_s (sR (coP l i/ aL p)) ?_;refine a_1 ?_;refine o_1 (.callS1 rfl rfl rfl (.shut rfl d_n (.nil)) rfl (z)) ?_;refine a_1 ?_;refine aq (n_k ?_);refine r_m 2 ?_;refine a_z ?_;refine⟨(i+1,lY [m,fN (coP l i/ aL p)]),by simp only;omega,⟨c,GI g (Nd 1 _),b⟩,?_⟩;simp only[boS.eq_1];exact s_e []
 have u:i=l.length:=by
  have:¬i< l.length:=by simpa using h
  omega
 subst u;rw[DJ] at b;have k:m=B:=b;subst k;refine ay ⟨(),C,?_⟩;exact s_e [];rintro _ y;have M:qs 1=1:=δ
 refine ae (r_d ba 4 ?_);refine c_s (dM 1 δ) ?_;refine c_s (eS B 1 ω) ?_;refine a_1 ?_;refine aq (n_k ?_);exact ak (c_e (aU _))
def stS:Lq×Lw->AState
 |(next,acc)=>⟨[(3,.lsl 1 0 acc.length none 1),(4,.arr (pE next))],[(1,some ⟨62,1,cE acc⟩)],2,40⟩
theorem DV(next:Lq)(acc:Lw):stS (next,acc)=⟨[(3,.lsl 1 0 acc.length none 1),(4,.arr (pE next))],[(1,some ⟨62,1,cE acc⟩)],2,40⟩:=rfl
theorem HV(p:Lq):(cn p).length<=p.length:=
 fo (du _ _) (bm p)
theorem K3(f:Nat)(p:Lq)(r:Lw)(h:lr f p=some r)(hf:f<=1000000):FS 220 [.arr (pE p)] (.arr (cE r)):=by
 unfold lr at h;split at h
 case isFalse=>cases h
 case isTrue hp=>
 have t:=iC p;have l:=hp.2.1.2;refine f_c Tryz.func220 ?_;refine r_z 1 ?_;refine r_c 4 (qY p hp.2.1 hp.2.2) ?_;refine a_z ?_;refine ae (r_c 3 (oK p hp.1 ω) ?_);refine a_z ?_;refine aJ (λ_:Unit=>⟨[(3,.lsl 1 0 r.length none 1)],[(1,some ⟨62,1,cE r⟩)],2,40⟩) (λ_=>True) ?_ ?_
 ·refine aj (aC (λx:Nat×Lq×Lq×Lw=>stS x.2.2) (λx=>x.1) (λx=>lF f x.1 x.2.1 x.2.2.1 x.2.2.2=some r/\x.2.2.1.length<=274877906944/\x.2.2.2.length+x.1<=1000001/\1<=x.2.2.2.length/\x.2.2.2[x.2.2.2.length- 1]?=some x.2.1) (f,cn p,aQ p,[cn p]) ⟨h,by simp only;omega,by simp only[xb];omega,ψ,rfl⟩ ?_ ?_)
  simp only[DV];have:=kw [cn p];exact s_f [(1,3)];rintro⟨k,last,next,a⟩ ⟨h,u,m,d,b⟩;simp only at h u m d b;simp only[DV];cases k with
  |zero=>cases h
  |succ k=>
   rw[lF] at h;refine ae (r_c 3 (ce next ω) ?_);refine a_z ?_;refine au rfl (λg=>?_) (λg=>?_)
   ·have c:am next≠[]:=by
     intro e;have e2:=degP_neg.2 e;simp at g;omega
    rw[if_neg c] at h;split at h
    case isFalse=>cases h
    case isTrue hs=>
    have v:=HV next
    have s:=me (p:=last) (q:=cn next);have o:=du (bJ last (cn next)).2 (-1);have n:=hs.2.1.2.1
    have i:(cE (a++[cn next]))[0+(((a.length+1:Nat):Int)- 2).toNat]?=some [.arr (pE last)]:=by
     rw[show 0+(((a.length+1:Nat):Int)- 2).toNat=a.length- 1 by omega];exact Fv (by rw[Bg ω];exact b)
    have j:(cE (a++[cn next]))[0+(((a.length+1:Nat):Int)- 1).toNat]?=some [.arr (pE (cn next))]:=by
     rw[show 0+(((a.length+1:Nat):Int)- 1).toNat=a.length by omega];exact Fv ψ
    refine an (aj (r_c 6 (qY next hs.1 c) ?_));refine a_z ?_;refine AWp.ent (st':=⟨[(3,.lsl 1 0 (a.length+1) none 1)],[(1,some ⟨62,1,cE (a++[cn next])⟩)],2,40⟩) ?_ ?_
    ·have:=(cE_snoc a (cn next)).symm
     exact s_f [(1,3)]
    refine ae (r_d ba 18 ?_);refine a_5 ?_;refine bZ (.load_l1 rfl rfl i TG.h rfl) rfl rfl ?_;refine a_5 ?_;refine bZ (.load_l1 rfl rfl j TG.h rfl) rfl rfl ?_;refine c_s (ma last (cn next) (mxL last) (mxL (cn next)) (dO _) (dO _) (dB _) (dB _) hs.2.1.1 hs.2.2 hs.2.1.2.1 hs.2.1.2.2) ?_;refine a_5 ?_;refine aq (n_k ?_);refine r_m 4 ?_;refine c_s (dM (-1) δ) ?_;refine c_s (eY (bJ last (cn next)).2 (-1) (AL hs.2.1 hs.2.2).2 δ ω) ?_;refine a_z ?_;refine⟨(k,cn next,aW (bJ last (cn next)).2 (-1),a++[cn next]),Ed k,⟨h,by simp only;omega,by simp only[zq,xb];omega,ψ,ψ⟩,?_⟩;have b:(a++[cn next]).length=a.length+1:=ψ
    simp only[DV,b];exact s_f []
   ·have c:am next=[]:=by
     refine degP_neg.1 ?_;simp at g;omega
    rw[if_pos c] at h;cases h;refine ay ⟨(),trivial,?_⟩;exact s_f []
 rintro _ _;refine r_z 2 ?_;exact ak (Fin.tmpS rfl rfl rfl ψ (kw r))
def chS(ch:Lw)(g:Nat)(cap:La):Nat×Int×Int->AState
 |(i,n,last)=>⟨[(1,.clos g [] cap),(5,i64 n),(6,i64 last),(10,.arr (cE ch)),(11,i64 ch.length),(12,i64 i)],[],1,30⟩
theorem wB(ch:Lw)(g:Nat)(cap:La)(sg:Lq->Int)(hcap:∀c∈cap,Closed c)(hsg:∀q∈ch,-1<=sg q/\sg q<=1)(hl:ch.length<=274877906944)(hg:∀q∈ch,FS g ((.arr (pE q)::cap).map coe) (i64 (sg q))):FS 221 [.arr (cE ch),.clos g [] cap] (i64 (chL (ch.map sg) 0 0)):=by
 refine f_n Tryz.func221 ?_ ?_;exact ac (oV ch) (ac (aX af hcap) af);refine r_z 1 ?_;refine r_z 2 ?_;refine ae (r_z 3 ?_);obtain⟨R,y⟩:∃R,R=chL (ch.map sg) 0 0:=⟨_,rfl⟩;rw[<-y];refine aJ (λ_:Unit=>⟨[(5,i64 R)],[],1,30⟩) (λ_=>True) ?_ ?_;refine aj (aC (chS ch g cap) (λx=>ch.length- x.1) (λx=>x.1<=ch.length/\0<=x.2.1/\x.2.1<=x.1/\ -1<=x.2.2/\x.2.2<=1/\chL ((ch.drop x.1).map sg) x.2.1 x.2.2=R) (0,0,0) ⟨mN _,δ,δ,δ,δ,by rw[y];rfl⟩ ?_ ?_);simp only[chS.eq_1];exact s_x [] (λhs=>e_2) (λhs=>e_14);rintro⟨i,n,last⟩ ⟨A,j,t,k,m,b⟩;simp only at A j t k m b;rw[chS.eq_1];refine r_z 1 ?_;refine ae (au rfl (λh=>?_) (λh=>?_));refine an ?_;have a:i< ch.length:=by simpa using h
 obtain⟨q,p⟩:∃q,ch[i]?=some q:=⟨_,eT a⟩;have o:=mc p;have l:(cE ch)[((i:Nat):Int).toNat]?=some [.arr (pE q)]:=Fv p
 have z:ch.drop i=q::ch.drop (i+1):=by
  rw[DA a];rw[eT a] at p;rw[Option.some.inj p]
 rw[z,zo,chL] at b;have d:=hsg q o;refine ae (aj (s_r 3 ?_));refine i_x l ?_;refine l_1 l ?_;refine a_z ?_;refine r_c 4 (hg q o) ?_;refine a_z ?_;refine r_z 2 ?_;refine au rfl (λv=>?_) (λv=>?_);have f:sg q≠0:=by simpa using v
 rw[if_pos f] at b;refine ae (r_z 4 ?_);refine au rfl (λs=>?_) (λs=>?_);have w:sg q= -last:=by simpa using s
 rw[if_pos w] at b;refine r_m 3 ?_;refine a_z ?_;refine r_m 2 ?_;refine a_z ?_;refine r_m 2 ?_;refine a_z ?_;refine⟨(i+1,n+1,sg q),by simp only;omega,⟨a,by simp only;omega,by simp only;omega,d.1,d.2,b⟩,?_⟩;simp only[chS.eq_1];exact s_x [] (λhs=>e_2) (λhs=>e_14);have w:¬sg q= -last:=by simpa using s
 rw[if_neg w] at b;refine an (r_m 2 ?_);refine a_z ?_;refine r_m 2 ?_;refine a_z ?_;refine⟨(i+1,n,sg q),by simp only;omega,⟨a,j,by simp only;omega,d.1,d.2,b⟩,?_⟩;simp only[chS.eq_1];exact s_x [] (λhs=>e_2) (λhs=>e_14);have f:sg q=0:=by simpa using v
 rw[if_neg (λe=>e f)] at b;refine an (r_m 2 ?_);refine a_z ?_;refine⟨(i+1,n,last),by simp only;omega,⟨a,j,by simp only;omega,k,m,b⟩,?_⟩;simp only[chS.eq_1];exact s_x [] (λhs=>e_2) (λhs=>e_14)
 have r:i=ch.length:=by
  have:¬i< ch.length:=by simpa using h
  omega
 subst r;rw[DJ] at b;have u:n=R:=b;subst u;refine ay ⟨(),trivial,?_⟩;exact s_e [];rintro _ _;refine r_z 2 ?_;exact ak (t_e (ah _))
theorem EZ(q:Lq)(h0:am q≠[])(hl:q.length<=274877906944):FS 222 [.arr (pE q)] (i64 (sgI q)):=by
 have b:¬a8 q< 0:=λe=>h0 (degP_neg.1 e);have hb:=om (aL q).num;refine f_c Tryz.func222 ?_;refine r_z 1 ?_;refine ae (r_c 4 (ce q ω) ?_);refine a_z ?_;refine au rfl (λh=>?_) (λh=>?_);have a:a8 q % 2=1:=by simpa using h
 refine r_c 5 (lh q ω) ?_;refine c_s (cX (aL q)) ?_;refine a_z ?_;refine ak (a7 rfl ?_ ?_);unfold sgI;rw[if_pos a];rfl;exact ah _;have a:¬a8 q % 2=1:=by simpa using h
 refine an (r_c 4 (lh q ω) ?_);refine c_s (cX (aL q)) ?_;refine a_z ?_;refine ak (a7 rfl ?_ ?_);unfold sgI;rw[if_neg a];exact ah _
theorem oI(f:Nat)(p:Lq)(c:Cnt)(h:e8 f p=some c)(hf:f<=1000000):FS 142 [.arr (pE p)] (kA c):=by
 unfold e8 at h;obtain⟨s,hs,g⟩:=vd.1 h;obtain⟨ch,d,a⟩:=vd.1 g;split at a
 case isFalse=>cases a
 case isTrue hk=>
 cases a;have b:=wB ch 222 [] sgI af (λq _=>sgI_abs q) hk.2.1 (λq e=>EZ q (hk.1 q e).1 (hk.1 q e).2);refine f_c Tryz.func142 ?_;refine r_z 1 ?_;refine r_c 5 (xr f p s hs) ?_;refine a_z ?_;refine r_c 9 (K3 f s ch d hf) ?_;refine a_z ?_;refine r_c 9 (b) ?_;refine a_z ?_;refine r_z 2 ?_;exact ak (Fin.tmpP rfl rfl rfl (yG _))
theorem KX(q:Lq)(x:Rat)(h:eg q x):FS 223 [.arr (pE q),bQ x] (i64 (sgE x q)):=by
 refine f_c Tryz.func223 ?_;refine r_z 1 ?_;refine r_c 5 (fg q x h) ?_;refine c_s (cX (ag q x)) ?_;refine a_z ?_;exact ak (t_e (ah _))
theorem mQ(c:Cnt)(x:Rat)(h:sv c x):FS 144 [kA c,.agg (qC x)] (i64 (dR c x)):=by
 have a:=wB c.ch 223 [bQ x] (sgE x) (ac (cO x) af) (λq _=>om _) h.1.2.1 (λq b=>KX q x (h.2 q b));have hb:=nn (x:=x) h.1;unfold dR at hb⊢;refine f_c Tryz.func144 ?_;refine r_z 2 ?_;refine AWp.ent (st':=⟨[(0,kA c),(3,bQ x)],[],1,16⟩) ?_ ?_;exact s_e [];refine ae (r_d ba 12 ?_);refine c_s (a) ?_;refine a_2 ?_;refine aq (n_k ?_);exact ak (t_e (ah _))
theorem kU(c:Cnt)(x:Rat)(h:pp c x):FS 143 [kA c,.agg (qC x)] (i64 (dN c x)):=by
 have hb:=nn (x:=x) h.1.1;refine f_c Tryz.func143 ?_;refine r_z 2 ?_;refine r_c 4 (mQ c x h.1) ?_;refine a_z ?_;refine bD (λn:Int=>⟨[(5,i64 n)],[],1,20⟩) (λn=>n=dN c x) ?_ ?_;refine ae (r_d ba 8 ?_);refine c_s (fg c.p x h.2) ?_;refine c_s (cX (ag c.p x)) ?_;refine a_1 ?_;refine aq (n_k ?_);refine au rfl (λa=>?_) (λa=>?_)
 have b:ag c.p x=0:=by
  have:sgZ (ag c.p x).num=0:=by simpa using a
  exact sgZ_num_eq.1 this
 refine r_m 3 ?_;refine a_z ?_;refine⟨dR c x- 1,by unfold dN;rw[if_pos b],?_⟩;exact s_e []
 have b:ag c.p x≠0:=by
  intro e;have:¬sgZ (ag c.p x).num=0:=by simpa using a
  exact this (sgZ_num_eq.2 e)
 refine an ⟨dR c x,by unfold dN;rw[if_neg b],?_⟩;exact s_e [];rintro n rfl;refine r_z 2 ?_;exact ak (t_e (ah _))
theorem Ai(c:Cnt)(i:Int)(x:Rat)(h:pp c x):FS 314 [plA c i,.agg (qC x)] (i64 (plC c i x)):=by
 refine f_n Tryz.func314 ?_ ?_;exact ac (dH c i) (ac (aU x) af);refine r_z 2 ?_;refine ae (ae (r_d ba 7 ?_));refine c_s (kU c x h) ?_;refine a_1 ?_;refine aq (n_k ?_);refine aJ (λ_:Unit=>⟨[],[],1,36⟩) (λ_=>plC c i x=1) ?_ ?_;refine aj (r_z 7 ?_);refine au rfl (λd=>?_) (λd=>?_);have a:i< dN c x:=by simpa using d
 refine r_z 1 ?_;refine ak (a7 rfl ?_ ?_);unfold plC;rw[if_pos a];rfl;exact ah _;have a:¬i< dN c x:=by simpa using d
 by_cases h3:dN c x=i;refine ae (r_d ba 17 ?_);refine a_7 ?_;refine y_g rfl (by simp[h3]) (.move rfl) ?_;refine y_g rfl (by simp[h3]) (.nilCheck rfl rfl) ?_;refine y_g rfl (by simp[h3]) (.fieldAddr_a rfl TF.h δ) ?_;refine y_g rfl (by simp[h3]) (.load_a1 rfl rfl TG.h rfl) ?_;refine y_g rfl (by simp[h3]) (.load_l rfl rfl rfl TG.h TS.h (nle rfl)) ?_;refine y_g rfl (by simp[h3]) (.call rfl rfl rfl (mQ c x h.1)) ?_;refine y_g rfl (by simp[h3]) (.move rfl) ?_;refine y_g rfl (by simp[h3]) (.bin rfl rfl my) ?_;refine o_0 (.pickT rfl (by simp[h3]) rfl) ?_;refine a_1 ?_;refine aq (n_k ?_);refine au rfl (λb=>?_) (λb=>?_);have f:dN c x< dR c x:=by simpa using b
 refine r_z 1 ?_;refine ak (a7 rfl ?_ ?_);unfold plC;rw[if_neg a,if_pos ⟨h3,f⟩];rfl;exact ah _;have f:¬dN c x< dR c x:=by simpa using b
 refine an ⟨(),by unfold plC;rw[if_neg a,if_neg λe=>f e.2],?_⟩;exact s_e [];refine ae (r_d ba 17 ?_);refine a_7 ?_;refine n_g rfl (by simp[h3]) ?_;refine n_g rfl (by simp[h3]) ?_;refine n_g rfl (by simp[h3]) ?_;refine n_g rfl (by simp[h3]) ?_;refine n_g rfl (by simp[h3]) ?_;refine n_g rfl (by simp[h3]) ?_;refine n_g rfl (by simp[h3]) ?_;refine n_g rfl (by simp[h3]) ?_;refine o_0 (.pickF rfl (by simp[h3]) rfl) ?_;refine a_1 ?_;refine aq (n_k ?_);refine cF ?_;refine an ⟨(),by unfold plC;rw[if_neg a,if_neg λe=>h3 e.1],?_⟩;exact s_e [];rintro _ g;refine r_z 1 ?_;refine ak (a7 rfl ?_ ?_);rw[g];rfl;exact ah _
def hiV(c:Cnt)(step:Rat):Rat:=xf (cg c.p/ step)
def Kg(c:Cnt)(step:Rat)(lo:Rat):Prop:=oz c.p/\am c.p≠[]/\step≠0/\qs (cg c.p)+qs step<=549755813888/\qs lo+qs step<=549755813888/\pp c (lo* step)
instance (c:Cnt) (step lo:Rat):Decidable (Kg c step lo):=inferInstanceAs (Decidable (_/\_/\_/\_/\_/\_))
def L0(f:Nat)(c:Cnt)(i:Int)(step:Rat):Option (Rat×Bool):=
 (biM c i step f (-hiV c step) (hiV c step)).bind λlo=>if Kg c step lo then some (lo* step,plC c i (lo* step)==0) else none
def dnS(c:Cnt)(i:Int)(step:Rat):Rat×Rat->AState
 |(lo,hi)=>⟨[(0,plA c i),(3,.lptr 1 0 0),(4,.lptr 2 0 0),(6,.lptr 3 0 0),(7,.lptr 4 0 0),(8,.lptr 5 0 0)],[(1,some ⟨42,3,[qC step]⟩),(2,some ⟨42,3,[zC]⟩),(3,some ⟨42,3,[qC hi]⟩),(4,some ⟨42,3,[qC lo]⟩),(5,some ⟨42,3,[qC 2]⟩)],6,52⟩
theorem fs_down(f:Nat)(c:Cnt)(i:Int)(step:Rat)(r:Rat×Bool)(h:L0 f c i step=some r):FS 333 [plA c i,.agg (qC step)] (.tup [.agg (qC r.1),bln r.2]):=by
 unfold L0 at h;obtain⟨l,o,b⟩:=vd.1 h;split at b
 case isFalse=>cases b
 case isTrue hk=>
 cases b;obtain⟨j,s,m,v,n,q⟩:=hk;have y:=fS (cg c.p) step;refine f_n Tryz.func333 ?_ ?_;exact ac (dH c i) (ac (aU step) af);refine r_z 3 ?_;refine ae (r_d ba 13 ?_);refine c_s (Ct c.p j s) ?_;refine c_s (hZ (cg c.p) step m v) ?_;refine c_s (GY (cg c.p/ step) ω) ?_;refine a_2 ?_;refine aq (n_k ?_);refine r_c 4 (iP (xf (cg c.p/ step))) ?_;refine a_z ?_;refine r_c 3 (dM 2 δ) ?_;refine a_z ?_;refine bD (λa:Rat=>dnS c i step (l,a)) (λ_=>True) ?_ ?_
 ·refine aj (aC (λx:Nat×Rat×Rat=>dnS c i step x.2) (λx=>x.1) (λx=>biM c i step x.1 x.2.1 x.2.2=some l) (f,-hiV c step,hiV c step) o ?_ ?_)
  simp only[dnS.eq_1,hiV];exact s_e [(2,4),(3,6),(4,7),(5,8)];rintro⟨f,lo,a⟩ h;simp only at h;simp only[dnS.eq_1];cases f with
  |zero=>cases h
  |succ f=>
   rw[biM] at h;split at h
   case isFalse=>cases h
   case isTrue hs=>
   obtain⟨s1,s2,t⟩:=hs;refine ae (r_c 6 (lC a lo (sm2 s2 s1)) ?_);refine c_s (dM 1 δ) ?_;refine c_s (lD (a- lo) 1 t δ) ?_;refine a_z ?_;refine au rfl (λe=>?_) (λe=>?_)
   ·have b:0< eD (a- lo) 1:=by simpa using e
    rw[if_pos b] at h;split at h
    case isFalse=>cases h
    case isTrue ht=>
    obtain⟨t1,t2⟩:=ht;have k:=gT lo a;have w:qs 2=2:=δ
    have u:=fS (lo+a) 2;unfold sm at s1 s2;refine an (aj (ae (r_d ba 8 ?_)));refine c_s (eS lo a ω) ?_;refine c_s (hZ (lo+a) 2 δ ω) ?_;refine c_s (re ((lo+a) / 2) ω) ?_;refine a_2 ?_;refine aq (n_k ?_);refine r_c 6 (cQ (((lo+a) / 2).floor:Rat) step t1) ?_;refine c_s (Ai c i ((((lo+a) / 2).floor:Rat) * step) t2) ?_;refine a_z ?_;refine au rfl (λg=>?_) (λg=>?_);have d:0<=plC c i ((((lo+a) / 2).floor:Rat) * step):=by simpa using g
    rw[if_pos d] at h;refine r_m 2 ?_;refine a_z ?_;refine⟨(f,(((lo+a) / 2).floor:Rat),a),Ed f,h,?_⟩;simp only[dnS.eq_1];exact s_e [];have d:¬0<=plC c i ((((lo+a) / 2).floor:Rat) * step):=by simpa using g
    rw[if_neg d] at h;refine r_m 2 ?_;refine a_z ?_;refine⟨(f,lo,(((lo+a) / 2).floor:Rat)),Ed f,h,?_⟩;simp only[dnS.eq_1];exact s_e []
   have b:¬0< eD (a- lo) 1:=by simpa using e
   rw[if_neg b] at h;cases h;refine ay ⟨a,trivial,?_⟩;simp only[dnS.eq_1];exact s_e []
 rintro a _;simp only[dnS.eq_1];refine r_c 4 (cQ l step n) ?_;refine a_z ?_;refine ae (r_d ba 7 ?_);refine c_s (Ai c i (l* step) q) ?_;refine a_3 ?_;refine aq (n_k ?_);refine ak (Fin.many ⟨_,_,rfl,⟨_,_,_,_,_,rfl,rfl,rfl,.inl ⟨TG.h,_,TS.h,nle rfl,rfl⟩⟩,⟨_,_,rfl,rfl,rfl⟩⟩ (nle rfl) ?_);exact ai (ao aE (aU _)) (ai (ao aE (ah _)) av)
def vo(f:Nat)(c:Cnt)(i:Int)(k:Int):Option Sp:=
 (L0 f c i (ic (wi k 256))).bind λr=>if r.2 then some (r.1,r.1) else if qs r.1+qs (ic (wi k 256))<=549755813888 then some (r.1,r.1+ic (wi k 256)) else none
theorem fs_span(f:Nat)(c:Cnt)(i:Int)(k:Int)(s:Sp)(h:vo f c i k=some s):FS 312 [plA c i,i64 k] (.agg (spC s.1 s.2)):=by
 unfold vo at h;obtain⟨⟨a,g⟩,e,b⟩:=vd.1 h;refine f_n Tryz.func312 ?_ ?_;exact ac (dH c i) (ac (ah _) af);refine r_z 1 ?_;refine r_c 4 (rm k) ?_;refine a_z ?_;refine r_c 9 (fs_down f c i (ic (wi k 256)) (a,g) e) ?_;refine a_z ?_;refine ae (r_z 1 ?_);refine au rfl (λd=>?_) (λd=>?_);subst d;rw[if_pos rfl] at b;cases b;refine r_c 3 (CE a) ?_;refine a_z ?_;exact ak (c_e (ca _ _))
 ·subst d
  rw[if_neg (show¬false=true by decide)] at b;split at b
  case isFalse=>cases b
  case isTrue hs=>
  cases b;refine an (ae (r_d ba 6 ?_));refine c_s (eS a (ic (wi k 256)) hs) ?_;refine a_2 ?_;refine aq (n_k ?_);exact ak (c_e (ca _ _))
def nH(s:Sp):Rat:=(s.1+s.2) * ic 1
def BU(c:Cnt)(i:Int)(s:Sp):Sp:=if plC c i (nH s)=0 then(nH s,nH s) else if plC c i (nH s)=1 then(nH s,s.2) else(s.1,nH s)
def nE(c:Cnt)(s:Sp):Prop:=smS s/\pp c (nH s)
instance (c:Cnt) (s:Sp):Decidable (nE c s):=inferInstanceAs (Decidable (_/\_))
def di(c:Cnt)(i:Int)(s0:Sp):Nat->Sp
 |0=>s0
 |k+1=>BU c i (di c i s0 k)
def closT(c:Cnt)(i:Int)(s0:Sp)(k:Nat):Option La:=some [.agg (spC (di c i s0 k).1 (di c i s0 k).2)]
abbrev bPl(c:Cnt)(i:Int):AV:= .aptr [[plA c i]] 0 0
theorem dY(c:Cnt)(i:Int):Closed (bPl c i):=aN (ac (dH c i) af)
theorem sN(f:Nat)(c:Cnt)(i:Int)(s0:Sp)(K:Nat)(h:vo f c i 0=some s0)(hok:∀k,k< K->nE c (di c i s0 k)):GSpecB Tryz.prog 311 [bPl c i] (closT c i s0) K:=by
 refine GSpecB.enter Tryz.func311 rfl ξ rfl rfl rfl ?_ ?_ rfl ?_;exact ac (dY c i) af;intro k xs h;cases h;exact ac (ca _ _) af;intro ll N hN E;refine GWp.seq ?_;refine GWp.lift ?_;refine r_m 4 ?_;refine c_s (fs_span f c i 0 s0 h) ?_;refine a_z ?_;refine GWp.block ?_;refine GWp.loopS (λk:Nat=>⟨[(0,.v (.func (.yield ll) #[] #[])),(1,bPl c i),(3,.lptr 1 0 0)],[(1,some ⟨51,6,[spC (di c i s0 k).1 (di c i s0 k).2]⟩)],2,25⟩) (λk=>k) (λk=>N+1- k) (λk=>k<=N) 0 (mN _) rfl ?_ ?_;have:=dY c i;exact s_f [(1,3)];intro k p;refine GWp.seq ?_;refine GWp.seq ?_;refine GWp.regY (fr2:=[(0,.v (.func (.yield ll) #[] #[])),(1,bPl c i),(3,.lptr 1 0 0),(7,.v (.func (.yield ll) #[] #[])),(8,.agg (spC (di c i s0 k).1 (di c i s0 k).2))]) (hp2:=[(1,some ⟨51,6,[spC (di c i s0 k).1 (di c i s0 k).2]⟩)]) (nx2:=2) 2 rfl rfl rfl rfl rfl rfl ?_ rfl rfl rfl ?_ ?_ ?_;refine o_0 (.move rfl) ?_;refine bZ (.load_l rfl rfl rfl TG.h TS.h (nle rfl)) rfl rfl ?_;refine aq ?_;exact s_y [] (λhs=>dJ) (λhs=>lG);rotate_left 2;intro n;refine aq ?_;rotate_left;rfl;exact ac (ca _ _) af;cases n with
 |false=>
  refine GWp.cond rfl (λh=>?_) (λh=>?_);cases h;exact GWp.exit ⟨.inl rfl,λh=>by cases h⟩
 |true=>
  refine GWp.bound λb=>?_;refine GWp.cond rfl (λh=>?_) (λh=>?_);rotate_left;cases h;refine GWp.skip ?_;have o:=hok k ω;obtain⟨hs,hb⟩:=o;have a:di c i s0 (k+1)=BU c i (di c i s0 k):=rfl;obtain⟨s,g⟩:∃s,s=di c i s0 k:=⟨_,rfl⟩;rw[<-g] at hs hb a⊢;refine GWp.lift ?_;refine aj (r_c 4 (E1 s.1 s.2 hs.1 hs.2) ?_);refine a_z ?_;refine r_c 3 (Ai c i (nH s) hb) ?_;refine aq ?_;refine aj (r_z 2 ?_);refine au rfl (λl=>?_) (λl=>?_);have e:plC c i (nH s)=0:=by simpa using l
  have d:di c i s0 (k+1)=(nH s,nH s):=by rw[a];unfold BU;rw[if_pos e]
  refine r_m 3 ?_;refine c_s (CE (nH s)) ?_;refine a_z ?_;refine⟨rfl,k+1,ω,b,rfl,?_⟩;simp only[d];have:=dY c i;exact s_f [];have e:¬plC c i (nH s)=0:=by simpa using l
  refine r_z 2 ?_;refine au rfl (λm=>?_) (λm=>?_);have j:plC c i (nH s)=1:=by simpa using m
  have d:di c i s0 (k+1)=(nH s,s.2):=by rw[a];unfold BU;rw[if_neg e,if_pos j]
  refine r_m 3 ?_;refine a_z ?_;refine⟨rfl,k+1,ω,b,rfl,?_⟩;simp only[d];have:=dY c i;exact s_f [];have j:¬plC c i (nH s)=1:=by simpa using m
  have d:di c i s0 (k+1)=(s.1,nH s):=by rw[a];unfold BU;rw[if_neg e,if_neg j]
  refine r_m 3 ?_;refine a_z ?_;refine⟨rfl,k+1,ω,b,rfl,?_⟩;simp only[d];have:=dY c i;exact s_f []
theorem sP(c:Cnt)(i:Int):FS 279 [plA c i] (.clos 311 [] [bPl c i]):=by
 refine f_n Tryz.func279 ?_ ?_;exact ac (dH c i) af;refine r_z 2 ?_;refine r_z 2 ?_;refine ak (⟨.inr rfl,[_],⟨_,[],rfl,rfl,rfl⟩,?_⟩);exact Cv.clos av (ai (Cv.boxp aE rfl (λ_ _ h=>by cases h) rfl (ac (dH c i) af)) av)
def pD(t:Nat->Option Bool):Nat->Nat->Option Nat
 |0,_=>none
 |f+1,k=>match t k with
  |some true=>some k
  |some false=>pD t f (k+1)
  |none=>none
theorem li{t:Nat->Option Bool}:∀{f k0 k:Nat},pD t f k0=some k->t k=some true/\k0<=k/\∀j,k0<=j->j< k->t j=some false
 |0,_,_,h=>by cases h
 |f+1,k0,k,h=>by
  rw[pD] at h;split at h;cases h;exact⟨by assumption,ir _,λj b c=>by omega⟩;obtain⟨b,c,g⟩:=li h;refine⟨b,ω,λj d a=>?_⟩;by_cases e:j=k0;rw[e];assumption;exact g j ω a;cases h
def pQ(c:Cnt)(i:Int)(s:Sp):Option Bool:=if pp c s.1/\sv c s.2/\nE c s/\ -4611686018427387904<=i/\i<=4611686018427387904 then some (decide (dN c s.1=i/\dR c s.2=i+1)) else none
def alS(c:Cnt)(i:Int):Nat->AState
 |k=>⟨[(1,bPl c i),(2,.lptr 1 0 0),(3,.lptr 2 0 0),(6,.clos 311 [] [bPl c i])],[(1,some ⟨51,6,[zC++zC]⟩),(2,some ⟨51,6,[zC++zC]⟩)],3,37⟩
def alX(s:Sp):Unit->AState
 |u=>⟨[(2,.lptr 1 0 0),(3,.lptr 2 0 0)],[(1,some ⟨51,6,[zC++zC]⟩),(2,some ⟨51,6,[spC s.1 s.2]⟩)],3,37⟩
theorem Lt(f g:Nat)(c:Cnt)(i:Int)(s0:Sp)(kk:Nat)(h:vo f c i 0=some s0)(hk:pD (λk=>pQ c i (di c i s0 k)) g 0=some kk):FS 335 [plA c i] (.agg (spC (di c i s0 kk).1 (di c i s0 kk).2)):=by
 obtain⟨d,_,A⟩:=li hk
 have m:∀k,k<=kk->pp c (di c i s0 k).1/\sv c (di c i s0 k).2/\nE c (di c i s0 k)/\ -4611686018427387904<=i/\i<=4611686018427387904:=λk hk=>by
  have:∃b,pQ c i (di c i s0 k)=some b:=by
   by_cases e:k=kk;rw[e];exact⟨_,d⟩;exact⟨_,A k (mN _) ω⟩
  obtain⟨b,hb⟩:=this;unfold pQ at hb;split at hb;assumption;cases hb
 have y:=sN f c i s0 kk h (λk hk=>(m k ω).2.2.1);refine f_n Tryz.func335 ?_ ?_;exact ac (dH c i) af;refine r_z 2 ?_;refine r_z 1 ?_;refine AWp.ent (st':=⟨[(1,bPl c i),(2,.lptr 1 0 0),(3,.lptr 2 0 0)],[(1,some ⟨51,6,[zC++zC]⟩),(2,some ⟨51,6,[zC++zC]⟩)],3,37⟩) ?_ ?_;have:=(ac (dH c i) af);exact s_f [(1,2),(2,3)];refine ae (r_c 2 (sP c i) ?_);refine aq ?_;refine aJ (alX (di c i s0 kk)) (λ_=>True) ?_ ?_;refine aj (AWp.rangeFuncB (α:=Nat) (γ:=Unit) kk (alS c i) (λk=>k) (λk=>k<=kk) (alX (di c i s0 kk)) (λe _=>e= .exit 0) 0 rfl y rfl rfl ?_ (λ_=>⟨rfl,rfl⟩) (λ_=>rfl) (mN _) rfl (λ_ h=>h) ?_ ?_ ?_ ?_ ?_);intro k xs j;cases j;rfl;rw[alS.eq_1];have:=dY c i;exact s_t [];exact ac (dY c i) af;intro l k xs hk j;cases j;have B:=m k hk;obtain⟨s,a⟩:∃s,s=di c i s0 k:=⟨_,rfl⟩;rw[<-a] at B⊢;obtain⟨o,q,v,t,x⟩:=B;show AWp _ _ _ _ ⟨[(7,.agg (spC s.1 s.2)),(1,bPl c i),(2,.lptr 1 0 0),(3,.lptr 2 0 0),(6,.clos 311 [] [bPl c i]),(1001,bPl c i),(1002,.lptr 1 0 0),(1003,.lptr 2 0 0),(1006,.clos 311 [] [bPl c i])],[(1,some ⟨51,6,[zC++zC]⟩),(2,some ⟨51,6,[zC++zC]⟩)],3,37⟩;refine r_m 2 ?_;refine a_z ?_;refine aj ?_;by_cases hb:dN c s.1=i;refine ae (r_d ba 27 ?_);refine c_s (kU c s.1 o) ?_;refine a_6 ?_;refine y_g rfl (by simp[hb]) (.load_a1 rfl rfl TG.h rfl) ?_;refine y_g rfl (by simp[hb]) (.nilCheck rfl rfl) ?_;refine y_g rfl (by simp[hb]) (.fieldAddr_a rfl TF.h δ) ?_;refine y_g rfl (by simp[hb]) (.load_a1 rfl rfl TG.h rfl) ?_
 refine y_g rfl (by simp[hb]) (.fieldAddr_l rfl TF.h δ) ?_;refine y_g rfl (by simp[hb]) (.load_l rfl rfl rfl TG.h TS.h (nle rfl)) ?_;refine y_g rfl (by simp[hb]) (.call rfl rfl rfl (mQ c s.2 q)) ?_;refine y_g rfl (by simp[hb]) (.load_a1 rfl rfl TG.h rfl) ?_;refine y_g rfl (by simp[hb]) (.nilCheck rfl rfl) ?_;refine y_g rfl (by simp[hb]) (.fieldAddr_a rfl TF.h δ) ?_;refine y_g rfl (by simp[hb]) (.load_a1 rfl rfl TG.h rfl) ?_;refine y_g rfl (by simp[hb]) (.bin rfl rfl (Dr ω)) ?_;refine y_g rfl (by simp[hb]) (.bin rfl rfl cK) ?_;refine o_0 (.pickT rfl (by simp[hb]) rfl) ?_;refine aq (n_k ?_);refine au rfl (λw=>?_) (λw=>?_);have z:dR c s.2=i+1:=by simpa using w
 have n:k=kk:=by
  refine OB hk (Ez λr=>?_);have p:=A k (mN _) r;rw[<-a] at p;unfold pQ at p;rw[if_pos ⟨o,q,v,t,x⟩] at p;simp[hb,z] at p
 subst n;refine r_z 2 ?_;refine ay (⟨rfl,(),rfl,?_⟩);rw[<-a];show SEntT _ ⟨[(1002,.lptr 1 0 0),(1003,.lptr 2 0 0)],[(1,some ⟨51,6,[zC++zC]⟩),(2,some ⟨51,6,[spC s.1 s.2]⟩)],3,37⟩;exact s_y [] (λhs=>dJ) (λhs=>lG);have z:¬dR c s.2=i+1:=by simpa using w
 have n:k< kk:=by
  refine Oh hk λe=>?_;subst e;rw[<-a] at d;unfold pQ at d;rw[if_pos ⟨o,q,v,t,x⟩] at d;simp[z] at d
 refine an (⟨k+1,⟨n,rfl⟩,?_⟩);show SEntT _ ⟨[(1001,bPl c i),(1002,.lptr 1 0 0),(1003,.lptr 2 0 0),(1006,.clos 311 [] [bPl c i])],[(1,some ⟨51,6,[zC++zC]⟩),(2,some ⟨51,6,[zC++zC]⟩)],3,37⟩;exact s_y [] (λhs=>dJ) (λhs=>lG);refine ae (r_d ba 27 ?_);refine c_s (kU c s.1 o) ?_;refine a_6 ?_;refine n_g rfl (by simp[hb]) ?_;refine n_g rfl (by simp[hb]) ?_;refine n_g rfl (by simp[hb]) ?_;refine n_g rfl (by simp[hb]) ?_;refine n_g rfl (by simp[hb]) ?_;refine n_g rfl (by simp[hb]) ?_;refine n_g rfl (by simp[hb]) ?_;refine n_g rfl (by simp[hb]) ?_;refine n_g rfl (by simp[hb]) ?_;refine n_g rfl (by simp[hb]) ?_;refine n_g rfl (by simp[hb]) ?_;refine n_g rfl (by simp[hb]) ?_;refine n_g rfl (by simp[hb]) ?_;refine o_0 (.pickF rfl (by simp[hb]) rfl) ?_;refine aq (n_k ?_);refine cF ?_
 have n:k< kk:=by
  refine Oh hk λe=>?_;subst e;rw[<-a] at d;unfold pQ at d;rw[if_pos ⟨o,q,v,t,x⟩] at d;simp[hb] at d
 refine an (⟨k+1,⟨n,rfl⟩,?_⟩);show SEntT _ ⟨[(1001,bPl c i),(1002,.lptr 1 0 0),(1003,.lptr 2 0 0),(1006,.clos 311 [] [bPl c i])],[(1,some ⟨51,6,[zC++zC]⟩),(2,some ⟨51,6,[zC++zC]⟩)],3,37⟩;exact s_y [] (λhs=>dJ) (λhs=>lG);intro k hk j;cases j;rintro e u rfl;exact⟨u,trivial,SEnt.refl _⟩;rintro u _;rw[alX.eq_1];refine r_z 2 ?_;exact ak (c_e (ca _ _))
end Go.Proofs.YtjmkjicckobojaaGreatDoor
