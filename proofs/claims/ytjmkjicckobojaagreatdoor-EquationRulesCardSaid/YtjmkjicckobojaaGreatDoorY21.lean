/- Part Y21 of the proof. -/
import Derived.Test.YtjmkjicckobojaaGreatDoorY20
set_option linter.all false
namespace Go.Proofs.YtjmkjicckobojaaGreatDoor
open Go.Abs
set_option maxRecDepth 20000
theorem IQ(n:Nat):((ax MB n).length==0)=(n==0):=by
 rw[Nv];simp only[beq_iff_eq,vv];exact jR δ
theorem nP(n:Nat):FS 132 [.agg [mag n]] (bln (n==0)):=by
 rw[<-IQ];exact GW _
theorem ft(b:Bool)(m:Nat):FS 89 [bln b,.agg [mag m]] (.agg (zI (sgn b m))):=by
 have e:AV.agg (zI (sgn b m))= .agg [mag m,bln (b && !(m==0))]:=by unfold zI;rw[ga,sgn_neg]
 rw[e];refine f_c Tryz.func89 ?_;cases b with
 |true=>
  refine r_z 2 ?_;refine ae (r_d ba 9 ?_);refine a_3 ?_;refine y_g rfl d_t (.load_l rfl rfl rfl TG.h TS.h (nle rfl)) ?_;refine y_g rfl d_t (.call rfl rfl rfl (nP m)) ?_;refine y_g rfl d_t (.un rfl nq) ?_;refine o_0 (.pickT rfl d_t rfl) ?_;refine a_2 ?_;refine aq (n_k ?_);exact ak (c_e (aD (ac (cz m) (ac (ah _) af))))
 |false=>
  refine r_z 2 ?_;refine ae (r_d ba 9 ?_);refine a_3 ?_;refine n_g rfl d_f ?_;refine n_g rfl d_f ?_;refine n_g rfl d_f ?_;refine o_0 (.pickF rfl d_f rfl) ?_;refine a_2 ?_;refine aq (n_k ?_);exact ak (c_e (aD (ac (cz m) (ac (ah _) af))))
theorem Lg(z:Int):FS 57 [.agg (zI z)] (i64 (sgZ z)):=by
 refine f_c Tryz.func57 ?_;refine r_z 2 ?_;refine bD (λ_:Unit=>⟨[],[],1,10⟩) (λ_=>0< z) ?_ ?_;refine aj (r_c 4 (nP z.natAbs) ?_);refine a_z ?_;refine au rfl (λh=>?_) (λh=>?_);refine r_z 1 ?_;refine ak (a7 rfl ?_ (ah _));have:z=0:=by simpa using h
 simp[i64,sgZ,this,ofV];have b:z≠0:=by simpa using h
 refine r_z 3 ?_;refine au rfl (λa=>?_) (λa=>?_);refine r_z 1 ?_;refine ak (a7 rfl ?_ (ah _));have:z< 0:=by simpa using a
 simp[i64,sgZ,this,b,ofV];have:¬z< 0:=by simpa using a
 refine an ⟨(),ω,?_⟩;exact s_e [];rintro _ a;refine r_z 1 ?_;refine ak (a7 rfl ?_ (ah _));simp only[i64,sgZ];rw[if_neg ω,if_neg ω];rfl
theorem cX(q:Rat):FS 16 [.agg (qC q)] (i64 (sgZ q.num)):=by
 refine f_c Tryz.func16 ?_;refine r_z 2 ?_;refine r_c 4 (Lg q.num) ?_;refine a_z ?_;exact ak (t_e (ah _))
theorem sgn_mul(a b:Bool)(m n:Nat):sgn a m* sgn b n=sgn (a !=b) (m* n):=by
 cases a <;> cases b <;> simp[sgn,Ps,Pt]
theorem zb(a:Bool)(m n:Nat):sgn a m+sgn a n=sgn a (m+n):=by
 cases a <;> simp[sgn]<;> omega
theorem D0{a b:Bool}(h:a≠b){m n:Nat}(hl:m<=n):sgn a m+sgn b n=sgn b (n- m):=by
 cases a <;> cases b <;> simp[sgn] at h⊢ <;> omega
theorem D1{a b:Bool}(h:a≠b){m n:Nat}(hl:n<=m):sgn a m+sgn b n=sgn a (m- n):=by
 cases a <;> cases b <;> simp[sgn] at h⊢ <;> omega
theorem Ak(x y:Int)(h:bl x.natAbs+bl y.natAbs<=17592186044416):FS 107 [.agg (zI x),.agg (zI y)] (.agg (zI (x* y))):=by
 have e:x* y=sgn (decide (x< 0) !=decide (y< 0)) (x.natAbs* y.natAbs):=by
  rw[<-sgn_mul,qf,qf]
 rw[e];refine f_c Tryz.func107 ?_;refine r_z 3 ?_;refine ae (r_d ba 12 ?_);refine c_s (gX x.natAbs y.natAbs h) ?_;refine c_s (ft (decide (x< 0) !=decide (y< 0)) (x.natAbs* y.natAbs)) ?_;refine a_1 ?_;refine aq (n_k ?_);exact ak (c_e (jt _))
theorem fs_iadd(x y:Int)(h:bl x.natAbs+bl y.natAbs<=17592186044416):FS 108 [.agg (zI x),.agg (zI y)] (.agg (zI (x+y))):=by
 obtain⟨a,ha⟩:∃a,a=decide (x< 0):=⟨_,rfl⟩;obtain⟨b,hb⟩:∃b,b=decide (y< 0):=⟨_,rfl⟩;have g:x=sgn a x.natAbs:=by rw[ha,qf]
 have j:y=sgn b y.natAbs:=by rw[hb,qf]
 refine f_c Tryz.func108 ?_;refine r_z 3 ?_;refine bD (λ_:Unit=>⟨[(2,.lptr 1 0 0),(3,.lptr 2 0 0),(4,.lptr 3 0 0)],[(1,some ⟨40,2,[zI x]⟩),(2,some ⟨40,2,[zI y]⟩),(3,some ⟨40,2,[[.emp,bln false]]⟩)],4,42⟩) (λ_=>a≠b/\y.natAbs<=x.natAbs) ?_ ?_;refine aj (r_z 6 ?_);refine au rfl (λk=>?_) (λk=>?_);have c:a=b:=by rw[ha,hb];simpa using k
 have e:x+y=sgn (decide (x< 0)) (x.natAbs+y.natAbs):=by
  conv=>lhs;rw[g,j,<-c]
  rw[zb,ha]
 rw[e];refine ae (r_d ba 9 ?_);refine c_s (Ah x.natAbs y.natAbs h) ?_;refine c_s (ft (decide (x< 0)) (x.natAbs+y.natAbs)) ?_;refine a_1 ?_;refine aq (n_k ?_);exact ak (c_e (jt _));have c:a≠b:=by rw[ha,hb];simpa using k
 refine r_c 7 (py x.natAbs y.natAbs h) ?_;refine a_z ?_;refine au rfl (λi=>?_) (λi=>?_)
 have f:x.natAbs< y.natAbs:=by
  have:=of_decide_eq_true i;unfold ff at this;split at this;omega;split at this <;> omega
 have e:x+y=sgn (decide (y< 0)) (y.natAbs- x.natAbs):=by
  conv=>lhs;rw[g,j]
  rw[D0 c (Ns f),hb]
 rw[e];refine ae (r_d ba 9 ?_);refine c_s (Aj y.natAbs x.natAbs ω (Ns f)) ?_;refine c_s (ft (decide (y< 0)) (y.natAbs- x.natAbs)) ?_;refine a_1 ?_;refine aq (n_k ?_);exact ak (c_e (jt _))
 have d:y.natAbs<=x.natAbs:=by
  have:=of_decide_eq_false i;unfold ff at this;split at this;omega;split at this <;> omega
 refine an ⟨(),⟨c,d⟩,?_⟩;exact s_e [];rintro _ ⟨c,d⟩
 have e:x+y=sgn (decide (x< 0)) (x.natAbs- y.natAbs):=by
  conv=>lhs;rw[g,j]
  rw[D1 c d,ha]
 rw[e];refine ae (r_d ba 9 ?_);refine c_s (Aj x.natAbs y.natAbs ω d) ?_;refine c_s (ft (decide (x< 0)) (x.natAbs- y.natAbs)) ?_;refine a_1 ?_;refine aq (n_k ?_);exact ak (c_e (jt _))
theorem Cn(n:Int)(h: -9223372036854775808<=n/\n<=9223372036854775807):FS 87 [i64 n] (.agg (zI n)):=by
 refine f_c Tryz.func87 ?_;refine r_z 1 ?_;refine ae (r_z 2 ?_);refine au rfl (λb=>?_) (λb=>?_);have c:n< 0:=of_decide_eq_true b;have e:n=sgn true n.natAbs:=by simp[sgn];omega
 have a:18446744073709551616- (n+18446744073709551616)=((n.natAbs:Nat):Int):=ω
 have hs:FS 178 [.v (.int .u64 (18446744073709551616- (n+18446744073709551616)))] (.agg [mag n.natAbs]):=by rw[a];exact gY _ ω
 refine s_r 6 ?_;refine a_1 ?_;refine o_0 (.conv rfl (cU64n ω tu_2.h tu_246.h)) ?_;refine o_0 (.un rfl (Jd ω)) ?_;refine c_s (hs) ?_;refine c_s (ft true n.natAbs) ?_;refine a_z ?_;refine ak (ed rfl rfl rfl TG.h TS.h (nle rfl) ?_ ?_);show _=AV.agg (zI n)
 conv=>rhs;rw[e]
 rfl;exact jt _;refine an ?_;have c:0<=n:=by have:=of_decide_eq_false b;omega
 have e:n=sgn false n.natAbs:=by simp[sgn];omega
 have a:n=((n.natAbs:Nat):Int):=ω
 have hs:FS 178 [.v (.int .u64 n)] (.agg [mag n.natAbs]):=by
  have:=gY n.natAbs ω;rwa[u64,<-a] at this
 refine s_r 5 ?_;refine a_1 ?_;refine o_0 (.conv rfl (cU64 ω tu_2.h tu_246.h)) ?_;refine c_s (hs) ?_;refine c_s (ft false n.natAbs) ?_;refine a_z ?_;refine ak (ed rfl rfl rfl TG.h TS.h (nle rfl) ?_ ?_);show _=AV.agg (zI n)
 conv=>rhs;rw[e]
 rfl;exact jt _
theorem Kv:mag 0= .arr []:=by unfold mag;rw[c8];rfl
theorem qW(n:Int):FS 86 [.agg (zI n)] (.agg (qC n)):=by
 have e:qC (n:Rat)=[mag n.natAbs,bln (decide (n< 0)),mag 0]:=rfl;rw[e];refine f_c Tryz.func86 ?_;refine r_z 2 ?_;refine r_z 3 ?_;refine ak (Fin.cell rfl rfl rfl TG.h TS.h (nle rfl) (Cv.agg (ai (ao aE (cz _)) (ai (ao aE (ah _)) (ai (Cv.emp _ Kv) av)))))
theorem dM(n:Int)(h: -9223372036854775808<=n/\n<=9223372036854775807):FS 28 [i64 n] (.agg (qC n)):=by
 refine f_c Tryz.func28 ?_;refine r_z 1 ?_;refine r_c 4 (Cn n h) ?_;refine c_s (qW n) ?_;refine a_z ?_;exact ak (c_e (aU _))
theorem fu(q:Rat)(h:qs q<=1099511627776):FS 105 [.agg (qC q)] (.agg [mag q.den]):=by
 have hp:=q.den_pos;have b:=eu q;have e:q.den=q.den- 1+1:=ω
 have a:=dQ (show q.den- 1<=q.den by omega);have c:bl 1=1:=jx;refine f_c Tryz.func105 ?_;refine r_z 2 ?_;refine ae (r_d ba 5 ?_);refine c_s (gY 1 δ) ?_;refine c_s (Ah (q.den- 1) 1 ω) ?_;refine a_1 ?_;refine aq (n_k ?_);refine ak (ed rfl rfl rfl TG.h TS.h (nle rfl) ?_ ?_);show AV.agg [mag (q.den- 1+1)]=_;rw[<-e];exact closed_mA _
theorem qX(n:Int)(d:Nat)(hd:0< d)(h:bl n.natAbs+bl d<=2199023255552):FS 106 [.agg (zI n),.agg [mag d]] (.agg (qC (mkRat n d))):=by
 obtain⟨g,e⟩:∃g,g=Nat.gcd n.natAbs d:=⟨_,rfl⟩;have a:0< g:=by rw[e];exact NK _ hd
 have b:g<=d:=by rw[e];exact NY _ hd
 have l:=dQ b;have m:=fy n.natAbs g;have o:=fy d g;have f:0< d/ g:=Nat.div_pos b a
 have c:AV.agg (qC (mkRat n d))= .agg (zI (sgn (decide (n< 0)) (n.natAbs/ g))++[mag (d/ g- 1)]):=by
  unfold qC;rw[kj hd,(lX hd).2,<-e];rfl
 rw[c];have k:=Io n.natAbs d ω;rw[<-e] at k;refine f_c Tryz.func106 ?_;refine r_z 3 ?_;refine ae (r_c 6 (k) ?_);refine a_z ?_;refine r_c 3 (fs_one g) ?_;refine a_z ?_;refine aJ (λ_:Unit=>⟨[(2,.lptr 1 0 0),(3,.lptr 2 0 0),(4,.lptr 3 0 0)],[(1,some ⟨40,2,[[mag (n.natAbs/ g),bln (decide (n< 0))]]⟩),(2,some ⟨38,1,[[mag (d/ g)]]⟩),(3,some ⟨42,3,[[.emp,bln false,.emp]]⟩)],4,36⟩) (λ_=>True) ?_ ?_;refine au rfl (λj=>?_) (λj=>?_);refine r_c 9 (uP n.natAbs g ω a) ?_;refine a_z ?_;refine r_m 7 ?_;refine c_s (uP d g ω a) ?_;refine a_z ?_;refine⟨(),trivial,?_⟩;exact s_e [];have i:g=1:=by simpa using j
 subst i;refine an ⟨(),trivial,?_⟩;rw[OK,OK];exact s_e [];rintro _ _;refine ae (r_d ba 10 ?_);refine c_s (ft (decide (n< 0)) (n.natAbs/ g)) ?_;refine c_s (gY 1 δ) ?_;refine c_s (Aj (d/ g) 1 ω f) ?_;refine a_2 ?_;refine aq (n_k ?_);exact ak (c_e (aD (ac (cz _) (ac (ah _) (ac (cz _) af)))))
theorem cQ(a b:Rat)(h:qs a+qs b<=549755813888):FS 37 [.agg (qC a),.agg (qC b)] (.agg (qC (a* b))):=by
 have hp:=sE a b;have e:=eJ a;have c:=eu a;have f:=eJ b;have d:=eu b;rw[oC];refine f_c Tryz.func37 ?_;refine r_z 3 ?_;refine ae (r_d ba 12 ?_);refine c_s (Ak a.num b.num ω) ?_;refine c_s (fu a ω) ?_;refine c_s (fu b ω) ?_;refine c_s (gX a.den b.den ω) ?_;refine c_s (qX (a.num* b.num) (a.den* b.den) (n8 a b) ω) ?_;refine a_1 ?_;refine aq (n_k ?_);exact ak (c_e (aU _))
theorem DD(n:Nat):zI (n:Int)=[mag n,bln false]:=by
 unfold zI;rw[y2];rfl
theorem Cq(x:Int)(n:Nat)(h:bl x.natAbs+bl n<=17592186044416):FS 107 [.agg (zI x),.agg [mag n,bln false]] (.agg (zI (x* n))):=by
 have:=Ak x n (by simpa using h);rwa[DD] at this
theorem eS(a b:Rat)(h:qs a+qs b<=549755813888):FS 36 [.agg (qC a),.agg (qC b)] (.agg (qC (a+b))):=by
 have hp:=yQ a b;have e:=eJ a;have c:=eu a;have f:=eJ b;have d:=eu b;have e1:=dI (x:=a.num) (y:=b.den) e (by simpa using d);have e2:=dI (x:=b.num) (y:=a.den) f (by simpa using c);rw[yR];refine f_c Tryz.func36 ?_;refine r_z 3 ?_;refine ae (r_d ba 8 ?_);refine c_s (fu a ω) ?_;refine c_s (fu b ω) ?_;refine a_4 ?_;refine aq (n_k ?_);refine ae (r_d ba 16 ?_);refine c_s (Cq a.num b.den ω) ?_;refine c_s (Cq b.num a.den ω) ?_;refine c_s (fs_iadd (a.num* b.den) (b.num* a.den) ω) ?_;refine c_s (gX a.den b.den ω) ?_;refine c_s (qX (a.num* b.den+b.num* a.den) (a.den* b.den) (n8 a b) ω) ?_;refine a_1 ?_;refine aq (n_k ?_);exact ak (c_e (aU _))
theorem HX(a:Rat):qC (-a)=zI (sgn (!decide (a.num< 0)) a.num.natAbs)++[mag (a.den- 1)]:=by
 unfold qC;rw[O7,O8]
 have e: -a.num=sgn (!decide (a.num< 0)) a.num.natAbs:=by
  unfold sgn;by_cases h:a.num< 0;simp[h];omega;simp[h];omega
 rw[e];rfl
theorem iP(a:Rat):FS 30 [.agg (qC a)] (.agg (qC (-a))):=by
 have b:=aU (-a);rw[HX] at b⊢;refine f_c Tryz.func30 ?_;refine r_z 2 ?_;refine ae (r_d ba 12 ?_);refine c_s (ft (!decide (a.num< 0)) a.num.natAbs) ?_;refine a_4 ?_;refine aq (n_k ?_);exact ak (c_e (b))
theorem lC(a b:Rat)(h:qs a+qs b<=549755813888):FS 76 [.agg (qC a),.agg (qC b)] (.agg (qC (a- b))):=by
 have hs:=eS a (-b) (by rw[fa];exact h);rw[<-Rat.sub_eq_add_neg] at hs;refine f_c Tryz.func76 ?_;refine r_z 3 ?_;refine ae (r_d ba 5 ?_);refine c_s (iP b) ?_;refine c_s (hs) ?_;refine a_1 ?_;refine aq (n_k ?_);exact ak (c_e (aU _))
theorem K8(a b:Rat)(hb:b≠0)(h:qs a+qs b<=549755813888):FS 201 [.agg (qC a),.agg (qC b)] (.agg (qC (a/ b))):=by
 have hp:=yA a b;have e:=eJ a;have c:=eu a;have f:=eJ b;have d:=eu b;have g:b.num≠0:=λh=>hb (MV.1 h);have hs:=ga (decide (b.num< 0)) b.den;rw[tF a b hb];refine f_c Tryz.func201 ?_;refine r_z 3 ?_;refine ae (r_d ba 17 ?_);refine c_s (fu b ω) ?_;refine c_s (ft (decide (b.num< 0)) b.den) ?_;refine c_s (Ak a.num (sgn (decide (b.num< 0)) b.den) (by rw[hs];omega)) ?_;refine c_s (fu a ω) ?_;refine c_s (gX a.den b.num.natAbs ω) ?_;refine c_s (qX (a.num* sgn (decide (b.num< 0)) b.den) (a.den* b.num.natAbs) (M7 a.den_pos ω) ω) ?_;refine a_1 ?_;refine aq (n_k ?_);exact ak (c_e (aU _))
theorem Al(a b:Rat)(hb:b≠0)(h:qs a+qs b<=549755813888):FS 116 [.agg (qC a),.agg (qC b)] (.tup [.agg (qC (a/ b)),i64 0]):=by
 have d:b.num≠0:=λh=>hb (MV.1 h);have c:sgZ b.num≠0:=by unfold sgZ;rw[if_neg d];split <;> decide
 refine f_c Tryz.func116 ?_;refine r_z 4 ?_;refine ae (r_c 3 (cX b) ?_);refine a_z ?_;refine au rfl (λh=>?_) (λh=>?_);exact absurd h (by simpa using c);refine an (r_c 5 (K8 a b hb (by assumption)) ?_);refine a_z ?_;refine ak (Fin.many ⟨_,_,rfl,⟨_,_,_,_,_,rfl,rfl,rfl,.inl ⟨TG.h,_,TS.h,nle rfl,rfl⟩⟩,⟨_,_,rfl,rfl,rfl⟩⟩ (nle rfl) ?_);exact ai (ao aE (aU _)) (ai (ao aE (ah _)) av)
theorem Hk(x:Int)(n:Nat)(hn:0< n):(sgZ x= -1/\∃p:Nat,0< p/\x* n= -(p:Int)/\x.natAbs* n=p)\/(sgZ x=0/\x* n=0/\x.natAbs* n=0)\/(sgZ x=1/\∃p:Nat,0< p/\x* n=p/\x.natAbs* n=p):=by
 rcases Int.lt_trichotomy x 0 with a|a|a
 refine .inl ⟨by unfold sgZ;rw[if_neg ω,if_pos a],x.natAbs* n,M7 ω hn,?_,rfl⟩;rw[EA,<-Ps];congr 1;omega;subst a;refine .inr (.inl ⟨rfl,ψ,ψ⟩);refine .inr (.inr ⟨by unfold sgZ;rw[if_neg ω,if_neg ω],x.natAbs* n,M7 ω hn,?_,rfl⟩);rw[EA];congr 1;omega
theorem Me(a b:Rat):eD a b=if sgZ a.num≠sgZ b.num\/sgZ a.num=0 then sgZ a.num- sgZ b.num- (sgZ a.num- sgZ b.num).tdiv 2 else sgZ a.num* ff ((a.num.natAbs* b.den:Nat):Int) ((b.num.natAbs* a.den:Nat):Int):=by
 rw[Hm];rcases Hk a.num b.den b.den_pos with⟨s1,p,hp,e1,f1⟩|⟨s1,e1,f1⟩|⟨s1,p,hp,e1,f1⟩<;> rcases Hk b.num a.den a.den_pos with⟨s2,q,hq,e2,f2⟩|⟨s2,e2,f2⟩|⟨s2,q,hq,e2,f2⟩<;> rw[s1,s2,e1,e2,f1,f2]<;> unfold ff <;> simp <;>(repeat' split)<;> first|rfl|omega
theorem lD(a b:Rat)(ha:sm a)(hb:sm b):FS 38 [.agg (qC a),.agg (qC b)] (i64 (eD a b)):=by
 have hs:=sm2 ha hb;have s:=eJ a;have p:=eu a;have t:=eJ b;have r:=eu b;have i:=Me a b;have d:sgZ a.num= -1\/sgZ a.num=0\/sgZ a.num=1:=by unfold sgZ;split;simp;split <;> simp
 have e:sgZ b.num= -1\/sgZ b.num=0\/sgZ b.num=1:=by unfold sgZ;split;simp;split <;> simp
 have l:=jy a.num.natAbs b.den;have n:=jy b.num.natAbs a.den;refine f_c Tryz.func38 ?_;refine r_z 3 ?_;refine ae (ae (r_d ba 6 ?_));refine c_s (cX a) ?_;refine c_s (cX b) ?_;refine a_2 ?_;refine aq (n_k ?_);obtain⟨x,m⟩:∃x,x=sgZ a.num:=⟨_,rfl⟩;obtain⟨y,o⟩:∃y,y=sgZ b.num:=⟨_,rfl⟩;rw[<-m] at d i⊢;rw[<-o] at e i⊢
 have q:(x- y).tdiv 2= -1\/(x- y).tdiv 2=0\/(x- y).tdiv 2=1:=by
  rcases d with h|h|h <;> rcases e with h'|h'|h' <;> rw[h,h']<;> decide
 refine aJ (λ_:Unit=>⟨[(2,.lptr 1 0 0),(3,.lptr 2 0 0)],[(1,some ⟨42,3,[qC a]⟩),(2,some ⟨42,3,[qC b]⟩)],3,42⟩) (λ_=>x=y/\x≠0) ?_ ?_;by_cases c:x=y;refine s_r 7 ?_;refine a_4 ?_;refine y_g rfl (by simp[c]) (.move rfl) ?_;refine y_g rfl (by simp[c]) (.bin rfl rfl cK) ?_;refine o_0 (.pickF rfl (by simp[c]) rfl) ?_;refine aq ?_;refine au rfl (λh=>?_) (λh=>?_);have j:x=0:=by simpa using h
 refine s_r 9 ?_;refine a_6 ?_;refine o_0 (.bin rfl rfl (tR δ ω)) ?_;refine a_z ?_;refine ak (a7 rfl ?_ (ah _));rw[i,if_pos (.inr j)];rfl;have j:x≠0:=by simpa using h
 refine an ⟨(),⟨c,j⟩,?_⟩;exact s_e [];refine s_r 7 ?_;refine a_4 ?_;refine n_g rfl (by simp[c]) ?_;refine n_g rfl (by simp[c]) ?_;refine o_0 (.pickT rfl (by simp[c]) rfl) ?_;refine aq ?_;refine au rfl (λh=>?_) (λh=>?_);refine s_r 9 ?_;refine a_6 ?_;refine o_0 (.bin rfl rfl (tR δ ω)) ?_;refine a_z ?_;refine ak (a7 rfl ?_ (ah _));rw[i,if_pos (.inl c)];rfl;cases h;rintro _ ⟨c,j⟩
 have k:ff ((a.num.natAbs* b.den:Nat):Int) ((b.num.natAbs* a.den:Nat):Int)= -1\/ff ((a.num.natAbs* b.den:Nat):Int) ((b.num.natAbs* a.den:Nat):Int)=0\/ff ((a.num.natAbs* b.den:Nat):Int) ((b.num.natAbs* a.den:Nat):Int)=1:=by
  unfold ff;split;simp;split <;> simp
 have g:=cX a;rw[<-m] at g
 have f: -9223372036854775808<=x* ff ((a.num.natAbs* b.den:Nat):Int) ((b.num.natAbs* a.den:Nat):Int)/\x* ff ((a.num.natAbs* b.den:Nat):Int) ((b.num.natAbs* a.den:Nat):Int)<=9223372036854775807:=by
  rcases d with h|h|h <;> rcases k with h'|h'|h' <;> rw[h,h']<;> decide
 refine ae (r_d ba 17 ?_);refine c_s (g) ?_;refine c_s (fu b ω) ?_;refine c_s (gX a.num.natAbs b.den ω) ?_;refine c_s (fu a ω) ?_;refine c_s (gX b.num.natAbs a.den ω) ?_;refine c_s (py (a.num.natAbs* b.den) (b.num.natAbs* a.den) ω) ?_;refine o_0 (.bin rfl rfl (rW f)) ?_;refine a_1 ?_;refine aq (n_k ?_);refine ak (a7 rfl ?_ (ah _));rw[i,if_neg ω];rfl
theorem sR(a:Rat):FS 122 [.agg (qC a)] (.agg (qC (fN a))):=by
 have b:=aU (fN a);rw[qC_abs] at b⊢;refine f_c Tryz.func122 ?_;refine r_z 2 ?_;refine ae (r_d ba 8 ?_);refine c_s (ft false a.num.natAbs) ?_;refine a_4 ?_;refine aq (n_k ?_);exact ak (c_e (b))
theorem Lp(a:Rat)(ha:sm a):FS 294 [.agg (qC a)] (.agg (qC ((a.den:Int):Rat))):=by
 have b:=qW (a.den:Int);rw[DD] at b;refine f_c Tryz.func294 ?_;refine r_z 2 ?_;refine r_c 5 (fu a (by unfold sm at ha;omega)) ?_;refine c_s (b) ?_;refine a_z ?_;exact ak (c_e (aU _))
theorem IL{z q:Int}{d:Nat}(hd:0< d)(h1:q* d<=z)(h2:z< q* d+d):z/ (d:Int)=q:=by
 have a:(0:Int)< d:=ω
 have b:q<=z/ (d:Int):=(Int.le_ediv_iff_mul_le a).2 h1;have c:z/ (d:Int)< q+1:=(Int.ediv_lt_iff_lt_mul a).2 (by rw[Int.add_mul];omega);omega
theorem wK(z:Int)(d:Nat)(hd:0< d):z/ (d:Int)=sgn (decide (z< 0)) (if (decide (z< 0) && !(z.natAbs % d==0))=true then z.natAbs/ d+1 else z.natAbs/ d):=by
 have f:=MX z.natAbs d;have c:=EC z.natAbs hd;generalize e:z.natAbs % d=r at *
 generalize b:z.natAbs/ d=a at *
 have g:((d* a:Nat):Int)=(a:Int) * d:=by rw[EA,Int.mul_comm]
 refine IL hd ?_ ?_ <;> by_cases hz:z< 0 <;> by_cases h0:r=0 <;> simp[sgn,hz,h0,Ps,Int.add_mul]<;> omega
theorem Il(z:Int)(d:Nat)(hd:0< d)(h:bl z.natAbs+bl d<=4398046511104):FS 330 [.agg (zI z),.agg [mag d]] (.agg (zI (z/ d))):=by
 rw[wK z d hd];have c:=fy z.natAbs d;have e:=A7 (z.natAbs/ d) 1;have f:bl 1=1:=jx;obtain⟨Q,a⟩:∃Q,Q=(if (decide (z< 0) && !(z.natAbs % d==0))=true then z.natAbs/ d+1 else z.natAbs/ d):=⟨_,rfl⟩;rw[<-a];refine f_c Tryz.func330 ?_;refine r_z 3 ?_;refine r_c 11 (uP z.natAbs d h hd) ?_;refine a_z ?_;refine bD (λ_:Unit=>⟨[(2,.lptr 1 0 0),(4,.lptr 2 0 0),(5,.lptr 3 0 0)],[(1,some ⟨40,2,[zI z]⟩),(2,some ⟨40,2,[[.emp,bln false]]⟩),(3,some ⟨38,1,[[mag Q]]⟩)],4,28⟩) (λ_=>True) ?_ ?_;by_cases hz:z< 0;refine s_r 7 ?_;refine a_3 ?_;refine y_g rfl (by simp[hz]) (.load_l rfl rfl rfl TG.h TS.h (nle rfl)) ?_;refine y_g rfl (by simp[hz]) (.call rfl rfl rfl (nP (z.natAbs % d))) ?_;refine y_g rfl (by simp[hz]) (.un rfl nq) ?_;refine o_0 (.pickT rfl (by simp[hz]) rfl) ?_;refine aq ?_;refine au rfl (λb=>?_) (λb=>?_);have:Q=z.natAbs/ d+1:=by rw[a,if_pos];simpa[hz] using b
 rw[this];refine r_d ba 4 ?_;refine c_s (gY 1 δ) ?_;refine c_s (Ah (z.natAbs/ d) 1 ω) ?_;refine a_1 ?_;refine aq (n_k ?_);refine⟨(),trivial,?_⟩;exact s_e [(2,4),(3,5)];have:Q=z.natAbs/ d:=by rw[a,if_neg];simpa[hz] using b
 rw[this];refine an ⟨(),trivial,?_⟩;exact s_e [(2,4),(3,5)];refine s_r 7 ?_;refine a_3 ?_;refine n_g rfl (by simp[hz]) ?_;refine n_g rfl (by simp[hz]) ?_;refine n_g rfl (by simp[hz]) ?_;refine o_0 (.pickF rfl (by simp[hz]) rfl) ?_;refine aq ?_;have:Q=z.natAbs/ d:=by rw[a,if_neg];simp[hz]
 rw[this];refine au rfl (λh=>?_) (λh=>an ⟨(),trivial,?_⟩);cases h;exact s_e [(2,4),(3,5)];rintro _ _;refine r_c 5 (ft (decide (z< 0)) Q) ?_;refine a_z ?_;exact ak (c_e (jt _))
theorem re(q:Rat)(h:qs q<=1099511627776):FS 307 [.agg (qC q)] (.agg (qC (q.floor:Rat))):=by
 have a:=eJ q;have b:=eu q;rw[Pi];refine f_c Tryz.func307 ?_;refine r_z 2 ?_;refine ae (r_d ba 7 ?_);refine c_s (fu q h) ?_;refine c_s (Il q.num q.den q.den_pos ω) ?_;refine c_s (qW (q.num/ q.den)) ?_;refine a_1 ?_;refine aq (n_k ?_);exact ak (c_e (aU _))
def xf(q:Rat):Rat:= -((-q).floor:Rat)
theorem GY(q:Rat)(h:qs q<=1099511627776):FS 308 [.agg (qC q)] (.agg (qC (xf q))):=by
 refine f_c Tryz.func308 ?_;refine r_z 2 ?_;refine r_c 5 (iP q) ?_;refine c_s (re (-q) (by rw[fa];exact h)) ?_;refine c_s (iP ((-q).floor:Rat)) ?_;refine a_z ?_;exact ak (c_e (aU _))
def wi(k:Int)(m:Nat):Nat:=(max 0 (min k m)).toNat
theorem Ia(k:Int)(m:Nat):FS 332 [i64 k,i64 m] (i64 (wi k m)):=by
 refine f_c Tryz.func332 ?_;refine r_z 1 ?_;refine r_z 5 ?_;refine ak (a7 rfl ?_ ?_);simp only[i64,wi];congr 2;split <;> split <;> omega;exact ah _
def powS:Nat×Nat×Nat->AState
 |(o,x,m)=>⟨[(1,i64 m),(2,.lptr 1 0 0),(4,.lptr 2 0 0),(5,.lptr 3 0 0)],[(1,some ⟨38,1,[[mag x]]⟩),(2,some ⟨38,1,[[.emp]]⟩),(3,some ⟨38,1,[[mag o]]⟩)],4,23⟩
theorem mL(o:Nat)(x:Nat)(m:Nat):powS (o,x,m)=⟨[(1,i64 m),(2,.lptr 1 0 0),(4,.lptr 2 0 0),(5,.lptr 3 0 0)],[(1,some ⟨38,1,[[mag x]]⟩),(2,some ⟨38,1,[[.emp]]⟩),(3,some ⟨38,1,[[mag o]]⟩)],4,23⟩:=rfl
theorem Ef(x m:Nat):x^ m=(x* x) ^ (m/ 2) * (if m % 2=1 then x else 1):=by
 rw[<-Nat.pow_two,<-Nat.pow_mul];have:=MX m 2;split
 ·rename_i h;rw[<-D7];congr 1;omega
 ·rename_i h;rw[Pq];congr 1;omega
theorem Ij(a n:Nat)(h:bl a* n<=2199023255552)(hn:n<=1000000):FS 331 [.agg [mag a],i64 n] (.agg [mag (a^ n)]):=by
 refine f_c Tryz.func331 ?_;refine r_z 2 ?_;refine r_c 3 (gY 1 δ) ?_;refine a_z ?_;refine bD (λ_:Unit=>⟨[(4,.lptr 2 0 0),(5,.lptr 3 0 0)],[(2,some ⟨38,1,[[.emp]]⟩),(3,some ⟨38,1,[[mag (a^ n)]]⟩)],4,23⟩) (λ_=>True) ?_ ?_;refine aj (aC powS (λx=>x.2.2) (λx=>x.1* x.2.1^ x.2.2=a^ n/\bl x.1+bl x.2.1* x.2.2<=2199023255553/\x.2.2<=1000000) (1,a,n) ⟨ψ,by have:bl 1=1:=jx;simp only;omega,hn⟩ ?_ ?_);rw[mL];exact s_e [(1,2),(2,4),(3,5)];rintro⟨o,x,m⟩ ⟨hv,hb,C⟩;simp only at hv hb C;rw[mL];refine ae (r_z 2 ?_);refine au rfl (λh=>?_) (λh=>?_);have c:0< m:=by simpa using h
 have y:bl x* 1<=bl x* m:=sO _ c;have l:=Ef x m;refine an ?_
 have D:(m:Int).tdiv 2=((m/ 2:Nat):Int):=by
  rw[NG ω];omega
 have w:=MX m 2;have A:=EC m (show 0< 2 by decide);have j:m/ 2< m:=ω
 have p:=jy x x;have u:=jy o x;have B:bl x* m=bl x* (2* (m/ 2))+bl x* (m % 2):=by rw[<-zM];congr 1;omega
 have t:bl (x* x) * (m/ 2)<=bl x* (2* (m/ 2)):=by
  have:=mC (m/ 2) p;rw[<-Nat.two_mul,Eg 2,EB] at this;exact this
 have E:(m:Int) % 2=((m % 2:Nat):Int):=ω
 have e:(m:Int) / 2=((m/ 2:Nat):Int):=ω
 refine ae (aj (bD (λd:Nat=>powS (d,x,m)) (λd=>d=o* (if m % 2=1 then x else 1)) ?_ ?_));refine r_z 3 ?_;refine au rfl (λf=>?_) (λf=>?_);have g:m % 2=1:=by simp at f;omega
 refine r_m 4 ?_;refine c_s (gX o x ω) ?_;refine a_z ?_;refine⟨o* x,by rw[if_pos g],?_⟩;simp only[mL];exact s_e [];have k:¬m % 2=1:=by simp at f;omega
 refine an ⟨o,by rw[if_neg k,Pq],?_⟩;simp only[mL];exact s_e [];rintro d i;rw[mL]
 have s:bl d<=bl o+bl x* (m % 2):=by
  rw[i];split
  ·rename_i f;rw[f];omega
  rw[Pq];omega
 have b:d* (x* x) ^ (m/ 2)=a^ n:=by
  rw[<-hv,l,i,EB,Eg (if m % 2=1 then x else 1)]
 refine r_z 2 ?_;refine au rfl (λr=>?_) (λr=>?_);refine r_m 4 ?_;refine c_s (gX x x ω) ?_;refine a_z ?_;refine r_m 3 ?_;refine a_z ?_;refine⟨(d,x* x,m/ 2),j,⟨b,by simp only;omega,by simp only;omega⟩,?_⟩;rw[mL];have:=(congrArg (λz=>AV.v (.int .i64 z)) e);exact s_f [];have q:m/ 2=0:=by simp at r;omega
 refine an (r_m 3 ?_);refine a_z ?_;rw[q] at b e;refine⟨(d,x,0),c,⟨by simpa using b,by simp only;omega,by simp only;omega⟩,?_⟩;rw[mL];have:=(congrArg (λz=>AV.v (.int .i64 z)) e);exact s_f [];have c:m=0:=by simp at h;omega
 subst c;refine ay ⟨(),trivial,?_⟩;have b:o=a^ n:=by simpa using hv
 rw[b];exact s_e [];rintro _ _;refine r_z 2 ?_;exact ak (c_e (closed_mA _))
theorem KZ(k:Int):FS 310 [i64 k] (.agg [mag (2^ wi k 256)]):=by
 have b:wi k 256<=256:=by unfold wi;omega
 have a:bl 2=2:=δ
 refine f_c Tryz.func310 ?_;refine r_z 1 ?_;refine r_c 5 (gY 2 δ) ?_;refine c_s (Ia k 256) ?_;refine c_s (Ij 2 (wi k 256) (by rw[a];omega) ω) ?_;refine a_z ?_;exact ak (c_e (closed_mA _))
theorem FA(k:Nat):bl (2^ k)<=k+1:=fx (by rw[D7];have:=NB (n:=k) (show 0< 2 by decide);omega)
theorem rm(k:Int):FS 278 [i64 k] (.agg (qC (ic (wi k 256)))):=by
 have b:wi k 256<=256:=by unfold wi;omega
 have hb:=FA (wi k 256);have a:bl (1:Int).natAbs=1:=jx;refine f_c Tryz.func278 ?_;refine r_z 1 ?_;refine r_c 5 (Cn 1 δ) ?_;refine c_s (KZ k) ?_;refine c_s (qX 1 (2^ wi k 256) (NB δ) ω) ?_;refine a_z ?_;exact ak (c_e (aU _))
def pf(k:Nat):Rat:=((2^ k:Nat):Int)
theorem zJ(k:Nat):qs (pf k)<=k+1:=by
 have a:(pf k).num=((2^ k:Nat):Int):=rfl;have b:(pf k).den=1:=rfl;unfold qs;rw[a,b,y2,jx];have:=FA k;omega
theorem BI(k:Nat):qs (ic k)<=k+1:=by
 have a:bl (1:Int).natAbs=1:=jx;exact gf (NB δ) ω (FA k)
theorem ym(a:Rat)(k:Int)(h:qs a<=549755813000):FS 306 [.agg (qC a),i64 k] (.agg (qC (a* pf (wi k 256)))):=by
 have c:wi k 256<=256:=by unfold wi;omega
 have d:=zJ (wi k 256);have b:=qW ((2^ wi k 256:Nat):Int);rw[DD] at b;refine f_c Tryz.func306 ?_;refine r_z 2 ?_;refine ae (r_d ba 7 ?_);refine c_s (KZ k) ?_;refine c_s (b) ?_;refine c_s (cQ a (pf (wi k 256)) ω) ?_;refine a_1 ?_;refine aq (n_k ?_);exact ak (c_e (aU _))
def kW(a:Rat)(k:Nat):Rat:=((a* pf k).floor:Rat) * ic k
def upQ(a:Rat)(k:Nat):Rat:=xf (a* pf k) * ic k
theorem BH(a:Rat):qs (a.floor:Rat)<=qs a+1:=by
 rw[Pi];have d:=eJ a;have e1:((a.num/ (a.den:Int):Int):Rat).num=a.num/ a.den:=rfl;have e2:((a.num/ (a.den:Int):Int):Rat).den=1:=rfl;have g:1<=bl a.den:=Mk a.den_pos;have c:=eu a;unfold qs at *
 rw[e1,e2,jx,wK _ _ a.den_pos,ga];have f:=fy a.num.natAbs a.den;have b:=A7 (a.num.natAbs/ a.den) 1;have e:bl 1=1:=jx;split <;> omega
theorem JT(a:Rat):qs (xf a)<=qs a+1:=by
 unfold xf;rw[fa];have:=BH (-a);rwa[fa] at this
theorem G0(a:Rat)(k:Int)(h:sm a):FS 275 [.agg (qC a),i64 k] (.agg (qC (kW a (wi k 256)))):=by
 unfold sm at h;have b:wi k 256<=256:=by unfold wi;omega
 have c:=zJ (wi k 256);have f:=cP a (pf (wi k 256));have d:=BH (a* pf (wi k 256));have e:=BI (wi k 256);refine f_c Tryz.func275 ?_;refine r_z 2 ?_;refine r_c 8 (ym a k ω) ?_;refine c_s (re (a* pf (wi k 256)) ω) ?_;refine c_s (rm k) ?_;refine c_s (cQ ((a* pf (wi k 256)).floor:Rat) (ic (wi k 256)) ω) ?_;refine a_z ?_;exact ak (c_e (aU _))
theorem fs_Up(a:Rat)(k:Int)(h:sm a):FS 276 [.agg (qC a),i64 k] (.agg (qC (upQ a (wi k 256)))):=by
 unfold sm at h;have b:wi k 256<=256:=by unfold wi;omega
 have c:=zJ (wi k 256);have f:=cP a (pf (wi k 256));have d:=JT (a* pf (wi k 256));have e:=BI (wi k 256);refine f_c Tryz.func276 ?_;refine r_z 2 ?_;refine r_c 8 (ym a k ω) ?_;refine c_s (GY (a* pf (wi k 256)) ω) ?_;refine c_s (rm k) ?_;refine c_s (cQ (xf (a* pf (wi k 256))) (ic (wi k 256)) ω) ?_;refine a_z ?_;exact ak (c_e (aU _))
theorem CA(a:Rat)(k:Int)(h:sm a):FS 248 [.agg (qC a),i64 k] (.agg (spC (kW a (wi k 256)) (upQ a (wi k 256)))):=by
 refine f_c Tryz.func248 ?_;refine r_z 2 ?_;refine ae (r_d ba 8 ?_);refine c_s (G0 a k h) ?_;refine c_s (fs_Up a k h) ?_;refine a_2 ?_;refine aq (n_k ?_);exact ak (c_e (ca _ _))
theorem CE(a:Rat):FS 282 [.agg (qC a)] (.agg (spC a a)):=by
 refine f_c Tryz.func282 ?_;refine r_z 2 ?_;refine r_z 4 ?_;exact ak (c_e (ca _ _))
theorem kr(a b:Rat)(ha:sm a)(hb:sm b):FS 90 [.agg (spC a b)] (bln (decide (eD a b<=0))):=by
 refine f_c Tryz.func90 ?_;refine r_z 2 ?_;refine r_c 7 (lD a b ha hb) ?_;refine a_z ?_;exact ak (t_e (ah _))
theorem fs_SAdd(a b c d:Rat)(ha:sm a)(hb:sm b)(hc:sm c)(hd:sm d):FS 318 [.agg (spC a b),.agg (spC c d)] (.agg (spC (a+c) (b+d))):=by
 refine f_c Tryz.func318 ?_;refine r_z 3 ?_;refine ae (r_d ba 12 ?_);refine c_s (eS a c (sm2 ha hc)) ?_;refine c_s (eS b d (sm2 hb hd)) ?_;refine a_2 ?_;refine aq (n_k ?_);exact ak (c_e (ca _ _))
theorem E1(a b:Rat)(ha:sm a)(hb:sm b):FS 313 [.agg (spC a b)] (.agg (qC ((a+b) * ic 1))):=by
 have c:qs (a+b)<=274877906945:=by have:=gT a b;unfold sm at ha hb;omega
 have d:qs (ic 1)<=2:=δ
 refine f_c Tryz.func313 ?_;refine r_z 2 ?_;refine r_c 8 (eS a b (sm2 ha hb)) ?_;refine c_s (rm 1) ?_;refine c_s (cQ (a+b) (ic 1) ω) ?_;refine a_z ?_;exact ak (c_e (aU _))
theorem oJ(a b:Rat)(ha:sm a)(hb:sm b):FS 26 [.agg (spC a b)] (.agg (qC (b- a))):=by
 refine f_c Tryz.func26 ?_;refine r_z 2 ?_;refine r_c 6 (lC b a (sm2 hb ha)) ?_;refine a_z ?_;exact ak (c_e (aU _))
theorem fs_Min1(c:Int):FS 309 [i64 c] (bln (decide (c< 0))):=by
 refine f_c Tryz.func309 ?_;refine r_z 1 ?_;refine r_z 3 ?_;exact ak (t_e (ah _))
theorem fs_Max1(c:Int):FS 264 [i64 c] (bln (decide (0< c))):=by
 refine f_c Tryz.func264 ?_;refine r_z 1 ?_;refine r_z 3 ?_;exact ak (t_e (ah _))
def AZ(g:Nat)(l:Lq):Nat×La->AState
 |(i,o)=>⟨[(0,.clos g [] []),(4,.lptr 1 0 0),(5,.lptr 2 0 0),(8,.arr (pE l)),(9,i64 l.length),(10,i64 i)],[(1,some ⟨42,3,[zC]⟩),(2,some ⟨42,3,[o]⟩)],3,27⟩
theorem yo(g:Nat)(bf:Int->Bool)(hg:∀c,FS g [i64 c] (bln (bf c)))(l:Lq)(hl:smL l)(hln:l.length<=1099511627776):FS 263 [.clos g [] [],.arr (pE l)] (.agg (qC (eE bf l))):=by
 refine f_n Tryz.func263 ?_ ?_;exact ac (aX af af) (ac (aw l) af);refine r_z 1 ?_;refine r_z 1 ?_;refine ae (r_z 3 ?_);refine aJ (λ_:Unit=>⟨[(4,.lptr 1 0 0),(5,.lptr 2 0 0)],[(1,some ⟨42,3,[zC]⟩),(2,some ⟨42,3,[qC (eE bf l)]⟩)],3,27⟩) (λ_=>True) ?_ ?_;refine aj (aC (λx:Nat×La=>AZ g l x) (λx=>l.length- x.1) (λx=>x.1<=l.length/\((x.1=0->x.2=zC)/\(x.1≠0->x.2=qC (eE bf (l.take x.1))))) (0,zC) ⟨mN _,λ_=>rfl,λh=>absurd rfl h⟩ ?_ ?_);simp only[AZ.eq_1];exact s_e [(1,4),(2,5)];rintro⟨i,o⟩ ⟨v,b,r⟩;simp only at v b r;simp only[AZ.eq_1];refine r_z 1 ?_;refine ae (au rfl (λh=>?_) (λh=>?_));refine an ?_;have k:i< l.length:=by simpa using h
 obtain⟨q,d⟩:∃q,l[i]?=some q:=⟨_,eT k⟩;have e:(pE l)[((i:Nat):Int).toNat]?=some (qC q):=pE_get d;have j:sm q:=hl q (mc d);have n:sm (eE bf (l.take i)):=pO λq d=>hl q (AG d);have a:=A3 bf (l.take i) q;rw[<-cZ d] at a;refine ae (aj (s_r 6 ?_));refine a_1 ?_;refine i_x e ?_;refine l_x e ?_;refine a_z ?_;refine AWp.cutB (λ_:Unit=>AZ g l (i,qC (eE bf (l.take (i+1))))) (λ_=>True) ?_ ?_;by_cases h0:i=0;subst h0;have:=b rfl;subst this;rw[if_pos (.inl ψ)] at a;refine s_r 9 ?_;refine a_3 ?_;refine n_g rfl d_t ?_;refine n_g rfl d_t ?_;refine n_g rfl d_t ?_;refine n_g rfl d_t ?_;refine n_g rfl d_t ?_;refine o_0 (.pickT rfl d_t rfl) ?_;refine aq ?_;refine au rfl (λh=>?_) (λh=>?_);refine r_m 2 ?_;refine a_z ?_;refine⟨(),trivial,?_⟩;simp only[AZ.eq_1];rw[a];exact s_e [];cases h;have s:o=qC (eE bf (l.take i)):=r h0;subst s
 have m:l.take i≠[]:=λh=>by
  have:=congrArg List.length h;rw[yv,Fe] at this;omega
 refine s_r 9 ?_;refine a_3 ?_;refine y_g rfl χ (.move rfl) ?_;refine y_g rfl χ (.load_l rfl rfl rfl TG.h TS.h (nle rfl)) ?_;refine y_g rfl χ (.load_l rfl rfl rfl TG.h TS.h (nle rfl)) ?_;refine y_g rfl χ (.call rfl rfl rfl (lD q (eE bf (l.take i)) j n)) ?_;refine y_g rfl χ (.call rfl rfl rfl (hg (eD q (eE bf (l.take i))))) ?_;refine o_0 (.pickF rfl χ rfl) ?_;refine aq ?_;refine au rfl (λp=>?_) (λp=>?_);refine r_m 2 ?_;refine a_z ?_;refine⟨(),trivial,?_⟩;simp only[AZ.eq_1];rw[a,if_pos (.inr p)];exact s_e [];refine an ⟨(),trivial,?_⟩;simp only[AZ.eq_1];rw[a,if_neg (λu=>u.elim m λt=>by rw[p] at t;cases t)];exact s_e [];rintro _ _;rw[AZ.eq_1];refine r_m 2 ?_;refine a_z ?_;refine⟨(i+1,qC (eE bf (l.take (i+1)))),by simp only;omega,⟨by simp only;omega,λh=>absurd h ψ,λ_=>rfl⟩,?_⟩;simp only[AZ.eq_1];exact s_e [];have f:i=l.length:=by simp at h;omega
 refine ay ⟨(),trivial,?_⟩;subst f;by_cases h0:l.length=0;have:=b h0;subst this
 have:eE bf l=0:=by
  rw[vv] at h0;rw[h0];rfl
 rw[this,qC0];exact s_e [];have:=r h0;subst this;rw[qj];exact s_e [];rintro _ _;refine r_z 2 ?_;exact ak (c_e (aU _))
theorem Lx(l:Lq)(hl:smL l)(hln:l.length<=1099511627776):FS 277 [.arr (pE l)] (.agg (qC (Ep l))):=by
 refine f_c Tryz.func277 ?_;refine r_z 1 ?_;refine r_c 3 (yo 309 _ fs_Min1 l hl hln) ?_;refine a_z ?_;exact ak (c_e (aU _))
theorem An(l:Lq)(hl:smL l)(hln:l.length<=1099511627776):FS 217 [.arr (pE l)] (.agg (qC (lY l))):=by
 refine f_c Tryz.func217 ?_;refine r_z 1 ?_;refine r_c 3 (yo 264 _ fs_Max1 l hl hln) ?_;refine a_z ?_;exact ak (c_e (aU _))
theorem y9{a b:Rat}(ha:sm a)(hb:sm b):smL [a,b]:=by
 intro q c;simp at c;rcases c with rfl|rfl
 exact ha;exact hb
theorem Cw(a b c d:Rat)(ha:sm a)(hb:sm b)(hc:sm c)(hd:sm d):FS 249 [.agg (spC a b),.agg (spC c d)] (.agg (spC (Ep [a,c]) (lY [b,d]))):=by
 refine f_c Tryz.func249 ?_;refine r_z 3 ?_;refine ae (r_d ba 14 ?_);refine a_5 ?_;refine o_1 (.callS1 rfl rfl rfl (.shut rfl d_n (.nil)) rfl (Lx [a,c] (y9 ha hc) ψ)) ?_;refine a_5 ?_;refine o_1 (.callS1 rfl rfl rfl (.shut rfl d_n (.nil)) rfl (An [b,d] (y9 hb hd) ψ)) ?_;refine a_2 ?_;refine aq (n_k ?_);exact ak (c_e (ca _ _))
theorem EK(l:Lq)(hl:smL l)(hln:l.length<=1099511627776):FS 339 [.arr (pE l)] (.agg (spC (Ep l) (lY l))):=by
 refine f_c Tryz.func339 ?_;refine r_z 1 ?_;refine r_c 6 (Lx l hl hln) ?_;refine c_s (An l hl hln) ?_;refine a_z ?_;exact ak (c_e (ca _ _))
theorem fs_ends (g:Nat) (op:Rat->Rat->Rat) (a b c d:Rat) (h1:FS g [.agg (qC a),.agg (qC c)] (.agg (qC (op a c)))) (h2:FS g [.agg (qC a),.agg (qC d)] (.agg (qC (op a d)))) (h3:FS g [.agg (qC b),.agg (qC c)] (.agg (qC (op b c)))) (h4:FS g [.agg (qC b),.agg (qC d)] (.agg (qC (op b d))))
    (hs:smL [op a c,op a d,op b c,op b d]):FS 334 [.clos g [] [],.agg (spC a b),.agg (spC c d)] (.agg (spC (Ep [op a c,op a d,op b c,op b d]) (lY [op a c,op a d,op b c,op b d]))):=by
 refine f_n Tryz.func334 ?_ ?_;exact ac (aX af af) (ac (ca a b) (ac (ca c d) af));refine r_z 3 ?_;refine ae (r_d ba 27 ?_);refine c_s (h1) ?_;refine c_s (h2) ?_;refine c_s (h3) ?_;refine c_s (h4) ?_;refine a_1 ?_;refine o_1 (.callS1 rfl rfl rfl (.shut rfl d_n (.nil)) rfl (EK [op a c,op a d,op b c,op b d] hs ψ)) ?_;refine a_1 ?_;refine aq (n_k ?_);exact ak (c_e (ca _ _))
theorem fs_SMul(a b c d:Rat)(ha:sm a)(hb:sm b)(hc:sm c)(hd:sm d)(hs:smL [a* c,a* d,b* c,b* d]):FS 317 [.agg (spC a b),.agg (spC c d)] (.agg (spC (Ep [a* c,a* d,b* c,b* d]) (lY [a* c,a* d,b* c,b* d]))):=by
 refine f_c Tryz.func317 ?_;refine r_z 3 ?_;refine r_c 4 (fs_ends 37 (λx y=>x* y) a b c d (cQ a c (sm2 ha hc)) (cQ a d (sm2 ha hd)) (cQ b c (sm2 hb hc)) (cQ b d (sm2 hb hd)) hs) ?_;refine a_z ?_;exact ak (c_e (ca _ _))
theorem qs_int(n:Int):qs (n:Rat)<=max (bl n.natAbs) 1:=by
 have e1:(n:Rat).num=n:=rfl;have e2:(n:Rat).den=1:=rfl;unfold qs;rw[e1,e2,jx];exact ir _
theorem JS{n:Int}(h: -9223372036854775808<=n/\n<=9223372036854775807):qs (n:Rat)<=64:=by
 have a:=qs_int n;have b:bl n.natAbs<=64:=fx (G9 (show n.natAbs<=9223372036854775808 by omega) δ);omega
theorem fs_Of(n d:Int)(hn: -9223372036854775808<=n/\n<=9223372036854775807)(hd: -9223372036854775808<=d/\d<=9223372036854775807)(h0:d≠0):FS 43 [i64 n,i64 d] (.tup [.agg (qC ((n:Rat) / (d:Rat))),i64 0]):=by
 have b:=JS hn;have c:=JS hd
 have a:(d:Rat)≠0:=by
  intro h;have:(d:Rat).num=0:=by rw[h];rfl
  exact h0 this
 refine f_c Tryz.func43 ?_;refine r_z 2 ?_;refine r_c 9 (dM n hn) ?_;refine c_s (dM d hd) ?_;refine c_s (Al (n:Rat) (d:Rat) a ω) ?_;refine a_z ?_;refine ak (Fin.many ⟨_,_,rfl,⟨_,_,_,_,_,rfl,rfl,rfl,.inl ⟨TG.h,_,TS.h,nle rfl,rfl⟩⟩,⟨_,_,rfl,rfl,rfl⟩⟩ (nle rfl) ?_);exact ai (ao aE (aU _)) (ai (ao aE (ah _)) av)
theorem ν{p:Prop}(h:p:=by first|exact fV _|exact fU _|exact eR _|exact fW _|exact fR _|assumption|rfl|simp):p:=h
theorem LD(l:Lq)(hl:l.length<=1099511627776):FS 145 [.arr (pE l)] (.arr (pE l)):=by
 cases l with
 |nil=>
  refine FSpec.nil1 λa c=>?_;refine f_c Tryz.func145 ?_;refine r_z 1 ?_;refine ae (r_z 2 ?_);refine au rfl (λh=>?_) (λh=>?_);refine r_z 1 ?_;exact ak (Fin.tmpN rfl)
  ·refine an (s_r 4 ?_)
   refine a_2 ?_;refine o_2 (.append_l rfl rfl rfl te_62.h rfl rfl rfl rfl rfl d_o ν θ rfl (.vnil) TZ.h rfl TB.h d_o μ) ?_;refine a_z ?_;exact ak (Fin.tmpS rfl rfl rfl rfl (aK []))
 |cons q l=>
  have b:pE (q::l)≠[]:=by simp[pE]
  simp at hl;refine f_c Tryz.func145 ?_;refine r_z 1 ?_;refine ae (s_r 2 ?_);refine a_1 ?_;refine bZ (.nilq_arr rfl (b) rfl te_62.h) rfl rfl ?_;refine aq ?_;refine cF ?_
  ·refine an (s_r 4 ?_)
   refine a_2 ?_;refine o_2 (.append_l rfl rfl rfl te_62.h rfl rfl rfl rfl rfl d_o ν θ rfl (.arr (mM _)) TZ.h rfl TB.h d_o μ) ?_;refine a_z ?_;exact ak (Fin.tmpS rfl rfl rfl ψ (aK _))
def trS(l:Lq):Nat->AState
 |n=>⟨[(0,.arr (pE l)),(3,i64 n)],[],1,23⟩
theorem ζ{p:Prop}(h:p:=by simp <;> omega):p:=h
theorem ee(l:Lq)(hl:l.length<=1099511627776):FS 88 [.arr (pE l)] (.arr (pE (am l))):=by
 refine f_c Tryz.func88 ?_;refine r_z 1 ?_;refine r_z 3 ?_;refine bD (trS l) (λn=>n<=l.length/\am l=l.take n) ?_ ?_;refine aj (aC (trS l) (λn=>n) (λn=>n<=l.length/\am l=am (l.take n)) l.length ⟨ir _,by rw[qj]⟩ ?_ ?_);simp only[trS.eq_1];exact s_e [];rintro n ⟨i,a⟩;rw[trS.eq_1];cases n with
 |zero=>
  refine ae (s_r 11 ?_);refine a_3 ?_;refine n_g rfl ψ ?_;refine n_g rfl ψ ?_;refine n_g rfl ψ ?_;refine n_g rfl ψ ?_;refine n_g rfl ψ ?_;refine n_g rfl ψ ?_;refine n_g rfl ψ ?_;refine o_0 (.pickF rfl ψ rfl) ?_;refine aq ?_;refine cF ?_;refine ay ⟨0,⟨mN _,?_⟩,?_⟩;rw[a];rfl;simp only[trS.eq_1];exact s_e []
 |succ n=>
  obtain⟨q,g⟩:∃q,l[n]?=some q:=⟨_,eT ω⟩
  have b:(pE l)[(((n+1:Nat):Int)- 1).toNat]?=some (qC q):=by
   rw[show(((n+1:Nat):Int)- 1).toNat=n by omega];exact pE_get g
  have hs:am (l.take (n+1))=if q=0 then am (l.take n) else l.take (n+1):=by
   rw[cZ g,mF]
  refine ae (s_r 11 ?_);refine a_3 ?_;refine y_g rfl ζ (.move rfl) ?_;refine y_g rfl ζ (.move rfl) ?_;refine y_g rfl ζ (.bin rfl rfl (rV ω)) ?_;refine y_g rfl ζ (.index_a rfl rfl ω b rfl te_62.h) ?_;refine y_g rfl ζ (.load_a rfl b TG.h TS.h (nle rfl)) ?_;refine y_g rfl ζ (.call rfl rfl rfl (cX q)) ?_;refine y_g rfl ζ (.bin rfl rfl cK) ?_;refine o_0 (.pickT rfl ζ rfl) ?_;refine aq ?_;refine au rfl (λh=>?_) (λh=>?_)
  have f:q=0:=by
   have c:sgZ q.num=0:=by simpa using h
   exact sgZ_num_eq.1 c
  refine an (aj (r_m 3 ?_));refine a_z ?_;refine⟨n,Ed n,⟨ω,?_⟩,?_⟩;rw[a,hs,if_pos f];simp only[trS.eq_1];exact s_e []
  have f:q≠0:=by
   intro e;have c:¬sgZ q.num=0:=by simpa using h
   exact c (sgZ_num_eq.2 e)
  refine ay ⟨n+1,⟨i,?_⟩,?_⟩;rw[a,hs,if_neg f];simp only[trS.eq_1];exact s_e []
 rintro n ⟨i,a⟩;rw[trS.eq_1];have d:=LD (l.take n) χ;refine s_r 5 ?_;refine a_2 ?_;refine o_0 (.sa_h rfl rfl (h:=n) rfl χ te_62.h (mM _)) ?_;refine o_0 (.call rfl rfl rfl ((by rw[uF];exact d))) ?_;refine o_0 (.assign rfl) ?_;refine aq ?_;refine ak (a7 rfl ?_ ?_);rw[a];exact aP (aK _)
theorem ce(l:Lq)(hl:l.length<=1099511627776):FS 34 [.arr (pE l)] (i64 (a8 l)):=by
 have:=bm l;refine f_c Tryz.func34 ?_;refine r_z 1 ?_;refine r_c 5 (ee l hl) ?_;refine a_z ?_;exact ak (t_e (ah _))
theorem lh(l:Lq)(hl:l.length<=1099511627776):FS 187 [.arr (pE l)] (.agg (qC (aL l))):=by
 have c:=bm l;refine f_c Tryz.func187 ?_;refine r_z 1 ?_;refine r_c 3 (ee l hl) ?_;refine a_z ?_;refine ae (r_z 3 ?_);refine au rfl (λh=>?_) (λh=>?_)
 have e:am l=[]:=by
  have a:(am l).length=0:=by simpa using h
  exact vv.1 a
 rw[sJ e];refine r_z 2 ?_;refine ak (Fin.cell rfl rfl rfl TG.h TS.h (nle rfl) (Cv.agg ?_));rw[qC0];exact ai (Cv.emp _) (ai (ao aE (ah _)) (ai (Cv.emp _) av))
 obtain⟨n,d⟩:∃n,(am l).length=n+1:=⟨(am l).length- 1,by
  have a:¬(am l).length=0:=by simpa using h
  omega⟩
 have b:(pE (am l))[(((am l).length:Int)- 1).toNat]?=some (qC (aL l)):=by
  rw[d,show(((n+1:Nat):Int)- 1).toNat=n by omega];exact pE_get (dt d)
 refine an (s_r 7 ?_);refine a_4 ?_;refine i_x b ?_;refine l_x b ?_;refine a_z ?_;exact ak (c_e (aU _))
theorem fs_at(l:Lq)(i:Nat):FS 176 [.arr (pE l),i64 i] (.agg (qC (coP l i))):=by
 refine f_c Tryz.func176 ?_;refine r_z 1 ?_;refine ae (r_z 4 ?_);refine au rfl (λh=>?_) (λh=>?_);have b:i< l.length:=by simpa using h
 have c:(pE l)[((i:Nat):Int).toNat]?=some (qC (coP l i)):=pE_get (cm b);refine s_r 5 ?_;refine a_2 ?_;refine i_x c ?_;refine l_x c ?_;refine a_z ?_;exact ak (c_e (aU _));have a:l.length<=i:=by simpa using h
 rw[eC a];refine an (r_z 2 ?_);refine ak (Fin.cell rfl rfl rfl TG.h TS.h (nle rfl) (Cv.agg ?_));rw[qC0];exact ai (Cv.emp _) (ai (ao aE (ah _)) (ai (Cv.emp _) av))
theorem eE_set{n i e:Nat}{f:Nat->Rat}(h:i< n)(he:e=i):(pE (aI i f)++List.replicate (n- i) zC).set e (qC (f i))=pE (aI (i+1) f)++List.replicate (n- (i+1)) zC:=by
 subst he;obtain⟨k,rfl⟩:∃k,n=e+1+k:=⟨n- (e+1),ω⟩;rw[show e+1+k- e=k+1 by omega,show e+1+k- (e+1)=k by omega,OQ,Nw _ _ ψ];simp[aI,FI,pE]
theorem eE_get{n i e:Nat}{f:Nat->Rat}(h:i< n)(he:e=i):(pE (aI i f)++List.replicate (n- i) zC)[e]?=some zC:=by
 subst he;rw[D2 ψ,MS,if_pos χ]
theorem tM(n i:Nat)(f:Nat->Rat):∀e∈pE (aI i f)++List.replicate (n- i) zC,∀c∈e,Closed c:=by
 intro e a;rcases n7.1 a with a|a
 exact aK _ e a;rw[Ov a];exact gM
def LP(n:Nat)(f:Nat->Rat)(g:Nat)(cap:La):Nat->AState
 |i=>⟨[(1,.clos g [] cap),(5,.lsl 1 0 n (some n) 3),(10,i64 n),(11,i64 i)],[(1,some ⟨42,3,pE (aI i f)++List.replicate (n- i) zC⟩)],2,23⟩
theorem uR(n:Nat)(f:Nat->Rat)(g:Nat)(cap:La)(hn:n<=1099511627776)(hcap:∀c∈cap,Closed c)(hg:∀i,i< n->FS g ((i64 i::cap).map coe) (.agg (qC (f i)))):FS 174 [i64 n,.clos g [] cap] (.arr (pE (am (aI n f)))):=by
 refine f_n Tryz.func174 ?_ ?_;exact ac (ah _) (ac (aX af hcap) af);refine r_z 1 ?_;refine r_z 3 ?_;refine ae (r_z 3 ?_);refine aJ (λ_:Unit=>LP n f g cap n) (λ_=>True) ?_ ?_;refine aj (aC (LP n f g cap) (λi=>n- i) (λi=>i<=n) 0 (mN _) ?_ ?_);simp only[LP.eq_1];refine s_x [(1,5)] (λhs=>e_2) (λhs=>?_)
 ·repeat' (first|exact aF|refine h_c ?_ ?_|exact aM hs rfl (tM n 0 f)|exact bG|refine aB ?_|exact av|refine ai ?_ ?_|exact ao hs (aX af hcap)|exact aZ)
 rintro i e;rw[LP.eq_1];refine r_z 1 ?_;refine ae (au rfl (λh=>?_) (λh=>?_));refine an ?_;have a:i< n:=by simpa using h
 refine ae (aj (r_z 2 ?_));refine r_m 7 ?_;refine c_s (hg i a) ?_;refine a_1 ?_;refine eK (.store rfl rfl (eE_get a (vY i)) rfl rfl rfl TS.h (nle rfl)) ?_;refine aq ?_;refine r_m 2 ?_;refine a_z ?_;refine⟨i+1,ω,a,?_⟩;simp only[LP.eq_1];refine s_x [] (λhs=>e_2) (λhs=>?_)
 ·repeat' (first|exact aF|refine h_c ?_ ?_|exact aM hs (eE_set a (vY i)) (tM n (i+1) f)|exact bG|refine aB ?_|exact av|refine ai ?_ ?_|exact ao hs (aX af hcap)|exact aZ)
 have d:i=n:=by
  have:¬i< n:=by simpa using h
  omega
 subst d;refine ay ⟨(),trivial,?_⟩;simp only[LP.eq_1];refine s_x [] (λhs=>e_2) (λhs=>?_)
 ·repeat' (first|exact aF|refine h_c ?_ ?_|exact bv hs (tM i i f)|exact bG|refine aB ?_|exact av|refine ai ?_ ?_|exact ao hs (aX af hcap)|exact aZ)
 rintro _ _;rw[LP.eq_1]
 have b:List.take n (List.drop 0 (pE (aI n f)++List.replicate (n- n) zC))=pE (aI n f):=by
  rw[Nj,List.replicate_zero,Ng,sr,nk ψ]
 refine s_r 3 ?_;refine a_1 ?_;refine o_1 (.callS1 rfl rfl rfl (.shut rfl d_n (.nil)) rfl ((by rw[b];exact ee (aI n f) (by simp;exact hn)))) ?_;refine a_z ?_;exact ak (t_e (aP (aK _)))
end Go.Proofs.YtjmkjicckobojaaGreatDoor
