/- Part Y26 of the proof. -/
import Derived.Test.YtjmkjicckobojaaGreatDoorY25
import Derived.Lib.UnsafeStr
import Derived.Lib.Builder
import Derived.Shelf.RegionOpenPlain
import Derived.Lib.Strings
import Derived.Lib.Slices
import Derived.Lib.Walk
set_option linter.all false
namespace Go.Proofs.YtjmkjicckobojaaGreatDoor
open Go.Abs
set_option maxRecDepth 20000
theorem oY{z:Int}{k:Nat}(h:bl z.natAbs<=k)(hk:k<=8796093022208):zl z:=fo h hk
theorem fs_rOf(n d:Int)(hd:d≠0)(h: -9223372036854775808<=n/\n<=9223372036854775807)(h2: -9223372036854775808<=d/\d<=9223372036854775807):FS 48 [i64 n,i64 d] (.agg (rC (rq (Rat.divInt n d)))):=by
 have hb:∀z:Int,-9223372036854775808<=z->z<=9223372036854775807->bl z.natAbs<=4398046511104:=λz a h2=>fo (fx (k:=64) ω) δ;refine f_c Tryz.func48 ?_;refine r_z 1 ?_;refine r_c 6 (rl n h) ?_;refine c_s (rl d h2) ?_;refine c_s (Cy n d hd (hb n h.1 h.2) (hb d h2.1 h2.2)) ?_;refine a_z ?_;exact ak (c_e (mq _))
theorem Cm(x:RQ):FS 149 [.agg (rC x)] (i64 (sgZ x.1.num)):=by
 refine f_c Tryz.func149 ?_;refine r_z 2 ?_;refine r_z 4 ?_;exact ak (t_e (ah _))
theorem fs_rMul(x y:RQ)(hx:rok x)(hy:rok y)(h:qs x.1+qs y.1<=1099511627776):FS 49 [.agg (rC x),.agg (rC y)] (.agg (rC (rq (x.1* y.1)))):=by
 obtain⟨a,d⟩:=x;obtain⟨b,l⟩:=y;simp only at h⊢;have hp:=sE a b;have j:=eJ a;have f:=eu a;have k:=eJ b;have g:=eu b;have n:=hp.1;have i:=hp.2;have c:(a.den:Int) * b.den≠0:=by have:=n8 a b;rw[<-EA];omega
 have e:a* b=Rat.divInt (a.num* b.num) (a.den* b.den):=by
  rw[oC,<-EA,<-O3]
 rw[e];have m:bl ((a.den:Int) * b.den).natAbs<=qs a+qs b:=by rw[<-EA,y2];exact i
 refine f_c Tryz.func49 ?_;refine r_z 3 ?_;refine ae (r_d ba 12 ?_);refine c_s (rk a.num b.num (oY j ω) (oY k ω)) ?_;refine c_s (uO (a,d) hx) ?_;refine c_s (uO (b,l) hy) ?_;refine c_s (rk a.den b.den (oY (by simpa using f) ω) (oY (by simpa using g) ω)) ?_;refine c_s (Cy (a.num* b.num) (a.den* b.den) c ω ω) ?_;refine a_1 ?_;refine aq (n_k ?_);exact ak (c_e (mq _))
theorem fs_rCmp(x y:RQ)(hx:rok x)(hy:rok y)(h:qs x.1+qs y.1<=1099511627776):FS 64 [.agg (rC x),.agg (rC y)] (i64 (eD x.1 y.1)):=by
 obtain⟨a,i⟩:=x;obtain⟨b,k⟩:=y;simp only at h⊢;have f:=eJ a;have c:=eu a;have g:=eJ b;have d:=eu b;have e1:=dI (x:=a.num) (y:=b.den) f (by simpa using d);have e2:=dI (x:=b.num) (y:=a.den) g (by simpa using c)
 have e:eD a b=ff (a.num* b.den) (b.num* a.den):=by
  rw[Hm];unfold ff;obtain⟨u,j⟩:∃u,u=a.num* (b.den:Int):=⟨_,rfl⟩;obtain⟨v,hv⟩:∃v,v=b.num* (a.den:Int):=⟨_,rfl⟩;rw[<-j,<-hv];split;rfl;split <;> split <;> omega
 rw[e];refine f_c Tryz.func64 ?_;refine r_z 3 ?_;refine ae (r_d ba 12 ?_);refine c_s (uO (b,k) hy) ?_;refine c_s (rk a.num b.den (oY f ω) (oY (by simpa using d) ω)) ?_;refine c_s (uO (a,i) hx) ?_;refine c_s (rk b.num a.den (oY g ω) (oY (by simpa using c) ω)) ?_;refine c_s (fs_ZCmp (a.num* b.den) (b.num* a.den) (oY e1 ω) (oY e2 ω)) ?_;refine a_1 ?_;refine aq (n_k ?_);exact ak (t_e (ah _))
def qo(q:Rat):Nat->Rat
 |0=>q
 |k+1=>qo q k* q
theorem Gq(q:Rat):∀k,qs (qo q k)<=(k+1) * qs q
 |0=>by simp[qo]
 |k+1=>by
  have a:=cP (qo q k) q;have b:=Gq q k;show qs (qo q k* q)<=_;rw[zu (k+1),Kk];omega
def xu(D:Int):Int:=if D=0 then 1 else D
def qB(N D:Int)(p:Nat):Rat:=qo (Rat.divInt N (xu D)) (p % 4)
def nuC(N D:Int)(p:Nat):La:=[i64 N,i64 D,.v (.int .u8 p)]
def l8(n:Int):Prop:= -9223372036854775808<=n/\n<=9223372036854775807
theorem jv(N D:Int)(p:Nat):∀c∈nuC N D p,Closed c:=ac (ah _) (ac (ah _) (ac (ah _) af))
theorem L2(n d:Int):(n:Rat) / (d:Rat)=Rat.divInt n d:=(Rat.divInt_eq_div n d).symm
def boT(N:Int)(D:Int)(p:Nat)(q:Rat):Nat->AState
 |k=>⟨[(1,.lptr 1 0 0),(2,.lptr 2 0 0),(3,.lptr 3 0 0),(4,.lptr 4 0 0),(6,.lptr 5 0 0),(7,.lptr 6 0 0),(8,.lptr 7 0 0),(9,.v (.int .u8 k))],
  [(1,some ⟨24,3,[nuC N D p]⟩),(2,some ⟨42,3,[zC]⟩),(3,some ⟨47,4,[[i64 0,.emp,i64 0,.emp]]⟩),(4,some ⟨42,3,[qC q]⟩),(5,some ⟨47,4,[rC (rq q)]⟩),(6,some ⟨42,3,[qC (qo q k)]⟩),(7,some ⟨47,4,[rC (rq (qo q k))]⟩)],8,44⟩
theorem rp(N D:Int)(p:Nat)(hN:l8 N)(hD:l8 D)(hp:p<=255):FS 8 [.agg (nuC N D p)] (.tup [.agg (qC (qB N D p)),.agg (rC (rq (qB N D p)))]):=by
 obtain⟨d,b⟩:∃d,d=xu D:=⟨_,rfl⟩;have g:d≠0:=by rw[b];unfold xu;split <;> omega
 have a:l8 d:=by
  rw[b];unfold xu l8;unfold l8 at hD;split <;> omega
 unfold l8 at hN a;obtain⟨q,i⟩:∃q,q=Rat.divInt N d:=⟨_,rfl⟩;have f:=fs_Of N d hN a g;rw[L2,<-i] at f;have e:=fs_rOf N d g hN a;rw[<-i] at e;have m:qB N D p=qo q (p % 4):=by unfold qB;rw[<-b,<-i]
 rw[m];refine f_n Tryz.func8 ?_ ?_;exact ac (aD (jv N D p)) af;refine r_z 3 ?_
 refine bD (λ_:Unit=>⟨[(1,.lptr 1 0 0),(2,.lptr 2 0 0),(3,.lptr 3 0 0)],
  [(1,some ⟨24,3,[nuC N d p]⟩),(2,some ⟨42,3,[zC]⟩),(3,some ⟨47,4,[[i64 0,.emp,i64 0,.emp]]⟩)],4,44⟩) (λ_=>True) ?_ ?_
 refine r_z 3 ?_;refine au rfl (λn=>?_) (λn=>?_);have c:D=0:=by simpa using n
 have o:d=1:=by rw[b];unfold xu;rw[if_pos c]
 refine r_m 2 ?_;refine a_z ?_;refine⟨(),trivial,?_⟩;rw[o];have:=jv N 1 p;exact s_f [];have c:¬D=0:=by simpa using n
 have o:d=D:=by rw[b];unfold xu;rw[if_neg c]
 refine an ⟨(),trivial,?_⟩;rw[o];have:=jv N D p;exact s_f [];rintro _ _;refine r_c 11 (f) ?_;refine a_z ?_;refine r_c 7 (e) ?_;refine a_z ?_;refine ae (r_d ba 6 ?_);refine a_6 ?_;refine aq (n_k ?_);refine ae (r_z 1 ?_)
 have r:qs q<=64:=by
  have hb:∀z:Int,-9223372036854775808<=z/\z<=9223372036854775808->bl z.natAbs<=64:=λz h=>fx (k:=64) ω;rw[i];by_cases hn:d< 0;rw[pJ N d hn];exact gf ω (hb (-N) ω) (hb d ω);rw[pI N d ω];exact gf ω (hb N ω) (hb d ω)
 have t:(p:Int) % 4=((p % 4:Nat):Int):=ω
 refine aJ (λ_:Unit=>boT N d p q (p % 4)) (λ_=>True) ?_ ?_;refine aj (aC (boT N d p q) (λk=>p % 4- k) (λk=>k<=p % 4) 0 (mN _) ?_ ?_);simp only[boT.eq_1,qo];exact s_f [(4,4),(5,6),(6,7),(7,8)];rintro k v;rw[boT.eq_1];refine ae (r_z 5 ?_);refine au rfl (λh=>?_) (λh=>?_);refine an ?_
 have l:k< p % 4:=by
  have c:(k:Int)< (p:Int) % 4:=by simpa using h
  omega
 have u:=Gq q k;have s:(k+1) * qs q<=4* 64:=vj ω r;refine ae (aj (r_d ba 8 ?_));refine c_s (cQ (qo q k) q ω) ?_;refine c_s (fs_rMul (rq (qo q k)) (rq q) (zn _) (zn _) (by simp only[rq];omega)) ?_;refine a_2 ?_;refine aq (n_k ?_);refine r_m 3 ?_;refine a_z ?_;refine⟨k+1,ω,l,?_⟩;simp only[boT.eq_1];exact s_f []
 have j:k=p % 4:=by
  have c:¬(k:Int)< (p:Int) % 4:=by simpa using h
  omega
 subst j;refine ay ⟨(),trivial,?_⟩;exact s_f [];rintro _ _;rw[boT.eq_1];refine ae (r_d ba 4 ?_);refine a_4 ?_;refine aq (n_k ?_);refine ak (Fin.many ⟨_,_,rfl,⟨_,_,_,_,_,rfl,rfl,rfl,.inl ⟨TG.h,_,TS.h,nle rfl,rfl⟩⟩,⟨_,_,rfl,⟨_,_,_,_,_,rfl,rfl,rfl,.inl ⟨TG.h,_,TS.h,nle rfl,rfl⟩⟩,rfl⟩⟩ (nle rfl) ?_);exact ai (ao aE (aU _)) (ai (ao aE (mq _)) av)




theorem IF(p:Lq)(h:oz p)(h0:am p≠[])(hl:p.length<=1099511627776):FS 53 [.arr (pE p)] (.tup [.agg (qC (cg p)),i64 0]):=by
 refine f_c Tryz.func53 ?_;refine r_z 2 ?_;refine ae (r_c 3 (ce p hl) ?_);refine a_z ?_;refine au rfl (λa=>?_) (λa=>?_);exact absurd (degP_neg.1 (by simpa using a)) h0;refine an (r_c 4 (Ct p h h0) ?_);refine a_z ?_;refine ak (Fin.many ⟨_,_,rfl,⟨_,_,_,_,_,rfl,rfl,rfl,.inl ⟨TG.h,_,TS.h,nle rfl,rfl⟩⟩,⟨_,_,rfl,rfl,rfl⟩⟩ (nle rfl) ?_);exact ai (ao aE (aU _)) (ai (ao aE (ah _)) av)
theorem LC(f:Nat)(p:Lq)(c:Cnt)(s:Sp)(hc:e8 f p=some c)(hf:f<=1000000)(h1:pp c s.1)(h2:sv c s.2)(hs:smS s)(hv:eD s.1 s.2<=0)(hl:pu p=0)(hp:p.length<=1099511627776):
    FS 181 [.arr (pE p),.agg (spC s.1 s.2)] (.tup [i64 (dR c s.2- dN c s.1),i64 0]):=by
 have e:=nn (x:=s.2) h2.1;have g:=yL (x:=s.1) h1.1.1;have a:=Lf p hp;rw[hl] at a;refine f_c Tryz.func181 ?_;refine r_z 3 ?_;refine ae (r_c 3 (kr s.1 s.2 hs.1 hs.2) ?_);refine a_z ?_;refine au rfl (λd=>?_) (λd=>?_);exact absurd d (by simp[hv]);refine an (ae (r_c 3 (a) ?_));refine a_z ?_;refine r_z 2 ?_;refine au rfl (λb=>?_) (λb=>?_);exact absurd b δ;refine an (r_c 3 (oI f p c hc hf) ?_);refine a_z ?_;refine ae (r_d ba 11 ?_);refine c_s (mQ c s.2 h2) ?_;refine c_s (kU c s.1 h1) ?_;refine a_3 ?_;refine aq (n_k ?_);refine ak (Fin.many ⟨_,_,rfl,rfl,⟨_,_,rfl,rfl,rfl⟩⟩ (nle rfl) ?_);exact ai (ao aE (ah _)) (ai (ao aE (ah _)) av)
theorem Ig(a b:Rat)(hb:b≠0)(h:qs a+qs b<=549755813888):FS 186 [.agg (qC a),.agg (qC b)] (.agg (qC (a/ b))):=by
 refine f_c Tryz.func186 ?_;refine r_z 3 ?_;refine r_c 9 (Al a b hb h) ?_;refine a_z ?_;refine r_z 2 ?_;exact ak (c_e (aU _))
theorem fF(n:Int)(h: -9223372036854775808<=n/\n<=9223372036854775807):FS 93 [i64 n] (.agg (qC (n:Rat))):=by
 refine f_c Tryz.func93 ?_;refine r_z 1 ?_;refine r_c 3 (dM n h) ?_;refine a_z ?_;exact ak (c_e (aU _))
theorem mS(n lo hi:Int):FS 91 [i64 n,i64 lo,i64 hi] (bln (decide (n< lo\/hi< n))):=by
 refine f_c Tryz.func91 ?_;refine r_z 1 ?_;by_cases h:n< lo;rw[decide_eq_true (Or.inl h)];refine q_z 9 ?_;exact ak (t_e (ah _));by_cases h2:hi< n;rw[decide_eq_true (Or.inr h2)];refine q_z 9 ?_;exact ak (t_e (ah _));rw[decide_eq_false (λe=>e.elim h h2)];refine q_z 9 ?_;exact ak (t_e (ah _))
theorem Ag(p q:Lq)(h:iz p q)(h0:am q≠[]):FS 185 [.arr (pE p),.arr (pE q)] (.arr (pE (bJ p q).2)):=by
 refine f_c Tryz.func185 ?_;refine r_z 1 ?_;refine r_c 10 (IC p q h h0) ?_;refine a_z ?_;refine r_z 2 ?_;exact ak (t_e (aw _))
theorem EM(p:Lq)(hb:bdL p 68719476736)(h0:am p≠[])(hl:p.length<=1099511627776):FS 100 [.arr (pE p)] (.arr (pE (cV p))):=by
 have hp:smL p:=ek hb δ
 have a:qs (aL p)<=68719476736:=by
  obtain⟨n,b⟩:∃n,(am p).length=n+1:=⟨(am p).length- 1,by have:=nB.2 h0;omega⟩;exact hb _ (cS (mc (dt b)))
 have q1:qs ((1:Int):Rat)=1:=δ
 have c:=fS ((1:Int):Rat) (aL p);have e:cV p=aW p (((1:Int):Rat) / aL p):=by unfold cV;rw[if_neg h0];rfl
 rw[e];refine f_c Tryz.func100 ?_;refine r_z 1 ?_;refine r_c 7 (fF 1 δ) ?_;refine c_s (lh p hl) ?_;refine o_0 (.call rfl rfl rfl (Ig _ (aL p) (df h0) ω)) ?_;refine o_0 (.call rfl rfl rfl (eY p _ hp (by unfold sm;omega) hl)) ?_;refine o_0 (.assign rfl) ?_;refine aq ?_;exact ak (t_e (aw _))
theorem Cp(f:Lq)(a b:Rat)(hf:smL f)(hl:f.length<=1000000)(ha:eg (aH f) a)(hb:eg (aH f) b):FS 95 [.arr (pE f),.agg (spC a b)] (.agg (qC (ag (aH f) b- ag (aH f) a))):=by
 have q1:=nZ ha;have q2:=nZ hb;unfold sm at q1 q2;refine f_c Tryz.func95 ?_;refine r_z 2 ?_;refine r_c 3 (nS f hf ω) ?_;refine a_z ?_;refine ae (r_d ba 10 ?_);refine c_s (fg (aH f) b hb) ?_;refine c_s (fg (aH f) a ha) ?_;refine o_0 (.call rfl rfl rfl (lC _ _ ω)) ?_;refine eK (.store rfl rfl rfl rfl rfl rfl TS.h (nle rfl)) ?_;refine aq (n_k ?_);exact ak (c_e (aU _))
theorem xt(p:Lq)(h:oz p)(h0:am p≠[])(hl:p.length<=1099511627776):FS 182 [.arr (pE p)] (.agg (spC (-cg p) (cg p))):=by
 refine f_c Tryz.func182 ?_;refine r_z 1 ?_;refine r_c 8 (IF p h h0 hl) ?_;refine a_z ?_;refine ae (r_d ba 5 ?_);refine c_s (iP (cg p)) ?_;refine a_3 ?_;refine aq (n_k ?_);exact ak (c_e (ca _ _))
def wC(m:Lq)(l r:Bool)(lo hi:La):La:=[.arr (pE m),bln l,bln r]++lo++hi
def okC2(lo:La):Prop:=lo=zC\/∃q,lo=qC q
theorem ug{lo:La}(h:okC2 lo):∀c∈lo,Closed c:=by
 rcases h with rfl|⟨q,rfl⟩
 exact gM;exact bi q
theorem ju{m:Lq}{l r:Bool}{lo hi:La}(h:okC2 lo)(h2:okC2 hi):∀c∈wC m l r lo hi,Closed c:=λc a=>by
 unfold wC at a;rcases n7.1 a with a|a
 rcases n7.1 a with a|a
 exact ac (aw m) (ac (ah _) (ac (ah _) af)) c a;exact ug h c a;exact ug h2 c a
theorem K6(p:Lq)(n:Int)(hl:p.length<=1099511627776)(h:1<=a8 p/\a8 p<=25)(hb:oz p)(hc:FS 181 [.arr (pE p),.agg (spC (-cg p) (cg p))] (.tup [i64 n,i64 0])):FS 98 [.arr (pE p)] (bln (decide (n=a8 p))):=by
 have b:=mS (a8 p) 1 25;rw[decide_eq_false ω] at b;have c:am p≠[]:=λe=>by have:=degP_neg.2 e;omega
 have a:=xt p hb c hl;refine f_c Tryz.func98 ?_;refine r_z 1 ?_;refine r_c 3 (ce p hl) ?_;refine a_z ?_;refine ae (r_c 2 (b) ?_);refine aq ?_;refine cF (an (r_c 9 (a) ?_));refine c_s (hc) ?_;refine a_z ?_;refine r_z 4 ?_;exact ak (t_e (ah _))
abbrev ruC(p w:Lq):La:=[.arr (pE p),.arr (pE w)]
theorem dm(p w:Lq):∀c∈ruC p w,Closed c:=ac (aw p) (ac (aw w) af)
theorem Av(p w:Lq)(hr:FS 98 [.arr (pE p)] (bln true))(hm:aL p=1)(hd:a8 w< a8 p)(hp:p.length<=1099511627776)(hw:w.length<=1099511627776):FS 188 [.agg (ruC p w)] (i64 0):=by
 have b:=lh p hp;rw[hm] at b;have c:=fF 1 δ;have a:=lD 1 ((1:Int):Rat) δ δ;rw[show eD 1 ((1:Int):Rat)=0 by decide+kernel] at a;refine f_n Tryz.func188 ?_ ?_;exact ac (aD (dm p w)) af;refine r_z 2 ?_;refine ae (ae (r_d ba 21 ?_));refine c_s (hr) ?_;refine c_s (b) ?_;refine c_s (c) ?_;refine c_s (a) ?_;refine bF rfl rfl rfl (.bin rfl rfl (vF cx (rfl))) rfl rfl ?_;refine c_s (ce w hw) ?_;refine c_s (ce p hp) ?_;refine d_2 ?_;refine aq (n_k ?_);refine cF (an (r_z 1 ?_));exact ak (t_e (ah _))
theorem nT(m:Lq)(l r:Bool)(a b:Rat)(hm:1<=m.length/\m.length<=64)(hab:l=true->r=true->a< b)(ha:sm a)(hb:sm b):FS 97 [.agg (wC m l r (qC a) (qC b))] (i64 0):=by
 have d:=mS (m.length:Nat) 1 64;rw[decide_eq_false ω] at d;have f:=ju (m:=m) (l:=l) (r:=r) (.inr ⟨a,rfl⟩) (.inr ⟨b,rfl⟩);have c:=lD a b ha hb;refine f_c Tryz.func97 ?_;refine r_z 2 ?_;cases l with
 |false=>
  refine ae (r_c 20 (d) ?_);refine a_z ?_;refine cF (an (r_z 1 ?_));exact ak (t_e (ah _))
 |true=>
  cases r with
  |false=>
   refine ae (r_c 20 (d) ?_);refine a_z ?_;refine cF (an (r_z 1 ?_));exact ak (t_e (ah _))
  |true=>
   have e:=hab rfl rfl;rw[show eD a b= -1 by unfold eD;rw[if_pos e]] at c;refine ae (r_c 20 (d) ?_);refine c_s (c) ?_;refine bF rfl rfl rfl (.bin rfl rfl (vF ig (rfl))) rfl rfl ?_;refine a_z ?_;refine cF (an (r_z 1 ?_));exact ak (t_e (ah _))
theorem Iv (p:Lq) (n:Nat) (hl:p.length<=1000000) (hn:n<=40) (hmx:(if (0:Int)> a8 p then(0:Int) else a8 p) * n<=72/\0<=(if (0:Int)> a8 p then(0:Int) else a8 p) * n)
    (hM:∀j,j< n->FS 29 [.arr (pE (qp p j)),.arr (pE p)] (.arr (pE (qp p (j+1))))):FS 179 [.arr (pE p),i64 n] (.tup [.arr (pE (qp p n)),i64 0]):=by
 have e:(0:Int)<=a8 p+1/\a8 p<=1000000:=by
  have:=bm p;unfold a8;omega
 refine f_c Tryz.func179 ?_;refine r_z 2 ?_;refine ae (aj (q_z 7 ?_));refine cF (r_c 7 (ce p ω) ?_);refine a_2 ?_;refine o_0 (.bin rfl rfl (rW ω)) ?_;refine d_z ?_;refine cF (an ?_);have d:=dM 1 δ;have c:=lf 1;refine r_c 3 (d) ?_;refine c_s (c) ?_;refine a_z ?_;refine ae (r_z 2 ?_);refine aJ (λ_:Unit=>⟨[(6,.arr (pE (qp p n)))],[],1,31⟩) (λ_=>True) ?_ ?_;refine aj (aC (λj:Nat=>⟨[(24,i64 ((j:Nat):Int)),(23,i64 ((n:Nat):Int)),(6,.arr (pE (qp p j))),(0,.arr (pE p))],[],1,31⟩) (λj=>n- j) (λj=>j<=n) 0 (mN _) ?_ ?_);exact s_e [];rintro j f;by_cases hlt:j< n;have b:=hM j hlt;refine q_z 1 ?_;refine ae (cT (an (ae (aj (r_m 4 ?_)))));refine c_s (b) ?_;refine a_z ?_;refine r_m 2 ?_;refine a_z ?_;refine⟨j+1,ω,hlt,?_⟩;exact s_e [];have a:j=n:=ω
 subst a;refine q_z 1 ?_;refine ae (cF (ay ⟨(),trivial,?_⟩));exact s_e [];rintro _ _;refine r_z 3 ?_;refine ak (Fin.many ⟨_,_,rfl,rfl,⟨_,_,rfl,rfl,rfl⟩⟩ (nle rfl) ?_);exact ai (ao aE (aw _)) (ai (ao aE (ah _)) av)
theorem Lu(p:Lq)(n:Nat)(hs:bdL p 256)(hl:p.length<=12)(hn:n<=6)(hb:∀k,k<=n->pB p.length k<=1073741824):FS 179 [.arr (pE p),i64 n] (.tup [.arr (pE (qp p n)),i64 0]):=by
 have g:(0:Int)<=a8 p+1/\a8 p<=12:=by
  have:=bm p;unfold a8;omega
 refine Iv p n ω ω ?_ λj a=>?_;have c:(0:Int)<=(if (0:Int)> a8 p then(0:Int) else a8 p)/\(if (0:Int)> a8 p then(0:Int) else a8 p)<=12:=by split <;> omega
 generalize (if (0:Int)> a8 p then(0:Int) else a8 p)=m at c⊢;have e:m* n<=12* 6:=Int.mul_le_mul c.2 ω ω δ;exact⟨e,OM c.1 ω⟩;have f:=hb (j+1) a;have b:=vV p j;have d:j* p.length<=6* 12:=vj ω hl
 exact pz (qp p j) p (pB p.length j) 256 (Gr hs j) hs (J7 p.length j) δ (by
  have i:=mC (pB p.length j+256+1) b;have h:(j* p.length+1) * (pB p.length j+256+1)+1<=1073741824:=f;omega) δ ω ω
end Go.Proofs.YtjmkjicckobojaaGreatDoor
namespace Go.Proofs.YtjmkjicckobojaaGreatDoor
open Go.Abs Go.RowKit
set_option maxRecDepth 20000
theorem DK:Tryz.prog.underlying 202=some (.pointer 205):=by kernel_rfl
theorem xI:Tryz.prog.underlying 306=some .unsafePointer:=by kernel_rfl
theorem FW:(Tryz.prog.info? 205).map (·.size)=some 2:=by kernel_rfl
set_option maxHeartbeats 1000000 in
theorem cs_used(b:Nat)(w:World)(h0:w.cell? ⟨b,0,none⟩=some (.pointer (some ⟨b,0,none⟩))):
    Calls Tryz.prog 207 #[.pointer (some ⟨b,0,none⟩)] w λe w'=>e= .returned (.tuple #[])/\w'=w:=by
 obtain⟨j,a,_⟩:=M5.1 FW
 go_enter Tryz.func207,Tryz.ntmps207
 go_wp2
 rw[Lib.run_neq_ptr_same w _ DK a]
 go_wp2
 go_end0
 exact⟨rfl,rfl⟩
theorem zY{n:Nat}(hn:2<=n):liesAt Tryz.prog Tryz.prog.depth 205 (n/ Tryz.prog.cellsOf 205) 0 205 1=true:=by
 have b:Tryz.prog.cellsOf 205=2:=by kernel_rfl
 rw[b];have a:Tryz.prog.depth=(2* (Tryz.prog.types.size+Made.depth)+1)+1:=rfl;rw[a];simp only[liesAt,Nu];left;rw[a];have:1<=n/ 2:=ω
 simp[rowAt,sameLayout,this,b]
set_option maxHeartbeats 1000000 in
theorem L6(b:Nat)(w:World)(cs:Array Value)(hh:w.heap[b]?=some (.cells cs 205 (0,0)))(hsz:2<=cs.size)(hc:cs[0]?=some (.pointer none)):
    Calls Tryz.prog 207 #[.pointer (some ⟨b,0,none⟩)] w λe w'=>e= .returned (.tuple #[])/\w'=w.setCell ⟨b,0,none⟩ (.pointer (some ⟨b,0,none⟩)):=by
 obtain⟨j,d,c⟩:=M5.1 FW;have g:w.cell? ⟨b,0,none⟩=some (.pointer none):=by simp[World.cell?,hh,hc]
 have a:w.shape? b=some (205,cs.size):=by simp[World.shape?,hh]
 have f:w.frozen? ⟨b,0,none⟩=false:=by simp[World.frozen?,hh]
 go_enter Tryz.func207,Tryz.ntmps207
 go_wp2
 rw[Lib.run_to_unsafe w ⟨b,0,none⟩ DK xI d (by rw[c];decide) a (by show 0< cs.size;omega)];simp only[Result.andThen];rw[Oper.upon_value]
 go_wp2
 rw[run_callFunc_extern Tryz.func254 ξ ξ ξ (e:=Extern.AbiNoEscape.same) ξ];rw[Lib.run_noEscape];simp only[Result.andThen];rw[Oper.upon_value]
 go_wp2
 rw[Lib.run_from_unsafe w ⟨b,0,none⟩ xI DK d a (zY hsz)];simp only[Result.andThen];rw[Oper.upon_value]
 go_wp2
 go_end0
 exact⟨rfl,rfl⟩
theorem yy{P:Go.Program}{f:Nat}{fn:Func}{c:Code}(hf:P.funcs[f]?=some fn)(hb:fn.body=some c)(hname:(fn.name== "runtime.NumGoroutine")=false)(xs:Array Value)(w:World):(callFunc f xs).run P w= .ok (.enter f xs) w:=by
 have hname':¬fn.name= "runtime.NumGoroutine" :=by simpa using hname
 simp[callFunc,hf,hname',hb]
theorem rI:CSpec Tryz.prog 207 205:=
 ⟨λxs w=>yy Tryz.func207 rfl ξ xs w,λb w a=>cs_used b w a,λb w cs d c a=>L6 b w cs d c a⟩
theorem BL(a b:Value):Pure (.tup [.v a,.v b]):=by
 rintro M l β m w k y ⟨xs,rfl,h,c,e,g,⟨i,f,e2,d,j⟩⟩;exact⟨xs,rfl,h,c,e,g,i,f,e2,d,j⟩
theorem oh:Tryz.prog.underlying 9=some .string:=by kernel_rfl
theorem bE_len(q:List UInt8):sI (.arr (bE q))=some q.length:=by simp[sI,dK]
theorem uB(t:List UInt8):(⟨t.toArray⟩:ByteArray).size=t.length:=by simp[ByteArray.size]
theorem mr(t:List UInt8)(h0:t≠[])(hl:t.length<=1099511627776):BSpec Tryz.prog 128 205 5 none t [tx t] (.tup [i64 t.length,.v .nilIface]):=by
 refine BSpec.intro Tryz.func128 rfl ξ (ac (ah _) af) (BL _ _) (nle rfl) ?_;show AWp _ _ _ _ ⟨[(0,.lptr 0 0 0),(1,tx t)],[(0,some ⟨205,2,[fe 0 1 none]⟩)],2,19⟩;refine r_z 2 ?_;refine s_r 2 ?_;refine a_1 ?_;refine o_1 (.callC rfl rfl rfl rfl rfl (by first|exact .inl rfl|exact .inr rfl) (rI)) ?_;refine aq ?_;refine s_r 10 ?_;refine a_6 ?_;refine o_1 (.appS_e rfl rfl rfl te_203.h oh rfl rfl h0 TZ.h rfl TB.h ω) ?_;refine a_z ?_;refine s_r 4 ?_;refine o_0 (.move rfl) ?_;refine o_0 (.builtinV (vs:=[_]) rfl rfl (λ_ _ _=>rfl)) ?_;refine o_0 (.assign rfl) ?_;refine o_0 (.assign rfl) ?_;refine aq ?_;refine ak ⟨.inr rfl,?_,12,δ,rfl,rfl⟩;refine⟨[_,_],⟨_,_,rfl,rfl,⟨_,_,rfl,rfl,rfl⟩⟩,Cv.tup ?_⟩;refine ai (Cv.loE aE ?_ (ah _)) (ai (ao aE (ah _)) av);rw[uB];rfl
theorem kz(q t:List UInt8)(hl:q.length+t.length<=1099511627776):BSpec Tryz.prog 128 205 5 (some q) (q++t) [tx t] (.tup [i64 t.length,.v .nilIface]):=by
 refine BSpec.intro Tryz.func128 rfl ξ (ac (ah _) af) (BL _ _) (nle rfl) ?_;show AWp _ _ _ _ ⟨[(0,.lptr 0 0 0),(1,tx t)],[(0,some ⟨205,2,[fe 0 1 (some q)]⟩),(1,some ⟨5,1,bE q⟩)],2,19⟩;refine r_z 2 ?_;refine s_r 2 ?_;refine a_1 ?_;refine o_1 (.callC rfl rfl rfl rfl rfl (by first|exact .inl rfl|exact .inr rfl) (rI)) ?_;refine aq ?_;refine s_r 10 ?_;refine a_6 ?_;refine o_2 (.appS_l rfl rfl rfl te_203.h oh rfl rfl rfl rfl TZ.h rfl TB.h ω) ?_;refine a_z ?_;refine s_r 4 ?_;refine o_0 (.move rfl) ?_;refine o_0 (.builtinV (vs:=[_]) rfl rfl (λ_ _ _=>rfl)) ?_;refine o_0 (.assign rfl) ?_;refine o_0 (.assign rfl) ?_;refine aq ?_;refine ak ⟨.inr rfl,?_,12,δ,rfl,rfl⟩;refine⟨[_,_],⟨_,_,rfl,rfl,⟨_,_,rfl,rfl,rfl⟩⟩,Cv.tup ?_⟩;refine ai (Cv.loE aE ?_ (ah _)) (ai (ao aE (ah _)) av);rw[uB];rfl
theorem uW:FS 127 [.aptr [IW none] 0 0] (i64 0):=by
 have a:Closed (.aptr [IW none] 0 0):=aN (ac (ah _) (ac dy af));refine f_c Tryz.func127 ?_;refine r_z 1 ?_;refine r_z 6 ?_;exact ak (t_e (ah _))
theorem uV(q:List UInt8):FS 127 [.aptr [IW (some q)] 0 0] (i64 q.length):=by
 have a:Closed (.aptr [IW (some q)] 0 0):=aN (ac (lo_any 0).closed (ac (aP (yH q)) af));refine f_c Tryz.func127 ?_;refine r_z 1 ?_;refine s_r 6 ?_;refine a_4 ?_;refine o_0 (.len rfl rfl rfl rfl (bE_len q) te_203.h) ?_;refine a_z ?_;exact ak (t_e (ah _))
theorem ub_byte:Tryz.prog.underlying 268=some (.pointer 5):=by kernel_rfl
theorem Jc:Tryz.prog.cellsOf 5=1:=by kernel_rfl
theorem Fx(w:World)(g n:Nat):But g w (w.drew.freeze ⟨g,0,none⟩ n):=by
 have b:∀x,x≠g->(w.drew.freeze ⟨g,0,none⟩ n).heap[x]?=w.heap[x]?:=by
  intro x a;unfold World.freeze;split;rfl;show(w.heap.modify g _)[x]?=_;rw[Array.getElem?_modify,if_neg (Nz a)]
 have c:(w.drew.freeze ⟨g,0,none⟩ n).heap.size=w.heap.size:=by
  unfold World.freeze;split;rfl;show(w.heap.modify g _).size=_;simp
 refine⟨?_,?_,?_,ω,λx _ a=>b x a,λx N a=>?_⟩;unfold World.freeze;split <;> rfl;unfold World.freeze;split <;> rfl;unfold World.freeze;split <;> rfl;by_cases hxg:x=g;subst hxg;unfold World.freeze;split;exact a;unfold aY at a⊢;show(match (w.heap.modify x _)[x]? with|some (.cells cs _ _)=>some cs.size|some (.map _ _)=>some 0|_=>none)=some N;rw[Array.getElem?_modify,if_pos rfl];cases ho:w.heap[x]? with
 |none=>rw[ho] at a;cases a
 |some o=>
  rw[ho] at a;cases o <;> simp_all
 unfold aY at a⊢;rw[b x hxg];exact a
set_option maxHeartbeats 2000000 in
theorem ds_run (b bj cap:Nat) (q:List UInt8) (w:World) (cs ck:Array Value) (h0:q≠[]) (hb:w.heap[b]?=some (.cells cs 205 (0,0))) (hc1:cs[1]?=some (.slice (some ⟨bj,0,none⟩) q.length cap)) (hl:q.length<=cap) (hm:cap<=maxLen) (hne:b≠bj) (hj:w.heap[bj]?=some (.cells ck 5 (0,0))) (hck:cap<=ck.size)
    (hq:∀(k:Nat) (x:UInt8),q[k]?=some x->ck[k]?=some (Value.int .u8 x.toNat)):Calls Tryz.prog 130 #[.pointer (some ⟨b,0,none⟩)] w λe w'=>e= .returned (.string ⟨q.toArray⟩)/\But bj w w':=by
 have f:q.length≠0:=by simpa using h0
 have i:w.drew.cell? ⟨b,1,none⟩=some (.slice (some ⟨bj,0,none⟩) q.length cap):=by
  have:w.drew.heap[b]?=some (.cells cs 205 (0,0)):=hb;simp[World.cell?,this,hc1]
 have g:(Builtin.unsafeSliceData_ #[203] 268 #[.slice (some ⟨bj,0,none⟩) q.length cap]).run Tryz.prog w.drew= .ok (.pointer (some ⟨bj,0,none⟩)) w.drew:=
  Lib.run_unsafeSliceData_row _ _ _ _ _ _ ω
 have d:(Builtin.unsafeString_ #[268,3] 9 #[.pointer (some ⟨bj,0,none⟩),.int .i64 q.length]).run Tryz.prog w.drew= .ok (.string ⟨q.toArray⟩) (w.drew.freeze ⟨bj,0,none⟩ q.length):=by
  refine Lib.run_unsafeString_row w.drew 268 3 9 5 ub_byte Jc bj ck.size (by have a:w.drew.heap[bj]?=some (.cells ck 5 (0,0)):=hj;simp[World.shape?,a]) q h0 ω (by unfold maxLen at hm;omega) ?_;intro j x h;have a:w.drew.heap[bj]?=some (.cells ck 5 (0,0)):=hj;rw[show(⟨bj,0,none⟩:Addr).add j=⟨bj,0+j,none⟩ from k5 bj 0 j];simp[World.cell?,a,hq j x h]
 have c:=ba
 go_enter Tryz.func130,Tryz.ntmps130
 go_wp2
 go_region_o
 all_goals (go_wp2;go_ret;exact⟨rfl,Fx w bj q.length⟩)
theorem yz:DSpec Tryz.prog 130 205 5:=
 ⟨λxs w=>yy Tryz.func130 rfl ξ xs w,λb j c q w cs l k hb e h f a i d g=>ds_run b j c q w cs l k hb e h f a i d g⟩
end Go.Proofs.YtjmkjicckobojaaGreatDoor
namespace Go.Proofs.YtjmkjicckobojaaGreatDoor
open Go.Abs
set_option maxRecDepth 20000
def ka(n:Nat):List UInt8:=if n< 10 then [48+n.toUInt8] else [48+(n/ 10).toUInt8,48+(n % 10).toUInt8]
theorem C2(s:ByteArray)(l h:Nat)(zl zh:Int)(el:zl=(l:Int))(eh:zh=(h:Int))(hlh:l<=h)(hh:h<=s.size):∀w,(Instr.sliceAt 9 (.string s) (some (.int .i64 zl)) (some (.int .i64 zh)) none).run Tryz.prog w= .ok (.string (s.extract l h)) w:=λw=>by
 subst el eh;have b1:∀(i y:Nat) (c:BoundsCode),i<=y->(Instr.sliceBound (.int .i64 (i:Int)) y c).run Tryz.prog w= .ok i w:=λi y c b=>fl b c w
 have a:(Instr.slice 9 (.string s) (some (.int .i64 (l:Int))) (some (.int .i64 (h:Int))) none).run Tryz.prog w= .ok (.string (s.extract l h)) w:=by
  simp[Instr.slice,run_underlying oh,Instr.sliceBounds,b1 h s.size _ hh,b1 l h _ hlh,Result.andThen]
 unfold Instr.sliceAt;rw[Sem.run_bind,run_underlying oh];exact a
def smallsB:ByteArray:=⟨((List.range 100).flatMap λn=>[48+(n/ 10).toUInt8,48+(n % 10).toUInt8]).toArray⟩
theorem Ic(i:Nat)(h:i< 100):FS 285 [i64 i] (tx (ka i)):=by
 refine f_c Tryz.func285 ?_;refine r_z 1 ?_;refine ae (r_z 2 ?_);refine au rfl (λc=>?_) (λc=>?_);have b:i< 10:=by simp at c;omega
 refine s_r 5 ?_;refine a_3 ?_;refine o_0 (.slice_v rfl rfl rfl rfl (C2 _ i (i+1) _ _ rfl ω ω (by exact fo (m:=10) ω δ))) ?_;refine a_z ?_;refine ak (a7 rfl ?_ ?_);have a:∀i,i< 10->(ByteArray.mk #[48,49,50,51,52,53,54,55,56,57,97,98,99,100,101,102,103,104,105,106,107,108,109,110,111,112,113,114,115,116,117,118,119,120,121,122]).extract i (i+1)=⟨(ka i).toArray⟩:=δ
 exact congrArg (λs=>AV.v (.string s)) (a i b);exact ah _;have b:10<=i:=by simp at c;omega
 refine an (s_r 7 ?_);refine a_5 ?_;refine o_0 (.slice_v rfl rfl rfl rfl (C2 _ (i* 2) (i* 2+2) _ _ ω ω ω (by exact fo (m:=200) ω δ))) ?_;refine a_z ?_;refine ak (a7 rfl ?_ ?_);have a:∀i,i< 100->10<=i->smallsB.extract (i* 2) (i* 2+2)=⟨(ka i).toArray⟩:=δ
 refine congrArg (λs=>AV.v (.string s)) (Eq.trans (congrArg (λs:ByteArray=>s.extract _ _) (?_:_=smallsB)) (a i h b))
 kernel_rfl
 exact ah _
theorem Ap(i:Nat)(h:i< 100):FS 255 [i64 i,i64 10] (tx (ka i)):=by
 refine f_c Tryz.func255 ?_;refine r_z 1 ?_;refine ae (r_z 2 ?_);refine au rfl (λa=>?_) (λa=>?_);refine ae (s_r 6 ?_);refine a_3 ?_;refine y_g rfl ψ (.move rfl) ?_;refine y_g rfl ψ (.bin rfl rfl fz) ?_;refine o_0 (.pickT rfl ψ rfl) ?_;refine aq ?_;refine au rfl (λb=>?_) (λb=>?_);refine r_c 3 (Ic i h) ?_;refine a_z ?_;exact ak (t_e (ah _));exact absurd b χ;exact absurd a ψ
theorem Lh(i:Nat)(h:i< 100):FS 208 [i64 i] (tx (ka i)):=by
 refine f_c Tryz.func208 ?_;refine r_z 1 ?_;refine r_c 3 (Ap i h) ?_;refine a_z ?_;exact ak (t_e (ah _))
theorem GZ(i:Nat)(h:i< 100):FS 129 [i64 i] (tx (ka i)):=by
 refine f_c Tryz.func129 ?_;refine r_z 1 ?_;refine r_c 3 (Lh i h) ?_;refine a_z ?_;exact ak (t_e (ah _))
def te0(m:Nat):Unit->AState
 |u=>⟨[(1,.lptr 1 0 0),(3,.lptr 2 0 0),(11,.clos 256 [] [.aptr [[.arr (dE [m])]] 0 0])],[(1,some ⟨38,1,[[.arr (dE [m])]]⟩),(2,some ⟨205,2,[fe 2 0 none]⟩)],4,31⟩
def te1(m:Nat):Unit->AState
 |u=>⟨[(1,.lptr 1 0 0),(3,.lptr 2 0 0),(11,.clos 256 [] [.aptr [[.arr (dE [m])]] 0 0])],[(1,some ⟨38,1,[[.arr (dE [m])]]⟩),(2,some ⟨205,2,[fe 2 3 (some (ka m))]⟩),(3,some ⟨5,1,bE (ka m)⟩)],4,31⟩
def teS(m:Nat):Nat->AState
 |0=>te0 m ()
 |_+1=>te1 m ()
theorem IP{m:Nat}(h0:m≠0)(h:m< 100):ax MB m=[m]:=by
 have hb:MB=1000000000:=rfl;rw[fM δ ω,Fz ω,Fw ω,c8]
theorem AO(m:Nat):ka m≠[]:=by unfold ka;split <;> simp
theorem mh(m:Nat):(ka m).length<=2:=by unfold ka;split <;> simp
theorem Co(m:Nat)(h:m< 100):FS 131 [.agg [mag m]] (tx (ka m)):=by
 have u:=nP m;refine f_c Tryz.func131 ?_;refine r_z 2 ?_;refine ae (r_c 2 (u) ?_);refine aq ?_;refine au rfl (λn=>?_) (λn=>?_);have f:m=0:=by simpa using n
 subst f;refine r_z 1 ?_;exact ak (t_e (ah _));have f:m≠0:=by simpa using n
 have x:mag m= .arr (dE [m]):=by unfold mag;rw[IP f h]
 rw[x];refine an ?_;have v:([m]:Ln).length=1:=rfl;have d:Closed (.aptr [[.arr (dE [m])]] 0 0):=lj (λe p c q=>by simp at p;subst p;simp at q;subst q;exact dr _);have b:Closed (.clos 256 [] [.aptr [[.arr (dE [m])]] 0 0]):=aX af (ac d af);refine r_z 1 ?_;refine ae (r_c 3 (pa [m]) ?_);refine aq ?_;refine aJ (λ_:Unit=>te1 m ()) (λ_=>True) ?_ ?_;refine aj (AWp.rangeFunc (α:=Nat) (γ:=Empty) 1 (teS m) (λk=>k) (λk=>k<=1) (λe=>nomatch e) (λ_ e=>nomatch e) 0 rfl (o8 [m] ψ) rfl rfl ?_ (λk=>by cases k <;> exact⟨rfl,rfl⟩) (λe=>nomatch e) (mN _) rfl (λ_ h=>h) ?_ ?_ ?_ ?_ (λ_ e=>nomatch e));intro k xs a;unfold pe at a;split at a;cases a;rfl;cases a;show SEntT _ (te0 m ());rw[te0.eq_1];exact s_t [(1,1),(2,3)];exact ac d af
 ·intro l k xs t a
  unfold pe at a;split at a;rotate_left;cases a;rename_i hlt;have i:k=0:=by simpa using hlt
  subst i;cases a;show AWp _ _ _ _ ⟨jJ (te0 m ()).fr _ _++eX (te0 m ()).fr,_,_,_⟩;show AWp _ _ _ _ ⟨[(13,u32 m),(12,i64 0),(1,.lptr 1 0 0),(3,.lptr 2 0 0),(11,.clos 256 [] [.aptr [[.arr (dE [m])]] 0 0]),(1001,.lptr 1 0 0),(1003,.lptr 2 0 0),(1011,.clos 256 [] [.aptr [[.arr (dE [m])]] 0 0])],[(1,some ⟨38,1,[[.arr (dE [m])]]⟩),(2,some ⟨205,2,[fe 2 0 none]⟩)],4,31⟩;refine r_z 1 ?_;refine r_m 1 ?_;refine a_z ?_;refine aj (r_c 4 (GZ m h) ?_);refine a_z ?_;refine ae (r_z 6 ?_);refine au rfl (λo=>?_) (λo=>?_);exact absurd o ψ;refine an (r_m 2 ?_);refine a_1 ?_;refine o_2 (.callB (s:=none) (j:=0) rfl rfl rfl rfl rfl rfl (λ_ h=>by cases h) (mr (ka m) (AO m) (by have:=mh m;omega))) ?_;refine aq ?_;refine⟨0+1,⟨ω,rfl⟩,?_⟩;show SEntT _ ⟨[(1001,.lptr 1 0 0),(1003,.lptr 2 0 0),(1011,.clos 256 [] [.aptr [[.arr (dE [m])]] 0 0])],[(1,some ⟨38,1,[[.arr (dE [m])]]⟩),(2,some ⟨205,2,[fe 2 3 (some (ka m))]⟩),(3,some ⟨5,1,bE (ka m)⟩)],4,31⟩;refine SEntT.to2 [(3,100017)] rfl rfl rfl FG (λhs=>?_) (λhs=>?_)
  ·repeat' (first|exact aV|refine aA rfl ?_ ?_)
   all_goals (first|(exact ao hs b)|exact aZ)
  ·repeat' (first|exact aF|refine rY rfl rfl rfl rfl ?_ ?_)
   all_goals (first|exact bG|(refine aB ?_;repeat' (first|exact av|refine ai ?_ ?_)))
   all_goals (first|(exact ao hs b)|exact aZ)
 ·intro k t a
  unfold pe at a;split at a;cases a
  have g:k=1:=by
   rename_i w;simp at w;omega
  subst g;exact⟨(),trivial,SEnt.refl _⟩
 rintro _ _;rw[te1.eq_1];have r:=AO m;refine s_r 2 ?_;refine o_2 (.callD rfl rfl rfl rfl rfl rfl δ (by first|assumption|simp) (yz)) ?_;refine a_z ?_;exact ak (t_e (ah _))
section
variable {P:Go.Program}{T:Nat}{x y:Operand}
theorem mw{l m:List UInt8}(h:l.length+m.length<=9223372036854775807):∀w,(do eqGuard .add T x y (.string ⟨l.toArray⟩) (.string ⟨m.toArray⟩);binOp .add T (.string ⟨l.toArray⟩) (.string ⟨m.toArray⟩):Sem Value).run P w= .ok (.string ⟨(l++m).toArray⟩) w:=λw=>by
 have a:IntKind.i64.max=9223372036854775807:=δ
 have e:(⟨l.toArray⟩:ByteArray)++⟨m.toArray⟩=⟨(l++m).toArray⟩:=by
  apply ByteArray.ext;simp
 have b:¬((((⟨l.toArray⟩:ByteArray).size+(⟨m.toArray⟩:ByteArray).size:Nat):Int)> IntKind.i64.max):=by
  rw[uB,uB,a];omega
 simp only[eqGuard,binOp,Op.stringOp,b,if_false,e,Sem.run_bind,Sem.run_pure,Result.andThen_ok];rfl
theorem ob{l m:List UInt8}:∀w,(do eqGuard .eql T x y (.string ⟨l.toArray⟩) (.string ⟨m.toArray⟩);binOp .eql T (.string ⟨l.toArray⟩) (.string ⟨m.toArray⟩):Sem Value).run P w= .ok (.bool (decide (l=m))) w:=λw=>by
 rw[Dj];congr 2
 have e:∀l:List UInt8,(⟨l.toArray⟩:ByteArray).toList=l:=by
  intro l;have:=ByteArray.toList_eq (bs:=⟨l.toArray⟩);simpa using this
 rw[e,e];rw[Nv];simp
end
def mZ(q:Rat):List UInt8:=((if q.num< 0 then [45] else [])++ka q.num.natAbs)++(if q.den=1 then [] else 47::ka q.den)
def okT(q:Rat):Prop:=q.num.natAbs< 100/\q.den< 100
instance (q:Rat):Decidable (okT q):=inferInstanceAs (Decidable (_/\_))
theorem okT_qs{q:Rat}(h:okT q):qs q<=1099511627776:=by
 obtain⟨a,b⟩:=h;have e1:=fx (n:=q.num.natAbs) (k:=7) ω;have e2:=fx (n:=q.den) (k:=7) ω;unfold qs;omega
theorem textQ_len{q:Rat}:(mZ q).length<=6/\1<=(mZ q).length:=by
 have a:=mh q.num.natAbs;have b:=mh q.den;have c:=nB.2 (AO q.num.natAbs);unfold mZ;split <;> split <;> simp <;> omega
def qtS(q:Rat):List UInt8->AState
 |l=>⟨[(1,.aptr [qC q] 0 0),(3,tx l)],[],2,24⟩
theorem wF(q:Rat)(h:okT q):FS 47 [.agg (qC q)] (tx (mZ q)):=by
 have g:=mh q.num.natAbs;have f:=mh q.den;have d:1<=q.den:=q.den_pos;refine f_c Tryz.func47 ?_;refine r_z 2 ?_;refine AWp.ent (st':=⟨[(1,.aptr [qC q] 0 0)],[],2,24⟩) ?_ ?_;exact s_e [];refine r_c 5 (Co q.num.natAbs h.1) ?_;refine a_z ?_;refine bD (qtS q) (λl=>l=(if q.num< 0 then [45] else [])++ka q.num.natAbs) ?_ ?_;refine r_z 3 ?_;refine au rfl (λa=>?_) (λa=>?_);have b:q.num< 0:=by simpa using a
 refine r_m 3 ?_;refine a_1 ?_;refine o_0 (.bin rfl rfl (mw (l:=[45]) χ)) ?_;refine a_z ?_;refine⟨_,by rw[if_pos b],?_⟩;rw[qtS.eq_1];exact s_x [] (λhs=>e_15) (λhs=>e_16);have b:¬q.num< 0:=by simpa using a
 refine an ⟨ka q.num.natAbs,by rw[if_neg b];rfl,?_⟩;rw[qtS.eq_1];exact s_x [] (λhs=>e_15) (λhs=>e_16);rintro l c;have i:l.length<=3:=by rw[c];split <;> simp <;> omega
 rw[qtS.eq_1];refine bD (qtS q) (λl=>l=mZ q) ?_ ?_;refine r_c 4 (nP (q.den- 1)) ?_;refine a_z ?_;refine au rfl (λa=>?_) (λa=>?_)
 have b:¬q.den=1:=by
  intro e;rw[e] at a;simp at a
 refine r_m 7 ?_;refine c_s (fu q (okT_qs h)) ?_;refine c_s (Co q.den h.2) ?_;refine o_0 (.bin rfl rfl (mw (l:=[47]) χ)) ?_;refine o_0 (.bin rfl rfl (mw χ)) ?_;refine a_z ?_;refine⟨_,by unfold mZ;rw[if_neg b,<-c],?_⟩;rw[qtS.eq_1];exact s_x [] (λhs=>e_15) (λhs=>e_16)
 have b:q.den=1:=by
  have j:q.den- 1=0:=by simpa using a
  omega
 refine an ⟨l,by unfold mZ;rw[if_pos b,<-c,Ng],?_⟩;rw[qtS.eq_1];exact s_x [] (λhs=>e_15) (λhs=>e_16);rintro l rfl;rw[qtS.eq_1];refine r_z 2 ?_;exact ak (t_e (ah _))
end Go.Proofs.YtjmkjicckobojaaGreatDoor
