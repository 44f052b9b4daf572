/- Part Y29 of the proof. -/
import Derived.Test.YtjmkjicckobojaaGreatDoorY28
set_option linter.all false
namespace Go.Proofs.YtjmkjicckobojaaGreatDoor
open Go.Abs
set_option maxRecDepth 20000
set_option maxHeartbeats 2000000
section
variable {f:Int}{n:Nat}(hf: -128<=f/\f<=127)(hn:1<=n/\n<=5)
include hf hn
theorem K5:FS 98 [.arr (pE (ndP (xN f) n))] (bln true):=by
 obtain⟨c,l,b,i⟩:=Kn hf hn;obtain⟨p,o,_⟩:=jC (xN f) n;obtain⟨j,h⟩:=lV (xN f) n;have d:=zT hf hn.2;generalize ndP (xN f) n=T at *
 have a:a8 T=(n:Int):=by unfold a8;rw[j,h];omega
 have e:=Mg d δ;have k:=tN T;have m:=mxL_le d δ
 have g:=LC 9 T c (-cg T,cg T) l ω (b _ (by show qs (-cg T)<=_;rw[fa];omega)).2 (b _ (by show qs (cg T)<=_;omega)).1 ⟨by show qs (-cg T)<=_;rw[fa];omega,by show qs (cg T)<=_;omega⟩ (by
  show eD (-cg T) (cg T)<=0;unfold eD;rw[if_pos φ];decide) (by unfold pu;rw[if_neg ω,if_neg ω]) ω
 have:=K6 T _ ω (by rw[a];omega) ⟨ω,ω⟩ g;rw[decide_eq_true (by rw[i,a])] at this;exact this
theorem nd_pack{a b:Rat}(qa:qs a<=20)(qb:qs b<=20)(hab:a< b):
    ∃(V:Lq) (D:Nat),FS 32 [.agg (wC (m21 a b) true true (qC a) (qC b)),.arr (pE (ndP (xN f) n))] (.tup [.agg (ruC (ndP (xN f) n) V),i64 0])/\
     FS 33 [.agg (wC (m21 a b) true true (qC a) (qC b)),.agg (ruC (ndP (xN f) n) V)] (.tup [i64 ((D:Int)- 1),bln true,i64 0])/\
     n<=D/\D<=2* n/\(∀i,i< D->coP (m21 a b) i=trP (ndP (xN f) n) (aG V (gK [1] i)))/\bdL V 7200000/\V.length<=n:=by
 have F:=K5 hf hn;have S:∀i j,i< n->j< n->xN f i=xN f j->i=j:=λi j _ _ e=>DG e;obtain⟨A,B,l⟩:=nd_co (x:=xN f) (n:=n) S;have p:=Kl (x:=xN f) hn hab;have hH:=ndP_Ht hf hn.2;have c:bdL (ndP (xN f) n) 40:=bdL_mono' (zT hf hn.2) δ;obtain⟨np,dn,o⟩:=jC (xN f) n;obtain⟨g,r⟩:=lV (xN f) n;have t:=m21_bd qa qb;have hml:(m21 a b).length=21:=Ew a b;have K:okW (m21 a b) true true a b:=⟨ω,ω,λ_ _=>hab⟩;have ha:sm a:=fo qa δ;have hb:sm b:=fo qb δ;generalize ndP (xN f) n=T at *
 generalize m21 a b=m at *
 have z:=Eo np o g;obtain⟨J,n2,n3,n4⟩:=tV hn r g o;obtain⟨G,A',z1,z2,z3,z4,V,z5,z6,z7,z8,z9⟩:=w_own hn r g o c t l;obtain⟨C,hC⟩:=hk_ok hn r g o l m;obtain⟨hx,L⟩:=hk_some hn r g o l hC z8 z9 z7;have H:=hk_size hn r g o l hH t hC hx;have U:=oK T (ek c δ) ω;have M:=IG 9 (aQ T) T G A' J ω z1 z2;have v:=fs_on T m true true a b n 40 3000 _ _ _ r g ω c t ω ω ω (fo (mC _ (show n+2<=7 by omega)) δ) U M z3 z4;rw[<-z5] at v;have w:=fs_On m true true a b T V K ha hb F ω (bdL_mono' c δ) np ω (by rw[z];exact v);rw[z] at w
 have dV:a8 V< a8 T:=by
  by_cases h:nz V;rw[uZ h,uZ J];have:=z9 h;omega;have:=degP_nil.2 h;omega
 have N:=Av T V F o dV ω ω;have O:=nT m true true a b ⟨K.1,K.2.1⟩ K.2.2 ha hb;have Q:=Ih T V m true true a b O N;obtain⟨s1,s2⟩:=w_su hn r g o c;have y:=fs_sums T V n (by rw[g,r]) hn.1 ω ω (by rw[g];exact s2);rw[g] at y
 have E:∀k,k<=14->FS 102 [.agg (ruC T V),.arr (pE (List.replicate k 0++[((1:Int):Rat)]))] (.agg (qC (trP T (aG V (gK [1] k)))))/\sm (trP T (aG V (gK [1] k))):=λk u=>by
  have X:bdL (List.replicate k 0++[((1:Int):Rat)]) 256:=bdL_mono' (IZ (s:=1) (λq Y=>by rw[kI.1 Y];decide) δ k) δ;have R:(List.replicate k 0++[((1:Int):Rat)]).length<=15:=χ
  obtain⟨o1,o2,o3,o4,o5,o6,o7⟩:=w_apply hn r g o c z6 H R X;have h:=Ls T V (List.replicate k 0++[((1:Int):Rat)]) _ 1100000000 4000 y J o1 o2 o3 o4 s1 ω ω ω (by rw[jc];omega) (fo (mC _ (show(apR T V (List.replicate k 0++[((1:Int):Rat)])).length+2<=7 by omega)) δ)
  have he:trP T (aG V (List.replicate k 0++[((1:Int):Rat)]))=trP T (aG V (gK [1] k)):=(qG J V).eqv λx=>by
   rw[eP];have:=wN [((1:Int):Rat)] x k;unfold shP at this;rw[this,aO,aS];grind
  rw[o7,he] at h o6;exact⟨h,o6⟩
 have W:∀q∈m,sm q:=λq Y=>fo (t q Y) δ;obtain⟨i0,i1,i2⟩:=p V;obtain⟨d,d1,d2,d3⟩:=leastN (P:=λk=>coP m k≠trP T (aG V (gK [1] k))) i0 i2;have heq:∀k,k< d->coP m k=trP T (aG V (gK [1] k)):=λk u=>OZ.1 λe=>d3 k u e;have Z:n<=d:=Ez λh=>d2 (L d h);exact⟨V,d,w,EO T V m true true a b d _ Q (λk u=>(E k ω).1) ω ω W (λk u=>(E k ω).2) (λk u=>(heq k u).symm) (λe=>d2 e.symm),Z,ω,heq,H,ω⟩
end
theorem Lz{a b:Rat}(qa:qs a<=20)(qb:qs b<=20)(hab:a< b):FS 31 [.agg (spC a b),i64 0,i64 0,i64 20] (.tup [.agg (wC (m21 a b) true true (qC a) (qC b)),i64 0]):=
 CC a b 20 δ hab ω ω λk c=>(mo21 qa qb k ω).1



theorem mxL_le{p:Lq}{s:Nat}(h:bdL p s)(hs:1<=s):mxL p<=s:=by
 unfold mxL
 induction p with
 |nil=>exact hs
 |cons a l c=>
  have e:=h a (mu ..);have d:=c λq b=>h q (lQ _ b);rw[List.foldr_cons];omega
def pkR(p:Lq×Lq):La:=[.arr (rE (rP p.1)),.arr (rE (rP p.2))]
def keR(k:Ke):Lc:=k.map pkR
@[simp] theorem pv (k:Ke):(keR k).length=k.length:=by simp[keR]
theorem k4(k:Ke):∀x∈keR k,∀c∈x,Closed c:=λx a=>by
 obtain⟨p,_,rfl⟩:=sd.1 a;exact ac (fJ _) (ac (fJ _) af)
theorem gz(k:Ke):Closed (.arr (keR k)):=aP (k4 k)
theorem keR_get{k:Ke}{i:Nat}{p:Lq×Lq}(h:k[i]?=some p):∀e,e=i->(keR k)[e]?=some (pkR p):=λe a=>by
 rw[a,keR,wS,h];rfl



section
variable {f N h Q r J g:Nat}{p:Lq}{c:Cnt}{i:Int}{A B:Rat}
end
section
variable {f N h Q r J g M hq X Xd Td J2:Nat}{p:Lq}{c:Cnt}{i:Int}{A B:Rat}
end

theorem cmpQ_le{a b:Rat}:eD a b<=0↔a<=b:=by
 unfold eD;grind

section
variable {f N h Q r g J J2 J3:Nat}{k:Int}{p:Lq}{K:Rat}(hpl:p.length<=24)(lp:(am p).length<=N)(bp:bdL p h)(Hp:HS p K h){lo hi:Rat}(hlh:lo<=hi)
end

theorem uT(p q:Lq)(o:gQ p q):FS 29 [.arr (pE p),.arr (pE q)] (.arr (pE (aG p q))):=
 pz p q (mxL p) (mxL q) (dO p) (dO q) (dB p) (dB q) o.1 o.2.1 o.2.2.1 o.2.2.2
theorem dD{a b:La}(ha:∀c∈a,Closed c)(hb:∀c∈b,Closed c):∀c∈a++b,Closed c:=λc d=>(n7.1 d).elim (ha c) (hb c)
theorem fs_SNeg(a b:Rat):FS 251 [.agg (spC a b)] (.agg (spC (-b) (-a))):=by
 refine f_c Tryz.func251 ?_;refine r_z 2 ?_;refine ae (r_d ba 8 ?_);refine c_s (iP b) ?_;refine c_s (iP a) ?_;refine a_2 ?_;refine aq (n_k ?_);exact ak (c_e (ca _ _))
def absL(v:Sp):Rat:=if 0<=v.1 then v.1 else if v.2<=0 then -v.2 else 0
theorem sg_ge{q:Rat}:(0:Int)<=sgZ q.num↔0<=q:=by
 have h:=sgZ_num_lt (q:=q);constructor;intro g;have:¬q< 0:=λe=>by have:=h.2 e;omega
 grind;intro g;have:¬sgZ q.num< 0:=λe=>by have:=h.1 e;grind
 omega
theorem sg_le{q:Rat}:sgZ q.num<=(0:Int)↔q<=0:=by
 have h:=sgZ_num_gt (q:=q);constructor;intro g;have:¬0< q:=λe=>by have:=h.2 e;omega
 grind;intro g;have:¬0< sgZ q.num:=λe=>by have:=h.1 e;grind
 omega
theorem fs_SAbs(v:Sp)(h1:sm v.1)(h2:sm v.2):FS 203 [.agg (spC v.1 v.2)] (.agg (spC (absL v) (FL v))):=by
 have b:∀c∈spC v.1 v.2,Closed c:=bh _ _;refine f_c Tryz.func203 ?_;refine r_z 2 ?_;refine ae (aj ?_);by_cases g1:0<=v.1;rw[show absL v=v.1 from if_pos g1,show FL v=v.2 from if_pos g1];refine r_c 5 (cX v.1) ?_;refine o_0 (.bin rfl rfl (vT ig (decide_eq_true (sg_ge.2 g1)))) ?_;refine a_z ?_;refine cT (r_z 2 ?_);exact ak (c_e (ca _ _));refine r_c 5 (cX v.1) ?_;refine o_0 (.bin rfl rfl (vF ig (decide_eq_false (λe=>g1 (sg_ge.1 e))))) ?_;refine a_z ?_;refine cF ?_;by_cases g2:v.2<=0;rw[show absL v= -v.2 from(if_neg g1).trans (if_pos g2),show FL v= -v.1 from(if_neg g1).trans (if_pos g2)];refine r_c 5 (cX v.2) ?_;refine o_0 (.bin rfl rfl (vT iX (decide_eq_true (sg_le.2 g2)))) ?_;refine a_z ?_;refine cT (r_c 3 (fs_SNeg v.1 v.2) ?_);refine a_z ?_;exact ak (c_e (ca _ _));rw[show absL v=0 from(if_neg g1).trans (if_neg g2),show FL v=lY [-v.1,v.2] from(if_neg g1).trans (if_neg g2)];refine r_c 5 (cX v.2) ?_;refine o_0 (.bin rfl rfl (vF iX (decide_eq_false (λe=>g2 (sg_le.1 e))))) ?_;refine a_z ?_;refine cF (an ?_);have a:=An [-v.1,v.2] (y9 (by unfold sm;rw[fa];exact h1) h2) ψ;refine ae (r_d ba 10 ?_);refine c_s (iP v.1) ?_;refine a_3 ?_;refine o_1 (.callS1 rfl rfl rfl (.shut rfl d_n (.nil)) rfl (a)) ?_;refine a_2 ?_;refine aq (n_k ?_);refine ak ?_;rw[show spC 0 (lY [-v.1,v.2])=[.arr [],bln false,.arr []]++qC (lY [-v.1,v.2]) from by unfold spC;rw[qC0]];refine Fin.cell rfl rfl rfl TG.h TS.h (nle rfl) ?_
 exact Cv.agg (ai (Cv.emp _) (ai (ao aE (ah _)) (ai (Cv.emp _) (CvL.clo aE (bi _)))))
abbrev prC(p:Lq×Lq):La:=[.arr (pE p.1),.arr (pE p.2)]
def kE(k:Ke):Lc:=k.map prC
@[simp] theorem em (k:Ke):(kE k).length=k.length:=by simp[kE]
theorem iq(p:Lq×Lq):∀c∈prC p,Closed c:=ac (aw _) (ac (aw _) af)
theorem eH(k:Ke):∀x∈kE k,∀c∈x,Closed c:=λx a=>by
 obtain⟨p,_,rfl⟩:=sd.1 a;exact iq p
theorem a6(k:Ke):Closed (.arr (kE k)):=aP (eH k)
theorem kR{k:Ke}{i:Nat}{p:Lq×Lq}(h:k[i]?=some p):∀e,e=i->(kE k)[e]?=some (prC p):=λe a=>by
 rw[a,kE,wS,h];rfl
def FC(p:Lq×Lq):Bool:=decide (12< if a8 p.2> a8 p.1 then a8 p.2 else a8 p.1)
theorem IE(p:Lq×Lq)(h1:p.1.length<=1099511627776)(h2:p.2.length<=1099511627776):FS 56 [.agg (prC p)] (bln (FC p)):=by
 refine f_n Tryz.func56 ?_ ?_;exact ac (aD (iq p)) af;refine r_z 2 ?_;refine ae (r_d ba 9 ?_);refine c_s (ce p.1 h1) ?_;refine c_s (ce p.2 h2) ?_;refine a_3 ?_;refine aq (n_k ?_);exact ak (t_e (ah _))
def kT{α:Type}(t:α->Bool):List α->Int->Int
 |[],_=> -1
 |a::l,i=>if t a then i else kT t l (i+1)
theorem qN{α:Type}(t:α->Bool):∀(l:List α) (i:Int),0<=i->(decide (0<=kT t l i))=l.any t
 |[],i,_=>by simp[kT]
 |a::l,i,hi=>by
  unfold kT;cases h:t a with
  |true=>simp[h,hi]
  |false=>simp[h];rw[<-qN t l (i+1) ω]
theorem AJ{α:Type}{l:List α}{i:Nat}{a:α}(h:l[i]?=some a):l.drop i=a::l.drop (i+1):=by
 obtain⟨b,c⟩:=jY.1 h;rw[<-c];exact DA b
def ikS(k:Ke)(g:Nat)(cap:La):Nat->AState
 |i=>⟨[(0,.arr (kE k)),(1,.clos g [] cap),(7,i64 k.length),(8,i64 i)],[],1,19⟩
theorem Iy(k:Ke)(g:Nat)(cap:La)(t:Lq×Lq->Bool)(hcap:∀c∈cap,Closed c)(hl:k.length<=1099511627776)(hg:∀p∈k,FS g ((.agg (prC p)::cap).map coe) (bln (t p))):FS 146 [.arr (kE k),.clos g [] cap] (i64 (kT t k 0)):=by
 have hcc:Closed (.clos g [] cap):=aX af hcap;have j:(kE k).length=k.length:=em k;refine f_n Tryz.func146 ?_ ?_;exact ac (a6 k) (ac hcc af);obtain⟨R,h⟩:∃R,R=kT t k 0:=⟨_,rfl⟩;rw[<-h];refine r_z 1 ?_;refine ae (r_z 3 ?_);refine aJ (λ_:Unit=>⟨[],[],1,19⟩) (λ_=>R= -1) ?_ ?_;refine aj (aC (ikS k g cap) (λi=>k.length- i) (λi=>i<=k.length/\kT t (k.drop i) i=R) 0 ⟨mN _,by rw[h];rfl⟩ ?_ ?_);simp only[ikS.eq_1];exact s_x [] (λhs=>e_44) (λhs=>e_45);rintro i ⟨l,a⟩;rw[ikS.eq_1];by_cases hlt:i< k.length;refine q_z 1 ?_;refine ae (cT (an ?_));obtain⟨p,hp⟩:∃p,k[i]?=some p:=⟨_,eT hlt⟩;have b:(kE k)[((i:Nat):Int).toNat]?=some (prC p):=kR hp _ ψ;rw[AJ hp,kT] at a;refine ae (aj (r_z 2 ?_));refine s_r 6 ?_;refine a_3 ?_;refine i_x b ?_;refine l_x b ?_;refine c_s (hg p (mc hp)) ?_;refine aq ?_;refine au rfl (λf=>?_) (λf=>?_);have e:t p=true:=f;rw[if_pos e] at a;refine r_z 2 ?_;refine ak (a7 rfl ?_ ?_);rw[<-a];exact ah _;have e:¬t p=true:=by rw[show t p=false from f];decide
 rw[if_neg e] at a;refine an (r_m 2 ?_);refine a_z ?_;refine⟨i+1,ω,⟨hlt,a⟩,?_⟩;simp only[ikS.eq_1];exact s_x [] (λhs=>e_44) (λhs=>e_45);have d:i=k.length:=ω
 subst d;refine q_z 1 ?_;refine ae (cF ?_);rw[DJ] at a;refine ay ⟨(),a.symm,?_⟩;exact s_e [];rintro _ a;refine r_z 1 ?_;refine ak (a7 rfl ?_ ?_);rw[a];rfl;exact ah _
theorem Ar(k:Ke)(g:Nat)(cap:La)(t:Lq×Lq->Bool)(hcap:∀c∈cap,Closed c)(hl:k.length<=1099511627776)(hg:∀p∈k,FS g ((.agg (prC p)::cap).map coe) (bln (t p)))(hcap2:cap.map coe=cap):FS 55 [.arr (kE k),.clos g [] cap] (bln (k.any t)):=by
 have a:Closed (.clos g [] cap):=aX af hcap;have e:=qN t k 0 (N5 0);have b:=Iy k g cap t hcap hl hg;refine f_n Tryz.func55 ?_ ?_;exact ac (a6 k) (ac a af);refine r_z 1 ?_;refine r_c 5 (b) ?_;refine a_z ?_;refine ak (a7 rfl ?_ ?_);rw[<-e];rfl;exact ah _
def qw(k:Ke):Prop:=k.length<=8/\k.any FC=false/\∀p∈k,p.1.length<=1099511627776/\p.2.length<=1099511627776
theorem wH(k:Ke)(h:qw k):FS 15 [.arr (kE k)] (i64 0):=by
 have b:(kE k).length=k.length:=em k;have a:=Ar k 56 [] FC af (by have:=h.1;omega) (λp hp=>IE p (h.2.2 p hp).1 (h.2.2 p hp).2) rfl;rw[h.2.1] at a;have c:=h.1;refine f_n Tryz.func15 ?_ ?_;exact ac (a6 k) af;refine r_z 1 ?_;refine ae (q_c 7 (a) ?_);refine a_z ?_;refine cF (an (r_z 1 ?_));exact ak (t_e (ah _))
theorem yk(k:Ke)(a b:Rat)(h:qw k)(ha:sm a)(hb:sm b)(hab:a<=b):FS 51 [.arr (kE k),.agg (spC a b)] (bln false):=by
 have d:=wH k h;have c:=kr a b ha hb;rw[decide_eq_true (cmpQ_le.2 hab)] at c;refine f_n Tryz.func51 ?_ ?_;exact ac (a6 k) (ac (ca _ _) af);refine r_z 2 ?_;refine r_c 9 (d) ?_;refine o_0 (.bin rfl rfl (vF cx (rfl))) ?_;refine c_s (c) ?_;refine a_z ?_;exact ak (t_e (ah _))
abbrev eqC(k:Ke)(l:Rat)(g:Lq):La:= .arr (kE k)::(qC l++[.arr (pE g)])
theorem bt(k:Ke)(l:Rat)(g:Lq):∀c∈eqC k l g,Closed c:=ac (a6 k) λc a=>(n7.1 a).elim (bi l c) (ac (aw g) af c)
theorem iO(k:Ke)(l:Rat)(g:Lq)(a b:Rat)(h:qw k)(ha:sm a)(hb:sm b)(hab:a<=b)(hg:a8 g<=20)(hgl:g.length<=1099511627776):FS 77 [.agg (eqC k l g++spC a b)] (bln false):=by
 have e:=yk k a b h ha hb hab;have d:=ce g hgl;have f:∀c∈eqC k l g++spC a b,Closed c:=λc i=>(n7.1 i).elim (bt k l g c) (bh a b c);refine f_c Tryz.func77 ?_;refine r_z 2 ?_;refine r_c 14 (e) ?_;refine c_s (d) ?_;refine d_z ?_;exact ak (t_e (ah _))
theorem rf(a b:Rat)(hb:b≠0)(h:qs a+qs b<=549755813888):FS 123 [.agg (qC a),.agg (qC b)] (.agg (qC (a/ b))):=by
 refine f_c Tryz.func123 ?_;refine r_z 3 ?_;refine r_c 9 (Al a b hb h) ?_;refine a_z ?_;refine r_z 2 ?_;exact ak (c_e (aU _))
theorem fs_cut(p:Lq)(n:Nat)(hp:p.length<=1099511627776)(hn:n<=1000000):FS 125 [.arr (pE p),i64 n] (.arr (pE (Fk p n))):=by
 have c:(pE p).length=p.length:=by simp[pE]
 obtain⟨m,b⟩:∃m,m=min p.length (n+1):=⟨_,rfl⟩
 have d:p.take m=p.take (n+1):=by
  rw[b];by_cases g:p.length<=n+1;rw[KM g,nk (ir _),nk g];rw[Nat.min_eq_right ω]
 have e:(pE p).take m=pE (p.take (n+1)):=by rw[<-d];simp[pE,Pk]
 have a:=ee (p.take (n+1)) (by rw[yv];omega);refine f_c Tryz.func125 ?_;refine r_z 1 ?_;refine s_r 9 ?_;refine a_6 ?_;refine o_0 (.sa_hE (h:=m) e rfl rfl (by rw[b];split <;> omega) ω te_62.h (mM _)) ?_;refine c_s (a) ?_;refine a_z ?_;exact ak (t_e (aw _))
def tQ(p:Lq×Lq):Bool:=decide (12< a8 p.1)||decide (12< a8 p.2)
def vaB(k:Ke):Bool:=!k.any tQ && decide (k.length<=8)
theorem IY(p:Lq×Lq):FC p=tQ p:=by
 unfold FC tQ;by_cases h1:12< a8 p.1;rw[decide_eq_true h1,Bool.true_or,decide_eq_true];split <;> omega;by_cases h2:12< a8 p.2;rw[decide_eq_true h2,O0,decide_eq_true];split <;> omega;rw[decide_eq_false h1,decide_eq_false h2,Bool.or_false,decide_eq_false];split <;> omega
def vkS(k:Ke):Nat->AState
 |i=>⟨[(0,.arr (keR k)),(3,i64 i)],[],1,29⟩
theorem EQ(k:Ke)(hl:k.length<=1000)(h2:∀p∈k,p.1.length<=1000000/\p.2.length<=1000000):FS 14 [.arr (keR k)] (bln (vaB k)):=by
 have l:(keR k).length=k.length:=pv k;refine f_n Tryz.func14 ?_ ?_;exact ac (gz k) af;obtain⟨r,n⟩:∃r,r=vaB k:=⟨_,rfl⟩;rw[<-n];refine r_z 1 ?_;refine ae (r_z 1 ?_);refine aJ (λ_:Unit=>⟨[(0,.arr (keR k))],[],1,29⟩) (λ_=> ∀p∈k,tQ p=false) ?_ ?_;refine aj (aC (vkS k) (λi=>k.length- i) (λi=>i<=k.length/\∀p∈k.take i,tQ p=false) 0 ⟨mN _,λp hp=>by simp at hp⟩ ?_ ?_);rw[vkS.eq_1];have:=gz k;exact s_f [];rintro i ⟨o,b⟩;rw[vkS.eq_1];by_cases hlt:i< k.length;obtain⟨p,hp⟩:∃p,k[i]?=some p:=⟨_,eT hlt⟩;have a:(keR k)[((i:Nat):Int).toNat]?=some (pkR p):=keR_get hp _ ψ;have f:=mc hp;obtain⟨l1,l2⟩:=h2 p f;have d1:=jo (rP p.1) χ;have d2:=jo (rP p.2) χ;rw[FV] at d1 d2
 have d:tQ p=true->r=false:=λe=>by
  rw[n];unfold vaB;rw[List.any_eq_true.2 ⟨p,f,e⟩];rfl
 by_cases e1:12< a8 p.1;refine ae (q_z 4 ?_);refine cT (an (ae (aj (s_r 16 ?_))));refine a_2 ?_;refine i_x a ?_;refine a_1 ?_;refine l_1 a ?_;refine c_s (d1) ?_;refine d_z ?_;refine cT ?_;rw[d (by unfold tQ;rw[decide_eq_true e1];rfl)];refine r_z 1 ?_;exact ak (t_e (ah _));by_cases e2:12< a8 p.2;refine ae (q_z 4 ?_);refine cT (an (ae (aj (s_r 16 ?_))));refine a_2 ?_;refine i_x a ?_;refine a_1 ?_;refine l_1 a ?_;refine c_s (d1) ?_;refine d_4 ?_;refine bF rfl rfl rfl (.index_a rfl rfl ω a rfl te_30.h) rfl rfl ?_;refine m_1 ?_;refine bF rfl rfl rfl (.load_a1 rfl a TG.h rfl) rfl rfl ?_;refine c_s (d2) ?_;refine d_z ?_;refine cT ?_;rw[d (by unfold tQ;rw[decide_eq_true e2,O0])];refine r_z 1 ?_;exact ak (t_e (ah _));refine ae (q_z 4 ?_);refine cT (an (ae (aj (s_r 16 ?_))));refine a_2 ?_;refine i_x a ?_;refine a_1 ?_;refine l_1 a ?_;refine c_s (d1) ?_;refine d_4 ?_;refine bF rfl rfl rfl (.index_a rfl rfl ω a rfl te_30.h) rfl rfl ?_;refine m_1 ?_;refine bF rfl rfl rfl (.load_a1 rfl a TG.h rfl) rfl rfl ?_;refine c_s (d2) ?_;refine d_z ?_;refine cF (an (r_m 3 ?_));refine a_z ?_;refine⟨i+1,ω,⟨ω,λq c=>?_⟩,?_⟩;rw[cZ hp] at c;rcases n7.1 c with c|c
 exact b q c;rw[kI.1 c];unfold tQ;rw[decide_eq_false e1,decide_eq_false e2];rfl;rw[vkS.eq_1];have:=gz k;exact s_f [];have j:i=k.length:=ω
 refine ae (q_z 4 ?_);refine cF (ay ⟨(),(by rw[j,qj] at b;exact b),?_⟩);have:=gz k;exact s_f [];rintro _ g
 have m:r=decide (((keR k).length:Int)<=8):=by
  rw[n];unfold vaB;have:k.any tQ=false:=OX.2 λp hp=>by rw[g p hp];decide
  rw[this,l];show decide (k.length<=8)=_;exact decide_eq_decide.2 ω
 rw[m];refine r_z 4 ?_;exact ak (t_e (ah _))
theorem Lr(k:Ke)(g:Lq)(hl:k.length<=1000)(h2:∀p∈k,p.1.length<=1000000/\p.2.length<=1000000)(hg:g.length<=1000000):FS 75 [.arr (keR k),.arr (rE (rP g))] (bln (!vaB k||decide (20< a8 g))):=by
 have hv:=EQ k hl h2;have a:=jo (rP g) χ;rw[FV] at a;refine f_n Tryz.func75 ?_ ?_;exact ac (gz k) (ac (fJ _) af);refine r_z 1 ?_;cases e:vaB k with
 |false=>
  rw[e] at hv;refine r_c 9 (hv) ?_;refine d_z ?_;exact ak (t_e (ah _))
 |true=>
  rw[e] at hv;refine r_c 9 (hv) ?_;refine e_s (a) ?_;refine d_z ?_;exact ak (t_e (ah _))
theorem smL_one{v:Rat}(h:sm v):smL [v]:=λx a=>by rw[kI.1 a];exact h
def upS(k:Ke)(a:Rat)(u:Lq):Nat×Lq->AState
 |(i,o)=>⟨[(2,.arr (pE u)),(4,.lptr 1 0 0),(7,.arr (pE o)),(11,.arr (kE k)),(12,i64 k.length),(13,i64 i)],[(1,some ⟨42,3,[qC a]⟩)],2,35⟩
theorem KW(k:Ke)(a:Rat)(u:Lq)(h:BQ k a u)(hl:k.length<=1000):FS 126 [.arr (kE k),.agg (qC a),.arr (pE u)] (.arr (pE (upK k a u))):=by
 have f:(kE k).length=k.length:=em k;refine f_n Tryz.func126 ?_ ?_;exact ac (a6 k) (ac (aU a) (ac (aw u) af));refine r_z 2 ?_;refine r_z 1 ?_;refine ae (r_z 3 ?_);refine aJ (λ_:Unit=>⟨[(7,.arr (pE (upK k a u)))],[],1,35⟩) (λ_=>True) ?_ ?_;refine aj (aC (upS k a u) (λx=>k.length- x.1) (λx=>x.1<=k.length/\x.2=upL a u (k.take x.1) []) (0,[]) ⟨mN _,rfl⟩ ?_ ?_);simp only[upS.eq_1];exact s_x [(1,4)] (λhs=>e_46) (λhs=>e_47);rintro⟨i,o⟩ ⟨n,c⟩;simp only at n c;rw[upS.eq_1];by_cases hlt:i< k.length;obtain⟨p,hp⟩:∃p,k[i]?=some p:=⟨_,eT hlt⟩;have b:(kE k)[((i:Nat):Int).toNat]?=some (prC p):=kR hp _ ψ;have ok:=h i p hp;rw[<-c] at ok;have j:=uT p.2 u ok.m1;have e:=nS (aG p.2 u) (v8 ok.m1) ok.i1;have m:=fg (aH (aG p.2 u)) a ok.e1;have g:=wD (aH (aG p.2 u)) [ag (aH (aG p.2 u)) a] ok.i2 (smL_one (nZ ok.e1)) ok.l1 ψ;have l:=uT p.1 _ ok.m2;have q:=nU o _ ok.o1 (v8 ok.m2) ok.o2 ok.l2;refine q_z 1 ?_;refine ae (cT (an (ae (aj (s_r 4 ?_)))));refine i_x b ?_;refine l_x b ?_;refine a_z ?_;refine r_c 6 (j) ?_;refine c_s (e) ?_;refine a_z ?_;refine r_d ba 12 ?_;refine c_s (m) ?_;refine a_1 ?_;refine o_1 (.callS1 rfl rfl rfl (.keep (.shut rfl d_n (.nil))) rfl (g)) ?_;refine c_s (l) ?_;refine c_s (q) ?_;refine a_1 ?_;refine aq (n_k ?_);refine r_m 2 ?_;refine a_z ?_;refine⟨(i+1,upF a u o p),by simp only;omega,⟨hlt,by simp only;rw[cZ hp,Bh,<-c]⟩,?_⟩;simp only[upS.eq_1];unfold upF;exact s_x [] (λhs=>e_46) (λhs=>e_47)
 have d:i=k.length:=ω
 subst d;refine q_z 1 ?_;refine ae (cF ?_);rw[qj] at c;refine ay ⟨(),trivial,?_⟩;unfold upK;rw[<-c];exact s_e [];rintro _ _;refine r_z 2 ?_;exact ak (t_e (aw _))
theorem Ik(a:Rat)(p:Lq×Lq)(h1:ik [a,1] p.1/\p.1.length<=274877906944)(h2:ik [a,1] p.2/\p.2.length<=274877906944):FS 205 [.agg (prC p),bQ a] (.agg (prC (cJ [a,1] p.1,cJ [a,1] p.2))):=by
 have c:=wE p.1 a h1.1 h1.2;have b:=wE p.2 a h2.1 h2.2;refine f_n Tryz.func205 ?_ ?_;exact ac (aD (iq p)) (ac (cO a) af);refine r_z 2 ?_;refine ae (r_d ba 10 ?_);refine c_s (c) ?_;refine c_s (b) ?_;refine a_2 ?_;refine aq (n_k ?_);exact ak (c_e (aD (iq _)))
def ecS(k:Ke)(g:Nat)(cap:La)(f:Lq×Lq->Lq×Lq):Nat->AState
 |0=>⟨[(1,.clos g [] cap),(8,.arr (kE k)),(9,i64 k.length),(10,i64 0),(5,.emp)],[],1,22⟩
 |i+1=>⟨[(1,.clos g [] cap),(8,.arr (kE k)),(9,i64 k.length),(10,i64 ((i+1:Nat):Int)),(5,.lsl 1 0 (i+1) none 2)],[(1,some ⟨76,2,kE ((k.take (i+1)).map f)⟩)],2,22⟩
theorem KJ(k:Ke):(kE k).all (·.all AV.one)=true:=by
 rw[pZ];intro x a;obtain⟨p,_,rfl⟩:=sd.1 a;rfl
theorem GP(k:Ke)(p:Lq×Lq):kE (k++[p])=kE k++[prC p]:=by simp[kE]
theorem Lm(k:Ke)(g:Nat)(cap:La)(f:Lq×Lq->Lq×Lq)(hcap:∀c∈cap,Closed c)(hl:k.length<=1000)(hg:∀p∈k,FS g ((.agg (prC p)::cap).map coe) (.agg (prC (f p)))):FS 137 [.arr (kE k),.clos g [] cap] (.arr (kE (k.map f))):=by
 have o:(kE k).length=k.length:=em k;have hcc:Closed (.clos g [] cap):=aX af hcap;refine f_n Tryz.func137 ?_ ?_;exact ac (a6 k) (ac hcc af);refine r_z 1 ?_;refine r_z 1 ?_;refine ae (r_z 3 ?_);refine aJ (λ_:Unit=>⟨[(5,.arr (kE (k.map f)))],[],1,22⟩) (λ_=>True) ?_ ?_;refine aj (aC (ecS k g cap f) (λi=>k.length- i) (λi=>i<=k.length) 0 (mN _) ?_ ?_);rw[ecS.eq_1];exact s_x [] (λhs=>e_3) (λhs=>e_48);intro i q;by_cases hlt:i< k.length
 ·obtain⟨p,hp⟩:∃p,k[i]?=some p:=⟨_,eT hlt⟩
  have j:=hg p (mc hp);have m:(k.take (i+1)).length=i+1:=by rw[yv];omega
  have b:kE ((k.take i).map f)++[prC (f p)]=kE ((k.take (i+1)).map f):=by rw[cZ hp,N7,Oj,GP]
  cases i with
  |zero=>
   have a:(kE k)[((0:Int)).toNat]?=some (prC p):=kR hp _ rfl;rw[ecS.eq_1];refine q_z 1 ?_;refine ae (cT (an (ae (aj (s_r 4 ?_)))));refine i_x a ?_;refine l_x a ?_;refine a_z ?_;refine r_m 7 ?_;refine c_s (j) ?_;refine a_z ?_;refine r_m 2 ?_;refine a_z ?_;refine⟨0+1,ω,ω,?_⟩;rw[ecS.eq_2];rw[<-b];refine s_x [(1,5)] (λhs=>e_3) (λhs=>?_)
   ·repeat' (first|exact aF|refine h_c ?_ ?_|exact bv hs (eH [f p])|exact bG|refine aB ?_|exact av|refine ai ?_ ?_|exact ao hs (a6 k)|exact ao hs hcc|exact aZ)
  |succ i=>
   have a:(kE k)[(((i+1:Nat):Int)).toNat]?=some (prC p):=kR hp _ ψ;have n:=KJ ((k.take (i+1)).map f);have d:(kE ((k.take (i+1)).map f)).length=i+1:=by rw[em,Ey,yv];omega
   rw[ecS.eq_2];refine q_z 1 ?_;refine ae (cT (an (ae (aj (s_r 4 ?_)))));refine i_x a ?_;refine l_x a ?_;refine a_z ?_;refine r_m 7 ?_;refine c_s (j) ?_;refine o_1 (.buildSlice te_27.h TZ.h rfl δ rfl rfl rfl υ) ?_;refine o_2 (.append_l rfl rfl rfl te_27.h rfl rfl rfl rfl rfl d_o ν θ rfl (.lsl rfl (nle rfl)) TZ.h rfl TB.h d_o μ) ?_;refine o_0 (.assign rfl) ?_;refine aq ?_;refine r_m 2 ?_;refine a_z ?_;refine⟨i+1+1,ω,ω,?_⟩;rw[ecS.eq_2];refine s_x [(1,5)] (λhs=>e_3) (λhs=>?_)
   ·repeat' (first|exact aF|refine h_c ?_ ?_|exact aM hs b (eH _)|exact bG|refine aB ?_|exact av|refine ai ?_ ?_|exact ao hs (a6 k)|exact ao hs hcc|exact aZ)
 have e:i=k.length:=ω
 cases i with
 |zero=>
  have l:k=[]:=xi e.symm;subst l;rw[ecS.eq_1];refine q_z 1 ?_;refine ae (cF (ay ⟨(),trivial,?_⟩));exact s_e []
 |succ i=>
  have d:(kE (k.map f)).length=i+1:=by rw[em,Ey];omega
  rw[ecS.eq_2,e,qj];refine q_z 1 ?_;refine ae (cF (ay ⟨(),trivial,?_⟩));refine s_x [] (λhs=>?_) (λhs=>?_)
  ·repeat' (first|exact aV|refine aA rfl ?_ ?_|(refine Cv.shut hs rfl (aR rfl) ψ ?_;exact aM hs π (eH _))|exact aZ)
  ·repeat' (first|exact aF|refine h_c ?_ ?_|exact bG|refine aB ?_|exact av|refine ai ?_ ?_|(refine Cv.shut hs rfl (aR rfl) ψ ?_;exact aM hs π (eH _))|exact aZ)
 rintro _ _;refine r_z 2 ?_;exact ak (t_e (a6 _))
theorem Ld(k:Ke)(l:Rat)(g:Lq)(a:Rat)(hl:k.length<=1000)(hk:∀p∈k,(ik [a,1] p.1/\p.1.length<=274877906944)/\ik [a,1] p.2/\p.2.length<=274877906944)(hg:ik [a,1] g)(hgl:g.length<=274877906944):FS 124 [.agg (eqC k l g),.agg (qC a)] (.agg (eqC (mvK a k) l (cJ [a,1] g))):=by
 have d:=Lm k 205 [bQ a] (λp=>(cJ [a,1] p.1,cJ [a,1] p.2)) (ac (cO a) af) hl λp hp=>Ik a p (hk p hp).1 (hk p hp).2;have c:=wE g a hg hgl;have b:=bt k l g;refine f_c Tryz.func124 ?_;refine r_z 3 ?_;refine AWp.ent (st':=⟨[(2,.aptr [eqC k l g] 0 0),(3,bQ a),(4,.lptr 1 0 0)],[(1,some ⟨90,5,[.emp::(zC++[.emp])]⟩)],2,16⟩) ?_ ?_;refine s_x [(1,4)] (λhs=>?_) (λhs=>?_)
 ·repeat' (first|exact aV|refine aA rfl ?_ ?_|exact Cv.boxp hs rfl (aR rfl) rfl b|exact Cv.boxp hs rfl (aR rfl) rfl (bi a)|exact aZ)
 ·repeat' (first|exact aF|refine h_c ?_ ?_|exact bG|refine aB ?_|exact av|refine ai ?_ ?_|exact Cv.boxp hs rfl (aR rfl) rfl b|exact Cv.boxp hs rfl (aR rfl) rfl (bi a)|exact aZ)
 refine ae (r_d ba 12 ?_);refine c_s (d) ?_;refine c_s (c) ?_;refine a_2 ?_;refine aq (n_k ?_);exact ak (c_e (aD (bt _ _ _)))
theorem spC00:spC 0 0=[.arr [],bln false,.arr [],.arr [],bln false,.arr []]:=by unfold spC;rw[qC0];rfl
theorem wo(k:Ke)(l:Rat)(g:Lq)(h:qw k)(hg:a8 g<=20)(hgl:g.length<=1099511627776):FS 77 [.agg (eqC k l g++[.arr [],bln false,.arr [],.arr [],bln false,.arr []])] (bln false):=by
 have:=iO k l g 0 0 h δ δ Rat.le_refl hg hgl;rw[spC00] at this;exact this
theorem KY(k:Ke)(u:Lq)(h:BQ k 0 u)(hl:k.length<=1000):FS 126 [.arr (kE k),.agg [.arr [],bln false,.arr []],.arr (pE u)] (.arr (pE (upK k 0 u))):=by
 have:=KW k 0 u h hl;rw[qC0] at this;exact this
structure OkSe (k:Ke)(l:Rat)(g:Lq)(a:Rat)(n:Nat):Prop where
 ke:qw k
 dg:a8 g<=20
 mv:∀p∈k,(ik [a,1] p.1/\p.1.length<=274877906944)/\ik [a,1] p.2/\p.2.length<=274877906944
 mg:ik [a,1] g
 gl:g.length<=274877906944
 sl:sm l
 sg:smL (cJ [a,1] g)
 gl2:(cJ [a,1] g).length<=1099511627776
 up:∀r,r<=n->BQ (mvK a k) 0 (seK (mvK a k) (cJ [a,1] g) l n r)
 us:∀r,r<=n->smL (upK (mvK a k) 0 (seK (mvK a k) (cJ [a,1] g) l n r))/\(upK (mvK a k) 0 (seK (mvK a k) (cJ [a,1] g) l n r)).length<=1099511627776
 ss:∀r,r<=n->smL (aW (upK (mvK a k) 0 (seK (mvK a k) (cJ [a,1] g) l n r)) l)
def seS(k:Ke)(l:Rat)(g:Lq)(a:Rat)(n:Nat):Nat->AState
 |r=>⟨[(2,i64 n),(9,.lptr 1 0 0),(10,.arr (pE (seK (mvK a k) (cJ [a,1] g) l n r))),(29,i64 ((n:Int)+1)),(30,i64 r)],[(1,some ⟨90,5,[eqC (mvK a k) l (cJ [a,1] g)]⟩)],2,47⟩
theorem Is(k:Ke)(l:Rat)(g:Lq)(a:Rat)(n:Nat)(hn:n<=40)(hok:OkSe k l g a n):FS 45 [.agg (eqC k l g),.agg (qC a),i64 n] (.tup [.arr (pE (seK (mvK a k) (cJ [a,1] g) l n (n+1))),i64 0]):=by
 have p:=bt k l g;have m:=bt (mvK a k) l (cJ [a,1] g);have o:=hok.ke.1;have q:(mvK a k).length=k.length:=by simp[mvK]
 have i:=wo k l g hok.ke hok.dg (by have:=hok.gl;omega);have j:=Ld k l g a ω hok.mv hok.mg hok.gl;refine f_c Tryz.func45 ?_;refine r_z 4 ?_;refine r_z 5 ?_;refine ae (aj (r_c 3 (i) ?_));refine a_z ?_;refine cF (q_z 7 ?_);refine cF (an (r_c 6 (j) ?_));refine a_z ?_;refine r_z 1 ?_;refine ae (r_z 3 ?_);refine aJ (λ_:Unit=>⟨[(10,.arr (pE (seK (mvK a k) (cJ [a,1] g) l n (n+1))))],[],1,47⟩) (λ_=>True) ?_ ?_;refine aj (aC (seS k l g a n) (λr=>n+1- r) (λr=>r<=n+1) 0 (mN _) ?_ ?_);simp only[seS.eq_1];exact s_f [(1,9)];intro r t;rw[seS.eq_1];by_cases hlt:r< n+1;have d:=KY (mvK a k) _ (hok.up r ω) ω;have b:=hok.us r ω;have f:=eY _ l b.1 hok.sl b.2;have h:=nU (cJ [a,1] g) _ hok.sg (hok.ss r ω) hok.gl2 (fo (du _ _) b.2)
 have c:=fs_cut (ec (cJ [a,1] g) (aW (upK (mvK a k) 0 (seK (mvK a k) (cJ [a,1] g) l n r)) l)) n (by
  have u:=k6 (cJ [a,1] g) (aW (upK (mvK a k) 0 (seK (mvK a k) (cJ [a,1] g) l n r)) l);have s:=du (upK (mvK a k) 0 (seK (mvK a k) (cJ [a,1] g) l n r)) l;have:=hok.gl2;have:=b.2;omega) ω
 refine q_z 1 ?_;refine ae (cT (an (ae (aj (r_d ba 14 ?_)))));refine c_s (d) ?_;refine c_s (f) ?_;refine c_s (h) ?_;refine c_s (c) ?_;refine a_1 ?_;refine aq (n_k ?_);refine r_m 2 ?_;refine a_z ?_;refine⟨r+1,ω,ω,?_⟩;simp only[seS.eq_1];rw[seK];exact s_f [(1,9)];have e:r=n+1:=ω
 subst e;refine q_z 1 ?_;refine ae (cF (ay ⟨(),trivial,?_⟩));exact s_e [];rintro _ _;refine r_z 3 ?_;refine ak (Fin.many ⟨_,_,rfl,rfl,⟨_,_,rfl,rfl,rfl⟩⟩ (nle rfl) ?_);exact ai (ao aE (aw _)) (ai (ao aE (ah _)) av)
theorem x9{k:Ke}(hkl:k.length<=3)(h4:∀p∈k,p.1.length<=4/\p.2.length<=4):qw k:=by
 refine⟨ω,?_,λp hp=>by have:=h4 p hp;omega⟩;rw[OX];intro p hp;have h:=h4 p hp;have a:=bm p.1;have b:=bm p.2
 have:¬(12< if a8 p.2> a8 p.1 then a8 p.2 else a8 p.1):=by
  unfold a8;split <;> omega
 unfold FC;simpa using this
theorem Hg(g:Lq){n:Nat}(h:g.length<=n+1):a8 g<=n:=by
 have:=bm g;unfold a8;omega
theorem I1{k:Ke}{l:Rat}{g:Lq}{a:Rat}{n:Nat}(hn:n<=40)(hkl:k.length<=3)(h4:∀p∈k,p.1.length<=4/\p.2.length<=4)(hb:∀p∈k,bdL p.1 20/\bdL p.2 20)(hg:g.length<=5)(bg:bdL g 20)(hl:qs l<=20)(ha:qs a<=20):OkSe k l g a n:=by
 obtain⟨J,O,w,C,E,A,x⟩:=ML hkl h4 hb;obtain⟨c,i,d0⟩:=FN ha;obtain⟨m,t,y⟩:=FN hl;obtain⟨Q,v⟩:=Bd g bg;have v:=v.mono (show _<=101 by omega);obtain⟨z,B,o,j,q,u,h⟩:=I2 w C E A x d0 i c;obtain⟨D,e⟩:=HS_shift' (N:=4) d0 i c v ω;have e:=e.mono (show _<=3000 by omega);have lg:=kY a g;have f:(mvK a k).length<=900:=by unfold mvK;simp;omega
 have S:=λr (s:r<=1000)=>Jy (k:=mvK a k) (G:=cJ [a,1] g) (L:=l) o f ω ω j q u h e y t m hn r s;have U:=λr (s:r<=1000) (K:Rat) (H:HS (seK (mvK a k) (cJ [a,1] g) l n r) K (20000* r+1))=>yY (a:=0) (d:=1) o f (by have:=ze (mvK a k) (cJ [a,1] g) l n r;omega) H δ (IB.one.mono ω) ((IB.zero 20).eq φ) δ ω j q u h ω;refine⟨x9 hkl h4,by have:=Hg g (n:=4) ω;omega,λp hp=>?_,?_,ω,by unfold sm;omega,ek (e.bdL ω) ω,ω,λr s=>(S r ω).2,λr s=>?_,λr s=>?_⟩;obtain⟨F,M⟩:=h4 p hp;exact⟨⟨ow (N:=3) d0 i c ha ω ω ω _ ω (w.a p hp),ω⟩,ow (N:=3) d0 i c ha ω ω ω _ ω (w.b p hp),ω⟩;exact ow (N:=4) d0 i c ha ω ω ω _ ω v;obtain⟨K,H⟩:=(S r ω).1;obtain⟨u1,u2,_⟩:=U r ω K H;have hl:=ze (mvK a k) (cJ [a,1] g) l n r;exact⟨ek (u1.bdL ω) ω,ω⟩;obtain⟨K,H⟩:=(S r ω).1;obtain⟨u1,u2,_⟩:=U r ω K H;exact ek ((u1.k y t m).bdL ω) ω
theorem any_big(k:Ke):k.any FC=k.any tQ:=by
 congr 1;exact funext IY
theorem okKe_va{k:Ke}(h:vaB k=true)(h2:∀p∈k,p.1.length<=1099511627776/\p.2.length<=1099511627776):qw k:=by
 unfold vaB at h;simp only[sj,MU,decide_eq_true_eq] at h;exact⟨h.2,by rw[any_big];exact h.1,h2⟩
theorem Iu(l:List fO)(ho:okR l)(hl:l.length<=9223372036854775807):
    FS 74 [.arr (nR l)] (if 40< l.length then .tup [.arr (pE []),.arr (rE []),bln false] else .tup [.arr (pE (nL l)),.arr (rE (rP (nL l))),bln (gP l 5||decide (20< a8 (nL l)))]):=by
 have c:(nR l).length=l.length:=by simp[nR]
 have d:=aP (c9 l);by_cases h40:40< l.length;rw[if_pos h40];refine f_c Tryz.func74 ?_;refine r_z 3 ?_;refine ae (q_z 3 ?_);refine cT (r_z 3 ?_);refine ak (Fin.many ⟨_,_,rfl,rfl,⟨_,_,rfl,rfl,⟨_,_,rfl,rfl,rfl⟩⟩⟩ (nle rfl) ?_);exact ai (Cv.emp _) (ai (Cv.emp _) (ai (ao aE (ah _)) av));rw[if_neg h40];have hb:=wI l ω ho;have a:=uS l 5 hl δ;have b:=jo (rP (nL l)) (by simp[nL];omega);rw[FV] at b;cases e:gP l 5 with
 |true=>
  rw[e] at a;refine f_c Tryz.func74 ?_;refine r_z 3 ?_;refine ae (q_z 3 ?_);refine cF (an (r_c 7 (hb) ?_));refine a_z ?_;refine r_c 12 (a) ?_;refine d_z ?_;refine ak (Fin.many ⟨_,_,rfl,rfl,⟨_,_,rfl,rfl,⟨_,_,rfl,rfl,rfl⟩⟩⟩ (nle rfl) ?_);exact ai (ao aE (aw _)) (ai (ao aE (fJ _)) (ai (ao aE (ah _)) av))
 |false=>
  rw[e] at a;refine f_c Tryz.func74 ?_;refine r_z 3 ?_;refine ae (q_z 3 ?_);refine cF (an (r_c 7 (hb) ?_));refine a_z ?_;refine r_c 12 (a) ?_;refine e_s (b) ?_;refine d_z ?_;refine ak (Fin.many ⟨_,_,rfl,rfl,⟨_,_,rfl,rfl,⟨_,_,rfl,rfl,rfl⟩⟩⟩ (nle rfl) ?_);exact ai (ao aE (aw _)) (ai (ao aE (fJ _)) (ai (ao aE (ah _)) av))
def fiO(A:Nat->Nat->Rat)(n g:Nat)(cap:La)(i:Nat):AState:=⟨[(0,i64 n),(1,.clos g [] cap),(5,.lsl 1 0 n (some n) 1),(11,i64 n),(12,i64 i)],mzH 3 61 42 (foE (λ_=>n) (λx=>x) n i) (fiL A n i),40,35⟩
def fiE(A:Nat->Nat->Rat)(n:Nat):AState:=⟨[(5,.lsl 1 0 n (some n) 1)],mzH 3 61 42 (foE (λ_=>n) (λx=>x) n n) (fiL A n n),40,35⟩
def fiI(A:Nat->Nat->Rat)(n g:Nat)(cap:La)(i:Nat):Nat->AState
 |0=>⟨[(0,i64 n),(1,.clos g [] cap),(5,.lsl 1 0 n (some n) 1),(6,i64 i),(11,i64 n),(12,i64 i),(15,i64 n),(16,i64 0)],mzH 3 61 42 (foE (λ_=>n) (λx=>x) n i) (fiL A n i),40,35⟩
 |j+1=>⟨[(0,i64 n),(1,.clos g [] cap),(5,.lsl 1 0 n (some n) 1),(6,i64 i),(11,i64 n),(12,i64 i),(15,i64 n),(16,i64 ((j+1:Nat):Int))],mzH 3 61 42 (foE (wJ n i (j+1)) (λx=>x) n (i+1)) (fiL A n i++[pE (aI (j+1) (A i))]),40,35⟩
theorem CK{r:Ren}{hp hp':Hq}{fr fr':Fr}{g:Nat}{cap:La}(hs:Shr r hp hp')(hcc:Closed (.clos g [] cap))(h:CvF r hp hp' fr fr':=by repeat' (first|exact aV|refine aA rfl ?_ ?_|exact ao hs hcc|exact ao hs (ah _)|exact Cv.sl rfl rfl rfl|(refine Cv.loE hs ?_ (ah _);simp[i64];done))):CvF r hp hp' fr fr':=h
theorem xG(A:Nat->Nat->Rat)(n g:Nat)(cap:La)(hn:n<=25)(hcap:∀c∈cap,Closed c)(hg:∀i j:Nat,i< n->j< n->FS g ((i64 i::i64 j::cap).map coe) (.agg (qC (A i j)))):
    XSpecT Tryz.prog 111 [i64 n,.clos g [] cap] [] 1 (.lsl 1 0 n (some n) 1) (mzH 3 61 42 (mzO 3 (λ_=>n) (λx=>x) n) (fiL A n n)) 40:=by
 have hcc:Closed (.clos g [] cap):=aX af hcap;refine XSpecT.enter (t:=4) Tryz.func111 rfl ξ rfl rfl rfl rfl rfl ?_;refine r_z 1 ?_;refine r_z 3 ?_;refine ae (r_z 3 ?_);refine aJ (λ_:Unit=>fiE A n) (λ_=>True) ?_ ?_
 ·refine aj (aC (fiO A n g cap) (λi=>n- i) (λi=>i<=n) 0 (mN _) ?_ ?_)
  rw[fiO.eq_1];refine SEntT.ent (SEntT.mz (λx=>cond (Nat.beq x 1) 3 x) _ (List.replicate n [.emp]) _ ψ rfl (λi j h1 h2 h3 h4 _=>by rw[mU] at h2 h4;omega) rfl (by rw[foE_0]) ?_ ?_ ?_);intro i e hi;exact absurd (nY hi).1 ω;intro hs;rw[foE_0];exact bv hs λe he c hc=>by rw[(List.mem_replicate.1 he).2,kI] at hc;rw[hc];exact dy
  exact λhs=>CK hs hcc;intro i hi;rw[fiO.eq_1];by_cases hlt:i< n;rotate_left;have hge:i=n:=ω
  subst hge;refine q_z 1 ?_;refine ae (cF (ay ⟨(),trivial,?_⟩));refine SEntT.ent (SEntT.mz (λx=>x) _ _ _ χ rfl (λi j _ _ _ _ e=>e) rfl rfl ?_ ?_ ?_);intro k e hk;obtain⟨h1,rfl⟩:=nY hk;exact⟨dq (fh h1),aK _⟩;exact λhs=>mD hs ω λk hk=>by rw[dq (fh hk)];rfl
  exact λhs=>CK hs hcc;refine q_z 1 ?_;refine ae (cT (an (ae (aj (r_z 2 ?_)))));refine r_z 2 ?_;refine AWp.cutB (λ_:Unit=>fiI A n g cap i n) (λ_=>True) ?_ ?_;refine aj (aC (fiI A n g cap i) (λj=>n- j) (λj=>j<=n) 0 (mN _) ?_ ?_);rw[fiI.eq_1];refine SEntT.ent (SEntT.mz (λx=>x) _ _ _ χ rfl (λi j _ _ _ _ e=>e) rfl rfl ?_ ?_ ?_);intro k e hk;obtain⟨h1,rfl⟩:=nY hk;exact⟨dq (fh h1),aK _⟩;exact λhs=>mD hs ω λk hk=>by rw[dq (fh hk)];rfl
  exact λhs=>CK hs hcc;intro j hj;by_cases hjn:j< n
  ·have hg1:=hg i j hlt hjn
   cases j with
   |zero=>
    rw[fiI.eq_1];refine q_z 1 ?_;refine ae (cT (an (ae (aj (r_z 2 ?_)))));refine r_d ba 14 ?_;refine a_5 ?_;refine bZ (.load_l1 rfl rfl (foE_ge' (ir _) hlt _ ω) TG.h rfl) rfl rfl ?_;refine c_s (hg1) ?_;refine a_3 ?_;refine eK (.store rfl rfl (foE_ge' (ir _) hlt _ ω) rfl rfl rfl TS.h (nle rfl)) ?_;refine aq (n_k ?_);refine r_m 2 ?_;refine a_z ?_;refine⟨0+1,ω,ω,?_⟩;rw[fiI.eq_2];refine SEntT.ent (SEntT.mz (fiR i 54) _ (foE (wJ n i (0+1)) (fiR i 54) n (i+1)) _ χ (CM _ _) (λx y _ h2 _ h4 e=>ru (m:=40) (ir _) δ x y (by simp at h2;omega) (by simp at h4;omega) e) ?_ ?_ ?_ ?_ ?_);rw[CL,<-fi_set0 hlt (0+((i:Nat):Int).toNat) ω];rfl;rw[jp hlt,jp hlt];intro k e hk;rcases E8 hk with⟨h1,rfl⟩|⟨rfl,rfl⟩
    ·rw[jD ω]
     refine⟨?_,aK _⟩
     repeat rw[bR ω]
     exact dq (fh h1)
    rw[oM];exact⟨rfl,aK _⟩
    exact λhs=>mD hs ω λk hk=>by
     by_cases hki:k< i;rw[dq (sU hki)];rfl;obtain rfl:k=i:=ω
     rw[dq rv];rfl
    exact λhs=>CK hs hcc
   |succ j=>
    rw[fiI.eq_2];have hlen:(pE (aI (j+1) (A i))).length=j+1:=by simp[pE]
    have hrw:∀(k:Nat) (B:Option ABlk),k≠i+2->dS (ap ((k,B)::mzH 3 61 42 (foE (wJ n i (j+1)) (λx=>x) n (i+1)) (fiL A n i++[pE (aI (j+1) (A i))]))) (i+2)=some ⟨42,3,pE (aI (j+1) (A i))⟩:=λk B hk=>ez (by rw[bR hk];exact dq rv) (show(3:Nat)≠0 by decide);have hi53:(53:Nat)≠i+2:=ω
    refine q_z 1 ?_;refine ae (cT (an (ae (aj (r_z 2 ?_)))));refine r_d ba 14 ?_;refine a_5 ?_;refine bZ (.load_l1 rfl rfl (foE_lt' (Ed _) FU _ ω) TG.h rfl) rfl rfl ?_;refine c_s (hg1) ?_;refine a_1 ?_;refine o_2 (.append_l rfl rfl rfl te_61.h rfl rfl (hrw 53 _ hi53) rfl rfl hlen (eR _) (by rfl) rfl (.lsl rfl (nle rfl)) TZ.h rfl TB.h (by first|rfl|assumption|(simp;done)|(simp;omega)|omega) μ) ?_;refine a_1 ?_;refine eK (.store rfl rfl (foE_lt' (Ed _) FU _ ω) rfl rfl rfl TS.h (nle rfl)) ?_;refine aq (n_k ?_);refine r_m 2 ?_;refine a_z ?_;refine⟨j+1+1,ω,ω,?_⟩;rw[fiI.eq_2];refine SEntT.ent (SEntT.mz (fiR i 54) _ (foE (wJ n i (j+1+1)) (fiR i 54) n (i+1)) _ χ (CM _ _) (λx y _ h2 _ h4 e=>ru (m:=40) (ir _) δ x y (by simp at h2;omega) (by simp at h4;omega) e) ?_ ?_ ?_ ?_ ?_);rw[CL,<-fi_set hlt (0+((i:Nat):Int).toNat) ω];rfl;rw[jp hlt,jp hlt];intro k e hk;rcases E8 hk with⟨h1,rfl⟩|⟨rfl,rfl⟩
    ·rw[jD ω]
     refine⟨?_,aK _⟩
     repeat rw[bR ω]
     exact dq (sU h1)
    rw[oM];refine⟨?_,aK _⟩;rw[xO (j+1),ki];rfl
    exact λhs=>mD hs ω λk hk=>by
     by_cases hki:k< i;rw[dq (sU hki)];rfl;obtain rfl:k=i:=ω
     rw[dq rv];rfl
    exact λhs=>CK hs hcc
  have hge:j=n:=ω
  obtain⟨j,rfl⟩:∃j',j=j'+1:=⟨j- 1,ω⟩;rw[fiI.eq_2];refine q_z 1 ?_;refine ae (cF (ay ⟨(),trivial,?_⟩));rw[<-hge,fiI.eq_2];refine SEntT.ent (SEntT.mz (λx=>x) _ _ _ χ rfl (λi j _ _ _ _ e=>e) rfl rfl ?_ ?_ ?_);intro k e hk;rcases E8 hk with⟨h1,rfl⟩|⟨rfl,rfl⟩
  exact⟨dq (sU h1),aK _⟩;exact⟨dq rv,aK _⟩
  exact λhs=>mD hs ω λk hk=>by
   by_cases hki:k< i;rw[dq (sU hki)];rfl;obtain rfl:k=i:=ω
   rw[dq rv];rfl
  exact λhs=>CK hs hcc;rintro _ _;obtain⟨m,rfl⟩:∃m,n=m+1:=⟨n- 1,ω⟩;rw[fiI.eq_2,LH,II (w:=wJ (m+1) i (m+1)) (w':=λ_=>m+1) (s':=λx=>x) (λk hk=>⟨by unfold wJ;cases Nat.blt k i <;> rfl,rfl⟩)];refine r_m 2 ?_;refine a_z ?_;refine⟨i+1,ω,ω,?_⟩;rw[fiO.eq_1];refine SEntT.ent (SEntT.mz (λx=>x) _ _ _ χ rfl (λi j _ _ _ _ e=>e) rfl rfl ?_ ?_ ?_);intro k e hk;obtain⟨h1,rfl⟩:=nY hk;exact⟨dq (fh h1),aK _⟩;exact λhs=>mD hs ω λk hk=>by rw[dq (fh hk)];rfl
  exact λhs=>CK hs hcc
 rintro _ _;show AWp _ _ _ _ ⟨[(5,.lsl 1 0 n (some n) 1)],mzH 3 61 42 (foE (λ_=>n) (λx=>x) n n) (fiL A n n),40,35⟩;rw[foE_n];refine r_z 2 ?_;refine ak (FinXT.of (SEntT.mz (λx=>x) _ _ _ χ rfl (λi j _ _ _ _ e=>e) rfl rfl ?_ ?_ ?_));intro k e hk;obtain⟨h1,rfl⟩:=nY hk;exact⟨dq (fh h1),aK _⟩;exact λhs=>og ω λk hk=>by rw[dq (fh hk)];rfl
 exact λhs=>CK hs hcc
end Go.Proofs.YtjmkjicckobojaaGreatDoor
