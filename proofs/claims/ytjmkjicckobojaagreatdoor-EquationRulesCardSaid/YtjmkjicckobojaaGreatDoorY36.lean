/- EquationRules: if a rule is good enough, the values of the solution solve the equation on its nodes, at every input of the kinds that the law takes. -/
import Derived.Test.YtjmkjicckobojaaGreatDoorY35
import Derived.Test.YtjmkjicckobojaaGreatDoorRows
import Derived.JoinedOf
import Derived.SevenTiedAt
import Derived.Lib.LaidTab
import Derived.Test.YtjmkjicckobojaaGreatDoorTie
import Derived.Test.YtjmkjicckobojaaGreatDoorCards
import Derived.LaidMore
import Derived.Stop.Joined
import Derived.MakeChecks
set_option linter.all false
namespace Go.Proofs.YtjmkjicckobojaaGreatDoor
open Go.Abs
set_option maxRecDepth 20000
set_option maxHeartbeats 4000000

theorem pE_snoc'(l:Lq)(a:Rat):pE l++[qC a]=pE (l++[a]):=by simp[pE]
abbrev beQ(k:Ke)(l:Rat)(g:Lq):AV:= .aptr [eqC k l g] 0 0
theorem lH(n:Nat)(f:Nat->Rat):pE (aI n f)++[qC (f n)]=pE (aI (n+1) f):=by rw[pE_snoc',<-HK]
theorem y3{n j:Nat}{f:Nat->Rat}(h:j< n):∀e,e=j->(pE (aI n f))[e]?=some (qC (f j)):=λe a=>by
 subst a;unfold pE aI;simp[h]
theorem pW(n:Nat)(f:Nat->Rat):(pE (aI n f)).length=n:=by simp[pE]
theorem yE(a:Rat):eD a a=0:=by unfold eD;rw[if_neg φ,if_pos rfl]
theorem Fb{p:Lq}{x:Rat}{m s:Nat}(hl:p.length<=5)(hb:bdL p s)(hs:1<=s)(hs2:s<=10000000)(hx:qs x<=20):eg p x/\qs (ag p x)<=5* (s+21)+1:=by
 have c:=mxL_le hb hs;have a:=jP hx hb;have b:p.length* (s+20+1)<=5* (s+20+1):=mC _ hl;have d:p.length* (mxL p+qs x+1)<=5* (s+20+1):=vj hl ω;exact⟨⟨ω,ω⟩,ω⟩
theorem ru_bd{k:Ke}{l:Rat}{g u V:Lq}{x:Nat->Rat}{t:Rat}{n:Nat}(hk:TmK k)(ql:qs l<=20)(hg:qs (ag g t)<=300)(qt:qs t<=20)(qx:∀i,i< n->qs (x i)<=20)(hV:∀i,i< n->qs (ag V (x i))<=36000200)(hu:∀i,i< n->qs (ag u (x i))<=50000200):∀m,m<=n->qs (ruS k l g u V x t m)<=300+m* 90000000
 |0,_=>by rw[ruS];omega
 |m+1,h=>by
  have b:=ru_bd hk ql hg qt qx hV hu m ω;have e:=hV m ω;have c:=hu m ω;have o:=A8 hk qt (qx m ω);have d:=cP l (ag V (x m));have j:=cP (l* ag V (x m)) (atK k t (x m));have a:=cP (l* ag V (x m) * atK k t (x m)) (ag u (x m));have f:=gT (ruS k l g u V x t m) (l* ag V (x m) * atK k t (x m) * ag u (x m));rw[ruS];omega
theorem Hx{k:Ke}{x y:Rat}(hk:TmK k)(hke:qw k)(hx:qs x<=20)(hy:qs y<=20):OkAt k x y where
 ke:=hke
 e:=λp hp=>by
  have f:=(hk.n p hp).1;have h:=(hk.n p hp).2;have d:=yx f (hk.b p hp).1 hx;have g:=yx h (hk.b p hp).2 hy;exact⟨ok_ev ω (hk.b p hp).1 hx,ok_ev ω (hk.b p hp).2 hy,ω⟩
 a:=λi p hp=>by
  have c:=mc hp;have q:i< k.length:=(jY.1 hp).1;have j:=hk.l;have o:=MG hk hx hy i ω;have d:=yx (hk.n p c).1 (hk.b p c).1 hx;have g:=yx (hk.n p c).2 (hk.b p c).2 hy;have m:=cP (ag p.1 x) (ag p.2 y);omega
def reNS(k:Ke)(L:Rat)(G:Lq)(a b:Rat)(u:Lq)(f:Int)(mm:Nat):Nat->AState
 |0=>⟨[(4,.v (.int .i8 f)),(5,.v (.int .u8 (mm:Int))),(13,beQ k L G),(14,bSp a b),(16,.arr (pE u)),(19,.emp),(20,.arr (pE (ndP (xN f) 0))),(21,i64 0)],[],1,270⟩
 |i+1=>⟨[(4,.v (.int .i8 f)),(5,.v (.int .u8 (mm:Int))),(13,beQ k L G),(14,bSp a b),(16,.arr (pE u)),(19,.lsl 1 0 (i+1) none 3),(20,.arr (pE (ndP (xN f) (i+1)))),(21,i64 ((i+1:Nat):Int))],[(1,some ⟨42,3,pE (aI (i+1) (xN f))⟩)],2,270⟩
def reGS(k:Ke)(L:Rat)(G u:Lq)(X:Lc)(R:La)(D:Nat):Nat->AState
 |j=>⟨[(13,beQ k L G),(16,.arr (pE u)),(19,.arr X),(25,.aptr [R] 0 0),(27,i64 ((D:Int)- 1)),(30,i64 j)],[],1,270⟩
def reWS(k:Ke)(L:Rat)(G u V T:Lq)(x:Nat->Rat)(n:Nat):Nat->AState
 |0=>⟨[(13,beQ k L G),(16,.arr (pE u)),(19,.arr (pE (aI n x))),(25,.aptr [ruC T V] 0 0),(31,.emp),(32,.emp),(33,i64 0)],[],1,270⟩
 |i+1=>⟨[(13,beQ k L G),(16,.arr (pE u)),(19,.arr (pE (aI n x))),(25,.aptr [ruC T V] 0 0),(31,.lsl 1 0 (i+1) none 3),(32,.lsl 2 0 (i+1) none 3),(33,i64 ((i+1:Nat):Int))],[(1,some ⟨42,3,pE (aI (i+1) λi=>ag V (x i))⟩),(2,some ⟨42,3,pE (aI (i+1) λi=>ag u (x i))⟩)],3,270⟩
def reJS(k:Ke)(L:Rat)(G:Lq)(X W U:Lc):Nat->AState
 |j=>⟨[(13,beQ k L G),(19,.arr X),(31,.arr W),(32,.arr U),(34,i64 j)],[],1,270⟩
def reIS(k:Ke)(L:Rat)(G:Lq)(X W U:Lc)(j:Nat)(s:Nat->Rat):Nat->AState
 |i=>⟨[(13,beQ k L G),(19,.arr X),(31,.arr W),(32,.arr U),(34,i64 j),(35,.lptr 1 0 0),(36,i64 i)],[(1,some ⟨42,3,[qC (s i)]⟩)],2,270⟩
def reFS(U:Lc):Nat->AState
 |j=>⟨[(32,.arr U),(39,.arr U),(41,i64 j)],[],1,270⟩
theorem sS(l:List iu)(gp:fO×fO)(cr:fO)(gr:List fO)(f:Int)(mm:Nat)(ho:∀t∈l,zO t)(hll:l.length<=9223372036854775807)(hgp:okN gp.1/\okN gp.2)(hc:okN cr)(hg:okR gr)(hgl:gr.length<=9223372036854775807)(hf: -128<=f/\f<=127)(hmm:mm<=255):
    FS 4 [.arr (twR l),.agg (nuC gp.1.1 gp.1.2.1 gp.1.2.2++nuC gp.2.1 gp.2.2.1 gp.2.2.2),.agg (nuC cr.1 cr.2.1 cr.2.2),.arr (nR gr),.v (.int .i8 f),.v (.int .u8 (mm:Int))] (.v (.bool true)):=by
 obtain⟨k1,g1,bb,hP,hk1,hg1,hbb⟩:=K9 l gp.1 gp.2 cr gr ho hll hgp.1 hgp.2 hc hg hgl;have hw:=EJ;have cG:∀c∈nuC gp.1.1 gp.1.2.1 gp.1.2.2++nuC gp.2.1 gp.2.2.1 gp.2.2.2,Closed c:=dD (fQ gp.1) (fQ gp.2);refine f_n Tryz.func4 ?_ ?_;exact ac (dx l) (ac (aD cG) (ac (aD (fQ cr)) (ac (aP (c9 gr)) (ac (ah _) (ac (ah _) af)))));refine r_z 3 ?_;refine r_c 14 (hP) ?_;refine a_z ?_;cases bb with
 |false=>
  refine ae (q_z 8 ?_);refine cT (r_c 2 (hw) ?_);refine a_z ?_;exact ak (t_e (ah _))
 |true=>
 obtain⟨rfl,rfl,o⟩:=hbb rfl;have qa:=o.qa;have qb:=o.qb;have qL:=o.qc;have ab:=o.ab;have J:=o.t;have O:=o.ok;have bg:=o.bg;have lg:=o.lg;have dgg:=o.dg;generalize keM l=k at *
 generalize nV cr=L at *
 generalize nL gr=G at *
 generalize nV gp.1=a at *
 generalize nV gp.2=b at *
 refine AWp.ent (st':=⟨[(4,.v (.int .i8 f)),(5,.v (.int .u8 (mm:Int))),(13,beQ k L G),(14,bSp a b),(15,bln true)],[],1,270⟩) ?_ ?_;refine s_x [] (λhs=>?_) (λhs=>?_)
 ·repeat' (first|exact aV|refine aA rfl ?_ ?_|exact Cv.boxp hs rfl (aR rfl) rfl (bt _ _ _)|exact Cv.boxp hs rfl (aR rfl) rfl (bh _ _)|exact aZ)
 ·repeat' (first|exact aF|refine h_c ?_ ?_|exact bG|refine aB ?_|exact av|refine ai ?_ ?_|exact Cv.boxp hs rfl (aR rfl) rfl (bt _ _ _)|exact Cv.boxp hs rfl (aR rfl) rfl (bh _ _)|exact aZ)
 have sa:sm a:=fo qa δ;have sb:sm b:=fo qb δ;have hwd:=oJ a b sa sb;have hsg:=cX (b- a);by_cases hz:b- a=0;refine ae (q_c 8 (hwd) ?_);refine c_s (hsg) ?_;refine bF rfl rfl rfl (.bin rfl rfl (vT cK (decide_eq_true (sgZ_num_eq.2 hz)))) rfl rfl ?_;refine a_z ?_;refine cT (r_c 2 (hw) ?_);refine a_z ?_;exact ak (t_e (ah _));refine ae (q_c 8 (hwd) ?_);refine c_s (hsg) ?_;refine bF rfl rfl rfl (.bin rfl rfl (vF cK (decide_eq_false (λe=>hz (sgZ_num_eq.1 e))))) rfl rfl ?_;refine a_z ?_;refine cF (an ?_);have hab:a< b:=φ
 have hT:=ta_tame J O lg bg qL qa qb ab;obtain⟨u,B,e,R,hul,hub,_,hes⟩:=Jt J hT lg bg qL;rcases hes with rfl|⟨rfl,_,hsol⟩
 refine r_c 10 (R) ?_;refine a_z ?_;refine ae (s_r 2 ?_);refine a_1 ?_;refine o_0 (.bin rfl rfl (vT cx (rfl))) ?_;refine aq ?_;refine cT (s_r 6 ?_);refine a_1 ?_;refine o_0 (.bin rfl rfl (vT cK (rfl))) ?_;refine c_s (hw) ?_;refine a_z ?_;exact ak (t_e (ah _));refine r_c 10 (R) ?_;refine a_z ?_;refine ae (s_r 2 ?_);refine a_1 ?_;refine o_0 (.bin rfl rfl (vF cx (rfl))) ?_;refine aq ?_;refine cF (an ?_);have S:FS 28 [i64 1] (.agg (qC 1)):=dM 1 δ;obtain⟨n,hn⟩:∃n,n=mm % 5+1:=⟨_,rfl⟩;have W:1<=n/\n<=5:=ω
 have hmi:((mm:Int) % 5)=(n:Int)- 1:=ω
 refine r_z 1 ?_;refine r_c 3 (S) ?_;refine a_z ?_;refine ae (r_z 1 ?_);refine aJ (λ_:Unit=>⟨[(13,beQ k L G),(14,bSp a b),(16,.arr (pE u)),(19,.arr (pE (aI n (xN f)))),(20,.arr (pE (ndP (xN f) n)))],[],1,270⟩) (λ_=>True) ?_ ?_;refine aj (aC (reNS k L G a b u f mm) (λi=>n- i) (λi=>i<=n) 0 (mN _) ?_ ?_);rw[reNS.eq_1];refine s_x [] (λhs=>?_) (λhs=>?_)
 ·repeat' (first|exact aV|refine aA rfl ?_ ?_|exact ao hs (aN (bt _ _ _))|exact ao hs (aN (bh _ _))|exact ao hs (aw _)|exact ii (L:=ndP (xN f) 0) hs rfl (aR rfl) rfl rfl|exact aZ)
 ·repeat' (first|exact aF|refine h_c ?_ ?_|exact bG|refine aB ?_|exact av|refine ai ?_ ?_|exact ao hs (aN (bt _ _ _))|exact ao hs (aN (bh _ _))|exact ao hs (aw _)|exact ii (L:=ndP (xN f) 0) hs rfl (aR rfl) rfl rfl|exact aZ)
 intro i d;by_cases hlt:i< n;have s:=xN_qs hf (show i<=5 by omega);have hI:FS 28 [i64 (f+(i:Int))] (.agg (qC (xN f i))):=dM (f+(i:Int)) ω;have hN:=iP (xN f i)
 have hbl:bdL [-(xN f i),1] 20:=λq z=>by
  rcases pY.1 z with rfl|z
  rw[fa];omega;rw[kI.1 z];decide
 have hMu:=pz (ndP (xN f) i) [-(xN f i),1] 36 20 (zT hf ω) hbl δ δ (by rw[(lV (xN f) i).2];omega) δ (by rw[(lV (xN f) i).2];omega) ψ;have hpn:aG (ndP (xN f) i) [-(xN f i),1]=ndP (xN f) (i+1):=rfl;rw[hpn] at hMu;cases i with
 |zero=>
  rw[reNS.eq_1];refine ae (q_z 5 ?_);refine cT (an (ae (aj (r_c 7 (hI) ?_))));refine a_z ?_;refine r_z 5 ?_;refine r_m 7 ?_;refine c_s (hN) ?_;refine c_s (S) ?_;refine a_1 ?_;refine o_1 (.callS1 rfl rfl rfl (.keep (.shut rfl d_n (.nil))) rfl ((FSpec.argE2 hMu rfl))) ?_;refine a_z ?_;refine r_m 3 ?_;refine a_z ?_;refine⟨1,ω,hlt,?_⟩;rw[reNS.eq_2];refine s_x [(1,19)] (λhs=>e_62) (λhs=>?_)
  ·repeat' (first|exact aF|refine h_c ?_ ?_|exact aM hs (lH 0 (xN f)) (aK _)|exact bG|refine aB ?_|exact av|refine ai ?_ ?_|exact ao hs (aN (bt _ _ _))|exact ao hs (aN (bh _ _))|exact ao hs (aw _)|exact aZ)
 |succ i=>
  have hln:=pW (i+1) (xN f);rw[reNS.eq_2];refine ae (q_z 5 ?_);refine cT (an (ae (aj (r_c 7 (hI) ?_))));refine a_z ?_;refine r_z 5 ?_;refine r_m 7 ?_;refine c_s (hN) ?_;refine c_s (S) ?_;refine a_1 ?_;refine o_1 (.callS1 rfl rfl rfl (.keep (.shut rfl d_n (.nil))) rfl ((FSpec.argE2 hMu rfl))) ?_;refine a_z ?_;refine r_m 3 ?_;refine a_z ?_;refine⟨i+2,ω,hlt,?_⟩;rw[reNS.eq_2];refine s_x [(1,19)] (λhs=>e_62) (λhs=>?_)
  ·repeat' (first|exact aF|refine h_c ?_ ?_|exact aM hs (lH (i+1) (xN f)) (aK _)|exact bG|refine aB ?_|exact av|refine ai ?_ ?_|exact ao hs (aN (bt _ _ _))|exact ao hs (aN (bh _ _))|exact ao hs (aw _)|exact aZ)
 obtain⟨i,rfl⟩:∃i',i=i'+1:=⟨i- 1,ω⟩;have he:i+1=n:=ω
 rw[reNS.eq_2];refine ae (q_z 5 ?_);refine cF (ay ⟨(),trivial,?_⟩);rw[he];refine s_x [] (λhs=>?_) (λhs=>?_)
 ·repeat' (first|exact aV|refine aA rfl ?_ ?_|exact ao hs (aN (bt _ _ _))|exact ao hs (aN (bh _ _))|exact ao hs (aw _)|exact ii (L:=aI n (xN f)) hs rfl (aR rfl) rfl ψ|exact aZ)
 ·repeat' (first|exact aF|refine h_c ?_ ?_|exact bG|refine aB ?_|exact av|refine ai ?_ ?_|exact ao hs (aN (bt _ _ _))|exact ao hs (aN (bh _ _))|exact ao hs (aw _)|exact ii (L:=aI n (xN f)) hs rfl (aR rfl) rfl ψ|exact aZ)
 rintro _ _;obtain⟨V,D,hOn,hDe,hnD,hD2,hex,hVb,hVl⟩:=nd_pack hf W qa qb hab;have hJ:=Lz qa qb hab;have hxi:∀i j,i< n->j< n->xN f i=xN f j->i=j:=λi j _ _ e=>DG e;have s:∀i,i< n->qs (xN f i)<=20:=λi d=>fo (xN_qs hf ω) δ;have hexa:∀p:Lq,(am p).length<=D->sQ (λi=>ag V (xN f i) * ag p (xN f i)) n=itP a b p:=λp hp=>Km hxi W ω hex hp;have cW:∀c∈wC (m21 a b) true true (qC a) (qC b),Closed c:=ju (.inr ⟨a,rfl⟩) (.inr ⟨b,rfl⟩);generalize ndP (xN f) n=T at *
 generalize xN f=x at *
 refine r_c 8 (hJ) ?_;refine a_z ?_;refine AWp.ent (st':=⟨[(13,beQ k L G),(16,.arr (pE u)),(19,.arr (pE (aI n x))),(20,.arr (pE T)),(23,.aptr [wC (m21 a b) true true (qC a) (qC b)] 0 0),(24,i64 0)],[],1,270⟩) ?_ ?_;refine s_x [] (λhs=>?_) (λhs=>?_)
 ·repeat' (first|exact aV|refine aA rfl ?_ ?_|exact ao hs (aN (bt _ _ _))|exact ao hs (aw _)|exact Cv.boxp hs rfl (aR rfl) rfl cW|exact aZ)
 ·repeat' (first|exact aF|refine h_c ?_ ?_|exact bG|refine aB ?_|exact av|refine ai ?_ ?_|exact ao hs (aN (bt _ _ _))|exact ao hs (aw _)|exact Cv.boxp hs rfl (aR rfl) rfl cW|exact aZ)
 refine r_c 9 (hOn) ?_;refine a_z ?_;refine AWp.ent (st':=⟨[(13,beQ k L G),(16,.arr (pE u)),(19,.arr (pE (aI n x))),(23,.aptr [wC (m21 a b) true true (qC a) (qC b)] 0 0),(24,i64 0),(25,.aptr [ruC T V] 0 0),(26,i64 0)],[],1,270⟩) ?_ ?_;refine s_x [] (λhs=>?_) (λhs=>?_)
 ·repeat' (first|exact aV|refine aA rfl ?_ ?_|exact ao hs (aN (bt _ _ _))|exact ao hs (aw _)|exact ao hs (aN cW)|exact Cv.boxp hs rfl (aR rfl) rfl (dm _ _)|exact aZ)
 ·repeat' (first|exact aF|refine h_c ?_ ?_|exact bG|refine aB ?_|exact av|refine ai ?_ ?_|exact ao hs (aN (bt _ _ _))|exact ao hs (aw _)|exact ao hs (aN cW)|exact Cv.boxp hs rfl (aR rfl) rfl (dm _ _)|exact aZ)
 refine r_c 10 (hDe) ?_;refine a_z ?_;refine ae (s_r 10 ?_);refine a_1 ?_;refine o_0 (.bin rfl rfl (vF cx (rfl))) ?_;refine d_2 ?_;refine bF rfl rfl rfl (.bin rfl rfl (vF cx (rfl))) rfl rfl ?_;refine d_3 ?_;refine bF rfl rfl rfl (.bin rfl rfl (vF cx (rfl))) rfl rfl ?_;refine a_z ?_;refine cF (an (ae (r_z 1 ?_)));have hkl:=J.l;have hkl2:(kE k).length=k.length:=em k;have hdu:=ce u ω;have du5: -1<=a8 u/\a8 u<=4:=by have:=bm u;unfold a8;omega
 refine aJ (λ_:Unit=>⟨[(13,beQ k L G),(16,.arr (pE u)),(19,.arr (pE (aI n x))),(25,.aptr [ruC T V] 0 0)],[],1,270⟩) (λ_=> ∀p∈k,a8 p.2+a8 u<=(D:Int)- 1) ?_ ?_
 ·refine aj (aC (reGS k L G u (pE (aI n x)) (ruC T V) D) (λj=>k.length- j) (λj=>j<=k.length/\∀p∈k.take j,a8 p.2+a8 u<=(D:Int)- 1) 0 ⟨mN _,λp hp=>by simp at hp⟩ ?_ ?_)
  rw[reGS.eq_1];exact s_x [] (λhs=>e_6) (λhs=>e_18);rintro j ⟨r,hjp⟩;rw[reGS.eq_1];by_cases hlt:j< k.length;rotate_left;have Y:j=k.length:=ω
  refine ae (q_z 5 ?_);refine cF (ay ⟨(),λp hp=>hjp p (by rw[Y,qj];exact hp),?_⟩);exact s_x [] (λhs=>e_6) (λhs=>e_18);obtain⟨p,hp⟩:∃p,k[j]?=some p:=⟨_,eT hlt⟩;have hm:=mc hp;have n2:=(J.n p hm).2;have Q:(kE k)[((j:Nat):Int).toNat]?=some (prC p):=kR hp _ ψ;have hdp:=ce p.2 ω;have dp5: -1<=a8 p.2/\a8 p.2<=3:=by have:=bm p.2;unfold a8;omega
  by_cases hgt2:(D:Int)- 1< a8 p.2+a8 u;refine ae (q_z 5 ?_);refine cT (an (ae (aj (s_r 12 ?_))));refine a_3 ?_;refine i_x Q ?_;refine bZ (.fieldAddr_a rfl TF.h δ) rfl rfl ?_;refine l_1 Q ?_;refine c_s (hdp) ?_;refine c_s (hdu) ?_;refine d_z ?_;refine cT (r_c 2 (hw) ?_);refine a_z ?_;exact ak (t_e (ah _));refine ae (q_z 5 ?_);refine cT (an (ae (aj (s_r 12 ?_))));refine a_3 ?_;refine i_x Q ?_;refine bZ (.fieldAddr_a rfl TF.h δ) rfl rfl ?_;refine l_1 Q ?_;refine c_s (hdp) ?_;refine c_s (hdu) ?_;refine d_z ?_;refine cF (an (r_m 3 ?_));refine a_z ?_;refine⟨j+1,ω,⟨ω,λq z=>?_⟩,?_⟩;rw[cZ hp] at z;rcases n7.1 z with z|z
  exact hjp q z;rw[kI.1 z];omega;rw[reGS.eq_1];exact s_x [] (λhs=>e_6) (λhs=>e_18)
 rintro _ hdeg
 have hru:∀t,ruS k L G u V x t n=ag u t:=ru_sol hsol λp hp=>hexa _ (by
  have Z:=hdeg p hp;unfold a8 at Z;have h2:am (aG p.2 u)=am (aG (am p.2) (am u)):=eM λt=>by rw[az,az,b7,b7]
  rw[h2,kf];by_cases e1:am p.2=[];rw[show aG (am p.2) (am u)=[] by rw[<-kf,eM (q:=[]) λt=>by rw[az,e1,aS,MZ]];rfl];exact mN _;by_cases e2:am u=[];rw[show aG (am p.2) (am u)=[] by rw[<-kf,eM (q:=[]) λt=>by rw[az,e2,aS,Pn]];rfl];exact mN _;have h3:=jl (am p.2) (am u);have h4:=nB.2 e1;have h5:=nB.2 e2;omega)
 have C:∀i,i< n->eg V (x i)/\qs (ag V (x i))<=36000200:=λi d=>by
  obtain⟨Z,h2⟩:=Fb (m:=0) ω hVb δ δ (s i d);exact⟨Z,ω⟩
 have F:∀i,i< n->eg u (x i)/\qs (ag u (x i))<=50000200:=λi d=>by
  obtain⟨Z,h2⟩:=Fb (m:=0) hul hub δ δ (s i d);exact⟨Z,ω⟩
 have N:∀i,i< n->eg G (x i)/\qs (ag G (x i))<=300:=λi d=>by
  obtain⟨Z,h2⟩:=Fb (m:=0) lg bg δ δ (s i d);exact⟨Z,ω⟩
 have M:∀i,i< n->∀e,e=i->(pE (aI n x))[e]?=some (qC (x i)):=λi d=>y3 d;have hlx:=pW n x;have hly:=fY n x;have hlz:=fY n λi=>ag u (x i);refine r_z 2 ?_;refine ae (r_z 1 ?_);refine aJ (λ_:Unit=>⟨[(13,beQ k L G),(19,.arr (pE (aI n x))),(31,.arr (pE (aI n λi=>ag V (x i)))),(32,.arr (pE (aI n λi=>ag u (x i))))],[],1,270⟩) (λ_=>True) ?_ ?_;refine aj (aC (reWS k L G u V T x n) (λi=>n- i) (λi=>i<=n) 0 (mN _) ?_ ?_);rw[reWS.eq_1];exact s_x [] (λhs=>e_6) (λhs=>e_18);intro i d;by_cases hlt:i< n;have e1:=fg V (x i) (C i hlt).1;have e2:=fg u (x i) (F i hlt).1;cases i with
 |zero=>
  have g:(pE (aI n x))[((0:Int)).toNat]?=some (qC (x 0)):=M 0 hlt _ ψ;rw[reWS.eq_1];refine ae (q_z 4 ?_);refine cT (an (ae (aj (ae (r_d ba 11 ?_)))));refine a_5 ?_;refine i_x g ?_;refine l_x g ?_;refine c_s (e1) ?_;refine a_3 ?_;refine aq (n_k ?_);refine r_m 10 ?_;refine a_4 ?_;refine i_x g ?_;refine l_x g ?_;refine c_s (e2) ?_;refine a_z ?_;refine r_m 3 ?_;refine a_z ?_;refine⟨1,ω,hlt,?_⟩;rw[reWS.eq_2];refine s_x [(1,31),(2,32)] (λhs=>e_6) (λhs=>?_)
  ·repeat' (first|exact aF|refine h_c ?_ ?_|exact aM hs (lH 0 λi=>ag V (x i)) (aK _)|exact aM hs (lH 0 λi=>ag u (x i)) (aK _)|exact bG|refine aB ?_|exact av|refine ai ?_ ?_|exact ao hs (aN (bt _ _ _))|exact ao hs (aw _)|exact ao hs (aN (dm _ _))|exact aZ)
 |succ i=>
  have g:(pE (aI n x))[(((i+1:Nat):Int)).toNat]?=some (qC (x (i+1))):=M (i+1) hlt _ ω;have l1:=pW (i+1) λi=>ag V (x i);have l2:=pW (i+1) λi=>ag u (x i);rw[reWS.eq_2];refine ae (q_z 4 ?_);refine cT (an (ae (aj (ae (r_d ba 11 ?_)))));refine a_5 ?_;refine i_x g ?_;refine l_x g ?_;refine c_s (e1) ?_;refine a_3 ?_;refine aq (n_k ?_);refine r_m 10 ?_;refine a_4 ?_;refine i_x g ?_;refine l_x g ?_;refine c_s (e2) ?_;refine a_z ?_;refine r_m 3 ?_;refine a_z ?_;refine⟨i+2,ω,hlt,?_⟩;rw[reWS.eq_2];refine s_x [(1,31),(2,32)] (λhs=>e_6) (λhs=>?_)
  ·repeat' (first|exact aF|refine h_c ?_ ?_|exact aM hs (lH (i+1) λi=>ag V (x i)) (aK _)|exact aM hs (lH (i+1) λi=>ag u (x i)) (aK _)|exact bG|refine aB ?_|exact av|refine ai ?_ ?_|exact ao hs (aN (bt _ _ _))|exact ao hs (aw _)|exact ao hs (aN (dm _ _))|exact aZ)
 obtain⟨i,rfl⟩:∃i',i=i'+1:=⟨i- 1,ω⟩;have he:i+1=n:=ω
 rw[reWS.eq_2];refine ae (q_z 4 ?_);refine cF (ay ⟨(),trivial,?_⟩);rw[he];refine s_x [] (λhs=>?_) (λhs=>?_)
 ·repeat' (first|exact aV|refine aA rfl ?_ ?_|exact ao hs (aN (bt _ _ _))|exact ao hs (aw _)|exact ii (L:=aI n λi=>ag V (x i)) hs rfl (aR rfl) rfl ψ|exact ii (L:=aI n λi=>ag u (x i)) hs rfl (aR rfl) rfl ψ|exact aZ)
 ·repeat' (first|exact aF|refine h_c ?_ ?_|exact bG|refine aB ?_|exact av|refine ai ?_ ?_|exact ao hs (aN (bt _ _ _))|exact ao hs (aw _)|exact ii (L:=aI n λi=>ag V (x i)) hs rfl (aR rfl) rfl ψ|exact ii (L:=aI n λi=>ag u (x i)) hs rfl (aR rfl) rfl ψ|exact aZ)
 rintro _ _;have hgw:∀i,i< n->∀e,e=i->(pE (aI n λi=>ag V (x i)))[e]?=some (qC (ag V (x i))):=λi d=>y3 (f:=λi=>ag V (x i)) d;have X:∀i,i< n->∀e,e=i->(pE (aI n λi=>ag u (x i)))[e]?=some (qC (ag u (x i))):=λi d=>y3 (f:=λi=>ag u (x i)) d;have hlu:=pW n λi=>ag u (x i);refine ae (r_z 1 ?_);refine aJ (λ_:Unit=>⟨[(13,beQ k L G),(19,.arr (pE (aI n x))),(31,.arr (pE (aI n λi=>ag V (x i)))),(32,.arr (pE (aI n λi=>ag u (x i))))],[],1,270⟩) (λ_=>True) ?_ ?_
 ·refine aj (aC (reJS k L G (pE (aI n x)) (pE (aI n λi=>ag V (x i))) (pE (aI n λi=>ag u (x i)))) (λj=>n- j) (λj=>j<=n) 0 (mN _) ?_ ?_)
  rw[reJS.eq_1];exact s_x [] (λhs=>e_7) (λhs=>e_8);intro j r;rw[reJS.eq_1];by_cases hlt:j< n;rotate_left;refine ae (q_z 4 ?_);refine cF (ay ⟨(),trivial,?_⟩);exact s_x [] (λhs=>e_7) (λhs=>e_8);have K:=M j hlt ((j:Nat):Int).toNat ω;have y:=X j hlt ((j:Nat):Int).toNat ω;have e1:=fg G (x j) (N j hlt).1;have hbd:=ru_bd (t:=x j) J qL (N j hlt).2 (s j hlt) s (λi d=>(C i d).2) (λi d=>(F i d).2);refine ae (q_z 4 ?_);refine cT (an (ae (aj (ae (r_d ba 9 ?_)))));refine a_4 ?_;refine i_x K ?_;refine l_x K ?_;refine c_s (e1) ?_;refine a_2 ?_;refine aq (n_k ?_);refine ae (r_z 1 ?_);refine aJ (λ_:Unit=>⟨[(13,beQ k L G),(19,.arr (pE (aI n x))),(31,.arr (pE (aI n λi=>ag V (x i)))),(32,.arr (pE (aI n λi=>ag u (x i)))),(34,i64 j),(35,.lptr 1 0 0)],[(1,some ⟨42,3,[qC (ag u (x j))]⟩)],2,270⟩) (λ_=>True) ?_ ?_
  ·refine aj (aC (reIS k L G (pE (aI n x)) (pE (aI n λi=>ag V (x i))) (pE (aI n λi=>ag u (x i))) j (ruS k L G u V x (x j))) (λi=>n- i) (λi=>i<=n) 0 (mN _) ?_ ?_)
   rw[reIS.eq_1,ruS];exact s_x [(1,35)] (λhs=>e_7) (λhs=>e_8);intro i d;rw[reIS.eq_1];by_cases hit:i< n;rotate_left;have Y:i=n:=ω
   refine ae (q_z 4 ?_);refine cF (ay ⟨(),trivial,?_⟩);rw[Y,hru];exact s_x [(1,35)] (λhs=>e_7) (λhs=>e_8);have hgi:=M i hit ((i:Nat):Int).toNat ω;have hwi:=hgw i hit ((i:Nat):Int).toNat ω;have hui:=X i hit ((i:Nat):Int).toNat ω;have hat:=Ly k (x j) (x i) (Hx J O (s j hlt) (s i hit));have b0:=hbd i ω;have b1:=(C i hit).2;have b2:=(F i hit).2;have b3:=A8 J (s j hlt) (s i hit);have b4:=cP L (ag V (x i));have b5:=cP (L* ag V (x i)) (atK k (x j) (x i));have b6:=cP (L* ag V (x i) * atK k (x j) (x i)) (ag u (x i));have m1:=cQ L (ag V (x i)) ω;have m2:=cQ (L* ag V (x i)) (atK k (x j) (x i)) ω;have m3:=cQ (L* ag V (x i) * atK k (x j) (x i)) (ag u (x i)) ω;have m4:=eS (ruS k L G u V x (x j) i) (L* ag V (x i) * atK k (x j) (x i) * ag u (x i)) ω;refine ae (q_z 4 ?_);refine cT (an (ae (aj (ae (r_d ba 17 ?_)))));refine a_4 ?_;refine i_x K ?_;refine l_x K ?_;refine a_2 ?_;refine i_x hgi ?_;refine l_x hgi ?_;refine c_s (hat) ?_;refine a_6 ?_;refine aq (n_k ?_);refine ae (s_r 2 ?_);refine a_1 ?_;refine o_0 (.bin rfl rfl (vF cx (rfl))) ?_;refine aq ?_;refine cF (an (r_d ba 17 ?_));refine a_5 ?_;refine i_x hwi ?_;refine l_x hwi ?_;refine c_s (m1) ?_;refine c_s (m2) ?_;refine a_2 ?_;refine i_x hui ?_;refine l_x hui ?_;refine c_s (m3) ?_;refine c_s (m4) ?_;refine a_1 ?_;refine aq (n_k ?_);refine r_m 3 ?_;refine a_z ?_;refine⟨i+1,ω,ω,?_⟩;rw[reIS.eq_1,ruS];exact s_x [(1,35)] (λhs=>e_7) (λhs=>e_8)
  rintro _ _;have H:sm (ag u (x j)):=by have:=(F j hlt).2;unfold sm;omega
  have E:=lD (ag u (x j)) (ag u (x j)) H H;rw[yE] at E;refine ae (r_d ba 7 ?_);refine a_3 ?_;refine i_x y ?_;refine l_x y ?_;refine c_s (E) ?_;refine o_0 (.bin rfl rfl (vF cx (rfl))) ?_;refine aq (n_k ?_);refine cF (an (r_m 3 ?_));refine a_z ?_;refine⟨j+1,ω,ω,?_⟩;rw[reJS.eq_1];exact s_x [] (λhs=>e_7) (λhs=>e_8)
 rintro _ _
 have w:∀(f:Nat->Rat) j,j< n->coP (aI n f) j=f j:=λf j r=>by
  unfold coP;rw[jH,lI _ r];rfl
 have U:=hly
 have hok:OkNo k L G (aI n x) (aI n λi=>ag V (x i)) 40000000:=by
  refine⟨O,dgg,ω,by rw[U];omega,by rw[U];exact fY _ _,λi j d r=>?_,λq z=>?_,λi j d r=>?_,λi d=>?_,?_⟩;rw[U] at d r;rw[w x i d,w x j r,w _ j r];have b1:=(C j r).2;have b3:=A8 J (s i d) (s j r);exact⟨Hx J O (s i d) (s j r),ω⟩;obtain⟨i,d,rfl⟩:=sd.1 z;exact(N i (xd.1 d)).1;rw[U] at d r;unfold noA;rw[w x i d,w x j r,w _ j r];have b1:=(C j r).2;have b3:=A8 J (s i d) (s j r);have b4:=cP (atK k (x i) (x j)) (ag V (x j));omega;rw[U] at d;rw[w x i d];exact fo (N i d).2 δ;rw[U];exact fo (jI W.2) δ
 have R:=E2 k L G (aI n x) (aI n λi=>ag V (x i)) 40000000 hok;unfold noM at R;rw[U] at R;cases hA:gjM (svM (noA k (aI n x) (aI n λi=>ag V (x i))) L (λt=>coP ((aI n x).map (ag G)) t) n) n n with
 |none=>
  rw[if_pos (H1 hA)] at R;have nil3:([]:Lq).length=0:=rfl;refine r_c 9 (R) ?_;refine a_z ?_;refine ae (s_r 2 ?_);refine a_1 ?_;refine o_0 (.bin rfl rfl (vT cx (rfl))) ?_;refine aq ?_;refine cT (s_r 11 ?_);refine a_1 ?_;refine o_0 (.bin rfl rfl (vT cK (rfl))) ?_;refine d_3 ?_;refine bF rfl rfl rfl (.bin rfl rfl (vT cK (rfl))) rfl rfl ?_;refine c_s (hw) ?_;refine a_z ?_;exact ak (t_e (ah _))
 |some A=>
  obtain⟨p1,p2⟩:=H0 hA;rw[if_neg ω,p2,ru_find (a:=a) (b:=b) hru hA] at R;refine r_c 9 (R) ?_;refine a_z ?_;refine ae (s_r 2 ?_);refine a_1 ?_;refine o_0 (.bin rfl rfl (vF cx (rfl))) ?_;refine aq ?_;refine cF (an (ae (s_r 5 ?_)));refine a_4 ?_;refine o_0 (.bin rfl rfl (vF cx (neF rfl))) ?_;refine aq ?_;refine cF (an (ae (r_z 1 ?_)));refine aJ (λ_:Unit=>⟨[],[],1,270⟩) (λ_=>True) ?_ ?_
  ·refine aj (aC (reFS (pE (aI n λi=>ag u (x i)))) (λj=>n- j) (λj=>j<=n) 0 (mN _) ?_ ?_)
   rw[reFS.eq_1];exact s_f [];intro j r;rw[reFS.eq_1];by_cases hlt:j< n;rotate_left;refine ae (q_z 4 ?_);refine cF (ay ⟨(),trivial,?_⟩);exact s_e [];have y:=X j hlt ((j:Nat):Int).toNat ω;have H:sm (ag u (x j)):=by have:=(F j hlt).2;unfold sm;omega
   have E:=lD (ag u (x j)) (ag u (x j)) H H;rw[yE] at E;refine ae (q_z 4 ?_);refine cT (an (ae (aj (ae (r_d ba 10 ?_)))));refine a_2 ?_;refine i_x y ?_;refine l_x y ?_;refine a_2 ?_;refine i_x y ?_;refine l_x y ?_;refine c_s (E) ?_;refine o_0 (.bin rfl rfl (vF cx (rfl))) ?_;refine aq (n_k ?_);refine cF (an (r_m 3 ?_));refine a_z ?_;refine⟨j+1,ω,ω,?_⟩;rw[reFS.eq_1];exact s_f []
  rintro _ _;refine r_c 2 (hw) ?_;refine a_z ?_;exact ak (t_e (ah _))
end Go.Proofs.YtjmkjicckobojaaGreatDoor
namespace Go.Proofs.YtjmkjicckobojaaGreatDoor
open Go.Abs Go.Deep Go.RowKit Go.WideShapes
set_option maxRecDepth 20000
theorem tyi8:(Tryz.prog).underlying 88=some (.int .i8):=by kernel_rfl
theorem IV{n:Int}(h:(Lit.int .i8 n).wf=true): -128<=n/\n<=127:=by
 simp[Lit.wf,IntKind.min,IntKind.max,IntKind.signed,IntKind.bits] at h;omega
theorem i8P_of{H:Type}{enc:TypeId×Value->H}{W:World}{base:Nat}{v:Value}{d:DataW H}{ps:List MemPlace}(hv:Value.okWide Tryz.prog W .any base 88 v)(h:DataW.Trod enc Tryz.prog W 0 (λ_=>true) true 88 v d ps):
    ∃r:Int,(-128<=r/\r<=127)/\RV (λ_=>False) (λ_=>none) W (.v (.int .i8 r)) v:=by
 obtain⟨n,rfl⟩:∃n,v= .int .i8 n:=by
  unfold Value.okWide at hv;rw[tyi8] at hv;cases v with
  |int k n=>obtain⟨rfl,_⟩:=hv;exact⟨n,rfl⟩
  |_=>exact False.elim hv
 obtain⟨a,b⟩:=h;obtain⟨f,e0,_,c⟩:=DataW.trod_int tyi8 b;have e:n=f:=by simpa[Value.cells] using e0
 subst e;exact⟨n,IV c,rfl⟩
end Go.Proofs.YtjmkjicckobojaaGreatDoor
namespace Go.Proofs.YtjmkjicckobojaaGreatDoor
open Go.Abs Go.Deep Go.RowKit
set_option maxRecDepth 20000
theorem rvlen{W:World}{l:List fO}{v:Value}(h:RV (λ_=>False) (λ_=>none) W (.arr (nR l)) v):l.length<=9223372036854775807:=by
 obtain⟨_,_,_,b,a,_⟩:=h;have d:(nR l).length=l.length:=by simp[nR]
 have c:maxLen=9223372036854775807:=δ
 omega
theorem tySt:(Tryz.prog).underlying 22=some (.slice 115):=by kernel_rfl
def twF:Array Field:= #[{name:= "A",type:=34,offset:=0,embedded:=false,tag:= "",pkgPath:= "",byteOffset:=0},{name:= "B",type:=34,offset:=1,embedded:=false,tag:= "",pkgPath:= "",byteOffset:=24}]
theorem tyTw:(Tryz.prog).underlying 115=some (.struct twF):=by kernel_rfl
theorem tycTw:(Tryz.prog).cellsOf 115=2:=by kernel_rfl
theorem tycS2:(Tryz.prog).cellsOf 34=1:=by kernel_rfl
theorem two_of{H:Type}{enc:TypeId×Value->H}{W:World}{n:Nat}{cs:List Value}{x:DataW H×List MemPlace}(h:DataW.trod enc Tryz.prog W 0 (λ_=>true) true n 115 cs=some x):
    ∃(t:iu) (c0 c1:Value),zO t/\cs=[c0,c1]/\RV (λ_=>False) (λ_=>none) W (.arr (nR t.1)) c0/\RV (λ_=>False) (λ_=>none) W (.arr (nR t.2)) c1:=by
 obtain⟨C,m,_,_,w,g,v⟩:=DataW.trod_struct tyTw h;rw[tycTw] at w
 match cs,w,C,g with
 |[c0,c1],_,[y0,y1],_=>
  have i:DataW.trod enc Tryz.prog W 0 (λ_=>true) true m 34 (([c0,c1].drop 0).take ((Tryz.prog).cellsOf 34))=some y0:=v 0 _ rfl;have j:DataW.trod enc Tryz.prog W 0 (λ_=>true) true m 34 (([c0,c1].drop 1).take ((Tryz.prog).cellsOf 34))=some y1:=v 1 _ rfl;rw[tycS2] at i j;simp only[List.drop,List.take] at i j
  have k:∃a len b,c0= .slice a len b:=by
   rcases open_slice tyS i with⟨c,_⟩|⟨a,len,b,_,_,_,_,c,_⟩
   simp at c;exact⟨_,_,_,c⟩;simp at c;exact⟨_,_,_,c⟩
  have q:∃a len b,c1= .slice a len b:=by
   rcases open_slice tyS j with⟨c,_⟩|⟨a,len,b,_,_,_,_,c,_⟩
   simp at c;exact⟨_,_,_,c⟩;simp at c;exact⟨_,_,_,c⟩
  obtain⟨a,len,b,rfl⟩:=k;obtain⟨z,f,d,rfl⟩:=q;have r:DataW.Trod enc Tryz.prog W 0 (λ_=>true) true 34 (.slice a len b) y0.1 y0.2:=⟨m,by simpa[Value.cells] using i⟩;have o:DataW.Trod enc Tryz.prog W 0 (λ_=>true) true 34 (.slice z f d) y1.1 y1.2:=⟨m,by simpa[Value.cells] using j⟩;obtain⟨m0,l,r0⟩:=zj r;obtain⟨m1,p,u⟩:=zj o;have D:maxLen=9223372036854775807:=δ
  have A:m0.length<=9223372036854775807:=by
   obtain⟨_,_,B,s,e,_⟩:=r0;have:(nR m0).length=m0.length:=by simp[nR]
   omega
  have y:m1.length<=9223372036854775807:=by
   obtain⟨_,_,B,s,e,_⟩:=u;have:(nR m1).length=m1.length:=by simp[nR]
   omega
  exact⟨(m0,m1),_,_,⟨⟨l,p⟩,A,y⟩,rfl,r0,u⟩
theorem twP_of{H:Type}{enc:TypeId×Value->H}{W:World}{a:Option Addr}{len cap:Nat}{d:DataW H}{ps:List MemPlace}(h:DataW.Trod enc Tryz.prog W 0 (λ_=>true) true 22 (.slice a len cap) d ps):
    ∃l:List iu,((∀t∈l,zO t)/\l.length<=9223372036854775807)/\RV (λ_=>False) (λ_=>none) W (.arr (twR l)) (.slice a len cap):=by
 obtain⟨O,V⟩:=h;rcases open_slice tySt V with⟨o,_⟩|⟨x,N,L,m,n,D,Pl,o,_,Y,hm,u,_,G⟩
 simp[Value.cells] at o;obtain⟨rfl,rfl,rfl⟩:=o;exact⟨[],⟨(λr F=>by cases F),ψ⟩,none,0,rfl,ir _,δ,.inl rfl⟩;simp[Value.cells] at o;obtain⟨rfl,rfl,rfl⟩:=o;simp only[if_true] at u;have E:m=cap:=u;rw[E] at G;rw[tycTw] at G
 have B:∀i,i< len->∃r:iu×Value×Value,zO r.1/\W.cells? 0 (x.add (i* 2)) 2=some [r.2.1,r.2.2]/\RV (λ_=>False) (λ_=>none) W (.arr (nR r.1.1)) r.2.1/\RV (λ_=>False) (λ_=>none) W (.arr (nR r.1.2)) r.2.2:=λi z=>by
  obtain⟨Z,X,S⟩:=G i ω;obtain⟨t,A,U,Q,e,J,C⟩:=two_of S;exact⟨(t,A,U),Q,by rw[X,e],J,C⟩
 obtain⟨R,K⟩:=choose_lt (α:=iu×Value×Value) B;have T:maxLen=9223372036854775807:=δ
 refine⟨(List.range len).map λi=>(R i).1,⟨?_,χ⟩,some x,cap,by simp[twR],by simpa[twR] using Y,hm,?_⟩;intro r F;obtain⟨i,z,rfl⟩:=sd.1 F;exact(K i (xd.1 z)).1;by_cases h0:len=0;subst h0;exact .inl rfl;right
 have c:∀i,i< len->∀j (v:Value),[(R i).2.1,(R i).2.2][j]?=some v->W.cell? (x.add (i* 2+j))=some v:=λi z j v hv=>by
  have hj:j< 2:=by
   have:=(jY.1 hv).1;simpa using this
  have:=(World.cells?_some (K i z).2.1).2.2 j hj;rw[hv,Go.Deep.add_add] at this;exact this
 have A:=c 0 ω 0 _ rfl;obtain⟨b,off,y⟩:=x;have q:y=none:=by simpa[Addr.add] using World.cell?_spot A
 subst q
 have g:∀k,Addr.add ⟨b,off,none⟩ k=⟨b,off+k,none⟩:=λk=>by
  unfold Addr.add;by_cases hk:k=0;simp[hk];simp[hk]
 refine⟨b,off,2,rfl,qe (by rw[g] at A;exact A),(λh=>h),?_⟩;have:=Fc (M:=λ_=>False) (β:=λ_=>none) (w:=W) (b:=b) (s:=2) (off:=off) (f:=λi=>twC (R i).1) len 0 (λi z=>⟨rfl,?_⟩);rw[JR,M6,<-NC] at this;rw[twR,Oz];exact this;have p:i< len:=ω
 obtain⟨_,_,J,C⟩:=K i p;refine⟨⟨_,?_,J⟩,⟨_,?_,C⟩,trivial⟩;have:=c i p 0 _ rfl;rw[g] at this;exact this;have:=c i p 1 _ rfl;rw[g] at this;rw[JQ];exact this
end Go.Proofs.YtjmkjicckobojaaGreatDoor
namespace Go.Proofs.YtjmkjicckobojaaGreatDoor
open Go
def mkF(P:Program)(fn:Func)(c:OpenClaim):Bool:=(P.make==some c.make) && (c.kinds==(if c.domain.isEmpty then [] else fn.params.toList.map λt=>match P.underlying t with|some (.int k)=>some k|_=>none)) && (c.pinned==c.pinnedBy)
section
variable {P:Program}{f:FuncId}{fn:Func}{s:ChangeSpec}{c:OpenClaim}
theorem H3 (h1:c.wf (OpenSpec.ofChange s)=true) (h2:laidOutB P=true) (h3:mapsRowed P=true)
    (h4:fn.params.all (P.readableRec ·)=true) (h5:namedTie P c.named s.vars=true)
    (h6:((c.stops==[]) && (P.stops==[]) && (c.knobs==[]) && (P.stopKnobs==[]))=true)
    (h7:(c.inPlace==P.inPlace f)=true) (h8:(c.unfollowed==P.unfollowed f)=true) (h9:(c.recurses==P.recurses f)=true) (h10:(c.named==P.varsNamed f)=true)
    (h11:((c.maps==(fn.params.toList++s.plain.varTypes P).any (P.mapsRec ·)) && (c.ifaces==(fn.params.toList++s.plain.varTypes P).any (P.ifacesRec ·)) && (c.mapsOut==P.mapsAmong fn.resultTypes.toList))=true)
    (h12:((c.loops==(fn.params.toList++s.plain.varTypes P).any (P.loopsFrom ·)) && (c.wideKeys==(fn.params.toList++s.plain.varTypes P++fn.resultTypes.toList).any (P.wideKeysFrom ·)))=true)
    (h13:(s.vars.all (P.varReadable ·) && fn.resultTypes.all (λt=>P.readableRec t && decide (t< P.types.size)) && (c.ifacesOut==fn.resultTypes.toList.any (P.ifacesRec ·)) && (c.loopsOut==fn.resultTypes.toList.any (P.loopsFrom ·)) && (c.plainKeys==P.plainKeys) && c.shortTexts.isNone)=true)
    (h14:P.stopsHeard=true) (h15:P.mayEnter=true) (h16:(c.lifted==P.liftsFinal)=true)
    (h17:mkF P fn c=true)
    (h18:((c.veiled==(fn.params.toList++s.plain.varTypes P++fn.resultTypes.toList).any (P.veiledRec ·)) && c.veiledFits P fn.params.toList (fn.params.toList++s.plain.varTypes P++fn.resultTypes.toList))=true):
    joinedFacts P f fn s c=true:=by
 unfold mkF at h17;simp only[sj] at h6 h11 h12 h13 h17 h18;simp only[joinedFacts,sj]
 and_intros
 all_goals first|assumption|exact h6.1.1.1|exact h6.1.1.2|exact h6.1.2|exact h6.2|exact h11.1.1|exact h11.1.2|exact h11.2|exact h12.1|exact h12.2|exact h13.1.1.1.1.1|exact h13.1.1.1.1.2|exact h13.1.1.1.2|exact h13.1.1.2|exact h13.1.2|exact h13.2|exact h17.1.1|exact h17.1.2|exact h17.2|exact h18.1|exact h18.2
end
theorem pR:laidOutB Tryz.prog=true:=by kernel_rfl
theorem all_mr:mapsRowed Tryz.prog=true:=by kernel_rfl
theorem all_sh:Tryz.prog.stopsHeard=true:=by kernel_rfl
theorem all_me:Tryz.prog.mayEnter=true:=by kernel_rfl
theorem all_lk:false=Tryz.prog.looks []:=by kernel_rfl
theorem all_mi:Tryz.prog.mainIs=some (true,("4394ef4dddf2e97571f8d3b8fa8a94fba971999ba5e017bb33ce7550229099e6" :String).toList):=by kernel_rfl
theorem all_lf:Tryz.prog.liftsFinal=Rows.equationKernelsRow.lifted:=by kernel_rfl
theorem tc:Rows.equationRulesRow.wf (OpenSpec.ofChange Rows.equationRulesSpec)=true:=by kernel_rfl
theorem tk:Tryz.f4.params.all (Tryz.prog.readableRec ·)=true:=by kernel_rfl
theorem tn:namedTie Tryz.prog Rows.equationRulesRow.named Rows.equationRulesSpec.vars=true:=by kernel_rfl
theorem tj:((Rows.equationRulesRow.stops==[]) && (Tryz.prog.stops==[]) && (Rows.equationRulesRow.knobs==[]) && (Tryz.prog.stopKnobs==[]))=true:=by kernel_rfl
theorem tA:(Rows.equationRulesRow.inPlace==Tryz.prog.inPlace 4)=true:=by kernel_rfl
theorem th:(Rows.equationRulesRow.unfollowed==Tryz.prog.unfollowed 4)=true:=by kernel_rfl
theorem tl:(Rows.equationRulesRow.recurses==Tryz.prog.recurses 4)=true:=by kernel_rfl
theorem tf:(Rows.equationRulesRow.named==Tryz.prog.varsNamed 4)=true:=by kernel_rfl
theorem tp:((Rows.equationRulesRow.maps==(Tryz.f4.params.toList++Rows.equationRulesSpec.plain.varTypes Tryz.prog).any (Tryz.prog.mapsRec ·)) && (Rows.equationRulesRow.ifaces==(Tryz.f4.params.toList++Rows.equationRulesSpec.plain.varTypes Tryz.prog).any (Tryz.prog.ifacesRec ·)) && (Rows.equationRulesRow.mapsOut==Tryz.prog.mapsAmong Tryz.f4.resultTypes.toList))=true:=by kernel_rfl
theorem tv:((Rows.equationRulesRow.loops==(Tryz.f4.params.toList++Rows.equationRulesSpec.plain.varTypes Tryz.prog).any (Tryz.prog.loopsFrom ·)) && (Rows.equationRulesRow.wideKeys==(Tryz.f4.params.toList++Rows.equationRulesSpec.plain.varTypes Tryz.prog++Tryz.f4.resultTypes.toList).any (Tryz.prog.wideKeysFrom ·)))=true:=by kernel_rfl
theorem td:(Rows.equationRulesSpec.vars.all (Tryz.prog.varReadable ·) && Tryz.f4.resultTypes.all (λt=>Tryz.prog.readableRec t && decide (t< Tryz.prog.types.size)) && (Rows.equationRulesRow.ifacesOut==Tryz.f4.resultTypes.toList.any (Tryz.prog.ifacesRec ·)) && (Rows.equationRulesRow.loopsOut==Tryz.f4.resultTypes.toList.any (Tryz.prog.loopsFrom ·)) && (Rows.equationRulesRow.plainKeys==Tryz.prog.plainKeys) && Rows.equationRulesRow.shortTexts.isNone)=true:=by kernel_rfl
theorem tg:((Rows.equationRulesRow.veiled==(Tryz.f4.params.toList++Rows.equationRulesSpec.plain.varTypes Tryz.prog++Tryz.f4.resultTypes.toList).any (Tryz.prog.veiledRec ·)) && Rows.equationRulesRow.veiledFits Tryz.prog Tryz.f4.params.toList (Tryz.f4.params.toList++Rows.equationRulesSpec.plain.varTypes Tryz.prog++Tryz.f4.resultTypes.toList))=true:=by kernel_rfl
theorem s9:Rows.equationRulesRow.wfByText (OpenSpec.ofChange Rows.equationRulesSpec)=true:=by kernel_rfl
theorem tC:false=Rows.equationRulesRow.goesBy Tryz.prog:=by kernel_rfl
theorem equationRules_fn:Tryz.prog.funcNamed Rows.equationRulesRow.func=some 4:=by kernel_rfl
theorem tz:decide (Tryz.f4.isInstance Tryz.prog Rows.equationRulesRow.origin Rows.equationRulesRow.targs)=true:=by kernel_rfl
theorem ta:(Tryz.f4.params.toList.all λu=>!Tryz.prog.wantsStandIn u)=true:=by kernel_rfl
theorem tu:mkF Tryz.prog Tryz.f4 Rows.equationRulesRow=true:=by kernel_rfl
theorem tw:(Rows.equationRulesRow.lifted==Tryz.prog.liftsFinal)=true:=by rw[all_lf];kernel_rfl
theorem n6:joinedFacts Tryz.prog 4 Tryz.f4 Rows.equationRulesSpec Rows.equationRulesRow=true:=
 H3 tc pR all_mr tk tn tj tA th tl tf tp tv td all_sh all_me tw tu tg
theorem pH:Tryz.f4.isWrapper Tryz.prog Rows.equationRulesRow.wrapper Rows.equationRulesRow.mainSum:=by
 unfold Func.isWrapper;first|(rw[if_pos (by decide+kernel)];kernel_rfl)|(rw[if_neg (by decide+kernel)];exact⟨rfl,rfl⟩)
end Go.Proofs.YtjmkjicckobojaaGreatDoor
namespace Go.Proofs.YtjmkjicckobojaaGreatDoor
open Go.Abs Go.RowKit
theorem tab_glb:(Tryz.prog).globalNamed "internal/strconv.uint64pow10" =some GT:=by kernel_rfl
theorem tab_of{n1 n2:String}{a b:DataW Unit}{W:World}(h:laidMet Tryz.prog [(n1,a),(n2,b),("internal/strconv.uint64pow10",Lib.tabData .u64 Lib.pow10Tab)] W):TabW W:=by
 obtain⟨ps,⟨x,t1,v,u1,p1,q1,_,_,_,_,⟨u,t2,w,u2,p2,q2,_,_,_,_,⟨g,t,cs,i,p,q,l,k,hv,j,_,_⟩,_⟩,_⟩,_,_⟩:=h;obtain rfl:=Option.some.inj (tab_glb.symm.trans l);have m:((Tryz.prog).globals[GT]?).map (·.type)=some 355:=by kernel_rfl
 have n:(Tryz.prog).underlying 355=some (.array 20 246):=by kernel_rfl
 have r:(Tryz.prog).underlying 246=some (.int .u64):=by kernel_rfl
 have f:(Tryz.prog).cellsOf 246=1:=by kernel_rfl
 have e:(Tryz.prog).cellsOf 355=20:=by kernel_rfl
 obtain rfl:=Option.some.inj (m.symm.trans k);have s:=Lib.cells_of_tab (zs:=Lib.pow10Tab) n r f e j;unfold World.var? at hv;rw[tab_glb] at hv;have d:(match W.heap[GT]? with|some (.cells cs _ _)=>some cs|_=>none)=some cs:=hv;cases hh:W.heap[GT]? with
 |none=>rw[hh] at d;cases d
 |some o=>
  rw[hh] at d;cases o with
  |cells a b c=>
   obtain rfl:a=cs:=Option.some.inj d;refine⟨b,c,?_⟩;rw[hh]
   have:a=tabA:=by
    unfold tabA;rw[<-s]
   rw[this]
  |_=>cases d
end Go.Proofs.YtjmkjicckobojaaGreatDoor
namespace Go.Proofs.YtjmkjicckobojaaGreatDoor
open Go.Abs Go.ChangeAt Go.ChangeShapes Go.RowKit Go.WideShapes
theorem own:ownKnob Tryz.prog.godebug=none:=by kernel_rfl
theorem und4:Tryz.prog.underlying 4=some .bool:=by kernel_rfl
abbrev GN:List (String×DataW Unit):=Rows.equationRulesRow.laid
theorem L1(os:Os)(args:Array Value):laidMetH Tryz.prog GN ((World.doorLaid Tryz.prog 24 os).forCall (λ_ _=>0) ⟨#[],args,[]⟩).memory:=
 laidMetH_of_parts3 (fuel:=8) (laidMet_of_run' 8 ξ ξ) ξ ξ
set_option maxRecDepth 100000 in
theorem n5(os:Os)(started:os.Started)(H:Type)(enc:TypeId×Value->H):
    ReturnsInHanded {} Tryz.checked os 4 .any (λw args=>(Rows.equationRulesSpec.pre enc Tryz.prog Tryz.f4 [] false w args/\laidMetH Tryz.prog GN w)/\sizedMet enc Tryz.prog Tryz.f4 (OpenSpec.ofChange Rows.equationRulesSpec) false w args)
     (Rows.equationRulesSpec.post enc Tryz.prog Tryz.f4 false true false false):=by
 refine returnsInHanded_of_change_and (C:=Tryz.checked) (X:=λw _=>laidMetH Tryz.prog GN w) (λ_ _ _ hh h=>h.of_heap hh) own started ξ Tryz.func4
  (ChangeSpec.witness_shaped (enc:=enc) (C:=Tryz.checked) (os:=os) (X:=λw _=>laidMetH Tryz.prog GN w) false (World.doorLaid Tryz.prog 24 os) #[.slice none 0 0,(.agg #[.int .i64 0,.int .i64 0,.int .u8 0,.int .i64 0,.int .i64 0,.int .u8 0]),(.agg #[.int .i64 0,.int .i64 0,.int .u8 0]),.slice none 0 0,(.int .i8 0),(.int .u8 0)] 8 rfl (World.shaped_of_RefB ξ ξ) ξ ξ ξ (L1 os _)) ?_
 intro W k args ds gs o d V _ _ R _;have a:∀(j:Nat) t v,Tryz.f4.params[j]?=some t->args[j]?=some v->Value.okWide Tryz.prog W .any k t v:=d;have J:=V;obtain⟨p,q,i,hV,rfl,hfz,hnd⟩:=V;have U:DataW.TrodAll enc Tryz.prog W 0 (λ_=>true) true Tryz.f4.params.toList args.toList ds p:=i;rw[Tryz.params4] at U a;obtain⟨S,vs0,d0,ds0,p0,q0,B,rfl,rfl,L,r0⟩:=trodAll_cons U;obtain⟨v1,vs1,d1,ds1,p1,q1,rfl,rfl,rfl,M,r1⟩:=trodAll_cons r0;obtain⟨v2,vs2,d2,ds2,p2,q2,rfl,rfl,rfl,F,r2⟩:=trodAll_cons r1;obtain⟨T,vs3,d3,ds3,p3,q3,rfl,rfl,rfl,s,r3⟩:=trodAll_cons r2;obtain⟨D,vs4,d4,ds4,p4,q4,rfl,rfl,rfl,G,r4⟩:=trodAll_cons r3;obtain⟨Q,vs5,d5,ds5,p5,q5,rfl,rfl,rfl,A,r5⟩:=trodAll_cons r4;obtain⟨rfl,rfl,rfl⟩:=trodAll_nil r5;obtain rfl:args= #[S,v1,v2,T,D,Q]:=by cases args;simp_all
 obtain⟨rfl,rfl⟩:=trodVars_none hV;obtain⟨a0,n,g,rfl⟩:=okWide_slice tySt (a 0 22 S rfl rfl);obtain⟨a3,l,f,rfl⟩:=okWide_slice tyS (a 3 34 T rfl rfl);have r:∀x∈p0,x.block< W.heap.size:=by obtain⟨m,c⟩:=L;exact DataW.trod_lt m _ _ _ c
 have z:∀x∈p1,x.block< W.heap.size:=by obtain⟨m,c⟩:=M;exact DataW.trod_lt m _ _ _ c
 have N:∀x∈p2,x.block< W.heap.size:=by obtain⟨m,c⟩:=F;exact DataW.trod_lt m _ _ _ c
 have E:∀x∈p3,x.block< W.heap.size:=by obtain⟨m,c⟩:=s;exact DataW.trod_lt m _ _ _ c
 have K:∀x∈p4,x.block< W.heap.size:=by obtain⟨m,c⟩:=G;exact DataW.trod_lt m _ _ _ c
 have u:∀x∈p5,x.block< W.heap.size:=by obtain⟨m,c⟩:=A;exact DataW.trod_lt m _ _ _ c
 obtain⟨l0,Y,g0⟩:=twP_of L;obtain⟨l1,o1,g1⟩:=gapP_of (a 1 26 v1 rfl rfl) M;obtain⟨l2,o2,g2⟩:=numP_of (a 2 24 v2 rfl rfl) F;obtain⟨l3,o3,Z⟩:=zj s;obtain⟨l4,o4,g4⟩:=i8P_of (a 4 88 D rfl rfl) G;obtain⟨l5,o5,g5⟩:=u8P_of (a 5 5 Q rfl rfl) A;clear i d;refine((sS l0 l1 l2 l3 l4 l5 Y.1 Y.2 o1 o2 o3 (rvlen Z) o4 o5).calls (λ_=>False) W [.slice a0 n g,v1,v2,.slice a3 l f,D,Q] ⟨λ_ h=>h.elim,λh=>h,tab_of (by rw[MakeChecks.laidMetH_plain _ _ _ ξ] at R;exact R)⟩ ⟨_,_,rfl,g0,⟨_,_,rfl,g1,⟨_,_,rfl,g2,⟨_,_,rfl,Z,⟨_,_,rfl,g4,⟨_,_,rfl,g5,rfl⟩⟩⟩⟩⟩⟩).mono λe W' ⟨y,he,hy,b⟩=>?_;have O:y= .bool true:=hy;subst he;subst O;exact⟨_,rfl,_,_,_,[],_,[],J,trodAll_mk1 (shut_bool und4 _),(trodAll_cons_mk (Below.trod pR ξ (of_decide_eq_true ξ) L b r) (trodAll_cons_mk (Below.trod pR ξ (of_decide_eq_true ξ) M b z) (trodAll_cons_mk (Below.trod pR ξ (of_decide_eq_true ξ) F b N) (trodAll_cons_mk (Below.trod pR ξ (of_decide_eq_true ξ) s b E) (trodAll_cons_mk (Below.trod pR ξ (of_decide_eq_true ξ) G b K) (trodAll_cons_mk (Below.trod pR ξ (of_decide_eq_true ξ) A b u) trodAll_mk0)))))),rfl,b.frame _,λh=>by cases h⟩
theorem rA:Rows.EquationRulesSaid:=
 OpenClaim.holds_of_wide 4 Tryz.f4 rfl rfl rfl rfl rfl rfl rfl ⟨rfl,rfl,rfl,rfl,rfl⟩ rfl rfl rfl rfl rfl equationRules_fn Tryz.func4 n6
  (of_decide_eq_true tz) pH
  (λos a H b _=>n5 os a H b)
theorem equationRules_card:Rows.EquationRulesCardSaid:=
 Claim7.holds_tied_plain_at .later [] [.data,.data,.data] true (true, "4394ef4dddf2e97571f8d3b8fa8a94fba971999ba5e017bb33ce7550229099e6") false
  rA (λ_ h=>by cases h) s9 (λ_ h=>by cases h) equationRules_row_tie rfl ⟨rfl,rfl⟩ all_mi rfl
  (λf fn hf hfn=>by
   obtain rfl:f=4:=Option.some.inj (equationRules_fn.symm.trans hf)|>.symm;obtain rfl:fn=Tryz.f4:=(Option.some.inj (Tryz.func4.symm.trans hfn)).symm
   exact⟨all_lk,λj t ht=>by
    have hm:t∈Tryz.f4.params.toList:=by simpa using Array.mem_of_getElem? ht
    exact(show Tryz.prog.wantsStandIn t=false by simpa using pZ.1 ta t hm)⟩)
  tC
#print axioms equationRules_card
end Go.Proofs.YtjmkjicckobojaaGreatDoor
