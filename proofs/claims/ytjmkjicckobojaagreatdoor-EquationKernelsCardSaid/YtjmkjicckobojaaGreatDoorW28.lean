/- Part W28 of the proof. -/
import Derived.Test.YtjmkjicckobojaaGreatDoorW27
set_option linter.all false
namespace Go.Proofs.YtjmkjicckobojaaGreatDoor
open Go.Abs
set_option maxRecDepth 20000
set_option maxHeartbeats 2000000
theorem wm{x y:List RQ}(hx:okX x)(hy:okX y):okX (x++y):=λz a=>(List.mem_append.1 a).elim (hx z) (hy z)
theorem yr(n:Nat):okX (List.replicate n r0):=λz a=>by rw[List.eq_of_mem_replicate a];exact rok_r0
theorem sN(x y:List RQ):vR (x++y)=vR x++vR y:=by simp[vR]
theorem vx(n:Nat):vR (List.replicate n r0)=List.replicate n 0:=by simp[vR,r0]
def zR4:La:=[i64 0,.emp,i64 0,.emp]
theorem le_zR4:LeL zR4 (rC r0):=by
 rw[show rC r0=[i64 0,.arr [],i64 0,.arr []] from rC_r0];exact .cons (.refl _) (.cons .emp (.cons (.refl _) (.cons .emp .nil)))
theorem EX:∀c∈zR4,Closed c:=ae (ak _) (ae dw (ae (ak _) (ae dw af)))
theorem wF(L:List RQ):∀n,LeLL (List.replicate n zR4++rE L) (rE (List.replicate n r0++L))
 |0=>LeLL.refl _
 |n+1=> .cons le_zR4 (wF L n)
theorem A8(n:Nat)(L:List RQ):Closed (.arr (List.replicate n zR4++rE L)):=aK λc hc=>(List.mem_append.1 hc).elim (λh=>by rw[List.eq_of_mem_replicate h];exact EX) (cQ L c)
theorem FSpec.zerosR{P:Program}{f n:Nat}{L:List RQ}{a r:AV}(h:FSpec P f [a,.arr (rE (List.replicate n r0++L))] r)(ha:Closed a):FSpec P f [a,.arr (List.replicate n zR4++rE L)] r:=
 h.weak (.cons (Le.refl _) (.cons (Le.arr (wF L n)) .nil)) (ae ha (ae (A8 n L) af))
theorem Fq(n:Nat):(List.replicate n zR4).all (·.all AV.one)=true:=by
 simp only[List.all_replicate];cases n <;> rfl
theorem wO(x y:List RQ)(s t B:Nat)(hx:okX x)(hy:okX y)(hs:bdL (vR x) s)(ht:bdL (vR y) t)(hs1:1<=s)(hB:∀n,n<=y.length->bdL (mR (vR x) (vR y) n) B)(hlim:s+t+B+64<=1099511627776)(hxl:x.length<=100000)(hyl:y.length<=100000):FS 153 [.arr (rE x),.arr (rE y)] (.arr (rE (rP (aT (vR x) (vR y))))):=by
 obtain⟨m,c⟩:∃m,m=mR (vR x) (vR y):=⟨_,rfl⟩;rw[<-c] at hB;refine f_c Tryz.func153 ?_;refine r_z 1 ?_;refine r_z 1 ?_;refine ac (r_z 1 ?_);refine aC (λ_:Unit=>⟨[(5,.arr (rE (rP (m y.length)))),(0,.arr (rE x)),(1,.arr (rE y))],[],1,25⟩) (λ_=>True) ?_ ?_;refine ah (ay (λj:Nat=>⟨[(6,i64 ((j:Nat):Int)),(5,.arr (rE (rP (m j)))),(0,.arr (rE x)),(1,.arr (rE y))],[],1,25⟩) (λj=>y.length- j) (λj=>j<=y.length) 0 (Nat.zero_le _) ?_ ?_);rw[c];exact s_e [];rintro j A;by_cases hlt:j< y.length
 ·obtain⟨b,hb,f⟩:=kG (x:=y) (i:=j) hlt
  have w:=uk ht hb;have g:=hy b (List.mem_of_getElem? hb);have a:(rE y)[((j:Nat):Int).toNat]?=some (rC b):=fV hb;have u:=jq x b s hx g hs ω ω;have o:=DZ (vR x) (vR y) j;rw[<-c,cb] at o;have k:=dW (vR x) b.1;rw[cb] at k
  have v:bdL (vR (List.replicate j r0++rP (aR (vR x) b.1))) (s+qs b.1):=by
   rw[sN,vx,b5];intro q r;rcases List.mem_append.1 r with h|h
   rw[List.eq_of_mem_replicate h];have:qs 0=1:=δ
   omega;exact xH hs hs1 q h
  have p:=rQ (rP (m j)) (List.replicate j r0++rP (aR (vR x) b.1)) B (s+qs b.1) (dh _) (wm (yr _) (dh _)) (by rw[b5];exact hB j ω) v ω (by rw[b7];omega) (by rw[List.length_append,List.length_replicate,b7];omega)
  have l:fR (vR (rP (m j))) (vR (List.replicate j r0++rP (aR (vR x) b.1)))=m (j+1):=by
   rw[b5,sN,vx,b5,c,mR,<-f];rfl
  rw[l] at p;refine ac (q_z 4 ?_);refine cT (aj (ac (ah ?_)));have z:=FSpec.zerosR p (ca _);refine r_d aX 12 ?_;refine a_6 ?_;refine i_x a ?_;refine l_x a ?_;refine c_s (u) ?_;refine o_2 (.append_l rfl rfl rfl te_78.h rfl rfl rfl rfl rfl d_o (Fq _) (cU _) rfl (.arr (eQ _)) TZ.h rfl TB.h d_o μ) ?_;refine o_1 (.callS1 rfl rfl rfl (.keep (.shut rfl d_n (.nil))) rfl ((FSpec.argE2 z π))) ?_;refine a_1 ?_;refine aq (n_k ?_);refine r_m 3 ?_;refine a_z ?_;refine⟨j+1,ω,hlt,?_⟩;exact s_e []
 have d:j=y.length:=ω
 subst d;refine ac (q_z 4 ?_);refine cF (ax ⟨(),trivial,?_⟩);exact s_e [];rintro _ _;refine r_z 2 ?_;refine ai ?_;have e:m y.length=aT (vR x) (vR y):=by rw[c,<-Ag,cb]
 rw[e];exact t_e (ca _)
def dSt(d:Lq)(s:Lq×List RQ):Lq×List RQ:=
 (fR s.1 (shP ((vR s.2).length- d.length) [aI (vR s.2) / aI d]),rP (dQ (vR s.2) (aT d (shP ((vR s.2).length- d.length) [aI (vR s.2) / aI d]))))
def dRn(d:Lq):Nat->Lq×List RQ->Lq×List RQ
 |0,s=>s
 |n+1,s=>if d.length<=s.2.length then dRn d n (dSt d s) else s
structure DInv (p d:Lq)(t L:Nat)(s:Lq×List RQ):Prop where
 ok:okX s.2
 tr:ap (vR s.2)=vR s.2
 bd:∃b,1<=b/\bdL (vR s.2) b/\bdL s.1 b/\(b+2* t+3) * 2^ s.2.length<=L
 ln:s.2.length<=p.length
 lq:s.1.length<=p.length
 ev:∀x,an p x=an s.1 x* an d x+an (vR s.2) x
theorem DInv.step{p d:Lq}{t L:Nat}{s:Lq×List RQ}(h:DInv p d t L s)(hd:ap d=d)(hd0:d≠[])(hdt:bdL d t)(ht:1<=t)(hl:d.length<=s.2.length):DInv p d t L (dSt d s)/\(dSt d s).2.length< s.2.length:=by
 obtain⟨q,X⟩:=s;obtain⟨ok,tr,⟨b,b1,g,i,hb⟩,ln,lq,ev⟩:=h;simp only at *
 have j:=List.length_pos_iff.2 hd0;have c:=IZ tr hd hd0 (by rw[cb];exact hl);obtain⟨s1,s2,f⟩:=FD g hdt b1 ht hd0 ((vR X).length- d.length);obtain⟨a,ha⟩:∃a,a=aI (vR X) / aI d:=⟨_,rfl⟩;unfold dSt;simp only;rw[cb] at c s2 f⊢;rw[<-ha] at c s1 s2 f⊢;refine⟨⟨dh _,?_,⟨2* b+2* t+3,ω,?_,?_,?_⟩,?_,?_,?_⟩,?_⟩;rw[b5];exact Hg _ _;rw[b5];exact f;have e:bdL [a] (b+t):=λx k=>by rw[List.mem_singleton.1 k];exact s1
 exact lb (xI i (Ls e ω _) b1 ω) ω;simp only[b7];obtain⟨n,l⟩:∃n,X.length=n+1:=⟨X.length- 1,ω⟩;have e:2^ (dQ (vR X) (aT d (shP (X.length- d.length) [a]))).length<=2^ n:=Nat.pow_le_pow_right δ ω;have m:=Nat.mul_le_mul_left (2* b+2* t+3+2* t+3) e
 have o:(b+2* t+3) * 2^ X.length=(2* b+2* t+3+2* t+3) * 2^ n:=by
  rw[l,Nat.pow_succ,show 2* b+2* t+3+2* t+3=(b+2* t+3) * 2 by omega,Nat.mul_assoc,Nat.mul_comm 2 (2^ n)]
 omega;simp only[b7];omega;have e:=jX q (shP (X.length- d.length) [a]);rw[kL] at e;simp at e⊢;omega;intro x;rw[b5,cP,a8,fq,ev x];grind;simp only[b7];exact c
theorem DInv.run{p d:Lq}{t L:Nat}(hd:ap d=d)(hd0:d≠[])(hdt:bdL d t)(ht:1<=t):∀n s,DInv p d t L s->s.2.length<=n->DInv p d t L (dRn d n s)/\(dRn d n s).2.length< d.length
 |0,s,h,hn=>by
  have:=List.length_pos_iff.2 hd0;exact⟨h,by unfold dRn;omega⟩
 |n+1,s,h,hn=>by
  unfold dRn;by_cases hl:d.length<=s.2.length;rw[if_pos hl];obtain⟨a,b⟩:=h.step hd hd0 hdt ht hl;exact DInv.run hd hd0 hdt ht n _ a ω;rw[if_neg hl];exact⟨h,ω⟩
theorem qG{x:List RQ}(h:ap (vR x)=vR x):dR x=x:=by
 unfold dR;rw[h,cb,List.take_length]
theorem tp{x:List RQ}(h:ap (vR x)=vR x)(hx:x≠[]):∃y,x.getLastD (rq 0)=y/\y.1=aI (vR x)/\y∈x:=by
 obtain⟨n,b⟩:∃n,x.length=n+1:=⟨x.length- 1,by have:=List.length_pos_iff.2 hx;omega⟩;obtain⟨y,a,c,d⟩:=Bj (x:=x) (n:=n) (by rw[h,cb];exact b);rw[qG h] at a;refine⟨y,?_,c,d⟩;rw[List.getLastD_eq_getLast?,List.getLast?_eq_getElem?,b,Nat.add_sub_cancel,a];rfl
theorem CvLL.zerosR{r:Ren}{hp hp':Hq}(h:Shr r hp hp')(L:List RQ):∀n,CvLL r hp hp' (List.replicate n zR4++rE L) (rE (List.replicate n r0++L))
 |0=>ba h (cQ L)
 |n+1=>by
  refine CvLL.cons (ys:=rE (List.replicate n r0++L)) ?_ (CvLL.zerosR h L n);show CvL r hp hp' zR4 (rC r0);rw[rC_r0];exact am (ao h (ak _)) (am (Cv.emp _) (am (ao h (ak _)) (am (Cv.emp _) av)))
theorem Cv.shutZ{r:Ren}{hp hp':Hq}{id sz n k:Nat}{cap:Option Nat}{c:Rat}{B:ABlk}(h:Shr r hp hp')(hi:dS hp id=some B)(hi':uj r hp' id)(he:B.es=List.replicate k zR4++[rC (rq c)])(hn:n=k+1):Cv r hp hp' (.lsl id 0 n cap sz) (.arr (rE (List.replicate k r0++[rq c]))):=by
 subst hn;refine Cv.shut h hi hi' (by rw[he];simp) ?_;rw[he,List.drop_zero,List.take_of_length_le ψ];exact CvLL.zerosR h [rq c] k
theorem pP(x y:List RQ)(s t:Nat)(hx:okX x)(hy:okX y)(hs:bdL (vR x) s)(ht:bdL (vR y) t)(hs1:1<=s)(ht1:1<=t)(hy0:nz (vR y))(hlim:(s+2* t+3) * 2^ x.length<=274877906944)(hxl:x.length<=50000)(hyl:y.length<=50000):
    ∃(u:Lq) (v:List RQ),okX v/\ap u=(cu (vR x) (vR y)).1/\ap (vR v)=(cu (vR x) (vR y)).2/\u.length<=x.length/\v.length<=x.length/\FS 70 [.arr (rE x),.arr (rE y)] (.tup [.arr (rE (rP u)),.arr (rE v)]):=by
 obtain⟨d,B⟩:∃d,d=vR (dR y):=⟨_,rfl⟩;have j:d=ap (vR y):=B.trans (j9 y);have o:ap d=d:=by rw[j];exact b6 _
 have m:d≠[]:=by rw[j];exact hy0
 have g:bdL d t:=by rw[j];exact sE ht
 have hdl:d.length=(dR y).length:=by rw[B,cb]
 have hyt:(dR y).length<=y.length:=by rw[eV,<-cb y];exact bh _
 have A:(dR x).length<=x.length:=by rw[eV,<-cb x];exact bh _
 have Q:=nS hy;have J:ap (vR (dR y))=vR (dR y):=by rw[<-B];exact o
 have i0:DInv (vR x) d t 274877906944 ([],dR x):=by
  refine⟨nS hx,by rw[j9];exact b6 _,⟨s,hs1,by rw[j9];exact sE hs,(λ_ h=>by cases h),?_⟩,by rw[cb];exact A,Nat.zero_le _,λz=>by rw[j9,cn,aZ];grind⟩;exact Nat.le_trans (Nat.mul_le_mul_left _ (Nat.pow_le_pow_right δ A)) hlim
 obtain⟨⟨u,v⟩,hr⟩:∃r,r=dRn d x.length ([],dR x):=⟨_,rfl⟩;obtain⟨G,N⟩:=DInv.run o m g ht1 x.length ([],dR x) i0 A;rw[<-hr] at G N;have hu:=KY (p:=vR x) (q:=vR y) (u:=u) (v:=vR v) hy0 (λz=>by rw[G.ev z,j,cn]) (by rw[G.tr,cb,<-j];exact N);refine⟨u,v,G.ok,hu.1,hu.2,by have:=G.lq;rwa[cb] at this,by have:=G.ln;rwa[cb] at this,?_⟩;have U:dR y≠[]:=λe=>m (by rw[B,e];rfl);obtain⟨b,hb,F,T⟩:=tp J U;have hld:aI d≠0:=dd (by rw[o];exact m);rw[<-B] at F;have hbt:qs b.1<=t:=g _ (by rw[B];exact List.mem_map.2 ⟨b,T,rfl⟩);refine f_c Tryz.func70 ?_;refine r_z 2 ?_;refine r_c 6 (fJ x ω) ?_;refine c_s (fJ y ω) ?_;refine a_z ?_;refine r_z 1 ?_;have hlb:=rO (dR y) b ω (by rw[qG J];exact hb);refine ac (aC (λ_:Unit=>⟨[(0,.arr (rE v)),(6,.arr (rE (rP u)))],[],1,40⟩) (λ_=>True) ?_ ?_);refine ah (ay (λs:Lq×List RQ=>⟨[(0,.arr (rE s.2)),(1,.arr (rE (dR y))),(6,.arr (rE (rP s.1)))],[],1,40⟩) (λs=>s.2.length) (λs=>DInv (vR x) d t 274877906944 s/\∃n,s.2.length<=n/\dRn d n s=(u,v)) ([],dR x) ⟨i0,x.length,A,hr.symm⟩ ?_ ?_);exact s_e [];rintro⟨q,X⟩ ⟨hI,n,hn,D⟩;have hI0:=hI;obtain⟨ok,tr,⟨w,w1,Y,wq,hw⟩,ln,lq,ev⟩:=hI;simp only at *
 rw[cb] at ln lq;by_cases hle:(dR y).length<=X.length
 ·have f:=hI0.step o m g ht1 (by simp only;omega)
  have L:X≠[]:=λe=>by
   have:=List.length_pos_iff.2 U;rw[e] at hle;have h0:([]:List RQ).length=0:=rfl;omega
  have W:=List.length_pos_iff.2 L;obtain⟨a,hal,hav,O⟩:=tp tr L;have hao:=ok a O;have hab:qs a.1<=w:=Y _ (List.mem_map.2 ⟨a,O,rfl⟩);have hla:=rO X a ω (by rw[qG tr];exact hal)
  have hwL:2* (w+2* t+3)<=274877906944:=by
   have h1:2^ 1<=2^ X.length:=Nat.pow_le_pow_right δ W;have h2:=Nat.mul_le_mul_left (w+2* t+3) h1;omega
  have R:=o3 a b hao (Q b T) (by rw[F];exact hld) ω;obtain⟨k,hk⟩:∃k,k=X.length- (dR y).length:=⟨_,rfl⟩;obtain⟨c,hc⟩:∃c,c=a.1/ b.1:=⟨_,rfl⟩;rw[<-hc] at R;have K:c=aI (vR X) / aI d:=by rw[hc,hav,F]
  obtain⟨s1,s2,s3⟩:=FD Y g w1 ht1 m k;rw[<-K] at s1 s2 s3;have hcb:bdL [c] (w+t):=λz Z=>by rw[List.mem_singleton.1 Z];exact s1
  have V:vR (List.replicate k r0++[rq c])=shP k [c]:=by rw[sN,vx];rfl
  have M:okX (List.replicate k r0++[rq c]):=wm (yr _) (λz Z=>by rw[List.mem_singleton.1 Z];exact bK _);have H:bdL (vR (List.replicate k r0++[rq c])) (w+t):=by rw[V];exact Ls hcb ω _
  have hTl:(List.replicate k r0++[rq c]).length=k+1:=ψ
  have hA:=rQ (rP q) (List.replicate k r0++[rq c]) w (w+t) (dh _) M (by rw[b5];exact wq) H ω (by rw[b7];omega) ω;rw[b5,V] at hA
  have hM:=wO (dR y) (List.replicate k r0++[rq c]) t (w+t) (t+(w+t)+2) Q M (by rw[<-B];exact g) H ht1 (λi G=>by
   rw[<-B,V];exact lb (wB g ht1 i ω) ω) ω ω ω
  rw[<-B,V] at hM
  have hS:=Kk X (rP (aT d (shP k [c]))) w (2* t+w+2) ok (dh _) Y (by rw[b5];exact s2) ω ω ω (by
   have h9:=DZ d (shP k [c]) (shP k [c]).length;rw[Ag,kL] at h9;simp at h9⊢;omega)
  rw[b5] at hS
  have E:dSt d (q,X)=(fR q (shP k [c]),rP (dQ (vR X) (aT d (shP k [c])))):=by
   unfold dSt;simp only;rw[cb,hdl,<-hk,<-K]
  have C:((X.length:Nat):Int)- ((dR y).length:Nat)=(k:Int):=ω
  refine ac (q_z 5 ?_);refine cT (aj (ah (ac (r_d aX 14 ?_))));refine a_5 ?_;refine o_1 (.makeSlice (l:=k) (c:=k) (by rw[<-C];rfl) (by rw[<-C];rfl) te_78.h TZ.h rfl TB.h ζ ζ ι) ?_;refine c_s (hla) ?_;refine c_s (hlb) ?_;refine c_s (R) ?_;refine a_1 ?_;refine o_2 (.append_l rfl rfl rfl te_78.h rfl rfl rfl rfl rfl d_o (Fq _) rfl rfl (.lsl rfl (nle rfl)) TZ.h rfl TB.h d_o μ) ?_;refine a_1 ?_;refine aq (n_k ?_);refine AWp.ent (st':=⟨[(0,.arr (rE X)),(1,.arr (rE (dR y))),(6,.arr (rE (rP q))),(7,.arr (rE (List.replicate k r0++[rq c])))],[],1,40⟩) ?_ ?_;refine s_x [] (λhs=>?_) (λhs=>?_)
  ·repeat' (first|exact aL|refine az rfl ?_ ?_|exact Cv.shutZ hs rfl (aG rfl) rfl rfl|exact aW)
  ·repeat' (first|exact aB|refine h_c ?_ ?_|exact bG|refine aA ?_|exact av|refine am ?_ ?_|exact Cv.shutZ hs rfl (aG rfl) rfl rfl|exact aW)
  refine r_c 4 (hA) ?_;refine a_z ?_;refine r_m 6 ?_;refine c_s (hM) ?_;refine c_s (hS) ?_;refine a_z ?_;refine⟨dSt d (q,X),f.2,⟨f.1,?_⟩,?_⟩;cases n with
  |zero=>omega
  |succ n=>
   refine⟨n,by have:=f.2;simp only at this;omega,?_⟩;rw[dRn,if_pos (by simp only;omega)] at D;exact D
  rw[E];exact s_e []
 have S:(q,X)=(u,v):=by
  rw[<-D];cases n with
  |zero=>rfl
  |succ n=>rw[dRn,if_neg (by simp only;omega)]
 cases S;refine ac (q_z 5 ?_);refine cF (ax ⟨(),trivial,?_⟩);exact s_e [];rintro _ _;refine r_z 4 ?_;refine ai (Fin.many ⟨_,_,rfl,rfl,⟨_,_,rfl,rfl,rfl⟩⟩ (nle rfl) ?_);exact am (ao aF (ca _)) (am (ao aF (ca _)) av)
theorem tC(x:List RQ)(L:Nat)(hx:okX x)(hs:bdL (vR x) L)(hL:1<=L)(hlim:2* L+64<=1099511627776)(hl:x.length<=1000000):FS 73 [.arr (rE x)] (.arr (rE (rP (ce (vR x))))):=by
 have a:FS 59 [i64 1] (.agg (rC (rq 1))):=ek 1 δ;refine f_c Tryz.func73 ?_;refine r_z 1 ?_;refine ac (r_c 3 (gd x ω) ?_);refine a_z ?_;refine ar rfl (λb=>?_) (λb=>?_);have e:ap (vR x)=[]:=degP_neg.1 (by simpa using b);have d:ce (vR x)=[]:=by unfold ce;rw[if_pos e]
 refine r_z 1 ?_;refine ai ?_;rw[d];exact Fin.tmpN rfl;have c:nz (vR x):=λe=>by have:=degP_neg.2 e;simp at b;omega
 obtain⟨n,i⟩:∃n,(ap (vR x)).length=n+1:=⟨(ap (vR x)).length- 1,by have:=List.length_pos_iff.2 c;omega⟩;obtain⟨y,j,h,l⟩:=Bj i;have m:y∈x:=l;have k:rok y:=hx y m;have r:qs y.1<=L:=by rw[h];exact rp hs hL
 have p:y.1≠0:=by rw[h];exact dd c
 have o:(dR x).getLastD (rq 0)=y:=by
  rw[List.getLastD_eq_getLast?,List.getLast?_eq_getElem?,eV,i,Nat.add_sub_cancel,j];rfl
 have f:=o3 (rq 1) y (bK 1) k p (by have:qs ((rq 1).1)=1:=ta;omega)
 have q:qs (1/ y.1)<=1+L:=Nat.le_trans (fL _ _) (by have:=ta;omega);have g:=jq x (rq (1/ y.1)) L hx (bK _) hs (by show L+qs (1/ y.1)<=_;omega) hl;have d:ce (vR x)=aR (vR x) (1/ y.1):=by unfold ce;rw[if_neg c,h]
 refine aj (r_c 7 (a) ?_);refine c_s (rO x y hl o) ?_;refine c_s (f) ?_;refine c_s (g) ?_;refine a_z ?_;refine ai ?_;rw[d];exact t_e (ca _)
def gR:List RQ×List RQ->AState
 |(x,y)=>⟨[(0,.arr (rE x)),(1,.arr (rE y))],[],1,21⟩
theorem Ka(x:List RQ)(y:List RQ):gR (x,y)=⟨[(0,.arr (rE x)),(1,.arr (rE y))],[],1,21⟩:=rfl
theorem fs_rGcd(f B:Nat)(x y:List RQ)(g:Lq)(hx:okX x)(hy:okX y)(hz:gsz f (vR x) (vR y) B)(hg:ld f (vR x) (vR y)=some g)(hB:1<=B)(hlim:(3* B+3) * 256<=274877906944)(hxl:x.length<=8)(hyl:y.length<=8):
    FS 71 [.arr (rE x),.arr (rE y)] (.arr (rE (rP g))):=by
 refine f_c Tryz.func71 ?_;refine r_z 1 ?_;refine ac (aC (λp:List RQ=>⟨[(0,.arr (rE p))],[],1,21⟩) (λp=>okX p/\bdL (vR p) B/\p.length<=8/\ce (vR p)=g) ?_ ?_);refine ah (ay (λs:Nat×List RQ×List RQ=>gR (s.2.1,s.2.2)) (λs=>s.1) (λs=>okX s.2.1/\okX s.2.2/\gsz s.1 (vR s.2.1) (vR s.2.2) B/\ld s.1 (vR s.2.1) (vR s.2.2)=some g/\s.2.1.length<=8/\s.2.2.length<=8) (f,x,y) ⟨hx,hy,hz,hg,hxl,hyl⟩ ?_ ?_);simp only[Ka];exact s_e [];rintro⟨f,x,y⟩ ⟨hx,hy,hz,hg,hxl,hyl⟩;simp only at hx hy hz hg hxl hyl;simp only[Ka];cases f with
 |zero=>cases hg
 |succ f=>
  rw[ld] at hg;obtain⟨b,hz⟩:=hz;refine ac (r_c 3 (gd y ω) ?_);refine a_z ?_;refine ar rfl (λd=>?_) (λd=>?_)
  ·have c:nz (vR y):=λe=>by have:=degP_neg.2 e;simp at d;omega
   obtain⟨h,hz⟩:=hz c;rw[if_neg c] at hg;split at hg
   case isFalse=>cases hg
   case isTrue hok=>
   have j:(B+2* B+3) * 2^ x.length<=274877906944:=Nat.le_trans (Nat.mul_le_mul (show B+2* B+3<=3* B+3 by omega) (Nat.pow_le_pow_right δ hxl)) hlim;obtain⟨u,v,r,v1,v2,v3,v4,l⟩:=pP x y B B hx hy b h hB hB c j ω ω
   have k:bdL (vR v) 274877906944:=by
    refine fP λi=>?_;rw[<-cj,v2]
    have:=(sf (L:=274877906944) b h hB hB c (Nat.le_trans (Nat.mul_le_mul (Nat.pow_le_pow_right δ (show _<=8 by
     have d:=bh (vR x);have z:=List.length_pos_iff.2 c;rw[cb] at d;omega)) (show B+2* B+1<=3* B+3 by omega)) (by rw[Nat.mul_comm];exact hlim))).2
    exact ej this δ i
   have a:=tC v 274877906944 r k δ δ ω;rw[<-uy,v2] at a;have t:=mQ (cu (vR x) (vR y)).2
   have w:(cu (vR x) (vR y)).2.length<=8:=by
    have:=(oq (p:=vR x) (q:=vR y)).2;rw[cb] at this;omega
   refine aj (ah (r_c 8 (l) ?_));refine a_z ?_;refine r_m 5 ?_;refine c_s (a) ?_;refine a_z ?_;refine⟨(f,y,rP (ce (cu (vR x) (vR y)).2)),Nat.lt_succ_self f,⟨hy,dh _,by rw[b5];exact hz,by rw[b5];exact hg,hyl,by rw[b7];omega⟩,?_⟩;simp only[Ka];exact s_e []
  ·have c:ap (vR y)=[]:=degP_neg.1 (by simpa using d)
   rw[if_pos c] at hg;split at hg
   case isFalse=>cases hg
   case isTrue=>
   cases hg;refine ax ⟨x,⟨hx,b,hxl,rfl⟩,?_⟩;exact s_e []
 rintro p ⟨n,o,pl,m⟩;have a:=tC p B n o hB ω ω;rw[m] at a;refine r_c 3 (a) ?_;refine a_z ?_;exact ai (t_e (ca _))
theorem oc(f B:Nat)(x:List RQ)(s:Lq)(hx:okX x)(hs:lT f (vR x)=some s)(hz:gsz f (vR x) (aV (vR x)) B)(hB:1<=B)(hlim:(3* B+3) * 256<=274877906944)(hgB:∀g,ld f (vR x) (aV (vR x))=some g->bdL g B/\g.length<=1000)(hxl:x.length<=8):
    FS 24 [.arr (rE x)] (.arr (rE (rP s))):=by
 unfold lT at hs;split at hs
 case isFalse=>cases hs
 case isTrue hsm=>
 cases hg:ld f (vR x) (aV (vR x)) with
 |none=>rw[hg] at hs;cases hs
 |some g=>
  rw[hg,Option.bind_some] at hs;split at hs
  case isFalse=>cases hs
  case isTrue hok=>
  cases hs;have k:=iz (vR x);rw[cb] at k
  have a:bdL (vR x) B:=by
   cases f with
   |zero=>cases hg
   |succ f=>exact hz.1
  obtain⟨b,n⟩:=hgB g hg;have d:=wP x B hx a ω ω;have l:=fs_rGcd f B x (rP (aV (vR x))) g hx (dh _) (by rw[b5];exact hz) (by rw[b5];exact hg) hB hlim hxl (by rw[b7];omega);have e:(B+2* B+3) * 2^ x.length<=274877906944:=Nat.le_trans (Nat.mul_le_mul (show B+2* B+3<=3* B+3 by omega) (Nat.pow_le_pow_right δ hxl)) hlim;obtain⟨u,v,p,v1,v2,v3,v4,j⟩:=pP x (rP g) B B hx (dh _) a (by rw[b5];exact b) hB hB (by rw[b5];exact hok.1) e ω (by rw[b7];omega);rw[b5] at v1 v2
  have h:bdL u 274877906944:=by
   refine fP λi=>?_;rw[<-cj,v1]
   have:=(sf (L:=274877906944) a b hB hB hok.1 (Nat.le_trans (Nat.mul_le_mul (Nat.pow_le_pow_right δ (show _<=8 by
    have m:=bh (vR x);have o:=List.length_pos_iff.2 hok.1;rw[cb] at m;omega)) (show B+2* B+1<=3* B+3 by omega)) (by rw[Nat.mul_comm];exact hlim))).1
   exact ej this δ i
  have c:=tC (rP u) 274877906944 (dh _) (by rw[b5];exact h) δ δ (by rw[b7];omega);rw[b5,<-uy,v1] at c;refine f_c Tryz.func24 ?_;refine r_z 1 ?_;refine r_c 11 (d) ?_;refine c_s (l) ?_;refine c_s (j) ?_;refine a_z ?_;refine r_c 3 (c) ?_;refine a_z ?_;exact ai (t_e (ca _))
theorem Jl{l:Lq}{i:Nat}(h:i< l.length):(rE (rP l))[((i:Nat):Int).toNat]?=some (rC (rq (coP l i))):=
 fV (show(rP l)[i]?=some (rq (coP l i)) by rw[rP,List.getElem?_map,ci h];rfl)
def kR(X:List RQ):Nat×Nat->AState
 |(i,k)=>⟨[(0,.arr (rE X)),(3,.lptr 1 0 0),(4,i64 i)],[(1,some ⟨45,2,[zZ (k:Int)]⟩)],2,48⟩
def nR2(l:Lq):Nat×Nat->AState
 |(i,g)=>⟨[(0,.arr (rE (rP l))),(5,.lptr 1 0 0),(6,i64 i)],[(1,some ⟨45,2,[zZ (g:Int)]⟩)],2,48⟩
theorem lO(x:List RQ)(s:Nat)(hx:okX x)(hs:bdL (vR x) s)(hs1:1<=s)(hz:nz (vR x))(hlim:(x.length+4) * s<=137438953472)(hl:x.length<=1000000):
    FS 229 [.arr (rE x)] (.arr (rE (rP (bU (vR x))))):=by
 have H:FS 59 [i64 1] (.agg (rC (rq 1))):=ek 1 δ;obtain⟨X,E⟩:∃X,X=dR x:=⟨_,rfl⟩;obtain⟨t,L⟩:∃t,t=ap (vR x):=⟨_,rfl⟩;have d:vR X=t:=by rw[E,L,j9]
 have M:X.length=t.length:=by rw[<-d,cb]
 have hXx:X.length<=x.length:=by rw[E,eV,<-cb x];exact bh _
 have A:okX X:=by rw[E];exact nS hx
 have f:bdL t s:=by rw[L];exact sE hs
 have hts:t.length* s<=x.length* s:=Nat.mul_le_mul_right _ ω;rw[Nat.add_mul] at hlim;obtain⟨K,F⟩:∃K,K=qv t 1:=⟨_,rfl⟩;have hK0:K≠0:=by rw[F];exact AW t δ
 have U:bl K<=1+t.length* s:=by rw[F];exact GR t 1 f
 have J:=lj (n:=K) (k:=1+t.length* s) U ω;obtain⟨l,j⟩:∃l,l=aR t (nQ K):=⟨_,rfl⟩;have Z:l.length<=t.length:=by rw[j];exact dW _ _
 have D:bdL l (s+(1+t.length* s)):=by rw[j];exact Hx f hs1 J
 obtain⟨G,hG⟩:∃G,G=Al l 0:=⟨_,rfl⟩;have c:=Ju hz;rw[<-L,<-F,<-j,<-hG] at c;have O:nQ G≠0:=λe=>c.2 (nQ_zero.1 e);rw[<-c.1];refine f_c Tryz.func229 ?_;refine r_z 1 ?_;refine r_c 3 (fJ x ω) ?_;refine a_z ?_;rw[<-E];refine r_c 3 (jE 1 δ) ?_;refine a_z ?_;refine ac (r_z 1 ?_);refine aC (λ_:Unit=>⟨[(0,.arr (rE X)),(3,.lptr 1 0 0)],[(1,some ⟨45,2,[zZ (K:Int)]⟩)],2,48⟩) (λ_=>True) ?_ ?_;refine ah (ay (kR X) (λx=>X.length- x.1) (λx=>x.1<=X.length/\bl x.2+(t.length- x.1) * s<=1+t.length* s/\qv (t.drop x.1) x.2=K) (0,1) ⟨Nat.zero_le _,by simp only[jz,Nat.sub_zero];omega,by rw[F];rfl⟩ ?_ ?_);simp only[kR.eq_1];exact s_e [(1,3)];rintro⟨i,k⟩ ⟨T,S,v⟩;simp only at T S v;rw[kR.eq_1];refine ac (r_z 4 ?_);refine ar rfl (λh=>?_) (λh=>?_);refine aj ?_;have a:i< X.length:=by simpa using h
 obtain⟨y,Y,q⟩:=kG a;have V:=List.mem_of_getElem? Y;have b:(rE X)[((i:Nat):Int).toNat]?=some (rC y):=fV Y;rw[d] at q;have hc:=ej f hs1 i;rw[<-q] at hc;have hd:=dr y.1;rw[o8 (show i< t.length by omega),qv,<-q] at v
 have e1:(t.length- i) * s=(t.length- (i+1)) * s+s:=by
  rw[show t.length- i=t.length- (i+1)+1 by omega,Nat.succ_mul]
 have hmb:=im k y.1.den;have z:=iU (k:Int) (y.1.den:Int) (by unfold zl;rw[Int.natAbs_natCast];omega) (by unfold zl;rw[Int.natAbs_natCast];omega);rw[<-Int.natCast_mul] at z;refine ac (ah (r_d aX 8 ?_));refine a_3 ?_;refine i_x b ?_;refine l_x b ?_;refine c_s (fs_rDen y (A y V)) ?_;refine c_s (z) ?_;refine a_1 ?_;refine aq (n_k ?_);refine r_m 3 ?_;refine a_z ?_;refine⟨(i+1,k* y.1.den),by simp only;omega,⟨a,by simp only;omega,v⟩,?_⟩;simp only[kR.eq_1];exact s_e []
 have o:i=X.length:=by
  have:¬i< X.length:=by simpa using h
  omega
 subst o;rw[M,List.drop_length] at v;have Q:k=K:=v;subst Q;refine ax ⟨(),trivial,?_⟩;exact s_e [];rintro _ _;have C:=jq X (rq (nQ K)) s A (bK _) (by rw[d];exact f) (by show s+qs (nQ K)<=_;omega) ω;rw[d] at C;have u:FS 157 [.arr (rE X),.agg (rC (rq (nQ K)))] (.arr (rE (rP l))):=by rw[j];exact C
 refine r_c 5 (yN (K:Int)) ?_;refine c_s (u) ?_;refine a_z ?_;refine r_c 3 (jE 0 δ) ?_;refine a_z ?_;refine ac (r_z 1 ?_);refine aC (λ_:Unit=>⟨[(0,.arr (rE (rP l))),(5,.lptr 1 0 0)],[(1,some ⟨45,2,[zZ (G:Int)]⟩)],2,48⟩) (λ_=>bl G<=s+(1+t.length* s)) ?_ ?_;refine ah (ay (nR2 l) (λx=>l.length- x.1) (λx=>x.1<=l.length/\bl x.2<=s+(1+t.length* s)/\Al (l.drop x.1) x.2=G) (0,0) ⟨Nat.zero_le _,by rw[G5];exact Nat.zero_le _,by rw[hG];rfl⟩ ?_ ?_);simp only[nR2.eq_1];exact s_e [(1,5)];rintro⟨i,g⟩ ⟨T,B,r⟩;simp only at T B r;rw[nR2.eq_1];refine ac (r_z 4 ?_);refine ar rfl (λh=>?_) (λh=>?_);refine aj ?_;have a:i< l.length:=by simpa using h
 have b:=Jl a;have hc:=ej D ω i;have hn:=dA (eH (coP l i));rw[we] at hn;rw[o8 a,Al] at r;have hgg:=E8 g (eH (coP l i)).num.natAbs;have w:=GD (g:Int) (eH (coP l i)).num (by rw[Int.natAbs_natCast];omega) ω;rw[Int.natAbs_natCast] at w;refine ac (ah (r_d aX 9 ?_));refine a_3 ?_;refine i_x b ?_;refine l_x b ?_;refine c_s (Gz (rq (coP l i)) (bK _)) ?_;refine c_s (fs_rNum (rq (eH (coP l i)))) ?_;refine c_s (w) ?_;refine a_1 ?_;refine aq (n_k ?_);refine r_m 3 ?_;refine a_z ?_;refine⟨(i+1,Nat.gcd g (eH (coP l i)).num.natAbs),by simp only;omega,⟨a,by simp only;omega,r⟩,?_⟩;simp only[nR2.eq_1];exact s_e []
 have o:i=l.length:=by
  have:¬i< l.length:=by simpa using h
  omega
 subst o;rw[List.drop_length] at r;have N:g=G:=r;subst N;refine ax ⟨(),B,?_⟩;exact s_e [];rintro _ W;have hGq:=lj (n:=G) (k:=s+(1+t.length* s)) W ω;have q1:qs ((rq 1).1)=1:=ta;have R:=o3 (rq 1) (rq (nQ G)) (bK 1) (bK _) O (by rw[q1];show 1+qs (nQ G)<=_;omega);have hqd:=fL 1 (nQ G);have q2:=ta;have m:=jq (rP l) (rq (1/ nQ G)) (s+(1+t.length* s)) (dh _) (bK _) (by rw[b5];exact D) (by show _+qs (1/ nQ G)<=_;omega) (by rw[b7];omega);rw[b5] at m;have p:FS 157 [.arr (rE (rP l)),.agg (rC (rq (1/ nQ G)))] (.arr (rE (rP (aR l (1/ nQ G))))):=m;refine ac (r_d aX 7 ?_);refine c_s (H) ?_;refine c_s (yN (G:Int)) ?_;refine c_s (R) ?_;refine c_s (p) ?_;refine a_1 ?_;refine aq (n_k ?_);exact ai (t_e (ca _))
theorem Jn{x:Rat}{t:Nat}(h:qs x<=t):∀n,qs (x^ n)<=n* t+1
 |0=>by rw[Rat.pow_zero];exact Nat.le_trans (by decide:qs 1<=1) (Nat.le_add_left 1 _)
 |n+1=>by
  have a:=Jn h n;have b:=cx (x^ n) x;rw[Rat.pow_succ,Nat.succ_mul];omega
def evS(x:List RQ)(a:RQ):Nat×Rat×Rat->AState
 |(i,o,w)=>⟨[(0,.arr (rE x)),(3,.lptr 1 0 0),(4,.lptr 2 0 0),(5,.lptr 3 0 0),(6,.lptr 4 0 0),(7,i64 i)],[(1,some ⟨47,4,[rC a]⟩),(2,some ⟨47,4,[zR4]⟩),(3,some ⟨47,4,[rC (rq o)]⟩),(4,some ⟨47,4,[rC (rq w)]⟩)],5,28⟩
theorem od(x:List RQ)(a:RQ)(s t:Nat)(hx:okX x)(ha:rok a)(hs:bdL (vR x) s)(hs1:1<=s)(ht:qs a.1<=t)(hlim:(x.length+2) * (s+t+1)<=137438953472)(hl:x.length<=1000000):
    FS 61 [.arr (rE x),.agg (rC a)] (.agg (rC (rq (an (vR x) a.1)))):=by
 have n:FS 59 [i64 0] (.agg (rC (rq 0))):=ek 0 δ;have j:FS 59 [i64 1] (.agg (rC (rq 1))):=ek 1 δ;have k:=cb x;refine f_c Tryz.func61 ?_;refine r_z 2 ?_;refine r_c 6 (n) ?_;refine c_s (j) ?_;refine a_z ?_;refine ac (r_z 1 ?_);refine aC (λ_:Unit=>⟨[(4,.lptr 1 0 0),(5,.lptr 2 0 0)],[(1,some ⟨47,4,[zR4]⟩),(2,some ⟨47,4,[rC (rq (an (vR x) a.1))]⟩)],3,28⟩) (λ_=>True) ?_ ?_;refine ah (ay (evS x a) (λy=>x.length- y.1) (λy=>y.1<=x.length/\y.2.1=an ((vR x).take y.1) a.1/\y.2.2=a.1^ y.1) (0,0,1) ⟨Nat.zero_le _,rfl,(Rat.pow_zero _).symm⟩ ?_ ?_);simp only[evS.eq_1];exact s_e [(1,3),(2,4),(3,5),(4,6)];rintro⟨i,o,w⟩ ⟨z,d,f⟩;simp only at z d f;rw[evS.eq_1];refine ac (r_z 4 ?_);refine ar rfl (λh=>?_) (λh=>?_);refine aj ?_;have b:i< x.length:=by simpa using h
 obtain⟨y,r,e⟩:=kG b;have p:=List.mem_of_getElem? r;have c:(rE x)[((i:Nat):Int).toNat]?=some (rC y):=fV r;have hc:=ej hs hs1 i;rw[<-e] at hc;have hp:=Jn ht i;rw[<-f] at hp;have m:=iW ht (l:=(vR x).take i) (s:=s) λq v=>hs q (List.mem_of_mem_take v);rw[<-d,List.length_take,k,Nat.min_eq_left ω] at m;have e1:(i+1) * (s+t+1)<=(x.length+1) * (s+t+1):=Nat.mul_le_mul_right _ ω;have e2:(x.length+2) * (s+t+1)=(x.length+1) * (s+t+1)+(s+t+1):=Nat.succ_mul _ _;have A:(i+1) * (s+t+1)=i* (s+t+1)+(s+t+1):=Nat.succ_mul _ _;have B:i* t<=i* (s+t+1):=Nat.mul_le_mul_left _ ω;have m1:=lA y (rq w) (hx y p) (bK _) (by show qs y.1+qs w<=_;omega);have q1:=cx y.1 w;have m2:=iS (rq o) (rq (y.1* w)) (bK _) (bK _) (by show qs o+qs (y.1* w)<=_;omega);have u:=lA (rq w) a (bK _) ha (by show qs w+qs a.1<=_;omega);refine ac (ah (ac (r_d aX 9 ?_)));refine a_3 ?_;refine i_x c ?_;refine l_x c ?_;refine c_s (m1) ?_;refine c_s (m2) ?_;refine a_1 ?_;refine aq (n_k ?_);refine r_m 4 ?_;refine c_s (u) ?_;refine a_z ?_;refine r_m 3 ?_;refine a_z ?_;refine⟨(i+1,o+y.1* w,w* a.1),by simp only;omega,⟨b,?_,by simp only;rw[f,Rat.pow_succ]⟩,?_⟩;simp only;rw[pU _ _ _ ω,<-d,e,f];simp only[evS.eq_1];exact s_e []
 have g:i=x.length:=by
  have:¬i< x.length:=by simpa using h
  omega
 subst g;rw[List.take_of_length_le ω] at d;subst d;refine ax ⟨(),trivial,?_⟩;exact s_e [(1,4),(2,5)];rintro _ _;refine r_z 2 ?_;exact ai (c_e (c9 _))
def mxR(l:Lq):Nat×La->AState
 |(i,o)=>⟨[(0,.arr (rE (rP l))),(2,.lptr 1 0 0),(3,.lptr 2 0 0),(4,i64 i)],[(1,some ⟨47,4,[zR4]⟩),(2,some ⟨47,4,[o]⟩)],3,27⟩
theorem CW(bf:Int->Bool){l:Lq}(h:l≠[]):ef bf l∈l:=by
 cases l with
 |nil=>exact absurd rfl h
 |cons x l=>
  have a:∀(l:Lq) (o:Rat),l.foldl (λo y=>if bf (fb y o) then y else o) o∈o::l:=by
   intro l
   induction l with
   |nil=>intro o;exact List.mem_cons_self ..
   |cons y l b=>
    intro o;have:=b (if bf (fb y o) then y else o);rw[List.foldl_cons];rcases List.mem_cons.1 this with e|e
    rw[e];split;exact List.mem_cons_of_mem _ (List.mem_cons_self ..);exact List.mem_cons_self ..;exact List.mem_cons_of_mem _ (List.mem_cons_of_mem _ e)
  exact a l x
theorem fs_rMax(l:Lq)(s:Nat)(hs:bdL l s)(hlim:2* s<=1099511627776)(hl:l.length<=1000000)(h0:l≠[]):FS 161 [.arr (rE (rP l))] (.agg (rC (rq (gQ l)))):=by
 refine f_c Tryz.func161 ?_;refine r_z 1 ?_;refine r_z 1 ?_;refine ac (r_z 1 ?_);refine aC (λ_:Unit=>⟨[(2,.lptr 1 0 0),(3,.lptr 2 0 0)],[(1,some ⟨47,4,[zR4]⟩),(2,some ⟨47,4,[rC (rq (gQ l))]⟩)],3,27⟩) (λ_=>True) ?_ ?_;refine ah (ay (λx:Nat×La=>mxR l x) (λx=>l.length- x.1) (λx=>x.1<=l.length/\((x.1=0->x.2=zR4)/\(x.1≠0->x.2=rC (rq (gQ (l.take x.1)))))) (0,zR4) ⟨Nat.zero_le _,λ_=>rfl,λh=>absurd rfl h⟩ ?_ ?_);simp only[mxR.eq_1];exact s_e [(1,2),(2,3)];rintro⟨i,o⟩ ⟨q,g,m⟩;simp only at q g m;simp only[mxR.eq_1];by_cases hlt:i< l.length;refine ac (s_r 4 ?_);refine a_3 ?_;refine o_0 (.bin rfl rfl (vT ei (decide_eq_true χ))) ?_;refine aq ?_;refine cT (aj ?_);have a:=Jl hlt;have n:l[i]?=some (coP l i):=ci hlt;have hc:=hs _ (List.mem_of_getElem? n)
 have b:gQ (l.take (i+1))=if l.take i=[]\/decide (0< fb (coP l i) (gQ (l.take i)))=true then coP l i else gQ (l.take i):=by
  rw[cO n];exact sk _ _ _
 refine ac (ah (AWp.cutB (λ_:Unit=>mxR l (i,rC (rq (gQ (l.take (i+1)))))) (λ_=>True) ?_ ?_));by_cases h0:i=0;subst h0;have:=g rfl;subst this;rw[if_pos (.inl ψ)] at b;refine ac (r_d aX 11 ?_);refine a_3 ?_;refine n_g rfl d_t ?_;refine n_g rfl d_t ?_;refine n_g rfl d_t ?_;refine n_g rfl d_t ?_;refine n_g rfl d_t ?_;refine n_g rfl d_t ?_;refine n_g rfl d_t ?_;refine o_0 (.pickT rfl d_t rfl) ?_;refine aq (n_k ?_);refine ar rfl (λh=>?_) (λh=>?_);refine r_m 5 ?_;refine a_2 ?_;refine i_x a ?_;refine l_x a ?_;refine a_z ?_;refine⟨(),trivial,?_⟩;simp only[mxR.eq_1];rw[b];exact s_e [];cases h;have d:o=rC (rq (gQ (l.take i))):=m h0;subst d
 have f:l.take i≠[]:=λh=>by
  have:=congrArg List.length h;rw[List.length_take,List.length_nil] at this;omega
 have p:=hs _ (List.mem_of_mem_take (CW (λc=>decide (0< c)) f));have j:=Ap (rq (coP l i)) (rq (gQ (l.take i))) (bK _) (bK _) (by show qs (coP l i)+qs (ef _ (l.take i))<=_;omega);by_cases h1:0< fb (coP l i) (gQ (l.take i));rw[if_pos (.inr (decide_eq_true h1))] at b;refine ac (r_d aX 11 ?_);refine a_3 ?_;refine y_g rfl χ (.move rfl) ?_;refine y_g rfl χ (.move rfl) ?_;refine y_g rfl χ (.index_a rfl rfl ω a rfl te_77.h) ?_;refine y_g rfl χ (.load_a rfl a TG.h TS.h (nle rfl)) ?_;refine y_g rfl χ (.load_l rfl rfl rfl TG.h TS.h (nle rfl)) ?_;refine y_g rfl χ (.call rfl rfl rfl (j)) ?_;refine y_g rfl χ (.bin rfl rfl (vT jb (decide_eq_true h1))) ?_;refine o_0 (.pickF rfl χ rfl) ?_;refine aq (n_k ?_);refine ar rfl (λh=>?_) (λh=>?_);refine r_m 5 ?_;refine a_2 ?_;refine i_x a ?_;refine l_x a ?_;refine a_z ?_;refine⟨(),trivial,?_⟩;simp only[mxR.eq_1];rw[b];exact s_e [];cases h;rw[if_neg (λe=>e.elim f λe=>h1 (of_decide_eq_true e))] at b;refine ac (r_d aX 11 ?_);refine a_3 ?_;refine y_g rfl χ (.move rfl) ?_;refine y_g rfl χ (.move rfl) ?_;refine y_g rfl χ (.index_a rfl rfl ω a rfl te_77.h) ?_;refine y_g rfl χ (.load_a rfl a TG.h TS.h (nle rfl)) ?_;refine y_g rfl χ (.load_l rfl rfl rfl TG.h TS.h (nle rfl)) ?_;refine y_g rfl χ (.call rfl rfl rfl (j)) ?_
 refine y_g rfl χ (.bin rfl rfl (vF jb (decide_eq_false h1))) ?_;refine o_0 (.pickF rfl χ rfl) ?_;refine aq (n_k ?_);refine cF ?_;refine aj (⟨(),trivial,?_⟩);simp only[mxR.eq_1];rw[b];exact s_e [];rintro _ _;simp only[mxR.eq_1];refine r_m 3 ?_;refine a_z ?_;refine⟨(i+1,rC (rq (gQ (l.take (i+1))))),by simp only;omega,⟨hlt,λh=>absurd h (Nat.succ_ne_zero i),λ_=>rfl⟩,?_⟩;simp only[mxR.eq_1];exact s_e [];refine ac (s_r 4 ?_);refine a_3 ?_;refine o_0 (.bin rfl rfl (vF ei (decide_eq_false χ))) ?_;refine aq ?_;refine cF ?_;have k:i=l.length:=ω
 subst k;have d:=m (by have:=List.length_pos_iff.2 h0;omega);rw[List.take_of_length_le (Nat.le_refl _)] at d;subst d;refine ax ⟨(),trivial,?_⟩;exact s_e [(1,2),(2,3)];rintro _ _;refine r_z 2 ?_;exact ai (c_e (c9 _))
def bR(X:List RQ):Nat×Rat->AState
 |(i,m)=>⟨[(0,.arr (rE X)),(2,.lptr 1 0 0),(3,.lptr 2 0 0),(4,i64 i)],[(1,some ⟨47,4,[zR4]⟩),(2,some ⟨47,4,[rC (rq m)]⟩)],3,29⟩
theorem yO(x:List RQ)(s:Nat)(hx:okX x)(hs:bdL (vR x) s)(hs1:1<=s)(hz:nz (vR x))(hlim:s<=137438953472)(hl:x.length<=1000000):FS 69 [.arr (rE x)] (.agg (rC (rq (a7 (vR x))))):=by
 have C:FS 59 [i64 0] (.agg (rC (rq 0))):=ek 0 δ;have u:FS 59 [i64 1] (.agg (rC (rq 1))):=ek 1 δ;obtain⟨X,q⟩:∃X,X=dR x:=⟨_,rfl⟩;obtain⟨t,j⟩:∃t,t=ap (vR x):=⟨_,rfl⟩;have c:vR X=t:=by rw[q,j,j9]
 have k:X.length=t.length:=by rw[<-c,cb]
 have V:X.length<=x.length:=by rw[q,eV,<-cb x];exact bh _
 have o:okX X:=by rw[q];exact nS hx
 have D:bdL t s:=by rw[j];exact sE hs
 have p:ap t=t:=by rw[j];exact b6 _
 have Q:0< t.length:=by rw[j];exact List.length_pos_iff.2 hz
 obtain⟨b,hb,d,w⟩:=tp (x:=X) (by rw[c];exact p) (λe=>by rw[e] at k;simp at k;omega);have A:=o b w;rw[c,j,pN] at d;have F:b.1≠0:=by rw[d];exact dd hz
 have T:qs b.1<=s:=by rw[d];exact rp hs hs1
 have J:=rO X b ω (by rw[qG (by rw[c];exact p)];exact hb);obtain⟨l,h⟩:∃l,l=t.take (t.length- 1):=⟨_,rfl⟩;have U:l.length=t.length- 1:=by rw[h];simp
 obtain⟨B,S⟩:∃B,B=boL (aI (vR x)) l 0:=⟨_,rfl⟩;have O:a7 (vR x)=B+1:=by unfold a7;rw[<-j,<-h,<-S]
 rw[O];refine f_c Tryz.func69 ?_;refine r_z 1 ?_;refine r_c 3 (fJ x ω) ?_;refine a_z ?_;rw[<-q];refine r_c 3 (C) ?_;refine a_z ?_;refine ac (r_z 1 ?_);refine aC (λ_:Unit=>⟨[(2,.lptr 1 0 0),(3,.lptr 2 0 0)],[(1,some ⟨47,4,[zR4]⟩),(2,some ⟨47,4,[rC (rq B)]⟩)],3,29⟩) (λ_=>qs B<=2* s+1) ?_ ?_;refine ah (ay (bR X) (λy=>t.length- y.1) (λy=>y.1<=l.length/\qs y.2<=2* s+1/\boL (aI (vR x)) (l.drop y.1) y.2=B) (0,0) ⟨Nat.zero_le _,Nat.le_trans (by decide:qs 0<=1) (Nat.le_add_left 1 _),by rw[S];rfl⟩ ?_ ?_);simp only[bR.eq_1];exact s_e [(1,2),(2,3)];rintro⟨i,m⟩ ⟨Z,K,a⟩;simp only at Z K a;rw[bR.eq_1];by_cases hlt:i< l.length;refine ac (q_z 5 ?_);refine cT (aj ?_);obtain⟨y,R,g⟩:=kG (x:=X) (i:=i) ω;have L:=List.mem_of_getElem? R;have n:(rE X)[((i:Nat):Int).toNat]?=some (rC y):=fV R
 have M:coP (vR X) i=coP l i:=by
  rw[c,h];unfold coP;rw[List.getD_eq_getElem?_getD,List.getD_eq_getElem?_getD,List.getElem?_take_of_lt ω]
 have hc:qs y.1<=s:=by rw[g,c];exact ej D hs1 i
 rw[M] at g;rw[o8 hlt,boL,<-g] at a;have W:=fL y.1 b.1;have G:=o3 y b (o y L) A F ω;have Y:=we (y.1/ b.1);have v:=Gz (rq (y.1/ b.1)) (bK _);rw[<-d] at a
 have f:bdL [m,eH (y.1/ b.1)] (2* s+1):=by
  intro z hz;rcases List.mem_cons.1 hz with rfl|hz
  exact K;rw[List.mem_singleton.1 hz];omega
 have E:=fs_rMax [m,eH (y.1/ b.1)] (2* s+1) f ω ψ ψ;refine ac (ah (r_d aX 12 ?_));refine a_3 ?_;refine i_x n ?_;refine l_x n ?_;refine c_s (J) ?_;refine c_s (G) ?_;refine c_s (v) ?_;refine a_1 ?_;refine o_1 (.callS1 rfl rfl rfl (.shut rfl d_n (.nil)) rfl (E)) ?_;refine a_1 ?_;refine aq (n_k ?_);refine r_m 3 ?_;refine a_z ?_;refine⟨(i+1,gQ [m,eH (y.1/ b.1)]),by simp only;omega,⟨hlt,Af f (Nat.le_add_left 1 _),by rw[<-d];exact a⟩,?_⟩;simp only[bR.eq_1];exact s_e [];have r:i=l.length:=ω
 subst r;refine ac (q_z 5 ?_);refine cF ?_;rw[List.drop_length] at a;have H:m=B:=a;subst H;refine ax ⟨(),K,?_⟩;exact s_e [(1,2),(2,3)];rintro _ W;have q1:qs ((rq 1).1)=1:=ta;have N:=iS (rq B) (rq 1) (bK _) (bK _) (by rw[q1];show qs B+1<=_;omega);refine ac (r_d aX 4 ?_);refine c_s (u) ?_;refine c_s (N) ?_;refine a_1 ?_;refine aq (n_k ?_);exact ai (c_e (c9 _))
def cR(l:Lw):Lc:=l.map λp=>[.arr (rE (rP p))]
@[simp] theorem It (l:Lw):(cR l).length=l.length:=by simp[cR]
theorem E3{l:Lw}{i:Nat}{p:Lq}(h:l[i]?=some p):(cR l)[i]?=some [.arr (rE (rP p))]:=by simp[cR,h]
theorem Lg(l:Lw):(cR l).all (·.all AV.one)=true:=by
 simp only[cR,List.all_map,List.all_eq_true];intro q _;rfl
theorem mu(l:Lw):Closed (.arr (cR l)):=aK λe a c hc=>by
 obtain⟨q,_,rfl⟩:=List.mem_map.1 a;rw[List.mem_singleton.1 hc];exact ca _
theorem G3(l:Lw)(p:Lq):cR (l++[p])=cR l++[[.arr (rE (rP p))]]:=by simp[cR]
def cgR(ch:Lw)(a:RQ):Nat×Int×Int->AState
 |(i,n,last)=>⟨[(0,.arr (cR ch)),(3,.lptr 1 0 0),(5,i64 n),(6,i64 last),(7,i64 i)],[(1,some ⟨47,4,[rC a]⟩)],2,36⟩
theorem uB(ch:Lw)(a:RQ)(ha:rok a)(s t:Nat)(hs1:1<=s)(ht:qs a.1<=t)(hs:∀q∈ch,bdL q s/\q.length<=7)(hlim:9* (s+t+1)<=137438953472)(hl:ch.length<=1000000):
    FS 160 [.arr (cR ch),.agg (rC a)] (i64 (chV ch a.1)):=by
 obtain⟨R,v⟩:∃R,R=chV ch a.1:=⟨_,rfl⟩;rw[<-v];have A:=It ch;refine f_n Tryz.func160 ?_ ?_;exact ae (mu ch) (ae (c9 a) af);refine r_z 2 ?_;refine r_z 2 ?_;refine ac (r_z 1 ?_);refine aC (λ_:Unit=>⟨[(5,i64 R)],[],1,36⟩) (λ_=>True) ?_ ?_;refine ah (ay (cgR ch a) (λx=>ch.length- x.1) (λx=>x.1<=ch.length/\0<=x.2.1/\x.2.1<=x.1/\ -1<=x.2.2/\x.2.2<=1/\chL ((ch.drop x.1).map (sgE a.1)) x.2.1 x.2.2=R) (0,0,0) ⟨Nat.zero_le _,δ,δ,δ,δ,by rw[v];rfl⟩ ?_ ?_);simp only[cgR.eq_1];have:=mu ch;exact s_f [(1,3)];rintro⟨i,n,last⟩ ⟨y,c,m,d,j,hc⟩;simp only at y c m d j hc;rw[cgR.eq_1];by_cases hlt:i< ch.length;refine ac (q_z 4 ?_);refine cT (aj ?_);obtain⟨q,k⟩:∃q,ch[i]?=some q:=⟨_,List.getElem?_eq_getElem hlt⟩;have r:=List.mem_of_getElem? k;have g:(cR ch)[((i:Nat):Int).toNat]?=some [.arr (rE (rP q))]:=E3 k
 have w:ch.drop i=q::ch.drop (i+1):=by
  rw[List.drop_eq_getElem_cons hlt];rw[List.getElem?_eq_getElem hlt] at k;rw[Option.some.inj k]
 rw[w,List.map_cons,chL] at hc;have b:=jh a.1 q;obtain⟨p,B⟩:=hs q r;have u:(q.length+2) * (s+t+1)<=9* (s+t+1):=Nat.mul_le_mul_right _ ω;have f:=od (rP q) a s t (dh _) ha (by rw[b5];exact p) hs1 ht (by rw[b7];omega) (by rw[b7];omega);rw[b5] at f;have h:FS 149 [.agg (rC (rq (an q a.1)))] (i64 (sgE a.1 q)):=rM (rq (an q a.1));obtain⟨σ,z⟩:∃σ,σ=sgE a.1 q:=⟨_,rfl⟩;rw[<-z] at hc b h;refine ac (ah (ac (r_d aX 8 ?_)));refine a_2 ?_;refine i_x g ?_;refine l_1 g ?_;refine c_s (f) ?_;refine c_s (h) ?_;refine a_1 ?_;refine aq (n_k ?_);by_cases h0:σ=0;rw[if_neg (λe=>e h0)] at hc;refine ac (s_r 8 ?_);refine a_3 ?_;refine n_g rfl (by simpa using h0) ?_;refine n_g rfl (by simpa using h0) ?_;refine n_g rfl (by simpa using h0) ?_;refine n_g rfl (by simpa using h0) ?_;refine o_0 (.pickF rfl (by simpa using h0) rfl) ?_;refine aq ?_;refine cF (aj (s_r 2 ?_));refine a_1 ?_;refine o_0 (.bin rfl rfl (vF cm ((by simpa using h0)))) ?_;refine aq ?_;refine cF (aj (r_m 3 ?_));refine a_z ?_;refine⟨(i+1,n,last),by simp only;omega,⟨hlt,c,by simp only;omega,d,j,hc⟩,?_⟩;simp only[cgR.eq_1];have:=mu ch;exact s_f [];rw[if_pos h0] at hc;by_cases h1:σ= -last;rw[if_pos h1] at hc;refine ac (s_r 8 ?_);refine a_3 ?_;refine y_g rfl (by simpa using h0) (.move rfl) ?_;refine y_g rfl (by simpa using h0) (.move rfl) ?_;refine y_g rfl (by simpa using h0) (.un rfl (vy ω)) ?_;refine y_g rfl (by simpa using h0) (.bin rfl rfl (vT bJ (decide_eq_true h1))) ?_;refine o_0 (.pickT rfl (by simpa using h0) rfl) ?_
 refine aq ?_;refine cT (r_m 3 ?_);refine a_z ?_;refine s_r 2 ?_;refine a_1 ?_;refine o_0 (.bin rfl rfl (vT cm ((by simpa using h0)))) ?_;refine aq ?_;refine cT (r_m 2 ?_);refine a_z ?_;refine r_m 3 ?_;refine a_z ?_;refine⟨(i+1,n+1,σ),by simp only;omega,⟨hlt,by simp only;omega,by simp only;omega,b.1,b.2,hc⟩,?_⟩;simp only[cgR.eq_1];have:=mu ch;exact s_f [];rw[if_neg h1] at hc;refine ac (s_r 8 ?_);refine a_3 ?_;refine y_g rfl (by simpa using h0) (.move rfl) ?_;refine y_g rfl (by simpa using h0) (.move rfl) ?_;refine y_g rfl (by simpa using h0) (.un rfl (vy ω)) ?_;refine y_g rfl (by simpa using h0) (.bin rfl rfl (vF bJ (decide_eq_false h1))) ?_;refine o_0 (.pickT rfl (by simpa using h0) rfl) ?_;refine aq ?_;refine cF (aj (s_r 2 ?_));refine a_1 ?_;refine o_0 (.bin rfl rfl (vT cm ((by simpa using h0)))) ?_;refine aq ?_;refine cT (r_m 2 ?_);refine a_z ?_;refine r_m 3 ?_;refine a_z ?_;refine⟨(i+1,n,σ),by simp only;omega,⟨hlt,c,by simp only;omega,b.1,b.2,hc⟩,?_⟩;simp only[cgR.eq_1];have:=mu ch;exact s_f [];refine ac (q_z 4 ?_);refine cF ?_;have l:i=ch.length:=ω
 subst l;rw[List.drop_length] at hc;have o:n=R:=hc;subst o;refine ax ⟨(),trivial,?_⟩;exact s_e [];rintro _ _;refine r_z 2 ?_;exact ai (t_e (ak _))
end Go.Proofs.YtjmkjicckobojaaGreatDoor
