/- Part Y28 of the proof. -/
import Derived.Test.YtjmkjicckobojaaGreatDoorY27
import Derived.ProofKit
import Derived.OpenShut
import Derived.Carry
import Derived.Deep.Slices
import Derived.Deep.Strs
import Derived.ChangeSame
import Derived.ChangeArms
set_option linter.all false
namespace Go.Proofs.YtjmkjicckobojaaGreatDoor
open Go.Abs
set_option maxRecDepth 20000
set_option maxHeartbeats 1000000


end Go.Proofs.YtjmkjicckobojaaGreatDoor
namespace Go.Proofs.YtjmkjicckobojaaGreatDoor
open Go.Abs Go.Deep Go.RowKit
set_option maxRecDepth 20000
theorem Fc{M:Nat->Prop}{β:Bq}{w:World}{b s off:Nat}{f:Nat->La}:∀(n j:Nat),(∀i,i< j+n->(f i).length=s/\RVcs M β w b (f i) (off+i* s))->RVess M β w b s ((List.range' j n).map f) (off+j* s)
 |0,_,_=>trivial
 |n+1,j,h=>by
  rw[List.range'_succ,zo];refine⟨(h j ω).1,(h j ω).2,?_⟩;have:=Fc (M:=M) (β:=β) (w:=w) (b:=b) (s:=s) (off:=off) n (j+1) (λi a=>h i ω);rwa[zu,Kk,<-JQ] at this
theorem qe{w:World}{b o:Nat}{v:Value}(h:w.cell? ⟨b,o,none⟩=some v):∃N,aY w b=some N:=by
 unfold World.cell? at h;unfold aY;split at h
 ·rename_i c _ _ e;rw[show w.heap[b]?=_ from e];exact⟨c.size,rfl⟩
 cases h
theorem tyS:(Tryz.prog).underlying 34=some (.slice 24):=by kernel_rfl
theorem tyN:∃f0 f1 f2,(Tryz.prog).underlying 24=some (.struct #[f0,f1,f2])/\f0.type=2/\f0.offset=0/\f1.type=2/\f1.offset=1/\f2.type=5/\f2.offset=2:=
 ⟨{name:= "N",type:=2,offset:=0,embedded:=false,tag:= "",pkgPath:= "",byteOffset:=0},{name:= "D",type:=2,offset:=1,embedded:=false,tag:= "",pkgPath:= "",byteOffset:=8},{name:= "Pow",type:=5,offset:=2,embedded:=false,tag:= "",pkgPath:= "",byteOffset:=16},by kernel_rfl,rfl,rfl,rfl,rfl,rfl,rfl⟩
theorem FY:(Tryz.prog).cellsOf 24=3:=by kernel_rfl
theorem tyc2:(Tryz.prog).cellsOf 2=1:=by kernel_rfl
theorem tyc5:(Tryz.prog).cellsOf 5=1:=by kernel_rfl
theorem tyu2:(Tryz.prog).underlying 2=some (.int .i64):=by kernel_rfl
theorem tyu5:(Tryz.prog).underlying 5=some (.int .u8):=by kernel_rfl
theorem zQ{H:Type}{enc:TypeId×Value->H}{W:World}{base n:Nat}{spare:Nat->Bool}{held:Bool}{cs:List Value}{x:DataW H×List MemPlace}(h:DataW.trod enc Tryz.prog W base spare held n 24 cs=some x):
    ∃r:fO,l8 r.1/\l8 r.2.1/\r.2.2<=255/\cs=[.int .i64 r.1,.int .i64 r.2.1,.int .u8 r.2.2]:=by
 obtain⟨w,y,z,p,j,g,q,i,k,s⟩:=tyN;obtain⟨A,v,B,m,_,e,c,d,b⟩:=trod_struct3 p h;rw[j,g,tyc2] at c;rw[q,i,tyc2] at d;rw[k,s,tyc5] at b;rw[FY] at e;obtain⟨l,e0,_,o⟩:=DataW.trod_int tyu2 c;obtain⟨t,e1,_,f⟩:=DataW.trod_int tyu2 d;obtain⟨a,e2,_,u⟩:=DataW.trod_int tyu5 b
 match cs,e with
 |[c0,c1,c2],_=>
  simp at e0 e1 e2;subst e0;subst e1;subst e2;have b2:=bounds_u8 u;refine⟨(l,t,a.toNat),bounds_i64 o,bounds_i64 f,?_,?_⟩;show a.toNat<=255;omega;show _=[_,_,Value.int .u8 ((a.toNat:Nat):Int)];rw[Int.toNat_of_nonneg b2.1]
theorem zj{H:Type}{enc:TypeId×Value->H}{W:World}{a:Option Addr}{len cap:Nat}{d:DataW H}{ps:List MemPlace}(h:DataW.Trod enc Tryz.prog W 0 (λ_=>true) true 34 (.slice a len cap) d ps):
    ∃l:List fO,okR l/\RV (λ_=>False) (λ_=>none) W (.arr (nR l)) (.slice a len cap):=by
 obtain⟨J,Q⟩:=h;rcases open_slice tyS Q with⟨o,_⟩|⟨x,G,F,m,n,D,Z,o,_,T,X,t,_,C⟩
 simp[Value.cells] at o;obtain⟨rfl,rfl,rfl⟩:=o;exact⟨[],(λr B=>by cases B),none,0,rfl,ir _,δ,.inl rfl⟩;simp[Value.cells] at o;obtain⟨rfl,rfl,rfl⟩:=o;simp only[if_true] at t;have A:m=cap:=t;rw[A] at C;rw[FY] at C
 have z:∀i,i< len->∃r:fO,(l8 r.1/\l8 r.2.1/\r.2.2<=255)/\W.cells? 0 (x.add (i* 3)) 3=some [.int .i64 r.1,.int .i64 r.2.1,.int .u8 r.2.2]:=λi y=>by
  obtain⟨U,S,O⟩:=C i ω;obtain⟨r,N,V,L,e⟩:=zQ O;exact⟨r,⟨N,V,L⟩,by rw[S,e]⟩
 obtain⟨R,K⟩:=choose_lt (α:=fO) z;refine⟨(List.range len).map R,?_,some x,cap,by simp[nR],by simpa[nR] using T,X,?_⟩;intro r B;obtain⟨i,y,rfl⟩:=sd.1 B;exact(K i (xd.1 y)).1;by_cases h0:len=0;subst h0;exact .inl rfl;right
 have c:∀i,i< len->∀j (v:Value),[.int .i64 (R i).1,.int .i64 (R i).2.1,.int .u8 (R i).2.2][j]?=some v->W.cell? (x.add (i* 3+j))=some v:=λi y j v hv=>by
  have Y:j< 3:=by
   have:=(jY.1 hv).1;simpa using this
  have:=(World.cells?_some (K i y).2).2.2 j Y;rw[hv,Go.Deep.add_add] at this;exact this
 have E:=c 0 ω 0 _ rfl;obtain⟨b,off,u⟩:=x;have q:u=none:=by simpa[Addr.add] using World.cell?_spot E
 subst q
 have g:∀k,Addr.add ⟨b,off,none⟩ k=⟨b,off+k,none⟩:=λk=>by
  unfold Addr.add;by_cases hk:k=0;simp[hk];simp[hk]
 refine⟨b,off,3,rfl,qe (by rw[g] at E;exact E),(λh=>h),?_⟩;have:=Fc (M:=λ_=>False) (β:=λ_=>none) (w:=W) (b:=b) (s:=3) (off:=off) (f:=λi=>nuC (R i).1 (R i).2.1 (R i).2.2) len 0 (λi y=>⟨rfl,?_⟩);rw[JR,M6,<-NC] at this;rw[nR,Oz];exact this;have p:i< len:=ω
 refine⟨⟨_,?_,rfl⟩,⟨_,?_,rfl⟩,⟨_,?_,rfl⟩,trivial⟩;have:=c i p 0 _ rfl;rw[g] at this;exact this;have:=c i p 1 _ rfl;rw[g] at this;rw[JQ];exact this;have:=c i p 2 _ rfl;rw[g] at this;rw[JQ,JQ];exact this
end Go.Proofs.YtjmkjicckobojaaGreatDoor
namespace Go.Proofs.YtjmkjicckobojaaGreatDoor
open Go.Abs
set_option maxRecDepth 100000
set_option maxHeartbeats 2000000
def okW(m:Lq)(l r:Bool)(a b:Rat):Prop:=1<=m.length/\m.length<=64/\(l=true->r=true->a< b)
instance (m:Lq) (l r:Bool) (a b:Rat):Decidable (okW m l r a b):=inferInstanceAs (Decidable (_/\_/\_))
theorem mT(p q:Lq)(o:iz p q)(h0:am q≠[]):FS 238 [.arr (pE p),.arr (pE q)] (.tup [.arr (pE (bJ p q).1),.arr (pE (bJ p q).2)]):=
 ma p q (mxL p) (mxL q) (dO p) (dO q) (dB p) (dB q) o.1 h0 o.2.1 o.2.2
def bzS(p:Lq)(q:Lq):Lq×Lq×Lq×Lq->AState
 |(g,nx,a,c)=>⟨[(0,.arr (pE p)),(1,.arr (pE q)),(4,.arr (pE g)),(5,.arr (pE a)),(7,.arr (pE nx)),(8,.arr (pE c))],[],1,83⟩
theorem IG(f:Nat)(p q g a:Lq)(hq:am q≠[])(hql:q.length<=1099511627776)(hz:bzL f p q (dk ((1:Int):Rat)) []=some (g,a))(ho:Kh p q g a):
    FS 183 [.arr (pE p),.arr (pE q)] (.tup [.arr (pE (bzG g)),.arr (pE (bzA q g a)),.arr (pE (bzB p q g a))]):=by
 obtain⟨A,t,E,B,G,N,z,v,w,o,l,j,r,k,n,m⟩:=ho;have L:¬a8 q< 0:=λe=>hq (degP_neg.1 e);have q1:qs ((1:Int):Rat)=1:=δ
 have C:=fS ((1:Int):Rat) (aL g);have d:sm (((1:Int):Rat) / aL g):=by unfold sm;omega
 refine f_c Tryz.func183 ?_;refine r_z 3 ?_;refine ae (r_c 3 (ce q hql) ?_);refine d_z ?_;refine cF (an (r_z 4 ?_));refine r_c 4 (dM 1 δ) ?_;refine c_s (lf ((1:Int):Rat)) ?_;refine a_z ?_;refine ae (aJ (λ_:Unit=>⟨[(0,.arr (pE p)),(1,.arr (pE q)),(4,.arr (pE g)),(5,.arr (pE a))],[],1,83⟩) (λ_=>True) ?_ ?_);refine aj (aC (λx:Nat×Lq×Lq×Lq×Lq=>bzS p q x.2) (λx=>x.1) (λx=>bzL x.1 x.2.1 x.2.2.1 x.2.2.2.1 x.2.2.2.2=some (g,a)/\x.2.2.1.length<=1099511627776) (f,p,q,dk ((1:Int):Rat),[]) ⟨hz,hql⟩ ?_ ?_);simp only[bzS.eq_1];exact s_e [];rintro⟨f,i,nx,s,c⟩ ⟨hz,b⟩;simp only at hz b;simp only[bzS.eq_1];cases f with
 |zero=>cases hz
 |succ f=>
  rw[bzL] at hz;by_cases hn0:am nx=[];rw[if_pos hn0] at hz;cases hz;refine ae (r_c 3 (ce nx b) ?_);refine o_0 (.bin rfl rfl (vF ig (decide_eq_false (by have:=degP_neg.2 hn0;omega)))) ?_;refine aq ?_;refine cF (ay ⟨(),trivial,?_⟩);exact s_e []
  ·rw[if_neg hn0] at hz
   split at hz
   case isFalse=>cases hz
   case isTrue hs=>
   obtain⟨⟨o1,o2,D,J,y,u⟩,M⟩:=hs;have F:=(me (p:=i) (q:=nx));have K:=o1.2.1;have H:¬a8 nx< 0:=λe=>hn0 (degP_neg.1 e);refine ae (r_c 3 (ce nx b) ?_);refine d_z ?_;refine cT (an (aj (r_c 8 (mT i nx o1 hn0) ?_)));refine a_z ?_;refine r_z 4 ?_;refine r_m 8 ?_;refine c_s (uU _ c o2) ?_;refine c_s (wD s _ D J y u) ?_;refine a_z ?_;refine⟨(f,nx,(bJ i nx).2,c,dC s (aG (bJ i nx).1 c)),Ed f,⟨hz,by simp only;omega⟩,?_⟩;simp only[bzS.eq_1];exact s_e []
 rintro _ _;refine r_c 6 (dM 1 δ) ?_;refine c_s (lh g t) ?_;refine o_0 (.call rfl rfl rfl (hZ _ (aL g) (df A) ω)) ?_;refine o_1 (.alloc TZ.h) ?_;refine eK (.store rfl rfl rfl rfl rfl rfl TS.h (nle rfl)) ?_;refine aq ?_;refine ae (r_d ba 8 ?_);refine c_s (eY g _ B d t) ?_;refine c_s (eY a _ G d E) ?_;refine a_2 ?_;refine aq (n_k ?_);refine r_c 8 (mT q (bzG g) z v) ?_;refine a_z ?_;refine r_c 7 (mT _ _ w o) ?_;refine a_z ?_;refine r_c 11 (uU (bzA q g a) p l) ?_;refine c_s (wD (bzG g) _ j r k n) ?_;refine c_s (mT _ q m hq) ?_;refine a_z ?_;refine r_z 6 ?_;refine ak (Fin.many ⟨_,_,rfl,rfl,⟨_,_,rfl,rfl,⟨_,_,rfl,rfl,rfl⟩⟩⟩ (nle rfl) ?_);exact CvL.clo aE (ac (aw _) (ac (aw _) (ac (aw _) af)))
theorem setT{p m:Lq}{d j i e:Nat}(hi:i< j)(hj:j<=d)(he:e=i):(pE (aI d (tpI p m j i))).set e (qC (tpI p m j i i+coP p j* coP m (j- 1- i)))=pE (aI d (tpI p m j (i+1))):=by
 subst he;rw[jg,<-tpI_set p m d j e hi hj];congr 3;unfold tpI;rw[if_neg ω]
theorem uj{r:Ren}{hp hp':Hq}(h:Shr r hp hp'):∀n,CvLL r hp hp' (List.replicate n zC) (pE (List.replicate n 0))
 |0=>bv h (aK [])
 |n+1=>CvLL.cons (ys:=pE (List.replicate n 0)) (CvL_zC h) (uj h n)
theorem getT{d i e:Nat}{f:Nat->Rat}(h:i< d)(he:e=i):(pE (aI d f))[e]?=some (qC (f i)):=by
 subst he;exact pE_get (lI f h)
def onS(p:Lq)(m:Lq)(W:La)(d:Nat):Nat->AState
 |j=>⟨[(1,.arr (pE p)),(2,.lptr 1 0 0),(4,.lptr 2 0 0),(5,.lsl 3 0 d (some d) 3),(15,.arr (pE p)),(16,i64 ((d+1:Nat):Int)),(17,i64 j)],[(1,some ⟨100,9,[W]⟩),(2,some ⟨104,2,[[.emp,.emp]]⟩),(3,some ⟨42,3,pE (aI d λi=>tpV p m i j)⟩)],4,61⟩
def onI(p:Lq)(m:Lq)(W:La)(d:Nat)(j:Nat):Nat->AState
 |i=>⟨[(1,.arr (pE p)),(2,.lptr 1 0 0),(4,.lptr 2 0 0),(5,.lsl 3 0 d (some d) 3),(15,.arr (pE p)),(16,i64 ((d+1:Nat):Int)),(17,i64 j),(6,i64 j),(7,.lptr 4 0 0),(22,i64 j),(23,i64 i)],[(1,some ⟨100,9,[W]⟩),(2,some ⟨104,2,[[.emp,.emp]]⟩),(3,some ⟨42,3,pE (aI d (tpI p m j i))⟩),(4,some ⟨42,3,[qC (coP p j)]⟩)],5,61⟩
theorem fs_on (p m:Lq) (l r:Bool) (a b:Rat) (d s t:Nat) (g iv bz:Lq) (hl:p.length=d+1) (htr:am p=p) (hd:d<=1000) (hp:bdL p s) (hm:bdL m t) (hs:1<=s) (ht:1<=t) (hml:d<=m.length) (hlim:(d+2) * (s+t+1)<=137438953472)
    (hde:FS 184 [.arr (pE p)] (.arr (pE (aQ p)))) (hbz:FS 183 [.arr (pE (aQ p)),.arr (pE p)] (.tup [.arr (pE g),.arr (pE iv),.arr (pE bz)]))
    (hmu:gQ (tpQ p m) iv) (hdi:iz (aG (tpQ p m) iv) p):
    FS 99 [.agg (wC m l r (qC a) (qC b)),.arr (pE p)] (.agg (ruC p (bJ (aG (tpQ p m) iv) p).2)):=by
 have hWc:∀c∈wC m l r (qC a) (qC b),Closed c:=ju (.inr ⟨a,rfl⟩) (.inr ⟨b,rfl⟩);have x:am p≠[]:=by rw[htr];intro e;rw[e] at hl;simp at hl
 have o:=ce p ω;rw[show a8 p=(d:Int) by unfold a8;rw[htr,hl];omega] at o;have n:aI d (λi=>tpV p m i (d+1))=tpQ p m:=by unfold tpQ;rw[hl];rfl
 refine f_c Tryz.func99 ?_;refine r_z 2 ?_;refine r_c 4 (o) ?_;refine a_z ?_;refine ae (r_z 3 ?_);refine aJ (λ_:Unit=>⟨[(1,.arr (pE p)),(4,.lptr 1 0 0),(5,.arr (pE (tpQ p m)))],[(1,some ⟨104,2,[[.emp,.emp]]⟩)],2,61⟩) (λ_=>True) ?_ ?_;refine aj (aC (onS p m (wC m l r (qC a) (qC b)) d) (λj=>d+1- j) (λj=>j<=d+1) 0 (mN _) ?_ ?_);rw[onS.eq_1,HJ];refine s_x [(1,2),(2,4),(3,5)] (λhs=>dJ) (λhs=>?_)
 ·repeat' (first|exact aF|refine h_c ?_ ?_|exact aB (CvL.clo hs hWc)|exact uj hs d|exact bG)
 intro j C;rw[onS.eq_1];by_cases hlt:j< d+1;have q:(pE p)[((j:Nat):Int).toNat]?=some (qC (coP p j)):=pE_get (cm ω);refine q_z 1 ?_;refine ae (cT (an (ae (aj (s_r 6 ?_)))));refine a_1 ?_;refine i_x q ?_;refine l_x q ?_;refine a_z ?_;refine r_z 2 ?_;refine AWp.cutB (λ_:Unit=>onI p m (wC m l r (qC a) (qC b)) d j j) (λ_=>True) ?_ ?_;refine aj (aC (onI p m (wC m l r (qC a) (qC b)) d j) (λi=>j- i) (λi=>i<=j) 0 (mN _) ?_ ?_);rw[onI.eq_1,tpI_0];exact s_x [(4,7)] (λhs=>dJ) (λhs=>e_21);intro i B;rw[onI.eq_1];by_cases hlt2:i< j;have hv:tpI p m j i i=tpV p m i j:=by unfold tpI;rw[if_neg ω]
 have A:=DO hp hm hs ht i j;have D:=dc hp hs j;have y:=dc hm ht (j- 1- i);have z:=cP (coP p j) (coP m (j- 1- i));have e1:j* (s+t+1)<=(d+1) * (s+t+1):=mC _ ω;have e2:(d+2) * (s+t+1)=(d+1) * (s+t+1)+(s+t+1):=Ni _ _;have v:=cQ (coP p j) (coP m (j- 1- i)) ω;have u:=eS (tpI p m j i i) (coP p j* coP m (j- 1- i)) (by rw[hv];omega)
 have w:(pE m)[((j- 1- i:Int)).toNat]?=some (qC (coP m (j- 1- i))):=by
  rw[show((j:Int)- 1- i).toNat=j- 1- i by omega];exact pE_get (cm ω)
 refine q_z 1 ?_;refine ae (cT (an (ae (aj (r_z 2 ?_)))));refine r_d ba 19 ?_;refine a_5 ?_;refine bZ (.load_l rfl rfl (getT (i:=i) (d:=d) (f:=tpI p m j i) ω ω) TG.h TS.h (nle rfl)) rfl rfl ?_;refine a_7 ?_;refine i_x w ?_;refine l_x w ?_;refine c_s (v) ?_;refine c_s (u) ?_;refine a_1 ?_;refine eK (.store rfl rfl (getT (i:=i) (d:=d) (f:=tpI p m j i) ω ω) rfl rfl rfl TS.h (nle rfl)) ?_;refine aq (n_k ?_);refine r_m 2 ?_;refine a_z ?_;refine⟨i+1,ω,hlt2,?_⟩;rw[onI.eq_1];refine s_x [] (λhs=>dJ) (λhs=>?_)
 ·repeat' (first|exact aF|refine h_c ?_ ?_|exact aB (CvL.clo hs hWc)|exact bv hs (aK [coP p j])|exact aM hs (setT hlt2 ω (vY i)) (aK _)|exact bG)
 have k:i=j:=ω
 subst k;refine q_z 1 ?_;refine ae (cF (ay ⟨(),trivial,?_⟩))
 try simp only[onI.eq_1]
 exact s_x [] (λhs=>dJ) (λhs=>e_21);rintro _ _;rw[onI.eq_1,tpI_e];refine r_m 2 ?_;refine a_z ?_;refine⟨j+1,ω,hlt,?_⟩;rw[onS.eq_1];exact s_x [] (λhs=>dJ) (λhs=>e_21);have k:j=d+1:=ω
 subst k;refine q_z 1 ?_;refine ae (cF (ay ⟨(),trivial,?_⟩));rw[n];refine s_x [(1,4)] (λhs=>?_) (λhs=>?_)
 ·repeat' (first|exact aV|refine aA rfl ?_ ?_|exact ii hs rfl (aR rfl) rfl (by rw[<-n];simp)|exact aZ)
 ·repeat' (first|exact aF|refine h_c ?_ ?_|exact bG|refine aB ?_|exact av|refine ai ?_ ?_|exact ii hs rfl (aR rfl) rfl (by rw[<-n];simp)|exact aZ)
 rintro _ _;refine r_c 11 (hde) ?_;refine c_s (hbz) ?_;refine a_z ?_;refine r_c 8 (uU _ iv hmu) ?_;refine c_s (Ag _ p hdi x) ?_;refine a_z ?_;exact ak (c_e (aD (dm _ _)))

def apS(t:Lq)(s:Lq)(W:La):Nat×Rat->AState
 |(i,o)=>⟨[(2,.lptr 1 0 0),(4,.lptr 2 0 0),(5,.lptr 3 0 0),(6,.arr (pE s)),(20,.arr (pE t)),(21,i64 t.length),(22,i64 i)],[(1,some ⟨104,2,[W]⟩),(2,some ⟨42,3,[zC]⟩),(3,some ⟨42,3,[qC o]⟩)],4,37⟩
theorem Ls (p w f m:Lq) (s t:Nat) (hsu:FS 189 [.agg (ruC p w)] (.arr (pE m))) (h0:am p≠[]) (o1:iz f p) (o2:gQ w (bJ f p).2) (o3:iz (aG w (bJ f p).2) p)
    (hp:bdL (apR p w f) s) (hm:bdL m t) (hs:1<=s) (ht:1<=t) (hpl:(apR p w f).length<=1000000) (hlen:(apR p w f).length<=m.length) (hlim:((apR p w f).length+2) * (s+t+1)<=137438953472):
    FS 102 [.agg (ruC p w),.arr (pE f)] (.agg (qC (ofQ (apR p w f) m (apR p w f).length))):=by
 have d:=Ag f p o1 h0;have b:=uU w _ o2;have a:=Ag _ p o3 h0;obtain⟨T,k⟩:∃T,T=apR p w f:=⟨_,rfl⟩;rw[show(bJ (aG w (bJ f p).2) p).2=T from k.symm] at a;rw[<-k] at hp hpl hlen hlim⊢;have n:=dm p w;refine f_c Tryz.func102 ?_;refine r_z 2 ?_;refine r_z 1 ?_;refine r_c 3 (hsu) ?_;refine a_z ?_;refine ae (ae (r_d ba 12 ?_));refine c_s (d) ?_;refine c_s (b) ?_;refine c_s (a) ?_;refine a_2 ?_;refine aq (n_k ?_);refine aJ (λ_:Unit=>⟨[(4,.lptr 1 0 0),(5,.lptr 2 0 0)],[(1,some ⟨42,3,[zC]⟩),(2,some ⟨42,3,[qC (ofQ T m T.length)]⟩)],3,37⟩) (λ_=>True) ?_ ?_;refine aj (aC (apS T m (ruC p w)) (λx=>T.length- x.1) (λx=>x.1<=T.length/\x.2=ofQ T m x.1) (0,0) ⟨mN _,rfl⟩ ?_ ?_);simp only[apS.eq_1];rw[qC0];exact s_f [(1,2),(2,4),(3,5)];rintro⟨i,o⟩ ⟨q,g⟩;simp only at q g;rw[apS.eq_1];by_cases hlt:i< T.length;refine q_z 1 ?_;refine ae (cT (an ?_));have c:(pE T)[((i:Nat):Int).toNat]?=some (qC (coP T i)):=pE_get (cm hlt);have e:(pE m)[((i:Nat):Int).toNat]?=some (qC (coP m i)):=pE_get (cm ω);have v:=dc hp hs i;have u:=dc hm ht i;have l:=Ej hp hm hs ht i;rw[<-g] at l;have e1:i* (s+t+1)<=(T.length+1) * (s+t+1):=mC _ ω;have e2:(T.length+2) * (s+t+1)=(T.length+1) * (s+t+1)+(s+t+1):=Ni _ _;have b:=cQ (coP T i) (coP m i) ω;have r:=cP (coP T i) (coP m i);have j:=eS o (coP T i* coP m i) ω;refine ae (aj (s_r 6 ?_));refine a_1 ?_;refine i_x c ?_;refine l_x c ?_;refine a_z ?_;refine r_d ba 9 ?_;refine a_4 ?_;refine i_x e ?_
 refine l_x e ?_;refine c_s (b) ?_;refine c_s (j) ?_;refine a_1 ?_;refine aq (n_k ?_);refine r_m 2 ?_;refine a_z ?_;refine⟨(i+1,o+coP T i* coP m i),by simp only;omega,⟨hlt,by simp only;rw[ofQ,<-g]⟩,?_⟩;simp only[apS.eq_1];exact s_f [];have h:i=T.length:=ω
 subst h;refine q_z 1 ?_;refine ae (cF (ay ⟨(),trivial,?_⟩));rw[g];exact s_e [(1,4),(2,5)];rintro _ _;refine r_z 2 ?_;exact ak (c_e (aU _))
def smsS(T:Lq)(n:Nat):Nat->AState
 |k=>⟨[(3,.arr (pE T)),(4,i64 n),(5,.lsl 1 0 (k+1) none 3),(6,i64 ((k+1:Nat):Int))],[(1,some ⟨42,3,pE (suL T n k)⟩)],2,57⟩
def smsI(T:Lq)(n:Nat)(k:Nat):Nat->AState
 |i=>⟨[(3,.arr (pE T)),(4,i64 n),(5,.lsl 1 0 (k+1) none 3),(6,i64 ((k+1:Nat):Int)),(7,.lptr 2 0 0),(8,i64 ((i+1:Nat):Int))],[(1,some ⟨42,3,pE (suL T n k)⟩),(2,some ⟨42,3,[qC (nwA T n (suL T n k) (k+1) i)]⟩)],3,57⟩
theorem fs_sums(p w:Lq)(n:Nat)(hl:(am p).length=n+1)(hn:1<=n)(hn2:n<=1000)(hpl:p.length<=1099511627776)(hok:∀k,k< n- 1->Kc (am p) n k):
    FS 189 [.agg (ruC p w)] (.arr (pE (suL (am p) n (n- 1)))):=by
 have l:=ee p ω;have b:=ce (am p) ω;rw[show a8 (am p)=(n:Int) by rw[IU];unfold a8;rw[hl];omega] at b;have t:=dm p w;have m:=fF (n:Int) ω;generalize am p=T at *
 refine f_c Tryz.func189 ?_;refine r_z 2 ?_;refine r_c 4 (l) ?_;refine a_z ?_;refine r_c 3 (b) ?_;refine a_z ?_;refine r_c 4 (m) ?_;refine a_z ?_;refine ae (r_z 1 ?_);refine aJ (smsS T n) (λk=>k=n- 1) ?_ ?_;refine aj (aC (smsS T n) (λk=>n- k) (λk=>k<=n- 1) 0 (mN _) ?_ ?_);rw[smsS.eq_1];have:=(aK [((n:Int):Rat)]);exact s_f [(1,5)];intro k o;rw[smsS.eq_1];have d:=jc T n k;by_cases hlt:k< n- 1;obtain⟨o1,o2⟩:=hok k hlt
 have c:(pE T)[((n:Int)- ((k+1:Nat):Int)).toNat]?=some (qC (coP T (n- (k+1)))):=by
  rw[show((n:Int)- ((k+1:Nat):Int)).toNat=n- (k+1) by omega];exact pE_get (cm ω)
 have g:=cQ (coP T (n- (k+1))) (((k+1:Nat):Int):Rat) o1;refine ae (q_z 3 ?_);refine cT (an (ae (aj (ae (r_d ba 11 ?_)))));refine a_4 ?_;refine i_x c ?_;refine l_x c ?_;refine c_s (fF ((k+1:Nat):Int) ω) ?_;refine c_s (g) ?_;refine a_2 ?_;refine aq (n_k ?_);refine ae (r_z 1 ?_);refine aJ (λ_:Unit=>smsI T n k k) (λ_=>True) ?_ ?_;refine aj (aC (smsI T n k) (λi=>k- i) (λi=>i<=k) 0 (mN _) ?_ ?_);rw[smsI.eq_1];exact s_x [(2,7)] (λhs=>dJ) (λhs=>e_22);intro i u;rw[smsI.eq_1];by_cases hlt2:i< k;obtain⟨q,r⟩:=o2 i hlt2
 have f:(pE T)[((n:Int)- ((i+1:Nat):Int)).toNat]?=some (qC (coP T (n- (i+1)))):=by
  rw[show((n:Int)- ((i+1:Nat):Int)).toNat=n- (i+1) by omega];exact pE_get (cm ω)
 have j:∀e,e=k+1- (i+1)->(pE (suL T n k))[e]?=some (qC (coP (suL T n k) (k+1- (i+1)))):=λe s=>by
  rw[s];exact pE_get (cm ω)
 refine ae (q_z 3 ?_);refine cT (an (ae (aj (r_d ba 16 ?_))));refine a_5 ?_;refine i_x f ?_;refine l_x f ?_;refine a_5 ?_;refine bZ (.load_l rfl rfl (j _ ω) TG.h TS.h (nle rfl)) rfl rfl ?_;refine c_s (cQ _ _ q) ?_;refine c_s (eS _ _ r) ?_;refine a_1 ?_;refine aq (n_k ?_);refine r_m 3 ?_;refine a_z ?_;refine⟨i+1,ω,hlt2,?_⟩;rw[smsI.eq_1];exact s_x [] (λhs=>dJ) (λhs=>e_22);have a:i=k:=ω
 subst a;refine ae (q_z 3 ?_);refine cF (ay ⟨(),trivial,?_⟩)
 try simp only[smsI.eq_1]
 exact s_x [] (λhs=>dJ) (λhs=>e_22);rintro _ _
 try simp only[smsI.eq_1]
 refine r_m 6 ?_;refine c_s (iP _) ?_;refine a_z ?_;refine r_m 3 ?_;refine a_z ?_;refine⟨k+1,ω,ω,?_⟩;rw[smsS.eq_1];have e:pE (suL T n k)++[qC (-(nwA T n (suL T n k) (k+1) k))]=pE (suL T n (k+1)):=by rw[suL,Gs]
 refine s_x [(1,5)] (λhs=>dJ) (λhs=>?_) ?_
 ·repeat' (first|exact aF|refine h_c ?_ ?_|exact aM hs e (aK _)|exact bG)
 ·repeat' (first|exact ShrL.nil|refine ShrL.cons rfl rfl rfl rfl (by first|(simp[jc])|rfl|(simp;done)|(simp <;> omega)) ?_)
 have a:k=n- 1:=ω
 refine ae (q_z 3 ?_);refine cF (ay ⟨k,a,?_⟩)
 try simp only[smsS.eq_1]
 exact s_f [];rintro k o;subst o;have d:=jc T n (n- 1);rw[smsS.eq_1];refine r_z 2 ?_;exact ak (Fin.tmpS rfl rfl rfl (by rw[xZ,d]) (aK _))
theorem Ih(p w m:Lq)(l r:Bool)(a b:Rat)(hcw:FS 97 [.agg (wC m l r (qC a) (qC b))] (i64 0))(hck:FS 188 [.agg (ruC p w)] (i64 0)):
    FS 101 [.agg (wC m l r (qC a) (qC b)),.agg (ruC p w)] (i64 0):=by
 have d:∀c∈wC m l r (qC a) (qC b),Closed c:=ju (.inr ⟨a,rfl⟩) (.inr ⟨b,rfl⟩);refine f_n Tryz.func101 ?_ ?_;exact ac (aD d) (ac (aD (dm p w)) af);refine r_z 3 ?_;refine ae (r_c 3 (hcw) ?_);refine a_z ?_;refine s_r 2 ?_;refine a_1 ?_;refine o_0 (.bin rfl rfl (vF cx (rfl))) ?_;refine aq ?_;refine cF (an (r_c 3 (hck) ?_));refine a_z ?_;exact ak (t_e (ah _))
theorem π{p:Prop}(h:p:=by rw[sr];exact nk (by simp)):p:=h
theorem EO (p w m:Lq) (l r:Bool) (a b:Rat) (d:Nat) (v:Nat->Rat) (hbo:FS 101 [.agg (wC m l r (qC a) (qC b)),.agg (ruC p w)] (i64 0))
    (hap:∀k,k<=d->FS 102 [.agg (ruC p w),.arr (pE (List.replicate k 0++[((1:Int):Rat)]))] (.agg (qC (v k)))) (hd:d< m.length) (hml:m.length<=1000) (hm:∀q∈m,sm q) (hv:∀k,k<=d->sm (v k))
    (heq:∀k,k< d->v k=coP m k) (hne:v d≠coP m d):
    FS 33 [.agg (wC m l r (qC a) (qC b)),.agg (ruC p w)] (.tup [i64 ((d:Int)- 1),bln true,i64 0]):=by
 have j:∀c∈wC m l r (qC a) (qC b),Closed c:=ju (.inr ⟨a,rfl⟩) (.inr ⟨b,rfl⟩);refine f_n Tryz.func33 ?_ ?_;exact ac (aD j) (ac (aD (dm p w)) af);refine r_z 5 ?_;refine ae (r_c 4 (hbo) ?_);refine a_z ?_;refine s_r 2 ?_;refine a_1 ?_;refine o_0 (.bin rfl rfl (vF cx (rfl))) ?_;refine aq ?_;refine cF (an (ae (r_z 4 ?_)));refine aJ (λ_:Unit=>⟨[],[],1,41⟩) (λ_=>False) ?_ ?_;refine aj (aC (λk:Nat=>⟨[(3,.lptr 1 0 0),(17,.arr (pE m)),(18,i64 m.length),(19,i64 k)],[(1,some ⟨104,2,[ruC p w]⟩)],2,41⟩) (λk=>d+1- k) (λk=>k<=d) 0 (mN _) ?_ ?_);have:=dm p w;exact s_f [(1,3)];intro k o;have g:(pE m)[((k:Nat):Int).toNat]?=some (qC (coP m k)):=pE_get (cm ω);have e:=FSpec.zerosQ (L:=[((1:Int):Rat)]) (hap k o) (aD (dm p w));have f:=lD (v k) (coP m k) (hv k o) (pL hm k);refine q_z 1 ?_;refine ae (cT (an (ae (aj (s_r 6 ?_)))));refine a_1 ?_;refine i_x g ?_;refine l_x g ?_;refine a_z ?_;by_cases hkd:k< d
 ·rw[show eD (v k) (coP m k)=0 by unfold eD;rw[heq k hkd,if_neg φ,if_pos rfl]] at f
  refine ae (r_d ba 10 ?_);refine c_s (fF 1 δ) ?_;refine a_1 ?_;refine o_2 (.append_l rfl rfl rfl te_62.h rfl rfl rfl rfl rfl d_o (I6 _) rfl rfl (.lsl rfl (nle rfl)) TZ.h rfl TB.h d_o μ) ?_;refine o_1 (.callS1 rfl rfl rfl (.keep (.shut rfl d_n (.nil))) rfl ((FSpec.argE2 e π))) ?_;refine c_s (f) ?_;refine o_0 (.bin rfl rfl (vF cx (rfl))) ?_;refine aq (n_k ?_);refine cF (an (r_m 2 ?_));refine a_z ?_;refine⟨k+1,ω,hkd,?_⟩;have:=dm p w;exact s_f []
 ·have i:k=d:=ω
  subst i
  have n:¬eD (v k) (coP m k)=0:=by
   unfold eD;split;decide
   first|decide|(rw[if_neg hne];decide)
  refine ae (r_d ba 10 ?_);refine c_s (fF 1 δ) ?_;refine a_1 ?_;refine o_2 (.append_l rfl rfl rfl te_62.h rfl rfl rfl rfl rfl d_o (I6 _) rfl rfl (.lsl rfl (nle rfl)) TZ.h rfl TB.h d_o μ) ?_;refine o_1 (.callS1 rfl rfl rfl (.keep (.shut rfl d_n (.nil))) rfl ((FSpec.argE2 e π))) ?_;refine c_s (f) ?_;refine o_0 (.bin rfl rfl (vT cx (bne_iff_ne.2 n))) ?_;refine aq (n_k ?_);refine cT (r_z 5 ?_);refine ak (Fin.many ⟨_,_,rfl,rfl,⟨_,_,rfl,rfl,⟨_,_,rfl,rfl,rfl⟩⟩⟩ (nle rfl) ?_);exact CvL.clo aE (ac (ah _) (ac (ah _) (ac (ah _) af)))
 rintro _ h;exact h.elim




section
variable {a b:Rat}(h:a< b){k:Nat}(hk:1<=k/\k<=4)(ha:qs a<=20)(hb:qs b<=20)
include h hk ha hb
end
section
variable {a b a' b':Rat}(h:a< b)(h':a'< b'){k:Nat}(hk:1<=k/\k<=4)(ha:qs a<=20)(hb:qs b<=20)(ha':qs a'<=20)(hb':qs b'<=20)
include h h' hk ha hb ha' hb'
end


end Go.Proofs.YtjmkjicckobojaaGreatDoor
namespace Go.Proofs.YtjmkjicckobojaaGreatDoor
open Go.Abs Go.Deep Go.RowKit Go.WideShapes
set_option maxRecDepth 20000
def okN(r:fO):Prop:=l8 r.1/\l8 r.2.1/\r.2.2<=255
theorem numP_of{H:Type}{enc:TypeId×Value->H}{W:World}{base:Nat}{v:Value}{d:DataW H}{ps:List MemPlace}(hv:Value.okWide Tryz.prog W .any base 24 v)(h:DataW.Trod enc Tryz.prog W 0 (λ_=>true) true 24 v d ps):
    ∃r:fO,okN r/\RV (λ_=>False) (λ_=>none) W (.agg (nuC r.1 r.2.1 r.2.2)) v:=by
 obtain⟨n,m,l,j,_⟩:=tyN
 obtain⟨cs,rfl,_⟩:∃cs,v= .agg cs/\True:=by
  unfold Value.okWide at hv;rw[j] at hv;obtain⟨cs,i,_⟩:=hv;exact⟨cs,i,trivial⟩
 obtain⟨a,c⟩:=h;obtain⟨r,g,b,f,e⟩:=zQ c;refine⟨r,⟨g,b,f⟩,cs,rfl,?_⟩;have k:cs.toList=[.int .i64 r.1,.int .i64 r.2.1,.int .u8 r.2.2]:=by simpa[Value.cells] using e
 rw[k];exact⟨_,_,rfl,rfl,_,_,rfl,rfl,_,_,rfl,rfl,rfl⟩
end Go.Proofs.YtjmkjicckobojaaGreatDoor
namespace Go.Proofs.YtjmkjicckobojaaGreatDoor
open Go.Abs
set_option maxRecDepth 20000
def nO(r:fO):Bool:=decide (¬((r.2.2:Int) % 4≠0)/\¬r.1> 999999/\¬r.1< -999999/\¬r.2.1> 999999/\¬r.2.1< -999999)
def gP(l:List fO)(k:Nat):Bool:=l.all nO && decide (l.length<=k)
theorem uS(l:List fO)(k:Nat)(hl:l.length<=9223372036854775807)(hk:k<=1000000):FS 6 [.arr (nR l),i64 k] (bln (gP l k)):=by
 have m:(nR l).length=l.length:=by simp[nR]
 refine f_n Tryz.func6 ?_ ?_;exact ac (aP (c9 l)) (ac (ah _) af);refine r_z 1 ?_;refine ae (r_z 1 ?_);refine aJ (λ_:Unit=>⟨[(0,.arr (nR l)),(1,i64 k)],[],1,45⟩) (λ_=>l.all nO=true) ?_ ?_;refine aj (aC (λj:Nat=>⟨[(5,i64 ((j:Nat):Int)),(0,.arr (nR l)),(1,i64 k)],[],1,45⟩) (λj=>l.length- j) (λj=>j<=l.length/\(l.take j).all nO=true) 0 ⟨mN _,rfl⟩ ?_ ?_);have:=(aP (c9 l));exact s_f [];rintro j ⟨o,g⟩;by_cases hlt:j< l.length;obtain⟨r,n⟩:∃r,l[j]?=some r:=⟨_,eT hlt⟩
 have c:(nR l)[((j:Nat):Int).toNat]?=some (nuC r.1 r.2.1 r.2.2):=by
  rw[DH,nR,wS,n];rfl
 have b:nO r=false->gP l k=false:=λh=>by
  unfold gP;rw[OH];exact .inl (List.all_eq_false.2 ⟨r,mc n,by rw[h];decide⟩)
 refine ae (q_z 4 ?_);refine cT (an (ae (aj (s_r 6 ?_))));refine a_2 ?_;refine i_x c ?_;refine l_x c ?_;refine a_z ?_;by_cases c0:((r.2.2:Int) % 4≠0);have a:nO r=false:=decide_eq_false (by rintro⟨e0,e1,e2,d,f⟩;exact e0 c0);rw[b a];refine s_r 24 ?_;refine a_3 ?_;refine o_0 (.bin rfl rfl (vT cx ((by simpa using c0)))) ?_;refine a_z ?_;refine cT (r_z 1 ?_);exact ak (t_e (ah _));by_cases c1:r.1> 999999;have a:nO r=false:=decide_eq_false (by rintro⟨e0,e1,e2,d,f⟩;exact e1 c1);rw[b a];refine s_r 24 ?_;refine a_3 ?_;refine o_0 (.bin rfl rfl (vF cx ((by simpa using c0)))) ?_;refine d_z ?_;refine cT (r_z 1 ?_);exact ak (t_e (ah _));by_cases c2:r.1< -999999;have a:nO r=false:=decide_eq_false (by rintro⟨e0,e1,e2,d,f⟩;exact e2 c2);rw[b a];refine s_r 24 ?_;refine a_3 ?_;refine o_0 (.bin rfl rfl (vF cx ((by simpa using c0)))) ?_;refine d_z ?_;refine cT (r_z 1 ?_);exact ak (t_e (ah _));by_cases c3:r.2.1> 999999;have a:nO r=false:=decide_eq_false (by rintro⟨e0,e1,e2,d,f⟩;exact d c3);rw[b a];refine s_r 24 ?_;refine a_3 ?_;refine o_0 (.bin rfl rfl (vF cx ((by simpa using c0)))) ?_;refine d_z ?_;refine cT (r_z 1 ?_);exact ak (t_e (ah _));by_cases c4:r.2.1< -999999;have a:nO r=false:=decide_eq_false (by rintro⟨e0,e1,e2,d,f⟩;exact f c4);rw[b a];refine s_r 24 ?_;refine a_3 ?_;refine o_0 (.bin rfl rfl (vF cx ((by simpa using c0)))) ?_;refine d_z ?_;refine cT (r_z 1 ?_);exact ak (t_e (ah _));have a:nO r=true:=decide_eq_true ⟨c0,c1,c2,c3,c4⟩;refine s_r 24 ?_;refine a_3 ?_
 refine o_0 (.bin rfl rfl (vF cx ((by simpa using c0)))) ?_;refine d_z ?_;refine cF (an (r_m 3 ?_));refine a_z ?_;refine⟨j+1,ω,⟨hlt,?_⟩,?_⟩;rw[cZ n,List.all_append,g];simp[a];have:=(aP (c9 l));exact s_f [];have i:l.take j=l:=nk ω;rw[i] at g;refine ae (q_z 4 ?_);refine cF (ay ⟨(),g,?_⟩);have:=(aP (c9 l));exact s_f [];rintro _ g
 have e:gP l k=decide ((((nR l).length:Nat):Int)<=(k:Int)):=by
  unfold gP;rw[g,Bool.true_and,m];exact decide_eq_decide.2 ω
 rw[e];refine r_z 5 ?_;exact ak (t_e (ah _))
theorem good_qs{r:fO}(h:nO r=true)(hb:l8 r.1)(hd:l8 r.2.1):qs (qB r.1 r.2.1 r.2.2)<=20:=by
 obtain⟨i,g,e,j,f⟩:=of_decide_eq_true h;have hp:r.2.2 % 4=0:=ω
 have hN:bl r.1.natAbs<=20:=fx ω;unfold qB;rw[hp];show qs (Rat.divInt r.1 (xu r.2.1))<=20;obtain⟨d,a⟩:∃d,d=xu r.2.1:=⟨_,rfl⟩;have b:d≠0:=by rw[a];unfold xu;split <;> omega
 have c:bl d.natAbs<=20:=by rw[a];unfold xu;split <;> exact fx ω
 rw[<-a];by_cases hn:d< 0;rw[pJ _ d hn];exact gf ω (by rw[Ol];exact hN) ω;rw[pI _ d ω];exact gf ω hN ω
theorem uy{l:List fO}{k:Nat}(h:gP l k=true)(ho:okR l):bdL (nL l) 20/\(nL l).length<=k:=by
 unfold gP at h;rw[sj,pZ] at h;refine⟨λq b=>?_,by simpa[nL] using h.2⟩;obtain⟨r,a,rfl⟩:=sd.1 b;exact good_qs (h.1 r a) (ho r a).1 (ho r a).2.1
theorem E5(N D N' D':Int)(k k':Nat)(hN:l8 N)(hD:l8 D)(hk:k<=255)(hN':l8 N')(hD':l8 D')(hk':k'<=255):
    FS 9 [.agg (nuC N D k++nuC N' D' k')] (.tup [.agg (spC (qB N D k) (qB N' D' k')),.agg (rC (rq (qB N D k))++rC (rq (qB N' D' k')))]):=by
 have b1:=rp N D k hN hD hk;have b2:=rp N' D' k' hN' hD' hk';obtain⟨v,hv⟩:∃v,v=qB N D k:=⟨_,rfl⟩;obtain⟨w,b⟩:∃w,w=qB N' D' k':=⟨_,rfl⟩;rw[<-hv] at b1⊢;rw[<-b] at b2⊢;refine f_n Tryz.func9 ?_ ?_;exact ac (aD λc a=>(n7.1 a).elim (jv _ _ _ c) (jv _ _ _ c)) af;refine r_z 3 ?_;refine r_c 10 (b1) ?_;refine a_z ?_;refine r_c 10 (b2) ?_;refine a_z ?_;refine ae (r_d ba 8 ?_);refine a_8 ?_;refine aq (n_k ?_);refine ak (Fin.many ⟨_,_,rfl,⟨_,_,_,_,_,rfl,rfl,rfl,.inl ⟨TG.h,_,TS.h,nle rfl,rfl⟩⟩,⟨_,_,rfl,⟨_,_,_,_,_,rfl,rfl,rfl,.inl ⟨TG.h,_,TS.h,nle rfl,rfl⟩⟩,rfl⟩⟩ (nle rfl) ?_);exact ai (ao aE (ca _ _)) (ai (ao aE (aD λc a=>(n7.1 a).elim (gO _ c) (gO _ c))) av)
end Go.Proofs.YtjmkjicckobojaaGreatDoor
namespace Go.Proofs.YtjmkjicckobojaaGreatDoor
open Go.Abs Go.Deep Go.RowKit Go.WideShapes
set_option maxRecDepth 20000

end Go.Proofs.YtjmkjicckobojaaGreatDoor
namespace Go.Proofs.YtjmkjicckobojaaGreatDoor
open Go.Abs Go.ChangeShapes Go.Deep Go.RowKit Go.WideShapes
set_option maxRecDepth 20000
theorem tyG:∃f0 f1,(Tryz.prog).underlying 26=some (.struct #[f0,f1])/\f0.type=24/\f0.offset=0/\f1.type=24/\f1.offset=3:=
 ⟨{name:= "Low",type:=24,offset:=0,embedded:=false,tag:= "",pkgPath:= "",byteOffset:=0},{name:= "High",type:=24,offset:=3,embedded:=false,tag:= "",pkgPath:= "",byteOffset:=24},by kernel_rfl,rfl,rfl,rfl,rfl⟩
theorem tycG:(Tryz.prog).cellsOf 26=6:=by kernel_rfl
theorem gapP_of{H:Type}{enc:TypeId×Value->H}{W:World}{base:Nat}{v:Value}{d:DataW H}{ps:List MemPlace}(hv:Value.okWide Tryz.prog W .any base 26 v)(h:DataW.Trod enc Tryz.prog W 0 (λ_=>true) true 26 v d ps):
    ∃r:fO×fO,(okN r.1/\okN r.2)/\RV (λ_=>False) (λ_=>none) W (.agg (nuC r.1.1 r.1.2.1 r.1.2.2++nuC r.2.1 r.2.2.1 r.2.2.2)) v:=by
 obtain⟨C,D,p,c,t,z,x⟩:=tyG
 obtain⟨cs,rfl,_⟩:∃cs,v= .agg cs/\True:=by
  unfold Value.okWide at hv;rw[p] at hv;obtain⟨cs,c,_⟩:=hv;exact⟨cs,c,trivial⟩
 obtain⟨q,y⟩:=h;obtain⟨E,B,m,_,g,n,o⟩:=trod_struct2 p y;rw[c,t,FY] at n;rw[z,x,FY] at o;rw[tycG] at g;obtain⟨r,u,A,s,e⟩:=zQ n;obtain⟨a,k,b,i,f⟩:=zQ o
 have j:cs.toList=[.int .i64 r.1,.int .i64 r.2.1,.int .u8 r.2.2,.int .i64 a.1,.int .i64 a.2.1,.int .u8 a.2.2]:=by
  have w:(Value.agg cs).cells.toList=cs.toList:=by simp[Value.cells]
  rw[w] at e f g;generalize cs.toList=l at *
  match l,g with
  |[a0,a1,a2,a3,a4,a5],_=>
   simp at e f;obtain⟨rfl,rfl,rfl⟩:=e;obtain⟨rfl,rfl,rfl⟩:=f;rfl
 refine⟨(r,a),⟨⟨u,A,s⟩,⟨k,b,i⟩⟩,cs,rfl,?_⟩;rw[j];exact⟨_,_,rfl,rfl,_,_,rfl,rfl,_,_,rfl,rfl,_,_,rfl,rfl,_,_,rfl,rfl,_,_,rfl,rfl,rfl⟩
end Go.Proofs.YtjmkjicckobojaaGreatDoor
namespace Go.Proofs.YtjmkjicckobojaaGreatDoor
open Go.Abs
set_option maxRecDepth 20000
set_option maxHeartbeats 2000000











end Go.Proofs.YtjmkjicckobojaaGreatDoor
namespace Go.Proofs.YtjmkjicckobojaaGreatDoor
open Go.Abs Go.Deep Go.RowKit Go.WideShapes
set_option maxRecDepth 20000
theorem tyu8:(Tryz.prog).underlying 5=some (.int .u8):=by kernel_rfl
theorem u8P_of{H:Type}{enc:TypeId×Value->H}{W:World}{base:Nat}{v:Value}{d:DataW H}{ps:List MemPlace}(hv:Value.okWide Tryz.prog W .any base 5 v)(h:DataW.Trod enc Tryz.prog W 0 (λ_=>true) true 5 v d ps):
    ∃r:Nat,r<=255/\RV (λ_=>False) (λ_=>none) W (.v (.int .u8 r)) v:=by
 obtain⟨n,rfl⟩:∃n,v= .int .u8 n:=by
  unfold Value.okWide at hv;rw[tyu8] at hv;cases v with
  |int k n=>obtain⟨rfl,_⟩:=hv;exact⟨n,rfl⟩
  |_=>exact False.elim hv
 obtain⟨a,c⟩:=h;obtain⟨g,e0,_,f⟩:=DataW.trod_int tyu8 c;have e:n=g:=by simpa[Value.cells] using e0
 subst e;have b:=bounds_u8 f;refine⟨n.toNat,ω,?_⟩;show _=Value.int .u8 ((n.toNat:Nat):Int);rw[Int.toNat_of_nonneg b.1]
end Go.Proofs.YtjmkjicckobojaaGreatDoor
namespace Go.Proofs.YtjmkjicckobojaaGreatDoor
open Go.Abs Go.ChangeShapes Go.Deep Go.RowKit Go.WideShapes
set_option maxRecDepth 20000

end Go.Proofs.YtjmkjicckobojaaGreatDoor
namespace Go.Proofs.YtjmkjicckobojaaGreatDoor
open Go.Abs
set_option maxRecDepth 20000
set_option maxHeartbeats 4000000

theorem fs_On (m:Lq) (l r:Bool) (a b:Rat) (p wt:Lq) (hv:okW m l r a b) (ha:sm a) (hb:sm b) (hr:FS 98 [.arr (pE p)] (bln true)) (hlen:a8 p<=(m.length:Int)) (hpb:bdL p 68719476736) (hp0:am p≠[]) (hpl:p.length<=1099511627776)
    (hon:FS 99 [.agg (wC m l r (qC a) (qC b)),.arr (pE (cV p))] (.agg (ruC (cV p) wt))):
    FS 32 [.agg (wC m l r (qC a) (qC b)),.arr (pE p)] (.tup [.agg (ruC (cV p) wt),i64 0]):=by
 have g:∀c∈wC m l r (qC a) (qC b),Closed c:=ju (.inr ⟨a,rfl⟩) (.inr ⟨b,rfl⟩);have e:=nT m l r a b ⟨hv.1,hv.2.1⟩ hv.2.2 ha hb;have d:=EM p hpb hp0 hpl;have f:=ce p hpl;have i:=hv.2.1;refine f_c Tryz.func32 ?_;refine r_z 3 ?_;refine ae (r_c 3 (e) ?_);refine a_z ?_;refine aJ (λ_:Unit=>⟨[(1,.arr (pE p)),(2,.aptr [wC m l r (qC a) (qC b)] 0 0),(4,.lptr 1 0 0)],[(1,some ⟨104,2,[[.emp,.emp]]⟩)],2,31⟩) (λ_=>True) ?_ ?_;refine aj (s_r 3 ?_);refine a_1 ?_;refine o_0 (.bin rfl rfl (vF cx (rfl))) ?_;refine a_z ?_;refine cF (r_c 4 (hr) ?_);refine a_z ?_;refine cF (ae (r_d ba 7 ?_));refine c_s (f) ?_;refine d_2 ?_;refine aq (n_k ?_);refine cF (an ⟨(),trivial,?_⟩);exact s_f [(1,4)];rintro _ _;refine ae (r_d ba 6 ?_);refine c_s (d) ?_;refine c_s (hon) ?_;refine a_2 ?_;refine aq (n_k ?_);refine ak (Fin.many ⟨_,_,rfl,⟨_,_,_,_,_,rfl,rfl,rfl,.inl ⟨TG.h,_,TS.h,nle rfl,rfl⟩⟩,⟨_,_,rfl,rfl,rfl⟩⟩ (nle rfl) ?_);exact ai (ao aE (aD (dm _ _))) (ai (ao aE (ah _)) av)
section
variable {T:Lq}{n:Nat}(hn:1<=n/\n<=5)(hl:T.length=n+1)(ht:am T=T)(hm:aL T=1)(hb:bdL T 20)
include hn hl ht hm hb
end


theorem HK(n:Nat)(f:Nat->Rat):aI (n+1) f=aI n f++[f n]:=by simp[aI,FI]
theorem DQ{n:Nat}{f g:Nat->Rat}(h:∀i,i< n->f i=g i):aI n f=aI n g:=Nn λi a=>h i (xd.1 a)
theorem yU{r:Ren}{hp hp':Hq}{x y:La}(h:CvL r hp hp' x y):∀{xs ys:Lc},CvLL r hp hp' xs ys->CvLL r hp hp' (xs++[x]) (ys++[y])
 |[],ys,h'=>by cases (h':ys=[]);exact aB h
 |a::xs,ys,⟨b,ys',e,h1,h2⟩=>by
  subst e;exact CvLL.cons h1 (yU h h2)
theorem MQ{r:Ren}{hp hp':Hq}{xs ys zs:Lc}(h:CvLL r hp hp' xs ys)(e:ys=zs):CvLL r hp hp' xs zs:=e▸h
section
variable {T:Lq}{n:Nat}(hn:1<=n/\n<=5)(hl:T.length=n+1)(ht:am T=T)(hm:aL T=1)
include hn hl ht hm
end

section
variable (m:Lq)(l r:Bool)(a b:Rat)(ha:sm a)(hb:sm b)
include ha hb
end
section
variable {T V:Lq}{n:Nat}(hn:1<=n/\n<=5)(hl:T.length=n+1)(ht:am T=T)(hm:aL T=1)(hb:bdL T 40)(hH:Ht T 141)(hVl:V.length<=n)(hVb:bdL V 7200000)
include hn hl ht hm hb hH hVl hVb
end
section
variable (m:Lq)(l r:Bool)(a b:Rat)(ha:sm a)(hb:sm b)(p:Lq)
include ha hb
end
end Go.Proofs.YtjmkjicckobojaaGreatDoor
