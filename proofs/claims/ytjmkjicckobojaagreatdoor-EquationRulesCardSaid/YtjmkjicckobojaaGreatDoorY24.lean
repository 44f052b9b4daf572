/- Part Y24 of the proof. -/
import Derived.Test.YtjmkjicckobojaaGreatDoorY23
set_option linter.all false
namespace Go.Proofs.YtjmkjicckobojaaGreatDoor
open Go.Abs
set_option maxRecDepth 20000
set_option maxHeartbeats 1000000
def MJ(f g:Nat)(c:Cnt)(i:Int):Option Sp:=(vo f c i 0).bind λs0=>(pD (λk=>pQ c i (di c i s0 k)) g 0).map (di c i s0)
theorem Ip(f g:Nat)(c:Cnt)(i:Int)(s:Sp)(h:MJ f g c i=some s):FS 335 [plA c i] (.agg (spC s.1 s.2)):=by
 obtain⟨d,b,a⟩:=vd.1 h;obtain⟨k,e,rfl⟩:=M5.1 a;exact Lt f g c i d k b e
def za(f g:Nat)(c:Cnt)(i:Int)(q:Lq):Option Bool:=
 if c.p.length<=274877906944/\q.length<=274877906944 then(ut f c.p q).bind λd=>
  if d.length<=274877906944 then
   if a8 d< 1 then some false
   else(e8 f d).bind λc2=>(MJ f g c i).bind λs=>if sv c2 s.2/\pp c2 s.1 then some (decide (dN c2 s.1< dR c2 s.2)) else none
  else none
 else none
theorem If(f g:Nat)(c:Cnt)(i:Int)(q:Lq)(r:Bool)(h:za f g c i q=some r)(hf:f<=1000000):FS 319 [plA c i,.arr (pE q)] (bln r):=by
 unfold za at h;split at h
 case isFalse=>cases h
 case isTrue hl=>
 obtain⟨d,m,a⟩:=vd.1 h;split at a
 case isFalse=>cases a
 case isTrue hdl=>
 refine f_n Tryz.func319 ?_ ?_;exact ac (dH c i) (ac (aw q) af);refine r_z 1 ?_;refine r_c 10 (LA f c.p q d m hl.1 hl.2) ?_;refine a_z ?_;refine ae (r_c 3 (ce d ω) ?_);refine a_z ?_;refine au rfl (λl=>?_) (λl=>?_);have j:a8 d< 1:=by simpa using l
 rw[if_pos j] at a;cases a;refine r_z 1 ?_;exact ak (t_e (ah _))
 ·have j:¬a8 d< 1:=by simpa using l
  rw[if_neg j] at a;obtain⟨b,k,n⟩:=vd.1 a;obtain⟨s,hs,e⟩:=vd.1 n;split at e
  case isFalse=>cases e
  case isTrue hk=>
  cases e;refine an (r_c 7 (oI f d b k hf) ?_);refine c_s (Ip f g c i s hs) ?_;refine a_z ?_;refine ae (r_d ba 10 ?_);refine c_s (mQ b s.2 hk.1) ?_;refine c_s (kU b s.1 hk.2) ?_;refine a_2 ?_;refine aq (n_k ?_);exact ak (t_e (ah _))
def Br(c:Cnt)(i:Int)(c2:Cnt)(s:Sp):Option Bool:=if sv c2 s.2/\pp c2 s.1/\nE c s then some (decide (dR c2 s.2=dN c2 s.1)) else none
def Jw(f g:Nat)(c:Cnt)(i:Int)(q:Lq):Option Int:=
 if q.length<=274877906944 then
  if a8 q< 0 then some 0
  else(za f g c i q).bind λb=>if b then some 0 else(e8 f q).bind λc2=>(vo f c i 0).bind λs0=>
   (pD (λk=>Br c i c2 (di c i s0 k)) g 0).bind λk=>if eg q (di c i s0 k).2 then some (sgZ (ag q (di c i s0 k).2).num) else none
 else none
def pgS(c:Cnt)(i:Int)(q:Lq)(c2:Cnt):Nat->AState
 |k=>⟨[(0,plA c i),(3,bP q),(4,.lptr 1 0 0),(5,.aptr [[kA c2]] 0 0),(18,.clos 311 [] [bPl c i])],[(1,some ⟨3,1,[[i64 0]]⟩)],2,34⟩
def pgX(r:Int):Unit->AState
 |u=>⟨[(4,.lptr 1 0 0)],[(1,some ⟨3,1,[[i64 r]]⟩)],2,34⟩
theorem w7(c:Cnt):Closed (.aptr [[kA c]] 0 0):=aN (ac (iD c) af)
theorem fs_sign(f g:Nat)(c:Cnt)(i:Int)(q:Lq)(r:Int)(h:Jw f g c i q=some r)(hf:f<=1000000):FS 281 [plA c i,.arr (pE q)] (i64 r):=by
 unfold Jw at h;split at h
 case isFalse=>cases h
 case isTrue hl=>
 refine f_n Tryz.func281 ?_ ?_;exact ac (dH c i) (ac (aw q) af);refine r_z 2 ?_;refine AWp.ent (st':=⟨[(0,plA c i),(3,bP q),(4,.lptr 1 0 0)],[(1,some ⟨3,1,[[i64 0]]⟩)],2,34⟩) ?_ ?_;exact s_f [(1,4)];by_cases hd:a8 q< 0;rw[if_pos hd] at h;cases h;refine ae (r_c 8 (ce q ω) ?_);refine a_2 ?_;refine n_g rfl (by simp[hd]) ?_;refine n_g rfl (by simp[hd]) ?_;refine n_g rfl (by simp[hd]) ?_;refine o_0 (.pickT rfl (by simp[hd]) rfl) ?_;refine aq ?_;refine au rfl (λp=>?_) (λp=>?_);refine r_z 1 ?_;exact ak (Fin.cell1E rfl rfl rfl TG.h rfl rfl (ah _));cases p;rw[if_neg hd] at h;obtain⟨b,hb,w⟩:=vd.1 h;refine ae (r_c 8 (ce q ω) ?_);refine a_2 ?_;refine y_g rfl (by simp[hd]) (.move rfl) ?_;refine y_g rfl (by simp[hd]) (.load_a1 rfl rfl TG.h rfl) ?_;refine y_g rfl (by simp[hd]) (.call rfl rfl rfl (If f g c i q b hb hf)) ?_;refine o_0 (.pickF rfl (by simp[hd]) rfl) ?_;refine aq ?_;refine au rfl (λp=>?_) (λp=>?_);have n:b=true:=p;subst n;rw[if_pos rfl] at w;cases w;refine r_z 1 ?_;exact ak (Fin.cell1E rfl rfl rfl TG.h rfl rfl (ah _));have n:b=false:=p;subst n;rw[if_neg (show¬false=true by decide)] at w;obtain⟨a,E,O⟩:=vd.1 w;obtain⟨m,A,N⟩:=vd.1 O;obtain⟨j,z,C⟩:=vd.1 N;split at C
 case isFalse=>cases C
 case isTrue hev=>
 cases C;obtain⟨t1,_,t2⟩:=li z
 have v:∀k,k<=j->sv a (di c i m k).2/\pp a (di c i m k).1/\nE c (di c i m k):=λk o=>by
  have:∃b,Br c i a (di c i m k)=some b:=by
   by_cases e:k=j;rw[e];exact⟨_,t1⟩;exact⟨_,t2 k (mN _) ω⟩
  obtain⟨b,hb⟩:=this;unfold Br at hb;split at hb;assumption;cases hb
 have G:=sN f c i m j A (λk o=>(v k ω).2.2);obtain⟨r,D⟩:∃r,r=sgZ (ag q (di c i m j).2).num:=⟨_,rfl⟩;rw[<-D];refine an (r_c 4 (oI f q a E hf) ?_);refine a_z ?_;refine AWp.ent (st':=⟨[(0,plA c i),(3,bP q),(4,.lptr 1 0 0),(5,.aptr [[kA a]] 0 0)],[(1,some ⟨3,1,[[i64 0]]⟩)],2,34⟩) ?_ ?_;have:=(ac (iD a) af);exact s_f [];refine ae (r_c 2 (sP c i) ?_);refine aq ?_;refine aJ (pgX r) (λ_=>False) ?_ (λ_ h=>h.elim);refine aj (AWp.rangeFuncB (α:=Nat) (γ:=Unit) j (pgS c i q a) (λk=>k) (λk=>k<=j) (pgX r) (λe _=>e= .ret) 0 rfl G rfl rfl ?_ (λ_=>⟨rfl,rfl⟩) (λ_=>rfl) (mN _) rfl (λ_ h=>h) ?_ ?_ ?_ ?_ ?_);intro k xs t;cases t;rfl;rw[pgS.eq_1];have:=w7 a;exact s_t [];exact ac (dY c i) af;intro l k xs o t;cases t;have M:=v k o;obtain⟨s,d⟩:∃s,s=di c i m k:=⟨_,rfl⟩;rw[<-d] at M⊢;obtain⟨K,F,L⟩:=M;show AWp _ _ _ _ ⟨[(19,.agg (spC s.1 s.2)),(0,plA c i),(3,bP q),(4,.lptr 1 0 0),(5,.aptr [[kA a]] 0 0),(18,.clos 311 [] [bPl c i]),(1000,plA c i),(1003,bP q),(1004,.lptr 1 0 0),(1005,.aptr [[kA a]] 0 0),(1018,.clos 311 [] [bPl c i])],[(1,some ⟨3,1,[[i64 0]]⟩)],2,34⟩;refine r_m 2 ?_;refine a_z ?_;refine aj (ae (r_d ba 9 ?_));refine c_s (mQ a s.2 K) ?_;refine c_s (kU a s.1 F) ?_;refine a_1 ?_;refine aq (n_k ?_);refine au rfl (λH=>?_) (λH=>?_);have B:dR a s.2=dN a s.1:=by simpa using H
 have J:k=j:=by
  refine OB o (Ez λy=>?_);have x:=t2 k (mN _) y;rw[<-d] at x;unfold Br at x;rw[if_pos ⟨K,F,L⟩] at x;simp[B] at x
 subst J;rw[<-d] at hev D;refine r_c 6 (fg q s.2 hev) ?_;refine c_s (cX (ag q s.2)) ?_;refine a_z ?_;refine ak (⟨rfl,(),rfl,?_⟩);rw[D];show SEntT _ ⟨[(1004,.lptr 1 0 0)],[(1,some ⟨3,1,[[i64 (sgZ (ag q s.2).num)]]⟩)],2,34⟩;exact s_t [];have B:¬dR a s.2=dN a s.1:=by simpa using H
 have J:k< j:=by
  refine Oh o λe=>?_;subst e;rw[<-d] at t1;unfold Br at t1;rw[if_pos ⟨K,F,L⟩] at t1;simp[B] at t1
 refine an (⟨k+1,⟨J,rfl⟩,?_⟩);show SEntT _ ⟨[(1000,plA c i),(1003,bP q),(1004,.lptr 1 0 0),(1005,.aptr [[kA a]] 0 0),(1018,.clos 311 [] [bPl c i])],[(1,some ⟨3,1,[[i64 0]]⟩)],2,34⟩;have:=w7 a;exact s_t [];intro k o t;cases t;rintro e u rfl;exact Fin.cell1E rfl rfl rfl TG.h rfl rfl (ah _)
def I9(c:Cnt)(q:Lq)(step:Rat)(s:Sp):Option Bool:=if zP q s/\smS (ja q s)/\sm ((ja q s).2- (ja q s).1)/\sm step/\nE c s then some (decide (eD ((ja q s).2- (ja q s).1) step< 0)) else none
def valR(f g:Nat)(c:Cnt)(i:Int)(q:Lq)(k:Int)(v:Sp):Option Sp:=
 if sm (kW v.2 (wi k 256))/\smS v/\sm (ic (wi k 256))/\smL q/\q.length<=274877906944 then
  if eD (kW v.2 (wi k 256)) v.1< 0 then some (kW v.2 (wi k 256),kW v.2 (wi k 256)+ic (wi k 256))
  else(Jw f g c i (dC q (dk (kW v.2 (wi k 256))))).bind λsg=>
   some (if sg=0 then(kW v.2 (wi k 256),kW v.2 (wi k 256)) else if sg=1 then(kW v.2 (wi k 256),kW v.2 (wi k 256)+ic (wi k 256)) else(kW v.2 (wi k 256)- ic (wi k 256),kW v.2 (wi k 256)))
 else none
def DI(f g:Nat)(c:Cnt)(i:Int)(q:Lq)(k:Int):Option Sp:=
 (vo f c i 0).bind λs0=>(pD (λj=>I9 c q (ic (wi k 256)) (di c i s0 j)) g 0).bind λj=>valR f g c i q k (ja q (di c i s0 j))
abbrev bI(k:Int):AV:= .aptr [[i64 k]] 0 0
theorem ky(k:Int):Closed (bI k):=aN (ac (ah _) af)
def vaS(c:Cnt)(i:Int)(q:Lq)(k:Int)(step:Rat):Nat->AState
 |j=>⟨[(3,bPl c i),(4,bP q),(5,bI k),(6,.lptr 1 0 0),(7,bQ step),(14,.clos 311 [] [bPl c i])],[(1,some ⟨51,6,[zC++zC]⟩)],2,61⟩
def vaX(r:Sp):Unit->AState
 |u=>⟨[(6,.lptr 1 0 0)],[(1,some ⟨51,6,[spC r.1 r.2]⟩)],2,61⟩
theorem KV(f g:Nat)(c:Cnt)(i:Int)(q:Lq)(k:Int)(r:Sp)(h:DI f g c i q k=some r)(hf:f<=1000000):FS 250 [plA c i,.arr (pE q),i64 k] (.agg (spC r.1 r.2)):=by
 unfold DI at h;obtain⟨p,R,h2⟩:=vd.1 h;obtain⟨y,Q,a⟩:=vd.1 h2;obtain⟨t1,_,t2⟩:=li Q;obtain⟨step,w⟩:∃step,step=ic (wi k 256):=⟨_,rfl⟩;rw[<-w] at t1 t2
 have J:∀j,j<=y->zP q (di c i p j)/\smS (ja q (di c i p j))/\sm ((ja q (di c i p j)).2- (ja q (di c i p j)).1)/\sm step/\nE c (di c i p j):=λj C=>by
  have:∃b,I9 c q step (di c i p j)=some b:=by
   by_cases e:j=y;rw[e];exact⟨_,t1⟩;exact⟨_,t2 j (mN _) ω⟩
  obtain⟨b,hb⟩:=this;unfold I9 at hb;split at hb;assumption;cases hb
 have V:=sN f c i p y R (λj C=>(J j ω).2.2.2.2);have K:=rm k;rw[<-w] at K;refine f_n Tryz.func250 ?_ ?_;exact ac (dH c i) (ac (aw q) (ac (ah _) af));refine r_z 4 ?_;refine r_c 4 (K) ?_;refine a_z ?_;refine AWp.ent (st':=⟨[(3,bPl c i),(4,bP q),(5,bI k),(6,.lptr 1 0 0),(7,bQ step)],[(1,some ⟨51,6,[zC++zC]⟩)],2,61⟩) ?_ ?_;have:=(ac (dH c i) af);exact s_f [(1,6)];refine ae (r_c 2 (sP c i) ?_);refine aq ?_;refine aJ (vaX r) (λ_=>False) ?_ (λ_ h=>h.elim);refine aj (AWp.rangeFuncB (α:=Nat) (γ:=Unit) y (vaS c i q k step) (λj=>j) (λj=>j<=y) (vaX r) (λe _=>e= .ret) 0 rfl V rfl rfl ?_ (λ_=>⟨rfl,rfl⟩) (λ_=>rfl) (mN _) rfl (λ_ h=>h) ?_ ?_ ?_ ?_ ?_);intro j xs F;cases F;rfl;rw[vaS.eq_1];have:=ky k;exact s_t [];exact ac (dY c i) af;intro l j xs C F;cases F;have M:=J j C;obtain⟨s,o⟩:∃s,s=di c i p j:=⟨_,rfl⟩;rw[<-o] at M⊢;obtain⟨Z,B,L,O,x5⟩:=M;obtain⟨v,hv⟩:∃v,v=ja q s:=⟨_,rfl⟩;have D:=fs_Over q s Z;rw[<-hv] at D B L;show AWp _ _ _ _ ⟨[(15,.agg (spC s.1 s.2)),(3,bPl c i),(4,bP q),(5,bI k),(6,.lptr 1 0 0),(7,bQ step),(14,.clos 311 [] [bPl c i]),(1003,bPl c i),(1004,bP q),(1005,bI k),(1006,.lptr 1 0 0),(1007,bQ step),(1014,.clos 311 [] [bPl c i])],[(1,some ⟨51,6,[zC++zC]⟩)],2,61⟩;refine r_m 2 ?_;refine a_z ?_;refine aj (r_c 5 (D) ?_);refine a_z ?_;refine ae (ae (r_d ba 5 ?_));refine c_s (oJ v.1 v.2 B.1 B.2) ?_;refine c_s (lD (v.2- v.1) step L O) ?_;refine a_1 ?_;refine aq (n_k ?_);refine au rfl (λW=>?_) (λW=>?_)
 have S:¬eD (v.2- v.1) step< 0:=by
  have:0<=eD (v.2- v.1) step:=by simpa using W
  omega
 have Y:j< y:=by
  refine Oh C λe=>?_;subst e;rw[<-o] at t1;unfold I9 at t1;rw[<-hv] at t1;rw[if_pos ⟨Z,B,L,O,x5⟩] at t1;simp[S] at t1
 refine ay (⟨j+1,⟨Y,rfl⟩,?_⟩);show SEntT _ ⟨[(1003,bPl c i),(1004,bP q),(1005,bI k),(1006,.lptr 1 0 0),(1007,bQ step),(1014,.clos 311 [] [bPl c i])],[(1,some ⟨51,6,[zC++zC]⟩)],2,61⟩;have:=ky k;exact s_t []
 ·have S:eD (v.2- v.1) step< 0:=by
   have:¬0<=eD (v.2- v.1) step:=by simpa using W
   omega
  have Y:j=y:=by
   refine OB C (Ez λN=>?_);have n:=t2 j (mN _) N;rw[<-o] at n;unfold I9 at n;rw[<-hv] at n;rw[if_pos ⟨Z,B,L,O,x5⟩] at n;simp[S] at n
  subst Y;rw[<-o,<-hv] at a;unfold valR at a;rw[<-w] at a;obtain⟨m,hm⟩:∃m,m=kW v.2 (wi k 256):=⟨_,rfl⟩;rw[<-hm] at a;split at a
  case isFalse=>cases a
  case isTrue hz=>
  obtain⟨G,z2,U,z4,z5⟩:=hz;have H:=G0 v.2 k B.2;rw[<-hm] at H;refine an (r_c 6 (H) ?_);refine a_z ?_;refine ae (r_c 5 (lD m v.1 G z2.1) ?_);refine a_z ?_;refine au rfl (λn=>?_) (λn=>?_);have X:eD m v.1< 0:=by simpa using n
  rw[if_pos X] at a;cases a;refine ae (r_d ba 6 ?_);refine c_s (eS m step (sm2 G U)) ?_;refine a_2 ?_;refine aq (n_k ?_);refine ak (⟨rfl,(),rfl,?_⟩);show SEntT _ ⟨[(1006,.lptr 1 0 0)],[(1,some ⟨51,6,[spC (m,m+step).1 (m,m+step).2]⟩)],2,61⟩;have:=ky k;exact s_t [];have X:¬eD m v.1< 0:=by simpa using n
  rw[if_neg X] at a;obtain⟨sg,T,hR2⟩:=vd.1 a;cases hR2;have hcl:=pK m;have E:smL (dk m):=vr λx M=>by rw[kI.1 M];exact G
  refine an (ae (ae (r_d ba 6 ?_)));refine c_s (lf m) ?_;refine c_s (wD q (dk m) z4 E ω ω) ?_;refine c_s (fs_sign f g c i (dC q (dk m)) sg T hf) ?_;refine aq (n_k ?_);refine aj (r_z 2 ?_);refine au rfl (λz=>?_) (λz=>?_);have d:sg=0:=by simpa using z
  refine r_c 3 (CE m) ?_;refine a_z ?_;refine ak (⟨rfl,(),rfl,?_⟩);rw[if_pos d];show SEntT _ ⟨[(1006,.lptr 1 0 0)],[(1,some ⟨51,6,[spC (m,m).1 (m,m).2]⟩)],2,61⟩;have:=ky k;exact s_t [];have d:¬sg=0:=by simpa using z
  refine r_z 2 ?_;refine au rfl (λA=>?_) (λA=>?_);have t:sg=1:=by simpa using A
  refine ae (r_d ba 6 ?_);refine c_s (eS m step (sm2 G U)) ?_;refine a_2 ?_;refine aq (n_k ?_);refine ak (⟨rfl,(),rfl,?_⟩);rw[if_neg d,if_pos t];show SEntT _ ⟨[(1006,.lptr 1 0 0)],[(1,some ⟨51,6,[spC (m,m+step).1 (m,m+step).2]⟩)],2,61⟩;have:=ky k;exact s_t [];have t:¬sg=1:=by simpa using A
  refine an (ae (r_d ba 6 ?_));refine c_s (lC m step (sm2 G U)) ?_;refine a_3 ?_;refine aq (n_k ?_);refine ak (⟨rfl,(),rfl,?_⟩);rw[if_neg d,if_neg t];show SEntT _ ⟨[(1006,.lptr 1 0 0)],[(1,some ⟨51,6,[spC (m- step,m).1 (m- step,m).2]⟩)],2,61⟩;have:=ky k;exact s_t []
 intro j C F;cases F;rintro e u rfl;exact Fin.cell rfl rfl rfl TG.h TS.h (nle rfl) (ao aE (ca _ _))
def wn(a b:Sp):Sp:=(Ep [a.1,b.1],lY [a.2,b.2])
def j2(a:Rat)(k:Int):Sp:=(kW a (wi k 256),upQ a (wi k 256))
def rlM(f g:Nat)(c:Cnt)(p:Lq)(k:Int)(up:Int):Nat->Int->Sp->Option Sp
 |0,_,_=>none
 |n+1,i,o=>if i< up then(DI f g c i p k).bind λv=>if smS o/\smS v then rlM f g c p k up n (i+1) (wn o v) else none else some o
def Gt(p:Lq)(s:Sp)(k:Int):Prop:=smS s/\eg p s.1/\eg p s.2/\smL p/\p.length<=274877906944/\eD s.1 s.2<=0/\a8 p<=40/\smS (j2 (ag p s.1) k)/\smS (j2 (ag p s.2) k)
instance (p:Lq) (s:Sp) (k:Int):Decidable (Gt p s k):=inferInstanceAs (Decidable (_/\_/\_/\_/\_/\_/\_/\_/\_))
def zA(f g:Nat)(p:Lq)(s:Sp)(k:Int):Option Sp:=
 if Gt p s k then
  if a8 (aQ p)< 0 then some (wn (j2 (ag p s.1) k) (j2 (ag p s.2) k))
  else(e8 f (aQ p)).bind λc=>if pp c s.1/\sv c s.2 then rlM f g c p k (dR c s.2) g (dN c s.1) (wn (j2 (ag p s.1) k) (j2 (ag p s.2) k)) else none
 else none
def rgS(p:Lq)(s:Sp)(k:Int)(c:Cnt):Int×Sp->AState
 |(i,o)=>⟨[(0,.arr (pE p)),(2,i64 k),(4,bS s),(6,.lptr 1 0 0),(8,.lptr 2 0 0),(10,kA c),(11,i64 i)],[(1,some ⟨51,6,[zC++zC]⟩),(2,some ⟨51,6,[spC o.1 o.2]⟩)],3,66⟩
theorem Cz(f g:Nat)(p:Lq)(s:Sp)(k:Int)(r:Sp)(h:zA f g p s k=some r)(hf:f<=1000000):FS 202 [.arr (pE p),.agg (spC s.1 s.2),i64 k] (.tup [.agg (spC r.1 r.2),i64 0]):=by
 unfold zA at h;split at h
 case isFalse=>cases h
 case isTrue hk=>
 obtain⟨z,G,D,M,Q,K,O,B,C⟩:=hk;have L:=iC p;obtain⟨w,F⟩:∃o,o=wn (j2 (ag p s.1) k) (j2 (ag p s.2) k):=⟨_,rfl⟩;have j:=Cw (j2 (ag p s.1) k).1 (j2 (ag p s.1) k).2 (j2 (ag p s.2) k).1 (j2 (ag p s.2) k).2 B.1 B.2 C.1 C.2;rw[<-F] at h;have b:FS 249 [.agg (spC (j2 (ag p s.1) k).1 (j2 (ag p s.1) k).2),.agg (spC (j2 (ag p s.2) k).1 (j2 (ag p s.2) k).2)] (.agg (spC w.1 w.2)):=by rw[F];exact j
 refine f_c Tryz.func202 ?_;refine r_z 3 ?_;refine bD (λ_:Unit=>⟨[(0,.arr (pE p)),(2,i64 k),(4,bS s),(6,.lptr 1 0 0)],[(1,some ⟨51,6,[zC++zC]⟩)],2,66⟩) (λ_=>True) ?_ ?_;refine aj (r_c 4 (kr s.1 s.2 z.1 z.2) ?_);refine a_z ?_;refine au rfl (λE=>?_) (λE=>?_);exact absurd E (by simp[K]);refine r_c 4 (ce p ω) ?_;refine a_z ?_;refine au rfl (λA=>?_) (λA=>?_);exact absurd A χ;refine an ⟨(),trivial,?_⟩;exact s_e [(1,6)];rintro _ _;refine ae (r_d ba 15 ?_);refine c_s (fg p s.1 G) ?_;refine c_s (CA (ag p s.1) k (nZ G)) ?_;refine c_s (fg p s.2 D) ?_;refine c_s (CA (ag p s.2) k (nZ D)) ?_;refine c_s (b) ?_;refine a_2 ?_;refine aq (n_k ?_);refine ae (r_c 3 (oK p M ω) ?_);refine a_z ?_;refine r_c 3 (ce (aQ p) ω) ?_;refine a_z ?_;refine aJ (λ_:Unit=>⟨[(6,.lptr 1 0 0),(8,.lptr 2 0 0)],[(1,some ⟨51,6,[zC++zC]⟩),(2,some ⟨51,6,[spC r.1 r.2]⟩)],3,66⟩) (λ_=>True) ?_ ?_;refine au rfl (λq=>?_) (λq=>?_)
 ·have d:¬a8 (aQ p)< 0:=by
   have:0<=a8 (aQ p):=by simpa using q
   omega
  rw[if_neg d] at h;obtain⟨c,N,l⟩:=vd.1 h;split at l
  case isFalse=>cases l
  case isTrue hb=>
  refine r_c 3 (oI f (aQ p) c N hf) ?_;refine a_z ?_;refine r_c 5 (kU c s.1 hb.1) ?_;refine a_z ?_;have H:=nn (x:=s.2) hb.2.1;have J:=yL (x:=s.1) hb.1.1.1;refine aj (aC (λx:Nat×Int×Sp=>rgS p s k c x.2) (λx=>x.1) (λx=>rlM f g c p k (dR c s.2) x.1 x.2.1 x.2.2=some r/\ -4611686018427387904<=x.2.1) (g,dN c s.1,w) ⟨l,by simp only;omega⟩ ?_ ?_);simp only[rgS.eq_1];exact s_e [(2,8)];rintro⟨n,i,o⟩ ⟨a,t⟩;simp only at a t;simp only[rgS.eq_1];cases n with
  |zero=>cases a
  |succ n=>
   rw[rlM] at a;refine ae (r_c 6 (mQ c s.2 hb.2) ?_);refine a_z ?_;refine au rfl (λu=>?_) (λu=>?_)
   ·have e:i< dR c s.2:=by simpa using u
    rw[if_pos e] at a;obtain⟨v,hv,m⟩:=vd.1 a;split at m
    case isFalse=>cases m
    case isTrue hsm=>
    have y:FS 249 [.agg (spC o.1 o.2),.agg (spC v.1 v.2)] (.agg (spC (wn o v).1 (wn o v).2)):=Cw o.1 o.2 v.1 v.2 hsm.1.1 hsm.1.2 hsm.2.1 hsm.2.2;refine an (ae (aj (r_z 5 ?_)));refine AWp.ent (st':=⟨[(0,.arr (pE p)),(2,i64 k),(4,bS s),(6,.lptr 1 0 0),(8,.lptr 2 0 0),(10,kA c),(11,i64 i),(12,plA c i)],[(1,some ⟨51,6,[zC++zC]⟩),(2,some ⟨51,6,[spC o.1 o.2]⟩)],3,66⟩) ?_ ?_;refine s_x [] (λhs=>?_) (λhs=>?_)
    ·repeat' (first|exact aV|refine aA rfl ?_ ?_|exact Cv.boxp hs rfl (aR rfl) rfl (ac (iD c) (ac (ah _) af))|exact aZ)
    ·repeat' (first|exact aF|refine h_c ?_ ?_|exact bG|refine aB ?_|exact av|refine ai ?_ ?_|exact Cv.boxp hs rfl (aR rfl) rfl (ac (iD c) (ac (ah _) af))|exact aZ)
    refine r_d ba 7 ?_;refine c_s (KV f g c i p k v hv hf) ?_;refine c_s (y) ?_;refine a_1 ?_;refine aq (n_k ?_);refine r_m 3 ?_;refine a_z ?_;refine⟨(n,i+1,wn o v),Ed n,⟨m,by simp only;omega⟩,?_⟩;simp only[rgS.eq_1];exact s_e []
   have e:¬i< dR c s.2:=by simpa using u
   rw[if_neg e] at a;cases a;refine ay ⟨(),trivial,?_⟩;exact s_e []
 have d:a8 (aQ p)< 0:=by
  have:¬0<=a8 (aQ p):=by simpa using q
  omega
 rw[if_pos d] at h;cases h;refine an ⟨(),trivial,?_⟩;exact s_e [(2,8)];rintro _ _;refine r_z 3 ?_;refine ak (Fin.many ⟨_,_,rfl,⟨_,_,_,_,_,rfl,rfl,rfl,.inl ⟨TG.h,_,TS.h,nle rfl,rfl⟩⟩,⟨_,_,rfl,rfl,rfl⟩⟩ (nle rfl) ?_);exact ai (ao aE (ca _ _)) (ai (ao aE (ah _)) av)
theorem IC(p q:Lq)(h:iz p q)(h0:am q≠[]):FS 240 [.arr (pE p),.arr (pE q)] (.tup [.arr (pE (bJ p q).1),.arr (pE (bJ p q).2),i64 0]):=by
 have b:=h.2.2;refine f_c Tryz.func240 ?_;refine r_z 3 ?_;refine ae (r_c 3 (ce q ω) ?_);refine a_z ?_;refine au rfl (λa=>?_) (λa=>?_);exact absurd (degP_neg.1 (by simpa using a)) h0;refine an (r_c 8 (ma p q (mxL p) (mxL q) (dO p) (dO q) (dB p) (dB q) h.1 h0 h.2.1 h.2.2) ?_);refine a_z ?_;refine r_z 5 ?_;refine ak (Fin.many ⟨_,_,rfl,rfl,⟨_,_,rfl,rfl,⟨_,_,rfl,rfl,rfl⟩⟩⟩ (nle rfl) ?_);exact ai (ao aE (aw _)) (ai (ao aE (aw _)) (ai (ao aE (ah _)) av))


def zE(l:List Int):Lc:=l.map λn=>[i64 n]
theorem js(l:List Int):∀e∈zE l,∀c∈e,Closed c:=by
 intro e a c b;obtain⟨n,_,rfl⟩:=sd.1 a;rw[kI.1 b];exact ah _
def zR(l:List Int):Lq:=l.map fun(n:Int)=>(n:Rat)
def DU:Ln->AState
 |l=>⟨[(0,.arr (iE l))],[],1,15⟩
theorem kg(l:Ln):DU l=⟨[(0,.arr (iE l))],[],1,15⟩:=rfl
theorem jO(l:Ln)(hl:l.length<=281474976710656):FS 260 [.arr (iE l)] (.arr (iE (gS l))):=by
 refine f_c Tryz.func260 ?_;refine r_z 1 ?_;refine bD DU (λm=>m=gS l) ?_ ?_;refine aj (aC DU (λm=>m.length) (λm=>m.length<=281474976710656/\gS m=gS l) l ⟨hl,rfl⟩ ?_ ?_);simp only[kg];exact s_e [];rintro m ⟨e,a⟩;rw[kg];cases m with
 |nil=>
  refine ae (s_r 9 ?_);refine a_4 ?_;refine n_g rfl d_f ?_;refine n_g rfl d_f ?_;refine n_g rfl d_f ?_;refine n_g rfl d_f ?_;refine o_0 (.pickF rfl d_f rfl) ?_;refine aq ?_;refine cF ?_;refine ay ⟨[],by simpa[gS] using a,?_⟩;simp only[kg];exact s_e []
 |cons d m=>
  have c:(iE (d::m))[(0:Int).toNat]?=some [i64 d]:=rfl;refine ae (s_r 9 ?_);refine a_4 ?_;refine y_g rfl ψ (.move rfl) ?_;refine y_g rfl ψ (.index_a rfl rfl ω c rfl te_43.h) ?_;refine y_g rfl ψ (.load_a1 rfl c TG.h rfl) ?_;refine y_g rfl ψ (.bin rfl rfl cK) ?_;refine o_0 (.pickT rfl ψ rfl) ?_;refine aq ?_;refine au rfl (λh=>?_) (λh=>?_);have b:d=0:=by simpa using h
  refine an ?_;subst b;refine aj (r_m 3 ?_);refine a_1 ?_;refine o_0 (.sa_l rfl rfl rfl ψ te_43.h (mP _)) ?_;refine a_z ?_;refine⟨m,ψ,⟨by simp at e;omega,by simpa[gS] using a⟩,?_⟩;simp only[kg];exact s_e [];have b:d≠0:=by simpa using h
  refine ay ⟨d::m,by rw[<-a];simp[gS,b],?_⟩;simp only[kg];exact s_e []
 rintro m rfl;rw[kg];refine r_z 2 ?_;exact ak (t_e (fw _))
theorem ld(s:Int)(l:Ln)(z:Int)(hl:l.length<=281474976710656)(hd:∀d∈l,d< UB)(hz:hv l=z.natAbs)(hs:z≠0->s=sgZ z):FS 214 [i64 s,.arr (iE l)] (.agg (zZ z)):=by
 refine f_c Tryz.func214 ?_;refine r_z 1 ?_;refine r_c 3 (jO l hl) ?_;refine a_z ?_;refine ae (r_z 3 ?_);refine au rfl (λh=>?_) (λh=>?_)
 have b:gS l=[]:=by
  have:(gS l).length=0:=by simpa using h
  exact vv.1 this
 have a:z=0:=by have:=(vm hd).1 b;omega
 subst a;refine r_z 2 ?_;refine ak (Fin.cell rfl rfl rfl TG.h TS.h (nle rfl) ?_);rw[zZ_zero];exact Cv.agg (ai (ao aE (ah _)) (ai (Cv.emp _) av));have b:gS l≠[]:=λe=>by rw[e] at h;simp at h
 have a:z≠0:=by
  intro e;subst e;exact b ((vm hd).2 hz)
 refine an (r_z 4 ?_);refine ak (ed rfl rfl rfl TG.h TS.h (nle rfl) ?_ ?_);show AV.agg [i64 s,.arr (iE (gS l))]=_;unfold zZ;rw[hs a,gD hd,hz];exact dl _
theorem zZ_neg(z:Int):zZ (-z)=[i64 (-sgZ z),.arr (iE (zd z.natAbs))]:=by
 unfold zZ;rw[Ol];congr 2;unfold sgZ;split <;> split <;>(try split)<;>(try split)<;> omega
theorem dz(z:Int):sgZ z= -1/\z< 0\/sgZ z=0/\z=0\/sgZ z=1/\0< z:=by
 unfold sgZ;split;right;left;exact⟨rfl,by assumption⟩;split;left;exact⟨rfl,by assumption⟩;right;right;exact⟨rfl,ω⟩
theorem Am(z:Int):FS 211 [.agg (zZ z)] (.agg (zZ (-z))):=by
 have hs:=dz z;have a:=dl (-z);rw[zZ_neg] at a⊢;refine f_c Tryz.func211 ?_;refine r_z 2 ?_;refine r_z 7 ?_;exact ak (c_e (a))
theorem wz(l:Ln)(i:Nat)(hl:l.length<=281474976710656):FS 268 [.arr (iE l),i64 i] (i64 (l.reverse[i]?.getD 0:Nat)):=by
 refine f_c Tryz.func268 ?_;refine r_z 1 ?_;refine ae (r_z 4 ?_);refine au rfl (λh=>?_) (λh=>?_);have b:l.length<=i:=by simpa using h
 refine r_z 1 ?_;refine ak (a7 rfl ?_ (ah _));rw[zt (by simpa using b)];rfl;have b:i< l.length:=by simp at h;omega
 refine an ?_;obtain⟨d,c⟩:∃d,l[l.length- 1- i]?=some d:=⟨_,eT ω⟩;have a:(iE l)[((l.length:Int)- 1- i).toNat]?=some [i64 d]:=by rw[show((l.length:Int)- 1- i).toNat=l.length- 1- i by omega];exact ly c
 refine s_r 9 ?_;refine a_6 ?_;refine i_x a ?_;refine l_1 a ?_;refine a_z ?_;refine ak (a7 rfl ?_ (ah _));rw[Ny b,c];rfl
theorem EU(a b:Ln):FS 267 [.arr (iE a),.arr (iE b)] (i64 (max a.length b.length:Nat)):=by
 refine f_c Tryz.func267 ?_;refine r_z 1 ?_;refine ae (r_z 5 ?_);refine au rfl (λh=>?_) (λh=>?_);refine r_z 3 ?_;refine ak (a7 rfl ?_ (ah _));have:b.length< a.length:=by simpa using h
 simp[i64];omega;refine an (r_z 3 ?_);refine ak (a7 rfl ?_ (ah _));have:¬b.length< a.length:=by simpa using h
 simp[i64];omega
def FJ(a:Nat)(b:Nat):Nat->AState
 |i=>⟨[(0,.arr (iE (zd a))),(1,.arr (iE (zd b))),(5,i64 i)],[],1,40⟩
theorem yX{n i d:Nat}(h:(ax UB n)[i]?=some d):(zd n)[(ax UB n).length- 1- i]?=some d:=by
 have a:i< (ax UB n).length:=(jY.1 h).1;unfold zd;rw[Ny ω,show(ax UB n).length- 1- ((ax UB n).length- 1- i)=i by omega];exact h
theorem Cu(a b:Nat)(ha:(zd a).length<=281474976710656)(hb:(zd b).length<=281474976710656):FS 226 [.arr (iE (zd a)),.arr (iE (zd b))] (i64 (ff a b)):=by
 have t:=dj a;have u:=dj b;refine f_c Tryz.func226 ?_;refine r_z 1 ?_;refine ae (r_z 5 ?_);refine au rfl (λh=>?_) (λh=>?_);have r:(zd a).length≠(zd b).length:=by simp at h;omega
 refine ae (r_z 5 ?_);refine au rfl (λj=>?_) (λj=>?_);refine r_z 1 ?_;refine ak (a7 rfl ?_ (ah _));have s:(zd a).length< (zd b).length:=by simpa using j
 rw[mW];rfl;have:=ko (b:=UB) δ (show(ax UB a).length< (ax UB b).length by omega);omega;refine an (r_z 1 ?_);refine ak (a7 rfl ?_ (ah _));have s:(zd b).length< (zd a).length:=by simp at j;omega
 rw[oU];rfl;have:=ko (b:=UB) δ (show(ax UB b).length< (ax UB a).length by omega);omega;have heq:(ax UB a).length=(ax UB b).length:=by simp at h;omega
 refine an (ae (r_z 1 ?_));refine aJ (FJ a b) (λ_=>a=b) ?_ ?_;refine aj (aC (FJ a b) (λi=>(ax UB a).length- i) (λi=>i<=(ax UB a).length/\(ax UB a).drop ((ax UB a).length- i)=(ax UB b).drop ((ax UB a).length- i)) 0 ⟨mN _,by rw[Oc,DJ,heq,DJ]⟩ ?_ ?_);simp only[FJ.eq_1];exact s_e [];rintro i ⟨w,e⟩;rw[FJ.eq_1];refine ae (r_z 4 ?_);refine au rfl (λh=>?_) (λh=>?_);have q:i< (ax UB a).length:=by simp at h;omega
 obtain⟨k,v⟩:∃k,k=(ax UB a).length- 1- i:=⟨_,rfl⟩;have o:(ax UB a).length- i=k+1:=ω
 rw[o] at e;obtain⟨x,m⟩:∃x,(ax UB a)[k]?=some x:=⟨_,eT ω⟩;obtain⟨y,l⟩:∃y,(ax UB b)[k]?=some y:=⟨_,eT ω⟩
 have f:(iE (zd a))[((i:Nat):Int).toNat]?=some [i64 x]:=by
  have:=yX m;rw[show(ax UB a).length- 1- k=i by omega] at this;exact ly this
 have g:(iE (zd b))[((i:Nat):Int).toNat]?=some [i64 y]:=by
  have:=yX l;rw[show(ax UB b).length- 1- k=i by omega] at this;exact ly this
 refine an (ae (aj (ae (ae (r_d ba 9 ?_)))));refine a_2 ?_;refine i_x f ?_;refine l_1 f ?_;refine a_2 ?_;refine i_x g ?_;refine l_1 g ?_;refine a_1 ?_;refine aq (n_k ?_);refine au rfl (λj=>?_) (λj=>?_);refine r_z 1 ?_;refine ak (a7 rfl ?_ (ah _));have c:x< y:=by simpa using j
 have:=oD (λd e=>er δ a d e) m l e c;rw[bO δ,bO δ] at this;rw[mW ω];rfl;refine an (ae (r_d ba 9 ?_));refine a_2 ?_;refine i_x f ?_;refine l_1 f ?_;refine a_2 ?_;refine i_x g ?_;refine l_1 g ?_;refine a_1 ?_;refine aq (n_k ?_);refine au rfl (λp=>?_) (λp=>?_);refine r_z 1 ?_;refine ak (a7 rfl ?_ (ah _));have c:y< x:=by simpa using p
 have:=oD (λd e=>er δ b d e) l m e.symm c;rw[bO δ,bO δ] at this;rw[oU ω];rfl;have c:x=y:=by simp at j p;omega
 subst c;refine an (r_m 3 ?_);refine a_z ?_;refine⟨i+1,ω,⟨ω,?_⟩,?_⟩;rw[show(ax UB a).length- (i+1)=k by omega,gI m,gI l,e];simp only[FJ.eq_1];exact s_e [];have n:i=(ax UB a).length:=by simp at h;omega
 refine ay ⟨i,?_,?_⟩;subst n;rw[Nj,sr,sr] at e;rw[<-bO (b:=UB) δ a,<-bO (b:=UB) δ b,e];simp only[FJ.eq_1];exact s_e [];rintro i rfl;rw[FJ.eq_1];refine r_z 1 ?_;refine ak (a7 rfl ?_ (ah _));rw[Hl rfl];rfl
def bothS(a:Nat)(b:Nat)(k:Int)(N:Nat):Ln×Int->AState
 |(s,c)=>⟨[(0,.arr (iE (zd a))),(1,.arr (iE (zd b))),(2,i64 k),(7,i64 N),(8,.lsl 1 0 N (some N) 1),(9,i64 c),(10,i64 s.length)],[(1,some ⟨3,1,iE (List.replicate (N- s.length) 0++s.reverse)⟩)],2,51⟩
def Mh(a:Nat)(b:Nat)(k:Int)(N:Nat)(s:Ln):Int×Int->AState
 |(x,c)=>⟨[(0,.arr (iE (zd a))),(1,.arr (iE (zd b))),(2,i64 k),(7,i64 N),(8,.lsl 1 0 N (some N) 1),(9,i64 c),(10,i64 s.length),(11,i64 x)],[(1,some ⟨3,1,iE (List.replicate (N- s.length) 0++s.reverse)⟩)],2,51⟩
theorem rj(a b:Nat)(k:Int)(r:Nat)(hk:k=1\/k= -1)(hr:(r:Int)=a+k* b)(ha:(zd a).length<=17592186044416)(hb:(zd b).length<=17592186044416):FS 225 [.arr (iE (zd a)),.arr (iE (zd b)),i64 k] (.arr (iE (zd r))):=by
 have hza:=dj a;have hzb:=dj b;obtain⟨N,hN⟩:∃N,N=max (zd a).length (zd b).length+1:=⟨_,rfl⟩;refine f_c Tryz.func225 ?_;refine r_z 1 ?_;refine r_c 5 (EU (zd a) (zd b)) ?_;refine a_z ?_;have D:((max (zd a).length (zd b).length:Nat):Int)+1=(N:Int):=ω
 refine s_r 3 ?_;refine a_1 ?_;refine o_1 (.makeSlice (congrArg (λz=>some (AV.v (.int .i64 z))) D) (congrArg (λz=>some (AV.v (.int .i64 z))) D) te_43.h TZ.h rfl TB.h κ κ ι) ?_;refine a_z ?_;refine r_z 1 ?_;refine ae (r_z 1 ?_)
 have T:=gw (b:=UB) δ (n:=r) (k:=N) (by
  have j:=gi (b:=UB) (er δ a);have o:=gi (b:=UB) (er δ b);rw[bO δ] at j o;have J:UB^ (ax UB a).length<=UB^ (N- 1):=vi δ ω;have h4:UB^ (ax UB b).length<=UB^ (N- 1):=vi δ ω;have h5:UB^ N=UB^ (N- 1) * UB:=by rw[<-D7];congr 1;omega
  rw[h5];show r< UB^ (N- 1) * 32768;rcases hk with rfl|rfl <;> omega)
 have R:r< UB^ N:=by
  have j:=gi (b:=UB) (er δ r);rw[bO δ] at j;exact ns j (vi δ T)
 refine aJ (λs:Ln=>⟨[(8,.lsl 1 0 N (some N) 1)],[(1,some ⟨3,1,iE s.reverse⟩)],2,51⟩) (λs=>s.length=N/\(∀d∈s,d< UB)/\ofD UB s=r) ?_ ?_;refine aj (aC (bothS a b k N) (λx=>N- x.1.length) (λx=>x.1.length<=N/\(∀d∈x.1,d< UB)/\(x.2= -1\/x.2=0\/x.2=1)/\((ofD UB x.1:Nat):Int)+((UB^ x.1.length:Nat):Int) * x.2=(ofD UB ((ax UB a).take x.1.length):Nat)+k* (ofD UB ((ax UB b).take x.1.length):Nat)) ([],0) ⟨ψ,ψ,ψ,by simp[ofD]⟩ ?_ ?_);simp only[bothS.eq_1];exact s_e [(1,8)];rintro⟨s,c⟩ ⟨hs,u,hc,f⟩;simp only at hs u hc f;simp only[bothS.eq_1];refine ae (r_z 3 ?_);refine au rfl (λh=>?_) (λh=>?_);have hlt:s.length< N:=by simpa using h
 refine an ?_;obtain⟨x,U⟩:∃x,x=(ax UB a)[s.length]?.getD 0:=⟨_,rfl⟩;obtain⟨y,O⟩:∃y,y=(ax UB b)[s.length]?.getD 0:=⟨_,rfl⟩
 have hx1:x< 32768:=by
  rw[U];cases hh:(ax UB a)[s.length]? with
  |none=>decide
  |some d=>exact da δ hh
 have hy1:y< 32768:=by
  rw[O];cases hh:(ax UB b)[s.length]? with
  |none=>decide
  |some d=>exact da δ hh
 have p:=wz (zd a) s.length ω;have t:=wz (zd b) s.length ω;unfold zd at p t;rw[Nl,<-U] at p;rw[Nl,<-O] at t;have hky: -32768< k* y/\k* y< 32768:=by rcases hk with rfl|rfl <;> omega
 obtain⟨X,hX⟩:∃X:Int,X=x+k* y+c:=⟨_,rfl⟩;have hXr: -32768<=X/\X<=65536:=ω
 refine ae (aj (r_c 12 (p) ?_));refine c_s (t) ?_;refine a_z ?_;refine r_z 1 ?_;refine bD (Mh a b k N s) (λv=>v.1=(if X< 0 then X+32768 else X)/\v.2=(if X< 0 then -1 else 0)) ?_ ?_;refine r_z 2 ?_;refine au rfl (λj=>?_) (λj=>?_);have g:X< 0:=by rw[hX];simpa using j
 refine r_z 3 ?_;refine r_m 1 ?_;refine a_z ?_;refine⟨(X+32768,-1),⟨by rw[if_pos g],by rw[if_pos g]⟩,?_⟩;simp only[Mh.eq_1];exact s_x [] (λhs=>e_39) (λhs=>e_40) e_38;have g:¬X< 0:=by rw[hX];simpa using j
 refine an ⟨(X,0),⟨by rw[if_neg g],by rw[if_neg g]⟩,?_⟩;simp only[Mh.eq_1];exact s_x [] (λhs=>e_39) (λhs=>e_40) e_38;rintro⟨F,c1⟩ ⟨i,H⟩;simp only at i H;rw[Mh.eq_1];refine bD (Mh a b k N s) (λv=>v.1=X % 32768/\v.2=X/ 32768) ?_ ?_;refine r_z 2 ?_;refine au rfl (λj=>?_) (λj=>?_);have o:32768<=F:=by simpa using j
 have Z:F<=65536:=by rw[i];split <;> omega
 refine r_z 3 ?_;refine r_m 1 ?_;refine a_z ?_;have g:¬X< 0:=by intro h0;rw[if_pos h0] at i;omega
 rw[if_neg g] at i;refine⟨(F- 32768,1),⟨by simp only;omega,by simp only;omega⟩,?_⟩;simp only[Mh.eq_1];exact s_e []
 ·have o:F< 32768:=by simp at j;omega
  refine an ⟨(F,c1),⟨by rw[i] at o⊢;simp only;split <;> rename_i J <;> simp only[J,if_true,if_false] at o <;> omega,by rw[i] at o;rw[H];simp only;split <;> rename_i J <;> simp only[J,if_true,if_false] at o <;> omega⟩,?_⟩;simp only[Mh.eq_1];exact s_e []
 rintro⟨X2,E⟩ ⟨K,Q⟩;simp only at K Q;rw[Mh.eq_1];obtain⟨d,L⟩:∃d:Nat,X2=d:=⟨X2.toNat,ω⟩;have M:d< 32768:=ω
 subst L;have hlen:(List.replicate (N- s.length) 0++s.reverse).length=N:=χ
 have m:List.replicate (N- s.length) 0=List.replicate (N- (s.length+1)) 0++[0]:=by
  rw[show N- s.length=(N- (s.length+1))+1 by omega,OL]
 have G:(iE (List.replicate (N- s.length) 0++s.reverse))[0+((N:Int)- 1- s.length).toNat]?=some [i64 0]:=by
  rw[show 0+((N:Int)- 1- s.length).toNat=N- (s.length+1) by omega];refine ly ?_;rw[m,MT];exact qS _ _ _ _ ψ
 have hset:(iE (List.replicate (N- s.length) 0++s.reverse)).set (0+((N:Int)- 1- s.length).toNat) [i64 d]=iE (List.replicate (N- (s++[d]).length) 0++(s++[d]).reverse):=by
  rw[show 0+((N:Int)- 1- s.length).toNat=N- (s.length+1) by omega,px,m,MT];simp only[List.singleton_append,zq,vX,Fe,List.reverse_append,Oq,List.reverse_nil,Nf];rw[qg _ _ _ _ _ ψ];simp
 refine r_m 8 ?_;refine a_7 ?_;refine eK (.store rfl rfl G rfl rfl rfl TS.h (nle rfl)) ?_;refine aq ?_;refine r_m 3 ?_;refine a_z ?_;refine⟨(s++[d],E),χ,⟨χ,?_,by simp only;omega,?_⟩,?_⟩;intro e w;rcases n7.1 w with w|w
 exact u e w;simp at w;subst w;exact M;simp only[zq,vX,Fe,vY];rw[iM,fq,fq,<-U,<-O,D7];obtain⟨B,Y⟩:∃B,B=UB^ s.length:=⟨_,rfl⟩;rw[<-Y] at f⊢;have V:X=32768* E+d:=ω
 have S:(B:Int) * X=B* x+k* (B* y)+B* c:=by
  rw[hX,O9,O9,Int.mul_left_comm]
 rw[V,O9] at S;have e1:((B* 32768:Nat):Int) * E=B* (32768* E):=by rw[EA,Int.mul_assoc];rfl
 have e2:k* ((ofD UB ((ax UB b).take s.length)+B* y:Nat):Int)=k* (ofD UB ((ax UB b).take s.length):Nat)+k* (B* y):=by
  rw[Pf,O9,EA]
 show((ofD UB s+B* d:Nat):Int)+((B* 32768:Nat):Int) * E=_;rw[e1,e2,Pf,Pf,EA,EA];omega;simp only[bothS.eq_1];refine s_x [] (λhs=>dJ) (λhs=>?_) e_41
 ·repeat' (first|exact aF|refine h_c ?_ ?_|exact aM hs hset (dU _)|exact bG)
 have l:s.length=N:=by simp at h;omega
 refine ay ⟨s,⟨l,u,?_⟩,?_⟩;rw[l,nk ω,nk ω,bO δ,bO δ,<-hr] at f;have C:=gi u;rw[l] at C;obtain⟨B,Y⟩:∃B,B=UB^ N:=⟨_,rfl⟩;rw[<-Y] at f C R;rcases hc with rfl|rfl|rfl <;> omega
 have e:iE (List.replicate (N- s.length) 0++s.reverse)=iE s.reverse:=by rw[l];simp
 refine s_x [] (λhs=>dJ) (λhs=>e_42) ?_
 ·repeat' (first|exact ShrL.nil|refine ShrL.cons rfl rfl rfl rfl (by first|(exact congrArg List.length e)|rfl|(simp;done)|(simp <;> omega)) ?_)
 rintro s ⟨hs,u,f⟩;have W:∀d∈s.reverse,d< UB:=λd h=>u d (N2.1 h);have A:=jO s.reverse χ;rw[gD W,show hv s.reverse=r by unfold hv;rw[Nl];assumption] at A;have q:((iE s.reverse).drop 0).take N=iE s.reverse:=by rw[sr,nk χ]
 refine s_r 3 ?_;refine a_1 ?_;refine o_1 (.callS1 rfl rfl rfl (.shut rfl d_n (.nil)) rfl ((by rw[q];exact A))) ?_;refine a_z ?_;exact ak (t_e (fw _))
def zl(z:Int):Prop:=bl z.natAbs<=8796093022208
theorem yW{z:Int}(h:zl z):(zd z.natAbs).length<=17592186044416:=by
 have:=ci (b:=UB) δ z.natAbs;rw[dj];unfold zl at h;omega
theorem zc{x y:Int}(h:sgZ x=sgZ y)(hx:x≠0):(x+y).natAbs=x.natAbs+y.natAbs/\(x+y≠0->sgZ x=sgZ (x+y)):=by
 rcases dz x with⟨a,b⟩|⟨a,b⟩|⟨a,b⟩<;> rcases dz y with⟨c,d⟩|⟨c,d⟩|⟨c,d⟩<;> rcases dz (x+y) with⟨e,f⟩|⟨e,f⟩|⟨e,f⟩<;> rw[a,c] at h <;> rw[a,e]<;> first|omega|(constructor <;> omega)
theorem vx{x y:Int}(h:sgZ x≠sgZ y)(hx:x≠0)(hy:y≠0)(hg:y.natAbs<=x.natAbs):(x+y).natAbs=x.natAbs- y.natAbs/\(x+y≠0->sgZ x=sgZ (x+y)):=by
 rcases dz x with⟨a,b⟩|⟨a,b⟩|⟨a,b⟩<;> rcases dz y with⟨c,d⟩|⟨c,d⟩|⟨c,d⟩<;> rcases dz (x+y) with⟨e,f⟩|⟨e,f⟩|⟨e,f⟩<;> rw[a,c] at h <;> rw[a,e]<;> first|omega|(constructor <;> omega)
theorem fs_ZAdd(x y:Int)(hx:zl x)(hy:zl y):FS 148 [.agg (zZ x),.agg (zZ y)] (.agg (zZ (x+y))):=by
 have c:=yW hx;have d:=yW hy
 have bound:∀r:Nat,r<=x.natAbs+y.natAbs->(zd r).length<=281474976710656:=by
  intro r n;have i:=ci (b:=UB) δ r;have g:=dQ n;have j:=A7 x.natAbs y.natAbs;unfold zl at hx hy;rw[dj];omega
 refine f_c Tryz.func148 ?_;refine r_z 3 ?_;refine ae (r_z 3 ?_);refine au rfl (λh=>?_) (λh=>?_)
 have m:x=0:=by
  have:sgZ x=0:=by simpa using h
  rcases dz x with⟨a,b⟩|⟨a,b⟩|⟨a,b⟩<;> omega
 refine r_z 2 ?_;refine ak (ed rfl rfl rfl TG.h TS.h (nle rfl) ?_ ?_);rw[m,Int.zero_add];rfl;exact dl _;have e:x≠0:=by rintro rfl;simp[sgZ] at h
 refine an (ae (r_z 3 ?_));refine au rfl (λi=>?_) (λi=>?_)
 have m:y=0:=by
  have:sgZ y=0:=by simpa using i
  rcases dz y with⟨a,b⟩|⟨a,b⟩|⟨a,b⟩<;> omega
 refine r_z 2 ?_;refine ak (ed rfl rfl rfl TG.h TS.h (nle rfl) ?_ ?_);rw[m,Int.add_zero];rfl;exact dl _;have f:y≠0:=by rintro rfl;simp[sgZ] at i
 refine an (ae (r_z 5 ?_));refine au rfl (λg=>?_) (λg=>?_);have hs:sgZ x=sgZ y:=by simpa using g
 obtain⟨e1,e2⟩:=zc hs e;refine ae (r_d ba 9 ?_);refine c_s (rj x.natAbs y.natAbs 1 (x.natAbs+y.natAbs) (.inl rfl) ω c d) ?_;refine c_s (ld (sgZ x) (zd (x.natAbs+y.natAbs)) (x+y) (bound _ (ir _)) (kD _) (by rw[l9,e1]) e2) ?_;refine a_1 ?_;refine aq (n_k ?_);exact ak (c_e (dl _));have hs:sgZ x≠sgZ y:=by simpa using g
 refine an (ae (r_c 6 (Cu x.natAbs y.natAbs ω ω) ?_));refine a_z ?_;refine au rfl (λj=>?_) (λj=>?_)
 have k:y.natAbs<=x.natAbs:=by
  have:=of_decide_eq_true j;unfold ff at this;split at this;omega;omega
 obtain⟨e1,e2⟩:=vx hs e f k;refine ae (r_d ba 9 ?_);refine c_s (rj x.natAbs y.natAbs (-1) (x.natAbs- y.natAbs) (.inr rfl) ω c d) ?_;refine c_s (ld (sgZ x) (zd (x.natAbs- y.natAbs)) (x+y) (bound _ ω) (kD _) (by rw[l9,e1]) e2) ?_;refine a_1 ?_;refine aq (n_k ?_);exact ak (c_e (dl _))
 have l:x.natAbs<=y.natAbs:=by
  have:=of_decide_eq_false j;unfold ff at this;split at this;omega;split at this <;> omega
 obtain⟨e1,e2⟩:=vx (λh=>hs h.symm) f e l;rw[Int.add_comm] at e1 e2;refine an (ae (r_d ba 9 ?_));refine c_s (rj y.natAbs x.natAbs (-1) (y.natAbs- x.natAbs) (.inr rfl) ω d c) ?_;refine c_s (ld (sgZ y) (zd (y.natAbs- x.natAbs)) (x+y) (bound _ ω) (kD _) (by rw[l9,e1]) e2) ?_;refine a_1 ?_;refine aq (n_k ?_);exact ak (c_e (dl _))
theorem zl_neg{z:Int}(h:zl z):zl (-z):=by unfold zl at *;rwa[Ol]
theorem fs_ZSub(x y:Int)(hx:zl x)(hy:zl y):FS 227 [.agg (zZ x),.agg (zZ y)] (.agg (zZ (x- y))):=by
 have hs:=fs_ZAdd x (-y) hx (zl_neg hy);rw[<-Int.sub_eq_add_neg] at hs;refine f_c Tryz.func227 ?_;refine r_z 3 ?_;refine ae (r_d ba 5 ?_);refine c_s (Am y) ?_;refine c_s (hs) ?_;refine a_1 ?_;refine aq (n_k ?_);exact ak (c_e (dl _))
theorem fs_ZCmp(x y:Int)(hx:zl x)(hy:zl y):FS 150 [.agg (zZ x),.agg (zZ y)] (i64 (ff x y)):=by
 have e:ff x y=sgZ (x- y):=by
  unfold ff sgZ;split <;> split <;>(try split)<;>(try split)<;> omega
 rw[e];refine f_c Tryz.func150 ?_;refine r_z 3 ?_;refine r_c 5 (fs_ZSub x y hx hy) ?_;refine a_z ?_;exact ak (t_e (ah _))
def DY(l:Ln):Nat->AState
 |i=>⟨[(0,.arr (iE l)),(3,i64 (hv (l.take i))),(4,i64 i)],[],1,19⟩
theorem EF{l:Ln}(hd:∀d∈l,d< UB)(hl:l.length<=4)(i:Nat):hv (l.take i)< 1152921504606846976:=by
 have a:=GU (l:=l.take i) λd h=>hd d (AG h);have b:(l.take i).length<=4:=by rw[yv];omega
 exact ns a (vi δ b)
theorem Ck(l:Ln)(hl:l.length<=4)(hd:∀d∈l,d< UB):FS 224 [.arr (iE l)] (i64 (hv l)):=by
 refine f_c Tryz.func224 ?_;refine r_z 1 ?_;refine r_z 1 ?_;refine ae (r_z 1 ?_);refine aJ (DY l) (λi=>i=l.length) ?_ ?_;refine aj (aC (DY l) (λi=>l.length- i) (λi=>i<=l.length) 0 (mN _) ?_ ?_);simp only[DY.eq_1];exact s_e [];intro i m;rw[DY.eq_1];refine ae (r_z 4 ?_);refine au rfl (λh=>?_) (λh=>?_);have f:i< l.length:=by simpa using h
 obtain⟨d,c⟩:∃d,l[i]?=some d:=⟨_,eT f⟩;have j:=hd d (mc c);have b:(iE l)[((i:Nat):Int).toNat]?=some [i64 d]:=ly c;have e:=qO (l.take i) d;rw[<-cZ c] at e;have hb:=EF hd hl (i+1);obtain⟨V,k⟩:∃V,V=hv (l.take i):=⟨_,rfl⟩;rw[<-k] at e⊢;have a:hv (l.take (i+1))=V* 32768+d:=e;refine an (ae (aj (r_m 8 ?_)));refine a_4 ?_;refine i_x b ?_;refine l_1 b ?_;refine a_z ?_;refine r_m 3 ?_;refine a_z ?_;refine⟨i+1,ω,f,?_⟩;simp only[DY.eq_1];refine s_x [] (λhs=>?_) (λhs=>?_) ?_
 ·repeat' (first|exact aV|refine aA rfl ?_ ?_|exact aZ|(refine Cv.loE hs ?_ (ah _);first|rfl|(simp[i64,u64,u32,bln,a];done)|(simp[i64,u64,u32,bln,a]<;> omega)))
 ·repeat' (first|exact aF|refine h_c ?_ ?_|exact bG|(refine aM hs ?_ (dU _);first|(simp[px,oG,j7,a];done)|(simp[iE,i64,ofV,a];done))|refine aB ?_|exact av|refine ai ?_ ?_|exact aZ|(refine Cv.loE hs ?_ (ah _);first|(simp[i64,u64,u32,bln,a];done)|(simp[i64,u64,u32,bln,a]<;> omega)))
 ·repeat' (first|exact ShrL.nil|refine ShrL.cons rfl rfl rfl rfl (by first|rfl|(simp;done)|(simp[a]<;> omega)) ?_)
 have g:i=l.length:=by simp at h;omega
 refine ay ⟨i,g,?_⟩;exact s_e [];rintro i rfl;rw[DY.eq_1,qj];refine r_z 2 ?_;refine ak (a7 rfl rfl (ah _))
end Go.Proofs.YtjmkjicckobojaaGreatDoor
