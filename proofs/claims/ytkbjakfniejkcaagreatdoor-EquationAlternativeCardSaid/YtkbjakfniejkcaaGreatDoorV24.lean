/- Part V24 of the proof. -/
import Derived.Test.YtkbjakfniejkcaaGreatDoorV23
set_option linter.all false
namespace Go.Proofs.YtkbjakfniejkcaaGreatDoor
open Go.Abs
set_option maxRecDepth 20000
set_option maxHeartbeats 2000000
def Kj(f g:Nat)(c:Cnt)(i:Int):Option Sp:=(uB f c i 0).bind fun s0=>(py (fun k=>pJ c i (cZ c i s0 k)) g 0).map (cZ c i s0)
theorem GK(f g:Nat)(c:Cnt)(i:Int)(s:Sp)(h:Kj f g c i=some s):FS 272 [plA c i] (.agg (spC s.1 s.2)):=by
 obtain⟨d,b,a⟩:=Option.bind_eq_some_iff.1 h;obtain⟨k,e,rfl⟩:=Option.map_eq_some_iff.1 a;exact Jg f g c i d k b e
def yx(f g:Nat)(c:Cnt)(i:Int)(q:Lq):Option Bool:=
 if c.p.length<=274877906944/\q.length<=274877906944 then(pu f c.p q).bind fun d=>
  if d.length<=274877906944 then
   if bO d< 1 then some false
   else(dz f d).bind fun c2=>(Kj f g c i).bind fun s=>if qi c2 s.2/\nI c2 s.1 then some (decide (ca c2 s.1< cD c2 s.2)) else none
  else none
 else none
theorem GA(f g:Nat)(c:Cnt)(i:Int)(q:Lq)(r:Bool)(h:yx f g c i q=some r)(hf:f<=1000000):FS 254 [plA c i,.arr (pE q)] (bln r):=by
 unfold yx at h;split at h
 case isFalse=>cases h
 case isTrue hl=>
 obtain⟨d,m,a⟩:=Option.bind_eq_some_iff.1 h;split at a
 case isFalse=>cases a
 case isTrue hdl=>
 refine f_n Tryz.func254 ?_ ?_;exact ac (dB c i) (ac (aB q) af);refine r_z 1 ?_;refine r_c 10 (Jm f c.p q d m hl.1 hl.2) ?_;refine a_z ?_;refine ae (r_c 3 (db d (by omega)) ?_);refine a_z ?_;refine au rfl (fun l=>?_) (fun l=>?_);have j:bO d< 1:=by simpa using l
 rw[if_pos j] at a;cases a;refine r_z 1 ?_;exact ai (t_e (ag _))
 ·have j:¬bO d< 1:=by simpa using l
  rw[if_neg j] at a;obtain⟨b,k,n⟩:=Option.bind_eq_some_iff.1 a;obtain⟨s,hs,e⟩:=Option.bind_eq_some_iff.1 n;split at e
  case isFalse=>cases e
  case isTrue hk=>
  cases e;refine am (r_c 7 (lG f d b k hf) ?_);refine c_s (GK f g c i s hs) ?_;refine a_z ?_;refine ae (r_d a7 10 ?_);refine c_s (kN b s.2 hk.1) ?_;refine c_s (kj b s.1 hk.2) ?_;refine a_2 ?_;refine aq (n_k ?_);exact ai (t_e (ag _))
def Ax(c:Cnt)(i:Int)(c2:Cnt)(s:Sp):Option Bool:=if qi c2 s.2/\nI c2 s.1/\nH c s then some (decide (cD c2 s.2=ca c2 s.1)) else none
def HQ(f g:Nat)(c:Cnt)(i:Int)(q:Lq):Option Int:=
 if q.length<=274877906944 then
  if bO q< 0 then some 0
  else(yx f g c i q).bind fun b=>if b then some 0 else(dz f q).bind fun c2=>(uB f c i 0).bind fun s0=>
   (py (fun k=>Ax c i c2 (cZ c i s0 k)) g 0).bind fun k=>if gz q (cZ c i s0 k).2 then some (sgZ (ak q (cZ c i s0 k).2).num) else none
 else none
def pgS(c:Cnt)(i:Int)(q:Lq)(c2:Cnt):Nat->AState
 |k=>⟨[(0,plA c i),(3,bP q),(4,.lptr 1 0 0),(5,.aptr [[kA c2]] 0 0),(18,.clos 247 [] [bPl c i])],[(1,some ⟨3,1,[[i64 0]]⟩)],2,34⟩
def pgX(r:Int):Unit->AState
 |u=>⟨[(4,.lptr 1 0 0)],[(1,some ⟨3,1,[[i64 r]]⟩)],2,34⟩
theorem v7(c:Cnt):Closed (.aptr [[kA c]] 0 0):=bq (ac (fv c) af)
theorem fs_sign(f g:Nat)(c:Cnt)(i:Int)(q:Lq)(r:Int)(h:HQ f g c i q=some r)(hf:f<=1000000):FS 214 [plA c i,.arr (pE q)] (i64 r):=by
 unfold HQ at h;split at h
 case isFalse=>cases h
 case isTrue hl=>
 refine f_n Tryz.func214 ?_ ?_;exact ac (dB c i) (ac (aB q) af);refine r_z 2 ?_;refine AWp.ent (st':=⟨[(0,plA c i),(3,bP q),(4,.lptr 1 0 0)],[(1,some ⟨3,1,[[i64 0]]⟩)],2,34⟩) ?_ ?_;exact s_f [(1,4)];by_cases hd:bO q< 0;rw[if_pos hd] at h;cases h;refine ae (r_c 8 (db q (by omega)) ?_);refine a_2 ?_;refine n_g rfl (by simp[hd]) ?_;refine n_g rfl (by simp[hd]) ?_;refine n_g rfl (by simp[hd]) ?_;refine o_0 (.pickT rfl (by simp[hd]) rfl) ?_;refine aq ?_;refine au rfl (fun p=>?_) (fun p=>?_);refine r_z 1 ?_;exact ai (Fin.cell1E rfl rfl rfl TG.h rfl rfl (ag _));cases p;rw[if_neg hd] at h;obtain⟨b,hb,w⟩:=Option.bind_eq_some_iff.1 h;refine ae (r_c 8 (db q (by omega)) ?_);refine a_2 ?_;refine y_g rfl (by simp[hd]) (.move rfl) ?_
 first|refine y_g rfl (by simp[hd]) (.load_l1 rfl rfl rfl TG.h rfl) ?_|refine y_g rfl (by simp[hd]) (.load_a1 rfl rfl TG.h rfl) ?_
 refine y_g rfl (by simp[hd]) (.call rfl rfl rfl (GA f g c i q b hb hf)) ?_;refine o_0 (.pickF rfl (by simp[hd]) rfl) ?_;refine aq ?_;refine au rfl (fun p=>?_) (fun p=>?_);have n:b=true:=p;subst n;rw[if_pos rfl] at w;cases w;refine r_z 1 ?_;exact ai (Fin.cell1E rfl rfl rfl TG.h rfl rfl (ag _));have n:b=false:=p;subst n;rw[if_neg (show¬false=true by decide)] at w;obtain⟨a,E,O⟩:=Option.bind_eq_some_iff.1 w;obtain⟨m,A,N⟩:=Option.bind_eq_some_iff.1 O;obtain⟨j,z,C⟩:=Option.bind_eq_some_iff.1 N;split at C
 case isFalse=>cases C
 case isTrue hev=>
 cases C;obtain⟨t1,_,t2⟩:=kO z
 have v:∀k,k<=j->qi a (cZ c i m k).2/\nI a (cZ c i m k).1/\nH c (cZ c i m k):=fun k o=>by
  have:∃b,Ax c i a (cZ c i m k)=some b:=by
   by_cases e:k=j;rw[e];exact⟨_,t1⟩;exact⟨_,t2 k (Nat.zero_le _) (by omega)⟩
  obtain⟨b,hb⟩:=this;unfold Ax at hb;split at hb;assumption;cases hb
 have G:=r7 f c i m j A (fun k o=>(v k (by omega)).2.2);obtain⟨r,D⟩:∃r,r=sgZ (ak q (cZ c i m j).2).num:=⟨_,rfl⟩;rw[<-D];refine am (r_c 4 (lG f q a E hf) ?_);refine a_z ?_;refine AWp.ent (st':=⟨[(0,plA c i),(3,bP q),(4,.lptr 1 0 0),(5,.aptr [[kA a]] 0 0)],[(1,some ⟨3,1,[[i64 0]]⟩)],2,34⟩) ?_ ?_;have:=(ac (fv a) af);exact s_f [];refine ae (r_c 2 (se c i) ?_);refine aq ?_;refine aF (pgX r) (fun _=>False) ?_ (fun _ h=>h.elim);refine aj (AWp.rangeFuncB (α:=Nat) (γ:=Unit) j (pgS c i q a) (fun k=>k) (fun k=>k<=j) (pgX r) (fun e _=>e= .ret) 0 rfl G rfl rfl ?_ (fun _=>⟨rfl,rfl⟩) (fun _=>rfl) (Nat.zero_le _) rfl (fun _ h=>h) ?_ ?_ ?_ ?_ ?_);intro k xs t;cases t;rfl;rw[pgS.eq_1];have:=v7 a;exact s_t [];exact ac (dN c i) af;intro l k xs o t;cases t;have M:=v k o;obtain⟨s,d⟩:∃s,s=cZ c i m k:=⟨_,rfl⟩;rw[<-d] at M⊢;obtain⟨K,F,L⟩:=M;show AWp _ _ _ _ ⟨[(19,.agg (spC s.1 s.2)),(0,plA c i),(3,bP q),(4,.lptr 1 0 0),(5,.aptr [[kA a]] 0 0),(18,.clos 247 [] [bPl c i]),(1000,plA c i),(1003,bP q),(1004,.lptr 1 0 0),(1005,.aptr [[kA a]] 0 0),(1018,.clos 247 [] [bPl c i])],[(1,some ⟨3,1,[[i64 0]]⟩)],2,34⟩;refine r_m 2 ?_;refine a_z ?_;refine aj (ae (r_d a7 9 ?_));refine c_s (kN a s.2 K) ?_;refine c_s (kj a s.1 F) ?_;refine a_1 ?_;refine aq (n_k ?_);refine au rfl (fun H=>?_) (fun H=>?_);have B:cD a s.2=ca a s.1:=by simpa using H
 have J:k=j:=by
  refine Nat.le_antisymm o (Nat.le_of_not_lt fun y=>?_);have x:=t2 k (Nat.zero_le _) y;rw[<-d] at x;unfold Ax at x;rw[if_pos ⟨K,F,L⟩] at x;simp[B] at x
 subst J;rw[<-d] at hev D;refine r_c 6 (iv q s.2 hev) ?_;refine c_s (cC (ak q s.2)) ?_;refine a_z ?_;refine ai (⟨rfl,(),rfl,?_⟩);rw[D];show SEntT _ ⟨[(1004,.lptr 1 0 0)],[(1,some ⟨3,1,[[i64 (sgZ (ak q s.2).num)]]⟩)],2,34⟩;exact s_t [];have B:¬cD a s.2=ca a s.1:=by simpa using H
 have J:k< j:=by
  refine Nat.lt_of_le_of_ne o fun e=>?_;subst e;rw[<-d] at t1;unfold Ax at t1;rw[if_pos ⟨K,F,L⟩] at t1;simp[B] at t1
 refine am (⟨k+1,⟨J,rfl⟩,?_⟩);show SEntT _ ⟨[(1000,plA c i),(1003,bP q),(1004,.lptr 1 0 0),(1005,.aptr [[kA a]] 0 0),(1018,.clos 247 [] [bPl c i])],[(1,some ⟨3,1,[[i64 0]]⟩)],2,34⟩;have:=v7 a;exact s_t [];intro k o t;cases t;rintro e u rfl;exact Fin.cell1E rfl rfl rfl TG.h rfl rfl (ag _)
def Hr(c:Cnt)(q:Lq)(step:Rat)(s:Sp):Option Bool:=if yW q s/\smS (iH q s)/\sm ((iH q s).2- (iH q s).1)/\sm step/\nH c s then some (decide (fi ((iH q s).2- (iH q s).1) step< 0)) else none
def valR(f g:Nat)(c:Cnt)(i:Int)(q:Lq)(k:Int)(v:Sp):Option Sp:=
 if sm (kw v.2 (wi k 256))/\smS v/\sm (gI (wi k 256))/\smL q/\q.length<=274877906944 then
  if fi (kw v.2 (wi k 256)) v.1< 0 then some (kw v.2 (wi k 256),kw v.2 (wi k 256)+gI (wi k 256))
  else(HQ f g c i (eg q (eJ (kw v.2 (wi k 256))))).bind fun sg=>
   some (if sg=0 then(kw v.2 (wi k 256),kw v.2 (wi k 256)) else if sg=1 then(kw v.2 (wi k 256),kw v.2 (wi k 256)+gI (wi k 256)) else(kw v.2 (wi k 256)- gI (wi k 256),kw v.2 (wi k 256)))
 else none
def CB(f g:Nat)(c:Cnt)(i:Int)(q:Lq)(k:Int):Option Sp:=
 (uB f c i 0).bind fun s0=>(py (fun j=>Hr c q (gI (wi k 256)) (cZ c i s0 j)) g 0).bind fun j=>valR f g c i q k (iH q (cZ c i s0 j))
abbrev bI(k:Int):AV:= .aptr [[i64 k]] 0 0
theorem jS(k:Int):Closed (bI k):=bq (ac (ag _) af)
def vaS(c:Cnt)(i:Int)(q:Lq)(k:Int)(step:Rat):Nat->AState
 |j=>⟨[(3,bPl c i),(4,bP q),(5,bI k),(6,.lptr 1 0 0),(7,bQ step),(14,.clos 247 [] [bPl c i])],[(1,some ⟨42,6,[zC++zC]⟩)],2,61⟩
def vaX(r:Sp):Unit->AState
 |u=>⟨[(6,.lptr 1 0 0)],[(1,some ⟨42,6,[spC r.1 r.2]⟩)],2,61⟩
theorem IV(f g:Nat)(c:Cnt)(i:Int)(q:Lq)(k:Int)(r:Sp)(h:CB f g c i q k=some r)(hf:f<=1000000):FS 177 [plA c i,.arr (pE q),i64 k] (.agg (spC r.1 r.2)):=by
 unfold CB at h;obtain⟨p,R,h2⟩:=Option.bind_eq_some_iff.1 h;obtain⟨y,Q,a⟩:=Option.bind_eq_some_iff.1 h2;obtain⟨t1,_,t2⟩:=kO Q;obtain⟨step,w⟩:∃step,step=gI (wi k 256):=⟨_,rfl⟩;rw[<-w] at t1 t2
 have J:∀j,j<=y->yW q (cZ c i p j)/\smS (iH q (cZ c i p j))/\sm ((iH q (cZ c i p j)).2- (iH q (cZ c i p j)).1)/\sm step/\nH c (cZ c i p j):=fun j C=>by
  have:∃b,Hr c q step (cZ c i p j)=some b:=by
   by_cases e:j=y;rw[e];exact⟨_,t1⟩;exact⟨_,t2 j (Nat.zero_le _) (by omega)⟩
  obtain⟨b,hb⟩:=this;unfold Hr at hb;split at hb;assumption;cases hb
 have V:=r7 f c i p y R (fun j C=>(J j (by omega)).2.2.2.2);have K:=qT k;rw[<-w] at K;refine f_n Tryz.func177 ?_ ?_;exact ac (dB c i) (ac (aB q) (ac (ag _) af));refine r_z 4 ?_;refine r_c 4 (K) ?_;refine a_z ?_;refine AWp.ent (st':=⟨[(3,bPl c i),(4,bP q),(5,bI k),(6,.lptr 1 0 0),(7,bQ step)],[(1,some ⟨42,6,[zC++zC]⟩)],2,61⟩) ?_ ?_;have:=(ac (dB c i) af);exact s_f [(1,6)];refine ae (r_c 2 (se c i) ?_);refine aq ?_;refine aF (vaX r) (fun _=>False) ?_ (fun _ h=>h.elim);refine aj (AWp.rangeFuncB (α:=Nat) (γ:=Unit) y (vaS c i q k step) (fun j=>j) (fun j=>j<=y) (vaX r) (fun e _=>e= .ret) 0 rfl V rfl rfl ?_ (fun _=>⟨rfl,rfl⟩) (fun _=>rfl) (Nat.zero_le _) rfl (fun _ h=>h) ?_ ?_ ?_ ?_ ?_);intro j xs F;cases F;rfl;rw[vaS.eq_1];have:=jS k;exact s_t [];exact ac (dN c i) af;intro l j xs C F;cases F;have M:=J j C;obtain⟨s,o⟩:∃s,s=cZ c i p j:=⟨_,rfl⟩;rw[<-o] at M⊢;obtain⟨Z,B,L,O,x5⟩:=M;obtain⟨v,hv⟩:∃v,v=iH q s:=⟨_,rfl⟩;have D:=fs_Over q s Z;rw[<-hv] at D B L;show AWp _ _ _ _ ⟨[(15,.agg (spC s.1 s.2)),(3,bPl c i),(4,bP q),(5,bI k),(6,.lptr 1 0 0),(7,bQ step),(14,.clos 247 [] [bPl c i]),(1003,bPl c i),(1004,bP q),(1005,bI k),(1006,.lptr 1 0 0),(1007,bQ step),(1014,.clos 247 [] [bPl c i])],[(1,some ⟨42,6,[zC++zC]⟩)],2,61⟩;refine r_m 2 ?_;refine a_z ?_;refine aj (r_c 5 (D) ?_);refine a_z ?_;refine ae (ae (r_d a7 5 ?_));refine c_s (xG v.1 v.2 B.1 B.2) ?_;refine c_s (sd (v.2- v.1) step L O) ?_;refine a_1 ?_;refine aq (n_k ?_);refine au rfl (fun W=>?_) (fun W=>?_)
 have S:¬fi (v.2- v.1) step< 0:=by
  have:0<=fi (v.2- v.1) step:=by simpa using W
  omega
 have Y:j< y:=by
  refine Nat.lt_of_le_of_ne C fun e=>?_;subst e;rw[<-o] at t1;unfold Hr at t1;rw[<-hv] at t1;rw[if_pos ⟨Z,B,L,O,x5⟩] at t1;simp[S] at t1
 refine ax (⟨j+1,⟨Y,rfl⟩,?_⟩);show SEntT _ ⟨[(1003,bPl c i),(1004,bP q),(1005,bI k),(1006,.lptr 1 0 0),(1007,bQ step),(1014,.clos 247 [] [bPl c i])],[(1,some ⟨42,6,[zC++zC]⟩)],2,61⟩;have:=jS k;exact s_t []
 ·have S:fi (v.2- v.1) step< 0:=by
   have:¬0<=fi (v.2- v.1) step:=by simpa using W
   omega
  have Y:j=y:=by
   refine Nat.le_antisymm C (Nat.le_of_not_lt fun N=>?_);have n:=t2 j (Nat.zero_le _) N;rw[<-o] at n;unfold Hr at n;rw[<-hv] at n;rw[if_pos ⟨Z,B,L,O,x5⟩] at n;simp[S] at n
  subst Y;rw[<-o,<-hv] at a;unfold valR at a;rw[<-w] at a;obtain⟨m,hm⟩:∃m,m=kw v.2 (wi k 256):=⟨_,rfl⟩;rw[<-hm] at a;split at a
  case isFalse=>cases a
  case isTrue hz=>
  obtain⟨G,z2,U,z4,z5⟩:=hz;have H:=Fz v.2 k B.2;rw[<-hm] at H;refine am (r_c 6 (H) ?_);refine a_z ?_;refine ae (r_c 5 (sd m v.1 G z2.1) ?_);refine a_z ?_;refine au rfl (fun n=>?_) (fun n=>?_);have X:fi m v.1< 0:=by simpa using n
  rw[if_pos X] at a;cases a;refine ae (r_d a7 6 ?_);refine c_s (fy m step (sm2 G U)) ?_;refine a_2 ?_;refine aq (n_k ?_);refine ai (⟨rfl,(),rfl,?_⟩);show SEntT _ ⟨[(1006,.lptr 1 0 0)],[(1,some ⟨42,6,[spC (m,m+step).1 (m,m+step).2]⟩)],2,61⟩;have:=jS k;exact s_t [];have X:¬fi m v.1< 0:=by simpa using n
  rw[if_neg X] at a;obtain⟨sg,T,hR2⟩:=Option.bind_eq_some_iff.1 a;cases hR2;have hcl:=pF m;have E:smL (eJ m):=nv fun x M=>by rw[List.mem_singleton.1 M];exact G
  refine am (ae (ae (r_d a7 6 ?_)));refine c_s (tj m) ?_;refine c_s (DP q (eJ m) z4 E (by omega) (by omega)) ?_;refine c_s (fs_sign f g c i (eg q (eJ m)) sg T hf) ?_;refine aq (n_k ?_);refine aj (r_z 2 ?_);refine au rfl (fun z=>?_) (fun z=>?_);have d:sg=0:=by simpa using z
  refine r_c 3 (BC m) ?_;refine a_z ?_;refine ai (⟨rfl,(),rfl,?_⟩);rw[if_pos d];show SEntT _ ⟨[(1006,.lptr 1 0 0)],[(1,some ⟨42,6,[spC (m,m).1 (m,m).2]⟩)],2,61⟩;have:=jS k;exact s_t [];have d:¬sg=0:=by simpa using z
  refine r_z 2 ?_;refine au rfl (fun A=>?_) (fun A=>?_);have t:sg=1:=by simpa using A
  refine ae (r_d a7 6 ?_);refine c_s (fy m step (sm2 G U)) ?_;refine a_2 ?_;refine aq (n_k ?_);refine ai (⟨rfl,(),rfl,?_⟩);rw[if_neg d,if_pos t];show SEntT _ ⟨[(1006,.lptr 1 0 0)],[(1,some ⟨42,6,[spC (m,m+step).1 (m,m+step).2]⟩)],2,61⟩;have:=jS k;exact s_t [];have t:¬sg=1:=by simpa using A
  refine am (ae (r_d a7 6 ?_));refine c_s (jC m step (sm2 G U)) ?_;refine a_3 ?_;refine aq (n_k ?_);refine ai (⟨rfl,(),rfl,?_⟩);rw[if_neg d,if_neg t];show SEntT _ ⟨[(1006,.lptr 1 0 0)],[(1,some ⟨42,6,[spC (m- step,m).1 (m- step,m).2]⟩)],2,61⟩;have:=jS k;exact s_t []
 intro j C F;cases F;rintro e u rfl;exact Fin.cell rfl rfl rfl TG.h TS.h (nle rfl) (an aA (b5 _ _))


section
variable {f N h Q r J g:Nat}{p:Lq}{c:Cnt}{i:Int}{A B:Rat}
end
section
variable {f N h Q r J g M hq X Xd Td J2:Nat}{p:Lq}{c:Cnt}{i:Int}{A B:Rat}
end

theorem cmpQ_le{a b:Rat}:fi a b<=0↔a<=b:=by
 unfold fi;grind

def vj(a b:Sp):Sp:=(Dg [a.1,b.1],lr [a.2,b.2])
def jF(a:Rat)(k:Int):Sp:=(kw a (wi k 256),upQ a (wi k 256))
def rlM(f g:Nat)(c:Cnt)(p:Lq)(k:Int)(up:Int):Nat->Int->Sp->Option Sp
 |0,_,_=>none
 |n+1,i,o=>if i< up then(CB f g c i p k).bind fun v=>if smS o/\smS v then rlM f g c p k up n (i+1) (vj o v) else none else some o
def E5(p:Lq)(s:Sp)(k:Int):Prop:=smS s/\gz p s.1/\gz p s.2/\smL p/\p.length<=274877906944/\fi s.1 s.2<=0/\bO p<=40/\smS (jF (ak p s.1) k)/\smS (jF (ak p s.2) k)
instance (p:Lq) (s:Sp) (k:Int):Decidable (E5 p s k):=inferInstanceAs (Decidable (_/\_/\_/\_/\_/\_/\_/\_/\_))
def yL(f g:Nat)(p:Lq)(s:Sp)(k:Int):Option Sp:=
 if E5 p s k then
  if bO (bi p)< 0 then some (vj (jF (ak p s.1) k) (jF (ak p s.2) k))
  else(dz f (bi p)).bind fun c=>if nI c s.1/\qi c s.2 then rlM f g c p k (cD c s.2) g (ca c s.1) (vj (jF (ak p s.1) k) (jF (ak p s.2) k)) else none
 else none
def rgS(p:Lq)(s:Sp)(k:Int)(c:Cnt):Int×Sp->AState
 |(i,o)=>⟨[(0,.arr (pE p)),(2,i64 k),(4,bS s),(6,.lptr 1 0 0),(8,.lptr 2 0 0),(10,kA c),(11,i64 i)],[(1,some ⟨42,6,[zC++zC]⟩),(2,some ⟨42,6,[spC o.1 o.2]⟩)],3,66⟩
theorem By(f g:Nat)(p:Lq)(s:Sp)(k:Int)(r:Sp)(h:yL f g p s k=some r)(hf:f<=1000000):FS 133 [.arr (pE p),.agg (spC s.1 s.2),i64 k] (.tup [.agg (spC r.1 r.2),i64 0]):=by
 unfold yL at h;split at h
 case isFalse=>cases h
 case isTrue hk=>
 obtain⟨z,G,D,M,Q,K,O,B,C⟩:=hk;have L:=kQ p;obtain⟨w,F⟩:∃o,o=vj (jF (ak p s.1) k) (jF (ak p s.2) k):=⟨_,rfl⟩;have j:=Bw (jF (ak p s.1) k).1 (jF (ak p s.1) k).2 (jF (ak p s.2) k).1 (jF (ak p s.2) k).2 B.1 B.2 C.1 C.2;rw[<-F] at h;have b:FS 175 [.agg (spC (jF (ak p s.1) k).1 (jF (ak p s.1) k).2),.agg (spC (jF (ak p s.2) k).1 (jF (ak p s.2) k).2)] (.agg (spC w.1 w.2)):=by rw[F];exact j
 refine f_c Tryz.func133 ?_;refine r_z 3 ?_;refine bH (fun _:Unit=>⟨[(0,.arr (pE p)),(2,i64 k),(4,bS s),(6,.lptr 1 0 0)],[(1,some ⟨42,6,[zC++zC]⟩)],2,66⟩) (fun _=>True) ?_ ?_;refine aj (r_c 4 (lH s.1 s.2 z.1 z.2) ?_);refine a_z ?_;refine au rfl (fun E=>?_) (fun E=>?_);exact absurd E (by simp[K]);refine r_c 4 (db p (by omega)) ?_;refine a_z ?_;refine au rfl (fun A=>?_) (fun A=>?_);exact absurd A (by simp;omega);refine am ⟨(),trivial,?_⟩;exact s_e [(1,6)];rintro _ _;refine ae (r_d a7 15 ?_);refine c_s (iv p s.1 G) ?_;refine c_s (Bz (ak p s.1) k (vJ G)) ?_;refine c_s (iv p s.2 D) ?_;refine c_s (Bz (ak p s.2) k (vJ D)) ?_;refine c_s (b) ?_;refine a_2 ?_;refine aq (n_k ?_);refine ae (r_c 3 (si p M (by omega)) ?_);refine a_z ?_;refine r_c 3 (db (bi p) (by omega)) ?_;refine a_z ?_;refine aF (fun _:Unit=>⟨[(6,.lptr 1 0 0),(8,.lptr 2 0 0)],[(1,some ⟨42,6,[zC++zC]⟩),(2,some ⟨42,6,[spC r.1 r.2]⟩)],3,66⟩) (fun _=>True) ?_ ?_;refine au rfl (fun q=>?_) (fun q=>?_)
 ·have d:¬bO (bi p)< 0:=by
   have:0<=bO (bi p):=by simpa using q
   omega
  rw[if_neg d] at h;obtain⟨c,N,l⟩:=Option.bind_eq_some_iff.1 h;split at l
  case isFalse=>cases l
  case isTrue hb=>
  refine r_c 3 (lG f (bi p) c N hf) ?_;refine a_z ?_;refine r_c 5 (kj c s.1 hb.1) ?_;refine a_z ?_;have H:=k8 (x:=s.2) hb.2.1;have J:=ya (x:=s.1) hb.1.1.1;refine aj (aC (fun x:Nat×Int×Sp=>rgS p s k c x.2) (fun x=>x.1) (fun x=>rlM f g c p k (cD c s.2) x.1 x.2.1 x.2.2=some r/\ -4611686018427387904<=x.2.1) (g,ca c s.1,w) ⟨l,by simp only;omega⟩ ?_ ?_);simp only[rgS.eq_1];exact s_e [(2,8)];rintro⟨n,i,o⟩ ⟨a,t⟩;simp only at a t;simp only[rgS.eq_1];cases n with
  |zero=>cases a
  |succ n=>
   rw[rlM] at a;refine ae (r_c 6 (kN c s.2 hb.2) ?_);refine a_z ?_;refine au rfl (fun u=>?_) (fun u=>?_)
   ·have e:i< cD c s.2:=by simpa using u
    rw[if_pos e] at a;obtain⟨v,hv,m⟩:=Option.bind_eq_some_iff.1 a;split at m
    case isFalse=>cases m
    case isTrue hsm=>
    have y:FS 175 [.agg (spC o.1 o.2),.agg (spC v.1 v.2)] (.agg (spC (vj o v).1 (vj o v).2)):=Bw o.1 o.2 v.1 v.2 hsm.1.1 hsm.1.2 hsm.2.1 hsm.2.2;refine am (ae (aj (r_z 5 ?_)));refine AWp.ent (st':=⟨[(0,.arr (pE p)),(2,i64 k),(4,bS s),(6,.lptr 1 0 0),(8,.lptr 2 0 0),(10,kA c),(11,i64 i),(12,plA c i)],[(1,some ⟨42,6,[zC++zC]⟩),(2,some ⟨42,6,[spC o.1 o.2]⟩)],3,66⟩) ?_ ?_;refine s_x [] (fun hs=>?_) (fun hs=>?_)
    ·repeat' (first|exact aP|refine ay rfl ?_ ?_|exact Cv.boxp hs rfl (aT rfl) rfl (ac (fv c) (ac (ag _) af))|exact aX)
    ·repeat' (first|exact aE|refine h_c ?_ ?_|exact bZ|refine aD ?_|exact av|refine ah ?_ ?_|exact Cv.boxp hs rfl (aT rfl) rfl (ac (fv c) (ac (ag _) af))|exact aX)
    refine r_d a7 7 ?_;refine c_s (IV f g c i p k v hv hf) ?_;refine c_s (y) ?_;refine a_1 ?_;refine aq (n_k ?_);refine r_m 3 ?_;refine a_z ?_;refine⟨(n,i+1,vj o v),Nat.lt_succ_self n,⟨m,by simp only;omega⟩,?_⟩;simp only[rgS.eq_1];exact s_e []
   have e:¬i< cD c s.2:=by simpa using u
   rw[if_neg e] at a;cases a;refine ax ⟨(),trivial,?_⟩;exact s_e []
 have d:bO (bi p)< 0:=by
  have:¬0<=bO (bi p):=by simpa using q
  omega
 rw[if_pos d] at h;cases h;refine am ⟨(),trivial,?_⟩;exact s_e [(2,8)];rintro _ _;refine r_z 3 ?_;refine ai (Fin.many ⟨_,_,rfl,⟨_,_,_,_,_,rfl,rfl,rfl,.inl ⟨TG.h,_,TS.h,nle rfl,rfl⟩⟩,⟨_,_,rfl,rfl,rfl⟩⟩ (nle rfl) ?_);exact ah (an aA (b5 _ _)) (ah (an aA (ag _)) av)
section
variable {f N h Q r g J J2 J3:Nat}{k:Int}{p:Lq}{K:Rat}(hpl:p.length<=24)(lp:(ao p).length<=N)(bp:bdL p h)(Hp:HS p K h){lo hi:Rat}(hlh:lo<=hi)
end

theorem qR(p q:Lq)(o:j7 p q):FS 15 [.arr (pE p),.arr (pE q)] (.arr (pE (aK p q))):=
 Jk p q (mxL p) (mxL q) (e8 p) (e8 q) (eO p) (eO q) o.1 o.2.1 o.2.2.1 o.2.2.2
theorem cY{a b:La}(ha:∀c∈a,Closed c)(hb:∀c∈b,Closed c):∀c∈a++b,Closed c:=fun c d=>(List.mem_append.1 d).elim (ha c) (hb c)
theorem fs_SNeg(a b:Rat):FS 178 [.agg (spC a b)] (.agg (spC (-b) (-a))):=by
 refine f_c Tryz.func178 ?_;refine r_z 2 ?_;refine ae (r_d a7 8 ?_);refine c_s (ki b) ?_;refine c_s (ki a) ?_;refine a_2 ?_;refine aq (n_k ?_);exact ai (c_e (b5 _ _))
def absL(v:Sp):Rat:=if 0<=v.1 then v.1 else if v.2<=0 then -v.2 else 0
theorem sg_ge{q:Rat}:(0:Int)<=sgZ q.num↔0<=q:=by
 have h:=sgZ_num_lt (q:=q);constructor;intro g;have:¬q< 0:=fun e=>by have:=h.2 e;omega
 grind;intro g;have:¬sgZ q.num< 0:=fun e=>by have:=h.1 e;grind
 omega
theorem sg_le{q:Rat}:sgZ q.num<=(0:Int)↔q<=0:=by
 have h:=sgZ_num_gt (q:=q);constructor;intro g;have:¬0< q:=fun e=>by have:=h.2 e;omega
 grind;intro g;have:¬0< sgZ q.num:=fun e=>by have:=h.1 e;grind
 omega
theorem fs_SAbs(v:Sp)(h1:sm v.1)(h2:sm v.2):FS 134 [.agg (spC v.1 v.2)] (.agg (spC (absL v) (Ep v))):=by
 have b:∀c∈spC v.1 v.2,Closed c:=aZ _ _;refine f_c Tryz.func134 ?_;refine r_z 2 ?_;refine ae (aj ?_);by_cases g1:0<=v.1;rw[show absL v=v.1 from if_pos g1,show Ep v=v.2 from if_pos g1];refine r_c 5 (cC v.1) ?_;refine o_0 (.bin rfl rfl (vT jq (decide_eq_true (sg_ge.2 g1)))) ?_;refine a_z ?_;refine cT (r_z 2 ?_);exact ai (c_e (b5 _ _));refine r_c 5 (cC v.1) ?_;refine o_0 (.bin rfl rfl (vF jq (decide_eq_false (fun e=>g1 (sg_ge.1 e))))) ?_;refine a_z ?_;refine cF ?_;by_cases g2:v.2<=0;rw[show absL v= -v.2 from(if_neg g1).trans (if_pos g2),show Ep v= -v.1 from(if_neg g1).trans (if_pos g2)];refine r_c 5 (cC v.2) ?_;refine o_0 (.bin rfl rfl (vT iC (decide_eq_true (sg_le.2 g2)))) ?_;refine a_z ?_;refine cT (r_c 3 (fs_SNeg v.1 v.2) ?_);refine a_z ?_;exact ai (c_e (b5 _ _));rw[show absL v=0 from(if_neg g1).trans (if_neg g2),show Ep v=lr [-v.1,v.2] from(if_neg g1).trans (if_neg g2)];refine r_c 5 (cC v.2) ?_;refine o_0 (.bin rfl rfl (vF iC (decide_eq_false (fun e=>g2 (sg_le.1 e))))) ?_;refine a_z ?_;refine cF (am ?_);have a:=zg [-v.1,v.2] (yw (by unfold sm;rw[fw];exact h1) h2) (by simp);refine ae (r_d a7 10 ?_);refine c_s (ki v.1) ?_;refine a_3 ?_;refine o_1 (.callS1 rfl rfl rfl (.shut rfl d_n (.nil)) rfl (a)) ?_;refine a_2 ?_;refine aq (n_k ?_);refine ai ?_;rw[show spC 0 (lr [-v.1,v.2])=[.arr [],bln false,.arr []]++qC (lr [-v.1,v.2]) from by unfold spC;rw[qC0]];refine Fin.cell rfl rfl rfl TG.h TS.h (nle rfl) ?_
 exact Cv.agg (ah (Cv.emp _) (ah (an aA (ag _)) (ah (Cv.emp _) (CvL.clo aA (bC _)))))
abbrev prC(p:Lq×Lq):La:=[.arr (pE p.1),.arr (pE p.2)]
def kE(k:Ke):Lc:=k.map prC
@[simp] theorem dY (k:Ke):(kE k).length=k.length:=by simp[kE]
theorem fk(p:Lq×Lq):∀c∈prC p,Closed c:=ac (aB _) (ac (aB _) af)
theorem eu(k:Ke):∀x∈kE k,∀c∈x,Closed c:=fun x a=>by
 obtain⟨p,_,rfl⟩:=List.mem_map.1 a;exact fk p
theorem aL(k:Ke):Closed (.arr (kE k)):=aG (eu k)
theorem ka{k:Ke}{i:Nat}{p:Lq×Lq}(h:k[i]?=some p):∀e,e=i->(kE k)[e]?=some (prC p):=fun e a=>by
 rw[a,kE,List.getElem?_map,h];rfl
def Cf(p:Lq×Lq):Bool:=decide (12< if bO p.2> bO p.1 then bO p.2 else bO p.1)
theorem GY(p:Lq×Lq)(h1:p.1.length<=1099511627776)(h2:p.2.length<=1099511627776):FS 89 [.agg (prC p)] (bln (Cf p)):=by
 refine f_n Tryz.func89 ?_ ?_;exact ac (az (fk p)) af;refine r_z 2 ?_;refine ae (r_d a7 9 ?_);refine c_s (db p.1 h1) ?_;refine c_s (db p.2 h2) ?_;refine a_3 ?_;refine aq (n_k ?_);exact ai (t_e (ag _))
def kg{α:Type}(t:α->Bool):List α->Int->Int
 |[],_=> -1
 |a::l,i=>if t a then i else kg t l (i+1)
theorem qA{α:Type}(t:α->Bool):∀(l:List α) (i:Int),0<=i->(decide (0<=kg t l i))=l.any t
 |[],i,_=>by simp[kg]
 |a::l,i,hi=>by
  unfold kg;cases h:t a with
  |true=>simp[h,hi]
  |false=>simp[h];rw[<-qA t l (i+1) (by omega)]
theorem zQ{α:Type}{l:List α}{i:Nat}{a:α}(h:l[i]?=some a):l.drop i=a::l.drop (i+1):=by
 obtain⟨b,c⟩:=List.getElem?_eq_some_iff.1 h;rw[<-c];exact List.drop_eq_getElem_cons b
def ikS(k:Ke)(g:Nat)(cap:La):Nat->AState
 |i=>⟨[(0,.arr (kE k)),(1,.clos g [] cap),(7,i64 k.length),(8,i64 i)],[],1,19⟩
theorem GV(k:Ke)(g:Nat)(cap:La)(t:Lq×Lq->Bool)(hcap:∀c∈cap,Closed c)(hl:k.length<=1099511627776)(hg:∀p∈k,FS g ((.agg (prC p)::cap).map coe) (bln (t p))):FS 146 [.arr (kE k),.clos g [] cap] (i64 (kg t k 0)):=by
 have hcc:Closed (.clos g [] cap):=aR af hcap;have j:(kE k).length=k.length:=dY k;refine f_n Tryz.func146 ?_ ?_;exact ac (aL k) (ac hcc af);obtain⟨R,h⟩:∃R,R=kg t k 0:=⟨_,rfl⟩;rw[<-h];refine r_z 1 ?_;refine ae (r_z 3 ?_);refine aF (fun _:Unit=>⟨[],[],1,19⟩) (fun _=>R= -1) ?_ ?_;refine aj (aC (ikS k g cap) (fun i=>k.length- i) (fun i=>i<=k.length/\kg t (k.drop i) i=R) 0 ⟨Nat.zero_le _,by rw[h];rfl⟩ ?_ ?_);simp only[ikS.eq_1];exact s_x [] (fun hs=>e_38) (fun hs=>e_39);rintro i ⟨l,a⟩;rw[ikS.eq_1];by_cases hlt:i< k.length;refine q_z 1 ?_;refine ae (cT (am ?_));obtain⟨p,hp⟩:∃p,k[i]?=some p:=⟨_,List.getElem?_eq_getElem hlt⟩;have b:(kE k)[((i:Nat):Int).toNat]?=some (prC p):=ka hp _ (by simp);rw[zQ hp,kg] at a;refine ae (aj (r_z 2 ?_));refine s_r 6 ?_;refine a_3 ?_;refine i_x b ?_;refine l_x b ?_;refine c_s (hg p (List.mem_of_getElem? hp)) ?_;refine aq ?_;refine au rfl (fun f=>?_) (fun f=>?_);have e:t p=true:=f;rw[if_pos e] at a;refine r_z 2 ?_;refine ai (aW rfl ?_ ?_);rw[<-a];exact ag _;have e:¬t p=true:=by rw[show t p=false from f];decide
 rw[if_neg e] at a;refine am (r_m 2 ?_);refine a_z ?_;refine⟨i+1,by omega,⟨hlt,a⟩,?_⟩;simp only[ikS.eq_1];exact s_x [] (fun hs=>e_38) (fun hs=>e_39);have d:i=k.length:=by omega
 subst d;refine q_z 1 ?_;refine ae (cF ?_);rw[List.drop_length] at a;refine ax ⟨(),a.symm,?_⟩;exact s_e [];rintro _ a;refine r_z 1 ?_;refine ai (aW rfl ?_ ?_);rw[a];rfl;exact ag _
theorem zo(k:Ke)(g:Nat)(cap:La)(t:Lq×Lq->Bool)(hcap:∀c∈cap,Closed c)(hl:k.length<=1099511627776)(hg:∀p∈k,FS g ((.agg (prC p)::cap).map coe) (bln (t p)))(hcap2:cap.map coe=cap):FS 88 [.arr (kE k),.clos g [] cap] (bln (k.any t)):=by
 have a:Closed (.clos g [] cap):=aR af hcap;have e:=qA t k 0 (Int.le_refl 0);have b:=GV k g cap t hcap hl hg;refine f_n Tryz.func88 ?_ ?_;exact ac (aL k) (ac a af);refine r_z 1 ?_;refine r_c 5 (b) ?_;refine a_z ?_;refine ai (aW rfl ?_ ?_);rw[<-e];rfl;exact ag _
def pn(k:Ke):Prop:=k.length<=8/\k.any Cf=false/\∀p∈k,p.1.length<=1099511627776/\p.2.length<=1099511627776
theorem vE(k:Ke)(h:pn k):FS 31 [.arr (kE k)] (i64 0):=by
 have b:(kE k).length=k.length:=dY k;have a:=zo k 89 [] Cf af (by have:=h.1;omega) (fun p hp=>GY p (h.2.2 p hp).1 (h.2.2 p hp).2) rfl;rw[h.2.1] at a;have c:=h.1;refine f_n Tryz.func31 ?_ ?_;exact ac (aL k) af;refine r_z 1 ?_;refine ae (q_c 7 (a) ?_);refine a_z ?_;refine cF (am (r_z 1 ?_));exact ai (t_e (ag _))
theorem oM(k:Ke)(a b:Rat)(h:pn k)(ha:sm a)(hb:sm b)(hab:a<=b):FS 33 [.arr (kE k),.agg (spC a b)] (bln false):=by
 have d:=vE k h;have c:=lH a b ha hb;rw[decide_eq_true (cmpQ_le.2 hab)] at c;refine f_n Tryz.func33 ?_ ?_;exact ac (aL k) (ac (b5 _ _) af);refine r_z 2 ?_;refine r_c 9 (d) ?_;refine o_0 (.bin rfl rfl (vF ct (rfl))) ?_;refine c_s (c) ?_;refine a_z ?_;exact ai (t_e (ag _))
abbrev eqC(k:Ke)(l:Rat)(g:Lq):La:= .arr (kE k)::(qC l++[.arr (pE g)])
theorem dk(k:Ke)(l:Rat)(g:Lq):∀c∈eqC k l g,Closed c:=ac (aL k) fun c a=>(List.mem_append.1 a).elim (bC l c) (ac (aB g) af c)
theorem fW(k:Ke)(l:Rat)(g:Lq)(a b:Rat)(h:pn k)(ha:sm a)(hb:sm b)(hab:a<=b)(hg:bO g<=20)(hgl:g.length<=1099511627776):FS 35 [.agg (eqC k l g++spC a b)] (bln false):=by
 have e:=oM k a b h ha hb hab;have d:=db g hgl;have f:∀c∈eqC k l g++spC a b,Closed c:=fun c i=>(List.mem_append.1 i).elim (dk k l g c) (aZ a b c);refine f_c Tryz.func35 ?_;refine r_z 2 ?_;refine r_c 14 (e) ?_;refine c_s (d) ?_;refine d_z ?_;exact ai (t_e (ag _))
theorem lF(a b:Rat)(hb:b≠0)(h:qs a+qs b<=549755813888):FS 77 [.agg (qC a),.agg (qC b)] (.agg (qC (a/ b))):=by
 refine f_c Tryz.func77 ?_;refine r_z 3 ?_;refine r_c 9 (DM a b hb h) ?_;refine a_z ?_;refine r_z 2 ?_;exact ai (c_e (aS _))
theorem fs_cut(p:Lq)(n:Nat)(hp:p.length<=1099511627776)(hn:n<=1000000):FS 79 [.arr (pE p),i64 n] (.arr (pE (D9 p n))):=by
 have c:(pE p).length=p.length:=by simp[pE]
 obtain⟨m,b⟩:∃m,m=min p.length (n+1):=⟨_,rfl⟩
 have d:p.take m=p.take (n+1):=by
  rw[b];by_cases g:p.length<=n+1;rw[Nat.min_eq_left g,List.take_of_length_le (Nat.le_refl _),List.take_of_length_le g];rw[Nat.min_eq_right (by omega)]
 have e:(pE p).take m=pE (p.take (n+1)):=by rw[<-d];simp[pE,List.map_take]
 have a:=c9 (p.take (n+1)) (by rw[List.length_take];omega);refine f_c Tryz.func79 ?_;refine r_z 1 ?_;refine s_r 9 ?_;refine a_6 ?_;refine o_0 (.sa_hE (h:=m) e rfl rfl (by rw[b];split <;> omega) (by omega) te_38.h (mj _)) ?_;refine c_s (a) ?_;refine a_z ?_;exact ai (t_e (aB _))
theorem smL_one{v:Rat}(h:sm v):smL [v]:=fun x a=>by rw[List.mem_singleton.1 a];exact h
def upS(k:Ke)(a:Rat)(u:Lq):Nat×Lq->AState
 |(i,o)=>⟨[(2,.arr (pE u)),(4,.lptr 1 0 0),(7,.arr (pE o)),(11,.arr (kE k)),(12,i64 k.length),(13,i64 i)],[(1,some ⟨36,3,[qC a]⟩)],2,35⟩
theorem IW(k:Ke)(a:Rat)(u:Lq)(h:AT k a u)(hl:k.length<=1000):FS 80 [.arr (kE k),.agg (qC a),.arr (pE u)] (.arr (pE (upK k a u))):=by
 have f:(kE k).length=k.length:=dY k;refine f_n Tryz.func80 ?_ ?_;exact ac (aL k) (ac (aS a) (ac (aB u) af));refine r_z 2 ?_;refine r_z 1 ?_;refine ae (r_z 3 ?_);refine aF (fun _:Unit=>⟨[(7,.arr (pE (upK k a u)))],[],1,35⟩) (fun _=>True) ?_ ?_;refine aj (aC (upS k a u) (fun x=>k.length- x.1) (fun x=>x.1<=k.length/\x.2=upL a u (k.take x.1) []) (0,[]) ⟨Nat.zero_le _,rfl⟩ ?_ ?_);simp only[upS.eq_1];exact s_x [(1,4)] (fun hs=>e_40) (fun hs=>e_41);rintro⟨i,o⟩ ⟨n,c⟩;simp only at n c;rw[upS.eq_1];by_cases hlt:i< k.length;obtain⟨p,hp⟩:∃p,k[i]?=some p:=⟨_,List.getElem?_eq_getElem hlt⟩;have b:(kE k)[((i:Nat):Int).toNat]?=some (prC p):=ka hp _ (by simp);have ok:=h i p hp;rw[<-c] at ok;have j:=qR p.2 u ok.m1;have e:=nY (aK p.2 u) (u6 ok.m1) ok.i1;have m:=iv (aH (aK p.2 u)) a ok.e1;have g:=DP (aH (aK p.2 u)) [ak (aH (aK p.2 u)) a] ok.i2 (smL_one (vJ ok.e1)) ok.l1 (by simp);have l:=qR p.1 _ ok.m2;have q:=nZ o _ ok.o1 (u6 ok.m2) ok.o2 ok.l2;refine q_z 1 ?_;refine ae (cT (am (ae (aj (s_r 4 ?_)))));refine i_x b ?_;refine l_x b ?_;refine a_z ?_;refine r_c 6 (j) ?_;refine c_s (e) ?_;refine a_z ?_;refine r_d a7 12 ?_;refine c_s (m) ?_;refine a_1 ?_;refine o_1 (.callS1 rfl rfl rfl (.keep (.shut rfl d_n (.nil))) rfl (g)) ?_;refine c_s (l) ?_;refine c_s (q) ?_;refine a_1 ?_;refine aq (n_k ?_);refine r_m 2 ?_;refine a_z ?_;refine⟨(i+1,upF a u o p),by simp only;omega,⟨hlt,by simp only;rw[cJ hp,Ap,<-c]⟩,?_⟩;simp only[upS.eq_1];unfold upF;exact s_x [] (fun hs=>e_40) (fun hs=>e_41)
 have d:i=k.length:=by omega
 subst d;refine q_z 1 ?_;refine ae (cF ?_);rw[List.take_length] at c;refine ax ⟨(),trivial,?_⟩;unfold upK;rw[<-c];exact s_e [];rintro _ _;refine r_z 2 ?_;exact ai (t_e (aB _))
theorem GD(a:Rat)(p:Lq×Lq)(h1:gP [a,1] p.1/\p.1.length<=274877906944)(h2:gP [a,1] p.2/\p.2.length<=274877906944):FS 139 [.agg (prC p),bQ a] (.agg (prC (cn [a,1] p.1,cn [a,1] p.2))):=by
 have c:=vz p.1 a h1.1 h1.2;have b:=vz p.2 a h2.1 h2.2;refine f_n Tryz.func139 ?_ ?_;exact ac (az (fk p)) (ac (cN a) af);refine r_z 2 ?_;refine ae (r_d a7 10 ?_);refine c_s (c) ?_;refine c_s (b) ?_;refine a_2 ?_;refine aq (n_k ?_);exact ai (c_e (az (fk _)))
def ecS(k:Ke)(g:Nat)(cap:La)(f:Lq×Lq->Lq×Lq):Nat->AState
 |0=>⟨[(1,.clos g [] cap),(8,.arr (kE k)),(9,i64 k.length),(10,i64 0),(5,.emp)],[],1,22⟩
 |i+1=>⟨[(1,.clos g [] cap),(8,.arr (kE k)),(9,i64 k.length),(10,i64 ((i+1:Nat):Int)),(5,.lsl 1 0 (i+1) none 2)],[(1,some ⟨93,2,kE ((k.take (i+1)).map f)⟩)],2,22⟩
theorem Dm(k:Ke):(kE k).all (·.all AV.one)=true:=by
 rw[List.all_eq_true];intro x a;obtain⟨p,_,rfl⟩:=List.mem_map.1 a;rfl
theorem Fj(k:Ke)(p:Lq×Lq):kE (k++[p])=kE k++[prC p]:=by simp[kE]
theorem Jd(k:Ke)(g:Nat)(cap:La)(f:Lq×Lq->Lq×Lq)(hcap:∀c∈cap,Closed c)(hl:k.length<=1000)(hg:∀p∈k,FS g ((.agg (prC p)::cap).map coe) (.agg (prC (f p)))):FS 91 [.arr (kE k),.clos g [] cap] (.arr (kE (k.map f))):=by
 have n:(kE k).length=k.length:=dY k;have hcc:Closed (.clos g [] cap):=aR af hcap;refine f_n Tryz.func91 ?_ ?_;exact ac (aL k) (ac hcc af);refine r_z 1 ?_;refine r_z 1 ?_;refine ae (r_z 3 ?_);refine aF (fun _:Unit=>⟨[(5,.arr (kE (k.map f)))],[],1,22⟩) (fun _=>True) ?_ ?_;refine aj (aC (ecS k g cap f) (fun i=>k.length- i) (fun i=>i<=k.length) 0 (Nat.zero_le _) ?_ ?_);rw[ecS.eq_1];exact s_x [] (fun hs=>e_1) (fun hs=>e_23);intro i o;by_cases hlt:i< k.length
 ·obtain⟨p,hp⟩:∃p,k[i]?=some p:=⟨_,List.getElem?_eq_getElem hlt⟩
  have e:=hg p (List.mem_of_getElem? hp);have l:(k.take (i+1)).length=i+1:=by rw[List.length_take];omega
  have hnew:kE ((k.take i).map f)++[prC (f p)]=kE ((k.take (i+1)).map f):=by rw[cJ hp,List.map_append,List.map_singleton,Fj]
  cases i with
  |zero=>
   have a:(kE k)[((0:Int)).toNat]?=some (prC p):=ka hp _ rfl;rw[ecS.eq_1];refine q_z 1 ?_;refine ae (cT (am (ae (aj (s_r 4 ?_)))));refine i_x a ?_;refine l_x a ?_;refine a_z ?_;refine r_m 7 ?_;refine c_s (e) ?_;refine a_z ?_;refine r_m 2 ?_;refine a_z ?_;refine⟨0+1,by omega,by omega,?_⟩;rw[ecS.eq_2];rw[<-hnew];exact s_x [(1,5)] (fun hs=>e_1) (fun hs=>e_42)
  |succ i=>
   have a:(kE k)[(((i+1:Nat):Int)).toNat]?=some (prC p):=ka hp _ (by simp);have m:=Dm ((k.take (i+1)).map f);have b:(kE ((k.take (i+1)).map f)).length=i+1:=by rw[dY,List.length_map,List.length_take];omega
   rw[ecS.eq_2];refine q_z 1 ?_;refine ae (cT (am (ae (aj (s_r 4 ?_)))));refine i_x a ?_;refine l_x a ?_;refine a_z ?_;refine r_m 7 ?_;refine c_s (e) ?_;refine o_1 (.buildSlice te_28.h TZ.h rfl (by decide) rfl rfl rfl (by first|(simp;done)|(simp[cf,ofV];done)|rfl)) ?_;refine o_2 (.append_l rfl rfl rfl te_28.h rfl rfl rfl rfl rfl d_o (by first|exact dV _|exact dT _|exact dy _|exact dX _|exact dS _|assumption|rfl|simp) (by first|rfl|exact dV _|exact dT _|exact dy _|exact dX _|exact dS _|simp) rfl (.lsl rfl (nle rfl)) TZ.h rfl TB.h d_o (by first|(simp[maxLen];done)|(simp[maxLen];omega))) ?_;refine o_0 (.assign rfl) ?_;refine aq ?_;refine r_m 2 ?_;refine a_z ?_;refine⟨i+1+1,by omega,by omega,?_⟩;rw[ecS.eq_2];exact s_x [(1,5)] (fun hs=>e_1) (fun hs=>e_43)
 have d:i=k.length:=by omega
 cases i with
 |zero=>
  have j:k=[]:=List.eq_nil_of_length_eq_zero d.symm;subst j;rw[ecS.eq_1];refine q_z 1 ?_;refine ae (cF (ax ⟨(),trivial,?_⟩));exact s_e []
 |succ i=>
  have b:(kE (k.map f)).length=i+1:=by rw[dY,List.length_map];omega
  rw[ecS.eq_2,d,List.take_length];refine q_z 1 ?_;refine ae (cF (ax ⟨(),trivial,?_⟩));exact s_x [] (fun hs=>e_44) (fun hs=>e_45)
 rintro _ _;refine r_z 2 ?_;exact ai (t_e (aL _))
theorem I8(k:Ke)(l:Rat)(g:Lq)(a:Rat)(hl:k.length<=1000)(hk:∀p∈k,(gP [a,1] p.1/\p.1.length<=274877906944)/\gP [a,1] p.2/\p.2.length<=274877906944)(hg:gP [a,1] g)(hgl:g.length<=274877906944):FS 78 [.agg (eqC k l g),.agg (qC a)] (.agg (eqC (mvK a k) l (cn [a,1] g))):=by
 have d:=Jd k 139 [bQ a] (fun p=>(cn [a,1] p.1,cn [a,1] p.2)) (ac (cN a) af) hl fun p hp=>GD a p (hk p hp).1 (hk p hp).2;have c:=vz g a hg hgl;have b:=dk k l g;refine f_c Tryz.func78 ?_;refine r_z 3 ?_;refine AWp.ent (st':=⟨[(2,.aptr [eqC k l g] 0 0),(3,bQ a),(4,.lptr 1 0 0)],[(1,some ⟨40,5,[.emp::(zC++[.emp])]⟩)],2,16⟩) ?_ ?_;refine s_x [(1,4)] (fun hs=>?_) (fun hs=>?_)
 ·repeat' (first|exact aP|refine ay rfl ?_ ?_|exact Cv.boxp hs rfl (aT rfl) rfl b|exact Cv.boxp hs rfl (aT rfl) rfl (bC a)|exact aX)
 ·repeat' (first|exact aE|refine h_c ?_ ?_|exact bZ|refine aD ?_|exact av|refine ah ?_ ?_|exact Cv.boxp hs rfl (aT rfl) rfl b|exact Cv.boxp hs rfl (aT rfl) rfl (bC a)|exact aX)
 refine ae (r_d a7 12 ?_);refine c_s (d) ?_;refine c_s (c) ?_;refine a_2 ?_;refine aq (n_k ?_);exact ai (c_e (az (dk _ _ _)))
theorem spC00:spC 0 0=[.arr [],bln false,.arr [],.arr [],bln false,.arr []]:=by unfold spC;rw[qC0];rfl
theorem Dy(k:Ke)(l:Rat)(g:Lq)(h:pn k)(hg:bO g<=20)(hgl:g.length<=1099511627776):FS 35 [.agg (eqC k l g++[.arr [],bln false,.arr [],.arr [],bln false,.arr []])] (bln false):=by
 have:=fW k l g 0 0 h (by decide) (by decide) Rat.le_refl hg hgl;rw[spC00] at this;exact this
theorem IY(k:Ke)(u:Lq)(h:AT k 0 u)(hl:k.length<=1000):FS 80 [.arr (kE k),.agg [.arr [],bln false,.arr []],.arr (pE u)] (.arr (pE (upK k 0 u))):=by
 have:=IW k 0 u h hl;rw[qC0] at this;exact this
structure OkSe (k:Ke)(l:Rat)(g:Lq)(a:Rat)(n:Nat):Prop where
 ke:pn k
 dg:bO g<=20
 mv:∀p∈k,(gP [a,1] p.1/\p.1.length<=274877906944)/\gP [a,1] p.2/\p.2.length<=274877906944
 mg:gP [a,1] g
 gl:g.length<=274877906944
 sl:sm l
 sg:smL (cn [a,1] g)
 gl2:(cn [a,1] g).length<=1099511627776
 up:∀r,r<=n->AT (mvK a k) 0 (seK (mvK a k) (cn [a,1] g) l n r)
 us:∀r,r<=n->smL (upK (mvK a k) 0 (seK (mvK a k) (cn [a,1] g) l n r))/\(upK (mvK a k) 0 (seK (mvK a k) (cn [a,1] g) l n r)).length<=1099511627776
 ss:∀r,r<=n->smL (ba (upK (mvK a k) 0 (seK (mvK a k) (cn [a,1] g) l n r)) l)
def seS(k:Ke)(l:Rat)(g:Lq)(a:Rat)(n:Nat):Nat->AState
 |r=>⟨[(2,i64 n),(9,.lptr 1 0 0),(10,.arr (pE (seK (mvK a k) (cn [a,1] g) l n r))),(29,i64 ((n:Int)+1)),(30,i64 r)],[(1,some ⟨40,5,[eqC (mvK a k) l (cn [a,1] g)]⟩)],2,47⟩
theorem GP(k:Ke)(l:Rat)(g:Lq)(a:Rat)(n:Nat)(hn:n<=40)(hok:OkSe k l g a n):FS 28 [.agg (eqC k l g),.agg (qC a),i64 n] (.tup [.arr (pE (seK (mvK a k) (cn [a,1] g) l n (n+1))),i64 0]):=by
 have p:=dk k l g;have m:=dk (mvK a k) l (cn [a,1] g);have o:=hok.ke.1;have q:(mvK a k).length=k.length:=by simp[mvK]
 have i:=Dy k l g hok.ke hok.dg (by have:=hok.gl;omega);have j:=I8 k l g a (by omega) hok.mv hok.mg hok.gl;refine f_c Tryz.func28 ?_;refine r_z 4 ?_;refine r_z 5 ?_;refine ae (aj (r_c 3 (i) ?_));refine a_z ?_;refine cF (q_z 7 ?_);refine cF (am (r_c 6 (j) ?_));refine a_z ?_;refine r_z 1 ?_;refine ae (r_z 3 ?_);refine aF (fun _:Unit=>⟨[(10,.arr (pE (seK (mvK a k) (cn [a,1] g) l n (n+1))))],[],1,47⟩) (fun _=>True) ?_ ?_;refine aj (aC (seS k l g a n) (fun r=>n+1- r) (fun r=>r<=n+1) 0 (Nat.zero_le _) ?_ ?_);simp only[seS.eq_1];exact s_f [(1,9)];intro r t;rw[seS.eq_1];by_cases hlt:r< n+1;have d:=IY (mvK a k) _ (hok.up r (by omega)) (by omega);have b:=hok.us r (by omega);have f:=fK _ l b.1 hok.sl b.2;have h:=nZ (cn [a,1] g) _ hok.sg (hok.ss r (by omega)) hok.gl2 (Nat.le_trans (dJ _ _) b.2)
 have c:=fs_cut (fQ (cn [a,1] g) (ba (upK (mvK a k) 0 (seK (mvK a k) (cn [a,1] g) l n r)) l)) n (by
  have u:=lX (cn [a,1] g) (ba (upK (mvK a k) 0 (seK (mvK a k) (cn [a,1] g) l n r)) l);have s:=dJ (upK (mvK a k) 0 (seK (mvK a k) (cn [a,1] g) l n r)) l;have:=hok.gl2;have:=b.2;omega) (by omega)
 refine q_z 1 ?_;refine ae (cT (am (ae (aj (r_d a7 14 ?_)))));refine c_s (d) ?_;refine c_s (f) ?_;refine c_s (h) ?_;refine c_s (c) ?_;refine a_1 ?_;refine aq (n_k ?_);refine r_m 2 ?_;refine a_z ?_;refine⟨r+1,by omega,by omega,?_⟩;simp only[seS.eq_1];rw[seK];exact s_f [(1,9)];have e:r=n+1:=by omega
 subst e;refine q_z 1 ?_;refine ae (cF (ax ⟨(),trivial,?_⟩));exact s_e [];rintro _ _;refine r_z 3 ?_;refine ai (Fin.many ⟨_,_,rfl,rfl,⟨_,_,rfl,rfl,rfl⟩⟩ (nle rfl) ?_);exact ah (an aA (aB _)) (ah (an aA (ag _)) av)
end Go.Proofs.YtkbjakfniejkcaaGreatDoor
