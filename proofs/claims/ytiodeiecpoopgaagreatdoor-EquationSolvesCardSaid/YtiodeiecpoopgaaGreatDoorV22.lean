/- Part V22. -/
import Derived.Test.YtiodeiecpoopgaaGreatDoorV21
set_option linter.all false
namespace Go.Proofs.YtiodeiecpoopgaaGreatDoor
open Go.Abs
set_option maxRecDepth 20000
set_option maxHeartbeats 2000000
def HD(c:Cnt)(q:Lq)(step:Rat)(s:Sp):Option Bool:=if yG q s/\smS (iw q s)/\sm ((iw q s).2- (iw q s).1)/\sm step/\mX c s then some (decide (fl ((iw q s).2- (iw q s).1) step< 0)) else none
def valR(f g:Nat)(c:Cnt)(i:Int)(q:Lq)(k:Int)(v:Sp):Option Sp:=
 if sm (j9 v.2 (wi k 256))/\smS v/\sm (gF (wi k 256))/\smL q/\q.length<=274877906944 then
  if fl (j9 v.2 (wi k 256)) v.1< 0 then some (j9 v.2 (wi k 256),j9 v.2 (wi k 256)+gF (wi k 256))
  else(H8 f g c i (dP q (eE (j9 v.2 (wi k 256))))).bind fun sg=>
   some (if sg=0 then(j9 v.2 (wi k 256),j9 v.2 (wi k 256)) else if sg=1 then(j9 v.2 (wi k 256),j9 v.2 (wi k 256)+gF (wi k 256)) else(j9 v.2 (wi k 256)- gF (wi k 256),j9 v.2 (wi k 256)))
 else none
def Ce(f g:Nat)(c:Cnt)(i:Int)(q:Lq)(k:Int):Option Sp:=
 (ur f c i 0).bind fun s0=>(oF (fun j=>HD c q (gF (wi k 256)) (cV c i s0 j)) g 0).bind fun j=>valR f g c i q k (iw q (cV c i s0 j))
abbrev bI(k:Int):AV:= .aptr [[i64 k]] 0 0
theorem jO(k:Int):Closed (bI k):=aU (ac (ag _) af)
def vaS(c:Cnt)(i:Int)(q:Lq)(k:Int)(step:Rat):Nat->AState
 |j=>⟨[(3,bPl c i),(4,bP q),(5,bI k),(6,.lptr 1 0 0),(7,bQ step),(14,.clos 257 [] [bPl c i])],[(1,some ⟨50,6,[zC++zC]⟩)],2,61⟩
def vaX(r:Sp):Unit->AState
 |u=>⟨[(6,.lptr 1 0 0)],[(1,some ⟨50,6,[spC r.1 r.2]⟩)],2,61⟩
theorem Jo(f g:Nat)(c:Cnt)(i:Int)(q:Lq)(k:Int)(r:Sp)(h:Ce f g c i q k=some r)(hf:f<=1000000):FS 176 [plA c i,.arr (pE q),i64 k] (.agg (spC r.1 r.2)):=by
 unfold Ce at h;obtain⟨p,R,h2⟩:=Option.bind_eq_some_iff.1 h;obtain⟨y,Q,a⟩:=Option.bind_eq_some_iff.1 h2;obtain⟨t1,_,t2⟩:=kF Q;obtain⟨step,w⟩:∃step,step=gF (wi k 256):=⟨_,rfl⟩;rw[<-w] at t1 t2
 have J:∀j,j<=y->yG q (cV c i p j)/\smS (iw q (cV c i p j))/\sm ((iw q (cV c i p j)).2- (iw q (cV c i p j)).1)/\sm step/\mX c (cV c i p j):=fun j C=>by
  have:∃b,HD c q step (cV c i p j)=some b:=by
   by_cases e:j=y;rw[e];exact⟨_,t1⟩;exact⟨_,t2 j (Nat.zero_le _) (by omega)⟩
  obtain⟨b,hb⟩:=this;unfold HD at hb;split at hb;assumption;cases hb
 have U:=rN f c i p y R (fun j C=>(J j (by omega)).2.2.2.2);have K:=pY k;rw[<-w] at K;refine f_n Tryz.func176 ?_ ?_;exact ac (dm c i) (ac (az q) (ac (ag _) af));refine r_z 4 ?_;refine r_c 4 (K) ?_;refine a_z ?_;refine AWp.ent (st':=⟨[(3,bPl c i),(4,bP q),(5,bI k),(6,.lptr 1 0 0),(7,bQ step)],[(1,some ⟨50,6,[zC++zC]⟩)],2,61⟩) ?_ ?_;have:=(ac (dm c i) af);exact s_f [(1,6)];refine ae (r_c 2 (rW c i) ?_);refine ao ?_;refine aC (vaX r) (fun _=>False) ?_ (fun _ h=>h.elim);refine ah (AWp.rangeFuncB (α:=Nat) (γ:=Unit) y (vaS c i q k step) (fun j=>j) (fun j=>j<=y) (vaX r) (fun e _=>e= .ret) 0 rfl U rfl rfl ?_ (fun _=>⟨rfl,rfl⟩) (fun _=>rfl) (Nat.zero_le _) rfl (fun _ h=>h) ?_ ?_ ?_ ?_ ?_);intro j xs F;cases F;rfl;rw[vaS.eq_1];have:=jO k;exact s_t [];exact ac (dw c i) af;intro l j xs C F;cases F;have M:=J j C;obtain⟨s,o⟩:∃s,s=cV c i p j:=⟨_,rfl⟩;rw[<-o] at M⊢;obtain⟨Y,B,L,O,x5⟩:=M;obtain⟨v,hv⟩:∃v,v=iw q s:=⟨_,rfl⟩;have D:=fs_Over q s Y;rw[<-hv] at D B L;show AWp _ _ _ _ ⟨[(15,.agg (spC s.1 s.2)),(3,bPl c i),(4,bP q),(5,bI k),(6,.lptr 1 0 0),(7,bQ step),(14,.clos 257 [] [bPl c i]),(1003,bPl c i),(1004,bP q),(1005,bI k),(1006,.lptr 1 0 0),(1007,bQ step),(1014,.clos 257 [] [bPl c i])],[(1,some ⟨50,6,[zC++zC]⟩)],2,61⟩;refine r_m 2 ?_;refine a_z ?_;refine ah (r_c 5 (D) ?_);refine a_z ?_;refine ae (ae (r_d aT 5 ?_));refine c_s (xo v.1 v.2 B.1 B.2) ?_;refine c_s (rV (v.2- v.1) step L O) ?_;refine a_1 ?_;refine ao (n_k ?_);refine ap rfl (fun V=>?_) (fun V=>?_)
 have S:¬fl (v.2- v.1) step< 0:=by
  have:0<=fl (v.2- v.1) step:=by simpa using V
  omega
 have X:j< y:=by
  refine Nat.lt_of_le_of_ne C fun e=>?_;subst e;rw[<-o] at t1;unfold HD at t1;rw[<-hv] at t1;rw[if_pos ⟨Y,B,L,O,x5⟩] at t1;simp[S] at t1
 refine aw (⟨j+1,⟨X,rfl⟩,?_⟩);show SEntT _ ⟨[(1003,bPl c i),(1004,bP q),(1005,bI k),(1006,.lptr 1 0 0),(1007,bQ step),(1014,.clos 257 [] [bPl c i])],[(1,some ⟨50,6,[zC++zC]⟩)],2,61⟩;have:=jO k;exact s_t []
 ·have S:fl (v.2- v.1) step< 0:=by
   have:¬0<=fl (v.2- v.1) step:=by simpa using V
   omega
  have X:j=y:=by
   refine Nat.le_antisymm C (Nat.le_of_not_lt fun N=>?_);have n:=t2 j (Nat.zero_le _) N;rw[<-o] at n;unfold HD at n;rw[<-hv] at n;rw[if_pos ⟨Y,B,L,O,x5⟩] at n;simp[S] at n
  subst X;rw[<-o,<-hv] at a;unfold valR at a;rw[<-w] at a;obtain⟨m,hm⟩:∃m,m=j9 v.2 (wi k 256):=⟨_,rfl⟩;rw[<-hm] at a;split at a
  case isFalse=>cases a
  case isTrue hz=>
  obtain⟨G,z2,z3,z4,z5⟩:=hz;have H:=FB v.2 k B.2;rw[<-hm] at H;refine am (r_c 6 (H) ?_);refine a_z ?_;refine ae (r_c 5 (rV m v.1 G z2.1) ?_);refine a_z ?_;refine ap rfl (fun n=>?_) (fun n=>?_);have W:fl m v.1< 0:=by simpa using n
  rw[if_pos W] at a;cases a;refine ae (r_d aT 6 ?_);refine c_s (fM m step (sm2 G z3)) ?_;refine a_2 ?_;refine ao (n_k ?_);refine aj (⟨rfl,(),rfl,?_⟩);show SEntT _ ⟨[(1006,.lptr 1 0 0)],[(1,some ⟨50,6,[spC (m,m+step).1 (m,m+step).2]⟩)],2,61⟩;have:=jO k;exact s_t [];have W:¬fl m v.1< 0:=by simpa using n
  rw[if_neg W] at a;obtain⟨sg,T,Z⟩:=Option.bind_eq_some_iff.1 a;cases Z;have hcl:=oM m;have E:smL (eE m):=mM fun x M=>by rw[List.mem_singleton.1 M];exact G
  refine am (ae (ae (r_d aT 6 ?_)));refine c_s (sU m) ?_;refine c_s (Dz q (eE m) z4 E (by omega) (by omega)) ?_;refine c_s (fs_sign f g c i (dP q (eE m)) sg T hf) ?_;refine ao (n_k ?_);refine ah (r_z 2 ?_);refine ap rfl (fun z=>?_) (fun z=>?_);have d:sg=0:=by simpa using z
  refine r_c 3 (Bt m) ?_;refine a_z ?_;refine aj (⟨rfl,(),rfl,?_⟩);rw[if_pos d];show SEntT _ ⟨[(1006,.lptr 1 0 0)],[(1,some ⟨50,6,[spC (m,m).1 (m,m).2]⟩)],2,61⟩;have:=jO k;exact s_t [];have d:¬sg=0:=by simpa using z
  refine r_z 2 ?_;refine ap rfl (fun A=>?_) (fun A=>?_);have t:sg=1:=by simpa using A
  refine ae (r_d aT 6 ?_);refine c_s (fM m step (sm2 G z3)) ?_;refine a_2 ?_;refine ao (n_k ?_);refine aj (⟨rfl,(),rfl,?_⟩);rw[if_neg d,if_pos t];show SEntT _ ⟨[(1006,.lptr 1 0 0)],[(1,some ⟨50,6,[spC (m,m+step).1 (m,m+step).2]⟩)],2,61⟩;have:=jO k;exact s_t [];have t:¬sg=1:=by simpa using A
  refine am (ae (r_d aT 6 ?_));refine c_s (l8 m step (sm2 G z3)) ?_;refine a_3 ?_;refine ao (n_k ?_);refine aj (⟨rfl,(),rfl,?_⟩);rw[if_neg d,if_neg t];show SEntT _ ⟨[(1006,.lptr 1 0 0)],[(1,some ⟨50,6,[spC (m- step,m).1 (m- step,m).2]⟩)],2,61⟩;have:=jO k;exact s_t []
 intro j C F;cases F;rintro e u rfl;exact Fin.cell rfl rfl rfl TG.h TS.h (nle rfl) (ai aB (bD _ _))


section
variable {f N h Q r J g:Nat}{p:Lq}{c:Cnt}{i:Int}{A B:Rat}
end
section
variable {f N h Q r J g M hq X Xd Td J2:Nat}{p:Lq}{c:Cnt}{i:Int}{A B:Rat}
end

theorem cmpQ_le{a b:Rat}:fl a b<=0↔a<=b:=by
 unfold fl;grind

def vc(a b:Sp):Sp:=(C1 [a.1,b.1],oz [a.2,b.2])
def jx(a:Rat)(k:Int):Sp:=(j9 a (wi k 256),upQ a (wi k 256))
def rlM(f g:Nat)(c:Cnt)(p:Lq)(k:Int)(up:Int):Nat->Int->Sp->Option Sp
 |0,_,_=>none
 |n+1,i,o=>if i< up then(Ce f g c i p k).bind fun v=>if smS o/\smS v then rlM f g c p k up n (i+1) (vc o v) else none else some o
def E2(p:Lq)(s:Sp)(k:Int):Prop:=smS s/\hZ p s.1/\hZ p s.2/\smL p/\p.length<=274877906944/\fl s.1 s.2<=0/\a8 p<=40/\smS (jx (aE p s.1) k)/\smS (jx (aE p s.2) k)
instance (p:Lq) (s:Sp) (k:Int):Decidable (E2 p s k):=inferInstanceAs (Decidable (_/\_/\_/\_/\_/\_/\_/\_/\_))
def yw(f g:Nat)(p:Lq)(s:Sp)(k:Int):Option Sp:=
 if E2 p s k then
  if a8 (fh p)< 0 then some (vc (jx (aE p s.1) k) (jx (aE p s.2) k))
  else(kI f (fh p)).bind fun c=>if tf c s.1/\yE c s.2 then rlM f g c p k (fz c s.2) g (ed c s.1) (vc (jx (aE p s.1) k) (jx (aE p s.2) k)) else none
 else none
def rgS(p:Lq)(s:Sp)(k:Int)(c:Cnt):Int×Sp->AState
 |(i,o)=>⟨[(0,.arr (pE p)),(2,i64 k),(4,bS s),(6,.lptr 1 0 0),(8,.lptr 2 0 0),(10,kA c),(11,i64 i)],[(1,some ⟨50,6,[zC++zC]⟩),(2,some ⟨50,6,[spC o.1 o.2]⟩)],3,66⟩
theorem Bp(f g:Nat)(p:Lq)(s:Sp)(k:Int)(r:Sp)(h:yw f g p s k=some r)(hf:f<=1000000):FS 128 [.arr (pE p),.agg (spC s.1 s.2),i64 k] (.tup [.agg (spC r.1 r.2),i64 0]):=by
 unfold yw at h;split at h
 case isFalse=>cases h
 case isTrue hk=>
 obtain⟨z,G,D,M,Q,K,O,B,C⟩:=hk;have L:=nu p;obtain⟨w,F⟩:∃o,o=vc (jx (aE p s.1) k) (jx (aE p s.2) k):=⟨_,rfl⟩;have j:=Bo (jx (aE p s.1) k).1 (jx (aE p s.1) k).2 (jx (aE p s.2) k).1 (jx (aE p s.2) k).2 B.1 B.2 C.1 C.2;rw[<-F] at h;have b:FS 171 [.agg (spC (jx (aE p s.1) k).1 (jx (aE p s.1) k).2),.agg (spC (jx (aE p s.2) k).1 (jx (aE p s.2) k).2)] (.agg (spC w.1 w.2)):=by rw[F];exact j
 refine f_c Tryz.func128 ?_;refine r_z 3 ?_;refine a6 (fun _:Unit=>⟨[(0,.arr (pE p)),(2,i64 k),(4,bS s),(6,.lptr 1 0 0)],[(1,some ⟨50,6,[zC++zC]⟩)],2,66⟩) (fun _=>True) ?_ ?_;refine ah (r_c 4 (lA s.1 s.2 z.1 z.2) ?_);refine a_z ?_;refine ap rfl (fun E=>?_) (fun E=>?_);exact absurd E (by simp[K]);refine r_c 4 (dc p (by omega)) ?_;refine a_z ?_;refine ap rfl (fun A=>?_) (fun A=>?_);exact absurd A (by simp;omega);refine am ⟨(),trivial,?_⟩;exact s_e [(1,6)];rintro _ _;refine ae (r_d aT 15 ?_);refine c_s (kD p s.1 G) ?_;refine c_s (Br (aE p s.1) k (vD G)) ?_;refine c_s (kD p s.2 D) ?_;refine c_s (Br (aE p s.2) k (vD D)) ?_;refine c_s (b) ?_;refine a_2 ?_;refine ao (n_k ?_);refine ae (r_c 3 (rY p M (by omega)) ?_);refine a_z ?_;refine r_c 3 (dc (fh p) (by omega)) ?_;refine a_z ?_;refine aC (fun _:Unit=>⟨[(6,.lptr 1 0 0),(8,.lptr 2 0 0)],[(1,some ⟨50,6,[zC++zC]⟩),(2,some ⟨50,6,[spC r.1 r.2]⟩)],3,66⟩) (fun _=>True) ?_ ?_;refine ap rfl (fun q=>?_) (fun q=>?_)
 ·have d:¬a8 (fh p)< 0:=by
   have:0<=a8 (fh p):=by simpa using q
   omega
  rw[if_neg d] at h;obtain⟨c,N,l⟩:=Option.bind_eq_some_iff.1 h;split at l
  case isFalse=>cases l
  case isTrue hb=>
  refine r_c 3 (rU f (fh p) c N hf) ?_;refine a_z ?_;refine r_c 5 (ly c s.1 hb.1) ?_;refine a_z ?_;have H:=oV (x:=s.2) hb.2.1;have J:=Hl (x:=s.1) hb.1.1.1;refine ah (ax (fun x:Nat×Int×Sp=>rgS p s k c x.2) (fun x=>x.1) (fun x=>rlM f g c p k (fz c s.2) x.1 x.2.1 x.2.2=some r/\ -4611686018427387904<=x.2.1) (g,ed c s.1,w) ⟨l,by simp only;omega⟩ ?_ ?_);simp only[rgS.eq_1];exact s_e [(2,8)];rintro⟨n,i,o⟩ ⟨a,t⟩;simp only at a t;simp only[rgS.eq_1];cases n with
  |zero=>cases a
  |succ n=>
   rw[rlM] at a;refine ae (r_c 6 (nZ c s.2 hb.2) ?_);refine a_z ?_;refine ap rfl (fun u=>?_) (fun u=>?_)
   ·have e:i< fz c s.2:=by simpa using u
    rw[if_pos e] at a;obtain⟨v,hv,m⟩:=Option.bind_eq_some_iff.1 a;split at m
    case isFalse=>cases m
    case isTrue hsm=>
    have y:FS 171 [.agg (spC o.1 o.2),.agg (spC v.1 v.2)] (.agg (spC (vc o v).1 (vc o v).2)):=Bo o.1 o.2 v.1 v.2 hsm.1.1 hsm.1.2 hsm.2.1 hsm.2.2;refine am (ae (ah (r_z 5 ?_)));refine AWp.ent (st':=⟨[(0,.arr (pE p)),(2,i64 k),(4,bS s),(6,.lptr 1 0 0),(8,.lptr 2 0 0),(10,kA c),(11,i64 i),(12,plA c i)],[(1,some ⟨50,6,[zC++zC]⟩),(2,some ⟨50,6,[spC o.1 o.2]⟩)],3,66⟩) ?_ ?_;refine s_x [] (fun hs=>?_) (fun hs=>?_)
    ·repeat' (first|exact aI|refine au rfl ?_ ?_|exact Cv.boxp hs rfl (aH rfl) rfl (ac (gO c) (ac (ag _) af))|exact aS)
    ·repeat' (first|exact aA|refine h_c ?_ ?_|exact br|refine ay ?_|exact aq|refine ak ?_ ?_|exact Cv.boxp hs rfl (aH rfl) rfl (ac (gO c) (ac (ag _) af))|exact aS)
    refine r_d aT 7 ?_;refine c_s (Jo f g c i p k v hv hf) ?_;refine c_s (y) ?_;refine a_1 ?_;refine ao (n_k ?_);refine r_m 3 ?_;refine a_z ?_;refine⟨(n,i+1,vc o v),Nat.lt_succ_self n,⟨m,by simp only;omega⟩,?_⟩;simp only[rgS.eq_1];exact s_e []
   have e:¬i< fz c s.2:=by simpa using u
   rw[if_neg e] at a;cases a;refine aw ⟨(),trivial,?_⟩;exact s_e []
 have d:a8 (fh p)< 0:=by
  have:¬0<=a8 (fh p):=by simpa using q
  omega
 rw[if_pos d] at h;cases h;refine am ⟨(),trivial,?_⟩;exact s_e [(2,8)];rintro _ _;refine r_z 3 ?_;refine aj (Fin.many ⟨_,_,rfl,⟨_,_,_,_,_,rfl,rfl,rfl,.inl ⟨TG.h,_,TS.h,nle rfl,rfl⟩⟩,⟨_,_,rfl,rfl,rfl⟩⟩ (nle rfl) ?_);exact ak (ai aB (bD _ _)) (ak (ai aB (ag _)) aq)
section
variable {f N h Q r g J J2 J3:Nat}{k:Int}{p:Lq}{K:Rat}(hpl:p.length<=24)(lp:(ar p).length<=N)(bp:bdL p h)(Hp:HS p K h){lo hi:Rat}(hlh:lo<=hi)
end

theorem pW(p q:Lq)(o:jZ p q):FS 49 [.arr (pE p),.arr (pE q)] (.arr (pE (aX p q))):=
 JN p q (mxL p) (mxL q) (e8 p) (e8 q) (eI p) (eI q) o.1 o.2.1 o.2.2.1 o.2.2.2
theorem cj{a b:La}(ha:∀c∈a,Closed c)(hb:∀c∈b,Closed c):∀c∈a++b,Closed c:=fun c d=>(List.mem_append.1 d).elim (ha c) (hb c)
theorem fs_SNeg(a b:Rat):FS 177 [.agg (spC a b)] (.agg (spC (-b) (-a))):=by
 refine f_c Tryz.func177 ?_;refine r_z 2 ?_;refine ae (r_d aT 8 ?_);refine c_s (kX b) ?_;refine c_s (kX a) ?_;refine a_2 ?_;refine ao (n_k ?_);exact aj (c_e (bD _ _))
def absL(v:Sp):Rat:=if 0<=v.1 then v.1 else if v.2<=0 then -v.2 else 0
theorem sg_ge{q:Rat}:(0:Int)<=sgZ q.num↔0<=q:=by
 have h:=sgZ_num_lt (q:=q);constructor;intro g;have:¬q< 0:=fun e=>by have:=h.2 e;omega
 grind;intro g;have:¬sgZ q.num< 0:=fun e=>by have:=h.1 e;grind
 omega
theorem sg_le{q:Rat}:sgZ q.num<=(0:Int)↔q<=0:=by
 have h:=sgZ_num_gt (q:=q);constructor;intro g;have:¬0< q:=fun e=>by have:=h.2 e;omega
 grind;intro g;have:¬0< sgZ q.num:=fun e=>by have:=h.1 e;grind
 omega
theorem fs_SAbs(v:Sp)(h1:sm v.1)(h2:sm v.2):FS 129 [.agg (spC v.1 v.2)] (.agg (spC (absL v) (Ee v))):=by
 have b:∀c∈spC v.1 v.2,Closed c:=bh _ _;refine f_c Tryz.func129 ?_;refine r_z 2 ?_;refine ae (ah ?_);by_cases g1:0<=v.1;rw[show absL v=v.1 from if_pos g1,show Ee v=v.2 from if_pos g1];refine r_c 5 (cJ v.1) ?_;refine o_0 (.bin rfl rfl (vT jl (decide_eq_true (sg_ge.2 g1)))) ?_;refine a_z ?_;refine cT (r_z 2 ?_);exact aj (c_e (bD _ _));refine r_c 5 (cJ v.1) ?_;refine o_0 (.bin rfl rfl (vF jl (decide_eq_false (fun e=>g1 (sg_ge.1 e))))) ?_;refine a_z ?_;refine cF ?_;by_cases g2:v.2<=0;rw[show absL v= -v.2 from(if_neg g1).trans (if_pos g2),show Ee v= -v.1 from(if_neg g1).trans (if_pos g2)];refine r_c 5 (cJ v.2) ?_;refine o_0 (.bin rfl rfl (vT ir (decide_eq_true (sg_le.2 g2)))) ?_;refine a_z ?_;refine cT (r_c 3 (fs_SNeg v.1 v.2) ?_);refine a_z ?_;exact aj (c_e (bD _ _));rw[show absL v=0 from(if_neg g1).trans (if_neg g2),show Ee v=oz [-v.1,v.2] from(if_neg g1).trans (if_neg g2)];refine r_c 5 (cJ v.2) ?_;refine o_0 (.bin rfl rfl (vF ir (decide_eq_false (fun e=>g2 (sg_le.1 e))))) ?_;refine a_z ?_;refine cF (am ?_);have a:=y3 [-v.1,v.2] (yc (by unfold sm;rw[iB];exact h1) h2) (by simp);refine ae (r_d aT 10 ?_);refine c_s (kX v.1) ?_;refine a_3 ?_;refine o_1 (.callS1 rfl rfl rfl (.shut rfl d_n (.nil)) rfl (a)) ?_;refine a_2 ?_;refine ao (n_k ?_);refine aj ?_;rw[show spC 0 (oz [-v.1,v.2])=[.arr [],bln false,.arr []]++qC (oz [-v.1,v.2]) from by unfold spC;rw[qC0]];refine Fin.cell rfl rfl rfl TG.h TS.h (nle rfl) ?_
 exact Cv.agg (ak (Cv.emp _) (ak (ai aB (ag _)) (ak (Cv.emp _) (CvL.clo aB (bi _)))))
abbrev prC(p:Lq×Lq):La:=[.arr (pE p.1),.arr (pE p.2)]
def kE(k:Ke):Lc:=k.map prC
@[simp] theorem dV (k:Ke):(kE k).length=k.length:=by simp[kE]
theorem fT(p:Lq×Lq):∀c∈prC p,Closed c:=ac (az _) (ac (az _) af)
theorem dW(k:Ke):∀x∈kE k,∀c∈x,Closed c:=fun x a=>by
 obtain⟨p,_,rfl⟩:=List.mem_map.1 a;exact fT p
theorem aN(k:Ke):Closed (.arr (kE k)):=aG (dW k)
theorem l6{k:Ke}{i:Nat}{p:Lq×Lq}(h:k[i]?=some p):∀e,e=i->(kE k)[e]?=some (prC p):=fun e a=>by
 rw[a,kE,List.getElem?_map,h];rfl
def zQ(p:Lq×Lq):Bool:=decide (12< if a8 p.2> a8 p.1 then a8 p.2 else a8 p.1)
theorem xr(p:Lq×Lq)(h1:p.1.length<=1099511627776)(h2:p.2.length<=1099511627776):FS 167 [.agg (prC p)] (bln (zQ p)):=by
 refine f_n Tryz.func167 ?_ ?_;exact ac (aD (fT p)) af;refine r_z 2 ?_;refine ae (r_d aT 9 ?_);refine c_s (dc p.1 h1) ?_;refine c_s (dc p.2 h2) ?_;refine a_3 ?_;refine ao (n_k ?_);exact aj (t_e (ag _))
def j5{α:Type}(t:α->Bool):List α->Int->Int
 |[],_=> -1
 |a::l,i=>if t a then i else j5 t l (i+1)
theorem pz{α:Type}(t:α->Bool):∀(l:List α) (i:Int),0<=i->(decide (0<=j5 t l i))=l.any t
 |[],i,_=>by simp[j5]
 |a::l,i,hi=>by
  unfold j5;cases h:t a with
  |true=>simp[h,hi]
  |false=>simp[h];rw[<-pz t l (i+1) (by omega)]
theorem zt{α:Type}{l:List α}{i:Nat}{a:α}(h:l[i]?=some a):l.drop i=a::l.drop (i+1):=by
 obtain⟨b,c⟩:=List.getElem?_eq_some_iff.1 h;rw[<-c];exact List.drop_eq_getElem_cons b
def ikS(k:Ke)(g:Nat)(cap:La):Nat->AState
 |i=>⟨[(0,.arr (kE k)),(1,.clos g [] cap),(7,i64 k.length),(8,i64 i)],[],1,19⟩
theorem G7(k:Ke)(g:Nat)(cap:La)(t:Lq×Lq->Bool)(hcap:∀c∈cap,Closed c)(hl:k.length<=1099511627776)(hg:∀p∈k,FS g ((.agg (prC p)::cap).map coe) (bln (t p))):FS 203 [.arr (kE k),.clos g [] cap] (i64 (j5 t k 0)):=by
 have e:Closed (.clos g [] cap):=aQ af hcap;have l:(kE k).length=k.length:=dV k;refine f_n Tryz.func203 ?_ ?_;exact ac (aN k) (ac e af);obtain⟨R,j⟩:∃R,R=j5 t k 0:=⟨_,rfl⟩;rw[<-j];refine r_z 1 ?_;refine ae (r_z 3 ?_);refine aC (fun _:Unit=>⟨[],[],1,19⟩) (fun _=>R= -1) ?_ ?_;refine ah (ax (ikS k g cap) (fun i=>k.length- i) (fun i=>i<=k.length/\j5 t (k.drop i) i=R) 0 ⟨Nat.zero_le _,by rw[j];rfl⟩ ?_ ?_);simp only[ikS.eq_1];exact s_x [] (fun hs=>e_37) (fun hs=>e_38);rintro i ⟨m,a⟩;rw[ikS.eq_1];by_cases hlt:i< k.length;refine q_z 1 ?_;refine ae (cT (am ?_));obtain⟨p,hp⟩:∃p,k[i]?=some p:=⟨_,List.getElem?_eq_getElem hlt⟩;have b:(kE k)[((i:Nat):Int).toNat]?=some (prC p):=l6 hp _ (by simp);rw[zt hp,j5] at a;refine ae (ah (r_z 2 ?_));refine s_r 6 ?_;refine a_3 ?_;refine i_x b ?_;refine l_x b ?_;refine c_s (hg p (List.mem_of_getElem? hp)) ?_;refine ao ?_;refine ap rfl (fun h=>?_) (fun h=>?_);have f:t p=true:=h;rw[if_pos f] at a;refine r_z 2 ?_;refine aj (aM rfl ?_ ?_);rw[<-a];exact ag _;have f:¬t p=true:=by rw[show t p=false from h];decide
 rw[if_neg f] at a;refine am (r_m 2 ?_);refine a_z ?_;refine⟨i+1,by omega,⟨hlt,a⟩,?_⟩;simp only[ikS.eq_1];exact s_x [] (fun hs=>e_37) (fun hs=>e_38);have d:i=k.length:=by omega
 subst d;refine q_z 1 ?_;refine ae (cF ?_);rw[List.drop_length] at a;refine aw ⟨(),a.symm,?_⟩;exact s_e [];rintro _ a;refine r_z 1 ?_;refine aj (aM rfl ?_ ?_);rw[a];rfl;exact ag _
theorem p8(k:Ke)(g:Nat)(cap:La)(t:Lq×Lq->Bool)(hcap:∀c∈cap,Closed c)(hl:k.length<=1099511627776)(hg:∀p∈k,FS g ((.agg (prC p)::cap).map coe) (bln (t p)))(hcap2:cap.map coe=cap):FS 166 [.arr (kE k),.clos g [] cap] (bln (k.any t)):=by
 have a:Closed (.clos g [] cap):=aQ af hcap;have e:=pz t k 0 (Int.le_refl 0);have b:=G7 k g cap t hcap hl hg;refine f_n Tryz.func166 ?_ ?_;exact ac (aN k) (ac a af);refine r_z 1 ?_;refine r_c 5 (b) ?_;refine a_z ?_;refine aj (aM rfl ?_ ?_);rw[<-e];rfl;exact ag _
def rD(k:Ke):Prop:=k.length<=8/\k.any zQ=false/\∀p∈k,p.1.length<=1099511627776/\p.2.length<=1099511627776
theorem vv(k:Ke)(h:rD k):FS 123 [.arr (kE k)] (i64 0):=by
 have b:(kE k).length=k.length:=dV k;have a:=p8 k 167 [] zQ af (by have:=h.1;omega) (fun p hp=>xr p (h.2.2 p hp).1 (h.2.2 p hp).2) rfl;rw[h.2.1] at a;have hl:=h.1;refine f_n Tryz.func123 ?_ ?_;exact ac (aN k) af;refine r_z 1 ?_;refine ae (q_c 7 (a) ?_);refine a_z ?_;refine cF (am (r_z 1 ?_));exact aj (t_e (ag _))
theorem rQ(k:Ke)(a b:Rat)(h:rD k)(ha:sm a)(hb:sm b)(hab:a<=b):FS 65 [.arr (kE k),.agg (spC a b)] (bln false):=by
 have d:=vv k h;have c:=lA a b ha hb;rw[decide_eq_true (cmpQ_le.2 hab)] at c;refine f_n Tryz.func65 ?_ ?_;exact ac (aN k) (ac (bD _ _) af);refine r_z 2 ?_;refine r_c 9 (d) ?_;refine o_0 (.bin rfl rfl (vF bR (rfl))) ?_;refine c_s (c) ?_;refine a_z ?_;exact aj (t_e (ag _))
abbrev eqC(k:Ke)(l:Rat)(g:Lq):La:= .arr (kE k)::(qC l++[.arr (pE g)])
theorem cv(k:Ke)(l:Rat)(g:Lq):∀c∈eqC k l g,Closed c:=ac (aN k) fun c a=>(List.mem_append.1 a).elim (bi l c) (ac (az g) af c)
theorem ff(k:Ke)(l:Rat)(g:Lq)(a b:Rat)(h:rD k)(ha:sm a)(hb:sm b)(hab:a<=b)(hg:a8 g<=20)(hgl:g.length<=1099511627776):FS 37 [.agg (eqC k l g++spC a b)] (bln false):=by
 have e:=rQ k a b h ha hb hab;have d:=dc g hgl;have f:∀c∈eqC k l g++spC a b,Closed c:=fun c i=>(List.mem_append.1 i).elim (cv k l g c) (bh a b c);refine f_c Tryz.func37 ?_;refine r_z 2 ?_;refine r_c 14 (e) ?_;refine c_s (d) ?_;refine d_z ?_;exact aj (t_e (ag _))
theorem pR(a b:Rat)(hb:b≠0)(h:qs a+qs b<=549755813888):FS 78 [.agg (qC a),.agg (qC b)] (.agg (qC (a/ b))):=by
 refine f_c Tryz.func78 ?_;refine r_z 3 ?_;refine r_c 9 (Dw a b hb h) ?_;refine a_z ?_;refine r_z 2 ?_;exact aj (c_e (aO _))
theorem fs_cut(p:Lq)(n:Nat)(hp:p.length<=1099511627776)(hn:n<=1000000):FS 80 [.arr (pE p),i64 n] (.arr (pE (DT p n))):=by
 have c:(pE p).length=p.length:=by simp[pE]
 obtain⟨m,b⟩:∃m,m=min p.length (n+1):=⟨_,rfl⟩
 have d:p.take m=p.take (n+1):=by
  rw[b];by_cases g:p.length<=n+1;rw[Nat.min_eq_left g,List.take_of_length_le (Nat.le_refl _),List.take_of_length_le g];rw[Nat.min_eq_right (by omega)]
 have e:(pE p).take m=pE (p.take (n+1)):=by rw[<-d];simp[pE,List.map_take]
 have a:=dq (p.take (n+1)) (by rw[List.length_take];omega);refine f_c Tryz.func80 ?_;refine r_z 1 ?_;refine s_r 9 ?_;refine a_6 ?_;refine o_0 (.sa_hE (h:=m) e rfl rfl (by rw[b];split <;> omega) (by omega) te_35.h (lY _)) ?_;refine c_s (a) ?_;refine a_z ?_;exact aj (t_e (az _))
theorem smL_one{v:Rat}(h:sm v):smL [v]:=fun x a=>by rw[List.mem_singleton.1 a];exact h
def upS(k:Ke)(a:Rat)(u:Lq):Nat×Lq->AState
 |(i,o)=>⟨[(2,.arr (pE u)),(4,.lptr 1 0 0),(7,.arr (pE o)),(11,.arr (kE k)),(12,i64 k.length),(13,i64 i)],[(1,some ⟨48,3,[qC a]⟩)],2,35⟩
theorem Jp(k:Ke)(a:Rat)(u:Lq)(h:AF k a u)(hl:k.length<=1000):FS 81 [.arr (kE k),.agg (qC a),.arr (pE u)] (.arr (pE (upK k a u))):=by
 have f:(kE k).length=k.length:=dV k;refine f_n Tryz.func81 ?_ ?_;exact ac (aN k) (ac (aO a) (ac (az u) af));refine r_z 2 ?_;refine r_z 1 ?_;refine ae (r_z 3 ?_);refine aC (fun _:Unit=>⟨[(7,.arr (pE (upK k a u)))],[],1,35⟩) (fun _=>True) ?_ ?_;refine ah (ax (upS k a u) (fun x=>k.length- x.1) (fun x=>x.1<=k.length/\x.2=upL a u (k.take x.1) []) (0,[]) ⟨Nat.zero_le _,rfl⟩ ?_ ?_);simp only[upS.eq_1];exact s_x [(1,4)] (fun hs=>e_39) (fun hs=>e_40);rintro⟨i,o⟩ ⟨n,c⟩;simp only at n c;rw[upS.eq_1];by_cases hlt:i< k.length;obtain⟨p,hp⟩:∃p,k[i]?=some p:=⟨_,List.getElem?_eq_getElem hlt⟩;have b:(kE k)[((i:Nat):Int).toNat]?=some (prC p):=l6 hp _ (by simp);have ok:=h i p hp;rw[<-c] at ok;have j:=pW p.2 u ok.m1;have e:=sV (aX p.2 u) (uV ok.m1) ok.i1;have m:=kD (aL (aX p.2 u)) a ok.e1;have g:=Dz (aL (aX p.2 u)) [aE (aL (aX p.2 u)) a] ok.i2 (smL_one (vD ok.e1)) ok.l1 (by simp);have l:=pW p.1 _ ok.m2;have q:=ma o _ ok.o1 (uV ok.m2) ok.o2 ok.l2;refine q_z 1 ?_;refine ae (cT (am (ae (ah (s_r 4 ?_)))));refine i_x b ?_;refine l_x b ?_;refine a_z ?_;refine r_c 6 (j) ?_;refine c_s (e) ?_;refine a_z ?_;refine r_d aT 12 ?_;refine c_s (m) ?_;refine a_1 ?_;refine o_1 (.callS1 rfl rfl rfl (.keep (.shut rfl d_n (.nil))) rfl (g)) ?_;refine c_s (l) ?_;refine c_s (q) ?_;refine a_1 ?_;refine ao (n_k ?_);refine r_m 2 ?_;refine a_z ?_;refine⟨(i+1,upF a u o p),by simp only;omega,⟨hlt,by simp only;rw[cm hp,Aa,<-c]⟩,?_⟩;simp only[upS.eq_1];unfold upF;exact s_x [] (fun hs=>e_39) (fun hs=>e_40)
 have d:i=k.length:=by omega
 subst d;refine q_z 1 ?_;refine ae (cF ?_);rw[List.take_length] at c;refine aw ⟨(),trivial,?_⟩;unfold upK;rw[<-c];exact s_e [];rintro _ _;refine r_z 2 ?_;exact aj (t_e (az _))
theorem GR(a:Rat)(p:Lq×Lq)(h1:gI [a,1] p.1/\p.1.length<=274877906944)(h2:gI [a,1] p.2/\p.2.length<=274877906944):FS 137 [.agg (prC p),bQ a] (.agg (prC (cb [a,1] p.1,cb [a,1] p.2))):=by
 have c:=vp p.1 a h1.1 h1.2;have b:=vp p.2 a h2.1 h2.2;refine f_n Tryz.func137 ?_ ?_;exact ac (aD (fT p)) (ac (cD a) af);refine r_z 2 ?_;refine ae (r_d aT 10 ?_);refine c_s (c) ?_;refine c_s (b) ?_;refine a_2 ?_;refine ao (n_k ?_);exact aj (c_e (aD (fT _)))
def ecS(k:Ke)(g:Nat)(cap:La)(f:Lq×Lq->Lq×Lq):Nat->AState
 |0=>⟨[(1,.clos g [] cap),(8,.arr (kE k)),(9,i64 k.length),(10,i64 0),(5,.emp)],[],1,22⟩
 |i+1=>⟨[(1,.clos g [] cap),(8,.arr (kE k)),(9,i64 k.length),(10,i64 ((i+1:Nat):Int)),(5,.lsl 1 0 (i+1) none 2)],[(1,some ⟨91,2,kE ((k.take (i+1)).map f)⟩)],2,22⟩
theorem Jg(k:Ke):(kE k).all (·.all AV.one)=true:=by
 rw[List.all_eq_true];intro x a;obtain⟨p,_,rfl⟩:=List.mem_map.1 a;rfl
theorem Fk(k:Ke)(p:Lq×Lq):kE (k++[p])=kE k++[prC p]:=by simp[kE]
theorem JF(k:Ke)(g:Nat)(cap:La)(f:Lq×Lq->Lq×Lq)(hcap:∀c∈cap,Closed c)(hl:k.length<=1000)(hg:∀p∈k,FS g ((.agg (prC p)::cap).map coe) (.agg (prC (f p)))):FS 136 [.arr (kE k),.clos g [] cap] (.arr (kE (k.map f))):=by
 have q:(kE k).length=k.length:=dV k;have d:Closed (.clos g [] cap):=aQ af hcap;refine f_n Tryz.func136 ?_ ?_;exact ac (aN k) (ac d af);refine r_z 1 ?_;refine r_z 1 ?_;refine ae (r_z 3 ?_);refine aC (fun _:Unit=>⟨[(5,.arr (kE (k.map f)))],[],1,22⟩) (fun _=>True) ?_ ?_;refine ah (ax (ecS k g cap f) (fun i=>k.length- i) (fun i=>i<=k.length) 0 (Nat.zero_le _) ?_ ?_);rw[ecS.eq_1];exact s_x [] (fun hs=>e_7) (fun hs=>e_41);intro i r;by_cases hlt:i< k.length
 ·obtain⟨p,hp⟩:∃p,k[i]?=some p:=⟨_,List.getElem?_eq_getElem hlt⟩
  have l:=hg p (List.mem_of_getElem? hp);have n:(k.take (i+1)).length=i+1:=by rw[List.length_take];omega
  have b:kE ((k.take i).map f)++[prC (f p)]=kE ((k.take (i+1)).map f):=by rw[cm hp,List.map_append,List.map_singleton,Fk]
  cases i with
  |zero=>
   have a:(kE k)[((0:Int)).toNat]?=some (prC p):=l6 hp _ rfl;rw[ecS.eq_1];refine q_z 1 ?_;refine ae (cT (am (ae (ah (s_r 4 ?_)))));refine i_x a ?_;refine l_x a ?_;refine a_z ?_;refine r_m 7 ?_;refine c_s (l) ?_;refine a_z ?_;refine r_m 2 ?_;refine a_z ?_;refine⟨0+1,by omega,by omega,?_⟩;rw[ecS.eq_2];rw[<-b];refine s_x [(1,5)] (fun hs=>e_7) (fun hs=>?_)
   ·repeat' (first|exact aA|refine h_c ?_ ?_|exact aV hs (dW [f p])|exact br|refine ay ?_|exact aq|refine ak ?_ ?_|exact ai hs (aN k)|exact ai hs d|exact aS)
  |succ i=>
   have a:(kE k)[(((i+1:Nat):Int)).toNat]?=some (prC p):=l6 hp _ (by simp);have o:=Jg ((k.take (i+1)).map f);have e:(kE ((k.take (i+1)).map f)).length=i+1:=by rw[dV,List.length_map,List.length_take];omega
   rw[ecS.eq_2];refine q_z 1 ?_;refine ae (cT (am (ae (ah (s_r 4 ?_)))));refine i_x a ?_;refine l_x a ?_;refine a_z ?_;refine r_m 7 ?_;refine c_s (l) ?_;refine o_1 (.buildSlice te_28.h TZ.h rfl (by decide) rfl rfl rfl (by first|(simp;done)|(simp[b7,ofV];done)|rfl)) ?_;refine o_2 (.append_l rfl rfl rfl te_28.h rfl rfl rfl rfl rfl d_o (by first|exact eT _|exact eP _|exact dZ _|exact eW _|exact eg _|assumption|rfl|simp) (by first|rfl|exact eT _|exact eP _|exact dZ _|exact eW _|exact eg _|simp) rfl (.lsl rfl (nle rfl)) TZ.h rfl TB.h d_o (by first|(simp[maxLen];done)|(simp[maxLen];omega))) ?_;refine o_0 (.assign rfl) ?_;refine ao ?_;refine r_m 2 ?_;refine a_z ?_;refine⟨i+1+1,by omega,by omega,?_⟩;rw[ecS.eq_2];refine s_x [(1,5)] (fun hs=>e_7) (fun hs=>?_)
   ·repeat' (first|exact aA|refine h_c ?_ ?_|exact aF hs b (dW _)|exact br|refine ay ?_|exact aq|refine ak ?_ ?_|exact ai hs (aN k)|exact ai hs d|exact aS)
 have j:i=k.length:=by omega
 cases i with
 |zero=>
  have m:k=[]:=List.eq_nil_of_length_eq_zero j.symm;subst m;rw[ecS.eq_1];refine q_z 1 ?_;refine ae (cF (aw ⟨(),trivial,?_⟩));exact s_e []
 |succ i=>
  have e:(kE (k.map f)).length=i+1:=by rw[dV,List.length_map];omega
  rw[ecS.eq_2,j,List.take_length];refine q_z 1 ?_;refine ae (cF (aw ⟨(),trivial,?_⟩));refine s_x [] (fun hs=>?_) (fun hs=>?_)
  ·repeat' (first|exact aI|refine au rfl ?_ ?_|(refine Cv.shut hs rfl (aH rfl) (by simp) ?_;exact aF hs (by rw[List.drop_zero];exact List.take_of_length_le (by simp)) (dW _))|exact aS)
  ·repeat' (first|exact aA|refine h_c ?_ ?_|exact br|refine ay ?_|exact aq|refine ak ?_ ?_|(refine Cv.shut hs rfl (aH rfl) (by simp) ?_;exact aF hs (by rw[List.drop_zero];exact List.take_of_length_le (by simp)) (dW _))|exact aS)
 rintro _ _;refine r_z 2 ?_;exact aj (t_e (aN _))
theorem JA(k:Ke)(l:Rat)(g:Lq)(a:Rat)(hl:k.length<=1000)(hk:∀p∈k,(gI [a,1] p.1/\p.1.length<=274877906944)/\gI [a,1] p.2/\p.2.length<=274877906944)(hg:gI [a,1] g)(hgl:g.length<=274877906944):FS 79 [.agg (eqC k l g),.agg (qC a)] (.agg (eqC (mvK a k) l (cb [a,1] g))):=by
 have d:=JF k 137 [bQ a] (fun p=>(cb [a,1] p.1,cb [a,1] p.2)) (ac (cD a) af) hl fun p hp=>GR a p (hk p hp).1 (hk p hp).2;have c:=vp g a hg hgl;have b:=cv k l g;refine f_c Tryz.func79 ?_;refine r_z 3 ?_;refine AWp.ent (st':=⟨[(2,.aptr [eqC k l g] 0 0),(3,bQ a),(4,.lptr 1 0 0)],[(1,some ⟨65,5,[.emp::(zC++[.emp])]⟩)],2,16⟩) ?_ ?_;refine s_x [(1,4)] (fun hs=>?_) (fun hs=>?_)
 ·repeat' (first|exact aI|refine au rfl ?_ ?_|exact Cv.boxp hs rfl (aH rfl) rfl b|exact Cv.boxp hs rfl (aH rfl) rfl (bi a)|exact aS)
 ·repeat' (first|exact aA|refine h_c ?_ ?_|exact br|refine ay ?_|exact aq|refine ak ?_ ?_|exact Cv.boxp hs rfl (aH rfl) rfl b|exact Cv.boxp hs rfl (aH rfl) rfl (bi a)|exact aS)
 refine ae (r_d aT 12 ?_);refine c_s (d) ?_;refine c_s (c) ?_;refine a_2 ?_;refine ao (n_k ?_);exact aj (c_e (aD (cv _ _ _)))
def fiO(A:Nat->Nat->Rat)(n g:Nat)(cap:La)(i:Nat):AState:=⟨[(0,i64 n),(1,.clos g [] cap),(5,.lsl 1 0 n (some n) 1),(11,i64 n),(12,i64 i)],mzH 3 34 48 (foE (fun _=>n) (fun x=>x) n i) (fiL A n i),40,35⟩
def fiE(A:Nat->Nat->Rat)(n:Nat):AState:=⟨[(5,.lsl 1 0 n (some n) 1)],mzH 3 34 48 (foE (fun _=>n) (fun x=>x) n n) (fiL A n n),40,35⟩
def fiI(A:Nat->Nat->Rat)(n g:Nat)(cap:La)(i:Nat):Nat->AState
 |0=>⟨[(0,i64 n),(1,.clos g [] cap),(5,.lsl 1 0 n (some n) 1),(6,i64 i),(11,i64 n),(12,i64 i),(15,i64 n),(16,i64 0)],mzH 3 34 48 (foE (fun _=>n) (fun x=>x) n i) (fiL A n i),40,35⟩
 |j+1=>⟨[(0,i64 n),(1,.clos g [] cap),(5,.lsl 1 0 n (some n) 1),(6,i64 i),(11,i64 n),(12,i64 i),(15,i64 n),(16,i64 ((j+1:Nat):Int))],mzH 3 34 48 (foE (wJ n i (j+1)) (fun x=>x) n (i+1)) (fiL A n i++[pE (aJ (j+1) (A i))]),40,35⟩
theorem By{r:Ren}{hp hp':Hq}{fr fr':Fr}{g:Nat}{cap:La}(hs:Shr r hp hp')(hcc:Closed (.clos g [] cap))(h:CvF r hp hp' fr fr':=by repeat' (first|exact aI|refine au rfl ?_ ?_|exact ai hs hcc|exact ai hs (ag _)|exact Cv.sl rfl rfl rfl|(refine Cv.loE hs ?_ (ag _);simp[i64];done))):CvF r hp hp' fr fr':=h
theorem Gb(A:Nat->Nat->Rat)(n g:Nat)(cap:La)(hn:n<=25)(hcap:∀c∈cap,Closed c)(hg:∀i j:Nat,i< n->j< n->FS g ((i64 i::i64 j::cap).map coe) (.agg (qC (A i j)))):
    XSpecT Tryz.prog 133 [i64 n,.clos g [] cap] [] 1 (.lsl 1 0 n (some n) 1) (mzH 3 34 48 (mzO 3 (fun _=>n) (fun x=>x) n) (fiL A n n)) 40:=by
 have hcc:Closed (.clos g [] cap):=aQ af hcap;refine XSpecT.enter (t:=4) Tryz.func133 rfl (by kernel_rfl) rfl rfl rfl rfl rfl ?_;refine r_z 1 ?_;refine r_z 3 ?_;refine ae (r_z 3 ?_);refine aC (fun _:Unit=>fiE A n) (fun _=>True) ?_ ?_
 ·refine ah (ax (fiO A n g cap) (fun i=>n- i) (fun i=>i<=n) 0 (Nat.zero_le _) ?_ ?_)
  rw[fiO.eq_1];refine SEntT.ent (SEntT.mz (fun x=>cond (Nat.beq x 1) 3 x) _ (List.replicate n [.emp]) _ (by simp) rfl (fun i j h1 h2 h3 h4 _=>by rw[me] at h2 h4;omega) rfl (by rw[foE_0]) ?_ ?_ ?_);intro i e hi;exact absurd (oG hi).1 (by omega);intro hs;rw[foE_0];exact aV hs fun e he c hc=>by rw[(List.mem_replicate.1 he).2,List.mem_singleton] at hc;rw[hc];exact b9
  exact fun hs=>By hs hcc;intro i hi;rw[fiO.eq_1];by_cases hlt:i< n;rotate_left;have hge:i=n:=by omega
  subst hge;refine q_z 1 ?_;refine ae (cF (aw ⟨(),trivial,?_⟩));refine SEntT.ent (SEntT.mz (fun x=>x) _ _ _ (by simp;omega) rfl (fun i j _ _ _ _ e=>e) rfl rfl ?_ ?_ ?_);intro k e hk;obtain⟨h1,rfl⟩:=oG hk;exact⟨dh (fw h1),aP _⟩;exact fun hs=>lQ hs (by omega) fun k hk=>by rw[dh (fw hk)];rfl
  exact fun hs=>By hs hcc;refine q_z 1 ?_;refine ae (cT (am (ae (ah (r_z 2 ?_)))));refine r_z 2 ?_;refine AWp.cutB (fun _:Unit=>fiI A n g cap i n) (fun _=>True) ?_ ?_;refine ah (ax (fiI A n g cap i) (fun j=>n- j) (fun j=>j<=n) 0 (Nat.zero_le _) ?_ ?_);rw[fiI.eq_1];refine SEntT.ent (SEntT.mz (fun x=>x) _ _ _ (by simp;omega) rfl (fun i j _ _ _ _ e=>e) rfl rfl ?_ ?_ ?_);intro k e hk;obtain⟨h1,rfl⟩:=oG hk;exact⟨dh (fw h1),aP _⟩;exact fun hs=>lQ hs (by omega) fun k hk=>by rw[dh (fw hk)];rfl
  exact fun hs=>By hs hcc;intro j hj;by_cases hjn:j< n
  ·have hg1:=hg i j hlt hjn
   cases j with
   |zero=>
    rw[fiI.eq_1];refine q_z 1 ?_;refine ae (cT (am (ae (ah (r_z 2 ?_)))));refine r_d aT 14 ?_;refine a_5 ?_;refine bF (.load_l1 rfl rfl (foE_ge' (Nat.le_refl _) hlt _ (by omega)) TG.h rfl) rfl rfl ?_;refine c_s (hg1) ?_;refine a_3 ?_;refine dB (.store rfl rfl (foE_ge' (Nat.le_refl _) hlt _ (by omega)) rfl rfl rfl TS.h (nle rfl)) ?_;refine ao (n_k ?_);refine r_m 2 ?_;refine a_z ?_;refine⟨0+1,by omega,by omega,?_⟩;rw[fiI.eq_2];refine SEntT.ent (SEntT.mz (fiR i 54) _ (foE (wJ n i (0+1)) (fiR i 54) n (i+1)) _ (by simp;omega) (sY _ _) (fun x y _ h2 _ h4 e=>mc (m:=40) (Nat.le_refl _) (by decide) x y (by simp at h2;omega) (by simp at h4;omega) e) ?_ ?_ ?_ ?_ ?_);rw[sX,<-fi_set0 hlt (0+((i:Nat):Int).toNat) (by omega)];rfl;rw[iL hlt,iL hlt];intro k e hk;rcases DH hk with⟨h1,rfl⟩|⟨rfl,rfl⟩
    ·rw[fg (by omega)]
     refine⟨?_,aP _⟩
     repeat rw[aK (by omega)]
     exact dh (fw h1)
    rw[jE];exact⟨rfl,aP _⟩
    exact fun hs=>lQ hs (by omega) fun k hk=>by
     by_cases hki:k< i;rw[dh (r7 hki)];rfl;obtain rfl:k=i:=by omega
     rw[dh qi];rfl
    exact fun hs=>By hs hcc
   |succ j=>
    rw[fiI.eq_2];have hlen:(pE (aJ (j+1) (A i))).length=j+1:=by simp[pE]
    have hrw:∀(k:Nat) (B:Option ABlk),k≠i+2->cZ (an ((k,B)::mzH 3 34 48 (foE (wJ n i (j+1)) (fun x=>x) n (i+1)) (fiL A n i++[pE (aJ (j+1) (A i))]))) (i+2)=some ⟨48,3,pE (aJ (j+1) (A i))⟩:=fun k B hk=>dn (by rw[aK hk];exact dh qi) (show(3:Nat)≠0 by decide);have hi53:(53:Nat)≠i+2:=by omega
    refine q_z 1 ?_;refine ae (cT (am (ae (ah (r_z 2 ?_)))));refine r_d aT 14 ?_;refine a_5 ?_;refine bF (.load_l1 rfl rfl (foE_lt' (Nat.lt_succ_self _) Es _ (by omega)) TG.h rfl) rfl rfl ?_;refine c_s (hg1) ?_;refine a_1 ?_;refine o_2 (.append_l rfl rfl rfl te_34.h rfl rfl (hrw 53 _ hi53) rfl rfl hlen (dZ _) (by rfl) rfl (.lsl rfl (nle rfl)) TZ.h rfl TB.h (by first|rfl|assumption|(simp;done)|(simp;omega)|omega) (by first|(simp[maxLen];done)|(simp[maxLen];omega))) ?_;refine a_1 ?_;refine dB (.store rfl rfl (foE_lt' (Nat.lt_succ_self _) Es _ (by omega)) rfl rfl rfl TS.h (nle rfl)) ?_;refine ao (n_k ?_);refine r_m 2 ?_;refine a_z ?_;refine⟨j+1+1,by omega,by omega,?_⟩;rw[fiI.eq_2];refine SEntT.ent (SEntT.mz (fiR i 54) _ (foE (wJ n i (j+1+1)) (fiR i 54) n (i+1)) _ (by simp;omega) (sY _ _) (fun x y _ h2 _ h4 e=>mc (m:=40) (Nat.le_refl _) (by decide) x y (by simp at h2;omega) (by simp at h4;omega) e) ?_ ?_ ?_ ?_ ?_);rw[sX,<-fi_set hlt (0+((i:Nat):Int).toNat) (by omega)];rfl;rw[iL hlt,iL hlt];intro k e hk;rcases DH hk with⟨h1,rfl⟩|⟨rfl,rfl⟩
    ·rw[fg (by omega)]
     refine⟨?_,aP _⟩
     repeat rw[aK (by omega)]
     exact dh (r7 h1)
    rw[jE];refine⟨?_,aP _⟩;rw[qZ (j+1),ld];rfl
    exact fun hs=>lQ hs (by omega) fun k hk=>by
     by_cases hki:k< i;rw[dh (r7 hki)];rfl;obtain rfl:k=i:=by omega
     rw[dh qi];rfl
    exact fun hs=>By hs hcc
  have hge:j=n:=by omega
  obtain⟨j,rfl⟩:∃j',j=j'+1:=⟨j- 1,by omega⟩;rw[fiI.eq_2];refine q_z 1 ?_;refine ae (cF (aw ⟨(),trivial,?_⟩));rw[<-hge,fiI.eq_2];refine SEntT.ent (SEntT.mz (fun x=>x) _ _ _ (by simp;omega) rfl (fun i j _ _ _ _ e=>e) rfl rfl ?_ ?_ ?_);intro k e hk;rcases DH hk with⟨h1,rfl⟩|⟨rfl,rfl⟩
  exact⟨dh (r7 h1),aP _⟩;exact⟨dh qi,aP _⟩
  exact fun hs=>lQ hs (by omega) fun k hk=>by
   by_cases hki:k< i;rw[dh (r7 hki)];rfl;obtain rfl:k=i:=by omega
   rw[dh qi];rfl
  exact fun hs=>By hs hcc;rintro _ _;obtain⟨m,rfl⟩:∃m,n=m+1:=⟨n- 1,by omega⟩;rw[fiI.eq_2,JY,Hc (w:=wJ (m+1) i (m+1)) (w':=fun _=>m+1) (s':=fun x=>x) (fun k hk=>⟨by unfold wJ;cases Nat.blt k i <;> rfl,rfl⟩)];refine r_m 2 ?_;refine a_z ?_;refine⟨i+1,by omega,by omega,?_⟩;rw[fiO.eq_1];refine SEntT.ent (SEntT.mz (fun x=>x) _ _ _ (by simp;omega) rfl (fun i j _ _ _ _ e=>e) rfl rfl ?_ ?_ ?_);intro k e hk;obtain⟨h1,rfl⟩:=oG hk;exact⟨dh (fw h1),aP _⟩;exact fun hs=>lQ hs (by omega) fun k hk=>by rw[dh (fw hk)];rfl
  exact fun hs=>By hs hcc
 rintro _ _;show AWp _ _ _ _ ⟨[(5,.lsl 1 0 n (some n) 1)],mzH 3 34 48 (foE (fun _=>n) (fun x=>x) n n) (fiL A n n),40,35⟩;rw[foE_n];refine r_z 2 ?_;refine aj (FinXT.of (SEntT.mz (fun x=>x) _ _ _ (by simp;omega) rfl (fun i j _ _ _ _ e=>e) rfl rfl ?_ ?_ ?_));intro k e hk;obtain⟨h1,rfl⟩:=oG hk;exact⟨dh (fw h1),aP _⟩;exact fun hs=>nB (by omega) fun k hk=>by rw[dh (fw hk)];rfl
 exact fun hs=>By hs hcc
def inQ(p:Lq)(a b:Rat):Rat:=aE (aL p) b- aE (aL p) a
structure OkIn (p:Lq)(a b:Rat):Prop where
 s:smL p
 l:p.length<=1099511627775
 e1:hZ (aL p) b
 e2:hZ (aL p) a
 d:qs (aE (aL p) b)+qs (aE (aL p) a)<=549755813888
theorem nn(p:Lq)(a b:Rat)(h:OkIn p a b):FS 48 [.arr (pE p),.agg (spC a b)] (.agg (qC (inQ p a b))):=by
 refine f_c Tryz.func48 ?_;refine r_z 2 ?_;refine r_c 3 (sV p h.s h.l) ?_;refine a_z ?_;refine ae (r_d aT 10 ?_);refine c_s (kD _ b h.e1) ?_;refine c_s (kD _ a h.e2) ?_;refine c_s (l8 _ _ h.d) ?_;refine a_1 ?_;refine ao (n_k ?_);exact aj (c_e (aO _))
def bKe(k:Ke):AV:= .aptr [[.arr (kE k)]] 0 0
def bSp(a b:Rat):AV:= .aptr [spC a b] 0 0
theorem fi(k:Ke):Closed (bKe k):=aU (ac (aN k) af)
theorem cx(a b:Rat):Closed (bSp a b):=aU (bh a b)
theorem Do(k:Ke)(a b:Rat)(i j:Nat)(p q:Lq×Lq)(hp:k[i]?=some p)(hq:k[j]?=some q)(hl:k.length<=1000)(hm:jZ p.2 q.1)(ho:OkIn (aX p.2 q.1) a b):
    FS 134 [i64 i,i64 j,bKe k,bSp a b] (.agg (qC (inQ (aX p.2 q.1) a b))):=by
 have e:(kE k).length=k.length:=dV k;have g:i< k.length:=(List.getElem?_eq_some_iff.1 hp).1;have f:j< k.length:=(List.getElem?_eq_some_iff.1 hq).1;have d:(kE k)[((i:Nat):Int).toNat]?=some (prC p):=l6 hp _ (by simp);have c:(kE k)[((j:Nat):Int).toNat]?=some (prC q):=l6 hq _ (by simp);refine f_n Tryz.func134 ?_ ?_;exact ac (ag _) (ac (ag _) (ac (fi k) (ac (cx a b) af)));refine r_z 1 ?_;refine ae (r_d aT 14 ?_);refine a_2 ?_;refine i_x d ?_;refine a_1 ?_;refine l_1 d ?_;refine a_2 ?_;refine i_x c ?_;refine a_1 ?_;refine l_1 c ?_;refine c_s (pW p.2 q.1 hm) ?_;refine c_s (nn _ a b ho) ?_;refine a_1 ?_;refine ao (n_k ?_);exact aj (c_e (aO _))
def maK(k:Ke)(a b:Rat)(i j:Nat):Rat:=inQ (aX (k.getD i ([],[])).2 (k.getD j ([],[])).1) a b
structure OkMa (k:Ke)(a b:Rat):Prop where
 l:k.length<=8
 m:∀p∈k,∀q∈k,jZ p.2 q.1/\OkIn (aX p.2 q.1) a b
theorem Dm(k:Ke)(a b:Rat)(h:OkMa k a b)(i j:Nat)(hi:i< k.length)(hj:j< k.length):FS 134 ((i64 i::i64 j::[bKe k,bSp a b]).map coe) (.agg (qC (maK k a b i j))):=by
 obtain⟨p,hp⟩:∃p,k[i]?=some p:=⟨_,List.getElem?_eq_getElem hi⟩;obtain⟨q,c⟩:∃q,k[j]?=some q:=⟨_,List.getElem?_eq_getElem hj⟩;have d:=h.m p (List.mem_of_getElem? hp) q (List.mem_of_getElem? c);have e:maK k a b i j=inQ (aX p.2 q.1) a b:=by unfold maK;rw[List.getD_eq_getElem?_getD,List.getD_eq_getElem?_getD,hp,c];rfl
 rw[e];exact Do k a b i j p q hp c (by have:=h.l;omega) d.1 d.2
theorem qV(k:Ke)(a b:Rat)(h:OkMa k a b):
    XSpecT Tryz.prog 73 [.arr (kE k),.agg (spC a b)] [] 1 (.lsl 1 0 k.length (some k.length) 1) (mzH 3 34 48 (mzO 3 (fun _=>k.length) (fun x=>x) k.length) (fiL (maK k a b) k.length k.length)) 40:=by
 have c:(kE k).length=k.length:=dV k;have hl:=h.l;have m:=(Gb (maK k a b) k.length 134 [bKe k,bSp a b] (by omega) (ac (fi k) (ac (cx a b) af)) (Dm k a b h)).x;refine XSpecT.enter (t:=4) Tryz.func73 rfl (by kernel_rfl) rfl rfl rfl rfl rfl ?_;refine r_z 3 ?_;refine AWp.ent (st':=⟨[(2,bKe k),(3,bSp a b)],[],1,9⟩) ?_ ?_;refine s_x [] (fun hs=>?_) (fun hs=>?_)
 ·repeat' (first|exact aI|refine au rfl ?_ ?_|exact Cv.boxp hs rfl (aH rfl) rfl (ac (aN k) af)|exact Cv.boxp hs rfl (aH rfl) rfl (bh a b)|exact aS)
 ·repeat' (first|exact aA|refine h_c ?_ ?_|exact br|refine ay ?_|exact aq|refine ak ?_ ?_|exact Cv.boxp hs rfl (aH rfl) rfl (ac (aN k) af)|exact Cv.boxp hs rfl (aH rfl) rfl (bh a b)|exact aS)
 refine ae (AWp.regX (fr2:=[(6,i64 k.length),(7,.clos 134 [] [bKe k,bSp a b])]) (hp2:=[]) (nx2:=1) (fr3:=[]) 3 rfl rfl rfl rfl rfl rfl ?_ rfl rfl rfl m (fun t x f=>by cases f) (fun t x f=>by cases f) ?_);refine bF (.load_a1 rfl rfl TG.h rfl) rfl rfl ?_;refine bF (.len rfl rfl rfl rfl rfl te_29.h) rfl rfl ?_;refine o_0 (.makeFunc rfl rfl) ?_;refine ao ?_;refine s_y [] (fun hs=>?_) (fun hs=>?_)
 ·repeat' (first|exact aI|refine au rfl ?_ ?_|exact ai hs (aQ af (ac (fi k) (ac (cx a b) af)))|(refine Cv.loE hs ?_ (ag _);simp[i64,c];done)|exact aS)
 ·repeat' (first|exact aA|refine h_c ?_ ?_|exact br|refine ay ?_|exact aq|refine ak ?_ ?_|exact ai hs (aQ af (ac (fi k) (ac (cx a b) af)))|(refine Cv.loE hs ?_ (ag _);simp[i64,c];done)|exact aS)
 refine o_0 (.assign rfl) ?_;refine ao ?_;refine aj (FinXT.of (SEntT.mz (fun x=>x) _ _ _ (by simp;omega) rfl (fun i j _ _ _ _ e=>e) rfl rfl ?_ ?_ ?_));intro n e d;obtain⟨g,rfl⟩:=oG d;exact⟨dh (fw g),aP _⟩;exact fun hs=>nB (by omega) fun n d=>by rw[dh (fw d)];rfl
 exact fun hs=>au rfl (Cv.sl rfl rfl rfl) aI
end Go.Proofs.YtiodeiecpoopgaaGreatDoor
