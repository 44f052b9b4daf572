/- Part V25 of the proof. -/
import Derived.Test.YtkhclghbcicapaaGreatDoorV24
set_option linter.all false
namespace Go.Proofs.YtkhclghbcicapaaGreatDoor
open Go.Abs
set_option maxRecDepth 20000
set_option maxHeartbeats 2000000
def kO(a b:Sp):Sp:=(eV [a.1,b.1],dM [a.2,b.2])
def fT(a:Rat)(k:Int):Sp:=(fk a (wi k 256),upQ a (wi k 256))
def rlM(f g:Nat)(c:Cnt)(p:List Rat)(k:Int)(up:Int):Nat→Int→Sp→Option Sp
 |0,_,_=>none
 |n+1,i,o=>if i< up then(vi f g c i p k).bind fun v=>if smS o∧smS v then rlM f g c p k up n (i+1) (kO o v) else none else some o
def zn(p:List Rat)(s:Sp)(k:Int):Prop:=smS s∧fe p s.1∧fe p s.2∧smL p∧p.length≤274877906944∧dB s.1 s.2≤0∧cQ p≤40∧smS (fT (af p s.1) k)∧smS (fT (af p s.2) k)
instance (p:List Rat) (s:Sp) (k:Int):Decidable (zn p s k):=inferInstanceAs (Decidable (_∧_∧_∧_∧_∧_∧_∧_∧_))
def sV(f g:Nat)(p:List Rat)(s:Sp)(k:Int):Option Sp:=
 if zn p s k then
  if cQ (aN p)< 0 then some (kO (fT (af p s.1) k) (fT (af p s.2) k))
  else(gx f (aN p)).bind fun c=>if pa c s.1∧qW c s.2 then rlM f g c p k (bZ c s.2) g (aZ c s.1) (kO (fT (af p s.1) k) (fT (af p s.2) k)) else none
 else none
def rgS(p:List Rat)(s:Sp)(k:Int)(c:Cnt):Int×Sp→AState
 |(i,o)=>⟨[(0,.arr (pE p)),(2,i64 k),(4,bS s),(6,.lptr 1 0 0),(8,.lptr 2 0 0),(10,kA c),(11,i64 i)],[(1,some ⟨40,6,[zC++zC]⟩),(2,some ⟨40,6,[spC o.1 o.2]⟩)],3,66⟩
theorem wv(f g:Nat)(p:List Rat)(s:Sp)(k:Int)(r:Sp)(h:sV f g p s k=some r)(hf:f≤1000000):FS 139 [.arr (pE p),.agg (spC s.1 s.2),i64 k] (.tup [.agg (spC r.1 r.2),i64 0]):=by
 unfold sV at h;split at h
 case isFalse=>cases h
 case isTrue hk=>
 obtain⟨A,D,k3,H,M,F,L,C,z⟩:=hk;have J:=li p;obtain⟨u,B⟩:∃o,o=kO (fT (af p s.1) k) (fT (af p s.2) k):=⟨_,rfl⟩;have q:=BH (fT (af p s.1) k).1 (fT (af p s.1) k).2 (fT (af p s.2) k).1 (fT (af p s.2) k).2 C.1 C.2 z.1 z.2;rw[←B] at h;have b:FS 171 [.agg (spC (fT (af p s.1) k).1 (fT (af p s.1) k).2),.agg (spC (fT (af p s.2) k).1 (fT (af p s.2) k).2)] (.agg (spC u.1 u.2)):=by rw[B];exact q
 refine f_c Tryz.func139 ?_;refine r_z 3 ?_;refine bD (fun _:Unit=>⟨[(0,.arr (pE p)),(2,i64 k),(4,bS s),(6,.lptr 1 0 0)],[(1,some ⟨40,6,[zC++zC]⟩)],2,66⟩) (fun _=>True) ?_ ?_;refine am (r_c 4 (lZ s.1 s.2 A.1 A.2) ?_);refine a_z ?_;refine aq rfl (fun h1=>?_) (fun h1=>?_);exact absurd h1 (by simp[F]);refine r_c 4 (eE p (by omega)) ?_;refine a_z ?_;refine aq rfl (fun E=>?_) (fun E=>?_);exact absurd E (by simp;omega);refine an ⟨(),trivial,?_⟩;exact s_e [(1,6)];rintro _ _;refine ae (r_d ba 15 ?_);refine c_s (j8 p s.1 D) ?_;refine c_s (BJ (af p s.1) k (wE D)) ?_;refine c_s (j8 p s.2 k3) ?_;refine c_s (BJ (af p s.2) k (wE k3)) ?_;refine c_s (b) ?_;refine a_2 ?_;refine au (n_k ?_);refine ae (r_c 3 (tA p H (by omega)) ?_);refine a_z ?_;refine r_c 3 (eE (aN p) (by omega)) ?_;refine a_z ?_;refine aH (fun _:Unit=>⟨[(6,.lptr 1 0 0),(8,.lptr 2 0 0)],[(1,some ⟨40,6,[zC++zC]⟩),(2,some ⟨40,6,[spC r.1 r.2]⟩)],3,66⟩) (fun _=>True) ?_ ?_;refine aq rfl (fun e=>?_) (fun e=>?_)
 ·have w:¬cQ (aN p)< 0:=by
   have:0≤cQ (aN p):=by simpa using e
   omega
  rw[if_neg w] at h;obtain⟨c,hc,y⟩:=Option.bind_eq_some_iff.1 h;split at y
  case isFalse=>cases y
  case isTrue hb=>
  refine r_c 3 (tu f (aN p) c hc hf) ?_;refine a_z ?_;refine r_c 5 (lX c s.1 hb.1) ?_;refine a_z ?_;have K:=lI (x:=s.2) hb.2.1;have G:=GN (x:=s.1) hb.1.1.1;refine am (aD (fun x:Nat×Int×Sp=>rgS p s k c x.2) (fun x=>x.1) (fun x=>rlM f g c p k (bZ c s.2) x.1 x.2.1 x.2.2=some r∧ -4611686018427387904≤x.2.1) (g,aZ c s.1,u) ⟨y,by simp only;omega⟩ ?_ ?_);simp only[rgS.eq_1];exact s_e [(2,8)];rintro⟨n,i,o⟩ ⟨a,m⟩;simp only at a m;simp only[rgS.eq_1];cases n with
  |zero=>cases a
  |succ n=>
   rw[rlM] at a;refine ae (r_c 6 (oH c s.2 hb.2) ?_);refine a_z ?_;refine aq rfl (fun d=>?_) (fun d=>?_)
   ·have l:i< bZ c s.2:=by simpa using d
    rw[if_pos l] at a;obtain⟨v,hv,t⟩:=Option.bind_eq_some_iff.1 a;split at t
    case isFalse=>cases t
    case isTrue hsm=>
    have j:FS 171 [.agg (spC o.1 o.2),.agg (spC v.1 v.2)] (.agg (spC (kO o v).1 (kO o v).2)):=BH o.1 o.2 v.1 v.2 hsm.1.1 hsm.1.2 hsm.2.1 hsm.2.2;refine an (ae (am (r_z 5 ?_)));refine AWp.ent (st':=⟨[(0,.arr (pE p)),(2,i64 k),(4,bS s),(6,.lptr 1 0 0),(8,.lptr 2 0 0),(10,kA c),(11,i64 i),(12,plA c i)],[(1,some ⟨40,6,[zC++zC]⟩),(2,some ⟨40,6,[spC o.1 o.2]⟩)],3,66⟩) ?_ ?_;refine s_x [] (fun hs=>?_) (fun hs=>?_)
    ·repeat' (first|exact aS|refine az rfl ?_ ?_|exact Cv.boxp hs rfl (aQ rfl) rfl (ac (iH c) (ac (ah _) ag))|exact bm)
    ·repeat' (first|exact aI|refine h_c ?_ ?_|exact cu|refine aG ?_|exact aw|refine ai ?_ ?_|exact Cv.boxp hs rfl (aQ rfl) rfl (ac (iH c) (ac (ah _) ag))|exact bm)
    refine r_d ba 7 ?_;refine c_s (Im f g c i p k v hv hf) ?_;refine c_s (j) ?_;refine a_1 ?_;refine au (n_k ?_);refine r_m 3 ?_;refine a_z ?_;refine⟨(n,i+1,kO o v),Nat.lt_succ_self n,⟨t,by simp only;omega⟩,?_⟩;simp only[rgS.eq_1];exact s_e []
   have l:¬i< bZ c s.2:=by simpa using d
   rw[if_neg l] at a;cases a;refine aA ⟨(),trivial,?_⟩;exact s_e []
 have w:cQ (aN p)< 0:=by
  have:¬0≤cQ (aN p):=by simpa using e
  omega
 rw[if_pos w] at h;cases h;refine an ⟨(),trivial,?_⟩;exact s_e [(2,8)];rintro _ _;refine r_z 3 ?_;refine ak (Fin.many ⟨_,_,rfl,⟨_,_,_,_,_,rfl,rfl,rfl,.inl ⟨TG.h,_,TS.h,nle rfl,rfl⟩⟩,⟨_,_,rfl,rfl,rfl⟩⟩ (nle rfl) ?_);exact ai (ao ay (bJ _ _)) (ai (ao ay (ah _)) aw)
theorem sgn_up{c:Cnt}{i:Int}{q:List Rat}{M M':Rat}(h:M≤M')(hn:¬Sgn c i (cn q (b9 M)) 1):¬Sgn c i (cn q (b9 M')) 1:=by
 rintro⟨x,y,a,b,e⟩
 have d:0< af (cn q (b9 M')) x:=by
  rcases bR x (cn q (b9 M')) with⟨_,g⟩|⟨g,_⟩|⟨g,_⟩
  exact g;omega;omega
 obtain⟨ε,e0,he⟩:=b.pos (show x≤x by grind) a.1 d;refine hn ⟨x,y,a,⟨ε,e0,fun z f j=>ls (.inl ?_) (by grind)⟩,gu ?_⟩;have:=he z f j;rw[eQ] at *;grind;rw[eQ] at *;grind
theorem sgn_lo{c:Cnt}{i:Int}{q:List Rat}{M M':Rat}(h:M'≤M)(hn:¬Sgn c i (cn q (b9 M)) (-1)):¬Sgn c i (cn q (b9 M')) (-1):=by
 rintro⟨x,y,a,b,e⟩
 have d:af (cn q (b9 M')) x< 0:=by
  rcases bR x (cn q (b9 M')) with⟨g,_⟩|⟨_,g⟩|⟨g,_⟩
  omega;exact g;omega
 obtain⟨ε,e0,he⟩:=b.neg (show x≤x by grind) a.1 d;refine hn ⟨x,y,a,⟨ε,e0,fun z f j=>ls (.inr ?_) (by grind)⟩,jC ?_⟩;have:=he z f j;rw[eQ] at *;grind;rw[eQ] at *;grind
theorem wh(a b:Sp){M:Nat}(h1:qs a.1≤M)(h2:qs a.2≤M)(h3:qs b.1≤M)(h4:qs b.2≤M):(kO a b).1≤a.1∧(kO a b).1≤b.1∧a.2≤(kO a b).2∧b.2≤(kO a b).2∧qs (kO a b).1≤M∧qs (kO a b).2≤M:=by
 refine⟨zv a.1 (by simp),zv b.1 (by simp),zy a.2 (by simp),zy b.2 (by simp),?_,?_⟩;have:=jy (fun c=>decide (c< 0)) (l:=[a.1,b.1]) (by simp);show qs (eV [a.1,b.1])≤M;unfold eV;simp only[List.mem_cons,List.not_mem_nil,or_false] at this;rcases this with e|e <;> rw[e]<;> assumption
 have:=jy (fun c=>decide (0< c)) (l:=[a.2,b.2]) (by simp);show qs (dM [a.2,b.2])≤M;unfold dM;grind
theorem GY{f N h Q:Nat}{p:List Rat}{c:Cnt}(H:CG f N h Q p c)(x:Rat):bZ c x≤JA c:=by
 unfold JA;by_cases g:x≤cj c.p;exact gP H.hc H.np g;obtain⟨d,_⟩:=H.sq;have e:Far c.p (cj c.p) x:=⟨ab (aF c.p),Em (c9 d),fun z a _=>w9 d a⟩;obtain⟨b,_⟩:=ko H.hc H.np;have:=(gV H.hc H.np (show cj c.p≤x by grind)).2 (SF.far _ p c.p (Nat.le_refl _) H.np b _ _ e);have:=(fi (c:=c) H.hc H.np (cj c.p)).1;omega
theorem Cp{f N h Q:Nat}{p:List Rat}{c:Cnt}(H:CG f N h Q p c)(x:Rat):0≤aZ c x:=by
 obtain⟨_,_,_,_,b,a⟩:=iW H.hc H.np
 obtain⟨w,d,e⟩:∃w,w< x∧w≤ -cj c.p:=by
  by_cases g: -cj c.p< x;exact⟨-cj c.p,g,by grind⟩;exact⟨x- 1,by grind,by grind⟩
 have:=eY H.hc H.np d;grind
structure RB (f N h Q r g kk J J2 J3:Nat):Prop where
 c1:∃X T,cH f N (h+5) X T Q=true
 N1:1≤N
 N12:N≤12
 h1:1≤h
 hJ:jB N (h+5+12* N+8) (h+5+12* N+13) r J=true
 gJ:J< g
 QJ:r+J+4≤Q
 S:SB f N (h+5) Q r g (h+5+(h+5+(r+2) * 24+2)+kk+3) J2
 j3:h+5+(r+3) * 24+kk+1≤J3
 g3:J3< g
 Q3:r+J3+4≤Q
 lim:h+5+24* (r+J3+2+(h+5)+1)+(r+J3+2)≤60000000000
 k3:kk≤256
 rw_:(r+2) * 24≤100000
 hb:2* (h+5+12* N+8)+10≤Q
 hb2:h+5≤10000000
 hf:2* (h+5+12* N+8)+6≤f
 gg:549755813890≤g
section
variable {f N h Q r g J J2 J3:Nat}{k:Int}(B:RB f N h Q r g (wi k 256) J J2 J3){p:List Rat}{K:Rat}(hpl:p.length≤24)(lp:(aj p).length≤N)(bp:bdL p h)(Hp:HS p K h){lo hi:Rat}(hlh:lo≤hi)(hlo:ab lo≤p2 r)(hhi:ab hi≤p2 r)
include B hpl lp bp Hp hlh hlo hhi
theorem EL{c:Cnt}(C:CG f N (h+5) Q (aN p) c){M:Nat}(hM:h+5+(r+2) * 24+2* wi k 256+4≤M)(hM2:M≤137438953472):∀(n m:Nat) (i:Int) (o:Sp),n< m→bZ c hi- i≤(n:Int)→aZ c lo≤i→qs o.1≤M→qs o.2≤M→
    ∃v:Sp,rlM f g c p k (bZ c hi) m i o=some v∧v.1≤o.1∧o.2≤v.2∧qs v.1≤M∧qs v.2≤M∧∀j,i≤j→j< bZ c hi→¬Sgn c j (cn p (b9 v.2)) 1∧¬Sgn c j (cn p (b9 v.1)) (-1)
 |_,0,_,_,hm,_,_,_,_=>by omega
 |n,m+1,i,o,hm,hn,hi0,o1,o2=>by
  rw[rlM];by_cases g0:i< bZ c hi;rotate_left;rw[if_neg g0];exact⟨o,rfl,Rat.le_refl,Rat.le_refl,o1,o2,fun j a b=>by omega⟩;rw[if_pos g0];have R:RC f N (h+5) Q r J (aN p) c i lo hi:=⟨C,by omega,B.N12,B.hJ,⟨hlh,hi0,g0⟩,hlo,hhi,by have:=Cp C lo;omega,by have:=GY C hi;omega,B.QJ,B.hb,B.hb2,B.hf⟩;have H:HS p K (h+5):=⟨Hp.ne,Hp.sc.mono (by omega),fun i=>(Hp.co i).mono (by omega)⟩;obtain⟨v,v1,v2,s,A,E⟩:=R.value (q:=p) (k:=k) hpl lp B.N1 (fun x y=>Nat.le_trans (bp x y) (by omega)) (by omega) H B.S B.gJ B.j3 B.g3 B.Q3 B.lim B.k3 B.rw_;rw[v1,Option.bind_some,if_pos ⟨⟨Nat.le_trans o1 hM2,Nat.le_trans o2 hM2⟩,⟨Nat.le_trans v2 (by omega),Nat.le_trans s (by omega)⟩⟩];obtain⟨h1,F,u,L,T,t⟩:=wh o v o1 o2 (Nat.le_trans v2 hM) (Nat.le_trans s hM);cases n with
  |zero=>omega
  |succ n=>
  obtain⟨w,O,l,d,G,D,z⟩:=EL C hM hM2 n m (i+1) (kO o v) (by omega) (by omega) (by omega) T t;refine⟨w,O,Rat.le_trans l h1,Rat.le_trans u d,G,D,fun j a b=>?_⟩;by_cases e:j=i;rw[e];exact⟨sgn_up (Rat.le_trans L d) A,sgn_lo (Rat.le_trans l F) E⟩;exact z j (by omega) b
omit B hpl lp bp Hp hlh hlo hhi in
theorem B1(p:List Rat)(m x:Rat):dvE (cn p (b9 m)) x=dvE p x:=by
 have e:=r8 (p:=cn p (b9 m)) (q:=kY p (fb [m] (-1))) (fun x=>by rw[dJ,lh,fO,dX,aE,aM];grind) x;rw[e,r9,jq,show dvE [m] x=0 from by show af [] x+dvE [] x* x=0;rw[aM,show dvE [] x=0 from rfl];grind];grind
omit B hpl lp bp Hp hlh hlo hhi in
theorem sgn_neg{c:Cnt}{i:Int}{q:List Rat}(hn:¬Sgn c i q (-1)):¬Sgn c i (aL q (-1)) 1:=by
 rintro⟨x,y,a,b,e⟩
 have d:0< af (aL q (-1)) x:=by
  rcases bR x (aL q (-1)) with⟨_,g⟩|⟨g,_⟩|⟨g,_⟩
  exact g;omega;omega
 obtain⟨ε,e0,he⟩:=b.pos (show x≤x by grind) a.1 d;refine hn ⟨x,y,a,⟨ε,e0,fun z f h=>ls (.inr ?_) (by grind)⟩,jC ?_⟩;have:=he z f h;rw[aR] at this;grind;rw[aR] at d;grind
omit B hpl lp bp Hp hlh hlo hhi in
theorem uh(a:Rat):(fT a k).1≤a∧a≤(fT a k).2∧qs (fT a k).1≤qs a+2* wi k 256+4∧qs (fT a k).2≤qs a+2* wi k 256+4:=by
 unfold fT;generalize wi k 256=c
 have d:∀b:Rat,qs (fk b c)≤qs b+2* c+4:=fun b=>by
  unfold fk;have h1:=dk ((b* j4 c).floor:Rat) (cY c);have e:=qP (b* j4 c);have f:=dk b (j4 c);have g:=uF c;have h:=qQ c;omega
 have up:upQ a c= -fk (-a) c:=by
  unfold upQ fk sr;rw[show -a* j4 c= -(a* j4 c) by grind];grind
 obtain⟨_,_,d1,_⟩:=oG a c;obtain⟨_,_,d2,_⟩:=oG (-a) c;refine⟨d1,by show a≤upQ a c;rw[up];grind,d a,?_⟩;show qs (upQ a c)≤_;rw[up,fv];have:=d (-a);rw[fv] at this;exact this
theorem Da{t M:Nat}(ht1:qs lo≤t)(ht2:qs hi≤t)(htQ:t≤Q)(hM1:26* (h+t+1)+2* wi k 256+8≤M)(hM:h+5+(r+2) * 24+2* wi k 256+4≤M)(hM2:M≤137438953472):
    ∃v:Sp,sV f g p (lo,hi) k=some v∧qs v.1≤M∧qs v.2≤M∧∀x,lo≤x→x≤hi→v.1≤af p x∧af p x≤v.2:=by
 have ev:∀x,qs x≤t→qs (af p x)≤24* (h+t+1)+1:=fun x w=>by
  have:=n4 w bp;have:=Nat.mul_le_mul_right (h+t+1) hpl;omega
 have a:∀x,qs x≤t→fe p x:=fun x w=>by
  have Z:=dz bp B.h1;have D:=Nat.mul_le_mul hpl (show mxL p+qs x+1≤h+t+1 by omega);exact⟨by omega,by omega⟩
 have e1:=ev lo ht1;have e2:=ev hi ht2;obtain⟨u,y,Y,N⟩:=uh (k:=k) (af p lo);obtain⟨b1,b2,O,R⟩:=uh (k:=k) (af p hi);obtain⟨h1,m,s,h4,L,o⟩:=wh (fT (af p lo) k) (fT (af p hi) k) (M:=M) (by omega) (by omega) (by omega) (by omega);have U:=bO p;have b:cQ p≤40:=by unfold cQ;omega
 unfold sV;rw[if_pos (show zn p (lo,hi) k from⟨⟨by show qs lo≤_;omega,by show qs hi≤_;omega⟩,a lo ht1,a hi ht2,eP bp (by omega),by omega,cmpQ_le.2 hlh,b,⟨Nat.le_trans Y (by omega),Nat.le_trans N (by omega)⟩,⟨Nat.le_trans O (by omega),Nat.le_trans R (by omega)⟩⟩)];by_cases hd:nz (aN p);rotate_left;rw[if_pos (by have:=degP_nil.2 hd;omega)];refine⟨_,rfl,L,o,fun x _ _=>?_⟩
 have hc:af p x=af p lo:=by
  by_cases np:nz p;by_cases h0:dg p=0;obtain⟨γ,_,F⟩:=pX np h0;rw[F,F];exact absurd (tK h0 np).1 hd;rw[ig np,ig np]
 rw[hc];exact⟨Rat.le_trans h1 u,Rat.le_trans y s⟩;rw[if_neg (by rw[An hd];omega)];obtain⟨X,T,l⟩:=B.c1
 have np:nz p:=fun e=>hd (by
  have:aN p=aN (aj p):=by
   have h1:aj (aN p)=aN p:=cw _;have m:aj (aN (aj p))=aN (aj p):=cw _;rw[←h1,←m];exact kz fun i=>by rw[ek,ek,ce]
  rw[this,e];rfl)
 have V:=oQ np;have j:aj (aN p)=aN p:=cw _;have H:=B.N12;have E:=mV (by omega) bp B.h1 Hp.ht;obtain⟨c,C⟩:=CG.ex l hd (by rw[j];omega) (by omega) E.1 E.2;rw[C.hc,Option.bind_some,if_pos ⟨(C.ok lo (by omega)).2,(C.ok hi (by omega)).1⟩];have ub:=lI (c:=c) (x:=hi) (C.ok lo (by omega)).1.1;have bn:=Cp C lo;have hg:=B.gg;obtain⟨v,v1,v2,K,S,W,n⟩:=EL B hpl lp bp Hp hlh hlo hhi C hM hM2 ((bZ c hi- aZ c lo).toNat) g (aZ c lo) (kO (fT (af p lo) k) (fT (af p hi) k)) (by omega) (by omega) (Int.le_refl _) L o;refine⟨v,v1,S,W,fun x G J=>⟨?_,?_⟩⟩
 have:=A9 (q:=aL (cn p (b9 v.1)) (-1)) (d:=aN p) (σ:= -1) C.hc hd (.inr rfl) (fun z=>by
  rw[yw (p:=cn p (b9 v.1)) (k:= -1) fun x=>aR _ _ x,B1,bY];grind) (A:=lo) (B:=hi) (by rw[aR,eQ];have:=Rat.le_trans v2 (Rat.le_trans h1 u);grind) (by rw[aR,eQ];have:=Rat.le_trans v2 (Rat.le_trans m b1);grind) (fun i i1 i2=>sgn_neg (n i i1 i2).2) x G J
 rw[aR,eQ] at this;grind
 have:=A9 (q:=cn p (b9 v.2)) (d:=aN p) (σ:=1) C.hc hd (.inl rfl) (fun z=>by
  rw[B1,bY];grind) (A:=lo) (B:=hi) (by rw[eQ];have:=Rat.le_trans y (Rat.le_trans s K);grind) (by rw[eQ];have:=Rat.le_trans b2 (Rat.le_trans h4 K);grind) (fun i i1 i2=>(n i i1 i2).1) x G J
 rw[eQ] at this;grind
end
theorem rb_c1:cH 20000 9 2005 4000000 9000000000 100000000=true:=by decide+kernel
theorem rb_cd:cH 20000 9 2237 4000000 9000000000 100000000=true:=by decide+kernel
theorem rb_cq:cH 20000 9 4601 8000000 9000000000 100000000=true:=by decide+kernel
theorem rb_J:jB 9 2121 2126 22 13000000=true:=by decide+kernel
theorem rb_J2:jB 9 2237 4601 22 22000000=true:=by decide+kernel
theorem rb_g:((List.range 10).all fun m=>(List.range 10).all fun n=>hG 20000 m n 2121 4601 30000000)=true:=by decide+kernel
theorem rb:RB 20000 9 2000 100000000 22 1000000000000 10 13000000 22000000 3000 where
 c1:=⟨_,_,rb_c1⟩
 N1:=by decide
 N12:=by decide
 h1:=by decide
 hJ:=rb_J
 gJ:=by decide
 QJ:=by decide
 S:={hq1:=by decide,gcd:=⟨_,by decide,rb_g⟩,cd:=⟨_,_,rb_cd⟩,cq:=⟨_,_,rb_cq⟩,hJ2:=rb_J2,hg:=by decide,hQ2:=by decide,ev:=by decide}
 j3:=by decide
 g3:=by decide
 Q3:=by decide
 lim:=by decide
 k3:=by decide
 rw_:=by decide
 hb:=by decide
 hb2:=by decide
 hf:=by decide
 gg:=by decide
theorem Gu{p:List Rat}{K:Rat}(hpl:p.length≤24)(lp:(aj p).length≤9)(bp:bdL p 2000)(Hp:HS p K 2000){lo hi:Rat}(hlh:lo≤hi)(hlo:ab lo≤p2 22)(hhi:ab hi≤p2 22)(ht1:qs lo≤1000)(ht2:qs hi≤1000):
    ∃v:Sp,FS 139 [.arr (pE p),.agg (spC lo hi),i64 10] (.tup [.agg (spC v.1 v.2),i64 0])∧qs v.1≤100000∧qs v.2≤100000∧∀x,lo≤x→x≤hi→v.1≤af p x∧af p x≤v.2:=by
 have a:wi 10 256=10:=by decide
 have B:RB 20000 9 2000 100000000 22 1000000000000 (wi 10 256) 13000000 22000000 3000:=by rw[a];exact rb
 obtain⟨v,v1,v2,c,b⟩:=Da B hpl lp bp Hp hlh hlo hhi (t:=1000) (M:=100000) ht1 ht2 (by decide) (by rw[a];decide) (by rw[a];decide) (by decide);exact⟨v,wv _ _ p (lo,hi) 10 v v1 (by decide),v2,c,b⟩
theorem oI(p q:List Rat)(o:fx p q):FS 13 [.arr (pE p),.arr (pE q)] (.arr (pE (aJ p q))):=
 IM p q (mxL p) (mxL q) (fj p) (fj q) (fo p) (fo q) o.1 o.2.1 o.2.2.1 o.2.2.2
theorem dy{a b:List AV}(ha:∀c∈a,Closed c)(hb:∀c∈b,Closed c):∀c∈a++b,Closed c:=fun c hc=>(List.mem_append.1 hc).elim (ha c) (hb c)
theorem fs_SNeg(a b:Rat):FS 177 [.agg (spC a b)] (.agg (spC (-b) (-a))):=by
 refine f_c Tryz.func177 ?_;refine r_z 2 ?_;refine ae (r_d ba 8 ?_);refine c_s (nW b) ?_;refine c_s (nW a) ?_;refine a_2 ?_;refine au (n_k ?_);exact ak (c_e (bJ _ _))
def absL(v:Sp):Rat:=if 0≤v.1 then v.1 else if v.2≤0 then -v.2 else 0
theorem sg_ge{q:Rat}:(0:Int)≤sgZ q.num↔0≤q:=by
 have h:=sgZ_num_lt (q:=q);constructor;intro g;have:¬q< 0:=fun e=>by have:=h.2 e;omega
 grind;intro g;have:¬sgZ q.num< 0:=fun e=>by have:=h.1 e;grind
 omega
theorem sg_le{q:Rat}:sgZ q.num≤(0:Int)↔q≤0:=by
 have h:=sgZ_num_gt (q:=q);constructor;intro g;have:¬0< q:=fun e=>by have:=h.2 e;omega
 grind;intro g;have:¬0< sgZ q.num:=fun e=>by have:=h.1 e;grind
 omega
theorem Fe(v:Sp)(h1:sm v.1)(h2:sm v.2):FS 140 [.agg (spC v.1 v.2)] (.agg (spC (absL v) (tW v))):=by
 have hc:∀c∈spC v.1 v.2,Closed c:=bi _ _;refine f_c Tryz.func140 ?_;refine r_z 2 ?_;refine ae (am ?_);by_cases g1:0≤v.1;rw[show absL v=v.1 from if_pos g1,show tW v=v.2 from if_pos g1];refine r_c 5 (cx v.1) ?_;refine o_0 (.bin rfl rfl (vT jU (decide_eq_true (sg_ge.2 g1)))) ?_;refine a_z ?_;refine cT (r_z 2 ?_);exact ak (c_e (bJ _ _));refine r_c 5 (cx v.1) ?_;refine o_0 (.bin rfl rfl (vF jU (decide_eq_false (fun e=>g1 (sg_ge.1 e))))) ?_;refine a_z ?_;refine cF ?_;by_cases g2:v.2≤0;rw[show absL v= -v.2 from(if_neg g1).trans (if_pos g2),show tW v= -v.1 from(if_neg g1).trans (if_pos g2)];refine r_c 5 (cx v.2) ?_;refine o_0 (.bin rfl rfl (vT dH (decide_eq_true (sg_le.2 g2)))) ?_;refine a_z ?_;refine cT (r_c 3 (fs_SNeg v.1 v.2) ?_);refine a_z ?_;exact ak (c_e (bJ _ _));rw[show absL v=0 from(if_neg g1).trans (if_neg g2),show tW v=dM [-v.1,v.2] from(if_neg g1).trans (if_neg g2)];refine r_c 5 (cx v.2) ?_;refine o_0 (.bin rfl rfl (vF dH (decide_eq_false (fun e=>g2 (sg_le.1 e))))) ?_;refine a_z ?_;refine cF (an ?_);have a:=tz [-v.1,v.2] (mI (by unfold sm;rw[fv];exact h1) h2) (by simp);refine ae (r_d ba 10 ?_);refine c_s (nW v.1) ?_;refine a_3 ?_;refine o_1 (.callS1 rfl rfl rfl (.shut rfl d_n (.nil)) rfl (a)) ?_;refine a_2 ?_;refine au (n_k ?_);refine ak ?_;rw[show spC 0 (dM [-v.1,v.2])=[.arr [],bln false,.arr []]++qC (dM [-v.1,v.2]) from by unfold spC;rw[qC0]];refine Fin.cell rfl rfl rfl TG.h TS.h (nle rfl) ?_
 exact Cv.agg (ai (Cv.emp _) (ai (ao ay (ah _)) (ai (Cv.emp _) (CvL.clo ay (a7 _)))))
abbrev prC(p:List Rat×List Rat):List AV:=[.arr (pE p.1),.arr (pE p.2)]
def kE(k:Ke):List (List AV):=k.map prC
@[simp] theorem ec (k:Ke):(kE k).length=k.length:=by simp[kE]
theorem iw(p:List Rat×List Rat):∀c∈prC p,Closed c:=ac (aC _) (ac (aC _) ag)
theorem eG(k:Ke):∀x∈kE k,∀c∈x,Closed c:=fun x a=>by
 obtain⟨p,_,rfl⟩:=List.mem_map.1 a;exact iw p
theorem aX(k:Ke):Closed (.arr (kE k)):=aK (eG k)
theorem kM{k:Ke}{i:Nat}{p:List Rat×List Rat}(h:k[i]?=some p):∀e,e=i→(kE k)[e]?=some (prC p):=fun e a=>by
 rw[a,kE,List.getElem?_map,h];rfl
def Eg(p:List Rat×List Rat):Bool:=decide (12< if cQ p.2> cQ p.1 then cQ p.2 else cQ p.1)
theorem Gz(p:List Rat×List Rat)(h1:p.1.length≤1099511627776)(h2:p.2.length≤1099511627776):FS 167 [.agg (prC p)] (bln (Eg p)):=by
 refine f_n Tryz.func167 ?_ ?_;exact ac (aB (iw p)) ag;refine r_z 2 ?_;refine ae (r_d ba 9 ?_);refine c_s (eE p.1 h1) ?_;refine c_s (eE p.2 h2) ?_;refine a_3 ?_;refine au (n_k ?_);exact ak (t_e (ah _))
def kN{α:Type}(t:α→Bool):List α→Int→Int
 |[],_=> -1
 |a::l,i=>if t a then i else kN t l (i+1)
theorem ry{α:Type}(t:α→Bool):∀(l:List α) (i:Int),0≤i→(decide (0≤kN t l i))=l.any t
 |[],i,_=>by simp[kN]
 |a::l,i,hi=>by
  unfold kN;cases h:t a with
  |true=>simp[h,hi]
  |false=>simp[h];rw[←ry t l (i+1) (by omega)]
theorem Ah{α:Type}{l:List α}{i:Nat}{a:α}(h:l[i]?=some a):l.drop i=a::l.drop (i+1):=by
 obtain⟨h1,b⟩:=List.getElem?_eq_some_iff.1 h;rw[←b];exact List.drop_eq_getElem_cons h1
def ikS(k:Ke)(g:Nat)(cap:List AV):Nat→AState
 |i=>⟨[(0,.arr (kE k)),(1,.clos g [] cap),(7,i64 k.length),(8,i64 i)],[],1,19⟩
theorem Gw(k:Ke)(g:Nat)(cap:List AV)(t:List Rat×List Rat→Bool)(hcap:∀c∈cap,Closed c)(hl:k.length≤1099511627776)(hg:∀p∈k,FS g ((.agg (prC p)::cap).map coe) (bln (t p))):FS 196 [.arr (kE k),.clos g [] cap] (i64 (kN t k 0)):=by
 have f:Closed (.clos g [] cap):=aU ag hcap;have j:(kE k).length=k.length:=ec k;refine f_n Tryz.func196 ?_ ?_;exact ac (aX k) (ac f ag);obtain⟨R,h⟩:∃R,R=kN t k 0:=⟨_,rfl⟩;rw[←h];refine r_z 1 ?_;refine ae (r_z 3 ?_);refine aH (fun _:Unit=>⟨[],[],1,19⟩) (fun _=>R= -1) ?_ ?_;refine am (aD (ikS k g cap) (fun i=>k.length- i) (fun i=>i≤k.length∧kN t (k.drop i) i=R) 0 ⟨Nat.zero_le _,by rw[h];rfl⟩ ?_ ?_);simp only[ikS.eq_1];exact s_x [] (fun hs=>e_29) (fun hs=>e_30);rintro i ⟨l,a⟩;rw[ikS.eq_1];by_cases hlt:i< k.length;refine q_z 1 ?_;refine ae (cT (an ?_));obtain⟨p,hp⟩:∃p,k[i]?=some p:=⟨_,List.getElem?_eq_getElem hlt⟩;have b:(kE k)[((i:Nat):Int).toNat]?=some (prC p):=kM hp _ (by simp);rw[Ah hp,kN] at a;refine ae (am (r_z 2 ?_));refine s_r 6 ?_;refine a_3 ?_;refine i_x b ?_;refine l_x b ?_;refine c_s (hg p (List.mem_of_getElem? hp)) ?_;refine au ?_;refine aq rfl (fun h1=>?_) (fun h1=>?_);have d:t p=true:=h1;rw[if_pos d] at a;refine r_z 2 ?_;refine ak (aY rfl ?_ ?_);rw[←a];exact ah _;have d:¬t p=true:=by rw[show t p=false from h1];decide
 rw[if_neg d] at a;refine an (r_m 2 ?_);refine a_z ?_;refine⟨i+1,by omega,⟨hlt,a⟩,?_⟩;simp only[ikS.eq_1];exact s_x [] (fun hs=>e_29) (fun hs=>e_30);have e:i=k.length:=by omega
 subst e;refine q_z 1 ?_;refine ae (cF ?_);rw[List.drop_length] at a;refine aA ⟨(),a.symm,?_⟩;exact s_e [];rintro _ a;refine r_z 1 ?_;refine ak (aY rfl ?_ ?_);rw[a];rfl;exact ah _
theorem zY(k:Ke)(g:Nat)(cap:List AV)(t:List Rat×List Rat→Bool)(hcap:∀c∈cap,Closed c)(hl:k.length≤1099511627776)(hg:∀p∈k,FS g ((.agg (prC p)::cap).map coe) (bln (t p)))(hcap2:cap.map coe=cap):FS 166 [.arr (kE k),.clos g [] cap] (bln (k.any t)):=by
 have a:Closed (.clos g [] cap):=aU ag hcap;have e:=ry t k 0 (Int.le_refl 0);have b:=Gw k g cap t hcap hl hg;refine f_n Tryz.func166 ?_ ?_;exact ac (aX k) (ac a ag);refine r_z 1 ?_;refine r_c 5 (b) ?_;refine a_z ?_;refine ak (aY rfl ?_ ?_);rw[←e];rfl;exact ah _
def qZ(k:Ke):Prop:=k.length≤8∧k.any Eg=false∧∀p∈k,p.1.length≤1099511627776∧p.2.length≤1099511627776
theorem DR(k:Ke)(h:qZ k):FS 136 [.arr (kE k)] (i64 0):=by
 have a:(kE k).length=k.length:=ec k;have hc:=zY k 167 [] Eg ag (by have:=h.1;omega) (fun p hp=>Gz p (h.2.2 p hp).1 (h.2.2 p hp).2) rfl;rw[h.2.1] at hc;have b:=h.1;refine f_n Tryz.func136 ?_ ?_;exact ac (aX k) ag;refine r_z 1 ?_;refine ae (q_c 7 (hc) ?_);refine a_z ?_;refine cF (an (r_z 1 ?_));exact ak (t_e (ah _))
theorem yg(k:Ke)(a b:Rat)(h:qZ k)(ha:sm a)(hb:sm b)(hab:a≤b):FS 85 [.arr (kE k),.agg (spC a b)] (bln false):=by
 have h1:=DR k h;have c:=lZ a b ha hb;rw[decide_eq_true (cmpQ_le.2 hab)] at c;refine f_n Tryz.func85 ?_ ?_;exact ac (aX k) (ac (bJ _ _) ag);refine r_z 2 ?_;refine r_c 9 (h1) ?_;refine o_0 (.bin rfl rfl (vF eM (rfl))) ?_;refine c_s (c) ?_;refine a_z ?_;exact ak (t_e (ah _))
abbrev eqC(k:Ke)(l:Rat)(g:List Rat):List AV:= .arr (kE k)::(qC l++[.arr (pE g)])
theorem cG(k:Ke)(l:Rat)(g:List Rat):∀c∈eqC k l g,Closed c:=ac (aX k) fun c hc=>(List.mem_append.1 hc).elim (a7 l c) (ac (aC g) ag c)
theorem j7(k:Ke)(l:Rat)(g:List Rat)(a b:Rat)(h:qZ k)(ha:sm a)(hb:sm b)(hab:a≤b)(hg:cQ g≤20)(hgl:g.length≤1099511627776):FS 42 [.agg (eqC k l g++spC a b)] (bln false):=by
 have h1:=yg k a b h ha hb hab;have d:=eE g hgl;have e:∀c∈eqC k l g++spC a b,Closed c:=fun c hc=>(List.mem_append.1 hc).elim (cG k l g c) (bi a b c);refine f_c Tryz.func42 ?_;refine r_z 2 ?_;refine r_c 14 (h1) ?_;refine c_s (d) ?_;refine d_z ?_;exact ak (t_e (ah _))
theorem rN(a b:Rat)(hb:b≠0)(h:qs a+qs b≤549755813888):FS 58 [.agg (qC a),.agg (qC b)] (.agg (qC (a/ b))):=by
 refine f_c Tryz.func58 ?_;refine r_z 3 ?_;refine r_c 9 (DL a b hb h) ?_;refine a_z ?_;refine r_z 2 ?_;exact ak (c_e (aP _))
theorem fs_cut(p:List Rat)(n:Nat)(hp:p.length≤1099511627776)(hn:n≤1000000):FS 44 [.arr (pE p),i64 n] (.arr (pE (D5 p n))):=by
 have c:(pE p).length=p.length:=by simp[pE]
 obtain⟨m,b⟩:∃m,m=min p.length (n+1):=⟨_,rfl⟩
 have ht:p.take m=p.take (n+1):=by
  rw[b];by_cases g:p.length≤n+1;rw[Nat.min_eq_left g,List.take_of_length_le (Nat.le_refl _),List.take_of_length_le g];rw[Nat.min_eq_right (by omega)]
 have e:(pE p).take m=pE (p.take (n+1)):=by rw[←ht];simp[pE,List.map_take]
 have a:=eC (p.take (n+1)) (by rw[List.length_take];omega);refine f_c Tryz.func44 ?_;refine r_z 1 ?_;refine s_r 9 ?_;refine a_6 ?_;refine o_0 (.sa_hE (h:=m) e rfl rfl (by rw[b];split <;> omega) (by omega) te_36.h (mL _)) ?_;refine c_s (a) ?_;refine a_z ?_;exact ak (t_e (aC _))
theorem smL_one{v:Rat}(h:sm v):smL [v]:=fun x a=>by rw[List.mem_singleton.1 a];exact h
def upS(k:Ke)(a:Rat)(u:List Rat):Nat×List Rat→AState
 |(i,o)=>⟨[(2,.arr (pE u)),(4,.lptr 1 0 0),(7,.arr (pE o)),(11,.arr (kE k)),(12,i64 k.length),(13,i64 i)],[(1,some ⟨34,3,[qC a]⟩)],2,35⟩
theorem Bx(k:Ke)(a:Rat)(u:List Rat)(h:qV k a u)(hl:k.length≤1000):FS 45 [.arr (kE k),.agg (qC a),.arr (pE u)] (.arr (pE (upK k a u))):=by
 have e:(kE k).length=k.length:=ec k;refine f_n Tryz.func45 ?_ ?_;exact ac (aX k) (ac (aP a) (ac (aC u) ag));refine r_z 2 ?_;refine r_z 1 ?_;refine ae (r_z 3 ?_);refine aH (fun _:Unit=>⟨[(7,.arr (pE (upK k a u)))],[],1,35⟩) (fun _=>True) ?_ ?_;refine am (aD (upS k a u) (fun x=>k.length- x.1) (fun x=>x.1≤k.length∧x.2=upL a u (k.take x.1) []) (0,[]) ⟨Nat.zero_le _,rfl⟩ ?_ ?_);simp only[upS.eq_1];exact s_x [(1,4)] (fun hs=>e_31) (fun hs=>e_32);rintro⟨i,o⟩ ⟨j,c⟩;simp only at j c;rw[upS.eq_1];by_cases hlt:i< k.length;obtain⟨p,hp⟩:∃p,k[i]?=some p:=⟨_,List.getElem?_eq_getElem hlt⟩;have b:(kE k)[((i:Nat):Int).toNat]?=some (prC p):=kM hp _ (by simp);have ok:=h i p hp;rw[←c] at ok;have h1:=oI p.2 u ok.m1;have l:=nY (aJ p.2 u) (nJ ok.m1) ok.i1;have g:=j8 (ax (aJ p.2 u)) a ok.e1;have m:=zT (ax (aJ p.2 u)) [af (ax (aJ p.2 u)) a] ok.i2 (smL_one (wE ok.e1)) ok.l1 (by simp);have n:=oI p.1 _ ok.m2;have f:=qj o _ ok.o1 (nJ ok.m2) ok.o2 ok.l2;refine q_z 1 ?_;refine ae (cT (an (ae (am (s_r 4 ?_)))));refine i_x b ?_;refine l_x b ?_;refine a_z ?_;refine r_c 6 (h1) ?_;refine c_s (l) ?_;refine a_z ?_;refine r_d ba 12 ?_;refine c_s (g) ?_;refine a_1 ?_;refine o_1 (.callS1 rfl rfl rfl (.keep (.shut rfl d_n (.nil))) rfl (m)) ?_;refine c_s (n) ?_;refine c_s (f) ?_;refine a_1 ?_;refine au (n_k ?_);refine r_m 2 ?_;refine a_z ?_;refine⟨(i+1,upF a u o p),by simp only;omega,⟨hlt,by simp only;rw[dt hp,AJ,←c]⟩,?_⟩;simp only[upS.eq_1];unfold upF;exact s_x [] (fun hs=>e_31) (fun hs=>e_32)
 have d:i=k.length:=by omega
 subst d;refine q_z 1 ?_;refine ae (cF ?_);rw[List.take_length] at c;refine aA ⟨(),trivial,?_⟩;unfold upK;rw[←c];exact s_e [];rintro _ _;refine r_z 2 ?_;exact ak (t_e (aC _))
theorem Gi(a:Rat)(p:List Rat×List Rat)(h1:iu [a,1] p.1∧p.1.length≤274877906944)(h2:iu [a,1] p.2∧p.2.length≤274877906944):FS 108 [.agg (prC p),bQ a] (.agg (prC (ca [a,1] p.1,ca [a,1] p.2))):=by
 have c:=lY p.1 a h1.1 h1.2;have b:=lY p.2 a h2.1 h2.2;refine f_n Tryz.func108 ?_ ?_;exact ac (aB (iw p)) (ac (b7 a) ag);refine r_z 2 ?_;refine ae (r_d ba 10 ?_);refine c_s (c) ?_;refine c_s (b) ?_;refine a_2 ?_;refine au (n_k ?_);exact ak (c_e (aB (iw _)))
def ecS(k:Ke)(g:Nat)(cap:List AV)(f:List Rat×List Rat→List Rat×List Rat):Nat→AState
 |0=>⟨[(1,.clos g [] cap),(8,.arr (kE k)),(9,i64 k.length),(10,i64 0),(5,.emp)],[],1,22⟩
 |i+1=>⟨[(1,.clos g [] cap),(8,.arr (kE k)),(9,i64 k.length),(10,i64 ((i+1:Nat):Int)),(5,.lsl 1 0 (i+1) none 2)],[(1,some ⟨61,2,kE ((k.take (i+1)).map f)⟩)],2,22⟩
theorem Ie(k:Ke):(kE k).all (·.all AV.one)=true:=by
 rw[List.all_eq_true];intro x a;obtain⟨p,_,rfl⟩:=List.mem_map.1 a;rfl
theorem E6(k:Ke)(p:List Rat×List Rat):kE (k++[p])=kE k++[prC p]:=by simp[kE]
theorem IF(k:Ke)(g:Nat)(cap:List AV)(f:List Rat×List Rat→List Rat×List Rat)(hcap:∀c∈cap,Closed c)(hl:k.length≤1000)(hg:∀p∈k,FS g ((.agg (prC p)::cap).map coe) (.agg (prC (f p)))):FS 107 [.arr (kE k),.clos g [] cap] (.arr (kE (k.map f))):=by
 have q:(kE k).length=k.length:=ec k;have d:Closed (.clos g [] cap):=aU ag hcap;refine f_n Tryz.func107 ?_ ?_;exact ac (aX k) (ac d ag);refine r_z 1 ?_;refine r_z 1 ?_;refine ae (r_z 3 ?_);refine aH (fun _:Unit=>⟨[(5,.arr (kE (k.map f)))],[],1,22⟩) (fun _=>True) ?_ ?_;refine am (aD (ecS k g cap f) (fun i=>k.length- i) (fun i=>i≤k.length) 0 (Nat.zero_le _) ?_ ?_);rw[ecS.eq_1];exact s_x [] (fun hs=>e_4) (fun hs=>e_33);intro i r;by_cases hlt:i< k.length
 ·obtain⟨p,hp⟩:∃p,k[i]?=some p:=⟨_,List.getElem?_eq_getElem hlt⟩
  have l:=hg p (List.mem_of_getElem? hp);have n:(k.take (i+1)).length=i+1:=by rw[List.length_take];omega
  have b:kE ((k.take i).map f)++[prC (f p)]=kE ((k.take (i+1)).map f):=by rw[dt hp,List.map_append,List.map_singleton,E6]
  cases i with
  |zero=>
   have a:(kE k)[((0:Int)).toNat]?=some (prC p):=kM hp _ rfl;rw[ecS.eq_1];refine q_z 1 ?_;refine ae (cT (an (ae (am (s_r 4 ?_)))));refine i_x a ?_;refine l_x a ?_;refine a_z ?_;refine r_m 7 ?_;refine c_s (l) ?_;refine a_z ?_;refine r_m 2 ?_;refine a_z ?_;refine⟨0+1,by omega,by omega,?_⟩;rw[ecS.eq_2];rw[←b];refine s_x [(1,5)] (fun hs=>e_4) (fun hs=>?_)
   ·repeat' (first|exact aI|refine h_c ?_ ?_|exact cv hs (eG [f p])|exact cu|refine aG ?_|exact aw|refine ai ?_ ?_|exact ao hs (aX k)|exact ao hs d|exact bm)
  |succ i=>
   have a:(kE k)[(((i+1:Nat):Int)).toNat]?=some (prC p):=kM hp _ (by simp);have o:=Ie ((k.take (i+1)).map f);have e:(kE ((k.take (i+1)).map f)).length=i+1:=by rw[ec,List.length_map,List.length_take];omega
   rw[ecS.eq_2];refine q_z 1 ?_;refine ae (cT (an (ae (am (s_r 4 ?_)))));refine i_x a ?_;refine l_x a ?_;refine a_z ?_;refine r_m 7 ?_;refine c_s (l) ?_;refine o_1 (.buildSlice te_26.h TZ.h rfl (by decide) rfl rfl rfl (by first|(simp;done)|(simp[cC,ofV];done)|rfl)) ?_;refine o_2 (.append_l rfl rfl rfl te_26.h rfl rfl rfl rfl rfl d_o (by first|exact gf _|exact gd _|exact fc _|exact gi _|exact fW _|assumption|rfl|simp) (by first|rfl|exact gf _|exact gd _|exact fc _|exact gi _|exact fW _|simp) rfl (.lsl rfl (nle rfl)) TZ.h rfl TB.h d_o (by first|(simp[maxLen];done)|(simp[maxLen];omega))) ?_;refine o_0 (.assign rfl) ?_;refine au ?_;refine r_m 2 ?_;refine a_z ?_;refine⟨i+1+1,by omega,by omega,?_⟩;rw[ecS.eq_2];refine s_x [(1,5)] (fun hs=>e_4) (fun hs=>?_)
   ·repeat' (first|exact aI|refine h_c ?_ ?_|exact aT hs b (eG _)|exact cu|refine aG ?_|exact aw|refine ai ?_ ?_|exact ao hs (aX k)|exact ao hs d|exact bm)
 have j:i=k.length:=by omega
 cases i with
 |zero=>
  have m:k=[]:=List.eq_nil_of_length_eq_zero j.symm;subst m;rw[ecS.eq_1];refine q_z 1 ?_;refine ae (cF (aA ⟨(),trivial,?_⟩));exact s_e []
 |succ i=>
  have e:(kE (k.map f)).length=i+1:=by rw[ec,List.length_map];omega
  rw[ecS.eq_2,j,List.take_length];refine q_z 1 ?_;refine ae (cF (aA ⟨(),trivial,?_⟩));refine s_x [] (fun hs=>?_) (fun hs=>?_)
  ·repeat' (first|exact aS|refine az rfl ?_ ?_|(refine Cv.shut hs rfl (aQ rfl) (by simp) ?_;exact aT hs (by rw[List.drop_zero];exact List.take_of_length_le (by simp)) (eG _))|exact bm)
  ·repeat' (first|exact aI|refine h_c ?_ ?_|exact cu|refine aG ?_|exact aw|refine ai ?_ ?_|(refine Cv.shut hs rfl (aQ rfl) (by simp) ?_;exact aT hs (by rw[List.drop_zero];exact List.take_of_length_le (by simp)) (eG _))|exact bm)
 rintro _ _;refine r_z 2 ?_;exact ak (t_e (aX _))
theorem Iz(k:Ke)(l:Rat)(g:List Rat)(a:Rat)(hl:k.length≤1000)(hk:∀p∈k,(iu [a,1] p.1∧p.1.length≤274877906944)∧iu [a,1] p.2∧p.2.length≤274877906944)(hg:iu [a,1] g)(hgl:g.length≤274877906944):FS 43 [.agg (eqC k l g),.agg (qC a)] (.agg (eqC (mvK a k) l (ca [a,1] g))):=by
 have h1:=IF k 108 [bQ a] (fun p=>(ca [a,1] p.1,ca [a,1] p.2)) (ac (b7 a) ag) hl fun p hp=>Gi a p (hk p hp).1 (hk p hp).2;have c:=lY g a hg hgl;have b:=cG k l g;refine f_c Tryz.func43 ?_;refine r_z 3 ?_;refine AWp.ent (st':=⟨[(2,.aptr [eqC k l g] 0 0),(3,bQ a),(4,.lptr 1 0 0)],[(1,some ⟨38,5,[.emp::(zC++[.emp])]⟩)],2,16⟩) ?_ ?_;refine s_x [(1,4)] (fun hs=>?_) (fun hs=>?_)
 ·repeat' (first|exact aS|refine az rfl ?_ ?_|exact Cv.boxp hs rfl (aQ rfl) rfl b|exact Cv.boxp hs rfl (aQ rfl) rfl (a7 a)|exact bm)
 ·repeat' (first|exact aI|refine h_c ?_ ?_|exact cu|refine aG ?_|exact aw|refine ai ?_ ?_|exact Cv.boxp hs rfl (aQ rfl) rfl b|exact Cv.boxp hs rfl (aQ rfl) rfl (a7 a)|exact bm)
 refine ae (r_d ba 12 ?_);refine c_s (h1) ?_;refine c_s (c) ?_;refine a_2 ?_;refine au (n_k ?_);exact ak (c_e (aB (cG _ _ _)))
end Go.Proofs.YtkhclghbcicapaaGreatDoor
