/- Part V25 of the proof. -/
import Derived.Test.YtkhclghbcicapaaGreatDoorV24
set_option linter.all false
namespace Go.Proofs.YtkhclghbcicapaaGreatDoor
open Go.Abs
set_option maxRecDepth 20000
set_option maxHeartbeats 2000000
def j8(a b:Sp):Sp:=(eN [a.1,b.1],dH [a.2,b.2])
def fM(a:Rat)(k:Int):Sp:=(fb a (wi k 256),upQ a (wi k 256))
def rlM(f g:Nat)(c:Cnt)(p:List Rat)(k:Int)(up:Int):Nat→Int→Sp→Option Sp
 |0,_,_=>none
 |n+1,i,o=>if i< up then(t9 f g c i p k).bind fun v=>if smS o∧smS v then rlM f g c p k up n (i+1) (j8 o v) else none else some o
def x7(p:List Rat)(s:Sp)(k:Int):Prop:=smS s∧eW p s.1∧eW p s.2∧smL p∧p.length≤274877906944∧dy s.1 s.2≤0∧cN p≤40∧smS (fM (af p s.1) k)∧smS (fM (af p s.2) k)
instance (p:List Rat) (s:Sp) (k:Int):Decidable (x7 p s k):=inferInstanceAs (Decidable (_∧_∧_∧_∧_∧_∧_∧_∧_))
def rz(f g:Nat)(p:List Rat)(s:Sp)(k:Int):Option Sp:=
 if x7 p s k then
  if cN (aN p)< 0 then some (j8 (fM (af p s.1) k) (fM (af p s.2) k))
  else(fZ f (aN p)).bind fun c=>if oe c s.1∧pW c s.2 then rlM f g c p k (bU c s.2) g (aZ c s.1) (j8 (fM (af p s.1) k) (fM (af p s.2) k)) else none
 else none
def rgS(p:List Rat)(s:Sp)(k:Int)(c:Cnt):Int×Sp→AState
 |(i,o)=>⟨[(0,.arr (pE p)),(2,i64 k),(4,bS s),(6,.lptr 1 0 0),(8,.lptr 2 0 0),(10,kA c),(11,i64 i)],[(1,some ⟨40,6,[zC++zC]⟩),(2,some ⟨40,6,[spC o.1 o.2]⟩)],3,66⟩
theorem u5(f g:Nat)(p:List Rat)(s:Sp)(k:Int)(r:Sp)(h:rz f g p s k=some r)(hf:f≤1000000):FS 139 [.arr (pE p),.agg (spC s.1 s.2),i64 k] (.tup [.agg (spC r.1 r.2),i64 0]):=by
 unfold rz at h;split at h
 case isFalse=>cases h
 case isTrue hk=>
 obtain⟨B,E,k3,F,M,H,L,D,A⟩:=hk;have K:=kL p;obtain⟨t,C⟩:∃o,o=j8 (fM (af p s.1) k) (fM (af p s.2) k):=⟨_,rfl⟩;have y:=Ar (fM (af p s.1) k).1 (fM (af p s.1) k).2 (fM (af p s.2) k).1 (fM (af p s.2) k).2 D.1 D.2 A.1 A.2;rw[←C] at h;have b:FS 171 [.agg (spC (fM (af p s.1) k).1 (fM (af p s.1) k).2),.agg (spC (fM (af p s.2) k).1 (fM (af p s.2) k).2)] (.agg (spC t.1 t.2)):=by rw[C];exact y
 refine f_c Tryz.func139 ?_;refine r_z 3 ?_;refine bv (fun _:Unit=>⟨[(0,.arr (pE p)),(2,i64 k),(4,bS s),(6,.lptr 1 0 0)],[(1,some ⟨40,6,[zC++zC]⟩)],2,66⟩) (fun _=>True) ?_ ?_;refine am (r_c 4 (lx s.1 s.2 B.1 B.2) ?_);refine a_z ?_;refine aq rfl (fun h1=>?_) (fun h1=>?_);exact absurd h1 (by simp[H]);refine r_c 4 (ew p (by omega)) ?_;refine a_z ?_;refine aq rfl (fun z=>?_) (fun z=>?_);exact absurd z (by simp;omega);refine an ⟨(),trivial,?_⟩;exact s_e [(1,6)];rintro _ _;refine ae (r_d a9 15 ?_);refine c_s (jI p s.1 E) ?_;refine c_s (Au (af p s.1) k (vg E)) ?_;refine c_s (jI p s.2 k3) ?_;refine c_s (Au (af p s.2) k (vg k3)) ?_;refine c_s (b) ?_;refine a_2 ?_;refine au (n_k ?_);refine ae (r_c 3 (rY p F (by omega)) ?_);refine a_z ?_;refine r_c 3 (ew (aN p) (by omega)) ?_;refine a_z ?_;refine aH (fun _:Unit=>⟨[(6,.lptr 1 0 0),(8,.lptr 2 0 0)],[(1,some ⟨40,6,[zC++zC]⟩),(2,some ⟨40,6,[spC r.1 r.2]⟩)],3,66⟩) (fun _=>True) ?_ ?_;refine aq rfl (fun l=>?_) (fun l=>?_)
 ·have u:¬cN (aN p)< 0:=by
   have:0≤cN (aN p):=by simpa using l
   omega
  rw[if_neg u] at h;obtain⟨c,hc,e⟩:=Option.bind_eq_some_iff.1 h;split at e
  case isFalse=>cases e
  case isTrue hb=>
  refine r_c 3 (rU f (aN p) c hc hf) ?_;refine a_z ?_;refine r_c 5 (ls c s.1 hb.1) ?_;refine a_z ?_;have G:=kZ (x:=s.2) hb.2.1;have J:=Fu (x:=s.1) hb.1.1.1;refine am (aD (fun x:Nat×Int×Sp=>rgS p s k c x.2) (fun x=>x.1) (fun x=>rlM f g c p k (bU c s.2) x.1 x.2.1 x.2.2=some r∧ -4611686018427387904≤x.2.1) (g,aZ c s.1,t) ⟨e,by simp only;omega⟩ ?_ ?_);simp only[rgS.eq_1];exact s_e [(2,8)];rintro⟨n,i,o⟩ ⟨a,j⟩;simp only at a j;simp only[rgS.eq_1];cases n with
  |zero=>cases a
  |succ n=>
   rw[rlM] at a;refine ae (r_c 6 (nS c s.2 hb.2) ?_);refine a_z ?_;refine aq rfl (fun q=>?_) (fun q=>?_)
   ·have w:i< bU c s.2:=by simpa using q
    rw[if_pos w] at a;obtain⟨v,hv,d⟩:=Option.bind_eq_some_iff.1 a;split at d
    case isFalse=>cases d
    case isTrue hsm=>
    have m:FS 171 [.agg (spC o.1 o.2),.agg (spC v.1 v.2)] (.agg (spC (j8 o v).1 (j8 o v).2)):=Ar o.1 o.2 v.1 v.2 hsm.1.1 hsm.1.2 hsm.2.1 hsm.2.2;refine an (ae (am (r_z 5 ?_)));refine AWp.ent (st':=⟨[(0,.arr (pE p)),(2,i64 k),(4,bS s),(6,.lptr 1 0 0),(8,.lptr 2 0 0),(10,kA c),(11,i64 i),(12,plA c i)],[(1,some ⟨40,6,[zC++zC]⟩),(2,some ⟨40,6,[spC o.1 o.2]⟩)],3,66⟩) ?_ ?_;refine s_x [] (fun hs=>?_) (fun hs=>?_)
    ·repeat' (first|exact aS|refine az rfl ?_ ?_|exact Cv.boxp hs rfl (aQ rfl) rfl (ac (ig c) (ac (ah _) ag))|exact bh)
    ·repeat' (first|exact aI|refine h_c ?_ ?_|exact cj|refine aG ?_|exact aw|refine ai ?_ ?_|exact Cv.boxp hs rfl (aQ rfl) rfl (ac (ig c) (ac (ah _) ag))|exact bh)
    refine r_d a9 7 ?_;refine c_s (GX f g c i p k v hv hf) ?_;refine c_s (m) ?_;refine a_1 ?_;refine au (n_k ?_);refine r_m 3 ?_;refine a_z ?_;refine⟨(n,i+1,j8 o v),Nat.lt_succ_self n,⟨d,by simp only;omega⟩,?_⟩;simp only[rgS.eq_1];exact s_e []
   have w:¬i< bU c s.2:=by simpa using q
   rw[if_neg w] at a;cases a;refine aA ⟨(),trivial,?_⟩;exact s_e []
 have u:cN (aN p)< 0:=by
  have:¬0≤cN (aN p):=by simpa using l
  omega
 rw[if_pos u] at h;cases h;refine an ⟨(),trivial,?_⟩;exact s_e [(2,8)];rintro _ _;refine r_z 3 ?_;refine ak (Fin.many ⟨_,_,rfl,⟨_,_,_,_,_,rfl,rfl,rfl,.inl ⟨TG.h,_,TS.h,nle rfl,rfl⟩⟩,⟨_,_,rfl,rfl,rfl⟩⟩ (nle rfl) ?_);exact ai (ao ay (bG _ _)) (ai (ao ay (ah _)) aw)
theorem sgn_up{c:Cnt}{i:Int}{q:List Rat}{M M':Rat}(h:M≤M')(hn:¬Sgn c i (ci q (b6 M)) 1):¬Sgn c i (ci q (b6 M')) 1:=by
 rintro⟨x,y,a,b,e⟩
 have j:0< af (ci q (b6 M')) x:=by
  rcases bK x (ci q (b6 M')) with⟨_,g⟩|⟨g,_⟩|⟨g,_⟩
  exact g;omega;omega
 obtain⟨ε,e0,he⟩:=b.pos (show x≤x by grind) a.1 j;refine hn ⟨x,y,a,⟨ε,e0,fun z f d=>kO (.inl ?_) (by grind)⟩,fX ?_⟩;have:=he z f d;rw[eI] at *;grind;rw[eI] at *;grind
theorem sgn_lo{c:Cnt}{i:Int}{q:List Rat}{M M':Rat}(h:M'≤M)(hn:¬Sgn c i (ci q (b6 M)) (-1)):¬Sgn c i (ci q (b6 M')) (-1):=by
 rintro⟨x,y,a,b,e⟩
 have j:af (ci q (b6 M')) x< 0:=by
  rcases bK x (ci q (b6 M')) with⟨g,_⟩|⟨_,g⟩|⟨g,_⟩
  omega;exact g;omega
 obtain⟨ε,e0,he⟩:=b.neg (show x≤x by grind) a.1 j;refine hn ⟨x,y,a,⟨ε,e0,fun z f d=>kO (.inr ?_) (by grind)⟩,jb ?_⟩;have:=he z f d;rw[eI] at *;grind;rw[eI] at *;grind
theorem uT(a b:Sp){M:Nat}(h1:qs a.1≤M)(h2:qs a.2≤M)(h3:qs b.1≤M)(h4:qs b.2≤M):(j8 a b).1≤a.1∧(j8 a b).1≤b.1∧a.2≤(j8 a b).2∧b.2≤(j8 a b).2∧qs (j8 a b).1≤M∧qs (j8 a b).2≤M:=by
 refine⟨yd a.1 (by simp),yd b.1 (by simp),yg a.2 (by simp),yg b.2 (by simp),?_,?_⟩;have:=i9 (fun c=>decide (c< 0)) (l:=[a.1,b.1]) (by simp);show qs (eN [a.1,b.1])≤M;unfold eN;simp only[List.mem_cons,List.not_mem_nil,or_false] at this;rcases this with e|e <;> rw[e]<;> assumption
 have:=i9 (fun c=>decide (0< c)) (l:=[a.2,b.2]) (by simp);show qs (dH [a.2,b.2])≤M;unfold dH;grind
theorem FE{f N h Q:Nat}{p:List Rat}{c:Cnt}(H:CG f N h Q p c)(x:Rat):bU c x≤Ih c:=by
 unfold Ih;by_cases g:x≤cf c.p;exact gt H.hc H.np g;obtain⟨d,_⟩:=H.sq;have e:Far c.p (cf c.p) x:=⟨ab (aF c.p),C9 (cY d),fun z a _=>vI d a⟩;obtain⟨b,_⟩:=jP H.hc H.np;have:=(gD H.hc H.np (show cf c.p≤x by grind)).2 (SF.far _ p c.p (Nat.le_refl _) H.np b _ _ e);have:=(e9 (c:=c) H.hc H.np (cf c.p)).1;omega
theorem Bc{f N h Q:Nat}{p:List Rat}{c:Cnt}(H:CG f N h Q p c)(x:Rat):0≤aZ c x:=by
 obtain⟨_,_,_,_,b,a⟩:=iB H.hc H.np
 obtain⟨w,d,e⟩:∃w,w< x∧w≤ -cf c.p:=by
  by_cases g: -cf c.p< x;exact⟨-cf c.p,g,by grind⟩;exact⟨x- 1,by grind,by grind⟩
 have:=eQ H.hc H.np d;grind
structure RB (f N h Q r g kk J J2 J3:Nat):Prop where
 c1:∃X T,cH f N (h+5) X T Q=true
 N1:1≤N
 N12:N≤12
 h1:1≤h
 hJ:jB N (h+5+12* N+8) (h+5+12* N+13) r J=true
 gJ:J< g
 QJ:r+J+4≤Q
 S:SB f N (h+5) Q r g (h+5+(h+5+(r+2) * 24+2)+kk+3) J2
 j3:h+5+(r+3) * 24+kk+1≤J3
 g3:J3< g
 Q3:r+J3+4≤Q
 lim:h+5+24* (r+J3+2+(h+5)+1)+(r+J3+2)≤60000000000
 k3:kk≤256
 rw_:(r+2) * 24≤100000
 hb:2* (h+5+12* N+8)+10≤Q
 hb2:h+5≤10000000
 hf:2* (h+5+12* N+8)+6≤f
 gg:549755813890≤g
section
variable {f N h Q r g J J2 J3:Nat}{k:Int}(B:RB f N h Q r g (wi k 256) J J2 J3){p:List Rat}{K:Rat}(hpl:p.length≤24)(lp:(aj p).length≤N)(bp:bdL p h)(Hp:HS p K h){lo hi:Rat}(hlh:lo≤hi)(hlo:ab lo≤p2 r)(hhi:ab hi≤p2 r)
include B hpl lp bp Hp hlh hlo hhi
theorem Dy{c:Cnt}(C:CG f N (h+5) Q (aN p) c){M:Nat}(hM:h+5+(r+2) * 24+2* wi k 256+4≤M)(hM2:M≤137438953472):∀(n m:Nat) (i:Int) (o:Sp),n< m→bU c hi- i≤(n:Int)→aZ c lo≤i→qs o.1≤M→qs o.2≤M→
    ∃v:Sp,rlM f g c p k (bU c hi) m i o=some v∧v.1≤o.1∧o.2≤v.2∧qs v.1≤M∧qs v.2≤M∧∀j,i≤j→j< bU c hi→¬Sgn c j (ci p (b6 v.2)) 1∧¬Sgn c j (ci p (b6 v.1)) (-1)
 |_,0,_,_,hm,_,_,_,_=>by omega
 |n,m+1,i,o,hm,hn,hi0,o1,o2=>by
  rw[rlM];by_cases g0:i< bU c hi;rotate_left;rw[if_neg g0];exact⟨o,rfl,Rat.le_refl,Rat.le_refl,o1,o2,fun j a b=>by omega⟩;rw[if_pos g0];have R:RC f N (h+5) Q r J (aN p) c i lo hi:=⟨C,by omega,B.N12,B.hJ,⟨hlh,hi0,g0⟩,hlo,hhi,by have:=Bc C lo;omega,by have:=FE C hi;omega,B.QJ,B.hb,B.hb2,B.hf⟩;have t:HS p K (h+5):=⟨Hp.ne,Hp.sc.mono (by omega),fun i=>(Hp.co i).mono (by omega)⟩;obtain⟨v,v1,v2,l,y,H⟩:=R.value (q:=p) (k:=k) hpl lp B.N1 (fun x T=>Nat.le_trans (bp x T) (by omega)) (by omega) t B.S B.gJ B.j3 B.g3 B.Q3 B.lim B.k3 B.rw_;rw[v1,Option.bind_some,if_pos ⟨⟨Nat.le_trans o1 hM2,Nat.le_trans o2 hM2⟩,⟨Nat.le_trans v2 (by omega),Nat.le_trans l (by omega)⟩⟩];obtain⟨h1,E,D,L,A,G⟩:=uT o v o1 o2 (Nat.le_trans v2 hM) (Nat.le_trans l hM);cases n with
  |zero=>omega
  |succ n=>
  obtain⟨w,u,s,d,O,z,F⟩:=Dy C hM hM2 n m (i+1) (j8 o v) (by omega) (by omega) (by omega) A G;refine⟨w,u,Rat.le_trans s h1,Rat.le_trans D d,O,z,fun j a b=>?_⟩;by_cases e:j=i;rw[e];exact⟨sgn_up (Rat.le_trans L d) y,sgn_lo (Rat.le_trans s E) H⟩;exact F j (by omega) b
omit B hpl lp bp Hp hlh hlo hhi in
theorem AL(p:List Rat)(m x:Rat):dvE (ci p (b6 m)) x=dvE p x:=by
 have e:=qP (p:=ci p (b6 m)) (q:=ku p (eU [m] (-1))) (fun x=>by rw[dF,kK,fG,dT,aE,aM];grind) x;rw[e,qQ,iV,show dvE [m] x=0 from by show af [] x+dvE [] x* x=0;rw[aM,show dvE [] x=0 from rfl];grind];grind
omit B hpl lp bp Hp hlh hlo hhi in
theorem sgn_neg{c:Cnt}{i:Int}{q:List Rat}(hn:¬Sgn c i q (-1)):¬Sgn c i (aL q (-1)) 1:=by
 rintro⟨x,y,a,b,e⟩
 have d:0< af (aL q (-1)) x:=by
  rcases bK x (aL q (-1)) with⟨_,g⟩|⟨g,_⟩|⟨g,_⟩
  exact g;omega;omega
 obtain⟨ε,e0,he⟩:=b.pos (show x≤x by grind) a.1 d;refine hn ⟨x,y,a,⟨ε,e0,fun z h f=>kO (.inr ?_) (by grind)⟩,jb ?_⟩;have:=he z h f;rw[aR] at this;grind;rw[aR] at d;grind
omit B hpl lp bp Hp hlh hlo hhi in
theorem sS(a:Rat):(fM a k).1≤a∧a≤(fM a k).2∧qs (fM a k).1≤qs a+2* wi k 256+4∧qs (fM a k).2≤qs a+2* wi k 256+4:=by
 unfold fM;generalize wi k 256=c
 have d:∀b:Rat,qs (fb b c)≤qs b+2* c+4:=fun b=>by
  unfold fb;have h1:=dh ((b* jE c).floor:Rat) (cV c);have e:=pP (b* jE c);have h:=dh b (jE c);have g:=tn c;have f:=pQ c;omega
 have up:upQ a c= -fb (-a) c:=by
  unfold upQ fb qY;rw[show -a* jE c= -(a* jE c) by grind];grind
 obtain⟨_,_,d1,_⟩:=nP a c;obtain⟨_,_,d2,_⟩:=nP (-a) c;refine⟨d1,by show a≤upQ a c;rw[up];grind,d a,?_⟩;show qs (upQ a c)≤_;rw[up,fj];have:=d (-a);rw[fj] at this;exact this
theorem BT{t M:Nat}(ht1:qs lo≤t)(ht2:qs hi≤t)(htQ:t≤Q)(hM1:26* (h+t+1)+2* wi k 256+8≤M)(hM:h+5+(r+2) * 24+2* wi k 256+4≤M)(hM2:M≤137438953472):
    ∃v:Sp,rz f g p (lo,hi) k=some v∧qs v.1≤M∧qs v.2≤M∧∀x,lo≤x→x≤hi→v.1≤af p x∧af p x≤v.2:=by
 have ev:∀x,qs x≤t→qs (af p x)≤24* (h+t+1)+1:=fun x K=>by
  have:=nf K bp;have:=Nat.mul_le_mul_right (h+t+1) hpl;omega
 have a:∀x,qs x≤t→eW p x:=fun x K=>by
  have Y:=dw bp B.h1;have u:=Nat.mul_le_mul hpl (show mxL p+qs x+1≤h+t+1 by omega);exact⟨by omega,by omega⟩
 have e1:=ev lo ht1;have e2:=ev hi ht2;obtain⟨L,D,R,O⟩:=sS (k:=k) (af p lo);obtain⟨b1,b2,b3,U⟩:=sS (k:=k) (af p hi);obtain⟨h1,l,s,W,n,E⟩:=uT (fM (af p lo) k) (fM (af p hi) k) (M:=M) (by omega) (by omega) (by omega) (by omega);have S:=bJ p;have b:cN p≤40:=by unfold cN;omega
 unfold rz;rw[if_pos (show x7 p (lo,hi) k from⟨⟨by show qs lo≤_;omega,by show qs hi≤_;omega⟩,a lo ht1,a hi ht2,eH bp (by omega),by omega,cmpQ_le.2 hlh,b,⟨Nat.le_trans R (by omega),Nat.le_trans O (by omega)⟩,⟨Nat.le_trans b3 (by omega),Nat.le_trans U (by omega)⟩⟩)];by_cases hd:nz (aN p);rotate_left;rw[if_pos (by have:=degP_nil.2 hd;omega)];refine⟨_,rfl,n,E,fun x _ _=>?_⟩
 have hc:af p x=af p lo:=by
  by_cases np:nz p;by_cases h0:dg p=0;obtain⟨γ,_,w⟩:=o9 np h0;rw[w,w];exact absurd (sj h0 np).1 hd;rw[gL np,gL np]
 rw[hc];exact⟨Rat.le_trans h1 L,Rat.le_trans D s⟩;rw[if_neg (by rw[yT hd];omega)];obtain⟨X,T,m⟩:=B.c1
 have np:nz p:=fun e=>hd (by
  have:aN p=aN (aj p):=by
   have h1:aj (aN p)=aN p:=cn _;have l:aj (aN (aj p))=aN (aj p):=cn _;rw[←h1,←l];exact jV fun i=>by rw[ed,ed,b9]
  rw[this,e];rfl)
 have Z:=nZ np;have j:aj (aN p)=aN p:=cn _;have H:=B.N12;have G:=me (by omega) bp B.h1 Hp.ht;obtain⟨c,C⟩:=CG.ex m hd (by rw[j];omega) (by omega) G.1 G.2;rw[C.hc,Option.bind_some,if_pos ⟨(C.ok lo (by omega)).2,(C.ok hi (by omega)).1⟩];have ub:=kZ (c:=c) (x:=hi) (C.ok lo (by omega)).1.1;have bn:=Bc C lo;have hg:=B.gg;obtain⟨v,v1,v2,y,N,V,o⟩:=Dy B hpl lp bp Hp hlh hlo hhi C hM hM2 ((bU c hi- aZ c lo).toNat) g (aZ c lo) (j8 (fM (af p lo) k) (fM (af p hi) k)) (by omega) (by omega) (Int.le_refl _) n E;refine⟨v,v1,N,V,fun x J F=>⟨?_,?_⟩⟩
 have:=zL (q:=aL (ci p (b6 v.1)) (-1)) (d:=aN p) (σ:= -1) C.hc hd (.inr rfl) (fun z=>by
  rw[w9 (p:=ci p (b6 v.1)) (k:= -1) fun x=>aR _ _ x,AL,bR];grind) (A:=lo) (B:=hi) (by rw[aR,eI];have:=Rat.le_trans v2 (Rat.le_trans h1 L);grind) (by rw[aR,eI];have:=Rat.le_trans v2 (Rat.le_trans l b1);grind) (fun i i1 i2=>sgn_neg (o i i1 i2).2) x J F
 rw[aR,eI] at this;grind
 have:=zL (q:=ci p (b6 v.2)) (d:=aN p) (σ:=1) C.hc hd (.inl rfl) (fun z=>by
  rw[AL,bR];grind) (A:=lo) (B:=hi) (by rw[eI];have:=Rat.le_trans D (Rat.le_trans s y);grind) (by rw[eI];have:=Rat.le_trans b2 (Rat.le_trans W y);grind) (fun i i1 i2=>(o i i1 i2).1) x J F
 rw[eI] at this;grind
end
theorem rb_c1:cH 20000 9 2005 4000000 9000000000 100000000=true:=by decide+kernel
theorem rb_cd:cH 20000 9 2237 4000000 9000000000 100000000=true:=by decide+kernel
theorem rb_cq:cH 20000 9 4601 8000000 9000000000 100000000=true:=by decide+kernel
theorem rb_J:jB 9 2121 2126 22 13000000=true:=by decide+kernel
theorem rb_J2:jB 9 2237 4601 22 22000000=true:=by decide+kernel
theorem rb_g:((List.range 10).all fun m=>(List.range 10).all fun n=>hG 20000 m n 2121 4601 30000000)=true:=by decide+kernel
theorem rb:RB 20000 9 2000 100000000 22 1000000000000 10 13000000 22000000 3000 where
 c1:=⟨_,_,rb_c1⟩
 N1:=by decide
 N12:=by decide
 h1:=by decide
 hJ:=rb_J
 gJ:=by decide
 QJ:=by decide
 S:={hq1:=by decide,gcd:=⟨_,by decide,rb_g⟩,cd:=⟨_,_,rb_cd⟩,cq:=⟨_,_,rb_cq⟩,hJ2:=rb_J2,hg:=by decide,hQ2:=by decide,ev:=by decide}
 j3:=by decide
 g3:=by decide
 Q3:=by decide
 lim:=by decide
 k3:=by decide
 rw_:=by decide
 hb:=by decide
 hb2:=by decide
 hf:=by decide
 gg:=by decide
theorem Fc{p:List Rat}{K:Rat}(hpl:p.length≤24)(lp:(aj p).length≤9)(bp:bdL p 2000)(Hp:HS p K 2000){lo hi:Rat}(hlh:lo≤hi)(hlo:ab lo≤p2 22)(hhi:ab hi≤p2 22)(ht1:qs lo≤1000)(ht2:qs hi≤1000):
    ∃v:Sp,FS 139 [.arr (pE p),.agg (spC lo hi),i64 10] (.tup [.agg (spC v.1 v.2),i64 0])∧qs v.1≤100000∧qs v.2≤100000∧∀x,lo≤x→x≤hi→v.1≤af p x∧af p x≤v.2:=by
 have a:wi 10 256=10:=by decide
 have B:RB 20000 9 2000 100000000 22 1000000000000 (wi 10 256) 13000000 22000000 3000:=by rw[a];exact rb
 obtain⟨v,v1,v2,c,b⟩:=BT B hpl lp bp Hp hlh hlo hhi (t:=1000) (M:=100000) ht1 ht2 (by decide) (by rw[a];decide) (by rw[a];decide) (by decide);exact⟨v,u5 _ _ p (lo,hi) 10 v v1 (by decide),v2,c,b⟩
theorem nT(p q:List Rat)(o:fl p q):FS 13 [.arr (pE p),.arr (pE q)] (.arr (pE (aJ p q))):=
 Hm p q (mxL p) (mxL q) (fa p) (fa q) (ff p) (ff q) o.1 o.2.1 o.2.2.1 o.2.2.2
theorem du{a b:List AV}(ha:∀c∈a,Closed c)(hb:∀c∈b,Closed c):∀c∈a++b,Closed c:=fun c hc=>(List.mem_append.1 hc).elim (ha c) (hb c)
theorem fs_SNeg(a b:Rat):FS 177 [.agg (spC a b)] (.agg (spC (-b) (-a))):=by
 refine f_c Tryz.func177 ?_;refine r_z 2 ?_;refine ae (r_d a9 8 ?_);refine c_s (m7 b) ?_;refine c_s (m7 a) ?_;refine a_2 ?_;refine au (n_k ?_);exact ak (c_e (bG _ _))
def absL(v:Sp):Rat:=if 0≤v.1 then v.1 else if v.2≤0 then -v.2 else 0
theorem sg_ge{q:Rat}:(0:Int)≤sgZ q.num↔0≤q:=by
 have h:=sgZ_num_lt (q:=q);constructor;intro g;have:¬q< 0:=fun e=>by have:=h.2 e;omega
 grind;intro g;have:¬sgZ q.num< 0:=fun e=>by have:=h.1 e;grind
 omega
theorem sg_le{q:Rat}:sgZ q.num≤(0:Int)↔q≤0:=by
 have h:=sgZ_num_gt (q:=q);constructor;intro g;have:¬0< q:=fun e=>by have:=h.2 e;omega
 grind;intro g;have:¬0< sgZ q.num:=fun e=>by have:=h.1 e;grind
 omega
theorem D0(v:Sp)(h1:sm v.1)(h2:sm v.2):FS 140 [.agg (spC v.1 v.2)] (.agg (spC (absL v) (sH v))):=by
 have hc:∀c∈spC v.1 v.2,Closed c:=bc _ _;refine f_c Tryz.func140 ?_;refine r_z 2 ?_;refine ae (am ?_);by_cases g1:0≤v.1;rw[show absL v=v.1 from if_pos g1,show sH v=v.2 from if_pos g1];refine r_c 5 (cu v.1) ?_;refine o_0 (.bin rfl rfl (vT ju (decide_eq_true (sg_ge.2 g1)))) ?_;refine a_z ?_;refine cT (r_z 2 ?_);exact ak (c_e (bG _ _));refine r_c 5 (cu v.1) ?_;refine o_0 (.bin rfl rfl (vF ju (decide_eq_false (fun e=>g1 (sg_ge.1 e))))) ?_;refine a_z ?_;refine cF ?_;by_cases g2:v.2≤0;rw[show absL v= -v.2 from(if_neg g1).trans (if_pos g2),show sH v= -v.1 from(if_neg g1).trans (if_pos g2)];refine r_c 5 (cu v.2) ?_;refine o_0 (.bin rfl rfl (vT dC (decide_eq_true (sg_le.2 g2)))) ?_;refine a_z ?_;refine cT (r_c 3 (fs_SNeg v.1 v.2) ?_);refine a_z ?_;exact ak (c_e (bG _ _));rw[show absL v=0 from(if_neg g1).trans (if_neg g2),show sH v=dH [-v.1,v.2] from(if_neg g1).trans (if_neg g2)];refine r_c 5 (cu v.2) ?_;refine o_0 (.bin rfl rfl (vF dC (decide_eq_false (fun e=>g2 (sg_le.1 e))))) ?_;refine a_z ?_;refine cF (an ?_);have a:=rX [-v.1,v.2] (lT (by unfold sm;rw[fj];exact h1) h2) (by simp);refine ae (r_d a9 10 ?_);refine c_s (m7 v.1) ?_;refine a_3 ?_;refine o_1 (.callS1 rfl rfl rfl (.shut rfl d_n (.nil)) rfl (a)) ?_;refine a_2 ?_;refine au (n_k ?_);refine ak ?_;rw[show spC 0 (dH [-v.1,v.2])=[.arr [],bln false,.arr []]++qC (dH [-v.1,v.2]) from by unfold spC;rw[qC0]];refine Fin.cell rfl rfl rfl TG.h TS.h (nle rfl) ?_
 exact Cv.agg (ai (Cv.emp _) (ai (ao ay (ah _)) (ai (Cv.emp _) (CvL.clo ay (a7 _)))))
abbrev prC(p:List Rat×List Rat):List AV:=[.arr (pE p.1),.arr (pE p.2)]
def kE(k:Ke):List (List AV):=k.map prC
@[simp] theorem dX (k:Ke):(kE k).length=k.length:=by simp[kE]
theorem gV(p:List Rat×List Rat):∀c∈prC p,Closed c:=ac (aC _) (ac (aC _) ag)
theorem ez(k:Ke):∀x∈kE k,∀c∈x,Closed c:=fun x a=>by
 obtain⟨p,_,rfl⟩:=List.mem_map.1 a;exact gV p
theorem aX(k:Ke):Closed (.arr (kE k)):=aK (ez k)
theorem j6{k:Ke}{i:Nat}{p:List Rat×List Rat}(h:k[i]?=some p):∀e,e=i→(kE k)[e]?=some (prC p):=fun e a=>by
 rw[a,kE,List.getElem?_map,h];rfl
def C3(p:List Rat×List Rat):Bool:=decide (12< if cN p.2> cN p.1 then cN p.2 else cN p.1)
theorem Fh(p:List Rat×List Rat)(h1:p.1.length≤1099511627776)(h2:p.2.length≤1099511627776):FS 167 [.agg (prC p)] (bln (C3 p)):=by
 refine f_n Tryz.func167 ?_ ?_;exact ac (aB (gV p)) ag;refine r_z 2 ?_;refine ae (r_d a9 9 ?_);refine c_s (ew p.1 h1) ?_;refine c_s (ew p.2 h2) ?_;refine a_3 ?_;refine au (n_k ?_);exact ak (t_e (ah _))
def j7{α:Type}(t:α→Bool):List α→Int→Int
 |[],_=> -1
 |a::l,i=>if t a then i else j7 t l (i+1)
theorem qo{α:Type}(t:α→Bool):∀(l:List α) (i:Int),0≤i→(decide (0≤j7 t l i))=l.any t
 |[],i,_=>by simp[j7]
 |a::l,i,hi=>by
  unfold j7;cases h:t a with
  |true=>simp[h,hi]
  |false=>simp[h];rw[←qo t l (i+1) (by omega)]
theorem yN{α:Type}{l:List α}{i:Nat}{a:α}(h:l[i]?=some a):l.drop i=a::l.drop (i+1):=by
 obtain⟨h1,b⟩:=List.getElem?_eq_some_iff.1 h;rw[←b];exact List.drop_eq_getElem_cons h1
def ikS(k:Ke)(g:Nat)(cap:List AV):Nat→AState
 |i=>⟨[(0,.arr (kE k)),(1,.clos g [] cap),(7,i64 k.length),(8,i64 i)],[],1,19⟩
theorem Fe(k:Ke)(g:Nat)(cap:List AV)(t:List Rat×List Rat→Bool)(hcap:∀c∈cap,Closed c)(hl:k.length≤1099511627776)(hg:∀p∈k,FS g ((.agg (prC p)::cap).map coe) (bln (t p))):FS 196 [.arr (kE k),.clos g [] cap] (i64 (j7 t k 0)):=by
 have e:Closed (.clos g [] cap):=aU ag hcap;have j:(kE k).length=k.length:=dX k;refine f_n Tryz.func196 ?_ ?_;exact ac (aX k) (ac e ag);obtain⟨R,h⟩:∃R,R=j7 t k 0:=⟨_,rfl⟩;rw[←h];refine r_z 1 ?_;refine ae (r_z 3 ?_);refine aH (fun _:Unit=>⟨[],[],1,19⟩) (fun _=>R= -1) ?_ ?_;refine am (aD (ikS k g cap) (fun i=>k.length- i) (fun i=>i≤k.length∧j7 t (k.drop i) i=R) 0 ⟨Nat.zero_le _,by rw[h];rfl⟩ ?_ ?_);simp only[ikS.eq_1];exact s_x [] (fun hs=>e_29) (fun hs=>e_30);rintro i ⟨l,a⟩;rw[ikS.eq_1];by_cases hlt:i< k.length;refine q_z 1 ?_;refine ae (cT (an ?_));obtain⟨p,hp⟩:∃p,k[i]?=some p:=⟨_,List.getElem?_eq_getElem hlt⟩;have b:(kE k)[((i:Nat):Int).toNat]?=some (prC p):=j6 hp _ (by simp);rw[yN hp,j7] at a;refine ae (am (r_z 2 ?_));refine s_r 6 ?_;refine a_3 ?_;refine i_x b ?_;refine l_x b ?_;refine c_s (hg p (List.mem_of_getElem? hp)) ?_;refine au ?_;refine aq rfl (fun h1=>?_) (fun h1=>?_);have d:t p=true:=h1;rw[if_pos d] at a;refine r_z 2 ?_;refine ak (aY rfl ?_ ?_);rw[←a];exact ah _;have d:¬t p=true:=by rw[show t p=false from h1];decide
 rw[if_neg d] at a;refine an (r_m 2 ?_);refine a_z ?_;refine⟨i+1,by omega,⟨hlt,a⟩,?_⟩;simp only[ikS.eq_1];exact s_x [] (fun hs=>e_29) (fun hs=>e_30);have f:i=k.length:=by omega
 subst f;refine q_z 1 ?_;refine ae (cF ?_);rw[List.drop_length] at a;refine aA ⟨(),a.symm,?_⟩;exact s_e [];rintro _ a;refine r_z 1 ?_;refine ak (aY rfl ?_ ?_);rw[a];rfl;exact ah _
theorem yC(k:Ke)(g:Nat)(cap:List AV)(t:List Rat×List Rat→Bool)(hcap:∀c∈cap,Closed c)(hl:k.length≤1099511627776)(hg:∀p∈k,FS g ((.agg (prC p)::cap).map coe) (bln (t p)))(hcap2:cap.map coe=cap):FS 166 [.arr (kE k),.clos g [] cap] (bln (k.any t)):=by
 have a:Closed (.clos g [] cap):=aU ag hcap;have e:=qo t k 0 (Int.le_refl 0);have b:=Fe k g cap t hcap hl hg;refine f_n Tryz.func166 ?_ ?_;exact ac (aX k) (ac a ag);refine r_z 1 ?_;refine r_c 5 (b) ?_;refine a_z ?_;refine ak (aY rfl ?_ ?_);rw[←e];rfl;exact ah _
def pZ(k:Ke):Prop:=k.length≤8∧k.any C3=false∧∀p∈k,p.1.length≤1099511627776∧p.2.length≤1099511627776
theorem CD(k:Ke)(h:pZ k):FS 136 [.arr (kE k)] (i64 0):=by
 have a:(kE k).length=k.length:=dX k;have hc:=yC k 167 [] C3 ag (by have:=h.1;omega) (fun p hp=>Fh p (h.2.2 p hp).1 (h.2.2 p hp).2) rfl;rw[h.2.1] at hc;have b:=h.1;refine f_n Tryz.func136 ?_ ?_;exact ac (aX k) ag;refine r_z 1 ?_;refine ae (q_c 7 (hc) ?_);refine a_z ?_;refine cF (an (r_z 1 ?_));exact ak (t_e (ah _))
theorem wP(k:Ke)(a b:Rat)(h:pZ k)(ha:sm a)(hb:sm b)(hab:a≤b):FS 85 [.arr (kE k),.agg (spC a b)] (bln false):=by
 have h1:=CD k h;have c:=lx a b ha hb;rw[decide_eq_true (cmpQ_le.2 hab)] at c;refine f_n Tryz.func85 ?_ ?_;exact ac (aX k) (ac (bG _ _) ag);refine r_z 2 ?_;refine r_c 9 (h1) ?_;refine o_0 (.bin rfl rfl (vF eE (rfl))) ?_;refine c_s (c) ?_;refine a_z ?_;exact ak (t_e (ah _))
abbrev eqC(k:Ke)(l:Rat)(g:List Rat):List AV:= .arr (kE k)::(qC l++[.arr (pE g)])
theorem cy(k:Ke)(l:Rat)(g:List Rat):∀c∈eqC k l g,Closed c:=ac (aX k) fun c hc=>(List.mem_append.1 hc).elim (a7 l c) (ac (aC g) ag c)
theorem jH(k:Ke)(l:Rat)(g:List Rat)(a b:Rat)(h:pZ k)(ha:sm a)(hb:sm b)(hab:a≤b)(hg:cN g≤20)(hgl:g.length≤1099511627776):FS 42 [.agg (eqC k l g++spC a b)] (bln false):=by
 have h1:=wP k a b h ha hb hab;have d:=ew g hgl;have e:∀c∈eqC k l g++spC a b,Closed c:=fun c hc=>(List.mem_append.1 hc).elim (cy k l g c) (bc a b c);refine f_c Tryz.func42 ?_;refine r_z 2 ?_;refine r_c 14 (h1) ?_;refine c_s (d) ?_;refine d_z ?_;exact ak (t_e (ah _))
theorem qE(a b:Rat)(hb:b≠0)(h:qs a+qs b≤549755813888):FS 58 [.agg (qC a),.agg (qC b)] (.agg (qC (a/ b))):=by
 refine f_c Tryz.func58 ?_;refine r_z 3 ?_;refine r_c 9 (Cw a b hb h) ?_;refine a_z ?_;refine r_z 2 ?_;exact ak (c_e (aP _))
theorem fs_cut(p:List Rat)(n:Nat)(hp:p.length≤1099511627776)(hn:n≤1000000):FS 44 [.arr (pE p),i64 n] (.arr (pE (CS p n))):=by
 have c:(pE p).length=p.length:=by simp[pE]
 obtain⟨m,b⟩:∃m,m=min p.length (n+1):=⟨_,rfl⟩
 have ht:p.take m=p.take (n+1):=by
  rw[b];by_cases g:p.length≤n+1;rw[Nat.min_eq_left g,List.take_of_length_le (Nat.le_refl _),List.take_of_length_le g];rw[Nat.min_eq_right (by omega)]
 have e:(pE p).take m=pE (p.take (n+1)):=by rw[←ht];simp[pE,List.map_take]
 have a:=eo (p.take (n+1)) (by rw[List.length_take];omega);refine f_c Tryz.func44 ?_;refine r_z 1 ?_;refine s_r 9 ?_;refine a_6 ?_;refine o_0 (.sa_hE (h:=m) e rfl rfl (by rw[b];split <;> omega) (by omega) te_36.h (lW _)) ?_;refine c_s (a) ?_;refine a_z ?_;exact ak (t_e (aC _))
theorem smL_one{v:Rat}(h:sm v):smL [v]:=fun x a=>by rw[List.mem_singleton.1 a];exact h
def upS(k:Ke)(a:Rat)(u:List Rat):Nat×List Rat→AState
 |(i,o)=>⟨[(2,.arr (pE u)),(4,.lptr 1 0 0),(7,.arr (pE o)),(11,.arr (kE k)),(12,i64 k.length),(13,i64 i)],[(1,some ⟨34,3,[qC a]⟩)],2,35⟩
theorem Ah(k:Ke)(a:Rat)(u:List Rat)(h:pV k a u)(hl:k.length≤1000):FS 45 [.arr (kE k),.agg (qC a),.arr (pE u)] (.arr (pE (upK k a u))):=by
 have m:(kE k).length=k.length:=dX k;refine f_n Tryz.func45 ?_ ?_;exact ac (aX k) (ac (aP a) (ac (aC u) ag));refine r_z 2 ?_;refine r_z 1 ?_;refine ae (r_z 3 ?_);refine aH (fun _:Unit=>⟨[(7,.arr (pE (upK k a u)))],[],1,35⟩) (fun _=>True) ?_ ?_;refine am (aD (upS k a u) (fun x=>k.length- x.1) (fun x=>x.1≤k.length∧x.2=upL a u (k.take x.1) []) (0,[]) ⟨Nat.zero_le _,rfl⟩ ?_ ?_);simp only[upS.eq_1];exact s_x [(1,4)] (fun hs=>e_31) (fun hs=>e_32);rintro⟨i,o⟩ ⟨n,c⟩;simp only at n c;rw[upS.eq_1];by_cases hlt:i< k.length;obtain⟨p,hp⟩:∃p,k[i]?=some p:=⟨_,List.getElem?_eq_getElem hlt⟩;have b:(kE k)[((i:Nat):Int).toNat]?=some (prC p):=j6 hp _ (by simp);have ok:=h i p hp;rw[←c] at ok;have h1:=nT p.2 u ok.m1;have g:=m9 (aJ p.2 u) (mT ok.m1) ok.i1;have f:=jI (ax (aJ p.2 u)) a ok.e1;have l:=yx (ax (aJ p.2 u)) [af (ax (aJ p.2 u)) a] ok.i2 (smL_one (vg ok.e1)) ok.l1 (by simp);have e:=nT p.1 _ ok.m2;have j:=pj o _ ok.o1 (mT ok.m2) ok.o2 ok.l2;refine q_z 1 ?_;refine ae (cT (an (ae (am (s_r 4 ?_)))));refine i_x b ?_;refine l_x b ?_;refine a_z ?_;refine r_c 6 (h1) ?_;refine c_s (g) ?_;refine a_z ?_;refine r_d a9 12 ?_;refine c_s (f) ?_;refine a_1 ?_;refine o_1 (.callS1 rfl rfl rfl (.keep (.shut rfl d_n (.nil))) rfl (l)) ?_;refine c_s (e) ?_;refine c_s (j) ?_;refine a_1 ?_;refine au (n_k ?_);refine r_m 2 ?_;refine a_z ?_;refine⟨(i+1,upF a u o p),by simp only;omega,⟨hlt,by simp only;rw[dp hp,zi,←c]⟩,?_⟩;simp only[upS.eq_1];unfold upF;exact s_x [] (fun hs=>e_31) (fun hs=>e_32)
 have d:i=k.length:=by omega
 subst d;refine q_z 1 ?_;refine ae (cF ?_);rw[List.take_length] at c;refine aA ⟨(),trivial,?_⟩;unfold upK;rw[←c];exact s_e [];rintro _ _;refine r_z 2 ?_;exact ak (t_e (aC _))
theorem E1(a:Rat)(p:List Rat×List Rat)(h1:gT [a,1] p.1∧p.1.length≤274877906944)(h2:gT [a,1] p.2∧p.2.length≤274877906944):FS 108 [.agg (prC p),bQ a] (.agg (prC (b7 [a,1] p.1,b7 [a,1] p.2))):=by
 have b:=lu p.1 a h1.1 h1.2;have c:=lu p.2 a h2.1 h2.2;refine f_n Tryz.func108 ?_ ?_;exact ac (aB (gV p)) (ac (bY a) ag);refine r_z 2 ?_;refine ae (r_d a9 10 ?_);refine c_s (b) ?_;refine c_s (c) ?_;refine a_2 ?_;refine au (n_k ?_);exact ak (c_e (aB (gV _)))
def ecS(k:Ke)(g:Nat)(cap:List AV)(f:List Rat×List Rat→List Rat×List Rat):Nat→AState
 |0=>⟨[(1,.clos g [] cap),(8,.arr (kE k)),(9,i64 k.length),(10,i64 0),(5,.emp)],[],1,22⟩
 |i+1=>⟨[(1,.clos g [] cap),(8,.arr (kE k)),(9,i64 k.length),(10,i64 ((i+1:Nat):Int)),(5,.lsl 1 0 (i+1) none 2)],[(1,some ⟨61,2,kE ((k.take (i+1)).map f)⟩)],2,22⟩
theorem GO(k:Ke):(kE k).all (·.all AV.one)=true:=by
 rw[List.all_eq_true];intro x a;obtain⟨p,_,rfl⟩:=List.mem_map.1 a;rfl
theorem DT(k:Ke)(p:List Rat×List Rat):kE (k++[p])=kE k++[prC p]:=by simp[kE]
theorem Hf(k:Ke)(g:Nat)(cap:List AV)(f:List Rat×List Rat→List Rat×List Rat)(hcap:∀c∈cap,Closed c)(hl:k.length≤1000)(hg:∀p∈k,FS g ((.agg (prC p)::cap).map coe) (.agg (prC (f p)))):FS 107 [.arr (kE k),.clos g [] cap] (.arr (kE (k.map f))):=by
 have q:(kE k).length=k.length:=dX k;have d:Closed (.clos g [] cap):=aU ag hcap;refine f_n Tryz.func107 ?_ ?_;exact ac (aX k) (ac d ag);refine r_z 1 ?_;refine r_z 1 ?_;refine ae (r_z 3 ?_);refine aH (fun _:Unit=>⟨[(5,.arr (kE (k.map f)))],[],1,22⟩) (fun _=>True) ?_ ?_;refine am (aD (ecS k g cap f) (fun i=>k.length- i) (fun i=>i≤k.length) 0 (Nat.zero_le _) ?_ ?_);rw[ecS.eq_1];exact s_x [] (fun hs=>e_4) (fun hs=>e_33);intro i r;by_cases hlt:i< k.length
 ·obtain⟨p,hp⟩:∃p,k[i]?=some p:=⟨_,List.getElem?_eq_getElem hlt⟩
  have j:=hg p (List.mem_of_getElem? hp);have n:(k.take (i+1)).length=i+1:=by rw[List.length_take];omega
  have b:kE ((k.take i).map f)++[prC (f p)]=kE ((k.take (i+1)).map f):=by rw[dp hp,List.map_append,List.map_singleton,DT]
  cases i with
  |zero=>
   have a:(kE k)[((0:Int)).toNat]?=some (prC p):=j6 hp _ rfl;rw[ecS.eq_1];refine q_z 1 ?_;refine ae (cT (an (ae (am (s_r 4 ?_)))));refine i_x a ?_;refine l_x a ?_;refine a_z ?_;refine r_m 7 ?_;refine c_s (j) ?_;refine a_z ?_;refine r_m 2 ?_;refine a_z ?_;refine⟨0+1,by omega,by omega,?_⟩;rw[ecS.eq_2];rw[←b];refine s_x [(1,5)] (fun hs=>e_4) (fun hs=>?_)
   ·repeat' (first|exact aI|refine h_c ?_ ?_|exact cm hs (ez [f p])|exact cj|refine aG ?_|exact aw|refine ai ?_ ?_|exact ao hs (aX k)|exact ao hs d|exact bh)
  |succ i=>
   have a:(kE k)[(((i+1:Nat):Int)).toNat]?=some (prC p):=j6 hp _ (by simp);have o:=GO ((k.take (i+1)).map f);have e:(kE ((k.take (i+1)).map f)).length=i+1:=by rw[dX,List.length_map,List.length_take];omega
   rw[ecS.eq_2];refine q_z 1 ?_;refine ae (cT (an (ae (am (s_r 4 ?_)))));refine i_x a ?_;refine l_x a ?_;refine a_z ?_;refine r_m 7 ?_;refine c_s (j) ?_;refine o_1 (.buildSlice te_26.h TZ.h rfl (by decide) rfl rfl rfl (by first|(simp;done)|(simp[cw,ofV];done)|rfl)) ?_;refine o_2 (.append_l rfl rfl rfl te_26.h rfl rfl rfl rfl rfl d_o (by first|exact fU _|exact fT _|exact eV _|exact fV _|exact fP _|assumption|rfl|simp) (by first|rfl|exact fU _|exact fT _|exact eV _|exact fV _|exact fP _|simp) rfl (.lsl rfl (nle rfl)) TZ.h rfl TB.h d_o (by first|(simp[maxLen];done)|(simp[maxLen];omega))) ?_;refine o_0 (.assign rfl) ?_;refine au ?_;refine r_m 2 ?_;refine a_z ?_;refine⟨i+1+1,by omega,by omega,?_⟩;rw[ecS.eq_2];refine s_x [(1,5)] (fun hs=>e_4) (fun hs=>?_)
   ·repeat' (first|exact aI|refine h_c ?_ ?_|exact aT hs b (ez _)|exact cj|refine aG ?_|exact aw|refine ai ?_ ?_|exact ao hs (aX k)|exact ao hs d|exact bh)
 have l:i=k.length:=by omega
 cases i with
 |zero=>
  have m:k=[]:=List.eq_nil_of_length_eq_zero l.symm;subst m;rw[ecS.eq_1];refine q_z 1 ?_;refine ae (cF (aA ⟨(),trivial,?_⟩));exact s_e []
 |succ i=>
  have e:(kE (k.map f)).length=i+1:=by rw[dX,List.length_map];omega
  rw[ecS.eq_2,l,List.take_length];refine q_z 1 ?_;refine ae (cF (aA ⟨(),trivial,?_⟩));refine s_x [] (fun hs=>?_) (fun hs=>?_)
  ·repeat' (first|exact aS|refine az rfl ?_ ?_|(refine Cv.shut hs rfl (aQ rfl) (by simp) ?_;exact aT hs (by rw[List.drop_zero];exact List.take_of_length_le (by simp)) (ez _))|exact bh)
  ·repeat' (first|exact aI|refine h_c ?_ ?_|exact cj|refine aG ?_|exact aw|refine ai ?_ ?_|(refine Cv.shut hs rfl (aQ rfl) (by simp) ?_;exact aT hs (by rw[List.drop_zero];exact List.take_of_length_le (by simp)) (ez _))|exact bh)
 rintro _ _;refine r_z 2 ?_;exact ak (t_e (aX _))
theorem Hb(k:Ke)(l:Rat)(g:List Rat)(a:Rat)(hl:k.length≤1000)(hk:∀p∈k,(gT [a,1] p.1∧p.1.length≤274877906944)∧gT [a,1] p.2∧p.2.length≤274877906944)(hg:gT [a,1] g)(hgl:g.length≤274877906944):FS 43 [.agg (eqC k l g),.agg (qC a)] (.agg (eqC (mvK a k) l (b7 [a,1] g))):=by
 have h1:=Hf k 108 [bQ a] (fun p=>(b7 [a,1] p.1,b7 [a,1] p.2)) (ac (bY a) ag) hl fun p hp=>E1 a p (hk p hp).1 (hk p hp).2;have c:=lu g a hg hgl;have b:=cy k l g;refine f_c Tryz.func43 ?_;refine r_z 3 ?_;refine AWp.ent (st':=⟨[(2,.aptr [eqC k l g] 0 0),(3,bQ a),(4,.lptr 1 0 0)],[(1,some ⟨38,5,[.emp::(zC++[.emp])]⟩)],2,16⟩) ?_ ?_;refine s_x [(1,4)] (fun hs=>?_) (fun hs=>?_)
 ·repeat' (first|exact aS|refine az rfl ?_ ?_|exact Cv.boxp hs rfl (aQ rfl) rfl b|exact Cv.boxp hs rfl (aQ rfl) rfl (a7 a)|exact bh)
 ·repeat' (first|exact aI|refine h_c ?_ ?_|exact cj|refine aG ?_|exact aw|refine ai ?_ ?_|exact Cv.boxp hs rfl (aQ rfl) rfl b|exact Cv.boxp hs rfl (aQ rfl) rfl (a7 a)|exact bh)
 refine ae (r_d a9 12 ?_);refine c_s (h1) ?_;refine c_s (c) ?_;refine a_2 ?_;refine au (n_k ?_);exact ak (c_e (aB (cy _ _ _)))
end Go.Proofs.YtkhclghbcicapaaGreatDoor
