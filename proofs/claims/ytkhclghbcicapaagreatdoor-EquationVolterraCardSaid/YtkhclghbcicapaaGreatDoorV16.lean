/- Part V16 of the proof. -/
import Derived.Test.YtkhclghbcicapaaGreatDoorV15
set_option linter.all false
namespace Go.Abs
theorem syn_co(S:List Rat)(r:Rat)(i:Nat):coP S i=coP (af S r::o9 S r) i- r* coP (o9 S r) i:=by
 have:=trim_iff.1 (jO (p:=S) (q:=kY (af S r::o9 S r) (fb (o9 S r) (-r))) fun x=>by
  rw[fO,dX,aE,oj S r x];grind) i
 rw[this,iX,gM];grind
theorem HM{K:Rat}(h:1≤K):∀{n:Nat},1≤K^ n
 |0=>by grind
 |n+1=>by
  have a:=HM h (n:=n);rw[Rat.pow_succ];have:=Rat.mul_le_mul_of_nonneg_left h (show 0≤K^ n by grind);grind
theorem newt{M:Nat}{K:Rat}(hK:K=((2* M+3:Nat):Int)):∀(d:Nat) (S:List Rat) (xs:List Nat) (B:Rat),S.length≤d+1→d+1≤xs.length→xs.Nodup→(∀x∈xs,x≤M)→0≤B→(∀x∈xs,ab (af S ((x:Int):Rat))≤B)→∀i,ab (coP S i)≤B* K^ d
 |0,S,xs,B,hS,hx,_,_,hB,hv,i=>by
  rw[Rat.pow_zero,Rat.mul_one];cases xs with
  |nil=>grind
  |cons x xs=>
   have h:=hv x (List.mem_cons_self ..);cases S with
   |nil=>rw[kf,lr];grind
   |cons a l=>
    have:l=[]:=List.length_eq_zero_iff.1 (by grind);subst this;rw[aE,aM] at h;cases i with
    |zero=>rw[dA];grind
    |succ i=>rw[dm,kf,lr];grind
 |d+1,S,xs,B,hS,hx,hnd,hM,hB,hv,i=>by
  cases xs with
  |nil=>grind
  |cons r xs=>
   rw[List.nodup_cons] at hnd;have A:=hv r (List.mem_cons_self ..);have t:=hM r (List.mem_cons_self ..)
   have o:=newt hK d (o9 S ((r:Int):Rat)) xs (2* B) (by rw[AL];omega) (by simp at hx;omega) hnd.2 (fun x h=>hM x (List.mem_cons_of_mem _ h)) (by grind) fun y m=>by
    have h1:=oj S ((r:Int):Rat) ((y:Int):Rat);have v:=hv y (List.mem_cons_of_mem _ m);have j:y≠r:=fun h=>hnd.1 (h▸m)
    have s:1≤ab (((y:Int):Rat)- ((r:Int):Rat)):=by
     rw[←Rat.intCast_sub];exact IB.one_le (h:=bl ((y:Int)- r).natAbs) ⟨_,rfl,Nat.le_refl _⟩ fun g=>j (by have:=Rat.intCast_inj.1 (g.trans Rat.intCast_zero.symm);omega)
    have p:af (o9 S ((r:Int):Rat)) ((y:Int):Rat) * (((y:Int):Rat)- ((r:Int):Rat))=af S ((y:Int):Rat)+ -af S ((r:Int):Rat):=by grind
    have u:=ik (af S ((y:Int):Rat)) (-af S ((r:Int):Rat));rw[←p,cM,tX] at u;have E:=Rat.mul_le_mul_of_nonneg_left s (cZ (af (o9 S ((r:Int):Rat)) ((y:Int):Rat)));grind
   have c:0≤K^ d:=by
    have:(0:Rat)≤K:=by rw[hK];exact Rat.intCast_nonneg.2 (by omega)
    exact Rat.pow_nonneg this
   have k:=HM (n:=d) (show(1:Rat)≤K by rw[hK,show(1:Rat)=((1:Int):Rat) from rfl,Rat.intCast_le_intCast];omega)
   have b:ab (((r:Int):Rat))≤((M:Int):Rat):=by
    rw[ab_le,←Rat.intCast_neg,Rat.intCast_le_intCast,Rat.intCast_le_intCast];omega
   have f:K=2* ((M:Int):Rat)+3:=by
    rw[hK,Int.natCast_add,Int.natCast_mul,Rat.intCast_add,Rat.intCast_mul];rfl
   have e:=syn_co S ((r:Int):Rat) i;have q:=ik (coP (af S ((r:Int):Rat)::o9 S ((r:Int):Rat)) i) (-(((r:Int):Rat) * coP (o9 S ((r:Int):Rat)) i));rw[tX,←Rat.sub_eq_add_neg,←e,cM] at q;have w:=dw b (o i) (cZ _) (show(0:Rat)≤((M:Int):Rat) from Rat.intCast_nonneg.2 (by omega))
   have C:ab (coP (af S ((r:Int):Rat)::o9 S ((r:Int):Rat)) i)≤2* B* K^ d+B* K^ d:=by
    have z:=Rat.mul_nonneg hB c;have D:=Rat.mul_le_mul_of_nonneg_left k hB;cases i with
    |zero=>rw[dA];grind
    |succ i=>rw[dm];have:=o i;grind
   have e2:B* K^ (d+1)=2* B* K^ d+B* K^ d+((M:Int):Rat) * (2* B* K^ d):=by
    rw[Rat.pow_succ];generalize K^ d=Q at *
    rw[f];grind
   grind
theorem wA(f:Nat→Bool):∀l:List Nat,(l.filter f).length+(l.filter fun x=>!f x).length=l.length
 |[]=>rfl
 |a::l=>by
  have:=wA f l;grind
theorem pts{p:List Rat}(hp:nz p)(d:Nat):∃xs:List Nat,xs.Nodup∧d+1≤xs.length∧∀x∈xs,x≤dg p+d∧af p ((x:Int):Rat)≠0:=by
 have h:=wA (fun x:Nat=>decide (af p ((x:Int):Rat)≠0)) (List.range (dg p+d+1));rw[List.length_range] at h;refine⟨(List.range (dg p+d+1)).filter fun x:Nat=>decide (af p ((x:Int):Rat)≠0),List.nodup_range.filter _,?_,fun x b=>?_⟩;by_cases g:dg p+1≤((List.range (dg p+d+1)).filter fun x:Nat=>!decide (af p ((x:Int):Rat)≠0)).length;exfalso;have c:(aj p).length≤dg p+1:=by unfold dg;omega
 have:=pW (dg p+1) (aj p) (((List.range (dg p+d+1)).filter fun x:Nat=>!decide (af p ((x:Int):Rat)≠0)).map fun x:Nat=>((x:Int):Rat)) c (by grind)
  (List.Pairwise.map _ (fun i j a e=>a (by have:=Rat.intCast_inj.1 e;omega)) (List.nodup_range.filter _)) fun x b=>by
   obtain⟨i,f,rfl⟩:=List.mem_map.1 b;rw[cg];grind
 apply hp;exact trim_nil_iff.2 fun i=>by rw[←ce];exact rY this i
 omega;grind
theorem I1{p s:List Rat}{h n:Nat}(hp:nz p)(hs:Dv s p)(H:Ht p h)(hn:dg p≤n)(h15:n≤15):Ht s (h+12* n+8):=by
 obtain⟨g,e⟩:=hs;have t:∀x,af p x=af s x* af g x:=fun x=>by grind
 obtain⟨k,u,m⟩:=H;obtain⟨κ,f,y,hf,hv⟩:=I0 hp t u fun i=>by obtain⟨z,D,_⟩:=m i;grind
 have C:dg s≤n:=Nat.le_trans (Dv.dg ⟨g,e⟩ hp) hn;obtain⟨xs,w,B,l⟩:=pts hp (dg s)
 have q:=newt (M:=30) (K:=63) (by grind) (dg s) (aL (aj s) κ) xs (p2 (h+6* (n+1))) (by have:=dn (aj s) κ;unfold dg;omega) B w (fun x j=>by grind) (Rat.le_of_lt (dp _)) fun x j=>by
  have h1:=hv (x:Int) (l x j).2;rw[aR,cg];refine Rat.le_trans h1 ?_
  have b:=fE (R:=p2 5) (x:=((x:Int):Rat)) (Rat.le_of_lt (dp 5)) (by
   rw[ab_le];unfold p2;rw[←Rat.intCast_neg,Rat.intCast_le_intCast,Rat.intCast_le_intCast];have:=(l x j).1;omega) (aL (aj p) k)
  rw[aR,cg] at b;refine Rat.le_trans b (Rat.le_trans (Ct (r:=5) (H:=h) _ fun c hc=>?_) (eU ?_));obtain⟨i,_,e⟩:=mX hc;rw[←e,cS,ce];exact IB.ab (h:=h) (m i);have:=dn (aj p) k;unfold dg at hn;grind
 refine⟨κ,y,fun i=>⟨f i,hf i,?_⟩⟩;have h1:=q i;rw[cS,ce,hf] at h1
 have a:∀d,(63:Rat) ^ d≤p2 (6* d):=fun d=>by
  induction d with
  |zero=>rw[Rat.pow_zero];exact Rat.le_refl
  |succ d A=>
   rw[Rat.pow_succ,Nat.mul_succ,eJ];have:(63:Rat)≤p2 6:=by decide+kernel
   exact dw A this (by decide+kernel) (Rat.le_of_lt (dp _))
 have b:=Rat.mul_le_mul_of_nonneg_left (a (dg s)) (Rat.le_of_lt (dp (h+6* (n+1))));rw[←eJ] at b;have v:=eU (show h+6* (n+1)+6* dg s≤h+12* n+6 by omega);have o:=ab_le.1 (Rat.le_trans h1 (Rat.le_trans b v));unfold p2 at o;rw[←Rat.intCast_neg,Rat.intCast_le_intCast,Rat.intCast_le_intCast] at o;refine ez (Nat.lt_of_le_of_lt (show(f i).natAbs≤2^ (h+12* n+6) by omega) (Nat.pow_lt_pow_right (by decide) (by omega)))
def cH(f N h X T Q:Nat):Bool:=
 decide (N≤12∧1≤h∧1≤X∧X≤137438953472∧2^ 12* (h+2* X+1)≤137438953472∧17* (h+12* N+8)≤34359738368∧h+12* N+8≤T∧12* (T+Q+1)+T+Q+2≤137438953472) &&
 ((List.range (N+1)).all fun m=>(List.range m).all fun n=>hG f m n h (h+5) X) &&
 ((List.range (N+1)).all fun m=>(List.range m).all fun n=>cB f m n (h+12* N+8) (h+12* N+13) (h+12* N+13) T)
theorem mV{p:List Rat}{s g:Nat}(hl:(aj p).length≤15)(hb:bdL p s)(hs:1≤s)(hH:Ht p g):bdL (aN p) (s+5)∧Ht (aN p) (g+5):=by
 have e:∀i,coP (aN p) i=coP (aN (aj p)) i:=fun i=>by rw[ek,ek,ce]
 constructor;refine js fun i=>?_;rw[ek];by_cases hi:i+1< (aj p).length;have h1:=dk (coP p (i+1)) (nQ (i+1));have a:=nk (n:=i+1) (k:=4) (ez (by omega)) (by decide);have b:=fI hb hs (i+1);exact Nat.le_trans h1 (by omega);rw[←ce,ef (show(aj p).length≤i+1 by omega),Rat.zero_mul];exact Nat.le_trans (by decide:qs 0≤1) (by omega);refine((hH.trim).derive.scale (c:=1) (r:=aN p) (by grind) fun i=>by grind).mono ?_;have:bl (aj p).length≤4:=ez (by omega);omega
theorem lG{p:List Rat}(hp:nz p):(aj p).length=dg p+1:=by have:=List.length_pos_iff.2 hp;unfold dg;omega
theorem countsH{f N h X T Q:Nat}(hc:cH f N h X T Q=true){p:List Rat}(np:nz p)(hl:(aj p).length≤N)(hp:p.length≤1000)(hb:bdL p h)(hH:Ht p h):
    ∃c,gx f p=some c∧(∀x,qs x≤Q→qW c x∧pa c x)∧c.p.length≤N∧bdL c.p (h+12* N+8)∧Ht c.p (h+12* N+8):=by
 unfold cH at hc;simp only[Bool.and_eq_true,decide_eq_true_eq,List.all_eq_true,List.mem_range] at hc;obtain⟨⟨⟨c0,c1,c2,Z,c4,c5,c6,c7⟩,hg⟩,M⟩:=hc;have hlp:=List.length_pos_iff.2 np;have hdl:=oQ np;have hdt:aj (aN p)=aN p:=cw _;have U:=mV (by omega) hb c1 hH;obtain⟨g,L,g2,g3,g4⟩:=zL f _ _ h (h+5) X p (aN p) (hg _ (by omega) _ (by grind)) rfl rfl hb U.1 hH U.2 c1 (by omega) hp (by omega) Z;obtain⟨E,z1,z2,a,b,z3⟩:=nU f _ _ _ L (.inl np);obtain⟨u,W⟩:=z1;obtain⟨m1,m2⟩:=lb p E;have V:=zw (u:=u) (v:=[]) E (fun x=>by rw[W x,aM];grind) (fun e=>absurd rfl e)
 have hs:∀x,af p x=af (cf p g).1 x* af g x:=fun x=>by
  have:=m1 x;rw[V x,aM] at this;grind
 obtain⟨D,n2⟩:=jf hs np;have e1:=(dg_mul' D n2 hs).2.1;have e2:=(iF D).2.2;have m:=(iF D).2.1;have l1:=lG np;have l2:=lG E;have l3:=lG D;have l4:=lG m;have h1:=dz hb c1;have R:=dz g4 c2;have o:2^ ((aj p).length+1- (aj g).length)≤2^ 12:=Nat.pow_le_pow_right (by decide) (by omega);have O:=Nat.mul_le_mul o (show mxL p+2* mxL g+1≤h+2* X+1 by omega);have hN:12* (N- 1)≤12* N:=by omega
 have hY:Ht (cf p g).1 (h+12* N+8):=(I1 np ⟨g,fun x=>by rw[hs];grind⟩ hH (show dg p≤N by omega) (by omega)).mono (by omega);obtain⟨q1,q2⟩:=hY.monic (by omega);have y:=pD (cf p g).1;obtain⟨q,S⟩:∃q,q=cI (cf p g).1:=⟨_,rfl⟩
 have G:xk f p=some q:=by
  unfold xk;rw[if_pos ⟨eP hb (by omega),by omega⟩,L,Option.bind_some,if_pos ⟨E,by omega,by omega,by omega⟩,S]
 rw[←S] at e2 m l4 q1 q2 y;have F:q.length≤N:=by rw[←y];omega
 generalize hYe:h+12* N+8=Y at *
 rw[show h+12* N+13=Y+5 by omega] at M;have l:1≤Y:=by omega
 obtain⟨p1,p2⟩:=q2.prim m l;obtain⟨k,k0,hk⟩:=ov m;obtain⟨d1,d2,_⟩:=jS m (show k≠0 by grind) hk;have H:(aj (bU q)).length=(aj q).length:=by rw[lG d1,lG m,d2]
 have hpl:(bU q).length=(aj (bU q)).length:=by unfold bU;rw[pC]
 have t:=oQ m;have z:aj (aN q)=aN q:=cw _;have s:=mV (by omega) q1 l q2;obtain⟨i,o1,o2,o3⟩:=yE f f _ _ Y (Y+5) (Y+5) T (bU q) (aN q) [bU q] (M (aj q).length (by omega) (aN q).length t) H (by rw[z]) rfl p1 p2 s.2 s.1 l (by omega) (by omega) (by omega) (by omega);have J:=dz q1 l;have K:=Nat.mul_le_mul (show q.length+4≤17 by omega) J
 have A:mG f q=some i:=by
  unfold mG;rw[if_pos ⟨eP q1 (by omega),⟨by omega,by omega⟩,m⟩];exact o1
 have j:∀r∈i,nz r∧r.length≤12∧bdL r T:=fun r n=>by
  rcases o3 r n with h|⟨a,b,d⟩
  rw[List.mem_singleton.1 h];exact⟨d1,by omega,fun x C=>Nat.le_trans (p1 x C) c6⟩;exact⟨a,by omega,d⟩
 rw[List.length_singleton] at o2;have w:xY ⟨q,i,chL (i.map sgI) 0 0⟩:=⟨fun r n=>⟨(j r n).1,by have:=(j r n).2.1;omega⟩,by show i.length≤_;omega,rfl⟩
 have B:∀x,qs x≤Q→qW ⟨q,i,chL (i.map sgI) 0 0⟩ x:=fun x C=>⟨w,fun r n=>by
  obtain⟨_,a,b⟩:=j r n;have:=dz b (by omega);have R:=Nat.mul_le_mul a (show mxL r+qs x+1≤T+Q+1 by omega);exact⟨by omega,by omega⟩⟩
 refine⟨⟨q,i,chL (i.map sgI) 0 0⟩,?_,fun x C=>⟨B x C,B x C,?_⟩,F,q1,q2⟩;unfold gx;rw[G,Option.bind_some,A,Option.bind_some,if_pos w];have R:=Nat.mul_le_mul (show q.length≤12 by omega) (show mxL q+qs x+1≤T+Q+1 by omega);exact⟨by show q.length* (mxL q+qs x+1)+mxL q+qs x+2≤_;omega,by show q.length≤_;omega⟩
theorem jy(bf:Int→Bool){l:List Rat}(h:l≠[]):dO bf l∈l:=by
 cases l with
 |nil=>grind
 |cons x l=>
  have a:∀(l:List Rat) (o:Rat),l.foldl (fun o y=>if bf (dB y o) then y else o) o∈o::l:=by
   intro l
   induction l with
   |nil=>grind
   |cons y l b=>
    grind
  exact a l x
theorem zy{l:List Rat}:∀x∈l,x≤dM l:=by
 have b:∀(l:List Rat) (o:Rat),o≤l.foldl (fun o y=>if decide (0< dB y o)=true then y else o) o∧∀x∈l,x≤l.foldl (fun o y=>if decide (0< dB y o)=true then y else o) o:=by
  intro l
  induction l with
  |nil=>grind
  |cons y l d=>
   intro o
   have e:o≤(if decide (0< dB y o)=true then y else o)∧y≤(if decide (0< dB y o)=true then y else o):=by
    unfold dB;grind
   grind
 intro x c;cases l with
 |nil=>grind
 |cons a l=>
  have:=b l a;rcases List.mem_cons.1 c with rfl|c
  exact this.1;exact this.2 x c
theorem zv{l:List Rat}:∀x∈l,eV l≤x:=by
 have b:∀(l:List Rat) (o:Rat),l.foldl (fun o y=>if decide (dB y o< 0)=true then y else o) o≤o∧∀x∈l,l.foldl (fun o y=>if decide (dB y o< 0)=true then y else o) o≤x:=by
  intro l
  induction l with
  |nil=>grind
  |cons y l d=>
   intro o
   have e:(if decide (dB y o< 0)=true then y else o)≤o∧(if decide (dB y o< 0)=true then y else o)≤y:=by
    unfold dB;grind
   grind
 intro x c;cases l with
 |nil=>grind
 |cons a l=>
  have:=b l a;rcases List.mem_cons.1 c with rfl|c
  exact this.1;exact this.2 x c
theorem EX{a b:Sp}{x y:Rat}(h1:a.1≤x)(h2:x≤a.2)(h3:b.1≤y)(h4:y≤b.2):(iC a b).1≤x* y∧x* y≤(iC a b).2:=by
 have c:∀u v w t:Rat,u≤w→w≤v→(u* t≤w* t∧w* t≤v* t)∨(v* t≤w* t∧w* t≤u* t):=fun u v w t p q=>by
  by_cases g:0≤t;exact .inl ⟨Rat.mul_le_mul_of_nonneg_right p g,Rat.mul_le_mul_of_nonneg_right q g⟩;have f:=Rat.mul_le_mul_of_nonneg_right p (show 0≤ -t by grind);have e:=Rat.mul_le_mul_of_nonneg_right q (show 0≤ -t by grind);grind
 have m:∀z∈fM a b,eV (fM a b)≤z∧z≤dM (fM a b):=fun z d=>⟨zv z d,zy z d⟩;have c1:=m (a.1* b.1) (by simp[fM]);have i:=m (a.1* b.2) (by simp[fM]);have h:=m (a.2* b.1) (by simp[fM]);have k:=m (a.2* b.2) (by simp[fM]);have t1:=c b.1 b.2 y a.1 h3 h4;have t2:=c b.1 b.2 y a.2 h3 h4;have j:=c a.1 a.2 x y h1 h2;show eV (fM a b)≤x* y∧x* y≤dM (fM a b);grind
theorem H1(a b:Sp):(∃x∈[a.1,a.2],∃y∈[b.1,b.2],(iC a b).1=x* y)∧∃x∈[a.1,a.2],∃y∈[b.1,b.2],(iC a b).2=x* y:=by
 have h1:=jy (fun c=>decide (c< 0)) (l:=fM a b) (by simp[fM]);have f:=jy (fun c=>decide (0< c)) (l:=fM a b) (by grind)
 have d:∀z,z∈fM a b→∃x∈[a.1,a.2],∃y∈[b.1,b.2],z=x* y:=fun z e=>by
  simp only[fM,List.mem_cons,List.not_mem_nil,or_false] at e;rcases e with rfl|rfl|rfl|rfl
  exact⟨_,by simp,_,by simp,rfl⟩;exact⟨a.1,by simp,b.2,by simp,rfl⟩;exact⟨a.2,by simp,b.1,by simp,rfl⟩;grind
 exact⟨d _ h1,d _ f⟩
theorem Bg{R D:Rat}(hR:0≤R)(hD:0≤D){s:Sp}(hs:s.1≤s.2)(h1:ab s.1≤R)(h2:ab s.2≤R)(hw:s.2- s.1≤D)(v:Rat):∀l:List Rat,(ovP (v,v) s l).1≤(ovP (v,v) s l).2∧ab (ovP (v,v) s l).1≤bV R (l++[v])∧ab (ovP (v,v) s l).2≤bV R (l++[v])∧(ovP (v,v) s l).2- (ovP (v,v) s l).1≤bL R (l++[v]) * D∧
      ∀x,s.1≤x→x≤s.2→(ovP (v,v) s l).1≤af (l++[v]) x∧af (l++[v]) x≤(ovP (v,v) s l).2
 |[]=>by
  show v≤v∧ab v≤bV R [v]∧ab v≤bV R [v]∧v- v≤bL R [v] * D∧∀x,_;rw[bV,bV,bL,bL,bV];refine⟨by grind,by grind,by grind,by grind,fun x _ _=>?_⟩;show v≤af [v] x∧af [v] x≤v;rw[aE,aM];grind
 |a::l=>by
  obtain⟨i1,i2,G,J,p⟩:=Bg hR hD hs h1 h2 hw v l;rw[List.cons_append,bV,bL,show ovP (v,v) s (a::l)=AO (iC (ovP (v,v) s l) s) (a,a) from rfl];generalize ovP (v,v) s l=w at *
  have r:=mA hR (l++[v]);have C:=sE hR (l++[v]);obtain⟨⟨x,q,y,o,e1⟩,d,g,f,i,e2⟩:=H1 w s
  have k:∀z∈[w.1,w.2],ab z≤bV R (l++[v])∧w.1≤z∧z≤w.2:=fun z j=>by
   grind
  have e:∀z∈[s.1,s.2],ab z≤R∧s.1≤z∧z≤s.2:=fun z j=>by
   grind
  have mag:∀z∈[w.1,w.2],∀u∈[s.1,s.2],ab (z* u)≤bV R (l++[v]) * R:=fun z j u t=>by
   rw[cM];exact dw (k z j).1 (e u t).1 (cZ _) r
  have m1:=mag x q y o;have m2:=mag d g f i;rw[←e1] at m1;rw[←e2] at m2;have le:=EX (a:=w) (b:=s) (x:=w.1) (y:=s.1) (by grind) i1 (by grind) hs;have h:∀z:Rat,ab z≤bV R (l++[v]) * R→ab (z+a)≤bV R (l++[v]) * R+ab a:=fun z j=>by have:=ik z a;grind
  have E:(iC w s).2- (iC w s).1≤(bL R (l++[v]) * R+bV R (l++[v])) * D:=by
   rw[e1,e2];have B:d* f- x* y=d* (f- y)+(d- x) * y:=by grind
   have A:=ik (d* (f- y)) ((d- x) * y);rw[←B,cM,cM] at A;have d1:ab (f- y)≤D:=by have:=e y o;have:=e f i;exact ab_le.2 ⟨by grind,by grind⟩
   have d2:ab (d- x)≤bL R (l++[v]) * D:=by have:=k x q;have:=k d g;exact ab_le.2 ⟨by grind,by grind⟩
   have F:=dw (k d g).1 d1 (cZ _) r;have H:=dw d2 (e y o).1 (cZ _) (Rat.mul_nonneg C hD);have g3:=ab_le (x:=d* f- x* y) (c:=ab (d* f- x* y))|>.1 Rat.le_refl;grind
  refine⟨?_,h _ m1,h _ m2,?_,fun z n m=>?_⟩;show(iC w s).1+a≤(iC w s).2+a;grind;show(iC w s).2+a- ((iC w s).1+a)≤_;grind;have:=EX (p z n m).1 (p z n m).2 n m;rw[aE];show(iC w s).1+a≤_∧_≤(iC w s).2+a;grind
theorem ES{t u:Nat}{s:Sp}(h1:qs s.1≤t)(h2:qs s.2≤t){v:Rat}(hv:qs v≤u):∀l:List Rat,bdL l u→qs (ovP (v,v) s l).1≤u+l.length* (t+u+1)∧qs (ovP (v,v) s l).2≤u+l.length* (t+u+1)∧(∀q∈fM (ovP (v,v) s l) s,qs q≤u+l.length* (t+u+1)+t)
 |[],_=>by
  have f:∀z∈[(ovP (v,v) s []).1,(ovP (v,v) s []).2],qs z≤u:=fun z h=>by
   have:z=v:=by simp[ovP] at h;grind
   grind
  refine⟨by grind,by grind,fun q b=>?_⟩;simp only[fM,List.mem_cons,List.not_mem_nil,or_false] at b;rcases b with rfl|rfl|rfl|rfl <;> refine Nat.le_trans (dk _ _) ?_ <;> simp[ovP]<;> omega
 |a::l,hb=>by
  obtain⟨i1,i2,d⟩:=ES h1 h2 hv l fun q b=>hb q (List.mem_cons_of_mem _ b);have ha:=hb a (List.mem_cons_self ..);have m1:=d _ (jy (fun c=>decide (c< 0)) (l:=fM (ovP (v,v) s l) s) (by simp[fM]));have m2:=d _ (jy (fun c=>decide (0< c)) (l:=fM (ovP (v,v) s l) s) (by simp[fM]));have e:u+(a::l).length* (t+u+1)=u+l.length* (t+u+1)+t+u+1:=by grind
  have i:qs (ovP (v,v) s (a::l)).1≤u+(a::l).length* (t+u+1):=by
   rw[e];exact Nat.le_trans (fX _ _) (by show qs (eV _)+qs a+1≤_;unfold eV;omega)
  have g:qs (ovP (v,v) s (a::l)).2≤u+(a::l).length* (t+u+1):=by
   rw[e];exact Nat.le_trans (fX _ _) (by show qs (dM _)+qs a+1≤_;unfold dM;omega)
  refine⟨i,g,fun q b=>?_⟩;simp only[fM,List.mem_cons,List.not_mem_nil,or_false] at b;rcases b with rfl|rfl|rfl|rfl <;> refine Nat.le_trans (dk _ _) ?_ <;> omega
theorem ov_ok{t u:Nat}{s:Sp}(h1:qs s.1≤t)(h2:qs s.2≤t){v:Rat}(hv:qs v≤u):∀l:List Rat,bdL l u→u+l.length* (t+u+1)+t≤137438953472→Dh (v,v) s l
 |[],_,h=>⟨Nat.le_trans hv (by omega),Nat.le_trans hv (by omega)⟩
 |a::l,hb,h=>by
  have e:u+(a::l).length* (t+u+1)=u+l.length* (t+u+1)+t+u+1:=by grind
  have b:bdL l u:=fun q c=>hb q (List.mem_cons_of_mem _ c);obtain⟨_,_,f⟩:=ES h1 h2 hv l b;obtain⟨g,d,_⟩:=ES h1 h2 hv (a::l) hb;exact⟨ov_ok h1 h2 hv l b (by omega),fun q c=>Nat.le_trans (f q c) (by omega),Nat.le_trans (hb a (List.mem_cons_self ..)) (by omega),⟨Nat.le_trans g (by omega),Nat.le_trans d (by omega)⟩⟩
theorem rise{q:List Rat}{x y e:Rat}(hxy:x≤y)(he:0< e)(hd:∀z,x≤z→z≤y→e≤dvE q z):af q x≤af q y:=by
 have i:=lH x y;have j:=Cy i q;obtain⟨h,l,h1⟩:=part e (d:=bT (ab x+ab y) q+1) he (by grind)
 have w:=way (f:=fun z=>if af q x≤af q z then(1:Int) else 0) (fun s t=>s=1→t=1) (fun _ h=>h) (fun _ _ _ a b h=>b (a h)) l hxy fun u v c o g3 k m=>by
  by_cases g:af q x≤af q u;have t:=oM i (iY c (show u≤y by grind)) (iY (show x≤v by grind) g3) q;rw[show ab (v- u)=v- u by unfold ab;grind] at t;have t2:=(ab_le.1 t).1;have p:=Rat.mul_le_mul_of_nonneg_left (hd u c (by grind)) (show 0≤v- u by grind);have n:=Rat.mul_le_mul_of_nonneg_left k j;have r:=Rat.mul_le_mul_of_nonneg_right (show bT (ab x+ab y) q* (v- u)≤e by grind) (show 0≤v- u by grind);rw[if_pos (by grind)];grind
 grind
theorem fall{q:List Rat}{x y e:Rat}(hxy:x≤y)(he:0< e)(hd:∀z,x≤z→z≤y→dvE q z≤ -e):af q y≤af q x:=by
 have:=rise (q:=aL q (-1)) hxy he fun z a b=>by
  rw[yw (p:=q) (k:= -1) fun x=>aR q (-1) x];grind
 rw[aR,aR] at this;grind
theorem Far.pos{p:List Rat}{x y z:Rat}(h:Far p x y)(h1:x≤z)(h2:z≤y)(hz:0< af p z):∃e:Rat,0< e∧∀w,x≤w→w≤y→e≤af p w:=by
 have d:=h.sg h1 h2;have hs:=h;obtain⟨e,c,hf⟩:=h;refine⟨e,c,fun w a b=>?_⟩;have s1:=hs.sg a b;have:=gu hz;rcases qu (hf w a b) with g|g
 exact g;have:=jC (q:=p) (x:=w) (by grind);omega
theorem Far.neg{p:List Rat}{x y z:Rat}(h:Far p x y)(h1:x≤z)(h2:z≤y)(hz:af p z< 0):∃e:Rat,0< e∧∀w,x≤w→w≤y→af p w≤ -e:=by
 have d:=h.sg h1 h2;have hs:=h;obtain⟨e,c,hf⟩:=h;refine⟨e,c,fun w a b=>?_⟩;have s1:=hs.sg a b;have:=jC hz;rcases qu (hf w a b) with g|g
 have:=gu (q:=p) (x:=w) (by grind);omega;exact g
theorem Bk{q:List Rat}{A B v:Rat}(hv:0< v):∃δ:Rat,0< δ∧∀x y,A≤x→x≤B→A≤y→y≤B→ab (y- x)≤δ→v≤af q x→v/ 2≤af q y:=by
 have a:=lH A B;have e:=sE a q;obtain⟨δ,d0,d1⟩:=part (v/ 2) (d:=bL (ab A+ab B) q+1) (by grind) (by grind);refine⟨δ,d0,fun x y b c b1 b2 h f=>?_⟩;have q1:=iG a (iY b c) (iY b1 b2) q;have q2:=Rat.mul_le_mul_of_nonneg_left h e;have q3:=ab_le.1 (show ab (af q y- af q x)≤v/ 2 by grind);grind
section
variable {f:Nat}{q d:List Rat}{c:Cnt}{σ:Rat}(h:gx f d=some c)(hd:nz d)(hσ:σ=1∨σ= -1)(hdq:∀z,dvE q z=σ* af d z)
include hσ hdq
theorem slope{x y z:Rat}(hF:Far d x y)(h1:x≤z)(h2:z≤y):∃e:Rat,0< e∧(0< dvE q z→∀w,x≤w→w≤y→e≤dvE q w)∧(dvE q z< 0→∀w,x≤w→w≤y→dvE q w≤ -e):=by
 have hd:Far (aL d σ) x y:=hF.k (k:=σ) (by rcases hσ with g|g <;> rw[g]<;> decide) fun z=>by rw[aR]
 have e:∀w,dvE q w=af (aL d σ) w:=fun w=>by rw[hdq,aR];grind
 by_cases g:0< dvE q z;obtain⟨ε,a,b⟩:=hd.pos h1 h2 (by rw[←e];exact g);exact⟨ε,a,fun _ w w1 w2=>by rw[e];exact b w w1 w2,fun g'=>by grind⟩;by_cases g2:dvE q z< 0;obtain⟨ε,a,b⟩:=hd.neg h1 h2 (by rw[←e];exact g2);exact⟨ε,a,fun g'=>absurd g' g,fun _ w w1 w2=>by rw[e];exact b w w1 w2⟩;exact⟨1,by decide+kernel,fun g'=>absurd g' g,fun g'=>absurd g' g2⟩
include h hd
theorem A9{A B:Rat}(hA:af q A≤0)(hB:af q B≤0)(hr:∀i,aZ c A≤i→i< bZ c B→¬Sgn c i q 1):∀x,A≤x→x≤B→af q x≤0:=fun x hAx hxB=>by
 by_cases hq:af q x≤0;exact hq;exfalso;have hx0:0< af q x:=by grind
 have belA:aZ c A≤aZ c x:=by
  by_cases e:A=x;rw[e];exact Int.le_refl _;have:=eY h hd (show A< x by grind);have:=(fi (c:=c) h hd A).1;omega
 have upB:=gP h hd hxB;by_cases hz:af c.p x=0
 -- a root of the derivative
 have e:aZ c x=bZ c x- 1:=by unfold aZ;grind
 refine hr (aZ c x) belA (by omega) ⟨x,x,⟨Rat.le_refl,Int.le_refl _,by omega⟩,⟨af q x,hx0,fun z a b=>?_⟩,gu hx0⟩;have:z=x:=by grind
 rw[this];exact ls (.inl Rat.le_refl) (by grind);have e:aZ c x=bZ c x:=by unfold aZ;grind
 obtain⟨δ,d0,hδ⟩:=Bk (q:=q) (A:=A) (B:=B) hx0;obtain⟨η,n0,hη⟩:=Bk (q:=q) (A:=A) (B:=B) (v:=af q x/ 2) (by grind)
 have hdx:dvE q x≠0:=by
  have:=((gV h hd (show x≤x by grind)).1 e.symm).ne (z:=x) (by grind) (by grind);grind
 rcases(show 0< dvE q x∨dvE q x< 0 by grind) with hp|hn
 -- to the right
 have right:∀u,x≤u→u≤B→bZ c u≤bZ c x→af q x≤af q u:=fun u a b hu=>by
  have:=gP h hd a;have hF:=(gV h hd a).1 (show bZ c u=aZ c x by omega);obtain⟨ε,e0,he,_⟩:=slope hσ hdq hF (show x≤x by grind) a;exact rise a e0 (he hp)
 by_cases hj:bZ c x< bZ c B;obtain⟨u,v,u1,v1,w1,hu⟩:=xe h hd (i:=bZ c x) ⟨hxB,by omega,hj⟩ n0
 -- before u nothing is counted
 have hqu:af q x/ 2≤af q u:=by
  by_cases g:u≤x+δ;exact hδ x u hAx hxB (by grind) (by have:=hu.1;grind) (ab_le.2 ⟨by grind,by grind⟩) Rat.le_refl;have k1:=eY h hd (show u- δ< u by grind);have k2:=right (u- δ) (by grind) (by have:=hu.1;grind) (by have:=hu.2.1;omega)
  exact Rat.le_trans (show af q x/ 2≤af q x/ 2 from Rat.le_refl) (by
   have:=hδ (u- δ) u (by grind) (by have:=hu.1;grind) (by grind) (by have:=hu.1;grind) (ab_le.2 ⟨by grind,by grind⟩) k2;exact this)
 refine hr (bZ c x) (by omega) hj ⟨u,v,hu,⟨af q x/ 2/ 2,by grind,fun z a b=>?_⟩,gu (by grind)⟩;have:=hη u z (by grind) (by have:=hu.1;grind) (by grind) (by grind) (ab_le.2 ⟨by grind,by grind⟩) hqu;exact ls (.inl this) (by grind);have:=right B hxB (by grind) (by omega);grind
 have left:∀u,A≤u→u≤x→bZ c x≤aZ c u→af q x≤af q u:=fun u a b hu=>by
  have:=gP h hd b;have:=(fi (c:=c) h hd u).1;have hF:=(gV h hd b).1 (show bZ c x=aZ c u by omega);obtain⟨ε,e0,_,he⟩:=slope hσ hdq hF b (show x≤x by grind);exact fall b e0 (he hn)
 by_cases hj:aZ c A< bZ c x;obtain⟨u,v,u1,v1,w1,hu⟩:=xe h hd (i:=bZ c x- 1) (x:=A) (y:=x) ⟨hAx,by omega,by omega⟩ n0
 have hqv:af q x/ 2≤af q v:=by
  by_cases g:x- δ≤v;exact hδ x v hAx hxB (by have:=hu.1;grind) (by grind) (ab_le.2 ⟨by grind,by grind⟩) Rat.le_refl;have k1:=eY h hd (show v< v+δ by grind);have k2:=left (v+δ) (by have:=hu.1;grind) (by grind) (by have:=hu.2.2;omega);exact hδ (v+δ) v (by have:=hu.1;grind) (by grind) (by have:=hu.1;grind) (by grind) (ab_le.2 ⟨by grind,by grind⟩) k2
 have hpu:0< af q u:=by
  have:=hη v u (by have:=hu.1;grind) (by grind) (by grind) (by have:=hu.1;grind) (ab_le.2 ⟨by grind,by have:=hu.1;grind⟩) hqv;grind
 refine hr (bZ c x- 1) (by omega) (by omega) ⟨u,v,hu,⟨af q x/ 2/ 2,by grind,fun z a b=>?_⟩,gu hpu⟩;have:=hη v z (by have:=hu.1;grind) (by grind) (by grind) (by grind) (ab_le.2 ⟨by grind,by grind⟩) hqv;exact ls (.inl this) (by grind);grind
end
theorem AQ{H:List Rat}{x y:Rat}(hxy:x≤y)(hd:∀z,x≤z→z≤y→0≤dvE H z):af H x≤af H y:=by
 by_cases g:af H x≤af H y;exact g;obtain⟨ε,e0,e1⟩:=part (af H x- af H y) (d:=2* (y- x+1)) (by grind) (by grind)
 have:=rise (q:=kY H [0,ε]) hxy e0 fun z a b=>by
  rw[r9,show dvE [0,ε] z=ε from by rw[eu,eu,aE,aM,show dvE [] z=0 from rfl];grind];grind
 rw[fO,fO,aE,aE,aM,aE,aE,aM] at this;grind
theorem ze(d:List Rat)(x:Rat):∀k,af (pw d k) x=af d x^ k
 |0=>by unfold pw;rw[aE,aM];grind
 |k+1=>by rw[Rat.pow_succ,←ze d x k];exact bh _ _ _
theorem int_le{F:List Rat}{s a W M:Rat}(hs:s=1∨s= -1)(n:Nat)(hF:∀z,0≤s* (z- a)→s* (z- a)≤W→ab (dvE F z)≤M* (s* (z- a)) ^ n):
    ∀y,0≤s* (y- a)→s* (y- a)≤W→ab (af F y- af F a) * (((n+1:Nat):Int):Rat)≤M* (s* (y- a)) ^ (n+1):=fun y q o=>by
 have hN:(0:Rat)≤(((n+1:Nat):Int):Rat):=Rat.intCast_nonneg.2 (by omega);generalize e:(((n+1:Nat):Int):Rat)=N at *
 have ev:∀z,af [-(s* a),s] z=s* (z- a):=fun z=>by rw[aE,aE,aM];grind
 have dv:∀z,dvE [-(s* a),s] z=s:=fun z=>by rw[eu,eu,aE,aM,show dvE [] z=0 from rfl];grind
 have d:∀z,dvE (pw [-(s* a),s] (n+1)) z=N* (s* (z- a)) ^ n* s:=fun z=>by rw[pw_dv,ze,ev,dv,e]
 -- both signs of F
 have b:∀σ:Rat,σ=1∨σ= -1→σ* (af F y- af F a) * N≤M* (s* (y- a)) ^ (n+1):=fun σ i=>by
  have bd:∀z,0≤s* (z- a)→s* (z- a)≤W→σ* s* dvE F z≤M* (s* (z- a)) ^ n:=fun z k f=>by
   have h1:=hF z k f;have p:=ab_le.1 h1;rcases i with rfl|rfl <;> rcases hs with rfl|rfl <;> grind
  have g:∀z,dvE (kY (fb (pw [-(s* a),s] (n+1)) (M* s* s)) (fb F (-(σ* N)))) z=N* s* (M* (s* (z- a)) ^ n- σ* s* dvE F z):=fun z=>by
   rw[r9,jq,jq,d];grind
  have c:∀z,af (kY (fb (pw [-(s* a),s] (n+1)) (M* s* s)) (fb F (-(σ* N)))) z=M* (s* (z- a)) ^ (n+1)- σ* N* af F z:=fun z=>by
   rw[fO,dX,dX,ze,ev];grind
  have h:(s* (a- a)) ^ (n+1)=(0:Rat):=by grind
  rcases hs with rfl|rfl
  have:=AQ (show a≤y by grind) (H:=kY (fb (pw [-(1* a),1] (n+1)) (M* 1* 1)) (fb F (-(σ* N)))) fun z f j=>by
   rw[g];exact Rat.mul_nonneg (by grind) (by have:=bd z (by grind) (by grind);grind)
  rw[c,c,h] at this;grind
  have:=AQ (show y≤a by grind) (H:=fb (kY (fb (pw [-(-1* a),-1] (n+1)) (M* -1* -1)) (fb F (-(σ* N)))) (-1)) fun z f j=>by
   rw[jq,g];have:=Rat.mul_nonneg hN (show 0≤M* (-1* (z- a)) ^ n- σ* -1* dvE F z by have:=bd z (by grind) (by grind);grind);grind
  rw[dX,dX,c,c,h] at this;grind
 have l:=b 1 (.inl rfl);have m:=b (-1) (.inr rfl);unfold ab;split <;> grind
def fl:Nat→Rat
 |0=>1
 |n+1=>fl n* (((n+1:Nat):Int):Rat)
theorem iS:∀n,0< fl n
 |0=>by decide+kernel
 |n+1=>by
  exact Rat.mul_pos (iS n) (by rw[show(0:Rat)=((0:Int):Rat) from rfl,Rat.intCast_lt_intCast];omega)
def eZ(z:Rat):Nat→Rat
 |0=>1
 |k+1=>eZ z k* (z* (1/ (((k+1:Nat):Int):Rat)))
theorem wa(k:Nat):(((k+1:Nat):Int):Rat)≠0:=fun e=>by have:=Rat.intCast_inj.1 (e.trans Rat.intCast_zero.symm);omega
theorem DY(z:Rat):∀k,eZ z k* fl k=z^ k
 |0=>by rw[Rat.pow_zero,eZ,fl];grind
 |k+1=>by
  rw[eZ,fl,Rat.pow_succ,←DY z k];have:=Rat.div_mul_cancel (a:=1) (wa k);generalize (((k+1:Nat):Int):Rat)=N at *
  generalize (1:Rat) / N=M at *
  grind
theorem IY{z:Rat}(hz:0≤z):∀k,0≤eZ z k
 |0=>by rw[eZ];decide
 |k+1=>by
  rw[eZ];refine Rat.mul_nonneg (IY hz k) (Rat.mul_nonneg hz ?_);have h1:(0:Rat)< (((k+1:Nat):Int):Rat):=by rw[show(0:Rat)=((0:Int):Rat) from rfl,Rat.intCast_lt_intCast];omega
  obtain⟨m,m0,m1⟩:=part 1 (d:=(((k+1:Nat):Int):Rat)) (by decide+kernel) h1;rw[←m1,Rat.mul_div_cancel (wa k)];grind
theorem eZ_half{z:Rat}(hz:0≤z){n:Nat}(hn:2* z≤(((n+2:Nat):Int):Rat)):∀j,2* eZ z (n+1+j+1)≤eZ z (n+1+j):=fun j=>by
 have h1:(0:Rat)< (((n+1+j+1:Nat):Int):Rat):=by rw[show(0:Rat)=((0:Int):Rat) from rfl,Rat.intCast_lt_intCast];omega
 have c:2* z≤(((n+1+j+1:Nat):Int):Rat):=Rat.le_trans hn (by rw[Rat.intCast_le_intCast];omega);have h:=Rat.div_mul_cancel (a:=1) (wa (n+1+j));have f:=IY hz (n+1+j);rw[eZ];generalize (((n+1+j+1:Nat):Int):Rat)=N at *
 generalize e:(1:Rat) / N=M at *
 have b:0≤M:=by
  obtain⟨m,m0,m1⟩:=part 1 (d:=N) (by decide+kernel) h1;rw[←m1,Rat.mul_div_cancel (by grind)] at e;grind
 have i:=Rat.mul_le_mul_of_nonneg_right c b;have g:=Rat.mul_le_mul_of_nonneg_left (show 2* z* M≤1 by grind) f;grind
theorem HS.nil:HS [] 1 1:=⟨by decide,IB.one,fun i=>(IB.zero 1).eq (by show 0=(0:Rat) * 1;grind)⟩
section
variable {m:List Rat}{k:Rat}{M n:Nat}(k0:k≠0)(hm:∀i,IB (coP m i* k) M)(hn:∀j,j< n→oN m j≠0)(h7:n≤7)
include k0 hm hn h7
end
theorem AF{x y:Rat}{h:Nat}(H:IB x h)(K:IB y h)(y0:y≠0)(h1:1≤h):qs (x/ y)≤h:=by
 have a:Ht [x,y] h:=⟨1,by decide,fun i=>by
  have:IB (coP [x,y] i* 1) h:=by
   match i with
   |0=>exact H.eq (by show x=x* 1;grind)
   |1=>exact K.eq (by show y=y* 1;grind)
   |i+2=>exact(IB.zero h).eq (by show 0=0* 1;grind)
  obtain⟨z,e,b⟩:=this;exact⟨z,e,b⟩⟩
 exact a.quot 0 1 y0 h1
section
variable {m:List Rat}{s n:Nat}(hm:bdL m s)(hs1:1≤s)(hs:s≤3000)(hl:m.length≤16)(h6:n≤6)(hn:∀j,j< n→0< oN m j)
include hm hs1 hs hl h6 hn
end
theorem nz_int'{n:Int}(h:n≠0):(n:Rat)≠0:=fun e=>h (by have:=congrArg Rat.num e;exact this)
theorem IB.nat{n h:Nat}(hn:bl n≤h):IB (((n:Nat):Int):Rat) h:=⟨n,rfl,by rwa[Int.natAbs_natCast]⟩
theorem oe{x:Rat}{h:Nat}(hx:qs x≤h):IB (x* ((x.den:Int):Rat)) h∧IB (((x.den:Nat):Int):Rat) h∧(((x.den:Nat):Int):Rat)≠0:=by
 have h1:=dZ x;have c:=ei x;refine⟨⟨x.num,?_,by omega⟩,IB.nat (by omega),nz_int' (by have:=x.den_pos;omega)⟩;have a:(((x.den:Nat):Int):Rat)≠0:=nz_int' (by have:=x.den_pos;omega);have b:(x.num:Rat) / (((x.den:Nat):Int):Rat)=x:=by rw[←Rat.divInt_eq_div,Rat.num_divInt_den]
 have e2:(x.num:Rat) / (((x.den:Nat):Int):Rat) * (((x.den:Nat):Int):Rat)=(x.num:Rat):=Rat.div_mul_cancel a;rw[b] at e2;exact e2
theorem HS.mono{p:List Rat}{K:Rat}{h k:Nat}(H:HS p K h)(hk:h≤k):HS p K k:=⟨H.ne,H.sc.mono hk,fun i=>(H.co i).mono hk⟩
theorem AG{n h:Nat}(hn:bl n≤h):IB ((n:Int):Rat) h:=⟨n,rfl,by grind⟩
theorem Ac:∀n,n≤255→IB (fl n) (8* n+1)
 |0,_=>IB.one
 |n+1,h=>by
  exact((Ac n (by omega)).mul (AG (h:=8) (ez (by omega)))).mono (by omega)
theorem BS:∀n i,i< n→n≤255→∃z:Rat,IB z (8* n+1)∧z* (((i+1:Nat):Int):Rat)=fl n
 |0,_,h,_=>by omega
 |n+1,i,h,hn=>by
  by_cases e:i=n;subst e;exact⟨fl i,(Ac i (by omega)).mono (by omega),by rw[fl]⟩;obtain⟨z,a,b⟩:=BS n i (by omega) (by omega);refine⟨z* (((n+1:Nat):Int):Rat),(a.mul (AG (h:=8) (ez (by omega)))).mono (by omega),?_⟩;rw[fl];grind
theorem HS.bdL{p:List Rat}{K:Rat}{h:Nat}(H:HS p K h)(h1:1≤h):Abs.bdL p h:=fun q a=>by
 obtain⟨i,_,e⟩:=mX a;have:=AF (H.co i) H.sc H.ne h1;rw[Rat.mul_div_cancel H.ne] at this;grind
theorem HS.integral{p:List Rat}{K:Rat}{h L:Nat}(H:HS p K h)(hl:p.length≤L)(hL:L≤255):HS (ax p) (K* fl L) (h+8* L+1) where
 ne e:=(Rat.mul_eq_zero.1 e).elim H.ne (by have:=iS L;grind)
 sc:=(H.sc.mul (Ac L hL)).mono (by omega)
 co i:=by
  rw[fP];cases i with
  |zero=>exact(IB.zero _).eq (by grind)
  |succ i=>
   by_cases g:i< L;obtain⟨z,b,c⟩:=BS L i g hL;refine((H.co i).mul b).eq ?_|>.mono (by omega);have:=Rat.div_mul_cancel (a:=coP p i) (wa i);grind;rw[ef (by omega)];exact(IB.zero _).eq (by grind)
theorem wB{K x d:Rat}{h e:Nat}(hd:IB d e)(hx:IB (x* d) e):∀(l:List Rat),(∀c∈l,IB (c* K) h)→IB (af l x* (K* d^ l.length)) (h+l.length* (e+2))
 |[],_=>(IB.zero _).eq (by rw[aM];grind)
 |a::l,hl=>by
  have b:=wB hd hx l fun c hc=>hl c (List.mem_cons_of_mem _ hc);have ha:=hl a (List.mem_cons_self ..)
  have hp:∀n:Nat,IB (d^ n) (n* e+1):=fun n=>by
   induction n with
   |zero=>rw[Rat.pow_zero];exact IB.one.mono (by omega)
   |succ n b=>rw[Rat.pow_succ];exact(b.mul hd).mono (by grind)
  have e2:(a::l).length* (e+2)=l.length* (e+2)+e+2:=by grind
  have s1:=b.mul hx;have s2:=ha.mul (hp (l.length+1));have f:l.length* (e+2)=l.length* e+l.length* 2:=by grind
  have g:(l.length+1) * e=l.length* e+e:=Nat.succ_mul _ _;refine(((s1.mono (show _≤h+l.length* (e+2)+e+1 by omega)).add (s2.mono (by omega))).eq ?_).mono (by omega);rw[aE];grind
theorem HS.all{p:List Rat}{K:Rat}{h:Nat}(H:HS p K h):∀c∈p,IB (c* K) h:=fun c hc=>by
 obtain⟨i,_,e⟩:=mX hc;rw[←e];exact H.co i
theorem HS.k{p:List Rat}{K l d:Rat}{h e:Nat}(H:HS p K h)(d0:d≠0)(hd:IB d e)(hl:IB (l* d) e):HS (aL p l) (K* d) (h+e) where
 ne g:=(Rat.mul_eq_zero.1 g).elim H.ne d0
 sc:=H.sc.mul hd
 co i:=by rw[cS];exact((H.co i).mul hl).eq (by grind)
theorem HS.rescale{p:List Rat}{K d:Rat}{h e:Nat}(H:HS p K h)(d0:d≠0)(hd:IB d e):HS p (K* d) (h+e) where
 ne g:=(Rat.mul_eq_zero.1 g).elim H.ne d0
 sc:=H.sc.mul hd
 co i:=((H.co i).mul hd).eq (by grind)
theorem HS.less{p:List Rat}{K v:Rat}{h:Nat}(H:HS p K h)(hv:IB (v* K) h):HS (cn p (b9 v)) K (h+1) where
 ne:=H.ne
 sc:=H.sc.mono (by omega)
 co i:=by
  rw[gX,mh];split;exact((H.co i).add hv.neg).eq (by grind);exact((H.co i).mono (by omega)).eq (by grind)
theorem HS.plus{p q:List Rat}{K:Rat}{h:Nat}(H:HS p K h)(G:HS q K h):HS (fV p q) K (h+1) where
 ne:=H.ne
 sc:=H.sc.mono (by omega)
 co i:=by rw[eX];exact((H.co i).add (G.co i)).eq (by grind)
theorem vw(p:List Rat)(v:Rat):cn p [v]=cn p (b9 v):=by
 have h1:aj (cn p [v])=cn p [v]:=by unfold cn fV;exact cw _
 have a:aj (cn p (b9 v))=cn p (b9 v):=by unfold cn fV;exact cw _
 rw[←h1,←a];exact eqv_trim.1 fun x=>by rw[dJ,dJ,lh,aE,aM];grind
theorem jE{d:Rat}{e:Nat}(hd:IB d e):∀n:Nat,IB (d^ n) (n* e+1)
 |0=>by rw[Rat.pow_zero];exact IB.one.mono (by omega)
 |n+1=>by rw[Rat.pow_succ];exact((jE hd n).mul hd).mono (by rw[Nat.succ_mul];omega)
def D5(p:List Rat)(n:Nat):List Rat:=aj (p.take (n+1))
theorem Ca(p:List Rat)(n i:Nat):coP (p.take n) i=if i< n then coP p i else 0:=by
 unfold coP;rw[List.getD_eq_getElem?_getD,List.getD_eq_getElem?_getD,List.getElem?_take];split <;> rfl
theorem u0(p:List Rat)(n i:Nat):coP (D5 p n) i=if i≤n then coP p i else 0:=by
 rw[D5,ce,Ca];by_cases h:i≤n;rw[if_pos h,if_pos (by omega)];rw[if_neg h,if_neg (by omega)]
theorem B7(p:List Rat)(n:Nat):(D5 p n).length≤n+1:=by
 have h1:=bO (p.take (n+1));have a:(p.take (n+1)).length≤n+1:=by rw[List.length_take];omega
 unfold D5;omega
theorem HS.cut{p:List Rat}{K:Rat}{h:Nat}(H:HS p K h)(n:Nat):HS (D5 p n) K h:=⟨H.ne,H.sc,fun i=>by
 rw[u0];split;exact H.co i;exact(IB.zero h).eq (by grind)⟩
theorem HS.plus2{p q:List Rat}{K K':Rat}{h h':Nat}(H:HS p K h)(G:HS q K' h'):HS (fV p q) (K* K') (h+h'+1):=
 (H.rescale G.ne G.sc).plus ((Rat.mul_comm K' K▸G.rescale H.ne H.sc).mono (by omega))
theorem wK{p q q':List Rat}{n:Nat}(h:∀j,j≤n→coP q j=coP q' j):∀i,eW p q i n=eW p q' i n
 |0=>rfl
 |i+1=>by rw[eW,eW,wK h i,h (n- i) (Nat.sub_le ..)]
theorem mW{p q q':List Rat}{n:Nat}(h:∀j,j≤n→coP q j=coP q' j):coP (aJ p q) n=coP (aJ p q') n:=by
 rw[si,si,wK h]
theorem tF(p:List Rat):af p 0=coP p 0:=by
 cases p with
 |nil=>rfl
 |cons a l=>rw[aE,dA];grind
theorem B9{A B u v:List Rat}{r:Nat}(h:∀j,j< r→coP u j=coP v j)(i:Nat)(hi:i≤r):coP (aJ A (cn (ax (aJ B u)) [af (ax (aJ B u)) 0])) i=coP (aJ A (cn (ax (aJ B v)) [af (ax (aJ B v)) 0])) i:=by
 have a:∀k,k≤r→coP (ax (aJ B u)) k=coP (ax (aJ B v)) k:=fun k c=>by
  rw[fP,fP];by_cases e:k=0;rw[if_pos e,if_pos e];rw[if_neg e,if_neg e,mW (fun j b=>h j (by omega))]
 exact mW fun j b=>by
  rw[gX,gX,tF,tF,a j (by omega),a 0 (by omega)]
theorem o8{s:Nat}:∀(l:List Rat),Abs.bdL l s→∃K,HS l K (s* l.length+1)
 |[],_=>⟨1,HS.nil⟩
 |c::l,hl=>by
  obtain⟨K,H⟩:=o8 l fun q b=>hl q (List.mem_cons_of_mem _ b);obtain⟨h1,a,d⟩:=oe (hl c (List.mem_cons_self ..));have e:s* (c::l).length=s* l.length+s:=by grind
  refine⟨K* ((c.den:Int):Rat),(fun g=>(Rat.mul_eq_zero.1 g).elim H.ne d),(H.sc.mul a).mono (by omega),fun i=>?_⟩;cases i with
  |zero=>rw[dA];exact((H.sc.mul h1).eq (by grind)).mono (by omega)
  |succ i=>rw[dm];exact(((H.co i).mul a).eq (by grind)).mono (by omega)
theorem xh{c d K:Rat}{h:Nat}(d0:d≠0)(hd:IB d 20)(hc:IB (c* d) 20):∀(l:List Rat) (b:Rat),HS (b::l) K h→HS (ca [c,1] (b::l)) (K* d^ l.length) (h+22* l.length)
 |[],b,H=>by
  refine⟨by rw[List.length_nil,Rat.pow_zero];have:=H.ne;grind,H.sc.eq (by simp),fun i=>?_⟩;rw[show ca [c,1] [b]=fV (aJ [] [c,1]) (b9 b) from rfl,eX,mh,show aJ [] [c,1]=[] from if_pos (.inl rfl),kf];have h1:=H.co 0;rw[dA] at h1;split;exact h1.eq (by rw[List.length_nil,Rat.pow_zero];grind);exact(IB.zero _).eq (by grind)
 |b'::l,b,H=>by
  have Ht:HS (b'::l) K h:=⟨H.ne,H.sc,fun i=>H.co (i+1)⟩;have a:=xh d0 hd hc l b' Ht;have hp:=jE hd (l.length+1);have hb:=H.co 0;rw[List.length_cons];refine⟨fun g=>(Rat.mul_eq_zero.1 g).elim H.ne fun g=>?_,(H.sc.mul hp).mono (by omega),fun i=>?_⟩
  have:∀n:Nat,d^ n≠0:=fun n=>by
   induction n with
   |zero=>grind
   |succ n a=>grind
  exact this _ g;rw[show ca [c,1] (b::b'::l)=fV (aJ (ca [c,1] (b'::l)) [c,1]) (b9 b) from rfl,eX,Jc,mh];generalize ca [c,1] (b'::l)=X at *
  have s1:=(a.co i).mul hc
  have s2:IB (lag X i* (K* d^ l.length) * d) (h+22* l.length+20):=by
   cases i with
   |zero=>exact(IB.zero _).eq (by rw[show lag X 0=0 from rfl];grind)
   |succ i=>exact(a.co i).mul hd
  have e:IB ((if i=0 then b else 0) * K* d^ (l.length+1)) (h+22* l.length+21):=by
   split;exact(hb.mul hp).mono (by omega);exact(IB.zero _).eq (by grind)
  refine(((s1.add s2).add e).eq ?_).mono (by omega);grind
theorem HS_shift'{c d K:Rat}{h N:Nat}(d0:d≠0)(hd:IB d 20)(hc:IB (c* d) 20){l:List Rat}(H:HS l K h)(hl:l.length≤N+1):∃K',HS (ca [c,1] l) K' (h+22* N):=by
 cases l with
 |nil=>exact⟨K,H.mono (by omega)⟩
 |cons b l=>
  rw[List.length_cons] at hl;exact⟨_,(xh d0 hd hc l b H).mono (by omega)⟩
theorem jr(c:Rat):∀l:List Rat,(ca [c,1] l).length≤l.length
 |[]=>Nat.le_refl _
 |a::l=>by
  have h1:=kU (aJ (ca [c,1] l) [c,1]) (b9 a);have b:=pH (ca [c,1] l) c;have e:=jr c l;have d:=kP a;rw[List.length_cons];show(fV (aJ (ca [c,1] l) [c,1]) (b9 a)).length≤_;omega
theorem ow{c d K:Rat}{h N:Nat}(d0:d≠0)(hd:IB d 20)(hc:IB (c* d) 20)(hq:qs c≤20)(h1:1≤h)(hN:(N+1) * (h+22* N+22)≤100000000)(hN2:N≤1000):∀(l:List Rat),l.length≤N+1→HS l K h→iu [c,1] l
 |[],_,_=>trivial
 |a::l,hl,H=>by
  rw[List.length_cons] at hl;have Ht:HS l K h:=⟨H.ne,H.sc,fun i=>H.co (i+1)⟩;obtain⟨n,g⟩:=HS_shift' (N:=N) d0 hd hc Ht (by omega);have hb:=g.bdL (by omega);have m:=dz hb (by omega);have j:=jr c l;have k:=pH (ca [c,1] l) c
  have f:mxL [c,1]≤20:=dz (fun q b=>by
   rcases List.mem_cons.1 b with rfl|b
   exact hq;rw[List.mem_singleton.1 b];exact Nat.le_trans (by decide:qs 1≤1) (by decide)) (by decide)
  have ha:=H.bdL h1 a (List.mem_cons_self ..);have e:(ca [c,1] l).length* (mxL (ca [c,1] l)+mxL [c,1]+1)≤(N+1) * (h+22* N+22):=Nat.mul_le_mul (by omega) (by omega);have e2:h≤(N+1) * (h+22* N+22):=Nat.le_trans (by omega) (Nat.le_mul_of_pos_left _ (by omega));refine⟨ow d0 hd hc hq h1 hN hN2 l (by omega) Ht,⟨by omega,by omega,by omega,by simp⟩,by unfold sm;omega,by omega⟩
end Go.Abs
