/- Part V16 of the proof. -/
import Derived.Test.YtkhclghbcicapaaGreatDoorV15
set_option linter.all false
namespace Go.Abs
theorem syn_co(S:List Rat)(r:Rat)(i:Nat):coP S i=coP (af S r::od S r) i- r* coP (od S r) i:=by
 have:=trim_iff.1 (jo (p:=S) (q:=ku (af S r::od S r) (eU (od S r) (-r))) fun x=>by
  rw[fG,dT,aE,ny S r x];grind) i
 rw[this,iC,gi];grind
theorem Gm{K:Rat}(h:1≤K):∀{n:Nat},1≤K^ n
 |0=>by grind
 |n+1=>by
  have a:=Gm h (n:=n);rw[Rat.pow_succ];have:=Rat.mul_le_mul_of_nonneg_left h (show 0≤K^ n by grind);grind
theorem newt{M:Nat}{K:Rat}(hK:K=((2* M+3:Nat):Int)):∀(d:Nat) (S:List Rat) (xs:List Nat) (B:Rat),S.length≤d+1→d+1≤xs.length→xs.Nodup→(∀x∈xs,x≤M)→0≤B→(∀x∈xs,ab (af S ((x:Int):Rat))≤B)→∀i,ab (coP S i)≤B* K^ d
 |0,S,xs,B,hS,hx,_,_,hB,hv,i=>by
  rw[Rat.pow_zero,Rat.mul_one];cases xs with
  |nil=>grind
  |cons x xs=>
   have h:=hv x (List.mem_cons_self ..);cases S with
   |nil=>rw[jL,kN];grind
   |cons a l=>
    have:l=[]:=List.length_eq_zero_iff.1 (by grind);subst this;rw[aE,aM] at h;cases i with
    |zero=>rw[dx];grind
    |succ i=>rw[dj,jL,kN];grind
 |d+1,S,xs,B,hS,hx,hnd,hM,hB,hv,i=>by
  cases xs with
  |nil=>grind
  |cons r xs=>
   rw[List.nodup_cons] at hnd;have E:=hv r (List.mem_cons_self ..);have u:=hM r (List.mem_cons_self ..)
   have m:=newt hK d (od S ((r:Int):Rat)) xs (2* B) (by rw[zk];omega) (by simp at hx;omega) hnd.2 (fun x h=>hM x (List.mem_cons_of_mem _ h)) (by grind) fun y o=>by
    have h1:=ny S ((r:Int):Rat) ((y:Int):Rat);have s:=hv y (List.mem_cons_of_mem _ o);have k:y≠r:=fun h=>hnd.1 (h▸o)
    have q:1≤ab (((y:Int):Rat)- ((r:Int):Rat)):=by
     rw[←Rat.intCast_sub];exact IB.one_le (h:=bl ((y:Int)- r).natAbs) ⟨_,rfl,Nat.le_refl _⟩ fun g=>k (by have:=Rat.intCast_inj.1 (g.trans Rat.intCast_zero.symm);omega)
    have p:af (od S ((r:Int):Rat)) ((y:Int):Rat) * (((y:Int):Rat)- ((r:Int):Rat))=af S ((y:Int):Rat)+ -af S ((r:Int):Rat):=by grind
    have t:=gO (af S ((y:Int):Rat)) (-af S ((r:Int):Rat));rw[←p,cJ,sI] at t;have w:=Rat.mul_le_mul_of_nonneg_left q (cW (af (od S ((r:Int):Rat)) ((y:Int):Rat)));grind
   have f:0≤K^ d:=by
    have:(0:Rat)≤K:=by rw[hK];exact Rat.intCast_nonneg.2 (by omega)
    exact Rat.pow_nonneg this
   have b:=Gm (n:=d) (show(1:Rat)≤K by rw[hK,show(1:Rat)=((1:Int):Rat) from rfl,Rat.intCast_le_intCast];omega)
   have j:ab (((r:Int):Rat))≤((M:Int):Rat):=by
    rw[ab_le,←Rat.intCast_neg,Rat.intCast_le_intCast,Rat.intCast_le_intCast];omega
   have c:K=2* ((M:Int):Rat)+3:=by
    rw[hK,Int.natCast_add,Int.natCast_mul,Rat.intCast_add,Rat.intCast_mul];rfl
   have e:=syn_co S ((r:Int):Rat) i;have v:=gO (coP (af S ((r:Int):Rat)::od S ((r:Int):Rat)) i) (-(((r:Int):Rat) * coP (od S ((r:Int):Rat)) i));rw[sI,←Rat.sub_eq_add_neg,←e,cJ] at v;have A:=dr j (m i) (cW _) (show(0:Rat)≤((M:Int):Rat) from Rat.intCast_nonneg.2 (by omega))
   have z:ab (coP (af S ((r:Int):Rat)::od S ((r:Int):Rat)) i)≤2* B* K^ d+B* K^ d:=by
    have D:=Rat.mul_nonneg hB f;have C:=Rat.mul_le_mul_of_nonneg_left b hB;cases i with
    |zero=>rw[dx];grind
    |succ i=>rw[dj];have:=m i;grind
   have e2:B* K^ (d+1)=2* B* K^ d+B* K^ d+((M:Int):Rat) * (2* B* K^ d):=by
    rw[Rat.pow_succ];generalize K^ d=Q at *
    rw[c];grind
   grind
theorem vd(f:Nat→Bool):∀l:List Nat,(l.filter f).length+(l.filter fun x=>!f x).length=l.length
 |[]=>rfl
 |a::l=>by
  have:=vd f l;grind
theorem pts{p:List Rat}(hp:nz p)(d:Nat):∃xs:List Nat,xs.Nodup∧d+1≤xs.length∧∀x∈xs,x≤dg p+d∧af p ((x:Int):Rat)≠0:=by
 have h:=vd (fun x:Nat=>decide (af p ((x:Int):Rat)≠0)) (List.range (dg p+d+1));rw[List.length_range] at h;refine⟨(List.range (dg p+d+1)).filter fun x:Nat=>decide (af p ((x:Int):Rat)≠0),List.nodup_range.filter _,?_,fun x b=>?_⟩;by_cases g:dg p+1≤((List.range (dg p+d+1)).filter fun x:Nat=>!decide (af p ((x:Int):Rat)≠0)).length;exfalso;have c:(aj p).length≤dg p+1:=by unfold dg;omega
 have:=o8 (dg p+1) (aj p) (((List.range (dg p+d+1)).filter fun x:Nat=>!decide (af p ((x:Int):Rat)≠0)).map fun x:Nat=>((x:Int):Rat)) c (by grind)
  (List.Pairwise.map _ (fun i j a e=>a (by have:=Rat.intCast_inj.1 e;omega)) (List.nodup_range.filter _)) fun x b=>by
   obtain⟨i,f,rfl⟩:=List.mem_map.1 b;rw[cb];grind
 apply hp;exact trim_nil_iff.2 fun i=>by rw[←b9];exact qN this i
 omega;grind
theorem HH{p s:List Rat}{h n:Nat}(hp:nz p)(hs:Dv s p)(H:Ht p h)(hn:dg p≤n)(h15:n≤15):Ht s (h+12* n+8):=by
 obtain⟨g,e⟩:=hs;have v:∀x,af p x=af s x* af g x:=fun x=>by grind
 obtain⟨k,A,o⟩:=H;obtain⟨κ,f,t,hf,hv⟩:=HF hp v A fun i=>by obtain⟨z,C,_⟩:=o i;grind
 have D:dg s≤n:=Nat.le_trans (Dv.dg ⟨g,e⟩ hp) hn;obtain⟨xs,B,w,l⟩:=pts hp (dg s)
 have u:=newt (M:=30) (K:=63) (by grind) (dg s) (aL (aj s) κ) xs (p2 (h+6* (n+1))) (by have:=dk (aj s) κ;unfold dg;omega) w B (fun x j=>by grind) (Rat.le_of_lt (dl _)) fun x j=>by
  have h1:=hv (x:Int) (l x j).2;rw[aR,cb];refine Rat.le_trans h1 ?_
  have a:=fu (R:=p2 5) (x:=((x:Int):Rat)) (Rat.le_of_lt (dl 5)) (by
   rw[ab_le];unfold p2;rw[←Rat.intCast_neg,Rat.intCast_le_intCast,Rat.intCast_le_intCast];have:=(l x j).1;omega) (aL (aj p) k)
  rw[aR,cb] at a;refine Rat.le_trans a (Rat.le_trans (Bg (r:=5) (H:=h) _ fun c hc=>?_) (eM ?_));obtain⟨i,_,e⟩:=mh hc;rw[←e,cO,b9];exact IB.ab (h:=h) (o i);have:=dk (aj p) k;unfold dg at hn;grind
 refine⟨κ,t,fun i=>⟨f i,hf i,?_⟩⟩;have h1:=u i;rw[cO,b9,hf] at h1
 have b:∀d,(63:Rat) ^ d≤p2 (6* d):=fun d=>by
  induction d with
  |zero=>rw[Rat.pow_zero];exact Rat.le_refl
  |succ d y=>
   rw[Rat.pow_succ,Nat.mul_succ,eC];have:(63:Rat)≤p2 6:=by decide+kernel
   exact dr y this (by decide+kernel) (Rat.le_of_lt (dl _))
 have a:=Rat.mul_le_mul_of_nonneg_left (b (dg s)) (Rat.le_of_lt (dl (h+6* (n+1))));rw[←eC] at a;have q:=eM (show h+6* (n+1)+6* dg s≤h+12* n+6 by omega);have m:=ab_le.1 (Rat.le_trans h1 (Rat.le_trans a q));unfold p2 at m;rw[←Rat.intCast_neg,Rat.intCast_le_intCast,Rat.intCast_le_intCast] at m;refine ej (Nat.lt_of_le_of_lt (show(f i).natAbs≤2^ (h+12* n+6) by omega) (Nat.pow_lt_pow_right (by decide) (by omega)))
def cH(f N h X T Q:Nat):Bool:=
 decide (N≤12∧1≤h∧1≤X∧X≤137438953472∧2^ 12* (h+2* X+1)≤137438953472∧17* (h+12* N+8)≤34359738368∧h+12* N+8≤T∧12* (T+Q+1)+T+Q+2≤137438953472) &&
 ((List.range (N+1)).all fun m=>(List.range m).all fun n=>hG f m n h (h+5) X) &&
 ((List.range (N+1)).all fun m=>(List.range m).all fun n=>cB f m n (h+12* N+8) (h+12* N+13) (h+12* N+13) T)
theorem me{p:List Rat}{s g:Nat}(hl:(aj p).length≤15)(hb:bdL p s)(hs:1≤s)(hH:Ht p g):bdL (aN p) (s+5)∧Ht (aN p) (g+5):=by
 have e:∀i,coP (aN p) i=coP (aN (aj p)) i:=fun i=>by rw[ed,ed,b9]
 constructor;refine iX fun i=>?_;rw[ed];by_cases hi:i+1< (aj p).length;have h1:=dh (coP p (i+1)) (nQ (i+1));have a:=mA (n:=i+1) (k:=4) (ej (by omega)) (by decide);have b:=fy hb hs (i+1);exact Nat.le_trans h1 (by omega);rw[←b9,d8 (show(aj p).length≤i+1 by omega),Rat.zero_mul];exact Nat.le_trans (by decide:qs 0≤1) (by omega);refine((hH.trim).derive.scale (c:=1) (r:=aN p) (by grind) fun i=>by grind).mono ?_;have:bl (aj p).length≤4:=ej (by omega);omega
theorem kX{p:List Rat}(hp:nz p):(aj p).length=dg p+1:=by have:=List.length_pos_iff.2 hp;unfold dg;omega
theorem countsH{f N h X T Q:Nat}(hc:cH f N h X T Q=true){p:List Rat}(np:nz p)(hl:(aj p).length≤N)(hp:p.length≤1000)(hb:bdL p h)(hH:Ht p h):
    ∃c,fZ f p=some c∧(∀x,qs x≤Q→pW c x∧oe c x)∧c.p.length≤N∧bdL c.p (h+12* N+8)∧Ht c.p (h+12* N+8):=by
 unfold cH at hc;simp only[Bool.and_eq_true,decide_eq_true_eq,List.all_eq_true,List.mem_range] at hc;obtain⟨⟨⟨c0,c1,c2,c3,c4,c5,c6,c7⟩,hg⟩,U⟩:=hc;have hlp:=List.length_pos_iff.2 np;have hdl:=nZ np;have hdt:aj (aN p)=aN p:=cn _;have L:=me (by omega) hb c1 hH;obtain⟨g,R,g2,g3,W⟩:=yo f _ _ h (h+5) X p (aN p) (hg _ (by omega) _ (by grind)) rfl rfl hb L.1 hH L.2 c1 (by omega) hp (by omega) c3;obtain⟨E,V,z2,a,b,z3⟩:=m5 f _ _ _ R (.inl np);obtain⟨u,hu⟩:=V;obtain⟨m1,m2⟩:=kH p E;have hm:=ye (u:=u) (v:=[]) E (fun x=>by rw[hu x,aM];grind) (fun e=>absurd rfl e)
 have hs:∀x,af p x=af (ca p g).1 x* af g x:=fun x=>by
  have:=m1 x;rw[hm x,aM] at this;grind
 obtain⟨D,Z⟩:=iL hs np;have e1:=(dg_mul' D Z hs).2.1;have e2:=(ic D).2.2;have m:=(ic D).2.1;have l1:=kX np;have l2:=kX E;have l3:=kX D;have l4:=kX m;have h1:=dw hb c1;have O:=dw W c2;have s:2^ ((aj p).length+1- (aj g).length)≤2^ 12:=Nat.pow_le_pow_right (by decide) (by omega);have M:=Nat.mul_le_mul s (show mxL p+2* mxL g+1≤h+2* X+1 by omega);have hN:12* (N- 1)≤12* N:=by omega
 have hY:Ht (ca p g).1 (h+12* N+8):=(HH np ⟨g,fun x=>by rw[hs];grind⟩ hH (show dg p≤N by omega) (by omega)).mono (by omega);obtain⟨q1,q2⟩:=hY.monic (by omega);have C:=oI (ca p g).1;obtain⟨q,S⟩:∃q,q=cC (ca p g).1:=⟨_,rfl⟩
 have J:vW f p=some q:=by
  unfold vW;rw[if_pos ⟨eH hb (by omega),by omega⟩,R,Option.bind_some,if_pos ⟨E,by omega,by omega,by omega⟩,S]
 rw[←S] at e2 m l4 q1 q2 C;have K:q.length≤N:=by rw[←C];omega
 generalize hYe:h+12* N+8=Y at *
 rw[show h+12* N+13=Y+5 by omega] at U;have l:1≤Y:=by omega
 obtain⟨p1,p2⟩:=q2.prim m l;obtain⟨k,k0,hk⟩:=nH m;obtain⟨d1,d2,_⟩:=js m (show k≠0 by grind) hk;have G:(aj (bO q)).length=(aj q).length:=by rw[kX d1,kX m,d2]
 have hpl:(bO q).length=(aj (bO q)).length:=by unfold bO;rw[oH]
 have y:=nZ m;have A:aj (aN q)=aN q:=cn _;have w:=me (by omega) q1 l q2;obtain⟨i,o1,o2,o3⟩:=xh f f _ _ Y (Y+5) (Y+5) T (bO q) (aN q) [bO q] (U (aj q).length (by omega) (aN q).length y) G (by rw[A]) rfl p1 p2 w.2 w.1 l (by omega) (by omega) (by omega) (by omega);have F:=dw q1 l;have H:=Nat.mul_le_mul (show q.length+4≤17 by omega) F
 have o:lR f q=some i:=by
  unfold lR;rw[if_pos ⟨eH q1 (by omega),⟨by omega,by omega⟩,m⟩];exact o1
 have j:∀r∈i,nz r∧r.length≤12∧bdL r T:=fun r n=>by
  rcases o3 r n with h|⟨a,b,d⟩
  rw[List.mem_singleton.1 h];exact⟨d1,by omega,fun x B=>Nat.le_trans (p1 x B) c6⟩;exact⟨a,by omega,d⟩
 rw[List.length_singleton] at o2;have t:wD ⟨q,i,chL (i.map sgI) 0 0⟩:=⟨fun r n=>⟨(j r n).1,by have:=(j r n).2.1;omega⟩,by show i.length≤_;omega,rfl⟩
 have z:∀x,qs x≤Q→pW ⟨q,i,chL (i.map sgI) 0 0⟩ x:=fun x B=>⟨t,fun r n=>by
  obtain⟨_,a,b⟩:=j r n;have:=dw b (by omega);have O:=Nat.mul_le_mul a (show mxL r+qs x+1≤T+Q+1 by omega);exact⟨by omega,by omega⟩⟩
 refine⟨⟨q,i,chL (i.map sgI) 0 0⟩,?_,fun x B=>⟨z x B,z x B,?_⟩,K,q1,q2⟩;unfold fZ;rw[J,Option.bind_some,o,Option.bind_some,if_pos t];have O:=Nat.mul_le_mul (show q.length≤12 by omega) (show mxL q+qs x+1≤T+Q+1 by omega);exact⟨by show q.length* (mxL q+qs x+1)+mxL q+qs x+2≤_;omega,by show q.length≤_;omega⟩
theorem i9(bf:Int→Bool){l:List Rat}(h:l≠[]):dJ bf l∈l:=by
 cases l with
 |nil=>grind
 |cons x l=>
  have a:∀(l:List Rat) (o:Rat),l.foldl (fun o y=>if bf (dy y o) then y else o) o∈o::l:=by
   intro l
   induction l with
   |nil=>grind
   |cons y l b=>
    grind
  exact a l x
theorem yg{l:List Rat}:∀x∈l,x≤dH l:=by
 have b:∀(l:List Rat) (o:Rat),o≤l.foldl (fun o y=>if decide (0< dy y o)=true then y else o) o∧∀x∈l,x≤l.foldl (fun o y=>if decide (0< dy y o)=true then y else o) o:=by
  intro l
  induction l with
  |nil=>grind
  |cons y l d=>
   intro o
   have e:o≤(if decide (0< dy y o)=true then y else o)∧y≤(if decide (0< dy y o)=true then y else o):=by
    unfold dy;grind
   grind
 intro x c;cases l with
 |nil=>grind
 |cons a l=>
  have:=b l a;rcases List.mem_cons.1 c with rfl|c
  exact this.1;exact this.2 x c
theorem yd{l:List Rat}:∀x∈l,eN l≤x:=by
 have b:∀(l:List Rat) (o:Rat),l.foldl (fun o y=>if decide (dy y o< 0)=true then y else o) o≤o∧∀x∈l,l.foldl (fun o y=>if decide (dy y o< 0)=true then y else o) o≤x:=by
  intro l
  induction l with
  |nil=>grind
  |cons y l d=>
   intro o
   have e:(if decide (dy y o< 0)=true then y else o)≤o∧(if decide (dy y o< 0)=true then y else o)≤y:=by
    unfold dy;grind
   grind
 intro x c;cases l with
 |nil=>grind
 |cons a l=>
  have:=b l a;rcases List.mem_cons.1 c with rfl|c
  exact this.1;exact this.2 x c
theorem DK{a b:Sp}{x y:Rat}(h1:a.1≤x)(h2:x≤a.2)(h3:b.1≤y)(h4:y≤b.2):(g9 a b).1≤x* y∧x* y≤(g9 a b).2:=by
 have c:∀u v w t:Rat,u≤w→w≤v→(u* t≤w* t∧w* t≤v* t)∨(v* t≤w* t∧w* t≤u* t):=fun u v w t p q=>by
  by_cases g:0≤t;exact .inl ⟨Rat.mul_le_mul_of_nonneg_right p g,Rat.mul_le_mul_of_nonneg_right q g⟩;have h:=Rat.mul_le_mul_of_nonneg_right p (show 0≤ -t by grind);have e:=Rat.mul_le_mul_of_nonneg_right q (show 0≤ -t by grind);grind
 have m:∀z∈fE a b,eN (fE a b)≤z∧z≤dH (fE a b):=fun z d=>⟨yd z d,yg z d⟩;have c1:=m (a.1* b.1) (by simp[fE]);have i:=m (a.1* b.2) (by simp[fE]);have f:=m (a.2* b.1) (by simp[fE]);have k:=m (a.2* b.2) (by simp[fE]);have t1:=c b.1 b.2 y a.1 h3 h4;have t2:=c b.1 b.2 y a.2 h3 h4;have j:=c a.1 a.2 x y h1 h2;show eN (fE a b)≤x* y∧x* y≤dH (fE a b);grind
theorem GB(a b:Sp):(∃x∈[a.1,a.2],∃y∈[b.1,b.2],(g9 a b).1=x* y)∧∃x∈[a.1,a.2],∃y∈[b.1,b.2],(g9 a b).2=x* y:=by
 have h1:=i9 (fun c=>decide (c< 0)) (l:=fE a b) (by simp[fE]);have f:=i9 (fun c=>decide (0< c)) (l:=fE a b) (by grind)
 have d:∀z,z∈fE a b→∃x∈[a.1,a.2],∃y∈[b.1,b.2],z=x* y:=fun z e=>by
  simp only[fE,List.mem_cons,List.not_mem_nil,or_false] at e;rcases e with rfl|rfl|rfl|rfl
  exact⟨_,by simp,_,by simp,rfl⟩;exact⟨a.1,by simp,b.2,by simp,rfl⟩;exact⟨a.2,by simp,b.1,by simp,rfl⟩;grind
 exact⟨d _ h1,d _ f⟩
theorem zT{R D:Rat}(hR:0≤R)(hD:0≤D){s:Sp}(hs:s.1≤s.2)(h1:ab s.1≤R)(h2:ab s.2≤R)(hw:s.2- s.1≤D)(v:Rat):∀l:List Rat,(ovP (v,v) s l).1≤(ovP (v,v) s l).2∧ab (ovP (v,v) s l).1≤bV R (l++[v])∧ab (ovP (v,v) s l).2≤bV R (l++[v])∧(ovP (v,v) s l).2- (ovP (v,v) s l).1≤bL R (l++[v]) * D∧
      ∀x,s.1≤x→x≤s.2→(ovP (v,v) s l).1≤af (l++[v]) x∧af (l++[v]) x≤(ovP (v,v) s l).2
 |[]=>by
  show v≤v∧ab v≤bV R [v]∧ab v≤bV R [v]∧v- v≤bL R [v] * D∧∀x,_;rw[bV,bV,bL,bL,bV];refine⟨by grind,by grind,by grind,by grind,fun x _ _=>?_⟩;show v≤af [v] x∧af [v] x≤v;rw[aE,aM];grind
 |a::l=>by
  obtain⟨i1,i2,G,F,p⟩:=zT hR hD hs h1 h2 hw v l;rw[List.cons_append,bV,bL,show ovP (v,v) s (a::l)=zp (g9 (ovP (v,v) s l) s) (a,a) from rfl];generalize ovP (v,v) s l=w at *
  have q:=lM hR (l++[v]);have B:=rg hR (l++[v]);obtain⟨⟨x,r,y,o,e1⟩,d,g,f,h,e2⟩:=GB w s
  have k:∀z∈[w.1,w.2],ab z≤bV R (l++[v])∧w.1≤z∧z≤w.2:=fun z j=>by
   grind
  have e:∀z∈[s.1,s.2],ab z≤R∧s.1≤z∧z≤s.2:=fun z j=>by
   grind
  have mag:∀z∈[w.1,w.2],∀u∈[s.1,s.2],ab (z* u)≤bV R (l++[v]) * R:=fun z j u C=>by
   rw[cJ];exact dr (k z j).1 (e u C).1 (cW _) q
  have m1:=mag x r y o;have m2:=mag d g f h;rw[←e1] at m1;rw[←e2] at m2;have le:=DK (a:=w) (b:=s) (x:=w.1) (y:=s.1) (by grind) i1 (by grind) hs;have i:∀z:Rat,ab z≤bV R (l++[v]) * R→ab (z+a)≤bV R (l++[v]) * R+ab a:=fun z j=>by have:=gO z a;grind
  have t:(g9 w s).2- (g9 w s).1≤(bL R (l++[v]) * R+bV R (l++[v])) * D:=by
   rw[e1,e2];have E:d* f- x* y=d* (f- y)+(d- x) * y:=by grind
   have A:=gO (d* (f- y)) ((d- x) * y);rw[←E,cJ,cJ] at A;have d1:ab (f- y)≤D:=by have:=e y o;have:=e f h;exact ab_le.2 ⟨by grind,by grind⟩
   have d2:ab (d- x)≤bL R (l++[v]) * D:=by have:=k x r;have:=k d g;exact ab_le.2 ⟨by grind,by grind⟩
   have J:=dr (k d g).1 d1 (cW _) q;have H:=dr d2 (e y o).1 (cW _) (Rat.mul_nonneg B hD);have g3:=ab_le (x:=d* f- x* y) (c:=ab (d* f- x* y))|>.1 Rat.le_refl;grind
  refine⟨?_,i _ m1,i _ m2,?_,fun z n m=>?_⟩;show(g9 w s).1+a≤(g9 w s).2+a;grind;show(g9 w s).2+a- ((g9 w s).1+a)≤_;grind;have:=DK (p z n m).1 (p z n m).2 n m;rw[aE];show(g9 w s).1+a≤_∧_≤(g9 w s).2+a;grind
theorem DF{t u:Nat}{s:Sp}(h1:qs s.1≤t)(h2:qs s.2≤t){v:Rat}(hv:qs v≤u):∀l:List Rat,bdL l u→qs (ovP (v,v) s l).1≤u+l.length* (t+u+1)∧qs (ovP (v,v) s l).2≤u+l.length* (t+u+1)∧(∀q∈fE (ovP (v,v) s l) s,qs q≤u+l.length* (t+u+1)+t)
 |[],_=>by
  have g:∀z∈[(ovP (v,v) s []).1,(ovP (v,v) s []).2],qs z≤u:=fun z i=>by
   have:z=v:=by simp[ovP] at i;grind
   grind
  refine⟨by grind,by grind,fun q b=>?_⟩;simp only[fE,List.mem_cons,List.not_mem_nil,or_false] at b;rcases b with rfl|rfl|rfl|rfl <;> refine Nat.le_trans (dh _ _) ?_ <;> simp[ovP]<;> omega
 |a::l,hb=>by
  obtain⟨i1,i2,d⟩:=DF h1 h2 hv l fun q b=>hb q (List.mem_cons_of_mem _ b);have ha:=hb a (List.mem_cons_self ..);have m1:=d _ (i9 (fun c=>decide (c< 0)) (l:=fE (ovP (v,v) s l) s) (by simp[fE]));have m2:=d _ (i9 (fun c=>decide (0< c)) (l:=fE (ovP (v,v) s l) s) (by simp[fE]));have e:u+(a::l).length* (t+u+1)=u+l.length* (t+u+1)+t+u+1:=by grind
  have f:qs (ovP (v,v) s (a::l)).1≤u+(a::l).length* (t+u+1):=by
   rw[e];exact Nat.le_trans (fQ _ _) (by show qs (eN _)+qs a+1≤_;unfold eN;omega)
  have h:qs (ovP (v,v) s (a::l)).2≤u+(a::l).length* (t+u+1):=by
   rw[e];exact Nat.le_trans (fQ _ _) (by show qs (dH _)+qs a+1≤_;unfold dH;omega)
  refine⟨f,h,fun q b=>?_⟩;simp only[fE,List.mem_cons,List.not_mem_nil,or_false] at b;rcases b with rfl|rfl|rfl|rfl <;> refine Nat.le_trans (dh _ _) ?_ <;> omega
theorem ov_ok{t u:Nat}{s:Sp}(h1:qs s.1≤t)(h2:qs s.2≤t){v:Rat}(hv:qs v≤u):∀l:List Rat,bdL l u→u+l.length* (t+u+1)+t≤137438953472→B1 (v,v) s l
 |[],_,h=>⟨Nat.le_trans hv (by omega),Nat.le_trans hv (by omega)⟩
 |a::l,hb,h=>by
  have e:u+(a::l).length* (t+u+1)=u+l.length* (t+u+1)+t+u+1:=by grind
  have b:bdL l u:=fun q c=>hb q (List.mem_cons_of_mem _ c);obtain⟨_,_,g⟩:=DF h1 h2 hv l b;obtain⟨d,f,_⟩:=DF h1 h2 hv (a::l) hb;exact⟨ov_ok h1 h2 hv l b (by omega),fun q c=>Nat.le_trans (g q c) (by omega),Nat.le_trans (hb a (List.mem_cons_self ..)) (by omega),⟨Nat.le_trans d (by omega),Nat.le_trans f (by omega)⟩⟩
theorem rise{q:List Rat}{x y e:Rat}(hxy:x≤y)(he:0< e)(hd:∀z,x≤z→z≤y→e≤dvE q z):af q x≤af q y:=by
 have c:=kY x y;have k:=Bj c q;obtain⟨h,l,h1⟩:=part e (d:=bT (ab x+ab y) q+1) he (by grind)
 have w:=way (f:=fun z=>if af q x≤af q z then(1:Int) else 0) (fun s t=>s=1→t=1) (fun _ h=>h) (fun _ _ _ a b h=>b (a h)) l hxy fun u v i o g3 j r=>by
  by_cases g:af q x≤af q u;have t:=nX c (iD i (show u≤y by grind)) (iD (show x≤v by grind) g3) q;rw[show ab (v- u)=v- u by unfold ab;grind] at t;have t2:=(ab_le.1 t).1;have p:=Rat.mul_le_mul_of_nonneg_left (hd u i (by grind)) (show 0≤v- u by grind);have m:=Rat.mul_le_mul_of_nonneg_left j k;have n:=Rat.mul_le_mul_of_nonneg_right (show bT (ab x+ab y) q* (v- u)≤e by grind) (show 0≤v- u by grind);rw[if_pos (by grind)];grind
 grind
theorem fall{q:List Rat}{x y e:Rat}(hxy:x≤y)(he:0< e)(hd:∀z,x≤z→z≤y→dvE q z≤ -e):af q y≤af q x:=by
 have:=rise (q:=aL q (-1)) hxy he fun z a b=>by
  rw[w9 (p:=q) (k:= -1) fun x=>aR q (-1) x];grind
 rw[aR,aR] at this;grind
theorem Far.pos{p:List Rat}{x y z:Rat}(h:Far p x y)(h1:x≤z)(h2:z≤y)(hz:0< af p z):∃e:Rat,0< e∧∀w,x≤w→w≤y→e≤af p w:=by
 have d:=h.sg h1 h2;have hs:=h;obtain⟨e,c,hf⟩:=h;refine⟨e,c,fun w a b=>?_⟩;have s1:=hs.sg a b;have:=fX hz;rcases pu (hf w a b) with g|g
 exact g;have:=jb (q:=p) (x:=w) (by grind);omega
theorem Far.neg{p:List Rat}{x y z:Rat}(h:Far p x y)(h1:x≤z)(h2:z≤y)(hz:af p z< 0):∃e:Rat,0< e∧∀w,x≤w→w≤y→af p w≤ -e:=by
 have d:=h.sg h1 h2;have hs:=h;obtain⟨e,c,hf⟩:=h;refine⟨e,c,fun w a b=>?_⟩;have s1:=hs.sg a b;have:=jb hz;rcases pu (hf w a b) with g|g
 have:=fX (q:=p) (x:=w) (by grind);omega;exact g
theorem zX{q:List Rat}{A B v:Rat}(hv:0< v):∃δ:Rat,0< δ∧∀x y,A≤x→x≤B→A≤y→y≤B→ab (y- x)≤δ→v≤af q x→v/ 2≤af q y:=by
 have a:=kY A B;have e:=rg a q;obtain⟨δ,d0,d1⟩:=part (v/ 2) (d:=bL (ab A+ab B) q+1) (by grind) (by grind);refine⟨δ,d0,fun x y c b b1 b2 h f=>?_⟩;have q1:=ie a (iD c b) (iD b1 b2) q;have q2:=Rat.mul_le_mul_of_nonneg_left h e;have q3:=ab_le.1 (show ab (af q y- af q x)≤v/ 2 by grind);grind
section
variable {f:Nat}{q d:List Rat}{c:Cnt}{σ:Rat}(h:fZ f d=some c)(hd:nz d)(hσ:σ=1∨σ= -1)(hdq:∀z,dvE q z=σ* af d z)
include hσ hdq
theorem slope{x y z:Rat}(hF:Far d x y)(h1:x≤z)(h2:z≤y):∃e:Rat,0< e∧(0< dvE q z→∀w,x≤w→w≤y→e≤dvE q w)∧(dvE q z< 0→∀w,x≤w→w≤y→dvE q w≤ -e):=by
 have hd:Far (aL d σ) x y:=hF.k (k:=σ) (by rcases hσ with g|g <;> rw[g]<;> decide) fun z=>by rw[aR]
 have e:∀w,dvE q w=af (aL d σ) w:=fun w=>by rw[hdq,aR];grind
 by_cases g:0< dvE q z;obtain⟨ε,a,b⟩:=hd.pos h1 h2 (by rw[←e];exact g);exact⟨ε,a,fun _ w w1 w2=>by rw[e];exact b w w1 w2,fun g'=>by grind⟩;by_cases g2:dvE q z< 0;obtain⟨ε,a,b⟩:=hd.neg h1 h2 (by rw[←e];exact g2);exact⟨ε,a,fun g'=>absurd g' g,fun _ w w1 w2=>by rw[e];exact b w w1 w2⟩;exact⟨1,by decide+kernel,fun g'=>absurd g' g,fun g'=>absurd g' g2⟩
include h hd
theorem zL{A B:Rat}(hA:af q A≤0)(hB:af q B≤0)(hr:∀i,aZ c A≤i→i< bU c B→¬Sgn c i q 1):∀x,A≤x→x≤B→af q x≤0:=fun x hAx hxB=>by
 by_cases hq:af q x≤0;exact hq;exfalso;have hx0:0< af q x:=by grind
 have belA:aZ c A≤aZ c x:=by
  by_cases e:A=x;rw[e];exact Int.le_refl _;have:=eQ h hd (show A< x by grind);have:=(e9 (c:=c) h hd A).1;omega
 have upB:=gt h hd hxB;by_cases hz:af c.p x=0
 -- a root of the derivative
 have e:aZ c x=bU c x- 1:=by unfold aZ;grind
 refine hr (aZ c x) belA (by omega) ⟨x,x,⟨Rat.le_refl,Int.le_refl _,by omega⟩,⟨af q x,hx0,fun z a b=>?_⟩,fX hx0⟩;have:z=x:=by grind
 rw[this];exact kO (.inl Rat.le_refl) (by grind);have e:aZ c x=bU c x:=by unfold aZ;grind
 obtain⟨δ,d0,hδ⟩:=zX (q:=q) (A:=A) (B:=B) hx0;obtain⟨η,n0,hη⟩:=zX (q:=q) (A:=A) (B:=B) (v:=af q x/ 2) (by grind)
 have hdx:dvE q x≠0:=by
  have:=((gD h hd (show x≤x by grind)).1 e.symm).ne (z:=x) (by grind) (by grind);grind
 rcases(show 0< dvE q x∨dvE q x< 0 by grind) with hp|hn
 -- to the right
 have right:∀u,x≤u→u≤B→bU c u≤bU c x→af q x≤af q u:=fun u a b hu=>by
  have:=gt h hd a;have hF:=(gD h hd a).1 (show bU c u=aZ c x by omega);obtain⟨ε,e0,he,_⟩:=slope hσ hdq hF (show x≤x by grind) a;exact rise a e0 (he hp)
 by_cases hj:bU c x< bU c B;obtain⟨u,v,u1,v1,w1,hu⟩:=vN h hd (i:=bU c x) ⟨hxB,by omega,hj⟩ n0
 -- before u nothing is counted
 have hqu:af q x/ 2≤af q u:=by
  by_cases g:u≤x+δ;exact hδ x u hAx hxB (by grind) (by have:=hu.1;grind) (ab_le.2 ⟨by grind,by grind⟩) Rat.le_refl;have k1:=eQ h hd (show u- δ< u by grind);have k2:=right (u- δ) (by grind) (by have:=hu.1;grind) (by have:=hu.2.1;omega)
  exact Rat.le_trans (show af q x/ 2≤af q x/ 2 from Rat.le_refl) (by
   have:=hδ (u- δ) u (by grind) (by have:=hu.1;grind) (by grind) (by have:=hu.1;grind) (ab_le.2 ⟨by grind,by grind⟩) k2;exact this)
 refine hr (bU c x) (by omega) hj ⟨u,v,hu,⟨af q x/ 2/ 2,by grind,fun z a b=>?_⟩,fX (by grind)⟩;have:=hη u z (by grind) (by have:=hu.1;grind) (by grind) (by grind) (ab_le.2 ⟨by grind,by grind⟩) hqu;exact kO (.inl this) (by grind);have:=right B hxB (by grind) (by omega);grind
 have left:∀u,A≤u→u≤x→bU c x≤aZ c u→af q x≤af q u:=fun u a b hu=>by
  have:=gt h hd b;have:=(e9 (c:=c) h hd u).1;have hF:=(gD h hd b).1 (show bU c x=aZ c u by omega);obtain⟨ε,e0,_,he⟩:=slope hσ hdq hF b (show x≤x by grind);exact fall b e0 (he hn)
 by_cases hj:aZ c A< bU c x;obtain⟨u,v,u1,v1,w1,hu⟩:=vN h hd (i:=bU c x- 1) (x:=A) (y:=x) ⟨hAx,by omega,by omega⟩ n0
 have hqv:af q x/ 2≤af q v:=by
  by_cases g:x- δ≤v;exact hδ x v hAx hxB (by have:=hu.1;grind) (by grind) (ab_le.2 ⟨by grind,by grind⟩) Rat.le_refl;have k1:=eQ h hd (show v< v+δ by grind);have k2:=left (v+δ) (by have:=hu.1;grind) (by grind) (by have:=hu.2.2;omega);exact hδ (v+δ) v (by have:=hu.1;grind) (by grind) (by have:=hu.1;grind) (by grind) (ab_le.2 ⟨by grind,by grind⟩) k2
 have hpu:0< af q u:=by
  have:=hη v u (by have:=hu.1;grind) (by grind) (by grind) (by have:=hu.1;grind) (ab_le.2 ⟨by grind,by have:=hu.1;grind⟩) hqv;grind
 refine hr (bU c x- 1) (by omega) (by omega) ⟨u,v,hu,⟨af q x/ 2/ 2,by grind,fun z a b=>?_⟩,fX hpu⟩;have:=hη v z (by have:=hu.1;grind) (by grind) (by grind) (by grind) (ab_le.2 ⟨by grind,by grind⟩) hqv;exact kO (.inl this) (by grind);grind
end
theorem zt{H:List Rat}{x y:Rat}(hxy:x≤y)(hd:∀z,x≤z→z≤y→0≤dvE H z):af H x≤af H y:=by
 by_cases g:af H x≤af H y;exact g;obtain⟨ε,e0,e1⟩:=part (af H x- af H y) (d:=2* (y- x+1)) (by grind) (by grind)
 have:=rise (q:=ku H [0,ε]) hxy e0 fun z a b=>by
  rw[qQ,show dvE [0,ε] z=ε from by rw[eg,eg,aE,aM,show dvE [] z=0 from rfl];grind];grind
 rw[fG,fG,aE,aE,aM,aE,aE,aM] at this;grind
theorem xU(d:List Rat)(x:Rat):∀k,af (pw d k) x=af d x^ k
 |0=>by unfold pw;rw[aE,aM];grind
 |k+1=>by rw[Rat.pow_succ,←xU d x k];exact ba _ _ _
theorem int_le{F:List Rat}{s a W M:Rat}(hs:s=1∨s= -1)(n:Nat)(hF:∀z,0≤s* (z- a)→s* (z- a)≤W→ab (dvE F z)≤M* (s* (z- a)) ^ n):
    ∀y,0≤s* (y- a)→s* (y- a)≤W→ab (af F y- af F a) * (((n+1:Nat):Int):Rat)≤M* (s* (y- a)) ^ (n+1):=fun y l p=>by
 have hN:(0:Rat)≤(((n+1:Nat):Int):Rat):=Rat.intCast_nonneg.2 (by omega);generalize f:(((n+1:Nat):Int):Rat)=N at *
 have ev:∀z,af [-(s* a),s] z=s* (z- a):=fun z=>by rw[aE,aE,aM];grind
 have dv:∀z,dvE [-(s* a),s] z=s:=fun z=>by rw[eg,eg,aE,aM,show dvE [] z=0 from rfl];grind
 have e:∀z,dvE (pw [-(s* a),s] (n+1)) z=N* (s* (z- a)) ^ n* s:=fun z=>by rw[pw_dv,xU,ev,dv,f]
 -- both signs of F
 have b:∀σ:Rat,σ=1∨σ= -1→σ* (af F y- af F a) * N≤M* (s* (y- a)) ^ (n+1):=fun σ j=>by
  have bd:∀z,0≤s* (z- a)→s* (z- a)≤W→σ* s* dvE F z≤M* (s* (z- a)) ^ n:=fun z k d=>by
   have h1:=hF z k d;have m:=ab_le.1 h1;rcases j with rfl|rfl <;> rcases hs with rfl|rfl <;> grind
  have h:∀z,dvE (ku (eU (pw [-(s* a),s] (n+1)) (M* s* s)) (eU F (-(σ* N)))) z=N* s* (M* (s* (z- a)) ^ n- σ* s* dvE F z):=fun z=>by
   rw[qQ,iV,iV,e];grind
  have c:∀z,af (ku (eU (pw [-(s* a),s] (n+1)) (M* s* s)) (eU F (-(σ* N)))) z=M* (s* (z- a)) ^ (n+1)- σ* N* af F z:=fun z=>by
   rw[fG,dT,dT,xU,ev];grind
  have g:(s* (a- a)) ^ (n+1)=(0:Rat):=by grind
  rcases hs with rfl|rfl
  have:=zt (show a≤y by grind) (H:=ku (eU (pw [-(1* a),1] (n+1)) (M* 1* 1)) (eU F (-(σ* N)))) fun z d i=>by
   rw[h];exact Rat.mul_nonneg (by grind) (by have:=bd z (by grind) (by grind);grind)
  rw[c,c,g] at this;grind
  have:=zt (show y≤a by grind) (H:=eU (ku (eU (pw [-(-1* a),-1] (n+1)) (M* -1* -1)) (eU F (-(σ* N)))) (-1)) fun z d i=>by
   rw[iV,h];have:=Rat.mul_nonneg hN (show 0≤M* (-1* (z- a)) ^ n- σ* -1* dvE F z by have:=bd z (by grind) (by grind);grind);grind
  rw[dT,dT,c,c,g] at this;grind
 have o:=b 1 (.inl rfl);have q:=b (-1) (.inr rfl);unfold ab;split <;> grind
def fc:Nat→Rat
 |0=>1
 |n+1=>fc n* (((n+1:Nat):Int):Rat)
theorem iw:∀n,0< fc n
 |0=>by decide+kernel
 |n+1=>by
  exact Rat.mul_pos (iw n) (by rw[show(0:Rat)=((0:Int):Rat) from rfl,Rat.intCast_lt_intCast];omega)
def eZ(z:Rat):Nat→Rat
 |0=>1
 |k+1=>eZ z k* (z* (1/ (((k+1:Nat):Int):Rat)))
theorem uP(k:Nat):(((k+1:Nat):Int):Rat)≠0:=fun e=>by have:=Rat.intCast_inj.1 (e.trans Rat.intCast_zero.symm);omega
theorem CL(z:Rat):∀k,eZ z k* fc k=z^ k
 |0=>by rw[Rat.pow_zero,eZ,fc];grind
 |k+1=>by
  rw[eZ,fc,Rat.pow_succ,←CL z k];have:=Rat.div_mul_cancel (a:=1) (uP k);generalize (((k+1:Nat):Int):Rat)=N at *
  generalize (1:Rat) / N=M at *
  grind
theorem HD{z:Rat}(hz:0≤z):∀k,0≤eZ z k
 |0=>by rw[eZ];decide
 |k+1=>by
  rw[eZ];refine Rat.mul_nonneg (HD hz k) (Rat.mul_nonneg hz ?_);have h1:(0:Rat)< (((k+1:Nat):Int):Rat):=by rw[show(0:Rat)=((0:Int):Rat) from rfl,Rat.intCast_lt_intCast];omega
  obtain⟨m,m0,m1⟩:=part 1 (d:=(((k+1:Nat):Int):Rat)) (by decide+kernel) h1;rw[←m1,Rat.mul_div_cancel (uP k)];grind
theorem eZ_half{z:Rat}(hz:0≤z){n:Nat}(hn:2* z≤(((n+2:Nat):Int):Rat)):∀j,2* eZ z (n+1+j+1)≤eZ z (n+1+j):=fun j=>by
 have h1:(0:Rat)< (((n+1+j+1:Nat):Int):Rat):=by rw[show(0:Rat)=((0:Int):Rat) from rfl,Rat.intCast_lt_intCast];omega
 have c:2* z≤(((n+1+j+1:Nat):Int):Rat):=Rat.le_trans hn (by rw[Rat.intCast_le_intCast];omega);have i:=Rat.div_mul_cancel (a:=1) (uP (n+1+j));have e:=HD hz (n+1+j);rw[eZ];generalize (((n+1+j+1:Nat):Int):Rat)=N at *
 generalize f:(1:Rat) / N=M at *
 have b:0≤M:=by
  obtain⟨m,m0,m1⟩:=part 1 (d:=N) (by decide+kernel) h1;rw[←m1,Rat.mul_div_cancel (by grind)] at f;grind
 have h:=Rat.mul_le_mul_of_nonneg_right c b;have g:=Rat.mul_le_mul_of_nonneg_left (show 2* z* M≤1 by grind) e;grind
theorem HS.nil:HS [] 1 1:=⟨by decide,IB.one,fun i=>(IB.zero 1).eq (by show 0=(0:Rat) * 1;grind)⟩
section
variable {m:List Rat}{k:Rat}{M n:Nat}(k0:k≠0)(hm:∀i,IB (coP m i* k) M)(hn:∀j,j< n→oN m j≠0)(h7:n≤7)
include k0 hm hn h7
end
theorem zc{x y:Rat}{h:Nat}(H:IB x h)(K:IB y h)(y0:y≠0)(h1:1≤h):qs (x/ y)≤h:=by
 have a:Ht [x,y] h:=⟨1,by decide,fun i=>by
  have:IB (coP [x,y] i* 1) h:=by
   match i with
   |0=>exact H.eq (by show x=x* 1;grind)
   |1=>exact K.eq (by show y=y* 1;grind)
   |i+2=>exact(IB.zero h).eq (by show 0=0* 1;grind)
  obtain⟨z,e,b⟩:=this;exact⟨z,e,b⟩⟩
 exact a.quot 0 1 y0 h1
section
variable {m:List Rat}{s n:Nat}(hm:bdL m s)(hs1:1≤s)(hs:s≤3000)(hl:m.length≤16)(h6:n≤6)(hn:∀j,j< n→0< oN m j)
include hm hs1 hs hl h6 hn
end
theorem nz_int'{n:Int}(h:n≠0):(n:Rat)≠0:=fun e=>h (by have:=congrArg Rat.num e;exact this)
theorem IB.nat{n h:Nat}(hn:bl n≤h):IB (((n:Nat):Int):Rat) h:=⟨n,rfl,by rwa[Int.natAbs_natCast]⟩
theorem ns{x:Rat}{h:Nat}(hx:qs x≤h):IB (x* ((x.den:Int):Rat)) h∧IB (((x.den:Nat):Int):Rat) h∧(((x.den:Nat):Int):Rat)≠0:=by
 have h1:=dV x;have c:=ea x;refine⟨⟨x.num,?_,by omega⟩,IB.nat (by omega),nz_int' (by have:=x.den_pos;omega)⟩;have b:(((x.den:Nat):Int):Rat)≠0:=nz_int' (by have:=x.den_pos;omega);have a:(x.num:Rat) / (((x.den:Nat):Int):Rat)=x:=by rw[←Rat.divInt_eq_div,Rat.num_divInt_den]
 have e2:(x.num:Rat) / (((x.den:Nat):Int):Rat) * (((x.den:Nat):Int):Rat)=(x.num:Rat):=Rat.div_mul_cancel b;rw[a] at e2;exact e2
theorem HS.mono{p:List Rat}{K:Rat}{h k:Nat}(H:HS p K h)(hk:h≤k):HS p K k:=⟨H.ne,H.sc.mono hk,fun i=>(H.co i).mono hk⟩
theorem ze{n h:Nat}(hn:bl n≤h):IB ((n:Int):Rat) h:=⟨n,rfl,by grind⟩
theorem yI:∀n,n≤255→IB (fc n) (8* n+1)
 |0,_=>IB.one
 |n+1,h=>by
  exact((yI n (by omega)).mul (ze (h:=8) (ej (by omega)))).mono (by omega)
theorem AD:∀n i,i< n→n≤255→∃z:Rat,IB z (8* n+1)∧z* (((i+1:Nat):Int):Rat)=fc n
 |0,_,h,_=>by omega
 |n+1,i,h,hn=>by
  by_cases e:i=n;subst e;exact⟨fc i,(yI i (by omega)).mono (by omega),by rw[fc]⟩;obtain⟨z,a,b⟩:=AD n i (by omega) (by omega);refine⟨z* (((n+1:Nat):Int):Rat),(a.mul (ze (h:=8) (ej (by omega)))).mono (by omega),?_⟩;rw[fc];grind
theorem HS.bdL{p:List Rat}{K:Rat}{h:Nat}(H:HS p K h)(h1:1≤h):Abs.bdL p h:=fun q a=>by
 obtain⟨i,_,e⟩:=mh a;have:=zc (H.co i) H.sc H.ne h1;rw[Rat.mul_div_cancel H.ne] at this;grind
theorem HS.integral{p:List Rat}{K:Rat}{h L:Nat}(H:HS p K h)(hl:p.length≤L)(hL:L≤255):HS (ax p) (K* fc L) (h+8* L+1) where
 ne e:=(Rat.mul_eq_zero.1 e).elim H.ne (by have:=iw L;grind)
 sc:=(H.sc.mul (yI L hL)).mono (by omega)
 co i:=by
  rw[fH];cases i with
  |zero=>exact(IB.zero _).eq (by grind)
  |succ i=>
   by_cases g:i< L;obtain⟨z,b,c⟩:=AD L i g hL;refine((H.co i).mul b).eq ?_|>.mono (by omega);have:=Rat.div_mul_cancel (a:=coP p i) (uP i);grind;rw[d8 (by omega)];exact(IB.zero _).eq (by grind)
theorem ve{K x d:Rat}{h e:Nat}(hd:IB d e)(hx:IB (x* d) e):∀(l:List Rat),(∀c∈l,IB (c* K) h)→IB (af l x* (K* d^ l.length)) (h+l.length* (e+2))
 |[],_=>(IB.zero _).eq (by rw[aM];grind)
 |a::l,hl=>by
  have b:=ve hd hx l fun c hc=>hl c (List.mem_cons_of_mem _ hc);have ha:=hl a (List.mem_cons_self ..)
  have hp:∀n:Nat,IB (d^ n) (n* e+1):=fun n=>by
   induction n with
   |zero=>rw[Rat.pow_zero];exact IB.one.mono (by omega)
   |succ n b=>rw[Rat.pow_succ];exact(b.mul hd).mono (by grind)
  have e2:(a::l).length* (e+2)=l.length* (e+2)+e+2:=by grind
  have s1:=b.mul hx;have s2:=ha.mul (hp (l.length+1));have f:l.length* (e+2)=l.length* e+l.length* 2:=by grind
  have g:(l.length+1) * e=l.length* e+e:=Nat.succ_mul _ _;refine(((s1.mono (show _≤h+l.length* (e+2)+e+1 by omega)).add (s2.mono (by omega))).eq ?_).mono (by omega);rw[aE];grind
theorem HS.all{p:List Rat}{K:Rat}{h:Nat}(H:HS p K h):∀c∈p,IB (c* K) h:=fun c hc=>by
 obtain⟨i,_,e⟩:=mh hc;rw[←e];exact H.co i
theorem HS.k{p:List Rat}{K l d:Rat}{h e:Nat}(H:HS p K h)(d0:d≠0)(hd:IB d e)(hl:IB (l* d) e):HS (aL p l) (K* d) (h+e) where
 ne g:=(Rat.mul_eq_zero.1 g).elim H.ne d0
 sc:=H.sc.mul hd
 co i:=by rw[cO];exact((H.co i).mul hl).eq (by grind)
theorem HS.rescale{p:List Rat}{K d:Rat}{h e:Nat}(H:HS p K h)(d0:d≠0)(hd:IB d e):HS p (K* d) (h+e) where
 ne g:=(Rat.mul_eq_zero.1 g).elim H.ne d0
 sc:=H.sc.mul hd
 co i:=((H.co i).mul hd).eq (by grind)
theorem HS.less{p:List Rat}{K v:Rat}{h:Nat}(H:HS p K h)(hv:IB (v* K) h):HS (ci p (b6 v)) K (h+1) where
 ne:=H.ne
 sc:=H.sc.mono (by omega)
 co i:=by
  rw[gE,lE];split;exact((H.co i).add hv.neg).eq (by grind);exact((H.co i).mono (by omega)).eq (by grind)
theorem HS.plus{p q:List Rat}{K:Rat}{h:Nat}(H:HS p K h)(G:HS q K h):HS (fO p q) K (h+1) where
 ne:=H.ne
 sc:=H.sc.mono (by omega)
 co i:=by rw[eP];exact((H.co i).add (G.co i)).eq (by grind)
theorem uj(p:List Rat)(v:Rat):ci p [v]=ci p (b6 v):=by
 have h1:aj (ci p [v])=ci p [v]:=by unfold ci fO;exact cn _
 have a:aj (ci p (b6 v))=ci p (b6 v):=by unfold ci fO;exact cn _
 rw[←h1,←a];exact eqv_trim.1 fun x=>by rw[dF,dF,kK,aE,aM];grind
theorem jd{d:Rat}{e:Nat}(hd:IB d e):∀n:Nat,IB (d^ n) (n* e+1)
 |0=>by rw[Rat.pow_zero];exact IB.one.mono (by omega)
 |n+1=>by rw[Rat.pow_succ];exact((jd hd n).mul hd).mono (by rw[Nat.succ_mul];omega)
def CS(p:List Rat)(n:Nat):List Rat:=aj (p.take (n+1))
theorem AW(p:List Rat)(n i:Nat):coP (p.take n) i=if i< n then coP p i else 0:=by
 unfold coP;rw[List.getD_eq_getElem?_getD,List.getD_eq_getElem?_getD,List.getElem?_take];split <;> rfl
theorem tP(p:List Rat)(n i:Nat):coP (CS p n) i=if i≤n then coP p i else 0:=by
 rw[CS,b9,AW];by_cases h:i≤n;rw[if_pos h,if_pos (by omega)];rw[if_neg h,if_neg (by omega)]
theorem AS(p:List Rat)(n:Nat):(CS p n).length≤n+1:=by
 have h1:=bJ (p.take (n+1));have a:(p.take (n+1)).length≤n+1:=by rw[List.length_take];omega
 unfold CS;omega
theorem HS.cut{p:List Rat}{K:Rat}{h:Nat}(H:HS p K h)(n:Nat):HS (CS p n) K h:=⟨H.ne,H.sc,fun i=>by
 rw[tP];split;exact H.co i;exact(IB.zero h).eq (by grind)⟩
theorem HS.plus2{p q:List Rat}{K K':Rat}{h h':Nat}(H:HS p K h)(G:HS q K' h'):HS (fO p q) (K* K') (h+h'+1):=
 (H.rescale G.ne G.sc).plus ((Rat.mul_comm K' K▸G.rescale H.ne H.sc).mono (by omega))
theorem vl{p q q':List Rat}{n:Nat}(h:∀j,j≤n→coP q j=coP q' j):∀i,eO p q i n=eO p q' i n
 |0=>rfl
 |i+1=>by rw[eO,eO,vl h i,h (n- i) (Nat.sub_le ..)]
theorem mf{p q q':List Rat}{n:Nat}(h:∀j,j≤n→coP q j=coP q' j):coP (aJ p q) n=coP (aJ p q') n:=by
 rw[qV,qV,vl h]
theorem sa(p:List Rat):af p 0=coP p 0:=by
 cases p with
 |nil=>rfl
 |cons a l=>rw[aE,dx];grind
theorem AU{A B u v:List Rat}{r:Nat}(h:∀j,j< r→coP u j=coP v j)(i:Nat)(hi:i≤r):coP (aJ A (ci (ax (aJ B u)) [af (ax (aJ B u)) 0])) i=coP (aJ A (ci (ax (aJ B v)) [af (ax (aJ B v)) 0])) i:=by
 have a:∀k,k≤r→coP (ax (aJ B u)) k=coP (ax (aJ B v)) k:=fun k c=>by
  rw[fH,fH];by_cases e:k=0;rw[if_pos e,if_pos e];rw[if_neg e,if_neg e,mf (fun j b=>h j (by omega))]
 exact mf fun j b=>by
  rw[gE,gE,sa,sa,a j (by omega),a 0 (by omega)]
theorem oc{s:Nat}:∀(l:List Rat),Abs.bdL l s→∃K,HS l K (s* l.length+1)
 |[],_=>⟨1,HS.nil⟩
 |c::l,hl=>by
  obtain⟨K,H⟩:=oc l fun q b=>hl q (List.mem_cons_of_mem _ b);obtain⟨h1,a,d⟩:=ns (hl c (List.mem_cons_self ..));have e:s* (c::l).length=s* l.length+s:=by grind
  refine⟨K* ((c.den:Int):Rat),(fun g=>(Rat.mul_eq_zero.1 g).elim H.ne d),(H.sc.mul a).mono (by omega),fun i=>?_⟩;cases i with
  |zero=>rw[dx];exact((H.sc.mul h1).eq (by grind)).mono (by omega)
  |succ i=>rw[dj];exact(((H.co i).mul a).eq (by grind)).mono (by omega)
theorem vQ{c d K:Rat}{h:Nat}(d0:d≠0)(hd:IB d 20)(hc:IB (c* d) 20):∀(l:List Rat) (b:Rat),HS (b::l) K h→HS (b7 [c,1] (b::l)) (K* d^ l.length) (h+22* l.length)
 |[],b,H=>by
  refine⟨by rw[List.length_nil,Rat.pow_zero];have:=H.ne;grind,H.sc.eq (by simp),fun i=>?_⟩;rw[show b7 [c,1] [b]=fO (aJ [] [c,1]) (b6 b) from rfl,eP,lE,show aJ [] [c,1]=[] from if_pos (.inl rfl),jL];have h1:=H.co 0;rw[dx] at h1;split;exact h1.eq (by rw[List.length_nil,Rat.pow_zero];grind);exact(IB.zero _).eq (by grind)
 |b'::l,b,H=>by
  have Ht:HS (b'::l) K h:=⟨H.ne,H.sc,fun i=>H.co (i+1)⟩;have a:=vQ d0 hd hc l b' Ht;have hp:=jd hd (l.length+1);have hb:=H.co 0;rw[List.length_cons];refine⟨fun g=>(Rat.mul_eq_zero.1 g).elim H.ne fun g=>?_,(H.sc.mul hp).mono (by omega),fun i=>?_⟩
  have:∀n:Nat,d^ n≠0:=fun n=>by
   induction n with
   |zero=>grind
   |succ n a=>grind
  exact this _ g;rw[show b7 [c,1] (b::b'::l)=fO (aJ (b7 [c,1] (b'::l)) [c,1]) (b6 b) from rfl,eP,HT,lE];generalize b7 [c,1] (b'::l)=X at *
  have s1:=(a.co i).mul hc
  have s2:IB (lag X i* (K* d^ l.length) * d) (h+22* l.length+20):=by
   cases i with
   |zero=>exact(IB.zero _).eq (by rw[show lag X 0=0 from rfl];grind)
   |succ i=>exact(a.co i).mul hd
  have e:IB ((if i=0 then b else 0) * K* d^ (l.length+1)) (h+22* l.length+21):=by
   split;exact(hb.mul hp).mono (by omega);exact(IB.zero _).eq (by grind)
  refine(((s1.add s2).add e).eq ?_).mono (by omega);grind
theorem HS_shift'{c d K:Rat}{h N:Nat}(d0:d≠0)(hd:IB d 20)(hc:IB (c* d) 20){l:List Rat}(H:HS l K h)(hl:l.length≤N+1):∃K',HS (b7 [c,1] l) K' (h+22* N):=by
 cases l with
 |nil=>exact⟨K,H.mono (by omega)⟩
 |cons b l=>
  rw[List.length_cons] at hl;exact⟨_,(vQ d0 hd hc l b H).mono (by omega)⟩
theorem iW(c:Rat):∀l:List Rat,(b7 [c,1] l).length≤l.length
 |[]=>Nat.le_refl _
 |a::l=>by
  have h1:=ki (aJ (b7 [c,1] l) [c,1]) (b6 a);have b:=oL (b7 [c,1] l) c;have e:=iW c l;have d:=j9 a;rw[List.length_cons];show(fO (aJ (b7 [c,1] l) [c,1]) (b6 a)).length≤_;omega
theorem nI{c d K:Rat}{h N:Nat}(d0:d≠0)(hd:IB d 20)(hc:IB (c* d) 20)(hq:qs c≤20)(h1:1≤h)(hN:(N+1) * (h+22* N+22)≤100000000)(hN2:N≤1000):∀(l:List Rat),l.length≤N+1→HS l K h→gT [c,1] l
 |[],_,_=>trivial
 |a::l,hl,H=>by
  rw[List.length_cons] at hl;have Ht:HS l K h:=⟨H.ne,H.sc,fun i=>H.co (i+1)⟩;obtain⟨m,f⟩:=HS_shift' (N:=N) d0 hd hc Ht (by omega);have hb:=f.bdL (by omega);have n:=dw hb (by omega);have k:=iW c l;have j:=oL (b7 [c,1] l) c
  have g:mxL [c,1]≤20:=dw (fun q b=>by
   rcases List.mem_cons.1 b with rfl|b
   exact hq;rw[List.mem_singleton.1 b];exact Nat.le_trans (by decide:qs 1≤1) (by decide)) (by decide)
  have ha:=H.bdL h1 a (List.mem_cons_self ..);have e:(b7 [c,1] l).length* (mxL (b7 [c,1] l)+mxL [c,1]+1)≤(N+1) * (h+22* N+22):=Nat.mul_le_mul (by omega) (by omega);have e2:h≤(N+1) * (h+22* N+22):=Nat.le_trans (by omega) (Nat.le_mul_of_pos_left _ (by omega));refine⟨nI d0 hd hc hq h1 hN hN2 l (by omega) Ht,⟨by omega,by omega,by omega,by simp⟩,by unfold sm;omega,by omega⟩
end Go.Abs
