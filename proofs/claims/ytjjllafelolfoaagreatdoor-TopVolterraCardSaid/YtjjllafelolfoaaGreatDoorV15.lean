/- Part V15 of the proof. -/
import Derived.Test.YtjjllafelolfoaaGreatDoorV14
set_option linter.all false
namespace Go.Abs
theorem syn_co(S:List Rat)(r:Rat)(i:Nat):coP S i=coP (evalP S r::synD S r) i- r* coP (synD S r) i:=by
 have:=trim_iff.1 (c6_ (p:=S) (q:=addL (evalP S r::synD S r) (ci_ (synD S r) (-r))) fun x=>by
  rw[bv_,a6_,al_,dt_ S r x];grind) i
 rw[this,da_,cE_];grind
theorem pow_ge{K:Rat}(h:1≤K):∀{n:Nat},1≤K^ n
 |0=>by grind
 |n+1=>by
  have ih:=pow_ge h (n:=n);rw[Rat.pow_succ];have:=Rat.mul_le_mul_of_nonneg_left h (show 0≤K^ n by grind);grind
theorem newt{M:Nat}{K:Rat}(hK:K=((2* M+3:Nat):Int)):∀(d:Nat) (S:List Rat) (xs:List Nat) (B:Rat),S.length≤d+1→d+1≤xs.length→xs.Nodup→(∀x∈xs,x≤M)→0≤B→(∀x∈xs,ab (evalP S ((x:Int):Rat))≤B)→∀i,ab (coP S i)≤B* K^ d
 |0,S,xs,B,hS,hx,_,_,hB,hv,i=>by
  rw[Rat.pow_zero,Rat.mul_one];cases xs with
  |nil=>grind
  |cons x xs=>
   have h:=hv x (List.mem_cons_self ..);cases S with
   |nil=>rw[gQ_,gZ_];grind
   |cons a l=>
    have:l=[]:=List.length_eq_zero_iff.1 (by grind);subst this;rw[al_,am_] at h;cases i with
    |zero=>rw[bD_];grind
    |succ i=>rw[bq_,gQ_,gZ_];grind
 |d+1,S,xs,B,hS,hx,hnd,hM,hB,hv,i=>by
  cases xs with
  |nil=>grind
  |cons r xs=>
   rw[List.nodup_cons] at hnd;have hr:=hv r (List.mem_cons_self ..);have hrM:=hM r (List.mem_cons_self ..)
   have ih:=newt hK d (synD S ((r:Int):Rat)) xs (2* B) (by rw[m4_];omega) (by simp at hx;omega) hnd.2 (fun x h=>hM x (List.mem_cons_of_mem _ h)) (by grind) fun y hy=>by
    have h1:=dt_ S ((r:Int):Rat) ((y:Int):Rat);have hy':=hv y (List.mem_cons_of_mem _ hy);have hne:y≠r:=fun h=>hnd.1 (h▸hy)
    have h2:1≤ab (((y:Int):Rat)- ((r:Int):Rat)):=by
     rw[←Rat.intCast_sub];exact IB.one_le (h:=bl ((y:Int)- r).natAbs) ⟨_,rfl,Nat.le_refl _⟩ fun g=>hne (by have:=Rat.intCast_inj.1 (g.trans Rat.intCast_zero.symm);omega)
    have h3:evalP (synD S ((r:Int):Rat)) ((y:Int):Rat) * (((y:Int):Rat)- ((r:Int):Rat))=evalP S ((y:Int):Rat)+ -evalP S ((r:Int):Rat):=by grind
    have h4:=d1_ (evalP S ((y:Int):Rat)) (-evalP S ((r:Int):Rat));rw[←h3,bx_,jR_] at h4;have h5:=Rat.mul_le_mul_of_nonneg_left h2 (ab_nn (evalP (synD S ((r:Int):Rat)) ((y:Int):Rat)));grind
   have hK0:0≤K^ d:=by
    have:(0:Rat)≤K:=by rw[hK];exact Rat.intCast_nonneg.2 (by omega)
    exact Rat.pow_nonneg this
   have hK1:=pow_ge (n:=d) (show(1:Rat)≤K by rw[hK,show(1:Rat)=((1:Int):Rat) from rfl,Rat.intCast_le_intCast];omega)
   have hrr:ab (((r:Int):Rat))≤((M:Int):Rat):=by
    rw[ab_le,←Rat.intCast_neg,Rat.intCast_le_intCast,Rat.intCast_le_intCast];omega
   have hKM:K=2* ((M:Int):Rat)+3:=by
    rw[hK,Int.natCast_add,Int.natCast_mul,Rat.intCast_add,Rat.intCast_mul];rfl
   have e:=syn_co S ((r:Int):Rat) i;have a1:=d1_ (coP (evalP S ((r:Int):Rat)::synD S ((r:Int):Rat)) i) (-(((r:Int):Rat) * coP (synD S ((r:Int):Rat)) i));rw[jR_,←Rat.sub_eq_add_neg,←e,bx_] at a1;have a2:=bC_ hrr (ih i) (ab_nn _) (show(0:Rat)≤((M:Int):Rat) from Rat.intCast_nonneg.2 (by omega))
   have a3:ab (coP (evalP S ((r:Int):Rat)::synD S ((r:Int):Rat)) i)≤2* B* K^ d+B* K^ d:=by
    have n1:=Rat.mul_nonneg hB hK0;have n2:=Rat.mul_le_mul_of_nonneg_left hK1 hB;cases i with
    |zero=>rw[bD_];grind
    |succ i=>rw[bq_];have:=ih i;grind
   have e2:B* K^ (d+1)=2* B* K^ d+B* K^ d+((M:Int):Rat) * (2* B* K^ d):=by
    rw[Rat.pow_succ];generalize K^ d=Q at *
    rw[hKM];grind
   grind
theorem jG_(f:Nat→Bool):∀l:List Nat,(l.filter f).length+(l.filter fun x=>!f x).length=l.length
 |[]=>rfl
 |a::l=>by
  have:=jG_ f l;grind
theorem pts{p:List Rat}(hp:nz p)(d:Nat):∃xs:List Nat,xs.Nodup∧d+1≤xs.length∧∀x∈xs,x≤dg p+d∧evalP p ((x:Int):Rat)≠0:=by
 have h:=jG_ (fun x:Nat=>decide (evalP p ((x:Int):Rat)≠0)) (List.range (dg p+d+1));rw[List.length_range] at h;refine⟨(List.range (dg p+d+1)).filter fun x:Nat=>decide (evalP p ((x:Int):Rat)≠0),List.nodup_range.filter _,?_,fun x hx=>?_⟩;by_cases g:dg p+1≤((List.range (dg p+d+1)).filter fun x:Nat=>!decide (evalP p ((x:Int):Rat)≠0)).length;exfalso;have hl:(trimQ p).length≤dg p+1:=by unfold dg;omega
 have:=gG_ (dg p+1) (trimQ p) (((List.range (dg p+d+1)).filter fun x:Nat=>!decide (evalP p ((x:Int):Rat)≠0)).map fun x:Nat=>((x:Int):Rat)) hl (by grind)
  (List.Pairwise.map _ (fun i j hij e=>hij (by have:=Rat.intCast_inj.1 e;omega)) (List.nodup_range.filter _)) fun x hx=>by
   obtain⟨i,hi,rfl⟩:=List.mem_map.1 hx;rw[aT_];grind
 apply hp;exact trim_nil_iff.2 fun i=>by rw[←aU_];exact fe_ this i
 omega;grind
theorem dv_ht{p s:List Rat}{h n:Nat}(hp:nz p)(hs:Dv s p)(H:Ht p h)(hn:dg p≤n)(h15:n≤15):Ht s (h+12* n+8):=by
 obtain⟨g,e⟩:=hs;have e':∀x,evalP p x=evalP s x* evalP g x:=fun x=>by grind
 obtain⟨k,k0,hk⟩:=H;obtain⟨κ,f,κ0,hf,hv⟩:=dv_value hp e' k0 fun i=>by obtain⟨z,z1,_⟩:=hk i;grind
 have hd:dg s≤n:=Nat.le_trans (Dv.dg ⟨g,e⟩ hp) hn;obtain⟨xs,x1,x2,x3⟩:=pts hp (dg s)
 have hm:=newt (M:=30) (K:=63) (by grind) (dg s) (aw_ (trimQ s) κ) xs (p2 (h+6* (n+1))) (by have:=a3_ (trimQ s) κ;unfold dg;omega) x2 x1 (fun x hx=>by grind) (Rat.le_of_lt (bH_ _)) fun x hx=>by
  have h1:=hv (x:Int) (x3 x hx).2;rw[an_,aT_];refine Rat.le_trans h1 ?_
  have h2:=cr_ (R:=p2 5) (x:=((x:Int):Rat)) (Rat.le_of_lt (bH_ 5)) (by
   rw[ab_le];unfold p2;rw[←Rat.intCast_neg,Rat.intCast_le_intCast,Rat.intCast_le_intCast];have:=(x3 x hx).1;omega) (aw_ (trimQ p) k)
  rw[an_,aT_] at h2;refine Rat.le_trans h2 (Rat.le_trans (bV_p2 (r:=5) (H:=h) _ fun c hc=>?_) (cw_ ?_));obtain⟨i,_,e⟩:=gS_ hc;rw[←e,bA_,aU_];exact IB.ab (h:=h) (hk i);have:=a3_ (trimQ p) k;unfold dg at hn;grind
 refine⟨κ,κ0,fun i=>⟨f i,hf i,?_⟩⟩;have h1:=hm i;rw[bA_,aU_,hf] at h1
 have hpow:∀d,(63:Rat) ^ d≤p2 (6* d):=fun d=>by
  induction d with
  |zero=>rw[Rat.pow_zero];exact Rat.le_refl
  |succ d ih=>
   rw[Rat.pow_succ,Nat.mul_succ,cp_];have:(63:Rat)≤p2 6:=by decide+kernel
   exact bC_ ih this (by decide+kernel) (Rat.le_of_lt (bH_ _))
 have h2:=Rat.mul_le_mul_of_nonneg_left (hpow (dg s)) (Rat.le_of_lt (bH_ (h+6* (n+1))));rw[←cp_] at h2;have h3:=cw_ (show h+6* (n+1)+6* dg s≤h+12* n+6 by omega);have h4:=ab_le.1 (Rat.le_trans h1 (Rat.le_trans h2 h3));unfold p2 at h4;rw[←Rat.intCast_neg,Rat.intCast_le_intCast,Rat.intCast_le_intCast] at h4;refine bl_le (Nat.lt_of_le_of_lt (show(f i).natAbs≤2^ (h+12* n+6) by omega) (Nat.pow_lt_pow_right (by decide) (by omega)))
def cH(f N h X T Q:Nat):Bool:=
 decide (N≤12∧1≤h∧1≤X∧X≤137438953472∧2^ 12* (h+2* X+1)≤137438953472∧17* (h+12* N+8)≤34359738368∧h+12* N+8≤T∧12* (T+Q+1)+T+Q+2≤137438953472) &&
 ((List.range (N+1)).all fun m=>(List.range m).all fun n=>hG f m n h (h+5) X) &&
 ((List.range (N+1)).all fun m=>(List.range m).all fun n=>cB f m n (h+12* N+8) (h+12* N+13) (h+12* N+13) T)
theorem fx_{p:List Rat}{s g:Nat}(hl:(trimQ p).length≤15)(hb:bdL p s)(hs:1≤s)(hH:Ht p g):bdL (ao_ p) (s+5)∧Ht (ao_ p) (g+5):=by
 have e:∀i,coP (ao_ p) i=coP (ao_ (trimQ p)) i:=fun i=>by rw[bn_,bn_,aU_]
 constructor;refine ew_ fun i=>?_;rw[bn_];by_cases hi:i+1< (trimQ p).length;have h1:=bK_ (coP p (i+1)) (nQ (i+1));have h2:=qs_nQ (n:=i+1) (k:=4) (bl_le (by omega)) (by decide);have h3:=bL_ hb hs (i+1);exact Nat.le_trans h1 (by omega);rw[←aU_,ca_ (show(trimQ p).length≤i+1 by omega),Rat.zero_mul];exact Nat.le_trans (by decide:qs 0≤1) (by omega);refine((hH.trim).derive.scale (c:=1) (r:=ao_ p) (by grind) fun i=>by grind).mono ?_;have:bl (trimQ p).length≤4:=bl_le (by omega);omega
theorem fH_{p:List Rat}(hp:nz p):(trimQ p).length=dg p+1:=by have:=List.length_pos_iff.2 hp;unfold dg;omega
theorem countsH{f N h X T Q:Nat}(hc:cH f N h X T Q=true){p:List Rat}(np:nz p)(hl:(trimQ p).length≤N)(hp:p.length≤1000)(hb:bdL p h)(hH:Ht p h):
    ∃c,b9_ f p=some c∧(∀x,qs x≤Q→okUp c x∧okBe c x)∧c.p.length≤N∧bdL c.p (h+12* N+8)∧Ht c.p (h+12* N+8):=by
 unfold cH at hc;simp only[Bool.and_eq_true,decide_eq_true_eq,List.all_eq_true,List.mem_range] at hc;obtain⟨⟨⟨c0,c1,c2,c3,c4,c5,c6,c7⟩,hg⟩,hC⟩:=hc;have hlp:=List.length_pos_iff.2 np;have hdl:=dV_ np;have hdt:trimQ (ao_ p)=ao_ p:=aY_ _;have hd:=fx_ (by omega) hb c1 hH;obtain⟨g,g1,g2,g3,g4⟩:=io_ f _ _ h (h+5) X p (ao_ p) (hg _ (by omega) _ (by grind)) rfl rfl hb hd.1 hH hd.2 c1 (by omega) hp (by omega) c3;obtain⟨z0,z1,z2,a,b,z3⟩:=eN_ f _ _ _ g1 (.inl np);obtain⟨u,hu⟩:=z1;obtain⟨m1,m2⟩:=dC_ p z0;have hm:=ib_ (u:=u) (v:=[]) z0 (fun x=>by rw[hu x,am_];grind) (fun e=>absurd rfl e)
 have hs:∀x,evalP p x=evalP (divP p g).1 x* evalP g x:=fun x=>by
  have:=m1 x;rw[hm x,am_] at this;grind
 obtain⟨n1,n2⟩:=cJ_ hs np;have e1:=(dg_mul' n1 n2 hs).2.1;have e2:=(cx_ n1).2.2;have e3:=(cx_ n1).2.1;have l1:=fH_ np;have l2:=fH_ z0;have l3:=fH_ n1;have l4:=fH_ e3;have h1:=bz_ hb c1;have h2:=bz_ g4 c2;have hpow:2^ ((trimQ p).length+1- (trimQ g).length)≤2^ 12:=Nat.pow_le_pow_right (by decide) (by omega);have hmul:=Nat.mul_le_mul hpow (show mxL p+2* mxL g+1≤h+2* X+1 by omega);have hN:12* (N- 1)≤12* N:=by omega
 have hY:Ht (divP p g).1 (h+12* N+8):=(dv_ht np ⟨g,fun x=>by rw[hs];grind⟩ hH (show dg p≤N by omega) (by omega)).mono (by omega);obtain⟨q1,q2⟩:=hY.monic (by omega);have htm:=eE_ (divP p g).1;obtain⟨q,hq⟩:∃q,q=a4_ (divP p g).1:=⟨_,rfl⟩
 have hsq:sqfM f p=some q:=by
  unfold sqfM;rw[if_pos ⟨bI_ hb (by omega),by omega⟩,g1,Option.bind_some,if_pos ⟨z0,by omega,by omega,by omega⟩,hq]
 rw[←hq] at e2 e3 l4 q1 q2 htm;have hql:q.length≤N:=by rw[←htm];omega
 generalize hYe:h+12* N+8=Y at *
 rw[show h+12* N+13=Y+5 by omega] at hC;have hY1:1≤Y:=by omega
 obtain⟨p1,p2⟩:=q2.prim e3 hY1;obtain⟨k,k0,hk⟩:=fL_ e3;obtain⟨d1,d2,_⟩:=dG_ e3 (show k≠0 by grind) hk;have hpn:(trimQ (primP q)).length=(trimQ q).length:=by rw[fH_ d1,fH_ e3,d2]
 have hpl:(primP q).length=(trimQ (primP q)).length:=by unfold primP;rw[eD_]
 have hdl':=dV_ e3;have hdt':trimQ (ao_ q)=ao_ q:=aY_ _;have hd':=fx_ (by omega) q1 hY1 q2;obtain⟨out,o1,o2,o3⟩:=iK_ f f _ _ Y (Y+5) (Y+5) T (primP q) (ao_ q) [primP q] (hC (trimQ q).length (by omega) (ao_ q).length hdl') hpn (by rw[hdt']) rfl p1 p2 hd'.2 hd'.1 hY1 (by omega) (by omega) (by omega) (by omega);have hmx:=bz_ q1 hY1;have hmul2:=Nat.mul_le_mul (show q.length+4≤17 by omega) hmx
 have hst':e1_ f q=some out:=by
  unfold e1_;rw[if_pos ⟨bI_ q1 (by omega),⟨by omega,by omega⟩,e3⟩];exact o1
 have hall:∀r∈out,nz r∧r.length≤12∧bdL r T:=fun r hr=>by
  rcases o3 r hr with h|⟨a,b,d⟩
  rw[List.mem_singleton.1 h];exact⟨d1,by omega,fun x hx=>Nat.le_trans (p1 x hx) c6⟩;exact⟨a,by omega,d⟩
 rw[List.length_singleton] at o2;have hok:okCnt ⟨q,out,chL (out.map sgI) 0 0⟩:=⟨fun r hr=>⟨(hall r hr).1,by have:=(hall r hr).2.1;omega⟩,by show out.length≤_;omega,rfl⟩
 have hup:∀x,qs x≤Q→okUp ⟨q,out,chL (out.map sgI) 0 0⟩ x:=fun x hx=>⟨hok,fun r hr=>by
  obtain⟨_,a,b⟩:=hall r hr;have:=bz_ b (by omega);have h2:=Nat.mul_le_mul a (show mxL r+qs x+1≤T+Q+1 by omega);exact⟨by omega,by omega⟩⟩
 refine⟨⟨q,out,chL (out.map sgI) 0 0⟩,?_,fun x hx=>⟨hup x hx,hup x hx,?_⟩,hql,q1,q2⟩;unfold b9_;rw[hsq,Option.bind_some,hst',Option.bind_some,if_pos hok];have h2:=Nat.mul_le_mul (show q.length≤12 by omega) (show mxL q+qs x+1≤T+Q+1 by omega);exact⟨by show q.length* (mxL q+qs x+1)+mxL q+qs x+2≤_;omega,by show q.length≤_;omega⟩
theorem HS.nil:HS [] 1 1:=⟨by decide,IB.one,fun i=>(IB.zero 1).eq (by show 0=(0:Rat) * 1;grind)⟩
section
variable {m:List Rat}{k:Rat}{M n:Nat}(k0:k≠0)(hm:∀i,IB (coP m i* k) M)(hn:∀j,j< n→oN m j≠0)(h7:n≤7)
include k0 hm hn h7
end
theorem mY_{x y:Rat}{h:Nat}(H:IB x h)(K:IB y h)(y0:y≠0)(h1:1≤h):qs (x/ y)≤h:=by
 have hH:Ht [x,y] h:=⟨1,by decide,fun i=>by
  have:IB (coP [x,y] i* 1) h:=by
   match i with
   |0=>exact H.eq (by show x=x* 1;grind)
   |1=>exact K.eq (by show y=y* 1;grind)
   |i+2=>exact(IB.zero h).eq (by show 0=0* 1;grind)
  obtain⟨z,e,b⟩:=this;exact⟨z,e,b⟩⟩
 exact hH.quot 0 1 y0 h1
theorem dL_(bf:Int→Bool){l:List Rat}(h:l≠[]):bS_ bf l∈l:=by
 cases l with
 |nil=>grind
 |cons x l=>
  have key:∀(l:List Rat) (o:Rat),l.foldl (fun o y=>if bf (cmpQ y o) then y else o) o∈o::l:=by
   intro l
   induction l with
   |nil=>grind
   |cons y l ih=>
    grind
  exact key l x
theorem mo_{l:List Rat}:∀x∈l,x≤maxL l:=by
 have key:∀(l:List Rat) (o:Rat),o≤l.foldl (fun o y=>if decide (0< cmpQ y o)=true then y else o) o∧∀x∈l,x≤l.foldl (fun o y=>if decide (0< cmpQ y o)=true then y else o) o:=by
  intro l
  induction l with
  |nil=>grind
  |cons y l ih=>
   intro o
   have hy:o≤(if decide (0< cmpQ y o)=true then y else o)∧y≤(if decide (0< cmpQ y o)=true then y else o):=by
    unfold cmpQ;grind
   grind
 intro x hx;cases l with
 |nil=>grind
 |cons a l=>
  have:=key l a;rcases List.mem_cons.1 hx with rfl|hx
  exact this.1;exact this.2 x hx
theorem mm_{l:List Rat}:∀x∈l,minL l≤x:=by
 have key:∀(l:List Rat) (o:Rat),l.foldl (fun o y=>if decide (cmpQ y o< 0)=true then y else o) o≤o∧∀x∈l,l.foldl (fun o y=>if decide (cmpQ y o< 0)=true then y else o) o≤x:=by
  intro l
  induction l with
  |nil=>grind
  |cons y l ih=>
   intro o
   have hy:(if decide (cmpQ y o< 0)=true then y else o)≤o∧(if decide (cmpQ y o< 0)=true then y else o)≤y:=by
    unfold cmpQ;grind
   grind
 intro x hx;cases l with
 |nil=>grind
 |cons a l=>
  have:=key l a;rcases List.mem_cons.1 hx with rfl|hx
  exact this.1;exact this.2 x hx
theorem p4_{a b:Sp}{x y:Rat}(h1:a.1≤x)(h2:x≤a.2)(h3:b.1≤y)(h4:y≤b.2):(spMul a b).1≤x* y∧x* y≤(spMul a b).2:=by
 have line:∀u v w t:Rat,u≤w→w≤v→(u* t≤w* t∧w* t≤v* t)∨(v* t≤w* t∧w* t≤u* t):=fun u v w t p q=>by
  by_cases g:0≤t;exact .inl ⟨Rat.mul_le_mul_of_nonneg_right p g,Rat.mul_le_mul_of_nonneg_right q g⟩;have r1:=Rat.mul_le_mul_of_nonneg_right p (show 0≤ -t by grind);have r2:=Rat.mul_le_mul_of_nonneg_right q (show 0≤ -t by grind);grind
 have m:∀z∈prods a b,minL (prods a b)≤z∧z≤maxL (prods a b):=fun z hz=>⟨mm_ z hz,mo_ z hz⟩;have c1:=m (a.1* b.1) (by simp[prods]);have c2:=m (a.1* b.2) (by simp[prods]);have c3:=m (a.2* b.1) (by simp[prods]);have c4:=m (a.2* b.2) (by simp[prods]);have t1:=line b.1 b.2 y a.1 h3 h4;have t2:=line b.1 b.2 y a.2 h3 h4;have t3:=line a.1 a.2 x y h1 h2;show minL (prods a b)≤x* y∧x* y≤maxL (prods a b);grind
theorem mul_ends(a b:Sp):(∃x∈[a.1,a.2],∃y∈[b.1,b.2],(spMul a b).1=x* y)∧∃x∈[a.1,a.2],∃y∈[b.1,b.2],(spMul a b).2=x* y:=by
 have h1:=dL_ (fun c=>decide (c< 0)) (l:=prods a b) (by simp[prods]);have h2:=dL_ (fun c=>decide (0< c)) (l:=prods a b) (by grind)
 have key:∀z,z∈prods a b→∃x∈[a.1,a.2],∃y∈[b.1,b.2],z=x* y:=fun z hz=>by
  simp only[prods,List.mem_cons,List.not_mem_nil,or_false] at hz;rcases hz with rfl|rfl|rfl|rfl
  exact⟨_,by simp,_,by simp,rfl⟩;exact⟨a.1,by simp,b.2,by simp,rfl⟩;exact⟨a.2,by simp,b.1,by simp,rfl⟩;grind
 exact⟨key _ h1,key _ h2⟩
theorem nk_{R D:Rat}(hR:0≤R)(hD:0≤D){s:Sp}(hs:s.1≤s.2)(h1:ab s.1≤R)(h2:ab s.2≤R)(hw:s.2- s.1≤D)(v:Rat):∀l:List Rat,(ovP (v,v) s l).1≤(ovP (v,v) s l).2∧ab (ovP (v,v) s l).1≤bV R (l++[v])∧ab (ovP (v,v) s l).2≤bV R (l++[v])∧(ovP (v,v) s l).2- (ovP (v,v) s l).1≤bL R (l++[v]) * D∧
      ∀x,s.1≤x→x≤s.2→(ovP (v,v) s l).1≤evalP (l++[v]) x∧evalP (l++[v]) x≤(ovP (v,v) s l).2
 |[]=>by
  show v≤v∧ab v≤bV R [v]∧ab v≤bV R [v]∧v- v≤bL R [v] * D∧∀x,_;rw[bV,bV,bL,bL,bV];refine⟨by grind,by grind,by grind,by grind,fun x _ _=>?_⟩;show v≤evalP [v] x∧evalP [v] x≤v;rw[al_,am_];grind
 |a::l=>by
  obtain⟨i1,i2,i3,i4,i5⟩:=nk_ hR hD hs h1 h2 hw v l;rw[List.cons_append,bV,bL,show ovP (v,v) s (a::l)=spAdd (spMul (ovP (v,v) s l) s) (a,a) from rfl];generalize ovP (v,v) s l=w at *
  have hV:=bV_nn hR (l++[v]);have hL:=bL_nn hR (l++[v]);obtain⟨⟨x,hx,y,hy,e1⟩,x',hx',y',hy',e2⟩:=mul_ends w s
  have bx:∀z∈[w.1,w.2],ab z≤bV R (l++[v])∧w.1≤z∧z≤w.2:=fun z hz=>by
   grind
  have by':∀z∈[s.1,s.2],ab z≤R∧s.1≤z∧z≤s.2:=fun z hz=>by
   grind
  have mag:∀z∈[w.1,w.2],∀u∈[s.1,s.2],ab (z* u)≤bV R (l++[v]) * R:=fun z hz u hu=>by
   rw[bx_];exact bC_ (bx z hz).1 (by' u hu).1 (ab_nn _) hV
  have m1:=mag x hx y hy;have m2:=mag x' hx' y' hy';rw[←e1] at m1;rw[←e2] at m2;have le:=p4_ (a:=w) (b:=s) (x:=w.1) (y:=s.1) (by grind) i1 (by grind) hs;have sum:∀z:Rat,ab z≤bV R (l++[v]) * R→ab (z+a)≤bV R (l++[v]) * R+ab a:=fun z hz=>by have:=d1_ z a;grind
  have wid:(spMul w s).2- (spMul w s).1≤(bL R (l++[v]) * R+bV R (l++[v])) * D:=by
   rw[e1,e2];have f1:x'* y'- x* y=x'* (y'- y)+(x'- x) * y:=by grind
   have f2:=d1_ (x'* (y'- y)) ((x'- x) * y);rw[←f1,bx_,bx_] at f2;have d1:ab (y'- y)≤D:=by have:=by' y hy;have:=by' y' hy';exact ab_le.2 ⟨by grind,by grind⟩
   have d2:ab (x'- x)≤bL R (l++[v]) * D:=by have:=bx x hx;have:=bx x' hx';exact ab_le.2 ⟨by grind,by grind⟩
   have g1:=bC_ (bx x' hx').1 d1 (ab_nn _) hV;have g2:=bC_ d2 (by' y hy).1 (ab_nn _) (Rat.mul_nonneg hL hD);have g3:=ab_le (x:=x'* y'- x* y) (c:=ab (x'* y'- x* y))|>.1 Rat.le_refl;grind
  refine⟨?_,sum _ m1,sum _ m2,?_,fun z z1 z2=>?_⟩;show(spMul w s).1+a≤(spMul w s).2+a;grind;show(spMul w s).2+a- ((spMul w s).1+a)≤_;grind;have:=p4_ (i5 z z1 z2).1 (i5 z z1 z2).2 z1 z2;rw[al_];show(spMul w s).1+a≤_∧_≤(spMul w s).2+a;grind
theorem ov_qs{t u:Nat}{s:Sp}(h1:qs s.1≤t)(h2:qs s.2≤t){v:Rat}(hv:qs v≤u):∀l:List Rat,bdL l u→qs (ovP (v,v) s l).1≤u+l.length* (t+u+1)∧qs (ovP (v,v) s l).2≤u+l.length* (t+u+1)∧(∀q∈prods (ovP (v,v) s l) s,qs q≤u+l.length* (t+u+1)+t)
 |[],_=>by
  have key:∀z∈[(ovP (v,v) s []).1,(ovP (v,v) s []).2],qs z≤u:=fun z hz=>by
   have:z=v:=by simp[ovP] at hz;grind
   grind
  refine⟨by grind,by grind,fun q hq=>?_⟩;simp only[prods,List.mem_cons,List.not_mem_nil,or_false] at hq;rcases hq with rfl|rfl|rfl|rfl <;> refine Nat.le_trans (bK_ _ _) ?_ <;> simp[ovP]<;> omega
 |a::l,hb=>by
  obtain⟨i1,i2,i3⟩:=ov_qs h1 h2 hv l fun q hq=>hb q (List.mem_cons_of_mem _ hq);have ha:=hb a (List.mem_cons_self ..);have m1:=i3 _ (dL_ (fun c=>decide (c< 0)) (l:=prods (ovP (v,v) s l) s) (by simp[prods]));have m2:=i3 _ (dL_ (fun c=>decide (0< c)) (l:=prods (ovP (v,v) s l) s) (by simp[prods]));have e:u+(a::l).length* (t+u+1)=u+l.length* (t+u+1)+t+u+1:=by grind
  have j1:qs (ovP (v,v) s (a::l)).1≤u+(a::l).length* (t+u+1):=by
   rw[e];exact Nat.le_trans (c3_ _ _) (by show qs (minL _)+qs a+1≤_;unfold minL;omega)
  have j2:qs (ovP (v,v) s (a::l)).2≤u+(a::l).length* (t+u+1):=by
   rw[e];exact Nat.le_trans (c3_ _ _) (by show qs (maxL _)+qs a+1≤_;unfold maxL;omega)
  refine⟨j1,j2,fun q hq=>?_⟩;simp only[prods,List.mem_cons,List.not_mem_nil,or_false] at hq;rcases hq with rfl|rfl|rfl|rfl <;> refine Nat.le_trans (bK_ _ _) ?_ <;> omega
theorem ov_ok{t u:Nat}{s:Sp}(h1:qs s.1≤t)(h2:qs s.2≤t){v:Rat}(hv:qs v≤u):∀l:List Rat,bdL l u→u+l.length* (t+u+1)+t≤137438953472→okOv (v,v) s l
 |[],_,h=>⟨Nat.le_trans hv (by omega),Nat.le_trans hv (by omega)⟩
 |a::l,hb,h=>by
  have e:u+(a::l).length* (t+u+1)=u+l.length* (t+u+1)+t+u+1:=by grind
  have hb':bdL l u:=fun q hq=>hb q (List.mem_cons_of_mem _ hq);obtain⟨_,_,i3⟩:=ov_qs h1 h2 hv l hb';obtain⟨j1,j2,_⟩:=ov_qs h1 h2 hv (a::l) hb;exact⟨ov_ok h1 h2 hv l hb' (by omega),fun q hq=>Nat.le_trans (i3 q hq) (by omega),Nat.le_trans (hb a (List.mem_cons_self ..)) (by omega),⟨Nat.le_trans j1 (by omega),Nat.le_trans j2 (by omega)⟩⟩
theorem rise{q:List Rat}{x y e:Rat}(hxy:x≤y)(he:0< e)(hd:∀z,x≤z→z≤y→e≤dvE q z):evalP q x≤evalP q y:=by
 have hR:=fo_ x y;have hT:=bT_nn hR q;obtain⟨h,h0,h1⟩:=part e (d:=bT (ab x+ab y) q+1) he (by grind)
 have w:=way (f:=fun z=>if evalP q x≤evalP q z then(1:Int) else 0) (fun s t=>s=1→t=1) (fun _ h=>h) (fun _ _ _ a b h=>b (a h)) h0 hxy fun u v g1 g2 g3 g4 hu=>by
  by_cases g:evalP q x≤evalP q u;have t:=gt_ hR (ab_in g1 (show u≤y by grind)) (ab_in (show x≤v by grind) g3) q;rw[show ab (v- u)=v- u by unfold ab;grind] at t;have t2:=(ab_le.1 t).1;have t3:=Rat.mul_le_mul_of_nonneg_left (hd u g1 (by grind)) (show 0≤v- u by grind);have t4:=Rat.mul_le_mul_of_nonneg_left g4 hT;have t5:=Rat.mul_le_mul_of_nonneg_right (show bT (ab x+ab y) q* (v- u)≤e by grind) (show 0≤v- u by grind);rw[if_pos (by grind)];grind
 grind
theorem fall{q:List Rat}{x y e:Rat}(hxy:x≤y)(he:0< e)(hd:∀z,x≤z→z≤y→dvE q z≤ -e):evalP q y≤evalP q x:=by
 have:=rise (q:=aw_ q (-1)) hxy he fun z a b=>by
  rw[dvE_k (p:=q) (k:= -1) fun x=>an_ q (-1) x];grind
 rw[an_,an_] at this;grind
theorem Far.pos{p:List Rat}{x y z:Rat}(h:Far p x y)(h1:x≤z)(h2:z≤y)(hz:0< evalP p z):∃e:Rat,0< e∧∀w,x≤w→w≤y→e≤evalP p w:=by
 have s0:=h.sg h1 h2;have hs:=h;obtain⟨e,he,hf⟩:=h;refine⟨e,he,fun w a b=>?_⟩;have s1:=hs.sg a b;have:=c0_ hz;rcases iR_ (hf w a b) with g|g
 exact g;have:=eh_ (q:=p) (x:=w) (by grind);omega
theorem Far.neg{p:List Rat}{x y z:Rat}(h:Far p x y)(h1:x≤z)(h2:z≤y)(hz:evalP p z< 0):∃e:Rat,0< e∧∀w,x≤w→w≤y→evalP p w≤ -e:=by
 have s0:=h.sg h1 h2;have hs:=h;obtain⟨e,he,hf⟩:=h;refine⟨e,he,fun w a b=>?_⟩;have s1:=hs.sg a b;have:=eh_ hz;rcases iR_ (hf w a b) with g|g
 have:=c0_ (q:=p) (x:=w) (by grind);omega;exact g
theorem np_{q:List Rat}{A B v:Rat}(hv:0< v):∃δ:Rat,0< δ∧∀x y,A≤x→x≤B→A≤y→y≤B→ab (y- x)≤δ→v≤evalP q x→v/ 2≤evalP q y:=by
 have hR:=fo_ A B;have hL:=bL_nn hR q;obtain⟨δ,d0,d1⟩:=part (v/ 2) (d:=bL (ab A+ab B) q+1) (by grind) (by grind);refine⟨δ,d0,fun x y a1 a2 b1 b2 h hx=>?_⟩;have q1:=dz_ hR (ab_in a1 a2) (ab_in b1 b2) q;have q2:=Rat.mul_le_mul_of_nonneg_left h hL;have q3:=ab_le.1 (show ab (evalP q y- evalP q x)≤v/ 2 by grind);grind
section
variable {f:Nat}{q d:List Rat}{c:Cnt}{σ:Rat}(h:b9_ f d=some c)(hd:nz d)(hσ:σ=1∨σ= -1)(hdq:∀z,dvE q z=σ* evalP d z)
include hσ hdq
theorem slope{x y z:Rat}(hF:Far d x y)(h1:x≤z)(h2:z≤y):∃e:Rat,0< e∧(0< dvE q z→∀w,x≤w→w≤y→e≤dvE q w)∧(dvE q z< 0→∀w,x≤w→w≤y→dvE q w≤ -e):=by
 have hd:Far (aw_ d σ) x y:=hF.k (k:=σ) (by rcases hσ with g|g <;> rw[g]<;> decide) fun z=>by rw[an_]
 have e:∀w,dvE q w=evalP (aw_ d σ) w:=fun w=>by rw[hdq,an_];grind
 by_cases g:0< dvE q z;obtain⟨ε,a,b⟩:=hd.pos h1 h2 (by rw[←e];exact g);exact⟨ε,a,fun _ w w1 w2=>by rw[e];exact b w w1 w2,fun g'=>by grind⟩;by_cases g2:dvE q z< 0;obtain⟨ε,a,b⟩:=hd.neg h1 h2 (by rw[←e];exact g2);exact⟨ε,a,fun g'=>absurd g' g,fun _ w w1 w2=>by rw[e];exact b w w1 w2⟩;exact⟨1,by decide+kernel,fun g'=>absurd g' g,fun g'=>absurd g' g2⟩
include h hd
theorem ne_{A B:Rat}(hA:evalP q A≤0)(hB:evalP q B≤0)(hr:∀i,aM_ c A≤i→i< uptoV c B→¬Sgn c i q 1):∀x,A≤x→x≤B→evalP q x≤0:=fun x hAx hxB=>by
 by_cases hq:evalP q x≤0;exact hq;exfalso;have hx0:0< evalP q x:=by grind
 have belA:aM_ c A≤aM_ c x:=by
  by_cases e:A=x;rw[e];exact Int.le_refl _;have:=cj_ h hd (show A< x by grind);have:=(cn_ (c:=c) h hd A).1;omega
 have upB:=cX_ h hd hxB;by_cases hz:evalP c.p x=0
 -- a root of the derivative
 have e:aM_ c x=uptoV c x- 1:=by unfold aM_;grind
 refine hr (aM_ c x) belA (by omega) ⟨x,x,⟨Rat.le_refl,Int.le_refl _,by omega⟩,⟨evalP q x,hx0,fun z a b=>?_⟩,c0_ hx0⟩;have:z=x:=by grind
 rw[this];exact ab_ge (.inl Rat.le_refl) (by grind);have e:aM_ c x=uptoV c x:=by unfold aM_;grind
 obtain⟨δ,d0,hδ⟩:=np_ (q:=q) (A:=A) (B:=B) hx0;obtain⟨η,n0,hη⟩:=np_ (q:=q) (A:=A) (B:=B) (v:=evalP q x/ 2) (by grind)
 have hdx:dvE q x≠0:=by
  have:=((c9_ h hd (show x≤x by grind)).1 e.symm).ne (z:=x) (by grind) (by grind);grind
 rcases(show 0< dvE q x∨dvE q x< 0 by grind) with hp|hn
 -- to the right
 have right:∀u,x≤u→u≤B→uptoV c u≤uptoV c x→evalP q x≤evalP q u:=fun u a b hu=>by
  have:=cX_ h hd a;have hF:=(c9_ h hd a).1 (show uptoV c u=aM_ c x by omega);obtain⟨ε,e0,he,_⟩:=slope hσ hdq hF (show x≤x by grind) a;exact rise a e0 (he hp)
 by_cases hj:uptoV c x< uptoV c B;obtain⟨u,v,u1,v1,w1,hu⟩:=kD_ h hd (i:=uptoV c x) ⟨hxB,by omega,hj⟩ n0
 -- before u nothing is counted
 have hqu:evalP q x/ 2≤evalP q u:=by
  by_cases g:u≤x+δ;exact hδ x u hAx hxB (by grind) (by have:=hu.1;grind) (ab_le.2 ⟨by grind,by grind⟩) Rat.le_refl;have k1:=cj_ h hd (show u- δ< u by grind);have k2:=right (u- δ) (by grind) (by have:=hu.1;grind) (by have:=hu.2.1;omega)
  exact Rat.le_trans (show evalP q x/ 2≤evalP q x/ 2 from Rat.le_refl) (by
   have:=hδ (u- δ) u (by grind) (by have:=hu.1;grind) (by grind) (by have:=hu.1;grind) (ab_le.2 ⟨by grind,by grind⟩) k2;exact this)
 refine hr (uptoV c x) (by omega) hj ⟨u,v,hu,⟨evalP q x/ 2/ 2,by grind,fun z a b=>?_⟩,c0_ (by grind)⟩;have:=hη u z (by grind) (by have:=hu.1;grind) (by grind) (by grind) (ab_le.2 ⟨by grind,by grind⟩) hqu;exact ab_ge (.inl this) (by grind);have:=right B hxB (by grind) (by omega);grind
 have left:∀u,A≤u→u≤x→uptoV c x≤aM_ c u→evalP q x≤evalP q u:=fun u a b hu=>by
  have:=cX_ h hd b;have:=(cn_ (c:=c) h hd u).1;have hF:=(c9_ h hd b).1 (show uptoV c x=aM_ c u by omega);obtain⟨ε,e0,_,he⟩:=slope hσ hdq hF b (show x≤x by grind);exact fall b e0 (he hn)
 by_cases hj:aM_ c A< uptoV c x;obtain⟨u,v,u1,v1,w1,hu⟩:=kD_ h hd (i:=uptoV c x- 1) (x:=A) (y:=x) ⟨hAx,by omega,by omega⟩ n0
 have hqv:evalP q x/ 2≤evalP q v:=by
  by_cases g:x- δ≤v;exact hδ x v hAx hxB (by have:=hu.1;grind) (by grind) (ab_le.2 ⟨by grind,by grind⟩) Rat.le_refl;have k1:=cj_ h hd (show v< v+δ by grind);have k2:=left (v+δ) (by have:=hu.1;grind) (by grind) (by have:=hu.2.2;omega);exact hδ (v+δ) v (by have:=hu.1;grind) (by grind) (by have:=hu.1;grind) (by grind) (ab_le.2 ⟨by grind,by grind⟩) k2
 have hpu:0< evalP q u:=by
  have:=hη v u (by have:=hu.1;grind) (by grind) (by grind) (by have:=hu.1;grind) (ab_le.2 ⟨by grind,by have:=hu.1;grind⟩) hqv;grind
 refine hr (uptoV c x- 1) (by omega) (by omega) ⟨u,v,hu,⟨evalP q x/ 2/ 2,by grind,fun z a b=>?_⟩,c0_ hpu⟩;have:=hη v z (by have:=hu.1;grind) (by grind) (by grind) (by grind) (ab_le.2 ⟨by grind,by grind⟩) hqv;exact ab_ge (.inl this) (by grind);grind
end
theorem hg_{H:List Rat}{x y:Rat}(hxy:x≤y)(hd:∀z,x≤z→z≤y→0≤dvE H z):evalP H x≤evalP H y:=by
 by_cases g:evalP H x≤evalP H y;exact g;exfalso;obtain⟨ε,e0,e1⟩:=part (evalP H x- evalP H y) (d:=2* (y- x+1)) (by grind) (by grind)
 have:=rise (q:=addL H [0,ε]) hxy e0 fun z a b=>by
  rw[eb_,show dvE [0,ε] z=ε from by rw[bp_,bp_,al_,am_,show dvE [] z=0 from rfl];grind];have:=hd z a b;grind
 rw[bv_,bv_,al_,al_,am_,al_,al_,am_] at this;grind
theorem me_(d:List Rat)(x:Rat):∀k,evalP (pw d k) x=evalP d x^ k
 |0=>by rw[Rat.pow_zero];unfold pw;rw[al_,am_];grind
 |k+1=>by rw[Rat.pow_succ,←me_ d x k];exact ax_ _ _ _
theorem int_le{F:List Rat}{s a W M:Rat}(hs:s=1∨s= -1)(n:Nat)(hF:∀z,0≤s* (z- a)→s* (z- a)≤W→ab (dvE F z)≤M* (s* (z- a)) ^ n):
    ∀y,0≤s* (y- a)→s* (y- a)≤W→ab (evalP F y- evalP F a) * (((n+1:Nat):Int):Rat)≤M* (s* (y- a)) ^ (n+1):=fun y y0 y1=>by
 have hN:(0:Rat)≤(((n+1:Nat):Int):Rat):=Rat.intCast_nonneg.2 (by omega);generalize hNe:(((n+1:Nat):Int):Rat)=N at *
 have ev:∀z,evalP [-(s* a),s] z=s* (z- a):=fun z=>by rw[al_,al_,am_];grind
 have dv:∀z,dvE [-(s* a),s] z=s:=fun z=>by rw[bp_,bp_,al_,am_,show dvE [] z=0 from rfl];grind
 have pwd:∀z,dvE (pw [-(s* a),s] (n+1)) z=N* (s* (z- a)) ^ n* s:=fun z=>by rw[pw_dv,me_,ev,dv,hNe]
 -- both signs of F
 have key:∀σ:Rat,σ=1∨σ= -1→σ* (evalP F y- evalP F a) * N≤M* (s* (y- a)) ^ (n+1):=fun σ hσ=>by
  have bd:∀z,0≤s* (z- a)→s* (z- a)≤W→σ* s* dvE F z≤M* (s* (z- a)) ^ n:=fun z z0 z1=>by
   have h1:=hF z z0 z1;have h2:=ab_le.1 h1;rcases hσ with rfl|rfl <;> rcases hs with rfl|rfl <;> grind
  have dH:∀z,dvE (addL (ci_ (pw [-(s* a),s] (n+1)) (M* s* s)) (ci_ F (-(σ* N)))) z=N* s* (M* (s* (z- a)) ^ n- σ* s* dvE F z):=fun z=>by
   rw[eb_,cD_,cD_,pwd];have:s* s=1:=by rcases hs with rfl|rfl <;> grind
   generalize (s* (z- a)) ^ n=P;grind
  have eH:∀z,evalP (addL (ci_ (pw [-(s* a),s] (n+1)) (M* s* s)) (ci_ F (-(σ* N)))) z=M* (s* (z- a)) ^ (n+1)- σ* N* evalP F z:=fun z=>by
   rw[bv_,a6_,a6_,me_,ev];have:s* s=1:=by rcases hs with rfl|rfl <;> grind
   generalize (s* (z- a)) ^ (n+1)=P;grind
  have za:(s* (a- a)) ^ (n+1)=(0:Rat):=by rw[show s* (a- a)=0 by grind,Rat.pow_succ];grind
  rcases hs with rfl|rfl
  have:=hg_ (show a≤y by grind) (H:=addL (ci_ (pw [-(1* a),1] (n+1)) (M* 1* 1)) (ci_ F (-(σ* N)))) fun z z1 z2=>by
   rw[dH];exact Rat.mul_nonneg (by grind) (by have:=bd z (by grind) (by grind);grind)
  rw[eH,eH,za] at this;grind
  have:=hg_ (show y≤a by grind) (H:=ci_ (addL (ci_ (pw [-(-1* a),-1] (n+1)) (M* -1* -1)) (ci_ F (-(σ* N)))) (-1)) fun z z1 z2=>by
   rw[cD_,dH];have:=Rat.mul_nonneg hN (show 0≤M* (-1* (z- a)) ^ n- σ* -1* dvE F z by have:=bd z (by grind) (by grind);grind);grind
  rw[a6_,a6_,eH,eH,za] at this;grind
 have k1:=key 1 (.inl rfl);have k2:=key (-1) (.inr rfl);unfold ab;split <;> grind
def facR:Nat→Rat
 |0=>1
 |n+1=>facR n* (((n+1:Nat):Int):Rat)
theorem eS_:∀n,0< facR n
 |0=>by decide+kernel
 |n+1=>by
  rw[facR];exact Rat.mul_pos (eS_ n) (by rw[show(0:Rat)=((0:Int):Rat) from rfl,Rat.intCast_lt_intCast];omega)
structure Vol (A B:List Rat)(l a:Rat)(t F:Nat→List Rat):Prop where
 dF:∀k x,dvE (F k) x=evalP B x* evalP (t k) x
 ts:∀k x,evalP (t (k+1)) x=l* (evalP A x* (evalP (F k) x- evalP (F k) a))
theorem hM_ {A B:List Rat} {l a s W α β γ:Rat} {t F:Nat→List Rat} (V:Vol A B l a t F) (hs:s=1∨s= -1) (hα:∀z,0≤s* (z- a)→s* (z- a)≤W→ab (evalP A z)≤α) (hβ:∀z,0≤s* (z- a)→s* (z- a)≤W→ab (evalP B z)≤β)
    (hγ:∀z,0≤s* (z- a)→s* (z- a)≤W→ab (evalP (t 0) z)≤γ) (α0:0≤α) (β0:0≤β):∀k z,0≤s* (z- a)→s* (z- a)≤W→ab (evalP (t k) z) * facR k≤γ* (α* β* ab l) ^ k* (s* (z- a)) ^ k
 |0,z,z0,z1=>by rw[Rat.pow_zero,Rat.pow_zero,facR];have:=hγ z z0 z1;grind
 |k+1,z,z0,z1=>by
  have ih:=hM_ V hs hα hβ hγ α0 β0 k;have fk:=eS_ k;obtain⟨φ,f0,f1⟩:=part 1 (d:=facR k) (by decide+kernel) fk
  -- the derivative of F k
  have hF:=int_le (F:=F k) (s:=s) (a:=a) (W:=W) (M:=β* (γ* (α* β* ab l) ^ k* φ)) hs k (fun y y0 y1=>by
   rw[V.dF,bx_];have h1:=ih y y0 y1;have h2:=Rat.mul_le_mul_of_nonneg_right h1 (show 0≤φ by grind)
   have h3:ab (evalP (t k) y)≤γ* (α* β* ab l) ^ k* φ* (s* (y- a)) ^ k:=by
    generalize (s* (y- a)) ^ k=P at *
    generalize (α* β* ab l) ^ k=C at *
    rw[show ab (evalP (t k) y) * facR k* φ=ab (evalP (t k) y) * (φ* facR k) by grind,f1] at h2;grind
   have:=bC_ (hβ y y0 y1) h3 (ab_nn _) β0;grind) z z0 z1
  rw[V.ts,bx_,bx_,facR,Rat.pow_succ];have hA:=hα z z0 z1;have g1:=Rat.mul_le_mul_of_nonneg_left hF (Rat.mul_nonneg (ab_nn l) α0);have hN:(0:Rat)≤(((k+1:Nat):Int):Rat):=Rat.intCast_nonneg.2 (by omega);have g2:=Rat.mul_le_mul_of_nonneg_right hA (Rat.mul_nonneg (Rat.mul_nonneg (ab_nn (evalP (F k) z- evalP (F k) a)) (ab_nn l)) (Rat.mul_nonneg (show 0≤facR k by grind) hN));have g3:=Rat.mul_le_mul_of_nonneg_right g1 (show 0≤facR k by grind);generalize (((k+1:Nat):Int):Rat)=N at *
  generalize (s* (z- a)) ^ (k+1)=P at *
  generalize (α* β* ab l) ^ k=C at *
  generalize ab (evalP (F k) z- evalP (F k) a)=D at *
  generalize ab l=L at *
  generalize ab (evalP A z)=E at *
  generalize facR k=K at *
  have e1:L* α* (β* (γ* C* φ) * P) * K=γ* (C* (α* β* L)) * P* (φ* K):=by grind
  rw[e1,f1] at g3;grind
theorem jF_{H:List Rat}(h:∀z,dvE H z=0)(x y:Rat):evalP H x=evalP H y:=by
 have key:∀x y,x≤y→evalP H x=evalP H y:=fun x y hxy=>by
  have a:=hg_ (H:=H) hxy fun z _ _=>by rw[h];exact Rat.le_refl
  have b:=hg_ (H:=ci_ H (-1)) hxy fun z _ _=>by rw[cD_,h];grind
  rw[a6_,a6_] at b;grind
 by_cases g:x≤y;exact key x y g;exact(key y x (by grind)).symm
theorem jS_{A B:List Rat}{l a:Rat}{t F r Fr:Nat→List Rat}(V:Vol A B l a t F)(R:Vol A B l a r Fr)(h0:∀x,evalP (r 0) x=evalP (t 0) x+evalP (r 1) x):∀n x,evalP (r n) x=evalP (t n) x+evalP (r (n+1)) x
 |0,x=>h0 x
 |n+1,x=>by
  have ih:=jS_ V R h0 n
  have hc:=jF_ (H:=addL (Fr n) (ci_ (addL (F n) (Fr (n+1))) (-1))) (fun z=>by
   rw[eb_,cD_,eb_,R.dF,V.dF,R.dF,ih z];grind) x a
  rw[bv_,a6_,bv_,bv_,a6_,bv_] at hc;rw[R.ts n x,V.ts n x,R.ts (n+1) x];have:evalP (Fr n) x- evalP (Fr n) a=(evalP (F n) x- evalP (F n) a)+(evalP (Fr (n+1)) x- evalP (Fr (n+1)) a):=by grind
  rw[this];grind
theorem o3_{A B:List Rat}{l a:Rat}{t F r Fr:Nat→List Rat}(V:Vol A B l a t F)(R:Vol A B l a r Fr)(h0:∀x,evalP (r 0) x=evalP (t 0) x+evalP (r 1) x)(x:Rat)(S:Nat→Rat)(s0:S 0=0)(ss:∀n,S (n+1)=S n+evalP (t n) x):∀n,evalP (r 0) x=S n+evalP (r n) x
 |0=>by rw[s0];grind
 |n+1=>by rw[o3_ V R h0 x S s0 ss n,ss,jS_ V R h0 n x];grind
def eZ(z:Rat):Nat→Rat
 |0=>1
 |k+1=>eZ z k* (z* (1/ (((k+1:Nat):Int):Rat)))
theorem nq_(k:Nat):(((k+1:Nat):Int):Rat)≠0:=fun e=>by have:=Rat.intCast_inj.1 (e.trans Rat.intCast_zero.symm);omega
theorem nQ_(z:Rat):∀k,eZ z k* facR k=z^ k
 |0=>by rw[Rat.pow_zero,eZ,facR];grind
 |k+1=>by
  rw[eZ,facR,Rat.pow_succ,←nQ_ z k];have:=Rat.div_mul_cancel (a:=1) (nq_ k);generalize (((k+1:Nat):Int):Rat)=N at *
  generalize (1:Rat) / N=M at *
  grind
theorem eZ_nn{z:Rat}(hz:0≤z):∀k,0≤eZ z k
 |0=>by rw[eZ];decide
 |k+1=>by
  rw[eZ];refine Rat.mul_nonneg (eZ_nn hz k) (Rat.mul_nonneg hz ?_);have h1:(0:Rat)< (((k+1:Nat):Int):Rat):=by rw[show(0:Rat)=((0:Int):Rat) from rfl,Rat.intCast_lt_intCast];omega
  obtain⟨m,m0,m1⟩:=part 1 (d:=(((k+1:Nat):Int):Rat)) (by decide+kernel) h1;rw[←m1,Rat.mul_div_cancel (nq_ k)];grind
theorem eZ_half{z:Rat}(hz:0≤z){n:Nat}(hn:2* z≤(((n+2:Nat):Int):Rat)):∀j,2* eZ z (n+1+j+1)≤eZ z (n+1+j):=fun j=>by
 have h1:(0:Rat)< (((n+1+j+1:Nat):Int):Rat):=by rw[show(0:Rat)=((0:Int):Rat) from rfl,Rat.intCast_lt_intCast];omega
 have h2:2* z≤(((n+1+j+1:Nat):Int):Rat):=Rat.le_trans hn (by rw[Rat.intCast_le_intCast];omega);have h3:=Rat.div_mul_cancel (a:=1) (nq_ (n+1+j));have h4:=eZ_nn hz (n+1+j);rw[eZ];generalize (((n+1+j+1:Nat):Int):Rat)=N at *
 generalize hM:(1:Rat) / N=M at *
 have hM0:0≤M:=by
  obtain⟨m,m0,m1⟩:=part 1 (d:=N) (by decide+kernel) h1;rw[←m1,Rat.mul_div_cancel (by grind)] at hM;grind
 have h5:=Rat.mul_le_mul_of_nonneg_right h2 hM0;have h6:=Rat.mul_le_mul_of_nonneg_left (show 2* z* M≤1 by grind) h4;grind
theorem vol_tail {A B:List Rat} {l a s α β γ U x w:Rat} {t F r Fr:Nat→List Rat} (V:Vol A B l a t F) (R:Vol A B l a r Fr) (h0:∀x,evalP (r 0) x=evalP (t 0) x+evalP (r 1) x) (hs:s=1∨s= -1) (hx:0≤s* (x- a))
    (hα:∀z,0≤s* (z- a)→s* (z- a)≤s* (x- a)→ab (evalP A z)≤α) (hβ:∀z,0≤s* (z- a)→s* (z- a)≤s* (x- a)→ab (evalP B z)≤β) (hγ:∀z,0≤s* (z- a)→s* (z- a)≤s* (x- a)→ab (evalP (t 0) z)≤γ) (hU:∀z,0≤s* (z- a)→s* (z- a)≤s* (x- a)→ab (evalP (r 0) z)≤U)
    {n:Nat} (hn:2* (α* β* ab l* (s* (x- a)))≤(((n+2:Nat):Int):Rat)) (hw:4* γ* (α* β* ab l* (s* (x- a))) ^ (n+1)≤w* facR (n+1)):ab (evalP (r (n+1)) x) * 2≤w:=by
 have α0:=Rat.le_trans (ab_nn _) (hα x hx Rat.le_refl);have β0:=Rat.le_trans (ab_nn _) (hβ x hx Rat.le_refl);have γ0:=Rat.le_trans (ab_nn _) (hγ x hx Rat.le_refl);have U0:=Rat.le_trans (ab_nn _) (hU x hx Rat.le_refl);have b1:=fun k=>hM_ V hs hα hβ hγ α0 β0 k x hx Rat.le_refl;have b2:=fun k=>hM_ R hs hα hβ hU α0 β0 k x hx Rat.le_refl;have z0:0≤α* β* ab l* (s* (x- a)):=Rat.mul_nonneg (Rat.mul_nonneg (Rat.mul_nonneg α0 β0) (ab_nn l)) hx
 have pm:∀k:Nat,(α* β* ab l) ^ k* (s* (x- a)) ^ k=(α* β* ab l* (s* (x- a))) ^ k:=fun k=>by
  induction k with
  |zero=>rw[Rat.pow_zero,Rat.pow_zero,Rat.pow_zero];grind
  |succ k ih=>rw[Rat.pow_succ,Rat.pow_succ,Rat.pow_succ,←ih];grind
 generalize hz:α* β* ab l* (s* (x- a))=z at *
 have c1:∀k,ab (evalP (t k) x)≤γ* eZ z k:=fun k=>by
  have h1:=b1 k;rw[Rat.mul_assoc γ,pm,←nQ_] at h1;exact dy_ (eS_ k) (by grind)
 have c2:∀k,ab (evalP (r k) x)≤U* eZ z k:=fun k=>by
  have h1:=b2 k;rw[Rat.mul_assoc U,pm,←nQ_] at h1;exact dy_ (eS_ k) (by grind)
 have hh:=eZ_half z0 hn
 have step:∀j,ab (evalP (r (n+1)) x)≤γ* (2* eZ z (n+1)- 2* eZ z (n+1+j))+ab (evalP (r (n+1+j)) x):=fun j=>by
  induction j with
  |zero=>rw[Nat.add_zero];grind
  |succ j ih=>
   have h1:=jS_ V R h0 (n+1+j) x;have h2:=d1_ (evalP (t (n+1+j)) x) (evalP (r (n+1+j+1)) x);rw[←h1] at h2;have h3:=c1 (n+1+j);have h4:=Rat.mul_le_mul_of_nonneg_left (hh j) γ0;show _≤γ* (2* eZ z (n+1)- 2* eZ z (n+1+j+1))+ab (evalP (r (n+1+j+1)) x);grind
 have geo:∀j,p2 j* eZ z (n+1+j)≤eZ z (n+1):=fun j=>by
  induction j with
  |zero=>rw[h3_,Nat.add_zero];grind
  |succ j ih=>
   rw[cp_,e4_];have h1:=Rat.mul_le_mul_of_nonneg_left (hh j) (Rat.le_of_lt (bH_ j));show p2 j* 2* eZ z (n+1+j+1)≤_;grind
 have lim:ab (evalP (r (n+1)) x)≤2* γ* eZ z (n+1):=by
  by_cases g:ab (evalP (r (n+1)) x)≤2* γ* eZ z (n+1);exact g;exfalso;obtain⟨ε,e0,e1⟩:∃ε:Rat,0< ε∧2* γ* eZ z (n+1)+ε=ab (evalP (r (n+1)) x):=⟨ab (evalP (r (n+1)) x)- 2* γ* eZ z (n+1),by grind,by grind⟩;obtain⟨j,hj⟩:=arch (U* eZ z (n+1)+1) e0;have h1:=step j;have h2:=c2 (n+1+j);have h3:=geo j
  have h4:((j:Int):Rat)≤p2 j:=by
   unfold p2;rw[Rat.intCast_le_intCast];have:=Nat.lt_two_pow_self (n:=j);omega
  have h5:=eZ_nn z0 (n+1+j);have h6:=Rat.mul_nonneg γ0 h5;have h7:ε≤U* eZ z (n+1+j):=by grind
  have h8:=Rat.mul_le_mul_of_nonneg_left h7 (Rat.le_of_lt (bH_ j));have h9:=Rat.mul_le_mul_of_nonneg_left h3 U0;have h10:=Rat.mul_le_mul_of_nonneg_right h4 (show 0≤ε by grind);grind
 have hf:=eS_ (n+1);rw[←nQ_] at hw
 exact dy_ hf (by
  have:=Rat.mul_le_mul_of_nonneg_right lim (show 0≤facR (n+1) by grind);grind)
section
variable {m:List Rat}{s n:Nat}(hm:bdL m s)(hs1:1≤s)(hs:s≤3000)(hl:m.length≤16)(h6:n≤6)(hn:∀j,j< n→0< oN m j)
include hm hs1 hs hl h6 hn
end
theorem nz_int'{n:Int}(h:n≠0):(n:Rat)≠0:=fun e=>h (by have:=congrArg Rat.num e;exact this)
theorem IB.nat{n h:Nat}(hn:bl n≤h):IB (((n:Nat):Int):Rat) h:=⟨n,rfl,by rwa[Int.natAbs_natCast]⟩
theorem hb_{x:Rat}{h:Nat}(hx:qs x≤h):IB (x* ((x.den:Int):Rat)) h∧IB (((x.den:Nat):Int):Rat) h∧(((x.den:Nat):Int):Rat)≠0:=by
 have h1:=co_ x;have h2:=cv_ x;refine⟨⟨x.num,?_,by omega⟩,IB.nat (by omega),nz_int' (by have:=x.den_pos;omega)⟩;have hd:(((x.den:Nat):Int):Rat)≠0:=nz_int' (by have:=x.den_pos;omega);have e3:(x.num:Rat) / (((x.den:Nat):Int):Rat)=x:=by rw[←Rat.divInt_eq_div,Rat.num_divInt_den]
 have e2:(x.num:Rat) / (((x.den:Nat):Int):Rat) * (((x.den:Nat):Int):Rat)=(x.num:Rat):=Rat.div_mul_cancel hd;rw[e3] at e2;exact e2
theorem HS.mono{p:List Rat}{K:Rat}{h k:Nat}(H:HS p K h)(hk:h≤k):HS p K k:=⟨H.ne,H.sc.mono hk,fun i=>(H.co i).mono hk⟩
theorem IB_nat{n h:Nat}(hn:bl n≤h):IB ((n:Int):Rat) h:=⟨n,rfl,by rw[Int.natAbs_natCast];exact hn⟩
theorem nN_:∀n,n≤255→IB (facR n) (8* n+1)
 |0,_=>IB.one
 |n+1,h=>by
  rw[facR];exact((nN_ n (by omega)).mul (IB_nat (h:=8) (bl_le (by omega)))).mono (by omega)
theorem nM_:∀n i,i< n→n≤255→∃z:Rat,IB z (8* n+1)∧z* (((i+1:Nat):Int):Rat)=facR n
 |0,_,h,_=>by omega
 |n+1,i,h,hn=>by
  by_cases e:i=n;subst e;exact⟨facR i,(nN_ i (by omega)).mono (by omega),by rw[facR]⟩;obtain⟨z,z1,z2⟩:=nM_ n i (by omega) (by omega);refine⟨z* (((n+1:Nat):Int):Rat),(z1.mul (IB_nat (h:=8) (bl_le (by omega)))).mono (by omega),?_⟩;rw[facR,←z2];grind
theorem HS.bdL{p:List Rat}{K:Rat}{h:Nat}(H:HS p K h)(h1:1≤h):Abs.bdL p h:=fun q hq=>by
 obtain⟨i,_,e⟩:=gS_ hq;have:=mY_ (H.co i) H.sc H.ne h1;rw[Rat.mul_div_cancel H.ne,e] at this;exact this
theorem HS.integral{p:List Rat}{K:Rat}{h L:Nat}(H:HS p K h)(hl:p.length≤L)(hL:L≤255):HS (aj_ p) (K* facR L) (h+8* L+1) where
 ne e:=(Rat.mul_eq_zero.1 e).elim H.ne (by have:=eS_ L;grind)
 sc:=(H.sc.mul (nN_ L hL)).mono (by omega)
 co i:=by
  rw[bm_];cases i with
  |zero=>rw[if_pos rfl];exact(IB.zero _).eq (by grind)
  |succ i=>
   rw[if_neg (by omega),show i+1- 1=i by omega];by_cases g:i< L;obtain⟨z,z1,z2⟩:=nM_ L i g hL;refine((H.co i).mul z1).eq ?_|>.mono (by omega);have:=Rat.div_mul_cancel (a:=coP p i) (nq_ i);rw[←z2];generalize coP p i/ (((i+1:Nat):Int):Rat)=v at *
   grind;rw[ca_ (by omega),show(0:Rat) / (((i+1:Nat):Int):Rat)=0 by rw[Rat.div_def];grind];exact(IB.zero _).eq (by grind)
theorem hx_{K x d:Rat}{h e:Nat}(hd:IB d e)(hx:IB (x* d) e):∀(l:List Rat),(∀c∈l,IB (c* K) h)→IB (evalP l x* (K* d^ l.length)) (h+l.length* (e+2))
 |[],_=>(IB.zero _).eq (by rw[am_];grind)
 |a::l,hl=>by
  have ih:=hx_ hd hx l fun c hc=>hl c (List.mem_cons_of_mem _ hc);have ha:=hl a (List.mem_cons_self ..)
  have hp:∀n:Nat,IB (d^ n) (n* e+1):=fun n=>by
   induction n with
   |zero=>rw[Rat.pow_zero];exact IB.one.mono (by omega)
   |succ n ih=>rw[Rat.pow_succ];exact(ih.mul hd).mono (by rw[Nat.succ_mul];omega)
  have e2:(a::l).length* (e+2)=l.length* (e+2)+e+2:=by rw[List.length_cons,Nat.succ_mul];omega
  have s1:=ih.mul hx;have s2:=ha.mul (hp (l.length+1));have e3:l.length* (e+2)=l.length* e+l.length* 2:=by rw[Nat.mul_add]
  have e4:(l.length+1) * e=l.length* e+e:=Nat.succ_mul _ _;rw[e2];refine(((s1.mono (show _≤h+l.length* (e+2)+e+1 by omega)).add (s2.mono (by omega))).eq ?_).mono (by omega);rw[al_,List.length_cons,Rat.pow_succ];grind
theorem HS.all{p:List Rat}{K:Rat}{h:Nat}(H:HS p K h):∀c∈p,IB (c* K) h:=fun c hc=>by
 obtain⟨i,_,e⟩:=gS_ hc;rw[←e];exact H.co i
theorem HS.k{p:List Rat}{K l d:Rat}{h e:Nat}(H:HS p K h)(d0:d≠0)(hd:IB d e)(hl:IB (l* d) e):HS (aw_ p l) (K* d) (h+e) where
 ne g:=(Rat.mul_eq_zero.1 g).elim H.ne d0
 sc:=H.sc.mul hd
 co i:=by rw[bA_];exact((H.co i).mul hl).eq (by grind)
theorem HS.rescale{p:List Rat}{K d:Rat}{h e:Nat}(H:HS p K h)(d0:d≠0)(hd:IB d e):HS p (K* d) (h+e) where
 ne g:=(Rat.mul_eq_zero.1 g).elim H.ne d0
 sc:=H.sc.mul hd
 co i:=((H.co i).mul hd).eq (by grind)
theorem HS.less{p:List Rat}{K v:Rat}{h:Nat}(H:HS p K h)(hv:IB (v* K) h):HS (subP p (a0_ v)) K (h+1) where
 ne:=H.ne
 sc:=H.sc.mono (by omega)
 co i:=by
  rw[ei_,ev_];split;exact((H.co i).add hv.neg).eq (by grind);exact((H.co i).mono (by omega)).eq (by grind)
theorem HS.plus{p q:List Rat}{K:Rat}{h:Nat}(H:HS p K h)(G:HS q K h):HS (addP p q) K (h+1) where
 ne:=H.ne
 sc:=H.sc.mono (by omega)
 co i:=by rw[db_];exact((H.co i).add (G.co i)).eq (by grind)
def upM(A B:List Rat)(a:Rat)(u:List Rat):List Rat:=addP [] (mulP A (subP (aj_ (mulP B u)) [evalP (aj_ (mulP B u)) a]))
theorem f6_(p:List Rat)(v:Rat):subP p [v]=subP p (a0_ v):=by
 have h1:trimQ (subP p [v])=subP p [v]:=by unfold subP addP;exact aY_ _
 have h2:trimQ (subP p (a0_ v))=subP p (a0_ v):=by unfold subP addP;exact aY_ _
 rw[←h1,←h2];exact eqv_trim.1 fun x=>by rw[a8_,a8_,cO_,al_,am_];grind
theorem jT_(A B:List Rat)(a:Rat)(u:List Rat)(x:Rat):evalP (upM A B a u) x=evalP A x* (evalP (aj_ (mulP B u)) x- evalP (aj_ (mulP B u)) a):=by
 unfold upM;rw[f6_,bl_,ax_,a8_,cO_,am_];grind
theorem upM_len{A B u:List Rat}{a:Rat}(hA:A.length≤3)(hB:B.length≤3):(upM A B a u).length≤u.length+5:=by
 unfold upM;have h1:=ds_ [] (mulP A (subP (aj_ (mulP B u)) [evalP (aj_ (mulP B u)) a]));have h2:=el_ A (subP (aj_ (mulP B u)) [evalP (aj_ (mulP B u)) a]);have h3:=eG_ (aj_ (mulP B u)) [evalP (aj_ (mulP B u)) a];have h4:=dF_ (mulP B u);have h5:=el_ B u;simp only[List.length_nil,List.length_cons] at *
 omega
theorem fN_{d:Rat}{e:Nat}(hd:IB d e):∀n:Nat,IB (d^ n) (n* e+1)
 |0=>by rw[Rat.pow_zero];exact IB.one.mono (by omega)
 |n+1=>by rw[Rat.pow_succ];exact((fN_ hd n).mul hd).mono (by rw[Nat.succ_mul];omega)
theorem upM_HS{A B u:List Rat}{a d KA KB K:Rat}{h:Nat}(hA:A.length≤3)(hB:B.length≤3)(hu:u.length≤245)(HA:HS A KA 120)(HB:HS B KB 120)(H:HS u K h)(d0:d≠0)(hd:IB d 20)(ha:IB (a* d) 20):∃K',HS (upM A B a u) K' (h+9000):=by
 have m1:=el_ B u;have i1:=dF_ (mulP B u);have h1:=HB.mul H hB;have h2:=h1.integral (L:=250) (by omega) (by decide);generalize hf:aj_ (mulP B u)=f at *
 have hfl:f.length≤250:=by omega
 have hp:=fN_ hd f.length;have hv:=hx_ hd ha f h2.all;have e1:f.length* (20+2)≤250* 22:=Nat.mul_le_mul_right _ hfl;have e2:f.length* 20≤250* 20:=Nat.mul_le_mul_right _ hfl
 have dn:d^ f.length≠0:=by
  have:∀n:Nat,d^ n≠0:=fun n=>by
   induction n with
   |zero=>rw[Rat.pow_zero];decide
   |succ n ih=>rw[Rat.pow_succ];intro g;rcases Rat.mul_eq_zero.1 g with g|g;exact ih g;exact d0 g
  exact this _
 have h3:=(h2.rescale dn hp).mono (show _≤120+h+3+8* 250+1+5500 by omega);have h4:=h3.less (v:=evalP f a) (hv.mono (by omega));have h5:=HA.mul h4 hA;have n0:HS [] (KA* (KB* K* facR 250* d^ f.length)) (120+(120+h+3+8* 250+1+5500+1)+3):=⟨h5.ne,h5.sc,fun i=>(IB.zero _).eq (by show 0=(0:Rat) * _;grind)⟩;have h6:=n0.plus h5;rw[←f6_] at h6;refine⟨KA* (KB* K* facR 250* d^ f.length),?_⟩;unfold upM;rw[hf];exact h6.mono (by omega)
end Go.Abs
