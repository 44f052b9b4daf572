/- Part W15 of the proof. -/
import Derived.Test.YtjkddcfoolilbaaGreatDoorW14
set_option linter.all false
namespace Go.Abs
set_option maxRecDepth 20000
def chi(s t:Int):Int:=if s≠0∧t≠s then 1 else 0
theorem chi_nn(s t:Int):0≤chi s t:=by unfold chi;grind
theorem h8_(s:Int):chi s s=0:=by unfold chi;grind
theorem oR_{s t:Int}{l:List Int}(ht:t=1∨t= -1)(hs: -1≤s∧s≤1):chL (s::t::l) 0 0=(if s= -t then 1 else 0)+chL l 0 t:=by
 have ht0:t≠0:=by omega
 by_cases h0:s=0;subst h0;rw[chL,if_neg (by simp),chL,if_pos ht0,if_neg (by omega)];omega;rw[chL,if_pos h0,chL,g7_];grind
def Sq(u:List Rat)(L:List (List Rat)):Prop:=Ch u L∧∀v M,L=v::M→∃k:Rat,0< k∧∀x,evalP v x=k* dvE u x
theorem sE_{x c:Rat}(h:c≤ab x):c≤x∨x≤ -c:=by unfold ab at h;grind
theorem ab_ge{x c:Rat}(h:c≤x∨x≤ -c)(hc:0≤c):c≤ab x:=by unfold ab;grind
theorem lQ_{k a b:Rat}(hk:0< k)(h:k* a≤k* b):a≤b:=by
 by_cases h':a≤b;exact h';have:=Rat.mul_pos hk (show 0< a- b by grind);grind
theorem Sq.tiny{u:List Rat}{L:List (List Rat)}(H:Sq u L){R:Rat}(hR:0≤R):∃h e ρ:Rat,0< h∧0< e∧0< ρ∧∀z w:Rat,ab z≤R→ab w≤R→z≤w→w- z≤h→
    chV (u::L) z- chV (u::L) w=chi (sgE z u) (sgE w u)∧((e≤ab (evalP u z)∧e≤ab (evalP u w))∨∃s:Rat,(s=1∨s= -1)∧0< s* dvE u z∧0< s* dvE u w∧ρ* (w- z)≤s* (evalP u w- evalP u z)):=by
 obtain⟨H,hv⟩:=H;cases L with
 |nil=>
  obtain⟨c,c0,hc⟩:=H.const;have hp:0< ab c:=by unfold ab;grind
  refine⟨1,ab c,1,by grind,hp,by grind,fun z w _ _ _ _=>⟨?_,.inl ⟨by grind,by grind⟩⟩⟩;rw[st_,st_,(H.sg z w).1,h8_];rfl
 |cons v L=>
 obtain⟨k,hk,hd⟩:=hv v L rfl;obtain⟨a,b,hb⟩:=H.bez v L rfl;have hA:=bV_nn hR a;have hB:=bV_nn hR b;obtain⟨e,he,he'⟩:=part 1 (d:=2* (bV R a+bV R b+1)) (by decide+kernel) (by grind);obtain⟨h1,p1,k1⟩:=H.cl.1 R e hR he;obtain⟨h2,p2,k2⟩:=H.cl.2 v L rfl R e hR he;have hT:=bT_nn hR u;have hL:=bL_nn hR u;obtain⟨ρ,pρ,eρ⟩:=part e (d:=2* k) he (by grind);obtain⟨h3,p3,e3⟩:=part ρ (d:=bT R u+1) pρ (by grind);obtain⟨h5,p5,e5⟩:=part (e/ 2) (d:=bL R u+1) (by grind) (by grind);obtain⟨h4,p4,l4,m4⟩:=less h1 h2 p1 p2;obtain⟨h6,p6,l6,m6⟩:=less h3 h5 p3 p5;obtain⟨h,p,l,m⟩:=less h4 h6 p4 p6;refine⟨h,e/ 2,ρ,p,by grind,pρ,fun z w hz hw g2 g4=>?_⟩;have hzw:ab (w- z)=w- z:=by unfold ab;rw[if_neg (by grind)]
 by_cases hu:e≤ab (evalP u z);obtain⟨s1,s2,s3⟩:=k1 z w hz hw (by grind) hu;refine⟨?_,.inl ⟨by grind,?_⟩⟩;rw[s1,h8_]
 have:chV (u::v::L) z=chV (u::v::L) w:=by
  unfold chV;simp only[List.map_cons] at s3⊢;rw[s1];exact k3_ s2 s3
 omega;have q1:=gp_ hR hz hw u;have q2:=Rat.mul_le_mul_of_nonneg_left (show w- z≤h5 by grind) hL;have q3:ab (evalP u w- evalP u z)≤e/ 2:=by rw[hzw] at q1;grind
 have q4:=ab_le.1 q3;rcases sE_ hu with q|q
 exact ab_ge (.inl (by grind)) (by grind);exact ab_ge (.inr (by grind)) (by grind)
 have hv:e≤ab (evalP v z):=by
  by_cases hv:e≤ab (evalP v z);exact hv;have n1:=dk_ (dE_ hR hz a) (show ab (evalP u z)≤e by grind) (ab_nn _) hA;have n2:=dk_ (dE_ hR hz b) (show ab (evalP v z)≤e by grind) (ab_nn _) hB;have n3:=j5_ (evalP a z* evalP u z) (evalP b z* evalP v z);rw[hb z,eR_,eR_,show ab 1=1 by decide+kernel] at n3;grind
 obtain⟨s1,s2,s3⟩:=k2 z w hz hw (by grind) hv;have htan:=i5_ hR hz hw u;rw[hzw] at htan;have ht2:=ab_le.1 htan;have hwz:0≤w- z:=by grind
 have small:bT R u* ((w- z) * (w- z))≤ρ* (w- z):=by
  have q1:=Rat.mul_le_mul_of_nonneg_left (show w- z≤h3 by grind) hT;have q2:bT R u* (w- z)≤ρ:=by grind
  have q3:=Rat.mul_le_mul_of_nonneg_right q2 hwz;grind
 have tail:∀t:Int,(t=1∨t= -1)→sgE z v=t→chV (u::v::L) z- chV (u::v::L) w=(if sgE z u= -t then 1 else 0)- (if sgE w u= -t then 1 else 0):=fun t ht e=>by
  have s4:=s3;rw[e] at s4;unfold chV;simp only[List.map_cons];rw[s1,e,oR_ ht (do_ z u),oR_ ht (do_ w u),k4_ s4 (by omega)];omega
 have bz:=do_ z u;have bw:=do_ w u;rcases bx_ z v with⟨c1,c2⟩|⟨c1,c2⟩|⟨c1,c2⟩
 have c3:e≤evalP v z:=by rcases sE_ hv with q|q <;> grind
 have d1:2* ρ≤dvE u z:=lQ_ hk (by rw[←hd];grind);have c4:=Rat.mul_le_mul_of_nonneg_left d1 hwz;have up:ρ* (w- z)≤evalP u w- evalP u z:=by grind
 have nn:=Rat.mul_nonneg (show 0≤ρ by grind) hwz;have mo:=hN_ (q:=u) (x:=z) (y:=w) (by grind);refine⟨?_,.inr ⟨1,.inl rfl,by grind,?_,by grind⟩⟩;rw[tail 1 (.inl rfl) c1];unfold chi;split <;> split <;> split <;> omega;rcases bx_ w v with⟨f1,f2⟩|⟨f1,f2⟩|⟨f1,f2⟩
 rw[hd] at f2;by_cases f3:0< dvE u w;grind;have:=Rat.mul_nonneg (show 0≤k by grind) (show 0≤ -dvE u w by grind);grind;omega;omega;have c3:evalP v z≤ -e:=by rcases sE_ hv with q|q <;> grind
 have d1:2* ρ≤ -dvE u z:=lQ_ hk (by have:=hd z;grind);have c4:=Rat.mul_le_mul_of_nonneg_left d1 hwz;have up:ρ* (w- z)≤evalP u z- evalP u w:=by grind
 have nn:=Rat.mul_nonneg (show 0≤ρ by grind) hwz;have mo:=hN_ (q:=u) (x:=w) (y:=z) (by grind);refine⟨?_,.inr ⟨-1,.inr rfl,by grind,?_,by grind⟩⟩;rw[tail (-1) (.inr rfl) c1];unfold chi;split <;> split <;> split <;> omega;rcases bx_ w v with⟨f1,f2⟩|⟨f1,f2⟩|⟨f1,f2⟩
 omega;rw[hd] at f2;by_cases f3:0< -dvE u w;grind;have:=Rat.mul_nonneg (show 0≤k by grind) (show 0≤dvE u w by grind);grind;omega;exact absurd c1 s2
theorem ab_rng(x y:Rat):0≤ab x+ab y:=by have:=ab_nn x;have:=ab_nn y;grind
theorem Sq.mono{u:List Rat}{L:List (List Rat)}(H:Sq u L){x y:Rat}(hxy:x≤y):chV (u::L) y≤chV (u::L) x:=by
 obtain⟨h,e,ρ,h0,_,_,ht⟩:=H.tiny (ab_rng x y);refine way (f:=chV (u::L)) (fun s t=>t≤s) (fun _=>Int.le_refl _) (fun _ _ _ g1 g2=>Int.le_trans g2 g1) h0 hxy fun z w g1 g2 g3 g4=>?_;have:=(ht z w (ab_in g1 (by grind)) (ab_in (by grind) g3) g2 g4).1;have:=chi_nn (sgE z u) (sgE w u);omega
theorem f8_{q r:List Rat}{x c:Rat}(e:evalP r x=c* evalP q x):(0< c→sgE x r=sgE x q)∧(c< 0→sgE x r= -sgE x q):=by
 constructor;intro hc;rcases bx_ x q with⟨a,b⟩|⟨a,b⟩|⟨a,b⟩
 rw[a];exact fK_ (by rw[e];exact Rat.mul_pos hc b);rw[a];exact ih_ (by have:=Rat.mul_pos hc (show 0< -evalP q x by grind);grind);rw[a];exact hM_ (by rw[e,b];grind);intro hc;rcases bx_ x q with⟨a,b⟩|⟨a,b⟩|⟨a,b⟩
 rw[a];exact ih_ (by have:=Rat.mul_pos (show 0< -c by grind) b;grind);rw[a];exact fK_ (by have:=Rat.mul_pos (show 0< -c by grind) (show 0< -evalP q x by grind);grind);rw[a,hM_ (by rw[e,b];grind)];rfl
theorem ss_(s t:Int):chi (-s) (-t)=chi s t:=by unfold chi;split <;> split <;> omega
theorem Sq.add{S A B a b:List Rat}{LS LA LB:List (List Rat)}{κ:Rat}(hS:Sq S LS)(hA:Sq A LA)(hB:Sq B LB)(hκ:κ≠0)(hm:∀x,evalP S x=κ* (evalP A x* evalP B x))(hb:∀x,evalP a x* evalP A x+evalP b x* evalP B x=1){x y:Rat}(hxy:x≤y):
    chV (S::LS) x- chV (S::LS) y=(chV (A::LA) x- chV (A::LA) y)+(chV (B::LB) x- chV (B::LB) y):=by
 have hR:=ab_rng x y;obtain⟨h1,_,_,p1,_,_,t1⟩:=hS.tiny hR;obtain⟨h2,_,_,p2,_,_,t2⟩:=hA.tiny hR;obtain⟨h3,_,_,p3,_,_,t3⟩:=hB.tiny hR;have nA:=bV_nn hR a;have nB:=bV_nn hR b;obtain⟨e,he,he'⟩:=part 1 (d:=2* (bV (ab x+ab y) a+bV (ab x+ab y) b+1)) (by decide+kernel) (by grind);obtain⟨h4,p4,k4⟩:=keep A hR he;obtain⟨h5,p5,k5⟩:=keep B hR he;obtain⟨i1,j1,l1,m1⟩:=less h1 h2 p1 p2;obtain⟨i2,j2,l2,m2⟩:=less h3 h4 p3 p4;obtain⟨i3,j3,l3,m3⟩:=less i1 i2 j1 j2;obtain⟨h,h0,l,m⟩:=less i3 h5 j3 p5
 have w:=way (f:=fun z=>chV (S::LS) z- chV (A::LA) z- chV (B::LB) z) (· = ·) (fun _=>rfl) (fun _ _ _=>Eq.trans) h0 hxy fun z w g1 g2 g3 g4=>by
  have hz:=ab_in g1 (show z≤y by grind);have hw:=ab_in (show x≤w by grind) g3;have q1:=(t1 z w hz hw g2 (by grind)).1;have q2:=(t2 z w hz hw g2 (by grind)).1;have q3:=(t3 z w hz hw g2 (by grind)).1;have hzw:=ab_sub g2 g4;have flip:∀c:Rat,c≠0→(0< c∨c< 0):=fun c hc=>by grind
  by_cases hA':e≤ab (evalP A z);obtain⟨r1,r2⟩:=k4 z w hz hw (by grind) hA';rw[r1,h8_] at q2
  have:chi (sgE z S) (sgE w S)=chi (sgE z B) (sgE w B):=by
   have ez:=f8_ (q:=B) (r:=S) (x:=z) (c:=κ* evalP A z) (by rw[hm];grind);have ew:=f8_ (q:=B) (r:=S) (x:=w) (c:=κ* evalP A w) (by rw[hm];grind)
   have sg:(0< κ* evalP A z∧0< κ* evalP A w)∨(κ* evalP A z< 0∧κ* evalP A w< 0):=by
    rcases bx_ z A with⟨a1,a2⟩|⟨a1,a2⟩|⟨a1,a2⟩
    have a3:0< evalP A w:=by rcases bx_ w A with⟨_,g⟩|⟨g,_⟩|⟨g,_⟩<;> first|exact g|omega
    rcases flip κ hκ with g|g
    exact .inl ⟨Rat.mul_pos g a2,Rat.mul_pos g a3⟩;have:=Rat.mul_pos (show 0< -κ by grind) a2;have:=Rat.mul_pos (show 0< -κ by grind) a3;exact .inr ⟨by grind,by grind⟩;have a3:evalP A w< 0:=by rcases bx_ w A with⟨g,_⟩|⟨_,g⟩|⟨g,_⟩<;> first|exact g|omega
    rcases flip κ hκ with g|g
    have:=Rat.mul_pos g (show 0< -evalP A z by grind);have:=Rat.mul_pos g (show 0< -evalP A w by grind);exact .inr ⟨by grind,by grind⟩;have:=Rat.mul_pos (show 0< -κ by grind) (show 0< -evalP A z by grind);have:=Rat.mul_pos (show 0< -κ by grind) (show 0< -evalP A w by grind);exact .inl ⟨by grind,by grind⟩;exact absurd a1 r2
   rcases sg with⟨g1,g2⟩|⟨g1,g2⟩
   rw[ez.1 g1,ew.1 g2];rw[ez.2 g1,ew.2 g2,ss_]
  show _=_;omega
  have hB':e≤ab (evalP B z):=by
   by_cases hB':e≤ab (evalP B z);exact hB';have n1:=dk_ (dE_ hR hz a) (show ab (evalP A z)≤e by grind) (ab_nn _) nA;have n2:=dk_ (dE_ hR hz b) (show ab (evalP B z)≤e by grind) (ab_nn _) nB;have n3:=j5_ (evalP a z* evalP A z) (evalP b z* evalP B z);rw[hb z,eR_,eR_,show ab 1=1 by decide+kernel] at n3;grind
  obtain⟨r1,r2⟩:=k5 z w hz hw (by grind) hB';rw[r1,h8_] at q3
  have:chi (sgE z S) (sgE w S)=chi (sgE z A) (sgE w A):=by
   have ez:=f8_ (q:=A) (r:=S) (x:=z) (c:=κ* evalP B z) (by rw[hm];grind);have ew:=f8_ (q:=A) (r:=S) (x:=w) (c:=κ* evalP B w) (by rw[hm];grind)
   have sg:(0< κ* evalP B z∧0< κ* evalP B w)∨(κ* evalP B z< 0∧κ* evalP B w< 0):=by
    rcases bx_ z B with⟨a1,a2⟩|⟨a1,a2⟩|⟨a1,a2⟩
    have a3:0< evalP B w:=by rcases bx_ w B with⟨_,g⟩|⟨g,_⟩|⟨g,_⟩<;> first|exact g|omega
    rcases flip κ hκ with g|g
    exact .inl ⟨Rat.mul_pos g a2,Rat.mul_pos g a3⟩;have:=Rat.mul_pos (show 0< -κ by grind) a2;have:=Rat.mul_pos (show 0< -κ by grind) a3;exact .inr ⟨by grind,by grind⟩;have a3:evalP B w< 0:=by rcases bx_ w B with⟨g,_⟩|⟨_,g⟩|⟨g,_⟩<;> first|exact g|omega
    rcases flip κ hκ with g|g
    have:=Rat.mul_pos g (show 0< -evalP B z by grind);have:=Rat.mul_pos g (show 0< -evalP B w by grind);exact .inr ⟨by grind,by grind⟩;have:=Rat.mul_pos (show 0< -κ by grind) (show 0< -evalP B z by grind);have:=Rat.mul_pos (show 0< -κ by grind) (show 0< -evalP B w by grind);exact .inl ⟨by grind,by grind⟩;exact absurd a1 r2
   rcases sg with⟨g1,g2⟩|⟨g1,g2⟩
   rw[ez.1 g1,ew.1 g2];rw[ez.2 g1,ew.2 g2,ss_]
  show _=_;omega
 omega

section
variable {f:Nat}{p:List Rat}{c:Cnt}(h:eJ_ f p=some c)(hp:nz p)
include h hp
end
def ofQ(p m:List Rat):Nat→Rat
 |0=>0
 |n+1=>ofQ p m n+coP p n* coP m n
def gK(f:List Rat):Nat→List Rat
 |0=>f
 |k+1=>mulP (gK f k) [0,1]
def moQ(f:List Rat)(s:Sp)(k:Nat):Rat:=evalP (aJ_ (gK f k)) s.2- evalP (aJ_ (gK f k)) s.1
def okMo(f:List Rat)(s:Sp)(k:Nat):Prop:=smL (gK f k)∧(gK f k).length≤1000000∧cO_ (aJ_ (gK f k)) s.1∧cO_ (aJ_ (gK f k)) s.2∧okMul (gK f k) [0,1]
def sqL(sq:Nat→Rat)(n:Nat):List Rat:=(List.range n).map sq
@[simp] theorem sqL_length (sq:Nat→Rat)(n:Nat):(sqL sq n).length=n:=by simp[sqL]
def ofP(m p:List Rat):Rat:=ofQ (trimQ p) m (trimQ p).length
def okOf(m p:List Rat):Prop:=p.length≤1000000∧(trimQ p).length≤m.length∧(p.length+2) * (mxL p+mxL m+1)≤137438953472
instance (m p:List Rat):Decidable (okOf m p):=inferInstanceAs (Decidable (_∧_∧_))
def ldN(m p:List Rat):Rat:=ofP m (mulP p p)
def ldA(m p:List Rat):Rat:=ofP m (mulP (mulP p p) [0,1]) / ldN m p
def ldr(m:List Rat):Nat→List Rat×List Rat×Rat
 |0=>([1],[],0)
 |k+1=>(subP (mulP (ldr m k).1 [-ldA m (ldr m k).1,1]) (bd_ (ldr m k).2.1 (if k=0 then 0 else ldN m (ldr m k).1/ (ldr m k).2.2)),(ldr m k).1,ldN m (ldr m k).1)
def ldB(m:List Rat)(k:Nat):Rat:=if k=0 then 0 else ldN m (ldr m k).1/ (ldr m k).2.2
def ldAk(m:List Rat)(k:Nat):Rat:=ldA m (ldr m k).1
def okLd(m:List Rat)(k:Nat):Prop:=
 okMul (ldr m k).1 (ldr m k).1∧okOf m (mulP (ldr m k).1 (ldr m k).1)∧0< ldN m (ldr m k).1∧okMul (mulP (ldr m k).1 (ldr m k).1) [0,1]∧okOf m (mulP (mulP (ldr m k).1 (ldr m k).1) [0,1])∧
 qs (ofP m (mulP (mulP (ldr m k).1 (ldr m k).1) [0,1]))+qs (ldN m (ldr m k).1)≤549755813888∧qs (ldN m (ldr m k).1)+qs (ldr m k).2.2≤549755813888∧
 okMul (ldr m k).1 [-ldAk m k,1]∧(∀q∈(ldr m k).2.1,sm q)∧sm (ldB m k)∧(∀q∈mulP (ldr m k).1 [-ldAk m k,1],sm q)∧(∀q∈bd_ (ldr m k).2.1 (ldB m k),sm q)∧
 (ldr m k).2.1.length≤1099511627776∧(mulP (ldr m k).1 [-ldAk m k,1]).length≤1099511627776∧(bd_ (ldr m k).2.1 (ldB m k)).length≤1099511627776
instance (m:List Rat) (k:Nat):Decidable (okLd m k):=by unfold okLd;infer_instance
def okBs(g nx a c:List Rat):Prop:=okDiv g nx∧okMul (divP g nx).1 c∧(∀q∈a,sm q)∧(∀q∈mulP (divP g nx).1 c,sm q)∧a.length≤1099511627776∧(mulP (divP g nx).1 c).length≤1099511627776
instance (g nx a c:List Rat):Decidable (okBs g nx a c):=by unfold okBs;infer_instance
def bzG(g:List Rat):List Rat:=bd_ g (((1:Int):Rat) / leadP g)
def bzA(q g a:List Rat):List Rat:=(divP (bd_ a (((1:Int):Rat) / leadP g)) (divP q (bzG g)).1).2
def okBz(p q g a:List Rat):Prop:=
 trimQ g≠[]∧g.length≤1099511627776∧a.length≤1099511627776∧(∀x∈g,sm x)∧(∀x∈a,sm x)∧qs (leadP g)≤68719476736∧okDiv q (bzG g)∧trimQ (bzG g)≠[]∧
 okDiv (bd_ a (((1:Int):Rat) / leadP g)) (divP q (bzG g)).1∧trimQ (divP q (bzG g)).1≠[]∧okMul (bzA q g a) p∧(∀x∈bzG g,sm x)∧(∀x∈mulP (bzA q g a) p,sm x)∧
 (bzG g).length≤1099511627776∧(mulP (bzA q g a) p).length≤1099511627776∧okDiv (subP (bzG g) (mulP (bzA q g a) p)) q
instance (p q g a:List Rat):Decidable (okBz p q g a):=by unfold okBz;infer_instance
def tpV(p m:List Rat)(i:Nat):Nat→Rat
 |0=>0
 |j+1=>if i< j then tpV p m i j+coP p j* coP m (j- 1- i) else tpV p m i j
def tpQ(p m:List Rat):List Rat:=tabP (p.length- 1) fun i=>tpV p m i p.length
def apR(p w f:List Rat):List Rat:=(divP (mulP w (divP f p).2) p).2
def nwA(T:List Rat)(n:Nat)(out:List Rat)(k:Nat):Nat→Rat
 |0=>coP T (n- k) * ((k:Int):Rat)
 |i+1=>nwA T n out k i+coP T (n- (i+1)) * coP out (k- (i+1))
def suL(T:List Rat)(n:Nat):Nat→List Rat
 |0=>[((n:Int):Rat)]
 |k+1=>suL T n k++[-(nwA T n (suL T n k) (k+1) k)]
def okSu(T:List Rat)(n k:Nat):Prop:=qs (coP T (n- (k+1)))+qs (((k+1:Nat):Int):Rat)≤549755813888∧
 ∀i,i< k→qs (coP T (n- (i+1)))+qs (coP (suL T n k) (k+1- (i+1)))≤549755813888∧qs (nwA T n (suL T n k) (k+1) i)+qs (coP T (n- (i+1)) * coP (suL T n k) (k+1- (i+1)))≤549755813888
def krS(e m:List Rat)(k:Nat):Nat→Rat
 |0=>0
 |j+1=>krS e m k j+coP e j* coP m (j+k)
def krE(m:List Rat)(n:Nat):Nat→List Rat
 |0=>List.replicate (n+1) 0++[((1:Int):Rat)]
 |k+1=>(krE m n k).set (n- k) (-(krS (krE m n k) m k (n+2) / coP m n))
def okKr(m:List Rat)(n k:Nat):Prop:=(∀j,j< n+2→qs (coP (krE m n k) j)+qs (coP m (j+k))≤549755813888∧qs (krS (krE m n k) m k j)+qs (coP (krE m n k) j* coP m (j+k))≤549755813888)∧
 qs (krS (krE m n k) m k (n+2))+qs (coP m n)≤549755813888

theorem nt_{e:Int}(he:e=1∨e= -1):∀(l:List Int) (t:Int),(t=1∨t= -1)→(∀s∈l,-1≤s∧s≤1)→(t::l).getLast?=some e→chL l 0 t % 2=if t=e then 0 else 1
 |[],t,ht,_,h=>by
  have:t=e:=by grind
  rw[if_pos this];rfl
 |s::l,t,ht,hs,h=>by
  have h0:=hs s (List.mem_cons_self ..);by_cases hz:s≠0;have ih:=nt_ he l s (by omega) (fun x hx=>hs x (List.mem_cons_of_mem _ hx)) (by grind);rw[chL,if_pos hz,g7_];by_cases h1:s=e;by_cases h2:s= -t;omega;omega;by_cases h2:s= -t;omega;omega;rw[chL,if_neg hz];refine nt_ he l t ht (fun x hx=>hs x (List.mem_cons_of_mem _ hx)) ?_;grind
theorem Ch.last{u:List Rat}{L:List (List Rat)}(H:Ch u L):∃e:Int,(e=1∨e= -1)∧∀x,((u::L).map (sgE x)).getLast?=some e:=by
 induction H with
 | @one u c hc hu=>
  have h:=Ch.sg (.one hc hu) 0;have hb:=do_ 0 u;exact⟨sgE 0 u,by have:=(h 0).2;omega,fun x=>((by grind))⟩
 | @pair u v _ ih=>
  simp_all
 | @step u v w L a c q _ _ _ _ ih=>
  simp_all
theorem Ch.drop{u v:List Rat}{L:List (List Rat)}{k:Rat}(H:Ch u (v::L))(hk:0< k)(hd:∀x,evalP v x=k* dvE u x){x y:Rat}(hxy:x≤y)(hs:evalP u x* evalP u y< 0):chV (u::v::L) y+1≤chV (u::v::L) x:=by
 have h1:=H.fall hk hd hxy;obtain⟨e,he,h⟩:=H.last
 have key:∀z,sgE z u≠0→chV (u::v::L) z % 2=if sgE z u=e then 0 else 1:=fun z hz=>by
  have hb:=do_ z u;unfold chV;rw[List.map_cons,chL,if_pos hz,if_neg (by omega)]
  exact nt_ he _ _ (by omega) (fun s hs=>by
   obtain⟨q,_,rfl⟩:=List.mem_map.1 hs;exact do_ z q) (by grind)
 have hx0:sgE x u≠0∧sgE y u≠0∧sgE x u≠sgE y u:=by
  rcases bx_ x u with⟨a,b⟩|⟨a,b⟩|⟨a,b⟩<;> rcases bx_ y u with⟨a',b'⟩|⟨a',b'⟩|⟨a',b'⟩
  have:=Rat.mul_pos b b';grind;omega;rw[b'] at hs;grind;omega;have:=Rat.mul_pos (show 0< -evalP u x by grind) (show 0< -evalP u y by grind);grind;rw[b'] at hs;grind;rw[b] at hs;grind;rw[b] at hs;grind;rw[b] at hs;grind
 have kx:=key x hx0.1;have ky:=key y hx0.2.1;have bx:=do_ x u;have bY:=do_ y u;grind



def bN:Nat→List Rat
 |1=>[0,1]
 |2=>[mkRat (-1) 3,0,1]
 |3=>[0,mkRat (-3) 5,0,1]
 |4=>[mkRat 3 35,0,mkRat (-6) 7,0,1]
 |_=>[1]
def bWt:Nat→List Rat
 |1=>[2]
 |2=>[1]
 |3=>[mkRat 8 9,0,mkRat (-5) 9]
 |4=>[mkRat 17 24,0,mkRat (-35) 72]
 |_=>[]
def bA:Nat→List Rat
 |2=>[-3]
 |3=>[0,mkRat (-25) 2]
 |4=>[mkRat 35 3,0,mkRat (-1225) 24]
 |_=>[]
def bB:Nat→List Rat
 |1=>[1]
 |2=>[0,mkRat 3 2]
 |3=>[mkRat (-5) 3,0,mkRat 25 6]
 |4=>[0,mkRat (-805) 96,0,mkRat 1225 96]
 |_=>[]
def bX(k i:Nat):Rat:=
 if i=0 then -1 else if i=k then 1 else if k=2 then 0 else if i=1 then mkRat (-1) 2 else if k=4∧i=2 then 0 else mkRat 1 2
def m0K(k:Nat):List Rat:=sqL (moQ [1] (-1,1)) (2* k)
def baseC(k:Nat):Prop:=
 (∀j,j< k+1→(ldr (m0K k) j).1=bN j)∧(∀j,j< k→0< ldN (m0K k) (ldr (m0K k) j).1)∧(bN k).length=k+1∧coP (bN k) k=1∧addP (mulP (bA k) (bN k)) (mulP (bB k) (cq_ (bN k)))=[1]∧
 (divP (subP (mulP (bWt k) (cq_ (bN k))) (tpQ (bN k) (m0K k))) (bN k)).2=[]∧(bWt k).length≤k∧(∀i,i< k→bX k i< bX k (i+1))∧(∀i,i< k→evalP (bN k) (bX k i) * evalP (bN k) (bX k (i+1))< 0)∧
 (∀j,j< k+1→bdL (bN j) 8∧(bN j).length≤5)∧bdL (bWt k) 8
instance (k:Nat):Decidable (baseC k):=by unfold baseC;infer_instance
section
variable {a b:Rat}(h:a< b){k:Nat}(hk:1≤k∧k≤4)
include h hk
end

theorem bdL_mono'{l:List Rat}{a b:Nat}(h:bdL l a)(hab:a≤b):bdL l b:=fun q hq=>Nat.le_trans (h q hq) hab
section
variable {a b:Rat}(h:a< b){k:Nat}(hk:1≤k∧k≤4)(ha:qs a≤20)(hb:qs b≤20)
include ha hb
end
section
variable {a b:Rat}(h:a< b){k:Nat}(hk:1≤k∧k≤4)
include h hk
variable (ha:qs a≤20)(hb:qs b≤20)
include ha hb
end
section
variable {a b:Rat}(h:a< b){k:Nat}(hk:1≤k∧k≤4)(ha:qs a≤20)(hb:qs b≤20)
include h hk ha hb
end
section
variable {a b a' b':Rat}(h:a< b)(h':a'< b'){k:Nat}(hk:1≤k∧k≤4)
include h h'
end
section
variable {a b a' b':Rat}(ha:qs a≤20)(hb:qs b≤20)(ha':qs a'≤20)(hb':qs b'≤20)
include ha hb ha' hb'
end
def okReC(c:Cnt)(p:List Rat):Prop:=okBe c (-dZ_ p)∧okUp c (dZ_ p)∧smS (-dZ_ p,dZ_ p)∧iw_ p∧p.length≤1000∧1≤degP p∧degP p≤25
instance (c:Cnt) (p:List Rat):Decidable (okReC c p):=by unfold okReC;infer_instance
def okOnC(p m G A:List Rat):Prop:=okBz (cq_ p) p G A∧okMul (tpQ p m) (bzA p G A)∧okDiv (mulP (tpQ p m) (bzA p G A)) p∧trimQ p=p∧2≤p.length∧p.length≤1000∧p.length≤m.length+1∧(p.length+1) * (mxL p+mxL m+1)≤137438953472∧smL p
instance (p m G A:List Rat):Decidable (okOnC p m G A):=by unfold okOnC;infer_instance
def suP(p:List Rat):List Rat:=suL (trimQ p) (dg p) (dg p- 1)
def apV(p w f:List Rat):Rat:=ofQ (apR p w f) (suP p) (apR p w f).length
instance (T:List Rat) (n k:Nat):Decidable (okSu T n k):=by unfold okSu;infer_instance
instance (f:List Rat) (s:Sp) (k:Nat):Decidable (okMo f s k):=by unfold okMo smL;infer_instance
def okAp(p w f:List Rat):Prop:=okDiv f p∧okMul w (divP f p).2∧okDiv (mulP w (divP f p).2) p∧1≤dg p∧dg p≤1000∧p.length≤1000∧(∀k,k< dg p- 1→okSu (trimQ p) (dg p) k)∧(apR p w f).length≤dg p∧((apR p w f).length+2) * (mxL (apR p w f)+mxL (suP p)+1)≤137438953472∧sm (apV p w f)
instance (p w f:List Rat):Decidable (okAp p w f):=by unfold okAp;infer_instance
instance (m:List Rat) (n k:Nat):Decidable (okKr m n k):=by unfold okKr;infer_instance
theorem nr_{l:List Rat}{q:Rat}(h:q∈l):∃i,i< l.length∧coP l i=q:=by
 obtain⟨i,hi,e⟩:=List.getElem_of_mem h;exact⟨i,hi,by rw[←e];unfold coP;rw[List.getD_eq_getElem?_getD,List.getElem?_eq_getElem hi];rfl⟩
section
variable {a b:Rat}{p q:Nat}(ha:qs a≤256)(hb:qs b≤256)(hp:p≤8)(hq:q≤8)
include ha in
end

abbrev oP(m:List Rat)(k:Nat):List Rat:=(ldr m k).1
abbrev oN(m:List Rat)(k:Nat):Rat:=ldN m (oP m k)

section
variable {N:List Rat}(hN:nz N)(hm:leadP N=1)(h1:1≤dg N)
include hN hm h1
end

def IB(x:Rat)(h:Nat):Prop:=∃z:Int,x=(z:Rat)∧bl z.natAbs≤h
theorem IB.mono{x:Rat}{h k:Nat}(H:IB x h)(hk:h≤k):IB x k:=by obtain⟨z,e,b⟩:=H;exact⟨z,e,by omega⟩
theorem IB.zero(h:Nat):IB 0 h:=⟨0,rfl,Nat.zero_le _⟩
theorem IB.one:IB 1 1:=⟨1,rfl,by decide⟩
theorem IB.mul{x y:Rat}{h k:Nat}(H:IB x h)(K:IB y k):IB (x* y) (h+k):=by
 obtain⟨z,e,b⟩:=H;obtain⟨w,e',b'⟩:=K;exact⟨z* w,by grind,cb_ b b'⟩
theorem IB.add{x y:Rat}{h:Nat}(H:IB x h)(K:IB y h):IB (x+y) (h+1):=by
 obtain⟨z,e,b⟩:=H;obtain⟨w,e',b'⟩:=K;exact⟨z+w,by grind,mw_ b b'⟩
theorem IB.neg{x:Rat}{h:Nat}(H:IB x h):IB (-x) h:=by
 obtain⟨z,e,b⟩:=H;exact⟨-z,by grind,by grind⟩
theorem IB.eq{x y:Rat}{h:Nat}(H:IB x h)(e:x=y):IB y h:=e▸H
structure HS (p:List Rat)(K:Rat)(h:Nat):Prop where
 ne:K≠0
 sc:IB K h
 co:∀i,IB (coP p i* K) h
theorem coP_mulP(p q:List Rat)(n:Nat):coP (mulP p q) n=convP p q p.length n:=by
 rw[←k1_];exact trim_iff.1 (h6_ fun x=>by rw[el_,jT_]) n
theorem sm_{p q:List Rat}{K K':Rat}{h h':Nat}(H:HS p K h)(H':HS q K' h')(n:Nat):∀i,IB (convP p q i n* (K* K')) (h+h'+i)
 |0=>(IB.zero _).eq (by show 0=0* _;grind)
 |i+1=>by
  have ih:=sm_ H H' n i
  have hx:IB ((if i≤n then coP p i* coP q (n- i) else 0) * (K* K')) (h+h'+i):=by
   split;exact(((H.co i).mul (H'.co (n- i))).eq (by grind)).mono (by omega);exact(IB.zero _).eq (by grind)
  exact((ih.add hx).eq (by rw[convP];grind)).mono (by omega)
theorem HS.mul{p q:List Rat}{K K':Rat}{h h' L:Nat}(H:HS p K h)(H':HS q K' h')(hl:p.length≤L):HS (mulP p q) (K* K') (h+h'+L) where
 ne e:=(Rat.mul_eq_zero.1 e).elim H.ne H'.ne
 sc:=(H.sc.mul H'.sc).mono (by omega)
 co i:=by
  rw[coP_mulP];exact(sm_ H H' i p.length).mono (by omega)
theorem HS.step {p l r:List Rat} {K K' A B B' a b:Rat} {h h' M:Nat} (H:HS p K h) (H':HS l K' h') (hB:IB B (2* h+M)) (hA:IB A (2* h+M)) (hB':IB B' (2* h'+M)) (b0:B≠0) (b0':B'≠0) (ha:a* B=A)
    (hb:∀i,coP l i* b* (B'* K* K)=coP l i* K'* K'* B) (hr:∀i,coP r i=coP p i* -a+lag p i- coP l i* b):HS r (K* K* B* B') (4* h+2* h'+2* M+2) where
 ne e:=by
  rcases Rat.mul_eq_zero.1 e with e|e
  rcases Rat.mul_eq_zero.1 e with e|e
  rcases Rat.mul_eq_zero.1 e with e|e <;> exact H.ne e
  exact b0 e;grind
 sc:=(((H.sc.mul H.sc).mul hB).mul hB').mono (by omega)
 co i:=by
  have hlag:IB (lag p i* K) h:=by
   cases i with
   |zero=>exact(IB.zero h).eq (by show 0=0* K;grind)
   |succ i=>exact H.co i
  have t1:=((((H.co i).mul H.sc).mul hB').mul hA).neg;have t2:=((hlag.mul H.sc).mul hB').mul hB;have t3:=((((H'.co i).mul H'.sc).mul hB).mul hB).neg;have s1:=(t1.mono (show _≤4* h+2* h'+2* M by omega)).add (t2.mono (show _≤4* h+2* h'+2* M by omega));have s2:=s1.add (t3.mono (show _≤4* h+2* h'+2* M+1 by omega));grind
def p2(n:Nat):Rat:=((2^ n:Nat):Int)
def sF:Nat→Nat→Nat→Nat→Nat→Nat→Nat
 |0,_,_,_,_,_=>0
 |f+1,m,n,h,g,r=>(h+(m+1- n) * (g+1))+g+(r+1) * (m+1- n)+1+((List.range n).map fun k=>if k=0 then 0 else sF f n k g (h+(m+1- n) * (g+1)) r).foldl max 0
section
variable {f:Nat}{p:List Rat}{c:Cnt}(h:eJ_ f p=some c)(hp:nz p)
include h hp
def At(c:Cnt)(i:Int)(x y:Rat):Prop:=x≤y∧cy_ c x≤i∧i< uptoV c y
end


def cH(f N h X T Q:Nat):Bool:=
 decide (N≤12∧1≤h∧1≤X∧X≤137438953472∧2^ 12* (h+2* X+1)≤137438953472∧17* (h+12* N+8)≤34359738368∧h+12* N+8≤T∧12* (T+Q+1)+T+Q+2≤137438953472) &&
 ((List.range (N+1)).all fun m=>(List.range m).all fun n=>hG f m n h (h+5) X) &&
 ((List.range (N+1)).all fun m=>(List.range m).all fun n=>cB f m n (h+12* N+8) (h+12* N+13) (h+12* N+13) T)

section
variable {f:Nat}{q d:List Rat}{c:Cnt}{σ:Rat}(h:eJ_ f d=some c)(hd:nz d)(hσ:σ=1∨σ= -1)(hdq:∀z,dvE q z=σ* evalP d z)
include hσ hdq
end
def facR:Nat→Rat
 |0=>1
 |n+1=>facR n* (((n+1:Nat):Int):Rat)
theorem kT_:∀n,0< facR n
 |0=>by decide+kernel
 |n+1=>by
  rw[facR];exact Rat.mul_pos (kT_ n) (by rw[show(0:Rat)=((0:Int):Rat) from rfl,Rat.intCast_lt_intCast];omega)
theorem nat_ne(k:Nat):(((k+1:Nat):Int):Rat)≠0:=fun e=>by have:=Rat.intCast_inj.1 (e.trans Rat.intCast_zero.symm);omega
theorem HS.nil:HS [] 1 1:=⟨by decide,IB.one,fun i=>(IB.zero 1).eq (by show 0=(0:Rat) * 1;grind)⟩
section
variable {m:List Rat}{k:Rat}{M n:Nat}(k0:k≠0)(hm:∀i,IB (coP m i* k) M)(hn:∀j,j< n→oN m j≠0)(h7:n≤7)
include k0 hm hn h7
end
theorem IB_quot{x y:Rat}{h:Nat}(H:IB x h)(K:IB y h)(y0:y≠0)(h1:1≤h):qs (x/ y)≤h:=by
 have hH:Ht [x,y] h:=⟨1,by decide,fun i=>by
  have:IB (coP [x,y] i* 1) h:=by
   match i with
   |0=>exact H.eq (by show x=x* 1;grind)
   |1=>exact K.eq (by show y=y* 1;grind)
   |i+2=>exact(IB.zero h).eq (by show 0=0* 1;grind)
  obtain⟨z,e,b⟩:=this;exact⟨z,e,b⟩⟩
 exact hH.quot 0 1 y0 h1
section
variable {m:List Rat}{s n:Nat}(hm:bdL m s)(hs1:1≤s)(hs:s≤3000)(hl:m.length≤16)(h6:n≤6)(hn:∀j,j< n→0< oN m j)
include hm hs1 hs hl h6 hn
end
theorem nz_int'{n:Int}(h:n≠0):(n:Rat)≠0:=fun e=>h (by have:=congrArg Rat.num e;exact this)
theorem IB.nat{n h:Nat}(hn:bl n≤h):IB (((n:Nat):Int):Rat) h:=⟨n,rfl,by rwa[Int.natAbs_natCast]⟩
theorem sI_{x:Rat}{h:Nat}(hx:qs x≤h):IB (x* ((x.den:Int):Rat)) h∧IB (((x.den:Nat):Int):Rat) h∧(((x.den:Nat):Int):Rat)≠0:=by
 have h1:=b5_ x;have h2:=bP_ x;refine⟨⟨x.num,?_,by omega⟩,IB.nat (by omega),nz_int' (by have:=x.den_pos;omega)⟩;have hd:(((x.den:Nat):Int):Rat)≠0:=nz_int' (by have:=x.den_pos;omega);have e3:(x.num:Rat) / (((x.den:Nat):Int):Rat)=x:=by rw[←Rat.divInt_eq_div,Rat.num_divInt_den]
 have e2:(x.num:Rat) / (((x.den:Nat):Int):Rat) * (((x.den:Nat):Int):Rat)=(x.num:Rat):=Rat.div_mul_cancel hd;rw[e3] at e2;exact e2
theorem HS.mono{p:List Rat}{K:Rat}{h k:Nat}(H:HS p K h)(hk:h≤k):HS p K k:=⟨H.ne,H.sc.mono hk,fun i=>(H.co i).mono hk⟩
theorem IB_nat{n h:Nat}(hn:bl n≤h):IB ((n:Int):Rat) h:=⟨n,rfl,by rw[Int.natAbs_natCast];exact hn⟩
theorem oD_:∀n,n≤255→IB (facR n) (8* n+1)
 |0,_=>IB.one
 |n+1,h=>by
  rw[facR];exact((oD_ n (by omega)).mul (IB_nat (h:=8) (bl_le (by omega)))).mono (by omega)
theorem oC_:∀n i,i< n→n≤255→∃z:Rat,IB z (8* n+1)∧z* (((i+1:Nat):Int):Rat)=facR n
 |0,_,h,_=>by omega
 |n+1,i,h,hn=>by
  by_cases e:i=n;subst e;exact⟨facR i,(oD_ i (by omega)).mono (by omega),by rw[facR]⟩;obtain⟨z,z1,z2⟩:=oC_ n i (by omega) (by omega);refine⟨z* (((n+1:Nat):Int):Rat),(z1.mul (IB_nat (h:=8) (bl_le (by omega)))).mono (by omega),?_⟩;rw[facR,←z2];grind
theorem HS.bdL{p:List Rat}{K:Rat}{h:Nat}(H:HS p K h)(h1:1≤h):Abs.bdL p h:=fun q hq=>by
 obtain⟨i,_,e⟩:=nr_ hq;have:=IB_quot (H.co i) H.sc H.ne h1;rw[Rat.mul_div_cancel H.ne,e] at this;exact this
theorem HS.integral{p:List Rat}{K:Rat}{h L:Nat}(H:HS p K h)(hl:p.length≤L)(hL:L≤255):HS (aJ_ p) (K* facR L) (h+8* L+1) where
 ne e:=(Rat.mul_eq_zero.1 e).elim H.ne (by have:=kT_ L;grind)
 sc:=(H.sc.mul (oD_ L hL)).mono (by omega)
 co i:=by
  rw[ml_];cases i with
  |zero=>rw[if_pos rfl];exact(IB.zero _).eq (by grind)
  |succ i=>
   rw[if_neg (by omega),show i+1- 1=i by omega];by_cases g:i< L;obtain⟨z,z1,z2⟩:=oC_ L i g hL;refine((H.co i).mul z1).eq ?_|>.mono (by omega);have:=Rat.div_mul_cancel (a:=coP p i) (nat_ne i);rw[←z2];generalize coP p i/ (((i+1:Nat):Int):Rat)=v at *
   grind;rw[ec_ (by omega),show(0:Rat) / (((i+1:Nat):Int):Rat)=0 by rw[Rat.div_def];grind];exact(IB.zero _).eq (by grind)
theorem oE_{K x d:Rat}{h e:Nat}(hd:IB d e)(hx:IB (x* d) e):∀(l:List Rat),(∀c∈l,IB (c* K) h)→IB (evalP l x* (K* d^ l.length)) (h+l.length* (e+2))
 |[],_=>(IB.zero _).eq (by rw[cD_];grind)
 |a::l,hl=>by
  have ih:=oE_ hd hx l fun c hc=>hl c (List.mem_cons_of_mem _ hc);have ha:=hl a (List.mem_cons_self ..)
  have hp:∀n:Nat,IB (d^ n) (n* e+1):=fun n=>by
   induction n with
   |zero=>rw[Rat.pow_zero];exact IB.one.mono (by omega)
   |succ n ih=>rw[Rat.pow_succ];exact(ih.mul hd).mono (by rw[Nat.succ_mul];omega)
  have e2:(a::l).length* (e+2)=l.length* (e+2)+e+2:=by rw[List.length_cons,Nat.succ_mul];omega
  have s1:=ih.mul hx;have s2:=ha.mul (hp (l.length+1));have e3:l.length* (e+2)=l.length* e+l.length* 2:=by rw[Nat.mul_add]
  have e4:(l.length+1) * e=l.length* e+e:=Nat.succ_mul _ _;rw[e2];refine(((s1.mono (show _≤h+l.length* (e+2)+e+1 by omega)).add (s2.mono (by omega))).eq ?_).mono (by omega);rw[a6_,List.length_cons,Rat.pow_succ];grind
theorem HS.all{p:List Rat}{K:Rat}{h:Nat}(H:HS p K h):∀c∈p,IB (c* K) h:=fun c hc=>by
 obtain⟨i,_,e⟩:=nr_ hc;rw[←e];exact H.co i
theorem HS.k{p:List Rat}{K l d:Rat}{h e:Nat}(H:HS p K h)(d0:d≠0)(hd:IB d e)(hl:IB (l* d) e):HS (bd_ p l) (K* d) (h+e) where
 ne g:=(Rat.mul_eq_zero.1 g).elim H.ne d0
 sc:=H.sc.mul hd
 co i:=by rw[dV_];exact((H.co i).mul hl).eq (by grind)
theorem HS.rescale{p:List Rat}{K d:Rat}{h e:Nat}(H:HS p K h)(d0:d≠0)(hd:IB d e):HS p (K* d) (h+e) where
 ne g:=(Rat.mul_eq_zero.1 g).elim H.ne d0
 sc:=H.sc.mul hd
 co i:=((H.co i).mul hd).eq (by grind)
theorem HS.less{p:List Rat}{K v:Rat}{h:Nat}(H:HS p K h)(hv:IB (v* K) h):HS (subP p (cK_ v)) K (h+1) where
 ne:=H.ne
 sc:=H.sc.mono (by omega)
 co i:=by
  rw[nq_,jd_];split;exact((H.co i).add hv.neg).eq (by grind);exact((H.co i).mono (by omega)).eq (by grind)
theorem HS.plus{p q:List Rat}{K:Rat}{h:Nat}(H:HS p K h)(G:HS q K h):HS (addP p q) K (h+1) where
 ne:=H.ne
 sc:=H.sc.mono (by omega)
 co i:=by rw[eK_];exact((H.co i).add (G.co i)).eq (by grind)
theorem subP_one(p:List Rat)(v:Rat):subP p [v]=subP p (cK_ v):=by
 have h1:trimQ (subP p [v])=subP p [v]:=by unfold subP addP;exact c8_ _
 have h2:trimQ (subP p (cK_ v))=subP p (cK_ v):=by unfold subP addP;exact c8_ _
 rw[←h1,←h2];exact eqv_trim.1 fun x=>by rw[go_,go_,nd_,a6_,cD_];grind
theorem fQ_{d:Rat}{e:Nat}(hd:IB d e):∀n:Nat,IB (d^ n) (n* e+1)
 |0=>by rw[Rat.pow_zero];exact IB.one.mono (by omega)
 |n+1=>by rw[Rat.pow_succ];exact((fQ_ hd n).mul hd).mono (by rw[Nat.succ_mul];omega)
def cutP(p:List Rat)(n:Nat):List Rat:=trimQ (p.take (n+1))
theorem oM_(p:List Rat)(n i:Nat):coP (p.take n) i=if i< n then coP p i else 0:=by
 unfold coP;rw[List.getD_eq_getElem?_getD,List.getD_eq_getElem?_getD,List.getElem?_take];split <;> rfl
theorem coP_cut(p:List Rat)(n i:Nat):coP (cutP p n) i=if i≤n then coP p i else 0:=by
 rw[cutP,cP_,oM_];by_cases h:i≤n;rw[if_pos h,if_pos (by omega)];rw[if_neg h,if_neg (by omega)]
theorem oL_(p:List Rat)(n:Nat):(cutP p n).length≤n+1:=by
 have h1:=bc_ (p.take (n+1));have h2:(p.take (n+1)).length≤n+1:=by rw[List.length_take];omega
 unfold cutP;omega
theorem HS.cut{p:List Rat}{K:Rat}{h:Nat}(H:HS p K h)(n:Nat):HS (cutP p n) K h:=⟨H.ne,H.sc,fun i=>by
 rw[coP_cut];split;exact H.co i;exact(IB.zero h).eq (by grind)⟩
theorem HS.plus2{p q:List Rat}{K K':Rat}{h h':Nat}(H:HS p K h)(G:HS q K' h'):HS (addP p q) (K* K') (h+h'+1):=
 (H.rescale G.ne G.sc).plus ((Rat.mul_comm K' K▸G.rescale H.ne H.sc).mono (by omega))
theorem nx_{s:Nat}:∀(l:List Rat),Abs.bdL l s→∃K,HS l K (s* l.length+1)
 |[],_=>⟨1,HS.nil⟩
 |c::l,hl=>by
  obtain⟨K,H⟩:=nx_ l fun q hq=>hl q (List.mem_cons_of_mem _ hq);obtain⟨h1,h2,h3⟩:=sI_ (hl c (List.mem_cons_self ..));have e:s* (c::l).length=s* l.length+s:=by rw[List.length_cons,Nat.mul_succ]
  rw[e];refine⟨K* ((c.den:Int):Rat),(fun g=>(Rat.mul_eq_zero.1 g).elim H.ne h3),(H.sc.mul h2).mono (by omega),fun i=>?_⟩;cases i with
  |zero=>rw[dF_];exact((H.sc.mul h1).eq (by grind)).mono (by omega)
  |succ i=>rw[c4_];exact(((H.co i).mul h2).eq (by grind)).mono (by omega)
theorem lb_{c d K:Rat}{h:Nat}(d0:d≠0)(hd:IB d 20)(hc:IB (c* d) 20):∀(l:List Rat) (b:Rat),HS (b::l) K h→HS (compP [c,1] (b::l)) (K* d^ l.length) (h+22* l.length)
 |[],b,H=>by
  refine⟨by rw[List.length_nil,Rat.pow_zero];have:=H.ne;grind,H.sc.eq (by rw[List.length_nil,Rat.pow_zero];grind),fun i=>?_⟩;rw[show compP [c,1] [b]=addP (mulP [] [c,1]) (cK_ b) from rfl,eK_,jd_,show mulP [] [c,1]=[] from if_pos (.inl rfl),f2_];have h1:=H.co 0;rw[dF_] at h1;split;exact h1.eq (by rw[List.length_nil,Rat.pow_zero];grind);exact(IB.zero _).eq (by grind)
 |b'::l,b,H=>by
  have Ht:HS (b'::l) K h:=⟨H.ne,H.sc,fun i=>H.co (i+1)⟩;have ih:=lb_ d0 hd hc l b' Ht;have hp:=fQ_ hd (l.length+1);have hb:=H.co 0;rw[dF_] at hb;have e1:(l.length+1) * 20=20* l.length+20:=by omega
  rw[List.length_cons];refine⟨fun g=>(Rat.mul_eq_zero.1 g).elim H.ne fun g=>?_,(H.sc.mul hp).mono (by omega),fun i=>?_⟩
  have:∀n:Nat,d^ n≠0:=fun n=>by
   induction n with
   |zero=>rw[Rat.pow_zero];decide
   |succ n ih=>rw[Rat.pow_succ];intro g;rcases Rat.mul_eq_zero.1 g with g|g;exact ih g;exact d0 g
  exact this _ g;rw[show compP [c,1] (b::b'::l)=addP (mulP (compP [c,1] (b'::l)) [c,1]) (cK_ b) from rfl,eK_,coP_line,jd_];generalize compP [c,1] (b'::l)=X at *
  have s1:=(ih.co i).mul hc
  have s2:IB (lag X i* (K* d^ l.length) * d) (h+22* l.length+20):=by
   cases i with
   |zero=>exact(IB.zero _).eq (by rw[show lag X 0=0 from rfl];grind)
   |succ i=>exact(ih.co i).mul hd
  have s3:IB ((if i=0 then b else 0) * K* d^ (l.length+1)) (h+22* l.length+21):=by
   split;exact(hb.mul hp).mono (by omega);exact(IB.zero _).eq (by grind)
  refine(((s1.add s2).add s3).eq ?_).mono (by omega);rw[Rat.pow_succ];grind
theorem HS_shift'{c d K:Rat}{h N:Nat}(d0:d≠0)(hd:IB d 20)(hc:IB (c* d) 20){l:List Rat}(H:HS l K h)(hl:l.length≤N+1):∃K',HS (compP [c,1] l) K' (h+22* N):=by
 cases l with
 |nil=>exact⟨K,H.mono (by omega)⟩
 |cons b l=>
  rw[List.length_cons] at hl;exact⟨_,(lb_ d0 hd hc l b H).mono (by omega)⟩
theorem em_(c:Rat):∀l:List Rat,(compP [c,1] l).length≤l.length
 |[]=>Nat.le_refl _
 |a::l=>by
  have h1:=gE_ (mulP (compP [c,1] l) [c,1]) (cK_ a);have h2:=gf_ (compP [c,1] l) c;have h3:=em_ c l;have h4:=g3_ a;rw[List.length_cons];show(addP (mulP (compP [c,1] l) [c,1]) (cK_ a)).length≤_;omega
theorem gd_{c d K:Rat}{h N:Nat}(d0:d≠0)(hd:IB d 20)(hc:IB (c* d) 20)(hq:qs c≤20)(h1:1≤h)(hN:(N+1) * (h+22* N+22)≤100000000)(hN2:N≤1000):∀(l:List Rat),l.length≤N+1→HS l K h→dS_ [c,1] l
 |[],_,_=>trivial
 |a::l,hl,H=>by
  rw[List.length_cons] at hl;have Ht:HS l K h:=⟨H.ne,H.sc,fun i=>H.co (i+1)⟩;obtain⟨K',H'⟩:=HS_shift' (N:=N) d0 hd hc Ht (by omega);have hb:=H'.bdL (by omega);have hm:=mxL_le hb (by omega);have hll:=em_ c l;have hml:=gf_ (compP [c,1] l) c
  have hmc:mxL [c,1]≤20:=mxL_le (fun q hq'=>by
   rcases List.mem_cons.1 hq' with rfl|hq'
   exact hq;rw[List.mem_singleton.1 hq'];exact Nat.le_trans (by decide:qs 1≤1) (by decide)) (by decide)
  have ha:=H.bdL h1 a (List.mem_cons_self ..);have e:(compP [c,1] l).length* (mxL (compP [c,1] l)+mxL [c,1]+1)≤(N+1) * (h+22* N+22):=Nat.mul_le_mul (by omega) (by omega);have e2:h≤(N+1) * (h+22* N+22):=Nat.le_trans (by omega) (Nat.le_mul_of_pos_left _ (by omega));refine⟨gd_ d0 hd hc hq h1 hN hN2 l (by omega) Ht,⟨by omega,by omega,by omega,by simp⟩,by unfold sm;omega,by omega⟩
abbrev Ke:=List (List Rat×List Rat)
def upF(a:Rat)(u o:List Rat)(p:List Rat×List Rat):List Rat:=addP o (mulP p.1 (subP (aJ_ (mulP p.2 u)) [evalP (aJ_ (mulP p.2 u)) a]))
def upL(a:Rat)(u:List Rat):Ke→List Rat→List Rat
 |[],o=>o
 |p::k,o=>upL a u k (upF a u o p)
def upK(k:Ke)(a:Rat)(u:List Rat):List Rat:=upL a u k []
theorem nD_(a:Rat)(u:List Rat):∀(k:Ke) (o:List Rat) (p:List Rat×List Rat),upL a u (k++[p]) o=upF a u (upL a u k o) p
 |[],_,_=>rfl
 |q::k,o,p=>nD_ a u k (upF a u o q) p
structure OkUF (a:Rat)(u o:List Rat)(p:List Rat×List Rat):Prop where
 m1:okMul p.2 u
 i1:(mulP p.2 u).length≤1099511627775
 i2:smL (aJ_ (mulP p.2 u))
 e1:cO_ (aJ_ (mulP p.2 u)) a
 l1:(aJ_ (mulP p.2 u)).length≤1099511627776
 m2:okMul p.1 (subP (aJ_ (mulP p.2 u)) [evalP (aJ_ (mulP p.2 u)) a])
 o1:smL o
 o2:o.length≤1099511627776
 l2:(mulP p.1 (subP (aJ_ (mulP p.2 u)) [evalP (aJ_ (mulP p.2 u)) a])).length≤1099511627776
def okUpK(k:Ke)(a:Rat)(u:List Rat):Prop:=∀i p,k[i]?=some p→OkUF a u (upL a u (k.take i) []) p
structure KHS (k:Ke)(KA KB:Rat)(h:Nat):Prop where
 len:∀p∈k,p.1.length≤4∧p.2.length≤4
 a:∀p∈k,HS p.1 KA h
 b:∀p∈k,HS p.2 KB h
theorem pow_nz'{d:Rat}(h:d≠0):∀n:Nat,d^ n≠0
 |0=>by rw[Rat.pow_zero];decide
 |n+1=>by rw[Rat.pow_succ];intro g;rcases Rat.mul_eq_zero.1 g with g|g;exact pow_nz' h n g;exact h g
structure TeB (A B u:List Rat)(a S:Rat)(h:Nat):Prop where
 m:(mulP B u).length≤u.length+4
 il:(aJ_ (mulP B u)).length≤u.length+5
 ib:bdL (aJ_ (mulP B u)) h
 sb:bdL (subP (aJ_ (mulP B u)) [evalP (aJ_ (mulP B u)) a]) h
 sl:(subP (aJ_ (mulP B u)) [evalP (aJ_ (mulP B u)) a]).length≤u.length+5
 l:(mulP A (subP (aJ_ (mulP B u)) [evalP (aJ_ (mulP B u)) a])).length≤u.length+9
 H:HS (mulP A (subP (aJ_ (mulP B u)) [evalP (aJ_ (mulP B u)) a])) S h
theorem te_HS{A B u:List Rat}{a d KA KB K:Rat}{h h':Nat}(hA:A.length≤4)(hB:B.length≤4)(hu:u.length≤245)(HA:HS A KA h)(HB:HS B KB h)(H:HS u K h')(d0:d≠0)(hd:IB d 20)(ha:IB (a* d) 20)(h1:1≤h):TeB A B u a (KA* (KB* K* facR 250* d^ 255)) (h'+2* h+13000):=by
 have m1:=of_ B u;have i1:=kw_ (mulP B u);have g1:=HB.mul H hB;have g2:=g1.integral (L:=250) (by omega) (by decide);have s3:=subP_len (aJ_ (mulP B u)) [evalP (aJ_ (mulP B u)) a];rw[List.length_singleton] at s3;have l3:=of_ A (subP (aJ_ (mulP B u)) [evalP (aJ_ (mulP B u)) a]);have hib:=g2.bdL (by omega);generalize hf:aJ_ (mulP B u)=f at *
 have hfl:f.length≤250:=by omega
 have hp:=fQ_ hd 255;have hp2:=fQ_ hd (255- f.length);have hv:=(oE_ hd ha f g2.all).mul hp2;have e0:d^ f.length* d^ (255- f.length)=d^ 255:=by rw[←ir_,show f.length+(255- f.length)=255 by omega]
 have e1:f.length* (20+2)≤250* 22:=Nat.mul_le_mul_right _ hfl;have e2:(255- f.length) * 20≤255* 20:=Nat.mul_le_mul_right _ (by omega);have g3:=(g2.rescale (pow_nz' d0 255) hp).mono (show _≤h'+h+12800 by omega);have g4:=g3.less (v:=evalP f a) ((hv.eq (by rw[←e0];grind)).mono (by omega));rw[←subP_one] at g4;have g5:=HA.mul g4 hA;subst hf;exact⟨by omega,by omega,bdL_mono' hib (by omega),bdL_mono' (g4.bdL (by omega)) (by omega),by omega,by omega,g5.mono (by omega)⟩
theorem upL_HS{a d KA KB K:Rat}{u:List Rat}{h h':Nat}(hu:u.length≤240)(H:HS u K h')(d0:d≠0)(hd:IB d 20)(ha:IB (a* d) 20)(hq:qs a≤20)(h1:1≤h)(hlim:h'+2* h+14000≤400000000):∀(k:Ke) (o:List Rat) (n:Nat),KHS k KA KB h→n+k.length≤900→o.length≤u.length+9→HS o (KA* (KB* K* facR 250* d^ 255)) (h'+2* h+13000+n)→
    HS (upL a u k o) (KA* (KB* K* facR 250* d^ 255)) (h'+2* h+13000+(n+k.length))∧(upL a u k o).length≤u.length+9∧∀i p,k[i]?=some p→OkUF a u (upL a u (k.take i) o) p
 |[],o,n,_,_,ho,Ho=>⟨Ho,ho,fun i p hp=>by simp at hp⟩
 |p::k,o,n,hk,hn,ho,Ho=>by
  rw[List.length_cons] at hn;obtain⟨l1,l2⟩:=hk.len p (List.mem_cons_self ..);have HA:=hk.a p (List.mem_cons_self ..);have HB:=hk.b p (List.mem_cons_self ..);have T:=te_HS l1 l2 (show u.length≤245 by omega) HA HB H d0 hd ha h1;have al:=gE_ o (mulP p.1 (subP (aJ_ (mulP p.2 u)) [evalP (aJ_ (mulP p.2 u)) a]));have hl:=T.l;have Hn:HS (upF a u o p) (KA* (KB* K* facR 250* d^ 255)) (h'+2* h+13000+(n+1)):=(Ho.plus (T.H.mono (by omega))).mono (by omega);obtain⟨r1,r2,r3⟩:=upL_HS hu H d0 hd ha hq h1 hlim k (upF a u o p) (n+1) ⟨fun q hq=>hk.len q (List.mem_cons_of_mem _ hq),fun q hq=>hk.a q (List.mem_cons_of_mem _ hq),fun q hq=>hk.b q (List.mem_cons_of_mem _ hq)⟩ (by omega) (by unfold upF;omega) Hn;refine⟨by rw[List.length_cons,show n+(k.length+1)=n+1+k.length by omega];exact r1,r2,fun i q hq'=>?_⟩;cases i with
  |zero=>
   cases hq';show OkUF a u o p;have a1:=mxL_le (HA.bdL h1) h1;have b1:=mxL_le (HB.bdL h1) h1;have u1:=mxL_le ((H.mono (show h'≤h'+1 by omega)).bdL (by omega)) (by omega);have i1:=mxL_le T.ib (by omega);have s1:=mxL_le T.sb (by omega);have o1:=Ho.bdL (by omega);have ml:=T.m;have il:=T.il;have sl:=T.sl;have e1:p.2.length* (mxL p.2+mxL u+1)≤4* (h+h'+2):=Nat.mul_le_mul l2 (by omega);have e2:p.1.length* (mxL p.1+mxL (subP (aJ_ (mulP p.2 u)) [evalP (aJ_ (mulP p.2 u)) a])+1)≤4* (h'+3* h+13002):=Nat.mul_le_mul l1 (by omega);have e3:(aJ_ (mulP p.2 u)).length* (mxL (aJ_ (mulP p.2 u))+qs a+1)≤250* (h'+2* h+13021):=Nat.mul_le_mul (by omega) (by omega);exact⟨⟨by omega,by omega,by omega,by omega⟩,by omega,fI_ T.ib (by omega),⟨by omega,by omega⟩,by omega,⟨by omega,by omega,by omega,by omega⟩,fI_ o1 (by omega),by omega,by omega⟩
  |succ i=>exact r3 i q (by simpa using hq')
theorem nE_{k:Ke}{a d KA KB K:Rat}{u:List Rat}{h h':Nat}(hk:KHS k KA KB h)(hkl:k.length≤900)(hu:u.length≤240)(H:HS u K h')(d0:d≠0)(hd:IB d 20)(ha:IB (a* d) 20)(hq:qs a≤20)(h1:1≤h)(A0:KA≠0)(B0:KB≠0)(IA:IB KA h)(IBB:IB KB h)(hlim:h'+2* h+14000≤400000000):HS (upK k a u) (KA* (KB* K* facR 250* d^ 255)) (h'+2* h+13000+k.length)∧(upK k a u).length≤u.length+9∧okUpK k a u:=by
 have n0:HS [] (KA* (KB* K* facR 250* d^ 255)) (h'+2* h+13000+0):=by
  refine⟨fun g=>?_,?_,fun i=>(IB.zero _).eq (by show 0=(0:Rat) * _;grind)⟩;rcases Rat.mul_eq_zero.1 g with g|g
  exact A0 g;rcases Rat.mul_eq_zero.1 g with g|g
  rcases Rat.mul_eq_zero.1 g with g|g
  rcases Rat.mul_eq_zero.1 g with g|g
  exact B0 g;exact H.ne g;have:=kT_ 250;grind;exact pow_nz' d0 255 g;have hf:=oD_ 250 (by omega);generalize facR 250=F at *
  have hp:=fQ_ hd 255;generalize d^ 255=E at *
  exact(IA.mul (((IBB.mul H.sc).mul hf).mul hp)).mono (by omega)
 have:=upL_HS hu H d0 hd ha hq h1 hlim k [] 0 hk (by omega) (Nat.zero_le _) n0;rw[Nat.zero_add] at this;exact this
def seK(k:Ke)(G:List Rat)(L:Rat)(n:Nat):Nat→List Rat
 |0=>[]
 |r+1=>cutP (addP G (bd_ (upK k 0 (seK k G L n r)) L)) n
theorem kd_(k:Ke)(G:List Rat)(L:Rat)(n:Nat):∀r,(seK k G L n r).length≤n+1
 |0=>by rw[seK];exact Nat.zero_le _
 |r+1=>by rw[seK];exact oL_ _ _
section
variable {k:Ke}{G:List Rat}{L dL KA KB KG:Rat}{h:Nat}(hk:KHS k KA KB h)(hkl:k.length≤900)(h1:1≤h)(h2:h≤1000)(A0:KA≠0)(B0:KB≠0)(IA:IB KA h)(IBB:IB KB h)(HG:HS G KG 3000)(l0:dL≠0)(l1:IB dL 20)(l2:IB (L* dL) 20)
include hk hkl h1 h2 A0 B0 IA IBB HG l0 l1 l2
theorem seK_HS{n:Nat}(hn:n≤40):∀r,r≤1000→(∃K,HS (seK k G L n r) K (20000* r+1))∧okUpK k 0 (seK k G L n r)
 |0,_=>⟨⟨1,HS.nil.mono (by omega)⟩,(nE_ (u:=[]) (d:=1) hk hkl (by decide) HS.nil (by decide) (IB.one.mono (by omega)) ((IB.zero 20).eq (by grind)) (by decide) h1 A0 B0 IA IBB (by omega)).2.2⟩
 |r+1,hr=>by
  obtain⟨⟨K,H⟩,_⟩:=seK_HS hn r (by omega);have hl:=kd_ k G L n r;have H':=(nE_ (a:=0) (d:=1) hk hkl (by omega) H (by decide) (IB.one.mono (by omega)) ((IB.zero 20).eq (by grind)) (by decide) h1 A0 B0 IA IBB (by omega)).1;have g1:=H'.k l0 l1 l2;have g2:=((HG.plus2 g1).cut n).mono (show _≤20000* (r+1)+1 by omega);have hl2:=kd_ k G L n (r+1);exact⟨⟨_,g2⟩,(nE_ (a:=0) (d:=1) hk hkl (by have:=oL_ (addP G (bd_ (upK k 0 (seK k G L n r)) L)) n;omega) g2 (by decide) (IB.one.mono (by omega)) ((IB.zero 20).eq (by grind)) (by decide) h1 A0 B0 IA IBB (by omega)).2.2⟩
end
def absH(v:Sp):Rat:=if 0≤v.1 then v.2 else if v.2≤0 then -v.1 else maxL [-v.1,v.2]

def mvK(a:Rat)(k:Ke):Ke:=k.map fun p=>(compP [a,1] p.1,compP [a,1] p.2)
end Go.Abs
