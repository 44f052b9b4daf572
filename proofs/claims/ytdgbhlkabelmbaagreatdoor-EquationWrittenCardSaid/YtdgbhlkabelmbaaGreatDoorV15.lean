/- Part V15 of the proof. -/
import Derived.Test.YtdgbhlkabelmbaaGreatDoorV14
set_option linter.all false
namespace Go.Abs
set_option maxRecDepth 20000
def chi(s t:Int):Int:=if s≠0∧t≠s then 1 else 0
theorem chi_nn(s t:Int):0≤chi s t:=by unfold chi;grind
theorem p9(s:Int):chi s s=0:=by unfold chi;grind
theorem AI{s t:Int}{l:List Int}(ht:t=1∨t= -1)(hs: -1≤s∧s≤1):chL (s::t::l) 0 0=(if s= -t then 1 else 0)+chL l 0 t:=by
 have a:t≠0:=by omega
 by_cases h0:s=0;subst h0;rw[chL,if_neg (by simp),chL,if_pos a,if_neg (by omega)];omega;rw[chL,if_pos h0,chL,nk];grind
def Sq(u:List Rat)(L:List (List Rat)):Prop:=Ch u L∧∀v M,L=v::M→∃k:Rat,0< k∧∀x,au v x=k* dvE u x
theorem C5{x c:Rat}(h:c≤ab x):c≤x∨x≤ -c:=by unfold ab at h;grind
theorem ab_ge{x c:Rat}(h:c≤x∨x≤ -c)(hc:0≤c):c≤ab x:=by unfold ab;grind
theorem v6{k a b:Rat}(hk:0< k)(h:k* a≤k* b):a≤b:=by
 by_cases h':a≤b;exact h';have:=Rat.mul_pos hk (show 0< a- b by grind);grind
theorem Sq.tiny{u:List Rat}{L:List (List Rat)}(H:Sq u L){R:Rat}(hR:0≤R):∃h e ρ:Rat,0< h∧0< e∧0< ρ∧∀z w:Rat,ab z≤R→ab w≤R→z≤w→w- z≤h→
    chV (u::L) z- chV (u::L) w=chi (sgE z u) (sgE w u)∧((e≤ab (au u z)∧e≤ab (au u w))∨∃s:Rat,(s=1∨s= -1)∧0< s* dvE u z∧0< s* dvE u w∧ρ* (w- z)≤s* (au u w- au u z)):=by
 obtain⟨H,hv⟩:=H;cases L with
 |nil=>
  obtain⟨c,c0,hc⟩:=H.const;have hp:0< ab c:=by unfold ab;grind
  refine⟨1,ab c,1,by grind,hp,by grind,fun z w _ _ _ _=>⟨?_,.inl ⟨by grind,by grind⟩⟩⟩;rw[Er,Er,(H.sg z w).1,p9];rfl
 |cons v L=>
 obtain⟨k,J,C⟩:=hv v L rfl;obtain⟨a,b,hb⟩:=H.bez v L rfl;have hA:=nD hR a;have hB:=nD hR b;obtain⟨e,E,he'⟩:=part 1 (d:=2* (bV R a+bV R b+1)) (by decide+kernel) (by grind);obtain⟨h1,p1,T⟩:=H.cl.1 R e hR E;obtain⟨V,p2,k2⟩:=H.cl.2 v L rfl R e hR E;have Y:=Es hR u;have hL:=AZ hR u;obtain⟨ρ,M,eρ⟩:=part e (d:=2* k) E (by grind);obtain⟨F,O,e3⟩:=part ρ (d:=bT R u+1) M (by grind);obtain⟨G,p5,e5⟩:=part (e/ 2) (d:=bL R u+1) (by grind) (by grind);obtain⟨S,Q,l4,m4⟩:=less h1 V p1 p2;obtain⟨U,Z,l6,m6⟩:=less F G O p5;obtain⟨h,p,l,m⟩:=less S U Q Z;refine⟨h,e/ 2,ρ,p,by grind,M,fun z w n A g2 g4=>?_⟩;have o:ab (w- z)=w- z:=by unfold ab;rw[if_neg (by grind)]
 by_cases hu:e≤ab (au u z);obtain⟨s1,s2,B⟩:=T z w n A (by grind) hu;refine⟨?_,.inl ⟨by grind,?_⟩⟩;rw[s1,p9]
 have:chV (u::v::L) z=chV (u::v::L) w:=by
  unfold chV;simp only[List.map_cons] at B⊢;rw[s1];exact uY s2 B
 omega;have q1:=nf hR n A u;have q2:=Rat.mul_le_mul_of_nonneg_left (show w- z≤G by grind) hL;have q3:ab (au u w- au u z)≤e/ 2:=by rw[o] at q1;grind
 have q4:=ab_le.1 q3;rcases C5 hu with q|q
 exact ab_ge (.inl (by grind)) (by grind);exact ab_ge (.inr (by grind)) (by grind)
 have hv:e≤ab (au v z):=by
  by_cases hv:e≤ab (au v z);exact hv;have n1:=fY (gV hR n a) (show ab (au u z)≤e by grind) (ie _) hA;have n2:=fY (gV hR n b) (show ab (au v z)≤e by grind) (ie _) hB;have n3:=ru (au a z* au u z) (au b z* au v z);rw[hb z,ja,ja,show ab 1=1 by decide+kernel] at n3;grind
 obtain⟨s1,s2,B⟩:=k2 z w n A (by grind) hv;have i:=qW hR n A u;rw[o] at i;have X:=ab_le.1 i;have f:0≤w- z:=by grind
 have D:bT R u* ((w- z) * (w- z))≤ρ* (w- z):=by
  have q1:=Rat.mul_le_mul_of_nonneg_left (show w- z≤F by grind) Y;have q2:bT R u* (w- z)≤ρ:=by grind
  have q3:=Rat.mul_le_mul_of_nonneg_right q2 f;grind
 have g:∀t:Int,(t=1∨t= -1)→sgE z v=t→chV (u::v::L) z- chV (u::v::L) w=(if sgE z u= -t then 1 else 0)- (if sgE w u= -t then 1 else 0):=fun t ht e=>by
  have K:=B;rw[e] at K;unfold chV;simp only[List.map_cons];rw[s1,e,AI ht (fm z u),AI ht (fm w u),uZ K (by omega)];omega
 have bz:=fm z u;have bw:=fm w u;rcases cS z v with⟨c1,N⟩|⟨c1,N⟩|⟨c1,N⟩
 have W:e≤au v z:=by rcases C5 hv with q|q <;> grind
 have d1:2* ρ≤dvE u z:=v6 J (by rw[←C];grind);have c4:=Rat.mul_le_mul_of_nonneg_left d1 f;have up:ρ* (w- z)≤au u w- au u z:=by grind
 have nn:=Rat.mul_nonneg (show 0≤ρ by grind) f;have mo:=oW (q:=u) (x:=z) (y:=w) (by grind);refine⟨?_,.inr ⟨1,.inl rfl,by grind,?_,by grind⟩⟩;rw[g 1 (.inl rfl) c1];unfold chi;split <;> split <;> split <;> omega;rcases cS w v with⟨r,j⟩|⟨r,j⟩|⟨r,j⟩
 rw[C] at j;by_cases f3:0< dvE u w;grind;have:=Rat.mul_nonneg (show 0≤k by grind) (show 0≤ -dvE u w by grind);grind;omega;omega;have W:au v z≤ -e:=by rcases C5 hv with q|q <;> grind
 have d1:2* ρ≤ -dvE u z:=v6 J (by have:=C z;grind);have c4:=Rat.mul_le_mul_of_nonneg_left d1 f;have up:ρ* (w- z)≤au u z- au u w:=by grind
 have nn:=Rat.mul_nonneg (show 0≤ρ by grind) f;have mo:=oW (q:=u) (x:=w) (y:=z) (by grind);refine⟨?_,.inr ⟨-1,.inr rfl,by grind,?_,by grind⟩⟩;rw[g (-1) (.inr rfl) c1];unfold chi;split <;> split <;> split <;> omega;rcases cS w v with⟨r,j⟩|⟨r,j⟩|⟨r,j⟩
 omega;rw[C] at j;by_cases f3:0< -dvE u w;grind;have:=Rat.mul_nonneg (show 0≤k by grind) (show 0≤dvE u w by grind);grind;omega;exact absurd c1 s2
theorem IF(x y:Rat):0≤ab x+ab y:=by have:=ie x;have:=ie y;grind
theorem Sq.mono{u:List Rat}{L:List (List Rat)}(H:Sq u L){x y:Rat}(hxy:x≤y):chV (u::L) y≤chV (u::L) x:=by
 obtain⟨h,e,ρ,c,_,_,ht⟩:=H.tiny (IF x y);refine way (f:=chV (u::L)) (fun s t=>t≤s) (fun _=>Int.le_refl _) (fun _ _ _ a b=>Int.le_trans b a) c hxy fun z w a b g3 d=>?_;have:=(ht z w (rR a (by grind)) (rR (by grind) g3) b d).1;have:=chi_nn (sgE z u) (sgE w u);omega
theorem mN{q r:List Rat}{x c:Rat}(e:au r x=c* au q x):(0< c→sgE x r=sgE x q)∧(c< 0→sgE x r= -sgE x q):=by
 constructor;intro hc;rcases cS x q with⟨a,b⟩|⟨a,b⟩|⟨a,b⟩
 rw[a];exact lb (by rw[e];exact Rat.mul_pos hc b);rw[a];exact oV (by have:=Rat.mul_pos hc (show 0< -au q x by grind);grind);rw[a];exact oU (by rw[e,b];grind);intro hc;rcases cS x q with⟨a,b⟩|⟨a,b⟩|⟨a,b⟩
 rw[a];exact oV (by have:=Rat.mul_pos (show 0< -c by grind) b;grind);rw[a];exact lb (by have:=Rat.mul_pos (show 0< -c by grind) (show 0< -au q x by grind);grind);rw[a,oU (by rw[e,b];grind)];rfl
theorem Ep(s t:Int):chi (-s) (-t)=chi s t:=by unfold chi;split <;> split <;> omega
theorem Sq.add{S A B a b:List Rat}{LS LA LB:List (List Rat)}{κ:Rat}(hS:Sq S LS)(hA:Sq A LA)(hB:Sq B LB)(hκ:κ≠0)(hm:∀x,au S x=κ* (au A x* au B x))(hb:∀x,au a x* au A x+au b x* au B x=1){x y:Rat}(hxy:x≤y):
    chV (S::LS) x- chV (S::LS) y=(chV (A::LA) x- chV (A::LA) y)+(chV (B::LB) x- chV (B::LB) y):=by
 have k:=IF x y;obtain⟨h1,_,_,p1,_,_,t1⟩:=hS.tiny k;obtain⟨Y,_,_,p2,_,_,t2⟩:=hA.tiny k;obtain⟨L,_,_,H,_,_,R⟩:=hB.tiny k;have U:=nD k a;have X:=nD k b;obtain⟨e,G,N⟩:=part 1 (d:=2* (bV (ab x+ab y) a+bV (ab x+ab y) b+1)) (by decide+kernel) (by grind);obtain⟨T,O,k4⟩:=keep A k G;obtain⟨M,V,J⟩:=keep B k G;obtain⟨i1,Q,l1,m1⟩:=less h1 Y p1 p2;obtain⟨i2,Z,l2,m2⟩:=less L T H O;obtain⟨W,j3,l3,m3⟩:=less i1 i2 Q Z;obtain⟨h,K,l,m⟩:=less W M j3 V
 have w:=way (f:=fun z=>chV (S::LS) z- chV (A::LA) z- chV (B::LB) z) (· = ·) (fun _=>rfl) (fun _ _ _=>Eq.trans) K hxy fun z w n j g3 g4=>by
  have u:=rR n (show z≤y by grind);have C:=rR (show x≤w by grind) g3;have q1:=(t1 z w u C j (by grind)).1;have q2:=(t2 z w u C j (by grind)).1;have q3:=(R z w u C j (by grind)).1;have hzw:=IE j g4;have i:∀c:Rat,c≠0→(0< c∨c< 0):=fun c hc=>by grind
  by_cases hA':e≤ab (au A z);obtain⟨F,E⟩:=k4 z w u C (by grind) hA';rw[F,p9] at q2
  have:chi (sgE z S) (sgE w S)=chi (sgE z B) (sgE w B):=by
   have D:=mN (q:=B) (r:=S) (x:=z) (c:=κ* au A z) (by rw[hm];grind);have v:=mN (q:=B) (r:=S) (x:=w) (c:=κ* au A w) (by rw[hm];grind)
   have sg:(0< κ* au A z∧0< κ* au A w)∨(κ* au A z< 0∧κ* au A w< 0):=by
    rcases cS z A with⟨p,o⟩|⟨p,o⟩|⟨p,o⟩
    have s:0< au A w:=by rcases cS w A with⟨_,g⟩|⟨g,_⟩|⟨g,_⟩<;> first|exact g|omega
    rcases i κ hκ with g|g
    exact .inl ⟨Rat.mul_pos g o,Rat.mul_pos g s⟩;have:=Rat.mul_pos (show 0< -κ by grind) o;have:=Rat.mul_pos (show 0< -κ by grind) s;exact .inr ⟨by grind,by grind⟩;have s:au A w< 0:=by rcases cS w A with⟨g,_⟩|⟨_,g⟩|⟨g,_⟩<;> first|exact g|omega
    rcases i κ hκ with g|g
    have:=Rat.mul_pos g (show 0< -au A z by grind);have:=Rat.mul_pos g (show 0< -au A w by grind);exact .inr ⟨by grind,by grind⟩;have:=Rat.mul_pos (show 0< -κ by grind) (show 0< -au A z by grind);have:=Rat.mul_pos (show 0< -κ by grind) (show 0< -au A w by grind);exact .inl ⟨by grind,by grind⟩;exact absurd p E
   rcases sg with⟨n,j⟩|⟨n,j⟩
   rw[D.1 n,v.1 j];rw[D.2 n,v.2 j,Ep]
  show _=_;omega
  have t:e≤ab (au B z):=by
   by_cases t:e≤ab (au B z);exact t;have n1:=fY (gV k u a) (show ab (au A z)≤e by grind) (ie _) U;have n2:=fY (gV k u b) (show ab (au B z)≤e by grind) (ie _) X;have n3:=ru (au a z* au A z) (au b z* au B z);rw[hb z,ja,ja,show ab 1=1 by decide+kernel] at n3;grind
  obtain⟨F,E⟩:=J z w u C (by grind) t;rw[F,p9] at q3
  have:chi (sgE z S) (sgE w S)=chi (sgE z A) (sgE w A):=by
   have D:=mN (q:=A) (r:=S) (x:=z) (c:=κ* au B z) (by rw[hm];grind);have v:=mN (q:=A) (r:=S) (x:=w) (c:=κ* au B w) (by rw[hm];grind)
   have sg:(0< κ* au B z∧0< κ* au B w)∨(κ* au B z< 0∧κ* au B w< 0):=by
    rcases cS z B with⟨p,o⟩|⟨p,o⟩|⟨p,o⟩
    have s:0< au B w:=by rcases cS w B with⟨_,g⟩|⟨g,_⟩|⟨g,_⟩<;> first|exact g|omega
    rcases i κ hκ with g|g
    exact .inl ⟨Rat.mul_pos g o,Rat.mul_pos g s⟩;have:=Rat.mul_pos (show 0< -κ by grind) o;have:=Rat.mul_pos (show 0< -κ by grind) s;exact .inr ⟨by grind,by grind⟩;have s:au B w< 0:=by rcases cS w B with⟨g,_⟩|⟨_,g⟩|⟨g,_⟩<;> first|exact g|omega
    rcases i κ hκ with g|g
    have:=Rat.mul_pos g (show 0< -au B z by grind);have:=Rat.mul_pos g (show 0< -au B w by grind);exact .inr ⟨by grind,by grind⟩;have:=Rat.mul_pos (show 0< -κ by grind) (show 0< -au B z by grind);have:=Rat.mul_pos (show 0< -κ by grind) (show 0< -au B w by grind);exact .inl ⟨by grind,by grind⟩;exact absurd p E
   rcases sg with⟨n,j⟩|⟨n,j⟩
   rw[D.1 n,v.1 j];rw[D.2 n,v.2 j,Ep]
  show _=_;omega
 omega

section
variable {f:Nat}{p:List Rat}{c:Cnt}(h:jh f p=some c)(hp:nz p)
include h hp
end
def ofQ(p m:List Rat):Nat→Rat
 |0=>0
 |n+1=>ofQ p m n+coP p n* coP m n
def gK(f:List Rat):Nat→List Rat
 |0=>f
 |k+1=>aL (gK f k) [0,1]
def moQ(f:List Rat)(s:Sp)(k:Nat):Rat:=au (aK (gK f k)) s.2- au (aK (gK f k)) s.1
def okMo(f:List Rat)(s:Sp)(k:Nat):Prop:=smL (gK f k)∧(gK f k).length≤1000000∧ff (aK (gK f k)) s.1∧ff (aK (gK f k)) s.2∧eS (gK f k) [0,1]
def sqL(sq:Nat→Rat)(n:Nat):List Rat:=(List.range n).map sq
@[simp] theorem sqL_length (sq:Nat→Rat)(n:Nat):(sqL sq n).length=n:=by simp[sqL]
def ofP(m p:List Rat):Rat:=ofQ (aq p) m (aq p).length
def okOf(m p:List Rat):Prop:=p.length≤1000000∧(aq p).length≤m.length∧(p.length+2) * (mxL p+mxL m+1)≤137438953472
instance (m p:List Rat):Decidable (okOf m p):=inferInstanceAs (Decidable (_∧_∧_))
def ldN(m p:List Rat):Rat:=ofP m (aL p p)
def ldA(m p:List Rat):Rat:=ofP m (aL (aL p p) [0,1]) / ldN m p
def ldr(m:List Rat):Nat→List Rat×List Rat×Rat
 |0=>([1],[],0)
 |k+1=>(cK (aL (ldr m k).1 [-ldA m (ldr m k).1,1]) (aX (ldr m k).2.1 (if k=0 then 0 else ldN m (ldr m k).1/ (ldr m k).2.2)),(ldr m k).1,ldN m (ldr m k).1)
def ldB(m:List Rat)(k:Nat):Rat:=if k=0 then 0 else ldN m (ldr m k).1/ (ldr m k).2.2
def ldAk(m:List Rat)(k:Nat):Rat:=ldA m (ldr m k).1
def okLd(m:List Rat)(k:Nat):Prop:=
 eS (ldr m k).1 (ldr m k).1∧okOf m (aL (ldr m k).1 (ldr m k).1)∧0< ldN m (ldr m k).1∧eS (aL (ldr m k).1 (ldr m k).1) [0,1]∧okOf m (aL (aL (ldr m k).1 (ldr m k).1) [0,1])∧
 qs (ofP m (aL (aL (ldr m k).1 (ldr m k).1) [0,1]))+qs (ldN m (ldr m k).1)≤549755813888∧qs (ldN m (ldr m k).1)+qs (ldr m k).2.2≤549755813888∧
 eS (ldr m k).1 [-ldAk m k,1]∧(∀q∈(ldr m k).2.1,sm q)∧sm (ldB m k)∧(∀q∈aL (ldr m k).1 [-ldAk m k,1],sm q)∧(∀q∈aX (ldr m k).2.1 (ldB m k),sm q)∧
 (ldr m k).2.1.length≤1099511627776∧(aL (ldr m k).1 [-ldAk m k,1]).length≤1099511627776∧(aX (ldr m k).2.1 (ldB m k)).length≤1099511627776
instance (m:List Rat) (k:Nat):Decidable (okLd m k):=by unfold okLd;infer_instance
def okBs(g nx a c:List Rat):Prop:=lG g nx∧eS (fW g nx).1 c∧(∀q∈a,sm q)∧(∀q∈aL (fW g nx).1 c,sm q)∧a.length≤1099511627776∧(aL (fW g nx).1 c).length≤1099511627776
instance (g nx a c:List Rat):Decidable (okBs g nx a c):=by unfold okBs;infer_instance
def bzG(g:List Rat):List Rat:=aX g (((1:Int):Rat) / aS g)
def bzA(q g a:List Rat):List Rat:=(fW (aX a (((1:Int):Rat) / aS g)) (fW q (bzG g)).1).2
def okBz(p q g a:List Rat):Prop:=
 aq g≠[]∧g.length≤1099511627776∧a.length≤1099511627776∧(∀x∈g,sm x)∧(∀x∈a,sm x)∧qs (aS g)≤68719476736∧lG q (bzG g)∧aq (bzG g)≠[]∧
 lG (aX a (((1:Int):Rat) / aS g)) (fW q (bzG g)).1∧aq (fW q (bzG g)).1≠[]∧eS (bzA q g a) p∧(∀x∈bzG g,sm x)∧(∀x∈aL (bzA q g a) p,sm x)∧
 (bzG g).length≤1099511627776∧(aL (bzA q g a) p).length≤1099511627776∧lG (cK (bzG g) (aL (bzA q g a) p)) q
instance (p q g a:List Rat):Decidable (okBz p q g a):=by unfold okBz;infer_instance
def tpV(p m:List Rat)(i:Nat):Nat→Rat
 |0=>0
 |j+1=>if i< j then tpV p m i j+coP p j* coP m (j- 1- i) else tpV p m i j
def tpQ(p m:List Rat):List Rat:=aO (p.length- 1) fun i=>tpV p m i p.length
def apR(p w f:List Rat):List Rat:=(fW (aL w (fW f p).2) p).2
def nwA(T:List Rat)(n:Nat)(out:List Rat)(k:Nat):Nat→Rat
 |0=>coP T (n- k) * ((k:Int):Rat)
 |i+1=>nwA T n out k i+coP T (n- (i+1)) * coP out (k- (i+1))
def suL(T:List Rat)(n:Nat):Nat→List Rat
 |0=>[((n:Int):Rat)]
 |k+1=>suL T n k++[-(nwA T n (suL T n k) (k+1) k)]
def okSu(T:List Rat)(n k:Nat):Prop:=qs (coP T (n- (k+1)))+qs (((k+1:Nat):Int):Rat)≤549755813888∧
 ∀i,i< k→qs (coP T (n- (i+1)))+qs (coP (suL T n k) (k+1- (i+1)))≤549755813888∧qs (nwA T n (suL T n k) (k+1) i)+qs (coP T (n- (i+1)) * coP (suL T n k) (k+1- (i+1)))≤549755813888
def krS(e m:List Rat)(k:Nat):Nat→Rat
 |0=>0
 |j+1=>krS e m k j+coP e j* coP m (j+k)
def krE(m:List Rat)(n:Nat):Nat→List Rat
 |0=>List.replicate (n+1) 0++[((1:Int):Rat)]
 |k+1=>(krE m n k).set (n- k) (-(krS (krE m n k) m k (n+2) / coP m n))
def okKr(m:List Rat)(n k:Nat):Prop:=(∀j,j< n+2→qs (coP (krE m n k) j)+qs (coP m (j+k))≤549755813888∧qs (krS (krE m n k) m k j)+qs (coP (krE m n k) j* coP m (j+k))≤549755813888)∧
 qs (krS (krE m n k) m k (n+2))+qs (coP m n)≤549755813888

theorem yA{e:Int}(he:e=1∨e= -1):∀(l:List Int) (t:Int),(t=1∨t= -1)→(∀s∈l,-1≤s∧s≤1)→(t::l).getLast?=some e→chL l 0 t % 2=if t=e then 0 else 1
 |[],t,ht,_,h=>by
  have:t=e:=by grind
  rw[if_pos this];rfl
 |s::l,t,ht,hs,h=>by
  have c:=hs s (List.mem_cons_self ..);by_cases hz:s≠0;have b:=yA he l s (by omega) (fun x a=>hs x (List.mem_cons_of_mem _ a)) (by grind);rw[chL,if_pos hz,nk];by_cases h1:s=e;by_cases h2:s= -t;omega;omega;by_cases h2:s= -t;omega;omega;rw[chL,if_neg hz];refine yA he l t ht (fun x a=>hs x (List.mem_cons_of_mem _ a)) ?_;grind
theorem Ch.last{u:List Rat}{L:List (List Rat)}(H:Ch u L):∃e:Int,(e=1∨e= -1)∧∀x,((u::L).map (sgE x)).getLast?=some e:=by
 induction H with
 | @one u c hc hu=>
  have h:=Ch.sg (.one hc hu) 0;have hb:=fm 0 u;exact⟨sgE 0 u,by have:=(h 0).2;omega,fun x=>((by grind))⟩
 | @pair u v _ ih=>
  simp_all
 | @step u v w L a c q _ _ _ _ ih=>
  simp_all
theorem Ch.drop{u v:List Rat}{L:List (List Rat)}{k:Rat}(H:Ch u (v::L))(hk:0< k)(hd:∀x,au v x=k* dvE u x){x y:Rat}(hxy:x≤y)(hs:au u x* au u y< 0):chV (u::v::L) y+1≤chV (u::v::L) x:=by
 have h1:=H.fall hk hd hxy;obtain⟨e,i,h⟩:=H.last
 have c:∀z,sgE z u≠0→chV (u::v::L) z % 2=if sgE z u=e then 0 else 1:=fun z j=>by
  have hb:=fm z u;unfold chV;rw[List.map_cons,chL,if_pos j,if_neg (by omega)]
  exact yA i _ _ (by omega) (fun s hs=>by
   obtain⟨q,_,rfl⟩:=List.mem_map.1 hs;exact fm z q) (by grind)
 have d:sgE x u≠0∧sgE y u≠0∧sgE x u≠sgE y u:=by
  rcases cS x u with⟨a,b⟩|⟨a,b⟩|⟨a,b⟩<;> rcases cS y u with⟨g,f⟩|⟨g,f⟩|⟨g,f⟩
  have:=Rat.mul_pos b f;grind;omega;rw[f] at hs;grind;omega;have:=Rat.mul_pos (show 0< -au u x by grind) (show 0< -au u y by grind);grind;rw[f] at hs;grind;rw[b] at hs;grind;rw[b] at hs;grind;rw[b] at hs;grind
 have n:=c x d.1;have m:=c y d.2.1;have l:=fm x u;have o:=fm y u;grind

theorem CP(a b:List Rat)(j:Nat):coP (a++b) j=if j< a.length then coP a j else coP b (j- a.length):=by
 unfold coP;grind

def bN:Nat→List Rat
 |1=>[0,1]
 |2=>[mkRat (-1) 3,0,1]
 |3=>[0,mkRat (-3) 5,0,1]
 |4=>[mkRat 3 35,0,mkRat (-6) 7,0,1]
 |_=>[1]
def bWt:Nat→List Rat
 |1=>[2]
 |2=>[1]
 |3=>[mkRat 8 9,0,mkRat (-5) 9]
 |4=>[mkRat 17 24,0,mkRat (-35) 72]
 |_=>[]
def bA:Nat→List Rat
 |2=>[-3]
 |3=>[0,mkRat (-25) 2]
 |4=>[mkRat 35 3,0,mkRat (-1225) 24]
 |_=>[]
def bB:Nat→List Rat
 |1=>[1]
 |2=>[0,mkRat 3 2]
 |3=>[mkRat (-5) 3,0,mkRat 25 6]
 |4=>[0,mkRat (-805) 96,0,mkRat 1225 96]
 |_=>[]
def bX(k i:Nat):Rat:=
 if i=0 then -1 else if i=k then 1 else if k=2 then 0 else if i=1 then mkRat (-1) 2 else if k=4∧i=2 then 0 else mkRat 1 2
def m0K(k:Nat):List Rat:=sqL (moQ [1] (-1,1)) (2* k)
def baseC(k:Nat):Prop:=
 (∀j,j< k+1→(ldr (m0K k) j).1=bN j)∧(∀j,j< k→0< ldN (m0K k) (ldr (m0K k) j).1)∧(bN k).length=k+1∧coP (bN k) k=1∧fR (aL (bA k) (bN k)) (aL (bB k) (dZ (bN k)))=[1]∧
 (fW (cK (aL (bWt k) (dZ (bN k))) (tpQ (bN k) (m0K k))) (bN k)).2=[]∧(bWt k).length≤k∧(∀i,i< k→bX k i< bX k (i+1))∧(∀i,i< k→au (bN k) (bX k i) * au (bN k) (bX k (i+1))< 0)∧
 (∀j,j< k+1→bdL (bN j) 8∧(bN j).length≤5)∧bdL (bWt k) 8
instance (k:Nat):Decidable (baseC k):=by unfold baseC;infer_instance
section
variable {a b:Rat}(h:a< b){k:Nat}(hk:1≤k∧k≤4)
include h hk
end

theorem bdL_mono'{l:List Rat}{a b:Nat}(h:bdL l a)(hab:a≤b):bdL l b:=fun q c=>Nat.le_trans (h q c) hab
section
variable {a b:Rat}(h:a< b){k:Nat}(hk:1≤k∧k≤4)(ha:qs a≤20)(hb:qs b≤20)
include ha hb
end
section
variable {a b:Rat}(h:a< b){k:Nat}(hk:1≤k∧k≤4)
include h hk
variable (ha:qs a≤20)(hb:qs b≤20)
include ha hb
end
section
variable {a b:Rat}(h:a< b){k:Nat}(hk:1≤k∧k≤4)(ha:qs a≤20)(hb:qs b≤20)
include h hk ha hb
end
section
variable {a b a' b':Rat}(h:a< b)(h':a'< b'){k:Nat}(hk:1≤k∧k≤4)
include h h'
end
section
variable {a b a' b':Rat}(ha:qs a≤20)(hb:qs b≤20)(ha':qs a'≤20)(hb':qs b'≤20)
include ha hb ha' hb'
end
def okReC(c:Cnt)(p:List Rat):Prop:=pg c (-gC p)∧rW c (gC p)∧smS (-gC p,gC p)∧pf p∧p.length≤1000∧1≤bD p∧bD p≤25
instance (c:Cnt) (p:List Rat):Decidable (okReC c p):=by unfold okReC;infer_instance
def okOnC(p m G A:List Rat):Prop:=okBz (dZ p) p G A∧eS (tpQ p m) (bzA p G A)∧lG (aL (tpQ p m) (bzA p G A)) p∧aq p=p∧2≤p.length∧p.length≤1000∧p.length≤m.length+1∧(p.length+1) * (mxL p+mxL m+1)≤137438953472∧smL p
instance (p m G A:List Rat):Decidable (okOnC p m G A):=by unfold okOnC;infer_instance
def suP(p:List Rat):List Rat:=suL (aq p) (dg p) (dg p- 1)
def apV(p w f:List Rat):Rat:=ofQ (apR p w f) (suP p) (apR p w f).length
instance (T:List Rat) (n k:Nat):Decidable (okSu T n k):=by unfold okSu;infer_instance
instance (f:List Rat) (s:Sp) (k:Nat):Decidable (okMo f s k):=by unfold okMo smL;infer_instance
def okAp(p w f:List Rat):Prop:=lG f p∧eS w (fW f p).2∧lG (aL w (fW f p).2) p∧1≤dg p∧dg p≤1000∧p.length≤1000∧(∀k,k< dg p- 1→okSu (aq p) (dg p) k)∧(apR p w f).length≤dg p∧((apR p w f).length+2) * (mxL (apR p w f)+mxL (suP p)+1)≤137438953472∧sm (apV p w f)
instance (p w f:List Rat):Decidable (okAp p w f):=by unfold okAp;infer_instance
instance (m:List Rat) (n k:Nat):Decidable (okKr m n k):=by unfold okKr;infer_instance
theorem sR{l:List Rat}{q:Rat}(h:q∈l):∃i,i< l.length∧coP l i=q:=by
 obtain⟨i,a,e⟩:=List.getElem_of_mem h;exact⟨i,a,by rw[←e];unfold coP;rw[List.getD_eq_getElem?_getD,List.getElem?_eq_getElem a];rfl⟩
theorem qiN(n:Int):qs (n:Rat)≤max (bl n.natAbs) 1:=by
 have e1:(n:Rat).num=n:=rfl;have e2:(n:Rat).den=1:=rfl;unfold qs;rw[e2,jS];grind
theorem qi21{n:Int}(h: -2000000≤n∧n≤2000000):qs (n:Rat)≤21:=by
 have h1:=qiN n;have a:bl n.natAbs≤21:=hZ (by omega);omega
theorem zL{p:List Rat}{s:Nat}(h:bdL p s)(hs:1≤s)(hl:p.length≤1000000):bdL (aK p) (s+21):=fun q b=>by
 obtain⟨i,c,e⟩:=sR b;have a:=kn p;rw[←e,eW];split;exact Nat.le_trans (by decide:qs 0≤1) (by omega);have h1:=gO (coP p (i- 1)) (((i:Nat):Int):Rat);have d:=eP h hs (i- 1);have f:=qi21 (n:=((i:Nat):Int)) (by omega);omega
section
variable {a b:Rat}{p q:Nat}(ha:qs a≤256)(hb:qs b≤256)(hp:p≤8)(hq:q≤8)
include ha in
end

abbrev oP(m:List Rat)(k:Nat):List Rat:=(ldr m k).1
abbrev oN(m:List Rat)(k:Nat):Rat:=ldN m (oP m k)

section
variable {N:List Rat}(hN:nz N)(hm:aS N=1)(h1:1≤dg N)
include hN hm h1
end

def IB(x:Rat)(h:Nat):Prop:=∃z:Int,x=(z:Rat)∧bl z.natAbs≤h
theorem IB.mono{x:Rat}{h k:Nat}(H:IB x h)(hk:h≤k):IB x k:=by obtain⟨z,e,b⟩:=H;exact⟨z,e,by omega⟩
theorem IB.zero(h:Nat):IB 0 h:=⟨0,rfl,Nat.zero_le _⟩
theorem IB.one:IB 1 1:=⟨1,rfl,by decide⟩
theorem IB.mul{x y:Rat}{h k:Nat}(H:IB x h)(K:IB y k):IB (x* y) (h+k):=by
 obtain⟨z,e,b⟩:=H;obtain⟨w,c,a⟩:=K;exact⟨z* w,by grind,eY b a⟩
theorem IB.add{x y:Rat}{h:Nat}(H:IB x h)(K:IB y h):IB (x+y) (h+1):=by
 obtain⟨z,e,b⟩:=H;obtain⟨w,c,a⟩:=K;exact⟨z+w,by grind,wH b a⟩
theorem IB.neg{x:Rat}{h:Nat}(H:IB x h):IB (-x) h:=by
 obtain⟨z,e,b⟩:=H;exact⟨-z,by grind,by grind⟩
theorem IB.eq{x y:Rat}{h:Nat}(H:IB x h)(e:x=y):IB y h:=e▸H
structure HS (p:List Rat)(K:Rat)(h:Nat):Prop where
 ne:K≠0
 sc:IB K h
 co:∀i,IB (coP p i* K) h
theorem Ib(p q:List Rat)(n:Nat):coP (aL p q) n=jO p q p.length n:=by
 rw[←uR];exact trim_iff.1 (gi fun x=>by rw[eJ,uF]) n
theorem Ej{p q:List Rat}{K K':Rat}{h h':Nat}(H:HS p K h)(H':HS q K' h')(n:Nat):∀i,IB (jO p q i n* (K* K')) (h+h'+i)
 |0=>(IB.zero _).eq (by show 0=0* _;grind)
 |i+1=>by
  have b:=Ej H H' n i
  have a:IB ((if i≤n then coP p i* coP q (n- i) else 0) * (K* K')) (h+h'+i):=by
   split;exact(((H.co i).mul (H'.co (n- i))).eq (by grind)).mono (by omega);exact(IB.zero _).eq (by grind)
  exact((b.add a).eq (by rw[jO];grind)).mono (by omega)
theorem HS.mul{p q:List Rat}{K K':Rat}{h h' L:Nat}(H:HS p K h)(H':HS q K' h')(hl:p.length≤L):HS (aL p q) (K* K') (h+h'+L) where
 ne e:=(Rat.mul_eq_zero.1 e).elim H.ne H'.ne
 sc:=(H.sc.mul H'.sc).mono (by omega)
 co i:=by
  rw[Ib];exact(Ej H H' i p.length).mono (by omega)
theorem HS.step {p l r:List Rat} {K K' A B B' a b:Rat} {h h' M:Nat} (H:HS p K h) (H':HS l K' h') (hB:IB B (2* h+M)) (hA:IB A (2* h+M)) (hB':IB B' (2* h'+M)) (b0:B≠0) (b0':B'≠0) (ha:a* B=A)
    (hb:∀i,coP l i* b* (B'* K* K)=coP l i* K'* K'* B) (hr:∀i,coP r i=coP p i* -a+lag p i- coP l i* b):HS r (K* K* B* B') (4* h+2* h'+2* M+2) where
 ne e:=by
  rcases Rat.mul_eq_zero.1 e with e|e
  rcases Rat.mul_eq_zero.1 e with e|e
  rcases Rat.mul_eq_zero.1 e with e|e <;> exact H.ne e
  exact b0 e;grind
 sc:=(((H.sc.mul H.sc).mul hB).mul hB').mono (by omega)
 co i:=by
  have c:IB (lag p i* K) h:=by
   cases i with
   |zero=>exact(IB.zero h).eq (by show 0=0* K;grind)
   |succ i=>exact H.co i
  have t1:=((((H.co i).mul H.sc).mul hB').mul hA).neg;have t2:=((c.mul H.sc).mul hB').mul hB;have d:=((((H'.co i).mul H'.sc).mul hB).mul hB).neg;have s1:=(t1.mono (show _≤4* h+2* h'+2* M by omega)).add (t2.mono (show _≤4* h+2* h'+2* M by omega));have s2:=s1.add (d.mono (show _≤4* h+2* h'+2* M+1 by omega));grind
def p2(n:Nat):Rat:=((2^ n:Nat):Int)
def sF:Nat→Nat→Nat→Nat→Nat→Nat→Nat
 |0,_,_,_,_,_=>0
 |f+1,m,n,h,g,r=>(h+(m+1- n) * (g+1))+g+(r+1) * (m+1- n)+1+((List.range n).map fun k=>if k=0 then 0 else sF f n k g (h+(m+1- n) * (g+1)) r).foldl max 0
section
variable {f:Nat}{p:List Rat}{c:Cnt}(h:jh f p=some c)(hp:nz p)
include h hp
def At(c:Cnt)(i:Int)(x y:Rat):Prop:=x≤y∧dR c x≤i∧i< e8 c y
end


def cH(f N h X T Q:Nat):Bool:=
 decide (N≤12∧1≤h∧1≤X∧X≤137438953472∧2^ 12* (h+2* X+1)≤137438953472∧17* (h+12* N+8)≤34359738368∧h+12* N+8≤T∧12* (T+Q+1)+T+Q+2≤137438953472) &&
 ((List.range (N+1)).all fun m=>(List.range m).all fun n=>hG f m n h (h+5) X) &&
 ((List.range (N+1)).all fun m=>(List.range m).all fun n=>cB f m n (h+12* N+8) (h+12* N+13) (h+12* N+13) T)

section
variable {f:Nat}{q d:List Rat}{c:Cnt}{σ:Rat}(h:jh f d=some c)(hd:nz d)(hσ:σ=1∨σ= -1)(hdq:∀z,dvE q z=σ* au d z)
include hσ hdq
end
def pT:Nat→Rat
 |0=>1
 |n+1=>pT n* (((n+1:Nat):Int):Rat)
theorem uB:∀n,0< pT n
 |0=>by decide+kernel
 |n+1=>by
  exact Rat.mul_pos (uB n) (by rw[show(0:Rat)=((0:Int):Rat) from rfl,Rat.intCast_lt_intCast];omega)
theorem BO(k:Nat):(((k+1:Nat):Int):Rat)≠0:=fun e=>by have:=Rat.intCast_inj.1 (e.trans Rat.intCast_zero.symm);omega
theorem HS.nil:HS [] 1 1:=⟨by decide,IB.one,fun i=>(IB.zero 1).eq (by show 0=(0:Rat) * 1;grind)⟩
section
variable {m:List Rat}{k:Rat}{M n:Nat}(k0:k≠0)(hm:∀i,IB (coP m i* k) M)(hn:∀j,j< n→oN m j≠0)(h7:n≤7)
include k0 hm hn h7
end
theorem IB_quot{x y:Rat}{h:Nat}(H:IB x h)(K:IB y h)(y0:y≠0)(h1:1≤h):qs (x/ y)≤h:=by
 have a:Ht [x,y] h:=⟨1,by decide,fun i=>by
  have:IB (coP [x,y] i* 1) h:=by
   match i with
   |0=>exact H.eq (by show x=x* 1;grind)
   |1=>exact K.eq (by show y=y* 1;grind)
   |i+2=>exact(IB.zero h).eq (by show 0=0* 1;grind)
  obtain⟨z,e,b⟩:=this;exact⟨z,e,b⟩⟩
 exact a.quot 0 1 y0 h1
section
variable {m:List Rat}{s n:Nat}(hm:bdL m s)(hs1:1≤s)(hs:s≤3000)(hl:m.length≤16)(h6:n≤6)(hn:∀j,j< n→0< oN m j)
include hm hs1 hs hl h6 hn
end
theorem nz_int'{n:Int}(h:n≠0):(n:Rat)≠0:=fun e=>h (by have:=congrArg Rat.num e;exact this)
theorem IB.nat{n h:Nat}(hn:bl n≤h):IB (((n:Nat):Int):Rat) h:=⟨n,rfl,by rwa[Int.natAbs_natCast]⟩
theorem C6{x:Rat}{h:Nat}(hx:qs x≤h):IB (x* ((x.den:Int):Rat)) h∧IB (((x.den:Nat):Int):Rat) h∧(((x.den:Nat):Int):Rat)≠0:=by
 have h1:=dW x;have c:=dM x;refine⟨⟨x.num,?_,by omega⟩,IB.nat (by omega),nz_int' (by have:=x.den_pos;omega)⟩;have a:(((x.den:Nat):Int):Rat)≠0:=nz_int' (by have:=x.den_pos;omega);have b:(x.num:Rat) / (((x.den:Nat):Int):Rat)=x:=by rw[←Rat.divInt_eq_div,Rat.num_divInt_den]
 have e2:(x.num:Rat) / (((x.den:Nat):Int):Rat) * (((x.den:Nat):Int):Rat)=(x.num:Rat):=Rat.div_mul_cancel a;rw[b] at e2;exact e2
theorem HS.mono{p:List Rat}{K:Rat}{h k:Nat}(H:HS p K h)(hk:h≤k):HS p K k:=⟨H.ne,H.sc.mono hk,fun i=>(H.co i).mono hk⟩
theorem II{n h:Nat}(hn:bl n≤h):IB ((n:Int):Rat) h:=⟨n,rfl,by grind⟩
theorem yd:∀n,n≤255→IB (pT n) (8* n+1)
 |0,_=>IB.one
 |n+1,h=>by
  exact((yd n (by omega)).mul (II (h:=8) (hZ (by omega)))).mono (by omega)
theorem Ap:∀n i,i< n→n≤255→∃z:Rat,IB z (8* n+1)∧z* (((i+1:Nat):Int):Rat)=pT n
 |0,_,h,_=>by omega
 |n+1,i,h,hn=>by
  by_cases e:i=n;subst e;exact⟨pT i,(yd i (by omega)).mono (by omega),by rw[pT]⟩;obtain⟨z,a,b⟩:=Ap n i (by omega) (by omega);refine⟨z* (((n+1:Nat):Int):Rat),(a.mul (II (h:=8) (hZ (by omega)))).mono (by omega),?_⟩;rw[pT];grind
theorem HS.bdL{p:List Rat}{K:Rat}{h:Nat}(H:HS p K h)(h1:1≤h):Abs.bdL p h:=fun q a=>by
 obtain⟨i,_,e⟩:=sR a;have:=IB_quot (H.co i) H.sc H.ne h1;rw[Rat.mul_div_cancel H.ne] at this;grind
theorem HS.integral{p:List Rat}{K:Rat}{h L:Nat}(H:HS p K h)(hl:p.length≤L)(hL:L≤255):HS (aK p) (K* pT L) (h+8* L+1) where
 ne e:=(Rat.mul_eq_zero.1 e).elim H.ne (by have:=uB L;grind)
 sc:=(H.sc.mul (yd L hL)).mono (by omega)
 co i:=by
  rw[eW];cases i with
  |zero=>exact(IB.zero _).eq (by grind)
  |succ i=>
   by_cases g:i< L;obtain⟨z,b,c⟩:=Ap L i g hL;refine((H.co i).mul b).eq ?_|>.mono (by omega);have:=Rat.div_mul_cancel (a:=coP p i) (BO i);grind;rw[fO (by omega)];exact(IB.zero _).eq (by grind)
theorem Aq{K x d:Rat}{h e:Nat}(hd:IB d e)(hx:IB (x* d) e):∀(l:List Rat),(∀c∈l,IB (c* K) h)→IB (au l x* (K* d^ l.length)) (h+l.length* (e+2))
 |[],_=>(IB.zero _).eq (by rw[c9];grind)
 |a::l,hl=>by
  have b:=Aq hd hx l fun c hc=>hl c (List.mem_cons_of_mem _ hc);have ha:=hl a (List.mem_cons_self ..)
  have hp:∀n:Nat,IB (d^ n) (n* e+1):=fun n=>by
   induction n with
   |zero=>rw[Rat.pow_zero];exact IB.one.mono (by omega)
   |succ n b=>rw[Rat.pow_succ];exact(b.mul hd).mono (by grind)
  have e2:(a::l).length* (e+2)=l.length* (e+2)+e+2:=by grind
  have s1:=b.mul hx;have s2:=ha.mul (hp (l.length+1));have g:l.length* (e+2)=l.length* e+l.length* 2:=by grind
  have f:(l.length+1) * e=l.length* e+e:=Nat.succ_mul _ _;refine(((s1.mono (show _≤h+l.length* (e+2)+e+1 by omega)).add (s2.mono (by omega))).eq ?_).mono (by omega);rw[bY];grind
theorem HS.all{p:List Rat}{K:Rat}{h:Nat}(H:HS p K h):∀c∈p,IB (c* K) h:=fun c hc=>by
 obtain⟨i,_,e⟩:=sR hc;rw[←e];exact H.co i
theorem HS.k{p:List Rat}{K l d:Rat}{h e:Nat}(H:HS p K h)(d0:d≠0)(hd:IB d e)(hl:IB (l* d) e):HS (aX p l) (K* d) (h+e) where
 ne g:=(Rat.mul_eq_zero.1 g).elim H.ne d0
 sc:=H.sc.mul hd
 co i:=by rw[bO];exact((H.co i).mul hl).eq (by grind)
theorem HS.rescale{p:List Rat}{K d:Rat}{h e:Nat}(H:HS p K h)(d0:d≠0)(hd:IB d e):HS p (K* d) (h+e) where
 ne g:=(Rat.mul_eq_zero.1 g).elim H.ne d0
 sc:=H.sc.mul hd
 co i:=((H.co i).mul hd).eq (by grind)
theorem HS.less{p:List Rat}{K v:Rat}{h:Nat}(H:HS p K h)(hv:IB (v* K) h):HS (cK p (ed v)) K (h+1) where
 ne:=H.ne
 sc:=H.sc.mono (by omega)
 co i:=by
  rw[cP,ri];split;exact((H.co i).add hv.neg).eq (by grind);exact((H.co i).mono (by omega)).eq (by grind)
theorem HS.plus{p q:List Rat}{K:Rat}{h:Nat}(H:HS p K h)(G:HS q K h):HS (fR p q) K (h+1) where
 ne:=H.ne
 sc:=H.sc.mono (by omega)
 co i:=by rw[ez];exact((H.co i).add (G.co i)).eq (by grind)
theorem F0(p:List Rat)(v:Rat):cK p [v]=cK p (ed v):=by
 have h1:aq (cK p [v])=cK p [v]:=by unfold cK fR;exact eU _
 have a:aq (cK p (ed v))=cK p (ed v):=by unfold cK fR;exact eU _
 rw[←h1,←a];exact eqv_trim.1 fun x=>by rw[iA,iA,Au,bY,c9];grind
theorem ld{d:Rat}{e:Nat}(hd:IB d e):∀n:Nat,IB (d^ n) (n* e+1)
 |0=>by rw[Rat.pow_zero];exact IB.one.mono (by omega)
 |n+1=>by rw[Rat.pow_succ];exact((ld hd n).mul hd).mono (by rw[Nat.succ_mul];omega)
def CO(p:List Rat)(n:Nat):List Rat:=aq (p.take (n+1))
theorem AC(p:List Rat)(n i:Nat):coP (p.take n) i=if i< n then coP p i else 0:=by
 unfold coP;rw[List.getD_eq_getElem?_getD,List.getD_eq_getElem?_getD,List.getElem?_take];split <;> rfl
theorem coP_cut(p:List Rat)(n i:Nat):coP (CO p n) i=if i≤n then coP p i else 0:=by
 rw[CO,b5,AC];by_cases h:i≤n;rw[if_pos h,if_pos (by omega)];rw[if_neg h,if_neg (by omega)]
theorem AB(p:List Rat)(n:Nat):(CO p n).length≤n+1:=by
 have h1:=bF (p.take (n+1));have a:(p.take (n+1)).length≤n+1:=by rw[List.length_take];omega
 unfold CO;omega
theorem HS.cut{p:List Rat}{K:Rat}{h:Nat}(H:HS p K h)(n:Nat):HS (CO p n) K h:=⟨H.ne,H.sc,fun i=>by
 rw[coP_cut];split;exact H.co i;exact(IB.zero h).eq (by grind)⟩
theorem HS.plus2{p q:List Rat}{K K':Rat}{h h':Nat}(H:HS p K h)(G:HS q K' h'):HS (fR p q) (K* K') (h+h'+1):=
 (H.rescale G.ne G.sc).plus ((Rat.mul_comm K' K▸G.rescale H.ne H.sc).mono (by omega))
theorem yJ{s:Nat}:∀(l:List Rat),Abs.bdL l s→∃K,HS l K (s* l.length+1)
 |[],_=>⟨1,HS.nil⟩
 |c::l,hl=>by
  obtain⟨K,H⟩:=yJ l fun q b=>hl q (List.mem_cons_of_mem _ b);obtain⟨h1,a,d⟩:=C6 (hl c (List.mem_cons_self ..));have e:s* (c::l).length=s* l.length+s:=by grind
  refine⟨K* ((c.den:Int):Rat),(fun g=>(Rat.mul_eq_zero.1 g).elim H.ne d),(H.sc.mul a).mono (by omega),fun i=>?_⟩;cases i with
  |zero=>rw[fb];exact((H.sc.mul h1).eq (by grind)).mono (by omega)
  |succ i=>rw[fx];exact(((H.co i).mul a).eq (by grind)).mono (by omega)
theorem ve{c d K:Rat}{h:Nat}(d0:d≠0)(hd:IB d 20)(hc:IB (c* d) 20):∀(l:List Rat) (b:Rat),HS (b::l) K h→HS (ce [c,1] (b::l)) (K* d^ l.length) (h+22* l.length)
 |[],b,H=>by
  refine⟨by rw[List.length_nil,Rat.pow_zero];have:=H.ne;grind,H.sc.eq (by simp),fun i=>?_⟩;rw[show ce [c,1] [b]=fR (aL [] [c,1]) (ed b) from rfl,ez,ri,show aL [] [c,1]=[] from if_pos (.inl rfl),lu];have h1:=H.co 0;rw[fb] at h1;split;exact h1.eq (by rw[List.length_nil,Rat.pow_zero];grind);exact(IB.zero _).eq (by grind)
 |b'::l,b,H=>by
  have Ht:HS (b'::l) K h:=⟨H.ne,H.sc,fun i=>H.co (i+1)⟩;have a:=ve d0 hd hc l b' Ht;have hp:=ld hd (l.length+1);have hb:=H.co 0;rw[List.length_cons];refine⟨fun g=>(Rat.mul_eq_zero.1 g).elim H.ne fun g=>?_,(H.sc.mul hp).mono (by omega),fun i=>?_⟩
  have:∀n:Nat,d^ n≠0:=fun n=>by
   induction n with
   |zero=>grind
   |succ n a=>grind
  exact this _ g;rw[show ce [c,1] (b::b'::l)=fR (aL (ce [c,1] (b'::l)) [c,1]) (ed b) from rfl,ez,Ie,ri];generalize ce [c,1] (b'::l)=X at *
  have s1:=(a.co i).mul hc
  have s2:IB (lag X i* (K* d^ l.length) * d) (h+22* l.length+20):=by
   cases i with
   |zero=>exact(IB.zero _).eq (by rw[show lag X 0=0 from rfl];grind)
   |succ i=>exact(a.co i).mul hd
  have e:IB ((if i=0 then b else 0) * K* d^ (l.length+1)) (h+22* l.length+21):=by
   split;exact(hb.mul hp).mono (by omega);exact(IB.zero _).eq (by grind)
  refine(((s1.add s2).add e).eq ?_).mono (by omega);grind
theorem HS_shift'{c d K:Rat}{h N:Nat}(d0:d≠0)(hd:IB d 20)(hc:IB (c* d) 20){l:List Rat}(H:HS l K h)(hl:l.length≤N+1):∃K',HS (ce [c,1] l) K' (h+22* N):=by
 cases l with
 |nil=>exact⟨K,H.mono (by omega)⟩
 |cons b l=>
  rw[List.length_cons] at hl;exact⟨_,(ve d0 hd hc l b H).mono (by omega)⟩
theorem jP(c:Rat):∀l:List Rat,(ce [c,1] l).length≤l.length
 |[]=>Nat.le_refl _
 |a::l=>by
  have h1:=jV (aL (ce [c,1] l) [c,1]) (ed a);have e:=nu (ce [c,1] l) c;have d:=jP c l;have b:=ow a;rw[List.length_cons];show(fR (aL (ce [c,1] l) [c,1]) (ed a)).length≤_;omega
theorem mQ{c d K:Rat}{h N:Nat}(d0:d≠0)(hd:IB d 20)(hc:IB (c* d) 20)(hq:qs c≤20)(h1:1≤h)(hN:(N+1) * (h+22* N+22)≤100000000)(hN2:N≤1000):∀(l:List Rat),l.length≤N+1→HS l K h→gu [c,1] l
 |[],_,_=>trivial
 |a::l,hl,H=>by
  rw[List.length_cons] at hl;have Ht:HS l K h:=⟨H.ne,H.sc,fun i=>H.co (i+1)⟩;obtain⟨m,g⟩:=HS_shift' (N:=N) d0 hd hc Ht (by omega);have hb:=g.bdL (by omega);have n:=mxL_le hb (by omega);have j:=jP c l;have k:=nu (ce [c,1] l) c
  have f:mxL [c,1]≤20:=mxL_le (fun q b=>by
   rcases List.mem_cons.1 b with rfl|b
   exact hq;rw[List.mem_singleton.1 b];exact Nat.le_trans (by decide:qs 1≤1) (by decide)) (by decide)
  have ha:=H.bdL h1 a (List.mem_cons_self ..);have e:(ce [c,1] l).length* (mxL (ce [c,1] l)+mxL [c,1]+1)≤(N+1) * (h+22* N+22):=Nat.mul_le_mul (by omega) (by omega);have e2:h≤(N+1) * (h+22* N+22):=Nat.le_trans (by omega) (Nat.le_mul_of_pos_left _ (by omega));refine⟨mQ d0 hd hc hq h1 hN hN2 l (by omega) Ht,⟨by omega,by omega,by omega,by simp⟩,by unfold sm;omega,by omega⟩
abbrev Ke:=List (List Rat×List Rat)
def upF(a:Rat)(u o:List Rat)(p:List Rat×List Rat):List Rat:=fR o (aL p.1 (cK (aK (aL p.2 u)) [au (aK (aL p.2 u)) a]))
def upL(a:Rat)(u:List Rat):Ke→List Rat→List Rat
 |[],o=>o
 |p::k,o=>upL a u k (upF a u o p)
def upK(k:Ke)(a:Rat)(u:List Rat):List Rat:=upL a u k []
theorem yO(a:Rat)(u:List Rat):∀(k:Ke) (o:List Rat) (p:List Rat×List Rat),upL a u (k++[p]) o=upF a u (upL a u k o) p
 |[],_,_=>rfl
 |q::k,o,p=>yO a u k (upF a u o q) p
structure OkUF (a:Rat)(u o:List Rat)(p:List Rat×List Rat):Prop where
 m1:eS p.2 u
 i1:(aL p.2 u).length≤1099511627775
 i2:smL (aK (aL p.2 u))
 e1:ff (aK (aL p.2 u)) a
 l1:(aK (aL p.2 u)).length≤1099511627776
 m2:eS p.1 (cK (aK (aL p.2 u)) [au (aK (aL p.2 u)) a])
 o1:smL o
 o2:o.length≤1099511627776
 l2:(aL p.1 (cK (aK (aL p.2 u)) [au (aK (aL p.2 u)) a])).length≤1099511627776
def zo(k:Ke)(a:Rat)(u:List Rat):Prop:=∀i p,k[i]?=some p→OkUF a u (upL a u (k.take i) []) p
structure KHS (k:Ke)(KA KB:Rat)(h:Nat):Prop where
 len:∀p∈k,p.1.length≤4∧p.2.length≤4
 a:∀p∈k,HS p.1 KA h
 b:∀p∈k,HS p.2 KB h
theorem pow_nz'{d:Rat}(h:d≠0):∀n:Nat,d^ n≠0
 |0=>by grind
 |n+1=>by rw[Rat.pow_succ];intro g;rcases Rat.mul_eq_zero.1 g with g|g;exact pow_nz' h n g;grind
structure TeB (A B u:List Rat)(a S:Rat)(h:Nat):Prop where
 m:(aL B u).length≤u.length+4
 il:(aK (aL B u)).length≤u.length+5
 ib:bdL (aK (aL B u)) h
 sb:bdL (cK (aK (aL B u)) [au (aK (aL B u)) a]) h
 sl:(cK (aK (aL B u)) [au (aK (aL B u)) a]).length≤u.length+5
 l:(aL A (cK (aK (aL B u)) [au (aK (aL B u)) a])).length≤u.length+9
 H:HS (aL A (cK (aK (aL B u)) [au (aK (aL B u)) a])) S h
theorem te_HS{A B u:List Rat}{a d KA KB K:Rat}{h h':Nat}(hA:A.length≤4)(hB:B.length≤4)(hu:u.length≤245)(HA:HS A KA h)(HB:HS B KB h)(H:HS u K h')(d0:d≠0)(hd:IB d 20)(ha:IB (a* d) 20)(h1:1≤h):TeB A B u a (KA* (KB* K* pT 250* d^ 255)) (h'+2* h+13000):=by
 have m1:=ua B u;have i1:=kn (aL B u);have j:=HB.mul H hB;have g:=j.integral (L:=250) (by omega) (by decide);have i:=tk (aK (aL B u)) [au (aK (aL B u)) a];rw[List.length_singleton] at i;have m:=ua A (cK (aK (aL B u)) [au (aK (aL B u)) a]);have c:=g.bdL (by omega);generalize hf:aK (aL B u)=f at *
 have k:f.length≤250:=by omega
 have hp:=ld hd 255;have b:=ld hd (255- f.length);have hv:=(Aq hd ha f g.all).mul b;have e0:d^ f.length* d^ (255- f.length)=d^ 255:=by rw[←rH,show f.length+(255- f.length)=255 by omega]
 have g3:=(g.rescale (pow_nz' d0 255) hp).mono (show _≤h'+h+12800 by omega);have e:=g3.less (v:=au f a) ((hv.eq (by grind)).mono (by omega));rw[←F0] at e;have l:=HA.mul e hA;subst hf;exact⟨by omega,by omega,bdL_mono' c (by omega),bdL_mono' (e.bdL (by omega)) (by omega),by omega,by omega,l.mono (by omega)⟩
theorem FM{a d KA KB K:Rat}{u:List Rat}{h h':Nat}(hu:u.length≤240)(H:HS u K h')(d0:d≠0)(hd:IB d 20)(ha:IB (a* d) 20)(hq:qs a≤20)(h1:1≤h)(hlim:h'+2* h+14000≤400000000):∀(k:Ke) (o:List Rat) (n:Nat),KHS k KA KB h→n+k.length≤900→o.length≤u.length+9→HS o (KA* (KB* K* pT 250* d^ 255)) (h'+2* h+13000+n)→
    HS (upL a u k o) (KA* (KB* K* pT 250* d^ 255)) (h'+2* h+13000+(n+k.length))∧(upL a u k o).length≤u.length+9∧∀i p,k[i]?=some p→OkUF a u (upL a u (k.take i) o) p
 |[],o,n,_,_,ho,Ho=>⟨Ho,ho,fun i p hp=>by grind⟩
 |p::k,o,n,hk,hn,ho,Ho=>by
  rw[List.length_cons] at hn;obtain⟨l1,l2⟩:=hk.len p (List.mem_cons_self ..);have f:=hk.a p (List.mem_cons_self ..);have e:=hk.b p (List.mem_cons_self ..);have T:=te_HS l1 l2 (show u.length≤245 by omega) f e H d0 hd ha h1;have al:=jV o (aL p.1 (cK (aK (aL p.2 u)) [au (aK (aL p.2 u)) a]));have x:=T.l;have j:HS (upF a u o p) (KA* (KB* K* pT 250* d^ 255)) (h'+2* h+13000+(n+1)):=(Ho.plus (T.H.mono (by omega))).mono (by omega);obtain⟨s,g,r⟩:=FM hu H d0 hd ha hq h1 hlim k (upF a u o p) (n+1) ⟨fun q hq=>hk.len q (List.mem_cons_of_mem _ hq),fun q hq=>hk.a q (List.mem_cons_of_mem _ hq),fun q hq=>hk.b q (List.mem_cons_of_mem _ hq)⟩ (by omega) (by unfold upF;omega) j;refine⟨by rw[List.length_cons,show n+(k.length+1)=n+1+k.length by omega];exact s,g,fun i q c=>?_⟩;cases i with
  |zero=>
   cases c;show OkUF a u o p;have w:=mxL_le (f.bdL h1) h1;have b1:=mxL_le (e.bdL h1) h1;have u1:=mxL_le ((H.mono (show h'≤h'+1 by omega)).bdL (by omega)) (by omega);have i1:=mxL_le T.ib (by omega);have s1:=mxL_le T.sb (by omega);have o1:=Ho.bdL (by omega);have t:=T.m;have il:=T.il;have sl:=T.sl;have e1:p.2.length* (mxL p.2+mxL u+1)≤4* (h+h'+2):=Nat.mul_le_mul l2 (by omega);have e2:p.1.length* (mxL p.1+mxL (cK (aK (aL p.2 u)) [au (aK (aL p.2 u)) a])+1)≤4* (h'+3* h+13002):=Nat.mul_le_mul l1 (by omega);have v:(aK (aL p.2 u)).length* (mxL (aK (aL p.2 u))+qs a+1)≤250* (h'+2* h+13021):=Nat.mul_le_mul (by omega) (by omega);exact⟨⟨by omega,by omega,by omega,by omega⟩,by omega,c6 T.ib (by omega),⟨by omega,by omega⟩,by omega,⟨by omega,by omega,by omega,by omega⟩,c6 o1 (by omega),by omega,by omega⟩
  |succ i=>exact r i q (by grind)
theorem wS{k:Ke}{a d KA KB K:Rat}{u:List Rat}{h h':Nat}(hk:KHS k KA KB h)(hkl:k.length≤900)(hu:u.length≤240)(H:HS u K h')(d0:d≠0)(hd:IB d 20)(ha:IB (a* d) 20)(hq:qs a≤20)(h1:1≤h)(A0:KA≠0)(B0:KB≠0)(IA:IB KA h)(IBB:IB KB h)(hlim:h'+2* h+14000≤400000000):HS (upK k a u) (KA* (KB* K* pT 250* d^ 255)) (h'+2* h+13000+k.length)∧(upK k a u).length≤u.length+9∧zo k a u:=by
 have b:HS [] (KA* (KB* K* pT 250* d^ 255)) (h'+2* h+13000+0):=by
  refine⟨fun g=>?_,?_,fun i=>(IB.zero _).eq (by show 0=(0:Rat) * _;grind)⟩;rcases Rat.mul_eq_zero.1 g with g|g
  exact A0 g;rcases Rat.mul_eq_zero.1 g with g|g
  rcases Rat.mul_eq_zero.1 g with g|g
  rcases Rat.mul_eq_zero.1 g with g|g
  exact B0 g;exact H.ne g;have:=uB 250;grind;exact pow_nz' d0 255 g;have hf:=yd 250 (by omega);have hp:=ld hd 255;exact(IA.mul (((IBB.mul H.sc).mul hf).mul hp)).mono (by omega)
 have:=FM hu H d0 hd ha hq h1 hlim k [] 0 hk (by omega) (Nat.zero_le _) b;rw[Nat.zero_add] at this;exact this
def seK(k:Ke)(G:List Rat)(L:Rat)(n:Nat):Nat→List Rat
 |0=>[]
 |r+1=>CO (fR G (aX (upK k 0 (seK k G L n r)) L)) n
theorem xb(k:Ke)(G:List Rat)(L:Rat)(n:Nat):∀r,(seK k G L n r).length≤n+1
 |0=>by rw[seK];grind
 |r+1=>by exact AB _ _
section
variable {k:Ke}{G:List Rat}{L dL KA KB KG:Rat}{h:Nat}(hk:KHS k KA KB h)(hkl:k.length≤900)(h1:1≤h)(h2:h≤1000)(A0:KA≠0)(B0:KB≠0)(IA:IB KA h)(IBB:IB KB h)(HG:HS G KG 3000)(l0:dL≠0)(l1:IB dL 20)(l2:IB (L* dL) 20)
include hk hkl h1 h2 A0 B0 IA IBB HG l0 l1 l2
theorem Ga{n:Nat}(hn:n≤40):∀r,r≤1000→(∃K,HS (seK k G L n r) K (20000* r+1))∧zo k 0 (seK k G L n r)
 |0,_=>⟨⟨1,HS.nil.mono (by omega)⟩,(wS (u:=[]) (d:=1) hk hkl (by decide) HS.nil (by decide) (IB.one.mono (by omega)) ((IB.zero 20).eq (by grind)) (by decide) h1 A0 B0 IA IBB (by omega)).2.2⟩
 |r+1,hr=>by
  obtain⟨⟨K,H⟩,_⟩:=Ga hn r (by omega);have f:=xb k G L n r;have c:=(wS (a:=0) (d:=1) hk hkl (by omega) H (by decide) (IB.one.mono (by omega)) ((IB.zero 20).eq (by grind)) (by decide) h1 A0 B0 IA IBB (by omega)).1;have e:=c.k l0 l1 l2;have b:=((HG.plus2 e).cut n).mono (show _≤20000* (r+1)+1 by omega);exact⟨⟨_,b⟩,(wS (a:=0) (d:=1) hk hkl (by have:=AB (fR G (aX (upK k 0 (seK k G L n r)) L)) n;omega) b (by decide) (IB.one.mono (by omega)) ((IB.zero 20).eq (by grind)) (by decide) h1 A0 B0 IA IBB (by omega)).2.2⟩
end
def C4(v:Sp):Rat:=if 0≤v.1 then v.2 else if v.2≤0 then -v.1 else nO [-v.1,v.2]
def ei{α:Type}(f:α→Rat):List α→Rat
 |[]=>0
 |p::k=>f p+ei f k
def mvK(a:Rat)(k:Ke):Ke:=k.map fun p=>(ce [a,1] p.1,ce [a,1] p.2)
end Go.Abs
