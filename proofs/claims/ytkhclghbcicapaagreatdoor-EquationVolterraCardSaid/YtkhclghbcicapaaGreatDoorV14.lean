/- Part V14 of the proof. -/
import Derived.Test.YtkhclghbcicapaaGreatDoorV13
set_option linter.all false
namespace Go.Abs
def chi(s t:Int):Int:=if s≠0∧t≠s then 1 else 0
theorem chi_nn(s t:Int):0≤chi s t:=by unfold chi;grind
theorem qW(s:Int):chi s s=0:=by unfold chi;grind
theorem qX{s t:Int}{l:List Int}(ht:t=1∨t= -1)(hs: -1≤s∧s≤1):chL (s::t::l) 0 0=(if s= -t then 1 else 0)+chL l 0 t:=by
 have a:t≠0:=by omega
 by_cases h0:s=0;subst h0;rw[chL,if_neg (by simp),chL,if_pos a,if_neg (by omega)];omega;rw[chL,if_pos h0,chL,oa];grind
def Sq(u:List Rat)(L:List (List Rat)):Prop:=Ch u L∧∀v M,L=v::M→∃k:Rat,0< k∧∀x,af v x=k* dvE u x
theorem pu{x c:Rat}(h:c≤ab x):c≤x∨x≤ -c:=by unfold ab at h;grind
theorem kO{x c:Rat}(h:c≤x∨x≤ -c)(hc:0≤c):c≤ab x:=by unfold ab;grind
theorem iP{k a b:Rat}(hk:0< k)(h:k* a≤k* b):a≤b:=by
 by_cases h':a≤b;exact h';have:=Rat.mul_pos hk (show 0< a- b by grind);grind
theorem Sq.tiny{u:List Rat}{L:List (List Rat)}(H:Sq u L){R:Rat}(hR:0≤R):∃h e ρ:Rat,0< h∧0< e∧0< ρ∧∀z w:Rat,ab z≤R→ab w≤R→z≤w→w- z≤h→
    chV (u::L) z- chV (u::L) w=chi (sgE z u) (sgE w u)∧((e≤ab (af u z)∧e≤ab (af u w))∨∃s:Rat,(s=1∨s= -1)∧0< s* dvE u z∧0< s* dvE u w∧ρ* (w- z)≤s* (af u w- af u z)):=by
 obtain⟨H,hv⟩:=H;cases L with
 |nil=>
  obtain⟨c,c0,hc⟩:=H.const;have hp:0< ab c:=by unfold ab;grind
  refine⟨1,ab c,1,by grind,hp,by grind,fun z w _ _ _ _=>⟨?_,.inl ⟨by grind,by grind⟩⟩⟩;rw[n9,n9,(H.sg z w).1,qW];rfl
 |cons v L=>
 obtain⟨k,K,A⟩:=hv v L rfl;obtain⟨a,b,hb⟩:=H.bez v L rfl;have hA:=lM hR a;have hB:=lM hR b;obtain⟨e,E,Y⟩:=part 1 (d:=2* (bV R a+bV R b+1)) (by decide+kernel) (by grind);obtain⟨h1,p1,O⟩:=H.cl.1 R e hR E;obtain⟨U,p2,k2⟩:=H.cl.2 v L rfl R e hR E;have Q:=Bj hR u;have hL:=rg hR u;obtain⟨ρ,M,eρ⟩:=part e (d:=2* k) E (by grind);obtain⟨G,p3,e3⟩:=part ρ (d:=bT R u+1) M (by grind);obtain⟨N,Z,e5⟩:=part (e/ 2) (d:=bL R u+1) (by grind) (by grind);obtain⟨X,S,l4,m4⟩:=less h1 U p1 p2;obtain⟨W,V,l6,m6⟩:=less G N p3 Z;obtain⟨h,p,l,m⟩:=less X W S V;refine⟨h,e/ 2,ρ,p,by grind,M,fun z w n B g2 g4=>?_⟩;have o:ab (w- z)=w- z:=by unfold ab;rw[if_neg (by grind)]
 by_cases hu:e≤ab (af u z);obtain⟨s1,s2,C⟩:=O z w n B (by grind) hu;refine⟨?_,.inl ⟨by grind,?_⟩⟩;rw[s1,qW]
 have:chV (u::v::L) z=chV (u::v::L) w:=by
  unfold chV;simp only[List.map_cons] at C⊢;rw[s1];exact vD s2 C
 omega;have q1:=ie hR n B u;have q2:=Rat.mul_le_mul_of_nonneg_left (show w- z≤N by grind) hL;have q3:ab (af u w- af u z)≤e/ 2:=by rw[o] at q1;grind
 have q4:=ab_le.1 q3;rcases pu hu with q|q
 exact kO (.inl (by grind)) (by grind);exact kO (.inr (by grind)) (by grind)
 have hv:e≤ab (af v z):=by
  by_cases hv:e≤ab (af v z);exact hv;have n1:=dr (fu hR n a) (show ab (af u z)≤e by grind) (cW _) hA;have n2:=dr (fu hR n b) (show ab (af v z)≤e by grind) (cW _) hB;have T:=gO (af a z* af u z) (af b z* af v z);rw[hb z,cJ,cJ,show ab 1=1 by decide+kernel] at T;grind
 obtain⟨s1,s2,C⟩:=k2 z w n B (by grind) hv;have i:=nX hR n B u;rw[o] at i;have ht2:=ab_le.1 i;have f:0≤w- z:=by grind
 have D:bT R u* ((w- z) * (w- z))≤ρ* (w- z):=by
  have q1:=Rat.mul_le_mul_of_nonneg_left (show w- z≤G by grind) Q;have q2:bT R u* (w- z)≤ρ:=by grind
  have q3:=Rat.mul_le_mul_of_nonneg_right q2 f;grind
 have g:∀t:Int,(t=1∨t= -1)→sgE z v=t→chV (u::v::L) z- chV (u::v::L) w=(if sgE z u= -t then 1 else 0)- (if sgE w u= -t then 1 else 0):=fun t ht e=>by
  have F:=C;rw[e] at F;unfold chV;simp only[List.map_cons];rw[s1,e,qX ht (eT z u),qX ht (eT w u),vE F (by omega)];omega
 have bz:=eT z u;have bw:=eT w u;rcases bK z v with⟨c1,J⟩|⟨c1,J⟩|⟨c1,J⟩
 have c3:e≤af v z:=by rcases pu hv with q|q <;> grind
 have d1:2* ρ≤dvE u z:=iP K (by rw[←A];grind);have c4:=Rat.mul_le_mul_of_nonneg_left d1 f;have up:ρ* (w- z)≤af u w- af u z:=by grind
 have nn:=Rat.mul_nonneg (show 0≤ρ by grind) f;have mo:=pH (q:=u) (x:=z) (y:=w) (by grind);refine⟨?_,.inr ⟨1,.inl rfl,by grind,?_,by grind⟩⟩;rw[g 1 (.inl rfl) c1];unfold chi;split <;> split <;> split <;> omega;rcases bK w v with⟨r,j⟩|⟨r,j⟩|⟨r,j⟩
 rw[A] at j;by_cases f3:0< dvE u w;grind;have:=Rat.mul_nonneg (show 0≤k by grind) (show 0≤ -dvE u w by grind);grind;omega;omega;have c3:af v z≤ -e:=by rcases pu hv with q|q <;> grind
 have d1:2* ρ≤ -dvE u z:=iP K (by have:=A z;grind);have c4:=Rat.mul_le_mul_of_nonneg_left d1 f;have up:ρ* (w- z)≤af u z- af u w:=by grind
 have nn:=Rat.mul_nonneg (show 0≤ρ by grind) f;have mo:=pH (q:=u) (x:=w) (y:=z) (by grind);refine⟨?_,.inr ⟨-1,.inr rfl,by grind,?_,by grind⟩⟩;rw[g (-1) (.inr rfl) c1];unfold chi;split <;> split <;> split <;> omega;rcases bK w v with⟨r,j⟩|⟨r,j⟩|⟨r,j⟩
 omega;rw[A] at j;by_cases f3:0< -dvE u w;grind;have:=Rat.mul_nonneg (show 0≤k by grind) (show 0≤dvE u w by grind);grind;omega;exact absurd c1 s2
theorem kY(x y:Rat):0≤ab x+ab y:=by have:=cW x;have:=cW y;grind
theorem Sq.mono{u:List Rat}{L:List (List Rat)}(H:Sq u L){x y:Rat}(hxy:x≤y):chV (u::L) y≤chV (u::L) x:=by
 obtain⟨h,e,ρ,c,_,_,ht⟩:=H.tiny (kY x y);refine way (f:=chV (u::L)) (fun s t=>t≤s) (fun _=>Int.le_refl _) (fun _ _ _ a b=>Int.le_trans b a) c hxy fun z w a b g3 d=>?_;have:=(ht z w (iD a (by grind)) (iD (by grind) g3) b d).1;have:=chi_nn (sgE z u) (sgE w u);omega
theorem Sq.root{u:List Rat}{L:List (List Rat)}(H:Sq u L){w x:Rat}(hwx:w< x)(hx:af u x=0):chV (u::L) x+1≤chV (u::L) w:=by
 obtain⟨h,e,ρ,j,k,d,ht⟩:=H.tiny (kY w x)
 obtain⟨z,b,i,f⟩:∃z,w≤z∧z< x∧x- z≤h:=by
  by_cases g:w≤x- h;exact⟨x- h,g,by grind,by grind⟩;grind
 obtain⟨t1,t2⟩:=ht z x (iD b (by grind)) (iD (by grind) (by grind)) (by grind) f;have m:=H.mono b
 have c:af u z≠0:=fun g=>by
  rcases t2 with⟨_,q⟩|⟨s,_,_,_,q⟩
  rw[hx,show ab 0=0 by decide+kernel] at q;grind;have:=Rat.mul_pos d (show 0< x- z by grind);grind
 have hs:sgE z u≠0:=fun g=>by
  rcases bK z u with⟨a,_⟩|⟨a,_⟩|⟨_,a⟩
  omega;omega;exact c a
 rw[k6 hx] at t1;unfold chi at t1;grind
theorem Sq.away{u:List Rat}{L:List (List Rat)}(H:Sq u L){x y:Rat}(hxy:x≤y)(hx:af u x≠0)(hV:chV (u::L) x=chV (u::L) y):
    ∃e:Rat,0< e∧∀z,x≤z→z≤y→e≤ab (af u z)∧sgE z u=sgE x u:=by
 obtain⟨h,e,ρ,G,he,Y,ht⟩:=H.tiny (kY x y)
 have S:sgE x u≠0:=fun g=>by
  rcases bK x u with⟨a,_⟩|⟨a,_⟩|⟨_,a⟩
  omega;omega;exact hx a
 have d:∀z,x≤z→z≤y→ab z≤ab x+ab y:=fun z a b=>iD a b
 have c:∀z,x≤z→z≤y→sgE z u=sgE x u:=fun z a b=>by
  refine way (f:=fun z=>sgE z u) (fun s t=>s≠0→t=s) (fun _ _=>rfl) (fun _ _ _ k n g3=>by rw[n (by rw[k g3];exact g3),k g3]) G a (fun p q k n g3 O Q=>?_) S;have t1:=(ht p q (d _ k (by grind)) (d _ (by grind) (by grind)) n O).1;have m1:=H.mono k;have m2:=H.mono n;have m3:=H.mono g3;have m4:=H.mono b;unfold chi at t1;by_cases g:sgE q u=sgE p u;exact g;rw[if_pos ⟨Q,g⟩] at t1;omega
 have hy:af u y≠0:=fun g=>by
  have:=c y hxy (by grind);rw[k6 g] at this;omega
 have X:0< ab (af u x):=by unfold ab;split <;> grind
 have M:0< ab (af u y):=by unfold ab;split <;> grind
 obtain⟨e1,V,a2,a3⟩:=less e (ρ* h) he (Rat.mul_pos Y G);obtain⟨e2,b1,b2,E⟩:=less (ab (af u x)) (ab (af u y)) X M;obtain⟨Z,c1,c2,c3⟩:=less e1 e2 V b1;refine⟨Z,c1,fun z j i=>⟨?_,c z j i⟩⟩;by_cases big:e≤ab (af u z);grind
 obtain⟨w,R,K,W,C⟩:∃w,z≤w∧w≤y∧w- z≤h∧(w=y∨w- z=h):=by
  by_cases g:z+h≤y;exact⟨z+h,by grind,g,by grind,.inr (by grind)⟩;exact⟨y,i,by grind,by grind,.inl rfl⟩
 obtain⟨v,v1,v2,T,J⟩:∃v,x≤v∧v≤z∧z- v≤h∧(v=x∨z- v=h):=by
  by_cases g:x≤z- h;exact⟨z- h,g,by grind,by grind,.inr (by grind)⟩;exact⟨x,by grind,j,by grind,.inl rfl⟩
 rcases(ht z w (d _ j i) (d _ (by grind) K) R W).2 with⟨q,_⟩|⟨s,s1,s2,_,s3⟩
 exact absurd q big;rcases(ht v z (d _ v1 (by grind)) (d _ j i) v2 T).2 with⟨_,q⟩|⟨t,t1,_,t2,t3⟩
 exact absurd q big;have o:s=t:=by rcases s1 with rfl|rfl <;> rcases t1 with rfl|rfl <;> grind
 subst o;have sw:=c w (by grind) K;have sv:=c v v1 (by grind);have sz:=c z j i;have n1:=Rat.mul_nonneg (show 0≤ρ by grind) (show 0≤w- z by grind);have n2:=Rat.mul_nonneg (show 0≤ρ by grind) (show 0≤z- v by grind);have F:w=y→af u w=af u y:=fun g=>by rw[g]
 have B:v=x→af u v=af u x:=fun g=>by rw[g]
 have D:w- z=h→ρ* (w- z)=ρ* h:=fun g=>by rw[g]
 have gv:z- v=h→ρ* (z- v)=ρ* h:=fun g=>by rw[g]
 refine kO ?_ (by grind);have l:∀q:Rat,0< q→ab q=q:=fun q g=>by unfold ab;rw[if_neg (by grind)]
 have m:∀q:Rat,q< 0→ab q= -q:=fun q g=>by unfold ab;rw[if_pos g]
 rcases bK z u with⟨a,b⟩|⟨a,b⟩|⟨a,b⟩
 have A:0< af u w:=by rcases bK w u with⟨_,g⟩|⟨g,_⟩|⟨g,_⟩<;> first|exact g|omega
 have r:0< af u v:=by rcases bK v u with⟨_,g⟩|⟨g,_⟩|⟨g,_⟩<;> first|exact g|omega
 have U:=l _ A;have N:=l _ r;left;rcases s1 with rfl|rfl
 rcases J with g|g
 rw[←B g] at b2;grind;have:=gv g;grind;rcases C with g|g
 rw[←F g] at E;grind;have:=D g;grind;have A:af u w< 0:=by rcases bK w u with⟨g,_⟩|⟨_,g⟩|⟨g,_⟩<;> first|exact g|omega
 have r:af u v< 0:=by rcases bK v u with⟨g,_⟩|⟨_,g⟩|⟨g,_⟩<;> first|exact g|omega
 have U:=m _ A;have N:=m _ r;right;rcases s1 with rfl|rfl
 rcases C with g|g
 rw[←F g] at E;grind;have:=D g;grind;rcases J with g|g
 rw[←B g] at b2;grind;have:=gv g;grind;omega
theorem Sq.calm{u:List Rat}{L:List (List Rat)}(H:Sq u L){e x y:Rat}(he:0< e)(hxy:x≤y)(ha:∀z,x≤z→z≤y→e≤ab (af u z)):chV (u::L) x=chV (u::L) y:=H.1.same he hxy ha
theorem nE{q r:List Rat}{x c:Rat}(e:af r x=c* af q x):(0< c→sgE x r=sgE x q)∧(c< 0→sgE x r= -sgE x q):=by
 constructor;intro hc;rcases bK x q with⟨a,b⟩|⟨a,b⟩|⟨a,b⟩
 rw[a];exact fX (by rw[e];exact Rat.mul_pos hc b);rw[a];exact jb (by have:=Rat.mul_pos hc (show 0< -af q x by grind);grind);rw[a];exact k6 (by rw[e,b];grind);intro hc;rcases bK x q with⟨a,b⟩|⟨a,b⟩|⟨a,b⟩
 rw[a];exact jb (by have:=Rat.mul_pos (show 0< -c by grind) b;grind);rw[a];exact fX (by have:=Rat.mul_pos (show 0< -c by grind) (show 0< -af q x by grind);grind);rw[a,k6 (by rw[e,b];grind)];rfl
theorem Ej(s t:Int):chi (-s) (-t)=chi s t:=by unfold chi;split <;> split <;> omega
theorem Sq.add{S A B a b:List Rat}{LS LA LB:List (List Rat)}{κ:Rat}(hS:Sq S LS)(hA:Sq A LA)(hB:Sq B LB)(hκ:κ≠0)(hm:∀x,af S x=κ* (af A x* af B x))(hb:∀x,af a x* af A x+af b x* af B x=1){x y:Rat}(hxy:x≤y):
    chV (S::LS) x- chV (S::LS) y=(chV (A::LA) x- chV (A::LA) y)+(chV (B::LB) x- chV (B::LB) y):=by
 have k:=kY x y;obtain⟨h1,_,_,p1,_,_,t1⟩:=hS.tiny k;obtain⟨Q,_,_,p2,_,_,t2⟩:=hA.tiny k;obtain⟨N,_,_,R,_,_,V⟩:=hB.tiny k;have nA:=lM k a;have nB:=lM k b;obtain⟨e,G,X⟩:=part 1 (d:=2* (bV (ab x+ab y) a+bV (ab x+ab y) b+1)) (by decide+kernel) (by grind);obtain⟨Y,H,J⟩:=keep A k G;obtain⟨L,O,Z⟩:=keep B k G;obtain⟨i1,j1,l1,m1⟩:=less h1 Q p1 p2;obtain⟨i2,K,l2,m2⟩:=less N Y R H;obtain⟨T,j3,l3,m3⟩:=less i1 i2 j1 K;obtain⟨h,h0,l,m⟩:=less T L j3 O
 have w:=way (f:=fun z=>chV (S::LS) z- chV (A::LA) z- chV (B::LB) z) (· = ·) (fun _=>rfl) (fun _ _ _=>Eq.trans) h0 hxy fun z w o j g3 U=>by
  have p:=iD o (show z≤y by grind);have C:=iD (show x≤w by grind) g3;have q1:=(t1 z w p C j (by grind)).1;have q2:=(t2 z w p C j (by grind)).1;have q3:=(V z w p C j (by grind)).1;have W:=C8 j U;have i:∀c:Rat,c≠0→(0< c∨c< 0):=fun c hc=>by grind
  by_cases hA':e≤ab (af A z);obtain⟨F,E⟩:=J z w p C (by grind) hA';rw[F,qW] at q2
  have:chi (sgE z S) (sgE w S)=chi (sgE z B) (sgE w B):=by
   have D:=nE (q:=B) (r:=S) (x:=z) (c:=κ* af A z) (by rw[hm];grind);have v:=nE (q:=B) (r:=S) (x:=w) (c:=κ* af A w) (by rw[hm];grind)
   have sg:(0< κ* af A z∧0< κ* af A w)∨(κ* af A z< 0∧κ* af A w< 0):=by
    rcases bK z A with⟨u,n⟩|⟨u,n⟩|⟨u,n⟩
    have s:0< af A w:=by rcases bK w A with⟨_,g⟩|⟨g,_⟩|⟨g,_⟩<;> first|exact g|omega
    rcases i κ hκ with g|g
    exact .inl ⟨Rat.mul_pos g n,Rat.mul_pos g s⟩;have:=Rat.mul_pos (show 0< -κ by grind) n;have:=Rat.mul_pos (show 0< -κ by grind) s;exact .inr ⟨by grind,by grind⟩;have s:af A w< 0:=by rcases bK w A with⟨g,_⟩|⟨_,g⟩|⟨g,_⟩<;> first|exact g|omega
    rcases i κ hκ with g|g
    have:=Rat.mul_pos g (show 0< -af A z by grind);have:=Rat.mul_pos g (show 0< -af A w by grind);exact .inr ⟨by grind,by grind⟩;have:=Rat.mul_pos (show 0< -κ by grind) (show 0< -af A z by grind);have:=Rat.mul_pos (show 0< -κ by grind) (show 0< -af A w by grind);exact .inl ⟨by grind,by grind⟩;exact absurd u E
   rcases sg with⟨o,j⟩|⟨o,j⟩
   rw[D.1 o,v.1 j];rw[D.2 o,v.2 j,Ej]
  show _=_;omega
  have t:e≤ab (af B z):=by
   by_cases t:e≤ab (af B z);exact t;have n1:=dr (fu k p a) (show ab (af A z)≤e by grind) (cW _) nA;have n2:=dr (fu k p b) (show ab (af B z)≤e by grind) (cW _) nB;have M:=gO (af a z* af A z) (af b z* af B z);rw[hb z,cJ,cJ,show ab 1=1 by decide+kernel] at M;grind
  obtain⟨F,E⟩:=Z z w p C (by grind) t;rw[F,qW] at q3
  have:chi (sgE z S) (sgE w S)=chi (sgE z A) (sgE w A):=by
   have D:=nE (q:=A) (r:=S) (x:=z) (c:=κ* af B z) (by rw[hm];grind);have v:=nE (q:=A) (r:=S) (x:=w) (c:=κ* af B w) (by rw[hm];grind)
   have sg:(0< κ* af B z∧0< κ* af B w)∨(κ* af B z< 0∧κ* af B w< 0):=by
    rcases bK z B with⟨u,n⟩|⟨u,n⟩|⟨u,n⟩
    have s:0< af B w:=by rcases bK w B with⟨_,g⟩|⟨g,_⟩|⟨g,_⟩<;> first|exact g|omega
    rcases i κ hκ with g|g
    exact .inl ⟨Rat.mul_pos g n,Rat.mul_pos g s⟩;have:=Rat.mul_pos (show 0< -κ by grind) n;have:=Rat.mul_pos (show 0< -κ by grind) s;exact .inr ⟨by grind,by grind⟩;have s:af B w< 0:=by rcases bK w B with⟨g,_⟩|⟨_,g⟩|⟨g,_⟩<;> first|exact g|omega
    rcases i κ hκ with g|g
    have:=Rat.mul_pos g (show 0< -af B z by grind);have:=Rat.mul_pos g (show 0< -af B w by grind);exact .inr ⟨by grind,by grind⟩;have:=Rat.mul_pos (show 0< -κ by grind) (show 0< -af B z by grind);have:=Rat.mul_pos (show 0< -κ by grind) (show 0< -af B w by grind);exact .inl ⟨by grind,by grind⟩;exact absurd u E
   rcases sg with⟨o,j⟩|⟨o,j⟩
   rw[D.1 o,v.1 j];rw[D.2 o,v.2 j,Ej]
  show _=_;omega
 omega
theorem qs_one:qs 1=1:=by decide
theorem yj{p:List Rat}{t:Nat}(h:bdL p t)(ht:1≤t):qs (aF p)≤t:=by
 by_cases h0:aj p=[];rw[rM h0];exact Nat.le_trans (by decide:qs 0≤1) ht;have a:=List.length_pos_iff.2 h0;exact h _ (db (List.mem_of_getElem? (cX (n:=(aj p).length- 1) (by omega))))
theorem wu{p:List Rat}{k:Rat}(hk:k≠0):(aj (aL p k)).length=(aj p).length:=by
 by_cases h:nz p;obtain⟨a,b,_⟩:=js h hk (r:=aL p k) fun x=>aR p k x;have h1:=List.length_pos_iff.2 a;have c:=List.length_pos_iff.2 h;unfold dg at b;omega;have e:aj p=[]:=Classical.byContradiction h
 have e2:aj (aL p k)=[]:=by
  have:Eqv (aL p k) []:=fun x=>by rw[aR,gL h,aM];grind
  exact eqv_trim.1 this
 rw[e,e2]
def HtF(f:Nat→Rat)(k:Rat)(h:Nat):Prop:=∀i,∃z:Int,f i* k=(z:Rat)∧bl z.natAbs≤h
def Ht(p:List Rat)(h:Nat):Prop:=∃k:Rat,k≠0∧HtF (coP p) k h
theorem HtF.mono{f:Nat→Rat}{k:Rat}{h h':Nat}(H:HtF f k h)(hh:h≤h'):HtF f k h':=fun i=>by
 obtain⟨z,b,a⟩:=H i;grind
theorem Ht.mono{p:List Rat}{h h':Nat}(H:Ht p h)(hh:h≤h'):Ht p h':=by
 obtain⟨k,a,H⟩:=H;exact⟨k,a,H.mono hh⟩
theorem Ht.scale{p r:List Rat}{h:Nat}{c:Rat}(H:Ht p h)(hc:c≠0)(e:∀i,coP r i=coP p i* c):Ht r h:=by
 obtain⟨k,d,H⟩:=H;refine⟨k/ c,fun e=>?_,fun i=>?_⟩;have:k/ c* c=k:=Rat.div_mul_cancel hc;grind;obtain⟨z,b,a⟩:=H i;grind
theorem Ht.trim{p:List Rat}{h:Nat}(H:Ht p h):Ht (aj p) h:=H.scale (c:=1) (by grind) fun i=>by rw[b9];grind
theorem Ht.zero{p:List Rat}(e:∀i,coP p i=0)(h:Nat):Ht p h:=⟨1,by grind,fun i=>⟨0,by grind,Nat.zero_le _⟩⟩
theorem A1(o:List Rat)(a:Rat)(q:List Rat)(i n:Nat):∀k,coP (f9 o a q i k) n=if i≤n∧n< i+k∧n< o.length then coP o n- a* coP q (n- i) else coP o n
 |0=>by rw[f9,if_neg (by omega)]
 |k+1=>by
  rw[f9,n3,A1 o a q i n k,hZ];by_cases h:n=i+k∧i+k< o.length;rw[if_pos h,if_pos (by omega),mK o a q i k (i+k) (by omega),h.1,show i+k- i=k by omega];grind
theorem Fs{x y:Int}{k:Nat}(hx:bl x.natAbs≤k)(hy:bl y.natAbs≤k):bl (x- y).natAbs≤k+1:=by
 exact ob hx (by grind)
theorem yO{q:List Rat}{lead l:Rat}{g:Nat}(hl:coP q (q.length- 1)=lead)(h0:lead≠0)(l0:l≠0)(hq:HtF (coP q) l g):∀(c:Nat) (u o:List Rat) (k:Rat) (H:Nat),k≠0→HtF (coP o) k H→HtF (coP u) (k/ l) H→
    ∃k',k'≠0∧HtF (coP (jq q lead c u o).1) (k'/ l) (H+c* (g+1))∧HtF (coP (jq q lead c u o).2) k' (H+c* (g+1))
 |0,u,o,k,H,k0,ho,hu=>⟨k,k0,by rw[Nat.zero_mul];exact hu,by rw[Nat.zero_mul];exact ho⟩
 |n+1,u,o,k,H,k0,ho,hu=>by
  obtain⟨zl,b,a⟩:=hq (q.length- 1);rw[hl] at b
  have y:(zl:Rat)≠0:=fun e=>by
   grind
  obtain⟨v,f,p⟩:=ho (n+q.length- 1);generalize m:coP o (n+q.length- 1) / lead=t;have ht:t* lead=coP o (n+q.length- 1):=by grind
  have r:k/ l* l=k:=Rat.div_mul_cancel l0;have s:k* (zl:Rat) / l=k/ l* zl:=by grind
  rw[jq]
  obtain⟨k',B,C,k3⟩:=yO hl h0 l0 hq n (u.set n (coP o (n+q.length- 1) / lead)) (if coP o (n+q.length- 1) / lead=0 then o else f9 o (coP o (n+q.length- 1) / lead) q n q.length) (k* zl) (H+(g+1)) (fun e=>by
   grind) (fun i=>by
   rw[m]
   have d:∃z:Int,coP o i* (k* (zl:Rat))=(z:Rat)∧bl z.natAbs≤H+(g+1):=by
    obtain⟨z,j,h⟩:=ho i;refine⟨z* zl,by rw[Rat.intCast_mul,←j];grind,?_⟩;have:=dB h a;omega
   split;exact d;rw[A1];split;obtain⟨z,j,h⟩:=ho i;obtain⟨w,A,x⟩:=hq (i- n);refine⟨z* zl- v* w,?_,?_⟩;rw[Rat.intCast_sub,Rat.intCast_mul,Rat.intCast_mul,←j,←f,←A,←b,←ht];grind;have:=Fs (dB h a) (dB p x);omega;grind) (fun i=>by
   rw[m,tO,s];split;refine⟨v,?_,by omega⟩;rw[←b,←f,←ht];have:t* (k/ l* (lead* l))=t* lead* (k/ l* l):=by grind
   rw[this,r];obtain⟨z,j,h⟩:=hu i;refine⟨z* zl,by rw[Rat.intCast_mul,←j];grind,?_⟩;have:=dB h a;omega)
  grind
theorem Ea{p q:List Rat}{h g:Nat}(hp:Ht p h)(hq:Ht q g)(h0:nz q):Ht (ca p q).1 (h+((aj p).length+1- (aj q).length) * (g+1))∧Ht (ca p q).2 (h+((aj p).length+1- (aj q).length) * (g+1)):=by
 obtain⟨k,f,hp⟩:=hp.trim;obtain⟨l,j,hq⟩:=hq.trim;have m:=List.length_pos_iff.2 h0;have hg:=cX (l:=q) (n:=(aj q).length- 1) (by omega);have hc:coP (aj q) ((aj q).length- 1)=aF q:=by unfold coP;grind
 obtain⟨b,c,d,k3⟩:=yO hc (cY h0) j hq ((aj p).length+1- (aj q).length) (List.replicate ((aj p).length+1- (aj q).length) 0) (aj p) k h f hp fun i=>by
  refine⟨0,?_,Nat.zero_le _⟩
  have:coP (List.replicate ((aj p).length+1- (aj q).length) (0:Rat)) i=0:=by
   unfold coP;grind
  grind
 have a:b/ l≠0:=fun e=>by grind
 exact⟨(show Ht _ _ from⟨b/ l,a,d⟩).trim,(show Ht _ _ from⟨b,c,k3⟩).trim⟩
theorem Ht.of{p:List Rat}{s:Nat}(h:bdL p s):Ht p (s+1+p.length* s):=by
 have b:iy p 1≠0:=qS _ (by decide);have hb:=yR p 1 h;have c:=(lB p 1).2;rw[jD] at hb;refine⟨nQ (iy p 1),fun e=>b (nQ_zero.1 e),fun i=>?_⟩;by_cases hi:i< p.length;have a:=List.mem_of_getElem? (cG hi);have h1:=qj (coP p i) _ (c _ a);have d:=ym (coP p i) (iy p 1);have f:=h _ a;rw[mq] at h1;by_cases hn:coP p i* nQ (iy p 1)< 0;refine⟨-(iF (coP p i) (iy p 1):Int),by grind,?_⟩;rw[Int.natAbs_neg,Int.natAbs_natCast];omega;rw[if_neg hn] at h1;exact⟨(iF (coP p i) (iy p 1):Int),h1,by grind⟩;refine⟨0,?_,Nat.zero_le _⟩;rw[d8 (by omega),Rat.zero_mul];rfl
theorem Ht.derive{p:List Rat}{h:Nat}(H:Ht p h):Ht (aN p) (h+bl p.length):=by
 obtain⟨k,b,H⟩:=H;refine⟨k,b,fun i=>?_⟩;rw[ed];by_cases hi:i+1< p.length;obtain⟨z,c,a⟩:=H (i+1);refine⟨z* ((i+1:Nat):Int),by grind,?_⟩;have:=dB a (show bl (((i+1:Nat):Int)).natAbs≤bl p.length by exact dK (by omega));omega;refine⟨0,?_,Nat.zero_le _⟩;rw[d8 (by omega),Rat.zero_mul,Rat.zero_mul];rfl
theorem Ht.quot{p:List Rat}{h:Nat}(H:Ht p h)(i j:Nat)(hj:coP p j≠0)(h1:1≤h):qs (coP p i/ coP p j)≤h:=by
 obtain⟨k,m,H⟩:=H;obtain⟨z,l,d⟩:=H i;obtain⟨w,f,b⟩:=H j
 have g:w≠0:=fun e=>by
  rw[e] at f;grind
 have e:coP p i/ coP p j=(z:Rat) / (w:Rat):=by grind
 have a:0< w.natAbs:=by omega
 by_cases hw:0< w
 have e2:(z:Rat) / (w:Rat)=mkRat z w.natAbs:=by
  rw[mc];show Rat.divInt (z* ((1:Nat):Int)) (((1:Nat):Int) * w)=_;rw[←Rat.divInt_ofNat];grind
 rw[e,e2];exact gb a d b
 have e2:(z:Rat) / (w:Rat)=mkRat (-z) w.natAbs:=by
  have c:(z:Rat) / (w:Rat)=((-z:Int):Rat) / ((-w:Int):Rat):=by grind
  rw[c,mc];show Rat.divInt (-z* ((1:Nat):Int)) (((1:Nat):Int) * -w)=_;rw[←Rat.divInt_ofNat];grind
 rw[e,e2];exact gb a (by grind) b
theorem Ht.monic{p:List Rat}{h:Nat}(H:Ht p h)(h1:1≤h):bdL (cC p) h∧Ht (cC p) h:=by
 by_cases h0:nz p;have b:cC p=aL p (1/ aF p):=by unfold cC;rw[if_neg h0]
 have c:1/ aF p≠0:=fun e=>by have:=Rat.div_mul_cancel (a:=1) (tF h0);grind
 refine⟨iX fun i=>?_,H.scale c fun i=>by rw[b,cO]⟩
 have e:coP (cC p) i=coP p i/ coP p (dg p):=by
  rw[b,cO,(ef h0).2,Rat.div_def,Rat.div_def,Rat.one_mul]
 rw[e];exact H.quot i _ (ef h0).1.1 h1;have e:cC p=[]:=by unfold cC;rw[if_pos (Decidable.byContradiction h0)]
 rw[e];exact⟨fun q d=>(by grind),.zero (fun i=>rfl) _⟩
theorem AI(D d:Nat):∀(l:List Rat) (n:Nat),d∣n→(∀c∈l,d∣iF c D)→d∣iM D l n
 |[],_,h,_=>h
 |c::l,n,h,hc=>AI D d l _ (Nat.dvd_gcd h (hc c (List.mem_cons_self ..))) fun x a=>hc x (List.mem_cons_of_mem _ a)
theorem Ht.prim{p:List Rat}{h:Nat}(H:Ht p h)(h0:nz p)(h1:1≤h):bdL (bO p) h∧Ht (bO p) h:=by
 obtain⟨c,U,hc⟩:=nH h0;have o:∀i,coP (bO p) i=coP p i* (nQ (iy (aj p) 1) / nQ (iM (iy (aj p) 1) (aj p) 0)):=fun i=>by unfold bO;rw[cO,b9]
 have F:iy (aj p) 1≠0:=qS _ (by decide);have T:=List.length_pos_iff.2 h0;have hg:=cX (l:=p) (n:=(aj p).length- 1) (by omega);have G:=List.mem_of_getElem? hg;have b:=(lB (aj p) 1).2;have g:=(qi (iy (aj p) 1) (aj p) 0).2;have A:=AI (iy (aj p) 1);generalize R:iy (aj p) 1=D at *
 have hN:iM D (aj p) 0≠0:=fun e=>by
  have:=g _ G;rw[e] at this;exact yl (b _ G) F (cY h0) (Nat.eq_zero_of_zero_dvd this)
 have Q:nQ D≠0:=fun e=>F (nQ_zero.1 e);have L:nQ (iM D (aj p) 0)≠0:=fun e=>hN (nQ_zero.1 e)
 refine⟨iX fun i=>?_,H.scale (c:=nQ D/ nQ (iM D (aj p) 0)) (fun e=>by
  grind) o⟩
 obtain⟨k,W,H⟩:=H
 -- k=D* (m/ n)
 generalize V:k/ nQ D=r;have S:k=r* nQ D:=by grind
 have r0:r≠0:=fun e=>by grind
 have M:r* (nQ r.den)=(r.num:Rat):=by
  have e:(r.num:Rat) / nQ r.den=r:=by
   rw[mc];simp
  grind
 have co:∀j,j< (aj p).length→r.den∣iF (coP p j) D∧∃z:Int,(iF (coP p j) D* r.num.natAbs=z.natAbs* r.den∧bl z.natAbs≤h):=fun j v=>by
  obtain⟨z,K,x⟩:=H j;have u:=List.mem_of_getElem? (cG v);rw[b9] at u;have f:=qj (coP p j) D (b _ u)
  have w:iF (coP p j) D* r.num.natAbs=z.natAbs* r.den:=by
   have b1:coP p j* nQ D* (r.num:Rat)=(z:Rat) * nQ r.den:=by rw[←K,S,←M];grind
   have b2:∃s:Int,coP p j* nQ D=(s:Rat)∧s.natAbs=iF (coP p j) D:=by
    rw[mq] at f;by_cases hn:coP p j* nQ D< 0;rw[if_pos hn] at f;exact⟨-(iF (coP p j) D:Int),by rw[Rat.intCast_neg];grind,by rw[Int.natAbs_neg,Int.natAbs_natCast]⟩;rw[if_neg hn] at f;exact⟨(iF (coP p j) D:Int),f,Int.natAbs_natCast _⟩
   obtain⟨s,s1,s2⟩:=b2;rw[s1] at b1
   have N:s* r.num=z* (r.den:Int):=by
    have:((s* r.num:Int):Rat)=((z* (r.den:Int):Int):Rat):=by rw[Rat.intCast_mul,Rat.intCast_mul];exact b1
    exact_mod_cast this
   have J:=congrArg Int.natAbs N;rw[Int.natAbs_mul,Int.natAbs_mul,s2,Int.natAbs_natCast] at J;exact J
  refine⟨?_,z,w,x⟩;have E:Nat.Coprime r.den r.num.natAbs:=Nat.coprime_comm.1 r.reduced;exact E.dvd_of_dvd_mul_right ⟨z.natAbs,by rw[w,Nat.mul_comm]⟩
 rw[o];by_cases hi:i< (aj p).length;obtain⟨z,w,x⟩:=(co i hi).2;have d:=List.mem_of_getElem? (cG hi);rw[b9] at d
 have y:r.den∣iM D (aj p) 0:=A _ _ _ (Nat.dvd_zero _) fun c B=>by
  obtain⟨j,v⟩:=List.mem_iff_getElem?.1 B
  have q:j< (aj p).length:=by
   by_cases h:j< (aj p).length;exact h;rw[List.getElem?_eq_none (by omega)] at v;cases v
  have e:=cG q;rw[v,b9] at e;cases e;exact(co j q).1
 have C:=g _ d;have f:=qj (coP p i) D (b _ d)
 have a:iF (coP p i) D/ iM D (aj p) 0≤z.natAbs:=by
  have q1:r.den≤iM D (aj p) 0:=Nat.le_of_dvd (by omega) y
  have q2:0< r.num.natAbs:=by
   have:r.num≠0:=fun e=>r0 (Rat.num_eq_zero.1 e);omega
  refine Nat.div_le_of_le_mul ?_
  calc iF (coP p i) D≤iF (coP p i) D* r.num.natAbs:=Nat.le_mul_of_pos_right _ q2
   _=z.natAbs* r.den:=w
   _≤iM D (aj p) 0* z.natAbs:=by rw[Nat.mul_comm];exact Nat.mul_le_mul_right _ q1
 have hb:bl (iF (coP p i) D/ iM D (aj p) 0)≤h:=Nat.le_trans (dK a) x
 have e1:eF (coP p i* (nQ D/ nQ (iM D (aj p) 0)))=nQ (iF (coP p i) D/ iM D (aj p) 0):=by
  have e2:coP p i* (nQ D/ nQ (iM D (aj p) 0))=coP p i* nQ D/ nQ (iM D (aj p) 0):=by rw[Rat.div_def,Rat.div_def];grind
  have O:nQ (iF (coP p i) D) / nQ (iM D (aj p) 0)=nQ (iF (coP p i) D/ iM D (aj p) 0):=by
   rw[x9 _ _ hN,wH _ _ hN C]
  have t:(0:Rat)< nQ (iM D (aj p) 0):=by
   rw[←num_pos];show 0< ((iM D (aj p) 0:Nat):Int);omega
  rw[e2,←O,←f,tU,tU,Rat.div_def,Rat.div_def,cJ];congr 1;have:(0:Rat)< (nQ (iM D (aj p) 0))⁻¹:=Rat.inv_pos.2 t;unfold ab;rw[if_neg (by grind)]
 rw[←BU,e1];exact mA hb h1;have:coP p i=0:=by rw[←b9];exact d8 (by omega)
 rw[this,Rat.zero_mul];exact Nat.le_trans (by decide:qs 0≤1) h1
def hG:Nat→Nat→Nat→Nat→Nat→Nat→Bool
 |0,_,_,_,_,_=>false
 |f+1,m,n,s,t,X=>if n=0 then decide (s≤X) else
  decide (2^ (m+1- n) * (s+2* t+1)≤137438953472) && (List.range n).all fun k=>hG f n k t (s+(m+1- n) * (t+1)) X
theorem yo:∀f m n s t X (p q:List Rat),hG f m n s t X=true→(aj p).length=m→(aj q).length=n→bdL p s→bdL q t→Ht p s→Ht q t→1≤s→1≤t→p.length≤1000→q.length≤1000→X≤137438953472→
    ∃g,pf f p q=some g∧g.length≤1000∧Ht g X∧bdL g X
 |0,_,_,_,_,_,_,_,h,_,_,_,_,_,_,_,_,_,_,_=>by cases h
 |f+1,m,n,s,t,X,p,q,h,hm,hn,hp,hq,kp,kq,hs,ht,hp1,hq1,hX=>by
  rw[hG] at h;rw[pf];by_cases h0:n=0;rw[if_pos h0] at h;have d:=of_decide_eq_true h;have e:aj q=[]:=List.length_eq_zero_iff.1 (by omega);rw[if_pos e,if_pos (eH hp (by omega))];obtain⟨a,b⟩:=kp.monic hs;exact⟨_,rfl,Nat.le_trans (pb p) hp1,b.mono d,fun x y=>Nat.le_trans (a x y) d⟩;rw[if_neg h0] at h;simp only[Bool.and_eq_true,decide_eq_true_eq,List.all_eq_true,List.mem_range] at h;obtain⟨z,w⟩:=h;have c:aj q≠[]:=fun e=>by grind
  have r:=dw hp hs;have u:=dw hq ht;have i:2^ (m+1- n) * (mxL p+2* mxL q+1)≤2^ (m+1- n) * (s+2* t+1):=Nat.mul_le_mul_left _ (by omega);rw[if_neg c,if_pos (show kG p q from⟨by grind,by omega,by omega⟩)];have o:=(Ea kp kq c).2;rw[hm,hn] at o;obtain⟨b1,b2⟩:=o.monic (by omega);have l:=(qR (p:=p) (q:=q)).2;have v:=pb (ca p q).2;have j:(aj (ca p q).2).length< n:=by rw[←hn];exact(nY p q c).2
  have k:(aj (cC (ca p q).2)).length=(aj (ca p q).2).length:=by
   by_cases hz:aj (ca p q).2=[];unfold cC;rw[if_pos hz,hz];rfl;unfold cC;rw[if_neg hz];exact wu fun e=>by have:=Rat.div_mul_cancel (a:=1) (cY hz);grind
  exact yo f n _ t _ X q _ (w _ j) hn k hq b1 kq b2 ht (by omega) hq1 (by omega) hX
def cB:Nat→Nat→Nat→Nat→Nat→Nat→Nat→Bool
 |0,_,_,_,_,_,_=>false
 |f+1,m,n,s,t,b,T=>if n=0 then true else
  decide (t≤T) && decide ((n+4) * b≤34359738368) && decide (2^ (m+1- n) * (s+2* t+1)≤137438953472) &&
   (List.range n).all fun k=>cB f n k t (s+(m+1- n) * (t+1)) (2^ (m+1- n) * (s+2* t+1)) T
theorem xh:∀k f m n s t b T (last next:List Rat) (acc:List (List Rat)),cB k m n s t b T=true→(aj last).length=m→(aj next).length=n→next.length=n→bdL last s→Ht last s→Ht next t→bdL next b→1≤s→1≤t→1≤b→last.length≤1000→next.length≤1000→
    ∃out,nk f k last next acc=some out∧out.length≤acc.length+n∧∀q∈out,q∈acc∨(nz q∧q.length≤n∧bdL q T)
 |0,_,_,_,_,_,_,_,_,_,_,h,_,_,_,_,_,_,_,_,_,_,_,_=>by cases h
 |k+1,f,m,n,s,t,b,T,last,next,acc,h,hm,hn,hnl,hl,kl,kn,hnb,hs,ht,hb,hl1,hn1=>by
  rw[cB] at h;rw[nk];by_cases h0:n=0
  ·grind
  rw[if_neg h0] at h;simp only[Bool.and_eq_true,decide_eq_true_eq,List.all_eq_true,List.mem_range] at h;obtain⟨⟨⟨D,N⟩,J⟩,G⟩:=h;have g:aj next≠[]:=fun e=>by grind
  obtain⟨p1,p2⟩:=kn.prim g ht;obtain⟨c,L,hc⟩:=nH g;obtain⟨d1,d2,_⟩:=js g (show c≠0 by grind) hc
  have d:(aj (bO next)).length=n:=by
   have O:=List.length_pos_iff.2 d1;have K:=List.length_pos_iff.2 g;unfold dg at d2;omega
  have w:=dw hnb hb;have B:=dw hl hs;have A:=dw p1 ht
  have F:(bO next).length=n:=by
   unfold bO;unfold bO at d;rw[←d];unfold aL;rw[cn]
  have p:2^ (m+1- n) * (mxL last+2* mxL (bO next)+1)≤2^ (m+1- n) * (s+2* t+1):=Nat.mul_le_mul_left _ (by omega);have o:(n+4) * mxL next≤(n+4) * b:=Nat.mul_le_mul_left _ w
  rw[if_neg g,if_pos (show uL next∧kG last (bO next)∧aj (bO next)≠[] from⟨⟨by grind,by omega⟩,⟨by grind,by omega,by omega⟩,d1⟩)];have y:=(Ea kl p2 d1).2;rw[hm,d] at y;have r:=(Eb hl p1 hs ht d1 (by rw[hm,d];exact Nat.le_refl _)).2;have j:1≤2^ (m+1- n) * (s+2* t+1):=Nat.mul_pos (Nat.two_pow_pos _) (by omega);have l:(-1:Rat)≠0:=by decide+kernel
  have v:(aj (aL (ca last (bO next)).2 (-1))).length< n:=by rw[wu l,←d];exact(nY last _ d1).2
  have u:(aL (ca last (bO next)).2 (-1)).length=(aj (aL (ca last (bO next)).2 (-1))).length:=by unfold aL;rw[cn]
  obtain⟨out,o1,o2,C⟩:=xh k f n _ t _ _ T (bO next) (aL (ca last (bO next)).2 (-1)) (acc++[bO next]) (G _ v) d rfl u p1 p2 (y.scale l fun i=>cO _ _ i)
   (iX fun i=>by
    rw[cO,show coP (ca last (bO next)).2 i* -1= -coP (ca last (bO next)).2 i by grind,fj];exact fy r j i) ht (by omega) j (by omega) (by omega)
  refine⟨out,o1,?_,fun q z=>?_⟩;rw[List.length_append,List.length_singleton] at o2;omega;rcases C q z with h|⟨a,H,M⟩
  rcases List.mem_append.1 h with h|h
  exact .inl h;rw[List.mem_singleton.1 h];exact .inr ⟨d1,by omega,fun x E=>Nat.le_trans (p1 x E) D⟩;grind
theorem oH(p:List Rat)(k:Rat):aj (aL p k)=aL p k:=cn _
theorem oI(p:List Rat):aj (cC p)=cC p:=by
 unfold cC;split;rfl;exact cn _
theorem nZ{p:List Rat}(h:nz p):(aN p).length< (aj p).length:=by
 have b:=List.length_pos_iff.2 h
 have e:aN p=aN (aj p):=by
  have h1:aj (aN p)=aN p:=cn _;have a:aj (aN (aj p))=aN (aj p):=cn _;rw[←h1,←a];exact jV fun i=>by rw[ed,ed,b9]
 have:=kL (aj p);grind

theorem HY{lead:Rat}{s:Nat}(hl:qs lead≤s):∀(l:List Rat) (m:Rat),bdL l s→qs m≤2* s+1→qs (boL lead l m)≤2* s+1
 |[],m,_,h=>h
 |c::l,m,hb,h=>by
  refine HY hl l _ (fun q b=>hb q (List.mem_cons_of_mem _ b)) (yf (fun x a=>?_) (Nat.le_add_left 1 _));have h1:=hb c (List.mem_cons_self ..);have d:=ip c lead;rcases List.mem_cons.1 a with rfl|a
  exact h;rw[List.mem_singleton.1 a,BU];omega
theorem HW{p:List Rat}{s:Nat}(h:bdL p s)(hs:1≤s):qs (cf p)≤2* s+3:=by
 have h1:=HY (yj h hs) ((aj p).take ((aj p).length- 1)) 0 (fun q a=>h q (db (List.mem_of_mem_take a))) (Nat.le_trans (by decide:qs 0≤1) (Nat.le_add_left 1 _));have b:=fQ (boL (aF p) ((aj p).take ((aj p).length- 1)) 0) 1;have c:=qs_one;unfold cf;omega
def Far(p:List Rat)(x y:Rat):Prop:=∃e:Rat,0< e∧∀z,x≤z→z≤y→e≤ab (af p z)
theorem Far.sub{p:List Rat}{x y x' y':Rat}(h:Far p x y)(hx:x≤x')(hy:y'≤y):Far p x' y':=by
 obtain⟨e,c,hf⟩:=h;exact⟨e,c,fun z a b=>hf z (by grind) (by grind)⟩
theorem C9{x:Rat}(h:x≠0):0< ab x:=by unfold ab;grind
theorem kN:ab 0=0:=by decide+kernel
theorem sgE_ne{p:List Rat}{x:Rat}:sgE x p≠0↔af p x≠0:=by
 rcases bK x p with⟨a,b⟩|⟨a,b⟩|⟨a,b⟩
 exact⟨fun _=>by grind,fun _=>by omega⟩;exact⟨fun _=>by grind,fun _=>by omega⟩;grind
theorem Far.ne{p:List Rat}{x y z:Rat}(h:Far p x y)(h1:x≤z)(h2:z≤y):af p z≠0:=fun g=>by
 obtain⟨e,a,hf⟩:=h;have:=hf z h1 h2;rw[g,kN] at this;grind
theorem Far.sg{p:List Rat}{x y z:Rat}(h:Far p x y)(h1:x≤z)(h2:z≤y):sgE z p=sgE x p:=by
 obtain⟨e,i,hf⟩:=h;obtain⟨h,g,j⟩:=keep p (kY x y) i
 have:=way (f:=fun z=>sgE z p) (· = ·) (fun _=>rfl) (fun _ _ _=>Eq.trans) g h1 fun u v a b c d=>
  (j u v (iD a (by grind)) (iD (by grind) (by grind)) (C8 b d) (hf u a (by grind))).1.symm
 grind
theorem Far.dv{d p:List Rat}{x y:Rat}(h:Far p x y)(hd:Dv d p):Far d x y:=by
 obtain⟨e,k,hf⟩:=h;obtain⟨w,i⟩:=hd;have f:=kY x y;have l:=lM f w;obtain⟨c,j,n⟩:=part e (d:=bV (ab x+ab y) w+1) k (by grind);refine⟨c,j,fun z a b=>?_⟩;by_cases g:c≤ab (af d z);exact g;have h1:=hf z a b;rw[i,cJ] at h1;have m:=dr (fu f (iD a b) w) (show ab (af d z)≤c by grind) (cW _) l;grind
theorem Far.mul{p q r:List Rat}{x y:Rat}(hp:Far p x y)(hq:Far q x y)(h:∀z,af r z=af p z* af q z):Far r x y:=by
 obtain⟨e,c,hf⟩:=hp;obtain⟨g,hg,hG⟩:=hq;refine⟨e* g,Rat.mul_pos c hg,fun z a b=>?_⟩;rw[h,cJ];exact dr (hf z a b) (hG z a b) (by grind) (cW _)
theorem Far.const{p:List Rat}{c x y:Rat}(hc:c≠0)(h:∀z,af p z=c):Far p x y:=⟨ab c,C9 hc,fun z _ _=>by grind⟩
theorem Far.k{p r:List Rat}{k x y:Rat}(hk:k≠0)(h:∀z,af r z=af p z* k)(hp:Far p x y):Far r x y:=
 hp.mul (Far.const (p:=[k]) hk fun z=>by rw[aE,aM];grind) fun z=>by rw[aE,aM];grind
def SF(p s:List Rat):Prop:=∃g t a b:List Rat,nz g∧(∀x,af p x=af s x* af g x)∧(∀x,dvE p x=af t x* af g x)∧∀x,af g x=af a x* af p x+af b x* dvE p x
theorem SF.ex{p:List Rat}(hp:nz p):∃s,SF p s:=by
 obtain⟨g,a,b,c,⟨s,hs⟩,⟨t,ht⟩,hg⟩:=bez _ p (aN p) rfl (.inl hp);exact⟨s,g,t,a,b,c,hs,fun x=>by rw[←bR,ht],fun x=>by rw[hg,bR]⟩
theorem Ek{g u v:List Rat}(hg:nz g)(h:∀x,af g x* af u x=af g x* af v x)(x:Rat):af u x=af v x:=by
 have hs:∀x,af g x* af (ci u v) x=0:=fun x=>by rw[dF];grind
 have n:¬nz (ci u v):=fun e=>by
  have:=(dg_mul' (r:=[]) hg e fun x=>by rw[hs,aM]).1;exact this rfl
 have:=gL n x;rw[dF] at this;grind
theorem AK{p s g:List Rat}(h:∀x,af p x=af s x* af g x)(x:Rat):dvE p x=dvE s x* af g x+af s x* dvE g x:=by
 rw[←qO];exact qP (fun x=>by rw[h,ba]) x
theorem SF.far:∀(n:Nat) (p s:List Rat),dg p≤n→nz p→SF p s→∀x y,Far s x y→Far p x y
 |n,p,s,hn,hp,⟨g,t,a,b,g0,h1,h2,h3⟩,x,y,hf=>by
  have u:Dv g p:=⟨s,h1⟩;by_cases hd:dg g=0;obtain⟨c,v,hc⟩:=o9 g0 hd;exact hf.mul (Far.const v hc) h1;have f:dg p≠0:=fun e=>by have:=u.dg hp;omega
  obtain⟨q,D⟩:=sj f hp;have gl:dg g≤dg (aN p):=Dv.dg (p:=aN p) ⟨t,fun x=>by rw[bR,h2]⟩ q;cases n with
  |zero=>omega
  |succ n=>
  obtain⟨d,j⟩:=SF.ex g0;have h:=j;obtain⟨i,e,l,b1,k,r,z,k3⟩:=h
  have one:∀x,af (fO (aJ l d) (aJ b1 e)) x=af [1] x:=Ek k fun x=>by
   have:=k3 x;rw[r,z] at this;rw[ey,ba,ba,aE,aM];grind
  have two:∀x,af (aJ s e) x=af (aJ (ci t (aN s)) d) x:=Ek k fun x=>by
   have C:=h2 x;have B:=AK h1 x;have E:af g x* (af s x* af e x- (af t x- dvE s x) * af d x)=0:=by grind
   have A:af i x* (af s x* af e x)=af i x* ((af t x- dvE s x) * af d x):=by grind
   rw[ba,ba,dF,bR];grind
  have m:Dv d s:=⟨fO (aJ l s) (aJ b1 (ci t (aN s))),fun x=>by
   have o:=one x;have w:=two x;rw[ey,ba,ba,aE,aM] at o;rw[ba,ba] at w;rw[ey,ba,ba];grind⟩
  exact hf.mul (SF.far n g d (by omega) g0 j x y (hf.dv m)) h1
theorem jP{f:Nat}{p:List Rat}{c:Cnt}(h:fZ f p=some c)(hp:nz p):SF p c.p∧Dv c.p p∧∃(L:List (List Rat)) (k:Rat),c.ch=bO c.p::L∧0< k∧(∀x,af (bO c.p) x=af c.p x* k)∧Sq (bO c.p) L:=by
 obtain⟨B,i,o,_,_,_⟩:=iB h hp;have C:=h;have l:=rt i hp
 have r:SF p c.p∧Dv c.p p:=by
  unfold vW at i;split at i;cases hg:pf f p (aN p) with
  |none=>grind
  |some g=>
   rw[hg,Option.bind_some] at i;split at i;have s:=Option.some.inj i;obtain⟨y,N,⟨t,ht⟩,a,b,g3⟩:=m5 f _ _ _ hg (.inl hp);obtain⟨m1,m2⟩:=kH p y;obtain⟨u,O⟩:=N;have E:=ye (u:=u) (v:=[]) y (fun x=>by rw[O x,aM];grind) (fun e=>absurd rfl e)
   have hs:∀x,af p x=af (ca p g).1 x* af g x:=fun x=>by
    have:=m1 x;rw[E x,aM] at this;grind
   obtain⟨k,n,q,m⟩:=tC (ca p g).1;rw[s] at m;have e1:∀x,af p x=af c.p x* af (aL g n) x:=fun x=>by rw[hs,m,aR];grind
   have w:n≠0:=fun e=>by grind
   refine⟨⟨aL g n,aL t k,aL a n,aL b n,(js y w (aR g n)).1,e1,fun x=>?_,fun x=>?_⟩,aL g n,fun x=>by grind⟩;rw[aR,aR,←bR,ht];grind;rw[aR,aR,aR,g3,bR];grind;grind
  grind
 refine⟨r.1,r.2,?_⟩;unfold lR at o;split at o;obtain⟨L,e,G⟩:=nj _ _ _ _ _ _ o;obtain⟨k,D,q⟩:=nH B;have j:k≠0:=by grind
 have z:nz (bO c.p):=(js B j q).1;have K:k* (1/ k)=1:=by grind
 have A:0< 1/ k:=by
  obtain⟨m,m0,m1⟩:=part 1 (d:=k) (by decide+kernel) D;rw[←m1,Rat.mul_div_cancel j];exact m0
 obtain⟨c1,F⟩:=G.ch z fun d d0 d1 d2=>l.2 d d0 (d1.scale (k:=1/ k) fun x=>by rw[q];generalize 1/ k=m at *;grind) d2;refine⟨L,k,e,D,q,c1,fun v M hv=>?_⟩;obtain⟨H,J,hv⟩:=F v M hv;refine⟨H* (1/ k),Rat.mul_pos J A,fun x=>?_⟩;rw[hv,bR,w9 q x];generalize 1/ k=m at *
 grind;grind
section
variable {f:Nat}{p:List Rat}{c:Cnt}(h:fZ f p=some c)(hp:nz p)
include h hp
theorem gt{x y:Rat}(hxy:x≤y):bU c x≤bU c y:=(iB h hp).2.2.2.2.2 x y hxy
theorem eQ{w x:Rat}(hwx:w< x):bU c w≤aZ c x:=by
 obtain⟨_,_,L,k,e,b,d,a⟩:=jP h hp;unfold aZ;by_cases g:af c.p x=0;have:=a.root hwx (by grind);unfold bU;rw[e];unfold chV at this;omega;rw[if_neg g];exact gt h hp (by grind)
theorem e9(x:Rat):aZ c x≤bU c x∧bU c x≤aZ c x+1:=by unfold aZ;grind
theorem gD{x y:Rat}(hxy:x≤y):bU c y=aZ c x↔Far p x y:=by
 obtain⟨f,j,L,k,e,u,n,l⟩:=jP h hp;have q:k≠0:=by grind
 have t:=gt h hp hxy;have d:∀z,bU c z=c.far- chV (bO c.p::L) z:=fun z=>by unfold bU chV;rw[e]
 constructor;intro g;have m:af c.p x≠0:=fun r=>by unfold aZ at g;grind
 unfold aZ at g;rw[if_neg m,d,d] at g;obtain⟨ε,ε0,hε⟩:=l.away hxy (fun r=>m (by grind)) (by omega);have i:Far (bO c.p) x y:=⟨ε,ε0,fun z a b=>(hε z a b).1⟩;have o:Dv c.p (bO c.p):=⟨[k],fun x=>by rw[aE,aM];grind⟩;exact SF.far _ p c.p (Nat.le_refl _) hp f x y (i.dv o);intro i;have hc:=i.dv j;have s:Far (bO c.p) x y:=hc.k q n;obtain⟨ε,ε0,hε⟩:=s;have:=l.calm ε0 hxy hε;unfold aZ;rw[if_neg (hc.ne (by grind) hxy),d,d];omega
end
def lag(v:List Rat):Nat→Rat
 |0=>0
 |m+1=>coP v m
theorem HT(v:List Rat)(c:Rat)(n:Nat):coP (aJ v [c,1]) n=coP v n* c+lag v n:=by
 have e:aj (aJ v [c,1])=aj (aJ [c,1] v):=jo fun x=>by rw[ba,ba];grind
 rw[trim_iff.1 e n,n4];show coP (ku (eU v c) (0::ku (eU v 1) (0::[]))) n=_;rw[iC,gi];cases n with
 |zero=>rw[dx];rfl
 |succ m=>
  rw[dj,iC,gi];have:coP [(0:Rat)] m=0:=by cases m <;> rfl
  rw[this];show _+(coP v m* 1+0)=_+coP v m;grind
theorem oL(v:List Rat)(c:Rat):(aJ v [c,1]).length≤v.length+1:=by
 by_cases h:v=[];subst h;unfold aJ;simp;have:=EI v [c,1] h;simpa using this
theorem jf(p:List Rat):(ax p).length≤p.length+1:=by
 have:=bJ (aW (p.length+1) fun i=>if i=0 then 0 else coP p (i- 1) / ((i:Nat):Int));simp at this;unfold ax;omega
theorem mH(p q:List Rat):(ci p q).length≤max p.length q.length:=by
 have h1:=ki p (aL q (-1));have a:=dk q (-1);unfold ci;omega
theorem vL{l:List Rat}{a b:Nat}(h:bdL l a)(hab:a≤b):bdL l b:=fun q c=>Nat.le_trans (h q c) hab
theorem bd_co'{p:List Rat}{s:Nat}(h:bdL p s)(hs:1≤s):∀i,qs (coP p i)≤s:=fun i=>fy h hs i
theorem bdL_neg{p:List Rat}{s:Nat}(h:bdL p s)(hs:1≤s):bdL (aL p (-1)) s:=iX fun i=>by
 rw[cO,show coP p i* (-1)= -coP p i by grind,fj];exact bd_co' h hs i
theorem Be{p q:List Rat}{s t:Nat}(hp:bdL p s)(hq:bdL q t)(hs:1≤s)(ht:1≤t):bdL (fO p q) (s+t+1):=iX fun i=>by
 rw[eP];have:=fQ (coP p i) (coP q i);have:=bd_co' hp hs i;have:=bd_co' hq ht i;omega
theorem H5{p q:List Rat}{s t:Nat}(hp:bdL p s)(hq:bdL q t)(hs:1≤s)(ht:1≤t):bdL (ci p q) (s+t+1):=Be hp (bdL_neg hq ht) hs ht
def shP(i:Nat)(v:List Rat):List Rat:=List.replicate i 0++v
theorem oX(i:Nat)(v:List Rat):(shP i v).length=i+v.length:=by simp[shP]
theorem zv(i:Nat)(v:List Rat):shP (i+1) v=0::shP i v:=by simp[shP,List.replicate_succ]
theorem AE(v:List Rat)(x:Rat):∀i,af (shP i v) x=af v x* x^ i
 |0=>by simp[shP]
 |i+1=>by
  rw[zv,aE,AE v x i,Rat.pow_succ];grind
theorem sr(v:List Rat)(i n:Nat):coP (shP i v) n=if n< i then 0 else coP v (n- i):=by
 induction i generalizing n with
 |zero=>simp[shP]
 |succ i a=>
  rw[zv];cases n with
  |zero=>rw[dx,if_pos (by omega)]
  |succ n=>
   rw[dj,a,Nat.add_sub_add_right];by_cases h:n< i;rw[if_pos h,if_pos (by omega)];rw[if_neg h,if_neg (by omega)]
def mR(p q:List Rat):Nat→List Rat
 |0=>[]
 |n+1=>fO (mR p q n) (shP n (aL p (coP q n)))
theorem AF(p q:List Rat)(x:Rat):∀n,n≤q.length→af (mR p q n) x=af p x* af (q.take n) x
 |0,_=>by simp[mR,aM]
 |n+1,h=>by
  rw[mR,ey,AF p q x n (by omega),AE,aR,vf q x n (by omega)];grind
theorem trim_mR(p q:List Rat):∀n,aj (mR p q n)=mR p q n
 |0=>rfl
 |n+1=>cn _
theorem Ew(p q:List Rat):aj (aJ p q)=aJ p q:=by
 unfold aJ;split;rfl;exact cn _
theorem GE(p q:List Rat):mR p q q.length=aJ p q:=by
 rw[←trim_mR,←Ew];refine jo fun x=>?_;rw[AF p q x _ (Nat.le_refl _),List.take_length,ba]
theorem tE{p:List Rat}{a:Rat}{d:Nat}:∀n,n≤d→mR p (shP d [a]) n=[]
 |0,_=>rfl
 |n+1,h=>by
  rw[mR,tE n (by omega)];refine trim_nil_iff.2 fun i=>?_;have h1:coP (shP d [a]) n=0:=by rw[sr,if_pos (by omega)]
  have b:coP (aW (max ([]:List Rat).length (shP n (aL p (coP (shP d [a]) n))).length) fun i=>coP [] i+coP (shP n (aL p (coP (shP d [a]) n))) i) i=coP [] i+coP (shP n (aL p (coP (shP d [a]) n))) i:=by
   rw[←b9];exact eP _ _ i
  rw[b,jL,sr,cO,h1];split <;> grind
theorem B6{p:List Rat}{a:Rat}{d s:Nat}(hp:bdL p s)(hs:1≤s)(n:Nat)(hn:n≤d+1):bdL (mR p (shP d [a]) n) (s+qs a+2):=by
 by_cases h:n≤d;rw[tE n h];exact fun _ h=>by cases h
 have:n=d+1:=by omega
 subst this;refine iX fun i=>?_;rw[mR,eP,tE d (Nat.le_refl _),jL,Rat.zero_add,sr];split;have:qs 0=1:=by decide
 omega;rw[cO,sr,if_neg (by omega),Nat.sub_self,dx];have:=dh (coP p (i- d)) a;have:=bd_co' hp hs (i- d);omega
theorem HR(d:List Rat)(a:Rat)(k j:Nat):coP (aJ d (shP k [a])) j=if j< k then 0 else coP d (j- k) * a:=by
 have e:mR d (shP k [a]) (shP k [a]).length=aJ d (shP k [a]):=GE _ _;rw[←e,show(shP k [a]).length=k+1 by rw[oX];rfl,mR,eP,tE k (Nat.le_refl _),jL,Rat.zero_add,sr,cO,sr,if_neg (Nat.lt_irrefl k),Nat.sub_self,dx]
theorem z9{v:List Rat}{n:Nat}(h:aj v=v)(hn:v.length=n+1):coP v n=aF v:=by
 have:=cX (l:=v) (n:=n) (by rw[h];exact hn);rw[h,cG (by omega)] at this;exact Option.some.inj this
theorem FU{v d:List Rat}(hv:aj v=v)(hd:aj d=d)(hd0:d≠[])(hl:d.length≤v.length):(ci v (aJ d (shP (v.length- d.length) [aF v/ aF d]))).length< v.length:=by
 have e:=List.length_pos_iff.2 hd0;obtain⟨m,g⟩:∃m,d.length=m+1:=⟨d.length- 1,by omega⟩;obtain⟨n,c⟩:∃n,v.length=n+1:=⟨v.length- 1,by omega⟩;have f:aF d≠0:=cY (by rw[hd];exact hd0)
 have a:∀j,n≤j→coP (ci v (aJ d (shP (v.length- d.length) [aF v/ aF d]))) j=0:=fun j i=>by
  rw[gE,HR,if_neg (by omega)];by_cases h:j=n;subst h;rw[z9 hv c,show j- (v.length- d.length)=m by omega,z9 hd g];grind;rw[d8 (p:=v) (by omega),d8 (p:=d) (by omega)];grind
 have h1:=pz a;have b:aj (ci v (aJ d (shP (v.length- d.length) [aF v/ aF d])))=ci v (aJ d (shP (v.length- d.length) [aF v/ aF d])):=cn _;rw[b] at h1;omega
theorem Eu(p q:List Rat):aj (ci p q)=ci p q:=cn _
theorem step_bd{v d:List Rat}{b t:Nat}(hv:bdL v b)(hd:bdL d t)(hb:1≤b)(ht:1≤t)(hd0:d≠[])(k:Nat):qs (aF v/ aF d)≤b+t∧bdL (aJ d (shP k [aF v/ aF d])) (2* t+b+2)∧bdL (ci v (aJ d (shP k [aF v/ aF d]))) (2* b+2* t+3):=by
 have h1:=yj hv hb;have e:=yj hd ht;have f:=ip (aF v) (aF d)
 have c:bdL (aJ d (shP k [aF v/ aF d])) (2* t+b+2):=by
  have:=B6 (a:=aF v/ aF d) (d:=k) hd ht (k+1) (Nat.le_refl _);rw[show k+1=(shP k [aF v/ aF d]).length by rw[oX];rfl,GE] at this;exact vL this (by omega)
 exact⟨by omega,c,vL (H5 hv c hb (by omega)) (by omega)⟩
theorem bdL_sh{v:List Rat}{b:Nat}(h:bdL v b)(hb:1≤b)(k:Nat):bdL (shP k v) b:=fun q c=>by
 rcases List.mem_append.1 c with a|a
 rw[List.eq_of_mem_replicate a];have:qs 0=1:=by decide
 omega;exact h q a

end Go.Abs
