/- Part V14 of the proof. -/
import Derived.Test.YtkhclghbcicapaaGreatDoorV13
set_option linter.all false
namespace Go.Abs
def chi(s t:Int):Int:=if s≠0∧t≠s then 1 else 0
theorem chi_nn(s t:Int):0≤chi s t:=by unfold chi;grind
theorem sj(s:Int):chi s s=0:=by unfold chi;grind
theorem sk{s t:Int}{l:List Int}(ht:t=1∨t= -1)(hs: -1≤s∧s≤1):chL (s::t::l) 0 0=(if s= -t then 1 else 0)+chL l 0 t:=by
 have a:t≠0:=by omega
 by_cases h0:s=0;subst h0;rw[chL,if_neg (by simp),chL,if_pos a,if_neg (by omega)];omega;rw[chL,if_pos h0,chL,oZ];grind
def Sq(u:List Rat)(L:List (List Rat)):Prop:=Ch u L∧∀v M,L=v::M→∃k:Rat,0< k∧∀x,af v x=k* dvE u x
theorem qu{x c:Rat}(h:c≤ab x):c≤x∨x≤ -c:=by unfold ab at h;grind
theorem ls{x c:Rat}(h:c≤x∨x≤ -c)(hc:0≤c):c≤ab x:=by unfold ab;grind
theorem jk{k a b:Rat}(hk:0< k)(h:k* a≤k* b):a≤b:=by
 by_cases h':a≤b;exact h';have:=Rat.mul_pos hk (show 0< a- b by grind);grind
theorem Sq.tiny{u:List Rat}{L:List (List Rat)}(H:Sq u L){R:Rat}(hR:0≤R):∃h e ρ:Rat,0< h∧0< e∧0< ρ∧∀z w:Rat,ab z≤R→ab w≤R→z≤w→w- z≤h→
    chV (u::L) z- chV (u::L) w=chi (sgE z u) (sgE w u)∧((e≤ab (af u z)∧e≤ab (af u w))∨∃s:Rat,(s=1∨s= -1)∧0< s* dvE u z∧0< s* dvE u w∧ρ* (w- z)≤s* (af u w- af u z)):=by
 obtain⟨H,hv⟩:=H;cases L with
 |nil=>
  obtain⟨c,c0,hc⟩:=H.const;have hp:0< ab c:=by unfold ab;grind
  refine⟨1,ab c,1,by grind,hp,by grind,fun z w _ _ _ _=>⟨?_,.inl ⟨by grind,by grind⟩⟩⟩;rw[oY,oY,(H.sg z w).1,sj];rfl
 |cons v L=>
 obtain⟨k,G,C⟩:=hv v L rfl;obtain⟨a,b,hb⟩:=H.bez v L rfl;have hA:=mA hR a;have hB:=mA hR b;obtain⟨e,E,V⟩:=part 1 (d:=2* (bV R a+bV R b+1)) (by decide+kernel) (by grind);obtain⟨h1,p1,k1⟩:=H.cl.1 R e hR E;obtain⟨X,p2,W⟩:=H.cl.2 v L rfl R e hR E;have hT:=Cy hR u;have hL:=sE hR u;obtain⟨ρ,K,eρ⟩:=part e (d:=2* k) E (by grind);obtain⟨N,Y,e3⟩:=part ρ (d:=bT R u+1) K (by grind);obtain⟨J,p5,e5⟩:=part (e/ 2) (d:=bL R u+1) (by grind) (by grind);obtain⟨h4,Q,l4,m4⟩:=less h1 X p1 p2;obtain⟨h6,p6,l6,m6⟩:=less N J Y p5;obtain⟨h,p,l,m⟩:=less h4 h6 Q p6;refine⟨h,e/ 2,ρ,p,by grind,K,fun z w n B g2 g4=>?_⟩;have o:ab (w- z)=w- z:=by unfold ab;rw[if_neg (by grind)]
 by_cases hu:e≤ab (af u z);obtain⟨s1,s2,A⟩:=k1 z w n B (by grind) hu;refine⟨?_,.inl ⟨by grind,?_⟩⟩;rw[s1,sj]
 have:chV (u::v::L) z=chV (u::v::L) w:=by
  unfold chV;simp only[List.map_cons] at A⊢;rw[s1];exact wX s2 A
 omega;have q1:=iG hR n B u;have q2:=Rat.mul_le_mul_of_nonneg_left (show w- z≤J by grind) hL;have q3:ab (af u w- af u z)≤e/ 2:=by rw[o] at q1;grind
 have q4:=ab_le.1 q3;rcases qu hu with q|q
 exact ls (.inl (by grind)) (by grind);exact ls (.inr (by grind)) (by grind)
 have hv:e≤ab (af v z):=by
  by_cases hv:e≤ab (af v z);exact hv;have n1:=dw (fE hR n a) (show ab (af u z)≤e by grind) (cZ _) hA;have n2:=dw (fE hR n b) (show ab (af v z)≤e by grind) (cZ _) hB;have O:=ik (af a z* af u z) (af b z* af v z);rw[hb z,cM,cM,show ab 1=1 by decide+kernel] at O;grind
 obtain⟨s1,s2,A⟩:=W z w n B (by grind) hv;have i:=oM hR n B u;rw[o] at i;have ht2:=ab_le.1 i;have f:0≤w- z:=by grind
 have D:bT R u* ((w- z) * (w- z))≤ρ* (w- z):=by
  have q1:=Rat.mul_le_mul_of_nonneg_left (show w- z≤N by grind) hT;have q2:bT R u* (w- z)≤ρ:=by grind
  have q3:=Rat.mul_le_mul_of_nonneg_right q2 f;grind
 have g:∀t:Int,(t=1∨t= -1)→sgE z v=t→chV (u::v::L) z- chV (u::v::L) w=(if sgE z u= -t then 1 else 0)- (if sgE w u= -t then 1 else 0):=fun t ht e=>by
  have F:=A;rw[e] at F;unfold chV;simp only[List.map_cons];rw[s1,e,sk ht (fa z u),sk ht (fa w u),wY F (by omega)];omega
 have bz:=fa z u;have bw:=fa w u;rcases bR z v with⟨c1,M⟩|⟨c1,M⟩|⟨c1,M⟩
 have S:e≤af v z:=by rcases qu hv with q|q <;> grind
 have d1:2* ρ≤dvE u z:=jk G (by rw[←C];grind);have T:=Rat.mul_le_mul_of_nonneg_left d1 f;have up:ρ* (w- z)≤af u w- af u z:=by grind
 have U:=Rat.mul_nonneg (show 0≤ρ by grind) f;have Z:=qI (q:=u) (x:=z) (y:=w) (by grind);refine⟨?_,.inr ⟨1,.inl rfl,by grind,?_,by grind⟩⟩;rw[g 1 (.inl rfl) c1];unfold chi;split <;> split <;> split <;> omega;rcases bR w v with⟨r,j⟩|⟨r,j⟩|⟨r,j⟩
 rw[C] at j;by_cases f3:0< dvE u w;grind;have:=Rat.mul_nonneg (show 0≤k by grind) (show 0≤ -dvE u w by grind);grind;omega;omega;have S:af v z≤ -e:=by rcases qu hv with q|q <;> grind
 have d1:2* ρ≤ -dvE u z:=jk G (by have:=C z;grind);have T:=Rat.mul_le_mul_of_nonneg_left d1 f;have up:ρ* (w- z)≤af u z- af u w:=by grind
 have U:=Rat.mul_nonneg (show 0≤ρ by grind) f;have Z:=qI (q:=u) (x:=w) (y:=z) (by grind);refine⟨?_,.inr ⟨-1,.inr rfl,by grind,?_,by grind⟩⟩;rw[g (-1) (.inr rfl) c1];unfold chi;split <;> split <;> split <;> omega;rcases bR w v with⟨r,j⟩|⟨r,j⟩|⟨r,j⟩
 omega;rw[C] at j;by_cases f3:0< -dvE u w;grind;have:=Rat.mul_nonneg (show 0≤k by grind) (show 0≤dvE u w by grind);grind;omega;exact absurd c1 s2
theorem lH(x y:Rat):0≤ab x+ab y:=by have:=cZ x;have:=cZ y;grind
theorem Sq.mono{u:List Rat}{L:List (List Rat)}(H:Sq u L){x y:Rat}(hxy:x≤y):chV (u::L) y≤chV (u::L) x:=by
 obtain⟨h,e,ρ,d,_,_,ht⟩:=H.tiny (lH x y);refine way (f:=chV (u::L)) (fun s t=>t≤s) (fun _=>Int.le_refl _) (fun _ _ _ b a=>Int.le_trans a b) d hxy fun z w b a g3 c=>?_;have:=(ht z w (iY b (by grind)) (iY (by grind) g3) a c).1;have:=chi_nn (sgE z u) (sgE w u);omega
theorem Sq.root{u:List Rat}{L:List (List Rat)}(H:Sq u L){w x:Rat}(hwx:w< x)(hx:af u x=0):chV (u::L) x+1≤chV (u::L) w:=by
 obtain⟨h,e,ρ,k,j,d,ht⟩:=H.tiny (lH w x)
 obtain⟨z,b,i,c⟩:∃z,w≤z∧z< x∧x- z≤h:=by
  by_cases g:w≤x- h;exact⟨x- h,g,by grind,by grind⟩;grind
 obtain⟨t1,t2⟩:=ht z x (iY b (by grind)) (iY (by grind) (by grind)) (by grind) c;have m:=H.mono b
 have f:af u z≠0:=fun g=>by
  rcases t2 with⟨_,q⟩|⟨s,_,_,_,q⟩
  rw[hx,show ab 0=0 by decide+kernel] at q;grind;have:=Rat.mul_pos d (show 0< x- z by grind);grind
 have hs:sgE z u≠0:=fun g=>by
  rcases bR z u with⟨a,_⟩|⟨a,_⟩|⟨_,a⟩
  omega;omega;exact f a
 rw[lL hx] at t1;unfold chi at t1;grind
theorem Sq.away{u:List Rat}{L:List (List Rat)}(H:Sq u L){x y:Rat}(hxy:x≤y)(hx:af u x≠0)(hV:chV (u::L) x=chV (u::L) y):
    ∃e:Rat,0< e∧∀z,x≤z→z≤y→e≤ab (af u z)∧sgE z u=sgE x u:=by
 obtain⟨h,e,ρ,E,U,Y,ht⟩:=H.tiny (lH x y)
 have W:sgE x u≠0:=fun g=>by
  rcases bR x u with⟨a,_⟩|⟨a,_⟩|⟨_,a⟩
  omega;omega;exact hx a
 have d:∀z,x≤z→z≤y→ab z≤ab x+ab y:=fun z a b=>iY a b
 have c:∀z,x≤z→z≤y→sgE z u=sgE x u:=fun z a b=>by
  refine way (f:=fun z=>sgE z u) (fun s t=>s≠0→t=s) (fun _ _=>rfl) (fun _ _ _ i n g3=>by rw[n (by rw[i g3];exact g3),i g3]) E a (fun p q i n g3 X V=>?_) W;have t1:=(ht p q (d _ i (by grind)) (d _ (by grind) (by grind)) n X).1;have m1:=H.mono i;have m2:=H.mono n;have m3:=H.mono g3;have m4:=H.mono b;unfold chi at t1;by_cases g:sgE q u=sgE p u;exact g;rw[if_pos ⟨V,g⟩] at t1;omega
 have hy:af u y≠0:=fun g=>by
  have:=c y hxy (by grind);rw[lL g] at this;omega
 have R:0< ab (af u x):=by unfold ab;split <;> grind
 have Z:0< ab (af u y):=by unfold ab;split <;> grind
 obtain⟨e1,O,a2,a3⟩:=less e (ρ* h) U (Rat.mul_pos Y E);obtain⟨e2,b1,b2,B⟩:=less (ab (af u x)) (ab (af u y)) R Z;obtain⟨T,c1,c2,c3⟩:=less e1 e2 O b1;refine⟨T,c1,fun z j l=>⟨?_,c z j l⟩⟩;by_cases big:e≤ab (af u z);grind
 obtain⟨w,Q,K,N,F⟩:∃w,z≤w∧w≤y∧w- z≤h∧(w=y∨w- z=h):=by
  by_cases g:z+h≤y;exact⟨z+h,by grind,g,by grind,.inr (by grind)⟩;exact⟨y,l,by grind,by grind,.inl rfl⟩
 obtain⟨v,v1,v2,v3,G⟩:∃v,x≤v∧v≤z∧z- v≤h∧(v=x∨z- v=h):=by
  by_cases g:x≤z- h;exact⟨z- h,g,by grind,by grind,.inr (by grind)⟩;exact⟨x,by grind,j,by grind,.inl rfl⟩
 rcases(ht z w (d _ j l) (d _ (by grind) K) Q N).2 with⟨q,_⟩|⟨s,s1,s2,_,s3⟩
 exact absurd q big;rcases(ht v z (d _ v1 (by grind)) (d _ j l) v2 v3).2 with⟨_,q⟩|⟨t,t1,_,t2,t3⟩
 exact absurd q big;have A:s=t:=by rcases s1 with rfl|rfl <;> rcases t1 with rfl|rfl <;> grind
 subst A;have sw:=c w (by grind) K;have sv:=c v v1 (by grind);have sz:=c z j l;have n1:=Rat.mul_nonneg (show 0≤ρ by grind) (show 0≤w- z by grind);have n2:=Rat.mul_nonneg (show 0≤ρ by grind) (show 0≤z- v by grind);have C:w=y→af u w=af u y:=fun g=>by rw[g]
 have D:v=x→af u v=af u x:=fun g=>by rw[g]
 have J:w- z=h→ρ* (w- z)=ρ* h:=fun g=>by rw[g]
 have gv:z- v=h→ρ* (z- v)=ρ* h:=fun g=>by rw[g]
 refine ls ?_ (by grind);have m:∀q:Rat,0< q→ab q=q:=fun q g=>by unfold ab;rw[if_neg (by grind)]
 have k:∀q:Rat,q< 0→ab q= -q:=fun q g=>by unfold ab;rw[if_pos g]
 rcases bR z u with⟨a,b⟩|⟨a,b⟩|⟨a,b⟩
 have r:0< af u w:=by rcases bR w u with⟨_,g⟩|⟨g,_⟩|⟨g,_⟩<;> first|exact g|omega
 have o:0< af u v:=by rcases bR v u with⟨_,g⟩|⟨g,_⟩|⟨g,_⟩<;> first|exact g|omega
 have M:=m _ r;have S:=m _ o;left;rcases s1 with rfl|rfl
 rcases G with g|g
 rw[←D g] at b2;grind;have:=gv g;grind;rcases F with g|g
 rw[←C g] at B;grind;have:=J g;grind;have r:af u w< 0:=by rcases bR w u with⟨g,_⟩|⟨_,g⟩|⟨g,_⟩<;> first|exact g|omega
 have o:af u v< 0:=by rcases bR v u with⟨g,_⟩|⟨_,g⟩|⟨g,_⟩<;> first|exact g|omega
 have M:=k _ r;have S:=k _ o;right;rcases s1 with rfl|rfl
 rcases F with g|g
 rw[←C g] at B;grind;have:=J g;grind;rcases G with g|g
 rw[←D g] at b2;grind;have:=gv g;grind;omega
theorem Sq.calm{u:List Rat}{L:List (List Rat)}(H:Sq u L){e x y:Rat}(he:0< e)(hxy:x≤y)(ha:∀z,x≤z→z≤y→e≤ab (af u z)):chV (u::L) x=chV (u::L) y:=H.1.same he hxy ha
theorem oq{q r:List Rat}{x c:Rat}(e:af r x=c* af q x):(0< c→sgE x r=sgE x q)∧(c< 0→sgE x r= -sgE x q):=by
 constructor;intro hc;rcases bR x q with⟨a,b⟩|⟨a,b⟩|⟨a,b⟩
 rw[a];exact gu (by rw[e];exact Rat.mul_pos hc b);rw[a];exact jC (by have:=Rat.mul_pos hc (show 0< -af q x by grind);grind);rw[a];exact lL (by rw[e,b];grind);intro hc;rcases bR x q with⟨a,b⟩|⟨a,b⟩|⟨a,b⟩
 rw[a];exact jC (by have:=Rat.mul_pos (show 0< -c by grind) b;grind);rw[a];exact gu (by have:=Rat.mul_pos (show 0< -c by grind) (show 0< -af q x by grind);grind);rw[a,lL (by rw[e,b];grind)];rfl
theorem Fz(s t:Int):chi (-s) (-t)=chi s t:=by unfold chi;split <;> split <;> omega
theorem Sq.add{S A B a b:List Rat}{LS LA LB:List (List Rat)}{κ:Rat}(hS:Sq S LS)(hA:Sq A LA)(hB:Sq B LB)(hκ:κ≠0)(hm:∀x,af S x=κ* (af A x* af B x))(hb:∀x,af a x* af A x+af b x* af B x=1){x y:Rat}(hxy:x≤y):
    chV (S::LS) x- chV (S::LS) y=(chV (A::LA) x- chV (A::LA) y)+(chV (B::LB) x- chV (B::LB) y):=by
 have o:=lH x y;obtain⟨h1,_,_,p1,_,_,t1⟩:=hS.tiny o;obtain⟨W,_,_,p2,_,_,t2⟩:=hA.tiny o;obtain⟨J,_,_,K,_,_,Y⟩:=hB.tiny o;have V:=mA o a;have Z:=mA o b;obtain⟨e,G,N⟩:=part 1 (d:=2* (bV (ab x+ab y) a+bV (ab x+ab y) b+1)) (by decide+kernel) (by grind);obtain⟨h4,U,T⟩:=keep A o G;obtain⟨h5,R,k5⟩:=keep B o G;obtain⟨i1,Q,l1,m1⟩:=less h1 W p1 p2;obtain⟨i2,M,l2,m2⟩:=less J h4 K U;obtain⟨O,j3,l3,m3⟩:=less i1 i2 Q M;obtain⟨h,h0,l,m⟩:=less O h5 j3 R
 have w:=way (f:=fun z=>chV (S::LS) z- chV (A::LA) z- chV (B::LB) z) (· = ·) (fun _=>rfl) (fun _ _ _=>Eq.trans) h0 hxy fun z w k j g3 X=>by
  have p:=iY k (show z≤y by grind);have D:=iY (show x≤w by grind) g3;have q1:=(t1 z w p D j (by grind)).1;have q2:=(t2 z w p D j (by grind)).1;have q3:=(Y z w p D j (by grind)).1;have L:=El j X;have i:∀c:Rat,c≠0→(0< c∨c< 0):=fun c hc=>by grind
  by_cases hA':e≤ab (af A z);obtain⟨F,E⟩:=T z w p D (by grind) hA';rw[F,sj] at q2
  have:chi (sgE z S) (sgE w S)=chi (sgE z B) (sgE w B):=by
   have C:=oq (q:=B) (r:=S) (x:=z) (c:=κ* af A z) (by rw[hm];grind);have v:=oq (q:=B) (r:=S) (x:=w) (c:=κ* af A w) (by rw[hm];grind)
   have sg:(0< κ* af A z∧0< κ* af A w)∨(κ* af A z< 0∧κ* af A w< 0):=by
    rcases bR z A with⟨s,n⟩|⟨s,n⟩|⟨s,n⟩
    have u:0< af A w:=by rcases bR w A with⟨_,g⟩|⟨g,_⟩|⟨g,_⟩<;> first|exact g|omega
    rcases i κ hκ with g|g
    exact .inl ⟨Rat.mul_pos g n,Rat.mul_pos g u⟩;have:=Rat.mul_pos (show 0< -κ by grind) n;have:=Rat.mul_pos (show 0< -κ by grind) u;exact .inr ⟨by grind,by grind⟩;have u:af A w< 0:=by rcases bR w A with⟨g,_⟩|⟨_,g⟩|⟨g,_⟩<;> first|exact g|omega
    rcases i κ hκ with g|g
    have:=Rat.mul_pos g (show 0< -af A z by grind);have:=Rat.mul_pos g (show 0< -af A w by grind);exact .inr ⟨by grind,by grind⟩;have:=Rat.mul_pos (show 0< -κ by grind) (show 0< -af A z by grind);have:=Rat.mul_pos (show 0< -κ by grind) (show 0< -af A w by grind);exact .inl ⟨by grind,by grind⟩;exact absurd s E
   rcases sg with⟨k,j⟩|⟨k,j⟩
   rw[C.1 k,v.1 j];rw[C.2 k,v.2 j,Fz]
  show _=_;omega
  have t:e≤ab (af B z):=by
   by_cases t:e≤ab (af B z);exact t;have n1:=dw (fE o p a) (show ab (af A z)≤e by grind) (cZ _) V;have n2:=dw (fE o p b) (show ab (af B z)≤e by grind) (cZ _) Z;have H:=ik (af a z* af A z) (af b z* af B z);rw[hb z,cM,cM,show ab 1=1 by decide+kernel] at H;grind
  obtain⟨F,E⟩:=k5 z w p D (by grind) t;rw[F,sj] at q3
  have:chi (sgE z S) (sgE w S)=chi (sgE z A) (sgE w A):=by
   have C:=oq (q:=A) (r:=S) (x:=z) (c:=κ* af B z) (by rw[hm];grind);have v:=oq (q:=A) (r:=S) (x:=w) (c:=κ* af B w) (by rw[hm];grind)
   have sg:(0< κ* af B z∧0< κ* af B w)∨(κ* af B z< 0∧κ* af B w< 0):=by
    rcases bR z B with⟨s,n⟩|⟨s,n⟩|⟨s,n⟩
    have u:0< af B w:=by rcases bR w B with⟨_,g⟩|⟨g,_⟩|⟨g,_⟩<;> first|exact g|omega
    rcases i κ hκ with g|g
    exact .inl ⟨Rat.mul_pos g n,Rat.mul_pos g u⟩;have:=Rat.mul_pos (show 0< -κ by grind) n;have:=Rat.mul_pos (show 0< -κ by grind) u;exact .inr ⟨by grind,by grind⟩;have u:af B w< 0:=by rcases bR w B with⟨g,_⟩|⟨_,g⟩|⟨g,_⟩<;> first|exact g|omega
    rcases i κ hκ with g|g
    have:=Rat.mul_pos g (show 0< -af B z by grind);have:=Rat.mul_pos g (show 0< -af B w by grind);exact .inr ⟨by grind,by grind⟩;have:=Rat.mul_pos (show 0< -κ by grind) (show 0< -af B z by grind);have:=Rat.mul_pos (show 0< -κ by grind) (show 0< -af B w by grind);exact .inl ⟨by grind,by grind⟩;exact absurd s E
   rcases sg with⟨k,j⟩|⟨k,j⟩
   rw[C.1 k,v.1 j];rw[C.2 k,v.2 j,Fz]
  show _=_;omega
 omega
theorem qs_one:qs 1=1:=by decide
theorem zF{p:List Rat}{t:Nat}(h:bdL p t)(ht:1≤t):qs (aF p)≤t:=by
 by_cases h0:aj p=[];rw[th h0];exact Nat.le_trans (by decide:qs 0≤1) ht;have a:=List.length_pos_iff.2 h0;exact h _ (df (List.mem_of_getElem? (c8 (n:=(aj p).length- 1) (by omega))))
theorem xO{p:List Rat}{k:Rat}(hk:k≠0):(aj (aL p k)).length=(aj p).length:=by
 by_cases h:nz p;obtain⟨a,b,_⟩:=jS h hk (r:=aL p k) fun x=>aR p k x;have h1:=List.length_pos_iff.2 a;have c:=List.length_pos_iff.2 h;unfold dg at b;omega;have e:aj p=[]:=Classical.byContradiction h
 have e2:aj (aL p k)=[]:=by
  have:Eqv (aL p k) []:=fun x=>by rw[aR,ig h,aM];grind
  exact eqv_trim.1 this
 rw[e,e2]
def HtF(f:Nat→Rat)(k:Rat)(h:Nat):Prop:=∀i,∃z:Int,f i* k=(z:Rat)∧bl z.natAbs≤h
def Ht(p:List Rat)(h:Nat):Prop:=∃k:Rat,k≠0∧HtF (coP p) k h
theorem HtF.mono{f:Nat→Rat}{k:Rat}{h h':Nat}(H:HtF f k h)(hh:h≤h'):HtF f k h':=fun i=>by
 obtain⟨z,b,a⟩:=H i;grind
theorem Ht.mono{p:List Rat}{h h':Nat}(H:Ht p h)(hh:h≤h'):Ht p h':=by
 obtain⟨k,a,H⟩:=H;exact⟨k,a,H.mono hh⟩
theorem Ht.scale{p r:List Rat}{h:Nat}{c:Rat}(H:Ht p h)(hc:c≠0)(e:∀i,coP r i=coP p i* c):Ht r h:=by
 obtain⟨k,a,H⟩:=H;refine⟨k/ c,fun e=>?_,fun i=>?_⟩;have:k/ c* c=k:=Rat.div_mul_cancel hc;grind;obtain⟨z,b,d⟩:=H i;grind
theorem Ht.trim{p:List Rat}{h:Nat}(H:Ht p h):Ht (aj p) h:=H.scale (c:=1) (by grind) fun i=>by rw[ce];grind
theorem Ht.zero{p:List Rat}(e:∀i,coP p i=0)(h:Nat):Ht p h:=⟨1,by grind,fun i=>⟨0,by grind,Nat.zero_le _⟩⟩
theorem Cc(o:List Rat)(a:Rat)(q:List Rat)(i n:Nat):∀k,coP (gE o a q i k) n=if i≤n∧n< i+k∧n< o.length then coP o n- a* coP q (n- i) else coP o n
 |0=>by rw[gE,if_neg (by omega)]
 |k+1=>by
  rw[gE,oR,Cc o a q i n k,iD];by_cases h:n=i+k∧i+k< o.length;rw[if_pos h,if_pos (by omega),nB o a q i k (i+k) (by omega),h.1,show i+k- i=k by omega];grind
theorem GK{x y:Int}{k:Nat}(hx:bl x.natAbs≤k)(hy:bl y.natAbs≤k):bl (x- y).natAbs≤k+1:=by
 exact o0 hx (by grind)
theorem Ai{q:List Rat}{lead l:Rat}{g:Nat}(hl:coP q (q.length- 1)=lead)(h0:lead≠0)(l0:l≠0)(hq:HtF (coP q) l g):∀(c:Nat) (u o:List Rat) (k:Rat) (H:Nat),k≠0→HtF (coP o) k H→HtF (coP u) (k/ l) H→
    ∃k',k'≠0∧HtF (coP (jQ q lead c u o).1) (k'/ l) (H+c* (g+1))∧HtF (coP (jQ q lead c u o).2) k' (H+c* (g+1))
 |0,u,o,k,H,k0,ho,hu=>⟨k,k0,by rw[Nat.zero_mul];exact hu,by rw[Nat.zero_mul];exact ho⟩
 |n+1,u,o,k,H,k0,ho,hu=>by
  obtain⟨zl,b,a⟩:=hq (q.length- 1);rw[hl] at b
  have w:(zl:Rat)≠0:=fun e=>by
   grind
  obtain⟨v,j,s⟩:=ho (n+q.length- 1);generalize m:coP o (n+q.length- 1) / lead=t;have ht:t* lead=coP o (n+q.length- 1):=by grind
  have r:k/ l* l=k:=Rat.div_mul_cancel l0;have p:k* (zl:Rat) / l=k/ l* zl:=by grind
  rw[jQ]
  obtain⟨k',B,C,k3⟩:=Ai hl h0 l0 hq n (u.set n (coP o (n+q.length- 1) / lead)) (if coP o (n+q.length- 1) / lead=0 then o else gE o (coP o (n+q.length- 1) / lead) q n q.length) (k* zl) (H+(g+1)) (fun e=>by
   grind) (fun i=>by
   rw[m]
   have d:∃z:Int,coP o i* (k* (zl:Rat))=(z:Rat)∧bl z.natAbs≤H+(g+1):=by
    obtain⟨z,h,f⟩:=ho i;refine⟨z* zl,by rw[Rat.intCast_mul,←h];grind,?_⟩;have:=dG f a;omega
   split;exact d;rw[Cc];split;obtain⟨z,h,f⟩:=ho i;obtain⟨y,A,x⟩:=hq (i- n);refine⟨z* zl- v* y,?_,?_⟩;rw[Rat.intCast_sub,Rat.intCast_mul,Rat.intCast_mul,←h,←j,←A,←b,←ht];grind;have:=GK (dG f a) (dG s x);omega;grind) (fun i=>by
   rw[m,uZ,p];split;refine⟨v,?_,by omega⟩;rw[←b,←j,←ht];have:t* (k/ l* (lead* l))=t* lead* (k/ l* l):=by grind
   rw[this,r];obtain⟨z,h,f⟩:=hu i;refine⟨z* zl,by rw[Rat.intCast_mul,←h];grind,?_⟩;have:=dG f a;omega)
  grind
theorem Fp{p q:List Rat}{h g:Nat}(hp:Ht p h)(hq:Ht q g)(h0:nz q):Ht (cf p q).1 (h+((aj p).length+1- (aj q).length) * (g+1))∧Ht (cf p q).2 (h+((aj p).length+1- (aj q).length) * (g+1)):=by
 obtain⟨k,d,hp⟩:=hp.trim;obtain⟨l,f,hq⟩:=hq.trim;have m:=List.length_pos_iff.2 h0;have hg:=c8 (l:=q) (n:=(aj q).length- 1) (by omega);have hc:coP (aj q) ((aj q).length- 1)=aF q:=by unfold coP;grind
 obtain⟨b,c,j,k3⟩:=Ai hc (c9 h0) f hq ((aj p).length+1- (aj q).length) (List.replicate ((aj p).length+1- (aj q).length) 0) (aj p) k h d hp fun i=>by
  refine⟨0,?_,Nat.zero_le _⟩
  have:coP (List.replicate ((aj p).length+1- (aj q).length) (0:Rat)) i=0:=by
   unfold coP;grind
  grind
 have a:b/ l≠0:=fun e=>by grind
 exact⟨(show Ht _ _ from⟨b/ l,a,j⟩).trim,(show Ht _ _ from⟨b,c,k3⟩).trim⟩
theorem Ht.of{p:List Rat}{s:Nat}(h:bdL p s):Ht p (s+1+p.length* s):=by
 have c:iT p 1≠0:=sd _ (by decide);have hb:=Al p 1 h;have b:=(mc p 1).2;rw[j2] at hb;refine⟨nQ (iT p 1),fun e=>c (nQ_zero.1 e),fun i=>?_⟩;by_cases hi:i< p.length;have a:=List.mem_of_getElem? (cK hi);have h1:=rm (coP p i) _ (b _ a);have d:=zJ (coP p i) (iT p 1);have f:=h _ a;rw[nf] at h1;by_cases hn:coP p i* nQ (iT p 1)< 0;refine⟨-(iZ (coP p i) (iT p 1):Int),by grind,?_⟩;rw[Int.natAbs_neg,Int.natAbs_natCast];omega;rw[if_neg hn] at h1;exact⟨(iZ (coP p i) (iT p 1):Int),h1,by grind⟩;refine⟨0,?_,Nat.zero_le _⟩;rw[ef (by omega),Rat.zero_mul];rfl
theorem Ht.derive{p:List Rat}{h:Nat}(H:Ht p h):Ht (aN p) (h+bl p.length):=by
 obtain⟨k,a,H⟩:=H;refine⟨k,a,fun i=>?_⟩;rw[ek];by_cases hi:i+1< p.length;obtain⟨z,c,b⟩:=H (i+1);refine⟨z* ((i+1:Nat):Int),by grind,?_⟩;have:=dG b (show bl (((i+1:Nat):Int)).natAbs≤bl p.length by exact dP (by omega));omega;refine⟨0,?_,Nat.zero_le _⟩;rw[ef (by omega),Rat.zero_mul,Rat.zero_mul];rfl
theorem Ht.quot{p:List Rat}{h:Nat}(H:Ht p h)(i j:Nat)(hj:coP p j≠0)(h1:1≤h):qs (coP p i/ coP p j)≤h:=by
 obtain⟨k,g,H⟩:=H;obtain⟨z,l,d⟩:=H i;obtain⟨w,f,b⟩:=H j
 have m:w≠0:=fun e=>by
  rw[e] at f;grind
 have e:coP p i/ coP p j=(z:Rat) / (w:Rat):=by grind
 have a:0< w.natAbs:=by omega
 by_cases hw:0< w
 have e2:(z:Rat) / (w:Rat)=mkRat z w.natAbs:=by
  rw[mU];show Rat.divInt (z* ((1:Nat):Int)) (((1:Nat):Int) * w)=_;rw[←Rat.divInt_ofNat];grind
 rw[e,e2];exact gF a d b
 have e2:(z:Rat) / (w:Rat)=mkRat (-z) w.natAbs:=by
  have c:(z:Rat) / (w:Rat)=((-z:Int):Rat) / ((-w:Int):Rat):=by grind
  rw[c,mU];show Rat.divInt (-z* ((1:Nat):Int)) (((1:Nat):Int) * -w)=_;rw[←Rat.divInt_ofNat];grind
 rw[e,e2];exact gF a (by grind) b
theorem Ht.monic{p:List Rat}{h:Nat}(H:Ht p h)(h1:1≤h):bdL (cI p) h∧Ht (cI p) h:=by
 by_cases h0:nz p;have b:cI p=aL p (1/ aF p):=by unfold cI;rw[if_neg h0]
 have c:1/ aF p≠0:=fun e=>by have:=Rat.div_mul_cancel (a:=1) (uQ h0);grind
 refine⟨js fun i=>?_,H.scale c fun i=>by rw[b,cS]⟩
 have e:coP (cI p) i=coP p i/ coP p (dg p):=by
  rw[b,cS,(eo h0).2,Rat.div_def,Rat.div_def,Rat.one_mul]
 rw[e];exact H.quot i _ (eo h0).1.1 h1;have e:cI p=[]:=by unfold cI;rw[if_pos (Decidable.byContradiction h0)]
 rw[e];exact⟨fun q d=>(by grind),.zero (fun i=>rfl) _⟩
theorem BX(D d:Nat):∀(l:List Rat) (n:Nat),d∣n→(∀c∈l,d∣iZ c D)→d∣jg D l n
 |[],_,h,_=>h
 |c::l,n,h,hc=>BX D d l _ (Nat.dvd_gcd h (hc c (List.mem_cons_self ..))) fun x a=>hc x (List.mem_cons_of_mem _ a)
theorem Ht.prim{p:List Rat}{h:Nat}(H:Ht p h)(h0:nz p)(h1:1≤h):bdL (bU p) h∧Ht (bU p) h:=by
 obtain⟨c,V,hc⟩:=ov h0;have u:∀i,coP (bU p) i=coP p i* (nQ (iT (aj p) 1) / nQ (jg (iT (aj p) 1) (aj p) 0)):=fun i=>by unfold bU;rw[cS,ce]
 have G:iT (aj p) 1≠0:=sd _ (by decide);have U:=List.length_pos_iff.2 h0;have hg:=c8 (l:=p) (n:=(aj p).length- 1) (by omega);have F:=List.mem_of_getElem? hg;have a:=(mc (aj p) 1).2;have g:=(rl (iT (aj p) 1) (aj p) 0).2;have C:=BX (iT (aj p) 1);generalize L:iT (aj p) 1=D at *
 have hN:jg D (aj p) 0≠0:=fun e=>by
  have:=g _ F;rw[e] at this;exact zH (a _ F) G (c9 h0) (Nat.eq_zero_of_zero_dvd this)
 have R:nQ D≠0:=fun e=>G (nQ_zero.1 e);have M:nQ (jg D (aj p) 0)≠0:=fun e=>hN (nQ_zero.1 e)
 refine⟨js fun i=>?_,H.scale (c:=nQ D/ nQ (jg D (aj p) 0)) (fun e=>by
  grind) u⟩
 obtain⟨k,T,H⟩:=H
 -- k=D* (m/ n)
 generalize W:k/ nQ D=r;have O:k=r* nQ D:=by grind
 have r0:r≠0:=fun e=>by grind
 have N:r* (nQ r.den)=(r.num:Rat):=by
  have e:(r.num:Rat) / nQ r.den=r:=by
   rw[mU];simp
  grind
 have co:∀j,j< (aj p).length→r.den∣iZ (coP p j) D∧∃z:Int,(iZ (coP p j) D* r.num.natAbs=z.natAbs* r.den∧bl z.natAbs≤h):=fun j t=>by
  obtain⟨z,Q,B⟩:=H j;have v:=List.mem_of_getElem? (cK t);rw[ce] at v;have f:=rm (coP p j) D (a _ v)
  have w:iZ (coP p j) D* r.num.natAbs=z.natAbs* r.den:=by
   have b1:coP p j* nQ D* (r.num:Rat)=(z:Rat) * nQ r.den:=by rw[←Q,O,←N];grind
   have b2:∃s:Int,coP p j* nQ D=(s:Rat)∧s.natAbs=iZ (coP p j) D:=by
    rw[nf] at f;by_cases hn:coP p j* nQ D< 0;rw[if_pos hn] at f;exact⟨-(iZ (coP p j) D:Int),by rw[Rat.intCast_neg];grind,by rw[Int.natAbs_neg,Int.natAbs_natCast]⟩;rw[if_neg hn] at f;exact⟨(iZ (coP p j) D:Int),f,Int.natAbs_natCast _⟩
   obtain⟨s,s1,s2⟩:=b2;rw[s1] at b1
   have K:s* r.num=z* (r.den:Int):=by
    have:((s* r.num:Int):Rat)=((z* (r.den:Int):Int):Rat):=by rw[Rat.intCast_mul,Rat.intCast_mul];exact b1
    exact_mod_cast this
   have J:=congrArg Int.natAbs K;rw[Int.natAbs_mul,Int.natAbs_mul,s2,Int.natAbs_natCast] at J;exact J
  refine⟨?_,z,w,B⟩;have A:Nat.Coprime r.den r.num.natAbs:=Nat.coprime_comm.1 r.reduced;exact A.dvd_of_dvd_mul_right ⟨z.natAbs,by rw[w,Nat.mul_comm]⟩
 rw[u];by_cases hi:i< (aj p).length;obtain⟨z,w,B⟩:=(co i hi).2;have d:=List.mem_of_getElem? (cK hi);rw[ce] at d
 have x:r.den∣jg D (aj p) 0:=C _ _ _ (Nat.dvd_zero _) fun c E=>by
  obtain⟨j,t⟩:=List.mem_iff_getElem?.1 E
  have q:j< (aj p).length:=by
   by_cases h:j< (aj p).length;exact h;rw[List.getElem?_eq_none (by omega)] at t;cases t
  have e:=cK q;rw[t,ce] at e;cases e;exact(co j q).1
 have y:=g _ d;have f:=rm (coP p i) D (a _ d)
 have b:iZ (coP p i) D/ jg D (aj p) 0≤z.natAbs:=by
  have q1:r.den≤jg D (aj p) 0:=Nat.le_of_dvd (by omega) x
  have q2:0< r.num.natAbs:=by
   have:r.num≠0:=fun e=>r0 (Rat.num_eq_zero.1 e);omega
  refine Nat.div_le_of_le_mul ?_
  calc iZ (coP p i) D≤iZ (coP p i) D* r.num.natAbs:=Nat.le_mul_of_pos_right _ q2
   _=z.natAbs* r.den:=w
   _≤jg D (aj p) 0* z.natAbs:=by rw[Nat.mul_comm];exact Nat.mul_le_mul_right _ q1
 have hb:bl (iZ (coP p i) D/ jg D (aj p) 0)≤h:=Nat.le_trans (dP b) B
 have e1:eN (coP p i* (nQ D/ nQ (jg D (aj p) 0)))=nQ (iZ (coP p i) D/ jg D (aj p) 0):=by
  have e2:coP p i* (nQ D/ nQ (jg D (aj p) 0))=coP p i* nQ D/ nQ (jg D (aj p) 0):=by rw[Rat.div_def,Rat.div_def];grind
  have S:nQ (iZ (coP p i) D) / nQ (jg D (aj p) 0)=nQ (iZ (coP p i) D/ jg D (aj p) 0):=by
   rw[zp _ _ hN,x9 _ _ hN y]
  have o:(0:Rat)< nQ (jg D (aj p) 0):=by
   rw[←num_pos];show 0< ((jg D (aj p) 0:Nat):Int);omega
  rw[e2,←S,←f,u9,u9,Rat.div_def,Rat.div_def,cM];congr 1;have:(0:Rat)< (nQ (jg D (aj p) 0))⁻¹:=Rat.inv_pos.2 o;unfold ab;rw[if_neg (by grind)]
 rw[←Db,e1];exact nk hb h1;have:coP p i=0:=by rw[←ce];exact ef (by omega)
 rw[this,Rat.zero_mul];exact Nat.le_trans (by decide:qs 0≤1) h1
def hG:Nat→Nat→Nat→Nat→Nat→Nat→Bool
 |0,_,_,_,_,_=>false
 |f+1,m,n,s,t,X=>if n=0 then decide (s≤X) else
  decide (2^ (m+1- n) * (s+2* t+1)≤137438953472) && (List.range n).all fun k=>hG f n k t (s+(m+1- n) * (t+1)) X
theorem zL:∀f m n s t X (p q:List Rat),hG f m n s t X=true→(aj p).length=m→(aj q).length=n→bdL p s→bdL q t→Ht p s→Ht q t→1≤s→1≤t→p.length≤1000→q.length≤1000→X≤137438953472→
    ∃g,qf f p q=some g∧g.length≤1000∧Ht g X∧bdL g X
 |0,_,_,_,_,_,_,_,h,_,_,_,_,_,_,_,_,_,_,_=>by cases h
 |f+1,m,n,s,t,X,p,q,h,hm,hn,hp,hq,kp,kq,hs,ht,hp1,hq1,hX=>by
  rw[hG] at h;rw[qf];by_cases h0:n=0;rw[if_pos h0] at h;have d:=of_decide_eq_true h;have e:aj q=[]:=List.length_eq_zero_iff.1 (by omega);rw[if_pos e,if_pos (eP hp (by omega))];obtain⟨a,b⟩:=kp.monic hs;exact⟨_,rfl,Nat.le_trans (pZ p) hp1,b.mono d,fun x u=>Nat.le_trans (a x u) d⟩;rw[if_neg h0] at h;simp only[Bool.and_eq_true,decide_eq_true_eq,List.all_eq_true,List.mem_range] at h;obtain⟨z,w⟩:=h;have c:aj q≠[]:=fun e=>by grind
  have y:=dz hp hs;have v:=dz hq ht;have j:2^ (m+1- n) * (mxL p+2* mxL q+1)≤2^ (m+1- n) * (s+2* t+1):=Nat.mul_le_mul_left _ (by omega);rw[if_neg c,if_pos (show la p q from⟨by grind,by omega,by omega⟩)];have o:=(Fp kp kq c).2;rw[hm,hn] at o;obtain⟨b1,b2⟩:=o.monic (by omega);have l:=(sa (p:=p) (q:=q)).2;have r:=pZ (cf p q).2;have i:(aj (cf p q).2).length< n:=by rw[←hn];exact(oO p q c).2
  have k:(aj (cI (cf p q).2)).length=(aj (cf p q).2).length:=by
   by_cases hz:aj (cf p q).2=[];unfold cI;rw[if_pos hz,hz];rfl;unfold cI;rw[if_neg hz];exact xO fun e=>by have:=Rat.div_mul_cancel (a:=1) (c9 hz);grind
  exact zL f n _ t _ X q _ (w _ i) hn k hq b1 kq b2 ht (by omega) hq1 (by omega) hX
def cB:Nat→Nat→Nat→Nat→Nat→Nat→Nat→Bool
 |0,_,_,_,_,_,_=>false
 |f+1,m,n,s,t,b,T=>if n=0 then true else
  decide (t≤T) && decide ((n+4) * b≤34359738368) && decide (2^ (m+1- n) * (s+2* t+1)≤137438953472) &&
   (List.range n).all fun k=>cB f n k t (s+(m+1- n) * (t+1)) (2^ (m+1- n) * (s+2* t+1)) T
theorem yE:∀k f m n s t b T (last next:List Rat) (acc:List (List Rat)),cB k m n s t b T=true→(aj last).length=m→(aj next).length=n→next.length=n→bdL last s→Ht last s→Ht next t→bdL next b→1≤s→1≤t→1≤b→last.length≤1000→next.length≤1000→
    ∃out,oa f k last next acc=some out∧out.length≤acc.length+n∧∀q∈out,q∈acc∨(nz q∧q.length≤n∧bdL q T)
 |0,_,_,_,_,_,_,_,_,_,_,h,_,_,_,_,_,_,_,_,_,_,_,_=>by cases h
 |k+1,f,m,n,s,t,b,T,last,next,acc,h,hm,hn,hnl,hl,kl,kn,hnb,hs,ht,hb,hl1,hn1=>by
  rw[cB] at h;rw[oa];by_cases h0:n=0
  ·grind
  rw[if_neg h0] at h;simp only[Bool.and_eq_true,decide_eq_true_eq,List.all_eq_true,List.mem_range] at h;obtain⟨⟨⟨E,O⟩,N⟩,F⟩:=h;have g:aj next≠[]:=fun e=>by grind
  obtain⟨p1,p2⟩:=kn.prim g ht;obtain⟨c,K,hc⟩:=ov g;obtain⟨d1,d2,_⟩:=jS g (show c≠0 by grind) hc
  have d:(aj (bU next)).length=n:=by
   have L:=List.length_pos_iff.2 d1;have M:=List.length_pos_iff.2 g;unfold dg at d2;omega
  have w:=dz hnb hb;have z:=dz hl hs;have G:=dz p1 ht
  have C:(bU next).length=n:=by
   unfold bU;unfold bU at d;rw[←d];unfold aL;rw[cw]
  have r:2^ (m+1- n) * (mxL last+2* mxL (bU next)+1)≤2^ (m+1- n) * (s+2* t+1):=Nat.mul_le_mul_left _ (by omega);have o:(n+4) * mxL next≤(n+4) * b:=Nat.mul_le_mul_left _ w
  rw[if_neg g,if_pos (show vY next∧la last (bU next)∧aj (bU next)≠[] from⟨⟨by grind,by omega⟩,⟨by grind,by omega,by omega⟩,d1⟩)];have y:=(Fp kl p2 d1).2;rw[hm,d] at y;have u:=(Fq hl p1 hs ht d1 (by rw[hm,d];exact Nat.le_refl _)).2;have j:1≤2^ (m+1- n) * (s+2* t+1):=Nat.mul_pos (Nat.two_pow_pos _) (by omega);have l:(-1:Rat)≠0:=by decide+kernel
  have p:(aj (aL (cf last (bU next)).2 (-1))).length< n:=by rw[xO l,←d];exact(oO last _ d1).2
  have v:(aL (cf last (bU next)).2 (-1)).length=(aj (aL (cf last (bU next)).2 (-1))).length:=by unfold aL;rw[cw]
  obtain⟨out,o1,o2,D⟩:=yE k f n _ t _ _ T (bU next) (aL (cf last (bU next)).2 (-1)) (acc++[bU next]) (F _ p) d rfl v p1 p2 (y.scale l fun i=>cS _ _ i)
   (js fun i=>by
    rw[cS,show coP (cf last (bU next)).2 i* -1= -coP (cf last (bU next)).2 i by grind,fv];exact fI u j i) ht (by omega) j (by omega) (by omega)
  refine⟨out,o1,?_,fun q A=>?_⟩;rw[List.length_append,List.length_singleton] at o2;omega;rcases D q A with h|⟨a,J,H⟩
  rcases List.mem_append.1 h with h|h
  exact .inl h;rw[List.mem_singleton.1 h];exact .inr ⟨d1,by omega,fun x B=>Nat.le_trans (p1 x B) E⟩;grind
theorem pC(p:List Rat)(k:Rat):aj (aL p k)=aL p k:=cw _
theorem pD(p:List Rat):aj (cI p)=cI p:=by
 unfold cI;split;rfl;exact cw _
theorem oQ{p:List Rat}(h:nz p):(aN p).length< (aj p).length:=by
 have b:=List.length_pos_iff.2 h
 have e:aN p=aN (aj p):=by
  have h1:aj (aN p)=aN p:=cw _;have a:aj (aN (aj p))=aN (aj p):=cw _;rw[←h1,←a];exact kz fun i=>by rw[ek,ek,ce]
 have:=li (aj p);grind

theorem Jh{lead:Rat}{s:Nat}(hl:qs lead≤s):∀(l:List Rat) (m:Rat),bdL l s→qs m≤2* s+1→qs (boL lead l m)≤2* s+1
 |[],m,_,h=>h
 |c::l,m,hb,h=>by
  refine Jh hl l _ (fun q b=>hb q (List.mem_cons_of_mem _ b)) (zx (fun x a=>?_) (Nat.le_add_left 1 _));have h1:=hb c (List.mem_cons_self ..);have d:=iN c lead;rcases List.mem_cons.1 a with rfl|a
  exact h;rw[List.mem_singleton.1 a,Db];omega
theorem Jf{p:List Rat}{s:Nat}(h:bdL p s)(hs:1≤s):qs (cj p)≤2* s+3:=by
 have h1:=Jh (zF h hs) ((aj p).take ((aj p).length- 1)) 0 (fun q a=>h q (df (List.mem_of_mem_take a))) (Nat.le_trans (by decide:qs 0≤1) (Nat.le_add_left 1 _));have b:=fX (boL (aF p) ((aj p).take ((aj p).length- 1)) 0) 1;have c:=qs_one;unfold cj;omega
def Far(p:List Rat)(x y:Rat):Prop:=∃e:Rat,0< e∧∀z,x≤z→z≤y→e≤ab (af p z)
theorem Far.sub{p:List Rat}{x y x' y':Rat}(h:Far p x y)(hx:x≤x')(hy:y'≤y):Far p x' y':=by
 obtain⟨e,c,hf⟩:=h;exact⟨e,c,fun z a b=>hf z (by grind) (by grind)⟩
theorem Em{x:Rat}(h:x≠0):0< ab x:=by unfold ab;grind
theorem lr:ab 0=0:=by decide+kernel
theorem sgE_ne{p:List Rat}{x:Rat}:sgE x p≠0↔af p x≠0:=by
 rcases bR x p with⟨a,b⟩|⟨a,b⟩|⟨a,b⟩
 exact⟨fun _=>by grind,fun _=>by omega⟩;exact⟨fun _=>by grind,fun _=>by omega⟩;grind
theorem Far.ne{p:List Rat}{x y z:Rat}(h:Far p x y)(h1:x≤z)(h2:z≤y):af p z≠0:=fun g=>by
 obtain⟨e,a,hf⟩:=h;have:=hf z h1 h2;rw[g,lr] at this;grind
theorem Far.sg{p:List Rat}{x y z:Rat}(h:Far p x y)(h1:x≤z)(h2:z≤y):sgE z p=sgE x p:=by
 obtain⟨e,i,hf⟩:=h;obtain⟨h,g,j⟩:=keep p (lH x y) i
 have:=way (f:=fun z=>sgE z p) (· = ·) (fun _=>rfl) (fun _ _ _=>Eq.trans) g h1 fun u v a b c d=>
  (j u v (iY a (by grind)) (iY (by grind) (by grind)) (El b d) (hf u a (by grind))).1.symm
 grind
theorem Far.dv{d p:List Rat}{x y:Rat}(h:Far p x y)(hd:Dv d p):Far d x y:=by
 obtain⟨e,j,hf⟩:=h;obtain⟨w,k⟩:=hd;have f:=lH x y;have i:=mA f w;obtain⟨c,l,n⟩:=part e (d:=bV (ab x+ab y) w+1) j (by grind);refine⟨c,l,fun z a b=>?_⟩;by_cases g:c≤ab (af d z);exact g;have h1:=hf z a b;rw[k,cM] at h1;have m:=dw (fE f (iY a b) w) (show ab (af d z)≤c by grind) (cZ _) i;grind
theorem Far.mul{p q r:List Rat}{x y:Rat}(hp:Far p x y)(hq:Far q x y)(h:∀z,af r z=af p z* af q z):Far r x y:=by
 obtain⟨e,c,hf⟩:=hp;obtain⟨g,hg,hG⟩:=hq;refine⟨e* g,Rat.mul_pos c hg,fun z a b=>?_⟩;rw[h,cM];exact dw (hf z a b) (hG z a b) (by grind) (cZ _)
theorem Far.const{p:List Rat}{c x y:Rat}(hc:c≠0)(h:∀z,af p z=c):Far p x y:=⟨ab c,Em hc,fun z _ _=>by grind⟩
theorem Far.k{p r:List Rat}{k x y:Rat}(hk:k≠0)(h:∀z,af r z=af p z* k)(hp:Far p x y):Far r x y:=
 hp.mul (Far.const (p:=[k]) hk fun z=>by rw[aE,aM];grind) fun z=>by rw[aE,aM];grind
def SF(p s:List Rat):Prop:=∃g t a b:List Rat,nz g∧(∀x,af p x=af s x* af g x)∧(∀x,dvE p x=af t x* af g x)∧∀x,af g x=af a x* af p x+af b x* dvE p x
theorem SF.ex{p:List Rat}(hp:nz p):∃s,SF p s:=by
 obtain⟨g,a,b,c,⟨s,hs⟩,⟨t,ht⟩,hg⟩:=bez _ p (aN p) rfl (.inl hp);exact⟨s,g,t,a,b,c,hs,fun x=>by rw[←bY,ht],fun x=>by rw[hg,bY]⟩
theorem FA{g u v:List Rat}(hg:nz g)(h:∀x,af g x* af u x=af g x* af v x)(x:Rat):af u x=af v x:=by
 have hs:∀x,af g x* af (cn u v) x=0:=fun x=>by rw[dJ];grind
 have n:¬nz (cn u v):=fun e=>by
  have:=(dg_mul' (r:=[]) hg e fun x=>by rw[hs,aM]).1;exact this rfl
 have:=ig n x;rw[dJ] at this;grind
theorem BZ{p s g:List Rat}(h:∀x,af p x=af s x* af g x)(x:Rat):dvE p x=dvE s x* af g x+af s x* dvE g x:=by
 rw[←rZ];exact r8 (fun x=>by rw[h,bh]) x
theorem SF.far:∀(n:Nat) (p s:List Rat),dg p≤n→nz p→SF p s→∀x y,Far s x y→Far p x y
 |n,p,s,hn,hp,⟨g,t,a,b,g0,h1,h2,h3⟩,x,y,hf=>by
  have m:Dv g p:=⟨s,h1⟩;by_cases hd:dg g=0;obtain⟨c,q,hc⟩:=pX g0 hd;exact hf.mul (Far.const q hc) h1;have h:dg p≠0:=fun e=>by have:=m.dg hp;omega
  obtain⟨v,C⟩:=tK h hp;have gl:dg g≤dg (aN p):=Dv.dg (p:=aN p) ⟨t,fun x=>by rw[bY,h2]⟩ v;cases n with
  |zero=>omega
  |succ n=>
  obtain⟨d,l⟩:=SF.ex g0;have f:=l;obtain⟨i,e,k,b1,j,u,z,k3⟩:=f
  have one:∀x,af (fV (aJ k d) (aJ b1 e)) x=af [1] x:=FA j fun x=>by
   have:=k3 x;rw[u,z] at this;rw[eF,bh,bh,aE,aM];grind
  have two:∀x,af (aJ s e) x=af (aJ (cn t (aN s)) d) x:=FA j fun x=>by
   have B:=h2 x;have A:=BZ h1 x;have E:af g x* (af s x* af e x- (af t x- dvE s x) * af d x)=0:=by grind
   have D:af i x* (af s x* af e x)=af i x* ((af t x- dvE s x) * af d x):=by grind
   rw[bh,bh,dJ,bY];grind
  have r:Dv d s:=⟨fV (aJ k s) (aJ b1 (cn t (aN s))),fun x=>by
   have o:=one x;have w:=two x;rw[eF,bh,bh,aE,aM] at o;rw[bh,bh] at w;rw[eF,bh,bh];grind⟩
  exact hf.mul (SF.far n g d (by omega) g0 l x y (hf.dv r)) h1
theorem ko{f:Nat}{p:List Rat}{c:Cnt}(h:gx f p=some c)(hp:nz p):SF p c.p∧Dv c.p p∧∃(L:List (List Rat)) (k:Rat),c.ch=bU c.p::L∧0< k∧(∀x,af (bU c.p) x=af c.p x* k)∧Sq (bU c.p) L:=by
 obtain⟨D,i,l,_,_,_⟩:=iW h hp;have C:=h;have n:=sP i hp
 have q:SF p c.p∧Dv c.p p:=by
  unfold xk at i;split at i;cases hg:qf f p (aN p) with
  |none=>grind
  |some g=>
   rw[hg,Option.bind_some] at i;split at i;have r:=Option.some.inj i;obtain⟨w,F,⟨t,ht⟩,a,b,g3⟩:=nU f _ _ _ hg (.inl hp);obtain⟨m1,m2⟩:=lb p w;obtain⟨u,K⟩:=F;have E:=zw (u:=u) (v:=[]) w (fun x=>by rw[K x,aM];grind) (fun e=>absurd rfl e)
   have hs:∀x,af p x=af (cf p g).1 x* af g x:=fun x=>by
    have:=m1 x;rw[E x,aM] at this;grind
   obtain⟨k,o,s,m⟩:=uN (cf p g).1;rw[r] at m;have e1:∀x,af p x=af c.p x* af (aL g o) x:=fun x=>by rw[hs,m,aR];grind
   have y:o≠0:=fun e=>by grind
   refine⟨⟨aL g o,aL t k,aL a o,aL b o,(jS w y (aR g o)).1,e1,fun x=>?_,fun x=>?_⟩,aL g o,fun x=>by grind⟩;rw[aR,aR,←bY,ht];grind;rw[aR,aR,aR,g3,bY];grind;grind
  grind
 refine⟨q.1,q.2,?_⟩;unfold mG at l;split at l;obtain⟨L,e,N⟩:=n8 _ _ _ _ _ _ l;obtain⟨k,B,s⟩:=ov D;have j:k≠0:=by grind
 have z:nz (bU c.p):=(jS D j s).1;have J:k* (1/ k)=1:=by grind
 have A:0< 1/ k:=by
  obtain⟨m,m0,m1⟩:=part 1 (d:=k) (by decide+kernel) B;rw[←m1,Rat.mul_div_cancel j];exact m0
 obtain⟨c1,O⟩:=N.ch z fun d d0 d1 d2=>n.2 d d0 (d1.scale (k:=1/ k) fun x=>by rw[s];generalize 1/ k=m at *;grind) d2;refine⟨L,k,e,B,s,c1,fun v M hv=>?_⟩;obtain⟨G,H,hv⟩:=O v M hv;refine⟨G* (1/ k),Rat.mul_pos H A,fun x=>?_⟩;rw[hv,bY,yw s x];generalize 1/ k=m at *
 grind;grind
section
variable {f:Nat}{p:List Rat}{c:Cnt}(h:gx f p=some c)(hp:nz p)
include h hp
theorem gP{x y:Rat}(hxy:x≤y):bZ c x≤bZ c y:=(iW h hp).2.2.2.2.2 x y hxy
theorem eY{w x:Rat}(hwx:w< x):bZ c w≤aZ c x:=by
 obtain⟨_,_,L,k,e,d,b,a⟩:=ko h hp;unfold aZ;by_cases g:af c.p x=0;have:=a.root hwx (by grind);unfold bZ;rw[e];unfold chV at this;omega;rw[if_neg g];exact gP h hp (by grind)
theorem fi(x:Rat):aZ c x≤bZ c x∧bZ c x≤aZ c x+1:=by unfold aZ;grind
theorem gV{x y:Rat}(hxy:x≤y):bZ c y=aZ c x↔Far p x y:=by
 obtain⟨f,i,L,k,e,u,s,m⟩:=ko h hp;have n:k≠0:=by grind
 have t:=gP h hp hxy;have d:∀z,bZ c z=c.far- chV (bU c.p::L) z:=fun z=>by unfold bZ chV;rw[e]
 constructor;intro g;have l:af c.p x≠0:=fun r=>by unfold aZ at g;grind
 unfold aZ at g;rw[if_neg l,d,d] at g;obtain⟨ε,ε0,hε⟩:=m.away hxy (fun r=>l (by grind)) (by omega);have j:Far (bU c.p) x y:=⟨ε,ε0,fun z a b=>(hε z a b).1⟩;have q:Dv c.p (bU c.p):=⟨[k],fun x=>by rw[aE,aM];grind⟩;exact SF.far _ p c.p (Nat.le_refl _) hp f x y (j.dv q);intro j;have hc:=j.dv i;have o:Far (bU c.p) x y:=hc.k n s;obtain⟨ε,ε0,hε⟩:=o;have:=m.calm ε0 hxy hε;unfold aZ;rw[if_neg (hc.ne (by grind) hxy),d,d];omega
end
def lag(v:List Rat):Nat→Rat
 |0=>0
 |m+1=>coP v m
theorem Jc(v:List Rat)(c:Rat)(n:Nat):coP (aJ v [c,1]) n=coP v n* c+lag v n:=by
 have e:aj (aJ v [c,1])=aj (aJ [c,1] v):=jO fun x=>by rw[bh,bh];grind
 rw[trim_iff.1 e n,oT];show coP (kY (fb v c) (0::kY (fb v 1) (0::[]))) n=_;rw[iX,gM];cases n with
 |zero=>rw[dA];rfl
 |succ m=>
  rw[dm,iX,gM];have:coP [(0:Rat)] m=0:=by cases m <;> rfl
  rw[this];show _+(coP v m* 1+0)=_+coP v m;grind
theorem pH(v:List Rat)(c:Rat):(aJ v [c,1]).length≤v.length+1:=by
 by_cases h:v=[];subst h;unfold aJ;simp;have:=FZ v [c,1] h;simpa using this
theorem jG(p:List Rat):(ax p).length≤p.length+1:=by
 have:=bO (aW (p.length+1) fun i=>if i=0 then 0 else coP p (i- 1) / ((i:Nat):Int));simp at this;unfold ax;omega
theorem nw(p q:List Rat):(cn p q).length≤max p.length q.length:=by
 have h1:=kU p (aL q (-1));have a:=dn q (-1);unfold cn;omega
theorem xc{l:List Rat}{a b:Nat}(h:bdL l a)(hab:a≤b):bdL l b:=fun q c=>Nat.le_trans (h q c) hab
theorem bd_co'{p:List Rat}{s:Nat}(h:bdL p s)(hs:1≤s):∀i,qs (coP p i)≤s:=fun i=>fI h hs i
theorem bdL_neg{p:List Rat}{s:Nat}(h:bdL p s)(hs:1≤s):bdL (aL p (-1)) s:=js fun i=>by
 rw[cS,show coP p i* (-1)= -coP p i by grind,fv];exact bd_co' h hs i
theorem Cr{p q:List Rat}{s t:Nat}(hp:bdL p s)(hq:bdL q t)(hs:1≤s)(ht:1≤t):bdL (fV p q) (s+t+1):=js fun i=>by
 rw[eX];have:=fX (coP p i) (coP q i);have:=bd_co' hp hs i;have:=bd_co' hq ht i;omega
theorem Jo{p q:List Rat}{s t:Nat}(hp:bdL p s)(hq:bdL q t)(hs:1≤s)(ht:1≤t):bdL (cn p q) (s+t+1):=Cr hp (bdL_neg hq ht) hs ht
def shP(i:Nat)(v:List Rat):List Rat:=List.replicate i 0++v
theorem pT(i:Nat)(v:List Rat):(shP i v).length=i+v.length:=by simp[shP]
theorem AT(i:Nat)(v:List Rat):shP (i+1) v=0::shP i v:=by simp[shP,List.replicate_succ]
theorem BT(v:List Rat)(x:Rat):∀i,af (shP i v) x=af v x* x^ i
 |0=>by simp[shP]
 |i+1=>by
  rw[AT,aE,BT v x i,Rat.pow_succ];grind
theorem tO(v:List Rat)(i n:Nat):coP (shP i v) n=if n< i then 0 else coP v (n- i):=by
 induction i generalizing n with
 |zero=>simp[shP]
 |succ i a=>
  rw[AT];cases n with
  |zero=>rw[dA,if_pos (by omega)]
  |succ n=>
   rw[dm,a,Nat.add_sub_add_right];by_cases h:n< i;rw[if_pos h,if_pos (by omega)];rw[if_neg h,if_neg (by omega)]
def mR(p q:List Rat):Nat→List Rat
 |0=>[]
 |n+1=>fV (mR p q n) (shP n (aL p (coP q n)))
theorem BU(p q:List Rat)(x:Rat):∀n,n≤q.length→af (mR p q n) x=af p x* af (q.take n) x
 |0,_=>by simp[mR,aM]
 |n+1,h=>by
  rw[mR,eF,BU p q x n (by omega),BT,aR,wD q x n (by omega)];grind
theorem trim_mR(p q:List Rat):∀n,aj (mR p q n)=mR p q n
 |0=>rfl
 |n+1=>cw _
theorem FK(p q:List Rat):aj (aJ p q)=aJ p q:=by
 unfold aJ;split;rfl;exact cw _
theorem H4(p q:List Rat):mR p q q.length=aJ p q:=by
 rw[←trim_mR,←FK];refine jO fun x=>?_;rw[BU p q x _ (Nat.le_refl _),List.take_length,bh]
theorem uP{p:List Rat}{a:Rat}{d:Nat}:∀n,n≤d→mR p (shP d [a]) n=[]
 |0,_=>rfl
 |n+1,h=>by
  rw[mR,uP n (by omega)];refine trim_nil_iff.2 fun i=>?_;have h1:coP (shP d [a]) n=0:=by rw[tO,if_pos (by omega)]
  have b:coP (aW (max ([]:List Rat).length (shP n (aL p (coP (shP d [a]) n))).length) fun i=>coP [] i+coP (shP n (aL p (coP (shP d [a]) n))) i) i=coP [] i+coP (shP n (aL p (coP (shP d [a]) n))) i:=by
   rw[←ce];exact eX _ _ i
  rw[b,kf,tO,cS,h1];split <;> grind
theorem Dm{p:List Rat}{a:Rat}{d s:Nat}(hp:bdL p s)(hs:1≤s)(n:Nat)(hn:n≤d+1):bdL (mR p (shP d [a]) n) (s+qs a+2):=by
 by_cases h:n≤d;rw[uP n h];exact fun _ h=>by cases h
 have:n=d+1:=by omega
 subst this;refine js fun i=>?_;rw[mR,eX,uP d (Nat.le_refl _),kf,Rat.zero_add,tO];split;have:qs 0=1:=by decide
 omega;rw[cS,tO,if_neg (by omega),Nat.sub_self,dA];have:=dk (coP p (i- d)) a;have:=bd_co' hp hs (i- d);omega
theorem Jb(d:List Rat)(a:Rat)(k j:Nat):coP (aJ d (shP k [a])) j=if j< k then 0 else coP d (j- k) * a:=by
 have e:mR d (shP k [a]) (shP k [a]).length=aJ d (shP k [a]):=H4 _ _;rw[←e,show(shP k [a]).length=k+1 by rw[pT];rfl,mR,eX,uP k (Nat.le_refl _),kf,Rat.zero_add,tO,cS,tO,if_neg (Nat.lt_irrefl k),Nat.sub_self,dA]
theorem Bp{v:List Rat}{n:Nat}(h:aj v=v)(hn:v.length=n+1):coP v n=aF v:=by
 have:=c8 (l:=v) (n:=n) (by rw[h];exact hn);rw[h,cK (by omega)] at this;exact Option.some.inj this
theorem He{v d:List Rat}(hv:aj v=v)(hd:aj d=d)(hd0:d≠[])(hl:d.length≤v.length):(cn v (aJ d (shP (v.length- d.length) [aF v/ aF d]))).length< v.length:=by
 have g:=List.length_pos_iff.2 hd0;obtain⟨m,c⟩:∃m,d.length=m+1:=⟨d.length- 1,by omega⟩;obtain⟨n,e⟩:∃n,v.length=n+1:=⟨v.length- 1,by omega⟩;have f:aF d≠0:=c9 (by rw[hd];exact hd0)
 have a:∀j,n≤j→coP (cn v (aJ d (shP (v.length- d.length) [aF v/ aF d]))) j=0:=fun j i=>by
  rw[gX,Jb,if_neg (by omega)];by_cases h:j=n;subst h;rw[Bp hv e,show j- (v.length- d.length)=m by omega,Bp hd c];grind;rw[ef (p:=v) (by omega),ef (p:=d) (by omega)];grind
 have h1:=qB a;have b:aj (cn v (aJ d (shP (v.length- d.length) [aF v/ aF d])))=cn v (aJ d (shP (v.length- d.length) [aF v/ aF d])):=cw _;rw[b] at h1;omega
theorem FJ(p q:List Rat):aj (cn p q)=cn p q:=cw _
theorem step_bd{v d:List Rat}{b t:Nat}(hv:bdL v b)(hd:bdL d t)(hb:1≤b)(ht:1≤t)(hd0:d≠[])(k:Nat):qs (aF v/ aF d)≤b+t∧bdL (aJ d (shP k [aF v/ aF d])) (2* t+b+2)∧bdL (cn v (aJ d (shP k [aF v/ aF d]))) (2* b+2* t+3):=by
 have h1:=zF hv hb;have e:=zF hd ht;have f:=iN (aF v) (aF d)
 have c:bdL (aJ d (shP k [aF v/ aF d])) (2* t+b+2):=by
  have:=Dm (a:=aF v/ aF d) (d:=k) hd ht (k+1) (Nat.le_refl _);rw[show k+1=(shP k [aF v/ aF d]).length by rw[pT];rfl,H4] at this;exact xc this (by omega)
 exact⟨by omega,c,xc (Jo hv c hb (by omega)) (by omega)⟩
theorem bdL_sh{v:List Rat}{b:Nat}(h:bdL v b)(hb:1≤b)(k:Nat):bdL (shP k v) b:=fun q c=>by
 rcases List.mem_append.1 c with a|a
 rw[List.eq_of_mem_replicate a];have:qs 0=1:=by decide
 omega;exact h q a

end Go.Abs
