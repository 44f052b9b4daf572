/- Part V13 of the proof. -/
import Derived.Test.YtkhclghbcicapaaGreatDoorV12
set_option linter.all false
namespace Go.Abs
inductive Gsn:Int→List Int→List Int→Prop
 |nil {t:Int}:Gsn t [] []
 |solid {t s:Int} {l l':List Int}:s≠0→Gsn s l l'→Gsn t (s::l) (s::l')
 |weak {t x y:Int} {l l':List Int}:(x=0∨x=t∨x= -t)→(y=0∨y=t∨y= -t)→Gsn (-t) l l'→Gsn t (x:: -t::l) (y:: -t::l')
theorem oa:∀(l:List Int) (n t:Int),chL l n t=n+chL l 0 t
 |[],n,t=>by simp[chL]
 |s::l,n,t=>by
  unfold chL;by_cases hs:s≠0;rw[if_pos hs,if_pos hs,oa l (if s= -t then n+1 else n),oa l (if s= -t then 0+1 else 0)];split <;> omega;rw[if_neg hs,if_neg hs];exact oa l n t
theorem A5{t x:Int}(ht:t≠0)(hx:x=0∨x=t∨x= -t)(l:List Int)(n:Int):chL (x:: -t::l) n t=chL l (n+1) (-t):=by
 rcases hx with rfl|rfl|rfl
 rw[chL,if_neg (by simp),chL,if_pos (by omega),if_pos rfl];rw[chL,if_pos ht,if_neg (by omega),chL,if_pos (by omega),if_pos rfl];rw[chL,if_pos (by omega),if_pos rfl,chL,if_pos (by omega),if_neg (by omega)]
theorem vE{t:Int}{l l':List Int}(h:Gsn t l l'):t≠0→∀n,chL l n t=chL l' n t:=by
 induction h with
 |nil=>exact fun _ _=>rfl
 |solid hs _ a=>
  intro ht n;rw[chL,if_pos hs,chL,if_pos hs];exact a hs _
 |weak c b _ a=>
  intro ht n;rw[A5 ht c,A5 ht b];exact a (by omega) _
theorem vD{s:Int}{l l':List Int}(hs:s≠0)(h:Gsn s l l'):chL (s::l) 0 0=chL (s::l') 0 0:=by
 rw[chL,if_pos hs,chL,if_pos hs];exact vE h hs _
theorem A6{s s' t:Int}{l l':List Int}(ht:t=1∨t= -1)(hs: -1≤s∧s≤1)(hs': -1≤s'∧s'≤1)(hm:t* s≤t* s')(h:Gsn t l l'):chL (s'::t::l') 0 0≤chL (s::t::l) 0 0:=by
 have a:t≠0:=by omega
 have b:∀(u:Int) (k:List Int),-1≤u∧u≤1→chL (u::t::k) 0 0=(if u= -t then 1 else 0)+chL k 0 t:=fun u k c=>by
  by_cases h0:u=0;subst h0;rw[chL,if_neg (by simp),chL,if_pos a,if_neg (by omega),if_neg (by omega)];omega;rw[chL,if_pos h0,if_neg (by omega),chL,if_pos a,oa];by_cases h1:u= -t;rw[if_pos (by omega),if_pos h1];omega;rw[if_neg (by omega),if_neg h1]
 rw[b s l hs,b s' l' hs',vE h a 0];rcases ht with rfl|rfl <;> split <;> split <;> omega
theorem num_pos{q:Rat}:0< q.num↔0< q:=by
 have a:0≤q.num↔0≤q:=Rat.num_nonneg;have b:q.num=0↔q=0:=Rat.num_eq_zero;grind
theorem fX{q:List Rat}{x:Rat}(h:0< af q x):sgE x q=1:=by
 have:=sgZ_num_gt.2 h;have:=nD (af q x).num;unfold sgE;omega
theorem jb{q:List Rat}{x:Rat}(h:af q x< 0):sgE x q= -1:=by
 have:=sgZ_num_lt.2 h;have:=nD (af q x).num;unfold sgE;omega
theorem k6{q:List Rat}{x:Rat}(h:af q x=0):sgE x q=0:=sgZ_num_eq.2 h
theorem eT(x:Rat)(q:List Rat): -1≤sgE x q∧sgE x q≤1:=nD _
theorem bK(x:Rat)(q:List Rat):(sgE x q=1∧0< af q x)∨(sgE x q= -1∧af q x< 0)∨(sgE x q=0∧af q x=0):=by
 by_cases h:0< af q x;exact .inl ⟨fX h,h⟩;by_cases h':af q x< 0;exact .inr (.inl ⟨jb h',h'⟩);have e:af q x=0:=by grind
 exact .inr (.inr ⟨k6 e,e⟩)
theorem pH{q:List Rat}{x y:Rat}(h:af q x≤af q y):sgE x q≤sgE y q:=by
 rcases bK x q with⟨a,b⟩|⟨a,b⟩|⟨a,b⟩
 rw[a,fX (by grind)];decide;have:=eT y q;omega;by_cases h0:0< af q y;rw[a,fX h0];decide;rw[a,k6 (by grind)];decide
theorem part(e:Rat){d:Rat}(he:0< e)(hd:0< d):∃h:Rat,0< h∧h* d=e:=by
 refine⟨e/ d,?_,Rat.div_mul_cancel (by grind)⟩;have e1:e/ d* d=e:=Rat.div_mul_cancel (by grind);by_cases h:0< e/ d;exact h;have a:e/ d* d≤0* d:=Rat.mul_le_mul_of_nonneg_right (by grind) (by grind);grind
theorem less(a b:Rat)(ha:0< a)(hb:0< b):∃h:Rat,0< h∧h≤a∧h≤b:=by grind
theorem keep(u:List Rat){R e:Rat}(hR:0≤R)(he:0< e):∃h:Rat,0< h∧∀x y:Rat,ab x≤R→ab y≤R→ab (y- x)≤h→e≤ab (af u x)→sgE y u=sgE x u∧sgE x u≠0:=by
 have l:=rg hR u;obtain⟨h,i,h1⟩:=part e (d:=2* (bL R u+1)) he (by grind);refine⟨h,i,fun x y k g j ha=>?_⟩;have m:=ie hR k g u;have o:=Rat.mul_le_mul_of_nonneg_left j l;have n:=ab_le (x:=af u y- af u x) (c:=ab (af u y- af u x))|>.1 (by grind);rcases bK x u with⟨a,b⟩|⟨a,b⟩|⟨a,b⟩
 have f:ab (af u x)=af u x:=by unfold ab;grind
 rw[a,fX (by grind)];decide;have f:ab (af u x)= -af u x:=by unfold ab;grind
 rw[a,jb (by grind)];decide;have f:ab (af u x)=0:=by rw[b];decide
 grind
inductive Ch:List Rat→List (List Rat)→Prop
 |one {u:List Rat} {c:Rat}:c≠0→(∀x,af u x=c)→Ch u []
 |pair {u v:List Rat}:Ch v []→Ch u [v]
 |step {u v w:List Rat} {L:List (List Rat)} {a c:Rat} {q:List Rat}:0< a→0< c→(∀x,a* af u x+c* af w x=af q x* af v x)→Ch v (w::L)→Ch u (v::w::L)
def Cl(u:List Rat)(L:List (List Rat)):Prop:=∀R e:Rat,0≤R→0< e→∃h:Rat,0< h∧∀x y:Rat,ab x≤R→ab y≤R→ab (y- x)≤h→e≤ab (af u x)→
 sgE y u=sgE x u∧sgE x u≠0∧Gsn (sgE x u) (L.map (sgE x)) (L.map (sgE y))
theorem Ch.const{v:List Rat}(h:Ch v []):∃c:Rat,c≠0∧∀x,af v x=c:=by
 cases h with
 |one hc h=>simp_all
theorem Ch.sg{v:List Rat}(h:Ch v [])(x y:Rat):sgE y v=sgE x v∧sgE x v≠0:=by
 obtain⟨c,hc,h⟩:=h.const;have e:sgE y v=sgE x v:=by unfold sgE;grind
 rcases bK x v with⟨a,b⟩|⟨a,b⟩|⟨a,b⟩
 omega;omega;grind
theorem Ch.cl{u:List Rat}{L:List (List Rat)}(H:Ch u L):Cl u L∧∀v L',L=v::L'→Cl v L':=by
 induction H with
 | @one u c hc n=>
  refine⟨fun R e f o=>?_,fun _ _ h=>by cases h⟩;obtain⟨h,z,h1⟩:=keep u f o;exact⟨h,z,fun x y b i k ha=>⟨(h1 x y b i k ha).1,(h1 x y b i k ha).2,.nil⟩⟩
 | @pair u v hv ih=>
  refine⟨fun R e f o=>?_,fun _ _ h=>by grind⟩;obtain⟨h,z,h1⟩:=keep u f o;refine⟨h,z,fun x y b i k ha=>⟨(h1 x y b i k ha).1,(h1 x y b i k ha).2,?_⟩⟩;simp only[List.map_cons,List.map_nil];rw[(hv.sg x y).1];exact .solid (hv.sg x y).2 .nil
 | @step u v w L a c q ha hc hrel hv ih=>
  refine⟨fun R e f o=>?_,fun _ _ h=>by cases h;exact ih.1⟩;have hQ:=lM f q;have r:=Rat.mul_pos ha o;obtain⟨e1,C,E⟩:=part (a* e) (d:=2* (bV R q+1)) r (by grind);obtain⟨e2,A,D⟩:=part (a* e) (d:=2* c) r (by grind);obtain⟨z,Q,S⟩:=keep u f o;obtain⟨h1,p1,M⟩:=ih.1 R e1 f C;obtain⟨G,p2,O⟩:=ih.2 w L rfl R e2 f A;obtain⟨F,J,T,W⟩:=less z h1 Q p1;obtain⟨h,p,l,m⟩:=less F G J p2;refine⟨h,p,fun x y b i k n=>?_⟩;obtain⟨s1,s2⟩:=S x y b i (by grind) n;refine⟨s1,s2,?_⟩;by_cases hvx:e1≤ab (af v x);obtain⟨t1,t2,s⟩:=M x y b i (by grind) hvx;simp only[List.map_cons] at s⊢;rw[t1];exact .solid t2 s;have b1:=dr (fu f b q) (show ab (af v x)≤e1 by grind) (cW _) hQ;rw[←cJ,←hrel x] at b1;have b2:=ab_le.1 b1;have X:bV R q* e1+e1=a* e/ 2:=by grind
  have j:sgE x w= -sgE x u∧e2≤ab (af w x):=by
   rcases bK x u with⟨t,B⟩|⟨t,B⟩|⟨t,B⟩
   have g3:ab (af u x)=af u x:=by unfold ab;rw[if_neg (by grind)]
   rw[g3] at n;have K:=Rat.mul_le_mul_of_nonneg_left n (show 0≤a by grind)
   have N:af w x≤ -e2:=by
    by_cases g:af w x≤ -e2;exact g;have:=Rat.mul_pos hc (show 0< af w x+e2 by grind);grind
   refine⟨by rw[t,jb (by grind)],?_⟩;unfold ab;rw[if_pos (by grind)];grind;have g3:ab (af u x)= -af u x:=by unfold ab;rw[if_pos B]
   rw[g3] at n;have K:=Rat.mul_le_mul_of_nonneg_left n (show 0≤a by grind)
   have N:e2≤af w x:=by
    by_cases g:e2≤af w x;exact g;have:=Rat.mul_pos hc (show 0< e2- af w x by grind);grind
   refine⟨by rw[t,fX (by grind)];decide,?_⟩;unfold ab;rw[if_neg (by grind)];grind;exact absurd t s2
  obtain⟨t1,t2,s⟩:=O x y b i (by grind) j.2;simp only[List.map_cons];rw[t1,j.1];rw[j.1] at s;have c1:=eT x u;have V:=eT x v;have U:=eT y v;exact .weak (by omega) (by omega) s
theorem Ch.bez{u:List Rat}{M:List (List Rat)}(H:Ch u M):∀v L,M=v::L→∃a b:List Rat,∀x,af a x* af u x+af b x* af v x=1:=by
 induction H with
 |one hc g=>grind
 | @pair u v hv ih=>
  intro f L h;cases h;obtain⟨c,hc,h⟩:=hv.const;refine⟨[],[1/ c],fun x=>?_⟩;rw[aE,aM];grind
 | @step u v w L a c q ha hc hrel hv ih=>
  intro f i h;obtain⟨e,d,h⟩:=ih w L rfl;refine⟨aL d (-(a/ c)),fO e (aL (aJ d q) (1/ c)),fun x=>?_⟩;rw[aR,ey,aR,ba];grind
theorem arch(c:Rat){h:Rat}(hh:0< h):∃n:Nat,c≤((n:Int):Rat) * h:=by
 by_cases hc:c≤0;exact⟨0,by grind⟩;obtain⟨k,a,e⟩:=part c (d:=h) (by grind) hh
 have h1:k≤((k.num.natAbs:Int):Rat):=by
  have b:0< k.num:=num_pos.2 a;rw[Rat.le_iff];show k.num* 1≤(k.num.natAbs:Int) * (k.den:Int);have g:=Int.mul_le_mul_of_nonneg_left (show(1:Int)≤(k.den:Int) by have:=k.den_pos;omega) (show 0≤k.num by omega);grind
 have f:=Rat.mul_le_mul_of_nonneg_right h1 (show 0≤h by grind);grind
theorem grid {f:Rat→Int} (r:Int→Int→Prop) (hr:∀a,r a a) (ht:∀a b c,r a b→r b c→r a c) {lo hi h:Rat} (hh:0< h)
    (hs:∀x y,lo≤x→x≤y→y≤hi→y- x≤h→r (f x) (f y)):∀(n:Nat) (x y:Rat),lo≤x→x≤y→y≤hi→y- x≤((n:Int):Rat) * h→r (f x) (f y)
 |0,x,y,h1,h2,h3,h4=>by grind
 |n+1,x,y,h1,h2,h3,h4=>by
  by_cases hd:y- x≤h;exact hs x y h1 h2 h3 hd;exact ht _ _ _ (hs x (x+h) h1 (by grind) (by grind) (by grind)) (grid r hr ht hh hs n (x+h) y (by grind) (by grind) h3 ((by grind)))
theorem way {f:Rat→Int} (r:Int→Int→Prop) (hr:∀a,r a a) (ht:∀a b c,r a b→r b c→r a c) {x y h:Rat} (hh:0< h) (hxy:x≤y)
    (hs:∀u v,x≤u→u≤v→v≤y→v- u≤h→r (f u) (f v)):r (f x) (f y):=by
 obtain⟨n,d⟩:=arch (y- x) hh;exact grid r hr ht hh hs n x y (by grind) hxy (by grind) d
def chV(l:List (List Rat))(x:Rat):Int:=chL (l.map (sgE x)) 0 0
theorem iD{x y u:Rat}(h1:x≤u)(h2:u≤y):ab u≤ab x+ab y:=by
 have b:=ab_le (x:=x) (c:=ab x)|>.1 (by grind);have a:=ab_le (x:=y) (c:=ab y)|>.1 (by grind);exact ab_le.2 ⟨by grind,by grind⟩
theorem C8{u v h:Rat}(h1:u≤v)(h2:v- u≤h):ab (v- u)≤h:=by
 unfold ab;grind
theorem Ch.same{u:List Rat}{L:List (List Rat)}(H:Ch u L){e x y:Rat}(he:0< e)(hxy:x≤y)(ha:∀z,x≤z→z≤y→e≤ab (af u z)):chV (u::L) x=chV (u::L) y:=by
 obtain⟨h,g,h1⟩:=H.cl.1 (ab x+ab y) e (by have:=cW x;have:=cW y;grind) he;refine way (f:=chV (u::L)) (· = ·) (fun _=>rfl) (fun _ _ _=>Eq.trans) g hxy fun z w a b c d=>?_;obtain⟨s1,s2,i⟩:=h1 z w (iD a (by grind)) (iD (by grind) c) (C8 b d) (ha z a (by grind));unfold chV;simp only[List.map_cons];rw[s1];exact vD s2 i
theorem Gs{k T d uz uw D e v:Rat}(hk:0< k)(h1:k* -T≤k* (uw- uz- d* D))(h2:T* k≤d* e)(h3:d* e≤d* v)(h4:v=k* D):uz≤uw:=by
 subst h4;by_cases h:uz≤uw;exact h;have:=Rat.mul_pos hk (show 0< uz- uw by grind);grind
theorem outweigh'{k T d uz uw D e v:Rat}(hk:0< k)(h1:k* (uw- uz- d* D)≤k* T)(h2:T* k≤d* e)(h3:d* e≤d* -v)(h4:v=k* D):uw≤uz:=by
 subst h4;by_cases h:uw≤uz;exact h;have:=Rat.mul_pos hk (show 0< uw- uz by grind);grind
theorem Ch.fall{u v:List Rat}{L:List (List Rat)}{k:Rat}(H:Ch u (v::L))(hk:0< k)(hd:∀x,af v x=k* dvE u x){x y:Rat}(hxy:x≤y):chV (u::v::L) y≤chV (u::v::L) x:=by
 have g:0≤ab x+ab y:=by have:=cW x;have:=cW y;grind
 generalize B:ab x+ab y=R at g;obtain⟨a,b,hb⟩:=H.bez v L rfl;have hA:=lM g a;have hB:=lM g b;obtain⟨e,K,Y⟩:=part 1 (d:=2* (bV R a+bV R b+1)) (by decide+kernel) (by grind);obtain⟨h1,p1,T⟩:=H.cl.1 R e g K;obtain⟨Q,p2,X⟩:=H.cl.2 v L rfl R e g K;have U:=Bj g u;obtain⟨o,S,W⟩:=part e (d:=k* (bT R u+1)) K (Rat.mul_pos hk (by grind));obtain⟨V,N,Z,m4⟩:=less h1 Q p1 p2;obtain⟨h,p,l,m⟩:=less V o N S;refine way (f:=chV (u::v::L)) (fun s t=>t≤s) (fun _=>Int.le_refl _) (fun _ _ _ J M=>Int.le_trans M J) p hxy fun z w J M g3 g4=>?_;have j:ab z≤R:=by rw[←B];exact iD J (by grind)
 have E:ab w≤R:=by rw[←B];exact iD (by grind) g3
 have F:ab (w- z)=w- z:=by unfold ab;rw[if_neg (by grind)]
 by_cases hu:e≤ab (af u z);obtain⟨s1,s2,r⟩:=T z w j E (by grind) hu;refine Int.le_of_eq ?_;unfold chV;simp only[List.map_cons] at r⊢;rw[s1];exact(vD s2 r).symm
 have hv:e≤ab (af v z):=by
  by_cases hv:e≤ab (af v z);exact hv;have n1:=dr (fu g j a) (show ab (af u z)≤e by grind) (cW _) hA;have n2:=dr (fu g j b) (show ab (af v z)≤e by grind) (cW _) hB;have O:=gO (af a z* af u z) (af b z* af v z);rw[hb z,cJ,cJ,show ab 1=1 by decide+kernel] at O;grind
 obtain⟨s1,s2,r⟩:=X z w j E (by grind) hv;have i:=nX g j E u;rw[F] at i;have q:=ab_le.1 i;have A:=hd z
 -- the derivative outweighs what leaves the tangent
 have c:bT R u* ((w- z) * (w- z)) * k≤(w- z) * e:=by
  have q1:=Rat.mul_le_mul_of_nonneg_right (show w- z≤o by grind) (show 0≤w- z by grind);have q2:=Rat.mul_le_mul_of_nonneg_left q1 U;have q3:=Rat.mul_le_mul_of_nonneg_right q2 (show 0≤k by grind);have q4:(w- z) * e=bT R u* (o* (w- z)) * k+(w- z) * o* k:=by rw[←W];grind
  have q5:=Rat.mul_nonneg (Rat.mul_nonneg (show 0≤w- z by grind) (show 0≤o by grind)) (show 0≤k by grind);grind
 have n:0≤w- z:=by grind
 unfold chV;simp only[List.map_cons];rw[s1];rcases bK z v with⟨c1,D⟩|⟨c1,D⟩|⟨c1,D⟩
 have C:ab (af v z)=af v z:=by unfold ab;rw[if_neg (by grind)]
 rw[C] at hv;have G:=Rat.mul_le_mul_of_nonneg_left hv n;have up:af u z≤af u w:=Gs hk (Rat.mul_le_mul_of_nonneg_left q.1 (by grind)) c G A;exact A6 (.inl c1) (eT z u) (eT w u) (by rw[c1];have:=pH up;omega) r;have C:ab (af v z)= -af v z:=by unfold ab;rw[if_pos D]
 rw[C] at hv;have G:=Rat.mul_le_mul_of_nonneg_left hv n;have up:af u w≤af u z:=outweigh' hk (Rat.mul_le_mul_of_nonneg_left q.2 (by grind)) c G A;exact A6 (.inr c1) (eT z u) (eT w u) (by rw[c1];have:=pH up;omega) r;exact absurd c1 s2
def nz(p:List Rat):Prop:=aj p≠[]
def dg(p:List Rat):Nat:=(aj p).length- 1
def md(p q:List Rat):List Rat:=(ca p q).2
def Eqv(p q:List Rat):Prop:=∀x,af p x=af q x
theorem eqv_trim{p q:List Rat}:Eqv p q↔aj p=aj q:=
 ⟨jo,fun h x=>by rw[←cb p,h,cb]⟩
theorem B3{p q:List Rat}(h:Eqv p q):nz p↔nz q:=by unfold nz;rw[eqv_trim.1 h]
theorem HM{p q:List Rat}(h:Eqv p q):dg p=dg q:=by unfold dg;rw[eqv_trim.1 h]
theorem GG{p q:List Rat}(h:Eqv p q):aF p=aF q:=by unfold aF;rw[eqv_trim.1 h]
theorem gL{p:List Rat}(h:¬nz p):∀x,af p x=0:=fun x=>by
 have:aj p=[]:=by unfold nz at h;grind
 rw[←cb,this];rfl
def sW(p:List Rat)(n:Nat):Prop:=coP p n≠0∧∀i,n< i→coP p i=0
theorem ef{p:List Rat}(h:nz p):sW p (dg p)∧coP p (dg p)=aF p:=by
 have c:=List.length_pos_iff.2 h;have h1:=cX (l:=p) (n:=dg p) (by unfold dg;omega)
 have a:coP p (dg p)=aF p:=by
  rw[←b9];unfold coP;grind
 refine⟨⟨by rw[a];exact cY h,fun i b=>?_⟩,a⟩;rw[←b9];exact d8 (by unfold dg at b;omega)
theorem p9{p:List Rat}{n:Nat}(h:sW p n):nz p∧dg p=n∧aF p=coP p n:=by
 have b:nz p:=fun e=>h.1 (trim_nil_iff.1 e n);obtain⟨h1,c⟩:=ef b
 have e:dg p=n:=by
  rcases Nat.lt_trichotomy (dg p) n with a|a|a
  exact absurd (h1.2 n a) h.1;exact a;exact absurd (h.2 _ a) h1.1
 grind
theorem yZ{p:List Rat}(h:∀i,coP p i=0)(q:List Rat)(k:Nat):coP (mV p q) k=0:=by
 induction p generalizing k with
 |nil=>rfl
 |cons a p b=>
  have ha:a=0:=h 0;rw[mV,iC,gi];cases k with
  |zero=>rw[dx];grind
  |succ k=>rw[dj,b fun i=>h (i+1)];grind
theorem yY(p q:List Rat):∀(n m:Nat),(∀i,n< i→coP p i=0)→(∀i,m< i→coP q i=0)→coP (mV p q) (n+m)=coP p n* coP q m∧∀k,n+m< k→coP (mV p q) k=0:=by
 induction p with
 |nil=>intro n m _ _;exact⟨by show(0:Rat)=0* _;grind,fun _ _=>rfl⟩
 |cons a p f=>
  intro n m d e;cases n with
  |zero=>
   have g:∀i,coP p i=0:=fun i=>d (i+1) (by omega)
   have c:∀k,coP (mV (a::p) q) k=coP q k* a:=fun k=>by
    rw[mV,iC,gi];cases k with
    |zero=>rw[dx];grind
    |succ k=>rw[dj,yZ g];grind
   refine⟨by rw[Nat.zero_add,c,dx];grind,fun k b=>?_⟩;grind
  |succ n=>
   obtain⟨h1,l⟩:=f n m (fun i o=>d (i+1) (by omega)) e
   have c:∀k,m< k+1→coP (mV (a::p) q) (k+1)=coP (mV p q) k:=fun k h=>by
    rw[mV,iC,gi,dj,e _ h];grind
   refine⟨by rw[show n+1+m=(n+m)+1 by omega,c _ (by omega),h1,dj],fun k b=>?_⟩;obtain⟨j,rfl⟩:∃j,k=j+1:=⟨k- 1,by omega⟩;grind
theorem EO{p q:List Rat}{n m:Nat}(hp:sW p n)(hq:sW q m):sW (aJ p q) (n+m)∧coP (aJ p q) (n+m)=coP p n* coP q m:=by
 obtain⟨h1,c⟩:=yY p q n m hp.2 hq.2;refine⟨⟨?_,fun i d=>by rw[n4];grind⟩,by rw[n4];grind⟩;rw[n4];have a:=hp.1;have b:=hq.1;grind
theorem HL{p q:List Rat}(hp:nz p)(hq:nz q):nz (aJ p q)∧dg (aJ p q)=dg p+dg q∧aF (aJ p q)=aF p* aF q:=by
 obtain⟨a,b⟩:=ef hp;obtain⟨b1,b2⟩:=ef hq;obtain⟨c1,d⟩:=EO a b1;obtain⟨d1,d2,c⟩:=p9 c1;grind
theorem dg_mul'{p q r:List Rat}(hp:nz p)(hq:nz q)(h:∀x,af r x=af p x* af q x):nz r∧dg r=dg p+dg q∧aF r=aF p* aF q:=by
 have e:Eqv r (aJ p q):=fun x=>by rw[h,ba]
 obtain⟨h1,a,b⟩:=HL hp hq;exact⟨(B3 e).2 h1,(HM e).trans a,(GG e).trans b⟩
theorem js{p:List Rat}{k:Rat}(hp:nz p)(hk:k≠0){r:List Rat}(h:∀x,af r x=af p x* k):nz r∧dg r=dg p∧aF r=aF p* k:=by
 have hc:sW [k] 0:=⟨hk,fun i d=>by obtain⟨j,rfl⟩:∃j,i=j+1:=⟨i- 1,by omega⟩;rfl⟩;obtain⟨c1,e,a⟩:=p9 hc;obtain⟨h1,c,b⟩:=dg_mul' hp c1 (r:=r) (fun x=>by show _=_* (0* x+k);grind);exact⟨h1,by omega,by rw[b,a];rfl⟩
theorem dg_add{p q r:List Rat}(hp:nz p)(hq:nz q→dg q< dg p)(h:∀x,af r x=af p x+af q x):nz r∧dg r=dg p∧aF r=aF p:=by
 have hc:∀i,coP r i=coP p i+coP q i:=fun i=>by
  have:aj r=aj (fO p q):=jo fun x=>by rw[h,ey]
  rw[trim_iff.1 this i,eP]
 have a:∀i,dg p≤i→coP q i=0:=fun i c=>by
  by_cases hz:nz q;exact(ef hz).1.2 i (by have:=hq hz;omega);exact trim_nil_iff.1 (Decidable.byContradiction hz) i
 obtain⟨b,d⟩:=ef hp;have e:sW r (dg p):=⟨by rw[hc,a _ (Nat.le_refl _)];have:=b.1;grind,fun i c=>by rw[hc,a _ (by omega),b.2 i c];grind⟩;obtain⟨b1,b2,f⟩:=p9 e;exact⟨b1,b2,by rw[f,hc,a _ (Nat.le_refl _),←d];grind⟩
theorem kH(p:List Rat){q:List Rat}(hq:nz q):(∀x,af p x=af (ca p q).1 x* af q x+af (md p q) x)∧(nz (md p q)→dg (md p q)< dg q):=by
 obtain⟨h1,a⟩:=nY p q hq;refine⟨fun x=>(h1 x).symm,fun h=>?_⟩;have:=List.length_pos_iff.2 h;unfold md at *
 unfold dg;omega
theorem ye{p q u v:List Rat}(hq:nz q)(h:∀x,af p x=af u x* af q x+af v x)(hv:nz v→dg v< dg q):Eqv (md p q) v:=by
 obtain⟨h1,b⟩:=kH p hq;by_cases hw:nz (ci u (ca p q).1)
 obtain⟨c1,d,_⟩:=dg_mul' hw hq (r:=ci (md p q) v) (fun x=>by
  rw[dF,dF];grind)
 have a:∀r,(nz r→dg r< dg q)→∀i,dg q≤i→coP r i=0:=fun r e i c=>by
  by_cases a:nz r;exact(ef a).1.2 i (by grind);exact trim_nil_iff.1 (Decidable.byContradiction a) i
 have:=(ef c1).1.1;rw[gE] at this;grind;intro x;have:=gL hw x;rw[dF] at this;grind
theorem GC(m a:Rat):m≤dH [m,a]∧a≤dH [m,a]:=by
 have e:dH [m,a]=if 0< dy a m then a else m:=by
  unfold dH dJ;grind
 rw[e];unfold dy;grind
theorem tU(q:Rat):eF q=ab q:=mq q
theorem qZ(lead:Rat):∀(l:List Rat) (m:Rat),m≤boL lead l m∧∀c∈l,ab (c/ lead)≤boL lead l m
 |[],m=>⟨by rw[boL];grind,fun _ h=>by cases h⟩
 |c::l,m=>by
  obtain⟨h1,b⟩:=qZ lead l (dH [m,eF (c/ lead)]);obtain⟨f,e⟩:=GC m (eF (c/ lead));rw[boL];refine⟨by grind,fun d a=>?_⟩;rcases List.mem_cons.1 a with rfl|a
  rw[tU] at *;grind;grind
theorem sB(p:List Rat):1≤cf p:=by
 have:=(qZ (aF p) ((aj p).take ((aj p).length- 1)) 0).1;unfold cf;grind
theorem big{B x:Rat}(hB:1≤B)(hx:x≤ -B):∀(l:List Rat) (lead:Rat),l.getLast?=some lead→lead≠0→(∀c∈l.dropLast,ab c≤(B- 1) * ab lead)→
    ab lead≤ab (af l x)∧sgE x l=if l.length % 2=1 then sgZ lead.num else -sgZ lead.num
 |[],_,h,_,_=>by cases h
 |[a],lead,h,h0,_=>by
  have e:a=lead:=by grind
  subst e;have e:af [a] x=a:=by rw[aE,aM];grind
  refine⟨by grind,?_⟩;unfold sgE;grind
 |a::b::m,lead,h,h0,hc=>by
  rw[List.getLast?_cons_cons] at h;rw[List.dropLast_cons_cons] at hc;obtain⟨i1,i2⟩:=big hB hx (b::m) lead h h0 fun c g=>hc c (List.mem_cons_of_mem _ g);have ha:=hc a (List.mem_cons_self ..);have e:af (a::b::m) x=af (b::m) x* x+a:=aE ..
  have d:(if (a::b::m).length % 2=1 then sgZ lead.num else -sgZ lead.num)= -sgE x (b::m):=by
   grind
  rw[d]
  have j:0< ab (af (b::m) x):=by
   have:0< ab lead:=by unfold ab;grind
   grind
  have h1:=Rat.mul_le_mul_of_nonneg_left i1 (show 0≤B- 1 by grind);have k:=ab_le.1 (show ab a≤(B- 1) * ab (af (b::m) x) by grind);rcases bK x (b::m) with⟨c1,f⟩|⟨c1,f⟩|⟨c1,f⟩
  have i:ab (af (b::m) x)=af (b::m) x:=by unfold ab;rw[if_neg (by grind)]
  have p:=Rat.mul_le_mul_of_nonneg_left hx (show 0≤af (b::m) x by grind);rw[i] at k i1;have o:af (a::b::m) x≤ -af (b::m) x:=by rw[e];grind
  refine⟨?_,by rw[c1,jb (by grind)]⟩;have n:ab (af (a::b::m) x)= -af (a::b::m) x:=by unfold ab;rw[if_pos (by grind)]
  grind;have i:ab (af (b::m) x)= -af (b::m) x:=by unfold ab;rw[if_pos f]
  have p:=Rat.mul_le_mul_of_nonneg_left hx (show 0≤ -af (b::m) x by grind);rw[i] at k i1;have o: -af (b::m) x≤af (a::b::m) x:=by rw[e];grind
  refine⟨?_,by rw[c1,fX (by grind)];decide⟩;have n:ab (af (a::b::m) x)=af (a::b::m) x:=by unfold ab;rw[if_neg (by grind)]
  grind;rw[f] at j;exact absurd j (by decide+kernel)
theorem sC{q:List Rat}(h:nz q){x:Rat}(hx:x≤ -cf q):ab (aF q)≤ab (af q x)∧sgE x q=sgI q:=by
 have d:=List.length_pos_iff.2 h;have hg:=cX (l:=q) (n:=(aj q).length- 1) (by omega)
 have h1:=big (sB q) hx (aj q) (aF q) (by grind) (cY h) fun c hc=>by
  rw[List.dropLast_eq_take] at hc;have a:=(qZ (aF q) _ 0).2 c hc;have b:=cJ (c/ aF q) (aF q);rw[Rat.div_mul_cancel (cY h)] at b;have f:=Rat.mul_le_mul_of_nonneg_right a (cW (aF q));unfold cf;grind
 have e:sgE x (aj q)=sgE x q:=by unfold sgE;rw[cb]
 rw[cb] at h1;unfold sgI cN;grind
theorem DP:∀l:List (List Rat),(∀q∈l,nz q)→∃M:Rat,∀x,x≤ -M→l.map (sgE x)=l.map sgI
 |[],_=>⟨0,fun _ _=>rfl⟩
 |q::l,h=>by
  obtain⟨M,c⟩:=DP l fun r d=>h r (List.mem_cons_of_mem _ d);have b:=h q (List.mem_cons_self ..);by_cases hb:cf q≤M;exact⟨M,fun x a=>by rw[List.map_cons,List.map_cons,c x a,(sC b (by grind)).2]⟩;exact⟨cf q,fun x a=>by rw[List.map_cons,List.map_cons,c x (by grind),(sC b a).2]⟩
theorem tF{p:List Rat}(h:nz p):aF p≠0:=cY h
def Dv(d p:List Rat):Prop:=∃u,∀x,af p x=af u x* af d x
theorem iL{p q r:List Rat}(h:∀x,af r x=af p x* af q x)(hr:nz r):nz p∧nz q:=by
 constructor;intro e;have a:¬nz p:=fun h=>h e;exact absurd rfl ((B3 (q:=[]) fun x=>by rw[h,gL a,aM];grind).1 hr);intro e;have a:¬nz q:=fun h=>h e;exact absurd rfl ((B3 (q:=[]) fun x=>by rw[h,gL a,aM];grind).1 hr)


theorem yT{p:List Rat}(h:nz p):cN p=(dg p:Int):=by
 have:=List.length_pos_iff.2 h;unfold cN dg;omega
theorem degP_nil{p:List Rat}:cN p< 0↔¬nz p:=by
 unfold cN nz;constructor;intro h e;have:=List.length_pos_iff.2 e;omega;intro h;have:aj p=[]:=Decidable.byContradiction h;rw[this];decide
theorem ic{p:List Rat}(h:nz p):(∀x,af (cC p) x=af p x* (1/ aF p))∧nz (cC p)∧dg (cC p)=dg p:=by
 have hl:=tF h;have e:∀x,af (cC p) x=af p x* (1/ aF p):=fun x=>by unfold cC;rw[if_neg h,aR]
 have hk:1/ aF p≠0:=fun e=>by have:1/ aF p* aF p=1:=by grind
                              rw[e] at this;grind
 obtain⟨a,b,_⟩:=js h hk e;exact⟨e,a,b⟩
theorem tC(p:List Rat):∃k k':Rat,k* k'=1∧∀x,af (cC p) x=af p x* k:=by
 by_cases h:nz p;refine⟨1/ aF p,aF p,Rat.div_mul_cancel (tF h),(ic h).1⟩;refine⟨1,1,by grind,fun x=>?_⟩;have e:aj p=[]:=Decidable.byContradiction h;unfold cC;rw[if_pos e,gL h,aM];grind
theorem Dv.refl(d:List Rat):Dv d d:=⟨[1],fun x=>by rw[aE,aM];grind⟩
theorem Dv.zero(d:List Rat){r:List Rat}(h:∀x,af r x=0):Dv d r:=⟨[],fun x=>by rw[aM];grind⟩
theorem Dv.trans{a b c:List Rat}(h:Dv a b)(k:Dv b c):Dv a c:=by
 obtain⟨u,d⟩:=h;obtain⟨v,hv⟩:=k;exact⟨aJ v u,fun x=>by rw[hv,ba];grind⟩
theorem Dv.lin{d p q r:List Rat}{u v:List Rat}(h:Dv d p)(k:Dv d q)(e:∀x,af r x=af u x* af p x+af v x* af q x):Dv d r:=by
 obtain⟨s,hs⟩:=h;obtain⟨t,ht⟩:=k;exact⟨fO (aJ u s) (aJ v t),fun x=>by rw[e,ey,ba,ba];grind⟩
theorem Dv.mul{d p q r:List Rat}(h:Dv d p)(e:∀x,af r x=af q x* af p x):Dv d r:=
 h.lin h (u:=q) (v:=[]) fun x=>by rw[aM];grind
theorem Dv.scale{d p r:List Rat}{k:Rat}(h:Dv d p)(e:∀x,af r x=af p x* k):Dv d r:=
 h.mul (q:=[k]) fun x=>by rw[aE,aM];grind
theorem Dv.dg{d p:List Rat}(h:Dv d p)(hp:nz p):dg d≤dg p:=by
 obtain⟨u,a⟩:=h;obtain⟨c,b⟩:=iL a hp;have:=(dg_mul' c b a).2.1;omega
theorem o9{d:List Rat}(h:nz d)(h0:dg d=0):∃c:Rat,c≠0∧∀x,af d x=c:=by
 obtain⟨e1,e2⟩:=ef h;refine⟨aF d,tF h,fun x=>?_⟩
 have:aj d=aj [aF d]:=trim_iff.2 fun i=>by
  cases i with
  |zero=>rw[dx,←e2,h0]
  |succ i=>exact e1.2 _ (by omega)
 rw[←cb,this,cb,aE,aM];grind
theorem nz_one:nz [1]:=by unfold nz;decide+kernel
theorem bez:∀(n:Nat) (p q:List Rat),(aj q).length=n→nz p∨nz q→∃g a b:List Rat,nz g∧Dv g p∧Dv g q∧∀x,af g x=af a x* af p x+af b x* af q x:=by
 intro n
 induction n using Nat.strongRecOn with
 |ind n e=>
  intro p q j h;by_cases hq:nz q;obtain⟨m1,m2⟩:=kH p hq
  have c:(aj (md p q)).length< n:=by
   have:=(nY p q hq).2;unfold md;omega
  obtain⟨g,a,b,f,d,i,g3⟩:=e _ c q (md p q) rfl (.inl hq);refine⟨g,b,ci a (aJ b (ca p q).1),f,d.lin i (u:=(ca p q).1) (v:=[1]) fun x=>?_,d,fun x=>?_⟩;rw[m1,aE,aM];grind;rw[g3,dF,ba,m1 x];grind;have hp:nz p:=h.resolve_right hq;exact⟨p,[1],[],hp,.refl p,.zero p (gL hq),fun x=>by rw[aE,aM,gL hq];grind⟩
theorem m5:∀(f:Nat) (p q g:List Rat),pf f p q=some g→nz p∨nz q→nz g∧Dv g p∧Dv g q∧∃a b:List Rat,∀x,af g x=af a x* af p x+af b x* af q x
 |0,_,_,_,h,_=>by cases h
 |f+1,p,q,g,h,hz=>by
  rw[pf] at h;split at h
  ·rename_i c
   split at h;cases h;have i:¬nz q:=fun e=>e c;have hp:nz p:=hz.resolve_right i;obtain⟨m1,m2,_⟩:=ic hp;obtain⟨k,d,n,m⟩:=tC p;refine⟨m2,⟨[d],fun x=>by rw[aE,aM];grind⟩,.zero _ (gL i),[k],[],fun x=>by rw[aE,aM];grind⟩;cases h
  ·rename_i c
   split at h;obtain⟨m1,_⟩:=kH p c;obtain⟨k,d,n,m⟩:=tC (ca p q).2;obtain⟨l,j,o,a,b,g3⟩:=m5 f _ _ _ h (.inl c);refine⟨l,j.lin o (u:=(ca p q).1) (v:=[d]) fun x=>?_,j,aL b k,ci a (aL (aJ b (ca p q).1) k),fun x=>?_⟩;rw[m1,aE,aM];show _+af (ca p q).2 x=_;grind;rw[g3,aR,dF,aR,ba,m1 x];show _=_* (_+af (ca p q).2 x)+_;grind;cases h
theorem qP{p q:List Rat}(h:∀x,af p x=af q x)(x:Rat):dvE p x=dvE q x:=D9 (trim_iff.1 (jo h)) x
theorem w9{p r:List Rat}{k:Rat}(h:∀x,af r x=af p x* k)(x:Rat):dvE r x=dvE p x* k:=by
 rw[qP (q:=eU p k) (fun x=>by rw[h,dT]) x,iV]
def pw(d:List Rat):Nat→List Rat
 |0=>[1]
 |k+1=>aJ (pw d k) d
theorem pw_dv(d:List Rat)(k:Nat)(x:Rat):dvE (pw d (k+1)) x=(((k+1:Nat):Int):Rat) * af (pw d k) x* dvE d x:=by
 induction k with
 |zero=>
  show dvE (aJ [1] d) x=_;rw[qO,eg,show dvE [] x=0 from rfl];show _=((1:Int):Rat) * af [1] x* _;rw[aM];grind
 |succ k a=>
  show dvE (aJ (pw d (k+1)) d) x=_;rw[qO];have e2:af (pw d (k+1)) x=af (pw d k) x* af d x:=ba _ _ _;grind
theorem pw_dg{d:List Rat}(hd:nz d)(k:Nat):nz (pw d k)∧dg (pw d k)=k* dg d:=by
 induction k with
 |zero=>exact⟨nz_one,by rw[Nat.zero_mul];show dg [1]=0;decide+kernel⟩
 |succ k c=>
  obtain⟨a,b,_⟩:=HL c.1 hd;exact⟨a,by show dg (aJ _ _)=_;grind⟩
theorem sj{d:List Rat}(h:dg d≠0)(hd:nz d):nz (aN d)∧dg (aN d)< dg d:=by
 obtain⟨⟨e1,e2⟩,_⟩:=ef hd
 have h1:sW (aN d) (dg d- 1):=by
  refine⟨?_,fun i c=>?_⟩;rw[ed,show dg d- 1+1=dg d by omega];intro e;rcases Rat.mul_eq_zero.1 e with e|e
  exact e1 e;have:((dg d:Nat):Int)=0:=by simp_all
  omega;rw[ed,e2 _ (by omega),Rat.zero_mul]
 obtain⟨a,b,_⟩:=p9 h1;grind
theorem sqfree{p s g a b:List Rat}(hp:nz p)(h1:∀x,af p x=af s x* af g x)(h3:∀x,af g x=af a x* af p x+af b x* af (aN p) x):
    ∀n d,dg d=n→nz d→Dv d s→Dv d (aN s)→dg d=0:=by
 intro n
 induction n using Nat.strongRecOn with
 |ind n G=>
  intro d J i ⟨u,l⟩ ⟨v,hv⟩;by_cases h0:dg d=0;exact h0;exfalso;obtain⟨d1,d2⟩:=sj h0 i;obtain⟨e,m,y,e1,e2,F,B⟩:=bez _ d (aN d) rfl (.inl i);have M:=F.dg d1;have D:=G (dg e) (by omega) e rfl e1 (e2.trans ⟨u,l⟩) (e2.trans ⟨v,hv⟩);obtain⟨c,A,hc⟩:=o9 e1 D
  -- the square divides s
  have hs:∀x,dvE s x=dvE u x* af d x+af u x* dvE d x:=fun x=>by
   rw[qP (q:=aJ u d) (fun x=>by rw[l,ba]) x,qO]
  have E:1/ c* c=1:=Rat.div_mul_cancel A
  obtain⟨t,ht⟩:∃t:List Rat,∀x,af u x=af t x* af d x:=by
   refine⟨aL (fO (aJ m u) (aJ y (ci v (AP u)))) (1/ c),fun x=>?_⟩;rw[aR,ey,ba,ba,dF,po];have r:=B x;have H:=hv x;rw[hc,bR] at r;rw[bR,hs] at H;grind
  obtain⟨L,C⟩:=iL h1 hp
  have h:∀k,∃w:List Rat,∀x,af g x=af w x* af (pw d k) x:=by
   intro k
   induction k with
   |zero=>exact⟨g,fun x=>by rw[pw,aE,aM];grind⟩
   |succ k j=>
    obtain⟨w,f⟩:=j;obtain⟨W,o⟩:∃W,W=aJ t w:=⟨_,rfl⟩
    have q1:∀x,af p x=af W x* af (pw d (k+2)) x:=fun x=>by
     rw[h1,f,l,ht,o,ba,pw,ba,pw,ba];grind
    have q2:∀x,af (aN p) x=dvE W x* af (pw d (k+2)) x+af W x* dvE (pw d (k+2)) x:=fun x=>by
     rw[bR,qP (q:=aJ W (pw d (k+2))) (fun x=>by rw[q1,ba]) x,qO]
    refine⟨fO (aJ a (aJ W d)) (aJ b (fO (aJ (AP W) d) (aJ (aL W (((k+1+1:Nat):Int):Rat)) (AP d)))),fun x=>?_⟩;have q3:=pw_dv d (k+1) x;have q4:af (pw d (k+2)) x=af (pw d (k+1)) x* af d x:=ba _ _ _;rw[h3,q2,q1,q3,q4];simp only[ey,ba,aR,po];grind
  obtain⟨w,f⟩:=h (dg g+1);obtain⟨m1,m2⟩:=iL f C;have z:=(dg_mul' m1 m2 f).2.1;rw[(pw_dg i _).2] at z;have K:dg g+1≤(dg g+1) * dg d:=Nat.le_mul_of_pos_right _ (by omega);omega
theorem nH{p:List Rat}(h:nz p):∃k:Rat,0< k∧∀x,af (bO p) x=af p x* k:=by
 have a:iy (aj p) 1≠0:=qS _ (by decide)
 have hN:iM (iy (aj p) 1) (aj p) 0≠0:=by
  intro e;have h1:=(qi (iy (aj p) 1) (aj p) 0).2;have d:=(lB (aj p) 1).2;have f:=List.length_pos_iff.2 h;have hg:=cX (l:=p) (n:=(aj p).length- 1) (by omega);have b:=List.mem_of_getElem? hg;have c:=h1 _ b;rw[e] at c;exact yl (d _ b) a (cY h) (Nat.eq_zero_of_zero_dvd c)
 refine⟨nQ (iy (aj p) 1) / nQ (iM (iy (aj p) 1) (aj p) 0),?_,fun x=>by unfold bO;rw[aR,cb]⟩
 have pos:∀n:Nat,n≠0→(0:Rat)< nQ n:=fun n g=>by
  rw[←num_pos];show 0< (n:Int);omega
 obtain⟨k,i,e⟩:=part (nQ (iy (aj p) 1)) (pos _ a) (pos _ hN);rw[←e,Rat.mul_div_cancel (fun e=>hN (nQ_zero.1 e))];grind
inductive Cx:List Rat→List Rat→List (List Rat)→Prop
 |nil {u n:List Rat}:¬nz n→Cx u n []
 |cons {u n v n' q:List Rat} {L:List (List Rat)} {c:Rat}:0< c→(∀x,af v x=af n x* c)→nz v→(∀x,af n' x=af q x* af v x- af u x)→Cx v n' L→Cx u n (v::L)
theorem nj:∀(f k:Nat) (last next:List Rat) (acc out:List (List Rat)),nk f k last next acc=some out→∃L,out=acc++L∧Cx last next L
 |_,0,_,_,_,_,h=>by cases h
 |f,k+1,last,next,acc,out,h=>by
  rw[nk] at h;split at h
  ·rename_i a
   cases h;exact⟨[],by simp,.nil fun e=>e a⟩
  ·rename_i a
   split at h
   ·rename_i h1
    obtain⟨L,e,d⟩:=nj f k _ _ _ _ h;obtain⟨c,b,hc⟩:=nH a;refine⟨bO next::L,by grind,.cons (q:=(ca last (bO next)).1) b hc h1.2.2 (fun x=>?_) d⟩;have:=(kH last h1.2.2).1 x;unfold md at this;rw[aR];grind
   cases h
theorem Cx.ch{u n:List Rat}{L:List (List Rat)}(H:Cx u n L):nz u→(∀d,nz d→Dv d u→Dv d n→dg d=0)→Ch u L∧∀v L',L=v::L'→∃c:Rat,0< c∧∀x,af v x=c* af n x:=by
 induction H with
 | @nil u n hn=>
  intro f e;obtain⟨c,b,hc⟩:=o9 f (e u f (.refl u) (.zero u (gL hn)));exact⟨.one b hc,fun _ _ h=>by cases h⟩
 | @cons u n v n' q L c hc hv hnv hn' hL ih=>
  intro f e
  obtain⟨i1,i2⟩:=ih hnv fun d d0 d1 d2=>e d d0 (d1.lin d2 (u:=q) (v:=[-1]) fun x=>by rw[aE,aM];grind)
   (d1.scale (k:=1/ c) fun x=>by grind)
  refine⟨?_,fun _ _ h=>by grind⟩;cases L with
  |nil=>exact .pair i1
  |cons w L=>
   obtain⟨g,b,i⟩:=i2 w L rfl;exact .step (a:=g) (c:=1) (q:=aL q g) b (by grind) (fun x=>by rw[i,aR];grind) i1
theorem rt{f:Nat}{p s:List Rat}(h:vW f p=some s)(hp:nz p):nz s∧∀d,nz d→Dv d s→Dv d (aN s)→dg d=0:=by
 unfold vW at h;split at h;cases hg:pf f p (aN p) with
 |none=>grind
 |some g=>
  rw[hg,Option.bind_some] at h;split at h;cases h;obtain⟨c,n,r,a,b,g3⟩:=m5 f _ _ _ hg (.inl hp);obtain⟨m1,m2⟩:=kH p c;obtain⟨u,o⟩:=n;have j:=ye (u:=u) (v:=[]) c (fun x=>by rw[o x,aM];grind) (fun e=>absurd rfl e)
  have hs:∀x,af p x=af (ca p g).1 x* af g x:=fun x=>by
   have:=m1 x;rw[j x,aM] at this;grind
  obtain⟨l,t⟩:=iL hs hp;obtain⟨k,i,q,m⟩:=tC (ca p g).1;refine⟨(ic l).2.1,fun d d0 d1 d2=>sqfree hp hs g3 _ d rfl d0 (d1.scale (k:=i) fun x=>by grind) (d2.scale (k:=i) fun x=>?_)⟩;rw[bR,bR,w9 m x];grind;cases h
 cases h
theorem n9(u:List Rat)(x:Rat):chV [u] x=0:=by
 unfold chV chL chL;grind
theorem iB{f:Nat}{p:List Rat}{c:Cnt}(h:fZ f p=some c)(hp:nz p):nz c.p∧vW f p=some c.p∧lR f c.p=some c.ch∧c.far=chV c.ch (-cf c.p)∧(∀x,x≤ -cf c.p→bU c x=0)∧∀x y,x≤y→bU c x≤bU c y:=by
 unfold fZ at h;cases hs:vW f p with
 |none=>grind
 |some s=>
  rw[hs,Option.bind_some] at h;cases hc:lR f s with
  |none=>grind
  |some ch=>
   rw[hc,Option.bind_some] at h;split at h
   ·rename_i j
    cases h;obtain⟨g,s1⟩:=rt hs hp;have l:=hc;unfold lR at hc;split at hc;obtain⟨L,e,B⟩:=nj _ _ _ _ _ _ hc;obtain⟨k,r,i⟩:=nH g;have b:k≠0:=by grind
    have n:nz (bO s):=(js g b i).1;have F:k* (1/ k)=1:=by grind
    have o:0< 1/ k:=by
     obtain⟨m,m0,m1⟩:=part 1 (d:=k) (by grind) r;grind
    obtain⟨c1,A⟩:=B.ch n fun d d0 d1 d2=>s1 d d0 (d1.scale (k:=1/ k) fun x=>by grind) d2;have E:ch=bO s::L:=e;subst E
    have mono:∀x y,x≤y→chV (bO s::L) y≤chV (bO s::L) x:=fun x y a=>by
     cases L with
     |nil=>rw[n9,n9];grind
     |cons v L=>
      obtain⟨C,D,hv⟩:=A v L rfl;refine c1.fall (k:=C* (1/ k)) (Rat.mul_pos D o) (fun x=>?_) a;rw[hv,bR,w9 i x];grind
    obtain⟨M,w⟩:=DP (bO s::L) fun q u=>(j.1 q u).1
    have low:∀x,x≤ -cf s→chV (bO s::L) x=chL ((bO s::L).map sgI) 0 0:=fun x t=>by
     by_cases hxM:x≤ -M;unfold chV;rw[w x hxM]
     rw[←c1.same (e:=ab (aF s) * k) (x:= -M) (y:=x) (Rat.mul_pos (by have:=cY g;unfold ab;split <;> grind) r) (by grind) (fun z H G=>by
      rw[i,cJ,show ab k=k by unfold ab;rw[if_neg (by grind)]];exact Rat.mul_le_mul_of_nonneg_right (sC g (by grind)).1 (by grind))]
     unfold chV;grind
    refine⟨g,rfl,l,(low _ (by grind)).symm,fun x t=>?_,fun x y a=>?_⟩;have:=low x t;unfold bU;unfold chV at this;show _- chL ((bO s::L).map (sgE x)) 0 0=0;rw[this];simp;have:=mono x y a;unfold bU;unfold chV at this;show _- chL ((bO s::L).map (sgE x)) 0 0≤_- chL ((bO s::L).map (sgE y)) 0 0;omega;grind
   cases h
end Go.Abs
