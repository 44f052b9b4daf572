/- Part V13 of the proof. -/
import Derived.Test.YtkhclghbcicapaaGreatDoorV12
set_option linter.all false
namespace Go.Abs
inductive Gsn:Int→List Int→List Int→Prop
 |nil {t:Int}:Gsn t [] []
 |solid {t s:Int} {l l':List Int}:s≠0→Gsn s l l'→Gsn t (s::l) (s::l')
 |weak {t x y:Int} {l l':List Int}:(x=0∨x=t∨x= -t)→(y=0∨y=t∨y= -t)→Gsn (-t) l l'→Gsn t (x:: -t::l) (y:: -t::l')
theorem oZ:∀(l:List Int) (n t:Int),chL l n t=n+chL l 0 t
 |[],n,t=>by simp[chL]
 |s::l,n,t=>by
  unfold chL;by_cases hs:s≠0;rw[if_pos hs,if_pos hs,oZ l (if s= -t then n+1 else n),oZ l (if s= -t then 0+1 else 0)];split <;> omega;rw[if_neg hs,if_neg hs];exact oZ l n t
theorem Cg{t x:Int}(ht:t≠0)(hx:x=0∨x=t∨x= -t)(l:List Int)(n:Int):chL (x:: -t::l) n t=chL l (n+1) (-t):=by
 rcases hx with rfl|rfl|rfl
 rw[chL,if_neg (by simp),chL,if_pos (by omega),if_pos rfl];rw[chL,if_pos ht,if_neg (by omega),chL,if_pos (by omega),if_pos rfl];rw[chL,if_pos (by omega),if_pos rfl,chL,if_pos (by omega),if_neg (by omega)]
theorem wY{t:Int}{l l':List Int}(h:Gsn t l l'):t≠0→∀n,chL l n t=chL l' n t:=by
 induction h with
 |nil=>exact fun _ _=>rfl
 |solid hs _ a=>
  intro ht n;rw[chL,if_pos hs,chL,if_pos hs];exact a hs _
 |weak b c _ a=>
  intro ht n;rw[Cg ht b,Cg ht c];exact a (by omega) _
theorem wX{s:Int}{l l':List Int}(hs:s≠0)(h:Gsn s l l'):chL (s::l) 0 0=chL (s::l') 0 0:=by
 rw[chL,if_pos hs,chL,if_pos hs];exact wY h hs _
theorem Ci{s s' t:Int}{l l':List Int}(ht:t=1∨t= -1)(hs: -1≤s∧s≤1)(hs': -1≤s'∧s'≤1)(hm:t* s≤t* s')(h:Gsn t l l'):chL (s'::t::l') 0 0≤chL (s::t::l) 0 0:=by
 have a:t≠0:=by omega
 have b:∀(u:Int) (k:List Int),-1≤u∧u≤1→chL (u::t::k) 0 0=(if u= -t then 1 else 0)+chL k 0 t:=fun u k c=>by
  by_cases h0:u=0;subst h0;rw[chL,if_neg (by simp),chL,if_pos a,if_neg (by omega),if_neg (by omega)];omega;rw[chL,if_pos h0,if_neg (by omega),chL,if_pos a,oZ];by_cases h1:u= -t;rw[if_pos (by omega),if_pos h1];omega;rw[if_neg (by omega),if_neg h1]
 rw[b s l hs,b s' l' hs',wY h a 0];rcases ht with rfl|rfl <;> split <;> split <;> omega
theorem num_pos{q:Rat}:0< q.num↔0< q:=by
 have a:0≤q.num↔0≤q:=Rat.num_nonneg;have b:q.num=0↔q=0:=Rat.num_eq_zero;grind
theorem gu{q:List Rat}{x:Rat}(h:0< af q x):sgE x q=1:=by
 have:=sgZ_num_gt.2 h;have:=oo (af q x).num;unfold sgE;omega
theorem jC{q:List Rat}{x:Rat}(h:af q x< 0):sgE x q= -1:=by
 have:=sgZ_num_lt.2 h;have:=oo (af q x).num;unfold sgE;omega
theorem lL{q:List Rat}{x:Rat}(h:af q x=0):sgE x q=0:=sgZ_num_eq.2 h
theorem fa(x:Rat)(q:List Rat): -1≤sgE x q∧sgE x q≤1:=oo _
theorem bR(x:Rat)(q:List Rat):(sgE x q=1∧0< af q x)∨(sgE x q= -1∧af q x< 0)∨(sgE x q=0∧af q x=0):=by
 by_cases h:0< af q x;exact .inl ⟨gu h,h⟩;by_cases h':af q x< 0;exact .inr (.inl ⟨jC h',h'⟩);have e:af q x=0:=by grind
 exact .inr (.inr ⟨lL e,e⟩)
theorem qI{q:List Rat}{x y:Rat}(h:af q x≤af q y):sgE x q≤sgE y q:=by
 rcases bR x q with⟨a,b⟩|⟨a,b⟩|⟨a,b⟩
 rw[a,gu (by grind)];decide;have:=fa y q;omega;by_cases h0:0< af q y;rw[a,gu h0];decide;rw[a,lL (by grind)];decide
theorem part(e:Rat){d:Rat}(he:0< e)(hd:0< d):∃h:Rat,0< h∧h* d=e:=by
 refine⟨e/ d,?_,Rat.div_mul_cancel (by grind)⟩;have e1:e/ d* d=e:=Rat.div_mul_cancel (by grind);by_cases h:0< e/ d;exact h;have a:e/ d* d≤0* d:=Rat.mul_le_mul_of_nonneg_right (by grind) (by grind);grind
theorem less(a b:Rat)(ha:0< a)(hb:0< b):∃h:Rat,0< h∧h≤a∧h≤b:=by grind
theorem keep(u:List Rat){R e:Rat}(hR:0≤R)(he:0< e):∃h:Rat,0< h∧∀x y:Rat,ab x≤R→ab y≤R→ab (y- x)≤h→e≤ab (af u x)→sgE y u=sgE x u∧sgE x u≠0:=by
 have l:=sE hR u;obtain⟨h,k,h1⟩:=part e (d:=2* (bL R u+1)) he (by grind);refine⟨h,k,fun x y g j i ha=>?_⟩;have m:=iG hR g j u;have n:=Rat.mul_le_mul_of_nonneg_left i l;have o:=ab_le (x:=af u y- af u x) (c:=ab (af u y- af u x))|>.1 (by grind);rcases bR x u with⟨a,b⟩|⟨a,b⟩|⟨a,b⟩
 have f:ab (af u x)=af u x:=by unfold ab;grind
 rw[a,gu (by grind)];decide;have f:ab (af u x)= -af u x:=by unfold ab;grind
 rw[a,jC (by grind)];decide;have f:ab (af u x)=0:=by rw[b];decide
 grind
inductive Ch:List Rat→List (List Rat)→Prop
 |one {u:List Rat} {c:Rat}:c≠0→(∀x,af u x=c)→Ch u []
 |pair {u v:List Rat}:Ch v []→Ch u [v]
 |step {u v w:List Rat} {L:List (List Rat)} {a c:Rat} {q:List Rat}:0< a→0< c→(∀x,a* af u x+c* af w x=af q x* af v x)→Ch v (w::L)→Ch u (v::w::L)
def Cl(u:List Rat)(L:List (List Rat)):Prop:=∀R e:Rat,0≤R→0< e→∃h:Rat,0< h∧∀x y:Rat,ab x≤R→ab y≤R→ab (y- x)≤h→e≤ab (af u x)→
 sgE y u=sgE x u∧sgE x u≠0∧Gsn (sgE x u) (L.map (sgE x)) (L.map (sgE y))
theorem Ch.const{v:List Rat}(h:Ch v []):∃c:Rat,c≠0∧∀x,af v x=c:=by
 cases h with
 |one hc h=>simp_all
theorem Ch.sg{v:List Rat}(h:Ch v [])(x y:Rat):sgE y v=sgE x v∧sgE x v≠0:=by
 obtain⟨c,hc,h⟩:=h.const;have e:sgE y v=sgE x v:=by unfold sgE;grind
 rcases bR x v with⟨a,b⟩|⟨a,b⟩|⟨a,b⟩
 omega;omega;grind
theorem Ch.cl{u:List Rat}{L:List (List Rat)}(H:Ch u L):Cl u L∧∀v L',L=v::L'→Cl v L':=by
 induction H with
 | @one u c hc k=>
  refine⟨fun R e f o=>?_,fun _ _ h=>by cases h⟩;obtain⟨h,z,h1⟩:=keep u f o;exact⟨h,z,fun x y b i n ha=>⟨(h1 x y b i n ha).1,(h1 x y b i n ha).2,.nil⟩⟩
 | @pair u v hv ih=>
  refine⟨fun R e f o=>?_,fun _ _ h=>by grind⟩;obtain⟨h,z,h1⟩:=keep u f o;refine⟨h,z,fun x y b i n ha=>⟨(h1 x y b i n ha).1,(h1 x y b i n ha).2,?_⟩⟩;simp only[List.map_cons,List.map_nil];rw[(hv.sg x y).1];exact .solid (hv.sg x y).2 .nil
 | @step u v w L a c q ha hc hrel hv ih=>
  refine⟨fun R e f o=>?_,fun _ _ h=>by cases h;exact ih.1⟩;have hQ:=mA f q;have s:=Rat.mul_pos ha o;obtain⟨e1,B,D⟩:=part (a* e) (d:=2* (bV R q+1)) s (by grind);obtain⟨e2,A,E⟩:=part (a* e) (d:=2* c) s (by grind);obtain⟨z,N,F⟩:=keep u f o;obtain⟨h1,p1,K⟩:=ih.1 R e1 f B;obtain⟨O,p2,M⟩:=ih.2 w L rfl R e2 f A;obtain⟨G,J,U,W⟩:=less z h1 N p1;obtain⟨h,p,l,m⟩:=less G O J p2;refine⟨h,p,fun x y b i n k=>?_⟩;obtain⟨s1,s2⟩:=F x y b i (by grind) k;refine⟨s1,s2,?_⟩;by_cases hvx:e1≤ab (af v x);obtain⟨t1,t2,t⟩:=K x y b i (by grind) hvx;simp only[List.map_cons] at t⊢;rw[t1];exact .solid t2 t;have b1:=dw (fE f b q) (show ab (af v x)≤e1 by grind) (cZ _) hQ;rw[←cM,←hrel x] at b1;have b2:=ab_le.1 b1;have T:bV R q* e1+e1=a* e/ 2:=by grind
  have j:sgE x w= -sgE x u∧e2≤ab (af w x):=by
   rcases bR x u with⟨r,C⟩|⟨r,C⟩|⟨r,C⟩
   have g3:ab (af u x)=af u x:=by unfold ab;rw[if_neg (by grind)]
   rw[g3] at k;have S:=Rat.mul_le_mul_of_nonneg_left k (show 0≤a by grind)
   have Q:af w x≤ -e2:=by
    by_cases g:af w x≤ -e2;exact g;have:=Rat.mul_pos hc (show 0< af w x+e2 by grind);grind
   refine⟨by rw[r,jC (by grind)],?_⟩;unfold ab;rw[if_pos (by grind)];grind;have g3:ab (af u x)= -af u x:=by unfold ab;rw[if_pos C]
   rw[g3] at k;have S:=Rat.mul_le_mul_of_nonneg_left k (show 0≤a by grind)
   have Q:e2≤af w x:=by
    by_cases g:e2≤af w x;exact g;have:=Rat.mul_pos hc (show 0< e2- af w x by grind);grind
   refine⟨by rw[r,gu (by grind)];decide,?_⟩;unfold ab;rw[if_neg (by grind)];grind;exact absurd r s2
  obtain⟨t1,t2,t⟩:=M x y b i (by grind) j.2;simp only[List.map_cons];rw[t1,j.1];rw[j.1] at t;have c1:=fa x u;have X:=fa x v;have V:=fa y v;exact .weak (by omega) (by omega) t
theorem Ch.bez{u:List Rat}{M:List (List Rat)}(H:Ch u M):∀v L,M=v::L→∃a b:List Rat,∀x,af a x* af u x+af b x* af v x=1:=by
 induction H with
 |one hc g=>grind
 | @pair u v hv ih=>
  intro f L h;cases h;obtain⟨c,hc,h⟩:=hv.const;refine⟨[],[1/ c],fun x=>?_⟩;rw[aE,aM];grind
 | @step u v w L a c q ha hc hrel hv ih=>
  intro f i h;obtain⟨e,d,h⟩:=ih w L rfl;refine⟨aL d (-(a/ c)),fV e (aL (aJ d q) (1/ c)),fun x=>?_⟩;rw[aR,eF,aR,bh];grind
theorem arch(c:Rat){h:Rat}(hh:0< h):∃n:Nat,c≤((n:Int):Rat) * h:=by
 by_cases hc:c≤0;exact⟨0,by grind⟩;obtain⟨k,a,e⟩:=part c (d:=h) (by grind) hh
 have h1:k≤((k.num.natAbs:Int):Rat):=by
  have b:0< k.num:=num_pos.2 a;rw[Rat.le_iff];show k.num* 1≤(k.num.natAbs:Int) * (k.den:Int);have f:=Int.mul_le_mul_of_nonneg_left (show(1:Int)≤(k.den:Int) by have:=k.den_pos;omega) (show 0≤k.num by omega);grind
 have g:=Rat.mul_le_mul_of_nonneg_right h1 (show 0≤h by grind);grind
theorem grid {f:Rat→Int} (r:Int→Int→Prop) (hr:∀a,r a a) (ht:∀a b c,r a b→r b c→r a c) {lo hi h:Rat} (hh:0< h)
    (hs:∀x y,lo≤x→x≤y→y≤hi→y- x≤h→r (f x) (f y)):∀(n:Nat) (x y:Rat),lo≤x→x≤y→y≤hi→y- x≤((n:Int):Rat) * h→r (f x) (f y)
 |0,x,y,h1,h2,h3,h4=>by grind
 |n+1,x,y,h1,h2,h3,h4=>by
  by_cases hd:y- x≤h;exact hs x y h1 h2 h3 hd;exact ht _ _ _ (hs x (x+h) h1 (by grind) (by grind) (by grind)) (grid r hr ht hh hs n (x+h) y (by grind) (by grind) h3 ((by grind)))
theorem way {f:Rat→Int} (r:Int→Int→Prop) (hr:∀a,r a a) (ht:∀a b c,r a b→r b c→r a c) {x y h:Rat} (hh:0< h) (hxy:x≤y)
    (hs:∀u v,x≤u→u≤v→v≤y→v- u≤h→r (f u) (f v)):r (f x) (f y):=by
 obtain⟨n,d⟩:=arch (y- x) hh;exact grid r hr ht hh hs n x y (by grind) hxy (by grind) d
def chV(l:List (List Rat))(x:Rat):Int:=chL (l.map (sgE x)) 0 0
theorem iY{x y u:Rat}(h1:x≤u)(h2:u≤y):ab u≤ab x+ab y:=by
 have a:=ab_le (x:=x) (c:=ab x)|>.1 (by grind);have b:=ab_le (x:=y) (c:=ab y)|>.1 (by grind);exact ab_le.2 ⟨by grind,by grind⟩
theorem El{u v h:Rat}(h1:u≤v)(h2:v- u≤h):ab (v- u)≤h:=by
 unfold ab;grind
theorem Ch.same{u:List Rat}{L:List (List Rat)}(H:Ch u L){e x y:Rat}(he:0< e)(hxy:x≤y)(ha:∀z,x≤z→z≤y→e≤ab (af u z)):chV (u::L) x=chV (u::L) y:=by
 obtain⟨h,i,h1⟩:=H.cl.1 (ab x+ab y) e (by have:=cZ x;have:=cZ y;grind) he;refine way (f:=chV (u::L)) (· = ·) (fun _=>rfl) (fun _ _ _=>Eq.trans) i hxy fun z w a b c d=>?_;obtain⟨s1,s2,g⟩:=h1 z w (iY a (by grind)) (iY (by grind) c) (El b d) (ha z a (by grind));unfold chV;simp only[List.map_cons];rw[s1];exact wX s2 g
theorem HR{k T d uz uw D e v:Rat}(hk:0< k)(h1:k* -T≤k* (uw- uz- d* D))(h2:T* k≤d* e)(h3:d* e≤d* v)(h4:v=k* D):uz≤uw:=by
 subst h4;by_cases h:uz≤uw;exact h;have:=Rat.mul_pos hk (show 0< uz- uw by grind);grind
theorem outweigh'{k T d uz uw D e v:Rat}(hk:0< k)(h1:k* (uw- uz- d* D)≤k* T)(h2:T* k≤d* e)(h3:d* e≤d* -v)(h4:v=k* D):uw≤uz:=by
 subst h4;by_cases h:uw≤uz;exact h;have:=Rat.mul_pos hk (show 0< uw- uz by grind);grind
theorem Ch.fall{u v:List Rat}{L:List (List Rat)}{k:Rat}(H:Ch u (v::L))(hk:0< k)(hd:∀x,af v x=k* dvE u x){x y:Rat}(hxy:x≤y):chV (u::v::L) y≤chV (u::v::L) x:=by
 have g:0≤ab x+ab y:=by have:=cZ x;have:=cZ y;grind
 generalize r:ab x+ab y=R at g;obtain⟨a,b,hb⟩:=H.bez v L rfl;have hA:=mA g a;have hB:=mA g b;obtain⟨e,F,Q⟩:=part 1 (d:=2* (bV R a+bV R b+1)) (by decide+kernel) (by grind);obtain⟨h1,p1,S⟩:=H.cl.1 R e g F;obtain⟨W,p2,V⟩:=H.cl.2 v L rfl R e g F;have T:=Cy g u;obtain⟨o,O,X⟩:=part e (d:=k* (bT R u+1)) F (Rat.mul_pos hk (by grind));obtain⟨Y,U,Z,m4⟩:=less h1 W p1 p2;obtain⟨h,p,l,m⟩:=less Y o U O;refine way (f:=chV (u::v::L)) (fun s t=>t≤s) (fun _=>Int.le_refl _) (fun _ _ _ C M=>Int.le_trans M C) p hxy fun z w C M g3 g4=>?_;have n:ab z≤R:=by rw[←r];exact iY C (by grind)
 have K:ab w≤R:=by rw[←r];exact iY (by grind) g3
 have D:ab (w- z)=w- z:=by unfold ab;rw[if_neg (by grind)]
 by_cases hu:e≤ab (af u z);obtain⟨s1,s2,j⟩:=S z w n K (by grind) hu;refine Int.le_of_eq ?_;unfold chV;simp only[List.map_cons] at j⊢;rw[s1];exact(wX s2 j).symm
 have hv:e≤ab (af v z):=by
  by_cases hv:e≤ab (af v z);exact hv;have n1:=dw (fE g n a) (show ab (af u z)≤e by grind) (cZ _) hA;have n2:=dw (fE g n b) (show ab (af v z)≤e by grind) (cZ _) hB;have N:=ik (af a z* af u z) (af b z* af v z);rw[hb z,cM,cM,show ab 1=1 by decide+kernel] at N;grind
 obtain⟨s1,s2,j⟩:=V z w n K (by grind) hv;have i:=oM g n K u;rw[D] at i;have q:=ab_le.1 i;have A:=hd z
 -- the derivative outweighs what leaves the tangent
 have c:bT R u* ((w- z) * (w- z)) * k≤(w- z) * e:=by
  have q1:=Rat.mul_le_mul_of_nonneg_right (show w- z≤o by grind) (show 0≤w- z by grind);have q2:=Rat.mul_le_mul_of_nonneg_left q1 T;have q3:=Rat.mul_le_mul_of_nonneg_right q2 (show 0≤k by grind);have q4:(w- z) * e=bT R u* (o* (w- z)) * k+(w- z) * o* k:=by rw[←X];grind
  have q5:=Rat.mul_nonneg (Rat.mul_nonneg (show 0≤w- z by grind) (show 0≤o by grind)) (show 0≤k by grind);grind
 have B:0≤w- z:=by grind
 unfold chV;simp only[List.map_cons];rw[s1];rcases bR z v with⟨c1,G⟩|⟨c1,G⟩|⟨c1,G⟩
 have E:ab (af v z)=af v z:=by unfold ab;rw[if_neg (by grind)]
 rw[E] at hv;have J:=Rat.mul_le_mul_of_nonneg_left hv B;have up:af u z≤af u w:=HR hk (Rat.mul_le_mul_of_nonneg_left q.1 (by grind)) c J A;exact Ci (.inl c1) (fa z u) (fa w u) (by rw[c1];have:=qI up;omega) j;have E:ab (af v z)= -af v z:=by unfold ab;rw[if_pos G]
 rw[E] at hv;have J:=Rat.mul_le_mul_of_nonneg_left hv B;have up:af u w≤af u z:=outweigh' hk (Rat.mul_le_mul_of_nonneg_left q.2 (by grind)) c J A;exact Ci (.inr c1) (fa z u) (fa w u) (by rw[c1];have:=qI up;omega) j;exact absurd c1 s2
def nz(p:List Rat):Prop:=aj p≠[]
def dg(p:List Rat):Nat:=(aj p).length- 1
def md(p q:List Rat):List Rat:=(cf p q).2
def Eqv(p q:List Rat):Prop:=∀x,af p x=af q x
theorem eqv_trim{p q:List Rat}:Eqv p q↔aj p=aj q:=
 ⟨jO,fun h x=>by rw[←cg p,h,cg]⟩
theorem Dj{p q:List Rat}(h:Eqv p q):nz p↔nz q:=by unfold nz;rw[eqv_trim.1 h]
theorem I6{p q:List Rat}(h:Eqv p q):dg p=dg q:=by unfold dg;rw[eqv_trim.1 h]
theorem H6{p q:List Rat}(h:Eqv p q):aF p=aF q:=by unfold aF;rw[eqv_trim.1 h]
theorem ig{p:List Rat}(h:¬nz p):∀x,af p x=0:=fun x=>by
 have:aj p=[]:=by unfold nz at h;grind
 rw[←cg,this];rfl
def um(p:List Rat)(n:Nat):Prop:=coP p n≠0∧∀i,n< i→coP p i=0
theorem eo{p:List Rat}(h:nz p):um p (dg p)∧coP p (dg p)=aF p:=by
 have c:=List.length_pos_iff.2 h;have h1:=c8 (l:=p) (n:=dg p) (by unfold dg;omega)
 have a:coP p (dg p)=aF p:=by
  rw[←ce];unfold coP;grind
 refine⟨⟨by rw[a];exact c9 h,fun i b=>?_⟩,a⟩;rw[←ce];exact ef (by unfold dg at b;omega)
theorem re{p:List Rat}{n:Nat}(h:um p n):nz p∧dg p=n∧aF p=coP p n:=by
 have b:nz p:=fun e=>h.1 (trim_nil_iff.1 e n);obtain⟨h1,c⟩:=eo b
 have e:dg p=n:=by
  rcases Nat.lt_trichotomy (dg p) n with a|a|a
  exact absurd (h1.2 n a) h.1;exact a;exact absurd (h.2 _ a) h1.1
 grind
theorem Au{p:List Rat}(h:∀i,coP p i=0)(q:List Rat)(k:Nat):coP (nM p q) k=0:=by
 induction p generalizing k with
 |nil=>rfl
 |cons a p b=>
  have ha:a=0:=h 0;rw[nM,iX,gM];cases k with
  |zero=>rw[dA];grind
  |succ k=>rw[dm,b fun i=>h (i+1)];grind
theorem As(p q:List Rat):∀(n m:Nat),(∀i,n< i→coP p i=0)→(∀i,m< i→coP q i=0)→coP (nM p q) (n+m)=coP p n* coP q m∧∀k,n+m< k→coP (nM p q) k=0:=by
 induction p with
 |nil=>intro n m _ _;exact⟨by show(0:Rat)=0* _;grind,fun _ _=>rfl⟩
 |cons a p f=>
  intro n m e d;cases n with
  |zero=>
   have g:∀i,coP p i=0:=fun i=>e (i+1) (by omega)
   have c:∀k,coP (nM (a::p) q) k=coP q k* a:=fun k=>by
    rw[nM,iX,gM];cases k with
    |zero=>rw[dA];grind
    |succ k=>rw[dm,Au g];grind
   refine⟨by rw[Nat.zero_add,c,dA];grind,fun k b=>?_⟩;grind
  |succ n=>
   obtain⟨h1,o⟩:=f n m (fun i l=>e (i+1) (by omega)) d
   have c:∀k,m< k+1→coP (nM (a::p) q) (k+1)=coP (nM p q) k:=fun k h=>by
    rw[nM,iX,gM,dm,d _ h];grind
   refine⟨by rw[show n+1+m=(n+m)+1 by omega,c _ (by omega),h1,dm],fun k b=>?_⟩;obtain⟨j,rfl⟩:∃j,k=j+1:=⟨k- 1,by omega⟩;grind
theorem F5{p q:List Rat}{n m:Nat}(hp:um p n)(hq:um q m):um (aJ p q) (n+m)∧coP (aJ p q) (n+m)=coP p n* coP q m:=by
 obtain⟨h1,d⟩:=As p q n m hp.2 hq.2;refine⟨⟨?_,fun i c=>by rw[oT];grind⟩,by rw[oT];grind⟩;rw[oT];have a:=hp.1;have b:=hq.1;grind
theorem I5{p q:List Rat}(hp:nz p)(hq:nz q):nz (aJ p q)∧dg (aJ p q)=dg p+dg q∧aF (aJ p q)=aF p* aF q:=by
 obtain⟨a,b⟩:=eo hp;obtain⟨b1,b2⟩:=eo hq;obtain⟨c1,c⟩:=F5 a b1;obtain⟨d1,d2,d⟩:=re c1;grind
theorem dg_mul'{p q r:List Rat}(hp:nz p)(hq:nz q)(h:∀x,af r x=af p x* af q x):nz r∧dg r=dg p+dg q∧aF r=aF p* aF q:=by
 have e:Eqv r (aJ p q):=fun x=>by rw[h,bh]
 obtain⟨h1,a,b⟩:=I5 hp hq;exact⟨(Dj e).2 h1,(I6 e).trans a,(H6 e).trans b⟩
theorem jS{p:List Rat}{k:Rat}(hp:nz p)(hk:k≠0){r:List Rat}(h:∀x,af r x=af p x* k):nz r∧dg r=dg p∧aF r=aF p* k:=by
 have hc:um [k] 0:=⟨hk,fun i c=>by obtain⟨j,rfl⟩:∃j,i=j+1:=⟨i- 1,by omega⟩;rfl⟩;obtain⟨c1,e,a⟩:=re hc;obtain⟨h1,d,b⟩:=dg_mul' hp c1 (r:=r) (fun x=>by show _=_* (0* x+k);grind);exact⟨h1,by omega,by rw[b,a];rfl⟩
theorem dg_add{p q r:List Rat}(hp:nz p)(hq:nz q→dg q< dg p)(h:∀x,af r x=af p x+af q x):nz r∧dg r=dg p∧aF r=aF p:=by
 have hc:∀i,coP r i=coP p i+coP q i:=fun i=>by
  have:aj r=aj (fV p q):=jO fun x=>by rw[h,eF]
  rw[trim_iff.1 this i,eX]
 have a:∀i,dg p≤i→coP q i=0:=fun i b=>by
  by_cases hz:nz q;exact(eo hz).1.2 i (by have:=hq hz;omega);exact trim_nil_iff.1 (Decidable.byContradiction hz) i
 obtain⟨c,e⟩:=eo hp;have d:um r (dg p):=⟨by rw[hc,a _ (Nat.le_refl _)];have:=c.1;grind,fun i b=>by rw[hc,a _ (by omega),c.2 i b];grind⟩;obtain⟨b1,b2,f⟩:=re d;exact⟨b1,b2,by rw[f,hc,a _ (Nat.le_refl _),←e];grind⟩
theorem lb(p:List Rat){q:List Rat}(hq:nz q):(∀x,af p x=af (cf p q).1 x* af q x+af (md p q) x)∧(nz (md p q)→dg (md p q)< dg q):=by
 obtain⟨h1,a⟩:=oO p q hq;refine⟨fun x=>(h1 x).symm,fun h=>?_⟩;have:=List.length_pos_iff.2 h;unfold md at *
 unfold dg;omega
theorem zw{p q u v:List Rat}(hq:nz q)(h:∀x,af p x=af u x* af q x+af v x)(hv:nz v→dg v< dg q):Eqv (md p q) v:=by
 obtain⟨h1,c⟩:=lb p hq;by_cases hw:nz (cn u (cf p q).1)
 obtain⟨c1,d,_⟩:=dg_mul' hw hq (r:=cn (md p q) v) (fun x=>by
  rw[dJ,dJ];grind)
 have a:∀r,(nz r→dg r< dg q)→∀i,dg q≤i→coP r i=0:=fun r e i b=>by
  by_cases a:nz r;exact(eo a).1.2 i (by grind);exact trim_nil_iff.1 (Decidable.byContradiction a) i
 have:=(eo c1).1.1;rw[gX] at this;grind;intro x;have:=ig hw x;rw[dJ] at this;grind
theorem H2(m a:Rat):m≤dM [m,a]∧a≤dM [m,a]:=by
 have e:dM [m,a]=if 0< dB a m then a else m:=by
  unfold dM dO;grind
 rw[e];unfold dB;grind
theorem u9(q:Rat):eN q=ab q:=nf q
theorem sx(lead:Rat):∀(l:List Rat) (m:Rat),m≤boL lead l m∧∀c∈l,ab (c/ lead)≤boL lead l m
 |[],m=>⟨by rw[boL];grind,fun _ h=>by cases h⟩
 |c::l,m=>by
  obtain⟨h1,b⟩:=sx lead l (dM [m,eN (c/ lead)]);obtain⟨e,f⟩:=H2 m (eN (c/ lead));rw[boL];refine⟨by grind,fun d a=>?_⟩;rcases List.mem_cons.1 a with rfl|a
  rw[u9] at *;grind;grind
theorem tR(p:List Rat):1≤cj p:=by
 have:=(sx (aF p) ((aj p).take ((aj p).length- 1)) 0).1;unfold cj;grind
theorem big{B x:Rat}(hB:1≤B)(hx:x≤ -B):∀(l:List Rat) (lead:Rat),l.getLast?=some lead→lead≠0→(∀c∈l.dropLast,ab c≤(B- 1) * ab lead)→
    ab lead≤ab (af l x)∧sgE x l=if l.length % 2=1 then sgZ lead.num else -sgZ lead.num
 |[],_,h,_,_=>by cases h
 |[a],lead,h,h0,_=>by
  have e:a=lead:=by grind
  subst e;have e:af [a] x=a:=by rw[aE,aM];grind
  refine⟨by grind,?_⟩;unfold sgE;grind
 |a::b::m,lead,h,h0,hc=>by
  rw[List.getLast?_cons_cons] at h;rw[List.dropLast_cons_cons] at hc;obtain⟨i1,i2⟩:=big hB hx (b::m) lead h h0 fun c g=>hc c (List.mem_cons_of_mem _ g);have ha:=hc a (List.mem_cons_self ..);have e:af (a::b::m) x=af (b::m) x* x+a:=aE ..
  have d:(if (a::b::m).length % 2=1 then sgZ lead.num else -sgZ lead.num)= -sgE x (b::m):=by
   grind
  rw[d]
  have k:0< ab (af (b::m) x):=by
   have:0< ab lead:=by unfold ab;grind
   grind
  have h1:=Rat.mul_le_mul_of_nonneg_left i1 (show 0≤B- 1 by grind);have j:=ab_le.1 (show ab a≤(B- 1) * ab (af (b::m) x) by grind);rcases bR x (b::m) with⟨c1,f⟩|⟨c1,f⟩|⟨c1,f⟩
  have i:ab (af (b::m) x)=af (b::m) x:=by unfold ab;rw[if_neg (by grind)]
  have o:=Rat.mul_le_mul_of_nonneg_left hx (show 0≤af (b::m) x by grind);rw[i] at j i1;have p:af (a::b::m) x≤ -af (b::m) x:=by rw[e];grind
  refine⟨?_,by rw[c1,jC (by grind)]⟩;have n:ab (af (a::b::m) x)= -af (a::b::m) x:=by unfold ab;rw[if_pos (by grind)]
  grind;have i:ab (af (b::m) x)= -af (b::m) x:=by unfold ab;rw[if_pos f]
  have o:=Rat.mul_le_mul_of_nonneg_left hx (show 0≤ -af (b::m) x by grind);rw[i] at j i1;have p: -af (b::m) x≤af (a::b::m) x:=by rw[e];grind
  refine⟨?_,by rw[c1,gu (by grind)];decide⟩;have n:ab (af (a::b::m) x)=af (a::b::m) x:=by unfold ab;rw[if_neg (by grind)]
  grind;rw[f] at k;exact absurd k (by decide+kernel)
theorem tS{q:List Rat}(h:nz q){x:Rat}(hx:x≤ -cj q):ab (aF q)≤ab (af q x)∧sgE x q=sgI q:=by
 have d:=List.length_pos_iff.2 h;have hg:=c8 (l:=q) (n:=(aj q).length- 1) (by omega)
 have h1:=big (tR q) hx (aj q) (aF q) (by grind) (c9 h) fun c hc=>by
  rw[List.dropLast_eq_take] at hc;have a:=(sx (aF q) _ 0).2 c hc;have b:=cM (c/ aF q) (aF q);rw[Rat.div_mul_cancel (c9 h)] at b;have f:=Rat.mul_le_mul_of_nonneg_right a (cZ (aF q));unfold cj;grind
 have e:sgE x (aj q)=sgE x q:=by unfold sgE;rw[cg]
 rw[cg] at h1;unfold sgI cQ;grind
theorem E2:∀l:List (List Rat),(∀q∈l,nz q)→∃M:Rat,∀x,x≤ -M→l.map (sgE x)=l.map sgI
 |[],_=>⟨0,fun _ _=>rfl⟩
 |q::l,h=>by
  obtain⟨M,c⟩:=E2 l fun r d=>h r (List.mem_cons_of_mem _ d);have b:=h q (List.mem_cons_self ..);by_cases hb:cj q≤M;exact⟨M,fun x a=>by rw[List.map_cons,List.map_cons,c x a,(tS b (by grind)).2]⟩;exact⟨cj q,fun x a=>by rw[List.map_cons,List.map_cons,c x (by grind),(tS b a).2]⟩
theorem uQ{p:List Rat}(h:nz p):aF p≠0:=c9 h
def Dv(d p:List Rat):Prop:=∃u,∀x,af p x=af u x* af d x
theorem jf{p q r:List Rat}(h:∀x,af r x=af p x* af q x)(hr:nz r):nz p∧nz q:=by
 constructor;intro e;have a:¬nz p:=fun h=>h e;exact absurd rfl ((Dj (q:=[]) fun x=>by rw[h,ig a,aM];grind).1 hr);intro e;have a:¬nz q:=fun h=>h e;exact absurd rfl ((Dj (q:=[]) fun x=>by rw[h,ig a,aM];grind).1 hr)


theorem An{p:List Rat}(h:nz p):cQ p=(dg p:Int):=by
 have:=List.length_pos_iff.2 h;unfold cQ dg;omega
theorem degP_nil{p:List Rat}:cQ p< 0↔¬nz p:=by
 unfold cQ nz;constructor;intro h e;have:=List.length_pos_iff.2 e;omega;intro h;have:aj p=[]:=Decidable.byContradiction h;rw[this];decide
theorem iF{p:List Rat}(h:nz p):(∀x,af (cI p) x=af p x* (1/ aF p))∧nz (cI p)∧dg (cI p)=dg p:=by
 have hl:=uQ h;have e:∀x,af (cI p) x=af p x* (1/ aF p):=fun x=>by unfold cI;rw[if_neg h,aR]
 have hk:1/ aF p≠0:=fun e=>by have:1/ aF p* aF p=1:=by grind
                              rw[e] at this;grind
 obtain⟨a,b,_⟩:=jS h hk e;exact⟨e,a,b⟩
theorem uN(p:List Rat):∃k k':Rat,k* k'=1∧∀x,af (cI p) x=af p x* k:=by
 by_cases h:nz p;refine⟨1/ aF p,aF p,Rat.div_mul_cancel (uQ h),(iF h).1⟩;refine⟨1,1,by grind,fun x=>?_⟩;have e:aj p=[]:=Decidable.byContradiction h;unfold cI;rw[if_pos e,ig h,aM];grind
theorem Dv.refl(d:List Rat):Dv d d:=⟨[1],fun x=>by rw[aE,aM];grind⟩
theorem Dv.zero(d:List Rat){r:List Rat}(h:∀x,af r x=0):Dv d r:=⟨[],fun x=>by rw[aM];grind⟩
theorem Dv.trans{a b c:List Rat}(h:Dv a b)(k:Dv b c):Dv a c:=by
 obtain⟨u,d⟩:=h;obtain⟨v,hv⟩:=k;exact⟨aJ v u,fun x=>by rw[hv,bh];grind⟩
theorem Dv.lin{d p q r:List Rat}{u v:List Rat}(h:Dv d p)(k:Dv d q)(e:∀x,af r x=af u x* af p x+af v x* af q x):Dv d r:=by
 obtain⟨s,hs⟩:=h;obtain⟨t,ht⟩:=k;exact⟨fV (aJ u s) (aJ v t),fun x=>by rw[e,eF,bh,bh];grind⟩
theorem Dv.mul{d p q r:List Rat}(h:Dv d p)(e:∀x,af r x=af q x* af p x):Dv d r:=
 h.lin h (u:=q) (v:=[]) fun x=>by rw[aM];grind
theorem Dv.scale{d p r:List Rat}{k:Rat}(h:Dv d p)(e:∀x,af r x=af p x* k):Dv d r:=
 h.mul (q:=[k]) fun x=>by rw[aE,aM];grind
theorem Dv.dg{d p:List Rat}(h:Dv d p)(hp:nz p):dg d≤dg p:=by
 obtain⟨u,a⟩:=h;obtain⟨c,b⟩:=jf a hp;have:=(dg_mul' c b a).2.1;omega
theorem pX{d:List Rat}(h:nz d)(h0:dg d=0):∃c:Rat,c≠0∧∀x,af d x=c:=by
 obtain⟨e1,e2⟩:=eo h;refine⟨aF d,uQ h,fun x=>?_⟩
 have:aj d=aj [aF d]:=trim_iff.2 fun i=>by
  cases i with
  |zero=>rw[dA,←e2,h0]
  |succ i=>exact e1.2 _ (by omega)
 rw[←cg,this,cg,aE,aM];grind
theorem nz_one:nz [1]:=by unfold nz;decide+kernel
theorem bez:∀(n:Nat) (p q:List Rat),(aj q).length=n→nz p∨nz q→∃g a b:List Rat,nz g∧Dv g p∧Dv g q∧∀x,af g x=af a x* af p x+af b x* af q x:=by
 intro n
 induction n using Nat.strongRecOn with
 |ind n e=>
  intro p q j h;by_cases hq:nz q;obtain⟨m1,m2⟩:=lb p hq
  have c:(aj (md p q)).length< n:=by
   have:=(oO p q hq).2;unfold md;omega
  obtain⟨g,a,b,i,d,f,g3⟩:=e _ c q (md p q) rfl (.inl hq);refine⟨g,b,cn a (aJ b (cf p q).1),i,d.lin f (u:=(cf p q).1) (v:=[1]) fun x=>?_,d,fun x=>?_⟩;rw[m1,aE,aM];grind;rw[g3,dJ,bh,m1 x];grind;have hp:nz p:=h.resolve_right hq;exact⟨p,[1],[],hp,.refl p,.zero p (ig hq),fun x=>by rw[aE,aM,ig hq];grind⟩
theorem nU:∀(f:Nat) (p q g:List Rat),qf f p q=some g→nz p∨nz q→nz g∧Dv g p∧Dv g q∧∃a b:List Rat,∀x,af g x=af a x* af p x+af b x* af q x
 |0,_,_,_,h,_=>by cases h
 |f+1,p,q,g,h,hz=>by
  rw[qf] at h;split at h
  ·rename_i c
   split at h;cases h;have i:¬nz q:=fun e=>e c;have hp:nz p:=hz.resolve_right i;obtain⟨m1,m2,_⟩:=iF hp;obtain⟨k,d,o,m⟩:=uN p;refine⟨m2,⟨[d],fun x=>by rw[aE,aM];grind⟩,.zero _ (ig i),[k],[],fun x=>by rw[aE,aM];grind⟩;cases h
  ·rename_i c
   split at h;obtain⟨m1,_⟩:=lb p c;obtain⟨k,d,o,m⟩:=uN (cf p q).2;obtain⟨n,j,l,a,b,g3⟩:=nU f _ _ _ h (.inl c);refine⟨n,j.lin l (u:=(cf p q).1) (v:=[d]) fun x=>?_,j,aL b k,cn a (aL (aJ b (cf p q).1) k),fun x=>?_⟩;rw[m1,aE,aM];show _+af (cf p q).2 x=_;grind;rw[g3,aR,dJ,aR,bh,m1 x];show _=_* (_+af (cf p q).2 x)+_;grind;cases h
theorem r8{p q:List Rat}(h:∀x,af p x=af q x)(x:Rat):dvE p x=dvE q x:=Fo (trim_iff.1 (jO h)) x
theorem yw{p r:List Rat}{k:Rat}(h:∀x,af r x=af p x* k)(x:Rat):dvE r x=dvE p x* k:=by
 rw[r8 (q:=fb p k) (fun x=>by rw[h,dX]) x,jq]
def pw(d:List Rat):Nat→List Rat
 |0=>[1]
 |k+1=>aJ (pw d k) d
theorem pw_dv(d:List Rat)(k:Nat)(x:Rat):dvE (pw d (k+1)) x=(((k+1:Nat):Int):Rat) * af (pw d k) x* dvE d x:=by
 induction k with
 |zero=>
  show dvE (aJ [1] d) x=_;rw[rZ,eu,show dvE [] x=0 from rfl];show _=((1:Int):Rat) * af [1] x* _;rw[aM];grind
 |succ k a=>
  show dvE (aJ (pw d (k+1)) d) x=_;rw[rZ];have e2:af (pw d (k+1)) x=af (pw d k) x* af d x:=bh _ _ _;grind
theorem pw_dg{d:List Rat}(hd:nz d)(k:Nat):nz (pw d k)∧dg (pw d k)=k* dg d:=by
 induction k with
 |zero=>exact⟨nz_one,by rw[Nat.zero_mul];show dg [1]=0;decide+kernel⟩
 |succ k c=>
  obtain⟨a,b,_⟩:=I5 c.1 hd;exact⟨a,by show dg (aJ _ _)=_;grind⟩
theorem tK{d:List Rat}(h:dg d≠0)(hd:nz d):nz (aN d)∧dg (aN d)< dg d:=by
 obtain⟨⟨e1,e2⟩,_⟩:=eo hd
 have h1:um (aN d) (dg d- 1):=by
  refine⟨?_,fun i c=>?_⟩;rw[ek,show dg d- 1+1=dg d by omega];intro e;rcases Rat.mul_eq_zero.1 e with e|e
  exact e1 e;have:((dg d:Nat):Int)=0:=by simp_all
  omega;rw[ek,e2 _ (by omega),Rat.zero_mul]
 obtain⟨a,b,_⟩:=re h1;grind
theorem sqfree{p s g a b:List Rat}(hp:nz p)(h1:∀x,af p x=af s x* af g x)(h3:∀x,af g x=af a x* af p x+af b x* af (aN p) x):
    ∀n d,dg d=n→nz d→Dv d s→Dv d (aN s)→dg d=0:=by
 intro n
 induction n using Nat.strongRecOn with
 |ind n F=>
  intro d L l ⟨u,i⟩ ⟨v,hv⟩;by_cases h0:dg d=0;exact h0;exfalso;obtain⟨d1,d2⟩:=tK h0 l;obtain⟨e,o,z,e1,e2,G,r⟩:=bez _ d (aN d) rfl (.inl l);have M:=G.dg d1;have B:=F (dg e) (by omega) e rfl e1 (e2.trans ⟨u,i⟩) (e2.trans ⟨v,hv⟩);obtain⟨c,y,hc⟩:=pX e1 B
  -- the square divides s
  have hs:∀x,dvE s x=dvE u x* af d x+af u x* dvE d x:=fun x=>by
   rw[r8 (q:=aJ u d) (fun x=>by rw[i,bh]) x,rZ]
  have m:1/ c* c=1:=Rat.div_mul_cancel y
  obtain⟨t,ht⟩:∃t:List Rat,∀x,af u x=af t x* af d x:=by
   refine⟨aL (fV (aJ o u) (aJ z (cn v (B5 u)))) (1/ c),fun x=>?_⟩;rw[aR,eF,bh,bh,dJ,qn];have A:=r x;have D:=hv x;rw[hc,bY] at A;rw[bY,hs] at D;grind
  obtain⟨J,H⟩:=jf h1 hp
  have h:∀k,∃w:List Rat,∀x,af g x=af w x* af (pw d k) x:=by
   intro k
   induction k with
   |zero=>exact⟨g,fun x=>by rw[pw,aE,aM];grind⟩
   |succ k j=>
    obtain⟨w,f⟩:=j;obtain⟨W,E⟩:∃W,W=aJ t w:=⟨_,rfl⟩
    have q1:∀x,af p x=af W x* af (pw d (k+2)) x:=fun x=>by
     rw[h1,f,i,ht,E,bh,pw,bh,pw,bh];grind
    have q2:∀x,af (aN p) x=dvE W x* af (pw d (k+2)) x+af W x* dvE (pw d (k+2)) x:=fun x=>by
     rw[bY,r8 (q:=aJ W (pw d (k+2))) (fun x=>by rw[q1,bh]) x,rZ]
    refine⟨fV (aJ a (aJ W d)) (aJ b (fV (aJ (B5 W) d) (aJ (aL W (((k+1+1:Nat):Int):Rat)) (B5 d)))),fun x=>?_⟩;have q3:=pw_dv d (k+1) x;have q4:af (pw d (k+2)) x=af (pw d (k+1)) x* af d x:=bh _ _ _;rw[h3,q2,q1,q3,q4];simp only[eF,bh,aR,qn];grind
  obtain⟨w,f⟩:=h (dg g+1);obtain⟨m1,m2⟩:=jf f H;have C:=(dg_mul' m1 m2 f).2.1;rw[(pw_dg l _).2] at C;have K:dg g+1≤(dg g+1) * dg d:=Nat.le_mul_of_pos_right _ (by omega);omega
theorem ov{p:List Rat}(h:nz p):∃k:Rat,0< k∧∀x,af (bU p) x=af p x* k:=by
 have c:iT (aj p) 1≠0:=sd _ (by decide)
 have hN:jg (iT (aj p) 1) (aj p) 0≠0:=by
  intro e;have h1:=(rl (iT (aj p) 1) (aj p) 0).2;have d:=(mc (aj p) 1).2;have f:=List.length_pos_iff.2 h;have hg:=c8 (l:=p) (n:=(aj p).length- 1) (by omega);have a:=List.mem_of_getElem? hg;have b:=h1 _ a;rw[e] at b;exact zH (d _ a) c (c9 h) (Nat.eq_zero_of_zero_dvd b)
 refine⟨nQ (iT (aj p) 1) / nQ (jg (iT (aj p) 1) (aj p) 0),?_,fun x=>by unfold bU;rw[aR,cg]⟩
 have pos:∀n:Nat,n≠0→(0:Rat)< nQ n:=fun n g=>by
  rw[←num_pos];show 0< (n:Int);omega
 obtain⟨k,i,e⟩:=part (nQ (iT (aj p) 1)) (pos _ c) (pos _ hN);rw[←e,Rat.mul_div_cancel (fun e=>hN (nQ_zero.1 e))];grind
inductive Cx:List Rat→List Rat→List (List Rat)→Prop
 |nil {u n:List Rat}:¬nz n→Cx u n []
 |cons {u n v n' q:List Rat} {L:List (List Rat)} {c:Rat}:0< c→(∀x,af v x=af n x* c)→nz v→(∀x,af n' x=af q x* af v x- af u x)→Cx v n' L→Cx u n (v::L)
theorem n8:∀(f k:Nat) (last next:List Rat) (acc out:List (List Rat)),oa f k last next acc=some out→∃L,out=acc++L∧Cx last next L
 |_,0,_,_,_,_,h=>by cases h
 |f,k+1,last,next,acc,out,h=>by
  rw[oa] at h;split at h
  ·rename_i a
   cases h;exact⟨[],by simp,.nil fun e=>e a⟩
  ·rename_i a
   split at h
   ·rename_i h1
    obtain⟨L,e,d⟩:=n8 f k _ _ _ _ h;obtain⟨c,b,hc⟩:=ov a;refine⟨bU next::L,by grind,.cons (q:=(cf last (bU next)).1) b hc h1.2.2 (fun x=>?_) d⟩;have:=(lb last h1.2.2).1 x;unfold md at this;rw[aR];grind
   cases h
theorem Cx.ch{u n:List Rat}{L:List (List Rat)}(H:Cx u n L):nz u→(∀d,nz d→Dv d u→Dv d n→dg d=0)→Ch u L∧∀v L',L=v::L'→∃c:Rat,0< c∧∀x,af v x=c* af n x:=by
 induction H with
 | @nil u n hn=>
  intro f e;obtain⟨c,b,hc⟩:=pX f (e u f (.refl u) (.zero u (ig hn)));exact⟨.one b hc,fun _ _ h=>by cases h⟩
 | @cons u n v n' q L c hc hv hnv hn' hL ih=>
  intro f e
  obtain⟨i1,i2⟩:=ih hnv fun d d0 d1 d2=>e d d0 (d1.lin d2 (u:=q) (v:=[-1]) fun x=>by rw[aE,aM];grind)
   (d1.scale (k:=1/ c) fun x=>by grind)
  refine⟨?_,fun _ _ h=>by grind⟩;cases L with
  |nil=>exact .pair i1
  |cons w L=>
   obtain⟨g,b,i⟩:=i2 w L rfl;exact .step (a:=g) (c:=1) (q:=aL q g) b (by grind) (fun x=>by rw[i,aR];grind) i1
theorem sP{f:Nat}{p s:List Rat}(h:xk f p=some s)(hp:nz p):nz s∧∀d,nz d→Dv d s→Dv d (aN s)→dg d=0:=by
 unfold xk at h;split at h;cases hg:qf f p (aN p) with
 |none=>grind
 |some g=>
  rw[hg,Option.bind_some] at h;split at h;cases h;obtain⟨c,l,r,a,b,g3⟩:=nU f _ _ _ hg (.inl hp);obtain⟨m1,m2⟩:=lb p c;obtain⟨u,n⟩:=l;have j:=zw (u:=u) (v:=[]) c (fun x=>by rw[n x,aM];grind) (fun e=>absurd rfl e)
  have hs:∀x,af p x=af (cf p g).1 x* af g x:=fun x=>by
   have:=m1 x;rw[j x,aM] at this;grind
  obtain⟨o,t⟩:=jf hs hp;obtain⟨k,i,q,m⟩:=uN (cf p g).1;refine⟨(iF o).2.1,fun d d0 d1 d2=>sqfree hp hs g3 _ d rfl d0 (d1.scale (k:=i) fun x=>by grind) (d2.scale (k:=i) fun x=>?_)⟩;rw[bY,bY,yw m x];grind;cases h
 cases h
theorem oY(u:List Rat)(x:Rat):chV [u] x=0:=by
 unfold chV chL chL;grind
theorem iW{f:Nat}{p:List Rat}{c:Cnt}(h:gx f p=some c)(hp:nz p):nz c.p∧xk f p=some c.p∧mG f c.p=some c.ch∧c.far=chV c.ch (-cj c.p)∧(∀x,x≤ -cj c.p→bZ c x=0)∧∀x y,x≤y→bZ c x≤bZ c y:=by
 unfold gx at h;cases hs:xk f p with
 |none=>grind
 |some s=>
  rw[hs,Option.bind_some] at h;cases hc:mG f s with
  |none=>grind
  |some ch=>
   rw[hc,Option.bind_some] at h;split at h
   ·rename_i j
    cases h;obtain⟨g,s1⟩:=sP hs hp;have i:=hc;unfold mG at hc;split at hc;obtain⟨L,e,D⟩:=n8 _ _ _ _ _ _ hc;obtain⟨k,r,l⟩:=ov g;have b:k≠0:=by grind
    have n:nz (bU s):=(jS g b l).1;have C:k* (1/ k)=1:=by grind
    have o:0< 1/ k:=by
     obtain⟨m,m0,m1⟩:=part 1 (d:=k) (by grind) r;grind
    obtain⟨c1,F⟩:=D.ch n fun d d0 d1 d2=>s1 d d0 (d1.scale (k:=1/ k) fun x=>by grind) d2;have w:ch=bU s::L:=e;subst w
    have mono:∀x y,x≤y→chV (bU s::L) y≤chV (bU s::L) x:=fun x y a=>by
     cases L with
     |nil=>rw[oY,oY];grind
     |cons v L=>
      obtain⟨u,B,hv⟩:=F v L rfl;refine c1.fall (k:=u* (1/ k)) (Rat.mul_pos B o) (fun x=>?_) a;rw[hv,bY,yw l x];grind
    obtain⟨M,E⟩:=E2 (bU s::L) fun q A=>(j.1 q A).1
    have low:∀x,x≤ -cj s→chV (bU s::L) x=chL ((bU s::L).map sgI) 0 0:=fun x t=>by
     by_cases hxM:x≤ -M;unfold chV;rw[E x hxM]
     rw[←c1.same (e:=ab (aF s) * k) (x:= -M) (y:=x) (Rat.mul_pos (by have:=c9 g;unfold ab;split <;> grind) r) (by grind) (fun z H G=>by
      rw[l,cM,show ab k=k by unfold ab;rw[if_neg (by grind)]];exact Rat.mul_le_mul_of_nonneg_right (tS g (by grind)).1 (by grind))]
     unfold chV;grind
    refine⟨g,rfl,i,(low _ (by grind)).symm,fun x t=>?_,fun x y a=>?_⟩;have:=low x t;unfold bZ;unfold chV at this;show _- chL ((bU s::L).map (sgE x)) 0 0=0;rw[this];simp;have:=mono x y a;unfold bZ;unfold chV at this;show _- chL ((bU s::L).map (sgE x)) 0 0≤_- chL ((bU s::L).map (sgE y)) 0 0;omega;grind
   cases h
end Go.Abs
