/- Part W14 of the proof. -/
import Derived.Test.YtjmkjicckobojaaGreatDoorW13
set_option linter.all false
namespace Go.Abs
def ab(x:Rat):Rat:=if x< 0 then -x else x
theorem gG(x:Rat):0<=ab x:=by unfold ab;grind
theorem ab_le{x c:Rat}:ab x<=c↔ -c<=x/\x<=c:=by unfold ab;grind
theorem uh(x y:Rat):ab (x+y)<=ab x+ab y:=by unfold ab;grind
theorem Fi(x:Rat):ab (-x)=ab x:=by unfold ab;grind
theorem gu(x y:Rat):ab (x* y)=ab x* ab y:=by
 have c:∀a b:Rat,0<=a->0<=b->ab (a* b)=a* b:=λa b ha hb=>by
  have:=Rat.mul_nonneg ha hb;unfold ab;grind
 by_cases hx:x< 0;by_cases hy:y< 0;have:=c (-x) (-y) φ φ;rw[show x* y= -x* -y by grind,this];unfold ab;rw[if_pos hx,if_pos hy];have:=c (-x) y φ φ;rw[show x* y= -(-x* y) by grind,Fi,this];unfold ab;rw[if_pos hx,if_neg hy];by_cases hy:y< 0;have:=c x (-y) φ φ;rw[show x* y= -(x* -y) by grind,Fi,this];unfold ab;rw[if_neg hx,if_pos hy];have:=c x y φ φ;rw[this];unfold ab;grind
theorem gP{a b c d:Rat}(h1:a<=b)(h2:c<=d)(h3:0<=c)(h4:0<=b):a* c<=b* d:=by
 have e1:=Rat.mul_le_mul_of_nonneg_right h1 h3;have e2:=Rat.mul_le_mul_of_nonneg_left h2 h4;grind
def bV(R:Rat):Lq->Rat
 |[]=>0
 |a::l=>bV R l* R+ab a
theorem sG{R:Rat}(hR:0<=R):∀l,0<=bV R l
 |[]=>by simp[bV]
 |a::l=>by
  have b:=Rat.mul_nonneg (sG hR l) hR;have c:=gG a;rw[bV];grind
theorem jP{R x:Rat}(hR:0<=R)(hx:ab x<=R):∀l,ab (an l x)<=bV R l
 |[]=>by rw[aZ,bV];decide
 |a::l=>by
  have b:=jP hR hx l;have d:=gP b hx (gG x) (sG hR l);have c:=uh (an l x* x) a;rw[gu] at c;rw[aO,bV];grind
def bL(R:Rat):Lq->Rat
 |[]=>0
 |_::l=>bL R l* R+bV R l
theorem Da{R:Rat}(hR:0<=R):∀l,0<=bL R l
 |[]=>by simp[bL]
 |a::l=>by
  have b:=Rat.mul_nonneg (Da hR l) hR;have c:=sG hR l;rw[bL];grind
theorem o6{R x y:Rat}(hR:0<=R)(hx:ab x<=R)(hy:ab y<=R):∀l,ab (an l y- an l x)<=bL R l* ab (y- x)
 |[]=>by
  rw[aZ,aZ,bL,Rat.zero_mul];decide+kernel
 |a::l=>by
  have d:=o6 hR hx hy l;have c:=jP hR hx l;have e:an (a::l) y- an (a::l) x=(an l y- an l x) * y+an l x* (y- x):=by rw[aO,aO];grind
  have f:=uh ((an l y- an l x) * y) (an l x* (y- x));rw[gu,gu] at f;have b:=gG (y- x);have g:=gP d hy (gG y) (Rat.mul_nonneg (Da hR l) b);have h:=Rat.mul_le_mul_of_nonneg_right c b;rw[bL];grind
def bT(R:Rat):Lq->Rat
 |[]=>0
 |_::l=>bT R l* R+bL R l
theorem G7{R:Rat}(hR:0<=R):∀l,0<=bT R l
 |[]=>by simp[bT]
 |a::l=>by
  have b:=Rat.mul_nonneg (G7 hR l) hR;have c:=Da hR l;rw[bT];grind
theorem tK{R x y:Rat}(hR:0<=R)(hx:ab x<=R)(hy:ab y<=R):∀l,ab (an l y- an l x- (y- x) * dvE l x)<=bT R l* (ab (y- x) * ab (y- x))
 |[]=>by
  rw[aZ,aZ,bT,show dvE [] x=0 from rfl,Rat.zero_mul,Rat.mul_zero];decide+kernel
 |a::l=>by
  have d:=tK hR hx hy l;have c:=o6 hR hx hy l;have e:an (a::l) y- an (a::l) x- (y- x) * dvE (a::l) x=(an l y- an l x- (y- x) * dvE l x) * x+(an l y- an l x) * (y- x):=by rw[aO,aO,eX];grind
  have f:=uh ((an l y- an l x- (y- x) * dvE l x) * x) ((an l y- an l x) * (y- x));rw[gu,gu] at f;have b:=gG (y- x);have g:=gP d hx (gG x) (Rat.mul_nonneg (G7 hR l) (Rat.mul_nonneg b b));have h:=Rat.mul_le_mul_of_nonneg_right c b;rw[e,bT];grind
inductive Gsn:Int->List Int->List Int->Prop
 |nil {t:Int}:Gsn t [] []
 |solid {t s:Int} {l l':List Int}:s≠0->Gsn s l l'->Gsn t (s::l) (s::l')
 |weak {t x y:Int} {l l':List Int}:(x=0\/x=t\/x= -t)->(y=0\/y=t\/y= -t)->Gsn (-t) l l'->Gsn t (x:: -t::l) (y:: -t::l')
theorem sr:∀(l:List Int) (n t:Int),chL l n t=n+chL l 0 t
 |[],n,t=>by simp[chL]
 |s::l,n,t=>by
  unfold chL;by_cases hs:s≠0;rw[if_pos hs,if_pos hs,sr l (if s= -t then n+1 else n),sr l (if s= -t then 0+1 else 0)];split <;> omega;rw[if_neg hs,if_neg hs];exact sr l n t
theorem CY{t x:Int}(ht:t≠0)(hx:x=0\/x=t\/x= -t)(l:List Int)(n:Int):chL (x:: -t::l) n t=chL l (n+1) (-t):=by
 rcases hx with rfl|rfl|rfl
 rw[chL,if_neg ψ,chL,if_pos ω,if_pos rfl];rw[chL,if_pos ht,if_neg ω,chL,if_pos ω,if_pos rfl];rw[chL,if_pos ω,if_pos rfl,chL,if_pos ω,if_neg ω]
theorem xy{t:Int}{l l':List Int}(h:Gsn t l l'):t≠0->∀n,chL l n t=chL l' n t:=by
 induction h with
 |nil=>exact λ_ _=>rfl
 |solid hs _ a=>
  intro b n;rw[chL,if_pos hs,chL,if_pos hs];exact a hs _
 |weak d c _ a=>
  intro b n;rw[CY b d,CY b c];exact a ω _
theorem xw{s:Int}{l l':List Int}(hs:s≠0)(h:Gsn s l l'):chL (s::l) 0 0=chL (s::l') 0 0:=by
 rw[chL,if_pos hs,chL,if_pos hs];exact xy h hs _
theorem C0{s s' t:Int}{l l':List Int}(ht:t=1\/t= -1)(hs: -1<=s/\s<=1)(hs': -1<=s'/\s'<=1)(hm:t* s<=t* s')(h:Gsn t l l'):chL (s'::t::l') 0 0<=chL (s::t::l) 0 0:=by
 have a:t≠0:=ω
 have b:∀(u:Int) (k:List Int),-1<=u/\u<=1->chL (u::t::k) 0 0=(if u= -t then 1 else 0)+chL k 0 t:=λu k c=>by
  by_cases h0:u=0;subst h0;rw[chL,if_neg ψ,chL,if_pos a,if_neg ω,if_neg ω];omega;rw[chL,if_pos h0,if_neg ω,chL,if_pos a,sr];by_cases h1:u= -t;rw[if_pos ω,if_pos h1];omega;rw[if_neg ω,if_neg h1]
 rw[b s l hs,b s' l' hs',xy h a 0];rcases ht with rfl|rfl <;> split <;> split <;> omega
section
variable {q:Lq}{x:Rat}
theorem num_pos{q:Rat}:0< q.num↔0< q:=by
 have a:0<=q.num↔0<=q:=Rat.num_nonneg;have b:q.num=0↔q=0:=Rat.num_eq_zero;grind
theorem oJ(h:0< an q x):sgE x q=1:=by
 have:=sgZ_num_gt.2 h;have:=oI (an q x).num;unfold sgE;omega
theorem uR(h:an q x< 0):sgE x q= -1:=by
 have:=sgZ_num_lt.2 h;have:=oI (an q x).num;unfold sgE;omega
theorem vS(h:an q x=0):sgE x q=0:=sgZ_num_eq.2 h
theorem jh(x:Rat)(q:Lq): -1<=sgE x q/\sgE x q<=1:=oI _
theorem dV(x:Rat)(q:Lq):(sgE x q=1/\0< an q x)\/(sgE x q= -1/\an q x< 0)\/(sgE x q=0/\an q x=0):=by
 by_cases h:0< an q x;exact .inl ⟨oJ h,h⟩;by_cases h':an q x< 0;exact .inr (.inl ⟨uR h',h'⟩);have e:an q x=0:=φ
 exact .inr (.inr ⟨vS e,e⟩)
theorem qM{y:Rat}(h:an q x<=an q y):sgE x q<=sgE y q:=by
 rcases dV x q with⟨a,b⟩|⟨a,b⟩|⟨a,b⟩
 rw[a,oJ φ];decide;have:=jh y q;omega;by_cases h0:0< an q y;rw[a,oJ h0];decide;rw[a,vS φ];decide
theorem part(e:Rat){d:Rat}(he:0< e)(hd:0< d):∃h:Rat,0< h/\h* d=e:=by
 refine⟨e/ d,?_,Rat.div_mul_cancel φ⟩;have e1:e/ d* d=e:=Rat.div_mul_cancel φ;by_cases h:0< e/ d;exact h;have a:e/ d* d<=0* d:=Rat.mul_le_mul_of_nonneg_right φ φ;grind
theorem less(a b:Rat)(ha:0< a)(hb:0< b):∃h:Rat,0< h/\h<=a/\h<=b:=φ
theorem keep(u:Lq){R e:Rat}(hR:0<=R)(he:0< e):∃h:Rat,0< h/\∀x y:Rat,ab x<=R->ab y<=R->ab (y- x)<=h->e<=ab (an u x)->sgE y u=sgE x u/\sgE x u≠0:=by
 have k:=Da hR u;obtain⟨h,j,n⟩:=part e (d:=2* (bL R u+1)) he φ;refine⟨h,j,λx y l i g ha=>?_⟩;have m:=o6 hR l i u;have p:=Rat.mul_le_mul_of_nonneg_left g k;have o:=ab_le (x:=an u y- an u x) (c:=ab (an u y- an u x))|>.1 φ;rcases dV x u with⟨a,b⟩|⟨a,b⟩|⟨a,b⟩
 have f:ab (an u x)=an u x:=by unfold ab;grind
 rw[a,oJ φ];decide;have f:ab (an u x)= -an u x:=by unfold ab;grind
 rw[a,uR φ];decide;have f:ab (an u x)=0:=by rw[b];decide
 grind
inductive Ch:Lq->Lw->Prop
 |one {u:Lq} {c:Rat}:c≠0->(∀x,an u x=c)->Ch u []
 |pair {u v:Lq}:Ch v []->Ch u [v]
 |step {u v w:Lq} {L:Lw} {a c:Rat} {q:Lq}:0< a->0< c->(∀x,a* an u x+c* an w x=an q x* an v x)->Ch v (w::L)->Ch u (v::w::L)
def Cl(u:Lq)(L:Lw):Prop:=∀R e:Rat,0<=R->0< e->∃h:Rat,0< h/\∀x y:Rat,ab x<=R->ab y<=R->ab (y- x)<=h->e<=ab (an u x)->
 sgE y u=sgE x u/\sgE x u≠0/\Gsn (sgE x u) (L.map (sgE x)) (L.map (sgE y))
theorem Ch.const{v:Lq}(h:Ch v []):∃c:Rat,c≠0/\∀x,an v x=c:=by
 cases h with
 |one hc h=>simp_all
theorem Ch.sg{v:Lq}(h:Ch v [])(x y:Rat):sgE y v=sgE x v/\sgE x v≠0:=by
 obtain⟨c,hc,h⟩:=h.const;have e:sgE y v=sgE x v:=by unfold sgE;grind
 rcases dV x v with⟨a,b⟩|⟨a,b⟩|⟨a,b⟩
 omega;omega;grind
theorem Ch.cl{u:Lq}{L:Lw}(H:Ch u L):Cl u L/\∀v L',L=v::L'->Cl v L':=by
 induction H with
 | @one u c hc o=>
  refine⟨λR e i r=>?_,λ_ _ h=>by cases h⟩;obtain⟨h,s,j⟩:=keep u i r;exact⟨h,s,λx y b f n ha=>⟨(j x y b f n ha).1,(j x y b f n ha).2,.nil⟩⟩
 | @pair u v hv ih=>
  refine⟨λR e i r=>?_,λ_ _ h=>by grind⟩;obtain⟨h,s,j⟩:=keep u i r;refine⟨h,s,λx y b f n ha=>⟨(j x y b f n ha).1,(j x y b f n ha).2,?_⟩⟩;simp only[List.map_cons,List.map_nil];rw[(hv.sg x y).1];exact .solid (hv.sg x y).2 .nil
 | @step u v w L a c q ha hc hrel hv ih=>
  refine⟨λR e i r=>?_,λ_ _ h=>by cases h;exact ih.1⟩;have M:=sG i q;have t:=Rat.mul_pos ha r;obtain⟨e1,C,F⟩:=part (a* e) (d:=2* (bV R q+1)) t φ;obtain⟨e2,B,E⟩:=part (a* e) (d:=2* c) t φ;obtain⟨s,U,N⟩:=keep u i r;obtain⟨j,p1,G⟩:=ih.1 R e1 i C;obtain⟨K,p2,T⟩:=ih.2 w L rfl R e2 i B;obtain⟨Q,J,Y,V⟩:=less s j U p1;obtain⟨h,p,l,m⟩:=less Q K J p2;refine⟨h,p,λx y b f n o=>?_⟩;obtain⟨s1,s2⟩:=N x y b f φ o;refine⟨s1,s2,?_⟩;by_cases hvx:e1<=ab (an v x);obtain⟨t1,t2,t3⟩:=G x y b f φ hvx;simp only[List.map_cons] at t3⊢;rw[t1];exact .solid t2 t3;have b1:=gP (jP i b q) (show ab (an v x)<=e1 by grind) (gG _) M;rw[<-gu,<-hrel x] at b1;have b2:=ab_le.1 b1;have W:bV R q* e1+e1=a* e/ 2:=φ
  have k:sgE x w= -sgE x u/\e2<=ab (an w x):=by
   rcases dV x u with⟨z,A⟩|⟨z,A⟩|⟨z,A⟩
   have D:ab (an u x)=an u x:=by unfold ab;rw[if_neg φ]
   rw[D] at o;have O:=Rat.mul_le_mul_of_nonneg_left o (show 0<=a by grind)
   have S:an w x<= -e2:=by
    by_cases g:an w x<= -e2;exact g;have:=Rat.mul_pos hc (show 0< an w x+e2 by grind);grind
   refine⟨by rw[z,uR φ],?_⟩;unfold ab;rw[if_pos φ];grind;have D:ab (an u x)= -an u x:=by unfold ab;rw[if_pos A]
   rw[D] at o;have O:=Rat.mul_le_mul_of_nonneg_left o (show 0<=a by grind)
   have S:e2<=an w x:=by
    by_cases g:e2<=an w x;exact g;have:=Rat.mul_pos hc (show 0< e2- an w x by grind);grind
   refine⟨by rw[z,oJ φ];decide,?_⟩;unfold ab;rw[if_neg φ];grind;exact absurd z s2
  obtain⟨t1,t2,t3⟩:=T x y b f φ k.2;simp only[List.map_cons];rw[t1,k.1];rw[k.1] at t3;have X:=jh x u;have Z:=jh x v;have c3:=jh y v;exact .weak ω ω t3
theorem Ch.bez{u:Lq}{M:Lw}(H:Ch u M):∀v L,M=v::L->∃a b:Lq,∀x,an a x* an u x+an b x* an v x=1:=by
 induction H with
 |one hc g=>grind
 | @pair u v hv ih=>
  intro e L h;cases h;obtain⟨c,hc,h⟩:=hv.const;refine⟨[],[1/ c],λx=>?_⟩;rw[aO,aZ];grind
 | @step u v w L a c q ha hc hrel hv ih=>
  intro e i h;obtain⟨f,d,h⟩:=ih w L rfl;refine⟨aR d (-(a/ c)),fR f (aR (aT d q) (1/ c)),λx=>?_⟩;rw[bH,fq,bH,a8];grind
end
section
variable {h x y v e k:Rat}
theorem arch(c:Rat)(hh:0< h):∃n:Nat,c<=((n:Int):Rat) * h:=by
 by_cases hc:c<=0;exact⟨0,φ⟩;obtain⟨k,a,e⟩:=part c (d:=h) φ hh
 have b:k<=((k.num.natAbs:Int):Rat):=by
  have i:0< k.num:=num_pos.2 a;rw[Rat.le_iff];show k.num* 1<=(k.num.natAbs:Int) * (k.den:Int);have f:=Int.mul_le_mul_of_nonneg_left (show(1:Int)<=(k.den:Int) by have:=k.den_pos;omega) (show 0<=k.num by omega);grind
 have g:=Rat.mul_le_mul_of_nonneg_right b (show 0<=h by grind);grind
theorem grid {f:Rat->Int} (r:Int->Int->Prop) (hr:∀a,r a a) (ht:∀a b c,r a b->r b c->r a c) {lo hi h:Rat} (hh:0< h)
    (hs:∀x y,lo<=x->x<=y->y<=hi->y- x<=h->r (f x) (f y)):∀(n:Nat) (x y:Rat),lo<=x->x<=y->y<=hi->y- x<=((n:Int):Rat) * h->r (f x) (f y)
 |0,x,y,h1,h2,h3,h4=>by grind
 |n+1,x,y,h1,h2,h3,h4=>by
  by_cases hd:y- x<=h;exact hs x y h1 h2 h3 hd;exact ht _ _ _ (hs x (x+h) h1 φ φ φ) (grid r hr ht hh hs n (x+h) y φ φ h3 (φ))
theorem way {f:Rat->Int} (r:Int->Int->Prop) (hr:∀a,r a a) (ht:∀a b c,r a b->r b c->r a c) (hh:0< h) (hxy:x<=y)
    (hs:∀u v,x<=u->u<=v->v<=y->v- u<=h->r (f u) (f v)):r (f x) (f y):=by
 obtain⟨n,d⟩:=arch (y- x) hh;exact grid r hr ht hh hs n x y φ hxy φ d
def chV(l:Lw)(x:Rat):Int:=chL (l.map (sgE x)) 0 0
theorem uI{u:Rat}(h1:x<=u)(h2:u<=y):ab u<=ab x+ab y:=by
 have a:=ab_le (x:=x) (c:=ab x)|>.1 φ;have a2:=ab_le (x:=y) (c:=ab y)|>.1 φ;exact ab_le.2 ⟨φ,φ⟩
theorem ab_sub{u:Rat}(h1:u<=v)(h2:v- u<=h):ab (v- u)<=h:=by
 unfold ab;grind
theorem Ch.same{u:Lq}{L:Lw}(H:Ch u L)(he:0< e)(hxy:x<=y)(ha:∀z,x<=z->z<=y->e<=ab (an u z)):chV (u::L) x=chV (u::L) y:=by
 obtain⟨h,j,i⟩:=H.cl.1 (ab x+ab y) e (by have:=gG x;have:=gG y;grind) he;refine way (f:=chV (u::L)) (· = ·) (λ_=>rfl) (λ_ _ _=>Eq.trans) j hxy λz w a b c d=>?_;obtain⟨s1,s2,g⟩:=i z w (uI a φ) (uI φ c) (ab_sub b d) (ha z a φ);unfold chV;simp only[List.map_cons];rw[s1];exact xw s2 g
theorem JE{T d uz uw D:Rat}(hk:0< k)(h1:k* -T<=k* (uw- uz- d* D))(h2:T* k<=d* e)(h3:d* e<=d* v)(h4:v=k* D):uz<=uw:=by
 subst h4;by_cases h:uz<=uw;exact h;have:=Rat.mul_pos hk (show 0< uz- uw by grind);grind
theorem outweigh'{T d uz uw D:Rat}(hk:0< k)(h1:k* (uw- uz- d* D)<=k* T)(h2:T* k<=d* e)(h3:d* e<=d* -v)(h4:v=k* D):uw<=uz:=by
 subst h4;by_cases h:uw<=uz;exact h;have:=Rat.mul_pos hk (show 0< uw- uz by grind);grind
theorem Ch.fall{u v:Lq}{L:Lw}(H:Ch u (v::L))(hk:0< k)(hd:∀x,an v x=k* dvE u x)(hxy:x<=y):chV (u::v::L) y<=chV (u::v::L) x:=by
 have g:0<=ab x+ab y:=by have:=gG x;have:=gG y;grind
 generalize n:ab x+ab y=R at g;obtain⟨a,b,hb⟩:=H.bez v L rfl;have Y:=sG g a;have hB:=sG g b;obtain⟨e,M,Z⟩:=part 1 (d:=2* (bV R a+bV R b+1)) (by decide+kernel) φ;obtain⟨X,p1,O⟩:=H.cl.1 R e g M;obtain⟨T,p2,k2⟩:=H.cl.2 v L rfl R e g M;have W:=G7 g u;obtain⟨A,Q,e3⟩:=part e (d:=k* (bT R u+1)) M (Rat.mul_pos hk φ);obtain⟨V,S,l4,m4⟩:=less X T p1 p2;obtain⟨h,p,l,m⟩:=less V A S Q;refine way (f:=chV (u::v::L)) (λs t=>t<=s) (λ_=>Int.le_refl _) (λ_ _ _ G N=>Int.le_trans N G) p hxy λz w G N g3 g4=>?_;have o:ab z<=R:=by rw[<-n];exact uI G φ
 have F:ab w<=R:=by rw[<-n];exact uI φ g3
 have D:ab (w- z)=w- z:=by unfold ab;rw[if_neg φ]
 by_cases hu:e<=ab (an u z);obtain⟨s1,s2,B⟩:=O z w o F φ hu;refine Int.le_of_eq ?_;unfold chV;simp only[List.map_cons] at B⊢;rw[s1];exact(xw s2 B).symm
 have hv:e<=ab (an v z):=by
  by_cases hv:e<=ab (an v z);exact hv;have n1:=gP (jP g o a) (show ab (an u z)<=e by grind) (gG _) Y;have n2:=gP (jP g o b) (show ab (an v z)<=e by grind) (gG _) hB;have U:=uh (an a z* an u z) (an b z* an v z);rw[hb z,gu,gu,show ab 1=1 by decide+kernel] at U;grind
 obtain⟨s1,s2,B⟩:=k2 z w o F φ hv;have i:=tK g o F u;rw[D] at i;have r:=ab_le.1 i;have C:=hd z
 -- the derivative outweighs what leaves the tangent
 have c:bT R u* ((w- z) * (w- z)) * k<=(w- z) * e:=by
  have q1:=Rat.mul_le_mul_of_nonneg_right (show w- z<=A by grind) (show 0<=w- z by grind);have q2:=Rat.mul_le_mul_of_nonneg_left q1 W;have q3:=Rat.mul_le_mul_of_nonneg_right q2 (show 0<=k by grind);have q4:(w- z) * e=bT R u* (A* (w- z)) * k+(w- z) * A* k:=by rw[<-e3];grind
  have q5:=Rat.mul_nonneg (Rat.mul_nonneg (show 0<=w- z by grind) (show 0<=A by grind)) (show 0<=k by grind);grind
 have q:0<=w- z:=φ
 unfold chV;simp only[List.map_cons];rw[s1];rcases dV z v with⟨j,J⟩|⟨j,J⟩|⟨j,J⟩
 have K:ab (an v z)=an v z:=by unfold ab;rw[if_neg φ]
 rw[K] at hv;have E:=Rat.mul_le_mul_of_nonneg_left hv q;have up:an u z<=an u w:=JE hk (Rat.mul_le_mul_of_nonneg_left r.1 φ) c E C;exact C0 (.inl j) (jh z u) (jh w u) (by rw[j];have:=qM up;omega) B;have K:ab (an v z)= -an v z:=by unfold ab;rw[if_pos J]
 rw[K] at hv;have E:=Rat.mul_le_mul_of_nonneg_left hv q;have up:an u w<=an u z:=outweigh' hk (Rat.mul_le_mul_of_nonneg_left r.2 φ) c E C;exact C0 (.inr j) (jh z u) (jh w u) (by rw[j];have:=qM up;omega) B;exact absurd j s2
end
theorem maxL2(m a:Rat):m<=gQ [m,a]/\a<=gQ [m,a]:=by
 have e:gQ [m,a]=if 0< fb a m then a else m:=by
  unfold gQ ef;grind
 rw[e];unfold fb;grind
theorem Bd(q:Rat):eH q=ab q:=pn q
theorem sx(lead:Rat):∀(l:Lq) (m:Rat),m<=boL lead l m/\∀c∈l,ab (c/ lead)<=boL lead l m
 |[],m=>⟨by rw[boL];grind,λ_ h=>by cases h⟩
 |c::l,m=>by
  obtain⟨f,b⟩:=sx lead l (gQ [m,eH (c/ lead)]);obtain⟨g,e⟩:=maxL2 m (eH (c/ lead));rw[boL];refine⟨φ,λd a=>?_⟩;rcases List.mem_cons.1 a with rfl|a
  rw[Bd] at *;grind;grind
theorem pm(p:Lq):1<=a7 p:=by
 have:=(sx (aI p) ((ap p).take ((ap p).length- 1)) 0).1;unfold a7;grind
theorem big{B x:Rat}(hB:1<=B)(hx:x<= -B):∀(l:Lq) (lead:Rat),l.getLast?=some lead->lead≠0->(∀c∈l.dropLast,ab c<=(B- 1) * ab lead)->
    ab lead<=ab (an l x)/\sgE x l=if l.length % 2=1 then sgZ lead.num else -sgZ lead.num
 |[],_,h,_,_=>by cases h
 |[a],lead,h,h0,_=>by
  have e:a=lead:=φ
  subst e;have e:an [a] x=a:=by rw[aO,aZ];grind
  refine⟨φ,?_⟩;unfold sgE;grind
 |a::b::m,lead,h,h0,hc=>by
  rw[List.getLast?_cons_cons] at h;rw[List.dropLast_cons_cons] at hc;obtain⟨i1,i2⟩:=big hB hx (b::m) lead h h0 λc i=>hc c (List.mem_cons_of_mem _ i);have ha:=hc a (List.mem_cons_self ..);have e:an (a::b::m) x=an (b::m) x* x+a:=aO ..
  have d:(if (a::b::m).length % 2=1 then sgZ lead.num else -sgZ lead.num)= -sgE x (b::m):=by
   grind
  rw[d]
  have k:0< ab (an (b::m) x):=by
   have:0< ab lead:=by unfold ab;grind
   grind
  have r:=Rat.mul_le_mul_of_nonneg_left i1 (show 0<=B- 1 by grind);have n:=ab_le.1 (show ab a<=(B- 1) * ab (an (b::m) x) by grind);rcases dV x (b::m) with⟨g,f⟩|⟨g,f⟩|⟨g,f⟩
  have j:ab (an (b::m) x)=an (b::m) x:=by unfold ab;rw[if_neg φ]
  have p:=Rat.mul_le_mul_of_nonneg_left hx (show 0<=an (b::m) x by grind);rw[j] at n i1;have q:an (a::b::m) x<= -an (b::m) x:=by rw[e];grind
  refine⟨?_,by rw[g,uR φ]⟩;have o:ab (an (a::b::m) x)= -an (a::b::m) x:=by unfold ab;rw[if_pos φ]
  grind;have j:ab (an (b::m) x)= -an (b::m) x:=by unfold ab;rw[if_pos f]
  have p:=Rat.mul_le_mul_of_nonneg_left hx (show 0<= -an (b::m) x by grind);rw[j] at n i1;have q: -an (b::m) x<=an (a::b::m) x:=by rw[e];grind
  refine⟨?_,by rw[g,oJ φ];decide⟩;have o:ab (an (a::b::m) x)=an (a::b::m) x:=by unfold ab;rw[if_neg φ]
  grind;rw[f] at k;exact absurd k (by decide+kernel)
theorem mw{q:Lq}(h:nz q){x:Rat}(hx:x<= -a7 q):ab (aI q)<=ab (an q x)/\sgE x q=sgI q:=by
 have f:=List.length_pos_iff.2 h;have i:=dj (l:=q) (n:=(ap q).length- 1) ω
 have b:=big (pm q) hx (ap q) (aI q) φ (dd h) λc hc=>by
  rw[List.dropLast_eq_take] at hc;have a:=(sx (aI q) _ 0).2 c hc;have d:=gu (c/ aI q) (aI q);rw[Rat.div_mul_cancel (dd h)] at d;have g:=Rat.mul_le_mul_of_nonneg_right a (gG (aI q));unfold a7;grind
 have e:sgE x (ap q)=sgE x q:=by unfold sgE;rw[cn]
 rw[cn] at b;unfold sgI dt;grind
theorem Gh:∀l:Lw,(∀q∈l,nz q)->∃M:Rat,∀x,x<= -M->l.map (sgE x)=l.map sgI
 |[],_=>⟨0,λ_ _=>rfl⟩
 |q::l,h=>by
  obtain⟨M,c⟩:=Gh l λr d=>h r (List.mem_cons_of_mem _ d);have b:=h q (List.mem_cons_self ..);by_cases hb:a7 q<=M;exact⟨M,λx a=>by rw[List.map_cons,List.map_cons,c x a,(mw b φ).2]⟩;exact⟨a7 q,λx a=>by rw[List.map_cons,List.map_cons,c x φ,(mw b a).2]⟩
section
variable {r d p q:Lq}
theorem oU(p:Lq):∃k k':Rat,k* k'=1/\∀x,an (ce p) x=an p x* k:=by
 by_cases h:nz p;refine⟨1/ aI p,aI p,Rat.div_mul_cancel (mT h),(iw h).1⟩;refine⟨1,1,φ,λx=>?_⟩;have e:ap p=[]:=Decidable.byContradiction h;unfold ce;rw[if_pos e,jm h,aZ];grind
theorem Dv.refl(d:Lq):Dv d d:=⟨[1],λx=>by rw[aO,aZ];grind⟩
theorem Dv.zero(d:Lq)(h:∀x,an r x=0):Dv d r:=⟨[],λx=>by rw[aZ];grind⟩
theorem Dv.trans{a b c:Lq}(h:Dv a b)(k:Dv b c):Dv a c:=by
 obtain⟨u,d⟩:=h;obtain⟨v,hv⟩:=k;exact⟨aT v u,λx=>by rw[hv,a8];grind⟩
theorem Dv.lin{u v:Lq}(h:Dv d p)(k:Dv d q)(e:∀x,an r x=an u x* an p x+an v x* an q x):Dv d r:=by
 obtain⟨s,hs⟩:=h;obtain⟨t,a⟩:=k;exact⟨fR (aT u s) (aT v t),λx=>by rw[e,fq,a8,a8];grind⟩
theorem Dv.mul(h:Dv d p)(e:∀x,an r x=an q x* an p x):Dv d r:=
 h.lin h (u:=q) (v:=[]) λx=>by rw[aZ];grind
theorem Dv.scale{k:Rat}(h:Dv d p)(e:∀x,an r x=an p x* k):Dv d r:=
 h.mul (q:=[k]) λx=>by rw[aO,aZ];grind
theorem Dv.dg{d p:Lq}(h:Dv d p)(hp:nz p):dg d<=dg p:=by
 obtain⟨u,a⟩:=h;obtain⟨b,c⟩:=iv a hp;have:=(dg_mul' b c a).2.1;omega
theorem wl(h:nz d)(h0:dg d=0):∃c:Rat,c≠0/\∀x,an d x=c:=by
 obtain⟨e1,e2⟩:=fZ h;refine⟨aI d,mT h,λx=>?_⟩
 have:ap d=ap [aI d]:=trim_iff.2 λi=>by
  cases i with
  |zero=>rw[dC,<-e2,h0]
  |succ i=>exact e1.2 _ ω
 rw[<-cn,this,cn,aO,aZ];grind
theorem nz_one:nz [1]:=by unfold nz;decide+kernel
theorem bez:∀(n:Nat) (p q:Lq),(ap q).length=n->nz p\/nz q->∃g a b:Lq,nz g/\Dv g p/\Dv g q/\∀x,an g x=an a x* an p x+an b x* an q x:=by
 intro n
 induction n using Nat.strongRecOn with
 |ind n f=>
  intro p q k h;by_cases hq:nz q;obtain⟨m1,m2⟩:=iP p hq
  have c:(ap (md p q)).length< n:=by
   have:=(mh p q hq).2;unfold md;omega
  obtain⟨g,a,b,i,d,e,j⟩:=f _ c q (md p q) rfl (.inl hq);refine⟨g,b,dQ a (aT b (cu p q).1),i,d.lin e (u:=(cu p q).1) (v:=[1]) λx=>?_,d,λx=>?_⟩;rw[m1,aO,aZ];grind;rw[j,cP,a8,m1 x];grind;have hp:nz p:=h.resolve_right hq;exact⟨p,[1],[],hp,.refl p,.zero p (jm hq),λx=>by rw[aO,aZ,jm hq];grind⟩
theorem me:∀(f:Nat) (p q g:Lq),ld f p q=some g->nz p\/nz q->nz g/\Dv g p/\Dv g q/\∃a b:Lq,∀x,an g x=an a x* an p x+an b x* an q x
 |0,_,_,_,h,_=>by cases h
 |f+1,p,q,g,h,hz=>by
  rw[ld] at h;split at h
  ·rename_i c
   split at h;cases h;have i:¬nz q:=λe=>e c;have hp:nz p:=hz.resolve_right i;obtain⟨m1,m2,_⟩:=iw hp;obtain⟨k,d,l,m⟩:=oU p;refine⟨m2,⟨[d],λx=>by rw[aO,aZ];grind⟩,.zero _ (jm i),[k],[],λx=>by rw[aO,aZ];grind⟩;cases h
  ·rename_i c
   split at h;obtain⟨m1,_⟩:=iP p c;obtain⟨k,d,l,m⟩:=oU (cu p q).2;obtain⟨o,j,n,a,b,r⟩:=me f _ _ _ h (.inl c);refine⟨o,j.lin n (u:=(cu p q).1) (v:=[d]) λx=>?_,j,aR b k,dQ a (aR (aT b (cu p q).1) k),λx=>?_⟩;rw[m1,aO,aZ];show _+an (cu p q).2 x=_;grind;rw[r,bH,cP,bH,a8,m1 x];show _=_* (_+an (cu p q).2 x)+_;grind;cases h
theorem se(h:∀x,an p x=an q x)(x:Rat):dvE p x=dvE q x:=GP (trim_iff.1 (iV h)) x
theorem KU{k:Rat}(h:∀x,an r x=an p x* k)(x:Rat):dvE r x=dvE p x* k:=by
 rw[se (q:=lI p k) (λx=>by rw[h,ki]) x,xc]
def pw(d:Lq):Nat->Lq
 |0=>[1]
 |k+1=>aT (pw d k) d
theorem pw_dv(d:Lq)(k:Nat)(x:Rat):dvE (pw d (k+1)) x=(((k+1:Nat):Int):Rat) * an (pw d k) x* dvE d x:=by
 induction k with
 |zero=>
  show dvE (aT [1] d) x=_;rw[o7,eX,show dvE [] x=0 from rfl];show _=((1:Int):Rat) * an [1] x* _;rw[aZ];grind
 |succ k a=>
  show dvE (aT (pw d (k+1)) d) x=_;rw[o7];have e2:an (pw d (k+1)) x=an (pw d k) x* an d x:=a8 _ _ _;grind
theorem Jq(hd:nz d)(k:Nat):nz (pw d k)/\dg (pw d k)=k* dg d:=by
 induction k with
 |zero=>exact⟨nz_one,by rw[Nat.zero_mul];show dg [1]=0;decide+kernel⟩
 |succ k c=>
  obtain⟨a,b,_⟩:=K1 c.1 hd;exact⟨a,by show dg (aT _ _)=_;grind⟩
theorem tT(h:dg d≠0)(hd:nz d):nz (aV d)/\dg (aV d)< dg d:=by
 obtain⟨⟨e1,e2⟩,_⟩:=fZ hd
 have c:wI (aV d) (dg d- 1):=by
  refine⟨?_,λi f=>?_⟩;rw[fa,show dg d- 1+1=dg d by omega];intro e;rcases Rat.mul_eq_zero.1 e with e|e
  exact e1 e;have:((dg d:Nat):Int)=0:=by simp_all
  omega;rw[fa,e2 _ ω,Rat.zero_mul]
 obtain⟨a,b,_⟩:=nX c;grind
theorem sqfree{s g a b:Lq}(hp:nz p)(h1:∀x,an p x=an s x* an g x)(h3:∀x,an g x=an a x* an p x+an b x* an (aV p) x):
    ∀n d,dg d=n->nz d->Dv d s->Dv d (aV s)->dg d=0:=by
 intro n
 induction n using Nat.strongRecOn with
 |ind n E=>
  intro d K h ⟨u,j⟩ ⟨v,hv⟩;by_cases h0:dg d=0;exact h0;exfalso;obtain⟨d1,d2⟩:=tT h0 h;obtain⟨e,a0,A,e1,e2,D,F⟩:=bez _ d (aV d) rfl (.inl h);have J:=D.dg d1;have z:=E (dg e) ω e rfl e1 (e2.trans ⟨u,j⟩) (e2.trans ⟨v,hv⟩);obtain⟨c,B,hc⟩:=wl e1 z
  -- the square divides s
  have hs:∀x,dvE s x=dvE u x* an d x+an u x* dvE d x:=λx=>by
   rw[se (q:=aT u d) (λx=>by rw[j,a8]) x,o7]
  have H:1/ c* c=1:=Rat.div_mul_cancel B
  obtain⟨t,r⟩:∃t:Lq,∀x,an u x=an t x* an d x:=by
   refine⟨aR (fR (aT a0 u) (aT A (dQ v (AU u)))) (1/ c),λx=>?_⟩;rw[bH,fq,a8,a8,cP,ng];have m:=F x;have C:=hv x;rw[hc,df] at m;rw[df,hs] at C;grind
  obtain⟨L,G⟩:=iv h1 hp
  have i:∀k,∃w:Lq,∀x,an g x=an w x* an (pw d k) x:=by
   intro k
   induction k with
   |zero=>exact⟨g,λx=>by rw[pw,aO,aZ];grind⟩
   |succ k l=>
    obtain⟨w,f⟩:=l;obtain⟨W,y⟩:∃W,W=aT t w:=⟨_,rfl⟩
    have q1:∀x,an p x=an W x* an (pw d (k+2)) x:=λx=>by
     rw[h1,f,j,r,y,a8,pw,a8,pw,a8];grind
    have q2:∀x,an (aV p) x=dvE W x* an (pw d (k+2)) x+an W x* dvE (pw d (k+2)) x:=λx=>by
     rw[df,se (q:=aT W (pw d (k+2))) (λx=>by rw[q1,a8]) x,o7]
    refine⟨fR (aT a (aT W d)) (aT b (fR (aT (AU W) d) (aT (aR W (((k+1+1:Nat):Int):Rat)) (AU d)))),λx=>?_⟩;have q3:=pw_dv d (k+1) x;have q4:an (pw d (k+2)) x=an (pw d (k+1)) x* an d x:=a8 _ _ _;rw[h3,q2,q1,q3,q4];simp only[fq,a8,bH,ng];grind
  obtain⟨w,f⟩:=i (dg g+1);obtain⟨m1,m2⟩:=iv f G;have o:=(dg_mul' m1 m2 f).2.1;rw[(Jq h _).2] at o;have M:dg g+1<=(dg g+1) * dg d:=Nat.le_mul_of_pos_right _ ω;omega
end
theorem oQ{p:Lq}(h:nz p):∃k:Rat,0< k/\∀x,an (bU p) x=an p x* k:=by
 have f:gM (ap p) 1≠0:=pa _ δ
 have d:iO (gM (ap p) 1) (ap p) 0≠0:=by
  intro e;have i:=(nY (gM (ap p) 1) (ap p) 0).2;have g:=(jS (ap p) 1).2;have m:=List.length_pos_iff.2 h;have j:=dj (l:=p) (n:=(ap p).length- 1) ω;have b:=List.mem_of_getElem? j;have c:=i _ b;rw[e] at c;exact u5 (g _ b) f (dd h) (Nat.eq_zero_of_zero_dvd c)
 refine⟨nQ (gM (ap p) 1) / nQ (iO (gM (ap p) 1) (ap p) 0),?_,λx=>by unfold bU;rw[bH,cn]⟩
 have a:∀n:Nat,n≠0->(0:Rat)< nQ n:=λn q=>by
  rw[<-num_pos];show 0< (n:Int);omega
 obtain⟨k,o,e⟩:=part (nQ (gM (ap p) 1)) (a _ f) (a _ d);rw[<-e,Rat.mul_div_cancel (λe=>d (nQ_zero.1 e))];grind
inductive Cx:Lq->Lq->Lw->Prop
 |nil {u n:Lq}:¬nz n->Cx u n []
 |cons {u n v n' q:Lq} {L:Lw} {c:Rat}:0< c->(∀x,an v x=an n x* c)->nz v->(∀x,an n' x=an q x* an v x- an u x)->Cx v n' L->Cx u n (v::L)
theorem lE:∀(f k:Nat) (last next:Lq) (acc out:Lw),jy f k last next acc=some out->∃L,out=acc++L/\Cx last next L
 |_,0,_,_,_,_,h=>by cases h
 |f,k+1,last,next,acc,out,h=>by
  rw[jy] at h;split at h
  ·rename_i a
   cases h;exact⟨[],ψ,.nil λe=>e a⟩
  ·rename_i a
   split at h
   ·rename_i b
    obtain⟨L,e,g⟩:=lE f k _ _ _ _ h;obtain⟨c,d,hc⟩:=oQ a;refine⟨bU next::L,φ,.cons (q:=(cu last (bU next)).1) d hc b.2.2 (λx=>?_) g⟩;have:=(iP last b.2.2).1 x;unfold md at this;rw[bH];grind
   cases h
theorem Cx.ch{u n:Lq}{L:Lw}(H:Cx u n L):nz u->(∀d,nz d->Dv d u->Dv d n->dg d=0)->Ch u L/\∀v L',L=v::L'->∃c:Rat,0< c/\∀x,an v x=c* an n x:=by
 induction H with
 | @nil u n hn=>
  intro f b;obtain⟨c,e,hc⟩:=wl f (b u f (.refl u) (.zero u (jm hn)));exact⟨.one e hc,λ_ _ h=>by cases h⟩
 | @cons u n v n' q L c hc hv hnv hn' hL ih=>
  intro f b
  obtain⟨i1,i2⟩:=ih hnv λd d0 d1 d2=>b d d0 (d1.lin d2 (u:=q) (v:=[-1]) λx=>by rw[aO,aZ];grind)
   (d1.scale (k:=1/ c) λx=>φ)
  refine⟨?_,λ_ _ h=>by grind⟩;cases L with
  |nil=>exact .pair i1
  |cons w L=>
   obtain⟨g,e,i⟩:=i2 w L rfl;exact .step (a:=g) (c:=1) (q:=aR q g) e φ (λx=>by rw[i,bH];grind) i1
theorem sP{f:Nat}{p s:Lq}(h:lT f p=some s)(hp:nz p):nz s/\∀d,nz d->Dv d s->Dv d (aV s)->dg d=0:=by
 unfold lT at h;split at h;cases hg:ld f p (aV p) with
 |none=>grind
 |some g=>
  rw[hg,Option.bind_some] at h;split at h;cases h;obtain⟨c,j,r,a,b,q⟩:=me f _ _ _ hg (.inl hp);obtain⟨m1,m2⟩:=iP p c;obtain⟨u,l⟩:=j;have n:=oV (u:=u) (v:=[]) c (λx=>by rw[l x,aZ];grind) (λe=>absurd rfl e)
  have hs:∀x,an p x=an (cu p g).1 x* an g x:=λx=>by
   have:=m1 x;rw[n x,aZ] at this;grind
  obtain⟨o,w⟩:=iv hs hp;obtain⟨k,i,t,m⟩:=oU (cu p g).1;refine⟨(iw o).2.1,λd d0 d1 d2=>sqfree hp hs q _ d rfl d0 (d1.scale (k:=i) λx=>φ) (d2.scale (k:=i) λx=>?_)⟩;rw[df,df,KU m x];grind;cases h
 cases h
theorem vm(u:Lq)(x:Rat):chV [u] x=0:=by
 unfold chV chL chL;grind
theorem eE{f:Nat}{p:Lq}{c:Cnt}(h:dM f p=some c)(hp:nz p):nz c.p/\lT f p=some c.p/\kJ f c.p=some c.ch/\c.far=chV c.ch (-a7 c.p)/\(∀x,x<= -a7 c.p->cX c x=0)/\∀x y,x<=y->cX c x<=cX c y:=by
 unfold dM at h;cases hs:lT f p with
 |none=>grind
 |some s=>
  rw[hs,Option.bind_some] at h;cases hc:kJ f s with
  |none=>grind
  |some ch=>
   rw[hc,Option.bind_some] at h;split at h
   ·rename_i o
    cases h;obtain⟨g,s1⟩:=sP hs hp;have l:=hc;unfold kJ at hc;split at hc;obtain⟨L,e,F⟩:=lE _ _ _ _ _ _ hc;obtain⟨k,r,j⟩:=oQ g;have b:k≠0:=φ
    have n:nz (bU s):=(jQ g b j).1;have w:k* (1/ k)=1:=φ
    have i:0< 1/ k:=by
     obtain⟨m,m0,m1⟩:=part 1 (d:=k) φ r;grind
    obtain⟨t,G⟩:=F.ch n λd d0 d1 d2=>s1 d d0 (d1.scale (k:=1/ k) λx=>φ) d2;have D:ch=bU s::L:=e;subst D
    have mono:∀x y,x<=y->chV (bU s::L) y<=chV (bU s::L) x:=λx y a=>by
     cases L with
     |nil=>rw[vm,vm];grind
     |cons v L=>
      obtain⟨A,E,hv⟩:=G v L rfl;refine t.fall (k:=A* (1/ k)) (Rat.mul_pos E i) (λx=>?_) a;rw[hv,df,KU j x];grind
    obtain⟨M,B⟩:=Gh (bU s::L) λq C=>(o.1 q C).1
    have low:∀x,x<= -a7 s->chV (bU s::L) x=chL ((bU s::L).map sgI) 0 0:=λx u=>by
     by_cases hxM:x<= -M;unfold chV;rw[B x hxM]
     rw[<-t.same (e:=ab (aI s) * k) (x:= -M) (y:=x) (Rat.mul_pos (by have:=dd g;unfold ab;split <;> grind) r) φ (λz H z2=>by
      rw[j,gu,show ab k=k by unfold ab;rw[if_neg φ]];exact Rat.mul_le_mul_of_nonneg_right (mw g φ).1 φ)]
     unfold chV;grind
    refine⟨g,rfl,l,(low _ φ).symm,λx u=>?_,λx y a=>?_⟩;have:=low x u;unfold cX;unfold chV at this;show _- chL ((bU s::L).map (sgE x)) 0 0=0;rw[this];simp;have:=mono x y a;unfold cX;unfold chV at this;show _- chL ((bU s::L).map (sgE x)) 0 0<=_- chL ((bU s::L).map (sgE y)) 0 0;omega;grind
   cases h
section
variable {h:Nat}{p:Lq}
def HtF(f:Nat->Rat)(k:Rat)(h:Nat):Prop:=∀i,∃z:Int,f i* k=(z:Rat)/\bl z.natAbs<=h
def Ht(p:Lq)(h:Nat):Prop:=∃k:Rat,k≠0/\HtF (coP p) k h
theorem HtF.mono{f:Nat->Rat}{k:Rat}{h':Nat}(H:HtF f k h)(hh:h<=h'):HtF f k h':=λi=>by
 obtain⟨z,a,z2⟩:=H i;grind
theorem Ht.mono{h':Nat}(H:Ht p h)(hh:h<=h'):Ht p h':=by
 obtain⟨k,a,H⟩:=H;exact⟨k,a,H.mono hh⟩
theorem Ht.scale{r:Lq}{c:Rat}(H:Ht p h)(hc:c≠0)(e:∀i,coP r i=coP p i* c):Ht r h:=by
 obtain⟨k,a,H⟩:=H;refine⟨k/ c,λe=>?_,λi=>?_⟩;have:k/ c* c=k:=Rat.div_mul_cancel hc;grind;obtain⟨z,b,z2⟩:=H i;grind
theorem Ht.trim(H:Ht p h):Ht (ap p) h:=H.scale (c:=1) φ λi=>by rw[cj];grind
theorem Ht.zero(e:∀i,coP p i=0)(h:Nat):Ht p h:=⟨1,φ,λi=>⟨0,φ,Nat.zero_le _⟩⟩
theorem CS(o:Lq)(a:Rat)(q:Lq)(i n:Nat):∀k,coP (fU o a q i k) n=if i<=n/\n< i+k/\n< o.length then coP o n- a* coP q (n- i) else coP o n
 |0=>by rw[fU,if_neg ω]
 |k+1=>by
  rw[fU,pe,CS o a q i n k,iu];by_cases h:n=i+k/\i+k< o.length;rw[if_pos h,if_pos ω,nM o a q i k (i+k) ω,h.1,show i+k- i=k by omega];grind
theorem Iv{x y:Int}{k:Nat}(hx:bl x.natAbs<=k)(hy:bl y.natAbs<=k):bl (x- y).natAbs<=k+1:=by
 exact ua hx φ
theorem GQ{q:Lq}{lead l:Rat}{g:Nat}(hl:coP q (q.length- 1)=lead)(h0:lead≠0)(l0:l≠0)(hq:HtF (coP q) l g):∀(c:Nat) (u o:Lq) (k:Rat) (H:Nat),k≠0->HtF (coP o) k H->HtF (coP u) (k/ l) H->
    ∃k',k'≠0/\HtF (coP (k6 q lead c u o).1) (k'/ l) (H+c* (g+1))/\HtF (coP (k6 q lead c u o).2) k' (H+c* (g+1))
 |0,u,o,k,H,k0,ho,hu=>⟨k,k0,by rw[Nat.zero_mul];exact hu,by rw[Nat.zero_mul];exact ho⟩
 |n+1,u,o,k,H,k0,ho,hu=>by
  obtain⟨zl,a,d⟩:=hq (q.length- 1);rw[hl] at a
  have A:(zl:Rat)≠0:=λe=>by
   grind
  obtain⟨v,j,r⟩:=ho (n+q.length- 1);generalize h:coP o (n+q.length- 1) / lead=t;have s:t* lead=coP o (n+q.length- 1):=φ
  have m:k/ l* l=k:=Rat.div_mul_cancel l0;have p:k* (zl:Rat) / l=k/ l* zl:=φ
  rw[k6]
  obtain⟨k',B,D,C⟩:=GQ hl h0 l0 hq n (u.set n (coP o (n+q.length- 1) / lead)) (if coP o (n+q.length- 1) / lead=0 then o else fU o (coP o (n+q.length- 1) / lead) q n q.length) (k* zl) (H+(g+1)) (λe=>by
   grind) (λi=>by
   rw[h]
   have b:∃z:Int,coP o i* (k* (zl:Rat))=(z:Rat)/\bl z.natAbs<=H+(g+1):=by
    obtain⟨z,f,z2⟩:=ho i;refine⟨z* zl,by rw[Rat.intCast_mul,<-f];grind,?_⟩;have:=dc z2 d;omega
   split;exact b;rw[CS];split;obtain⟨z,f,z2⟩:=ho i;obtain⟨w,x,y⟩:=hq (i- n);refine⟨z* zl- v* w,?_,?_⟩;rw[Rat.intCast_sub,Rat.intCast_mul,Rat.intCast_mul,<-f,<-j,<-x,<-a,<-s];grind;have:=Iv (dc z2 d) (dc r y);omega;grind) (λi=>by
   rw[h,vi,p];split;refine⟨v,?_,ω⟩;rw[<-a,<-j,<-s];have:t* (k/ l* (lead* l))=t* lead* (k/ l* l):=φ
   rw[this,m];obtain⟨z,f,z2⟩:=hu i;refine⟨z* zl,by rw[Rat.intCast_mul,<-f];grind,?_⟩;have:=dc z2 d;omega)
  grind
theorem vh{q:Lq}{g:Nat}(hp:Ht p h)(hq:Ht q g)(h0:nz q):Ht (cu p q).1 (h+((ap p).length+1- (ap q).length) * (g+1))/\Ht (cu p q).2 (h+((ap p).length+1- (ap q).length) * (g+1)):=by
 obtain⟨k,m,hp⟩:=hp.trim;obtain⟨l,f,hq⟩:=hq.trim;have o:=List.length_pos_iff.2 h0;have r:=dj (l:=q) (n:=(ap q).length- 1) ω;have hc:coP (ap q) ((ap q).length- 1)=aI q:=by unfold coP;grind
 obtain⟨b,c,d,j⟩:=GQ hc (dd h0) f hq ((ap p).length+1- (ap q).length) (List.replicate ((ap p).length+1- (ap q).length) 0) (ap p) k h m hp λi=>by
  refine⟨0,?_,Nat.zero_le _⟩
  have:coP (List.replicate ((ap p).length+1- (ap q).length) (0:Rat)) i=0:=by
   unfold coP;grind
  grind
 have a:b/ l≠0:=λe=>by grind
 exact⟨(show Ht _ _ from⟨b/ l,a,d⟩).trim,(show Ht _ _ from⟨b,c,j⟩).trim⟩
theorem Ht.of{s:Nat}(h:bdL p s):Ht p (s+1+p.length* s):=by
 have d:gM p 1≠0:=pa _ δ;have hb:=AZ p 1 h;have c:=(jS p 1).2;rw[jz] at hb;refine⟨nQ (gM p 1),λe=>d (nQ_zero.1 e),λi=>?_⟩;by_cases hi:i< p.length;have b:=List.mem_of_getElem? (ci hi);have a:=nZ (coP p i) _ (c _ b);have f:=Aj (coP p i) (gM p 1);have g:=h _ b;rw[pn] at a;by_cases hn:coP p i* nQ (gM p 1)< 0;refine⟨-(gT (coP p i) (gM p 1):Int),φ,?_⟩;rw[Int.natAbs_neg,Int.natAbs_natCast];omega;rw[if_neg hn] at a;exact⟨(gT (coP p i) (gM p 1):Int),a,φ⟩;refine⟨0,?_,Nat.zero_le _⟩;rw[ee ω,Rat.zero_mul];rfl
theorem Ht.derive(H:Ht p h):Ht (aV p) (h+bl p.length):=by
 obtain⟨k,a,H⟩:=H;refine⟨k,a,λi=>?_⟩;rw[fa];by_cases hi:i+1< p.length;obtain⟨z,b,z2⟩:=H (i+1);refine⟨z* ((i+1:Nat):Int),φ,?_⟩;have:=dc z2 (show bl (((i+1:Nat):Int)).natAbs<=bl p.length by exact dO ω);omega;refine⟨0,?_,Nat.zero_le _⟩;rw[ee ω,Rat.zero_mul,Rat.zero_mul];rfl
theorem Ht.quot(H:Ht p h)(i j:Nat)(hj:coP p j≠0)(h1:1<=h):qs (coP p i/ coP p j)<=h:=by
 obtain⟨k,f,H⟩:=H;obtain⟨z,g,z2⟩:=H i;obtain⟨w,c,b⟩:=H j
 have l:w≠0:=λe=>by
  rw[e] at c;grind
 have e:coP p i/ coP p j=(z:Rat) / (w:Rat):=φ
 have a:0< w.natAbs:=ω
 by_cases hw:0< w
 have e2:(z:Rat) / (w:Rat)=mkRat z w.natAbs:=by
  rw[k5];show Rat.divInt (z* ((1:Nat):Int)) (((1:Nat):Int) * w)=_;rw[<-Rat.divInt_ofNat];grind
 rw[e,e2];exact fW a z2 b
 have e2:(z:Rat) / (w:Rat)=mkRat (-z) w.natAbs:=by
  have d:(z:Rat) / (w:Rat)=((-z:Int):Rat) / ((-w:Int):Rat):=φ
  rw[d,k5];show Rat.divInt (-z* ((1:Nat):Int)) (((1:Nat):Int) * -w)=_;rw[<-Rat.divInt_ofNat];grind
 rw[e,e2];exact fW a φ b
theorem Ht.monic(H:Ht p h)(h1:1<=h):bdL (ce p) h/\Ht (ce p) h:=by
 by_cases h0:nz p;have b:ce p=aR p (1/ aI p):=by unfold ce;rw[if_neg h0]
 have c:1/ aI p≠0:=λe=>by have:=Rat.div_mul_cancel (a:=1) (mT h0);grind
 refine⟨fP λi=>?_,H.scale c λi=>by rw[b,cJ]⟩
 have e:coP (ce p) i=coP p i/ coP p (dg p):=by
  rw[b,cJ,(fZ h0).2,Rat.div_def,Rat.div_def,Rat.one_mul]
 rw[e];exact H.quot i _ (fZ h0).1.1 h1;have e:ce p=[]:=by unfold ce;rw[if_pos (Decidable.byContradiction h0)]
 rw[e];exact⟨λq d=>(by grind),.zero (λi=>rfl) _⟩
theorem CE(D d:Nat):∀(l:Lq) (n:Nat),d∣n->(∀c∈l,d∣gT c D)->d∣iO D l n
 |[],_,h,_=>h
 |c::l,n,h,hc=>CE D d l _ (Nat.dvd_gcd h (hc c (List.mem_cons_self ..))) λx a=>hc x (List.mem_cons_of_mem _ a)
theorem Ht.prim(H:Ht p h)(h0:nz p)(h1:1<=h):bdL (bU p) h/\Ht (bU p) h:=by
 obtain⟨c,U,hc⟩:=oQ h0;have o:∀i,coP (bU p) i=coP p i* (nQ (gM (ap p) 1) / nQ (iO (gM (ap p) 1) (ap p) 0)):=λi=>by unfold bU;rw[cJ,cj]
 have E:gM (ap p) 1≠0:=pa _ δ;have V:=List.length_pos_iff.2 h0;have L:=dj (l:=p) (n:=(ap p).length- 1) ω;have G:=List.mem_of_getElem? L;have d:=(jS (ap p) 1).2;have u:=(nY (gM (ap p) 1) (ap p) 0).2;have A:=CE (gM (ap p) 1);generalize Q:gM (ap p) 1=D at *
 have C:iO D (ap p) 0≠0:=λe=>by
  have:=u _ G;rw[e] at this;exact u5 (d _ G) E (dd h0) (Nat.eq_zero_of_zero_dvd this)
 have O:nQ D≠0:=λe=>E (nQ_zero.1 e);have S:nQ (iO D (ap p) 0)≠0:=λe=>C (nQ_zero.1 e)
 refine⟨fP λi=>?_,H.scale (c:=nQ D/ nQ (iO D (ap p) 0)) (λe=>by
  grind) o⟩
 obtain⟨k,T,H⟩:=H
 -- k=D* (m/ n)
 generalize W:k/ nQ D=r;have M:k=r* nQ D:=φ
 have r0:r≠0:=λe=>by grind
 have J:r* (nQ r.den)=(r.num:Rat):=by
  have e:(r.num:Rat) / nQ r.den=r:=by
   rw[k5];simp
  grind
 have co:∀j,j< (ap p).length->r.den∣gT (coP p j) D/\∃z:Int,(gT (coP p j) D* r.num.natAbs=z.natAbs* r.den/\bl z.natAbs<=h):=λj v=>by
  obtain⟨z,N,z2⟩:=H j;have g:=List.mem_of_getElem? (ci v);rw[cj] at g;have f:=nZ (coP p j) D (d _ g)
  have a2:gT (coP p j) D* r.num.natAbs=z.natAbs* r.den:=by
   have b1:coP p j* nQ D* (r.num:Rat)=(z:Rat) * nQ r.den:=by rw[<-N,M,<-J];grind
   have b2:∃s:Int,coP p j* nQ D=(s:Rat)/\s.natAbs=gT (coP p j) D:=by
    rw[pn] at f;by_cases hn:coP p j* nQ D< 0;rw[if_pos hn] at f;exact⟨-(gT (coP p j) D:Int),by rw[Rat.intCast_neg];grind,by rw[Int.natAbs_neg,Int.natAbs_natCast]⟩;rw[if_neg hn] at f;exact⟨(gT (coP p j) D:Int),f,Int.natAbs_natCast _⟩
   obtain⟨s,s1,s2⟩:=b2;rw[s1] at b1
   have K:s* r.num=z* (r.den:Int):=by
    have:((s* r.num:Int):Rat)=((z* (r.den:Int):Int):Rat):=by rw[Rat.intCast_mul,Rat.intCast_mul];exact b1
    exact_mod_cast this
   have F:=congrArg Int.natAbs K;rw[Int.natAbs_mul,Int.natAbs_mul,s2,Int.natAbs_natCast] at F;exact F
  refine⟨?_,z,a2,z2⟩;have x:Nat.Coprime r.den r.num.natAbs:=Nat.coprime_comm.1 r.reduced;exact x.dvd_of_dvd_mul_right ⟨z.natAbs,by rw[a2,Nat.mul_comm]⟩
 rw[o];by_cases hi:i< (ap p).length;obtain⟨z,a2,z2⟩:=(co i hi).2;have b:=List.mem_of_getElem? (ci hi);rw[cj] at b
 have B:r.den∣iO D (ap p) 0:=A _ _ _ (Nat.dvd_zero _) λc w=>by
  obtain⟨j,v⟩:=List.mem_iff_getElem?.1 w
  have q:j< (ap p).length:=by
   by_cases h:j< (ap p).length;exact h;rw[List.getElem?_eq_none ω] at v;cases v
  have e:=ci q;rw[v,cj] at e;cases e;exact(co j q).1
 have y:=u _ b;have f:=nZ (coP p i) D (d _ b)
 have a:gT (coP p i) D/ iO D (ap p) 0<=z.natAbs:=by
  have q1:r.den<=iO D (ap p) 0:=Nat.le_of_dvd ω B
  have q2:0< r.num.natAbs:=by
   have:r.num≠0:=λe=>r0 (Rat.num_eq_zero.1 e);omega
  refine Nat.div_le_of_le_mul ?_
  calc gT (coP p i) D<=gT (coP p i) D* r.num.natAbs:=Nat.le_mul_of_pos_right _ q2
   _=z.natAbs* r.den:=a2
   _<=iO D (ap p) 0* z.natAbs:=by rw[Nat.mul_comm];exact Nat.mul_le_mul_right _ q1
 have hb:bl (gT (coP p i) D/ iO D (ap p) 0)<=h:=Nat.le_trans (dO a) z2
 have e1:eH (coP p i* (nQ D/ nQ (iO D (ap p) 0)))=nQ (gT (coP p i) D/ iO D (ap p) 0):=by
  have e2:coP p i* (nQ D/ nQ (iO D (ap p) 0))=coP p i* nQ D/ nQ (iO D (ap p) 0):=by rw[Rat.div_def,Rat.div_def];grind
  have R:nQ (gT (coP p i) D) / nQ (iO D (ap p) 0)=nQ (gT (coP p i) D/ iO D (ap p) 0):=by
   rw[Ab _ _ C,yB _ _ C y]
  have t:(0:Rat)< nQ (iO D (ap p) 0):=by
   rw[<-num_pos];show 0< ((iO D (ap p) 0:Nat):Int);omega
  rw[e2,<-R,<-f,Bd,Bd,Rat.div_def,Rat.div_def,gu];congr 1;have:(0:Rat)< (nQ (iO D (ap p) 0))⁻¹:=Rat.inv_pos.2 t;unfold ab;rw[if_neg φ]
 rw[<-we,e1];exact lj hb h1;have:coP p i=0:=by rw[<-cj];exact ee ω
 rw[this,Rat.zero_mul];exact Nat.le_trans (by decide:qs 0<=1) h1
end
end Go.Abs
