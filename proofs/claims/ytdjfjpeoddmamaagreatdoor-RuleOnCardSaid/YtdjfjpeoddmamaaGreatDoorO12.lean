/- Part O12 of the proof. -/
import Derived.Test.YtdjfjpeoddmamaaGreatDoorO11
set_option linter.all false
namespace Go.Abs
theorem arch(c:Rat){h:Rat}(hh:0< h):∃n:Nat,c≤((n:Int):Rat) * h:=by
 by_cases hc:c≤0;exact⟨0,by grind⟩;obtain⟨k,hk,e⟩:=part c (d:=h) (by grind) hh
 have h1:k≤((k.num.natAbs:Int):Rat):=by
  have hn:0< k.num:=num_pos.2 hk;rw[Rat.le_iff];show k.num* 1≤(k.num.natAbs:Int) * (k.den:Int);have h4:=Int.mul_le_mul_of_nonneg_left (show(1:Int)≤(k.den:Int) by have:=k.den_pos;omega) (show 0≤k.num by omega);grind
 have h5:=Rat.mul_le_mul_of_nonneg_right h1 (show 0≤h by grind);grind
theorem grid {f:Rat→Int} (r:Int→Int→Prop) (hr:∀a,r a a) (ht:∀a b c,r a b→r b c→r a c) {lo hi h:Rat} (hh:0< h)
    (hs:∀x y,lo≤x→x≤y→y≤hi→y- x≤h→r (f x) (f y)):∀(n:Nat) (x y:Rat),lo≤x→x≤y→y≤hi→y- x≤((n:Int):Rat) * h→r (f x) (f y)
 |0,x,y,h1,h2,h3,h4=>by grind
 |n+1,x,y,h1,h2,h3,h4=>by
  by_cases hd:y- x≤h;exact hs x y h1 h2 h3 hd;exact ht _ _ _ (hs x (x+h) h1 (by grind) (by grind) (by grind)) (grid r hr ht hh hs n (x+h) y (by grind) (by grind) h3 ((by grind)))
theorem way {f:Rat→Int} (r:Int→Int→Prop) (hr:∀a,r a a) (ht:∀a b c,r a b→r b c→r a c) {x y h:Rat} (hh:0< h) (hxy:x≤y)
    (hs:∀u v,x≤u→u≤v→v≤y→v- u≤h→r (f u) (f v)):r (f x) (f y):=by
 obtain⟨n,hn⟩:=arch (y- x) hh;exact grid r hr ht hh hs n x y (by grind) hxy (by grind) hn
def chV(l:List (List Rat))(x:Rat):Int:=chL (l.map (sgE x)) 0 0
theorem ab_in{x y u:Rat}(h1:x≤u)(h2:u≤y):ab u≤ab x+ab y:=by
 have a1:=ab_le (x:=x) (c:=ab x)|>.1 (by grind);have a2:=ab_le (x:=y) (c:=ab y)|>.1 (by grind);exact ab_le.2 ⟨by grind,by grind⟩
theorem ab_sub{u v h:Rat}(h1:u≤v)(h2:v- u≤h):ab (v- u)≤h:=by
 unfold ab;grind
theorem Ch.same{u:List Rat}{L:List (List Rat)}(H:Ch u L){e x y:Rat}(he:0< e)(hxy:x≤y)(ha:∀z,x≤z→z≤y→e≤ab (evalP u z)):chV (u::L) x=chV (u::L) y:=by
 obtain⟨h,h0,h1⟩:=H.cl.1 (ab x+ab y) e (by have:=ab_nn x;have:=ab_nn y;grind) he;refine way (f:=chV (u::L)) (· = ·) (fun _=>rfl) (fun _ _ _=>Eq.trans) h0 hxy fun z w a b c d=>?_;obtain⟨s1,s2,s3⟩:=h1 z w (ab_in a (by grind)) (ab_in (by grind) c) (ab_sub b d) (ha z a (by grind));unfold chV;simp only[List.map_cons];rw[s1];exact pS_ s2 s3
theorem outweigh{k T d uz uw D e v:Rat}(hk:0< k)(h1:k* -T≤k* (uw- uz- d* D))(h2:T* k≤d* e)(h3:d* e≤d* v)(h4:v=k* D):uz≤uw:=by
 subst h4;by_cases h:uz≤uw;exact h;have:=Rat.mul_pos hk (show 0< uz- uw by grind);grind
theorem outweigh'{k T d uz uw D e v:Rat}(hk:0< k)(h1:k* (uw- uz- d* D)≤k* T)(h2:T* k≤d* e)(h3:d* e≤d* -v)(h4:v=k* D):uw≤uz:=by
 subst h4;by_cases h:uw≤uz;exact h;have:=Rat.mul_pos hk (show 0< uw- uz by grind);grind
theorem Ch.fall{u v:List Rat}{L:List (List Rat)}{k:Rat}(H:Ch u (v::L))(hk:0< k)(hd:∀x,evalP v x=k* dvE u x){x y:Rat}(hxy:x≤y):chV (u::v::L) y≤chV (u::v::L) x:=by
 have hR:0≤ab x+ab y:=by have:=ab_nn x;have:=ab_nn y;grind
 generalize hRe:ab x+ab y=R at hR;obtain⟨a,b,hb⟩:=H.bez v L rfl;have hA:=bV_nn hR a;have hB:=bV_nn hR b;obtain⟨e,he,he'⟩:=part 1 (d:=2* (bV R a+bV R b+1)) (by decide+kernel) (by grind);obtain⟨h1,p1,k1⟩:=H.cl.1 R e hR he;obtain⟨h2,p2,k2⟩:=H.cl.2 v L rfl R e hR he;have hT:=bT_nn hR u;obtain⟨h3,p3,e3⟩:=part e (d:=k* (bT R u+1)) he (Rat.mul_pos hk (by grind));obtain⟨h4,p4,l4,m4⟩:=less h1 h2 p1 p2;obtain⟨h,p,l,m⟩:=less h4 h3 p4 p3;refine way (f:=chV (u::v::L)) (fun s t=>t≤s) (fun _=>Int.le_refl _) (fun _ _ _ g1 g2=>Int.le_trans g2 g1) p hxy fun z w g1 g2 g3 g4=>?_;have hz:ab z≤R:=by rw[←hRe];exact ab_in g1 (by grind)
 have hw:ab w≤R:=by rw[←hRe];exact ab_in (by grind) g3
 have hzw:ab (w- z)=w- z:=by unfold ab;rw[if_neg (by grind)]
 by_cases hu:e≤ab (evalP u z);obtain⟨s1,s2,s3⟩:=k1 z w hz hw (by grind) hu;refine Int.le_of_eq ?_;unfold chV;simp only[List.map_cons] at s3⊢;rw[s1];exact(pS_ s2 s3).symm
 have hv:e≤ab (evalP v z):=by
  by_cases hv:e≤ab (evalP v z);exact hv;have n1:=f6_ (hc_ hR hz a) (show ab (evalP u z)≤e by grind) (ab_nn _) hA;have n2:=f6_ (hc_ hR hz b) (show ab (evalP v z)≤e by grind) (ab_nn _) hB;have n3:=qb_ (evalP a z* evalP u z) (evalP b z* evalP v z);rw[hb z,fY_,fY_,show ab 1=1 by decide+kernel] at n3;grind
 obtain⟨s1,s2,s3⟩:=k2 z w hz hw (by grind) hv;have htan:=m3_ hR hz hw u;rw[hzw] at htan;have ht2:=ab_le.1 htan;have hvz:=hd z
 -- the derivative outweighs what leaves the tangent
 have small:bT R u* ((w- z) * (w- z)) * k≤(w- z) * e:=by
  have q1:=Rat.mul_le_mul_of_nonneg_right (show w- z≤h3 by grind) (show 0≤w- z by grind);have q2:=Rat.mul_le_mul_of_nonneg_left q1 hT;have q3:=Rat.mul_le_mul_of_nonneg_right q2 (show 0≤k by grind);have q4:(w- z) * e=bT R u* (h3* (w- z)) * k+(w- z) * h3* k:=by rw[←e3];grind
  have q5:=Rat.mul_nonneg (Rat.mul_nonneg (show 0≤w- z by grind) (show 0≤h3 by grind)) (show 0≤k by grind);grind
 have hwz:0≤w- z:=by grind
 unfold chV;simp only[List.map_cons];rw[s1];rcases dE_ z v with⟨c1,c2⟩|⟨c1,c2⟩|⟨c1,c2⟩
 have c3:ab (evalP v z)=evalP v z:=by unfold ab;rw[if_neg (by grind)]
 rw[c3] at hv;have c4:=Rat.mul_le_mul_of_nonneg_left hv hwz;have up:evalP u z≤evalP u w:=outweigh hk (Rat.mul_le_mul_of_nonneg_left ht2.1 (by grind)) small c4 hvz;exact pU_ (.inl c1) (es_ z u) (es_ w u) (by rw[c1];have:=oJ_ up;omega) s3;have c3:ab (evalP v z)= -evalP v z:=by unfold ab;rw[if_pos c2]
 rw[c3] at hv;have c4:=Rat.mul_le_mul_of_nonneg_left hv hwz;have up:evalP u w≤evalP u z:=outweigh' hk (Rat.mul_le_mul_of_nonneg_left ht2.2 (by grind)) small c4 hvz;exact pU_ (.inr c1) (es_ z u) (es_ w u) (by rw[c1];have:=oJ_ up;omega) s3;exact absurd c1 s2
def nz(p:List Rat):Prop:=trimQ p≠[]
def dg(p:List Rat):Nat:=(trimQ p).length- 1
def md(p q:List Rat):List Rat:=(divP p q).2
def Eqv(p q:List Rat):Prop:=∀x,evalP p x=evalP q x
theorem eqv_trim{p q:List Rat}:Eqv p q↔trimQ p=trimQ q:=
 ⟨dm_,fun h x=>by rw[←bk_ p,h,bk_]⟩
theorem r5_{p q:List Rat}(h:Eqv p q):nz p↔nz q:=by unfold nz;rw[eqv_trim.1 h]
theorem dg_eqv{p q:List Rat}(h:Eqv p q):dg p=dg q:=by unfold dg;rw[eqv_trim.1 h]
theorem pc_{p q:List Rat}(h:Eqv p q):leadP p=leadP q:=by unfold leadP;rw[eqv_trim.1 h]
theorem sj_{p q p' q':List Rat}(h:Eqv p p')(h':Eqv q q'):md p q=md p' q':=by
 unfold md divP;rw[eqv_trim.1 h,eqv_trim.1 h',pc_ h']
theorem dJ_{p:List Rat}(h:¬nz p):∀x,evalP p x=0:=fun x=>by
 have:trimQ p=[]:=by unfold nz at h;grind
 rw[←bk_,this];rfl
def isDeg(p:List Rat)(n:Nat):Prop:=coP p n≠0∧∀i,n< i→coP p i=0
theorem bE_{p:List Rat}(h:nz p):isDeg p (dg p)∧coP p (dg p)=leadP p:=by
 have hl:=List.length_pos_iff.2 h;have h1:=bD_ (l:=p) (n:=dg p) (by unfold dg;omega)
 have h2:coP p (dg p)=leadP p:=by
  rw[←bg_];unfold coP;grind
 refine⟨⟨by rw[h2];exact bw_ h,fun i hi=>?_⟩,h2⟩;rw[←bg_];exact co_ (by unfold dg at hi;omega)
theorem f4_{p:List Rat}{n:Nat}(h:isDeg p n):nz p∧dg p=n∧leadP p=coP p n:=by
 have h0:nz p:=fun e=>h.1 (trim_nil_iff.1 e n);obtain⟨h1,h2⟩:=bE_ h0
 have e:dg p=n:=by
  rcases Nat.lt_trichotomy (dg p) n with h3|h3|h3
  exact absurd (h1.2 n h3) h.1;exact h3;exact absurd (h.2 _ h3) h1.1
 grind
theorem nf_{p:List Rat}(h:∀i,coP p i=0)(q:List Rat)(k:Nat):coP (mulL p q) k=0:=by
 induction p generalizing k with
 |nil=>rfl
 |cons a p ih=>
  have ha:a=0:=h 0;rw[mulL,c8_,cD_];cases k with
  |zero=>rw[ce_];grind
  |succ k=>rw[bI_,ih fun i=>h (i+1)];grind
theorem ne_(p q:List Rat):∀(n m:Nat),(∀i,n< i→coP p i=0)→(∀i,m< i→coP q i=0)→coP (mulL p q) (n+m)=coP p n* coP q m∧∀k,n+m< k→coP (mulL p q) k=0:=by
 induction p with
 |nil=>intro n m _ _;exact⟨by show(0:Rat)=0* _;grind,fun _ _=>rfl⟩
 |cons a p ih=>
  intro n m hn hm;cases n with
  |zero=>
   have h0:∀i,coP p i=0:=fun i=>hn (i+1) (by omega)
   have hk:∀k,coP (mulL (a::p) q) k=coP q k* a:=fun k=>by
    rw[mulL,c8_,cD_];cases k with
    |zero=>rw[ce_];grind
    |succ k=>rw[bI_,nf_ h0];grind
   refine⟨by rw[Nat.zero_add,hk,ce_];grind,fun k hk'=>?_⟩;grind
  |succ n=>
   obtain⟨h1,h2⟩:=ih n m (fun i hi=>hn (i+1) (by omega)) hm
   have hk:∀k,m< k+1→coP (mulL (a::p) q) (k+1)=coP (mulL p q) k:=fun k h=>by
    rw[mulL,c8_,cD_,bI_,hm _ h];grind
   refine⟨by rw[show n+1+m=(n+m)+1 by omega,hk _ (by omega),h1,bI_],fun k hk'=>?_⟩;obtain⟨j,rfl⟩:∃j,k=j+1:=⟨k- 1,by omega⟩;grind
theorem sw_{p q:List Rat}{n m:Nat}(hp:isDeg p n)(hq:isDeg q m):isDeg (mulP p q) (n+m)∧coP (mulP p q) (n+m)=coP p n* coP q m:=by
 obtain⟨h1,h2⟩:=ne_ p q n m hp.2 hq.2;refine⟨⟨?_,fun i hi=>by rw[gG_];grind⟩,by rw[gG_];grind⟩;rw[gG_];have a:=hp.1;have b:=hq.1;grind
theorem tt_{p q:List Rat}(hp:nz p)(hq:nz q):nz (mulP p q)∧dg (mulP p q)=dg p+dg q∧leadP (mulP p q)=leadP p* leadP q:=by
 obtain⟨a1,a2⟩:=bE_ hp;obtain⟨b1,b2⟩:=bE_ hq;obtain⟨c1,c2⟩:=sw_ a1 b1;obtain⟨d1,d2,d3⟩:=f4_ c1;grind
theorem dg_mul'{p q r:List Rat}(hp:nz p)(hq:nz q)(h:∀x,evalP r x=evalP p x* evalP q x):nz r∧dg r=dg p+dg q∧leadP r=leadP p* leadP q:=by
 have e:Eqv r (mulP p q):=fun x=>by rw[h,ak_]
 obtain⟨h1,h2,h3⟩:=tt_ hp hq;exact⟨(r5_ e).2 h1,(dg_eqv e).trans h2,(pc_ e).trans h3⟩
theorem cu_{p:List Rat}{k:Rat}(hp:nz p)(hk:k≠0){r:List Rat}(h:∀x,evalP r x=evalP p x* k):nz r∧dg r=dg p∧leadP r=leadP p* k:=by
 have hc:isDeg [k] 0:=⟨hk,fun i hi=>by obtain⟨j,rfl⟩:∃j,i=j+1:=⟨i- 1,by omega⟩;rfl⟩;obtain⟨c1,c2,c3⟩:=f4_ hc;obtain⟨h1,h2,h3⟩:=dg_mul' hp c1 (r:=r) (fun x=>by show _=_* (0* x+k);grind);exact⟨h1,by omega,by rw[h3,c3];rfl⟩
theorem bY_(p:List Rat){q:List Rat}(hq:nz q):(∀x,evalP p x=evalP (divP p q).1 x* evalP q x+evalP (md p q) x)∧(nz (md p q)→dg (md p q)< dg q):=by
 obtain⟨h1,h2⟩:=cm_ p q hq;refine⟨fun x=>(h1 x).symm,fun h=>?_⟩;have:=List.length_pos_iff.2 h;unfold md at *
 unfold dg;omega
theorem dl_{p q u v:List Rat}(hq:nz q)(h:∀x,evalP p x=evalP u x* evalP q x+evalP v x)(hv:nz v→dg v< dg q):Eqv (md p q) v:=by
 obtain⟨h1,h2⟩:=bY_ p hq;by_cases hw:nz (subP u (divP p q).1)
 obtain⟨c1,c2,_⟩:=dg_mul' hw hq (r:=subP (md p q) v) (fun x=>by
  rw[bf_,bf_];grind)
 have hz:∀r,(nz r→dg r< dg q)→∀i,dg q≤i→coP r i=0:=fun r hr i hi=>by
  by_cases hz:nz r;exact(bE_ hz).1.2 i (by grind);exact trim_nil_iff.1 (Decidable.byContradiction hz) i
 have:=(bE_ c1).1.1;rw[gF_] at this;grind;intro x;have:=dJ_ hw x;rw[bf_] at this;grind
theorem md_add{p p' q u:List Rat}(hq:nz q)(h:∀x,evalP p x=evalP u x* evalP q x+evalP p' x):Eqv (md p q) (md p' q):=by
 obtain⟨h1,h2⟩:=bY_ p' hq;exact dl_ (u:=addP u (divP p' q).1) hq (fun x=>by rw[h,a1_];grind) h2
theorem si_{p q:List Rat}(hq:nz q)(h:nz p→dg p< dg q):Eqv (md p q) p:=
 dl_ (u:=[]) hq (fun x=>by rw[ax_];grind) h
theorem maxL2(m a:Rat):m≤maxL [m,a]∧a≤maxL [m,a]:=by
 have e:maxL [m,a]=if 0< cmpQ a m then a else m:=by
  unfold maxL cg_;simp only[List.foldl_cons,List.foldl_nil,decide_eq_true_eq]
 rw[e];unfold cmpQ;by_cases h1:a< m;rw[if_pos h1,if_neg (by decide)];grind;rw[if_neg h1];by_cases h2:a=m;rw[if_pos h2,if_neg (by decide)];grind;rw[if_neg h2,if_pos (by decide)];grind
theorem lP_(q:Rat):absQ q=ab q:=hO_ q
theorem lL_(lead:Rat):∀(l:List Rat) (m:Rat),m≤boL lead l m∧∀c∈l,ab (c/ lead)≤boL lead l m
 |[],m=>⟨by rw[boL];grind,fun _ h=>by cases h⟩
 |c::l,m=>by
  obtain⟨h1,h2⟩:=lL_ lead l (maxL [m,absQ (c/ lead)]);obtain⟨h3,h4⟩:=maxL2 m (absQ (c/ lead));rw[lP_] at h4;rw[boL];refine⟨by grind,fun d hd=>?_⟩;rcases List.mem_cons.1 hd with rfl|hd
  rw[lP_] at *;grind;exact h2 d hd
theorem hi_(p:List Rat):1≤aN_ p:=by
 have:=(lL_ (leadP p) ((trimQ p).take ((trimQ p).length- 1)) 0).1;unfold aN_;grind
theorem big{B x:Rat}(hB:1≤B)(hx:x≤ -B):∀(l:List Rat) (lead:Rat),l.getLast?=some lead→lead≠0→(∀c∈l.dropLast,ab c≤(B- 1) * ab lead)→
    ab lead≤ab (evalP l x)∧sgE x l=if l.length % 2=1 then sgZ lead.num else -sgZ lead.num
 |[],_,h,_,_=>by cases h
 |[a],lead,h,h0,_=>by
  have e:a=lead:=by simpa using h
  subst e;have e:evalP [a] x=a:=by rw[ay_,ax_];grind
  refine⟨by rw[e];grind,?_⟩;unfold sgE;rw[e];rfl
 |a::b::m,lead,h,h0,hc=>by
  rw[List.getLast?_cons_cons] at h;rw[List.dropLast_cons_cons] at hc;obtain⟨i1,i2⟩:=big hB hx (b::m) lead h h0 fun c hcm=>hc c (List.mem_cons_of_mem _ hcm);have ha:=hc a (List.mem_cons_self ..);have e:evalP (a::b::m) x=evalP (b::m) x* x+a:=ay_ ..
  have flip:(if (a::b::m).length % 2=1 then sgZ lead.num else -sgZ lead.num)= -sgE x (b::m):=by
   rw[i2];by_cases hq:(b::m).length % 2=1;rw[if_pos hq,if_neg (by simp only[List.length_cons] at hq⊢;omega)];rw[if_neg hq,if_pos (by simp only[List.length_cons] at hq⊢;omega)];omega
  rw[flip]
  have hE:0< ab (evalP (b::m) x):=by
   have:0< ab lead:=by unfold ab;split <;> grind
   grind
  have h1:=Rat.mul_le_mul_of_nonneg_left i1 (show 0≤B- 1 by grind);have h2:=ab_le.1 (show ab a≤(B- 1) * ab (evalP (b::m) x) by grind);rcases dE_ x (b::m) with⟨c1,c2⟩|⟨c1,c2⟩|⟨c1,c2⟩
  have h3:ab (evalP (b::m) x)=evalP (b::m) x:=by unfold ab;rw[if_neg (by grind)]
  have h4:=Rat.mul_le_mul_of_nonneg_left hx (show 0≤evalP (b::m) x by grind);rw[h3] at h2 i1;have h5:evalP (a::b::m) x≤ -evalP (b::m) x:=by rw[e];grind
  refine⟨?_,by rw[c1,kO_ (by grind)]⟩;have h6:ab (evalP (a::b::m) x)= -evalP (a::b::m) x:=by unfold ab;rw[if_pos (by grind)]
  grind;have h3:ab (evalP (b::m) x)= -evalP (b::m) x:=by unfold ab;rw[if_pos c2]
  have h4:=Rat.mul_le_mul_of_nonneg_left hx (show 0≤ -evalP (b::m) x by grind);rw[h3] at h2 i1;have h5: -evalP (b::m) x≤evalP (a::b::m) x:=by rw[e];grind
  refine⟨?_,by rw[c1,hx_ (by grind)];decide⟩;have h6:ab (evalP (a::b::m) x)=evalP (a::b::m) x:=by unfold ab;rw[if_neg (by grind)]
  grind;rw[c2] at hE;exact absurd hE (by decide+kernel)
theorem fV_{q:List Rat}(h:nz q){x:Rat}(hx:x≤ -aN_ q):ab (leadP q)≤ab (evalP q x)∧sgE x q=sgI q:=by
 have hl:=List.length_pos_iff.2 h;have hg:=bD_ (l:=q) (n:=(trimQ q).length- 1) (by omega)
 have h1:=big (hi_ q) hx (trimQ q) (leadP q) (by rw[List.getLast?_eq_getElem?];exact hg) (bw_ h) fun c hc=>by
  rw[List.dropLast_eq_take] at hc;have h2:=(lL_ (leadP q) _ 0).2 c hc;have h3:=fY_ (c/ leadP q) (leadP q);rw[Rat.div_mul_cancel (bw_ h)] at h3;rw[h3];have h4:=Rat.mul_le_mul_of_nonneg_right h2 (ab_nn (leadP q));unfold aN_;grind
 have e:sgE x (trimQ q)=sgE x q:=by unfold sgE;rw[bk_]
 rw[bk_,e] at h1;refine⟨h1.1,h1.2.trans ?_⟩;unfold sgI degP;by_cases hp:(trimQ q).length % 2=1;rw[if_pos hp,if_neg (by omega)];rw[if_neg hp,if_pos (by omega)]
theorem sl_:∀l:List (List Rat),(∀q∈l,nz q)→∃M:Rat,∀x,x≤ -M→l.map (sgE x)=l.map sgI
 |[],_=>⟨0,fun _ _=>rfl⟩
 |q::l,h=>by
  obtain⟨M,hM⟩:=sl_ l fun r hr=>h r (List.mem_cons_of_mem _ hr);have hq:=h q (List.mem_cons_self ..);by_cases hb:aN_ q≤M;exact⟨M,fun x hx=>by rw[List.map_cons,List.map_cons,hM x hx,(fV_ hq (by grind)).2]⟩;exact⟨aN_ q,fun x hx=>by rw[List.map_cons,List.map_cons,hM x (by grind),(fV_ hq hx).2]⟩
def sg(k:Nat):Rat:=(-1) ^ k
theorem pow_ne{a:Rat}(h:a≠0)(n:Nat):a^ n≠0:=by
 induction n with
 |zero=>rw[Rat.pow_zero];grind
 |succ n ih=>rw[Rat.pow_succ];intro e;rcases Rat.mul_eq_zero.1 e with e|e;exact ih e;exact h e
theorem k9_{p:List Rat}(h:nz p):leadP p≠0:=bw_ h
def Dv(d p:List Rat):Prop:=∃u,∀x,evalP p x=evalP u x* evalP d x
theorem ck_{p q r:List Rat}(h:∀x,evalP r x=evalP p x* evalP q x)(hr:nz r):nz p∧nz q:=by
 constructor;intro e;have e':¬nz p:=fun h=>h e;exact absurd rfl ((r5_ (q:=[]) fun x=>by rw[h,dJ_ e',ax_];grind).1 hr);intro e;have e':¬nz q:=fun h=>h e;exact absurd rfl ((r5_ (q:=[]) fun x=>by rw[h,dJ_ e',ax_];grind).1 hr)


theorem fl_{p:List Rat}(h:nz p):degP p=(dg p:Int):=by
 have:=List.length_pos_iff.2 h;unfold degP dg;omega
theorem degP_nil{p:List Rat}:degP p< 0↔¬nz p:=by
 unfold degP nz;constructor;intro h e;have:=List.length_pos_iff.2 e;omega;intro h;have:trimQ p=[]:=Decidable.byContradiction h;rw[this];decide
theorem db_{p:List Rat}(h:nz p):(∀x,evalP (aG_ p) x=evalP p x* (1/ leadP p))∧nz (aG_ p)∧dg (aG_ p)=dg p:=by
 have hl:=k9_ h;have e:∀x,evalP (aG_ p) x=evalP p x* (1/ leadP p):=fun x=>by unfold aG_;rw[if_neg h,as_]
 have hk:1/ leadP p≠0:=fun e=>by have:1/ leadP p* leadP p=1:=by grind
                                 rw[e] at this;grind
 obtain⟨a,b,_⟩:=cu_ h hk e;exact⟨e,a,b⟩
theorem hC_(p:List Rat):∃k k':Rat,k* k'=1∧∀x,evalP (aG_ p) x=evalP p x* k:=by
 by_cases h:nz p;refine⟨1/ leadP p,leadP p,Rat.div_mul_cancel (k9_ h),(db_ h).1⟩;refine⟨1,1,by grind,fun x=>?_⟩;have e:trimQ p=[]:=Decidable.byContradiction h;unfold aG_;rw[if_pos e,dJ_ h,ax_];grind
theorem Dv.refl(d:List Rat):Dv d d:=⟨[1],fun x=>by rw[ay_,ax_];grind⟩
theorem Dv.zero(d:List Rat){r:List Rat}(h:∀x,evalP r x=0):Dv d r:=⟨[],fun x=>by rw[ax_];grind⟩
theorem Dv.trans{a b c:List Rat}(h:Dv a b)(k:Dv b c):Dv a c:=by
 obtain⟨u,hu⟩:=h;obtain⟨v,hv⟩:=k;exact⟨mulP v u,fun x=>by rw[hv,ak_];grind⟩
theorem Dv.lin{d p q r:List Rat}{u v:List Rat}(h:Dv d p)(k:Dv d q)(e:∀x,evalP r x=evalP u x* evalP p x+evalP v x* evalP q x):Dv d r:=by
 obtain⟨s,hs⟩:=h;obtain⟨t,ht⟩:=k;exact⟨addP (mulP u s) (mulP v t),fun x=>by rw[e,a1_,ak_,ak_];grind⟩
theorem Dv.mul{d p q r:List Rat}(h:Dv d p)(e:∀x,evalP r x=evalP q x* evalP p x):Dv d r:=
 h.lin h (u:=q) (v:=[]) fun x=>by rw[ax_];grind
theorem Dv.scale{d p r:List Rat}{k:Rat}(h:Dv d p)(e:∀x,evalP r x=evalP p x* k):Dv d r:=
 h.mul (q:=[k]) fun x=>by rw[ay_,ax_];grind
theorem Dv.dg{d p:List Rat}(h:Dv d p)(hp:nz p):dg d≤dg p:=by
 obtain⟨u,hu⟩:=h;obtain⟨n1,n2⟩:=ck_ hu hp;have:=(dg_mul' n1 n2 hu).2.1;omega
theorem hV_{d:List Rat}(h:nz d)(h0:dg d=0):∃c:Rat,c≠0∧∀x,evalP d x=c:=by
 obtain⟨e1,e2⟩:=bE_ h;refine⟨leadP d,k9_ h,fun x=>?_⟩
 have:trimQ d=trimQ [leadP d]:=trim_iff.2 fun i=>by
  cases i with
  |zero=>rw[ce_,←e2,h0]
  |succ i=>exact e1.2 _ (by omega)
 rw[←bk_,this,bk_,ay_,ax_];grind
theorem o5_:nz [1]:=by unfold nz;decide+kernel
theorem bez:∀(n:Nat) (p q:List Rat),(trimQ q).length=n→nz p∨nz q→∃g a b:List Rat,nz g∧Dv g p∧Dv g q∧∀x,evalP g x=evalP a x* evalP p x+evalP b x* evalP q x:=by
 intro n
 induction n using Nat.strongRecOn with
 |ind n ih=>
  intro p q hn h;by_cases hq:nz q;obtain⟨m1,m2⟩:=bY_ p hq
  have hlt:(trimQ (md p q)).length< n:=by
   have:=(cm_ p q hq).2;unfold md;omega
  obtain⟨g,a,b,g0,g1,g2,g3⟩:=ih _ hlt q (md p q) rfl (.inl hq);refine⟨g,b,subP a (mulP b (divP p q).1),g0,g1.lin g2 (u:=(divP p q).1) (v:=[1]) fun x=>?_,g1,fun x=>?_⟩;rw[m1,ay_,ax_];grind;rw[g3,bf_,ak_,m1 x];grind;have hp:nz p:=h.resolve_right hq;exact⟨p,[1],[],hp,.refl p,.zero p (dJ_ hq),fun x=>by rw[ay_,ax_,dJ_ hq];grind⟩
theorem dX_:∀(f:Nat) (p q g:List Rat),gcdM f p q=some g→nz p∨nz q→nz g∧Dv g p∧Dv g q∧∃a b:List Rat,∀x,evalP g x=evalP a x* evalP p x+evalP b x* evalP q x
 |0,_,_,_,h,_=>by cases h
 |f+1,p,q,g,h,hz=>by
  rw[gcdM] at h;split at h
  ·rename_i h0
   split at h;cases h;have hq:¬nz q:=fun e=>e h0;have hp:nz p:=hz.resolve_right hq;obtain⟨m1,m2,_⟩:=db_ hp;obtain⟨k,k',hk,m⟩:=hC_ p;refine⟨m2,⟨[k'],fun x=>by rw[ay_,ax_];grind⟩,.zero _ (dJ_ hq),[k],[],fun x=>by rw[ay_,ax_];grind⟩;cases h
  ·rename_i h0
   split at h;obtain⟨m1,_⟩:=bY_ p h0;obtain⟨k,k',hk,m⟩:=hC_ (divP p q).2;obtain⟨g0,g1,g2,a,b,g3⟩:=dX_ f _ _ _ h (.inl h0);refine⟨g0,g1.lin g2 (u:=(divP p q).1) (v:=[k']) fun x=>?_,g1,av_ b k,subP a (av_ (mulP b (divP p q).1) k),fun x=>?_⟩;rw[m1,ay_,ax_];show _+evalP (divP p q).2 x=_;grind;rw[g3,as_,bf_,as_,ak_,m1 x];show _=_* (_+evalP (divP p q).2 x)+_;grind;cases h
theorem jr_{p q:List Rat}(h:∀x,evalP p x=evalP q x)(x:Rat):dvE p x=dvE q x:=lB_ (trim_iff.1 (dm_ h)) x
theorem dvE_k{p r:List Rat}{k:Rat}(h:∀x,evalP r x=evalP p x* k)(x:Rat):dvE r x=dvE p x* k:=by
 rw[jr_ (q:=eL_ p k) (fun x=>by rw[h,dK_]) x,kD_]
def pw(d:List Rat):Nat→List Rat
 |0=>[1]
 |k+1=>mulP (pw d k) d
theorem pw_dv(d:List Rat)(k:Nat)(x:Rat):dvE (pw d (k+1)) x=(((k+1:Nat):Int):Rat) * evalP (pw d k) x* dvE d x:=by
 induction k with
 |zero=>
  show dvE (mulP [1] d) x=_;rw[hI_,ci_,show dvE [] x=0 from rfl];show _=((1:Int):Rat) * evalP [1] x* _;rw[ax_];grind
 |succ k ih=>
  show dvE (mulP (pw d (k+1)) d) x=_;rw[hI_];have e2:evalP (pw d (k+1)) x=evalP (pw d k) x* evalP d x:=ak_ _ _ _;grind
theorem pw_dg{d:List Rat}(hd:nz d)(k:Nat):nz (pw d k)∧dg (pw d k)=k* dg d:=by
 induction k with
 |zero=>exact⟨o5_,by rw[Nat.zero_mul];show dg [1]=0;decide+kernel⟩
 |succ k ih=>
  obtain⟨a,b,_⟩:=tt_ ih.1 hd;exact⟨a,by show dg (mulP _ _)=_;grind⟩
theorem na_{d:List Rat}(h:dg d≠0)(hd:nz d):nz (at_ d)∧dg (at_ d)< dg d:=by
 obtain⟨⟨e1,e2⟩,_⟩:=bE_ hd
 have h1:isDeg (at_ d) (dg d- 1):=by
  refine⟨?_,fun i hi=>?_⟩;rw[bm_,show dg d- 1+1=dg d by omega];intro e;rcases Rat.mul_eq_zero.1 e with e|e
  exact e1 e;have:((dg d:Nat):Int)=0:=by simp_all
  omega;rw[bm_,e2 _ (by omega),Rat.zero_mul]
 obtain⟨a,b,_⟩:=f4_ h1;grind
theorem sqfree{p s g a b:List Rat}(hp:nz p)(h1:∀x,evalP p x=evalP s x* evalP g x)(h3:∀x,evalP g x=evalP a x* evalP p x+evalP b x* evalP (at_ p) x):
    ∀n d,dg d=n→nz d→Dv d s→Dv d (at_ s)→dg d=0:=by
 intro n
 induction n using Nat.strongRecOn with
 |ind n ih=>
  intro d hn hd ⟨u,hu⟩ ⟨v,hv⟩;by_cases h0:dg d=0;exact h0;exfalso;obtain⟨d1,d2⟩:=na_ h0 hd;obtain⟨e,a0,b0,e1,e2,e3,e4⟩:=bez _ d (at_ d) rfl (.inl hd);have e5:=e3.dg d1;have e6:=ih (dg e) (by omega) e rfl e1 (e2.trans ⟨u,hu⟩) (e2.trans ⟨v,hv⟩);obtain⟨c,c0,hc⟩:=hV_ e1 e6
  -- the square divides s
  have hs:∀x,dvE s x=dvE u x* evalP d x+evalP u x* dvE d x:=fun x=>by
   rw[jr_ (q:=mulP u d) (fun x=>by rw[hu,ak_]) x,hI_]
  have hc1:1/ c* c=1:=Rat.div_mul_cancel c0
  obtain⟨t,ht⟩:∃t:List Rat,∀x,evalP u x=evalP t x* evalP d x:=by
   refine⟨av_ (addP (mulP a0 u) (mulP b0 (subP v (derL u)))) (1/ c),fun x=>?_⟩;rw[as_,a1_,ak_,ak_,bf_,gd_];have k1:=e4 x;have k2:=hv x;rw[hc,a4_] at k1;rw[a4_,hs] at k2;grind
  obtain⟨n1,n2⟩:=ck_ h1 hp
  have key:∀k,∃w:List Rat,∀x,evalP g x=evalP w x* evalP (pw d k) x:=by
   intro k
   induction k with
   |zero=>exact⟨g,fun x=>by rw[pw,ay_,ax_];grind⟩
   |succ k ihk=>
    obtain⟨w,hw⟩:=ihk;obtain⟨W,hW⟩:∃W,W=mulP t w:=⟨_,rfl⟩
    have q1:∀x,evalP p x=evalP W x* evalP (pw d (k+2)) x:=fun x=>by
     rw[h1,hw,hu,ht,hW,ak_,pw,ak_,pw,ak_];grind
    have q2:∀x,evalP (at_ p) x=dvE W x* evalP (pw d (k+2)) x+evalP W x* dvE (pw d (k+2)) x:=fun x=>by
     rw[a4_,jr_ (q:=mulP W (pw d (k+2))) (fun x=>by rw[q1,ak_]) x,hI_]
    refine⟨addP (mulP a (mulP W d)) (mulP b (addP (mulP (derL W) d) (mulP (av_ W (((k+1+1:Nat):Int):Rat)) (derL d)))),fun x=>?_⟩;have q3:=pw_dv d (k+1) x;have q4:evalP (pw d (k+2)) x=evalP (pw d (k+1)) x* evalP d x:=ak_ _ _ _;rw[h3,q2,q1,q3,q4];simp only[a1_,ak_,as_,gd_];grind
  obtain⟨w,hw⟩:=key (dg g+1);obtain⟨m1,m2⟩:=ck_ hw n2;have m3:=(dg_mul' m1 m2 hw).2.1;rw[(pw_dg hd _).2] at m3;have m4:dg g+1≤(dg g+1) * dg d:=Nat.le_mul_of_pos_right _ (by omega);omega
theorem fD_{p:List Rat}(h:nz p):∃k:Rat,0< k∧∀x,evalP (primP p) x=evalP p x* k:=by
 have hD:denL (trimQ p) 1≠0:=hK_ _ (by decide)
 have hN:numL (denL (trimQ p) 1) (trimQ p) 0≠0:=by
  intro e;have h1:=(gS_ (denL (trimQ p) 1) (trimQ p) 0).2;have h2:=(eD_ (trimQ p) 1).2;have hl:=List.length_pos_iff.2 h;have hg:=bD_ (l:=p) (n:=(trimQ p).length- 1) (by omega);have hm:=List.mem_of_getElem? hg;have h3:=h1 _ hm;rw[e] at h3;exact la_ (h2 _ hm) hD (bw_ h) (Nat.eq_zero_of_zero_dvd h3)
 refine⟨nQ (denL (trimQ p) 1) / nQ (numL (denL (trimQ p) 1) (trimQ p) 0),?_,fun x=>by unfold primP;rw[as_,bk_]⟩
 have pos:∀n:Nat,n≠0→(0:Rat)< nQ n:=fun n hn=>by
  rw[←num_pos];show 0< (n:Int);omega
 obtain⟨k,k0,e⟩:=part (nQ (denL (trimQ p) 1)) (pos _ hD) (pos _ hN);rw[←e,Rat.mul_div_cancel (fun e=>hN (nQ_zero.1 e))];grind
inductive Cx:List Rat→List Rat→List (List Rat)→Prop
 |nil {u n:List Rat}:¬nz n→Cx u n []
 |cons {u n v n' q:List Rat} {L:List (List Rat)} {c:Rat}:0< c→(∀x,evalP v x=evalP n x* c)→nz v→(∀x,evalP n' x=evalP q x* evalP v x- evalP u x)→Cx v n' L→Cx u n (v::L)
theorem fn_:∀(f k:Nat) (last next:List Rat) (acc out:List (List Rat)),en_ f k last next acc=some out→∃L,out=acc++L∧Cx last next L
 |_,0,_,_,_,_,h=>by cases h
 |f,k+1,last,next,acc,out,h=>by
  rw[en_] at h;split at h
  ·rename_i h0
   cases h;exact⟨[],by simp,.nil fun e=>e h0⟩
  ·rename_i h0
   split at h
   ·rename_i h1
    obtain⟨L,e,hL⟩:=fn_ f k _ _ _ _ h;obtain⟨c,c0,hc⟩:=fD_ h0;refine⟨primP next::L,by grind,.cons (q:=(divP last (primP next)).1) c0 hc h1.2.2 (fun x=>?_) hL⟩;have:=(bY_ last h1.2.2).1 x;unfold md at this;rw[as_];grind
   cases h
theorem Cx.ch{u n:List Rat}{L:List (List Rat)}(H:Cx u n L):nz u→(∀d,nz d→Dv d u→Dv d n→dg d=0)→Ch u L∧∀v L',L=v::L'→∃c:Rat,0< c∧∀x,evalP v x=c* evalP n x:=by
 induction H with
 | @nil u n hn=>
  intro hu hd;obtain⟨c,c0,hc⟩:=hV_ hu (hd u hu (.refl u) (.zero u (dJ_ hn)));exact⟨.one c0 hc,fun _ _ h=>by cases h⟩
 | @cons u n v n' q L c hc hv hnv hn' hL ih=>
  intro hu hd
  obtain⟨i1,i2⟩:=ih hnv fun d d0 d1 d2=>hd d d0 (d1.lin d2 (u:=q) (v:=[-1]) fun x=>by rw[ay_,ax_];grind)
   (d1.scale (k:=1/ c) fun x=>by grind)
  refine⟨?_,fun _ _ h=>by grind⟩;cases L with
  |nil=>exact .pair i1
  |cons w L=>
   obtain⟨c',c0,hw⟩:=i2 w L rfl;exact .step (a:=c') (c:=1) (q:=av_ q c') c0 (by grind) (fun x=>by rw[hw,as_];grind) i1
theorem l7_{f:Nat}{p s:List Rat}(h:sqfM f p=some s)(hp:nz p):nz s∧∀d,nz d→Dv d s→Dv d (at_ s)→dg d=0:=by
 unfold sqfM at h;split at h;cases hg:gcdM f p (at_ p) with
 |none=>grind
 |some g=>
  rw[hg,Option.bind_some] at h;split at h;cases h;obtain⟨g0,g1,g2,a,b,g3⟩:=dX_ f _ _ _ hg (.inl hp);obtain⟨m1,m2⟩:=bY_ p g0;obtain⟨u,hu⟩:=g1;have hm:=dl_ (u:=u) (v:=[]) g0 (fun x=>by rw[hu x,ax_];grind) (fun e=>absurd rfl e)
  have hs:∀x,evalP p x=evalP (divP p g).1 x* evalP g x:=fun x=>by
   have:=m1 x;rw[hm x,ax_] at this;grind
  obtain⟨n1,n2⟩:=ck_ hs hp;obtain⟨k,k',hk,m⟩:=hC_ (divP p g).1;refine⟨(db_ n1).2.1,fun d d0 d1 d2=>sqfree hp hs g3 _ d rfl d0 (d1.scale (k:=k') fun x=>by grind) (d2.scale (k:=k') fun x=>?_)⟩;rw[a4_,a4_,dvE_k m x];grind;cases h
 cases h
theorem tG_(u:List Rat)(x:Rat):chV [u] x=0:=by
 unfold chV chL chL;grind
theorem dh_{f:Nat}{p:List Rat}{c:Cnt}(h:cn_ f p=some c)(hp:nz p):nz c.p∧sqfM f p=some c.p∧er_ f c.p=some c.ch∧c.far=chV c.ch (-aN_ c.p)∧(∀x,x≤ -aN_ c.p→uptoV c x=0)∧∀x y,x≤y→uptoV c x≤uptoV c y:=by
 unfold cn_ at h;cases hs:sqfM f p with
 |none=>grind
 |some s=>
  rw[hs,Option.bind_some] at h;cases hc:er_ f s with
  |none=>grind
  |some ch=>
   rw[hc,Option.bind_some] at h;split at h
   ·rename_i hok
    cases h;obtain⟨s0,s1⟩:=l7_ hs hp;have hc':=hc;unfold er_ at hc;split at hc;obtain⟨L,e,hL⟩:=fn_ _ _ _ _ _ _ hc;obtain⟨k,k0,hk⟩:=fD_ s0;have hkne:k≠0:=by grind
    have hu0:nz (primP s):=(cu_ s0 hkne hk).1;have hk1:k* (1/ k)=1:=by grind
    have hk2:0< 1/ k:=by
     obtain⟨m,m0,m1⟩:=part 1 (d:=k) (by grind) k0;grind
    obtain⟨c1,c2⟩:=hL.ch hu0 fun d d0 d1 d2=>s1 d d0 (d1.scale (k:=1/ k) fun x=>by grind) d2;have e':ch=primP s::L:=e;subst e'
    have mono:∀x y,x≤y→chV (primP s::L) y≤chV (primP s::L) x:=fun x y hxy=>by
     cases L with
     |nil=>rw[tG_,tG_];grind
     |cons v L=>
      obtain⟨c',c0,hv⟩:=c2 v L rfl;refine c1.fall (k:=c'* (1/ k)) (Rat.mul_pos c0 hk2) (fun x=>?_) hxy;rw[hv,a4_,dvE_k hk x];grind
    obtain⟨M,hM⟩:=sl_ (primP s::L) fun q hq=>(hok.1 q hq).1
    have low:∀x,x≤ -aN_ s→chV (primP s::L) x=chL ((primP s::L).map sgI) 0 0:=fun x hx=>by
     by_cases hxM:x≤ -M;unfold chV;rw[hM x hxM]
     rw[←c1.same (e:=ab (leadP s) * k) (x:= -M) (y:=x) (Rat.mul_pos (by have:=bw_ s0;unfold ab;split <;> grind) k0) (by grind) (fun z z1 z2=>by
      rw[hk,fY_,show ab k=k by unfold ab;rw[if_neg (by grind)]];exact Rat.mul_le_mul_of_nonneg_right (fV_ s0 (by grind)).1 (by grind))]
     unfold chV;grind
    refine⟨s0,rfl,hc',(low _ (by grind)).symm,fun x hx=>?_,fun x y hxy=>?_⟩;have:=low x hx;unfold uptoV;unfold chV at this;show _- chL ((primP s::L).map (sgE x)) 0 0=0;rw[this];simp;have:=mono x y hxy;unfold uptoV;unfold chV at this;show _- chL ((primP s::L).map (sgE x)) 0 0≤_- chL ((primP s::L).map (sgE y)) 0 0;omega;grind
   cases h
theorem kg_:qs 1=1:=by decide
theorem gB_{p:List Rat}{t:Nat}(h:bdL p t)(ht:1≤t):qs (leadP p)≤t:=by
 by_cases h0:trimQ p=[];rw[i6_ h0];exact Nat.le_trans (by decide:qs 0≤1) ht;have hl:=List.length_pos_iff.2 h0;exact h _ (be_ (List.mem_of_getElem? (bD_ (n:=(trimQ p).length- 1) (by omega))))
theorem eK_{p:List Rat}{k:Rat}(hk:k≠0):(trimQ (av_ p k)).length=(trimQ p).length:=by
 by_cases h:nz p;obtain⟨a,b,_⟩:=cu_ h hk (r:=av_ p k) fun x=>as_ p k x;have h1:=List.length_pos_iff.2 a;have h2:=List.length_pos_iff.2 h;unfold dg at b;omega;have e:trimQ p=[]:=Classical.byContradiction h
 have e2:trimQ (av_ p k)=[]:=by
  have:Eqv (av_ p k) []:=fun x=>by rw[as_,dJ_ h,ax_];grind
  exact eqv_trim.1 this
 rw[e,e2]
def HtF(f:Nat→Rat)(k:Rat)(h:Nat):Prop:=∀i,∃z:Int,f i* k=(z:Rat)∧bl z.natAbs≤h
def Ht(p:List Rat)(h:Nat):Prop:=∃k:Rat,k≠0∧HtF (coP p) k h
theorem HtF.mono{f:Nat→Rat}{k:Rat}{h h':Nat}(H:HtF f k h)(hh:h≤h'):HtF f k h':=fun i=>by
 obtain⟨z,z1,z2⟩:=H i;grind
theorem Ht.mono{p:List Rat}{h h':Nat}(H:Ht p h)(hh:h≤h'):Ht p h':=by
 obtain⟨k,k0,H⟩:=H;exact⟨k,k0,H.mono hh⟩
theorem Ht.scale{p r:List Rat}{h:Nat}{c:Rat}(H:Ht p h)(hc:c≠0)(e:∀i,coP r i=coP p i* c):Ht r h:=by
 obtain⟨k,k0,H⟩:=H;refine⟨k/ c,fun e=>?_,fun i=>?_⟩;have:k/ c* c=k:=Rat.div_mul_cancel hc;grind;obtain⟨z,z1,z2⟩:=H i;grind
theorem Ht.trim{p:List Rat}{h:Nat}(H:Ht p h):Ht (trimQ p) h:=H.scale (c:=1) (by grind) fun i=>by rw[bg_];grind
theorem Ht.untrim{p:List Rat}{h:Nat}(H:Ht (trimQ p) h):Ht p h:=H.scale (c:=1) (by grind) fun i=>by rw[bg_];grind
theorem Ht.zero{p:List Rat}(e:∀i,coP p i=0)(h:Nat):Ht p h:=⟨1,by grind,fun i=>⟨0,by grind,Nat.zero_le _⟩⟩
theorem pP_(o:List Rat)(a:Rat)(q:List Rat)(i n:Nat):∀k,coP (rowM o a q i k) n=if i≤n∧n< i+k∧n< o.length then coP o n- a* coP q (n- i) else coP o n
 |0=>by rw[rowM,if_neg (by omega)]
 |k+1=>by
  rw[rowM,hf_,pP_ o a q i n k,dt_];by_cases h:n=i+k∧i+k< o.length;rw[if_pos h,if_pos (by omega),gO_ o a q i k (i+k) (by omega),h.1,show i+k- i=k by omega];grind
theorem tQ_{x y:Int}{k:Nat}(hx:bl x.natAbs≤k)(hy:bl y.natAbs≤k):bl (x- y).natAbs≤k+1:=by
 exact jI_ hx (by grind)
theorem tn_{q:List Rat}{lead l:Rat}{g:Nat}(hl:coP q (q.length- 1)=lead)(h0:lead≠0)(l0:l≠0)(hq:HtF (coP q) l g):∀(c:Nat) (u o:List Rat) (k:Rat) (H:Nat),k≠0→HtF (coP o) k H→HtF (coP u) (k/ l) H→
    ∃k',k'≠0∧HtF (coP (divR q lead c u o).1) (k'/ l) (H+c* (g+1))∧HtF (coP (divR q lead c u o).2) k' (H+c* (g+1))
 |0,u,o,k,H,k0,ho,hu=>⟨k,k0,by rw[Nat.zero_mul];exact hu,by rw[Nat.zero_mul];exact ho⟩
 |n+1,u,o,k,H,k0,ho,hu=>by
  obtain⟨zl,zl1,zl2⟩:=hq (q.length- 1);rw[hl] at zl1
  have zl0:(zl:Rat)≠0:=fun e=>by
   grind
  obtain⟨zt,zt1,zt2⟩:=ho (n+q.length- 1);generalize hte:coP o (n+q.length- 1) / lead=t;have ht:t* lead=coP o (n+q.length- 1):=by grind
  have hll:k/ l* l=k:=Rat.div_mul_cancel l0;have hkl:k* (zl:Rat) / l=k/ l* zl:=by grind
  rw[divR]
  obtain⟨k',k1,k2,k3⟩:=tn_ hl h0 l0 hq n (u.set n (coP o (n+q.length- 1) / lead)) (if coP o (n+q.length- 1) / lead=0 then o else rowM o (coP o (n+q.length- 1) / lead) q n q.length) (k* zl) (H+(g+1)) (fun e=>by
   grind) (fun i=>by
   rw[hte]
   have plain:∃z:Int,coP o i* (k* (zl:Rat))=(z:Rat)∧bl z.natAbs≤H+(g+1):=by
    obtain⟨z,z1,z2⟩:=ho i;refine⟨z* zl,by rw[Rat.intCast_mul,←z1];grind,?_⟩;have:=bx_ z2 zl2;omega
   split;exact plain;rw[pP_];split;obtain⟨z,z1,z2⟩:=ho i;obtain⟨zj,y1,y2⟩:=hq (i- n);refine⟨z* zl- zt* zj,?_,?_⟩;rw[Rat.intCast_sub,Rat.intCast_mul,Rat.intCast_mul,←z1,←zt1,←y1,←zl1,←ht];grind;have:=tQ_ (bx_ z2 zl2) (bx_ zt2 y2);omega;grind) (fun i=>by
   rw[hte,lF_,hkl];split;refine⟨zt,?_,by omega⟩;rw[←zl1,←zt1,←ht];have:t* (k/ l* (lead* l))=t* lead* (k/ l* l):=by grind
   rw[this,hll];obtain⟨z,z1,z2⟩:=hu i;refine⟨z* zl,by rw[Rat.intCast_mul,←z1];grind,?_⟩;have:=bx_ z2 zl2;omega)
  grind
theorem ju_{p q:List Rat}{h g:Nat}(hp:Ht p h)(hq:Ht q g)(h0:nz q):Ht (divP p q).1 (h+((trimQ p).length+1- (trimQ q).length) * (g+1))∧Ht (divP p q).2 (h+((trimQ p).length+1- (trimQ q).length) * (g+1)):=by
 obtain⟨k,k0,hp⟩:=hp.trim;obtain⟨l,l0,hq⟩:=hq.trim;have hl:=List.length_pos_iff.2 h0;have hg:=bD_ (l:=q) (n:=(trimQ q).length- 1) (by omega);have hc:coP (trimQ q) ((trimQ q).length- 1)=leadP q:=by unfold coP;grind
 obtain⟨k',k1,k2,k3⟩:=tn_ hc (bw_ h0) l0 hq ((trimQ p).length+1- (trimQ q).length) (List.replicate ((trimQ p).length+1- (trimQ q).length) 0) (trimQ p) k h k0 hp fun i=>by
  refine⟨0,?_,Nat.zero_le _⟩
  have:coP (List.replicate ((trimQ p).length+1- (trimQ q).length) (0:Rat)) i=0:=by
   unfold coP;grind
  grind
 have hkl':k'/ l≠0:=fun e=>by grind
 exact⟨(show Ht _ _ from⟨k'/ l,hkl',k2⟩).trim,(show Ht _ _ from⟨k',k1,k3⟩).trim⟩
theorem Ht.of{p:List Rat}{s:Nat}(h:bdL p s):Ht p (s+1+p.length* s):=by
 have hD:denL p 1≠0:=hK_ _ (by decide);have hb:=on_ p 1 h;have hd:=(eD_ p 1).2;rw[jJ_] at hb;refine⟨nQ (denL p 1),fun e=>hD (nQ_zero.1 e),fun i=>?_⟩;by_cases hi:i< p.length;have hm:=List.mem_of_getElem? (a9_ hi);have h1:=gT_ (coP p i) _ (hd _ hm);have h2:=nV_ (coP p i) (denL p 1);have h3:=h _ hm;rw[hO_] at h1;by_cases hn:coP p i* nQ (denL p 1)< 0;refine⟨-(intC (coP p i) (denL p 1):Int),by grind,?_⟩;rw[Int.natAbs_neg,Int.natAbs_natCast];omega;rw[if_neg hn] at h1;exact⟨(intC (coP p i) (denL p 1):Int),h1,by grind⟩;refine⟨0,?_,Nat.zero_le _⟩;rw[co_ (by omega),Rat.zero_mul];rfl
theorem Ht.derive{p:List Rat}{h:Nat}(H:Ht p h):Ht (at_ p) (h+bl p.length):=by
 obtain⟨k,k0,H⟩:=H;refine⟨k,k0,fun i=>?_⟩;rw[bm_];by_cases hi:i+1< p.length;obtain⟨z,z1,z2⟩:=H (i+1);refine⟨z* ((i+1:Nat):Int),by grind,?_⟩;have:=bx_ z2 (show bl (((i+1:Nat):Int)).natAbs≤bl p.length by exact b0_ (by omega));omega;refine⟨0,?_,Nat.zero_le _⟩;rw[co_ (by omega),Rat.zero_mul,Rat.zero_mul];rfl
theorem Ht.quot{p:List Rat}{h:Nat}(H:Ht p h)(i j:Nat)(hj:coP p j≠0)(h1:1≤h):qs (coP p i/ coP p j)≤h:=by
 obtain⟨k,k0,H⟩:=H;obtain⟨z,z1,z2⟩:=H i;obtain⟨w,w1,w2⟩:=H j
 have w0:w≠0:=fun e=>by
  rw[e] at w1;grind
 have e:coP p i/ coP p j=(z:Rat) / (w:Rat):=by grind
 have hpos:0< w.natAbs:=by omega
 by_cases hw:0< w
 have e2:(z:Rat) / (w:Rat)=mkRat z w.natAbs:=by
  rw[eR_];show Rat.divInt (z* ((1:Nat):Int)) (((1:Nat):Int) * w)=_;rw[←Rat.divInt_ofNat];grind
 rw[e,e2];exact c6_ hpos z2 w2
 have e2:(z:Rat) / (w:Rat)=mkRat (-z) w.natAbs:=by
  have e3:(z:Rat) / (w:Rat)=((-z:Int):Rat) / ((-w:Int):Rat):=by grind
  rw[e3,eR_];show Rat.divInt (-z* ((1:Nat):Int)) (((1:Nat):Int) * -w)=_;rw[←Rat.divInt_ofNat];grind
 rw[e,e2];exact c6_ hpos (by grind) w2
theorem Ht.monic{p:List Rat}{h:Nat}(H:Ht p h)(h1:1≤h):bdL (aG_ p) h∧Ht (aG_ p) h:=by
 by_cases h0:nz p;have hm:aG_ p=av_ p (1/ leadP p):=by unfold aG_;rw[if_neg h0]
 have hk:1/ leadP p≠0:=fun e=>by have:=Rat.div_mul_cancel (a:=1) (k9_ h0);grind
 refine⟨dM_ fun i=>?_,H.scale hk fun i=>by rw[hm,a5_]⟩
 have e:coP (aG_ p) i=coP p i/ coP p (dg p):=by
  rw[hm,a5_,(bE_ h0).2,Rat.div_def,Rat.div_def,Rat.one_mul]
 rw[e];exact H.quot i _ (bE_ h0).1.1 h1;have e:aG_ p=[]:=by unfold aG_;rw[if_pos (Decidable.byContradiction h0)]
 rw[e];exact⟨fun q hq=>(by grind),.zero (fun i=>rfl) _⟩
theorem pE_(D d:Nat):∀(l:List Rat) (n:Nat),d∣n→(∀c∈l,d∣intC c D)→d∣numL D l n
 |[],_,h,_=>h
 |c::l,n,h,hc=>pE_ D d l _ (Nat.dvd_gcd h (hc c (List.mem_cons_self ..))) fun x hx=>hc x (List.mem_cons_of_mem _ hx)
theorem Ht.prim{p:List Rat}{h:Nat}(H:Ht p h)(h0:nz p)(h1:1≤h):bdL (primP p) h∧Ht (primP p) h:=by
 obtain⟨c,c0,hc⟩:=fD_ h0;have hcc:∀i,coP (primP p) i=coP p i* (nQ (denL (trimQ p) 1) / nQ (numL (denL (trimQ p) 1) (trimQ p) 0)):=fun i=>by unfold primP;rw[a5_,bg_]
 have hD:denL (trimQ p) 1≠0:=hK_ _ (by decide);have hl:=List.length_pos_iff.2 h0;have hg:=bD_ (l:=p) (n:=(trimQ p).length- 1) (by omega);have hm:=List.mem_of_getElem? hg;have hdv:=(eD_ (trimQ p) 1).2;have hnd:=(gS_ (denL (trimQ p) 1) (trimQ p) 0).2;have hdn:=pE_ (denL (trimQ p) 1);generalize hDe:denL (trimQ p) 1=D at *
 have hN:numL D (trimQ p) 0≠0:=fun e=>by
  have:=hnd _ hm;rw[e] at this;exact la_ (hdv _ hm) hD (bw_ h0) (Nat.eq_zero_of_zero_dvd this)
 have hDq:nQ D≠0:=fun e=>hD (nQ_zero.1 e);have hNq:nQ (numL D (trimQ p) 0)≠0:=fun e=>hN (nQ_zero.1 e)
 refine⟨dM_ fun i=>?_,H.scale (c:=nQ D/ nQ (numL D (trimQ p) 0)) (fun e=>by
  grind) hcc⟩
 obtain⟨k,k0,H⟩:=H
 -- k=D* (m/ n)
 generalize hr:k/ nQ D=r;have hk:k=r* nQ D:=by grind
 have r0:r≠0:=fun e=>by grind
 have rn:r* (nQ r.den)=(r.num:Rat):=by
  have e:(r.num:Rat) / nQ r.den=r:=by
   rw[eR_];simp
  grind
 have co:∀j,j< (trimQ p).length→r.den∣intC (coP p j) D∧∃z:Int,(intC (coP p j) D* r.num.natAbs=z.natAbs* r.den∧bl z.natAbs≤h):=fun j hj=>by
  obtain⟨z,z1,z2⟩:=H j;have hmj:=List.mem_of_getElem? (a9_ hj);rw[bg_] at hmj;have a1:=gT_ (coP p j) D (hdv _ hmj)
  have a2:intC (coP p j) D* r.num.natAbs=z.natAbs* r.den:=by
   have b1:coP p j* nQ D* (r.num:Rat)=(z:Rat) * nQ r.den:=by rw[←z1,hk,←rn];grind
   have b2:∃s:Int,coP p j* nQ D=(s:Rat)∧s.natAbs=intC (coP p j) D:=by
    rw[hO_] at a1;by_cases hn:coP p j* nQ D< 0;rw[if_pos hn] at a1;exact⟨-(intC (coP p j) D:Int),by rw[Rat.intCast_neg];grind,by rw[Int.natAbs_neg,Int.natAbs_natCast]⟩;rw[if_neg hn] at a1;exact⟨(intC (coP p j) D:Int),a1,Int.natAbs_natCast _⟩
   obtain⟨s,s1,s2⟩:=b2;rw[s1] at b1
   have b3:s* r.num=z* (r.den:Int):=by
    have:((s* r.num:Int):Rat)=((z* (r.den:Int):Int):Rat):=by rw[Rat.intCast_mul,Rat.intCast_mul];exact b1
    exact_mod_cast this
   have b4:=congrArg Int.natAbs b3;rw[Int.natAbs_mul,Int.natAbs_mul,s2,Int.natAbs_natCast] at b4;exact b4
  refine⟨?_,z,a2,z2⟩;have hco:Nat.Coprime r.den r.num.natAbs:=Nat.coprime_comm.1 r.reduced;exact hco.dvd_of_dvd_mul_right ⟨z.natAbs,by rw[a2,Nat.mul_comm]⟩
 rw[hcc];by_cases hi:i< (trimQ p).length;obtain⟨z,a2,z2⟩:=(co i hi).2;have hmi:=List.mem_of_getElem? (a9_ hi);rw[bg_] at hmi
 have hdN:r.den∣numL D (trimQ p) 0:=hdn _ _ _ (Nat.dvd_zero _) fun c hcm=>by
  obtain⟨j,hj⟩:=List.mem_iff_getElem?.1 hcm
  have hjl:j< (trimQ p).length:=by
   by_cases h:j< (trimQ p).length;exact h;rw[List.getElem?_eq_none (by omega)] at hj;cases hj
  have e:=a9_ hjl;rw[hj,bg_] at e;cases e;exact(co j hjl).1
 have hNi:=hnd _ hmi;have a1:=gT_ (coP p i) D (hdv _ hmi)
 have small:intC (coP p i) D/ numL D (trimQ p) 0≤z.natAbs:=by
  have q1:r.den≤numL D (trimQ p) 0:=Nat.le_of_dvd (by omega) hdN
  have q2:0< r.num.natAbs:=by
   have:r.num≠0:=fun e=>r0 (Rat.num_eq_zero.1 e);omega
  refine Nat.div_le_of_le_mul ?_
  calc intC (coP p i) D≤intC (coP p i) D* r.num.natAbs:=Nat.le_mul_of_pos_right _ q2
   _=z.natAbs* r.den:=a2
   _≤numL D (trimQ p) 0* z.natAbs:=by rw[Nat.mul_comm];exact Nat.mul_le_mul_right _ q1
 have hb:bl (intC (coP p i) D/ numL D (trimQ p) 0)≤h:=Nat.le_trans (b0_ small) z2
 have e1:absQ (coP p i* (nQ D/ nQ (numL D (trimQ p) 0)))=nQ (intC (coP p i) D/ numL D (trimQ p) 0):=by
  have e2:coP p i* (nQ D/ nQ (numL D (trimQ p) 0))=coP p i* nQ D/ nQ (numL D (trimQ p) 0):=by rw[Rat.div_def,Rat.div_def];grind
  have e3:nQ (intC (coP p i) D) / nQ (numL D (trimQ p) 0)=nQ (intC (coP p i) D/ numL D (trimQ p) 0):=by
   rw[o7_ _ _ hN,mx_ _ _ hN hNi]
  have hpos:(0:Rat)< nQ (numL D (trimQ p) 0):=by
   rw[←num_pos];show 0< ((numL D (trimQ p) 0:Nat):Int);omega
  rw[e2,←e3,←a1,lP_,lP_,Rat.div_def,Rat.div_def,fY_];congr 1;have:(0:Rat)< (nQ (numL D (trimQ p) 0))⁻¹:=Rat.inv_pos.2 hpos;unfold ab;rw[if_neg (by grind)]
 rw[←mk_,e1];exact qs_nQ hb h1;have:coP p i=0:=by rw[←bg_];exact co_ (by omega)
 rw[this,Rat.zero_mul];exact Nat.le_trans (by decide:qs 0≤1) h1
end Go.Abs
