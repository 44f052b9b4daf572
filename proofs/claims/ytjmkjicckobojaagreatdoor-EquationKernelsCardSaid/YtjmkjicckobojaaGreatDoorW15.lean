/- Part W15 of the proof. -/
import Derived.Test.YtjmkjicckobojaaGreatDoorW14
set_option linter.all false
namespace Go.Abs
def hG:Nat->Nat->Nat->Nat->Nat->Nat->Bool
 |0,_,_,_,_,_=>false
 |f+1,m,n,s,t,X=>if n=0 then decide (s<=X) else
  decide (2^ (m+1- n) * (s+2* t+1)<=137438953472) && (List.range n).all λk=>hG f n k t (s+(m+1- n) * (t+1)) X
theorem Am:∀f m n s t X (p q:Lq),hG f m n s t X=true->(ap p).length=m->(ap q).length=n->bdL p s->bdL q t->Ht p s->Ht q t->1<=s->1<=t->p.length<=1000->q.length<=1000->X<=137438953472->
    ∃g,ld f p q=some g/\g.length<=1000/\Ht g X/\bdL g X
 |0,_,_,_,_,_,_,_,h,_,_,_,_,_,_,_,_,_,_,_=>by cases h
 |f+1,m,n,s,t,X,p,q,h,hm,hn,hp,hq,kp,kq,hs,ht,hp1,hq1,hX=>by
  rw[hG] at h;rw[ld];by_cases h0:n=0;rw[if_pos h0] at h;have d:=of_decide_eq_true h;have e:ap q=[]:=List.length_eq_zero_iff.1 ω;rw[if_pos e,if_pos (io hp ω)];obtain⟨a,b⟩:=kp.monic hs;exact⟨_,rfl,Nat.le_trans (mQ p) hp1,b.mono d,λx w=>Nat.le_trans (a x w) d⟩;rw[if_neg h0] at h;simp only[Bool.and_eq_true,decide_eq_true_eq,List.all_eq_true,List.mem_range] at h;obtain⟨z,r⟩:=h;have c:ap q≠[]:=λe=>by grind
  have y:=mxL_le hp hs;have v:=mxL_le hq ht;have k:2^ (m+1- n) * (mxL p+2* mxL q+1)<=2^ (m+1- n) * (s+2* t+1):=Nat.mul_le_mul_left _ ω;rw[if_neg c,if_pos (show wt p q from⟨φ,ω,ω⟩)];have l:=(vh kp kq c).2;rw[hm,hn] at l;obtain⟨b1,b2⟩:=l.monic ω;have o:=(oq (p:=p) (q:=q)).2;have u:=mQ (cu p q).2;have i:(ap (cu p q).2).length< n:=by rw[<-hn];exact(mh p q c).2
  have j:(ap (ce (cu p q).2)).length=(ap (cu p q).2).length:=by
   by_cases hz:ap (cu p q).2=[];unfold ce;rw[if_pos hz,hz];rfl;unfold ce;rw[if_neg hz];exact lV λe=>by have:=Rat.div_mul_cancel (a:=1) (dd hz);grind
  exact Am f n _ t _ X q _ (r _ i) hn j hq b1 kq b2 ht ω hq1 ω hX
def cB:Nat->Nat->Nat->Nat->Nat->Nat->Nat->Bool
 |0,_,_,_,_,_,_=>false
 |f+1,m,n,s,t,b,T=>if n=0 then true else
  decide (t<=T) && decide ((n+4) * b<=34359738368) && decide (2^ (m+1- n) * (s+2* t+1)<=137438953472) &&
   (List.range n).all λk=>cB f n k t (s+(m+1- n) * (t+1)) (2^ (m+1- n) * (s+2* t+1)) T
theorem za:∀k f m n s t b T (last next:Lq) (acc:Lw),cB k m n s t b T=true->(ap last).length=m->(ap next).length=n->next.length=n->bdL last s->Ht last s->Ht next t->bdL next b->1<=s->1<=t->1<=b->last.length<=1000->next.length<=1000->
    ∃out,jy f k last next acc=some out/\out.length<=acc.length+n/\∀q∈out,q∈acc\/(nz q/\q.length<=n/\bdL q T)
 |0,_,_,_,_,_,_,_,_,_,_,h,_,_,_,_,_,_,_,_,_,_,_,_=>by cases h
 |k+1,f,m,n,s,t,b,T,last,next,acc,h,hm,hn,hnl,hl,kl,kn,hnb,hs,ht,hb,hl1,hn1=>by
  rw[cB] at h;rw[jy];by_cases h0:n=0
  ·grind
  rw[if_neg h0] at h;simp only[Bool.and_eq_true,decide_eq_true_eq,List.all_eq_true,List.mem_range] at h;obtain⟨⟨⟨C,N⟩,K⟩,A⟩:=h;have g:ap next≠[]:=λe=>by grind
  obtain⟨p1,p2⟩:=kn.prim g ht;obtain⟨c,L,hc⟩:=oQ g;obtain⟨d1,d2,_⟩:=jQ g (show c≠0 by grind) hc
  have d:(ap (bU next)).length=n:=by
   have M:=List.length_pos_iff.2 d1;have a2:=List.length_pos_iff.2 g;unfold dg at d2;omega
  have u:=mxL_le hnb hb;have E:=mxL_le hl hs;have G:=mxL_le p1 ht
  have z:(bU next).length=n:=by
   unfold bU;unfold bU at d;rw[<-d];unfold aR;rw[b6]
  have v:2^ (m+1- n) * (mxL last+2* mxL (bU next)+1)<=2^ (m+1- n) * (s+2* t+1):=Nat.mul_le_mul_left _ ω;have o:(n+4) * mxL next<=(n+4) * b:=Nat.mul_le_mul_left _ u
  rw[if_neg g,if_pos (show wo next/\wt last (bU next)/\ap (bU next)≠[] from⟨⟨φ,ω⟩,⟨φ,ω,ω⟩,d1⟩)];have y:=(vh kl p2 d1).2;rw[hm,d] at y;have w:=(sf hl p1 hs ht d1 (by rw[hm,d];exact Nat.le_refl _)).2;have j:1<=2^ (m+1- n) * (s+2* t+1):=Nat.mul_pos (Nat.two_pow_pos _) ω;have l:(-1:Rat)≠0:=by decide+kernel
  have p:(ap (aR (cu last (bU next)).2 (-1))).length< n:=by rw[lV l,<-d];exact(mh last _ d1).2
  have r:(aR (cu last (bU next)).2 (-1)).length=(ap (aR (cu last (bU next)).2 (-1))).length:=by unfold aR;rw[b6]
  obtain⟨out,o1,o2,D⟩:=za k f n _ t _ _ T (bU next) (aR (cu last (bU next)).2 (-1)) (acc++[bU next]) (A _ p) d rfl r p1 p2 (y.scale l λi=>cJ _ _ i)
   (fP λi=>by
    rw[cJ,show coP (cu last (bU next)).2 i* -1= -coP (cu last (bU next)).2 i by grind,dJ];exact ej w j i) ht ω j ω ω
  refine⟨out,o1,?_,λq B=>?_⟩;rw[List.length_append,List.length_singleton] at o2;omega;rcases D q B with h|⟨a,J,H⟩
  rcases List.mem_append.1 h with h|h
  exact .inl h;rw[List.mem_singleton.1 h];exact .inr ⟨d1,ω,λx F=>Nat.le_trans (p1 x F) C⟩;grind
theorem lG(p:Lq)(k:Rat):ap (aR p k)=aR p k:=b6 _
theorem jC(p:Lq):ap (ce p)=ce p:=by
 unfold ce;split;rfl;exact b6 _
theorem o9{p:Lq}(h:nz p):(aV p).length< (ap p).length:=by
 have c:=List.length_pos_iff.2 h
 have e:aV p=aV (ap p):=by
  have b:ap (aV p)=aV p:=b6 _;have a:ap (aV (ap p))=aV (ap p):=b6 _;rw[<-b,<-a];exact nG λi=>by rw[fa,fa,cj]
 have:=iz (ap p);grind
theorem tS{p:Lq}{s g:Nat}(hl:(ap p).length<=7)(hb:bdL p s)(hs:1<=s)(hH:Ht p g):bdL (aV p) (s+4)/\Ht (aV p) (g+4):=by
 have e:∀i,coP (aV p) i=coP (aV (ap p)) i:=λi=>by rw[fa,fa,cj]
 constructor;refine fP λi=>?_;rw[fa];by_cases hi:i+1< (ap p).length;have a:=cx (coP p (i+1)) (nQ (i+1));have b:=lj (n:=i+1) (k:=3) (gY ω) δ;have d:=ej hb hs (i+1);exact Nat.le_trans a ω;rw[<-cj,ee (show(ap p).length<=i+1 by omega),Rat.zero_mul];exact Nat.le_trans (by decide:qs 0<=1) ω;refine((hH.trim).derive.scale (c:=1) (r:=aV p) φ λi=>φ).mono ?_;have:bl (ap p).length<=3:=gY ω;omega
def gsz:Nat->Lq->Lq->Nat->Prop
 |0,_,_,_=>False
 |f+1,p,q,B=>bdL p B/\(nz q->bdL q B/\gsz f q (ce (cu p q).2) B)
theorem hG_top{f m n s t X:Nat}(h:hG f m n s t X=true)(h0:n≠0):t<=X:=by
 cases f with
 |zero=>cases h
 |succ f=>
  rw[hG,if_neg h0] at h;simp only[Bool.and_eq_true,List.all_eq_true,List.mem_range] at h;have:=h.2 0 ω;cases f with
  |zero=>cases this
  |succ f=>
   rw[hG] at this;grind
theorem Gu:∀f m n s t X (p q:Lq),hG f m n s t X=true->(ap p).length=m->(ap q).length=n->bdL p s->bdL q t->Ht p s->Ht q t->1<=s->1<=t->s<=X->gsz f p q X
 |0,_,_,_,_,_,_,_,h,_,_,_,_,_,_,_,_,_=>by cases h
 |f+1,m,n,s,t,X,p,q,h,hm,hn,hp,hq,kp,kq,hs,ht,hX=>by
  have d:=hG_top h;rw[hG] at h;refine⟨λx j=>Nat.le_trans (hp x j) hX,λb=>?_⟩;have l:n≠0:=by have:=List.length_pos_iff.2 b;omega
  have c:=d l;rw[if_neg l] at h;simp only[Bool.and_eq_true,List.all_eq_true,List.mem_range] at h;obtain⟨r,o⟩:=h;have k:=(vh kp kq b).2;rw[hm,hn] at k;obtain⟨b1,b2⟩:=k.monic ω;have g:(ap (cu p q).2).length< n:=by rw[<-hn];exact(mh p q b).2
  have i:(ap (ce (cu p q).2)).length=(ap (cu p q).2).length:=by
   by_cases hz:ap (cu p q).2=[];unfold ce;rw[hz];rfl;unfold ce;rw[if_neg hz];exact lV λe=>by have:=Rat.div_mul_cancel (a:=1) (dd hz);grind
  exact⟨λx j=>Nat.le_trans (hq x j) c,Gu f n _ t _ X q _ (o _ g) hn i hq b1 kq b2 ht ω c⟩
theorem pD{p q:Lq}{k l:Rat}(h:∀i,coP p i* k=coP q i* l):aR p k=aR q l:=by
 have a:=lG p k;have b:=lG q l;rw[<-a,<-b];exact nG λi=>by rw[cJ,cJ,h]
theorem uy(p:Lq):ce (ap p)=ce p:=by
 unfold ce;rw[b6,pN];split;rfl;exact pD λi=>by rw[cj]
def qv:Lq->Nat->Nat
 |[],k=>k
 |c::l,k=>qv l (k* c.den)
theorem CL:∀(l:Lq) (d k:Nat),d∣k->gM l d∣qv l k
 |[],_,_,h=>h
 |c::l,d,k,h=>CL l _ _ (Nat.lcm_dvd (Nat.dvd_trans h (Nat.dvd_mul_right _ _)) (Nat.dvd_mul_left _ _))
theorem AW:∀(l:Lq) {k:Nat},k≠0->qv l k≠0
 |[],_,h=>h
 |c::l,_,h=>AW l (Nat.mul_ne_zero h c.den_nz)
theorem GR{s:Nat}:∀(l:Lq) (k:Nat),bdL l s->bl (qv l k)<=bl k+l.length* s
 |[],k,_=>by simp[qv]
 |c::l,k,h=>by
  have e:=GR l (k* c.den) λq a=>h q (List.mem_cons_of_mem _ a);have b:=im k c.den;have f:=dr c;have d:=h c (List.mem_cons_self ..);rw[qv,List.length_cons,Nat.succ_mul];omega
def Al:Lq->Nat->Nat
 |[],g=>g
 |c::l,g=>Al l (Nat.gcd g (eH c).num.natAbs)
theorem Gt{D m:Nat}(hm:m≠0):∀(l:Lq) (n:Nat),(∀c∈l,c.den∣D)->Al (l.map λc=>c* nQ (D* m)) (n* m)=iO D l n* m
 |[],n,_=>rfl
 |c::l,n,h=>by
  have hc:=h c (List.mem_cons_self ..);have e:=nZ c (D* m) (Nat.dvd_trans hc (Nat.dvd_mul_right _ _))
  have d:gT c (D* m)=gT c D* m:=by
   obtain⟨k,b⟩:=hc;have a:0< c.den:=c.den_pos;have e1:D* m/ c.den=k* m:=by rw[b,Nat.mul_assoc,Nat.mul_div_cancel_left _ a]
   have e2:D/ c.den=k:=by simp_all
   unfold gT;grind
  rw[List.map_cons,Al,e,d];show Al _ (Nat.gcd (n* m) ((gT c D* m:Nat):Int).natAbs)=_;rw[Int.natAbs_natCast,Nat.gcd_mul_right];exact Gt hm l _ λx f=>h x (List.mem_cons_of_mem _ f)
theorem FB(p:Lq)(k:Rat):aN p.length (λi=>coP p i* k)=p.map λc=>c* k:=by
 apply List.ext_getElem?;intro i;unfold aN;rw[List.getElem?_map,List.getElem?_map];by_cases hi:i< p.length;rw[List.getElem?_range hi,ci hi];rfl;grind
theorem Hw{p:Lq}{k:Rat}(hp:ap p=p)(hk:k≠0):aR p k=p.map λc=>c* k:=by
 unfold aR;rw[FB];have a:=lV (p:=p) hk;unfold aR at a;rw[FB,b6] at a;have b:=oF (p.map λc=>c* k);grind
theorem Ju{p:Lq}(h:nz p):aR (aR (ap p) (nQ (qv (ap p) 1))) (1/ nQ (Al (aR (ap p) (nQ (qv (ap p) 1))) 0))=bU p/\Al (aR (ap p) (nQ (qv (ap p) 1))) 0≠0:=by
 have j:gM (ap p) 1≠0:=pa _ δ;have b:qv (ap p) 1≠0:=AW _ δ;obtain⟨m,o⟩:=CL (ap p) 1 1 (Nat.dvd_refl 1);have a:m≠0:=λe=>b φ;have g:=Gt a (ap p) 0 (jS (ap p) 1).2
 have k:iO (gM (ap p) 1) (ap p) 0≠0:=by
  intro e;have s:=(nY (gM (ap p) 1) (ap p) 0).2;have r:=(jS (ap p) 1).2;have u:=List.length_pos_iff.2 h;have g:=dj (l:=p) (n:=(ap p).length- 1) ω;have f:=List.mem_of_getElem? g;have q:=s _ f;rw[e] at q;exact u5 (r _ f) j (dd h) (Nat.eq_zero_of_zero_dvd q)
 have d:aR (ap p) (nQ (qv (ap p) 1))=(ap p).map λc=>c* nQ (qv (ap p) 1):=Hw (b6 p) (λe=>b (nQ_zero.1 e));rw[Nat.zero_mul,<-o,<-d] at g;refine⟨?_,by rw[g];exact Nat.mul_ne_zero k a⟩;rw[g];refine pD λi=>?_;rw[cJ,o];have t:nQ m≠0:=λe=>a (nQ_zero.1 e);grind
section
variable {x y:Rat}{u:Lq}{L:Lw}
def chi(s t:Int):Int:=if s≠0/\t≠s then 1 else 0
theorem chi_nn(s t:Int):0<=chi s t:=by unfold chi;grind
theorem CX(s:Int):chi s s=0:=by unfold chi;grind
theorem CZ{s t:Int}{l:List Int}(ht:t=1\/t= -1)(hs: -1<=s/\s<=1):chL (s::t::l) 0 0=(if s= -t then 1 else 0)+chL l 0 t:=by
 have a:t≠0:=ω
 by_cases h0:s=0;subst h0;rw[chL,if_neg ψ,chL,if_pos a,if_neg ω];omega;rw[chL,if_pos h0,chL,sr];grind
def Sq(u:Lq)(L:Lw):Prop:=Ch u L/\∀v M,L=v::M->∃k:Rat,0< k/\∀x,an v x=k* dvE u x
theorem Fj{c:Rat}(h:c<=ab x):c<=x\/x<= -c:=by unfold ab at h;grind
theorem LJ{c:Rat}(h:c<=x\/x<= -c)(hc:0<=c):c<=ab x:=by unfold ab;grind
theorem yF{k a b:Rat}(hk:0< k)(h:k* a<=k* b):a<=b:=by
 by_cases h':a<=b;exact h';have:=Rat.mul_pos hk (show 0< a- b by grind);grind
theorem Sq.tiny(H:Sq u L){R:Rat}(hR:0<=R):∃h e ρ:Rat,0< h/\0< e/\0< ρ/\∀z w:Rat,ab z<=R->ab w<=R->z<=w->w- z<=h->
    chV (u::L) z- chV (u::L) w=chi (sgE z u) (sgE w u)/\((e<=ab (an u z)/\e<=ab (an u w))\/∃s:Rat,(s=1\/s= -1)/\0< s* dvE u z/\0< s* dvE u w/\ρ* (w- z)<=s* (an u w- an u z)):=by
 obtain⟨H,hv⟩:=H;cases L with
 |nil=>
  obtain⟨c,c0,hc⟩:=H.const;have hp:0< ab c:=by unfold ab;grind
  refine⟨1,ab c,1,φ,hp,φ,λz w _ _ _ _=>⟨?_,.inl ⟨φ,φ⟩⟩⟩;rw[vm,vm,(H.sg z w).1,CX];rfl
 |cons v L=>
 obtain⟨k,M,D⟩:=hv v L rfl;obtain⟨a,b,hb⟩:=H.bez v L rfl;have Z:=sG hR a;have hB:=sG hR b;obtain⟨e,F,U⟩:=part 1 (d:=2* (bV R a+bV R b+1)) (by decide+kernel) φ;obtain⟨h1,p1,k1⟩:=H.cl.1 R e hR F;obtain⟨h2,p2,V⟩:=H.cl.2 v L rfl R e hR F;have Y:=G7 hR u;have hL:=Da hR u;obtain⟨ρ,Q,eρ⟩:=part e (d:=2* k) F φ;obtain⟨K,S,e3⟩:=part ρ (d:=bT R u+1) Q φ;obtain⟨N,W,e5⟩:=part (e/ 2) (d:=bL R u+1) φ φ;obtain⟨h4,X,l4,m4⟩:=less h1 h2 p1 p2;obtain⟨h6,p6,l6,m6⟩:=less K N S W;obtain⟨h,p,l,m⟩:=less h4 h6 X p6;refine⟨h,e/ 2,ρ,p,φ,Q,λz w n B g2 g4=>?_⟩;have o:ab (w- z)=w- z:=by unfold ab;rw[if_neg φ]
 by_cases hu:e<=ab (an u z);obtain⟨s1,s2,C⟩:=k1 z w n B φ hu;refine⟨?_,.inl ⟨φ,?_⟩⟩;rw[s1,CX]
 have:chV (u::v::L) z=chV (u::v::L) w:=by
  unfold chV;simp only[List.map_cons] at C⊢;rw[s1];exact xw s2 C
 omega;have q1:=o6 hR n B u;have q2:=Rat.mul_le_mul_of_nonneg_left (show w- z<=N by grind) hL;have q3:ab (an u w- an u z)<=e/ 2:=by rw[o] at q1;grind
 have q4:=ab_le.1 q3;rcases Fj hu with q|q
 exact LJ (.inl φ) φ;exact LJ (.inr φ) φ
 have hv:e<=ab (an v z):=by
  by_cases hv:e<=ab (an v z);exact hv;have n1:=gP (jP hR n a) (show ab (an u z)<=e by grind) (gG _) Z;have n2:=gP (jP hR n b) (show ab (an v z)<=e by grind) (gG _) hB;have n3:=uh (an a z* an u z) (an b z* an v z);rw[hb z,gu,gu,show ab 1=1 by decide+kernel] at n3;grind
 obtain⟨s1,s2,C⟩:=V z w n B φ hv;have i:=tK hR n B u;rw[o] at i;have ht2:=ab_le.1 i;have f:0<=w- z:=φ
 have E:bT R u* ((w- z) * (w- z))<=ρ* (w- z):=by
  have q1:=Rat.mul_le_mul_of_nonneg_left (show w- z<=K by grind) Y;have q2:bT R u* (w- z)<=ρ:=φ
  have q3:=Rat.mul_le_mul_of_nonneg_right q2 f;grind
 have g:∀t:Int,(t=1\/t= -1)->sgE z v=t->chV (u::v::L) z- chV (u::v::L) w=(if sgE z u= -t then 1 else 0)- (if sgE w u= -t then 1 else 0):=λt G e=>by
  have O:=C;rw[e] at O;unfold chV;simp only[List.map_cons];rw[s1,e,CZ G (jh z u),CZ G (jh w u),xy O ω];omega
 have bz:=jh z u;have bw:=jh w u;rcases dV z v with⟨r,J⟩|⟨r,J⟩|⟨r,J⟩
 have c3:e<=an v z:=by rcases Fj hv with q|q <;> grind
 have d1:2* ρ<=dvE u z:=yF M (by rw[<-D];grind);have c4:=Rat.mul_le_mul_of_nonneg_left d1 f;have up:ρ* (w- z)<=an u w- an u z:=φ
 have nn:=Rat.mul_nonneg (show 0<=ρ by grind) f;have T:=qM (q:=u) (x:=z) (y:=w) φ;refine⟨?_,.inr ⟨1,.inl rfl,φ,?_,φ⟩⟩;rw[g 1 (.inl rfl) r];unfold chi;split <;> split <;> split <;> omega;rcases dV w v with⟨A,j⟩|⟨A,j⟩|⟨A,j⟩
 rw[D] at j;by_cases f3:0< dvE u w;grind;have:=Rat.mul_nonneg (show 0<=k by grind) (show 0<= -dvE u w by grind);grind;omega;omega;have c3:an v z<= -e:=by rcases Fj hv with q|q <;> grind
 have d1:2* ρ<= -dvE u z:=yF M (by have:=D z;grind);have c4:=Rat.mul_le_mul_of_nonneg_left d1 f;have up:ρ* (w- z)<=an u z- an u w:=φ
 have nn:=Rat.mul_nonneg (show 0<=ρ by grind) f;have T:=qM (q:=u) (x:=w) (y:=z) φ;refine⟨?_,.inr ⟨-1,.inr rfl,φ,?_,φ⟩⟩;rw[g (-1) (.inr rfl) r];unfold chi;split <;> split <;> split <;> omega;rcases dV w v with⟨A,j⟩|⟨A,j⟩|⟨A,j⟩
 omega;rw[D] at j;by_cases f3:0< -dvE u w;grind;have:=Rat.mul_nonneg (show 0<=k by grind) (show 0<=dvE u w by grind);grind;omega;exact absurd r s2
theorem Fh(x y:Rat):0<=ab x+ab y:=by have:=gG x;have:=gG y;grind
theorem Sq.mono(H:Sq u L)(hxy:x<=y):chV (u::L) y<=chV (u::L) x:=by
 obtain⟨h,e,ρ,d,_,_,g⟩:=H.tiny (Fh x y);refine way (f:=chV (u::L)) (λs t=>t<=s) (λ_=>Int.le_refl _) (λ_ _ _ b a=>Int.le_trans a b) d hxy λz w b a i c=>?_;have:=(g z w (uI b φ) (uI φ i) a c).1;have:=chi_nn (sgE z u) (sgE w u);omega
theorem Sq.away(H:Sq u L)(hxy:x<=y)(hx:an u x≠0)(hV:chV (u::L) x=chV (u::L) y):
    ∃e:Rat,0< e/\∀z,x<=z->z<=y->e<=ab (an u z)/\sgE z u=sgE x u:=by
 obtain⟨h,e,ρ,J,Y,U,o⟩:=H.tiny (Fh x y)
 have X:sgE x u≠0:=λg=>by
  rcases dV x u with⟨a,_⟩|⟨a,_⟩|⟨_,a⟩
  omega;omega;exact hx a
 have d:∀z,x<=z->z<=y->ab z<=ab x+ab y:=λz a b=>uI a b
 have c:∀z,x<=z->z<=y->sgE z u=sgE x u:=λz a b=>by
  refine way (f:=λz=>sgE z u) (λs t=>s≠0->t=s) (λ_ _=>rfl) (λ_ _ _ l n m=>by rw[n (by rw[l m];exact m),l m]) J a (λp q l n m W T=>?_) X;have t1:=(o p q (d _ l φ) (d _ φ φ) n W).1;have m1:=H.mono l;have m2:=H.mono n;have m3:=H.mono m;have m4:=H.mono b;unfold chi at t1;by_cases g:sgE q u=sgE p u;exact g;rw[if_pos ⟨T,g⟩] at t1;omega
 have hy:an u y≠0:=λg=>by
  have:=c y hxy φ;rw[vS g] at this;omega
 have M:0< ab (an u x):=by unfold ab;split <;> grind
 have N:0< ab (an u y):=by unfold ab;split <;> grind
 obtain⟨e1,V,a2,a3⟩:=less e (ρ* h) Y (Rat.mul_pos U J);obtain⟨e2,b1,b2,C⟩:=less (ab (an u x)) (ab (an u y)) M N;obtain⟨e3,R,c2,c3⟩:=less e1 e2 V b1;refine⟨e3,R,λz j z2=>⟨?_,c z j z2⟩⟩;by_cases big:e<=ab (an u z);grind
 obtain⟨w,Z,K,O,F⟩:∃w,z<=w/\w<=y/\w- z<=h/\(w=y\/w- z=h):=by
  by_cases g:z+h<=y;exact⟨z+h,φ,g,φ,.inr φ⟩;exact⟨y,z2,φ,φ,.inl rfl⟩
 obtain⟨v,v1,v2,v3,v4⟩:∃v,x<=v/\v<=z/\z- v<=h/\(v=x\/z- v=h):=by
  by_cases g:x<=z- h;exact⟨z- h,g,φ,φ,.inr φ⟩;exact⟨x,φ,j,φ,.inl rfl⟩
 rcases(o z w (d _ j z2) (d _ φ K) Z O).2 with⟨q,_⟩|⟨s,s1,s2,_,s3⟩
 exact absurd q big;rcases(o v z (d _ v1 φ) (d _ j z2) v2 v3).2 with⟨_,q⟩|⟨t,t1,_,t2,t3⟩
 exact absurd q big;have r:s=t:=by rcases s1 with rfl|rfl <;> rcases t1 with rfl|rfl <;> grind
 subst r;have sw:=c w φ K;have sv:=c v v1 φ;have sz:=c z j z2;have n1:=Rat.mul_nonneg (show 0<=ρ by grind) (show 0<=w- z by grind);have n2:=Rat.mul_nonneg (show 0<=ρ by grind) (show 0<=z- v by grind);have E:w=y->an u w=an u y:=λg=>by rw[g]
 have G:v=x->an u v=an u x:=λg=>by rw[g]
 have D:w- z=h->ρ* (w- z)=ρ* h:=λg=>by rw[g]
 have gv:z- v=h->ρ* (z- v)=ρ* h:=λg=>by rw[g]
 refine LJ ?_ φ;have k:∀q:Rat,0< q->ab q=q:=λq g=>by unfold ab;rw[if_neg φ]
 have i:∀q:Rat,q< 0->ab q= -q:=λq g=>by unfold ab;rw[if_pos g]
 rcases dV z u with⟨a,b⟩|⟨a,b⟩|⟨a,b⟩
 have A:0< an u w:=by rcases dV w u with⟨_,g⟩|⟨g,_⟩|⟨g,_⟩<;> first|exact g|omega
 have B:0< an u v:=by rcases dV v u with⟨_,g⟩|⟨g,_⟩|⟨g,_⟩<;> first|exact g|omega
 have Q:=k _ A;have S:=k _ B;left;rcases s1 with rfl|rfl
 rcases v4 with g|g
 rw[<-G g] at b2;grind;have:=gv g;grind;rcases F with g|g
 rw[<-E g] at C;grind;have:=D g;grind;have A:an u w< 0:=by rcases dV w u with⟨g,_⟩|⟨_,g⟩|⟨g,_⟩<;> first|exact g|omega
 have B:an u v< 0:=by rcases dV v u with⟨g,_⟩|⟨_,g⟩|⟨g,_⟩<;> first|exact g|omega
 have Q:=i _ A;have S:=i _ B;right;rcases s1 with rfl|rfl
 rcases F with g|g
 rw[<-E g] at C;grind;have:=D g;grind;rcases v4 with g|g
 rw[<-G g] at b2;grind;have:=gv g;grind;omega
theorem Sq.calm(H:Sq u L){e:Rat}(he:0< e)(hxy:x<=y)(ha:∀z,x<=z->z<=y->e<=ab (an u z)):chV (u::L) x=chV (u::L) y:=H.1.same he hxy ha
end
theorem root_dv{g:Lq}{a:Rat}(h:an g a=0):∃w:Lq,∀x,an g x=an w x* an [-a,1] x:=by
 have b:nz [-a,1]:=by
  intro e;have:=trim_nil_iff.1 e 1;rw[du,dC] at this;grind
 have d:dg [-a,1]=1:=(nX (n:=1) ⟨by rw[du,dC];grind,λi l=>by
  obtain⟨j,rfl⟩:∃j,i=j+2:=⟨i- 2,ω⟩;rfl⟩).2.1
 obtain⟨m1,m2⟩:=iP g b
 have k:∀x,an (md g [-a,1]) x=0:=by
  by_cases hn:nz (md g [-a,1]);obtain⟨c,f,hc⟩:=wl hn φ;have:=m1 a;rw[nf] at this;exact absurd φ f;exact jm hn
 exact⟨(cu g [-a,1]).1,λx=>by grind⟩
theorem Je{p s g:Lq}(hp:nz p)(h1:∀x,an p x=an s x* an g x)(h2:Dv g (aV p)){a:Rat}(ha:an p a=0):an s a=0:=by
 by_cases hs:an s a=0;exact hs;exfalso;obtain⟨F,D⟩:=iv h1 hp;obtain⟨v,hv⟩:=h2
 have c:nz [-a,1]:=by
  intro e;have:=trim_nil_iff.1 e 1;rw[du,dC] at this;grind
 have d:dg [-a,1]=1:=(nX (n:=1) ⟨by rw[du,dC];grind,λi E=>by
  obtain⟨j,rfl⟩:∃j,i=j+2:=⟨i- 2,ω⟩;rfl⟩).2.1
 have o:an [-a,1] a=0:=by rw[nf];grind
 have l:∀x,dvE [-a,1] x=1:=λx=>by
  rw[eX,eX,aO,aZ,show dvE [] x=0 from rfl];grind
 have f:∀k,∃w:Lq,∀x,an g x=an w x* an (pw [-a,1] k) x:=by
  intro k
  induction k with
  |zero=>exact⟨g,λx=>by rw[pw,aO,aZ];grind⟩
  |succ k m=>
   obtain⟨w,b⟩:=m
   have h:an w a=0:=by
    cases k with
    |zero=>
     have e:=b a;rw[pw,aO,aZ] at e;grind
    |succ k=>
     obtain⟨W,t⟩:∃W,W=aT s w:=⟨_,rfl⟩;have q1:∀x,an p x=an W x* an (pw [-a,1] (k+1)) x:=λx=>by rw[h1,b,t,a8];grind
     have q2:∀x,an (aV p) x=dvE W x* an (pw [-a,1] (k+1)) x+an W x* dvE (pw [-a,1] (k+1)) x:=λx=>by
      rw[df,se (q:=aT W (pw [-a,1] (k+1))) (λx=>by rw[q1,a8]) x,o7]
     obtain⟨Z,y⟩:∃Z,Z=dQ (aR W (((k+1:Nat):Int):Rat)) (aT (dQ (aT v w) (AU W)) [-a,1]):=⟨_,rfl⟩
     have q3:∀x,an Z x* an (pw [-a,1] k) x=0:=λx=>by
      have e1:=q2 x;have e2:=pw_dv [-a,1] k x;have C:an (pw [-a,1] (k+1)) x=an (pw [-a,1] k) x* an [-a,1] x:=a8 _ _ _;rw[hv,b,e2,l,C] at e1;rw[y,cP,bH,a8,cP,a8,ng];grind
     have q4:¬nz Z:=λA=>by
      have:=(dg_mul' A (Jq c k).1 (r:=[]) (λx=>by rw[q3,aZ])).1;exact this rfl
     have q5:=jm q4 a;rw[y,cP,bH,a8,o,t,a8] at q5;have q6:an s a* an w a* (((k+1:Nat):Int):Rat)=0:=φ
     rcases Rat.mul_eq_zero.1 q6 with e|e
     exact(Rat.mul_eq_zero.1 e).resolve_left hs;have:((k+1:Nat):Int)=0:=by exact_mod_cast e
     omega
   obtain⟨u,B⟩:=root_dv h;exact⟨u,λx=>by rw[b,B,pw,a8];grind⟩
 obtain⟨w,b⟩:=f (dg g+1);obtain⟨m1,m2⟩:=iv b D;have z:=(dg_mul' m1 m2 b).2.1;rw[(Jq c _).2,d] at z;omega
theorem Hr{f:Nat}{p s:Lq}(h:lT f p=some s)(hp:nz p)(a:Rat):an s a=0↔an p a=0:=by
 unfold lT at h;split at h;cases hg:ld f p (aV p) with
 |none=>grind
 |some g=>
  rw[hg,Option.bind_some] at h;split at h;cases h;obtain⟨d,j,i,q,b,t⟩:=me f _ _ _ hg (.inl hp);obtain⟨m1,m2⟩:=iP p d;obtain⟨u,l⟩:=j;have n:=oV (u:=u) (v:=[]) d (λx=>by rw[l x,aZ];grind) (λe=>absurd rfl e)
  have hs:∀x,an p x=an (cu p g).1 x* an g x:=λx=>by
   have:=m1 x;rw[n x,aZ] at this;grind
  obtain⟨k,r,o,m⟩:=oU (cu p g).1;have c:k≠0:=λe=>by grind
  rw[m];constructor;intro e;rcases Rat.mul_eq_zero.1 e with e|e
  grind;exact absurd e c;intro e;rw[Je hp hs i e];grind;cases h
 cases h
theorem Li{lead:Rat}{s:Nat}(hl:qs lead<=s):∀(l:Lq) (m:Rat),bdL l s->qs m<=2* s+1->qs (boL lead l m)<=2* s+1
 |[],m,_,h=>h
 |c::l,m,hb,h=>by
  refine Li hl l _ (λq b=>hb q (List.mem_cons_of_mem _ b)) (Af (λx a=>?_) (Nat.le_add_left 1 _));have e:=hb c (List.mem_cons_self ..);have d:=fL c lead;rcases List.mem_cons.1 a with rfl|a
  exact h;rw[List.mem_singleton.1 a,we];omega
theorem xE{p:Lq}{s:Nat}(h:bdL p s)(hs:1<=s):qs (a7 p)<=2* s+3:=by
 have c:=Li (rp h hs) ((ap p).take ((ap p).length- 1)) 0 (λq a=>h q (cz (List.mem_of_mem_take a))) (Nat.le_trans (by decide:qs 0<=1) (Nat.le_add_left 1 _));have b:=e9 (boL (aI p) ((ap p).take ((ap p).length- 1)) 0) 1;have d:=ta;unfold a7;omega
section
variable {x y:Rat}{p:Lq}
def Far(p:Lq)(x y:Rat):Prop:=∃e:Rat,0< e/\∀z,x<=z->z<=y->e<=ab (an p z)
theorem Be(h:x≠0):0< ab x:=by unfold ab;grind
theorem ab_zero:ab 0=0:=by decide+kernel
theorem Far.ne{z:Rat}(h:Far p x y)(h1:x<=z)(h2:z<=y):an p z≠0:=λg=>by
 obtain⟨e,b,a⟩:=h;have:=a z h1 h2;rw[g,ab_zero] at this;grind
theorem Far.dv{d:Lq}(h:Far p x y)(hd:Dv d p):Far d x y:=by
 obtain⟨e,k,j⟩:=h;obtain⟨w,i⟩:=hd;have f:=Fh x y;have m:=sG f w;obtain⟨c,l,q⟩:=part e (d:=bV (ab x+ab y) w+1) k φ;refine⟨c,l,λz a b=>?_⟩;by_cases g:c<=ab (an d z);exact g;have n:=j z a b;rw[i,gu] at n;have o:=gP (jP f (uI a b) w) (show ab (an d z)<=c by grind) (gG _) m;grind
theorem Far.mul{q r:Lq}(hp:Far p x y)(hq:Far q x y)(h:∀z,an r z=an p z* an q z):Far r x y:=by
 obtain⟨e,d,c⟩:=hp;obtain⟨g,f,hG⟩:=hq;refine⟨e* g,Rat.mul_pos d f,λz a b=>?_⟩;rw[h,gu];exact gP (c z a b) (hG z a b) φ (gG _)
theorem Far.const{c:Rat}(hc:c≠0)(h:∀z,an p z=c):Far p x y:=⟨ab c,Be hc,λz _ _=>by grind⟩
theorem Far.k{p r:Lq}{k x y:Rat}(hk:k≠0)(h:∀z,an r z=an p z* k)(hp:Far p x y):Far r x y:=
 hp.mul (Far.const (p:=[k]) hk λz=>by rw[aO,aZ];grind) λz=>by rw[aO,aZ];grind
def SF(p s:Lq):Prop:=∃g t a b:Lq,nz g/\(∀x,an p x=an s x* an g x)/\(∀x,dvE p x=an t x* an g x)/\∀x,an g x=an a x* an p x+an b x* dvE p x
theorem SF.ex(hp:nz p):∃s,SF p s:=by
 obtain⟨g,a,b,c,⟨s,hs⟩,⟨t,d⟩,e⟩:=bez _ p (aV p) rfl (.inl hp);exact⟨s,g,t,a,b,c,hs,λx=>by rw[<-df,d],λx=>by rw[e,df]⟩
theorem G1{g u v:Lq}(hg:nz g)(h:∀x,an g x* an u x=an g x* an v x)(x:Rat):an u x=an v x:=by
 have hs:∀x,an g x* an (dQ u v) x=0:=λx=>by rw[cP];grind
 have n:¬nz (dQ u v):=λe=>by
  have:=(dg_mul' (r:=[]) hg e λx=>by rw[hs,aZ]).1;exact this rfl
 have:=jm n x;rw[cP] at this;grind
theorem KS{s g:Lq}(h:∀x,an p x=an s x* an g x)(x:Rat):dvE p x=dvE s x* an g x+an s x* dvE g x:=by
 rw[<-o7];exact se (λx=>by rw[h,a8]) x
theorem SF.far:∀(n:Nat) (p s:Lq),dg p<=n->nz p->SF p s->∀x y,Far s x y->Far p x y
 |n,p,s,hn,hp,⟨g,t,a,b,g0,h1,h2,h3⟩,x,y,hf=>by
  have q:Dv g p:=⟨s,h1⟩;by_cases hd:dg g=0;obtain⟨c,u,hc⟩:=wl g0 hd;exact hf.mul (Far.const u hc) h1;have h:dg p≠0:=λe=>by have:=q.dg hp;omega
  obtain⟨z,pl⟩:=tT h hp;have gl:dg g<=dg (aV p):=Dv.dg (p:=aV p) ⟨t,λx=>by rw[df,h2]⟩ z;cases n with
  |zero=>omega
  |succ n=>
  obtain⟨d,l⟩:=SF.ex g0;have f:=l;obtain⟨j,e,k,b1,i,m,A,r⟩:=f
  have one:∀x,an (fR (aT k d) (aT b1 e)) x=an [1] x:=G1 i λx=>by
   have:=r x;rw[m,A] at this;rw[fq,a8,a8,aO,aZ];grind
  have two:∀x,an (aT s e) x=an (aT (dQ t (aV s)) d) x:=G1 i λx=>by
   have C:=h2 x;have E:=KS h1 x;have B:an g x* (an s x* an e x- (an t x- dvE s x) * an d x)=0:=φ
   have D:an j x* (an s x* an e x)=an j x* ((an t x- dvE s x) * an d x):=φ
   rw[a8,a8,cP,df];grind
  have v:Dv d s:=⟨fR (aT k s) (aT b1 (dQ t (aV s))),λx=>by
   have o:=one x;have w:=two x;rw[fq,a8,a8,aO,aZ] at o;rw[a8,a8] at w;rw[fq,a8,a8];grind⟩
  exact hf.mul (SF.far n g d ω g0 l x y (hf.dv v)) h1
theorem Iq{f:Nat}{c:Cnt}(h:dM f p=some c)(hp:nz p):SF p c.p/\Dv c.p p/\∃(L:Lw) (k:Rat),c.ch=bU c.p::L/\0< k/\(∀x,an (bU c.p) x=an c.p x* k)/\Sq (bU c.p) L:=by
 obtain⟨D,i,n,_,_,_⟩:=eE h hp;have B:=h;have l:=sP i hp
 have r:SF p c.p/\Dv c.p p:=by
  unfold lT at i;split at i;cases hg:ld f p (aV p) with
  |none=>grind
  |some g=>
   rw[hg,Option.bind_some] at i;split at i;have q:=Option.some.inj i;obtain⟨z,O,⟨t,G⟩,a,b,S⟩:=me f _ _ _ hg (.inl hp);obtain⟨m1,m2⟩:=iP p z;obtain⟨u,Q⟩:=O;have R:=oV (u:=u) (v:=[]) z (λx=>by rw[Q x,aZ];grind) (λe=>absurd rfl e)
   have hs:∀x,an p x=an (cu p g).1 x* an g x:=λx=>by
    have:=m1 x;rw[R x,aZ] at this;grind
   obtain⟨k,o,s,m⟩:=oU (cu p g).1;rw[q] at m;have e1:∀x,an p x=an c.p x* an (aR g o) x:=λx=>by rw[hs,m,bH];grind
   have y:o≠0:=λe=>by grind
   refine⟨⟨aR g o,aR t k,aR a o,aR b o,(jQ z y (bH g o)).1,e1,λx=>?_,λx=>?_⟩,aR g o,λx=>by grind⟩;rw[bH,bH,<-df,G];grind;rw[bH,bH,bH,S,df];grind;grind
  grind
 refine⟨r.1,r.2,?_⟩;unfold kJ at n;split at n;obtain⟨L,e,J⟩:=lE _ _ _ _ _ _ n;obtain⟨k,C,s⟩:=oQ D;have j:k≠0:=φ
 have A:nz (bU c.p):=(jQ D j s).1;have E:k* (1/ k)=1:=φ
 have w:0< 1/ k:=by
  obtain⟨m,m0,m1⟩:=part 1 (d:=k) (by decide+kernel) C;rw[<-m1,Rat.mul_div_cancel j];exact m0
 obtain⟨K,N⟩:=J.ch A λd d0 d1 d2=>l.2 d d0 (d1.scale (k:=1/ k) λx=>by rw[s];generalize 1/ k=m at *;grind) d2;refine⟨L,k,e,C,s,K,λv M hv=>?_⟩;obtain⟨F,H,hv⟩:=N v M hv;refine⟨F* (1/ k),Rat.mul_pos H w,λx=>?_⟩;rw[hv,df,KU s x];generalize 1/ k=m at *
 grind;grind
section
variable {f:Nat}{p:Lq}{c:Cnt}(h:dM f p=some c)(hp:nz p)
include h hp
theorem oE(hxy:x<=y):cX c x<=cX c y:=(eE h hp).2.2.2.2.2 x y hxy
theorem nr(x:Rat):cN c x<=cX c x/\cX c x<=cN c x+1:=by unfold cN;grind
theorem tU(hxy:x<=y):cX c y=cN c x↔Far p x y:=by
 obtain⟨f,j,L,k,e,t,q,m⟩:=Iq h hp;have o:k≠0:=φ
 have u:=oE h hp hxy;have d:∀z,cX c z=c.far- chV (bU c.p::L) z:=λz=>by unfold cX chV;rw[e]
 constructor;intro g;have l:an c.p x≠0:=λr=>by unfold cN at g;grind
 unfold cN at g;rw[if_neg l,d,d] at g;obtain⟨ε,ε0,hε⟩:=m.away hxy (λr=>l φ) ω;have i:Far (bU c.p) x y:=⟨ε,ε0,λz a b=>(hε z a b).1⟩;have n:Dv c.p (bU c.p):=⟨[k],λx=>by rw[aO,aZ];grind⟩;exact SF.far _ p c.p (Nat.le_refl _) hp f x y (i.dv n);intro i;have hc:=i.dv j;have s:Far (bU c.p) x y:=hc.k o q;obtain⟨ε,ε0,hε⟩:=s;have:=m.calm ε0 hxy hε;unfold cN;rw[if_neg (hc.ne φ hxy),d,d];omega
end
end

theorem IU{d i:Nat}(f:Nat->Rat)(h:i< d):(aN d f)[i]?=some (f i):=by simp[aN,h]

theorem C5{B x:Rat}(hB:1<=B)(hx:B<=x):∀(l:Lq) (lead:Rat),l.getLast?=some lead->lead≠0->(∀c∈l.dropLast,ab c<=(B- 1) * ab lead)->
    ab lead<=ab (an l x)
 |[],_,h,_,_=>by cases h
 |[a],lead,h,h0,_=>by
  have e:a=lead:=by simpa using h
  subst e;have e:an [a] x=a:=by rw[aO,aZ];grind
  rw[e];grind
 |a::b::m,lead,h,h0,hc=>by
  rw[List.getLast?_cons_cons] at h;rw[List.dropLast_cons_cons] at hc;have i1:=C5 hB hx (b::m) lead h h0 λc d=>hc c (List.mem_cons_of_mem _ d);have ha:=hc a (List.mem_cons_self ..);have e:an (a::b::m) x=an (b::m) x* x+a:=aO ..;generalize an (b::m) x=w at *
  have j:=Rat.mul_le_mul_of_nonneg_left i1 (show 0<=B- 1 by grind);have f:=uh (w* x+a) (-a);rw[Fi,show w* x+a+ -a=w* x by grind,gu] at f;have g:ab x=x:=by unfold ab;rw[if_neg φ]
  have i:=Rat.mul_le_mul_of_nonneg_left (show B<=ab x by rw[g];exact hx) (gG w);rw[e];grind
theorem xF{q:Lq}(h:nz q){x:Rat}(hx:a7 q<=x):ab (aI q)<=ab (an q x):=by
 have f:=List.length_pos_iff.2 h;have e:=dj (l:=q) (n:=(ap q).length- 1) ω
 have d:=C5 (pm q) hx (ap q) (aI q) (by rw[List.getLast?_eq_getElem?];exact e) (dd h) λc hc=>by
  rw[List.dropLast_eq_take] at hc;have b:=(sx (aI q) _ 0).2 c hc;have a:=gu (c/ aI q) (aI q);rw[Rat.div_mul_cancel (dd h)] at a;rw[a];have g:=Rat.mul_le_mul_of_nonneg_right b (gG (aI q));unfold a7;grind
 rwa[cn] at d
theorem yz(p q:Lq):(aT p q).length<=p.length+q.length- 1:=by
 by_cases h:p=[];subst h;unfold aT;simp;exact yA p q h
def eL(N:Lq):Nat->Lq
 |0=>aV N
 |k+1=>dQ (aT (eL N k) [0,1]) (aR N (coP (eL N k) (dg N- 1)))
theorem EW(a b:Lq)(j:Nat):coP (a++b) j=if j< a.length then coP a j else coP b (j- a.length):=by
 unfold coP;grind

section
variable {a b:Rat}(h:a< b){k:Nat}(hk:1<=k/\k<=4)
include h hk
end

theorem bdL_mono'{l:Lq}{a b:Nat}(h:bdL l a)(hab:a<=b):bdL l b:=λq c=>Nat.le_trans (h q c) hab
section
variable {a b:Rat}(h:a< b){k:Nat}(hk:1<=k/\k<=4)(ha:qs a<=20)(hb:qs b<=20)
include ha hb
end
section
variable {a b:Rat}(h:a< b){k:Nat}(hk:1<=k/\k<=4)
include h hk
variable (ha:qs a<=20)(hb:qs b<=20)
include ha hb
end
section
variable {a b:Rat}(h:a< b){k:Nat}(hk:1<=k/\k<=4)(ha:qs a<=20)(hb:qs b<=20)
include h hk ha hb
end
section
variable {a b a' b':Rat}(h:a< b)(h':a'< b'){k:Nat}(hk:1<=k/\k<=4)
include h h'
end
section
variable {a b a' b':Rat}(ha:qs a<=20)(hb:qs b<=20)(ha':qs a'<=20)(hb':qs b'<=20)
include ha hb ha' hb'
end

theorem vj{l:Lq}{q:Rat}(h:q∈l):∃i,i< l.length/\coP l i=q:=by
 obtain⟨i,a,e⟩:=List.getElem_of_mem h;exact⟨i,a,by rw[<-e];unfold coP;rw[List.getD_eq_getElem?_getD,List.getElem?_eq_getElem a];rfl⟩
theorem qiN(n:Int):qs (n:Rat)<=max (bl n.natAbs) 1:=by
 have e1:(n:Rat).num=n:=rfl;have e2:(n:Rat).den=1:=rfl;unfold qs;rw[e2,jz];grind
theorem qi21{n:Int}(h: -2000000<=n/\n<=2000000):qs (n:Rat)<=21:=by
 have a:=qiN n;have b:bl n.natAbs<=21:=gY ω;omega
theorem n8{p:Lq}{s:Nat}(h:bdL p s)(hs:1<=s)(hl:p.length<=1000000):bdL (aM p) (s+21):=λq a=>by
 obtain⟨i,g,e⟩:=vj a;have b:=gS p;rw[<-e,ja];split;exact Nat.le_trans (by decide:qs 0<=1) ω;have d:=fL (coP p (i- 1)) (((i:Nat):Int):Rat);have c:=ej h hs (i- 1);have f:=qi21 (n:=((i:Nat):Int)) ω;omega
section
variable {a b:Rat}{p q:Nat}(ha:qs a<=256)(hb:qs b<=256)(hp:p<=8)(hq:q<=8)
include ha in
end



section
variable {N:Lq}(hN:nz N)(hm:aI N=1)(h1:1<=dg N)
include hN hm h1
end

section
variable {x y:Rat}{h:Nat}
def IB(x:Rat)(h:Nat):Prop:=∃z:Int,x=(z:Rat)/\bl z.natAbs<=h
theorem IB.mono{k:Nat}(H:IB x h)(hk:h<=k):IB x k:=by obtain⟨z,e,b⟩:=H;exact⟨z,e,ω⟩
theorem IB.zero(h:Nat):IB 0 h:=⟨0,rfl,Nat.zero_le _⟩
theorem IB.one:IB 1 1:=⟨1,rfl,δ⟩
theorem IB.mul{k:Nat}(H:IB x h)(K:IB y k):IB (x* y) (h+k):=by
 obtain⟨z,e,b⟩:=H;obtain⟨w,c,a⟩:=K;exact⟨z* w,φ,dc b a⟩
theorem IB.add(H:IB x h)(K:IB y h):IB (x+y) (h+1):=by
 obtain⟨z,e,b⟩:=H;obtain⟨w,c,a⟩:=K;exact⟨z+w,φ,ua b a⟩
theorem IB.neg(H:IB x h):IB (-x) h:=by
 obtain⟨z,e,b⟩:=H;exact⟨-z,φ,φ⟩
theorem IB.eq(H:IB x h)(e:x=y):IB y h:=e▸H
structure HS (p:Lq)(K:Rat)(h:Nat):Prop where
 ne:K≠0
 sc:IB K h
 co:∀i,IB (coP p i* K) h
theorem K8(p q:Lq)(n:Nat):coP (aT p q) n=k7 p q p.length n:=by
 rw[<-xm];exact trim_iff.1 (iV λx=>by rw[a8,pV]) n
theorem GX{p q:Lq}{K K':Rat}{h h':Nat}(H:HS p K h)(H':HS q K' h')(n:Nat):∀i,IB (k7 p q i n* (K* K')) (h+h'+i)
 |0=>(IB.zero _).eq (by show 0=0* _;grind)
 |i+1=>by
  have a:=GX H H' n i
  have b:IB ((if i<=n then coP p i* coP q (n- i) else 0) * (K* K')) (h+h'+i):=by
   split;exact(((H.co i).mul (H'.co (n- i))).eq φ).mono ω;exact(IB.zero _).eq φ
  exact((a.add b).eq (by rw[k7];grind)).mono ω
theorem HS.mul{p q:Lq}{K K':Rat}{h' L:Nat}(H:HS p K h)(H':HS q K' h')(hl:p.length<=L):HS (aT p q) (K* K') (h+h'+L) where
 ne e:=(Rat.mul_eq_zero.1 e).elim H.ne H'.ne
 sc:=(H.sc.mul H'.sc).mono ω
 co i:=by
  rw[K8];exact(GX H H' i p.length).mono ω
end
theorem HS.nil:HS [] 1 1:=⟨δ,IB.one,λi=>(IB.zero 1).eq (by show 0=(0:Rat) * 1;grind)⟩
section
variable {m:Lq}{k:Rat}{M n:Nat}(k0:k≠0)(hm:∀i,IB (coP m i* k) M)(h7:n<=7)
end
theorem IB_quot{x y:Rat}{h:Nat}(H:IB x h)(K:IB y h)(y0:y≠0)(h1:1<=h):qs (x/ y)<=h:=by
 have a:Ht [x,y] h:=⟨1,δ,λi=>by
  have:IB (coP [x,y] i* 1) h:=by
   match i with
   |0=>exact H.eq (by show x=x* 1;grind)
   |1=>exact K.eq (by show y=y* 1;grind)
   |i+2=>exact(IB.zero h).eq (by show 0=0* 1;grind)
  obtain⟨z,e,b⟩:=this;exact⟨z,e,b⟩⟩
 exact a.quot 0 1 y0 h1
section
variable {m:Lq}{s n:Nat}(hm:bdL m s)(hs1:1<=s)(hs:s<=3000)(hl:m.length<=16)(h6:n<=6)
end
theorem nz_int'{n:Int}(h:n≠0):(n:Rat)≠0:=λe=>h (by have:=congrArg Rat.num e;exact this)
theorem IB.nat{n h:Nat}(hn:bl n<=h):IB (((n:Nat):Int):Rat) h:=⟨n,rfl,by rwa[Int.natAbs_natCast]⟩
theorem Fk{x:Rat}{h:Nat}(hx:qs x<=h):IB (x* ((x.den:Int):Rat)) h/\IB (((x.den:Nat):Int):Rat) h/\(((x.den:Nat):Int):Rat)≠0:=by
 have d:=dA x;have c:=dr x;refine⟨⟨x.num,?_,ω⟩,IB.nat ω,nz_int' (by have:=x.den_pos;omega)⟩;have a:(((x.den:Nat):Int):Rat)≠0:=nz_int' (by have:=x.den_pos;omega);have b:(x.num:Rat) / (((x.den:Nat):Int):Rat)=x:=by rw[<-Rat.divInt_eq_div,Rat.num_divInt_den]
 have e2:(x.num:Rat) / (((x.den:Nat):Int):Rat) * (((x.den:Nat):Int):Rat)=(x.num:Rat):=Rat.div_mul_cancel a;rw[b] at e2;exact e2
theorem HS.mono{p:Lq}{K:Rat}{h k:Nat}(H:HS p K h)(hk:h<=k):HS p K k:=⟨H.ne,H.sc.mono hk,λi=>(H.co i).mono hk⟩


section
variable {T:Lq}{n:Nat}(hn:1<=n/\n<=5)(hl:T.length=n+1)(ht:ap T=T)(hm:aI T=1)(hb:bdL T 20)
include hn hl ht hm hb
end
def sQ(f:Nat->Rat):Nat->Rat
 |0=>0
 |n+1=>sQ f n+f n
theorem qP{f g:Nat->Rat}:∀n,(∀j,j< n->f j=g j)->sQ f n=sQ g n
 |0,_=>rfl
 |n+1,h=>by rw[sQ,sQ,qP n λj a=>h j ω,h n ω]
abbrev Mx:=Nat->Nat->Rat
def swM(M:Mx)(k p:Nat):Mx:=λi j=>if i=k then M p j else if i=p then M k j else M i j
def bdM(M:Mx)(n s:Nat):Prop:=∀i j,i< n->j<=n->qs (M i j)<=s
theorem bd_sw{M:Mx}{n k p s:Nat}(h:bdM M n s)(hk:k< n)(hp:p< n):bdM (swM M k p) n s:=λi j b a=>by
 unfold swM;split;exact h p j hp a;split;exact h k j hk a;exact h i j b a

theorem low_ne{q:Lq}(h:nz q){x:Rat}(hx:x<= -a7 q):an q x≠0:=λe=>by
 have a:=(mw h hx).1;have b:=dd h;unfold ab at a;grind
section
variable {N:Lq}{n:Nat}(hN:nz N)(hm:aI N=1)(hd:dg N=n)(h1:1<=n)(ht:ap N=N)
include hN hm hd h1 ht
end
section
variable {T:Lq}{n:Nat}(hn:1<=n/\n<=5)(hl:T.length=n+1)(ht:ap T=T)(hm:aI T=1)
include hn hl ht hm
variable {A B:Lq}(hco:∀x,an A x* an T x+an B x* dvE T x=1)
include hco
end
section
variable {T:Lq}{n:Nat}(hn:1<=n/\n<=5)(hl:T.length=n+1)(ht:ap T=T)(hm:aI T=1)(hb:bdL T 40)
include hn hl ht hm hb
end
theorem rm{p q:Lq}{k:Rat}(hk:k≠0)(hp:nz p)(h:∀x,an q x=an p x* k):ce q=ce p:=by
 obtain⟨d1,d2,a⟩:=jQ hp hk h;have e1:ce p=aR p (1/ aI p):=by unfold ce;rw[if_neg hp]
 have e2:ce q=aR q (1/ aI q):=by unfold ce;rw[if_neg d1]
 rw[<-jC p,<-jC q];refine eqv_trim.1 λx=>?_;rw[e1,e2,bH,bH];grind
theorem BS(u:Lq):ce (ce u)=ce u:=by
 by_cases h:nz u;have b:=iw h;obtain⟨k,c,a,m⟩:=oU u;exact rm (k:=k) (λe=>by rw[e] at a;grind) h m;have e:ap u=[]:=Classical.byContradiction λg=>h g;have:ce u=[]:=if_pos e;rw[this];rfl
theorem Hm{f:Nat}{p s s2:Lq}(hp:nz p)(h1:lT f p=some s)(h2:lT f s=some s2):s2=s:=by
 obtain⟨j,c⟩:=sP h1 hp
 have h:ce s=s:=by
  unfold lT at h1;split at h1;cases hg:ld f p (aV p) with
  |none=>rw[hg] at h1;cases h1
  |some g=>
   rw[hg,Option.bind_some] at h1;split at h1;cases h1;exact BS _;cases h1
  cases h1
 unfold lT at h2;split at h2;cases hg:ld f s (aV s) with
 |none=>rw[hg] at h2;cases h2
 |some g=>
  rw[hg,Option.bind_some] at h2;split at h2;cases h2;obtain⟨d,m,r,a,b,B⟩:=me f _ _ _ hg (.inl j);have o:=c g d m r;obtain⟨m1,m2⟩:=iP s d;obtain⟨u,w⟩:=m;have y:=oV (u:=u) (v:=[]) d (λx=>by rw[w x,aZ];exact(Rat.add_zero _).symm) (λe=>absurd rfl e)
  have hs:∀x,an s x=an (cu s g).1 x* an g x:=λx=>by
   have:=m1 x;rw[y x,aZ] at this;rw[this];grind
  obtain⟨z,A⟩:=iv hs j
  have hc:∀x,an g x=aI g:=λx=>by
   have n:=(fZ d).1.2;have l:=(fZ d).2;rw[o] at n l
   rw[iy (q:=[aI g]) (λi=>by
    cases i with
    |zero=>rw[l];rfl
    |succ i=>rw[n (i+1) ω];rfl) x,aO,aZ];grind
  have t:aI g≠0:=λe=>d (iV (p:=g) (q:=[]) λx=>by rw[hc,e,aZ]);have:=rm (k:=aI g) t z (λx=>by rw[hs,hc]);rw[<-this,h];cases h2
 cases h2
section
variable {f:Nat}{p:Lq}{c:Cnt}(h:dM f p=some c)(hp:nz p)
include h hp
theorem root_c(x:Rat):an c.p x=0↔an p x=0:=Hr (eE h hp).2.1 hp x
theorem zp(x:Rat):0<=cX c x:=by
 obtain⟨_,_,_,_,z,m⟩:=eE h hp;by_cases g:x<= -a7 c.p;rw[z x g];exact Int.le_refl 0;have:=m (-a7 c.p) x (by grind);rw[z _ (by grind)] at this;exact this
theorem low_nn:0<=cN c (-a7 p)/\cN c (-a7 p)<=cX c (a7 p):=by
 have d:cN c (-a7 p)=cX c (-a7 p):=if_neg fun e=>low_ne hp (by grind) ((root_c h hp _).1 e);have a:=zp h hp (-a7 p);have b:=pm p;have f:=oE h hp (show -a7 p<=a7 p by grind);omega
end
theorem all_up{f:Nat}{p:Lq}{c:Cnt}(h:dM f p=some c)(hp:nz p)(h':dM f c.p=some c):cX c (a7 p)<=Dc c:=by
 have a:=(eE h hp).1;unfold Dc;by_cases g:a7 p<=a7 c.p;exact oE h hp g;have e:Far c.p (a7 c.p) (a7 p):=⟨ab (aI c.p),Be (mT a),λz b d=>xF a b⟩;have b:=(tU h' a (show a7 c.p<=a7 p by grind)).2 e;have d:=(nr h' a (a7 c.p)).1;omega
def qH(h X:Nat):Bool:=(List.range 5).all λm=>(List.range m).all λn=>hG 9 m n h (h+4) X
theorem qH_1:qH 320001 2250000=true/\qH 9320005 66000000=true/\((List.range 5).all λm=>(List.range m).all λn=>cB 9 m n 9320005 9320009 9320009 67000000)=true:=by decide+kernel
theorem sqfQ{p:Lq}{h X:Nat}(hc:qH h X=true)(h1:1<=h/\h<=9320005)(hX:1<=X/\X<=66000000)(np:nz p)(hl:p.length<=4)(hb:bdL p h)(hH:Ht p h):∃q,lT 9 p=some q/\nz q/\q.length<=4/\Ht q (h+4* (X+1))/\bdL q (h+4* (X+1)):=by
 unfold qH at hc;simp only[List.all_eq_true,List.mem_range] at hc;have m:=bh p;have z:=List.length_pos_iff.2 np;have d:=o9 np;have c:ap (aV p)=aV p:=b6 _;have i:=tS ω hb h1.1 hH;obtain⟨g,k,C,A,r⟩:=Am 9 _ _ h (h+4) X p (aV p) (hc _ ω _ (by rw[c];exact d)) rfl rfl hb i.1 hH i.2 h1.1 ω ω ω ω;obtain⟨z0,o,z2,a,b,z3⟩:=me 9 _ _ _ k (.inl np);obtain⟨u,s⟩:=o;obtain⟨m1,m2⟩:=iP p z0;have t:=oV (u:=u) (v:=[]) z0 (λx=>by rw[s x,aZ];exact(Rat.add_zero _).symm) (λe=>absurd rfl e)
 have hs:∀x,an p x=an (cu p g).1 x* an g x:=λx=>by
  have:=m1 x;rw[t x,aZ] at this;rw[this];grind
 obtain⟨f,y⟩:=iv hs np;have e1:=(dg_mul' f y hs).2.1;have e2:=(iw f).2.2;have l:=(iw f).2.1;have w:=List.length_pos_iff.2 l;have B:=mxL_le hb h1.1;have D:=mxL_le r hX.1;have j:=Nat.mul_le_mul (Nat.pow_le_pow_right (show 0< 2 by decide) (show(ap p).length+1- (ap g).length<=5 by omega)) (show mxL p+2* mxL g+1<=h+2* X+1 by omega);have n:((ap p).length+1- (ap g).length) * (X+1)<=4* (X+1):=Nat.mul_le_mul_right _ (by have:=List.length_pos_iff.2 z0;omega);obtain⟨q1,q2⟩:=((vh hH A z0).1.mono (show _<=h+4* (X+1) by omega)).monic ω;refine⟨ce (cu p g).1,?_,l,?_,q2,q1⟩;unfold lT;rw[if_pos ⟨io hb ω,ω⟩,k,Option.bind_some,if_pos ⟨z0,ω,ω,ω⟩];rw[<-jC (cu p g).1];unfold dg at e1 e2;omega
end Go.Abs
