/- Part V14 of the proof. -/
import Derived.Test.YtkbjakfniejkcaaGreatDoorV13
set_option linter.all false
namespace Go.Abs
section
variable {r d p q:Lq}
theorem oF(p:Lq):∃k k':Rat,k* k'=1/\∀x,ak (cu p) x=ak p x* k:=by
 by_cases h:nz p;refine⟨1/ aM p,aM p,Rat.div_mul_cancel (oJ h),(gY h).1⟩;refine⟨1,1,by grind,fun x=>?_⟩;have e:ao p=[]:=Decidable.byContradiction h;unfold cu;rw[if_pos e,jz h,aV];grind
theorem Dv.refl(d:Lq):Dv d d:=⟨[1],fun x=>by rw[aO,aV];grind⟩
theorem Dv.zero(d:Lq)(h:∀x,ak r x=0):Dv d r:=⟨[],fun x=>by rw[aV];grind⟩
theorem Dv.trans{a b c:Lq}(h:Dv a b)(k:Dv b c):Dv a c:=by
 obtain⟨u,d⟩:=h;obtain⟨v,hv⟩:=k;exact⟨aK v u,fun x=>by rw[hv,a6];grind⟩
theorem Dv.lin{u v:Lq}(h:Dv d p)(k:Dv d q)(e:∀x,ak r x=ak u x* ak p x+ak v x* ak q x):Dv d r:=by
 obtain⟨s,hs⟩:=h;obtain⟨t,a⟩:=k;exact⟨fQ (aK u s) (aK v t),fun x=>by rw[e,eW,a6,a6];grind⟩
theorem Dv.mul(h:Dv d p)(e:∀x,ak r x=ak q x* ak p x):Dv d r:=
 h.lin h (u:=q) (v:=[]) fun x=>by rw[aV];grind
theorem Dv.scale{k:Rat}(h:Dv d p)(e:∀x,ak r x=ak p x* k):Dv d r:=
 h.mul (q:=[k]) fun x=>by rw[aO,aV];grind
theorem Dv.dg{d p:Lq}(h:Dv d p)(hp:nz p):dg d<=dg p:=by
 obtain⟨u,a⟩:=h;obtain⟨b,c⟩:=gX a hp;have:=(dg_mul' b c a).2.1;omega
theorem yT(h:nz d)(h0:dg d=0):∃c:Rat,c≠0/\∀x,ak d x=c:=by
 obtain⟨e1,e2⟩:=eA h;refine⟨aM d,oJ h,fun x=>?_⟩
 have:ao d=ao [aM d]:=trim_iff.2 fun i=>by
  cases i with
  |zero=>rw[dA,<-e2,h0]
  |succ i=>exact e1.2 _ (by omega)
 rw[<-cP,this,cP,aO,aV];grind
theorem nz_one:nz [1]:=by unfold nz;decide+kernel
theorem bez:∀(n:Nat) (p q:Lq),(ao q).length=n->nz p\/nz q->∃g a b:Lq,nz g/\Dv g p/\Dv g q/\∀x,ak g x=ak a x* ak p x+ak b x* ak q x:=by
 intro n
 induction n using Nat.strongRecOn with
 |ind n f=>
  intro p q k h;by_cases hq:nz q;obtain⟨m1,m2⟩:=jb p hq
  have c:(ao (md p q)).length< n:=by
   have:=(oT p q hq).2;unfold md;omega
  obtain⟨g,a,b,i,d,e,j⟩:=f _ c q (md p q) rfl (.inl hq);refine⟨g,b,eg a (aK b (dq p q).1),i,d.lin e (u:=(dq p q).1) (v:=[1]) fun x=>?_,d,fun x=>?_⟩;rw[m1,aO,aV];grind;rw[j,dp,a6,m1 x];grind;have hp:nz p:=h.resolve_right hq;exact⟨p,[1],[],hp,.refl p,.zero p (jz hq),fun x=>by rw[aO,aV,jz hq];grind⟩
theorem lD:∀(f:Nat) (p q g:Lq),pu f p q=some g->nz p\/nz q->nz g/\Dv g p/\Dv g q/\∃a b:Lq,∀x,ak g x=ak a x* ak p x+ak b x* ak q x
 |0,_,_,_,h,_=>by cases h
 |f+1,p,q,g,h,hz=>by
  rw[pu] at h;split at h
  ·rename_i c
   split at h;cases h;have i:¬nz q:=fun e=>e c;have hp:nz p:=hz.resolve_right i;obtain⟨m1,m2,_⟩:=gY hp;obtain⟨k,d,l,m⟩:=oF p;refine⟨m2,⟨[d],fun x=>by rw[aO,aV];grind⟩,.zero _ (jz i),[k],[],fun x=>by rw[aO,aV];grind⟩;cases h
  ·rename_i c
   split at h;obtain⟨m1,_⟩:=jb p c;obtain⟨k,d,l,m⟩:=oF (dq p q).2;obtain⟨o,j,n,a,b,r⟩:=lD f _ _ _ h (.inl c);refine⟨o,j.lin n (u:=(dq p q).1) (v:=[d]) fun x=>?_,j,ba b k,eg a (ba (aK b (dq p q).1) k),fun x=>?_⟩;rw[m1,aO,aV];show _+ak (dq p q).2 x=_;grind;rw[r,bG,dp,bG,a6,m1 x];show _=_* (_+ak (dq p q).2 x)+_;grind;cases h
theorem re(h:∀x,ak p x=ak q x)(x:Rat):dvE p x=dvE q x:=FL (trim_iff.1 (iw h)) x
theorem JH{k:Rat}(h:∀x,ak r x=ak p x* k)(x:Rat):dvE r x=dvE p x* k:=by
 rw[re (q:=kV p k) (fun x=>by rw[h,jJ]) x,vP]
def pw(d:Lq):Nat->Lq
 |0=>[1]
 |k+1=>aK (pw d k) d
theorem pw_dv(d:Lq)(k:Nat)(x:Rat):dvE (pw d (k+1)) x=(((k+1:Nat):Int):Rat) * ak (pw d k) x* dvE d x:=by
 induction k with
 |zero=>
  show dvE (aK [1] d) x=_;rw[oR,eG,show dvE [] x=0 from rfl];show _=((1:Int):Rat) * ak [1] x* _;rw[aV];grind
 |succ k a=>
  show dvE (aK (pw d (k+1)) d) x=_;rw[oR];have e2:ak (pw d (k+1)) x=ak (pw d k) x* ak d x:=a6 _ _ _;grind
theorem Ie(hd:nz d)(k:Nat):nz (pw d k)/\dg (pw d k)=k* dg d:=by
 induction k with
 |zero=>exact⟨nz_one,by rw[Nat.zero_mul];show dg [1]=0;decide+kernel⟩
 |succ k c=>
  obtain⟨a,b,_⟩:=JM c.1 hd;exact⟨a,by show dg (aK _ _)=_;grind⟩
theorem xW(h:dg d≠0)(hd:nz d):nz (bi d)/\dg (bi d)< dg d:=by
 obtain⟨⟨e1,e2⟩,_⟩:=eA hd
 have c:vf (bi d) (dg d- 1):=by
  refine⟨?_,fun i f=>?_⟩;rw[fh,show dg d- 1+1=dg d by omega];intro e;rcases Rat.mul_eq_zero.1 e with e|e
  exact e1 e;have:((dg d:Nat):Int)=0:=by simp_all
  omega;rw[fh,e2 _ (by omega),Rat.zero_mul]
 obtain⟨a,b,_⟩:=li c;grind
theorem sqfree{s g a b:Lq}(hp:nz p)(h1:∀x,ak p x=ak s x* ak g x)(h3:∀x,ak g x=ak a x* ak p x+ak b x* ak (bi p) x):
    ∀n d,dg d=n->nz d->Dv d s->Dv d (bi s)->dg d=0:=by
 intro n
 induction n using Nat.strongRecOn with
 |ind n G=>
  intro d M h ⟨u,j⟩ ⟨v,hv⟩;by_cases h0:dg d=0;exact h0;exfalso;obtain⟨d1,d2⟩:=xW h0 h;obtain⟨e,E,A,e1,e2,F,H⟩:=bez _ d (bi d) rfl (.inl h);have L:=F.dg d1;have z:=G (dg e) (by omega) e rfl e1 (e2.trans ⟨u,j⟩) (e2.trans ⟨v,hv⟩);obtain⟨c,C,B⟩:=yT e1 z
  -- the square divides s
  have hs:∀x,dvE s x=dvE u x* ak d x+ak u x* dvE d x:=fun x=>by
   rw[re (q:=aK u d) (fun x=>by rw[j,a6]) x,oR]
  have K:1/ c* c=1:=Rat.div_mul_cancel C
  obtain⟨t,r⟩:∃t:Lq,∀x,ak u x=ak t x* ak d x:=by
   refine⟨ba (fQ (aK E u) (aK A (eg v (zV u)))) (1/ c),fun x=>?_⟩;rw[bG,eW,a6,a6,dp,my];have m:=H x;have D:=hv x;rw[B,cQ] at m;rw[cQ,hs] at D;grind
  obtain⟨N,J⟩:=gX h1 hp
  have i:∀k,∃w:Lq,∀x,ak g x=ak w x* ak (pw d k) x:=by
   intro k
   induction k with
   |zero=>exact⟨g,fun x=>by rw[pw,aO,aV];grind⟩
   |succ k l=>
    obtain⟨w,f⟩:=l;obtain⟨W,y⟩:∃W,W=aK t w:=⟨_,rfl⟩
    have q1:∀x,ak p x=ak W x* ak (pw d (k+2)) x:=fun x=>by
     rw[h1,f,j,r,y,a6,pw,a6,pw,a6];grind
    have q2:∀x,ak (bi p) x=dvE W x* ak (pw d (k+2)) x+ak W x* dvE (pw d (k+2)) x:=fun x=>by
     rw[cQ,re (q:=aK W (pw d (k+2))) (fun x=>by rw[q1,a6]) x,oR]
    refine⟨fQ (aK a (aK W d)) (aK b (fQ (aK (zV W) d) (aK (ba W (((k+1+1:Nat):Int):Rat)) (zV d)))),fun x=>?_⟩;have q3:=pw_dv d (k+1) x;have q4:ak (pw d (k+2)) x=ak (pw d (k+1)) x* ak d x:=a6 _ _ _;rw[h3,q2,q1,q3,q4];simp only[eW,a6,bG,my];grind
  obtain⟨w,f⟩:=i (dg g+1);obtain⟨m1,m2⟩:=gX f J;have o:=(dg_mul' m1 m2 f).2.1;rw[(Ie h _).2] at o;have O:dg g+1<=(dg g+1) * dg d:=Nat.le_mul_of_pos_right _ (by omega);omega
end
theorem oz{p:Lq}(h:nz p):∃k:Rat,0< k/\∀x,ak (b4 p) x=ak p x* k:=by
 have f:iy (ao p) 1≠0:=ri _ (by decide)
 have d:iN (iy (ao p) 1) (ao p) 0≠0:=by
  intro e;have i:=(qq (iy (ao p) 1) (ao p) 0).2;have g:=(lL (ao p) 1).2;have m:=List.length_pos_iff.2 h;have j:=dn (l:=p) (n:=(ao p).length- 1) (by omega);have b:=List.mem_of_getElem? j;have c:=i _ b;rw[e] at c;exact y8 (g _ b) f (dd h) (Nat.eq_zero_of_zero_dvd c)
 refine⟨nQ (iy (ao p) 1) / nQ (iN (iy (ao p) 1) (ao p) 0),?_,fun x=>by unfold b4;rw[bG,cP]⟩
 have a:∀n:Nat,n≠0->(0:Rat)< nQ n:=fun n q=>by
  rw[<-num_pos];show 0< (n:Int);omega
 obtain⟨k,o,e⟩:=part (nQ (iy (ao p) 1)) (a _ f) (a _ d);rw[<-e,Rat.mul_div_cancel (fun e=>d (nQ_zero.1 e))];grind
inductive Cx:Lq->Lq->Lw->Prop
 |nil {u n:Lq}:¬nz n->Cx u n []
 |cons {u n v n' q:Lq} {L:Lw} {c:Rat}:0< c->(∀x,ak v x=ak n x* c)->nz v->(∀x,ak n' x=ak q x* ak v x- ak u x)->Cx v n' L->Cx u n (v::L)
theorem ob:∀(f k:Nat) (last next:Lq) (acc out:Lw),oc f k last next acc=some out->∃L,out=acc++L/\Cx last next L
 |_,0,_,_,_,_,h=>by cases h
 |f,k+1,last,next,acc,out,h=>by
  rw[oc] at h;split at h
  ·rename_i a
   cases h;exact⟨[],by simp,.nil fun e=>e a⟩
  ·rename_i a
   split at h
   ·rename_i b
    obtain⟨L,e,i⟩:=ob f k _ _ _ _ h;obtain⟨c,d,g⟩:=oz a;refine⟨b4 next::L,by grind,.cons (q:=(dq last (b4 next)).1) d g b.2.2 (fun x=>?_) i⟩;have:=(jb last b.2.2).1 x;unfold md at this;rw[bG];grind
   cases h
theorem Cx.ch{u n:Lq}{L:Lw}(H:Cx u n L):nz u->(∀d,nz d->Dv d u->Dv d n->dg d=0)->Ch u L/\∀v L',L=v::L'->∃c:Rat,0< c/\∀x,ak v x=c* ak n x:=by
 induction H with
 | @nil u n hn=>
  intro f b;obtain⟨c,e,i⟩:=yT f (b u f (.refl u) (.zero u (jz hn)));exact⟨.one e i,fun _ _ h=>by cases h⟩
 | @cons u n v n' q L c i hv hnv hn' hL ih=>
  intro f b
  obtain⟨i1,i2⟩:=ih hnv fun d d0 d1 d2=>b d d0 (d1.lin d2 (u:=q) (v:=[-1]) fun x=>by rw[aO,aV];grind)
   (d1.scale (k:=1/ c) fun x=>by grind)
  refine⟨?_,fun _ _ h=>by grind⟩;cases L with
  |nil=>exact .pair i1
  |cons w L=>
   obtain⟨g,e,j⟩:=i2 w L rfl;exact .step (a:=g) (c:=1) (q:=ba q g) e (by grind) (fun x=>by rw[j,bG];grind) i1
theorem rG{f:Nat}{p s:Lq}(h:o5 f p=some s)(hp:nz p):nz s/\∀d,nz d->Dv d s->Dv d (bi s)->dg d=0:=by
 unfold o5 at h;split at h;cases hg:pu f p (bi p) with
 |none=>grind
 |some g=>
  rw[hg,Option.bind_some] at h;split at h;cases h;obtain⟨c,j,r,a,b,q⟩:=lD f _ _ _ hg (.inl hp);obtain⟨m1,m2⟩:=jb p c;obtain⟨u,l⟩:=j;have n:=qv (u:=u) (v:=[]) c (fun x=>by rw[l x,aV];grind) (fun e=>absurd rfl e)
  have hs:∀x,ak p x=ak (dq p g).1 x* ak g x:=fun x=>by
   have:=m1 x;rw[n x,aV] at this;grind
  obtain⟨o,w⟩:=gX hs hp;obtain⟨k,i,t,m⟩:=oF (dq p g).1;refine⟨(gY o).2.1,fun d d0 d1 d2=>sqfree hp hs q _ d rfl d0 (d1.scale (k:=i) fun x=>by grind) (d2.scale (k:=i) fun x=>?_)⟩;rw[cQ,cQ,JH m x];grind;cases h
 cases h
theorem uh(u:Lq)(x:Rat):chV [u] x=0:=by
 unfold chV chL chL;grind
theorem fZ{f:Nat}{p:Lq}{c:Cnt}(h:dz f p=some c)(hp:nz p):nz c.p/\o5 f p=some c.p/\l8 f c.p=some c.ch/\c.far=chV c.ch (-a8 c.p)/\(∀x,x<= -a8 c.p->cD c x=0)/\∀x y,x<=y->cD c x<=cD c y:=by
 unfold dz at h;cases hs:o5 f p with
 |none=>grind
 |some s=>
  rw[hs,Option.bind_some] at h;cases hc:l8 f s with
  |none=>grind
  |some ch=>
   rw[hc,Option.bind_some] at h;split at h
   ·rename_i o
    cases h;obtain⟨g,s1⟩:=rG hs hp;have l:=hc;unfold l8 at hc;split at hc;obtain⟨L,e,F⟩:=ob _ _ _ _ _ _ hc;obtain⟨k,r,j⟩:=oz g;have b:k≠0:=by grind
    have n:nz (b4 s):=(jn g b j).1;have w:k* (1/ k)=1:=by grind
    have i:0< 1/ k:=by
     obtain⟨m,m0,m1⟩:=part 1 (d:=k) (by grind) r;grind
    obtain⟨t,G⟩:=F.ch n fun d d0 d1 d2=>s1 d d0 (d1.scale (k:=1/ k) fun x=>by grind) d2;have D:ch=b4 s::L:=e;subst D
    have mono:∀x y,x<=y->chV (b4 s::L) y<=chV (b4 s::L) x:=fun x y a=>by
     cases L with
     |nil=>rw[uh,uh];grind
     |cons v L=>
      obtain⟨A,E,hv⟩:=G v L rfl;refine t.fall (k:=A* (1/ k)) (Rat.mul_pos E i) (fun x=>?_) a;rw[hv,cQ,JH j x];grind
    obtain⟨M,B⟩:=Ff (b4 s::L) fun q C=>(o.1 q C).1
    have low:∀x,x<= -a8 s->chV (b4 s::L) x=chL ((b4 s::L).map sgI) 0 0:=fun x u=>by
     by_cases hxM:x<= -M;unfold chV;rw[B x hxM]
     rw[<-t.same (e:=ab (aM s) * k) (x:= -M) (y:=x) (Rat.mul_pos (by have:=dd g;unfold ab;split <;> grind) r) (by grind) (fun z J H=>by
      rw[j,fR,show ab k=k by unfold ab;rw[if_neg (by grind)]];exact Rat.mul_le_mul_of_nonneg_right (o3 g (by grind)).1 (by grind))]
     unfold chV;grind
    refine⟨g,rfl,l,(low _ (by grind)).symm,fun x u=>?_,fun x y a=>?_⟩;have:=low x u;unfold cD;unfold chV at this;show _- chL ((b4 s::L).map (sgE x)) 0 0=0;rw[this];simp;have:=mono x y a;unfold cD;unfold chV at this;show _- chL ((b4 s::L).map (sgE x)) 0 0<=_- chL ((b4 s::L).map (sgE y)) 0 0;omega;grind
   cases h
section
variable {x y:Rat}{u:Lq}{L:Lw}
def chi(s t:Int):Int:=if s≠0/\t≠s then 1 else 0
theorem chi_nn(s t:Int):0<=chi s t:=by unfold chi;grind
theorem B5(s:Int):chi s s=0:=by unfold chi;grind
theorem B7{s t:Int}{l:List Int}(ht:t=1\/t= -1)(hs: -1<=s/\s<=1):chL (s::t::l) 0 0=(if s= -t then 1 else 0)+chL l 0 t:=by
 have a:t≠0:=by omega
 by_cases h0:s=0;subst h0;rw[chL,if_neg (by simp),chL,if_pos a,if_neg (by omega)];omega;rw[chL,if_pos h0,chL,rk];grind
def Sq(u:Lq)(L:Lw):Prop:=Ch u L/\∀v M,L=v::M->∃k:Rat,0< k/\∀x,ak v x=k* dvE u x
theorem Et{c:Rat}(h:c<=ab x):c<=x\/x<= -c:=by unfold ab at h;grind
theorem Kl{c:Rat}(h:c<=x\/x<= -c)(hc:0<=c):c<=ab x:=by unfold ab;grind
theorem xo{k a b:Rat}(hk:0< k)(h:k* a<=k* b):a<=b:=by
 by_cases h':a<=b;exact h';have:=Rat.mul_pos hk (show 0< a- b by grind);grind
theorem Sq.tiny(H:Sq u L){R:Rat}(hR:0<=R):∃h e ρ:Rat,0< h/\0< e/\0< ρ/\∀z w:Rat,ab z<=R->ab w<=R->z<=w->w- z<=h->
    chV (u::L) z- chV (u::L) w=chi (sgE z u) (sgE w u)/\((e<=ab (ak u z)/\e<=ab (ak u w))\/∃s:Rat,(s=1\/s= -1)/\0< s* dvE u z/\0< s* dvE u w/\ρ* (w- z)<=s* (ak u w- ak u z)):=by
 obtain⟨H,hv⟩:=H;cases L with
 |nil=>
  obtain⟨c,c0,hc⟩:=H.const;have hp:0< ab c:=by unfold ab;grind
  refine⟨1,ab c,1,by grind,hp,by grind,fun z w _ _ _ _=>⟨?_,.inl ⟨by grind,by grind⟩⟩⟩;rw[uh,uh,(H.sg z w).1,B5];rfl
 |cons v L=>
 obtain⟨k,M,D⟩:=hv v L rfl;obtain⟨a,b,hb⟩:=H.bez v L rfl;have Z:=ru hR a;have hB:=ru hR b;obtain⟨e,F,U⟩:=part 1 (d:=2* (bV R a+bV R b+1)) (by decide+kernel) (by grind);obtain⟨h1,p1,k1⟩:=H.cl.1 R e hR F;obtain⟨h2,p2,V⟩:=H.cl.2 v L rfl R e hR F;have Y:=FZ hR u;have hL:=Cm hR u;obtain⟨ρ,Q,eρ⟩:=part e (d:=2* k) F (by grind);obtain⟨K,S,e3⟩:=part ρ (d:=bT R u+1) Q (by grind);obtain⟨N,W,e5⟩:=part (e/ 2) (d:=bL R u+1) (by grind) (by grind);obtain⟨h4,X,l4,m4⟩:=less h1 h2 p1 p2;obtain⟨h6,p6,l6,m6⟩:=less K N S W;obtain⟨h,p,l,m⟩:=less h4 h6 X p6;refine⟨h,e/ 2,ρ,p,by grind,Q,fun z w n B g2 g4=>?_⟩;have o:ab (w- z)=w- z:=by unfold ab;rw[if_neg (by grind)]
 by_cases hu:e<=ab (ak u z);obtain⟨s1,s2,C⟩:=k1 z w n B (by grind) hu;refine⟨?_,.inl ⟨by grind,?_⟩⟩;rw[s1,B5]
 have:chV (u::v::L) z=chV (u::v::L) w:=by
  unfold chV;simp only[List.map_cons] at C⊢;rw[s1];exact wh s2 C
 omega;have q1:=oQ hR n B u;have q2:=Rat.mul_le_mul_of_nonneg_left (show w- z<=N by grind) hL;have q3:ab (ak u w- ak u z)<=e/ 2:=by rw[o] at q1;grind
 have q4:=ab_le.1 q3;rcases Et hu with q|q
 exact Kl (.inl (by grind)) (by grind);exact Kl (.inr (by grind)) (by grind)
 have hv:e<=ab (ak v z):=by
  by_cases hv:e<=ab (ak v z);exact hv;have n1:=gE (jl hR n a) (show ab (ak u z)<=e by grind) (gi _) Z;have n2:=gE (jl hR n b) (show ab (ak v z)<=e by grind) (gi _) hB;have n3:=sT (ak a z* ak u z) (ak b z* ak v z);rw[hb z,fR,fR,show ab 1=1 by decide+kernel] at n3;grind
 obtain⟨s1,s2,C⟩:=V z w n B (by grind) hv;have i:=sC hR n B u;rw[o] at i;have ht2:=ab_le.1 i;have f:0<=w- z:=by grind
 have E:bT R u* ((w- z) * (w- z))<=ρ* (w- z):=by
  have q1:=Rat.mul_le_mul_of_nonneg_left (show w- z<=K by grind) Y;have q2:bT R u* (w- z)<=ρ:=by grind
  have q3:=Rat.mul_le_mul_of_nonneg_right q2 f;grind
 have g:∀t:Int,(t=1\/t= -1)->sgE z v=t->chV (u::v::L) z- chV (u::v::L) w=(if sgE z u= -t then 1 else 0)- (if sgE w u= -t then 1 else 0):=fun t G e=>by
  have O:=C;rw[e] at O;unfold chV;simp only[List.map_cons];rw[s1,e,B7 G (jt z u),B7 G (jt w u),wj O (by omega)];omega
 have bz:=jt z u;have bw:=jt w u;rcases dD z v with⟨r,J⟩|⟨r,J⟩|⟨r,J⟩
 have c3:e<=ak v z:=by rcases Et hv with q|q <;> grind
 have d1:2* ρ<=dvE u z:=xo M (by rw[<-D];grind);have c4:=Rat.mul_le_mul_of_nonneg_left d1 f;have up:ρ* (w- z)<=ak u w- ak u z:=by grind
 have nn:=Rat.mul_nonneg (show 0<=ρ by grind) f;have T:=pW (q:=u) (x:=z) (y:=w) (by grind);refine⟨?_,.inr ⟨1,.inl rfl,by grind,?_,by grind⟩⟩;rw[g 1 (.inl rfl) r];unfold chi;split <;> split <;> split <;> omega;rcases dD w v with⟨A,j⟩|⟨A,j⟩|⟨A,j⟩
 rw[D] at j;by_cases f3:0< dvE u w;grind;have:=Rat.mul_nonneg (show 0<=k by grind) (show 0<= -dvE u w by grind);grind;omega;omega;have c3:ak v z<= -e:=by rcases Et hv with q|q <;> grind
 have d1:2* ρ<= -dvE u z:=xo M (by have:=D z;grind);have c4:=Rat.mul_le_mul_of_nonneg_left d1 f;have up:ρ* (w- z)<=ak u z- ak u w:=by grind
 have nn:=Rat.mul_nonneg (show 0<=ρ by grind) f;have T:=pW (q:=u) (x:=w) (y:=z) (by grind);refine⟨?_,.inr ⟨-1,.inr rfl,by grind,?_,by grind⟩⟩;rw[g (-1) (.inr rfl) r];unfold chi;split <;> split <;> split <;> omega;rcases dD w v with⟨A,j⟩|⟨A,j⟩|⟨A,j⟩
 omega;rw[D] at j;by_cases f3:0< -dvE u w;grind;have:=Rat.mul_nonneg (show 0<=k by grind) (show 0<=dvE u w by grind);grind;omega;exact absurd r s2
theorem Ai(x y:Rat):0<=ab x+ab y:=by have:=gi x;have:=gi y;grind
theorem Sq.mono(H:Sq u L)(hxy:x<=y):chV (u::L) y<=chV (u::L) x:=by
 obtain⟨h,e,ρ,d,_,_,g⟩:=H.tiny (Ai x y);refine way (f:=chV (u::L)) (fun s t=>t<=s) (fun _=>Int.le_refl _) (fun _ _ _ b a=>Int.le_trans a b) d hxy fun z w b a i c=>?_;have:=(g z w (pg b (by grind)) (pg (by grind) i) a c).1;have:=chi_nn (sgE z u) (sgE w u);omega
theorem Sq.root(H:Sq u L){w:Rat}(hwx:w< x)(hx:ak u x=0):chV (u::L) x+1<=chV (u::L) w:=by
 obtain⟨h,e,ρ,j,l,i,c⟩:=H.tiny (Ai w x)
 obtain⟨z,b,k,d⟩:∃z,w<=z/\z< x/\x- z<=h:=by
  by_cases g:w<=x- h;exact⟨x- h,g,by grind,by grind⟩;grind
 obtain⟨t1,t2⟩:=c z x (pg b (by grind)) (pg (by grind) (by grind)) (by grind) d;have m:=H.mono b
 have f:ak u z≠0:=fun g=>by
  rcases t2 with⟨_,q⟩|⟨s,_,_,_,q⟩
  rw[hx,show ab 0=0 by decide+kernel] at q;grind;have:=Rat.mul_pos i (show 0< x- z by grind);grind
 have hs:sgE z u≠0:=fun g=>by
  rcases dD z u with⟨a,_⟩|⟨a,_⟩|⟨_,a⟩
  omega;omega;exact f a
 rw[pV hx] at t1;unfold chi at t1;grind
theorem Sq.away(H:Sq u L)(hxy:x<=y)(hx:ak u x≠0)(hV:chV (u::L) x=chV (u::L) y):
    ∃e:Rat,0< e/\∀z,x<=z->z<=y->e<=ab (ak u z)/\sgE z u=sgE x u:=by
 obtain⟨h,e,ρ,M,he,X,r⟩:=H.tiny (Ai x y)
 have sx:sgE x u≠0:=fun g=>by
  rcases dD x u with⟨a,_⟩|⟨a,_⟩|⟨_,a⟩
  omega;omega;exact hx a
 have d:∀z,x<=z->z<=y->ab z<=ab x+ab y:=fun z a b=>pg a b
 have c:∀z,x<=z->z<=y->sgE z u=sgE x u:=fun z a b=>by
  refine way (f:=fun z=>sgE z u) (fun s t=>s≠0->t=s) (fun _ _=>rfl) (fun _ _ _ m o n=>by rw[o (by rw[m n];exact n),m n]) M a (fun p q m o n Z W=>?_) sx;have t1:=(r p q (d _ m (by grind)) (d _ (by grind) (by grind)) o Z).1;have m1:=H.mono m;have m2:=H.mono o;have m3:=H.mono n;have m4:=H.mono b;unfold chi at t1;by_cases g:sgE q u=sgE p u;exact g;rw[if_pos ⟨W,g⟩] at t1;omega
 have hy:ak u y≠0:=fun g=>by
  have:=c y hxy (by grind);rw[pV g] at this;omega
 have O:0< ab (ak u x):=by unfold ab;split <;> grind
 have Q:0< ab (ak u y):=by unfold ab;split <;> grind
 obtain⟨e1,Y,a2,a3⟩:=less e (ρ* h) he (Rat.mul_pos X M);obtain⟨e2,b1,b2,D⟩:=less (ab (ak u x)) (ab (ak u y)) O Q;obtain⟨e3,U,c2,c3⟩:=less e1 e2 Y b1;refine⟨e3,U,fun z j l=>⟨?_,c z j l⟩⟩;by_cases big:e<=ab (ak u z);grind
 obtain⟨w,w1,N,S,J⟩:∃w,z<=w/\w<=y/\w- z<=h/\(w=y\/w- z=h):=by
  by_cases g:z+h<=y;exact⟨z+h,by grind,g,by grind,.inr (by grind)⟩;exact⟨y,l,by grind,by grind,.inl rfl⟩
 obtain⟨v,v1,v2,R,F⟩:∃v,x<=v/\v<=z/\z- v<=h/\(v=x\/z- v=h):=by
  by_cases g:x<=z- h;exact⟨z- h,g,by grind,by grind,.inr (by grind)⟩;exact⟨x,by grind,j,by grind,.inl rfl⟩
 rcases(r z w (d _ j l) (d _ (by grind) N) w1 S).2 with⟨q,_⟩|⟨s,s1,s2,_,s3⟩
 exact absurd q big;rcases(r v z (d _ v1 (by grind)) (d _ j l) v2 R).2 with⟨_,q⟩|⟨t,t1,_,t2,t3⟩
 exact absurd q big;have A:s=t:=by rcases s1 with rfl|rfl <;> rcases t1 with rfl|rfl <;> grind
 subst A;have sw:=c w (by grind) N;have sv:=c v v1 (by grind);have sz:=c z j l;have n1:=Rat.mul_nonneg (show 0<=ρ by grind) (show 0<=w- z by grind);have n2:=Rat.mul_nonneg (show 0<=ρ by grind) (show 0<=z- v by grind);have G:w=y->ak u w=ak u y:=fun g=>by rw[g]
 have K:v=x->ak u v=ak u x:=fun g=>by rw[g]
 have E:w- z=h->ρ* (w- z)=ρ* h:=fun g=>by rw[g]
 have gv:z- v=h->ρ* (z- v)=ρ* h:=fun g=>by rw[g]
 refine Kl ?_ (by grind);have k:∀q:Rat,0< q->ab q=q:=fun q g=>by unfold ab;rw[if_neg (by grind)]
 have i:∀q:Rat,q< 0->ab q= -q:=fun q g=>by unfold ab;rw[if_pos g]
 rcases dD z u with⟨a,b⟩|⟨a,b⟩|⟨a,b⟩
 have B:0< ak u w:=by rcases dD w u with⟨_,g⟩|⟨g,_⟩|⟨g,_⟩<;> first|exact g|omega
 have C:0< ak u v:=by rcases dD v u with⟨_,g⟩|⟨g,_⟩|⟨g,_⟩<;> first|exact g|omega
 have T:=k _ B;have V:=k _ C;left;rcases s1 with rfl|rfl
 rcases F with g|g
 rw[<-K g] at b2;grind;have:=gv g;grind;rcases J with g|g
 rw[<-G g] at D;grind;have:=E g;grind;have B:ak u w< 0:=by rcases dD w u with⟨g,_⟩|⟨_,g⟩|⟨g,_⟩<;> first|exact g|omega
 have C:ak u v< 0:=by rcases dD v u with⟨g,_⟩|⟨_,g⟩|⟨g,_⟩<;> first|exact g|omega
 have T:=i _ B;have V:=i _ C;right;rcases s1 with rfl|rfl
 rcases J with g|g
 rw[<-G g] at D;grind;have:=E g;grind;rcases F with g|g
 rw[<-K g] at b2;grind;have:=gv g;grind;omega
theorem Sq.calm(H:Sq u L){e:Rat}(he:0< e)(hxy:x<=y)(ha:∀z,x<=z->z<=y->e<=ab (ak u z)):chV (u::L) x=chV (u::L) y:=H.1.same he hxy ha
end
theorem qs_one:qs 1=1:=by decide
theorem y6{p:Lq}{t:Nat}(h:bdL p t)(ht:1<=t):qs (aM p)<=t:=by
 by_cases h0:ao p=[];rw[rY h0];exact Nat.le_trans (by decide:qs 0<=1) ht;have a:=List.length_pos_iff.2 h0;exact h _ (cI (List.mem_of_getElem? (dn (n:=(ao p).length- 1) (by omega))))
theorem w6{p:Lq}{k:Rat}(hk:k≠0):(ao (ba p k)).length=(ao p).length:=by
 by_cases h:nz p;obtain⟨a,b,_⟩:=jn h hk (r:=ba p k) fun x=>bG p k x;have d:=List.length_pos_iff.2 a;have c:=List.length_pos_iff.2 h;unfold dg at b;omega;have e:ao p=[]:=Classical.byContradiction h
 have e2:ao (ba p k)=[]:=by
  have:Eqv (ba p k) []:=fun x=>by rw[bG,jz h,aV];grind
  exact eqv_trim.1 this
 rw[e,e2]
section
variable {h:Nat}{p:Lq}
def HtF(f:Nat->Rat)(k:Rat)(h:Nat):Prop:=∀i,∃z:Int,f i* k=(z:Rat)/\bl z.natAbs<=h
def Ht(p:Lq)(h:Nat):Prop:=∃k:Rat,k≠0/\HtF (coP p) k h
theorem HtF.mono{f:Nat->Rat}{k:Rat}{h':Nat}(H:HtF f k h)(hh:h<=h'):HtF f k h':=fun i=>by
 obtain⟨z,b,a⟩:=H i;grind
theorem Ht.mono{h':Nat}(H:Ht p h)(hh:h<=h'):Ht p h':=by
 obtain⟨k,a,H⟩:=H;exact⟨k,a,H.mono hh⟩
theorem Ht.scale{r:Lq}{c:Rat}(H:Ht p h)(hc:c≠0)(e:∀i,coP r i=coP p i* c):Ht r h:=by
 obtain⟨k,b,H⟩:=H;refine⟨k/ c,fun e=>?_,fun i=>?_⟩;have:k/ c* c=k:=Rat.div_mul_cancel hc;grind;obtain⟨z,d,a⟩:=H i;grind
theorem Ht.trim(H:Ht p h):Ht (ao p) h:=H.scale (c:=1) (by grind) fun i=>by rw[bv];grind
theorem Ht.zero(e:∀i,coP p i=0)(h:Nat):Ht p h:=⟨1,by grind,fun i=>⟨0,by grind,Nat.zero_le _⟩⟩
theorem B1(o:Lq)(a:Rat)(q:Lq)(i n:Nat):∀k,coP (fE o a q i k) n=if i<=n/\n< i+k/\n< o.length then coP o n- a* coP q (n- i) else coP o n
 |0=>by rw[fE,if_neg (by omega)]
 |k+1=>by
  rw[fE,oU,B1 o a q i n k,gV];by_cases h:n=i+k/\i+k< o.length;rw[if_pos h,if_pos (by omega),nB o a q i k (i+k) (by omega),h.1,show i+k- i=k by omega];grind
theorem Hd{x y:Int}{k:Nat}(hx:bl x.natAbs<=k)(hy:bl y.natAbs<=k):bl (x- y).natAbs<=k+1:=by
 exact sO hx (by grind)
theorem FM{q:Lq}{lead l:Rat}{g:Nat}(hl:coP q (q.length- 1)=lead)(h0:lead≠0)(l0:l≠0)(hq:HtF (coP q) l g):∀(c:Nat) (u o:Lq) (k:Rat) (H:Nat),k≠0->HtF (coP o) k H->HtF (coP u) (k/ l) H->
    ∃k',k'≠0/\HtF (coP (kx q lead c u o).1) (k'/ l) (H+c* (g+1))/\HtF (coP (kx q lead c u o).2) k' (H+c* (g+1))
 |0,u,o,k,H,k0,ho,hu=>⟨k,k0,by rw[Nat.zero_mul];exact hu,by rw[Nat.zero_mul];exact ho⟩
 |n+1,u,o,k,H,k0,ho,hu=>by
  obtain⟨zl,a,d⟩:=hq (q.length- 1);rw[hl] at a
  have B:(zl:Rat)≠0:=fun e=>by
   grind
  obtain⟨w,m,s⟩:=ho (n+q.length- 1);generalize j:coP o (n+q.length- 1) / lead=t;have v:t* lead=coP o (n+q.length- 1):=by grind
  have p:k/ l* l=k:=Rat.div_mul_cancel l0;have r:k* (zl:Rat) / l=k/ l* zl:=by grind
  rw[kx]
  obtain⟨k',C,E,D⟩:=FM hl h0 l0 hq n (u.set n (coP o (n+q.length- 1) / lead)) (if coP o (n+q.length- 1) / lead=0 then o else fE o (coP o (n+q.length- 1) / lead) q n q.length) (k* zl) (H+(g+1)) (fun e=>by
   grind) (fun i=>by
   rw[j]
   have b:∃z:Int,coP o i* (k* (zl:Rat))=(z:Rat)/\bl z.natAbs<=H+(g+1):=by
    obtain⟨z,h,f⟩:=ho i;refine⟨z* zl,by rw[Rat.intCast_mul,<-h];grind,?_⟩;have:=dC f d;omega
   split;exact b;rw[B1];split;obtain⟨z,h,f⟩:=ho i;obtain⟨x,y,A⟩:=hq (i- n);refine⟨z* zl- w* x,?_,?_⟩;rw[Rat.intCast_sub,Rat.intCast_mul,Rat.intCast_mul,<-h,<-m,<-y,<-a,<-v];grind;have:=Hd (dC f d) (dC s A);omega;grind) (fun i=>by
   rw[j,ud,r];split;refine⟨w,?_,by omega⟩;rw[<-a,<-m,<-v];have:t* (k/ l* (lead* l))=t* lead* (k/ l* l):=by grind
   rw[this,p];obtain⟨z,h,f⟩:=hu i;refine⟨z* zl,by rw[Rat.intCast_mul,<-h];grind,?_⟩;have:=dC f d;omega)
  grind
theorem zU{q:Lq}{g:Nat}(hp:Ht p h)(hq:Ht q g)(h0:nz q):Ht (dq p q).1 (h+((ao p).length+1- (ao q).length) * (g+1))/\Ht (dq p q).2 (h+((ao p).length+1- (ao q).length) * (g+1)):=by
 obtain⟨k,m,hp⟩:=hp.trim;obtain⟨l,f,hq⟩:=hq.trim;have r:=List.length_pos_iff.2 h0;have s:=dn (l:=q) (n:=(ao q).length- 1) (by omega);have o:coP (ao q) ((ao q).length- 1)=aM q:=by unfold coP;grind
 obtain⟨b,c,d,j⟩:=FM o (dd h0) f hq ((ao p).length+1- (ao q).length) (List.replicate ((ao p).length+1- (ao q).length) 0) (ao p) k h m hp fun i=>by
  refine⟨0,?_,Nat.zero_le _⟩
  have:coP (List.replicate ((ao p).length+1- (ao q).length) (0:Rat)) i=0:=by
   unfold coP;grind
  grind
 have a:b/ l≠0:=fun e=>by grind
 exact⟨(show Ht _ _ from⟨b/ l,a,d⟩).trim,(show Ht _ _ from⟨b,c,j⟩).trim⟩
theorem Ht.of{s:Nat}(h:bdL p s):Ht p (s+1+p.length* s):=by
 have d:iy p 1≠0:=ri _ (by decide);have hb:=zW p 1 h;have c:=(lL p 1).2;rw[jE] at hb;refine⟨nQ (iy p 1),fun e=>d (nQ_zero.1 e),fun i=>?_⟩;by_cases hi:i< p.length;have b:=List.mem_of_getElem? (ci hi);have a:=qt (coP p i) _ (c _ b);have f:=y9 (coP p i) (iy p 1);have g:=h _ b;rw[o4] at a;by_cases hn:coP p i* nQ (iy p 1)< 0;refine⟨-(iF (coP p i) (iy p 1):Int),by grind,?_⟩;rw[Int.natAbs_neg,Int.natAbs_natCast];omega;rw[if_neg hn] at a;exact⟨(iF (coP p i) (iy p 1):Int),a,by grind⟩;refine⟨0,?_,Nat.zero_le _⟩;rw[eH (by omega),Rat.zero_mul];rfl
theorem Ht.derive(H:Ht p h):Ht (bi p) (h+bl p.length):=by
 obtain⟨k,b,H⟩:=H;refine⟨k,b,fun i=>?_⟩;rw[fh];by_cases hi:i+1< p.length;obtain⟨z,c,a⟩:=H (i+1);refine⟨z* ((i+1:Nat):Int),by grind,?_⟩;have:=dC a (show bl (((i+1:Nat):Int)).natAbs<=bl p.length by exact dI (by omega));omega;refine⟨0,?_,Nat.zero_le _⟩;rw[eH (by omega),Rat.zero_mul,Rat.zero_mul];rfl
theorem Ht.quot(H:Ht p h)(i j:Nat)(hj:coP p j≠0)(h1:1<=h):qs (coP p i/ coP p j)<=h:=by
 obtain⟨k,g,H⟩:=H;obtain⟨z,l,d⟩:=H i;obtain⟨w,c,b⟩:=H j
 have m:w≠0:=fun e=>by
  rw[e] at c;grind
 have e:coP p i/ coP p j=(z:Rat) / (w:Rat):=by grind
 have a:0< w.natAbs:=by omega
 by_cases hw:0< w
 have e2:(z:Rat) / (w:Rat)=mkRat z w.natAbs:=by
  rw[mW];show Rat.divInt (z* ((1:Nat):Int)) (((1:Nat):Int) * w)=_;rw[<-Rat.divInt_ofNat];grind
 rw[e,e2];exact fF a d b
 have e2:(z:Rat) / (w:Rat)=mkRat (-z) w.natAbs:=by
  have f:(z:Rat) / (w:Rat)=((-z:Int):Rat) / ((-w:Int):Rat):=by grind
  rw[f,mW];show Rat.divInt (-z* ((1:Nat):Int)) (((1:Nat):Int) * -w)=_;rw[<-Rat.divInt_ofNat];grind
 rw[e,e2];exact fF a (by grind) b
theorem Ht.monic(H:Ht p h)(h1:1<=h):bdL (cu p) h/\Ht (cu p) h:=by
 by_cases h0:nz p;have b:cu p=ba p (1/ aM p):=by unfold cu;rw[if_neg h0]
 have c:1/ aM p≠0:=fun e=>by have:=Rat.div_mul_cancel (a:=1) (oJ h0);grind
 refine⟨k6 fun i=>?_,H.scale c fun i=>by rw[b,cy]⟩
 have e:coP (cu p) i=coP p i/ coP p (dg p):=by
  rw[b,cy,(eA h0).2,Rat.div_def,Rat.div_def,Rat.one_mul]
 rw[e];exact H.quot i _ (eA h0).1.1 h1;have e:cu p=[]:=by unfold cu;rw[if_pos (Decidable.byContradiction h0)]
 rw[e];exact⟨fun q d=>(by grind),.zero (fun i=>rfl) _⟩
theorem BR(D d:Nat):∀(l:Lq) (n:Nat),d∣n->(∀c∈l,d∣iF c D)->d∣iN D l n
 |[],_,h,_=>h
 |c::l,n,h,hc=>BR D d l _ (Nat.dvd_gcd h (hc c (List.mem_cons_self ..))) fun x a=>hc x (List.mem_cons_of_mem _ a)
theorem Ht.prim(H:Ht p h)(h0:nz p)(h1:1<=h):bdL (b4 p) h/\Ht (b4 p) h:=by
 obtain⟨c,X,W⟩:=oz h0;have o:∀i,coP (b4 p) i=coP p i* (nQ (iy (ao p) 1) / nQ (iN (iy (ao p) 1) (ao p) 0)):=fun i=>by unfold b4;rw[cy,bv]
 have G:iy (ao p) 1≠0:=ri _ (by decide);have Y:=List.length_pos_iff.2 h0;have N:=dn (l:=p) (n:=(ao p).length- 1) (by omega);have K:=List.mem_of_getElem? N;have d:=(lL (ao p) 1).2;have u:=(qq (iy (ao p) 1) (ao p) 0).2;have C:=BR (iy (ao p) 1);generalize S:iy (ao p) 1=D at *
 have F:iN D (ao p) 0≠0:=fun e=>by
  have:=u _ K;rw[e] at this;exact y8 (d _ K) G (dd h0) (Nat.eq_zero_of_zero_dvd this)
 have R:nQ D≠0:=fun e=>G (nQ_zero.1 e);have U:nQ (iN D (ao p) 0)≠0:=fun e=>F (nQ_zero.1 e)
 refine⟨k6 fun i=>?_,H.scale (c:=nQ D/ nQ (iN D (ao p) 0)) (fun e=>by
  grind) o⟩
 obtain⟨k,V,H⟩:=H
 -- k=D* (m/ n)
 generalize Z:k/ nQ D=r;have O:k=r* nQ D:=by grind
 have r0:r≠0:=fun e=>by grind
 have L:r* (nQ r.den)=(r.num:Rat):=by
  have e:(r.num:Rat) / nQ r.den=r:=by
   rw[mW];simp
  grind
 have co:∀j,j< (ao p).length->r.den∣iF (coP p j) D/\∃z:Int,(iF (coP p j) D* r.num.natAbs=z.natAbs* r.den/\bl z.natAbs<=h):=fun j v=>by
  obtain⟨z,Q,y⟩:=H j;have g:=List.mem_of_getElem? (ci v);rw[bv] at g;have f:=qt (coP p j) D (d _ g)
  have w:iF (coP p j) D* r.num.natAbs=z.natAbs* r.den:=by
   have b1:coP p j* nQ D* (r.num:Rat)=(z:Rat) * nQ r.den:=by rw[<-Q,O,<-L];grind
   have b2:∃s:Int,coP p j* nQ D=(s:Rat)/\s.natAbs=iF (coP p j) D:=by
    rw[o4] at f;by_cases hn:coP p j* nQ D< 0;rw[if_pos hn] at f;exact⟨-(iF (coP p j) D:Int),by rw[Rat.intCast_neg];grind,by rw[Int.natAbs_neg,Int.natAbs_natCast]⟩;rw[if_neg hn] at f;exact⟨(iF (coP p j) D:Int),f,Int.natAbs_natCast _⟩
   obtain⟨s,s1,s2⟩:=b2;rw[s1] at b1
   have M:s* r.num=z* (r.den:Int):=by
    have:((s* r.num:Int):Rat)=((z* (r.den:Int):Int):Rat):=by rw[Rat.intCast_mul,Rat.intCast_mul];exact b1
    exact_mod_cast this
   have J:=congrArg Int.natAbs M;rw[Int.natAbs_mul,Int.natAbs_mul,s2,Int.natAbs_natCast] at J;exact J
  refine⟨?_,z,w,y⟩;have A:Nat.Coprime r.den r.num.natAbs:=Nat.coprime_comm.1 r.reduced;exact A.dvd_of_dvd_mul_right ⟨z.natAbs,by rw[w,Nat.mul_comm]⟩
 rw[o];by_cases hi:i< (ao p).length;obtain⟨z,w,y⟩:=(co i hi).2;have b:=List.mem_of_getElem? (ci hi);rw[bv] at b
 have E:r.den∣iN D (ao p) 0:=C _ _ _ (Nat.dvd_zero _) fun c x=>by
  obtain⟨j,v⟩:=List.mem_iff_getElem?.1 x
  have q:j< (ao p).length:=by
   by_cases h:j< (ao p).length;exact h;rw[List.getElem?_eq_none (by omega)] at v;cases v
  have e:=ci q;rw[v,bv] at e;cases e;exact(co j q).1
 have B:=u _ b;have f:=qt (coP p i) D (d _ b)
 have a:iF (coP p i) D/ iN D (ao p) 0<=z.natAbs:=by
  have q1:r.den<=iN D (ao p) 0:=Nat.le_of_dvd (by omega) E
  have q2:0< r.num.natAbs:=by
   have:r.num≠0:=fun e=>r0 (Rat.num_eq_zero.1 e);omega
  refine Nat.div_le_of_le_mul ?_
  calc iF (coP p i) D<=iF (coP p i) D* r.num.natAbs:=Nat.le_mul_of_pos_right _ q2
   _=z.natAbs* r.den:=w
   _<=iN D (ao p) 0* z.natAbs:=by rw[Nat.mul_comm];exact Nat.mul_le_mul_right _ q1
 have hb:bl (iF (coP p i) D/ iN D (ao p) 0)<=h:=Nat.le_trans (dI a) y
 have e1:fq (coP p i* (nQ D/ nQ (iN D (ao p) 0)))=nQ (iF (coP p i) D/ iN D (ao p) 0):=by
  have e2:coP p i* (nQ D/ nQ (iN D (ao p) 0))=coP p i* nQ D/ nQ (iN D (ao p) 0):=by rw[Rat.div_def,Rat.div_def];grind
  have T:nQ (iF (coP p i) D) / nQ (iN D (ao p) 0)=nQ (iF (coP p i) D/ iN D (ao p) 0):=by
   rw[yY _ _ F,xj _ _ F B]
  have t:(0:Rat)< nQ (iN D (ao p) 0):=by
   rw[<-num_pos];show 0< ((iN D (ao p) 0:Nat):Int);omega
  rw[e2,<-T,<-f,Ah,Ah,Rat.div_def,Rat.div_def,fR];congr 1;have:(0:Rat)< (nQ (iN D (ao p) 0))⁻¹:=Rat.inv_pos.2 t;unfold ab;rw[if_neg (by grind)]
 rw[<-C4,e1];exact nh hb h1;have:coP p i=0:=by rw[<-bv];exact eH (by omega)
 rw[this,Rat.zero_mul];exact Nat.le_trans (by decide:qs 0<=1) h1
end
def hG:Nat->Nat->Nat->Nat->Nat->Nat->Bool
 |0,_,_,_,_,_=>false
 |f+1,m,n,s,t,X=>if n=0 then decide (s<=X) else
  decide (2^ (m+1- n) * (s+2* t+1)<=137438953472) && (List.range n).all fun k=>hG f n k t (s+(m+1- n) * (t+1)) X
theorem Fq:∀f m n s t X (p q:Lq),hG f m n s t X=true->(ao p).length=m->(ao q).length=n->bdL p s->bdL q t->Ht p s->Ht q t->1<=s->1<=t->p.length<=1000->q.length<=1000->X<=137438953472->
    ∃g,pu f p q=some g/\g.length<=1000/\Ht g X/\bdL g X
 |0,_,_,_,_,_,_,_,h,_,_,_,_,_,_,_,_,_,_,_=>by cases h
 |f+1,m,n,s,t,X,p,q,h,hm,hn,hp,hq,kp,kq,hs,ht,hp1,hq1,hX=>by
  rw[hG] at h;rw[pu];by_cases h0:n=0;rw[if_pos h0] at h;have d:=of_decide_eq_true h;have e:ao q=[]:=List.length_eq_zero_iff.1 (by omega);rw[if_pos e,if_pos (dG hp (by omega))];obtain⟨a,b⟩:=kp.monic hs;exact⟨_,rfl,Nat.le_trans (pp p) hp1,b.mono d,fun x w=>Nat.le_trans (a x w) d⟩;rw[if_neg h0] at h;simp only[Bool.and_eq_true,decide_eq_true_eq,List.all_eq_true,List.mem_range] at h;obtain⟨z,r⟩:=h;have c:ao q≠[]:=fun e=>by grind
  have y:=mxL_le hp hs;have v:=mxL_le hq ht;have k:2^ (m+1- n) * (mxL p+2* mxL q+1)<=2^ (m+1- n) * (s+2* t+1):=Nat.mul_le_mul_left _ (by omega);rw[if_neg c,if_pos (show u7 p q from⟨by grind,by omega,by omega⟩)];have l:=(zU kp kq c).2;rw[hm,hn] at l;obtain⟨b1,b2⟩:=l.monic (by omega);have o:=(rf (p:=p) (q:=q)).2;have u:=pp (dq p q).2;have i:(ao (dq p q).2).length< n:=by rw[<-hn];exact(oT p q c).2
  have j:(ao (cu (dq p q).2)).length=(ao (dq p q).2).length:=by
   by_cases hz:ao (dq p q).2=[];unfold cu;rw[if_pos hz,hz];rfl;unfold cu;rw[if_neg hz];exact w6 fun e=>by have:=Rat.div_mul_cancel (a:=1) (dd hz);grind
  exact Fq f n _ t _ X q _ (r _ i) hn j hq b1 kq b2 ht (by omega) hq1 (by omega) hX
def cB:Nat->Nat->Nat->Nat->Nat->Nat->Nat->Bool
 |0,_,_,_,_,_,_=>false
 |f+1,m,n,s,t,b,T=>if n=0 then true else
  decide (t<=T) && decide ((n+4) * b<=34359738368) && decide (2^ (m+1- n) * (s+2* t+1)<=137438953472) &&
   (List.range n).all fun k=>cB f n k t (s+(m+1- n) * (t+1)) (2^ (m+1- n) * (s+2* t+1)) T
theorem x8:∀k f m n s t b T (last next:Lq) (acc:Lw),cB k m n s t b T=true->(ao last).length=m->(ao next).length=n->next.length=n->bdL last s->Ht last s->Ht next t->bdL next b->1<=s->1<=t->1<=b->last.length<=1000->next.length<=1000->
    ∃out,oc f k last next acc=some out/\out.length<=acc.length+n/\∀q∈out,q∈acc\/(nz q/\q.length<=n/\bdL q T)
 |0,_,_,_,_,_,_,_,_,_,_,h,_,_,_,_,_,_,_,_,_,_,_,_=>by cases h
 |k+1,f,m,n,s,t,b,T,last,next,acc,h,hm,hn,hnl,hl,kl,kn,hnb,hs,ht,hb,hl1,hn1=>by
  rw[cB] at h;rw[oc];by_cases h0:n=0
  ·grind
  rw[if_neg h0] at h;simp only[Bool.and_eq_true,decide_eq_true_eq,List.all_eq_true,List.mem_range] at h;obtain⟨⟨⟨C,Q⟩,L⟩,A⟩:=h;have g:ao next≠[]:=fun e=>by grind
  obtain⟨p1,p2⟩:=kn.prim g ht;obtain⟨c,M,D⟩:=oz g;obtain⟨d1,d2,_⟩:=jn g (show c≠0 by grind) D
  have d:(ao (b4 next)).length=n:=by
   have N:=List.length_pos_iff.2 d1;have O:=List.length_pos_iff.2 g;unfold dg at d2;omega
  have u:=mxL_le hnb hb;have F:=mxL_le hl hs;have H:=mxL_le p1 ht
  have z:(b4 next).length=n:=by
   unfold b4;unfold b4 at d;rw[<-d];unfold ba;rw[cw]
  have v:2^ (m+1- n) * (mxL last+2* mxL (b4 next)+1)<=2^ (m+1- n) * (s+2* t+1):=Nat.mul_le_mul_left _ (by omega);have o:(n+4) * mxL next<=(n+4) * b:=Nat.mul_le_mul_left _ u
  rw[if_neg g,if_pos (show u4 next/\u7 last (b4 next)/\ao (b4 next)≠[] from⟨⟨by grind,by omega⟩,⟨by grind,by omega,by omega⟩,d1⟩)];have y:=(zU kl p2 d1).2;rw[hm,d] at y;have w:=(FN hl p1 hs ht d1 (by rw[hm,d];exact Nat.le_refl _)).2;have j:1<=2^ (m+1- n) * (s+2* t+1):=Nat.mul_pos (Nat.two_pow_pos _) (by omega);have l:(-1:Rat)≠0:=by decide+kernel
  have p:(ao (ba (dq last (b4 next)).2 (-1))).length< n:=by rw[w6 l,<-d];exact(oT last _ d1).2
  have r:(ba (dq last (b4 next)).2 (-1)).length=(ao (ba (dq last (b4 next)).2 (-1))).length:=by unfold ba;rw[cw]
  obtain⟨out,o1,o2,E⟩:=x8 k f n _ t _ _ T (b4 next) (ba (dq last (b4 next)).2 (-1)) (acc++[b4 next]) (A _ p) d rfl r p1 p2 (y.scale l fun i=>cy _ _ i)
   (k6 fun i=>by
    rw[cy,show coP (dq last (b4 next)).2 i* -1= -coP (dq last (b4 next)).2 i by grind,fw];exact eM w j i) ht (by omega) j (by omega) (by omega)
  refine⟨out,o1,?_,fun q B=>?_⟩;rw[List.length_append,List.length_singleton] at o2;omega;rcases E q B with h|⟨a,K,J⟩
  rcases List.mem_append.1 h with h|h
  exact .inl h;rw[List.mem_singleton.1 h];exact .inr ⟨d1,by omega,fun x G=>Nat.le_trans (p1 x G) C⟩;grind
theorem wz(p:Lq)(k:Rat):ao (ba p k)=ba p k:=cw _
theorem kT(p:Lq):ao (cu p)=cu p:=by
 unfold cu;split;rfl;exact cw _
theorem xV{p:Lq}(h:nz p):(bi p).length< (ao p).length:=by
 have c:=List.length_pos_iff.2 h
 have e:bi p=bi (ao p):=by
  have b:ao (bi p)=bi p:=cw _;have a:ao (bi (ao p))=bi (ao p):=cw _;rw[<-b,<-a];exact pO fun i=>by rw[fh,fh,bv]
 have:=kQ (ao p);grind
theorem xU{p:Lq}{s g:Nat}(hl:(ao p).length<=7)(hb:bdL p s)(hs:1<=s)(hH:Ht p g):bdL (bi p) (s+4)/\Ht (bi p) (g+4):=by
 have e:∀i,coP (bi p) i=coP (bi (ao p)) i:=fun i=>by rw[fh,fh,bv]
 constructor;refine k6 fun i=>?_;rw[fh];by_cases hi:i+1< (ao p).length;have a:=dw (coP p (i+1)) (nQ (i+1));have b:=nh (n:=i+1) (k:=3) (gM (by omega)) (by decide);have d:=eM hb hs (i+1);exact Nat.le_trans a (by omega);rw[<-bv,eH (show(ao p).length<=i+1 by omega),Rat.zero_mul];exact Nat.le_trans (by decide:qs 0<=1) (by omega);refine((hH.trim).derive.scale (c:=1) (r:=bi p) (by grind) fun i=>by grind).mono ?_;have:bl (ao p).length<=3:=gM (by omega);omega

theorem root_dv{g:Lq}{a:Rat}(h:ak g a=0):∃w:Lq,∀x,ak g x=ak w x* ak [-a,1] x:=by
 have b:nz [-a,1]:=by
  intro e;have:=trim_nil_iff.1 e 1;rw[df,dA] at this;grind
 have d:dg [-a,1]=1:=(li (n:=1) ⟨by rw[df,dA];grind,fun i m=>by
  obtain⟨j,rfl⟩:∃j,i=j+2:=⟨i- 2,by omega⟩;rfl⟩).2.1
 obtain⟨m1,m2⟩:=jb g b
 have k:∀x,ak (md g [-a,1]) x=0:=by
  by_cases hn:nz (md g [-a,1]);obtain⟨c,f,l⟩:=yT hn (by grind);have:=m1 a;rw[vL] at this;exact absurd (by grind) f;exact jz hn
 exact⟨(dq g [-a,1]).1,fun x=>by grind⟩
theorem H1{p s g:Lq}(hp:nz p)(h1:∀x,ak p x=ak s x* ak g x)(h2:Dv g (bi p)){a:Rat}(ha:ak p a=0):ak s a=0:=by
 by_cases hs:ak s a=0;exact hs;exfalso;obtain⟨F,D⟩:=gX h1 hp;obtain⟨v,hv⟩:=h2
 have c:nz [-a,1]:=by
  intro e;have:=trim_nil_iff.1 e 1;rw[df,dA] at this;grind
 have d:dg [-a,1]=1:=(li (n:=1) ⟨by rw[df,dA];grind,fun i E=>by
  obtain⟨j,rfl⟩:∃j,i=j+2:=⟨i- 2,by omega⟩;rfl⟩).2.1
 have o:ak [-a,1] a=0:=by rw[vL];grind
 have l:∀x,dvE [-a,1] x=1:=fun x=>by
  rw[eG,eG,aO,aV,show dvE [] x=0 from rfl];grind
 have f:∀k,∃w:Lq,∀x,ak g x=ak w x* ak (pw [-a,1] k) x:=by
  intro k
  induction k with
  |zero=>exact⟨g,fun x=>by rw[pw,aO,aV];grind⟩
  |succ k m=>
   obtain⟨w,b⟩:=m
   have h:ak w a=0:=by
    cases k with
    |zero=>
     have e:=b a;rw[pw,aO,aV] at e;grind
    |succ k=>
     obtain⟨W,t⟩:∃W,W=aK s w:=⟨_,rfl⟩;have q1:∀x,ak p x=ak W x* ak (pw [-a,1] (k+1)) x:=fun x=>by rw[h1,b,t,a6];grind
     have q2:∀x,ak (bi p) x=dvE W x* ak (pw [-a,1] (k+1)) x+ak W x* dvE (pw [-a,1] (k+1)) x:=fun x=>by
      rw[cQ,re (q:=aK W (pw [-a,1] (k+1))) (fun x=>by rw[q1,a6]) x,oR]
     obtain⟨Z,y⟩:∃Z,Z=eg (ba W (((k+1:Nat):Int):Rat)) (aK (eg (aK v w) (zV W)) [-a,1]):=⟨_,rfl⟩
     have q3:∀x,ak Z x* ak (pw [-a,1] k) x=0:=fun x=>by
      have e1:=q2 x;have e2:=pw_dv [-a,1] k x;have C:ak (pw [-a,1] (k+1)) x=ak (pw [-a,1] k) x* ak [-a,1] x:=a6 _ _ _;rw[hv,b,e2,l,C] at e1;rw[y,dp,bG,a6,dp,a6,my];grind
     have q4:¬nz Z:=fun A=>by
      have:=(dg_mul' A (Ie c k).1 (r:=[]) (fun x=>by rw[q3,aV])).1;exact this rfl
     have q5:=jz q4 a;rw[y,dp,bG,a6,o,t,a6] at q5;have q6:ak s a* ak w a* (((k+1:Nat):Int):Rat)=0:=by grind
     rcases Rat.mul_eq_zero.1 q6 with e|e
     exact(Rat.mul_eq_zero.1 e).resolve_left hs;have:((k+1:Nat):Int)=0:=by exact_mod_cast e
     omega
   obtain⟨u,B⟩:=root_dv h;exact⟨u,fun x=>by rw[b,B,pw,a6];grind⟩
 obtain⟨w,b⟩:=f (dg g+1);obtain⟨m1,m2⟩:=gX b D;have z:=(dg_mul' m1 m2 b).2.1;rw[(Ie c _).2,d] at z;omega
theorem Gb{f:Nat}{p s:Lq}(h:o5 f p=some s)(hp:nz p)(a:Rat):ak s a=0↔ak p a=0:=by
 unfold o5 at h;split at h;cases hg:pu f p (bi p) with
 |none=>grind
 |some g=>
  rw[hg,Option.bind_some] at h;split at h;cases h;obtain⟨d,j,i,q,b,t⟩:=lD f _ _ _ hg (.inl hp);obtain⟨m1,m2⟩:=jb p d;obtain⟨u,l⟩:=j;have n:=qv (u:=u) (v:=[]) d (fun x=>by rw[l x,aV];grind) (fun e=>absurd rfl e)
  have hs:∀x,ak p x=ak (dq p g).1 x* ak g x:=fun x=>by
   have:=m1 x;rw[n x,aV] at this;grind
  obtain⟨k,r,o,m⟩:=oF (dq p g).1;have c:k≠0:=fun e=>by grind
  rw[m];constructor;intro e;rcases Rat.mul_eq_zero.1 e with e|e
  grind;exact absurd e c;intro e;rw[H1 hp hs i e];grind;cases h
 cases h
theorem JY{lead:Rat}{s:Nat}(hl:qs lead<=s):∀(l:Lq) (m:Rat),bdL l s->qs m<=2* s+1->qs (boL lead l m)<=2* s+1
 |[],m,_,h=>h
 |c::l,m,hb,h=>by
  refine JY hl l _ (fun q b=>hb q (List.mem_cons_of_mem _ b)) (Fc (fun x a=>?_) (Nat.le_add_left 1 _));have e:=hb c (List.mem_cons_self ..);have d:=ik c lead;rcases List.mem_cons.1 a with rfl|a
  exact h;rw[List.mem_singleton.1 a,C4];omega
theorem B9{p:Lq}{s:Nat}(h:bdL p s)(hs:1<=s):qs (a8 p)<=2* s+3:=by
 have c:=JY (y6 h hs) ((ao p).take ((ao p).length- 1)) 0 (fun q a=>h q (cI (List.mem_of_mem_take a))) (Nat.le_trans (by decide:qs 0<=1) (Nat.le_add_left 1 _));have b:=gx (boL (aM p) ((ao p).take ((ao p).length- 1)) 0) 1;have d:=qs_one;unfold a8;omega
end Go.Abs
