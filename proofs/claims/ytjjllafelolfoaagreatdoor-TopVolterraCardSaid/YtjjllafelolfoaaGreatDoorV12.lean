/- Part V12 of the proof. -/
import Derived.Test.YtjjllafelolfoaaGreatDoorV11
set_option linter.all false
namespace Go.Abs
theorem maxL2(m a:Rat):m≤maxL [m,a]∧a≤maxL [m,a]:=by
 have e:maxL [m,a]=if 0< cmpQ a m then a else m:=by
  unfold maxL bS_;grind
 rw[e];unfold cmpQ;grind
theorem kF_(q:Rat):absQ q=ab q:=gY_ q
theorem hC_(lead:Rat):∀(l:List Rat) (m:Rat),m≤boL lead l m∧∀c∈l,ab (c/ lead)≤boL lead l m
 |[],m=>⟨by rw[boL];grind,fun _ h=>by cases h⟩
 |c::l,m=>by
  obtain⟨h1,h2⟩:=hC_ lead l (maxL [m,absQ (c/ lead)]);obtain⟨h3,h4⟩:=maxL2 m (absQ (c/ lead));rw[boL];refine⟨by grind,fun d hd=>?_⟩;rcases List.mem_cons.1 hd with rfl|hd
  rw[kF_] at *;grind;grind
theorem gA_(p:List Rat):1≤a1_ p:=by
 have:=(hC_ (leadP p) ((trimQ p).take ((trimQ p).length- 1)) 0).1;unfold a1_;grind
theorem big{B x:Rat}(hB:1≤B)(hx:x≤ -B):∀(l:List Rat) (lead:Rat),l.getLast?=some lead→lead≠0→(∀c∈l.dropLast,ab c≤(B- 1) * ab lead)→
    ab lead≤ab (evalP l x)∧sgE x l=if l.length % 2=1 then sgZ lead.num else -sgZ lead.num
 |[],_,h,_,_=>by cases h
 |[a],lead,h,h0,_=>by
  have e:a=lead:=by grind
  subst e;have e:evalP [a] x=a:=by rw[al_,am_];grind
  refine⟨by grind,?_⟩;unfold sgE;grind
 |a::b::m,lead,h,h0,hc=>by
  rw[List.getLast?_cons_cons] at h;rw[List.dropLast_cons_cons] at hc;obtain⟨i1,i2⟩:=big hB hx (b::m) lead h h0 fun c hcm=>hc c (List.mem_cons_of_mem _ hcm);have ha:=hc a (List.mem_cons_self ..);have e:evalP (a::b::m) x=evalP (b::m) x* x+a:=al_ ..
  have flip:(if (a::b::m).length % 2=1 then sgZ lead.num else -sgZ lead.num)= -sgE x (b::m):=by
   grind
  rw[flip]
  have hE:0< ab (evalP (b::m) x):=by
   have:0< ab lead:=by unfold ab;grind
   grind
  have h1:=Rat.mul_le_mul_of_nonneg_left i1 (show 0≤B- 1 by grind);have h2:=ab_le.1 (show ab a≤(B- 1) * ab (evalP (b::m) x) by grind);rcases aS_ x (b::m) with⟨c1,c2⟩|⟨c1,c2⟩|⟨c1,c2⟩
  have h3:ab (evalP (b::m) x)=evalP (b::m) x:=by unfold ab;rw[if_neg (by grind)]
  have h4:=Rat.mul_le_mul_of_nonneg_left hx (show 0≤evalP (b::m) x by grind);rw[h3] at h2 i1;have h5:evalP (a::b::m) x≤ -evalP (b::m) x:=by rw[e];grind
  refine⟨?_,by rw[c1,eh_ (by grind)]⟩;have h6:ab (evalP (a::b::m) x)= -evalP (a::b::m) x:=by unfold ab;rw[if_pos (by grind)]
  grind;have h3:ab (evalP (b::m) x)= -evalP (b::m) x:=by unfold ab;rw[if_pos c2]
  have h4:=Rat.mul_le_mul_of_nonneg_left hx (show 0≤ -evalP (b::m) x by grind);rw[h3] at h2 i1;have h5: -evalP (b::m) x≤evalP (a::b::m) x:=by rw[e];grind
  refine⟨?_,by rw[c1,c0_ (by grind)];decide⟩;have h6:ab (evalP (a::b::m) x)=evalP (a::b::m) x:=by unfold ab;rw[if_neg (by grind)]
  grind;rw[c2] at hE;exact absurd hE (by decide+kernel)
theorem iL_{q:List Rat}(h:nz q){x:Rat}(hx:x≤ -a1_ q):ab (leadP q)≤ab (evalP q x)∧sgE x q=sgI q:=by
 have hl:=List.length_pos_iff.2 h;have hg:=bk_ (l:=q) (n:=(trimQ q).length- 1) (by omega)
 have h1:=big (gA_ q) hx (trimQ q) (leadP q) (by grind) (bj_ h) fun c hc=>by
  rw[List.dropLast_eq_take] at hc;have h2:=(hC_ (leadP q) _ 0).2 c hc;have h3:=bx_ (c/ leadP q) (leadP q);rw[Rat.div_mul_cancel (bj_ h)] at h3;have h4:=Rat.mul_le_mul_of_nonneg_right h2 (ab_nn (leadP q));unfold a1_;grind
 have e:sgE x (trimQ q)=sgE x q:=by unfold sgE;rw[aT_]
 rw[aT_] at h1;unfold sgI degP;grind
theorem qb_:∀l:List (List Rat),(∀q∈l,nz q)→∃M:Rat,∀x,x≤ -M→l.map (sgE x)=l.map sgI
 |[],_=>⟨0,fun _ _=>rfl⟩
 |q::l,h=>by
  obtain⟨M,hM⟩:=qb_ l fun r hr=>h r (List.mem_cons_of_mem _ hr);have hq:=h q (List.mem_cons_self ..);by_cases hb:a1_ q≤M;exact⟨M,fun x hx=>by rw[List.map_cons,List.map_cons,hM x hx,(iL_ hq (by grind)).2]⟩;exact⟨a1_ q,fun x hx=>by rw[List.map_cons,List.map_cons,hM x (by grind),(iL_ hq hx).2]⟩
def sg(k:Nat):Rat:=(-1) ^ k
theorem pow_ne{a:Rat}(h:a≠0)(n:Nat):a^ n≠0:=by
 induction n with
 |zero=>rw[Rat.pow_zero];grind
 |succ n ih=>rw[Rat.pow_succ];intro e;rcases Rat.mul_eq_zero.1 e with e|e;exact ih e;exact h e
theorem kg_{p:List Rat}(h:nz p):leadP p≠0:=bj_ h
def Dv(d p:List Rat):Prop:=∃u,∀x,evalP p x=evalP u x* evalP d x
theorem cJ_{p q r:List Rat}(h:∀x,evalP r x=evalP p x* evalP q x)(hr:nz r):nz p∧nz q:=by
 constructor;intro e;have e':¬nz p:=fun h=>h e;exact absurd rfl ((pZ_ (q:=[]) fun x=>by rw[h,cR_ e',am_];grind).1 hr);intro e;have e':¬nz q:=fun h=>h e;exact absurd rfl ((pZ_ (q:=[]) fun x=>by rw[h,cR_ e',am_];grind).1 hr)


theorem mN_{p:List Rat}(h:nz p):degP p=(dg p:Int):=by
 have:=List.length_pos_iff.2 h;unfold degP dg;omega
theorem degP_nil{p:List Rat}:degP p< 0↔¬nz p:=by
 unfold degP nz;constructor;intro h e;have:=List.length_pos_iff.2 e;omega;intro h;have:trimQ p=[]:=Decidable.byContradiction h;rw[this];decide
theorem cx_{p:List Rat}(h:nz p):(∀x,evalP (a4_ p) x=evalP p x* (1/ leadP p))∧nz (a4_ p)∧dg (a4_ p)=dg p:=by
 have hl:=kg_ h;have e:∀x,evalP (a4_ p) x=evalP p x* (1/ leadP p):=fun x=>by unfold a4_;rw[if_neg h,an_]
 have hk:1/ leadP p≠0:=fun e=>by have:1/ leadP p* leadP p=1:=by grind
                                 rw[e] at this;grind
 obtain⟨a,b,_⟩:=dG_ h hk e;exact⟨e,a,b⟩
theorem ia_(p:List Rat):∃k k':Rat,k* k'=1∧∀x,evalP (a4_ p) x=evalP p x* k:=by
 by_cases h:nz p;refine⟨1/ leadP p,leadP p,Rat.div_mul_cancel (kg_ h),(cx_ h).1⟩;refine⟨1,1,by grind,fun x=>?_⟩;have e:trimQ p=[]:=Decidable.byContradiction h;unfold a4_;rw[if_pos e,cR_ h,am_];grind
theorem Dv.refl(d:List Rat):Dv d d:=⟨[1],fun x=>by rw[al_,am_];grind⟩
theorem Dv.zero(d:List Rat){r:List Rat}(h:∀x,evalP r x=0):Dv d r:=⟨[],fun x=>by rw[am_];grind⟩
theorem Dv.trans{a b c:List Rat}(h:Dv a b)(k:Dv b c):Dv a c:=by
 obtain⟨u,hu⟩:=h;obtain⟨v,hv⟩:=k;exact⟨mulP v u,fun x=>by rw[hv,ax_];grind⟩
theorem Dv.lin{d p q r:List Rat}{u v:List Rat}(h:Dv d p)(k:Dv d q)(e:∀x,evalP r x=evalP u x* evalP p x+evalP v x* evalP q x):Dv d r:=by
 obtain⟨s,hs⟩:=h;obtain⟨t,ht⟩:=k;exact⟨addP (mulP u s) (mulP v t),fun x=>by rw[e,bl_,ax_,ax_];grind⟩
theorem Dv.mul{d p q r:List Rat}(h:Dv d p)(e:∀x,evalP r x=evalP q x* evalP p x):Dv d r:=
 h.lin h (u:=q) (v:=[]) fun x=>by rw[am_];grind
theorem Dv.scale{d p r:List Rat}{k:Rat}(h:Dv d p)(e:∀x,evalP r x=evalP p x* k):Dv d r:=
 h.mul (q:=[k]) fun x=>by rw[al_,am_];grind
theorem Dv.dg{d p:List Rat}(h:Dv d p)(hp:nz p):dg d≤dg p:=by
 obtain⟨u,hu⟩:=h;obtain⟨n1,n2⟩:=cJ_ hu hp;have:=(dg_mul' n1 n2 hu).2.1;omega
theorem g1_{d:List Rat}(h:nz d)(h0:dg d=0):∃c:Rat,c≠0∧∀x,evalP d x=c:=by
 obtain⟨e1,e2⟩:=b3_ h;refine⟨leadP d,kg_ h,fun x=>?_⟩
 have:trimQ d=trimQ [leadP d]:=trim_iff.2 fun i=>by
  cases i with
  |zero=>rw[bD_,←e2,h0]
  |succ i=>exact e1.2 _ (by omega)
 rw[←aT_,this,aT_,al_,am_];grind
theorem nz_one:nz [1]:=by unfold nz;decide+kernel
theorem bez:∀(n:Nat) (p q:List Rat),(trimQ q).length=n→nz p∨nz q→∃g a b:List Rat,nz g∧Dv g p∧Dv g q∧∀x,evalP g x=evalP a x* evalP p x+evalP b x* evalP q x:=by
 intro n
 induction n using Nat.strongRecOn with
 |ind n ih=>
  intro p q hn h;by_cases hq:nz q;obtain⟨m1,m2⟩:=dC_ p hq
  have hlt:(trimQ (md p q)).length< n:=by
   have:=(ff_ p q hq).2;unfold md;omega
  obtain⟨g,a,b,g0,g1,g2,g3⟩:=ih _ hlt q (md p q) rfl (.inl hq);refine⟨g,b,subP a (mulP b (divP p q).1),g0,g1.lin g2 (u:=(divP p q).1) (v:=[1]) fun x=>?_,g1,fun x=>?_⟩;rw[m1,al_,am_];grind;rw[g3,a8_,ax_,m1 x];grind;have hp:nz p:=h.resolve_right hq;exact⟨p,[1],[],hp,.refl p,.zero p (cR_ hq),fun x=>by rw[al_,am_,cR_ hq];grind⟩
theorem eN_:∀(f:Nat) (p q g:List Rat),gcdM f p q=some g→nz p∨nz q→nz g∧Dv g p∧Dv g q∧∃a b:List Rat,∀x,evalP g x=evalP a x* evalP p x+evalP b x* evalP q x
 |0,_,_,_,h,_=>by cases h
 |f+1,p,q,g,h,hz=>by
  rw[gcdM] at h;split at h
  ·rename_i h0
   split at h;cases h;have hq:¬nz q:=fun e=>e h0;have hp:nz p:=hz.resolve_right hq;obtain⟨m1,m2,_⟩:=cx_ hp;obtain⟨k,k',hk,m⟩:=ia_ p;refine⟨m2,⟨[k'],fun x=>by rw[al_,am_];grind⟩,.zero _ (cR_ hq),[k],[],fun x=>by rw[al_,am_];grind⟩;cases h
  ·rename_i h0
   split at h;obtain⟨m1,_⟩:=dC_ p h0;obtain⟨k,k',hk,m⟩:=ia_ (divP p q).2;obtain⟨g0,g1,g2,a,b,g3⟩:=eN_ f _ _ _ h (.inl h0);refine⟨g0,g1.lin g2 (u:=(divP p q).1) (v:=[k']) fun x=>?_,g1,aw_ b k,subP a (aw_ (mulP b (divP p q).1) k),fun x=>?_⟩;rw[m1,al_,am_];show _+evalP (divP p q).2 x=_;grind;rw[g3,an_,a8_,an_,ax_,m1 x];show _=_* (_+evalP (divP p q).2 x)+_;grind;cases h
theorem gN_{p q:List Rat}(h:∀x,evalP p x=evalP q x)(x:Rat):dvE p x=dvE q x:=ix_ (trim_iff.1 (c6_ h)) x
theorem dvE_k{p r:List Rat}{k:Rat}(h:∀x,evalP r x=evalP p x* k)(x:Rat):dvE r x=dvE p x* k:=by
 rw[gN_ (q:=ci_ p k) (fun x=>by rw[h,a6_]) x,cD_]
def pw(d:List Rat):Nat→List Rat
 |0=>[1]
 |k+1=>mulP (pw d k) d
theorem pw_dv(d:List Rat)(k:Nat)(x:Rat):dvE (pw d (k+1)) x=(((k+1:Nat):Int):Rat) * evalP (pw d k) x* dvE d x:=by
 induction k with
 |zero=>
  show dvE (mulP [1] d) x=_;rw[fZ_,bp_,show dvE [] x=0 from rfl];show _=((1:Int):Rat) * evalP [1] x* _;rw[am_];grind
 |succ k ih=>
  show dvE (mulP (pw d (k+1)) d) x=_;rw[fZ_];have e2:evalP (pw d (k+1)) x=evalP (pw d k) x* evalP d x:=ax_ _ _ _;grind
theorem pw_dg{d:List Rat}(hd:nz d)(k:Nat):nz (pw d k)∧dg (pw d k)=k* dg d:=by
 induction k with
 |zero=>exact⟨nz_one,by rw[Nat.zero_mul];show dg [1]=0;decide+kernel⟩
 |succ k ih=>
  obtain⟨a,b,_⟩:=rk_ ih.1 hd;exact⟨a,by show dg (mulP _ _)=_;grind⟩
theorem iD_{d:List Rat}(h:dg d≠0)(hd:nz d):nz (ao_ d)∧dg (ao_ d)< dg d:=by
 obtain⟨⟨e1,e2⟩,_⟩:=b3_ hd
 have h1:isDeg (ao_ d) (dg d- 1):=by
  refine⟨?_,fun i hi=>?_⟩;rw[bn_,show dg d- 1+1=dg d by omega];intro e;rcases Rat.mul_eq_zero.1 e with e|e
  exact e1 e;have:((dg d:Nat):Int)=0:=by simp_all
  omega;rw[bn_,e2 _ (by omega),Rat.zero_mul]
 obtain⟨a,b,_⟩:=eJ_ h1;grind
theorem sqfree{p s g a b:List Rat}(hp:nz p)(h1:∀x,evalP p x=evalP s x* evalP g x)(h3:∀x,evalP g x=evalP a x* evalP p x+evalP b x* evalP (ao_ p) x):
    ∀n d,dg d=n→nz d→Dv d s→Dv d (ao_ s)→dg d=0:=by
 intro n
 induction n using Nat.strongRecOn with
 |ind n ih=>
  intro d hn hd ⟨u,hu⟩ ⟨v,hv⟩;by_cases h0:dg d=0;exact h0;exfalso;obtain⟨d1,d2⟩:=iD_ h0 hd;obtain⟨e,a0,b0,e1,e2,e3,e4⟩:=bez _ d (ao_ d) rfl (.inl hd);have e5:=e3.dg d1;have e6:=ih (dg e) (by omega) e rfl e1 (e2.trans ⟨u,hu⟩) (e2.trans ⟨v,hv⟩);obtain⟨c,c0,hc⟩:=g1_ e1 e6
  -- the square divides s
  have hs:∀x,dvE s x=dvE u x* evalP d x+evalP u x* dvE d x:=fun x=>by
   rw[gN_ (q:=mulP u d) (fun x=>by rw[hu,ax_]) x,fZ_]
  have hc1:1/ c* c=1:=Rat.div_mul_cancel c0
  obtain⟨t,ht⟩:∃t:List Rat,∀x,evalP u x=evalP t x* evalP d x:=by
   refine⟨aw_ (addP (mulP a0 u) (mulP b0 (subP v (derL u)))) (1/ c),fun x=>?_⟩;rw[an_,bl_,ax_,ax_,a8_,er_];have k1:=e4 x;have k2:=hv x;rw[hc,aI_] at k1;rw[aI_,hs] at k2;grind
  obtain⟨n1,n2⟩:=cJ_ h1 hp
  have key:∀k,∃w:List Rat,∀x,evalP g x=evalP w x* evalP (pw d k) x:=by
   intro k
   induction k with
   |zero=>exact⟨g,fun x=>by rw[pw,al_,am_];grind⟩
   |succ k ihk=>
    obtain⟨w,hw⟩:=ihk;obtain⟨W,hW⟩:∃W,W=mulP t w:=⟨_,rfl⟩
    have q1:∀x,evalP p x=evalP W x* evalP (pw d (k+2)) x:=fun x=>by
     rw[h1,hw,hu,ht,hW,ax_,pw,ax_,pw,ax_];grind
    have q2:∀x,evalP (ao_ p) x=dvE W x* evalP (pw d (k+2)) x+evalP W x* dvE (pw d (k+2)) x:=fun x=>by
     rw[aI_,gN_ (q:=mulP W (pw d (k+2))) (fun x=>by rw[q1,ax_]) x,fZ_]
    refine⟨addP (mulP a (mulP W d)) (mulP b (addP (mulP (derL W) d) (mulP (aw_ W (((k+1+1:Nat):Int):Rat)) (derL d)))),fun x=>?_⟩;have q3:=pw_dv d (k+1) x;have q4:evalP (pw d (k+2)) x=evalP (pw d (k+1)) x* evalP d x:=ax_ _ _ _;rw[h3,q2,q1,q3,q4];simp only[bl_,ax_,an_,er_];grind
  obtain⟨w,hw⟩:=key (dg g+1);obtain⟨m1,m2⟩:=cJ_ hw n2;have m3:=(dg_mul' m1 m2 hw).2.1;rw[(pw_dg hd _).2] at m3;have m4:dg g+1≤(dg g+1) * dg d:=Nat.le_mul_of_pos_right _ (by omega);omega
theorem fL_{p:List Rat}(h:nz p):∃k:Rat,0< k∧∀x,evalP (primP p) x=evalP p x* k:=by
 have hD:denL (trimQ p) 1≠0:=iE_ _ (by decide)
 have hN:numL (denL (trimQ p) 1) (trimQ p) 0≠0:=by
  intro e;have h1:=(ho_ (denL (trimQ p) 1) (trimQ p) 0).2;have h2:=(fy_ (trimQ p) 1).2;have hl:=List.length_pos_iff.2 h;have hg:=bk_ (l:=p) (n:=(trimQ p).length- 1) (by omega);have hm:=List.mem_of_getElem? hg;have h3:=h1 _ hm;rw[e] at h3;exact ms_ (h2 _ hm) hD (bj_ h) (Nat.eq_zero_of_zero_dvd h3)
 refine⟨nQ (denL (trimQ p) 1) / nQ (numL (denL (trimQ p) 1) (trimQ p) 0),?_,fun x=>by unfold primP;rw[an_,aT_]⟩
 have pos:∀n:Nat,n≠0→(0:Rat)< nQ n:=fun n hn=>by
  rw[←num_pos];show 0< (n:Int);omega
 obtain⟨k,k0,e⟩:=part (nQ (denL (trimQ p) 1)) (pos _ hD) (pos _ hN);rw[←e,Rat.mul_div_cancel (fun e=>hN (nQ_zero.1 e))];grind
inductive Cx:List Rat→List Rat→List (List Rat)→Prop
 |nil {u n:List Rat}:¬nz n→Cx u n []
 |cons {u n v n' q:List Rat} {L:List (List Rat)} {c:Rat}:0< c→(∀x,evalP v x=evalP n x* c)→nz v→(∀x,evalP n' x=evalP q x* evalP v x- evalP u x)→Cx v n' L→Cx u n (v::L)
theorem f1_:∀(f k:Nat) (last next:List Rat) (acc out:List (List Rat)),ha_ f k last next acc=some out→∃L,out=acc++L∧Cx last next L
 |_,0,_,_,_,_,h=>by cases h
 |f,k+1,last,next,acc,out,h=>by
  rw[ha_] at h;split at h
  ·rename_i h0
   cases h;exact⟨[],by simp,.nil fun e=>e h0⟩
  ·rename_i h0
   split at h
   ·rename_i h1
    obtain⟨L,e,hL⟩:=f1_ f k _ _ _ _ h;obtain⟨c,c0,hc⟩:=fL_ h0;refine⟨primP next::L,by grind,.cons (q:=(divP last (primP next)).1) c0 hc h1.2.2 (fun x=>?_) hL⟩;have:=(dC_ last h1.2.2).1 x;unfold md at this;rw[an_];grind
   cases h
theorem Cx.ch{u n:List Rat}{L:List (List Rat)}(H:Cx u n L):nz u→(∀d,nz d→Dv d u→Dv d n→dg d=0)→Ch u L∧∀v L',L=v::L'→∃c:Rat,0< c∧∀x,evalP v x=c* evalP n x:=by
 induction H with
 | @nil u n hn=>
  intro hu hd;obtain⟨c,c0,hc⟩:=g1_ hu (hd u hu (.refl u) (.zero u (cR_ hn)));exact⟨.one c0 hc,fun _ _ h=>by cases h⟩
 | @cons u n v n' q L c hc hv hnv hn' hL ih=>
  intro hu hd
  obtain⟨i1,i2⟩:=ih hnv fun d d0 d1 d2=>hd d d0 (d1.lin d2 (u:=q) (v:=[-1]) fun x=>by rw[al_,am_];grind)
   (d1.scale (k:=1/ c) fun x=>by grind)
  refine⟨?_,fun _ _ h=>by grind⟩;cases L with
  |nil=>exact .pair i1
  |cons w L=>
   obtain⟨c',c0,hw⟩:=i2 w L rfl;exact .step (a:=c') (c:=1) (q:=aw_ q c') c0 (by grind) (fun x=>by rw[hw,an_];grind) i1
theorem hQ_{f:Nat}{p s:List Rat}(h:sqfM f p=some s)(hp:nz p):nz s∧∀d,nz d→Dv d s→Dv d (ao_ s)→dg d=0:=by
 unfold sqfM at h;split at h;cases hg:gcdM f p (ao_ p) with
 |none=>grind
 |some g=>
  rw[hg,Option.bind_some] at h;split at h;cases h;obtain⟨g0,g1,g2,a,b,g3⟩:=eN_ f _ _ _ hg (.inl hp);obtain⟨m1,m2⟩:=dC_ p g0;obtain⟨u,hu⟩:=g1;have hm:=ib_ (u:=u) (v:=[]) g0 (fun x=>by rw[hu x,am_];grind) (fun e=>absurd rfl e)
  have hs:∀x,evalP p x=evalP (divP p g).1 x* evalP g x:=fun x=>by
   have:=m1 x;rw[hm x,am_] at this;grind
  obtain⟨n1,n2⟩:=cJ_ hs hp;obtain⟨k,k',hk,m⟩:=ia_ (divP p g).1;refine⟨(cx_ n1).2.1,fun d d0 d1 d2=>sqfree hp hs g3 _ d rfl d0 (d1.scale (k:=k') fun x=>by grind) (d2.scale (k:=k') fun x=>?_)⟩;rw[aI_,aI_,dvE_k m x];grind;cases h
 cases h
theorem gW_(u:List Rat)(x:Rat):chV [u] x=0:=by
 unfold chV chL chL;grind
theorem cT_{f:Nat}{p:List Rat}{c:Cnt}(h:b9_ f p=some c)(hp:nz p):nz c.p∧sqfM f p=some c.p∧e1_ f c.p=some c.ch∧c.far=chV c.ch (-a1_ c.p)∧(∀x,x≤ -a1_ c.p→uptoV c x=0)∧∀x y,x≤y→uptoV c x≤uptoV c y:=by
 unfold b9_ at h;cases hs:sqfM f p with
 |none=>grind
 |some s=>
  rw[hs,Option.bind_some] at h;cases hc:e1_ f s with
  |none=>grind
  |some ch=>
   rw[hc,Option.bind_some] at h;split at h
   ·rename_i hok
    cases h;obtain⟨s0,s1⟩:=hQ_ hs hp;have hc':=hc;unfold e1_ at hc;split at hc;obtain⟨L,e,hL⟩:=f1_ _ _ _ _ _ _ hc;obtain⟨k,k0,hk⟩:=fL_ s0;have hkne:k≠0:=by grind
    have hu0:nz (primP s):=(dG_ s0 hkne hk).1;have hk1:k* (1/ k)=1:=by grind
    have hk2:0< 1/ k:=by
     obtain⟨m,m0,m1⟩:=part 1 (d:=k) (by grind) k0;grind
    obtain⟨c1,c2⟩:=hL.ch hu0 fun d d0 d1 d2=>s1 d d0 (d1.scale (k:=1/ k) fun x=>by grind) d2;have e':ch=primP s::L:=e;subst e'
    have mono:∀x y,x≤y→chV (primP s::L) y≤chV (primP s::L) x:=fun x y hxy=>by
     cases L with
     |nil=>rw[gW_,gW_];grind
     |cons v L=>
      obtain⟨c',c0,hv⟩:=c2 v L rfl;refine c1.fall (k:=c'* (1/ k)) (Rat.mul_pos c0 hk2) (fun x=>?_) hxy;rw[hv,aI_,dvE_k hk x];grind
    obtain⟨M,hM⟩:=qb_ (primP s::L) fun q hq=>(hok.1 q hq).1
    have low:∀x,x≤ -a1_ s→chV (primP s::L) x=chL ((primP s::L).map sgI) 0 0:=fun x hx=>by
     by_cases hxM:x≤ -M;unfold chV;rw[hM x hxM]
     rw[←c1.same (e:=ab (leadP s) * k) (x:= -M) (y:=x) (Rat.mul_pos (by have:=bj_ s0;unfold ab;split <;> grind) k0) (by grind) (fun z z1 z2=>by
      rw[hk,bx_,show ab k=k by unfold ab;rw[if_neg (by grind)]];exact Rat.mul_le_mul_of_nonneg_right (iL_ s0 (by grind)).1 (by grind))]
     unfold chV;grind
    refine⟨s0,rfl,hc',(low _ (by grind)).symm,fun x hx=>?_,fun x y hxy=>?_⟩;have:=low x hx;unfold uptoV;unfold chV at this;show _- chL ((primP s::L).map (sgE x)) 0 0=0;rw[this];simp;have:=mono x y hxy;unfold uptoV;unfold chV at this;show _- chL ((primP s::L).map (sgE x)) 0 0≤_- chL ((primP s::L).map (sgE y)) 0 0;omega;grind
   cases h
def chi(s t:Int):Int:=if s≠0∧t≠s then 1 else 0
theorem chi_nn(s t:Int):0≤chi s t:=by unfold chi;grind
theorem hA_(s:Int):chi s s=0:=by unfold chi;grind
theorem hB_{s t:Int}{l:List Int}(ht:t=1∨t= -1)(hs: -1≤s∧s≤1):chL (s::t::l) 0 0=(if s= -t then 1 else 0)+chL l 0 t:=by
 have ht0:t≠0:=by omega
 by_cases h0:s=0;subst h0;rw[chL,if_neg (by simp),chL,if_pos ht0,if_neg (by omega)];omega;rw[chL,if_pos h0,chL,gX_];grind
def Sq(u:List Rat)(L:List (List Rat)):Prop:=Ch u L∧∀v M,L=v::M→∃k:Rat,0< k∧∀x,evalP v x=k* dvE u x
theorem iR_{x c:Rat}(h:c≤ab x):c≤x∨x≤ -c:=by unfold ab at h;grind
theorem ab_ge{x c:Rat}(h:c≤x∨x≤ -c)(hc:0≤c):c≤ab x:=by unfold ab;grind
theorem dy_{k a b:Rat}(hk:0< k)(h:k* a≤k* b):a≤b:=by
 by_cases h':a≤b;exact h';have:=Rat.mul_pos hk (show 0< a- b by grind);grind
theorem Sq.tiny{u:List Rat}{L:List (List Rat)}(H:Sq u L){R:Rat}(hR:0≤R):∃h e ρ:Rat,0< h∧0< e∧0< ρ∧∀z w:Rat,ab z≤R→ab w≤R→z≤w→w- z≤h→
    chV (u::L) z- chV (u::L) w=chi (sgE z u) (sgE w u)∧((e≤ab (evalP u z)∧e≤ab (evalP u w))∨∃s:Rat,(s=1∨s= -1)∧0< s* dvE u z∧0< s* dvE u w∧ρ* (w- z)≤s* (evalP u w- evalP u z)):=by
 obtain⟨H,hv⟩:=H;cases L with
 |nil=>
  obtain⟨c,c0,hc⟩:=H.const;have hp:0< ab c:=by unfold ab;grind
  refine⟨1,ab c,1,by grind,hp,by grind,fun z w _ _ _ _=>⟨?_,.inl ⟨by grind,by grind⟩⟩⟩;rw[gW_,gW_,(H.sg z w).1,hA_];rfl
 |cons v L=>
 obtain⟨k,hk,hd⟩:=hv v L rfl;obtain⟨a,b,hb⟩:=H.bez v L rfl;have hA:=bV_nn hR a;have hB:=bV_nn hR b;obtain⟨e,he,he'⟩:=part 1 (d:=2* (bV R a+bV R b+1)) (by decide+kernel) (by grind);obtain⟨h1,p1,k1⟩:=H.cl.1 R e hR he;obtain⟨h2,p2,k2⟩:=H.cl.2 v L rfl R e hR he;have hT:=bT_nn hR u;have hL:=bL_nn hR u;obtain⟨ρ,pρ,eρ⟩:=part e (d:=2* k) he (by grind);obtain⟨h3,p3,e3⟩:=part ρ (d:=bT R u+1) pρ (by grind);obtain⟨h5,p5,e5⟩:=part (e/ 2) (d:=bL R u+1) (by grind) (by grind);obtain⟨h4,p4,l4,m4⟩:=less h1 h2 p1 p2;obtain⟨h6,p6,l6,m6⟩:=less h3 h5 p3 p5;obtain⟨h,p,l,m⟩:=less h4 h6 p4 p6;refine⟨h,e/ 2,ρ,p,by grind,pρ,fun z w hz hw g2 g4=>?_⟩;have hzw:ab (w- z)=w- z:=by unfold ab;rw[if_neg (by grind)]
 by_cases hu:e≤ab (evalP u z);obtain⟨s1,s2,s3⟩:=k1 z w hz hw (by grind) hu;refine⟨?_,.inl ⟨by grind,?_⟩⟩;rw[s1,hA_]
 have:chV (u::v::L) z=chV (u::v::L) w:=by
  unfold chV;simp only[List.map_cons] at s3⊢;rw[s1];exact ky_ s2 s3
 omega;have q1:=dz_ hR hz hw u;have q2:=Rat.mul_le_mul_of_nonneg_left (show w- z≤h5 by grind) hL;have q3:ab (evalP u w- evalP u z)≤e/ 2:=by rw[hzw] at q1;grind
 have q4:=ab_le.1 q3;rcases iR_ hu with q|q
 exact ab_ge (.inl (by grind)) (by grind);exact ab_ge (.inr (by grind)) (by grind)
 have hv:e≤ab (evalP v z):=by
  by_cases hv:e≤ab (evalP v z);exact hv;have n1:=bC_ (cr_ hR hz a) (show ab (evalP u z)≤e by grind) (ab_nn _) hA;have n2:=bC_ (cr_ hR hz b) (show ab (evalP v z)≤e by grind) (ab_nn _) hB;have n3:=d1_ (evalP a z* evalP u z) (evalP b z* evalP v z);rw[hb z,bx_,bx_,show ab 1=1 by decide+kernel] at n3;grind
 obtain⟨s1,s2,s3⟩:=k2 z w hz hw (by grind) hv;have htan:=gt_ hR hz hw u;rw[hzw] at htan;have ht2:=ab_le.1 htan;have hwz:0≤w- z:=by grind
 have small:bT R u* ((w- z) * (w- z))≤ρ* (w- z):=by
  have q1:=Rat.mul_le_mul_of_nonneg_left (show w- z≤h3 by grind) hT;have q2:bT R u* (w- z)≤ρ:=by grind
  have q3:=Rat.mul_le_mul_of_nonneg_right q2 hwz;grind
 have tail:∀t:Int,(t=1∨t= -1)→sgE z v=t→chV (u::v::L) z- chV (u::v::L) w=(if sgE z u= -t then 1 else 0)- (if sgE w u= -t then 1 else 0):=fun t ht e=>by
  have s4:=s3;rw[e] at s4;unfold chV;simp only[List.map_cons];rw[s1,e,hB_ ht (cH_ z u),hB_ ht (cH_ w u),kz_ s4 (by omega)];omega
 have bz:=cH_ z u;have bw:=cH_ w u;rcases aS_ z v with⟨c1,c2⟩|⟨c1,c2⟩|⟨c1,c2⟩
 have c3:e≤evalP v z:=by rcases iR_ hv with q|q <;> grind
 have d1:2* ρ≤dvE u z:=dy_ hk (by rw[←hd];grind);have c4:=Rat.mul_le_mul_of_nonneg_left d1 hwz;have up:ρ* (w- z)≤evalP u w- evalP u z:=by grind
 have nn:=Rat.mul_nonneg (show 0≤ρ by grind) hwz;have mo:=hi_ (q:=u) (x:=z) (y:=w) (by grind);refine⟨?_,.inr ⟨1,.inl rfl,by grind,?_,by grind⟩⟩;rw[tail 1 (.inl rfl) c1];unfold chi;split <;> split <;> split <;> omega;rcases aS_ w v with⟨f1,f2⟩|⟨f1,f2⟩|⟨f1,f2⟩
 rw[hd] at f2;by_cases f3:0< dvE u w;grind;have:=Rat.mul_nonneg (show 0≤k by grind) (show 0≤ -dvE u w by grind);grind;omega;omega;have c3:evalP v z≤ -e:=by rcases iR_ hv with q|q <;> grind
 have d1:2* ρ≤ -dvE u z:=dy_ hk (by have:=hd z;grind);have c4:=Rat.mul_le_mul_of_nonneg_left d1 hwz;have up:ρ* (w- z)≤evalP u z- evalP u w:=by grind
 have nn:=Rat.mul_nonneg (show 0≤ρ by grind) hwz;have mo:=hi_ (q:=u) (x:=w) (y:=z) (by grind);refine⟨?_,.inr ⟨-1,.inr rfl,by grind,?_,by grind⟩⟩;rw[tail (-1) (.inr rfl) c1];unfold chi;split <;> split <;> split <;> omega;rcases aS_ w v with⟨f1,f2⟩|⟨f1,f2⟩|⟨f1,f2⟩
 omega;rw[hd] at f2;by_cases f3:0< -dvE u w;grind;have:=Rat.mul_nonneg (show 0≤k by grind) (show 0≤dvE u w by grind);grind;omega;exact absurd c1 s2
theorem fo_(x y:Rat):0≤ab x+ab y:=by have:=ab_nn x;have:=ab_nn y;grind
theorem Sq.mono{u:List Rat}{L:List (List Rat)}(H:Sq u L){x y:Rat}(hxy:x≤y):chV (u::L) y≤chV (u::L) x:=by
 obtain⟨h,e,ρ,h0,_,_,ht⟩:=H.tiny (fo_ x y);refine way (f:=chV (u::L)) (fun s t=>t≤s) (fun _=>Int.le_refl _) (fun _ _ _ g1 g2=>Int.le_trans g2 g1) h0 hxy fun z w g1 g2 g3 g4=>?_;have:=(ht z w (ab_in g1 (by grind)) (ab_in (by grind) g3) g2 g4).1;have:=chi_nn (sgE z u) (sgE w u);omega
theorem Sq.root{u:List Rat}{L:List (List Rat)}(H:Sq u L){w x:Rat}(hwx:w< x)(hx:evalP u x=0):chV (u::L) x+1≤chV (u::L) w:=by
 obtain⟨h,e,ρ,h0,he,hρ,ht⟩:=H.tiny (fo_ w x)
 obtain⟨z,z1,z2,z3⟩:∃z,w≤z∧z< x∧x- z≤h:=by
  by_cases g:w≤x- h;exact⟨x- h,g,by grind,by grind⟩;grind
 obtain⟨t1,t2⟩:=ht z x (ab_in z1 (by grind)) (ab_in (by grind) (by grind)) (by grind) z3;have m:=H.mono z1
 have hn:evalP u z≠0:=fun g=>by
  rcases t2 with⟨_,q⟩|⟨s,_,_,_,q⟩
  rw[hx,show ab 0=0 by decide+kernel] at q;grind;have:=Rat.mul_pos hρ (show 0< x- z by grind);grind
 have hs:sgE z u≠0:=fun g=>by
  rcases aS_ z u with⟨a,_⟩|⟨a,_⟩|⟨_,a⟩
  omega;omega;exact hn a
 rw[fq_ hx] at t1;unfold chi at t1;grind
theorem Sq.away{u:List Rat}{L:List (List Rat)}(H:Sq u L){x y:Rat}(hxy:x≤y)(hx:evalP u x≠0)(hV:chV (u::L) x=chV (u::L) y):
    ∃e:Rat,0< e∧∀z,x≤z→z≤y→e≤ab (evalP u z)∧sgE z u=sgE x u:=by
 obtain⟨h,e,ρ,h0,he,hρ,ht⟩:=H.tiny (fo_ x y)
 have sx:sgE x u≠0:=fun g=>by
  rcases aS_ x u with⟨a,_⟩|⟨a,_⟩|⟨_,a⟩
  omega;omega;exact hx a
 have hR:∀z,x≤z→z≤y→ab z≤ab x+ab y:=fun z a b=>ab_in a b
 have hsg:∀z,x≤z→z≤y→sgE z u=sgE x u:=fun z a b=>by
  refine way (f:=fun z=>sgE z u) (fun s t=>s≠0→t=s) (fun _ _=>rfl) (fun _ _ _ g1 g2 g3=>by rw[g2 (by rw[g1 g3];exact g3),g1 g3]) h0 a (fun p q g1 g2 g3 g4 g5=>?_) sx;have t1:=(ht p q (hR _ g1 (by grind)) (hR _ (by grind) (by grind)) g2 g4).1;have m1:=H.mono g1;have m2:=H.mono g2;have m3:=H.mono g3;have m4:=H.mono b;unfold chi at t1;by_cases g:sgE q u=sgE p u;exact g;rw[if_pos ⟨g5,g⟩] at t1;omega
 have hy:evalP u y≠0:=fun g=>by
  have:=hsg y hxy (by grind);rw[fq_ g] at this;omega
 have px:0< ab (evalP u x):=by unfold ab;split <;> grind
 have py:0< ab (evalP u y):=by unfold ab;split <;> grind
 obtain⟨e1,a1,a2,a3⟩:=less e (ρ* h) he (Rat.mul_pos hρ h0);obtain⟨e2,b1,b2,b3⟩:=less (ab (evalP u x)) (ab (evalP u y)) px py;obtain⟨e3,c1,c2,c3⟩:=less e1 e2 a1 b1;refine⟨e3,c1,fun z z1 z2=>⟨?_,hsg z z1 z2⟩⟩;by_cases big:e≤ab (evalP u z);grind
 obtain⟨w,w1,w2,w3,w4⟩:∃w,z≤w∧w≤y∧w- z≤h∧(w=y∨w- z=h):=by
  by_cases g:z+h≤y;exact⟨z+h,by grind,g,by grind,.inr (by grind)⟩;exact⟨y,z2,by grind,by grind,.inl rfl⟩
 obtain⟨v,v1,v2,v3,v4⟩:∃v,x≤v∧v≤z∧z- v≤h∧(v=x∨z- v=h):=by
  by_cases g:x≤z- h;exact⟨z- h,g,by grind,by grind,.inr (by grind)⟩;exact⟨x,by grind,z1,by grind,.inl rfl⟩
 rcases(ht z w (hR _ z1 z2) (hR _ (by grind) w2) w1 w3).2 with⟨q,_⟩|⟨s,s1,s2,_,s3⟩
 exact absurd q big;rcases(ht v z (hR _ v1 (by grind)) (hR _ z1 z2) v2 v3).2 with⟨_,q⟩|⟨t,t1,_,t2,t3⟩
 exact absurd q big;have hst:s=t:=by rcases s1 with rfl|rfl <;> rcases t1 with rfl|rfl <;> grind
 subst hst;have sw:=hsg w (by grind) w2;have sv:=hsg v v1 (by grind);have sz:=hsg z z1 z2;have n1:=Rat.mul_nonneg (show 0≤ρ by grind) (show 0≤w- z by grind);have n2:=Rat.mul_nonneg (show 0≤ρ by grind) (show 0≤z- v by grind);have fw:w=y→evalP u w=evalP u y:=fun g=>by rw[g]
 have fv:v=x→evalP u v=evalP u x:=fun g=>by rw[g]
 have gw:w- z=h→ρ* (w- z)=ρ* h:=fun g=>by rw[g]
 have gv:z- v=h→ρ* (z- v)=ρ* h:=fun g=>by rw[g]
 refine ab_ge ?_ (by grind);have abp:∀q:Rat,0< q→ab q=q:=fun q g=>by unfold ab;rw[if_neg (by grind)]
 have abn:∀q:Rat,q< 0→ab q= -q:=fun q g=>by unfold ab;rw[if_pos g]
 rcases aS_ z u with⟨a,b⟩|⟨a,b⟩|⟨a,b⟩
 have uw:0< evalP u w:=by rcases aS_ w u with⟨_,g⟩|⟨g,_⟩|⟨g,_⟩<;> first|exact g|omega
 have uv:0< evalP u v:=by rcases aS_ v u with⟨_,g⟩|⟨g,_⟩|⟨g,_⟩<;> first|exact g|omega
 have aw:=abp _ uw;have av:=abp _ uv;left;rcases s1 with rfl|rfl
 rcases v4 with g|g
 rw[←fv g] at b2;grind;have:=gv g;grind;rcases w4 with g|g
 rw[←fw g] at b3;grind;have:=gw g;grind;have uw:evalP u w< 0:=by rcases aS_ w u with⟨g,_⟩|⟨_,g⟩|⟨g,_⟩<;> first|exact g|omega
 have uv:evalP u v< 0:=by rcases aS_ v u with⟨g,_⟩|⟨_,g⟩|⟨g,_⟩<;> first|exact g|omega
 have aw:=abn _ uw;have av:=abn _ uv;right;rcases s1 with rfl|rfl
 rcases w4 with g|g
 rw[←fw g] at b3;grind;have:=gw g;grind;rcases v4 with g|g
 rw[←fv g] at b2;grind;have:=gv g;grind;omega
theorem Sq.calm{u:List Rat}{L:List (List Rat)}(H:Sq u L){e x y:Rat}(he:0< e)(hxy:x≤y)(ha:∀z,x≤z→z≤y→e≤ab (evalP u z)):chV (u::L) x=chV (u::L) y:=H.1.same he hxy ha
theorem f9_{q r:List Rat}{x c:Rat}(e:evalP r x=c* evalP q x):(0< c→sgE x r=sgE x q)∧(c< 0→sgE x r= -sgE x q):=by
 constructor;intro hc;rcases aS_ x q with⟨a,b⟩|⟨a,b⟩|⟨a,b⟩
 rw[a];exact c0_ (by rw[e];exact Rat.mul_pos hc b);rw[a];exact eh_ (by have:=Rat.mul_pos hc (show 0< -evalP q x by grind);grind);rw[a];exact fq_ (by rw[e,b];grind);intro hc;rcases aS_ x q with⟨a,b⟩|⟨a,b⟩|⟨a,b⟩
 rw[a];exact eh_ (by have:=Rat.mul_pos (show 0< -c by grind) b;grind);rw[a];exact c0_ (by have:=Rat.mul_pos (show 0< -c by grind) (show 0< -evalP q x by grind);grind);rw[a,fq_ (by rw[e,b];grind)];rfl
theorem rv_(s t:Int):chi (-s) (-t)=chi s t:=by unfold chi;split <;> split <;> omega
theorem Sq.add{S A B a b:List Rat}{LS LA LB:List (List Rat)}{κ:Rat}(hS:Sq S LS)(hA:Sq A LA)(hB:Sq B LB)(hκ:κ≠0)(hm:∀x,evalP S x=κ* (evalP A x* evalP B x))(hb:∀x,evalP a x* evalP A x+evalP b x* evalP B x=1){x y:Rat}(hxy:x≤y):
    chV (S::LS) x- chV (S::LS) y=(chV (A::LA) x- chV (A::LA) y)+(chV (B::LB) x- chV (B::LB) y):=by
 have hR:=fo_ x y;obtain⟨h1,_,_,p1,_,_,t1⟩:=hS.tiny hR;obtain⟨h2,_,_,p2,_,_,t2⟩:=hA.tiny hR;obtain⟨h3,_,_,p3,_,_,t3⟩:=hB.tiny hR;have nA:=bV_nn hR a;have nB:=bV_nn hR b;obtain⟨e,he,he'⟩:=part 1 (d:=2* (bV (ab x+ab y) a+bV (ab x+ab y) b+1)) (by decide+kernel) (by grind);obtain⟨h4,p4,k4⟩:=keep A hR he;obtain⟨h5,p5,k5⟩:=keep B hR he;obtain⟨i1,j1,l1,m1⟩:=less h1 h2 p1 p2;obtain⟨i2,j2,l2,m2⟩:=less h3 h4 p3 p4;obtain⟨i3,j3,l3,m3⟩:=less i1 i2 j1 j2;obtain⟨h,h0,l,m⟩:=less i3 h5 j3 p5
 have w:=way (f:=fun z=>chV (S::LS) z- chV (A::LA) z- chV (B::LB) z) (· = ·) (fun _=>rfl) (fun _ _ _=>Eq.trans) h0 hxy fun z w g1 g2 g3 g4=>by
  have hz:=ab_in g1 (show z≤y by grind);have hw:=ab_in (show x≤w by grind) g3;have q1:=(t1 z w hz hw g2 (by grind)).1;have q2:=(t2 z w hz hw g2 (by grind)).1;have q3:=(t3 z w hz hw g2 (by grind)).1;have hzw:=rJ_ g2 g4;have flip:∀c:Rat,c≠0→(0< c∨c< 0):=fun c hc=>by grind
  by_cases hA':e≤ab (evalP A z);obtain⟨r1,r2⟩:=k4 z w hz hw (by grind) hA';rw[r1,hA_] at q2
  have:chi (sgE z S) (sgE w S)=chi (sgE z B) (sgE w B):=by
   have ez:=f9_ (q:=B) (r:=S) (x:=z) (c:=κ* evalP A z) (by rw[hm];grind);have ew:=f9_ (q:=B) (r:=S) (x:=w) (c:=κ* evalP A w) (by rw[hm];grind)
   have sg:(0< κ* evalP A z∧0< κ* evalP A w)∨(κ* evalP A z< 0∧κ* evalP A w< 0):=by
    rcases aS_ z A with⟨a1,a2⟩|⟨a1,a2⟩|⟨a1,a2⟩
    have a3:0< evalP A w:=by rcases aS_ w A with⟨_,g⟩|⟨g,_⟩|⟨g,_⟩<;> first|exact g|omega
    rcases flip κ hκ with g|g
    exact .inl ⟨Rat.mul_pos g a2,Rat.mul_pos g a3⟩;have:=Rat.mul_pos (show 0< -κ by grind) a2;have:=Rat.mul_pos (show 0< -κ by grind) a3;exact .inr ⟨by grind,by grind⟩;have a3:evalP A w< 0:=by rcases aS_ w A with⟨g,_⟩|⟨_,g⟩|⟨g,_⟩<;> first|exact g|omega
    rcases flip κ hκ with g|g
    have:=Rat.mul_pos g (show 0< -evalP A z by grind);have:=Rat.mul_pos g (show 0< -evalP A w by grind);exact .inr ⟨by grind,by grind⟩;have:=Rat.mul_pos (show 0< -κ by grind) (show 0< -evalP A z by grind);have:=Rat.mul_pos (show 0< -κ by grind) (show 0< -evalP A w by grind);exact .inl ⟨by grind,by grind⟩;exact absurd a1 r2
   rcases sg with⟨g1,g2⟩|⟨g1,g2⟩
   rw[ez.1 g1,ew.1 g2];rw[ez.2 g1,ew.2 g2,rv_]
  show _=_;omega
  have hB':e≤ab (evalP B z):=by
   by_cases hB':e≤ab (evalP B z);exact hB';have n1:=bC_ (cr_ hR hz a) (show ab (evalP A z)≤e by grind) (ab_nn _) nA;have n2:=bC_ (cr_ hR hz b) (show ab (evalP B z)≤e by grind) (ab_nn _) nB;have n3:=d1_ (evalP a z* evalP A z) (evalP b z* evalP B z);rw[hb z,bx_,bx_,show ab 1=1 by decide+kernel] at n3;grind
  obtain⟨r1,r2⟩:=k5 z w hz hw (by grind) hB';rw[r1,hA_] at q3
  have:chi (sgE z S) (sgE w S)=chi (sgE z A) (sgE w A):=by
   have ez:=f9_ (q:=A) (r:=S) (x:=z) (c:=κ* evalP B z) (by rw[hm];grind);have ew:=f9_ (q:=A) (r:=S) (x:=w) (c:=κ* evalP B w) (by rw[hm];grind)
   have sg:(0< κ* evalP B z∧0< κ* evalP B w)∨(κ* evalP B z< 0∧κ* evalP B w< 0):=by
    rcases aS_ z B with⟨a1,a2⟩|⟨a1,a2⟩|⟨a1,a2⟩
    have a3:0< evalP B w:=by rcases aS_ w B with⟨_,g⟩|⟨g,_⟩|⟨g,_⟩<;> first|exact g|omega
    rcases flip κ hκ with g|g
    exact .inl ⟨Rat.mul_pos g a2,Rat.mul_pos g a3⟩;have:=Rat.mul_pos (show 0< -κ by grind) a2;have:=Rat.mul_pos (show 0< -κ by grind) a3;exact .inr ⟨by grind,by grind⟩;have a3:evalP B w< 0:=by rcases aS_ w B with⟨g,_⟩|⟨_,g⟩|⟨g,_⟩<;> first|exact g|omega
    rcases flip κ hκ with g|g
    have:=Rat.mul_pos g (show 0< -evalP B z by grind);have:=Rat.mul_pos g (show 0< -evalP B w by grind);exact .inr ⟨by grind,by grind⟩;have:=Rat.mul_pos (show 0< -κ by grind) (show 0< -evalP B z by grind);have:=Rat.mul_pos (show 0< -κ by grind) (show 0< -evalP B w by grind);exact .inl ⟨by grind,by grind⟩;exact absurd a1 r2
   rcases sg with⟨g1,g2⟩|⟨g1,g2⟩
   rw[ez.1 g1,ew.1 g2];rw[ez.2 g1,ew.2 g2,rv_]
  show _=_;omega
 omega
theorem qs_one:qs 1=1:=by decide
theorem lead_qs{p:List Rat}{t:Nat}(h:bdL p t)(ht:1≤t):qs (leadP p)≤t:=by
 by_cases h0:trimQ p=[];rw[ig_ h0];exact Nat.le_trans (by decide:qs 0≤1) ht;have hl:=List.length_pos_iff.2 h0;exact h _ (ba_ (List.mem_of_getElem? (bk_ (n:=(trimQ p).length- 1) (by omega))))
theorem hW_{p:List Rat}{k:Rat}(hk:k≠0):(trimQ (aw_ p k)).length=(trimQ p).length:=by
 by_cases h:nz p;obtain⟨a,b,_⟩:=dG_ h hk (r:=aw_ p k) fun x=>an_ p k x;have h1:=List.length_pos_iff.2 a;have h2:=List.length_pos_iff.2 h;unfold dg at b;omega;have e:trimQ p=[]:=Classical.byContradiction h
 have e2:trimQ (aw_ p k)=[]:=by
  have:Eqv (aw_ p k) []:=fun x=>by rw[an_,cR_ h,am_];grind
  exact eqv_trim.1 this
 rw[e,e2]
def HtF(f:Nat→Rat)(k:Rat)(h:Nat):Prop:=∀i,∃z:Int,f i* k=(z:Rat)∧bl z.natAbs≤h
def Ht(p:List Rat)(h:Nat):Prop:=∃k:Rat,k≠0∧HtF (coP p) k h
theorem HtF.mono{f:Nat→Rat}{k:Rat}{h h':Nat}(H:HtF f k h)(hh:h≤h'):HtF f k h':=fun i=>by
 obtain⟨z,z1,z2⟩:=H i;grind
theorem Ht.mono{p:List Rat}{h h':Nat}(H:Ht p h)(hh:h≤h'):Ht p h':=by
 obtain⟨k,k0,H⟩:=H;exact⟨k,k0,H.mono hh⟩
theorem Ht.scale{p r:List Rat}{h:Nat}{c:Rat}(H:Ht p h)(hc:c≠0)(e:∀i,coP r i=coP p i* c):Ht r h:=by
 obtain⟨k,k0,H⟩:=H;refine⟨k/ c,fun e=>?_,fun i=>?_⟩;have:k/ c* c=k:=Rat.div_mul_cancel hc;grind;obtain⟨z,z1,z2⟩:=H i;grind
theorem Ht.trim{p:List Rat}{h:Nat}(H:Ht p h):Ht (trimQ p) h:=H.scale (c:=1) (by grind) fun i=>by rw[aU_];grind
theorem Ht.untrim{p:List Rat}{h:Nat}(H:Ht (trimQ p) h):Ht p h:=H.scale (c:=1) (by grind) fun i=>by rw[aU_];grind
theorem Ht.zero{p:List Rat}(e:∀i,coP p i=0)(h:Nat):Ht p h:=⟨1,by grind,fun i=>⟨0,by grind,Nat.zero_le _⟩⟩
theorem n2_(o:List Rat)(a:Rat)(q:List Rat)(i n:Nat):∀k,coP (rowM o a q i k) n=if i≤n∧n< i+k∧n< o.length then coP o n- a* coP q (n- i) else coP o n
 |0=>by rw[rowM,if_neg (by omega)]
 |k+1=>by
  rw[rowM,gx_,n2_ o a q i n k,dh_];by_cases h:n=i+k∧i+k< o.length;rw[if_pos h,if_pos (by omega),gc_ o a q i k (i+k) (by omega),h.1,show i+k- i=k by omega];grind
theorem rD_{x y:Int}{k:Nat}(hx:bl x.natAbs≤k)(hy:bl y.natAbs≤k):bl (x- y).natAbs≤k+1:=by
 exact gB_ hx (by grind)
theorem mJ_{q:List Rat}{lead l:Rat}{g:Nat}(hl:coP q (q.length- 1)=lead)(h0:lead≠0)(l0:l≠0)(hq:HtF (coP q) l g):∀(c:Nat) (u o:List Rat) (k:Rat) (H:Nat),k≠0→HtF (coP o) k H→HtF (coP u) (k/ l) H→
    ∃k',k'≠0∧HtF (coP (divR q lead c u o).1) (k'/ l) (H+c* (g+1))∧HtF (coP (divR q lead c u o).2) k' (H+c* (g+1))
 |0,u,o,k,H,k0,ho,hu=>⟨k,k0,by rw[Nat.zero_mul];exact hu,by rw[Nat.zero_mul];exact ho⟩
 |n+1,u,o,k,H,k0,ho,hu=>by
  obtain⟨zl,zl1,zl2⟩:=hq (q.length- 1);rw[hl] at zl1
  have zl0:(zl:Rat)≠0:=fun e=>by
   grind
  obtain⟨zt,zt1,zt2⟩:=ho (n+q.length- 1);generalize hte:coP o (n+q.length- 1) / lead=t;have ht:t* lead=coP o (n+q.length- 1):=by grind
  have hll:k/ l* l=k:=Rat.div_mul_cancel l0;have hkl:k* (zl:Rat) / l=k/ l* zl:=by grind
  rw[divR]
  obtain⟨k',k1,k2,k3⟩:=mJ_ hl h0 l0 hq n (u.set n (coP o (n+q.length- 1) / lead)) (if coP o (n+q.length- 1) / lead=0 then o else rowM o (coP o (n+q.length- 1) / lead) q n q.length) (k* zl) (H+(g+1)) (fun e=>by
   grind) (fun i=>by
   rw[hte]
   have plain:∃z:Int,coP o i* (k* (zl:Rat))=(z:Rat)∧bl z.natAbs≤H+(g+1):=by
    obtain⟨z,z1,z2⟩:=ho i;refine⟨z* zl,by rw[Rat.intCast_mul,←z1];grind,?_⟩;have:=bW_ z2 zl2;omega
   split;exact plain;rw[n2_];split;obtain⟨z,z1,z2⟩:=ho i;obtain⟨zj,y1,y2⟩:=hq (i- n);refine⟨z* zl- zt* zj,?_,?_⟩;rw[Rat.intCast_sub,Rat.intCast_mul,Rat.intCast_mul,←z1,←zt1,←y1,←zl1,←ht];grind;have:=rD_ (bW_ z2 zl2) (bW_ zt2 y2);omega;grind) (fun i=>by
   rw[hte,kv_,hkl];split;refine⟨zt,?_,by omega⟩;rw[←zl1,←zt1,←ht];have:t* (k/ l* (lead* l))=t* lead* (k/ l* l):=by grind
   rw[this,hll];obtain⟨z,z1,z2⟩:=hu i;refine⟨z* zl,by rw[Rat.intCast_mul,←z1];grind,?_⟩;have:=bW_ z2 zl2;omega)
  grind
theorem ks_{p q:List Rat}{h g:Nat}(hp:Ht p h)(hq:Ht q g)(h0:nz q):Ht (divP p q).1 (h+((trimQ p).length+1- (trimQ q).length) * (g+1))∧Ht (divP p q).2 (h+((trimQ p).length+1- (trimQ q).length) * (g+1)):=by
 obtain⟨k,k0,hp⟩:=hp.trim;obtain⟨l,l0,hq⟩:=hq.trim;have hl:=List.length_pos_iff.2 h0;have hg:=bk_ (l:=q) (n:=(trimQ q).length- 1) (by omega);have hc:coP (trimQ q) ((trimQ q).length- 1)=leadP q:=by unfold coP;grind
 obtain⟨k',k1,k2,k3⟩:=mJ_ hc (bj_ h0) l0 hq ((trimQ p).length+1- (trimQ q).length) (List.replicate ((trimQ p).length+1- (trimQ q).length) 0) (trimQ p) k h k0 hp fun i=>by
  refine⟨0,?_,Nat.zero_le _⟩
  have:coP (List.replicate ((trimQ p).length+1- (trimQ q).length) (0:Rat)) i=0:=by
   unfold coP;grind
  grind
 have hkl':k'/ l≠0:=fun e=>by grind
 exact⟨(show Ht _ _ from⟨k'/ l,hkl',k2⟩).trim,(show Ht _ _ from⟨k',k1,k3⟩).trim⟩
theorem Ht.of{p:List Rat}{s:Nat}(h:bdL p s):Ht p (s+1+p.length* s):=by
 have hD:denL p 1≠0:=iE_ _ (by decide);have hb:=mM_ p 1 h;have hd:=(fy_ p 1).2;rw[fl_] at hb;refine⟨nQ (denL p 1),fun e=>hD (nQ_zero.1 e),fun i=>?_⟩;by_cases hi:i< p.length;have hm:=List.mem_of_getElem? (bd_ hi);have h1:=hp_ (coP p i) _ (hd _ hm);have h2:=mt_ (coP p i) (denL p 1);have h3:=h _ hm;rw[gY_] at h1;by_cases hn:coP p i* nQ (denL p 1)< 0;refine⟨-(intC (coP p i) (denL p 1):Int),by grind,?_⟩;rw[Int.natAbs_neg,Int.natAbs_natCast];omega;rw[if_neg hn] at h1;exact⟨(intC (coP p i) (denL p 1):Int),h1,by grind⟩;refine⟨0,?_,Nat.zero_le _⟩;rw[ca_ (by omega),Rat.zero_mul];rfl
theorem Ht.derive{p:List Rat}{h:Nat}(H:Ht p h):Ht (ao_ p) (h+bl p.length):=by
 obtain⟨k,k0,H⟩:=H;refine⟨k,k0,fun i=>?_⟩;rw[bn_];by_cases hi:i+1< p.length;obtain⟨z,z1,z2⟩:=H (i+1);refine⟨z* ((i+1:Nat):Int),by grind,?_⟩;have:=bW_ z2 (show bl (((i+1:Nat):Int)).natAbs≤bl p.length by exact b1_ (by omega));omega;refine⟨0,?_,Nat.zero_le _⟩;rw[ca_ (by omega),Rat.zero_mul,Rat.zero_mul];rfl
theorem Ht.quot{p:List Rat}{h:Nat}(H:Ht p h)(i j:Nat)(hj:coP p j≠0)(h1:1≤h):qs (coP p i/ coP p j)≤h:=by
 obtain⟨k,k0,H⟩:=H;obtain⟨z,z1,z2⟩:=H i;obtain⟨w,w1,w2⟩:=H j
 have w0:w≠0:=fun e=>by
  rw[e] at w1;grind
 have e:coP p i/ coP p j=(z:Rat) / (w:Rat):=by grind
 have hpos:0< w.natAbs:=by omega
 by_cases hw:0< w
 have e2:(z:Rat) / (w:Rat)=mkRat z w.natAbs:=by
  rw[fw_];show Rat.divInt (z* ((1:Nat):Int)) (((1:Nat):Int) * w)=_;rw[←Rat.divInt_ofNat];grind
 rw[e,e2];exact c2_ hpos z2 w2
 have e2:(z:Rat) / (w:Rat)=mkRat (-z) w.natAbs:=by
  have e3:(z:Rat) / (w:Rat)=((-z:Int):Rat) / ((-w:Int):Rat):=by grind
  rw[e3,fw_];show Rat.divInt (-z* ((1:Nat):Int)) (((1:Nat):Int) * -w)=_;rw[←Rat.divInt_ofNat];grind
 rw[e,e2];exact c2_ hpos (by grind) w2
theorem Ht.monic{p:List Rat}{h:Nat}(H:Ht p h)(h1:1≤h):bdL (a4_ p) h∧Ht (a4_ p) h:=by
 by_cases h0:nz p;have hm:a4_ p=aw_ p (1/ leadP p):=by unfold a4_;rw[if_neg h0]
 have hk:1/ leadP p≠0:=fun e=>by have:=Rat.div_mul_cancel (a:=1) (kg_ h0);grind
 refine⟨ew_ fun i=>?_,H.scale hk fun i=>by rw[hm,bA_]⟩
 have e:coP (a4_ p) i=coP p i/ coP p (dg p):=by
  rw[hm,bA_,(b3_ h0).2,Rat.div_def,Rat.div_def,Rat.one_mul]
 rw[e];exact H.quot i _ (b3_ h0).1.1 h1;have e:a4_ p=[]:=by unfold a4_;rw[if_pos (Decidable.byContradiction h0)]
 rw[e];exact⟨fun q hq=>(by grind),.zero (fun i=>rfl) _⟩
theorem nR_(D d:Nat):∀(l:List Rat) (n:Nat),d∣n→(∀c∈l,d∣intC c D)→d∣numL D l n
 |[],_,h,_=>h
 |c::l,n,h,hc=>nR_ D d l _ (Nat.dvd_gcd h (hc c (List.mem_cons_self ..))) fun x hx=>hc x (List.mem_cons_of_mem _ hx)
theorem Ht.prim{p:List Rat}{h:Nat}(H:Ht p h)(h0:nz p)(h1:1≤h):bdL (primP p) h∧Ht (primP p) h:=by
 obtain⟨c,c0,hc⟩:=fL_ h0;have hcc:∀i,coP (primP p) i=coP p i* (nQ (denL (trimQ p) 1) / nQ (numL (denL (trimQ p) 1) (trimQ p) 0)):=fun i=>by unfold primP;rw[bA_,aU_]
 have hD:denL (trimQ p) 1≠0:=iE_ _ (by decide);have hl:=List.length_pos_iff.2 h0;have hg:=bk_ (l:=p) (n:=(trimQ p).length- 1) (by omega);have hm:=List.mem_of_getElem? hg;have hdv:=(fy_ (trimQ p) 1).2;have hnd:=(ho_ (denL (trimQ p) 1) (trimQ p) 0).2;have hdn:=nR_ (denL (trimQ p) 1);generalize hDe:denL (trimQ p) 1=D at *
 have hN:numL D (trimQ p) 0≠0:=fun e=>by
  have:=hnd _ hm;rw[e] at this;exact ms_ (hdv _ hm) hD (bj_ h0) (Nat.eq_zero_of_zero_dvd this)
 have hDq:nQ D≠0:=fun e=>hD (nQ_zero.1 e);have hNq:nQ (numL D (trimQ p) 0)≠0:=fun e=>hN (nQ_zero.1 e)
 refine⟨ew_ fun i=>?_,H.scale (c:=nQ D/ nQ (numL D (trimQ p) 0)) (fun e=>by
  grind) hcc⟩
 obtain⟨k,k0,H⟩:=H
 -- k=D* (m/ n)
 generalize hr:k/ nQ D=r;have hk:k=r* nQ D:=by grind
 have r0:r≠0:=fun e=>by grind
 have rn:r* (nQ r.den)=(r.num:Rat):=by
  have e:(r.num:Rat) / nQ r.den=r:=by
   rw[fw_];simp
  grind
 have co:∀j,j< (trimQ p).length→r.den∣intC (coP p j) D∧∃z:Int,(intC (coP p j) D* r.num.natAbs=z.natAbs* r.den∧bl z.natAbs≤h):=fun j hj=>by
  obtain⟨z,z1,z2⟩:=H j;have hmj:=List.mem_of_getElem? (bd_ hj);rw[aU_] at hmj;have a1:=hp_ (coP p j) D (hdv _ hmj)
  have a2:intC (coP p j) D* r.num.natAbs=z.natAbs* r.den:=by
   have b1:coP p j* nQ D* (r.num:Rat)=(z:Rat) * nQ r.den:=by rw[←z1,hk,←rn];grind
   have b2:∃s:Int,coP p j* nQ D=(s:Rat)∧s.natAbs=intC (coP p j) D:=by
    rw[gY_] at a1;by_cases hn:coP p j* nQ D< 0;rw[if_pos hn] at a1;exact⟨-(intC (coP p j) D:Int),by rw[Rat.intCast_neg];grind,by rw[Int.natAbs_neg,Int.natAbs_natCast]⟩;rw[if_neg hn] at a1;exact⟨(intC (coP p j) D:Int),a1,Int.natAbs_natCast _⟩
   obtain⟨s,s1,s2⟩:=b2;rw[s1] at b1
   have b3:s* r.num=z* (r.den:Int):=by
    have:((s* r.num:Int):Rat)=((z* (r.den:Int):Int):Rat):=by rw[Rat.intCast_mul,Rat.intCast_mul];exact b1
    exact_mod_cast this
   have b4:=congrArg Int.natAbs b3;rw[Int.natAbs_mul,Int.natAbs_mul,s2,Int.natAbs_natCast] at b4;exact b4
  refine⟨?_,z,a2,z2⟩;have hco:Nat.Coprime r.den r.num.natAbs:=Nat.coprime_comm.1 r.reduced;exact hco.dvd_of_dvd_mul_right ⟨z.natAbs,by rw[a2,Nat.mul_comm]⟩
 rw[hcc];by_cases hi:i< (trimQ p).length;obtain⟨z,a2,z2⟩:=(co i hi).2;have hmi:=List.mem_of_getElem? (bd_ hi);rw[aU_] at hmi
 have hdN:r.den∣numL D (trimQ p) 0:=hdn _ _ _ (Nat.dvd_zero _) fun c hcm=>by
  obtain⟨j,hj⟩:=List.mem_iff_getElem?.1 hcm
  have hjl:j< (trimQ p).length:=by
   by_cases h:j< (trimQ p).length;exact h;rw[List.getElem?_eq_none (by omega)] at hj;cases hj
  have e:=bd_ hjl;rw[hj,aU_] at e;cases e;exact(co j hjl).1
 have hNi:=hnd _ hmi;have a1:=hp_ (coP p i) D (hdv _ hmi)
 have small:intC (coP p i) D/ numL D (trimQ p) 0≤z.natAbs:=by
  have q1:r.den≤numL D (trimQ p) 0:=Nat.le_of_dvd (by omega) hdN
  have q2:0< r.num.natAbs:=by
   have:r.num≠0:=fun e=>r0 (Rat.num_eq_zero.1 e);omega
  refine Nat.div_le_of_le_mul ?_
  calc intC (coP p i) D≤intC (coP p i) D* r.num.natAbs:=Nat.le_mul_of_pos_right _ q2
   _=z.natAbs* r.den:=a2
   _≤numL D (trimQ p) 0* z.natAbs:=by rw[Nat.mul_comm];exact Nat.mul_le_mul_right _ q1
 have hb:bl (intC (coP p i) D/ numL D (trimQ p) 0)≤h:=Nat.le_trans (b1_ small) z2
 have e1:absQ (coP p i* (nQ D/ nQ (numL D (trimQ p) 0)))=nQ (intC (coP p i) D/ numL D (trimQ p) 0):=by
  have e2:coP p i* (nQ D/ nQ (numL D (trimQ p) 0))=coP p i* nQ D/ nQ (numL D (trimQ p) 0):=by rw[Rat.div_def,Rat.div_def];grind
  have e3:nQ (intC (coP p i) D) / nQ (numL D (trimQ p) 0)=nQ (intC (coP p i) D/ numL D (trimQ p) 0):=by
   rw[nr_ _ _ hN,li_ _ _ hN hNi]
  have hpos:(0:Rat)< nQ (numL D (trimQ p) 0):=by
   rw[←num_pos];show 0< ((numL D (trimQ p) 0:Nat):Int);omega
  rw[e2,←e3,←a1,kF_,kF_,Rat.div_def,Rat.div_def,bx_];congr 1;have:(0:Rat)< (nQ (numL D (trimQ p) 0))⁻¹:=Rat.inv_pos.2 hpos;unfold ab;rw[if_neg (by grind)]
 rw[←pL_,e1];exact qs_nQ hb h1;have:coP p i=0:=by rw[←aU_];exact ca_ (by omega)
 rw[this,Rat.zero_mul];exact Nat.le_trans (by decide:qs 0≤1) h1
end Go.Abs
