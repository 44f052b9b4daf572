/- Part V24 of the proof. -/
import Derived.Test.YtkhclghbcicapaaGreatDoorV23
set_option linter.all false
namespace Go.Proofs.YtkhclghbcicapaaGreatDoor
open Go.Abs
set_option maxRecDepth 20000
set_option maxHeartbeats 1000000
def yR(c:Cnt)(q:List Rat)(step:Rat)(s:Sp):Option Bool:=if vZ q s∧smS (dl q s)∧sm ((dl q s).2- (dl q s).1)∧sm step∧nI c s then some (decide (dB ((dl q s).2- (dl q s).1) step< 0)) else none
def valR(f g:Nat)(c:Cnt)(i:Int)(q:List Rat)(k:Int)(v:Sp):Option Sp:=
 if sm (fk v.2 (wi k 256))∧smS v∧sm (cY (wi k 256))∧smL q∧q.length≤274877906944 then
  if dB (fk v.2 (wi k 256)) v.1< 0 then some (fk v.2 (wi k 256),fk v.2 (wi k 256)+cY (wi k 256))
  else(xN f g c i (cn q (b9 (fk v.2 (wi k 256))))).bind fun sg=>
   some (if sg=0 then(fk v.2 (wi k 256),fk v.2 (wi k 256)) else if sg=1 then(fk v.2 (wi k 256),fk v.2 (wi k 256)+cY (wi k 256)) else(fk v.2 (wi k 256)- cY (wi k 256),fk v.2 (wi k 256)))
 else none
def vi(f g:Nat)(c:Cnt)(i:Int)(q:List Rat)(k:Int):Option Sp:=
 (pF f c i 0).bind fun s0=>(mQ (fun j=>yR c q (cY (wi k 256)) (bv c i s0 j)) g 0).bind fun j=>valR f g c i q k (dl q (bv c i s0 j))
abbrev bI(k:Int):AV:= .aptr [[i64 k]] 0 0
theorem kw(k:Int):Closed (bI k):=bC (ac (ah _) ag)
def vaS(c:Cnt)(i:Int)(q:List Rat)(k:Int)(step:Rat):Nat→AState
 |j=>⟨[(3,bPl c i),(4,bP q),(5,bI k),(6,.lptr 1 0 0),(7,bQ step),(14,.clos 240 [] [bPl c i])],[(1,some ⟨40,6,[zC++zC]⟩)],2,61⟩
def vaX(r:Sp):Unit→AState
 |u=>⟨[(6,.lptr 1 0 0)],[(1,some ⟨40,6,[spC r.1 r.2]⟩)],2,61⟩
theorem Im(f g:Nat)(c:Cnt)(i:Int)(q:List Rat)(k:Int)(r:Sp)(h:vi f g c i q k=some r)(hf:f≤1000000):FS 176 [plA c i,.arr (pE q),i64 k] (.agg (spC r.1 r.2)):=by
 unfold vi at h;obtain⟨p,V,h2⟩:=Option.bind_eq_some_iff.1 h;obtain⟨t,hkk,a⟩:=Option.bind_eq_some_iff.1 h2;obtain⟨t1,_,t2⟩:=lf hkk;obtain⟨step,w⟩:∃step,step=cY (wi k 256):=⟨_,rfl⟩;rw[←w] at t1 t2
 have F:∀j,j≤t→vZ q (bv c i p j)∧smS (dl q (bv c i p j))∧sm ((dl q (bv c i p j)).2- (dl q (bv c i p j)).1)∧sm step∧nI c (bv c i p j):=fun j C=>by
  have:∃b,yR c q step (bv c i p j)=some b:=by
   by_cases e:j=t;rw[e];exact⟨_,t1⟩;exact⟨_,t2 j (Nat.zero_le _) (by omega)⟩
  obtain⟨b,hb⟩:=this;unfold yR at hb;split at hb;assumption;cases hb
 have Z:=tk f c i p t V (fun j C=>(F j (by omega)).2.2.2.2);have J:=rV k;rw[←w] at J;refine f_n Tryz.func176 ?_ ?_;exact ac (dC c i) (ac (aC q) (ac (ah _) ag));refine r_z 4 ?_;refine r_c 4 (J) ?_;refine a_z ?_;refine AWp.ent (st':=⟨[(3,bPl c i),(4,bP q),(5,bI k),(6,.lptr 1 0 0),(7,bQ step)],[(1,some ⟨40,6,[zC++zC]⟩)],2,61⟩) ?_ ?_;have:=(ac (dC c i) ag);exact s_f [(1,6)];refine ae (r_c 2 (tv c i) ?_);refine au ?_;refine aH (vaX r) (fun _=>False) ?_ (fun _ h=>h.elim);refine am (AWp.rangeFuncB (α:=Nat) (γ:=Unit) t (vaS c i q k step) (fun j=>j) (fun j=>j≤t) (vaX r) (fun e _=>e= .ret) 0 rfl Z rfl rfl ?_ (fun _=>⟨rfl,rfl⟩) (fun _=>rfl) (Nat.zero_le _) rfl (fun _ h=>h) ?_ ?_ ?_ ?_ ?_);intro j xs G;cases G;rfl;rw[vaS.eq_1];have:=kw k;exact s_t [];exact ac (dT c i) ag;intro l j xs C G;cases G;have L:=F j C;obtain⟨s,d⟩:∃s,s=bv c i p j:=⟨_,rfl⟩;rw[←d] at L⊢;obtain⟨U,B,M,Y,x5⟩:=L;obtain⟨v,hv⟩:∃v,v=dl q s:=⟨_,rfl⟩;have D:=fs_Over q s U;rw[←hv] at D B M;show AWp _ _ _ _ ⟨[(15,.agg (spC s.1 s.2)),(3,bPl c i),(4,bP q),(5,bI k),(6,.lptr 1 0 0),(7,bQ step),(14,.clos 240 [] [bPl c i]),(1003,bPl c i),(1004,bP q),(1005,bI k),(1006,.lptr 1 0 0),(1007,bQ step),(1014,.clos 240 [] [bPl c i])],[(1,some ⟨40,6,[zC++zC]⟩)],2,61⟩;refine r_m 2 ?_;refine a_z ?_;refine am (r_c 5 (D) ?_);refine a_z ?_;refine ae (ae (r_d ba 5 ?_));refine c_s (tw v.1 v.2 B.1 B.2) ?_;refine c_s (qg (v.2- v.1) step M Y) ?_;refine a_1 ?_;refine au (n_k ?_);refine aq rfl (fun O=>?_) (fun O=>?_)
 have R:¬dB (v.2- v.1) step< 0:=by
  have:0≤dB (v.2- v.1) step:=by simpa using O
  omega
 have W:j< t:=by
  refine Nat.lt_of_le_of_ne C fun e=>?_;subst e;rw[←d] at t1;unfold yR at t1;rw[←hv] at t1;rw[if_pos ⟨U,B,M,Y,x5⟩] at t1;simp[R] at t1
 refine aA (⟨j+1,⟨W,rfl⟩,?_⟩);show SEntT _ ⟨[(1003,bPl c i),(1004,bP q),(1005,bI k),(1006,.lptr 1 0 0),(1007,bQ step),(1014,.clos 240 [] [bPl c i])],[(1,some ⟨40,6,[zC++zC]⟩)],2,61⟩;have:=kw k;exact s_t []
 ·have R:dB (v.2- v.1) step< 0:=by
   have:¬0≤dB (v.2- v.1) step:=by simpa using O
   omega
  have W:j=t:=by
   refine Nat.le_antisymm C (Nat.le_of_not_lt fun Q=>?_);have n:=t2 j (Nat.zero_le _) Q;rw[←d] at n;unfold yR at n;rw[←hv] at n;rw[if_pos ⟨U,B,M,Y,x5⟩] at n;simp[R] at n
  subst W;rw[←d,←hv] at a;unfold valR at a;rw[←w] at a;obtain⟨m,hm⟩:∃m,m=fk v.2 (wi k 256):=⟨_,rfl⟩;rw[←hm] at a;split at a
  case isFalse=>cases a
  case isTrue hz=>
  obtain⟨H,z2,S,z4,z5⟩:=hz;have E:=Fg v.2 k B.2;rw[←hm] at E;refine an (r_c 6 (E) ?_);refine a_z ?_;refine ae (r_c 5 (qg m v.1 H z2.1) ?_);refine a_z ?_;refine aq rfl (fun n=>?_) (fun n=>?_);have X:dB m v.1< 0:=by simpa using n
  rw[if_pos X] at a;cases a;refine ae (r_d ba 6 ?_);refine c_s (fD m step (sm2 H S)) ?_;refine a_2 ?_;refine au (n_k ?_);refine ak (⟨rfl,(),rfl,?_⟩);show SEntT _ ⟨[(1006,.lptr 1 0 0)],[(1,some ⟨40,6,[spC (m,m+step).1 (m,m+step).2]⟩)],2,61⟩;have:=kw k;exact s_t [];have X:¬dB m v.1< 0:=by simpa using n
  rw[if_neg X] at a;obtain⟨sg,T,N⟩:=Option.bind_eq_some_iff.1 a;cases N;have hcl:=kP m;have K:smL (b9 m):=vy fun x L=>by rw[List.mem_singleton.1 L];exact H
  refine an (ae (ae (r_d ba 6 ?_)));refine c_s (uq m) ?_;refine c_s (zT q (b9 m) z4 K (by omega) (by omega)) ?_;refine c_s (fs_sign f g c i (cn q (b9 m)) sg T hf) ?_;refine au (n_k ?_);refine am (r_z 2 ?_);refine aq rfl (fun z=>?_) (fun z=>?_);have o:sg=0:=by simpa using z
  refine r_c 3 (BK m) ?_;refine a_z ?_;refine ak (⟨rfl,(),rfl,?_⟩);rw[if_pos o];show SEntT _ ⟨[(1006,.lptr 1 0 0)],[(1,some ⟨40,6,[spC (m,m).1 (m,m).2]⟩)],2,61⟩;have:=kw k;exact s_t [];have o:¬sg=0:=by simpa using z
  refine r_z 2 ?_;refine aq rfl (fun y=>?_) (fun y=>?_);have A:sg=1:=by simpa using y
  refine ae (r_d ba 6 ?_);refine c_s (fD m step (sm2 H S)) ?_;refine a_2 ?_;refine au (n_k ?_);refine ak (⟨rfl,(),rfl,?_⟩);rw[if_neg o,if_pos A];show SEntT _ ⟨[(1006,.lptr 1 0 0)],[(1,some ⟨40,6,[spC (m,m+step).1 (m,m+step).2]⟩)],2,61⟩;have:=kw k;exact s_t [];have A:¬sg=1:=by simpa using y
  refine an (ae (r_d ba 6 ?_));refine c_s (lE m step (sm2 H S)) ?_;refine a_3 ?_;refine au (n_k ?_);refine ak (⟨rfl,(),rfl,?_⟩);rw[if_neg o,if_neg A];show SEntT _ ⟨[(1006,.lptr 1 0 0)],[(1,some ⟨40,6,[spC (m- step,m).1 (m- step,m).2]⟩)],2,61⟩;have:=kw k;exact s_t []
 intro j C G;cases G;rintro e u rfl;exact Fin.cell rfl rfl rfl TG.h TS.h (nle rfl) (ao ay (bJ _ _))
structure CG (f N h Q:Nat)(p:List Rat)(c:Cnt):Prop where
 hc:gx f p=some c
 np:nz p
 ok:∀x,qs x≤Q→qW c x∧pa c x
 len:c.p.length≤N
 bd:bdL c.p (h+12* N+8)
 ht:Ht c.p (h+12* N+8)
theorem CG.ex{f N h X T Q:Nat}(hc:cH f N h X T Q=true){p:List Rat}(np:nz p)(hl:(aj p).length≤N)(hp:p.length≤1000)(hb:bdL p h)(hH:Ht p h):∃c,CG f N h Q p c:=by
 obtain⟨c,b,e,a,d,g⟩:=countsH hc np hl hp hb hH;exact⟨c,b,np,e,a,d,g⟩
theorem plC_nn{c:Cnt}{i:Int}{x:Rat}:0≤plC c i x↔aZ c x≤i:=by unfold plC;grind
theorem plC_neg{c:Cnt}{i:Int}{x:Rat}:plC c i x< 0↔i< aZ c x:=by have:=plC_nn (c:=c) (i:=i) (x:=x);omega
theorem plC_z{c:Cnt}{i:Int}{x:Rat}:plC c i x=0↔aZ c x=i∧aZ c x< bZ c x:=by
 unfold plC;grind
theorem plC_one{c:Cnt}{i:Int}{x:Rat}(h:plC c i x=1):aZ c x≤i:=plC_nn.1 (by omega)
theorem plC_els{c:Cnt}{i:Int}{x:Rat}(h0:plC c i x≠0)(h1:plC c i x≠1):i< aZ c x:=by
 unfold plC at *
 grind
theorem uG{z:Int}{b:Nat}(h:z.natAbs≤2^ b):qs (z:Rat)≤b+2:=by
 have h1:=HH z;have a:bl z.natAbs≤b+1:=ez (Nat.lt_of_le_of_lt h (Nat.pow_lt_pow_right (by decide) (by omega)));omega
theorem fine0:cY 0=1:=by decide+kernel
theorem xb{f N h Q:Nat}{p:List Rat}{c:Cnt}(H:CG f N h Q p c)(i:Int){b:Nat}(hb:b+6≤Q)(hb2:b≤100000000):∀(n g:Nat) (lo hi:Int),n< g→lo< hi→hi- lo≤2^ n→lo.natAbs≤2^ b→hi.natAbs≤2^ b→aZ c lo≤i→i< aZ c hi→
    ∃l:Int,biM c i 1 g lo hi=some (l:Rat)∧lo≤l∧l< hi∧aZ c l≤i∧i< aZ c ((l+1:Int):Rat)
 |_,0,_,_,hg,_,_,_,_,_,_=>by omega
 |n,g+1,lo,hi,hg,hlt,hn,h1,h2,h3,h4=>by
  have sl:=uG h1;have u:=uG h2;have s:=nD (hi:Rat) (lo:Rat);rw[biM,if_pos (show sm (lo:Rat)∧sm (hi:Rat)∧sm ((hi:Rat)- lo) from⟨by show _≤137438953472;omega,by show _≤137438953472;omega,by show _≤137438953472;omega⟩)];have e1:(1:Rat)=((1:Int):Rat):=rfl;by_cases hd:hi- lo≤1;have d:hi=lo+1:=by omega
  rw[if_neg (by
   unfold dB;have:(hi:Rat)- (lo:Rat)=1:=by rw[d,Rat.intCast_add];grind
   grind)]
  exact⟨lo,rfl,by omega,by omega,h3,by rw[←d];grind⟩
  rw[if_pos (by
   unfold dB;have:(1:Rat)< (hi:Rat)- (lo:Rat):=by rw[e1,←Rat.intCast_sub,Rat.intCast_lt_intCast];omega
   grind)]
  generalize j:(((lo:Rat)+(hi:Rat)) / 2).floor=m;have q:=Rat.floor_le (((lo:Rat)+(hi:Rat)) / 2);have o:=Rat.lt_floor_add_one (((lo:Rat)+(hi:Rat)) / 2);rw[j] at q o;have e2:((lo:Rat)+(hi:Rat)) / 2* 2=(lo:Rat)+(hi:Rat):=Rat.div_mul_cancel (by decide)
  have r:2* m≤lo+hi:=by
   rw[←Rat.intCast_le_intCast,Rat.intCast_mul,Rat.intCast_add,show((2:Int):Rat)=2 from rfl];grind
  have t:lo+hi< 2* (m+1):=by
   rw[←Rat.intCast_lt_intCast,Rat.intCast_mul,Rat.intCast_add lo hi,show((2:Int):Rat)=2 from rfl];grind
  have a:m.natAbs≤2^ b:=by omega
  have k:=uG a;have s1:qs 1=1:=by decide
  rw[Rat.mul_one,if_pos (show qs (m:Rat)+qs 1≤549755813888∧pa c (m:Rat) from⟨by omega,(H.ok _ (by omega)).2⟩)];cases n with
  |zero=>omega
  |succ n=>
  have hp:(2:Int) ^ (n+1)=2^ n* 2:=Int.pow_succ 2 n;by_cases hb':aZ c (m:Rat)≤i;rw[if_pos (plC_nn.2 hb')];obtain⟨l,q1,q2,q3,q4⟩:=xb H i hb hb2 n g m hi (by omega) (by omega) (by omega) a h2 hb' h4;exact⟨l,q1,by omega,q3,q4⟩;rw[if_neg (fun e=>hb' (plC_nn.1 e))];obtain⟨l,q1,q2,q3,q4⟩:=xb H i hb hb2 n g lo m (by omega) (by omega) (by omega) h1 a h3 (by omega);exact⟨l,q1,q2,by omega,q4⟩
theorem F8{c:Cnt}{b:Nat}(hb:qs (cj c.p)+1≤b):∃z:Int,hiV c 1=(z:Rat)∧1≤z∧z.natAbs≤2^ b∧cj c.p≤(z:Rat):=by
 have h1:=tR c.p;refine⟨-(-cj c.p).floor,by unfold hiV sr;grind,?_,?_,?_⟩;have:=Rat.floor_le (-cj c.p);have a:((-cj c.p).floor:Rat)≤((-1:Int):Rat):=by grind
 rw[Rat.intCast_le_intCast] at a;omega;have a:=qP (-cj c.p);rw[fv] at a;have d:=dZ (((-cj c.p).floor:Rat));rw[Rat.num_intCast] at d;have:=uj (-cj c.p).floor.natAbs;have:=Nat.pow_le_pow_right (n:=2) (by decide) (show bl (-cj c.p).floor.natAbs≤b by omega);omega;have:=Rat.floor_le (-cj c.p);grind
theorem high_ne{q:List Rat}(h:nz q){x:Rat}(hx:cj q≤x):af q x≠0:=fun e=>by
 have h1:=w9 h hx;rw[e,lr] at h1;have:=Em (c9 h);grind
theorem span0{f N h Q b:Nat}{p:List Rat}{c:Cnt}(H:CG f N h Q p c)(hN:N≤12)(h1:1≤h)(hb:2* (h+12* N+8)+4≤b)(hb3:b≤100000000)(hQ:b+6≤Q)(hf:b+2≤f)(i:Int)(h0:0≤i)(hi:i< JA c):∃l u:Int,pF f c i 0=some ((l:Rat),(u:Rat))∧u- l≤1∧At c i l u∧l.natAbs≤2^ b∧u.natAbs≤2^ b:=by
 have y:=Jf H.bd (by omega);obtain⟨z,v,A,r,x⟩:=F8 (c:=c) (b:=b) (by omega);obtain⟨n,_,_,o,d,j⟩:=iW H.hc H.np
 have lo:aZ c ((-z:Int):Rat)≤i:=by
  have:=d ((-z:Int):Rat) (by grind);have:=(fi (c:=c) H.hc H.np ((-z:Int):Rat)).1;omega
 have k:i< aZ c (z:Rat):=by
  unfold JA at hi;by_cases g:cj c.p< (z:Rat);have:=eY H.hc H.np g;omega;have e:cj c.p=(z:Rat):=by grind
  rw[←e];unfold aZ;rw[if_neg (high_ne n (by grind))];grind
 have q:(2:Int) ^ (b+1)=2^ b* 2:=Int.pow_succ 2 b;have s:((2^ b:Nat):Int)=2^ b:=Int.natCast_pow 2 b;obtain⟨l,q1,q2,q3,q4,q5⟩:=xb H i (b:=b) (by omega) (by omega) (b+1) f (-z) z (by omega) (by omega) (by omega) (by grind) r lo k;have a:l.natAbs≤2^ b:=by omega
 have m:(l+1).natAbs≤2^ b:=by omega
 have sl:=uG a;have s1:qs 1=1:=by decide
 have t:B2 f c i 1=some ((l:Rat),plC c i (l:Rat)==0):=by
  unfold B2;rw[v,show -((z:Int):Rat)=((-z:Int):Rat) by grind,q1,Option.bind_some,if_pos (show Di c 1 (l:Rat) from⟨?_,n,by decide,by omega,by omega,by rw[Rat.mul_one];exact(H.ok _ (by omega)).2⟩),Rat.mul_one];have:=dz H.bd (by omega);exact⟨by omega,by have:=H.len;omega⟩
 have w:wi 0 256=0:=by decide
 unfold pF;rw[w,fine0,t,Option.bind_some];by_cases g:plC c i (l:Rat)=0;refine⟨l,l,by simp only[g];rfl,by omega,⟨by grind,q4,by have:=plC_z.1 g;omega⟩,a,a⟩;refine⟨l,l+1,?_,by omega,⟨by rw[Rat.intCast_le_intCast];omega,q4,?_⟩,a,m⟩;have e:(plC c i (l:Rat)==0)=false:=by rw[beq_eq_false_iff_ne];exact g
 simp only[e];rw[if_neg (by decide),if_pos (by omega),Rat.intCast_add];rfl;have:=(fi (c:=c) H.hc H.np ((l+1:Int):Rat)).1;omega
theorem oJ{t:Nat→Option Bool}:∀(J g k0:Nat),J< g→(∀k,k0≤k→k≤k0+J→∃b,t k=some b)→t (k0+J)=some true→∃kk,mQ t g k0=some kk∧t kk=some true∧kk≤k0+J
 |_,0,_,hg,_,_=>by omega
 |J,g+1,k0,hg,h,ht=>by
  rw[mQ];obtain⟨b,hb⟩:=h k0 (Nat.le_refl _) (by omega);cases b with
  |true=>grind
  |false=>
   have hJ:J≠0:=fun e=>by grind
   obtain⟨kk,c,f,d⟩:=oJ (J- 1) g (k0+1) (by omega) (fun k h1 a=>h k (by omega) (by omega)) (by grind);grind
theorem fine1:cY 1=1/ 2:=by decide+kernel
theorem Bq{a b:Rat}{k:Nat}(h:a* p2 k≤b* p2 k):a≤b:=jk (dp k) (by grind)
theorem Ce{f N h Q:Nat}{p:List Rat}{c:Cnt}(H:CG f N h Q p c){i l u:Int}(hl:l≤u)(hu:u≤l+1)(a:At c i l u):∀k,∃z w:Int,(bv c i ((l:Rat),(u:Rat)) k).1* p2 k=(z:Rat)∧(bv c i ((l:Rat),(u:Rat)) k).2* p2 k=(w:Rat)∧z≤w∧w≤z+1∧At c i (bv c i ((l:Rat),(u:Rat)) k).1 (bv c i ((l:Rat),(u:Rat)) k).2
 |0=>⟨l,u,by rw[uJ,Rat.mul_one];rfl,by rw[uJ,Rat.mul_one];rfl,hl,hu,a⟩
 |k+1=>by
  obtain⟨z,w,h1,d,m,n,e⟩:=Ce H hl hu a k;rw[bv];generalize bv c i ((l:Rat),(u:Rat)) k=s at *
  have b:jh s* p2 (k+1)=((z+w:Int):Rat):=by
   unfold jh;rw[fine1,eJ,lA,Rat.intCast_add,←h1,←d];grind
  have d1:s.1* p2 (k+1)=((2* z:Int):Rat):=by rw[eJ,lA,Rat.intCast_mul,←h1,show((2:Int):Rat)=2 from rfl];grind
  have d2:s.2* p2 (k+1)=((2* w:Int):Rat):=by rw[eJ,lA,Rat.intCast_mul,←d,show((2:Int):Rat)=2 from rfl];grind
  have g:s.1≤jh s:=Bq (k:=k+1) (by rw[b,d1,Rat.intCast_le_intCast];omega);have j:jh s≤s.2:=Bq (k:=k+1) (by rw[b,d2,Rat.intCast_le_intCast];omega);unfold x7;by_cases e0:plC c i (jh s)=0;rw[if_pos e0];have:=plC_z.1 e0;exact⟨z+w,z+w,b,b,by omega,by omega,⟨Rat.le_refl,by grind,by grind⟩⟩;rw[if_neg e0];by_cases e1:plC c i (jh s)=1;rw[if_pos e1];exact⟨z+w,2* w,b,d2,by omega,by omega,j,plC_one e1,e.2.2⟩;rw[if_neg e1];have q1:=plC_els e0 e1;have q2:=(fi (c:=c) H.hc H.np (jh s)).1;exact⟨2* z,z+w,d1,b,by omega,by omega,⟨g,e.2.1,by grind⟩⟩
theorem Jz{f N h Q:Nat}{p:List Rat}{c:Cnt}(H:CG f N h Q p c){i:Int}{x y x' y':Rat}(a:At c i x y)(b:At c i x' y'):x≤y':=by
 by_cases g:x≤y';exact g;have:=eY H.hc H.np (show y'< x by grind);have:=a.2.1;have:=b.2.2;omega
theorem Av{f N h Q:Nat}{p:List Rat}{c:Cnt}(H:CG f N h Q p c){i l u:Int}(hl:l≤u)(hu:u≤l+1)(a:At c i l u){A B:Rat}{r:Nat}(ab0:At c i A B)(hA:ab A≤p2 r)(hB:ab B≤p2 r)(k:Nat):
    qs (bv c i ((l:Rat),(u:Rat)) k).1≤r+k+2∧qs (bv c i ((l:Rat),(u:Rat)) k).2≤r+k+2∧qs (jh (bv c i ((l:Rat),(u:Rat)) k))≤r+k+4∧ab (bv c i ((l:Rat),(u:Rat)) k).1≤p2 (r+1)∧ab (bv c i ((l:Rat),(u:Rat)) k).2≤p2 (r+1)∧
     ((bv c i ((l:Rat),(u:Rat)) k).2- (bv c i ((l:Rat),(u:Rat)) k).1) * p2 k≤1∧At c i (bv c i ((l:Rat),(u:Rat)) k).1 (bv c i ((l:Rat),(u:Rat)) k).2:=by
 obtain⟨z,w,h1,d,L,O,m⟩:=Ce H hl hu a k;generalize bv c i ((l:Rat),(u:Rat)) k=s at *
 have o1:=Jz H m ab0;have o2:=Jz H ab0 m;have F:=(ab_le.1 hA).1;have J:=(ab_le.1 hB).2;have q:=Rat.le_of_lt (dp k)
 have e1:z≤((2^ (r+k):Nat):Int):=by
  have t1:=Rat.mul_le_mul_of_nonneg_right (show s.1≤p2 r by grind) q;rw[h1,←eJ] at t1;unfold p2 at t1;rw[Rat.intCast_le_intCast] at t1;grind
 have e2: -((2^ (r+k):Nat):Int)≤w:=by
  have t1:=Rat.mul_le_mul_of_nonneg_right (show -p2 r≤s.2 by grind) q;rw[d,show -p2 r* p2 k= -(p2 r* p2 k) by grind,←eJ] at t1;unfold p2 at t1;rw[←Rat.intCast_neg,Rat.intCast_le_intCast] at t1;grind
 have K:=Nat.one_le_two_pow (n:=r+k);have G:2^ (r+k+1)=2^ (r+k) * 2:=Nat.pow_succ 2 (r+k);have zl:z.natAbs≤2^ (r+k+1):=by grind
 have C:w.natAbs≤2^ (r+k+1):=by grind
 have D:bl z.natAbs≤r+k+2:=ez (Nat.lt_of_le_of_lt zl (Nat.pow_lt_pow_right (by decide) (by omega)));have o:bl w.natAbs≤r+k+2:=ez (Nat.lt_of_le_of_lt C (Nat.pow_lt_pow_right (by decide) (by omega)))
 have g:∀j,j≤r+k+1→IB (p2 j) (r+k+2):=fun j M=>⟨((2^ j:Nat):Int),rfl,by
  rw[Int.natAbs_natCast];exact ez (Nat.pow_lt_pow_right (by decide) (by omega))⟩
 have b:∀(x:Rat) (v:Int) (j n:Nat),x* p2 j=(v:Rat)→bl v.natAbs≤n→IB (p2 j) n→1≤n→qs x≤n:=fun x v j n e hb hp h1=>by
  have:=AF (x:=x* p2 j) (y:=p2 j) ⟨v,e,hb⟩ hp (by have:=dp j;grind) h1;rwa[Rat.mul_div_cancel (by have:=dp j;grind)] at this
 have E:jh s* p2 (k+1)=((z+w:Int):Rat):=by
  unfold jh;rw[fine1,eJ,lA,Rat.intCast_add,←h1,←d];have:(1:Rat) / 2* 2=1:=by decide+kernel
  generalize (1:Rat) / 2=t at *
  grind
 have mag:∀(x:Rat) (v:Int),x* p2 k=(v:Rat)→v.natAbs≤2^ (r+k+1)→ab x≤p2 (r+1):=fun x v e hv=>by
  have t:ab (x* p2 k)≤p2 (r+k+1):=by
   rw[e,ab_le];unfold p2;rw[←Rat.intCast_neg,Rat.intCast_le_intCast,Rat.intCast_le_intCast];omega
  rw[cM,show ab (p2 k)=p2 k by unfold ab;rw[if_neg (by grind)],show r+k+1=r+1+k by omega,eJ] at t;exact Bq t
 refine⟨b _ z k _ h1 D (g k (by omega)) (by omega),b _ w k _ d o (g k (by omega)) (by omega),b _ (z+w) (k+1) _ E ?_ ((g (k+1) (by omega)).mono (by omega)) (by omega),mag _ z h1 zl,mag _ w d C,?_,m⟩;have:=o0 D o;omega;rw[Rat.sub_eq_add_neg,Rat.add_mul,d,show -s.1* p2 k= -(s.1* p2 k) by grind,h1,←Rat.intCast_neg,←Rat.intCast_add,show(1:Rat)=((1:Int):Rat) from rfl,Rat.intCast_le_intCast];omega
def jB(N h g r J:Nat):Bool:=(List.range (N+1)).all fun m=>(List.range (m+1)).all fun n=>decide (sF (n+1) m n h g (r+1)+(max h g+(r+1+2) * m)+1≤J) && decide (sF (n+1) m n g h (r+1)+(max h g+(r+1+2) * m)+1≤J)
theorem sepJ{N h g r J k:Nat}(hJ:jB N h g r J=true)(hk:J≤k){p q:List Rat}(lp:(aj p).length≤N)(lq:(aj q).length≤N)(np:nz p)(nq:nz q)(Hp:Ht p h)(Hq:Ht q g)(hco:∀d,nz d→Dv d p→Dv d q→dg d=0){x y:Rat}(hxy:x≤y)(hx:ab x≤p2 (r+1))(hy:ab y≤p2 (r+1))(hd:(y- x) * p2 k≤1):Far p x y∨Far q x y:=by
 unfold jB at hJ;simp only[List.all_eq_true,List.mem_range,Bool.and_eq_true,decide_eq_true_eq] at hJ;obtain⟨a,e,ha⟩:=Hp;obtain⟨b,f,hb⟩:=Hq
 have c:(y- x) * p2 J≤1:=by
  have:=Rat.mul_le_mul_of_nonneg_left (eU hk) (show 0≤y- x by grind);grind
 by_cases hl:(aj q).length≤(aj p).length;have t:=(hJ (aj p).length (by omega) (aj q).length (by omega)).1;exact EB (r:=r+1) (J:=J) rfl rfl hl nq e f ha hb hco (by omega) (by omega) hxy hx hy c;have t:=(hJ (aj q).length (by omega) (aj p).length (by omega)).2;exact(EB (r:=r+1) (J:=J) rfl rfl (show(aj p).length≤(aj q).length by omega) np f e hb ha (fun d d0 d1 d2=>hco d d0 d2 d1) (by omega) (by omega) hxy hx hy c).symm
theorem CG.sq{f N h Q:Nat}{p:List Rat}{c:Cnt}(H:CG f N h Q p c):nz c.p∧∀d,nz d→Dv d c.p→Dv d (aN c.p)→dg d=0:=by
 obtain⟨a,hs,_⟩:=iW H.hc H.np;exact sP hs H.np
theorem u6{f N h Q:Nat}{p:List Rat}{c:Cnt}(H:CG f N h Q p c){i:Int}{x y:Rat}(a:At c i x y):¬Far c.p x y:=fun g=>by
 obtain⟨b,d,_⟩:=ko H.hc H.np;exact at_not H.hc H.np a (SF.far _ p c.p (Nat.le_refl _) H.np b x y g)
theorem iso_at{f N h Q r J k:Nat}{p:List Rat}{c:Cnt}(H:CG f N h Q p c)(h1:1≤h)(hN:N≤12)(hJ:jB N (h+12* N+8) (h+12* N+13) r J=true)(hk:J≤k){i:Int}{x y:Rat}(a:At c i x y)(hx:ab x≤p2 (r+1))(hy:ab y≤p2 (r+1))(hd:(y- x) * p2 k≤1):aZ c x=i∧bZ c y=i+1:=by
 obtain⟨d,b⟩:=H.sq;have l:(aj c.p).length≤N:=by have:=bO c.p;have:=H.len;omega
 have e:Far (aN c.p) x y:=by
  by_cases hn:nz (aN c.p);have o:=oQ d;have m:aj (aN c.p)=aN c.p:=cw _;rcases sepJ hJ hk l (by grind) d hn H.ht ((mV (by omega) H.bd (by omega) H.ht).2) b a.1 hx hy hd with g|g
  exact absurd g (u6 H a);exact g;exfalso;have j:=b c.p d (.refl _) (.zero _ (ig hn));obtain⟨v,n,hv⟩:=pX d j;exact u6 H a (Far.const n hv)
 have:=GG H.hc H.np a.1 e;have:=a.2.1;have:=a.2.2;omega
structure RC (f N h Q r J:Nat)(p:List Rat)(c:Cnt)(i:Int)(A B:Rat):Prop where
 H:CG f N h Q p c
 h1:1≤h
 hN:N≤12
 hJ:jB N (h+12* N+8) (h+12* N+13) r J=true
 at_:At c i A B
 hA:ab A≤p2 r
 hB:ab B≤p2 r
 i0:0≤i
 ia:i< JA c
 hQ:r+J+4≤Q
 hb:2* (h+12* N+8)+10≤Q
 hb2:h≤10000000
 hf:2* (h+12* N+8)+6≤f
section
variable {f N h Q r J g:Nat}{p:List Rat}{c:Cnt}{i:Int}{A B:Rat}(R:RC f N h Q r J p c i A B)
include R
theorem RC.span:∃l u:Int,pF f c i 0=some ((l:Rat),(u:Rat))∧l≤u∧u≤l+1∧At c i l u:=by
 obtain⟨l,u,d,e,a,_⟩:=span0 (b:=2* (h+12* N+8)+4) R.H R.hN R.h1 (Nat.le_refl _) (by have:=R.hb2;have:=R.hN;omega) (by have:=R.hb;omega) (by have:=R.hf;omega) i R.i0 R.ia;exact⟨l,u,d,Rat.intCast_le_intCast.1 a.1,by omega,a⟩
theorem RC.ibd: -4611686018427387904≤i∧i≤4611686018427387904:=by
 have a:qs 0≤Q:=Nat.le_trans (by decide:qs 0≤1) (by have:=R.hb;omega);have h1:=lI (c:=c) (x:=B) (R.H.ok 0 a).1.1;have:=R.i0;have:=R.at_.2.2;omega
theorem RC.alone(hg:J< g)(hQ2:r+J+4≤100000000000):∃s:Sp,AC f g c i=some s∧At c i s.1 s.2∧bZ c s.2≤aZ c s.1+1∧qs s.1≤r+J+2∧qs s.2≤r+J+2:=by
 obtain⟨l,u,hs,l1,l2,a⟩:=R.span;have sz:=Av R.H l1 l2 a R.at_ R.hA R.hB;have j:=R.ibd;have hQ:=R.hQ
 have val:∀k,k≤J→kS c i (bv c i ((l:Rat),(u:Rat)) k)=some (decide (aZ c (bv c i ((l:Rat),(u:Rat)) k).1=i∧bZ c (bv c i ((l:Rat),(u:Rat)) k).2=i+1)):=fun k h=>by
  obtain⟨q1,q2,q3,_⟩:=sz k;unfold kS;rw[if_pos ⟨(R.H.ok _ (by omega)).2,(R.H.ok _ (by omega)).1,⟨⟨Nat.le_trans q1 (by omega),Nat.le_trans q2 (by omega)⟩,(R.H.ok _ (by omega)).2⟩,j⟩]
 obtain⟨q1,q2,q3,q4,q5,q6,q7⟩:=sz J
 obtain⟨d,b1,b2,m⟩:=oJ (t:=fun k=>kS c i (bv c i ((l:Rat),(u:Rat)) k)) J g 0 hg (fun k _ h=>⟨_,val k (by omega)⟩) (by
  rw[Nat.zero_add,val J (Nat.le_refl _),decide_eq_true (iso_at R.H R.h1 R.hN R.hJ (Nat.le_refl _) q7 q4 q5 q6)])
 have e:=val d (by omega);have b:kS c i (bv c i ((l:Rat),(u:Rat)) d)=some true:=b2;rw[e] at b;have p:=of_decide_eq_true (Option.some.inj b);obtain⟨q,o,_,_,_,_,n⟩:=sz d;unfold AC;grind
end
theorem Bw:∀{f:Nat} {p q g:List Rat},qf f p q=some g→∃u,g=cI u
 |0,_,_,_,h=>by cases h
 |f+1,p,q,g,h=>by
  rw[qf] at h;split at h;split at h;cases h;exact⟨_,rfl⟩;cases h;split at h;exact Bw h;cases h
theorem F0{v:List Rat}(h:nz v)(hl:aF v=1)(ht:aj v=v):cI v=v:=by
 unfold cI;rw[if_neg h,hl,←pC,←ht]
 conv=>rhs;rw[ht]
 exact(eqv_trim.1 fun x=>by rw[aR];grind).trans ht
theorem Bm(u:List Rat):cI (cI u)=cI u:=by
 by_cases h:nz u;have a:=iF h;refine F0 a.2.1 ?_ (pD u);have c:=c9 h;rw[(jS h (k:=1/ aF u) (fun e=>by grind) a.1).2.2];grind;have b:aj u=[]:=Classical.not_not.1 h;have e:cI u=[]:=by unfold cI;grind
 rw[e];rfl
theorem CZ{f N h Q r J:Nat}{p:List Rat}{c:Cnt}{i:Int}{A B:Rat}(R:RC f N h Q r J p c i A B){x y:Rat}(a:At c i x y)(h1:bZ c y≤aZ c x+1){q G:List Rat}(gp:Dv G c.p)(gq:Dv G q)(hb:∃u v:List Rat,∀z,af G z=af u z* af c.p z+af v z* af q z):Far G x y↔∃t,Sgn c i q t:=
 CY R.H.hc R.H.np a h1 (fun _ _ b=>u6 R.H b) (fun x y b e=>((gV R.H.hc R.H.np b).1 e).dv (ko R.H.hc R.H.np).2.1) gp gq hb
section
variable {f N h Q r J g M hq X Xd Td J2:Nat}{p:List Rat}{c:Cnt}{i:Int}{A B:Rat}(R:RC f N h Q r J p c i A B)
include R
theorem RC.gcd {q:List Rat} (nq:nz q) (hql:q.length≤1000) (lq:(aj q).length≤N) (bq:bdL q hq) (Hq:Ht q hq) (h1q:1≤hq) (hX:X≤137438953472)
    (hT:((List.range (N+1)).all fun m=>(List.range (N+1)).all fun n=>hG f m n (h+12* N+8) hq X)=true):
    ∃d,qf f c.p q=some d∧nz d∧Dv d c.p∧Dv d q∧(∃u v:List Rat,∀x,af d x=af u x* af c.p x+af v x* af q x)∧bdL d (h+24* N+16)∧Ht d (h+24* N+16)∧(aj d).length≤N∧d.length≤1000:=by
 obtain⟨a,o⟩:=R.H.sq;have y:=bO c.p;have g:=R.H.len;have hN:=R.hN;simp only[List.all_eq_true,List.mem_range] at hT;obtain⟨d,b,s,g3,z⟩:=zL f _ _ (h+12* N+8) hq X c.p q (hT (aj c.p).length (by omega) (aj q).length (by omega)) rfl rfl R.H.bd bq R.H.ht Hq (by omega) h1q (by omega) hql hX;obtain⟨i,e,r,u,v,l⟩:=nU f _ _ _ b (.inl a);have k:=e.dg a;have l1:=lG a;have l2:=lG i;have j:Ht d (h+24* N+16):=(I1 a e R.H.ht (show dg c.p≤N by omega) (by omega)).mono (by omega);obtain⟨w,t⟩:=Bw b;have hb:=(j.monic (by grind)).1;rw[show cI d=d by rw[t,Bm]] at hb;exact⟨d,b,i,e,r,⟨u,v,l⟩,hb,j,by omega,s⟩
theorem RC.shares (hg:J< g) (hQ2:r+J+4≤100000000000) {q:List Rat} (nq:nz q) (hql:q.length≤1000) (lq:(aj q).length≤N) (bq:bdL q hq) (Hq:Ht q hq) (h1q:1≤hq) (hX:X≤137438953472)
    (hT:((List.range (N+1)).all fun m=>(List.range (N+1)).all fun n=>hG f m n (h+12* N+8) hq X)=true) (hc2:cH f N (h+24* N+16) Xd Td Q=true):
    ∃b,qG f g c i q=some b∧(b=true↔¬ ∃t,Sgn c i q t):=by
 obtain⟨d,y,l,F,B,⟨u,v,z⟩,hb,C,p,j⟩:=R.gcd nq hql lq bq Hq h1q hX hT;obtain⟨G,a⟩:=CG.ex hc2 l p j hb C;obtain⟨s,s1,s2,x,M,O⟩:=R.alone hg hQ2;have hQ:=R.hQ;have k:=CZ R s2 x F B ⟨u,v,z⟩;unfold qG;have w:=R.H.len;have hN:=R.hN;rw[if_pos ⟨by omega,by omega⟩,y,Option.bind_some,if_pos (by omega)];by_cases hd:cQ d< 1;rw[if_pos hd];refine⟨false,rfl,fun e=>(by cases e),fun e=>absurd ?_ e⟩;have o:dg d=0:=by rw[An l] at hd;omega
 obtain⟨γ,K,E⟩:=pX l o;exact k.1 (Far.const K E);rw[if_neg hd,a.hc,Option.bind_some,s1,Option.bind_some,if_pos ⟨(a.ok _ (by omega)).1,(a.ok _ (by omega)).2⟩];have L:=gV a.hc a.np s2.1;have D:=(fi (c:=G) a.hc a.np s.1).1;have A:=gP a.hc a.np s2.1;grind
end
theorem no_zero{q:List Rat}(h:∀x,af q x=0){x y:Rat}(hxy:x≤y):¬Far q x y:=fun g=>g.ne (by grind) hxy (h x)
structure SB (f N h Q r g hq J2:Nat):Prop where
 hq1:1≤hq
 gcd:∃X,X≤137438953472∧((List.range (N+1)).all fun m=>(List.range (N+1)).all fun n=>hG f m n (h+12* N+8) hq X)=true
 cd:∃X T,cH f N (h+24* N+16) X T Q=true
 cq:∃X T,cH f N hq X T Q=true
 hJ2:jB N (h+24* N+16) hq r J2=true
 hg:J2< g
 hQ2:r+J2+4≤Q
 ev:24* (hq+Q+1)+hq+Q+2≤137438953472
theorem RC.sign{f N h Q r J g hq J2:Nat}{p:List Rat}{c:Cnt}{i:Int}{A B:Rat}(R:RC f N h Q r J p c i A B)(S:SB f N h Q r g hq J2)(hgJ:J< g){q:List Rat}(hql:q.length≤24)(lq:(aj q).length≤N)(bq:bdL q hq)(Hq:Ht q hq):
    ∃t,xN f g c i q=some t∧((∃t',Sgn c i q t')→Sgn c i q t∧(t=1∨t= -1))∧((¬ ∃t',Sgn c i q t')→t=0):=by
 have hQ:=R.hQ;have hQ2:=S.hQ2;have hev:=S.ev;by_cases nq:nz q;rotate_left;have hz:=ig nq;have hd:=degP_nil.2 nq;refine⟨0,?_,fun⟨t,x,y,a,b,_⟩=>absurd b (no_zero hz a.1),fun _=>rfl⟩;unfold xN;rw[if_pos (by omega),if_pos (by omega)];obtain⟨X,V,hT⟩:=S.gcd;obtain⟨Xd,Td,K⟩:=S.cd;obtain⟨Xq,Tq,T⟩:=S.cq;obtain⟨b,b1,b2⟩:=R.shares hgJ (by omega) nq (by omega) lq bq Hq S.hq1 V hT K;obtain⟨d,g1,z0,z1,z2,⟨u,v,z3⟩,hb,hH,hdl,hdl2⟩:=R.gcd nq (by omega) lq bq Hq S.hq1 V hT;have o:¬cQ q< 0:=by rw[An nq];omega
 unfold xN;rw[if_pos (by omega),if_neg o,b1,Option.bind_some];cases b with
 |true=>
  simp_all
 |false=>
 have z:∃t',Sgn c i q t':=Classical.not_not.1 fun e=>by grind
 obtain⟨s,j⟩:=CG.ex T nq lq (by omega) bq Hq;obtain⟨l,w,hs,l1,l2,a⟩:=R.span;have sz:=Av R.H l1 l2 a R.at_ R.hA R.hB;rw[if_neg (by decide),j.hc,Option.bind_some,hs,Option.bind_some]
 have val:∀k,k≤J2→qF c i s (bv c i ((l:Rat),(w:Rat)) k)=some (decide (bZ s (bv c i ((l:Rat),(w:Rat)) k).2=aZ s (bv c i ((l:Rat),(w:Rat)) k).1)):=fun k hk=>by
  obtain⟨q1,q2,q3,_⟩:=sz k;unfold qF;rw[if_pos ⟨(j.ok _ (by omega)).1,(j.ok _ (by omega)).2,⟨⟨Nat.le_trans q1 (by omega),Nat.le_trans q2 (by omega)⟩,(R.H.ok _ (by omega)).2⟩⟩]
 obtain⟨q1,q2,q3,q4,q5,q6,q7⟩:=sz J2
 have far:Far q (bv c i ((l:Rat),(w:Rat)) J2).1 (bv c i ((l:Rat),(w:Rat)) J2).2:=by
  obtain⟨F,M⟩:=R.H.sq;obtain⟨m,W⟩:=z1;have n:∀x,af c.p x=af m x* af d x:=W;have nm:=(jf n F).1;have U:Dv m c.p:=⟨d,fun x=>by rw[W];grind⟩;have Y:=R.H.len;have hN:=R.hN;have htl:=bO c.p;have ld:=U.dg F;have l1:=lG F;have lm:=lG nm;have G:Ht m (h+24* N+16):=(I1 F U R.H.ht (show dg c.p≤N by omega) (by omega)).mono (by omega)
  have co:∀e,nz e→Dv e m→Dv e q→dg e=0:=fun e e0 e1 e2=>by
   have e3:Dv e c.p:=e1.trans U;have e4:Dv e d:=e3.lin e2 (u:=u) (v:=v) z3;refine M e e0 e3 (e4.lin e1 (u:=aN m) (v:=aN d) fun x=>?_);rw[bY,BZ n,bY,bY];grind
  rcases sepJ S.hJ2 (Nat.le_refl _) (by omega) lq nm nq G Hq co q7.1 q4 q5 q6 with g|g
  exfalso;obtain⟨t',x,y,a1,a2,_⟩:=z;obtain⟨x',y',u1,u2,v1,v2,L⟩:=sH R.H.hc R.H.np q7 a1;exact u6 R.H L ((g.sub u1 v1).mul ((a2.sub u2 v2).dv z2) n);exact g
 obtain⟨D,b1,b2,b3⟩:=oJ (t:=fun k=>qF c i s (bv c i ((l:Rat),(w:Rat)) k)) J2 g 0 S.hg (fun k _ hk=>⟨_,val k (by omega)⟩) (by
  rw[Nat.zero_add,val J2 (Nat.le_refl _),decide_eq_true ((gV j.hc j.np q7.1).2 far)])
 have C:qF c i s (bv c i ((l:Rat),(w:Rat)) D)=some true:=b2;rw[val D (by omega)] at C;have b5:=of_decide_eq_true (Option.some.inj C);obtain⟨w1,w2,_,_,_,_,E⟩:=sz D;rw[b1,Option.bind_some];have hmx:=dz bq S.hq1;have Z:=Nat.mul_le_mul hql (show mxL q+qs (bv c i ((l:Rat),(w:Rat)) D).2+1≤hq+Q+1 by omega);rw[if_pos (show fe q _ from⟨by omega,by omega⟩)];have O:=(gV j.hc j.np E.1).1 b5;have sg:=O.sg E.1 (by grind);refine⟨_,rfl,fun _=>⟨⟨_,_,E,O,sg.symm⟩,?_⟩,fun e=>absurd z e⟩;have:=sgE_ne.2 (O.ne E.1 (by grind));have:=fa (bv c i ((l:Rat),(w:Rat)) D).2 q;unfold sgE at *
 omega
theorem cmpQ_lt{a b:Rat}:dB a b< 0↔a< b:=by
 unfold dB;grind
theorem cmpQ_le{a b:Rat}:dB a b≤0↔a≤b:=by
 unfold dB;grind
theorem vV{q:List Rat}{r H L:Nat}(hq:bdL q H)(hl:q.length≤L){s:Sp}(hs:s.1≤s.2)(h1:ab s.1≤p2 r)(h2:ab s.2≤p2 r):
    (dl q s).1≤(dl q s).2∧ab (dl q s).1≤p2 (H+(r+1) * L)∧ab (dl q s).2≤p2 (H+(r+1) * L)∧(dl q s).2- (dl q s).1≤p2 (H+(r+2) * L) * (s.2- s.1)∧∀x,s.1≤x→x≤s.2→(dl q s).1≤af q x∧af q x≤(dl q s).2:=by
 have o:=Rat.le_of_lt (dp r);have d:0≤s.2- s.1:=by grind
 by_cases nq:aj q=[];have e:dl q s=(0,0):=by unfold dl;grind
 rw[e];have z:∀x,af q x=0:=fun x=>by rw[←cg,nq];rfl
 have D:=Rat.mul_nonneg (Rat.le_of_lt (dp (H+(r+2) * L))) d;exact⟨Rat.le_refl,by show ab 0≤_;rw[lr];exact Rat.le_of_lt (dp _),by show ab 0≤_;rw[lr];exact Rat.le_of_lt (dp _),by show(0:Rat)- 0≤_;grind,fun x _ _=>by rw[z];exact⟨Rat.le_refl,Rat.le_refl⟩⟩
 have e:dl q s=ovP (aF q,aF q) s ((aj q).take ((aj q).length- 1)):=by
  unfold dl;rw[if_neg (by rintro(g|g);exact g (cmpQ_le.2 hs);exact nq g)]
 have f:=List.length_pos_iff.2 nq;have hg:=c8 (l:=q) (n:=(aj q).length- 1) (by omega)
 have v:(aj q).take ((aj q).length- 1)++[aF q]=aj q:=by
  have h:(aj q).length- 1< (aj q).length:=by omega
  have:=List.take_append_getElem h;rw[List.getElem?_eq_getElem h] at hg;rw[Option.some.inj hg] at this;rw[this,show(aj q).length- 1+1=(aj q).length by omega,List.take_length]
 have c:=Bg o d hs h1 h2 Rat.le_refl (aF q) ((aj q).take ((aj q).length- 1));rw[v,←e] at c;obtain⟨k,u,k3,m,y⟩:=c
 have hc:∀x∈aj q,ab x≤p2 H:=fun x j=>by
  have C:=dZ x;have E:=hq x (df j);have F:=uj x.num.natAbs;have B:=Nat.pow_le_pow_right (n:=2) (by decide) (show bl x.num.natAbs≤H by omega);have e1:=zo x;have e2:1≤((x.den:Int):Rat):=by rw[show(1:Rat)=((1:Int):Rat) from rfl,Rat.intCast_le_intCast];have:=x.den_pos;omega
  have w:ab ((x.num:Rat))≤p2 H:=by
   rw[ab_le];unfold p2;rw[←Rat.intCast_neg,Rat.intCast_le_intCast,Rat.intCast_le_intCast];omega
  rw[e1,cM,show ab ((x.den:Int):Rat)=((x.den:Int):Rat) by unfold ab;rw[if_neg (by grind)]] at w;have:=Rat.mul_le_mul_of_nonneg_left e2 (cZ x);grind
 have t:=bO q;have v1:=Ct (r:=r) (aj q) hc;have v2:=eU (show H+(r+1) * (aj q).length≤H+(r+1) * L by have:=Nat.mul_le_mul_left (r+1) (show(aj q).length≤L by omega);omega);have A:=Jw (r:=r) (aj q) hc;have p:=eU (show H+(r+2) * (aj q).length≤H+(r+2) * L by have:=Nat.mul_le_mul_left (r+2) (show(aj q).length≤L by omega);omega);have i:=Rat.mul_le_mul_of_nonneg_right (Rat.le_trans A p) d;refine⟨k,Rat.le_trans u (Rat.le_trans v1 v2),Rat.le_trans k3 (Rat.le_trans v1 v2),Rat.le_trans m i,fun x a b=>?_⟩;have:=y x a b;rwa[cg] at this
theorem ER{q:List Rat}{t u:Nat}{s:Sp}(h1:qs s.1≤t)(h2:qs s.2≤t)(hq:bdL q u)(hu:1≤u)(hl:q.length≤24)(hlim:u+24* (t+u+1)+t≤137438953472):vZ q s∧qs (dl q s).1≤u+24* (t+u+1)∧qs (dl q s).2≤u+24* (t+u+1):=by
 have a:((aj q).take ((aj q).length- 1)).length≤24:=by have:=bO q;grind
 have hb:bdL ((aj q).take ((aj q).length- 1)) u:=fun x b=>hq x (df (List.mem_of_mem_take b))
 have hv:qs (aF q)≤u:=by
  by_cases nq:nz q;rw[←(eo nq).2];exact fI hq hu _;have:aF q=0:=by unfold aF;rw[Classical.not_not.1 nq];rfl
  rw[this];exact Nat.le_trans (by decide:qs 0≤1) hu
 have c:=Nat.mul_le_mul_right (t+u+1) a;obtain⟨e,d,_⟩:=ES h1 h2 hv _ hb;refine⟨⟨eP hq (by omega),⟨Nat.le_trans h1 (by omega),Nat.le_trans h2 (by omega)⟩,by omega,ov_ok h1 h2 hv _ hb (by omega)⟩,?_,?_⟩;unfold dl;split;exact Nat.le_trans (by decide:qs 0≤1) (by omega);omega;unfold dl;split;exact Nat.le_trans (by decide:qs 0≤1) (by omega);omega
theorem oG(a:Rat)(k:Nat):∃z:Int,fk a k* p2 k=(z:Rat)∧fk a k≤a∧a< fk a k+cY k∧cY k* p2 k=1:=by
 have hf:cY k* p2 k=1:=by
  unfold cY p2;rw[Rat.mkRat_eq_div]
  have:(((2^ k:Nat):Int):Rat)≠0:=fun e=>by
   have:=Rat.intCast_inj.1 (e.trans Rat.intCast_zero.symm);have:=Nat.two_pow_pos k;omega
  grind
 have ht:j4 k=p2 k:=rfl;refine⟨(a* j4 k).floor,?_,?_,?_,hf⟩;unfold fk;rw[Rat.mul_assoc,hf,Rat.mul_one];have:=Rat.floor_le (a* j4 k);refine Bq (k:=k) ?_;unfold fk;rw[Rat.mul_assoc,hf,Rat.mul_one];exact this;have:=Rat.lt_floor_add_one (a* j4 k);have b:=dp k;by_cases g:a< fk a k+cY k;exact g;have:=Rat.mul_le_mul_of_nonneg_right (show fk a k+cY k≤a by grind) (Rat.le_of_lt b);rw[Rat.add_mul] at this;unfold fk at this;rw[Rat.mul_assoc,hf,ht] at this;grind
theorem eQ(q:List Rat)(m x:Rat):af (cn q (b9 m)) x=af q x- m:=by rw[dJ,lh]
theorem up_le{f N h Q:Nat}{p:List Rat}{c:Cnt}(H:CG f N h Q p c){i:Int}{x y M:Rat}(a:At c i x y){q:List Rat}(hv:∀z,x≤z→z≤y→af q z≤M):¬Sgn c i (cn q (b9 M)) 1:=by
 rintro⟨u,v,b1,b2,k⟩;obtain⟨z,w,c1,d,e,j,b⟩:=sH H.hc H.np a b1;have s:=b2.sg d (by have:=b.1;grind);rcases bR z (cn q (b9 M)) with⟨_,g⟩|⟨g,_⟩|⟨g,_⟩
 rw[eQ] at g;have:=hv z c1 (by have:=b.1;grind);grind;omega;omega
theorem lo_le{f N h Q:Nat}{p:List Rat}{c:Cnt}(H:CG f N h Q p c){i:Int}{x y M:Rat}(a:At c i x y){q:List Rat}(hv:∀z,x≤z→z≤y→M≤af q z):¬Sgn c i (cn q (b9 M)) (-1):=by
 rintro⟨u,v,b1,b2,k⟩;obtain⟨z,w,c1,d,e,j,b⟩:=sH H.hc H.np a b1;have s:=b2.sg d (by have:=b.1;grind);rcases bR z (cn q (b9 M)) with⟨g,_⟩|⟨_,g⟩|⟨g,_⟩
 omega;rw[eQ] at g;have:=hv z c1 (by have:=b.1;grind);grind;omega
theorem qs_p2{x:Rat}{k n:Nat}{z:Int}(e:x* p2 k=(z:Rat))(hz:bl z.natAbs≤n)(hk:k+1≤n):qs x≤n:=by
 have:=AF (x:=x* p2 k) (y:=p2 k) ⟨z,e,hz⟩ (⟨((2^ k:Nat):Int),rfl,by
  exact ez (Nat.pow_lt_pow_right (by decide) (by omega))⟩:IB (p2 k) n) (by have:=dp k;grind) (by omega)
 rwa[Rat.mul_div_cancel (by have:=dp k;grind)] at this
theorem F2{q:List Rat}{K m:Rat}{hq W kk:Nat}{z:Int}(bq:bdL q hq)(h1:1≤hq)(H:HS q K hq)(e:m* p2 kk=(z:Rat))(hz:bl z.natAbs≤W+kk):bdL (cn q (b9 m)) (hq+W+kk+3)∧Ht (cn q (b9 m)) (hq+W+kk+3):=by
 have h:qs m≤W+kk+1:=qs_p2 e (by omega) (by omega);have hp:IB (p2 kk) (kk+1):=⟨((2^ kk:Nat):Int),rfl,by exact ez (Nat.pow_lt_pow_right (by decide) (by omega))⟩;have j:=dp kk;have c:IB (m* p2 kk) (W+kk):=⟨z,e,hz⟩;constructor;refine js fun i=>?_;rw[gX,mh];have a:=fI bq h1 i;split;have:=nD (coP q i) m;omega;have:=nD (coP q i) 0;have:qs 0≤1:=by decide
 omega;refine⟨K* p2 kk,fun g=>?_,fun i=>?_⟩;rcases Rat.mul_eq_zero.1 g with g|g
 exact H.ne g;grind;have a:IB (coP q i* K* p2 kk) (hq+W+kk+2):=((H.co i).mul hp).mono (by omega);rw[gX,mh];split;have b:IB (-(m* p2 kk* K)) (hq+W+kk+2):=((c.mul H.sc).neg).mono (by omega);obtain⟨w,f,d⟩:=(a.add b);exact⟨w,by grind,d⟩;obtain⟨w,f,d⟩:=a.mono (show _≤hq+W+kk+3 by omega);grind
theorem RC.value {f N h Q r J g hq J2 J3:Nat} {p:List Rat} {c:Cnt} {i k:Int} {A B K:Rat} (R:RC f N h Q r J p c i A B) {q:List Rat} (hql:q.length≤24) (lq:(aj q).length≤N) (hN1:1≤N) (bq:bdL q hq) (h1:1≤hq) (H:HS q K hq)
    (S:SB f N h Q r g (hq+(hq+(r+2) * 24+2)+wi k 256+3) J2) (hgJ:J< g) (hJ3:hq+(r+3) * 24+wi k 256+1≤J3) (hg3:J3< g) (hQ3:r+J3+4≤Q) (hlim:hq+24* (r+J3+2+hq+1)+(r+J3+2)≤60000000000) (hw3:wi k 256≤256) (hrw:(r+2) * 24≤100000):
    ∃v:Sp,vi f g c i q k=some v∧qs v.1≤hq+(r+2) * 24+2* wi k 256+4∧qs v.2≤hq+(r+2) * 24+2* wi k 256+4∧¬Sgn c i (cn q (b9 v.2)) 1∧¬Sgn c i (cn q (b9 v.1)) (-1):=by
 obtain⟨l,u,hs,l1,l2,a⟩:=R.span;have sz:=Av R.H l1 l2 a R.at_ R.hA R.hB;have hQ:=R.hQ;generalize E:wi k 256=d at *
 have y:=qQ d;have U:=dp d
 have val:∀j,j≤J3→yR c q (cY d) (bv c i ((l:Rat),(u:Rat)) j)=some (decide (dB ((dl q (bv c i ((l:Rat),(u:Rat)) j)).2- (dl q (bv c i ((l:Rat),(u:Rat)) j)).1) (cY d)< 0)):=fun j hj=>by
  obtain⟨q1,q2,q3,_⟩:=sz j;obtain⟨o1,o2,O⟩:=ER (t:=r+J3+2) (u:=hq) (Nat.le_trans q1 (by omega)) (Nat.le_trans q2 (by omega)) bq h1 hql (by omega);have o4:=nD (dl q (bv c i ((l:Rat),(u:Rat)) j)).2 (dl q (bv c i ((l:Rat),(u:Rat)) j)).1;unfold yR;rw[if_pos ⟨o1,⟨Nat.le_trans o2 (by omega),Nat.le_trans O (by omega)⟩,Nat.le_trans o4 (by omega),Nat.le_trans y (by omega),⟨⟨Nat.le_trans q1 (by omega),Nat.le_trans q2 (by omega)⟩,(R.H.ok _ (by omega)).2⟩⟩]
 obtain⟨q1,q2,q3,q4,q5,q6,q7⟩:=sz J3;obtain⟨z0,_,_,_,f1⟩:=oG 0 d
 have n:(dl q (bv c i ((l:Rat),(u:Rat)) J3)).2- (dl q (bv c i ((l:Rat),(u:Rat)) J3)).1< cY d:=by
  obtain⟨_,_,_,T,_⟩:=vV bq hql q7.1 q4 q5;have e1:hq+(r+1+2) * 24+(d+1)≤J3:=by omega
  have e2:=Rat.mul_le_mul_of_nonneg_left (eU e1) (show 0≤(bv c i ((l:Rat),(u:Rat)) J3).2- (bv c i ((l:Rat),(u:Rat)) J3).1 by have:=q7.1;grind);rw[eJ,eJ d 1,lA] at e2;have e3:=Rat.mul_le_mul_of_nonneg_right T (show 0≤p2 d* 2 by grind);generalize (dl q (bv c i ((l:Rat),(u:Rat)) J3)).2- (dl q (bv c i ((l:Rat),(u:Rat)) J3)).1=w at *
  by_cases g:w< cY d;exact g;have:=Rat.mul_le_mul_of_nonneg_right (show cY d≤w by grind) (show 0≤p2 d* 2 by grind);grind
 obtain⟨j,b1,b2,b3⟩:=oJ (t:=fun j=>yR c q (cY d) (bv c i ((l:Rat),(u:Rat)) j)) J3 g 0 hg3 (fun j _ hj=>⟨_,val j (by omega)⟩) (by
  rw[Nat.zero_add,val J3 (Nat.le_refl _),decide_eq_true (cmpQ_lt.2 n)])
 have F:yR c q (cY d) (bv c i ((l:Rat),(u:Rat)) j)=some true:=b2;rw[val j (by omega)] at F;have b5:=cmpQ_lt.1 (of_decide_eq_true (Option.some.inj F));obtain⟨w1,w2,w3,w4,w5,w6,D⟩:=sz j;obtain⟨t1,t2,t3,T,G⟩:=vV bq hql D.1 w4 w5;obtain⟨o1,o2,O⟩:=ER (t:=r+J3+2) (u:=hq) (Nat.le_trans w1 (by omega)) (Nat.le_trans w2 (by omega)) bq h1 hql (by omega);unfold vi;rw[hs,Option.bind_some,E,b1,Option.bind_some];generalize bv c i ((l:Rat),(u:Rat)) j=s at *
 generalize dl q s=v at *
 obtain⟨z,L,g2,g3,_⟩:=oG v.2 d
 have hf0:0< cY d:=by
  by_cases g:0< cY d;exact g;have:=Rat.mul_le_mul_of_nonneg_right (show cY d≤0 by grind) (Rat.le_of_lt U);grind
 have hf1:cY d≤1:=Bq (k:=d) (by have:=EQ d;grind);generalize Y:fk v.2 d=m at *
 -- the size of the number of the grid
 have C:ab m≤p2 (hq+(r+2) * 24+1):=by
  have o:=ab_le.1 t3;have a2:=EQ (hq+(r+1+1) * 24);rw[show hq+(r+2) * 24+1=hq+(r+1+1) * 24+1 by omega,eJ _ 1,lA];exact ab_le.2 ⟨by grind,by grind⟩
 have V:bl z.natAbs≤hq+(r+2) * 24+2+d:=by
  have o:ab (m* p2 d)≤p2 (hq+(r+2) * 24+1+d):=by
   rw[cM,show ab (p2 d)=p2 d by unfold ab;rw[if_neg (by grind)],eJ _ d];exact Rat.mul_le_mul_of_nonneg_right C (Rat.le_of_lt U)
  rw[L,ab_le] at o;unfold p2 at o;rw[←Rat.intCast_neg,Rat.intCast_le_intCast,Rat.intCast_le_intCast] at o;refine ez (Nat.lt_of_le_of_lt (show z.natAbs≤2^ (hq+(r+2) * 24+1+d) by omega) (Nat.pow_lt_pow_right (by decide) (by omega)))
 have M:qs m≤hq+(r+2) * 24+2+d:=qs_p2 L V (by omega);have hm1:=fX m (cY d);have Z:=nD m (cY d);unfold valR;rw[E,Y,if_pos ⟨Nat.le_trans M (by omega),⟨Nat.le_trans o2 (by omega),Nat.le_trans O (by omega)⟩,Nat.le_trans y (by omega),eP bq (by omega),by omega⟩];by_cases c1:dB m v.1< 0;rw[if_pos c1];have:=cmpQ_lt.1 c1;exact⟨_,rfl,by show qs m≤_;omega,by show qs (m+cY d)≤_;omega,up_le R.H D fun x a b=>by have:=(G x a b).2;show _≤m+cY d;grind,lo_le R.H D fun x a b=>by have:=(G x a b).1;show m≤_;grind⟩;rw[if_neg c1];obtain⟨l1,l2⟩:=F2 (W:=hq+(r+2) * 24+2) bq h1 H L V
 obtain⟨t,s1,s2,X⟩:=R.sign S hgJ (q:=cn q (b9 m)) (by have:=nw q (b9 m);have:=kP m;omega) (by
  have e:aj (cn q (b9 m))=aj (cn (aj q) (b9 m)):=kz fun i=>by rw[gX,gX,ce]
  rw[e];have o:=bO (cn (aj q) (b9 m));have a2:=nw (aj q) (b9 m);have a3:=kP m;omega) l1 l2
 rw[s1,Option.bind_some];by_cases ex:∃t',Sgn c i (cn q (b9 m)) t';obtain⟨e1,e2⟩:=s2 ex;rcases e2 with rfl|rfl
 rw[if_neg (by decide),if_pos rfl];exact⟨_,rfl,by show qs m≤_;omega,by show qs (m+cY d)≤_;omega,up_le R.H D fun x a b=>by have:=(G x a b).2;show _≤m+cY d;grind,fun e=>by have:=AU R.H.hc R.H.np e1 e;omega⟩;rw[if_neg (by decide),if_neg (by decide)];exact⟨_,rfl,by show qs (m- cY d)≤_;omega,by show qs m≤_;omega,fun e=>by have:=AU R.H.hc R.H.np e1 e;omega,lo_le R.H D fun x a b=>by have:=(G x a b).1;show m- cY d≤_;grind⟩;rw[X ex,if_pos rfl];exact⟨_,rfl,by show qs m≤_;omega,by show qs m≤_;omega,fun e=>ex ⟨_,e⟩,fun e=>ex ⟨_,e⟩⟩
end Go.Proofs.YtkhclghbcicapaaGreatDoor
