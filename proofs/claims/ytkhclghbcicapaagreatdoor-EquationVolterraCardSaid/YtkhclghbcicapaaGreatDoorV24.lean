/- Part V24 of the proof. -/
import Derived.Test.YtkhclghbcicapaaGreatDoorV23
set_option linter.all false
namespace Go.Proofs.YtkhclghbcicapaaGreatDoor
open Go.Abs
set_option maxRecDepth 20000
set_option maxHeartbeats 1000000
def xy(c:Cnt)(q:List Rat)(step:Rat)(s:Sp):Option Bool:=if uM q s∧smS (di q s)∧sm ((di q s).2- (di q s).1)∧sm step∧mS c s then some (decide (dy ((di q s).2- (di q s).1) step< 0)) else none
def valR(f g:Nat)(c:Cnt)(i:Int)(q:List Rat)(k:Int)(v:Sp):Option Sp:=
 if sm (fb v.2 (wi k 256))∧smS v∧sm (cV (wi k 256))∧smL q∧q.length≤274877906944 then
  if dy (fb v.2 (wi k 256)) v.1< 0 then some (fb v.2 (wi k 256),fb v.2 (wi k 256)+cV (wi k 256))
  else(wt f g c i (ci q (b6 (fb v.2 (wi k 256))))).bind fun sg=>
   some (if sg=0 then(fb v.2 (wi k 256),fb v.2 (wi k 256)) else if sg=1 then(fb v.2 (wi k 256),fb v.2 (wi k 256)+cV (wi k 256)) else(fb v.2 (wi k 256)- cV (wi k 256),fb v.2 (wi k 256)))
 else none
def t9(f g:Nat)(c:Cnt)(i:Int)(q:List Rat)(k:Int):Option Sp:=
 (oJ f c i 0).bind fun s0=>(l9 (fun j=>xy c q (cV (wi k 256)) (bm c i s0 j)) g 0).bind fun j=>valR f g c i q k (di q (bm c i s0 j))
abbrev bI(k:Int):AV:= .aptr [[i64 k]] 0 0
theorem jS(k:Int):Closed (bI k):=bt (ac (ah _) ag)
def vaS(c:Cnt)(i:Int)(q:List Rat)(k:Int)(step:Rat):Nat→AState
 |j=>⟨[(3,bPl c i),(4,bP q),(5,bI k),(6,.lptr 1 0 0),(7,bQ step),(14,.clos 240 [] [bPl c i])],[(1,some ⟨40,6,[zC++zC]⟩)],2,61⟩
def vaX(r:Sp):Unit→AState
 |u=>⟨[(6,.lptr 1 0 0)],[(1,some ⟨40,6,[spC r.1 r.2]⟩)],2,61⟩
theorem GX(f g:Nat)(c:Cnt)(i:Int)(q:List Rat)(k:Int)(r:Sp)(h:t9 f g c i q k=some r)(hf:f≤1000000):FS 176 [plA c i,.arr (pE q),i64 k] (.agg (spC r.1 r.2)):=by
 unfold t9 at h;obtain⟨p,O,h2⟩:=Option.bind_eq_some_iff.1 h;obtain⟨w,Q,a⟩:=Option.bind_eq_some_iff.1 h2;obtain⟨t1,_,t2⟩:=kJ Q;obtain⟨step,z⟩:∃step,step=cV (wi k 256):=⟨_,rfl⟩;rw[←z] at t1 t2
 have D:∀j,j≤w→uM q (bm c i p j)∧smS (di q (bm c i p j))∧sm ((di q (bm c i p j)).2- (di q (bm c i p j)).1)∧sm step∧mS c (bm c i p j):=fun j C=>by
  have:∃b,xy c q step (bm c i p j)=some b:=by
   by_cases e:j=w;rw[e];exact⟨_,t1⟩;exact⟨_,t2 j (Nat.zero_le _) (by omega)⟩
  obtain⟨b,hb⟩:=this;unfold xy at hb;split at hb;assumption;cases hb
 have S:=rO f c i p w O (fun j C=>(D j (by omega)).2.2.2.2);have E:=qJ k;rw[←z] at E;refine f_n Tryz.func176 ?_ ?_;exact ac (dz c i) (ac (aC q) (ac (ah _) ag));refine r_z 4 ?_;refine r_c 4 (E) ?_;refine a_z ?_;refine AWp.ent (st':=⟨[(3,bPl c i),(4,bP q),(5,bI k),(6,.lptr 1 0 0),(7,bQ step)],[(1,some ⟨40,6,[zC++zC]⟩)],2,61⟩) ?_ ?_;have:=(ac (dz c i) ag);exact s_f [(1,6)];refine ae (r_c 2 (rV c i) ?_);refine au ?_;refine aH (vaX r) (fun _=>False) ?_ (fun _ h=>h.elim);refine am (AWp.rangeFuncB (α:=Nat) (γ:=Unit) w (vaS c i q k step) (fun j=>j) (fun j=>j≤w) (vaX r) (fun e _=>e= .ret) 0 rfl S rfl rfl ?_ (fun _=>⟨rfl,rfl⟩) (fun _=>rfl) (Nat.zero_le _) rfl (fun _ h=>h) ?_ ?_ ?_ ?_ ?_);intro j xs K;cases K;rfl;rw[vaS.eq_1];have:=jS k;exact s_t [];exact ac (dP c i) ag;intro l j xs C K;cases K;have M:=D j C;obtain⟨s,o⟩:∃s,s=bm c i p j:=⟨_,rfl⟩;rw[←o] at M⊢;obtain⟨Y,B,L,x4,x5⟩:=M;obtain⟨v,hv⟩:∃v,v=di q s:=⟨_,rfl⟩;have H:=fs_Over q s Y;rw[←hv] at H B L;show AWp _ _ _ _ ⟨[(15,.agg (spC s.1 s.2)),(3,bPl c i),(4,bP q),(5,bI k),(6,.lptr 1 0 0),(7,bQ step),(14,.clos 240 [] [bPl c i]),(1003,bPl c i),(1004,bP q),(1005,bI k),(1006,.lptr 1 0 0),(1007,bQ step),(1014,.clos 240 [] [bPl c i])],[(1,some ⟨40,6,[zC++zC]⟩)],2,61⟩;refine r_m 2 ?_;refine a_z ?_;refine am (r_c 5 (H) ?_);refine a_z ?_;refine ae (ae (r_d a9 5 ?_));refine c_s (rW v.1 v.2 B.1 B.2) ?_;refine c_s (pg (v.2- v.1) step L x4) ?_;refine a_1 ?_;refine au (n_k ?_);refine aq rfl (fun T=>?_) (fun T=>?_)
 have U:¬dy (v.2- v.1) step< 0:=by
  have:0≤dy (v.2- v.1) step:=by simpa using T
  omega
 have X:j< w:=by
  refine Nat.lt_of_le_of_ne C fun e=>?_;subst e;rw[←o] at t1;unfold xy at t1;rw[←hv] at t1;rw[if_pos ⟨Y,B,L,x4,x5⟩] at t1;simp[U] at t1
 refine aA (⟨j+1,⟨X,rfl⟩,?_⟩);show SEntT _ ⟨[(1003,bPl c i),(1004,bP q),(1005,bI k),(1006,.lptr 1 0 0),(1007,bQ step),(1014,.clos 240 [] [bPl c i])],[(1,some ⟨40,6,[zC++zC]⟩)],2,61⟩;have:=jS k;exact s_t []
 ·have U:dy (v.2- v.1) step< 0:=by
   have:¬0≤dy (v.2- v.1) step:=by simpa using T
   omega
  have X:j=w:=by
   refine Nat.le_antisymm C (Nat.le_of_not_lt fun N=>?_);have n:=t2 j (Nat.zero_le _) N;rw[←o] at n;unfold xy at n;rw[←hv] at n;rw[if_pos ⟨Y,B,L,x4,x5⟩] at n;simp[U] at n
  subst X;rw[←o,←hv] at a;unfold valR at a;rw[←z] at a;obtain⟨m,hm⟩:∃m,m=fb v.2 (wi k 256):=⟨_,rfl⟩;rw[←hm] at a;split at a
  case isFalse=>cases a
  case isTrue hz=>
  obtain⟨F,z2,R,z4,z5⟩:=hz;have J:=D2 v.2 k B.2;rw[←hm] at J;refine an (r_c 6 (J) ?_);refine a_z ?_;refine ae (r_c 5 (pg m v.1 F z2.1) ?_);refine a_z ?_;refine aq rfl (fun n=>?_) (fun n=>?_);have W:dy m v.1< 0:=by simpa using n
  rw[if_pos W] at a;cases a;refine ae (r_d a9 6 ?_);refine c_s (ft m step (sm2 F R)) ?_;refine a_2 ?_;refine au (n_k ?_);refine ak (⟨rfl,(),rfl,?_⟩);show SEntT _ ⟨[(1006,.lptr 1 0 0)],[(1,some ⟨40,6,[spC (m,m+step).1 (m,m+step).2]⟩)],2,61⟩;have:=jS k;exact s_t [];have W:¬dy m v.1< 0:=by simpa using n
  rw[if_neg W] at a;obtain⟨sg,V,Z⟩:=Option.bind_eq_some_iff.1 a;cases Z;have hcl:=j9 m;have G:smL (b6 m):=um fun x M=>by rw[List.mem_singleton.1 M];exact F
  refine an (ae (ae (r_d a9 6 ?_)));refine c_s (sY m) ?_;refine c_s (yx q (b6 m) z4 G (by omega) (by omega)) ?_;refine c_s (fs_sign f g c i (ci q (b6 m)) sg V hf) ?_;refine au (n_k ?_);refine am (r_z 2 ?_);refine aq rfl (fun y=>?_) (fun y=>?_);have d:sg=0:=by simpa using y
  refine r_c 3 (Av m) ?_;refine a_z ?_;refine ak (⟨rfl,(),rfl,?_⟩);rw[if_pos d];show SEntT _ ⟨[(1006,.lptr 1 0 0)],[(1,some ⟨40,6,[spC (m,m).1 (m,m).2]⟩)],2,61⟩;have:=jS k;exact s_t [];have d:¬sg=0:=by simpa using y
  refine r_z 2 ?_;refine aq rfl (fun A=>?_) (fun A=>?_);have t:sg=1:=by simpa using A
  refine ae (r_d a9 6 ?_);refine c_s (ft m step (sm2 F R)) ?_;refine a_2 ?_;refine au (n_k ?_);refine ak (⟨rfl,(),rfl,?_⟩);rw[if_neg d,if_pos t];show SEntT _ ⟨[(1006,.lptr 1 0 0)],[(1,some ⟨40,6,[spC (m,m+step).1 (m,m+step).2]⟩)],2,61⟩;have:=jS k;exact s_t [];have t:¬sg=1:=by simpa using A
  refine an (ae (r_d a9 6 ?_));refine c_s (kV m step (sm2 F R)) ?_;refine a_3 ?_;refine au (n_k ?_);refine ak (⟨rfl,(),rfl,?_⟩);rw[if_neg d,if_neg t];show SEntT _ ⟨[(1006,.lptr 1 0 0)],[(1,some ⟨40,6,[spC (m- step,m).1 (m- step,m).2]⟩)],2,61⟩;have:=jS k;exact s_t []
 intro j C K;cases K;rintro e u rfl;exact Fin.cell rfl rfl rfl TG.h TS.h (nle rfl) (ao ay (bG _ _))
structure CG (f N h Q:Nat)(p:List Rat)(c:Cnt):Prop where
 hc:fZ f p=some c
 np:nz p
 ok:∀x,qs x≤Q→pW c x∧oe c x
 len:c.p.length≤N
 bd:bdL c.p (h+12* N+8)
 ht:Ht c.p (h+12* N+8)
theorem CG.ex{f N h X T Q:Nat}(hc:cH f N h X T Q=true){p:List Rat}(np:nz p)(hl:(aj p).length≤N)(hp:p.length≤1000)(hb:bdL p h)(hH:Ht p h):∃c,CG f N h Q p c:=by
 obtain⟨c,e,a,g,d,b⟩:=countsH hc np hl hp hb hH;exact⟨c,e,np,a,g,d,b⟩
theorem plC_nn{c:Cnt}{i:Int}{x:Rat}:0≤plC c i x↔aZ c x≤i:=by unfold plC;grind
theorem plC_neg{c:Cnt}{i:Int}{x:Rat}:plC c i x< 0↔i< aZ c x:=by have:=plC_nn (c:=c) (i:=i) (x:=x);omega
theorem plC_z{c:Cnt}{i:Int}{x:Rat}:plC c i x=0↔aZ c x=i∧aZ c x< bU c x:=by
 unfold plC;grind
theorem plC_one{c:Cnt}{i:Int}{x:Rat}(h:plC c i x=1):aZ c x≤i:=plC_nn.1 (by omega)
theorem plC_els{c:Cnt}{i:Int}{x:Rat}(h0:plC c i x≠0)(h1:plC c i x≠1):i< aZ c x:=by
 unfold plC at *
 grind
theorem tp{z:Int}{b:Nat}(h:z.natAbs≤2^ b):qs (z:Rat)≤b+2:=by
 have h1:=Gh z;have a:bl z.natAbs≤b+1:=ej (Nat.lt_of_le_of_lt h (Nat.pow_lt_pow_right (by decide) (by omega)));omega
theorem fine0:cV 0=1:=by decide+kernel
theorem vK{f N h Q:Nat}{p:List Rat}{c:Cnt}(H:CG f N h Q p c)(i:Int){b:Nat}(hb:b+6≤Q)(hb2:b≤100000000):∀(n g:Nat) (lo hi:Int),n< g→lo< hi→hi- lo≤2^ n→lo.natAbs≤2^ b→hi.natAbs≤2^ b→aZ c lo≤i→i< aZ c hi→
    ∃l:Int,biM c i 1 g lo hi=some (l:Rat)∧lo≤l∧l< hi∧aZ c l≤i∧i< aZ c ((l+1:Int):Rat)
 |_,0,_,_,hg,_,_,_,_,_,_=>by omega
 |n,g+1,lo,hi,hg,hlt,hn,h1,h2,h3,h4=>by
  have sl:=tp h1;have u:=tp h2;have r:=mM (hi:Rat) (lo:Rat);rw[biM,if_pos (show sm (lo:Rat)∧sm (hi:Rat)∧sm ((hi:Rat)- lo) from⟨by show _≤137438953472;omega,by show _≤137438953472;omega,by show _≤137438953472;omega⟩)];have e1:(1:Rat)=((1:Int):Rat):=rfl;by_cases hd:hi- lo≤1;have d:hi=lo+1:=by omega
  rw[if_neg (by
   unfold dy;have:(hi:Rat)- (lo:Rat)=1:=by rw[d,Rat.intCast_add];grind
   grind)]
  exact⟨lo,rfl,by omega,by omega,h3,by rw[←d];grind⟩
  rw[if_pos (by
   unfold dy;have:(1:Rat)< (hi:Rat)- (lo:Rat):=by rw[e1,←Rat.intCast_sub,Rat.intCast_lt_intCast];omega
   grind)]
  generalize o:(((lo:Rat)+(hi:Rat)) / 2).floor=m;have q:=Rat.floor_le (((lo:Rat)+(hi:Rat)) / 2);have k:=Rat.lt_floor_add_one (((lo:Rat)+(hi:Rat)) / 2);rw[o] at q k;have e2:((lo:Rat)+(hi:Rat)) / 2* 2=(lo:Rat)+(hi:Rat):=Rat.div_mul_cancel (by decide)
  have t:2* m≤lo+hi:=by
   rw[←Rat.intCast_le_intCast,Rat.intCast_mul,Rat.intCast_add,show((2:Int):Rat)=2 from rfl];grind
  have s:lo+hi< 2* (m+1):=by
   rw[←Rat.intCast_lt_intCast,Rat.intCast_mul,Rat.intCast_add lo hi,show((2:Int):Rat)=2 from rfl];grind
  have a:m.natAbs≤2^ b:=by omega
  have j:=tp a;have s1:qs 1=1:=by decide
  rw[Rat.mul_one,if_pos (show qs (m:Rat)+qs 1≤549755813888∧oe c (m:Rat) from⟨by omega,(H.ok _ (by omega)).2⟩)];cases n with
  |zero=>omega
  |succ n=>
  have hp:(2:Int) ^ (n+1)=2^ n* 2:=Int.pow_succ 2 n;by_cases hb':aZ c (m:Rat)≤i;rw[if_pos (plC_nn.2 hb')];obtain⟨l,q1,q2,q3,q4⟩:=vK H i hb hb2 n g m hi (by omega) (by omega) (by omega) a h2 hb' h4;exact⟨l,q1,by omega,q3,q4⟩;rw[if_neg (fun e=>hb' (plC_nn.1 e))];obtain⟨l,q1,q2,q3,q4⟩:=vK H i hb hb2 n g lo m (by omega) (by omega) (by omega) h1 a h3 (by omega);exact⟨l,q1,q2,by omega,q4⟩
theorem ER{c:Cnt}{b:Nat}(hb:qs (cf c.p)+1≤b):∃z:Int,hiV c 1=(z:Rat)∧1≤z∧z.natAbs≤2^ b∧cf c.p≤(z:Rat):=by
 have h1:=sB c.p;refine⟨-(-cf c.p).floor,by unfold hiV qY;grind,?_,?_,?_⟩;have:=Rat.floor_le (-cf c.p);have a:((-cf c.p).floor:Rat)≤((-1:Int):Rat):=by grind
 rw[Rat.intCast_le_intCast] at a;omega;have a:=pP (-cf c.p);rw[fj] at a;have d:=dV (((-cf c.p).floor:Rat));rw[Rat.num_intCast] at d;have:=sU (-cf c.p).floor.natAbs;have:=Nat.pow_le_pow_right (n:=2) (by decide) (show bl (-cf c.p).floor.natAbs≤b by omega);omega;have:=Rat.floor_le (-cf c.p);grind
theorem high_ne{q:List Rat}(h:nz q){x:Rat}(hx:cf q≤x):af q x≠0:=fun e=>by
 have h1:=vI h hx;rw[e,kN] at h1;have:=C9 (cY h);grind
theorem span0{f N h Q b:Nat}{p:List Rat}{c:Cnt}(H:CG f N h Q p c)(hN:N≤12)(h1:1≤h)(hb:2* (h+12* N+8)+4≤b)(hb3:b≤100000000)(hQ:b+6≤Q)(hf:b+2≤f)(i:Int)(h0:0≤i)(hi:i< Ih c):∃l u:Int,oJ f c i 0=some ((l:Rat),(u:Rat))∧u- l≤1∧At c i l u∧l.natAbs≤2^ b∧u.natAbs≤2^ b:=by
 have y:=HW H.bd (by omega);obtain⟨z,r,x,t,A⟩:=ER (c:=c) (b:=b) (by omega);obtain⟨o,_,_,n,d,j⟩:=iB H.hc H.np
 have lo:aZ c ((-z:Int):Rat)≤i:=by
  have:=d ((-z:Int):Rat) (by grind);have:=(e9 (c:=c) H.hc H.np ((-z:Int):Rat)).1;omega
 have m:i< aZ c (z:Rat):=by
  unfold Ih at hi;by_cases g:cf c.p< (z:Rat);have:=eQ H.hc H.np g;omega;have e:cf c.p=(z:Rat):=by grind
  rw[←e];unfold aZ;rw[if_neg (high_ne o (by grind))];grind
 have q:(2:Int) ^ (b+1)=2^ b* 2:=Int.pow_succ 2 b;have w:((2^ b:Nat):Int)=2^ b:=Int.natCast_pow 2 b;obtain⟨l,q1,q2,q3,q4,q5⟩:=vK H i (b:=b) (by omega) (by omega) (b+1) f (-z) z (by omega) (by omega) (by omega) (by grind) t lo m;have a:l.natAbs≤2^ b:=by omega
 have k:(l+1).natAbs≤2^ b:=by omega
 have sl:=tp a;have s1:qs 1=1:=by decide
 have s:AM f c i 1=some ((l:Rat),plC c i (l:Rat)==0):=by
  unfold AM;rw[r,show -((z:Int):Rat)=((-z:Int):Rat) by grind,q1,Option.bind_some,if_pos (show B2 c 1 (l:Rat) from⟨?_,o,by decide,by omega,by omega,by rw[Rat.mul_one];exact(H.ok _ (by omega)).2⟩),Rat.mul_one];have:=dw H.bd (by omega);exact⟨by omega,by have:=H.len;omega⟩
 have v:wi 0 256=0:=by decide
 unfold oJ;rw[v,fine0,s,Option.bind_some];by_cases g:plC c i (l:Rat)=0;refine⟨l,l,by simp only[g];rfl,by omega,⟨by grind,q4,by have:=plC_z.1 g;omega⟩,a,a⟩;refine⟨l,l+1,?_,by omega,⟨by rw[Rat.intCast_le_intCast];omega,q4,?_⟩,a,k⟩;have e:(plC c i (l:Rat)==0)=false:=by rw[beq_eq_false_iff_ne];exact g
 simp only[e];rw[if_neg (by decide),if_pos (by omega),Rat.intCast_add];rfl;have:=(e9 (c:=c) H.hc H.np ((l+1:Int):Rat)).1;omega
theorem nU{t:Nat→Option Bool}:∀(J g k0:Nat),J< g→(∀k,k0≤k→k≤k0+J→∃b,t k=some b)→t (k0+J)=some true→∃kk,l9 t g k0=some kk∧t kk=some true∧kk≤k0+J
 |_,0,_,hg,_,_=>by omega
 |J,g+1,k0,hg,h,ht=>by
  rw[l9];obtain⟨b,hb⟩:=h k0 (Nat.le_refl _) (by omega);cases b with
  |true=>grind
  |false=>
   have hJ:J≠0:=fun e=>by grind
   obtain⟨kk,d,a,f⟩:=nU (J- 1) g (k0+1) (by omega) (fun k h1 c=>h k (by omega) (by omega)) (by grind);grind
theorem fine1:cV 1=1/ 2:=by decide+kernel
theorem Aa{a b:Rat}{k:Nat}(h:a* p2 k≤b* p2 k):a≤b:=iP (dl k) (by grind)
theorem A3{f N h Q:Nat}{p:List Rat}{c:Cnt}(H:CG f N h Q p c){i l u:Int}(hl:l≤u)(hu:u≤l+1)(a:At c i l u):∀k,∃z w:Int,(bm c i ((l:Rat),(u:Rat)) k).1* p2 k=(z:Rat)∧(bm c i ((l:Rat),(u:Rat)) k).2* p2 k=(w:Rat)∧z≤w∧w≤z+1∧At c i (bm c i ((l:Rat),(u:Rat)) k).1 (bm c i ((l:Rat),(u:Rat)) k).2
 |0=>⟨l,u,by rw[tv,Rat.mul_one];rfl,by rw[tv,Rat.mul_one];rfl,hl,hu,a⟩
 |k+1=>by
  obtain⟨z,w,h1,d,n,m,e⟩:=A3 H hl hu a k;rw[bm];generalize bm c i ((l:Rat),(u:Rat)) k=s at *
  have b:iN s* p2 (k+1)=((z+w:Int):Rat):=by
   unfold iN;rw[fine1,eC,kS,Rat.intCast_add,←h1,←d];grind
  have d1:s.1* p2 (k+1)=((2* z:Int):Rat):=by rw[eC,kS,Rat.intCast_mul,←h1,show((2:Int):Rat)=2 from rfl];grind
  have d2:s.2* p2 (k+1)=((2* w:Int):Rat):=by rw[eC,kS,Rat.intCast_mul,←d,show((2:Int):Rat)=2 from rfl];grind
  have j:s.1≤iN s:=Aa (k:=k+1) (by rw[b,d1,Rat.intCast_le_intCast];omega);have g:iN s≤s.2:=Aa (k:=k+1) (by rw[b,d2,Rat.intCast_le_intCast];omega);unfold wF;by_cases e0:plC c i (iN s)=0;rw[if_pos e0];have:=plC_z.1 e0;exact⟨z+w,z+w,b,b,by omega,by omega,⟨Rat.le_refl,by grind,by grind⟩⟩;rw[if_neg e0];by_cases e1:plC c i (iN s)=1;rw[if_pos e1];exact⟨z+w,2* w,b,d2,by omega,by omega,g,plC_one e1,e.2.2⟩;rw[if_neg e1];have q1:=plC_els e0 e1;have q2:=(e9 (c:=c) H.hc H.np (iN s)).1;exact⟨2* z,z+w,d1,b,by omega,by omega,⟨j,e.2.1,by grind⟩⟩
theorem Ig{f N h Q:Nat}{p:List Rat}{c:Cnt}(H:CG f N h Q p c){i:Int}{x y x' y':Rat}(a:At c i x y)(b:At c i x' y'):x≤y':=by
 by_cases g:x≤y';exact g;have:=eQ H.hc H.np (show y'< x by grind);have:=a.2.1;have:=b.2.2;omega
theorem y2{f N h Q:Nat}{p:List Rat}{c:Cnt}(H:CG f N h Q p c){i l u:Int}(hl:l≤u)(hu:u≤l+1)(a:At c i l u){A B:Rat}{r:Nat}(ab0:At c i A B)(hA:ab A≤p2 r)(hB:ab B≤p2 r)(k:Nat):
    qs (bm c i ((l:Rat),(u:Rat)) k).1≤r+k+2∧qs (bm c i ((l:Rat),(u:Rat)) k).2≤r+k+2∧qs (iN (bm c i ((l:Rat),(u:Rat)) k))≤r+k+4∧ab (bm c i ((l:Rat),(u:Rat)) k).1≤p2 (r+1)∧ab (bm c i ((l:Rat),(u:Rat)) k).2≤p2 (r+1)∧
     ((bm c i ((l:Rat),(u:Rat)) k).2- (bm c i ((l:Rat),(u:Rat)) k).1) * p2 k≤1∧At c i (bm c i ((l:Rat),(u:Rat)) k).1 (bm c i ((l:Rat),(u:Rat)) k).2:=by
 obtain⟨z,w,h1,d,L,M,g⟩:=A3 H hl hu a k;generalize bm c i ((l:Rat),(u:Rat)) k=s at *
 have o1:=Ig H g ab0;have o2:=Ig H ab0 g;have E:=(ab_le.1 hA).1;have K:=(ab_le.1 hB).2;have o:=Rat.le_of_lt (dl k)
 have e1:z≤((2^ (r+k):Nat):Int):=by
  have t1:=Rat.mul_le_mul_of_nonneg_right (show s.1≤p2 r by grind) o;rw[h1,←eC] at t1;unfold p2 at t1;rw[Rat.intCast_le_intCast] at t1;grind
 have e2: -((2^ (r+k):Nat):Int)≤w:=by
  have t1:=Rat.mul_le_mul_of_nonneg_right (show -p2 r≤s.2 by grind) o;rw[d,show -p2 r* p2 k= -(p2 r* p2 k) by grind,←eC] at t1;unfold p2 at t1;rw[←Rat.intCast_neg,Rat.intCast_le_intCast] at t1;grind
 have J:=Nat.one_le_two_pow (n:=r+k);have F:2^ (r+k+1)=2^ (r+k) * 2:=Nat.pow_succ 2 (r+k);have zl:z.natAbs≤2^ (r+k+1):=by grind
 have C:w.natAbs≤2^ (r+k+1):=by grind
 have q:bl z.natAbs≤r+k+2:=ej (Nat.lt_of_le_of_lt zl (Nat.pow_lt_pow_right (by decide) (by omega)));have D:bl w.natAbs≤r+k+2:=ej (Nat.lt_of_le_of_lt C (Nat.pow_lt_pow_right (by decide) (by omega)))
 have m:∀j,j≤r+k+1→IB (p2 j) (r+k+2):=fun j O=>⟨((2^ j:Nat):Int),rfl,by
  rw[Int.natAbs_natCast];exact ej (Nat.pow_lt_pow_right (by decide) (by omega))⟩
 have b:∀(x:Rat) (v:Int) (j n:Nat),x* p2 j=(v:Rat)→bl v.natAbs≤n→IB (p2 j) n→1≤n→qs x≤n:=fun x v j n e hb hp h1=>by
  have:=zc (x:=x* p2 j) (y:=p2 j) ⟨v,e,hb⟩ hp (by have:=dl j;grind) h1;rwa[Rat.mul_div_cancel (by have:=dl j;grind)] at this
 have G:iN s* p2 (k+1)=((z+w:Int):Rat):=by
  unfold iN;rw[fine1,eC,kS,Rat.intCast_add,←h1,←d];have:(1:Rat) / 2* 2=1:=by decide+kernel
  generalize (1:Rat) / 2=t at *
  grind
 have mag:∀(x:Rat) (v:Int),x* p2 k=(v:Rat)→v.natAbs≤2^ (r+k+1)→ab x≤p2 (r+1):=fun x v e hv=>by
  have t:ab (x* p2 k)≤p2 (r+k+1):=by
   rw[e,ab_le];unfold p2;rw[←Rat.intCast_neg,Rat.intCast_le_intCast,Rat.intCast_le_intCast];omega
  rw[cJ,show ab (p2 k)=p2 k by unfold ab;rw[if_neg (by grind)],show r+k+1=r+1+k by omega,eC] at t;exact Aa t
 refine⟨b _ z k _ h1 q (m k (by omega)) (by omega),b _ w k _ d D (m k (by omega)) (by omega),b _ (z+w) (k+1) _ G ?_ ((m (k+1) (by omega)).mono (by omega)) (by omega),mag _ z h1 zl,mag _ w d C,?_,g⟩;have:=ob q D;omega;rw[Rat.sub_eq_add_neg,Rat.add_mul,d,show -s.1* p2 k= -(s.1* p2 k) by grind,h1,←Rat.intCast_neg,←Rat.intCast_add,show(1:Rat)=((1:Int):Rat) from rfl,Rat.intCast_le_intCast];omega
def jB(N h g r J:Nat):Bool:=(List.range (N+1)).all fun m=>(List.range (m+1)).all fun n=>decide (sF (n+1) m n h g (r+1)+(max h g+(r+1+2) * m)+1≤J) && decide (sF (n+1) m n g h (r+1)+(max h g+(r+1+2) * m)+1≤J)
theorem sepJ{N h g r J k:Nat}(hJ:jB N h g r J=true)(hk:J≤k){p q:List Rat}(lp:(aj p).length≤N)(lq:(aj q).length≤N)(np:nz p)(nq:nz q)(Hp:Ht p h)(Hq:Ht q g)(hco:∀d,nz d→Dv d p→Dv d q→dg d=0){x y:Rat}(hxy:x≤y)(hx:ab x≤p2 (r+1))(hy:ab y≤p2 (r+1))(hd:(y- x) * p2 k≤1):Far p x y∨Far q x y:=by
 unfold jB at hJ;simp only[List.all_eq_true,List.mem_range,Bool.and_eq_true,decide_eq_true_eq] at hJ;obtain⟨a,e,ha⟩:=Hp;obtain⟨b,f,hb⟩:=Hq
 have c:(y- x) * p2 J≤1:=by
  have:=Rat.mul_le_mul_of_nonneg_left (eM hk) (show 0≤y- x by grind);grind
 by_cases hl:(aj q).length≤(aj p).length;have t:=(hJ (aj p).length (by omega) (aj q).length (by omega)).1;exact Dm (r:=r+1) (J:=J) rfl rfl hl nq e f ha hb hco (by omega) (by omega) hxy hx hy c;have t:=(hJ (aj q).length (by omega) (aj p).length (by omega)).2;exact(Dm (r:=r+1) (J:=J) rfl rfl (show(aj p).length≤(aj q).length by omega) np f e hb ha (fun d d0 d1 d2=>hco d d0 d2 d1) (by omega) (by omega) hxy hx hy c).symm
theorem CG.sq{f N h Q:Nat}{p:List Rat}{c:Cnt}(H:CG f N h Q p c):nz c.p∧∀d,nz d→Dv d c.p→Dv d (aN c.p)→dg d=0:=by
 obtain⟨a,hs,_⟩:=iB H.hc H.np;exact rt hs H.np
theorem tS{f N h Q:Nat}{p:List Rat}{c:Cnt}(H:CG f N h Q p c){i:Int}{x y:Rat}(a:At c i x y):¬Far c.p x y:=fun g=>by
 obtain⟨b,d,_⟩:=jP H.hc H.np;exact at_not H.hc H.np a (SF.far _ p c.p (Nat.le_refl _) H.np b x y g)
theorem iso_at{f N h Q r J k:Nat}{p:List Rat}{c:Cnt}(H:CG f N h Q p c)(h1:1≤h)(hN:N≤12)(hJ:jB N (h+12* N+8) (h+12* N+13) r J=true)(hk:J≤k){i:Int}{x y:Rat}(a:At c i x y)(hx:ab x≤p2 (r+1))(hy:ab y≤p2 (r+1))(hd:(y- x) * p2 k≤1):aZ c x=i∧bU c y=i+1:=by
 obtain⟨d,b⟩:=H.sq;have m:(aj c.p).length≤N:=by have:=bJ c.p;have:=H.len;omega
 have e:Far (aN c.p) x y:=by
  by_cases hn:nz (aN c.p);have n:=nZ d;have l:aj (aN c.p)=aN c.p:=cn _;rcases sepJ hJ hk m (by grind) d hn H.ht ((me (by omega) H.bd (by omega) H.ht).2) b a.1 hx hy hd with g|g
  exact absurd g (tS H a);exact g;exfalso;have j:=b c.p d (.refl _) (.zero _ (gL hn));obtain⟨v,o,hv⟩:=o9 d j;exact tS H a (Far.const o hv)
 have:=Fo H.hc H.np a.1 e;have:=a.2.1;have:=a.2.2;omega
structure RC (f N h Q r J:Nat)(p:List Rat)(c:Cnt)(i:Int)(A B:Rat):Prop where
 H:CG f N h Q p c
 h1:1≤h
 hN:N≤12
 hJ:jB N (h+12* N+8) (h+12* N+13) r J=true
 at_:At c i A B
 hA:ab A≤p2 r
 hB:ab B≤p2 r
 i0:0≤i
 ia:i< Ih c
 hQ:r+J+4≤Q
 hb:2* (h+12* N+8)+10≤Q
 hb2:h≤10000000
 hf:2* (h+12* N+8)+6≤f
section
variable {f N h Q r J g:Nat}{p:List Rat}{c:Cnt}{i:Int}{A B:Rat}(R:RC f N h Q r J p c i A B)
include R
theorem RC.span:∃l u:Int,oJ f c i 0=some ((l:Rat),(u:Rat))∧l≤u∧u≤l+1∧At c i l u:=by
 obtain⟨l,u,d,e,a,_⟩:=span0 (b:=2* (h+12* N+8)+4) R.H R.hN R.h1 (Nat.le_refl _) (by have:=R.hb2;have:=R.hN;omega) (by have:=R.hb;omega) (by have:=R.hf;omega) i R.i0 R.ia;exact⟨l,u,d,Rat.intCast_le_intCast.1 a.1,by omega,a⟩
theorem RC.ibd: -4611686018427387904≤i∧i≤4611686018427387904:=by
 have a:qs 0≤Q:=Nat.le_trans (by decide:qs 0≤1) (by have:=R.hb;omega);have h1:=kZ (c:=c) (x:=B) (R.H.ok 0 a).1.1;have:=R.i0;have:=R.at_.2.2;omega
theorem RC.alone(hg:J< g)(hQ2:r+J+4≤100000000000):∃s:Sp,y9 f g c i=some s∧At c i s.1 s.2∧bU c s.2≤aZ c s.1+1∧qs s.1≤r+J+2∧qs s.2≤r+J+2:=by
 obtain⟨l,u,hs,l1,l2,a⟩:=R.span;have sz:=y2 R.H l1 l2 a R.at_ R.hA R.hB;have j:=R.ibd;have hQ:=R.hQ
 have val:∀k,k≤J→kf c i (bm c i ((l:Rat),(u:Rat)) k)=some (decide (aZ c (bm c i ((l:Rat),(u:Rat)) k).1=i∧bU c (bm c i ((l:Rat),(u:Rat)) k).2=i+1)):=fun k h=>by
  obtain⟨q1,q2,q3,_⟩:=sz k;unfold kf;rw[if_pos ⟨(R.H.ok _ (by omega)).2,(R.H.ok _ (by omega)).1,⟨⟨Nat.le_trans q1 (by omega),Nat.le_trans q2 (by omega)⟩,(R.H.ok _ (by omega)).2⟩,j⟩]
 obtain⟨q1,q2,q3,q4,q5,q6,q7⟩:=sz J
 obtain⟨d,b1,b2,n⟩:=nU (t:=fun k=>kf c i (bm c i ((l:Rat),(u:Rat)) k)) J g 0 hg (fun k _ h=>⟨_,val k (by omega)⟩) (by
  rw[Nat.zero_add,val J (Nat.le_refl _),decide_eq_true (iso_at R.H R.h1 R.hN R.hJ (Nat.le_refl _) q7 q4 q5 q6)])
 have e:=val d (by omega);have b:kf c i (bm c i ((l:Rat),(u:Rat)) d)=some true:=b2;rw[e] at b;have o:=of_decide_eq_true (Option.some.inj b);obtain⟨m,p,_,_,_,_,q⟩:=sz d;unfold y9;grind
end
theorem Ag:∀{f:Nat} {p q g:List Rat},pf f p q=some g→∃u,g=cC u
 |0,_,_,_,h=>by cases h
 |f+1,p,q,g,h=>by
  rw[pf] at h;split at h;split at h;cases h;exact⟨_,rfl⟩;cases h;split at h;exact Ag h;cases h
theorem EJ{v:List Rat}(h:nz v)(hl:aF v=1)(ht:aj v=v):cC v=v:=by
 unfold cC;rw[if_neg h,hl,←oH,←ht]
 conv=>rhs;rw[ht]
 exact(eqv_trim.1 fun x=>by rw[aR];grind).trans ht
theorem z6(u:List Rat):cC (cC u)=cC u:=by
 by_cases h:nz u;have a:=ic h;refine EJ a.2.1 ?_ (oI u);have b:=cY h;rw[(js h (k:=1/ aF u) (fun e=>by grind) a.1).2.2];grind;have c:aj u=[]:=Classical.not_not.1 h;have e:cC u=[]:=by unfold cC;grind
 rw[e];rfl
theorem BI{f N h Q r J:Nat}{p:List Rat}{c:Cnt}{i:Int}{A B:Rat}(R:RC f N h Q r J p c i A B){x y:Rat}(a:At c i x y)(h1:bU c y≤aZ c x+1){q G:List Rat}(gp:Dv G c.p)(gq:Dv G q)(hb:∃u v:List Rat,∀z,af G z=af u z* af c.p z+af v z* af q z):Far G x y↔∃t,Sgn c i q t:=
 BH R.H.hc R.H.np a h1 (fun _ _ b=>tS R.H b) (fun x y b e=>((gD R.H.hc R.H.np b).1 e).dv (jP R.H.hc R.H.np).2.1) gp gq hb
section
variable {f N h Q r J g M hq X Xd Td J2:Nat}{p:List Rat}{c:Cnt}{i:Int}{A B:Rat}(R:RC f N h Q r J p c i A B)
include R
theorem RC.gcd {q:List Rat} (nq:nz q) (hql:q.length≤1000) (lq:(aj q).length≤N) (bq:bdL q hq) (Hq:Ht q hq) (h1q:1≤hq) (hX:X≤137438953472)
    (hT:((List.range (N+1)).all fun m=>(List.range (N+1)).all fun n=>hG f m n (h+12* N+8) hq X)=true):
    ∃d,pf f c.p q=some d∧nz d∧Dv d c.p∧Dv d q∧(∃u v:List Rat,∀x,af d x=af u x* af c.p x+af v x* af q x)∧bdL d (h+24* N+16)∧Ht d (h+24* N+16)∧(aj d).length≤N∧d.length≤1000:=by
 obtain⟨a,t⟩:=R.H.sq;have y:=bJ c.p;have g:=R.H.len;have hN:=R.hN;simp only[List.all_eq_true,List.mem_range] at hT;obtain⟨d,e,l,g3,z⟩:=yo f _ _ (h+12* N+8) hq X c.p q (hT (aj c.p).length (by omega) (aj q).length (by omega)) rfl rfl R.H.bd bq R.H.ht Hq (by omega) h1q (by omega) hql hX;obtain⟨j,b,k,u,v,o⟩:=m5 f _ _ _ e (.inl a);have s:=b.dg a;have l1:=kX a;have l2:=kX j;have i:Ht d (h+24* N+16):=(HH a b R.H.ht (show dg c.p≤N by omega) (by omega)).mono (by omega);obtain⟨w,r⟩:=Ag e;have hb:=(i.monic (by grind)).1;rw[show cC d=d by rw[r,z6]] at hb;exact⟨d,e,j,b,k,⟨u,v,o⟩,hb,i,by omega,l⟩
theorem RC.shares (hg:J< g) (hQ2:r+J+4≤100000000000) {q:List Rat} (nq:nz q) (hql:q.length≤1000) (lq:(aj q).length≤N) (bq:bdL q hq) (Hq:Ht q hq) (h1q:1≤hq) (hX:X≤137438953472)
    (hT:((List.range (N+1)).all fun m=>(List.range (N+1)).all fun n=>hG f m n (h+12* N+8) hq X)=true) (hc2:cH f N (h+24* N+16) Xd Td Q=true):
    ∃b,pF f g c i q=some b∧(b=true↔¬ ∃t,Sgn c i q t):=by
 obtain⟨d,F,o,y,x,⟨u,v,C⟩,hb,E,p,k⟩:=R.gcd nq hql lq bq Hq h1q hX hT;obtain⟨B,a⟩:=CG.ex hc2 o p k hb E;obtain⟨s,s1,s2,z,L,O⟩:=R.alone hg hQ2;have hQ:=R.hQ;have j:=BI R s2 z y x ⟨u,v,C⟩;unfold pF;have w:=R.H.len;have hN:=R.hN;rw[if_pos ⟨by omega,by omega⟩,F,Option.bind_some,if_pos (by omega)];by_cases hd:cN d< 1;rw[if_pos hd];refine⟨false,rfl,fun e=>(by cases e),fun e=>absurd ?_ e⟩;have l:dg d=0:=by rw[yT o] at hd;omega
 obtain⟨γ,D,A⟩:=o9 o l;exact j.1 (Far.const D A);rw[if_neg hd,a.hc,Option.bind_some,s1,Option.bind_some,if_pos ⟨(a.ok _ (by omega)).1,(a.ok _ (by omega)).2⟩];have M:=gD a.hc a.np s2.1;have K:=(e9 (c:=B) a.hc a.np s.1).1;have G:=gt a.hc a.np s2.1;grind
end
theorem no_zero{q:List Rat}(h:∀x,af q x=0){x y:Rat}(hxy:x≤y):¬Far q x y:=fun g=>g.ne (by grind) hxy (h x)
structure SB (f N h Q r g hq J2:Nat):Prop where
 hq1:1≤hq
 gcd:∃X,X≤137438953472∧((List.range (N+1)).all fun m=>(List.range (N+1)).all fun n=>hG f m n (h+12* N+8) hq X)=true
 cd:∃X T,cH f N (h+24* N+16) X T Q=true
 cq:∃X T,cH f N hq X T Q=true
 hJ2:jB N (h+24* N+16) hq r J2=true
 hg:J2< g
 hQ2:r+J2+4≤Q
 ev:24* (hq+Q+1)+hq+Q+2≤137438953472
theorem RC.sign{f N h Q r J g hq J2:Nat}{p:List Rat}{c:Cnt}{i:Int}{A B:Rat}(R:RC f N h Q r J p c i A B)(S:SB f N h Q r g hq J2)(hgJ:J< g){q:List Rat}(hql:q.length≤24)(lq:(aj q).length≤N)(bq:bdL q hq)(Hq:Ht q hq):
    ∃t,wt f g c i q=some t∧((∃t',Sgn c i q t')→Sgn c i q t∧(t=1∨t= -1))∧((¬ ∃t',Sgn c i q t')→t=0):=by
 have hQ:=R.hQ;have hQ2:=S.hQ2;have hev:=S.ev;by_cases nq:nz q;rotate_left;have hz:=gL nq;have hd:=degP_nil.2 nq;refine⟨0,?_,fun⟨t,x,y,a,b,_⟩=>absurd b (no_zero hz a.1),fun _=>rfl⟩;unfold wt;rw[if_pos (by omega),if_pos (by omega)];obtain⟨X,hX,W⟩:=S.gcd;obtain⟨Xd,Td,K⟩:=S.cd;obtain⟨Xq,Tq,M⟩:=S.cq;obtain⟨b,b1,b2⟩:=R.shares hgJ (by omega) nq (by omega) lq bq Hq S.hq1 hX W K;obtain⟨d,g1,z0,z1,z2,⟨u,v,z3⟩,hb,hH,hdl,Y⟩:=R.gcd nq (by omega) lq bq Hq S.hq1 hX W;have z:¬cN q< 0:=by rw[yT nq];omega
 unfold wt;rw[if_pos (by omega),if_neg z,b1,Option.bind_some];cases b with
 |true=>
  simp_all
 |false=>
 have D:∃t',Sgn c i q t':=Classical.not_not.1 fun e=>by grind
 obtain⟨s,n⟩:=CG.ex M nq lq (by omega) bq Hq;obtain⟨l,w,hs,l1,l2,a⟩:=R.span;have sz:=y2 R.H l1 l2 a R.at_ R.hA R.hB;rw[if_neg (by decide),n.hc,Option.bind_some,hs,Option.bind_some]
 have val:∀k,k≤J2→pD c i s (bm c i ((l:Rat),(w:Rat)) k)=some (decide (bU s (bm c i ((l:Rat),(w:Rat)) k).2=aZ s (bm c i ((l:Rat),(w:Rat)) k).1)):=fun k hk=>by
  obtain⟨q1,q2,q3,_⟩:=sz k;unfold pD;rw[if_pos ⟨(n.ok _ (by omega)).1,(n.ok _ (by omega)).2,⟨⟨Nat.le_trans q1 (by omega),Nat.le_trans q2 (by omega)⟩,(R.H.ok _ (by omega)).2⟩⟩]
 obtain⟨q1,q2,q3,q4,q5,q6,q7⟩:=sz J2
 have far:Far q (bm c i ((l:Rat),(w:Rat)) J2).1 (bm c i ((l:Rat),(w:Rat)) J2).2:=by
  obtain⟨F,G⟩:=R.H.sq;obtain⟨m,hm⟩:=z1;have j:∀x,af c.p x=af m x* af d x:=hm;have Z:=(iL j F).1;have O:Dv m c.p:=⟨d,fun x=>by rw[hm];grind⟩;have hlen:=R.H.len;have hN:=R.hN;have htl:=bJ c.p;have ld:=O.dg F;have l1:=kX F;have lm:=kX Z;have L:Ht m (h+24* N+16):=(HH F O R.H.ht (show dg c.p≤N by omega) (by omega)).mono (by omega)
  have co:∀e,nz e→Dv e m→Dv e q→dg e=0:=fun e e0 e1 e2=>by
   have e3:Dv e c.p:=e1.trans O;have e4:Dv e d:=e3.lin e2 (u:=u) (v:=v) z3;refine G e e0 e3 (e4.lin e1 (u:=aN m) (v:=aN d) fun x=>?_);rw[bR,AK j,bR,bR];grind
  rcases sepJ S.hJ2 (Nat.le_refl _) (by omega) lq Z nq L Hq co q7.1 q4 q5 q6 with g|g
  exfalso;obtain⟨t',x,y,a1,a2,_⟩:=D;obtain⟨x',y',u1,u2,v1,v2,U⟩:=rj R.H.hc R.H.np q7 a1;exact tS R.H U ((g.sub u1 v1).mul ((a2.sub u2 v2).dv z2) j);exact g
 obtain⟨o,b1,b2,b3⟩:=nU (t:=fun k=>pD c i s (bm c i ((l:Rat),(w:Rat)) k)) J2 g 0 S.hg (fun k _ hk=>⟨_,val k (by omega)⟩) (by
  rw[Nat.zero_add,val J2 (Nat.le_refl _),decide_eq_true ((gD n.hc n.np q7.1).2 far)])
 have C:pD c i s (bm c i ((l:Rat),(w:Rat)) o)=some true:=b2;rw[val o (by omega)] at C;have b5:=of_decide_eq_true (Option.some.inj C);obtain⟨w1,w2,_,_,_,_,E⟩:=sz o;rw[b1,Option.bind_some];have hmx:=dw bq S.hq1;have V:=Nat.mul_le_mul hql (show mxL q+qs (bm c i ((l:Rat),(w:Rat)) o).2+1≤hq+Q+1 by omega);rw[if_pos (show eW q _ from⟨by omega,by omega⟩)];have T:=(gD n.hc n.np E.1).1 b5;have sg:=T.sg E.1 (by grind);refine⟨_,rfl,fun _=>⟨⟨_,_,E,T,sg.symm⟩,?_⟩,fun e=>absurd D e⟩;have:=sgE_ne.2 (T.ne E.1 (by grind));have:=eT (bm c i ((l:Rat),(w:Rat)) o).2 q;unfold sgE at *
 omega
theorem cmpQ_lt{a b:Rat}:dy a b< 0↔a< b:=by
 unfold dy;grind
theorem cmpQ_le{a b:Rat}:dy a b≤0↔a≤b:=by
 unfold dy;grind
theorem uI{q:List Rat}{r H L:Nat}(hq:bdL q H)(hl:q.length≤L){s:Sp}(hs:s.1≤s.2)(h1:ab s.1≤p2 r)(h2:ab s.2≤p2 r):
    (di q s).1≤(di q s).2∧ab (di q s).1≤p2 (H+(r+1) * L)∧ab (di q s).2≤p2 (H+(r+1) * L)∧(di q s).2- (di q s).1≤p2 (H+(r+2) * L) * (s.2- s.1)∧∀x,s.1≤x→x≤s.2→(di q s).1≤af q x∧af q x≤(di q s).2:=by
 have t:=Rat.le_of_lt (dl r);have d:0≤s.2- s.1:=by grind
 by_cases nq:aj q=[];have e:di q s=(0,0):=by unfold di;grind
 rw[e];have z:∀x,af q x=0:=fun x=>by rw[←cb,nq];rfl
 have E:=Rat.mul_nonneg (Rat.le_of_lt (dl (H+(r+2) * L))) d;exact⟨Rat.le_refl,by show ab 0≤_;rw[kN];exact Rat.le_of_lt (dl _),by show ab 0≤_;rw[kN];exact Rat.le_of_lt (dl _),by show(0:Rat)- 0≤_;grind,fun x _ _=>by rw[z];exact⟨Rat.le_refl,Rat.le_refl⟩⟩
 have e:di q s=ovP (aF q,aF q) s ((aj q).take ((aj q).length- 1)):=by
  unfold di;rw[if_neg (by rintro(g|g);exact g (cmpQ_le.2 hs);exact nq g)]
 have f:=List.length_pos_iff.2 nq;have hg:=cX (l:=q) (n:=(aj q).length- 1) (by omega)
 have k:(aj q).take ((aj q).length- 1)++[aF q]=aj q:=by
  have h:(aj q).length- 1< (aj q).length:=by omega
  have:=List.take_append_getElem h;rw[List.getElem?_eq_getElem h] at hg;rw[Option.some.inj hg] at this;rw[this,show(aj q).length- 1+1=(aj q).length by omega,List.take_length]
 have c:=zT t d hs h1 h2 Rat.le_refl (aF q) ((aj q).take ((aj q).length- 1));rw[k,←e] at c;obtain⟨p,y,k3,j,w⟩:=c
 have hc:∀x∈aj q,ab x≤p2 H:=fun x A=>by
  have C:=dV x;have F:=hq x (db A);have B:=sU x.num.natAbs;have D:=Nat.pow_le_pow_right (n:=2) (by decide) (show bl x.num.natAbs≤H by omega);have e1:=x8 x;have e2:1≤((x.den:Int):Rat):=by rw[show(1:Rat)=((1:Int):Rat) from rfl,Rat.intCast_le_intCast];have:=x.den_pos;omega
  have v:ab ((x.num:Rat))≤p2 H:=by
   rw[ab_le];unfold p2;rw[←Rat.intCast_neg,Rat.intCast_le_intCast,Rat.intCast_le_intCast];omega
  rw[e1,cJ,show ab ((x.den:Int):Rat)=((x.den:Int):Rat) by unfold ab;rw[if_neg (by grind)]] at v;have:=Rat.mul_le_mul_of_nonneg_left e2 (cW x);grind
 have o:=bJ q;have v1:=Bg (r:=r) (aj q) hc;have v2:=eM (show H+(r+1) * (aj q).length≤H+(r+1) * L by have:=Nat.mul_le_mul_left (r+1) (show(aj q).length≤L by omega);omega);have i:=Id (r:=r) (aj q) hc;have u:=eM (show H+(r+2) * (aj q).length≤H+(r+2) * L by have:=Nat.mul_le_mul_left (r+2) (show(aj q).length≤L by omega);omega);have m:=Rat.mul_le_mul_of_nonneg_right (Rat.le_trans i u) d;refine⟨p,Rat.le_trans y (Rat.le_trans v1 v2),Rat.le_trans k3 (Rat.le_trans v1 v2),Rat.le_trans j m,fun x a b=>?_⟩;have:=w x a b;rwa[cb] at this
theorem DE{q:List Rat}{t u:Nat}{s:Sp}(h1:qs s.1≤t)(h2:qs s.2≤t)(hq:bdL q u)(hu:1≤u)(hl:q.length≤24)(hlim:u+24* (t+u+1)+t≤137438953472):uM q s∧qs (di q s).1≤u+24* (t+u+1)∧qs (di q s).2≤u+24* (t+u+1):=by
 have a:((aj q).take ((aj q).length- 1)).length≤24:=by have:=bJ q;grind
 have hb:bdL ((aj q).take ((aj q).length- 1)) u:=fun x b=>hq x (db (List.mem_of_mem_take b))
 have hv:qs (aF q)≤u:=by
  by_cases nq:nz q;rw[←(ef nq).2];exact fy hq hu _;have:aF q=0:=by unfold aF;rw[Classical.not_not.1 nq];rfl
  rw[this];exact Nat.le_trans (by decide:qs 0≤1) hu
 have e:=Nat.mul_le_mul_right (t+u+1) a;obtain⟨c,d,_⟩:=DF h1 h2 hv _ hb;refine⟨⟨eH hq (by omega),⟨Nat.le_trans h1 (by omega),Nat.le_trans h2 (by omega)⟩,by omega,ov_ok h1 h2 hv _ hb (by omega)⟩,?_,?_⟩;unfold di;split;exact Nat.le_trans (by decide:qs 0≤1) (by omega);omega;unfold di;split;exact Nat.le_trans (by decide:qs 0≤1) (by omega);omega
theorem nP(a:Rat)(k:Nat):∃z:Int,fb a k* p2 k=(z:Rat)∧fb a k≤a∧a< fb a k+cV k∧cV k* p2 k=1:=by
 have hf:cV k* p2 k=1:=by
  unfold cV p2;rw[Rat.mkRat_eq_div]
  have:(((2^ k:Nat):Int):Rat)≠0:=fun e=>by
   have:=Rat.intCast_inj.1 (e.trans Rat.intCast_zero.symm);have:=Nat.two_pow_pos k;omega
  grind
 have ht:jE k=p2 k:=rfl;refine⟨(a* jE k).floor,?_,?_,?_,hf⟩;unfold fb;rw[Rat.mul_assoc,hf,Rat.mul_one];have:=Rat.floor_le (a* jE k);refine Aa (k:=k) ?_;unfold fb;rw[Rat.mul_assoc,hf,Rat.mul_one];exact this;have:=Rat.lt_floor_add_one (a* jE k);have b:=dl k;by_cases g:a< fb a k+cV k;exact g;have:=Rat.mul_le_mul_of_nonneg_right (show fb a k+cV k≤a by grind) (Rat.le_of_lt b);rw[Rat.add_mul] at this;unfold fb at this;rw[Rat.mul_assoc,hf,ht] at this;grind
theorem eI(q:List Rat)(m x:Rat):af (ci q (b6 m)) x=af q x- m:=by rw[dF,kK]
theorem up_le{f N h Q:Nat}{p:List Rat}{c:Cnt}(H:CG f N h Q p c){i:Int}{x y M:Rat}(a:At c i x y){q:List Rat}(hv:∀z,x≤z→z≤y→af q z≤M):¬Sgn c i (ci q (b6 M)) 1:=by
 rintro⟨u,v,b1,b2,k⟩;obtain⟨z,w,c1,d,j,e,b⟩:=rj H.hc H.np a b1;have s:=b2.sg d (by have:=b.1;grind);rcases bK z (ci q (b6 M)) with⟨_,g⟩|⟨g,_⟩|⟨g,_⟩
 rw[eI] at g;have:=hv z c1 (by have:=b.1;grind);grind;omega;omega
theorem lo_le{f N h Q:Nat}{p:List Rat}{c:Cnt}(H:CG f N h Q p c){i:Int}{x y M:Rat}(a:At c i x y){q:List Rat}(hv:∀z,x≤z→z≤y→M≤af q z):¬Sgn c i (ci q (b6 M)) (-1):=by
 rintro⟨u,v,b1,b2,k⟩;obtain⟨z,w,c1,d,j,e,b⟩:=rj H.hc H.np a b1;have s:=b2.sg d (by have:=b.1;grind);rcases bK z (ci q (b6 M)) with⟨g,_⟩|⟨_,g⟩|⟨g,_⟩
 omega;rw[eI] at g;have:=hv z c1 (by have:=b.1;grind);grind;omega
theorem qs_p2{x:Rat}{k n:Nat}{z:Int}(e:x* p2 k=(z:Rat))(hz:bl z.natAbs≤n)(hk:k+1≤n):qs x≤n:=by
 have:=zc (x:=x* p2 k) (y:=p2 k) ⟨z,e,hz⟩ (⟨((2^ k:Nat):Int),rfl,by
  exact ej (Nat.pow_lt_pow_right (by decide) (by omega))⟩:IB (p2 k) n) (by have:=dl k;grind) (by omega)
 rwa[Rat.mul_div_cancel (by have:=dl k;grind)] at this
theorem EL{q:List Rat}{K m:Rat}{hq W kk:Nat}{z:Int}(bq:bdL q hq)(h1:1≤hq)(H:HS q K hq)(e:m* p2 kk=(z:Rat))(hz:bl z.natAbs≤W+kk):bdL (ci q (b6 m)) (hq+W+kk+3)∧Ht (ci q (b6 m)) (hq+W+kk+3):=by
 have j:qs m≤W+kk+1:=qs_p2 e (by omega) (by omega);have hp:IB (p2 kk) (kk+1):=⟨((2^ kk:Nat):Int),rfl,by exact ej (Nat.pow_lt_pow_right (by decide) (by omega))⟩;have h:=dl kk;have c:IB (m* p2 kk) (W+kk):=⟨z,e,hz⟩;constructor;refine iX fun i=>?_;rw[gE,lE];have a:=fy bq h1 i;split;have:=mM (coP q i) m;omega;have:=mM (coP q i) 0;have:qs 0≤1:=by decide
 omega;refine⟨K* p2 kk,fun g=>?_,fun i=>?_⟩;rcases Rat.mul_eq_zero.1 g with g|g
 exact H.ne g;grind;have a:IB (coP q i* K* p2 kk) (hq+W+kk+2):=((H.co i).mul hp).mono (by omega);rw[gE,lE];split;have b:IB (-(m* p2 kk* K)) (hq+W+kk+2):=((c.mul H.sc).neg).mono (by omega);obtain⟨w,f,d⟩:=(a.add b);exact⟨w,by grind,d⟩;obtain⟨w,f,d⟩:=a.mono (show _≤hq+W+kk+3 by omega);grind
theorem RC.value {f N h Q r J g hq J2 J3:Nat} {p:List Rat} {c:Cnt} {i k:Int} {A B K:Rat} (R:RC f N h Q r J p c i A B) {q:List Rat} (hql:q.length≤24) (lq:(aj q).length≤N) (hN1:1≤N) (bq:bdL q hq) (h1:1≤hq) (H:HS q K hq)
    (S:SB f N h Q r g (hq+(hq+(r+2) * 24+2)+wi k 256+3) J2) (hgJ:J< g) (hJ3:hq+(r+3) * 24+wi k 256+1≤J3) (hg3:J3< g) (hQ3:r+J3+4≤Q) (hlim:hq+24* (r+J3+2+hq+1)+(r+J3+2)≤60000000000) (hw3:wi k 256≤256) (hrw:(r+2) * 24≤100000):
    ∃v:Sp,t9 f g c i q k=some v∧qs v.1≤hq+(r+2) * 24+2* wi k 256+4∧qs v.2≤hq+(r+2) * 24+2* wi k 256+4∧¬Sgn c i (ci q (b6 v.2)) 1∧¬Sgn c i (ci q (b6 v.1)) (-1):=by
 obtain⟨l,u,hs,l1,l2,a⟩:=R.span;have sz:=y2 R.H l1 l2 a R.at_ R.hA R.hB;have hQ:=R.hQ;generalize F:wi k 256=d at *
 have y:=pQ d;have V:=dl d
 have val:∀j,j≤J3→xy c q (cV d) (bm c i ((l:Rat),(u:Rat)) j)=some (decide (dy ((di q (bm c i ((l:Rat),(u:Rat)) j)).2- (di q (bm c i ((l:Rat),(u:Rat)) j)).1) (cV d)< 0)):=fun j hj=>by
  obtain⟨q1,q2,q3,_⟩:=sz j;obtain⟨o1,o2,O⟩:=DE (t:=r+J3+2) (u:=hq) (Nat.le_trans q1 (by omega)) (Nat.le_trans q2 (by omega)) bq h1 hql (by omega);have o4:=mM (di q (bm c i ((l:Rat),(u:Rat)) j)).2 (di q (bm c i ((l:Rat),(u:Rat)) j)).1;unfold xy;rw[if_pos ⟨o1,⟨Nat.le_trans o2 (by omega),Nat.le_trans O (by omega)⟩,Nat.le_trans o4 (by omega),Nat.le_trans y (by omega),⟨⟨Nat.le_trans q1 (by omega),Nat.le_trans q2 (by omega)⟩,(R.H.ok _ (by omega)).2⟩⟩]
 obtain⟨q1,q2,q3,q4,q5,q6,q7⟩:=sz J3;obtain⟨z0,_,_,_,f1⟩:=nP 0 d
 have n:(di q (bm c i ((l:Rat),(u:Rat)) J3)).2- (di q (bm c i ((l:Rat),(u:Rat)) J3)).1< cV d:=by
  obtain⟨_,_,_,T,_⟩:=uI bq hql q7.1 q4 q5;have e1:hq+(r+1+2) * 24+(d+1)≤J3:=by omega
  have e2:=Rat.mul_le_mul_of_nonneg_left (eM e1) (show 0≤(bm c i ((l:Rat),(u:Rat)) J3).2- (bm c i ((l:Rat),(u:Rat)) J3).1 by have:=q7.1;grind);rw[eC,eC d 1,kS] at e2;have e3:=Rat.mul_le_mul_of_nonneg_right T (show 0≤p2 d* 2 by grind);generalize (di q (bm c i ((l:Rat),(u:Rat)) J3)).2- (di q (bm c i ((l:Rat),(u:Rat)) J3)).1=w at *
  by_cases g:w< cV d;exact g;have:=Rat.mul_le_mul_of_nonneg_right (show cV d≤w by grind) (show 0≤p2 d* 2 by grind);grind
 obtain⟨j,b1,b2,b3⟩:=nU (t:=fun j=>xy c q (cV d) (bm c i ((l:Rat),(u:Rat)) j)) J3 g 0 hg3 (fun j _ hj=>⟨_,val j (by omega)⟩) (by
  rw[Nat.zero_add,val J3 (Nat.le_refl _),decide_eq_true (cmpQ_lt.2 n)])
 have D:xy c q (cV d) (bm c i ((l:Rat),(u:Rat)) j)=some true:=b2;rw[val j (by omega)] at D;have b5:=cmpQ_lt.1 (of_decide_eq_true (Option.some.inj D));obtain⟨w1,w2,w3,Z,w5,w6,o⟩:=sz j;obtain⟨t1,t2,t3,T,G⟩:=uI bq hql o.1 Z w5;obtain⟨o1,o2,O⟩:=DE (t:=r+J3+2) (u:=hq) (Nat.le_trans w1 (by omega)) (Nat.le_trans w2 (by omega)) bq h1 hql (by omega);unfold t9;rw[hs,Option.bind_some,F,b1,Option.bind_some];generalize bm c i ((l:Rat),(u:Rat)) j=s at *
 generalize di q s=v at *
 obtain⟨z,M,g2,g3,_⟩:=nP v.2 d
 have hf0:0< cV d:=by
  by_cases g:0< cV d;exact g;have:=Rat.mul_le_mul_of_nonneg_right (show cV d≤0 by grind) (Rat.le_of_lt V);grind
 have X:cV d≤1:=Aa (k:=d) (by have:=DD d;grind);generalize hm:fb v.2 d=m at *
 -- the size of the number of the grid
 have C:ab m≤p2 (hq+(r+2) * 24+1):=by
  have E:=ab_le.1 t3;have Y:=DD (hq+(r+1+1) * 24);rw[show hq+(r+2) * 24+1=hq+(r+1+1) * 24+1 by omega,eC _ 1,kS];exact ab_le.2 ⟨by grind,by grind⟩
 have U:bl z.natAbs≤hq+(r+2) * 24+2+d:=by
  have E:ab (m* p2 d)≤p2 (hq+(r+2) * 24+1+d):=by
   rw[cJ,show ab (p2 d)=p2 d by unfold ab;rw[if_neg (by grind)],eC _ d];exact Rat.mul_le_mul_of_nonneg_right C (Rat.le_of_lt V)
  rw[M,ab_le] at E;unfold p2 at E;rw[←Rat.intCast_neg,Rat.intCast_le_intCast,Rat.intCast_le_intCast] at E;refine ej (Nat.lt_of_le_of_lt (show z.natAbs≤2^ (hq+(r+2) * 24+1+d) by omega) (Nat.pow_lt_pow_right (by decide) (by omega)))
 have L:qs m≤hq+(r+2) * 24+2+d:=qs_p2 M U (by omega);have hm1:=fQ m (cV d);have hm2:=mM m (cV d);unfold valR;rw[F,hm,if_pos ⟨Nat.le_trans L (by omega),⟨Nat.le_trans o2 (by omega),Nat.le_trans O (by omega)⟩,Nat.le_trans y (by omega),eH bq (by omega),by omega⟩];by_cases c1:dy m v.1< 0;rw[if_pos c1];have:=cmpQ_lt.1 c1;exact⟨_,rfl,by show qs m≤_;omega,by show qs (m+cV d)≤_;omega,up_le R.H o fun x a b=>by have:=(G x a b).2;show _≤m+cV d;grind,lo_le R.H o fun x a b=>by have:=(G x a b).1;show m≤_;grind⟩;rw[if_neg c1];obtain⟨l1,l2⟩:=EL (W:=hq+(r+2) * 24+2) bq h1 H M U
 obtain⟨t,s1,s2,s3⟩:=R.sign S hgJ (q:=ci q (b6 m)) (by have:=mH q (b6 m);have:=j9 m;omega) (by
  have e:aj (ci q (b6 m))=aj (ci (aj q) (b6 m)):=jV fun i=>by rw[gE,gE,b9]
  rw[e];have E:=bJ (ci (aj q) (b6 m));have Y:=mH (aj q) (b6 m);have a3:=j9 m;omega) l1 l2
 rw[s1,Option.bind_some];by_cases ex:∃t',Sgn c i (ci q (b6 m)) t';obtain⟨e1,e2⟩:=s2 ex;rcases e2 with rfl|rfl
 rw[if_neg (by decide),if_pos rfl];exact⟨_,rfl,by show qs m≤_;omega,by show qs (m+cV d)≤_;omega,up_le R.H o fun x a b=>by have:=(G x a b).2;show _≤m+cV d;grind,fun e=>by have:=zw R.H.hc R.H.np e1 e;omega⟩;rw[if_neg (by decide),if_neg (by decide)];exact⟨_,rfl,by show qs (m- cV d)≤_;omega,by show qs m≤_;omega,fun e=>by have:=zw R.H.hc R.H.np e1 e;omega,lo_le R.H o fun x a b=>by have:=(G x a b).1;show m- cV d≤_;grind⟩;rw[s3 ex,if_pos rfl];exact⟨_,rfl,by show qs m≤_;omega,by show qs m≤_;omega,fun e=>ex ⟨_,e⟩,fun e=>ex ⟨_,e⟩⟩
end Go.Proofs.YtkhclghbcicapaaGreatDoor
