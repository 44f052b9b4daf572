/- Part Z10 of the proof. -/
import Derived.Test.YtdjfjpeoddmamaaGreatDoorZ09
set_option linter.all false
namespace Go.Abs
def HtF(f:Nat→Rat)(k:Rat)(h:Nat):Prop:=∀i,∃z:Int,f i* k=(z:Rat)∧bl z.natAbs≤h
def Ht(p:List Rat)(h:Nat):Prop:=∃k:Rat,k≠0∧HtF (coP p) k h
theorem HtF.mono{f:Nat→Rat}{k:Rat}{h h':Nat}(H:HtF f k h)(hh:h≤h'):HtF f k h':=fun i=>by
 obtain⟨z,z1,z2⟩:=H i
 exact⟨z,z1,Nat.le_trans z2 hh⟩
theorem Ht.mono{p:List Rat}{h h':Nat}(H:Ht p h)(hh:h≤h'):Ht p h':=by
 obtain⟨k,k0,H⟩:=H
 exact⟨k,k0,H.mono hh⟩
theorem Ht.scale{p r:List Rat}{h:Nat}{c:Rat}(H:Ht p h)(hc:c≠0)(e:∀i,coP r i=coP p i* c):Ht r h:=by
 obtain⟨k,k0,H⟩:=H
 refine⟨k/ c,fun e=>?_,fun i=>?_⟩
 have:k/ c* c=k:=Rat.div_mul_cancel hc
 rw[e] at this;grind
 obtain⟨z,z1,z2⟩:=H i
 refine⟨z,?_,z2⟩
 have:k/ c* c=k:=Rat.div_mul_cancel hc
 rw[e,←z1];grind
theorem Ht.trim{p:List Rat}{h:Nat}(H:Ht p h):Ht (trimQ p) h:=H.scale (c:=1) (by decide+kernel) fun i=>by rw[bf_];grind
theorem Ht.untrim{p:List Rat}{h:Nat}(H:Ht (trimQ p) h):Ht p h:=H.scale (c:=1) (by decide+kernel) fun i=>by rw[bf_];grind
theorem Ht.zero{p:List Rat}(e:∀i,coP p i=0)(h:Nat):Ht p h:=⟨1,by decide+kernel,fun i=>⟨0,by rw[e];decide+kernel,Nat.zero_le _⟩⟩
theorem pw_(o:List Rat)(a:Rat)(q:List Rat)(i n:Nat):∀k,coP (rowM o a q i k) n=if i≤n∧n< i+k∧n< o.length then coP o n- a* coP q (n- i) else coP o n
 |0=>by rw[rowM,if_neg (by omega)]
 |k+1=>by
  rw[rowM,gW_,pw_ o a q i n k,dl_]
  by_cases h:n=i+k∧i+k< o.length
  rw[if_pos h,if_pos (by omega),gv_ o a q i k (i+k) (by omega),h.1,show i+k- i=k by omega]
  rw[if_neg h]
  by_cases h2:i≤n∧n< i+k∧n< o.length
  rw[if_pos h2,if_pos (by omega)]
  rw[if_neg h2,if_neg (by omega)]
theorem sM_{x y:Int}{k:Nat}(hx:bl x.natAbs≤k)(hy:bl y.natAbs≤k):bl (x- y).natAbs≤k+1:=by
 rw[Int.sub_eq_add_neg]
 exact jg_ hx (by rwa[Int.natAbs_neg])
theorem sl_{q:List Rat}{lead l:Rat}{g:Nat}(hl:coP q (q.length- 1)=lead)(h0:lead≠0)(l0:l≠0)(hq:HtF (coP q) l g):∀(c:Nat) (u o:List Rat) (k:Rat) (H:Nat),k≠0→HtF (coP o) k H→HtF (coP u) (k/ l) H→
    ∃k',k'≠0∧HtF (coP (divR q lead c u o).1) (k'/ l) (H+c* (g+1))∧HtF (coP (divR q lead c u o).2) k' (H+c* (g+1))
 |0,u,o,k,H,k0,ho,hu=>⟨k,k0,by rw[Nat.zero_mul];exact hu,by rw[Nat.zero_mul];exact ho⟩
 |n+1,u,o,k,H,k0,ho,hu=>by
  obtain⟨zl,zl1,zl2⟩:=hq (q.length- 1)
  rw[hl] at zl1
  have zl0:(zl:Rat)≠0:=fun e=>by
   rw[e] at zl1
   rcases Rat.mul_eq_zero.1 zl1 with e|e
   exact h0 e
   exact l0 e
  obtain⟨zt,zt1,zt2⟩:=ho (n+q.length- 1)
  generalize hte:coP o (n+q.length- 1) / lead=t
  have ht:t* lead=coP o (n+q.length- 1):=by rw[←hte];exact Rat.div_mul_cancel h0
  have hll:k/ l* l=k:=Rat.div_mul_cancel l0
  have hkl:k* (zl:Rat) / l=k/ l* zl:=by rw[Rat.div_def,Rat.div_def];grind
  rw[divR]
  obtain⟨k',k1,k2,k3⟩:=sl_ hl h0 l0 hq n (u.set n (coP o (n+q.length- 1) / lead)) (if coP o (n+q.length- 1) / lead=0 then o else rowM o (coP o (n+q.length- 1) / lead) q n q.length) (k* zl) (H+(g+1)) (fun e=>by
   rcases Rat.mul_eq_zero.1 e with e|e
   exact k0 e
   exact zl0 e) (fun i=>by
   rw[hte]
   have plain:∃z:Int,coP o i* (k* (zl:Rat))=(z:Rat)∧bl z.natAbs≤H+(g+1):=by
    obtain⟨z,z1,z2⟩:=ho i
    refine⟨z* zl,by rw[Rat.intCast_mul,←z1];grind,?_⟩
    have:=bx_ z2 zl2
    omega
   split
   exact plain
   rw[pw_]
   split
   obtain⟨z,z1,z2⟩:=ho i
   obtain⟨zj,y1,y2⟩:=hq (i- n)
   refine⟨z* zl- zt* zj,?_,?_⟩
   rw[Rat.intCast_sub,Rat.intCast_mul,Rat.intCast_mul,←z1,←zt1,←y1,←zl1,←ht];grind
   have:=sM_ (bx_ z2 zl2) (bx_ zt2 y2)
   omega
   exact plain) (fun i=>by
   rw[hte,ls_,hkl]
   split
   refine⟨zt,?_,by omega⟩
   rw[←zl1,←zt1,←ht]
   have:t* (k/ l* (lead* l))=t* lead* (k/ l* l):=by grind
   rw[this,hll]
   obtain⟨z,z1,z2⟩:=hu i
   refine⟨z* zl,by rw[Rat.intCast_mul,←z1];grind,?_⟩
   have:=bx_ z2 zl2
   omega)
  have e:H+(g+1)+n* (g+1)=H+(n+1) * (g+1):=by rw[Nat.succ_mul];omega
  rw[e] at k2 k3
  exact⟨k',k1,k2,k3⟩
theorem lp_{p q:List Rat}{h g:Nat}(hp:Ht p h)(hq:Ht q g)(h0:nz q):Ht (divP p q).1 (h+((trimQ p).length+1- (trimQ q).length) * (g+1))∧Ht (divP p q).2 (h+((trimQ p).length+1- (trimQ q).length) * (g+1)):=by
 obtain⟨k,k0,hp⟩:=hp.trim
 obtain⟨l,l0,hq⟩:=hq.trim
 have hl:=List.length_pos_iff.2 h0
 have hg:=bH_ (l:=q) (n:=(trimQ q).length- 1) (by omega)
 have hc:coP (trimQ q) ((trimQ q).length- 1)=leadP q:=by unfold coP;rw[List.getD_eq_getElem?_getD,hg];rfl
 have hkl:k/ l≠0:=fun e=>by
  have:k/ l* l=k:=Rat.div_mul_cancel l0
  rw[e] at this;grind
 obtain⟨k',k1,k2,k3⟩:=sl_ hc (bF_ h0) l0 hq ((trimQ p).length+1- (trimQ q).length) (List.replicate ((trimQ p).length+1- (trimQ q).length) 0) (trimQ p) k h k0 hp fun i=>by
  refine⟨0,?_,Nat.zero_le _⟩
  have:coP (List.replicate ((trimQ p).length+1- (trimQ q).length) (0:Rat)) i=0:=by
   unfold coP;rw[List.getD_eq_getElem?_getD,List.getElem?_replicate];split <;> rfl
  rw[this,Rat.zero_mul];rfl
 have hkl':k'/ l≠0:=fun e=>by
  have:k'/ l* l=k':=Rat.div_mul_cancel l0
  rw[e] at this;grind
 exact⟨(show Ht _ _ from⟨k'/ l,hkl',k2⟩).trim,(show Ht _ _ from⟨k',k1,k3⟩).trim⟩
theorem Ht.of{p:List Rat}{s:Nat}(h:bdL p s):Ht p (s+1+p.length* s):=by
 have hD:denL p 1≠0:=hn_ _ (by decide)
 have hb:=n7_ p 1 h
 have hd:=(et_ p 1).2
 rw[jh_] at hb
 refine⟨nQ (denL p 1),fun e=>hD (nQ_zero.1 e),fun i=>?_⟩
 by_cases hi:i< p.length
 have hm:=List.mem_of_getElem? (be_ hi)
 have h1:=gB_ (coP p i) _ (hd _ hm)
 have h2:=nI_ (coP p i) (denL p 1)
 have h3:=h _ hm
 rw[hu_] at h1
 by_cases hn:coP p i* nQ (denL p 1)< 0
 rw[if_pos hn] at h1
 refine⟨-(intC (coP p i) (denL p 1):Int),by rw[Rat.intCast_neg];grind,?_⟩
 rw[Int.natAbs_neg,Int.natAbs_natCast];omega
 rw[if_neg hn] at h1
 exact⟨(intC (coP p i) (denL p 1):Int),h1,by rw[Int.natAbs_natCast];omega⟩
 refine⟨0,?_,Nat.zero_le _⟩
 rw[cr_ (by omega),Rat.zero_mul];rfl
theorem Ht.derive{p:List Rat}{h:Nat}(H:Ht p h):Ht (ax_ p) (h+bl p.length):=by
 obtain⟨k,k0,H⟩:=H
 refine⟨k,k0,fun i=>?_⟩
 rw[bt_]
 by_cases hi:i+1< p.length
 obtain⟨z,z1,z2⟩:=H (i+1)
 refine⟨z* ((i+1:Nat):Int),by rw[Rat.intCast_mul,←z1];grind,?_⟩
 have:=bx_ z2 (show bl (((i+1:Nat):Int)).natAbs≤bl p.length by rw[Int.natAbs_natCast];exact b6_ (by omega))
 omega
 refine⟨0,?_,Nat.zero_le _⟩
 rw[cr_ (by omega),Rat.zero_mul,Rat.zero_mul];rfl
theorem Ht.quot{p:List Rat}{h:Nat}(H:Ht p h)(i j:Nat)(hj:coP p j≠0)(h1:1≤h):qs (coP p i/ coP p j)≤h:=by
 obtain⟨k,k0,H⟩:=H
 obtain⟨z,z1,z2⟩:=H i
 obtain⟨w,w1,w2⟩:=H j
 have w0:w≠0:=fun e=>by
  rw[e] at w1
  rcases Rat.mul_eq_zero.1 w1 with e|e
  exact hj e
  exact k0 e
 have w0':(w:Rat)≠0:=fun e=>w0 (by exact_mod_cast e)
 have e:coP p i/ coP p j=(z:Rat) / (w:Rat):=by
  have a1:coP p i/ coP p j* coP p j=coP p i:=Rat.div_mul_cancel hj
  have a2:(coP p i/ coP p j) * (w:Rat)=(z:Rat):=by rw[←w1,←z1];grind
  rw[←a2,Rat.mul_div_cancel w0']
 have hpos:0< w.natAbs:=by omega
 by_cases hw:0< w
 have e2:(z:Rat) / (w:Rat)=mkRat z w.natAbs:=by
  rw[eH_]
  show Rat.divInt (z* ((1:Nat):Int)) (((1:Nat):Int) * w)=_
  rw[←Rat.divInt_ofNat]
  congr 1 <;> omega
 rw[e,e2]
 exact cX_ hpos z2 w2
 have e2:(z:Rat) / (w:Rat)=mkRat (-z) w.natAbs:=by
  have e3:(z:Rat) / (w:Rat)=((-z:Int):Rat) / ((-w:Int):Rat):=by
   have a1:(z:Rat) / (w:Rat) * (w:Rat)=(z:Rat):=Rat.div_mul_cancel w0'
   rw[Rat.intCast_neg,Rat.intCast_neg]
   generalize (z:Rat) / (w:Rat)=m at *
   have a2: -(z:Rat)=m* -(w:Rat):=by grind
   rw[a2,Rat.mul_div_cancel (by grind)]
  rw[e3,eH_]
  show Rat.divInt (-z* ((1:Nat):Int)) (((1:Nat):Int) * -w)=_
  rw[←Rat.divInt_ofNat]
  congr 1 <;> omega
 rw[e,e2]
 exact cX_ hpos (by rwa[Int.natAbs_neg]) w2
theorem Ht.monic{p:List Rat}{h:Nat}(H:Ht p h)(h1:1≤h):bdL (a6_ p) h∧Ht (a6_ p) h:=by
 by_cases h0:nz p
 have hm:a6_ p=az_ p (1/ leadP p):=by unfold a6_;rw[if_neg h0]
 have hk:1/ leadP p≠0:=fun e=>by have:=Rat.div_mul_cancel (a:=1) (kV_ h0);rw[e] at this;grind
 refine⟨dG_ fun i=>?_,H.scale hk fun i=>by rw[hm,a5_]⟩
 have e:coP (a6_ p) i=coP p i/ coP p (dg p):=by
  rw[hm,a5_,(bN_ h0).2,Rat.div_def,Rat.div_def,Rat.one_mul]
 rw[e]
 exact H.quot i _ (bN_ h0).1.1 h1
 have e:a6_ p=[]:=by unfold a6_;rw[if_pos (Decidable.byContradiction h0)]
 rw[e]
 exact⟨fun q hq=>(by cases hq),.zero (fun i=>rfl) _⟩
theorem pl_(D d:Nat):∀(l:List Rat) (n:Nat),d∣n→(∀c∈l,d∣intC c D)→d∣numL D l n
 |[],_,h,_=>h
 |c::l,n,h,hc=>pl_ D d l _ (Nat.dvd_gcd h (hc c (List.mem_cons_self ..))) fun x hx=>hc x (List.mem_cons_of_mem _ hx)
theorem Ht.prim{p:List Rat}{h:Nat}(H:Ht p h)(h0:nz p)(h1:1≤h):bdL (primP p) h∧Ht (primP p) h:=by
 obtain⟨c,c0,hc⟩:=ga_ h0
 have hcc:∀i,coP (primP p) i=coP p i* (nQ (denL (trimQ p) 1) / nQ (numL (denL (trimQ p) 1) (trimQ p) 0)):=fun i=>by unfold primP;rw[a5_,bf_]
 have hD:denL (trimQ p) 1≠0:=hn_ _ (by decide)
 have hl:=List.length_pos_iff.2 h0
 have hg:=bH_ (l:=p) (n:=(trimQ p).length- 1) (by omega)
 have hm:=List.mem_of_getElem? hg
 have hdv:=(et_ (trimQ p) 1).2
 have hnd:=(gA_ (denL (trimQ p) 1) (trimQ p) 0).2
 have hdn:=pl_ (denL (trimQ p) 1)
 generalize hDe:denL (trimQ p) 1=D at *
 have hN:numL D (trimQ p) 0≠0:=fun e=>by
  have:=hnd _ hm
  rw[e] at this
  exact kW_ (hdv _ hm) hD (bF_ h0) (Nat.eq_zero_of_zero_dvd this)
 have hDq:nQ D≠0:=fun e=>hD (nQ_zero.1 e)
 have hNq:nQ (numL D (trimQ p) 0)≠0:=fun e=>hN (nQ_zero.1 e)
 refine⟨dG_ fun i=>?_,H.scale (c:=nQ D/ nQ (numL D (trimQ p) 0)) (fun e=>by
  have:nQ D/ nQ (numL D (trimQ p) 0) * nQ (numL D (trimQ p) 0)=nQ D:=Rat.div_mul_cancel hNq
  rw[e,Rat.zero_mul] at this
  exact hDq this.symm) hcc⟩
 obtain⟨k,k0,H⟩:=H
 -- k=D* (m/ n)
 generalize hr:k/ nQ D=r
 have hk:k=r* nQ D:=by rw[←hr,Rat.div_mul_cancel hDq]
 have r0:r≠0:=fun e=>by rw[e] at hk;grind
 have rn:r* (nQ r.den)=(r.num:Rat):=by
  have e:(r.num:Rat) / nQ r.den=r:=by
   rw[eH_]
   show Rat.divInt (r.num* ((1:Nat):Int)) (((1:Nat):Int) * r.den)=_
   rw[show r.num* ((1:Nat):Int)=r.num by omega,show((1:Nat):Int) * (r.den:Int)=r.den by omega,Rat.divInt_ofNat,Rat.mkRat_self]
  have:=Rat.div_mul_cancel (a:=(r.num:Rat)) (b:=nQ r.den) (fun e=>r.den_nz (nQ_zero.1 e))
  rwa[e] at this
 have co:∀j,j< (trimQ p).length→r.den∣intC (coP p j) D∧∃z:Int,(intC (coP p j) D* r.num.natAbs=z.natAbs* r.den∧bl z.natAbs≤h):=fun j hj=>by
  obtain⟨z,z1,z2⟩:=H j
  have hmj:=List.mem_of_getElem? (be_ hj)
  rw[bf_] at hmj
  have a1:=gB_ (coP p j) D (hdv _ hmj)
  have a2:intC (coP p j) D* r.num.natAbs=z.natAbs* r.den:=by
   have b1:coP p j* nQ D* (r.num:Rat)=(z:Rat) * nQ r.den:=by rw[←z1,hk,←rn];grind
   have b2:∃s:Int,coP p j* nQ D=(s:Rat)∧s.natAbs=intC (coP p j) D:=by
    rw[hu_] at a1
    by_cases hn:coP p j* nQ D< 0
    rw[if_pos hn] at a1
    exact⟨-(intC (coP p j) D:Int),by rw[Rat.intCast_neg];grind,by rw[Int.natAbs_neg,Int.natAbs_natCast]⟩
    rw[if_neg hn] at a1
    exact⟨(intC (coP p j) D:Int),a1,Int.natAbs_natCast _⟩
   obtain⟨s,s1,s2⟩:=b2
   rw[s1] at b1
   have b3:s* r.num=z* (r.den:Int):=by
    have:((s* r.num:Int):Rat)=((z* (r.den:Int):Int):Rat):=by rw[Rat.intCast_mul,Rat.intCast_mul];exact b1
    exact_mod_cast this
   have b4:=congrArg Int.natAbs b3
   rw[Int.natAbs_mul,Int.natAbs_mul,s2,Int.natAbs_natCast] at b4
   exact b4
  refine⟨?_,z,a2,z2⟩
  have hco:Nat.Coprime r.den r.num.natAbs:=Nat.coprime_comm.1 r.reduced
  exact hco.dvd_of_dvd_mul_right ⟨z.natAbs,by rw[a2,Nat.mul_comm]⟩
 rw[hcc]
 by_cases hi:i< (trimQ p).length
 obtain⟨z,a2,z2⟩:=(co i hi).2
 have hmi:=List.mem_of_getElem? (be_ hi)
 rw[bf_] at hmi
 have hdN:r.den∣numL D (trimQ p) 0:=hdn _ _ _ (Nat.dvd_zero _) fun c hcm=>by
  obtain⟨j,hj⟩:=List.mem_iff_getElem?.1 hcm
  have hjl:j< (trimQ p).length:=by
   by_cases h:j< (trimQ p).length
   exact h
   rw[List.getElem?_eq_none (by omega)] at hj;cases hj
  have e:=be_ hjl
  rw[hj,bf_] at e
  cases e
  exact(co j hjl).1
 have hNi:=hnd _ hmi
 have a1:=gB_ (coP p i) D (hdv _ hmi)
 have small:intC (coP p i) D/ numL D (trimQ p) 0≤z.natAbs:=by
  have q1:r.den≤numL D (trimQ p) 0:=Nat.le_of_dvd (by omega) hdN
  have q2:0< r.num.natAbs:=by
   have:r.num≠0:=fun e=>r0 (Rat.num_eq_zero.1 e)
   omega
  refine Nat.div_le_of_le_mul ?_
  calc intC (coP p i) D≤intC (coP p i) D* r.num.natAbs:=Nat.le_mul_of_pos_right _ q2
   _=z.natAbs* r.den:=a2
   _≤numL D (trimQ p) 0* z.natAbs:=by rw[Nat.mul_comm];exact Nat.mul_le_mul_right _ q1
 have hb:bl (intC (coP p i) D/ numL D (trimQ p) 0)≤h:=Nat.le_trans (b6_ small) z2
 have e1:absQ (coP p i* (nQ D/ nQ (numL D (trimQ p) 0)))=nQ (intC (coP p i) D/ numL D (trimQ p) 0):=by
  have e2:coP p i* (nQ D/ nQ (numL D (trimQ p) 0))=coP p i* nQ D/ nQ (numL D (trimQ p) 0):=by rw[Rat.div_def,Rat.div_def];grind
  have e3:nQ (intC (coP p i) D) / nQ (numL D (trimQ p) 0)=nQ (intC (coP p i) D/ numL D (trimQ p) 0):=by
   rw[oQ_ _ _ hN,mh_ _ _ hN hNi]
  have hpos:(0:Rat)< nQ (numL D (trimQ p) 0):=by
   rw[←num_pos];show 0< ((numL D (trimQ p) 0:Nat):Int);omega
  rw[e2,←e3,←a1,lC_,lC_,Rat.div_def,Rat.div_def,fC_]
  congr 1
  have:(0:Rat)< (nQ (numL D (trimQ p) 0))⁻¹:=Rat.inv_pos.2 hpos
  unfold ab;rw[if_neg (by grind)]
 rw[←l6_,e1]
 exact qs_nQ hb h1
 have:coP p i=0:=by rw[←bf_];exact cr_ (by omega)
 rw[this,Rat.zero_mul]
 exact Nat.le_trans (by decide:qs 0≤1) h1
def hG:Nat→Nat→Nat→Nat→Nat→Nat→Bool
 |0,_,_,_,_,_=>false
 |f+1,m,n,s,t,X=>if n=0 then decide (s≤X) else
  decide (2^ (m+1- n) * (s+2* t+1)≤137438953472) && (List.range n).all fun k=>hG f n k t (s+(m+1- n) * (t+1)) X
theorem nL_:∀f m n s t X (p q:List Rat),hG f m n s t X=true→(trimQ p).length=m→(trimQ q).length=n→bdL p s→bdL q t→Ht p s→Ht q t→1≤s→1≤t→p.length≤1000→q.length≤1000→X≤137438953472→
    ∃g,gcdM f p q=some g∧g.length≤1000∧Ht g X∧bdL g X
 |0,_,_,_,_,_,_,_,h,_,_,_,_,_,_,_,_,_,_,_=>by cases h
 |f+1,m,n,s,t,X,p,q,h,hm,hn,hp,hq,kp,kq,hs,ht,hp1,hq1,hX=>by
  rw[hG] at h
  rw[gcdM]
  by_cases h0:n=0
  rw[if_pos h0] at h
  have hsX:=of_decide_eq_true h
  have e:trimQ q=[]:=List.length_eq_zero_iff.1 (by omega)
  rw[if_pos e,if_pos (ev_ hp (by omega))]
  obtain⟨a,b⟩:=kp.monic hs
  exact⟨_,rfl,Nat.le_trans (fK_ p) hp1,b.mono hsX,fun x hx=>Nat.le_trans (a x hx) hsX⟩
  rw[if_neg h0] at h
  simp only[Bool.and_eq_true,decide_eq_true_eq,List.all_eq_true,List.mem_range] at h
  obtain⟨hL,hk⟩:=h
  have hq0:trimQ q≠[]:=fun e=>by rw[e] at hn;simp at hn;omega
  have hmp:=bP_ hp hs
  have hmq:=bP_ hq ht
  have hmono:2^ (m+1- n) * (mxL p+2* mxL q+1)≤2^ (m+1- n) * (s+2* t+1):=Nat.mul_le_mul_left _ (by omega)
  rw[if_neg hq0,if_pos (show okDiv p q from⟨by rw[hm,hn];omega,by omega,by omega⟩)]
  have hd:=(lp_ kp kq hq0).2
  rw[hm,hn] at hd
  obtain⟨b1,b2⟩:=hd.monic (by omega)
  have hlen:=(eZ_ (p:=p) (q:=q)).2
  have hml:=fK_ (divP p q).2
  have hkn:(trimQ (divP p q).2).length< n:=by rw[←hn];exact(cp_ p q hq0).2
  have hmn:(trimQ (a6_ (divP p q).2)).length=(trimQ (divP p q).2).length:=by
   by_cases hz:trimQ (divP p q).2=[]
   unfold a6_;rw[if_pos hz,hz];rfl
   unfold a6_;rw[if_neg hz]
   exact ez_ fun e=>by have:=Rat.div_mul_cancel (a:=1) (bF_ hz);rw[e] at this;grind
  exact nL_ f n _ t _ X q _ (hk _ hkn) hn hmn hq b1 kq b2 ht (by omega) hq1 (by omega) hX
def cB:Nat→Nat→Nat→Nat→Nat→Nat→Nat→Bool
 |0,_,_,_,_,_,_=>false
 |f+1,m,n,s,t,b,T=>if n=0 then true else
  decide (t≤T) && decide ((n+4) * b≤34359738368) && decide (2^ (m+1- n) * (s+2* t+1)≤137438953472) &&
   (List.range n).all fun k=>cB f n k t (s+(m+1- n) * (t+1)) (2^ (m+1- n) * (s+2* t+1)) T
theorem nc_:∀k f m n s t b T (last next:List Rat) (acc:List (List Rat)),cB k m n s t b T=true→(trimQ last).length=m→(trimQ next).length=n→next.length=n→bdL last s→Ht last s→Ht next t→bdL next b→1≤s→1≤t→1≤b→last.length≤1000→next.length≤1000→
    ∃out,ef_ f k last next acc=some out∧out.length≤acc.length+n∧∀q∈out,q∈acc∨(nz q∧q.length≤n∧bdL q T)
 |0,_,_,_,_,_,_,_,_,_,_,h,_,_,_,_,_,_,_,_,_,_,_,_=>by cases h
 |k+1,f,m,n,s,t,b,T,last,next,acc,h,hm,hn,hnl,hl,kl,kn,hnb,hs,ht,hb,hl1,hn1=>by
  rw[cB] at h
  rw[ef_]
  by_cases h0:n=0
  ·have e:trimQ next=[]:=List.length_eq_zero_iff.1 (by omega)
   rw[if_pos e]
   exact⟨acc,rfl,by omega,fun q hq=> .inl hq⟩
  rw[if_neg h0] at h
  simp only[Bool.and_eq_true,decide_eq_true_eq,List.all_eq_true,List.mem_range] at h
  obtain⟨⟨⟨hT,hP⟩,hL⟩,hk⟩:=h
  have hq0:trimQ next≠[]:=fun e=>by rw[e] at hn;simp at hn;omega
  obtain⟨p1,p2⟩:=kn.prim hq0 ht
  obtain⟨c,c0,hc⟩:=ga_ hq0
  obtain⟨d1,d2,_⟩:=dP_ hq0 (show c≠0 by grind) hc
  have hpn:(trimQ (primP next)).length=n:=by
   have a1:=List.length_pos_iff.2 d1
   have a2:=List.length_pos_iff.2 hq0
   unfold dg at d2;omega
  have hmb:=bP_ hnb hb
  have hml:=bP_ hl hs
  have hmp:=bP_ p1 ht
  have hpl:(primP next).length=n:=by
   unfold primP;unfold primP at hpn
   rw[←hpn];unfold az_;rw[aN_]
  have hmono:2^ (m+1- n) * (mxL last+2* mxL (primP next)+1)≤2^ (m+1- n) * (s+2* t+1):=Nat.mul_le_mul_left _ (by omega)
  have hmono2:(n+4) * mxL next≤(n+4) * b:=Nat.mul_le_mul_left _ hmb
  rw[if_neg hq0,if_pos (show mc_ next∧okDiv last (primP next)∧trimQ (primP next)≠[] from⟨⟨by rw[hnl];omega,by omega⟩,⟨by rw[hm,hpn];omega,by omega,by omega⟩,d1⟩)]
  have hd:=(lp_ kl p2 d1).2
  rw[hm,hpn] at hd
  have hbd:=(ex_ hl p1 hs ht d1 (by rw[hm,hpn];exact Nat.le_refl _)).2
  have hL1:1≤2^ (m+1- n) * (s+2* t+1):=Nat.mul_pos (Nat.two_pow_pos _) (by omega)
  have hm1:(-1:Rat)≠0:=by decide+kernel
  have hkn:(trimQ (az_ (divP last (primP next)).2 (-1))).length< n:=by rw[ez_ hm1,←hpn];exact(cp_ last _ d1).2
  have hsl:(az_ (divP last (primP next)).2 (-1)).length=(trimQ (az_ (divP last (primP next)).2 (-1))).length:=by unfold az_;rw[aN_]
  obtain⟨out,o1,o2,o3⟩:=nc_ k f n _ t _ _ T (primP next) (az_ (divP last (primP next)).2 (-1)) (acc++[primP next]) (hk _ hkn) hpn rfl hsl p1 p2 (hd.scale hm1 fun i=>a5_ _ _ i)
   (dG_ fun i=>by
    rw[a5_,show coP (divP last (primP next)).2 i* -1= -coP (divP last (primP next)).2 i by grind,dK_]
    exact bA_ hbd hL1 i) ht (by omega) hL1 (by omega) (by omega)
  refine⟨out,o1,?_,fun q hq=>?_⟩
  rw[List.length_append,List.length_singleton] at o2;omega
  rcases o3 q hq with h|⟨a,b',c'⟩
  rcases List.mem_append.1 h with h|h
  exact .inl h
  rw[List.mem_singleton.1 h]
  exact .inr ⟨d1,by omega,fun x hx=>Nat.le_trans (p1 x hx) hT⟩
  exact .inr ⟨a,by omega,c'⟩
theorem hG_all:((List.range 8).all fun m=>(List.range m).all fun n=>hG 9 m n 161 165 20000)=true:=by decide+kernel
theorem cB_all:((List.range 8).all fun m=>(List.range m).all fun n=>cB 9 m n 140168 140172 140172 20000000)=true:=by decide+kernel
theorem cb_(p:List Rat)(k:Rat):trimQ (az_ p k)=az_ p k:=aN_ _
theorem kf_(p:List Rat):trimQ (a6_ p)=a6_ p:=by
 unfold a6_;split
 rfl
 exact aN_ _
theorem i4_{p:List Rat}(h:nz p):(ax_ p).length< (trimQ p).length:=by
 have h0:=List.length_pos_iff.2 h
 have e:ax_ p=ax_ (trimQ p):=by
  have h1:trimQ (ax_ p)=ax_ p:=aN_ _
  have h2:trimQ (ax_ (trimQ p))=ax_ (trimQ p):=aN_ _
  rw[←h1,←h2]
  exact dw_ fun i=>by rw[bt_,bt_,bf_]
 have:=c0_ (trimQ p)
 rw[e];omega
theorem gV_{p:List Rat}{s g:Nat}(hl:(trimQ p).length≤7)(hb:bdL p s)(hs:1≤s)(hH:Ht p g):bdL (ax_ p) (s+4)∧Ht (ax_ p) (g+4):=by
 have e:∀i,coP (ax_ p) i=coP (ax_ (trimQ p)) i:=fun i=>by rw[bt_,bt_,bf_]
 constructor
 refine dG_ fun i=>?_
 rw[bt_]
 by_cases hi:i+1< (trimQ p).length
 have h1:=b3_ (coP p (i+1)) (nQ (i+1))
 have h2:=qs_nQ (n:=i+1) (k:=3) (bl_le (by omega)) (by decide)
 have h3:=bA_ hb hs (i+1)
 exact Nat.le_trans h1 (by omega)
 rw[←bf_,cr_ (show(trimQ p).length≤i+1 by omega),Rat.zero_mul]
 exact Nat.le_trans (by decide:qs 0≤1) (by omega)
 refine((hH.trim).derive.scale (c:=1) (r:=ax_ p) (by decide+kernel) fun i=>by rw[e];grind).mono ?_
 have:bl (trimQ p).length≤3:=bl_le (by omega)
 omega
theorem qE_{p:List Rat}(np:nz p)(hl:(trimQ p).length≤7)(hp:p.length≤1000)(hb:bdL p 20):∃s,sqfM 9 p=some s∧nz s∧s.length≤7∧Ht s 140168∧bdL s 140168:=by
 have hH:Ht p 161:=(Ht.of (s:=20) (p:=trimQ p) fun q hq=>hb q (bk_ hq)).untrim.mono (by omega)
 have hlp:=List.length_pos_iff.2 np
 have hdl:=i4_ np
 have hdt:trimQ (ax_ p)=ax_ p:=aN_ _
 have hd0:=gV_ hl hb (by decide) hH
 have hd:bdL (ax_ p) 165∧Ht (ax_ p) 165:=⟨fun x hx=>Nat.le_trans (hd0.1 x hx) (by decide),hd0.2⟩
 have hg:=hG_all
 simp only[List.all_eq_true,List.mem_range] at hg
 obtain⟨g,g1,g2,g3,g4⟩:=nL_ 9 _ _ 161 165 20000 p (ax_ p) (hg _ (by omega) _ (by rw[hdt];exact hdl)) rfl rfl (fun x hx=>Nat.le_trans (hb x hx) (by decide)) hd.1 hH hd.2 (by decide) (by decide) hp (by omega) (by decide)
 obtain⟨z0,z1,z2,a,b,z3⟩:=hY_ 9 _ _ _ g1 (.inl np)
 obtain⟨u,hu⟩:=z1
 obtain⟨m1,m2⟩:=cE_ p z0
 have hm:=eS_ (u:=u) (v:=[]) z0 (fun x=>by rw[hu x,aG_];exact(Rat.add_zero _).symm) (fun e=>absurd rfl e)
 have hs:∀x,evalP p x=evalP (divP p g).1 x* evalP g x:=fun x=>by
  have:=m1 x
  rw[hm x,aG_] at this
  rw[this];grind
 obtain⟨n1,n2⟩:=eB_ hs np
 have e1:=(dg_mul' n1 n2 hs).2.1
 have e2:=(d5_ n1).2.2
 have e3:=(d5_ n1).2.1
 have hlg:=List.length_pos_iff.2 z0
 have hls:=List.length_pos_iff.2 e3
 have h1:=bP_ hb (by decide)
 have h2:=bP_ g4 (by decide)
 have hpow:2^ ((trimQ p).length+1- (trimQ g).length)≤2^ 7:=Nat.pow_le_pow_right (by decide) (by omega)
 have hmul:=Nat.mul_le_mul hpow (show mxL p+2* mxL g+1≤50000 by omega)
 have hq:=(lp_ hH g3 z0).1
 have hrw:((trimQ p).length+1- (trimQ g).length) * (20000+1)≤7* (20000+1):=Nat.mul_le_mul_right _ (by omega)
 obtain⟨q1,q2⟩:=(hq.mono (show _≤140168 by omega)).monic (by decide)
 refine⟨a6_ (divP p g).1,?_,e3,?_,q2,q1⟩
 unfold sqfM
 rw[if_pos ⟨ev_ hb (by decide),by omega⟩,g1,Option.bind_some,if_pos ⟨z0,by omega,by omega,by omega⟩]
 have:=kf_ (divP p g).1
 rw[←this]
 unfold dg at e1 e2;omega
theorem m4_{p:List Rat}(np:nz p)(hl:(trimQ p).length≤7)(hp:p.length≤1000)(hb:bdL p 20):∃c,cR_ 9 p=some c∧okCnt c∧c.ch.length≤8∧(∀q∈c.ch,nz q∧q.length≤7∧bdL q 20000000)∧nz c.p∧c.p.length≤7∧bdL c.p 140168:=by
 obtain⟨s,s1,s2,s3,s4,s5⟩:=qE_ np hl hp hb
 have hst:=aI_ s
 have hsp:=List.length_pos_iff.2 s2
 obtain⟨p1,p2⟩:=s4.prim s2 (by decide)
 obtain⟨c,c0,hc⟩:=ga_ s2
 obtain⟨d1,d2,_⟩:=dP_ s2 (show c≠0 by grind) hc
 have hpn:(trimQ (primP s)).length=(trimQ s).length:=by
  have a1:=List.length_pos_iff.2 d1
  unfold dg at d2;omega
 have hpl:(primP s).length=(trimQ (primP s)).length:=by unfold primP;rw[cb_]
 have hdl:=i4_ s2
 have hdt:trimQ (ax_ s)=ax_ s:=aN_ _
 have hd:=gV_ (by omega) s5 (by decide) s4
 have hC:=cB_all
 simp only[List.all_eq_true,List.mem_range] at hC
 obtain⟨out,o1,o2,o3⟩:=nc_ 9 9 _ _ 140168 140172 140172 20000000 (primP s) (ax_ s) [primP s] (hC (trimQ s).length (by omega) (ax_ s).length hdl) hpn (by rw[hdt]) rfl p1 p2 hd.2 hd.1 (by decide) (by decide) (by decide) (by omega) (by omega)
 have hmx:=bP_ s5 (by decide)
 have hmul:=Nat.mul_le_mul (show s.length+4≤11 by omega) hmx
 have hst':e2_ 9 s=some out:=by
  unfold e2_
  rw[if_pos ⟨ev_ s5 (by decide),⟨by omega,by omega⟩,s2⟩]
  exact o1
 have hall:∀q∈out,nz q∧q.length≤7∧bdL q 20000000:=fun q hq=>by
  rcases o3 q hq with h|⟨a,b,d⟩
  rw[List.mem_singleton.1 h]
  exact⟨d1,by omega,fun x hx=>Nat.le_trans (p1 x hx) (by decide)⟩
  exact⟨a,by omega,d⟩
 rw[List.length_singleton] at o2
 have hok:okCnt ⟨s,out,chL (out.map sgI) 0 0⟩:=⟨fun q hq=>⟨(hall q hq).1,by have:=(hall q hq).2.1;omega⟩,by show out.length≤_;omega,rfl⟩
 refine⟨⟨s,out,chL (out.map sgI) 0 0⟩,?_,hok,by show out.length≤_;omega,hall,s2,s3,s5⟩
 unfold cR_
 rw[s1,Option.bind_some,hst',Option.bind_some,if_pos hok]
def gsz:Nat→List Rat→List Rat→Nat→Prop
 |0,_,_,_=>False
 |f+1,p,q,B=>bdL p B∧(nz q→bdL q B∧gsz f q (a6_ (divP p q).2) B)
theorem hG_top{f m n s t X:Nat}(h:hG f m n s t X=true)(h0:n≠0):t≤X:=by
 cases f with
 |zero=>cases h
 |succ f=>
  rw[hG,if_neg h0] at h
  simp only[Bool.and_eq_true,decide_eq_true_eq,List.all_eq_true,List.mem_range] at h
  have:=h.2 0 (by omega)
  cases f with
  |zero=>cases this
  |succ f=>
   rw[hG,if_pos rfl] at this
   exact of_decide_eq_true this
theorem ry_:∀f m n s t X (p q:List Rat),hG f m n s t X=true→(trimQ p).length=m→(trimQ q).length=n→bdL p s→bdL q t→Ht p s→Ht q t→1≤s→1≤t→s≤X→gsz f p q X
 |0,_,_,_,_,_,_,_,h,_,_,_,_,_,_,_,_,_=>by cases h
 |f+1,m,n,s,t,X,p,q,h,hm,hn,hp,hq,kp,kq,hs,ht,hX=>by
  have htop:=hG_top h
  rw[hG] at h
  refine⟨fun x hx=>Nat.le_trans (hp x hx) hX,fun hq0=>?_⟩
  have h0:n≠0:=by have:=List.length_pos_iff.2 hq0;omega
  have htX:=htop h0
  rw[if_neg h0] at h
  simp only[Bool.and_eq_true,decide_eq_true_eq,List.all_eq_true,List.mem_range] at h
  obtain⟨hL,hk⟩:=h
  have hd:=(lp_ kp kq hq0).2
  rw[hm,hn] at hd
  obtain⟨b1,b2⟩:=hd.monic (by omega)
  have hkn:(trimQ (divP p q).2).length< n:=by rw[←hn];exact(cp_ p q hq0).2
  have hmn:(trimQ (a6_ (divP p q).2)).length=(trimQ (divP p q).2).length:=by
   by_cases hz:trimQ (divP p q).2=[]
   unfold a6_;rw[if_pos hz,hz];rfl
   unfold a6_;rw[if_neg hz]
   exact ez_ fun e=>by have:=Rat.div_mul_cancel (a:=1) (bF_ hz);rw[e] at this;grind
  exact⟨fun x hx=>Nat.le_trans (hq x hx) htX,ry_ f n _ t _ X q _ (hk _ hkn) hn hmn hq b1 kq b2 ht (by omega) htX⟩
theorem g9_{p q:List Rat}{k l:Rat}(h:∀i,coP p i* k=coP q i* l):az_ p k=az_ q l:=by
 have h1:=cb_ p k
 have h2:=cb_ q l
 rw[←h1,←h2]
 exact dw_ fun i=>by rw[a5_,a5_,h]
theorem iB_(p:List Rat):a6_ (trimQ p)=a6_ p:=by
 unfold a6_
 rw[aN_,dn_]
 split
 rfl
 exact g9_ fun i=>by rw[bf_]
def denP:List Rat→Nat→Nat
 |[],k=>k
 |c::l,k=>denP l (k* c.den)
theorem pt_:∀(l:List Rat) (d k:Nat),d∣k→denL l d∣denP l k
 |[],_,_,h=>h
 |c::l,d,k,h=>pt_ l _ _ (Nat.lcm_dvd (Nat.dvd_trans h (Nat.dvd_mul_right _ _)) (Nat.dvd_mul_left _ _))
theorem n6_:∀(l:List Rat) {k:Nat},k≠0→denP l k≠0
 |[],_,h=>h
 |c::l,_,h=>n6_ l (Nat.mul_ne_zero h c.den_nz)
theorem ss_{s:Nat}:∀(l:List Rat) (k:Nat),bdL l s→bl (denP l k)≤bl k+l.length* s
 |[],k,_=>by simp[denP]
 |c::l,k,h=>by
  have h1:=ss_ l (k* c.den) fun q hq=>h q (List.mem_cons_of_mem _ hq)
  have h2:=eN_ k c.den
  have h3:=b8_ c
  have h4:=h c (List.mem_cons_self ..)
  rw[denP,List.length_cons,Nat.succ_mul]
  omega
def gcdN:List Rat→Nat→Nat
 |[],g=>g
 |c::l,g=>gcdN l (Nat.gcd g (absQ c).num.natAbs)
theorem rw_{D m:Nat}(hm:m≠0):∀(l:List Rat) (n:Nat),(∀c∈l,c.den∣D)→gcdN (l.map fun c=>c* nQ (D* m)) (n* m)=numL D l n* m
 |[],n,_=>rfl
 |c::l,n,h=>by
  have hc:=h c (List.mem_cons_self ..)
  have h1:=gB_ c (D* m) (Nat.dvd_trans hc (Nat.dvd_mul_right _ _))
  have h2:intC c (D* m)=intC c D* m:=by
   obtain⟨k,hk⟩:=hc
   have hpos:0< c.den:=c.den_pos
   have e1:D* m/ c.den=k* m:=by rw[hk,Nat.mul_assoc,Nat.mul_div_cancel_left _ hpos]
   have e2:D/ c.den=k:=by rw[hk,Nat.mul_div_cancel_left _ hpos]
   unfold intC
   rw[e1,e2,Nat.mul_assoc]
  rw[List.map_cons,gcdN,h1,h2]
  show gcdN _ (Nat.gcd (n* m) ((intC c D* m:Nat):Int).natAbs)=_
  rw[Int.natAbs_natCast,Nat.gcd_mul_right,numL]
  exact rw_ hm l _ fun x hx=>h x (List.mem_cons_of_mem _ hx)
theorem qw_(p:List Rat)(k:Rat):tabP p.length (fun i=>coP p i* k)=p.map fun c=>c* k:=by
 apply List.ext_getElem?
 intro i
 unfold tabP
 rw[List.getElem?_map,List.getElem?_map]
 by_cases hi:i< p.length
 rw[List.getElem?_range hi,be_ hi];rfl
 rw[List.getElem?_eq_none (by simp;omega),List.getElem?_eq_none (by omega)];rfl
theorem l1_{p:List Rat}{k:Rat}(hp:trimQ p=p)(hk:k≠0):az_ p k=p.map fun c=>c* k:=by
 unfold az_
 rw[qw_]
 have h1:=ez_ (p:=p) hk
 unfold az_ at h1
 rw[qw_,aN_,hp] at h1
 have h2:=fa_ (p.map fun c=>c* k)
 rw[h2,h1,List.take_of_length_le (by simp)]
theorem prim_doc{p:List Rat}(h:nz p):az_ (az_ (trimQ p) (nQ (denP (trimQ p) 1))) (1/ nQ (gcdN (az_ (trimQ p) (nQ (denP (trimQ p) 1))) 0))=primP p∧gcdN (az_ (trimQ p) (nQ (denP (trimQ p) 1))) 0≠0:=by
 have hD0:denL (trimQ p) 1≠0:=hn_ _ (by decide)
 have hK0:denP (trimQ p) 1≠0:=n6_ _ (by decide)
 obtain⟨m,hm⟩:=pt_ (trimQ p) 1 1 (Nat.dvd_refl 1)
 have hm0:m≠0:=fun e=>hK0 (by rw[hm,e,Nat.mul_zero])
 have hg:=rw_ hm0 (trimQ p) 0 (et_ (trimQ p) 1).2
 have hN0:numL (denL (trimQ p) 1) (trimQ p) 0≠0:=by
  intro e
  have h1:=(gA_ (denL (trimQ p) 1) (trimQ p) 0).2
  have h2:=(et_ (trimQ p) 1).2
  have hl:=List.length_pos_iff.2 h
  have hg:=bH_ (l:=p) (n:=(trimQ p).length- 1) (by omega)
  have hmm:=List.mem_of_getElem? hg
  have h3:=h1 _ hmm
  rw[e] at h3
  exact kW_ (h2 _ hmm) hD0 (bF_ h) (Nat.eq_zero_of_zero_dvd h3)
 have hmap:az_ (trimQ p) (nQ (denP (trimQ p) 1))=(trimQ p).map fun c=>c* nQ (denP (trimQ p) 1):=l1_ (aN_ p) (fun e=>hK0 (nQ_zero.1 e))
 rw[Nat.zero_mul,←hm,←hmap] at hg
 refine⟨?_,by rw[hg];exact Nat.mul_ne_zero hN0 hm0⟩
 rw[hg]
 unfold primP
 refine g9_ fun i=>?_
 rw[a5_,hm,←oP_,←oP_]
 have hmq:nQ m≠0:=fun e=>hm0 (nQ_zero.1 e)
 have hNq:nQ (numL (denL (trimQ p) 1) (trimQ p) 0)≠0:=fun e=>hN0 (nQ_zero.1 e)
 generalize nQ m=M at *
 generalize nQ (numL (denL (trimQ p) 1) (trimQ p) 0)=N at *
 generalize nQ (denL (trimQ p) 1)=D
 have hNM:N* M≠0:=fun e=>(Rat.mul_eq_zero.1 e).elim hNq hmq
 have e1:1/ (N* M) * (N* M)=1:=Rat.div_mul_cancel hNM
 have e2:D/ N* N=D:=Rat.div_mul_cancel hNq
 generalize 1/ (N* M)=A at *
 generalize D/ N=B at *
 have:A* N* M* (D- B* N)=0:=by rw[e2];grind
 have e3:D=B* N:=e2.symm
 rw[e3]
 grind
theorem boL_qs{lead:Rat}{s:Nat}(hl:qs lead≤s):∀(l:List Rat) (m:Rat),bdL l s→qs m≤2* s+1→qs (boL lead l m)≤2* s+1
 |[],m,_,h=>h
 |c::l,m,hb,h=>by
  rw[boL]
  refine boL_qs hl l _ (fun q hq=>hb q (List.mem_cons_of_mem _ hq)) (nF_ (fun x hx=>?_) (Nat.le_add_left 1 _))
  have h1:=hb c (List.mem_cons_self ..)
  have h2:=c8_ c lead
  rcases List.mem_cons.1 hx with rfl|hx
  exact h
  rw[List.mem_singleton.1 hx,l6_];omega
theorem lw_{p:List Rat}{s:Nat}(h:bdL p s)(hs:1≤s):qs (bc_ p)≤2* s+3:=by
 have h1:=boL_qs (hg_ h hs) ((trimQ p).take ((trimQ p).length- 1)) 0 (fun q hq=>h q (bk_ (List.mem_of_mem_take hq))) (Nat.le_trans (by decide:qs 0≤1) (Nat.le_add_left 1 _))
 have h2:=f0_ (boL (leadP p) ((trimQ p).take ((trimQ p).length- 1)) 0) 1
 have h3:=jH_
 unfold bc_;omega
structure CN (p:List Rat)(c:Cnt):Prop where
 np:nz p
 pl:p.length≤7
 pb:bdL p 20
 hc:cR_ 9 p=some c
 ok:okCnt c
 cl:c.ch.length≤8
 all:∀q∈c.ch,nz q∧q.length≤7∧bdL q 20000000
 sn:nz c.p
 sl:c.p.length≤7
 sb:bdL c.p 140168
 sz:gsz 9 p (ax_ p) 20000
 gb:∀g,gcdM 9 p (ax_ p)=some g→bdL g 20000∧g.length≤1000
theorem CN.ex{p:List Rat}(np:nz p)(hl:p.length≤7)(hb:bdL p 20):∃c,CN p c:=by
 have htl:=aI_ p
 obtain⟨c,h1,h2,h3,h4,h5,h6,h7⟩:=m4_ np (by omega) (by omega) hb
 have hH:Ht p 161:=(Ht.of (s:=20) (p:=trimQ p) fun q hq=>hb q (bk_ hq)).untrim.mono (by omega)
 have hlp:=List.length_pos_iff.2 np
 have hdl:=i4_ np
 have hdt:trimQ (ax_ p)=ax_ p:=aN_ _
 have hd0:=gV_ (by omega) hb (by decide) hH
 have hd:bdL (ax_ p) 165∧Ht (ax_ p) 165:=⟨fun x hx=>Nat.le_trans (hd0.1 x hx) (by decide),hd0.2⟩
 have hg:=hG_all
 simp only[List.all_eq_true,List.mem_range] at hg
 have hG:=hg (trimQ p).length (by omega) (ax_ p).length hdl
 have hb':bdL p 161:=fun x hx=>Nat.le_trans (hb x hx) (by decide)
 refine⟨c,np,hl,hb,h1,h2,h3,h4,h5,h6,h7,ry_ 9 _ _ 161 165 20000 p (ax_ p) hG rfl (by rw[hdt]) hb' hd.1 hH hd.2 (by decide) (by decide) (by decide),fun g hgm=>?_⟩
 obtain⟨g',g1,g2,g3,g4⟩:=nL_ 9 _ _ 161 165 20000 p (ax_ p) hG rfl (by rw[hdt]) hb' hd.1 hH hd.2 (by decide) (by decide) (by omega) (by omega) (by decide)
 rw[g1] at hgm
 cases hgm
 exact⟨g4,g2⟩
theorem CN.upto{p:List Rat}{c:Cnt}(h:CN p c){x:Rat}(hx:qs x≤1000000):okUp c x:=⟨h.ok,fun q hq=>by
 obtain⟨_,a,b⟩:=h.all q hq
 have:=bP_ b (by decide)
 have h2:=Nat.mul_le_mul a (show mxL q+qs x+1≤21000001 by omega)
 exact⟨by omega,by omega⟩⟩
theorem CN.below{p:List Rat}{c:Cnt}(h:CN p c){x:Rat}(hx:qs x≤1000000):okBe c x:=⟨h.upto hx,by
 have:=bP_ h.sb (by decide)
 have h2:=Nat.mul_le_mul h.sl (show mxL c.p+qs x+1≤21000001 by omega)
 have h3:=h.sl
 exact⟨by omega,by omega⟩⟩
def lag(v:List Rat):Nat→Rat
 |0=>0
 |m+1=>coP v m
theorem coP_line(v:List Rat)(c:Rat)(n:Nat):coP (mulP v [c,1]) n=coP v n* c+lag v n:=by
 have e:trimQ (mulP v [c,1])=trimQ (mulP [c,1] v):=cL_ fun x=>by rw[ar_,ar_];grind
 rw[trim_iff.1 e n,gm_]
 show coP (addL (eA_ v c) (0::addL (eA_ v 1) (0::[]))) n=_
 rw[cZ_,cB_]
 cases n with
 |zero=>rw[cv_];rfl
 |succ m=>
  rw[b1_,cZ_,cB_]
  have:coP [(0:Rat)] m=0:=by cases m <;> rfl
  rw[this];show _+(coP v m* 1+0)=_+coP v m;grind
theorem dO_(p:List Rat):(aL_ p).length≤p.length+1:=by
 have:=aI_ (tabP (p.length+1) fun i=>if i=0 then 0 else coP p (i- 1) / ((i:Nat):Int))
 simp at this
 unfold aL_;omega
theorem kh_(p q:List Rat):(subP p q).length≤max p.length q.length:=by
 have h1:=g5_ p (az_ q (-1))
 have h2:=bK_ q (-1)
 unfold subP;omega
theorem cN_{l:List Rat}{a b:Nat}(h:bdL l a)(hab:a≤b):bdL l b:=fun q hq=>Nat.le_trans (h q hq) hab
theorem bd_co'{p:List Rat}{s:Nat}(h:bdL p s)(hs:1≤s):∀i,qs (coP p i)≤s:=fun i=>bA_ h hs i
theorem ht_{p:List Rat}{k:Rat}{s:Nat}(h:bdL p s)(hs:1≤s):bdL (az_ p k) (s+qs k):=dG_ fun i=>by
 rw[a5_]
 have:=b3_ (coP p i) k
 have:=bd_co' h hs i
 omega
theorem sQ_{p:List Rat}{s:Nat}(h:bdL p s)(hs:1≤s):bdL (az_ p (-1)) s:=dG_ fun i=>by
 rw[a5_,show coP p i* (-1)= -coP p i by grind,dK_]
 exact bd_co' h hs i
theorem pK_{p q:List Rat}{s t:Nat}(hp:bdL p s)(hq:bdL q t)(hs:1≤s)(ht:1≤t):bdL (addP p q) (s+t+1):=dG_ fun i=>by
 rw[dc_]
 have:=f0_ (coP p i) (coP q i)
 have:=bd_co' hp hs i
 have:=bd_co' hq ht i
 omega
theorem lz_{p q:List Rat}{s t:Nat}(hp:bdL p s)(hq:bdL q t)(hs:1≤s)(ht:1≤t):bdL (subP p q) (s+t+1):=pK_ hp (sQ_ hq ht) hs ht
theorem g3_{p:List Rat}{s:Nat}(h:bdL p s):bdL (trimQ p) s:=fun q hq=>h q (bk_ hq)
def shP(i:Nat)(v:List Rat):List Rat:=List.replicate i 0++v
theorem di_(i:Nat)(v:List Rat):(shP i v).length=i+v.length:=by simp[shP]
theorem oo_(i:Nat)(v:List Rat):shP (i+1) v=0::shP i v:=by simp[shP,List.replicate_succ]
theorem h4_(v:List Rat)(x:Rat):∀i,evalP (shP i v) x=evalP v x* x^ i
 |0=>by simp[shP]
 |i+1=>by
  rw[oo_,aB_,h4_ v x i,Rat.pow_succ]
  grind
theorem i8_(v:List Rat)(i n:Nat):coP (shP i v) n=if n< i then 0 else coP v (n- i):=by
 induction i generalizing n with
 |zero=>simp[shP]
 |succ i ih=>
  rw[oo_]
  cases n with
  |zero=>rw[cv_,if_pos (by omega)]
  |succ n=>
   rw[b1_,ih,Nat.add_sub_add_right]
   by_cases h:n< i
   rw[if_pos h,if_pos (by omega)]
   rw[if_neg h,if_neg (by omega)]
def mR(p q:List Rat):Nat→List Rat
 |0=>[]
 |n+1=>addP (mR p q n) (shP n (az_ p (coP q n)))
theorem pj_(p q:List Rat)(x:Rat):∀n,n≤q.length→evalP (mR p q n) x=evalP p x* evalP (q.take n) x
 |0,_=>by simp[mR,aG_]
 |n+1,h=>by
  rw[mR,bi_,pj_ p q x n (by omega),h4_,aA_,cM_ q x n (by omega)]
  grind
theorem trim_mR(p q:List Rat):∀n,trimQ (mR p q n)=mR p q n
 |0=>rfl
 |n+1=>aN_ _
theorem lN_(p q:List Rat):trimQ (mulP p q)=mulP p q:=by
 unfold mulP
 split
 rfl
 exact aN_ _
theorem jO_(p q:List Rat):mR p q q.length=mulP p q:=by
 rw[←trim_mR,←lN_]
 refine cL_ fun x=>?_
 rw[pj_ p q x _ (Nat.le_refl _),List.take_length,ar_]
theorem oR_(p q:List Rat):∀n,(mR p q n).length≤n+p.length
 |0=>Nat.zero_le _
 |n+1=>by
  have h1:=oR_ p q n
  have h2:=g5_ (mR p q n) (shP n (az_ p (coP q n)))
  have h3:=bK_ p (coP q n)
  rw[di_] at h2
  rw[mR]
  omega
theorem mR_bd{p q:List Rat}{s t:Nat}(hp:bdL p s)(hq:bdL q t)(hs:1≤s)(ht:1≤t):∀n,bdL (mR p q n) (n* (s+t+1)+1)
 |0=>fun _ h=>by cases h
 |n+1=>dG_ fun i=>by
  rw[mR,dc_,i8_,Nat.succ_mul]
  have h1:=bd_co' (mR_bd hp hq hs ht n) (by omega) i
  have h2:=bd_co' hq ht n
  have h3:qs (if i< n then 0 else coP (az_ p (coP q n)) (i- n))≤s+t:=by
   split
   have:qs 0=1:=by decide
   omega
   rw[a5_]
   have:=b3_ (coP p (i- n)) (coP q n)
   have:=bd_co' hp hs (i- n)
   omega
  have:=f0_ (coP (mR p q n) i) (if i< n then 0 else coP (az_ p (coP q n)) (i- n))
  omega
theorem kT_{p:List Rat}{a:Rat}{d:Nat}:∀n,n≤d→mR p (shP d [a]) n=[]
 |0,_=>rfl
 |n+1,h=>by
  rw[mR,kT_ n (by omega)]
  refine trim_nil_iff.2 fun i=>?_
  have h1:coP (shP d [a]) n=0:=by rw[i8_,if_pos (by omega)]
  have h2:coP (tabP (max ([]:List Rat).length (shP n (az_ p (coP (shP d [a]) n))).length) fun i=>coP [] i+coP (shP n (az_ p (coP (shP d [a]) n))) i) i=coP [] i+coP (shP n (az_ p (coP (shP d [a]) n))) i:=by
   rw[←bf_];exact dc_ _ _ i
  rw[h2,gl_,i8_,a5_,h1]
  split <;> grind
theorem fL_{p:List Rat}{a:Rat}{d s:Nat}(hp:bdL p s)(hs:1≤s)(n:Nat)(hn:n≤d+1):bdL (mR p (shP d [a]) n) (s+qs a+2):=by
 by_cases h:n≤d
 rw[kT_ n h];exact fun _ h=>by cases h
 have:n=d+1:=by omega
 subst this
 refine dG_ fun i=>?_
 rw[mR,dc_,kT_ d (Nat.le_refl _),gl_,Rat.zero_add,i8_]
 split
 have:qs 0=1:=by decide
 omega
 rw[a5_,i8_,if_neg (by omega),Nat.sub_self,cv_]
 have:=b3_ (coP p (i- d)) a
 have:=bd_co' hp hs (i- d)
 omega
theorem coP_mono(d:List Rat)(a:Rat)(k j:Nat):coP (mulP d (shP k [a])) j=if j< k then 0 else coP d (j- k) * a:=by
 have e:mR d (shP k [a]) (shP k [a]).length=mulP d (shP k [a]):=jO_ _ _
 rw[←e,show(shP k [a]).length=k+1 by rw[di_];rfl,mR,dc_,kT_ k (Nat.le_refl _),gl_,Rat.zero_add,i8_,a5_,i8_,if_neg (Nat.lt_irrefl k),Nat.sub_self,cv_]
theorem oU_{v:List Rat}{n:Nat}(h:trimQ v=v)(hn:v.length=n+1):coP v n=leadP v:=by
 have:=bH_ (l:=v) (n:=n) (by rw[h];exact hn)
 rw[h,be_ (by omega)] at this
 exact Option.some.inj this
theorem step_len{v d:List Rat}(hv:trimQ v=v)(hd:trimQ d=d)(hd0:d≠[])(hl:d.length≤v.length):(subP v (mulP d (shP (v.length- d.length) [leadP v/ leadP d]))).length< v.length:=by
 have hdl:=List.length_pos_iff.2 hd0
 obtain⟨m,hm⟩:∃m,d.length=m+1:=⟨d.length- 1,by omega⟩
 obtain⟨n,hn⟩:∃n,v.length=n+1:=⟨v.length- 1,by omega⟩
 have hld:leadP d≠0:=bF_ (by rw[hd];exact hd0)
 have key:∀j,n≤j→coP (subP v (mulP d (shP (v.length- d.length) [leadP v/ leadP d]))) j=0:=fun j hj=>by
  rw[ed_,coP_mono,if_neg (by omega)]
  by_cases h:j=n
  subst h
  rw[oU_ hv hn,show j- (v.length- d.length)=m by omega,oU_ hd hm]
  grind
  rw[cr_ (p:=v) (by omega),cr_ (p:=d) (by omega)]
  grind
 have h1:=fb_ key
 have h2:trimQ (subP v (mulP d (shP (v.length- d.length) [leadP v/ leadP d])))=subP v (mulP d (shP (v.length- d.length) [leadP v/ leadP d])):=aN_ _
 rw[h2] at h1
 omega
theorem qs_(p q:List Rat):trimQ (subP p q)=subP p q:=aN_ _
theorem qA_{v d:List Rat}{b t:Nat}(hv:bdL v b)(hd:bdL d t)(hb:1≤b)(ht:1≤t)(hd0:d≠[])(k:Nat):qs (leadP v/ leadP d)≤b+t∧bdL (mulP d (shP k [leadP v/ leadP d])) (2* t+b+2)∧bdL (subP v (mulP d (shP k [leadP v/ leadP d]))) (2* b+2* t+3):=by
 have h1:=hg_ hv hb
 have h2:=hg_ hd ht
 have h3:=c8_ (leadP v) (leadP d)
 have h4:bdL (mulP d (shP k [leadP v/ leadP d])) (2* t+b+2):=by
  have:=fL_ (a:=leadP v/ leadP d) (d:=k) hd ht (k+1) (Nat.le_refl _)
  rw[show k+1=(shP k [leadP v/ leadP d]).length by rw[di_];rfl,jO_] at this
  exact cN_ this (by omega)
 exact⟨by omega,h4,cN_ (lz_ hv h4 hb (by omega)) (by omega)⟩
theorem sP_{v:List Rat}{b:Nat}(h:bdL v b)(hb:1≤b)(k:Nat):bdL (shP k v) b:=fun q hq=>by
 rcases List.mem_append.1 hq with h'|h'
 rw[List.eq_of_mem_replicate h']
 have:qs 0=1:=by decide
 omega
 exact h q h'
theorem eg_(p q:List Rat):trimQ (divP p q).1=(divP p q).1∧trimQ (divP p q).2=(divP p q).2:=⟨aN_ _,aN_ _⟩
theorem div_uniq{p q u v:List Rat}(hq:nz q)(h:∀x,evalP p x=evalP u x* evalP q x+evalP v x)(hv:(trimQ v).length< (trimQ q).length):trimQ u=(divP p q).1∧trimQ v=(divP p q).2:=by
 have hqp:=List.length_pos_iff.2 hq
 have hd:nz v→dg v< dg q:=fun hz=>by
  have:=List.length_pos_iff.2 hz
  unfold dg;omega
 have e:=eS_ hq h hd
 obtain⟨h1,_⟩:=cE_ p hq
 obtain⟨t1,t2⟩:=eg_ p q
 refine⟨?_,by rw[←eqv_trim.1 e];exact t2⟩
 rw[←t1]
 have hz:¬nz (subP u (divP p q).1):=fun hn=>by
  have hx:=dg_mul' hn hq (r:=[]) (fun x=>by
   have:=h x;have:=h1 x;have:=e x
   rw[bm_,aG_];grind)
  exact absurd rfl hx.1
 refine cL_ fun x=>?_
 have:=el_ hz x
 rw[bm_] at this
 grind
def powP(p:List Rat):Nat→List Rat
 |0=>cU_ 1
 |n+1=>mulP (powP p n) p
def pB(L:Nat):Nat→Nat
 |0=>1
 |n+1=>(n* L+1) * (pB L n+257)+1
theorem nD_(p q:List Rat):(mulP p q).length≤p.length+q.length:=by
 have h:=oR_ p q q.length
 rw[jO_] at h
 omega
theorem gx_(p:List Rat):∀n,(powP p n).length≤n* p.length+1
 |0=>by
  have h:=aI_ [1]
  have e:([1]:List Rat).length=1:=rfl
  show(trimQ [1]).length≤_
  omega
 |n+1=>by
  have h1:=gx_ p n
  have h2:=nD_ (powP p n) p
  rw[powP,Nat.succ_mul]
  omega
theorem pB_pos(L:Nat):∀n,1≤pB L n
 |0=>Nat.le_refl _
 |n+1=>Nat.le_add_left _ _
theorem q2_{p:List Rat}(h:bdL p 256):∀n,bdL (powP p n) (pB p.length n)
 |0=>fun q hq=>by
  have:=bk_ (l:=[1]) hq
  rw[List.mem_singleton.1 this]
  show qs 1≤1
  decide
 |n+1=>fun q hq=>by
  have h1:=fh_ (q2_ h n) h (pB_pos _ _) (by decide) q hq
  have h2:=Nat.mul_le_mul_right (pB p.length n+256+1) (gx_ p n)
  show qs q≤(n* p.length+1) * (pB p.length n+257)+1
  obtain⟨a,ha⟩:∃a,a=(powP p n).length* (pB p.length n+256+1):=⟨_,rfl⟩
  obtain⟨b,hb⟩:∃b,b=(n* p.length+1) * (pB p.length n+256+1):=⟨_,rfl⟩
  rw[←ha] at h1 h2
  rw[←hb] at h2
  rw[show pB p.length n+257=pB p.length n+256+1 from rfl,←hb]
  omega
def ofQ(p m:List Rat):Nat→Rat
 |0=>0
 |n+1=>ofQ p m n+coP p n* coP m n
theorem me_{p m:List Rat}{s t:Nat}(hp:bdL p s)(hm:bdL m t)(hs:1≤s)(ht:1≤t):∀n,qs (ofQ p m n)≤n* (s+t+1)+1
 |0=>by rw[Nat.zero_mul];exact(by decide:qs 0≤0+1)
 |n+1=>by
  have h1:=me_ hp hm hs ht n
  have h2:=f0_ (ofQ p m n) (coP p n* coP m n)
  have h3:=b3_ (coP p n) (coP m n)
  have h4:=bA_ hp hs n
  have h5:=bA_ hm ht n
  rw[ofQ,Nat.succ_mul];omega
def gK(f:List Rat):Nat→List Rat
 |0=>f
 |k+1=>mulP (gK f k) [0,1]
def moQ(f:List Rat)(s:Sp)(k:Nat):Rat:=evalP (aL_ (gK f k)) s.2- evalP (aL_ (gK f k)) s.1
def okMo(f:List Rat)(s:Sp)(k:Nat):Prop:=smL (gK f k)∧(gK f k).length≤1000000∧d3_ (aL_ (gK f k)) s.1∧d3_ (aL_ (gK f k)) s.2∧okMul (gK f k) [0,1]
def sqL(sq:Nat→Rat)(n:Nat):List Rat:=(List.range n).map sq
theorem eP_(sq:Nat→Rat)(n:Nat):sqL sq (n+1)=sqL sq n++[sq n]:=by simp[sqL,List.range_succ]
@[simp] theorem dS_ (sq:Nat→Rat)(n:Nat):(sqL sq n).length=n:=by simp[sqL]
theorem id_(p:List Rat)(h:trimQ p≠[]):∀n,trimQ (List.replicate n (0:Rat)++p)=List.replicate n 0++trimQ p
 |0=>rfl
 |n+1=>by
  rw[List.replicate_succ,List.cons_append,b9_,id_ p h n,if_neg (by simp[h]),List.cons_append]
theorem hy_(p:List Rat)(h:trimQ p=[]):∀n,trimQ (List.replicate n (0:Rat)++p)=[]
 |0=>h
 |n+1=>by
  rw[List.replicate_succ,List.cons_append,b9_,hy_ p h n];rfl
theorem ic_(p:List Rat)(n:Nat)(N:Nat)(h:n+(trimQ p).length≤N):(trimQ (List.replicate n (0:Rat)++p)).length≤N:=by
 by_cases e:trimQ p=[]
 rw[hy_ p e];exact Nat.zero_le _
 rw[id_ p e];simp;omega
def tmQ(p m:List Rat)(k:Nat):Rat:=ofQ (trimQ (List.replicate k 0++p)) m (trimQ (List.replicate k (0:Rat)++p)).length
theorem nj_{p:List Rat}{s:Nat}(h:bdL p s)(hs:1≤s)(n:Nat):bdL (List.replicate n 0++p) s:=fun q hq=>by
 rcases List.mem_append.1 hq with hq|hq
 rw[List.eq_of_mem_replicate hq]
 have:qs 0=1:=by decide
 omega
 exact h q hq
def ofP(m p:List Rat):Rat:=ofQ (trimQ p) m (trimQ p).length
def okOf(m p:List Rat):Prop:=p.length≤1000000∧(trimQ p).length≤m.length∧(p.length+2) * (mxL p+mxL m+1)≤137438953472
instance (m p:List Rat):Decidable (okOf m p):=inferInstanceAs (Decidable (_∧_∧_))
def ldN(m p:List Rat):Rat:=ofP m (mulP p p)
def ldA(m p:List Rat):Rat:=ofP m (mulP (mulP p p) [0,1]) / ldN m p
def ldr(m:List Rat):Nat→List Rat×List Rat×Rat
 |0=>([1],[],0)
 |k+1=>(subP (mulP (ldr m k).1 [-ldA m (ldr m k).1,1]) (az_ (ldr m k).2.1 (if k=0 then 0 else ldN m (ldr m k).1/ (ldr m k).2.2)),(ldr m k).1,ldN m (ldr m k).1)
def ldB(m:List Rat)(k:Nat):Rat:=if k=0 then 0 else ldN m (ldr m k).1/ (ldr m k).2.2
def ldAk(m:List Rat)(k:Nat):Rat:=ldA m (ldr m k).1
def okLd(m:List Rat)(k:Nat):Prop:=
 okMul (ldr m k).1 (ldr m k).1∧okOf m (mulP (ldr m k).1 (ldr m k).1)∧0< ldN m (ldr m k).1∧okMul (mulP (ldr m k).1 (ldr m k).1) [0,1]∧okOf m (mulP (mulP (ldr m k).1 (ldr m k).1) [0,1])∧
 qs (ofP m (mulP (mulP (ldr m k).1 (ldr m k).1) [0,1]))+qs (ldN m (ldr m k).1)≤549755813888∧qs (ldN m (ldr m k).1)+qs (ldr m k).2.2≤549755813888∧
 okMul (ldr m k).1 [-ldAk m k,1]∧(∀q∈(ldr m k).2.1,sm q)∧sm (ldB m k)∧(∀q∈mulP (ldr m k).1 [-ldAk m k,1],sm q)∧(∀q∈az_ (ldr m k).2.1 (ldB m k),sm q)∧
 (ldr m k).2.1.length≤1099511627776∧(mulP (ldr m k).1 [-ldAk m k,1]).length≤1099511627776∧(az_ (ldr m k).2.1 (ldB m k)).length≤1099511627776
instance (m:List Rat) (k:Nat):Decidable (okLd m k):=by unfold okLd;infer_instance
def okBs(g nx a c:List Rat):Prop:=okDiv g nx∧okMul (divP g nx).1 c∧(∀q∈a,sm q)∧(∀q∈mulP (divP g nx).1 c,sm q)∧a.length≤1099511627776∧(mulP (divP g nx).1 c).length≤1099511627776
instance (g nx a c:List Rat):Decidable (okBs g nx a c):=by unfold okBs;infer_instance
def bzL:Nat→List Rat→List Rat→List Rat→List Rat→Option (List Rat×List Rat)
 |0,_,_,_,_=>none
 |f+1,g,nx,a,c=>if trimQ nx=[] then some (g,a) else if okBs g nx a c∧nx.length≤1099511627776 then bzL f nx (divP g nx).2 c (subP a (mulP (divP g nx).1 c)) else none
def bzG(g:List Rat):List Rat:=az_ g (((1:Int):Rat) / leadP g)
def bzA(q g a:List Rat):List Rat:=(divP (az_ a (((1:Int):Rat) / leadP g)) (divP q (bzG g)).1).2
def bzB(p q g a:List Rat):List Rat:=(divP (subP (bzG g) (mulP (bzA q g a) p)) q).1
def okBz(p q g a:List Rat):Prop:=
 trimQ g≠[]∧g.length≤1099511627776∧a.length≤1099511627776∧(∀x∈g,sm x)∧(∀x∈a,sm x)∧qs (leadP g)≤68719476736∧okDiv q (bzG g)∧trimQ (bzG g)≠[]∧
 okDiv (az_ a (((1:Int):Rat) / leadP g)) (divP q (bzG g)).1∧trimQ (divP q (bzG g)).1≠[]∧okMul (bzA q g a) p∧(∀x∈bzG g,sm x)∧(∀x∈mulP (bzA q g a) p,sm x)∧
 (bzG g).length≤1099511627776∧(mulP (bzA q g a) p).length≤1099511627776∧okDiv (subP (bzG g) (mulP (bzA q g a) p)) q
instance (p q g a:List Rat):Decidable (okBz p q g a):=by unfold okBz;infer_instance
def tpV(p m:List Rat)(i:Nat):Nat→Rat
 |0=>0
 |j+1=>if i< j then tpV p m i j+coP p j* coP m (j- 1- i) else tpV p m i j
def tpI(p m:List Rat)(j i0 i:Nat):Rat:=if i< i0 then tpV p m i (j+1) else tpV p m i j
theorem tpI_0(p m:List Rat)(j:Nat):tpI p m j 0=fun i=>tpV p m i j:=rfl
theorem tpI_e(p m:List Rat)(j:Nat):tpI p m j j=fun i=>tpV p m i (j+1):=by
 funext i
 unfold tpI
 by_cases h:i< j
 rw[if_pos h]
 rw[if_neg h,tpV,if_neg h]
theorem kg_{d i:Nat}(f:Nat→Rat)(h:i< d):(tabP d f)[i]?=some (f i):=by simp[tabP,h]
theorem tabP_set(d i:Nat)(f g:Nat→Rat)(h:i< d)(hg:∀x,x≠i→f x=g x):(tabP d f).set i (g i)=tabP d g:=by
 refine List.ext_getElem? fun x=>?_
 rw[List.getElem?_set]
 by_cases e:i=x
 subst e;simp[tabP,h]
 rw[if_neg e]
 by_cases hx:x< d
 rw[kg_ f hx,kg_ g hx,hg x (fun e2=>e e2.symm)]
 simp[tabP,hx]
theorem tpI_set(p m:List Rat)(d j i:Nat)(hi:i< j)(hj:j≤d):(tabP d (tpI p m j i)).set i (tpV p m i j+coP p j* coP m (j- 1- i))=tabP d (tpI p m j (i+1)):=by
 have e:tpV p m i j+coP p j* coP m (j- 1- i)=tpI p m j (i+1) i:=by unfold tpI;rw[if_pos (Nat.lt_succ_self i),tpV,if_pos hi]
 rw[e]
 refine tabP_set d i _ _ (by omega) fun x hx=>?_
 unfold tpI
 by_cases h:x< i
 rw[if_pos h,if_pos (by omega)]
 rw[if_neg h,if_neg (by omega)]
theorem qu_{p m:List Rat}{s t:Nat}(hp:bdL p s)(hm:bdL m t)(hs:1≤s)(ht:1≤t)(i:Nat):∀j,qs (tpV p m i j)≤j* (s+t+1)+1
 |0=>by rw[Nat.zero_mul];exact(by decide:qs 0≤0+1)
 |j+1=>by
  have h1:=qu_ hp hm hs ht i j
  have h2:=f0_ (tpV p m i j) (coP p j* coP m (j- 1- i))
  have h3:=b3_ (coP p j) (coP m (j- 1- i))
  have h4:=bA_ hp hs j
  have h5:=bA_ hm ht (j- 1- i)
  rw[tpV,Nat.succ_mul]
  split <;> omega
def tpQ(p m:List Rat):List Rat:=tabP (p.length- 1) fun i=>tpV p m i p.length
theorem qx_(d:Nat)(p m:List Rat):tabP d (fun i=>tpV p m i 0)=List.replicate d 0:=by
 show(List.range d).map (fun _=>(0:Rat))=_
 rw[List.map_const',List.length_range]
def apR(p w f:List Rat):List Rat:=(divP (mulP w (divP f p).2) p).2
def nwA(T:List Rat)(n:Nat)(out:List Rat)(k:Nat):Nat→Rat
 |0=>coP T (n- k) * ((k:Int):Rat)
 |i+1=>nwA T n out k i+coP T (n- (i+1)) * coP out (k- (i+1))
def suL(T:List Rat)(n:Nat):Nat→List Rat
 |0=>[((n:Int):Rat)]
 |k+1=>suL T n k++[-(nwA T n (suL T n k) (k+1) k)]
theorem dh_(T:List Rat)(n:Nat):∀k,(suL T n k).length=k+1
 |0=>rfl
 |k+1=>by rw[suL,List.length_append,dh_ T n k];rfl
def okSu(T:List Rat)(n k:Nat):Prop:=qs (coP T (n- (k+1)))+qs (((k+1:Nat):Int):Rat)≤549755813888∧
 ∀i,i< k→qs (coP T (n- (i+1)))+qs (coP (suL T n k) (k+1- (i+1)))≤549755813888∧qs (nwA T n (suL T n k) (k+1) i)+qs (coP T (n- (i+1)) * coP (suL T n k) (k+1- (i+1)))≤549755813888
def enM(e:Rat):List Rat:=[-e,((1:Int):Rat)]
def krS(e m:List Rat)(k:Nat):Nat→Rat
 |0=>0
 |j+1=>krS e m k j+coP e j* coP m (j+k)
def krE(m:List Rat)(n:Nat):Nat→List Rat
 |0=>List.replicate (n+1) 0++[((1:Int):Rat)]
 |k+1=>(krE m n k).set (n- k) (-(krS (krE m n k) m k (n+2) / coP m n))
theorem fN_(m:List Rat)(n:Nat):∀k,(krE m n k).length=n+2
 |0=>by simp[krE]
 |k+1=>by rw[krE,List.length_set,fN_ m n k]
def okKr(m:List Rat)(n k:Nat):Prop:=(∀j,j< n+2→qs (coP (krE m n k) j)+qs (coP m (j+k))≤549755813888∧qs (krS (krE m n k) m k j)+qs (coP (krE m n k) j* coP m (j+k))≤549755813888)∧
 qs (krS (krE m n k) m k (n+2))+qs (coP m n)≤549755813888
theorem dvE_add(p q:List Rat)(x:Rat):dvE (addP p q) x=dvE p x+dvE q x:=by
 rw[←pp_];exact ln_ (fun i=>by rw[dc_,cZ_]) x
theorem sj_(a x:Rat):dvE (cU_ a) x=0:=by
 show dvE (trimQ [a]) x=0
 rw[ln_ (q:=[a]) (bf_ [a]) x,cn_,aG_]
 show(0:Rat)+0* x=0
 grind
theorem po_(q:List Rat)(x:Rat):∀p,dvE (compP q p) x=dvE p (evalP q x) * dvE q x
 |[]=>by show(0:Rat)=0* _;grind
 |a::l=>by
  rw[compP,dvE_add,sj_,i0_,po_ q x l,dq_,cn_];grind
theorem cm_(u v x:Rat):evalP [u,v] x=u+v* x:=by rw[aB_,aB_,aG_];grind
theorem dvE_uv(u v x:Rat):dvE [u,v] x=v:=by
 rw[cn_,cn_,aB_,aG_]
 show(0* x+v)+(0+(0:Rat) * x) * x=v
 grind
def itP(a b:Rat)(p:List Rat):Rat:=evalP (aL_ p) b- evalP (aL_ p) a
theorem hC_{p q:List Rat}(h:∀i,coP p i=coP q i)(x:Rat):evalP (aL_ p) x=evalP (aL_ q) x:=
 b4_ (fun i=>by rw[bM_,bM_,h]) x
theorem iL_{p q:List Rat}(h:Eqv p q)(a b:Rat):itP a b p=itP a b q:=by
 have:=trim_iff.1 (eqv_trim.1 h)
 unfold itP;rw[hC_ this,hC_ this]
theorem rs_(a b:Rat)(p q:List Rat):itP a b (addP p q)=itP a b p+itP a b q:=by
 have e:∀x,evalP (aL_ (addP p q)) x=evalP (aL_ p) x+evalP (aL_ q) x:=fun x=>by
  rw[←bi_]
  refine b4_ (fun i=>?_) x
  rw[dc_ (aL_ p),bM_,bM_,bM_,dc_]
  by_cases h:i=0
  rw[if_pos h,if_pos h,if_pos h];grind
  rw[if_neg h,if_neg h,if_neg h];grind
 unfold itP;rw[e,e];grind
theorem eT_(a b:Rat)(p:List Rat)(k:Rat):itP a b (az_ p k)=itP a b p* k:=by
 have e:∀x,evalP (aL_ (az_ p k)) x=evalP (aL_ p) x* k:=fun x=>by
  rw[←aA_]
  refine b4_ (fun i=>?_) x
  rw[a5_ (aL_ p),bM_,bM_,a5_]
  by_cases h:i=0
  rw[if_pos h,if_pos h];grind
  rw[if_neg h,if_neg h];grind
 unfold itP;rw[e,e];grind
theorem n2_(p:List Rat)(x:Rat):dvE (aL_ p) x=evalP p x:=by
 rw[←br_,←bh_,i5_,bh_]
theorem nQ_pos'(n:Nat):(((n+1:Nat):Int):Rat)≠0:=fun e=>by
 have h:(((n+1:Nat):Int):Rat)=((0:Int):Rat):=e
 have:=Rat.intCast_inj.1 h
 omega
theorem fl_(G:List Rat)(y:Rat):evalP (aL_ (ax_ G)) y=evalP G y- coP G 0:=by
 rw[show evalP G y- coP G 0=evalP (subP G (cU_ (coP G 0))) y by rw[bm_,eX_]]
 refine b4_ (fun i=>?_) y
 rw[bM_,ed_,sw_]
 cases i with
 |zero=>rw[if_pos rfl,if_pos rfl];grind
 |succ i=>
  rw[if_neg (by omega),if_neg (by omega),bt_,Nat.add_sub_cancel,Rat.mul_div_cancel (nQ_pos' i)]
  grind
theorem rr_(c r:Rat)(p:List Rat):itP (c- r) (c+r) p=r* itP (-1) 1 (compP [c,r] p):=by
 have e:Eqv (ax_ (compP [c,r] (aL_ p))) (az_ (compP [c,r] p) r):=fun x=>by
  rw[br_,po_,n2_,aA_,dq_,dvE_uv]
 have h1:=eT_ (-1) 1 (compP [c,r] p) r
 rw[←iL_ e] at h1
 have h2:itP (-1) 1 (ax_ (compP [c,r] (aL_ p)))=itP (c- r) (c+r) p:=by
  unfold itP
  rw[fl_,fl_,dq_,dq_,cm_,cm_,show c+r* 1=c+r by grind,show c+r* -1=c- r by grind]
  grind
 rw[←h2,h1];grind
theorem dH_(x:Rat):∀n,evalP (gK [1] n) x=x^ n
 |0=>by rw[Rat.pow_zero];show evalP [1] x=1;rw[aB_,aG_];grind
 |n+1=>by rw[gK,ar_,dH_ x n,cm_,Rat.pow_succ];grind
theorem ofQ_it{a b:Rat}{m:List Rat}{N:Nat}(hm:∀i,i< N→coP m i=itP a b (gK [1] i))(p:List Rat):∀n,n≤N→n≤p.length→ofQ p m n=itP a b (p.take n)
 |0,_,_=>by
  show(0:Rat)=itP a b []
  unfold itP
  have e:∀x,evalP (aL_ []) x=0:=fun x=>eF_ (fun i=>by
   rw[bM_];split
   rfl
   show(0:Rat) / _=0;grind) x
  rw[e,e];grind
 |n+1,h1,h2=>by
  rw[ofQ,ofQ_it hm p n (by omega) (by omega),hm n (by omega),iL_ (p:=p.take (n+1)) (q:=addP (p.take n) (az_ (gK [1] n) (coP p n))) (fun x=>by
   rw[cM_ _ _ _ (by omega),bi_,aA_,dH_];grind),rs_,eT_]
  grind
theorem mf_{a b:Rat}{m:List Rat}{N:Nat}(hm:∀i,i< N→coP m i=itP a b (gK [1] i)){p:List Rat}(h:(trimQ p).length≤N):ofP m p=itP a b p:=by
 unfold ofP
 rw[ofQ_it hm _ _ h (Nat.le_refl _),List.take_length]
 exact iL_ (fun x=>bh_ p x) a b
theorem iA_(p q:List Rat)(n:Nat)(hp:p.length≤n+1)(hq:q.length≤n+1):(mulP p q).length≤2* n+1:=by
 by_cases h:p=[]
 subst h;unfold mulP;simp
 by_cases h2:q=[]
 subst h2;unfold mulP;simp
 have:=gC_ p q h
 omega
theorem mulP_line_len'(v:List Rat)(u w:Rat):(mulP v [u,w]).length≤v.length+1:=by
 by_cases h:v=[]
 subst h;unfold mulP;simp
 have:=gC_ v [u,w] h;simpa using this
theorem fj_(m:List Rat):∀k,(ldr m k).1.length≤k+1∧(ldr m k).2.1.length≤k+1
 |0=>⟨by simp[ldr],by simp[ldr]⟩
 |k+1=>by
  obtain⟨h1,h2⟩:=fj_ m k
  refine⟨?_,Nat.le_trans h1 (by omega)⟩
  show(subP (mulP (ldr m k).1 [-ldA m (ldr m k).1,1]) (az_ (ldr m k).2.1 (if k=0 then 0 else ldN m (ldr m k).1/ (ldr m k).2.2))).length≤_
  have a:=kh_ (mulP (ldr m k).1 [-ldA m (ldr m k).1,1]) (az_ (ldr m k).2.1 (if k=0 then 0 else ldN m (ldr m k).1/ (ldr m k).2.2))
  have b:=bK_ (ldr m k).2.1 (if k=0 then 0 else ldN m (ldr m k).1/ (ldr m k).2.2)
  have c:(mulP (ldr m k).1 [-ldA m (ldr m k).1,1]).length≤k+1+1:=by
   by_cases h:(ldr m k).1=[]
   rw[h];unfold mulP;simp
   have:=gC_ (ldr m k).1 [-ldA m (ldr m k).1,1] h
   simp only[List.length_cons,List.length_nil] at this
   omega
  omega
structure Mv (m m0:List Rat)(c r:Rat)(N:Nat):Prop where
 r0:r≠0
 h:∀i,i< N→coP m i=itP (c- r) (c+r) (gK [1] i)
 h0:∀i,i< N→coP m0 i=itP (-1) 1 (gK [1] i)
theorem Mv.of{m m0:List Rat}{c r:Rat}{N:Nat}(H:Mv m m0 c r N){p q:List Rat}{k:Rat}(hp:(trimQ p).length≤N)(hq:(trimQ q).length≤N)(e:∀y,evalP p (c+r* y)=k* evalP q y):ofP m p=r* k* ofP m0 q:=by
 rw[mf_ H.h hp,mf_ H.h0 hq,rr_,iL_ (p:=compP [c,r] p) (q:=az_ q k) (fun y=>by rw[dq_,cm_,e,aA_];grind),eT_]
 grind
theorem Mv.ldr{m m0:List Rat}{c r:Rat}{N:Nat}(H:Mv m m0 c r N):∀k,2* k≤N→(∀j,j< k→ldN m0 (ldr m0 j).1≠0)→
    (∀y,evalP (ldr m k).1 (c+r* y)=r^ k* evalP (ldr m0 k).1 y)∧(∀y,evalP (Go.Abs.ldr m k).2.1 (c+r* y) * r=r^ k* evalP (Go.Abs.ldr m0 k).2.1 y)∧(k≠0→(Go.Abs.ldr m k).2.2* r=r^ k* r^ k* (Go.Abs.ldr m0 k).2.2)
 |0,_,_=>⟨fun y=>by rw[Rat.pow_zero];show evalP [1] _=1* evalP [1] y;rw[aB_,aG_,aB_,aG_];grind,fun y=>by rw[Rat.pow_zero];show(0:Rat) * r=1* 0;grind,fun h=>absurd rfl h⟩
 |k+1,hk,hn=>by
  obtain⟨i1,i2,i3⟩:=Mv.ldr H k (by omega) fun j hj=>hn j (by omega)
  have hl:=(fj_ m k).1
  have hl0:=(fj_ m0 k).1
  have t1:∀p:List Rat,p.length≤k+1→(trimQ (mulP p p)).length≤N∧(trimQ (mulP (mulP p p) [0,1])).length≤N:=fun p hp=>by
   have a:=iA_ p p k hp hp
   have b:=aI_ (mulP p p)
   have c:=aI_ (mulP (mulP p p) [0,1])
   have d:=mulP_line_len' (mulP p p) 0 1
   omega
  have eN:ldN m (Go.Abs.ldr m k).1=r* (r^ k* r^ k) * ldN m0 (Go.Abs.ldr m0 k).1:=H.of (t1 _ hl).1 (t1 _ hl0).1 fun y=>by rw[ar_,ar_,i1];grind
  have hN0:=hn k (by omega)
  have hrk:r^ k≠0:=pow_ne H.r0 k
  have eA:ldA m (Go.Abs.ldr m k).1=c+r* ldA m0 (Go.Abs.ldr m0 k).1:=by
   have e1:ofP m (mulP (mulP (Go.Abs.ldr m k).1 (Go.Abs.ldr m k).1) [0,1])=r* (r^ k* r^ k) * ofP m0 (addP (az_ (mulP (Go.Abs.ldr m0 k).1 (Go.Abs.ldr m0 k).1) c) (az_ (mulP (mulP (Go.Abs.ldr m0 k).1 (Go.Abs.ldr m0 k).1) [0,1]) r)):=
    H.of (t1 _ hl).2 (by
     have a:=g5_ (az_ (mulP (Go.Abs.ldr m0 k).1 (Go.Abs.ldr m0 k).1) c) (az_ (mulP (mulP (Go.Abs.ldr m0 k).1 (Go.Abs.ldr m0 k).1) [0,1]) r)
     have b:=bK_ (mulP (Go.Abs.ldr m0 k).1 (Go.Abs.ldr m0 k).1) c
     have d:=bK_ (mulP (mulP (Go.Abs.ldr m0 k).1 (Go.Abs.ldr m0 k).1) [0,1]) r
     have e:=iA_ _ _ k hl0 hl0
     have f:=mulP_line_len' (mulP (Go.Abs.ldr m0 k).1 (Go.Abs.ldr m0 k).1) 0 1
     have g:=aI_ (addP (az_ (mulP (Go.Abs.ldr m0 k).1 (Go.Abs.ldr m0 k).1) c) (az_ (mulP (mulP (Go.Abs.ldr m0 k).1 (Go.Abs.ldr m0 k).1) [0,1]) r))
     omega) fun y=>by
      rw[ar_,ar_,i1,cm_,bi_,aA_,aA_,ar_,ar_,ar_,cm_];grind
   have e2:ofP m0 (addP (az_ (mulP (Go.Abs.ldr m0 k).1 (Go.Abs.ldr m0 k).1) c) (az_ (mulP (mulP (Go.Abs.ldr m0 k).1 (Go.Abs.ldr m0 k).1) [0,1]) r))=c* ldN m0 (Go.Abs.ldr m0 k).1+r* ofP m0 (mulP (mulP (Go.Abs.ldr m0 k).1 (Go.Abs.ldr m0 k).1) [0,1]):=by
    have hA:=t1 _ hl0
    have a:=g5_ (az_ (mulP (Go.Abs.ldr m0 k).1 (Go.Abs.ldr m0 k).1) c) (az_ (mulP (mulP (Go.Abs.ldr m0 k).1 (Go.Abs.ldr m0 k).1) [0,1]) r)
    have b:=bK_ (mulP (Go.Abs.ldr m0 k).1 (Go.Abs.ldr m0 k).1) c
    have d:=bK_ (mulP (mulP (Go.Abs.ldr m0 k).1 (Go.Abs.ldr m0 k).1) [0,1]) r
    have e:=iA_ _ _ k hl0 hl0
    have f:=mulP_line_len' (mulP (Go.Abs.ldr m0 k).1 (Go.Abs.ldr m0 k).1) 0 1
    have g:=aI_ (addP (az_ (mulP (Go.Abs.ldr m0 k).1 (Go.Abs.ldr m0 k).1) c) (az_ (mulP (mulP (Go.Abs.ldr m0 k).1 (Go.Abs.ldr m0 k).1) [0,1]) r))
    rw[mf_ H.h0 (by omega),rs_,eT_,eT_]
    unfold ldN
    rw[mf_ H.h0 hA.1,mf_ H.h0 hA.2]
    grind
   unfold ldA
   rw[e1,e2,eN]
   have h1:r* (r^ k* r^ k)≠0:=fun e=>by
    rcases Rat.mul_eq_zero.1 e with e|e
    exact H.r0 e
    rcases Rat.mul_eq_zero.1 e with e|e <;> exact hrk e
   generalize r* (r^ k* r^ k)=z at *
   generalize ldN m0 (Go.Abs.ldr m0 k).1=w at *
   grind
  have eB:(if k=0 then 0 else ldN m (Go.Abs.ldr m k).1/ (Go.Abs.ldr m k).2.2)=r* r* (if k=0 then 0 else ldN m0 (Go.Abs.ldr m0 k).1/ (Go.Abs.ldr m0 k).2.2):=by
   by_cases h:k=0
   rw[if_pos h,if_pos h];grind
   rw[if_neg h,if_neg h,eN]
   have h3:=i3 h
   have h4:(Go.Abs.ldr m0 k).2.2≠0:=by
    cases k with
    |zero=>exact absurd rfl h
    |succ j=>exact hn j (by omega)
   have hr0:=H.r0
   have h5:(Go.Abs.ldr m k).2.2≠0:=fun e=>by
    rw[e] at h3
    have:r^ k* r^ k* (Go.Abs.ldr m0 k).2.2≠0:=fun e=>by
     rcases Rat.mul_eq_zero.1 e with e|e
     rcases Rat.mul_eq_zero.1 e with e|e <;> exact hrk e
     exact h4 e
    grind
   generalize ldN m0 (Go.Abs.ldr m0 k).1=w at *
   generalize (Go.Abs.ldr m0 k).2.2=v at *
   generalize (Go.Abs.ldr m k).2.2=u at *
   generalize r^ k=s at *
   have h6:u=s* s* v/ r:=by rw[←h3];exact(Rat.mul_div_cancel hr0).symm
   rw[h6]
   grind
  refine⟨fun y=>?_,fun y=>?_,fun _=>?_⟩
  show evalP (subP (mulP (Go.Abs.ldr m k).1 [-ldA m (Go.Abs.ldr m k).1,1]) (az_ (Go.Abs.ldr m k).2.1 _)) _=_* evalP (subP (mulP (Go.Abs.ldr m0 k).1 [-ldA m0 (Go.Abs.ldr m0 k).1,1]) (az_ (Go.Abs.ldr m0 k).2.1 _)) y
  rw[bm_,bm_,ar_,ar_,aA_,aA_,cm_,cm_,i1,eA,eB,Rat.pow_succ]
  have h2:=i2 y
  generalize evalP (Go.Abs.ldr m k).2.1 (c+r* y)=w at *
  generalize evalP (Go.Abs.ldr m0 k).2.1 y=w0 at *
  generalize (if k=0 then 0 else ldN m0 (Go.Abs.ldr m0 k).1/ (Go.Abs.ldr m0 k).2.2)=B at *
  have:w* (r* r* B)=r^ k* w0* r* B:=by rw[←h2];grind
  rw[this];grind
  show evalP (Go.Abs.ldr m k).1 (c+r* y) * r=_* evalP (Go.Abs.ldr m0 k).1 y
  rw[i1,Rat.pow_succ];grind
  show ldN m (Go.Abs.ldr m k).1* r=_* ldN m0 (Go.Abs.ldr m0 k).1
  rw[eN,Rat.pow_succ];grind
theorem kc_:∀(f k:Nat) (last next:List Rat) (acc out:List (List Rat)),ef_ f k last next acc=some out→out.length≤acc.length+(trimQ next).length
 |_,0,_,_,_,_,h=>by cases h
 |f,k+1,last,next,acc,out,h=>by
  rw[ef_] at h
  split at h
  cases h;omega
  ·rename_i h0
   split at h
   ·rename_i h1
    have ih:=kc_ f k _ _ _ _ h
    obtain⟨c,c0,hc⟩:=ga_ h0
    obtain⟨d1,d2,_⟩:=dP_ h0 (show c≠0 by grind) hc
    have hm1:(-1:Rat)≠0:=by decide+kernel
    have hlt:=(cp_ last _ d1).2
    have a1:=List.length_pos_iff.2 d1
    have a2:=List.length_pos_iff.2 h0
    rw[ez_ hm1] at ih
    unfold dg at d2
    rw[List.length_append,List.length_singleton] at ih
    omega
   cases h
theorem oe_{e:Int}(he:e=1∨e= -1):∀(l:List Int) (t:Int),(t=1∨t= -1)→(∀s∈l,-1≤s∧s≤1)→(t::l).getLast?=some e→chL l 0 t % 2=if t=e then 0 else 1
 |[],t,ht,_,h=>by
  have:t=e:=by simpa using h
  rw[if_pos this];rfl
 |s::l,t,ht,hs,h=>by
  have h0:=hs s (List.mem_cons_self ..)
  by_cases hz:s≠0
  have ih:=oe_ he l s (by omega) (fun x hx=>hs x (List.mem_cons_of_mem _ hx)) (by rwa[List.getLast?_cons_cons] at h)
  rw[chL,if_pos hz,je_]
  by_cases h1:s=e
  rw[if_pos h1] at ih
  by_cases h2:s= -t
  rw[if_pos h2,if_neg (by omega)];omega
  rw[if_neg h2,if_pos (by omega)];omega
  rw[if_neg h1] at ih
  by_cases h2:s= -t
  rw[if_pos h2,if_pos (by omega)];omega
  rw[if_neg h2,if_neg (by omega)];omega
  have hz0:s=0:=by omega
  rw[chL,if_neg hz]
  refine oe_ he l t ht (fun x hx=>hs x (List.mem_cons_of_mem _ hx)) ?_
  rw[List.getLast?_cons_cons,List.getLast?_cons] at h
  rw[List.getLast?_cons]
  cases hl:l.getLast? with
  |none=>rw[hl] at h;simp at h;omega
  |some y=>rw[hl] at h;exact h
theorem Ch.last{u:List Rat}{L:List (List Rat)}(H:Ch u L):∃e:Int,(e=1∨e= -1)∧∀x,((u::L).map (sgE x)).getLast?=some e:=by
 induction H with
 | @one u c hc hu=>
  have h:=Ch.sg (.one hc hu) 0
  have hb:=dZ_ 0 u
  refine⟨sgE 0 u,by have:=(h 0).2;omega,fun x=>?_⟩
  show some (sgE x u)=_
  rw[(h x).1]
 | @pair u v _ ih=>
  obtain⟨e,he,h⟩:=ih
  refine⟨e,he,fun x=>?_⟩
  rw[List.map_cons,List.map_cons,List.getLast?_cons_cons]
  exact h x
 | @step u v w L a c q _ _ _ _ ih=>
  obtain⟨e,he,h⟩:=ih
  refine⟨e,he,fun x=>?_⟩
  rw[List.map_cons,List.map_cons,List.getLast?_cons_cons]
  exact h x
theorem Ch.drop{u v:List Rat}{L:List (List Rat)}{k:Rat}(H:Ch u (v::L))(hk:0< k)(hd:∀x,evalP v x=k* dvE u x){x y:Rat}(hxy:x≤y)(hs:evalP u x* evalP u y< 0):chV (u::v::L) y+1≤chV (u::v::L) x:=by
 have h1:=H.fall hk hd hxy
 obtain⟨e,he,h⟩:=H.last
 have key:∀z,sgE z u≠0→chV (u::v::L) z % 2=if sgE z u=e then 0 else 1:=fun z hz=>by
  have hb:=dZ_ z u
  unfold chV
  rw[List.map_cons,chL,if_pos hz,if_neg (by omega)]
  exact oe_ he _ _ (by omega) (fun s hs=>by
   obtain⟨q,_,rfl⟩:=List.mem_map.1 hs
   exact dZ_ z q) (by have:=h z;rwa[List.map_cons] at this)
 have hx0:sgE x u≠0∧sgE y u≠0∧sgE x u≠sgE y u:=by
  rcases dA_ x u with⟨a,b⟩|⟨a,b⟩|⟨a,b⟩<;> rcases dA_ y u with⟨a',b'⟩|⟨a',b'⟩|⟨a',b'⟩
  have:=Rat.mul_pos b b';grind
  omega
  rw[b'] at hs;grind
  omega
  have:=Rat.mul_pos (show 0< -evalP u x by grind) (show 0< -evalP u y by grind);grind
  rw[b'] at hs;grind
  rw[b] at hs;grind
  rw[b] at hs;grind
  rw[b] at hs;grind
 have kx:=key x hx0.1
 have ky:=key y hx0.2.1
 have bx:=dZ_ x u
 have bY:=dZ_ y u
 by_cases hh:sgE x u=e
 rw[if_pos hh] at kx;rw[if_neg (by omega)] at ky;omega
 rw[if_neg hh] at kx;rw[if_pos (by omega)] at ky;omega
theorem m2_{f:Nat}{p:List Rat}{c:Cnt}(h:cR_ f p=some c)(hp:nz p):∃u L k,c.ch=u::L∧0< k∧(∀x,evalP u x=evalP c.p x* k)∧Ch u L∧L.length≤dg c.p∧(∀v L',L=v::L'→∃c':Rat,0< c'∧∀x,evalP v x=c'* dvE u x)∧(∀d,nz d→Dv d c.p→Dv d (ax_ c.p)→dg d=0):=by
 unfold cR_ at h
 cases hs:sqfM f p with
 |none=>rw[hs] at h;cases h
 |some s=>
  rw[hs,Option.bind_some] at h
  cases hc:e2_ f s with
  |none=>rw[hc] at h;cases h
  |some ch=>
   rw[hc,Option.bind_some] at h
   split at h
   ·rename_i hok
    cases h
    obtain⟨s0,s1⟩:=lT_ hs hp
    unfold e2_ at hc
    split at hc
    have hlen:=kc_ _ _ _ _ _ _ hc
    obtain⟨L,e,hL⟩:=e0_ _ _ _ _ _ _ hc
    obtain⟨k,k0,hk⟩:=ga_ s0
    have hkne:k≠0:=by grind
    have hu0:nz (primP s):=(dP_ s0 hkne hk).1
    have hk1:k* (1/ k)=1:=by have:=Rat.div_mul_cancel (a:=1) hkne;grind
    have hk2:0< 1/ k:=by
     obtain⟨m,m0,m1⟩:=part 1 (d:=k) (by decide+kernel) k0
     rw[←m1,Rat.mul_div_cancel hkne];exact m0
    obtain⟨c1,c2⟩:=hL.ch hu0 fun d d0 d1 d2=>s1 d d0 (d1.scale (k:=1/ k) fun x=>by rw[hk];generalize 1/ k=m at *;grind) d2
    refine⟨primP s,L,k,e,k0,hk,c1,?_,fun v L' hv=>?_,s1⟩
    rw[e] at hlen
    have h1:=aI_ (ax_ s)
    have h2:=c0_ (trimQ s)
    have h3:trimQ (ax_ s)=trimQ (ax_ (trimQ s)):=dw_ fun i=>by rw[bt_,bt_,bf_]
    have h4:=aI_ (ax_ (trimQ s))
    simp only[List.length_append,List.length_singleton] at hlen
    rw[h3] at hlen
    show L.length≤dg s
    unfold dg
    omega
    obtain⟨c',c0,hv'⟩:=c2 v L' hv
    refine⟨c'* (1/ k),Rat.mul_pos c0 hk2,fun x=>?_⟩
    rw[hv',br_,dvE_k hk x]
    generalize 1/ k=m at *
    grind
    cases hc
   cases h
theorem chL_nn(l:List Int):0≤chL l 0 0∧chL l 0 0≤(l.length:Int)- 1∨l=[]:=by
 cases l with
 |nil=>exact .inr rfl
 |cons s l=>
  refine .inl ?_
  have h0:=f5_ (s::l) 0 0
  by_cases hs:s≠0
  rw[chL,if_pos hs,if_neg (by omega)]
  have:=f5_ l 0 s
  simp only[List.length_cons];omega
  rw[chL,if_neg hs]
  have:=f5_ l 0 0
  simp only[List.length_cons];omega
theorem ni_{k:Rat}(hk:k≠0)(lead:Rat):∀(l:List Rat) (m:Rat),boL (lead* k) (l.map (· * k)) m=boL lead l m
 |[],m=>rfl
 |c::l,m=>by
  rw[List.map_cons,boL,boL,ni_ hk lead l,show c* k/ (lead* k)=c/ lead by
   by_cases h:lead=0
   subst h;grind
   grind]
theorem np_{p q:List Rat}{k:Rat}(hk:k≠0)(h:∀x,evalP q x=evalP p x* k):trimQ q=(trimQ p).map (· * k):=by
 have e:∀i,coP q i=coP p i* k:=fun i=>by
  have:=trim_iff.1 (cL_ (p:=q) (q:=az_ p k) fun x=>by rw[h,aA_]) i
  rw[this,a5_]
 have e2:trimQ q=trimQ (az_ (trimQ p) k):=dw_ fun i=>by rw[a5_,bf_,e]
 rw[e2,cb_,l1_ (aN_ p) hk]
theorem nh_{p q:List Rat}{k:Rat}(hk:k≠0)(hp:nz p)(h:∀x,evalP q x=evalP p x* k):bc_ q=bc_ p:=by
 have e:=np_ hk h
 unfold bc_
 rw[(dP_ hp hk h).2.2,e,List.length_map,←List.map_take,ni_ hk]
end Go.Abs
