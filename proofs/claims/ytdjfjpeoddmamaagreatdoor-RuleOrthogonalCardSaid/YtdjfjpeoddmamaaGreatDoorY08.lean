/- Part Y08 of the proof. -/
import Derived.Test.YtdjfjpeoddmamaaGreatDoorY07
import Derived.Lib.ItoaNum
set_option linter.all false
namespace Go.Abs
def HtF(f:Nat→Rat)(k:Rat)(h:Nat):Prop:=∀i,∃z:Int,f i* k=(z:Rat)∧bl z.natAbs≤h
def Ht(p:List Rat)(h:Nat):Prop:=∃k:Rat,k≠0∧HtF (coP p) k h
theorem HtF.mono{f:Nat→Rat}{k:Rat}{h h':Nat}(H:HtF f k h)(hh:h≤h'):HtF f k h':=fun i=>by
 obtain⟨z,z1,z2⟩:=H i
 exact⟨z,z1,Nat.le_trans z2 hh⟩
theorem Ht.mono{p:List Rat}{h h':Nat}(H:Ht p h)(hh:h≤h'):Ht p h':=by
 obtain⟨k,k0,H⟩:=H
 exact⟨k,k0,H.mono hh⟩
theorem Ht.scale{p r:List Rat}{h:Nat}{c:Rat}(H:Ht p h)(hc:c≠0)(e:∀i,coP r i=coP p i* c):Ht r h:=by
 obtain⟨k,k0,H⟩:=H
 refine⟨k/ c,fun e=>?_,fun i=>?_⟩
 have:k/ c* c=k:=Rat.div_mul_cancel hc
 rw[e] at this;grind
 obtain⟨z,z1,z2⟩:=H i
 refine⟨z,?_,z2⟩
 have:k/ c* c=k:=Rat.div_mul_cancel hc
 rw[e,←z1];grind
theorem Ht.trim{p:List Rat}{h:Nat}(H:Ht p h):Ht (trimQ p) h:=H.scale (c:=1) (by decide+kernel) fun i=>by rw[bm_];grind
theorem Ht.untrim{p:List Rat}{h:Nat}(H:Ht (trimQ p) h):Ht p h:=H.scale (c:=1) (by decide+kernel) fun i=>by rw[bm_];grind
theorem Ht.zero{p:List Rat}(e:∀i,coP p i=0)(h:Nat):Ht p h:=⟨1,by decide+kernel,fun i=>⟨0,by rw[e];decide+kernel,Nat.zero_le _⟩⟩
theorem oR_(o:List Rat)(a:Rat)(q:List Rat)(i n:Nat):∀k,coP (rowM o a q i k) n=if i≤n∧n< i+k∧n< o.length then coP o n- a* coP q (n- i) else coP o n
 |0=>by rw[rowM,if_neg (by omega)]
 |k+1=>by
  rw[rowM,gG_,oR_ o a q i n k,dg_]
  by_cases h:n=i+k∧i+k< o.length
  rw[if_pos h,if_pos (by omega),gj_ o a q i k (i+k) (by omega),h.1,show i+k- i=k by omega]
  rw[if_neg h]
  by_cases h2:i≤n∧n< i+k∧n< o.length
  rw[if_pos h2,if_pos (by omega)]
  rw[if_neg h2,if_neg (by omega)]
theorem sl_{x y:Int}{k:Nat}(hx:bl x.natAbs≤k)(hy:bl y.natAbs≤k):bl (x- y).natAbs≤k+1:=by
 rw[Int.sub_eq_add_neg]
 exact jk_ hx (by rwa[Int.natAbs_neg])
theorem r2_{q:List Rat}{lead l:Rat}{g:Nat}(hl:coP q (q.length- 1)=lead)(h0:lead≠0)(l0:l≠0)(hq:HtF (coP q) l g):∀(c:Nat) (u o:List Rat) (k:Rat) (H:Nat),k≠0→HtF (coP o) k H→HtF (coP u) (k/ l) H→
    ∃k',k'≠0∧HtF (coP (divR q lead c u o).1) (k'/ l) (H+c* (g+1))∧HtF (coP (divR q lead c u o).2) k' (H+c* (g+1))
 |0,u,o,k,H,k0,ho,hu=>⟨k,k0,by rw[Nat.zero_mul];exact hu,by rw[Nat.zero_mul];exact ho⟩
 |n+1,u,o,k,H,k0,ho,hu=>by
  obtain⟨zl,zl1,zl2⟩:=hq (q.length- 1)
  rw[hl] at zl1
  have zl0:(zl:Rat)≠0:=fun e=>by
   rw[e] at zl1
   rcases Rat.mul_eq_zero.1 zl1 with e|e
   exact h0 e
   exact l0 e
  obtain⟨zt,zt1,zt2⟩:=ho (n+q.length- 1)
  generalize hte:coP o (n+q.length- 1) / lead=t
  have ht:t* lead=coP o (n+q.length- 1):=by rw[←hte];exact Rat.div_mul_cancel h0
  have hll:k/ l* l=k:=Rat.div_mul_cancel l0
  have hkl:k* (zl:Rat) / l=k/ l* zl:=by rw[Rat.div_def,Rat.div_def];grind
  rw[divR]
  obtain⟨k',k1,k2,k3⟩:=r2_ hl h0 l0 hq n (u.set n (coP o (n+q.length- 1) / lead)) (if coP o (n+q.length- 1) / lead=0 then o else rowM o (coP o (n+q.length- 1) / lead) q n q.length) (k* zl) (H+(g+1)) (fun e=>by
   rcases Rat.mul_eq_zero.1 e with e|e
   exact k0 e
   exact zl0 e) (fun i=>by
   rw[hte]
   have plain:∃z:Int,coP o i* (k* (zl:Rat))=(z:Rat)∧bl z.natAbs≤H+(g+1):=by
    obtain⟨z,z1,z2⟩:=ho i
    refine⟨z* zl,by rw[Rat.intCast_mul,←z1];grind,?_⟩
    have:=bu_ z2 zl2
    omega
   split
   exact plain
   rw[oR_]
   split
   obtain⟨z,z1,z2⟩:=ho i
   obtain⟨zj,y1,y2⟩:=hq (i- n)
   refine⟨z* zl- zt* zj,?_,?_⟩
   rw[Rat.intCast_sub,Rat.intCast_mul,Rat.intCast_mul,←z1,←zt1,←y1,←zl1,←ht];grind
   have:=sl_ (bu_ z2 zl2) (bu_ zt2 y2)
   omega
   exact plain) (fun i=>by
   rw[hte,kY_,hkl]
   split
   refine⟨zt,?_,by omega⟩
   rw[←zl1,←zt1,←ht]
   have:t* (k/ l* (lead* l))=t* lead* (k/ l* l):=by grind
   rw[this,hll]
   obtain⟨z,z1,z2⟩:=hu i
   refine⟨z* zl,by rw[Rat.intCast_mul,←z1];grind,?_⟩
   have:=bu_ z2 zl2
   omega)
  have e:H+(g+1)+n* (g+1)=H+(n+1) * (g+1):=by rw[Nat.succ_mul];omega
  rw[e] at k2 k3
  exact⟨k',k1,k2,k3⟩
theorem kV_{p q:List Rat}{h g:Nat}(hp:Ht p h)(hq:Ht q g)(h0:nz q):Ht (divP p q).1 (h+((trimQ p).length+1- (trimQ q).length) * (g+1))∧Ht (divP p q).2 (h+((trimQ p).length+1- (trimQ q).length) * (g+1)):=by
 obtain⟨k,k0,hp⟩:=hp.trim
 obtain⟨l,l0,hq⟩:=hq.trim
 have hl:=List.length_pos_iff.2 h0
 have hg:=bH_ (l:=q) (n:=(trimQ q).length- 1) (by omega)
 have hc:coP (trimQ q) ((trimQ q).length- 1)=leadP q:=by unfold coP;rw[List.getD_eq_getElem?_getD,hg];rfl
 have hkl:k/ l≠0:=fun e=>by
  have:k/ l* l=k:=Rat.div_mul_cancel l0
  rw[e] at this;grind
 obtain⟨k',k1,k2,k3⟩:=r2_ hc (b9_ h0) l0 hq ((trimQ p).length+1- (trimQ q).length) (List.replicate ((trimQ p).length+1- (trimQ q).length) 0) (trimQ p) k h k0 hp fun i=>by
  refine⟨0,?_,Nat.zero_le _⟩
  have:coP (List.replicate ((trimQ p).length+1- (trimQ q).length) (0:Rat)) i=0:=by
   unfold coP;rw[List.getD_eq_getElem?_getD,List.getElem?_replicate];split <;> rfl
  rw[this,Rat.zero_mul];rfl
 have hkl':k'/ l≠0:=fun e=>by
  have:k'/ l* l=k':=Rat.div_mul_cancel l0
  rw[e] at this;grind
 exact⟨(show Ht _ _ from⟨k'/ l,hkl',k2⟩).trim,(show Ht _ _ from⟨k',k1,k3⟩).trim⟩
theorem Ht.of{p:List Rat}{s:Nat}(h:bdL p s):Ht p (s+1+p.length* s):=by
 have hD:denL p 1≠0:=jc_ _ (by decide)
 have hb:=ny_ p 1 h
 have hd:=(fH_ p 1).2
 rw[kc_] at hb
 refine⟨nQ (denL p 1),fun e=>hD (nQ_zero.1 e),fun i=>?_⟩
 by_cases hi:i< p.length
 have hm:=List.mem_of_getElem? (bd_ hi)
 have h1:=hW_ (coP p i) _ (hd _ hm)
 have h2:=m5_ (coP p i) (denL p 1)
 have h3:=h _ hm
 rw[hw_] at h1
 by_cases hn:coP p i* nQ (denL p 1)< 0
 rw[if_pos hn] at h1
 refine⟨-(intC (coP p i) (denL p 1):Int),by rw[Rat.intCast_neg];grind,?_⟩
 rw[Int.natAbs_neg,Int.natAbs_natCast];omega
 rw[if_neg hn] at h1
 exact⟨(intC (coP p i) (denL p 1):Int),h1,by rw[Int.natAbs_natCast];omega⟩
 refine⟨0,?_,Nat.zero_le _⟩
 rw[cn_ (by omega),Rat.zero_mul];rfl
theorem Ht.derive{p:List Rat}{h:Nat}(H:Ht p h):Ht (aY_ p) (h+bl p.length):=by
 obtain⟨k,k0,H⟩:=H
 refine⟨k,k0,fun i=>?_⟩
 rw[ch_]
 by_cases hi:i+1< p.length
 obtain⟨z,z1,z2⟩:=H (i+1)
 refine⟨z* ((i+1:Nat):Int),by rw[Rat.intCast_mul,←z1];grind,?_⟩
 have:=bu_ z2 (show bl (((i+1:Nat):Int)).natAbs≤bl p.length by rw[Int.natAbs_natCast];exact bR_ (by omega))
 omega
 refine⟨0,?_,Nat.zero_le _⟩
 rw[cn_ (by omega),Rat.zero_mul,Rat.zero_mul];rfl
theorem Ht.quot{p:List Rat}{h:Nat}(H:Ht p h)(i j:Nat)(hj:coP p j≠0)(h1:1≤h):qs (coP p i/ coP p j)≤h:=by
 obtain⟨k,k0,H⟩:=H
 obtain⟨z,z1,z2⟩:=H i
 obtain⟨w,w1,w2⟩:=H j
 have w0:w≠0:=fun e=>by
  rw[e] at w1
  rcases Rat.mul_eq_zero.1 w1 with e|e
  exact hj e
  exact k0 e
 have w0':(w:Rat)≠0:=fun e=>w0 (by exact_mod_cast e)
 have e:coP p i/ coP p j=(z:Rat) / (w:Rat):=by
  have a1:coP p i/ coP p j* coP p j=coP p i:=Rat.div_mul_cancel hj
  have a2:(coP p i/ coP p j) * (w:Rat)=(z:Rat):=by rw[←w1,←z1];grind
  rw[←a2,Rat.mul_div_cancel w0']
 have hpos:0< w.natAbs:=by omega
 by_cases hw:0< w
 have e2:(z:Rat) / (w:Rat)=mkRat z w.natAbs:=by
  rw[ep_]
  show Rat.divInt (z* ((1:Nat):Int)) (((1:Nat):Int) * w)=_
  rw[←Rat.divInt_ofNat]
  congr 1 <;> omega
 rw[e,e2]
 exact cU_ hpos z2 w2
 have e2:(z:Rat) / (w:Rat)=mkRat (-z) w.natAbs:=by
  have e3:(z:Rat) / (w:Rat)=((-z:Int):Rat) / ((-w:Int):Rat):=by
   have a1:(z:Rat) / (w:Rat) * (w:Rat)=(z:Rat):=Rat.div_mul_cancel w0'
   rw[Rat.intCast_neg,Rat.intCast_neg]
   generalize (z:Rat) / (w:Rat)=m at *
   have a2: -(z:Rat)=m* -(w:Rat):=by grind
   rw[a2,Rat.mul_div_cancel (by grind)]
  rw[e3,ep_]
  show Rat.divInt (-z* ((1:Nat):Int)) (((1:Nat):Int) * -w)=_
  rw[←Rat.divInt_ofNat]
  congr 1 <;> omega
 rw[e,e2]
 exact cU_ hpos (by rwa[Int.natAbs_neg]) w2
theorem Ht.monic{p:List Rat}{h:Nat}(H:Ht p h)(h1:1≤h):bdL (bf_ p) h∧Ht (bf_ p) h:=by
 by_cases h0:nz p
 have hm:bf_ p=aJ_ p (1/ leadP p):=by unfold bf_;rw[if_neg h0]
 have hk:1/ leadP p≠0:=fun e=>by have:=Rat.div_mul_cancel (a:=1) (kA_ h0);rw[e] at this;grind
 refine⟨eT_ fun i=>?_,H.scale hk fun i=>by rw[hm,bp_]⟩
 have e:coP (bf_ p) i=coP p i/ coP p (dg p):=by
  rw[hm,bp_,(d5_ h0).2,Rat.div_def,Rat.div_def,Rat.one_mul]
 rw[e]
 exact H.quot i _ (d5_ h0).1.1 h1
 have e:bf_ p=[]:=by unfold bf_;rw[if_pos (Decidable.byContradiction h0)]
 rw[e]
 exact⟨fun q hq=>(by cases hq),.zero (fun i=>rfl) _⟩
theorem oI_(D d:Nat):∀(l:List Rat) (n:Nat),d∣n→(∀c∈l,d∣intC c D)→d∣numL D l n
 |[],_,h,_=>h
 |c::l,n,h,hc=>oI_ D d l _ (Nat.dvd_gcd h (hc c (List.mem_cons_self ..))) fun x hx=>hc x (List.mem_cons_of_mem _ hx)
theorem Ht.prim{p:List Rat}{h:Nat}(H:Ht p h)(h0:nz p)(h1:1≤h):bdL (primP p) h∧Ht (primP p) h:=by
 obtain⟨c,c0,hc⟩:=mU_ h0
 have hcc:∀i,coP (primP p) i=coP p i* (nQ (denL (trimQ p) 1) / nQ (numL (denL (trimQ p) 1) (trimQ p) 0)):=fun i=>by unfold primP;rw[bp_,bm_]
 have hD:denL (trimQ p) 1≠0:=jc_ _ (by decide)
 have hl:=List.length_pos_iff.2 h0
 have hg:=bH_ (l:=p) (n:=(trimQ p).length- 1) (by omega)
 have hm:=List.mem_of_getElem? hg
 have hdv:=(fH_ (trimQ p) 1).2
 have hnd:=(hV_ (denL (trimQ p) 1) (trimQ p) 0).2
 have hdn:=oI_ (denL (trimQ p) 1)
 generalize hDe:denL (trimQ p) 1=D at *
 have hN:numL D (trimQ p) 0≠0:=fun e=>by
  have:=hnd _ hm
  rw[e] at this
  exact m4_ (hdv _ hm) hD (b9_ h0) (Nat.eq_zero_of_zero_dvd this)
 have hDq:nQ D≠0:=fun e=>hD (nQ_zero.1 e)
 have hNq:nQ (numL D (trimQ p) 0)≠0:=fun e=>hN (nQ_zero.1 e)
 refine⟨eT_ fun i=>?_,H.scale (c:=nQ D/ nQ (numL D (trimQ p) 0)) (fun e=>by
  have:nQ D/ nQ (numL D (trimQ p) 0) * nQ (numL D (trimQ p) 0)=nQ D:=Rat.div_mul_cancel hNq
  rw[e,Rat.zero_mul] at this
  exact hDq this.symm) hcc⟩
 obtain⟨k,k0,H⟩:=H
 -- k=D* (m/ n)
 generalize hr:k/ nQ D=r
 have hk:k=r* nQ D:=by rw[←hr,Rat.div_mul_cancel hDq]
 have r0:r≠0:=fun e=>by rw[e] at hk;grind
 have rn:r* (nQ r.den)=(r.num:Rat):=by
  have e:(r.num:Rat) / nQ r.den=r:=by
   rw[ep_]
   show Rat.divInt (r.num* ((1:Nat):Int)) (((1:Nat):Int) * r.den)=_
   rw[show r.num* ((1:Nat):Int)=r.num by omega,show((1:Nat):Int) * (r.den:Int)=r.den by omega,Rat.divInt_ofNat,Rat.mkRat_self]
  have:=Rat.div_mul_cancel (a:=(r.num:Rat)) (b:=nQ r.den) (fun e=>r.den_nz (nQ_zero.1 e))
  rwa[e] at this
 have co:∀j,j< (trimQ p).length→r.den∣intC (coP p j) D∧∃z:Int,(intC (coP p j) D* r.num.natAbs=z.natAbs* r.den∧bl z.natAbs≤h):=fun j hj=>by
  obtain⟨z,z1,z2⟩:=H j
  have hmj:=List.mem_of_getElem? (bd_ hj)
  rw[bm_] at hmj
  have a1:=hW_ (coP p j) D (hdv _ hmj)
  have a2:intC (coP p j) D* r.num.natAbs=z.natAbs* r.den:=by
   have b1:coP p j* nQ D* (r.num:Rat)=(z:Rat) * nQ r.den:=by rw[←z1,hk,←rn];grind
   have b2:∃s:Int,coP p j* nQ D=(s:Rat)∧s.natAbs=intC (coP p j) D:=by
    rw[hw_] at a1
    by_cases hn:coP p j* nQ D< 0
    rw[if_pos hn] at a1
    exact⟨-(intC (coP p j) D:Int),by rw[Rat.intCast_neg];grind,by rw[Int.natAbs_neg,Int.natAbs_natCast]⟩
    rw[if_neg hn] at a1
    exact⟨(intC (coP p j) D:Int),a1,Int.natAbs_natCast _⟩
   obtain⟨s,s1,s2⟩:=b2
   rw[s1] at b1
   have b3:s* r.num=z* (r.den:Int):=by
    have:((s* r.num:Int):Rat)=((z* (r.den:Int):Int):Rat):=by rw[Rat.intCast_mul,Rat.intCast_mul];exact b1
    exact_mod_cast this
   have b4:=congrArg Int.natAbs b3
   rw[Int.natAbs_mul,Int.natAbs_mul,s2,Int.natAbs_natCast] at b4
   exact b4
  refine⟨?_,z,a2,z2⟩
  have hco:Nat.Coprime r.den r.num.natAbs:=Nat.coprime_comm.1 r.reduced
  exact hco.dvd_of_dvd_mul_right ⟨z.natAbs,by rw[a2,Nat.mul_comm]⟩
 rw[hcc]
 by_cases hi:i< (trimQ p).length
 obtain⟨z,a2,z2⟩:=(co i hi).2
 have hmi:=List.mem_of_getElem? (bd_ hi)
 rw[bm_] at hmi
 have hdN:r.den∣numL D (trimQ p) 0:=hdn _ _ _ (Nat.dvd_zero _) fun c hcm=>by
  obtain⟨j,hj⟩:=List.mem_iff_getElem?.1 hcm
  have hjl:j< (trimQ p).length:=by
   by_cases h:j< (trimQ p).length
   exact h
   rw[List.getElem?_eq_none (by omega)] at hj;cases hj
  have e:=bd_ hjl
  rw[hj,bm_] at e
  cases e
  exact(co j hjl).1
 have hNi:=hnd _ hmi
 have a1:=hW_ (coP p i) D (hdv _ hmi)
 have small:intC (coP p i) D/ numL D (trimQ p) 0≤z.natAbs:=by
  have q1:r.den≤numL D (trimQ p) 0:=Nat.le_of_dvd (by omega) hdN
  have q2:0< r.num.natAbs:=by
   have:r.num≠0:=fun e=>r0 (Rat.num_eq_zero.1 e)
   omega
  refine Nat.div_le_of_le_mul ?_
  calc intC (coP p i) D≤intC (coP p i) D* r.num.natAbs:=Nat.le_mul_of_pos_right _ q2
   _=z.natAbs* r.den:=a2
   _≤numL D (trimQ p) 0* z.natAbs:=by rw[Nat.mul_comm];exact Nat.mul_le_mul_right _ q1
 have hb:bl (intC (coP p i) D/ numL D (trimQ p) 0)≤h:=Nat.le_trans (bR_ small) z2
 have e1:absQ (coP p i* (nQ D/ nQ (numL D (trimQ p) 0)))=nQ (intC (coP p i) D/ numL D (trimQ p) 0):=by
  have e2:coP p i* (nQ D/ nQ (numL D (trimQ p) 0))=coP p i* nQ D/ nQ (numL D (trimQ p) 0):=by rw[Rat.div_def,Rat.div_def];grind
  have e3:nQ (intC (coP p i) D) / nQ (numL D (trimQ p) 0)=nQ (intC (coP p i) D/ numL D (trimQ p) 0):=by
   rw[of_ _ _ hN,lJ_ _ _ hN hNi]
  have hpos:(0:Rat)< nQ (numL D (trimQ p) 0):=by
   rw[←num_pos];show 0< ((numL D (trimQ p) 0:Nat):Int);omega
  rw[e2,←e3,←a1,k3_,k3_,Rat.div_def,Rat.div_def,gS_]
  congr 1
  have:(0:Rat)< (nQ (numL D (trimQ p) 0))⁻¹:=Rat.inv_pos.2 hpos
  unfold ab;rw[if_neg (by grind)]
 rw[←qs_abs,e1]
 exact qs_nQ hb h1
 have:coP p i=0:=by rw[←bm_];exact cn_ (by omega)
 rw[this,Rat.zero_mul]
 exact Nat.le_trans (by decide:qs 0≤1) h1
def hG:Nat→Nat→Nat→Nat→Nat→Nat→Bool
 |0,_,_,_,_,_=>false
 |f+1,m,n,s,t,X=>if n=0 then decide (s≤X) else
  decide (2^ (m+1- n) * (s+2* t+1)≤137438953472) && (List.range n).all fun k=>hG f n k t (s+(m+1- n) * (t+1)) X
theorem m8_:∀f m n s t X (p q:List Rat),hG f m n s t X=true→(trimQ p).length=m→(trimQ q).length=n→bdL p s→bdL q t→Ht p s→Ht q t→1≤s→1≤t→p.length≤1000→q.length≤1000→X≤137438953472→
    ∃g,gcdM f p q=some g∧g.length≤1000∧Ht g X∧bdL g X
 |0,_,_,_,_,_,_,_,h,_,_,_,_,_,_,_,_,_,_,_=>by cases h
 |f+1,m,n,s,t,X,p,q,h,hm,hn,hp,hq,kp,kq,hs,ht,hp1,hq1,hX=>by
  rw[hG] at h
  rw[gcdM]
  by_cases h0:n=0
  rw[if_pos h0] at h
  have hsX:=of_decide_eq_true h
  have e:trimQ q=[]:=List.length_eq_zero_iff.1 (by omega)
  rw[if_pos e,if_pos (gO_ hp (by omega))]
  obtain⟨a,b⟩:=kp.monic hs
  exact⟨_,rfl,Nat.le_trans (hm_ p) hp1,b.mono hsX,fun x hx=>Nat.le_trans (a x hx) hsX⟩
  rw[if_neg h0] at h
  simp only[Bool.and_eq_true,decide_eq_true_eq,List.all_eq_true,List.mem_range] at h
  obtain⟨hL,hk⟩:=h
  have hq0:trimQ q≠[]:=fun e=>by rw[e] at hn;simp at hn;omega
  have hmp:=dc_ hp hs
  have hmq:=dc_ hq ht
  have hmono:2^ (m+1- n) * (mxL p+2* mxL q+1)≤2^ (m+1- n) * (s+2* t+1):=Nat.mul_le_mul_left _ (by omega)
  rw[if_neg hq0,if_pos (show okDiv p q from⟨by rw[hm,hn];omega,by omega,by omega⟩)]
  have hd:=(kV_ kp kq hq0).2
  rw[hm,hn] at hd
  obtain⟨b1,b2⟩:=hd.monic (by omega)
  have hlen:=(gE_ (p:=p) (q:=q)).2
  have hml:=hm_ (divP p q).2
  have hkn:(trimQ (divP p q).2).length< n:=by rw[←hn];exact(fj_ p q hq0).2
  have hmn:(trimQ (bf_ (divP p q).2)).length=(trimQ (divP p q).2).length:=by
   by_cases hz:trimQ (divP p q).2=[]
   unfold bf_;rw[if_pos hz,hz];rfl
   unfold bf_;rw[if_neg hz]
   exact il_ fun e=>by have:=Rat.div_mul_cancel (a:=1) (b9_ hz);rw[e] at this;grind
  exact m8_ f n _ t _ X q _ (hk _ hkn) hn hmn hq b1 kq b2 ht (by omega) hq1 (by omega) hX
def cB:Nat→Nat→Nat→Nat→Nat→Nat→Nat→Bool
 |0,_,_,_,_,_,_=>false
 |f+1,m,n,s,t,b,T=>if n=0 then true else
  decide (t≤T) && decide ((n+4) * b≤34359738368) && decide (2^ (m+1- n) * (s+2* t+1)≤137438953472) &&
   (List.range n).all fun k=>cB f n k t (s+(m+1- n) * (t+1)) (2^ (m+1- n) * (s+2* t+1)) T
theorem mC_:∀k f m n s t b T (last next:List Rat) (acc:List (List Rat)),cB k m n s t b T=true→(trimQ last).length=m→(trimQ next).length=n→next.length=n→bdL last s→Ht last s→Ht next t→bdL next b→1≤s→1≤t→1≤b→last.length≤1000→next.length≤1000→
    ∃out,kb_ f k last next acc=some out∧out.length≤acc.length+n∧∀q∈out,q∈acc∨(nz q∧q.length≤n∧bdL q T)
 |0,_,_,_,_,_,_,_,_,_,_,h,_,_,_,_,_,_,_,_,_,_,_,_=>by cases h
 |k+1,f,m,n,s,t,b,T,last,next,acc,h,hm,hn,hnl,hl,kl,kn,hnb,hs,ht,hb,hl1,hn1=>by
  rw[cB] at h
  rw[kb_]
  by_cases h0:n=0
  ·have e:trimQ next=[]:=List.length_eq_zero_iff.1 (by omega)
   rw[if_pos e]
   exact⟨acc,rfl,by omega,fun q hq=> .inl hq⟩
  rw[if_neg h0] at h
  simp only[Bool.and_eq_true,decide_eq_true_eq,List.all_eq_true,List.mem_range] at h
  obtain⟨⟨⟨hT,hP⟩,hL⟩,hk⟩:=h
  have hq0:trimQ next≠[]:=fun e=>by rw[e] at hn;simp at hn;omega
  obtain⟨p1,p2⟩:=kn.prim hq0 ht
  obtain⟨c,c0,hc⟩:=mU_ hq0
  obtain⟨d1,d2,_⟩:=h6_ hq0 (show c≠0 by grind) hc
  have hpn:(trimQ (primP next)).length=n:=by
   have a1:=List.length_pos_iff.2 d1
   have a2:=List.length_pos_iff.2 hq0
   unfold dg at d2;omega
  have hmb:=dc_ hnb hb
  have hml:=dc_ hl hs
  have hmp:=dc_ p1 ht
  have hpl:(primP next).length=n:=by
   unfold primP;unfold primP at hpn
   rw[←hpn];unfold aJ_;rw[bc_]
  have hmono:2^ (m+1- n) * (mxL last+2* mxL (primP next)+1)≤2^ (m+1- n) * (s+2* t+1):=Nat.mul_le_mul_left _ (by omega)
  have hmono2:(n+4) * mxL next≤(n+4) * b:=Nat.mul_le_mul_left _ hmb
  rw[if_neg hq0,if_pos (show lB_ next∧okDiv last (primP next)∧trimQ (primP next)≠[] from⟨⟨by rw[hnl];omega,by omega⟩,⟨by rw[hm,hpn];omega,by omega,by omega⟩,d1⟩)]
  have hd:=(kV_ kl p2 d1).2
  rw[hm,hpn] at hd
  have hbd:=(r3_ hl p1 hs ht d1 (by rw[hm,hpn];exact Nat.le_refl _)).2
  have hL1:1≤2^ (m+1- n) * (s+2* t+1):=Nat.mul_pos (Nat.two_pow_pos _) (by omega)
  have hm1:(-1:Rat)≠0:=by decide+kernel
  have hkn:(trimQ (aJ_ (divP last (primP next)).2 (-1))).length< n:=by rw[il_ hm1,←hpn];exact(fj_ last _ d1).2
  have hsl:(aJ_ (divP last (primP next)).2 (-1)).length=(trimQ (aJ_ (divP last (primP next)).2 (-1))).length:=by unfold aJ_;rw[bc_]
  obtain⟨out,o1,o2,o3⟩:=mC_ k f n _ t _ _ T (primP next) (aJ_ (divP last (primP next)).2 (-1)) (acc++[primP next]) (hk _ hkn) hpn rfl hsl p1 p2 (hd.scale hm1 fun i=>bp_ _ _ i)
   (eT_ fun i=>by
    rw[bp_,show coP (divP last (primP next)).2 i* -1= -coP (divP last (primP next)).2 i by grind,eQ_]
    exact bE_ hbd hL1 i) ht (by omega) hL1 (by omega) (by omega)
  refine⟨out,o1,?_,fun q hq=>?_⟩
  rw[List.length_append,List.length_singleton] at o2;omega
  rcases o3 q hq with h|⟨a,b',c'⟩
  rcases List.mem_append.1 h with h|h
  exact .inl h
  rw[List.mem_singleton.1 h]
  exact .inr ⟨d1,by omega,fun x hx=>Nat.le_trans (p1 x hx) hT⟩
  exact .inr ⟨a,by omega,c'⟩
theorem hG_all:((List.range 8).all fun m=>(List.range m).all fun n=>hG 9 m n 161 165 20000)=true:=by decide+kernel
theorem cB_all:((List.range 8).all fun m=>(List.range m).all fun n=>cB 9 m n 140168 140172 140172 20000000)=true:=by decide+kernel
theorem eu_(p:List Rat)(k:Rat):trimQ (aJ_ p k)=aJ_ p k:=bc_ _
theorem kg_(p:List Rat):trimQ (bf_ p)=bf_ p:=by
 unfold bf_;split
 rfl
 exact bc_ _
theorem ja_{p:List Rat}(h:nz p):(aY_ p).length< (trimQ p).length:=by
 have h0:=List.length_pos_iff.2 h
 have e:aY_ p=aY_ (trimQ p):=by
  have h1:trimQ (aY_ p)=aY_ p:=bc_ _
  have h2:trimQ (aY_ (trimQ p))=aY_ (trimQ p):=bc_ _
  rw[←h1,←h2]
  exact ev_ fun i=>by rw[ch_,ch_,bm_]
 have:=f8_ (trimQ p)
 rw[e];omega
theorem i9_{p:List Rat}{s g:Nat}(hl:(trimQ p).length≤7)(hb:bdL p s)(hs:1≤s)(hH:Ht p g):bdL (aY_ p) (s+4)∧Ht (aY_ p) (g+4):=by
 have e:∀i,coP (aY_ p) i=coP (aY_ (trimQ p)) i:=fun i=>by rw[ch_,ch_,bm_]
 constructor
 refine eT_ fun i=>?_
 rw[ch_]
 by_cases hi:i+1< (trimQ p).length
 have h1:=bZ_ (coP p (i+1)) (nQ (i+1))
 have h2:=qs_nQ (n:=i+1) (k:=3) (bl_le (by omega)) (by decide)
 have h3:=bE_ hb hs (i+1)
 exact Nat.le_trans h1 (by omega)
 rw[←bm_,cn_ (show(trimQ p).length≤i+1 by omega),Rat.zero_mul]
 exact Nat.le_trans (by decide:qs 0≤1) (by omega)
 refine((hH.trim).derive.scale (c:=1) (r:=aY_ p) (by decide+kernel) fun i=>by rw[e];grind).mono ?_
 have:bl (trimQ p).length≤3:=bl_le (by omega)
 omega
theorem qj_{p:List Rat}(np:nz p)(hl:(trimQ p).length≤7)(hp:p.length≤1000)(hb:bdL p 20):∃s,sqfM 9 p=some s∧nz s∧s.length≤7∧Ht s 140168∧bdL s 140168:=by
 have hH:Ht p 161:=(Ht.of (s:=20) (p:=trimQ p) fun q hq=>hb q (bl_ hq)).untrim.mono (by omega)
 have hlp:=List.length_pos_iff.2 np
 have hdl:=ja_ np
 have hdt:trimQ (aY_ p)=aY_ p:=bc_ _
 have hd0:=i9_ hl hb (by decide) hH
 have hd:bdL (aY_ p) 165∧Ht (aY_ p) 165:=⟨fun x hx=>Nat.le_trans (hd0.1 x hx) (by decide),hd0.2⟩
 have hg:=hG_all
 simp only[List.all_eq_true,List.mem_range] at hg
 obtain⟨g,g1,g2,g3,g4⟩:=m8_ 9 _ _ 161 165 20000 p (aY_ p) (hg _ (by omega) _ (by rw[hdt];exact hdl)) rfl rfl (fun x hx=>Nat.le_trans (hb x hx) (by decide)) hd.1 hH hd.2 (by decide) (by decide) hp (by omega) (by decide)
 obtain⟨z0,z1,z2,a,b,z3⟩:=op_ 9 _ _ _ g1 (.inl np)
 obtain⟨u,hu⟩:=z1
 obtain⟨m1,m2⟩:=iE_ p z0
 have hm:=md_uniq (u:=u) (v:=[]) z0 (fun x=>by rw[hu x,aZ_];exact(Rat.add_zero _).symm) (fun e=>absurd rfl e)
 have hs:∀x,evalP p x=evalP (divP p g).1 x* evalP g x:=fun x=>by
  have:=m1 x
  rw[hm x,aZ_] at this
  rw[this];grind
 obtain⟨n1,n2⟩:=lF_ hs np
 have e1:=(dg_mul' n1 n2 hs).2.1
 have e2:=(eE_ n1).2.2
 have e3:=(eE_ n1).2.1
 have hlg:=List.length_pos_iff.2 z0
 have hls:=List.length_pos_iff.2 e3
 have h1:=dc_ hb (by decide)
 have h2:=dc_ g4 (by decide)
 have hpow:2^ ((trimQ p).length+1- (trimQ g).length)≤2^ 7:=Nat.pow_le_pow_right (by decide) (by omega)
 have hmul:=Nat.mul_le_mul hpow (show mxL p+2* mxL g+1≤50000 by omega)
 have hq:=(kV_ hH g3 z0).1
 have hrw:((trimQ p).length+1- (trimQ g).length) * (20000+1)≤7* (20000+1):=Nat.mul_le_mul_right _ (by omega)
 obtain⟨q1,q2⟩:=(hq.mono (show _≤140168 by omega)).monic (by decide)
 refine⟨bf_ (divP p g).1,?_,e3,?_,q2,q1⟩
 unfold sqfM
 rw[if_pos ⟨gO_ hb (by decide),by omega⟩,g1,Option.bind_some,if_pos ⟨z0,by omega,by omega,by omega⟩]
 have:=kg_ (divP p g).1
 rw[←this]
 unfold dg at e1 e2;omega
theorem mt_{p:List Rat}(np:nz p)(hl:(trimQ p).length≤7)(hp:p.length≤1000)(hb:bdL p 20):∃c,dX_ 9 p=some c∧okCnt c∧c.ch.length≤8∧(∀q∈c.ch,nz q∧q.length≤7∧bdL q 20000000)∧nz c.p∧c.p.length≤7∧bdL c.p 140168:=by
 obtain⟨s,s1,s2,s3,s4,s5⟩:=qj_ np hl hp hb
 have hst:=a2_ s
 have hsp:=List.length_pos_iff.2 s2
 obtain⟨p1,p2⟩:=s4.prim s2 (by decide)
 obtain⟨c,c0,hc⟩:=mU_ s2
 obtain⟨d1,d2,_⟩:=h6_ s2 (show c≠0 by grind) hc
 have hpn:(trimQ (primP s)).length=(trimQ s).length:=by
  have a1:=List.length_pos_iff.2 d1
  unfold dg at d2;omega
 have hpl:(primP s).length=(trimQ (primP s)).length:=by unfold primP;rw[eu_]
 have hdl:=ja_ s2
 have hdt:trimQ (aY_ s)=aY_ s:=bc_ _
 have hd:=i9_ (by omega) s5 (by decide) s4
 have hC:=cB_all
 simp only[List.all_eq_true,List.mem_range] at hC
 obtain⟨out,o1,o2,o3⟩:=mC_ 9 9 _ _ 140168 140172 140172 20000000 (primP s) (aY_ s) [primP s] (hC (trimQ s).length (by omega) (aY_ s).length hdl) hpn (by rw[hdt]) rfl p1 p2 hd.2 hd.1 (by decide) (by decide) (by decide) (by omega) (by omega)
 have hmx:=dc_ s5 (by decide)
 have hmul:=Nat.mul_le_mul (show s.length+4≤11 by omega) hmx
 have hst':lj_ 9 s=some out:=by
  unfold lj_
  rw[if_pos ⟨gO_ s5 (by decide),⟨by omega,by omega⟩,s2⟩]
  exact o1
 have hall:∀q∈out,nz q∧q.length≤7∧bdL q 20000000:=fun q hq=>by
  rcases o3 q hq with h|⟨a,b,d⟩
  rw[List.mem_singleton.1 h]
  exact⟨d1,by omega,fun x hx=>Nat.le_trans (p1 x hx) (by decide)⟩
  exact⟨a,by omega,d⟩
 rw[List.length_singleton] at o2
 have hok:okCnt ⟨s,out,chL (out.map sgI) 0 0⟩:=⟨fun q hq=>⟨(hall q hq).1,by have:=(hall q hq).2.1;omega⟩,by show out.length≤_;omega,rfl⟩
 refine⟨⟨s,out,chL (out.map sgI) 0 0⟩,?_,hok,by show out.length≤_;omega,hall,s2,s3,s5⟩
 unfold dX_
 rw[s1,Option.bind_some,hst',Option.bind_some,if_pos hok]
def gsz:Nat→List Rat→List Rat→Nat→Prop
 |0,_,_,_=>False
 |f+1,p,q,B=>bdL p B∧(nz q→bdL q B∧gsz f q (bf_ (divP p q).2) B)
theorem hG_top{f m n s t X:Nat}(h:hG f m n s t X=true)(h0:n≠0):t≤X:=by
 cases f with
 |zero=>cases h
 |succ f=>
  rw[hG,if_neg h0] at h
  simp only[Bool.and_eq_true,decide_eq_true_eq,List.all_eq_true,List.mem_range] at h
  have:=h.2 0 (by omega)
  cases f with
  |zero=>cases this
  |succ f=>
   rw[hG,if_pos rfl] at this
   exact of_decide_eq_true this
theorem rg_:∀f m n s t X (p q:List Rat),hG f m n s t X=true→(trimQ p).length=m→(trimQ q).length=n→bdL p s→bdL q t→Ht p s→Ht q t→1≤s→1≤t→s≤X→gsz f p q X
 |0,_,_,_,_,_,_,_,h,_,_,_,_,_,_,_,_,_=>by cases h
 |f+1,m,n,s,t,X,p,q,h,hm,hn,hp,hq,kp,kq,hs,ht,hX=>by
  have htop:=hG_top h
  rw[hG] at h
  refine⟨fun x hx=>Nat.le_trans (hp x hx) hX,fun hq0=>?_⟩
  have h0:n≠0:=by have:=List.length_pos_iff.2 hq0;omega
  have htX:=htop h0
  rw[if_neg h0] at h
  simp only[Bool.and_eq_true,decide_eq_true_eq,List.all_eq_true,List.mem_range] at h
  obtain⟨hL,hk⟩:=h
  have hd:=(kV_ kp kq hq0).2
  rw[hm,hn] at hd
  obtain⟨b1,b2⟩:=hd.monic (by omega)
  have hkn:(trimQ (divP p q).2).length< n:=by rw[←hn];exact(fj_ p q hq0).2
  have hmn:(trimQ (bf_ (divP p q).2)).length=(trimQ (divP p q).2).length:=by
   by_cases hz:trimQ (divP p q).2=[]
   unfold bf_;rw[if_pos hz,hz];rfl
   unfold bf_;rw[if_neg hz]
   exact il_ fun e=>by have:=Rat.div_mul_cancel (a:=1) (b9_ hz);rw[e] at this;grind
  exact⟨fun x hx=>Nat.le_trans (hq x hx) htX,rg_ f n _ t _ X q _ (hk _ hkn) hn hmn hq b1 kq b2 ht (by omega) htX⟩
structure CN (p:List Rat)(c:Cnt):Prop where
 np:nz p
 pl:p.length≤7
 pb:bdL p 20
 hc:dX_ 9 p=some c
 ok:okCnt c
 cl:c.ch.length≤8
 all:∀q∈c.ch,nz q∧q.length≤7∧bdL q 20000000
 sn:nz c.p
 sl:c.p.length≤7
 sb:bdL c.p 140168
 sz:gsz 9 p (aY_ p) 20000
 gb:∀g,gcdM 9 p (aY_ p)=some g→bdL g 20000∧g.length≤1000
theorem CN.ex{p:List Rat}(np:nz p)(hl:p.length≤7)(hb:bdL p 20):∃c,CN p c:=by
 have htl:=a2_ p
 obtain⟨c,h1,h2,h3,h4,h5,h6,h7⟩:=mt_ np (by omega) (by omega) hb
 have hH:Ht p 161:=(Ht.of (s:=20) (p:=trimQ p) fun q hq=>hb q (bl_ hq)).untrim.mono (by omega)
 have hlp:=List.length_pos_iff.2 np
 have hdl:=ja_ np
 have hdt:trimQ (aY_ p)=aY_ p:=bc_ _
 have hd0:=i9_ (by omega) hb (by decide) hH
 have hd:bdL (aY_ p) 165∧Ht (aY_ p) 165:=⟨fun x hx=>Nat.le_trans (hd0.1 x hx) (by decide),hd0.2⟩
 have hg:=hG_all
 simp only[List.all_eq_true,List.mem_range] at hg
 have hG:=hg (trimQ p).length (by omega) (aY_ p).length hdl
 have hb':bdL p 161:=fun x hx=>Nat.le_trans (hb x hx) (by decide)
 refine⟨c,np,hl,hb,h1,h2,h3,h4,h5,h6,h7,rg_ 9 _ _ 161 165 20000 p (aY_ p) hG rfl (by rw[hdt]) hb' hd.1 hH hd.2 (by decide) (by decide) (by decide),fun g hgm=>?_⟩
 obtain⟨g',g1,g2,g3,g4⟩:=m8_ 9 _ _ 161 165 20000 p (aY_ p) hG rfl (by rw[hdt]) hb' hd.1 hH hd.2 (by decide) (by decide) (by omega) (by omega) (by decide)
 rw[g1] at hgm
 cases hgm
 exact⟨g4,g2⟩
theorem CN.upto{p:List Rat}{c:Cnt}(h:CN p c){x:Rat}(hx:qs x≤1000000):okUp c x:=⟨h.ok,fun q hq=>by
 obtain⟨_,a,b⟩:=h.all q hq
 have:=dc_ b (by decide)
 have h2:=Nat.mul_le_mul a (show mxL q+qs x+1≤21000001 by omega)
 exact⟨by omega,by omega⟩⟩
theorem CN.below{p:List Rat}{c:Cnt}(h:CN p c){x:Rat}(hx:qs x≤1000000):okBe c x:=⟨h.upto hx,by
 have:=dc_ h.sb (by decide)
 have h2:=Nat.mul_le_mul h.sl (show mxL c.p+qs x+1≤21000001 by omega)
 have h3:=h.sl
 exact⟨by omega,by omega⟩⟩
def lag(v:List Rat):Nat→Rat
 |0=>0
 |m+1=>coP v m
theorem coP_line(v:List Rat)(c:Rat)(n:Nat):coP (mulP v [c,1]) n=coP v n* c+lag v n:=by
 have e:trimQ (mulP v [c,1])=trimQ (mulP [c,1] v):=fD_ fun x=>by rw[aL_,aL_];grind
 rw[trim_iff.1 e n,ga_]
 show coP (addL (eN_ v c) (0::addL (eN_ v 1) (0::[]))) n=_
 rw[cV_,cv_]
 cases n with
 |zero=>rw[cm_];rfl
 |succ m=>
  rw[bQ_,cV_,cv_]
  have:coP [(0:Rat)] m=0:=by cases m <;> rfl
  rw[this];show _+(coP v m* 1+0)=_+coP v m;grind
theorem dD_(p:List Rat):(aK_ p).length≤p.length+1:=by
 have:=a2_ (tabP (p.length+1) fun i=>if i=0 then 0 else coP p (i- 1) / ((i:Nat):Int))
 simp at this
 unfold aK_;omega
theorem subP_len(p q:List Rat):(subP p q).length≤max p.length q.length:=by
 have h1:=gR_ p (aJ_ q (-1))
 have h2:=bT_ q (-1)
 unfold subP;omega
theorem cX_{l:List Rat}{a b:Nat}(h:bdL l a)(hab:a≤b):bdL l b:=fun q hq=>Nat.le_trans (h q hq) hab
theorem bd_co'{p:List Rat}{s:Nat}(h:bdL p s)(hs:1≤s):∀i,qs (coP p i)≤s:=fun i=>bE_ h hs i
theorem ke_{p:List Rat}{k:Rat}{s:Nat}(h:bdL p s)(hs:1≤s):bdL (aJ_ p k) (s+qs k):=eT_ fun i=>by
 rw[bp_]
 have:=bZ_ (coP p i) k
 have:=bd_co' h hs i
 omega
theorem bdL_neg{p:List Rat}{s:Nat}(h:bdL p s)(hs:1≤s):bdL (aJ_ p (-1)) s:=eT_ fun i=>by
 rw[bp_,show coP p i* (-1)= -coP p i by grind,eQ_]
 exact bd_co' h hs i
theorem o6_{p q:List Rat}{s t:Nat}(hp:bdL p s)(hq:bdL q t)(hs:1≤s)(ht:1≤t):bdL (addP p q) (s+t+1):=eT_ fun i=>by
 rw[d0_]
 have:=gl_ (coP p i) (coP q i)
 have:=bd_co' hp hs i
 have:=bd_co' hq ht i
 omega
theorem bdL_subP{p q:List Rat}{s t:Nat}(hp:bdL p s)(hq:bdL q t)(hs:1≤s)(ht:1≤t):bdL (subP p q) (s+t+1):=o6_ hp (bdL_neg hq ht) hs ht
def shP(i:Nat)(v:List Rat):List Rat:=List.replicate i 0++v
theorem de_(i:Nat)(v:List Rat):(shP i v).length=i+v.length:=by simp[shP]
theorem nP_(i:Nat)(v:List Rat):shP (i+1) v=0::shP i v:=by simp[shP,List.replicate_succ]
theorem h5_(v:List Rat)(x:Rat):∀i,evalP (shP i v) x=evalP v x* x^ i
 |0=>by simp[shP]
 |i+1=>by
  rw[nP_,aE_,h5_ v x i,Rat.pow_succ]
  grind
theorem fU_(v:List Rat)(i n:Nat):coP (shP i v) n=if n< i then 0 else coP v (n- i):=by
 induction i generalizing n with
 |zero=>simp[shP]
 |succ i ih=>
  rw[nP_]
  cases n with
  |zero=>rw[cm_,if_pos (by omega)]
  |succ n=>
   rw[bQ_,ih,Nat.add_sub_add_right]
   by_cases h:n< i
   rw[if_pos h,if_pos (by omega)]
   rw[if_neg h,if_neg (by omega)]
def mR(p q:List Rat):Nat→List Rat
 |0=>[]
 |n+1=>addP (mR p q n) (shP n (aJ_ p (coP q n)))
theorem oG_(p q:List Rat)(x:Rat):∀n,n≤q.length→evalP (mR p q n) x=evalP p x* evalP (q.take n) x
 |0,_=>by simp[mR,aZ_]
 |n+1,h=>by
  rw[mR,bM_,oG_ p q x n (by omega),h5_,aS_,di_ q x n (by omega)]
  grind
theorem trim_mR(p q:List Rat):∀n,trimQ (mR p q n)=mR p q n
 |0=>rfl
 |n+1=>bc_ _
theorem p7_(p q:List Rat):trimQ (mulP p q)=mulP p q:=by
 unfold mulP
 split
 rfl
 exact bc_ _
theorem lK_(p q:List Rat):mR p q q.length=mulP p q:=by
 rw[←trim_mR,←p7_]
 refine fD_ fun x=>?_
 rw[oG_ p q x _ (Nat.le_refl _),List.take_length,aL_]
theorem qW_(p q:List Rat):∀n,(mR p q n).length≤n+p.length
 |0=>Nat.zero_le _
 |n+1=>by
  have h1:=qW_ p q n
  have h2:=gR_ (mR p q n) (shP n (aJ_ p (coP q n)))
  have h3:=bT_ p (coP q n)
  rw[de_] at h2
  rw[mR]
  omega
theorem mR_bd{p q:List Rat}{s t:Nat}(hp:bdL p s)(hq:bdL q t)(hs:1≤s)(ht:1≤t):∀n,bdL (mR p q n) (n* (s+t+1)+1)
 |0=>fun _ h=>by cases h
 |n+1=>eT_ fun i=>by
  rw[mR,d0_,fU_,Nat.succ_mul]
  have h1:=bd_co' (mR_bd hp hq hs ht n) (by omega) i
  have h2:=bd_co' hq ht n
  have h3:qs (if i< n then 0 else coP (aJ_ p (coP q n)) (i- n))≤s+t:=by
   split
   have:qs 0=1:=by decide
   omega
   rw[bp_]
   have:=bZ_ (coP p (i- n)) (coP q n)
   have:=bd_co' hp hs (i- n)
   omega
  have:=gl_ (coP (mR p q n) i) (if i< n then 0 else coP (aJ_ p (coP q n)) (i- n))
  omega
theorem ky_{p:List Rat}{a:Rat}{d:Nat}:∀n,n≤d→mR p (shP d [a]) n=[]
 |0,_=>rfl
 |n+1,h=>by
  rw[mR,ky_ n (by omega)]
  refine trim_nil_iff.2 fun i=>?_
  have h1:coP (shP d [a]) n=0:=by rw[fU_,if_pos (by omega)]
  have h2:coP (tabP (max ([]:List Rat).length (shP n (aJ_ p (coP (shP d [a]) n))).length) fun i=>coP [] i+coP (shP n (aJ_ p (coP (shP d [a]) n))) i) i=coP [] i+coP (shP n (aJ_ p (coP (shP d [a]) n))) i:=by
   rw[←bm_];exact d0_ _ _ i
  rw[h2,f9_,fU_,bp_,h1]
  split <;> grind
theorem hn_{p:List Rat}{a:Rat}{d s:Nat}(hp:bdL p s)(hs:1≤s)(n:Nat)(hn:n≤d+1):bdL (mR p (shP d [a]) n) (s+qs a+2):=by
 by_cases h:n≤d
 rw[ky_ n h];exact fun _ h=>by cases h
 have:n=d+1:=by omega
 subst this
 refine eT_ fun i=>?_
 rw[mR,d0_,ky_ d (Nat.le_refl _),f9_,Rat.zero_add,fU_]
 split
 have:qs 0=1:=by decide
 omega
 rw[bp_,fU_,if_neg (by omega),Nat.sub_self,cm_]
 have:=bZ_ (coP p (i- d)) a
 have:=bd_co' hp hs (i- d)
 omega
theorem coP_mono(d:List Rat)(a:Rat)(k j:Nat):coP (mulP d (shP k [a])) j=if j< k then 0 else coP d (j- k) * a:=by
 have e:mR d (shP k [a]) (shP k [a]).length=mulP d (shP k [a]):=lK_ _ _
 rw[←e,show(shP k [a]).length=k+1 by rw[de_];rfl,mR,d0_,ky_ k (Nat.le_refl _),f9_,Rat.zero_add,fU_,bp_,fU_,if_neg (Nat.lt_irrefl k),Nat.sub_self,cm_]
theorem oj_{v:List Rat}{n:Nat}(h:trimQ v=v)(hn:v.length=n+1):coP v n=leadP v:=by
 have:=bH_ (l:=v) (n:=n) (by rw[h];exact hn)
 rw[h,bd_ (by omega)] at this
 exact Option.some.inj this
theorem step_len{v d:List Rat}(hv:trimQ v=v)(hd:trimQ d=d)(hd0:d≠[])(hl:d.length≤v.length):(subP v (mulP d (shP (v.length- d.length) [leadP v/ leadP d]))).length< v.length:=by
 have hdl:=List.length_pos_iff.2 hd0
 obtain⟨m,hm⟩:∃m,d.length=m+1:=⟨d.length- 1,by omega⟩
 obtain⟨n,hn⟩:∃n,v.length=n+1:=⟨v.length- 1,by omega⟩
 have hld:leadP d≠0:=b9_ (by rw[hd];exact hd0)
 have key:∀j,n≤j→coP (subP v (mulP d (shP (v.length- d.length) [leadP v/ leadP d]))) j=0:=fun j hj=>by
  rw[fl_,coP_mono,if_neg (by omega)]
  by_cases h:j=n
  subst h
  rw[oj_ hv hn,show j- (v.length- d.length)=m by omega,oj_ hd hm]
  grind
  rw[cn_ (p:=v) (by omega),cn_ (p:=d) (by omega)]
  grind
 have h1:=hB_ key
 have h2:trimQ (subP v (mulP d (shP (v.length- d.length) [leadP v/ leadP d])))=subP v (mulP d (shP (v.length- d.length) [leadP v/ leadP d])):=bc_ _
 rw[h2] at h1
 omega
theorem p6_(p q:List Rat):trimQ (subP p q)=subP p q:=bc_ _
theorem step_bd{v d:List Rat}{b t:Nat}(hv:bdL v b)(hd:bdL d t)(hb:1≤b)(ht:1≤t)(hd0:d≠[])(k:Nat):qs (leadP v/ leadP d)≤b+t∧bdL (mulP d (shP k [leadP v/ leadP d])) (2* t+b+2)∧bdL (subP v (mulP d (shP k [leadP v/ leadP d]))) (2* b+2* t+3):=by
 have h1:=qZ_ hv hb
 have h2:=qZ_ hd ht
 have h3:=dy_ (leadP v) (leadP d)
 have h4:bdL (mulP d (shP k [leadP v/ leadP d])) (2* t+b+2):=by
  have:=hn_ (a:=leadP v/ leadP d) (d:=k) hd ht (k+1) (Nat.le_refl _)
  rw[show k+1=(shP k [leadP v/ leadP d]).length by rw[de_];rfl,lK_] at this
  exact cX_ this (by omega)
 exact⟨by omega,h4,cX_ (bdL_subP hv h4 hb (by omega)) (by omega)⟩
theorem bdL_sh{v:List Rat}{b:Nat}(h:bdL v b)(hb:1≤b)(k:Nat):bdL (shP k v) b:=fun q hq=>by
 rcases List.mem_append.1 hq with h'|h'
 rw[List.eq_of_mem_replicate h']
 have:qs 0=1:=by decide
 omega
 exact h q h'
theorem trim_div(p q:List Rat):trimQ (divP p q).1=(divP p q).1∧trimQ (divP p q).2=(divP p q).2:=⟨bc_ _,bc_ _⟩
def powP(p:List Rat):Nat→List Rat
 |0=>dY_ 1
 |n+1=>mulP (powP p n) p
def pB(L:Nat):Nat→Nat
 |0=>1
 |n+1=>(n* L+1) * (pB L n+257)+1
theorem m1_(p q:List Rat):(mulP p q).length≤p.length+q.length:=by
 have h:=qW_ p q q.length
 rw[lK_] at h
 omega
theorem gm_(p:List Rat):∀n,(powP p n).length≤n* p.length+1
 |0=>by
  have h:=a2_ [1]
  have e:([1]:List Rat).length=1:=rfl
  show(trimQ [1]).length≤_
  omega
 |n+1=>by
  have h1:=gm_ p n
  have h2:=m1_ (powP p n) p
  rw[powP,Nat.succ_mul]
  omega
theorem pB_pos(L:Nat):∀n,1≤pB L n
 |0=>Nat.le_refl _
 |n+1=>Nat.le_add_left _ _
theorem qE_{p:List Rat}(h:bdL p 256):∀n,bdL (powP p n) (pB p.length n)
 |0=>fun q hq=>by
  have:=bl_ (l:=[1]) hq
  rw[List.mem_singleton.1 this]
  show qs 1≤1
  decide
 |n+1=>fun q hq=>by
  have h1:=kw_ (qE_ h n) h (pB_pos _ _) (by decide) q hq
  have h2:=Nat.mul_le_mul_right (pB p.length n+256+1) (gm_ p n)
  show qs q≤(n* p.length+1) * (pB p.length n+257)+1
  obtain⟨a,ha⟩:∃a,a=(powP p n).length* (pB p.length n+256+1):=⟨_,rfl⟩
  obtain⟨b,hb⟩:∃b,b=(n* p.length+1) * (pB p.length n+256+1):=⟨_,rfl⟩
  rw[←ha] at h1 h2
  rw[←hb] at h2
  rw[show pB p.length n+257=pB p.length n+256+1 from rfl,←hb]
  omega
def ofQ(p m:List Rat):Nat→Rat
 |0=>0
 |n+1=>ofQ p m n+coP p n* coP m n
theorem lD_{p m:List Rat}{s t:Nat}(hp:bdL p s)(hm:bdL m t)(hs:1≤s)(ht:1≤t):∀n,qs (ofQ p m n)≤n* (s+t+1)+1
 |0=>by rw[Nat.zero_mul];exact(by decide:qs 0≤0+1)
 |n+1=>by
  have h1:=lD_ hp hm hs ht n
  have h2:=gl_ (ofQ p m n) (coP p n* coP m n)
  have h3:=bZ_ (coP p n) (coP m n)
  have h4:=bE_ hp hs n
  have h5:=bE_ hm ht n
  rw[ofQ,Nat.succ_mul];omega
def gK(f:List Rat):Nat→List Rat
 |0=>f
 |k+1=>mulP (gK f k) [0,1]
def moQ(f:List Rat)(s:Sp)(k:Nat):Rat:=evalP (aK_ (gK f k)) s.2- evalP (aK_ (gK f k)) s.1
def okMo(f:List Rat)(s:Sp)(k:Nat):Prop:=smL (gK f k)∧(gK f k).length≤1000000∧dS_ (aK_ (gK f k)) s.1∧dS_ (aK_ (gK f k)) s.2∧okMul (gK f k) [0,1]
def sqL(sq:Nat→Rat)(n:Nat):List Rat:=(List.range n).map sq
theorem ey_(sq:Nat→Rat)(n:Nat):sqL sq (n+1)=sqL sq n++[sq n]:=by simp[sqL,List.range_succ]
@[simp] theorem dH_ (sq:Nat→Rat)(n:Nat):(sqL sq n).length=n:=by simp[sqL]
theorem ie_(p:List Rat)(h:trimQ p≠[]):∀n,trimQ (List.replicate n (0:Rat)++p)=List.replicate n 0++trimQ p
 |0=>rfl
 |n+1=>by
  rw[List.replicate_succ,List.cons_append,b1_,ie_ p h n,if_neg (by simp[h]),List.cons_append]
theorem hC_(p:List Rat)(h:trimQ p=[]):∀n,trimQ (List.replicate n (0:Rat)++p)=[]
 |0=>h
 |n+1=>by
  rw[List.replicate_succ,List.cons_append,b1_,hC_ p h n];rfl
theorem id_(p:List Rat)(n:Nat)(N:Nat)(h:n+(trimQ p).length≤N):(trimQ (List.replicate n (0:Rat)++p)).length≤N:=by
 by_cases e:trimQ p=[]
 rw[hC_ p e];exact Nat.zero_le _
 rw[ie_ p e];simp;omega
def tmQ(p m:List Rat)(k:Nat):Rat:=ofQ (trimQ (List.replicate k 0++p)) m (trimQ (List.replicate k (0:Rat)++p)).length
theorem so_{p:List Rat}{s:Nat}(h:bdL p s)(hs:1≤s)(n:Nat):bdL (List.replicate n 0++p) s:=fun q hq=>by
 rcases List.mem_append.1 hq with hq|hq
 rw[List.eq_of_mem_replicate hq]
 have:qs 0=1:=by decide
 omega
 exact h q hq
def ofP(m p:List Rat):Rat:=ofQ (trimQ p) m (trimQ p).length
def okOf(m p:List Rat):Prop:=p.length≤1000000∧(trimQ p).length≤m.length∧(p.length+2) * (mxL p+mxL m+1)≤137438953472
instance (m p:List Rat):Decidable (okOf m p):=inferInstanceAs (Decidable (_∧_∧_))
def ldN(m p:List Rat):Rat:=ofP m (mulP p p)
def ldA(m p:List Rat):Rat:=ofP m (mulP (mulP p p) [0,1]) / ldN m p
def ldr(m:List Rat):Nat→List Rat×List Rat×Rat
 |0=>([1],[],0)
 |k+1=>(subP (mulP (ldr m k).1 [-ldA m (ldr m k).1,1]) (aJ_ (ldr m k).2.1 (if k=0 then 0 else ldN m (ldr m k).1/ (ldr m k).2.2)),(ldr m k).1,ldN m (ldr m k).1)
def ldB(m:List Rat)(k:Nat):Rat:=if k=0 then 0 else ldN m (ldr m k).1/ (ldr m k).2.2
def ldAk(m:List Rat)(k:Nat):Rat:=ldA m (ldr m k).1
def okLd(m:List Rat)(k:Nat):Prop:=
 okMul (ldr m k).1 (ldr m k).1∧okOf m (mulP (ldr m k).1 (ldr m k).1)∧0< ldN m (ldr m k).1∧okMul (mulP (ldr m k).1 (ldr m k).1) [0,1]∧okOf m (mulP (mulP (ldr m k).1 (ldr m k).1) [0,1])∧
 qs (ofP m (mulP (mulP (ldr m k).1 (ldr m k).1) [0,1]))+qs (ldN m (ldr m k).1)≤549755813888∧qs (ldN m (ldr m k).1)+qs (ldr m k).2.2≤549755813888∧
 okMul (ldr m k).1 [-ldAk m k,1]∧(∀q∈(ldr m k).2.1,sm q)∧sm (ldB m k)∧(∀q∈mulP (ldr m k).1 [-ldAk m k,1],sm q)∧(∀q∈aJ_ (ldr m k).2.1 (ldB m k),sm q)∧
 (ldr m k).2.1.length≤1099511627776∧(mulP (ldr m k).1 [-ldAk m k,1]).length≤1099511627776∧(aJ_ (ldr m k).2.1 (ldB m k)).length≤1099511627776
instance (m:List Rat) (k:Nat):Decidable (okLd m k):=by unfold okLd;infer_instance
def okBs(g nx a c:List Rat):Prop:=okDiv g nx∧okMul (divP g nx).1 c∧(∀q∈a,sm q)∧(∀q∈mulP (divP g nx).1 c,sm q)∧a.length≤1099511627776∧(mulP (divP g nx).1 c).length≤1099511627776
instance (g nx a c:List Rat):Decidable (okBs g nx a c):=by unfold okBs;infer_instance
def bzL:Nat→List Rat→List Rat→List Rat→List Rat→Option (List Rat×List Rat)
 |0,_,_,_,_=>none
 |f+1,g,nx,a,c=>if trimQ nx=[] then some (g,a) else if okBs g nx a c∧nx.length≤1099511627776 then bzL f nx (divP g nx).2 c (subP a (mulP (divP g nx).1 c)) else none
def bzG(g:List Rat):List Rat:=aJ_ g (((1:Int):Rat) / leadP g)
def bzA(q g a:List Rat):List Rat:=(divP (aJ_ a (((1:Int):Rat) / leadP g)) (divP q (bzG g)).1).2
def bzB(p q g a:List Rat):List Rat:=(divP (subP (bzG g) (mulP (bzA q g a) p)) q).1
def okBz(p q g a:List Rat):Prop:=
 trimQ g≠[]∧g.length≤1099511627776∧a.length≤1099511627776∧(∀x∈g,sm x)∧(∀x∈a,sm x)∧qs (leadP g)≤68719476736∧okDiv q (bzG g)∧trimQ (bzG g)≠[]∧
 okDiv (aJ_ a (((1:Int):Rat) / leadP g)) (divP q (bzG g)).1∧trimQ (divP q (bzG g)).1≠[]∧okMul (bzA q g a) p∧(∀x∈bzG g,sm x)∧(∀x∈mulP (bzA q g a) p,sm x)∧
 (bzG g).length≤1099511627776∧(mulP (bzA q g a) p).length≤1099511627776∧okDiv (subP (bzG g) (mulP (bzA q g a) p)) q
instance (p q g a:List Rat):Decidable (okBz p q g a):=by unfold okBz;infer_instance
def tpV(p m:List Rat)(i:Nat):Nat→Rat
 |0=>0
 |j+1=>if i< j then tpV p m i j+coP p j* coP m (j- 1- i) else tpV p m i j
def tpI(p m:List Rat)(j i0 i:Nat):Rat:=if i< i0 then tpV p m i (j+1) else tpV p m i j
theorem tpI_0(p m:List Rat)(j:Nat):tpI p m j 0=fun i=>tpV p m i j:=rfl
theorem tpI_e(p m:List Rat)(j:Nat):tpI p m j j=fun i=>tpV p m i (j+1):=by
 funext i
 unfold tpI
 by_cases h:i< j
 rw[if_pos h]
 rw[if_neg h,tpV,if_neg h]
theorem ki_{d i:Nat}(f:Nat→Rat)(h:i< d):(tabP d f)[i]?=some (f i):=by simp[tabP,h]
theorem tabP_set(d i:Nat)(f g:Nat→Rat)(h:i< d)(hg:∀x,x≠i→f x=g x):(tabP d f).set i (g i)=tabP d g:=by
 refine List.ext_getElem? fun x=>?_
 rw[List.getElem?_set]
 by_cases e:i=x
 subst e;simp[tabP,h]
 rw[if_neg e]
 by_cases hx:x< d
 rw[ki_ f hx,ki_ g hx,hg x (fun e2=>e e2.symm)]
 simp[tabP,hx]
theorem tpI_set(p m:List Rat)(d j i:Nat)(hi:i< j)(hj:j≤d):(tabP d (tpI p m j i)).set i (tpV p m i j+coP p j* coP m (j- 1- i))=tabP d (tpI p m j (i+1)):=by
 have e:tpV p m i j+coP p j* coP m (j- 1- i)=tpI p m j (i+1) i:=by unfold tpI;rw[if_pos (Nat.lt_succ_self i),tpV,if_pos hi]
 rw[e]
 refine tabP_set d i _ _ (by omega) fun x hx=>?_
 unfold tpI
 by_cases h:x< i
 rw[if_pos h,if_pos (by omega)]
 rw[if_neg h,if_neg (by omega)]
theorem tpV_bd{p m:List Rat}{s t:Nat}(hp:bdL p s)(hm:bdL m t)(hs:1≤s)(ht:1≤t)(i:Nat):∀j,qs (tpV p m i j)≤j* (s+t+1)+1
 |0=>by rw[Nat.zero_mul];exact(by decide:qs 0≤0+1)
 |j+1=>by
  have h1:=tpV_bd hp hm hs ht i j
  have h2:=gl_ (tpV p m i j) (coP p j* coP m (j- 1- i))
  have h3:=bZ_ (coP p j) (coP m (j- 1- i))
  have h4:=bE_ hp hs j
  have h5:=bE_ hm ht (j- 1- i)
  rw[tpV,Nat.succ_mul]
  split <;> omega
def tpQ(p m:List Rat):List Rat:=tabP (p.length- 1) fun i=>tpV p m i p.length
theorem qd_(d:Nat)(p m:List Rat):tabP d (fun i=>tpV p m i 0)=List.replicate d 0:=by
 show(List.range d).map (fun _=>(0:Rat))=_
 rw[List.map_const',List.length_range]
def apR(p w f:List Rat):List Rat:=(divP (mulP w (divP f p).2) p).2
def nwA(T:List Rat)(n:Nat)(out:List Rat)(k:Nat):Nat→Rat
 |0=>coP T (n- k) * ((k:Int):Rat)
 |i+1=>nwA T n out k i+coP T (n- (i+1)) * coP out (k- (i+1))
def suL(T:List Rat)(n:Nat):Nat→List Rat
 |0=>[((n:Int):Rat)]
 |k+1=>suL T n k++[-(nwA T n (suL T n k) (k+1) k)]
theorem eh_(T:List Rat)(n:Nat):∀k,(suL T n k).length=k+1
 |0=>rfl
 |k+1=>by rw[suL,List.length_append,eh_ T n k];rfl
def okSu(T:List Rat)(n k:Nat):Prop:=qs (coP T (n- (k+1)))+qs (((k+1:Nat):Int):Rat)≤549755813888∧
 ∀i,i< k→qs (coP T (n- (i+1)))+qs (coP (suL T n k) (k+1- (i+1)))≤549755813888∧qs (nwA T n (suL T n k) (k+1) i)+qs (coP T (n- (i+1)) * coP (suL T n k) (k+1- (i+1)))≤549755813888
def enM(e:Rat):List Rat:=[-e,((1:Int):Rat)]
def krS(e m:List Rat)(k:Nat):Nat→Rat
 |0=>0
 |j+1=>krS e m k j+coP e j* coP m (j+k)
def krE(m:List Rat)(n:Nat):Nat→List Rat
 |0=>List.replicate (n+1) 0++[((1:Int):Rat)]
 |k+1=>(krE m n k).set (n- k) (-(krS (krE m n k) m k (n+2) / coP m n))
theorem fA_(m:List Rat)(n:Nat):∀k,(krE m n k).length=n+2
 |0=>by simp[krE]
 |k+1=>by rw[krE,List.length_set,fA_ m n k]
def okKr(m:List Rat)(n k:Nat):Prop:=(∀j,j< n+2→qs (coP (krE m n k) j)+qs (coP m (j+k))≤549755813888∧qs (krS (krE m n k) m k j)+qs (coP (krE m n k) j* coP m (j+k))≤549755813888)∧
 qs (krS (krE m n k) m k (n+2))+qs (coP m n)≤549755813888
theorem dvE_add(p q:List Rat)(x:Rat):dvE (addP p q) x=dvE p x+dvE q x:=by
 rw[←oM_];exact ns_ (fun i=>by rw[d0_,cV_]) x
theorem r0_(a x:Rat):dvE (dY_ a) x=0:=by
 show dvE (trimQ [a]) x=0
 rw[ns_ (q:=[a]) (bm_ [a]) x,cl_,aZ_]
 show(0:Rat)+0* x=0
 grind
theorem oL_(q:List Rat)(x:Rat):∀p,dvE (compP q p) x=dvE p (evalP q x) * dvE q x
 |[]=>by show(0:Rat)=0* _;grind
 |a::l=>by
  rw[compP,dvE_add,r0_,dvE_mul,oL_ q x l,dj_,cl_];grind
theorem cz_(u v x:Rat):evalP [u,v] x=u+v* x:=by rw[aE_,aE_,aZ_];grind
theorem dvE_uv(u v x:Rat):dvE [u,v] x=v:=by
 rw[cl_,cl_,aE_,aZ_]
 show(0* x+v)+(0+(0:Rat) * x) * x=v
 grind
def itP(a b:Rat)(p:List Rat):Rat:=evalP (aK_ p) b- evalP (aK_ p) a
theorem hE_{p q:List Rat}(h:∀i,coP p i=coP q i)(x:Rat):evalP (aK_ p) x=evalP (aK_ q) x:=
 cg_ (fun i=>by rw[bC_,bC_,h]) x
theorem iM_{p q:List Rat}(h:Eqv p q)(a b:Rat):itP a b p=itP a b q:=by
 have:=trim_iff.1 (eqv_trim.1 h)
 unfold itP;rw[hE_ this,hE_ this]
theorem q9_(a b:Rat)(p q:List Rat):itP a b (addP p q)=itP a b p+itP a b q:=by
 have e:∀x,evalP (aK_ (addP p q)) x=evalP (aK_ p) x+evalP (aK_ q) x:=fun x=>by
  rw[←bM_]
  refine cg_ (fun i=>?_) x
  rw[d0_ (aK_ p),bC_,bC_,bC_,d0_]
  by_cases h:i=0
  rw[if_pos h,if_pos h,if_pos h];grind
  rw[if_neg h,if_neg h,if_neg h];grind
 unfold itP;rw[e,e];grind
theorem eF_(a b:Rat)(p:List Rat)(k:Rat):itP a b (aJ_ p k)=itP a b p* k:=by
 have e:∀x,evalP (aK_ (aJ_ p k)) x=evalP (aK_ p) x* k:=fun x=>by
  rw[←aS_]
  refine cg_ (fun i=>?_) x
  rw[bp_ (aK_ p),bC_,bC_,bp_]
  by_cases h:i=0
  rw[if_pos h,if_pos h];grind
  rw[if_neg h,if_neg h];grind
 unfold itP;rw[e,e];grind
theorem nr_(p:List Rat)(x:Rat):dvE (aK_ p) x=evalP p x:=by
 rw[←hJ_,←bs_,jb_,bs_]
theorem nQ_pos'(n:Nat):(((n+1:Nat):Int):Rat)≠0:=fun e=>by
 have h:(((n+1:Nat):Int):Rat)=((0:Int):Rat):=e
 have:=Rat.intCast_inj.1 h
 omega
theorem e9_(G:List Rat)(y:Rat):evalP (aK_ (aY_ G)) y=evalP G y- coP G 0:=by
 rw[show evalP G y- coP G 0=evalP (subP G (dY_ (coP G 0))) y by rw[bL_,i3_]]
 refine cg_ (fun i=>?_) y
 rw[bC_,fl_,sb_]
 cases i with
 |zero=>rw[if_pos rfl,if_pos rfl];grind
 |succ i=>
  rw[if_neg (by omega),if_neg (by omega),ch_,Nat.add_sub_cancel,Rat.mul_div_cancel (nQ_pos' i)]
  grind
theorem q8_(c r:Rat)(p:List Rat):itP (c- r) (c+r) p=r* itP (-1) 1 (compP [c,r] p):=by
 have e:Eqv (aY_ (compP [c,r] (aK_ p))) (aJ_ (compP [c,r] p) r):=fun x=>by
  rw[hJ_,oL_,nr_,aS_,dj_,dvE_uv]
 have h1:=eF_ (-1) 1 (compP [c,r] p) r
 rw[←iM_ e] at h1
 have h2:itP (-1) 1 (aY_ (compP [c,r] (aK_ p)))=itP (c- r) (c+r) p:=by
  unfold itP
  rw[e9_,e9_,dj_,dj_,cz_,cz_,show c+r* 1=c+r by grind,show c+r* -1=c- r by grind]
  grind
 rw[←h2,h1];grind
theorem iT_(x:Rat):∀n,evalP (gK [1] n) x=x^ n
 |0=>by rw[Rat.pow_zero];show evalP [1] x=1;rw[aE_,aZ_];grind
 |n+1=>by rw[gK,aL_,iT_ x n,cz_,Rat.pow_succ];grind
theorem ofQ_it{a b:Rat}{m:List Rat}{N:Nat}(hm:∀i,i< N→coP m i=itP a b (gK [1] i))(p:List Rat):∀n,n≤N→n≤p.length→ofQ p m n=itP a b (p.take n)
 |0,_,_=>by
  show(0:Rat)=itP a b []
  unfold itP
  have e:∀x,evalP (aK_ []) x=0:=fun x=>en_ (fun i=>by
   rw[bC_];split
   rfl
   show(0:Rat) / _=0;grind) x
  rw[e,e];grind
 |n+1,h1,h2=>by
  rw[ofQ,ofQ_it hm p n (by omega) (by omega),hm n (by omega),iM_ (p:=p.take (n+1)) (q:=addP (p.take n) (aJ_ (gK [1] n) (coP p n))) (fun x=>by
   rw[di_ _ _ _ (by omega),bM_,aS_,iT_];grind),q9_,eF_]
  grind
theorem lE_{a b:Rat}{m:List Rat}{N:Nat}(hm:∀i,i< N→coP m i=itP a b (gK [1] i)){p:List Rat}(h:(trimQ p).length≤N):ofP m p=itP a b p:=by
 unfold ofP
 rw[ofQ_it hm _ _ h (Nat.le_refl _),List.take_length]
 exact iM_ (fun x=>bs_ p x) a b
theorem iD_(p q:List Rat)(n:Nat)(hp:p.length≤n+1)(hq:q.length≤n+1):(mulP p q).length≤2* n+1:=by
 by_cases h:p=[]
 subst h;unfold mulP;simp
 by_cases h2:q=[]
 subst h2;unfold mulP;simp
 have:=gp_ p q h
 omega
theorem mulP_line_len'(v:List Rat)(u w:Rat):(mulP v [u,w]).length≤v.length+1:=by
 by_cases h:v=[]
 subst h;unfold mulP;simp
 have:=gp_ v [u,w] h;simpa using this
theorem dV_(m:List Rat):∀k,(ldr m k).1.length≤k+1∧(ldr m k).2.1.length≤k+1
 |0=>⟨by simp[ldr],by simp[ldr]⟩
 |k+1=>by
  obtain⟨h1,h2⟩:=dV_ m k
  refine⟨?_,Nat.le_trans h1 (by omega)⟩
  show(subP (mulP (ldr m k).1 [-ldA m (ldr m k).1,1]) (aJ_ (ldr m k).2.1 (if k=0 then 0 else ldN m (ldr m k).1/ (ldr m k).2.2))).length≤_
  have a:=subP_len (mulP (ldr m k).1 [-ldA m (ldr m k).1,1]) (aJ_ (ldr m k).2.1 (if k=0 then 0 else ldN m (ldr m k).1/ (ldr m k).2.2))
  have b:=bT_ (ldr m k).2.1 (if k=0 then 0 else ldN m (ldr m k).1/ (ldr m k).2.2)
  have c:(mulP (ldr m k).1 [-ldA m (ldr m k).1,1]).length≤k+1+1:=by
   by_cases h:(ldr m k).1=[]
   rw[h];unfold mulP;simp
   have:=gp_ (ldr m k).1 [-ldA m (ldr m k).1,1] h
   simp only[List.length_cons,List.length_nil] at this
   omega
  omega
structure Mv (m m0:List Rat)(c r:Rat)(N:Nat):Prop where
 r0:r≠0
 h:∀i,i< N→coP m i=itP (c- r) (c+r) (gK [1] i)
 h0:∀i,i< N→coP m0 i=itP (-1) 1 (gK [1] i)
theorem Mv.of{m m0:List Rat}{c r:Rat}{N:Nat}(H:Mv m m0 c r N){p q:List Rat}{k:Rat}(hp:(trimQ p).length≤N)(hq:(trimQ q).length≤N)(e:∀y,evalP p (c+r* y)=k* evalP q y):ofP m p=r* k* ofP m0 q:=by
 rw[lE_ H.h hp,lE_ H.h0 hq,q8_,iM_ (p:=compP [c,r] p) (q:=aJ_ q k) (fun y=>by rw[dj_,cz_,e,aS_];grind),eF_]
 grind
theorem Mv.ldr{m m0:List Rat}{c r:Rat}{N:Nat}(H:Mv m m0 c r N):∀k,2* k≤N→(∀j,j< k→ldN m0 (ldr m0 j).1≠0)→
    (∀y,evalP (ldr m k).1 (c+r* y)=r^ k* evalP (ldr m0 k).1 y)∧(∀y,evalP (Go.Abs.ldr m k).2.1 (c+r* y) * r=r^ k* evalP (Go.Abs.ldr m0 k).2.1 y)∧(k≠0→(Go.Abs.ldr m k).2.2* r=r^ k* r^ k* (Go.Abs.ldr m0 k).2.2)
 |0,_,_=>⟨fun y=>by rw[Rat.pow_zero];show evalP [1] _=1* evalP [1] y;rw[aE_,aZ_,aE_,aZ_];grind,fun y=>by rw[Rat.pow_zero];show(0:Rat) * r=1* 0;grind,fun h=>absurd rfl h⟩
 |k+1,hk,hn=>by
  obtain⟨i1,i2,i3⟩:=Mv.ldr H k (by omega) fun j hj=>hn j (by omega)
  have hl:=(dV_ m k).1
  have hl0:=(dV_ m0 k).1
  have t1:∀p:List Rat,p.length≤k+1→(trimQ (mulP p p)).length≤N∧(trimQ (mulP (mulP p p) [0,1])).length≤N:=fun p hp=>by
   have a:=iD_ p p k hp hp
   have b:=a2_ (mulP p p)
   have c:=a2_ (mulP (mulP p p) [0,1])
   have d:=mulP_line_len' (mulP p p) 0 1
   omega
  have eN:ldN m (Go.Abs.ldr m k).1=r* (r^ k* r^ k) * ldN m0 (Go.Abs.ldr m0 k).1:=H.of (t1 _ hl).1 (t1 _ hl0).1 fun y=>by rw[aL_,aL_,i1];grind
  have hN0:=hn k (by omega)
  have hrk:r^ k≠0:=pow_ne H.r0 k
  have eA:ldA m (Go.Abs.ldr m k).1=c+r* ldA m0 (Go.Abs.ldr m0 k).1:=by
   have e1:ofP m (mulP (mulP (Go.Abs.ldr m k).1 (Go.Abs.ldr m k).1) [0,1])=r* (r^ k* r^ k) * ofP m0 (addP (aJ_ (mulP (Go.Abs.ldr m0 k).1 (Go.Abs.ldr m0 k).1) c) (aJ_ (mulP (mulP (Go.Abs.ldr m0 k).1 (Go.Abs.ldr m0 k).1) [0,1]) r)):=
    H.of (t1 _ hl).2 (by
     have a:=gR_ (aJ_ (mulP (Go.Abs.ldr m0 k).1 (Go.Abs.ldr m0 k).1) c) (aJ_ (mulP (mulP (Go.Abs.ldr m0 k).1 (Go.Abs.ldr m0 k).1) [0,1]) r)
     have b:=bT_ (mulP (Go.Abs.ldr m0 k).1 (Go.Abs.ldr m0 k).1) c
     have d:=bT_ (mulP (mulP (Go.Abs.ldr m0 k).1 (Go.Abs.ldr m0 k).1) [0,1]) r
     have e:=iD_ _ _ k hl0 hl0
     have f:=mulP_line_len' (mulP (Go.Abs.ldr m0 k).1 (Go.Abs.ldr m0 k).1) 0 1
     have g:=a2_ (addP (aJ_ (mulP (Go.Abs.ldr m0 k).1 (Go.Abs.ldr m0 k).1) c) (aJ_ (mulP (mulP (Go.Abs.ldr m0 k).1 (Go.Abs.ldr m0 k).1) [0,1]) r))
     omega) fun y=>by
      rw[aL_,aL_,i1,cz_,bM_,aS_,aS_,aL_,aL_,aL_,cz_];grind
   have e2:ofP m0 (addP (aJ_ (mulP (Go.Abs.ldr m0 k).1 (Go.Abs.ldr m0 k).1) c) (aJ_ (mulP (mulP (Go.Abs.ldr m0 k).1 (Go.Abs.ldr m0 k).1) [0,1]) r))=c* ldN m0 (Go.Abs.ldr m0 k).1+r* ofP m0 (mulP (mulP (Go.Abs.ldr m0 k).1 (Go.Abs.ldr m0 k).1) [0,1]):=by
    have hA:=t1 _ hl0
    have a:=gR_ (aJ_ (mulP (Go.Abs.ldr m0 k).1 (Go.Abs.ldr m0 k).1) c) (aJ_ (mulP (mulP (Go.Abs.ldr m0 k).1 (Go.Abs.ldr m0 k).1) [0,1]) r)
    have b:=bT_ (mulP (Go.Abs.ldr m0 k).1 (Go.Abs.ldr m0 k).1) c
    have d:=bT_ (mulP (mulP (Go.Abs.ldr m0 k).1 (Go.Abs.ldr m0 k).1) [0,1]) r
    have e:=iD_ _ _ k hl0 hl0
    have f:=mulP_line_len' (mulP (Go.Abs.ldr m0 k).1 (Go.Abs.ldr m0 k).1) 0 1
    have g:=a2_ (addP (aJ_ (mulP (Go.Abs.ldr m0 k).1 (Go.Abs.ldr m0 k).1) c) (aJ_ (mulP (mulP (Go.Abs.ldr m0 k).1 (Go.Abs.ldr m0 k).1) [0,1]) r))
    rw[lE_ H.h0 (by omega),q9_,eF_,eF_]
    unfold ldN
    rw[lE_ H.h0 hA.1,lE_ H.h0 hA.2]
    grind
   unfold ldA
   rw[e1,e2,eN]
   have h1:r* (r^ k* r^ k)≠0:=fun e=>by
    rcases Rat.mul_eq_zero.1 e with e|e
    exact H.r0 e
    rcases Rat.mul_eq_zero.1 e with e|e <;> exact hrk e
   generalize r* (r^ k* r^ k)=z at *
   generalize ldN m0 (Go.Abs.ldr m0 k).1=w at *
   grind
  have eB:(if k=0 then 0 else ldN m (Go.Abs.ldr m k).1/ (Go.Abs.ldr m k).2.2)=r* r* (if k=0 then 0 else ldN m0 (Go.Abs.ldr m0 k).1/ (Go.Abs.ldr m0 k).2.2):=by
   by_cases h:k=0
   rw[if_pos h,if_pos h];grind
   rw[if_neg h,if_neg h,eN]
   have h3:=i3 h
   have h4:(Go.Abs.ldr m0 k).2.2≠0:=by
    cases k with
    |zero=>exact absurd rfl h
    |succ j=>exact hn j (by omega)
   have hr0:=H.r0
   have h5:(Go.Abs.ldr m k).2.2≠0:=fun e=>by
    rw[e] at h3
    have:r^ k* r^ k* (Go.Abs.ldr m0 k).2.2≠0:=fun e=>by
     rcases Rat.mul_eq_zero.1 e with e|e
     rcases Rat.mul_eq_zero.1 e with e|e <;> exact hrk e
     exact h4 e
    grind
   generalize ldN m0 (Go.Abs.ldr m0 k).1=w at *
   generalize (Go.Abs.ldr m0 k).2.2=v at *
   generalize (Go.Abs.ldr m k).2.2=u at *
   generalize r^ k=s at *
   have h6:u=s* s* v/ r:=by rw[←h3];exact(Rat.mul_div_cancel hr0).symm
   rw[h6]
   grind
  refine⟨fun y=>?_,fun y=>?_,fun _=>?_⟩
  show evalP (subP (mulP (Go.Abs.ldr m k).1 [-ldA m (Go.Abs.ldr m k).1,1]) (aJ_ (Go.Abs.ldr m k).2.1 _)) _=_* evalP (subP (mulP (Go.Abs.ldr m0 k).1 [-ldA m0 (Go.Abs.ldr m0 k).1,1]) (aJ_ (Go.Abs.ldr m0 k).2.1 _)) y
  rw[bL_,bL_,aL_,aL_,aS_,aS_,cz_,cz_,i1,eA,eB,Rat.pow_succ]
  have h2:=i2 y
  generalize evalP (Go.Abs.ldr m k).2.1 (c+r* y)=w at *
  generalize evalP (Go.Abs.ldr m0 k).2.1 y=w0 at *
  generalize (if k=0 then 0 else ldN m0 (Go.Abs.ldr m0 k).1/ (Go.Abs.ldr m0 k).2.2)=B at *
  have:w* (r* r* B)=r^ k* w0* r* B:=by rw[←h2];grind
  rw[this];grind
  show evalP (Go.Abs.ldr m k).1 (c+r* y) * r=_* evalP (Go.Abs.ldr m0 k).1 y
  rw[i1,Rat.pow_succ];grind
  show ldN m (Go.Abs.ldr m k).1* r=_* ldN m0 (Go.Abs.ldr m0 k).1
  rw[eN,Rat.pow_succ];grind
theorem nF_{e:Int}(he:e=1∨e= -1):∀(l:List Int) (t:Int),(t=1∨t= -1)→(∀s∈l,-1≤s∧s≤1)→(t::l).getLast?=some e→chL l 0 t % 2=if t=e then 0 else 1
 |[],t,ht,_,h=>by
  have:t=e:=by simpa using h
  rw[if_pos this];rfl
 |s::l,t,ht,hs,h=>by
  have h0:=hs s (List.mem_cons_self ..)
  by_cases hz:s≠0
  have ih:=nF_ he l s (by omega) (fun x hx=>hs x (List.mem_cons_of_mem _ hx)) (by rwa[List.getLast?_cons_cons] at h)
  rw[chL,if_pos hz,jj_]
  by_cases h1:s=e
  rw[if_pos h1] at ih
  by_cases h2:s= -t
  rw[if_pos h2,if_neg (by omega)];omega
  rw[if_neg h2,if_pos (by omega)];omega
  rw[if_neg h1] at ih
  by_cases h2:s= -t
  rw[if_pos h2,if_pos (by omega)];omega
  rw[if_neg h2,if_neg (by omega)];omega
  have hz0:s=0:=by omega
  rw[chL,if_neg hz]
  refine nF_ he l t ht (fun x hx=>hs x (List.mem_cons_of_mem _ hx)) ?_
  rw[List.getLast?_cons_cons,List.getLast?_cons] at h
  rw[List.getLast?_cons]
  cases hl:l.getLast? with
  |none=>rw[hl] at h;simp at h;omega
  |some y=>rw[hl] at h;exact h
theorem Ch.last{u:List Rat}{L:List (List Rat)}(H:Ch u L):∃e:Int,(e=1∨e= -1)∧∀x,((u::L).map (sgE x)).getLast?=some e:=by
 induction H with
 | @one u c hc hu=>
  have h:=Ch.sg (.one hc hu) 0
  have hb:=ej_ 0 u
  refine⟨sgE 0 u,by have:=(h 0).2;omega,fun x=>?_⟩
  show some (sgE x u)=_
  rw[(h x).1]
 | @pair u v _ ih=>
  obtain⟨e,he,h⟩:=ih
  refine⟨e,he,fun x=>?_⟩
  rw[List.map_cons,List.map_cons,List.getLast?_cons_cons]
  exact h x
 | @step u v w L a c q _ _ _ _ ih=>
  obtain⟨e,he,h⟩:=ih
  refine⟨e,he,fun x=>?_⟩
  rw[List.map_cons,List.map_cons,List.getLast?_cons_cons]
  exact h x
theorem Ch.drop{u v:List Rat}{L:List (List Rat)}{k:Rat}(H:Ch u (v::L))(hk:0< k)(hd:∀x,evalP v x=k* dvE u x){x y:Rat}(hxy:x≤y)(hs:evalP u x* evalP u y< 0):chV (u::v::L) y+1≤chV (u::v::L) x:=by
 have h1:=H.fall hk hd hxy
 obtain⟨e,he,h⟩:=H.last
 have key:∀z,sgE z u≠0→chV (u::v::L) z % 2=if sgE z u=e then 0 else 1:=fun z hz=>by
  have hb:=ej_ z u
  unfold chV
  rw[List.map_cons,chL,if_pos hz,if_neg (by omega)]
  exact nF_ he _ _ (by omega) (fun s hs=>by
   obtain⟨q,_,rfl⟩:=List.mem_map.1 hs
   exact ej_ z q) (by have:=h z;rwa[List.map_cons] at this)
 have hx0:sgE x u≠0∧sgE y u≠0∧sgE x u≠sgE y u:=by
  rcases dO_ x u with⟨a,b⟩|⟨a,b⟩|⟨a,b⟩<;> rcases dO_ y u with⟨a',b'⟩|⟨a',b'⟩|⟨a',b'⟩
  have:=Rat.mul_pos b b';grind
  omega
  rw[b'] at hs;grind
  omega
  have:=Rat.mul_pos (show 0< -evalP u x by grind) (show 0< -evalP u y by grind);grind
  rw[b'] at hs;grind
  rw[b] at hs;grind
  rw[b] at hs;grind
  rw[b] at hs;grind
 have kx:=key x hx0.1
 have ky:=key y hx0.2.1
 have bx:=ej_ x u
 have bY:=ej_ y u
 by_cases hh:sgE x u=e
 rw[if_pos hh] at kx;rw[if_neg (by omega)] at ky;omega
 rw[if_neg hh] at kx;rw[if_pos (by omega)] at ky;omega
theorem lI_(p q:List Rat):(mulP p q).length≤p.length+q.length- 1:=by
 by_cases h:p=[]
 subst h;unfold mulP;simp
 exact gp_ p q h
theorem div_one(q:List Rat):(divP q [1]).1=trimQ q:=by
 have h1:nz [1]:=nz_one
 obtain⟨m1,m2⟩:=iE_ q h1
 have hd1:dg [1]=0:=by decide+kernel
 have hz:¬nz (md q [1]):=fun e=>by have:=m2 e;omega
 have:trimQ (divP q [1]).1=trimQ q:=eqv_trim.1 fun x=>by
  have:=m1 x
  rw[e5_ hz,aE_,aZ_] at this
  rw[this];grind
 rw[←this];exact(trim_div q [1]).1.symm
structure Lin (φ:List Rat→Rat):Prop where
 eqv:∀{p q},Eqv p q→φ p=φ q
 add:∀p q,φ (addP p q)=φ p+φ q
 scale:∀p k,φ (aJ_ p k)=φ p* k
theorem Lin.zero{φ:List Rat→Rat}(H:Lin φ):φ []=0:=by
 have h:=H.scale [] 0
 rw[H.eqv (p:=aJ_ [] 0) (q:=[]) fun x=>by rw[aS_,aZ_];grind] at h
 rw[h];grind
theorem lin_it(a b:Rat):Lin (itP a b):=⟨fun h=>iM_ h a b,q9_ a b,eF_ a b⟩
theorem Lin.ofQ{φ:List Rat→Rat}(H:Lin φ){m:List Rat}{N:Nat}(hm:∀i,i< N→coP m i=φ (gK [1] i))(p:List Rat):∀n,n≤N→n≤p.length→ofQ p m n=φ (p.take n)
 |0,_,_=>H.zero.symm
 |n+1,h1,h2=>by
  rw[Go.Abs.ofQ,Lin.ofQ H hm p n (by omega) (by omega),hm n (by omega),H.eqv (p:=p.take (n+1)) (q:=addP (p.take n) (aJ_ (gK [1] n) (coP p n))) (fun x=>by
   rw[di_ _ _ _ (by omega),bM_,aS_,iT_];grind),H.add,H.scale]
  grind
theorem coP_x(p:List Rat)(j:Nat):coP (mulP p [0,1]) j=lag p j:=by rw[coP_line];grind
theorem gH_(p:List Rat)(u v:Rat)(n:Nat):coP (mulP p [u,v]) n=coP p n* u+lag p n* v:=by
 have e:trimQ (mulP p [u,v])=trimQ (mulP [u,v] p):=fD_ fun x=>by rw[aL_,aL_];grind
 rw[trim_iff.1 e n,ga_]
 show coP (addL (eN_ p u) (0::addL (eN_ p v) (0::[]))) n=_
 rw[cV_,cv_]
 cases n with
 |zero=>rw[cm_];show _=_+0* v;grind
 |succ m=>
  rw[bQ_,cV_,cv_]
  have:coP [(0:Rat)] m=0:=by cases m <;> rfl
  rw[this];show _+(coP p m* v+0)=_+coP p m* v;grind
theorem nz_line(r:Rat):nz [-r,1]∧dg [-r,1]=1:=by
 have h:=go_ (p:=[-r,1]) (n:=1) ⟨by show(1:Rat)≠0;decide+kernel,fun i hi=>cn_ (by simp;omega)⟩
 exact⟨h.1,h.2.1⟩
theorem cancel{X Y:List Rat}{r:Rat}(h:∀x,evalP X x* (x- r)=evalP Y x* (x- r)):Eqv X Y:=by
 have hz:¬nz (subP X Y):=fun hz=>by
  have h2:=(dg_mul hz (nz_line r).1).1
  refine h2 (trim_nil_iff.2 (hI_ fun x=>?_))
  have:=h x
  rw[aL_,bL_,cz_];grind
 intro x
 have:=e5_ hz x
 rw[bL_] at this;grind
def gJ(m:List Rat):Nat→List Rat
 |0=>[]
 |j+1=>coP m j::gJ m j
theorem coP_gJ(m:List Rat):∀j i,coP (gJ m j) i=if i< j then coP m (j- 1- i) else 0
 |0,i=>by rw[if_neg (by omega)];rfl
 |j+1,0=>by rw[if_pos (by omega)];rfl
 |j+1,i+1=>by
  show coP (gJ m j) i=_
  rw[coP_gJ m j i]
  by_cases h:i< j
  rw[if_pos h,if_pos (by omega)];congr 1;omega
  rw[if_neg h,if_neg (by omega)]
def tL(p m:List Rat):Nat→List Rat
 |0=>[]
 |j+1=>addL (tL p m j) (eN_ (gJ m j) (coP p j))
theorem coP_tL(p m:List Rat)(i:Nat):∀j,coP (tL p m j) i=tpV p m i j
 |0=>rfl
 |j+1=>by
  rw[tL,cV_,cv_,coP_tL p m i j,coP_gJ,tpV]
  by_cases h:i< j
  rw[if_pos h,if_pos h];grind
  rw[if_neg h,if_neg h];grind
theorem p8_(p m:List Rat)(i:Nat):∀j,j≤i+1→tpV p m i j=0
 |0,_=>rfl
 |j+1,h=>by rw[tpV,if_neg (by omega),p8_ p m i j (by omega)]
theorem rU_(p m:List Rat)(x:Rat):evalP (tpQ p m) x=evalP (tL p m p.length) x:=cg_ (fun i=>by
 unfold tpQ
 rw[dZ_,coP_tL]
 by_cases h:i< p.length- 1
 rw[if_pos h]
 rw[if_neg h,p8_ _ _ _ _ (by omega)]) x
def GL(x:Rat):Nat→List Rat
 |0=>[]
 |j+1=>addP (aJ_ (GL x j) x) (gK [1] j)
theorem sw_(x t:Rat):∀j,evalP (GL x j) t* (t- x)=t^ j- x^ j
 |0=>by show(0:Rat) * _=_;rw[Rat.pow_zero,Rat.pow_zero];grind
 |j+1=>by
  have:=sw_ x t j
  rw[GL,bM_,aS_,iT_,Rat.pow_succ,Rat.pow_succ];grind
theorem p9_{φ:List Rat→Rat}(H:Lin φ){m:List Rat}{N:Nat}(hm:∀i,i< N→coP m i=φ (gK [1] i))(p:List Rat)(hp:p.length≤N+1)(x:Rat):evalP (tpQ p m) x=φ (synD p x):=by
 have hG:∀j,j≤N→φ (GL x j)=evalP (gJ m j) x:=fun j=>by
  induction j with
  |zero=>intro _;exact H.zero
  |succ j ih=>intro hj;rw[GL,H.add,H.scale,ih (by omega),←hm j (by omega),gJ,aE_]
 have key:∀j,j≤p.length→φ (synD (p.take j) x)=evalP (tL p m j) x:=fun j=>by
  induction j with
  |zero=>intro _;exact H.zero
  |succ j ih=>
   intro hj
   rw[H.eqv (p:=synD (p.take (j+1)) x) (q:=addP (synD (p.take j) x) (aJ_ (GL x j) (coP p j))) (cancel (r:=x) fun t=>by
    have a1:=eg_ (p.take (j+1)) x t
    have a2:=eg_ (p.take j) x t
    have a3:=sw_ x t j
    rw[di_ _ _ _ (by omega),di_ _ _ _ (by omega)] at a1
    rw[bM_,aS_]
    generalize evalP (synD (p.take (j+1)) x) t=w1 at *
    generalize evalP (synD (p.take j) x) t=w2 at *
    generalize evalP (GL x j) t=w3 at *
    grind),H.add,H.scale,ih (by omega),hG j (by omega),tL,eo_,eb_]
 rw[rU_,←key p.length (Nat.le_refl _),List.take_length]
theorem Mv.top{m m0:List Rat}{c r:Rat}{N:Nat}(H:Mv m m0 c r N){p p0:List Rat}{κ:Rat}(hp:p.length≤N+1)(hp0:p0.length≤N+1)(e:∀y,evalP p (c+r* y)=κ* evalP p0 y)(y:Rat):evalP (tpQ p m) (c+r* y)=κ* evalP (tpQ p0 m0) y:=by
 rw[p9_ (lin_it _ _) H.h p hp,p9_ (lin_it _ _) H.h0 p0 hp0,q8_,iM_ (p:=compP [c,r] (synD p (c+r* y))) (q:=aJ_ (synD p0 y) (κ/ r)) (cancel (r:=y) fun t=>by
  have a1:=eg_ p (c+r* y) (c+r* t)
  have a2:=eg_ p0 y t
  have h0:=H.r0
  rw[e,e] at a1
  rw[dj_,cz_,aS_]
  generalize evalP (synD p (c+r* y)) (c+r* t)=w1 at *
  generalize evalP (synD p0 y) t=w2 at *
  have:w1* (t- y) * r=κ* (w2* (t- y)):=by grind
  generalize w1* (t- y)=z at *
  have:z=κ* (w2* (t- y)) / r:=by rw[←this];exact(Rat.mul_div_cancel h0).symm
  rw[this];grind),eF_]
 have h0:=H.r0
 generalize itP (-1) 1 (synD p0 y)=z
 grind
def bN:Nat→List Rat
 |1=>[0,1]
 |2=>[mkRat (-1) 3,0,1]
 |3=>[0,mkRat (-3) 5,0,1]
 |4=>[mkRat 3 35,0,mkRat (-6) 7,0,1]
 |_=>[1]
def bWt:Nat→List Rat
 |1=>[2]
 |2=>[1]
 |3=>[mkRat 8 9,0,mkRat (-5) 9]
 |4=>[mkRat 17 24,0,mkRat (-35) 72]
 |_=>[]
def bA:Nat→List Rat
 |2=>[-3]
 |3=>[0,mkRat (-25) 2]
 |4=>[mkRat 35 3,0,mkRat (-1225) 24]
 |_=>[]
def bB:Nat→List Rat
 |1=>[1]
 |2=>[0,mkRat 3 2]
 |3=>[mkRat (-5) 3,0,mkRat 25 6]
 |4=>[0,mkRat (-805) 96,0,mkRat 1225 96]
 |_=>[]
def bX(k i:Nat):Rat:=
 if i=0 then -1 else if i=k then 1 else if k=2 then 0 else if i=1 then mkRat (-1) 2 else if k=4∧i=2 then 0 else mkRat 1 2
def m0K(k:Nat):List Rat:=sqL (moQ [1] (-1,1)) (2* k)
def baseC(k:Nat):Prop:=
 (∀j,j< k+1→(ldr (m0K k) j).1=bN j)∧(∀j,j< k→0< ldN (m0K k) (ldr (m0K k) j).1)∧(bN k).length=k+1∧coP (bN k) k=1∧addP (mulP (bA k) (bN k)) (mulP (bB k) (aY_ (bN k)))=[1]∧
 (divP (subP (mulP (bWt k) (aY_ (bN k))) (tpQ (bN k) (m0K k))) (bN k)).2=[]∧(bWt k).length≤k∧(∀i,i< k→bX k i< bX k (i+1))∧(∀i,i< k→evalP (bN k) (bX k i) * evalP (bN k) (bX k (i+1))< 0)∧
 (∀j,j< k+1→bdL (bN j) 8∧(bN j).length≤5)∧bdL (bWt k) 8
instance (k:Nat):Decidable (baseC k):=by unfold baseC;infer_instance
section
variable {a b:Rat}(h:a< b){k:Nat}(hk:1≤k∧k≤4)
include h hk
end

theorem bdL_mono'{l:List Rat}{a b:Nat}(h:bdL l a)(hab:a≤b):bdL l b:=fun q hq=>Nat.le_trans (h q hq) hab
section
variable {a b:Rat}(h:a< b){k:Nat}(hk:1≤k∧k≤4)(ha:qs a≤20)(hb:qs b≤20)
include ha hb
end
section
variable {a b:Rat}(h:a< b){k:Nat}(hk:1≤k∧k≤4)
include h hk
variable (ha:qs a≤20)(hb:qs b≤20)
include ha hb
end
section
variable {a b:Rat}(h:a< b){k:Nat}(hk:1≤k∧k≤4)(ha:qs a≤20)(hb:qs b≤20)
include h hk ha hb
end
section
variable {a b a' b':Rat}(h:a< b)(h':a'< b'){k:Nat}(hk:1≤k∧k≤4)
include h h'
end
section
variable {a b a' b':Rat}(ha:qs a≤20)(hb:qs b≤20)(ha':qs a'≤20)(hb':qs b'≤20)
include ha hb ha' hb'
end
def okReC(c:Cnt)(p:List Rat):Prop:=okBe c (-cB_ p)∧okUp c (cB_ p)∧smS (-cB_ p,cB_ p)∧e4_ p∧p.length≤1000∧1≤degP p∧degP p≤25
instance (c:Cnt) (p:List Rat):Decidable (okReC c p):=by unfold okReC;infer_instance
def realM(f:Nat)(p:List Rat):Option Bool:=(dX_ f p).bind fun c=>if okReC c p then some (decide (uptoV c (cB_ p)- gN_ c (-cB_ p)=degP p)) else none
def okOnC(p m G A:List Rat):Prop:=okBz (aY_ p) p G A∧okMul (tpQ p m) (bzA p G A)∧okDiv (mulP (tpQ p m) (bzA p G A)) p∧trimQ p=p∧2≤p.length∧p.length≤1000∧p.length≤m.length+1∧(p.length+1) * (mxL p+mxL m+1)≤137438953472∧smL p
instance (p m G A:List Rat):Decidable (okOnC p m G A):=by unfold okOnC;infer_instance
def onM(f:Nat)(p m:List Rat):Option (List Rat):=(bzL f (aY_ p) p (dY_ ((1:Int):Rat)) []).bind fun x=>if okOnC p m x.1 x.2 then some (divP (mulP (tpQ p m) (bzA p x.1 x.2)) p).2 else none
def suP(p:List Rat):List Rat:=suL (trimQ p) (dg p) (dg p- 1)
def apV(p w f:List Rat):Rat:=ofQ (apR p w f) (suP p) (apR p w f).length
instance (T:List Rat) (n k:Nat):Decidable (okSu T n k):=by unfold okSu;infer_instance
instance (f:List Rat) (s:Sp) (k:Nat):Decidable (okMo f s k):=by unfold okMo smL;infer_instance
def okAp(p w f:List Rat):Prop:=okDiv f p∧okMul w (divP f p).2∧okDiv (mulP w (divP f p).2) p∧1≤dg p∧dg p≤1000∧p.length≤1000∧(∀k,k< dg p- 1→okSu (trimQ p) (dg p) k)∧(apR p w f).length≤dg p∧((apR p w f).length+2) * (mxL (apR p w f)+mxL (suP p)+1)≤137438953472∧sm (apV p w f)
instance (p w f:List Rat):Decidable (okAp p w f):=by unfold okAp;infer_instance
def m6:List Rat:=sqL (moQ [1] (-1,1)) 6
def p13:List Rat:=[mkRat (-1) 3,0,1]
def p35:List Rat:=[0,mkRat (-3) 5,0,1]
def w35:List Rat:=[mkRat 8 9,0,mkRat (-5) 9]
def pRa:List Rat:=[mkRat (-1) 3,mkRat 2 3,1]
def wRa:List Rat:=[mkRat 5 4,mkRat 3 4]
def mRa:List Rat:=sqL (tmQ (enM (-1)) m6) (m6.length+1- (trimQ (enM (-1))).length)
def mKr:List Rat:=sqL (tmQ (ldr m6 1).1 m6) (m6.length+1- (trimQ (ldr m6 1).1).length)
theorem c_m6:m6=[2,0,mkRat 2 3,0,mkRat 2 5,0]:=by decide+kernel
theorem c_ok:(∀k,k< 2→okLd m6 k)∧(∀k,k< 6→okMo [1] (-1,1) k):=by decide+kernel
theorem c_g:(ldr m6 2).1=p13∧realM 9 p13=some true∧onM 9 p13 m6=some [1]∧bf_ p13=p13∧bdL p13 100∧trimQ p13≠[]:=by decide+kernel
theorem c_d:(∀k,k< 5→okAp p13 [1] (List.replicate k 0++[((1:Int):Rat)]))∧(∀k,k< 4→apV p13 [1] (List.replicate k 0++[((1:Int):Rat)])=coP m6 k)∧apV p13 [1] (List.replicate 4 0++[((1:Int):Rat)])≠coP m6 4:=by decide+kernel
theorem c_k:okMul (ldr m6 1).1 (ldr m6 1).1∧okOf m6 (mulP (ldr m6 1).1 (ldr m6 1).1)∧0< ldN m6 (ldr m6 1).1∧4≤mKr.length∧coP mKr 1≠0∧okMul (ldr m6 1).1 (krE mKr 1 2)∧mulP (ldr m6 1).1 (krE mKr 1 2)=p35∧bdL (ldr m6 1).1 100∧bdL m6 100∧(ldr m6 1).1.length≤1000:=by decide+kernel
instance (m:List Rat) (n k:Nat):Decidable (okKr m n k):=by unfold okKr;infer_instance
theorem c_kk:∀k,k< 2→okKr mKr 1 k:=by decide+kernel
theorem c_kp:realM 9 p35=some true∧onM 9 p35 m6=some w35∧bf_ p35=p35∧bdL p35 100∧trimQ p35≠[]:=by decide+kernel
theorem c_r:(∀k,k< 1→okLd mRa k)∧okMul (enM (-1)) (ldr mRa 1).1∧mulP (enM (-1)) (ldr mRa 1).1=pRa∧realM 9 pRa=some true∧onM 9 pRa m6=some wRa∧bf_ pRa=pRa∧bdL pRa 100∧trimQ pRa≠[]∧bdL (enM (-1)) 100:=by decide+kernel
def lB:Nat→Nat
 |0=>1
 |n+1=>2* lB n+600
theorem e8_:∀n,1≤lB n
 |0=>Nat.le_refl _
 |n+1=>by rw[lB];omega
theorem lB_ok:((List.range 9).all fun n=>decide (lB n≤160000))=true:=by decide+kernel
theorem lB_le{n:Nat}(h:n≤8):lB n≤160000:=of_decide_eq_true (List.all_eq_true.1 lB_ok n (List.mem_range.2 (by omega)))
theorem bd_uv{u v:Rat}{s:Nat}(hu:qs u≤s)(hv:qs v≤s):bdL [u,v] s:=fun q hq=>by
 rcases List.mem_cons.1 hq with rfl|hq
 exact hu
 rw[List.mem_singleton.1 hq];exact hv
theorem je_{l:List Rat}{q:Rat}(h:q∈l):∃i,i< l.length∧coP l i=q:=by
 obtain⟨i,hi,e⟩:=List.getElem_of_mem h
 exact⟨i,hi,by rw[←e];unfold coP;rw[List.getD_eq_getElem?_getD,List.getElem?_eq_getElem hi];rfl⟩
theorem line_bd{p:List Rat}{u v:Rat}{s:Nat}(hp:bdL p s)(hs:1≤s)(hu:qs u≤256)(hv:qs v≤256):bdL (mulP p [u,v]) (2* s+600):=fun q hq=>by
 obtain⟨i,_,e⟩:=je_ hq
 rw[←e,gH_]
 have h1:=gl_ (coP p i* u) (lag p i* v)
 have h2:=bZ_ (coP p i) u
 have h3:=bZ_ (lag p i) v
 have h4:=bE_ hp hs i
 have h5:qs (lag p i)≤s:=by
  cases i with
  |zero=>show qs 0≤s;exact Nat.le_trans (by decide) hs
  |succ i=>exact bE_ hp hs i
 omega
theorem gn_{u v:Rat}(hu:qs u≤256)(hv:qs v≤256):∀n,bdL (powP [u,v] n) (lB n)
 |0=>fun q hq=>by
  have:=bl_ (l:=[1]) hq
  rw[List.mem_singleton.1 this]
  show qs 1≤1
  decide
 |n+1=>line_bd (gn_ hu hv n) (e8_ n) hu hv
theorem qiN(n:Int):qs (n:Rat)≤max (bl n.natAbs) 1:=by
 have e1:(n:Rat).num=n:=rfl
 have e2:(n:Rat).den=1:=rfl
 unfold qs;rw[e1,e2,kc_];exact Nat.le_refl _
theorem qi21{n:Int}(h: -2000000≤n∧n≤2000000):qs (n:Rat)≤21:=by
 have h1:=qiN n
 have h2:bl n.natAbs≤21:=bl_le (by omega)
 omega
theorem iN_{p:List Rat}{s:Nat}(h:bdL p s)(hs:1≤s)(hl:p.length≤1000000):bdL (aK_ p) (s+21):=fun q hq=>by
 obtain⟨i,hi,e⟩:=je_ hq
 have hil:=dD_ p
 rw[←e,bC_]
 split
 exact Nat.le_trans (by decide:qs 0≤1) (by omega)
 have h1:=dy_ (coP p (i- 1)) (((i:Nat):Int):Rat)
 have h2:=bE_ h hs (i- 1)
 have h3:=qi21 (n:=((i:Nat):Int)) (by omega)
 omega
theorem gK_bd{f:List Rat}{s:Nat}(h:bdL f s)(hs:1≤s):∀k,bdL (gK f k) s
 |0=>h
 |k+1=>fun q hq=>by
  obtain⟨i,hi,e⟩:=je_ hq
  rw[←e,gK,gH_,Rat.mul_zero,Rat.zero_add,Rat.mul_one]
  cases i with
  |zero=>exact Nat.le_trans (by decide:qs 0≤1) hs
  |succ i=>exact bE_ (gK_bd h hs k) hs i
theorem ri_(f:List Rat):∀k,(gK f k).length≤f.length+k
 |0=>Nat.le_refl _
 |k+1=>by
  have h1:=ri_ f k
  have h2:=mulP_line_len' (gK f k) 0 1
  rw[gK];omega
def jcF(a b:Rat)(p q:Nat):List Rat:=mulP (powP [-a,1] p) (powP [b,-1] q)
section
variable {a b:Rat}{p q:Nat}(ha:qs a≤256)(hb:qs b≤256)(hp:p≤8)(hq:q≤8)
include ha in
theorem jc_p:bdL (powP [-a,1] p) (lB p):=gn_ (by rw[eQ_];exact ha) (by decide) p
include hb in
theorem jc_q:bdL (powP [b,-1] q) (lB q):=gn_ hb (by decide) q
omit ha hb hp hq in
theorem dA_(u v:Rat){n:Nat}(h:n≤8):(powP [u,v] n).length≤17:=by
 have:=gm_ [u,v] n
 have e:[u,v].length=2:=rfl
 rw[e] at this;omega
include ha hb hp hq
theorem q7_:bdL (jcF a b p q) 5500000∧(jcF a b p q).length≤34:=by
 have l1:=dA_ (-a) 1 hp
 have l2:=dA_ b (-1) hq
 constructor
 intro x hx
 have h1:=kw_ (jc_p (p:=p) ha) (jc_q (q:=q) hb) (e8_ p) (e8_ q) x hx
 have h2:=lB_le hp
 have h3:=lB_le hq
 have h4:=Nat.mul_le_mul l1 (show lB p+lB q+1≤320001 by omega)
 omega
 have:=m1_ (powP [-a,1] p) (powP [b,-1] q)
 show(mulP _ _).length≤_
 omega
theorem jc_mom(k:Nat)(hk:k≤64):okMo (jcF a b p q) (a,b) k∧qs (moQ (jcF a b p q) (a,b) k)≤2000000000:=by
 obtain⟨f1,f2⟩:=q7_ ha hb hp hq
 have g1:=gK_bd f1 (by decide) k
 have g2:=ri_ (jcF a b p q) k
 have i1:=iN_ g1 (by decide) (by omega)
 have i2:=dD_ (gK (jcF a b p q) k)
 have m1:=dc_ g1 (by decide)
 have m2:=dc_ i1 (by decide)
 have e1:=ec_ (x:=a) ha i1
 have e2:=ec_ (x:=b) hb i1
 have e3:=Nat.mul_le_mul_right (5500000+21+256+1) (show(aK_ (gK (jcF a b p q) k)).length≤99 by omega)
 have e4:=Nat.mul_le_mul (show(aK_ (gK (jcF a b p q) k)).length≤99 by omega) (show mxL (aK_ (gK (jcF a b p q) k))+qs a+1≤5600000 by omega)
 have e5:=Nat.mul_le_mul (show(aK_ (gK (jcF a b p q) k)).length≤99 by omega) (show mxL (aK_ (gK (jcF a b p q) k))+qs b+1≤5600000 by omega)
 have e7:mxL [0,1]=1:=by decide+kernel
 have e6:=Nat.mul_le_mul (show(gK (jcF a b p q) k).length≤98 by omega) (show mxL (gK (jcF a b p q) k)+mxL [0,1]+1≤5600000 by omega)
 refine⟨⟨fun q hq=>Nat.le_trans (g1 q hq) (by decide),by omega,⟨by show _* (_+qs a+1)+_+qs a+2≤_;omega,by omega⟩,⟨by show _* (_+qs b+1)+_+qs b+2≤_;omega,by omega⟩,⟨by omega,by omega,by omega,by simp⟩⟩,?_⟩
 have:=qy_ (evalP (aK_ (gK (jcF a b p q) k)) b) (evalP (aK_ (gK (jcF a b p q) k)) a)
 show qs (evalP (aK_ (gK (jcF a b p q) k)) b- evalP (aK_ (gK (jcF a b p q) k)) a)≤_
 omega
end
def fcN:Nat→Nat
 |0=>1
 |n+1=>fcN n* (n+1)
def lgQ(p k:Nat):Rat:=((fcN (p+k):Nat):Int)
theorem fcN_ok:((List.range 74).all fun n=>decide (bl (fcN n)≤512))=true:=by decide+kernel
theorem gB_{n:Nat}(h:n≤73):qs (((fcN n:Nat):Int):Rat)≤512:=by
 have h1:=of_decide_eq_true (List.all_eq_true.1 fcN_ok n (List.mem_range.2 (by omega)))
 have h2:=qiN ((fcN n:Nat):Int)
 simp only[Int.natAbs_natCast] at h2
 omega
def evM(f:Nat→Rat):Nat→Rat
 |0=>1
 |j+1=>evM f j* f (2* (j+1))
def evW(f:Nat→Rat)(i:Nat):Rat:=if i % 2=0 then evM f (i/ 2) else 0
theorem oH_{f:Nat→Rat}{s:Nat}:∀n,(∀j,j< n→qs (f (2* (j+1)))≤s)→qs (evM f n)≤n* s+1
 |0,_=>by show qs 1≤0* s+1;rw[Nat.zero_mul];decide
 |n+1,h=>by
  have h1:=oH_ n fun j hj=>h j (by omega)
  have h2:=bZ_ (evM f n) (f (2* (n+1)))
  have h3:=h n (by omega)
  have h4:(n+1) * s=n* s+s:=Nat.succ_mul n s
  rw[evM];omega
def evK:Nat→Nat→Rat
 |1,k=>(((k:Int)- 1:Int):Rat) / ((2:Int):Rat)
 |2,k=>(((k:Int)- 1:Int):Rat) / (((k:Nat):Int):Rat)
 |_,k=>(((k:Int)- 1:Int):Rat) / (((k:Int)+2:Int):Rat)
theorem ml_(c k:Nat)(h:k≤200):qs (evK c k)≤42:=by
 have h1:=qi21 (n:=(k:Int)- 1) (by omega)
 unfold evK
 split
 have:=dy_ (((k:Int)- 1:Int):Rat) ((2:Int):Rat)
 have h2:=qi21 (n:=2) (by omega)
 omega
 have:=dy_ (((k:Int)- 1:Int):Rat) (((k:Nat):Int):Rat)
 have h2:=qi21 (n:=((k:Nat):Int)) (by omega)
 omega
 have:=dy_ (((k:Int)- 1:Int):Rat) (((k:Int)+2:Int):Rat)
 have h2:=qi21 (n:=(k:Int)+2) (by omega)
 omega
def oddM(k:Nat):Nat→Rat
 |0=>1
 |j+1=>oddM k j* (((2* j+1:Nat):Int):Rat)
def halfM(m:Rat):Nat→Rat
 |0=>m
 |j+1=>halfM m j* (1/ 2)
def evD(c k:Nat):Rat:=
 if k % 2=0 then
  if c=1 then halfM (oddM k (k/ 2)) (k/ 2)
  else
   let m:=halfM (halfM ((((fcN k:Nat):Int):Rat) / (((fcN (k/ 2):Nat):Int) * ((fcN (k/ 2):Nat):Int):Rat)) (k/ 2)) (k/ 2)
   if c=3 then m/ (((k/ 2+1:Nat):Int):Rat) else m
 else 0
theorem evD_evS:((List.range 3).all fun c=>(List.range 21).all fun k=>decide (evD (c+1) k=evW (evK (c+1)) k))=true:=by decide+kernel
theorem evD_eq{c k:Nat}(hc:1≤c∧c≤3)(hk:k≤20):evD c k=evW (evK c) k:=by
 have h1:=List.all_eq_true.1 evD_evS (c- 1) (List.mem_range.2 (by omega))
 have h2:=of_decide_eq_true (List.all_eq_true.1 h1 k (List.mem_range.2 (by omega)))
 rw[show c- 1+1=c by omega] at h2
 exact h2
def pd:Nat→Nat→List UInt8
 |0,_=>[]
 |k+1,n=>pd k (n/ 10)++[UInt8.ofNat (48+n % 10)]
theorem lv_(k n:Nat):(pd k n).length=k:=by
 induction k generalizing n with
 |zero=>rfl
 |succ k ih=>rw[pd,List.length_append,ih];rfl
theorem pd_add(j k n:Nat):pd (j+k) n=pd j (n/ 10^ k)++pd k n:=by
 induction k generalizing n with
 |zero=>rw[Nat.add_zero,Nat.pow_zero,Nat.div_one];simp[pd]
 |succ k ih=>rw[←Nat.add_assoc,pd,pd,ih,Nat.div_div_eq_div_mul,Nat.pow_succ,Nat.mul_comm 10,List.append_assoc]
theorem pd_mod(k n:Nat):pd k (n % 10^ k)=pd k n:=by
 induction k generalizing n with
 |zero=>rfl
 |succ k ih=>
  rw[pd,pd,Nat.pow_succ]
  have e1:n % (10^ k* 10) / 10=n/ 10 % 10^ k:=by
   rw[Nat.mul_comm,Nat.mod_mul_right_div_self]
  have e2:n % (10^ k* 10) % 10=n % 10:=by rw[Nat.mod_mul_left_mod]
  rw[e1,e2,ih]
theorem pd_front(k n:Nat):pd (k+1) n=UInt8.ofNat (48+n/ 10^ k % 10)::pd k n:=by
 rw[Nat.add_comm,pd_add];rfl
theorem qF_(k:Nat):pd k 0=List.replicate k 48:=by
 induction k with
 |zero=>rfl
 |succ k ih=>rw[pd,ih,List.replicate_succ'];rfl
def dropZ:List UInt8→List UInt8
 |[]=>[]
 |c::l=>if c=48 then dropZ l else c::l
theorem mm_{a b:List UInt8}(h:dropZ a≠[]):dropZ (a++b)=dropZ a++b:=by
 induction a with
 |nil=>exact absurd rfl h
 |cons c a ih=>
  rw[List.cons_append,dropZ,dropZ]
  rw[dropZ] at h
  by_cases hc:c=48
  rw[if_pos hc] at h;rw[if_pos hc,if_pos hc,ih h]
  rw[if_neg hc,if_neg hc];rfl
theorem nu_(k:Nat)(l:List UInt8):dropZ (List.replicate k 48++l)=dropZ l:=by
 induction k with
 |zero=>rfl
 |succ k ih=>rw[List.replicate_succ,List.cons_append,dropZ,if_pos rfl,ih]
theorem dig_ne{n:Nat}(h0:n≠0)(h:n< 10):UInt8.ofNat (48+n)≠48:=by
 have:∀n,n< 10→n≠0→UInt8.ofNat (48+n)≠48:=by decide
 exact this n h h0
theorem hL_(n:Nat):Lib.decDigits n≠[]:=by
 intro e
 have h1:=Lib.decDigits_length n
 rw[e] at h1
 have:=Lib.nDigits_pos n
 simp at h1;omega
theorem oN_:∀(k n:Nat),0< n→n< 10^ k→dropZ (pd k n)=Lib.decDigits n
 |0,n,h,h2=>by rw[Nat.pow_zero] at h2;omega
 |k+1,n,h,h2=>by
  rw[pd,Lib.decDigits]
  by_cases h10:n< 10
  rw[dif_pos h10,Nat.div_eq_of_lt h10,qF_,nu_,Nat.mod_eq_of_lt h10,dropZ,if_neg (dig_ne (by omega) h10)]
  rw[dif_neg h10]
  have ih:=oN_ k (n/ 10) (by omega) (by rw[Nat.pow_succ] at h2;omega)
  rw[mm_ (by rw[ih];exact hL_ _),ih]
theorem mr_:∀(k a b:Nat),0< a→b< 10^ k→Lib.decDigits (a* 10^ k+b)=Lib.decDigits a++pd k b
 |0,a,b,h,hb=>by
  have:b=0:=by rw[Nat.pow_zero] at hb;omega
  subst this;simp[pd]
 |k+1,a,b,h,hb=>by
  have hp:1≤10^ k:=Nat.one_le_pow _ _ (by decide)
  have hap:1≤a* 10^ k:=Nat.mul_le_mul h hp
  have e:a* 10^ (k+1)+b=(a* 10^ k) * 10+b:=by rw[Nat.pow_succ,Nat.mul_assoc]
  rw[e,Lib.decDigits,dif_neg (by omega),show(a* 10^ k* 10+b) / 10=a* 10^ k+b/ 10 by omega,show(a* 10^ k* 10+b) % 10=b % 10 by omega,mr_ k a (b/ 10) h (by rw[Nat.pow_succ] at hb;omega),pd,List.append_assoc]
theorem pd_dec:∀(k n:Nat),0< n→n< 10^ k→pd k n=List.replicate (k- (Lib.decDigits n).length) 48++Lib.decDigits n
 |0,n,h,h2=>by rw[Nat.pow_zero] at h2;omega
 |k+1,n,h,h2=>by
  rw[pd,Lib.decDigits]
  by_cases h10:n< 10
  rw[dif_pos h10,Nat.div_eq_of_lt h10,qF_,Nat.mod_eq_of_lt h10];rfl
  rw[dif_neg h10,pd_dec k (n/ 10) (by omega) (by rw[Nat.pow_succ] at h2;omega),List.length_append,List.append_assoc]
  congr 2
  simp
theorem oq_(f:List Rat)(x:Rat):∀n,evalP (gK f n) x=evalP f x* x^ n
 |0=>by rw[gK,Rat.pow_zero,Rat.mul_one]
 |n+1=>by
  rw[gK,aL_,oq_ f x n,Rat.pow_succ,cz_];grind
theorem mo_mono(f:List Rat)(a b:Rat)(k:Nat):evalP (aK_ (mulP f (shP k [1]))) b- evalP (aK_ (mulP f (shP k [1]))) a=moQ f (a,b) k:=by
 have h:Eqv (mulP f (shP k [1])) (gK f k):=fun x=>by
  rw[aL_,h5_,oq_,aE_,aZ_];grind
 exact iM_ h a b
theorem ob_(p m:List Rat):∀n,ofQ (trimQ p) m n=ofQ p m n
 |0=>rfl
 |n+1=>by rw[ofQ,ofQ,ob_ p m n,bm_]
theorem oc_{p m:List Rat}{k:Nat}(h:∀i,k≤i→coP p i=0):∀n,k≤n→ofQ p m n=ofQ p m k
 |0,hn=>by rw[show k=0 by omega]
 |n+1,hn=>by
  by_cases e:k=n+1
  rw[e]
  rw[ofQ,oc_ h n (by omega),h n (by omega)];grind
theorem coP_past(p:List Rat):∀i,(trimQ p).length≤i→coP p i=0:=fun i hi=>by
 rw[←bm_];unfold coP
 rw[List.getD_eq_getElem?_getD,List.getElem?_eq_none (by omega)];rfl
theorem ofP_n{p m:List Rat}{n:Nat}(h:(trimQ p).length≤n):ofP m p=ofQ p m n:=by
 unfold ofP
 rw[ob_];exact(oc_ (coP_past p) n h).symm
theorem qJ_(p q m:List Rat):∀n,ofQ (addP p q) m n=ofQ p m n+ofQ q m n
 |0=>by show(0:Rat)=0+0;grind
 |n+1=>by rw[ofQ,ofQ,ofQ,qJ_ p q m n,d0_];grind
theorem lC_(p m:List Rat)(k:Rat):∀n,ofQ (aJ_ p k) m n=ofQ p m n* k
 |0=>by show(0:Rat)=0* k;grind
 |n+1=>by rw[ofQ,ofQ,lC_ p m k n,bp_];grind
theorem dU_(m:List Rat):Lin (ofP m) where
 eqv h:=by unfold ofP;rw[eqv_trim.1 h]
 add p q:=by
  obtain⟨n,h1,h2,h3⟩:∃n,(trimQ p).length≤n∧(trimQ q).length≤n∧(trimQ (addP p q)).length≤n:=⟨(trimQ p).length+(trimQ q).length+(trimQ (addP p q)).length,by omega,by omega,by omega⟩
  rw[ofP_n h1,ofP_n h2,ofP_n h3,qJ_]
 scale p k:=by
  obtain⟨n,h1,h3⟩:∃n,(trimQ p).length≤n∧(trimQ (aJ_ p k)).length≤n:=⟨(trimQ p).length+(trimQ (aJ_ p k)).length,by omega,by omega⟩
  rw[ofP_n h1,ofP_n h3,lC_]
theorem Lin.comb{φ:List Rat→Rat}(H:Lin φ){r p q:List Rat}{u v:Rat}(h:∀x,evalP r x=evalP p x* u+evalP q x* v):φ r=φ p* u+φ q* v:=by
 rw[H.eqv (p:=r) (q:=addP (aJ_ p u) (aJ_ q v)) fun x=>by rw[h,bM_,aS_,aS_],H.add,H.scale,H.scale]
theorem Lin.comb3{φ:List Rat→Rat}(H:Lin φ){r p q s:List Rat}{u v w:Rat}(h:∀x,evalP r x=evalP p x* u+evalP q x* v+evalP s x* w):φ r=φ p* u+φ q* v+φ s* w:=by
 rw[H.comb (p:=addP (aJ_ p u) (aJ_ q v)) (q:=s) (u:=1) (v:=w) fun x=>by rw[h,bM_,aS_,aS_];grind,H.add,H.scale,H.scale];grind
theorem Lin.nil{φ:List Rat→Rat}(H:Lin φ){p:List Rat}(h:∀x,evalP p x=0):φ p=0:=by
 rw[H.eqv (p:=p) (q:=[]) fun x=>by rw[h,aZ_],H.zero]
def bl2(m p q:List Rat):Rat:=ofP m (mulP p q)
theorem eM_(m p q:List Rat):bl2 m p q=bl2 m q p:=(dU_ m).eqv fun x=>by rw[aL_,aL_];grind
theorem gL_(m:List Rat){p q r:List Rat}{u v:Rat}(s:List Rat)(h:∀x,evalP r x=evalP p x* u+evalP q x* v):bl2 m r s=bl2 m p s* u+bl2 m q s* v:=
 (dU_ m).comb fun x=>by rw[aL_,aL_,aL_,h];grind
theorem nG_(m:List Rat){p:List Rat}(s:List Rat)(h:∀x,evalP p x=0):bl2 m p s=0:=(dU_ m).nil fun x=>by rw[aL_,h];grind
abbrev oP(m:List Rat)(k:Nat):List Rat:=(ldr m k).1
abbrev oL(m:List Rat)(k:Nat):List Rat:=(ldr m k).2.1
abbrev oN(m:List Rat)(k:Nat):Rat:=ldN m (oP m k)
theorem oN_bl(m:List Rat)(k:Nat):oN m k=bl2 m (oP m k) (oP m k):=rfl
theorem oP_rec(m:List Rat)(k:Nat)(x:Rat):evalP (oP m (k+1)) x=evalP (oP m k) x* (x- ldAk m k)- evalP (oL m k) x* ldB m k:=by
 show evalP (subP (mulP (ldr m k).1 [-ldA m (ldr m k).1,1]) (aJ_ (ldr m k).2.1 (if k=0 then 0 else ldN m (ldr m k).1/ (ldr m k).2.2))) x=_
 rw[bL_,aL_,aS_,cz_]
 show _* (-ldAk m k+1* x)- _* ldB m k=_
 grind
theorem oL_0(m:List Rat):oL m 0=[]:=rfl
theorem oL_s(m:List Rat)(k:Nat):oL m (k+1)=oP m k:=rfl
theorem ldB_s(m:List Rat)(k:Nat):ldB m (k+1)=oN m (k+1) / oN m k:=if_neg (Nat.succ_ne_zero k)
theorem bl2_x(m:List Rat)(k:Nat)(h:oN m k≠0):bl2 m (mulP (oP m k) (oP m k)) [0,1]=ldAk m k* oN m k:=by
 show ofP m (mulP (mulP (oP m k) (oP m k)) [0,1])=ofP m (mulP (mulP (oP m k) (oP m k)) [0,1]) / oN m k* oN m k
 generalize ofP m (mulP (mulP (oP m k) (oP m k)) [0,1])=A at *
 generalize oN m k=B at *
 grind
theorem o_orth(m:List Rat)(n:Nat)(hn:∀j,j< n→oN m j≠0):∀k,k≤n→∀i j,i< j→j≤k→bl2 m (oP m i) (oP m j)=0
 |0,_,i,j,h1,h2=>by omega
 |k+1,hk,i,j,h1,h2=>by
  have ih:=o_orth m n hn k (by omega)
  by_cases hj:j≤k
  exact ih i j h1 hj
  obtain rfl:j=k+1:=by omega
  have hi:i≤k:=by omega
  have hNk:=hn k (by omega)
  -- P (k+1) in terms of the ones before
  have e1:bl2 m (oP m i) (oP m (k+1))=bl2 m (mulP (oP m k) (oP m i)) [0,1]+bl2 m (oP m k) (oP m i) * (-ldAk m k)+bl2 m (oL m k) (oP m i) * (-ldB m k):=by
   rw[eM_]
   have:=(dU_ m).comb3 (r:=mulP (oP m (k+1)) (oP m i)) (p:=mulP (mulP (oP m k) (oP m i)) [0,1]) (q:=mulP (oP m k) (oP m i)) (s:=mulP (oL m k) (oP m i)) (u:=1) (v:= -ldAk m k) (w:= -ldB m k) fun x=>by
    rw[aL_,oP_rec,aL_,aL_,aL_,cz_];grind
   rw[Rat.mul_one] at this
   exact this
  have hL:∀a b,a≤b→b≤k→bl2 m (oL m a) (oP m b)=0:=fun a b hab hb=>by
   cases a with
   |zero=>exact nG_ m _ fun x=>by rw[oL_0,aZ_]
   |succ a=>rw[oL_s];exact ih a b (by omega) hb
  by_cases hik:i=k
  subst hik
  rw[e1,bl2_x m i hNk,hL i i (Nat.le_refl _) (Nat.le_refl _),←oN_bl]
  generalize oN m i=B at *
  generalize ldAk m i=A at *
  grind
  have hlt:i< k:=by omega
  -- x P i in terms of its neighbours
  have e2:bl2 m (mulP (oP m k) (oP m i)) [0,1]=bl2 m (oP m (i+1)) (oP m k)+bl2 m (oP m i) (oP m k) * ldAk m i+bl2 m (oL m i) (oP m k) * ldB m i:=by
   have:=(dU_ m).comb3 (r:=mulP (mulP (oP m k) (oP m i)) [0,1]) (p:=mulP (oP m (i+1)) (oP m k)) (q:=mulP (oP m i) (oP m k)) (s:=mulP (oL m i) (oP m k)) (u:=1) (v:=ldAk m i) (w:=ldB m i) fun x=>by
    rw[aL_,aL_,aL_,aL_,aL_,oP_rec,cz_];grind
   rw[Rat.mul_one] at this
   exact this
  rw[e1,e2,hL i k (by omega) (Nat.le_refl _),ih i k hlt (Nat.le_refl _),eM_ m (oP m k) (oP m i),ih i k hlt (Nat.le_refl _)]
  by_cases hn1:i+1=k
  subst hn1
  have hNi:=hn i (by omega)
  rw[oL_s,ldB_s,←oN_bl,←oN_bl]
  generalize oN m i=B at *
  generalize oN m (i+1)=C at *
  grind
  rw[ih (i+1) k (by omega) (Nat.le_refl _)]
  obtain⟨k',rfl⟩:∃k',k=k'+1:=⟨k- 1,by omega⟩
  rw[oL_s,eM_,ih i k' (by omega) (by omega)]
  grind
end Go.Abs
