/- Part O15 of the proof. -/
import Derived.Test.YtdjfjpeoddmamaaGreatDoorO14
import Derived.Lib.ItoaNum
set_option linter.all false
namespace Go.Abs
def okReC(c:Cnt)(p:List Rat):Prop:=okBe c (-aN_ p)∧okUp c (aN_ p)∧smS (-aN_ p,aN_ p)∧fE_ p∧p.length≤1000∧1≤degP p∧degP p≤25
instance (c:Cnt) (p:List Rat):Decidable (okReC c p):=by unfold okReC;infer_instance
def realM(f:Nat)(p:List Rat):Option Bool:=(cn_ f p).bind fun c=>if okReC c p then some (decide (uptoV c (aN_ p)- dS_ c (-aN_ p)=degP p)) else none
def okOnC(p m G A:List Rat):Prop:=okBz (at_ p) p G A∧okMul (tpQ p m) (bzA p G A)∧okDiv (mulP (tpQ p m) (bzA p G A)) p∧trimQ p=p∧2≤p.length∧p.length≤1000∧p.length≤m.length+1∧(p.length+1) * (mxL p+mxL m+1)≤137438953472∧smL p
instance (p m G A:List Rat):Decidable (okOnC p m G A):=by unfold okOnC;infer_instance
def onM(f:Nat)(p m:List Rat):Option (List Rat):=(bzL f (at_ p) p (c3_ ((1:Int):Rat)) []).bind fun x=>if okOnC p m x.1 x.2 then some (divP (mulP (tpQ p m) (bzA p x.1 x.2)) p).2 else none
def suP(p:List Rat):List Rat:=suL (trimQ p) (dg p) (dg p- 1)
def apV(p w f:List Rat):Rat:=ofQ (apR p w f) (suP p) (apR p w f).length
instance (T:List Rat) (n k:Nat):Decidable (okSu T n k):=by unfold okSu;infer_instance
instance (f:List Rat) (s:Sp) (k:Nat):Decidable (okMo f s k):=by unfold okMo smL;infer_instance
def okAp(p w f:List Rat):Prop:=okDiv f p∧okMul w (divP f p).2∧okDiv (mulP w (divP f p).2) p∧1≤dg p∧dg p≤1000∧p.length≤1000∧(∀k,k< dg p- 1→okSu (trimQ p) (dg p) k)∧(apR p w f).length≤dg p∧((apR p w f).length+2) * (mxL (apR p w f)+mxL (suP p)+1)≤137438953472∧sm (apV p w f)
instance (p w f:List Rat):Decidable (okAp p w f):=by unfold okAp;infer_instance
def m6:List Rat:=sqL (moQ [1] (-1,1)) 6
def p13:List Rat:=[mkRat (-1) 3,0,1]
def p35:List Rat:=[0,mkRat (-3) 5,0,1]
def w35:List Rat:=[mkRat 8 9,0,mkRat (-5) 9]
def pRa:List Rat:=[mkRat (-1) 3,mkRat 2 3,1]
def wRa:List Rat:=[mkRat 5 4,mkRat 3 4]
def mRa:List Rat:=sqL (tmQ (enM (-1)) m6) (m6.length+1- (trimQ (enM (-1))).length)
def mKr:List Rat:=sqL (tmQ (ldr m6 1).1 m6) (m6.length+1- (trimQ (ldr m6 1).1).length)
theorem c_m6:m6=[2,0,mkRat 2 3,0,mkRat 2 5,0]:=by decide+kernel
theorem c_ok:(∀k,k< 2→okLd m6 k)∧(∀k,k< 6→okMo [1] (-1,1) k):=by decide+kernel
theorem c_g:(ldr m6 2).1=p13∧realM 9 p13=some true∧onM 9 p13 m6=some [1]∧aG_ p13=p13∧bdL p13 100∧trimQ p13≠[]:=by decide+kernel
theorem c_d:(∀k,k< 5→okAp p13 [1] (List.replicate k 0++[((1:Int):Rat)]))∧(∀k,k< 4→apV p13 [1] (List.replicate k 0++[((1:Int):Rat)])=coP m6 k)∧apV p13 [1] (List.replicate 4 0++[((1:Int):Rat)])≠coP m6 4:=by decide+kernel
theorem c_k:okMul (ldr m6 1).1 (ldr m6 1).1∧okOf m6 (mulP (ldr m6 1).1 (ldr m6 1).1)∧0< ldN m6 (ldr m6 1).1∧4≤mKr.length∧coP mKr 1≠0∧okMul (ldr m6 1).1 (krE mKr 1 2)∧mulP (ldr m6 1).1 (krE mKr 1 2)=p35∧bdL (ldr m6 1).1 100∧bdL m6 100∧(ldr m6 1).1.length≤1000:=by decide+kernel
instance (m:List Rat) (n k:Nat):Decidable (okKr m n k):=by unfold okKr;infer_instance
theorem c_kk:∀k,k< 2→okKr mKr 1 k:=by decide+kernel
theorem c_kp:realM 9 p35=some true∧onM 9 p35 m6=some w35∧aG_ p35=p35∧bdL p35 100∧trimQ p35≠[]:=by decide+kernel
theorem c_r:(∀k,k< 1→okLd mRa k)∧okMul (enM (-1)) (ldr mRa 1).1∧mulP (enM (-1)) (ldr mRa 1).1=pRa∧realM 9 pRa=some true∧onM 9 pRa m6=some wRa∧aG_ pRa=pRa∧bdL pRa 100∧trimQ pRa≠[]∧bdL (enM (-1)) 100:=by decide+kernel
def lB:Nat→Nat
 |0=>1
 |n+1=>2* lB n+600
theorem fI_:∀n,1≤lB n
 |0=>Nat.le_refl _
 |n+1=>by rw[lB];omega
theorem lB_ok:((List.range 9).all fun n=>decide (lB n≤160000))=true:=by decide+kernel
theorem lB_le{n:Nat}(h:n≤8):lB n≤160000:=of_decide_eq_true (List.all_eq_true.1 lB_ok n (List.mem_range.2 (by omega)))
theorem bd_uv{u v:Rat}{s:Nat}(hu:qs u≤s)(hv:qs v≤s):bdL [u,v] s:=fun q hq=>by
 rcases List.mem_cons.1 hq with rfl|hq
 exact hu;rw[List.mem_singleton.1 hq];exact hv
theorem jz_{l:List Rat}{q:Rat}(h:q∈l):∃i,i< l.length∧coP l i=q:=by
 obtain⟨i,hi,e⟩:=List.getElem_of_mem h;exact⟨i,hi,by rw[←e];unfold coP;rw[List.getD_eq_getElem?_getD,List.getElem?_eq_getElem hi];rfl⟩
theorem line_bd{p:List Rat}{u v:Rat}{s:Nat}(hp:bdL p s)(hs:1≤s)(hu:qs u≤256)(hv:qs v≤256):bdL (mulP p [u,v]) (2* s+600):=fun q hq=>by
 obtain⟨i,_,e⟩:=jz_ hq;rw[←e,ng_];have h1:=fC_ (coP p i* u) (lag p i* v);have h2:=bJ_ (coP p i) u;have h3:=bJ_ (lag p i) v;have h4:=bj_ hp hs i
 have h5:qs (lag p i)≤s:=by
  cases i with
  |zero=>show qs 0≤s;exact Nat.le_trans (by decide) hs
  |succ i=>exact bj_ hp hs i
 omega
theorem gQ_{u v:Rat}(hu:qs u≤256)(hv:qs v≤256):∀n,bdL (powP [u,v] n) (lB n)
 |0=>fun q hq=>by
  have:=be_ (l:=[1]) hq;rw[List.mem_singleton.1 this];show qs 1≤1;decide
 |n+1=>line_bd (gQ_ hu hv n) (fI_ n) hu hv
theorem qiN(n:Int):qs (n:Rat)≤max (bl n.natAbs) 1:=by
 have e1:(n:Rat).num=n:=rfl;have e2:(n:Rat).den=1:=rfl;unfold qs;rw[e2,jJ_];grind
theorem qi21{n:Int}(h: -2000000≤n∧n≤2000000):qs (n:Rat)≤21:=by
 have h1:=qiN n;have h2:bl n.natAbs≤21:=bl_le (by omega);omega
theorem ja_{p:List Rat}{s:Nat}(h:bdL p s)(hs:1≤s)(hl:p.length≤1000000):bdL (aF_ p) (s+21):=fun q hq=>by
 obtain⟨i,hi,e⟩:=jz_ hq;have hil:=dW_ p;rw[←e,bG_];split;exact Nat.le_trans (by decide:qs 0≤1) (by omega);have h1:=cX_ (coP p (i- 1)) (((i:Nat):Int):Rat);have h2:=bj_ h hs (i- 1);have h3:=qi21 (n:=((i:Nat):Int)) (by omega);omega
theorem gK_bd{f:List Rat}{s:Nat}(h:bdL f s)(hs:1≤s):∀k,bdL (gK f k) s
 |0=>h
 |k+1=>fun q hq=>by
  obtain⟨i,hi,e⟩:=jz_ hq;rw[←e,gK,ng_,Rat.mul_zero,Rat.zero_add,Rat.mul_one];cases i with
  |zero=>exact Nat.le_trans (by decide:qs 0≤1) hs
  |succ i=>exact bj_ (gK_bd h hs k) hs i
theorem pi_(f:List Rat):∀k,(gK f k).length≤f.length+k
 |0=>Nat.le_refl _
 |k+1=>by
  have h1:=pi_ f k;have h2:=mulP_line_len' (gK f k) 0 1;rw[gK];omega
def jcF(a b:Rat)(p q:Nat):List Rat:=mulP (powP [-a,1] p) (powP [b,-1] q)
section
variable {a b:Rat}{p q:Nat}(ha:qs a≤256)(hb:qs b≤256)(hp:p≤8)(hq:q≤8)
include ha in
theorem jc_p:bdL (powP [-a,1] p) (lB p):=gQ_ (by rw[dG_];exact ha) (by decide) p
include hb in
theorem jc_q:bdL (powP [b,-1] q) (lB q):=gQ_ hb (by decide) q
omit ha hb hp hq in
theorem dT_(u v:Rat){n:Nat}(h:n≤8):(powP [u,v] n).length≤17:=by
 have:=gP_ [u,v] n;have e:[u,v].length=2:=rfl;rw[e] at this;omega
include ha hb hp hq
theorem st_:bdL (jcF a b p q) 5500000∧(jcF a b p q).length≤34:=by
 have l1:=dT_ (-a) 1 hp;have l2:=dT_ b (-1) hq;constructor;intro x hx;have h1:=gz_ (jc_p (p:=p) ha) (jc_q (q:=q) hb) (fI_ p) (fI_ q) x hx;have h2:=lB_le hp;have h3:=lB_le hq;have h4:=Nat.mul_le_mul l1 (show lB p+lB q+1≤320001 by omega);omega;have:=nQ_ (powP [-a,1] p) (powP [b,-1] q);show(mulP _ _).length≤_;omega
theorem jc_mom(k:Nat)(hk:k≤64):okMo (jcF a b p q) (a,b) k∧qs (moQ (jcF a b p q) (a,b) k)≤2000000000:=by
 obtain⟨f1,f2⟩:=st_ ha hb hp hq;have g1:=gK_bd f1 (by decide) k;have g2:=pi_ (jcF a b p q) k;have i1:=ja_ g1 (by decide) (by omega);have i2:=dW_ (gK (jcF a b p q) k);have m1:=bN_ g1 (by decide);have m2:=bN_ i1 (by decide);have e1:=eC_ (x:=a) ha i1;have e2:=eC_ (x:=b) hb i1;have e4:=Nat.mul_le_mul (show(aF_ (gK (jcF a b p q) k)).length≤99 by omega) (show mxL (aF_ (gK (jcF a b p q) k))+qs a+1≤5600000 by omega);have e5:=Nat.mul_le_mul (show(aF_ (gK (jcF a b p q) k)).length≤99 by omega) (show mxL (aF_ (gK (jcF a b p q) k))+qs b+1≤5600000 by omega);have e7:mxL [0,1]=1:=by decide+kernel
 have e6:=Nat.mul_le_mul (show(gK (jcF a b p q) k).length≤98 by omega) (show mxL (gK (jcF a b p q) k)+mxL [0,1]+1≤5600000 by omega);refine⟨⟨fun q hq=>Nat.le_trans (g1 q hq) (by decide),by omega,⟨by grind,by omega⟩,⟨by grind,by omega⟩,⟨by omega,by omega,by omega,by simp⟩⟩,?_⟩;have:=rS_ (evalP (aF_ (gK (jcF a b p q) k)) b) (evalP (aF_ (gK (jcF a b p q) k)) a);show qs (evalP (aF_ (gK (jcF a b p q) k)) b- evalP (aF_ (gK (jcF a b p q) k)) a)≤_;omega
end
def fcN:Nat→Nat
 |0=>1
 |n+1=>fcN n* (n+1)
def lgQ(p k:Nat):Rat:=((fcN (p+k):Nat):Int)
theorem fcN_ok:((List.range 74).all fun n=>decide (bl (fcN n)≤512))=true:=by decide+kernel
theorem ha_{n:Nat}(h:n≤73):qs (((fcN n:Nat):Int):Rat)≤512:=by
 have h1:=of_decide_eq_true (List.all_eq_true.1 fcN_ok n (List.mem_range.2 (by omega)));have h2:=qiN ((fcN n:Nat):Int);grind
def evM(f:Nat→Rat):Nat→Rat
 |0=>1
 |j+1=>evM f j* f (2* (j+1))
def evW(f:Nat→Rat)(i:Nat):Rat:=if i % 2=0 then evM f (i/ 2) else 0
theorem pD_{f:Nat→Rat}{s:Nat}:∀n,(∀j,j< n→qs (f (2* (j+1)))≤s)→qs (evM f n)≤n* s+1
 |0,_=>by show qs 1≤0* s+1;rw[Nat.zero_mul];decide
 |n+1,h=>by
  have h1:=pD_ n fun j hj=>h j (by omega);have h2:=bJ_ (evM f n) (f (2* (n+1)));have h3:=h n (by omega);have h4:(n+1) * s=n* s+s:=Nat.succ_mul n s;rw[evM];omega
def evK:Nat→Nat→Rat
 |1,k=>(((k:Int)- 1:Int):Rat) / ((2:Int):Rat)
 |2,k=>(((k:Int)- 1:Int):Rat) / (((k:Nat):Int):Rat)
 |_,k=>(((k:Int)- 1:Int):Rat) / (((k:Int)+2:Int):Rat)
theorem m5_(c k:Nat)(h:k≤200):qs (evK c k)≤42:=by
 have h1:=qi21 (n:=(k:Int)- 1) (by omega);unfold evK;split;have:=cX_ (((k:Int)- 1:Int):Rat) ((2:Int):Rat);have h2:=qi21 (n:=2) (by omega);omega;have:=cX_ (((k:Int)- 1:Int):Rat) (((k:Nat):Int):Rat);have h2:=qi21 (n:=((k:Nat):Int)) (by omega);omega;have:=cX_ (((k:Int)- 1:Int):Rat) (((k:Int)+2:Int):Rat);have h2:=qi21 (n:=(k:Int)+2) (by omega);omega
def oddM(k:Nat):Nat→Rat
 |0=>1
 |j+1=>oddM k j* (((2* j+1:Nat):Int):Rat)
def halfM(m:Rat):Nat→Rat
 |0=>m
 |j+1=>halfM m j* (1/ 2)
def evD(c k:Nat):Rat:=
 if k % 2=0 then
  if c=1 then halfM (oddM k (k/ 2)) (k/ 2)
  else
   let m:=halfM (halfM ((((fcN k:Nat):Int):Rat) / (((fcN (k/ 2):Nat):Int) * ((fcN (k/ 2):Nat):Int):Rat)) (k/ 2)) (k/ 2)
   if c=3 then m/ (((k/ 2+1:Nat):Int):Rat) else m
 else 0
theorem evD_evS:((List.range 3).all fun c=>(List.range 21).all fun k=>decide (evD (c+1) k=evW (evK (c+1)) k))=true:=by decide+kernel
theorem evD_eq{c k:Nat}(hc:1≤c∧c≤3)(hk:k≤20):evD c k=evW (evK c) k:=by
 have h1:=List.all_eq_true.1 evD_evS (c- 1) (List.mem_range.2 (by omega));grind
def pd:Nat→Nat→List UInt8
 |0,_=>[]
 |k+1,n=>pd k (n/ 10)++[UInt8.ofNat (48+n % 10)]
theorem mm_(k n:Nat):(pd k n).length=k:=by
 induction k generalizing n with
 |zero=>rfl
 |succ k ih=>rw[pd,List.length_append,ih];rfl
theorem pd_add(j k n:Nat):pd (j+k) n=pd j (n/ 10^ k)++pd k n:=by
 induction k generalizing n with
 |zero=>rw[Nat.add_zero,Nat.pow_zero,Nat.div_one];simp[pd]
 |succ k ih=>rw[←Nat.add_assoc,pd,pd,ih,Nat.div_div_eq_div_mul,Nat.pow_succ,Nat.mul_comm 10,List.append_assoc]
theorem pd_mod(k n:Nat):pd k (n % 10^ k)=pd k n:=by
 induction k generalizing n with
 |zero=>rfl
 |succ k ih=>
  rw[pd,pd,Nat.pow_succ]
  have e1:n % (10^ k* 10) / 10=n/ 10 % 10^ k:=by
   rw[Nat.mul_comm,Nat.mod_mul_right_div_self]
  have e2:n % (10^ k* 10) % 10=n % 10:=by rw[Nat.mod_mul_left_mod]
  rw[e1,e2,ih]
theorem pd_front(k n:Nat):pd (k+1) n=UInt8.ofNat (48+n/ 10^ k % 10)::pd k n:=by
 rw[Nat.add_comm,pd_add];rfl
theorem r0_(k:Nat):pd k 0=List.replicate k 48:=by
 induction k with
 |zero=>rfl
 |succ k ih=>rw[pd,ih,List.replicate_succ'];rfl
def dropZ:List UInt8→List UInt8
 |[]=>[]
 |c::l=>if c=48 then dropZ l else c::l
theorem m6_{a b:List UInt8}(h:dropZ a≠[]):dropZ (a++b)=dropZ a++b:=by
 induction a with
 |nil=>exact absurd rfl h
 |cons c a ih=>
  rw[List.cons_append,dropZ,dropZ];rw[dropZ] at h;by_cases hc:c=48;rw[if_pos hc] at h;rw[if_pos hc,if_pos hc,ih h];rw[if_neg hc,if_neg hc];rfl
theorem oj_(k:Nat)(l:List UInt8):dropZ (List.replicate k 48++l)=dropZ l:=by
 induction k with
 |zero=>rfl
 |succ k ih=>rw[List.replicate_succ,List.cons_append,dropZ,if_pos rfl,ih]
theorem dig_ne{n:Nat}(h0:n≠0)(h:n< 10):UInt8.ofNat (48+n)≠48:=by
 have:∀n,n< 10→n≠0→UInt8.ofNat (48+n)≠48:=by decide
 exact this n h h0
theorem h5_(n:Nat):Lib.decDigits n≠[]:=by
 intro e;have h1:=Lib.decDigits_length n;rw[e] at h1;have:=Lib.nDigits_pos n;simp at h1;omega
theorem pJ_:∀(k n:Nat),0< n→n< 10^ k→dropZ (pd k n)=Lib.decDigits n
 |0,n,h,h2=>by rw[Nat.pow_zero] at h2;omega
 |k+1,n,h,h2=>by
  rw[pd,Lib.decDigits];by_cases h10:n< 10;rw[dif_pos h10,Nat.div_eq_of_lt h10,r0_,oj_,Nat.mod_eq_of_lt h10,dropZ,if_neg (dig_ne (by omega) h10)];rw[dif_neg h10];have ih:=pJ_ k (n/ 10) (by omega) (by rw[Nat.pow_succ] at h2;omega);rw[m6_ (by rw[ih];exact h5_ _),ih]
theorem nb_:∀(k a b:Nat),0< a→b< 10^ k→Lib.decDigits (a* 10^ k+b)=Lib.decDigits a++pd k b
 |0,a,b,h,hb=>by
  have:b=0:=by rw[Nat.pow_zero] at hb;omega
  subst this;simp[pd]
 |k+1,a,b,h,hb=>by
  have hp:1≤10^ k:=Nat.one_le_pow _ _ (by decide);have hap:1≤a* 10^ k:=Nat.mul_le_mul h hp;have e:a* 10^ (k+1)+b=(a* 10^ k) * 10+b:=by rw[Nat.pow_succ,Nat.mul_assoc]
  rw[e,Lib.decDigits,dif_neg (by omega),show(a* 10^ k* 10+b) / 10=a* 10^ k+b/ 10 by omega,show(a* 10^ k* 10+b) % 10=b % 10 by omega,nb_ k a (b/ 10) h (by rw[Nat.pow_succ] at hb;omega),pd,List.append_assoc]
theorem pd_dec:∀(k n:Nat),0< n→n< 10^ k→pd k n=List.replicate (k- (Lib.decDigits n).length) 48++Lib.decDigits n
 |0,n,h,h2=>by rw[Nat.pow_zero] at h2;omega
 |k+1,n,h,h2=>by
  rw[pd,Lib.decDigits];by_cases h10:n< 10;rw[dif_pos h10,Nat.div_eq_of_lt h10,r0_,Nat.mod_eq_of_lt h10];rfl;rw[dif_neg h10,pd_dec k (n/ 10) (by omega) (by rw[Nat.pow_succ] at h2;omega),List.length_append,List.append_assoc];congr 2;simp
theorem pj_(f:List Rat)(x:Rat):∀n,evalP (gK f n) x=evalP f x* x^ n
 |0=>by rw[gK,Rat.pow_zero,Rat.mul_one]
 |n+1=>by
  rw[gK,ak_,pj_ f x n,Rat.pow_succ,c7_];grind
theorem mo_mono(f:List Rat)(a b:Rat)(k:Nat):evalP (aF_ (mulP f (shP k [1]))) b- evalP (aF_ (mulP f (shP k [1]))) a=moQ f (a,b) k:=by
 have h:Eqv (mulP f (shP k [1])) (gK f k):=fun x=>by
  rw[ak_,hb_,pj_,ay_,ax_];grind
 exact i9_ h a b
theorem Lin.nil{φ:List Rat→Rat}(H:Lin φ){p:List Rat}(h:∀x,evalP p x=0):φ p=0:=by
 rw[H.eqv (p:=p) (q:=[]) fun x=>by rw[h,ax_],H.zero]
abbrev oP(m:List Rat)(k:Nat):List Rat:=(ldr m k).1
abbrev oN(m:List Rat)(k:Nat):Rat:=ldN m (oP m k)
def Mon(p:List Rat)(n:Nat):Prop:=coP p n=1∧∀i,n< i→coP p i=0
def rhoP(N g:List Rat):Rat:=coP (md g N) (dg N- 1)
theorem kY_{N p q r:List Rat}{u v:Rat}(hN:nz N)(h:∀x,evalP r x=evalP p x* u+evalP q x* v):rhoP N r=rhoP N p* u+rhoP N q* v:=by
 have h1:=sh_ hN h;have h2:=trim_iff.1 (dm_ (p:=md r N) (q:=addP (av_ (md p N) u) (av_ (md q N) v)) fun x=>by rw[h1,a1_,as_,as_]) (dg N- 1);rw[dy_,a5_,a5_] at h2;exact h2
theorem rO_{N p q:List Rat}(h:Eqv p q):rhoP N p=rhoP N q:=by unfold rhoP;rw[sj_ h (fun _=>rfl)]
theorem rho_md{N p q z:List Rat}(hN:nz N)(h:∀x,evalP p x=evalP z x* evalP N x+evalP q x):rhoP N p=rhoP N q:=by
 have h1:=md_add hN h;exact trim_iff.1 (dm_ h1) _
theorem ik_{N p:List Rat}(hN:nz N)(h:nz p→dg p< dg N):rhoP N p=coP p (dg N- 1):=trim_iff.1 (dm_ (si_ hN h)) _
theorem pM_{p:List Rat}{n:Nat}(h:∀i,n≤i→coP p i=0):nz p→dg p< n:=fun hz=>Nat.lt_of_not_le fun hle=>(bE_ hz).1.1 (h _ hle)
theorem lt_dg_of{p N:List Rat}(h:nz p→dg p< dg N):∀i,dg N≤i→coP p i=0:=fun i hi=>by
 by_cases hz:nz p;exact(bE_ hz).1.2 i (by grind);exact trim_nil_iff.1 (Classical.not_not.1 hz) i
theorem lE_:∀(p:List Rat) (r:Rat) (i:Nat),coP (synD p r) i=evalP (p.drop (i+1)) r
 |[],_,i=>by rfl
 |[a],_,i=>by rw[List.drop_succ_cons,List.drop_nil];rfl
 |a::b::l,r,0=>rfl
 |a::b::l,r,i+1=>by
  show coP (synD (b::l) r) i=_;rw[lE_ (b::l) r i];rfl
theorem kC_{l:List Rat}(h:∀i,1≤i→coP l i=0)(x:Rat):evalP l x=coP l 0:=by
 rw[cl_ (q:=[coP l 0]) fun i=>by
  cases i with
  |zero=>rfl
  |succ i=>rw[h (i+1) (by omega)];rfl]
 rw[ay_,ax_];grind
theorem iv_(l:List Rat)(k i:Nat):coP (l.drop k) i=coP l (k+i):=by
 unfold coP;grind
section
variable {N:List Rat}(hN:nz N)(hm:leadP N=1)(h1:1≤dg N)
include hN hm h1
theorem syn_top(x:Rat):coP (synD N x) (dg N- 1)=1∧∀i,dg N≤i→coP (synD N x) i=0:=by
 obtain⟨⟨d1,d2⟩,d3⟩:=bE_ hN;constructor;rw[lE_,show dg N- 1+1=dg N by omega,kC_ (fun i hi=>by rw[iv_];grind),iv_,Nat.add_zero,d3,hm];intro i hi;rw[lE_,kC_ (fun j hj=>by rw[iv_];grind),iv_];grind
theorem rN_(x:Rat):∀k,k< dg N→rhoP N (mulP (gK [1] k) (synD N x))=x^ k
 |0,_=>by
  obtain⟨s1,s2⟩:=syn_top hN hm h1 x;rw[rO_ (q:=synD N x) fun t=>by rw[ak_,ct_];grind,ik_ hN (pM_ s2),s1,Rat.pow_zero]
 |k+1,hk=>by
  have ih:=rN_ x k (by omega)
  have hg:∀i,dg N≤i+1→coP (gK [1] k) i=0:=fun i hi=>by
   have h2:=pi_ [1] k;unfold coP;grind
  have r1:rhoP N (gK [1] k)=0:=by
   rw[ik_ hN (pM_ fun i hi=>hg i (by omega))];grind
  have r2:rhoP N (mulP (gK [1] k) N)=0:=by
   rw[rho_md (q:=[]) (z:=gK [1] k) hN fun t=>by rw[ak_,ax_];grind,ik_ hN fun h=>(h (show trimQ []=[] from rfl)).elim];rfl
  have e:=kY_ (N:=N) (r:=mulP (gK [1] (k+1)) (synD N x)) (p:=mulP (gK [1] k) (synD N x)) (q:=subP (mulP (gK [1] k) N) (av_ (gK [1] k) (evalP N x))) (u:=x) (v:=1) hN fun t=>by
   have:=d7_ N x t;rw[ak_,ak_,bf_,ak_,as_,ct_,ct_,Rat.pow_succ,this];grind
  have e2:=kY_ (N:=N) (r:=subP (mulP (gK [1] k) N) (av_ (gK [1] k) (evalP N x))) (p:=mulP (gK [1] k) N) (q:=gK [1] k) (u:=1) (v:= -evalP N x) hN fun t=>by
   rw[bf_,as_];grind
  grind
theorem kX_(x:Rat)(h:List Rat):∀n,n≤dg N→rhoP N (mulP (h.take n) (synD N x))=evalP (h.take n) x
 |0,_=>by
  rw[List.take_zero,rO_ (q:=[]) fun t=>by rw[ak_,ax_];grind,ik_ hN fun h=>(h (show trimQ []=[] from rfl)).elim];rfl
 |n+1,hn=>by
  by_cases hl:n< h.length;have ih:=kX_ x h n (by omega)
  rw[kY_ (p:=mulP (h.take n) (synD N x)) (q:=mulP (gK [1] n) (synD N x)) (u:=1) (v:=coP h n) hN fun t=>by
   rw[ak_,ak_,ak_,cU_ _ _ _ hl,ct_];grind,rN_ hN hm h1 x n (by omega),cU_ _ _ _ hl]
  grind;rw[List.take_of_length_le (by omega)];have ih:=kX_ x h n (by omega);rw[List.take_of_length_le (by omega)] at ih;grind
theorem tr_syn(W:List Rat)(x:Rat):trP N (mulP W (synD N x))=evalP (md (mulP W (at_ N)) N) x:=by
 obtain⟨a1,a2⟩:=bY_ (mulP W (at_ N)) hN;have hh:=lt_dg_of a2;generalize md (mulP W (at_ N)) N=h at *
 have hl:evalP h x=evalP (h.take (dg N)) x∧∀t,evalP h t=evalP (h.take (dg N)) t:=by
  have:∀t,evalP h t=evalP (h.take (dg N)) t:=fun t=>cl_ (fun i=>by
   unfold coP;rw[List.getD_eq_getElem?_getD,List.getD_eq_getElem?_getD,List.getElem?_take];by_cases hi:i< dg N;rw[if_pos hi];have:=hh i (by omega);unfold coP at this;grind) t
  grind
 rw[hl.1,←kX_ hN hm h1 x h (dg N) (Nat.le_refl _)]
 exact rho_md (z:=mulP (divP (mulP W (at_ N)) N).1 (synD N x)) hN fun t=>by
  have:=a1 t;rw[ak_] at this;rw[ak_,ak_,ak_,ak_];grind
end
theorem in_{N:List Rat}(hN:nz N)(W:List Rat):Lin (fun g=>trP N (mulP W g)) where
 eqv {p q} h:=(c2_ hN).eqv fun x=>by rw[ak_,ak_,h]
 add p q:=by
  rw[←(c2_ hN).add];exact(c2_ hN).eqv fun x=>by rw[a1_,ak_,ak_,ak_,a1_];grind
 scale p k:=by
  rw[←(c2_ hN).scale];exact(c2_ hN).eqv fun x=>by rw[as_,ak_,ak_,as_];grind
theorem wt_rule{N W m:List Rat}(hN:nz N)(hm:leadP N=1)(h1:1≤dg N)(ht:trimQ N=N)(hr:∀i,i< dg N→coP m i=trP N (mulP W (gK [1] i))):∃z,∀x,evalP W x* dvE N x=evalP (tpQ N m) x+evalP z x* evalP N x:=by
 have hl:N.length≤dg N+1:=by unfold dg;rw[ht];omega
 obtain⟨a1,_⟩:=bY_ (mulP W (at_ N)) hN;refine⟨(divP (mulP W (at_ N)) N).1,fun x=>?_⟩;have h2:=nx_ (in_ hN W) hr N hl x;have h3:=tr_syn hN hm h1 W x;have h4:=a1 x;rw[ak_,a4_] at h4;rw[h2,h3,h4];grind
theorem few_wt {N N' W W' m A B:List Rat} (hN:nz N) (hm:leadP N=1) (h1:1≤dg N) (ht:trimQ N=N) (hE:Eqv N' N) (hco:∀x,evalP A x* evalP N x+evalP B x* dvE N x=1)
    (hr:∀i,i< dg N→coP m i=trP N' (mulP W (gK [1] i))) (dW:nz W→dg W< dg N) (hW':∃z,∀x,evalP W' x* dvE N x=evalP (tpQ N m) x+evalP z x* evalP N x) (dW':nz W'→dg W'< dg N):Eqv W W':=by
 have hr':∀i,i< dg N→coP m i=trP N (mulP W (gK [1] i)):=fun i hi=>by
  rw[hr i hi];unfold trP;rw[dg_eqv hE,sj_ (p:=mulP (mulP W (gK [1] i)) (at_ N')) (p':=mulP (mulP W (gK [1] i)) (at_ N)) (fun x=>by simp only[ak_,a4_];rw[jr_ hE]) hE]
 exact wt_uniq hN hco (wt_rule hN hm h1 ht hr') hW' dW dW'
def IB(x:Rat)(h:Nat):Prop:=∃z:Int,x=(z:Rat)∧bl z.natAbs≤h
theorem IB.mono{x:Rat}{h k:Nat}(H:IB x h)(hk:h≤k):IB x k:=by obtain⟨z,e,b⟩:=H;exact⟨z,e,by omega⟩
theorem IB.zero(h:Nat):IB 0 h:=⟨0,rfl,Nat.zero_le _⟩
theorem IB.one:IB 1 1:=⟨1,rfl,by decide⟩
theorem IB.mul{x y:Rat}{h k:Nat}(H:IB x h)(K:IB y k):IB (x* y) (h+k):=by
 obtain⟨z,e,b⟩:=H;obtain⟨w,e',b'⟩:=K;exact⟨z* w,by rw[e,e',Rat.intCast_mul],bx_ b b'⟩
theorem IB.add{x y:Rat}{h:Nat}(H:IB x h)(K:IB y h):IB (x+y) (h+1):=by
 obtain⟨z,e,b⟩:=H;obtain⟨w,e',b'⟩:=K;exact⟨z+w,by rw[e,e',Rat.intCast_add],jI_ b b'⟩
theorem IB.neg{x:Rat}{h:Nat}(H:IB x h):IB (-x) h:=by
 obtain⟨z,e,b⟩:=H;exact⟨-z,by rw[e,Rat.intCast_neg],by rwa[Int.natAbs_neg]⟩
theorem IB.eq{x y:Rat}{h:Nat}(H:IB x h)(e:x=y):IB y h:=e▸H
structure HS (p:List Rat)(K:Rat)(h:Nat):Prop where
 ne:K≠0
 sc:IB K h
 co:∀i,IB (coP p i* K) h
theorem HS.ht{p:List Rat}{K:Rat}{h:Nat}(H:HS p K h):Ht p h:=⟨K,H.ne,fun i=>by
 obtain⟨z,e,b⟩:=H.co i;exact⟨z,e,b⟩⟩
theorem HS.bd{p:List Rat}{K:Rat}{h n:Nat}(H:HS p K h)(hp:Mon p n)(h1:1≤h):bdL p h:=fun q hq=>by
 obtain⟨i,hi,e⟩:=jz_ hq;have:=H.ht.quot i n (by rw[hp.1];decide) h1;rw[hp.1] at this;rw[←e,show coP p i=coP p i/ 1 by grind];exact this
theorem coP_mulP(p q:List Rat)(n:Nat):coP (mulP p q) n=convP p q p.length n:=by
 rw[←lG_];exact trim_iff.1 (dm_ fun x=>by rw[ak_,hH_]) n
theorem tz_{p q:List Rat}{K K':Rat}{h h':Nat}(H:HS p K h)(H':HS q K' h')(n:Nat):∀i,IB (convP p q i n* (K* K')) (h+h'+i)
 |0=>(IB.zero _).eq (by show 0=0* _;grind)
 |i+1=>by
  have ih:=tz_ H H' n i
  have hx:IB ((if i≤n then coP p i* coP q (n- i) else 0) * (K* K')) (h+h'+i):=by
   split;exact(((H.co i).mul (H'.co (n- i))).eq (by grind)).mono (by omega);exact(IB.zero _).eq (by grind)
  exact((ih.add hx).eq (by rw[convP];grind)).mono (by omega)
theorem HS.mul{p q:List Rat}{K K':Rat}{h h' L:Nat}(H:HS p K h)(H':HS q K' h')(hl:p.length≤L):HS (mulP p q) (K* K') (h+h'+L) where
 ne e:=(Rat.mul_eq_zero.1 e).elim H.ne H'.ne
 sc:=(H.sc.mul H'.sc).mono (by omega)
 co i:=by
  rw[coP_mulP];exact(tz_ H H' i p.length).mono (by omega)
theorem HS.shift{p:List Rat}{K:Rat}{h:Nat}(H:HS p K h):HS (mulP p [0,1]) K h where
 ne:=H.ne
 sc:=H.sc
 co i:=by
  rw[coP_x];cases i with
  |zero=>exact(IB.zero h).eq (by show 0=0* K;grind)
  |succ i=>exact H.co i
theorem HS.step {p l r:List Rat} {K K' A B B' a b:Rat} {h h' M:Nat} (H:HS p K h) (H':HS l K' h') (hB:IB B (2* h+M)) (hA:IB A (2* h+M)) (hB':IB B' (2* h'+M)) (b0:B≠0) (b0':B'≠0) (ha:a* B=A)
    (hb:∀i,coP l i* b* (B'* K* K)=coP l i* K'* K'* B) (hr:∀i,coP r i=coP p i* -a+lag p i- coP l i* b):HS r (K* K* B* B') (4* h+2* h'+2* M+2) where
 ne e:=by
  rcases Rat.mul_eq_zero.1 e with e|e
  rcases Rat.mul_eq_zero.1 e with e|e
  rcases Rat.mul_eq_zero.1 e with e|e <;> exact H.ne e
  exact b0 e;exact b0' e
 sc:=(((H.sc.mul H.sc).mul hB).mul hB').mono (by omega)
 co i:=by
  have hlag:IB (lag p i* K) h:=by
   cases i with
   |zero=>exact(IB.zero h).eq (by show 0=0* K;grind)
   |succ i=>exact H.co i
  have t1:=((((H.co i).mul H.sc).mul hB').mul hA).neg;have t2:=((hlag.mul H.sc).mul hB').mul hB;have t3:=((((H'.co i).mul H'.sc).mul hB).mul hB).neg;have hb:=hb i;have s1:=(t1.mono (show _≤4* h+2* h'+2* M by omega)).add (t2.mono (show _≤4* h+2* h'+2* M by omega));have s2:=s1.add (t3.mono (show _≤4* h+2* h'+2* M+1 by omega));refine s2.eq ?_;rw[hr,←ha]
  have e3:coP l i* b* (K* K* B* B')=coP l i* K'* K'* B* B:=by
   have:coP l i* b* (K* K* B* B')=coP l i* b* (B'* K* K) * B:=by grind
   rw[this,hb]
  grind
theorem HS.nil:HS [] 1 1:=⟨by decide,IB.one,fun i=>(IB.zero 1).eq (by show 0=(0:Rat) * 1;grind)⟩
theorem HS.one1:HS [1] 1 1:=⟨by decide,IB.one,fun i=>by
 cases i with
 |zero=>exact IB.one.eq (by show 1=(1:Rat) * 1;grind)
 |succ i=>exact(IB.zero 1).eq (by show 0=(0:Rat) * 1;grind)⟩
section
variable {m:List Rat}{k:Rat}{M n:Nat}(k0:k≠0)(hm:∀i,IB (coP m i* k) M)(hn:∀j,j< n→oN m j≠0)(h7:n≤7)
include k0 hm hn h7
end
theorem oy_{x y:Rat}{h:Nat}(H:IB x h)(K:IB y h)(y0:y≠0)(h1:1≤h):qs (x/ y)≤h:=by
 have hH:Ht [x,y] h:=⟨1,by decide,fun i=>by
  have:IB (coP [x,y] i* 1) h:=by
   match i with
   |0=>exact H.eq (by show x=x* 1;grind)
   |1=>exact K.eq (by show y=y* 1;grind)
   |i+2=>exact(IB.zero h).eq (by show 0=0* 1;grind)
  obtain⟨z,e,b⟩:=this;exact⟨z,e,b⟩⟩
 exact hH.quot 0 1 y0 h1
section
variable {m:List Rat}{s n:Nat}(hm:bdL m s)(hs1:1≤s)(hs:s≤3000)(hl:m.length≤16)(h6:n≤6)(hn:∀j,j< n→0< oN m j)
include hm hs1 hs hl h6 hn
end
theorem nz_int'{n:Int}(h:n≠0):(n:Rat)≠0:=fun e=>h (by have:=congrArg Rat.num e;exact this)
theorem fcN_pos':∀n,0< fcN n
 |0=>by decide
 |n+1=>Nat.mul_pos (fcN_pos' n) (Nat.succ_pos n)
theorem IB.nat{n h:Nat}(hn:bl n≤h):IB (((n:Nat):Int):Rat) h:=⟨n,rfl,by rwa[Int.natAbs_natCast]⟩
theorem IB_den{x:Rat}{h:Nat}(hx:qs x≤h):IB (x* ((x.den:Int):Rat)) h∧IB (((x.den:Nat):Int):Rat) h∧(((x.den:Nat):Int):Rat)≠0:=by
 have h1:=b5_ x;have h2:=bU_ x;refine⟨⟨x.num,?_,by omega⟩,IB.nat (by omega),nz_int' (by have:=x.den_pos;omega)⟩;have hd:(((x.den:Nat):Int):Rat)≠0:=nz_int' (by have:=x.den_pos;omega);have e3:(x.num:Rat) / (((x.den:Nat):Int):Rat)=x:=by rw[←Rat.divInt_eq_div,Rat.num_divInt_den]
 have e2:(x.num:Rat) / (((x.den:Nat):Int):Rat) * (((x.den:Nat):Int):Rat)=(x.num:Rat):=Rat.div_mul_cancel hd;rw[e3] at e2;exact e2
theorem tZ_{u v:Rat}{K:Rat}{h:Nat}(k0:K≠0)(hK:IB K h)(hu:IB (u* K) h)(hv:IB (v* K) h):HS [u,v] K h:=⟨k0,hK,fun i=>by
 match i with
 |0=>exact hu
 |1=>exact hv
 |i+2=>exact(IB.zero h).eq (by show 0=0* K;grind)⟩
theorem tY_{u v K:Rat}(H:HS [u,v] K 20):∀n,n≤8→∃K',HS (powP [u,v] n) K' (1+37* n)
 |0,_=>⟨1,by
    have e:powP [u,v] 0=[1]:=by show trimQ [1]=[1];decide+kernel
    rw[e];exact HS.one1⟩
 |n+1,hn=>by
  obtain⟨K',H'⟩:=tY_ H n (by omega);have h1:=H'.mul H (dT_ u v (n:=n) (by omega));exact⟨_,⟨h1.ne,h1.sc.mono (by omega),fun i=>(h1.co i).mono (by omega)⟩⟩
theorem HS.mono{p:List Rat}{K:Rat}{h k:Nat}(H:HS p K h)(hk:h≤k):HS p K k:=⟨H.ne,H.sc.mono hk,fun i=>(H.co i).mono hk⟩
theorem HS_gK{f:List Rat}{K:Rat}{h:Nat}(H:HS f K h):∀n,HS (gK f n) K h
 |0=>H
 |n+1=>(HS_gK H n).shift
theorem fc_dvd:∀n i,1≤i→i≤n→∃w,fcN n=i* w
 |0,i,h1,h2=>by omega
 |n+1,i,h1,h2=>by
  by_cases e:i=n+1;exact⟨fcN n,by rw[e,fcN,Nat.mul_comm]⟩;obtain⟨w,hw⟩:=fc_dvd n i h1 (by omega);exact⟨w* (n+1),by rw[fcN,hw,Nat.mul_assoc]⟩
theorem fc52:bl (fcN 52)≤230:=by decide+kernel
theorem HS_int{f:List Rat}{K:Rat}{h:Nat}(H:HS f K h)(hl:f.length≤52):HS (aF_ f) (K* (((fcN 52:Nat):Int):Rat)) (h+230) where
 ne e:=(Rat.mul_eq_zero.1 e).elim H.ne fun e=>by
  have:=fcN_pos' 52;exact nz_int' (show((fcN 52:Nat):Int)≠0 by omega) e
 sc:=H.sc.mul (IB.nat fc52)
 co i:=by
  rw[bG_];by_cases h0:i=0;rw[if_pos h0];exact(IB.zero _).eq (by grind);rw[if_neg h0];by_cases hi:i≤52;obtain⟨w,hw⟩:=fc_dvd 52 i (by omega) hi;have hwb:bl w≤230:=Nat.le_trans (b0_ (by rw[hw];exact Nat.le_mul_of_pos_left _ (by omega))) fc52;refine((H.co (i- 1)).mul (IB.nat hwb)).eq ?_;have hiz:(((i:Nat):Int):Rat)≠0:=nz_int' (by omega);have e:(((fcN 52:Nat):Int):Rat)=(((i:Nat):Int):Rat) * (((w:Nat):Int):Rat):=by rw[hw,Int.natCast_mul,Rat.intCast_mul]
  have e2:coP f (i- 1) / (((i:Nat):Int):Rat) * (((i:Nat):Int):Rat)=coP f (i- 1):=Rat.div_mul_cancel hiz;rw[e];generalize coP f (i- 1) / (((i:Nat):Int):Rat)=d at *
  rw[←e2];grind;rw[co_ (by omega:f.length≤i- 1)];exact(IB.zero _).eq (by rw[Rat.div_def,Rat.zero_mul,Rat.zero_mul])
theorem oe_{x D K:Rat}{h:Nat}(hx:IB (x* D) 20)(hD:IB D 20)(hK:IB K h):∀l:List Rat,(∀c∈l,IB (c* K) h)→IB (evalP l x* (K* D^ l.length)) (h+22* l.length)∧IB (D^ l.length) (20* l.length+1)
 |[],_=>⟨(IB.zero _).eq (by rw[ax_];grind),IB.one.eq (by rw[List.length_nil,Rat.pow_zero])⟩
 |c::l,hc=>by
  obtain⟨i1,i2⟩:=oe_ hx hD hK l fun c' h'=>hc c' (List.mem_cons_of_mem _ h');have h1:=i1.mul hx;have h2:=(hc c (List.mem_cons_self ..)).mul (i2.mul hD);refine⟨((h1.mono (show _≤h+22* l.length+21 by omega)).add (h2.mono (show _≤h+22* l.length+21 by omega))).eq ?_|>.mono ?_,((i2.mul hD).mono (by rw[List.length_cons];omega)).eq (by rw[List.length_cons,Rat.pow_succ])⟩;rw[ay_,List.length_cons,Rat.pow_succ];grind;rw[List.length_cons];omega
theorem ml_{x:Rat}(h:x≠0):∀n:Nat,x^ n≠0
 |0=>by rw[Rat.pow_zero];decide
 |n+1=>by rw[Rat.pow_succ];exact fun e=>(Rat.mul_eq_zero.1 e).elim (ml_ h n) h
theorem jc_tame{a b:Rat}{p q k:Nat}(ha:qs a≤20)(hb:qs b≤20)(hp:p≤8)(hq:q≤8)(hk:k≤16):qs (moQ (jcF a b p q) (a,b) k)≤3000:=by
 obtain⟨a1,a2,a3⟩:=IB_den ha;obtain⟨b1,b2,b3⟩:=IB_den hb;have L1:HS [-a,1] (((a.den:Nat):Int):Rat) 20:=tZ_ a3 a2 (a1.neg.eq (by grind)) (a2.eq (by grind));have L2:HS [b,-1] (((b.den:Nat):Int):Rat) 20:=tZ_ b3 b2 b1 (b2.neg.eq (by grind));obtain⟨K1,H1⟩:=tY_ L1 p hp;obtain⟨K2,H2⟩:=tY_ L2 q hq;have hF:HS (jcF a b p q) (K1* K2) 611:=(H1.mul H2 (dT_ (-a) 1 hp)).mono (by omega);have hFl:=(st_ (Nat.le_trans ha (by decide)) (Nat.le_trans hb (by decide)) hp hq).2;have hG:=HS_gK hF k;have hGl:=pi_ (jcF a b p q) k;have hI:=HS_int hG (by omega);have hIl:=dW_ (gK (jcF a b p q) k);have hL:(aF_ (gK (jcF a b p q) k)).length≤51:=by omega
 show qs (evalP (aF_ (gK (jcF a b p q) k)) b- evalP (aF_ (gK (jcF a b p q) k)) a)≤3000;generalize aF_ (gK (jcF a b p q) k)=I at *
 generalize (K1* K2* (((fcN 52:Nat):Int):Rat))=K at *
 have hc:∀c∈I,IB (c* K) 841:=fun c hc=>by
  obtain⟨i,_,e⟩:=jz_ hc;rw[←e];exact(hI.co i).mono (by omega)
 have hK:IB K 841:=hI.sc.mono (by omega);obtain⟨e1,e2⟩:=oe_ b1 b2 hK I hc;obtain⟨f1,f2⟩:=oe_ a1 a2 hK I hc
 have S0:K* (((b.den:Nat):Int):Rat) ^ I.length* (((a.den:Nat):Int):Rat) ^ I.length≠0:=fun e=>by
  rcases Rat.mul_eq_zero.1 e with e|e
  rcases Rat.mul_eq_zero.1 e with e|e
  exact hI.ne e;exact ml_ b3 _ e;exact ml_ a3 _ e
 have S1:IB (K* (((b.den:Nat):Int):Rat) ^ I.length* (((a.den:Nat):Int):Rat) ^ I.length) 3000:=((hK.mul e2).mul f2).mono (by omega)
 have N1:IB ((evalP I b- evalP I a) * (K* (((b.den:Nat):Int):Rat) ^ I.length* (((a.den:Nat):Int):Rat) ^ I.length)) 3000:=by
  have g1:=(e1.mul f2).mono (show _≤2999 by omega);have g2:=((f1.mul e2).neg).mono (show _≤2999 by omega);exact(g1.add g2).eq (by grind)
 have:=oy_ N1 S1 S0 (by omega);rwa[Rat.mul_div_cancel S0] at this
theorem hz_{f:Nat}{p:List Rat}{c:Cnt}(h:cn_ f p=some c)(hp:nz p)(hall:uptoV c (aN_ c.p)=dg p):
    (∃A B:List Rat,∀x,evalP A x* evalP p x+evalP B x* dvE p x=1)∧uptoV c (aN_ p)- dS_ c (-aN_ p)=dg p:=by
 obtain⟨s0,s1,s2,s3,s4,s5⟩:=dh_ h hp;obtain⟨u,L,k,e,k0,hu,H,hL,hdv,_⟩:=h7_ h hp;have up:∀x,uptoV c x=c.far- chV c.ch x:=fun x=>rfl
 have nn0:∀x,0≤chV c.ch x∧chV c.ch x≤L.length:=fun x=>by
  unfold chV;rw[e];rcases chL_nn ((u::L).map (sgE x)) with h|h
  simp only[List.length_map,List.length_cons] at h;exact⟨h.1,by have:=h.2;push_cast at this;omega⟩;cases h
 have hle:dg p≤dg c.p:=by
  have h1:=nn0 (aN_ c.p);have h2:=nn0 (-aN_ c.p);rw[up,s3] at hall;omega
 obtain⟨κ,κ0,hκ,hsq⟩:∃κ:Rat,κ≠0∧(∀x,evalP c.p x=evalP p x* κ)∧∃A B:List Rat,∀x,evalP A x* evalP p x+evalP B x* dvE p x=1:=by
  unfold sqfM at s1;split at s1;cases hg:gcdM f p (at_ p) with
  |none=>rw[hg] at s1;cases s1
  |some g=>
   rw[hg,Option.bind_some] at s1;split at s1;have e1:=Option.some.inj s1;obtain⟨g0,⟨a,ha⟩,⟨b,hb⟩,A,B,hAB⟩:=dX_ f _ _ _ hg (.inl hp);obtain⟨m1,m2⟩:=bY_ p g0;have hm:=dl_ (u:=a) (v:=[]) g0 (fun x=>by rw[ha x,ax_];exact(Rat.add_zero _).symm) (fun e=>absurd rfl e)
   have hq:∀x,evalP p x=evalP (divP p g).1 x* evalP g x:=fun x=>by
    have:=m1 x;rw[hm x,ax_] at this;rw[this];grind
   obtain⟨z1,_⟩:=ck_ hq hp;obtain⟨_,d1,_⟩:=dg_mul' z1 g0 hq;obtain⟨κ,κ',hkk,hmon⟩:=hC_ (divP p g).1;have hκ0:κ≠0:=fun e=>by rw[e] at hkk;grind
   have hdc:dg c.p=dg (divP p g).1:=(cu_ z1 hκ0 fun x=>by rw[←e1,hmon]).2.1;obtain⟨γ,γ0,hγ⟩:=hV_ g0 (by omega);refine⟨κ/ γ,fun e=>?_,fun x=>?_,av_ A (1/ γ),av_ B (1/ γ),fun x=>?_⟩
   have h0:κ=0:=by
    have:=Rat.div_mul_cancel (a:=κ) γ0;rw[e] at this;grind
   exact hκ0 h0;rw[←e1,hmon,hq,hγ];have:=Rat.div_mul_cancel (a:=κ) γ0;grind;have h1:=hAB x;rw[hγ,a4_] at h1;rw[as_,as_];have h2:=Rat.div_mul_cancel (a:=1) γ0;have h3:evalP A x* (1/ γ) * evalP p x+evalP B x* (1/ γ) * dvE p x=(evalP A x* evalP p x+evalP B x* dvE p x) * (1/ γ):=by grind
   rw[h3,←h1];grind;cases s1
  cases s1
 refine⟨hsq,?_⟩;have hbd:aN_ c.p=aN_ p:=ib_ κ0 hp hκ;have h1:uptoV c (-aN_ p)=0:=s4 _ (by rw[hbd];exact Rat.le_refl);have h2:=(fV_ s0 (x:= -aN_ p) (by rw[hbd];exact Rat.le_refl)).1
 have h3:evalP c.p (-aN_ p)≠0:=fun e=>by
  rw[e] at h2;have h4:=bw_ s0;unfold ab at h2;split at h2 <;> grind
 unfold dS_;rw[if_neg h3,h1,←hbd,hall];omega
def RealV(p:List Rat):Prop:=1≤degP p∧degP p≤25∧∃c,CN p c∧uptoV c (aN_ c.p)=degP p
theorem RealV.facts{p:List Rat}(h:RealV p):nz p∧(∃A B:List Rat,∀x,evalP A x* evalP p x+evalP B x* dvE p x=1)∧∃c,CN p c∧uptoV c (aN_ p)- dS_ c (-aN_ p)=degP p:=by
 obtain⟨h1,h2,c,hc,h3⟩:=h;have hd:=fl_ hc.np;obtain⟨f1,f2⟩:=hz_ hc.hc hc.np (by omega);exact⟨hc.np,f1,c,hc,by omega⟩
theorem leastN{P:Nat→Prop}:∀N,P N→∃d,d≤N∧P d∧∀k,k< d→¬P k:=by
 intro N
 induction N using Nat.strongRecOn with
 |ind N ih=>
  intro h;by_cases e:∃k,k< N∧P k;obtain⟨k,k1,k2⟩:=e;obtain⟨d,d1,d2,d3⟩:=ih k k1 k2;exact⟨d,by omega,d2,d3⟩;exact⟨N,Nat.le_refl _,h,fun k hk hp=>e ⟨k,hk,hp⟩⟩
section
variable {T:List Rat}{n:Nat}(hn:1≤n∧n≤5)(hl:T.length=n+1)(ht:trimQ T=T)(hm:leadP T=1)(hb:bdL T 20)
include hn hl ht hm hb
end
def sQ(f:Nat→Rat):Nat→Rat
 |0=>0
 |n+1=>sQ f n+f n
theorem et_{f g:Nat→Rat}:∀n,(∀j,j< n→f j=g j)→sQ f n=sQ g n
 |0,_=>rfl
 |n+1,h=>by rw[sQ,sQ,et_ n fun j hj=>h j (by omega),h n (by omega)]
theorem rk_(f g:Nat→Rat)(u:Rat):∀n,sQ (fun j=>f j- u* g j) n=sQ f n- u* sQ g n
 |0=>by rw[sQ,sQ,sQ];grind
 |n+1=>by rw[sQ,sQ,sQ,rk_ f g u n];grind
theorem sQ_add(f g:Nat→Rat):∀n,sQ (fun j=>f j+g j) n=sQ f n+sQ g n
 |0=>by rw[sQ,sQ,sQ];grind
 |n+1=>by rw[sQ,sQ,sQ,sQ_add f g n];grind
theorem oO_(i:Nat)(a:Rat):∀n,sQ (fun j=>if j=i then a else 0) n=if i< n then a else 0
 |0=>by rw[sQ,if_neg (by omega)]
 |n+1=>by
  rw[sQ,oO_ i a n];grind
abbrev Mx:=Nat→Nat→Rat
def Sol(c:Rat)(M:Mx)(n:Nat)(x:Nat→Rat):Prop:=∀i,i< n→sQ (fun j=>M i j* x j) n=c* M i n
def swM(M:Mx)(k p:Nat):Mx:=fun i j=>if i=k then M p j else if i=p then M k j else M i j
def elM(M:Mx)(k m:Nat):Mx:=fun i j=>if i< m∧i≠k∧k≤j then M i j- M i k/ M k k* M k j else M i j
def pvt(M:Mx)(n k:Nat):Option Nat:=(List.range n).find? fun p=>decide (k≤p∧M p k≠0)
def gjM(M:Mx)(n:Nat):Nat→Option Mx
 |0=>some M
 |k+1=>(gjM M n k).bind fun A=>(pvt A n k).map fun p=>elM (swM A k p) k n
theorem kZ_{M:Mx}{n k p:Nat}(h:pvt M n k=some p):p< n∧k≤p∧M p k≠0:=by
 have h1:=List.find?_some h;have h2:=List.mem_of_find?_eq_some h;grind
theorem oT_{M:Mx}{n k:Nat}(h:pvt M n k=none):∀i,i< n→k≤i→M i k=0:=fun i hi hk=>by
 have h1:=List.find?_eq_none.1 h i (List.mem_range.2 hi);grind
theorem pvt_of{M:Mx}{n k p:Nat}(hp:p< n)(hk:k≤p)(h:M p k≠0)(hb:∀i,k≤i→i< p→M i k=0):pvt M n k=some p:=by
 cases e:pvt M n k with
 |none=>exact absurd (oT_ e p hp hk) h
 |some q=>
  unfold pvt at e;rw[List.find?_range_eq_some] at e;grind
theorem pvt_no{M:Mx}{n k:Nat}(hb:∀i,k≤i→i< n→M i k=0):pvt M n k=none:=by
 cases e:pvt M n k with
 |none=>rfl
 |some q=>
  obtain⟨q1,q2,q3⟩:=kZ_ e;grind
theorem sol_sw{c:Rat}{M:Mx}{n k p:Nat}{x:Nat→Rat}(hk:k< n)(hp:p< n)(h:Sol c (swM M k p) n x):Sol c M n x:=fun i hi=>by
 by_cases e1:i=k;subst e1;by_cases e2:p=i;have:=h i hi;unfold swM at this;simp only[e2] at this;exact this;have:=h p hp;unfold swM at this;simp only[if_neg e2] at this;exact this;by_cases e2:i=p;subst e2;have:=h k hk;unfold swM at this;simp only[if_pos rfl] at this;exact this;have:=h i hi;unfold swM at this;grind
theorem sol_el{c:Rat}{M:Mx}{n k:Nat}{x:Nat→Rat}(hk:k< n)(hz:∀j,j< k→M k j=0)(h:Sol c (elM M k n) n x):Sol c M n x:=by
 have hrow:∀i j,i< n→i≠k→elM M k n i j=M i j- M i k/ M k k* M k j:=fun i j hi hik=>by
  unfold elM;grind
 have hkk:∀j,elM M k n k j=M k j:=fun j=>by unfold elM;grind
 have h0:sQ (fun j=>M k j* x j) n=c* M k n:=by
  have:=h k hk;grind
 intro i hi;by_cases e:i=k;rw[e];exact h0;have h1:=h i hi;rw[et_ (g:=fun j=>M i j* x j- M i k/ M k k* (M k j* x j)) n fun j _=>by grind,rk_] at h1;grind
def DiagM(M:Mx)(n k:Nat):Prop:=∀j,j< k→M j j≠0∧∀i,i< n→i≠j→M i j=0
theorem diag_sw{M:Mx}{n k p:Nat}(h:DiagM M n k)(hk:k≤p)(hp:p< n):DiagM (swM M k p) n k:=fun j hj=>by
 obtain⟨h1,h2⟩:=h j hj;constructor;unfold swM;rw[if_neg (by omega),if_neg (by omega)];exact h1;unfold swM;grind
theorem diag_el{M:Mx}{n k:Nat}(h:DiagM M n k)(h0:M k k≠0):DiagM (elM M k n) n (k+1):=fun j hj=>by
 by_cases e:j=k;subst e;constructor;unfold elM;rw[if_neg (fun e=>e.2.1 rfl)];exact h0;intro i hi hij;unfold elM;grind;obtain⟨h1,h2⟩:=h j (by omega);constructor;unfold elM;rw[if_neg (fun e=>by omega)];exact h1;unfold elM;grind
theorem jf_{M:Mx}{n:Nat}:∀k A,k≤n→gjM M n k=some A→(∀c x,Sol c A n x→Sol c M n x)∧DiagM A n k
 |0,A,_,h=>by cases h;exact⟨fun _ _ h=>h,fun j hj=>by omega⟩
 |k+1,A,hk,h=>by
  rw[gjM] at h;cases e:gjM M n k with
  |none=>grind
  |some B=>
   rw[e,Option.bind_some] at h;obtain⟨i1,i2⟩:=jf_ k B (by omega) e;cases e2:pvt B n k with
   |none=>grind
   |some p=>
    rw[e2] at h;cases h;obtain⟨p1,p2,p3⟩:=kZ_ e2;have d:=diag_sw i2 p2 p1;have hkk:swM B k p k k≠0:=by unfold swM;grind
    refine⟨fun c x hs=>i1 c x (sol_sw (by omega) p1 (sol_el (by omega) (fun j hj=>(d j hj).2 k (by omega) (by omega)) hs)),diag_el d hkk⟩
theorem sA_{M:Mx}{n:Nat}:∀k,k≤n→gjM M n k=none→∃x:Nat→Rat,(∃j,j< n∧x j≠0)∧Sol 0 M n x
 |0,_,h=>by cases h
 |k+1,hk,h=>by
  rw[gjM] at h;cases e:gjM M n k with
  |none=>exact sA_ k (by omega) e
  |some B=>
   obtain⟨i1,i2⟩:=jf_ k B (by omega) e;cases e2:pvt B n k with
   |some p=>grind
   |none=>
    have hz:=oT_ e2;refine⟨fun j=>if j=k then 1 else if j< k then -(B j k/ B j j) else 0,⟨k,by omega,by grind⟩,i1 0 _ fun i hi=>?_⟩;rw[et_ (g:=fun j=>(if j=i then(if i< k then -(B i k) else 0) else 0)+(if j=k then B i k else 0)) n fun j hj=>?_,sQ_add,oO_,oO_];by_cases h1:i< k;grind;grind;by_cases h1:j=k;by_cases h2:j=i;grind;grind;by_cases h2:j< k;obtain⟨d1,d2⟩:=i2 j h2;by_cases h3:j=i;subst h3;grind;grind;grind
theorem gj_end{M A:Mx}{n:Nat}(h:gjM M n n=some A):Sol 1 M n (fun i=>A i n/ A i i):=by
 obtain⟨i1,i2⟩:=jf_ n A (Nat.le_refl _) h;refine i1 1 _ fun i hi=>?_;obtain⟨d1,d2⟩:=i2 i hi;rw[Rat.one_mul,et_ (g:=fun j=>if j=i then A i n else 0) n fun j hj=>?_,oO_,if_pos hi];by_cases e:j=i;subst e;grind;rw[(i2 j hj).2 i hi (fun e'=>e e'.symm)];grind
def bdM(M:Mx)(n s:Nat):Prop:=∀i j,i< n→j≤n→qs (M i j)≤s
def gjB(s:Nat):Nat→Nat
 |0=>s
 |k+1=>4* gjB s k+1
theorem bd_sw{M:Mx}{n k p s:Nat}(h:bdM M n s)(hk:k< n)(hp:p< n):bdM (swM M k p) n s:=fun i j hi hj=>by
 unfold swM;split;exact h p j hp hj;split;exact h k j hk hj;exact h i j hi hj
theorem bd_el{M:Mx}{n k m s:Nat}(h:bdM M n s)(hk:k< n):bdM (elM M k m) n (4* s+1):=fun i j hi hj=>by
 have h1:=h i j hi hj;unfold elM;split;have h2:=h i k hi (by omega);have h3:=h k k hk (by omega);have h4:=h k j hk hj;have h5:=cX_ (M i k) (M k k);have h6:=bJ_ (M i k/ M k k) (M k j);have h7:=rS_ (M i j) (M i k/ M k k* M k j);omega;omega
theorem gj_bd{M:Mx}{n s:Nat}(hs:bdM M n s):∀k A,k≤n→gjM M n k=some A→bdM A n (gjB s k)
 |0,A,_,h=>by cases h;exact hs
 |k+1,A,hk,h=>by
  rw[gjM] at h;cases e:gjM M n k with
  |none=>grind
  |some B=>
   rw[e,Option.bind_some] at h;have i1:=gj_bd hs k B (by omega) e;cases e2:pvt B n k with
   |none=>grind
   |some p=>
    rw[e2] at h;cases h;exact bd_el (bd_sw i1 (by omega) (kZ_ e2).1) (by omega)
theorem nY_{s:Nat}{k n:Nat}(h:k≤n):gjB s k≤gjB s n:=by
 induction n with
 |zero=>grind
 |succ n ih=>
  by_cases e:k=n+1;rw[e];exact Nat.le_refl _;rw[gjB];omega
theorem dY_(n:Nat)(x:Nat→Rat)(i:Nat):coP (tabP n x) i=if i< n then x i else 0:=by
 unfold coP;rw[List.getD_eq_getElem?_getD];by_cases h:i< n;rw[if_pos h];simp[tabP,h];rw[if_neg h,List.getElem?_eq_none (by simp;omega)];rfl
theorem qn_{f:Nat}{p:List Rat}{c:Cnt}(h:cn_ f p=some c)(hp:nz p)(hle:dg p≤dg c.p):∃κ:Rat,κ≠0∧∀x,evalP c.p x=evalP p x* κ:=by
 obtain⟨s0,s1,s2,s3,s4,s5⟩:=dh_ h hp;unfold sqfM at s1;split at s1;cases hg:gcdM f p (at_ p) with
 |none=>grind
 |some g=>
  rw[hg,Option.bind_some] at s1;split at s1;have e1:=Option.some.inj s1;obtain⟨g0,⟨a,ha⟩,⟨b,hb⟩,A,B,hAB⟩:=dX_ f _ _ _ hg (.inl hp);obtain⟨m1,m2⟩:=bY_ p g0;have hm:=dl_ (u:=a) (v:=[]) g0 (fun x=>by rw[ha x,ax_];grind) (fun e=>absurd rfl e)
  have hq:∀x,evalP p x=evalP (divP p g).1 x* evalP g x:=fun x=>by
   have:=m1 x;rw[hm x,ax_] at this;grind
  obtain⟨z1,_⟩:=ck_ hq hp;obtain⟨_,d1,_⟩:=dg_mul' z1 g0 hq;obtain⟨κ,κ',hkk,hmon⟩:=hC_ (divP p g).1;have hκ0:κ≠0:=fun e=>by grind
  have hdc:dg c.p=dg (divP p g).1:=(cu_ z1 hκ0 fun x=>by grind).2.1;obtain⟨γ,γ0,hγ⟩:=hV_ g0 (by omega);refine⟨κ/ γ,fun e=>?_,fun x=>?_⟩;have h0:κ=0:=by grind
  exact hκ0 h0;grind;grind
 grind
theorem low_ne{q:List Rat}(h:nz q){x:Rat}(hx:x≤ -aN_ q):evalP q x≠0:=fun e=>by
 have h2:=(fV_ h hx).1;have h4:=bw_ h;unfold ab at h2;grind
theorem ty_{p:List Rat}{c:Cnt}(hc:CN p c):uptoV c (aN_ p)- dS_ c (-aN_ p)=dg p↔uptoV c (aN_ c.p)=dg p:=by
 refine⟨fun hcount=>?_,fun h=>(hz_ hc.hc hc.np h).2⟩;obtain⟨s0,s1,s2,s3,s4,s5⟩:=dh_ hc.hc hc.np;obtain⟨u,L,k,e,k0,hu,H,hL,hdv,_⟩:=h7_ hc.hc hc.np;have up:∀x,uptoV c x=c.far- chV c.ch x:=fun x=>rfl
 have nn0:∀x,0≤chV c.ch x∧chV c.ch x≤L.length:=fun x=>by
  unfold chV;rw[e];rcases chL_nn ((u::L).map (sgE x)) with h|h
  exact⟨h.1,by grind⟩;cases h
 have h0:evalP c.p (-aN_ p)≠0:=fun e=>low_ne hc.np Rat.le_refl ((hc.root _).1 e);have hbl:dS_ c (-aN_ p)=uptoV c (-aN_ p):=by unfold dS_;grind
 have hle:dg p≤dg c.p:=by grind
 obtain⟨κ,κ0,hκ⟩:=qn_ hc.hc hc.np hle;have hbd:aN_ c.p=aN_ p:=ib_ κ0 hc.np hκ;grind
theorem RealV.iff{p:List Rat}{c:Cnt}(hc:CN p c)(h1:1≤degP p)(h2:degP p≤25):RealV p↔uptoV c (aN_ c.p)=degP p:=by
 constructor;rintro⟨_,_,c',hc',h⟩;have e:c'=c:=Option.some.inj (hc'.hc.symm.trans hc.hc);rw[←e];exact h;exact fun h=>⟨h1,h2,c,hc,h⟩
def rsA(N:List Rat)(n:Nat)(S:Nat→Rat)(k:Nat):Nat→Rat
 |0=>0
 |i+1=>rsA N n S k i- coP N (n- (i+1)) * S (k- (i+1))
def rsF(N:List Rat)(n:Nat)(S:Nat→Rat)(k:Nat):Rat:=if k≤n then rsA N n S k (min n (k- 1))- (((k:Nat):Int):Rat) * coP N (n- k) else rsA N n S k (min n (k- 1))
theorem rsA_nw(N:List Rat)(n:Nat)(out:List Rat)(k:Nat):∀i,nwA N n out k i=coP N (n- k) * (((k:Nat):Int):Rat)- rsA N n (fun j=>coP out j) k i
 |0=>by rw[nwA,rsA];grind
 |i+1=>by rw[nwA,rsA,rsA_nw N n out k i];grind
theorem rJ_{N:List Rat}{n k:Nat}{S S':Nat→Rat}(h:∀j,j< k→S j=S' j)(hk:k≠0):∀i,rsA N n S k i=rsA N n S' k i
 |0=>rfl
 |i+1=>by rw[rsA,rsA,rJ_ h hk i,h _ (by omega)]
theorem oN_(f:Nat→Rat):∀n,sQ f (n+1)=f 0+sQ (fun i=>f (i+1)) n
 |0=>by rw[sQ,sQ,sQ];grind
 |n+1=>by rw[sQ,oN_ f n,sQ];grind
theorem rI_(N:List Rat)(S:Nat→Rat)(j:Nat):∀n i,i≤n→rsA N n S (j+n) i= -(sQ (fun t=>coP N (n- i+t) * S (j+(n- i)+t)) i)
 |n,0,_=>by rw[rsA,sQ];grind
 |n,i+1,h=>by
  rw[rsA,rI_ N S j n i (by omega),oN_];grind
theorem r4_(p m:List Rat):∀n,ofQ p m n=sQ (fun i=>coP p i* coP m i) n
 |0=>rfl
 |n+1=>by rw[ofQ,sQ,r4_ p m n]
theorem rT_(x:Rat)(i:Nat):∀j,x^ (i+j)=x^ i* x^ j
 :=by grind
section
variable {N:List Rat}{n:Nat}(hN:nz N)(hm:leadP N=1)(hd:dg N=n)(h1:1≤n)(ht:trimQ N=N)
include hN hm hd h1 ht
theorem pow_rel(j:Nat):sQ (fun i=>coP N i* trP N (gK [1] (j+i))) (n+1)=0:=by
 have hl:N.length=n+1:=by
  have:=List.length_pos_iff.2 hN;unfold dg at hd;grind
 have H:Lin (fun r=>trP N (mulP r (gK [1] j))):={
  eqv:=fun{p q} h=>(c2_ hN).eqv fun x=>by rw[ak_,ak_,h]
  add:=fun p q=>by
   show trP N (mulP (addP p q) (gK [1] j))=trP N (mulP p (gK [1] j))+trP N (mulP q (gK [1] j));rw[←(c2_ hN).add];exact(c2_ hN).eqv fun x=>by rw[ak_,a1_,a1_,ak_,ak_];grind
  scale:=fun p k=>by
   show trP N (mulP (av_ p k) (gK [1] j))=trP N (mulP p (gK [1] j)) * k;rw[←(c2_ hN).scale];exact(c2_ hN).eqv fun x=>by rw[ak_,as_,as_,ak_];grind}
 have h2:=H.ofQ (m:=tabP (n+1) fun i=>trP N (gK [1] (j+i))) (N:=n+1) (fun i hi=>by
  rw[dY_,if_pos hi];exact(c2_ hN).eqv fun x=>by rw[ak_,ct_,ct_,ct_,Nat.add_comm j i,rT_]) N (n+1) (Nat.le_refl _) (by omega)
 rw[List.take_of_length_le (by omega),r4_] at h2
 have h3:trP N (mulP N (gK [1] j))=0:=by
  rw[trP_md hN (h:=[]) (u:=gK [1] j) fun x=>by rw[ak_,ax_];grind];exact(c2_ hN).zero
 rw[h3] at h2;rw[←h2];exact et_ _ fun i hi=>by rw[dY_,if_pos hi]
theorem oW_(k:Nat)(hk:k≠0):trP N (gK [1] k)=rsF N n (fun j=>trP N (gK [1] j)) k:=by
 have htop:coP N n=1:=by rw[←hd,(bE_ hN).2,hm]
 by_cases hkn:k< n;have hS:∀j,j< k→coP (tabP k fun j=>sL N j) j=sL N j:=fun j hj=>by rw[dY_,if_pos hj]
 have h:=mf_ hN hm (show k< dg N by omega) hS hk;rw[rsA_nw] at h;rw[hr_ hN hm (by omega),h];unfold rsF;rw[rJ_ (S:=fun j=>coP (tabP k fun j=>sL N j) j) (S':=fun j=>trP N (gK [1] j)) (fun j hj=>by rw[hr_ hN hm (by omega)];grind) hk];grind;obtain⟨j,rfl⟩:∃j,k=j+n:=⟨k- n,by omega⟩;have h:=pow_rel hN hm hd h1 ht j;rw[sQ] at h;have h2:=rI_ N (fun j=>trP N (gK [1] j)) j n n (Nat.le_refl _);unfold rsF;by_cases hj:j=0;subst hj
 have h3:rsA N n (fun j=>trP N (gK [1] j)) (0+n) n=rsA N n (fun j=>trP N (gK [1] j)) (0+n) (n- 1)- coP N 0* trP N (gK [1] 0):=by
  conv=>lhs;rw[show n=n- 1+1 by omega]
  rw[rsA,show n- 1+1=n by omega,show n- n=0 by omega,show 0+n- n=0 by omega]
 have h4:trP N (gK [1] 0)=((n:Nat):Int):=by
  rw[hr_ hN hm (by omega)];show coP (at_ N) (dg N- 1)=_;rw[bm_,hd,show n- 1+1=n by omega];grind
 grind;grind
end
end Go.Abs
