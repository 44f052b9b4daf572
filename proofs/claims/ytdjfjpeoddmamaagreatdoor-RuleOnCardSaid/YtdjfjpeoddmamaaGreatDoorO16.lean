/- Part O16 of the proof. -/
import Derived.Test.YtdjfjpeoddmamaaGreatDoorO15
import Derived.Test.YtdjfjpeoddmamaaGreatDoorChecked
import Derived.KernelRfl
set_option linter.all false
namespace Go.Abs
theorem nu_{K:Rat}{h:Nat}(H:IB K h):∀j:Nat,IB (K^ j) (h* j+1)
 |0=>by rw[Rat.pow_zero];exact IB.one.mono (by omega)
 |j+1=>by
  rw[Rat.pow_succ];exact((nu_ H j).mul H).mono (by grind)
theorem Ht_mon{T:List Rat}{n h:Nat}(H:Ht T h)(ht:coP T n=1):∃K:Rat,K≠0∧IB K h∧∀i,IB (coP T i* K) h:=by
 obtain⟨K,K0,F⟩:=H
 have F':∀i,IB (coP T i* K) h:=fun i=>by
  obtain⟨z,z1,z2⟩:=F i;exact⟨z,z1,z2⟩
 grind
section
variable {T:List Rat}{n:Nat}(hn:1≤n∧n≤5)(hl:T.length=n+1)(ht:trimQ T=T)(hm:leadP T=1)
include hn hl ht hm
theorem t_len:nz T∧dg T=n∧degP T=(n:Int)∧coP T n=1:=by
 have h0:nz T:=by
  intro e;grind
 have h1:dg T=n:=by unfold dg;grind
 exact⟨h0,h1,by rw[fl_ h0,h1],by rw[←h1,(bE_ h0).2,hm]⟩
theorem rK_{K:Rat}{h k:Nat}(hK:IB K h)(hT:∀i,IB (coP T i* K) h)(h1:1≤h){S:Nat→Rat}(hS:∀j,j< k→IB (S j* K^ j) ((h+20) * j+10)):∀i,i< k→IB (rsA T n S k i* K^ k) ((h+20) * k+2+i)
 |0,_=>(IB.zero _).eq (by rw[rsA];grind)
 |i+1,hi=>by
  have ih:=rK_ hK hT h1 hS i (by omega);have a:=hT (n- (i+1));have b:=hS (k- (i+1)) (by omega);have c:=nu_ hK i
  have e:(coP T (n- (i+1)) * K) * (S (k- (i+1)) * K^ (k- (i+1))) * K^ i=coP T (n- (i+1)) * S (k- (i+1)) * K^ k:=by
   have h1:K^ k=K^ (k- (i+1)) * K^ i* K:=by
    rw[←rT_,←Rat.pow_succ];grind
   grind
  have f:IB (coP T (n- (i+1)) * S (k- (i+1)) * K^ k) ((h+20) * k+2+i):=by
   refine(((a.mul b).mul c).eq e).mono ?_;obtain⟨d,rfl⟩:∃d,k=d+(i+1):=⟨k- (i+1),by omega⟩;grind
  exact((ih.add f.neg).eq (by rw[rsA];grind)).mono (by omega)
theorem pow_IB{K:Rat}{h:Nat}(hK:IB K h)(hT:∀i,IB (coP T i* K) h)(h1:1≤h):∀k,k≤31→IB (trP T (gK [1] k) * K^ k) ((h+20) * k+10):=by
 obtain⟨n1,n2,n3,n4⟩:=t_len hn hl ht hm;intro k
 induction k using Nat.strongRecOn with
 |ind k ih=>
  intro hk;by_cases hk0:k=0;subst hk0
  have:trP T (gK [1] 0)=((n:Nat):Int):=by
   rw[hr_ n1 hm (by omega)];show coP (at_ T) (dg T- 1)=_;rw[bm_,n2,show n- 1+1=n by omega,n4];grind
  rw[this,Rat.pow_zero,Rat.mul_one];exact(IB.nat (h:=3) (bl_le (by omega))).mono (by omega);have hS:∀j,j< k→IB (trP T (gK [1] j) * K^ j) ((h+20) * j+10):=fun j hj=>ih j hj (by omega);rw[oW_ n1 hm n2 hn.1 ht k hk0];have a:=rK_ hn hl ht hm hK hT h1 (S:=fun j=>trP T (gK [1] j)) hS (min n (k- 1)) (by omega);unfold rsF;by_cases hkn:k≤n;have b:=((IB.nat (n:=k) (h:=5) (bl_le (by omega))).mul (hT (n- k))).mul (nu_ hK (k- 1))
  have e:(((k:Nat):Int):Rat) * (coP T (n- k) * K) * K^ (k- 1)=(((k:Nat):Int):Rat) * coP T (n- k) * K^ k:=by
   have h1:K^ k=K^ (k- 1) * K:=by rw[←Rat.pow_succ];grind
   grind
  have c:IB ((((k:Nat):Int):Rat) * coP T (n- k) * K^ k) ((h+20) * k+8):=(b.eq e).mono (by
   obtain⟨d,rfl⟩:∃d,k=d+1:=⟨k- 1,by omega⟩;grind)
  exact(((a.mono (show _≤(h+20) * k+8 by omega)).add c.neg).eq (by grind)).mono (by omega);rw[if_neg hkn];exact a.mono (by omega)
theorem rY_(hH:Ht T 141)(k:Nat)(hk:k≤20):qs (trP T (gK [1] k))≤3500:=by
 obtain⟨n1,n2,n3,n4⟩:=t_len hn hl ht hm;obtain⟨K,K0,hK,hT⟩:=Ht_mon hH n4;have a:=pow_IB hn hl ht hm hK hT (by omega) k (by omega);have b:=nu_ hK k;have hp:K^ k≠0:=ml_ K0 k;have c:=oy_ (a.mono (show _≤3500 by omega)) (b.mono (show _≤3500 by omega)) hp (by omega);grind
def hkM(T m:List Rat)(n:Nat):Mx:=fun i j=>if j< n then trP T (gK [1] (i+j)) else coP m i
theorem hk_bd{m:List Rat}(hH:Ht T 141)(hmb:bdL m 3000):bdM (hkM T m n) n 3500:=fun i j hi hj=>by
 unfold hkM;split;exact rY_ hn hl ht hm hH _ (by omega);have:=bj_ hmb (by omega) i;omega
theorem tr_sum(x:Nat→Rat)(L i:Nat):trP T (mulP (tabP L x) (gK [1] i))=sQ (fun j=>trP T (gK [1] (i+j)) * x j) L:=by
 obtain⟨n1,n2,n3,n4⟩:=t_len hn hl ht hm
 have H:Lin (fun r=>trP T (mulP r (gK [1] i))):={
  eqv:=fun{p q} h=>(c2_ n1).eqv fun x=>by rw[ak_,ak_,h]
  add:=fun p q=>by
   rw[←(c2_ n1).add];exact(c2_ n1).eqv fun x=>by rw[ak_,a1_,a1_,ak_,ak_];grind
  scale:=fun p k=>by
   rw[←(c2_ n1).scale];exact(c2_ n1).eqv fun x=>by rw[ak_,as_,as_,ak_];grind}
 have h2:=H.ofQ (m:=tabP L fun j=>trP T (gK [1] (i+j))) (N:=L) (fun j hj=>by
  rw[dY_,if_pos hj];exact(c2_ n1).eqv fun x=>by rw[ak_,ct_,ct_,ct_,Nat.add_comm i j,rT_]) (tabP L x) L (Nat.le_refl _) (by simp)
 rw[List.take_of_length_le (by simp),r4_] at h2;rw[←h2];exact et_ _ fun j hj=>by rw[dY_,dY_];grind
variable {A B:List Rat}(hco:∀x,evalP A x* evalP T x+evalP B x* dvE T x=1)
include hco
theorem hk_ok(m:List Rat):∃C,gjM (hkM T m n) n n=some C:=by
 obtain⟨n1,n2,n3,n4⟩:=t_len hn hl ht hm;cases e:gjM (hkM T m n) n n with
 |some C=>grind
 |none=>
  exfalso;obtain⟨x,⟨j,j1,j2⟩,hx⟩:=sA_ n (Nat.le_refl _) e
  have h1:∀i,i< n→coP ([]:List Rat) i=trP T (mulP (tabP n x) (gK [1] i)):=fun i hi=>by
   rw[tr_sum hn hl ht hm];have:=hx i hi;rw[Rat.zero_mul] at this;rw[show coP ([]:List Rat) i=0 from rfl,←this];exact et_ n fun j hj=>by unfold hkM;grind
  have hW:∃z:List Rat,∀x,evalP ([]:List Rat) x* dvE T x=evalP (tpQ T []) x+evalP z x* evalP T x:=⟨[],fun x=>by
   have hz:evalP (tpQ T []) x=0:=d4_ (fun i=>by
    unfold tpQ;rw[dY_];split
    have key:∀j,tpV T [] i j=0:=fun j=>by
     induction j with
     |zero=>rfl
     |succ j ih=>
      rw[tpV,ih];split;rw[show coP ([]:List Rat) (j- 1- i)=0 from rfl];grind;rfl
    exact key _;rfl) x
   rw[hz,ax_];grind⟩
  have h2:=few_wt n1 hm (by omega) ht (fun x=>rfl) hco (W:=tabP n x) (W':=[]) (m:=[]) (fun i hi=>h1 i (by omega)) (fun hz=>by
   have h3:=aB_ (tabP n x);have h4:=List.length_pos_iff.2 hz;rw[d6_] at h3;unfold dg;grind) hW (fun hz=>absurd rfl hz)
  have h5:=trim_iff.1 (eqv_trim.1 h2) j;rw[dY_,if_pos j1] at h5;exact j2 h5
theorem sz_{m V:List Rat}{C:Mx}(h:gjM (hkM T m n) n n=some C)(hV:∃z,∀x,evalP V x* dvE T x=evalP (tpQ T m) x+evalP z x* evalP T x)(dV:nz V→dg V< dg T)(hVt:trimQ V=V):trimQ (tabP n fun i=>C i n/ C i i)=V∧∀i,i< n→coP m i=trP T (mulP V (gK [1] i)):=by
 obtain⟨n1,n2,n3,n4⟩:=t_len hn hl ht hm;have hs:=gj_end h
 have h1:∀i,i< n→coP m i=trP T (mulP (tabP n fun i=>C i n/ C i i) (gK [1] i)):=fun i hi=>by
  rw[tr_sum hn hl ht hm];have:=hs i hi;rw[Rat.one_mul,show hkM T m n i n=coP m i by unfold hkM;grind] at this;rw[←this];exact et_ n fun j hj=>by unfold hkM;grind
 have h2:=few_wt n1 hm (by omega) ht (fun x=>rfl) hco (m:=m) (fun i hi=>h1 i (by omega)) (fun hz=>by
  have h3:=aB_ (tabP n fun i=>C i n/ C i i);rw[d6_] at h3;unfold dg;grind) hV dV
 refine⟨by rw[eqv_trim.1 h2,hVt],fun i hi=>?_⟩;rw[h1 i hi];exact(in_ n1 _).eqv (fun x=>rfl)▸(c2_ n1).eqv fun x=>by rw[ak_,ak_,h2]
theorem hk_size{m V:List Rat}{C:Mx}(hH:Ht T 141)(hmb:bdL m 3000)(h:gjM (hkM T m n) n n=some C)(hV:trimQ (tabP n fun i=>C i n/ C i i)=V):bdL V 7200000:=by
 have hb:=gj_bd (hk_bd hn hl ht hm hH hmb) n C (Nat.le_refl _) h;have hg:gjB 3500 n≤3600000:=Nat.le_trans (nY_ hn.2) (by decide+kernel);rw[←hV];intro q hq;have h1:=be_ hq;obtain⟨i,hi,rfl⟩:=List.mem_map.1 h1;have hi:=List.mem_range.1 hi;have a:=hb i n hi (Nat.le_refl _);have b:=hb i i hi (by omega);have c:=cX_ (C i n) (C i i);omega
end
theorem zOK_w:zOK 6 44 2000000=true:=by decide+kernel
section
variable {T:List Rat}{n:Nat}(hn:1≤n∧n≤5)(hl:T.length=n+1)(ht:trimQ T=T)(hm:leadP T=1)(hb:bdL T 40)
include hn hl ht hm hb
theorem w_su:bdL (suL T n (n- 1)) 4000∧∀j,j< n- 1→okSu T n j:=by
 have hB:∀j,j< 5→suB 40 j≤4000:=by decide+kernel
 exact⟨bdL_mono' (q6_ hb (by omega) (by omega) (n- 1) (by omega)).1 (hB _ (by omega)),fun j hj=>okSu_of hb (by omega) (by omega) (by omega) (Nat.le_trans (hB _ (by omega)) (by omega))⟩
theorem w_apply{W f:List Rat}(hWl:W.length≤n)(hWb:bdL W 7200000)(hf:f.length≤15)(hfb:bdL f 256):
    okDiv f T∧okMul W (divP f T).2∧okDiv (mulP W (divP f T).2) T∧bdL (apR T W f) 1100000000∧(apR T W f).length≤n∧qs (ofQ (apR T W f) (suL T n (n- 1)) (apR T W f).length)≤137438953472∧
    ofQ (apR T W f) (suL T n (n- 1)) (apR T W f).length=trP T (mulP W f):=by
 obtain⟨n1,n2,n3,n4⟩:=t_len hn hl ht hm;obtain⟨s1,s2⟩:=w_su hn hl ht hm hb;have m1:=bN_ hb (by omega);have m2:=bN_ hfb (by omega);have m3:=bN_ hWb (by omega);have tf:=aB_ f;have e1:2^ ((trimQ f).length+1- (trimQ T).length)≤2^ 14:=Nat.pow_le_pow_right (by decide) (by grind);have e2:=Nat.mul_le_mul e1 (show mxL f+2* mxL T+1≤337 by omega);have r1:bdL (divP f T).2 5521408:=(fk_ hfb hb (by omega) (by omega) n1 (Nat.le_trans (Nat.mul_le_mul e1 (show 256+2* 40+1≤337 by omega)) (by decide))).2
 have rl:(divP f T).2.length≤n:=by
  have a:=(cm_ f T n1).2;rw[(ep_ _ _).2,ht] at a;omega
 have m4:=bN_ r1 (by omega);have p1:=gz_ hWb r1 (by omega) (by omega);have p2:=fG_ W (divP f T).2;have p3:bdL (mulP W (divP f T).2) 63607046:=bdL_mono' p1 (Nat.le_trans (Nat.succ_le_succ (Nat.mul_le_mul_right _ (show W.length≤5 by omega))) (by decide));have m5:=bN_ p3 (by omega);have p4:=aB_ (mulP W (divP f T).2);have e3:2^ ((trimQ (mulP W (divP f T).2)).length+1- (trimQ T).length)≤2^ 4:=Nat.pow_le_pow_right (by decide) (by grind);have e4:=Nat.mul_le_mul e3 (show mxL (mulP W (divP f T).2)+2* mxL T+1≤63607127 by omega);have r2:bdL (apR T W f) 1100000000:=(fk_ p3 hb (by omega) (by omega) n1 (Nat.le_trans (Nat.mul_le_mul e3 (show 63607046+2* 40+1≤63607127 by omega)) (by decide))).2
 have rl2:(apR T W f).length≤n:=by
  have q:(trimQ (apR T W f)).length< (trimQ T).length:=(cm_ _ T n1).2;have e:trimQ (apR T W f)=apR T W f:=(ep_ _ _).2;grind
 have e5:=Nat.mul_le_mul (show W.length≤5 by omega) (show mxL W+mxL (divP f T).2+1≤12721409 by omega);have o1:=ms_ r2 s1 (by omega) (by omega) (apR T W f).length;have o2:=Nat.mul_le_mul_right (1100000000+4000+1) (show(apR T W f).length≤5 by omega);have tr:=apply_tr (W:=W) (f:=f) n1 hm ht (by omega);rw[n2] at tr;refine⟨⟨?_,by omega,by omega⟩,⟨?_,by omega,by omega,by omega⟩,⟨?_,by omega,by omega⟩,r2,rl2,?_,tr⟩;exact Nat.le_trans e2 (by decide);exact Nat.le_trans (Nat.succ_le_succ e5) (by decide);exact Nat.le_trans e4 (by decide);grind
theorem w_own{m A B:List Rat}(hmb:bdL m 3000)(hco:∀x,evalP A x* evalP T x+evalP B x* dvE T x=1):∃G A',bzL 9 (at_ T) T (c3_ ((1:Int):Rat)) []=some (G,A')∧okBz (at_ T) T G A'∧okMul (tpQ T m) (bzA T G A')∧okDiv (mulP (tpQ T m) (bzA T G A')) T∧
    ∃W,W=(divP (mulP (tpQ T m) (bzA T G A')) T).2∧W.length≤n∧trimQ W=W∧(∃z,∀x,evalP W x* dvE T x=evalP (tpQ T m) x+evalP z x* evalP T x)∧(nz W→dg W< dg T):=by
 obtain⟨n1,n2,n3,n4⟩:=t_len hn hl ht hm;have hdl:=dd_ T;have hH:Ht T (40+1+6* 40):=(Ht.of hb).mono (by grind);have hdd:=(eS_ (by grind) hb (by omega) hH).1;obtain⟨G,A',g1,g2,g3,g4,g5⟩:=okBz_of zOK_w (p:=at_ T) (q:=T) (B:=B) (C:=A) (bdL_mono' hdd (by omega)) (bdL_mono' hb (by omega)) (by omega) (by omega) (by omega) n1 ht fun x=>by rw[a4_];grind
 obtain⟨w,hw⟩:=bzA_inv g1 n1 (B:=B) (C:=A) fun x=>by rw[a4_];grind
 have htl:(tpQ T m).length=n:=by unfold tpQ tabP;grind
 have htb:bdL (tpQ T m) 18247:=by
  intro q hq;unfold tpQ tabP at hq;obtain⟨i,hi,rfl⟩:=List.mem_map.1 hq;have:=q1_ hb hmb (by omega) (by omega) i T.length;grind
 have m1:=bN_ htb (by omega);have m2:=bN_ g3 (by omega);have m3:=bN_ hb (by omega);have p1:=gz_ htb g3 (by omega) (by omega);have p2:=fG_ (tpQ T m) (bzA T G A');rw[htl] at p1 p2;have p3:bdL (mulP (tpQ T m) (bzA T G A')) 20091731:=bdL_mono' p1 (Nat.le_trans (Nat.succ_le_succ (Nat.mul_le_mul_right _ hn.2)) (by decide));have m4:=bN_ p3 (by omega);have p4:=aB_ (mulP (tpQ T m) (bzA T G A'));have e3:2^ ((trimQ (mulP (tpQ T m) (bzA T G A'))).length+1- (trimQ T).length)≤2^ 4:=Nat.pow_le_pow_right (by decide) (by grind);obtain⟨v1,v2⟩:=wt_spec (T:=tpQ T m) n1 (iv:=bzA T G A') (w:=w) fun x=>by rw[←a4_];grind
 refine⟨G,A',g1,g2,⟨?_,by omega,by omega,by omega⟩,⟨?_,by omega,by omega⟩,_,rfl,?_,(ep_ _ _).2,v1,v2⟩;rw[htl];exact Nat.le_trans (Nat.succ_le_succ (Nat.mul_le_mul hn.2 (show mxL (tpQ T m)+mxL (bzA T G A')+1≤4018346 by omega))) (by decide);exact Nat.le_trans (Nat.mul_le_mul e3 (show mxL (mulP (tpQ T m) (bzA T G A'))+2* mxL T+1≤20091812 by omega)) (by decide);have a:=(cm_ (mulP (tpQ T m) (bzA T G A')) T n1).2;rw[(ep_ _ _).2,ht] at a;omega
end
theorem i1_{p:List Rat}{n:Nat}(hp:nz p)(hd:degP p=(n:Int))(hl:p.length≤6)(hb:bdL p 20):(aG_ p).length=n+1∧trimQ (aG_ p)=aG_ p∧leadP (aG_ p)=1∧bdL (aG_ p) 40∧Ht (aG_ p) 141∧∃κ:Rat,κ≠0∧∀x,evalP (aG_ p) x=evalP p x* κ:=by
 have hlead:=bw_ hp;have e:aG_ p=av_ p (1/ leadP p):=by unfold aG_;rw[if_neg hp]
 have hk:(1/ leadP p:Rat)≠0:=fun h=>by grind
 have hev:∀x,evalP (aG_ p) x=evalP p x* (1/ leadP p):=fun x=>by rw[e,as_]
 obtain⟨d1,d2,d3⟩:=cu_ hp hk hev;have htr:=di_ p
 have hlen:(aG_ p).length=n+1:=by
  have h1:=List.length_pos_iff.2 d1;unfold dg at d2;unfold degP at hd;grind
 refine⟨hlen,htr,?_,?_,?_,1/ leadP p,hk,hev⟩;grind;intro q hq;rw[e] at hq;obtain⟨i,_,rfl⟩:=List.mem_map.1 (be_ hq);have h1:=bj_ hb (by omega) i;have h2:=gB_ hb (by omega);have h5:=cX_ (coP p i) (leadP p);have h6:coP p i* (1/ leadP p)=coP p i/ leadP p:=by grind
 rw[h6];omega;have h1:Ht p 141:=(Ht.of hb).mono (by grind);exact h1.scale hk fun i=>by rw[e,a5_]
theorem mw_{p q:List Rat}{k:Rat}(hk:k≠0)(hp:nz p)(h:∀x,evalP q x=evalP p x* k):aG_ q=aG_ p:=by
 obtain⟨d1,d2,d3⟩:=cu_ hp hk h;have e1:aG_ p=av_ p (1/ leadP p):=by unfold aG_;rw[if_neg hp]
 have e2:aG_ q=av_ q (1/ leadP q):=by unfold aG_;rw[if_neg d1]
 rw[←di_ p,←di_ q];refine eqv_trim.1 fun x=>?_;rw[e1,e2,as_,as_];grind
theorem nA_{f f2:Nat}{p q s s2:List Rat}{k:Rat}(hk:k≠0)(hp:nz p)(h:∀x,evalP q x=evalP p x* k)(h1:sqfM f p=some s)(h2:sqfM f2 q=some s2):s2=s:=by
 obtain⟨d1,d2,d3⟩:=cu_ hp hk h;have hdv:∀x,dvE q x=dvE p x* k:=fun x=>dvE_k h x;unfold sqfM at h1 h2;split at h1;split at h2;cases e1:gcdM f p (at_ p) with
 |none=>rw[e1] at h1;cases h1
 |some g=>
  cases e2:gcdM f2 q (at_ q) with
  |none=>rw[e2] at h2;cases h2
  |some g2=>
   rw[e1,Option.bind_some] at h1;rw[e2,Option.bind_some] at h2;split at h1;split at h2;cases h1;cases h2;obtain⟨g0,⟨a,ha⟩,⟨b,hb⟩,A,B,hAB⟩:=dX_ f _ _ _ e1 (.inl hp);obtain⟨z0,⟨a2,ha2⟩,⟨b2,hb2⟩,A2,B2,hAB2⟩:=dX_ f2 _ _ _ e2 (.inl d1);have m1:=(bY_ p g0).1;have r1:=dl_ (u:=a) (v:=[]) g0 (fun x=>by rw[ha x,ax_];exact(Rat.add_zero _).symm) (fun e=>absurd rfl e)
   have hq1:∀x,evalP p x=evalP (divP p g).1 x* evalP g x:=fun x=>by
    have:=m1 x;rw[r1 x,ax_] at this;rw[this];grind
   have m2:=(bY_ q z0).1;have r2:=dl_ (u:=a2) (v:=[]) z0 (fun x=>by rw[ha2 x,ax_];exact(Rat.add_zero _).symm) (fun e=>absurd rfl e)
   have hq2:∀x,evalP q x=evalP (divP q g2).1 x* evalP g2 x:=fun x=>by
    have:=m2 x;rw[r2 x,ax_] at this;rw[this];grind
   -- each divides the other
   have v1:∃u:List Rat,∀x,evalP g2 x=evalP u x* evalP g x:=⟨av_ (addP (mulP A2 a) (mulP B2 b)) k,fun x=>by
    have:=hAB2 x;rw[a4_,hdv,h] at this;have hb':=hb x;rw[a4_] at hb';rw[this,ha,hb',as_,a1_,ak_,ak_];grind⟩
   have v2:∃u:List Rat,∀x,evalP g x=evalP u x* evalP g2 x:=⟨av_ (addP (mulP A a2) (mulP B b2)) (1/ k),fun x=>by
    have:=hAB x;have hb':=hb2 x;rw[a4_,hdv] at hb';have ha':=ha2 x;rw[h] at ha';rw[a4_] at this;have c:=Rat.div_mul_cancel (a:=1) hk;rw[this,as_,a1_,ak_,ak_];generalize 1/ k=w at *
    grind⟩
   obtain⟨u,hu⟩:=v1;obtain⟨w,hw⟩:=v2;have zu:=(ck_ hu z0).1;have du:=(dg_mul' zu g0 hu).2.1;have zw:=(ck_ hw g0).1;have dw:=(dg_mul' zw z0 hw).2.1;obtain⟨γ,γ0,hγ⟩:=hV_ zu (by omega)
   -- the quotients
   have zq:=(ck_ hq1 hp).1
   have hqq:∀x,evalP (subP (av_ (divP q g2).1 γ) (av_ (divP p g).1 k)) x* evalP g x=0:=fun x=>by
    have e:=hq2 x;rw[h,hu,hγ,hq1] at e;rw[bf_,as_,as_];grind
   have hz:¬nz (subP (av_ (divP q g2).1 γ) (av_ (divP p g).1 k)):=fun hz=>by
    have:=(dg_mul' hz g0 (r:=[]) (fun x=>by rw[hqq,ax_])).1;exact this rfl
   have he:∀x,evalP (divP q g2).1 x=evalP (divP p g).1 x* (k/ γ):=fun x=>by
    have e:=dJ_ hz x;rw[bf_,as_,as_] at e;have c:=Rat.div_mul_cancel (a:=k) γ0;have d:(evalP (divP q g2).1 x- evalP (divP p g).1 x* (k/ γ)) * γ=0:=by grind
    rcases Rat.mul_eq_zero.1 d with e|e
    grind;exact absurd e γ0
   exact mw_ (fun e=>by
    have c:=Rat.div_mul_cancel (a:=k) γ0;rw[e] at c;grind) zq he
   cases h2;cases h1
 cases h2;cases h1
theorem jW_{p q:List Rat}{k:Rat}{c c2:Cnt}(hk:k≠0)(hp:nz p)(h:∀x,evalP q x=evalP p x* k)(h1:cn_ 9 p=some c)(h2:cn_ 9 q=some c2):c2=c:=by
 unfold cn_ at h1 h2;cases e:sqfM 9 p with
 |none=>rw[e] at h1;cases h1
 |some s=>
  cases e':sqfM 9 q with
  |none=>rw[e'] at h2;cases h2
  |some s'=>
   have es:=nA_ hk hp h e e';subst es;rw[e] at h1;rw[e',h1] at h2;cases h2;rfl
theorem cOK_w:cOK 6 40 40000 240500 40000000=true:=by decide+kernel
theorem RealV.mon{p:List Rat}{n:Nat}(hp:RealV p)(hd:degP p=(n:Int))(hl:p.length≤6)(hb:bdL p 20):∃c,cn_ 9 (aG_ p)=some c∧(∀x,qs x≤10000000→okUp c x∧okBe c x)∧uptoV c (aN_ (aG_ p))- dS_ c (-aN_ (aG_ p))=degP (aG_ p):=by
 obtain⟨h1,h2,c,hc,h3⟩:=hp;obtain⟨f1,f2,f3,f4,f5,κ,κ0,hκ⟩:=i1_ hc.np hd hl hb;obtain⟨d1,d2,d3⟩:=cu_ hc.np κ0 hκ;obtain⟨c2,e1,e2⟩:=or_ cOK_w d1 (by rw[f2,f1];unfold degP at hd;have:=aB_ p;omega) (by rw[f1];unfold degP at hd;have:=aB_ p;omega) f4;have e3:=jW_ κ0 hc.np hκ hc.hc e1;subst e3;refine⟨_,e1,e2,?_⟩;rw[fl_ d1];exact(hz_ e1 d1 (by rw[h3,fl_ hc.np,d2])).2
end Go.Abs
namespace Go.Proofs.YtdjfjpeoddmamaaGreatDoor
open Go.Abs
set_option maxRecDepth 20000
theorem hmix:Tryz.prog.follows .mixedOrders=true:=by kernel_rfl
instance:T4 Tryz.prog 2 [Value.int IntKind.i64 0] 1 false 8:=⟨by kernel_rfl⟩
instance tu_2:TU Tryz.prog 2 (.int .i64):=⟨by kernel_rfl⟩
instance:T4 Tryz.prog 3 [Value.int IntKind.i64 0] 1 false 8:=⟨by kernel_rfl⟩
instance tu_3:TU Tryz.prog 3 (.int .i64):=⟨by kernel_rfl⟩
instance:T4 Tryz.prog 4 [Value.bool false] 1 false 1:=⟨by kernel_rfl⟩
instance tu_4:TU Tryz.prog 4 .bool:=⟨by kernel_rfl⟩
instance:T4 Tryz.prog 5 [Value.int IntKind.u8 0] 1 false 1:=⟨by kernel_rfl⟩
instance tu_5:TU Tryz.prog 5 (.int .u8):=⟨by kernel_rfl⟩
instance:T3 Tryz.prog 9 1 false 16:=⟨by kernel_rfl⟩
instance tu_9:TU Tryz.prog 9 .string:=⟨by kernel_rfl⟩
instance:T4 Tryz.prog 23 [Value.int IntKind.i64 0,Value.int IntKind.i64 0,Value.int IntKind.u8 0] 3 true 24:=⟨by kernel_rfl⟩
instance tp_23:TP Tryz.prog 23 [(0,1),(1,1),(2,1)]:=⟨by kernel_rfl⟩
instance:T2 Tryz.prog 23 0 (0,1) false:=⟨by kernel_rfl⟩
instance:T2 Tryz.prog 23 1 (1,1) false:=⟨by kernel_rfl⟩
instance:T2 Tryz.prog 23 2 (2,1) false:=⟨by kernel_rfl⟩
instance:T4 Tryz.prog 25 [Value.int IntKind.i64 0,Value.int IntKind.i64 0,Value.int IntKind.u8 0,Value.int IntKind.i64 0,Value.int IntKind.i64 0,Value.int IntKind.u8 0] 6 true 48:=⟨by kernel_rfl⟩
instance tp_25:TP Tryz.prog 25 [(0,3),(3,3)]:=⟨by kernel_rfl⟩
instance:T2 Tryz.prog 25 0 (0,3) true:=⟨by kernel_rfl⟩
instance:T2 Tryz.prog 25 1 (3,3) true:=⟨by kernel_rfl⟩
instance:T4 Tryz.prog 26 [Value.slice none 0 0] 1 false 24:=⟨by kernel_rfl⟩
instance te_26:TE Tryz.prog 26 (23,3):=⟨by kernel_rfl⟩
instance:T4 Tryz.prog 29 [Value.slice none 0 0] 1 false 24:=⟨by kernel_rfl⟩
instance te_29:TE Tryz.prog 29 (236,1):=⟨by kernel_rfl⟩
instance:T4 Tryz.prog 31 [Value.slice none 0 0] 1 true 24:=⟨by kernel_rfl⟩
instance tp_31:TP Tryz.prog 31 [(0,1)]:=⟨by kernel_rfl⟩
instance:T2 Tryz.prog 31 0 (0,1) false:=⟨by kernel_rfl⟩
instance:T4 Tryz.prog 33 [Value.slice none 0 0,Value.bool false] 2 true 32:=⟨by kernel_rfl⟩
instance tp_33:TP Tryz.prog 33 [(0,1),(1,1)]:=⟨by kernel_rfl⟩
instance:T2 Tryz.prog 33 0 (0,1) true:=⟨by kernel_rfl⟩
instance:T2 Tryz.prog 33 1 (1,1) false:=⟨by kernel_rfl⟩
instance:T4 Tryz.prog 35 [Value.slice none 0 0,Value.bool false,Value.slice none 0 0] 3 true 56:=⟨by kernel_rfl⟩
instance tp_35:TP Tryz.prog 35 [(0,2),(2,1)]:=⟨by kernel_rfl⟩
instance:T2 Tryz.prog 35 0 (0,2) true:=⟨by kernel_rfl⟩
instance:T2 Tryz.prog 35 1 (2,1) true:=⟨by kernel_rfl⟩
instance:T4 Tryz.prog 37 [Value.slice none 0 0,Value.bool false,Value.slice none 0 0,Value.slice none 0 0,Value.bool false,Value.slice none 0 0] 6 true 112:=⟨by kernel_rfl⟩
instance tp_37:TP Tryz.prog 37 [(0,3),(3,3)]:=⟨by kernel_rfl⟩
instance:T2 Tryz.prog 37 0 (0,3) true:=⟨by kernel_rfl⟩
instance:T2 Tryz.prog 37 1 (3,3) true:=⟨by kernel_rfl⟩
instance:T4 Tryz.prog 38 [Value.slice none 0 0] 1 false 24:=⟨by kernel_rfl⟩
instance te_38:TE Tryz.prog 38 (3,1):=⟨by kernel_rfl⟩
instance:T4 Tryz.prog 40 [Value.int IntKind.i64 0,Value.slice none 0 0] 2 true 32:=⟨by kernel_rfl⟩
instance tp_40:TP Tryz.prog 40 [(0,1),(1,1)]:=⟨by kernel_rfl⟩
instance:T2 Tryz.prog 40 0 (0,1) false:=⟨by kernel_rfl⟩
instance:T2 Tryz.prog 40 1 (1,1) false:=⟨by kernel_rfl⟩
instance:T4 Tryz.prog 42 [Value.int IntKind.i64 0,Value.slice none 0 0,Value.int IntKind.i64 0,Value.slice none 0 0] 4 true 64:=⟨by kernel_rfl⟩
instance tp_42:TP Tryz.prog 42 [(0,2),(2,2)]:=⟨by kernel_rfl⟩
instance:T2 Tryz.prog 42 0 (0,2) true:=⟨by kernel_rfl⟩
instance:T2 Tryz.prog 42 1 (2,2) true:=⟨by kernel_rfl⟩
instance:T4 Tryz.prog 44 [Value.int IntKind.i64 0,Value.slice none 0 0,Value.int IntKind.i64 0,Value.slice none 0 0,Value.int IntKind.i64 0,Value.slice none 0 0,Value.int IntKind.i64 0,Value.slice none 0 0] 8 true 128:=⟨by kernel_rfl⟩
instance tp_44:TP Tryz.prog 44 [(0,4),(4,4)]:=⟨by kernel_rfl⟩
instance:T2 Tryz.prog 44 0 (0,4) true:=⟨by kernel_rfl⟩
instance:T2 Tryz.prog 44 1 (4,4) true:=⟨by kernel_rfl⟩
instance:T4 Tryz.prog 49 [Value.slice none 0 0] 1 false 24:=⟨by kernel_rfl⟩
instance te_49:TE Tryz.prog 49 (35,3):=⟨by kernel_rfl⟩
instance:T4 Tryz.prog 51 [Value.slice none 0 0,Value.bool false,Value.bool false,Value.slice none 0 0,Value.bool false,Value.slice none 0 0,Value.slice none 0 0,Value.bool false,Value.slice none 0 0] 9 true 144:=⟨by kernel_rfl⟩
instance tp_51:TP Tryz.prog 51 [(0,1),(1,1),(2,1),(3,3),(6,3)]:=⟨by kernel_rfl⟩
instance:T2 Tryz.prog 51 0 (0,1) false:=⟨by kernel_rfl⟩
instance:T2 Tryz.prog 51 1 (1,1) false:=⟨by kernel_rfl⟩
instance:T2 Tryz.prog 51 2 (2,1) false:=⟨by kernel_rfl⟩
instance:T2 Tryz.prog 51 3 (3,3) true:=⟨by kernel_rfl⟩
instance:T2 Tryz.prog 51 4 (6,3) true:=⟨by kernel_rfl⟩
instance:T4 Tryz.prog 52 [Value.int IntKind.i64 0] 1 false 8:=⟨by kernel_rfl⟩
instance tu_52:TU Tryz.prog 52 (.int .i64):=⟨by kernel_rfl⟩
instance:T4 Tryz.prog 55 [Value.slice none 0 0] 1 false 24:=⟨by kernel_rfl⟩
instance te_55:TE Tryz.prog 55 (35,3):=⟨by kernel_rfl⟩
instance:T4 Tryz.prog 57 [Value.slice none 0 0,Value.slice none 0 0] 2 true 48:=⟨by kernel_rfl⟩
instance tp_57:TP Tryz.prog 57 [(0,1),(1,1)]:=⟨by kernel_rfl⟩
instance:T2 Tryz.prog 57 0 (0,1) false:=⟨by kernel_rfl⟩
instance:T2 Tryz.prog 57 1 (1,1) false:=⟨by kernel_rfl⟩
instance:T4 Tryz.prog 65 [Value.slice none 0 0] 1 false 24:=⟨by kernel_rfl⟩
instance te_65:TE Tryz.prog 65 (42,4):=⟨by kernel_rfl⟩
instance:T4 Tryz.prog 66 [Value.slice none 0 0] 1 false 24:=⟨by kernel_rfl⟩
instance te_66:TE Tryz.prog 66 (42,4):=⟨by kernel_rfl⟩
instance:T3 Tryz.prog 75 19 true 160:=⟨by kernel_rfl⟩
instance tp_75:TP Tryz.prog 75 [(0,1),(1,6),(7,1),(8,1),(9,1),(10,1),(11,1),(12,1),(13,3),(16,3)]:=⟨by kernel_rfl⟩
instance:T2 Tryz.prog 75 0 (0,1) false:=⟨by kernel_rfl⟩
instance:T2 Tryz.prog 75 1 (1,6) true:=⟨by kernel_rfl⟩
instance:T2 Tryz.prog 75 2 (7,1) false:=⟨by kernel_rfl⟩
instance:T2 Tryz.prog 75 3 (8,1) false:=⟨by kernel_rfl⟩
instance:T2 Tryz.prog 75 4 (9,1) false:=⟨by kernel_rfl⟩
instance:T2 Tryz.prog 75 5 (10,1) false:=⟨by kernel_rfl⟩
instance:T2 Tryz.prog 75 6 (11,1) false:=⟨by kernel_rfl⟩
instance:T2 Tryz.prog 75 7 (12,1) false:=⟨by kernel_rfl⟩
instance:T2 Tryz.prog 75 8 (13,3) true:=⟨by kernel_rfl⟩
instance:T2 Tryz.prog 75 9 (16,3) true:=⟨by kernel_rfl⟩
instance:T4 Tryz.prog 77 [Value.slice none 0 0,Value.bool false,Value.bool false,Value.int IntKind.i64 0,Value.slice none 0 0,Value.int IntKind.i64 0,Value.slice none 0 0,Value.int IntKind.i64 0,Value.slice none 0 0,Value.int IntKind.i64 0,Value.slice none 0 0] 11 true 160:=⟨by kernel_rfl⟩
instance tp_77:TP Tryz.prog 77 [(0,1),(1,1),(2,1),(3,4),(7,4)]:=⟨by kernel_rfl⟩
instance:T2 Tryz.prog 77 0 (0,1) false:=⟨by kernel_rfl⟩
instance:T2 Tryz.prog 77 1 (1,1) false:=⟨by kernel_rfl⟩
instance:T2 Tryz.prog 77 2 (2,1) false:=⟨by kernel_rfl⟩
instance:T2 Tryz.prog 77 3 (3,4) true:=⟨by kernel_rfl⟩
instance:T2 Tryz.prog 77 4 (7,4) true:=⟨by kernel_rfl⟩
instance:T4 Tryz.prog 102 [Value.slice none 0 0,Value.slice none 0 0] 2 true 48:=⟨by kernel_rfl⟩
instance tp_102:TP Tryz.prog 102 [(0,1),(1,1)]:=⟨by kernel_rfl⟩
instance:T2 Tryz.prog 102 0 (0,1) false:=⟨by kernel_rfl⟩
instance:T2 Tryz.prog 102 1 (1,1) false:=⟨by kernel_rfl⟩
instance:T4 Tryz.prog 139 [Value.nilFunc] 1 false 8:=⟨by kernel_rfl⟩
instance:T4 Tryz.prog 150 [Value.slice none 0 0,Value.bool false,Value.bool false,Value.slice none 0 0,Value.bool false,Value.slice none 0 0,Value.slice none 0 0,Value.bool false,Value.slice none 0 0,Value.slice none 0 0,Value.slice none 0 0,Value.slice none 0 0,Value.bool false,Value.slice none 0 0,Value.slice none 0 0,Value.slice none 0 0] 16 true 296:=⟨by kernel_rfl⟩
instance tp_150:TP Tryz.prog 150 [(0,9),(9,1),(10,1),(11,3),(14,1),(15,1)]:=⟨by kernel_rfl⟩
instance:T2 Tryz.prog 150 0 (0,9) true:=⟨by kernel_rfl⟩
instance:T2 Tryz.prog 150 1 (9,1) false:=⟨by kernel_rfl⟩
instance:T2 Tryz.prog 150 2 (10,1) false:=⟨by kernel_rfl⟩
instance:T2 Tryz.prog 150 3 (11,3) true:=⟨by kernel_rfl⟩
instance:T2 Tryz.prog 150 4 (14,1) false:=⟨by kernel_rfl⟩
instance:T2 Tryz.prog 150 5 (15,1) false:=⟨by kernel_rfl⟩
instance:T4 Tryz.prog 151 [Value.nilFunc] 1 false 8:=⟨by kernel_rfl⟩
instance:T4 Tryz.prog 157 [Value.nilFunc] 1 false 8:=⟨by kernel_rfl⟩
instance:T4 Tryz.prog 183 [Value.slice none 0 0] 1 false 24:=⟨by kernel_rfl⟩
instance te_183:TE Tryz.prog 183 (65,1):=⟨by kernel_rfl⟩
instance:T4 Tryz.prog 199 [Value.pointer none] 1 false 8:=⟨by kernel_rfl⟩
instance:T4 Tryz.prog 220 [Value.pointer none] 1 false 8:=⟨by kernel_rfl⟩
instance:T4 Tryz.prog 221 [Value.slice none 0 0] 1 false 24:=⟨by kernel_rfl⟩
instance te_221:TE Tryz.prog 221 (5,1):=⟨by kernel_rfl⟩
instance:T4 Tryz.prog 223 [Value.pointer none,Value.slice none 0 0] 2 true 32:=⟨by kernel_rfl⟩
instance tp_223:TP Tryz.prog 223 [(0,1),(1,1)]:=⟨by kernel_rfl⟩
instance:T2 Tryz.prog 223 0 (0,1) false:=⟨by kernel_rfl⟩
instance:T2 Tryz.prog 223 1 (1,1) false:=⟨by kernel_rfl⟩
instance:T4 Tryz.prog 230 [Value.nilFunc] 1 false 8:=⟨by kernel_rfl⟩
instance:T4 Tryz.prog 235 [Value.int IntKind.u64 0] 1 false 8:=⟨by kernel_rfl⟩
instance tu_235:TU Tryz.prog 235 (.int .u64):=⟨by kernel_rfl⟩
instance:T4 Tryz.prog 236 [Value.int IntKind.u32 0] 1 false 4:=⟨by kernel_rfl⟩
instance tu_236:TU Tryz.prog 236 (.int .u32):=⟨by kernel_rfl⟩
instance:T4 Tryz.prog 261 [Value.slice none 0 0] 1 false 24:=⟨by kernel_rfl⟩
instance te_261:TE Tryz.prog 261 (55,1):=⟨by kernel_rfl⟩
instance:T4 Tryz.prog 263 [Value.slice none 0 0,Value.slice none 0 0,Value.int IntKind.i64 0] 3 true 56:=⟨by kernel_rfl⟩
instance tp_263:TP Tryz.prog 263 [(0,1),(1,1),(2,1)]:=⟨by kernel_rfl⟩
instance:T2 Tryz.prog 263 0 (0,1) false:=⟨by kernel_rfl⟩
instance:T2 Tryz.prog 263 1 (1,1) false:=⟨by kernel_rfl⟩
instance:T2 Tryz.prog 263 2 (2,1) false:=⟨by kernel_rfl⟩
instance:T4 Tryz.prog 266 [Value.nilFunc] 1 false 8:=⟨by kernel_rfl⟩
instance:T4 Tryz.prog 288 [Value.pointer none] 1 false 8:=⟨by kernel_rfl⟩
instance:T4 Tryz.prog 293 [Value.nilFunc] 1 false 8:=⟨by kernel_rfl⟩
instance:T4 Tryz.prog 303 [Value.slice none 0 0] 1 false 24:=⟨by kernel_rfl⟩
instance te_303:TE Tryz.prog 303 (66,1):=⟨by kernel_rfl⟩
instance:T4 Tryz.prog 318 [Value.int IntKind.u64 0] 1 false 8:=⟨by kernel_rfl⟩
instance tu_318:TU Tryz.prog 318 (.int .u64):=⟨by kernel_rfl⟩
instance:T4 Tryz.prog 323 [Value.pointer none] 1 false 8:=⟨by kernel_rfl⟩
instance:T3 Tryz.prog 337 24 true 24:=⟨by kernel_rfl⟩
instance:T3 Tryz.prog 351 20 true 160:=⟨by kernel_rfl⟩
instance:T3 Tryz.prog 352 65 true 65:=⟨by kernel_rfl⟩
instance:T3 Tryz.prog 356 32 true 32:=⟨by kernel_rfl⟩
instance:T3 Tryz.prog 357 64 true 64:=⟨by kernel_rfl⟩
abbrev FS:=FSpec Tryz.prog
theorem sE_(l:List Nat):FS 169 [.agg [.arr (dE l)]] (bln (l.length==0)):=by
 refine f_n Tryz.func169 ?_ ?_;exact ab_ (au_ (ab_ (bA_ l) ah_)) ah_;refine r_z 2 ?_;refine r_z 5 ?_;refine af_ (aJ_ rfl ?_ (ad_ _));simp only[bln,he_];congr 2;rw[Bool.eq_iff_iff];simp
theorem d3_(l:List Nat)(hl:l.length≤281474976710656):FS 182 [.arr (dE l)] (.agg [.arr (dE (trimD l))]):=by
 refine f_n Tryz.func182 ?_ ?_;exact ab_ (bA_ l) ah_;refine r_z 1 ?_;refine r_z 3 ?_;refine aQ_ (fun k:Nat=>⟨[(0,.arr (dE l)),(2,.lptr 1 0 0),(3,i64 k)],[(1,some ⟨31,1,[[.emp]]⟩)],2,23⟩) (fun k=>k≤l.length∧trimD l=l.take k) ?_ ?_;refine ac_ (ap_ (fun k:Nat=>⟨[(0,.arr (dE l)),(2,.lptr 1 0 0),(3,i64 k)],[(1,some ⟨31,1,[[.emp]]⟩)],2,23⟩) (fun k=>k) (fun k=>k≤l.length∧∀i,k≤i→i< l.length→l[i]?=some 0) l.length ⟨Nat.le_refl _,fun i h1 h2=>by omega⟩ ?_ ?_);exact s_e [];rintro k ⟨hk,hz⟩;have fin:k=0∨l[k- 1]?≠some 0→trimD l=l.take k:=f1_ l k hk hz;by_cases h0:k=0;subst h0;refine aa_ (s_r 10 ?_);refine a_3 ?_;refine n_g rfl d_f ?_;refine n_g rfl d_f ?_;refine n_g rfl d_f ?_;refine n_g rfl d_f ?_;refine n_g rfl d_f ?_;refine n_g rfl d_f ?_;refine o_0 (.pickF rfl d_f rfl) ?_;refine ai_ ?_;refine aj_ rfl (fun h=>?_) (fun _=>?_);cases h;refine am_ ⟨0,⟨hk,fin (.inl rfl)⟩,?_⟩;exact s_e [];have hk1:k- 1< l.length:=by omega
 obtain⟨d,hd⟩:∃d,l[k- 1]?=some d:=⟨_,List.getElem?_eq_getElem hk1⟩;have hd':(dE l)[((k:Int)- 1).toNat]?=some [u32 d]:=by rw[show((k:Int)- 1).toNat=k- 1 by omega];exact cs_ hd
 refine aa_ (s_r 10 ?_);refine a_3 ?_;refine y_g rfl d_t (.move rfl) ?_;refine y_g rfl d_t (.move rfl) ?_;refine y_g rfl d_t (.bin rfl rfl (hl_ (by omega))) ?_
 first|refine y_g rfl d_t (.index_l rfl rfl (by omega) (by omega) te_29.h) ?_|refine y_g rfl d_t (.index_a rfl rfl (by omega) hd' rfl te_29.h) ?_
 first|refine y_g rfl d_t (.load_l1 rfl rfl hd' TG.h rfl) ?_|refine y_g rfl d_t (.load_a1 rfl hd' TG.h rfl) ?_
 refine y_g rfl d_t (.bin rfl rfl aU_) ?_;refine o_0 (.pickT rfl d_t rfl) ?_;refine ai_ ?_;refine aj_ rfl (fun h=>?_) (fun h=>?_);refine ae_ ?_;have hd0:d=0:=by simpa using h
 subst hd0;refine ac_ (r_m 3 ?_);refine a_z ?_;refine⟨k- 1,by omega,⟨by omega,fun i h1 h2=>?_⟩,?_⟩;by_cases hi:i=k- 1;rw[hi];exact hd;exact hz i (by omega) h2;exact s_e [];refine am_ ⟨k,⟨hk,fin (.inr ?_)⟩,?_⟩;rw[hd];simp at h⊢;omega;exact s_e [];rintro k ⟨hk,ht⟩;refine s_r 6 ?_;refine a_3 ?_;refine o_0 (.sa_hm rfl rfl rfl rfl rfl ⟨Nat.le_refl _,by simpa using hk⟩ te_29.h (oq_ l)) ?_;refine a_z ?_;refine af_ (b4_ rfl rfl rfl TG.h TS.h (nle rfl) ?_ (au_ (ab_ (bA_ _) ah_)));rw[ht,←tw_];rfl
theorem kv_(z:Int):FS 247 [i64 z] (bln false):=by
 refine f_c Tryz.func247 ?_;refine r_z 1 ?_;refine r_z 4 ?_;refine af_ (aJ_ rfl ?_ (ad_ _));simp[bln]
theorem ku_(z:Nat):FS 248 [u32 z] (bln false):=by
 refine f_c Tryz.func248 ?_;refine r_z 1 ?_;refine r_z 4 ?_;refine af_ (aJ_ rfl ?_ (ad_ _));simp[bln]
theorem mW_(a b:Int):FS 190 [i64 a,i64 b] (i64 (cmpZ a b)):=by
 refine f_c Tryz.func190 ?_;refine r_z 1 ?_;refine r_c 3 (kv_ a) ?_;refine a_z ?_;refine r_c 3 (kv_ b) ?_;refine a_z ?_;refine aa_ (r_z 1 ?_);refine aj_ rfl (fun h=>?_) (fun _=>ae_ ?_);cases h;refine aa_ (r_z 1 ?_);refine aj_ rfl (fun h=>?_) (fun _=>ae_ ?_);cases h;refine aa_ (r_z 3 ?_);refine aj_ rfl (fun h=>?_) (fun h=>ae_ ?_);refine r_z 1 ?_;refine af_ (aJ_ rfl ?_ (ad_ _));simp at h;simp[i64,ofV,cmpZ,h];refine aa_ (r_z 3 ?_);refine aj_ rfl (fun h'=>?_) (fun h'=>ae_ ?_);refine r_z 1 ?_;refine af_ (aJ_ rfl ?_ (ad_ _));simp at h h';simp[i64,ofV,cmpZ];omega;refine r_z 1 ?_;refine af_ (aJ_ rfl ?_ (ad_ _));simp at h h';simp[i64,ofV,cmpZ];omega
theorem mV_(a b:Nat):FS 191 [u32 a,u32 b] (i64 (cmpZ a b)):=by
 refine f_c Tryz.func191 ?_;refine r_z 1 ?_;refine r_c 3 (ku_ a) ?_;refine a_z ?_;refine r_c 3 (ku_ b) ?_;refine a_z ?_;refine aa_ (r_z 1 ?_);refine aj_ rfl (fun h=>?_) (fun _=>ae_ ?_);cases h;refine aa_ (r_z 1 ?_);refine aj_ rfl (fun h=>?_) (fun _=>ae_ ?_);cases h;refine aa_ (r_z 3 ?_);refine aj_ rfl (fun h=>?_) (fun h=>ae_ ?_);refine r_z 1 ?_;refine af_ (aJ_ rfl ?_ (ad_ _));simp at h;simp[i64,ofV,cmpZ,h];refine aa_ (r_z 3 ?_);refine aj_ rfl (fun h'=>?_) (fun h'=>ae_ ?_);refine r_z 1 ?_;refine af_ (aJ_ rfl ?_ (ad_ _));simp at h h';simp[i64,ofV,cmpZ];omega;refine r_z 1 ?_;refine af_ (aJ_ rfl ?_ (ad_ _));simp at h h';simp[i64,ofV,cmpZ];omega
theorem digs_one{n:Nat}:(digs MB n).length=1∧(digs MB n)[0]?=some 1↔n=1:=by
 constructor;rintro⟨h1,h2⟩;have:=aZ_ (b:=MB) (by decide) n
 match hd:digs MB n,h1,h2 with
 |[d],_,h2=>rw[hd] at this;simp at h2;subst h2;simpa[ofD] using this.symm
 rintro rfl;rw[cJ_ (by decide) (by decide)];rw[show 1/ MB=0 by decide,bq_];simp
theorem fs_one(n:Nat):FS 177 [.agg [mag n]] (bln (n==1)):=by
 refine f_c Tryz.func177 ?_;refine r_z 2 ?_;by_cases h1:(digs MB n).length=1;obtain⟨d,hd⟩:∃d,(digs MB n)[0]?=some d:=⟨_,List.getElem?_eq_getElem (by omega)⟩;have hd':(dE (digs MB n))[(0:Int).toNat]?=some [u32 d]:=cs_ hd;refine s_r 12 ?_;refine a_5 ?_
 first|refine y_g rfl (by simp;omega) (.fieldAddr_l rfl TF.h (by decide)) ?_|refine y_g rfl (by simp;omega) (.fieldAddr_a rfl TF.h (by decide)) ?_
 first|refine y_g rfl (by simp;omega) (.load_l1 rfl rfl rfl TG.h rfl) ?_|refine y_g rfl (by simp;omega) (.load_a1 rfl rfl TG.h rfl) ?_
 first|refine y_g rfl (by simp;omega) (.index_l rfl rfl (by omega) (by omega) te_29.h) ?_|refine y_g rfl (by simp;omega) (.index_a rfl rfl (by omega) hd' rfl te_29.h) ?_
 first|refine y_g rfl (by simp;omega) (.load_l1 rfl rfl hd' TG.h rfl) ?_|refine y_g rfl (by simp;omega) (.load_a1 rfl hd' TG.h rfl) ?_
 refine y_g rfl (by simp;omega) (.bin rfl rfl aU_) ?_;refine o_0 (.pickT rfl (by simp;omega) rfl) ?_;refine a_z ?_;refine af_ (aJ_ rfl ?_ (ad_ _));simp only[bln];congr 2;rw[Bool.eq_iff_iff];have:=digs_one (n:=n);simp only[h1,hd,true_and,Option.some.injEq] at this;simp only[beq_iff_eq,←this];omega;refine s_r 12 ?_;refine a_5 ?_;refine n_g rfl (by simp;omega) ?_;refine n_g rfl (by simp;omega) ?_;refine n_g rfl (by simp;omega) ?_;refine n_g rfl (by simp;omega) ?_;refine n_g rfl (by simp;omega) ?_;refine o_0 (.pickF rfl (by simp;omega) rfl) ?_;refine a_z ?_;refine af_ (aJ_ rfl ?_ (ad_ _));simp only[bln,ofV];congr 2;symm;rw[beq_eq_false_iff_ne];intro h;exact h1 (digs_one.2 h).1
def oG_(n:Nat):Nat→AState
 |0=>⟨[(0,u64 n),(2,.lptr 1 0 0),(3,.emp)],[(1,some ⟨31,1,[[.emp]]⟩)],2,16⟩
 |k+1=>⟨[(0,u64 (restD n (k+1))),(2,.lptr 1 0 0),(3,.lsl 2 0 (k+1) none 1)],[(1,some ⟨31,1,[[.emp]]⟩),(2,some ⟨236,1,dE (preD n (k+1))⟩)],3,16⟩
theorem ez_(n:Nat)(h:n< 18446744073709551616):FS 180 [u64 n] (.agg [mag n]):=by
 have hlen:(digs MB n).length≤3:=cC_ (by decide) (Nat.lt_of_lt_of_le h (by decide));refine f_c Tryz.func180 ?_;refine r_z 1 ?_;refine r_z 1 ?_;refine aQ_ (oG_ n) (fun k=>k=(digs MB n).length) ?_ ?_;refine ac_ (ap_ (oG_ n) (fun k=>(digs MB n).length- k) (fun k=>k≤(digs MB n).length) 0 (Nat.zero_le _) ?_ ?_);rw[oG_.eq_1];exact s_e [];rintro k hk;have hle:=restD_le hk;have hz:=restD_eq hk;have hpl:=gv_ hk;cases k with
 |zero=>
  rw[kc_] at hz;refine aa_ (r_z 2 ?_);refine aj_ rfl (fun h=>?_) (fun h=>?_);refine ae_ ?_;have h0:0< n:=by simpa using h
  have hl1:0< (digs MB n).length:=by omega
  obtain⟨hq,ht⟩:=kd_ hl1;rw[kc_] at hq ht;refine aa_ (ac_ (r_m 7 ?_));refine a_z ?_;refine r_m 3 ?_;refine a_z ?_;refine⟨1,by omega,hl1,?_⟩;rw[oG_.eq_2];refine s_x [(2,3)] (fun hs=>?_) (fun hs=>?_) ?_
  ·repeat' (first|exact a2_|refine aH_ rfl ?_ ?_|exact au_c|(refine Cv.loE hs ?_ (ad_ _);first|rfl|(simp[i64,u64,u32,bln,hq,ht,ec_];done)|(simp[i64,u64,u32,bln,hq,ht,ec_]<;> omega)))
  ·repeat' (first|exact az_|refine h_c ?_ ?_|exact au_e|(refine aC_ hs ?_ (a8_ _);first|(simp[eE_,fR_,dL_,hq,ht,ec_];done)|(simp[dE,u32,ofV,hq,ht,ec_];done))|refine al_ ?_|exact ao_|refine ag_ ?_ ?_|exact au_c|(refine Cv.loE hs ?_ (ad_ _);first|(simp[i64,u64,u32,bln,hq,ht,ec_];done)|(simp[i64,u64,u32,bln,hq,ht,ec_]<;> omega)))
  ·repeat' (first|exact ShrL.nil|refine ShrL.cons rfl rfl rfl rfl (by first|rfl|(simp;done)|(simp[hq,ht,ec_]<;> omega)) ?_)
  refine am_ ⟨0,?_,?_⟩;have:¬0< n:=by simpa using h
  omega;rw[oG_.eq_1];exact s_e []
 |succ k=>
  rw[oG_.eq_2];refine aa_ (r_z 2 ?_);refine aj_ rfl (fun h=>?_) (fun h=>?_);refine ae_ ?_;have h0:0< restD n (k+1):=by simpa using h
  have hl1:k+1< (digs MB n).length:=by omega
  obtain⟨hq,ht⟩:=kd_ hl1;refine aa_ (ac_ (r_m 7 ?_));refine a_z ?_;refine r_m 3 ?_;refine a_z ?_;refine⟨k+1+1,by omega,hl1,?_⟩;rw[oG_.eq_2];refine s_x [(2,3)] (fun hs=>?_) (fun hs=>?_) ?_
  ·repeat' (first|exact a2_|refine aH_ rfl ?_ ?_|exact au_c|(refine Cv.loE hs ?_ (ad_ _);first|rfl|(simp[i64,u64,u32,bln,hq,ht,hpl];done)|(simp[i64,u64,u32,bln,hq,ht,hpl]<;> omega)))
  ·repeat' (first|exact az_|refine h_c ?_ ?_|exact au_e|(refine aC_ hs ?_ (a8_ _);first|(simp[eE_,fR_,dL_,hq,ht,hpl];done)|(simp[dE,u32,ofV,hq,ht,hpl];done))|refine al_ ?_|exact ao_|refine ag_ ?_ ?_|exact au_c|(refine Cv.loE hs ?_ (ad_ _);first|(simp[i64,u64,u32,bln,hq,ht,hpl];done)|(simp[i64,u64,u32,bln,hq,ht,hpl]<;> omega)))
  ·repeat' (first|exact ShrL.nil|refine ShrL.cons rfl rfl rfl rfl (by first|rfl|(simp;done)|(simp[hq,ht,hpl]<;> omega)) ?_)
  refine am_ ⟨k+1,?_,?_⟩;have:¬0< restD n (k+1):=by simpa using h
  omega;rw[oG_.eq_2];exact s_e []
 rintro k rfl;cases hk:(digs MB n).length with
 |zero=>
  rw[oG_.eq_1];refine r_z 3 ?_;refine af_ (Fin.cell rfl rfl rfl TG.h TS.h (nle rfl) (Cv.agg (ag_ (Cv.emp _ ?_) ao_)));unfold mag;rw[List.length_eq_zero_iff] at hk;rw[hk];rfl
 |succ k=>
  rw[oG_.eq_2];refine r_z 3 ?_;refine af_ (Fin.cell rfl rfl rfl TG.h TS.h (nle rfl) (Cv.agg (ag_ (Cv.shut ar_ rfl (fun _ _ h=>by cases h) ?_ ?_) ao_)));simp[gv_ (Nat.le_of_eq hk.symm)];refine aC_ ar_ ?_ (a8_ _);have h1:(preD n (k+1)).length=k+1:=gv_ (Nat.le_of_eq hk.symm);have h2:=preD_end n;rw[hk] at h2;simp only[List.drop_zero,tw_];rw[List.take_of_length_le (Nat.le_of_eq h1),h2]
def plusS(p:Nat)(q:Nat):List Nat×Nat→AState
 |(s,c)=>⟨[(26,i64 s.length),(25,i64 (digs MB p).length),(24,mag p),(2,.lptr 1 0 0),(3,.lptr 2 0 0),(4,.lptr 3 0 0),(5,.lsl 4 0 ((digs MB p).length+1) (some ((digs MB p).length+1)) 1),(6,u32 c)],
  [(1,some ⟨31,1,[[mag p]]⟩),(2,some ⟨31,1,[[mag q]]⟩),(3,some ⟨31,1,[[.emp]]⟩),(4,some ⟨236,1,dE (s++List.replicate ((digs MB p).length+1- s.length) 0)⟩)],5,63⟩
structure PlusI (p q:Nat)(a:List Nat×Nat):Prop where
 le:a.1.length≤(digs MB p).length
 dig:∀d∈a.1,d< MB
 car:a.2≤1
 val:ofD MB a.1+MB^ a.1.length* a.2=ofD MB ((digs MB p).take a.1.length)+ofD MB ((digs MB q).take a.1.length)
theorem n2_(a b:Nat)(h:bl a+bl b≤17592186044416):FS 181 [.agg [mag a],.agg [mag b]] (.agg [mag (a+b)]):=by
 have hla:=aX_ (b:=MB) (by decide) a;have hlb:=aX_ (b:=MB) (by decide) b;refine f_c Tryz.func181 ?_;refine r_z 3 ?_;refine aa_ (r_z 7 ?_)
 refine aw_ (fun x:Nat×Nat=>⟨[(2,.lptr 1 0 0),(3,.lptr 2 0 0),(4,.lptr 3 0 0)],[(1,some ⟨31,1,[[mag x.1]]⟩),(2,some ⟨31,1,[[mag x.2]]⟩),(3,some ⟨31,1,[[.emp]]⟩)],4,63⟩)
  (fun x=>x.1+x.2=a+b∧(digs MB x.2).length≤(digs MB x.1).length∧(digs MB x.1).length≤17592186044416) ?_ ?_
 refine aj_ rfl (fun h=>?_) (fun h=>?_);refine r_m 4 ?_;refine a_z ?_;refine⟨(b,a),⟨by simp;omega,?_,by simp;omega⟩,?_⟩;simp at h;simp;omega;exact s_e [];refine ae_ ⟨(a,b),⟨rfl,?_,by simp;omega⟩,?_⟩;simp at h;simpa using h;exact s_e [];rintro⟨p,q⟩ ⟨hpq,hqp,hp⟩;simp only at hpq hqp hp⊢;refine r_z 6 ?_;refine r_z 1 ?_;refine aa_ (r_z 4 ?_);refine aw_ (plusS p q) (fun x=>PlusI p q x∧x.1.length=(digs MB p).length) ?_ ?_;refine ac_ (ap_ (plusS p q) (fun x=>(digs MB p).length- x.1.length) (PlusI p q) ([],0) ⟨by simp,by simp,by simp,by simp[ofD]⟩ ?_ ?_);rw[plusS.eq_1];exact s_e [(4,5)];rintro⟨s,c⟩ ⟨hle,hdig,hcar,hval⟩;simp only at hle hdig hcar hval;rw[plusS.eq_1];refine r_z 1 ?_;refine aa_ (aj_ rfl (fun h=>?_) (fun h=>?_));refine ae_ ?_;have hlt:s.length< (digs MB p).length:=by simpa using h
 obtain⟨x,hx⟩:∃x,(digs MB p)[s.length]?=some x:=⟨_,List.getElem?_eq_getElem hlt⟩;have hx1:x< 1000000000:=bu_ (by decide) hx;have hx':(dE (digs MB p))[((s.length:Nat):Int).toNat]?=some [u32 x]:=cs_ hx;refine aa_ (ac_ (s_r 5 ?_));refine a_1 ?_;refine i_x hx' ?_;refine l_1 hx' ?_;refine a_z ?_;refine r_z 4 ?_;refine aa_ (r_z 5 ?_)
 have hq0:∀y,((digs MB q)[s.length]?.getD 0=y)→y< 1000000000:=by
  rintro y rfl;cases hy:(digs MB q)[s.length]? with
  |none=>decide
  |some y=>exact bu_ (by decide) hy
 refine aw_ (fun v:Nat=>⟨[(26,i64 s.length),(25,i64 (digs MB p).length),(24,mag p),(2,.lptr 1 0 0),(3,.lptr 2 0 0),(4,.lptr 3 0 0),(5,.lsl 4 0 ((digs MB p).length+1) (some ((digs MB p).length+1)) 1),(7,i64 s.length),(8,u32 v)],
  [(1,some ⟨31,1,[[mag p]]⟩),(2,some ⟨31,1,[[mag q]]⟩),(3,some ⟨31,1,[[.emp]]⟩),(4,some ⟨236,1,dE (s++List.replicate ((digs MB p).length+1- s.length) 0)⟩)],5,63⟩)
  (fun v=>v=x+c+(digs MB q)[s.length]?.getD 0) ?_ ?_
 refine aj_ rfl (fun h=>?_) (fun h=>?_);have hlt2:s.length< (digs MB q).length:=by simpa using h
 obtain⟨y,hy⟩:∃y,(digs MB q)[s.length]?=some y:=⟨_,List.getElem?_eq_getElem hlt2⟩;have hy1:y< 1000000000:=bu_ (by decide) hy;have hy':(dE (digs MB q))[((s.length:Nat):Int).toNat]?=some [u32 y]:=cs_ hy;refine r_m 8 ?_;refine a_4 ?_;refine i_x hy' ?_;refine l_1 hy' ?_;refine a_z ?_;refine⟨x+c+y,by rw[hy];rfl,?_⟩;exact s_e [];have hlt2:¬s.length< (digs MB q).length:=by simpa using h
 refine ae_ ⟨x+c,by rw[List.getElem?_eq_none (by omega)];rfl,?_⟩;exact s_e [];rintro v hv;obtain⟨y,hy⟩:∃y,y=(digs MB q)[s.length]?.getD 0:=⟨_,rfl⟩;have hy1:=hq0 y hy.symm;rw[←hy] at hv;refine r_z 1 ?_;refine aa_ (r_z 2 ?_)
 have hg:(dE (s++List.replicate ((digs MB p).length+1- s.length) 0))[0+((s.length:Nat):Int).toNat]?=some [u32 0]:=by
  rw[Nat.zero_add,Int.toNat_natCast];exact cs_ (by rw[show(digs MB p).length+1- s.length=((digs MB p).length- s.length)+1 by omega];exact pf_ _ _ _ rfl)
 have hset:∀w:Nat,(dE (s++List.replicate ((digs MB p).length+1- s.length) 0)).set (0+((s.length:Nat):Int).toNat) [u32 w]=dE ((s++[w])++List.replicate ((digs MB p).length+1- (s++[w]).length) 0):=by
  intro w;rw[Nat.zero_add,Int.toNat_natCast,eE_,show(digs MB p).length+1- s.length=((digs MB p).length- s.length)+1 by omega,oK_ _ _ _ _ rfl,show(digs MB p).length+1- (s++[w]).length=(digs MB p).length- s.length by simp]
 have hnext:∀w c',w+1000000000* c'=x+c+y→w< 1000000000→c'≤1→PlusI p q (s++[w],c'):=by
  intro w c' hw hwb hc';refine⟨by simp;omega,?_,hc',?_⟩;intro d hd;rcases List.mem_append.1 hd with hd|hd
  exact hdig d hd;simp at hd;subst hd;exact hwb;simp only[List.length_append,List.length_singleton];rw[dV_,bz_ _ hx,cA_,←hy,Nat.pow_succ];have e:MB^ s.length* w+MB^ s.length* MB* c'=MB^ s.length* (w+MB* c'):=by rw[Nat.mul_add,Nat.mul_assoc]
  have e2:MB^ s.length* (x+c+y)=MB^ s.length* x+MB^ s.length* c+MB^ s.length* y:=by rw[Nat.mul_add,Nat.mul_add]
  rw[hw,e2] at e;omega
 refine aj_ rfl (fun h=>?_) (fun h=>?_);have hb:1000000000≤v:=by have:=of_decide_eq_true h;omega
 have hv1:((v:Int)- 1000000000)=((v- 1000000000:Nat):Int):=by omega
 refine r_m 4 ?_;refine a_z ?_;refine r_m 5 ?_;refine a_4 ?_;refine o_1n (.store rfl rfl hg rfl rfl rfl TS.h (nle rfl)) ?_;refine ai_ ?_;refine r_m 2 ?_;refine a_z ?_;refine⟨(s++[v- 1000000000],1),by simp;omega,hnext _ _ (by omega) (by omega) (Nat.le_refl _),?_⟩;rw[plusS.eq_1];exact s_x [] (fun hs=>au_f) (fun hs=>e_22);have hb:v< 1000000000:=by have:=of_decide_eq_false h;omega
 refine ae_ (r_m 5 ?_);refine a_4 ?_;refine o_1n (.store rfl rfl hg rfl rfl rfl TS.h (nle rfl)) ?_;refine ai_ ?_;refine r_m 2 ?_;refine a_z ?_;refine⟨(s++[v],0),by simp;omega,hnext _ _ (by omega) hb (by omega),?_⟩;rw[plusS.eq_1];exact s_x [] (fun hs=>au_f) (fun hs=>e_23);refine am_ ⟨(s,c),⟨⟨hle,hdig,hcar,hval⟩,?_⟩,?_⟩;simp at h;simp;omega;rw[plusS.eq_1];exact s_e [];rintro⟨s,c⟩ ⟨⟨hle,hdig,hcar,hval⟩,hlen⟩;simp only at hle hdig hcar hval hlen
 have hg:(dE (s++List.replicate ((digs MB p).length+1- s.length) 0))[0+(((digs MB p).length:Nat):Int).toNat]?=some [u32 0]:=by
  rw[Nat.zero_add,Int.toNat_natCast,←hlen];exact cs_ (by rw[show s.length+1- s.length=0+1 by omega];exact pf_ _ _ _ rfl)
 have hset:(dE (s++List.replicate ((digs MB p).length+1- s.length) 0)).set (0+(((digs MB p).length:Nat):Int).toNat) [u32 c]=dE (s++[c]):=by
  rw[Nat.zero_add,Int.toNat_natCast,←hlen,eE_,show s.length+1- s.length=0+1 by omega,oK_ _ _ _ _ rfl];simp
 have hres:trimD (s++[c])=digs MB (a+b):=by
  rw[e3_ (b:=MB) (by decide),dV_,hval,dH_ _ (by omega),dH_ _ (by omega),aZ_ (by decide),aZ_ (by decide),hpq];intro d hd;rcases List.mem_append.1 hd with hd|hd
  exact hdig d hd;simp at hd;subst hd;show d< 1000000000;omega
 rw[plusS.eq_1];refine s_r 7 ?_;refine a_6 ?_;refine o_1n (.store rfl rfl hg rfl rfl rfl TS.h (nle rfl)) ?_;refine ai_ ?_;refine AWp.ent (st':=⟨[(4,.lptr 3 0 0),(5,.arr (dE (s++[c])))],[(3,some ⟨31,1,[[.emp]]⟩)],4,63⟩) ?_ ?_;refine s_x [] (fun hs=>?_) (fun hs=>?_)
 ·repeat' (first|exact a2_|refine aH_ rfl ?_ ?_|exact Cv.sealE hs rfl (aW_ rfl) hset (by simp[hlen]) (a8_ _)|exact au_c)
 ·repeat' (first|exact az_|refine h_c ?_ ?_|exact au_e|refine al_ ?_|exact ao_|refine ag_ ?_ ?_|exact Cv.sealE hs rfl (aW_ rfl) hset (by simp[hlen]) (a8_ _)|exact au_c)
 refine s_r 3 ?_;refine o_0 (.move rfl) ?_;refine o_0 (.call rfl rfl rfl (d3_ _ (by simp;omega))) ?_;refine a_z ?_;refine af_ (b4_ rfl rfl rfl TG.h TS.h (nle rfl) ?_ (au_ (ab_ (bh_ _) ah_)));rw[hres];rfl
end Go.Proofs.YtdjfjpeoddmamaaGreatDoor
