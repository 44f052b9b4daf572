/- Part W23 of the proof. -/
import Derived.Test.YtjmkjicckobojaaGreatDoorW22
set_option linter.all false
namespace Go.Proofs.YtjmkjicckobojaaGreatDoor
open Go.Abs
set_option maxRecDepth 20000
theorem gF{z:Int}{k:Nat}(h:bl z.natAbs<=k)(hk:k<=8796093022208):zl z:=Nat.le_trans h hk
theorem ek(n:Int)(h: -9223372036854775808<=n/\n<=9223372036854775807):FS 59 [i64 n] (.agg (rC (rq (n:Rat)))):=by
 rw[BC];refine f_c Tryz.func59 ?_;refine r_z 1 ?_;refine r_c 5 (jE n h) ?_;refine c_s (jE 1 δ) ?_;refine a_z ?_;exact ai (c_e (aE λc hc=>(List.mem_append.1 hc).elim (dy _ c) (dy _ c)))
theorem fs_rOf(n d:Int)(hd:d≠0)(h: -9223372036854775808<=n/\n<=9223372036854775807)(h2: -9223372036854775808<=d/\d<=9223372036854775807):FS 48 [i64 n,i64 d] (.agg (rC (rq (Rat.divInt n d)))):=by
 have hb:∀z:Int,-9223372036854775808<=z->z<=9223372036854775807->bl z.natAbs<=4398046511104:=λz a h2=>Nat.le_trans (gY (k:=64) ω) δ;refine f_c Tryz.func48 ?_;refine r_z 1 ?_;refine r_c 6 (jE n h) ?_;refine c_s (jE d h2) ?_;refine c_s (rZ n d hd (hb n h.1 h.2) (hb d h2.1 h2.2)) ?_;refine a_z ?_;exact ai (c_e (c9 _))
theorem yN(n:Int):FS 270 [.agg (zZ n)] (.agg (rC (rq (n:Rat)))):=by
 rw[BC];refine f_c Tryz.func270 ?_;refine r_z 2 ?_;refine ac (r_d aX 4 ?_);refine c_s (jE 1 δ) ?_;refine a_2 ?_;refine aq (n_k ?_);exact ai (c_e (aE λc hc=>(List.mem_append.1 hc).elim (dy _ c) (dy _ c)))
theorem fs_rNum(x:RQ):FS 271 [.agg (rC x)] (.agg (zZ x.1.num)):=by
 refine f_c Tryz.func271 ?_;refine r_z 2 ?_;refine r_z 3 ?_;exact ai (c_e (cV _))
theorem fs_rDen(x:RQ)(hx:rok x):FS 269 [.agg (rC x)] (.agg (zZ (x.1.den:Int))):=by
 refine f_c Tryz.func269 ?_;refine r_z 2 ?_;refine r_c 3 (fi x hx) ?_;refine a_z ?_;exact ai (c_e (cV _))
theorem rN(x:RQ)(hx:rok x):FS 151 [.agg (rC x)] (.agg (rC (rq (-x.1)))):=by
 rw[BC,Rat.neg_num,Rat.neg_den];refine f_c Tryz.func151 ?_;refine r_z 2 ?_;refine ac (r_d aX 7 ?_);refine c_s (vc x.1.num) ?_;refine c_s (fi x hx) ?_;refine a_2 ?_;refine aq (n_k ?_);exact ai (c_e (aE λc hc=>(List.mem_append.1 hc).elim (dy _ c) (dy _ c)))
theorem Gz(x:RQ)(hx:rok x):FS 162 [.agg (rC x)] (.agg (rC (rq (eH x.1)))):=by
 rw[BC,xN,xO];refine f_c Tryz.func162 ?_;refine r_z 2 ?_;refine ac (r_d aX 7 ?_);refine c_s (fs_ZAbs x.1.num) ?_;refine c_s (fi x hx) ?_;refine a_2 ?_;refine aq (n_k ?_);exact ai (c_e (aE λc hc=>(List.mem_append.1 hc).elim (dy _ c) (dy _ c)))
theorem rM(x:RQ):FS 149 [.agg (rC x)] (i64 (sgZ x.1.num)):=by
 refine f_c Tryz.func149 ?_;refine r_z 2 ?_;refine r_z 4 ?_;exact ai (t_e (ak _))
theorem iS(x y:RQ)(hx:rok x)(hy:rok y)(h:qs x.1+qs y.1<=1099511627776):FS 60 [.agg (rC x),.agg (rC y)] (.agg (rC (rq (x.1+y.1)))):=by
 obtain⟨a,f⟩:=x;obtain⟨b,j⟩:=y;simp only at h⊢;have hp:=uf a b;have g:=dA a;have c:=dr a;have i:=dA b;have d:=dr b;have e1:=dc (x:=a.num) (y:=b.den) g (by simpa using d);have e2:=dc (x:=b.num) (y:=a.den) i (by simpa using c);have n:=hp.1;have l:=hp.2;have k:(a.den:Int) * b.den≠0:=by have:=mj a b;rw[<-Int.natCast_mul];omega
 have e:a+b=Rat.divInt (a.num* b.den+b.num* a.den) (a.den* b.den):=by
  rw[ug,<-Int.natCast_mul,<-Rat.divInt_ofNat]
 rw[e];have m:bl ((a.den:Int) * b.den).natAbs<=qs a+qs b:=by rw[<-Int.natCast_mul,Int.natAbs_natCast];exact l
 refine f_c Tryz.func60 ?_;refine r_z 3 ?_;refine ac (r_d aX 18 ?_);refine c_s (fi (b,j) hy) ?_;refine c_s (iU a.num b.den (gF g ω) (gF (by simpa using d) ω)) ?_;refine c_s (fi (a,f) hx) ?_;refine c_s (iU b.num a.den (gF i ω) (gF (by simpa using c) ω)) ?_;refine c_s (GE (a.num* b.den) (b.num* a.den) (gF e1 ω) (gF e2 ω)) ?_;refine c_s (fi (a,f) hx) ?_;refine c_s (fi (b,j) hy) ?_;refine c_s (iU a.den b.den (gF (by simpa using c) ω) (gF (by simpa using d) ω)) ?_;refine c_s (rZ (a.num* b.den+b.num* a.den) (a.den* b.den) k ω ω) ?_;refine a_1 ?_;refine aq (n_k ?_);exact ai (c_e (c9 _))
theorem Gy(x y:RQ)(hx:rok x)(hy:rok y)(h:qs x.1+qs y.1<=1099511627776):FS 156 [.agg (rC x),.agg (rC y)] (.agg (rC (rq (x.1- y.1)))):=by
 rw[Rat.sub_eq_add_neg];refine f_c Tryz.func156 ?_;refine r_z 3 ?_;refine ac (r_d aX 5 ?_);refine c_s (rN y hy) ?_;refine c_s (iS x (rq (-y.1)) hx (bK _) (by simp only[rq,dJ];exact h)) ?_;refine a_1 ?_;refine aq (n_k ?_);exact ai (c_e (c9 _))
theorem lA(x y:RQ)(hx:rok x)(hy:rok y)(h:qs x.1+qs y.1<=1099511627776):FS 49 [.agg (rC x),.agg (rC y)] (.agg (rC (rq (x.1* y.1)))):=by
 obtain⟨a,d⟩:=x;obtain⟨b,l⟩:=y;simp only at h⊢;have hp:=th a b;have j:=dA a;have f:=dr a;have k:=dA b;have g:=dr b;have n:=hp.1;have i:=hp.2;have c:(a.den:Int) * b.den≠0:=by have:=mj a b;rw[<-Int.natCast_mul];omega
 have e:a* b=Rat.divInt (a.num* b.num) (a.den* b.den):=by
  rw[oT,<-Int.natCast_mul,<-Rat.divInt_ofNat]
 rw[e];have m:bl ((a.den:Int) * b.den).natAbs<=qs a+qs b:=by rw[<-Int.natCast_mul,Int.natAbs_natCast];exact i
 refine f_c Tryz.func49 ?_;refine r_z 3 ?_;refine ac (r_d aX 12 ?_);refine c_s (iU a.num b.num (gF j ω) (gF k ω)) ?_;refine c_s (fi (a,d) hx) ?_;refine c_s (fi (b,l) hy) ?_;refine c_s (iU a.den b.den (gF (by simpa using f) ω) (gF (by simpa using g) ω)) ?_;refine c_s (rZ (a.num* b.num) (a.den* b.den) c ω ω) ?_;refine a_1 ?_;refine aq (n_k ?_);exact ai (c_e (c9 _))
theorem o3(x y:RQ)(hx:rok x)(hy:rok y)(hy0:y.1≠0)(h:qs x.1+qs y.1<=1099511627776):FS 155 [.agg (rC x),.agg (rC y)] (.agg (rC (rq (x.1/ y.1)))):=by
 obtain⟨a,k⟩:=x;obtain⟨b,l⟩:=y;simp only at h hy0⊢;have g:=dA a;have d:=dr a;have i:=dA b;have f:=dr b;have e1:=dc (x:=a.num) (y:=b.den) g (by simpa using f);have e2:=dc (x:=a.den) (y:=b.num) (by simpa using d) i;have c:b.num≠0:=λe=>hy0 (Rat.num_eq_zero.1 e);have j:(a.den:Int) * b.num≠0:=Int.mul_ne_zero (by have:=a.den_pos;omega) c;rw[k5];refine f_c Tryz.func155 ?_;refine r_z 3 ?_;refine ac (r_d aX 12 ?_);refine c_s (fi (b,l) hy) ?_;refine c_s (iU a.num b.den (gF g ω) (gF (by simpa using f) ω)) ?_;refine c_s (fi (a,k) hx) ?_;refine c_s (iU a.den b.num (gF (by simpa using d) ω) (gF i ω)) ?_;refine c_s (rZ (a.num* b.den) (a.den* b.num) j ω ω) ?_;refine a_1 ?_;refine aq (n_k ?_);exact ai (c_e (c9 _))
theorem Ap(x y:RQ)(hx:rok x)(hy:rok y)(h:qs x.1+qs y.1<=1099511627776):FS 64 [.agg (rC x),.agg (rC y)] (i64 (fb x.1 y.1)):=by
 obtain⟨a,i⟩:=x;obtain⟨b,k⟩:=y;simp only at h⊢;have f:=dA a;have c:=dr a;have g:=dA b;have d:=dr b;have e1:=dc (x:=a.num) (y:=b.den) f (by simpa using d);have e2:=dc (x:=b.num) (y:=a.den) g (by simpa using c)
 have e:fb a b=fg (a.num* b.den) (b.num* a.den):=by
  rw[G0];unfold fg;obtain⟨u,j⟩:∃u,u=a.num* (b.den:Int):=⟨_,rfl⟩;obtain⟨v,hv⟩:∃v,v=b.num* (a.den:Int):=⟨_,rfl⟩;rw[<-j,<-hv];split;rfl;split <;> split <;> omega
 rw[e];refine f_c Tryz.func64 ?_;refine r_z 3 ?_;refine ac (r_d aX 12 ?_);refine c_s (fi (b,k) hy) ?_;refine c_s (iU a.num b.den (gF f ω) (gF (by simpa using d) ω)) ?_;refine c_s (fi (a,i) hx) ?_;refine c_s (iU b.num a.den (gF g ω) (gF (by simpa using c) ω)) ?_;refine c_s (fs_ZCmp (a.num* b.den) (b.num* a.den) (gF e1 ω) (gF e2 ω)) ?_;refine a_1 ?_;refine aq (n_k ?_);exact ai (t_e (ak _))
theorem pad9_pd{x:Nat}(h:x< 1000000000):HE x=pd 9 x:=by
 by_cases h0:x=0;subst h0;decide+kernel;rw[JA 9 x ω h];rfl
theorem Fy:∀(n m:Nat),m<=n->0< m->txD (aw MB m).reverse=Lib.decDigits m
 |0,m,h,h0=>by omega
 |n+1,m,h,h0=>by
  have hb:MB=1000000000:=rfl;rw[eY δ h0,List.reverse_cons];by_cases hm:m< MB;rw[Nat.div_eq_of_lt hm,cI,Nat.mod_eq_of_lt hm];simp[txD];have d:0< m/ MB:=Nat.div_pos ω δ
  have c:(aw MB (m/ MB)).reverse≠[]:=λe=>by
   have:=(gi (b:=MB) δ).1 (List.reverse_eq_nil_iff.1 e);omega
  have a:m % MB< 1000000000:=Nat.mod_lt m δ;rw[Bl c,Fy n (m/ MB) (by have:=Nat.div_lt_self h0 (by decide:1< MB);omega) d,pad9_pd a,<-y6 9 (m/ MB) (m % MB) d a];congr 1;show m/ 1000000000* 1000000000+m % 1000000000=m;omega
theorem Gb(m:Nat):mtx m=Lib.decDigits m:=by
 unfold mtx;split
 ·rename_i h;subst h;decide+kernel
 exact Fy m m (Nat.le_refl _) ω
def ztx(z:Int):List UInt8:=(if z< 0 then [45] else [])++Lib.decDigits z.natAbs
theorem Jm(q:Rat):qtx q=ztx q.num++(if q.den=1 then [] else 47::Lib.decDigits q.den):=by
 unfold qtx ztx;rw[Gb,Gb]
theorem xf(n:Nat):(Lib.decDigits n).length<=bl n+1:=by
 rw[Lib.decDigits_length];have h:n< 10^ (bl n+1):=Nat.lt_of_lt_of_le (wD n) (Nat.le_trans (Nat.pow_le_pow_left (by decide:2<=10) _) (Nat.pow_le_pow_right δ ω));exact Ac (bl n) n h
theorem first_text{c:UInt8}{l:List UInt8}:∀w,(Instr.index 9 (.string ⟨(c::l).toArray⟩) (.int .i64 0)).run Tryz.prog w= .ok (.int .u8 c.toNat) w:=λw=>by
 simp[Instr.index,asIntOf,run_underlying jf,go_sem];rfl
theorem Hj(c:UInt8)(l:List UInt8):∀w,(Instr.sliceAt 9 (.string ⟨(c::l).toArray⟩) (some (.int .i64 1)) none none).run Tryz.prog w= .ok (.string ⟨l.toArray⟩) w:=λw=>by
 have b1:∀(i y:Nat) (c:BoundsCode),i<=y->(Instr.sliceBound (.int .i64 (i:Int)) y c).run Tryz.prog w= .ok i w:=λi y c b=>eS b c w
 have e:(⟨(c::l).toArray⟩:ByteArray).extract 1 (⟨(c::l).toArray⟩:ByteArray).size=⟨l.toArray⟩:=by
  apply ByteArray.ext;simp[ByteArray.size]
 have a:(Instr.slice 9 (.string ⟨(c::l).toArray⟩) (some (.int .i64 ((1:Nat):Int))) none none).run Tryz.prog w= .ok (.string ⟨l.toArray⟩) w:=by
  have hs:1<=(⟨(c::l).toArray⟩:ByteArray).size:=by simp[ByteArray.size]
  have b2:=b1 1 (⟨(c::l).toArray⟩:ByteArray).size .sliceB hs;rw[show((1:Nat):Int)=1 from rfl] at b2;simp[Instr.slice,run_underlying jf,Instr.sliceBounds,b2,Result.andThen,e]
 unfold Instr.sliceAt;rw[Sem.run_bind,run_underlying jf];exact a
theorem K0(d:Nat)(zl zh:Int)(hd:d< 10)(el:zl=(d:Int))(eh:zh=(d:Int)+1):∀w,(Instr.sliceAt 9 (.string ⟨#[48,49,50,51,52,53,54,55,56,57]⟩) (some (.int .i64 zl)) (some (.int .i64 zh)) none).run Tryz.prog w= .ok (.string ⟨[UInt8.ofNat (48+d)].toArray⟩) w:=λw=>by
 rw[xh _ d (d+1) zl zh el ω ω (by exact Nat.le_trans (m:=10) ω δ) w];have a:∀d,d< 10->(ByteArray.mk #[48,49,50,51,52,53,54,55,56,57]).extract d (d+1)=⟨[UInt8.ofNat (48+d)].toArray⟩:=δ
 rw[a d hd]
theorem zd_sm{m:Nat}(h0:0< m)(h:m< 32768):zd m=[m]:=by
 have hb:UB=32768:=rfl;unfold zd;rw[eY δ h0,Nat.mod_eq_of_lt ω,Nat.div_eq_of_lt ω,cI];rfl
def ztO(z:Int)(n:Nat):Nat->AState
 |k=>⟨[(1,.aptr [zZ z] 0 0),(3,tx (pd (4* k) n)),(4,.arr (iE (zd (n/ 10^ (4* k)))))],[],2,51⟩
def ztI(z:Int)(r B:Nat)(T:List UInt8):Nat->AState
 |i=>⟨[(1,.aptr [zZ z] 0 0),(3,tx (pd i r++T)),(5,.arr (iE (zd B))),(7,i64 ((r/ 10^ i:Nat):Int)),(8,i64 i)],[],2,51⟩
def ztD(z:Int):List UInt8->AState
 |T=>⟨[(1,.aptr [zZ z] 0 0),(3,tx T)],[],2,51⟩
theorem Cd(z:Int)(h:bl z.natAbs<=68719476736):FS 147 [.agg (zZ z)] (tx (ztx z)):=by
 have hcz:Closed (.aptr [zZ z] 0 0):=bi (dy z);refine f_c Tryz.func147 ?_;refine r_z 2 ?_;refine AWp.ent (st':=⟨[(1,.aptr [zZ z] 0 0)],[],2,51⟩) ?_ ?_;exact s_e [];by_cases h0:z=0;subst h0;refine ac (s_r 3 ?_);refine a_2 ?_;refine o_0 (.bin rfl rfl (vT bJ (δ))) ?_;refine aq ?_;refine ar rfl (λh1=>?_) (λh1=>?_);refine r_z 1 ?_;exact ai (aS rfl (by rw[show ztx 0=[48] by unfold ztx;rw[Int.natAbs_zero,Lib.decDigits_one δ];rfl];rfl) (ak _));cases h1;refine ac (s_r 3 ?_);refine a_2 ?_;refine o_0 (.bin rfl rfl (vF bJ ((by unfold sgZ;rw[if_neg h0];split <;> rfl)))) ?_;refine aq ?_;refine cF (aj (r_z 1 ?_));refine r_z 3 ?_;obtain⟨n,hn⟩:∃n,n=z.natAbs:=⟨_,rfl⟩;have hn0:0< n:=ω
 rw[<-hn] at h;have hzd:=c7 n;have hdl:=b8 (b:=UB) δ n;refine bD (ztD z) (λT=> ∃k,T=pd k n/\n< 10^ k/\k<=4* (bl n+1)) ?_ ?_;refine ah (ay (ztO z n) (λk=>n/ 10^ (4* k)) (λk=>k=0\/0< n/ 10^ (4* (k- 1))) 0 (.inl rfl) ?_ ?_);simp only[ztO.eq_1];have e:n/ 10^ (4* 0)=n:=ψ
 rw[e,hn];exact s_f [];rintro k hk;simp only[ztO.eq_1];obtain⟨A,hA⟩:∃A,A=n/ 10^ (4* k):=⟨_,rfl⟩
 have hk4:4* k<=bl n+4:=by
  rcases hk with hk|hk
  omega
  have h1:10^ (4* (k- 1))<=n:=by
   apply Nat.le_of_not_lt;intro hlt;rw[Nat.div_eq_of_lt hlt] at hk;omega
  have h2:=wD n;have h3:2^ (4* (k- 1))<=10^ (4* (k- 1)):=Nat.pow_le_pow_left δ _;have h4:4* (k- 1)< bl n:=(Nat.pow_lt_pow_iff_right (a:=2) δ).1 (Nat.lt_of_le_of_lt (Nat.le_trans h3 h1) h2);omega
 rw[<-hA];have hAb:bl A<=68719476736:=Nat.le_trans (dO (by rw[hA];exact Nat.div_le_self _ _)) h;by_cases hA0:A=0;have hz:(zd A).length=0:=by rw[hA0,oD];rfl
 refine ac (q_z 3 ?_);refine cF (ax ⟨pd (4* k) n,⟨4* k,rfl,?_,ω⟩,?_⟩);rw[hA0] at hA;exact(Nat.div_eq_zero_iff.1 hA.symm).resolve_left (by have:=Nat.one_le_pow (4* k) 10 δ;omega);simp only[ztD.eq_1];exact s_f [];have hz:0< (zd A).length:=List.length_pos_iff.2 λe=>hA0 (zd_eq_nil.1 e);refine ac (q_z 3 ?_);refine cT (aj (ah ?_));have hov:=rJ A 10000 δ ω δ;rw[zd_sm δ (by decide:10000< 32768)] at hov;obtain⟨r,hr⟩:∃r,r=A % 10000:=⟨_,rfl⟩;obtain⟨B,hB⟩:∃B,B=A/ 10000:=⟨_,rfl⟩;rw[<-hr,<-hB] at hov;have hr4:r< 10000:=by rw[hr];exact Nat.mod_lt _ δ
 have hzr:(zd r).length<=4:=by
  rw[c7];exact ft (b:=UB) δ (k:=4) (Nat.lt_trans hr4 δ)
 have hsh:=wN (zd r) hzr (j7 r);rw[lx] at hsh;obtain⟨T,hT⟩:∃T,T=pd (4* k) n:=⟨_,rfl⟩;have hTl:T.length=4* k:=by rw[hT,yp]
 rw[<-hT];refine s_r 8 ?_;refine a_2 ?_;refine o_1 (.callS1 rfl rfl rfl (.keep (.shut rfl d_n (.nil))) rfl (hov)) ?_;refine a_z ?_;refine r_c 3 (hsh) ?_;refine a_z ?_;refine ac (r_z 1 ?_);refine aC (ztI z r B T) (λi=>i=4) ?_ ?_;refine ah (ay (ztI z r B T) (λi=>4- i) (λi=>i<=4) 0 δ ?_ ?_);simp only[ztI.eq_1];have e:((r/ 10^ 0:Nat):Int)=r:=ψ
 rw[e];exact s_f [];rintro i hi;simp only[ztI.eq_1];by_cases h4:i< 4;refine ac (q_z 2 ?_);refine cT (aj (ac (ah ?_)));obtain⟨c,hc⟩:∃c,c=r/ 10^ i:=⟨_,rfl⟩;rw[<-hc];have hcr:c<=r:=by rw[hc];exact Nat.div_le_self _ _
 have hsz:[UInt8.ofNat (48+c % 10)].length+(pd i r++T).length<=9223372036854775807:=by
  rw[List.length_append,yp,hTl];simp only[List.length_cons,List.length_nil];omega
 refine s_r 9 ?_;refine a_5 ?_;refine o_0 (.slice_v rfl rfl rfl rfl (K0 (c % 10) _ _ ω ω ω)) ?_;refine a_1 ?_;refine o_0 (.bin rfl rfl (fw (l:=[UInt8.ofNat (48+c % 10)]) (m:=pd i r++T) hsz)) ?_;refine a_z ?_;refine r_m 3 ?_;refine a_z ?_;refine r_m 3 ?_;refine a_z ?_;refine⟨i+1,ω,h4,?_⟩;have e1:pd (i+1) r++T=[UInt8.ofNat (48+c % 10)]++(pd i r++T):=by rw[Jz,<-hc];rfl
 have e2:((r/ 10^ (i+1):Nat):Int)=(c:Int) / 10:=by rw[Nat.pow_succ,<-Nat.div_div_eq_div_mul,<-hc];omega
 show SEnt _ ⟨[(1,.aptr [zZ z] 0 0),(3,tx (pd (i+1) r++T)),(5,.arr (iE (zd B))),(7,i64 ((r/ 10^ (i+1):Nat):Int)),(8,i64 ((i+1:Nat):Int))],[],2,_⟩;rw[e1,e2];exact s_f [];refine ac (q_z 2 ?_);refine cF (ax ⟨i,ω,?_⟩);simp only[ztI.eq_1];exact s_f [];rintro _ rfl;rw[ztI.eq_1];refine r_m 2 ?_;refine a_z ?_;have e0:n/ 10^ (4* (k+1))=B:=by rw[hB,hA,Nat.div_div_eq_div_mul,show 4* (k+1)=4* k+4 by omega,Nat.pow_add]
 refine⟨k+1,?_,.inr ?_,?_⟩;show n/ 10^ (4* (k+1))< A;rw[e0];omega;show 0< n/ 10^ (4* (k+1- 1));rw[Nat.add_sub_cancel,<-hA];omega
 have e1:pd (4* (k+1)) n=pd 4 r++T:=by
  rw[show 4* (k+1)=4+4* k by omega,JB,<-hA,<-hT,hr];congr 1;exact(pd_mod 4 A).symm
 show SEnt _ ⟨[(1,.aptr [zZ z] 0 0),(3,tx (pd (4* (k+1)) n)),(4,.arr (iE (zd (n/ 10^ (4* (k+1))))))],[],2,_⟩;rw[e0,e1];exact s_f [];rintro T ⟨K,hT,hK,hKl⟩;have hdz:kZ T=Lib.decDigits n:=by rw[hT];exact CI K n hn0 hK
 clear hT hK hKl;simp only[ztD.eq_1];refine bD (ztD z) (λT=>T=Lib.decDigits n) ?_ ?_;refine ah (ay (ztD z) (λT=>T.length) (λT=>kZ T=Lib.decDigits n) T hdz ?_ ?_);simp only[ztD.eq_1];exact s_f [];intro T hT;simp only[ztD.eq_1];cases T with
 |nil=>exact absurd hT.symm (si n)
 |cons c T=>
  rw[kZ] at hT;by_cases hc:c=48;rw[if_pos hc] at hT;refine ac (s_r 3 ?_);refine a_1 ?_;refine o_0 (.index_s rfl rfl first_text) ?_;refine o_0 (.bin rfl rfl (vT bJ ((by rw[hc];rfl)))) ?_;refine aq ?_;refine cT (aj (ah (r_m 3 ?_)));refine a_1 ?_;refine o_0 (.slice_v rfl rfl rfl rfl (Hj c T)) ?_;refine a_z ?_;refine⟨T,ψ,hT,?_⟩;show SEnt _ ⟨[(1,.aptr [zZ z] 0 0),(3,tx T)],[],2,_⟩;exact s_f [];rw[if_neg hc] at hT
  have hne:(((c.toNat:Nat):Int)==48)=false:=by
   rw[beq_eq_false_iff_ne];intro e
   exact hc (UInt8.toNat_inj.1 (by have:c.toNat=48:=ω
                                   exact this))
  refine ac (s_r 3 ?_);refine a_1 ?_;refine o_0 (.index_s rfl rfl first_text) ?_;refine o_0 (.bin rfl rfl (vF bJ (hne))) ?_;refine aq ?_;refine cF (ax ⟨c::T,hT,?_⟩);show SEnt _ ⟨[(1,.aptr [zZ z] 0 0),(3,tx (c::T))],[],2,_⟩;exact s_f []
 rintro T rfl;simp only[ztD.eq_1];have hdl2:=xf n;by_cases hneg:z< 0;refine ac (s_r 3 ?_);refine a_2 ?_;refine o_0 (.bin rfl rfl (vT ei ((by unfold sgZ;rw[if_neg h0,if_pos hneg];rfl)))) ?_;refine aq ?_;refine cT (s_r 3 ?_);refine a_1 ?_;refine o_0 (.bin rfl rfl (fw (l:=[45]) χ)) ?_;refine a_z ?_;exact ai (aS rfl (by unfold ztx;rw[if_pos hneg,hn]) (ak _));refine ac (s_r 3 ?_);refine a_2 ?_;refine o_0 (.bin rfl rfl (vF ei ((by unfold sgZ;rw[if_neg h0,if_neg hneg];rfl)))) ?_;refine aq ?_;refine cF (aj (r_z 2 ?_));exact ai (aS rfl (by unfold ztx;rw[if_neg hneg,hn];rfl) (ak _))
theorem fs_ends (g:Nat) (op:Rat->Rat->Rat) (a b c d:Rat) (h1:FS g [.agg (qC a),.agg (qC c)] (.agg (qC (op a c)))) (h2:FS g [.agg (qC a),.agg (qC d)] (.agg (qC (op a d)))) (h3:FS g [.agg (qC b),.agg (qC c)] (.agg (qC (op b c)))) (h4:FS g [.agg (qC b),.agg (qC d)] (.agg (qC (op b d))))
    (hs:smL [op a c,op a d,op b c,op b d]):FS 334 [.clos g [] [],.agg (spC a b),.agg (spC c d)] (.agg (spC (DX [op a c,op a d,op b c,op b d]) (gQ [op a c,op a d,op b c,op b d]))):=by
 refine f_n Tryz.func334 ?_ ?_;exact ae (a6 af af) (ae (b9 a b) (ae (b9 c d) af));refine r_z 3 ?_;refine ac (r_d aX 27 ?_);refine c_s (h1) ?_;refine c_s (h2) ?_;refine c_s (h3) ?_;refine c_s (h4) ?_;refine a_1 ?_;refine o_1 (.callS1 rfl rfl rfl (.shut rfl d_n (.nil)) rfl (Ed [op a c,op a d,op b c,op b d] hs ψ)) ?_;refine a_1 ?_;refine aq (n_k ?_);exact ai (c_e (b9 _ _))
theorem fs_SMul(a b c d:Rat)(ha:sm a)(hb:sm b)(hc:sm c)(hd:sm d)(hs:smL [a* c,a* d,b* c,b* d]):FS 317 [.agg (spC a b),.agg (spC c d)] (.agg (spC (DX [a* c,a* d,b* c,b* d]) (gQ [a* c,a* d,b* c,b* d]))):=by
 refine f_c Tryz.func317 ?_;refine r_z 3 ?_;refine r_c 4 (fs_ends 37 (λx y=>x* y) a b c d (dk a c (sm2 ha hc)) (dk a d (sm2 ha hd)) (dk b c (sm2 hb hc)) (dk b d (sm2 hb hd)) hs) ?_;refine a_z ?_;exact ai (c_e (b9 _ _))
theorem qs_int(n:Int):qs (n:Rat)<=max (bl n.natAbs) 1:=by
 have e1:(n:Rat).num=n:=rfl;have e2:(n:Rat).den=1:=rfl;unfold qs;rw[e1,e2,jz];exact Nat.le_refl _
theorem Jo{n:Int}(h: -9223372036854775808<=n/\n<=9223372036854775807):qs (n:Rat)<=64:=by
 have a:=qs_int n;have b:bl n.natAbs<=64:=gY (Nat.lt_of_le_of_lt (show n.natAbs<=9223372036854775808 by omega) δ);omega
theorem fs_Of(n d:Int)(hn: -9223372036854775808<=n/\n<=9223372036854775807)(hd: -9223372036854775808<=d/\d<=9223372036854775807)(h0:d≠0):FS 43 [i64 n,i64 d] (.tup [.agg (qC ((n:Rat) / (d:Rat))),i64 0]):=by
 have b:=Jo hn;have c:=Jo hd
 have a:(d:Rat)≠0:=by
  intro h;have:(d:Rat).num=0:=by rw[h];rfl
  exact h0 this
 refine f_c Tryz.func43 ?_;refine r_z 2 ?_;refine r_c 9 (eD n hn) ?_;refine c_s (eD d hd) ?_;refine c_s (Es (n:Rat) (d:Rat) a ω) ?_;refine a_z ?_;refine ai (Fin.many ⟨_,_,rfl,⟨_,_,_,_,_,rfl,rfl,rfl,.inl ⟨TG.h,_,TS.h,nle rfl,rfl⟩⟩,⟨_,_,rfl,rfl,rfl⟩⟩ (nle rfl) ?_);exact am (ao aF (aP _)) (am (ao aF (ak _)) av)
theorem Cj(l:Lq)(hl:l.length<=1099511627776):FS 145 [.arr (pE l)] (.arr (pE l)):=by
 cases l with
 |nil=>
  refine FSpec.nil1 λa c=>?_;refine f_c Tryz.func145 ?_;refine r_z 1 ?_;refine ac (r_z 2 ?_);refine ar rfl (λh=>?_) (λh=>?_);refine r_z 1 ?_;exact ai (Fin.tmpN rfl)
  ·refine aj (s_r 4 ?_)
   refine a_2 ?_;refine o_2 (.append_l rfl rfl rfl te_62.h rfl rfl rfl rfl rfl d_o η ξ rfl (.vnil) TZ.h rfl TB.h d_o μ) ?_;refine a_z ?_;exact ai (Fin.tmpS rfl rfl rfl rfl (aQ []))
 |cons q l=>
  have b:pE (q::l)≠[]:=by simp[pE]
  simp at hl;refine f_c Tryz.func145 ?_;refine r_z 1 ?_;refine ac (s_r 2 ?_);refine a_1 ?_;refine bm (.nilq_arr rfl (b) rfl te_62.h) rfl rfl ?_;refine aq ?_;refine cF ?_
  ·refine aj (s_r 4 ?_)
   refine a_2 ?_;refine o_2 (.append_l rfl rfl rfl te_62.h rfl rfl rfl rfl rfl d_o η ξ rfl (.arr (mN _)) TZ.h rfl TB.h d_o μ) ?_;refine a_z ?_;exact ai (Fin.tmpS rfl rfl rfl ψ (aQ _))
def trS(l:Lq):Nat->AState
 |n=>⟨[(0,.arr (pE l)),(3,i64 n)],[],1,23⟩
theorem υ{p:Prop}(h:p:=by simp <;> omega):p:=h
theorem dK(l:Lq)(hl:l.length<=1099511627776):FS 88 [.arr (pE l)] (.arr (pE (ap l))):=by
 refine f_c Tryz.func88 ?_;refine r_z 1 ?_;refine r_z 3 ?_;refine bD (trS l) (λn=>n<=l.length/\ap l=l.take n) ?_ ?_;refine ah (ay (trS l) (λn=>n) (λn=>n<=l.length/\ap l=ap (l.take n)) l.length ⟨Nat.le_refl _,by rw[List.take_length]⟩ ?_ ?_);simp only[trS.eq_1];exact s_e [];rintro n ⟨i,a⟩;rw[trS.eq_1];cases n with
 |zero=>
  refine ac (s_r 11 ?_);refine a_3 ?_;refine n_g rfl ψ ?_;refine n_g rfl ψ ?_;refine n_g rfl ψ ?_;refine n_g rfl ψ ?_;refine n_g rfl ψ ?_;refine n_g rfl ψ ?_;refine n_g rfl ψ ?_;refine o_0 (.pickF rfl ψ rfl) ?_;refine aq ?_;refine cF ?_;refine ax ⟨0,⟨Nat.zero_le _,?_⟩,?_⟩;rw[a];rfl;simp only[trS.eq_1];exact s_e []
 |succ n=>
  obtain⟨q,g⟩:∃q,l[n]?=some q:=⟨_,List.getElem?_eq_getElem ω⟩
  have b:(pE l)[(((n+1:Nat):Int)- 1).toNat]?=some (qC q):=by
   rw[show(((n+1:Nat):Int)- 1).toNat=n by omega];exact pE_get g
  have hs:ap (l.take (n+1))=if q=0 then ap (l.take n) else l.take (n+1):=by
   rw[cO g,mG]
  refine ac (s_r 11 ?_);refine a_3 ?_;refine y_g rfl υ (.move rfl) ?_;refine y_g rfl υ (.move rfl) ?_;refine y_g rfl υ (.bin rfl rfl (ow ω)) ?_;refine y_g rfl υ (.index_a rfl rfl ω b rfl te_62.h) ?_;refine y_g rfl υ (.load_a rfl b TG.h TS.h (nle rfl)) ?_;refine y_g rfl υ (.call rfl rfl rfl (c6 q)) ?_;refine y_g rfl υ (.bin rfl rfl bJ) ?_;refine o_0 (.pickT rfl υ rfl) ?_;refine aq ?_;refine ar rfl (λh=>?_) (λh=>?_)
  have f:q=0:=by
   have c:sgZ q.num=0:=by simpa using h
   exact sgZ_num_eq.1 c
  refine aj (ah (r_m 3 ?_));refine a_z ?_;refine⟨n,Nat.lt_succ_self n,⟨ω,?_⟩,?_⟩;rw[a,hs,if_pos f];simp only[trS.eq_1];exact s_e []
  have f:q≠0:=by
   intro e;have c:¬sgZ q.num=0:=by simpa using h
   exact c (sgZ_num_eq.2 e)
  refine ax ⟨n+1,⟨i,?_⟩,?_⟩;rw[a,hs,if_neg f];simp only[trS.eq_1];exact s_e []
 rintro n ⟨i,a⟩;rw[trS.eq_1];have d:=Cj (l.take n) χ;refine s_r 5 ?_;refine a_2 ?_;refine o_0 (.sa_h rfl rfl (h:=n) rfl χ te_62.h (mN _)) ?_;refine o_0 (.call rfl rfl rfl ((by rw[uU];exact d))) ?_;refine o_0 (.assign rfl) ?_;refine aq ?_;refine ai (aS rfl ?_ ?_);rw[a];exact aK (aQ _)
theorem em(l:Lq)(hl:l.length<=1099511627776):FS 34 [.arr (pE l)] (i64 (dt l)):=by
 have:=bh l;refine f_c Tryz.func34 ?_;refine r_z 1 ?_;refine r_c 5 (dK l hl) ?_;refine a_z ?_;exact ai (t_e (ak _))
theorem vg(l:Lq)(hl:l.length<=1099511627776):FS 187 [.arr (pE l)] (.agg (qC (aI l))):=by
 have c:=bh l;refine f_c Tryz.func187 ?_;refine r_z 1 ?_;refine r_c 3 (dK l hl) ?_;refine a_z ?_;refine ac (r_z 3 ?_);refine ar rfl (λh=>?_) (λh=>?_)
 have e:ap l=[]:=by
  have a:(ap l).length=0:=by simpa using h
  exact List.length_eq_zero_iff.1 a
 rw[tn e];refine r_z 2 ?_;refine ai (Fin.cell rfl rfl rfl TG.h TS.h (nle rfl) (Cv.agg ?_));rw[qC0];exact am (Cv.emp _) (am (ao aF (ak _)) (am (Cv.emp _) av))
 obtain⟨n,d⟩:∃n,(ap l).length=n+1:=⟨(ap l).length- 1,by
  have a:¬(ap l).length=0:=by simpa using h
  omega⟩
 have b:(pE (ap l))[(((ap l).length:Int)- 1).toNat]?=some (qC (aI l)):=by
  rw[d,show(((n+1:Nat):Int)- 1).toNat=n by omega];exact pE_get (dj d)
 refine aj (s_r 7 ?_);refine a_4 ?_;refine i_x b ?_;refine l_x b ?_;refine a_z ?_;exact ai (c_e (aP _))
theorem fs_at(l:Lq)(i:Nat):FS 176 [.arr (pE l),i64 i] (.agg (qC (coP l i))):=by
 refine f_c Tryz.func176 ?_;refine r_z 1 ?_;refine ac (r_z 4 ?_);refine ar rfl (λh=>?_) (λh=>?_);have b:i< l.length:=by simpa using h
 have c:(pE l)[((i:Nat):Int).toNat]?=some (qC (coP l i)):=pE_get (ci b);refine s_r 5 ?_;refine a_2 ?_;refine i_x c ?_;refine l_x c ?_;refine a_z ?_;exact ai (c_e (aP _));have a:l.length<=i:=by simpa using h
 rw[ee a];refine aj (r_z 2 ?_);refine ai (Fin.cell rfl rfl rfl TG.h TS.h (nle rfl) (Cv.agg ?_));rw[qC0];exact am (Cv.emp _) (am (ao aF (ak _)) (am (Cv.emp _) av))
theorem eE_set{n i e:Nat}{f:Nat->Rat}(h:i< n)(he:e=i):(pE (aN i f)++List.replicate (n- i) zC).set e (qC (f i))=pE (aN (i+1) f)++List.replicate (n- (i+1)) zC:=by
 subst he;obtain⟨k,rfl⟩:∃k,n=e+1+k:=⟨n- (e+1),ω⟩;rw[show e+1+k- e=k+1 by omega,show e+1+k- (e+1)=k by omega,List.replicate_succ,List.set_append_right _ _ ψ];simp[aN,List.range_succ,pE]
theorem eE_get{n i e:Nat}{f:Nat->Rat}(h:i< n)(he:e=i):(pE (aN i f)++List.replicate (n- i) zC)[e]?=some zC:=by
 subst he;rw[List.getElem?_append_right ψ,List.getElem?_replicate,if_pos χ]
theorem tY(n i:Nat)(f:Nat->Rat):∀e∈pE (aN i f)++List.replicate (n- i) zC,∀c∈e,Closed c:=by
 intro e a;rcases List.mem_append.1 a with a|a
 exact aQ _ e a;rw[List.eq_of_mem_replicate a];exact pi
def KO(n:Nat)(f:Nat->Rat)(g:Nat)(cap:La):Nat->AState
 |i=>⟨[(1,.clos g [] cap),(5,.lsl 1 0 n (some n) 3),(10,i64 n),(11,i64 i)],[(1,some ⟨42,3,pE (aN i f)++List.replicate (n- i) zC⟩)],2,23⟩
theorem u9(n:Nat)(f:Nat->Rat)(g:Nat)(cap:La)(hn:n<=1099511627776)(hcap:∀c∈cap,Closed c)(hg:∀i,i< n->FS g ((i64 i::cap).map coe) (.agg (qC (f i)))):FS 174 [i64 n,.clos g [] cap] (.arr (pE (ap (aN n f)))):=by
 refine f_n Tryz.func174 ?_ ?_;exact ae (ak _) (ae (a6 af hcap) af);refine r_z 1 ?_;refine r_z 3 ?_;refine ac (r_z 3 ?_);refine aC (λ_:Unit=>KO n f g cap n) (λ_=>True) ?_ ?_;refine ah (ay (KO n f g cap) (λi=>n- i) (λi=>i<=n) 0 (Nat.zero_le _) ?_ ?_);simp only[KO.eq_1];refine s_x [(1,5)] (λhs=>e_6) (λhs=>?_)
 ·repeat' (first|exact aB|refine h_c ?_ ?_|exact aJ hs rfl (tY n 0 f)|exact bG|refine aA ?_|exact av|refine am ?_ ?_|exact ao hs (a6 af hcap)|exact aW)
 rintro i e;rw[KO.eq_1];refine r_z 1 ?_;refine ac (ar rfl (λh=>?_) (λh=>?_));refine aj ?_;have a:i< n:=by simpa using h
 refine ac (ah (r_z 2 ?_));refine r_m 7 ?_;refine c_s (hg i a) ?_;refine a_1 ?_;refine fN (.store rfl rfl (eE_get a (Nat.zero_add i)) rfl rfl rfl TS.h (nle rfl)) ?_;refine aq ?_;refine r_m 2 ?_;refine a_z ?_;refine⟨i+1,ω,a,?_⟩;simp only[KO.eq_1];refine s_x [] (λhs=>e_6) (λhs=>?_)
 ·repeat' (first|exact aB|refine h_c ?_ ?_|exact aJ hs (eE_set a (Nat.zero_add i)) (tY n (i+1) f)|exact bG|refine aA ?_|exact av|refine am ?_ ?_|exact ao hs (a6 af hcap)|exact aW)
 have d:i=n:=by
  have:¬i< n:=by simpa using h
  omega
 subst d;refine ax ⟨(),trivial,?_⟩;simp only[KO.eq_1];refine s_x [] (λhs=>e_6) (λhs=>?_)
 ·repeat' (first|exact aB|refine h_c ?_ ?_|exact ba hs (tY i i f)|exact bG|refine aA ?_|exact av|refine am ?_ ?_|exact ao hs (a6 af hcap)|exact aW)
 rintro _ _;rw[KO.eq_1]
 have b:List.take n (List.drop 0 (pE (aN n f)++List.replicate (n- n) zC))=pE (aN n f):=by
  rw[Nat.sub_self,List.replicate_zero,List.append_nil,List.drop_zero,List.take_of_length_le ψ]
 refine s_r 3 ?_;refine a_1 ?_;refine o_1 (.callS1 rfl rfl rfl (.shut rfl d_n (.nil)) rfl ((by rw[b];exact dK (aN n f) (by simp;exact hn)))) ?_;refine a_z ?_;exact ai (t_e (aK (aQ _)))
end Go.Proofs.YtjmkjicckobojaaGreatDoor
