/- Part V26 of the proof. -/
import Derived.Test.YtjkddcfoolilbaaGreatDoorV25
set_option linter.all false
namespace Go.Proofs.YtjkddcfoolilbaaGreatDoor
open Go.Abs
set_option maxRecDepth 20000
set_option maxHeartbeats 1000000
theorem ro_(m:Nat):(mtx m).length≤9* bl m+1:=by
 unfold mtx;split;simp;have h1:=qw_ (l:=(digs MB m).reverse) fun x hx=>bT_ (b:=MB) (by decide) m x (List.mem_reverse.1 hx);have h2:=aT_ (b:=MB) (by decide) m;rw[List.length_reverse] at h1;omega
def qtx(q:Rat):List UInt8:=((if q.num< 0 then [45] else [])++mtx q.num.natAbs)++(if q.den=1 then [] else 47::mtx q.den)
def quS(q:Rat):List UInt8→AState
 |l=>⟨[(1,.aptr [qC q] 0 0),(3,tx l)],[],2,24⟩
theorem sb_(q:Rat)(h:qs q≤68719476736):FS 38 [.agg (qC q)] (tx (qtx q)):=by
 have hd1:=ro_ q.num.natAbs;have hd2:=ro_ q.den;have hden:1≤q.den:=q.den_pos;have hq1:=b1_ q;have hq2:=bR_ q;refine f_c Tryz.func38 ?_;refine r_z 2 ?_;refine AWp.ent (st':=⟨[(1,.aptr [qC q] 0 0)],[],2,24⟩) ?_ ?_;exact s_e [];refine r_c 5 (l2_ q.num.natAbs (Nat.le_trans (b1_ q) h)) ?_;refine a_z ?_;refine aP_ (quS q) (fun l=>l=(if q.num< 0 then [45] else [])++mtx q.num.natAbs) ?_ ?_;refine r_z 3 ?_;refine aj_ rfl (fun h1=>?_) (fun h1=>?_);have h2:q.num< 0:=by simpa using h1
 refine r_m 3 ?_;refine a_1 ?_;refine o_0 (.bin rfl rfl (cQ_ (l:=[45]) (by simp;omega))) ?_;refine a_z ?_;refine⟨_,by rw[if_pos h2],?_⟩;rw[quS.eq_1];exact s_x [] (fun hs=>e_2) (fun hs=>e_3);have h2:¬q.num< 0:=by simpa using h1
 refine ah_ ⟨mtx q.num.natAbs,by rw[if_neg h2];rfl,?_⟩;rw[quS.eq_1];exact s_x [] (fun hs=>e_2) (fun hs=>e_3);rintro l hl;have hll:l.length≤618475290626:=by rw[hl];split <;> simp <;> omega
 rw[quS.eq_1];refine aP_ (quS q) (fun l=>l=qtx q) ?_ ?_;refine r_c 4 (eJ_ (q.den- 1)) ?_;refine a_z ?_;refine aj_ rfl (fun h1=>?_) (fun h1=>?_)
 have h2:¬q.den=1:=by
  intro e;rw[e] at h1;simp at h1
 refine r_m 7 ?_;refine c_s (cj_ q (by omega)) ?_;refine c_s (l2_ q.den (Nat.le_trans (bR_ q) h)) ?_;refine o_0 (.bin rfl rfl (cQ_ (l:=[47]) (by simp;omega))) ?_;refine o_0 (.bin rfl rfl (cQ_ (by simp;omega))) ?_;refine a_z ?_;refine⟨_,by unfold qtx;rw[if_neg h2,←hl],?_⟩;rw[quS.eq_1];exact s_x [] (fun hs=>e_2) (fun hs=>e_3)
 have h2:q.den=1:=by
  have h3:q.den- 1=0:=by simpa using h1
  omega
 refine ah_ ⟨l,by unfold qtx;rw[if_pos h2,←hl,List.append_nil],?_⟩;rw[quS.eq_1];exact s_x [] (fun hs=>e_2) (fun hs=>e_3);rintro l rfl;rw[quS.eq_1];refine r_z 2 ?_;exact af_ (t_e (ad_ _))
theorem pad9_pd{x:Nat}(h:x< 1000000000):pad9 x=pd 9 x:=by
 by_cases h0:x=0;subst h0;decide+kernel;rw[pd_dec 9 x (by omega) h];rfl
theorem qx_:∀(n m:Nat),m≤n→0< m→txD (digs MB m).reverse=Lib.decDigits m
 |0,m,h,h0=>by omega
 |n+1,m,h,h0=>by
  have hb:MB=1000000000:=rfl;rw[cx_ (by decide) h0,List.reverse_cons];by_cases hm:m< MB;rw[Nat.div_eq_of_lt hm,bb_,Nat.mod_eq_of_lt hm];simp[txD];have hd:0< m/ MB:=Nat.div_pos (by omega) (by decide)
  have hne:(digs MB (m/ MB)).reverse≠[]:=fun e=>by
   have:=(cY_ (b:=MB) (by decide)).1 (List.reverse_eq_nil_iff.1 e);omega
  have hlt:m % MB< 1000000000:=Nat.mod_lt m (by decide);rw[nP_ hne,qx_ n (m/ MB) (by have:=Nat.div_lt_self h0 (by decide:1< MB);omega) hd,pad9_pd hlt,←mp_ 9 (m/ MB) (m % MB) hd hlt];congr 1;show m/ 1000000000* 1000000000+m % 1000000000=m;omega
theorem rp_(m:Nat):mtx m=Lib.decDigits m:=by
 unfold mtx;split
 ·rename_i h;subst h;decide+kernel
 exact qx_ m m (Nat.le_refl _) (by omega)
def ztx(z:Int):List UInt8:=(if z< 0 then [45] else [])++Lib.decDigits z.natAbs
theorem qtx_eq(q:Rat):qtx q=ztx q.num++(if q.den=1 then [] else 47::Lib.decDigits q.den):=by
 unfold qtx ztx;rw[rp_,rp_]
theorem j7_(n:Nat):(Lib.decDigits n).length≤bl n+1:=by
 rw[Lib.decDigits_length];have h:n< 10^ (bl n+1):=Nat.lt_of_lt_of_le (lt_bl n) (Nat.le_trans (Nat.pow_le_pow_left (by decide:2≤10) _) (Nat.pow_le_pow_right (by decide) (by omega)));exact m3_ (bl n) n h
theorem first_text{c:UInt8}{l:List UInt8}:∀w,(Instr.index 9 (.string ⟨(c::l).toArray⟩) (.int .i64 0)).run Tryz.prog w= .ok (.int .u8 c.toNat) w:=fun w=>by
 simp[Instr.index,asIntOf,run_underlying dW_,go_sem];rfl
theorem qB_(c:UInt8)(l:List UInt8):∀w,(Instr.sliceAt 9 (.string ⟨(c::l).toArray⟩) (some (.int .i64 1)) none none).run Tryz.prog w= .ok (.string ⟨l.toArray⟩) w:=fun w=>by
 have b1:∀(i y:Nat) (c:BoundsCode),i≤y→(Instr.sliceBound (.int .i64 (i:Int)) y c).run Tryz.prog w= .ok i w:=fun i y c hi=>ch_ hi c w
 have e:(⟨(c::l).toArray⟩:ByteArray).extract 1 (⟨(c::l).toArray⟩:ByteArray).size=⟨l.toArray⟩:=by
  apply ByteArray.ext;simp[ByteArray.size]
 have hr:(Instr.slice 9 (.string ⟨(c::l).toArray⟩) (some (.int .i64 ((1:Nat):Int))) none none).run Tryz.prog w= .ok (.string ⟨l.toArray⟩) w:=by
  have hs:1≤(⟨(c::l).toArray⟩:ByteArray).size:=by simp[ByteArray.size]
  have b2:=b1 1 (⟨(c::l).toArray⟩:ByteArray).size .sliceB hs;rw[show((1:Nat):Int)=1 from rfl] at b2;simp[Instr.slice,run_underlying dW_,Instr.sliceBounds,b2,Result.andThen,e]
 unfold Instr.sliceAt;rw[Sem.run_bind,run_underlying dW_];exact hr
theorem dig_text(d:Nat)(zl zh:Int)(hd:d< 10)(el:zl=(d:Int))(eh:zh=(d:Int)+1):∀w,(Instr.sliceAt 9 (.string ⟨#[48,49,50,51,52,53,54,55,56,57]⟩) (some (.int .i64 zl)) (some (.int .i64 zh)) none).run Tryz.prog w= .ok (.string ⟨[UInt8.ofNat (48+d)].toArray⟩) w:=fun w=>by
 rw[k5_ _ d (d+1) zl zh el (by omega) (by omega) (by exact Nat.le_trans (m:=10) (by omega) (by decide)) w];have key:∀d,d< 10→(ByteArray.mk #[48,49,50,51,52,53,54,55,56,57]).extract d (d+1)=⟨[UInt8.ofNat (48+d)].toArray⟩:=by decide
 rw[key d hd]
theorem zd_sm{m:Nat}(h0:0< m)(h:m< 32768):zd m=[m]:=by
 have hb:UB=32768:=rfl;unfold zd;rw[cx_ (by decide) h0,Nat.mod_eq_of_lt (by omega),Nat.div_eq_of_lt (by omega),bb_];rfl
def ztO(z:Int)(n:Nat):Nat→AState
 |k=>⟨[(1,.aptr [zZ z] 0 0),(3,tx (pd (4* k) n)),(4,.arr (iE (zd (n/ 10^ (4* k)))))],[],2,51⟩
def ztI(z:Int)(r B:Nat)(T:List UInt8):Nat→AState
 |i=>⟨[(1,.aptr [zZ z] 0 0),(3,tx (pd i r++T)),(5,.arr (iE (zd B))),(7,i64 ((r/ 10^ i:Nat):Int)),(8,i64 i)],[],2,51⟩
def ztD(z:Int):List UInt8→AState
 |T=>⟨[(1,.aptr [zZ z] 0 0),(3,tx T)],[],2,51⟩
theorem oE_(z:Int)(h:bl z.natAbs≤68719476736):FS 177 [.agg (zZ z)] (tx (ztx z)):=by
 have hcz:Closed (.aptr [zZ z] 0 0):=aL_ (bW_ z);refine f_c Tryz.func177 ?_;refine r_z 2 ?_;refine AWp.ent (st':=⟨[(1,.aptr [zZ z] 0 0)],[],2,51⟩) ?_ ?_;exact s_e [];by_cases h0:z=0;subst h0;refine ab_ (s_r 3 ?_);refine a_2 ?_;refine o_0 (.bin rfl rfl (vT a3_ ((by decide)))) ?_;refine al_ ?_;refine aj_ rfl (fun h1=>?_) (fun h1=>?_);refine r_z 1 ?_;exact af_ (aD_ rfl (by rw[show ztx 0=[48] by unfold ztx;rw[Int.natAbs_zero,Lib.decDigits_one (by decide)];rfl];rfl) (ad_ _));cases h1;refine ab_ (s_r 3 ?_);refine a_2 ?_;refine o_0 (.bin rfl rfl (vF a3_ ((by unfold sgZ;rw[if_neg h0];split <;> rfl)))) ?_;refine al_ ?_;refine cF (ah_ (r_z 1 ?_));refine r_z 3 ?_;obtain⟨n,hn⟩:∃n,n=z.natAbs:=⟨_,rfl⟩;have hn0:0< n:=by omega
 rw[←hn] at h;have hzd:=bh_ n;have hdl:=aT_ (b:=UB) (by decide) n;refine aP_ (ztD z) (fun T=> ∃k,T=pd k n∧n< 10^ k∧k≤4* (bl n+1)) ?_ ?_;refine ae_ (aq_ (ztO z n) (fun k=>n/ 10^ (4* k)) (fun k=>k=0∨0< n/ 10^ (4* (k- 1))) 0 (.inl rfl) ?_ ?_);simp only[ztO.eq_1];have e:n/ 10^ (4* 0)=n:=by simp
 rw[e,hn];exact s_f [];rintro k hk;simp only[ztO.eq_1];obtain⟨A,hA⟩:∃A,A=n/ 10^ (4* k):=⟨_,rfl⟩
 have hk4:4* k≤bl n+4:=by
  rcases hk with hk|hk
  omega
  have h1:10^ (4* (k- 1))≤n:=by
   apply Nat.le_of_not_lt;intro hlt;rw[Nat.div_eq_of_lt hlt] at hk;omega
  have h2:=lt_bl n;have h3:2^ (4* (k- 1))≤10^ (4* (k- 1)):=Nat.pow_le_pow_left (by decide) _;have h4:4* (k- 1)< bl n:=(Nat.pow_lt_pow_iff_right (a:=2) (by decide)).1 (Nat.lt_of_le_of_lt (Nat.le_trans h3 h1) h2);omega
 rw[←hA];have hAb:bl A≤68719476736:=Nat.le_trans (b0_ (by rw[hA];exact Nat.div_le_self _ _)) h;by_cases hA0:A=0;have hz:(zd A).length=0:=by rw[hA0,gP_];rfl
 refine ab_ (q_z 3 ?_);refine cF (ao_ ⟨pd (4* k) n,⟨4* k,rfl,?_,by omega⟩,?_⟩);rw[hA0] at hA;exact(Nat.div_eq_zero_iff.1 hA.symm).resolve_left (by have:=Nat.one_le_pow (4* k) 10 (by decide);omega);simp only[ztD.eq_1];exact s_f [];have hz:0< (zd A).length:=List.length_pos_iff.2 fun e=>hA0 (zd_eq_nil.1 e);refine ab_ (q_z 3 ?_);refine cT (ah_ (ae_ ?_));have hov:=h8_ A 10000 (by decide) (by omega) (by decide);rw[zd_sm (by decide) (by decide:10000< 32768)] at hov;obtain⟨r,hr⟩:∃r,r=A % 10000:=⟨_,rfl⟩;obtain⟨B,hB⟩:∃B,B=A/ 10000:=⟨_,rfl⟩;rw[←hr,←hB] at hov;have hr4:r< 10000:=by rw[hr];exact Nat.mod_lt _ (by decide)
 have hzr:(zd r).length≤4:=by
  rw[bh_];exact co_ (b:=UB) (by decide) (k:=4) (Nat.lt_trans hr4 (by decide))
 have hsh:=kF_ (zd r) hzr (zd_lt r);rw[hv_zd] at hsh;obtain⟨T,hT⟩:∃T,T=pd (4* k) n:=⟨_,rfl⟩;have hTl:T.length=4* k:=by rw[hT,lN_]
 rw[←hT];refine s_r 8 ?_;refine a_2 ?_;refine o_1 (.callS1 rfl rfl rfl (.keep (.shut rfl d_n (.nil))) rfl (hov)) ?_;refine a_z ?_;refine r_c 3 (hsh) ?_;refine a_z ?_;refine ab_ (r_z 1 ?_);refine aw_ (ztI z r B T) (fun i=>i=4) ?_ ?_;refine ae_ (aq_ (ztI z r B T) (fun i=>4- i) (fun i=>i≤4) 0 (by decide) ?_ ?_);simp only[ztI.eq_1];have e:((r/ 10^ 0:Nat):Int)=r:=by simp
 rw[e];exact s_f [];rintro i hi;simp only[ztI.eq_1];by_cases h4:i< 4;refine ab_ (q_z 2 ?_);refine cT (ah_ (ab_ (ae_ ?_)));obtain⟨c,hc⟩:∃c,c=r/ 10^ i:=⟨_,rfl⟩;rw[←hc];have hcr:c≤r:=by rw[hc];exact Nat.div_le_self _ _
 have hsz:[UInt8.ofNat (48+c % 10)].length+(pd i r++T).length≤9223372036854775807:=by
  rw[List.length_append,lN_,hTl];simp only[List.length_cons,List.length_nil];omega
 refine s_r 9 ?_;refine a_5 ?_;refine o_0 (.slice_v rfl rfl rfl rfl (dig_text (c % 10) _ _ (by omega) (by omega) (by omega))) ?_;refine a_1 ?_;refine o_0 (.bin rfl rfl (cQ_ (l:=[UInt8.ofNat (48+c % 10)]) (m:=pd i r++T) hsz)) ?_;refine a_z ?_;refine r_m 3 ?_;refine a_z ?_;refine r_m 3 ?_;refine a_z ?_;refine⟨i+1,by omega,h4,?_⟩;have e1:pd (i+1) r++T=[UInt8.ofNat (48+c % 10)]++(pd i r++T):=by rw[pd_front,←hc];rfl
 have e2:((r/ 10^ (i+1):Nat):Int)=(c:Int) / 10:=by rw[Nat.pow_succ,←Nat.div_div_eq_div_mul,←hc];omega
 show SEnt _ ⟨[(1,.aptr [zZ z] 0 0),(3,tx (pd (i+1) r++T)),(5,.arr (iE (zd B))),(7,i64 ((r/ 10^ (i+1):Nat):Int)),(8,i64 ((i+1:Nat):Int))],[],2,_⟩;rw[e1,e2];exact s_f [];refine ab_ (q_z 2 ?_);refine cF (ao_ ⟨i,by omega,?_⟩);simp only[ztI.eq_1];exact s_f [];rintro _ rfl;rw[ztI.eq_1];refine r_m 2 ?_;refine a_z ?_;have e0:n/ 10^ (4* (k+1))=B:=by rw[hB,hA,Nat.div_div_eq_div_mul,show 4* (k+1)=4* k+4 by omega,Nat.pow_add]
 refine⟨k+1,?_,.inr ?_,?_⟩;show n/ 10^ (4* (k+1))< A;rw[e0];omega;show 0< n/ 10^ (4* (k+1- 1));rw[Nat.add_sub_cancel,←hA];omega
 have e1:pd (4* (k+1)) n=pd 4 r++T:=by
  rw[show 4* (k+1)=4+4* k by omega,pd_add,←hA,←hT,hr];congr 1;exact(pd_mod 4 A).symm
 show SEnt _ ⟨[(1,.aptr [zZ z] 0 0),(3,tx (pd (4* (k+1)) n)),(4,.arr (iE (zd (n/ 10^ (4* (k+1))))))],[],2,_⟩;rw[e0,e1];exact s_f [];rintro T ⟨K,hT,hK,hKl⟩;have hdz:dropZ T=Lib.decDigits n:=by rw[hT];exact oW_ K n hn0 hK
 clear hT hK hKl;simp only[ztD.eq_1];refine aP_ (ztD z) (fun T=>T=Lib.decDigits n) ?_ ?_;refine ae_ (aq_ (ztD z) (fun T=>T.length) (fun T=>dropZ T=Lib.decDigits n) T hdz ?_ ?_);simp only[ztD.eq_1];exact s_f [];intro T hT;simp only[ztD.eq_1];cases T with
 |nil=>exact absurd hT.symm (hI_ n)
 |cons c T=>
  rw[dropZ] at hT;by_cases hc:c=48;rw[if_pos hc] at hT;refine ab_ (s_r 3 ?_);refine a_1 ?_;refine o_0 (.index_s rfl rfl first_text) ?_;refine o_0 (.bin rfl rfl (vT a3_ ((by rw[hc];rfl)))) ?_;refine al_ ?_;refine cT (ah_ (ae_ (r_m 3 ?_)));refine a_1 ?_;refine o_0 (.slice_v rfl rfl rfl rfl (qB_ c T)) ?_;refine a_z ?_;refine⟨T,by simp,hT,?_⟩;show SEnt _ ⟨[(1,.aptr [zZ z] 0 0),(3,tx T)],[],2,_⟩;exact s_f [];rw[if_neg hc] at hT
  have hne:(((c.toNat:Nat):Int)==48)=false:=by
   rw[beq_eq_false_iff_ne];intro e
   exact hc (UInt8.toNat_inj.1 (by have:c.toNat=48:=by omega
                                   exact this))
  refine ab_ (s_r 3 ?_);refine a_1 ?_;refine o_0 (.index_s rfl rfl first_text) ?_;refine o_0 (.bin rfl rfl (vF a3_ (hne))) ?_;refine al_ ?_;refine cF (ao_ ⟨c::T,hT,?_⟩);show SEnt _ ⟨[(1,.aptr [zZ z] 0 0),(3,tx (c::T))],[],2,_⟩;exact s_f []
 rintro T rfl;simp only[ztD.eq_1];have hdl2:=j7_ n;by_cases hneg:z< 0;refine ab_ (s_r 3 ?_);refine a_2 ?_;refine o_0 (.bin rfl rfl (vT a6_ ((by unfold sgZ;rw[if_neg h0,if_pos hneg];rfl)))) ?_;refine al_ ?_;refine cT (s_r 3 ?_);refine a_1 ?_;refine o_0 (.bin rfl rfl (cQ_ (l:=[45]) (by simp;omega))) ?_;refine a_z ?_;exact af_ (aD_ rfl (by unfold ztx;rw[if_pos hneg,hn]) (ad_ _));refine ab_ (s_r 3 ?_);refine a_2 ?_;refine o_0 (.bin rfl rfl (vF a6_ ((by unfold sgZ;rw[if_neg h0,if_neg hneg];rfl)))) ?_;refine al_ ?_;refine cF (ah_ (r_z 2 ?_));exact af_ (aD_ rfl (by unfold ztx;rw[if_neg hneg,hn];rfl) (ad_ _))
theorem dec_one{n:Nat}(h:Lib.decDigits n=[49]):n=1:=by
 by_cases h1:n< 10;rw[Lib.decDigits_one h1] at h;have:∀n,n< 10→[UInt8.ofNat (48+n)]=[49]→n=1:=by decide
 exact this n h1 h;have h2:=Lib.decDigits_length n;rw[h,Lib.nDigits_big h1] at h2;have:=Lib.nDigits_pos (n/ 10);simp at h2;omega
theorem qf_(n:Nat):ztx (n:Int)=Lib.decDigits n:=by
 unfold ztx;rw[if_neg (by omega),Int.natAbs_natCast];rfl
theorem qg_(z:Int):(ztx z).length≤bl z.natAbs+2:=by
 have:=j7_ z.natAbs;unfold ztx;split <;> simp <;> omega
theorem fs_rText(x:RQ)(hx:rok x)(h:qs x.1≤68719476736):FS 134 [.agg (rC x)] (tx (qtx x.1)):=by
 have hn:=Nat.le_trans (b1_ x.1) h;have hd:=Nat.le_trans (bR_ x.1) h;have zn:=oE_ x.1.num hn;have zd:=oE_ (x.1.den:Int) (by rw[Int.natAbs_natCast];exact hd);have ln:=qg_ x.1.num;have ld:=qg_ (x.1.den:Int);rw[Int.natAbs_natCast] at ld;have hcx:Closed (.aptr [rC x] 0 0):=aL_ (b8_ x);refine f_c Tryz.func134 ?_;refine r_z 2 ?_;by_cases h1:x.1.den=1;have e1:decide (ztx (x.1.den:Int)=[49])=true:=decide_eq_true (by rw[h1];decide+kernel);refine ab_ (r_c 4 (dD_ x hx) ?_);refine c_s (zd) ?_;refine o_0 (.bin rfl rfl (vT eg_ e1)) ?_;refine al_ ?_;refine cT (r_c 4 (zn) ?_);refine a_z ?_;exact af_ (aD_ rfl (by rw[qtx_eq,if_pos h1,List.append_nil]) (ad_ _));have e1:decide (ztx (x.1.den:Int)=[49])=false:=decide_eq_false fun e=>h1 (dec_one (by rw[←qf_];exact e));refine ab_ (r_c 4 (dD_ x hx) ?_);refine c_s (zd) ?_;refine o_0 (.bin rfl rfl (vF eg_ e1)) ?_;refine al_ ?_;refine cF (ah_ (ab_ (r_d hmix 9 ?_)));refine c_s (zn) ?_;refine o_0 (.bin rfl rfl (cQ_ (m:=[47]) (by simp;omega))) ?_;refine c_s (dD_ x hx) ?_;refine c_s (zd) ?_;refine o_0 (.bin rfl rfl (cQ_ (by simp;omega))) ?_;refine a_1 ?_;refine al_ (n_k ?_);exact af_ (aD_ rfl (by rw[qtx_eq,if_neg h1,qf_,List.append_assoc];rfl) (ad_ _))
theorem fs_SameN(q:Rat)(x:RQ)(hx:rok x)(h:x.1=q)(hs:qs q≤68719476736):FS 65 [.agg (qC q),.agg (rC x)] (bln true):=by
 subst h;have e1:decide (qtx x.1=qtx x.1)=true:=decide_eq_true rfl;refine f_c Tryz.func65 ?_;refine r_z 3 ?_;refine ab_ (r_d hmix 6 ?_);refine c_s (sb_ x.1 hs) ?_;refine c_s (fs_rText x hx hs) ?_;refine o_0 (.bin rfl rfl (vT eg_ e1)) ?_;refine a_1 ?_;refine al_ (n_k ?_);exact af_ (t_e (ad_ _))
def vR(x:List RQ):List Rat:=x.map (·.1)
def okX(x:List RQ):Prop:=∀y∈x,rok y
def trimR(x:List RQ):List RQ:=x.take (trimQ (vR x)).length
theorem qr_(x:List RQ):vR (trimR x)=trimQ (vR x):=by
 unfold trimR;rw[vR,List.map_take];exact(im_ (vR x)).symm
theorem okX_trim{x:List RQ}(h:okX x):okX (trimR x):=fun y hy=>h y (List.mem_of_mem_take hy)
@[simp] theorem dp_ (x:List RQ):(vR x).length=x.length:=by simp[vR]
def lkS(l:List Rat)(x:List RQ):Nat→AState
 |i=>⟨[(0,.arr (pE l)),(1,.arr (rE x)),(5,i64 i)],[],1,27⟩
theorem fs_Alike(l:List Rat)(x:List RQ)(hx:okX x)(h:vR x=l)(hs:bdL l 68719476736)(hl:l.length≤1099511627776):FS 18 [.arr (pE l),.arr (rE x)] (bln true):=by
 have hxl:x.length=l.length:=by rw[←h];simp
 refine f_c Tryz.func18 ?_;refine r_z 1 ?_;refine ab_ (s_r 5 ?_);refine a_4 ?_;refine o_0 (.bin rfl rfl (vF bF_ ((by rw[hxl];simp)))) ?_;refine al_ ?_;refine cF (ah_ (ab_ (r_z 1 ?_)));refine aw_ (fun _:Unit=>⟨[(0,.arr (pE l)),(1,.arr (rE x))],[],1,27⟩) (fun _=>True) ?_ ?_;refine ae_ (aq_ (lkS l x) (fun i=>l.length- i) (fun i=>i≤l.length) 0 (Nat.zero_le _) ?_ ?_);simp only[lkS.eq_1];exact s_e [];rintro i hi;simp only[lkS.eq_1];by_cases hlt:i< l.length;obtain⟨y,hy⟩:∃y,x[i]?=some y:=⟨_,List.getElem?_eq_getElem (by omega)⟩;have hq:l[i]?=some y.1:=by rw[←h,vR,List.getElem?_map,hy];rfl
 have g1:(pE l)[((i:Nat):Int).toNat]?=some (qC y.1):=cS_ hq;have g2:(rE x)[((i:Nat):Int).toNat]?=some (rC y):=e0_ hy;refine ab_ (q_z 4 ?_);refine cT (ah_ (ab_ (ae_ (ab_ (r_d hmix 10 ?_)))));refine a_2 ?_;refine i_x g1 ?_;refine l_x g1 ?_;refine a_2 ?_;refine i_x g2 ?_;refine l_x g2 ?_;refine c_s (fs_SameN y.1 y (hx y (List.mem_of_getElem? hy)) rfl (hs _ (List.mem_of_getElem? hq))) ?_;refine a_1 ?_;refine al_ (n_k ?_);refine cF (ah_ (r_m 3 ?_));refine a_z ?_;refine⟨i+1,by omega,hlt,?_⟩;exact s_e [];refine ab_ (q_z 4 ?_);refine cF (ao_ ⟨(),trivial,?_⟩);exact s_e [];rintro _ _;refine r_z 1 ?_;exact af_ (t_e (ad_ _))
def rtmS(x:List RQ):Nat→AState
 |n=>⟨[(0,.arr (rE x)),(3,i64 n)],[],1,23⟩
theorem eI_(x:List RQ)(hl:x.length≤1099511627776):FS 47 [.arr (rE x)] (.arr (rE (trimR x))):=by
 obtain⟨v,hv⟩:∃v,v=vR x:=⟨_,rfl⟩;have hvl:v.length=x.length:=by rw[hv];simp
 refine f_c Tryz.func47 ?_;refine r_z 1 ?_;refine r_z 3 ?_;refine aP_ (rtmS x) (fun n=>n≤v.length∧trimQ v=v.take n) ?_ ?_;refine ae_ (aq_ (rtmS x) (fun n=>n) (fun n=>n≤v.length∧trimQ v=trimQ (v.take n)) v.length ⟨Nat.le_refl _,by rw[List.take_length]⟩ ?_ ?_);simp only[rtmS.eq_1];rw[hvl];exact s_e [];rintro n ⟨hn,ht⟩;simp only[rtmS.eq_1];cases n with
 |zero=>
  refine ab_ (s_r 11 ?_);refine a_1 ?_;refine o_0 (.bin rfl rfl (vF aU_ ((by simp)))) ?_;refine a_z ?_;refine cF (ao_ ⟨0,⟨Nat.zero_le _,?_⟩,?_⟩);rw[ht];rfl;simp only[rtmS.eq_1];exact s_e []
 |succ n=>
  obtain⟨y,hy⟩:∃y,x[n]?=some y:=⟨_,List.getElem?_eq_getElem (by omega)⟩;have hq:v[n]?=some y.1:=by rw[hv,vR,List.getElem?_map,hy];rfl
  have g2:(rE x)[(((n+1:Nat):Int)- 1).toNat]?=some (rC y):=by
   rw[show(((n+1:Nat):Int)- 1).toNat=n by omega];exact e0_ hy
  have hs:trimQ (v.take (n+1))=if y.1=0 then trimQ (v.take n) else v.take (n+1):=by
   rw[bm_ hq,fk_]
  by_cases h0:y.1=0;refine ab_ (s_r 11 ?_);refine d_6 ?_
  first|refine ag_ rfl rfl rfl (.index_l rfl rfl (by omega) (by omega) te_35.h) rfl rfl ?_|refine ag_ rfl rfl rfl (.index_a rfl rfl (by omega) g2 rfl te_35.h) rfl rfl ?_
  first|refine ag_ rfl rfl rfl (.load_l rfl rfl g2 TG.h TS.h (nle rfl)) rfl rfl ?_|refine ag_ rfl rfl rfl (.load_a rfl g2 TG.h TS.h (nle rfl)) rfl rfl ?_
  refine c_s (oz_ y) ?_;refine ag_ rfl rfl rfl (.bin rfl rfl (vT a3_ ((by rw[h0];decide)))) rfl rfl ?_;refine a_z ?_;refine cT (ah_ (ae_ (r_m 3 ?_)));refine a_z ?_;refine⟨n,Nat.lt_succ_self n,⟨by omega,?_⟩,?_⟩;rw[ht,hs,if_pos h0];exact s_e []
  have hz:(sgZ y.1.num==(0:Int))=false:=by
   rw[beq_eq_false_iff_ne];exact fun e=>h0 (sgZ_num_eq.1 e)
  refine ab_ (s_r 11 ?_);refine d_6 ?_
  first|refine ag_ rfl rfl rfl (.index_l rfl rfl (by omega) (by omega) te_35.h) rfl rfl ?_|refine ag_ rfl rfl rfl (.index_a rfl rfl (by omega) g2 rfl te_35.h) rfl rfl ?_
  first|refine ag_ rfl rfl rfl (.load_l rfl rfl g2 TG.h TS.h (nle rfl)) rfl rfl ?_|refine ag_ rfl rfl rfl (.load_a rfl g2 TG.h TS.h (nle rfl)) rfl rfl ?_
  refine c_s (oz_ y) ?_;refine ag_ rfl rfl rfl (.bin rfl rfl (vF a3_ (hz))) rfl rfl ?_;refine a_z ?_;refine cF (ao_ ⟨n+1,⟨hn,?_⟩,?_⟩);rw[ht,hs,if_neg h0];simp only[rtmS.eq_1];exact s_e []
 rintro n ⟨hn,ht⟩;simp only[rtmS.eq_1];have hnl:(trimQ v).length=n:=by rw[ht];simp;omega
 have htr:trimR x=x.take n:=by unfold trimR;rw[←hv,hnl]
 cases n with
 |zero=>
  refine s_r 5 ?_;refine a_2 ?_;refine o_0 (.sa_h rfl rfl (h:=0) rfl (by simp) te_35.h (ko_ _)) ?_;refine o_0 (.append0 rfl rfl rfl te_35.h rfl rfl rfl (.arr (es:=[]) (by simp))) ?_;refine a_z ?_;refine af_ ?_;rw[htr];exact Fin.tmpN rfl
 |succ n=>
  obtain⟨X,hX⟩:∃X,X=x.take (n+1):=⟨_,rfl⟩;have hXl:X.length=n+1:=by rw[hX];simp;omega
  have hXn:rE X≠[]:=fun e=>by have:=congrArg List.length e;simp[hXl] at this
  have e4:(rE x).take (n+1)=rE X:=by rw[rE_take,hX]
  have hXn':(rE x).take (n+1)≠[]:=by rw[e4];exact hXn
  refine s_r 5 ?_;refine a_2 ?_;refine o_0 (.sa_h rfl rfl (h:=n+1) rfl (by simp;omega) te_35.h (ko_ _)) ?_;refine o_1 (.append_e rfl rfl rfl te_35.h rfl rfl rfl (.arr (by rw[e4];exact ko_ _)) (by first|assumption|(simp;done)) TZ.h rfl TB.h d_o (by first|(simp[maxLen];done)|(simp[maxLen];omega))) ?_;refine a_z ?_;refine af_ ?_;rw[htr,←hX,←e4];exact Fin.tmpS rfl rfl rfl rfl (by rw[e4];exact dA_ _)
theorem fs_SameP(l:List Rat)(x:List RQ)(hx:okX x)(h:trimQ (vR x)=l)(hs:bdL l 68719476736)(hl:x.length≤1099511627776):FS 13 [.arr (pE l),.arr (rE x)] (bln true):=by
 have hll:l.length≤x.length:=by rw[←h];have:=a8_ (vR x);simpa using this
 refine f_c Tryz.func13 ?_;refine r_z 1 ?_;refine r_c 5 (eI_ x hl) ?_;refine c_s (fs_Alike l (trimR x) (okX_trim hx) ((qr_ x).trans h) hs (by omega)) ?_;refine a_z ?_;exact af_ (t_e (ad_ _))
def oS(t n:Nat)(fr:Fr):List RQ→AState
 |[]=>⟨(t,.emp)::fr,[],1,n⟩
 |y::Y=>⟨(t,.lsl 1 0 (Y.length+1) none 4)::fr,[(1,some ⟨51,4,rE (y::Y)⟩)],2,n⟩
theorem fO_(t n:Nat)(fr:Fr):oS t n fr []=⟨(t,.emp)::fr,[],1,n⟩:=rfl
theorem bY_(t n:Nat)(fr:Fr)(y:RQ)(Y:List RQ):oS t n fr (y::Y)=⟨(t,.lsl 1 0 (Y.length+1) none 4)::fr,[(1,some ⟨51,4,rE (y::Y)⟩)],2,n⟩:=rfl
def rP(v:List Rat):List RQ:=v.map rq
theorem cF_(v:List Rat):okX (rP v):=fun y hy=>by obtain⟨q,_,rfl⟩:=List.mem_map.1 hy;exact du_ q
theorem vR_rP(v:List Rat):vR (rP v)=v:=by
 unfold vR rP;rw[List.map_map];exact List.map_id' v
@[simp] theorem cC_ (v:List Rat):(rP v).length=v.length:=by simp[rP]
theorem gh_(v:List Rat):trimR (rP v)=rP (trimQ v):=by
 unfold trimR;rw[vR_rP,rP,←List.map_take,←im_];rfl
theorem gf_{x:List RQ}{i:Nat}(h:i< x.length):∃y,x[i]?=some y∧y.1=coP (vR x) i:=by
 refine⟨_,List.getElem?_eq_getElem h,?_⟩;unfold coP vR;rw[List.getD_eq_getElem?_getD,List.getElem?_map,List.getElem?_eq_getElem h];rfl
theorem vR_bd{x:List RQ}{s:Nat}(h:bdL (vR x) s){y:RQ}{i:Nat}(hy:x[i]?=some y):qs y.1≤s:=h _ (List.mem_map.2 ⟨y,List.mem_of_getElem? hy,rfl⟩)
theorem take_succ'{V:List Rat}{j:Nat}(h:j< V.length):V.take (j+1)=V.take j++[coP V j]:=bm_ (bw_ h)
theorem gA_(x:List RQ)(k:RQ)(s:Nat)(hx:okX x)(hk:rok k)(hs:bdL (vR x) s)(hlim:s+qs k.1≤1099511627776)(hl:x.length≤1000000):FS 51 [.arr (rE x),.agg (rC k)] (.arr (rE (rP (aN_ (vR x) k.1)))):=by
 obtain⟨V,hV⟩:∃V,V=tabP (vR x).length (fun i=>coP (vR x) i* k.1):=⟨_,rfl⟩;refine f_c Tryz.func51 ?_;have hkc:Closed (.aptr [rC k] 0 0):=aL_ (b8_ k);refine r_z 2 ?_;refine AWp.ent (st':=⟨[(3,.aptr [rC k] 0 0),(0,.arr (rE x))],[],1,24⟩) ?_ ?_;have:=b8_ k;exact s_f [];refine r_z 1 ?_;refine ab_ (r_z 1 ?_);have hVl:V.length=x.length:=by rw[hV];simp
 refine aw_ (fun _:Unit=>oS 5 24 [(3,.aptr [rC k] 0 0),(0,.arr (rE x))] (rP V)) (fun _=>True) ?_ ?_;refine ae_ (aq_ (fun j:Nat=>oS 5 24 [(6,i64 ((j:Nat):Int)),(3,.aptr [rC k] 0 0),(0,.arr (rE x))] (rP (V.take j))) (fun j=>V.length- j) (fun j=>j≤V.length) 0 (Nat.zero_le _) ?_ ?_);show SEnt _ (oS _ _ _ []);rw[fO_];exact s_e [];rintro j hj;by_cases hlt:j< V.length;obtain⟨y,hy,hyv⟩:=gf_ (x:=x) (i:=j) (by omega);have hyb:=vR_bd hs hy;have hyo:=hx y (List.mem_of_getElem? hy);have hgt:(rE x)[((j:Nat):Int).toNat]?=some (rC y):=e0_ hy;obtain⟨c,hc⟩:∃c,c=y.1* k.1:=⟨_,rfl⟩;have hco:coP V j=c:=by rw[hV,coP_tab,if_pos (by simp;omega),←hyv,hc]
 have hm:=kH_ y k hyo hk (by omega);rw[←hc] at hm;have htk:=take_succ' hlt;rw[hco] at htk;have hrp:rP (V.take (j+1))=rP (V.take j)++[rq c]:=by rw[htk];simp[rP]
 have hQl:(rP (V.take j)).length=j:=by simp;omega
 cases hQ:rP (V.take j) with
 |nil=>
  rw[hQ,List.nil_append] at hrp;simp only[fO_];refine ab_ (q_z 4 ?_);refine cT (ah_ (ab_ (ae_ (r_d hmix 10 ?_))));refine a_3 ?_;refine i_x hgt ?_;refine l_x hgt ?_;refine c_s (hm) ?_;refine a_3 ?_;refine al_ (n_k ?_);refine r_m 3 ?_;refine a_z ?_;refine⟨j+1,by omega,hlt,?_⟩;rw[hrp,bY_];exact s_f [(1,5)]
 |cons q Q=>
  rw[hQ] at hQl;rw[hQ,List.cons_append] at hrp;simp at hQl;simp only[bY_];refine ab_ (q_z 4 ?_);refine cT (ah_ (ab_ (ae_ (r_d hmix 10 ?_))));refine a_3 ?_;refine i_x hgt ?_;refine l_x hgt ?_;refine c_s (hm) ?_;refine a_3 ?_;refine al_ (n_k ?_);refine r_m 3 ?_;refine a_z ?_;refine⟨j+1,by omega,hlt,?_⟩;rw[hrp,bY_];have e:rE (q::Q)++[rC (rq c)]=rE (q::(Q++[rq c])):=by simp[rE]
  exact s_x [(1,5)] (fun hs=>au_f) (fun hs=>e_9) e_1
 have hge:j=V.length:=by omega
 subst hge;rw[List.take_length];cases hQ:rP V with
 |nil=>
  simp only[fO_];refine ab_ (q_z 4 ?_);refine cF (ao_ ⟨(),trivial,?_⟩);exact s_e []
 |cons q Q=>
  simp only[bY_];refine ab_ (q_z 4 ?_);refine cF (ao_ ⟨(),trivial,?_⟩);exact s_f [(1,5)]
 rintro _ _;have htr:=eI_ (rP V) (by simp;omega);rw[gh_] at htr;cases hQ:rP V with
 |nil=>
  rw[hQ] at htr;simp only[fO_];refine r_c 3 (htr) ?_;refine a_z ?_;refine af_ (aD_ rfl ?_ ?_);rw[hV];rfl;exact aQ_ _
 |cons q Q=>
  rw[hQ] at htr;simp only[bY_];refine s_r 3 ?_;refine a_1 ?_;refine o_1 (.callS1 rfl rfl rfl (.shut rfl d_n (.nil)) rfl ((FSpec.argE htr (by rw[List.drop_zero];exact List.take_of_length_le (by simp))))) ?_;refine a_z ?_;refine af_ (aD_ rfl ?_ ?_);rw[hV];rfl;exact aQ_ _
theorem l0_(x:List RQ)(s:Nat)(hx:okX x)(hs:bdL (vR x) s)(hlim:s+64≤1099511627776)(hl:x.length≤1000000):FS 122 [.arr (rE x)] (.arr (rE (rP (am_ (vR x))))):=by
 obtain⟨V,hV⟩:∃V,V=tabP ((vR x).length+1) (fun i=>if i=0 then 0 else coP (vR x) (i- 1) / ((i:Nat):Int)):=⟨_,rfl⟩;refine f_c Tryz.func122 ?_;have hi0:FS 49 [i64 0] (.agg (rC (rq 0))):=e8_ 0 (by decide);refine r_z 1 ?_;refine r_c 3 (hi0) ?_;refine a_z ?_;refine ab_ (r_z 1 ?_);have hVl:V.length=x.length+1:=by rw[hV];simp
 refine aw_ (fun _:Unit=>oS 3 26 [(0,.arr (rE x))] (rP V)) (fun _=>True) ?_ ?_;refine ae_ (aq_ (fun j:Nat=>oS 3 26 [(4,i64 ((j:Nat):Int)),(0,.arr (rE x))] (rP (V.take (j+1)))) (fun j=>x.length- j) (fun j=>j≤x.length) 0 (Nat.zero_le _) ?_ ?_)
 have e0:rP (V.take (0+1))=[rq 0]:=by
  rw[take_succ' (by omega),hV,coP_tab,if_pos (by simp),if_pos rfl,List.take_zero];rfl
 show SEnt _ (oS _ _ _ (rP (V.take (0+1))));rw[e0,bY_];exact s_f [(1,3)];rintro j hj;have hQl:(rP (V.take (j+1))).length=j+1:=by simp;omega
 by_cases hlt:j< x.length;obtain⟨y,hy,hyv⟩:=gf_ (x:=x) (i:=j) hlt;have hyb:=vR_bd hs hy;have hyo:=hx y (List.mem_of_getElem? hy);have hgt:(rE x)[((j:Nat):Int).toNat]?=some (rC y):=e0_ hy;obtain⟨c,hc⟩:∃c,c=y.1/ ((j+1:Nat):Int):=⟨_,rfl⟩
 have hco:coP V (j+1)=c:=by
  rw[hV,coP_tab,if_pos (by simp;omega),if_neg (by omega),hc,hyv];rfl
 have hi1:=e8_ ((j+1:Nat):Int) (by omega);have hn:(rq (((j+1:Nat):Int):Rat)).1≠0:=by show(((j+1:Nat):Int):Rat)≠0;exact fun e=>by have:=Rat.intCast_inj.1 (e.trans (by rfl:(0:Rat)=((0:Int):Rat)));omega
 have hm:=fs_rDiv y (rq (((j+1:Nat):Int):Rat)) hyo (du_ _) hn (by have:=hY_ (j+1) (by omega);show qs y.1+qs (((j+1:Nat):Int):Rat)≤_;omega);rw[show y.1/ (rq (((j+1:Nat):Int):Rat)).1=c by rw[hc];rfl] at hm;have htk:=take_succ' (V:=V) (j:=j+1) (by omega);rw[hco] at htk;have hrp:rP (V.take (j+1+1))=rP (V.take (j+1))++[rq c]:=by rw[htk];simp[rP]
 cases hQ:rP (V.take (j+1)) with
 |nil=>rw[hQ] at hQl;simp at hQl
 |cons q Q=>
  rw[hQ] at hQl;rw[hQ,List.cons_append] at hrp;simp at hQl;simp only[bY_];refine ab_ (q_z 4 ?_);refine cT (ah_ (ab_ (ae_ (r_d hmix 12 ?_))));refine a_3 ?_;refine i_x hgt ?_;refine l_x hgt ?_;refine c_s (hi1) ?_;refine c_s (hm) ?_;refine a_3 ?_;refine al_ (n_k ?_);refine r_m 3 ?_;refine a_z ?_;refine⟨j+1,by omega,hlt,?_⟩;rw[hrp,bY_];have e:rE (q::Q)++[rC (rq c)]=rE (q::(Q++[rq c])):=by simp[rE]
  exact s_x [(1,3)] (fun hs=>au_f) (fun hs=>e_9) e_1
 have hge:V.take (j+1)=V:=List.take_of_length_le (by omega);rw[hge];cases hQ:rP V with
 |nil=>rw[hge,hQ] at hQl;simp at hQl
 |cons q Q=>
  simp only[bY_];refine ab_ (q_z 4 ?_);refine cF (ao_ ⟨(),trivial,?_⟩);exact s_f [(1,3)]
 rintro _ _;have htr:=eI_ (rP V) (by simp;omega);rw[gh_] at htr;cases hQ:rP V with
 |nil=>have:=congrArg List.length hQ;simp[hVl] at this
 |cons q Q=>
  rw[hQ] at htr;simp only[bY_];refine s_r 3 ?_;refine a_1 ?_;refine o_1 (.callS1 rfl rfl rfl (.shut rfl d_n (.nil)) rfl ((FSpec.argE htr (by rw[List.drop_zero];exact List.take_of_length_le (by simp))))) ?_;refine a_z ?_;refine af_ (aD_ rfl ?_ ?_);rw[hV];rfl;exact aQ_ _
@[simp] theorem hx_ (x:List RQ):(trimR x).length=(trimQ (vR x)).length:=by rw[←qr_,dp_]
theorem dQ_(x:List RQ)(hl:x.length≤1000000):FS 32 [.arr (rE x)] (i64 (degP (vR x))):=by
 have htl:=a8_ (vR x);rw[dp_,←hx_] at htl;refine f_c Tryz.func32 ?_;refine r_z 1 ?_;refine r_c 5 (eI_ x (by omega)) ?_;refine a_z ?_;exact af_ (aD_ rfl (by rw[hx_];rfl) (ad_ _))
theorem hC_(q:Rat):FS 120 [.agg (rC (rq q))] (.arr (rE (rP (bo_ q)))):=by
 have htr:=eI_ (rP [q]) (by simp);rw[gh_] at htr;refine f_c Tryz.func120 ?_;refine r_z 2 ?_;refine s_r 4 ?_;refine a_2 ?_;refine o_1 (.callS1 rfl rfl rfl (.shut rfl d_n (.nil)) rfl ((FSpec.argE htr (by rw[List.drop_zero];exact List.take_of_length_le (by simp))))) ?_;refine a_z ?_;exact af_ (t_e (aQ_ _))
theorem gB_(x y:List RQ)(s t:Nat)(hx:okX x)(hy:okX y)(hs:bdL (vR x) s)(ht:bdL (vR y) t)(hlim:s+t+64≤1099511627776)(hxl:x.length≤1000000)(hyl:y.length≤1000000):FS 50 [.arr (rE x),.arr (rE y)] (.arr (rE (rP (addP (vR x) (vR y))))):=by
 obtain⟨V,hV⟩:∃V,V=tabP (max (vR x).length (vR y).length) (fun i=>coP (vR x) i+coP (vR y) i):=⟨_,rfl⟩;have hi0:FS 49 [i64 0] (.agg (rC (rq 0))):=e8_ 0 (by decide);have q0:qs (rq 0).1≤64:=by decide
 refine f_c Tryz.func50 ?_;refine r_z 1 ?_;refine r_z 1 ?_;refine ab_ (r_z 1 ?_);have hVl:V.length=max x.length y.length:=by rw[hV];simp
 refine aw_ (fun _:Unit=>oS 5 47 [(0,.arr (rE x)),(1,.arr (rE y))] (rP V)) (fun _=>True) ?_ ?_;refine ae_ (aq_ (fun j:Nat=>oS 5 47 [(6,i64 ((j:Nat):Int)),(0,.arr (rE x)),(1,.arr (rE y))] (rP (V.take j))) (fun j=>V.length- j) (fun j=>j≤V.length) 0 (Nat.zero_le _) ?_ ?_);show SEnt _ (oS _ _ _ []);rw[fO_];exact s_e [];rintro j hj;have hQl:(rP (V.take j)).length=j:=by simp;omega
 by_cases hjx:j< x.length;by_cases hjy:j< y.length;obtain⟨a,ha,hav⟩:=gf_ (x:=x) (i:=j) hjx;have hab:=vR_bd hs ha;have hao:=hx a (List.mem_of_getElem? ha);have hgx:(rE x)[((j:Nat):Int).toNat]?=some (rC a):=e0_ ha;obtain⟨b,hb,hbv⟩:=gf_ (x:=y) (i:=j) hjy;have hbb:=vR_bd ht hb;have hbo:=hy b (List.mem_of_getElem? hb);have hgy:(rE y)[((j:Nat):Int).toNat]?=some (rC b):=e0_ hb;obtain⟨c,hc⟩:∃c,c=a.1+b.1:=⟨_,rfl⟩;have hco:coP V j=c:=by rw[hV,coP_tab,if_pos (by simp;omega),←hav,←hbv,hc]
 have m1:=iW_ (rq 0) a (du_ _) hao (by omega);rw[show(rq 0).1+a.1=a.1 from Rat.zero_add _] at m1;have m2:=iW_ (rq a.1) b (du_ _) hbo (by show qs a.1+qs b.1≤_;omega);rw[show(rq a.1).1+b.1=c by rw[hc];rfl] at m2;have htk:=take_succ' (V:=V) (j:=j) (by omega);rw[hco] at htk;have hrp:rP (V.take (j+1))=rP (V.take j)++[rq c]:=by rw[htk];simp[rP]
 cases hQ:rP (V.take j) with
 |nil=>
  rw[hQ,List.nil_append] at hrp;simp only[fO_];refine ab_ (q_z 10 ?_);refine cT (ah_ (ab_ (ae_ (r_c 3 (hi0) ?_))));refine a_z ?_;refine ab_ (q_z 4 ?_);refine cT (r_d hmix 7 ?_);refine a_3 ?_;refine i_x hgx ?_;refine l_x hgx ?_;refine c_s (m1) ?_;refine a_1 ?_;refine al_ (n_k ?_);refine ab_ (q_z 4 ?_);refine cT (r_d hmix 7 ?_);refine a_3 ?_;refine i_x hgy ?_;refine l_x hgy ?_;refine c_s (m2) ?_;refine a_1 ?_;refine al_ (n_k ?_);refine r_m 5 ?_;refine a_z ?_;refine r_m 3 ?_;refine a_z ?_;refine⟨j+1,by omega,by omega,?_⟩;rw[hrp,bY_];exact s_f [(1,5)]
 |cons q Q=>
  rw[hQ] at hQl;rw[hQ,List.cons_append] at hrp;simp at hQl;simp only[bY_];refine ab_ (q_z 10 ?_);refine cT (ah_ (ab_ (ae_ (r_c 3 (hi0) ?_))));refine a_z ?_;refine ab_ (q_z 4 ?_);refine cT (r_d hmix 7 ?_);refine a_3 ?_;refine i_x hgx ?_;refine l_x hgx ?_;refine c_s (m1) ?_;refine a_1 ?_;refine al_ (n_k ?_);refine ab_ (q_z 4 ?_);refine cT (r_d hmix 7 ?_);refine a_3 ?_;refine i_x hgy ?_;refine l_x hgy ?_;refine c_s (m2) ?_;refine a_1 ?_;refine al_ (n_k ?_);refine r_m 5 ?_;refine a_z ?_;refine r_m 3 ?_;refine a_z ?_;refine⟨j+1,by omega,by omega,?_⟩;rw[hrp,bY_];have e:rE (q::Q)++[rC (rq c)]=rE (q::(Q++[rq c])):=by simp[rE]
  exact s_x [(1,5)] (fun hs=>au_f) (fun hs=>e_9) e_1
 obtain⟨a,ha,hav⟩:=gf_ (x:=x) (i:=j) hjx;have hab:=vR_bd hs ha;have hao:=hx a (List.mem_of_getElem? ha);have hgx:(rE x)[((j:Nat):Int).toNat]?=some (rC a):=e0_ ha;obtain⟨c,hc⟩:∃c,c=a.1:=⟨_,rfl⟩;have hco:coP V j=c:=by rw[hV,coP_tab,if_pos (by simp;omega),←hav,dh_ (p:=vR y) (by simp;omega),Rat.add_zero,hc]
 have m1:=iW_ (rq 0) a (du_ _) hao (by omega);rw[show(rq 0).1+a.1=a.1 from Rat.zero_add _] at m1;rw[←hc] at m1;have htk:=take_succ' (V:=V) (j:=j) (by omega);rw[hco] at htk;have hrp:rP (V.take (j+1))=rP (V.take j)++[rq c]:=by rw[htk];simp[rP]
 cases hQ:rP (V.take j) with
 |nil=>
  rw[hQ,List.nil_append] at hrp;simp only[fO_];refine ab_ (q_z 10 ?_);refine cT (ah_ (ab_ (ae_ (r_c 3 (hi0) ?_))));refine a_z ?_;refine ab_ (q_z 4 ?_);refine cT (r_d hmix 7 ?_);refine a_3 ?_;refine i_x hgx ?_;refine l_x hgx ?_;refine c_s (m1) ?_;refine a_1 ?_;refine al_ (n_k ?_);refine ab_ (q_z 4 ?_);refine cF (ah_ (r_m 5 ?_));refine a_z ?_;refine r_m 3 ?_;refine a_z ?_;refine⟨j+1,by omega,by omega,?_⟩;rw[hrp,bY_];exact s_f [(1,5)]
 |cons q Q=>
  rw[hQ] at hQl;rw[hQ,List.cons_append] at hrp;simp at hQl;simp only[bY_];refine ab_ (q_z 10 ?_);refine cT (ah_ (ab_ (ae_ (r_c 3 (hi0) ?_))));refine a_z ?_;refine ab_ (q_z 4 ?_);refine cT (r_d hmix 7 ?_);refine a_3 ?_;refine i_x hgx ?_;refine l_x hgx ?_;refine c_s (m1) ?_;refine a_1 ?_;refine al_ (n_k ?_);refine ab_ (q_z 4 ?_);refine cF (ah_ (r_m 5 ?_));refine a_z ?_;refine r_m 3 ?_;refine a_z ?_;refine⟨j+1,by omega,by omega,?_⟩;rw[hrp,bY_];have e:rE (q::Q)++[rC (rq c)]=rE (q::(Q++[rq c])):=by simp[rE]
  exact s_x [(1,5)] (fun hs=>au_f) (fun hs=>e_9) e_1
 by_cases hjy:j< y.length;obtain⟨b,hb,hbv⟩:=gf_ (x:=y) (i:=j) hjy;have hbb:=vR_bd ht hb;have hbo:=hy b (List.mem_of_getElem? hb);have hgy:(rE y)[((j:Nat):Int).toNat]?=some (rC b):=e0_ hb;obtain⟨c,hc⟩:∃c,c=b.1:=⟨_,rfl⟩;have hco:coP V j=c:=by rw[hV,coP_tab,if_pos (by simp;omega),dh_ (p:=vR x) (by simp;omega),←hbv,Rat.zero_add,hc]
 have m2:=iW_ (rq 0) b (du_ _) hbo (by omega);rw[show(rq 0).1+b.1=c by rw[hc];exact Rat.zero_add _] at m2;have htk:=take_succ' (V:=V) (j:=j) (by omega);rw[hco] at htk;have hrp:rP (V.take (j+1))=rP (V.take j)++[rq c]:=by rw[htk];simp[rP]
 cases hQ:rP (V.take j) with
 |nil=>
  rw[hQ,List.nil_append] at hrp;simp only[fO_];refine ab_ (q_z 10 ?_);refine cT (ah_ (ab_ (ae_ (r_c 3 (hi0) ?_))));refine a_z ?_;refine ab_ (q_z 4 ?_);refine cF (ah_ (ab_ (q_z 4 ?_)));refine cT (r_d hmix 7 ?_);refine a_3 ?_;refine i_x hgy ?_;refine l_x hgy ?_;refine c_s (m2) ?_;refine a_1 ?_;refine al_ (n_k ?_);refine r_m 5 ?_;refine a_z ?_;refine r_m 3 ?_;refine a_z ?_;refine⟨j+1,by omega,by omega,?_⟩;rw[hrp,bY_];exact s_f [(1,5)]
 |cons q Q=>
  rw[hQ] at hQl;rw[hQ,List.cons_append] at hrp;simp at hQl;simp only[bY_];refine ab_ (q_z 10 ?_);refine cT (ah_ (ab_ (ae_ (r_c 3 (hi0) ?_))));refine a_z ?_;refine ab_ (q_z 4 ?_);refine cF (ah_ (ab_ (q_z 4 ?_)));refine cT (r_d hmix 7 ?_);refine a_3 ?_;refine i_x hgy ?_;refine l_x hgy ?_;refine c_s (m2) ?_;refine a_1 ?_;refine al_ (n_k ?_);refine r_m 5 ?_;refine a_z ?_;refine r_m 3 ?_;refine a_z ?_;refine⟨j+1,by omega,by omega,?_⟩;rw[hrp,bY_];have e:rE (q::Q)++[rC (rq c)]=rE (q::(Q++[rq c])):=by simp[rE]
  exact s_x [(1,5)] (fun hs=>au_f) (fun hs=>e_9) e_1
 have hge:V.take j=V:=List.take_of_length_le (by omega);rw[hge];cases hQ:rP V with
 |nil=>
  simp only[fO_];refine ab_ (q_z 10 ?_);refine cF (ao_ ⟨(),trivial,?_⟩);exact s_e []
 |cons q Q=>
  simp only[bY_];refine ab_ (q_z 10 ?_);refine cF (ao_ ⟨(),trivial,?_⟩);exact s_f [(1,5)]
 rintro _ _;have htr:=eI_ (rP V) (by simp;omega);rw[gh_] at htr;cases hQ:rP V with
 |nil=>
  rw[hQ] at htr;simp only[fO_];refine r_c 3 (htr) ?_;refine a_z ?_;refine af_ (aD_ rfl ?_ ?_);rw[hV];rfl;exact aQ_ _
 |cons q Q=>
  rw[hQ] at htr;simp only[bY_];refine s_r 3 ?_;refine a_1 ?_;refine o_1 (.callS1 rfl rfl rfl (.shut rfl d_n (.nil)) rfl ((FSpec.argE htr (by rw[List.drop_zero];exact List.take_of_length_le (by simp))))) ?_;refine a_z ?_;refine af_ (aD_ rfl ?_ ?_);rw[hV];rfl;exact aQ_ _
theorem pr_:rq (((-1:Int)):Rat)=rq (-1):=rfl
theorem fs_rSubP(x y:List RQ)(s t:Nat)(hx:okX x)(hy:okX y)(hs:bdL (vR x) s)(ht:bdL (vR y) t)(ht1:1≤t)(hlim:s+t+128≤1099511627776)(hxl:x.length≤1000000)(hyl:y.length≤1000000):FS 123 [.arr (rE x),.arr (rE y)] (.arr (rE (rP (subP (vR x) (vR y))))):=by
 have h1:=e8_ (-1) (by decide);rw[pr_] at h1;have q1:qs (rq (-1)).1≤64:=by decide
 have h2:=gA_ y (rq (-1)) t hy (du_ _) ht (by omega) hyl
 have hb:bdL (vR (rP (aN_ (vR y) (rq (-1)).1))) t:=by
  rw[vR_rP];exact sU_ ht ht1
 have hlen:(rP (aN_ (vR y) (rq (-1)).1)).length≤y.length:=by
  have:=a8_ (tabP (vR y).length fun i=>coP (vR y) i* (rq (-1)).1);rw[cC_];unfold aN_;simp at this⊢;exact this
 have h3:=gB_ x (rP (aN_ (vR y) (rq (-1)).1)) s t hx (cF_ _) hs hb (by omega) hxl (by omega);rw[vR_rP] at h3;refine f_c Tryz.func123 ?_;refine r_z 1 ?_;refine r_c 6 (h1) ?_;refine c_s (h2) ?_;refine c_s (h3) ?_;refine a_z ?_;exact af_ (t_e (aQ_ _))
theorem pw_{x y:List RQ}(hx:okX x)(hy:okX y):okX (x++y):=fun z hz=>(List.mem_append.1 hz).elim (hx z) (hy z)
theorem re_(n:Nat):okX (List.replicate n r0):=fun z hz=>by rw[List.eq_of_mem_replicate hz];exact rok_r0
theorem lq_(x y:List RQ):vR (x++y)=vR x++vR y:=by simp[vR]
theorem nN_(n:Nat):vR (List.replicate n r0)=List.replicate n 0:=by simp[vR,r0]
def zR4:List AV:=[i64 0,.emp,i64 0,.emp]
theorem le_zR4:LeL zR4 (rC r0):=by
 rw[show rC r0=[i64 0,.arr [],i64 0,.arr []] from rC_r0];exact .cons (.refl _) (.cons .emp (.cons (.refl _) (.cons .emp .nil)))
theorem p6_:∀c∈zR4,Closed c:=aa_ (ad_ _) (aa_ bs_ (aa_ (ad_ _) (aa_ bs_ ac_)))
theorem jT_(L:List RQ):∀n,LeLL (List.replicate n zR4++rE L) (rE (List.replicate n r0++L))
 |0=>LeLL.refl _
 |n+1=> .cons le_zR4 (jT_ L n)
theorem ms_(n:Nat)(L:List RQ):Closed (.arr (List.replicate n zR4++rE L)):=aB_ fun c hc=>(List.mem_append.1 hc).elim (fun h=>by rw[List.eq_of_mem_replicate h];exact p6_) (dA_ L c)
theorem FSpec.zerosR{P:Program}{f n:Nat}{L:List RQ}{a r:AV}(h:FSpec P f [a,.arr (rE (List.replicate n r0++L))] r)(ha:Closed a):FSpec P f [a,.arr (List.replicate n zR4++rE L)] r:=
 h.weak (.cons (Le.refl _) (.cons (Le.arr (jT_ L n)) .nil)) (aa_ ha (aa_ (ms_ n L) ac_))
theorem zR4_one(n:Nat):(List.replicate n zR4).all (·.all AV.one)=true:=by
 simp only[List.all_replicate];cases n <;> rfl
theorem kG_(x y:List RQ)(s t B:Nat)(hx:okX x)(hy:okX y)(hs:bdL (vR x) s)(ht:bdL (vR y) t)(hs1:1≤s)(hB:∀n,n≤y.length→bdL (mR (vR x) (vR y) n) B)(hlim:s+t+B+64≤1099511627776)(hxl:x.length≤100000)(hyl:y.length≤100000):FS 121 [.arr (rE x),.arr (rE y)] (.arr (rE (rP (mulP (vR x) (vR y))))):=by
 obtain⟨m,hm⟩:∃m,m=mR (vR x) (vR y):=⟨_,rfl⟩;rw[←hm] at hB;refine f_c Tryz.func121 ?_;refine r_z 1 ?_;refine r_z 1 ?_;refine ab_ (r_z 1 ?_);refine aw_ (fun _:Unit=>⟨[(5,.arr (rE (rP (m y.length)))),(0,.arr (rE x)),(1,.arr (rE y))],[],1,25⟩) (fun _=>True) ?_ ?_;refine ae_ (aq_ (fun j:Nat=>⟨[(6,i64 ((j:Nat):Int)),(5,.arr (rE (rP (m j)))),(0,.arr (rE x)),(1,.arr (rE y))],[],1,25⟩) (fun j=>y.length- j) (fun j=>j≤y.length) 0 (Nat.zero_le _) ?_ ?_);rw[hm];exact s_e [];rintro j hj;by_cases hlt:j< y.length
 ·obtain⟨b,hb,hbv⟩:=gf_ (x:=y) (i:=j) hlt
  have hbb:=vR_bd ht hb;have hbo:=hy b (List.mem_of_getElem? hb);have hgt:(rE y)[((j:Nat):Int).toNat]?=some (rC b):=e0_ hb;have h1:=gA_ x b s hx hbo hs (by omega) (by omega);have hl1:=mR_len (vR x) (vR y) j;rw[←hm,dp_] at hl1;have hl2:=bG_ (vR x) b.1;rw[dp_] at hl2
  have hz:bdL (vR (List.replicate j r0++rP (aN_ (vR x) b.1))) (s+qs b.1):=by
   rw[lq_,nN_,vR_rP];intro q hq;rcases List.mem_append.1 hq with h|h
   rw[List.eq_of_mem_replicate h];have:qs 0=1:=by decide
   omega;exact qe_ hs hs1 q h
  have h2:=gB_ (rP (m j)) (List.replicate j r0++rP (aN_ (vR x) b.1)) B (s+qs b.1) (cF_ _) (pw_ (re_ _) (cF_ _)) (by rw[vR_rP];exact hB j (by omega)) hz (by omega) (by rw[cC_];omega) (by rw[List.length_append,List.length_replicate,cC_];omega)
  have hnx:addP (vR (rP (m j))) (vR (List.replicate j r0++rP (aN_ (vR x) b.1)))=m (j+1):=by
   rw[vR_rP,lq_,nN_,vR_rP,hm,mR,←hbv];rfl
  rw[hnx] at h2;refine ab_ (q_z 4 ?_);refine cT (ah_ (ab_ (ae_ ?_)));have h3:=FSpec.zerosR h2 (aQ_ _);refine r_d hmix 12 ?_;refine a_6 ?_;refine i_x hgt ?_;refine l_x hgt ?_;refine c_s (h1) ?_;refine o_2 (.append_l rfl rfl rfl te_35.h rfl rfl rfl rfl rfl d_o (zR4_one _) (cD_ _) rfl (.arr (ko_ _)) TZ.h rfl TB.h d_o (by first|(simp[maxLen];done)|(simp[maxLen];omega))) ?_;refine o_1 (.callS1 rfl rfl rfl (.keep (.shut rfl d_n (.nil))) rfl ((FSpec.argE2 h3 (by rw[List.drop_zero];exact List.take_of_length_le (by simp))))) ?_;refine a_1 ?_;refine al_ (n_k ?_);refine r_m 3 ?_;refine a_z ?_;refine⟨j+1,by omega,hlt,?_⟩;exact s_e []
 have hge:j=y.length:=by omega
 subst hge;refine ab_ (q_z 4 ?_);refine cF (ao_ ⟨(),trivial,?_⟩);exact s_e [];rintro _ _;refine r_z 2 ?_;refine af_ ?_;have e:m y.length=mulP (vR x) (vR y):=by rw[hm,←oq_,dp_]
 rw[e];exact t_e (aQ_ _)
def dSt(d:List Rat)(s:List Rat×List RQ):List Rat×List RQ:=
 (addP s.1 (shP ((vR s.2).length- d.length) [leadP (vR s.2) / leadP d]),rP (subP (vR s.2) (mulP d (shP ((vR s.2).length- d.length) [leadP (vR s.2) / leadP d]))))
structure DInv (p d:List Rat)(t L:Nat)(s:List Rat×List RQ):Prop where
 ok:okX s.2
 tr:trimQ (vR s.2)=vR s.2
 bd:∃b,1≤b∧bdL (vR s.2) b∧bdL s.1 b∧(b+2* t+3) * 2^ s.2.length≤L
 ln:s.2.length≤p.length
 lq:s.1.length≤p.length
 ev:∀x,evalP p x=evalP s.1 x* evalP d x+evalP (vR s.2) x
theorem DInv.step{p d:List Rat}{t L:Nat}{s:List Rat×List RQ}(h:DInv p d t L s)(hd:trimQ d=d)(hd0:d≠[])(hdt:bdL d t)(ht:1≤t)(hl:d.length≤s.2.length):DInv p d t L (dSt d s)∧(dSt d s).2.length< s.2.length:=by
 obtain⟨q,X⟩:=s;obtain⟨ok,tr,⟨b,b1,bx,bq,hb⟩,ln,lq,ev⟩:=h;simp only at *
 have hdl:=List.length_pos_iff.2 hd0;have hlt:=step_len tr hd hd0 (by rw[dp_];exact hl);obtain⟨s1,s2,s3⟩:=step_bd bx hdt b1 ht hd0 ((vR X).length- d.length);obtain⟨a,ha⟩:∃a,a=leadP (vR X) / leadP d:=⟨_,rfl⟩;unfold dSt;simp only;rw[dp_] at hlt s2 s3⊢;rw[←ha] at hlt s1 s2 s3⊢;refine⟨⟨cF_ _,?_,⟨2* b+2* t+3,by omega,?_,?_,?_⟩,?_,?_,?_⟩,?_⟩;rw[vR_rP];exact qy_ _ _;rw[vR_rP];exact s3;have h1:bdL [a] (b+t):=fun x hx=>by rw[List.mem_singleton.1 hx];exact s1
 exact ii_ (pf_ bq (bdL_sh h1 (by omega) _) b1 (by omega)) (by omega);simp only[cC_];obtain⟨n,hn⟩:∃n,X.length=n+1:=⟨X.length- 1,by omega⟩;have h1:2^ (subP (vR X) (mulP d (shP (X.length- d.length) [a]))).length≤2^ n:=Nat.pow_le_pow_right (by decide) (by omega);have h2:=Nat.mul_le_mul_left (2* b+2* t+3+2* t+3) h1
 have h3:(b+2* t+3) * 2^ X.length=(2* b+2* t+3+2* t+3) * 2^ n:=by
  rw[hn,Nat.pow_succ,show 2* b+2* t+3+2* t+3=(b+2* t+3) * 2 by omega,Nat.mul_assoc,Nat.mul_comm 2 (2^ n)]
 omega;simp only[cC_];omega;have h1:=dM_ q (shP (X.length- d.length) [a]);rw[fn_] at h1;simp at h1⊢;omega;intro x;rw[vR_rP,er_,cX_,bN_,ev x];grind;simp only[cC_];exact hlt


end Go.Proofs.YtjkddcfoolilbaaGreatDoor
