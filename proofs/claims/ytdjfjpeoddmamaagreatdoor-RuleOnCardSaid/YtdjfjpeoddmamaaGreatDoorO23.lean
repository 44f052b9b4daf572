/- Part O23 of the proof. -/
import Derived.Test.YtdjfjpeoddmamaaGreatDoorO22
import Derived.Lib.UnsafeStr
import Derived.Lib.Builder
import Derived.Shelf.RegionOpenPlain
import Derived.Lib.Strings
import Derived.Lib.Slices
import Derived.Lib.Walk
set_option linter.all false
namespace Go.Proofs.YtdjfjpeoddmamaaGreatDoor
open Go.Abs
set_option maxRecDepth 20000
theorem zl_of{z:Int}{k:Nat}(h:bl z.natAbs≤k)(hk:k≤8796093022208):zl z:=Nat.le_trans h hk
theorem bF_(n:Int)(h: -9223372036854775808≤n∧n≤9223372036854775807):FS 112 [i64 n] (.agg (rC (rq (n:Rat)))):=by
 rw[rC_rq];refine f_c Tryz.func112 ?_;refine r_z 1 ?_;refine r_c 5 (eG_ n h) ?_;refine c_s (eG_ 1 (by decide)) ?_;refine a_z ?_;exact af_ (c_e (au_ fun c hc=>(List.mem_append.1 hc).elim (bL_ _ c) (bL_ _ c)))
theorem fs_rOf(n d:Int)(hd:d≠0)(h: -9223372036854775808≤n∧n≤9223372036854775807)(h2: -9223372036854775808≤d∧d≤9223372036854775807):FS 119 [i64 n,i64 d] (.agg (rC (rq (Rat.divInt n d)))):=by
 have hb:∀z:Int,-9223372036854775808≤z→z≤9223372036854775807→bl z.natAbs≤4398046511104:=fun z h1 h2=>Nat.le_trans (bl_le (k:=64) (by omega)) (by decide);refine f_c Tryz.func119 ?_;refine r_z 1 ?_;refine r_c 6 (eG_ n h) ?_;refine c_s (eG_ d h2) ?_;refine c_s (iu_ n d hd (hb n h.1 h.2) (hb d h2.1 h2.2)) ?_;refine a_z ?_;exact af_ (c_e (bR_ _))
theorem mH_(n:Int):FS 321 [.agg (zZ n)] (.agg (rC (rq (n:Rat)))):=by
 rw[rC_rq];refine f_c Tryz.func321 ?_;refine r_z 2 ?_;refine aa_ (r_d hmix 4 ?_);refine c_s (eG_ 1 (by decide)) ?_;refine a_2 ?_;refine ai_ (n_k ?_);exact af_ (c_e (au_ fun c hc=>(List.mem_append.1 hc).elim (bL_ _ c) (bL_ _ c)))
theorem fs_rNum(x:RQ):FS 322 [.agg (rC x)] (.agg (zZ x.1.num)):=by
 refine f_c Tryz.func322 ?_;refine r_z 2 ?_;refine r_z 3 ?_;exact af_ (c_e (bt_ _))
theorem fs_rDen(x:RQ)(hx:rok x):FS 320 [.agg (rC x)] (.agg (zZ (x.1.den:Int))):=by
 refine f_c Tryz.func320 ?_;refine r_z 2 ?_;refine r_c 3 (c0_ x hx) ?_;refine a_z ?_;exact af_ (c_e (bt_ _))
theorem n1_(x:RQ)(hx:rok x):FS 128 [.agg (rC x)] (.agg (rC (rq (-x.1)))):=by
 rw[rC_rq,Rat.neg_num,Rat.neg_den];refine f_c Tryz.func128 ?_;refine r_z 2 ?_;refine aa_ (r_d hmix 7 ?_);refine c_s (lv_ x.1.num) ?_;refine c_s (c0_ x hx) ?_;refine a_2 ?_;refine ai_ (n_k ?_);exact af_ (c_e (au_ fun c hc=>(List.mem_append.1 hc).elim (bL_ _ c) (bL_ _ c)))
theorem sP_(x:RQ)(hx:rok x):FS 262 [.agg (rC x)] (.agg (rC (rq (absQ x.1)))):=by
 rw[rC_rq,lN_,lO_];refine f_c Tryz.func262 ?_;refine r_z 2 ?_;refine aa_ (r_d hmix 7 ?_);refine c_s (fs_ZAbs x.1.num) ?_;refine c_s (c0_ x hx) ?_;refine a_2 ?_;refine ai_ (n_k ?_);exact af_ (c_e (au_ fun c hc=>(List.mem_append.1 hc).elim (bL_ _ c) (bL_ _ c)))
theorem g3_(x:RQ):FS 166 [.agg (rC x)] (i64 (sgZ x.1.num)):=by
 refine f_c Tryz.func166 ?_;refine r_z 2 ?_;refine r_z 4 ?_;exact af_ (t_e (ad_ _))
theorem fL_(x y:RQ)(hx:rok x)(hy:rok y)(h:qs x.1+qs y.1≤1099511627776):FS 117 [.agg (rC x),.agg (rC y)] (.agg (rC (rq (x.1+y.1)))):=by
 obtain⟨a,fa⟩:=x;obtain⟨b,fb⟩:=y;simp only at h⊢;have hp:=jO_ a b;have h1:=b5_ a;have h2:=bU_ a;have h3:=b5_ b;have h4:=bU_ b;have e1:=bx_ (x:=a.num) (y:=b.den) h1 (by simpa using h4);have e2:=bx_ (x:=b.num) (y:=a.den) h3 (by simpa using h2);have e3:=hp.1;have e4:=hp.2;have hd:(a.den:Int) * b.den≠0:=by have:=gg_ a b;rw[←Int.natCast_mul];omega
 have e:a+b=Rat.divInt (a.num* b.den+b.num* a.den) (a.den* b.den):=by
  rw[jP_,←Int.natCast_mul,←Rat.divInt_ofNat]
 rw[e];have e5:bl ((a.den:Int) * b.den).natAbs≤qs a+qs b:=by rw[←Int.natCast_mul,Int.natAbs_natCast];exact e4
 refine f_c Tryz.func117 ?_;refine r_z 3 ?_;refine aa_ (r_d hmix 18 ?_);refine c_s (c0_ (b,fb) hy) ?_;refine c_s (eh_ a.num b.den (zl_of h1 (by omega)) (zl_of (by simpa using h4) (by omega))) ?_;refine c_s (c0_ (a,fa) hx) ?_;refine c_s (eh_ b.num a.den (zl_of h3 (by omega)) (zl_of (by simpa using h2) (by omega))) ?_;refine c_s (sY_ (a.num* b.den) (b.num* a.den) (zl_of e1 (by omega)) (zl_of e2 (by omega))) ?_;refine c_s (c0_ (a,fa) hx) ?_;refine c_s (c0_ (b,fb) hy) ?_;refine c_s (eh_ a.den b.den (zl_of (by simpa using h2) (by omega)) (zl_of (by simpa using h4) (by omega))) ?_;refine c_s (iu_ (a.num* b.den+b.num* a.den) (a.den* b.den) hd (by omega) (by omega)) ?_;refine a_1 ?_;refine ai_ (n_k ?_);exact af_ (c_e (bR_ _))
theorem lj_(x y:RQ)(hx:rok x)(hy:rok y)(h:qs x.1+qs y.1≤1099511627776):FS 210 [.agg (rC x),.agg (rC y)] (.agg (rC (rq (x.1- y.1)))):=by
 rw[Rat.sub_eq_add_neg];refine f_c Tryz.func210 ?_;refine r_z 3 ?_;refine aa_ (r_d hmix 5 ?_);refine c_s (n1_ y hy) ?_;refine c_s (fL_ x (rq (-y.1)) hx (aR_ _) (by simp only[rq,dG_];exact h)) ?_;refine a_1 ?_;refine ai_ (n_k ?_);exact af_ (c_e (bR_ _))
theorem dv_(x y:RQ)(hx:rok x)(hy:rok y)(h:qs x.1+qs y.1≤1099511627776):FS 118 [.agg (rC x),.agg (rC y)] (.agg (rC (rq (x.1* y.1)))):=by
 obtain⟨a,fa⟩:=x;obtain⟨b,fb⟩:=y;simp only at h⊢;have hp:=iX_ a b;have h1:=b5_ a;have h2:=bU_ a;have h3:=b5_ b;have h4:=bU_ b;have e3:=hp.1;have e4:=hp.2;have hd:(a.den:Int) * b.den≠0:=by have:=gg_ a b;rw[←Int.natCast_mul];omega
 have e:a* b=Rat.divInt (a.num* b.num) (a.den* b.den):=by
  rw[fF_,←Int.natCast_mul,←Rat.divInt_ofNat]
 rw[e];have e5:bl ((a.den:Int) * b.den).natAbs≤qs a+qs b:=by rw[←Int.natCast_mul,Int.natAbs_natCast];exact e4
 refine f_c Tryz.func118 ?_;refine r_z 3 ?_;refine aa_ (r_d hmix 12 ?_);refine c_s (eh_ a.num b.num (zl_of h1 (by omega)) (zl_of h3 (by omega))) ?_;refine c_s (c0_ (a,fa) hx) ?_;refine c_s (c0_ (b,fb) hy) ?_;refine c_s (eh_ a.den b.den (zl_of (by simpa using h2) (by omega)) (zl_of (by simpa using h4) (by omega))) ?_;refine c_s (iu_ (a.num* b.num) (a.den* b.den) hd (by omega) (by omega)) ?_;refine a_1 ?_;refine ai_ (n_k ?_);exact af_ (c_e (bR_ _))
theorem fe_(x y:RQ)(hx:rok x)(hy:rok y)(hy0:y.1≠0)(h:qs x.1+qs y.1≤1099511627776):FS 201 [.agg (rC x),.agg (rC y)] (.agg (rC (rq (x.1/ y.1)))):=by
 obtain⟨a,fa⟩:=x;obtain⟨b,fb⟩:=y;simp only at h hy0⊢;have h1:=b5_ a;have h2:=bU_ a;have h3:=b5_ b;have h4:=bU_ b;have e1:=bx_ (x:=a.num) (y:=b.den) h1 (by simpa using h4);have e2:=bx_ (x:=a.den) (y:=b.num) (by simpa using h2) h3;have hn0:b.num≠0:=fun e=>hy0 (Rat.num_eq_zero.1 e);have hd:(a.den:Int) * b.num≠0:=Int.mul_ne_zero (by have:=a.den_pos;omega) hn0;rw[eR_];refine f_c Tryz.func201 ?_;refine r_z 3 ?_;refine aa_ (r_d hmix 12 ?_);refine c_s (c0_ (b,fb) hy) ?_;refine c_s (eh_ a.num b.den (zl_of h1 (by omega)) (zl_of (by simpa using h4) (by omega))) ?_;refine c_s (c0_ (a,fa) hx) ?_;refine c_s (eh_ a.den b.num (zl_of (by simpa using h2) (by omega)) (zl_of h3 (by omega))) ?_;refine c_s (iu_ (a.num* b.den) (a.den* b.num) hd (by omega) (by omega)) ?_;refine a_1 ?_;refine ai_ (n_k ?_);exact af_ (c_e (bR_ _))
theorem jk_(x y:RQ)(hx:rok x)(hy:rok y)(h:qs x.1+qs y.1≤1099511627776):FS 39 [.agg (rC x),.agg (rC y)] (i64 (cmpQ x.1 y.1)):=by
 obtain⟨a,fa⟩:=x;obtain⟨b,fb⟩:=y;simp only at h⊢;have h1:=b5_ a;have h2:=bU_ a;have h3:=b5_ b;have h4:=bU_ b;have e1:=bx_ (x:=a.num) (y:=b.den) h1 (by simpa using h4);have e2:=bx_ (x:=b.num) (y:=a.den) h3 (by simpa using h2)
 have e:cmpQ a b=cmpZ (a.num* b.den) (b.num* a.den):=by
  rw[tE_];unfold cmpZ;obtain⟨u,hu⟩:∃u,u=a.num* (b.den:Int):=⟨_,rfl⟩;obtain⟨v,hv⟩:∃v,v=b.num* (a.den:Int):=⟨_,rfl⟩;rw[←hu,←hv];split;rfl;split <;> split <;> omega
 rw[e];refine f_c Tryz.func39 ?_;refine r_z 3 ?_;refine aa_ (r_d hmix 12 ?_);refine c_s (c0_ (b,fb) hy) ?_;refine c_s (eh_ a.num b.den (zl_of h1 (by omega)) (zl_of (by simpa using h4) (by omega))) ?_;refine c_s (c0_ (a,fa) hx) ?_;refine c_s (eh_ b.num a.den (zl_of h3 (by omega)) (zl_of (by simpa using h2) (by omega))) ?_;refine c_s (fs_ZCmp (a.num* b.den) (b.num* a.den) (zl_of e1 (by omega)) (zl_of e2 (by omega))) ?_;refine a_1 ?_;refine ai_ (n_k ?_);exact af_ (t_e (ad_ _))
def powQ(q:Rat):Nat→Rat
 |0=>q
 |k+1=>powQ q k* q
theorem nJ_(q:Rat):∀k,qs (powQ q k)≤(k+1) * qs q
 |0=>by simp[powQ]
 |k+1=>by
  have h1:=bJ_ (powQ q k) q;have h2:=nJ_ q k;show qs (powQ q k* q)≤_;rw[Nat.add_mul (k+1),Nat.one_mul];omega
def dNum(D:Int):Int:=if D=0 then 1 else D
def numV(N D:Int)(p:Nat):Rat:=powQ (Rat.divInt N (dNum D)) (p % 4)
def nuC(N D:Int)(p:Nat):List AV:=[i64 N,i64 D,.v (.int .u8 p)]
def i64r(n:Int):Prop:= -9223372036854775808≤n∧n≤9223372036854775807
theorem cE_(N D:Int)(p:Nat):∀c∈nuC N D p,Closed c:=ab_ (ad_ _) (ab_ (ad_ _) (ab_ (ad_ _) ah_))
theorem div_cast(n d:Int):(n:Rat) / (d:Rat)=Rat.divInt n d:=(Rat.divInt_eq_div n d).symm
def boT(N:Int)(D:Int)(p:Nat)(q:Rat):Nat→AState
 |k=>⟨[(1,.lptr 1 0 0),(2,.lptr 2 0 0),(3,.lptr 3 0 0),(4,.lptr 4 0 0),(6,.lptr 5 0 0),(7,.lptr 6 0 0),(8,.lptr 7 0 0),(9,.v (.int .u8 k))],
  [(1,some ⟨23,3,[nuC N D p]⟩),(2,some ⟨35,3,[zC]⟩),(3,some ⟨42,4,[[i64 0,.emp,i64 0,.emp]]⟩),(4,some ⟨35,3,[qC q]⟩),(5,some ⟨42,4,[rC (rq q)]⟩),(6,some ⟨35,3,[qC (powQ q k)]⟩),(7,some ⟨42,4,[rC (rq (powQ q k))]⟩)],8,44⟩
theorem g9_(N D:Int)(p:Nat)(hN:i64r N)(hD:i64r D)(hp:p≤255):FS 35 [.agg (nuC N D p)] (.tup [.agg (qC (numV N D p)),.agg (rC (rq (numV N D p)))]):=by
 obtain⟨d,hd⟩:∃d,d=dNum D:=⟨_,rfl⟩;have hd0:d≠0:=by rw[hd];unfold dNum;split <;> omega
 have hdr:i64r d:=by
  rw[hd];unfold dNum i64r;unfold i64r at hD;split <;> omega
 unfold i64r at hN hdr;obtain⟨q,hq⟩:∃q,q=Rat.divInt N d:=⟨_,rfl⟩;have hof:=fs_Of N d hN hdr hd0;rw[div_cast,←hq] at hof;have hro:=fs_rOf N d hd0 hN hdr;rw[←hq] at hro;have hnv:numV N D p=powQ q (p % 4):=by unfold numV;rw[←hd,←hq]
 rw[hnv];refine f_n Tryz.func35 ?_ ?_;exact ab_ (au_ (cE_ N D p)) ah_;refine r_z 3 ?_
 refine aQ_ (fun _:Unit=>⟨[(1,.lptr 1 0 0),(2,.lptr 2 0 0),(3,.lptr 3 0 0)],
  [(1,some ⟨23,3,[nuC N d p]⟩),(2,some ⟨35,3,[zC]⟩),(3,some ⟨42,4,[[i64 0,.emp,i64 0,.emp]]⟩)],4,44⟩) (fun _=>True) ?_ ?_
 refine r_z 3 ?_;refine aj_ rfl (fun h1=>?_) (fun h1=>?_);have h2:D=0:=by simpa using h1
 have h3:d=1:=by rw[hd];unfold dNum;rw[if_pos h2]
 refine r_m 2 ?_;refine a_z ?_;refine⟨(),trivial,?_⟩;rw[h3];have:=cE_ N 1 p;exact s_f [];have h2:¬D=0:=by simpa using h1
 have h3:d=D:=by rw[hd];unfold dNum;rw[if_neg h2]
 refine ae_ ⟨(),trivial,?_⟩;rw[h3];have:=cE_ N D p;exact s_f [];rintro _ _;refine r_c 11 (hof) ?_;refine a_z ?_;refine r_c 7 (hro) ?_;refine a_z ?_;refine aa_ (r_d hmix 6 ?_);refine a_6 ?_;refine ai_ (n_k ?_);refine aa_ (r_z 1 ?_)
 have hqs:qs q≤64:=by
  have hb:∀z:Int,-9223372036854775808≤z∧z≤9223372036854775808→bl z.natAbs≤64:=fun z h=>bl_le (k:=64) (by omega);rw[hq];by_cases hn:d< 0;rw[gf_ N d hn];exact c6_ (by omega) (hb (-N) (by omega)) (hb d (by omega));rw[ge_ N d (by omega)];exact c6_ (by omega) (hb N (by omega)) (hb d (by omega))
 have hm4:(p:Int) % 4=((p % 4:Nat):Int):=by omega
 refine aw_ (fun _:Unit=>boT N d p q (p % 4)) (fun _=>True) ?_ ?_;refine ac_ (ap_ (boT N d p q) (fun k=>p % 4- k) (fun k=>k≤p % 4) 0 (Nat.zero_le _) ?_ ?_);simp only[boT.eq_1,powQ];exact s_f [(4,4),(5,6),(6,7),(7,8)];rintro k hk;rw[boT.eq_1];refine aa_ (r_z 5 ?_);refine aj_ rfl (fun h=>?_) (fun h=>?_);refine ae_ ?_
 have hlt:k< p % 4:=by
  have h2:(k:Int)< (p:Int) % 4:=by simpa using h
  omega
 have hpk:=nJ_ q k;have hpk2:(k+1) * qs q≤4* 64:=Nat.mul_le_mul (by omega) hqs;refine aa_ (ac_ (r_d hmix 8 ?_));refine c_s (dp_ (powQ q k) q (by omega)) ?_;refine c_s (dv_ (rq (powQ q k)) (rq q) (aR_ _) (aR_ _) (by simp only[rq];omega)) ?_;refine a_2 ?_;refine ai_ (n_k ?_);refine r_m 3 ?_;refine a_z ?_;refine⟨k+1,by omega,hlt,?_⟩;simp only[boT.eq_1];exact s_f []
 have hge:k=p % 4:=by
  have h2:¬(k:Int)< (p:Int) % 4:=by simpa using h
  omega
 subst hge;refine am_ ⟨(),trivial,?_⟩;exact s_f [];rintro _ _;rw[boT.eq_1];refine aa_ (r_d hmix 4 ?_);refine a_4 ?_;refine ai_ (n_k ?_);refine af_ (Fin.many ⟨_,_,rfl,⟨_,_,_,_,_,rfl,rfl,rfl,.inl ⟨TG.h,_,TS.h,nle rfl,rfl⟩⟩,⟨_,_,rfl,⟨_,_,_,_,_,rfl,rfl,rfl,.inl ⟨TG.h,_,TS.h,nle rfl,rfl⟩⟩,rfl⟩⟩ (nle rfl) ?_);exact ag_ (an_ ar_ (aI_ _)) (ag_ (an_ ar_ (bR_ _)) ao_)
def twP:List Rat:=av_ [0,1] 2
def chP:Nat→List Rat×List Rat
 |0=>(c3_ 1,[0,1])
 |k+1=>((chP k).2,subP (mulP twP (chP k).2) (chP k).1)
def okCh(k:Nat):Prop:=okMul twP (chP k).2∧smL (chP k).1∧(mulP twP (chP k).2).length≤274877906944∧(chP k).1.length≤274877906944
instance (k:Nat):Decidable (okCh k):=inferInstanceAs (Decidable (_∧_∧_∧_))
def chL2(n:Nat):List (List Rat):=(List.range n).map fun k=>(chP k).1
@[simp] theorem chL2_length (n:Nat):(chL2 n).length=n:=by simp[chL2]
def okL(n:Nat)(p last:List Rat):Prop:=okMul (av_ [0,1] ((2* (n:Int)+1:Int):Rat)) p∧smL last∧smL (av_ last ((n:Int):Rat))∧smL (subP (mulP (av_ [0,1] ((2* (n:Int)+1:Int):Rat)) p) (av_ last ((n:Int):Rat)))∧(mulP (av_ [0,1] ((2* (n:Int)+1:Int):Rat)) p).length≤1000∧last.length≤1000∧n≤1000
instance (n:Nat) (p last:List Rat):Decidable (okL n p last):=inferInstanceAs (Decidable (_∧_∧_∧_∧_∧_∧_))
def okH(n:Nat)(p last:List Rat):Prop:=okMul twP p∧smL last∧smL (av_ last ((2* (n:Int):Int):Rat))∧(mulP twP p).length≤1000∧last.length≤1000∧n≤1000
instance (n:Nat) (p last:List Rat):Decidable (okH n p last):=inferInstanceAs (Decidable (_∧_∧_∧_∧_∧_))

def okC(_:Nat)(p last:List Rat):Prop:=okMul twP p∧smL last∧(mulP twP p).length≤1000∧last.length≤1000
instance (n:Nat) (p last:List Rat):Decidable (okC n p last):=inferInstanceAs (Decidable (_∧_∧_∧_))
theorem tb_(p:List Rat)(h:fE_ p)(h0:trimQ p≠[])(hl:p.length≤1099511627776):FS 57 [.arr (pE p)] (.tup [.agg (qC (aN_ p)),i64 0]):=by
 refine f_c Tryz.func57 ?_;refine r_z 2 ?_;refine aa_ (r_c 3 (bC_ p hl) ?_);refine a_z ?_;refine aj_ rfl (fun h1=>?_) (fun h1=>?_);exact absurd (degP_neg.1 (by simpa using h1)) h0;refine ae_ (r_c 4 (fs_bound p h h0) ?_);refine a_z ?_;refine af_ (Fin.many ⟨_,_,rfl,⟨_,_,_,_,_,rfl,rfl,rfl,.inl ⟨TG.h,_,TS.h,nle rfl,rfl⟩⟩,⟨_,_,rfl,rfl,rfl⟩⟩ (nle rfl) ?_);exact ag_ (an_ ar_ (aI_ _)) (ag_ (an_ ar_ (ad_ _)) ao_)
theorem lz_(f:Nat)(p:List Rat)(c:Cnt)(s:Sp)(hc:cn_ f p=some c)(hf:f≤1000000)(h1:okBe c s.1)(h2:okUp c s.2)(hs:smS s)(hv:cmpQ s.1 s.2≤0)(hl:g0_ p=0)(hp:p.length≤1099511627776):
    FS 56 [.arr (pE p),.agg (spC s.1 s.2)] (.tup [i64 (uptoV c s.2- dS_ c s.1),i64 0]):=by
 have hb1:=ie_ (x:=s.2) h2.1;have hb2:=tS_ (x:=s.1) h1.1.1;have hla:=fs_large p hp;rw[hl] at hla;refine f_c Tryz.func56 ?_;refine r_z 3 ?_;refine aa_ (r_c 3 (fN_ s.1 s.2 hs.1 hs.2) ?_);refine a_z ?_;refine aj_ rfl (fun h3=>?_) (fun h3=>?_);exact absurd h3 (by simp[hv]);refine ae_ (aa_ (r_c 3 (hla) ?_));refine a_z ?_;refine r_z 2 ?_;refine aj_ rfl (fun h4=>?_) (fun h4=>?_);exact absurd h4 (by decide);refine ae_ (r_c 3 (sT_ f p c hc hf) ?_);refine a_z ?_;refine aa_ (r_d hmix 11 ?_);refine c_s (sI_ c s.2 h2) ?_;refine c_s (fs_below c s.1 h1) ?_;refine a_3 ?_;refine ai_ (n_k ?_);refine af_ (Fin.many ⟨_,_,rfl,rfl,⟨_,_,rfl,rfl,rfl⟩⟩ (nle rfl) ?_);exact ag_ (an_ ar_ (ad_ _)) (ag_ (an_ ar_ (ad_ _)) ao_)
theorem eg_(a b:Rat)(hb:b≠0)(h:qs a+qs b≤549755813888):FS 95 [.agg (qC a),.agg (qC b)] (.agg (qC (a/ b))):=by
 refine f_c Tryz.func95 ?_;refine r_z 3 ?_;refine r_c 9 (sS_ a b hb h) ?_;refine a_z ?_;refine r_z 2 ?_;exact af_ (c_e (aI_ _))
theorem aV_(n:Int)(h: -9223372036854775808≤n∧n≤9223372036854775807):FS 80 [i64 n] (.agg (qC (n:Rat))):=by
 refine f_c Tryz.func80 ?_;refine r_z 1 ?_;refine r_c 3 (ei_ n h) ?_;refine a_z ?_;exact af_ (c_e (aI_ _))
theorem bs_(n lo hi:Int):FS 78 [i64 n,i64 lo,i64 hi] (bln (decide (n< lo∨hi< n))):=by
 refine f_c Tryz.func78 ?_;refine r_z 1 ?_;by_cases h:n< lo;rw[decide_eq_true (Or.inl h)];refine q_z 9 ?_;exact af_ (t_e (ad_ _));by_cases h2:hi< n;rw[decide_eq_true (Or.inr h2)];refine q_z 9 ?_;exact af_ (t_e (ad_ _));rw[decide_eq_false (fun e=>e.elim h h2)];refine q_z 9 ?_;exact af_ (t_e (ad_ _))
theorem nZ_(p q:List Rat)(h:okDiv p q)(h0:trimQ q≠[]):FS 189 [.arr (pE p),.arr (pE q)] (.arr (pE (divP p q).2)):=by
 refine f_c Tryz.func189 ?_;refine r_z 1 ?_;refine r_c 10 (ta_ p q h h0) ?_;refine a_z ?_;refine r_z 2 ?_;exact af_ (t_e (aD_ _))
theorem kq_(p:List Rat)(hb:bdL p 68719476736)(h0:trimQ p≠[])(hl:p.length≤1099511627776):FS 96 [.arr (pE p)] (.arr (pE (aG_ p))):=by
 have hp:smL p:=ft_ hb (by decide)
 have hle:qs (leadP p)≤68719476736:=by
  obtain⟨n,hn⟩:∃n,(trimQ p).length=n+1:=⟨(trimQ p).length- 1,by have:=List.length_pos_iff.2 h0;omega⟩;exact hb _ (be_ (List.mem_of_getElem? (bD_ hn)))
 have q1:qs ((1:Int):Rat)=1:=by decide
 have hq:=cX_ ((1:Int):Rat) (leadP p);have e:aG_ p=av_ p (((1:Int):Rat) / leadP p):=by unfold aG_;rw[if_neg h0];rfl
 rw[e];refine f_c Tryz.func96 ?_;refine r_z 1 ?_;refine r_c 7 (aV_ 1 (by decide)) ?_;refine c_s (gD_ p hl) ?_;refine o_0 (.call rfl rfl rfl (eg_ _ (leadP p) (bw_ h0) (by omega))) ?_;refine o_0 (.call rfl rfl rfl (eB_ p _ hp (by unfold sm;omega) hl)) ?_;refine o_0 (.assign rfl) ?_;refine ai_ ?_;exact af_ (t_e (aD_ _))
theorem n4_(f:List Rat)(a b:Rat)(hf:smL f)(hl:f.length≤1000000)(ha:ed_ (aF_ f) a)(hb:ed_ (aF_ f) b):FS 82 [.arr (pE f),.agg (spC a b)] (.agg (qC (evalP (aF_ f) b- evalP (aF_ f) a))):=by
 have q1:=pB_ ha;have q2:=pB_ hb;unfold sm at q1 q2;refine f_c Tryz.func82 ?_;refine r_z 2 ?_;refine r_c 3 (oc_ f hf (by omega)) ?_;refine a_z ?_;refine aa_ (r_d hmix 10 ?_);refine c_s (ly_ (aF_ f) b hb) ?_;refine c_s (ly_ (aF_ f) a ha) ?_;refine o_0 (.call rfl rfl rfl (pk_ _ _ (by omega))) ?_;refine o_1n (.store rfl rfl rfl rfl rfl rfl TS.h (nle rfl)) ?_;refine ai_ (n_k ?_);exact af_ (c_e (aI_ _))
theorem lq_(p:List Rat)(h:fE_ p)(h0:trimQ p≠[])(hl:p.length≤1099511627776):FS 235 [.arr (pE p)] (.agg (spC (-aN_ p) (aN_ p))):=by
 refine f_c Tryz.func235 ?_;refine r_z 1 ?_;refine r_c 8 (tb_ p h h0 hl) ?_;refine a_z ?_;refine aa_ (r_d hmix 5 ?_);refine c_s (h0_ (aN_ p)) ?_;refine a_3 ?_;refine ai_ (n_k ?_);exact af_ (c_e (gj_ _ _))
def wC(m:List Rat)(l r:Bool)(lo hi:List AV):List AV:=[.arr (pE m),bln l,bln r]++lo++hi
def okC2(lo:List AV):Prop:=lo=zC∨∃q,lo=qC q
theorem jC_{lo:List AV}(h:okC2 lo):∀c∈lo,Closed c:=by
 rcases h with rfl|⟨q,rfl⟩
 exact ek_;exact br_ q
theorem a7_{m:List Rat}{l r:Bool}{lo hi:List AV}(h:okC2 lo)(h2:okC2 hi):∀c∈wC m l r lo hi,Closed c:=fun c hc=>by
 unfold wC at hc;rcases List.mem_append.1 hc with hc|hc
 rcases List.mem_append.1 hc with hc|hc
 exact ab_ (aD_ m) (ab_ (ad_ _) (ab_ (ad_ _) ah_)) c hc;exact jC_ h c hc;exact jC_ h2 c hc
def ofS(t:List Rat)(W:List AV):Nat×Rat→AState
 |(i,o)=>⟨[(2,.lptr 1 0 0),(4,.lptr 2 0 0),(5,.lptr 3 0 0),(9,.arr (pE t)),(10,i64 t.length),(11,i64 i)],[(1,some ⟨51,9,[W]⟩),(2,some ⟨35,3,[zC]⟩),(3,some ⟨35,3,[qC o]⟩)],4,27⟩
theorem fs_of(p m:List Rat)(l r:Bool)(a b:Rat)(s t:Nat)(hp:bdL p s)(hm:bdL m t)(hs:1≤s)(ht:1≤t)(hpl:p.length≤1000000)(hlen:(trimQ p).length≤m.length)(hlim:(p.length+2) * (s+t+1)≤137438953472):
    FS 114 [.agg (wC m l r (qC a) (qC b)),.arr (pE p)] (.agg (qC (ofQ (trimQ p) m (trimQ p).length))):=by
 obtain⟨T,hT⟩:∃T,T=trimQ p:=⟨_,rfl⟩;have htl:=aB_ p;have hTb:bdL T s:=fun q hq=>hp q (be_ (by rw[←hT];exact hq));have htr:=cQ_ p (by omega);rw[←hT] at htl hlen htr⊢;obtain⟨W,hW⟩:∃W,W=wC m l r (qC a) (qC b):=⟨_,rfl⟩;have hWc:∀c∈W,Closed c:=by rw[hW];exact a7_ (.inr ⟨a,rfl⟩) (.inr ⟨b,rfl⟩)
 rw[hW] at hWc;refine f_c Tryz.func114 ?_;refine r_z 2 ?_;refine r_z 1 ?_;refine aa_ (r_c 4 (htr) ?_);refine a_z ?_;have hWr:W=wC m l r (qC a) (qC b):=hW;refine aw_ (fun _:Unit=>⟨[(4,.lptr 1 0 0),(5,.lptr 2 0 0)],[(1,some ⟨35,3,[zC]⟩),(2,some ⟨35,3,[qC (ofQ T m T.length)]⟩)],3,27⟩) (fun _=>True) ?_ ?_;refine ac_ (ap_ (ofS T (wC m l r (qC a) (qC b))) (fun x=>T.length- x.1) (fun x=>x.1≤T.length∧x.2=ofQ T m x.1) (0,0) ⟨Nat.zero_le _,rfl⟩ ?_ ?_);simp only[ofS.eq_1];rw[qC0];exact s_f [(1,2),(2,4),(3,5)];rintro⟨i,o⟩ ⟨hi,ho⟩;simp only at hi ho;rw[ofS.eq_1];by_cases hlt:i< T.length;refine q_z 1 ?_;refine aa_ (cT (ae_ ?_));have hgt:(pE T)[((i:Nat):Int).toNat]?=some (qC (coP T i)):=bK_ (a9_ hlt);have hgm:(pE m)[((i:Nat):Int).toNat]?=some (qC (coP m i)):=bK_ (a9_ (by omega));have hc:=bj_ hTb hs i;have hd:=bj_ hm ht i;have hq:=ms_ hTb hm hs ht i;rw[←ho] at hq;have e1:i* (s+t+1)≤(p.length+1) * (s+t+1):=Nat.mul_le_mul_right _ (by omega);have e2:(p.length+2) * (s+t+1)=(p.length+1) * (s+t+1)+(s+t+1):=Nat.succ_mul _ _;have hmu:=dp_ (coP T i) (coP m i) (by omega);have hqm:=bJ_ (coP T i) (coP m i);have had:=gt_ o (coP T i* coP m i) (by omega);refine aa_ (ac_ (s_r 6 ?_));refine a_1 ?_;refine i_x hgt ?_;refine l_x hgt ?_;refine a_z ?_;refine r_d hmix 10 ?_;refine a_5 ?_;refine i_x hgm ?_;refine l_x hgm ?_;refine c_s (hmu) ?_;refine c_s (had) ?_;refine a_1 ?_;refine ai_ (n_k ?_);refine r_m 2 ?_;refine a_z ?_;refine⟨(i+1,o+coP T i* coP m i),by simp only;omega,⟨hlt,by simp only;rw[ofQ,←ho]⟩,?_⟩
 simp only[ofS.eq_1];exact s_f [];have hge:i=T.length:=by omega
 subst hge;refine q_z 1 ?_;refine aa_ (cF (am_ ⟨(),trivial,?_⟩));rw[ho];exact s_e [(1,4),(2,5)];rintro _ _;refine r_z 2 ?_;exact af_ (c_e (aI_ _))
theorem fs_real0(p:List Rat)(hl:p.length≤1099511627776)(h:degP p< 1∨25< degP p):FS 160 [.arr (pE p)] (bln false):=by
 have ho:=bs_ (degP p) 1 25;rw[decide_eq_true h] at ho;refine f_c Tryz.func160 ?_;refine r_z 1 ?_;refine r_c 3 (bC_ p hl) ?_;refine a_z ?_;refine aa_ (r_c 2 (ho) ?_);refine ai_ ?_;refine aj_ rfl (fun h=>?_) (fun h=>?_);refine r_z 1 ?_;exact af_ (t_e (ad_ _));cases h
theorem lh_(p:List Rat)(n:Int)(hl:p.length≤1099511627776)(h:1≤degP p∧degP p≤25)(hb:fE_ p)(hc:FS 56 [.arr (pE p),.agg (spC (-aN_ p) (aN_ p))] (.tup [i64 n,i64 0])):FS 160 [.arr (pE p)] (bln (decide (n=degP p))):=by
 have ho:=bs_ (degP p) 1 25;rw[decide_eq_false (by omega)] at ho;have h0:trimQ p≠[]:=fun e=>by have:=degP_neg.2 e;omega
 have hev:=lq_ p hb h0 hl;refine f_c Tryz.func160 ?_;refine r_z 1 ?_;refine r_c 3 (bC_ p hl) ?_;refine a_z ?_;refine aa_ (r_c 2 (ho) ?_);refine ai_ ?_;refine cF (ae_ (r_c 9 (hev) ?_));refine c_s (hc) ?_;refine a_z ?_;refine r_z 4 ?_;exact af_ (t_e (ad_ _))
abbrev ruC(p w:List Rat):List AV:=[.arr (pE p),.arr (pE w)]
theorem bn_(p w:List Rat):∀c∈ruC p w,Closed c:=ab_ (aD_ p) (ab_ (aD_ w) ah_)
theorem h1_(p w:List Rat)(hr:FS 160 [.arr (pE p)] (bln true))(hm:leadP p=1)(hd:degP w< degP p)(hp:p.length≤1099511627776)(hw:w.length≤1099511627776):FS 94 [.agg (ruC p w)] (i64 0):=by
 have hle:=gD_ p hp;rw[hm] at hle;have hwh:=aV_ 1 (by decide);have hcm:=jm_ 1 ((1:Int):Rat) (by decide) (by decide);rw[show cmpQ 1 ((1:Int):Rat)=0 by decide+kernel] at hcm;refine f_n Tryz.func94 ?_ ?_;exact ab_ (au_ (bn_ p w)) ah_;refine r_z 2 ?_;refine aa_ (aa_ (r_d hmix 21 ?_));refine c_s (hr) ?_;refine c_s (hle) ?_;refine c_s (hwh) ?_;refine c_s (hcm) ?_;refine aA_ rfl rfl rfl (.bin rfl rfl (vF bd_ (rfl))) rfl rfl ?_;refine c_s (bC_ w hw) ?_;refine c_s (bC_ p hp) ?_;refine d_2 ?_;refine ai_ (n_k ?_);refine cF (ae_ (r_z 1 ?_));exact af_ (t_e (ad_ _))
theorem cB_(m:List Rat)(l r:Bool)(a b:Rat)(hm:1≤m.length∧m.length≤64)(hab:l=true→r=true→a< b)(ha:sm a)(hb:sm b):FS 31 [.agg (wC m l r (qC a) (qC b))] (i64 0):=by
 have ho:=bs_ (m.length:Nat) 1 64;rw[decide_eq_false (by omega)] at ho;have hWc:=a7_ (m:=m) (l:=l) (r:=r) (.inr ⟨a,rfl⟩) (.inr ⟨b,rfl⟩);have hcm:=jm_ a b ha hb;refine f_c Tryz.func31 ?_;refine r_z 2 ?_;cases l with
 |false=>
  refine aa_ (r_c 20 (ho) ?_);refine a_z ?_;refine cF (ae_ (r_z 1 ?_));exact af_ (t_e (ad_ _))
 |true=>
  cases r with
  |false=>
   refine aa_ (r_c 20 (ho) ?_);refine a_z ?_;refine cF (ae_ (r_z 1 ?_));exact af_ (t_e (ad_ _))
  |true=>
   have hlt:=hab rfl rfl;rw[show cmpQ a b= -1 by unfold cmpQ;rw[if_pos hlt]] at hcm;refine aa_ (r_c 20 (ho) ?_);refine c_s (hcm) ?_;refine aA_ rfl rfl rfl (.bin rfl rfl (vF cW_ (rfl))) rfl rfl ?_;refine a_z ?_;refine cF (ae_ (r_z 1 ?_));exact af_ (t_e (ad_ _))
theorem mR_ (p:List Rat) (n:Nat) (hl:p.length≤1000000) (hn:n≤40) (hmx:(if (0:Int)> degP p then(0:Int) else degP p) * n≤72∧0≤(if (0:Int)> degP p then(0:Int) else degP p) * n)
    (hM:∀j,j< n→FS 52 [.arr (pE (powP p j)),.arr (pE p)] (.arr (pE (powP p (j+1))))):FS 174 [.arr (pE p),i64 n] (.tup [.arr (pE (powP p n)),i64 0]):=by
 have hdg:(0:Int)≤degP p+1∧degP p≤1000000:=by
  have:=aB_ p;unfold degP;omega
 refine f_c Tryz.func174 ?_;refine r_z 2 ?_;refine aa_ (ac_ (q_z 7 ?_));refine cF (r_c 7 (bC_ p (by omega)) ?_);refine a_2 ?_;refine o_0 (.bin rfl rfl (hm_ (by omega))) ?_;refine d_z ?_;refine cF (ae_ ?_);have h1:=ei_ 1 (by decide);have h2:=jl_ 1;refine r_c 3 (h1) ?_;refine c_s (h2) ?_;refine a_z ?_;refine aa_ (r_z 2 ?_);refine aw_ (fun _:Unit=>⟨[(6,.arr (pE (powP p n)))],[],1,31⟩) (fun _=>True) ?_ ?_;refine ac_ (ap_ (fun j:Nat=>⟨[(24,i64 ((j:Nat):Int)),(23,i64 ((n:Nat):Int)),(6,.arr (pE (powP p j))),(0,.arr (pE p))],[],1,31⟩) (fun j=>n- j) (fun j=>j≤n) 0 (Nat.zero_le _) ?_ ?_);exact s_e [];rintro j hj;by_cases hlt:j< n;have hm:=hM j hlt;refine q_z 1 ?_;refine aa_ (cT (ae_ (aa_ (ac_ (r_m 4 ?_)))));refine c_s (hm) ?_;refine a_z ?_;refine r_m 2 ?_;refine a_z ?_;refine⟨j+1,by omega,hlt,?_⟩;exact s_e [];have hge:j=n:=by omega
 subst hge;refine q_z 1 ?_;refine aa_ (cF (am_ ⟨(),trivial,?_⟩));exact s_e [];rintro _ _;refine r_z 3 ?_;refine af_ (Fin.many ⟨_,_,rfl,rfl,⟨_,_,rfl,rfl,rfl⟩⟩ (nle rfl) ?_);exact ag_ (an_ ar_ (aD_ _)) (ag_ (an_ ar_ (ad_ _)) ao_)
theorem fs_Power(p:List Rat)(n:Nat)(hs:bdL p 256)(hl:p.length≤12)(hn:n≤6)(hb:∀k,k≤n→pB p.length k≤1073741824):FS 174 [.arr (pE p),i64 n] (.tup [.arr (pE (powP p n)),i64 0]):=by
 have hdg:(0:Int)≤degP p+1∧degP p≤12:=by
  have:=aB_ p;unfold degP;omega
 refine mR_ p n (by omega) (by omega) ?_ fun j hlt=>?_;have h1:(0:Int)≤(if (0:Int)> degP p then(0:Int) else degP p)∧(if (0:Int)> degP p then(0:Int) else degP p)≤12:=by split <;> omega
 generalize (if (0:Int)> degP p then(0:Int) else degP p)=m at h1⊢;have h2:m* n≤12* 6:=Int.mul_le_mul h1.2 (by omega) (by omega) (by decide);exact⟨h2,Int.mul_nonneg h1.1 (by omega)⟩;have hB:=hb (j+1) hlt;have hll:=gP_ p j;have hjl:j* p.length≤6* 12:=Nat.mul_le_mul (by omega) hl
 exact ky_ (powP p j) p (pB p.length j) 256 (rZ_ hs j) hs (pB_pos p.length j) (by decide) (by
  have h3:=Nat.mul_le_mul_right (pB p.length j+256+1) hll;have h4:(j* p.length+1) * (pB p.length j+256+1)+1≤1073741824:=hB;omega) (by decide) (by omega) (by omega)
theorem s4_(u v:Rat)(n:Nat)(hu:qs u≤256)(hv:qs v≤256)(hn:n≤8):FS 174 [.arr (pE [u,v]),i64 n] (.tup [.arr (pE (powP [u,v] n)),i64 0]):=by
 have hd:degP [u,v]≤1:=by
  have:=aB_ [u,v];have e:[u,v].length=2:=rfl;unfold degP;omega
 refine mR_ [u,v] n (by simp) (by omega) ?_ fun j hj=>?_;have h1:(0:Int)≤(if (0:Int)> degP [u,v] then(0:Int) else degP [u,v])∧(if (0:Int)> degP [u,v] then(0:Int) else degP [u,v])≤1:=by split <;> omega
 generalize (if (0:Int)> degP [u,v] then(0:Int) else degP [u,v])=m at h1⊢;have h2:m* n≤1* 8:=Int.mul_le_mul h1.2 (by omega) (by omega) (by decide);exact⟨by omega,Int.mul_nonneg h1.1 (by omega)⟩;have hll:=gP_ [u,v] j;have e:[u,v].length=2:=rfl;have hb:=lB_le (n:=j) (by omega);rw[e] at hll
 exact ky_ (powP [u,v] j) [u,v] (lB j) 256 (gQ_ hu hv j) (bd_uv hu hv) (fI_ j) (by decide) (by
  have h3:=Nat.mul_le_mul (show(powP [u,v] j).length≤20 by omega) (show lB j+256+1≤200000 by omega);omega) (by decide) (by omega) (by simp)
end Go.Proofs.YtdjfjpeoddmamaaGreatDoor
namespace Go.Proofs.YtdjfjpeoddmamaaGreatDoor
open Go.Abs Go.RowKit
set_option maxRecDepth 20000
theorem qV_:Tryz.prog.underlying 220=some (.pointer 223):=by kernel_rfl
theorem l0_:Tryz.prog.underlying 323=some .unsafePointer:=by kernel_rfl
theorem qU_:(Tryz.prog.info? 223).map (·.size)=some 2:=by kernel_rfl
set_option maxHeartbeats 1000000 in
theorem cs_used(b:Nat)(w:World)(h0:w.cell? ⟨b,0,none⟩=some (.pointer (some ⟨b,0,none⟩))):
    Calls Tryz.prog 241 #[.pointer (some ⟨b,0,none⟩)] w fun e w'=>e= .returned (.tuple #[])∧w'=w:=by
 obtain⟨j,hj,_⟩:=Option.map_eq_some_iff.1 qU_
 go_enter Tryz.func241,Tryz.ntmps241
 go_wp2
 rw[Lib.run_neq_ptr_same w _ qV_ hj]
 go_wp2
 go_end0
 exact⟨rfl,rfl⟩
theorem my_{n:Nat}(hn:2≤n):liesAt Tryz.prog Tryz.prog.depth 223 (n/ Tryz.prog.cellsOf 223) 0 223 1=true:=by
 have hc:Tryz.prog.cellsOf 223=2:=by kernel_rfl
 rw[hc];have hd:Tryz.prog.depth=(2* (Tryz.prog.types.size+Made.depth)+1)+1:=rfl;rw[hd];simp only[liesAt,Bool.or_eq_true];left;rw[hd];have:1≤n/ 2:=by omega
 simp[rowAt,sameLayout,this,hc]
set_option maxHeartbeats 1000000 in
theorem cs_fresh(b:Nat)(w:World)(cs:Array Value)(hh:w.heap[b]?=some (.cells cs 223 (0,0)))(hsz:2≤cs.size)(hc:cs[0]?=some (.pointer none)):
    Calls Tryz.prog 241 #[.pointer (some ⟨b,0,none⟩)] w fun e w'=>e= .returned (.tuple #[])∧w'=w.setCell ⟨b,0,none⟩ (.pointer (some ⟨b,0,none⟩)):=by
 obtain⟨j,hj,hjs⟩:=Option.map_eq_some_iff.1 qU_;have h0:w.cell? ⟨b,0,none⟩=some (.pointer none):=by simp[World.cell?,hh,hc]
 have hsh:w.shape? b=some (223,cs.size):=by simp[World.shape?,hh]
 have hfz:w.frozen? ⟨b,0,none⟩=false:=by simp[World.frozen?,hh]
 go_enter Tryz.func241,Tryz.ntmps241
 go_wp2
 rw[Lib.run_to_unsafe w ⟨b,0,none⟩ qV_ l0_ hj (by rw[hjs];decide) hsh (by show 0< cs.size;omega)];simp only[Result.andThen];rw[Oper.upon_value]
 go_wp2
 rw[run_callFunc_extern Tryz.func288 (by kernel_rfl) (by kernel_rfl) (by kernel_rfl) (e:=Extern.AbiNoEscape.same) (by kernel_rfl)];rw[Lib.run_noEscape];simp only[Result.andThen];rw[Oper.upon_value]
 go_wp2
 rw[Lib.run_from_unsafe w ⟨b,0,none⟩ l0_ qV_ hj hsh (my_ hsz)];simp only[Result.andThen];rw[Oper.upon_value]
 go_wp2
 go_end0
 exact⟨rfl,rfl⟩
theorem jq_{P:Go.Program}{f:Nat}{fn:Func}{c:Code}(hf:P.funcs[f]?=some fn)(hb:fn.body=some c)(hname:(fn.name== "runtime.NumGoroutine")=false)(xs:Array Value)(w:World):(callFunc f xs).run P w= .ok (.enter f xs) w:=by
 have hname':¬fn.name= "runtime.NumGoroutine" :=by simpa using hname
 simp[callFunc,hf,hname',hb]
theorem h6_:CSpec Tryz.prog 241 223:=
 ⟨fun xs w=>jq_ Tryz.func241 rfl (by kernel_rfl) xs w,fun b w h0=>cs_used b w h0,fun b w cs hh hsz h0=>cs_fresh b w cs hh hsz h0⟩
theorem oV_(a b:Value):Pure (.tup [.v a,.v b]):=by
 rintro M M' β β' w w' y ⟨xs,rfl,x1,x2,e,h1,⟨x3,x4,e2,h2,h3⟩⟩;exact⟨xs,rfl,x1,x2,e,h1,x3,x4,e2,h2,h3⟩
theorem d5_:Tryz.prog.underlying 9=some .string:=by kernel_rfl
theorem bE_len(q:List UInt8):lenA (.arr (bE q))=some q.length:=by simp[lenA,bW_]
theorem hv_(t:List UInt8):(⟨t.toArray⟩:ByteArray).size=t.length:=by simp[ByteArray.size]
theorem eZ_(t:List UInt8)(h0:t≠[])(hl:t.length≤1099511627776):BSpec Tryz.prog 171 223 5 none t [tx t] (.tup [i64 t.length,.v .nilIface]):=by
 refine BSpec.intro Tryz.func171 rfl (by kernel_rfl) (ab_ (ad_ _) ah_) (oV_ _ _) (nle rfl) ?_;show AWp _ _ _ _ ⟨[(0,.lptr 0 0 0),(1,tx t)],[(0,some ⟨223,2,[bldC 0 1 none]⟩)],2,19⟩;refine r_z 2 ?_;refine s_r 2 ?_;refine a_1 ?_;refine o_1 (.callC rfl rfl rfl rfl rfl (by first|exact .inl rfl|exact .inr rfl) (h6_)) ?_;refine ai_ ?_;refine s_r 10 ?_;refine a_6 ?_;refine o_1 (.appS_e rfl rfl rfl te_221.h d5_ rfl rfl h0 TZ.h rfl TB.h (by omega)) ?_;refine a_z ?_;refine s_r 4 ?_;refine o_0 (.move rfl) ?_;refine o_0 (.builtinV (vs:=[_]) rfl rfl (fun _ _ _=>rfl)) ?_;refine o_0 (.assign rfl) ?_;refine o_0 (.assign rfl) ?_;refine ai_ ?_;refine af_ ⟨.inr rfl,?_,12,by decide,rfl,rfl⟩;refine⟨[_,_],⟨_,_,rfl,rfl,⟨_,_,rfl,rfl,rfl⟩⟩,Cv.tup ?_⟩;refine ag_ (Cv.loE ar_ ?_ (ad_ _)) (ag_ (an_ ar_ (ad_ _)) ao_);rw[hv_];rfl
theorem dN_(q t:List UInt8)(hl:q.length+t.length≤1099511627776):BSpec Tryz.prog 171 223 5 (some q) (q++t) [tx t] (.tup [i64 t.length,.v .nilIface]):=by
 refine BSpec.intro Tryz.func171 rfl (by kernel_rfl) (ab_ (ad_ _) ah_) (oV_ _ _) (nle rfl) ?_;show AWp _ _ _ _ ⟨[(0,.lptr 0 0 0),(1,tx t)],[(0,some ⟨223,2,[bldC 0 1 (some q)]⟩),(1,some ⟨5,1,bE q⟩)],2,19⟩;refine r_z 2 ?_;refine s_r 2 ?_;refine a_1 ?_;refine o_1 (.callC rfl rfl rfl rfl rfl (by first|exact .inl rfl|exact .inr rfl) (h6_)) ?_;refine ai_ ?_;refine s_r 10 ?_;refine a_6 ?_;refine o_2 (.appS_l rfl rfl rfl te_221.h d5_ rfl rfl rfl rfl TZ.h rfl TB.h (by omega)) ?_;refine a_z ?_;refine s_r 4 ?_;refine o_0 (.move rfl) ?_;refine o_0 (.builtinV (vs:=[_]) rfl rfl (fun _ _ _=>rfl)) ?_;refine o_0 (.assign rfl) ?_;refine o_0 (.assign rfl) ?_;refine ai_ ?_;refine af_ ⟨.inr rfl,?_,12,by decide,rfl,rfl⟩;refine⟨[_,_],⟨_,_,rfl,rfl,⟨_,_,rfl,rfl,rfl⟩⟩,Cv.tup ?_⟩;refine ag_ (Cv.loE ar_ ?_ (ad_ _)) (ag_ (an_ ar_ (ad_ _)) ao_);rw[hv_];rfl
theorem lx_:FS 170 [.aptr [bldV none] 0 0] (i64 0):=by
 have hc:Closed (.aptr [bldV none] 0 0):=aE_ (ab_ (ad_ _) (ab_ bc_ ah_));refine f_c Tryz.func170 ?_;refine r_z 1 ?_;refine r_z 6 ?_;exact af_ (t_e (ad_ _))
theorem lw_(q:List UInt8):FS 170 [.aptr [bldV (some q)] 0 0] (i64 q.length):=by
 have hc:Closed (.aptr [bldV (some q)] 0 0):=aE_ (ab_ (lo_any 0).closed (ab_ (aL_ (nk_ q)) ah_));refine f_c Tryz.func170 ?_;refine r_z 1 ?_;refine s_r 6 ?_;refine a_4 ?_;refine o_0 (.len rfl rfl rfl rfl (bE_len q) te_221.h) ?_;refine a_z ?_;exact af_ (t_e (ad_ _))
theorem ub_byte:Tryz.prog.underlying 288=some (.pointer 5):=by kernel_rfl
theorem ub_cells:Tryz.prog.cellsOf 5=1:=by kernel_rfl
theorem qJ_(w:World)(g n:Nat):But g w (w.drew.freeze ⟨g,0,none⟩ n):=by
 have hh:∀x,x≠g→(w.drew.freeze ⟨g,0,none⟩ n).heap[x]?=w.heap[x]?:=by
  intro x hx;unfold World.freeze;split;rfl;show(w.heap.modify g _)[x]?=_;rw[Array.getElem?_modify,if_neg (Ne.symm hx)]
 have hsz:(w.drew.freeze ⟨g,0,none⟩ n).heap.size=w.heap.size:=by
  unfold World.freeze;split;rfl;show(w.heap.modify g _).size=_;simp
 refine⟨?_,?_,?_,by omega,fun x _ hx=>hh x hx,fun x N hx=>?_⟩;unfold World.freeze;split <;> rfl;unfold World.freeze;split <;> rfl;unfold World.freeze;split <;> rfl;by_cases hxg:x=g;subst hxg;unfold World.freeze;split;exact hx;unfold aM_ at hx⊢;show(match (w.heap.modify x _)[x]? with|some (.cells cs _ _)=>some cs.size|some (.map _ _)=>some 0|_=>none)=some N;rw[Array.getElem?_modify,if_pos rfl];cases ho:w.heap[x]? with
 |none=>rw[ho] at hx;cases hx
 |some o=>
  rw[ho] at hx;cases o <;> simp_all
 unfold aM_ at hx⊢;rw[hh x hxg];exact hx
set_option maxHeartbeats 2000000 in
theorem ds_run (b bj cap:Nat) (q:List UInt8) (w:World) (cs ck:Array Value) (h0:q≠[]) (hb:w.heap[b]?=some (.cells cs 223 (0,0))) (hc1:cs[1]?=some (.slice (some ⟨bj,0,none⟩) q.length cap)) (hl:q.length≤cap) (hm:cap≤maxLen) (hne:b≠bj) (hj:w.heap[bj]?=some (.cells ck 5 (0,0))) (hck:cap≤ck.size)
    (hq:∀(k:Nat) (x:UInt8),q[k]?=some x→ck[k]?=some (Value.int .u8 x.toNat)):Calls Tryz.prog 173 #[.pointer (some ⟨b,0,none⟩)] w fun e w'=>e= .returned (.string ⟨q.toArray⟩)∧But bj w w':=by
 have hl0:q.length≠0:=by simpa using h0
 have c1:w.drew.cell? ⟨b,1,none⟩=some (.slice (some ⟨bj,0,none⟩) q.length cap):=by
  have:w.drew.heap[b]?=some (.cells cs 223 (0,0)):=hb;simp[World.cell?,this,hc1]
 have hSD:(Builtin.unsafeSliceData_ #[221] 288 #[.slice (some ⟨bj,0,none⟩) q.length cap]).run Tryz.prog w.drew= .ok (.pointer (some ⟨bj,0,none⟩)) w.drew:=
  Lib.run_unsafeSliceData_row _ _ _ _ _ _ (by omega)
 have hUS:(Builtin.unsafeString_ #[288,3] 9 #[.pointer (some ⟨bj,0,none⟩),.int .i64 q.length]).run Tryz.prog w.drew= .ok (.string ⟨q.toArray⟩) (w.drew.freeze ⟨bj,0,none⟩ q.length):=by
  refine Lib.run_unsafeString_row w.drew 288 3 9 5 ub_byte ub_cells bj ck.size (by have hg':w.drew.heap[bj]?=some (.cells ck 5 (0,0)):=hj;simp[World.shape?,hg']) q h0 (by omega) (by unfold maxLen at hm;omega) ?_;intro j x hx;have hg':w.drew.heap[bj]?=some (.cells ck 5 (0,0)):=hj;rw[show(⟨bj,0,none⟩:Addr).add j=⟨bj,0+j,none⟩ from fX_ bj 0 j];simp[World.cell?,hg',hq j x hx]
 have mixed:=hmix
 go_enter Tryz.func173,Tryz.ntmps173
 go_wp2
 go_region_o
 all_goals (go_wp2;go_ret;exact⟨rfl,qJ_ w bj q.length⟩)
theorem js_:DSpec Tryz.prog 173 223 5:=
 ⟨fun xs w=>jq_ Tryz.func173 rfl (by kernel_rfl) xs w,fun b bj cap q w cs ck h0 hb hc1 hl hm hne hj hck hq=>ds_run b bj cap q w cs ck h0 hb hc1 hl hm hne hj hck hq⟩
end Go.Proofs.YtdjfjpeoddmamaaGreatDoor
namespace Go.Proofs.YtdjfjpeoddmamaaGreatDoor
open Go.Abs
set_option maxRecDepth 20000
def dec2(n:Nat):List UInt8:=if n< 10 then [48+n.toUInt8] else [48+(n/ 10).toUInt8,48+(n % 10).toUInt8]
theorem lD_(s:ByteArray)(l h:Nat)(zl zh:Int)(el:zl=(l:Int))(eh:zh=(h:Int))(hlh:l≤h)(hh:h≤s.size):∀w,(Instr.sliceAt 9 (.string s) (some (.int .i64 zl)) (some (.int .i64 zh)) none).run Tryz.prog w= .ok (.string (s.extract l h)) w:=fun w=>by
 subst el eh;have b1:∀(i y:Nat) (c:BoundsCode),i≤y→(Instr.sliceBound (.int .i64 (i:Int)) y c).run Tryz.prog w= .ok i w:=fun i y c hi=>cx_ hi c w
 have hr:(Instr.slice 9 (.string s) (some (.int .i64 (l:Int))) (some (.int .i64 (h:Int))) none).run Tryz.prog w= .ok (.string (s.extract l h)) w:=by
  simp[Instr.slice,run_underlying d5_,Instr.sliceBounds,b1 h s.size _ hh,b1 l h _ hlh,Result.andThen]
 unfold Instr.sliceAt;rw[Sem.run_bind,run_underlying d5_];exact hr
def smallsB:ByteArray:=⟨((List.range 100).flatMap fun n=>[48+(n/ 10).toUInt8,48+(n % 10).toUInt8]).toArray⟩
theorem sK_(i:Nat)(h:i< 100):FS 315 [i64 i] (tx (dec2 i)):=by
 refine f_c Tryz.func315 ?_;refine r_z 1 ?_;refine aa_ (r_z 2 ?_);refine aj_ rfl (fun h1=>?_) (fun h1=>?_);have h2:i< 10:=by simp at h1;omega
 refine s_r 5 ?_;refine a_3 ?_;refine o_0 (.slice_v rfl rfl rfl rfl (lD_ _ i (i+1) _ _ rfl (by omega) (by omega) (by exact Nat.le_trans (m:=10) (by omega) (by decide)))) ?_;refine a_z ?_;refine af_ (aJ_ rfl ?_ ?_);have key:∀i,i< 10→(ByteArray.mk #[48,49,50,51,52,53,54,55,56,57,97,98,99,100,101,102,103,104,105,106,107,108,109,110,111,112,113,114,115,116,117,118,119,120,121,122]).extract i (i+1)=⟨(dec2 i).toArray⟩:=by decide
 exact congrArg (fun s=>AV.v (.string s)) (key i h2);exact ad_ _;have h2:10≤i:=by simp at h1;omega
 refine ae_ (s_r 7 ?_);refine a_5 ?_;refine o_0 (.slice_v rfl rfl rfl rfl (lD_ _ (i* 2) (i* 2+2) _ _ (by omega) (by omega) (by omega) (by exact Nat.le_trans (m:=200) (by omega) (by decide)))) ?_;refine a_z ?_;refine af_ (aJ_ rfl ?_ ?_);have key:∀i,i< 100→10≤i→smallsB.extract (i* 2) (i* 2+2)=⟨(dec2 i).toArray⟩:=by decide
 refine congrArg (fun s=>AV.v (.string s)) (Eq.trans (congrArg (fun s:ByteArray=>s.extract _ _) (?_:_=smallsB)) (key i h h2))
 kernel_rfl
 exact ad_ _
theorem mU_(i:Nat)(h:i< 100):FS 289 [i64 i,i64 10] (tx (dec2 i)):=by
 refine f_c Tryz.func289 ?_;refine r_z 1 ?_;refine aa_ (r_z 2 ?_);refine aj_ rfl (fun h1=>?_) (fun h1=>?_);refine aa_ (s_r 6 ?_);refine a_3 ?_;refine y_g rfl (by simp) (.move rfl) ?_;refine y_g rfl (by simp) (.bin rfl rfl c9_) ?_;refine o_0 (.pickT rfl (by simp) rfl) ?_;refine ai_ ?_;refine aj_ rfl (fun h2=>?_) (fun h2=>?_);refine r_c 3 (sK_ i h) ?_;refine a_z ?_;exact af_ (t_e (ad_ _));exact absurd h2 (by simp;omega);exact absurd h1 (by simp)
theorem fs_iItoa(i:Nat)(h:i< 100):FS 242 [i64 i] (tx (dec2 i)):=by
 refine f_c Tryz.func242 ?_;refine r_z 1 ?_;refine r_c 3 (mU_ i h) ?_;refine a_z ?_;exact af_ (t_e (ad_ _))
theorem ob_(i:Nat)(h:i< 100):FS 172 [i64 i] (tx (dec2 i)):=by
 refine f_c Tryz.func172 ?_;refine r_z 1 ?_;refine r_c 3 (fs_iItoa i h) ?_;refine a_z ?_;exact af_ (t_e (ad_ _))
def te0(m:Nat):Unit→AState
 |u=>⟨[(1,.lptr 1 0 0),(3,.lptr 2 0 0),(11,.clos 284 [] [.aptr [[.arr (dE [m])]] 0 0])],[(1,some ⟨31,1,[[.arr (dE [m])]]⟩),(2,some ⟨223,2,[bldC 2 0 none]⟩)],4,31⟩
def te1(m:Nat):Unit→AState
 |u=>⟨[(1,.lptr 1 0 0),(3,.lptr 2 0 0),(11,.clos 284 [] [.aptr [[.arr (dE [m])]] 0 0])],[(1,some ⟨31,1,[[.arr (dE [m])]]⟩),(2,some ⟨223,2,[bldC 2 3 (some (dec2 m))]⟩),(3,some ⟨5,1,bE (dec2 m)⟩)],4,31⟩
def teS(m:Nat):Nat→AState
 |0=>te0 m ()
 |_+1=>te1 m ()
theorem tp_{m:Nat}(h0:m≠0)(h:m< 100):digs MB m=[m]:=by
 have hb:MB=1000000000:=rfl;rw[cJ_ (by decide) (by omega),Nat.mod_eq_of_lt (by omega),Nat.div_eq_of_lt (by omega),bq_]
theorem op_(m:Nat):dec2 m≠[]:=by unfold dec2;split <;> simp
theorem gh_(m:Nat):(dec2 m).length≤2:=by unfold dec2;split <;> simp
theorem po_(m:Nat)(h:m< 100):FS 168 [.agg [mag m]] (tx (dec2 m)):=by
 have hz:=ff_ m;refine f_c Tryz.func168 ?_;refine r_z 2 ?_;refine aa_ (r_c 2 (hz) ?_);refine ai_ ?_;refine aj_ rfl (fun h1=>?_) (fun h1=>?_);have h2:m=0:=by simpa using h1
 subst h2;refine r_z 1 ?_;exact af_ (t_e (ad_ _));have h2:m≠0:=by simpa using h1
 have hm:mag m= .arr (dE [m]):=by unfold mag;rw[tp_ h2 h]
 rw[hm];refine ae_ ?_;have hln:([m]:List Nat).length=1:=rfl;have hcl:Closed (.aptr [[.arr (dE [m])]] 0 0):=de_ (fun e he c hc=>by simp at he;subst he;simp at hc;subst hc;exact bA_ _);have hcl2:Closed (.clos 284 [] [.aptr [[.arr (dE [m])]] 0 0]):=ba_ ah_ (ab_ hcl ah_);refine r_z 1 ?_;refine aa_ (r_c 3 (fg_ [m]) ?_);refine ai_ ?_;refine aw_ (fun _:Unit=>te1 m ()) (fun _=>True) ?_ ?_;refine ac_ (AWp.rangeFunc (α:=Nat) (γ:=Empty) 1 (teS m) (fun k=>k) (fun k=>k≤1) (fun e=>nomatch e) (fun _ e=>nomatch e) 0 rfl (fb_ [m] (by simp)) rfl rfl ?_ (fun k=>by cases k <;> exact⟨rfl,rfl⟩) (fun e=>nomatch e) (Nat.zero_le _) rfl (fun _ h=>h) ?_ ?_ ?_ ?_ (fun _ e=>nomatch e));intro k xs hT;unfold backT at hT;split at hT;cases hT;rfl;cases hT;show SEntT _ (te0 m ());rw[te0.eq_1];exact s_t [(1,1),(2,3)];exact ab_ hcl ah_
 ·intro l k xs hk hT
  unfold backT at hT;split at hT;rotate_left;cases hT;rename_i hlt;have hk0:k=0:=by simpa using hlt
  subst hk0;cases hT;show AWp _ _ _ _ ⟨setPs (te0 m ()).fr _ _++cj_ (te0 m ()).fr,_,_,_⟩;show AWp _ _ _ _ ⟨[(13,u32 m),(12,i64 0),(1,.lptr 1 0 0),(3,.lptr 2 0 0),(11,.clos 284 [] [.aptr [[.arr (dE [m])]] 0 0]),(1001,.lptr 1 0 0),(1003,.lptr 2 0 0),(1011,.clos 284 [] [.aptr [[.arr (dE [m])]] 0 0])],[(1,some ⟨31,1,[[.arr (dE [m])]]⟩),(2,some ⟨223,2,[bldC 2 0 none]⟩)],4,31⟩;refine r_z 1 ?_;refine r_m 1 ?_;refine a_z ?_;refine ac_ (r_c 4 (ob_ m h) ?_);refine a_z ?_;refine aa_ (r_z 6 ?_);refine aj_ rfl (fun h3=>?_) (fun h3=>?_);exact absurd h3 (by simp);refine ae_ (r_m 2 ?_);refine a_1 ?_;refine o_2 (.callB (s:=none) (j:=0) rfl rfl rfl rfl rfl rfl (fun _ h=>by cases h) (eZ_ (dec2 m) (op_ m) (by have:=gh_ m;omega))) ?_;refine ai_ ?_;refine⟨0+1,⟨by omega,rfl⟩,?_⟩;show SEntT _ ⟨[(1001,.lptr 1 0 0),(1003,.lptr 2 0 0),(1011,.clos 284 [] [.aptr [[.arr (dE [m])]] 0 0])],[(1,some ⟨31,1,[[.arr (dE [m])]]⟩),(2,some ⟨223,2,[bldC 2 3 (some (dec2 m))]⟩),(3,some ⟨5,1,bE (dec2 m)⟩)],4,31⟩;refine SEntT.to2 [(3,100017)] rfl rfl rfl au_r (fun hs=>?_) (fun hs=>?_)
  ·repeat' (first|exact a2_|refine aH_ rfl ?_ ?_)
   all_goals (first|(exact an_ hs hcl2)|exact au_c)
  ·repeat' (first|exact az_|refine gm_ rfl rfl rfl rfl ?_ ?_)
   all_goals (first|exact au_e|(refine al_ ?_;repeat' (first|exact ao_|refine ag_ ?_ ?_)))
   all_goals (first|(exact an_ hs hcl2)|exact au_c)
 ·intro k hk hT
  unfold backT at hT;split at hT;cases hT
  have hk1:k=1:=by
   rename_i hn;simp at hn;omega
  subst hk1;exact⟨(),trivial,SEnt.refl _⟩
 rintro _ _;rw[te1.eq_1];have hne:=op_ m;refine s_r 2 ?_;refine o_2 (.callD rfl rfl rfl rfl rfl rfl (by decide) (by first|assumption|simp) (js_)) ?_;refine a_z ?_;exact af_ (t_e (ad_ _))
end Go.Proofs.YtdjfjpeoddmamaaGreatDoor
