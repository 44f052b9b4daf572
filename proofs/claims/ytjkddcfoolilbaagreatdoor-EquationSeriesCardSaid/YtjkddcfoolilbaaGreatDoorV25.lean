/- Part V25 of the proof. -/
import Derived.Test.YtjkddcfoolilbaaGreatDoorV24
import Derived.ProofKit
import Derived.OpenShut
import Derived.Carry
import Derived.Deep.Slices
import Derived.Deep.Strs
import Derived.Shelf.Strconv.Itoa3
import Derived.Shelf.Strings.Repeat
set_option linter.all false
namespace Go.Proofs.YtjkddcfoolilbaaGreatDoor
open Go.Abs
set_option maxRecDepth 100000
set_option maxHeartbeats 2000000
theorem dD_(x:RQ)(hx:rok x):FS 113 [.agg (rC x)] (.agg (zZ (x.1.den:Int))):=by
 refine f_c Tryz.func113 ?_;refine r_z 2 ?_;refine ab_ (r_z 4 ?_);obtain⟨q,f⟩:=x;have hp:=q.den_pos;cases f with
 |true=>
  have h0:q=0:=hx rfl;subst h0;refine aj_ (t:=true) rfl (fun h=>?_) (fun h=>?_);refine r_c 2 (f7_ 1 (by decide)) ?_;refine a_z ?_;exact af_ (c_e (bx_ _));cases h
 |false=>
  refine aj_ rfl (fun h=>?_) (fun h=>?_);exfalso;have h1:sgZ (q.den:Int)=0:=by simpa using h
  rcases by_ (q.den:Int) with⟨a,b⟩|⟨a,b⟩|⟨a,b⟩<;> omega
  refine ah_ (r_z 3 ?_);exact af_ (c_e (bx_ _))
theorem zd_one:zd 1=[1]:=by
 unfold zd;rw[cx_ (by decide) (by decide),show 1/ UB=0 by decide,bb_];rfl
theorem zZ_one{g:Nat}(h:g=1):zZ (g:Int)=[i64 1,.arr [[i64 1]]]:=by
 subst h;show [i64 (sgZ 1),AV.arr (iE (zd 1))]=_;rw[zd_one];rfl
theorem qh_{g:Nat}(h:(zd g).length=1):zd g=[g]:=by
 obtain⟨a,ha⟩:=List.length_eq_one_iff.1 h;have h1:=hv_zd g;rw[ha,iR_,lZ_] at h1;simp at h1;rw[ha,h1]
theorem lp_{n:Nat}(h:bl n≤4398046511104):(zd n).length≤281474976710656:=by
 rw[bh_];have:=aT_ (b:=UB) (by decide) n;omega
def ratS(n':Int)(D g:Nat):AState:=⟨[(2,.lptr 1 0 0),(3,.lptr 2 0 0),(4,.lptr 3 0 0),(5,.lptr 4 0 0)],[(1,some ⟨49,2,[zZ n']⟩),(2,some ⟨49,2,[zZ (D:Int)]⟩),(3,some ⟨51,4,[[i64 0,.emp,i64 0,.emp]]⟩),(4,some ⟨49,2,[zZ (g:Int)]⟩)],5,57⟩
theorem ic_(n d:Int)(hd:d≠0)(hn:bl n.natAbs≤4398046511104)(hb:bl d.natAbs≤4398046511104):FS 108 [.agg (zZ n),.agg (zZ d)] (.agg (rC (rq (Rat.divInt n d)))):=by
 refine f_c Tryz.func108 ?_;refine r_z 3 ?_;refine aP_ (fun n':Int=>⟨[(2,.lptr 1 0 0),(3,.lptr 2 0 0),(4,.lptr 3 0 0)],[(1,some ⟨49,2,[zZ n']⟩),(2,some ⟨49,2,[zZ (d.natAbs:Int)]⟩),(3,some ⟨51,4,[[i64 0,.emp,i64 0,.emp]]⟩)],4,57⟩) (fun n'=>n'.natAbs=n.natAbs∧Rat.divInt n d=mkRat n' d.natAbs) ?_ ?_;refine r_z 3 ?_;refine aj_ rfl (fun h=>?_) (fun h=>?_)
 have hneg:d< 0:=by
  have h1:sgZ d< 0:=by simpa using h
  rcases by_ d with⟨a,b⟩|⟨a,b⟩|⟨a,b⟩<;> omega
 have e: -d=(d.natAbs:Int):=by omega
 have hdn:=nh_ d;rw[e] at hdn;refine r_d hmix 6 ?_;refine c_s (nh_ n) ?_;refine c_s (hdn) ?_;refine a_2 ?_;refine al_ (n_k ?_);refine⟨-n,⟨by omega,ho_ n d hneg⟩,?_⟩;exact s_e []
 have hpos:0< d:=by
  have h1:¬sgZ d< 0:=by simpa using h
  rcases by_ d with⟨a,b⟩|⟨a,b⟩|⟨a,b⟩<;> omega
 have e:d=(d.natAbs:Int):=by omega
 refine ah_ ⟨n,⟨rfl,hn_ n d hpos⟩,?_⟩;rw[←e];exact s_e [];rintro n' ⟨hna,hv⟩;have hD:0< d.natAbs:=by omega
 obtain⟨D,hDd⟩:∃D,D=d.natAbs:=⟨_,rfl⟩;rw[hv];rw[←hDd] at hb hD⊢;rw[←hna] at hn;obtain⟨g,hg⟩:∃g,g=Nat.gcd n'.natAbs D:=⟨_,rfl⟩;have hgp:0< g:=by rw[hg];exact Nat.gcd_pos_of_pos_right _ hD
 have hgD:g≤D:=by rw[hg];exact Nat.gcd_le_right _ hD
 have hbg:=b0_ hgD;have hnum:(mkRat n' D).num.natAbs=n'.natAbs/ g:=by rw[eo_ hD,cZ_,hg]
 have hden:(mkRat n' D).den=D/ g:=by rw[(e4_ hD).2,hg]
 have hsg:=qI_ (n:=n') hD;have hgc:=fs_ZGcd n' (D:Int) hn (by rw[Int.natAbs_natCast];exact hb);rw[Int.natAbs_natCast,←hg] at hgc
 have hfin:rC (rq (mkRat n' D))=zZ (sgn (decide (n'< 0)) (n'.natAbs/ g))++zZ ((D/ g:Nat):Int):=by
  rw[rC_rq,hden,eo_ hD,←hg]
 rw[hfin];have hgn:bl (D/ g)≤bl D:=cM_ D g;have hgn2:bl (n'.natAbs/ g)≤bl n'.natAbs:=cM_ n'.natAbs g;refine r_c 5 (hgc) ?_;refine a_z ?_;refine aP_ (fun _:Unit=>ratS n' D g) (fun _=>g≠1) ?_ ?_;by_cases h1:g=1;rw[zZ_one h1];refine s_r 11 ?_;refine a_5 ?_
 first|refine y_g rfl rfl (.fieldAddr_l rfl TF.h (by decide)) ?_|refine y_g rfl rfl (.fieldAddr_a rfl TF.h (by decide)) ?_
 first|refine y_g rfl rfl (.load_l1 rfl rfl rfl TG.h rfl) ?_|refine y_g rfl rfl (.load_a1 rfl rfl TG.h rfl) ?_
 first|refine y_g rfl rfl (.index_l rfl rfl (by omega) (by omega) te_47.h) ?_|refine y_g rfl rfl (.index_a rfl rfl (by omega) rfl rfl te_47.h) ?_
 first|refine y_g rfl rfl (.load_l1 rfl rfl rfl TG.h rfl) ?_|refine y_g rfl rfl (.load_a1 rfl rfl TG.h rfl) ?_
 refine y_g rfl rfl (.bin rfl rfl a3_) ?_;refine o_0 (.pickT rfl rfl rfl) ?_;refine al_ ?_;refine aj_ rfl (fun h=>?_) (fun h=>?_);refine r_z 4 ?_;refine af_ ?_;rw[h1,Nat.div_one,Nat.div_one,show sgn (decide (n'< 0)) n'.natAbs=n' by unfold sgn;by_cases h0:n'< 0 <;> simp[h0]<;> omega];exact c_e (ay_ fun c hc=>(List.mem_append.1 hc).elim (bW_ _ c) (bW_ _ c));exact absurd h (by decide);by_cases hl:(zd g).length=1;have hz:=qh_ hl;have hz2:zZ (g:Int)=[i64 (sgZ (g:Int)),.arr (iE [g])]:=by show [i64 (sgZ (g:Int)),AV.arr (iE (zd g))]=_;rw[hz]
 rw[hz2];refine s_r 11 ?_;refine a_5 ?_
 first|refine y_g rfl rfl (.fieldAddr_l rfl TF.h (by decide)) ?_|refine y_g rfl rfl (.fieldAddr_a rfl TF.h (by decide)) ?_
 first|refine y_g rfl rfl (.load_l1 rfl rfl rfl TG.h rfl) ?_|refine y_g rfl rfl (.load_a1 rfl rfl TG.h rfl) ?_
 first|refine y_g rfl rfl (.index_l rfl rfl (by omega) (by omega) te_47.h) ?_|refine y_g rfl rfl (.index_a rfl rfl (by omega) rfl rfl te_47.h) ?_
 first|refine y_g rfl rfl (.load_l1 rfl rfl rfl TG.h rfl) ?_|refine y_g rfl rfl (.load_a1 rfl rfl TG.h rfl) ?_
 refine y_g rfl rfl (.bin rfl rfl a3_) ?_;refine o_0 (.pickT rfl rfl rfl) ?_;refine al_ ?_;refine aj_ rfl (fun h=>?_) (fun h=>?_);exact absurd h (by simp;omega);refine ah_ ⟨(),h1,?_⟩;rw[←hz2];unfold ratS;exact s_e [(4,5)];refine s_r 11 ?_;refine a_5 ?_;refine n_g rfl (by simp;omega) ?_;refine n_g rfl (by simp;omega) ?_;refine n_g rfl (by simp;omega) ?_;refine n_g rfl (by simp;omega) ?_;refine n_g rfl (by simp;omega) ?_;refine o_0 (.pickF rfl (by simp;omega) rfl) ?_;refine al_ ?_;refine aj_ rfl (fun h=>?_) (fun h=>?_);exact absurd h (by simp);refine ah_ ⟨(),h1,?_⟩;unfold ratS;exact s_e [(4,5)];rintro _ hg1;unfold ratS;have hzq:=e7_ (sgZ n') (zd (n'.natAbs/ g)) (sgn (decide (n'< 0)) (n'.natAbs/ g)) (lp_ (by omega)) (zd_lt _) (by rw[hv_zd,cZ_]) (fun h=>by rw[←hsg,eo_ hD,←hg]);have hzd:=e7_ 1 (zd (D/ g)) ((D/ g:Nat):Int) (lp_ (by omega)) (zd_lt _) (by rw[hv_zd,Int.natAbs_natCast]) (fun h=>by unfold sgZ;rw[if_neg h,if_neg (by omega)]);refine r_c 10 (h8_ n'.natAbs g hgp hn (by omega)) ?_;refine a_z ?_;refine r_c 10 (h8_ D g hgp hb (by omega)) ?_;refine a_z ?_;refine r_c 8 (hzq) ?_;refine c_s (hzd) ?_;refine a_z ?_;exact af_ (c_e (ay_ fun c hc=>(List.mem_append.1 hc).elim (bW_ _ c) (bW_ _ c)))
theorem zl_of{z:Int}{k:Nat}(h:bl z.natAbs≤k)(hk:k≤8796093022208):zl z:=Nat.le_trans h hk
theorem e8_(n:Int)(h: -9223372036854775808≤n∧n≤9223372036854775807):FS 49 [i64 n] (.agg (rC (rq (n:Rat)))):=by
 rw[rC_rq];refine f_c Tryz.func49 ?_;refine r_z 1 ?_;refine r_c 5 (f7_ n h) ?_;refine c_s (f7_ 1 (by decide)) ?_;refine a_z ?_;exact af_ (c_e (ay_ fun c hc=>(List.mem_append.1 hc).elim (bW_ _ c) (bW_ _ c)))
theorem fs_rOf(n d:Int)(hd:d≠0)(h: -9223372036854775808≤n∧n≤9223372036854775807)(h2: -9223372036854775808≤d∧d≤9223372036854775807):FS 39 [i64 n,i64 d] (.agg (rC (rq (Rat.divInt n d)))):=by
 have hb:∀z:Int,-9223372036854775808≤z→z≤9223372036854775807→bl z.natAbs≤4398046511104:=fun z h1 h2=>Nat.le_trans (bl_le (k:=64) (by omega)) (by decide);refine f_c Tryz.func39 ?_;refine r_z 1 ?_;refine r_c 6 (f7_ n h) ?_;refine c_s (f7_ d h2) ?_;refine c_s (ic_ n d hd (hb n h.1 h.2) (hb d h2.1 h2.2)) ?_;refine a_z ?_;exact af_ (c_e (cJ_ _))
theorem fs_rNeg(x:RQ)(hx:rok x):FS 53 [.agg (rC x)] (.agg (rC (rq (-x.1)))):=by
 rw[rC_rq,Rat.neg_num,Rat.neg_den];refine f_c Tryz.func53 ?_;refine r_z 2 ?_;refine ab_ (r_d hmix 7 ?_);refine c_s (nh_ x.1.num) ?_;refine c_s (dD_ x hx) ?_;refine a_2 ?_;refine al_ (n_k ?_);exact af_ (c_e (ay_ fun c hc=>(List.mem_append.1 hc).elim (bW_ _ c) (bW_ _ c)))
theorem oz_(x:RQ):FS 119 [.agg (rC x)] (i64 (sgZ x.1.num)):=by
 refine f_c Tryz.func119 ?_;refine r_z 2 ?_;refine r_z 4 ?_;exact af_ (t_e (ad_ _))
theorem iW_(x y:RQ)(hx:rok x)(hy:rok y)(h:qs x.1+qs y.1≤1099511627776):FS 62 [.agg (rC x),.agg (rC y)] (.agg (rC (rq (x.1+y.1)))):=by
 obtain⟨a,fa⟩:=x;obtain⟨b,fb⟩:=y;simp only at h⊢;have hp:=js_ a b;have h1:=b1_ a;have h2:=bR_ a;have h3:=b1_ b;have h4:=bR_ b;have e1:=ca_ (x:=a.num) (y:=b.den) h1 (by simpa using h4);have e2:=ca_ (x:=b.num) (y:=a.den) h3 (by simpa using h2);have e3:=hp.1;have e4:=hp.2;have hd:(a.den:Int) * b.den≠0:=by have:=fB_ a b;rw[←Int.natCast_mul];omega
 have e:a+b=Rat.divInt (a.num* b.den+b.num* a.den) (a.den* b.den):=by
  rw[jt_,←Int.natCast_mul,←Rat.divInt_ofNat]
 rw[e];have e5:bl ((a.den:Int) * b.den).natAbs≤qs a+qs b:=by rw[←Int.natCast_mul,Int.natAbs_natCast];exact e4
 refine f_c Tryz.func62 ?_;refine r_z 3 ?_;refine ab_ (r_d hmix 18 ?_);refine c_s (dD_ (b,fb) hy) ?_;refine c_s (e9_ a.num b.den (zl_of h1 (by omega)) (zl_of (by simpa using h4) (by omega))) ?_;refine c_s (dD_ (a,fa) hx) ?_;refine c_s (e9_ b.num a.den (zl_of h3 (by omega)) (zl_of (by simpa using h2) (by omega))) ?_;refine c_s (fs_ZAdd (a.num* b.den) (b.num* a.den) (zl_of e1 (by omega)) (zl_of e2 (by omega))) ?_;refine c_s (dD_ (a,fa) hx) ?_;refine c_s (dD_ (b,fb) hy) ?_;refine c_s (e9_ a.den b.den (zl_of (by simpa using h2) (by omega)) (zl_of (by simpa using h4) (by omega))) ?_;refine c_s (ic_ (a.num* b.den+b.num* a.den) (a.den* b.den) hd (by omega) (by omega)) ?_;refine a_1 ?_;refine al_ (n_k ?_);exact af_ (c_e (cJ_ _))
theorem kH_(x y:RQ)(hx:rok x)(hy:rok y)(h:qs x.1+qs y.1≤1099511627776):FS 41 [.agg (rC x),.agg (rC y)] (.agg (rC (rq (x.1* y.1)))):=by
 obtain⟨a,fa⟩:=x;obtain⟨b,fb⟩:=y;simp only at h⊢;have hp:=iH_ a b;have h1:=b1_ a;have h2:=bR_ a;have h3:=b1_ b;have h4:=bR_ b;have e3:=hp.1;have e4:=hp.2;have hd:(a.den:Int) * b.den≠0:=by have:=fB_ a b;rw[←Int.natCast_mul];omega
 have e:a* b=Rat.divInt (a.num* b.num) (a.den* b.den):=by
  rw[gp_,←Int.natCast_mul,←Rat.divInt_ofNat]
 rw[e];have e5:bl ((a.den:Int) * b.den).natAbs≤qs a+qs b:=by rw[←Int.natCast_mul,Int.natAbs_natCast];exact e4
 refine f_c Tryz.func41 ?_;refine r_z 3 ?_;refine ab_ (r_d hmix 12 ?_);refine c_s (e9_ a.num b.num (zl_of h1 (by omega)) (zl_of h3 (by omega))) ?_;refine c_s (dD_ (a,fa) hx) ?_;refine c_s (dD_ (b,fb) hy) ?_;refine c_s (e9_ a.den b.den (zl_of (by simpa using h2) (by omega)) (zl_of (by simpa using h4) (by omega))) ?_;refine c_s (ic_ (a.num* b.num) (a.den* b.den) hd (by omega) (by omega)) ?_;refine a_1 ?_;refine al_ (n_k ?_);exact af_ (c_e (cJ_ _))
theorem fs_rDiv(x y:RQ)(hx:rok x)(hy:rok y)(hy0:y.1≠0)(h:qs x.1+qs y.1≤1099511627776):FS 132 [.agg (rC x),.agg (rC y)] (.agg (rC (rq (x.1/ y.1)))):=by
 obtain⟨a,fa⟩:=x;obtain⟨b,fb⟩:=y;simp only at h hy0⊢;have h1:=b1_ a;have h2:=bR_ a;have h3:=b1_ b;have h4:=bR_ b;have e1:=ca_ (x:=a.num) (y:=b.den) h1 (by simpa using h4);have e2:=ca_ (x:=a.den) (y:=b.num) (by simpa using h2) h3;have hn0:b.num≠0:=fun e=>hy0 (Rat.num_eq_zero.1 e);have hd:(a.den:Int) * b.num≠0:=Int.mul_ne_zero (by have:=a.den_pos;omega) hn0;rw[fA_];refine f_c Tryz.func132 ?_;refine r_z 3 ?_;refine ab_ (r_d hmix 12 ?_);refine c_s (dD_ (b,fb) hy) ?_;refine c_s (e9_ a.num b.den (zl_of h1 (by omega)) (zl_of (by simpa using h4) (by omega))) ?_;refine c_s (dD_ (a,fa) hx) ?_;refine c_s (e9_ a.den b.num (zl_of (by simpa using h2) (by omega)) (zl_of h3 (by omega))) ?_;refine c_s (ic_ (a.num* b.den) (a.den* b.num) hd (by omega) (by omega)) ?_;refine a_1 ?_;refine al_ (n_k ?_);exact af_ (c_e (cJ_ _))
def powQ(q:Rat):Nat→Rat
 |0=>q
 |k+1=>powQ q k* q
theorem ra_(q:Rat):∀k,qs (powQ q k)≤(k+1) * qs q
 |0=>by simp[powQ]
 |k+1=>by
  have h1:=cE_ (powQ q k) q;have h2:=ra_ q k;show qs (powQ q k* q)≤_;rw[Nat.add_mul (k+1),Nat.one_mul];omega
def dNum(D:Int):Int:=if D=0 then 1 else D
def numV(N D:Int)(p:Nat):Rat:=powQ (Rat.divInt N (dNum D)) (p % 4)
def nuC(N D:Int)(p:Nat):List AV:=[i64 N,i64 D,.v (.int .u8 p)]
def i64r(n:Int):Prop:= -9223372036854775808≤n∧n≤9223372036854775807
theorem fE_(N D:Int)(p:Nat):∀c∈nuC N D p,Closed c:=aa_ (ad_ _) (aa_ (ad_ _) (aa_ (ad_ _) ac_))
theorem div_cast(n d:Int):(n:Rat) / (d:Rat)=Rat.divInt n d:=(Rat.divInt_eq_div n d).symm
def boT(N:Int)(D:Int)(p:Nat)(q:Rat):Nat→AState
 |k=>⟨[(1,.lptr 1 0 0),(2,.lptr 2 0 0),(3,.lptr 3 0 0),(4,.lptr 4 0 0),(6,.lptr 5 0 0),(7,.lptr 6 0 0),(8,.lptr 7 0 0),(9,.v (.int .u8 k))],
  [(1,some ⟨24,3,[nuC N D p]⟩),(2,some ⟨46,3,[zC]⟩),(3,some ⟨51,4,[[i64 0,.emp,i64 0,.emp]]⟩),(4,some ⟨46,3,[qC q]⟩),(5,some ⟨51,4,[rC (rq q)]⟩),(6,some ⟨46,3,[qC (powQ q k)]⟩),(7,some ⟨51,4,[rC (rq (powQ q k))]⟩)],8,44⟩
theorem kX_(N D:Int)(p:Nat)(hN:i64r N)(hD:i64r D)(hp:p≤255):FS 10 [.agg (nuC N D p)] (.tup [.agg (qC (numV N D p)),.agg (rC (rq (numV N D p)))]):=by
 obtain⟨d,hd⟩:∃d,d=dNum D:=⟨_,rfl⟩;have hd0:d≠0:=by rw[hd];unfold dNum;split <;> omega
 have hdr:i64r d:=by
  rw[hd];unfold dNum i64r;unfold i64r at hD;split <;> omega
 unfold i64r at hN hdr;obtain⟨q,hq⟩:∃q,q=Rat.divInt N d:=⟨_,rfl⟩;have hof:=fs_Of N d hN hdr hd0;rw[div_cast,←hq] at hof;have hro:=fs_rOf N d hd0 hN hdr;rw[←hq] at hro;have hnv:numV N D p=powQ q (p % 4):=by unfold numV;rw[←hd,←hq]
 rw[hnv];refine f_n Tryz.func10 ?_ ?_;exact aa_ (ay_ (fE_ N D p)) ac_;refine r_z 3 ?_
 refine aP_ (fun _:Unit=>⟨[(1,.lptr 1 0 0),(2,.lptr 2 0 0),(3,.lptr 3 0 0)],
  [(1,some ⟨24,3,[nuC N d p]⟩),(2,some ⟨46,3,[zC]⟩),(3,some ⟨51,4,[[i64 0,.emp,i64 0,.emp]]⟩)],4,44⟩) (fun _=>True) ?_ ?_
 refine r_z 3 ?_;refine aj_ rfl (fun h1=>?_) (fun h1=>?_);have h2:D=0:=by simpa using h1
 have h3:d=1:=by rw[hd];unfold dNum;rw[if_pos h2]
 refine r_m 2 ?_;refine a_z ?_;refine⟨(),trivial,?_⟩;rw[h3];have:=fE_ N 1 p;exact s_f [];have h2:¬D=0:=by simpa using h1
 have h3:d=D:=by rw[hd];unfold dNum;rw[if_neg h2]
 refine ah_ ⟨(),trivial,?_⟩;rw[h3];have:=fE_ N D p;exact s_f [];rintro _ _;refine r_c 11 (hof) ?_;refine a_z ?_;refine r_c 7 (hro) ?_;refine a_z ?_;refine ab_ (r_d hmix 6 ?_);refine a_6 ?_;refine al_ (n_k ?_);refine ab_ (r_z 1 ?_)
 have hqs:qs q≤64:=by
  have hb:∀z:Int,-9223372036854775808≤z∧z≤9223372036854775808→bl z.natAbs≤64:=fun z h=>bl_le (k:=64) (by omega);rw[hq];by_cases hn:d< 0;rw[ho_ N d hn];exact c7_ (by omega) (hb (-N) (by omega)) (hb d (by omega));rw[hn_ N d (by omega)];exact c7_ (by omega) (hb N (by omega)) (hb d (by omega))
 have hm4:(p:Int) % 4=((p % 4:Nat):Int):=by omega
 refine aw_ (fun _:Unit=>boT N d p q (p % 4)) (fun _=>True) ?_ ?_;refine ae_ (aq_ (boT N d p q) (fun k=>p % 4- k) (fun k=>k≤p % 4) 0 (Nat.zero_le _) ?_ ?_);simp only[boT.eq_1,powQ];exact s_f [(4,4),(5,6),(6,7),(7,8)];rintro k hk;rw[boT.eq_1];refine ab_ (r_z 5 ?_);refine aj_ rfl (fun h=>?_) (fun h=>?_);refine ah_ ?_
 have hlt:k< p % 4:=by
  have h2:(k:Int)< (p:Int) % 4:=by simpa using h
  omega
 have hpk:=ra_ q k;have hpk2:(k+1) * qs q≤4* 64:=Nat.mul_le_mul (by omega) hqs;refine ab_ (ae_ (r_d hmix 8 ?_));refine c_s (bK_ (powQ q k) q (by omega)) ?_;refine c_s (kH_ (rq (powQ q k)) (rq q) (du_ _) (du_ _) (by simp only[rq];omega)) ?_;refine a_2 ?_;refine al_ (n_k ?_);refine r_m 3 ?_;refine a_z ?_;refine⟨k+1,by omega,hlt,?_⟩;simp only[boT.eq_1];exact s_f []
 have hge:k=p % 4:=by
  have h2:¬(k:Int)< (p:Int) % 4:=by simpa using h
  omega
 subst hge;refine ao_ ⟨(),trivial,?_⟩;exact s_f [];rintro _ _;rw[boT.eq_1];refine ab_ (r_d hmix 4 ?_);refine a_4 ?_;refine al_ (n_k ?_);refine af_ (Fin.many ⟨_,_,rfl,⟨_,_,_,_,_,rfl,rfl,rfl,.inl ⟨TG.h,_,TS.h,nle rfl,rfl⟩⟩,⟨_,_,rfl,⟨_,_,_,_,_,rfl,rfl,rfl,.inl ⟨TG.h,_,TS.h,nle rfl,rfl⟩⟩,rfl⟩⟩ (nle rfl) ?_);exact ai_ (ak_ ax_ (aC_ _)) (ai_ (ak_ ax_ (cJ_ _)) an_)
def twP:List Rat:=aN_ [0,1] 2
def chP:Nat→List Rat×List Rat
 |0=>(bo_ 1,[0,1])
 |k+1=>((chP k).2,subP (mulP twP (chP k).2) (chP k).1)
def okCh(k:Nat):Prop:=okMul twP (chP k).2∧smL (chP k).1∧(mulP twP (chP k).2).length≤274877906944∧(chP k).1.length≤274877906944
instance (k:Nat):Decidable (okCh k):=inferInstanceAs (Decidable (_∧_∧_∧_))
def chL2(n:Nat):List (List Rat):=(List.range n).map fun k=>(chP k).1
@[simp] theorem chL2_length (n:Nat):(chL2 n).length=n:=by simp[chL2]
def okTo(L:Nat)(p t:List Rat)(k:Rat)(n:Nat):Prop:=n< L∧smL p∧smL t∧leadP t≠0∧sm k∧smL (aN_ t k)∧p.length≤274877906944∧t.length≤274877906944
instance (L:Nat) (p t:List Rat) (k:Rat) (n:Nat):Decidable (okTo L p t k n):=inferInstanceAs (Decidable (_∧_∧_∧_∧_∧_∧_∧_))

inductive LeLL:List (List AV)→List (List AV)→Prop
 |nil:LeLL [] []
 |cons {e e' es es'}:LeL e e'→LeLL es es'→LeLL (e::es) (e'::es')
theorem leL_len{xs ys:List AV}(h:LeL xs ys):ys.length=xs.length:=by
 induction h with
 |nil=>rfl
 |cons _ _ ih=>simp[ih]
theorem leL_cs{M:Nat→Prop}{β:Nat→Option (Nat×Nat)}{w:World}{b:Nat}{xs ys:List AV}(h:LeL xs ys):∀{off:Nat},RVcs M β w b xs off→RVcs M β w b ys off:=by
 induction h with
 |nil=>exact fun h=>h
 |cons h1 _ ih=>rintro off ⟨⟨x,hx,hr⟩,hs⟩;exact⟨⟨x,hx,h1 M β w x hr⟩,ih hs⟩
theorem LeLL.ess{M:Nat→Prop}{β:Nat→Option (Nat×Nat)}{w:World}{b s:Nat}{es es':List (List AV)}(h:LeLL es es'):∀{off:Nat},RVess M β w b s es off→RVess M β w b s es' off:=by
 induction h with
 |nil=>exact fun h=>h
 |cons h1 _ ih=>rintro off ⟨h0,hc,hr⟩;exact⟨(leL_len h1).trans h0,leL_cs h1 hc,ih hr⟩
theorem LeLL.length{es es':List (List AV)}(h:LeLL es es'):es'.length=es.length:=by
 induction h with
 |nil=>rfl
 |cons _ _ ih=>simp[ih]
theorem Le.arr{es es':List (List AV)}(h:LeLL es es'):Le (.arr es) (.arr es'):=by
 rintro M β w y ⟨a,c,rfl,h1,h2,h3⟩;refine⟨a,c,by rw[h.length],by rw[h.length];exact h1,h2,h3.imp (fun e=>?_) ?_⟩;subst e;cases h;rfl;rintro⟨b,off,s,rfl,hN,hm,hr⟩;exact⟨b,off,s,rfl,hN,hm,h.ess hr⟩
theorem LeLL.refl:∀es,LeLL es es
 |[]=> .nil
 |e::es=> .cons (LeL.refl e) (LeLL.refl es)
section
variable {P:Go.Program}{T:Nat}{x y:Operand}
end
abbrev NRow:=Int×Int×Nat
def nV(r:NRow):Rat:=numV r.1 r.2.1 r.2.2
def nR(l:List NRow):List (List AV):=l.map fun r=>nuC r.1 r.2.1 r.2.2
def nL(l:List NRow):List Rat:=l.map nV
abbrev rL(l:List Rat):List (List AV):=rE (l.map rq)
def okR(l:List NRow):Prop:=∀r∈l,i64r r.1∧i64r r.2.1∧r.2.2≤255
theorem bC_(l:List NRow):∀e∈nR l,∀c∈e,Closed c:=by
 intro e he c hc;obtain⟨r,_,rfl⟩:=List.mem_map.1 he;exact fE_ _ _ _ c hc
theorem fg_(l:List Rat):∀e∈rL l,∀c∈e,Closed c:=dA_ _
def liS(l:List NRow):List Rat→Nat→AState
 |[],i=>⟨[(0,.arr (nR l)),(4,.emp),(5,.emp),(6,i64 i)],[],1,33⟩
 |q::Q,i=>⟨[(0,.arr (nR l)),(4,.lsl 1 0 (Q.length+1) none 3),(5,.lsl 2 0 (Q.length+1) none 4),(6,i64 i)],[(1,some ⟨46,3,pE (q::Q)⟩),(2,some ⟨51,4,rL (q::Q)⟩)],3,33⟩
theorem iK_(l:List NRow)(i:Nat):liS l [] i=⟨[(0,.arr (nR l)),(4,.emp),(5,.emp),(6,i64 i)],[],1,33⟩:=rfl
theorem ft_(l:List NRow)(q:Rat)(Q:List Rat)(i:Nat):liS l (q::Q) i=⟨[(0,.arr (nR l)),(4,.lsl 1 0 (Q.length+1) none 3),(5,.lsl 2 0 (Q.length+1) none 4),(6,i64 i)],[(1,some ⟨46,3,pE (q::Q)⟩),(2,some ⟨51,4,rL (q::Q)⟩)],3,33⟩:=rfl
theorem fs_List(l:List NRow)(hl:l.length≤1099511627776)(hb:okR l):FS 15 [.arr (nR l)] (.tup [.arr (pE (nL l)),.arr (rL (nL l))]):=by
 have hcr:∀q:Rat,∀e∈[rC (rq q)],∀c∈e,Closed c:=fun q=>fg_ [q];refine f_n Tryz.func15 ?_ ?_;exact aa_ (aB_ (bC_ l)) ac_;refine r_z 2 ?_;refine r_z 1 ?_;refine r_z 1 ?_;refine ab_ (r_z 1 ?_);refine aw_ (fun _:Unit=>liS l (nL l) l.length) (fun _=>True) ?_ ?_;refine ae_ (aq_ (fun i:Nat=>liS l (nL (l.take i)) i) (fun i=>l.length- i) (fun i=>i≤l.length) 0 (Nat.zero_le _) ?_ ?_);show SEnt _ (liS l [] 0);rw[iK_];have:=(aB_ (bC_ l));exact s_f [];rintro i hi;have hlen:(nR l).length=l.length:=by simp[nR]
 by_cases hlt:i< l.length
 ·obtain⟨n,hn⟩:∃n,l[i]?=some n:=⟨_,List.getElem?_eq_getElem hlt⟩
  have hgt:(nR l)[((i:Nat):Int).toNat]?=some (nuC n.1 n.2.1 n.2.2):=by
   show(nR l)[i]?=_;simp[nR,hn]
  obtain⟨hn1,hn2,hn3⟩:=hb n (List.mem_of_getElem? hn);have hbo:=kX_ n.1 n.2.1 n.2.2 hn1 hn2 hn3;obtain⟨v,hv⟩:∃v,v=numV n.1 n.2.1 n.2.2:=⟨_,rfl⟩;rw[←hv] at hbo;have htk:nL (l.take (i+1))=nL (l.take i)++[v]:=by rw[bm_ hn];simp[nL,nV,hv]
  have hQl:(nL (l.take i)).length=i:=by simp[nL];omega
  cases hQ:nL (l.take i) with
  |nil=>
   simp only[iK_];refine ab_ (r_z 4 ?_);refine aj_ rfl (fun h=>?_) (fun h=>?_);rotate_left;exact absurd h (by simp[nR];omega);refine ah_ (ab_ (ae_ (s_r 12 ?_)));refine a_2 ?_;refine i_x hgt ?_;refine l_x hgt ?_;refine c_s (hbo) ?_;refine a_z ?_;refine r_d hmix 10 ?_;refine a_8 ?_;refine a_2 ?_;refine al_ (n_k ?_);refine r_m 3 ?_;refine a_z ?_;refine⟨i+1,by omega,hlt,?_⟩;simp only[htk,hQ,List.nil_append,ft_];refine s_x [(1,4),(2,5)] (fun hs=>e_33) (fun hs=>?_)
   ·repeat' (first|exact az_|refine h_c ?_ ?_|exact a9_ hs (aI_ [v])|exact a9_ hs (fg_ [v])|exact au_e|refine av_ ?_|exact an_|refine ai_ ?_ ?_|exact ak_ hs (aB_ (bC_ l))|exact au_c)
  |cons q Q=>
   rw[hQ] at hQl;simp at hQl;simp only[ft_];refine ab_ (r_z 4 ?_);refine aj_ rfl (fun h=>?_) (fun h=>?_);rotate_left;exact absurd h (by simp[nR];omega);refine ah_ (ab_ (ae_ (s_r 12 ?_)));refine a_2 ?_;refine i_x hgt ?_;refine l_x hgt ?_;refine c_s (hbo) ?_;refine a_z ?_;refine r_d hmix 10 ?_;refine a_8 ?_;refine a_2 ?_;refine al_ (n_k ?_);refine r_m 3 ?_;refine a_z ?_;refine⟨i+1,by omega,hlt,?_⟩;simp only[htk,hQ,List.cons_append,ft_];have e:pE (q::Q)++[qC v]=pE (q::(Q++[v])):=by simp[pE]
   have e2:rL (q::Q)++[rC (rq v)]=rL (q::(Q++[v])):=by simp[rE]
   refine s_x [(1,4),(2,5)] (fun hs=>e_33) (fun hs=>?_) e_1
   ·repeat' (first|exact az_|refine h_c ?_ ?_|exact aF_ hs e (aI_ _)|exact aF_ hs e2 (fg_ _)|exact au_e|refine av_ ?_|exact an_|refine ai_ ?_ ?_|exact ak_ hs (aB_ (bC_ l))|exact au_c)
 have hge:i=l.length:=by omega
 subst hge;simp only[List.take_length];cases hQ:nL l with
 |nil=>
  simp only[iK_];refine ab_ (r_z 4 ?_);refine aj_ rfl (fun h=>?_) (fun h=>?_);exact absurd h (by simp[nR]);refine ao_ ⟨(),trivial,?_⟩;simp only[hQ,iK_];have:=(aB_ (bC_ l));exact s_f []
 |cons q Q=>
  simp only[ft_];refine ab_ (r_z 4 ?_);refine aj_ rfl (fun h=>?_) (fun h=>?_);exact absurd h (by simp[nR]);refine ao_ ⟨(),trivial,?_⟩;simp only[hQ,ft_];have:=(aB_ (bC_ l));exact s_f []
 rintro _ _;cases hQ:nL l with
 |nil=>
  simp only[iK_];refine r_z 4 ?_;refine af_ (Fin.many ⟨_,_,rfl,rfl,⟨_,_,rfl,rfl,rfl⟩⟩ (nle rfl) ?_);exact ai_ (Cv.emp _) (ai_ (Cv.emp _) an_)
 |cons q Q=>
  simp only[ft_];refine r_z 4 ?_;refine af_ (Fin.many ⟨_,_,rfl,rfl,⟨_,_,rfl,rfl,rfl⟩⟩ (nle rfl) ?_);exact ai_ (Cv.sealE ax_ rfl (fun _ _ h=>by cases h) rfl (by simp) (aI_ _)) (ai_ (Cv.sealE ax_ rfl (fun _ _ h=>by cases h) rfl (by simp) (fg_ _)) an_)
theorem kW_(l:List NRow)(hl:l.length≤1099511627776)(hb:okR l):FS 31 [.arr (nR l)] (.tup [.arr (pE (nL l)),.arr (rL (nL l))]):=by
 refine f_n Tryz.func31 ?_ ?_;exact aa_ (aB_ (bC_ l)) ac_;refine r_z 2 ?_;refine r_c 7 (fs_List l hl hb) ?_;refine a_z ?_;refine r_z 4 ?_;refine af_ (Fin.many ⟨_,_,rfl,rfl,⟨_,_,rfl,rfl,rfl⟩⟩ (nle rfl) ?_);exact ai_ (ak_ ax_ (aB_ (aI_ _))) (ai_ (ak_ ax_ (aB_ (fg_ _))) an_)
end Go.Proofs.YtjkddcfoolilbaaGreatDoor
namespace Go.Proofs.YtjkddcfoolilbaaGreatDoor
open Go.Abs Go.Deep Go.RowKit
set_option maxRecDepth 20000
theorem st_{M:Nat→Prop}{β:Nat→Option (Nat×Nat)}{w:World}{b s off:Nat}{f:Nat→List AV}:∀(n j:Nat),(∀i,i< j+n→(f i).length=s∧RVcs M β w b (f i) (off+i* s))→RVess M β w b s ((List.range' j n).map f) (off+j* s)
 |0,_,_=>trivial
 |n+1,j,h=>by
  rw[List.range'_succ,List.map_cons];refine⟨(h j (by omega)).1,(h j (by omega)).2,?_⟩;have:=st_ (M:=M) (β:=β) (w:=w) (b:=b) (s:=s) (off:=off) n (j+1) (fun i hi=>h i (by omega));rwa[Nat.add_mul,Nat.one_mul,←Nat.add_assoc] at this
theorem hy_{w:World}{b o:Nat}{v:Value}(h:w.cell? ⟨b,o,none⟩=some v):∃N,aJ_ w b=some N:=by
 unfold World.cell? at h;unfold aJ_;split at h
 ·rename_i c _ _ e;rw[show w.heap[b]?=_ from e];exact⟨c.size,rfl⟩
 cases h
theorem tyS:(Tryz.prog).underlying 25=some (.slice 24):=by kernel_rfl
theorem tyN:∃f0 f1 f2,(Tryz.prog).underlying 24=some (.struct #[f0,f1,f2])∧f0.type=2∧f0.offset=0∧f1.type=2∧f1.offset=1∧f2.type=5∧f2.offset=2:=
 ⟨{name:= "N",type:=2,offset:=0,embedded:=false,tag:= "",pkgPath:= "",byteOffset:=0},{name:= "D",type:=2,offset:=1,embedded:=false,tag:= "",pkgPath:= "",byteOffset:=8},{name:= "Pow",type:=5,offset:=2,embedded:=false,tag:= "",pkgPath:= "",byteOffset:=16},by kernel_rfl,rfl,rfl,rfl,rfl,rfl,rfl⟩
theorem tyc82:(Tryz.prog).cellsOf 24=3:=by kernel_rfl
theorem tyc2:(Tryz.prog).cellsOf 2=1:=by kernel_rfl
theorem tyc5:(Tryz.prog).cellsOf 5=1:=by kernel_rfl
theorem tyu2:(Tryz.prog).underlying 2=some (.int .i64):=by kernel_rfl
theorem tyu5:(Tryz.prog).underlying 5=some (.int .u8):=by kernel_rfl
theorem num_of{H:Type}{enc:TypeId×Value→H}{W:World}{base n:Nat}{spare:Nat→Bool}{held:Bool}{cs:List Value}{x:DataW H×List MemPlace}(h:DataW.trod enc Tryz.prog W base spare held n 24 cs=some x):
    ∃r:NRow,i64r r.1∧i64r r.2.1∧r.2.2≤255∧cs=[.int .i64 r.1,.int .i64 r.2.1,.int .u8 r.2.2]:=by
 obtain⟨f0,f1,f2,hu,h1,h2,h3,h4,h5,h6⟩:=tyN;obtain⟨y0,y1,y2,m,_,hl,g0,g1,g2⟩:=trod_struct3 hu h;rw[h1,h2,tyc2] at g0;rw[h3,h4,tyc2] at g1;rw[h5,h6,tyc5] at g2;rw[tyc82] at hl;obtain⟨n0,e0,_,w0⟩:=DataW.trod_int tyu2 g0;obtain⟨n1,e1,_,w1⟩:=DataW.trod_int tyu2 g1;obtain⟨n2,e2,_,w2⟩:=DataW.trod_int tyu5 g2
 match cs,hl with
 |[c0,c1,c2],_=>
  simp at e0 e1 e2;subst e0;subst e1;subst e2;have b2:=bounds_u8 w2;refine⟨(n0,n1,n2.toNat),bounds_i64 w0,bounds_i64 w1,?_,?_⟩;show n2.toNat≤255;omega;show _=[_,_,Value.int .u8 ((n2.toNat:Nat):Int)];rw[Int.toNat_of_nonneg b2.1]
theorem mW_{H:Type}{enc:TypeId×Value→H}{W:World}{a:Option Addr}{len cap:Nat}{d:DataW H}{ps:List MemPlace}(h:DataW.Trod enc Tryz.prog W 0 (fun _=>true) true 25 (.slice a len cap) d ps):
    ∃l:List NRow,okR l∧RV (fun _=>False) (fun _=>none) W (.arr (nR l)) (.slice a len cap):=by
 obtain⟨fuel,hf⟩:=h;rcases open_slice tyS hf with⟨hcs,_⟩|⟨x,len',cap',m,n,D,Pl,hcs,_,hl,hm,hmm,_,hx⟩
 simp[Value.cells] at hcs;obtain⟨rfl,rfl,rfl⟩:=hcs;exact⟨[],(fun r hr=>by cases hr),none,0,rfl,Nat.le_refl _,by decide,.inl rfl⟩;simp[Value.cells] at hcs;obtain⟨rfl,rfl,rfl⟩:=hcs;simp only[if_true] at hmm;have hmc:m=cap:=hmm;rw[hmc] at hx;rw[tyc82] at hx
 have hx':∀i,i< len→∃r:NRow,(i64r r.1∧i64r r.2.1∧r.2.2≤255)∧W.cells? 0 (x.add (i* 3)) 3=some [.int .i64 r.1,.int .i64 r.2.1,.int .u8 r.2.2]:=fun i hi=>by
  obtain⟨cs',g1,g2⟩:=hx i (by omega);obtain⟨r,r1,r2,r3,e⟩:=num_of g2;exact⟨r,⟨r1,r2,r3⟩,by rw[g1,e]⟩
 obtain⟨R,hR⟩:=choose_lt (α:=NRow) hx';refine⟨(List.range len).map R,?_,some x,cap,by simp[nR],by simpa[nR] using hl,hm,?_⟩;intro r hr;obtain⟨i,hi,rfl⟩:=List.mem_map.1 hr;exact(hR i (List.mem_range.1 hi)).1;by_cases h0:len=0;subst h0;exact .inl rfl;right
 have c:∀i,i< len→∀j (v:Value),[.int .i64 (R i).1,.int .i64 (R i).2.1,.int .u8 (R i).2.2][j]?=some v→W.cell? (x.add (i* 3+j))=some v:=fun i hi j v hv=>by
  have hj:j< 3:=by
   have:=(List.getElem?_eq_some_iff.1 hv).1;simpa using this
  have:=(World.cells?_some (hR i hi).2).2.2 j hj;rw[hv,Go.Deep.add_add] at this;exact this
 have c0:=c 0 (by omega) 0 _ rfl;obtain⟨b,off,spot⟩:=x;have hspot:spot=none:=by simpa[Addr.add] using World.cell?_spot c0
 subst hspot
 have hadd:∀k,Addr.add ⟨b,off,none⟩ k=⟨b,off+k,none⟩:=fun k=>by
  unfold Addr.add;by_cases hk:k=0;simp[hk];simp[hk]
 refine⟨b,off,3,rfl,hy_ (by rw[hadd] at c0;exact c0),(fun h=>h),?_⟩;have:=st_ (M:=fun _=>False) (β:=fun _=>none) (w:=W) (b:=b) (s:=3) (off:=off) (f:=fun i=>nuC (R i).1 (R i).2.1 (R i).2.2) len 0 (fun i hi=>⟨rfl,?_⟩);rw[Nat.zero_mul,Nat.add_zero,←List.range_eq_range'] at this;rw[nR,List.map_map];exact this;have hi':i< len:=by omega
 refine⟨⟨_,?_,rfl⟩,⟨_,?_,rfl⟩,⟨_,?_,rfl⟩,trivial⟩;have:=c i hi' 0 _ rfl;rw[hadd] at this;exact this;have:=c i hi' 1 _ rfl;rw[hadd] at this;rw[Nat.add_assoc];exact this;have:=c i hi' 2 _ rfl;rw[hadd] at this;rw[Nat.add_assoc,Nat.add_assoc];exact this
end Go.Proofs.YtjkddcfoolilbaaGreatDoor
namespace Go.Proofs.YtjkddcfoolilbaaGreatDoor
open Go.Shelf
def pA_:Go.Shelf.Ren:=⟨fun|171=>104|243=>158|246=>197|283=>237|284=>238|285=>239|286=>240|129=>255|317=>274|318=>275|319=>276|320=>277|337=>292|338=>293|n=>n,fun|3=>3|9=>9|2=>2|4=>4|171=>287|0=>0|53=>205|37=>172|5=>5|173=>290|212=>315|51=>204|20=>20|213=>316|46=>257|232=>331|233=>332|n=>n,fun|17=>0|18=>2|19=>3|n=>n⟩
theorem lay171:Go.Proofs.LaysM.n171 Tryz.prog pA_:={
 mixed:=by kernel_rfl,
 f129:=Tryz.func255.trans (congrArg some (by kernel_rfl)),
 f171:=Tryz.func104.trans (congrArg some (by kernel_rfl)),
 f243:=Tryz.func158.trans (congrArg some (by kernel_rfl)),
 f246:=Tryz.func197.trans (congrArg some (by kernel_rfl)),
 f283:=Tryz.func237.trans (congrArg some (by kernel_rfl)),
 f284:=Tryz.func238.trans (congrArg some (by kernel_rfl)),
 f285:=Tryz.func239.trans (congrArg some (by kernel_rfl)),
 f286:=Tryz.func240.trans (congrArg some (by kernel_rfl)),
 f317:=Tryz.func274.trans (congrArg some (by kernel_rfl)),
 f318:=Tryz.func275.trans (congrArg some (by kernel_rfl)),
 f319:=Tryz.func276.trans (congrArg some (by kernel_rfl)),
 f320:=Tryz.func277.trans (congrArg some (by kernel_rfl)),
 f337:=Tryz.func292.trans (congrArg some (by kernel_rfl)),
 f338:=Tryz.func293.trans (congrArg some (by kernel_rfl)),
 t0:=Tryz.underlying0,
 a0:=Tryz.isAgg0,
 z0:=Tryz.sizeOf0,
 v0:=Tryz.zeroValue0,
 t2:=Tryz.underlying2,
 a2:=Tryz.isAgg2,
 z2:=Tryz.sizeOf2,
 v2:=Tryz.zeroValue2,
 t3:=Tryz.underlying3,
 a3:=Tryz.isAgg3,
 z3:=Tryz.sizeOf3,
 v3:=Tryz.zeroValue3,
 t4:=Tryz.underlying4,
 a4:=Tryz.isAgg4,
 z4:=Tryz.sizeOf4,
 v4:=Tryz.zeroValue4,
 t5:=Tryz.underlying5,
 a5:=Tryz.isAgg5,
 z5:=Tryz.sizeOf5,
 v5:=Tryz.zeroValue5,
 t9:=Tryz.underlying9,
 a9:=Tryz.isAgg9,
 z9:=Tryz.sizeOf9,
 v9:=Tryz.zeroValue9,
 t20:=Tryz.underlying20,
 a20:=Tryz.isAgg20,
 z20:=Tryz.sizeOf20,
 v20:=Tryz.zeroValue20,
 t37:=Tryz.underlying172,
 a37:=Tryz.isAgg172,
 z37:=Tryz.sizeOf172,
 v37:=Tryz.zeroValue172,
 t46:=Tryz.underlying257,
 a46:=Tryz.isAgg257,
 z46:=Tryz.sizeOf257,
 v46:=Tryz.zeroValue257,
 t51:=Tryz.underlying204,
 a51:=Tryz.isAgg204,
 z51:=Tryz.sizeOf204,
 v51:=Tryz.zeroValue204,
 t53:=Tryz.underlying205,
 a53:=Tryz.isAgg205,
 z53:=Tryz.sizeOf205,
 v53:=Tryz.zeroValue205,
 t171:=Tryz.underlying287,
 a171:=Tryz.isAgg287,
 z171:=Tryz.sizeOf287,
 v171:=Tryz.zeroValue287,
 t173:=Tryz.underlying290,
 a173:=Tryz.isAgg290,
 z173:=Tryz.sizeOf290,
 v173:=Tryz.zeroValue290,
 t212:=Tryz.underlying315,
 a212:=Tryz.isAgg315,
 z212:=Tryz.sizeOf315,
 v212:=Tryz.zeroValue315,
 t213:=Tryz.underlying316,
 a213:=Tryz.isAgg316,
 z213:=Tryz.sizeOf316,
 t232:=Tryz.underlying331,
 a232:=Tryz.isAgg331,
 z232:=Tryz.sizeOf331,
 v232:=Tryz.zeroValue331,
 t233:=Tryz.underlying332,
 a233:=Tryz.isAgg332,
 z233:=Tryz.sizeOf332,
 v233:=Tryz.zeroValue332,
 g17:=by kernel_rfl,
 g18:=by kernel_rfl,
 g19:=by kernel_rfl,
 i0:=by kernel_rfl,
 i2:=by kernel_rfl,
 i3:=by kernel_rfl,
 i4:=by kernel_rfl,
 i5:=by kernel_rfl,
 i9:=by kernel_rfl,
 i20:=by kernel_rfl,
 i37:=by kernel_rfl,
 i46:=by kernel_rfl,
 i51:=by kernel_rfl,
 i53:=by kernel_rfl,
 i171:=by kernel_rfl,
 i173:=by kernel_rfl,
 i212:=by kernel_rfl,
 i232:=by kernel_rfl,
 i233:=by kernel_rfl,
 m17:=by kernel_rfl,
 m18:=by kernel_rfl,
 m19:=by kernel_rfl}
def jU_:Go.Shelf.Ren:=⟨fun|105=>160|212=>199|99=>200|165=>201|166=>103|170=>102|169=>105|263=>241|264=>242|206=>243|240=>157|241=>244|276=>196|277=>278|n=>n,fun|9=>9|3=>3|4=>4|20=>20|0=>0|46=>257|109=>258|5=>5|72=>174|76=>177|51=>204|146=>292|53=>205|148=>294|70=>171|37=>172|75=>176|127=>217|164=>253|80=>109|n=>n,fun|n=>n⟩
theorem lay105:Go.Proofs.Lays.n105 Tryz.prog jU_:={
 mixed:=by kernel_rfl,
 f99:=Tryz.func200.trans (congrArg some (by kernel_rfl)),
 f105:=Tryz.func160.trans (congrArg some (by kernel_rfl)),
 f165:=Tryz.func201.trans (congrArg some (by kernel_rfl)),
 f166:=Tryz.func103.trans (congrArg some (by kernel_rfl)),
 f169:=Tryz.func105.trans (congrArg some (by kernel_rfl)),
 f170:=Tryz.func102.trans (congrArg some (by kernel_rfl)),
 f206:=Tryz.func243.trans (congrArg some (by kernel_rfl)),
 f212:=Tryz.func199.trans (congrArg some (by kernel_rfl)),
 f240:=Tryz.func157.trans (congrArg some (by kernel_rfl)),
 f241:=Tryz.func244.trans (congrArg some (by kernel_rfl)),
 f263:=Tryz.func241.trans (congrArg some (by kernel_rfl)),
 f264:=Tryz.func242.trans (congrArg some (by kernel_rfl)),
 f276:=Tryz.func196.trans (congrArg some (by kernel_rfl)),
 f277:=Tryz.func278.trans (congrArg some (by kernel_rfl)),
 t0:=Tryz.underlying0,
 a0:=Tryz.isAgg0,
 z0:=Tryz.sizeOf0,
 v0:=Tryz.zeroValue0,
 t3:=Tryz.underlying3,
 a3:=Tryz.isAgg3,
 z3:=Tryz.sizeOf3,
 v3:=Tryz.zeroValue3,
 t4:=Tryz.underlying4,
 a4:=Tryz.isAgg4,
 z4:=Tryz.sizeOf4,
 v4:=Tryz.zeroValue4,
 t5:=Tryz.underlying5,
 a5:=Tryz.isAgg5,
 z5:=Tryz.sizeOf5,
 v5:=Tryz.zeroValue5,
 t9:=Tryz.underlying9,
 a9:=Tryz.isAgg9,
 z9:=Tryz.sizeOf9,
 v9:=Tryz.zeroValue9,
 t20:=Tryz.underlying20,
 a20:=Tryz.isAgg20,
 z20:=Tryz.sizeOf20,
 v20:=Tryz.zeroValue20,
 t37:=Tryz.underlying172,
 a37:=Tryz.isAgg172,
 z37:=Tryz.sizeOf172,
 v37:=Tryz.zeroValue172,
 t46:=Tryz.underlying257,
 a46:=Tryz.isAgg257,
 z46:=Tryz.sizeOf257,
 v46:=Tryz.zeroValue257,
 t51:=Tryz.underlying204,
 a51:=Tryz.isAgg204,
 z51:=Tryz.sizeOf204,
 v51:=Tryz.zeroValue204,
 t53:=Tryz.underlying205,
 a53:=Tryz.isAgg205,
 z53:=Tryz.sizeOf205,
 v53:=Tryz.zeroValue205,
 t70:=Tryz.underlying171,
 a70:=Tryz.isAgg171,
 z70:=Tryz.sizeOf171,
 v70:=Tryz.zeroValue171,
 t72:=Tryz.underlying174,
 a72:=Tryz.isAgg174,
 z72:=Tryz.sizeOf174,
 v72:=Tryz.zeroValue174,
 t75:=Tryz.underlying176,
 a75:=Tryz.isAgg176,
 z75:=Tryz.sizeOf176,
 v75:=Tryz.zeroValue176,
 t76:=Tryz.underlying177,
 a76:=Tryz.isAgg177,
 z76:=Tryz.sizeOf177,
 v76:=Tryz.zeroValue177,
 t109:=Tryz.underlying258,
 a109:=Tryz.isAgg258,
 z109:=Tryz.sizeOf258,
 v109:=Tryz.zeroValue258,
 t127:=Tryz.underlying217,
 a127:=Tryz.isAgg217,
 z127:=Tryz.sizeOf217,
 v127:=Tryz.zeroValue217,
 t146:=Tryz.underlying292,
 a146:=Tryz.isAgg292,
 z146:=Tryz.sizeOf292,
 v146:=Tryz.zeroValue292,
 t148:=Tryz.underlying294,
 a148:=Tryz.isAgg294,
 z148:=Tryz.sizeOf294,
 v148:=Tryz.zeroValue294,
 t164:=Tryz.underlying253,
 a164:=Tryz.isAgg253,
 z164:=Tryz.sizeOf253,
 v164:=Tryz.zeroValue253}
theorem ext105:Builder.Extra Tryz.prog jU_:={
 sizeBuilder:=by kernel_rfl,
 liesBuilder:=by kernel_rfl,
 t5:=Tryz.underlying5,
 a5:=Tryz.isAgg5,
 z5:=Tryz.sizeOf5,
 v5:=Tryz.zeroValue5,
 infoByte:=by kernel_rfl,
 cellsByte:=by kernel_rfl,
 sizeByte:=by kernel_rfl,
 neB5:=by decide}
end Go.Proofs.YtjkddcfoolilbaaGreatDoor
namespace Go.Proofs.YtjkddcfoolilbaaGreatDoor
open Go.Abs Go.RowKit
theorem tab_glob:(Tryz.prog).globalNamed "internal/strconv.uint64pow10" =some GT:=by kernel_rfl
theorem tab_is{w:World}(h:TabW w):Lib.TabIs Tryz.prog w "internal/strconv.uint64pow10" .u64 Lib.pow10Tab:=by
 obtain⟨t,z,h⟩:=h;unfold Lib.TabIs World.var?;rw[tab_glob];show(match w.heap[GT]? with|some (.cells cs _ _)=>some cs|_=>none)=_;rw[h];rfl
theorem qc_(w:World)(k:Nat)(os:Array Obj):Below w.heap.size w (Sort.grow (w.drewN k) os):=
 ⟨rfl,rfl,rfl,by show w.heap.size≤(w.heap++os).size;simp,fun i hi=>by show(w.heap++os)[i]?=_;rw[Array.getElem?_append_left hi]⟩
theorem fs_ItoaA(n:Nat)(h:n≤9223372036854775807):FS 104 [i64 n] (tx (Lib.decDigits n)):=by
 refine⟨aa_ (ad_ _) ac_,(ni_ 0 (by decide)).enters,fun M w vals hM hargs=>?_⟩;obtain⟨x,xs,rfl,hx,hxs⟩:=hargs;have hx':x= .int .i64 n:=hx;have hxs':xs=[]:=hxs;subst hx';subst hxs';have hc:=Any.strconv_Itoa lay171 (n:Int) (by omega) (by omega) w (tab_is hM.tab);refine Calls.mono hc fun e w' ⟨he,k,os,hw⟩=>⟨_,he,?_,?_⟩;show Value.string _=Value.string _;unfold Lib.itoa;rw[if_neg (by omega),Int.toNat_natCast];rw[hw];exact qc_ w k os
theorem pV_(z:UInt8)(n:Nat)(h:n≤100):FS 160 [tx [z],i64 n] (tx (List.replicate n z)):=by
 have en:∀(xs:Array Value) (w:World),(callFunc 160 xs).run Tryz.prog w= .ok (.enter 160 xs) w:=fun xs w=>jd_ Tryz.func160 (c:=(Tryz.f160).body.get rfl) (by kernel_rfl) rfl xs w;refine⟨aa_ (ad_ _) (aa_ (ad_ _) ac_),en,fun M w vals hM hargs=>?_⟩;obtain⟨x,xs,rfl,hx,y,ys,rfl,hy,hxs⟩:=hargs;have hx':x= .string ⟨[z].toArray⟩:=hx;have hy':y= .int .i64 n:=hy;have hxs':ys=[]:=hxs;subst hx';subst hy';subst hxs';have hc:=Any.strings_Repeat lay105 ext105 ⟨[z].toArray⟩ n w (by omega) (by simp[ByteArray.size];omega);refine Calls.mono hc fun e w' ⟨he,hb⟩=>⟨_,he,?_,hb⟩;show Value.string _=Value.string _;congr 2
 have:∀k,Lib.repeatL [z] k=List.replicate k z:=fun k=>by
  induction k with
  |zero=>rfl
  |succ k ih=>rw[Lib.repeatL,ih,List.replicate_succ];rfl
 exact congrArg List.toArray (this n)
end Go.Proofs.YtjkddcfoolilbaaGreatDoor
namespace Go.Proofs.YtjkddcfoolilbaaGreatDoor
open Go.Abs
set_option maxRecDepth 20000
def pad9(n:Nat):List UInt8:=List.replicate (9- (Lib.decDigits n).length) 48++Lib.decDigits n
def txD:List Nat→List UInt8
 |[]=>[]
 |x::xs=>Lib.decDigits x++xs.flatMap pad9
def mtx(m:Nat):List UInt8:=if m=0 then [48] else txD (digs MB m).reverse
theorem nP_{l:List Nat}(h:l≠[])(x:Nat):txD (l++[x])=txD l++pad9 x:=by
 cases l with
 |nil=>exact absurd rfl h
 |cons a l=>simp[txD]
theorem m3_:∀k n,n< 10^ (k+1)→Lib.nDigits n≤k+1
 |0,n,h=>by rw[Lib.nDigits_small (by simpa using h)];omega
 |k+1,n,h=>by
  by_cases h1:n< 10;rw[Lib.nDigits_small h1];omega;rw[Lib.nDigits_big h1];have:n/ 10< 10^ (k+1):=by rw[Nat.pow_succ] at h;omega
  have:=m3_ k (n/ 10) this;omega
theorem nt_{n:Nat}(h:n< 1000000000):(Lib.decDigits n).length≤9:=by
 rw[Lib.decDigits_length];exact m3_ 8 n h
theorem dec_ne(n:Nat):Lib.decDigits n≠[]:=by
 intro e;have h1:=Lib.decDigits_length n;rw[e] at h1;have:=Lib.nDigits_pos n;simp at h1;omega
theorem pad9_len{n:Nat}(h:n< 1000000000):(pad9 n).length=9:=by
 have:=nt_ h;simp[pad9];omega
theorem txD_ne{l:List Nat}(h:l≠[]):txD l≠[]:=by
 cases l with
 |nil=>exact absurd rfl h
 |cons a l=>intro e;exact dec_ne a (List.append_eq_nil_iff.1 e).1
theorem qw_{l:List Nat}(h:∀x∈l,x< 1000000000):(txD l).length≤9* l.length:=by
 cases l with
 |nil=>simp[txD]
 |cons a l=>
  have h1:=nt_ (h a (List.mem_cons_self ..))
  have h2:∀l:List Nat,(∀x∈l,x< 1000000000)→(l.flatMap pad9).length=9* l.length:=by
   intro l
   induction l with
   |nil=>intro _;rfl
   |cons b l ih=>
    intro h;rw[List.flatMap_cons,List.length_append,pad9_len (h b (List.mem_cons_self ..)),ih fun x hx=>h x (List.mem_cons_of_mem _ hx),List.length_cons];omega
  have h3:=h2 l fun x hx=>h x (List.mem_cons_of_mem _ hx);simp only[txD,List.length_append,List.length_cons];omega
def tf0(L:List Nat):Unit→AState
 |u=>⟨[(1,.lptr 1 0 0),(3,.lptr 2 0 0),(11,.clos 198 [] [.aptr [[.arr (dE L)]] 0 0])],[(1,some ⟨42,1,[[.arr (dE L)]]⟩),(2,some ⟨174,2,[bldC 2 0 none]⟩)],4,31⟩
def tf1(L:List Nat):List UInt8→AState
 |q=>⟨[(1,.lptr 1 0 0),(3,.lptr 2 0 0),(11,.clos 198 [] [.aptr [[.arr (dE L)]] 0 0])],[(1,some ⟨42,1,[[.arr (dE L)]]⟩),(2,some ⟨174,2,[bldC 2 3 (some q)]⟩),(3,some ⟨5,1,bE q⟩)],4,31⟩
def tfS(L:List Nat):Nat→AState
 |0=>tf0 L ()
 |k+1=>tf1 L (txD (L.reverse.take (k+1)))
theorem l2_(m:Nat)(h:bl m≤68719476736):FS 106 [.agg [mag m]] (tx (mtx m)):=by
 have hz:=eJ_ m;refine f_c Tryz.func106 ?_;refine r_z 2 ?_;refine ab_ (r_c 2 (hz) ?_);refine al_ ?_;refine aj_ rfl (fun h1=>?_) (fun h1=>?_);have h2:m=0:=by simpa using h1
 subst h2;refine r_z 1 ?_;exact af_ (t_e (ad_ _));have h2:m≠0:=by simpa using h1
 obtain⟨L,hL⟩:∃L,L=digs MB m:=⟨_,rfl⟩;have hm:mag m= .arr (dE L):=by unfold mag;rw[hL]
 have hLl:L.length≤68719476736:=by
  rw[hL];exact Nat.le_trans (aT_ (b:=MB) (by decide) m) h
 have hLb:∀x∈L,x< 1000000000:=by rw[hL];exact bT_ (b:=MB) (by decide) m
 have hLn:L≠[]:=by rw[hL];exact fun e=>h2 ((cY_ (b:=MB) (by decide)).1 e)
 have hn1:=List.length_pos_iff.2 hLn;rw[show mtx m=txD L.reverse by unfold mtx;rw[if_neg h2,hL]];clear hz;rw[hm];refine ah_ ?_;have hcl:Closed (.aptr [[.arr (dE L)]] 0 0):=d7_ (fun e he c hc=>by simp at he;subst he;simp at hc;subst hc;exact bl_ _);have hcl2:Closed (.clos 198 [] [.aptr [[.arr (dE L)]] 0 0]):=aG_ ac_ (aa_ hcl ac_);have hdl:(dE L).length=L.length:=gH_ L;refine r_z 1 ?_;refine ab_ (r_c 3 (eK_ L) ?_);refine al_ ?_;refine aw_ (fun _:Unit=>tf1 L (txD L.reverse)) (fun _=>True) ?_ ?_;refine ae_ (AWp.rangeFunc (α:=Nat) (γ:=Empty) L.length (tfS L) (fun k=>k) (fun k=>k≤L.length) (fun e=>nomatch e) (fun _ e=>nomatch e) 0 rfl (eG_ L (by omega)) rfl rfl ?_ (fun k=>by cases k <;> exact⟨rfl,rfl⟩) (fun e=>nomatch e) (Nat.zero_le _) rfl (fun _ h=>h) ?_ ?_ ?_ ?_ (fun _ e=>nomatch e));intro k xs hT;unfold backT at hT;split at hT;cases hT;rfl;cases hT;show SEntT _ (tf0 L ());rw[tf0.eq_1];exact s_t [(1,1),(2,3)];exact aa_ hcl ac_
 ·intro l k xs hk hT
  unfold backT at hT;split at hT;rotate_left;cases hT;rename_i hlt;cases hT;obtain⟨x,hx⟩:∃x,x=L.getD (L.length- 1- k) 0:=⟨_,rfl⟩
  have hgx:L[L.length- 1- k]?=some x:=by
   rw[hx,List.getD_eq_getElem?_getD,List.getElem?_eq_getElem (by omega)];rfl
  have hxb:x< 1000000000:=hLb x (List.mem_of_getElem? hgx)
  have htk:L.reverse.take (k+1)=L.reverse.take k++[x]:=by
   rw[List.take_add_one,List.getElem?_reverse (by omega),hgx];rfl
  have hit:=fs_ItoaA x (by omega);have hdl9:=nt_ hxb;rw[←hx];cases k with
  |zero=>
   show AWp _ _ _ _ ⟨setPs (tf0 L ()).fr _ _++ct_ (tf0 L ()).fr,_,_,_⟩;show AWp _ _ _ _ ⟨[(13,u32 x),(12,i64 ((L.length- 1- 0:Nat):Int)),(1,.lptr 1 0 0),(3,.lptr 2 0 0),(11,.clos 198 [] [.aptr [[.arr (dE L)]] 0 0]),(1001,.lptr 1 0 0),(1003,.lptr 2 0 0),(1011,.clos 198 [] [.aptr [[.arr (dE L)]] 0 0])],[(1,some ⟨42,1,[[.arr (dE L)]]⟩),(2,some ⟨174,2,[bldC 2 0 none]⟩)],4,31⟩;refine r_z 1 ?_;refine r_m 1 ?_;refine a_z ?_;refine ae_ (r_c 4 (hit) ?_);refine a_z ?_;refine ab_ (r_z 6 ?_);refine aj_ rfl (fun h3=>?_) (fun h3=>?_);exact absurd h3 (by simp;omega);refine ah_ (r_m 2 ?_);refine a_1 ?_;refine o_2 (.callB (s:=none) (j:=0) rfl rfl rfl rfl rfl rfl (fun _ h=>by cases h) (ex_ (Lib.decDigits x) (dec_ne x) (by omega))) ?_;refine al_ ?_;refine⟨0+1,⟨by omega,rfl⟩,?_⟩;have e:txD (L.reverse.take (0+1))=Lib.decDigits x:=by rw[htk];simp[txD]
   show SEntT _ ⟨ct_ (tf1 L (txD (L.reverse.take (0+1)))).fr,(tf1 L (txD (L.reverse.take (0+1)))).hp,_,_⟩;rw[e];show SEntT _ ⟨[(1001,.lptr 1 0 0),(1003,.lptr 2 0 0),(1011,.clos 198 [] [.aptr [[.arr (dE L)]] 0 0])],[(1,some ⟨42,1,[[.arr (dE L)]]⟩),(2,some ⟨174,2,[bldC 2 3 (some (Lib.decDigits x))]⟩),(3,some ⟨5,1,bE (Lib.decDigits x)⟩)],4,31⟩;refine SEntT.to2 [(3,100017)] rfl rfl rfl au_r (fun hs=>?_) (fun hs=>?_)
   ·repeat' (first|exact aH_|refine ap_ rfl ?_ ?_)
    all_goals (first|(exact ak_ hs hcl2)|exact au_c)
   ·repeat' (first|exact az_|refine fI_ rfl rfl rfl rfl ?_ ?_)
    all_goals (first|exact au_e|(refine av_ ?_;repeat' (first|exact an_|refine ai_ ?_ ?_)))
    all_goals (first|(exact ak_ hs hcl2)|exact au_c)
  |succ k=>
   obtain⟨q,hq⟩:∃q,q=txD (L.reverse.take (k+1)):=⟨_,rfl⟩
   have hrn:L.reverse.take (k+1)≠[]:=by
    intro e;have:=congrArg List.length e;rw[List.length_take,List.length_reverse] at this;simp only[List.length_nil] at this;omega
   have hql:q.length≤9* L.length:=by
    have h3:=qw_ (l:=L.reverse.take (k+1)) (fun y hy=>hLb y (List.mem_reverse.1 (List.mem_of_mem_take hy)));have h4:(L.reverse.take (k+1)).length≤L.length:=by simp;omega
    rw[hq];omega
   show AWp _ _ _ _ ⟨setPs (tf1 L (txD (L.reverse.take (k+1)))).fr _ _++ct_ (tf1 L (txD (L.reverse.take (k+1)))).fr,(tf1 L (txD (L.reverse.take (k+1)))).hp,4,_⟩;rw[←hq];show AWp _ _ _ _ ⟨[(13,u32 x),(12,i64 ((L.length- 1- (k+1):Nat):Int)),(1,.lptr 1 0 0),(3,.lptr 2 0 0),(11,.clos 198 [] [.aptr [[.arr (dE L)]] 0 0]),(1001,.lptr 1 0 0),(1003,.lptr 2 0 0),(1011,.clos 198 [] [.aptr [[.arr (dE L)]] 0 0])],[(1,some ⟨42,1,[[.arr (dE L)]]⟩),(2,some ⟨174,2,[bldC 2 3 (some q)]⟩),(3,some ⟨5,1,bE q⟩)],4,31⟩;refine r_z 1 ?_;refine r_m 1 ?_;refine a_z ?_;refine ae_ (r_c 4 (hit) ?_);refine a_z ?_;refine ab_ (r_z 6 ?_);refine aj_ rfl (fun h3=>?_) (fun h3=>?_);rotate_left;exact absurd (of_decide_eq_false h3) (by omega);have e9:((9:Int)- ((⟨(Lib.decDigits x).toArray⟩:ByteArray).size:Int))=((9- (Lib.decDigits x).length:Nat):Int):=by rw[gR_];omega
   have hrep:FS 160 [tx [48],.v (.int .i64 ((9:Int)- ((⟨(Lib.decDigits x).toArray⟩:ByteArray).size:Int)))] (tx (List.replicate (9- (Lib.decDigits x).length) 48)):=by
    rw[e9];exact pV_ 48 (9- (Lib.decDigits x).length) (by omega)
   refine r_m 5 ?_;refine o_0 (.move rfl) ?_;refine o_0 (.builtinV (vs:=[_]) rfl rfl (fun _ _ _=>rfl)) ?_;refine o_0 (.bin rfl rfl (gO_ (by rw[gR_];omega))) ?_;refine c_s (hrep) ?_;refine o_3 (.callB (s:=some _) rfl rfl rfl rfl rfl rfl (fun _ h=>by cases h;exact⟨rfl,by decide⟩) (dC_ q (List.replicate (9- (Lib.decDigits x).length) 48) (by simp;omega))) ?_;refine al_ ?_;refine r_m 2 ?_;refine a_1 ?_;refine o_3 (.callB (s:=some _) rfl rfl rfl rfl rfl rfl (fun _ h=>by cases h;exact⟨rfl,by decide⟩) (dC_ (q++List.replicate (9- (Lib.decDigits x).length) 48) (Lib.decDigits x) (by simp;omega))) ?_;refine al_ ?_;refine⟨k+1+1,⟨by omega,rfl⟩,?_⟩
   have e:txD (L.reverse.take (k+1+1))=q++List.replicate (9- (Lib.decDigits x).length) 48++Lib.decDigits x:=by
    rw[htk,nP_ hrn,←hq,List.append_assoc];rfl
   show SEntT _ ⟨ct_ (tf1 L (txD (L.reverse.take (k+1+1)))).fr,(tf1 L (txD (L.reverse.take (k+1+1)))).hp,_,_⟩;rw[e];show SEntT _ ⟨[(1001,.lptr 1 0 0),(1003,.lptr 2 0 0),(1011,.clos 198 [] [.aptr [[.arr (dE L)]] 0 0])],[(1,some ⟨42,1,[[.arr (dE L)]]⟩),(2,some ⟨174,2,[bldC 2 3 (some (q++List.replicate (9- (Lib.decDigits x).length) 48++Lib.decDigits x))]⟩),(3,some ⟨5,1,bE (q++List.replicate (9- (Lib.decDigits x).length) 48++Lib.decDigits x)⟩)],4,31⟩;refine SEntT.to2 [(3,100022)] rfl rfl rfl au_r (fun hs=>?_) (fun hs=>?_)
   ·repeat' (first|exact aH_|refine ap_ rfl ?_ ?_)
    all_goals (first|(exact ak_ hs hcl2)|exact au_c)
   ·repeat' (first|exact az_|refine fI_ rfl rfl rfl rfl ?_ ?_)
    all_goals (first|exact au_e|(refine av_ ?_;repeat' (first|exact an_|refine ai_ ?_ ?_)))
    all_goals (first|(exact ak_ hs hcl2)|exact au_c)
 ·intro k hk hT
  unfold backT at hT;split at hT;cases hT
  have hk1:k=L.length:=by
   rename_i hn;omega
  subst hk1;obtain⟨j,hj⟩:∃j,L.length=j+1:=⟨L.length- 1,by omega⟩;refine⟨(),trivial,?_⟩;show SEnt (tfS L L.length) _;rw[hj];show SEnt (tf1 L (txD (L.reverse.take (j+1)))) _;rw[←hj,List.take_of_length_le (by simp)];exact SEnt.refl _
 rintro _ _;rw[tf1.eq_1];have hne:txD L.reverse≠[]:=txD_ne (by simpa using hLn);refine s_r 2 ?_;refine o_2 (.callD rfl rfl rfl rfl rfl rfl (by decide) (by first|assumption|simp) (je_)) ?_;refine a_z ?_;exact af_ (t_e (ad_ _))
end Go.Proofs.YtjkddcfoolilbaaGreatDoor
