/- Part V27 of the proof. -/
import Derived.Test.YtjjllafelolfoaaGreatDoorV26
import Derived.Lib.UnsafeStr
import Derived.Lib.Builder
import Derived.Shelf.RegionOpenPlain
import Derived.Lib.Strings
import Derived.Lib.Slices
import Derived.Lib.Walk
set_option linter.all false
namespace Go.Proofs.YtjjllafelolfoaaGreatDoor
open Go.Abs
set_option maxRecDepth 20000
theorem qC_(x:RQ)(hx:rok x):FS 217 [.agg (rC x)] (.agg (zZ (x.1.den:Int))):=by
 refine f_c Tryz.func217 ?_;refine r_z 2 ?_;refine ab_ (r_z 4 ?_);obtain⟨q,f⟩:=x;have hp:=q.den_pos;cases f with
 |true=>
  have h0:q=0:=hx rfl;subst h0;refine ai_ (t:=true) rfl (fun h=>?_) (fun h=>?_);refine r_c 2 (is_ 1 (by decide)) ?_;refine a_z ?_;exact ad_ (c_e (cm_ _));cases h
 |false=>
  refine ai_ rfl (fun h=>?_) (fun h=>?_);exfalso;have h1:sgZ (q.den:Int)=0:=by simpa using h
  rcases cZ_ (q.den:Int) with⟨a,b⟩|⟨a,b⟩|⟨a,b⟩<;> omega
  refine ag_ (r_z 3 ?_);exact ad_ (c_e (cm_ _))
theorem zd_one:zd 1=[1]:=by
 unfold zd;rw[cM_ (by decide) (by decide),show 1/ UB=0 by decide,bh_];rfl
theorem zZ_one{g:Nat}(h:g=1):zZ (g:Int)=[i64 1,.arr [[i64 1]]]:=by
 subst h;show [i64 (sgZ 1),AV.arr (iE (zd 1))]=_;rw[zd_one];rfl
theorem oZ_{g:Nat}(h:(zd g).length=1):zd g=[g]:=by
 obtain⟨a,ha⟩:=List.length_eq_one_iff.1 h;have h1:=hv_zd g;rw[ha,il_,lo_] at h1;simp at h1;rw[ha,h1]
theorem kN_{n:Nat}(h:bl n≤4398046511104):(zd n).length≤281474976710656:=by
 rw[bw_];have:=aZ_ (b:=UB) (by decide) n;omega
def ratS(n':Int)(D g:Nat):AState:=⟨[(2,.lptr 1 0 0),(3,.lptr 2 0 0),(4,.lptr 3 0 0),(5,.lptr 4 0 0)],[(1,some ⟨42,2,[zZ n']⟩),(2,some ⟨42,2,[zZ (D:Int)]⟩),(3,some ⟨44,4,[[i64 0,.emp,i64 0,.emp]]⟩),(4,some ⟨42,2,[zZ (g:Int)]⟩)],5,57⟩
theorem nI_(n d:Int)(hd:d≠0)(hn:bl n.natAbs≤4398046511104)(hb:bl d.natAbs≤4398046511104):FS 214 [.agg (zZ n),.agg (zZ d)] (.agg (rC (rq (Rat.divInt n d)))):=by
 refine f_c Tryz.func214 ?_;refine r_z 3 ?_;refine a2_ (fun n':Int=>⟨[(2,.lptr 1 0 0),(3,.lptr 2 0 0),(4,.lptr 3 0 0)],[(1,some ⟨42,2,[zZ n']⟩),(2,some ⟨42,2,[zZ (d.natAbs:Int)]⟩),(3,some ⟨44,4,[[i64 0,.emp,i64 0,.emp]]⟩)],4,57⟩) (fun n'=>n'.natAbs=n.natAbs∧Rat.divInt n d=mkRat n' d.natAbs) ?_ ?_;refine r_z 3 ?_;refine ai_ rfl (fun h=>?_) (fun h=>?_)
 have hneg:d< 0:=by
  have h1:sgZ d< 0:=by simpa using h
  rcases cZ_ d with⟨a,b⟩|⟨a,b⟩|⟨a,b⟩<;> omega
 have e: -d=(d.natAbs:Int):=by omega
 have hdn:=qO_ d;rw[e] at hdn;refine r_d hmix 6 ?_;refine c_s (qO_ n) ?_;refine c_s (hdn) ?_;refine a_2 ?_;refine ak_ (n_k ?_);refine⟨-n,⟨by omega,gP_ n d hneg⟩,?_⟩;exact s_e []
 have hpos:0< d:=by
  have h1:¬sgZ d< 0:=by simpa using h
  rcases cZ_ d with⟨a,b⟩|⟨a,b⟩|⟨a,b⟩<;> omega
 have e:d=(d.natAbs:Int):=by omega
 refine ag_ ⟨n,⟨rfl,gO_ n d hpos⟩,?_⟩;rw[←e];exact s_e [];rintro n' ⟨hna,hv⟩;have hD:0< d.natAbs:=by omega
 obtain⟨D,hDd⟩:∃D,D=d.natAbs:=⟨_,rfl⟩;rw[hv];rw[←hDd] at hb hD⊢;rw[←hna] at hn;obtain⟨g,hg⟩:∃g,g=Nat.gcd n'.natAbs D:=⟨_,rfl⟩;have hgp:0< g:=by rw[hg];exact Nat.gcd_pos_of_pos_right _ hD
 have hgD:g≤D:=by rw[hg];exact Nat.gcd_le_right _ hD
 have hbg:=b1_ hgD;have hnum:(mkRat n' D).num.natAbs=n'.natAbs/ g:=by rw[em_ hD,cP_,hg]
 have hden:(mkRat n' D).den=D/ g:=by rw[(e7_ hD).2,hg]
 have hsg:=ps_ (n:=n') hD;have hgc:=fs_ZGcd n' (D:Int) hn (by rw[Int.natAbs_natCast];exact hb);rw[Int.natAbs_natCast,←hg] at hgc
 have hfin:rC (rq (mkRat n' D))=zZ (sgn (decide (n'< 0)) (n'.natAbs/ g))++zZ ((D/ g:Nat):Int):=by
  rw[rC_rq,hden,em_ hD,←hg]
 rw[hfin];have hgn:bl (D/ g)≤bl D:=cC_ D g;have hgn2:bl (n'.natAbs/ g)≤bl n'.natAbs:=cC_ n'.natAbs g;refine r_c 5 (hgc) ?_;refine a_z ?_;refine a2_ (fun _:Unit=>ratS n' D g) (fun _=>g≠1) ?_ ?_;by_cases h1:g=1;rw[zZ_one h1];refine s_r 11 ?_;refine a_5 ?_
 first|refine y_g rfl rfl (.fieldAddr_l rfl TF.h (by decide)) ?_|refine y_g rfl rfl (.fieldAddr_a rfl TF.h (by decide)) ?_
 first|refine y_g rfl rfl (.load_l1 rfl rfl rfl TG.h rfl) ?_|refine y_g rfl rfl (.load_a1 rfl rfl TG.h rfl) ?_
 first|refine y_g rfl rfl (.index_l rfl rfl (by omega) (by omega) te_40.h) ?_|refine y_g rfl rfl (.index_a rfl rfl (by omega) rfl rfl te_40.h) ?_
 first|refine y_g rfl rfl (.load_l1 rfl rfl rfl TG.h rfl) ?_|refine y_g rfl rfl (.load_a1 rfl rfl TG.h rfl) ?_
 refine y_g rfl rfl (.bin rfl rfl bF_) ?_;refine o_0 (.pickT rfl rfl rfl) ?_;refine ak_ ?_;refine ai_ rfl (fun h=>?_) (fun h=>?_);refine r_z 4 ?_;refine ad_ ?_;rw[h1,Nat.div_one,Nat.div_one,show sgn (decide (n'< 0)) n'.natAbs=n' by unfold sgn;by_cases h0:n'< 0 <;> simp[h0]<;> omega];exact c_e (aB_ fun c hc=>(List.mem_append.1 hc).elim (dc_ _ c) (dc_ _ c));exact absurd h (by decide);by_cases hl:(zd g).length=1;have hz:=oZ_ hl;have hz2:zZ (g:Int)=[i64 (sgZ (g:Int)),.arr (iE [g])]:=by show [i64 (sgZ (g:Int)),AV.arr (iE (zd g))]=_;rw[hz]
 rw[hz2];refine s_r 11 ?_;refine a_5 ?_
 first|refine y_g rfl rfl (.fieldAddr_l rfl TF.h (by decide)) ?_|refine y_g rfl rfl (.fieldAddr_a rfl TF.h (by decide)) ?_
 first|refine y_g rfl rfl (.load_l1 rfl rfl rfl TG.h rfl) ?_|refine y_g rfl rfl (.load_a1 rfl rfl TG.h rfl) ?_
 first|refine y_g rfl rfl (.index_l rfl rfl (by omega) (by omega) te_40.h) ?_|refine y_g rfl rfl (.index_a rfl rfl (by omega) rfl rfl te_40.h) ?_
 first|refine y_g rfl rfl (.load_l1 rfl rfl rfl TG.h rfl) ?_|refine y_g rfl rfl (.load_a1 rfl rfl TG.h rfl) ?_
 refine y_g rfl rfl (.bin rfl rfl bF_) ?_;refine o_0 (.pickT rfl rfl rfl) ?_;refine ak_ ?_;refine ai_ rfl (fun h=>?_) (fun h=>?_);exact absurd h (by simp;omega);refine ag_ ⟨(),h1,?_⟩;rw[←hz2];unfold ratS;exact s_e [(4,5)];refine s_r 11 ?_;refine a_5 ?_;refine n_g rfl (by simp;omega) ?_;refine n_g rfl (by simp;omega) ?_;refine n_g rfl (by simp;omega) ?_;refine n_g rfl (by simp;omega) ?_;refine n_g rfl (by simp;omega) ?_;refine o_0 (.pickF rfl (by simp;omega) rfl) ?_;refine ak_ ?_;refine ai_ rfl (fun h=>?_) (fun h=>?_);exact absurd h (by simp);refine ag_ ⟨(),h1,?_⟩;unfold ratS;exact s_e [(4,5)];rintro _ hg1;unfold ratS;have hzq:=ip_ (sgZ n') (zd (n'.natAbs/ g)) (sgn (decide (n'< 0)) (n'.natAbs/ g)) (kN_ (by omega)) (zd_lt _) (by rw[hv_zd,cP_]) (fun h=>by rw[←hsg,em_ hD,←hg]);have hzd:=ip_ 1 (zd (D/ g)) ((D/ g:Nat):Int) (kN_ (by omega)) (zd_lt _) (by rw[hv_zd,Int.natAbs_natCast]) (fun h=>by unfold sgZ;rw[if_neg h,if_neg (by omega)]);refine r_c 10 (kj_ n'.natAbs g hgp hn (by omega)) ?_;refine a_z ?_;refine r_c 10 (kj_ D g hgp hb (by omega)) ?_;refine a_z ?_;refine r_c 8 (hzq) ?_;refine c_s (hzd) ?_;refine a_z ?_;exact ad_ (c_e (aB_ fun c hc=>(List.mem_append.1 hc).elim (dc_ _ c) (dc_ _ c)))
theorem zl_of{z:Int}{k:Nat}(h:bl z.natAbs≤k)(hk:k≤8796093022208):zl z:=Nat.le_trans h hk
theorem fs_rOf(n d:Int)(hd:d≠0)(h: -9223372036854775808≤n∧n≤9223372036854775807)(h2: -9223372036854775808≤d∧d≤9223372036854775807):FS 90 [i64 n,i64 d] (.agg (rC (rq (Rat.divInt n d)))):=by
 have hb:∀z:Int,-9223372036854775808≤z→z≤9223372036854775807→bl z.natAbs≤4398046511104:=fun z h1 h2=>Nat.le_trans (bl_le (k:=64) (by omega)) (by decide);refine f_c Tryz.func90 ?_;refine r_z 1 ?_;refine r_c 6 (is_ n h) ?_;refine c_s (is_ d h2) ?_;refine c_s (nI_ n d hd (hb n h.1 h.2) (hb d h2.1 h2.2)) ?_;refine a_z ?_;exact ad_ (c_e (fj_ _))
theorem fs_rMul(x y:RQ)(hx:rok x)(hy:rok y)(h:qs x.1+qs y.1≤1099511627776):FS 91 [.agg (rC x),.agg (rC y)] (.agg (rC (rq (x.1* y.1)))):=by
 obtain⟨a,fa⟩:=x;obtain⟨b,fb⟩:=y;simp only at h⊢;have hp:=h8_ a b;have h1:=co_ a;have h2:=cv_ a;have h3:=co_ b;have h4:=cv_ b;have e3:=hp.1;have e4:=hp.2;have hd:(a.den:Int) * b.den≠0:=by have:=gw_ a b;rw[←Int.natCast_mul];omega
 have e:a* b=Rat.divInt (a.num* b.num) (a.den* b.den):=by
  rw[ge_,←Int.natCast_mul,←Rat.divInt_ofNat]
 rw[e];have e5:bl ((a.den:Int) * b.den).natAbs≤qs a+qs b:=by rw[←Int.natCast_mul,Int.natAbs_natCast];exact e4
 refine f_c Tryz.func91 ?_;refine r_z 3 ?_;refine ab_ (r_d hmix 12 ?_);refine c_s (mC_ a.num b.num (zl_of h1 (by omega)) (zl_of h3 (by omega))) ?_;refine c_s (qC_ (a,fa) hx) ?_;refine c_s (qC_ (b,fb) hy) ?_;refine c_s (mC_ a.den b.den (zl_of (by simpa using h2) (by omega)) (zl_of (by simpa using h4) (by omega))) ?_;refine c_s (nI_ (a.num* b.num) (a.den* b.den) hd (by omega) (by omega)) ?_;refine a_1 ?_;refine ak_ (n_k ?_);exact ad_ (c_e (fj_ _))
def powQ(q:Rat):Nat→Rat
 |0=>q
 |k+1=>powQ q k* q
theorem pR_(q:Rat):∀k,qs (powQ q k)≤(k+1) * qs q
 |0=>by simp[powQ]
 |k+1=>by
  have h1:=bK_ (powQ q k) q;have h2:=pR_ q k;show qs (powQ q k* q)≤_;rw[Nat.add_mul (k+1),Nat.one_mul];omega
def dNum(D:Int):Int:=if D=0 then 1 else D
def numV(N D:Int)(p:Nat):Rat:=powQ (Rat.divInt N (dNum D)) (p % 4)
def nuC(N D:Int)(p:Nat):List AV:=[i64 N,i64 D,.v (.int .u8 p)]
def i64r(n:Int):Prop:= -9223372036854775808≤n∧n≤9223372036854775807
theorem dk_(N D:Int)(p:Nat):∀c∈nuC N D p,Closed c:=aa_ (af_ _) (aa_ (af_ _) (aa_ (af_ _) ac_))
theorem div_cast(n d:Int):(n:Rat) / (d:Rat)=Rat.divInt n d:=(Rat.divInt_eq_div n d).symm
def boT(N:Int)(D:Int)(p:Nat)(q:Rat):Nat→AState
 |k=>⟨[(1,.lptr 1 0 0),(2,.lptr 2 0 0),(3,.lptr 3 0 0),(4,.lptr 4 0 0),(6,.lptr 5 0 0),(7,.lptr 6 0 0),(8,.lptr 7 0 0),(9,.v (.int .u8 k))],
  [(1,some ⟨24,3,[nuC N D p]⟩),(2,some ⟨39,3,[zC]⟩),(3,some ⟨44,4,[[i64 0,.emp,i64 0,.emp]]⟩),(4,some ⟨39,3,[qC q]⟩),(5,some ⟨44,4,[rC (rq q)]⟩),(6,some ⟨39,3,[qC (powQ q k)]⟩),(7,some ⟨44,4,[rC (rq (powQ q k))]⟩)],8,44⟩
theorem hw_(N D:Int)(p:Nat)(hN:i64r N)(hD:i64r D)(hp:p≤255):FS 17 [.agg (nuC N D p)] (.tup [.agg (qC (numV N D p)),.agg (rC (rq (numV N D p)))]):=by
 obtain⟨d,hd⟩:∃d,d=dNum D:=⟨_,rfl⟩;have hd0:d≠0:=by rw[hd];unfold dNum;split <;> omega
 have hdr:i64r d:=by
  rw[hd];unfold dNum i64r;unfold i64r at hD;split <;> omega
 unfold i64r at hN hdr;obtain⟨q,hq⟩:∃q,q=Rat.divInt N d:=⟨_,rfl⟩;have hof:=fs_Of N d hN hdr hd0;rw[div_cast,←hq] at hof;have hro:=fs_rOf N d hd0 hN hdr;rw[←hq] at hro;have hnv:numV N D p=powQ q (p % 4):=by unfold numV;rw[←hd,←hq]
 rw[hnv];refine f_n Tryz.func17 ?_ ?_;exact aa_ (aB_ (dk_ N D p)) ac_;refine r_z 3 ?_
 refine a2_ (fun _:Unit=>⟨[(1,.lptr 1 0 0),(2,.lptr 2 0 0),(3,.lptr 3 0 0)],
  [(1,some ⟨24,3,[nuC N d p]⟩),(2,some ⟨39,3,[zC]⟩),(3,some ⟨44,4,[[i64 0,.emp,i64 0,.emp]]⟩)],4,44⟩) (fun _=>True) ?_ ?_
 refine r_z 3 ?_;refine ai_ rfl (fun h1=>?_) (fun h1=>?_);have h2:D=0:=by simpa using h1
 have h3:d=1:=by rw[hd];unfold dNum;rw[if_pos h2]
 refine r_m 2 ?_;refine a_z ?_;refine⟨(),trivial,?_⟩;rw[h3];have:=dk_ N 1 p;exact s_f [];have h2:¬D=0:=by simpa using h1
 have h3:d=D:=by rw[hd];unfold dNum;rw[if_neg h2]
 refine ag_ ⟨(),trivial,?_⟩;rw[h3];have:=dk_ N D p;exact s_f [];rintro _ _;refine r_c 11 (hof) ?_;refine a_z ?_;refine r_c 7 (hro) ?_;refine a_z ?_;refine ab_ (r_d hmix 6 ?_);refine a_6 ?_;refine ak_ (n_k ?_);refine ab_ (r_z 1 ?_)
 have hqs:qs q≤64:=by
  have hb:∀z:Int,-9223372036854775808≤z∧z≤9223372036854775808→bl z.natAbs≤64:=fun z h=>bl_le (k:=64) (by omega);rw[hq];by_cases hn:d< 0;rw[gP_ N d hn];exact c2_ (by omega) (hb (-N) (by omega)) (hb d (by omega));rw[gO_ N d (by omega)];exact c2_ (by omega) (hb N (by omega)) (hb d (by omega))
 have hm4:(p:Int) % 4=((p % 4:Nat):Int):=by omega
 refine ay_ (fun _:Unit=>boT N d p q (p % 4)) (fun _=>True) ?_ ?_;refine ae_ (as_ (boT N d p q) (fun k=>p % 4- k) (fun k=>k≤p % 4) 0 (Nat.zero_le _) ?_ ?_);simp only[boT.eq_1,powQ];exact s_f [(4,4),(5,6),(6,7),(7,8)];rintro k hk;rw[boT.eq_1];refine ab_ (r_z 5 ?_);refine ai_ rfl (fun h=>?_) (fun h=>?_);refine ag_ ?_
 have hlt:k< p % 4:=by
  have h2:(k:Int)< (p:Int) % 4:=by simpa using h
  omega
 have hpk:=pR_ q k;have hpk2:(k+1) * qs q≤4* 64:=Nat.mul_le_mul (by omega) hqs;refine ab_ (ae_ (r_d hmix 8 ?_));refine c_s (bO_ (powQ q k) q (by omega)) ?_;refine c_s (fs_rMul (rq (powQ q k)) (rq q) (rok_rq _) (rok_rq _) (by simp only[rq];omega)) ?_;refine a_2 ?_;refine ak_ (n_k ?_);refine r_m 3 ?_;refine a_z ?_;refine⟨k+1,by omega,hlt,?_⟩;simp only[boT.eq_1];exact s_f []
 have hge:k=p % 4:=by
  have h2:¬(k:Int)< (p:Int) % 4:=by simpa using h
  omega
 subst hge;refine ar_ ⟨(),trivial,?_⟩;exact s_f [];rintro _ _;rw[boT.eq_1];refine ab_ (r_d hmix 4 ?_);refine a_4 ?_;refine ak_ (n_k ?_);refine ad_ (Fin.many ⟨_,_,rfl,⟨_,_,_,_,_,rfl,rfl,rfl,.inl ⟨TG.h,_,TS.h,nle rfl,rfl⟩⟩,⟨_,_,rfl,⟨_,_,_,_,_,rfl,rfl,rfl,.inl ⟨TG.h,_,TS.h,nle rfl,rfl⟩⟩,rfl⟩⟩ (nle rfl) ?_);exact ah_ (au_ av_ (az_ _)) (ah_ (au_ av_ (fj_ _)) aq_)
def twP:List Rat:=aw_ [0,1] 2
def chP:Nat→List Rat×List Rat
 |0=>(a0_ 1,[0,1])
 |k+1=>((chP k).2,subP (mulP twP (chP k).2) (chP k).1)
def okCh(k:Nat):Prop:=okMul twP (chP k).2∧smL (chP k).1∧(mulP twP (chP k).2).length≤274877906944∧(chP k).1.length≤274877906944
instance (k:Nat):Decidable (okCh k):=inferInstanceAs (Decidable (_∧_∧_∧_))
def chL2(n:Nat):List (List Rat):=(List.range n).map fun k=>(chP k).1
@[simp] theorem chL2_length (n:Nat):(chL2 n).length=n:=by simp[chL2]
def stL(n:Nat)(p last:List Rat):List Rat:=aw_ (subP (mulP (aw_ [0,1] ((2* (n:Int)+1:Int):Rat)) p) (aw_ last ((n:Int):Rat))) (((1:Int):Rat) / (((n:Int)+1:Int):Rat))
def okL(n:Nat)(p last:List Rat):Prop:=okMul (aw_ [0,1] ((2* (n:Int)+1:Int):Rat)) p∧smL last∧smL (aw_ last ((n:Int):Rat))∧smL (subP (mulP (aw_ [0,1] ((2* (n:Int)+1:Int):Rat)) p) (aw_ last ((n:Int):Rat)))∧(mulP (aw_ [0,1] ((2* (n:Int)+1:Int):Rat)) p).length≤1000∧last.length≤1000∧n≤1000
instance (n:Nat) (p last:List Rat):Decidable (okL n p last):=inferInstanceAs (Decidable (_∧_∧_∧_∧_∧_∧_))
def okH(n:Nat)(p last:List Rat):Prop:=okMul twP p∧smL last∧smL (aw_ last ((2* (n:Int):Int):Rat))∧(mulP twP p).length≤1000∧last.length≤1000∧n≤1000
instance (n:Nat) (p last:List Rat):Decidable (okH n p last):=inferInstanceAs (Decidable (_∧_∧_∧_∧_∧_))

def okC(_:Nat)(p last:List Rat):Prop:=okMul twP p∧smL last∧(mulP twP p).length≤1000∧last.length≤1000
instance (n:Nat) (p last:List Rat):Decidable (okC n p last):=inferInstanceAs (Decidable (_∧_∧_∧_))
theorem q2_(p:List Rat)(h:e5_ p)(h0:trimQ p≠[])(hl:p.length≤1099511627776):FS 176 [.arr (pE p)] (.tup [.agg (qC (a1_ p)),i64 0]):=by
 refine f_c Tryz.func176 ?_;refine r_z 2 ?_;refine ab_ (r_c 3 (bc_ p hl) ?_);refine a_z ?_;refine ai_ rfl (fun h1=>?_) (fun h1=>?_);exact absurd (degP_neg.1 (by simpa using h1)) h0;refine ag_ (r_c 4 (nG_ p h h0) ?_);refine a_z ?_;refine ad_ (Fin.many ⟨_,_,rfl,⟨_,_,_,_,_,rfl,rfl,rfl,.inl ⟨TG.h,_,TS.h,nle rfl,rfl⟩⟩,⟨_,_,rfl,rfl,rfl⟩⟩ (nle rfl) ?_);exact ah_ (au_ av_ (az_ _)) (ah_ (au_ av_ (af_ _)) aq_)
theorem fs_Count(f:Nat)(p:List Rat)(c:Cnt)(s:Sp)(hc:b9_ f p=some c)(hf:f≤1000000)(h1:okBe c s.1)(h2:okUp c s.2)(hs:smS s)(hv:cmpQ s.1 s.2≤0)(hl:ih_ p=0)(hp:p.length≤1099511627776):
    FS 284 [.arr (pE p),.agg (spC s.1 s.2)] (.tup [i64 (uptoV c s.2- aM_ c s.1),i64 0]):=by
 have hb1:=eC_ (x:=s.2) h2.1;have hb2:=l0_ (x:=s.1) h1.1.1;have hla:=fs_large p hp;rw[hl] at hla;refine f_c Tryz.func284 ?_;refine r_z 3 ?_;refine ab_ (r_c 3 (ep_ s.1 s.2 hs.1 hs.2) ?_);refine a_z ?_;refine ai_ rfl (fun h3=>?_) (fun h3=>?_);exact absurd h3 (by simp[hv]);refine ag_ (ab_ (r_c 3 (hla) ?_));refine a_z ?_;refine r_z 2 ?_;refine ai_ rfl (fun h4=>?_) (fun h4=>?_);exact absurd h4 (by decide);refine ag_ (r_c 3 (gp_ f p c hc hf) ?_);refine a_z ?_;refine ab_ (r_d hmix 11 ?_);refine c_s (fU_ c s.2 h2) ?_;refine c_s (eP_ c s.1 h1) ?_;refine a_3 ?_;refine ak_ (n_k ?_);refine ad_ (Fin.many ⟨_,_,rfl,rfl,⟨_,_,rfl,rfl,rfl⟩⟩ (nle rfl) ?_);exact ah_ (au_ av_ (af_ _)) (ah_ (au_ av_ (af_ _)) aq_)
theorem iq_(a b:Rat)(hb:b≠0)(h:qs a+qs b≤549755813888):FS 288 [.agg (qC a),.agg (qC b)] (.agg (qC (a/ b))):=by
 refine f_c Tryz.func288 ?_;refine r_z 3 ?_;refine r_c 9 (ls_ a b hb h) ?_;refine a_z ?_;refine r_z 2 ?_;exact ad_ (c_e (az_ _))
theorem bU_(n:Int)(h: -9223372036854775808≤n∧n≤9223372036854775807):FS 195 [i64 n] (.agg (qC (n:Rat))):=by
 refine f_c Tryz.func195 ?_;refine r_z 1 ?_;refine r_c 3 (cq_ n h) ?_;refine a_z ?_;exact ad_ (c_e (az_ _))
theorem eo_(n lo hi:Int):FS 193 [i64 n,i64 lo,i64 hi] (bln (decide (n< lo∨hi< n))):=by
 refine f_c Tryz.func193 ?_;refine r_z 1 ?_;by_cases h:n< lo;rw[decide_eq_true (Or.inl h)];refine q_z 9 ?_;exact ad_ (t_e (af_ _));by_cases h2:hi< n;rw[decide_eq_true (Or.inr h2)];refine q_z 9 ?_;exact ad_ (t_e (af_ _));rw[decide_eq_false (fun e=>e.elim h h2)];refine q_z 9 ?_;exact ad_ (t_e (af_ _))
theorem mv_(p q:List Rat)(h:okDiv p q)(h0:trimQ q≠[]):FS 287 [.arr (pE p),.arr (pE q)] (.arr (pE (divP p q).2)):=by
 refine f_c Tryz.func287 ?_;refine r_z 1 ?_;refine r_c 10 (q0_ p q h h0) ?_;refine a_z ?_;refine r_z 2 ?_;exact ad_ (t_e (ap_ _))
theorem oD_(p:List Rat)(hb:bdL p 68719476736)(h0:trimQ p≠[])(hl:p.length≤1099511627776):FS 202 [.arr (pE p)] (.arr (pE (a4_ p))):=by
 have hp:smL p:=bI_ hb (by decide)
 have hle:qs (leadP p)≤68719476736:=by
  obtain⟨n,hn⟩:∃n,(trimQ p).length=n+1:=⟨(trimQ p).length- 1,by have:=List.length_pos_iff.2 h0;omega⟩;exact hb _ (ba_ (List.mem_of_getElem? (bk_ hn)))
 have q1:qs ((1:Int):Rat)=1:=by decide
 have hq:=d6_ ((1:Int):Rat) (leadP p);have e:a4_ p=aw_ p (((1:Int):Rat) / leadP p):=by unfold a4_;rw[if_neg h0];rfl
 rw[e];refine f_c Tryz.func202 ?_;refine r_z 1 ?_;refine r_c 7 (bU_ 1 (by decide)) ?_;refine c_s (fW_ p hl) ?_;refine o_0 (.call rfl rfl rfl (iq_ _ (leadP p) (bj_ h0) (by omega))) ?_;refine o_0 (.call rfl rfl rfl (cL_ p _ hp (by unfold sm;omega) hl)) ?_;refine o_0 (.assign rfl) ?_;refine ak_ ?_;exact ad_ (t_e (ap_ _))
theorem mz_(f:List Rat)(a b:Rat)(hf:smL f)(hl:f.length≤1000000)(ha:b2_ (aj_ f) a)(hb:b2_ (aj_ f) b):FS 197 [.arr (pE f),.agg (spC a b)] (.agg (qC (evalP (aj_ f) b- evalP (aj_ f) a))):=by
 have q1:=eT_ ha;have q2:=eT_ hb;unfold sm at q1 q2;refine f_c Tryz.func197 ?_;refine r_z 2 ?_;refine r_c 3 (fX_ f hf (by omega)) ?_;refine a_z ?_;refine ab_ (r_d hmix 10 ?_);refine c_s (c5_ (aj_ f) b hb) ?_;refine c_s (c5_ (aj_ f) a ha) ?_;refine o_0 (.call rfl rfl rfl (g4_ _ _ (by omega))) ?_;refine o_1n (.store rfl rfl rfl rfl rfl rfl TS.h (nle rfl)) ?_;refine ak_ (n_k ?_);exact ad_ (c_e (az_ _))
theorem km_(p:List Rat)(h:e5_ p)(h0:trimQ p≠[])(hl:p.length≤1099511627776):FS 285 [.arr (pE p)] (.agg (spC (-a1_ p) (a1_ p))):=by
 refine f_c Tryz.func285 ?_;refine r_z 1 ?_;refine r_c 8 (q2_ p h h0 hl) ?_;refine a_z ?_;refine ab_ (r_d hmix 5 ?_);refine c_s (eX_ (a1_ p)) ?_;refine a_3 ?_;refine ak_ (n_k ?_);exact ad_ (c_e (aP_ _ _))
def wC(m:List Rat)(l r:Bool)(lo hi:List AV):List AV:=[.arr (pE m),bln l,bln r]++lo++hi
def okC2(lo:List AV):Prop:=lo=zC∨∃q,lo=qC q
theorem iI_{lo:List AV}(h:okC2 lo):∀c∈lo,Closed c:=by
 rcases h with rfl|⟨q,rfl⟩
 exact dY_;exact aN_ q
theorem dd_{m:List Rat}{l r:Bool}{lo hi:List AV}(h:okC2 lo)(h2:okC2 hi):∀c∈wC m l r lo hi,Closed c:=fun c hc=>by
 unfold wC at hc;rcases List.mem_append.1 hc with hc|hc
 rcases List.mem_append.1 hc with hc|hc
 exact aa_ (ap_ m) (aa_ (af_ _) (aa_ (af_ _) ac_)) c hc;exact iI_ h c hc;exact iI_ h2 c hc
def ofS(t:List Rat)(W:List AV):Nat×Rat→AState
 |(i,o)=>⟨[(2,.lptr 1 0 0),(4,.lptr 2 0 0),(5,.lptr 3 0 0),(9,.arr (pE t)),(10,i64 t.length),(11,i64 i)],[(1,some ⟨160,9,[W]⟩),(2,some ⟨39,3,[zC]⟩),(3,some ⟨39,3,[qC o]⟩)],4,27⟩
theorem fs_of(p m:List Rat)(l r:Bool)(a b:Rat)(s t:Nat)(hp:bdL p s)(hm:bdL m t)(hs:1≤s)(ht:1≤t)(hpl:p.length≤1000000)(hlen:(trimQ p).length≤m.length)(hlim:(p.length+2) * (s+t+1)≤137438953472):
    FS 290 [.agg (wC m l r (qC a) (qC b)),.arr (pE p)] (.agg (qC (ofQ (trimQ p) m (trimQ p).length))):=by
 obtain⟨T,hT⟩:∃T,T=trimQ p:=⟨_,rfl⟩;have htl:=aD_ p;have hTb:bdL T s:=fun q hq=>hp q (ba_ (by rw[←hT];exact hq));have htr:=b6_ p (by omega);rw[←hT] at htl hlen htr⊢;obtain⟨W,hW⟩:∃W,W=wC m l r (qC a) (qC b):=⟨_,rfl⟩;have hWc:∀c∈W,Closed c:=by rw[hW];exact dd_ (.inr ⟨a,rfl⟩) (.inr ⟨b,rfl⟩)
 rw[hW] at hWc;refine f_c Tryz.func290 ?_;refine r_z 2 ?_;refine r_z 1 ?_;refine ab_ (r_c 4 (htr) ?_);refine a_z ?_;have hWr:W=wC m l r (qC a) (qC b):=hW;refine ay_ (fun _:Unit=>⟨[(4,.lptr 1 0 0),(5,.lptr 2 0 0)],[(1,some ⟨39,3,[zC]⟩),(2,some ⟨39,3,[qC (ofQ T m T.length)]⟩)],3,27⟩) (fun _=>True) ?_ ?_;refine ae_ (as_ (ofS T (wC m l r (qC a) (qC b))) (fun x=>T.length- x.1) (fun x=>x.1≤T.length∧x.2=ofQ T m x.1) (0,0) ⟨Nat.zero_le _,rfl⟩ ?_ ?_);simp only[ofS.eq_1];rw[qC0];exact s_f [(1,2),(2,4),(3,5)];rintro⟨i,o⟩ ⟨hi,ho⟩;simp only at hi ho;rw[ofS.eq_1];by_cases hlt:i< T.length;refine q_z 1 ?_;refine ab_ (cT (ag_ ?_));have hgt:(pE T)[((i:Nat):Int).toNat]?=some (qC (coP T i)):=bG_ (bd_ hlt);have hgm:(pE m)[((i:Nat):Int).toNat]?=some (qC (coP m i)):=bG_ (bd_ (by omega));have hc:=bL_ hTb hs i;have hd:=bL_ hm ht i;have hq:=pY_ hTb hm hs ht i;rw[←ho] at hq;have e1:i* (s+t+1)≤(p.length+1) * (s+t+1):=Nat.mul_le_mul_right _ (by omega);have e2:(p.length+2) * (s+t+1)=(p.length+1) * (s+t+1)+(s+t+1):=Nat.succ_mul _ _;have hmu:=bO_ (coP T i) (coP m i) (by omega);have hqm:=bK_ (coP T i) (coP m i);have had:=c4_ o (coP T i* coP m i) (by omega);refine ab_ (ae_ (s_r 6 ?_));refine a_1 ?_;refine i_x hgt ?_;refine l_x hgt ?_;refine a_z ?_;refine r_d hmix 10 ?_;refine a_5 ?_;refine i_x hgm ?_;refine l_x hgm ?_;refine c_s (hmu) ?_;refine c_s (had) ?_;refine a_1 ?_;refine ak_ (n_k ?_);refine r_m 2 ?_;refine a_z ?_;refine⟨(i+1,o+coP T i* coP m i),by simp only;omega,⟨hlt,by simp only;rw[ofQ,←ho]⟩,?_⟩
 simp only[ofS.eq_1];exact s_f [];have hge:i=T.length:=by omega
 subst hge;refine q_z 1 ?_;refine ab_ (cF (ar_ ⟨(),trivial,?_⟩));rw[ho];exact s_e [(1,4),(2,5)];rintro _ _;refine r_z 2 ?_;exact ad_ (c_e (az_ _))
theorem fs_real1(p:List Rat)(n:Int)(hl:p.length≤1099511627776)(h:1≤degP p∧degP p≤25)(hb:e5_ p)(hc:FS 284 [.arr (pE p),.agg (spC (-a1_ p) (a1_ p))] (.tup [i64 n,i64 0])):FS 200 [.arr (pE p)] (bln (decide (n=degP p))):=by
 have ho:=eo_ (degP p) 1 25;rw[decide_eq_false (by omega)] at ho;have h0:trimQ p≠[]:=fun e=>by have:=degP_neg.2 e;omega
 have hev:=km_ p hb h0 hl;refine f_c Tryz.func200 ?_;refine r_z 1 ?_;refine r_c 3 (bc_ p hl) ?_;refine a_z ?_;refine ab_ (r_c 2 (ho) ?_);refine ak_ ?_;refine cF (ag_ (r_c 9 (hev) ?_));refine c_s (hc) ?_;refine a_z ?_;refine r_z 4 ?_;exact ad_ (t_e (af_ _))
abbrev ruC(p w:List Rat):List AV:=[.arr (pE p),.arr (pE w)]
theorem cV_(p w:List Rat):∀c∈ruC p w,Closed c:=aa_ (ap_ p) (aa_ (ap_ w) ac_)
theorem lB_(p w:List Rat)(hr:FS 200 [.arr (pE p)] (bln true))(hm:leadP p=1)(hd:degP w< degP p)(hp:p.length≤1099511627776)(hw:w.length≤1099511627776):FS 210 [.agg (ruC p w)] (i64 0):=by
 have hle:=fW_ p hp;rw[hm] at hle;have hwh:=bU_ 1 (by decide);have hcm:=eY_ 1 ((1:Int):Rat) (by decide) (by decide);rw[show cmpQ 1 ((1:Int):Rat)=0 by decide+kernel] at hcm;refine f_n Tryz.func210 ?_ ?_;exact aa_ (aB_ (cV_ p w)) ac_;refine r_z 2 ?_;refine ab_ (ab_ (r_d hmix 21 ?_));refine c_s (hr) ?_;refine c_s (hle) ?_;refine c_s (hwh) ?_;refine c_s (hcm) ?_;refine de_ rfl rfl rfl (.bin rfl rfl (vF b4_ (rfl))) rfl rfl ?_;refine c_s (bc_ w hw) ?_;refine c_s (bc_ p hp) ?_;refine d_2 ?_;refine ak_ (n_k ?_);refine cF (ag_ (r_z 1 ?_));exact ad_ (t_e (af_ _))
theorem jf_(m:List Rat)(l r:Bool)(a b:Rat)(hm:1≤m.length∧m.length≤64)(hab:l=true→r=true→a< b)(ha:sm a)(hb:sm b):FS 199 [.agg (wC m l r (qC a) (qC b))] (i64 0):=by
 have ho:=eo_ (m.length:Nat) 1 64;rw[decide_eq_false (by omega)] at ho;have hWc:=dd_ (m:=m) (l:=l) (r:=r) (.inr ⟨a,rfl⟩) (.inr ⟨b,rfl⟩);have hcm:=eY_ a b ha hb;refine f_c Tryz.func199 ?_;refine r_z 2 ?_;cases l with
 |false=>
  refine ab_ (r_c 20 (ho) ?_);refine a_z ?_;refine cF (ag_ (r_z 1 ?_));exact ad_ (t_e (af_ _))
 |true=>
  cases r with
  |false=>
   refine ab_ (r_c 20 (ho) ?_);refine a_z ?_;refine cF (ag_ (r_z 1 ?_));exact ad_ (t_e (af_ _))
  |true=>
   have hlt:=hab rfl rfl;rw[show cmpQ a b= -1 by unfold cmpQ;rw[if_pos hlt]] at hcm;refine ab_ (r_c 20 (ho) ?_);refine c_s (hcm) ?_;refine de_ rfl rfl rfl (.bin rfl rfl (vF dr_ (rfl))) rfl rfl ?_;refine a_z ?_;refine cF (ag_ (r_z 1 ?_));exact ad_ (t_e (af_ _))
theorem qU_ (p:List Rat) (n:Nat) (hl:p.length≤1000000) (hn:n≤40) (hmx:(if (0:Int)> degP p then(0:Int) else degP p) * n≤72∧0≤(if (0:Int)> degP p then(0:Int) else degP p) * n)
    (hM:∀j,j< n→FS 18 [.arr (pE (powP p j)),.arr (pE p)] (.arr (pE (powP p (j+1))))):FS 283 [.arr (pE p),i64 n] (.tup [.arr (pE (powP p n)),i64 0]):=by
 have hdg:(0:Int)≤degP p+1∧degP p≤1000000:=by
  have:=aD_ p;unfold degP;omega
 refine f_c Tryz.func283 ?_;refine r_z 2 ?_;refine ab_ (ae_ (q_z 7 ?_));refine cF (r_c 7 (bc_ p (by omega)) ?_);refine a_2 ?_;refine o_0 (.bin rfl rfl (hI_ (by omega))) ?_;refine d_z ?_;refine cF (ag_ ?_);have h1:=cq_ 1 (by decide);have h2:=eO_ 1;refine r_c 3 (h1) ?_;refine c_s (h2) ?_;refine a_z ?_;refine ab_ (r_z 2 ?_);refine ay_ (fun _:Unit=>⟨[(6,.arr (pE (powP p n)))],[],1,31⟩) (fun _=>True) ?_ ?_;refine ae_ (as_ (fun j:Nat=>⟨[(24,i64 ((j:Nat):Int)),(23,i64 ((n:Nat):Int)),(6,.arr (pE (powP p j))),(0,.arr (pE p))],[],1,31⟩) (fun j=>n- j) (fun j=>j≤n) 0 (Nat.zero_le _) ?_ ?_);exact s_e [];rintro j hj;by_cases hlt:j< n;have hm:=hM j hlt;refine q_z 1 ?_;refine ab_ (cT (ag_ (ab_ (ae_ (r_m 4 ?_)))));refine c_s (hm) ?_;refine a_z ?_;refine r_m 2 ?_;refine a_z ?_;refine⟨j+1,by omega,hlt,?_⟩;exact s_e [];have hge:j=n:=by omega
 subst hge;refine q_z 1 ?_;refine ab_ (cF (ar_ ⟨(),trivial,?_⟩));exact s_e [];rintro _ _;refine r_z 3 ?_;refine ad_ (Fin.many ⟨_,_,rfl,rfl,⟨_,_,rfl,rfl,rfl⟩⟩ (nle rfl) ?_);exact ah_ (au_ av_ (ap_ _)) (ah_ (au_ av_ (af_ _)) aq_)
theorem fs_Power(p:List Rat)(n:Nat)(hs:bdL p 256)(hl:p.length≤12)(hn:n≤6)(hb:∀k,k≤n→pB p.length k≤1073741824):FS 283 [.arr (pE p),i64 n] (.tup [.arr (pE (powP p n)),i64 0]):=by
 have hdg:(0:Int)≤degP p+1∧degP p≤12:=by
  have:=aD_ p;unfold degP;omega
 refine qU_ p n (by omega) (by omega) ?_ fun j hlt=>?_;have h1:(0:Int)≤(if (0:Int)> degP p then(0:Int) else degP p)∧(if (0:Int)> degP p then(0:Int) else degP p)≤12:=by split <;> omega
 generalize (if (0:Int)> degP p then(0:Int) else degP p)=m at h1⊢;have h2:m* n≤12* 6:=Int.mul_le_mul h1.2 (by omega) (by omega) (by decide);exact⟨h2,Int.mul_nonneg h1.1 (by omega)⟩;have hB:=hb (j+1) hlt;have hll:=j9_ p j;have hjl:j* p.length≤6* 12:=Nat.mul_le_mul (by omega) hl
 exact jD_ (powP p j) p (pB p.length j) 256 (pS_ hs j) hs (pB_pos p.length j) (by decide) (by
  have h3:=Nat.mul_le_mul_right (pB p.length j+256+1) hll;have h4:(j* p.length+1) * (pB p.length j+256+1)+1≤1073741824:=hB;omega) (by decide) (by omega) (by omega)
end Go.Proofs.YtjjllafelolfoaaGreatDoor
namespace Go.Proofs.YtjjllafelolfoaaGreatDoor
open Go.Abs Go.RowKit
set_option maxRecDepth 20000
theorem o8_:Tryz.prog.underlying 292=some (.pointer 295):=by kernel_rfl
theorem kS_:Tryz.prog.underlying 380=some .unsafePointer:=by kernel_rfl
theorem o7_:(Tryz.prog.info? 295).map (·.size)=some 2:=by kernel_rfl
set_option maxHeartbeats 1000000 in
theorem cs_used(b:Nat)(w:World)(h0:w.cell? ⟨b,0,none⟩=some (.pointer (some ⟨b,0,none⟩))):
    Calls Tryz.prog 302 #[.pointer (some ⟨b,0,none⟩)] w fun e w'=>e= .returned (.tuple #[])∧w'=w:=by
 obtain⟨j,hj,_⟩:=Option.map_eq_some_iff.1 o7_
 go_enter Tryz.func302,Tryz.ntmps302
 go_wp2
 rw[Lib.run_neq_ptr_same w _ o8_ hj]
 go_wp2
 go_end0
 exact⟨rfl,rfl⟩
theorem lj_{n:Nat}(hn:2≤n):liesAt Tryz.prog Tryz.prog.depth 295 (n/ Tryz.prog.cellsOf 295) 0 295 1=true:=by
 have hc:Tryz.prog.cellsOf 295=2:=by kernel_rfl
 rw[hc];have hd:Tryz.prog.depth=(2* (Tryz.prog.types.size+Made.depth)+1)+1:=rfl;rw[hd];simp only[liesAt,Bool.or_eq_true];left;rw[hd];have:1≤n/ 2:=by omega
 simp[rowAt,sameLayout,this,hc]
set_option maxHeartbeats 1000000 in
theorem cs_fresh(b:Nat)(w:World)(cs:Array Value)(hh:w.heap[b]?=some (.cells cs 295 (0,0)))(hsz:2≤cs.size)(hc:cs[0]?=some (.pointer none)):
    Calls Tryz.prog 302 #[.pointer (some ⟨b,0,none⟩)] w fun e w'=>e= .returned (.tuple #[])∧w'=w.setCell ⟨b,0,none⟩ (.pointer (some ⟨b,0,none⟩)):=by
 obtain⟨j,hj,hjs⟩:=Option.map_eq_some_iff.1 o7_;have h0:w.cell? ⟨b,0,none⟩=some (.pointer none):=by simp[World.cell?,hh,hc]
 have hsh:w.shape? b=some (295,cs.size):=by simp[World.shape?,hh]
 have hfz:w.frozen? ⟨b,0,none⟩=false:=by simp[World.frozen?,hh]
 go_enter Tryz.func302,Tryz.ntmps302
 go_wp2
 rw[Lib.run_to_unsafe w ⟨b,0,none⟩ o8_ kS_ hj (by rw[hjs];decide) hsh (by show 0< cs.size;omega)];simp only[Result.andThen];rw[Oper.upon_value]
 go_wp2
 rw[run_callFunc_extern Tryz.func340 (by kernel_rfl) (by kernel_rfl) (by kernel_rfl) (e:=Extern.AbiNoEscape.same) (by kernel_rfl)];rw[Lib.run_noEscape];simp only[Result.andThen];rw[Oper.upon_value]
 go_wp2
 rw[Lib.run_from_unsafe w ⟨b,0,none⟩ kS_ o8_ hj hsh (lj_ hsz)];simp only[Result.andThen];rw[Oper.upon_value]
 go_wp2
 go_end0
 exact⟨rfl,rfl⟩
theorem lI_{P:Go.Program}{f:Nat}{fn:Func}{c:Code}(hf:P.funcs[f]?=some fn)(hb:fn.body=some c)(hname:(fn.name== "runtime.NumGoroutine")=false)(xs:Array Value)(w:World):(callFunc f xs).run P w= .ok (.enter f xs) w:=by
 have hname':¬fn.name= "runtime.NumGoroutine" :=by simpa using hname
 simp[callFunc,hf,hname',hb]
theorem lN_:CSpec Tryz.prog 302 295:=
 ⟨fun xs w=>lI_ Tryz.func302 rfl (by kernel_rfl) xs w,fun b w h0=>cs_used b w h0,fun b w cs hh hsz h0=>cs_fresh b w cs hh hsz h0⟩
theorem pure_tup(a b:Value):Pure (.tup [.v a,.v b]):=by
 rintro M M' β β' w w' y ⟨xs,rfl,x1,x2,e,h1,⟨x3,x4,e2,h2,h3⟩⟩;exact⟨xs,rfl,x1,x2,e,h1,x3,x4,e2,h2,h3⟩
theorem hN_:Tryz.prog.underlying 9=some .string:=by kernel_rfl
theorem l7_(t:List UInt8):(⟨t.toArray⟩:ByteArray).size=t.length:=by simp[ByteArray.size]
theorem rA_(t:List UInt8)(h0:t≠[])(hl:t.length≤1099511627776):BSpec Tryz.prog 235 295 5 none t [tx t] (.tup [i64 t.length,.v .nilIface]):=by
 refine BSpec.intro Tryz.func235 rfl (by kernel_rfl) (aa_ (af_ _) ac_) (pure_tup _ _) (nle rfl) ?_;show AWp _ _ _ _ ⟨[(0,.lptr 0 0 0),(1,tx t)],[(0,some ⟨295,2,[bldC 0 1 none]⟩)],2,19⟩;refine r_z 2 ?_;refine s_r 2 ?_;refine a_1 ?_;refine o_1 (.callC rfl rfl rfl rfl rfl (by first|exact .inl rfl|exact .inr rfl) (lN_)) ?_;refine ak_ ?_;refine s_r 10 ?_;refine a_6 ?_;refine o_1 (.appS_e rfl rfl rfl te_293.h hN_ rfl rfl h0 TZ.h rfl TB.h (by omega)) ?_;refine a_z ?_;refine s_r 4 ?_;refine o_0 (.move rfl) ?_;refine o_0 (.builtinV (vs:=[_]) rfl rfl (fun _ _ _=>rfl)) ?_;refine o_0 (.assign rfl) ?_;refine o_0 (.assign rfl) ?_;refine ak_ ?_;refine ad_ ⟨.inr rfl,?_,12,by decide,rfl,rfl⟩;refine⟨[_,_],⟨_,_,rfl,rfl,⟨_,_,rfl,rfl,rfl⟩⟩,Cv.tup ?_⟩;refine ah_ (Cv.loE av_ ?_ (af_ _)) (ah_ (au_ av_ (af_ _)) aq_);rw[l7_];rfl
theorem ub_byte:Tryz.prog.underlying 354=some (.pointer 5):=by kernel_rfl
theorem ub_cells:Tryz.prog.cellsOf 5=1:=by kernel_rfl
theorem oW_(w:World)(g n:Nat):But g w (w.drew.freeze ⟨g,0,none⟩ n):=by
 have hh:∀x,x≠g→(w.drew.freeze ⟨g,0,none⟩ n).heap[x]?=w.heap[x]?:=by
  intro x hx;unfold World.freeze;split;rfl;show(w.heap.modify g _)[x]?=_;rw[Array.getElem?_modify,if_neg (Ne.symm hx)]
 have hsz:(w.drew.freeze ⟨g,0,none⟩ n).heap.size=w.heap.size:=by
  unfold World.freeze;split;rfl;show(w.heap.modify g _).size=_;simp
 refine⟨?_,?_,?_,by omega,fun x _ hx=>hh x hx,fun x N hx=>?_⟩;unfold World.freeze;split <;> rfl;unfold World.freeze;split <;> rfl;unfold World.freeze;split <;> rfl;by_cases hxg:x=g;subst hxg;unfold World.freeze;split;exact hx;unfold aH_ at hx⊢;show(match (w.heap.modify x _)[x]? with|some (.cells cs _ _)=>some cs.size|some (.map _ _)=>some 0|_=>none)=some N;rw[Array.getElem?_modify,if_pos rfl];cases ho:w.heap[x]? with
 |none=>rw[ho] at hx;cases hx
 |some o=>
  rw[ho] at hx;cases o <;> simp_all
 unfold aH_ at hx⊢;rw[hh x hxg];exact hx
set_option maxHeartbeats 2000000 in
theorem ds_run (b bj cap:Nat) (q:List UInt8) (w:World) (cs ck:Array Value) (h0:q≠[]) (hb:w.heap[b]?=some (.cells cs 295 (0,0))) (hc1:cs[1]?=some (.slice (some ⟨bj,0,none⟩) q.length cap)) (hl:q.length≤cap) (hm:cap≤maxLen) (hne:b≠bj) (hj:w.heap[bj]?=some (.cells ck 5 (0,0))) (hck:cap≤ck.size)
    (hq:∀(k:Nat) (x:UInt8),q[k]?=some x→ck[k]?=some (Value.int .u8 x.toNat)):Calls Tryz.prog 237 #[.pointer (some ⟨b,0,none⟩)] w fun e w'=>e= .returned (.string ⟨q.toArray⟩)∧But bj w w':=by
 have hl0:q.length≠0:=by simpa using h0
 have c1:w.drew.cell? ⟨b,1,none⟩=some (.slice (some ⟨bj,0,none⟩) q.length cap):=by
  have:w.drew.heap[b]?=some (.cells cs 295 (0,0)):=hb;simp[World.cell?,this,hc1]
 have hSD:(Builtin.unsafeSliceData_ #[293] 354 #[.slice (some ⟨bj,0,none⟩) q.length cap]).run Tryz.prog w.drew= .ok (.pointer (some ⟨bj,0,none⟩)) w.drew:=
  Lib.run_unsafeSliceData_row _ _ _ _ _ _ (by omega)
 have hUS:(Builtin.unsafeString_ #[354,3] 9 #[.pointer (some ⟨bj,0,none⟩),.int .i64 q.length]).run Tryz.prog w.drew= .ok (.string ⟨q.toArray⟩) (w.drew.freeze ⟨bj,0,none⟩ q.length):=by
  refine Lib.run_unsafeString_row w.drew 354 3 9 5 ub_byte ub_cells bj ck.size (by have hg':w.drew.heap[bj]?=some (.cells ck 5 (0,0)):=hj;simp[World.shape?,hg']) q h0 (by omega) (by unfold maxLen at hm;omega) ?_;intro j x hx;have hg':w.drew.heap[bj]?=some (.cells ck 5 (0,0)):=hj;rw[show(⟨bj,0,none⟩:Addr).add j=⟨bj,0+j,none⟩ from fI_ bj 0 j];simp[World.cell?,hg',hq j x hx]
 have mixed:=hmix
 go_enter Tryz.func237,Tryz.ntmps237
 go_wp2
 go_region_o
 all_goals (go_wp2;go_ret;exact⟨rfl,oW_ w bj q.length⟩)
theorem re_:DSpec Tryz.prog 237 295 5:=
 ⟨fun xs w=>lI_ Tryz.func237 rfl (by kernel_rfl) xs w,fun b bj cap q w cs ck h0 hb hc1 hl hm hne hj hck hq=>ds_run b bj cap q w cs ck h0 hb hc1 hl hm hne hj hck hq⟩
end Go.Proofs.YtjjllafelolfoaaGreatDoor
namespace Go.Proofs.YtjjllafelolfoaaGreatDoor
open Go.Abs
set_option maxRecDepth 100000
set_option maxHeartbeats 1000000
def dec2(n:Nat):List UInt8:=if n< 10 then [48+n.toUInt8] else [48+(n/ 10).toUInt8,48+(n % 10).toUInt8]
theorem nY_(s:ByteArray)(l h:Nat)(zl zh:Int)(el:zl=(l:Int))(eh:zh=(h:Int))(hlh:l≤h)(hh:h≤s.size):∀w,(Instr.sliceAt 9 (.string s) (some (.int .i64 zl)) (some (.int .i64 zh)) none).run Tryz.prog w= .ok (.string (s.extract l h)) w:=fun w=>by
 subst el eh;have b1:∀(i y:Nat) (c:BoundsCode),i≤y→(Instr.sliceBound (.int .i64 (i:Int)) y c).run Tryz.prog w= .ok i w:=fun i y c hi=>cu_ hi c w
 have hr:(Instr.slice 9 (.string s) (some (.int .i64 (l:Int))) (some (.int .i64 (h:Int))) none).run Tryz.prog w= .ok (.string (s.extract l h)) w:=by
  simp[Instr.slice,run_underlying hN_,Instr.sliceBounds,b1 h s.size _ hh,b1 l h _ hlh,Result.andThen]
 unfold Instr.sliceAt;rw[Sem.run_bind,run_underlying hN_];exact hr
def smallsB:ByteArray:=⟨((List.range 100).flatMap fun n=>[48+(n/ 10).toUInt8,48+(n % 10).toUInt8]).toArray⟩
theorem qz_(i:Nat)(h:i< 100):FS 362 [i64 i] (tx (dec2 i)):=by
 refine f_c Tryz.func362 ?_;refine r_z 1 ?_;refine ab_ (r_z 2 ?_);refine ai_ rfl (fun h1=>?_) (fun h1=>?_);have h2:i< 10:=by simp at h1;omega
 refine s_r 5 ?_;refine a_3 ?_;refine o_0 (.slice_v rfl rfl rfl rfl (nY_ _ i (i+1) _ _ rfl (by omega) (by omega) (by exact Nat.le_trans (m:=10) (by omega) (by decide)))) ?_;refine a_z ?_;refine ad_ (aE_ rfl ?_ ?_);have key:∀i,i< 10→(ByteArray.mk #[48,49,50,51,52,53,54,55,56,57,97,98,99,100,101,102,103,104,105,106,107,108,109,110,111,112,113,114,115,116,117,118,119,120,121,122]).extract i (i+1)=⟨(dec2 i).toArray⟩:=by decide
 exact congrArg (fun s=>AV.v (.string s)) (key i h2);exact af_ _;have h2:10≤i:=by simp at h1;omega
 refine ag_ (s_r 7 ?_);refine a_5 ?_;refine o_0 (.slice_v rfl rfl rfl rfl (nY_ _ (i* 2) (i* 2+2) _ _ (by omega) (by omega) (by omega) (by exact Nat.le_trans (m:=200) (by omega) (by decide)))) ?_;refine a_z ?_;refine ad_ (aE_ rfl ?_ ?_);have key:∀i,i< 100→10≤i→smallsB.extract (i* 2) (i* 2+2)=⟨(dec2 i).toArray⟩:=by decide
 refine congrArg (fun s=>AV.v (.string s)) (Eq.trans (congrArg (fun s:ByteArray=>s.extract _ _) (?_:_=smallsB)) (key i h h2))
 kernel_rfl
 exact af_ _
theorem lw_(i:Nat)(h:i< 100):FS 341 [i64 i,i64 10] (tx (dec2 i)):=by
 refine f_c Tryz.func341 ?_;refine r_z 1 ?_;refine ab_ (r_z 2 ?_);refine ai_ rfl (fun h1=>?_) (fun h1=>?_);refine ab_ (s_r 6 ?_);refine a_3 ?_;refine y_g rfl (by simp) (.move rfl) ?_;refine y_g rfl (by simp) (.bin rfl rfl cF_) ?_;refine o_0 (.pickT rfl (by simp) rfl) ?_;refine ak_ ?_;refine ai_ rfl (fun h2=>?_) (fun h2=>?_);refine r_c 3 (qz_ i h) ?_;refine a_z ?_;exact ad_ (t_e (af_ _));exact absurd h2 (by simp;omega);exact absurd h1 (by simp)
theorem fs_iItoa(i:Nat)(h:i< 100):FS 303 [i64 i] (tx (dec2 i)):=by
 refine f_c Tryz.func303 ?_;refine r_z 1 ?_;refine r_c 3 (lw_ i h) ?_;refine a_z ?_;exact ad_ (t_e (af_ _))
theorem fs_Itoa(i:Nat)(h:i< 100):FS 236 [i64 i] (tx (dec2 i)):=by
 refine f_c Tryz.func236 ?_;refine r_z 1 ?_;refine r_c 3 (fs_iItoa i h) ?_;refine a_z ?_;exact ad_ (t_e (af_ _))
def te0(m:Nat):Unit→AState
 |u=>⟨[(1,.lptr 1 0 0),(3,.lptr 2 0 0),(11,.clos 334 [] [.aptr [[.arr (dE [m])]] 0 0])],[(1,some ⟨35,1,[[.arr (dE [m])]]⟩),(2,some ⟨295,2,[bldC 2 0 none]⟩)],4,31⟩
def te1(m:Nat):Unit→AState
 |u=>⟨[(1,.lptr 1 0 0),(3,.lptr 2 0 0),(11,.clos 334 [] [.aptr [[.arr (dE [m])]] 0 0])],[(1,some ⟨35,1,[[.arr (dE [m])]]⟩),(2,some ⟨295,2,[bldC 2 3 (some (dec2 m))]⟩),(3,some ⟨5,1,bE (dec2 m)⟩)],4,31⟩
def teS(m:Nat):Nat→AState
 |0=>te0 m ()
 |_+1=>te1 m ()
theorem rg_{m:Nat}(h0:m≠0)(h:m< 100):digs MB m=[m]:=by
 have hb:MB=1000000000:=rfl;rw[cM_ (by decide) (by omega),Nat.mod_eq_of_lt (by omega),Nat.div_eq_of_lt (by omega),bh_]
theorem rm_(m:Nat):dec2 m≠[]:=by unfold dec2;split <;> simp
theorem ku_(m:Nat):(dec2 m).length≤2:=by unfold dec2;split <;> simp
theorem nE_(m:Nat)(h:m< 100):FS 211 [.agg [mag m]] (tx (dec2 m)):=by
 have hz:=go_ m;refine f_c Tryz.func211 ?_;refine r_z 2 ?_;refine ab_ (r_c 2 (hz) ?_);refine ak_ ?_;refine ai_ rfl (fun h1=>?_) (fun h1=>?_);have h2:m=0:=by simpa using h1
 subst h2;refine r_z 1 ?_;exact ad_ (t_e (af_ _));have h2:m≠0:=by simpa using h1
 have hm:mag m= .arr (dE [m]):=by unfold mag;rw[rg_ h2 h]
 rw[hm];refine ag_ ?_;have hln:([m]:List Nat).length=1:=rfl;have hcl:Closed (.aptr [[.arr (dE [m])]] 0 0):=d0_ (fun e he c hc=>by simp at he;subst he;simp at hc;subst hc;exact bs_ _);have hcl2:Closed (.clos 334 [] [.aptr [[.arr (dE [m])]] 0 0]):=aG_ ac_ (aa_ hcl ac_);refine r_z 1 ?_;refine ab_ (r_c 3 (gq_ [m]) ?_);refine ak_ ?_;refine ay_ (fun _:Unit=>te1 m ()) (fun _=>True) ?_ ?_;refine ae_ (AWp.rangeFunc (α:=Nat) (γ:=Empty) 1 (teS m) (fun k=>k) (fun k=>k≤1) (fun e=>nomatch e) (fun _ e=>nomatch e) 0 rfl (gl_ [m] (by simp)) rfl rfl ?_ (fun k=>by cases k <;> exact⟨rfl,rfl⟩) (fun e=>nomatch e) (Nat.zero_le _) rfl (fun _ h=>h) ?_ ?_ ?_ ?_ (fun _ e=>nomatch e));intro k xs hT;unfold backT at hT;split at hT;cases hT;rfl;cases hT;show SEntT _ (te0 m ());rw[te0.eq_1];exact s_t [(1,1),(2,3)];exact aa_ hcl ac_
 ·intro l k xs hk hT
  unfold backT at hT;split at hT;rotate_left;cases hT;rename_i hlt;have hk0:k=0:=by simpa using hlt
  subst hk0;cases hT;show AWp _ _ _ _ ⟨setPs (te0 m ()).fr _ _++cG_ (te0 m ()).fr,_,_,_⟩;show AWp _ _ _ _ ⟨[(13,u32 m),(12,i64 0),(1,.lptr 1 0 0),(3,.lptr 2 0 0),(11,.clos 334 [] [.aptr [[.arr (dE [m])]] 0 0]),(1001,.lptr 1 0 0),(1003,.lptr 2 0 0),(1011,.clos 334 [] [.aptr [[.arr (dE [m])]] 0 0])],[(1,some ⟨35,1,[[.arr (dE [m])]]⟩),(2,some ⟨295,2,[bldC 2 0 none]⟩)],4,31⟩;refine r_z 1 ?_;refine r_m 1 ?_;refine a_z ?_;refine ae_ (r_c 4 (fs_Itoa m h) ?_);refine a_z ?_;refine ab_ (r_z 6 ?_);refine ai_ rfl (fun h3=>?_) (fun h3=>?_);exact absurd h3 (by simp);refine ag_ (r_m 2 ?_);refine a_1 ?_;refine o_2 (.callB (s:=none) (j:=0) rfl rfl rfl rfl rfl rfl (fun _ h=>by cases h) (rA_ (dec2 m) (rm_ m) (by have:=ku_ m;omega))) ?_;refine ak_ ?_;refine⟨0+1,⟨by omega,rfl⟩,?_⟩;show SEntT _ ⟨[(1001,.lptr 1 0 0),(1003,.lptr 2 0 0),(1011,.clos 334 [] [.aptr [[.arr (dE [m])]] 0 0])],[(1,some ⟨35,1,[[.arr (dE [m])]]⟩),(2,some ⟨295,2,[bldC 2 3 (some (dec2 m))]⟩),(3,some ⟨5,1,bE (dec2 m)⟩)],4,31⟩;refine SEntT.to2 [(3,100017)] rfl rfl rfl au_r (fun hs=>?_) (fun hs=>?_)
  ·repeat' (first|exact a9_|refine aV_ rfl ?_ ?_)
   all_goals (first|(exact au_ hs hcl2)|exact au_c)
  ·repeat' (first|exact aC_|refine hJ_ rfl rfl rfl rfl ?_ ?_)
   all_goals (first|exact au_e|(refine aA_ ?_;repeat' (first|exact aq_|refine ah_ ?_ ?_)))
   all_goals (first|(exact au_ hs hcl2)|exact au_c)
 ·intro k hk hT
  unfold backT at hT;split at hT;cases hT
  have hk1:k=1:=by
   rename_i hn;simp at hn;omega
  subst hk1;exact⟨(),trivial,SEnt.refl _⟩
 rintro _ _;rw[te1.eq_1];have hne:=rm_ m;refine s_r 2 ?_;refine o_2 (.callD rfl rfl rfl rfl rfl rfl (by decide) (by first|assumption|simp) (re_)) ?_;refine a_z ?_;exact ad_ (t_e (af_ _))
section
variable {P:Go.Program}{T:Nat}{x y:Operand}
theorem kB_{l m:List UInt8}(h:l.length+m.length≤9223372036854775807):∀w,(do eqGuard .add T x y (.string ⟨l.toArray⟩) (.string ⟨m.toArray⟩);binOp .add T (.string ⟨l.toArray⟩) (.string ⟨m.toArray⟩):Sem Value).run P w= .ok (.string ⟨(l++m).toArray⟩) w:=fun w=>by
 have hm:IntKind.i64.max=9223372036854775807:=by decide
 have e:(⟨l.toArray⟩:ByteArray)++⟨m.toArray⟩=⟨(l++m).toArray⟩:=by
  apply ByteArray.ext;simp
 have hn:¬((((⟨l.toArray⟩:ByteArray).size+(⟨m.toArray⟩:ByteArray).size:Nat):Int)> IntKind.i64.max):=by
  rw[l7_,l7_,hm];omega
 simp only[eqGuard,binOp,Op.stringOp,hn,if_false,e,Sem.run_bind,Sem.run_pure,Result.andThen_ok];rfl
theorem binS_eqT{l m:List UInt8}:∀w,(do eqGuard .eql T x y (.string ⟨l.toArray⟩) (.string ⟨m.toArray⟩);binOp .eql T (.string ⟨l.toArray⟩) (.string ⟨m.toArray⟩):Sem Value).run P w= .ok (.bool (decide (l=m))) w:=fun w=>by
 rw[oa_];congr 2
 have e:∀l:List UInt8,(⟨l.toArray⟩:ByteArray).toList=l:=by
  intro l;have:=ByteArray.toList_eq (bs:=⟨l.toArray⟩);simpa using this
 rw[e,e];rw[Bool.eq_iff_iff];simp
end
def textQ(q:Rat):List UInt8:=((if q.num< 0 then [45] else [])++dec2 q.num.natAbs)++(if q.den=1 then [] else 47::dec2 q.den)
def okT(q:Rat):Prop:=q.num.natAbs< 100∧q.den< 100
instance (q:Rat):Decidable (okT q):=inferInstanceAs (Decidable (_∧_))
theorem okT_qs{q:Rat}(h:okT q):qs q≤1099511627776:=by
 obtain⟨h1,h2⟩:=h;have e1:=bl_le (n:=q.num.natAbs) (k:=7) (by omega);have e2:=bl_le (n:=q.den) (k:=7) (by omega);unfold qs;omega
def qtS(q:Rat):List UInt8→AState
 |l=>⟨[(1,.aptr [qC q] 0 0),(3,tx l)],[],2,24⟩
theorem fs_QText(q:Rat)(h:okT q):FS 88 [.agg (qC q)] (tx (textQ q)):=by
 have hd1:=ku_ q.num.natAbs;have hd2:=ku_ q.den;have hden:1≤q.den:=q.den_pos;refine f_c Tryz.func88 ?_;refine r_z 2 ?_;refine AWp.ent (st':=⟨[(1,.aptr [qC q] 0 0)],[],2,24⟩) ?_ ?_;exact s_e [];refine r_c 5 (nE_ q.num.natAbs h.1) ?_;refine a_z ?_;refine a2_ (qtS q) (fun l=>l=(if q.num< 0 then [45] else [])++dec2 q.num.natAbs) ?_ ?_;refine r_z 3 ?_;refine ai_ rfl (fun h1=>?_) (fun h1=>?_);have h2:q.num< 0:=by simpa using h1
 refine r_m 3 ?_;refine a_1 ?_;refine o_0 (.bin rfl rfl (kB_ (l:=[45]) (by simp;omega))) ?_;refine a_z ?_;refine⟨_,by rw[if_pos h2],?_⟩;rw[qtS.eq_1];exact s_x [] (fun hs=>e_6) (fun hs=>e_7);have h2:¬q.num< 0:=by simpa using h1
 refine ag_ ⟨dec2 q.num.natAbs,by rw[if_neg h2];rfl,?_⟩;rw[qtS.eq_1];exact s_x [] (fun hs=>e_6) (fun hs=>e_7);rintro l hl;have hll:l.length≤3:=by rw[hl];split <;> simp <;> omega
 rw[qtS.eq_1];refine a2_ (qtS q) (fun l=>l=textQ q) ?_ ?_;refine r_c 4 (go_ (q.den- 1)) ?_;refine a_z ?_;refine ai_ rfl (fun h1=>?_) (fun h1=>?_)
 have h2:¬q.den=1:=by
  intro e;rw[e] at h1;simp at h1
 refine r_m 7 ?_;refine c_s (cz_ q (okT_qs h)) ?_;refine c_s (nE_ q.den h.2) ?_;refine o_0 (.bin rfl rfl (kB_ (l:=[47]) (by simp;omega))) ?_;refine o_0 (.bin rfl rfl (kB_ (by simp;omega))) ?_;refine a_z ?_;refine⟨_,by unfold textQ;rw[if_neg h2,←hl],?_⟩;rw[qtS.eq_1];exact s_x [] (fun hs=>e_6) (fun hs=>e_7)
 have h2:q.den=1:=by
  have h3:q.den- 1=0:=by simpa using h1
  omega
 refine ag_ ⟨l,by unfold textQ;rw[if_pos h2,←hl,List.append_nil],?_⟩;rw[qtS.eq_1];exact s_x [] (fun hs=>e_6) (fun hs=>e_7);rintro l rfl;rw[qtS.eq_1];refine r_z 2 ?_;exact ad_ (t_e (af_ _))
section
variable {P:Go.Program}{T:Nat}{x y:Operand}
end
def okPT(p:List Rat):Prop:=p.length≤1000∧(trimQ p).length≤99∧(∀c∈trimQ p,okT c)
instance (p:List Rat):Decidable (okPT p):=inferInstanceAs (Decidable (_∧_∧_))
def okTo(L:Nat)(p t:List Rat)(k:Rat)(n:Nat):Prop:=n< L∧smL p∧smL t∧leadP t≠0∧sm k∧smL (aw_ t k)∧p.length≤274877906944∧t.length≤274877906944
instance (L:Nat) (p t:List Rat) (k:Rat) (n:Nat):Decidable (okTo L p t k n):=inferInstanceAs (Decidable (_∧_∧_∧_∧_∧_∧_∧_))

end Go.Proofs.YtjjllafelolfoaaGreatDoor
