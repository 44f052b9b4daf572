/- Part V28 of the proof. -/
import Derived.Test.YtkhclghbcicapaaGreatDoorV27
import Derived.Lib.UnsafeStr
import Derived.Lib.Builder
import Derived.Shelf.RegionOpenPlain
import Derived.Lib.Strings
import Derived.Lib.Slices
import Derived.Lib.Walk
set_option linter.all false
namespace Go.Proofs.YtkhclghbcicapaaGreatDoor
open Go.Abs
set_option maxRecDepth 20000
theorem uS(x:RQ)(hx:rok x):FS 106 [.agg (rC x)] (.agg (zZ (x.1.den:Int))):=by
 refine f_c Tryz.func106 ?_;refine r_z 2 ?_;refine ae (r_z 4 ?_);obtain⟨q,f⟩:=x;have hp:=q.den_pos;cases f with
 |true=>
  have c:q=0:=hx rfl;subst c;refine aq (t:=true) rfl (fun h=>?_) (fun h=>?_);refine r_c 2 (rR 1 (by decide)) ?_;refine a_z ?_;exact ak (c_e (dh _));cases h
 |false=>
  refine aq rfl (fun h=>?_) (fun h=>?_);exfalso;have h1:sgZ (q.den:Int)=0:=by simpa using h
  rcases du (q.den:Int) with⟨a,b⟩|⟨a,b⟩|⟨a,b⟩<;> omega
  refine an (r_z 3 ?_);exact ak (c_e (dh _))
theorem zd_one:zd 1=[1]:=by
 unfold zd;rw[fU (by decide) (by decide),show 1/ UB=0 by decide,cP];rfl
theorem zZ_one{g:Nat}(h:g=1):zZ (g:Int)=[i64 1,.arr [[i64 1]]]:=by
 subst h;show [i64 (sgZ 1),AV.arr (iE (zd 1))]=_;rw[zd_one];rfl
theorem FF{g:Nat}(h:(zd g).length=1):zd g=[g]:=by
 obtain⟨a,ha⟩:=List.length_eq_one_iff.1 h;have h1:=lW g;rw[ha,rA,wg] at h1;simp at h1;rw[ha,h1]
theorem xy{n:Nat}(h:bl n≤4398046511104):(zd n).length≤281474976710656:=by
 rw[dd];have:=b8 (b:=UB) (by decide) n;omega
def ratS(n':Int)(D g:Nat):AState:=⟨[(2,.lptr 1 0 0),(3,.lptr 2 0 0),(4,.lptr 3 0 0),(5,.lptr 4 0 0)],[(1,some ⟨49,2,[zZ n']⟩),(2,some ⟨49,2,[zZ (D:Int)]⟩),(3,some ⟨51,4,[[i64 0,.emp,i64 0,.emp]]⟩),(4,some ⟨49,2,[zZ (g:Int)]⟩)],5,57⟩
theorem BI(n d:Int)(hd:d≠0)(hn:bl n.natAbs≤4398046511104)(hb:bl d.natAbs≤4398046511104):FS 101 [.agg (zZ n),.agg (zZ d)] (.agg (rC (rq (Rat.divInt n d)))):=by
 refine f_c Tryz.func101 ?_;refine r_z 3 ?_;refine bD (fun f:Int=>⟨[(2,.lptr 1 0 0),(3,.lptr 2 0 0),(4,.lptr 3 0 0)],[(1,some ⟨49,2,[zZ f]⟩),(2,some ⟨49,2,[zZ (d.natAbs:Int)]⟩),(3,some ⟨51,4,[[i64 0,.emp,i64 0,.emp]]⟩)],4,57⟩) (fun f=>f.natAbs=n.natAbs∧Rat.divInt n d=mkRat f d.natAbs) ?_ ?_;refine r_z 3 ?_;refine aq rfl (fun h=>?_) (fun h=>?_)
 have j:d< 0:=by
  have h1:sgZ d< 0:=by simpa using h
  rcases du d with⟨a,b⟩|⟨a,b⟩|⟨a,b⟩<;> omega
 have e: -d=(d.natAbs:Int):=by omega
 have r:=zS d;rw[e] at r;refine r_d ba 6 ?_;refine c_s (zS n) ?_;refine c_s (r) ?_;refine a_2 ?_;refine au (n_k ?_);refine⟨-n,⟨by omega,qp n d j⟩,?_⟩;exact s_e []
 have o:0< d:=by
  have h1:¬sgZ d< 0:=by simpa using h
  rcases du d with⟨a,b⟩|⟨a,b⟩|⟨a,b⟩<;> omega
 have e:d=(d.natAbs:Int):=by omega
 refine an ⟨n,⟨rfl,qo n d o⟩,?_⟩;rw[←e];exact s_e [];rintro f ⟨x,hv⟩;have i:0< d.natAbs:=by omega
 obtain⟨D,v⟩:∃D,D=d.natAbs:=⟨_,rfl⟩;rw[hv];rw[←v] at hb i⊢;rw[←x] at hn;obtain⟨g,hg⟩:∃g,g=Nat.gcd f.natAbs D:=⟨_,rfl⟩;have q:0< g:=by rw[hg];exact Nat.gcd_pos_of_pos_right _ i
 have s:g≤D:=by rw[hg];exact Nat.gcd_le_right _ i
 have E:=dP s;have y:(mkRat f D).num.natAbs=f.natAbs/ g:=by rw[ki i,gD,hg]
 have m:(mkRat f D).den=D/ g:=by rw[(lR i).2,hg]
 have t:=FM (n:=f) i;have p:=fs_ZGcd f (D:Int) hn (by rw[Int.natAbs_natCast];exact hb);rw[Int.natAbs_natCast,←hg] at p
 have k:rC (rq (mkRat f D))=zZ (sgn (decide (f< 0)) (f.natAbs/ g))++zZ ((D/ g:Nat):Int):=by
  rw[rC_rq,m,ki i,←hg]
 rw[k];have A:bl (D/ g)≤bl D:=fG D g;have z:bl (f.natAbs/ g)≤bl f.natAbs:=fG f.natAbs g;refine r_c 5 (p) ?_;refine a_z ?_;refine bD (fun _:Unit=>ratS f D g) (fun _=>g≠1) ?_ ?_;by_cases h1:g=1;rw[zZ_one h1];refine s_r 11 ?_;refine a_5 ?_;refine y_g rfl rfl (.fieldAddr_l rfl TF.h (by decide)) ?_;refine y_g rfl rfl (.load_l1 rfl rfl rfl TG.h rfl) ?_;refine y_g rfl rfl (.index_a rfl rfl (by omega) rfl rfl te_47.h) ?_;refine y_g rfl rfl (.load_a1 rfl rfl TG.h rfl) ?_;refine y_g rfl rfl (.bin rfl rfl db) ?_;refine o_0 (.pickT rfl rfl rfl) ?_;refine au ?_;refine aq rfl (fun h=>?_) (fun h=>?_);refine r_z 4 ?_;refine ak ?_;rw[h1,Nat.div_one,Nat.div_one,show sgn (decide (f< 0)) f.natAbs=f by unfold sgn;by_cases h0:f< 0 <;> simp[h0]<;> omega];exact c_e (aB fun c hc=>(List.mem_append.1 hc).elim (gY _ c) (gY _ c));exact absurd h (by decide);by_cases hl:(zd g).length=1;have C:=FF hl;have l:zZ (g:Int)=[i64 (sgZ (g:Int)),.arr (iE [g])]:=by show [i64 (sgZ (g:Int)),AV.arr (iE (zd g))]=_;rw[C]
 rw[l];refine s_r 11 ?_;refine a_5 ?_;refine y_g rfl rfl (.fieldAddr_l rfl TF.h (by decide)) ?_;refine y_g rfl rfl (.load_l1 rfl rfl rfl TG.h rfl) ?_;refine y_g rfl rfl (.index_a rfl rfl (by omega) rfl rfl te_47.h) ?_;refine y_g rfl rfl (.load_a1 rfl rfl TG.h rfl) ?_;refine y_g rfl rfl (.bin rfl rfl db) ?_;refine o_0 (.pickT rfl rfl rfl) ?_;refine au ?_;refine aq rfl (fun h=>?_) (fun h=>?_);exact absurd h (by simp;omega);refine an ⟨(),h1,?_⟩;rw[←l];unfold ratS;exact s_e [(4,5)];refine s_r 11 ?_;refine a_5 ?_;refine n_g rfl (by simp;omega) ?_;refine n_g rfl (by simp;omega) ?_;refine n_g rfl (by simp;omega) ?_;refine n_g rfl (by simp;omega) ?_;refine n_g rfl (by simp;omega) ?_;refine o_0 (.pickF rfl (by simp;omega) rfl) ?_;refine au ?_;refine aq rfl (fun h=>?_) (fun h=>?_);exact absurd h (by simp);refine an ⟨(),h1,?_⟩;unfold ratS;exact s_e [(4,5)];rintro _ B;unfold ratS;have u:=lc (sgZ f) (zd (f.natAbs/ g)) (sgn (decide (f< 0)) (f.natAbs/ g)) (xy (by omega)) (ky _) (by rw[lW,gD]) (fun h=>by rw[←t,ki i,←hg]);have w:=lc 1 (zd (D/ g)) ((D/ g:Nat):Int) (xy (by omega)) (ky _) (by rw[lW,Int.natAbs_natCast]) (fun h=>by unfold sgZ;rw[if_neg h,if_neg (by omega)]);refine r_c 10 (wj f.natAbs g q hn (by omega)) ?_;refine a_z ?_;refine r_c 10 (wj D g q hb (by omega)) ?_;refine a_z ?_;refine r_c 8 (u) ?_;refine c_s (w) ?_;refine a_z ?_;exact ak (c_e (aB fun c hc=>(List.mem_append.1 hc).elim (gY _ c) (gY _ c)))
theorem pz{z:Int}{k:Nat}(h:bl z.natAbs≤k)(hk:k≤8796093022208):zl z:=Nat.le_trans h hk
theorem fs_rOf(n d:Int)(hd:d≠0)(h: -9223372036854775808≤n∧n≤9223372036854775807)(h2: -9223372036854775808≤d∧d≤9223372036854775807):FS 39 [i64 n,i64 d] (.agg (rC (rq (Rat.divInt n d)))):=by
 have hb:∀z:Int,-9223372036854775808≤z→z≤9223372036854775807→bl z.natAbs≤4398046511104:=fun z h1 h2=>Nat.le_trans (ez (k:=64) (by omega)) (by decide);refine f_c Tryz.func39 ?_;refine r_z 1 ?_;refine r_c 6 (rR n h) ?_;refine c_s (rR d h2) ?_;refine c_s (BI n d hd (hb n h.1 h.2) (hb d h2.1 h2.2)) ?_;refine a_z ?_;exact ak (c_e (mn _))
theorem BA(x:RQ):FS 164 [.agg (rC x)] (i64 (sgZ x.1.num)):=by
 refine f_c Tryz.func164 ?_;refine r_z 2 ?_;refine r_z 4 ?_;exact ak (t_e (ah _))
theorem fs_rMul(x y:RQ)(hx:rok x)(hy:rok y)(h:qs x.1+qs y.1≤1099511627776):FS 41 [.agg (rC x),.agg (rC y)] (.agg (rC (rq (x.1* y.1)))):=by
 obtain⟨a,j⟩:=x;obtain⟨b,d⟩:=y;simp only at h⊢;have hp:=td a b;have h1:=dZ a;have c:=ei a;have i:=dZ b;have k:=ei b;have l:=hp.1;have g:=hp.2;have f:(a.den:Int) * b.den≠0:=by have:=n7 a b;rw[←Int.natCast_mul];omega
 have e:a* b=Rat.divInt (a.num* b.num) (a.den* b.den):=by
  rw[oz,←Int.natCast_mul,←Rat.divInt_ofNat]
 rw[e];have m:bl ((a.den:Int) * b.den).natAbs≤qs a+qs b:=by rw[←Int.natCast_mul,Int.natAbs_natCast];exact g
 refine f_c Tryz.func41 ?_;refine r_z 3 ?_;refine ae (r_d ba 12 ?_);refine c_s (rQ a.num b.num (pz h1 (by omega)) (pz i (by omega))) ?_;refine c_s (uS (a,j) hx) ?_;refine c_s (uS (b,d) hy) ?_;refine c_s (rQ a.den b.den (pz (by simpa using c) (by omega)) (pz (by simpa using k) (by omega))) ?_;refine c_s (BI (a.num* b.num) (a.den* b.den) f (by omega) (by omega)) ?_;refine a_1 ?_;refine au (n_k ?_);exact ak (c_e (mn _))
theorem fs_rCmp(x y:RQ)(hx:rok x)(hy:rok y)(h:qs x.1+qs y.1≤1099511627776):FS 84 [.agg (rC x),.agg (rC y)] (i64 (dB x.1 y.1)):=by
 obtain⟨a,j⟩:=x;obtain⟨b,g⟩:=y;simp only at h⊢;have h1:=dZ a;have c:=ei a;have d:=dZ b;have f:=ei b;have e1:=dG (x:=a.num) (y:=b.den) h1 (by simpa using f);have e2:=dG (x:=b.num) (y:=a.den) d (by simpa using c)
 have e:dB a b=fm (a.num* b.den) (b.num* a.den):=by
  rw[Fy];unfold fm;obtain⟨u,i⟩:∃u,u=a.num* (b.den:Int):=⟨_,rfl⟩;obtain⟨v,hv⟩:∃v,v=b.num* (a.den:Int):=⟨_,rfl⟩;rw[←i,←hv];split;rfl;split <;> split <;> omega
 rw[e];refine f_c Tryz.func84 ?_;refine r_z 3 ?_;refine ae (r_d ba 12 ?_);refine c_s (uS (b,g) hy) ?_;refine c_s (rQ a.num b.den (pz h1 (by omega)) (pz (by simpa using f) (by omega))) ?_;refine c_s (uS (a,j) hx) ?_;refine c_s (rQ b.num a.den (pz d (by omega)) (pz (by simpa using c) (by omega))) ?_;refine c_s (fs_ZCmp (a.num* b.den) (b.num* a.den) (pz e1 (by omega)) (pz e2 (by omega))) ?_;refine a_1 ?_;refine au (n_k ?_);exact ak (t_e (ah _))
def qT(q:Rat):Nat→Rat
 |0=>q
 |k+1=>qT q k* q
theorem EP(q:Rat):∀k,qs (qT q k)≤(k+1) * qs q
 |0=>by simp[qT]
 |k+1=>by
  have h1:=dk (qT q k) q;have a:=EP q k;show qs (qT q k* q)≤_;rw[Nat.add_mul (k+1),Nat.one_mul];omega
def xq(D:Int):Int:=if D=0 then 1 else D
def kW(N D:Int)(p:Nat):Rat:=qT (Rat.divInt N (xq D)) (p % 4)
def nuC(N D:Int)(p:Nat):List AV:=[i64 N,i64 D,.v (.int .u8 p)]
def lV(n:Int):Prop:= -9223372036854775808≤n∧n≤9223372036854775807
theorem jw(N D:Int)(p:Nat):∀c∈nuC N D p,Closed c:=ac (ah _) (ac (ah _) (ac (ah _) ag))
theorem I4(n d:Int):(n:Rat) / (d:Rat)=Rat.divInt n d:=(Rat.divInt_eq_div n d).symm
def boT(N:Int)(D:Int)(p:Nat)(q:Rat):Nat→AState
 |k=>⟨[(1,.lptr 1 0 0),(2,.lptr 2 0 0),(3,.lptr 3 0 0),(4,.lptr 4 0 0),(6,.lptr 5 0 0),(7,.lptr 6 0 0),(8,.lptr 7 0 0),(9,.v (.int .u8 k))],
  [(1,some ⟨24,3,[nuC N D p]⟩),(2,some ⟨34,3,[zC]⟩),(3,some ⟨51,4,[[i64 0,.emp,i64 0,.emp]]⟩),(4,some ⟨34,3,[qC q]⟩),(5,some ⟨51,4,[rC (rq q)]⟩),(6,some ⟨34,3,[qC (qT q k)]⟩),(7,some ⟨51,4,[rC (rq (qT q k))]⟩)],8,44⟩
theorem jN(N D:Int)(p:Nat)(hN:lV N)(hD:lV D)(hp:p≤255):FS 8 [.agg (nuC N D p)] (.tup [.agg (qC (kW N D p)),.agg (rC (rq (kW N D p)))]):=by
 obtain⟨d,c⟩:∃d,d=xq D:=⟨_,rfl⟩;have b:d≠0:=by rw[c];unfold xq;split <;> omega
 have a:lV d:=by
  rw[c];unfold xq lV;unfold lV at hD;split <;> omega
 unfold lV at hN a;obtain⟨q,i⟩:∃q,q=Rat.divInt N d:=⟨_,rfl⟩;have f:=fs_Of N d hN a b;rw[I4,←i] at f;have g:=fs_rOf N d b hN a;rw[←i] at g;have o:kW N D p=qT q (p % 4):=by unfold kW;rw[←c,←i]
 rw[o];refine f_n Tryz.func8 ?_ ?_;exact ac (aB (jw N D p)) ag;refine r_z 3 ?_
 refine bD (fun _:Unit=>⟨[(1,.lptr 1 0 0),(2,.lptr 2 0 0),(3,.lptr 3 0 0)],
  [(1,some ⟨24,3,[nuC N d p]⟩),(2,some ⟨34,3,[zC]⟩),(3,some ⟨51,4,[[i64 0,.emp,i64 0,.emp]]⟩)],4,44⟩) (fun _=>True) ?_ ?_
 refine r_z 3 ?_;refine aq rfl (fun h1=>?_) (fun h1=>?_);have e:D=0:=by simpa using h1
 have l:d=1:=by rw[c];unfold xq;rw[if_pos e]
 refine r_m 2 ?_;refine a_z ?_;refine⟨(),trivial,?_⟩;rw[l];have:=jw N 1 p;exact s_f [];have e:¬D=0:=by simpa using h1
 have l:d=D:=by rw[c];unfold xq;rw[if_neg e]
 refine an ⟨(),trivial,?_⟩;rw[l];have:=jw N D p;exact s_f [];rintro _ _;refine r_c 11 (f) ?_;refine a_z ?_;refine r_c 7 (g) ?_;refine a_z ?_;refine ae (r_d ba 6 ?_);refine a_6 ?_;refine au (n_k ?_);refine ae (r_z 1 ?_)
 have j:qs q≤64:=by
  have hb:∀z:Int,-9223372036854775808≤z∧z≤9223372036854775808→bl z.natAbs≤64:=fun z h=>ez (k:=64) (by omega);rw[i];by_cases hn:d< 0;rw[qp N d hn];exact gF (by omega) (hb (-N) (by omega)) (hb d (by omega));rw[qo N d (by omega)];exact gF (by omega) (hb N (by omega)) (hb d (by omega))
 have t:(p:Int) % 4=((p % 4:Nat):Int):=by omega
 refine aH (fun _:Unit=>boT N d p q (p % 4)) (fun _=>True) ?_ ?_;refine am (aD (boT N d p q) (fun k=>p % 4- k) (fun k=>k≤p % 4) 0 (Nat.zero_le _) ?_ ?_);simp only[boT.eq_1,qT];exact s_f [(4,4),(5,6),(6,7),(7,8)];rintro k u;rw[boT.eq_1];refine ae (r_z 5 ?_);refine aq rfl (fun h=>?_) (fun h=>?_);refine an ?_
 have m:k< p % 4:=by
  have e:(k:Int)< (p:Int) % 4:=by simpa using h
  omega
 have s:=EP q k;have r:(k+1) * qs q≤4* 64:=Nat.mul_le_mul (by omega) j;refine ae (am (r_d ba 8 ?_));refine c_s (cN (qT q k) q (by omega)) ?_;refine c_s (fs_rMul (rq (qT q k)) (rq q) (vM _) (vM _) (by simp only[rq];omega)) ?_;refine a_2 ?_;refine au (n_k ?_);refine r_m 3 ?_;refine a_z ?_;refine⟨k+1,by omega,m,?_⟩;simp only[boT.eq_1];exact s_f []
 have n:k=p % 4:=by
  have e:¬(k:Int)< (p:Int) % 4:=by simpa using h
  omega
 subst n;refine aA ⟨(),trivial,?_⟩;exact s_f [];rintro _ _;rw[boT.eq_1];refine ae (r_d ba 4 ?_);refine a_4 ?_;refine au (n_k ?_);refine ak (Fin.many ⟨_,_,rfl,⟨_,_,_,_,_,rfl,rfl,rfl,.inl ⟨TG.h,_,TS.h,nle rfl,rfl⟩⟩,⟨_,_,rfl,⟨_,_,_,_,_,rfl,rfl,rfl,.inl ⟨TG.h,_,TS.h,nle rfl,rfl⟩⟩,rfl⟩⟩ (nle rfl) ?_);exact ai (ao ay (aP _)) (ai (ao ay (mn _)) aw)
def twP:List Rat:=aL [0,1] 2
def chP:Nat→List Rat×List Rat
 |0=>(b9 1,[0,1])
 |k+1=>((chP k).2,cn (aJ twP (chP k).2) (chP k).1)
def okCh(k:Nat):Prop:=fx twP (chP k).2∧smL (chP k).1∧(aJ twP (chP k).2).length≤274877906944∧(chP k).1.length≤274877906944
instance (k:Nat):Decidable (okCh k):=inferInstanceAs (Decidable (_∧_∧_∧_))
def chL2(n:Nat):List (List Rat):=(List.range n).map fun k=>(chP k).1
@[simp] theorem chL2_length (n:Nat):(chL2 n).length=n:=by simp[chL2]
def okL(n:Nat)(p last:List Rat):Prop:=fx (aL [0,1] ((2* (n:Int)+1:Int):Rat)) p∧smL last∧smL (aL last ((n:Int):Rat))∧smL (cn (aJ (aL [0,1] ((2* (n:Int)+1:Int):Rat)) p) (aL last ((n:Int):Rat)))∧(aJ (aL [0,1] ((2* (n:Int)+1:Int):Rat)) p).length≤1000∧last.length≤1000∧n≤1000
instance (n:Nat) (p last:List Rat):Decidable (okL n p last):=inferInstanceAs (Decidable (_∧_∧_∧_∧_∧_∧_))
def okH(n:Nat)(p last:List Rat):Prop:=fx twP p∧smL last∧smL (aL last ((2* (n:Int):Int):Rat))∧(aJ twP p).length≤1000∧last.length≤1000∧n≤1000
instance (n:Nat) (p last:List Rat):Decidable (okH n p last):=inferInstanceAs (Decidable (_∧_∧_∧_∧_∧_))

def okC(_:Nat)(p last:List Rat):Prop:=fx twP p∧smL last∧(aJ twP p).length≤1000∧last.length≤1000
instance (n:Nat) (p last:List Rat):Decidable (okC n p last):=inferInstanceAs (Decidable (_∧_∧_∧_))





end Go.Proofs.YtkhclghbcicapaaGreatDoor
namespace Go.Proofs.YtkhclghbcicapaaGreatDoor
open Go.Abs Go.RowKit
set_option maxRecDepth 20000
theorem CM:Tryz.prog.underlying 159=some (.pointer 162):=by kernel_rfl
theorem xD:Tryz.prog.underlying 239=some .unsafePointer:=by kernel_rfl
theorem Et:(Tryz.prog.info? 162).map (·.size)=some 2:=by kernel_rfl
set_option maxHeartbeats 1000000 in
theorem cs_used(b:Nat)(w:World)(h0:w.cell? ⟨b,0,none⟩=some (.pointer (some ⟨b,0,none⟩))):
    Calls Tryz.prog 145 #[.pointer (some ⟨b,0,none⟩)] w fun e w'=>e= .returned (.tuple #[])∧w'=w:=by
 obtain⟨j,a,_⟩:=Option.map_eq_some_iff.1 Et
 go_enter Tryz.func145,Tryz.ntmps145
 go_wp2
 rw[Lib.run_neq_ptr_same w _ CM a]
 go_wp2
 go_end0
 exact⟨rfl,rfl⟩
theorem zD{n:Nat}(hn:2≤n):liesAt Tryz.prog Tryz.prog.depth 162 (n/ Tryz.prog.cellsOf 162) 0 162 1=true:=by
 have hc:Tryz.prog.cellsOf 162=2:=by kernel_rfl
 rw[hc];have a:Tryz.prog.depth=(2* (Tryz.prog.types.size+Made.depth)+1)+1:=rfl;rw[a];simp only[liesAt,Bool.or_eq_true];left;rw[a];have:1≤n/ 2:=by omega
 simp[rowAt,sameLayout,this,hc]
set_option maxHeartbeats 1000000 in
theorem I8(b:Nat)(w:World)(cs:Array Value)(hh:w.heap[b]?=some (.cells cs 162 (0,0)))(hsz:2≤cs.size)(hc:cs[0]?=some (.pointer none)):
    Calls Tryz.prog 145 #[.pointer (some ⟨b,0,none⟩)] w fun e w'=>e= .returned (.tuple #[])∧w'=w.setCell ⟨b,0,none⟩ (.pointer (some ⟨b,0,none⟩)):=by
 obtain⟨j,d,c⟩:=Option.map_eq_some_iff.1 Et;have g:w.cell? ⟨b,0,none⟩=some (.pointer none):=by simp[World.cell?,hh,hc]
 have a:w.shape? b=some (162,cs.size):=by simp[World.shape?,hh]
 have f:w.frozen? ⟨b,0,none⟩=false:=by simp[World.frozen?,hh]
 go_enter Tryz.func145,Tryz.ntmps145
 go_wp2
 rw[Lib.run_to_unsafe w ⟨b,0,none⟩ CM xD d (by rw[c];decide) a (by show 0< cs.size;omega)];simp only[Result.andThen];rw[Oper.upon_value]
 go_wp2
 rw[run_callFunc_extern Tryz.func178 (by kernel_rfl) (by kernel_rfl) (by kernel_rfl) (e:=Extern.AbiNoEscape.same) (by kernel_rfl)];rw[Lib.run_noEscape];simp only[Result.andThen];rw[Oper.upon_value]
 go_wp2
 rw[Lib.run_from_unsafe w ⟨b,0,none⟩ xD CM d a (zD hsz)];simp only[Result.andThen];rw[Oper.upon_value]
 go_wp2
 go_end0
 exact⟨rfl,rfl⟩
theorem yv{P:Go.Program}{f:Nat}{fn:Func}{c:Code}(hf:P.funcs[f]?=some fn)(hb:fn.body=some c)(hname:(fn.name== "runtime.NumGoroutine")=false)(xs:Array Value)(w:World):(callFunc f xs).run P w= .ok (.enter f xs) w:=by
 have hname':¬fn.name= "runtime.NumGoroutine" :=by simpa using hname
 simp[callFunc,hf,hname',hb]
theorem se:CSpec Tryz.prog 145 162:=
 ⟨fun xs w=>yv Tryz.func145 rfl (by kernel_rfl) xs w,fun b w a=>cs_used b w a,fun b w cs d c a=>I8 b w cs d c a⟩
theorem Bd(a b:Value):Pure (.tup [.v a,.v b]):=by
 rintro M l β k w j y ⟨xs,rfl,g,i,e,h1,⟨f,d,e2,c,h⟩⟩;exact⟨xs,rfl,g,i,e,h1,f,d,e2,c,h⟩
theorem oi:Tryz.prog.underlying 9=some .string:=by kernel_rfl
theorem bE_len(q:List UInt8):tg (.arr (bE q))=some q.length:=by simp[tg,dK]
theorem uC(t:List UInt8):(⟨t.toArray⟩:ByteArray).size=t.length:=by simp[ByteArray.size]
theorem mq(t:List UInt8)(h0:t≠[])(hl:t.length≤1099511627776):BSpec Tryz.prog 96 162 5 none t [tx t] (.tup [i64 t.length,.v .nilIface]):=by
 refine BSpec.intro Tryz.func96 rfl (by kernel_rfl) (ac (ah _) ag) (Bd _ _) (nle rfl) ?_;show AWp _ _ _ _ ⟨[(0,.lptr 0 0 0),(1,tx t)],[(0,some ⟨162,2,[fh 0 1 none]⟩)],2,19⟩;refine r_z 2 ?_;refine s_r 2 ?_;refine a_1 ?_;refine o_1 (.callC rfl rfl rfl rfl rfl (by first|exact .inl rfl|exact .inr rfl) (se)) ?_;refine au ?_;refine s_r 10 ?_;refine a_6 ?_;refine o_1 (.appS_e rfl rfl rfl te_160.h oi rfl rfl h0 TZ.h rfl TB.h (by omega)) ?_;refine a_z ?_;refine s_r 4 ?_;refine o_0 (.move rfl) ?_;refine o_0 (.builtinV (vs:=[_]) rfl rfl (fun _ _ _=>rfl)) ?_;refine o_0 (.assign rfl) ?_;refine o_0 (.assign rfl) ?_;refine au ?_;refine ak ⟨.inr rfl,?_,12,by decide,rfl,rfl⟩;refine⟨[_,_],⟨_,_,rfl,rfl,⟨_,_,rfl,rfl,rfl⟩⟩,Cv.tup ?_⟩;refine ai (Cv.loE ay ?_ (ah _)) (ai (ao ay (ah _)) aw);rw[uC];rfl
theorem kx(q t:List UInt8)(hl:q.length+t.length≤1099511627776):BSpec Tryz.prog 96 162 5 (some q) (q++t) [tx t] (.tup [i64 t.length,.v .nilIface]):=by
 refine BSpec.intro Tryz.func96 rfl (by kernel_rfl) (ac (ah _) ag) (Bd _ _) (nle rfl) ?_;show AWp _ _ _ _ ⟨[(0,.lptr 0 0 0),(1,tx t)],[(0,some ⟨162,2,[fh 0 1 (some q)]⟩),(1,some ⟨5,1,bE q⟩)],2,19⟩;refine r_z 2 ?_;refine s_r 2 ?_;refine a_1 ?_;refine o_1 (.callC rfl rfl rfl rfl rfl (by first|exact .inl rfl|exact .inr rfl) (se)) ?_;refine au ?_;refine s_r 10 ?_;refine a_6 ?_;refine o_2 (.appS_l rfl rfl rfl te_160.h oi rfl rfl rfl rfl TZ.h rfl TB.h (by omega)) ?_;refine a_z ?_;refine s_r 4 ?_;refine o_0 (.move rfl) ?_;refine o_0 (.builtinV (vs:=[_]) rfl rfl (fun _ _ _=>rfl)) ?_;refine o_0 (.assign rfl) ?_;refine o_0 (.assign rfl) ?_;refine au ?_;refine ak ⟨.inr rfl,?_,12,by decide,rfl,rfl⟩;refine⟨[_,_],⟨_,_,rfl,rfl,⟨_,_,rfl,rfl,rfl⟩⟩,Cv.tup ?_⟩;refine ai (Cv.loE ay ?_ (ah _)) (ai (ao ay (ah _)) aw);rw[uC];rfl
theorem uW:FS 95 [.aptr [GJ none] 0 0] (i64 0):=by
 have hc:Closed (.aptr [GJ none] 0 0):=bC (ac (ah _) (ac dD ag));refine f_c Tryz.func95 ?_;refine r_z 1 ?_;refine r_z 6 ?_;exact ak (t_e (ah _))
theorem uV(q:List UInt8):FS 95 [.aptr [GJ (some q)] 0 0] (i64 q.length):=by
 have hc:Closed (.aptr [GJ (some q)] 0 0):=bC (ac (lo_any 0).closed (ac (aK (yD q)) ag));refine f_c Tryz.func95 ?_;refine r_z 1 ?_;refine s_r 6 ?_;refine a_4 ?_;refine o_0 (.len rfl rfl rfl rfl (bE_len q) te_160.h) ?_;refine a_z ?_;exact ak (t_e (ah _))
theorem ub_byte:Tryz.prog.underlying 207=some (.pointer 5):=by kernel_rfl
theorem G3:Tryz.prog.cellsOf 5=1:=by kernel_rfl
theorem Ec(w:World)(g n:Nat):But g w (w.drew.freeze ⟨g,0,none⟩ n):=by
 have b:∀x,x≠g→(w.drew.freeze ⟨g,0,none⟩ n).heap[x]?=w.heap[x]?:=by
  intro x a;unfold World.freeze;split;rfl;show(w.heap.modify g _)[x]?=_;rw[Array.getElem?_modify,if_neg (Ne.symm a)]
 have c:(w.drew.freeze ⟨g,0,none⟩ n).heap.size=w.heap.size:=by
  unfold World.freeze;split;rfl;show(w.heap.modify g _).size=_;simp
 refine⟨?_,?_,?_,by omega,fun x _ a=>b x a,fun x N a=>?_⟩;unfold World.freeze;split <;> rfl;unfold World.freeze;split <;> rfl;unfold World.freeze;split <;> rfl;by_cases hxg:x=g;subst hxg;unfold World.freeze;split;exact a;unfold aO at a⊢;show(match (w.heap.modify x _)[x]? with|some (.cells cs _ _)=>some cs.size|some (.map _ _)=>some 0|_=>none)=some N;rw[Array.getElem?_modify,if_pos rfl];cases ho:w.heap[x]? with
 |none=>rw[ho] at a;cases a
 |some o=>
  rw[ho] at a;cases o <;> simp_all
 unfold aO at a⊢;rw[b x hxg];exact a
set_option maxHeartbeats 2000000 in
theorem ds_run (b bj cap:Nat) (q:List UInt8) (w:World) (cs ck:Array Value) (h0:q≠[]) (hb:w.heap[b]?=some (.cells cs 162 (0,0))) (hc1:cs[1]?=some (.slice (some ⟨bj,0,none⟩) q.length cap)) (hl:q.length≤cap) (hm:cap≤maxLen) (hne:b≠bj) (hj:w.heap[bj]?=some (.cells ck 5 (0,0))) (hck:cap≤ck.size)
    (hq:∀(k:Nat) (x:UInt8),q[k]?=some x→ck[k]?=some (Value.int .u8 x.toNat)):Calls Tryz.prog 98 #[.pointer (some ⟨b,0,none⟩)] w fun e w'=>e= .returned (.string ⟨q.toArray⟩)∧But bj w w':=by
 have h:q.length≠0:=by simpa using h0
 have c1:w.drew.cell? ⟨b,1,none⟩=some (.slice (some ⟨bj,0,none⟩) q.length cap):=by
  have:w.drew.heap[b]?=some (.cells cs 162 (0,0)):=hb;simp[World.cell?,this,hc1]
 have g:(Builtin.unsafeSliceData_ #[160] 207 #[.slice (some ⟨bj,0,none⟩) q.length cap]).run Tryz.prog w.drew= .ok (.pointer (some ⟨bj,0,none⟩)) w.drew:=
  Lib.run_unsafeSliceData_row _ _ _ _ _ _ (by omega)
 have f:(Builtin.unsafeString_ #[207,3] 9 #[.pointer (some ⟨bj,0,none⟩),.int .i64 q.length]).run Tryz.prog w.drew= .ok (.string ⟨q.toArray⟩) (w.drew.freeze ⟨bj,0,none⟩ q.length):=by
  refine Lib.run_unsafeString_row w.drew 207 3 9 5 ub_byte G3 bj ck.size (by have a:w.drew.heap[bj]?=some (.cells ck 5 (0,0)):=hj;simp[World.shape?,a]) q h0 (by omega) (by unfold maxLen at hm;omega) ?_;intro j x d;have a:w.drew.heap[bj]?=some (.cells ck 5 (0,0)):=hj;rw[show(⟨bj,0,none⟩:Addr).add j=⟨bj,0+j,none⟩ from kT bj 0 j];simp[World.cell?,a,hq j x d]
 have c:=ba
 go_enter Tryz.func98,Tryz.ntmps98
 go_wp2
 go_region_o
 all_goals (go_wp2;go_ret;exact⟨rfl,Ec w bj q.length⟩)
theorem yx:DSpec Tryz.prog 98 162 5:=
 ⟨fun xs w=>yv Tryz.func98 rfl (by kernel_rfl) xs w,fun b h e q w cs f l hb a g i c j d k=>ds_run b h e q w cs f l hb a g i c j d k⟩
end Go.Proofs.YtkhclghbcicapaaGreatDoor
namespace Go.Proofs.YtkhclghbcicapaaGreatDoor
open Go.Abs
set_option maxRecDepth 20000
def ka(n:Nat):List UInt8:=if n< 10 then [48+n.toUInt8] else [48+(n/ 10).toUInt8,48+(n % 10).toUInt8]
theorem B6(s:ByteArray)(l h:Nat)(zl zh:Int)(el:zl=(l:Int))(eh:zh=(h:Int))(hlh:l≤h)(hh:h≤s.size):∀w,(Instr.sliceAt 9 (.string s) (some (.int .i64 zl)) (some (.int .i64 zh)) none).run Tryz.prog w= .ok (.string (s.extract l h)) w:=fun w=>by
 subst el eh;have b1:∀(i y:Nat) (c:BoundsCode),i≤y→(Instr.sliceBound (.int .i64 (i:Int)) y c).run Tryz.prog w= .ok i w:=fun i y c a=>ft a c w
 have b:(Instr.slice 9 (.string s) (some (.int .i64 (l:Int))) (some (.int .i64 (h:Int))) none).run Tryz.prog w= .ok (.string (s.extract l h)) w:=by
  simp[Instr.slice,run_underlying oi,Instr.sliceBounds,b1 h s.size _ hh,b1 l h _ hlh,Result.andThen]
 unfold Instr.sliceAt;rw[Sem.run_bind,run_underlying oi];exact b
def smallsB:ByteArray:=⟨((List.range 100).flatMap fun n=>[48+(n/ 10).toUInt8,48+(n % 10).toUInt8]).toArray⟩
theorem Gd(i:Nat)(h:i< 100):FS 211 [i64 i] (tx (ka i)):=by
 refine f_c Tryz.func211 ?_;refine r_z 1 ?_;refine ae (r_z 2 ?_);refine aq rfl (fun h1=>?_) (fun h1=>?_);have b:i< 10:=by simp at h1;omega
 refine s_r 5 ?_;refine a_3 ?_;refine o_0 (.slice_v rfl rfl rfl rfl (B6 _ i (i+1) _ _ rfl (by omega) (by omega) (by exact Nat.le_trans (m:=10) (by omega) (by decide)))) ?_;refine a_z ?_;refine ak (aY rfl ?_ ?_);have a:∀i,i< 10→(ByteArray.mk #[48,49,50,51,52,53,54,55,56,57,97,98,99,100,101,102,103,104,105,106,107,108,109,110,111,112,113,114,115,116,117,118,119,120,121,122]).extract i (i+1)=⟨(ka i).toArray⟩:=by decide
 exact congrArg (fun s=>AV.v (.string s)) (a i b);exact ah _;have b:10≤i:=by simp at h1;omega
 refine an (s_r 7 ?_);refine a_5 ?_;refine o_0 (.slice_v rfl rfl rfl rfl (B6 _ (i* 2) (i* 2+2) _ _ (by omega) (by omega) (by omega) (by exact Nat.le_trans (m:=200) (by omega) (by decide)))) ?_;refine a_z ?_;refine ak (aY rfl ?_ ?_);have a:∀i,i< 100→10≤i→smallsB.extract (i* 2) (i* 2+2)=⟨(ka i).toArray⟩:=by decide
 refine congrArg (fun s=>AV.v (.string s)) (Eq.trans (congrArg (fun s:ByteArray=>s.extract _ _) (?_:_=smallsB)) (a i h b))
 kernel_rfl
 exact ah _
theorem zW(i:Nat)(h:i< 100):FS 179 [i64 i,i64 10] (tx (ka i)):=by
 refine f_c Tryz.func179 ?_;refine r_z 1 ?_;refine ae (r_z 2 ?_);refine aq rfl (fun h1=>?_) (fun h1=>?_);refine ae (s_r 6 ?_);refine a_3 ?_;refine y_g rfl (by simp) (.move rfl) ?_;refine y_g rfl (by simp) (.bin rfl rfl fH) ?_;refine o_0 (.pickT rfl (by simp) rfl) ?_;refine au ?_;refine aq rfl (fun a=>?_) (fun a=>?_);refine r_c 3 (Gd i h) ?_;refine a_z ?_;exact ak (t_e (ah _));exact absurd a (by simp;omega);exact absurd h1 (by simp)
theorem ID(i:Nat)(h:i< 100):FS 146 [i64 i] (tx (ka i)):=by
 refine f_c Tryz.func146 ?_;refine r_z 1 ?_;refine r_c 3 (zW i h) ?_;refine a_z ?_;exact ak (t_e (ah _))
theorem Ff(i:Nat)(h:i< 100):FS 97 [i64 i] (tx (ka i)):=by
 refine f_c Tryz.func97 ?_;refine r_z 1 ?_;refine r_c 3 (ID i h) ?_;refine a_z ?_;exact ak (t_e (ah _))
def te0(m:Nat):Unit→AState
 |u=>⟨[(1,.lptr 1 0 0),(3,.lptr 2 0 0),(11,.clos 180 [] [.aptr [[.arr (dE [m])]] 0 0])],[(1,some ⟨30,1,[[.arr (dE [m])]]⟩),(2,some ⟨162,2,[fh 2 0 none]⟩)],4,31⟩
def te1(m:Nat):Unit→AState
 |u=>⟨[(1,.lptr 1 0 0),(3,.lptr 2 0 0),(11,.clos 180 [] [.aptr [[.arr (dE [m])]] 0 0])],[(1,some ⟨30,1,[[.arr (dE [m])]]⟩),(2,some ⟨162,2,[fh 2 3 (some (ka m))]⟩),(3,some ⟨5,1,bE (ka m)⟩)],4,31⟩
def teS(m:Nat):Nat→AState
 |0=>te0 m ()
 |_+1=>te1 m ()
theorem GC{m:Nat}(h0:m≠0)(h:m< 100):av MB m=[m]:=by
 have hb:MB=1000000000:=rfl;rw[fU (by decide) (by omega),Nat.mod_eq_of_lt (by omega),Nat.div_eq_of_lt (by omega),cP]
theorem Ao(m:Nat):ka m≠[]:=by unfold ka;split <;> simp
theorem me(m:Nat):(ka m).length≤2:=by unfold ka;split <;> simp
theorem BC(m:Nat)(h:m< 100):FS 99 [.agg [mag m]] (tx (ka m)):=by
 have q:=nX m;refine f_c Tryz.func99 ?_;refine r_z 2 ?_;refine ae (r_c 2 (q) ?_);refine au ?_;refine aq rfl (fun h1=>?_) (fun h1=>?_);have g:m=0:=by simpa using h1
 subst g;refine r_z 1 ?_;exact ak (t_e (ah _));have g:m≠0:=by simpa using h1
 have p:mag m= .arr (dE [m]):=by unfold mag;rw[GC g h]
 rw[p];refine an ?_;have r:([m]:List Nat).length=1:=rfl;have d:Closed (.aptr [[.arr (dE [m])]] 0 0):=lj (fun e o c hc=>by simp at o;subst o;simp at hc;subst hc;exact di _);have b:Closed (.clos 180 [] [.aptr [[.arr (dE [m])]] 0 0]):=aU ag (ac d ag);refine r_z 1 ?_;refine ae (r_c 3 (pL [m]) ?_);refine au ?_;refine aH (fun _:Unit=>te1 m ()) (fun _=>True) ?_ ?_;refine am (AWp.rangeFunc (α:=Nat) (γ:=Empty) 1 (teS m) (fun k=>k) (fun k=>k≤1) (fun e=>nomatch e) (fun _ e=>nomatch e) 0 rfl (pJ [m] (by simp)) rfl rfl ?_ (fun k=>by cases k <;> exact⟨rfl,rfl⟩) (fun e=>nomatch e) (Nat.zero_le _) rfl (fun _ h=>h) ?_ ?_ ?_ ?_ (fun _ e=>nomatch e));intro k xs a;unfold pP at a;split at a;cases a;rfl;cases a;show SEntT _ (te0 m ());rw[te0.eq_1];exact s_t [(1,1),(2,3)];exact ac d ag
 ·intro l k xs t a
  unfold pP at a;split at a;rotate_left;cases a;rename_i hlt;have i:k=0:=by simpa using hlt
  subst i;cases a;show AWp _ _ _ _ ⟨k6 (te0 m ()).fr _ _++gj (te0 m ()).fr,_,_,_⟩;show AWp _ _ _ _ ⟨[(13,u32 m),(12,i64 0),(1,.lptr 1 0 0),(3,.lptr 2 0 0),(11,.clos 180 [] [.aptr [[.arr (dE [m])]] 0 0]),(1001,.lptr 1 0 0),(1003,.lptr 2 0 0),(1011,.clos 180 [] [.aptr [[.arr (dE [m])]] 0 0])],[(1,some ⟨30,1,[[.arr (dE [m])]]⟩),(2,some ⟨162,2,[fh 2 0 none]⟩)],4,31⟩;refine r_z 1 ?_;refine r_m 1 ?_;refine a_z ?_;refine am (r_c 4 (Ff m h) ?_);refine a_z ?_;refine ae (r_z 6 ?_);refine aq rfl (fun n=>?_) (fun n=>?_);exact absurd n (by simp);refine an (r_m 2 ?_);refine a_1 ?_;refine o_2 (.callB (s:=none) (j:=0) rfl rfl rfl rfl rfl rfl (fun _ h=>by cases h) (mq (ka m) (Ao m) (by have:=me m;omega))) ?_;refine au ?_;refine⟨0+1,⟨by omega,rfl⟩,?_⟩;show SEntT _ ⟨[(1001,.lptr 1 0 0),(1003,.lptr 2 0 0),(1011,.clos 180 [] [.aptr [[.arr (dE [m])]] 0 0])],[(1,some ⟨30,1,[[.arr (dE [m])]]⟩),(2,some ⟨162,2,[fh 2 3 (some (ka m))]⟩),(3,some ⟨5,1,bE (ka m)⟩)],4,31⟩;refine SEntT.to2 [(3,100017)] rfl rfl rfl Ei (fun hs=>?_) (fun hs=>?_)
  ·repeat' (first|exact aS|refine az rfl ?_ ?_)
   all_goals (first|(exact ao hs b)|exact bm)
  ·repeat' (first|exact aI|refine sK rfl rfl rfl rfl ?_ ?_)
   all_goals (first|exact cu|(refine aG ?_;repeat' (first|exact aw|refine ai ?_ ?_)))
   all_goals (first|(exact ao hs b)|exact bm)
 ·intro k t a
  unfold pP at a;split at a;cases a
  have f:k=1:=by
   rename_i v;simp at v;omega
  subst f;exact⟨(),trivial,SEnt.refl _⟩
 rintro _ _;rw[te1.eq_1];have u:=Ao m;refine s_r 2 ?_;refine o_2 (.callD rfl rfl rfl rfl rfl rfl (by decide) (by first|assumption|simp) (yx)) ?_;refine a_z ?_;exact ak (t_e (ah _))
section
variable {P:Go.Program}{T:Nat}{x y:Operand}
theorem mu{l m:List UInt8}(h:l.length+m.length≤9223372036854775807):∀w,(do eqGuard .add T x y (.string ⟨l.toArray⟩) (.string ⟨m.toArray⟩);binOp .add T (.string ⟨l.toArray⟩) (.string ⟨m.toArray⟩):Sem Value).run P w= .ok (.string ⟨(l++m).toArray⟩) w:=fun w=>by
 have a:IntKind.i64.max=9223372036854775807:=by decide
 have e:(⟨l.toArray⟩:ByteArray)++⟨m.toArray⟩=⟨(l++m).toArray⟩:=by
  apply ByteArray.ext;simp
 have b:¬((((⟨l.toArray⟩:ByteArray).size+(⟨m.toArray⟩:ByteArray).size:Nat):Int)> IntKind.i64.max):=by
  rw[uC,uC,a];omega
 simp only[eqGuard,binOp,Op.stringOp,b,if_false,e,Sem.run_bind,Sem.run_pure,Result.andThen_ok];rfl
theorem ob{l m:List UInt8}:∀w,(do eqGuard .eql T x y (.string ⟨l.toArray⟩) (.string ⟨m.toArray⟩);binOp .eql T (.string ⟨l.toArray⟩) (.string ⟨m.toArray⟩):Sem Value).run P w= .ok (.bool (decide (l=m))) w:=fun w=>by
 rw[Cm];congr 2
 have e:∀l:List UInt8,(⟨l.toArray⟩:ByteArray).toList=l:=by
  intro l;have:=ByteArray.toList_eq (bs:=⟨l.toArray⟩);simpa using this
 rw[e,e];rw[Bool.eq_iff_iff];simp
end
def nh(q:Rat):List UInt8:=((if q.num< 0 then [45] else [])++ka q.num.natAbs)++(if q.den=1 then [] else 47::ka q.den)
def okT(q:Rat):Prop:=q.num.natAbs< 100∧q.den< 100
instance (q:Rat):Decidable (okT q):=inferInstanceAs (Decidable (_∧_))
theorem okT_qs{q:Rat}(h:okT q):qs q≤1099511627776:=by
 obtain⟨h1,a⟩:=h;have e1:=ez (n:=q.num.natAbs) (k:=7) (by omega);have e2:=ez (n:=q.den) (k:=7) (by omega);unfold qs;omega
theorem textQ_len{q:Rat}:(nh q).length≤6∧1≤(nh q).length:=by
 have h1:=me q.num.natAbs;have a:=me q.den;have b:=List.length_pos_iff.2 (Ao q.num.natAbs);unfold nh;split <;> split <;> simp <;> omega
def qtS(q:Rat):List UInt8→AState
 |l=>⟨[(1,.aptr [qC q] 0 0),(3,tx l)],[],2,24⟩
theorem ww(q:Rat)(h:okT q):FS 38 [.agg (qC q)] (tx (nh q)):=by
 have d:=me q.num.natAbs;have f:=me q.den;have c:1≤q.den:=q.den_pos;refine f_c Tryz.func38 ?_;refine r_z 2 ?_;refine AWp.ent (st':=⟨[(1,.aptr [qC q] 0 0)],[],2,24⟩) ?_ ?_;exact s_e [];refine r_c 5 (BC q.num.natAbs h.1) ?_;refine a_z ?_;refine bD (qtS q) (fun l=>l=(if q.num< 0 then [45] else [])++ka q.num.natAbs) ?_ ?_;refine r_z 3 ?_;refine aq rfl (fun h1=>?_) (fun h1=>?_);have a:q.num< 0:=by simpa using h1
 refine r_m 3 ?_;refine a_1 ?_;refine o_0 (.bin rfl rfl (mu (l:=[45]) (by simp;omega))) ?_;refine a_z ?_;refine⟨_,by rw[if_pos a],?_⟩;rw[qtS.eq_1];exact s_x [] (fun hs=>e_12) (fun hs=>e_13);have a:¬q.num< 0:=by simpa using h1
 refine an ⟨ka q.num.natAbs,by rw[if_neg a];rfl,?_⟩;rw[qtS.eq_1];exact s_x [] (fun hs=>e_12) (fun hs=>e_13);rintro l b;have g:l.length≤3:=by rw[b];split <;> simp <;> omega
 rw[qtS.eq_1];refine bD (qtS q) (fun l=>l=nh q) ?_ ?_;refine r_c 4 (nX (q.den- 1)) ?_;refine a_z ?_;refine aq rfl (fun h1=>?_) (fun h1=>?_)
 have a:¬q.den=1:=by
  intro e;rw[e] at h1;simp at h1
 refine r_m 7 ?_;refine c_s (fC q (okT_qs h)) ?_;refine c_s (BC q.den h.2) ?_;refine o_0 (.bin rfl rfl (mu (l:=[47]) (by simp;omega))) ?_;refine o_0 (.bin rfl rfl (mu (by simp;omega))) ?_;refine a_z ?_;refine⟨_,by unfold nh;rw[if_neg a,←b],?_⟩;rw[qtS.eq_1];exact s_x [] (fun hs=>e_12) (fun hs=>e_13)
 have a:q.den=1:=by
  have i:q.den- 1=0:=by simpa using h1
  omega
 refine an ⟨l,by unfold nh;rw[if_pos a,←b,List.append_nil],?_⟩;rw[qtS.eq_1];exact s_x [] (fun hs=>e_12) (fun hs=>e_13);rintro l rfl;rw[qtS.eq_1];refine r_z 2 ?_;exact ak (t_e (ah _))
end Go.Proofs.YtkhclghbcicapaaGreatDoor
