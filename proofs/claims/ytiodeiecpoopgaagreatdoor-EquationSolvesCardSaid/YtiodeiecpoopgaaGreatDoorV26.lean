/- Part V26. -/
import Derived.Test.YtiodeiecpoopgaaGreatDoorV25
import Derived.Lib.UnsafeStr
import Derived.Lib.Builder
import Derived.Shelf.RegionOpenPlain
import Derived.Lib.Strings
import Derived.Lib.Slices
import Derived.Lib.Walk
set_option linter.all false
namespace Go.Proofs.YtiodeiecpoopgaaGreatDoor
open Go.Abs
set_option maxRecDepth 20000
theorem fv(x:RQ)(hx:rok x):FS 96 [.agg (rC x)] (.agg (zZ (x.1.den:Int))):=by
 refine f_c Tryz.func96 ?_;refine r_z 2 ?_;refine ae (r_z 4 ?_);obtain⟨q,f⟩:=x;have hp:=q.den_pos;cases f with
 |true=>
  have c:q=0:=hx rfl;subst c;refine ap (t:=true) rfl (fun h=>?_) (fun h=>?_);refine r_c 2 (l9 1 (by decide)) ?_;refine a_z ?_;exact aj (c_e (cY _));cases h
 |false=>
  refine ap rfl (fun h=>?_) (fun h=>?_);exfalso;have d:sgZ (q.den:Int)=0:=by simpa using h
  rcases db (q.den:Int) with⟨a,b⟩|⟨a,b⟩|⟨a,b⟩<;> omega
  refine am (r_z 3 ?_);exact aj (c_e (cY _))
theorem zd_one:zd 1=[1]:=by
 unfold zd;rw[eB (by decide) (by decide),show 1/ UB=0 by decide,cg];rfl
theorem zZ_one{g:Nat}(h:g=1):zZ (g:Int)=[i64 1,.arr [[i64 1]]]:=by
 subst h;show [i64 (sgZ 1),AV.arr (iE (zd 1))]=_;rw[zd_one];rfl
theorem F9{g:Nat}(h:(zd g).length=1):zd g=[g]:=by
 obtain⟨a,ha⟩:=List.length_eq_one_iff.1 h;have b:=ky g;rw[ha,pD,u9] at b;simp at b;rw[ha,b]
theorem wB{n:Nat}(h:bl n<=4398046511104):(zd n).length<=281474976710656:=by
 rw[cy];have:=bC (b:=UB) (by decide) n;omega
def ratS(n':Int)(D g:Nat):AState:=⟨[(2,.lptr 1 0 0),(3,.lptr 2 0 0),(4,.lptr 3 0 0),(5,.lptr 4 0 0)],[(1,some ⟨53,2,[zZ n']⟩),(2,some ⟨53,2,[zZ (D:Int)]⟩),(3,some ⟨55,4,[[i64 0,.emp,i64 0,.emp]]⟩),(4,some ⟨53,2,[zZ (g:Int)]⟩)],5,57⟩
theorem pV(n d:Int)(hd:d≠0)(hn:bl n.natAbs<=4398046511104)(hb:bl d.natAbs<=4398046511104):FS 90 [.agg (zZ n),.agg (zZ d)] (.agg (rC (rq (Rat.divInt n d)))):=by
 refine f_c Tryz.func90 ?_;refine r_z 3 ?_;refine a6 (fun f:Int=>⟨[(2,.lptr 1 0 0),(3,.lptr 2 0 0),(4,.lptr 3 0 0)],[(1,some ⟨53,2,[zZ f]⟩),(2,some ⟨53,2,[zZ (d.natAbs:Int)]⟩),(3,some ⟨55,4,[[i64 0,.emp,i64 0,.emp]]⟩)],4,57⟩) (fun f=>f.natAbs=n.natAbs/\Rat.divInt n d=mkRat f d.natAbs) ?_ ?_;refine r_z 3 ?_;refine ap rfl (fun h=>?_) (fun h=>?_)
 have t:d< 0:=by
  have k:sgZ d< 0:=by simpa using h
  rcases db d with⟨a,b⟩|⟨a,b⟩|⟨a,b⟩<;> omega
 have e: -d=(d.natAbs:Int):=by omega
 have p:=tM d;rw[e] at p;refine r_d aT 6 ?_;refine c_s (tM n) ?_;refine c_s (p) ?_;refine a_2 ?_;refine ao (n_k ?_);refine⟨-n,⟨by omega,oK n d t⟩,?_⟩;exact s_e []
 have l:0< d:=by
  have k:¬sgZ d< 0:=by simpa using h
  rcases db d with⟨a,b⟩|⟨a,b⟩|⟨a,b⟩<;> omega
 have e:d=(d.natAbs:Int):=by omega
 refine am ⟨n,⟨rfl,oJ n d l⟩,?_⟩;rw[<-e];exact s_e [];rintro f ⟨u,hv⟩;have i:0< d.natAbs:=by omega
 obtain⟨D,x⟩:∃D,D=d.natAbs:=⟨_,rfl⟩;rw[hv];rw[<-x] at hb i⊢;rw[<-u] at hn;obtain⟨g,j⟩:∃g,g=Nat.gcd f.natAbs D:=⟨_,rfl⟩;have s:0< g:=by rw[j];exact Nat.gcd_pos_of_pos_right _ i
 have y:g<=D:=by rw[j];exact Nat.gcd_le_right _ i
 have G:=dG y;have C:(mkRat f D).num.natAbs=f.natAbs/ g:=by rw[jJ i,fE,j]
 have r:(mkRat f D).den=D/ g:=by rw[(lh i).2,j]
 have z:=Gh (n:=f) i;have q:=fs_ZGcd f (D:Int) hn (by rw[Int.natAbs_natCast];exact hb);rw[Int.natAbs_natCast,<-j] at q
 have o:rC (rq (mkRat f D))=zZ (sgn (decide (f< 0)) (f.natAbs/ g))++zZ ((D/ g:Nat):Int):=by
  rw[Iy,r,jJ i,<-j]
 rw[o];have H:bl (D/ g)<=bl D:=eX D g;have B:bl (f.natAbs/ g)<=bl f.natAbs:=eX f.natAbs g;refine r_c 5 (q) ?_;refine a_z ?_;refine a6 (fun _:Unit=>ratS f D g) (fun _=>g≠1) ?_ ?_;by_cases k:g=1;rw[zZ_one k];refine s_r 11 ?_;refine a_5 ?_;refine y_g rfl rfl (.fieldAddr_l rfl TF.h (by decide)) ?_;refine y_g rfl rfl (.load_l1 rfl rfl rfl TG.h rfl) ?_;refine y_g rfl rfl (.index_a rfl rfl (by omega) rfl rfl te_51.h) ?_;refine y_g rfl rfl (.load_a1 rfl rfl TG.h rfl) ?_;refine y_g rfl rfl (.bin rfl rfl bv) ?_;refine o_0 (.pickT rfl rfl rfl) ?_;refine ao ?_;refine ap rfl (fun h=>?_) (fun h=>?_);refine r_z 4 ?_;refine aj ?_;rw[k,Nat.div_one,Nat.div_one,show sgn (decide (f< 0)) f.natAbs=f by unfold sgn;by_cases h0:f< 0 <;> simp[h0]<;> omega];exact c_e (aD fun c A=>(List.mem_append.1 A).elim (dM _ c) (dM _ c));exact absurd h (by decide);by_cases hl:(zd g).length=1;have F:=F9 hl;have m:zZ (g:Int)=[i64 (sgZ (g:Int)),.arr (iE [g])]:=by show [i64 (sgZ (g:Int)),AV.arr (iE (zd g))]=_;rw[F]
 rw[m];refine s_r 11 ?_;refine a_5 ?_;refine y_g rfl rfl (.fieldAddr_l rfl TF.h (by decide)) ?_;refine y_g rfl rfl (.load_l1 rfl rfl rfl TG.h rfl) ?_;refine y_g rfl rfl (.index_a rfl rfl (by omega) rfl rfl te_51.h) ?_;refine y_g rfl rfl (.load_a1 rfl rfl TG.h rfl) ?_;refine y_g rfl rfl (.bin rfl rfl bv) ?_;refine o_0 (.pickT rfl rfl rfl) ?_;refine ao ?_;refine ap rfl (fun h=>?_) (fun h=>?_);exact absurd h (by simp;omega);refine am ⟨(),k,?_⟩;rw[<-m];unfold ratS;exact s_e [(4,5)];refine s_r 11 ?_;refine a_5 ?_;refine n_g rfl (by simp;omega) ?_;refine n_g rfl (by simp;omega) ?_;refine n_g rfl (by simp;omega) ?_;refine n_g rfl (by simp;omega) ?_;refine n_g rfl (by simp;omega) ?_;refine o_0 (.pickF rfl (by simp;omega) rfl) ?_;refine ao ?_;refine ap rfl (fun h=>?_) (fun h=>?_);exact absurd h (by simp);refine am ⟨(),k,?_⟩;unfold ratS;exact s_e [(4,5)];rintro _ E;unfold ratS;have w:=kz (sgZ f) (zd (f.natAbs/ g)) (sgn (decide (f< 0)) (f.natAbs/ g)) (wB (by omega)) (jw _) (by rw[ky,fE]) (fun h=>by rw[<-z,jJ i,<-j]);have v:=kz 1 (zd (D/ g)) ((D/ g:Nat):Int) (wB (by omega)) (jw _) (by rw[ky,Int.natAbs_natCast]) (fun h=>by unfold sgZ;rw[if_neg h,if_neg (by omega)]);refine r_c 10 (pK f.natAbs g s hn (by omega)) ?_;refine a_z ?_;refine r_c 10 (pK D g s hb (by omega)) ?_;refine a_z ?_;refine r_c 8 (w) ?_;refine c_s (v) ?_;refine a_z ?_;exact aj (c_e (aD fun c A=>(List.mem_append.1 A).elim (dM _ c) (dM _ c)))
theorem gj{z:Int}{k:Nat}(h:bl z.natAbs<=k)(hk:k<=8796093022208):zl z:=Nat.le_trans h hk
theorem iW(n:Int)(h: -9223372036854775808<=n/\n<=9223372036854775807):FS 54 [i64 n] (.agg (rC (rq (n:Rat)))):=by
 rw[Iy];refine f_c Tryz.func54 ?_;refine r_z 1 ?_;refine r_c 5 (l9 n h) ?_;refine c_s (l9 1 (by decide)) ?_;refine a_z ?_;exact aj (c_e (aD fun c a=>(List.mem_append.1 a).elim (dM _ c) (dM _ c)))
theorem fs_rOf(n d:Int)(hd:d≠0)(h: -9223372036854775808<=n/\n<=9223372036854775807)(h2: -9223372036854775808<=d/\d<=9223372036854775807):FS 33 [i64 n,i64 d] (.agg (rC (rq (Rat.divInt n d)))):=by
 have hb:∀z:Int,-9223372036854775808<=z->z<=9223372036854775807->bl z.natAbs<=4398046511104:=fun z a h2=>Nat.le_trans (iq (k:=64) (by omega)) (by decide);refine f_c Tryz.func33 ?_;refine r_z 1 ?_;refine r_c 6 (l9 n h) ?_;refine c_s (l9 d h2) ?_;refine c_s (pV n d hd (hb n h.1 h.2) (hb d h2.1 h2.2)) ?_;refine a_z ?_;exact aj (c_e (eU _))
theorem Fw(x:RQ)(hx:rok x):FS 58 [.agg (rC x)] (.agg (rC (rq (-x.1)))):=by
 rw[Iy,Rat.neg_num,Rat.neg_den];refine f_c Tryz.func58 ?_;refine r_z 2 ?_;refine ae (r_d aT 7 ?_);refine c_s (tM x.1.num) ?_;refine c_s (fv x hx) ?_;refine a_2 ?_;refine ao (n_k ?_);exact aj (c_e (aD fun c a=>(List.mem_append.1 a).elim (dM _ c) (dM _ c)))
theorem nm(x:RQ):FS 55 [.agg (rC x)] (i64 (sgZ x.1.num)):=by
 refine f_c Tryz.func55 ?_;refine r_z 2 ?_;refine r_z 4 ?_;exact aj (t_e (ag _))
theorem n3(x y:RQ)(hx:rok x)(hy:rok y)(h:qs x.1+qs y.1<=1099511627776):FS 116 [.agg (rC x),.agg (rC y)] (.agg (rC (rq (x.1+y.1)))):=by
 obtain⟨a,f⟩:=x;obtain⟨b,j⟩:=y;simp only at h⊢;have hp:=sE a b;have g:=di a;have c:=c7 a;have i:=di b;have d:=c7 b;have e1:=dz (x:=a.num) (y:=b.den) g (by simpa using d);have e2:=dz (x:=b.num) (y:=a.den) i (by simpa using c);have n:=hp.1;have l:=hp.2;have k:(a.den:Int) * b.den≠0:=by have:=lD a b;rw[<-Int.natCast_mul];omega
 have e:a+b=Rat.divInt (a.num* b.den+b.num* a.den) (a.den* b.den):=by
  rw[sG,<-Int.natCast_mul,<-Rat.divInt_ofNat]
 rw[e];have m:bl ((a.den:Int) * b.den).natAbs<=qs a+qs b:=by rw[<-Int.natCast_mul,Int.natAbs_natCast];exact l
 refine f_c Tryz.func116 ?_;refine r_z 3 ?_;refine ae (r_d aT 18 ?_);refine c_s (fv (b,j) hy) ?_;refine c_s (iX a.num b.den (gj g (by omega)) (gj (by simpa using d) (by omega))) ?_;refine c_s (fv (a,f) hx) ?_;refine c_s (iX b.num a.den (gj i (by omega)) (gj (by simpa using c) (by omega))) ?_;refine c_s (FA (a.num* b.den) (b.num* a.den) (gj e1 (by omega)) (gj e2 (by omega))) ?_;refine c_s (fv (a,f) hx) ?_;refine c_s (fv (b,j) hy) ?_;refine c_s (iX a.den b.den (gj (by simpa using c) (by omega)) (gj (by simpa using d) (by omega))) ?_;refine c_s (pV (a.num* b.den+b.num* a.den) (a.den* b.den) k (by omega) (by omega)) ?_;refine a_1 ?_;refine ao (n_k ?_);exact aj (c_e (eU _))
theorem Fv(x y:RQ)(hx:rok x)(hy:rok y)(h:qs x.1+qs y.1<=1099511627776):FS 57 [.agg (rC x),.agg (rC y)] (.agg (rC (rq (x.1- y.1)))):=by
 rw[Rat.sub_eq_add_neg];refine f_c Tryz.func57 ?_;refine r_z 3 ?_;refine ae (r_d aT 5 ?_);refine c_s (Fw y hy) ?_;refine c_s (n3 x (rq (-y.1)) hx (cK _) (by simp only[rq,iB];exact h)) ?_;refine a_1 ?_;refine ao (n_k ?_);exact aj (c_e (eU _))
theorem n0(x y:RQ)(hx:rok x)(hy:rok y)(h:qs x.1+qs y.1<=1099511627776):FS 35 [.agg (rC x),.agg (rC y)] (.agg (rC (rq (x.1* y.1)))):=by
 obtain⟨a,d⟩:=x;obtain⟨b,l⟩:=y;simp only at h⊢;have hp:=rH a b;have j:=di a;have f:=c7 a;have k:=di b;have g:=c7 b;have n:=hp.1;have i:=hp.2;have c:(a.den:Int) * b.den≠0:=by have:=lD a b;rw[<-Int.natCast_mul];omega
 have e:a* b=Rat.divInt (a.num* b.num) (a.den* b.den):=by
  rw[nS,<-Int.natCast_mul,<-Rat.divInt_ofNat]
 rw[e];have m:bl ((a.den:Int) * b.den).natAbs<=qs a+qs b:=by rw[<-Int.natCast_mul,Int.natAbs_natCast];exact i
 refine f_c Tryz.func35 ?_;refine r_z 3 ?_;refine ae (r_d aT 12 ?_);refine c_s (iX a.num b.num (gj j (by omega)) (gj k (by omega))) ?_;refine c_s (fv (a,d) hx) ?_;refine c_s (fv (b,l) hy) ?_;refine c_s (iX a.den b.den (gj (by simpa using f) (by omega)) (gj (by simpa using g) (by omega))) ?_;refine c_s (pV (a.num* b.num) (a.den* b.den) c (by omega) (by omega)) ?_;refine a_1 ?_;refine ao (n_k ?_);exact aj (c_e (eU _))
theorem Fx(x y:RQ)(hx:rok x)(hy:rok y)(hy0:y.1≠0)(h:qs x.1+qs y.1<=1099511627776):FS 56 [.agg (rC x),.agg (rC y)] (.agg (rC (rq (x.1/ y.1)))):=by
 obtain⟨a,k⟩:=x;obtain⟨b,l⟩:=y;simp only at h hy0⊢;have g:=di a;have d:=c7 a;have i:=di b;have f:=c7 b;have e1:=dz (x:=a.num) (y:=b.den) g (by simpa using f);have e2:=dz (x:=a.den) (y:=b.num) (by simpa using d) i;have c:b.num≠0:=fun e=>hy0 (Rat.num_eq_zero.1 e);have j:(a.den:Int) * b.num≠0:=Int.mul_ne_zero (by have:=a.den_pos;omega) c;rw[mf];refine f_c Tryz.func56 ?_;refine r_z 3 ?_;refine ae (r_d aT 12 ?_);refine c_s (fv (b,l) hy) ?_;refine c_s (iX a.num b.den (gj g (by omega)) (gj (by simpa using f) (by omega))) ?_;refine c_s (fv (a,k) hx) ?_;refine c_s (iX a.den b.num (gj (by simpa using d) (by omega)) (gj i (by omega))) ?_;refine c_s (pV (a.num* b.den) (a.den* b.num) j (by omega) (by omega)) ?_;refine a_1 ?_;refine ao (n_k ?_);exact aj (c_e (eU _))
theorem Fy(x y:RQ)(hx:rok x)(hy:rok y)(h:qs x.1+qs y.1<=1099511627776):FS 51 [.agg (rC x),.agg (rC y)] (i64 (fl x.1 y.1)):=by
 obtain⟨a,i⟩:=x;obtain⟨b,k⟩:=y;simp only at h⊢;have f:=di a;have c:=c7 a;have g:=di b;have d:=c7 b;have e1:=dz (x:=a.num) (y:=b.den) f (by simpa using d);have e2:=dz (x:=b.num) (y:=a.den) g (by simpa using c)
 have e:fl a b=eH (a.num* b.den) (b.num* a.den):=by
  rw[cmpQ_eq];unfold eH;obtain⟨u,j⟩:∃u,u=a.num* (b.den:Int):=⟨_,rfl⟩;obtain⟨v,hv⟩:∃v,v=b.num* (a.den:Int):=⟨_,rfl⟩;rw[<-j,<-hv];split;rfl;split <;> split <;> omega
 rw[e];refine f_c Tryz.func51 ?_;refine r_z 3 ?_;refine ae (r_d aT 12 ?_);refine c_s (fv (b,k) hy) ?_;refine c_s (iX a.num b.den (gj f (by omega)) (gj (by simpa using d) (by omega))) ?_;refine c_s (fv (a,i) hx) ?_;refine c_s (iX b.num a.den (gj g (by omega)) (gj (by simpa using c) (by omega))) ?_;refine c_s (fs_ZCmp (a.num* b.den) (b.num* a.den) (gj e1 (by omega)) (gj e2 (by omega))) ?_;refine a_1 ?_;refine ao (n_k ?_);exact aj (t_e (ag _))
def pi(q:Rat):Nat->Rat
 |0=>q
 |k+1=>pi q k* q
theorem E0(q:Rat):∀k,qs (pi q k)<=(k+1) * qs q
 |0=>by simp[pi]
 |k+1=>by
  have a:=dS (pi q k) q;have b:=E0 q k;show qs (pi q k* q)<=_;rw[Nat.add_mul (k+1),Nat.one_mul];omega
def ww(D:Int):Int:=if D=0 then 1 else D
def pr(N D:Int)(p:Nat):Rat:=pi (Rat.divInt N (ww D)) (p % 4)
def nuC(N D:Int)(p:Nat):La:=[i64 N,i64 D,.v (.int .u8 p)]
def ls(n:Int):Prop:= -9223372036854775808<=n/\n<=9223372036854775807
theorem iQ(N D:Int)(p:Nat):∀c∈nuC N D p,Closed c:=ac (ag _) (ac (ag _) (ac (ag _) af))
theorem Kg(n d:Int):(n:Rat) / (d:Rat)=Rat.divInt n d:=(Rat.divInt_eq_div n d).symm
def boT(N:Int)(D:Int)(p:Nat)(q:Rat):Nat->AState
 |k=>⟨[(1,.lptr 1 0 0),(2,.lptr 2 0 0),(3,.lptr 3 0 0),(4,.lptr 4 0 0),(6,.lptr 5 0 0),(7,.lptr 6 0 0),(8,.lptr 7 0 0),(9,.v (.int .u8 k))],
  [(1,some ⟨24,3,[nuC N D p]⟩),(2,some ⟨48,3,[zC]⟩),(3,some ⟨55,4,[[i64 0,.emp,i64 0,.emp]]⟩),(4,some ⟨48,3,[qC q]⟩),(5,some ⟨55,4,[rC (rq q)]⟩),(6,some ⟨48,3,[qC (pi q k)]⟩),(7,some ⟨55,4,[rC (rq (pi q k))]⟩)],8,44⟩
theorem qf(N D:Int)(p:Nat)(hN:ls N)(hD:ls D)(hp:p<=255):FS 9 [.agg (nuC N D p)] (.tup [.agg (qC (pr N D p)),.agg (rC (rq (pr N D p)))]):=by
 obtain⟨d,b⟩:∃d,d=ww D:=⟨_,rfl⟩;have g:d≠0:=by rw[b];unfold ww;split <;> omega
 have a:ls d:=by
  rw[b];unfold ww ls;unfold ls at hD;split <;> omega
 unfold ls at hN a;obtain⟨q,i⟩:∃q,q=Rat.divInt N d:=⟨_,rfl⟩;have f:=fs_Of N d hN a g;rw[Kg,<-i] at f;have e:=fs_rOf N d g hN a;rw[<-i] at e;have m:pr N D p=pi q (p % 4):=by unfold pr;rw[<-b,<-i]
 rw[m];refine f_n Tryz.func9 ?_ ?_;exact ac (aD (iQ N D p)) af;refine r_z 3 ?_
 refine a6 (fun _:Unit=>⟨[(1,.lptr 1 0 0),(2,.lptr 2 0 0),(3,.lptr 3 0 0)],
  [(1,some ⟨24,3,[nuC N d p]⟩),(2,some ⟨48,3,[zC]⟩),(3,some ⟨55,4,[[i64 0,.emp,i64 0,.emp]]⟩)],4,44⟩) (fun _=>True) ?_ ?_
 refine r_z 3 ?_;refine ap rfl (fun n=>?_) (fun n=>?_);have c:D=0:=by simpa using n
 have o:d=1:=by rw[b];unfold ww;rw[if_pos c]
 refine r_m 2 ?_;refine a_z ?_;refine⟨(),trivial,?_⟩;rw[o];have:=iQ N 1 p;exact s_f [];have c:¬D=0:=by simpa using n
 have o:d=D:=by rw[b];unfold ww;rw[if_neg c]
 refine am ⟨(),trivial,?_⟩;rw[o];have:=iQ N D p;exact s_f [];rintro _ _;refine r_c 11 (f) ?_;refine a_z ?_;refine r_c 7 (e) ?_;refine a_z ?_;refine ae (r_d aT 6 ?_);refine a_6 ?_;refine ao (n_k ?_);refine ae (r_z 1 ?_)
 have r:qs q<=64:=by
  have hb:∀z:Int,-9223372036854775808<=z/\z<=9223372036854775808->bl z.natAbs<=64:=fun z h=>iq (k:=64) (by omega);rw[i];by_cases hn:d< 0;rw[oK N d hn];exact fF (by omega) (hb (-N) (by omega)) (hb d (by omega));rw[oJ N d (by omega)];exact fF (by omega) (hb N (by omega)) (hb d (by omega))
 have t:(p:Int) % 4=((p % 4:Nat):Int):=by omega
 refine aC (fun _:Unit=>boT N d p q (p % 4)) (fun _=>True) ?_ ?_;refine ah (ax (boT N d p q) (fun k=>p % 4- k) (fun k=>k<=p % 4) 0 (Nat.zero_le _) ?_ ?_);simp only[boT.eq_1,pi];exact s_f [(4,4),(5,6),(6,7),(7,8)];rintro k v;rw[boT.eq_1];refine ae (r_z 5 ?_);refine ap rfl (fun h=>?_) (fun h=>?_);refine am ?_
 have l:k< p % 4:=by
  have c:(k:Int)< (p:Int) % 4:=by simpa using h
  omega
 have u:=E0 q k;have s:(k+1) * qs q<=4* 64:=Nat.mul_le_mul (by omega) r;refine ae (ah (r_d aT 8 ?_));refine c_s (da (pi q k) q (by omega)) ?_;refine c_s (n0 (rq (pi q k)) (rq q) (cK _) (cK _) (by simp only[rq];omega)) ?_;refine a_2 ?_;refine ao (n_k ?_);refine r_m 3 ?_;refine a_z ?_;refine⟨k+1,by omega,l,?_⟩;simp only[boT.eq_1];exact s_f []
 have j:k=p % 4:=by
  have c:¬(k:Int)< (p:Int) % 4:=by simpa using h
  omega
 subst j;refine aw ⟨(),trivial,?_⟩;exact s_f [];rintro _ _;rw[boT.eq_1];refine ae (r_d aT 4 ?_);refine a_4 ?_;refine ao (n_k ?_);refine aj (Fin.many ⟨_,_,rfl,⟨_,_,_,_,_,rfl,rfl,rfl,.inl ⟨TG.h,_,TS.h,nle rfl,rfl⟩⟩,⟨_,_,rfl,⟨_,_,_,_,_,rfl,rfl,rfl,.inl ⟨TG.h,_,TS.h,nle rfl,rfl⟩⟩,rfl⟩⟩ (nle rfl) ?_);exact ak (ai aB (aO _)) (ak (ai aB (eU _)) aq)










end Go.Proofs.YtiodeiecpoopgaaGreatDoor
namespace Go.Proofs.YtiodeiecpoopgaaGreatDoor
open Go.Abs Go.RowKit
set_option maxRecDepth 20000
theorem Ci:Tryz.prog.underlying 155=some (.pointer 158):=by kernel_rfl
theorem wD:Tryz.prog.underlying 237=some .unsafePointer:=by kernel_rfl
theorem Et:(Tryz.prog.info? 158).map (·.size)=some 2:=by kernel_rfl
set_option maxHeartbeats 1000000 in
theorem cs_used(b:Nat)(w:World)(h0:w.cell? ⟨b,0,none⟩=some (.pointer (some ⟨b,0,none⟩))):
    Calls Tryz.prog 140 #[.pointer (some ⟨b,0,none⟩)] w fun e w'=>e= .returned (.tuple #[])/\w'=w:=by
 obtain⟨j,a,_⟩:=Option.map_eq_some_iff.1 Et
 go_enter Tryz.func140,Tryz.ntmps140
 go_wp2
 rw[Lib.run_neq_ptr_same w _ Ci a]
 go_wp2
 go_end0
 exact⟨rfl,rfl⟩
theorem yR{n:Nat}(hn:2<=n):liesAt Tryz.prog Tryz.prog.depth 158 (n/ Tryz.prog.cellsOf 158) 0 158 1=true:=by
 have b:Tryz.prog.cellsOf 158=2:=by kernel_rfl
 rw[b];have a:Tryz.prog.depth=(2* (Tryz.prog.types.size+Made.depth)+1)+1:=rfl;rw[a];simp only[liesAt,Bool.or_eq_true];left;rw[a];have:1<=n/ 2:=by omega
 simp[rowAt,sameLayout,this,b]
set_option maxHeartbeats 1000000 in
theorem Kk(b:Nat)(w:World)(cs:Array Value)(hh:w.heap[b]?=some (.cells cs 158 (0,0)))(hsz:2<=cs.size)(hc:cs[0]?=some (.pointer none)):
    Calls Tryz.prog 140 #[.pointer (some ⟨b,0,none⟩)] w fun e w'=>e= .returned (.tuple #[])/\w'=w.setCell ⟨b,0,none⟩ (.pointer (some ⟨b,0,none⟩)):=by
 obtain⟨j,d,c⟩:=Option.map_eq_some_iff.1 Et;have g:w.cell? ⟨b,0,none⟩=some (.pointer none):=by simp[World.cell?,hh,hc]
 have a:w.shape? b=some (158,cs.size):=by simp[World.shape?,hh]
 have f:w.frozen? ⟨b,0,none⟩=false:=by simp[World.frozen?,hh]
 go_enter Tryz.func140,Tryz.ntmps140
 go_wp2
 rw[Lib.run_to_unsafe w ⟨b,0,none⟩ Ci wD d (by rw[c];decide) a (by show 0< cs.size;omega)];simp only[Result.andThen];rw[Oper.upon_value]
 go_wp2
 rw[run_callFunc_extern Tryz.func181 (by kernel_rfl) (by kernel_rfl) (by kernel_rfl) (e:=Extern.AbiNoEscape.same) (by kernel_rfl)];rw[Lib.run_noEscape];simp only[Result.andThen];rw[Oper.upon_value]
 go_wp2
 rw[Lib.run_from_unsafe w ⟨b,0,none⟩ wD Ci d a (yR hsz)];simp only[Result.andThen];rw[Oper.upon_value]
 go_wp2
 go_end0
 exact⟨rfl,rfl⟩
theorem r9{P:Go.Program}{f:Nat}{fn:Func}{c:Code}(hf:P.funcs[f]?=some fn)(hb:fn.body=some c)(hname:(fn.name== "runtime.NumGoroutine")=false)(xs:Array Value)(w:World):(callFunc f xs).run P w= .ok (.enter f xs) w:=by
 have hname':¬fn.name= "runtime.NumGoroutine" :=by simpa using hname
 simp[callFunc,hf,hname',hb]
theorem qP:CSpec Tryz.prog 140 158:=
 ⟨fun xs w=>r9 Tryz.func140 rfl (by kernel_rfl) xs w,fun b w a=>cs_used b w a,fun b w cs d c a=>Kk b w cs d c a⟩
theorem AA(a b:Value):Pure (.tup [.v a,.v b]):=by
 rintro M l β m w k y ⟨xs,rfl,h,c,e,g,⟨i,f,e2,d,j⟩⟩;exact⟨xs,rfl,h,c,e,g,i,f,e2,d,j⟩
theorem iy:Tryz.prog.underlying 9=some .string:=by kernel_rfl
theorem bE_len(q:List UInt8):pv (.arr (bE q))=some q.length:=by simp[pv,bE_length]
theorem nI(t:List UInt8):(⟨t.toArray⟩:ByteArray).size=t.length:=by simp[ByteArray.size]
theorem jP(t:List UInt8)(h0:t≠[])(hl:t.length<=1099511627776):BSpec Tryz.prog 84 158 5 none t [tx t] (.tup [i64 t.length,.v .nilIface]):=by
 refine BSpec.intro Tryz.func84 rfl (by kernel_rfl) (ac (ag _) af) (AA _ _) (nle rfl) ?_;show AWp _ _ _ _ ⟨[(0,.lptr 0 0 0),(1,tx t)],[(0,some ⟨158,2,[dO 0 1 none]⟩)],2,19⟩;refine r_z 2 ?_;refine s_r 2 ?_;refine a_1 ?_;refine o_1 (.callC rfl rfl rfl rfl rfl (by first|exact .inl rfl|exact .inr rfl) (qP)) ?_;refine ao ?_;refine s_r 10 ?_;refine a_6 ?_;refine o_1 (.appS_e rfl rfl rfl te_156.h iy rfl rfl h0 TZ.h rfl TB.h (by omega)) ?_;refine a_z ?_;refine s_r 4 ?_;refine o_0 (.move rfl) ?_;refine o_0 (.builtinV (vs:=[_]) rfl rfl (fun _ _ _=>rfl)) ?_;refine o_0 (.assign rfl) ?_;refine o_0 (.assign rfl) ?_;refine ao ?_;refine aj ⟨.inr rfl,?_,12,by decide,rfl,rfl⟩;refine⟨[_,_],⟨_,_,rfl,rfl,⟨_,_,rfl,rfl,rfl⟩⟩,Cv.tup ?_⟩;refine ak (Cv.loE aB ?_ (ag _)) (ak (ai aB (ag _)) aq);rw[nI];rfl
theorem gP(q t:List UInt8)(hl:q.length+t.length<=1099511627776):BSpec Tryz.prog 84 158 5 (some q) (q++t) [tx t] (.tup [i64 t.length,.v .nilIface]):=by
 refine BSpec.intro Tryz.func84 rfl (by kernel_rfl) (ac (ag _) af) (AA _ _) (nle rfl) ?_;show AWp _ _ _ _ ⟨[(0,.lptr 0 0 0),(1,tx t)],[(0,some ⟨158,2,[dO 0 1 (some q)]⟩),(1,some ⟨5,1,bE q⟩)],2,19⟩;refine r_z 2 ?_;refine s_r 2 ?_;refine a_1 ?_;refine o_1 (.callC rfl rfl rfl rfl rfl (by first|exact .inl rfl|exact .inr rfl) (qP)) ?_;refine ao ?_;refine s_r 10 ?_;refine a_6 ?_;refine o_2 (.appS_l rfl rfl rfl te_156.h iy rfl rfl rfl rfl TZ.h rfl TB.h (by omega)) ?_;refine a_z ?_;refine s_r 4 ?_;refine o_0 (.move rfl) ?_;refine o_0 (.builtinV (vs:=[_]) rfl rfl (fun _ _ _=>rfl)) ?_;refine o_0 (.assign rfl) ?_;refine o_0 (.assign rfl) ?_;refine ao ?_;refine aj ⟨.inr rfl,?_,12,by decide,rfl,rfl⟩;refine⟨[_,_],⟨_,_,rfl,rfl,⟨_,_,rfl,rfl,rfl⟩⟩,Cv.tup ?_⟩;refine ak (Cv.loE aB ?_ (ag _)) (ak (ai aB (ag _)) aq);rw[nI];rfl
theorem tO:FS 83 [.aptr [Hj none] 0 0] (i64 0):=by
 have a:Closed (.aptr [Hj none] 0 0):=aU (ac (ag _) (ac b9 af));refine f_c Tryz.func83 ?_;refine r_z 1 ?_;refine r_z 6 ?_;exact aj (t_e (ag _))
theorem tN(q:List UInt8):FS 83 [.aptr [Hj (some q)] 0 0] (i64 q.length):=by
 have a:Closed (.aptr [Hj (some q)] 0 0):=aU (ac (lo_any 0).closed (ac (aG (closed_bE q)) af));refine f_c Tryz.func83 ?_;refine r_z 1 ?_;refine s_r 6 ?_;refine a_4 ?_;refine o_0 (.len rfl rfl rfl rfl (bE_len q) te_156.h) ?_;refine a_z ?_;exact aj (t_e (ag _))
theorem ub_byte:Tryz.prog.underlying 205=some (.pointer 5):=by kernel_rfl
theorem HJ:Tryz.prog.cellsOf 5=1:=by kernel_rfl
theorem D2(w:World)(g n:Nat):But g w (w.drew.freeze ⟨g,0,none⟩ n):=by
 have b:∀x,x≠g->(w.drew.freeze ⟨g,0,none⟩ n).heap[x]?=w.heap[x]?:=by
  intro x a;unfold World.freeze;split;rfl;show(w.heap.modify g _)[x]?=_;rw[Array.getElem?_modify,if_neg (Ne.symm a)]
 have c:(w.drew.freeze ⟨g,0,none⟩ n).heap.size=w.heap.size:=by
  unfold World.freeze;split;rfl;show(w.heap.modify g _).size=_;simp
 refine⟨?_,?_,?_,by omega,fun x _ a=>b x a,fun x N a=>?_⟩;unfold World.freeze;split <;> rfl;unfold World.freeze;split <;> rfl;unfold World.freeze;split <;> rfl;by_cases hxg:x=g;subst hxg;unfold World.freeze;split;exact a;unfold aR at a⊢;show(match (w.heap.modify x _)[x]? with|some (.cells cs _ _)=>some cs.size|some (.map _ _)=>some 0|_=>none)=some N;rw[Array.getElem?_modify,if_pos rfl];cases ho:w.heap[x]? with
 |none=>rw[ho] at a;cases a
 |some o=>
  rw[ho] at a;cases o <;> simp_all
 unfold aR at a⊢;rw[b x hxg];exact a
set_option maxHeartbeats 2000000 in
theorem ds_run (b bj cap:Nat) (q:List UInt8) (w:World) (cs ck:Array Value) (h0:q≠[]) (hb:w.heap[b]?=some (.cells cs 158 (0,0))) (hc1:cs[1]?=some (.slice (some ⟨bj,0,none⟩) q.length cap)) (hl:q.length<=cap) (hm:cap<=maxLen) (hne:b≠bj) (hj:w.heap[bj]?=some (.cells ck 5 (0,0))) (hck:cap<=ck.size)
    (hq:∀(k:Nat) (x:UInt8),q[k]?=some x->ck[k]?=some (Value.int .u8 x.toNat)):Calls Tryz.prog 86 #[.pointer (some ⟨b,0,none⟩)] w fun e w'=>e= .returned (.string ⟨q.toArray⟩)/\But bj w w':=by
 have d:q.length≠0:=by simpa using h0
 have h:w.drew.cell? ⟨b,1,none⟩=some (.slice (some ⟨bj,0,none⟩) q.length cap):=by
  have:w.drew.heap[b]?=some (.cells cs 158 (0,0)):=hb;simp[World.cell?,this,hc1]
 have f:(Builtin.unsafeSliceData_ #[156] 205 #[.slice (some ⟨bj,0,none⟩) q.length cap]).run Tryz.prog w.drew= .ok (.pointer (some ⟨bj,0,none⟩)) w.drew:=
  Lib.run_unsafeSliceData_row _ _ _ _ _ _ (by omega)
 have c:(Builtin.unsafeString_ #[205,3] 9 #[.pointer (some ⟨bj,0,none⟩),.int .i64 q.length]).run Tryz.prog w.drew= .ok (.string ⟨q.toArray⟩) (w.drew.freeze ⟨bj,0,none⟩ q.length):=by
  refine Lib.run_unsafeString_row w.drew 205 3 9 5 ub_byte HJ bj ck.size (by have a:w.drew.heap[bj]?=some (.cells ck 5 (0,0)):=hj;simp[World.shape?,a]) q h0 (by omega) (by unfold maxLen at hm;omega) ?_;intro j x g;have a:w.drew.heap[bj]?=some (.cells ck 5 (0,0)):=hj;rw[show(⟨bj,0,none⟩:Addr).add j=⟨bj,0+j,none⟩ from kn bj 0 j];simp[World.cell?,a,hq j x g]
 have mixed:=aT
 go_enter Tryz.func86,Tryz.ntmps86
 go_wp2
 go_region_o
 all_goals (go_wp2;go_ret;exact⟨rfl,D2 w bj q.length⟩)
theorem sd:DSpec Tryz.prog 86 158 5:=
 ⟨fun xs w=>r9 Tryz.func86 rfl (by kernel_rfl) xs w,fun b i c q w cs k j hb e hl f a h d g=>ds_run b i c q w cs k j hb e hl f a h d g⟩
end Go.Proofs.YtiodeiecpoopgaaGreatDoor
namespace Go.Proofs.YtiodeiecpoopgaaGreatDoor
open Go.Abs
set_option maxRecDepth 20000
def jG(n:Nat):List UInt8:=if n< 10 then [48+n.toUInt8] else [48+(n/ 10).toUInt8,48+(n % 10).toUInt8]
theorem vO(s:ByteArray)(l h:Nat)(zl zh:Int)(el:zl=(l:Int))(eh:zh=(h:Int))(hlh:l<=h)(hh:h<=s.size):∀w,(Instr.sliceAt 9 (.string s) (some (.int .i64 zl)) (some (.int .i64 zh)) none).run Tryz.prog w= .ok (.string (s.extract l h)) w:=fun w=>by
 subst el eh;have b1:∀(i y:Nat) (c:BoundsCode),i<=y->(Instr.sliceBound (.int .i64 (i:Int)) y c).run Tryz.prog w= .ok i w:=fun i y c b=>em b c w
 have a:(Instr.slice 9 (.string s) (some (.int .i64 (l:Int))) (some (.int .i64 (h:Int))) none).run Tryz.prog w= .ok (.string (s.extract l h)) w:=by
  simp[Instr.slice,run_underlying iy,Instr.sliceBounds,b1 h s.size _ hh,b1 l h _ hlh,Result.andThen]
 unfold Instr.sliceAt;rw[Sem.run_bind,run_underlying iy];exact a
def smallsB:ByteArray:=⟨((List.range 100).flatMap fun n=>[48+(n/ 10).toUInt8,48+(n % 10).toUInt8]).toArray⟩
theorem GI(i:Nat)(h:i< 100):FS 224 [i64 i] (tx (jG i)):=by
 refine f_c Tryz.func224 ?_;refine r_z 1 ?_;refine ae (r_z 2 ?_);refine ap rfl (fun c=>?_) (fun c=>?_);have b:i< 10:=by simp at c;omega
 refine s_r 5 ?_;refine a_3 ?_;refine o_0 (.slice_v rfl rfl rfl rfl (vO _ i (i+1) _ _ rfl (by omega) (by omega) (by exact Nat.le_trans (m:=10) (by omega) (by decide)))) ?_;refine a_z ?_;refine aj (aM rfl ?_ ?_);have a:∀i,i< 10->(ByteArray.mk #[48,49,50,51,52,53,54,55,56,57,97,98,99,100,101,102,103,104,105,106,107,108,109,110,111,112,113,114,115,116,117,118,119,120,121,122]).extract i (i+1)=⟨(jG i).toArray⟩:=by decide
 exact congrArg (fun s=>AV.v (.string s)) (a i b);exact ag _;have b:10<=i:=by simp at c;omega
 refine am (s_r 7 ?_);refine a_5 ?_;refine o_0 (.slice_v rfl rfl rfl rfl (vO _ (i* 2) (i* 2+2) _ _ (by omega) (by omega) (by omega) (by exact Nat.le_trans (m:=200) (by omega) (by decide)))) ?_;refine a_z ?_;refine aj (aM rfl ?_ ?_);have a:∀i,i< 100->10<=i->smallsB.extract (i* 2) (i* 2+2)=⟨(jG i).toArray⟩:=by decide
 refine congrArg (fun s=>AV.v (.string s)) (Eq.trans (congrArg (fun s:ByteArray=>s.extract _ _) (?_:_=smallsB)) (a i h b))
 kernel_rfl
 exact ag _
theorem y6(i:Nat)(h:i< 100):FS 182 [i64 i,i64 10] (tx (jG i)):=by
 refine f_c Tryz.func182 ?_;refine r_z 1 ?_;refine ae (r_z 2 ?_);refine ap rfl (fun a=>?_) (fun a=>?_);refine ae (s_r 6 ?_);refine a_3 ?_;refine y_g rfl (by simp) (.move rfl) ?_;refine y_g rfl (by simp) (.bin rfl rfl ec) ?_;refine o_0 (.pickT rfl (by simp) rfl) ?_;refine ao ?_;refine ap rfl (fun b=>?_) (fun b=>?_);refine r_c 3 (GI i h) ?_;refine a_z ?_;exact aj (t_e (ag _));exact absurd b (by simp;omega);exact absurd a (by simp)
theorem JC(i:Nat)(h:i< 100):FS 141 [i64 i] (tx (jG i)):=by
 refine f_c Tryz.func141 ?_;refine r_z 1 ?_;refine r_c 3 (y6 i h) ?_;refine a_z ?_;exact aj (t_e (ag _))
theorem y4(i:Nat)(h:i< 100):FS 85 [i64 i] (tx (jG i)):=by
 refine f_c Tryz.func85 ?_;refine r_z 1 ?_;refine r_c 3 (JC i h) ?_;refine a_z ?_;exact aj (t_e (ag _))
def te0(m:Nat):Unit->AState
 |u=>⟨[(1,.lptr 1 0 0),(3,.lptr 2 0 0),(11,.clos 183 [] [.aptr [[.arr (dE [m])]] 0 0])],[(1,some ⟨44,1,[[.arr (dE [m])]]⟩),(2,some ⟨158,2,[dO 2 0 none]⟩)],4,31⟩
def te1(m:Nat):Unit->AState
 |u=>⟨[(1,.lptr 1 0 0),(3,.lptr 2 0 0),(11,.clos 183 [] [.aptr [[.arr (dE [m])]] 0 0])],[(1,some ⟨44,1,[[.arr (dE [m])]]⟩),(2,some ⟨158,2,[dO 2 3 (some (jG m))]⟩),(3,some ⟨5,1,bE (jG m)⟩)],4,31⟩
def teS(m:Nat):Nat->AState
 |0=>te0 m ()
 |_+1=>te1 m ()
theorem Hf{m:Nat}(h0:m≠0)(h:m< 100):av MB m=[m]:=by
 have hb:MB=1000000000:=rfl;rw[eB (by decide) (by omega),Nat.mod_eq_of_lt (by omega),Nat.div_eq_of_lt (by omega),cg]
theorem zD(m:Nat):jG m≠[]:=by unfold jG;split <;> simp
theorem lE(m:Nat):(jG m).length<=2:=by unfold jG;split <;> simp
theorem Bg(m:Nat)(h:m< 100):FS 87 [.agg [mag m]] (tx (jG m)):=by
 have u:=j6 m;refine f_c Tryz.func87 ?_;refine r_z 2 ?_;refine ae (r_c 2 (u) ?_);refine ao ?_;refine ap rfl (fun n=>?_) (fun n=>?_);have f:m=0:=by simpa using n
 subst f;refine r_z 1 ?_;exact aj (t_e (ag _));have f:m≠0:=by simpa using n
 have x:mag m= .arr (dE [m]):=by unfold mag;rw[Hf f h]
 rw[x];refine am ?_;have v:([m]:Ln).length=1:=rfl;have d:Closed (.aptr [[.arr (dE [m])]] 0 0):=jh (fun e p c q=>by simp at p;subst p;simp at q;subst q;exact cQ _);have b:Closed (.clos 183 [] [.aptr [[.arr (dE [m])]] 0 0]):=aQ af (ac d af);refine r_z 1 ?_;refine ae (r_c 3 (kY [m]) ?_);refine ao ?_;refine aC (fun _:Unit=>te1 m ()) (fun _=>True) ?_ ?_;refine ah (AWp.rangeFunc (α:=Nat) (γ:=Empty) 1 (teS m) (fun k=>k) (fun k=>k<=1) (fun e=>nomatch e) (fun _ e=>nomatch e) 0 rfl (kU [m] (by simp)) rfl rfl ?_ (fun k=>by cases k <;> exact⟨rfl,rfl⟩) (fun e=>nomatch e) (Nat.zero_le _) rfl (fun _ h=>h) ?_ ?_ ?_ ?_ (fun _ e=>nomatch e));intro k xs a;unfold lL at a;split at a;cases a;rfl;cases a;show SEntT _ (te0 m ());rw[te0.eq_1];exact s_t [(1,1),(2,3)];exact ac d af
 ·intro l k xs t a
  unfold lL at a;split at a;rotate_left;cases a;rename_i hlt;have i:k=0:=by simpa using hlt
  subst i;cases a;show AWp _ _ _ _ ⟨ja (te0 m ()).fr _ _++dQ (te0 m ()).fr,_,_,_⟩;show AWp _ _ _ _ ⟨[(13,u32 m),(12,i64 0),(1,.lptr 1 0 0),(3,.lptr 2 0 0),(11,.clos 183 [] [.aptr [[.arr (dE [m])]] 0 0]),(1001,.lptr 1 0 0),(1003,.lptr 2 0 0),(1011,.clos 183 [] [.aptr [[.arr (dE [m])]] 0 0])],[(1,some ⟨44,1,[[.arr (dE [m])]]⟩),(2,some ⟨158,2,[dO 2 0 none]⟩)],4,31⟩;refine r_z 1 ?_;refine r_m 1 ?_;refine a_z ?_;refine ah (r_c 4 (y4 m h) ?_);refine a_z ?_;refine ae (r_z 6 ?_);refine ap rfl (fun o=>?_) (fun o=>?_);exact absurd o (by simp);refine am (r_m 2 ?_);refine a_1 ?_;refine o_2 (.callB (s:=none) (j:=0) rfl rfl rfl rfl rfl rfl (fun _ h=>by cases h) (jP (jG m) (zD m) (by have:=lE m;omega))) ?_;refine ao ?_;refine⟨0+1,⟨by omega,rfl⟩,?_⟩;show SEntT _ ⟨[(1001,.lptr 1 0 0),(1003,.lptr 2 0 0),(1011,.clos 183 [] [.aptr [[.arr (dE [m])]] 0 0])],[(1,some ⟨44,1,[[.arr (dE [m])]]⟩),(2,some ⟨158,2,[dO 2 3 (some (jG m))]⟩),(3,some ⟨5,1,bE (jG m)⟩)],4,31⟩;refine SEntT.to2 [(3,100017)] rfl rfl rfl zS (fun hs=>?_) (fun hs=>?_)
  ·repeat' (first|exact aI|refine au rfl ?_ ?_)
   all_goals (first|(exact ai hs b)|exact aS)
  ·repeat' (first|exact aA|refine lR rfl rfl rfl rfl ?_ ?_)
   all_goals (first|exact br|(refine ay ?_;repeat' (first|exact aq|refine ak ?_ ?_)))
   all_goals (first|(exact ai hs b)|exact aS)
 ·intro k t a
  unfold lL at a;split at a;cases a
  have g:k=1:=by
   rename_i w;simp at w;omega
  subst g;exact⟨(),trivial,SEnt.refl _⟩
 rintro _ _;rw[te1.eq_1];have r:=zD m;refine s_r 2 ?_;refine o_2 (.callD rfl rfl rfl rfl rfl rfl (by decide) (by first|assumption|simp) (sd)) ?_;refine a_z ?_;exact aj (t_e (ag _))
section
variable {P:Go.Program}{T:Nat}{x y:Operand}
theorem eY{l m:List UInt8}(h:l.length+m.length<=9223372036854775807):∀w,(do eqGuard .add T x y (.string ⟨l.toArray⟩) (.string ⟨m.toArray⟩);binOp .add T (.string ⟨l.toArray⟩) (.string ⟨m.toArray⟩):Sem Value).run P w= .ok (.string ⟨(l++m).toArray⟩) w:=fun w=>by
 have a:IntKind.i64.max=9223372036854775807:=by decide
 have e:(⟨l.toArray⟩:ByteArray)++⟨m.toArray⟩=⟨(l++m).toArray⟩:=by
  apply ByteArray.ext;simp
 have b:¬((((⟨l.toArray⟩:ByteArray).size+(⟨m.toArray⟩:ByteArray).size:Nat):Int)> IntKind.i64.max):=by
  rw[nI,nI,a];omega
 simp only[eqGuard,binOp,Op.stringOp,b,if_false,e,Sem.run_bind,Sem.run_pure,Result.andThen_ok];rfl
theorem jk{l m:List UInt8}:∀w,(do eqGuard .eql T x y (.string ⟨l.toArray⟩) (.string ⟨m.toArray⟩);binOp .eql T (.string ⟨l.toArray⟩) (.string ⟨m.toArray⟩):Sem Value).run P w= .ok (.bool (decide (l=m))) w:=fun w=>by
 rw[BT];congr 2
 have e:∀l:List UInt8,(⟨l.toArray⟩:ByteArray).toList=l:=by
  intro l;have:=ByteArray.toList_eq (bs:=⟨l.toArray⟩);simpa using this
 rw[e,e];rw[Bool.eq_iff_iff];simp
end
def mu(q:Rat):List UInt8:=((if q.num< 0 then [45] else [])++jG q.num.natAbs)++(if q.den=1 then [] else 47::jG q.den)
def okT(q:Rat):Prop:=q.num.natAbs< 100/\q.den< 100
instance (q:Rat):Decidable (okT q):=inferInstanceAs (Decidable (_/\_))
theorem okT_qs{q:Rat}(h:okT q):qs q<=1099511627776:=by
 obtain⟨a,b⟩:=h;have e1:=iq (n:=q.num.natAbs) (k:=7) (by omega);have e2:=iq (n:=q.den) (k:=7) (by omega);unfold qs;omega
theorem textQ_len{q:Rat}:(mu q).length<=6/\1<=(mu q).length:=by
 have a:=lE q.num.natAbs;have b:=lE q.den;have c:=List.length_pos_iff.2 (zD q.num.natAbs);unfold mu;split <;> split <;> simp <;> omega
def qtS(q:Rat):List UInt8->AState
 |l=>⟨[(1,.aptr [qC q] 0 0),(3,tx l)],[],2,24⟩
theorem vr(q:Rat)(h:okT q):FS 32 [.agg (qC q)] (tx (mu q)):=by
 have f:=lE q.num.natAbs;have d:=lE q.den;have c:1<=q.den:=q.den_pos;refine f_c Tryz.func32 ?_;refine r_z 2 ?_;refine AWp.ent (st':=⟨[(1,.aptr [qC q] 0 0)],[],2,24⟩) ?_ ?_;exact s_e [];refine r_c 5 (Bg q.num.natAbs h.1) ?_;refine a_z ?_;refine a6 (qtS q) (fun l=>l=(if q.num< 0 then [45] else [])++jG q.num.natAbs) ?_ ?_;refine r_z 3 ?_;refine ap rfl (fun a=>?_) (fun a=>?_);have b:q.num< 0:=by simpa using a
 refine r_m 3 ?_;refine a_1 ?_;refine o_0 (.bin rfl rfl (eY (l:=[45]) (by simp;omega))) ?_;refine a_z ?_;refine⟨_,by rw[if_pos b],?_⟩;rw[qtS.eq_1];exact s_x [] (fun hs=>e_3) (fun hs=>e_4);have b:¬q.num< 0:=by simpa using a
 refine am ⟨jG q.num.natAbs,by rw[if_neg b];rfl,?_⟩;rw[qtS.eq_1];exact s_x [] (fun hs=>e_3) (fun hs=>e_4);rintro l hl;have g:l.length<=3:=by rw[hl];split <;> simp <;> omega
 rw[qtS.eq_1];refine a6 (qtS q) (fun l=>l=mu q) ?_ ?_;refine r_c 4 (j6 (q.den- 1)) ?_;refine a_z ?_;refine ap rfl (fun a=>?_) (fun a=>?_)
 have b:¬q.den=1:=by
  intro e;rw[e] at a;simp at a
 refine r_m 7 ?_;refine c_s (eo q (okT_qs h)) ?_;refine c_s (Bg q.den h.2) ?_;refine o_0 (.bin rfl rfl (eY (l:=[47]) (by simp;omega))) ?_;refine o_0 (.bin rfl rfl (eY (by simp;omega))) ?_;refine a_z ?_;refine⟨_,by unfold mu;rw[if_neg b,<-hl],?_⟩;rw[qtS.eq_1];exact s_x [] (fun hs=>e_3) (fun hs=>e_4)
 have b:q.den=1:=by
  have i:q.den- 1=0:=by simpa using a
  omega
 refine am ⟨l,by unfold mu;rw[if_pos b,<-hl,List.append_nil],?_⟩;rw[qtS.eq_1];exact s_x [] (fun hs=>e_3) (fun hs=>e_4);rintro l rfl;rw[qtS.eq_1];refine r_z 2 ?_;exact aj (t_e (ag _))
end Go.Proofs.YtiodeiecpoopgaaGreatDoor
