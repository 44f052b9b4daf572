/- Part W20 of the proof. -/
import Derived.Test.YtjmkjicckobojaaGreatDoorW19
import Derived.Shelf.RegionOpenPlain
import Derived.Lib.Strings
import Derived.Lib.Slices
import Derived.Lib.Walk
import Derived.Shelf.Strconv.Itoa3
import Derived.Shelf.Strings.Repeat
set_option linter.all false
namespace Go.Proofs.YtjmkjicckobojaaGreatDoor
open Go.Abs Go.RowKit
set_option maxRecDepth 20000
theorem ub_byte:Tryz.prog.underlying 268=some (.pointer 5):=by kernel_rfl
theorem IM:Tryz.prog.cellsOf 5=1:=by kernel_rfl
theorem E5(w:World)(g n:Nat):But g w (w.drew.freeze ⟨g,0,none⟩ n):=by
 have b:∀x,x≠g->(w.drew.freeze ⟨g,0,none⟩ n).heap[x]?=w.heap[x]?:=by
  intro x a;unfold World.freeze;split;rfl;show(w.heap.modify g _)[x]?=_;rw[Array.getElem?_modify,if_neg (Ne.symm a)]
 have c:(w.drew.freeze ⟨g,0,none⟩ n).heap.size=w.heap.size:=by
  unfold World.freeze;split;rfl;show(w.heap.modify g _).size=_;simp
 refine⟨?_,?_,?_,ω,λx _ a=>b x a,λx N a=>?_⟩;unfold World.freeze;split <;> rfl;unfold World.freeze;split <;> rfl;unfold World.freeze;split <;> rfl;by_cases hxg:x=g;subst hxg;unfold World.freeze;split;exact a;unfold aU at a⊢;show(match (w.heap.modify x _)[x]? with|some (.cells cs _ _)=>some cs.size|some (.map _ _)=>some 0|_=>none)=some N;rw[Array.getElem?_modify,if_pos rfl];cases ho:w.heap[x]? with
 |none=>rw[ho] at a;cases a
 |some o=>
  rw[ho] at a;cases o <;> simp_all
 unfold aU at a⊢;rw[b x hxg];exact a
set_option maxHeartbeats 2000000 in
theorem ds_run (b bj cap:Nat) (q:List UInt8) (w:World) (cs ck:Array Value) (h0:q≠[]) (hb:w.heap[b]?=some (.cells cs 205 (0,0))) (hc1:cs[1]?=some (.slice (some ⟨bj,0,none⟩) q.length cap)) (hl:q.length<=cap) (hm:cap<=maxLen) (hne:b≠bj) (hj:w.heap[bj]?=some (.cells ck 5 (0,0))) (hck:cap<=ck.size)
    (hq:∀(k:Nat) (x:UInt8),q[k]?=some x->ck[k]?=some (Value.int .u8 x.toNat)):Calls Tryz.prog 130 #[.pointer (some ⟨b,0,none⟩)] w λe w'=>e= .returned (.string ⟨q.toArray⟩)/\But bj w w':=by
 have d:q.length≠0:=by simpa using h0
 have h:w.drew.cell? ⟨b,1,none⟩=some (.slice (some ⟨bj,0,none⟩) q.length cap):=by
  have:w.drew.heap[b]?=some (.cells cs 205 (0,0)):=hb;simp[World.cell?,this,hc1]
 have f:(Builtin.unsafeSliceData_ #[203] 268 #[.slice (some ⟨bj,0,none⟩) q.length cap]).run Tryz.prog w.drew= .ok (.pointer (some ⟨bj,0,none⟩)) w.drew:=
  Lib.run_unsafeSliceData_row _ _ _ _ _ _ ω
 have c:(Builtin.unsafeString_ #[268,3] 9 #[.pointer (some ⟨bj,0,none⟩),.int .i64 q.length]).run Tryz.prog w.drew= .ok (.string ⟨q.toArray⟩) (w.drew.freeze ⟨bj,0,none⟩ q.length):=by
  refine Lib.run_unsafeString_row w.drew 268 3 9 5 ub_byte IM bj ck.size (by have a:w.drew.heap[bj]?=some (.cells ck 5 (0,0)):=hj;simp[World.shape?,a]) q h0 ω (by unfold maxLen at hm;omega) ?_;intro j x g;have a:w.drew.heap[bj]?=some (.cells ck 5 (0,0)):=hj;rw[show(⟨bj,0,none⟩:Addr).add j=⟨bj,0+j,none⟩ from lc bj 0 j];simp[World.cell?,a,hq j x g]
 have mixed:=aX
 go_enter Tryz.func130,Tryz.ntmps130
 go_wp2
 go_region_o
 all_goals (go_wp2;go_ret;exact⟨rfl,E5 w bj q.length⟩)
theorem tN:DSpec Tryz.prog 130 205 5:=
 ⟨λxs w=>tM Tryz.func130 rfl κ xs w,λb j c q w cs l k hb e h f a i d g=>ds_run b j c q w cs l k hb e h f a i d g⟩
end Go.Proofs.YtjmkjicckobojaaGreatDoor
namespace Go.Proofs.YtjmkjicckobojaaGreatDoor
open Go.Abs
set_option maxRecDepth 20000
theorem dk(a b:Rat)(h:qs a+qs b<=549755813888):FS 37 [.agg (qC a),.agg (qC b)] (.agg (qC (a* b))):=by
 have hp:=th a b;have e:=dA a;have c:=dr a;have f:=dA b;have d:=dr b;rw[oT];refine f_c Tryz.func37 ?_;refine r_z 3 ?_;refine ac (r_d aX 12 ?_);refine c_s (Av a.num b.num ω) ?_;refine c_s (eT a ω) ?_;refine c_s (eT b ω) ?_;refine c_s (gU a.den b.den ω) ?_;refine c_s (rK (a.num* b.num) (a.den* b.den) (mj a b) ω) ?_;refine a_1 ?_;refine aq (n_k ?_);exact ai (c_e (aP _))
theorem Dg(n:Nat):zI (n:Int)=[mag n,bln false]:=by
 unfold zI;rw[Int.natAbs_natCast];rfl
theorem B8(x:Int)(n:Nat)(h:bl x.natAbs+bl n<=17592186044416):FS 107 [.agg (zI x),.agg [mag n,bln false]] (.agg (zI (x* n))):=by
 have:=Av x n (by simpa using h);rwa[Dg] at this
theorem fD(a b:Rat)(h:qs a+qs b<=549755813888):FS 36 [.agg (qC a),.agg (qC b)] (.agg (qC (a+b))):=by
 have hp:=uf a b;have e:=dA a;have c:=dr a;have f:=dA b;have d:=dr b;have e1:=dc (x:=a.num) (y:=b.den) e (by simpa using d);have e2:=dc (x:=b.num) (y:=a.den) f (by simpa using c);rw[ug];refine f_c Tryz.func36 ?_;refine r_z 3 ?_;refine ac (r_d aX 8 ?_);refine c_s (eT a ω) ?_;refine c_s (eT b ω) ?_;refine a_4 ?_;refine aq (n_k ?_);refine ac (r_d aX 16 ?_);refine c_s (B8 a.num b.den ω) ?_;refine c_s (B8 b.num a.den ω) ?_;refine c_s (fs_iadd (a.num* b.den) (b.num* a.den) ω) ?_;refine c_s (gU a.den b.den ω) ?_;refine c_s (rK (a.num* b.den+b.num* a.den) (a.den* b.den) (mj a b) ω) ?_;refine a_1 ?_;refine aq (n_k ?_);exact ai (c_e (aP _))
theorem HI(a:Rat):qC (-a)=zI (sgn (!decide (a.num< 0)) a.num.natAbs)++[mag (a.den- 1)]:=by
 unfold qC;rw[Rat.neg_num,Rat.neg_den]
 have e: -a.num=sgn (!decide (a.num< 0)) a.num.natAbs:=by
  unfold sgn;by_cases h:a.num< 0;simp[h];omega;simp[h];omega
 rw[e];rfl
theorem mY(a:Rat):FS 30 [.agg (qC a)] (.agg (qC (-a))):=by
 have hc:=aP (-a);rw[HI] at hc⊢;refine f_c Tryz.func30 ?_;refine r_z 2 ?_;refine ac (r_d aX 12 ?_);refine c_s (fo (!decide (a.num< 0)) a.num.natAbs) ?_;refine a_4 ?_;refine aq (n_k ?_);exact ai (c_e (hc))
theorem kU(a b:Rat)(h:qs a+qs b<=549755813888):FS 76 [.agg (qC a),.agg (qC b)] (.agg (qC (a- b))):=by
 have hs:=fD a (-b) (by rw[dJ];exact h);rw[<-Rat.sub_eq_add_neg] at hs;refine f_c Tryz.func76 ?_;refine r_z 3 ?_;refine ac (r_d aX 5 ?_);refine c_s (mY b) ?_;refine c_s (hs) ?_;refine a_1 ?_;refine aq (n_k ?_);exact ai (c_e (aP _))
theorem Kn(a b:Rat)(hb:b≠0)(h:qs a+qs b<=549755813888):FS 201 [.agg (qC a),.agg (qC b)] (.agg (qC (a/ b))):=by
 have hp:=y3 a b;have e:=dA a;have c:=dr a;have f:=dA b;have d:=dr b;have g:b.num≠0:=λh=>hb (Rat.num_eq_zero.1 h);have hs:=fT (decide (b.num< 0)) b.den;rw[tQ a b hb];refine f_c Tryz.func201 ?_;refine r_z 3 ?_;refine ac (r_d aX 17 ?_);refine c_s (eT b ω) ?_;refine c_s (fo (decide (b.num< 0)) b.den) ?_;refine c_s (Av a.num (sgn (decide (b.num< 0)) b.den) (by rw[hs];omega)) ?_;refine c_s (eT a ω) ?_;refine c_s (gU a.den b.num.natAbs ω) ?_;refine c_s (rK (a.num* sgn (decide (b.num< 0)) b.den) (a.den* b.num.natAbs) (Nat.mul_pos a.den_pos ω) ω) ?_;refine a_1 ?_;refine aq (n_k ?_);exact ai (c_e (aP _))
theorem Es(a b:Rat)(hb:b≠0)(h:qs a+qs b<=549755813888):FS 116 [.agg (qC a),.agg (qC b)] (.tup [.agg (qC (a/ b)),i64 0]):=by
 have d:b.num≠0:=λh=>hb (Rat.num_eq_zero.1 h);have c:sgZ b.num≠0:=by unfold sgZ;rw[if_neg d];split <;> decide
 refine f_c Tryz.func116 ?_;refine r_z 4 ?_;refine ac (r_c 3 (c6 b) ?_);refine a_z ?_;refine ar rfl (λh=>?_) (λh=>?_);exact absurd h (by simpa using c);refine aj (r_c 5 (Kn a b hb (by assumption)) ?_);refine a_z ?_;refine ai (Fin.many ⟨_,_,rfl,⟨_,_,_,_,_,rfl,rfl,rfl,.inl ⟨TG.h,_,TS.h,nle rfl,rfl⟩⟩,⟨_,_,rfl,rfl,rfl⟩⟩ (nle rfl) ?_);exact am (ao aF (aP _)) (am (ao aF (ak _)) av)
theorem GY(x:Int)(n:Nat)(hn:0< n):(sgZ x= -1/\∃p:Nat,0< p/\x* n= -(p:Int)/\x.natAbs* n=p)\/(sgZ x=0/\x* n=0/\x.natAbs* n=0)\/(sgZ x=1/\∃p:Nat,0< p/\x* n=p/\x.natAbs* n=p):=by
 rcases Int.lt_trichotomy x 0 with a|a|a
 refine .inl ⟨by unfold sgZ;rw[if_neg ω,if_pos a],x.natAbs* n,Nat.mul_pos ω hn,?_,rfl⟩;rw[Int.natCast_mul,<-Int.neg_mul];congr 1;omega;subst a;refine .inr (.inl ⟨rfl,ψ,ψ⟩);refine .inr (.inr ⟨by unfold sgZ;rw[if_neg ω,if_neg ω],x.natAbs* n,Nat.mul_pos ω hn,?_,rfl⟩);rw[Int.natCast_mul];congr 1;omega
theorem Ld(a b:Rat):fb a b=if sgZ a.num≠sgZ b.num\/sgZ a.num=0 then sgZ a.num- sgZ b.num- (sgZ a.num- sgZ b.num).tdiv 2 else sgZ a.num* fg ((a.num.natAbs* b.den:Nat):Int) ((b.num.natAbs* a.den:Nat):Int):=by
 rw[G0];rcases GY a.num b.den b.den_pos with⟨s1,p,hp,e1,f1⟩|⟨s1,e1,f1⟩|⟨s1,p,hp,e1,f1⟩<;> rcases GY b.num a.den a.den_pos with⟨s2,q,hq,e2,f2⟩|⟨s2,e2,f2⟩|⟨s2,q,hq,e2,f2⟩<;> rw[s1,s2,e1,e2,f1,f2]<;> unfold fg <;> simp <;>(repeat' split)<;> first|rfl|omega
theorem wX(a b:Rat)(ha:sm a)(hb:sm b):FS 38 [.agg (qC a),.agg (qC b)] (i64 (fb a b)):=by
 have hs:=sm2 ha hb;have r:=dA a;have o:=dr a;have s:=dA b;have q:=dr b;have hc:=Ld a b;have d:sgZ a.num= -1\/sgZ a.num=0\/sgZ a.num=1:=by unfold sgZ;split;simp;split <;> simp
 have e:sgZ b.num= -1\/sgZ b.num=0\/sgZ b.num=1:=by unfold sgZ;split;simp;split <;> simp
 have k:=im a.num.natAbs b.den;have m:=im b.num.natAbs a.den;refine f_c Tryz.func38 ?_;refine r_z 3 ?_;refine ac (ac (r_d aX 6 ?_));refine c_s (c6 a) ?_;refine c_s (c6 b) ?_;refine a_2 ?_;refine aq (n_k ?_);obtain⟨x,l⟩:∃x,x=sgZ a.num:=⟨_,rfl⟩;obtain⟨y,n⟩:∃y,y=sgZ b.num:=⟨_,rfl⟩;rw[<-l] at d hc⊢;rw[<-n] at e hc⊢
 have p:(x- y).tdiv 2= -1\/(x- y).tdiv 2=0\/(x- y).tdiv 2=1:=by
  rcases d with h|h|h <;> rcases e with h'|h'|h' <;> rw[h,h']<;> decide
 refine aC (λ_:Unit=>⟨[(2,.lptr 1 0 0),(3,.lptr 2 0 0)],[(1,some ⟨42,3,[qC a]⟩),(2,some ⟨42,3,[qC b]⟩)],3,42⟩) (λ_=>x=y/\x≠0) ?_ ?_;by_cases c:x=y;refine s_r 7 ?_;refine a_4 ?_;refine y_g rfl (by simp[c]) (.move rfl) ?_;refine y_g rfl (by simp[c]) (.bin rfl rfl bJ) ?_;refine o_0 (.pickF rfl (by simp[c]) rfl) ?_;refine aq ?_;refine ar rfl (λh=>?_) (λh=>?_);have i:x=0:=by simpa using h
 refine s_r 9 ?_;refine a_6 ?_;refine o_0 (.bin rfl rfl (ud δ ω)) ?_;refine a_z ?_;refine ai (aS rfl ?_ (ak _));rw[hc,if_pos (.inr i)];rfl;have i:x≠0:=by simpa using h
 refine aj ⟨(),⟨c,i⟩,?_⟩;exact s_e [];refine s_r 7 ?_;refine a_4 ?_;refine n_g rfl (by simp[c]) ?_;refine n_g rfl (by simp[c]) ?_;refine o_0 (.pickT rfl (by simp[c]) rfl) ?_;refine aq ?_;refine ar rfl (λh=>?_) (λh=>?_);refine s_r 9 ?_;refine a_6 ?_;refine o_0 (.bin rfl rfl (ud δ ω)) ?_;refine a_z ?_;refine ai (aS rfl ?_ (ak _));rw[hc,if_pos (.inl c)];rfl;cases h;rintro _ ⟨c,i⟩
 have j:fg ((a.num.natAbs* b.den:Nat):Int) ((b.num.natAbs* a.den:Nat):Int)= -1\/fg ((a.num.natAbs* b.den:Nat):Int) ((b.num.natAbs* a.den:Nat):Int)=0\/fg ((a.num.natAbs* b.den:Nat):Int) ((b.num.natAbs* a.den:Nat):Int)=1:=by
  unfold fg;split;simp;split <;> simp
 have g:=c6 a;rw[<-l] at g
 have f: -9223372036854775808<=x* fg ((a.num.natAbs* b.den:Nat):Int) ((b.num.natAbs* a.den:Nat):Int)/\x* fg ((a.num.natAbs* b.den:Nat):Int) ((b.num.natAbs* a.den:Nat):Int)<=9223372036854775807:=by
  rcases d with h|h|h <;> rcases j with h'|h'|h' <;> rw[h,h']<;> decide
 refine ac (r_d aX 17 ?_);refine c_s (g) ?_;refine c_s (eT b ω) ?_;refine c_s (gU a.num.natAbs b.den ω) ?_;refine c_s (eT a ω) ?_;refine c_s (gU b.num.natAbs a.den ω) ?_;refine c_s (pQ (a.num.natAbs* b.den) (b.num.natAbs* a.den) ω) ?_;refine o_0 (.bin rfl rfl (sH f)) ?_;refine a_1 ?_;refine aq (n_k ?_);refine ai (aS rfl ?_ (ak _));rw[hc,if_neg ω];rfl
theorem tF(a:Rat):FS 122 [.agg (qC a)] (.agg (qC (eH a))):=by
 have hc:=aP (eH a);rw[qC_abs] at hc⊢;refine f_c Tryz.func122 ?_;refine r_z 2 ?_;refine ac (r_d aX 8 ?_);refine c_s (fo false a.num.natAbs) ?_;refine a_4 ?_;refine aq (n_k ?_);exact ai (c_e (hc))
theorem Kv(a:Rat)(ha:sm a):FS 294 [.agg (qC a)] (.agg (qC ((a.den:Int):Rat))):=by
 have b:=rI (a.den:Int);rw[Dg] at b;refine f_c Tryz.func294 ?_;refine r_z 2 ?_;refine r_c 5 (eT a (by unfold sm at ha;omega)) ?_;refine c_s (b) ?_;refine a_z ?_;exact ai (c_e (aP _))
theorem Ij{z q:Int}{d:Nat}(hd:0< d)(h1:q* d<=z)(h2:z< q* d+d):z/ (d:Int)=q:=by
 have a:(0:Int)< d:=ω
 have b:q<=z/ (d:Int):=(Int.le_ediv_iff_mul_le a).2 h1;have a2:z/ (d:Int)< q+1:=(Int.ediv_lt_iff_lt_mul a).2 (by rw[Int.add_mul];omega);omega
theorem w8(z:Int)(d:Nat)(hd:0< d):z/ (d:Int)=sgn (decide (z< 0)) (if (decide (z< 0) && !(z.natAbs % d==0))=true then z.natAbs/ d+1 else z.natAbs/ d):=by
 have f:=Nat.div_add_mod z.natAbs d;have c:=Nat.mod_lt z.natAbs hd;generalize e:z.natAbs % d=r at *
 generalize b:z.natAbs/ d=a at *
 have g:((d* a:Nat):Int)=(a:Int) * d:=by rw[Int.natCast_mul,Int.mul_comm]
 refine Ij hd ?_ ?_ <;> by_cases hz:z< 0 <;> by_cases h0:r=0 <;> simp[sgn,hz,h0,Int.neg_mul,Int.add_mul]<;> omega
theorem H0(z:Int)(d:Nat)(hd:0< d)(h:bl z.natAbs+bl d<=4398046511104):FS 330 [.agg (zI z),.agg [mag d]] (.agg (zI (z/ d))):=by
 rw[w8 z d hd];have c:=fv z.natAbs d;have e:=Bb (z.natAbs/ d) 1;have f:bl 1=1:=jz;obtain⟨Q,a⟩:∃Q,Q=(if (decide (z< 0) && !(z.natAbs % d==0))=true then z.natAbs/ d+1 else z.natAbs/ d):=⟨_,rfl⟩;rw[<-a];refine f_c Tryz.func330 ?_;refine r_z 3 ?_;refine r_c 11 (u7 z.natAbs d h hd) ?_;refine a_z ?_;refine bD (λ_:Unit=>⟨[(2,.lptr 1 0 0),(4,.lptr 2 0 0),(5,.lptr 3 0 0)],[(1,some ⟨40,2,[zI z]⟩),(2,some ⟨40,2,[[.emp,bln false]]⟩),(3,some ⟨38,1,[[mag Q]]⟩)],4,28⟩) (λ_=>True) ?_ ?_;by_cases hz:z< 0;refine s_r 7 ?_;refine a_3 ?_;refine y_g rfl (by simp[hz]) (.load_l rfl rfl rfl TG.h TS.h (nle rfl)) ?_;refine y_g rfl (by simp[hz]) (.call rfl rfl rfl (kV (z.natAbs % d))) ?_;refine y_g rfl (by simp[hz]) (.un rfl px) ?_;refine o_0 (.pickT rfl (by simp[hz]) rfl) ?_;refine aq ?_;refine ar rfl (λb=>?_) (λb=>?_);have:Q=z.natAbs/ d+1:=by rw[a,if_pos];simpa[hz] using b
 rw[this];refine r_d aX 4 ?_;refine c_s (gV 1 δ) ?_;refine c_s (Aq (z.natAbs/ d) 1 ω) ?_;refine a_1 ?_;refine aq (n_k ?_);refine⟨(),trivial,?_⟩;exact s_e [(2,4),(3,5)];have:Q=z.natAbs/ d:=by rw[a,if_neg];simpa[hz] using b
 rw[this];refine aj ⟨(),trivial,?_⟩;exact s_e [(2,4),(3,5)];refine s_r 7 ?_;refine a_3 ?_;refine n_g rfl (by simp[hz]) ?_;refine n_g rfl (by simp[hz]) ?_;refine n_g rfl (by simp[hz]) ?_;refine o_0 (.pickF rfl (by simp[hz]) rfl) ?_;refine aq ?_;have:Q=z.natAbs/ d:=by rw[a,if_neg];simp[hz]
 rw[this];refine ar rfl (λh=>?_) (λh=>aj ⟨(),trivial,?_⟩);cases h;exact s_e [(2,4),(3,5)];rintro _ _;refine r_c 5 (fo (decide (z< 0)) Q) ?_;refine a_z ?_;exact ai (c_e (ju _))
theorem rV(q:Rat)(h:qs q<=1099511627776):FS 307 [.agg (qC q)] (.agg (qC (q.floor:Rat))):=by
 have a:=dA q;have b:=dr q;rw[Rat.floor_def];refine f_c Tryz.func307 ?_;refine r_z 2 ?_;refine ac (r_d aX 7 ?_);refine c_s (eT q h) ?_;refine c_s (H0 q.num q.den q.den_pos ω) ?_;refine c_s (rI (q.num/ q.den)) ?_;refine a_1 ?_;refine aq (n_k ?_);exact ai (c_e (aP _))
def xD(q:Rat):Rat:= -((-q).floor:Rat)
theorem GC(q:Rat)(h:qs q<=1099511627776):FS 308 [.agg (qC q)] (.agg (qC (xD q))):=by
 refine f_c Tryz.func308 ?_;refine r_z 2 ?_;refine r_c 5 (mY q) ?_;refine c_s (rV (-q) (by rw[dJ];exact h)) ?_;refine c_s (mY ((-q).floor:Rat)) ?_;refine a_z ?_;exact ai (c_e (aP _))
def wi(k:Int)(m:Nat):Nat:=(max 0 (min k m)).toNat
theorem HT(k:Int)(m:Nat):FS 332 [i64 k,i64 m] (i64 (wi k m)):=by
 refine f_c Tryz.func332 ?_;refine r_z 1 ?_;refine r_z 5 ?_;refine ai (aS rfl ?_ ?_);simp only[i64,wi];congr 2;split <;> split <;> omega;exact ak _
def powS:Nat×Nat×Nat->AState
 |(o,x,m)=>⟨[(1,i64 m),(2,.lptr 1 0 0),(4,.lptr 2 0 0),(5,.lptr 3 0 0)],[(1,some ⟨38,1,[[mag x]]⟩),(2,some ⟨38,1,[[.emp]]⟩),(3,some ⟨38,1,[[mag o]]⟩)],4,23⟩
theorem mL(o:Nat)(x:Nat)(m:Nat):powS (o,x,m)=⟨[(1,i64 m),(2,.lptr 1 0 0),(4,.lptr 2 0 0),(5,.lptr 3 0 0)],[(1,some ⟨38,1,[[mag x]]⟩),(2,some ⟨38,1,[[.emp]]⟩),(3,some ⟨38,1,[[mag o]]⟩)],4,23⟩:=rfl
theorem DP(x m:Nat):x^ m=(x* x) ^ (m/ 2) * (if m % 2=1 then x else 1):=by
 rw[<-Nat.pow_two,<-Nat.pow_mul];have:=Nat.div_add_mod m 2;split
 ·rename_i h;rw[<-Nat.pow_succ];congr 1;omega
 ·rename_i h;rw[Nat.mul_one];congr 1;omega
theorem HY(a n:Nat)(h:bl a* n<=2199023255552)(hn:n<=1000000):FS 331 [.agg [mag a],i64 n] (.agg [mag (a^ n)]):=by
 refine f_c Tryz.func331 ?_;refine r_z 2 ?_;refine r_c 3 (gV 1 δ) ?_;refine a_z ?_;refine bD (λ_:Unit=>⟨[(4,.lptr 2 0 0),(5,.lptr 3 0 0)],[(2,some ⟨38,1,[[.emp]]⟩),(3,some ⟨38,1,[[mag (a^ n)]]⟩)],4,23⟩) (λ_=>True) ?_ ?_;refine ah (ay powS (λx=>x.2.2) (λx=>x.1* x.2.1^ x.2.2=a^ n/\bl x.1+bl x.2.1* x.2.2<=2199023255553/\x.2.2<=1000000) (1,a,n) ⟨ψ,by have:bl 1=1:=jz;simp only;omega,hn⟩ ?_ ?_);rw[mL];exact s_e [(1,2),(2,4),(3,5)];rintro⟨o,x,m⟩ ⟨hv,hb,C⟩;simp only at hv hb C;rw[mL];refine ac (r_z 2 ?_);refine ar rfl (λh=>?_) (λh=>?_);have c:0< m:=by simpa using h
 have y:bl x* 1<=bl x* m:=Nat.mul_le_mul_left _ c;have l:=DP x m;refine aj ?_
 have D:(m:Int).tdiv 2=((m/ 2:Nat):Int):=by
  rw[Int.tdiv_eq_ediv_of_nonneg ω];omega
 have w:=Nat.div_add_mod m 2;have A:=Nat.mod_lt m (show 0< 2 by decide);have j:m/ 2< m:=ω
 have p:=im x x;have u:=im o x;have B:bl x* m=bl x* (2* (m/ 2))+bl x* (m % 2):=by rw[<-Nat.mul_add];congr 1;omega
 have t:bl (x* x) * (m/ 2)<=bl x* (2* (m/ 2)):=by
  have:=Nat.mul_le_mul_right (m/ 2) p;rw[<-Nat.two_mul,Nat.mul_comm 2,Nat.mul_assoc] at this;exact this
 have E:(m:Int) % 2=((m % 2:Nat):Int):=ω
 have e:(m:Int) / 2=((m/ 2:Nat):Int):=ω
 refine ac (ah (bD (λd:Nat=>powS (d,x,m)) (λd=>d=o* (if m % 2=1 then x else 1)) ?_ ?_));refine r_z 3 ?_;refine ar rfl (λf=>?_) (λf=>?_);have g:m % 2=1:=by simp at f;omega
 refine r_m 4 ?_;refine c_s (gU o x ω) ?_;refine a_z ?_;refine⟨o* x,by rw[if_pos g],?_⟩;simp only[mL];exact s_e [];have k:¬m % 2=1:=by simp at f;omega
 refine aj ⟨o,by rw[if_neg k,Nat.mul_one],?_⟩;simp only[mL];exact s_e [];rintro d i;rw[mL]
 have s:bl d<=bl o+bl x* (m % 2):=by
  rw[i];split
  ·rename_i f;rw[f];omega
  rw[Nat.mul_one];omega
 have b:d* (x* x) ^ (m/ 2)=a^ n:=by
  rw[<-hv,l,i,Nat.mul_assoc,Nat.mul_comm (if m % 2=1 then x else 1)]
 refine r_z 2 ?_;refine ar rfl (λr=>?_) (λr=>?_);refine r_m 4 ?_;refine c_s (gU x x ω) ?_;refine a_z ?_;refine r_m 3 ?_;refine a_z ?_;refine⟨(d,x* x,m/ 2),j,⟨b,by simp only;omega,by simp only;omega⟩,?_⟩;rw[mL];have:=(congrArg (λz=>AV.v (.int .i64 z)) e);exact s_f [];have q:m/ 2=0:=by simp at r;omega
 refine aj (r_m 3 ?_);refine a_z ?_;rw[q] at b e;refine⟨(d,x,0),c,⟨by simpa using b,by simp only;omega,by simp only;omega⟩,?_⟩;rw[mL];have:=(congrArg (λz=>AV.v (.int .i64 z)) e);exact s_f [];have c:m=0:=by simp at h;omega
 subst c;refine ax ⟨(),trivial,?_⟩;have b:o=a^ n:=by simpa using hv
 rw[b];exact s_e [];rintro _ _;refine r_z 2 ?_;exact ai (c_e (closed_mA _))
theorem Kg(k:Int):FS 310 [i64 k] (.agg [mag (2^ wi k 256)]):=by
 have b:wi k 256<=256:=by unfold wi;omega
 have a:bl 2=2:=δ
 refine f_c Tryz.func310 ?_;refine r_z 1 ?_;refine r_c 5 (gV 2 δ) ?_;refine c_s (HT k 256) ?_;refine c_s (HY 2 (wi k 256) (by rw[a];omega) ω) ?_;refine a_z ?_;exact ai (c_e (closed_mA _))
theorem E7(k:Nat):bl (2^ k)<=k+1:=gY (by rw[Nat.pow_succ];have:=Nat.pow_pos (n:=k) (show 0< 2 by decide);omega)
theorem r6(k:Int):FS 278 [i64 k] (.agg (qC (gX (wi k 256)))):=by
 have b:wi k 256<=256:=by unfold wi;omega
 have hb:=E7 (wi k 256);have a:bl (1:Int).natAbs=1:=jz;refine f_c Tryz.func278 ?_;refine r_z 1 ?_;refine r_c 5 (B6 1 δ) ?_;refine c_s (Kg k) ?_;refine c_s (rK 1 (2^ wi k 256) (Nat.pow_pos δ) ω) ?_;refine a_z ?_;exact ai (c_e (aP _))
def py(k:Nat):Rat:=((2^ k:Nat):Int)
theorem zV(k:Nat):qs (py k)<=k+1:=by
 have a:(py k).num=((2^ k:Nat):Int):=rfl;have b:(py k).den=1:=rfl;unfold qs;rw[a,b,Int.natAbs_natCast,jz];have:=E7 k;omega
theorem BE(k:Nat):qs (gX k)<=k+1:=by
 have a:bl (1:Int).natAbs=1:=jz;exact fW (Nat.pow_pos δ) ω (E7 k)
theorem yP(a:Rat)(k:Int)(h:qs a<=549755813000):FS 306 [.agg (qC a),i64 k] (.agg (qC (a* py (wi k 256)))):=by
 have c:wi k 256<=256:=by unfold wi;omega
 have d:=zV (wi k 256);have b:=rI ((2^ wi k 256:Nat):Int);rw[Dg] at b;refine f_c Tryz.func306 ?_;refine r_z 2 ?_;refine ac (r_d aX 7 ?_);refine c_s (Kg k) ?_;refine c_s (b) ?_;refine c_s (dk a (py (wi k 256)) ω) ?_;refine a_1 ?_;refine aq (n_k ?_);exact ai (c_e (aP _))
def k4(a:Rat)(k:Nat):Rat:=((a* py k).floor:Rat) * gX k
def upQ(a:Rat)(k:Nat):Rat:=xD (a* py k) * gX k
theorem BD(a:Rat):qs (a.floor:Rat)<=qs a+1:=by
 rw[Rat.floor_def];have d:=dA a;have e1:((a.num/ (a.den:Int):Int):Rat).num=a.num/ a.den:=rfl;have e2:((a.num/ (a.den:Int):Int):Rat).den=1:=rfl;have g:1<=bl a.den:=Lk a.den_pos;have c:=dr a;unfold qs at *
 rw[e1,e2,jz,w8 _ _ a.den_pos,fT];have f:=fv a.num.natAbs a.den;have b:=Bb (a.num.natAbs/ a.den) 1;have e:bl 1=1:=jz;split <;> omega
theorem Jp(a:Rat):qs (xD a)<=qs a+1:=by
 unfold xD;rw[dJ];have:=BD (-a);rwa[dJ] at this
theorem GF(a:Rat)(k:Int)(h:sm a):FS 275 [.agg (qC a),i64 k] (.agg (qC (k4 a (wi k 256)))):=by
 unfold sm at h;have b:wi k 256<=256:=by unfold wi;omega
 have c:=zV (wi k 256);have f:=cx a (py (wi k 256));have d:=BD (a* py (wi k 256));have e:=BE (wi k 256);refine f_c Tryz.func275 ?_;refine r_z 2 ?_;refine r_c 8 (yP a k ω) ?_;refine c_s (rV (a* py (wi k 256)) ω) ?_;refine c_s (r6 k) ?_;refine c_s (dk ((a* py (wi k 256)).floor:Rat) (gX (wi k 256)) ω) ?_;refine a_z ?_;exact ai (c_e (aP _))
theorem fs_Up(a:Rat)(k:Int)(h:sm a):FS 276 [.agg (qC a),i64 k] (.agg (qC (upQ a (wi k 256)))):=by
 unfold sm at h;have b:wi k 256<=256:=by unfold wi;omega
 have c:=zV (wi k 256);have f:=cx a (py (wi k 256));have d:=Jp (a* py (wi k 256));have e:=BE (wi k 256);refine f_c Tryz.func276 ?_;refine r_z 2 ?_;refine r_c 8 (yP a k ω) ?_;refine c_s (GC (a* py (wi k 256)) ω) ?_;refine c_s (r6 k) ?_;refine c_s (dk (xD (a* py (wi k 256))) (gX (wi k 256)) ω) ?_;refine a_z ?_;exact ai (c_e (aP _))
def ko(n:Nat):List UInt8:=if n< 10 then [48+n.toUInt8] else [48+(n/ 10).toUInt8,48+(n % 10).toUInt8]
theorem xh(s:ByteArray)(l h:Nat)(zl zh:Int)(el:zl=(l:Int))(eh:zh=(h:Int))(hlh:l<=h)(hh:h<=s.size):∀w,(Instr.sliceAt 9 (.string s) (some (.int .i64 zl)) (some (.int .i64 zh)) none).run Tryz.prog w= .ok (.string (s.extract l h)) w:=λw=>by
 subst el eh;have b1:∀(i y:Nat) (c:BoundsCode),i<=y->(Instr.sliceBound (.int .i64 (i:Int)) y c).run Tryz.prog w= .ok i w:=λi y c b=>eS b c w
 have a:(Instr.slice 9 (.string s) (some (.int .i64 (l:Int))) (some (.int .i64 (h:Int))) none).run Tryz.prog w= .ok (.string (s.extract l h)) w:=by
  simp[Instr.slice,run_underlying jf,Instr.sliceBounds,b1 h s.size _ hh,b1 l h _ hlh,Result.andThen]
 unfold Instr.sliceAt;rw[Sem.run_bind,run_underlying jf];exact a
def smallsB:ByteArray:=⟨((List.range 100).flatMap λn=>[48+(n/ 10).toUInt8,48+(n % 10).toUInt8]).toArray⟩
theorem HU(i:Nat)(h:i< 100):FS 285 [i64 i] (tx (ko i)):=by
 refine f_c Tryz.func285 ?_;refine r_z 1 ?_;refine ac (r_z 2 ?_);refine ar rfl (λc=>?_) (λc=>?_);have b:i< 10:=by simp at c;omega
 refine s_r 5 ?_;refine a_3 ?_;refine o_0 (.slice_v rfl rfl rfl rfl (xh _ i (i+1) _ _ rfl ω ω (by exact Nat.le_trans (m:=10) ω δ))) ?_;refine a_z ?_;refine ai (aS rfl ?_ ?_);have a:∀i,i< 10->(ByteArray.mk #[48,49,50,51,52,53,54,55,56,57,97,98,99,100,101,102,103,104,105,106,107,108,109,110,111,112,113,114,115,116,117,118,119,120,121,122]).extract i (i+1)=⟨(ko i).toArray⟩:=δ
 exact congrArg (λs=>AV.v (.string s)) (a i b);exact ak _;have b:10<=i:=by simp at c;omega
 refine aj (s_r 7 ?_);refine a_5 ?_;refine o_0 (.slice_v rfl rfl rfl rfl (xh _ (i* 2) (i* 2+2) _ _ ω ω ω (by exact Nat.le_trans (m:=200) ω δ))) ?_;refine a_z ?_;refine ai (aS rfl ?_ ?_);have a:∀i,i< 100->10<=i->smallsB.extract (i* 2) (i* 2+2)=⟨(ko i).toArray⟩:=δ
 refine congrArg (λs=>AV.v (.string s)) (Eq.trans (congrArg (λs:ByteArray=>s.extract _ _) (?_:_=smallsB)) (a i h b))
 kernel_rfl
 exact ak _
theorem AA(i:Nat)(h:i< 100):FS 255 [i64 i,i64 10] (tx (ko i)):=by
 refine f_c Tryz.func255 ?_;refine r_z 1 ?_;refine ac (r_z 2 ?_);refine ar rfl (λa=>?_) (λa=>?_);refine ac (s_r 6 ?_);refine a_3 ?_;refine y_g rfl ψ (.move rfl) ?_;refine y_g rfl ψ (.bin rfl rfl ei) ?_;refine o_0 (.pickT rfl ψ rfl) ?_;refine aq ?_;refine ar rfl (λb=>?_) (λb=>?_);refine r_c 3 (HU i h) ?_;refine a_z ?_;exact ai (t_e (ak _));exact absurd b χ;exact absurd a ψ
theorem Ks(i:Nat)(h:i< 100):FS 208 [i64 i] (tx (ko i)):=by
 refine f_c Tryz.func208 ?_;refine r_z 1 ?_;refine r_c 3 (AA i h) ?_;refine a_z ?_;exact ai (t_e (ak _))
theorem Ay(i:Nat)(h:i< 100):FS 129 [i64 i] (tx (ko i)):=by
 refine f_c Tryz.func129 ?_;refine r_z 1 ?_;refine r_c 3 (Ks i h) ?_;refine a_z ?_;exact ai (t_e (ak _))
def te0(m:Nat):Unit->AState
 |u=>⟨[(1,.lptr 1 0 0),(3,.lptr 2 0 0),(11,.clos 256 [] [.aptr [[.arr (dE [m])]] 0 0])],[(1,some ⟨38,1,[[.arr (dE [m])]]⟩),(2,some ⟨205,2,[ez 2 0 none]⟩)],4,31⟩
def te1(m:Nat):Unit->AState
 |u=>⟨[(1,.lptr 1 0 0),(3,.lptr 2 0 0),(11,.clos 256 [] [.aptr [[.arr (dE [m])]] 0 0])],[(1,some ⟨38,1,[[.arr (dE [m])]]⟩),(2,some ⟨205,2,[ez 2 3 (some (ko m))]⟩),(3,some ⟨5,1,bE (ko m)⟩)],4,31⟩
def teS(m:Nat):Nat->AState
 |0=>te0 m ()
 |_+1=>te1 m ()
theorem Il{m:Nat}(h0:m≠0)(h:m< 100):aw MB m=[m]:=by
 have hb:MB=1000000000:=rfl;rw[eY δ ω,Nat.mod_eq_of_lt ω,Nat.div_eq_of_lt ω,cI]
theorem A3(m:Nat):ko m≠[]:=by unfold ko;split <;> simp
theorem mn(m:Nat):(ko m).length<=2:=by unfold ko;split <;> simp
theorem B7(m:Nat)(h:m< 100):FS 131 [.agg [mag m]] (tx (ko m)):=by
 have t:=kV m;refine f_c Tryz.func131 ?_;refine r_z 2 ?_;refine ac (r_c 2 (t) ?_);refine aq ?_;refine ar rfl (λn=>?_) (λn=>?_);have f:m=0:=by simpa using n
 subst f;refine r_z 1 ?_;exact ai (t_e (ak _));have f:m≠0:=by simpa using n
 have w:mag m= .arr (dE [m]):=by unfold mag;rw[Il f h]
 rw[w];refine aj ?_;have u:([m]:Ln).length=1:=rfl;have d:Closed (.aptr [[.arr (dE [m])]] 0 0):=jU (λe p c hc=>by simp at p;subst p;simp at hc;subst hc;exact dn _);have b:Closed (.clos 256 [] [.aptr [[.arr (dE [m])]] 0 0]):=a6 af (ae d af);refine r_z 1 ?_;refine ac (r_c 3 (lP [m]) ?_);refine aq ?_;refine aC (λ_:Unit=>te1 m ()) (λ_=>True) ?_ ?_;refine ah (AWp.rangeFunc (α:=Nat) (γ:=Empty) 1 (teS m) (λk=>k) (λk=>k<=1) (λe=>nomatch e) (λ_ e=>nomatch e) 0 rfl (lM [m] ψ) rfl rfl ?_ (λk=>by cases k <;> exact⟨rfl,rfl⟩) (λe=>nomatch e) (Nat.zero_le _) rfl (λ_ h=>h) ?_ ?_ ?_ ?_ (λ_ e=>nomatch e));intro k xs a;unfold mA at a;split at a;cases a;rfl;cases a;show SEntT _ (te0 m ());rw[te0.eq_1];exact s_t [(1,1),(2,3)];exact ae d af
 ·intro l k xs r a
  unfold mA at a;split at a;rotate_left;cases a;rename_i hlt;have i:k=0:=by simpa using hlt
  subst i;cases a;show AWp _ _ _ _ ⟨jJ (te0 m ()).fr _ _++eB (te0 m ()).fr,_,_,_⟩;show AWp _ _ _ _ ⟨[(13,u32 m),(12,i64 0),(1,.lptr 1 0 0),(3,.lptr 2 0 0),(11,.clos 256 [] [.aptr [[.arr (dE [m])]] 0 0]),(1001,.lptr 1 0 0),(1003,.lptr 2 0 0),(1011,.clos 256 [] [.aptr [[.arr (dE [m])]] 0 0])],[(1,some ⟨38,1,[[.arr (dE [m])]]⟩),(2,some ⟨205,2,[ez 2 0 none]⟩)],4,31⟩;refine r_z 1 ?_;refine r_m 1 ?_;refine a_z ?_;refine ah (r_c 4 (Ay m h) ?_);refine a_z ?_;refine ac (r_z 6 ?_);refine ar rfl (λo=>?_) (λo=>?_);exact absurd o ψ;refine aj (r_m 2 ?_);refine a_1 ?_;refine o_2 (.callB (s:=none) (j:=0) rfl rfl rfl rfl rfl rfl (λ_ h=>by cases h) (kF (ko m) (A3 m) (by have:=mn m;omega))) ?_;refine aq ?_;refine⟨0+1,⟨ω,rfl⟩,?_⟩;show SEntT _ ⟨[(1001,.lptr 1 0 0),(1003,.lptr 2 0 0),(1011,.clos 256 [] [.aptr [[.arr (dE [m])]] 0 0])],[(1,some ⟨38,1,[[.arr (dE [m])]]⟩),(2,some ⟨205,2,[ez 2 3 (some (ko m))]⟩),(3,some ⟨5,1,bE (ko m)⟩)],4,31⟩;refine SEntT.to2 [(3,100017)] rfl rfl rfl xK (λhs=>?_) (λhs=>?_)
  ·repeat' (first|exact aL|refine az rfl ?_ ?_)
   all_goals (first|(exact ao hs b)|exact aW)
  ·repeat' (first|exact aB|refine jY rfl rfl rfl rfl ?_ ?_)
   all_goals (first|exact bG|(refine aA ?_;repeat' (first|exact av|refine am ?_ ?_)))
   all_goals (first|(exact ao hs b)|exact aW)
 ·intro k r a
  unfold mA at a;split at a;cases a
  have g:k=1:=by
   rename_i v;simp at v;omega
  subst g;exact⟨(),trivial,SEnt.refl _⟩
 rintro _ _;rw[te1.eq_1];have q:=A3 m;refine s_r 2 ?_;refine o_2 (.callD rfl rfl rfl rfl rfl rfl δ (by first|assumption|simp) (tN)) ?_;refine a_z ?_;exact ai (t_e (ak _))
theorem Ci(a:Rat)(k:Int)(h:sm a):FS 248 [.agg (qC a),i64 k] (.agg (spC (k4 a (wi k 256)) (upQ a (wi k 256)))):=by
 refine f_c Tryz.func248 ?_;refine r_z 2 ?_;refine ac (r_d aX 8 ?_);refine c_s (GF a k h) ?_;refine c_s (fs_Up a k h) ?_;refine a_2 ?_;refine aq (n_k ?_);exact ai (c_e (b9 _ _))
theorem Cn(a:Rat):FS 282 [.agg (qC a)] (.agg (spC a a)):=by
 refine f_c Tryz.func282 ?_;refine r_z 2 ?_;refine r_z 4 ?_;exact ai (c_e (b9 _ _))
theorem kx(a b:Rat)(ha:sm a)(hb:sm b):FS 90 [.agg (spC a b)] (bln (decide (fb a b<=0))):=by
 refine f_c Tryz.func90 ?_;refine r_z 2 ?_;refine r_c 7 (wX a b ha hb) ?_;refine a_z ?_;exact ai (t_e (ak _))
theorem fs_SAdd(a b c d:Rat)(ha:sm a)(hb:sm b)(hc:sm c)(hd:sm d):FS 318 [.agg (spC a b),.agg (spC c d)] (.agg (spC (a+c) (b+d))):=by
 refine f_c Tryz.func318 ?_;refine r_z 3 ?_;refine ac (r_d aX 12 ?_);refine c_s (fD a c (sm2 ha hc)) ?_;refine c_s (fD b d (sm2 hb hd)) ?_;refine a_2 ?_;refine aq (n_k ?_);exact ai (c_e (b9 _ _))
theorem Ex(a b:Rat)(ha:sm a)(hb:sm b):FS 313 [.agg (spC a b)] (.agg (qC ((a+b) * gX 1))):=by
 have c:qs (a+b)<=274877906945:=by have:=e9 a b;unfold sm at ha hb;omega
 have d:qs (gX 1)<=2:=δ
 refine f_c Tryz.func313 ?_;refine r_z 2 ?_;refine r_c 8 (fD a b (sm2 ha hb)) ?_;refine c_s (r6 1) ?_;refine c_s (dk (a+b) (gX 1) ω) ?_;refine a_z ?_;exact ai (c_e (aP _))
theorem yT(a b:Rat)(ha:sm a)(hb:sm b):FS 26 [.agg (spC a b)] (.agg (qC (b- a))):=by
 refine f_c Tryz.func26 ?_;refine r_z 2 ?_;refine r_c 6 (kU b a (sm2 hb ha)) ?_;refine a_z ?_;exact ai (c_e (aP _))
theorem fs_Min1(c:Int):FS 309 [i64 c] (bln (decide (c< 0))):=by
 refine f_c Tryz.func309 ?_;refine r_z 1 ?_;refine r_z 3 ?_;exact ai (t_e (ak _))
theorem fs_Max1(c:Int):FS 264 [i64 c] (bln (decide (0< c))):=by
 refine f_c Tryz.func264 ?_;refine r_z 1 ?_;refine r_z 3 ?_;exact ai (t_e (ak _))
def A9(g:Nat)(l:Lq):Nat×La->AState
 |(i,o)=>⟨[(0,.clos g [] []),(4,.lptr 1 0 0),(5,.lptr 2 0 0),(8,.arr (pE l)),(9,i64 l.length),(10,i64 i)],[(1,some ⟨42,3,[zC]⟩),(2,some ⟨42,3,[o]⟩)],3,27⟩
theorem yS(g:Nat)(bf:Int->Bool)(hg:∀c,FS g [i64 c] (bln (bf c)))(l:Lq)(hl:smL l)(hln:l.length<=1099511627776):FS 263 [.clos g [] [],.arr (pE l)] (.agg (qC (ef bf l))):=by
 refine f_n Tryz.func263 ?_ ?_;exact ae (a6 af af) (ae (aD l) af);refine r_z 1 ?_;refine r_z 1 ?_;refine ac (r_z 3 ?_);refine aC (λ_:Unit=>⟨[(4,.lptr 1 0 0),(5,.lptr 2 0 0)],[(1,some ⟨42,3,[zC]⟩),(2,some ⟨42,3,[qC (ef bf l)]⟩)],3,27⟩) (λ_=>True) ?_ ?_;refine ah (ay (λx:Nat×La=>A9 g l x) (λx=>l.length- x.1) (λx=>x.1<=l.length/\((x.1=0->x.2=zC)/\(x.1≠0->x.2=qC (ef bf (l.take x.1))))) (0,zC) ⟨Nat.zero_le _,λ_=>rfl,λh=>absurd rfl h⟩ ?_ ?_);simp only[A9.eq_1];exact s_e [(1,4),(2,5)];rintro⟨i,o⟩ ⟨v,b,r⟩;simp only at v b r;simp only[A9.eq_1];refine r_z 1 ?_;refine ac (ar rfl (λh=>?_) (λh=>?_));refine aj ?_;have k:i< l.length:=by simpa using h
 obtain⟨q,d⟩:∃q,l[i]?=some q:=⟨_,List.getElem?_eq_getElem k⟩;have e:(pE l)[((i:Nat):Int).toNat]?=some (qC q):=pE_get d;have j:sm q:=hl q (List.mem_of_getElem? d);have n:sm (ef bf (l.take i)):=qA λq d=>hl q (List.mem_of_mem_take d);have a:=sk bf (l.take i) q;rw[<-cO d] at a;refine ac (ah (s_r 6 ?_));refine a_1 ?_;refine i_x e ?_;refine l_x e ?_;refine a_z ?_;refine AWp.cutB (λ_:Unit=>A9 g l (i,qC (ef bf (l.take (i+1))))) (λ_=>True) ?_ ?_;by_cases h0:i=0;subst h0;have:=b rfl;subst this;rw[if_pos (.inl ψ)] at a;refine s_r 9 ?_;refine a_3 ?_;refine n_g rfl d_t ?_;refine n_g rfl d_t ?_;refine n_g rfl d_t ?_;refine n_g rfl d_t ?_;refine n_g rfl d_t ?_;refine o_0 (.pickT rfl d_t rfl) ?_;refine aq ?_;refine ar rfl (λh=>?_) (λh=>?_);refine r_m 2 ?_;refine a_z ?_;refine⟨(),trivial,?_⟩;simp only[A9.eq_1];rw[a];exact s_e [];cases h;have s:o=qC (ef bf (l.take i)):=r h0;subst s
 have m:l.take i≠[]:=λh=>by
  have:=congrArg List.length h;rw[List.length_take,List.length_nil] at this;omega
 refine s_r 9 ?_;refine a_3 ?_;refine y_g rfl χ (.move rfl) ?_;refine y_g rfl χ (.load_l rfl rfl rfl TG.h TS.h (nle rfl)) ?_;refine y_g rfl χ (.load_l rfl rfl rfl TG.h TS.h (nle rfl)) ?_;refine y_g rfl χ (.call rfl rfl rfl (wX q (ef bf (l.take i)) j n)) ?_;refine y_g rfl χ (.call rfl rfl rfl (hg (fb q (ef bf (l.take i))))) ?_;refine o_0 (.pickF rfl χ rfl) ?_;refine aq ?_;refine ar rfl (λp=>?_) (λp=>?_);refine r_m 2 ?_;refine a_z ?_;refine⟨(),trivial,?_⟩;simp only[A9.eq_1];rw[a,if_pos (.inr p)];exact s_e [];refine aj ⟨(),trivial,?_⟩;simp only[A9.eq_1];rw[a,if_neg (λu=>u.elim m λt=>by rw[p] at t;cases t)];exact s_e [];rintro _ _;rw[A9.eq_1];refine r_m 2 ?_;refine a_z ?_;refine⟨(i+1,qC (ef bf (l.take (i+1)))),by simp only;omega,⟨by simp only;omega,λh=>absurd h ψ,λ_=>rfl⟩,?_⟩;simp only[A9.eq_1];exact s_e [];have f:i=l.length:=by simp at h;omega
 refine ax ⟨(),trivial,?_⟩;subst f;by_cases h0:l.length=0;have:=b h0;subst this
 have:ef bf l=0:=by
  rw[List.length_eq_zero_iff] at h0;rw[h0];rfl
 rw[this,qC0];exact s_e [];have:=r h0;subst this;rw[List.take_length];exact s_e [];rintro _ _;refine r_z 2 ?_;exact ai (c_e (aP _))
theorem KD(l:Lq)(hl:smL l)(hln:l.length<=1099511627776):FS 277 [.arr (pE l)] (.agg (qC (DX l))):=by
 refine f_c Tryz.func277 ?_;refine r_z 1 ?_;refine r_c 3 (yS 309 _ fs_Min1 l hl hln) ?_;refine a_z ?_;exact ai (c_e (aP _))
theorem Ax(l:Lq)(hl:smL l)(hln:l.length<=1099511627776):FS 217 [.arr (pE l)] (.agg (qC (gQ l))):=by
 refine f_c Tryz.func217 ?_;refine r_z 1 ?_;refine r_c 3 (yS 264 _ fs_Max1 l hl hln) ?_;refine a_z ?_;exact ai (c_e (aP _))
theorem zG{a b:Rat}(ha:sm a)(hb:sm b):smL [a,b]:=by
 intro q c;simp at c;rcases c with rfl|rfl
 exact ha;exact hb
theorem Cf(a b c d:Rat)(ha:sm a)(hb:sm b)(hc:sm c)(hd:sm d):FS 249 [.agg (spC a b),.agg (spC c d)] (.agg (spC (DX [a,c]) (gQ [b,d]))):=by
 refine f_c Tryz.func249 ?_;refine r_z 3 ?_;refine ac (r_d aX 14 ?_);refine a_5 ?_;refine o_1 (.callS1 rfl rfl rfl (.shut rfl d_n (.nil)) rfl (KD [a,c] (zG ha hc) ψ)) ?_;refine a_5 ?_;refine o_1 (.callS1 rfl rfl rfl (.shut rfl d_n (.nil)) rfl (Ax [b,d] (zG hb hd) ψ)) ?_;refine a_2 ?_;refine aq (n_k ?_);exact ai (c_e (b9 _ _))
theorem Ed(l:Lq)(hl:smL l)(hln:l.length<=1099511627776):FS 339 [.arr (pE l)] (.agg (spC (DX l) (gQ l))):=by
 refine f_c Tryz.func339 ?_;refine r_z 1 ?_;refine r_c 6 (KD l hl hln) ?_;refine c_s (Ax l hl hln) ?_;refine a_z ?_;exact ai (c_e (b9 _ _))
section
variable {P:Go.Program}{T:Nat}{x y:Operand}
theorem fw{l m:List UInt8}(h:l.length+m.length<=9223372036854775807):∀w,(do eqGuard .add T x y (.string ⟨l.toArray⟩) (.string ⟨m.toArray⟩);binOp .add T (.string ⟨l.toArray⟩) (.string ⟨m.toArray⟩):Sem Value).run P w= .ok (.string ⟨(l++m).toArray⟩) w:=λw=>by
 have a:IntKind.i64.max=9223372036854775807:=δ
 have e:(⟨l.toArray⟩:ByteArray)++⟨m.toArray⟩=⟨(l++m).toArray⟩:=by
  apply ByteArray.ext;simp
 have b:¬((((⟨l.toArray⟩:ByteArray).size+(⟨m.toArray⟩:ByteArray).size:Nat):Int)> IntKind.i64.max):=by
  rw[oG,oG,a];omega
 simp only[eqGuard,binOp,Op.stringOp,b,if_false,e,Sem.run_bind,Sem.run_pure,Result.andThen_ok];rfl
theorem jW{l m:List UInt8}:∀w,(do eqGuard .eql T x y (.string ⟨l.toArray⟩) (.string ⟨m.toArray⟩);binOp .eql T (.string ⟨l.toArray⟩) (.string ⟨m.toArray⟩):Sem Value).run P w= .ok (.bool (decide (l=m))) w:=λw=>by
 rw[C3];congr 2
 have e:∀l:List UInt8,(⟨l.toArray⟩:ByteArray).toList=l:=by
  intro l;have:=ByteArray.toList_eq (bs:=⟨l.toArray⟩);simpa using this
 rw[e,e];rw[Bool.eq_iff_iff];simp
end
def nw(q:Rat):List UInt8:=((if q.num< 0 then [45] else [])++ko q.num.natAbs)++(if q.den=1 then [] else 47::ko q.den)
def okT(q:Rat):Prop:=q.num.natAbs< 100/\q.den< 100
instance (q:Rat):Decidable (okT q):=inferInstanceAs (Decidable (_/\_))
theorem okT_qs{q:Rat}(h:okT q):qs q<=1099511627776:=by
 obtain⟨a,b⟩:=h;have e1:=gY (n:=q.num.natAbs) (k:=7) ω;have e2:=gY (n:=q.den) (k:=7) ω;unfold qs;omega
theorem textQ_len{q:Rat}:(nw q).length<=6/\1<=(nw q).length:=by
 have a:=mn q.num.natAbs;have b:=mn q.den;have c:=List.length_pos_iff.2 (A3 q.num.natAbs);unfold nw;split <;> split <;> simp <;> omega
def qtS(q:Rat):List UInt8->AState
 |l=>⟨[(1,.aptr [qC q] 0 0),(3,tx l)],[],2,24⟩
theorem w6(q:Rat)(h:okT q):FS 47 [.agg (qC q)] (tx (nw q)):=by
 have g:=mn q.num.natAbs;have f:=mn q.den;have d:1<=q.den:=q.den_pos;refine f_c Tryz.func47 ?_;refine r_z 2 ?_;refine AWp.ent (st':=⟨[(1,.aptr [qC q] 0 0)],[],2,24⟩) ?_ ?_;exact s_e [];refine r_c 5 (B7 q.num.natAbs h.1) ?_;refine a_z ?_;refine bD (qtS q) (λl=>l=(if q.num< 0 then [45] else [])++ko q.num.natAbs) ?_ ?_;refine r_z 3 ?_;refine ar rfl (λa=>?_) (λa=>?_);have b:q.num< 0:=by simpa using a
 refine r_m 3 ?_;refine a_1 ?_;refine o_0 (.bin rfl rfl (fw (l:=[45]) χ)) ?_;refine a_z ?_;refine⟨_,by rw[if_pos b],?_⟩;rw[qtS.eq_1];exact s_x [] (λhs=>e_4) (λhs=>e_5);have b:¬q.num< 0:=by simpa using a
 refine aj ⟨ko q.num.natAbs,by rw[if_neg b];rfl,?_⟩;rw[qtS.eq_1];exact s_x [] (λhs=>e_4) (λhs=>e_5);rintro l c;have i:l.length<=3:=by rw[c];split <;> simp <;> omega
 rw[qtS.eq_1];refine bD (qtS q) (λl=>l=nw q) ?_ ?_;refine r_c 4 (kV (q.den- 1)) ?_;refine a_z ?_;refine ar rfl (λa=>?_) (λa=>?_)
 have b:¬q.den=1:=by
  intro e;rw[e] at a;simp at a
 refine r_m 7 ?_;refine c_s (eT q (okT_qs h)) ?_;refine c_s (B7 q.den h.2) ?_;refine o_0 (.bin rfl rfl (fw (l:=[47]) χ)) ?_;refine o_0 (.bin rfl rfl (fw χ)) ?_;refine a_z ?_;refine⟨_,by unfold nw;rw[if_neg b,<-c],?_⟩;rw[qtS.eq_1];exact s_x [] (λhs=>e_4) (λhs=>e_5)
 have b:q.den=1:=by
  have j:q.den- 1=0:=by simpa using a
  omega
 refine aj ⟨l,by unfold nw;rw[if_pos b,<-c,List.append_nil],?_⟩;rw[qtS.eq_1];exact s_x [] (λhs=>e_4) (λhs=>e_5);rintro l rfl;rw[qtS.eq_1];refine r_z 2 ?_;exact ai (t_e (ak _))
end Go.Proofs.YtjmkjicckobojaaGreatDoor
namespace Go.Proofs.YtjmkjicckobojaaGreatDoor
open Go.Shelf
def D1:Go.Shelf.Ren:=⟨fun|171=>129|243=>208|246=>255|283=>285|284=>286|285=>287|286=>288|129=>305|317=>320|318=>321|319=>322|320=>323|337=>336|338=>337|n=>n,fun|3=>3|9=>9|2=>2|4=>4|171=>330|0=>0|53=>246|37=>203|5=>5|173=>333|212=>355|51=>260|20=>20|213=>356|46=>310|232=>371|233=>372|n=>n,fun|17=>0|18=>2|19=>3|n=>n⟩
theorem lay171:Go.Proofs.LaysM.n171 Tryz.prog D1:={
 mixed:=by kernel_rfl,
 f129:=Tryz.func305.trans (congrArg some κ),
 f171:=Tryz.func129.trans (congrArg some κ),
 f243:=Tryz.func208.trans (congrArg some κ),
 f246:=Tryz.func255.trans (congrArg some κ),
 f283:=Tryz.func285.trans (congrArg some κ),
 f284:=Tryz.func286.trans (congrArg some κ),
 f285:=Tryz.func287.trans (congrArg some κ),
 f286:=Tryz.func288.trans (congrArg some κ),
 f317:=Tryz.func320.trans (congrArg some κ),
 f318:=Tryz.func321.trans (congrArg some κ),
 f319:=Tryz.func322.trans (congrArg some κ),
 f320:=Tryz.func323.trans (congrArg some κ),
 f337:=Tryz.func336.trans (congrArg some κ),
 f338:=Tryz.func337.trans (congrArg some κ),
 t0:=Tryz.underlying0,
 a0:=Tryz.isAgg0,
 z0:=Tryz.sizeOf0,
 v0:=Tryz.zeroValue0,
 t2:=Tryz.underlying2,
 a2:=Tryz.isAgg2,
 z2:=Tryz.sizeOf2,
 v2:=Tryz.zeroValue2,
 t3:=Tryz.underlying3,
 a3:=Tryz.isAgg3,
 z3:=Tryz.sizeOf3,
 v3:=Tryz.zeroValue3,
 t4:=Tryz.underlying4,
 a4:=Tryz.isAgg4,
 z4:=Tryz.sizeOf4,
 v4:=Tryz.zeroValue4,
 t5:=Tryz.underlying5,
 a5:=Tryz.isAgg5,
 z5:=Tryz.sizeOf5,
 v5:=Tryz.zeroValue5,
 t9:=Tryz.underlying9,
 a9:=Tryz.isAgg9,
 z9:=Tryz.sizeOf9,
 v9:=Tryz.zeroValue9,
 t20:=Tryz.underlying20,
 a20:=Tryz.isAgg20,
 z20:=Tryz.sizeOf20,
 v20:=Tryz.zeroValue20,
 t37:=Tryz.underlying203,
 a37:=Tryz.isAgg203,
 z37:=Tryz.sizeOf203,
 v37:=Tryz.zeroValue203,
 t46:=Tryz.underlying310,
 a46:=Tryz.isAgg310,
 z46:=Tryz.sizeOf310,
 v46:=Tryz.zeroValue310,
 t51:=Tryz.underlying260,
 a51:=Tryz.isAgg260,
 z51:=Tryz.sizeOf260,
 v51:=Tryz.zeroValue260,
 t53:=Tryz.underlying246,
 a53:=Tryz.isAgg246,
 z53:=Tryz.sizeOf246,
 v53:=Tryz.zeroValue246,
 t171:=Tryz.underlying330,
 a171:=Tryz.isAgg330,
 z171:=Tryz.sizeOf330,
 v171:=Tryz.zeroValue330,
 t173:=Tryz.underlying333,
 a173:=Tryz.isAgg333,
 z173:=Tryz.sizeOf333,
 v173:=Tryz.zeroValue333,
 t212:=Tryz.underlying355,
 a212:=Tryz.isAgg355,
 z212:=Tryz.sizeOf355,
 v212:=Tryz.zeroValue355,
 t213:=Tryz.underlying356,
 a213:=Tryz.isAgg356,
 z213:=Tryz.sizeOf356,
 t232:=Tryz.underlying371,
 a232:=Tryz.isAgg371,
 z232:=Tryz.sizeOf371,
 v232:=Tryz.zeroValue371,
 t233:=Tryz.underlying372,
 a233:=Tryz.isAgg372,
 z233:=Tryz.sizeOf372,
 v233:=Tryz.zeroValue372,
 g17:=by kernel_rfl,
 g18:=by kernel_rfl,
 g19:=by kernel_rfl,
 i0:=by kernel_rfl,
 i2:=by kernel_rfl,
 i3:=by kernel_rfl,
 i4:=by kernel_rfl,
 i5:=by kernel_rfl,
 i9:=by kernel_rfl,
 i20:=by kernel_rfl,
 i37:=by kernel_rfl,
 i46:=by kernel_rfl,
 i51:=by kernel_rfl,
 i53:=by kernel_rfl,
 i171:=by kernel_rfl,
 i173:=by kernel_rfl,
 i212:=by kernel_rfl,
 i232:=by kernel_rfl,
 i233:=by kernel_rfl,
 m17:=by kernel_rfl,
 m18:=by kernel_rfl,
 m19:=by kernel_rfl}
def wG:Go.Shelf.Ren:=⟨fun|105=>210|212=>257|99=>258|165=>259|166=>128|170=>127|169=>130|263=>289|264=>290|206=>291|240=>207|241=>292|276=>254|277=>324|n=>n,fun|9=>9|3=>3|4=>4|20=>20|0=>0|46=>310|109=>311|5=>5|72=>205|76=>208|51=>260|146=>335|53=>246|148=>337|70=>202|37=>203|75=>207|127=>268|164=>306|80=>125|n=>n,fun|n=>n⟩
theorem lay105:Go.Proofs.Lays.n105 Tryz.prog wG:={
 mixed:=by kernel_rfl,
 f99:=Tryz.func258.trans (congrArg some κ),
 f105:=Tryz.func210.trans (congrArg some κ),
 f165:=Tryz.func259.trans (congrArg some κ),
 f166:=Tryz.func128.trans (congrArg some κ),
 f169:=Tryz.func130.trans (congrArg some κ),
 f170:=Tryz.func127.trans (congrArg some κ),
 f206:=Tryz.func291.trans (congrArg some κ),
 f212:=Tryz.func257.trans (congrArg some κ),
 f240:=Tryz.func207.trans (congrArg some κ),
 f241:=Tryz.func292.trans (congrArg some κ),
 f263:=Tryz.func289.trans (congrArg some κ),
 f264:=Tryz.func290.trans (congrArg some κ),
 f276:=Tryz.func254.trans (congrArg some κ),
 f277:=Tryz.func324.trans (congrArg some κ),
 t0:=Tryz.underlying0,
 a0:=Tryz.isAgg0,
 z0:=Tryz.sizeOf0,
 v0:=Tryz.zeroValue0,
 t3:=Tryz.underlying3,
 a3:=Tryz.isAgg3,
 z3:=Tryz.sizeOf3,
 v3:=Tryz.zeroValue3,
 t4:=Tryz.underlying4,
 a4:=Tryz.isAgg4,
 z4:=Tryz.sizeOf4,
 v4:=Tryz.zeroValue4,
 t5:=Tryz.underlying5,
 a5:=Tryz.isAgg5,
 z5:=Tryz.sizeOf5,
 v5:=Tryz.zeroValue5,
 t9:=Tryz.underlying9,
 a9:=Tryz.isAgg9,
 z9:=Tryz.sizeOf9,
 v9:=Tryz.zeroValue9,
 t20:=Tryz.underlying20,
 a20:=Tryz.isAgg20,
 z20:=Tryz.sizeOf20,
 v20:=Tryz.zeroValue20,
 t37:=Tryz.underlying203,
 a37:=Tryz.isAgg203,
 z37:=Tryz.sizeOf203,
 v37:=Tryz.zeroValue203,
 t46:=Tryz.underlying310,
 a46:=Tryz.isAgg310,
 z46:=Tryz.sizeOf310,
 v46:=Tryz.zeroValue310,
 t51:=Tryz.underlying260,
 a51:=Tryz.isAgg260,
 z51:=Tryz.sizeOf260,
 v51:=Tryz.zeroValue260,
 t53:=Tryz.underlying246,
 a53:=Tryz.isAgg246,
 z53:=Tryz.sizeOf246,
 v53:=Tryz.zeroValue246,
 t70:=Tryz.underlying202,
 a70:=Tryz.isAgg202,
 z70:=Tryz.sizeOf202,
 v70:=Tryz.zeroValue202,
 t72:=Tryz.underlying205,
 a72:=Tryz.isAgg205,
 z72:=Tryz.sizeOf205,
 v72:=Tryz.zeroValue205,
 t75:=Tryz.underlying207,
 a75:=Tryz.isAgg207,
 z75:=Tryz.sizeOf207,
 v75:=Tryz.zeroValue207,
 t76:=Tryz.underlying208,
 a76:=Tryz.isAgg208,
 z76:=Tryz.sizeOf208,
 v76:=Tryz.zeroValue208,
 t109:=Tryz.underlying311,
 a109:=Tryz.isAgg311,
 z109:=Tryz.sizeOf311,
 v109:=Tryz.zeroValue311,
 t127:=Tryz.underlying268,
 a127:=Tryz.isAgg268,
 z127:=Tryz.sizeOf268,
 v127:=Tryz.zeroValue268,
 t146:=Tryz.underlying335,
 a146:=Tryz.isAgg335,
 z146:=Tryz.sizeOf335,
 v146:=Tryz.zeroValue335,
 t148:=Tryz.underlying337,
 a148:=Tryz.isAgg337,
 z148:=Tryz.sizeOf337,
 v148:=Tryz.zeroValue337,
 t164:=Tryz.underlying306,
 a164:=Tryz.isAgg306,
 z164:=Tryz.sizeOf306,
 v164:=Tryz.zeroValue306}
theorem ext105:Builder.Extra Tryz.prog wG:={
 sizeBuilder:=by kernel_rfl,
 liesBuilder:=by kernel_rfl,
 t5:=Tryz.underlying5,
 a5:=Tryz.isAgg5,
 z5:=Tryz.sizeOf5,
 v5:=Tryz.zeroValue5,
 infoByte:=by kernel_rfl,
 cellsByte:=by kernel_rfl,
 sizeByte:=by kernel_rfl,
 neB5:=by decide}
end Go.Proofs.YtjmkjicckobojaaGreatDoor
namespace Go.Proofs.YtjmkjicckobojaaGreatDoor
open Go.Abs Go.RowKit
theorem IT:(Tryz.prog).globalNamed "internal/strconv.uint64pow10" =some GT:=by kernel_rfl
theorem tab_is{w:World}(h:TabW w):Lib.TabIs Tryz.prog w "internal/strconv.uint64pow10" .u64 Lib.pow10Tab:=by
 obtain⟨t,z,h⟩:=h;unfold Lib.TabIs World.var?;rw[IT];show(match w.heap[GT]? with|some (.cells cs _ _)=>some cs|_=>none)=_;rw[h];rfl
theorem Fa(w:World)(k:Nat)(os:Array Obj):Below w.heap.size w (Sort.grow (w.drewN k) os):=
 ⟨rfl,rfl,rfl,by show w.heap.size<=(w.heap++os).size;simp,λi a=>by show(w.heap++os)[i]?=_;rw[Array.getElem?_append_left a]⟩
theorem KE(n:Nat)(h:n<=9223372036854775807):FS 129 [i64 n] (tx (Lib.decDigits n)):=by
 refine⟨ae (ak _) af,(Ay 0 δ).enters,λM w vals f a=>?_⟩;obtain⟨x,xs,rfl,i,d⟩:=a;have c:x= .int .i64 n:=i;have b:xs=[]:=d;subst c;subst b;have hc:=Any.strconv_Itoa lay171 (n:Int) ω ω w (tab_is f.tab);refine Calls.mono hc λe l ⟨j,k,os,g⟩=>⟨_,j,?_,?_⟩;show Value.string _=Value.string _;unfold Lib.itoa;rw[if_neg ω,Int.toNat_natCast];rw[g];exact Fa w k os
theorem Ey(z:UInt8)(n:Nat)(h:n<=100):FS 210 [tx [z],i64 n] (tx (List.replicate n z)):=by
 have j:∀(xs:Array Value) (w:World),(callFunc 210 xs).run Tryz.prog w= .ok (.enter 210 xs) w:=λxs w=>tM Tryz.func210 (c:=(Tryz.f210).body.get rfl) κ rfl xs w;refine⟨ae (ak _) (ae (ak _) af),j,λM w vals r a=>?_⟩;obtain⟨x,xs,rfl,l,y,m,rfl,i,f⟩:=a;have d:x= .string ⟨[z].toArray⟩:=l;have g:y= .int .i64 n:=i;have b:m=[]:=f;subst d;subst g;subst b;have hc:=Any.strings_Repeat lay105 ext105 ⟨[z].toArray⟩ n w ω (by simp[ByteArray.size];omega);refine Calls.mono hc λe q ⟨o,hb⟩=>⟨_,o,?_,hb⟩;show Value.string _=Value.string _;congr 2
 have:∀k,Lib.repeatL [z] k=List.replicate k z:=λk=>by
  induction k with
  |zero=>rfl
  |succ k p=>rw[Lib.repeatL,p,List.replicate_succ];rfl
 exact congrArg List.toArray (this n)
end Go.Proofs.YtjmkjicckobojaaGreatDoor
