/- Part V17 of the proof. -/
import Derived.Test.YtjkddcfoolilbaaGreatDoorV16
set_option linter.all false
namespace Go.Proofs.YtjkddcfoolilbaaGreatDoor
open Go.Abs
set_option maxRecDepth 20000
theorem jY_(z:Int):FS 183 [i64 z] (bln false):=by
 refine f_c Tryz.func183 ?_;refine r_z 1 ?_;refine r_z 4 ?_;refine af_ (aD_ rfl ?_ (ad_ _));simp[bln]
theorem jX_(z:Nat):FS 184 [u32 z] (bln false):=by
 refine f_c Tryz.func184 ?_;refine r_z 1 ?_;refine r_z 4 ?_;refine af_ (aD_ rfl ?_ (ad_ _));simp[bln]
theorem me_(a b:Int):FS 147 [i64 a,i64 b] (i64 (cmpZ a b)):=by
 refine f_c Tryz.func147 ?_;refine r_z 1 ?_;refine r_c 3 (jY_ a) ?_;refine a_z ?_;refine r_c 3 (jY_ b) ?_;refine a_z ?_;refine ab_ (r_z 1 ?_);refine aj_ rfl (fun h=>?_) (fun _=>ah_ ?_);cases h;refine ab_ (r_z 1 ?_);refine aj_ rfl (fun h=>?_) (fun _=>ah_ ?_);cases h;refine ab_ (r_z 3 ?_);refine aj_ rfl (fun h=>?_) (fun h=>ah_ ?_);refine r_z 1 ?_;refine af_ (aD_ rfl ?_ (ad_ _));simp at h;simp[i64,ofV,cmpZ,h];refine ab_ (r_z 3 ?_);refine aj_ rfl (fun h'=>?_) (fun h'=>ah_ ?_);refine r_z 1 ?_;refine af_ (aD_ rfl ?_ (ad_ _));simp at h h';simp[i64,ofV,cmpZ];omega;refine r_z 1 ?_;refine af_ (aD_ rfl ?_ (ad_ _));simp at h h';simp[i64,ofV,cmpZ];omega
theorem md_(a b:Nat):FS 148 [u32 a,u32 b] (i64 (cmpZ a b)):=by
 refine f_c Tryz.func148 ?_;refine r_z 1 ?_;refine r_c 3 (jX_ a) ?_;refine a_z ?_;refine r_c 3 (jX_ b) ?_;refine a_z ?_;refine ab_ (r_z 1 ?_);refine aj_ rfl (fun h=>?_) (fun _=>ah_ ?_);cases h;refine ab_ (r_z 1 ?_);refine aj_ rfl (fun h=>?_) (fun _=>ah_ ?_);cases h;refine ab_ (r_z 3 ?_);refine aj_ rfl (fun h=>?_) (fun h=>ah_ ?_);refine r_z 1 ?_;refine af_ (aD_ rfl ?_ (ad_ _));simp at h;simp[i64,ofV,cmpZ,h];refine ab_ (r_z 3 ?_);refine aj_ rfl (fun h'=>?_) (fun h'=>ah_ ?_);refine r_z 1 ?_;refine af_ (aD_ rfl ?_ (ad_ _));simp at h h';simp[i64,ofV,cmpZ];omega;refine r_z 1 ?_;refine af_ (aD_ rfl ?_ (ad_ _));simp at h h';simp[i64,ofV,cmpZ];omega
theorem digs_one{n:Nat}:(digs MB n).length=1∧(digs MB n)[0]?=some 1↔n=1:=by
 constructor;rintro⟨h1,h2⟩;have:=aV_ (b:=MB) (by decide) n
 match hd:digs MB n,h1,h2 with
 |[d],_,h2=>rw[hd] at this;simp at h2;subst h2;simpa[ofD] using this.symm
 rintro rfl;rw[cx_ (by decide) (by decide)];rw[show 1/ MB=0 by decide,bb_];simp
theorem fs_one(n:Nat):FS 165 [.agg [mag n]] (bln (n==1)):=by
 refine f_c Tryz.func165 ?_;refine r_z 2 ?_;by_cases h1:(digs MB n).length=1;obtain⟨d,hd⟩:∃d,(digs MB n)[0]?=some d:=⟨_,List.getElem?_eq_getElem (by omega)⟩;have hd':(dE (digs MB n))[(0:Int).toNat]?=some [u32 d]:=cc_ hd;refine s_r 12 ?_;refine a_5 ?_
 first|refine y_g rfl (by simp;omega) (.fieldAddr_l rfl TF.h (by decide)) ?_|refine y_g rfl (by simp;omega) (.fieldAddr_a rfl TF.h (by decide)) ?_
 first|refine y_g rfl (by simp;omega) (.load_l1 rfl rfl rfl TG.h rfl) ?_|refine y_g rfl (by simp;omega) (.load_a1 rfl rfl TG.h rfl) ?_
 first|refine y_g rfl (by simp;omega) (.index_l rfl rfl (by omega) (by omega) te_40.h) ?_|refine y_g rfl (by simp;omega) (.index_a rfl rfl (by omega) hd' rfl te_40.h) ?_
 first|refine y_g rfl (by simp;omega) (.load_l1 rfl rfl hd' TG.h rfl) ?_|refine y_g rfl (by simp;omega) (.load_a1 rfl hd' TG.h rfl) ?_
 refine y_g rfl (by simp;omega) (.bin rfl rfl a3_) ?_;refine o_0 (.pickT rfl (by simp;omega) rfl) ?_;refine a_z ?_;refine af_ (aD_ rfl ?_ (ad_ _));simp only[bln];congr 2;rw[Bool.eq_iff_iff];have:=digs_one (n:=n);simp only[h1,hd,true_and,Option.some.injEq] at this;simp only[beq_iff_eq,←this];omega;refine s_r 12 ?_;refine a_5 ?_;refine n_g rfl (by simp;omega) ?_;refine n_g rfl (by simp;omega) ?_;refine n_g rfl (by simp;omega) ?_;refine n_g rfl (by simp;omega) ?_;refine n_g rfl (by simp;omega) ?_;refine o_0 (.pickF rfl (by simp;omega) rfl) ?_;refine a_z ?_;refine af_ (aD_ rfl ?_ (ad_ _));simp only[bln,ofV];congr 2;symm;rw[beq_eq_false_iff_ne];intro h;exact h1 (digs_one.2 h).1
def nV_(n:Nat):Nat→AState
 |0=>⟨[(0,u64 n),(2,.lptr 1 0 0),(3,.emp)],[(1,some ⟨42,1,[[.emp]]⟩)],2,16⟩
 |k+1=>⟨[(0,u64 (restD n (k+1))),(2,.lptr 1 0 0),(3,.lsl 2 0 (k+1) none 1)],[(1,some ⟨42,1,[[.emp]]⟩),(2,some ⟨204,1,dE (preD n (k+1))⟩)],3,16⟩
theorem do_(n:Nat)(h:n< 18446744073709551616):FS 146 [u64 n] (.agg [mag n]):=by
 have hlen:(digs MB n).length≤3:=co_ (by decide) (Nat.lt_of_lt_of_le h (by decide));refine f_c Tryz.func146 ?_;refine r_z 1 ?_;refine r_z 1 ?_;refine aP_ (nV_ n) (fun k=>k=(digs MB n).length) ?_ ?_;refine ae_ (aq_ (nV_ n) (fun k=>(digs MB n).length- k) (fun k=>k≤(digs MB n).length) 0 (Nat.zero_le _) ?_ ?_);rw[nV_.eq_1];exact s_e [];rintro k hk;have hle:=restD_le hk;have hz:=restD_eq hk;have hpl:=fY_ hk;cases k with
 |zero=>
  rw[jK_] at hz;refine ab_ (r_z 2 ?_);refine aj_ rfl (fun h=>?_) (fun h=>?_);refine ah_ ?_;have h0:0< n:=by simpa using h
  have hl1:0< (digs MB n).length:=by omega
  obtain⟨hq,ht⟩:=jL_ hl1;rw[jK_] at hq ht;refine ab_ (ae_ (r_m 7 ?_));refine a_z ?_;refine r_m 3 ?_;refine a_z ?_;refine⟨1,by omega,hl1,?_⟩;rw[nV_.eq_2];refine s_x [(2,3)] (fun hs=>?_) (fun hs=>?_) ?_
  ·repeat' (first|exact aH_|refine ap_ rfl ?_ ?_|exact au_c|(refine Cv.loE hs ?_ (ad_ _);first|rfl|(simp[i64,u64,u32,bln,hq,ht,d1_];done)|(simp[i64,u64,u32,bln,hq,ht,d1_]<;> omega)))
  ·repeat' (first|exact az_|refine h_c ?_ ?_|exact au_e|(refine aF_ hs ?_ (aZ_ _);first|(simp[ef_,ff_,dz_,hq,ht,d1_];done)|(simp[dE,u32,ofV,hq,ht,d1_];done))|refine av_ ?_|exact an_|refine ai_ ?_ ?_|exact au_c|(refine Cv.loE hs ?_ (ad_ _);first|(simp[i64,u64,u32,bln,hq,ht,d1_];done)|(simp[i64,u64,u32,bln,hq,ht,d1_]<;> omega)))
  ·repeat' (first|exact ShrL.nil|refine ShrL.cons rfl rfl rfl rfl (by first|rfl|(simp;done)|(simp[hq,ht,d1_]<;> omega)) ?_)
  refine ao_ ⟨0,?_,?_⟩;have:¬0< n:=by simpa using h
  omega;rw[nV_.eq_1];exact s_e []
 |succ k=>
  rw[nV_.eq_2];refine ab_ (r_z 2 ?_);refine aj_ rfl (fun h=>?_) (fun h=>?_);refine ah_ ?_;have h0:0< restD n (k+1):=by simpa using h
  have hl1:k+1< (digs MB n).length:=by omega
  obtain⟨hq,ht⟩:=jL_ hl1;refine ab_ (ae_ (r_m 7 ?_));refine a_z ?_;refine r_m 3 ?_;refine a_z ?_;refine⟨k+1+1,by omega,hl1,?_⟩;rw[nV_.eq_2];refine s_x [(2,3)] (fun hs=>?_) (fun hs=>?_) ?_
  ·repeat' (first|exact aH_|refine ap_ rfl ?_ ?_|exact au_c|(refine Cv.loE hs ?_ (ad_ _);first|rfl|(simp[i64,u64,u32,bln,hq,ht,hpl];done)|(simp[i64,u64,u32,bln,hq,ht,hpl]<;> omega)))
  ·repeat' (first|exact az_|refine h_c ?_ ?_|exact au_e|(refine aF_ hs ?_ (aZ_ _);first|(simp[ef_,ff_,dz_,hq,ht,hpl];done)|(simp[dE,u32,ofV,hq,ht,hpl];done))|refine av_ ?_|exact an_|refine ai_ ?_ ?_|exact au_c|(refine Cv.loE hs ?_ (ad_ _);first|(simp[i64,u64,u32,bln,hq,ht,hpl];done)|(simp[i64,u64,u32,bln,hq,ht,hpl]<;> omega)))
  ·repeat' (first|exact ShrL.nil|refine ShrL.cons rfl rfl rfl rfl (by first|rfl|(simp;done)|(simp[hq,ht,hpl]<;> omega)) ?_)
  refine ao_ ⟨k+1,?_,?_⟩;have:¬0< restD n (k+1):=by simpa using h
  omega;rw[nV_.eq_2];exact s_e []
 rintro k rfl;cases hk:(digs MB n).length with
 |zero=>
  rw[nV_.eq_1];refine r_z 3 ?_;refine af_ (Fin.cell rfl rfl rfl TG.h TS.h (nle rfl) (Cv.agg (ai_ (Cv.emp _ ?_) an_)));unfold mag;rw[List.length_eq_zero_iff] at hk;rw[hk];rfl
 |succ k=>
  rw[nV_.eq_2];refine r_z 3 ?_;refine af_ (Fin.cell rfl rfl rfl TG.h TS.h (nle rfl) (Cv.agg (ai_ (Cv.shut ax_ rfl (fun _ _ h=>by cases h) ?_ ?_) an_)));simp[fY_ (Nat.le_of_eq hk.symm)];refine aF_ ax_ ?_ (aZ_ _);have h1:(preD n (k+1)).length=k+1:=fY_ (Nat.le_of_eq hk.symm);have h2:=preD_end n;rw[hk] at h2;simp only[List.drop_zero,sE_];rw[List.take_of_length_le (Nat.le_of_eq h1),h2]
def plusS(p:Nat)(q:Nat):List Nat×Nat→AState
 |(s,c)=>⟨[(26,i64 s.length),(25,i64 (digs MB p).length),(24,mag p),(2,.lptr 1 0 0),(3,.lptr 2 0 0),(4,.lptr 3 0 0),(5,.lsl 4 0 ((digs MB p).length+1) (some ((digs MB p).length+1)) 1),(6,u32 c)],
  [(1,some ⟨42,1,[[mag p]]⟩),(2,some ⟨42,1,[[mag q]]⟩),(3,some ⟨42,1,[[.emp]]⟩),(4,some ⟨204,1,dE (s++List.replicate ((digs MB p).length+1- s.length) 0)⟩)],5,63⟩
structure PlusI (p q:Nat)(a:List Nat×Nat):Prop where
 le:a.1.length≤(digs MB p).length
 dig:∀d∈a.1,d< MB
 car:a.2≤1
 val:ofD MB a.1+MB^ a.1.length* a.2=ofD MB ((digs MB p).take a.1.length)+ofD MB ((digs MB q).take a.1.length)
theorem na_(a b:Nat)(h:bl a+bl b≤17592186044416):FS 145 [.agg [mag a],.agg [mag b]] (.agg [mag (a+b)]):=by
 have hla:=aT_ (b:=MB) (by decide) a;have hlb:=aT_ (b:=MB) (by decide) b;refine f_c Tryz.func145 ?_;refine r_z 3 ?_;refine ab_ (r_z 7 ?_)
 refine aw_ (fun x:Nat×Nat=>⟨[(2,.lptr 1 0 0),(3,.lptr 2 0 0),(4,.lptr 3 0 0)],[(1,some ⟨42,1,[[mag x.1]]⟩),(2,some ⟨42,1,[[mag x.2]]⟩),(3,some ⟨42,1,[[.emp]]⟩)],4,63⟩)
  (fun x=>x.1+x.2=a+b∧(digs MB x.2).length≤(digs MB x.1).length∧(digs MB x.1).length≤17592186044416) ?_ ?_
 refine aj_ rfl (fun h=>?_) (fun h=>?_);refine r_m 4 ?_;refine a_z ?_;refine⟨(b,a),⟨by simp;omega,?_,by simp;omega⟩,?_⟩;simp at h;simp;omega;exact s_e [];refine ah_ ⟨(a,b),⟨rfl,?_,by simp;omega⟩,?_⟩;simp at h;simpa using h;exact s_e [];rintro⟨p,q⟩ ⟨hpq,hqp,hp⟩;simp only at hpq hqp hp⊢;refine r_z 6 ?_;refine r_z 1 ?_;refine ab_ (r_z 4 ?_);refine aw_ (plusS p q) (fun x=>PlusI p q x∧x.1.length=(digs MB p).length) ?_ ?_;refine ae_ (aq_ (plusS p q) (fun x=>(digs MB p).length- x.1.length) (PlusI p q) ([],0) ⟨by simp,by simp,by simp,by simp[ofD]⟩ ?_ ?_);rw[plusS.eq_1];exact s_e [(4,5)];rintro⟨s,c⟩ ⟨hle,hdig,hcar,hval⟩;simp only at hle hdig hcar hval;rw[plusS.eq_1];refine r_z 1 ?_;refine ab_ (aj_ rfl (fun h=>?_) (fun h=>?_));refine ah_ ?_;have hlt:s.length< (digs MB p).length:=by simpa using h
 obtain⟨x,hx⟩:∃x,(digs MB p)[s.length]?=some x:=⟨_,List.getElem?_eq_getElem hlt⟩;have hx1:x< 1000000000:=be_ (by decide) hx;have hx':(dE (digs MB p))[((s.length:Nat):Int).toNat]?=some [u32 x]:=cc_ hx;refine ab_ (ae_ (s_r 5 ?_));refine a_1 ?_;refine i_x hx' ?_;refine l_1 hx' ?_;refine a_z ?_;refine r_z 4 ?_;refine ab_ (r_z 5 ?_)
 have hq0:∀y,((digs MB q)[s.length]?.getD 0=y)→y< 1000000000:=by
  rintro y rfl;cases hy:(digs MB q)[s.length]? with
  |none=>decide
  |some y=>exact be_ (by decide) hy
 refine aw_ (fun v:Nat=>⟨[(26,i64 s.length),(25,i64 (digs MB p).length),(24,mag p),(2,.lptr 1 0 0),(3,.lptr 2 0 0),(4,.lptr 3 0 0),(5,.lsl 4 0 ((digs MB p).length+1) (some ((digs MB p).length+1)) 1),(7,i64 s.length),(8,u32 v)],
  [(1,some ⟨42,1,[[mag p]]⟩),(2,some ⟨42,1,[[mag q]]⟩),(3,some ⟨42,1,[[.emp]]⟩),(4,some ⟨204,1,dE (s++List.replicate ((digs MB p).length+1- s.length) 0)⟩)],5,63⟩)
  (fun v=>v=x+c+(digs MB q)[s.length]?.getD 0) ?_ ?_
 refine aj_ rfl (fun h=>?_) (fun h=>?_);have hlt2:s.length< (digs MB q).length:=by simpa using h
 obtain⟨y,hy⟩:∃y,(digs MB q)[s.length]?=some y:=⟨_,List.getElem?_eq_getElem hlt2⟩;have hy1:y< 1000000000:=be_ (by decide) hy;have hy':(dE (digs MB q))[((s.length:Nat):Int).toNat]?=some [u32 y]:=cc_ hy;refine r_m 8 ?_;refine a_4 ?_;refine i_x hy' ?_;refine l_1 hy' ?_;refine a_z ?_;refine⟨x+c+y,by rw[hy];rfl,?_⟩;exact s_e [];have hlt2:¬s.length< (digs MB q).length:=by simpa using h
 refine ah_ ⟨x+c,by rw[List.getElem?_eq_none (by omega)];rfl,?_⟩;exact s_e [];rintro v hv;obtain⟨y,hy⟩:∃y,y=(digs MB q)[s.length]?.getD 0:=⟨_,rfl⟩;have hy1:=hq0 y hy.symm;rw[←hy] at hv;refine r_z 1 ?_;refine ab_ (r_z 2 ?_)
 have hg:(dE (s++List.replicate ((digs MB p).length+1- s.length) 0))[0+((s.length:Nat):Int).toNat]?=some [u32 0]:=by
  rw[Nat.zero_add,Int.toNat_natCast];exact cc_ (by rw[show(digs MB p).length+1- s.length=((digs MB p).length- s.length)+1 by omega];exact ow_ _ _ _ rfl)
 have hset:∀w:Nat,(dE (s++List.replicate ((digs MB p).length+1- s.length) 0)).set (0+((s.length:Nat):Int).toNat) [u32 w]=dE ((s++[w])++List.replicate ((digs MB p).length+1- (s++[w]).length) 0):=by
  intro w;rw[Nat.zero_add,Int.toNat_natCast,ef_,show(digs MB p).length+1- s.length=((digs MB p).length- s.length)+1 by omega,nZ_ _ _ _ _ rfl,show(digs MB p).length+1- (s++[w]).length=(digs MB p).length- s.length by simp]
 have hnext:∀w c',w+1000000000* c'=x+c+y→w< 1000000000→c'≤1→PlusI p q (s++[w],c'):=by
  intro w c' hw hwb hc';refine⟨by simp;omega,?_,hc',?_⟩;intro d hd;rcases List.mem_append.1 hd with hd|hd
  exact hdig d hd;simp at hd;subst hd;exact hwb;simp only[List.length_append,List.length_singleton];rw[dI_,bk_ _ hx,cn_,←hy,Nat.pow_succ];have e:MB^ s.length* w+MB^ s.length* MB* c'=MB^ s.length* (w+MB* c'):=by rw[Nat.mul_add,Nat.mul_assoc]
  have e2:MB^ s.length* (x+c+y)=MB^ s.length* x+MB^ s.length* c+MB^ s.length* y:=by rw[Nat.mul_add,Nat.mul_add]
  rw[hw,e2] at e;omega
 refine aj_ rfl (fun h=>?_) (fun h=>?_);have hb:1000000000≤v:=by have:=of_decide_eq_true h;omega
 have hv1:((v:Int)- 1000000000)=((v- 1000000000:Nat):Int):=by omega
 refine r_m 4 ?_;refine a_z ?_;refine r_m 5 ?_;refine a_4 ?_;refine o_1n (.store rfl rfl hg rfl rfl rfl TS.h (nle rfl)) ?_;refine al_ ?_;refine r_m 2 ?_;refine a_z ?_;refine⟨(s++[v- 1000000000],1),by simp;omega,hnext _ _ (by omega) (by omega) (Nat.le_refl _),?_⟩;rw[plusS.eq_1];exact s_x [] (fun hs=>au_f) (fun hs=>e_20);have hb:v< 1000000000:=by have:=of_decide_eq_false h;omega
 refine ah_ (r_m 5 ?_);refine a_4 ?_;refine o_1n (.store rfl rfl hg rfl rfl rfl TS.h (nle rfl)) ?_;refine al_ ?_;refine r_m 2 ?_;refine a_z ?_;refine⟨(s++[v],0),by simp;omega,hnext _ _ (by omega) hb (by omega),?_⟩;rw[plusS.eq_1];exact s_x [] (fun hs=>au_f) (fun hs=>e_21);refine ao_ ⟨(s,c),⟨⟨hle,hdig,hcar,hval⟩,?_⟩,?_⟩;simp at h;simp;omega;rw[plusS.eq_1];exact s_e [];rintro⟨s,c⟩ ⟨⟨hle,hdig,hcar,hval⟩,hlen⟩;simp only at hle hdig hcar hval hlen
 have hg:(dE (s++List.replicate ((digs MB p).length+1- s.length) 0))[0+(((digs MB p).length:Nat):Int).toNat]?=some [u32 0]:=by
  rw[Nat.zero_add,Int.toNat_natCast,←hlen];exact cc_ (by rw[show s.length+1- s.length=0+1 by omega];exact ow_ _ _ _ rfl)
 have hset:(dE (s++List.replicate ((digs MB p).length+1- s.length) 0)).set (0+(((digs MB p).length:Nat):Int).toNat) [u32 c]=dE (s++[c]):=by
  rw[Nat.zero_add,Int.toNat_natCast,←hlen,ef_,show s.length+1- s.length=0+1 by omega,nZ_ _ _ _ _ rfl];simp
 have hres:trimD (s++[c])=digs MB (a+b):=by
  rw[ez_ (b:=MB) (by decide),dI_,hval,dw_ _ (by omega),dw_ _ (by omega),aV_ (by decide),aV_ (by decide),hpq];intro d hd;rcases List.mem_append.1 hd with hd|hd
  exact hdig d hd;simp at hd;subst hd;show d< 1000000000;omega
 rw[plusS.eq_1];refine s_r 7 ?_;refine a_6 ?_;refine o_1n (.store rfl rfl hg rfl rfl rfl TS.h (nle rfl)) ?_;refine al_ ?_;refine AWp.ent (st':=⟨[(4,.lptr 3 0 0),(5,.arr (dE (s++[c])))],[(3,some ⟨42,1,[[.emp]]⟩)],4,63⟩) ?_ ?_;refine s_x [] (fun hs=>?_) (fun hs=>?_)
 ·repeat' (first|exact aH_|refine ap_ rfl ?_ ?_|exact Cv.sealE hs rfl (aK_ rfl) hset (by simp[hlen]) (aZ_ _)|exact au_c)
 ·repeat' (first|exact az_|refine h_c ?_ ?_|exact au_e|refine av_ ?_|exact an_|refine ai_ ?_ ?_|exact Cv.sealE hs rfl (aK_ rfl) hset (by simp[hlen]) (aZ_ _)|exact au_c)
 refine s_r 3 ?_;refine o_0 (.move rfl) ?_;refine o_0 (.call rfl rfl rfl (dP_ _ (by simp;omega))) ?_;refine a_z ?_;refine af_ (bQ_ rfl rfl rfl TG.h TS.h (nle rfl) ?_ (ay_ (aa_ (a5_ _) ac_)));rw[hres];rfl
def agS(a:Nat)(b:Nat):Nat→AState
 |k=>⟨[(2,.lptr 1 0 0),(3,.lptr 2 0 0),(6,i64 ((k:Int)- 1))],[(1,some ⟨42,1,[[mag a]]⟩),(2,some ⟨42,1,[[mag b]]⟩)],3,40⟩
theorem gX_(a b:Nat)(h:bl a+bl b≤17592186044416):FS 80 [.agg [mag a],.agg [mag b]] (i64 (cmpZ a b)):=by
 have hla:=aT_ (b:=MB) (by decide) a;have hlb:=aT_ (b:=MB) (by decide) b;refine f_c Tryz.func80 ?_;refine r_z 3 ?_;refine ab_ (r_c 8 (me_ _ _) ?_);refine a_z ?_;refine r_z 2 ?_;refine aj_ rfl (fun h=>?_) (fun h=>?_);have hne:cmpZ (digs MB a).length (digs MB b).length≠0:=by simpa using h
 refine r_z 2 ?_;refine af_ (aD_ rfl ?_ (ad_ _));unfold i64;congr 2;rw[k8_] at hne;rcases Nat.lt_or_ge (digs MB a).length (digs MB b).length with hl|hl
 have:=ep_ (by decide) hl;rw[gc_ (by omega),gc_ (by omega)];have:=ep_ (m:=b) (n:=a) (b:=MB) (by decide) (by omega);rw[hr_ (by omega),hr_ (by omega)]
 have heq:(digs MB a).length=(digs MB b).length:=by
  have h0:¬cmpZ (digs MB a).length (digs MB b).length≠0:=by simpa using h
  rw[k8_] at h0;omega
 refine ah_ (ab_ (r_z 5 ?_));refine aw_ (agS a b) (fun k=>k=0∧a=b) ?_ ?_;refine ae_ (aq_ (agS a b) (fun k=>k) (fun k=>k≤(digs MB a).length∧(digs MB a).drop k=(digs MB b).drop k) (digs MB a).length ⟨Nat.le_refl _,by rw[List.drop_length,heq,List.drop_length]⟩ ?_ ?_);rw[agS.eq_1];exact s_e [];rintro k ⟨hk,hd⟩;rw[agS.eq_1];refine ab_ (r_z 2 ?_);refine aj_ rfl (fun h=>?_) (fun h=>?_);have hk0:0< k:=by have:=of_decide_eq_true h;omega
 obtain⟨x,hx⟩:∃x,(digs MB a)[k- 1]?=some x:=⟨_,List.getElem?_eq_getElem (by omega)⟩;obtain⟨y,hy⟩:∃y,(digs MB b)[k- 1]?=some y:=⟨_,List.getElem?_eq_getElem (by omega)⟩;have hx':(dE (digs MB a))[((k:Int)- 1).toNat]?=some [u32 x]:=by rw[show((k:Int)- 1).toNat=k- 1 by omega];exact cc_ hx
 have hy':(dE (digs MB b))[((k:Int)- 1).toNat]?=some [u32 y]:=by rw[show((k:Int)- 1).toNat=k- 1 by omega];exact cc_ hy
 rw[show k=(k- 1)+1 by omega] at hd;refine ah_ (ab_ (ae_ (ab_ (r_d hmix 12 ?_))));refine a_3 ?_;refine i_x hx' ?_;refine l_1 hx' ?_;refine a_3 ?_;refine i_x hy' ?_;refine l_1 hy' ?_;refine c_s (md_ x y) ?_;refine a_1 ?_;refine al_ (n_k ?_);refine r_z 2 ?_;refine aj_ rfl (fun h2=>?_) (fun h2=>?_);have hne:cmpZ x y≠0:=by simpa using h2
 refine r_z 2 ?_;refine af_ (aD_ rfl ?_ (ad_ _));unfold i64;congr 2;rw[k8_] at hne;rcases Nat.lt_or_ge x y with hl|hl
 have:=gr_ (b:=MB) (bT_ (by decide) a) hx hy hd hl;rw[aV_ (by decide),aV_ (by decide)] at this;rw[gc_ (by omega),gc_ (by omega)];have:=gr_ (b:=MB) (bT_ (by decide) b) hy hx hd.symm (by omega);rw[aV_ (by decide),aV_ (by decide)] at this;rw[hr_ (by omega),hr_ (by omega)]
 have hxy:x=y:=by
  have h0:¬cmpZ x y≠0:=by simpa using h2
  rw[k8_] at h0;omega
 refine ah_ (r_m 3 ?_);refine a_z ?_;refine⟨k- 1,by omega,⟨by omega,?_⟩,?_⟩;rw[db_ hx,db_ hy,hd,hxy];rw[agS.eq_1];exact s_e [];have hk0:k=0:=by have:=of_decide_eq_false h;omega
 subst hk0;refine ao_ ⟨0,⟨rfl,?_⟩,?_⟩;have:=congrArg (ofD MB) hd;rwa[List.drop_zero,List.drop_zero,aV_ (by decide),aV_ (by decide)] at this;rw[agS.eq_1];exact s_e [];rintro k ⟨rfl,hab⟩;rw[agS.eq_1];refine r_z 1 ?_;refine af_ (aD_ rfl ?_ (ad_ _));subst hab;rw[sK_ rfl];rfl
def leS(a:Nat)(b:Nat):List Nat×Nat→AState
 |(s,c)=>⟨[(19,i64 s.length),(18,i64 (digs MB a).length),(2,.lptr 1 0 0),(3,.lptr 2 0 0),(4,.lptr 3 0 0),(5,.lsl 4 0 (digs MB a).length (some (digs MB a).length) 1),(6,u32 c)],
  [(1,some ⟨42,1,[[mag a]]⟩),(2,some ⟨42,1,[[mag b]]⟩),(3,some ⟨42,1,[[.emp]]⟩),(4,some ⟨204,1,dE (s++(digs MB a).drop s.length)⟩)],5,61⟩
def leT(n:Nat):List Nat×Unit→AState
 |(o,u)=>⟨[(4,.lptr 3 0 0),(5,.lsl 4 0 n (some n) 1)],
  [(3,some ⟨42,1,[[.emp]]⟩),(4,some ⟨204,1,dE o⟩)],5,61⟩
structure LessI (a b:Nat)(x:List Nat×Nat):Prop where
 le:x.1.length≤(digs MB a).length
 dig:∀d∈x.1,d< MB
 car:x.2≤1
 val:ofD MB x.1+ofD MB ((digs MB b).take x.1.length)=ofD MB ((digs MB a).take x.1.length)+MB^ x.1.length* x.2
theorem nd_(a b:Nat)(h:bl a≤17592186044416)(hba:b≤a):FS 167 [.agg [mag a],.agg [mag b]] (.agg [mag (a- b)]):=by
 have hla:=aT_ (b:=MB) (by decide) a;have hlen:=os_ (b:=MB) (by decide) hba;have va:=aV_ (b:=MB) (by decide) a;have vb:=aV_ (b:=MB) (by decide) b;refine f_c Tryz.func167 ?_;refine r_z 3 ?_;refine r_z 5 ?_;refine s_r 4 ?_;refine a_3 ?_;refine o_1 (.copy rfl rfl rfl te_40.h rfl rfl rfl (by first|(simp;done)|(simp;omega)) (by first|exact cU_ _|exact cT_ _|exact ci_ _|exact cV_ _|exact cD_ _|rfl|simp) rfl (.arr (nv_ _))) ?_;refine al_ ?_
 have hcp:setAt (List.replicate (digs MB a).length [ofV (Value.int IntKind.u32 0)]) 0 (List.take (Nat.min (dE (digs MB a)).length (digs MB a).length) (dE (digs MB a)))=dE ([]++(digs MB a).drop 0):=by
  rw[qJ_];rw[List.take_of_length_le (by simp)];rfl;simp
 refine r_z 1 ?_;refine ab_ (r_z 3 ?_);refine aw_ (leT (digs MB a).length) (fun x=>(∀d∈x.1,d< MB)∧x.1.length=(digs MB a).length∧ofD MB x.1=a- b) ?_ ?_;refine ae_ (aq_ (leS a b) (fun x=>(digs MB a).length- x.1.length) (LessI a b) ([],0) ⟨by simp,by simp,by simp,by simp[ofD]⟩ ?_ ?_);rw[leS.eq_1];exact s_x [(4,5)] (fun hs=>au_f) (fun hs=>e_23) e_22;rintro⟨s,c⟩ ⟨hle,hdig,hcar,hval⟩;simp only at hle hdig hcar hval;rw[leS.eq_1];refine r_z 1 ?_;refine ab_ (aj_ rfl (fun h=>?_) (fun h=>?_));have hlt:s.length< (digs MB a).length:=by have:=of_decide_eq_true h;omega
 obtain⟨x,hx⟩:∃x,(digs MB a)[s.length]?=some x:=⟨_,List.getElem?_eq_getElem hlt⟩;have hx1:x< 1000000000:=be_ (by decide) hx;have hdx:=db_ hx;refine ah_ (ab_ (ae_ (r_z 2 ?_)));refine r_z 2 ?_;refine ab_ (r_z 5 ?_)
 refine aw_ (fun v:Nat=>⟨[(19,i64 s.length),(18,i64 (digs MB a).length),(2,.lptr 1 0 0),(3,.lptr 2 0 0),(4,.lptr 3 0 0),(5,.lsl 4 0 (digs MB a).length (some (digs MB a).length) 1),(6,u32 c),(7,i64 s.length),(8,u32 v)],
  [(1,some ⟨42,1,[[mag a]]⟩),(2,some ⟨42,1,[[mag b]]⟩),(3,some ⟨42,1,[[.emp]]⟩),(4,some ⟨204,1,dE (s++(digs MB a).drop s.length)⟩)],5,61⟩)
  (fun v=>v=c+(digs MB b)[s.length]?.getD 0∧v≤1000000000) ?_ ?_
 refine aj_ rfl (fun h=>?_) (fun h=>?_);have hlt2:s.length< (digs MB b).length:=by have:=of_decide_eq_true h;omega
 obtain⟨y,hy⟩:∃y,(digs MB b)[s.length]?=some y:=⟨_,List.getElem?_eq_getElem hlt2⟩;have hy1:y< 1000000000:=be_ (by decide) hy;have hy':(dE (digs MB b))[((s.length:Nat):Int).toNat]?=some [u32 y]:=cc_ hy;refine r_m 8 ?_;refine a_4 ?_;refine i_x hy' ?_;refine l_1 hy' ?_;refine a_z ?_;refine⟨c+y,⟨by rw[hy];rfl,by omega⟩,?_⟩;exact s_e [];have hlt2:¬s.length< (digs MB b).length:=by have:=of_decide_eq_false h;omega
 refine r_z 2 ?_;refine aj_ rfl (fun h=>?_) (fun h=>?_);have hc0:c=0:=by simpa using h
 refine ao_ ⟨(s++(digs MB a).drop s.length,()),⟨?_,by simp;omega,?_⟩,?_⟩;intro d hd;rcases List.mem_append.1 hd with hd|hd
 exact hdig d hd;exact bT_ (by decide) a d (List.mem_of_mem_drop hd);have:=bU_ MB s.length (digs MB a) (by omega);rw[va] at this;rw[dw_ _ (by omega),vb,hc0] at hval;simp only[dg_];omega;rw[leT.eq_1];exact s_e [];refine ah_ ⟨c,⟨by rw[List.getElem?_eq_none (by omega)];rfl,by omega⟩,?_⟩;exact s_e [];rintro v ⟨hv,hv1⟩;obtain⟨y,hy⟩:∃y,y=(digs MB b)[s.length]?.getD 0:=⟨_,rfl⟩;rw[←hy] at hv
 have hg:(dE (s++(digs MB a).drop s.length))[0+((s.length:Nat):Int).toNat]?=some [u32 x]:=by
  rw[Nat.zero_add,Int.toNat_natCast,hdx];exact cc_ (iT_ _ _ _ _ rfl)
 have hset:∀w:Nat,(dE (s++(digs MB a).drop s.length)).set (0+((s.length:Nat):Int).toNat) [u32 w]=dE ((s++[w])++(digs MB a).drop (s++[w]).length):=by
  intro w;rw[Nat.zero_add,Int.toNat_natCast,ef_,hdx,iq_ _ _ _ _ _ rfl];simp
 have hnext:∀w c',w+v=x+1000000000* c'→w< 1000000000→c'≤1→LessI a b (s++[w],c'):=by
  intro w c' hw hwb hc';refine⟨by simp;omega,?_,hc',?_⟩;intro d hd;rcases List.mem_append.1 hd with hd|hd
  exact hdig d hd;simp at hd;subst hd;exact hwb;simp only[List.length_append,List.length_singleton];rw[dI_,bk_ _ hx,cn_,←hy,Nat.pow_succ];have e:MB^ s.length* (w+v)=MB^ s.length* (x+MB* c'):=by rw[hw]
  rw[hv,Nat.mul_add,Nat.mul_add,Nat.mul_add,←Nat.mul_assoc] at e;omega
 refine r_z 1 ?_;refine ab_ (s_r 6 ?_);refine a_2 ?_
 first|refine aA_ (.index_l rfl rfl (by omega) (by omega) te_40.h) rfl rfl ?_|refine aA_ (.index_a rfl rfl (by omega) hg rfl te_40.h) rfl rfl ?_
 first|refine aA_ (.load_l1 rfl rfl hg TG.h rfl) rfl rfl ?_|refine aA_ (.load_a1 rfl hg TG.h rfl) rfl rfl ?_
 refine a_z ?_;refine aj_ rfl (fun h=>?_) (fun h=>?_);have hb:x< v:=by have:=of_decide_eq_true h;omega
 have hv2:((x:Int)+1000000000- v)=((x+1000000000- v:Nat):Int):=by omega
 have hv3:((x:Int)+1000000000)=((x+1000000000:Nat):Int):=by omega
 refine r_m 10 ?_;refine a_5 ?_
 first|refine aA_ (.load_l1 rfl rfl hg TG.h rfl) rfl rfl ?_|refine aA_ (.load_a1 rfl hg TG.h rfl) rfl rfl ?_
 refine a_2 ?_;refine o_1n (.store rfl rfl hg rfl rfl rfl TS.h (nle rfl)) ?_;refine a_z ?_
 refine AWp.ent (st':=⟨[(19,i64 s.length),(18,i64 (digs MB a).length),(2,.lptr 1 0 0),(3,.lptr 2 0 0),(4,.lptr 3 0 0),(5,.lsl 4 0 (digs MB a).length (some (digs MB a).length) 1),(6,u32 1),(7,i64 s.length),(8,u32 v)],
  [(1,some ⟨42,1,[[mag a]]⟩),(2,some ⟨42,1,[[mag b]]⟩),(3,some ⟨42,1,[[.emp]]⟩),(4,some ⟨204,1,dE (s++(x+1000000000)::(digs MB a).drop (s.length+1))⟩)],5,61⟩) ?_ ?_
 refine s_x [] (fun hs=>au_f) (fun hs=>?_)
 ·repeat' (first|exact az_|refine h_c ?_ ?_|(refine aF_ hs ?_ (aZ_ _);rw[hv3];exact(hset _).trans (by simp))|exact au_e)
 have hg2:(dE (s++(x+1000000000)::(digs MB a).drop (s.length+1)))[0+((s.length:Nat):Int).toNat]?=some [u32 (x+1000000000)]:=by
  rw[Nat.zero_add,Int.toNat_natCast];exact cc_ (iT_ _ _ _ _ rfl)
 have hset2:∀w:Nat,(dE (s++(x+1000000000)::(digs MB a).drop (s.length+1))).set (0+((s.length:Nat):Int).toNat) [u32 w]=dE ((s++[w])++(digs MB a).drop (s++[w]).length):=by
  intro w;rw[Nat.zero_add,Int.toNat_natCast,ef_,iq_ _ _ _ _ _ rfl];simp
 have hv2:(((x+1000000000:Nat):Int)- v)=((x+1000000000- v:Nat):Int):=by omega
 refine r_m 8 ?_;refine a_2 ?_
 first|refine aA_ (.index_l rfl rfl (by omega) (by omega) te_40.h) rfl rfl ?_|refine aA_ (.index_a rfl rfl (by omega) hg2 rfl te_40.h) rfl rfl ?_
 first|refine aA_ (.load_l1 rfl rfl hg2 TG.h rfl) rfl rfl ?_|refine aA_ (.load_a1 rfl hg2 TG.h rfl) rfl rfl ?_
 refine a_3 ?_;refine o_1n (.store rfl rfl hg2 rfl rfl rfl TS.h (nle rfl)) ?_;refine al_ ?_;refine r_m 2 ?_;refine a_z ?_;refine⟨(s++[x+1000000000- v],1),by simp;omega,hnext _ _ (by omega) (by omega) (by omega),?_⟩;rw[leS.eq_1];refine s_x [] (fun hs=>au_f) (fun hs=>?_)
 ·repeat' (first|exact az_|refine h_c ?_ ?_|(refine aF_ hs ?_ (aZ_ _);rw[hv2];exact hset2 _)|exact au_e)
 have hb:v≤x:=by have:=of_decide_eq_false h;omega
 have hv1:((x:Int)- v)=((x- v:Nat):Int):=by omega
 refine ah_ (r_m 8 ?_);refine a_2 ?_
 first|refine aA_ (.index_l rfl rfl (by omega) (by omega) te_40.h) rfl rfl ?_|refine aA_ (.index_a rfl rfl (by omega) hg rfl te_40.h) rfl rfl ?_
 first|refine aA_ (.load_l1 rfl rfl hg TG.h rfl) rfl rfl ?_|refine aA_ (.load_a1 rfl hg TG.h rfl) rfl rfl ?_
 refine a_3 ?_;refine o_1n (.store rfl rfl hg rfl rfl rfl TS.h (nle rfl)) ?_;refine al_ ?_;refine r_m 2 ?_;refine a_z ?_;refine⟨(s++[x- v],0),by simp;omega,hnext _ _ (by omega) (by omega) (by omega),?_⟩;rw[leS.eq_1];exact s_x [] (fun hs=>au_f) (fun hs=>e_20);have hl:s.length=(digs MB a).length:=by have:=of_decide_eq_false h;omega
 refine ao_ ⟨(s,()),⟨hdig,hl,?_⟩,?_⟩;have h1:=dx_ hdig;rw[hl,dw_ _ hlen,dw_ _ (Nat.le_refl _),va,vb] at hval;rw[hl] at h1
 have h2:c=0:=by
  rcases Nat.eq_zero_or_pos c with h|h
  exact h;have:MB^ (digs MB a).length* 1≤MB^ (digs MB a).length* c:=Nat.mul_le_mul_left _ h;omega
 subst h2;simp at hval⊢;omega;rw[leT.eq_1];refine s_x [] (fun hs=>?_) (fun hs=>?_) ?_
 ·repeat' (first|exact aH_|refine ap_ rfl ?_ ?_|exact au_c|(refine Cv.loE hs ?_ (ad_ _);first|rfl|(simp[i64,u64,u32,bln,hl];done)|(simp[i64,u64,u32,bln,hl]<;> omega)))
 ·repeat' (first|exact az_|refine h_c ?_ ?_|exact au_e|(refine aF_ hs ?_ (aZ_ _);first|(simp[ef_,ff_,dz_,hl];done)|(simp[dE,u32,ofV,hl];done))|refine av_ ?_|exact an_|refine ai_ ?_ ?_|exact au_c|(refine Cv.loE hs ?_ (ad_ _);first|(simp[i64,u64,u32,bln,hl];done)|(simp[i64,u64,u32,bln,hl]<;> omega)))
 ·repeat' (first|exact ShrL.nil|refine ShrL.cons rfl rfl rfl rfl (by first|rfl|(simp;done)|(simp[hl]<;> omega)) ?_)
 rintro⟨o,u⟩ ⟨hd,hl,hv⟩;rw[leT.eq_1];refine AWp.ent (st':=⟨[(4,.lptr 3 0 0),(5,.arr (dE o))],[(3,some ⟨42,1,[[.emp]]⟩)],4,61⟩) ?_ ?_;refine s_x [] (fun hs=>?_) (fun hs=>?_)
 ·repeat' (first|exact aH_|refine ap_ rfl ?_ ?_|exact Cv.sealE hs rfl (aK_ rfl) rfl (by simp[hl]) (aZ_ _)|exact au_c)
 ·repeat' (first|exact az_|refine h_c ?_ ?_|exact au_e|refine av_ ?_|exact an_|refine ai_ ?_ ?_|exact Cv.sealE hs rfl (aK_ rfl) rfl (by simp[hl]) (aZ_ _)|exact au_c)
 simp only at hl hv;refine s_r 3 ?_;refine o_0 (.move rfl) ?_;refine o_0 (.call rfl rfl rfl (dP_ _ (by omega))) ?_;refine o_1n (.store rfl rfl rfl rfl rfl rfl TS.h (nle rfl)) ?_;refine al_ ?_;refine af_ (bQ_ rfl rfl rfl TG.h TS.h (nle rfl) ?_ (ay_ (aa_ (a5_ _) ac_)));rw[ez_ (b:=MB) (by decide) hd,hv];rfl
def tiS(a:Nat)(b:Nat):List Nat×Nat→AState
 |(o,i)=>⟨[(22,i64 i),(21,i64 (digs MB a).length),(20,mag a),(3,.lptr 2 0 0),(4,.lptr 3 0 0),(5,.lsl 4 0 ((digs MB a).length+(digs MB b).length) (some ((digs MB a).length+(digs MB b).length)) 1)],
  [(2,some ⟨42,1,[[mag b]]⟩),(3,some ⟨42,1,[[.emp]]⟩),(4,some ⟨204,1,dE o⟩)],5,73⟩
def tiT(a:Nat)(b:Nat)(i:Nat)(x:Nat):List Nat×Nat×Nat→AState
 |(o,k,c)=>⟨[(22,i64 i),(21,i64 (digs MB a).length),(20,mag a),(3,.lptr 2 0 0),(4,.lptr 3 0 0),(5,.lsl 4 0 ((digs MB a).length+(digs MB b).length) (some ((digs MB a).length+(digs MB b).length)) 1),(6,i64 i),(7,u32 x),(8,u64 c),(30,i64 k),(29,i64 (digs MB b).length),(28,mag b)],
  [(2,some ⟨42,1,[[mag b]]⟩),(3,some ⟨42,1,[[.emp]]⟩),(4,some ⟨204,1,dE o⟩)],5,73⟩
structure TimesI (a b:Nat)(x:List Nat×Nat):Prop where
 len:x.1.length=(digs MB a).length+(digs MB b).length
 le:x.2≤(digs MB a).length
 dig:∀d∈x.1,d< MB
 val:ofD MB x.1=ofD MB ((digs MB a).take x.2) * b
 zer:∀j,x.2+(digs MB b).length≤j→j< x.1.length→x.1[j]?=some 0
structure TimesJ (a b i v:Nat)(x:List Nat×Nat×Nat):Prop where
 len:x.1.length=(digs MB a).length+(digs MB b).length
 le:x.2.1≤(digs MB b).length
 dig:∀d∈x.1,d< MB
 car:x.2.2< MB
 val:ofD MB x.1+MB^ (i+x.2.1) * x.2.2=ofD MB ((digs MB a).take i) * b+MB^ i* v* ofD MB ((digs MB b).take x.2.1)
 zer:∀j,i+(digs MB b).length≤j→j< x.1.length→x.1[j]?=some 0
theorem dn_(a b:Nat)(h:bl a+bl b≤17592186044416):FS 78 [.agg [mag a],.agg [mag b]] (.agg [mag (a* b)]):=by
 have hla:=aT_ (b:=MB) (by decide) a;have hlb:=aT_ (b:=MB) (by decide) b;have va:=aV_ (b:=MB) (by decide) a;have vb:=aV_ (b:=MB) (by decide) b;refine f_c Tryz.func78 ?_;refine r_z 3 ?_;refine r_z 9 ?_;refine ab_ (r_z 4 ?_);refine aw_ (tiS a b) (fun x=>TimesI a b x∧x.2=(digs MB a).length) ?_ ?_;refine ae_ (aq_ (tiS a b) (fun x=>(digs MB a).length- x.2) (TimesI a b) (List.replicate ((digs MB a).length+(digs MB b).length) 0,0) ⟨by simp,by simp,?_,by simp[iC_,ofD],?_⟩ ?_ ?_);intro d hd;simp at hd;rw[hd.2];decide;intro j _ hj;simp at hj;simp[hj];rw[tiS.eq_1];exact s_e [(4,5)];rintro⟨o,i⟩ ⟨hlen,hle,hdig,hval,hzer⟩;simp only at hlen hle hdig hval hzer;rw[tiS.eq_1];refine r_z 1 ?_;refine ab_ (aj_ rfl (fun h=>?_) (fun h=>?_));have hlt:i< (digs MB a).length:=by have:=of_decide_eq_true h;omega
 obtain⟨x,hx⟩:∃x,(digs MB a)[i]?=some x:=⟨_,List.getElem?_eq_getElem hlt⟩;have hx1:x< 1000000000:=be_ (by decide) hx;have hx':(dE (digs MB a))[((i:Nat):Int).toNat]?=some [u32 x]:=cc_ hx;refine ah_ (ab_ (ae_ (s_r 5 ?_)));refine a_1 ?_;refine i_x hx' ?_;refine l_1 hx' ?_;refine a_z ?_;refine r_z 1 ?_;refine ab_ (r_z 4 ?_);refine aw_ (tiT a b i x) (fun y=>TimesJ a b i x y∧y.2.1=(digs MB b).length) ?_ ?_;refine ae_ (aq_ (tiT a b i x) (fun y=>(digs MB b).length- y.2.1) (TimesJ a b i x) (o,0,0) ⟨hlen,by simp,hdig,(show 0< MB by decide),by simp[hval,ofD],hzer⟩ ?_ ?_);rw[tiT.eq_1];exact s_e [];rintro⟨q,k,c⟩ ⟨jlen,jle,jdig,jcar,jval,jzer⟩;simp only at jlen jle jdig jcar jval jzer;rw[tiT.eq_1];refine r_z 1 ?_;refine ab_ (aj_ rfl (fun h=>?_) (fun h=>?_));have hltk:k< (digs MB b).length:=by have:=of_decide_eq_true h;omega
 obtain⟨y,hy⟩:∃y,(digs MB b)[k]?=some y:=⟨_,List.getElem?_eq_getElem hltk⟩;have hy1:y< 1000000000:=be_ (by decide) hy;have hy':(dE (digs MB b))[((k:Nat):Int).toNat]?=some [u32 y]:=cc_ hy;obtain⟨d,hd⟩:∃d,q[i+k]?=some d:=⟨_,List.getElem?_eq_getElem (by omega)⟩;have hd1:d< 1000000000:=jdig d (List.mem_of_getElem? hd);have hc1:c< 1000000000:=jcar;have hg:(dE q)[0+(((i:Int)+k)).toNat]?=some [u32 d]:=by rw[show 0+((i:Int)+k).toNat=i+k by omega];exact cc_ hd
 have hset:∀w:Nat,(dE q).set (0+(((i:Int)+k)).toNat) [u32 w]=dE (q.set (i+k) w):=by intro w;rw[show 0+((i:Int)+k).toNat=i+k by omega,ef_]
 have hxy0:x* y≤999999999* 999999999:=Nat.mul_le_mul (by omega) (by omega);have hxyn:0≤(x:Int) * y:=Int.mul_nonneg (by omega) (by omega);have hxyi:(x:Int) * y=((x* y:Nat):Int):=by push_cast;rfl
 refine ah_ (ab_ (ae_ (s_r 5 ?_)));refine a_1 ?_;refine i_x hy' ?_;refine l_1 hy' ?_;refine a_z ?_;refine s_r 16 ?_;refine a_8 ?_;refine a_2 ?_
 first|refine aA_ (.index_l rfl rfl (by omega) (by omega) te_40.h) rfl rfl ?_|refine aA_ (.index_a rfl rfl (by omega) hg rfl te_40.h) rfl rfl ?_
 first|refine aA_ (.load_l1 rfl rfl hg TG.h rfl) rfl rfl ?_|refine aA_ (.load_a1 rfl hg TG.h rfl) rfl rfl ?_
 refine a_z ?_;refine r_m 12 ?_;refine a_8 ?_;refine a_2 ?_;refine o_1n (.store rfl rfl hg rfl rfl rfl TS.h (nle rfl)) ?_;refine a_z ?_;refine r_m 2 ?_;refine a_z ?_;have hm:((c:Int)+((x:Int) * y+d)) % 1000000000=(((c+(x* y+d)) % 1000000000:Nat):Int):=by rw[hxyi];omega
 have hq:((c:Int)+((x:Int) * y+d)) / 1000000000=(((c+(x* y+d)) / 1000000000:Nat):Int):=by rw[hxyi];omega
 refine⟨(q.set (i+k) ((c+(x* y+d)) % 1000000000),k+1,(c+(x* y+d)) / 1000000000),by simp;omega,⟨by simp[jlen],by simp;omega,kz_ jdig (Nat.mod_lt _ (by decide)),?_,?_,?_⟩,?_⟩;show _< 1000000000;simp only;omega;simp only;have e1:=iD_ MB ((c+(x* y+d)) % 1000000000) hd;have e2:=Nat.mod_add_div (c+(x* y+d)) 1000000000
 have e3:MB^ (i+k) * ((c+(x* y+d)) % 1000000000)+MB^ (i+(k+1)) * ((c+(x* y+d)) / 1000000000)=MB^ (i+k) * c+(MB^ (i+k) * (x* y)+MB^ (i+k) * d):=by
  rw[←Nat.add_assoc i k 1,Nat.pow_succ,Nat.mul_assoc,←Nat.mul_add,show MB* ((c+(x* y+d)) / 1000000000)=1000000000* ((c+(x* y+d)) / 1000000000) from rfl,e2,Nat.mul_add,Nat.mul_add]
 have e4:MB^ i* x* ofD MB ((digs MB b).take (k+1))=MB^ i* x* ofD MB ((digs MB b).take k)+MB^ (i+k) * (x* y):=by
  rw[bk_ _ hy,Nat.mul_add];congr 1;rw[Nat.pow_add];simp only[Nat.mul_assoc,Nat.mul_left_comm,Nat.mul_comm]
 rw[e4];omega;intro j hj hj2;rw[List.getElem?_set_ne (by omega)];exact jzer j hj (by simpa using hj2);rw[tiT.eq_1];refine s_x [] (fun hs=>?_) (fun hs=>?_)
 ·repeat' (first|exact aH_|refine ap_ rfl ?_ ?_|exact Cv.loE hs (congrArg (fun z=>AV.v (.int .u64 z)) hq) (ad_ _)|exact au_c)
 ·repeat' (first|exact az_|refine h_c ?_ ?_|(refine aF_ hs ?_ (aZ_ _);rw[hm];exact hset _)|exact au_e|refine av_ ?_|exact an_|refine ai_ ?_ ?_|exact Cv.loE hs (congrArg (fun z=>AV.v (.int .u64 z)) hq) (ad_ _)|exact au_c)
 have hk:k=(digs MB b).length:=by have:=of_decide_eq_false h;omega
 refine ao_ ⟨(q,k,c),⟨⟨jlen,jle,jdig,jcar,jval,jzer⟩,hk⟩,?_⟩;rw[tiT.eq_1];exact s_e [];rintro⟨q,k,c⟩ ⟨⟨jlen,jle,jdig,jcar,jval,jzer⟩,hk⟩;simp only at jlen jle jdig jcar jval jzer hk;subst hk;have hc1:c< 1000000000:=jcar;have hz:=jzer (i+(digs MB b).length) (Nat.le_refl _) (by omega);have hg:(dE q)[0+(((i:Int)+(digs MB b).length)).toNat]?=some [u32 0]:=by rw[show 0+((i:Int)+(digs MB b).length).toNat=i+(digs MB b).length by omega];exact cc_ hz
 have hset:(dE q).set (0+(((i:Int)+(digs MB b).length)).toNat) [u32 c]=dE (q.set (i+(digs MB b).length) c):=by rw[show 0+((i:Int)+(digs MB b).length).toNat=i+(digs MB b).length by omega,ef_]
 rw[List.take_length,vb] at jval;rw[tiT.eq_1];refine r_m 10 ?_;refine a_8 ?_;refine a_1 ?_;refine o_1n (.store rfl rfl hg rfl rfl rfl TS.h (nle rfl)) ?_;refine al_ ?_;refine r_m 2 ?_;refine a_z ?_;refine⟨(q.set (i+(digs MB b).length) c,i+1),by simp;omega,⟨by simp[jlen],by simp;omega,kz_ jdig jcar,?_,?_⟩,?_⟩;simp only;have e1:=iD_ MB c hz;rw[bk_ _ hx,Nat.add_mul,←jval];omega;intro j hj hj2;rw[List.getElem?_set_ne (by simp only at hj;omega)];exact jzer j (by simp only at hj;omega) (by simpa using hj2);rw[tiS.eq_1];exact s_f [];have hi:i=(digs MB a).length:=by have:=of_decide_eq_false h;omega
 refine ao_ ⟨(o,i),⟨⟨hlen,hle,hdig,hval,hzer⟩,hi⟩,?_⟩;rw[tiS.eq_1];exact s_e [];rintro⟨o,i⟩ ⟨⟨hlen,hle,hdig,hval,hzer⟩,hi⟩;simp only at hlen hle hdig hval hzer hi;subst hi;rw[List.take_length,va] at hval;rw[tiS.eq_1];refine AWp.ent (st':=⟨[(4,.lptr 3 0 0),(5,.arr (dE o))],[(3,some ⟨42,1,[[.emp]]⟩)],4,73⟩) ?_ ?_;refine s_x [] (fun hs=>?_) (fun hs=>?_)
 ·repeat' (first|exact aH_|refine ap_ rfl ?_ ?_|exact Cv.sealE hs rfl (aK_ rfl) rfl (by simp[hlen]) (aZ_ _)|exact au_c)
 ·repeat' (first|exact az_|refine h_c ?_ ?_|exact au_e|refine av_ ?_|exact an_|refine ai_ ?_ ?_|exact Cv.sealE hs rfl (aK_ rfl) rfl (by simp[hlen]) (aZ_ _)|exact au_c)
 refine s_r 3 ?_;refine o_0 (.move rfl) ?_;refine o_0 (.call rfl rfl rfl (dP_ _ (by omega))) ?_;refine o_1n (.store rfl rfl rfl rfl rfl rfl TS.h (nle rfl)) ?_;refine al_ ?_;refine af_ (bQ_ rfl rfl rfl TG.h TS.h (nle rfl) ?_ (ay_ (aa_ (a5_ _) ac_)));rw[ez_ (b:=MB) (by decide) hdig,hval];rfl
def siS(a:Nat)(d:Nat):Nat×List Nat×Nat→AState
 |(k,t,r)=>⟨[(8,i64 ((k:Int)- 1)),(1,u32 d),(2,.lptr 1 0 0),(4,.lptr 2 0 0),(5,.lptr 3 0 0),(6,.lsl 4 0 (digs MB a).length (some (digs MB a).length) 1),(7,u64 r)],
  [(1,some ⟨42,1,[[mag a]]⟩),(2,some ⟨42,1,[[.emp]]⟩),(3,some ⟨42,1,[[.emp]]⟩),(4,some ⟨204,1,dE (List.replicate k 0++t)⟩)],5,46⟩
structure SimI (a d:Nat)(x:Nat×List Nat×Nat):Prop where
 len:x.1+x.2.1.length=(digs MB a).length
 dig:∀y∈x.2.1,y< MB
 rest:x.2.2< d
 val:ofD MB ((digs MB a).drop x.1)=d* ofD MB x.2.1+x.2.2
theorem rV_(a d:Nat)(h:bl a≤17592186044416)(hd0:0< d)(hd:d< 4294967296):FS 206 [.agg [mag a],u32 d] (.tup [.agg [mag (a/ d)],.agg [mag (a % d)]]):=by
 have hla:=aT_ (b:=MB) (by decide) a;have va:=aV_ (b:=MB) (by decide) a;refine f_c Tryz.func206 ?_;refine r_z 3 ?_;refine r_z 5 ?_;refine r_z 1 ?_;refine ab_ (r_z 5 ?_);refine aw_ (siS a d) (fun x=>SimI a d x∧x.1=0) ?_ ?_;refine ae_ (aq_ (siS a d) (fun x=>x.1) (SimI a d) ((digs MB a).length,[],0) ⟨by simp,by simp,hd0,by simp[ofD]⟩ ?_ ?_);rw[siS.eq_1];exact s_e [(4,6)];rintro⟨k,t,r⟩ ⟨hlen,hdig,hrest,hval⟩;simp only at hlen hdig hrest hval;rw[siS.eq_1];refine ab_ (r_z 2 ?_);refine aj_ rfl (fun h=>?_) (fun h=>?_);have hk0:0< k:=by have:=of_decide_eq_true h;omega
 obtain⟨x,hx⟩:∃x,(digs MB a)[k- 1]?=some x:=⟨_,List.getElem?_eq_getElem (by omega)⟩;have hx1:x< 1000000000:=be_ (by decide) hx;have hx':(dE (digs MB a))[((k:Int)- 1).toNat]?=some [u32 x]:=by rw[show((k:Int)- 1).toNat=k- 1 by omega];exact cc_ hx
 have hrep:List.replicate k 0++t=List.replicate (k- 1) 0++0::t:=by
  conv=>lhs;rw[show k=(k- 1)+1 by omega,List.replicate_succ']
  simp
 have hg:(dE (List.replicate k 0++t))[0+((k:Int)- 1).toNat]?=some [u32 0]:=by
  rw[show 0+((k:Int)- 1).toNat=k- 1 by omega,hrep];exact cc_ (iT_ _ _ _ _ (by simp))
 have hset:∀w:Nat,(dE (List.replicate k 0++t)).set (0+((k:Int)- 1).toNat) [u32 w]=dE (List.replicate (k- 1) 0++(w::t)):=by
  intro w;rw[show 0+((k:Int)- 1).toNat=k- 1 by omega,ef_,hrep,iq_ _ _ _ _ _ (by simp)];simp
 have hq:(r* 1000000000+x) / d< 1000000000:=by
  rw[Nat.div_lt_iff_lt_mul hd0];have:(r+1) * 1000000000≤d* 1000000000:=Nat.mul_le_mul_right _ hrest;rw[Nat.mul_comm 1000000000 d];omega
 have hA:(r:Int) * 1000000000+x=((r* 1000000000+x:Nat):Int):=by omega
 have hqi:((r:Int) * 1000000000+x) / d=(((r* 1000000000+x) / d:Nat):Int):=by rw[hA];exact(Int.natCast_ediv _ _).symm
 have hri:((r:Int) * 1000000000+x) % d=(((r* 1000000000+x) % d:Nat):Int):=by rw[hA];exact(Int.natCast_emod _ _).symm
 have hmod:=Nat.mod_lt (r* 1000000000+x) hd0;have e:=Nat.div_add_mod (r* 1000000000+x) d;obtain⟨Q,hQ⟩:∃Q,Q=(r* 1000000000+x) / d:=⟨_,rfl⟩;obtain⟨R,hR⟩:∃R,R=(r* 1000000000+x) % d:=⟨_,rfl⟩;rw[←hQ] at hq hqi;rw[←hR] at hmod hri;rw[←hQ,←hR] at e;refine ah_ (ab_ (ae_ (s_r 10 ?_)));refine a_5 ?_;refine i_x hx' ?_;refine l_1 hx' ?_;refine a_z ?_;refine r_d hmix 14 ?_;refine a_5 ?_;refine o_0 (.bin rfl rfl (pg_ (by omega))) ?_;refine o_0 (.conv rfl (cU32 (by rw[hqi];omega) tu_205.h tu_204.h)) ?_;refine a_5 ?_;refine o_1n (.store rfl rfl hg rfl rfl rfl TS.h (nle rfl)) ?_;refine a_1 ?_;refine al_ (n_k ?_);refine r_m 3 ?_;refine a_z ?_;refine⟨(k- 1,Q::t,R),by simp;omega,⟨by simp;omega,?_,hmod,?_⟩,?_⟩;intro y hy;rcases List.mem_cons.1 hy with rfl|hy
 exact hq;exact hdig y hy;simp only;rw[fp_ MB hx,show k- 1+1=k by omega,hval,ofD];have e2:d* (Q+MB* ofD MB t)=d* Q+MB* (d* ofD MB t):=by rw[Nat.mul_add,Nat.mul_left_comm]
 have e3:MB* (d* ofD MB t+r)=MB* (d* ofD MB t)+1000000000* r:=Nat.mul_add _ _ _;omega;rw[siS.eq_1];refine s_x [] (fun hs=>?_) (fun hs=>?_)
 ·repeat' (first|exact aH_|refine ap_ rfl ?_ ?_|exact Cv.loE hs (congrArg (fun z=>AV.v (.int .u64 z)) hri) (ad_ _)|exact au_c)
 ·repeat' (first|exact az_|refine h_c ?_ ?_|(refine aF_ hs ?_ (aZ_ _);rw[hqi];exact hset _)|exact au_e|refine av_ ?_|exact an_|refine ai_ ?_ ?_|exact Cv.loE hs (congrArg (fun z=>AV.v (.int .u64 z)) hri) (ad_ _)|exact au_c)
 have hk0:k=0:=by have:=of_decide_eq_false h;omega
 refine ao_ ⟨(k,t,r),⟨⟨hlen,hdig,hrest,hval⟩,hk0⟩,?_⟩;rw[siS.eq_1];exact s_e [];rintro⟨k,t,r⟩ ⟨⟨hlen,hdig,hrest,hval⟩,hk⟩;simp only at hlen hdig hrest hval hk;subst hk;rw[List.drop_zero,va] at hval;have hq:a/ d=ofD MB t:=by rw[hval,Nat.mul_add_div hd0,Nat.div_eq_of_lt hrest];omega
 have hr:a % d=r:=by rw[hval,Nat.mul_add_mod];exact Nat.mod_eq_of_lt hrest
 rw[siS.eq_1];refine AWp.ent (st':=⟨[(4,.lptr 1 0 0),(5,.lptr 2 0 0),(6,.arr (dE t)),(7,u64 r)],[(1,some ⟨42,1,[[.emp]]⟩),(2,some ⟨42,1,[[.emp]]⟩)],3,46⟩) ?_ ?_;exact s_x [(1,4),(2,5)] (fun hs=>e_24) (fun hs=>e_25);refine s_r 6 ?_;refine o_0 (.move rfl) ?_;refine o_0 (.call rfl rfl rfl (dP_ _ (by omega))) ?_;refine o_0 (.move rfl) ?_;refine o_0 (.call rfl rfl rfl (do_ r (by omega))) ?_;refine o_1n (.store rfl rfl rfl rfl rfl rfl TS.h (nle rfl)) ?_;refine o_1n (.store rfl rfl rfl rfl rfl rfl TS.h (nle rfl)) ?_;refine al_ ?_;refine af_ ?_;rw[hq,hr];refine Fin.many ⟨_,_,rfl,⟨_,_,_,_,_,rfl,rfl,rfl,.inl ⟨TG.h,_,TS.h,nle rfl,rfl⟩⟩,_,_,rfl,⟨_,_,_,_,_,rfl,rfl,rfl,.inl ⟨TG.h,_,TS.h,nle rfl,rfl⟩⟩,rfl⟩ (nle rfl) ?_;refine ai_ (Cv.loE ax_ ?_ (ay_ (aa_ (bl_ (trimD t)) ac_))) (ai_ (ak_ ax_ (ay_ (aa_ (a5_ r) ac_))) an_);rw[ez_ (b:=MB) (by decide) hdig];rfl
end Go.Proofs.YtjkddcfoolilbaaGreatDoor
