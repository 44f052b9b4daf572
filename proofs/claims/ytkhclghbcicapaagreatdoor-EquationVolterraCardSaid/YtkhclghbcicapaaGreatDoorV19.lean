/- Part V19 of the proof. -/
import Derived.Test.YtkhclghbcicapaaGreatDoorV18
set_option linter.all false
namespace Go.Proofs.YtkhclghbcicapaaGreatDoor
open Go.Abs
set_option maxRecDepth 20000
def xI(n:Nat):Nat→AState
 |0=>⟨[(0,u64 n),(2,.lptr 1 0 0),(3,.emp)],[(1,some ⟨30,1,[[.emp]]⟩)],2,16⟩
 |k+1=>⟨[(0,u64 (kz n (k+1))),(2,.lptr 1 0 0),(3,.lsl 2 0 (k+1) none 1)],[(1,some ⟨30,1,[[.emp]]⟩),(2,some ⟨189,1,dE (vZ n (k+1))⟩)],3,16⟩
theorem gQ(n:Nat)(h:n< 18446744073709551616):FS 130 [u64 n] (.agg [mag n]):=by
 have e:(av MB n).length≤3:=gf (by decide) (Nat.lt_of_lt_of_le h (by decide));refine f_c Tryz.func130 ?_;refine r_z 1 ?_;refine r_z 1 ?_;refine bv (xI n) (fun k=>k=(av MB n).length) ?_ ?_;refine am (aD (xI n) (fun k=>(av MB n).length- k) (fun k=>k≤(av MB n).length) 0 (Nat.zero_le _) ?_ ?_);rw[xI.eq_1];exact s_e [];rintro k d;have i:=Gb d;have j:=Gc d;have b:=mN d;cases k with
 |zero=>
  rw[uD] at j;refine ae (r_z 2 ?_);refine aq rfl (fun h=>?_) (fun h=>?_);refine an ?_;have g:0< n:=by simpa using h
  have c:0< (av MB n).length:=by omega
  obtain⟨a,ht⟩:=uE c;rw[uD] at a ht;refine ae (am (r_m 7 ?_));refine a_z ?_;refine r_m 3 ?_;refine a_z ?_;refine⟨1,by omega,c,?_⟩;rw[xI.eq_2];refine s_x [(2,3)] (fun hs=>?_) (fun hs=>?_) ?_
  ·repeat' (first|exact aS|refine az rfl ?_ ?_|exact bh|(refine Cv.loE hs ?_ (ah _);first|rfl|(simp[i64,u64,u32,bln,a,ht,iI];done)|(simp[i64,u64,u32,bln,a,ht,iI]<;> omega)))
  ·repeat' (first|exact aI|refine h_c ?_ ?_|exact cj|(refine aT hs ?_ (bW _);first|(simp[iz,lD,iA,a,ht,iI];done)|(simp[dE,u32,ofV,a,ht,iI];done))|refine aG ?_|exact aw|refine ai ?_ ?_|exact bh|(refine Cv.loE hs ?_ (ah _);first|(simp[i64,u64,u32,bln,a,ht,iI];done)|(simp[i64,u64,u32,bln,a,ht,iI]<;> omega)))
  ·repeat' (first|exact ShrL.nil|refine ShrL.cons rfl rfl rfl rfl (by first|rfl|(simp;done)|(simp[a,ht,iI]<;> omega)) ?_)
  refine aA ⟨0,?_,?_⟩;have:¬0< n:=by simpa using h
  omega;rw[xI.eq_1];exact s_e []
 |succ k=>
  rw[xI.eq_2];refine ae (r_z 2 ?_);refine aq rfl (fun h=>?_) (fun h=>?_);refine an ?_;have g:0< kz n (k+1):=by simpa using h
  have c:k+1< (av MB n).length:=by omega
  obtain⟨a,ht⟩:=uE c;refine ae (am (r_m 7 ?_));refine a_z ?_;refine r_m 3 ?_;refine a_z ?_;refine⟨k+1+1,by omega,c,?_⟩;rw[xI.eq_2];refine s_x [(2,3)] (fun hs=>?_) (fun hs=>?_) ?_
  ·repeat' (first|exact aS|refine az rfl ?_ ?_|exact bh|(refine Cv.loE hs ?_ (ah _);first|rfl|(simp[i64,u64,u32,bln,a,ht,b];done)|(simp[i64,u64,u32,bln,a,ht,b]<;> omega)))
  ·repeat' (first|exact aI|refine h_c ?_ ?_|exact cj|(refine aT hs ?_ (bW _);first|(simp[iz,lD,iA,a,ht,b];done)|(simp[dE,u32,ofV,a,ht,b];done))|refine aG ?_|exact aw|refine ai ?_ ?_|exact bh|(refine Cv.loE hs ?_ (ah _);first|(simp[i64,u64,u32,bln,a,ht,b];done)|(simp[i64,u64,u32,bln,a,ht,b]<;> omega)))
  ·repeat' (first|exact ShrL.nil|refine ShrL.cons rfl rfl rfl rfl (by first|rfl|(simp;done)|(simp[a,ht,b]<;> omega)) ?_)
  refine aA ⟨k+1,?_,?_⟩;have:¬0< kz n (k+1):=by simpa using h
  omega;rw[xI.eq_2];exact s_e []
 rintro k rfl;cases d:(av MB n).length with
 |zero=>
  rw[xI.eq_1];refine r_z 3 ?_;refine ak (Fin.cell rfl rfl rfl TG.h TS.h (nle rfl) (Cv.agg (ai (Cv.emp _ ?_) aw)));unfold mag;rw[List.length_eq_zero_iff] at d;rw[d];rfl
 |succ k=>
  rw[xI.eq_2];refine r_z 3 ?_;refine ak (Fin.cell rfl rfl rfl TG.h TS.h (nle rfl) (Cv.agg (ai (Cv.shut ay rfl (fun _ _ h=>by cases h) ?_ ?_) aw)));simp[mN (Nat.le_of_eq d.symm)];refine aT ay ?_ (bW _);have h1:(vZ n (k+1)).length=k+1:=mN (Nat.le_of_eq d.symm);have f:=Gl n;rw[d] at f;simp only[List.drop_zero,Ec];rw[List.take_of_length_le (Nat.le_of_eq h1),f]
def Gn(p:Nat)(q:Nat):List Nat×Nat→AState
 |(s,c)=>⟨[(26,i64 s.length),(25,i64 (av MB p).length),(24,mag p),(2,.lptr 1 0 0),(3,.lptr 2 0 0),(4,.lptr 3 0 0),(5,.lsl 4 0 ((av MB p).length+1) (some ((av MB p).length+1)) 1),(6,u32 c)],
  [(1,some ⟨30,1,[[mag p]]⟩),(2,some ⟨30,1,[[mag q]]⟩),(3,some ⟨30,1,[[.emp]]⟩),(4,some ⟨189,1,dE (s++List.replicate ((av MB p).length+1- s.length) 0)⟩)],5,63⟩
structure PlusI (p q:Nat)(a:List Nat×Nat):Prop where
 le:a.1.length≤(av MB p).length
 dig:∀d∈a.1,d< MB
 car:a.2≤1
 val:ofD MB a.1+MB^ a.1.length* a.2=ofD MB ((av MB p).take a.1.length)+ofD MB ((av MB q).take a.1.length)
theorem yp(a b:Nat)(h:bl a+bl b≤17592186044416):FS 129 [.agg [mag a],.agg [mag b]] (.agg [mag (a+b)]):=by
 have hla:=bZ (b:=MB) (by decide) a;have hlb:=bZ (b:=MB) (by decide) b;refine f_c Tryz.func129 ?_;refine r_z 3 ?_;refine ae (r_z 7 ?_)
 refine aH (fun x:Nat×Nat=>⟨[(2,.lptr 1 0 0),(3,.lptr 2 0 0),(4,.lptr 3 0 0)],[(1,some ⟨30,1,[[mag x.1]]⟩),(2,some ⟨30,1,[[mag x.2]]⟩),(3,some ⟨30,1,[[.emp]]⟩)],4,63⟩)
  (fun x=>x.1+x.2=a+b∧(av MB x.2).length≤(av MB x.1).length∧(av MB x.1).length≤17592186044416) ?_ ?_
 refine aq rfl (fun h=>?_) (fun h=>?_);refine r_m 4 ?_;refine a_z ?_;refine⟨(b,a),⟨by simp;omega,?_,by simp;omega⟩,?_⟩;simp at h;simp;omega;exact s_e [];refine an ⟨(a,b),⟨rfl,?_,by simp;omega⟩,?_⟩;simp at h;simpa using h;exact s_e [];rintro⟨p,q⟩ ⟨hpq,hqp,hp⟩;simp only at hpq hqp hp⊢;refine r_z 6 ?_;refine r_z 1 ?_;refine ae (r_z 4 ?_);refine aH (Gn p q) (fun x=>PlusI p q x∧x.1.length=(av MB p).length) ?_ ?_;refine am (aD (Gn p q) (fun x=>(av MB p).length- x.1.length) (PlusI p q) ([],0) ⟨by simp,by simp,by simp,by simp[ofD]⟩ ?_ ?_);rw[Gn.eq_1];exact s_e [(4,5)];rintro⟨s,c⟩ ⟨hle,hdig,hcar,hval⟩;simp only at hle hdig hcar hval;rw[Gn.eq_1];refine r_z 1 ?_;refine ae (aq rfl (fun h=>?_) (fun h=>?_));refine an ?_;have hlt:s.length< (av MB p).length:=by simpa using h
 obtain⟨x,hx⟩:∃x,(av MB p)[s.length]?=some x:=⟨_,List.getElem?_eq_getElem hlt⟩;have hx1:x< 1000000000:=cQ (by decide) hx;have hx':(dE (av MB p))[((s.length:Nat):Int).toNat]?=some [u32 x]:=dW hx;refine ae (am (s_r 5 ?_));refine a_1 ?_;refine i_x hx' ?_;refine l_1 hx' ?_;refine a_z ?_;refine r_z 4 ?_;refine ae (r_z 5 ?_)
 have hq0:∀y,((av MB q)[s.length]?.getD 0=y)→y< 1000000000:=by
  rintro y rfl;cases hy:(av MB q)[s.length]? with
  |none=>decide
  |some y=>exact cQ (by decide) hy
 refine aH (fun v:Nat=>⟨[(26,i64 s.length),(25,i64 (av MB p).length),(24,mag p),(2,.lptr 1 0 0),(3,.lptr 2 0 0),(4,.lptr 3 0 0),(5,.lsl 4 0 ((av MB p).length+1) (some ((av MB p).length+1)) 1),(7,i64 s.length),(8,u32 v)],
  [(1,some ⟨30,1,[[mag p]]⟩),(2,some ⟨30,1,[[mag q]]⟩),(3,some ⟨30,1,[[.emp]]⟩),(4,some ⟨189,1,dE (s++List.replicate ((av MB p).length+1- s.length) 0)⟩)],5,63⟩)
  (fun v=>v=x+c+(av MB q)[s.length]?.getD 0) ?_ ?_
 refine aq rfl (fun h=>?_) (fun h=>?_);have hlt2:s.length< (av MB q).length:=by simpa using h
 obtain⟨y,hy⟩:∃y,(av MB q)[s.length]?=some y:=⟨_,List.getElem?_eq_getElem hlt2⟩;have hy1:y< 1000000000:=cQ (by decide) hy;have hy':(dE (av MB q))[((s.length:Nat):Int).toNat]?=some [u32 y]:=dW hy;refine r_m 8 ?_;refine a_4 ?_;refine i_x hy' ?_;refine l_1 hy' ?_;refine a_z ?_;refine⟨x+c+y,by rw[hy];rfl,?_⟩;exact s_e [];have hlt2:¬s.length< (av MB q).length:=by simpa using h
 refine an ⟨x+c,by rw[List.getElem?_eq_none (by omega)];rfl,?_⟩;exact s_e [];rintro v hv;obtain⟨y,hy⟩:∃y,y=(av MB q)[s.length]?.getD 0:=⟨_,rfl⟩;have hy1:=hq0 y hy.symm;rw[←hy] at hv;refine r_z 1 ?_;refine ae (r_z 2 ?_)
 have hg:(dE (s++List.replicate ((av MB p).length+1- s.length) 0))[0+((s.length:Nat):Int).toNat]?=some [u32 0]:=by
  rw[Nat.zero_add,Int.toNat_natCast];exact dW (by rw[show(av MB p).length+1- s.length=((av MB p).length- s.length)+1 by omega];exact Ae _ _ _ rfl)
 have hset:∀w:Nat,(dE (s++List.replicate ((av MB p).length+1- s.length) 0)).set (0+((s.length:Nat):Int).toNat) [u32 w]=dE ((s++[w])++List.replicate ((av MB p).length+1- (s++[w]).length) 0):=by
  intro w;rw[Nat.zero_add,Int.toNat_natCast,iz,show(av MB p).length+1- s.length=((av MB p).length- s.length)+1 by omega,zx _ _ _ _ rfl,show(av MB p).length+1- (s++[w]).length=(av MB p).length- s.length by simp]
 have hnext:∀w c',w+1000000000* c'=x+c+y→w< 1000000000→c'≤1→PlusI p q (s++[w],c'):=by
  intro w c' hw hwb hc';refine⟨by simp;omega,?_,hc',?_⟩;intro d hd;rcases List.mem_append.1 hd with hd|hd
  exact hdig d hd;simp at hd;subst hd;exact hwb;simp only[List.length_append,List.length_singleton];rw[iu,c9 _ hx,fm,←hy,Nat.pow_succ];have e:MB^ s.length* w+MB^ s.length* MB* c'=MB^ s.length* (w+MB* c'):=by rw[Nat.mul_add,Nat.mul_assoc]
  have e2:MB^ s.length* (x+c+y)=MB^ s.length* x+MB^ s.length* c+MB^ s.length* y:=by rw[Nat.mul_add,Nat.mul_add]
  rw[hw,e2] at e;omega
 refine aq rfl (fun h=>?_) (fun h=>?_);have hb:1000000000≤v:=by have:=of_decide_eq_true h;omega
 have hv1:((v:Int)- 1000000000)=((v- 1000000000:Nat):Int):=by omega
 refine r_m 4 ?_;refine a_z ?_;refine r_m 5 ?_;refine a_4 ?_;refine fR (.store rfl rfl hg rfl rfl rfl TS.h (nle rfl)) ?_;refine au ?_;refine r_m 2 ?_;refine a_z ?_;refine⟨(s++[v- 1000000000],1),by simp;omega,hnext _ _ (by omega) (by omega) (Nat.le_refl _),?_⟩;rw[Gn.eq_1];exact s_x [] (fun hs=>ek) (fun hs=>e_21);have hb:v< 1000000000:=by have:=of_decide_eq_false h;omega
 refine an (r_m 5 ?_);refine a_4 ?_;refine fR (.store rfl rfl hg rfl rfl rfl TS.h (nle rfl)) ?_;refine au ?_;refine r_m 2 ?_;refine a_z ?_;refine⟨(s++[v],0),by simp;omega,hnext _ _ (by omega) hb (by omega),?_⟩;rw[Gn.eq_1];exact s_x [] (fun hs=>ek) (fun hs=>e_22);refine aA ⟨(s,c),⟨⟨hle,hdig,hcar,hval⟩,?_⟩,?_⟩;simp at h;simp;omega;rw[Gn.eq_1];exact s_e [];rintro⟨s,c⟩ ⟨⟨hle,hdig,hcar,hval⟩,hlen⟩;simp only at hle hdig hcar hval hlen
 have hg:(dE (s++List.replicate ((av MB p).length+1- s.length) 0))[0+(((av MB p).length:Nat):Int).toNat]?=some [u32 0]:=by
  rw[Nat.zero_add,Int.toNat_natCast,←hlen];exact dW (by rw[show s.length+1- s.length=0+1 by omega];exact Ae _ _ _ rfl)
 have hset:(dE (s++List.replicate ((av MB p).length+1- s.length) 0)).set (0+(((av MB p).length:Nat):Int).toNat) [u32 c]=dE (s++[c]):=by
  rw[Nat.zero_add,Int.toNat_natCast,←hlen,iz,show s.length+1- s.length=0+1 by omega,zx _ _ _ _ rfl];simp
 have hres:fL (s++[c])=av MB (a+b):=by
  rw[jW (b:=MB) (by decide),iu,hval,ir _ (by omega),ir _ (by omega),bD (by decide),bD (by decide),hpq];intro d hd;rcases List.mem_append.1 hd with hd|hd
  exact hdig d hd;simp at hd;subst hd;show d< 1000000000;omega
 rw[Gn.eq_1];refine s_r 7 ?_;refine a_6 ?_;refine fR (.store rfl rfl hg rfl rfl rfl TS.h (nle rfl)) ?_;refine au ?_;refine AWp.ent (st':=⟨[(4,.lptr 3 0 0),(5,.arr (dE (s++[c])))],[(3,some ⟨30,1,[[.emp]]⟩)],4,63⟩) ?_ ?_;refine s_x [] (fun hs=>?_) (fun hs=>?_)
 ·repeat' (first|exact aS|refine az rfl ?_ ?_|exact Cv.sealE hs rfl (aQ rfl) hset (by simp[hlen]) (bW _)|exact bh)
 ·repeat' (first|exact aI|refine h_c ?_ ?_|exact cj|refine aG ?_|exact aw|refine ai ?_ ?_|exact Cv.sealE hs rfl (aQ rfl) hset (by simp[hlen]) (bW _)|exact bh)
 refine s_r 3 ?_;refine o_0 (.move rfl) ?_;refine o_0 (.call rfl rfl rfl (iQ _ (by simp;omega))) ?_;refine a_z ?_;refine ak (dR rfl rfl rfl TG.h TS.h (nle rfl) ?_ (aB (ac (cg _) ag)));rw[hres];rfl
def agS(a:Nat)(b:Nat):Nat→AState
 |k=>⟨[(2,.lptr 1 0 0),(3,.lptr 2 0 0),(6,i64 ((k:Int)- 1))],[(1,some ⟨30,1,[[mag a]]⟩),(2,some ⟨30,1,[[mag b]]⟩)],3,40⟩
theorem ph(a b:Nat)(h:bl a+bl b≤17592186044416):FS 74 [.agg [mag a],.agg [mag b]] (i64 (fe a b)):=by
 have s:=bZ (b:=MB) (by decide) a;have t:=bZ (b:=MB) (by decide) b;refine f_c Tryz.func74 ?_;refine r_z 3 ?_;refine ae (r_c 8 (yF _ _) ?_);refine a_z ?_;refine r_z 2 ?_;refine aq rfl (fun h=>?_) (fun h=>?_);have c:fe (av MB a).length (av MB b).length≠0:=by simpa using h
 refine r_z 2 ?_;refine ak (aY rfl ?_ (ah _));unfold i64;congr 2;rw[tQ] at c;rcases Nat.lt_or_ge (av MB a).length (av MB b).length with e|e
 have:=jO (by decide) e;rw[mj (by omega),mj (by omega)];have:=jO (m:=b) (n:=a) (b:=MB) (by decide) (by omega);rw[n5 (by omega),n5 (by omega)]
 have heq:(av MB a).length=(av MB b).length:=by
  have r:¬fe (av MB a).length (av MB b).length≠0:=by simpa using h
  rw[tQ] at r;omega
 refine an (ae (r_z 5 ?_));refine aH (agS a b) (fun k=>k=0∧a=b) ?_ ?_;refine am (aD (agS a b) (fun k=>k) (fun k=>k≤(av MB a).length∧(av MB a).drop k=(av MB b).drop k) (av MB a).length ⟨Nat.le_refl _,by rw[List.drop_length,heq,List.drop_length]⟩ ?_ ?_);rw[agS.eq_1];exact s_e [];rintro k ⟨u,d⟩;rw[agS.eq_1];refine ae (r_z 2 ?_);refine aq rfl (fun h=>?_) (fun h=>?_);have g:0< k:=by have:=of_decide_eq_true h;omega
 obtain⟨x,l⟩:∃x,(av MB a)[k- 1]?=some x:=⟨_,List.getElem?_eq_getElem (by omega)⟩;obtain⟨y,j⟩:∃y,(av MB b)[k- 1]?=some y:=⟨_,List.getElem?_eq_getElem (by omega)⟩;have i:(dE (av MB a))[((k:Int)- 1).toNat]?=some [u32 x]:=by rw[show((k:Int)- 1).toNat=k- 1 by omega];exact dW l
 have f:(dE (av MB b))[((k:Int)- 1).toNat]?=some [u32 y]:=by rw[show((k:Int)- 1).toNat=k- 1 by omega];exact dW j
 rw[show k=(k- 1)+1 by omega] at d;refine an (ae (am (ae (r_d a9 12 ?_))));refine a_3 ?_;refine i_x i ?_;refine l_1 i ?_;refine a_3 ?_;refine i_x f ?_;refine l_1 f ?_;refine c_s (yE x y) ?_;refine a_1 ?_;refine au (n_k ?_);refine r_z 2 ?_;refine aq rfl (fun o=>?_) (fun o=>?_);have c:fe x y≠0:=by simpa using o
 refine r_z 2 ?_;refine ak (aY rfl ?_ (ah _));unfold i64;congr 2;rw[tQ] at c;rcases Nat.lt_or_ge x y with e|e
 have:=nK (b:=MB) (dZ (by decide) a) l j d e;rw[bD (by decide),bD (by decide)] at this;rw[mj (by omega),mj (by omega)];have:=nK (b:=MB) (dZ (by decide) b) j l d.symm (by omega);rw[bD (by decide),bD (by decide)] at this;rw[n5 (by omega),n5 (by omega)]
 have p:x=y:=by
  have r:¬fe x y≠0:=by simpa using o
  rw[tQ] at r;omega
 refine an (r_m 3 ?_);refine a_z ?_;refine⟨k- 1,by omega,⟨by omega,?_⟩,?_⟩;rw[gC l,gC j,d,p];rw[agS.eq_1];exact s_e [];have g:k=0:=by have:=of_decide_eq_false h;omega
 subst g;refine aA ⟨0,⟨rfl,?_⟩,?_⟩;have:=congrArg (ofD MB) d;rwa[List.drop_zero,List.drop_zero,bD (by decide),bD (by decide)] at this;rw[agS.eq_1];exact s_e [];rintro k ⟨rfl,q⟩;rw[agS.eq_1];refine r_z 1 ?_;refine ak (aY rfl ?_ (ah _));subst q;rw[Eg rfl];rfl
def leS(a:Nat)(b:Nat):List Nat×Nat→AState
 |(s,c)=>⟨[(19,i64 s.length),(18,i64 (av MB a).length),(2,.lptr 1 0 0),(3,.lptr 2 0 0),(4,.lptr 3 0 0),(5,.lsl 4 0 (av MB a).length (some (av MB a).length) 1),(6,u32 c)],
  [(1,some ⟨30,1,[[mag a]]⟩),(2,some ⟨30,1,[[mag b]]⟩),(3,some ⟨30,1,[[.emp]]⟩),(4,some ⟨189,1,dE (s++(av MB a).drop s.length)⟩)],5,61⟩
def leT(n:Nat):List Nat×Unit→AState
 |(o,u)=>⟨[(4,.lptr 3 0 0),(5,.lsl 4 0 n (some n) 1)],
  [(3,some ⟨30,1,[[.emp]]⟩),(4,some ⟨189,1,dE o⟩)],5,61⟩
structure LessI (a b:Nat)(x:List Nat×Nat):Prop where
 le:x.1.length≤(av MB a).length
 dig:∀d∈x.1,d< MB
 car:x.2≤1
 val:ofD MB x.1+ofD MB ((av MB b).take x.1.length)=ofD MB ((av MB a).take x.1.length)+MB^ x.1.length* x.2
theorem yu(a b:Nat)(h:bl a≤17592186044416)(hba:b≤a):FS 156 [.agg [mag a],.agg [mag b]] (.agg [mag (a- b)]):=by
 have hla:=bZ (b:=MB) (by decide) a;have hlen:=z8 (b:=MB) (by decide) hba;have va:=bD (b:=MB) (by decide) a;have vb:=bD (b:=MB) (by decide) b;refine f_c Tryz.func156 ?_;refine r_z 3 ?_;refine r_z 5 ?_;refine s_r 4 ?_;refine a_3 ?_;refine o_1 (.copy rfl rfl rfl te_28.h rfl rfl rfl (by first|(simp;done)|(simp;omega)) (by first|exact fU _|exact fT _|exact eV _|exact fV _|exact fP _|rfl|simp) rfl (.arr (yV _))) ?_;refine au ?_
 have hcp:fD (List.replicate (av MB a).length [ofV (Value.int IntKind.u32 0)]) 0 (List.take (Nat.min (dE (av MB a)).length (av MB a).length) (dE (av MB a)))=dE ([]++(av MB a).drop 0):=by
  rw[Ez];rw[List.take_of_length_le (by simp)];rfl;simp
 refine r_z 1 ?_;refine ae (r_z 3 ?_);refine aH (leT (av MB a).length) (fun x=>(∀d∈x.1,d< MB)∧x.1.length=(av MB a).length∧ofD MB x.1=a- b) ?_ ?_;refine am (aD (leS a b) (fun x=>(av MB a).length- x.1.length) (LessI a b) ([],0) ⟨by simp,by simp,by simp,by simp[ofD]⟩ ?_ ?_);rw[leS.eq_1];exact s_x [(4,5)] (fun hs=>ek) (fun hs=>e_24) e_23;rintro⟨s,c⟩ ⟨hle,hdig,hcar,hval⟩;simp only at hle hdig hcar hval;rw[leS.eq_1];refine r_z 1 ?_;refine ae (aq rfl (fun h=>?_) (fun h=>?_));have hlt:s.length< (av MB a).length:=by have:=of_decide_eq_true h;omega
 obtain⟨x,hx⟩:∃x,(av MB a)[s.length]?=some x:=⟨_,List.getElem?_eq_getElem hlt⟩;have hx1:x< 1000000000:=cQ (by decide) hx;have hdx:=gC hx;refine an (ae (am (r_z 2 ?_)));refine r_z 2 ?_;refine ae (r_z 5 ?_)
 refine aH (fun v:Nat=>⟨[(19,i64 s.length),(18,i64 (av MB a).length),(2,.lptr 1 0 0),(3,.lptr 2 0 0),(4,.lptr 3 0 0),(5,.lsl 4 0 (av MB a).length (some (av MB a).length) 1),(6,u32 c),(7,i64 s.length),(8,u32 v)],
  [(1,some ⟨30,1,[[mag a]]⟩),(2,some ⟨30,1,[[mag b]]⟩),(3,some ⟨30,1,[[.emp]]⟩),(4,some ⟨189,1,dE (s++(av MB a).drop s.length)⟩)],5,61⟩)
  (fun v=>v=c+(av MB b)[s.length]?.getD 0∧v≤1000000000) ?_ ?_
 refine aq rfl (fun h=>?_) (fun h=>?_);have hlt2:s.length< (av MB b).length:=by have:=of_decide_eq_true h;omega
 obtain⟨y,hy⟩:∃y,(av MB b)[s.length]?=some y:=⟨_,List.getElem?_eq_getElem hlt2⟩;have hy1:y< 1000000000:=cQ (by decide) hy;have hy':(dE (av MB b))[((s.length:Nat):Int).toNat]?=some [u32 y]:=dW hy;refine r_m 8 ?_;refine a_4 ?_;refine i_x hy' ?_;refine l_1 hy' ?_;refine a_z ?_;refine⟨c+y,⟨by rw[hy];rfl,by omega⟩,?_⟩;exact s_e [];have hlt2:¬s.length< (av MB b).length:=by have:=of_decide_eq_false h;omega
 refine r_z 2 ?_;refine aq rfl (fun h=>?_) (fun h=>?_);have hc0:c=0:=by simpa using h
 refine aA ⟨(s++(av MB a).drop s.length,()),⟨?_,by simp;omega,?_⟩,?_⟩;intro d hd;rcases List.mem_append.1 hd with hd|hd
 exact hdig d hd;exact dZ (by decide) a d (List.mem_of_mem_drop hd);have:=eu MB s.length (av MB a) (by omega);rw[va] at this;rw[ir _ (by omega),vb,hc0] at hval;simp only[gU];omega;rw[leT.eq_1];exact s_e [];refine an ⟨c,⟨by rw[List.getElem?_eq_none (by omega)];rfl,by omega⟩,?_⟩;exact s_e [];rintro v ⟨hv,hv1⟩;obtain⟨y,hy⟩:∃y,y=(av MB b)[s.length]?.getD 0:=⟨_,rfl⟩;rw[←hy] at hv
 have hg:(dE (s++(av MB a).drop s.length))[0+((s.length:Nat):Int).toNat]?=some [u32 x]:=by
  rw[Nat.zero_add,Int.toNat_natCast,hdx];exact dW (qt _ _ _ _ rfl)
 have hset:∀w:Nat,(dE (s++(av MB a).drop s.length)).set (0+((s.length:Nat):Int).toNat) [u32 w]=dE ((s++[w])++(av MB a).drop (s++[w]).length):=by
  intro w;rw[Nat.zero_add,Int.toNat_natCast,iz,hdx,pI _ _ _ _ _ rfl];simp
 have hnext:∀w c',w+v=x+1000000000* c'→w< 1000000000→c'≤1→LessI a b (s++[w],c'):=by
  intro w c' hw hwb hc';refine⟨by simp;omega,?_,hc',?_⟩;intro d hd;rcases List.mem_append.1 hd with hd|hd
  exact hdig d hd;simp at hd;subst hd;exact hwb;simp only[List.length_append,List.length_singleton];rw[iu,c9 _ hx,fm,←hy,Nat.pow_succ];have e:MB^ s.length* (w+v)=MB^ s.length* (x+MB* c'):=by rw[hw]
  rw[hv,Nat.mul_add,Nat.mul_add,Nat.mul_add,←Nat.mul_assoc] at e;omega
 refine r_z 1 ?_;refine ae (s_r 6 ?_);refine a_2 ?_;refine ce (.index_l rfl rfl (by omega) (by omega) te_28.h) rfl rfl ?_;refine ce (.load_l1 rfl rfl hg TG.h rfl) rfl rfl ?_;refine a_z ?_;refine aq rfl (fun h=>?_) (fun h=>?_);have hb:x< v:=by have:=of_decide_eq_true h;omega
 have hv2:((x:Int)+1000000000- v)=((x+1000000000- v:Nat):Int):=by omega
 have hv3:((x:Int)+1000000000)=((x+1000000000:Nat):Int):=by omega
 refine r_m 10 ?_;refine a_5 ?_;refine ce (.load_l1 rfl rfl hg TG.h rfl) rfl rfl ?_;refine a_2 ?_;refine fR (.store rfl rfl hg rfl rfl rfl TS.h (nle rfl)) ?_;refine a_z ?_
 refine AWp.ent (st':=⟨[(19,i64 s.length),(18,i64 (av MB a).length),(2,.lptr 1 0 0),(3,.lptr 2 0 0),(4,.lptr 3 0 0),(5,.lsl 4 0 (av MB a).length (some (av MB a).length) 1),(6,u32 1),(7,i64 s.length),(8,u32 v)],
  [(1,some ⟨30,1,[[mag a]]⟩),(2,some ⟨30,1,[[mag b]]⟩),(3,some ⟨30,1,[[.emp]]⟩),(4,some ⟨189,1,dE (s++(x+1000000000)::(av MB a).drop (s.length+1))⟩)],5,61⟩) ?_ ?_
 refine s_x [] (fun hs=>ek) (fun hs=>?_)
 ·repeat' (first|exact aI|refine h_c ?_ ?_|(refine aT hs ?_ (bW _);rw[hv3];exact(hset _).trans (by simp))|exact cj)
 have hg2:(dE (s++(x+1000000000)::(av MB a).drop (s.length+1)))[0+((s.length:Nat):Int).toNat]?=some [u32 (x+1000000000)]:=by
  rw[Nat.zero_add,Int.toNat_natCast];exact dW (qt _ _ _ _ rfl)
 have hset2:∀w:Nat,(dE (s++(x+1000000000)::(av MB a).drop (s.length+1))).set (0+((s.length:Nat):Int).toNat) [u32 w]=dE ((s++[w])++(av MB a).drop (s++[w]).length):=by
  intro w;rw[Nat.zero_add,Int.toNat_natCast,iz,pI _ _ _ _ _ rfl];simp
 have hv2:(((x+1000000000:Nat):Int)- v)=((x+1000000000- v:Nat):Int):=by omega
 refine r_m 8 ?_;refine a_2 ?_;refine ce (.index_l rfl rfl (by omega) (by omega) te_28.h) rfl rfl ?_;refine ce (.load_l1 rfl rfl hg2 TG.h rfl) rfl rfl ?_;refine a_3 ?_;refine fR (.store rfl rfl hg2 rfl rfl rfl TS.h (nle rfl)) ?_;refine au ?_;refine r_m 2 ?_;refine a_z ?_;refine⟨(s++[x+1000000000- v],1),by simp;omega,hnext _ _ (by omega) (by omega) (by omega),?_⟩;rw[leS.eq_1];refine s_x [] (fun hs=>ek) (fun hs=>?_)
 ·repeat' (first|exact aI|refine h_c ?_ ?_|(refine aT hs ?_ (bW _);rw[hv2];exact hset2 _)|exact cj)
 have hb:v≤x:=by have:=of_decide_eq_false h;omega
 have hv1:((x:Int)- v)=((x- v:Nat):Int):=by omega
 refine an (r_m 8 ?_);refine a_2 ?_;refine ce (.index_l rfl rfl (by omega) (by omega) te_28.h) rfl rfl ?_;refine ce (.load_l1 rfl rfl hg TG.h rfl) rfl rfl ?_;refine a_3 ?_;refine fR (.store rfl rfl hg rfl rfl rfl TS.h (nle rfl)) ?_;refine au ?_;refine r_m 2 ?_;refine a_z ?_;refine⟨(s++[x- v],0),by simp;omega,hnext _ _ (by omega) (by omega) (by omega),?_⟩;rw[leS.eq_1];exact s_x [] (fun hs=>ek) (fun hs=>e_21);have hl:s.length=(av MB a).length:=by have:=of_decide_eq_false h;omega
 refine aA ⟨(s,()),⟨hdig,hl,?_⟩,?_⟩;have h1:=gc hdig;rw[hl,ir _ hlen,ir _ (Nat.le_refl _),va,vb] at hval;rw[hl] at h1
 have h2:c=0:=by
  rcases Nat.eq_zero_or_pos c with h|h
  exact h;have:MB^ (av MB a).length* 1≤MB^ (av MB a).length* c:=Nat.mul_le_mul_left _ h;omega
 subst h2;simp at hval⊢;omega;rw[leT.eq_1];refine s_x [] (fun hs=>?_) (fun hs=>?_) ?_
 ·repeat' (first|exact aS|refine az rfl ?_ ?_|exact bh|(refine Cv.loE hs ?_ (ah _);first|rfl|(simp[i64,u64,u32,bln,hl];done)|(simp[i64,u64,u32,bln,hl]<;> omega)))
 ·repeat' (first|exact aI|refine h_c ?_ ?_|exact cj|(refine aT hs ?_ (bW _);first|(simp[iz,lD,iA,hl];done)|(simp[dE,u32,ofV,hl];done))|refine aG ?_|exact aw|refine ai ?_ ?_|exact bh|(refine Cv.loE hs ?_ (ah _);first|(simp[i64,u64,u32,bln,hl];done)|(simp[i64,u64,u32,bln,hl]<;> omega)))
 ·repeat' (first|exact ShrL.nil|refine ShrL.cons rfl rfl rfl rfl (by first|rfl|(simp;done)|(simp[hl]<;> omega)) ?_)
 rintro⟨o,u⟩ ⟨hd,hl,hv⟩;rw[leT.eq_1];refine AWp.ent (st':=⟨[(4,.lptr 3 0 0),(5,.arr (dE o))],[(3,some ⟨30,1,[[.emp]]⟩)],4,61⟩) ?_ ?_;refine s_x [] (fun hs=>?_) (fun hs=>?_)
 ·repeat' (first|exact aS|refine az rfl ?_ ?_|exact Cv.sealE hs rfl (aQ rfl) rfl (by simp[hl]) (bW _)|exact bh)
 ·repeat' (first|exact aI|refine h_c ?_ ?_|exact cj|refine aG ?_|exact aw|refine ai ?_ ?_|exact Cv.sealE hs rfl (aQ rfl) rfl (by simp[hl]) (bW _)|exact bh)
 simp only at hl hv;refine s_r 3 ?_;refine o_0 (.move rfl) ?_;refine o_0 (.call rfl rfl rfl (iQ _ (by omega))) ?_;refine fR (.store rfl rfl rfl rfl rfl rfl TS.h (nle rfl)) ?_;refine au ?_;refine ak (dR rfl rfl rfl TG.h TS.h (nle rfl) ?_ (aB (ac (cg _) ag)));rw[jW (b:=MB) (by decide) hd,hv];rfl
def tiS(a:Nat)(b:Nat):List Nat×Nat→AState
 |(o,i)=>⟨[(22,i64 i),(21,i64 (av MB a).length),(20,mag a),(3,.lptr 2 0 0),(4,.lptr 3 0 0),(5,.lsl 4 0 ((av MB a).length+(av MB b).length) (some ((av MB a).length+(av MB b).length)) 1)],
  [(2,some ⟨30,1,[[mag b]]⟩),(3,some ⟨30,1,[[.emp]]⟩),(4,some ⟨189,1,dE o⟩)],5,73⟩
def tiT(a:Nat)(b:Nat)(i:Nat)(x:Nat):List Nat×Nat×Nat→AState
 |(o,k,c)=>⟨[(22,i64 i),(21,i64 (av MB a).length),(20,mag a),(3,.lptr 2 0 0),(4,.lptr 3 0 0),(5,.lsl 4 0 ((av MB a).length+(av MB b).length) (some ((av MB a).length+(av MB b).length)) 1),(6,i64 i),(7,u32 x),(8,u64 c),(30,i64 k),(29,i64 (av MB b).length),(28,mag b)],
  [(2,some ⟨30,1,[[mag b]]⟩),(3,some ⟨30,1,[[.emp]]⟩),(4,some ⟨189,1,dE o⟩)],5,73⟩
structure TimesI (a b:Nat)(x:List Nat×Nat):Prop where
 len:x.1.length=(av MB a).length+(av MB b).length
 le:x.2≤(av MB a).length
 dig:∀d∈x.1,d< MB
 val:ofD MB x.1=ofD MB ((av MB a).take x.2) * b
 zer:∀j,x.2+(av MB b).length≤j→j< x.1.length→x.1[j]?=some 0
structure TimesJ (a b i v:Nat)(x:List Nat×Nat×Nat):Prop where
 len:x.1.length=(av MB a).length+(av MB b).length
 le:x.2.1≤(av MB b).length
 dig:∀d∈x.1,d< MB
 car:x.2.2< MB
 val:ofD MB x.1+MB^ (i+x.2.1) * x.2.2=ofD MB ((av MB a).take i) * b+MB^ i* v* ofD MB ((av MB b).take x.2.1)
 zer:∀j,i+(av MB b).length≤j→j< x.1.length→x.1[j]?=some 0
theorem gP(a b:Nat)(h:bl a+bl b≤17592186044416):FS 72 [.agg [mag a],.agg [mag b]] (.agg [mag (a* b)]):=by
 have X:=bZ (b:=MB) (by decide) a;have hlb:=bZ (b:=MB) (by decide) b;have va:=bD (b:=MB) (by decide) a;have V:=bD (b:=MB) (by decide) b;refine f_c Tryz.func72 ?_;refine r_z 3 ?_;refine r_z 9 ?_;refine ae (r_z 4 ?_);refine aH (tiS a b) (fun x=>TimesI a b x∧x.2=(av MB a).length) ?_ ?_;refine am (aD (tiS a b) (fun x=>(av MB a).length- x.2) (TimesI a b) (List.replicate ((av MB a).length+(av MB b).length) 0,0) ⟨by simp,by simp,?_,by simp[rG,ofD],?_⟩ ?_ ?_);intro d E;simp at E;rw[E.2];decide;intro j _ C;simp at C;simp[C];rw[tiS.eq_1];exact s_e [(4,5)];rintro⟨o,i⟩ ⟨e,t,n,m,s⟩;simp only at e t n m s;rw[tiS.eq_1];refine r_z 1 ?_;refine ae (aq rfl (fun h=>?_) (fun h=>?_));have L:i< (av MB a).length:=by have:=of_decide_eq_true h;omega
 obtain⟨x,O⟩:∃x,(av MB a)[i]?=some x:=⟨_,List.getElem?_eq_getElem L⟩;have W:x< 1000000000:=cQ (by decide) O;have H:(dE (av MB a))[((i:Nat):Int).toNat]?=some [u32 x]:=dW O;refine an (ae (am (s_r 5 ?_)));refine a_1 ?_;refine i_x H ?_;refine l_1 H ?_;refine a_z ?_;refine r_z 1 ?_;refine ae (r_z 4 ?_);refine aH (tiT a b i x) (fun y=>TimesJ a b i x y∧y.2.1=(av MB b).length) ?_ ?_;refine am (aD (tiT a b i x) (fun y=>(av MB b).length- y.2.1) (TimesJ a b i x) (o,0,0) ⟨e,by simp,n,(show 0< MB by decide),by simp[m,ofD],s⟩ ?_ ?_);rw[tiT.eq_1];exact s_e [];rintro⟨q,k,c⟩ ⟨r,u,g,l,p,f⟩;simp only at r u g l p f;rw[tiT.eq_1];refine r_z 1 ?_;refine ae (aq rfl (fun h=>?_) (fun h=>?_));have F:k< (av MB b).length:=by have:=of_decide_eq_true h;omega
 obtain⟨y,M⟩:∃y,(av MB b)[k]?=some y:=⟨_,List.getElem?_eq_getElem F⟩;have U:y< 1000000000:=cQ (by decide) M;have G:(dE (av MB b))[((k:Nat):Int).toNat]?=some [u32 y]:=dW M;obtain⟨d,E⟩:∃d,q[i+k]?=some d:=⟨_,List.getElem?_eq_getElem (by omega)⟩;have hd1:d< 1000000000:=g d (List.mem_of_getElem? E);have N:c< 1000000000:=l;have hg:(dE q)[0+(((i:Int)+k)).toNat]?=some [u32 d]:=by rw[show 0+((i:Int)+k).toNat=i+k by omega];exact dW E
 have B:∀w:Nat,(dE q).set (0+(((i:Int)+k)).toNat) [u32 w]=dE (q.set (i+k) w):=by intro w;rw[show 0+((i:Int)+k).toNat=i+k by omega,iz]
 have Q:x* y≤999999999* 999999999:=Nat.mul_le_mul (by omega) (by omega);have T:0≤(x:Int) * y:=Int.mul_nonneg (by omega) (by omega);have A:(x:Int) * y=((x* y:Nat):Int):=by push_cast;rfl
 refine an (ae (am (s_r 5 ?_)));refine a_1 ?_;refine i_x G ?_;refine l_1 G ?_;refine a_z ?_;refine s_r 16 ?_;refine a_8 ?_;refine a_2 ?_;refine ce (.index_l rfl rfl (by omega) (by omega) te_28.h) rfl rfl ?_;refine ce (.load_l1 rfl rfl hg TG.h rfl) rfl rfl ?_;refine a_z ?_;refine r_m 12 ?_;refine a_8 ?_;refine a_2 ?_;refine fR (.store rfl rfl hg rfl rfl rfl TS.h (nle rfl)) ?_;refine a_z ?_;refine r_m 2 ?_;refine a_z ?_;have Y:((c:Int)+((x:Int) * y+d)) % 1000000000=(((c+(x* y+d)) % 1000000000:Nat):Int):=by rw[A];omega
 have R:((c:Int)+((x:Int) * y+d)) / 1000000000=(((c+(x* y+d)) / 1000000000:Nat):Int):=by rw[A];omega
 refine⟨(q.set (i+k) ((c+(x* y+d)) % 1000000000),k+1,(c+(x* y+d)) / 1000000000),by simp;omega,⟨by simp[r],by simp;omega,tD g (Nat.mod_lt _ (by decide)),?_,?_,?_⟩,?_⟩;show _< 1000000000;simp only;omega;simp only;have e1:=qe MB ((c+(x* y+d)) % 1000000000) E;have e2:=Nat.mod_add_div (c+(x* y+d)) 1000000000
 have e3:MB^ (i+k) * ((c+(x* y+d)) % 1000000000)+MB^ (i+(k+1)) * ((c+(x* y+d)) / 1000000000)=MB^ (i+k) * c+(MB^ (i+k) * (x* y)+MB^ (i+k) * d):=by
  rw[←Nat.add_assoc i k 1,Nat.pow_succ,Nat.mul_assoc,←Nat.mul_add,show MB* ((c+(x* y+d)) / 1000000000)=1000000000* ((c+(x* y+d)) / 1000000000) from rfl,e2,Nat.mul_add,Nat.mul_add]
 have Z:MB^ i* x* ofD MB ((av MB b).take (k+1))=MB^ i* x* ofD MB ((av MB b).take k)+MB^ (i+k) * (x* y):=by
  rw[c9 _ M,Nat.mul_add];congr 1;rw[Nat.pow_add];simp only[Nat.mul_assoc,Nat.mul_left_comm,Nat.mul_comm]
 rw[Z];omega;intro j C D;rw[List.getElem?_set_ne (by omega)];exact f j C (by simpa using D);rw[tiT.eq_1];refine s_x [] (fun hs=>?_) (fun hs=>?_)
 ·repeat' (first|exact aS|refine az rfl ?_ ?_|exact Cv.loE hs (congrArg (fun z=>AV.v (.int .u64 z)) R) (ah _)|exact bh)
 ·repeat' (first|exact aI|refine h_c ?_ ?_|(refine aT hs ?_ (bW _);rw[Y];exact B _)|exact cj|refine aG ?_|exact aw|refine ai ?_ ?_|exact Cv.loE hs (congrArg (fun z=>AV.v (.int .u64 z)) R) (ah _)|exact bh)
 have J:k=(av MB b).length:=by have:=of_decide_eq_false h;omega
 refine aA ⟨(q,k,c),⟨⟨r,u,g,l,p,f⟩,J⟩,?_⟩;rw[tiT.eq_1];exact s_e [];rintro⟨q,k,c⟩ ⟨⟨r,u,g,l,p,f⟩,J⟩;simp only at r u g l p f J;subst J;have N:c< 1000000000:=l;have S:=f (i+(av MB b).length) (Nat.le_refl _) (by omega);have hg:(dE q)[0+(((i:Int)+(av MB b).length)).toNat]?=some [u32 0]:=by rw[show 0+((i:Int)+(av MB b).length).toNat=i+(av MB b).length by omega];exact dW S
 have B:(dE q).set (0+(((i:Int)+(av MB b).length)).toNat) [u32 c]=dE (q.set (i+(av MB b).length) c):=by rw[show 0+((i:Int)+(av MB b).length).toNat=i+(av MB b).length by omega,iz]
 rw[List.take_length,V] at p;rw[tiT.eq_1];refine r_m 10 ?_;refine a_8 ?_;refine a_1 ?_;refine fR (.store rfl rfl hg rfl rfl rfl TS.h (nle rfl)) ?_;refine au ?_;refine r_m 2 ?_;refine a_z ?_;refine⟨(q.set (i+(av MB b).length) c,i+1),by simp;omega,⟨by simp[r],by simp;omega,tD g l,?_,?_⟩,?_⟩;simp only;have e1:=qe MB c S;rw[c9 _ O,Nat.add_mul,←p];omega;intro j C D;rw[List.getElem?_set_ne (by simp only at C;omega)];exact f j (by simp only at C;omega) (by simpa using D);rw[tiS.eq_1];exact s_f [];have K:i=(av MB a).length:=by have:=of_decide_eq_false h;omega
 refine aA ⟨(o,i),⟨⟨e,t,n,m,s⟩,K⟩,?_⟩;rw[tiS.eq_1];exact s_e [];rintro⟨o,i⟩ ⟨⟨e,t,n,m,s⟩,K⟩;simp only at e t n m s K;subst K;rw[List.take_length,va] at m;rw[tiS.eq_1];refine AWp.ent (st':=⟨[(4,.lptr 3 0 0),(5,.arr (dE o))],[(3,some ⟨30,1,[[.emp]]⟩)],4,73⟩) ?_ ?_;refine s_x [] (fun hs=>?_) (fun hs=>?_)
 ·repeat' (first|exact aS|refine az rfl ?_ ?_|exact Cv.sealE hs rfl (aQ rfl) rfl (by simp[e]) (bW _)|exact bh)
 ·repeat' (first|exact aI|refine h_c ?_ ?_|exact cj|refine aG ?_|exact aw|refine ai ?_ ?_|exact Cv.sealE hs rfl (aQ rfl) rfl (by simp[e]) (bW _)|exact bh)
 refine s_r 3 ?_;refine o_0 (.move rfl) ?_;refine o_0 (.call rfl rfl rfl (iQ _ (by omega))) ?_;refine fR (.store rfl rfl rfl rfl rfl rfl TS.h (nle rfl)) ?_;refine au ?_;refine ak (dR rfl rfl rfl TG.h TS.h (nle rfl) ?_ (aB (ac (cg _) ag)));rw[jW (b:=MB) (by decide) n,m];rfl
def siS(a:Nat)(d:Nat):Nat×List Nat×Nat→AState
 |(k,t,r)=>⟨[(8,i64 ((k:Int)- 1)),(1,u32 d),(2,.lptr 1 0 0),(4,.lptr 2 0 0),(5,.lptr 3 0 0),(6,.lsl 4 0 (av MB a).length (some (av MB a).length) 1),(7,u64 r)],
  [(1,some ⟨30,1,[[mag a]]⟩),(2,some ⟨30,1,[[.emp]]⟩),(3,some ⟨30,1,[[.emp]]⟩),(4,some ⟨189,1,dE (List.replicate k 0++t)⟩)],5,46⟩
structure SimI (a d:Nat)(x:Nat×List Nat×Nat):Prop where
 len:x.1+x.2.1.length=(av MB a).length
 dig:∀y∈x.2.1,y< MB
 rest:x.2.2< d
 val:ofD MB ((av MB a).drop x.1)=d* ofD MB x.2.1+x.2.2
theorem EX(a d:Nat)(h:bl a≤17592186044416)(hd0:0< d)(hd:d< 4294967296):FS 188 [.agg [mag a],u32 d] (.tup [.agg [mag (a/ d)],.agg [mag (a % d)]]):=by
 have E:=bZ (b:=MB) (by decide) a;have va:=bD (b:=MB) (by decide) a;refine f_c Tryz.func188 ?_;refine r_z 3 ?_;refine r_z 5 ?_;refine r_z 1 ?_;refine ae (r_z 5 ?_);refine aH (siS a d) (fun x=>SimI a d x∧x.1=0) ?_ ?_;refine am (aD (siS a d) (fun x=>x.1) (SimI a d) ((av MB a).length,[],0) ⟨by simp,by simp,hd0,by simp[ofD]⟩ ?_ ?_);rw[siS.eq_1];exact s_e [(4,6)];rintro⟨k,t,r⟩ ⟨i,g,c,f⟩;simp only at i g c f;rw[siS.eq_1];refine ae (r_z 2 ?_);refine aq rfl (fun h=>?_) (fun h=>?_);have p:0< k:=by have:=of_decide_eq_true h;omega
 obtain⟨x,A⟩:∃x,(av MB a)[k- 1]?=some x:=⟨_,List.getElem?_eq_getElem (by omega)⟩;have D:x< 1000000000:=cQ (by decide) A;have q:(dE (av MB a))[((k:Int)- 1).toNat]?=some [u32 x]:=by rw[show((k:Int)- 1).toNat=k- 1 by omega];exact dW A
 have l:List.replicate k 0++t=List.replicate (k- 1) 0++0::t:=by
  conv=>lhs;rw[show k=(k- 1)+1 by omega,List.replicate_succ']
  simp
 have hg:(dE (List.replicate k 0++t))[0+((k:Int)- 1).toNat]?=some [u32 0]:=by
  rw[show 0+((k:Int)- 1).toNat=k- 1 by omega,l];exact dW (qt _ _ _ _ (by simp))
 have o:∀w:Nat,(dE (List.replicate k 0++t)).set (0+((k:Int)- 1).toNat) [u32 w]=dE (List.replicate (k- 1) 0++(w::t)):=by
  intro w;rw[show 0+((k:Int)- 1).toNat=k- 1 by omega,iz,l,pI _ _ _ _ _ (by simp)];simp
 have s:(r* 1000000000+x) / d< 1000000000:=by
  rw[Nat.div_lt_iff_lt_mul hd0];have:(r+1) * 1000000000≤d* 1000000000:=Nat.mul_le_mul_right _ c;rw[Nat.mul_comm 1000000000 d];omega
 have hA:(r:Int) * 1000000000+x=((r* 1000000000+x:Nat):Int):=by omega
 have m:((r:Int) * 1000000000+x) / d=(((r* 1000000000+x) / d:Nat):Int):=by rw[hA];exact(Int.natCast_ediv _ _).symm
 have n:((r:Int) * 1000000000+x) % d=(((r* 1000000000+x) % d:Nat):Int):=by rw[hA];exact(Int.natCast_emod _ _).symm
 have j:=Nat.mod_lt (r* 1000000000+x) hd0;have e:=Nat.div_add_mod (r* 1000000000+x) d;obtain⟨Q,hQ⟩:∃Q,Q=(r* 1000000000+x) / d:=⟨_,rfl⟩;obtain⟨R,B⟩:∃R,R=(r* 1000000000+x) % d:=⟨_,rfl⟩;rw[←hQ] at s m;rw[←B] at j n;rw[←hQ,←B] at e;refine an (ae (am (s_r 10 ?_)));refine a_5 ?_;refine i_x q ?_;refine l_1 q ?_;refine a_z ?_;refine r_d a9 14 ?_;refine a_5 ?_;refine o_0 (.bin rfl rfl (Bh (by omega))) ?_;refine o_0 (.conv rfl (cU32 (by rw[m];omega) tu_190.h tu_189.h)) ?_;refine a_5 ?_;refine fR (.store rfl rfl hg rfl rfl rfl TS.h (nle rfl)) ?_;refine a_1 ?_;refine au (n_k ?_);refine r_m 3 ?_;refine a_z ?_;refine⟨(k- 1,Q::t,R),by simp;omega,⟨by simp;omega,?_,j,?_⟩,?_⟩;intro y u;rcases List.mem_cons.1 u with rfl|u
 exact s;exact g y u;simp only;rw[la MB A,show k- 1+1=k by omega,f,ofD];have e2:d* (Q+MB* ofD MB t)=d* Q+MB* (d* ofD MB t):=by rw[Nat.mul_add,Nat.mul_left_comm]
 have G:MB* (d* ofD MB t+r)=MB* (d* ofD MB t)+1000000000* r:=Nat.mul_add _ _ _;omega;rw[siS.eq_1];refine s_x [] (fun hs=>?_) (fun hs=>?_)
 ·repeat' (first|exact aS|refine az rfl ?_ ?_|exact Cv.loE hs (congrArg (fun z=>AV.v (.int .u64 z)) n) (ah _)|exact bh)
 ·repeat' (first|exact aI|refine h_c ?_ ?_|(refine aT hs ?_ (bW _);rw[m];exact o _)|exact cj|refine aG ?_|exact aw|refine ai ?_ ?_|exact Cv.loE hs (congrArg (fun z=>AV.v (.int .u64 z)) n) (ah _)|exact bh)
 have p:k=0:=by have:=of_decide_eq_false h;omega
 refine aA ⟨(k,t,r),⟨⟨i,g,c,f⟩,p⟩,?_⟩;rw[siS.eq_1];exact s_e [];rintro⟨k,t,r⟩ ⟨⟨i,g,c,f⟩,C⟩;simp only at i g c f C;subst C;rw[List.drop_zero,va] at f;have s:a/ d=ofD MB t:=by rw[f,Nat.mul_add_div hd0,Nat.div_eq_of_lt c];omega
 have F:a % d=r:=by rw[f,Nat.mul_add_mod];exact Nat.mod_eq_of_lt c
 rw[siS.eq_1];refine AWp.ent (st':=⟨[(4,.lptr 1 0 0),(5,.lptr 2 0 0),(6,.arr (dE t)),(7,u64 r)],[(1,some ⟨30,1,[[.emp]]⟩),(2,some ⟨30,1,[[.emp]]⟩)],3,46⟩) ?_ ?_;exact s_x [(1,4),(2,5)] (fun hs=>e_25) (fun hs=>e_26);refine s_r 6 ?_;refine o_0 (.move rfl) ?_;refine o_0 (.call rfl rfl rfl (iQ _ (by omega))) ?_;refine o_0 (.move rfl) ?_;refine o_0 (.call rfl rfl rfl (gQ r (by omega))) ?_;refine fR (.store rfl rfl rfl rfl rfl rfl TS.h (nle rfl)) ?_;refine fR (.store rfl rfl rfl rfl rfl rfl TS.h (nle rfl)) ?_;refine au ?_;refine ak ?_;rw[s,F];refine Fin.many ⟨_,_,rfl,⟨_,_,_,_,_,rfl,rfl,rfl,.inl ⟨TG.h,_,TS.h,nle rfl,rfl⟩⟩,_,_,rfl,⟨_,_,_,_,_,rfl,rfl,rfl,.inl ⟨TG.h,_,TS.h,nle rfl,rfl⟩⟩,rfl⟩ (nle rfl) ?_;refine ai (Cv.loE ay ?_ (aB (ac (dd (fL t)) ag))) (ai (ao ay (aB (ac (cg r) ag))) aw);rw[jW (b:=MB) (by decide) g];rfl
theorem DM{pre s t post:List Nat}{x e i:Nat}(he:e=pre.length)(hi:i=s.length):(pre++(s++x::t)++post)[e+i]?=some x:=by
 subst he hi;simp
theorem DL{pre s t post:List Nat}{x v e i:Nat}(he:e=pre.length)(hi:i=s.length):(pre++(s++x::t)++post).set (e+i) v=pre++((s++[v])++t)++post:=by
 subst he hi;rw[List.append_assoc,List.set_append_right _ _ (by omega),List.append_assoc,show pre.length+s.length- pre.length=s.length by omega,List.set_append_right _ _ (by omega)];simp
def suS(V:List Nat)(A:List Nat)(pre:List Nat)(post:List Nat)(cap:Option Nat)(t:Nat):List Nat×Nat×Nat→AState
 |(s,c,q)=>⟨[(0,.lsl 0 pre.length A.length cap 1),(1,.arr (dE V)),(2,u64 t),(7,u64 c),(8,i64 q),(13,i64 s.length),(12,i64 A.length)],
  [(0,some ⟨189,1,dE (pre++(s++A.drop s.length)++post)⟩)],1,54⟩
structure SubI (V A:List Nat)(t:Nat)(x:List Nat×Nat×Nat):Prop where
 le:x.1.length≤A.length
 dig:∀d∈x.1,d< MB
 car:x.2.1< MB
 bor:x.2.2≤1
 fin:V.length< x.1.length→x.2.1=0
 val:ofD MB x.1+t* ofD MB (V.take x.1.length)=ofD MB (A.take x.1.length)+MB^ x.1.length* (x.2.2+x.2.1)
theorem AG (pre A post V:List Nat) (t D q:Nat) (cap:Option Nat) (hA:∀d∈A,d< MB) (hV:∀d∈V,d< MB) (ht:t< MB) (hlen:V.length< A.length) (hA2:A.length< 17592186044416) (hq:q≤1)
    (hD:D+t* ofD MB V=ofD MB A+MB^ A.length* q) (hD2:D< MB^ A.length):
    ESpec Tryz.prog 189 189 1 (dE (pre++A++post)) (dE (pre++jl MB A.length D++post)) pre.length A.length cap [.arr (dE V),u64 t] (.bool (q !=0)):=by
 have ht1:t< 1000000000:=ht;refine ESpec.enter Tryz.func189 rfl (by kernel_rfl) rfl rfl rfl ?_ ?_ ?_ rfl ?_;exact ac (dd _) (ac (ah _) ag);exact bW _;exact bW _;refine r_z 1 ?_;refine r_z 2 ?_;refine ae (r_z 3 ?_);refine aH (suS V A pre post cap t) (fun x=>SubI V A t x∧x.1.length=A.length) ?_ ?_;refine am (aD (suS V A pre post cap t) (fun x=>A.length- x.1.length) (SubI V A t) ([],0,0) ⟨by simp,by simp,(show 0< MB by decide),by simp,by simp,by simp[ofD]⟩ ?_ ?_);rw[suS.eq_1];exact s_e [];rintro⟨s,c,β⟩ ⟨hle,hdig,hcar,hbor,hfin,hval⟩;simp only at hle hdig hcar hbor hfin hval;have hc1:c< 1000000000:=hcar;rw[suS.eq_1];refine r_z 1 ?_;refine ae (aq rfl (fun h=>?_) (fun h=>?_));have hlt:s.length< A.length:=by have:=of_decide_eq_true h;omega
 obtain⟨x,hx⟩:∃x,A[s.length]?=some x:=⟨_,List.getElem?_eq_getElem hlt⟩;have hx1:x< 1000000000:=hA x (List.mem_of_getElem? hx)
 have hg:(dE (pre++(s++A.drop s.length)++post))[pre.length+((s.length:Nat):Int).toNat]?=some [u32 x]:=by
  rw[Int.toNat_natCast,gC hx];exact dW (DM rfl rfl)
 have hset:∀w:Nat,(dE (pre++(s++A.drop s.length)++post)).set (pre.length+((s.length:Nat):Int).toNat) [u32 w]=dE (pre++((s++[w])++A.drop (s++[w]).length)++post):=by
  intro w;rw[Int.toNat_natCast,gC hx,iz,DL rfl rfl];simp
 refine an (ae (am (r_z 2 ?_)));refine ae (r_z 4 ?_)
 refine aH (fun v:Nat=>⟨[(0,.lsl 0 pre.length A.length cap 1),(1,.arr (dE V)),(2,u64 t),(7,u64 v),(8,i64 β),(9,i64 s.length),(13,i64 s.length),(12,i64 A.length)],
  [(0,some ⟨189,1,dE (pre++(s++A.drop s.length)++post)⟩)],1,54⟩)
  (fun v=>v=c+t* (V[s.length]?.getD 0)∧v≤999999999+999999999* 999999999∧(V.length≤s.length→v=c)) ?_ ?_
 refine aq rfl (fun h=>?_) (fun h=>?_);have hlt2:s.length< V.length:=by have:=of_decide_eq_true h;simp at this;omega
 obtain⟨y,hy⟩:∃y,V[s.length]?=some y:=⟨_,List.getElem?_eq_getElem hlt2⟩;have hy1:y< 1000000000:=hV y (List.mem_of_getElem? hy);have hy':(dE V)[((s.length:Nat):Int).toNat]?=some [u32 y]:=dW hy;have hxy0:t* y≤999999999* 999999999:=Nat.mul_le_mul (by omega) (by omega);have hxyn:0≤(t:Int) * y:=Int.mul_nonneg (by omega) (by omega);have hxyi:(t:Int) * y=((t* y:Nat):Int):=(Int.natCast_mul _ _).symm;refine r_m 10 ?_;refine a_4 ?_;refine i_x hy' ?_;refine l_1 hy' ?_;refine a_z ?_;refine⟨c+t* y,⟨by rw[hy];rfl,by omega,fun h=>absurd h (by omega)⟩,?_⟩;have hI:(c:Int)+(t:Int) * y=((c+t* y:Nat):Int):=by omega
 have:=(congrArg (fun z=>AV.v (.int .u64 z)) hI);exact s_f [];have hlt2:¬s.length< V.length:=by have:=of_decide_eq_false h;simp at this;omega
 refine an ⟨c,⟨by rw[List.getElem?_eq_none (by omega)];simp,by omega,fun _=>rfl⟩,?_⟩;exact s_e [];rintro v ⟨hv,hv1,hv2⟩;refine s_r 12 ?_;refine a_2 ?_;refine ce (.index_l rfl rfl (by omega) (by omega) te_28.h) rfl rfl ?_;refine ce (.load_l1 rfl rfl hg TG.h rfl) rfl rfl ?_;refine a_z ?_;refine r_z 3 ?_;refine r_z 1 ?_;refine ae (r_z 2 ?_)
 have hnext:∀w q',w+v % 1000000000+β=x+1000000000* q'→w< 1000000000→q'≤1→SubI V A t (s++[w],v/ 1000000000,q'):=by
  intro w q' hw hwb hq';refine⟨by simp;omega,?_,?_,hq',?_,?_⟩;intro d hd;rcases List.mem_append.1 hd with hd|hd
  exact hdig d hd;simp at hd;subst hd;exact hwb;show v/ 1000000000< 1000000000;omega;intro hl;simp at hl;have:=hv2 (by omega);simp only;omega;simp only[List.length_append,List.length_singleton];rw[iu,c9 _ hx,fm,Nat.pow_succ];have e:MB^ s.length* (w+v % 1000000000+β+1000000000* (v/ 1000000000))=MB^ s.length* (x+MB* q'+MB* (v/ 1000000000)):=by rw[hw]
  have e2:w+v % 1000000000+β+1000000000* (v/ 1000000000)=w+β+(c+t* (V[s.length]?.getD 0)):=by rw[←hv];have:=Nat.mod_add_div v 1000000000;omega
  rw[e2] at e;have e3:t* (ofD MB (V.take s.length)+MB^ s.length* (V[s.length]?.getD 0))=t* ofD MB (V.take s.length)+MB^ s.length* (t* (V[s.length]?.getD 0)):=by rw[Nat.mul_add,Nat.mul_left_comm]
  rw[e3];have e4:MB^ s.length* MB* (q'+v/ 1000000000)=MB^ s.length* (MB* q')+MB^ s.length* (MB* (v/ 1000000000)):=by rw[Nat.mul_assoc,Nat.mul_add,Nat.mul_add]
  rw[e4];simp only[Nat.mul_add] at e hval⊢;omega
 refine aq rfl (fun h=>?_) (fun h=>?_);have hb:(x:Int)- v % 1000000000- β< 0:=by have:=of_decide_eq_true h;omega
 have hI:(x:Int)- (v:Int) % 1000000000- β+1000000000=((x+1000000000- v % 1000000000- β:Nat):Int):=by omega
 refine r_m 4 ?_;refine a_z ?_;refine r_m 6 ?_;refine a_4 ?_;refine ce (.index_l rfl rfl (by omega) (by omega) te_28.h) rfl rfl ?_;refine fR (.store rfl rfl hg rfl rfl rfl TS.h (nle rfl)) ?_;refine au ?_;refine r_m 2 ?_;refine a_z ?_;refine⟨(s++[x+1000000000- v % 1000000000- β],v/ 1000000000,1),by simp;omega,hnext _ _ (by omega) (by omega) (Nat.le_refl _),?_⟩;rw[suS.eq_1];exact s_x [] (fun hs=>ek) (fun hs=>e_15);have hb:¬(x:Int)- v % 1000000000- β< 0:=by have:=of_decide_eq_false h;omega
 have hI:(x:Int)- (v:Int) % 1000000000- β=((x- v % 1000000000- β:Nat):Int):=by omega
 refine an (r_m 6 ?_);refine a_3 ?_;refine o_0 (.conv rfl (cU32 (by omega) tu_2.h tu_189.h)) ?_;refine a_1 ?_;refine fR (.store rfl rfl hg rfl rfl rfl TS.h (nle rfl)) ?_;refine au ?_;refine r_m 2 ?_;refine a_z ?_;refine⟨(s++[x- v % 1000000000- β],v/ 1000000000,0),by simp;omega,hnext _ _ (by omega) (by omega) (by omega),?_⟩;rw[suS.eq_1];exact s_x [] (fun hs=>ek) (fun hs=>e_15);have hl:s.length=A.length:=by have:=of_decide_eq_false h;omega
 refine aA ⟨(s,c,β),⟨⟨hle,hdig,hcar,hbor,hfin,hval⟩,hl⟩,?_⟩;rw[suS.eq_1];exact s_e [];rintro⟨s,c,β⟩ ⟨⟨hle,hdig,hcar,hbor,hfin,hval⟩,hl⟩;simp only at hle hdig hcar hbor hfin hval hl;have hc0:=hfin (by omega);subst hc0;rw[hl,List.take_length,List.take_of_length_le (by omega),Nat.add_zero] at hval;have hs1:=gc hdig;rw[hl] at hs1;have hpos:0< MB^ A.length:=Nat.pow_pos (by decide)
 have hqq:β=q∧ofD MB s=D:=by
  rcases Nat.le_one_iff_eq_zero_or_eq_one.1 hq with rfl|rfl <;> rcases Nat.le_one_iff_eq_zero_or_eq_one.1 hbor with rfl|rfl <;> constructor <;> omega
 obtain⟨rfl,rfl⟩:=hqq;rw[suS.eq_1];refine r_z 3 ?_;refine ak (FinE.tmp rfl ?_ rfl ?_);congr 2;rw[Bool.eq_iff_iff];simp;rw[hl,List.drop_length,List.append_nil,←yK hdig hl rfl]
end Go.Proofs.YtkhclghbcicapaaGreatDoor
