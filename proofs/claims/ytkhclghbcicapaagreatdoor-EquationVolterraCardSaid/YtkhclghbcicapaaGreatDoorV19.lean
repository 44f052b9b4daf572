/- Part V19 of the proof. -/
import Derived.Test.YtkhclghbcicapaaGreatDoorV18
set_option linter.all false
namespace Go.Proofs.YtkhclghbcicapaaGreatDoor
open Go.Abs
set_option maxRecDepth 20000
def yZ(n:Nat):Nat→AState
 |0=>⟨[(0,u64 n),(2,.lptr 1 0 0),(3,.emp)],[(1,some ⟨30,1,[[.emp]]⟩)],2,16⟩
 |k+1=>⟨[(0,u64 (k7 n (k+1))),(2,.lptr 1 0 0),(3,.lsl 2 0 (k+1) none 1)],[(1,some ⟨30,1,[[.emp]]⟩),(2,some ⟨189,1,dE (xo n (k+1))⟩)],3,16⟩
theorem io(n:Nat)(h:n< 18446744073709551616):FS 130 [u64 n] (.agg [mag n]):=by
 have f:(av MB n).length≤3:=gL (by decide) (Nat.lt_of_lt_of_le h (by decide));refine f_c Tryz.func130 ?_;refine r_z 1 ?_;refine r_z 1 ?_;refine bD (yZ n) (fun k=>k=(av MB n).length) ?_ ?_;refine am (aD (yZ n) (fun k=>(av MB n).length- k) (fun k=>k≤(av MB n).length) 0 (Nat.zero_le _) ?_ ?_);rw[yZ.eq_1];exact s_e [];rintro k d;have g:=Hy d;have j:=Hz d;have b:=nE d;cases k with
 |zero=>
  rw[vN] at j;refine ae (r_z 2 ?_);refine aq rfl (fun h=>?_) (fun h=>?_);refine an ?_;have i:0< n:=by simpa using h
  have c:0< (av MB n).length:=by omega
  obtain⟨a,ht⟩:=vO c;rw[vN] at a ht;refine ae (am (r_m 7 ?_));refine a_z ?_;refine r_m 3 ?_;refine a_z ?_;refine⟨1,by omega,c,?_⟩;rw[yZ.eq_2];refine s_x [(2,3)] (fun hs=>?_) (fun hs=>?_) ?_
  ·repeat' (first|exact aS|refine az rfl ?_ ?_|exact bm|(refine Cv.loE hs ?_ (ah _);first|rfl|(simp[i64,u64,u32,bln,a,ht,jc];done)|(simp[i64,u64,u32,bln,a,ht,jc]<;> omega)))
  ·repeat' (first|exact aI|refine h_c ?_ ?_|exact cu|(refine aT hs ?_ (b6 _);first|(simp[iU,mf,iV,a,ht,jc];done)|(simp[dE,u32,ofV,a,ht,jc];done))|refine aG ?_|exact aw|refine ai ?_ ?_|exact bm|(refine Cv.loE hs ?_ (ah _);first|(simp[i64,u64,u32,bln,a,ht,jc];done)|(simp[i64,u64,u32,bln,a,ht,jc]<;> omega)))
  ·repeat' (first|exact ShrL.nil|refine ShrL.cons rfl rfl rfl rfl (by first|rfl|(simp;done)|(simp[a,ht,jc]<;> omega)) ?_)
  refine aA ⟨0,?_,?_⟩;have:¬0< n:=by simpa using h
  omega;rw[yZ.eq_1];exact s_e []
 |succ k=>
  rw[yZ.eq_2];refine ae (r_z 2 ?_);refine aq rfl (fun h=>?_) (fun h=>?_);refine an ?_;have i:0< k7 n (k+1):=by simpa using h
  have c:k+1< (av MB n).length:=by omega
  obtain⟨a,ht⟩:=vO c;refine ae (am (r_m 7 ?_));refine a_z ?_;refine r_m 3 ?_;refine a_z ?_;refine⟨k+1+1,by omega,c,?_⟩;rw[yZ.eq_2];refine s_x [(2,3)] (fun hs=>?_) (fun hs=>?_) ?_
  ·repeat' (first|exact aS|refine az rfl ?_ ?_|exact bm|(refine Cv.loE hs ?_ (ah _);first|rfl|(simp[i64,u64,u32,bln,a,ht,b];done)|(simp[i64,u64,u32,bln,a,ht,b]<;> omega)))
  ·repeat' (first|exact aI|refine h_c ?_ ?_|exact cu|(refine aT hs ?_ (b6 _);first|(simp[iU,mf,iV,a,ht,b];done)|(simp[dE,u32,ofV,a,ht,b];done))|refine aG ?_|exact aw|refine ai ?_ ?_|exact bm|(refine Cv.loE hs ?_ (ah _);first|(simp[i64,u64,u32,bln,a,ht,b];done)|(simp[i64,u64,u32,bln,a,ht,b]<;> omega)))
  ·repeat' (first|exact ShrL.nil|refine ShrL.cons rfl rfl rfl rfl (by first|rfl|(simp;done)|(simp[a,ht,b]<;> omega)) ?_)
  refine aA ⟨k+1,?_,?_⟩;have:¬0< k7 n (k+1):=by simpa using h
  omega;rw[yZ.eq_2];exact s_e []
 rintro k rfl;cases d:(av MB n).length with
 |zero=>
  rw[yZ.eq_1];refine r_z 3 ?_;refine ak (Fin.cell rfl rfl rfl TG.h TS.h (nle rfl) (Cv.agg (ai (Cv.emp _ ?_) aw)));unfold mag;rw[List.length_eq_zero_iff] at d;rw[d];rfl
 |succ k=>
  rw[yZ.eq_2];refine r_z 3 ?_;refine ak (Fin.cell rfl rfl rfl TG.h TS.h (nle rfl) (Cv.agg (ai (Cv.shut ay rfl (fun _ _ h=>by cases h) ?_ ?_) aw)));simp[nE (Nat.le_of_eq d.symm)];refine aT ay ?_ (b6 _);have h1:(xo n (k+1)).length=k+1:=nE (Nat.le_of_eq d.symm);have e:=HL n;rw[d] at e;simp only[List.drop_zero,Fs];rw[List.take_of_length_le (Nat.le_of_eq h1),e]
def HN(p:Nat)(q:Nat):List Nat×Nat→AState
 |(s,c)=>⟨[(26,i64 s.length),(25,i64 (av MB p).length),(24,mag p),(2,.lptr 1 0 0),(3,.lptr 2 0 0),(4,.lptr 3 0 0),(5,.lsl 4 0 ((av MB p).length+1) (some ((av MB p).length+1)) 1),(6,u32 c)],
  [(1,some ⟨30,1,[[mag p]]⟩),(2,some ⟨30,1,[[mag q]]⟩),(3,some ⟨30,1,[[.emp]]⟩),(4,some ⟨189,1,dE (s++List.replicate ((av MB p).length+1- s.length) 0)⟩)],5,63⟩
structure PlusI (p q:Nat)(a:List Nat×Nat):Prop where
 le:a.1.length≤(av MB p).length
 dig:∀d∈a.1,d< MB
 car:a.2≤1
 val:ofD MB a.1+MB^ a.1.length* a.2=ofD MB ((av MB p).take a.1.length)+ofD MB ((av MB q).take a.1.length)
theorem zM(a b:Nat)(h:bl a+bl b≤17592186044416):FS 129 [.agg [mag a],.agg [mag b]] (.agg [mag (a+b)]):=by
 have hla:=b8 (b:=MB) (by decide) a;have hlb:=b8 (b:=MB) (by decide) b;refine f_c Tryz.func129 ?_;refine r_z 3 ?_;refine ae (r_z 7 ?_)
 refine aH (fun x:Nat×Nat=>⟨[(2,.lptr 1 0 0),(3,.lptr 2 0 0),(4,.lptr 3 0 0)],[(1,some ⟨30,1,[[mag x.1]]⟩),(2,some ⟨30,1,[[mag x.2]]⟩),(3,some ⟨30,1,[[.emp]]⟩)],4,63⟩)
  (fun x=>x.1+x.2=a+b∧(av MB x.2).length≤(av MB x.1).length∧(av MB x.1).length≤17592186044416) ?_ ?_
 refine aq rfl (fun h=>?_) (fun h=>?_);refine r_m 4 ?_;refine a_z ?_;refine⟨(b,a),⟨by simp;omega,?_,by simp;omega⟩,?_⟩;simp at h;simp;omega;exact s_e [];refine an ⟨(a,b),⟨rfl,?_,by simp;omega⟩,?_⟩;simp at h;simpa using h;exact s_e [];rintro⟨p,q⟩ ⟨hpq,hqp,hp⟩;simp only at hpq hqp hp⊢;refine r_z 6 ?_;refine r_z 1 ?_;refine ae (r_z 4 ?_);refine aH (HN p q) (fun x=>PlusI p q x∧x.1.length=(av MB p).length) ?_ ?_;refine am (aD (HN p q) (fun x=>(av MB p).length- x.1.length) (PlusI p q) ([],0) ⟨by simp,by simp,by simp,by simp[ofD]⟩ ?_ ?_);rw[HN.eq_1];exact s_e [(4,5)];rintro⟨s,c⟩ ⟨hle,hdig,hcar,hval⟩;simp only at hle hdig hcar hval;rw[HN.eq_1];refine r_z 1 ?_;refine ae (aq rfl (fun h=>?_) (fun h=>?_));refine an ?_;have hlt:s.length< (av MB p).length:=by simpa using h
 obtain⟨x,hx⟩:∃x,(av MB p)[s.length]?=some x:=⟨_,List.getElem?_eq_getElem hlt⟩;have hx1:x< 1000000000:=cV (by decide) hx;have hx':(dE (av MB p))[((s.length:Nat):Int).toNat]?=some [u32 x]:=ea hx;refine ae (am (s_r 5 ?_));refine a_1 ?_;refine i_x hx' ?_;refine l_1 hx' ?_;refine a_z ?_;refine r_z 4 ?_;refine ae (r_z 5 ?_)
 have hq0:∀y,((av MB q)[s.length]?.getD 0=y)→y< 1000000000:=by
  rintro y rfl;cases hy:(av MB q)[s.length]? with
  |none=>decide
  |some y=>exact cV (by decide) hy
 refine aH (fun v:Nat=>⟨[(26,i64 s.length),(25,i64 (av MB p).length),(24,mag p),(2,.lptr 1 0 0),(3,.lptr 2 0 0),(4,.lptr 3 0 0),(5,.lsl 4 0 ((av MB p).length+1) (some ((av MB p).length+1)) 1),(7,i64 s.length),(8,u32 v)],
  [(1,some ⟨30,1,[[mag p]]⟩),(2,some ⟨30,1,[[mag q]]⟩),(3,some ⟨30,1,[[.emp]]⟩),(4,some ⟨189,1,dE (s++List.replicate ((av MB p).length+1- s.length) 0)⟩)],5,63⟩)
  (fun v=>v=x+c+(av MB q)[s.length]?.getD 0) ?_ ?_
 refine aq rfl (fun h=>?_) (fun h=>?_);have hlt2:s.length< (av MB q).length:=by simpa using h
 obtain⟨y,hy⟩:∃y,(av MB q)[s.length]?=some y:=⟨_,List.getElem?_eq_getElem hlt2⟩;have hy1:y< 1000000000:=cV (by decide) hy;have hy':(dE (av MB q))[((s.length:Nat):Int).toNat]?=some [u32 y]:=ea hy;refine r_m 8 ?_;refine a_4 ?_;refine i_x hy' ?_;refine l_1 hy' ?_;refine a_z ?_;refine⟨x+c+y,by rw[hy];rfl,?_⟩;exact s_e [];have hlt2:¬s.length< (av MB q).length:=by simpa using h
 refine an ⟨x+c,by rw[List.getElem?_eq_none (by omega)];rfl,?_⟩;exact s_e [];rintro v hv;obtain⟨y,hy⟩:∃y,y=(av MB q)[s.length]?.getD 0:=⟨_,rfl⟩;have hy1:=hq0 y hy.symm;rw[←hy] at hv;refine r_z 1 ?_;refine ae (r_z 2 ?_)
 have hg:(dE (s++List.replicate ((av MB p).length+1- s.length) 0))[0+((s.length:Nat):Int).toNat]?=some [u32 0]:=by
  rw[Nat.zero_add,Int.toNat_natCast];exact ea (by rw[show(av MB p).length+1- s.length=((av MB p).length- s.length)+1 by omega];exact Bu _ _ _ rfl)
 have hset:∀w:Nat,(dE (s++List.replicate ((av MB p).length+1- s.length) 0)).set (0+((s.length:Nat):Int).toNat) [u32 w]=dE ((s++[w])++List.replicate ((av MB p).length+1- (s++[w]).length) 0):=by
  intro w;rw[Nat.zero_add,Int.toNat_natCast,iU,show(av MB p).length+1- s.length=((av MB p).length- s.length)+1 by omega,AW _ _ _ _ rfl,show(av MB p).length+1- (s++[w]).length=(av MB p).length- s.length by simp]
 have hnext:∀w c',w+1000000000* c'=x+c+y→w< 1000000000→c'≤1→PlusI p q (s++[w],c'):=by
  intro w c' hw hwb hc';refine⟨by simp;omega,?_,hc',?_⟩;intro d hd;rcases List.mem_append.1 hd with hd|hd
  exact hdig d hd;simp at hd;subst hd;exact hwb;simp only[List.length_append,List.length_singleton];rw[iQ,dc _ hx,fy,←hy,Nat.pow_succ];have e:MB^ s.length* w+MB^ s.length* MB* c'=MB^ s.length* (w+MB* c'):=by rw[Nat.mul_add,Nat.mul_assoc]
  have e2:MB^ s.length* (x+c+y)=MB^ s.length* x+MB^ s.length* c+MB^ s.length* y:=by rw[Nat.mul_add,Nat.mul_add]
  rw[hw,e2] at e;omega
 refine aq rfl (fun h=>?_) (fun h=>?_);have hb:1000000000≤v:=by have:=of_decide_eq_true h;omega
 have hv1:((v:Int)- 1000000000)=((v- 1000000000:Nat):Int):=by omega
 refine r_m 4 ?_;refine a_z ?_;refine r_m 5 ?_;refine a_4 ?_;refine fY (.store rfl rfl hg rfl rfl rfl TS.h (nle rfl)) ?_;refine au ?_;refine r_m 2 ?_;refine a_z ?_;refine⟨(s++[v- 1000000000],1),by simp;omega,hnext _ _ (by omega) (by omega) (Nat.le_refl _),?_⟩;rw[HN.eq_1];exact s_x [] (fun hs=>eA) (fun hs=>e_21);have hb:v< 1000000000:=by have:=of_decide_eq_false h;omega
 refine an (r_m 5 ?_);refine a_4 ?_;refine fY (.store rfl rfl hg rfl rfl rfl TS.h (nle rfl)) ?_;refine au ?_;refine r_m 2 ?_;refine a_z ?_;refine⟨(s++[v],0),by simp;omega,hnext _ _ (by omega) hb (by omega),?_⟩;rw[HN.eq_1];exact s_x [] (fun hs=>eA) (fun hs=>e_22);refine aA ⟨(s,c),⟨⟨hle,hdig,hcar,hval⟩,?_⟩,?_⟩;simp at h;simp;omega;rw[HN.eq_1];exact s_e [];rintro⟨s,c⟩ ⟨⟨hle,hdig,hcar,hval⟩,hlen⟩;simp only at hle hdig hcar hval hlen
 have hg:(dE (s++List.replicate ((av MB p).length+1- s.length) 0))[0+(((av MB p).length:Nat):Int).toNat]?=some [u32 0]:=by
  rw[Nat.zero_add,Int.toNat_natCast,←hlen];exact ea (by rw[show s.length+1- s.length=0+1 by omega];exact Bu _ _ _ rfl)
 have hset:(dE (s++List.replicate ((av MB p).length+1- s.length) 0)).set (0+(((av MB p).length:Nat):Int).toNat) [u32 c]=dE (s++[c]):=by
  rw[Nat.zero_add,Int.toNat_natCast,←hlen,iU,show s.length+1- s.length=0+1 by omega,AW _ _ _ _ rfl];simp
 have hres:fS (s++[c])=av MB (a+b):=by
  rw[kD (b:=MB) (by decide),iQ,hval,iP _ (by omega),iP _ (by omega),bG (by decide),bG (by decide),hpq];intro d hd;rcases List.mem_append.1 hd with hd|hd
  exact hdig d hd;simp at hd;subst hd;show d< 1000000000;omega
 rw[HN.eq_1];refine s_r 7 ?_;refine a_6 ?_;refine fY (.store rfl rfl hg rfl rfl rfl TS.h (nle rfl)) ?_;refine au ?_;refine AWp.ent (st':=⟨[(4,.lptr 3 0 0),(5,.arr (dE (s++[c])))],[(3,some ⟨30,1,[[.emp]]⟩)],4,63⟩) ?_ ?_;refine s_x [] (fun hs=>?_) (fun hs=>?_)
 ·repeat' (first|exact aS|refine az rfl ?_ ?_|exact Cv.sealE hs rfl (aQ rfl) hset (by simp[hlen]) (b6 _)|exact bm)
 ·repeat' (first|exact aI|refine h_c ?_ ?_|exact cu|refine aG ?_|exact aw|refine ai ?_ ?_|exact Cv.sealE hs rfl (aQ rfl) hset (by simp[hlen]) (b6 _)|exact bm)
 refine s_r 3 ?_;refine o_0 (.move rfl) ?_;refine o_0 (.call rfl rfl rfl (jl _ (by simp;omega))) ?_;refine a_z ?_;refine ak (dV rfl rfl rfl TG.h TS.h (nle rfl) ?_ (aB (ac (cm _) ag)));rw[hres];rfl
def agS(a:Nat)(b:Nat):Nat→AState
 |k=>⟨[(2,.lptr 1 0 0),(3,.lptr 2 0 0),(6,i64 ((k:Int)- 1))],[(1,some ⟨30,1,[[mag a]]⟩),(2,some ⟨30,1,[[mag b]]⟩)],3,40⟩
theorem qh(a b:Nat)(h:bl a+bl b≤17592186044416):FS 74 [.agg [mag a],.agg [mag b]] (i64 (fm a b)):=by
 have t:=b8 (b:=MB) (by decide) a;have s:=b8 (b:=MB) (by decide) b;refine f_c Tryz.func74 ?_;refine r_z 3 ?_;refine ae (r_c 8 (z8 _ _) ?_);refine a_z ?_;refine r_z 2 ?_;refine aq rfl (fun h=>?_) (fun h=>?_);have c:fm (av MB a).length (av MB b).length≠0:=by simpa using h
 refine r_z 2 ?_;refine ak (aY rfl ?_ (ah _));unfold i64;congr 2;rw[u4] at c;rcases Nat.lt_or_ge (av MB a).length (av MB b).length with d|d
 have:=kj (by decide) d;rw[mY (by omega),mY (by omega)];have:=kj (m:=b) (n:=a) (b:=MB) (by decide) (by omega);rw[oU (by omega),oU (by omega)]
 have heq:(av MB a).length=(av MB b).length:=by
  have r:¬fm (av MB a).length (av MB b).length≠0:=by simpa using h
  rw[u4] at r;omega
 refine an (ae (r_z 5 ?_));refine aH (agS a b) (fun k=>k=0∧a=b) ?_ ?_;refine am (aD (agS a b) (fun k=>k) (fun k=>k≤(av MB a).length∧(av MB a).drop k=(av MB b).drop k) (av MB a).length ⟨Nat.le_refl _,by rw[List.drop_length,heq,List.drop_length]⟩ ?_ ?_);rw[agS.eq_1];exact s_e [];rintro k ⟨u,e⟩;rw[agS.eq_1];refine ae (r_z 2 ?_);refine aq rfl (fun h=>?_) (fun h=>?_);have f:0< k:=by have:=of_decide_eq_true h;omega
 obtain⟨x,j⟩:∃x,(av MB a)[k- 1]?=some x:=⟨_,List.getElem?_eq_getElem (by omega)⟩;obtain⟨y,l⟩:∃y,(av MB b)[k- 1]?=some y:=⟨_,List.getElem?_eq_getElem (by omega)⟩;have i:(dE (av MB a))[((k:Int)- 1).toNat]?=some [u32 x]:=by rw[show((k:Int)- 1).toNat=k- 1 by omega];exact ea j
 have g:(dE (av MB b))[((k:Int)- 1).toNat]?=some [u32 y]:=by rw[show((k:Int)- 1).toNat=k- 1 by omega];exact ea l
 rw[show k=(k- 1)+1 by omega] at e;refine an (ae (am (ae (r_d ba 12 ?_))));refine a_3 ?_;refine i_x i ?_;refine l_1 i ?_;refine a_3 ?_;refine i_x g ?_;refine l_1 g ?_;refine c_s (z7 x y) ?_;refine a_1 ?_;refine au (n_k ?_);refine r_z 2 ?_;refine aq rfl (fun q=>?_) (fun q=>?_);have c:fm x y≠0:=by simpa using q
 refine r_z 2 ?_;refine ak (aY rfl ?_ (ah _));unfold i64;congr 2;rw[u4] at c;rcases Nat.lt_or_ge x y with d|d
 have:=oC (b:=MB) (ee (by decide) a) j l e d;rw[bG (by decide),bG (by decide)] at this;rw[mY (by omega),mY (by omega)];have:=oC (b:=MB) (ee (by decide) b) l j e.symm (by omega);rw[bG (by decide),bG (by decide)] at this;rw[oU (by omega),oU (by omega)]
 have o:x=y:=by
  have r:¬fm x y≠0:=by simpa using q
  rw[u4] at r;omega
 refine an (r_m 3 ?_);refine a_z ?_;refine⟨k- 1,by omega,⟨by omega,?_⟩,?_⟩;rw[gU j,gU l,e,o];rw[agS.eq_1];exact s_e [];have f:k=0:=by have:=of_decide_eq_false h;omega
 subst f;refine aA ⟨0,⟨rfl,?_⟩,?_⟩;have:=congrArg (ofD MB) e;rwa[List.drop_zero,List.drop_zero,bG (by decide),bG (by decide)] at this;rw[agS.eq_1];exact s_e [];rintro k ⟨rfl,p⟩;rw[agS.eq_1];refine r_z 1 ?_;refine ak (aY rfl ?_ (ah _));subst p;rw[Fw rfl];rfl
def leS(a:Nat)(b:Nat):List Nat×Nat→AState
 |(s,c)=>⟨[(19,i64 s.length),(18,i64 (av MB a).length),(2,.lptr 1 0 0),(3,.lptr 2 0 0),(4,.lptr 3 0 0),(5,.lsl 4 0 (av MB a).length (some (av MB a).length) 1),(6,u32 c)],
  [(1,some ⟨30,1,[[mag a]]⟩),(2,some ⟨30,1,[[mag b]]⟩),(3,some ⟨30,1,[[.emp]]⟩),(4,some ⟨189,1,dE (s++(av MB a).drop s.length)⟩)],5,61⟩
def leT(n:Nat):List Nat×Unit→AState
 |(o,u)=>⟨[(4,.lptr 3 0 0),(5,.lsl 4 0 n (some n) 1)],
  [(3,some ⟨30,1,[[.emp]]⟩),(4,some ⟨189,1,dE o⟩)],5,61⟩
structure LessI (a b:Nat)(x:List Nat×Nat):Prop where
 le:x.1.length≤(av MB a).length
 dig:∀d∈x.1,d< MB
 car:x.2≤1
 val:ofD MB x.1+ofD MB ((av MB b).take x.1.length)=ofD MB ((av MB a).take x.1.length)+MB^ x.1.length* x.2
theorem zP(a b:Nat)(h:bl a≤17592186044416)(hba:b≤a):FS 156 [.agg [mag a],.agg [mag b]] (.agg [mag (a- b)]):=by
 have hla:=b8 (b:=MB) (by decide) a;have hlen:=Bo (b:=MB) (by decide) hba;have va:=bG (b:=MB) (by decide) a;have vb:=bG (b:=MB) (by decide) b;refine f_c Tryz.func156 ?_;refine r_z 3 ?_;refine r_z 5 ?_;refine s_r 4 ?_;refine a_3 ?_;refine o_1 (.copy rfl rfl rfl te_28.h rfl rfl rfl (by first|(simp;done)|(simp;omega)) (by first|exact gf _|exact gd _|exact fc _|exact gi _|exact fW _|rfl|simp) rfl (.arr (Ap _))) ?_;refine au ?_
 have hcp:fL (List.replicate (av MB a).length [ofV (Value.int IntKind.u32 0)]) 0 (List.take (Nat.min (dE (av MB a)).length (av MB a).length) (dE (av MB a)))=dE ([]++(av MB a).drop 0):=by
  rw[FN];rw[List.take_of_length_le (by simp)];rfl;simp
 refine r_z 1 ?_;refine ae (r_z 3 ?_);refine aH (leT (av MB a).length) (fun x=>(∀d∈x.1,d< MB)∧x.1.length=(av MB a).length∧ofD MB x.1=a- b) ?_ ?_;refine am (aD (leS a b) (fun x=>(av MB a).length- x.1.length) (LessI a b) ([],0) ⟨by simp,by simp,by simp,by simp[ofD]⟩ ?_ ?_);rw[leS.eq_1];exact s_x [(4,5)] (fun hs=>eA) (fun hs=>e_24) e_23;rintro⟨s,c⟩ ⟨hle,hdig,hcar,hval⟩;simp only at hle hdig hcar hval;rw[leS.eq_1];refine r_z 1 ?_;refine ae (aq rfl (fun h=>?_) (fun h=>?_));have hlt:s.length< (av MB a).length:=by have:=of_decide_eq_true h;omega
 obtain⟨x,hx⟩:∃x,(av MB a)[s.length]?=some x:=⟨_,List.getElem?_eq_getElem hlt⟩;have hx1:x< 1000000000:=cV (by decide) hx;have hdx:=gU hx;refine an (ae (am (r_z 2 ?_)));refine r_z 2 ?_;refine ae (r_z 5 ?_)
 refine aH (fun v:Nat=>⟨[(19,i64 s.length),(18,i64 (av MB a).length),(2,.lptr 1 0 0),(3,.lptr 2 0 0),(4,.lptr 3 0 0),(5,.lsl 4 0 (av MB a).length (some (av MB a).length) 1),(6,u32 c),(7,i64 s.length),(8,u32 v)],
  [(1,some ⟨30,1,[[mag a]]⟩),(2,some ⟨30,1,[[mag b]]⟩),(3,some ⟨30,1,[[.emp]]⟩),(4,some ⟨189,1,dE (s++(av MB a).drop s.length)⟩)],5,61⟩)
  (fun v=>v=c+(av MB b)[s.length]?.getD 0∧v≤1000000000) ?_ ?_
 refine aq rfl (fun h=>?_) (fun h=>?_);have hlt2:s.length< (av MB b).length:=by have:=of_decide_eq_true h;omega
 obtain⟨y,hy⟩:∃y,(av MB b)[s.length]?=some y:=⟨_,List.getElem?_eq_getElem hlt2⟩;have hy1:y< 1000000000:=cV (by decide) hy;have hy':(dE (av MB b))[((s.length:Nat):Int).toNat]?=some [u32 y]:=ea hy;refine r_m 8 ?_;refine a_4 ?_;refine i_x hy' ?_;refine l_1 hy' ?_;refine a_z ?_;refine⟨c+y,⟨by rw[hy];rfl,by omega⟩,?_⟩;exact s_e [];have hlt2:¬s.length< (av MB b).length:=by have:=of_decide_eq_false h;omega
 refine r_z 2 ?_;refine aq rfl (fun h=>?_) (fun h=>?_);have hc0:c=0:=by simpa using h
 refine aA ⟨(s++(av MB a).drop s.length,()),⟨?_,by simp;omega,?_⟩,?_⟩;intro d hd;rcases List.mem_append.1 hd with hd|hd
 exact hdig d hd;exact ee (by decide) a d (List.mem_of_mem_drop hd);have:=eD MB s.length (av MB a) (by omega);rw[va] at this;rw[iP _ (by omega),vb,hc0] at hval;simp only[iv];omega;rw[leT.eq_1];exact s_e [];refine an ⟨c,⟨by rw[List.getElem?_eq_none (by omega)];rfl,by omega⟩,?_⟩;exact s_e [];rintro v ⟨hv,hv1⟩;obtain⟨y,hy⟩:∃y,y=(av MB b)[s.length]?.getD 0:=⟨_,rfl⟩;rw[←hy] at hv
 have hg:(dE (s++(av MB a).drop s.length))[0+((s.length:Nat):Int).toNat]?=some [u32 x]:=by
  rw[Nat.zero_add,Int.toNat_natCast,hdx];exact ea (rF _ _ _ _ rfl)
 have hset:∀w:Nat,(dE (s++(av MB a).drop s.length)).set (0+((s.length:Nat):Int).toNat) [u32 w]=dE ((s++[w])++(av MB a).drop (s++[w]).length):=by
  intro w;rw[Nat.zero_add,Int.toNat_natCast,iU,hdx,qJ _ _ _ _ _ rfl];simp
 have hnext:∀w c',w+v=x+1000000000* c'→w< 1000000000→c'≤1→LessI a b (s++[w],c'):=by
  intro w c' hw hwb hc';refine⟨by simp;omega,?_,hc',?_⟩;intro d hd;rcases List.mem_append.1 hd with hd|hd
  exact hdig d hd;simp at hd;subst hd;exact hwb;simp only[List.length_append,List.length_singleton];rw[iQ,dc _ hx,fy,←hy,Nat.pow_succ];have e:MB^ s.length* (w+v)=MB^ s.length* (x+MB* c'):=by rw[hw]
  rw[hv,Nat.mul_add,Nat.mul_add,Nat.mul_add,←Nat.mul_assoc] at e;omega
 refine r_z 1 ?_;refine ae (s_r 6 ?_);refine a_2 ?_;refine ci (.index_l rfl rfl (by omega) (by omega) te_28.h) rfl rfl ?_;refine ci (.load_l1 rfl rfl hg TG.h rfl) rfl rfl ?_;refine a_z ?_;refine aq rfl (fun h=>?_) (fun h=>?_);have hb:x< v:=by have:=of_decide_eq_true h;omega
 have hv2:((x:Int)+1000000000- v)=((x+1000000000- v:Nat):Int):=by omega
 have hv3:((x:Int)+1000000000)=((x+1000000000:Nat):Int):=by omega
 refine r_m 10 ?_;refine a_5 ?_;refine ci (.load_l1 rfl rfl hg TG.h rfl) rfl rfl ?_;refine a_2 ?_;refine fY (.store rfl rfl hg rfl rfl rfl TS.h (nle rfl)) ?_;refine a_z ?_
 refine AWp.ent (st':=⟨[(19,i64 s.length),(18,i64 (av MB a).length),(2,.lptr 1 0 0),(3,.lptr 2 0 0),(4,.lptr 3 0 0),(5,.lsl 4 0 (av MB a).length (some (av MB a).length) 1),(6,u32 1),(7,i64 s.length),(8,u32 v)],
  [(1,some ⟨30,1,[[mag a]]⟩),(2,some ⟨30,1,[[mag b]]⟩),(3,some ⟨30,1,[[.emp]]⟩),(4,some ⟨189,1,dE (s++(x+1000000000)::(av MB a).drop (s.length+1))⟩)],5,61⟩) ?_ ?_
 refine s_x [] (fun hs=>eA) (fun hs=>?_)
 ·repeat' (first|exact aI|refine h_c ?_ ?_|(refine aT hs ?_ (b6 _);rw[hv3];exact(hset _).trans (by simp))|exact cu)
 have hg2:(dE (s++(x+1000000000)::(av MB a).drop (s.length+1)))[0+((s.length:Nat):Int).toNat]?=some [u32 (x+1000000000)]:=by
  rw[Nat.zero_add,Int.toNat_natCast];exact ea (rF _ _ _ _ rfl)
 have hset2:∀w:Nat,(dE (s++(x+1000000000)::(av MB a).drop (s.length+1))).set (0+((s.length:Nat):Int).toNat) [u32 w]=dE ((s++[w])++(av MB a).drop (s++[w]).length):=by
  intro w;rw[Nat.zero_add,Int.toNat_natCast,iU,qJ _ _ _ _ _ rfl];simp
 have hv2:(((x+1000000000:Nat):Int)- v)=((x+1000000000- v:Nat):Int):=by omega
 refine r_m 8 ?_;refine a_2 ?_;refine ci (.index_l rfl rfl (by omega) (by omega) te_28.h) rfl rfl ?_;refine ci (.load_l1 rfl rfl hg2 TG.h rfl) rfl rfl ?_;refine a_3 ?_;refine fY (.store rfl rfl hg2 rfl rfl rfl TS.h (nle rfl)) ?_;refine au ?_;refine r_m 2 ?_;refine a_z ?_;refine⟨(s++[x+1000000000- v],1),by simp;omega,hnext _ _ (by omega) (by omega) (by omega),?_⟩;rw[leS.eq_1];refine s_x [] (fun hs=>eA) (fun hs=>?_)
 ·repeat' (first|exact aI|refine h_c ?_ ?_|(refine aT hs ?_ (b6 _);rw[hv2];exact hset2 _)|exact cu)
 have hb:v≤x:=by have:=of_decide_eq_false h;omega
 have hv1:((x:Int)- v)=((x- v:Nat):Int):=by omega
 refine an (r_m 8 ?_);refine a_2 ?_;refine ci (.index_l rfl rfl (by omega) (by omega) te_28.h) rfl rfl ?_;refine ci (.load_l1 rfl rfl hg TG.h rfl) rfl rfl ?_;refine a_3 ?_;refine fY (.store rfl rfl hg rfl rfl rfl TS.h (nle rfl)) ?_;refine au ?_;refine r_m 2 ?_;refine a_z ?_;refine⟨(s++[x- v],0),by simp;omega,hnext _ _ (by omega) (by omega) (by omega),?_⟩;rw[leS.eq_1];exact s_x [] (fun hs=>eA) (fun hs=>e_21);have hl:s.length=(av MB a).length:=by have:=of_decide_eq_false h;omega
 refine aA ⟨(s,()),⟨hdig,hl,?_⟩,?_⟩;have h1:=gG hdig;rw[hl,iP _ hlen,iP _ (Nat.le_refl _),va,vb] at hval;rw[hl] at h1
 have h2:c=0:=by
  rcases Nat.eq_zero_or_pos c with h|h
  exact h;have:MB^ (av MB a).length* 1≤MB^ (av MB a).length* c:=Nat.mul_le_mul_left _ h;omega
 subst h2;simp at hval⊢;omega;rw[leT.eq_1];refine s_x [] (fun hs=>?_) (fun hs=>?_) ?_
 ·repeat' (first|exact aS|refine az rfl ?_ ?_|exact bm|(refine Cv.loE hs ?_ (ah _);first|rfl|(simp[i64,u64,u32,bln,hl];done)|(simp[i64,u64,u32,bln,hl]<;> omega)))
 ·repeat' (first|exact aI|refine h_c ?_ ?_|exact cu|(refine aT hs ?_ (b6 _);first|(simp[iU,mf,iV,hl];done)|(simp[dE,u32,ofV,hl];done))|refine aG ?_|exact aw|refine ai ?_ ?_|exact bm|(refine Cv.loE hs ?_ (ah _);first|(simp[i64,u64,u32,bln,hl];done)|(simp[i64,u64,u32,bln,hl]<;> omega)))
 ·repeat' (first|exact ShrL.nil|refine ShrL.cons rfl rfl rfl rfl (by first|rfl|(simp;done)|(simp[hl]<;> omega)) ?_)
 rintro⟨o,u⟩ ⟨hd,hl,hv⟩;rw[leT.eq_1];refine AWp.ent (st':=⟨[(4,.lptr 3 0 0),(5,.arr (dE o))],[(3,some ⟨30,1,[[.emp]]⟩)],4,61⟩) ?_ ?_;refine s_x [] (fun hs=>?_) (fun hs=>?_)
 ·repeat' (first|exact aS|refine az rfl ?_ ?_|exact Cv.sealE hs rfl (aQ rfl) rfl (by simp[hl]) (b6 _)|exact bm)
 ·repeat' (first|exact aI|refine h_c ?_ ?_|exact cu|refine aG ?_|exact aw|refine ai ?_ ?_|exact Cv.sealE hs rfl (aQ rfl) rfl (by simp[hl]) (b6 _)|exact bm)
 simp only at hl hv;refine s_r 3 ?_;refine o_0 (.move rfl) ?_;refine o_0 (.call rfl rfl rfl (jl _ (by omega))) ?_;refine fY (.store rfl rfl rfl rfl rfl rfl TS.h (nle rfl)) ?_;refine au ?_;refine ak (dV rfl rfl rfl TG.h TS.h (nle rfl) ?_ (aB (ac (cm _) ag)));rw[kD (b:=MB) (by decide) hd,hv];rfl
def tiS(a:Nat)(b:Nat):List Nat×Nat→AState
 |(o,i)=>⟨[(22,i64 i),(21,i64 (av MB a).length),(20,mag a),(3,.lptr 2 0 0),(4,.lptr 3 0 0),(5,.lsl 4 0 ((av MB a).length+(av MB b).length) (some ((av MB a).length+(av MB b).length)) 1)],
  [(2,some ⟨30,1,[[mag b]]⟩),(3,some ⟨30,1,[[.emp]]⟩),(4,some ⟨189,1,dE o⟩)],5,73⟩
def tiT(a:Nat)(b:Nat)(i:Nat)(x:Nat):List Nat×Nat×Nat→AState
 |(o,k,c)=>⟨[(22,i64 i),(21,i64 (av MB a).length),(20,mag a),(3,.lptr 2 0 0),(4,.lptr 3 0 0),(5,.lsl 4 0 ((av MB a).length+(av MB b).length) (some ((av MB a).length+(av MB b).length)) 1),(6,i64 i),(7,u32 x),(8,u64 c),(30,i64 k),(29,i64 (av MB b).length),(28,mag b)],
  [(2,some ⟨30,1,[[mag b]]⟩),(3,some ⟨30,1,[[.emp]]⟩),(4,some ⟨189,1,dE o⟩)],5,73⟩
structure TimesI (a b:Nat)(x:List Nat×Nat):Prop where
 len:x.1.length=(av MB a).length+(av MB b).length
 le:x.2≤(av MB a).length
 dig:∀d∈x.1,d< MB
 val:ofD MB x.1=ofD MB ((av MB a).take x.2) * b
 zer:∀j,x.2+(av MB b).length≤j→j< x.1.length→x.1[j]?=some 0
structure TimesJ (a b i v:Nat)(x:List Nat×Nat×Nat):Prop where
 len:x.1.length=(av MB a).length+(av MB b).length
 le:x.2.1≤(av MB b).length
 dig:∀d∈x.1,d< MB
 car:x.2.2< MB
 val:ofD MB x.1+MB^ (i+x.2.1) * x.2.2=ofD MB ((av MB a).take i) * b+MB^ i* v* ofD MB ((av MB b).take x.2.1)
 zer:∀j,i+(av MB b).length≤j→j< x.1.length→x.1[j]?=some 0
theorem im(a b:Nat)(h:bl a+bl b≤17592186044416):FS 72 [.agg [mag a],.agg [mag b]] (.agg [mag (a* b)]):=by
 have hla:=b8 (b:=MB) (by decide) a;have hlb:=b8 (b:=MB) (by decide) b;have va:=bG (b:=MB) (by decide) a;have X:=bG (b:=MB) (by decide) b;refine f_c Tryz.func72 ?_;refine r_z 3 ?_;refine r_z 9 ?_;refine ae (r_z 4 ?_);refine aH (tiS a b) (fun x=>TimesI a b x∧x.2=(av MB a).length) ?_ ?_;refine am (aD (tiS a b) (fun x=>(av MB a).length- x.2) (TimesI a b) (List.replicate ((av MB a).length+(av MB b).length) 0,0) ⟨by simp,by simp,?_,by simp[ta,ofD],?_⟩ ?_ ?_);intro d E;simp at E;rw[E.2];decide;intro j _ D;simp at D;simp[D];rw[tiS.eq_1];exact s_e [(4,5)];rintro⟨o,i⟩ ⟨g,u,p,l,s⟩;simp only at g u p l s;rw[tiS.eq_1];refine r_z 1 ?_;refine ae (aq rfl (fun h=>?_) (fun h=>?_));have M:i< (av MB a).length:=by have:=of_decide_eq_true h;omega
 obtain⟨x,N⟩:∃x,(av MB a)[i]?=some x:=⟨_,List.getElem?_eq_getElem M⟩;have Y:x< 1000000000:=cV (by decide) N;have H:(dE (av MB a))[((i:Nat):Int).toNat]?=some [u32 x]:=ea N;refine an (ae (am (s_r 5 ?_)));refine a_1 ?_;refine i_x H ?_;refine l_1 H ?_;refine a_z ?_;refine r_z 1 ?_;refine ae (r_z 4 ?_);refine aH (tiT a b i x) (fun y=>TimesJ a b i x y∧y.2.1=(av MB b).length) ?_ ?_;refine am (aD (tiT a b i x) (fun y=>(av MB b).length- y.2.1) (TimesJ a b i x) (o,0,0) ⟨g,by simp,p,(show 0< MB by decide),by simp[l,ofD],s⟩ ?_ ?_);rw[tiT.eq_1];exact s_e [];rintro⟨q,k,c⟩ ⟨r,t,e,m,n,f⟩;simp only at r t e m n f;rw[tiT.eq_1];refine r_z 1 ?_;refine ae (aq rfl (fun h=>?_) (fun h=>?_));have F:k< (av MB b).length:=by have:=of_decide_eq_true h;omega
 obtain⟨y,O⟩:∃y,(av MB b)[k]?=some y:=⟨_,List.getElem?_eq_getElem F⟩;have Z:y< 1000000000:=cV (by decide) O;have G:(dE (av MB b))[((k:Nat):Int).toNat]?=some [u32 y]:=ea O;obtain⟨d,E⟩:∃d,q[i+k]?=some d:=⟨_,List.getElem?_eq_getElem (by omega)⟩;have V:d< 1000000000:=e d (List.mem_of_getElem? E);have L:c< 1000000000:=m;have hg:(dE q)[0+(((i:Int)+k)).toNat]?=some [u32 d]:=by rw[show 0+((i:Int)+k).toNat=i+k by omega];exact ea E
 have B:∀w:Nat,(dE q).set (0+(((i:Int)+k)).toNat) [u32 w]=dE (q.set (i+k) w):=by intro w;rw[show 0+((i:Int)+k).toNat=i+k by omega,iU]
 have R:x* y≤999999999* 999999999:=Nat.mul_le_mul (by omega) (by omega);have T:0≤(x:Int) * y:=Int.mul_nonneg (by omega) (by omega);have A:(x:Int) * y=((x* y:Nat):Int):=by push_cast;rfl
 refine an (ae (am (s_r 5 ?_)));refine a_1 ?_;refine i_x G ?_;refine l_1 G ?_;refine a_z ?_;refine s_r 16 ?_;refine a_8 ?_;refine a_2 ?_;refine ci (.index_l rfl rfl (by omega) (by omega) te_28.h) rfl rfl ?_;refine ci (.load_l1 rfl rfl hg TG.h rfl) rfl rfl ?_;refine a_z ?_;refine r_m 12 ?_;refine a_8 ?_;refine a_2 ?_;refine fY (.store rfl rfl hg rfl rfl rfl TS.h (nle rfl)) ?_;refine a_z ?_;refine r_m 2 ?_;refine a_z ?_;have U:((c:Int)+((x:Int) * y+d)) % 1000000000=(((c+(x* y+d)) % 1000000000:Nat):Int):=by rw[A];omega
 have S:((c:Int)+((x:Int) * y+d)) / 1000000000=(((c+(x* y+d)) / 1000000000:Nat):Int):=by rw[A];omega
 refine⟨(q.set (i+k) ((c+(x* y+d)) % 1000000000),k+1,(c+(x* y+d)) / 1000000000),by simp;omega,⟨by simp[r],by simp;omega,uO e (Nat.mod_lt _ (by decide)),?_,?_,?_⟩,?_⟩;show _< 1000000000;simp only;omega;simp only;have e1:=rf MB ((c+(x* y+d)) % 1000000000) E;have e2:=Nat.mod_add_div (c+(x* y+d)) 1000000000
 have e3:MB^ (i+k) * ((c+(x* y+d)) % 1000000000)+MB^ (i+(k+1)) * ((c+(x* y+d)) / 1000000000)=MB^ (i+k) * c+(MB^ (i+k) * (x* y)+MB^ (i+k) * d):=by
  rw[←Nat.add_assoc i k 1,Nat.pow_succ,Nat.mul_assoc,←Nat.mul_add,show MB* ((c+(x* y+d)) / 1000000000)=1000000000* ((c+(x* y+d)) / 1000000000) from rfl,e2,Nat.mul_add,Nat.mul_add]
 have W:MB^ i* x* ofD MB ((av MB b).take (k+1))=MB^ i* x* ofD MB ((av MB b).take k)+MB^ (i+k) * (x* y):=by
  rw[dc _ O,Nat.mul_add];congr 1;rw[Nat.pow_add];simp only[Nat.mul_assoc,Nat.mul_left_comm,Nat.mul_comm]
 rw[W];omega;intro j D C;rw[List.getElem?_set_ne (by omega)];exact f j D (by simpa using C);rw[tiT.eq_1];refine s_x [] (fun hs=>?_) (fun hs=>?_)
 ·repeat' (first|exact aS|refine az rfl ?_ ?_|exact Cv.loE hs (congrArg (fun z=>AV.v (.int .u64 z)) S) (ah _)|exact bm)
 ·repeat' (first|exact aI|refine h_c ?_ ?_|(refine aT hs ?_ (b6 _);rw[U];exact B _)|exact cu|refine aG ?_|exact aw|refine ai ?_ ?_|exact Cv.loE hs (congrArg (fun z=>AV.v (.int .u64 z)) S) (ah _)|exact bm)
 have J:k=(av MB b).length:=by have:=of_decide_eq_false h;omega
 refine aA ⟨(q,k,c),⟨⟨r,t,e,m,n,f⟩,J⟩,?_⟩;rw[tiT.eq_1];exact s_e [];rintro⟨q,k,c⟩ ⟨⟨r,t,e,m,n,f⟩,J⟩;simp only at r t e m n f J;subst J;have L:c< 1000000000:=m;have Q:=f (i+(av MB b).length) (Nat.le_refl _) (by omega);have hg:(dE q)[0+(((i:Int)+(av MB b).length)).toNat]?=some [u32 0]:=by rw[show 0+((i:Int)+(av MB b).length).toNat=i+(av MB b).length by omega];exact ea Q
 have B:(dE q).set (0+(((i:Int)+(av MB b).length)).toNat) [u32 c]=dE (q.set (i+(av MB b).length) c):=by rw[show 0+((i:Int)+(av MB b).length).toNat=i+(av MB b).length by omega,iU]
 rw[List.take_length,X] at n;rw[tiT.eq_1];refine r_m 10 ?_;refine a_8 ?_;refine a_1 ?_;refine fY (.store rfl rfl hg rfl rfl rfl TS.h (nle rfl)) ?_;refine au ?_;refine r_m 2 ?_;refine a_z ?_;refine⟨(q.set (i+(av MB b).length) c,i+1),by simp;omega,⟨by simp[r],by simp;omega,uO e m,?_,?_⟩,?_⟩;simp only;have e1:=rf MB c Q;rw[dc _ N,Nat.add_mul,←n];omega;intro j D C;rw[List.getElem?_set_ne (by simp only at D;omega)];exact f j (by simp only at D;omega) (by simpa using C);rw[tiS.eq_1];exact s_f [];have K:i=(av MB a).length:=by have:=of_decide_eq_false h;omega
 refine aA ⟨(o,i),⟨⟨g,u,p,l,s⟩,K⟩,?_⟩;rw[tiS.eq_1];exact s_e [];rintro⟨o,i⟩ ⟨⟨g,u,p,l,s⟩,K⟩;simp only at g u p l s K;subst K;rw[List.take_length,va] at l;rw[tiS.eq_1];refine AWp.ent (st':=⟨[(4,.lptr 3 0 0),(5,.arr (dE o))],[(3,some ⟨30,1,[[.emp]]⟩)],4,73⟩) ?_ ?_;refine s_x [] (fun hs=>?_) (fun hs=>?_)
 ·repeat' (first|exact aS|refine az rfl ?_ ?_|exact Cv.sealE hs rfl (aQ rfl) rfl (by simp[g]) (b6 _)|exact bm)
 ·repeat' (first|exact aI|refine h_c ?_ ?_|exact cu|refine aG ?_|exact aw|refine ai ?_ ?_|exact Cv.sealE hs rfl (aQ rfl) rfl (by simp[g]) (b6 _)|exact bm)
 refine s_r 3 ?_;refine o_0 (.move rfl) ?_;refine o_0 (.call rfl rfl rfl (jl _ (by omega))) ?_;refine fY (.store rfl rfl rfl rfl rfl rfl TS.h (nle rfl)) ?_;refine au ?_;refine ak (dV rfl rfl rfl TG.h TS.h (nle rfl) ?_ (aB (ac (cm _) ag)));rw[kD (b:=MB) (by decide) p,l];rfl
def siS(a:Nat)(d:Nat):Nat×List Nat×Nat→AState
 |(k,t,r)=>⟨[(8,i64 ((k:Int)- 1)),(1,u32 d),(2,.lptr 1 0 0),(4,.lptr 2 0 0),(5,.lptr 3 0 0),(6,.lsl 4 0 (av MB a).length (some (av MB a).length) 1),(7,u64 r)],
  [(1,some ⟨30,1,[[mag a]]⟩),(2,some ⟨30,1,[[.emp]]⟩),(3,some ⟨30,1,[[.emp]]⟩),(4,some ⟨189,1,dE (List.replicate k 0++t)⟩)],5,46⟩
structure SimI (a d:Nat)(x:Nat×List Nat×Nat):Prop where
 len:x.1+x.2.1.length=(av MB a).length
 dig:∀y∈x.2.1,y< MB
 rest:x.2.2< d
 val:ofD MB ((av MB a).drop x.1)=d* ofD MB x.2.1+x.2.2
theorem Ge(a d:Nat)(h:bl a≤17592186044416)(hd0:0< d)(hd:d< 4294967296):FS 188 [.agg [mag a],u32 d] (.tup [.agg [mag (a/ d)],.agg [mag (a % d)]]):=by
 have F:=b8 (b:=MB) (by decide) a;have va:=bG (b:=MB) (by decide) a;refine f_c Tryz.func188 ?_;refine r_z 3 ?_;refine r_z 5 ?_;refine r_z 1 ?_;refine ae (r_z 5 ?_);refine aH (siS a d) (fun x=>SimI a d x∧x.1=0) ?_ ?_;refine am (aD (siS a d) (fun x=>x.1) (SimI a d) ((av MB a).length,[],0) ⟨by simp,by simp,hd0,by simp[ofD]⟩ ?_ ?_);rw[siS.eq_1];exact s_e [(4,6)];rintro⟨k,t,r⟩ ⟨i,g,c,f⟩;simp only at i g c f;rw[siS.eq_1];refine ae (r_z 2 ?_);refine aq rfl (fun h=>?_) (fun h=>?_);have p:0< k:=by have:=of_decide_eq_true h;omega
 obtain⟨x,u⟩:∃x,(av MB a)[k- 1]?=some x:=⟨_,List.getElem?_eq_getElem (by omega)⟩;have D:x< 1000000000:=cV (by decide) u;have o:(dE (av MB a))[((k:Int)- 1).toNat]?=some [u32 x]:=by rw[show((k:Int)- 1).toNat=k- 1 by omega];exact ea u
 have l:List.replicate k 0++t=List.replicate (k- 1) 0++0::t:=by
  conv=>lhs;rw[show k=(k- 1)+1 by omega,List.replicate_succ']
  simp
 have hg:(dE (List.replicate k 0++t))[0+((k:Int)- 1).toNat]?=some [u32 0]:=by
  rw[show 0+((k:Int)- 1).toNat=k- 1 by omega,l];exact ea (rF _ _ _ _ (by simp))
 have q:∀w:Nat,(dE (List.replicate k 0++t)).set (0+((k:Int)- 1).toNat) [u32 w]=dE (List.replicate (k- 1) 0++(w::t)):=by
  intro w;rw[show 0+((k:Int)- 1).toNat=k- 1 by omega,iU,l,qJ _ _ _ _ _ (by simp)];simp
 have s:(r* 1000000000+x) / d< 1000000000:=by
  rw[Nat.div_lt_iff_lt_mul hd0];have:(r+1) * 1000000000≤d* 1000000000:=Nat.mul_le_mul_right _ c;rw[Nat.mul_comm 1000000000 d];omega
 have hA:(r:Int) * 1000000000+x=((r* 1000000000+x:Nat):Int):=by omega
 have m:((r:Int) * 1000000000+x) / d=(((r* 1000000000+x) / d:Nat):Int):=by rw[hA];exact(Int.natCast_ediv _ _).symm
 have n:((r:Int) * 1000000000+x) % d=(((r* 1000000000+x) % d:Nat):Int):=by rw[hA];exact(Int.natCast_emod _ _).symm
 have j:=Nat.mod_lt (r* 1000000000+x) hd0;have e:=Nat.div_add_mod (r* 1000000000+x) d;obtain⟨Q,hQ⟩:∃Q,Q=(r* 1000000000+x) / d:=⟨_,rfl⟩;obtain⟨R,B⟩:∃R,R=(r* 1000000000+x) % d:=⟨_,rfl⟩;rw[←hQ] at s m;rw[←B] at j n;rw[←hQ,←B] at e;refine an (ae (am (s_r 10 ?_)));refine a_5 ?_;refine i_x o ?_;refine l_1 o ?_;refine a_z ?_;refine r_d ba 14 ?_;refine a_5 ?_;refine o_0 (.bin rfl rfl (Cu (by omega))) ?_;refine o_0 (.conv rfl (cU32 (by rw[m];omega) tu_190.h tu_189.h)) ?_;refine a_5 ?_;refine fY (.store rfl rfl hg rfl rfl rfl TS.h (nle rfl)) ?_;refine a_1 ?_;refine au (n_k ?_);refine r_m 3 ?_;refine a_z ?_;refine⟨(k- 1,Q::t,R),by simp;omega,⟨by simp;omega,?_,j,?_⟩,?_⟩;intro y A;rcases List.mem_cons.1 A with rfl|A
 exact s;exact g y A;simp only;rw[lP MB u,show k- 1+1=k by omega,f,ofD];have e2:d* (Q+MB* ofD MB t)=d* Q+MB* (d* ofD MB t):=by rw[Nat.mul_add,Nat.mul_left_comm]
 have G:MB* (d* ofD MB t+r)=MB* (d* ofD MB t)+1000000000* r:=Nat.mul_add _ _ _;omega;rw[siS.eq_1];refine s_x [] (fun hs=>?_) (fun hs=>?_)
 ·repeat' (first|exact aS|refine az rfl ?_ ?_|exact Cv.loE hs (congrArg (fun z=>AV.v (.int .u64 z)) n) (ah _)|exact bm)
 ·repeat' (first|exact aI|refine h_c ?_ ?_|(refine aT hs ?_ (b6 _);rw[m];exact q _)|exact cu|refine aG ?_|exact aw|refine ai ?_ ?_|exact Cv.loE hs (congrArg (fun z=>AV.v (.int .u64 z)) n) (ah _)|exact bm)
 have p:k=0:=by have:=of_decide_eq_false h;omega
 refine aA ⟨(k,t,r),⟨⟨i,g,c,f⟩,p⟩,?_⟩;rw[siS.eq_1];exact s_e [];rintro⟨k,t,r⟩ ⟨⟨i,g,c,f⟩,C⟩;simp only at i g c f C;subst C;rw[List.drop_zero,va] at f;have s:a/ d=ofD MB t:=by rw[f,Nat.mul_add_div hd0,Nat.div_eq_of_lt c];omega
 have E:a % d=r:=by rw[f,Nat.mul_add_mod];exact Nat.mod_eq_of_lt c
 rw[siS.eq_1];refine AWp.ent (st':=⟨[(4,.lptr 1 0 0),(5,.lptr 2 0 0),(6,.arr (dE t)),(7,u64 r)],[(1,some ⟨30,1,[[.emp]]⟩),(2,some ⟨30,1,[[.emp]]⟩)],3,46⟩) ?_ ?_;exact s_x [(1,4),(2,5)] (fun hs=>e_25) (fun hs=>e_26);refine s_r 6 ?_;refine o_0 (.move rfl) ?_;refine o_0 (.call rfl rfl rfl (jl _ (by omega))) ?_;refine o_0 (.move rfl) ?_;refine o_0 (.call rfl rfl rfl (io r (by omega))) ?_;refine fY (.store rfl rfl rfl rfl rfl rfl TS.h (nle rfl)) ?_;refine fY (.store rfl rfl rfl rfl rfl rfl TS.h (nle rfl)) ?_;refine au ?_;refine ak ?_;rw[s,E];refine Fin.many ⟨_,_,rfl,⟨_,_,_,_,_,rfl,rfl,rfl,.inl ⟨TG.h,_,TS.h,nle rfl,rfl⟩⟩,_,_,rfl,⟨_,_,_,_,_,rfl,rfl,rfl,.inl ⟨TG.h,_,TS.h,nle rfl,rfl⟩⟩,rfl⟩ (nle rfl) ?_;refine ai (Cv.loE ay ?_ (aB (ac (di (fS t)) ag))) (ai (ao ay (aB (ac (cm r) ag))) aw);rw[kD (b:=MB) (by decide) g];rfl
theorem EZ{pre s t post:List Nat}{x e i:Nat}(he:e=pre.length)(hi:i=s.length):(pre++(s++x::t)++post)[e+i]?=some x:=by
 subst he hi;simp
theorem EY{pre s t post:List Nat}{x v e i:Nat}(he:e=pre.length)(hi:i=s.length):(pre++(s++x::t)++post).set (e+i) v=pre++((s++[v])++t)++post:=by
 subst he hi;rw[List.append_assoc,List.set_append_right _ _ (by omega),List.append_assoc,show pre.length+s.length- pre.length=s.length by omega,List.set_append_right _ _ (by omega)];simp
def suS(V:List Nat)(A:List Nat)(pre:List Nat)(post:List Nat)(cap:Option Nat)(t:Nat):List Nat×Nat×Nat→AState
 |(s,c,q)=>⟨[(0,.lsl 0 pre.length A.length cap 1),(1,.arr (dE V)),(2,u64 t),(7,u64 c),(8,i64 q),(13,i64 s.length),(12,i64 A.length)],
  [(0,some ⟨189,1,dE (pre++(s++A.drop s.length)++post)⟩)],1,54⟩
structure SubI (V A:List Nat)(t:Nat)(x:List Nat×Nat×Nat):Prop where
 le:x.1.length≤A.length
 dig:∀d∈x.1,d< MB
 car:x.2.1< MB
 bor:x.2.2≤1
 fin:V.length< x.1.length→x.2.1=0
 val:ofD MB x.1+t* ofD MB (V.take x.1.length)=ofD MB (A.take x.1.length)+MB^ x.1.length* (x.2.2+x.2.1)
theorem BV (pre A post V:List Nat) (t D q:Nat) (cap:Option Nat) (hA:∀d∈A,d< MB) (hV:∀d∈V,d< MB) (ht:t< MB) (hlen:V.length< A.length) (hA2:A.length< 17592186044416) (hq:q≤1)
    (hD:D+t* ofD MB V=ofD MB A+MB^ A.length* q) (hD2:D< MB^ A.length):
    ESpec Tryz.prog 189 189 1 (dE (pre++A++post)) (dE (pre++jL MB A.length D++post)) pre.length A.length cap [.arr (dE V),u64 t] (.bool (q !=0)):=by
 have ht1:t< 1000000000:=ht;refine ESpec.enter Tryz.func189 rfl (by kernel_rfl) rfl rfl rfl ?_ ?_ ?_ rfl ?_;exact ac (di _) (ac (ah _) ag);exact b6 _;exact b6 _;refine r_z 1 ?_;refine r_z 2 ?_;refine ae (r_z 3 ?_);refine aH (suS V A pre post cap t) (fun x=>SubI V A t x∧x.1.length=A.length) ?_ ?_;refine am (aD (suS V A pre post cap t) (fun x=>A.length- x.1.length) (SubI V A t) ([],0,0) ⟨by simp,by simp,(show 0< MB by decide),by simp,by simp,by simp[ofD]⟩ ?_ ?_);rw[suS.eq_1];exact s_e [];rintro⟨s,c,β⟩ ⟨hle,hdig,hcar,hbor,hfin,hval⟩;simp only at hle hdig hcar hbor hfin hval;have hc1:c< 1000000000:=hcar;rw[suS.eq_1];refine r_z 1 ?_;refine ae (aq rfl (fun h=>?_) (fun h=>?_));have hlt:s.length< A.length:=by have:=of_decide_eq_true h;omega
 obtain⟨x,hx⟩:∃x,A[s.length]?=some x:=⟨_,List.getElem?_eq_getElem hlt⟩;have hx1:x< 1000000000:=hA x (List.mem_of_getElem? hx)
 have hg:(dE (pre++(s++A.drop s.length)++post))[pre.length+((s.length:Nat):Int).toNat]?=some [u32 x]:=by
  rw[Int.toNat_natCast,gU hx];exact ea (EZ rfl rfl)
 have hset:∀w:Nat,(dE (pre++(s++A.drop s.length)++post)).set (pre.length+((s.length:Nat):Int).toNat) [u32 w]=dE (pre++((s++[w])++A.drop (s++[w]).length)++post):=by
  intro w;rw[Int.toNat_natCast,gU hx,iU,EY rfl rfl];simp
 refine an (ae (am (r_z 2 ?_)));refine ae (r_z 4 ?_)
 refine aH (fun v:Nat=>⟨[(0,.lsl 0 pre.length A.length cap 1),(1,.arr (dE V)),(2,u64 t),(7,u64 v),(8,i64 β),(9,i64 s.length),(13,i64 s.length),(12,i64 A.length)],
  [(0,some ⟨189,1,dE (pre++(s++A.drop s.length)++post)⟩)],1,54⟩)
  (fun v=>v=c+t* (V[s.length]?.getD 0)∧v≤999999999+999999999* 999999999∧(V.length≤s.length→v=c)) ?_ ?_
 refine aq rfl (fun h=>?_) (fun h=>?_);have hlt2:s.length< V.length:=by have:=of_decide_eq_true h;simp at this;omega
 obtain⟨y,hy⟩:∃y,V[s.length]?=some y:=⟨_,List.getElem?_eq_getElem hlt2⟩;have hy1:y< 1000000000:=hV y (List.mem_of_getElem? hy);have hy':(dE V)[((s.length:Nat):Int).toNat]?=some [u32 y]:=ea hy;have hxy0:t* y≤999999999* 999999999:=Nat.mul_le_mul (by omega) (by omega);have hxyn:0≤(t:Int) * y:=Int.mul_nonneg (by omega) (by omega);have hxyi:(t:Int) * y=((t* y:Nat):Int):=(Int.natCast_mul _ _).symm;refine r_m 10 ?_;refine a_4 ?_;refine i_x hy' ?_;refine l_1 hy' ?_;refine a_z ?_;refine⟨c+t* y,⟨by rw[hy];rfl,by omega,fun h=>absurd h (by omega)⟩,?_⟩;have hI:(c:Int)+(t:Int) * y=((c+t* y:Nat):Int):=by omega
 have:=(congrArg (fun z=>AV.v (.int .u64 z)) hI);exact s_f [];have hlt2:¬s.length< V.length:=by have:=of_decide_eq_false h;simp at this;omega
 refine an ⟨c,⟨by rw[List.getElem?_eq_none (by omega)];simp,by omega,fun _=>rfl⟩,?_⟩;exact s_e [];rintro v ⟨hv,hv1,hv2⟩;refine s_r 12 ?_;refine a_2 ?_;refine ci (.index_l rfl rfl (by omega) (by omega) te_28.h) rfl rfl ?_;refine ci (.load_l1 rfl rfl hg TG.h rfl) rfl rfl ?_;refine a_z ?_;refine r_z 3 ?_;refine r_z 1 ?_;refine ae (r_z 2 ?_)
 have hnext:∀w q',w+v % 1000000000+β=x+1000000000* q'→w< 1000000000→q'≤1→SubI V A t (s++[w],v/ 1000000000,q'):=by
  intro w q' hw hwb hq';refine⟨by simp;omega,?_,?_,hq',?_,?_⟩;intro d hd;rcases List.mem_append.1 hd with hd|hd
  exact hdig d hd;simp at hd;subst hd;exact hwb;show v/ 1000000000< 1000000000;omega;intro hl;simp at hl;have:=hv2 (by omega);simp only;omega;simp only[List.length_append,List.length_singleton];rw[iQ,dc _ hx,fy,Nat.pow_succ];have e:MB^ s.length* (w+v % 1000000000+β+1000000000* (v/ 1000000000))=MB^ s.length* (x+MB* q'+MB* (v/ 1000000000)):=by rw[hw]
  have e2:w+v % 1000000000+β+1000000000* (v/ 1000000000)=w+β+(c+t* (V[s.length]?.getD 0)):=by rw[←hv];have:=Nat.mod_add_div v 1000000000;omega
  rw[e2] at e;have e3:t* (ofD MB (V.take s.length)+MB^ s.length* (V[s.length]?.getD 0))=t* ofD MB (V.take s.length)+MB^ s.length* (t* (V[s.length]?.getD 0)):=by rw[Nat.mul_add,Nat.mul_left_comm]
  rw[e3];have e4:MB^ s.length* MB* (q'+v/ 1000000000)=MB^ s.length* (MB* q')+MB^ s.length* (MB* (v/ 1000000000)):=by rw[Nat.mul_assoc,Nat.mul_add,Nat.mul_add]
  rw[e4];simp only[Nat.mul_add] at e hval⊢;omega
 refine aq rfl (fun h=>?_) (fun h=>?_);have hb:(x:Int)- v % 1000000000- β< 0:=by have:=of_decide_eq_true h;omega
 have hI:(x:Int)- (v:Int) % 1000000000- β+1000000000=((x+1000000000- v % 1000000000- β:Nat):Int):=by omega
 refine r_m 4 ?_;refine a_z ?_;refine r_m 6 ?_;refine a_4 ?_;refine ci (.index_l rfl rfl (by omega) (by omega) te_28.h) rfl rfl ?_;refine fY (.store rfl rfl hg rfl rfl rfl TS.h (nle rfl)) ?_;refine au ?_;refine r_m 2 ?_;refine a_z ?_;refine⟨(s++[x+1000000000- v % 1000000000- β],v/ 1000000000,1),by simp;omega,hnext _ _ (by omega) (by omega) (Nat.le_refl _),?_⟩;rw[suS.eq_1];exact s_x [] (fun hs=>eA) (fun hs=>e_15);have hb:¬(x:Int)- v % 1000000000- β< 0:=by have:=of_decide_eq_false h;omega
 have hI:(x:Int)- (v:Int) % 1000000000- β=((x- v % 1000000000- β:Nat):Int):=by omega
 refine an (r_m 6 ?_);refine a_3 ?_;refine o_0 (.conv rfl (cU32 (by omega) tu_2.h tu_189.h)) ?_;refine a_1 ?_;refine fY (.store rfl rfl hg rfl rfl rfl TS.h (nle rfl)) ?_;refine au ?_;refine r_m 2 ?_;refine a_z ?_;refine⟨(s++[x- v % 1000000000- β],v/ 1000000000,0),by simp;omega,hnext _ _ (by omega) (by omega) (by omega),?_⟩;rw[suS.eq_1];exact s_x [] (fun hs=>eA) (fun hs=>e_15);have hl:s.length=A.length:=by have:=of_decide_eq_false h;omega
 refine aA ⟨(s,c,β),⟨⟨hle,hdig,hcar,hbor,hfin,hval⟩,hl⟩,?_⟩;rw[suS.eq_1];exact s_e [];rintro⟨s,c,β⟩ ⟨⟨hle,hdig,hcar,hbor,hfin,hval⟩,hl⟩;simp only at hle hdig hcar hbor hfin hval hl;have hc0:=hfin (by omega);subst hc0;rw[hl,List.take_length,List.take_of_length_le (by omega),Nat.add_zero] at hval;have hs1:=gG hdig;rw[hl] at hs1;have hpos:0< MB^ A.length:=Nat.pow_pos (by decide)
 have hqq:β=q∧ofD MB s=D:=by
  rcases Nat.le_one_iff_eq_zero_or_eq_one.1 hq with rfl|rfl <;> rcases Nat.le_one_iff_eq_zero_or_eq_one.1 hbor with rfl|rfl <;> constructor <;> omega
 obtain⟨rfl,rfl⟩:=hqq;rw[suS.eq_1];refine r_z 3 ?_;refine ak (FinE.tmp rfl ?_ rfl ?_);congr 2;rw[Bool.eq_iff_iff];simp;rw[hl,List.drop_length,List.append_nil,←Ae hdig hl rfl]
end Go.Proofs.YtkhclghbcicapaaGreatDoor
