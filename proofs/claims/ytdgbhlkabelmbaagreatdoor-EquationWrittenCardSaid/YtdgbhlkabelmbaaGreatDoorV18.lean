/- Part V18 of the proof. -/
import Derived.Test.YtdgbhlkabelmbaaGreatDoorV17
set_option linter.all false
namespace Go.Proofs.YtdgbhlkabelmbaaGreatDoor
open Go.Abs
set_option maxRecDepth 20000
def w6(n:Nat):Nat→AState
 |0=>⟨[(0,u64 n),(2,.lptr 1 0 0),(3,.emp)],[(1,some ⟨32,1,[[.emp]]⟩)],2,16⟩
 |k+1=>⟨[(0,u64 (jZ n (k+1))),(2,.lptr 1 0 0),(3,.lsl 2 0 (k+1) none 1)],[(1,some ⟨32,1,[[.emp]]⟩),(2,some ⟨188,1,dE (vj n (k+1))⟩)],3,16⟩
theorem gd(n:Nat)(h:n< 18446744073709551616):FS 78 [u64 n] (.agg [mag n]):=by
 have e:(aw MB n).length≤3:=fw (by decide) (Nat.lt_of_lt_of_le h (by decide));refine f_c Tryz.func78 ?_;refine r_z 1 ?_;refine r_z 1 ?_;refine bi (w6 n) (fun k=>k=(aw MB n).length) ?_ ?_;refine aj (aB (w6 n) (fun k=>(aw MB n).length- k) (fun k=>k≤(aw MB n).length) 0 (Nat.zero_le _) ?_ ?_);rw[w6.eq_1];exact s_e [];rintro k d;have i:=Gl d;have j:=Gm d;have b:=lU d;cases k with
 |zero=>
  rw[tK] at j;refine ae (r_z 2 ?_);refine ap rfl (fun h=>?_) (fun h=>?_);refine ak ?_;have g:0< n:=by simpa using h
  have c:0< (aw MB n).length:=by omega
  obtain⟨a,ht⟩:=tM c;rw[tK] at a ht;refine ae (aj (r_m 7 ?_));refine a_z ?_;refine r_m 3 ?_;refine a_z ?_;refine⟨1,by omega,c,?_⟩;rw[w6.eq_2];refine s_x [(2,3)] (fun hs=>?_) (fun hs=>?_) ?_
  ·repeat' (first|exact aN|refine aA rfl ?_ ?_|exact aV|(refine Cv.loE hs ?_ (ag _);first|rfl|(simp[i64,u64,u32,bln,a,ht,im];done)|(simp[i64,u64,u32,bln,a,ht,im]<;> omega)))
  ·repeat' (first|exact aE|refine h_c ?_ ?_|exact bC|(refine aI hs ?_ (bH _);first|(simp[gX,kR,gY,a,ht,im];done)|(simp[dE,u32,ofV,a,ht,im];done))|refine az ?_|exact av|refine ah ?_ ?_|exact aV|(refine Cv.loE hs ?_ (ag _);first|(simp[i64,u64,u32,bln,a,ht,im];done)|(simp[i64,u64,u32,bln,a,ht,im]<;> omega)))
  ·repeat' (first|exact ShrL.nil|refine ShrL.cons rfl rfl rfl rfl (by first|rfl|(simp;done)|(simp[a,ht,im]<;> omega)) ?_)
  refine ay ⟨0,?_,?_⟩;have:¬0< n:=by simpa using h
  omega;rw[w6.eq_1];exact s_e []
 |succ k=>
  rw[w6.eq_2];refine ae (r_z 2 ?_);refine ap rfl (fun h=>?_) (fun h=>?_);refine ak ?_;have g:0< jZ n (k+1):=by simpa using h
  have c:k+1< (aw MB n).length:=by omega
  obtain⟨a,ht⟩:=tM c;refine ae (aj (r_m 7 ?_));refine a_z ?_;refine r_m 3 ?_;refine a_z ?_;refine⟨k+1+1,by omega,c,?_⟩;rw[w6.eq_2];refine s_x [(2,3)] (fun hs=>?_) (fun hs=>?_) ?_
  ·repeat' (first|exact aN|refine aA rfl ?_ ?_|exact aV|(refine Cv.loE hs ?_ (ag _);first|rfl|(simp[i64,u64,u32,bln,a,ht,b];done)|(simp[i64,u64,u32,bln,a,ht,b]<;> omega)))
  ·repeat' (first|exact aE|refine h_c ?_ ?_|exact bC|(refine aI hs ?_ (bH _);first|(simp[gX,kR,gY,a,ht,b];done)|(simp[dE,u32,ofV,a,ht,b];done))|refine az ?_|exact av|refine ah ?_ ?_|exact aV|(refine Cv.loE hs ?_ (ag _);first|(simp[i64,u64,u32,bln,a,ht,b];done)|(simp[i64,u64,u32,bln,a,ht,b]<;> omega)))
  ·repeat' (first|exact ShrL.nil|refine ShrL.cons rfl rfl rfl rfl (by first|rfl|(simp;done)|(simp[a,ht,b]<;> omega)) ?_)
  refine ay ⟨k+1,?_,?_⟩;have:¬0< jZ n (k+1):=by simpa using h
  omega;rw[w6.eq_2];exact s_e []
 rintro k rfl;cases d:(aw MB n).length with
 |zero=>
  rw[w6.eq_1];refine r_z 3 ?_;refine ai (Fin.cell rfl rfl rfl TG.h TS.h (nle rfl) (Cv.agg (ah (Cv.emp _ ?_) av)));unfold mag;rw[List.length_eq_zero_iff] at d;rw[d];rfl
 |succ k=>
  rw[w6.eq_2];refine r_z 3 ?_;refine ai (Fin.cell rfl rfl rfl TG.h TS.h (nle rfl) (Cv.agg (ah (Cv.shut aD rfl (fun _ _ h=>by cases h) ?_ ?_) av)));simp[lU (Nat.le_of_eq d.symm)];refine aI aD ?_ (bH _);have h1:(vj n (k+1)).length=k+1:=lU (Nat.le_of_eq d.symm);have f:=Gz n;rw[d] at f;simp only[List.drop_zero,Eh];rw[List.take_of_length_le (Nat.le_of_eq h1),f]
def GA(p:Nat)(q:Nat):List Nat×Nat→AState
 |(s,c)=>⟨[(26,i64 s.length),(25,i64 (aw MB p).length),(24,mag p),(2,.lptr 1 0 0),(3,.lptr 2 0 0),(4,.lptr 3 0 0),(5,.lsl 4 0 ((aw MB p).length+1) (some ((aw MB p).length+1)) 1),(6,u32 c)],
  [(1,some ⟨32,1,[[mag p]]⟩),(2,some ⟨32,1,[[mag q]]⟩),(3,some ⟨32,1,[[.emp]]⟩),(4,some ⟨188,1,dE (s++List.replicate ((aw MB p).length+1- s.length) 0)⟩)],5,63⟩
structure PlusI (p q:Nat)(a:List Nat×Nat):Prop where
 le:a.1.length≤(aw MB p).length
 dig:∀d∈a.1,d< MB
 car:a.2≤1
 val:ofD MB a.1+MB^ a.1.length* a.2=ofD MB ((aw MB p).take a.1.length)+ofD MB ((aw MB q).take a.1.length)
theorem xL(a b:Nat)(h:bl a+bl b≤17592186044416):FS 121 [.agg [mag a],.agg [mag b]] (.agg [mag (a+b)]):=by
 have hla:=bR (b:=MB) (by decide) a;have hlb:=bR (b:=MB) (by decide) b;refine f_c Tryz.func121 ?_;refine r_z 3 ?_;refine ae (r_z 7 ?_)
 refine aG (fun x:Nat×Nat=>⟨[(2,.lptr 1 0 0),(3,.lptr 2 0 0),(4,.lptr 3 0 0)],[(1,some ⟨32,1,[[mag x.1]]⟩),(2,some ⟨32,1,[[mag x.2]]⟩),(3,some ⟨32,1,[[.emp]]⟩)],4,63⟩)
  (fun x=>x.1+x.2=a+b∧(aw MB x.2).length≤(aw MB x.1).length∧(aw MB x.1).length≤17592186044416) ?_ ?_
 refine ap rfl (fun h=>?_) (fun h=>?_);refine r_m 4 ?_;refine a_z ?_;refine⟨(b,a),⟨by simp;omega,?_,by simp;omega⟩,?_⟩;simp at h;simp;omega;exact s_e [];refine ak ⟨(a,b),⟨rfl,?_,by simp;omega⟩,?_⟩;simp at h;simpa using h;exact s_e [];rintro⟨p,q⟩ ⟨hpq,hqp,hp⟩;simp only at hpq hqp hp⊢;refine r_z 6 ?_;refine r_z 1 ?_;refine ae (r_z 4 ?_);refine aG (GA p q) (fun x=>PlusI p q x∧x.1.length=(aw MB p).length) ?_ ?_;refine aj (aB (GA p q) (fun x=>(aw MB p).length- x.1.length) (PlusI p q) ([],0) ⟨by simp,by simp,by simp,by simp[ofD]⟩ ?_ ?_);rw[GA.eq_1];exact s_e [(4,5)];rintro⟨s,c⟩ ⟨hle,hdig,hcar,hval⟩;simp only at hle hdig hcar hval;rw[GA.eq_1];refine r_z 1 ?_;refine ae (ap rfl (fun h=>?_) (fun h=>?_));refine ak ?_;have hlt:s.length< (aw MB p).length:=by simpa using h
 obtain⟨x,hx⟩:∃x,(aw MB p)[s.length]?=some x:=⟨_,List.getElem?_eq_getElem hlt⟩;have hx1:x< 1000000000:=cv (by decide) hx;have hx':(dE (aw MB p))[((s.length:Nat):Int).toNat]?=some [u32 x]:=dD hx;refine ae (aj (s_r 5 ?_));refine a_1 ?_;refine i_x hx' ?_;refine l_1 hx' ?_;refine a_z ?_;refine r_z 4 ?_;refine ae (r_z 5 ?_)
 have hq0:∀y,((aw MB q)[s.length]?.getD 0=y)→y< 1000000000:=by
  rintro y rfl;cases hy:(aw MB q)[s.length]? with
  |none=>decide
  |some y=>exact cv (by decide) hy
 refine aG (fun v:Nat=>⟨[(26,i64 s.length),(25,i64 (aw MB p).length),(24,mag p),(2,.lptr 1 0 0),(3,.lptr 2 0 0),(4,.lptr 3 0 0),(5,.lsl 4 0 ((aw MB p).length+1) (some ((aw MB p).length+1)) 1),(7,i64 s.length),(8,u32 v)],
  [(1,some ⟨32,1,[[mag p]]⟩),(2,some ⟨32,1,[[mag q]]⟩),(3,some ⟨32,1,[[.emp]]⟩),(4,some ⟨188,1,dE (s++List.replicate ((aw MB p).length+1- s.length) 0)⟩)],5,63⟩)
  (fun v=>v=x+c+(aw MB q)[s.length]?.getD 0) ?_ ?_
 refine ap rfl (fun h=>?_) (fun h=>?_);have hlt2:s.length< (aw MB q).length:=by simpa using h
 obtain⟨y,hy⟩:∃y,(aw MB q)[s.length]?=some y:=⟨_,List.getElem?_eq_getElem hlt2⟩;have hy1:y< 1000000000:=cv (by decide) hy;have hy':(dE (aw MB q))[((s.length:Nat):Int).toNat]?=some [u32 y]:=dD hy;refine r_m 8 ?_;refine a_4 ?_;refine i_x hy' ?_;refine l_1 hy' ?_;refine a_z ?_;refine⟨x+c+y,by rw[hy];rfl,?_⟩;exact s_e [];have hlt2:¬s.length< (aw MB q).length:=by simpa using h
 refine ak ⟨x+c,by rw[List.getElem?_eq_none (by omega)];rfl,?_⟩;exact s_e [];rintro v hv;obtain⟨y,hy⟩:∃y,y=(aw MB q)[s.length]?.getD 0:=⟨_,rfl⟩;have hy1:=hq0 y hy.symm;rw[←hy] at hv;refine r_z 1 ?_;refine ae (r_z 2 ?_)
 have hg:(dE (s++List.replicate ((aw MB p).length+1- s.length) 0))[0+((s.length:Nat):Int).toNat]?=some [u32 0]:=by
  rw[Nat.zero_add,Int.toNat_natCast];exact dD (by rw[show(aw MB p).length+1- s.length=((aw MB p).length- s.length)+1 by omega];exact zQ _ _ _ rfl)
 have hset:∀w:Nat,(dE (s++List.replicate ((aw MB p).length+1- s.length) 0)).set (0+((s.length:Nat):Int).toNat) [u32 w]=dE ((s++[w])++List.replicate ((aw MB p).length+1- (s++[w]).length) 0):=by
  intro w;rw[Nat.zero_add,Int.toNat_natCast,gX,show(aw MB p).length+1- s.length=((aw MB p).length- s.length)+1 by omega,yW _ _ _ _ rfl,show(aw MB p).length+1- (s++[w]).length=(aw MB p).length- s.length by simp]
 have hnext:∀w c',w+1000000000* c'=x+c+y→w< 1000000000→c'≤1→PlusI p q (s++[w],c'):=by
  intro w c' hw hwb hc';refine⟨by simp;omega,?_,hc',?_⟩;intro d hd;rcases List.mem_append.1 hd with hd|hd
  exact hdig d hd;simp at hd;subst hd;exact hwb;simp only[List.length_append,List.length_singleton];rw[gR,cC _ hx,eE,←hy,Nat.pow_succ];have e:MB^ s.length* w+MB^ s.length* MB* c'=MB^ s.length* (w+MB* c'):=by rw[Nat.mul_add,Nat.mul_assoc]
  have e2:MB^ s.length* (x+c+y)=MB^ s.length* x+MB^ s.length* c+MB^ s.length* y:=by rw[Nat.mul_add,Nat.mul_add]
  rw[hw,e2] at e;omega
 refine ap rfl (fun h=>?_) (fun h=>?_);have hb:1000000000≤v:=by have:=of_decide_eq_true h;omega
 have hv1:((v:Int)- 1000000000)=((v- 1000000000:Nat):Int):=by omega
 refine r_m 4 ?_;refine a_z ?_;refine r_m 5 ?_;refine a_4 ?_;refine dX (.store rfl rfl hg rfl rfl rfl TS.h (nle rfl)) ?_;refine ao ?_;refine r_m 2 ?_;refine a_z ?_;refine⟨(s++[v- 1000000000],1),by simp;omega,hnext _ _ (by omega) (by omega) (Nat.le_refl _),?_⟩;rw[GA.eq_1];exact s_x [] (fun hs=>dU) (fun hs=>e_26);have hb:v< 1000000000:=by have:=of_decide_eq_false h;omega
 refine ak (r_m 5 ?_);refine a_4 ?_;refine dX (.store rfl rfl hg rfl rfl rfl TS.h (nle rfl)) ?_;refine ao ?_;refine r_m 2 ?_;refine a_z ?_;refine⟨(s++[v],0),by simp;omega,hnext _ _ (by omega) hb (by omega),?_⟩;rw[GA.eq_1];exact s_x [] (fun hs=>dU) (fun hs=>e_27);refine ay ⟨(s,c),⟨⟨hle,hdig,hcar,hval⟩,?_⟩,?_⟩;simp at h;simp;omega;rw[GA.eq_1];exact s_e [];rintro⟨s,c⟩ ⟨⟨hle,hdig,hcar,hval⟩,hlen⟩;simp only at hle hdig hcar hval hlen
 have hg:(dE (s++List.replicate ((aw MB p).length+1- s.length) 0))[0+(((aw MB p).length:Nat):Int).toNat]?=some [u32 0]:=by
  rw[Nat.zero_add,Int.toNat_natCast,←hlen];exact dD (by rw[show s.length+1- s.length=0+1 by omega];exact zQ _ _ _ rfl)
 have hset:(dE (s++List.replicate ((aw MB p).length+1- s.length) 0)).set (0+(((aw MB p).length:Nat):Int).toNat) [u32 c]=dE (s++[c]):=by
  rw[Nat.zero_add,Int.toNat_natCast,←hlen,gX,show s.length+1- s.length=0+1 by omega,yW _ _ _ _ rfl];simp
 have hres:e9 (s++[c])=aw MB (a+b):=by
  rw[ju (b:=MB) (by decide),gR,hval,gQ _ (by omega),gQ _ (by omega),bt (by decide),bt (by decide),hpq];intro d hd;rcases List.mem_append.1 hd with hd|hd
  exact hdig d hd;simp at hd;subst hd;show d< 1000000000;omega
 rw[GA.eq_1];refine s_r 7 ?_;refine a_6 ?_;refine dX (.store rfl rfl hg rfl rfl rfl TS.h (nle rfl)) ?_;refine ao ?_;refine AWp.ent (st':=⟨[(4,.lptr 3 0 0),(5,.arr (dE (s++[c])))],[(3,some ⟨32,1,[[.emp]]⟩)],4,63⟩) ?_ ?_;refine s_x [] (fun hs=>?_) (fun hs=>?_)
 ·repeat' (first|exact aN|refine aA rfl ?_ ?_|exact Cv.sealE hs rfl (aM rfl) hset (by simp[hlen]) (bH _)|exact aV)
 ·repeat' (first|exact aE|refine h_c ?_ ?_|exact bC|refine az ?_|exact av|refine ah ?_ ?_|exact Cv.sealE hs rfl (aM rfl) hset (by simp[hlen]) (bH _)|exact aV)
 refine s_r 3 ?_;refine o_0 (.move rfl) ?_;refine o_0 (.call rfl rfl rfl (iv _ (by simp;omega))) ?_;refine a_z ?_;refine ai (dA rfl rfl rfl TG.h TS.h (nle rfl) ?_ (aC (ac (b6 _) af)));rw[hres];rfl
def agS(a:Nat)(b:Nat):Nat→AState
 |k=>⟨[(2,.lptr 1 0 0),(3,.lptr 2 0 0),(6,i64 ((k:Int)- 1))],[(1,some ⟨32,1,[[mag a]]⟩),(2,some ⟨32,1,[[mag b]]⟩)],3,40⟩
theorem nU(a b:Nat)(h:bl a+bl b≤17592186044416):FS 95 [.agg [mag a],.agg [mag b]] (i64 (eu a b)):=by
 have s:=bR (b:=MB) (by decide) a;have t:=bR (b:=MB) (by decide) b;refine f_c Tryz.func95 ?_;refine r_z 3 ?_;refine ae (r_c 8 (x7 _ _) ?_);refine a_z ?_;refine r_z 2 ?_;refine ap rfl (fun h=>?_) (fun h=>?_);have c:eu (aw MB a).length (aw MB b).length≠0:=by simpa using h
 refine r_z 2 ?_;refine ai (aW rfl ?_ (ag _));unfold i64;congr 2;rw[sS] at c;rcases Nat.lt_or_ge (aw MB a).length (aw MB b).length with g|g
 have:=jm (by decide) g;rw[ly (by omega),ly (by omega)];have:=jm (m:=b) (n:=a) (b:=MB) (by decide) (by omega);rw[ng (by omega),ng (by omega)]
 have heq:(aw MB a).length=(aw MB b).length:=by
  have o:¬eu (aw MB a).length (aw MB b).length≠0:=by simpa using h
  rw[sS] at o;omega
 refine ak (ae (r_z 5 ?_));refine aG (agS a b) (fun k=>k=0∧a=b) ?_ ?_;refine aj (aB (agS a b) (fun k=>k) (fun k=>k≤(aw MB a).length∧(aw MB a).drop k=(aw MB b).drop k) (aw MB a).length ⟨Nat.le_refl _,by rw[List.drop_length,heq,List.drop_length]⟩ ?_ ?_);rw[agS.eq_1];exact s_e [];rintro k ⟨u,i⟩;rw[agS.eq_1];refine ae (r_z 2 ?_);refine ap rfl (fun h=>?_) (fun h=>?_);have f:0< k:=by have:=of_decide_eq_true h;omega
 obtain⟨x,l⟩:∃x,(aw MB a)[k- 1]?=some x:=⟨_,List.getElem?_eq_getElem (by omega)⟩;obtain⟨y,j⟩:∃y,(aw MB b)[k- 1]?=some y:=⟨_,List.getElem?_eq_getElem (by omega)⟩;have d:(dE (aw MB a))[((k:Int)- 1).toNat]?=some [u32 x]:=by rw[show((k:Int)- 1).toNat=k- 1 by omega];exact dD l
 have e:(dE (aw MB b))[((k:Int)- 1).toNat]?=some [u32 y]:=by rw[show((k:Int)- 1).toNat=k- 1 by omega];exact dD j
 rw[show k=(k- 1)+1 by omega] at i;refine ak (ae (aj (ae (r_d a6 12 ?_))));refine a_3 ?_;refine i_x d ?_;refine l_1 d ?_;refine a_3 ?_;refine i_x e ?_;refine l_1 e ?_;refine c_s (xZ x y) ?_;refine a_1 ?_;refine ao (n_k ?_);refine r_z 2 ?_;refine ap rfl (fun r=>?_) (fun r=>?_);have c:eu x y≠0:=by simpa using r
 refine r_z 2 ?_;refine ai (aW rfl ?_ (ag _));unfold i64;congr 2;rw[sS] at c;rcases Nat.lt_or_ge x y with g|g
 have:=mT (b:=MB) (dI (by decide) a) l j i g;rw[bt (by decide),bt (by decide)] at this;rw[ly (by omega),ly (by omega)];have:=mT (b:=MB) (dI (by decide) b) j l i.symm (by omega);rw[bt (by decide),bt (by decide)] at this;rw[ng (by omega),ng (by omega)]
 have p:x=y:=by
  have o:¬eu x y≠0:=by simpa using r
  rw[sS] at o;omega
 refine ak (r_m 3 ?_);refine a_z ?_;refine⟨k- 1,by omega,⟨by omega,?_⟩,?_⟩;rw[fN l,fN j,i,p];rw[agS.eq_1];exact s_e [];have f:k=0:=by have:=of_decide_eq_false h;omega
 subst f;refine ay ⟨0,⟨rfl,?_⟩,?_⟩;have:=congrArg (ofD MB) i;rwa[List.drop_zero,List.drop_zero,bt (by decide),bt (by decide)] at this;rw[agS.eq_1];exact s_e [];rintro k ⟨rfl,q⟩;rw[agS.eq_1];refine r_z 1 ?_;refine ai (aW rfl ?_ (ag _));subst q;rw[En rfl];rfl
def leS(a:Nat)(b:Nat):List Nat×Nat→AState
 |(s,c)=>⟨[(19,i64 s.length),(18,i64 (aw MB a).length),(2,.lptr 1 0 0),(3,.lptr 2 0 0),(4,.lptr 3 0 0),(5,.lsl 4 0 (aw MB a).length (some (aw MB a).length) 1),(6,u32 c)],
  [(1,some ⟨32,1,[[mag a]]⟩),(2,some ⟨32,1,[[mag b]]⟩),(3,some ⟨32,1,[[.emp]]⟩),(4,some ⟨188,1,dE (s++(aw MB a).drop s.length)⟩)],5,61⟩
def leT(n:Nat):List Nat×Unit→AState
 |(o,u)=>⟨[(4,.lptr 3 0 0),(5,.lsl 4 0 n (some n) 1)],
  [(3,some ⟨32,1,[[.emp]]⟩),(4,some ⟨188,1,dE o⟩)],5,61⟩
structure LessI (a b:Nat)(x:List Nat×Nat):Prop where
 le:x.1.length≤(aw MB a).length
 dig:∀d∈x.1,d< MB
 car:x.2≤1
 val:ofD MB x.1+ofD MB ((aw MB b).take x.1.length)=ofD MB ((aw MB a).take x.1.length)+MB^ x.1.length* x.2
theorem xN(a b:Nat)(h:bl a≤17592186044416)(hba:b≤a):FS 125 [.agg [mag a],.agg [mag b]] (.agg [mag (a- b)]):=by
 have hla:=bR (b:=MB) (by decide) a;have hlen:=zG (b:=MB) (by decide) hba;have va:=bt (b:=MB) (by decide) a;have vb:=bt (b:=MB) (by decide) b;refine f_c Tryz.func125 ?_;refine r_z 3 ?_;refine r_z 5 ?_;refine s_r 4 ?_;refine a_3 ?_;refine o_1 (.copy rfl rfl rfl te_30.h rfl rfl rfl (by first|(simp;done)|(simp;omega)) (by first|exact dq _|exact dp _|exact cW _|exact dr _|exact dn _|rfl|simp) rfl (.arr (yv _))) ?_;refine ao ?_
 have hcp:eR (List.replicate (aw MB a).length [ofV (Value.int IntKind.u32 0)]) 0 (List.take (Nat.min (dE (aw MB a)).length (aw MB a).length) (dE (aw MB a)))=dE ([]++(aw MB a).drop 0):=by
  rw[EF];rw[List.take_of_length_le (by simp)];rfl;simp
 refine r_z 1 ?_;refine ae (r_z 3 ?_);refine aG (leT (aw MB a).length) (fun x=>(∀d∈x.1,d< MB)∧x.1.length=(aw MB a).length∧ofD MB x.1=a- b) ?_ ?_;refine aj (aB (leS a b) (fun x=>(aw MB a).length- x.1.length) (LessI a b) ([],0) ⟨by simp,by simp,by simp,by simp[ofD]⟩ ?_ ?_);rw[leS.eq_1];exact s_x [(4,5)] (fun hs=>dU) (fun hs=>e_29) e_28;rintro⟨s,c⟩ ⟨hle,hdig,hcar,hval⟩;simp only at hle hdig hcar hval;rw[leS.eq_1];refine r_z 1 ?_;refine ae (ap rfl (fun h=>?_) (fun h=>?_));have hlt:s.length< (aw MB a).length:=by have:=of_decide_eq_true h;omega
 obtain⟨x,hx⟩:∃x,(aw MB a)[s.length]?=some x:=⟨_,List.getElem?_eq_getElem hlt⟩;have hx1:x< 1000000000:=cv (by decide) hx;have hdx:=fN hx;refine ak (ae (aj (r_z 2 ?_)));refine r_z 2 ?_;refine ae (r_z 5 ?_)
 refine aG (fun v:Nat=>⟨[(19,i64 s.length),(18,i64 (aw MB a).length),(2,.lptr 1 0 0),(3,.lptr 2 0 0),(4,.lptr 3 0 0),(5,.lsl 4 0 (aw MB a).length (some (aw MB a).length) 1),(6,u32 c),(7,i64 s.length),(8,u32 v)],
  [(1,some ⟨32,1,[[mag a]]⟩),(2,some ⟨32,1,[[mag b]]⟩),(3,some ⟨32,1,[[.emp]]⟩),(4,some ⟨188,1,dE (s++(aw MB a).drop s.length)⟩)],5,61⟩)
  (fun v=>v=c+(aw MB b)[s.length]?.getD 0∧v≤1000000000) ?_ ?_
 refine ap rfl (fun h=>?_) (fun h=>?_);have hlt2:s.length< (aw MB b).length:=by have:=of_decide_eq_true h;omega
 obtain⟨y,hy⟩:∃y,(aw MB b)[s.length]?=some y:=⟨_,List.getElem?_eq_getElem hlt2⟩;have hy1:y< 1000000000:=cv (by decide) hy;have hy':(dE (aw MB b))[((s.length:Nat):Int).toNat]?=some [u32 y]:=dD hy;refine r_m 8 ?_;refine a_4 ?_;refine i_x hy' ?_;refine l_1 hy' ?_;refine a_z ?_;refine⟨c+y,⟨by rw[hy];rfl,by omega⟩,?_⟩;exact s_e [];have hlt2:¬s.length< (aw MB b).length:=by have:=of_decide_eq_false h;omega
 refine r_z 2 ?_;refine ap rfl (fun h=>?_) (fun h=>?_);have hc0:c=0:=by simpa using h
 refine ay ⟨(s++(aw MB a).drop s.length,()),⟨?_,by simp;omega,?_⟩,?_⟩;intro d hd;rcases List.mem_append.1 hd with hd|hd
 exact hdig d hd;exact dI (by decide) a d (List.mem_of_mem_drop hd);have:=dS MB s.length (aw MB a) (by omega);rw[va] at this;rw[gQ _ (by omega),vb,hc0] at hval;simp only[gw];omega;rw[leT.eq_1];exact s_e [];refine ak ⟨c,⟨by rw[List.getElem?_eq_none (by omega)];rfl,by omega⟩,?_⟩;exact s_e [];rintro v ⟨hv,hv1⟩;obtain⟨y,hy⟩:∃y,y=(aw MB b)[s.length]?.getD 0:=⟨_,rfl⟩;rw[←hy] at hv
 have hg:(dE (s++(aw MB a).drop s.length))[0+((s.length:Nat):Int).toNat]?=some [u32 x]:=by
  rw[Nat.zero_add,Int.toNat_natCast,hdx];exact dD (pv _ _ _ _ rfl)
 have hset:∀w:Nat,(dE (s++(aw MB a).drop s.length)).set (0+((s.length:Nat):Int).toNat) [u32 w]=dE ((s++[w])++(aw MB a).drop (s++[w]).length):=by
  intro w;rw[Nat.zero_add,Int.toNat_natCast,gX,hdx,oX _ _ _ _ _ rfl];simp
 have hnext:∀w c',w+v=x+1000000000* c'→w< 1000000000→c'≤1→LessI a b (s++[w],c'):=by
  intro w c' hw hwb hc';refine⟨by simp;omega,?_,hc',?_⟩;intro d hd;rcases List.mem_append.1 hd with hd|hd
  exact hdig d hd;simp at hd;subst hd;exact hwb;simp only[List.length_append,List.length_singleton];rw[gR,cC _ hx,eE,←hy,Nat.pow_succ];have e:MB^ s.length* (w+v)=MB^ s.length* (x+MB* c'):=by rw[hw]
  rw[hv,Nat.mul_add,Nat.mul_add,Nat.mul_add,←Nat.mul_assoc] at e;omega
 refine r_z 1 ?_;refine ae (s_r 6 ?_);refine a_2 ?_
 first|refine aF (.index_l rfl rfl (by omega) (by omega) te_30.h) rfl rfl ?_|refine aF (.index_a rfl rfl (by omega) hg rfl te_30.h) rfl rfl ?_
 first|refine aF (.load_l1 rfl rfl hg TG.h rfl) rfl rfl ?_|refine aF (.load_a1 rfl hg TG.h rfl) rfl rfl ?_
 refine a_z ?_;refine ap rfl (fun h=>?_) (fun h=>?_);have hb:x< v:=by have:=of_decide_eq_true h;omega
 have hv2:((x:Int)+1000000000- v)=((x+1000000000- v:Nat):Int):=by omega
 have hv3:((x:Int)+1000000000)=((x+1000000000:Nat):Int):=by omega
 refine r_m 10 ?_;refine a_5 ?_
 first|refine aF (.load_l1 rfl rfl hg TG.h rfl) rfl rfl ?_|refine aF (.load_a1 rfl hg TG.h rfl) rfl rfl ?_
 refine a_2 ?_;refine dX (.store rfl rfl hg rfl rfl rfl TS.h (nle rfl)) ?_;refine a_z ?_
 refine AWp.ent (st':=⟨[(19,i64 s.length),(18,i64 (aw MB a).length),(2,.lptr 1 0 0),(3,.lptr 2 0 0),(4,.lptr 3 0 0),(5,.lsl 4 0 (aw MB a).length (some (aw MB a).length) 1),(6,u32 1),(7,i64 s.length),(8,u32 v)],
  [(1,some ⟨32,1,[[mag a]]⟩),(2,some ⟨32,1,[[mag b]]⟩),(3,some ⟨32,1,[[.emp]]⟩),(4,some ⟨188,1,dE (s++(x+1000000000)::(aw MB a).drop (s.length+1))⟩)],5,61⟩) ?_ ?_
 refine s_x [] (fun hs=>dU) (fun hs=>?_)
 ·repeat' (first|exact aE|refine h_c ?_ ?_|(refine aI hs ?_ (bH _);rw[hv3];exact(hset _).trans (by simp))|exact bC)
 have hg2:(dE (s++(x+1000000000)::(aw MB a).drop (s.length+1)))[0+((s.length:Nat):Int).toNat]?=some [u32 (x+1000000000)]:=by
  rw[Nat.zero_add,Int.toNat_natCast];exact dD (pv _ _ _ _ rfl)
 have hset2:∀w:Nat,(dE (s++(x+1000000000)::(aw MB a).drop (s.length+1))).set (0+((s.length:Nat):Int).toNat) [u32 w]=dE ((s++[w])++(aw MB a).drop (s++[w]).length):=by
  intro w;rw[Nat.zero_add,Int.toNat_natCast,gX,oX _ _ _ _ _ rfl];simp
 have hv2:(((x+1000000000:Nat):Int)- v)=((x+1000000000- v:Nat):Int):=by omega
 refine r_m 8 ?_;refine a_2 ?_
 first|refine aF (.index_l rfl rfl (by omega) (by omega) te_30.h) rfl rfl ?_|refine aF (.index_a rfl rfl (by omega) hg2 rfl te_30.h) rfl rfl ?_
 first|refine aF (.load_l1 rfl rfl hg2 TG.h rfl) rfl rfl ?_|refine aF (.load_a1 rfl hg2 TG.h rfl) rfl rfl ?_
 refine a_3 ?_;refine dX (.store rfl rfl hg2 rfl rfl rfl TS.h (nle rfl)) ?_;refine ao ?_;refine r_m 2 ?_;refine a_z ?_;refine⟨(s++[x+1000000000- v],1),by simp;omega,hnext _ _ (by omega) (by omega) (by omega),?_⟩;rw[leS.eq_1];refine s_x [] (fun hs=>dU) (fun hs=>?_)
 ·repeat' (first|exact aE|refine h_c ?_ ?_|(refine aI hs ?_ (bH _);rw[hv2];exact hset2 _)|exact bC)
 have hb:v≤x:=by have:=of_decide_eq_false h;omega
 have hv1:((x:Int)- v)=((x- v:Nat):Int):=by omega
 refine ak (r_m 8 ?_);refine a_2 ?_
 first|refine aF (.index_l rfl rfl (by omega) (by omega) te_30.h) rfl rfl ?_|refine aF (.index_a rfl rfl (by omega) hg rfl te_30.h) rfl rfl ?_
 first|refine aF (.load_l1 rfl rfl hg TG.h rfl) rfl rfl ?_|refine aF (.load_a1 rfl hg TG.h rfl) rfl rfl ?_
 refine a_3 ?_;refine dX (.store rfl rfl hg rfl rfl rfl TS.h (nle rfl)) ?_;refine ao ?_;refine r_m 2 ?_;refine a_z ?_;refine⟨(s++[x- v],0),by simp;omega,hnext _ _ (by omega) (by omega) (by omega),?_⟩;rw[leS.eq_1];exact s_x [] (fun hs=>dU) (fun hs=>e_26);have hl:s.length=(aw MB a).length:=by have:=of_decide_eq_false h;omega
 refine ay ⟨(s,()),⟨hdig,hl,?_⟩,?_⟩;have h1:=fq hdig;rw[hl,gQ _ hlen,gQ _ (Nat.le_refl _),va,vb] at hval;rw[hl] at h1
 have h2:c=0:=by
  rcases Nat.eq_zero_or_pos c with h|h
  exact h;have:MB^ (aw MB a).length* 1≤MB^ (aw MB a).length* c:=Nat.mul_le_mul_left _ h;omega
 subst h2;simp at hval⊢;omega;rw[leT.eq_1];refine s_x [] (fun hs=>?_) (fun hs=>?_) ?_
 ·repeat' (first|exact aN|refine aA rfl ?_ ?_|exact aV|(refine Cv.loE hs ?_ (ag _);first|rfl|(simp[i64,u64,u32,bln,hl];done)|(simp[i64,u64,u32,bln,hl]<;> omega)))
 ·repeat' (first|exact aE|refine h_c ?_ ?_|exact bC|(refine aI hs ?_ (bH _);first|(simp[gX,kR,gY,hl];done)|(simp[dE,u32,ofV,hl];done))|refine az ?_|exact av|refine ah ?_ ?_|exact aV|(refine Cv.loE hs ?_ (ag _);first|(simp[i64,u64,u32,bln,hl];done)|(simp[i64,u64,u32,bln,hl]<;> omega)))
 ·repeat' (first|exact ShrL.nil|refine ShrL.cons rfl rfl rfl rfl (by first|rfl|(simp;done)|(simp[hl]<;> omega)) ?_)
 rintro⟨o,u⟩ ⟨hd,hl,hv⟩;rw[leT.eq_1];refine AWp.ent (st':=⟨[(4,.lptr 3 0 0),(5,.arr (dE o))],[(3,some ⟨32,1,[[.emp]]⟩)],4,61⟩) ?_ ?_;refine s_x [] (fun hs=>?_) (fun hs=>?_)
 ·repeat' (first|exact aN|refine aA rfl ?_ ?_|exact Cv.sealE hs rfl (aM rfl) rfl (by simp[hl]) (bH _)|exact aV)
 ·repeat' (first|exact aE|refine h_c ?_ ?_|exact bC|refine az ?_|exact av|refine ah ?_ ?_|exact Cv.sealE hs rfl (aM rfl) rfl (by simp[hl]) (bH _)|exact aV)
 simp only at hl hv;refine s_r 3 ?_;refine o_0 (.move rfl) ?_;refine o_0 (.call rfl rfl rfl (iv _ (by omega))) ?_;refine dX (.store rfl rfl rfl rfl rfl rfl TS.h (nle rfl)) ?_;refine ao ?_;refine ai (dA rfl rfl rfl TG.h TS.h (nle rfl) ?_ (aC (ac (b6 _) af)));rw[ju (b:=MB) (by decide) hd,hv];rfl
def tiS(a:Nat)(b:Nat):List Nat×Nat→AState
 |(o,i)=>⟨[(22,i64 i),(21,i64 (aw MB a).length),(20,mag a),(3,.lptr 2 0 0),(4,.lptr 3 0 0),(5,.lsl 4 0 ((aw MB a).length+(aw MB b).length) (some ((aw MB a).length+(aw MB b).length)) 1)],
  [(2,some ⟨32,1,[[mag b]]⟩),(3,some ⟨32,1,[[.emp]]⟩),(4,some ⟨188,1,dE o⟩)],5,73⟩
def tiT(a:Nat)(b:Nat)(i:Nat)(x:Nat):List Nat×Nat×Nat→AState
 |(o,k,c)=>⟨[(22,i64 i),(21,i64 (aw MB a).length),(20,mag a),(3,.lptr 2 0 0),(4,.lptr 3 0 0),(5,.lsl 4 0 ((aw MB a).length+(aw MB b).length) (some ((aw MB a).length+(aw MB b).length)) 1),(6,i64 i),(7,u32 x),(8,u64 c),(30,i64 k),(29,i64 (aw MB b).length),(28,mag b)],
  [(2,some ⟨32,1,[[mag b]]⟩),(3,some ⟨32,1,[[.emp]]⟩),(4,some ⟨188,1,dE o⟩)],5,73⟩
structure TimesI (a b:Nat)(x:List Nat×Nat):Prop where
 len:x.1.length=(aw MB a).length+(aw MB b).length
 le:x.2≤(aw MB a).length
 dig:∀d∈x.1,d< MB
 val:ofD MB x.1=ofD MB ((aw MB a).take x.2) * b
 zer:∀j,x.2+(aw MB b).length≤j→j< x.1.length→x.1[j]?=some 0
structure TimesJ (a b i v:Nat)(x:List Nat×Nat×Nat):Prop where
 len:x.1.length=(aw MB a).length+(aw MB b).length
 le:x.2.1≤(aw MB b).length
 dig:∀d∈x.1,d< MB
 car:x.2.2< MB
 val:ofD MB x.1+MB^ (i+x.2.1) * x.2.2=ofD MB ((aw MB a).take i) * b+MB^ i* v* ofD MB ((aw MB b).take x.2.1)
 zer:∀j,i+(aw MB b).length≤j→j< x.1.length→x.1[j]?=some 0
theorem ga(a b:Nat)(h:bl a+bl b≤17592186044416):FS 76 [.agg [mag a],.agg [mag b]] (.agg [mag (a* b)]):=by
 have V:=bR (b:=MB) (by decide) a;have hlb:=bR (b:=MB) (by decide) b;have va:=bt (b:=MB) (by decide) a;have Z:=bt (b:=MB) (by decide) b;refine f_c Tryz.func76 ?_;refine r_z 3 ?_;refine r_z 9 ?_;refine ae (r_z 4 ?_);refine aG (tiS a b) (fun x=>TimesI a b x∧x.2=(aw MB a).length) ?_ ?_;refine aj (aB (tiS a b) (fun x=>(aw MB a).length- x.2) (TimesI a b) (List.replicate ((aw MB a).length+(aw MB b).length) 0,0) ⟨by simp,by simp,?_,by simp[qA,ofD],?_⟩ ?_ ?_);intro d E;simp at E;rw[E.2];decide;intro j _ D;simp at D;simp[D];rw[tiS.eq_1];exact s_e [(4,5)];rintro⟨o,i⟩ ⟨m,u,r,e,s⟩;simp only at m u r e s;rw[tiS.eq_1];refine r_z 1 ?_;refine ae (ap rfl (fun h=>?_) (fun h=>?_));have M:i< (aw MB a).length:=by have:=of_decide_eq_true h;omega
 obtain⟨x,O⟩:∃x,(aw MB a)[i]?=some x:=⟨_,List.getElem?_eq_getElem M⟩;have W:x< 1000000000:=cv (by decide) O;have F:(dE (aw MB a))[((i:Nat):Int).toNat]?=some [u32 x]:=dD O;refine ak (ae (aj (s_r 5 ?_)));refine a_1 ?_;refine i_x F ?_;refine l_1 F ?_;refine a_z ?_;refine r_z 1 ?_;refine ae (r_z 4 ?_);refine aG (tiT a b i x) (fun y=>TimesJ a b i x y∧y.2.1=(aw MB b).length) ?_ ?_;refine aj (aB (tiT a b i x) (fun y=>(aw MB b).length- y.2.1) (TimesJ a b i x) (o,0,0) ⟨m,by simp,r,(show 0< MB by decide),by simp[e,ofD],s⟩ ?_ ?_);rw[tiT.eq_1];exact s_e [];rintro⟨q,k,c⟩ ⟨p,t,f,g,n,l⟩;simp only at p t f g n l;rw[tiT.eq_1];refine r_z 1 ?_;refine ae (ap rfl (fun h=>?_) (fun h=>?_));have H:k< (aw MB b).length:=by have:=of_decide_eq_true h;omega
 obtain⟨y,N⟩:∃y,(aw MB b)[k]?=some y:=⟨_,List.getElem?_eq_getElem H⟩;have U:y< 1000000000:=cv (by decide) N;have G:(dE (aw MB b))[((k:Nat):Int).toNat]?=some [u32 y]:=dD N;obtain⟨d,E⟩:∃d,q[i+k]?=some d:=⟨_,List.getElem?_eq_getElem (by omega)⟩;have X:d< 1000000000:=f d (List.mem_of_getElem? E);have L:c< 1000000000:=g;have hg:(dE q)[0+(((i:Int)+k)).toNat]?=some [u32 d]:=by rw[show 0+((i:Int)+k).toNat=i+k by omega];exact dD E
 have A:∀w:Nat,(dE q).set (0+(((i:Int)+k)).toNat) [u32 w]=dE (q.set (i+k) w):=by intro w;rw[show 0+((i:Int)+k).toNat=i+k by omega,gX]
 have R:x* y≤999999999* 999999999:=Nat.mul_le_mul (by omega) (by omega);have Q:0≤(x:Int) * y:=Int.mul_nonneg (by omega) (by omega);have B:(x:Int) * y=((x* y:Nat):Int):=by push_cast;rfl
 refine ak (ae (aj (s_r 5 ?_)));refine a_1 ?_;refine i_x G ?_;refine l_1 G ?_;refine a_z ?_;refine s_r 16 ?_;refine a_8 ?_;refine a_2 ?_
 first|refine aF (.index_l rfl rfl (by omega) (by omega) te_30.h) rfl rfl ?_|refine aF (.index_a rfl rfl (by omega) hg rfl te_30.h) rfl rfl ?_
 first|refine aF (.load_l1 rfl rfl hg TG.h rfl) rfl rfl ?_|refine aF (.load_a1 rfl hg TG.h rfl) rfl rfl ?_
 refine a_z ?_;refine r_m 12 ?_;refine a_8 ?_;refine a_2 ?_;refine dX (.store rfl rfl hg rfl rfl rfl TS.h (nle rfl)) ?_;refine a_z ?_;refine r_m 2 ?_;refine a_z ?_;have hm:((c:Int)+((x:Int) * y+d)) % 1000000000=(((c+(x* y+d)) % 1000000000:Nat):Int):=by rw[B];omega
 have S:((c:Int)+((x:Int) * y+d)) / 1000000000=(((c+(x* y+d)) / 1000000000:Nat):Int):=by rw[B];omega
 refine⟨(q.set (i+k) ((c+(x* y+d)) % 1000000000),k+1,(c+(x* y+d)) / 1000000000),by simp;omega,⟨by simp[p],by simp;omega,sx f (Nat.mod_lt _ (by decide)),?_,?_,?_⟩,?_⟩;show _< 1000000000;simp only;omega;simp only;have e1:=ph MB ((c+(x* y+d)) % 1000000000) E;have e2:=Nat.mod_add_div (c+(x* y+d)) 1000000000
 have e3:MB^ (i+k) * ((c+(x* y+d)) % 1000000000)+MB^ (i+(k+1)) * ((c+(x* y+d)) / 1000000000)=MB^ (i+k) * c+(MB^ (i+k) * (x* y)+MB^ (i+k) * d):=by
  rw[←Nat.add_assoc i k 1,Nat.pow_succ,Nat.mul_assoc,←Nat.mul_add,show MB* ((c+(x* y+d)) / 1000000000)=1000000000* ((c+(x* y+d)) / 1000000000) from rfl,e2,Nat.mul_add,Nat.mul_add]
 have Y:MB^ i* x* ofD MB ((aw MB b).take (k+1))=MB^ i* x* ofD MB ((aw MB b).take k)+MB^ (i+k) * (x* y):=by
  rw[cC _ N,Nat.mul_add];congr 1;rw[Nat.pow_add];simp only[Nat.mul_assoc,Nat.mul_left_comm,Nat.mul_comm]
 rw[Y];omega;intro j D C;rw[List.getElem?_set_ne (by omega)];exact l j D (by simpa using C);rw[tiT.eq_1];refine s_x [] (fun hs=>?_) (fun hs=>?_)
 ·repeat' (first|exact aN|refine aA rfl ?_ ?_|exact Cv.loE hs (congrArg (fun z=>AV.v (.int .u64 z)) S) (ag _)|exact aV)
 ·repeat' (first|exact aE|refine h_c ?_ ?_|(refine aI hs ?_ (bH _);rw[hm];exact A _)|exact bC|refine az ?_|exact av|refine ah ?_ ?_|exact Cv.loE hs (congrArg (fun z=>AV.v (.int .u64 z)) S) (ag _)|exact aV)
 have J:k=(aw MB b).length:=by have:=of_decide_eq_false h;omega
 refine ay ⟨(q,k,c),⟨⟨p,t,f,g,n,l⟩,J⟩,?_⟩;rw[tiT.eq_1];exact s_e [];rintro⟨q,k,c⟩ ⟨⟨p,t,f,g,n,l⟩,J⟩;simp only at p t f g n l J;subst J;have L:c< 1000000000:=g;have T:=l (i+(aw MB b).length) (Nat.le_refl _) (by omega);have hg:(dE q)[0+(((i:Int)+(aw MB b).length)).toNat]?=some [u32 0]:=by rw[show 0+((i:Int)+(aw MB b).length).toNat=i+(aw MB b).length by omega];exact dD T
 have A:(dE q).set (0+(((i:Int)+(aw MB b).length)).toNat) [u32 c]=dE (q.set (i+(aw MB b).length) c):=by rw[show 0+((i:Int)+(aw MB b).length).toNat=i+(aw MB b).length by omega,gX]
 rw[List.take_length,Z] at n;rw[tiT.eq_1];refine r_m 10 ?_;refine a_8 ?_;refine a_1 ?_;refine dX (.store rfl rfl hg rfl rfl rfl TS.h (nle rfl)) ?_;refine ao ?_;refine r_m 2 ?_;refine a_z ?_;refine⟨(q.set (i+(aw MB b).length) c,i+1),by simp;omega,⟨by simp[p],by simp;omega,sx f g,?_,?_⟩,?_⟩;simp only;have e1:=ph MB c T;rw[cC _ O,Nat.add_mul,←n];omega;intro j D C;rw[List.getElem?_set_ne (by simp only at D;omega)];exact l j (by simp only at D;omega) (by simpa using C);rw[tiS.eq_1];exact s_f [];have K:i=(aw MB a).length:=by have:=of_decide_eq_false h;omega
 refine ay ⟨(o,i),⟨⟨m,u,r,e,s⟩,K⟩,?_⟩;rw[tiS.eq_1];exact s_e [];rintro⟨o,i⟩ ⟨⟨m,u,r,e,s⟩,K⟩;simp only at m u r e s K;subst K;rw[List.take_length,va] at e;rw[tiS.eq_1];refine AWp.ent (st':=⟨[(4,.lptr 3 0 0),(5,.arr (dE o))],[(3,some ⟨32,1,[[.emp]]⟩)],4,73⟩) ?_ ?_;refine s_x [] (fun hs=>?_) (fun hs=>?_)
 ·repeat' (first|exact aN|refine aA rfl ?_ ?_|exact Cv.sealE hs rfl (aM rfl) rfl (by simp[m]) (bH _)|exact aV)
 ·repeat' (first|exact aE|refine h_c ?_ ?_|exact bC|refine az ?_|exact av|refine ah ?_ ?_|exact Cv.sealE hs rfl (aM rfl) rfl (by simp[m]) (bH _)|exact aV)
 refine s_r 3 ?_;refine o_0 (.move rfl) ?_;refine o_0 (.call rfl rfl rfl (iv _ (by omega))) ?_;refine dX (.store rfl rfl rfl rfl rfl rfl TS.h (nle rfl)) ?_;refine ao ?_;refine ai (dA rfl rfl rfl TG.h TS.h (nle rfl) ?_ (aC (ac (b6 _) af)));rw[ju (b:=MB) (by decide) r,e];rfl
def siS(a:Nat)(d:Nat):Nat×List Nat×Nat→AState
 |(k,t,r)=>⟨[(8,i64 ((k:Int)- 1)),(1,u32 d),(2,.lptr 1 0 0),(4,.lptr 2 0 0),(5,.lptr 3 0 0),(6,.lsl 4 0 (aw MB a).length (some (aw MB a).length) 1),(7,u64 r)],
  [(1,some ⟨32,1,[[mag a]]⟩),(2,some ⟨32,1,[[.emp]]⟩),(3,some ⟨32,1,[[.emp]]⟩),(4,some ⟨188,1,dE (List.replicate k 0++t)⟩)],5,46⟩
structure SimI (a d:Nat)(x:Nat×List Nat×Nat):Prop where
 len:x.1+x.2.1.length=(aw MB a).length
 dig:∀y∈x.2.1,y< MB
 rest:x.2.2< d
 val:ofD MB ((aw MB a).drop x.1)=d* ofD MB x.2.1+x.2.2
theorem E1(a d:Nat)(h:bl a≤17592186044416)(hd0:0< d)(hd:d< 4294967296):FS 166 [.agg [mag a],u32 d] (.tup [.agg [mag (a/ d)],.agg [mag (a % d)]]):=by
 have D:=bR (b:=MB) (by decide) a;have va:=bt (b:=MB) (by decide) a;refine f_c Tryz.func166 ?_;refine r_z 3 ?_;refine r_z 5 ?_;refine r_z 1 ?_;refine ae (r_z 5 ?_);refine aG (siS a d) (fun x=>SimI a d x∧x.1=0) ?_ ?_;refine aj (aB (siS a d) (fun x=>x.1) (SimI a d) ((aw MB a).length,[],0) ⟨by simp,by simp,hd0,by simp[ofD]⟩ ?_ ?_);rw[siS.eq_1];exact s_e [(4,6)];rintro⟨k,t,r⟩ ⟨i,g,c,f⟩;simp only at i g c f;rw[siS.eq_1];refine ae (r_z 2 ?_);refine ap rfl (fun h=>?_) (fun h=>?_);have q:0< k:=by have:=of_decide_eq_true h;omega
 obtain⟨x,A⟩:∃x,(aw MB a)[k- 1]?=some x:=⟨_,List.getElem?_eq_getElem (by omega)⟩;have E:x< 1000000000:=cv (by decide) A;have p:(dE (aw MB a))[((k:Int)- 1).toNat]?=some [u32 x]:=by rw[show((k:Int)- 1).toNat=k- 1 by omega];exact dD A
 have j:List.replicate k 0++t=List.replicate (k- 1) 0++0::t:=by
  conv=>lhs;rw[show k=(k- 1)+1 by omega,List.replicate_succ']
  simp
 have hg:(dE (List.replicate k 0++t))[0+((k:Int)- 1).toNat]?=some [u32 0]:=by
  rw[show 0+((k:Int)- 1).toNat=k- 1 by omega,j];exact dD (pv _ _ _ _ (by simp))
 have o:∀w:Nat,(dE (List.replicate k 0++t)).set (0+((k:Int)- 1).toNat) [u32 w]=dE (List.replicate (k- 1) 0++(w::t)):=by
  intro w;rw[show 0+((k:Int)- 1).toNat=k- 1 by omega,gX,j,oX _ _ _ _ _ (by simp)];simp
 have s:(r* 1000000000+x) / d< 1000000000:=by
  rw[Nat.div_lt_iff_lt_mul hd0];have:(r+1) * 1000000000≤d* 1000000000:=Nat.mul_le_mul_right _ c;rw[Nat.mul_comm 1000000000 d];omega
 have hA:(r:Int) * 1000000000+x=((r* 1000000000+x:Nat):Int):=by omega
 have n:((r:Int) * 1000000000+x) / d=(((r* 1000000000+x) / d:Nat):Int):=by rw[hA];exact(Int.natCast_ediv _ _).symm
 have m:((r:Int) * 1000000000+x) % d=(((r* 1000000000+x) % d:Nat):Int):=by rw[hA];exact(Int.natCast_emod _ _).symm
 have l:=Nat.mod_lt (r* 1000000000+x) hd0;have e:=Nat.div_add_mod (r* 1000000000+x) d;obtain⟨Q,hQ⟩:∃Q,Q=(r* 1000000000+x) / d:=⟨_,rfl⟩;obtain⟨R,B⟩:∃R,R=(r* 1000000000+x) % d:=⟨_,rfl⟩;rw[←hQ] at s n;rw[←B] at l m;rw[←hQ,←B] at e;refine ak (ae (aj (s_r 10 ?_)));refine a_5 ?_;refine i_x p ?_;refine l_1 p ?_;refine a_z ?_;refine r_d a6 14 ?_;refine a_5 ?_;refine o_0 (.bin rfl rfl (AU (by omega))) ?_;refine o_0 (.conv rfl (cU32 (by rw[n];omega) tu_155.h tu_188.h)) ?_;refine a_5 ?_;refine dX (.store rfl rfl hg rfl rfl rfl TS.h (nle rfl)) ?_;refine a_1 ?_;refine ao (n_k ?_);refine r_m 3 ?_;refine a_z ?_;refine⟨(k- 1,Q::t,R),by simp;omega,⟨by simp;omega,?_,l,?_⟩,?_⟩;intro y u;rcases List.mem_cons.1 u with rfl|u
 exact s;exact g y u;simp only;rw[kF MB A,show k- 1+1=k by omega,f,ofD];have e2:d* (Q+MB* ofD MB t)=d* Q+MB* (d* ofD MB t):=by rw[Nat.mul_add,Nat.mul_left_comm]
 have G:MB* (d* ofD MB t+r)=MB* (d* ofD MB t)+1000000000* r:=Nat.mul_add _ _ _;omega;rw[siS.eq_1];refine s_x [] (fun hs=>?_) (fun hs=>?_)
 ·repeat' (first|exact aN|refine aA rfl ?_ ?_|exact Cv.loE hs (congrArg (fun z=>AV.v (.int .u64 z)) m) (ag _)|exact aV)
 ·repeat' (first|exact aE|refine h_c ?_ ?_|(refine aI hs ?_ (bH _);rw[n];exact o _)|exact bC|refine az ?_|exact av|refine ah ?_ ?_|exact Cv.loE hs (congrArg (fun z=>AV.v (.int .u64 z)) m) (ag _)|exact aV)
 have q:k=0:=by have:=of_decide_eq_false h;omega
 refine ay ⟨(k,t,r),⟨⟨i,g,c,f⟩,q⟩,?_⟩;rw[siS.eq_1];exact s_e [];rintro⟨k,t,r⟩ ⟨⟨i,g,c,f⟩,C⟩;simp only at i g c f C;subst C;rw[List.drop_zero,va] at f;have s:a/ d=ofD MB t:=by rw[f,Nat.mul_add_div hd0,Nat.div_eq_of_lt c];omega
 have F:a % d=r:=by rw[f,Nat.mul_add_mod];exact Nat.mod_eq_of_lt c
 rw[siS.eq_1];refine AWp.ent (st':=⟨[(4,.lptr 1 0 0),(5,.lptr 2 0 0),(6,.arr (dE t)),(7,u64 r)],[(1,some ⟨32,1,[[.emp]]⟩),(2,some ⟨32,1,[[.emp]]⟩)],3,46⟩) ?_ ?_;exact s_x [(1,4),(2,5)] (fun hs=>e_30) (fun hs=>e_31);refine s_r 6 ?_;refine o_0 (.move rfl) ?_;refine o_0 (.call rfl rfl rfl (iv _ (by omega))) ?_;refine o_0 (.move rfl) ?_;refine o_0 (.call rfl rfl rfl (gd r (by omega))) ?_;refine dX (.store rfl rfl rfl rfl rfl rfl TS.h (nle rfl)) ?_;refine dX (.store rfl rfl rfl rfl rfl rfl TS.h (nle rfl)) ?_;refine ao ?_;refine ai ?_;rw[s,F];refine Fin.many ⟨_,_,rfl,⟨_,_,_,_,_,rfl,rfl,rfl,.inl ⟨TG.h,_,TS.h,nle rfl,rfl⟩⟩,_,_,rfl,⟨_,_,_,_,_,rfl,rfl,rfl,.inl ⟨TG.h,_,TS.h,nle rfl,rfl⟩⟩,rfl⟩ (nle rfl) ?_;refine ah (Cv.loE aD ?_ (aC (ac (cQ (e9 t)) af))) (ah (am aD (aC (ac (b6 r) af))) av);rw[ju (b:=MB) (by decide) g];rfl
end Go.Proofs.YtdgbhlkabelmbaaGreatDoor
