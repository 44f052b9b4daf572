/- Part Z13 of the proof. -/
import Derived.Test.YtdjfjpeoddmamaaGreatDoorZ12
set_option linter.all false
namespace Go.Proofs.YtdjfjpeoddmamaaGreatDoor
open Go.Abs
set_option maxRecDepth 20000
def plusS(p:Nat)(q:Nat):List Nat×Nat→AState
 |(s,c)=>⟨[(26,i64 s.length),(25,i64 (digs MB p).length),(24,mag p),(2,.lptr 1 0 0),(3,.lptr 2 0 0),(4,.lptr 3 0 0),(5,.lsl 4 0 ((digs MB p).length+1) (some ((digs MB p).length+1)) 1),(6,u32 c)],
  [(1,some ⟨31,1,[[mag p]]⟩),(2,some ⟨31,1,[[mag q]]⟩),(3,some ⟨31,1,[[.emp]]⟩),(4,some ⟨236,1,dE (s++List.replicate ((digs MB p).length+1- s.length) 0)⟩)],5,63⟩
theorem fH_(p:Nat)(q:Nat)(s:List Nat)(c:Nat):plusS p q (s,c)=⟨[(26,i64 s.length),(25,i64 (digs MB p).length),(24,mag p),(2,.lptr 1 0 0),(3,.lptr 2 0 0),(4,.lptr 3 0 0),(5,.lsl 4 0 ((digs MB p).length+1) (some ((digs MB p).length+1)) 1),(6,u32 c)],
   [(1,some ⟨31,1,[[mag p]]⟩),(2,some ⟨31,1,[[mag q]]⟩),(3,some ⟨31,1,[[.emp]]⟩),(4,some ⟨236,1,dE (s++List.replicate ((digs MB p).length+1- s.length) 0)⟩)],5,63⟩:=rfl
structure PlusI (p q:Nat)(a:List Nat×Nat):Prop where
 le:a.1.length≤(digs MB p).length
 dig:∀d∈a.1,d< MB
 car:a.2≤1
 val:ofD MB a.1+MB^ a.1.length* a.2=ofD MB ((digs MB p).take a.1.length)+ofD MB ((digs MB q).take a.1.length)
theorem nO_(a b:Nat)(h:bl a+bl b≤17592186044416):FSpec Tryz.prog 181 [.agg [mag a],.agg [mag b]] (.agg [mag (a+b)]):=by
 have hla:=bd_ (b:=MB) (by decide) a
 have hlb:=bd_ (b:=MB) (by decide) b
 refine f_n Tryz.func181 ?_ ?_
 exact aa_ (ao_ (aa_ (aT_ a) ab_)) (aa_ (ao_ (aa_ (aT_ b) ab_)) ab_)
 refine r_z 3 ?_
 refine ac_ (r_z 7 ?_)
 refine aD_ (fun x:Nat×Nat=>⟨[(2,.lptr 1 0 0),(3,.lptr 2 0 0),(4,.lptr 3 0 0)],[(1,some ⟨31,1,[[mag x.1]]⟩),(2,some ⟨31,1,[[mag x.2]]⟩),(3,some ⟨31,1,[[.emp]]⟩)],4,63⟩)
  (fun x=>x.1+x.2=a+b∧(digs MB x.2).length≤(digs MB x.1).length∧(digs MB x.1).length≤17592186044416) ?_ ?_
 refine aj_ rfl (fun h=>?_) (fun h=>?_)
 refine r_m 4 ?_
 refine a_z ?_
 refine⟨(b,a),⟨by simp;omega,?_,by simp;omega⟩,?_⟩
 simp at h;simp;omega
 exact s_e []
 refine ai_ ⟨(a,b),⟨rfl,?_,by simp;omega⟩,?_⟩
 simp at h;simpa using h
 exact s_e []
 rintro⟨p,q⟩ ⟨hpq,hqp,hp⟩
 simp only at hpq hqp hp⊢
 refine r_z 6 ?_
 refine r_z 1 ?_
 refine ac_ (r_z 4 ?_)
 refine aD_ (plusS p q) (fun x=>PlusI p q x∧x.1.length=(digs MB p).length) ?_ ?_
 refine ah_ (aw_ (plusS p q) (fun x=>(digs MB p).length- x.1.length) (PlusI p q) ([],0) ⟨by simp,by simp,by simp,by simp[ofD]⟩ ?_ ?_)
 rw[fH_]
 exact s_e [(4,5)]
 rintro⟨s,c⟩ ⟨hle,hdig,hcar,hval⟩
 simp only at hle hdig hcar hval
 rw[fH_]
 refine r_z 1 ?_
 refine ac_ (aj_ rfl (fun h=>?_) (fun h=>?_))
 refine ai_ ?_
 have hlt:s.length< (digs MB p).length:=by simpa using h
 obtain⟨x,hx⟩:∃x,(digs MB p)[s.length]?=some x:=⟨_,List.getElem?_eq_getElem hlt⟩
 have hx1:x< 1000000000:=bv_ (by decide) hx
 have hx':(dE (digs MB p))[((s.length:Nat):Int).toNat]?=some [u32 x]:=ct_ hx
 refine ac_ (ah_ (s_r 5 ?_))
 refine a_1 ?_
 refine i_x hx' ?_
 refine l_1 hx' ?_
 refine a_z ?_
 refine r_z 4 ?_
 refine ac_ (r_z 5 ?_)
 have hq0:∀y,((digs MB q)[s.length]?.getD 0=y)→y< 1000000000:=by
  rintro y rfl
  cases hy:(digs MB q)[s.length]? with
  |none=>decide
  |some y=>exact bv_ (by decide) hy
 refine aD_ (fun v:Nat=>⟨[(26,i64 s.length),(25,i64 (digs MB p).length),(24,mag p),(2,.lptr 1 0 0),(3,.lptr 2 0 0),(4,.lptr 3 0 0),(5,.lsl 4 0 ((digs MB p).length+1) (some ((digs MB p).length+1)) 1),(7,i64 s.length),(8,u32 v)],
  [(1,some ⟨31,1,[[mag p]]⟩),(2,some ⟨31,1,[[mag q]]⟩),(3,some ⟨31,1,[[.emp]]⟩),(4,some ⟨236,1,dE (s++List.replicate ((digs MB p).length+1- s.length) 0)⟩)],5,63⟩)
  (fun v=>v=x+c+(digs MB q)[s.length]?.getD 0) ?_ ?_
 refine aj_ rfl (fun h=>?_) (fun h=>?_)
 have hlt2:s.length< (digs MB q).length:=by simpa using h
 obtain⟨y,hy⟩:∃y,(digs MB q)[s.length]?=some y:=⟨_,List.getElem?_eq_getElem hlt2⟩
 have hy1:y< 1000000000:=bv_ (by decide) hy
 have hy':(dE (digs MB q))[((s.length:Nat):Int).toNat]?=some [u32 y]:=ct_ hy
 refine r_m 8 ?_
 refine a_4 ?_
 refine i_x hy' ?_
 refine l_1 hy' ?_
 refine a_z ?_
 refine⟨x+c+y,by rw[hy];rfl,?_⟩
 exact s_e []
 have hlt2:¬s.length< (digs MB q).length:=by simpa using h
 refine ai_ ⟨x+c,by rw[List.getElem?_eq_none (by omega)];rfl,?_⟩
 exact s_e []
 rintro v hv
 obtain⟨y,hy⟩:∃y,y=(digs MB q)[s.length]?.getD 0:=⟨_,rfl⟩
 have hy1:=hq0 y hy.symm
 rw[←hy] at hv
 refine r_z 1 ?_
 refine ac_ (r_z 2 ?_)
 have hg:(dE (s++List.replicate ((digs MB p).length+1- s.length) 0))[0+((s.length:Nat):Int).toNat]?=some [u32 0]:=by
  rw[Nat.zero_add,Int.toNat_natCast]
  exact ct_ (by rw[show(digs MB p).length+1- s.length=((digs MB p).length- s.length)+1 by omega];exact oX_ _ _ _ rfl)
 have hset:∀w:Nat,(dE (s++List.replicate ((digs MB p).length+1- s.length) 0)).set (0+((s.length:Nat):Int).toNat) [u32 w]=dE ((s++[w])++List.replicate ((digs MB p).length+1- (s++[w]).length) 0):=by
  intro w
  rw[Nat.zero_add,Int.toNat_natCast,eu_,show(digs MB p).length+1- s.length=((digs MB p).length- s.length)+1 by omega,or_ _ _ _ _ rfl,show(digs MB p).length+1- (s++[w]).length=(digs MB p).length- s.length by simp]
 have hnext:∀w c',w+1000000000* c'=x+c+y→w< 1000000000→c'≤1→PlusI p q (s++[w],c'):=by
  intro w c' hw hwb hc'
  refine⟨by simp;omega,?_,hc',?_⟩
  intro d hd
  rcases List.mem_append.1 hd with hd|hd
  exact hdig d hd
  simp at hd;subst hd;exact hwb
  simp only[List.length_append,List.length_singleton]
  rw[dN_,bB_ _ hx,cz_,←hy,Nat.pow_succ]
  have e:MB^ s.length* w+MB^ s.length* MB* c'=MB^ s.length* (w+MB* c'):=by rw[Nat.mul_add,Nat.mul_assoc]
  have e2:MB^ s.length* (x+c+y)=MB^ s.length* x+MB^ s.length* c+MB^ s.length* y:=by rw[Nat.mul_add,Nat.mul_add]
  rw[hw,e2] at e
  omega
 refine aj_ rfl (fun h=>?_) (fun h=>?_)
 have hb:1000000000≤v:=by have:=of_decide_eq_true h;omega
 have hv1:((v:Int)- 1000000000)=((v- 1000000000:Nat):Int):=by omega
 refine r_m 4 ?_
 refine a_z ?_
 refine r_m 5 ?_
 refine a_4 ?_
 refine o_1n (.store rfl rfl hg rfl rfl rfl ts_236.h (nle rfl)) ?_
 refine ak_ ?_
 refine r_m 2 ?_
 refine a_z ?_
 refine⟨(s++[v- 1000000000],1),by simp;omega,hnext _ _ (by omega) (by omega) (Nat.le_refl _),?_⟩
 rw[fH_]
 refine at_ [] rfl rfl rfl au_r (fun hs=>au_f) (fun hs=>?_)
 ·repeat' (first|exact aq_|refine al_ rfl rfl rfl rfl ?_ ?_)
  all_goals (first|(refine aH_ hs ?_ (a4_ _);rw[hv1];exact hset _)|exact au_e)
 have hb:v< 1000000000:=by have:=of_decide_eq_false h;omega
 refine ai_ (r_m 5 ?_)
 refine a_4 ?_
 refine o_1n (.store rfl rfl hg rfl rfl rfl ts_236.h (nle rfl)) ?_
 refine ak_ ?_
 refine r_m 2 ?_
 refine a_z ?_
 refine⟨(s++[v],0),by simp;omega,hnext _ _ (by omega) hb (by omega),?_⟩
 rw[fH_]
 refine at_ [] rfl rfl rfl au_r (fun hs=>au_f) (fun hs=>?_)
 ·repeat' (first|exact aq_|refine al_ rfl rfl rfl rfl ?_ ?_)
  all_goals (first|(refine aH_ hs ?_ (a4_ _);exact hset _)|exact au_e)
 refine av_ ⟨(s,c),⟨⟨hle,hdig,hcar,hval⟩,?_⟩,?_⟩
 simp at h;simp;omega
 rw[fH_]
 exact s_e []
 rintro⟨s,c⟩ ⟨⟨hle,hdig,hcar,hval⟩,hlen⟩
 simp only at hle hdig hcar hval hlen
 have hg:(dE (s++List.replicate ((digs MB p).length+1- s.length) 0))[0+(((digs MB p).length:Nat):Int).toNat]?=some [u32 0]:=by
  rw[Nat.zero_add,Int.toNat_natCast,←hlen]
  exact ct_ (by rw[show s.length+1- s.length=0+1 by omega];exact oX_ _ _ _ rfl)
 have hset:(dE (s++List.replicate ((digs MB p).length+1- s.length) 0)).set (0+(((digs MB p).length:Nat):Int).toNat) [u32 c]=dE (s++[c]):=by
  rw[Nat.zero_add,Int.toNat_natCast,←hlen,eu_,show s.length+1- s.length=0+1 by omega,or_ _ _ _ _ rfl];simp
 have hres:trimD (s++[c])=digs MB (a+b):=by
  rw[eO_ (b:=MB) (by decide),dN_,hval,dB_ _ (by omega),dB_ _ (by omega),a8_ (by decide),a8_ (by decide),hpq]
  intro d hd
  rcases List.mem_append.1 hd with hd|hd
  exact hdig d hd
  simp at hd;subst hd;show d< 1000000000;omega
 rw[fH_]
 refine s_r 7 ?_
 refine a_6 ?_
 refine o_1n (.store rfl rfl hg rfl rfl rfl ts_236.h (nle rfl)) ?_
 refine ak_ ?_
 refine AWp.ent (st':=⟨[(4,.lptr 3 0 0),(5,.arr (dE (s++[c])))],[(3,some ⟨31,1,[[.emp]]⟩)],4,63⟩) ?_ ?_
 refine at_ [] rfl rfl rfl au_r (fun hs=>?_) (fun hs=>?_)
 ·repeat' (first|exact aK_|refine aE_ rfl ?_ ?_)
  all_goals (first|(exact Cv.sealE hs rfl (aQ_ rfl) hset (by simp[hlen]) (a4_ _))|exact au_c)
 ·repeat' (first|exact aq_|refine al_ rfl rfl rfl rfl ?_ ?_)
  all_goals (first|exact au_e|(refine ae_ ?_;repeat' (first|exact ap_|refine af_ ?_ ?_)))
  all_goals (first|(exact Cv.sealE hs rfl (aQ_ rfl) hset (by simp[hlen]) (a4_ _))|exact au_c)
 refine s_r 3 ?_
 refine o_0 (.move rfl) ?_
 refine o_0 (.call rfl rfl rfl (dU_ _ (by simp;omega))) ?_
 refine a_z ?_
 refine ag_ (b7_ rfl rfl rfl tg_31.h ts_31.h (nle rfl) ?_ (ao_ (aa_ (aT_ _) ab_)))
 rw[hres];rfl
def agS(a:Nat)(b:Nat):Nat→AState
 |k=>⟨[(2,.lptr 1 0 0),(3,.lptr 2 0 0),(6,i64 ((k:Int)- 1))],[(1,some ⟨31,1,[[mag a]]⟩),(2,some ⟨31,1,[[mag b]]⟩)],3,40⟩
theorem nm_(a:Nat)(b:Nat)(k:Nat):agS a b k=⟨[(2,.lptr 1 0 0),(3,.lptr 2 0 0),(6,i64 ((k:Int)- 1))],[(1,some ⟨31,1,[[mag a]]⟩),(2,some ⟨31,1,[[mag b]]⟩)],3,40⟩:=rfl
theorem hi_(a b:Nat)(h:bl a+bl b≤17592186044416):FSpec Tryz.prog 104 [.agg [mag a],.agg [mag b]] (i64 (cmpZ a b)):=by
 have hla:=bd_ (b:=MB) (by decide) a
 have hlb:=bd_ (b:=MB) (by decide) b
 refine f_n Tryz.func104 ?_ ?_
 exact aa_ (ao_ (aa_ (aT_ a) ab_)) (aa_ (ao_ (aa_ (aT_ b) ab_)) ab_)
 refine r_z 3 ?_
 refine ac_ (r_c 8 (mM_ _ _) ?_)
 refine a_z ?_
 refine r_z 2 ?_
 refine aj_ rfl (fun h=>?_) (fun h=>?_)
 have hne:cmpZ (digs MB a).length (digs MB b).length≠0:=by simpa using h
 refine r_z 2 ?_
 refine ag_ (aS_ rfl ?_ (ad_ _))
 unfold i64
 congr 2
 rw[lu_] at hne
 rcases Nat.lt_or_ge (digs MB a).length (digs MB b).length with hl|hl
 have:=eD_ (by decide) hl
 rw[gn_ (by omega),gn_ (by omega)]
 have:=eD_ (m:=b) (n:=a) (b:=MB) (by decide) (by omega)
 rw[ho_ (by omega),ho_ (by omega)]
 have heq:(digs MB a).length=(digs MB b).length:=by
  have h0:¬cmpZ (digs MB a).length (digs MB b).length≠0:=by simpa using h
  rw[lu_] at h0;omega
 refine ai_ (ac_ (r_z 5 ?_))
 refine aD_ (agS a b) (fun k=>k=0∧a=b) ?_ ?_
 refine ah_ (aw_ (agS a b) (fun k=>k) (fun k=>k≤(digs MB a).length∧(digs MB a).drop k=(digs MB b).drop k) (digs MB a).length ⟨Nat.le_refl _,by rw[List.drop_length,heq,List.drop_length]⟩ ?_ ?_)
 rw[nm_]
 exact s_e []
 rintro k ⟨hk,hd⟩
 rw[nm_]
 refine ac_ (r_z 2 ?_)
 refine aj_ rfl (fun h=>?_) (fun h=>?_)
 have hk0:0< k:=by have:=of_decide_eq_true h;omega
 obtain⟨x,hx⟩:∃x,(digs MB a)[k- 1]?=some x:=⟨_,List.getElem?_eq_getElem (by omega)⟩
 obtain⟨y,hy⟩:∃y,(digs MB b)[k- 1]?=some y:=⟨_,List.getElem?_eq_getElem (by omega)⟩
 have hx':(dE (digs MB a))[((k:Int)- 1).toNat]?=some [u32 x]:=by rw[show((k:Int)- 1).toNat=k- 1 by omega];exact ct_ hx
 have hy':(dE (digs MB b))[((k:Int)- 1).toNat]?=some [u32 y]:=by rw[show((k:Int)- 1).toNat=k- 1 by omega];exact ct_ hy
 rw[show k=(k- 1)+1 by omega] at hd
 refine ai_ (ac_ (ah_ (ac_ (r_d hmix 12 ?_))))
 refine a_3 ?_
 refine i_x hx' ?_
 refine l_1 hx' ?_
 refine a_3 ?_
 refine i_x hy' ?_
 refine l_1 hy' ?_
 refine c_s (mL_ x y) ?_
 refine a_1 ?_
 refine ak_ (n_k ?_)
 refine r_z 2 ?_
 refine aj_ rfl (fun h2=>?_) (fun h2=>?_)
 have hne:cmpZ x y≠0:=by simpa using h2
 refine r_z 2 ?_
 refine ag_ (aS_ rfl ?_ (ad_ _))
 unfold i64
 congr 2
 rw[lu_] at hne
 rcases Nat.lt_or_ge x y with hl|hl
 have:=gD_ (b:=MB) (cq_ (by decide) a) hx hy hd hl
 rw[a8_ (by decide),a8_ (by decide)] at this
 rw[gn_ (by omega),gn_ (by omega)]
 have:=gD_ (b:=MB) (cq_ (by decide) b) hy hx hd.symm (by omega)
 rw[a8_ (by decide),a8_ (by decide)] at this
 rw[ho_ (by omega),ho_ (by omega)]
 have hxy:x=y:=by
  have h0:¬cmpZ x y≠0:=by simpa using h2
  rw[lu_] at h0;omega
 refine ai_ (r_m 3 ?_)
 refine a_z ?_
 refine⟨k- 1,by omega,⟨by omega,?_⟩,?_⟩
 rw[db_ hx,db_ hy,hd,hxy]
 rw[nm_]
 exact s_e []
 have hk0:k=0:=by have:=of_decide_eq_false h;omega
 subst hk0
 refine av_ ⟨0,⟨rfl,?_⟩,?_⟩
 have:=congrArg (ofD MB) hd
 rwa[List.drop_zero,List.drop_zero,a8_ (by decide),a8_ (by decide)] at this
 rw[nm_]
 exact s_e []
 rintro k ⟨rfl,hab⟩
 rw[nm_]
 refine r_z 1 ?_
 refine ag_ (aS_ rfl ?_ (ad_ _))
 subst hab
 rw[sy_ rfl];rfl
def leS(a:Nat)(b:Nat):List Nat×Nat→AState
 |(s,c)=>⟨[(19,i64 s.length),(18,i64 (digs MB a).length),(2,.lptr 1 0 0),(3,.lptr 2 0 0),(4,.lptr 3 0 0),(5,.lsl 4 0 (digs MB a).length (some (digs MB a).length) 1),(6,u32 c)],
  [(1,some ⟨31,1,[[mag a]]⟩),(2,some ⟨31,1,[[mag b]]⟩),(3,some ⟨31,1,[[.emp]]⟩),(4,some ⟨236,1,dE (s++(digs MB a).drop s.length)⟩)],5,61⟩
theorem oV_(a:Nat)(b:Nat)(s:List Nat)(c:Nat):leS a b (s,c)=⟨[(19,i64 s.length),(18,i64 (digs MB a).length),(2,.lptr 1 0 0),(3,.lptr 2 0 0),(4,.lptr 3 0 0),(5,.lsl 4 0 (digs MB a).length (some (digs MB a).length) 1),(6,u32 c)],
   [(1,some ⟨31,1,[[mag a]]⟩),(2,some ⟨31,1,[[mag b]]⟩),(3,some ⟨31,1,[[.emp]]⟩),(4,some ⟨236,1,dE (s++(digs MB a).drop s.length)⟩)],5,61⟩:=rfl
def leT(n:Nat):List Nat×Unit→AState
 |(o,u)=>⟨[(4,.lptr 3 0 0),(5,.lsl 4 0 n (some n) 1)],
  [(3,some ⟨31,1,[[.emp]]⟩),(4,some ⟨236,1,dE o⟩)],5,61⟩
theorem rk_(n:Nat)(o:List Nat)(u:Unit):leT n (o,u)=⟨[(4,.lptr 3 0 0),(5,.lsl 4 0 n (some n) 1)],
   [(3,some ⟨31,1,[[.emp]]⟩),(4,some ⟨236,1,dE o⟩)],5,61⟩:=rfl
structure LessI (a b:Nat)(x:List Nat×Nat):Prop where
 le:x.1.length≤(digs MB a).length
 dig:∀d∈x.1,d< MB
 car:x.2≤1
 val:ofD MB x.1+ofD MB ((digs MB b).take x.1.length)=ofD MB ((digs MB a).take x.1.length)+MB^ x.1.length* x.2
theorem nP_(a b:Nat)(h:bl a≤17592186044416)(hba:b≤a):FSpec Tryz.prog 179 [.agg [mag a],.agg [mag b]] (.agg [mag (a- b)]):=by
 have hla:=bd_ (b:=MB) (by decide) a
 have hlen:=oS_ (b:=MB) (by decide) hba
 have va:=a8_ (b:=MB) (by decide) a
 have vb:=a8_ (b:=MB) (by decide) b
 refine f_n Tryz.func179 ?_ ?_
 exact aa_ (ao_ (aa_ (aT_ a) ab_)) (aa_ (ao_ (aa_ (aT_ b) ab_)) ab_)
 refine r_z 3 ?_
 refine r_z 5 ?_
 refine s_r 4 ?_
 refine a_3 ?_
 refine o_1 (.copy rfl rfl rfl te_29.h rfl rfl rfl (by first|(simp;done)|(simp;omega)) (by first|exact df_ _|exact dd_ _|exact c2_ _|exact dg_ _|exact c7_ _|rfl|simp) rfl (.arr (n9_ _))) ?_
 refine ak_ ?_
 have hcp:setAt (List.replicate (digs MB a).length [ofV (Value.int IntKind.u32 0)]) 0 (List.take (Nat.min (dE (digs MB a)).length (digs MB a).length) (dE (digs MB a)))=dE ([]++(digs MB a).drop 0):=by
  rw[qI_]
  rw[List.take_of_length_le (by simp)];rfl
  simp
 refine r_z 1 ?_
 refine ac_ (r_z 3 ?_)
 refine aD_ (leT (digs MB a).length) (fun x=>(∀d∈x.1,d< MB)∧x.1.length=(digs MB a).length∧ofD MB x.1=a- b) ?_ ?_
 refine ah_ (aw_ (leS a b) (fun x=>(digs MB a).length- x.1.length) (LessI a b) ([],0) ⟨by simp,by simp,by simp,by simp[ofD]⟩ ?_ ?_)
 rw[oV_]
 refine at_ [(4,5)] rfl rfl rfl ?_ (fun hs=>au_f) (fun hs=>?_)
 ·repeat' (first|exact ShrL.nil|refine ShrL.cons rfl rfl rfl rfl (by first|(exact(congrArg List.length hcp).trans (by simp))|rfl|(simp;done)|(simp <;> omega)) ?_)
 ·repeat' (first|exact aq_|refine al_ rfl rfl rfl rfl ?_ ?_)
  all_goals (first|(exact aH_ hs hcp (a4_ _))|exact au_e)
 rintro⟨s,c⟩ ⟨hle,hdig,hcar,hval⟩
 simp only at hle hdig hcar hval
 rw[oV_]
 refine r_z 1 ?_
 refine ac_ (aj_ rfl (fun h=>?_) (fun h=>?_))
 have hlt:s.length< (digs MB a).length:=by have:=of_decide_eq_true h;omega
 obtain⟨x,hx⟩:∃x,(digs MB a)[s.length]?=some x:=⟨_,List.getElem?_eq_getElem hlt⟩
 have hx1:x< 1000000000:=bv_ (by decide) hx
 have hdx:=db_ hx
 refine ai_ (ac_ (ah_ (r_z 2 ?_)))
 refine r_z 2 ?_
 refine ac_ (r_z 5 ?_)
 refine aD_ (fun v:Nat=>⟨[(19,i64 s.length),(18,i64 (digs MB a).length),(2,.lptr 1 0 0),(3,.lptr 2 0 0),(4,.lptr 3 0 0),(5,.lsl 4 0 (digs MB a).length (some (digs MB a).length) 1),(6,u32 c),(7,i64 s.length),(8,u32 v)],
  [(1,some ⟨31,1,[[mag a]]⟩),(2,some ⟨31,1,[[mag b]]⟩),(3,some ⟨31,1,[[.emp]]⟩),(4,some ⟨236,1,dE (s++(digs MB a).drop s.length)⟩)],5,61⟩)
  (fun v=>v=c+(digs MB b)[s.length]?.getD 0∧v≤1000000000) ?_ ?_
 refine aj_ rfl (fun h=>?_) (fun h=>?_)
 have hlt2:s.length< (digs MB b).length:=by have:=of_decide_eq_true h;omega
 obtain⟨y,hy⟩:∃y,(digs MB b)[s.length]?=some y:=⟨_,List.getElem?_eq_getElem hlt2⟩
 have hy1:y< 1000000000:=bv_ (by decide) hy
 have hy':(dE (digs MB b))[((s.length:Nat):Int).toNat]?=some [u32 y]:=ct_ hy
 refine r_m 8 ?_
 refine a_4 ?_
 refine i_x hy' ?_
 refine l_1 hy' ?_
 refine a_z ?_
 refine⟨c+y,⟨by rw[hy];rfl,by omega⟩,?_⟩
 exact s_e []
 have hlt2:¬s.length< (digs MB b).length:=by have:=of_decide_eq_false h;omega
 refine r_z 2 ?_
 refine aj_ rfl (fun h=>?_) (fun h=>?_)
 have hc0:c=0:=by simpa using h
 refine av_ ⟨(s++(digs MB a).drop s.length,()),⟨?_,by simp;omega,?_⟩,?_⟩
 intro d hd
 rcases List.mem_append.1 hd with hd|hd
 exact hdig d hd
 exact cq_ (by decide) a d (List.mem_of_mem_drop hd)
 have:=cf_ MB s.length (digs MB a) (by omega)
 rw[va] at this
 rw[dB_ _ (by omega),vb,hc0] at hval
 simp only[dm_]
 omega
 rw[rk_]
 exact s_e []
 refine ai_ ⟨c,⟨by rw[List.getElem?_eq_none (by omega)];rfl,by omega⟩,?_⟩
 exact s_e []
 rintro v ⟨hv,hv1⟩
 obtain⟨y,hy⟩:∃y,y=(digs MB b)[s.length]?.getD 0:=⟨_,rfl⟩
 rw[←hy] at hv
 have hg:(dE (s++(digs MB a).drop s.length))[0+((s.length:Nat):Int).toNat]?=some [u32 x]:=by
  rw[Nat.zero_add,Int.toNat_natCast,hdx]
  exact ct_ (iQ_ _ _ _ _ rfl)
 have hset:∀w:Nat,(dE (s++(digs MB a).drop s.length)).set (0+((s.length:Nat):Int).toNat) [u32 w]=dE ((s++[w])++(digs MB a).drop (s++[w]).length):=by
  intro w
  rw[Nat.zero_add,Int.toNat_natCast,eu_,hdx,ih_ _ _ _ _ _ rfl];simp
 have hnext:∀w c',w+v=x+1000000000* c'→w< 1000000000→c'≤1→LessI a b (s++[w],c'):=by
  intro w c' hw hwb hc'
  refine⟨by simp;omega,?_,hc',?_⟩
  intro d hd
  rcases List.mem_append.1 hd with hd|hd
  exact hdig d hd
  simp at hd;subst hd;exact hwb
  simp only[List.length_append,List.length_singleton]
  rw[dN_,bB_ _ hx,cz_,←hy,Nat.pow_succ]
  have e:MB^ s.length* (w+v)=MB^ s.length* (x+MB* c'):=by rw[hw]
  rw[hv,Nat.mul_add,Nat.mul_add,Nat.mul_add,←Nat.mul_assoc] at e
  omega
 refine r_z 1 ?_
 refine ac_ (s_r 6 ?_)
 refine a_2 ?_
 first|refine aM_ (.index_l rfl rfl (by omega) (by omega) te_29.h) rfl rfl ?_|refine aM_ (.index_a rfl rfl (by omega) hg rfl te_29.h) rfl rfl ?_
 first|refine aM_ (.load_l1 rfl rfl hg tg_236.h rfl) rfl rfl ?_|refine aM_ (.load_a1 rfl hg tg_236.h rfl) rfl rfl ?_
 refine a_z ?_
 refine aj_ rfl (fun h=>?_) (fun h=>?_)
 have hb:x< v:=by have:=of_decide_eq_true h;omega
 have hv2:((x:Int)+1000000000- v)=((x+1000000000- v:Nat):Int):=by omega
 have hv3:((x:Int)+1000000000)=((x+1000000000:Nat):Int):=by omega
 refine r_m 10 ?_
 refine a_5 ?_
 first|refine aM_ (.load_l1 rfl rfl hg tg_236.h rfl) rfl rfl ?_|refine aM_ (.load_a1 rfl hg tg_236.h rfl) rfl rfl ?_
 refine a_2 ?_
 refine o_1n (.store rfl rfl hg rfl rfl rfl ts_236.h (nle rfl)) ?_
 refine a_z ?_
 refine AWp.ent (st':=⟨[(19,i64 s.length),(18,i64 (digs MB a).length),(2,.lptr 1 0 0),(3,.lptr 2 0 0),(4,.lptr 3 0 0),(5,.lsl 4 0 (digs MB a).length (some (digs MB a).length) 1),(6,u32 1),(7,i64 s.length),(8,u32 v)],
  [(1,some ⟨31,1,[[mag a]]⟩),(2,some ⟨31,1,[[mag b]]⟩),(3,some ⟨31,1,[[.emp]]⟩),(4,some ⟨236,1,dE (s++(x+1000000000)::(digs MB a).drop (s.length+1))⟩)],5,61⟩) ?_ ?_
 refine at_ [] rfl rfl rfl au_r (fun hs=>au_f) (fun hs=>?_)
 ·repeat' (first|exact aq_|refine al_ rfl rfl rfl rfl ?_ ?_)
  all_goals (first|(refine aH_ hs ?_ (a4_ _);rw[hv3];exact(hset _).trans (by simp))|exact au_e)
 have hg2:(dE (s++(x+1000000000)::(digs MB a).drop (s.length+1)))[0+((s.length:Nat):Int).toNat]?=some [u32 (x+1000000000)]:=by
  rw[Nat.zero_add,Int.toNat_natCast]
  exact ct_ (iQ_ _ _ _ _ rfl)
 have hset2:∀w:Nat,(dE (s++(x+1000000000)::(digs MB a).drop (s.length+1))).set (0+((s.length:Nat):Int).toNat) [u32 w]=dE ((s++[w])++(digs MB a).drop (s++[w]).length):=by
  intro w
  rw[Nat.zero_add,Int.toNat_natCast,eu_,ih_ _ _ _ _ _ rfl];simp
 have hv2:(((x+1000000000:Nat):Int)- v)=((x+1000000000- v:Nat):Int):=by omega
 refine r_m 8 ?_
 refine a_2 ?_
 first|refine aM_ (.index_l rfl rfl (by omega) (by omega) te_29.h) rfl rfl ?_|refine aM_ (.index_a rfl rfl (by omega) hg2 rfl te_29.h) rfl rfl ?_
 first|refine aM_ (.load_l1 rfl rfl hg2 tg_236.h rfl) rfl rfl ?_|refine aM_ (.load_a1 rfl hg2 tg_236.h rfl) rfl rfl ?_
 refine a_3 ?_
 refine o_1n (.store rfl rfl hg2 rfl rfl rfl ts_236.h (nle rfl)) ?_
 refine ak_ ?_
 refine r_m 2 ?_
 refine a_z ?_
 refine⟨(s++[x+1000000000- v],1),by simp;omega,hnext _ _ (by omega) (by omega) (by omega),?_⟩
 rw[oV_]
 refine at_ [] rfl rfl rfl au_r (fun hs=>au_f) (fun hs=>?_)
 ·repeat' (first|exact aq_|refine al_ rfl rfl rfl rfl ?_ ?_)
  all_goals (first|(refine aH_ hs ?_ (a4_ _);rw[hv2];exact hset2 _)|exact au_e)
 have hb:v≤x:=by have:=of_decide_eq_false h;omega
 have hv1:((x:Int)- v)=((x- v:Nat):Int):=by omega
 refine ai_ (r_m 8 ?_)
 refine a_2 ?_
 first|refine aM_ (.index_l rfl rfl (by omega) (by omega) te_29.h) rfl rfl ?_|refine aM_ (.index_a rfl rfl (by omega) hg rfl te_29.h) rfl rfl ?_
 first|refine aM_ (.load_l1 rfl rfl hg tg_236.h rfl) rfl rfl ?_|refine aM_ (.load_a1 rfl hg tg_236.h rfl) rfl rfl ?_
 refine a_3 ?_
 refine o_1n (.store rfl rfl hg rfl rfl rfl ts_236.h (nle rfl)) ?_
 refine ak_ ?_
 refine r_m 2 ?_
 refine a_z ?_
 refine⟨(s++[x- v],0),by simp;omega,hnext _ _ (by omega) (by omega) (by omega),?_⟩
 rw[oV_]
 refine at_ [] rfl rfl rfl au_r (fun hs=>au_f) (fun hs=>?_)
 ·repeat' (first|exact aq_|refine al_ rfl rfl rfl rfl ?_ ?_)
  all_goals (first|(refine aH_ hs ?_ (a4_ _);rw[hv1];exact hset _)|exact au_e)
 have hl:s.length=(digs MB a).length:=by have:=of_decide_eq_false h;omega
 refine av_ ⟨(s,()),⟨hdig,hl,?_⟩,?_⟩
 have h1:=dC_ hdig
 rw[hl,dB_ _ hlen,dB_ _ (Nat.le_refl _),va,vb] at hval
 rw[hl] at h1
 have h2:c=0:=by
  rcases Nat.eq_zero_or_pos c with h|h
  exact h
  have:MB^ (digs MB a).length* 1≤MB^ (digs MB a).length* c:=Nat.mul_le_mul_left _ h
  omega
 subst h2
 simp at hval⊢
 omega
 rw[rk_]
 refine at_ [] rfl rfl rfl ?_ (fun hs=>?_) (fun hs=>?_)
 ·repeat' (first|exact ShrL.nil|refine ShrL.cons rfl rfl rfl rfl (by first|rfl|(simp;done)|(simp[hl]<;> omega)) ?_)
 ·repeat' (first|exact aK_|refine aE_ rfl ?_ ?_)
  all_goals (first|exact au_c|(refine Cv.loE hs ?_ (ad_ _);first|rfl|(simp[i64,u64,u32,bln,hl];done)|(simp[i64,u64,u32,bln,hl]<;> omega)))
 ·repeat' (first|exact aq_|refine al_ rfl rfl rfl rfl ?_ ?_)
  all_goals (first|exact au_e|(refine aH_ hs ?_ (a4_ _);first|(simp[eu_,fs_,dF_,hl];done)|(simp[dE,u32,ofV,hl];done))|(refine ae_ ?_;repeat' (first|exact ap_|refine af_ ?_ ?_)))
  all_goals (first|exact au_c|(refine Cv.loE hs ?_ (ad_ _);first|(simp[i64,u64,u32,bln,hl];done)|(simp[i64,u64,u32,bln,hl]<;> omega)))
 rintro⟨o,u⟩ ⟨hd,hl,hv⟩
 rw[rk_]
 refine AWp.ent (st':=⟨[(4,.lptr 3 0 0),(5,.arr (dE o))],[(3,some ⟨31,1,[[.emp]]⟩)],4,61⟩) ?_ ?_
 refine at_ [] rfl rfl rfl au_r (fun hs=>?_) (fun hs=>?_)
 ·repeat' (first|exact aK_|refine aE_ rfl ?_ ?_)
  all_goals (first|(exact Cv.sealE hs rfl (aQ_ rfl) rfl (by simp[hl]) (a4_ _))|exact au_c)
 ·repeat' (first|exact aq_|refine al_ rfl rfl rfl rfl ?_ ?_)
  all_goals (first|exact au_e|(refine ae_ ?_;repeat' (first|exact ap_|refine af_ ?_ ?_)))
  all_goals (first|(exact Cv.sealE hs rfl (aQ_ rfl) rfl (by simp[hl]) (a4_ _))|exact au_c)
 simp only at hl hv
 refine s_r 3 ?_
 refine o_0 (.move rfl) ?_
 refine o_0 (.call rfl rfl rfl (dU_ _ (by omega))) ?_
 refine o_1n (.store rfl rfl rfl rfl rfl rfl ts_31.h (nle rfl)) ?_
 refine ak_ ?_
 refine ag_ (b7_ rfl rfl rfl tg_31.h ts_31.h (nle rfl) ?_ (ao_ (aa_ (aT_ _) ab_)))
 rw[eO_ (b:=MB) (by decide) hd,hv];rfl
def tiS(a:Nat)(b:Nat):List Nat×Nat→AState
 |(o,i)=>⟨[(22,i64 i),(21,i64 (digs MB a).length),(20,mag a),(3,.lptr 2 0 0),(4,.lptr 3 0 0),(5,.lsl 4 0 ((digs MB a).length+(digs MB b).length) (some ((digs MB a).length+(digs MB b).length)) 1)],
  [(2,some ⟨31,1,[[mag b]]⟩),(3,some ⟨31,1,[[.emp]]⟩),(4,some ⟨236,1,dE o⟩)],5,73⟩
theorem lR_(a:Nat)(b:Nat)(o:List Nat)(i:Nat):tiS a b (o,i)=⟨[(22,i64 i),(21,i64 (digs MB a).length),(20,mag a),(3,.lptr 2 0 0),(4,.lptr 3 0 0),(5,.lsl 4 0 ((digs MB a).length+(digs MB b).length) (some ((digs MB a).length+(digs MB b).length)) 1)],
   [(2,some ⟨31,1,[[mag b]]⟩),(3,some ⟨31,1,[[.emp]]⟩),(4,some ⟨236,1,dE o⟩)],5,73⟩:=rfl
def tiT(a:Nat)(b:Nat)(i:Nat)(x:Nat):List Nat×Nat×Nat→AState
 |(o,k,c)=>⟨[(22,i64 i),(21,i64 (digs MB a).length),(20,mag a),(3,.lptr 2 0 0),(4,.lptr 3 0 0),(5,.lsl 4 0 ((digs MB a).length+(digs MB b).length) (some ((digs MB a).length+(digs MB b).length)) 1),(6,i64 i),(7,u32 x),(8,u64 c),(30,i64 k),(29,i64 (digs MB b).length),(28,mag b)],
  [(2,some ⟨31,1,[[mag b]]⟩),(3,some ⟨31,1,[[.emp]]⟩),(4,some ⟨236,1,dE o⟩)],5,73⟩
theorem lQ_(a:Nat)(b:Nat)(i:Nat)(x:Nat)(o:List Nat)(k:Nat)(c:Nat):tiT a b i x (o,k,c)=⟨[(22,i64 i),(21,i64 (digs MB a).length),(20,mag a),(3,.lptr 2 0 0),(4,.lptr 3 0 0),(5,.lsl 4 0 ((digs MB a).length+(digs MB b).length) (some ((digs MB a).length+(digs MB b).length)) 1),(6,i64 i),(7,u32 x),(8,u64 c),(30,i64 k),(29,i64 (digs MB b).length),(28,mag b)],
   [(2,some ⟨31,1,[[mag b]]⟩),(3,some ⟨31,1,[[.emp]]⟩),(4,some ⟨236,1,dE o⟩)],5,73⟩:=rfl
structure TimesI (a b:Nat)(x:List Nat×Nat):Prop where
 len:x.1.length=(digs MB a).length+(digs MB b).length
 le:x.2≤(digs MB a).length
 dig:∀d∈x.1,d< MB
 val:ofD MB x.1=ofD MB ((digs MB a).take x.2) * b
 zer:∀j,x.2+(digs MB b).length≤j→j< x.1.length→x.1[j]?=some 0
structure TimesJ (a b i v:Nat)(x:List Nat×Nat×Nat):Prop where
 len:x.1.length=(digs MB a).length+(digs MB b).length
 le:x.2.1≤(digs MB b).length
 dig:∀d∈x.1,d< MB
 car:x.2.2< MB
 val:ofD MB x.1+MB^ (i+x.2.1) * x.2.2=ofD MB ((digs MB a).take i) * b+MB^ i* v* ofD MB ((digs MB b).take x.2.1)
 zer:∀j,i+(digs MB b).length≤j→j< x.1.length→x.1[j]?=some 0
theorem en_(a b:Nat)(h:bl a+bl b≤17592186044416):FSpec Tryz.prog 93 [.agg [mag a],.agg [mag b]] (.agg [mag (a* b)]):=by
 have hla:=bd_ (b:=MB) (by decide) a
 have hlb:=bd_ (b:=MB) (by decide) b
 have va:=a8_ (b:=MB) (by decide) a
 have vb:=a8_ (b:=MB) (by decide) b
 refine f_n Tryz.func93 ?_ ?_
 exact aa_ (ao_ (aa_ (aT_ a) ab_)) (aa_ (ao_ (aa_ (aT_ b) ab_)) ab_)
 refine r_z 3 ?_
 refine r_z 9 ?_
 refine ac_ (r_z 4 ?_)
 refine aD_ (tiS a b) (fun x=>TimesI a b x∧x.2=(digs MB a).length) ?_ ?_
 refine ah_ (aw_ (tiS a b) (fun x=>(digs MB a).length- x.2) (TimesI a b) (List.replicate ((digs MB a).length+(digs MB b).length) 0,0) ⟨by simp,by simp,?_,by simp[it_,ofD],?_⟩ ?_ ?_)
 intro d hd;simp at hd;rw[hd.2];decide
 intro j _ hj;simp at hj;simp[hj]
 rw[lR_]
 exact s_e [(4,5)]
 rintro⟨o,i⟩ ⟨hlen,hle,hdig,hval,hzer⟩
 simp only at hlen hle hdig hval hzer
 rw[lR_]
 refine r_z 1 ?_
 refine ac_ (aj_ rfl (fun h=>?_) (fun h=>?_))
 have hlt:i< (digs MB a).length:=by have:=of_decide_eq_true h;omega
 obtain⟨x,hx⟩:∃x,(digs MB a)[i]?=some x:=⟨_,List.getElem?_eq_getElem hlt⟩
 have hx1:x< 1000000000:=bv_ (by decide) hx
 have hx':(dE (digs MB a))[((i:Nat):Int).toNat]?=some [u32 x]:=ct_ hx
 refine ai_ (ac_ (ah_ (s_r 5 ?_)))
 refine a_1 ?_
 refine i_x hx' ?_
 refine l_1 hx' ?_
 refine a_z ?_
 refine r_z 1 ?_
 refine ac_ (r_z 4 ?_)
 refine aD_ (tiT a b i x) (fun y=>TimesJ a b i x y∧y.2.1=(digs MB b).length) ?_ ?_
 refine ah_ (aw_ (tiT a b i x) (fun y=>(digs MB b).length- y.2.1) (TimesJ a b i x) (o,0,0) ⟨hlen,by simp,hdig,(show 0< MB by decide),by simp[hval,ofD],hzer⟩ ?_ ?_)
 rw[lQ_]
 exact s_e []
 rintro⟨q,k,c⟩ ⟨jlen,jle,jdig,jcar,jval,jzer⟩
 simp only at jlen jle jdig jcar jval jzer
 rw[lQ_]
 refine r_z 1 ?_
 refine ac_ (aj_ rfl (fun h=>?_) (fun h=>?_))
 have hltk:k< (digs MB b).length:=by have:=of_decide_eq_true h;omega
 obtain⟨y,hy⟩:∃y,(digs MB b)[k]?=some y:=⟨_,List.getElem?_eq_getElem hltk⟩
 have hy1:y< 1000000000:=bv_ (by decide) hy
 have hy':(dE (digs MB b))[((k:Nat):Int).toNat]?=some [u32 y]:=ct_ hy
 obtain⟨d,hd⟩:∃d,q[i+k]?=some d:=⟨_,List.getElem?_eq_getElem (by omega)⟩
 have hd1:d< 1000000000:=jdig d (List.mem_of_getElem? hd)
 have hc1:c< 1000000000:=jcar
 have hg:(dE q)[0+(((i:Int)+k)).toNat]?=some [u32 d]:=by rw[show 0+((i:Int)+k).toNat=i+k by omega];exact ct_ hd
 have hset:∀w:Nat,(dE q).set (0+(((i:Int)+k)).toNat) [u32 w]=dE (q.set (i+k) w):=by intro w;rw[show 0+((i:Int)+k).toNat=i+k by omega,eu_]
 have hxy0:x* y≤999999999* 999999999:=Nat.mul_le_mul (by omega) (by omega)
 have hxyn:0≤(x:Int) * y:=Int.mul_nonneg (by omega) (by omega)
 have hxyi:(x:Int) * y=((x* y:Nat):Int):=by push_cast;rfl
 refine ai_ (ac_ (ah_ (s_r 5 ?_)))
 refine a_1 ?_
 refine i_x hy' ?_
 refine l_1 hy' ?_
 refine a_z ?_
 refine s_r 16 ?_
 refine a_8 ?_
 refine a_2 ?_
 first|refine aM_ (.index_l rfl rfl (by omega) (by omega) te_29.h) rfl rfl ?_|refine aM_ (.index_a rfl rfl (by omega) hg rfl te_29.h) rfl rfl ?_
 first|refine aM_ (.load_l1 rfl rfl hg tg_236.h rfl) rfl rfl ?_|refine aM_ (.load_a1 rfl hg tg_236.h rfl) rfl rfl ?_
 refine a_z ?_
 refine r_m 12 ?_
 refine a_8 ?_
 refine a_2 ?_
 refine o_1n (.store rfl rfl hg rfl rfl rfl ts_236.h (nle rfl)) ?_
 refine a_z ?_
 refine r_m 2 ?_
 refine a_z ?_
 have hm:((c:Int)+((x:Int) * y+d)) % 1000000000=(((c+(x* y+d)) % 1000000000:Nat):Int):=by rw[hxyi];omega
 have hq:((c:Int)+((x:Int) * y+d)) / 1000000000=(((c+(x* y+d)) / 1000000000:Nat):Int):=by rw[hxyi];omega
 refine⟨(q.set (i+k) ((c+(x* y+d)) % 1000000000),k+1,(c+(x* y+d)) / 1000000000),by simp;omega,⟨by simp[jlen],by simp;omega,kS_ jdig (Nat.mod_lt _ (by decide)),?_,?_,?_⟩,?_⟩
 show _< 1000000000;simp only;omega
 simp only
 have e1:=iu_ MB ((c+(x* y+d)) % 1000000000) hd
 have e2:=Nat.mod_add_div (c+(x* y+d)) 1000000000
 have e3:MB^ (i+k) * ((c+(x* y+d)) % 1000000000)+MB^ (i+(k+1)) * ((c+(x* y+d)) / 1000000000)=MB^ (i+k) * c+(MB^ (i+k) * (x* y)+MB^ (i+k) * d):=by
  rw[←Nat.add_assoc i k 1,Nat.pow_succ,Nat.mul_assoc,←Nat.mul_add,show MB* ((c+(x* y+d)) / 1000000000)=1000000000* ((c+(x* y+d)) / 1000000000) from rfl,e2,Nat.mul_add,Nat.mul_add]
 have e4:MB^ i* x* ofD MB ((digs MB b).take (k+1))=MB^ i* x* ofD MB ((digs MB b).take k)+MB^ (i+k) * (x* y):=by
  rw[bB_ _ hy,Nat.mul_add]
  congr 1
  rw[Nat.pow_add]
  simp only[Nat.mul_assoc,Nat.mul_left_comm,Nat.mul_comm]
 rw[e4]
 omega
 intro j hj hj2
 rw[List.getElem?_set_ne (by omega)]
 exact jzer j hj (by simpa using hj2)
 rw[lQ_]
 refine at_ [] rfl rfl rfl au_r (fun hs=>?_) (fun hs=>?_)
 ·repeat' (first|exact aK_|refine aE_ rfl ?_ ?_)
  all_goals (first|(exact Cv.loE hs (congrArg (fun z=>AV.v (.int .u64 z)) hq) (ad_ _))|exact au_c)
 ·repeat' (first|exact aq_|refine al_ rfl rfl rfl rfl ?_ ?_)
  all_goals (first|(refine aH_ hs ?_ (a4_ _);rw[hm];exact hset _)|exact au_e|(refine ae_ ?_;repeat' (first|exact ap_|refine af_ ?_ ?_)))
  all_goals (first|(exact Cv.loE hs (congrArg (fun z=>AV.v (.int .u64 z)) hq) (ad_ _))|exact au_c)
 have hk:k=(digs MB b).length:=by have:=of_decide_eq_false h;omega
 refine av_ ⟨(q,k,c),⟨⟨jlen,jle,jdig,jcar,jval,jzer⟩,hk⟩,?_⟩
 rw[lQ_]
 exact s_e []
 rintro⟨q,k,c⟩ ⟨⟨jlen,jle,jdig,jcar,jval,jzer⟩,hk⟩
 simp only at jlen jle jdig jcar jval jzer hk
 subst hk
 have hc1:c< 1000000000:=jcar
 have hz:=jzer (i+(digs MB b).length) (Nat.le_refl _) (by omega)
 have hg:(dE q)[0+(((i:Int)+(digs MB b).length)).toNat]?=some [u32 0]:=by rw[show 0+((i:Int)+(digs MB b).length).toNat=i+(digs MB b).length by omega];exact ct_ hz
 have hset:(dE q).set (0+(((i:Int)+(digs MB b).length)).toNat) [u32 c]=dE (q.set (i+(digs MB b).length) c):=by rw[show 0+((i:Int)+(digs MB b).length).toNat=i+(digs MB b).length by omega,eu_]
 rw[List.take_length,vb] at jval
 rw[lQ_]
 refine r_m 10 ?_
 refine a_8 ?_
 refine a_1 ?_
 refine o_1n (.store rfl rfl hg rfl rfl rfl ts_236.h (nle rfl)) ?_
 refine ak_ ?_
 refine r_m 2 ?_
 refine a_z ?_
 refine⟨(q.set (i+(digs MB b).length) c,i+1),by simp;omega,⟨by simp[jlen],by simp;omega,kS_ jdig jcar,?_,?_⟩,?_⟩
 simp only
 have e1:=iu_ MB c hz
 rw[bB_ _ hx,Nat.add_mul,←jval]
 omega
 intro j hj hj2
 rw[List.getElem?_set_ne (by simp only at hj;omega)]
 exact jzer j (by simp only at hj;omega) (by simpa using hj2)
 rw[lR_]
 exact s_f []
 have hi:i=(digs MB a).length:=by have:=of_decide_eq_false h;omega
 refine av_ ⟨(o,i),⟨⟨hlen,hle,hdig,hval,hzer⟩,hi⟩,?_⟩
 rw[lR_]
 exact s_e []
 rintro⟨o,i⟩ ⟨⟨hlen,hle,hdig,hval,hzer⟩,hi⟩
 simp only at hlen hle hdig hval hzer hi
 subst hi
 rw[List.take_length,va] at hval
 rw[lR_]
 refine AWp.ent (st':=⟨[(4,.lptr 3 0 0),(5,.arr (dE o))],[(3,some ⟨31,1,[[.emp]]⟩)],4,73⟩) ?_ ?_
 refine at_ [] rfl rfl rfl au_r (fun hs=>?_) (fun hs=>?_)
 ·repeat' (first|exact aK_|refine aE_ rfl ?_ ?_)
  all_goals (first|(exact Cv.sealE hs rfl (aQ_ rfl) rfl (by simp[hlen]) (a4_ _))|exact au_c)
 ·repeat' (first|exact aq_|refine al_ rfl rfl rfl rfl ?_ ?_)
  all_goals (first|exact au_e|(refine ae_ ?_;repeat' (first|exact ap_|refine af_ ?_ ?_)))
  all_goals (first|(exact Cv.sealE hs rfl (aQ_ rfl) rfl (by simp[hlen]) (a4_ _))|exact au_c)
 refine s_r 3 ?_
 refine o_0 (.move rfl) ?_
 refine o_0 (.call rfl rfl rfl (dU_ _ (by omega))) ?_
 refine o_1n (.store rfl rfl rfl rfl rfl rfl ts_31.h (nle rfl)) ?_
 refine ak_ ?_
 refine ag_ (b7_ rfl rfl rfl tg_31.h ts_31.h (nle rfl) ?_ (ao_ (aa_ (aT_ _) ab_)))
 rw[eO_ (b:=MB) (by decide) hdig,hval];rfl
def siS(a:Nat)(d:Nat):Nat×List Nat×Nat→AState
 |(k,t,r)=>⟨[(8,i64 ((k:Int)- 1)),(1,u32 d),(2,.lptr 1 0 0),(4,.lptr 2 0 0),(5,.lptr 3 0 0),(6,.lsl 4 0 (digs MB a).length (some (digs MB a).length) 1),(7,u64 r)],
  [(1,some ⟨31,1,[[mag a]]⟩),(2,some ⟨31,1,[[.emp]]⟩),(3,some ⟨31,1,[[.emp]]⟩),(4,some ⟨236,1,dE (List.replicate k 0++t)⟩)],5,46⟩
theorem lX_(a:Nat)(d:Nat)(k:Nat)(t:List Nat)(r:Nat):siS a d (k,t,r)=⟨[(8,i64 ((k:Int)- 1)),(1,u32 d),(2,.lptr 1 0 0),(4,.lptr 2 0 0),(5,.lptr 3 0 0),(6,.lsl 4 0 (digs MB a).length (some (digs MB a).length) 1),(7,u64 r)],
   [(1,some ⟨31,1,[[mag a]]⟩),(2,some ⟨31,1,[[.emp]]⟩),(3,some ⟨31,1,[[.emp]]⟩),(4,some ⟨236,1,dE (List.replicate k 0++t)⟩)],5,46⟩:=rfl
structure SimI (a d:Nat)(x:Nat×List Nat×Nat):Prop where
 len:x.1+x.2.1.length=(digs MB a).length
 dig:∀y∈x.2.1,y< MB
 rest:x.2.2< d
 val:ofD MB ((digs MB a).drop x.1)=d* ofD MB x.2.1+x.2.2
theorem rH_(a d:Nat)(h:bl a≤17592186044416)(hd0:0< d)(hd:d< 4294967296):FSpec Tryz.prog 244 [.agg [mag a],u32 d] (.tup [.agg [mag (a/ d)],.agg [mag (a % d)]]):=by
 have hla:=bd_ (b:=MB) (by decide) a
 have va:=a8_ (b:=MB) (by decide) a
 refine f_n Tryz.func244 ?_ ?_
 exact aa_ (ao_ (aa_ (aT_ a) ab_)) (aa_ (ad_ _) ab_)
 refine r_z 3 ?_
 refine r_z 5 ?_
 refine r_z 1 ?_
 refine ac_ (r_z 5 ?_)
 refine aD_ (siS a d) (fun x=>SimI a d x∧x.1=0) ?_ ?_
 refine ah_ (aw_ (siS a d) (fun x=>x.1) (SimI a d) ((digs MB a).length,[],0) ⟨by simp,by simp,hd0,by simp[ofD]⟩ ?_ ?_)
 rw[lX_]
 exact s_e [(4,6)]
 rintro⟨k,t,r⟩ ⟨hlen,hdig,hrest,hval⟩
 simp only at hlen hdig hrest hval
 rw[lX_]
 refine ac_ (r_z 2 ?_)
 refine aj_ rfl (fun h=>?_) (fun h=>?_)
 have hk0:0< k:=by have:=of_decide_eq_true h;omega
 obtain⟨x,hx⟩:∃x,(digs MB a)[k- 1]?=some x:=⟨_,List.getElem?_eq_getElem (by omega)⟩
 have hx1:x< 1000000000:=bv_ (by decide) hx
 have hx':(dE (digs MB a))[((k:Int)- 1).toNat]?=some [u32 x]:=by rw[show((k:Int)- 1).toNat=k- 1 by omega];exact ct_ hx
 have hrep:List.replicate k 0++t=List.replicate (k- 1) 0++0::t:=by
  conv=>lhs;rw[show k=(k- 1)+1 by omega,List.replicate_succ']
  simp
 have hg:(dE (List.replicate k 0++t))[0+((k:Int)- 1).toNat]?=some [u32 0]:=by
  rw[show 0+((k:Int)- 1).toNat=k- 1 by omega,hrep];exact ct_ (iQ_ _ _ _ _ (by simp))
 have hset:∀w:Nat,(dE (List.replicate k 0++t)).set (0+((k:Int)- 1).toNat) [u32 w]=dE (List.replicate (k- 1) 0++(w::t)):=by
  intro w
  rw[show 0+((k:Int)- 1).toNat=k- 1 by omega,eu_,hrep,ih_ _ _ _ _ _ (by simp)];simp
 have hq:(r* 1000000000+x) / d< 1000000000:=by
  rw[Nat.div_lt_iff_lt_mul hd0]
  have:(r+1) * 1000000000≤d* 1000000000:=Nat.mul_le_mul_right _ hrest
  rw[Nat.mul_comm 1000000000 d];omega
 have hA:(r:Int) * 1000000000+x=((r* 1000000000+x:Nat):Int):=by omega
 have hqi:((r:Int) * 1000000000+x) / d=(((r* 1000000000+x) / d:Nat):Int):=by rw[hA];exact(Int.natCast_ediv _ _).symm
 have hri:((r:Int) * 1000000000+x) % d=(((r* 1000000000+x) % d:Nat):Int):=by rw[hA];exact(Int.natCast_emod _ _).symm
 have hmod:=Nat.mod_lt (r* 1000000000+x) hd0
 have e:=Nat.div_add_mod (r* 1000000000+x) d
 obtain⟨Q,hQ⟩:∃Q,Q=(r* 1000000000+x) / d:=⟨_,rfl⟩
 obtain⟨R,hR⟩:∃R,R=(r* 1000000000+x) % d:=⟨_,rfl⟩
 rw[←hQ] at hq hqi
 rw[←hR] at hmod hri
 rw[←hQ,←hR] at e
 refine ai_ (ac_ (ah_ (s_r 10 ?_)))
 refine a_5 ?_
 refine i_x hx' ?_
 refine l_1 hx' ?_
 refine a_z ?_
 refine r_d hmix 14 ?_
 refine a_5 ?_
 refine o_0 (.bin rfl rfl (pL_ (by omega))) ?_
 refine o_0 (.conv rfl (cU32 (by rw[hqi];omega) tu_235.h tu_236.h)) ?_
 refine a_5 ?_
 refine o_1n (.store rfl rfl hg rfl rfl rfl ts_236.h (nle rfl)) ?_
 refine a_1 ?_
 refine ak_ (n_k ?_)
 refine r_m 3 ?_
 refine a_z ?_
 refine⟨(k- 1,Q::t,R),by simp;omega,⟨by simp;omega,?_,hmod,?_⟩,?_⟩
 intro y hy
 rcases List.mem_cons.1 hy with rfl|hy
 exact hq
 exact hdig y hy
 simp only
 rw[fI_ MB hx,show k- 1+1=k by omega,hval,ofD]
 have e2:d* (Q+MB* ofD MB t)=d* Q+MB* (d* ofD MB t):=by rw[Nat.mul_add,Nat.mul_left_comm]
 have e3:MB* (d* ofD MB t+r)=MB* (d* ofD MB t)+1000000000* r:=Nat.mul_add _ _ _
 omega
 rw[lX_]
 refine at_ [] rfl rfl rfl au_r (fun hs=>?_) (fun hs=>?_)
 ·repeat' (first|exact aK_|refine aE_ rfl ?_ ?_)
  all_goals (first|(exact Cv.loE hs (congrArg (fun z=>AV.v (.int .u64 z)) hri) (ad_ _))|exact au_c)
 ·repeat' (first|exact aq_|refine al_ rfl rfl rfl rfl ?_ ?_)
  all_goals (first|(refine aH_ hs ?_ (a4_ _);rw[hqi];exact hset _)|exact au_e|(refine ae_ ?_;repeat' (first|exact ap_|refine af_ ?_ ?_)))
  all_goals (first|(exact Cv.loE hs (congrArg (fun z=>AV.v (.int .u64 z)) hri) (ad_ _))|exact au_c)
 have hk0:k=0:=by have:=of_decide_eq_false h;omega
 refine av_ ⟨(k,t,r),⟨⟨hlen,hdig,hrest,hval⟩,hk0⟩,?_⟩
 rw[lX_]
 exact s_e []
 rintro⟨k,t,r⟩ ⟨⟨hlen,hdig,hrest,hval⟩,hk⟩
 simp only at hlen hdig hrest hval hk
 subst hk
 rw[List.drop_zero,va] at hval
 have hq:a/ d=ofD MB t:=by rw[hval,Nat.mul_add_div hd0,Nat.div_eq_of_lt hrest];omega
 have hr:a % d=r:=by rw[hval,Nat.mul_add_mod];exact Nat.mod_eq_of_lt hrest
 rw[lX_]
 refine AWp.ent (st':=⟨[(4,.lptr 1 0 0),(5,.lptr 2 0 0),(6,.arr (dE t)),(7,u64 r)],[(1,some ⟨31,1,[[.emp]]⟩),(2,some ⟨31,1,[[.emp]]⟩)],3,46⟩) ?_ ?_
 refine at_ [(1,4),(2,5)] rfl rfl rfl au_r (fun hs=>?_) (fun hs=>?_)
 ·repeat' (first|exact aK_|refine aE_ rfl ?_ ?_)
  all_goals (first|(exact Cv.sealE hs rfl (aQ_ rfl) rfl (by simp;omega) (a4_ _))|exact au_c)
 ·repeat' (first|exact aq_|refine al_ rfl rfl rfl rfl ?_ ?_)
  all_goals (first|exact au_e|(refine ae_ ?_;repeat' (first|exact ap_|refine af_ ?_ ?_)))
  all_goals (first|(exact Cv.sealE hs rfl (aQ_ rfl) rfl (by simp;omega) (a4_ _))|exact au_c)
 refine s_r 6 ?_
 refine o_0 (.move rfl) ?_
 refine o_0 (.call rfl rfl rfl (dU_ _ (by omega))) ?_
 refine o_0 (.move rfl) ?_
 refine o_0 (.call rfl rfl rfl (ep_ r (by omega))) ?_
 refine o_1n (.store rfl rfl rfl rfl rfl rfl ts_31.h (nle rfl)) ?_
 refine o_1n (.store rfl rfl rfl rfl rfl rfl ts_31.h (nle rfl)) ?_
 refine ak_ ?_
 refine ag_ ?_
 rw[hq,hr]
 refine Fin.many ⟨_,_,rfl,⟨_,_,_,_,_,rfl,rfl,rfl,.inl ⟨tg_31.h,_,ts_31.h,nle rfl,rfl⟩⟩,_,_,rfl,⟨_,_,_,_,_,rfl,rfl,rfl,.inl ⟨tg_31.h,_,ts_31.h,nle rfl,rfl⟩⟩,rfl⟩ (nle rfl) ?_
 refine af_ (Cv.loE au_ ?_ (ao_ (aa_ (bJ_ (trimD t)) ab_))) (af_ (an_ au_ (ao_ (aa_ (aT_ r) ab_))) ap_)
 rw[eO_ (b:=MB) (by decide) hdig];rfl
theorem rd_{pre s t post:List Nat}{x e i:Nat}(he:e=pre.length)(hi:i=s.length):(pre++(s++x::t)++post)[e+i]?=some x:=by
 subst he hi;simp
theorem rc_{pre s t post:List Nat}{x v e i:Nat}(he:e=pre.length)(hi:i=s.length):(pre++(s++x::t)++post).set (e+i) v=pre++((s++[v])++t)++post:=by
 subst he hi
 rw[List.append_assoc,List.set_append_right _ _ (by omega),List.append_assoc,show pre.length+s.length- pre.length=s.length by omega,List.set_append_right _ _ (by omega)]
 simp
def suS(V:List Nat)(A:List Nat)(pre:List Nat)(post:List Nat)(cap:Option Nat)(t:Nat):List Nat×Nat×Nat→AState
 |(s,c,q)=>⟨[(0,.lsl 0 pre.length A.length cap 1),(1,.arr (dE V)),(2,u64 t),(7,u64 c),(8,i64 q),(13,i64 s.length),(12,i64 A.length)],
  [(0,some ⟨236,1,dE (pre++(s++A.drop s.length)++post)⟩)],1,54⟩
theorem jv_(V:List Nat)(A:List Nat)(pre:List Nat)(post:List Nat)(cap:Option Nat)(t:Nat)(s:List Nat)(c:Nat)(q:Nat):suS V A pre post cap t (s,c,q)=⟨[(0,.lsl 0 pre.length A.length cap 1),(1,.arr (dE V)),(2,u64 t),(7,u64 c),(8,i64 q),(13,i64 s.length),(12,i64 A.length)],
   [(0,some ⟨236,1,dE (pre++(s++A.drop s.length)++post)⟩)],1,54⟩:=rfl
structure SubI (V A:List Nat)(t:Nat)(x:List Nat×Nat×Nat):Prop where
 le:x.1.length≤A.length
 dig:∀d∈x.1,d< MB
 car:x.2.1< MB
 bor:x.2.2≤1
 fin:V.length< x.1.length→x.2.1=0
 val:ofD MB x.1+t* ofD MB (V.take x.1.length)=ofD MB (A.take x.1.length)+MB^ x.1.length* (x.2.2+x.2.1)
theorem nZ_ (pre A post V:List Nat) (t D q:Nat) (cap:Option Nat) (hA:∀d∈A,d< MB) (hV:∀d∈V,d< MB) (ht:t< MB) (hlen:V.length< A.length) (hA2:A.length< 17592186044416) (hq:q≤1)
    (hD:D+t* ofD MB V=ofD MB A+MB^ A.length* q) (hD2:D< MB^ A.length):
    ESpec Tryz.prog 245 236 1 (dE (pre++A++post)) (dE (pre++padD MB A.length D++post)) pre.length A.length cap [.arr (dE V),u64 t] (.bool (q !=0)):=by
 have ht1:t< 1000000000:=ht
 refine ESpec.enter Tryz.func245 rfl (by kernel_rfl) rfl rfl rfl ?_ ?_ ?_ rfl ?_
 exact aa_ (bJ_ _) (aa_ (ad_ _) ab_)
 exact a4_ _
 exact a4_ _
 refine r_z 1 ?_
 refine r_z 2 ?_
 refine ac_ (r_z 3 ?_)
 refine aD_ (suS V A pre post cap t) (fun x=>SubI V A t x∧x.1.length=A.length) ?_ ?_
 refine ah_ (aw_ (suS V A pre post cap t) (fun x=>A.length- x.1.length) (SubI V A t) ([],0,0) ⟨by simp,by simp,(show 0< MB by decide),by simp,by simp,by simp[ofD]⟩ ?_ ?_)
 rw[jv_]
 exact s_e []
 rintro⟨s,c,β⟩ ⟨hle,hdig,hcar,hbor,hfin,hval⟩
 simp only at hle hdig hcar hbor hfin hval
 have hc1:c< 1000000000:=hcar
 rw[jv_]
 refine r_z 1 ?_
 refine ac_ (aj_ rfl (fun h=>?_) (fun h=>?_))
 have hlt:s.length< A.length:=by have:=of_decide_eq_true h;omega
 obtain⟨x,hx⟩:∃x,A[s.length]?=some x:=⟨_,List.getElem?_eq_getElem hlt⟩
 have hx1:x< 1000000000:=hA x (List.mem_of_getElem? hx)
 have hg:(dE (pre++(s++A.drop s.length)++post))[pre.length+((s.length:Nat):Int).toNat]?=some [u32 x]:=by
  rw[Int.toNat_natCast,db_ hx];exact ct_ (rd_ rfl rfl)
 have hset:∀w:Nat,(dE (pre++(s++A.drop s.length)++post)).set (pre.length+((s.length:Nat):Int).toNat) [u32 w]=dE (pre++((s++[w])++A.drop (s++[w]).length)++post):=by
  intro w
  rw[Int.toNat_natCast,db_ hx,eu_,rc_ rfl rfl];simp
 refine ai_ (ac_ (ah_ (r_z 2 ?_)))
 refine ac_ (r_z 4 ?_)
 refine aD_ (fun v:Nat=>⟨[(0,.lsl 0 pre.length A.length cap 1),(1,.arr (dE V)),(2,u64 t),(7,u64 v),(8,i64 β),(9,i64 s.length),(13,i64 s.length),(12,i64 A.length)],
  [(0,some ⟨236,1,dE (pre++(s++A.drop s.length)++post)⟩)],1,54⟩)
  (fun v=>v=c+t* (V[s.length]?.getD 0)∧v≤999999999+999999999* 999999999∧(V.length≤s.length→v=c)) ?_ ?_
 refine aj_ rfl (fun h=>?_) (fun h=>?_)
 have hlt2:s.length< V.length:=by have:=of_decide_eq_true h;simp at this;omega
 obtain⟨y,hy⟩:∃y,V[s.length]?=some y:=⟨_,List.getElem?_eq_getElem hlt2⟩
 have hy1:y< 1000000000:=hV y (List.mem_of_getElem? hy)
 have hy':(dE V)[((s.length:Nat):Int).toNat]?=some [u32 y]:=ct_ hy
 have hxy0:t* y≤999999999* 999999999:=Nat.mul_le_mul (by omega) (by omega)
 have hxyn:0≤(t:Int) * y:=Int.mul_nonneg (by omega) (by omega)
 have hxyi:(t:Int) * y=((t* y:Nat):Int):=(Int.natCast_mul _ _).symm
 refine r_m 10 ?_
 refine a_4 ?_
 refine i_x hy' ?_
 refine l_1 hy' ?_
 refine a_z ?_
 refine⟨c+t* y,⟨by rw[hy];rfl,by omega,fun h=>absurd h (by omega)⟩,?_⟩
 have hI:(c:Int)+(t:Int) * y=((c+t* y:Nat):Int):=by omega
 have:=(congrArg (fun z=>AV.v (.int .u64 z)) hI)
 exact s_f []
 have hlt2:¬s.length< V.length:=by have:=of_decide_eq_false h;simp at this;omega
 refine ai_ ⟨c,⟨by rw[List.getElem?_eq_none (by omega)];simp,by omega,fun _=>rfl⟩,?_⟩
 exact s_e []
 rintro v ⟨hv,hv1,hv2⟩
 refine s_r 12 ?_
 refine a_2 ?_
 first|refine aM_ (.index_l rfl rfl (by omega) (by omega) te_29.h) rfl rfl ?_|refine aM_ (.index_a rfl rfl (by omega) hg rfl te_29.h) rfl rfl ?_
 first|refine aM_ (.load_l1 rfl rfl hg tg_236.h rfl) rfl rfl ?_|refine aM_ (.load_a1 rfl hg tg_236.h rfl) rfl rfl ?_
 refine a_z ?_
 refine r_z 3 ?_
 refine r_z 1 ?_
 refine ac_ (r_z 2 ?_)
 have hnext:∀w q',w+v % 1000000000+β=x+1000000000* q'→w< 1000000000→q'≤1→SubI V A t (s++[w],v/ 1000000000,q'):=by
  intro w q' hw hwb hq'
  refine⟨by simp;omega,?_,?_,hq',?_,?_⟩
  intro d hd
  rcases List.mem_append.1 hd with hd|hd
  exact hdig d hd
  simp at hd;subst hd;exact hwb
  show v/ 1000000000< 1000000000;omega
  intro hl
  simp at hl
  have:=hv2 (by omega)
  simp only;omega
  simp only[List.length_append,List.length_singleton]
  rw[dN_,bB_ _ hx,cz_,Nat.pow_succ]
  have e:MB^ s.length* (w+v % 1000000000+β+1000000000* (v/ 1000000000))=MB^ s.length* (x+MB* q'+MB* (v/ 1000000000)):=by rw[hw]
  have e2:w+v % 1000000000+β+1000000000* (v/ 1000000000)=w+β+(c+t* (V[s.length]?.getD 0)):=by rw[←hv];have:=Nat.mod_add_div v 1000000000;omega
  rw[e2] at e
  have e3:t* (ofD MB (V.take s.length)+MB^ s.length* (V[s.length]?.getD 0))=t* ofD MB (V.take s.length)+MB^ s.length* (t* (V[s.length]?.getD 0)):=by rw[Nat.mul_add,Nat.mul_left_comm]
  rw[e3]
  have e4:MB^ s.length* MB* (q'+v/ 1000000000)=MB^ s.length* (MB* q')+MB^ s.length* (MB* (v/ 1000000000)):=by rw[Nat.mul_assoc,Nat.mul_add,Nat.mul_add]
  rw[e4]
  simp only[Nat.mul_add] at e hval⊢
  omega
 refine aj_ rfl (fun h=>?_) (fun h=>?_)
 have hb:(x:Int)- v % 1000000000- β< 0:=by have:=of_decide_eq_true h;omega
 have hI:(x:Int)- (v:Int) % 1000000000- β+1000000000=((x+1000000000- v % 1000000000- β:Nat):Int):=by omega
 refine r_m 4 ?_
 refine a_z ?_
 refine r_m 6 ?_
 refine a_4 ?_
 first|refine aM_ (.index_l rfl rfl (by omega) (by omega) te_29.h) rfl rfl ?_|refine aM_ (.index_a rfl rfl (by omega) (by omega) rfl te_29.h) rfl rfl ?_
 refine o_1n (.store rfl rfl hg rfl rfl rfl ts_236.h (nle rfl)) ?_
 refine ak_ ?_
 refine r_m 2 ?_
 refine a_z ?_
 refine⟨(s++[x+1000000000- v % 1000000000- β],v/ 1000000000,1),by simp;omega,hnext _ _ (by omega) (by omega) (Nat.le_refl _),?_⟩
 rw[jv_]
 refine at_ [] rfl rfl rfl au_r (fun hs=>au_f) (fun hs=>?_)
 ·repeat' (first|exact aq_|refine al_ rfl rfl rfl rfl ?_ ?_)
  all_goals (first|(refine aH_ hs ?_ (a4_ _);rw[hI];exact hset _)|exact au_e)
 have hb:¬(x:Int)- v % 1000000000- β< 0:=by have:=of_decide_eq_false h;omega
 have hI:(x:Int)- (v:Int) % 1000000000- β=((x- v % 1000000000- β:Nat):Int):=by omega
 refine ai_ (r_m 6 ?_)
 refine a_3 ?_
 refine o_0 (.conv rfl (cU32 (by omega) tu_2.h tu_236.h)) ?_
 refine a_1 ?_
 refine o_1n (.store rfl rfl hg rfl rfl rfl ts_236.h (nle rfl)) ?_
 refine ak_ ?_
 refine r_m 2 ?_
 refine a_z ?_
 refine⟨(s++[x- v % 1000000000- β],v/ 1000000000,0),by simp;omega,hnext _ _ (by omega) (by omega) (by omega),?_⟩
 rw[jv_]
 refine at_ [] rfl rfl rfl au_r (fun hs=>au_f) (fun hs=>?_)
 ·repeat' (first|exact aq_|refine al_ rfl rfl rfl rfl ?_ ?_)
  all_goals (first|(refine aH_ hs ?_ (a4_ _);rw[hI];exact hset _)|exact au_e)
 have hl:s.length=A.length:=by have:=of_decide_eq_false h;omega
 refine av_ ⟨(s,c,β),⟨⟨hle,hdig,hcar,hbor,hfin,hval⟩,hl⟩,?_⟩
 rw[jv_]
 exact s_e []
 rintro⟨s,c,β⟩ ⟨⟨hle,hdig,hcar,hbor,hfin,hval⟩,hl⟩
 simp only at hle hdig hcar hbor hfin hval hl
 have hc0:=hfin (by omega)
 subst hc0
 rw[hl,List.take_length,List.take_of_length_le (by omega),Nat.add_zero] at hval
 have hs1:=dC_ hdig
 rw[hl] at hs1
 have hpos:0< MB^ A.length:=Nat.pow_pos (by decide)
 have hqq:β=q∧ofD MB s=D:=by
  rcases Nat.le_one_iff_eq_zero_or_eq_one.1 hq with rfl|rfl <;> rcases Nat.le_one_iff_eq_zero_or_eq_one.1 hbor with rfl|rfl <;> constructor <;> omega
 obtain⟨rfl,rfl⟩:=hqq
 rw[jv_]
 refine r_z 3 ?_
 refine ag_ (FinE.tmp rfl ?_ rfl ?_)
 congr 2
 rw[Bool.eq_iff_iff];simp
 rw[hl,List.drop_length,List.append_nil,←n1_ hdig hl rfl]
def gbS(V:List Nat)(A:List Nat)(pre:List Nat)(post:List Nat)(cap:Option Nat):List Nat×Nat→AState
 |(s,c)=>⟨[(0,.lsl 0 pre.length A.length cap 1),(1,.arr (dE V)),(5,u32 c),(10,i64 s.length),(9,i64 A.length)],
  [(0,some ⟨236,1,dE (pre++(s++A.drop s.length)++post)⟩)],1,40⟩
theorem jR_(V:List Nat)(A:List Nat)(pre:List Nat)(post:List Nat)(cap:Option Nat)(s:List Nat)(c:Nat):gbS V A pre post cap (s,c)=⟨[(0,.lsl 0 pre.length A.length cap 1),(1,.arr (dE V)),(5,u32 c),(10,i64 s.length),(9,i64 A.length)],
   [(0,some ⟨236,1,dE (pre++(s++A.drop s.length)++post)⟩)],1,40⟩:=rfl
structure GiveI (V A:List Nat)(x:List Nat×Nat):Prop where
 le:x.1.length≤A.length
 dig:∀d∈x.1,d< MB
 car:x.2≤1
 val:ofD MB x.1+MB^ x.1.length* x.2=ofD MB (A.take x.1.length)+ofD MB (V.take x.1.length)
theorem n0_ (pre A post V:List Nat) (D q:Nat) (cap:Option Nat) (hA:∀d∈A,d< MB) (hV:∀d∈V,d< MB) (hlen:V.length≤A.length) (hA2:A.length< 17592186044416) (hq:q≤1)
    (hD:D+MB^ A.length* q=ofD MB A+ofD MB V) (hD2:D< MB^ A.length):
    ESpec Tryz.prog 246 236 1 (dE (pre++A++post)) (dE (pre++padD MB A.length D++post)) pre.length A.length cap [.arr (dE V)] (.bool (q !=0)):=by
 refine ESpec.enter Tryz.func246 rfl (by kernel_rfl) rfl rfl rfl ?_ ?_ ?_ rfl ?_
 exact aa_ (bJ_ _) ab_
 exact a4_ _
 exact a4_ _
 refine r_z 1 ?_
 refine r_z 1 ?_
 refine ac_ (r_z 3 ?_)
 refine aD_ (gbS V A pre post cap) (fun x=>GiveI V A x∧x.1.length=A.length) ?_ ?_
 refine ah_ (aw_ (gbS V A pre post cap) (fun x=>A.length- x.1.length) (GiveI V A) ([],0) ⟨by simp,by simp,by simp,by simp[ofD]⟩ ?_ ?_)
 rw[jR_]
 exact s_e []
 rintro⟨s,c⟩ ⟨hle,hdig,hcar,hval⟩
 simp only at hle hdig hcar hval
 rw[jR_]
 refine r_z 1 ?_
 refine ac_ (aj_ rfl (fun h=>?_) (fun h=>?_))
 have hlt:s.length< A.length:=by have:=of_decide_eq_true h;omega
 obtain⟨x,hx⟩:∃x,A[s.length]?=some x:=⟨_,List.getElem?_eq_getElem hlt⟩
 have hx1:x< 1000000000:=hA x (List.mem_of_getElem? hx)
 have hg:(dE (pre++(s++A.drop s.length)++post))[pre.length+((s.length:Nat):Int).toNat]?=some [u32 x]:=by
  rw[Int.toNat_natCast,db_ hx];exact ct_ (rd_ rfl rfl)
 have hset:∀w:Nat,(dE (pre++(s++A.drop s.length)++post)).set (pre.length+((s.length:Nat):Int).toNat) [u32 w]=dE (pre++((s++[w])++A.drop (s++[w]).length)++post):=by
  intro w
  rw[Int.toNat_natCast,db_ hx,eu_,rc_ rfl rfl];simp
 refine ai_ (ac_ (ah_ (r_z 2 ?_)))
 refine s_r 7 ?_
 refine a_2 ?_
 first|refine aM_ (.index_l rfl rfl (by omega) (by omega) te_29.h) rfl rfl ?_|refine aM_ (.index_a rfl rfl (by omega) hg rfl te_29.h) rfl rfl ?_
 first|refine aM_ (.load_l1 rfl rfl hg tg_236.h rfl) rfl rfl ?_|refine aM_ (.load_a1 rfl hg tg_236.h rfl) rfl rfl ?_
 refine a_z ?_
 refine ac_ (r_z 4 ?_)
 refine aD_ (fun v:Nat=>⟨[(0,.lsl 0 pre.length A.length cap 1),(1,.arr (dE V)),(5,u32 c),(7,u32 v),(6,i64 s.length),(10,i64 s.length),(9,i64 A.length)],
  [(0,some ⟨236,1,dE (pre++(s++A.drop s.length)++post)⟩)],1,40⟩)
  (fun v=>v=x+c+(V[s.length]?.getD 0)∧v≤1999999999) ?_ ?_
 refine aj_ rfl (fun h=>?_) (fun h=>?_)
 have hlt2:s.length< V.length:=by have:=of_decide_eq_true h;simp at this;omega
 obtain⟨y,hy⟩:∃y,V[s.length]?=some y:=⟨_,List.getElem?_eq_getElem hlt2⟩
 have hy1:y< 1000000000:=hV y (List.mem_of_getElem? hy)
 have hy':(dE V)[((s.length:Nat):Int).toNat]?=some [u32 y]:=ct_ hy
 refine r_m 7 ?_
 refine a_3 ?_
 refine i_x hy' ?_
 refine l_1 hy' ?_
 refine a_z ?_
 refine⟨x+c+y,⟨by rw[hy];rfl,by omega⟩,?_⟩
 exact s_e []
 have hlt2:¬s.length< V.length:=by have:=of_decide_eq_false h;simp at this;omega
 refine ai_ ⟨x+c,⟨by rw[List.getElem?_eq_none (by omega)];rfl,by omega⟩,?_⟩
 exact s_e []
 rintro v ⟨hv,hv1⟩
 refine r_z 1 ?_
 refine ac_ (r_z 2 ?_)
 have hnext:∀w c',w+1000000000* c'=v→w< 1000000000→c'≤1→GiveI V A (s++[w],c'):=by
  intro w c' hw hwb hc'
  refine⟨by simp;omega,?_,hc',?_⟩
  intro d hd
  rcases List.mem_append.1 hd with hd|hd
  exact hdig d hd
  simp at hd;subst hd;exact hwb
  simp only[List.length_append,List.length_singleton]
  rw[dN_,bB_ _ hx,cz_,Nat.pow_succ]
  have e:MB^ s.length* (w+MB* c')=MB^ s.length* (x+c+(V[s.length]?.getD 0)):=by rw[←hv,←hw]
  simp only[Nat.mul_add] at e
  rw[←Nat.mul_assoc] at e
  omega
 refine aj_ rfl (fun h=>?_) (fun h=>?_)
 have hb:1000000000≤v:=by have:=of_decide_eq_true h;omega
 have hI:(v:Int)- 1000000000=((v- 1000000000:Nat):Int):=by omega
 refine r_m 4 ?_
 refine a_z ?_
 refine r_m 5 ?_
 refine a_4 ?_
 refine o_1n (.store rfl rfl hg rfl rfl rfl ts_236.h (nle rfl)) ?_
 refine ak_ ?_
 refine r_m 2 ?_
 refine a_z ?_
 refine⟨(s++[v- 1000000000],1),by simp;omega,hnext _ _ (by omega) (by omega) (Nat.le_refl _),?_⟩
 rw[jR_]
 refine at_ [] rfl rfl rfl au_r (fun hs=>au_f) (fun hs=>?_)
 ·repeat' (first|exact aq_|refine al_ rfl rfl rfl rfl ?_ ?_)
  all_goals (first|(refine aH_ hs ?_ (a4_ _);rw[hI];exact hset _)|exact au_e)
 have hb:v< 1000000000:=by have:=of_decide_eq_false h;omega
 refine ai_ (r_m 5 ?_)
 refine a_4 ?_
 refine o_1n (.store rfl rfl hg rfl rfl rfl ts_236.h (nle rfl)) ?_
 refine ak_ ?_
 refine r_m 2 ?_
 refine a_z ?_
 refine⟨(s++[v],0),by simp;omega,hnext _ _ (by omega) (by omega) (by omega),?_⟩
 rw[jR_]
 refine at_ [] rfl rfl rfl au_r (fun hs=>au_f) (fun hs=>?_)
 ·repeat' (first|exact aq_|refine al_ rfl rfl rfl rfl ?_ ?_)
  all_goals (first|(refine aH_ hs ?_ (a4_ _);exact hset _)|exact au_e)
 have hl:s.length=A.length:=by have:=of_decide_eq_false h;omega
 refine av_ ⟨(s,c),⟨⟨hle,hdig,hcar,hval⟩,hl⟩,?_⟩
 rw[jR_]
 exact s_e []
 rintro⟨s,c⟩ ⟨⟨hle,hdig,hcar,hval⟩,hl⟩
 simp only at hle hdig hcar hval hl
 rw[hl,List.take_length,List.take_of_length_le (by omega)] at hval
 have hs1:=dC_ hdig
 rw[hl] at hs1
 have hpos:0< MB^ A.length:=Nat.pow_pos (by decide)
 have hqq:c=q∧ofD MB s=D:=by
  rcases Nat.le_one_iff_eq_zero_or_eq_one.1 hq with rfl|rfl <;> rcases Nat.le_one_iff_eq_zero_or_eq_one.1 hcar with rfl|rfl <;> constructor <;> omega
 obtain⟨rfl,rfl⟩:=hqq
 rw[jR_]
 refine r_z 3 ?_
 refine ag_ (FinE.tmp rfl ?_ rfl ?_)
 congr 2
 rw[Bool.eq_iff_iff];simp
 rw[hl,List.drop_length,List.append_nil,←n1_ hdig hl rfl]
end Go.Proofs.YtdjfjpeoddmamaaGreatDoor
