/- Part O21 of the proof. -/
import Derived.Test.YtdjfjpeoddmamaaGreatDoorO20
set_option linter.all false
namespace Go.Proofs.YtdjfjpeoddmamaaGreatDoor
open Go.Abs
set_option maxRecDepth 20000
set_option maxHeartbeats 1000000
theorem qw_(q:List Rat)(h0:trimQ q≠[])(hl:q.length≤274877906944):FS 224 [.arr (pE q)] (i64 (sgI q)):=by
 have hd:¬degP q< 0:=fun e=>h0 (degP_neg.1 e);have hb:=hw_ (leadP q).num;refine f_c Tryz.func224 ?_;refine r_z 1 ?_;refine aa_ (r_c 4 (bC_ q (by omega)) ?_);refine a_z ?_;refine aj_ rfl (fun h=>?_) (fun h=>?_);have h1:degP q % 2=1:=by simpa using h
 refine r_c 5 (gD_ q (by omega)) ?_;refine c_s (bZ_ (leadP q)) ?_;refine a_z ?_;refine af_ (aJ_ rfl ?_ ?_);unfold sgI;rw[if_pos h1];rfl;exact ad_ _;have h1:¬degP q % 2=1:=by simpa using h
 refine ae_ (r_c 4 (gD_ q (by omega)) ?_);refine c_s (bZ_ (leadP q)) ?_;refine a_z ?_;refine af_ (aJ_ rfl ?_ ?_);unfold sgI;rw[if_neg h1];exact ad_ _
theorem sT_(f:Nat)(p:List Rat)(c:Cnt)(h:cn_ f p=some c)(hf:f≤1000000):FS 148 [.arr (pE p)] (kA c):=by
 unfold cn_ at h;obtain⟨s,hs,h2⟩:=Option.bind_eq_some_iff.1 h;obtain⟨ch,hch,h3⟩:=Option.bind_eq_some_iff.1 h2;split at h3
 case isFalse=>cases h3
 case isTrue hk=>
 cases h3;have hcs:=kx_ ch 224 [] sgI ah_ (fun q _=>sgI_abs q) hk.2.1 (fun q hq=>qw_ q (hk.1 q hq).1 (hk.1 q hq).2);refine f_c Tryz.func148 ?_;refine r_z 1 ?_;refine r_c 5 (lf_ f p s hs) ?_;refine a_z ?_;refine r_c 9 (fs_sturm f s ch hch hf) ?_;refine a_z ?_;refine r_c 9 (hcs) ?_;refine a_z ?_;refine r_z 2 ?_;exact af_ (Fin.tmpP rfl rfl rfl (nj_ _))
theorem fs_upto1(q:List Rat)(x:Rat)(h:ed_ q x):FS 225 [.arr (pE q),bQ x] (i64 (sgE x q)):=by
 refine f_c Tryz.func225 ?_;refine r_z 1 ?_;refine r_c 5 (ly_ q x h) ?_;refine c_s (bZ_ (evalP q x)) ?_;refine a_z ?_;exact af_ (t_e (ad_ _))
theorem sI_(c:Cnt)(x:Rat)(h:okUp c x):FS 149 [kA c,.agg (qC x)] (i64 (uptoV c x)):=by
 have hcs:=kx_ c.ch 225 [bQ x] (sgE x) (ab_ (c4_ x) ah_) (fun q _=>hw_ _) h.1.2.1 (fun q hq=>fs_upto1 q x (h.2 q hq));have hb:=ie_ (x:=x) h.1;unfold uptoV at hb⊢;refine f_c Tryz.func149 ?_;refine r_z 2 ?_;refine AWp.ent (st':=⟨[(0,kA c),(3,bQ x)],[],1,16⟩) ?_ ?_;exact s_e [];refine aa_ (r_d hmix 12 ?_);refine c_s (hcs) ?_;refine a_2 ?_;refine ai_ (n_k ?_);exact af_ (t_e (ad_ _))
theorem fs_below(c:Cnt)(x:Rat)(h:okBe c x):FS 150 [kA c,.agg (qC x)] (i64 (dS_ c x)):=by
 have hb:=ie_ (x:=x) h.1.1;refine f_c Tryz.func150 ?_;refine r_z 2 ?_;refine r_c 4 (sI_ c x h.1) ?_;refine a_z ?_;refine aQ_ (fun n:Int=>⟨[(5,i64 n)],[],1,20⟩) (fun n=>n=dS_ c x) ?_ ?_;refine aa_ (r_d hmix 8 ?_);refine c_s (ly_ c.p x h.2) ?_;refine c_s (bZ_ (evalP c.p x)) ?_;refine a_1 ?_;refine ai_ (n_k ?_);refine aj_ rfl (fun h1=>?_) (fun h1=>?_)
 have h0:evalP c.p x=0:=by
  have:sgZ (evalP c.p x).num=0:=by simpa using h1
  exact sgZ_num_eq.1 this
 refine r_m 3 ?_;refine a_z ?_;refine⟨uptoV c x- 1,by unfold dS_;rw[if_pos h0],?_⟩;exact s_e []
 have h0:evalP c.p x≠0:=by
  intro e;have:¬sgZ (evalP c.p x).num=0:=by simpa using h1
  exact this (sgZ_num_eq.2 e)
 refine ae_ ⟨uptoV c x,by unfold dS_;rw[if_neg h0],?_⟩;exact s_e [];rintro n rfl;refine r_z 2 ?_;exact af_ (t_e (ad_ _))

def okDown(c:Cnt)(step:Rat)(lo:Rat):Prop:=fE_ c.p∧trimQ c.p≠[]∧step≠0∧qs (aN_ c.p)+qs step≤549755813888∧qs lo+qs step≤549755813888∧okBe c (lo* step)
instance (c:Cnt) (step lo:Rat):Decidable (okDown c step lo):=inferInstanceAs (Decidable (_∧_∧_∧_∧_∧_))

def midV(s:Sp):Rat:=(s.1+s.2) * fineQ 1
def okNext(c:Cnt)(s:Sp):Prop:=smS s∧okBe c (midV s)
instance (c:Cnt) (s:Sp):Decidable (okNext c s):=inferInstanceAs (Decidable (_∧_))



def qSpan(a:Rat)(k:Int):Sp:=(downQ a (wi k 256),upQ a (wi k 256))
def okRange(p:List Rat)(s:Sp)(k:Int):Prop:=smS s∧ed_ p s.1∧ed_ p s.2∧smL p∧p.length≤274877906944∧cmpQ s.1 s.2≤0∧degP p≤40∧smS (qSpan (evalP p s.1) k)∧smS (qSpan (evalP p s.2) k)
instance (p:List Rat) (s:Sp) (k:Int):Decidable (okRange p s k):=inferInstanceAs (Decidable (_∧_∧_∧_∧_∧_∧_∧_∧_))
theorem ta_(p q:List Rat)(h:okDiv p q)(h0:trimQ q≠[]):FS 154 [.arr (pE p),.arr (pE q)] (.tup [.arr (pE (divP p q).1),.arr (pE (divP p q).2),i64 0]):=by
 have hl:=h.2.2;refine f_c Tryz.func154 ?_;refine r_z 3 ?_;refine aa_ (r_c 3 (bC_ q (by omega)) ?_);refine a_z ?_;refine aj_ rfl (fun h1=>?_) (fun h1=>?_);exact absurd (degP_neg.1 (by simpa using h1)) h0;refine ae_ (r_c 8 (fM_ p q (mxL p) (mxL q) (ch_ p) (ch_ q) (bX_ p) (bX_ q) h.1 h0 h.2.1 h.2.2) ?_);refine a_z ?_;refine r_z 5 ?_;refine af_ (Fin.many ⟨_,_,rfl,rfl,⟨_,_,rfl,rfl,⟨_,_,rfl,rfl,rfl⟩⟩⟩ (nle rfl) ?_);exact ag_ (an_ ar_ (aD_ _)) (ag_ (an_ ar_ (aD_ _)) (ag_ (an_ ar_ (ad_ _)) ao_))



def q7_:List Nat→AState
 |l=>⟨[(0,.arr (iE l))],[],1,15⟩
theorem eJ_(l:List Nat):q7_ l=⟨[(0,.arr (iE l))],[],1,15⟩:=rfl
theorem ey_(l:List Nat)(hl:l.length≤281474976710656):FS 258 [.arr (iE l)] (.arr (iE (dQ_ l))):=by
 refine f_c Tryz.func258 ?_;refine r_z 1 ?_;refine aQ_ q7_ (fun m=>m=dQ_ l) ?_ ?_;refine ac_ (ap_ q7_ (fun m=>m.length) (fun m=>m.length≤281474976710656∧dQ_ m=dQ_ l) l ⟨hl,rfl⟩ ?_ ?_);simp only[eJ_];exact s_e [];rintro m ⟨hm,he⟩;rw[eJ_];cases m with
 |nil=>
  refine aa_ (s_r 9 ?_);refine a_4 ?_;refine n_g rfl d_f ?_;refine n_g rfl d_f ?_;refine n_g rfl d_f ?_;refine n_g rfl d_f ?_;refine o_0 (.pickF rfl d_f rfl) ?_;refine ai_ ?_;refine cF ?_;refine am_ ⟨[],by simpa[dQ_] using he,?_⟩;simp only[eJ_];exact s_e []
 |cons d m=>
  have hd:(iE (d::m))[(0:Int).toNat]?=some [i64 d]:=rfl;refine aa_ (s_r 9 ?_);refine a_4 ?_;refine y_g rfl (by simp) (.move rfl) ?_
  first|refine y_g rfl (by simp) (.index_l rfl rfl (by omega) (by omega) te_38.h) ?_|refine y_g rfl (by simp) (.index_a rfl rfl (by omega) hd rfl te_38.h) ?_
  first|refine y_g rfl (by simp) (.load_l1 rfl rfl hd TG.h rfl) ?_|refine y_g rfl (by simp) (.load_a1 rfl hd TG.h rfl) ?_
  refine y_g rfl (by simp) (.bin rfl rfl aU_) ?_;refine o_0 (.pickT rfl (by simp) rfl) ?_;refine ai_ ?_;refine aj_ rfl (fun h=>?_) (fun h=>?_);have h0:d=0:=by simpa using h
  refine ae_ ?_;subst h0;refine ac_ (r_m 3 ?_);refine a_1 ?_;refine o_0 (.sa_l rfl rfl rfl (by simp) te_38.h (gC_ _)) ?_;refine a_z ?_;refine⟨m,by simp,⟨by simp at hm;omega,by simpa[dQ_] using he⟩,?_⟩;simp only[eJ_];exact s_e [];have h0:d≠0:=by simpa using h
  refine am_ ⟨d::m,by rw[←he];simp[dQ_,h0],?_⟩;simp only[eJ_];exact s_e []
 rintro m rfl;rw[eJ_];refine r_z 2 ?_;exact af_ (t_e (cR_ _))
theorem fK_(s:Int)(l:List Nat)(z:Int)(hl:l.length≤281474976710656)(hd:∀d∈l,d< UB)(hz:hv l=z.natAbs)(hs:z≠0→s=sgZ z):FS 207 [i64 s,.arr (iE l)] (.agg (zZ z)):=by
 refine f_c Tryz.func207 ?_;refine r_z 1 ?_;refine r_c 3 (ey_ l hl) ?_;refine a_z ?_;refine aa_ (r_z 3 ?_);refine aj_ rfl (fun h=>?_) (fun h=>?_)
 have h0:dQ_ l=[]:=by
  have:(dQ_ l).length=0:=by simpa using h
  exact List.length_eq_zero_iff.1 this
 have hz0:z=0:=by have:=(j1_ hd).1 h0;omega
 subst hz0;refine r_z 2 ?_;refine af_ (Fin.cell rfl rfl rfl TG.h TS.h (nle rfl) ?_);rw[qR_];exact Cv.agg (ag_ (an_ ar_ (ad_ _)) (ag_ (Cv.emp _) ao_));have h0:dQ_ l≠[]:=fun e=>by rw[e] at h;simp at h
 have hz0:z≠0:=by
  intro e;subst e;exact h0 ((j1_ hd).2 hz)
 refine ae_ (r_z 4 ?_);refine af_ (b4_ rfl rfl rfl TG.h TS.h (nle rfl) ?_ ?_);show AV.agg [i64 s,.arr (iE (dQ_ l))]=_;unfold zZ;rw[hs hz0,dj_ hd,hz];exact bt_ _
theorem zZ_neg(z:Int):zZ (-z)=[i64 (-sgZ z),.arr (iE (zd z.natAbs))]:=by
 unfold zZ;rw[Int.natAbs_neg];congr 2;unfold sgZ;split <;> split <;>(try split)<;>(try split)<;> omega
theorem bB_(z:Int):sgZ z= -1∧z< 0∨sgZ z=0∧z=0∨sgZ z=1∧0< z:=by
 unfold sgZ;split;right;left;exact⟨rfl,by assumption⟩;split;left;exact⟨rfl,by assumption⟩;right;right;exact⟨rfl,by omega⟩
theorem lv_(z:Int):FS 208 [.agg (zZ z)] (.agg (zZ (-z))):=by
 have hs:=bB_ z;have hc:=bt_ (-z);rw[zZ_neg] at hc⊢;refine f_c Tryz.func208 ?_;refine r_z 2 ?_;refine r_z 7 ?_;exact af_ (c_e (hc))
theorem zZ_abs(z:Int):zZ (z.natAbs:Int)=[i64 (sgZ z* sgZ z),.arr (iE (zd z.natAbs))]:=by
 unfold zZ;rw[Int.natAbs_natCast];congr 2;rcases bB_ z with⟨h,h'⟩|⟨h,h'⟩|⟨h,h'⟩<;> rcases bB_ (z.natAbs:Int) with⟨g,g'⟩|⟨g,g'⟩|⟨g,g'⟩<;> rw[h,g]<;> omega
theorem fs_ZAbs(z:Int):FS 294 [.agg (zZ z)] (.agg (zZ (z.natAbs:Int))):=by
 have hs:=bB_ z;have hm: -9223372036854775808≤sgZ z* sgZ z∧sgZ z* sgZ z≤9223372036854775807:=by rcases hs with⟨h,_⟩|⟨h,_⟩|⟨h,_⟩<;> rw[h]<;> decide
 have hc:=bt_ (z.natAbs:Int);rw[zZ_abs] at hc⊢;refine f_c Tryz.func294 ?_;refine r_z 2 ?_;refine s_r 9 ?_;refine a_4 ?_;refine o_0 (.bin rfl rfl (hm_ hm)) ?_;refine a_z ?_;exact af_ (c_e (hc))
theorem lt_(l:List Nat)(i:Nat)(hl:l.length≤281474976710656):FS 292 [.arr (iE l),i64 i] (i64 (l.reverse[i]?.getD 0:Nat)):=by
 refine f_c Tryz.func292 ?_;refine r_z 1 ?_;refine aa_ (r_z 4 ?_);refine aj_ rfl (fun h=>?_) (fun h=>?_);have hi:l.length≤i:=by simpa using h
 refine r_z 1 ?_;refine af_ (aJ_ rfl ?_ (ad_ _));rw[List.getElem?_eq_none (by simpa using hi)];rfl;have hi:i< l.length:=by simp at h;omega
 refine ae_ ?_;obtain⟨d,hd⟩:∃d,l[l.length- 1- i]?=some d:=⟨_,List.getElem?_eq_getElem (by omega)⟩;have hd':(iE l)[((l.length:Int)- 1- i).toNat]?=some [i64 d]:=by rw[show((l.length:Int)- 1- i).toNat=l.length- 1- i by omega];exact gr_ hd
 refine s_r 9 ?_;refine a_6 ?_;refine i_x hd' ?_;refine l_1 hd' ?_;refine a_z ?_;refine af_ (aJ_ rfl ?_ (ad_ _));rw[List.getElem?_reverse hi,hd];rfl
theorem qu_(a b:List Nat):FS 291 [.arr (iE a),.arr (iE b)] (i64 (max a.length b.length:Nat)):=by
 refine f_c Tryz.func291 ?_;refine r_z 1 ?_;refine aa_ (r_z 5 ?_);refine aj_ rfl (fun h=>?_) (fun h=>?_);refine r_z 3 ?_;refine af_ (aJ_ rfl ?_ (ad_ _));have:b.length< a.length:=by simpa using h
 simp[i64];omega;refine ae_ (r_z 3 ?_);refine af_ (aJ_ rfl ?_ (ad_ _));have:¬b.length< a.length:=by simpa using h
 simp[i64];omega
def tX_(a:Nat)(b:Nat):Nat→AState
 |i=>⟨[(0,.arr (iE (zd a))),(1,.arr (iE (zd b))),(5,i64 i)],[],1,40⟩
theorem oB_{n i d:Nat}(h:(digs UB n)[i]?=some d):(zd n)[(digs UB n).length- 1- i]?=some d:=by
 have hi:i< (digs UB n).length:=(List.getElem?_eq_some_iff.1 h).1;unfold zd;rw[List.getElem?_reverse (by omega),show(digs UB n).length- 1- ((digs UB n).length- 1- i)=i by omega];exact h
theorem pr_(a b:Nat)(ha:(zd a).length≤281474976710656)(hb:(zd b).length≤281474976710656):FS 257 [.arr (iE (zd a)),.arr (iE (zd b))] (i64 (cmpZ a b)):=by
 have hza:=by_ a;have hzb:=by_ b;refine f_c Tryz.func257 ?_;refine r_z 1 ?_;refine aa_ (r_z 5 ?_);refine aj_ rfl (fun h=>?_) (fun h=>?_);have hne:(zd a).length≠(zd b).length:=by simp at h;omega
 refine aa_ (r_z 5 ?_);refine aj_ rfl (fun h1=>?_) (fun h1=>?_);refine r_z 1 ?_;refine af_ (aJ_ rfl ?_ (ad_ _));have hl:(zd a).length< (zd b).length:=by simpa using h1
 rw[gH_];rfl;have:=eN_ (b:=UB) (by decide) (show(digs UB a).length< (digs UB b).length by omega);omega;refine ae_ (r_z 1 ?_);refine af_ (aJ_ rfl ?_ (ad_ _));have hl:(zd b).length< (zd a).length:=by simp at h1;omega
 rw[hM_];rfl;have:=eN_ (b:=UB) (by decide) (show(digs UB b).length< (digs UB a).length by omega);omega;have heq:(digs UB a).length=(digs UB b).length:=by simp at h;omega
 refine ae_ (aa_ (r_z 1 ?_));refine aw_ (tX_ a b) (fun _=>a=b) ?_ ?_;refine ac_ (ap_ (tX_ a b) (fun i=>(digs UB a).length- i) (fun i=>i≤(digs UB a).length∧(digs UB a).drop ((digs UB a).length- i)=(digs UB b).drop ((digs UB a).length- i)) 0 ⟨Nat.zero_le _,by rw[Nat.sub_zero,List.drop_length,heq,List.drop_length]⟩ ?_ ?_);simp only[tX_.eq_1];exact s_e [];rintro i ⟨hi,hd⟩;rw[tX_.eq_1];refine aa_ (r_z 4 ?_);refine aj_ rfl (fun h=>?_) (fun h=>?_);have hlt:i< (digs UB a).length:=by simp at h;omega
 obtain⟨k,hk⟩:∃k,k=(digs UB a).length- 1- i:=⟨_,rfl⟩;have hk1:(digs UB a).length- i=k+1:=by omega
 rw[hk1] at hd;obtain⟨x,hx⟩:∃x,(digs UB a)[k]?=some x:=⟨_,List.getElem?_eq_getElem (by omega)⟩;obtain⟨y,hy⟩:∃y,(digs UB b)[k]?=some y:=⟨_,List.getElem?_eq_getElem (by omega)⟩
 have hx':(iE (zd a))[((i:Nat):Int).toNat]?=some [i64 x]:=by
  have:=oB_ hx;rw[show(digs UB a).length- 1- k=i by omega] at this;exact gr_ this
 have hy':(iE (zd b))[((i:Nat):Int).toNat]?=some [i64 y]:=by
  have:=oB_ hy;rw[show(digs UB b).length- 1- k=i by omega] at this;exact gr_ this
 refine ae_ (aa_ (ac_ (aa_ (aa_ (r_d hmix 9 ?_)))));refine a_2 ?_;refine i_x hx' ?_;refine l_1 hx' ?_;refine a_2 ?_;refine i_x hy' ?_;refine l_1 hy' ?_;refine a_1 ?_;refine ai_ (n_k ?_);refine aj_ rfl (fun h1=>?_) (fun h1=>?_);refine r_z 1 ?_;refine af_ (aJ_ rfl ?_ (ad_ _));have hxy:x< y:=by simpa using h1
 have:=gV_ (fun d hd=>b6_ (by decide) a d hd) hx hy hd hxy;rw[aZ_ (by decide),aZ_ (by decide)] at this;rw[gH_ (by omega)];rfl;refine ae_ (aa_ (r_d hmix 9 ?_));refine a_2 ?_;refine i_x hx' ?_;refine l_1 hx' ?_;refine a_2 ?_;refine i_x hy' ?_;refine l_1 hy' ?_;refine a_1 ?_;refine ai_ (n_k ?_);refine aj_ rfl (fun h2=>?_) (fun h2=>?_);refine r_z 1 ?_;refine af_ (aJ_ rfl ?_ (ad_ _));have hxy:y< x:=by simpa using h2
 have:=gV_ (fun d hd=>b6_ (by decide) b d hd) hy hx hd.symm hxy;rw[aZ_ (by decide),aZ_ (by decide)] at this;rw[hM_ (by omega)];rfl;have hxy:x=y:=by simp at h1 h2;omega
 subst hxy;refine ae_ (r_m 3 ?_);refine a_z ?_;refine⟨i+1,by omega,⟨by omega,?_⟩,?_⟩;rw[show(digs UB a).length- (i+1)=k by omega,do_ hx,do_ hy,hd];simp only[tX_.eq_1];exact s_e [];have hge:i=(digs UB a).length:=by simp at h;omega
 refine am_ ⟨i,?_,?_⟩;subst hge;rw[Nat.sub_self,List.drop_zero,List.drop_zero] at hd;rw[←aZ_ (b:=UB) (by decide) a,←aZ_ (b:=UB) (by decide) b,hd];simp only[tX_.eq_1];exact s_e [];rintro i rfl;rw[tX_.eq_1];refine r_z 1 ?_;refine af_ (aJ_ rfl ?_ (ad_ _));rw[tD_ rfl];rfl
def bothS(a:Nat)(b:Nat)(k:Int)(N:Nat):List Nat×Int→AState
 |(s,c)=>⟨[(0,.arr (iE (zd a))),(1,.arr (iE (zd b))),(2,i64 k),(7,i64 N),(8,.lsl 1 0 N (some N) 1),(9,i64 c),(10,i64 s.length)],[(1,some ⟨3,1,iE (List.replicate (N- s.length) 0++s.reverse)⟩)],2,51⟩
def bothT(a:Nat)(b:Nat)(k:Int)(N:Nat)(s:List Nat):Int×Int→AState
 |(x,c)=>⟨[(0,.arr (iE (zd a))),(1,.arr (iE (zd b))),(2,i64 k),(7,i64 N),(8,.lsl 1 0 N (some N) 1),(9,i64 c),(10,i64 s.length),(11,i64 x)],[(1,some ⟨3,1,iE (List.replicate (N- s.length) 0++s.reverse)⟩)],2,51⟩
theorem jn_(a b:Nat)(k:Int)(r:Nat)(hk:k=1∨k= -1)(hr:(r:Int)=a+k* b)(ha:(zd a).length≤17592186044416)(hb:(zd b).length≤17592186044416):FS 256 [.arr (iE (zd a)),.arr (iE (zd b)),i64 k] (.arr (iE (zd r))):=by
 have hza:=by_ a;have hzb:=by_ b;obtain⟨N,hN⟩:∃N,N=max (zd a).length (zd b).length+1:=⟨_,rfl⟩;refine f_c Tryz.func256 ?_;refine r_z 1 ?_;refine r_c 5 (qu_ (zd a) (zd b)) ?_;refine a_z ?_;have hNI:((max (zd a).length (zd b).length:Nat):Int)+1=(N:Int):=by omega
 refine s_r 3 ?_;refine a_1 ?_;refine o_1 (.makeSlice (congrArg (fun z=>some (AV.v (.int .i64 z))) hNI) (congrArg (fun z=>some (AV.v (.int .i64 z))) hNI) te_38.h TZ.h rfl TB.h (by first|omega|(simp;done)|(simp;omega)) (by first|omega|(simp;done)|(simp;omega)) (by unfold maxLen;first|omega|(simp;done)|(simp;omega))) ?_;refine a_z ?_;refine r_z 1 ?_;refine aa_ (r_z 1 ?_)
 have hdl:=cC_ (b:=UB) (by decide) (n:=r) (k:=N) (by
  have h1:=dI_ (b:=UB) (b6_ (by decide) a);have h2:=dI_ (b:=UB) (b6_ (by decide) b);rw[aZ_ (by decide)] at h1 h2;have h3:UB^ (digs UB a).length≤UB^ (N- 1):=Nat.pow_le_pow_right (by decide) (by omega);have h4:UB^ (digs UB b).length≤UB^ (N- 1):=Nat.pow_le_pow_right (by decide) (by omega);have h5:UB^ N=UB^ (N- 1) * UB:=by rw[←Nat.pow_succ];congr 1;omega
  rw[h5];show r< UB^ (N- 1) * 32768;rcases hk with rfl|rfl <;> omega)
 have hrN:r< UB^ N:=by
  have h1:=dI_ (b:=UB) (b6_ (by decide) r);rw[aZ_ (by decide)] at h1;exact Nat.lt_of_lt_of_le h1 (Nat.pow_le_pow_right (by decide) hdl)
 refine aw_ (fun s:List Nat=>⟨[(8,.lsl 1 0 N (some N) 1)],[(1,some ⟨3,1,iE s.reverse⟩)],2,51⟩) (fun s=>s.length=N∧(∀d∈s,d< UB)∧ofD UB s=r) ?_ ?_;refine ac_ (ap_ (bothS a b k N) (fun x=>N- x.1.length) (fun x=>x.1.length≤N∧(∀d∈x.1,d< UB)∧(x.2= -1∨x.2=0∨x.2=1)∧((ofD UB x.1:Nat):Int)+((UB^ x.1.length:Nat):Int) * x.2=(ofD UB ((digs UB a).take x.1.length):Nat)+k* (ofD UB ((digs UB b).take x.1.length):Nat)) ([],0) ⟨by simp,by simp,by simp,by simp[ofD]⟩ ?_ ?_);simp only[bothS.eq_1];exact s_e [(1,8)];rintro⟨s,c⟩ ⟨hs,hd,hc,hval⟩;simp only at hs hd hc hval;simp only[bothS.eq_1];refine aa_ (r_z 3 ?_);refine aj_ rfl (fun h=>?_) (fun h=>?_);have hlt:s.length< N:=by simpa using h
 refine ae_ ?_;obtain⟨x,hx⟩:∃x,x=(digs UB a)[s.length]?.getD 0:=⟨_,rfl⟩;obtain⟨y,hy⟩:∃y,y=(digs UB b)[s.length]?.getD 0:=⟨_,rfl⟩
 have hx1:x< 32768:=by
  rw[hx];cases hh:(digs UB a)[s.length]? with
  |none=>decide
  |some d=>exact bu_ (by decide) hh
 have hy1:y< 32768:=by
  rw[hy];cases hh:(digs UB b)[s.length]? with
  |none=>decide
  |some d=>exact bu_ (by decide) hh
 have hda:=lt_ (zd a) s.length (by omega);have hdb:=lt_ (zd b) s.length (by omega);unfold zd at hda hdb;rw[List.reverse_reverse,←hx] at hda;rw[List.reverse_reverse,←hy] at hdb;have hky: -32768< k* y∧k* y< 32768:=by rcases hk with rfl|rfl <;> omega
 obtain⟨X,hX⟩:∃X:Int,X=x+k* y+c:=⟨_,rfl⟩;have hXr: -32768≤X∧X≤65536:=by omega
 refine aa_ (ac_ (r_c 12 (hda) ?_));refine c_s (hdb) ?_;refine a_z ?_;refine r_z 1 ?_;refine aQ_ (bothT a b k N s) (fun v=>v.1=(if X< 0 then X+32768 else X)∧v.2=(if X< 0 then -1 else 0)) ?_ ?_;refine r_z 2 ?_;refine aj_ rfl (fun h1=>?_) (fun h1=>?_);have hX0:X< 0:=by rw[hX];simpa using h1
 refine r_z 3 ?_;refine r_m 1 ?_;refine a_z ?_;refine⟨(X+32768,-1),⟨by rw[if_pos hX0],by rw[if_pos hX0]⟩,?_⟩;simp only[bothT.eq_1];exact s_x [] (fun hs=>e_31) (fun hs=>e_32) e_30;have hX0:¬X< 0:=by rw[hX];simpa using h1
 refine ae_ ⟨(X,0),⟨by rw[if_neg hX0],by rw[if_neg hX0]⟩,?_⟩;simp only[bothT.eq_1];exact s_x [] (fun hs=>e_31) (fun hs=>e_32) e_30;rintro⟨X1,c1⟩ ⟨hX1,hc1⟩;simp only at hX1 hc1;rw[bothT.eq_1];refine aQ_ (bothT a b k N s) (fun v=>v.1=X % 32768∧v.2=X/ 32768) ?_ ?_;refine r_z 2 ?_;refine aj_ rfl (fun h1=>?_) (fun h1=>?_);have h2:32768≤X1:=by simpa using h1
 have hX1r:X1≤65536:=by rw[hX1];split <;> omega
 refine r_z 3 ?_;refine r_m 1 ?_;refine a_z ?_;have hX0:¬X< 0:=by intro h0;rw[if_pos h0] at hX1;omega
 rw[if_neg hX0] at hX1;refine⟨(X1- 32768,1),⟨by simp only;omega,by simp only;omega⟩,?_⟩;simp only[bothT.eq_1];exact s_e []
 ·have h2:X1< 32768:=by simp at h1;omega
  refine ae_ ⟨(X1,c1),⟨by rw[hX1] at h2⊢;simp only;split <;> rename_i h3 <;> simp only[h3,if_true,if_false] at h2 <;> omega,by rw[hX1] at h2;rw[hc1];simp only;split <;> rename_i h3 <;> simp only[h3,if_true,if_false] at h2 <;> omega⟩,?_⟩;simp only[bothT.eq_1];exact s_e []
 rintro⟨X2,c2⟩ ⟨hX2,hc2⟩;simp only at hX2 hc2;rw[bothT.eq_1];obtain⟨d,hdX⟩:∃d:Nat,X2=d:=⟨X2.toNat,by omega⟩;have hd1:d< 32768:=by omega
 subst hdX;have hlen:(List.replicate (N- s.length) 0++s.reverse).length=N:=by simp;omega
 have hrep:List.replicate (N- s.length) 0=List.replicate (N- (s.length+1)) 0++[0]:=by
  rw[show N- s.length=(N- (s.length+1))+1 by omega,List.replicate_succ']
 have hget:(iE (List.replicate (N- s.length) 0++s.reverse))[0+((N:Int)- 1- s.length).toNat]?=some [i64 0]:=by
  rw[show 0+((N:Int)- 1- s.length).toNat=N- (s.length+1) by omega];refine gr_ ?_;rw[hrep,List.append_assoc];exact jg_ _ _ _ _ (by simp)
 have hset:(iE (List.replicate (N- s.length) 0++s.reverse)).set (0+((N:Int)- 1- s.length).toNat) [i64 d]=iE (List.replicate (N- (s++[d]).length) 0++(s++[d]).reverse):=by
  rw[show 0+((N:Int)- 1- s.length).toNat=N- (s.length+1) by omega,jb_,hrep,List.append_assoc];simp only[List.singleton_append,List.length_append,List.length_cons,List.length_nil,List.reverse_append,List.reverse_cons,List.reverse_nil,List.nil_append];rw[iH_ _ _ _ _ _ (by simp)];simp
 refine r_m 8 ?_;refine a_7 ?_;refine o_1n (.store rfl rfl hget rfl rfl rfl TS.h (nle rfl)) ?_;refine ai_ ?_;refine r_m 3 ?_;refine a_z ?_;refine⟨(s++[d],c2),by simp;omega,⟨by simp;omega,?_,by simp only;omega,?_⟩,?_⟩;intro e he;rcases List.mem_append.1 he with he|he
 exact hd e he;simp at he;subst he;exact hd1;simp only[List.length_append,List.length_cons,List.length_nil,Nat.zero_add];rw[dV_,cA_,cA_,←hx,←hy,Nat.pow_succ];obtain⟨B,hB⟩:∃B,B=UB^ s.length:=⟨_,rfl⟩;rw[←hB] at hval⊢;have hXX:X=32768* c2+d:=by omega
 have hBX:(B:Int) * X=B* x+k* (B* y)+B* c:=by
  rw[hX,Int.mul_add,Int.mul_add,Int.mul_left_comm]
 rw[hXX,Int.mul_add] at hBX;have e1:((B* 32768:Nat):Int) * c2=B* (32768* c2):=by rw[Int.natCast_mul,Int.mul_assoc];rfl
 have e2:k* ((ofD UB ((digs UB b).take s.length)+B* y:Nat):Int)=k* (ofD UB ((digs UB b).take s.length):Nat)+k* (B* y):=by
  rw[Int.natCast_add,Int.mul_add,Int.natCast_mul]
 show((ofD UB s+B* d:Nat):Int)+((B* 32768:Nat):Int) * c2=_;rw[e1,e2,Int.natCast_add,Int.natCast_add,Int.natCast_mul,Int.natCast_mul];omega;simp only[bothS.eq_1];refine s_x [] (fun hs=>au_f) (fun hs=>?_) e_33
 ·repeat' (first|exact az_|refine h_c ?_ ?_|exact aC_ hs hset (b3_ _)|exact au_e)
 have hge:s.length=N:=by simp at h;omega
 refine am_ ⟨s,⟨hge,hd,?_⟩,?_⟩;rw[hge,List.take_of_length_le (by omega),List.take_of_length_le (by omega),aZ_ (by decide),aZ_ (by decide),←hr] at hval;have hsl:=dI_ hd;rw[hge] at hsl;obtain⟨B,hB⟩:∃B,B=UB^ N:=⟨_,rfl⟩;rw[←hB] at hval hsl hrN;rcases hc with rfl|rfl|rfl <;> omega
 have e:iE (List.replicate (N- s.length) 0++s.reverse)=iE s.reverse:=by rw[hge];simp
 refine s_x [] (fun hs=>au_f) (fun hs=>e_34) ?_
 ·repeat' (first|exact ShrL.nil|refine ShrL.cons rfl rfl rfl rfl (by first|(exact congrArg List.length e)|rfl|(simp;done)|(simp <;> omega)) ?_)
 rintro s ⟨hs,hd,hval⟩;have hd':∀d∈s.reverse,d< UB:=fun d h=>hd d (List.mem_reverse.1 h);have hst:=ey_ s.reverse (by simp;omega);rw[dj_ hd',show hv s.reverse=r by unfold hv;rw[List.reverse_reverse];assumption] at hst;have hfull:((iE s.reverse).drop 0).take N=iE s.reverse:=by rw[List.drop_zero,List.take_of_length_le (by simp;omega)]
 refine s_r 3 ?_;refine a_1 ?_;refine o_1 (.callS1 rfl rfl rfl (.shut rfl d_n (.nil)) rfl ((by rw[hfull];exact hst))) ?_;refine a_z ?_;exact af_ (t_e (cR_ _))
def zl(z:Int):Prop:=bl z.natAbs≤8796093022208
theorem oA_{z:Int}(h:zl z):(zd z.natAbs).length≤17592186044416:=by
 have:=aX_ (b:=UB) (by decide) z.natAbs;rw[by_];unfold zl at h;omega
theorem md_{x y:Int}(h:sgZ x=sgZ y)(hx:x≠0):(x+y).natAbs=x.natAbs+y.natAbs∧(x+y≠0→sgZ x=sgZ (x+y)):=by
 rcases bB_ x with⟨a,b⟩|⟨a,b⟩|⟨a,b⟩<;> rcases bB_ y with⟨c,d⟩|⟨c,d⟩|⟨c,d⟩<;> rcases bB_ (x+y) with⟨e,f⟩|⟨e,f⟩|⟨e,f⟩<;> rw[a,c] at h <;> rw[a,e]<;> first|omega|(constructor <;> omega)
theorem j8_{x y:Int}(h:sgZ x≠sgZ y)(hx:x≠0)(hy:y≠0)(hg:y.natAbs≤x.natAbs):(x+y).natAbs=x.natAbs- y.natAbs∧(x+y≠0→sgZ x=sgZ (x+y)):=by
 rcases bB_ x with⟨a,b⟩|⟨a,b⟩|⟨a,b⟩<;> rcases bB_ y with⟨c,d⟩|⟨c,d⟩|⟨c,d⟩<;> rcases bB_ (x+y) with⟨e,f⟩|⟨e,f⟩|⟨e,f⟩<;> rw[a,c] at h <;> rw[a,e]<;> first|omega|(constructor <;> omega)
theorem sY_(x y:Int)(hx:zl x)(hy:zl y):FS 205 [.agg (zZ x),.agg (zZ y)] (.agg (zZ (x+y))):=by
 have hlx:=oA_ hx;have hly:=oA_ hy
 have bound:∀r:Nat,r≤x.natAbs+y.natAbs→(zd r).length≤281474976710656:=by
  intro r hr;have h1:=aX_ (b:=UB) (by decide) r;have h2:=b0_ hr;have h3:=tR_ x.natAbs y.natAbs;unfold zl at hx hy;rw[by_];omega
 refine f_c Tryz.func205 ?_;refine r_z 3 ?_;refine aa_ (r_z 3 ?_);refine aj_ rfl (fun h=>?_) (fun h=>?_)
 have h0:x=0:=by
  have:sgZ x=0:=by simpa using h
  rcases bB_ x with⟨a,b⟩|⟨a,b⟩|⟨a,b⟩<;> omega
 refine r_z 2 ?_;refine af_ (b4_ rfl rfl rfl TG.h TS.h (nle rfl) ?_ ?_);rw[h0,Int.zero_add];rfl;exact bt_ _;have hx0:x≠0:=by rintro rfl;simp[sgZ] at h
 refine ae_ (aa_ (r_z 3 ?_));refine aj_ rfl (fun h1=>?_) (fun h1=>?_)
 have h0:y=0:=by
  have:sgZ y=0:=by simpa using h1
  rcases bB_ y with⟨a,b⟩|⟨a,b⟩|⟨a,b⟩<;> omega
 refine r_z 2 ?_;refine af_ (b4_ rfl rfl rfl TG.h TS.h (nle rfl) ?_ ?_);rw[h0,Int.add_zero];rfl;exact bt_ _;have hy0:y≠0:=by rintro rfl;simp[sgZ] at h1
 refine ae_ (aa_ (r_z 5 ?_));refine aj_ rfl (fun h2=>?_) (fun h2=>?_);have hs:sgZ x=sgZ y:=by simpa using h2
 obtain⟨e1,e2⟩:=md_ hs hx0;refine aa_ (r_d hmix 9 ?_);refine c_s (jn_ x.natAbs y.natAbs 1 (x.natAbs+y.natAbs) (.inl rfl) (by omega) hlx hly) ?_;refine c_s (fK_ (sgZ x) (zd (x.natAbs+y.natAbs)) (x+y) (bound _ (Nat.le_refl _)) (zd_lt _) (by rw[hv_zd,e1]) e2) ?_;refine a_1 ?_;refine ai_ (n_k ?_);exact af_ (c_e (bt_ _));have hs:sgZ x≠sgZ y:=by simpa using h2
 refine ae_ (aa_ (r_c 6 (pr_ x.natAbs y.natAbs (by omega) (by omega)) ?_));refine a_z ?_;refine aj_ rfl (fun h3=>?_) (fun h3=>?_)
 have hge:y.natAbs≤x.natAbs:=by
  have:=of_decide_eq_true h3;unfold cmpZ at this;split at this;omega;omega
 obtain⟨e1,e2⟩:=j8_ hs hx0 hy0 hge;refine aa_ (r_d hmix 9 ?_);refine c_s (jn_ x.natAbs y.natAbs (-1) (x.natAbs- y.natAbs) (.inr rfl) (by omega) hlx hly) ?_;refine c_s (fK_ (sgZ x) (zd (x.natAbs- y.natAbs)) (x+y) (bound _ (by omega)) (zd_lt _) (by rw[hv_zd,e1]) e2) ?_;refine a_1 ?_;refine ai_ (n_k ?_);exact af_ (c_e (bt_ _))
 have hlt:x.natAbs≤y.natAbs:=by
  have:=of_decide_eq_false h3;unfold cmpZ at this;split at this;omega;split at this <;> omega
 obtain⟨e1,e2⟩:=j8_ (fun h=>hs h.symm) hy0 hx0 hlt;rw[Int.add_comm] at e1 e2;refine ae_ (aa_ (r_d hmix 9 ?_));refine c_s (jn_ y.natAbs x.natAbs (-1) (y.natAbs- x.natAbs) (.inr rfl) (by omega) hly hlx) ?_;refine c_s (fK_ (sgZ y) (zd (y.natAbs- x.natAbs)) (x+y) (bound _ (by omega)) (zd_lt _) (by rw[hv_zd,e1]) e2) ?_;refine a_1 ?_;refine ai_ (n_k ?_);exact af_ (c_e (bt_ _))
theorem zl_neg{z:Int}(h:zl z):zl (-z):=by unfold zl at *;rwa[Int.natAbs_neg]
theorem fs_ZSub(x y:Int)(hx:zl x)(hy:zl y):FS 206 [.agg (zZ x),.agg (zZ y)] (.agg (zZ (x- y))):=by
 have hs:=sY_ x (-y) hx (zl_neg hy);rw[←Int.sub_eq_add_neg] at hs;refine f_c Tryz.func206 ?_;refine r_z 3 ?_;refine aa_ (r_d hmix 5 ?_);refine c_s (lv_ y) ?_;refine c_s (hs) ?_;refine a_1 ?_;refine ai_ (n_k ?_);exact af_ (c_e (bt_ _))
theorem fs_ZCmp(x y:Int)(hx:zl x)(hy:zl y):FS 124 [.agg (zZ x),.agg (zZ y)] (i64 (cmpZ x y)):=by
 have e:cmpZ x y=sgZ (x- y):=by
  unfold cmpZ sgZ;split <;> split <;>(try split)<;>(try split)<;> omega
 rw[e];refine f_c Tryz.func124 ?_;refine r_z 3 ?_;refine r_c 5 (fs_ZSub x y hx hy) ?_;refine a_z ?_;exact af_ (t_e (ad_ _))
def rf_(l:List Nat):Nat→AState
 |i=>⟨[(0,.arr (iE l)),(3,i64 (hv (l.take i))),(4,i64 i)],[],1,19⟩
theorem qr_{l:List Nat}(hd:∀d∈l,d< UB)(hl:l.length≤4)(i:Nat):hv (l.take i)< 1152921504606846976:=by
 have h1:=hv_lt (l:=l.take i) fun d h=>hd d (List.mem_of_mem_take h);have h2:(l.take i).length≤4:=by rw[List.length_take];omega
 exact Nat.lt_of_lt_of_le h1 (Nat.pow_le_pow_right (by decide) h2)
theorem lg_(l:List Nat)(hl:l.length≤4)(hd:∀d∈l,d< UB):FS 254 [.arr (iE l)] (i64 (hv l)):=by
 refine f_c Tryz.func254 ?_;refine r_z 1 ?_;refine r_z 1 ?_;refine aa_ (r_z 1 ?_);refine aw_ (rf_ l) (fun i=>i=l.length) ?_ ?_;refine ac_ (ap_ (rf_ l) (fun i=>l.length- i) (fun i=>i≤l.length) 0 (Nat.zero_le _) ?_ ?_);simp only[rf_.eq_1];exact s_e [];intro i hi;rw[rf_.eq_1];refine aa_ (r_z 4 ?_);refine aj_ rfl (fun h=>?_) (fun h=>?_);have hlt:i< l.length:=by simpa using h
 obtain⟨d,hdi⟩:∃d,l[i]?=some d:=⟨_,List.getElem?_eq_getElem hlt⟩;have hd1:=hd d (List.mem_of_getElem? hdi);have hdi':(iE l)[((i:Nat):Int).toNat]?=some [i64 d]:=gr_ hdi;have hsn:=jd_ (l.take i) d;rw[←cv_ hdi] at hsn;have hb:=qr_ hd hl (i+1);obtain⟨V,hV⟩:∃V,V=hv (l.take i):=⟨_,rfl⟩;rw[←hV] at hsn⊢;have hsn':hv (l.take (i+1))=V* 32768+d:=hsn;refine ae_ (aa_ (ac_ (r_m 8 ?_)));refine a_4 ?_;refine i_x hdi' ?_;refine l_1 hdi' ?_;refine a_z ?_;refine r_m 3 ?_;refine a_z ?_;refine⟨i+1,by omega,hlt,?_⟩;simp only[rf_.eq_1];refine s_x [] (fun hs=>?_) (fun hs=>?_) ?_
 ·repeat' (first|exact a2_|refine aH_ rfl ?_ ?_|exact au_c|(refine Cv.loE hs ?_ (ad_ _);first|rfl|(simp[i64,u64,u32,bln,hsn'];done)|(simp[i64,u64,u32,bln,hsn']<;> omega)))
 ·repeat' (first|exact az_|refine h_c ?_ ?_|exact au_e|(refine aC_ hs ?_ (b3_ _);first|(simp[jb_,g1_,ew_,hsn'];done)|(simp[iE,i64,ofV,hsn'];done))|refine al_ ?_|exact ao_|refine ag_ ?_ ?_|exact au_c|(refine Cv.loE hs ?_ (ad_ _);first|(simp[i64,u64,u32,bln,hsn'];done)|(simp[i64,u64,u32,bln,hsn']<;> omega)))
 ·repeat' (first|exact ShrL.nil|refine ShrL.cons rfl rfl rfl rfl (by first|rfl|(simp;done)|(simp[hsn']<;> omega)) ?_)
 have hge:i=l.length:=by simp at h;omega
 refine am_ ⟨i,hge,?_⟩;exact s_e [];rintro i rfl;rw[rf_.eq_1,List.take_length];refine r_z 2 ?_;refine af_ (aJ_ rfl rfl (ad_ _))
def zintS(s:Int):Int×List Nat→AState
 |(n,l)=>⟨[(0,i64 n),(2,.lptr 1 0 0),(3,i64 s),(4,.arr (iE l))],[(1,some ⟨40,2,[[i64 0,.emp]]⟩)],2,25⟩
theorem eG_(n:Int)(h: -9223372036854775808≤n∧n≤9223372036854775807):FS 202 [i64 n] (.agg (zZ n)):=by
 obtain⟨s,hs⟩:∃s:Int,s=if n< 0 then -1 else 1:=⟨_,rfl⟩
 have hsz:n≠0→s=sgZ n:=by
  intro h0;rw[hs];unfold sgZ;rw[if_neg h0]
 refine f_c Tryz.func202 ?_;refine r_z 1 ?_;refine r_z 1 ?_;refine aQ_ (fun _:Unit=>⟨[(0,i64 n),(2,.lptr 1 0 0),(3,i64 s)],[(1,some ⟨40,2,[[i64 0,.emp]]⟩)],2,25⟩) (fun _=>True) ?_ ?_;refine r_z 2 ?_;refine aj_ rfl (fun h1=>?_) (fun h1=>?_);have hn:n< 0:=by simpa using h1
 rw[hs,if_pos hn];refine r_m 1 ?_;refine a_z ?_;refine⟨(),trivial,?_⟩;exact s_e [];have hn:¬n< 0:=by simpa using h1
 rw[hs,if_neg hn];refine ae_ ⟨(),trivial,?_⟩;exact s_e [];rintro _ _;refine r_z 1 ?_;refine aQ_ (fun l:List Nat=>zintS s (0,l)) (fun l=>l.length≤10∧(∀d∈l,d< UB)∧hv l=n.natAbs) ?_ ?_;refine ac_ (ap_ (zintS s) (fun x=>x.1.natAbs) (fun x=>(-9223372036854775808≤x.1∧x.1≤9223372036854775807)∧(∀d∈x.2,d< UB)∧n.natAbs=hv x.2+UB^ x.2.length* x.1.natAbs∧x.2.length≤5) (n,[]) ⟨h,by simp,by simp[mD_],by simp⟩ ?_ ?_);simp only[zintS.eq_1];exact s_e [(1,2)];rintro⟨m,l⟩ ⟨hm,hd,hval,hl6⟩;simp only at hm hd hval hl6;rw[zintS.eq_1];refine aa_ (r_z 2 ?_);refine aj_ rfl (fun h=>?_) (fun h=>?_)
 ·have hm0:m≠0:=by simpa using h
  have hl:l.length≤4:=by
   refine Nat.le_of_not_lt fun h5=>?_;have h6:UB^ 5≤UB^ l.length:=Nat.pow_le_pow_right (by decide) h5;have h7:UB^ l.length* 1≤UB^ l.length* m.natAbs:=Nat.mul_le_mul_left _ (by omega);have h8:UB^ 5=37778931862957161709568:=by decide
   omega
  obtain⟨d,hdm⟩:∃d,d=m.natAbs % 32768:=⟨_,rfl⟩;have hd1:d< 32768:=by omega
  have hr:(m.tmod 32768).natAbs=d:=by rw[Int.natAbs_tmod,hdm];rfl
  have hq:(m.tdiv 32768).natAbs=m.natAbs/ 32768:=by rw[Int.natAbs_tdiv];rfl
  have hlq:m.natAbs/ 32768< m.natAbs:=Nat.div_lt_self (by omega) (by decide);have hdm2:=Nat.div_add_mod m.natAbs 32768;refine ae_ (ac_ (s_r 3 ?_));refine a_1 ?_;refine o_0 (.bin rfl rfl (tV_ (by decide))) ?_;refine a_z ?_;refine aQ_ (fun _:Unit=>⟨[(0,i64 m),(2,.lptr 1 0 0),(3,i64 s),(4,.arr (iE l)),(5,i64 d)],[(1,some ⟨40,2,[[i64 0,.emp]]⟩)],2,25⟩) (fun _=>True) ?_ ?_;refine r_z 2 ?_;refine aj_ rfl (fun h1=>?_) (fun h1=>?_);have hneg:m.tmod 32768< 0:=by simpa using h1
  refine r_m 3 ?_;refine a_z ?_;have e: -m.tmod 32768=d:=by omega
  refine⟨(),trivial,?_⟩;have:=(congrArg (fun z=>AV.v (.int .i64 z)) e);exact s_f [];have hneg:¬m.tmod 32768< 0:=by simpa using h1
  have e:m.tmod 32768=d:=by omega
  refine ae_ ⟨(),trivial,?_⟩;have:=(congrArg (fun z=>AV.v (.int .i64 z)) e);exact s_f [];rintro _ _;refine s_r 5 ?_;refine a_3 ?_;refine o_2 (.append_l rfl rfl rfl te_38.h rfl rfl rfl rfl rfl d_o (by first|exact cK_ _|exact cH_ _|exact cr_ _|exact cL_ _|exact cy_ _|assumption|rfl|simp) (by first|rfl|exact cK_ _|exact cH_ _|exact cr_ _|exact cL_ _|exact cy_ _|simp) rfl (.arr (gC_ _)) TZ.h rfl TB.h d_o (by first|(simp[maxLen];done)|(simp[maxLen];omega))) ?_;refine a_z ?_;refine r_m 3 ?_;refine a_1 ?_;refine o_0 (.bin rfl rfl (jM_ (by decide) (by omega))) ?_;refine a_z ?_;refine⟨(m.tdiv 32768,d::l),by simp only;omega,⟨by simp only;omega,?_,?_,by simp;omega⟩,?_⟩;intro e he;rcases List.mem_cons.1 he with rfl|he
  exact hd1;exact hd e he;simp only[je_,List.length_cons];rw[hval,hq,Nat.pow_succ,Nat.mul_assoc,Nat.add_assoc,←Nat.mul_add];congr 2;show m.natAbs=d+32768* (m.natAbs/ 32768);omega;simp only[zintS.eq_1];have e:[[i64 d]]++iE l=iE (d::l):=rfl;refine s_x [] (fun hs=>?_) (fun hs=>?_)
  ·repeat' (first|exact a2_|refine aH_ rfl ?_ ?_|exact Cv.sealE hs rfl (aW_ rfl) e (by simp;omega) (b3_ _)|exact au_c)
  ·repeat' (first|exact az_|refine h_c ?_ ?_|exact au_e|refine al_ ?_|exact ao_|refine ag_ ?_ ?_|exact Cv.sealE hs rfl (aW_ rfl) e (by simp;omega) (b3_ _)|exact au_c)
 have hm0:m=0:=by simpa using h
 subst hm0;refine am_ ⟨l,⟨by omega,hd,by simpa using hval.symm⟩,?_⟩;simp only[zintS.eq_1];exact s_e [];rintro l ⟨hl,hd,hval⟩;rw[zintS.eq_1];refine r_c 4 (fK_ s l n (by omega) hd hval hsz) ?_;refine a_z ?_;exact af_ (c_e (bt_ _))
end Go.Proofs.YtdjfjpeoddmamaaGreatDoor
