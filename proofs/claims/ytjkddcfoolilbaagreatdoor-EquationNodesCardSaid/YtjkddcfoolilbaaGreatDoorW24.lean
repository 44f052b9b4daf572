/- Part W24 of the proof. -/
import Derived.Test.YtjkddcfoolilbaaGreatDoorW23
set_option linter.all false
namespace Go.Proofs.YtjkddcfoolilbaaGreatDoor
open Go.Abs
set_option maxRecDepth 20000
set_option maxHeartbeats 1000000
def hullS(a b:Sp):Sp:=(minL [a.1,b.1],maxL [a.2,b.2])
def qSpan(a:Rat)(k:Int):Sp:=(downQ a (wi k 256),upQ a (wi k 256))
def rlM(f g:Nat)(c:Cnt)(p:List Rat)(k:Int)(up:Int):Nat→Int→Sp→Option Sp
 |0,_,_=>none
 |n+1,i,o=>if i< up then(p3_ f g c i p k).bind fun v=>if smS o∧smS v then rlM f g c p k up n (i+1) (hullS o v) else none else some o
def qR_(p:List Rat)(s:Sp)(k:Int):Prop:=smS s∧cO_ p s.1∧cO_ p s.2∧smL p∧p.length≤274877906944∧cmpQ s.1 s.2≤0∧degP p≤40∧smS (qSpan (evalP p s.1) k)∧smS (qSpan (evalP p s.2) k)
instance (p:List Rat) (s:Sp) (k:Int):Decidable (qR_ p s k):=inferInstanceAs (Decidable (_∧_∧_∧_∧_∧_∧_∧_∧_))
def nW_(f g:Nat)(p:List Rat)(s:Sp)(k:Int):Option Sp:=
 if qR_ p s k then
  if degP (cq_ p)< 0 then some (hullS (qSpan (evalP p s.1) k) (qSpan (evalP p s.2) k))
  else(eJ_ f (cq_ p)).bind fun c=>if okBe c s.1∧okUp c s.2 then rlM f g c p k (uptoV c s.2) g (cy_ c s.1) (hullS (qSpan (evalP p s.1) k) (qSpan (evalP p s.2) k)) else none
 else none
def rgS(p:List Rat)(s:Sp)(k:Int)(c:Cnt):Int×Sp→AState
 |(i,o)=>⟨[(0,.arr (pE p)),(2,i64 k),(4,bS s),(6,.lptr 1 0 0),(8,.lptr 2 0 0),(10,kA c),(11,i64 i)],[(1,some ⟨74,6,[zC++zC]⟩),(2,some ⟨74,6,[spC o.1 o.2]⟩)],3,66⟩
theorem ou_(f g:Nat)(p:List Rat)(s:Sp)(k:Int)(r:Sp)(h:nW_ f g p s k=some r)(hf:f≤1000000):FS 154 [.arr (pE p),.agg (spC s.1 s.2),i64 k] (.tup [.agg (spC r.1 r.2),i64 0]):=by
 unfold nW_ at h;split at h
 case isFalse=>cases h
 case isTrue hk=>
 obtain⟨k1,k2,k3,k4,k5,k6,k7,k8,k9⟩:=hk;have hdl:=f1_ p;obtain⟨o0,ho⟩:∃o,o=hullS (qSpan (evalP p s.1) k) (qSpan (evalP p s.2) k):=⟨_,rfl⟩;have hhu:=ot_ (qSpan (evalP p s.1) k).1 (qSpan (evalP p s.1) k).2 (qSpan (evalP p s.2) k).1 (qSpan (evalP p s.2) k).2 k8.1 k8.2 k9.1 k9.2;rw[←ho] at h;have hhu':FS 188 [.agg (spC (qSpan (evalP p s.1) k).1 (qSpan (evalP p s.1) k).2),.agg (spC (qSpan (evalP p s.2) k).1 (qSpan (evalP p s.2) k).2)] (.agg (spC o0.1 o0.2)):=by rw[ho];exact hhu
 refine f_c Tryz.func154 ?_;refine r_z 3 ?_;refine aQ_ (fun _:Unit=>⟨[(0,.arr (pE p)),(2,i64 k),(4,bS s),(6,.lptr 1 0 0)],[(1,some ⟨74,6,[zC++zC]⟩)],2,66⟩) (fun _=>True) ?_ ?_;refine af_ (r_c 4 (gn_ s.1 s.2 k1.1 k1.2) ?_);refine a_z ?_;refine aj_ rfl (fun h1=>?_) (fun h1=>?_);exact absurd h1 (by simp[k6]);refine r_c 4 (b7_ p (by omega)) ?_;refine a_z ?_;refine aj_ rfl (fun h2=>?_) (fun h2=>?_);exact absurd h2 (by simp;omega);refine ah_ ⟨(),trivial,?_⟩;exact s_e [(1,6)];rintro _ _;refine ab_ (r_d hmix 15 ?_);refine c_s (dU_ p s.1 k2) ?_;refine c_s (ov_ (evalP p s.1) k (kV_ k2)) ?_;refine c_s (dU_ p s.2 k3) ?_;refine c_s (ov_ (evalP p s.2) k (kV_ k3)) ?_;refine c_s (hhu') ?_;refine a_2 ?_;refine ak_ (n_k ?_);refine ab_ (r_c 3 (iZ_ p k4 (by omega)) ?_);refine a_z ?_;refine r_c 3 (b7_ (cq_ p) (by omega)) ?_;refine a_z ?_;refine av_ (fun _:Unit=>⟨[(6,.lptr 1 0 0),(8,.lptr 2 0 0)],[(1,some ⟨74,6,[zC++zC]⟩),(2,some ⟨74,6,[spC r.1 r.2]⟩)],3,66⟩) (fun _=>True) ?_ ?_;refine aj_ rfl (fun h3=>?_) (fun h3=>?_)
 ·have h4:¬degP (cq_ p)< 0:=by
   have:0≤degP (cq_ p):=by simpa using h3
   omega
  rw[if_neg h4] at h;obtain⟨c,hc,h5⟩:=Option.bind_eq_some_iff.1 h;split at h5
  case isFalse=>cases h5
  case isTrue hb=>
  refine r_c 3 (iT_ f (cq_ p) c hc hf) ?_;refine a_z ?_;refine r_c 5 (fl_ c s.1 hb.1) ?_;refine a_z ?_;have hub:=hI_ (x:=s.2) hb.2.1;have hbb:=sy_ (x:=s.1) hb.1.1.1;refine af_ (aq_ (fun x:Nat×Int×Sp=>rgS p s k c x.2) (fun x=>x.1) (fun x=>rlM f g c p k (uptoV c s.2) x.1 x.2.1 x.2.2=some r∧ -4611686018427387904≤x.2.1) (g,cy_ c s.1,o0) ⟨h5,by simp only;omega⟩ ?_ ?_);simp only[rgS.eq_1];exact s_e [(2,8)];rintro⟨n,i,o⟩ ⟨hrl,hil⟩;simp only at hrl hil;simp only[rgS.eq_1];cases n with
  |zero=>cases hrl
  |succ n=>
   rw[rlM] at hrl;refine ab_ (r_c 6 (gT_ c s.2 hb.2) ?_);refine a_z ?_;refine aj_ rfl (fun h6=>?_) (fun h6=>?_)
   ·have h7:i< uptoV c s.2:=by simpa using h6
    rw[if_pos h7] at hrl;obtain⟨v,hv,h8⟩:=Option.bind_eq_some_iff.1 hrl;split at h8
    case isFalse=>cases h8
    case isTrue hsm=>
    have hhv:FS 188 [.agg (spC o.1 o.2),.agg (spC v.1 v.2)] (.agg (spC (hullS o v).1 (hullS o v).2)):=ot_ o.1 o.2 v.1 v.2 hsm.1.1 hsm.1.2 hsm.2.1 hsm.2.2;refine ah_ (ab_ (af_ (r_z 5 ?_)));refine AWp.ent (st':=⟨[(0,.arr (pE p)),(2,i64 k),(4,bS s),(6,.lptr 1 0 0),(8,.lptr 2 0 0),(10,kA c),(11,i64 i),(12,plA c i)],[(1,some ⟨74,6,[zC++zC]⟩),(2,some ⟨74,6,[spC o.1 o.2]⟩)],3,66⟩) ?_ ?_;refine s_x [] (fun hs=>?_) (fun hs=>?_)
    ·repeat' (first|exact aD_|refine an_ rfl ?_ ?_|exact Cv.boxp hs rfl (aB_ rfl) rfl (aa_ (dt_ c) (aa_ (ad_ _) ac_))|exact au_c)
    ·repeat' (first|exact au_|refine h_c ?_ ?_|exact au_e|refine ar_ ?_|exact am_|refine ae_ ?_ ?_|exact Cv.boxp hs rfl (aB_ rfl) rfl (aa_ (dt_ c) (aa_ (ad_ _) ac_))|exact au_c)
    refine r_d hmix 7 ?_;refine c_s (fs_value f g c i p k v hv hf) ?_;refine c_s (hhv) ?_;refine a_1 ?_;refine ak_ (n_k ?_);refine r_m 3 ?_;refine a_z ?_;refine⟨(n,i+1,hullS o v),Nat.lt_succ_self n,⟨h8,by simp only;omega⟩,?_⟩;simp only[rgS.eq_1];exact s_e []
   have h7:¬i< uptoV c s.2:=by simpa using h6
   rw[if_neg h7] at hrl;cases hrl;refine ao_ ⟨(),trivial,?_⟩;exact s_e []
 have h4:degP (cq_ p)< 0:=by
  have:¬0≤degP (cq_ p):=by simpa using h3
  omega
 rw[if_pos h4] at h;cases h;refine ah_ ⟨(),trivial,?_⟩;exact s_e [(2,8)];rintro _ _;refine r_z 3 ?_;refine ag_ (Fin.many ⟨_,_,rfl,⟨_,_,_,_,_,rfl,rfl,rfl,.inl ⟨TG.h,_,TS.h,nle rfl,rfl⟩⟩,⟨_,_,rfl,rfl,rfl⟩⟩ (nle rfl) ?_);exact ae_ (ai_ as_ (a0_ _ _)) (ae_ (ai_ as_ (ad_ _)) am_)



def zE(l:List Int):List (List AV):=l.map fun n=>[i64 n]
theorem dW_(l:List Int):∀e∈zE l,∀c∈e,Closed c:=by
 intro e he c hc;obtain⟨n,_,rfl⟩:=List.mem_map.1 he;rw[List.mem_singleton.1 hc];exact ad_ _
def zR(l:List Int):List Rat:=l.map fun(n:Int)=>(n:Rat)
def qh_:List Nat→AState
 |l=>⟨[(0,.arr (iE l))],[],1,15⟩
theorem ed_(l:List Nat):qh_ l=⟨[(0,.arr (iE l))],[],1,15⟩:=rfl
theorem d6_(l:List Nat)(hl:l.length≤281474976710656):FS 203 [.arr (iE l)] (.arr (iE (dz_ l))):=by
 refine f_c Tryz.func203 ?_;refine r_z 1 ?_;refine aQ_ qh_ (fun m=>m=dz_ l) ?_ ?_;refine af_ (aq_ qh_ (fun m=>m.length) (fun m=>m.length≤281474976710656∧dz_ m=dz_ l) l ⟨hl,rfl⟩ ?_ ?_);simp only[ed_];exact s_e [];rintro m ⟨hm,he⟩;rw[ed_];cases m with
 |nil=>
  refine ab_ (s_r 9 ?_);refine a_4 ?_;refine n_g rfl d_f ?_;refine n_g rfl d_f ?_;refine n_g rfl d_f ?_;refine n_g rfl d_f ?_;refine o_0 (.pickF rfl d_f rfl) ?_;refine ak_ ?_;refine cF ?_;refine ao_ ⟨[],by simpa[dz_] using he,?_⟩;simp only[ed_];exact s_e []
 |cons d m=>
  have hd:(iE (d::m))[(0:Int).toNat]?=some [i64 d]:=rfl;refine ab_ (s_r 9 ?_);refine a_4 ?_;refine y_g rfl (by simp) (.move rfl) ?_;refine y_g rfl (by simp) (.index_a rfl rfl (by omega) hd rfl te_47.h) ?_;refine y_g rfl (by simp) (.load_a1 rfl hd TG.h rfl) ?_;refine y_g rfl (by simp) (.bin rfl rfl aS_) ?_;refine o_0 (.pickT rfl (by simp) rfl) ?_;refine ak_ ?_;refine aj_ rfl (fun h=>?_) (fun h=>?_);have h0:d=0:=by simpa using h
  refine ah_ ?_;subst h0;refine af_ (r_m 3 ?_);refine a_1 ?_;refine o_0 (.sa_l rfl rfl rfl (by simp) te_47.h (fW_ _)) ?_;refine a_z ?_;refine⟨m,by simp,⟨by simp at hm;omega,by simpa[dz_] using he⟩,?_⟩;simp only[ed_];exact s_e [];have h0:d≠0:=by simpa using h
  refine ao_ ⟨d::m,by rw[←he];simp[dz_,h0],?_⟩;simp only[ed_];exact s_e []
 rintro m rfl;rw[ed_];refine r_z 2 ?_;exact ag_ (t_e (cE_ _))
theorem e1_(s:Int)(l:List Nat)(z:Int)(hl:l.length≤281474976710656)(hd:∀d∈l,d< UB)(hz:hv l=z.natAbs)(hs:z≠0→s=sgZ z):FS 163 [i64 s,.arr (iE l)] (.agg (zZ z)):=by
 refine f_c Tryz.func163 ?_;refine r_z 1 ?_;refine r_c 3 (d6_ l hl) ?_;refine a_z ?_;refine ab_ (r_z 3 ?_);refine aj_ rfl (fun h=>?_) (fun h=>?_)
 have h0:dz_ l=[]:=by
  have:(dz_ l).length=0:=by simpa using h
  exact List.length_eq_zero_iff.1 this
 have hz0:z=0:=by have:=(jr_ hd).1 h0;omega
 subst hz0;refine r_z 2 ?_;refine ag_ (Fin.cell rfl rfl rfl TG.h TS.h (nle rfl) ?_);rw[zZ_zero];exact Cv.agg (ae_ (ai_ as_ (ad_ _)) (ae_ (Cv.emp _) am_));have h0:dz_ l≠[]:=fun e=>by rw[e] at h;simp at h
 have hz0:z≠0:=by
  intro e;subst e;exact h0 ((jr_ hd).2 hz)
 refine ah_ (r_z 4 ?_);refine ag_ (bN_ rfl rfl rfl TG.h TS.h (nle rfl) ?_ ?_);show AV.agg [i64 s,.arr (iE (dz_ l))]=_;unfold zZ;rw[hs hz0,cX_ hd,hz];exact bz_ _
theorem zZ_neg(z:Int):zZ (-z)=[i64 (-sgZ z),.arr (iE (zd z.natAbs))]:=by
 unfold zZ;rw[Int.natAbs_neg];congr 2;unfold sgZ;split <;> split <;>(try split)<;>(try split)<;> omega
theorem bA_(z:Int):sgZ z= -1∧z< 0∨sgZ z=0∧z=0∨sgZ z=1∧0< z:=by
 unfold sgZ;split;right;left;exact⟨rfl,by assumption⟩;split;left;exact⟨rfl,by assumption⟩;right;right;exact⟨rfl,by omega⟩
theorem m7_(z:Int):FS 124 [.agg (zZ z)] (.agg (zZ (-z))):=by
 have hs:=bA_ z;have hc:=bz_ (-z);rw[zZ_neg] at hc⊢;refine f_c Tryz.func124 ?_;refine r_z 2 ?_;refine r_z 7 ?_;exact ag_ (c_e (hc))
theorem kK_(l:List Nat)(i:Nat)(hl:l.length≤281474976710656):FS 215 [.arr (iE l),i64 i] (i64 (l.reverse[i]?.getD 0:Nat)):=by
 refine f_c Tryz.func215 ?_;refine r_z 1 ?_;refine ab_ (r_z 4 ?_);refine aj_ rfl (fun h=>?_) (fun h=>?_);have hi:l.length≤i:=by simpa using h
 refine r_z 1 ?_;refine ag_ (aH_ rfl ?_ (ad_ _));rw[List.getElem?_eq_none (by simpa using hi)];rfl;have hi:i< l.length:=by simp at h;omega
 refine ah_ ?_;obtain⟨d,hd⟩:∃d,l[l.length- 1- i]?=some d:=⟨_,List.getElem?_eq_getElem (by omega)⟩;have hd':(iE l)[((l.length:Int)- 1- i).toNat]?=some [i64 d]:=by rw[show((l.length:Int)- 1- i).toNat=l.length- 1- i by omega];exact fG_ hd
 refine s_r 9 ?_;refine a_6 ?_;refine i_x hd' ?_;refine l_1 hd' ?_;refine a_z ?_;refine ag_ (aH_ rfl ?_ (ad_ _));rw[List.getElem?_reverse hi,hd];rfl
theorem px_(a b:List Nat):FS 214 [.arr (iE a),.arr (iE b)] (i64 (max a.length b.length:Nat)):=by
 refine f_c Tryz.func214 ?_;refine r_z 1 ?_;refine ab_ (r_z 5 ?_);refine aj_ rfl (fun h=>?_) (fun h=>?_);refine r_z 3 ?_;refine ag_ (aH_ rfl ?_ (ad_ _));have:b.length< a.length:=by simpa using h
 simp[i64];omega;refine ah_ (r_z 3 ?_);refine ag_ (aH_ rfl ?_ (ad_ _));have:¬b.length< a.length:=by simpa using h
 simp[i64];omega
def sC_(a:Nat)(b:Nat):Nat→AState
 |i=>⟨[(0,.arr (iE (zd a))),(1,.arr (iE (zd b))),(5,i64 i)],[],1,40⟩
theorem nA_{n i d:Nat}(h:(digs UB n)[i]?=some d):(zd n)[(digs UB n).length- 1- i]?=some d:=by
 have hi:i< (digs UB n).length:=(List.getElem?_eq_some_iff.1 h).1;unfold zd;rw[List.getElem?_reverse (by omega),show(digs UB n).length- 1- ((digs UB n).length- 1- i)=i by omega];exact h
theorem or_(a b:Nat)(ha:(zd a).length≤281474976710656)(hb:(zd b).length≤281474976710656):FS 176 [.arr (iE (zd a)),.arr (iE (zd b))] (i64 (cmpZ a b)):=by
 have hza:=bm_ a;have hzb:=bm_ b;refine f_c Tryz.func176 ?_;refine r_z 1 ?_;refine ab_ (r_z 5 ?_);refine aj_ rfl (fun h=>?_) (fun h=>?_);have hne:(zd a).length≠(zd b).length:=by simp at h;omega
 refine ab_ (r_z 5 ?_);refine aj_ rfl (fun h1=>?_) (fun h1=>?_);refine r_z 1 ?_;refine ag_ (aH_ rfl ?_ (ad_ _));have hl:(zd a).length< (zd b).length:=by simpa using h1
 rw[f3_];rfl;have:=ej_ (b:=UB) (by decide) (show(digs UB a).length< (digs UB b).length by omega);omega;refine ah_ (r_z 1 ?_);refine ag_ (aH_ rfl ?_ (ad_ _));have hl:(zd b).length< (zd a).length:=by simp at h1;omega
 rw[g4_];rfl;have:=ej_ (b:=UB) (by decide) (show(digs UB b).length< (digs UB a).length by omega);omega;have heq:(digs UB a).length=(digs UB b).length:=by simp at h;omega
 refine ah_ (ab_ (r_z 1 ?_));refine av_ (sC_ a b) (fun _=>a=b) ?_ ?_;refine af_ (aq_ (sC_ a b) (fun i=>(digs UB a).length- i) (fun i=>i≤(digs UB a).length∧(digs UB a).drop ((digs UB a).length- i)=(digs UB b).drop ((digs UB a).length- i)) 0 ⟨Nat.zero_le _,by rw[Nat.sub_zero,List.drop_length,heq,List.drop_length]⟩ ?_ ?_);simp only[sC_.eq_1];exact s_e [];rintro i ⟨hi,hd⟩;rw[sC_.eq_1];refine ab_ (r_z 4 ?_);refine aj_ rfl (fun h=>?_) (fun h=>?_);have hlt:i< (digs UB a).length:=by simp at h;omega
 obtain⟨k,hk⟩:∃k,k=(digs UB a).length- 1- i:=⟨_,rfl⟩;have hk1:(digs UB a).length- i=k+1:=by omega
 rw[hk1] at hd;obtain⟨x,hx⟩:∃x,(digs UB a)[k]?=some x:=⟨_,List.getElem?_eq_getElem (by omega)⟩;obtain⟨y,hy⟩:∃y,(digs UB b)[k]?=some y:=⟨_,List.getElem?_eq_getElem (by omega)⟩
 have hx':(iE (zd a))[((i:Nat):Int).toNat]?=some [i64 x]:=by
  have:=nA_ hx;rw[show(digs UB a).length- 1- k=i by omega] at this;exact fG_ this
 have hy':(iE (zd b))[((i:Nat):Int).toNat]?=some [i64 y]:=by
  have:=nA_ hy;rw[show(digs UB b).length- 1- k=i by omega] at this;exact fG_ this
 refine ah_ (ab_ (af_ (ab_ (ab_ (r_d hmix 9 ?_)))));refine a_2 ?_;refine i_x hx' ?_;refine l_1 hx' ?_;refine a_2 ?_;refine i_x hy' ?_;refine l_1 hy' ?_;refine a_1 ?_;refine ak_ (n_k ?_);refine aj_ rfl (fun h1=>?_) (fun h1=>?_);refine r_z 1 ?_;refine ag_ (aH_ rfl ?_ (ad_ _));have hxy:x< y:=by simpa using h1
 have:=gg_ (fun d hd=>bR_ (by decide) a d hd) hx hy hd hxy;rw[aY_ (by decide),aY_ (by decide)] at this;rw[f3_ (by omega)];rfl;refine ah_ (ab_ (r_d hmix 9 ?_));refine a_2 ?_;refine i_x hx' ?_;refine l_1 hx' ?_;refine a_2 ?_;refine i_x hy' ?_;refine l_1 hy' ?_;refine a_1 ?_;refine ak_ (n_k ?_);refine aj_ rfl (fun h2=>?_) (fun h2=>?_);refine r_z 1 ?_;refine ag_ (aH_ rfl ?_ (ad_ _));have hxy:y< x:=by simpa using h2
 have:=gg_ (fun d hd=>bR_ (by decide) b d hd) hy hx hd.symm hxy;rw[aY_ (by decide),aY_ (by decide)] at this;rw[g4_ (by omega)];rfl;have hxy:x=y:=by simp at h1 h2;omega
 subst hxy;refine ah_ (r_m 3 ?_);refine a_z ?_;refine⟨i+1,by omega,⟨by omega,?_⟩,?_⟩;rw[show(digs UB a).length- (i+1)=k by omega,c3_ hx,c3_ hy,hd];simp only[sC_.eq_1];exact s_e [];have hge:i=(digs UB a).length:=by simp at h;omega
 refine ao_ ⟨i,?_,?_⟩;subst hge;rw[Nat.sub_self,List.drop_zero,List.drop_zero] at hd;rw[←aY_ (b:=UB) (by decide) a,←aY_ (b:=UB) (by decide) b,hd];simp only[sC_.eq_1];exact s_e [];rintro i rfl;rw[sC_.eq_1];refine r_z 1 ?_;refine ag_ (aH_ rfl ?_ (ad_ _));rw[sq_ rfl];rfl
def bothS(a:Nat)(b:Nat)(k:Int)(N:Nat):List Nat×Int→AState
 |(s,c)=>⟨[(0,.arr (iE (zd a))),(1,.arr (iE (zd b))),(2,i64 k),(7,i64 N),(8,.lsl 1 0 N (some N) 1),(9,i64 c),(10,i64 s.length)],[(1,some ⟨3,1,iE (List.replicate (N- s.length) 0++s.reverse)⟩)],2,51⟩
def bothT(a:Nat)(b:Nat)(k:Int)(N:Nat)(s:List Nat):Int×Int→AState
 |(x,c)=>⟨[(0,.arr (iE (zd a))),(1,.arr (iE (zd b))),(2,i64 k),(7,i64 N),(8,.lsl 1 0 N (some N) 1),(9,i64 c),(10,i64 s.length),(11,i64 x)],[(1,some ⟨3,1,iE (List.replicate (N- s.length) 0++s.reverse)⟩)],2,51⟩
theorem iW_(a b:Nat)(k:Int)(r:Nat)(hk:k=1∨k= -1)(hr:(r:Int)=a+k* b)(ha:(zd a).length≤17592186044416)(hb:(zd b).length≤17592186044416):FS 175 [.arr (iE (zd a)),.arr (iE (zd b)),i64 k] (.arr (iE (zd r))):=by
 have hza:=bm_ a;have hzb:=bm_ b;obtain⟨N,hN⟩:∃N,N=max (zd a).length (zd b).length+1:=⟨_,rfl⟩;refine f_c Tryz.func175 ?_;refine r_z 1 ?_;refine r_c 5 (px_ (zd a) (zd b)) ?_;refine a_z ?_;have hNI:((max (zd a).length (zd b).length:Nat):Int)+1=(N:Int):=by omega
 refine s_r 3 ?_;refine a_1 ?_;refine o_1 (.makeSlice (congrArg (fun z=>some (AV.v (.int .i64 z))) hNI) (congrArg (fun z=>some (AV.v (.int .i64 z))) hNI) te_47.h TZ.h rfl TB.h (by first|omega|(simp;done)|(simp;omega)) (by first|omega|(simp;done)|(simp;omega)) (by unfold maxLen;first|omega|(simp;done)|(simp;omega))) ?_;refine a_z ?_;refine r_z 1 ?_;refine ab_ (r_z 1 ?_)
 have hdl:=cm_ (b:=UB) (by decide) (n:=r) (k:=N) (by
  have h1:=dr_ (b:=UB) (bR_ (by decide) a);have h2:=dr_ (b:=UB) (bR_ (by decide) b);rw[aY_ (by decide)] at h1 h2;have h3:UB^ (digs UB a).length≤UB^ (N- 1):=Nat.pow_le_pow_right (by decide) (by omega);have h4:UB^ (digs UB b).length≤UB^ (N- 1):=Nat.pow_le_pow_right (by decide) (by omega);have h5:UB^ N=UB^ (N- 1) * UB:=by rw[←Nat.pow_succ];congr 1;omega
  rw[h5];show r< UB^ (N- 1) * 32768;rcases hk with rfl|rfl <;> omega)
 have hrN:r< UB^ N:=by
  have h1:=dr_ (b:=UB) (bR_ (by decide) r);rw[aY_ (by decide)] at h1;exact Nat.lt_of_lt_of_le h1 (Nat.pow_le_pow_right (by decide) hdl)
 refine av_ (fun s:List Nat=>⟨[(8,.lsl 1 0 N (some N) 1)],[(1,some ⟨3,1,iE s.reverse⟩)],2,51⟩) (fun s=>s.length=N∧(∀d∈s,d< UB)∧ofD UB s=r) ?_ ?_;refine af_ (aq_ (bothS a b k N) (fun x=>N- x.1.length) (fun x=>x.1.length≤N∧(∀d∈x.1,d< UB)∧(x.2= -1∨x.2=0∨x.2=1)∧((ofD UB x.1:Nat):Int)+((UB^ x.1.length:Nat):Int) * x.2=(ofD UB ((digs UB a).take x.1.length):Nat)+k* (ofD UB ((digs UB b).take x.1.length):Nat)) ([],0) ⟨by simp,by simp,by simp,by simp[ofD]⟩ ?_ ?_);simp only[bothS.eq_1];exact s_e [(1,8)];rintro⟨s,c⟩ ⟨hs,hd,hc,hval⟩;simp only at hs hd hc hval;simp only[bothS.eq_1];refine ab_ (r_z 3 ?_);refine aj_ rfl (fun h=>?_) (fun h=>?_);have hlt:s.length< N:=by simpa using h
 refine ah_ ?_;obtain⟨x,hx⟩:∃x,x=(digs UB a)[s.length]?.getD 0:=⟨_,rfl⟩;obtain⟨y,hy⟩:∃y,y=(digs UB b)[s.length]?.getD 0:=⟨_,rfl⟩
 have hx1:x< 32768:=by
  rw[hx];cases hh:(digs UB a)[s.length]? with
  |none=>decide
  |some d=>exact bi_ (by decide) hh
 have hy1:y< 32768:=by
  rw[hy];cases hh:(digs UB b)[s.length]? with
  |none=>decide
  |some d=>exact bi_ (by decide) hh
 have hda:=kK_ (zd a) s.length (by omega);have hdb:=kK_ (zd b) s.length (by omega);unfold zd at hda hdb;rw[List.reverse_reverse,←hx] at hda;rw[List.reverse_reverse,←hy] at hdb;have hky: -32768< k* y∧k* y< 32768:=by rcases hk with rfl|rfl <;> omega
 obtain⟨X,hX⟩:∃X:Int,X=x+k* y+c:=⟨_,rfl⟩;have hXr: -32768≤X∧X≤65536:=by omega
 refine ab_ (af_ (r_c 12 (hda) ?_));refine c_s (hdb) ?_;refine a_z ?_;refine r_z 1 ?_;refine aQ_ (bothT a b k N s) (fun v=>v.1=(if X< 0 then X+32768 else X)∧v.2=(if X< 0 then -1 else 0)) ?_ ?_;refine r_z 2 ?_;refine aj_ rfl (fun h1=>?_) (fun h1=>?_);have hX0:X< 0:=by rw[hX];simpa using h1
 refine r_z 3 ?_;refine r_m 1 ?_;refine a_z ?_;refine⟨(X+32768,-1),⟨by rw[if_pos hX0],by rw[if_pos hX0]⟩,?_⟩;simp only[bothT.eq_1];exact s_x [] (fun hs=>e_29) (fun hs=>e_30) e_28;have hX0:¬X< 0:=by rw[hX];simpa using h1
 refine ah_ ⟨(X,0),⟨by rw[if_neg hX0],by rw[if_neg hX0]⟩,?_⟩;simp only[bothT.eq_1];exact s_x [] (fun hs=>e_29) (fun hs=>e_30) e_28;rintro⟨X1,c1⟩ ⟨hX1,hc1⟩;simp only at hX1 hc1;rw[bothT.eq_1];refine aQ_ (bothT a b k N s) (fun v=>v.1=X % 32768∧v.2=X/ 32768) ?_ ?_;refine r_z 2 ?_;refine aj_ rfl (fun h1=>?_) (fun h1=>?_);have h2:32768≤X1:=by simpa using h1
 have hX1r:X1≤65536:=by rw[hX1];split <;> omega
 refine r_z 3 ?_;refine r_m 1 ?_;refine a_z ?_;have hX0:¬X< 0:=by intro h0;rw[if_pos h0] at hX1;omega
 rw[if_neg hX0] at hX1;refine⟨(X1- 32768,1),⟨by simp only;omega,by simp only;omega⟩,?_⟩;simp only[bothT.eq_1];exact s_e []
 ·have h2:X1< 32768:=by simp at h1;omega
  refine ah_ ⟨(X1,c1),⟨by rw[hX1] at h2⊢;simp only;split <;> rename_i h3 <;> simp only[h3,if_true,if_false] at h2 <;> omega,by rw[hX1] at h2;rw[hc1];simp only;split <;> rename_i h3 <;> simp only[h3,if_true,if_false] at h2 <;> omega⟩,?_⟩;simp only[bothT.eq_1];exact s_e []
 rintro⟨X2,c2⟩ ⟨hX2,hc2⟩;simp only at hX2 hc2;rw[bothT.eq_1];obtain⟨d,hdX⟩:∃d:Nat,X2=d:=⟨X2.toNat,by omega⟩;have hd1:d< 32768:=by omega
 subst hdX;have hlen:(List.replicate (N- s.length) 0++s.reverse).length=N:=by simp;omega
 have hrep:List.replicate (N- s.length) 0=List.replicate (N- (s.length+1)) 0++[0]:=by
  rw[show N- s.length=(N- (s.length+1))+1 by omega,List.replicate_succ']
 have hget:(iE (List.replicate (N- s.length) 0++s.reverse))[0+((N:Int)- 1- s.length).toNat]?=some [i64 0]:=by
  rw[show 0+((N:Int)- 1- s.length).toNat=N- (s.length+1) by omega];refine fG_ ?_;rw[hrep,List.append_assoc];exact iO_ _ _ _ _ (by simp)
 have hset:(iE (List.replicate (N- s.length) 0++s.reverse)).set (0+((N:Int)- 1- s.length).toNat) [i64 d]=iE (List.replicate (N- (s++[d]).length) 0++(s++[d]).reverse):=by
  rw[show 0+((N:Int)- 1- s.length).toNat=N- (s.length+1) by omega,iJ_,hrep,List.append_assoc];simp only[List.singleton_append,List.length_append,List.length_cons,List.length_nil,List.reverse_append,List.reverse_cons,List.reverse_nil,List.nil_append];rw[ii_ _ _ _ _ _ (by simp)];simp
 refine r_m 8 ?_;refine a_7 ?_;refine o_1n (.store rfl rfl hget rfl rfl rfl TS.h (nle rfl)) ?_;refine ak_ ?_;refine r_m 3 ?_;refine a_z ?_;refine⟨(s++[d],c2),by simp;omega,⟨by simp;omega,?_,by simp only;omega,?_⟩,?_⟩;intro e he;rcases List.mem_append.1 he with he|he
 exact hd e he;simp at he;subst he;exact hd1;simp only[List.length_append,List.length_cons,List.length_nil,Nat.zero_add];rw[dC_,cl_,cl_,←hx,←hy,Nat.pow_succ];obtain⟨B,hB⟩:∃B,B=UB^ s.length:=⟨_,rfl⟩;rw[←hB] at hval⊢;have hXX:X=32768* c2+d:=by omega
 have hBX:(B:Int) * X=B* x+k* (B* y)+B* c:=by
  rw[hX,Int.mul_add,Int.mul_add,Int.mul_left_comm]
 rw[hXX,Int.mul_add] at hBX;have e1:((B* 32768:Nat):Int) * c2=B* (32768* c2):=by rw[Int.natCast_mul,Int.mul_assoc];rfl
 have e2:k* ((ofD UB ((digs UB b).take s.length)+B* y:Nat):Int)=k* (ofD UB ((digs UB b).take s.length):Nat)+k* (B* y):=by
  rw[Int.natCast_add,Int.mul_add,Int.natCast_mul]
 show((ofD UB s+B* d:Nat):Int)+((B* 32768:Nat):Int) * c2=_;rw[e1,e2,Int.natCast_add,Int.natCast_add,Int.natCast_mul,Int.natCast_mul];omega;simp only[bothS.eq_1];refine s_x [] (fun hs=>au_f) (fun hs=>?_) e_31
 ·repeat' (first|exact au_|refine h_c ?_ ?_|exact ay_ hs hset (bM_ _)|exact au_e)
 have hge:s.length=N:=by simp at h;omega
 refine ao_ ⟨s,⟨hge,hd,?_⟩,?_⟩;rw[hge,List.take_of_length_le (by omega),List.take_of_length_le (by omega),aY_ (by decide),aY_ (by decide),←hr] at hval;have hsl:=dr_ hd;rw[hge] at hsl;obtain⟨B,hB⟩:∃B,B=UB^ N:=⟨_,rfl⟩;rw[←hB] at hval hsl hrN;rcases hc with rfl|rfl|rfl <;> omega
 have e:iE (List.replicate (N- s.length) 0++s.reverse)=iE s.reverse:=by rw[hge];simp
 refine s_x [] (fun hs=>au_f) (fun hs=>e_32) ?_
 ·repeat' (first|exact ShrL.nil|refine ShrL.cons rfl rfl rfl rfl (by first|(exact congrArg List.length e)|rfl|(simp;done)|(simp <;> omega)) ?_)
 rintro s ⟨hs,hd,hval⟩;have hd':∀d∈s.reverse,d< UB:=fun d h=>hd d (List.mem_reverse.1 h);have hst:=d6_ s.reverse (by simp;omega);rw[cX_ hd',show hv s.reverse=r by unfold hv;rw[List.reverse_reverse];assumption] at hst;have hfull:((iE s.reverse).drop 0).take N=iE s.reverse:=by rw[List.drop_zero,List.take_of_length_le (by simp;omega)]
 refine s_r 3 ?_;refine a_1 ?_;refine o_1 (.callS1 rfl rfl rfl (.shut rfl d_n (.nil)) rfl ((by rw[hfull];exact hst))) ?_;refine a_z ?_;exact ag_ (t_e (cE_ _))
def zl(z:Int):Prop:=bl z.natAbs≤8796093022208
theorem nz_{z:Int}(h:zl z):(zd z.natAbs).length≤17592186044416:=by
 have:=aW_ (b:=UB) (by decide) z.natAbs;rw[bm_];unfold zl at h;omega
theorem lC_{x y:Int}(h:sgZ x=sgZ y)(hx:x≠0):(x+y).natAbs=x.natAbs+y.natAbs∧(x+y≠0→sgZ x=sgZ (x+y)):=by
 rcases bA_ x with⟨a,b⟩|⟨a,b⟩|⟨a,b⟩<;> rcases bA_ y with⟨c,d⟩|⟨c,d⟩|⟨c,d⟩<;> rcases bA_ (x+y) with⟨e,f⟩|⟨e,f⟩|⟨e,f⟩<;> rw[a,c] at h <;> rw[a,e]<;> first|omega|(constructor <;> omega)
theorem jt_{x y:Int}(h:sgZ x≠sgZ y)(hx:x≠0)(hy:y≠0)(hg:y.natAbs≤x.natAbs):(x+y).natAbs=x.natAbs- y.natAbs∧(x+y≠0→sgZ x=sgZ (x+y)):=by
 rcases bA_ x with⟨a,b⟩|⟨a,b⟩|⟨a,b⟩<;> rcases bA_ y with⟨c,d⟩|⟨c,d⟩|⟨c,d⟩<;> rcases bA_ (x+y) with⟨e,f⟩|⟨e,f⟩|⟨e,f⟩<;> rw[a,c] at h <;> rw[a,e]<;> first|omega|(constructor <;> omega)
theorem fs_ZAdd(x y:Int)(hx:zl x)(hy:zl y):FS 131 [.agg (zZ x),.agg (zZ y)] (.agg (zZ (x+y))):=by
 have hlx:=nz_ hx;have hly:=nz_ hy
 have bound:∀r:Nat,r≤x.natAbs+y.natAbs→(zd r).length≤281474976710656:=by
  intro r hr;have h1:=aW_ (b:=UB) (by decide) r;have h2:=b4_ hr;have h3:=oV_ x.natAbs y.natAbs;unfold zl at hx hy;rw[bm_];omega
 refine f_c Tryz.func131 ?_;refine r_z 3 ?_;refine ab_ (r_z 3 ?_);refine aj_ rfl (fun h=>?_) (fun h=>?_)
 have h0:x=0:=by
  have:sgZ x=0:=by simpa using h
  rcases bA_ x with⟨a,b⟩|⟨a,b⟩|⟨a,b⟩<;> omega
 refine r_z 2 ?_;refine ag_ (bN_ rfl rfl rfl TG.h TS.h (nle rfl) ?_ ?_);rw[h0,Int.zero_add];rfl;exact bz_ _;have hx0:x≠0:=by rintro rfl;simp[sgZ] at h
 refine ah_ (ab_ (r_z 3 ?_));refine aj_ rfl (fun h1=>?_) (fun h1=>?_)
 have h0:y=0:=by
  have:sgZ y=0:=by simpa using h1
  rcases bA_ y with⟨a,b⟩|⟨a,b⟩|⟨a,b⟩<;> omega
 refine r_z 2 ?_;refine ag_ (bN_ rfl rfl rfl TG.h TS.h (nle rfl) ?_ ?_);rw[h0,Int.add_zero];rfl;exact bz_ _;have hy0:y≠0:=by rintro rfl;simp[sgZ] at h1
 refine ah_ (ab_ (r_z 5 ?_));refine aj_ rfl (fun h2=>?_) (fun h2=>?_);have hs:sgZ x=sgZ y:=by simpa using h2
 obtain⟨e1,e2⟩:=lC_ hs hx0;refine ab_ (r_d hmix 9 ?_);refine c_s (iW_ x.natAbs y.natAbs 1 (x.natAbs+y.natAbs) (.inl rfl) (by omega) hlx hly) ?_;refine c_s (e1_ (sgZ x) (zd (x.natAbs+y.natAbs)) (x+y) (bound _ (Nat.le_refl _)) (zd_lt _) (by rw[hv_zd,e1]) e2) ?_;refine a_1 ?_;refine ak_ (n_k ?_);exact ag_ (c_e (bz_ _));have hs:sgZ x≠sgZ y:=by simpa using h2
 refine ah_ (ab_ (r_c 6 (or_ x.natAbs y.natAbs (by omega) (by omega)) ?_));refine a_z ?_;refine aj_ rfl (fun h3=>?_) (fun h3=>?_)
 have hge:y.natAbs≤x.natAbs:=by
  have:=of_decide_eq_true h3;unfold cmpZ at this;split at this;omega;omega
 obtain⟨e1,e2⟩:=jt_ hs hx0 hy0 hge;refine ab_ (r_d hmix 9 ?_);refine c_s (iW_ x.natAbs y.natAbs (-1) (x.natAbs- y.natAbs) (.inr rfl) (by omega) hlx hly) ?_;refine c_s (e1_ (sgZ x) (zd (x.natAbs- y.natAbs)) (x+y) (bound _ (by omega)) (zd_lt _) (by rw[hv_zd,e1]) e2) ?_;refine a_1 ?_;refine ak_ (n_k ?_);exact ag_ (c_e (bz_ _))
 have hlt:x.natAbs≤y.natAbs:=by
  have:=of_decide_eq_false h3;unfold cmpZ at this;split at this;omega;split at this <;> omega
 obtain⟨e1,e2⟩:=jt_ (fun h=>hs h.symm) hy0 hx0 hlt;rw[Int.add_comm] at e1 e2;refine ah_ (ab_ (r_d hmix 9 ?_));refine c_s (iW_ y.natAbs x.natAbs (-1) (y.natAbs- x.natAbs) (.inr rfl) (by omega) hly hlx) ?_;refine c_s (e1_ (sgZ y) (zd (y.natAbs- x.natAbs)) (x+y) (bound _ (by omega)) (zd_lt _) (by rw[hv_zd,e1]) e2) ?_;refine a_1 ?_;refine ak_ (n_k ?_);exact ag_ (c_e (bz_ _))
def qm_(l:List Nat):Nat→AState
 |i=>⟨[(0,.arr (iE l)),(3,i64 (hv (l.take i))),(4,i64 i)],[],1,19⟩
theorem pn_{l:List Nat}(hd:∀d∈l,d< UB)(hl:l.length≤4)(i:Nat):hv (l.take i)< 1152921504606846976:=by
 have h1:=hv_lt (l:=l.take i) fun d h=>hd d (List.mem_of_mem_take h);have h2:(l.take i).length≤4:=by rw[List.length_take];omega
 exact Nat.lt_of_lt_of_le h1 (Nat.pow_le_pow_right (by decide) h2)
theorem kA_(l:List Nat)(hl:l.length≤4)(hd:∀d∈l,d< UB):FS 202 [.arr (iE l)] (i64 (hv l)):=by
 refine f_c Tryz.func202 ?_;refine r_z 1 ?_;refine r_z 1 ?_;refine ab_ (r_z 1 ?_);refine av_ (qm_ l) (fun i=>i=l.length) ?_ ?_;refine af_ (aq_ (qm_ l) (fun i=>l.length- i) (fun i=>i≤l.length) 0 (Nat.zero_le _) ?_ ?_);simp only[qm_.eq_1];exact s_e [];intro i hi;rw[qm_.eq_1];refine ab_ (r_z 4 ?_);refine aj_ rfl (fun h=>?_) (fun h=>?_);have hlt:i< l.length:=by simpa using h
 obtain⟨d,hdi⟩:∃d,l[i]?=some d:=⟨_,List.getElem?_eq_getElem hlt⟩;have hd1:=hd d (List.mem_of_getElem? hdi);have hdi':(iE l)[((i:Nat):Int).toNat]?=some [i64 d]:=fG_ hdi;have hsn:=iL_ (l.take i) d;rw[←br_ hdi] at hsn;have hb:=pn_ hd hl (i+1);obtain⟨V,hV⟩:∃V,V=hv (l.take i):=⟨_,rfl⟩;rw[←hV] at hsn⊢;have hsn':hv (l.take (i+1))=V* 32768+d:=hsn;refine ah_ (ab_ (af_ (r_m 8 ?_)));refine a_4 ?_;refine i_x hdi' ?_;refine l_1 hdi' ?_;refine a_z ?_;refine r_m 3 ?_;refine a_z ?_;refine⟨i+1,by omega,hlt,?_⟩;simp only[qm_.eq_1];refine s_x [] (fun hs=>?_) (fun hs=>?_) ?_
 ·repeat' (first|exact aD_|refine an_ rfl ?_ ?_|exact au_c|(refine Cv.loE hs ?_ (ad_ _);first|rfl|(simp[i64,u64,u32,bln,hsn'];done)|(simp[i64,u64,u32,bln,hsn']<;> omega)))
 ·repeat' (first|exact au_|refine h_c ?_ ?_|exact au_e|(refine ay_ hs ?_ (bM_ _);first|(simp[iJ_,gk_,d4_,hsn'];done)|(simp[iE,i64,ofV,hsn'];done))|refine ar_ ?_|exact am_|refine ae_ ?_ ?_|exact au_c|(refine Cv.loE hs ?_ (ad_ _);first|(simp[i64,u64,u32,bln,hsn'];done)|(simp[i64,u64,u32,bln,hsn']<;> omega)))
 ·repeat' (first|exact ShrL.nil|refine ShrL.cons rfl rfl rfl rfl (by first|rfl|(simp;done)|(simp[hsn']<;> omega)) ?_)
 have hge:i=l.length:=by simp at h;omega
 refine ao_ ⟨i,hge,?_⟩;exact s_e [];rintro i rfl;rw[qm_.eq_1,List.take_length];refine r_z 2 ?_;refine ag_ (aH_ rfl rfl (ad_ _))
def zintS(s:Int):Int×List Nat→AState
 |(n,l)=>⟨[(0,i64 n),(2,.lptr 1 0 0),(3,i64 s),(4,.arr (iE l))],[(1,some ⟨49,2,[[i64 0,.emp]]⟩)],2,25⟩
theorem fZ_(n:Int)(h: -9223372036854775808≤n∧n≤9223372036854775807):FS 109 [i64 n] (.agg (zZ n)):=by
 obtain⟨s,hs⟩:∃s:Int,s=if n< 0 then -1 else 1:=⟨_,rfl⟩
 have hsz:n≠0→s=sgZ n:=by
  intro h0;rw[hs];unfold sgZ;rw[if_neg h0]
 refine f_c Tryz.func109 ?_;refine r_z 1 ?_;refine r_z 1 ?_;refine aQ_ (fun _:Unit=>⟨[(0,i64 n),(2,.lptr 1 0 0),(3,i64 s)],[(1,some ⟨49,2,[[i64 0,.emp]]⟩)],2,25⟩) (fun _=>True) ?_ ?_;refine r_z 2 ?_;refine aj_ rfl (fun h1=>?_) (fun h1=>?_);have hn:n< 0:=by simpa using h1
 rw[hs,if_pos hn];refine r_m 1 ?_;refine a_z ?_;refine⟨(),trivial,?_⟩;exact s_e [];have hn:¬n< 0:=by simpa using h1
 rw[hs,if_neg hn];refine ah_ ⟨(),trivial,?_⟩;exact s_e [];rintro _ _;refine r_z 1 ?_;refine aQ_ (fun l:List Nat=>zintS s (0,l)) (fun l=>l.length≤10∧(∀d∈l,d< UB)∧hv l=n.natAbs) ?_ ?_;refine af_ (aq_ (zintS s) (fun x=>x.1.natAbs) (fun x=>(-9223372036854775808≤x.1∧x.1≤9223372036854775807)∧(∀d∈x.2,d< UB)∧n.natAbs=hv x.2+UB^ x.2.length* x.1.natAbs∧x.2.length≤5) (n,[]) ⟨h,by simp,by simp[lV_],by simp⟩ ?_ ?_);simp only[zintS.eq_1];exact s_e [(1,2)];rintro⟨m,l⟩ ⟨hm,hd,hval,hl6⟩;simp only at hm hd hval hl6;rw[zintS.eq_1];refine ab_ (r_z 2 ?_);refine aj_ rfl (fun h=>?_) (fun h=>?_)
 ·have hm0:m≠0:=by simpa using h
  have hl:l.length≤4:=by
   refine Nat.le_of_not_lt fun h5=>?_;have h6:UB^ 5≤UB^ l.length:=Nat.pow_le_pow_right (by decide) h5;have h7:UB^ l.length* 1≤UB^ l.length* m.natAbs:=Nat.mul_le_mul_left _ (by omega);have h8:UB^ 5=37778931862957161709568:=by decide
   omega
  obtain⟨d,hdm⟩:∃d,d=m.natAbs % 32768:=⟨_,rfl⟩;have hd1:d< 32768:=by omega
  have hr:(m.tmod 32768).natAbs=d:=by rw[Int.natAbs_tmod,hdm];rfl
  have hq:(m.tdiv 32768).natAbs=m.natAbs/ 32768:=by rw[Int.natAbs_tdiv];rfl
  have hlq:m.natAbs/ 32768< m.natAbs:=Nat.div_lt_self (by omega) (by decide);have hdm2:=Nat.div_add_mod m.natAbs 32768;refine ah_ (af_ (s_r 3 ?_));refine a_1 ?_;refine o_0 (.bin rfl rfl (sz_ (by decide))) ?_;refine a_z ?_;refine aQ_ (fun _:Unit=>⟨[(0,i64 m),(2,.lptr 1 0 0),(3,i64 s),(4,.arr (iE l)),(5,i64 d)],[(1,some ⟨49,2,[[i64 0,.emp]]⟩)],2,25⟩) (fun _=>True) ?_ ?_;refine r_z 2 ?_;refine aj_ rfl (fun h1=>?_) (fun h1=>?_);have hneg:m.tmod 32768< 0:=by simpa using h1
  refine r_m 3 ?_;refine a_z ?_;have e: -m.tmod 32768=d:=by omega
  refine⟨(),trivial,?_⟩;have:=(congrArg (fun z=>AV.v (.int .i64 z)) e);exact s_f [];have hneg:¬m.tmod 32768< 0:=by simpa using h1
  have e:m.tmod 32768=d:=by omega
  refine ah_ ⟨(),trivial,?_⟩;have:=(congrArg (fun z=>AV.v (.int .i64 z)) e);exact s_f [];rintro _ _;refine s_r 5 ?_;refine a_3 ?_;refine o_2 (.append_l rfl rfl rfl te_47.h rfl rfl rfl rfl rfl d_o (by first|exact cw_ _|exact cu_ _|exact b6_ _|exact cx_ _|exact ct_ _|assumption|rfl|simp) (by first|rfl|exact cw_ _|exact cu_ _|exact b6_ _|exact cx_ _|exact ct_ _|simp) rfl (.arr (fW_ _)) TZ.h rfl TB.h d_o (by first|(simp[maxLen];done)|(simp[maxLen];omega))) ?_;refine a_z ?_;refine r_m 3 ?_;refine a_1 ?_;refine o_0 (.bin rfl rfl (jh_ (by decide) (by omega))) ?_;refine a_z ?_;refine⟨(m.tdiv 32768,d::l),by simp only;omega,⟨by simp only;omega,?_,?_,by simp;omega⟩,?_⟩;intro e he;rcases List.mem_cons.1 he with rfl|he
  exact hd1;exact hd e he;simp only[iM_,List.length_cons];rw[hval,hq,Nat.pow_succ,Nat.mul_assoc,Nat.add_assoc,←Nat.mul_add];congr 2;show m.natAbs=d+32768* (m.natAbs/ 32768);omega;simp only[zintS.eq_1];have e:[[i64 d]]++iE l=iE (d::l):=rfl;refine s_x [] (fun hs=>?_) (fun hs=>?_)
  ·repeat' (first|exact aD_|refine an_ rfl ?_ ?_|exact Cv.sealE hs rfl (aB_ rfl) e (by simp;omega) (bM_ _)|exact au_c)
  ·repeat' (first|exact au_|refine h_c ?_ ?_|exact au_e|refine ar_ ?_|exact am_|refine ae_ ?_ ?_|exact Cv.sealE hs rfl (aB_ rfl) e (by simp;omega) (bM_ _)|exact au_c)
 have hm0:m=0:=by simpa using h
 subst hm0;refine ao_ ⟨l,⟨by omega,hd,by simpa using hval.symm⟩,?_⟩;simp only[zintS.eq_1];exact s_e [];rintro l ⟨hl,hd,hval⟩;rw[zintS.eq_1];refine r_c 4 (e1_ s l n (by omega) hd hval hsz) ?_;refine a_z ?_;exact ag_ (c_e (bz_ _))
theorem qH_{o:List Nat}{j d:Nat}(h:o[j]?=some d):o.reverse[o.length- 1- j]?=some d:=by
 have hj:j< o.length:=(List.getElem?_eq_some_iff.1 h).1;rw[List.getElem?_reverse (by omega),show o.length- 1- (o.length- 1- j)=j by omega];exact h
theorem qG_{o:List Nat}{j v:Nat}(hj:j< o.length):o.reverse.set (o.length- 1- j) v=(o.set j v).reverse:=by
 apply List.ext_getElem?;intro i;by_cases hi:i< o.length;rw[List.getElem?_reverse (by simpa using hi),List.getElem?_set,List.getElem?_set,List.length_reverse,List.length_set];by_cases h:o.length- 1- j=i;rw[if_pos h,if_pos (by omega),if_pos (by omega),if_pos (by omega)];rw[if_neg h,if_neg (by omega),List.getElem?_reverse hi];rw[List.getElem?_eq_none (by simpa using hi),List.getElem?_eq_none (by simpa using hi)]
def zmS(x:Int)(y:Int):List Nat×Nat→AState
 |(o,i)=>⟨[(2,.lptr 1 0 0),(3,.lptr 2 0 0),(4,.lptr 3 0 0),(5,.lsl 4 0 ((zd x.natAbs).length+(zd y.natAbs).length) (some ((zd x.natAbs).length+(zd y.natAbs).length)) 1),(6,i64 (((zd x.natAbs).length:Int)- 1- i))],
  [(1,some ⟨49,2,[zZ x]⟩),(2,some ⟨49,2,[zZ y]⟩),(3,some ⟨49,2,[[i64 0,.emp]]⟩),(4,some ⟨3,1,iE o.reverse⟩)],5,76⟩
def zmT(x:Int)(y:Int)(i:Nat):List Nat×Nat×Nat→AState
 |(o,k,c)=>⟨[(2,.lptr 1 0 0),(3,.lptr 2 0 0),(4,.lptr 3 0 0),(5,.lsl 4 0 ((zd x.natAbs).length+(zd y.natAbs).length) (some ((zd x.natAbs).length+(zd y.natAbs).length)) 1),(6,i64 (((zd x.natAbs).length:Int)- 1- i)),(7,i64 c),(8,i64 (((zd y.natAbs).length:Int)- 1- k))],
  [(1,some ⟨49,2,[zZ x]⟩),(2,some ⟨49,2,[zZ y]⟩),(3,some ⟨49,2,[[i64 0,.emp]]⟩),(4,some ⟨3,1,iE o.reverse⟩)],5,76⟩
structure ZmI (a b:Nat)(x:List Nat×Nat):Prop where
 len:x.1.length=(digs UB a).length+(digs UB b).length
 le:x.2≤(digs UB a).length
 dig:∀d∈x.1,d< UB
 val:ofD UB x.1=ofD UB ((digs UB a).take x.2) * b
 zer:∀j,x.2+(digs UB b).length≤j→j< x.1.length→x.1[j]?=some 0
structure ZmJ (a b i v:Nat)(x:List Nat×Nat×Nat):Prop where
 len:x.1.length=(digs UB a).length+(digs UB b).length
 le:x.2.1≤(digs UB b).length
 dig:∀d∈x.1,d< UB
 car:x.2.2< UB
 val:ofD UB x.1+UB^ (i+x.2.1) * x.2.2=ofD UB ((digs UB a).take i) * b+UB^ i* v* ofD UB ((digs UB b).take x.2.1)
 zer:∀j,i+(digs UB b).length≤j→j< x.1.length→x.1[j]?=some 0
theorem sgZ_mul(x y:Int):sgZ (x* y)=sgZ x* sgZ y:=by
 rcases bA_ x with⟨a,b⟩|⟨a,b⟩|⟨a,b⟩<;> rcases bA_ y with⟨c,d⟩|⟨c,d⟩|⟨c,d⟩<;> rw[a,c]<;> rcases bA_ (x* y) with⟨e,f⟩|⟨e,f⟩|⟨e,f⟩<;> rw[e]<;> first|rfl|(exfalso;subst_vars;simp at f;done)|(exfalso;have:=Int.mul_pos_of_neg_of_neg b d;omega)|(exfalso;have:=Int.mul_neg_of_neg_of_pos b d;omega)|(exfalso;have:=Int.mul_neg_of_pos_of_neg b d;omega)|(exfalso;have:=Int.mul_pos b d;omega)
theorem e2_(x y:Int)(hx:zl x)(hy:zl y):FS 112 [.agg (zZ x),.agg (zZ y)] (.agg (zZ (x* y))):=by
 have hlx:=nz_ hx;have hly:=nz_ hy;have hzx:=bm_ x.natAbs;have hzy:=bm_ y.natAbs;obtain⟨a,ha⟩:∃a,a=x.natAbs:=⟨_,rfl⟩;obtain⟨b,hb⟩:∃b,b=y.natAbs:=⟨_,rfl⟩;have va:=aY_ (b:=UB) (by decide) a;have vb:=aY_ (b:=UB) (by decide) b
 have hss: -9223372036854775808≤sgZ x* sgZ y∧sgZ x* sgZ y≤9223372036854775807:=by
  rcases bA_ x with⟨h,_⟩|⟨h,_⟩|⟨h,_⟩<;> rcases bA_ y with⟨h',_⟩|⟨h',_⟩|⟨h',_⟩<;> rw[h,h']<;> decide
 refine f_c Tryz.func112 ?_;subst ha hb;refine r_z 3 ?_;refine r_z 9 ?_;refine ab_ (r_z 5 ?_);refine av_ (zmS x y) (fun v=>ZmI x.natAbs y.natAbs v∧v.2=(digs UB x.natAbs).length) ?_ ?_;refine af_ (aq_ (zmS x y) (fun v=>(digs UB x.natAbs).length- v.2) (ZmI x.natAbs y.natAbs) (List.replicate ((digs UB x.natAbs).length+(digs UB y.natAbs).length) 0,0) ⟨by simp,by simp,?_,by simp[ix_,ofD],?_⟩ ?_ ?_);intro d hd;simp at hd;rw[hd.2];decide;intro j _ hj;simp at hj;simp[hj];simp only[zmS.eq_1];refine s_x [(1,2),(2,3),(3,4),(4,5)] (fun hs=>?_) (fun hs=>?_) ?_
 ·repeat' (first|exact aD_|refine an_ rfl ?_ ?_|exact au_c|(refine Cv.loE hs ?_ (ad_ _);first|rfl|(simp[i64,u64,u32,bln,hzx,hzy];done)|(simp[i64,u64,u32,bln,hzx,hzy]<;> omega)))
 ·repeat' (first|exact au_|refine h_c ?_ ?_|exact au_e|(refine ay_ hs ?_ (bM_ _);first|(simp[iJ_,gk_,d4_,hzx,hzy];done)|(simp[iE,i64,ofV,hzx,hzy];done))|refine ar_ ?_|exact am_|refine ae_ ?_ ?_|exact au_c|(refine Cv.loE hs ?_ (ad_ _);first|(simp[i64,u64,u32,bln,hzx,hzy];done)|(simp[i64,u64,u32,bln,hzx,hzy]<;> omega)))
 ·repeat' (first|exact ShrL.nil|refine ShrL.cons rfl rfl rfl rfl (by first|rfl|(simp;done)|(simp[hzx,hzy]<;> omega)) ?_)
 rintro⟨o,i⟩ ⟨hlen,hle,hdig,hval,hzer⟩;simp only at hlen hle hdig hval hzer;rw[zmS.eq_1];refine ab_ (r_z 2 ?_);refine aj_ rfl (fun h=>?_) (fun h=>?_);have hlt:i< (digs UB x.natAbs).length:=by have:=of_decide_eq_true h;omega
 obtain⟨u,hu⟩:∃u,(digs UB x.natAbs)[i]?=some u:=⟨_,List.getElem?_eq_getElem hlt⟩;have hu1:u< 32768:=bi_ (by decide) hu
 have hu':(iE (zd x.natAbs))[(((zd x.natAbs).length:Int)- 1- i).toNat]?=some [i64 u]:=by
  rw[show(((zd x.natAbs).length:Int)- 1- i).toNat=(digs UB x.natAbs).length- 1- i by omega];exact fG_ (nA_ hu)
 refine ah_ (ab_ (af_ (r_z 1 ?_)));refine ab_ (r_z 5 ?_);refine av_ (zmT x y i) (fun v=>ZmJ x.natAbs y.natAbs i u v∧v.2.1=(digs UB y.natAbs).length) ?_ ?_;refine af_ (aq_ (zmT x y i) (fun v=>(digs UB y.natAbs).length- v.2.1) (ZmJ x.natAbs y.natAbs i u) (o,0,0) ⟨hlen,by simp,hdig,(show 0< UB by decide),by simp[hval,ofD],hzer⟩ ?_ ?_);simp only[zmT.eq_1];exact s_e [];rintro⟨q,k,c⟩ ⟨jlen,jle,jdig,jcar,jval,jzer⟩;simp only at jlen jle jdig jcar jval jzer;rw[zmT.eq_1];refine ab_ (r_z 2 ?_);refine aj_ rfl (fun h=>?_) (fun h=>?_);have hltk:k< (digs UB y.natAbs).length:=by have:=of_decide_eq_true h;omega
 obtain⟨v,hv⟩:∃v,(digs UB y.natAbs)[k]?=some v:=⟨_,List.getElem?_eq_getElem hltk⟩;have hv1:v< 32768:=bi_ (by decide) hv
 have hv':(iE (zd y.natAbs))[(((zd y.natAbs).length:Int)- 1- k).toNat]?=some [i64 v]:=by
  rw[show(((zd y.natAbs).length:Int)- 1- k).toNat=(digs UB y.natAbs).length- 1- k by omega];exact fG_ (nA_ hv)
 obtain⟨d,hd⟩:∃d,q[i+k]?=some d:=⟨_,List.getElem?_eq_getElem (by omega)⟩;have hd1:d< 32768:=jdig d (List.mem_of_getElem? hd);have hc1:c< 32768:=jcar;have hidx:(((zd x.natAbs).length:Int)- 1- i+(((zd y.natAbs).length:Int)- 1- k)+1).toNat=q.length- 1- (i+k):=by omega
 have hg:(iE q.reverse)[0+(((zd x.natAbs).length:Int)- 1- i+(((zd y.natAbs).length:Int)- 1- k)+1).toNat]?=some [i64 d]:=by rw[hidx,Nat.zero_add];exact fG_ (qH_ hd)
 have hset:∀w:Nat,(iE q.reverse).set (0+(((zd x.natAbs).length:Int)- 1- i+(((zd y.natAbs).length:Int)- 1- k)+1).toNat) [i64 w]=iE (q.set (i+k) w).reverse:=by intro w;rw[hidx,Nat.zero_add,iJ_,qG_ (by omega)]
 have hxy0:u* v≤32767* 32767:=Nat.mul_le_mul (by omega) (by omega);have hxyi:(u:Int) * v=((u* v:Nat):Int):=by push_cast;rfl
 refine ah_ ?_;have hxyn:0≤(u:Int) * v:=Int.mul_nonneg (by omega) (by omega);refine ab_ (af_ (ab_ (r_d hmix 22 ?_)));refine a_5 ?_;refine az_ (.index_l rfl rfl (by omega) (by omega) te_47.h) rfl rfl ?_;refine az_ (.load_l1 rfl rfl hg TG.h rfl) rfl rfl ?_;refine a_3 ?_;refine i_x hu' ?_;refine l_1 hu' ?_;refine a_3 ?_;refine i_x hv' ?_;refine l_1 hv' ?_;refine a_5 ?_;refine ak_ (n_k ?_);refine s_r 9 ?_;refine a_8 ?_;refine o_1n (.store rfl rfl hg rfl rfl rfl TS.h (nle rfl)) ?_;refine ak_ ?_;refine r_m 3 ?_;refine a_z ?_;refine r_m 3 ?_;refine a_z ?_;have hm:((d:Int)+(u:Int) * v+c) % 32768=(((d+u* v+c) % 32768:Nat):Int):=by rw[hxyi];omega
 have hq:((d:Int)+(u:Int) * v+c) / 32768=(((d+u* v+c) / 32768:Nat):Int):=by rw[hxyi];omega
 refine⟨(q.set (i+k) ((d+u* v+c) % 32768),k+1,(d+u* v+c) / 32768),by simp;omega,⟨by simp[jlen],by simp;omega,kt_ jdig (Nat.mod_lt _ (by decide)),?_,?_,?_⟩,?_⟩;show _< 32768;simp only;omega;simp only;have e1:=iy_ UB ((d+u* v+c) % 32768) hd;have e2:=Nat.mod_add_div (d+u* v+c) 32768
 have e3:UB^ (i+k) * ((d+u* v+c) % 32768)+UB^ (i+(k+1)) * ((d+u* v+c) / 32768)=UB^ (i+k) * d+UB^ (i+k) * (u* v)+UB^ (i+k) * c:=by
  rw[←Nat.add_assoc i k 1,Nat.pow_succ,Nat.mul_assoc,←Nat.mul_add,show UB* ((d+u* v+c) / 32768)=32768* ((d+u* v+c) / 32768) from rfl,e2,Nat.mul_add,Nat.mul_add]
 have e4:UB^ i* u* ofD UB ((digs UB y.natAbs).take (k+1))=UB^ i* u* ofD UB ((digs UB y.natAbs).take k)+UB^ (i+k) * (u* v):=by
  rw[bn_ _ hv,Nat.mul_add];congr 1;rw[Nat.pow_add];simp only[Nat.mul_assoc,Nat.mul_left_comm,Nat.mul_comm]
 rw[e4];omega;intro j hj hj2;rw[List.getElem?_set_ne (by omega)];exact jzer j hj (by simpa using hj2);simp only[zmT.eq_1];have hset2:=hset ((d+u* v+c) % 32768);rw[←hm] at hset2;refine s_x [] (fun hs=>?_) (fun hs=>?_) ?_
 ·repeat' (first|exact aD_|refine an_ rfl ?_ ?_|exact Cv.loE hs (congrArg (fun z=>AV.v (.int .i64 z)) hq) (ad_ _)|exact au_c)
 ·repeat' (first|exact au_|refine h_c ?_ ?_|exact ay_ hs hset2 (bM_ _)|exact au_e|refine ar_ ?_|exact am_|refine ae_ ?_ ?_|exact Cv.loE hs (congrArg (fun z=>AV.v (.int .i64 z)) hq) (ad_ _)|exact au_c)
 ·repeat' (first|exact ShrL.nil|refine ShrL.cons rfl rfl rfl rfl (by first|(exact congrArg List.length hset2)|rfl|(simp;done)|(simp <;> omega)) ?_)
 have hk:k=(digs UB y.natAbs).length:=by have:=of_decide_eq_false h;omega
 refine ao_ ⟨(q,k,c),⟨⟨jlen,jle,jdig,jcar,jval,jzer⟩,hk⟩,?_⟩;simp only[zmT.eq_1];exact s_e [];rintro⟨q,k,c⟩ ⟨⟨jlen,jle,jdig,jcar,jval,jzer⟩,hk⟩;simp only at jlen jle jdig jcar jval jzer hk;subst hk;have hc1:c< 32768:=jcar;have hz:=jzer (i+(digs UB y.natAbs).length) (Nat.le_refl _) (by omega);have hidx:(((zd x.natAbs).length:Int)- 1- i).toNat=q.length- 1- (i+(digs UB y.natAbs).length):=by omega
 have hg:(iE q.reverse)[0+(((zd x.natAbs).length:Int)- 1- i).toNat]?=some [i64 0]:=by rw[hidx,Nat.zero_add];exact fG_ (qH_ hz)
 have hset:(iE q.reverse).set (0+(((zd x.natAbs).length:Int)- 1- i).toNat) [i64 c]=iE (q.set (i+(digs UB y.natAbs).length) c).reverse:=by rw[hidx,Nat.zero_add,iJ_,qG_ (by omega)]
 rw[List.take_length,vb] at jval;rw[zmT.eq_1];refine r_m 5 ?_;refine a_4 ?_;refine o_1n (.store rfl rfl hg rfl rfl rfl TS.h (nle rfl)) ?_;refine ak_ ?_;refine r_m 3 ?_;refine a_z ?_;refine⟨(q.set (i+(digs UB y.natAbs).length) c,i+1),by simp;omega,⟨by simp[jlen],by simp;omega,kt_ jdig jcar,?_,?_⟩,?_⟩;simp only;have e1:=iy_ UB c hz;rw[bn_ _ hu,Nat.add_mul,←jval];omega;intro j hj hj2;rw[List.getElem?_set_ne (by simp only at hj;omega)];exact jzer j (by simp only at hj;omega) (by simpa using hj2);simp only[zmS.eq_1];refine s_x [] (fun hs=>au_f) (fun hs=>?_) e_31
 ·repeat' (first|exact au_|refine h_c ?_ ?_|refine ay_ hs hset (bM_ _)|exact au_e)
 have hi:i=(digs UB x.natAbs).length:=by have:=of_decide_eq_false h;omega
 refine ao_ ⟨(o,i),⟨⟨hlen,hle,hdig,hval,hzer⟩,hi⟩,?_⟩;simp only[zmS.eq_1];exact s_e [];rintro⟨o,i⟩ ⟨⟨hlen,hle,hdig,hval,hzer⟩,hi⟩;simp only at hlen hle hdig hval hzer hi;subst hi;rw[List.take_length,va] at hval;rw[zmS.eq_1];have hol:o.length=(zd x.natAbs).length+(zd y.natAbs).length:=by omega
 have hw:=e1_ (sgZ x* sgZ y) o.reverse (x* y) (by simp;omega) (fun d h=>hdig d (List.mem_reverse.1 h)) (by unfold hv;rw[List.reverse_reverse,hval,Int.natAbs_mul]) (fun _=>(sgZ_mul x y).symm);have hfull:((iE o.reverse).drop 0).take ((zd x.natAbs).length+(zd y.natAbs).length)=iE o.reverse:=by rw[List.drop_zero,List.take_of_length_le (by simp;omega)]
 refine s_r 8 ?_;refine a_4 ?_;refine o_0 (.bin rfl rfl (k8_ hss)) ?_;refine a_1 ?_;refine o_1 (.callS1 rfl rfl rfl (.keep (.shut rfl d_n (.nil))) rfl ((by rw[hfull];exact hw))) ?_;refine a_z ?_;exact ag_ (c_e (bz_ _))
end Go.Proofs.YtjkddcfoolilbaaGreatDoor
