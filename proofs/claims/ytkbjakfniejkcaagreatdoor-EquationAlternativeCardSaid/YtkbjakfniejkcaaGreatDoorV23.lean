/- Part V23 of the proof. -/
import Derived.Test.YtkbjakfniejkcaaGreatDoorV22
set_option linter.all false
namespace Go.Proofs.YtkbjakfniejkcaaGreatDoor
open Go.Abs
set_option maxRecDepth 20000
set_option maxHeartbeats 2000000
def prS(t:Lq):Nat×Nat->AState
 |(i,d)=>⟨[(0,.arr (pE t)),(3,.lptr 1 0 0),(4,.lptr 2 0 0),(13,.arr (pE t)),(14,i64 t.length),(15,i64 i)],[(1,some ⟨36,3,[qC (nQ d)]⟩),(2,some ⟨36,3,[qC 0]⟩)],3,47⟩
def prT(t:Lq)(D:Nat):Nat×Nat->AState
 |(i,n)=>⟨[(0,.arr (pE t)),(3,.lptr 1 0 0),(4,.lptr 2 0 0),(29,.arr (pE t)),(30,i64 t.length),(31,i64 i)],[(1,some ⟨36,3,[qC (nQ D)]⟩),(2,some ⟨36,3,[qC (nQ n)]⟩)],3,47⟩
theorem zP{l:Lq}{i:Nat}(h:i< l.length):l.drop i=coP l i::l.drop (i+1):=by
 rw[List.drop_eq_getElem_cons h];congr 1;have:=ci h;rw[List.getElem?_eq_getElem h] at this;exact Option.some.inj this
theorem J1(a b:Nat):bl (Nat.gcd a b)<=max (bl a) (bl b):=by
 rcases Nat.eq_zero_or_pos a with h|h
 subst h;rw[Nat.gcd_zero_left];exact Nat.le_max_right _ _;exact Nat.le_trans (dI (Nat.gcd_le_left b h)) (Nat.le_max_left _ _)
theorem qK(p:Lq)(h:u4 p)(h0:ao p≠[]):FS 196 [.arr (pE p)] (.arr (pE (b4 p))):=by
 obtain⟨t,C⟩:∃t,t=ao p:=⟨_,rfl⟩;obtain⟨s,hs⟩:∃s,s=mxL p:=⟨_,rfl⟩;have hs1:1<=s:=by rw[hs];exact eO p
 have g:bdL t s:=fun q hq=>by rw[hs];exact e8 p q (cI (by rw[<-C];exact hq))
 have M:t.length<=p.length:=by rw[C];exact bR p
 obtain⟨H,Z⟩:=h;rw[<-hs] at H;have hts:t.length* s<=p.length* s:=Nat.mul_le_mul_right _ M;rw[Nat.add_mul] at H;obtain⟨D,G⟩:∃D,D=iy t 1:=⟨_,rfl⟩;have Q:D≠0:=by rw[G];exact ri t (by decide)
 have hDb:bl D<=1+t.length* s:=by rw[G];exact zW t 1 g
 have F:∀c∈t,c.den∣D:=by rw[G];exact(lL t 1).2
 obtain⟨N,T⟩:∃N,N=iN D t 0:=⟨_,rfl⟩
 have b:aM p∈t:=by
  rw[C];obtain⟨n,w⟩:∃n,(ao p).length=n+1:=⟨(ao p).length- 1,by have:=List.length_pos_iff.2 h0;omega⟩;exact List.mem_of_getElem? (dn w)
 have l:=(qq D t 0).2 (aM p) b;rw[<-T] at l;have X:=y8 (F _ b) Q (dd h0);have S:N≠0:=fun e=>X (by rw[e] at l;exact Nat.zero_dvd.1 l);have hNb:bl N<=s+bl D:=Nat.le_trans (dI (Nat.le_of_dvd (by omega) l)) (Nat.le_trans (y9 _ _) (by have:=g _ b;omega));have R:b4 p=ba t (nQ D/ nQ N):=by unfold b4;rw[<-C,<-G,<-T]
 rw[R];have f:∀i,i< t.length->(pE t)[((i:Nat):Int).toNat]?=some (qC (coP t i)):=fun i u=>pE_get (ci u);have j:∀i,i< t.length->coP t i∈t:=fun i u=>List.mem_of_getElem? (ci u);have J:=c9 p (by omega);rw[<-C] at J;refine f_c Tryz.func196 ?_;refine r_z 1 ?_;refine r_c 3 (J) ?_;refine a_z ?_;refine r_c 6 (dU 1 (by decide)) ?_;refine a_z ?_;refine ae (r_z 3 ?_);refine aF (fun _:Unit=>⟨[(0,.arr (pE t)),(3,.lptr 1 0 0),(4,.lptr 2 0 0)],[(1,some ⟨36,3,[qC (nQ D)]⟩),(2,some ⟨36,3,[qC 0]⟩)],3,47⟩) (fun _=>True) ?_ ?_;refine aj (aC (prS t) (fun x=>t.length- x.1) (fun x=>x.1<=t.length/\x.2≠0/\iy (t.drop x.1) x.2=D) (0,1) ⟨Nat.zero_le _,by decide,by rw[G];rfl⟩ ?_ ?_);simp only[prS.eq_1];rw[qC0];exact s_e [(1,3),(2,4)];rintro⟨i,d⟩ ⟨u,y,z⟩;simp only at u y z;rw[prS.eq_1];refine r_z 1 ?_;refine ae (au rfl (fun h=>?_) (fun h=>?_));refine am ?_;have a:i< t.length:=by simpa using h
 have hc:=g _ (j i a);have hcd:=ed (coP t i);have L:=(coP t i).den_nz;rw[zP a] at z;have O:d∣D:=by rw[<-z];exact(lL _ d).1
 have hdb:=dI (Nat.le_of_dvd (by omega) O);have A:=nh (n:=d) (k:=34359738368) (by omega) (by decide);have Y:=nh (n:=(coP t i).den) (k:=34359738368) (by omega) (by decide);have m:=c6 (nQ d) (nQ (coP t i).den) (by omega);have r:=vw d (coP t i).den (by omega) (by omega);have v:Nat.gcd d (coP t i).den≠0:=by have:=Nat.gcd_pos_of_pos_left (coP t i).den (Nat.pos_of_ne_zero y);omega
 have U:=J1 d (coP t i).den;have V:=nh (n:=Nat.gcd d (coP t i).den) (k:=34359738368) (by omega) (by decide);have K:=dw (nQ d) (nQ (coP t i).den);rw[Iz] at K m;have E:=iu (nQ (d* (coP t i).den)) (nQ (Nat.gcd d (coP t i).den)) (fun e=>v (nQ_zero.1 e)) (by omega);rw[yY _ _ v,xj _ _ v (Nat.dvd_mul_right_of_dvd (Nat.gcd_dvd_left _ _) _)] at E;refine ae (aj (s_r 4 ?_))
 first|refine aY (.index_l rfl rfl (by omega) (by omega) te_38.h) rfl rfl ?_|refine aY (.index_a rfl rfl (by omega) (f i a) rfl te_38.h) rfl rfl ?_
 first|refine aY (.load_l rfl rfl (f i a) TG.h TS.h (nle rfl)) rfl rfl ?_|refine aY (.load_a rfl (f i a) TG.h TS.h (nle rfl)) rfl rfl ?_
 refine a_z ?_;refine r_d a7 10 ?_;refine c_s (Je (coP t i) (by unfold sm;omega)) ?_;refine c_s (m) ?_;refine c_s (Je (coP t i) (by unfold sm;omega)) ?_;refine c_s (r) ?_;refine c_s (E) ?_;refine a_1 ?_;refine aq (n_k ?_);refine r_m 2 ?_;refine a_z ?_;refine⟨(i+1,Nat.lcm d (coP t i).den),by simp only;omega,⟨a,Fg y L,z⟩,?_⟩;simp only[prS.eq_1];exact s_e []
 have o:i=t.length:=by
  have:¬i< t.length:=by simpa using h
  omega
 subst o;rw[List.drop_length] at z;refine ax ⟨(),trivial,?_⟩;rw[<-z];exact s_e [];rintro _ _;refine ae (r_z 3 ?_);refine aF (fun _:Unit=>⟨[(0,.arr (pE t)),(3,.lptr 1 0 0),(4,.lptr 2 0 0)],[(1,some ⟨36,3,[qC (nQ D)]⟩),(2,some ⟨36,3,[qC (nQ N)]⟩)],3,47⟩) (fun _=>True) ?_ ?_;refine aj (aC (prT t D) (fun x=>t.length- x.1) (fun x=>x.1<=t.length/\bl x.2<=s+bl D/\iN D (t.drop x.1) x.2=N) (0,0) ⟨Nat.zero_le _,by rw[bl_zero];exact Nat.zero_le _,by rw[T];rfl⟩ ?_ ?_);simp only[prT.eq_1];exact s_e [];rintro⟨i,n⟩ ⟨u,W,w⟩;simp only at u W w;rw[prT.eq_1];refine r_z 1 ?_;refine ae (au rfl (fun h=>?_) (fun h=>?_));refine am ?_;have a:i< t.length:=by simpa using h
 have hc:=g _ (j i a);rw[zP a] at w;have hib:=y9 (coP t i) D;have U:=J1 n (iF (coP t i) D);have A:=nh (n:=D) (k:=34359738368) (by omega) (by decide);have m:=c6 (coP t i) (nQ D) (by omega);have B:=sf (coP t i* nQ D);rw[qt _ _ (F _ (j i a))] at B;have r:=vw n (iF (coP t i) D) (by omega) (by omega);refine ae (aj (s_r 4 ?_))
 first|refine aY (.index_l rfl rfl (by omega) (by omega) te_38.h) rfl rfl ?_|refine aY (.index_a rfl rfl (by omega) (f i a) rfl te_38.h) rfl rfl ?_
 first|refine aY (.load_l rfl rfl (f i a) TG.h TS.h (nle rfl)) rfl rfl ?_|refine aY (.load_a rfl (f i a) TG.h TS.h (nle rfl)) rfl rfl ?_
 refine a_z ?_;refine r_d a7 7 ?_;refine c_s (m) ?_;refine c_s (B) ?_;refine c_s (r) ?_;refine a_1 ?_;refine aq (n_k ?_);refine r_m 2 ?_;refine a_z ?_;refine⟨(i+1,Nat.gcd n (iF (coP t i) D)),by simp only;omega,⟨a,by simp only;omega,w⟩,?_⟩;simp only[prT.eq_1];exact s_e []
 have o:i=t.length:=by
  have:¬i< t.length:=by simpa using h
  omega
 subst o;rw[List.drop_length] at w;refine ax ⟨(),trivial,?_⟩;rw[<-w];exact s_e [];rintro _ _;have A:=nh (n:=D) (k:=34359738368) (by omega) (by decide);have Y:=nh (n:=N) (k:=34359738368) (by omega) (by decide);have V:=ik (nQ D) (nQ N);refine r_c 6 (iu (nQ D) (nQ N) (fun e=>S (nQ_zero.1 e)) (by omega)) ?_;refine c_s (fK t (nQ D/ nQ N) (dG g (by omega)) (by unfold sm;omega) (by omega)) ?_;refine a_z ?_;exact ai (t_e (aB _))
theorem wE(f:Nat)(p r:Lq)(h:o5 f p=some r):FS 154 [.arr (pE p)] (.arr (pE r)):=by
 unfold o5 at h;split at h
 case isFalse=>cases h
 case isTrue hs=>
 obtain⟨g,c,a⟩:=Option.bind_eq_some_iff.1 h;split at a
 case isFalse=>cases a
 case isTrue hg2=>
 cases a;have d:=kQ p;have b:=rf (p:=p) (q:=g);refine f_c Tryz.func154 ?_;refine r_z 1 ?_;refine r_c 11 (si p hs.1 (by omega)) ?_;refine c_s (Jm f p (bi p) g c hs.2 (by omega)) ?_;refine c_s (r9 p g (mxL p) (mxL g) (e8 p) (e8 g) (eO p) (eO g) hg2.2.1 hg2.1 hs.2 hg2.2.2.2) ?_;refine a_z ?_;refine r_c 3 (vn (dq p g).1 (zT hg2.2 hg2.1).1 (by omega)) ?_;refine a_z ?_;exact ai (t_e (aB _))
theorem Bp(p:Lq)(hp:p.length<=1099511627776):FS 101 [.arr (pE p)] (i64 (kX p)):=by
 refine f_c Tryz.func101 ?_;refine r_z 1 ?_;refine ae (r_c 3 (db p hp) ?_);refine a_z ?_;refine aF (fun _:Unit=>⟨[],[],1,12⟩) (fun _=>kX p=0) ?_ ?_;refine aj (r_z 3 ?_);refine au rfl (fun h=>?_) (fun h=>?_);have a:bO p< 0:=by simpa using h
 refine r_z 1 ?_;refine ai (aW rfl ?_ ?_);unfold kX;rw[if_pos a];rfl;exact ag _;have a:¬bO p< 0:=by simpa using h
 refine r_z 3 ?_;refine au rfl (fun b=>?_) (fun b=>?_);have c:40< bO p:=by simpa using b
 refine r_z 1 ?_;refine ai (aW rfl ?_ ?_);unfold kX;rw[if_neg a,if_pos c];rfl;exact ag _;have c:¬40< bO p:=by simpa using b
 refine am ⟨(),by unfold kX;rw[if_neg a,if_neg c],?_⟩;exact s_e [];rintro _ d;refine r_z 1 ?_;refine ai (aW rfl ?_ ?_);rw[d];rfl;exact ag _
def boS(t:Lq)(l:Lq):Nat×Rat->AState
 |(i,m)=>⟨[(0,.arr (pE t)),(2,.lptr 1 0 0),(3,.lptr 2 0 0),(13,.arr (pE l)),(14,i64 l.length),(15,i64 i)],[(1,some ⟨36,3,[zC]⟩),(2,some ⟨36,3,[qC m]⟩)],3,31⟩
theorem vy(p:Lq)(h:oD p)(h0:ao p≠[]):FS 100 [.arr (pE p)] (.agg (qC (a8 p))):=by
 obtain⟨G,F⟩:=h;obtain⟨t,f⟩:∃t,t=ao p:=⟨_,rfl⟩;have o:=c9 p (by omega);have w:=bR p;rw[<-f] at o w;obtain⟨l,s⟩:∃l,l=t.take (t.length- 1):=⟨_,rfl⟩;have a:l.length=t.length- 1:=by rw[s];simp
 have v:bdL l (mxL p):=fun q y=>e8 p q (cI (by rw[<-f];exact List.mem_of_mem_take (by rw[<-s];exact y)));have D:0< t.length:=by rw[f];exact List.length_pos_iff.2 h0
 have e:aM t=aM p:=by rw[f,Dj]
 have L:qs (aM p)<=mxL p:=by
  obtain⟨n,K⟩:∃n,(ao p).length=n+1:=⟨(ao p).length- 1,by rw[<-f];omega⟩;exact e8 p _ (cI (List.mem_of_getElem? (dn K)))
 have hb:a8 p=boL (aM p) l 0+1:=by unfold a8;rw[<-f,<-s]
 rw[hb];obtain⟨B,E⟩:∃B,B=boL (aM p) l 0:=⟨_,rfl⟩;rw[<-E];refine f_c Tryz.func100 ?_;refine r_z 1 ?_;refine r_c 3 (o) ?_;refine a_z ?_;refine r_z 3 ?_;refine ae (s_r 7 ?_);refine a_4 ?_;refine o_0 (.sa_h rfl rfl (h:=t.length- 1) (by omega) (by simp) te_38.h (mj _)) ?_;refine a_z ?_;refine aF (fun _:Unit=>⟨[(2,.lptr 1 0 0),(3,.lptr 2 0 0)],[(1,some ⟨36,3,[zC]⟩),(2,some ⟨36,3,[qC B]⟩)],3,31⟩) (fun _=>qs B<=2* mxL p+1) ?_ ?_;refine aj (aC (boS t l) (fun x=>l.length- x.1) (fun x=>x.1<=l.length/\qs x.2<=2* mxL p+1/\boL (aM p) (l.drop x.1) x.2=B) (0,0) ⟨Nat.zero_le _,Nat.le_trans (by decide:qs 0<=1) (Nat.le_add_left 1 _),by rw[E];rfl⟩ ?_ ?_);simp only[boS.eq_1];rw[qC0];have d:AV.arr (List.take (t.length- 1) (pE t))=AV.arr (pE l):=by rw[s,tG]
 refine s_x [(1,2),(2,3)] (fun hs=>?_) (fun hs=>?_) ?_
 ·repeat' (first|exact aP|refine ay rfl ?_ ?_|exact Cv.loE hs d (d▸aB l)|exact aX|(refine Cv.loE hs ?_ (ag _);first|rfl|(simp[i64,u64,u32,bln,a];done)|(simp[i64,u64,u32,bln,a]<;> omega)))
 ·repeat' (first|exact aE|refine h_c ?_ ?_|exact bZ|(refine aI hs ?_ (aJ _);first|(simp[jy,lh,a];done)|(simp[pE,ofV,a];done))|refine aD ?_|exact av|refine ah ?_ ?_|exact Cv.loE hs d (d▸aB l)|exact aX|(refine Cv.loE hs ?_ (ag _);first|(simp[i64,u64,u32,bln,a];done)|(simp[i64,u64,u32,bln,a]<;> omega)))
 ·repeat' (first|exact ShrL.nil|refine ShrL.cons rfl rfl rfl rfl (by first|rfl|(simp;done)|(simp[a]<;> omega)) ?_)
 rintro⟨i,m⟩ ⟨J,C,b⟩;simp only at J C b;rw[boS.eq_1];refine r_z 1 ?_;refine ae (au rfl (fun h=>?_) (fun h=>?_));refine am ?_;have c:i< l.length:=by simpa using h
 have j:(pE l)[((i:Nat):Int).toNat]?=some (qC (coP l i)):=pE_get (ci c);have N:qs (coP l i)<=mxL p:=v _ (List.mem_of_getElem? (ci c));rw[zP c] at b;have y:=ik (coP l i) (aM p);have r:=qS t (by omega);rw[e] at r;have H:=C4 (coP l i/ aM p)
 have g:bdL [m,fq (coP l i/ aM p)] (2* mxL p+1):=by
  intro x A;rcases List.mem_cons.1 A with rfl|A
  exact C;rw[List.mem_singleton.1 A];omega
 have z:=zg [m,fq (coP l i/ aM p)] (dG g (by omega)) (by simp);refine ae (aj (s_r 4 ?_));refine i_x j ?_;refine l_x j ?_;refine a_z ?_;refine r_d a7 9 ?_;refine c_s (r) ?_;refine c_s (iu (coP l i) (aM p) (dd h0) (by omega)) ?_;refine c_s (sf (coP l i/ aM p)) ?_;refine a_1 ?_;refine o_1 (.callS1 rfl rfl rfl (.shut rfl d_n (.nil)) rfl (z)) ?_;refine a_1 ?_;refine aq (n_k ?_);refine r_m 2 ?_;refine a_z ?_;refine⟨(i+1,lr [m,fq (coP l i/ aM p)]),by simp only;omega,⟨c,Fc g (Nat.le_add_left 1 _),b⟩,?_⟩;simp only[boS.eq_1];exact s_e []
 have u:i=l.length:=by
  have:¬i< l.length:=by simpa using h
  omega
 subst u;rw[List.drop_length] at b;have k:m=B:=b;subst k;refine ax ⟨(),C,?_⟩;exact s_e [];rintro _ y;have M:qs 1=1:=by decide
 refine ae (r_d a7 4 ?_);refine c_s (dU 1 (by decide)) ?_;refine c_s (fy B 1 (by omega)) ?_;refine a_1 ?_;refine aq (n_k ?_);exact ai (c_e (aS _))
def stS:Lq×Lw->AState
 |(next,acc)=>⟨[(3,.lsl 1 0 acc.length none 1),(4,.arr (pE next))],[(1,some ⟨38,1,cE acc⟩)],2,40⟩
theorem CM(next:Lq)(acc:Lw):stS (next,acc)=⟨[(3,.lsl 1 0 acc.length none 1),(4,.arr (pE next))],[(1,some ⟨38,1,cE acc⟩)],2,40⟩:=rfl
theorem Gj(p:Lq):(b4 p).length<=p.length:=
 Nat.le_trans (dJ _ _) (bR p)
theorem I0(f:Nat)(p:Lq)(r:Lw)(h:l8 f p=some r)(hf:f<=1000000):FS 155 [.arr (pE p)] (.arr (cE r)):=by
 unfold l8 at h;split at h
 case isFalse=>cases h
 case isTrue hp=>
 have t:=kQ p;have l:=hp.2.1.2;refine f_c Tryz.func155 ?_;refine r_z 1 ?_;refine r_c 4 (qK p hp.2.1 hp.2.2) ?_;refine a_z ?_;refine ae (r_c 3 (si p hp.1 (by omega)) ?_);refine a_z ?_;refine aF (fun _:Unit=>⟨[(3,.lsl 1 0 r.length none 1)],[(1,some ⟨38,1,cE r⟩)],2,40⟩) (fun _=>True) ?_ ?_
 ·refine aj (aC (fun x:Nat×Lq×Lq×Lw=>stS x.2.2) (fun x=>x.1) (fun x=>oc f x.1 x.2.1 x.2.2.1 x.2.2.2=some r/\x.2.2.1.length<=274877906944/\x.2.2.2.length+x.1<=1000001/\1<=x.2.2.2.length/\x.2.2.2[x.2.2.2.length- 1]?=some x.2.1) (f,b4 p,bi p,[b4 p]) ⟨h,by simp only;omega,by simp only[List.length_singleton];omega,by simp,rfl⟩ ?_ ?_)
  simp only[CM];have:=jR [b4 p];exact s_f [(1,3)];rintro⟨k,last,next,a⟩ ⟨h,u,m,i,b⟩;simp only at h u m i b;simp only[CM];cases k with
  |zero=>cases h
  |succ k=>
   rw[oc] at h;refine ae (r_c 3 (db next (by omega)) ?_);refine a_z ?_;refine au rfl (fun j=>?_) (fun j=>?_)
   ·have g:ao next≠[]:=by
     intro e;have e2:=degP_neg.2 e;simp at j;omega
    rw[if_neg g] at h;split at h
    case isFalse=>cases h
    case isTrue hs=>
    have v:=Gj next
    have s:=rf (p:=last) (q:=b4 next);have o:=dJ (dq last (b4 next)).2 (-1);have n:=hs.2.1.2.1
    have c:(cE (a++[b4 next]))[0+(((a.length+1:Nat):Int)- 2).toNat]?=some [.arr (pE last)]:=by
     rw[show 0+(((a.length+1:Nat):Int)- 2).toNat=a.length- 1 by omega];exact Eg (by rw[List.getElem?_append_left (by omega)];exact b)
    have d:(cE (a++[b4 next]))[0+(((a.length+1:Nat):Int)- 1).toNat]?=some [.arr (pE (b4 next))]:=by
     rw[show 0+(((a.length+1:Nat):Int)- 1).toNat=a.length by omega];exact Eg (by simp)
    refine am (aj (r_c 6 (qK next hs.1 g) ?_));refine a_z ?_;refine AWp.ent (st':=⟨[(3,.lsl 1 0 (a.length+1) none 1)],[(1,some ⟨38,1,cE (a++[b4 next])⟩)],2,40⟩) ?_ ?_
    ·have:=(cE_snoc a (b4 next)).symm
     exact s_f [(1,3)]
    refine ae (r_d a7 18 ?_);refine a_5 ?_
    first|refine aY (.load_l1 rfl rfl c TG.h rfl) rfl rfl ?_|refine aY (.load_a1 rfl c TG.h rfl) rfl rfl ?_
    refine a_5 ?_
    first|refine aY (.load_l1 rfl rfl d TG.h rfl) rfl rfl ?_|refine aY (.load_a1 rfl d TG.h rfl) rfl rfl ?_
    refine c_s (r9 last (b4 next) (mxL last) (mxL (b4 next)) (e8 _) (e8 _) (eO _) (eO _) hs.2.1.1 hs.2.2 hs.2.1.2.1 hs.2.1.2.2) ?_;refine a_5 ?_;refine aq (n_k ?_);refine r_m 4 ?_;refine c_s (dU (-1) (by decide)) ?_;refine c_s (fK (dq last (b4 next)).2 (-1) (zT hs.2.1 hs.2.2).2 (by decide) (by omega)) ?_;refine a_z ?_;refine⟨(k,b4 next,ba (dq last (b4 next)).2 (-1),a++[b4 next]),Nat.lt_succ_self k,⟨h,by simp only;omega,by simp only[List.length_append,List.length_singleton];omega,by simp,by simp⟩,?_⟩;have b:(a++[b4 next]).length=a.length+1:=by simp
    simp only[CM,b];exact s_f []
   ·have g:ao next=[]:=by
     refine degP_neg.1 ?_;simp at j;omega
    rw[if_pos g] at h;cases h;refine ax ⟨(),trivial,?_⟩;exact s_f []
 rintro _ _;refine r_z 2 ?_;exact ai (Fin.tmpS rfl rfl rfl (by simp) (jR r))
def chS(ch:Lw)(g:Nat)(cap:La):Nat×Int×Int->AState
 |(i,n,last)=>⟨[(1,.clos g [] cap),(5,i64 n),(6,i64 last),(10,.arr (cE ch)),(11,i64 ch.length),(12,i64 i)],[],1,30⟩
theorem vx(ch:Lw)(g:Nat)(cap:La)(sg:Lq->Int)(hcap:∀c∈cap,Closed c)(hsg:∀q∈ch,-1<=sg q/\sg q<=1)(hl:ch.length<=274877906944)(hg:∀q∈ch,FS g ((.arr (pE q)::cap).map coe) (i64 (sg q))):FS 156 [.arr (cE ch),.clos g [] cap] (i64 (chL (ch.map sg) 0 0)):=by
 refine f_n Tryz.func156 ?_ ?_;exact ac (oY ch) (ac (aR af hcap) af);refine r_z 1 ?_;refine r_z 2 ?_;refine ae (r_z 3 ?_);obtain⟨R,y⟩:∃R,R=chL (ch.map sg) 0 0:=⟨_,rfl⟩;rw[<-y];refine aF (fun _:Unit=>⟨[(5,i64 R)],[],1,30⟩) (fun _=>True) ?_ ?_;refine aj (aC (chS ch g cap) (fun x=>ch.length- x.1) (fun x=>x.1<=ch.length/\0<=x.2.1/\x.2.1<=x.1/\ -1<=x.2.2/\x.2.2<=1/\chL ((ch.drop x.1).map sg) x.2.1 x.2.2=R) (0,0,0) ⟨Nat.zero_le _,by decide,by decide,by decide,by decide,by rw[y];rfl⟩ ?_ ?_);simp only[chS.eq_1];exact s_x [] (fun hs=>e_3) (fun hs=>e_16);rintro⟨i,n,last⟩ ⟨A,j,t,k,m,b⟩;simp only at A j t k m b;rw[chS.eq_1];refine r_z 1 ?_;refine ae (au rfl (fun h=>?_) (fun h=>?_));refine am ?_;have a:i< ch.length:=by simpa using h
 obtain⟨q,p⟩:∃q,ch[i]?=some q:=⟨_,List.getElem?_eq_getElem a⟩;have o:=List.mem_of_getElem? p;have l:(cE ch)[((i:Nat):Int).toNat]?=some [.arr (pE q)]:=Eg p
 have z:ch.drop i=q::ch.drop (i+1):=by
  rw[List.drop_eq_getElem_cons a];rw[List.getElem?_eq_getElem a] at p;rw[Option.some.inj p]
 rw[z,List.map_cons,chL] at b;have d:=hsg q o;refine ae (aj (s_r 3 ?_));refine i_x l ?_;refine l_1 l ?_;refine a_z ?_;refine r_c 4 (hg q o) ?_;refine a_z ?_;refine r_z 2 ?_;refine au rfl (fun v=>?_) (fun v=>?_);have f:sg q≠0:=by simpa using v
 rw[if_pos f] at b;refine ae (r_z 4 ?_);refine au rfl (fun s=>?_) (fun s=>?_);have w:sg q= -last:=by simpa using s
 rw[if_pos w] at b;refine r_m 3 ?_;refine a_z ?_;refine r_m 2 ?_;refine a_z ?_;refine r_m 2 ?_;refine a_z ?_;refine⟨(i+1,n+1,sg q),by simp only;omega,⟨a,by simp only;omega,by simp only;omega,d.1,d.2,b⟩,?_⟩;simp only[chS.eq_1];exact s_x [] (fun hs=>e_3) (fun hs=>e_16);have w:¬sg q= -last:=by simpa using s
 rw[if_neg w] at b;refine am (r_m 2 ?_);refine a_z ?_;refine r_m 2 ?_;refine a_z ?_;refine⟨(i+1,n,sg q),by simp only;omega,⟨a,j,by simp only;omega,d.1,d.2,b⟩,?_⟩;simp only[chS.eq_1];exact s_x [] (fun hs=>e_3) (fun hs=>e_16);have f:sg q=0:=by simpa using v
 rw[if_neg (fun e=>e f)] at b;refine am (r_m 2 ?_);refine a_z ?_;refine⟨(i+1,n,last),by simp only;omega,⟨a,j,by simp only;omega,k,m,b⟩,?_⟩;simp only[chS.eq_1];exact s_x [] (fun hs=>e_3) (fun hs=>e_16)
 have r:i=ch.length:=by
  have:¬i< ch.length:=by simpa using h
  omega
 subst r;rw[List.drop_length] at b;have u:n=R:=b;subst u;refine ax ⟨(),trivial,?_⟩;exact s_e [];rintro _ _;refine r_z 2 ?_;exact ai (t_e (ag _))
theorem DN(q:Lq)(h0:ao q≠[])(hl:q.length<=274877906944):FS 157 [.arr (pE q)] (i64 (sgI q)):=by
 have b:¬bO q< 0:=fun e=>h0 (degP_neg.1 e);have hb:=ot (aM q).num;refine f_c Tryz.func157 ?_;refine r_z 1 ?_;refine ae (r_c 4 (db q (by omega)) ?_);refine a_z ?_;refine au rfl (fun h=>?_) (fun h=>?_);have a:bO q % 2=1:=by simpa using h
 refine r_c 5 (qS q (by omega)) ?_;refine c_s (cC (aM q)) ?_;refine a_z ?_;refine ai (aW rfl ?_ ?_);unfold sgI;rw[if_pos a];rfl;exact ag _;have a:¬bO q % 2=1:=by simpa using h
 refine am (r_c 4 (qS q (by omega)) ?_);refine c_s (cC (aM q)) ?_;refine a_z ?_;refine ai (aW rfl ?_ ?_);unfold sgI;rw[if_neg a];exact ag _
theorem lG(f:Nat)(p:Lq)(c:Cnt)(h:dz f p=some c)(hf:f<=1000000):FS 102 [.arr (pE p)] (kA c):=by
 unfold dz at h;obtain⟨s,hs,g⟩:=Option.bind_eq_some_iff.1 h;obtain⟨ch,d,a⟩:=Option.bind_eq_some_iff.1 g;split at a
 case isFalse=>cases a
 case isTrue hk=>
 cases a;have b:=vx ch 157 [] sgI af (fun q _=>sgI_abs q) hk.2.1 (fun q e=>DN q (hk.1 q e).1 (hk.1 q e).2);refine f_c Tryz.func102 ?_;refine r_z 1 ?_;refine r_c 5 (wE f p s hs) ?_;refine a_z ?_;refine r_c 9 (I0 f s ch d hf) ?_;refine a_z ?_;refine r_c 9 (b) ?_;refine a_z ?_;refine r_z 2 ?_;exact ai (Fin.tmpP rfl rfl rfl (xZ _))
theorem IX(q:Lq)(x:Rat)(h:gz q x):FS 158 [.arr (pE q),bQ x] (i64 (sgE x q)):=by
 refine f_c Tryz.func158 ?_;refine r_z 1 ?_;refine r_c 5 (iv q x h) ?_;refine c_s (cC (ak q x)) ?_;refine a_z ?_;exact ai (t_e (ag _))
theorem kN(c:Cnt)(x:Rat)(h:qi c x):FS 104 [kA c,.agg (qC x)] (i64 (cD c x)):=by
 have a:=vx c.ch 158 [bQ x] (sgE x) (ac (cN x) af) (fun q _=>ot _) h.1.2.1 (fun q b=>IX q x (h.2 q b));have hb:=k8 (x:=x) h.1;unfold cD at hb⊢;refine f_c Tryz.func104 ?_;refine r_z 2 ?_;refine AWp.ent (st':=⟨[(0,kA c),(3,bQ x)],[],1,16⟩) ?_ ?_;exact s_e [];refine ae (r_d a7 12 ?_);refine c_s (a) ?_;refine a_2 ?_;refine aq (n_k ?_);exact ai (t_e (ag _))
theorem kj(c:Cnt)(x:Rat)(h:nI c x):FS 103 [kA c,.agg (qC x)] (i64 (ca c x)):=by
 have hb:=k8 (x:=x) h.1.1;refine f_c Tryz.func103 ?_;refine r_z 2 ?_;refine r_c 4 (kN c x h.1) ?_;refine a_z ?_;refine bH (fun n:Int=>⟨[(5,i64 n)],[],1,20⟩) (fun n=>n=ca c x) ?_ ?_;refine ae (r_d a7 8 ?_);refine c_s (iv c.p x h.2) ?_;refine c_s (cC (ak c.p x)) ?_;refine a_1 ?_;refine aq (n_k ?_);refine au rfl (fun a=>?_) (fun a=>?_)
 have b:ak c.p x=0:=by
  have:sgZ (ak c.p x).num=0:=by simpa using a
  exact sgZ_num_eq.1 this
 refine r_m 3 ?_;refine a_z ?_;refine⟨cD c x- 1,by unfold ca;rw[if_pos b],?_⟩;exact s_e []
 have b:ak c.p x≠0:=by
  intro e;have:¬sgZ (ak c.p x).num=0:=by simpa using a
  exact this (sgZ_num_eq.2 e)
 refine am ⟨cD c x,by unfold ca;rw[if_neg b],?_⟩;exact s_e [];rintro n rfl;refine r_z 2 ?_;exact ai (t_e (ag _))
theorem fs_all(c:Cnt)(h:Ix c):FS 113 [kA c] (i64 (Hg c)):=by
 refine f_c Tryz.func113 ?_;refine r_z 1 ?_;refine r_c 8 (vy c.p h.1 h.2.1) ?_;refine c_s (kN c (a8 c.p) h.2.2) ?_;refine a_z ?_;exact ai (t_e (ag _))
theorem tS(c:Cnt)(i:Int)(x:Rat)(h:nI c x):FS 51 [plA c i,.agg (qC x)] (i64 (plC c i x)):=by
 refine f_n Tryz.func51 ?_ ?_;exact ac (dB c i) (ac (aS x) af);refine r_z 2 ?_;refine ae (ae (r_d a7 7 ?_));refine c_s (kj c x h) ?_;refine a_1 ?_;refine aq (n_k ?_);refine aF (fun _:Unit=>⟨[],[],1,36⟩) (fun _=>plC c i x=1) ?_ ?_;refine aj (r_z 7 ?_);refine au rfl (fun d=>?_) (fun d=>?_);have a:i< ca c x:=by simpa using d
 refine r_z 1 ?_;refine ai (aW rfl ?_ ?_);unfold plC;rw[if_pos a];rfl;exact ag _;have a:¬i< ca c x:=by simpa using d
 by_cases h3:ca c x=i;refine ae (r_d a7 17 ?_);refine a_7 ?_;refine y_g rfl (by simp[h3]) (.move rfl) ?_;refine y_g rfl (by simp[h3]) (.nilCheck rfl rfl) ?_;refine y_g rfl (by simp[h3]) (.fieldAddr_a rfl TF.h (by decide)) ?_;refine y_g rfl (by simp[h3]) (.load_a1 rfl rfl TG.h rfl) ?_;refine y_g rfl (by simp[h3]) (.load_l rfl rfl rfl TG.h TS.h (nle rfl)) ?_;refine y_g rfl (by simp[h3]) (.call rfl rfl rfl (kN c x h.1)) ?_;refine y_g rfl (by simp[h3]) (.move rfl) ?_;refine y_g rfl (by simp[h3]) (.bin rfl rfl kG) ?_;refine o_0 (.pickT rfl (by simp[h3]) rfl) ?_;refine a_1 ?_;refine aq (n_k ?_);refine au rfl (fun b=>?_) (fun b=>?_);have f:ca c x< cD c x:=by simpa using b
 refine r_z 1 ?_;refine ai (aW rfl ?_ ?_);unfold plC;rw[if_neg a,if_pos ⟨h3,f⟩];rfl;exact ag _;have f:¬ca c x< cD c x:=by simpa using b
 refine am ⟨(),by unfold plC;rw[if_neg a,if_neg fun e=>f e.2],?_⟩;exact s_e [];refine ae (r_d a7 17 ?_);refine a_7 ?_;refine n_g rfl (by simp[h3]) ?_;refine n_g rfl (by simp[h3]) ?_;refine n_g rfl (by simp[h3]) ?_;refine n_g rfl (by simp[h3]) ?_;refine n_g rfl (by simp[h3]) ?_;refine n_g rfl (by simp[h3]) ?_;refine n_g rfl (by simp[h3]) ?_;refine n_g rfl (by simp[h3]) ?_;refine o_0 (.pickF rfl (by simp[h3]) rfl) ?_;refine a_1 ?_;refine aq (n_k ?_);refine cF ?_;refine am ⟨(),by unfold plC;rw[if_neg a,if_neg fun e=>h3 e.1],?_⟩;exact s_e [];rintro _ g;refine r_z 1 ?_;refine ai (aW rfl ?_ ?_);rw[g];rfl;exact ag _
def hiV(c:Cnt)(step:Rat):Rat:=wn (a8 c.p/ step)
def Iw(c:Cnt)(step:Rat)(lo:Rat):Prop:=oD c.p/\ao c.p≠[]/\step≠0/\qs (a8 c.p)+qs step<=549755813888/\qs lo+qs step<=549755813888/\nI c (lo* step)
instance (c:Cnt) (step lo:Rat):Decidable (Iw c step lo):=inferInstanceAs (Decidable (_/\_/\_/\_/\_/\_))
def JJ(f:Nat)(c:Cnt)(i:Int)(step:Rat):Option (Rat×Bool):=
 (biM c i step f (-hiV c step) (hiV c step)).bind fun lo=>if Iw c step lo then some (lo* step,plC c i (lo* step)==0) else none
def dnS(c:Cnt)(i:Int)(step:Rat):Rat×Rat->AState
 |(lo,hi)=>⟨[(0,plA c i),(3,.lptr 1 0 0),(4,.lptr 2 0 0),(6,.lptr 3 0 0),(7,.lptr 4 0 0),(8,.lptr 5 0 0)],[(1,some ⟨36,3,[qC step]⟩),(2,some ⟨36,3,[zC]⟩),(3,some ⟨36,3,[qC hi]⟩),(4,some ⟨36,3,[qC lo]⟩),(5,some ⟨36,3,[qC 2]⟩)],6,52⟩
theorem fs_down(f:Nat)(c:Cnt)(i:Int)(step:Rat)(r:Rat×Bool)(h:JJ f c i step=some r):FS 270 [plA c i,.agg (qC step)] (.tup [.agg (qC r.1),bln r.2]):=by
 unfold JJ at h;obtain⟨l,o,b⟩:=Option.bind_eq_some_iff.1 h;split at b
 case isFalse=>cases b
 case isTrue hk=>
 cases b;obtain⟨j,s,m,v,n,q⟩:=hk;have y:=ik (a8 c.p) step;refine f_n Tryz.func270 ?_ ?_;exact ac (dB c i) (ac (aS step) af);refine r_z 3 ?_;refine ae (r_d a7 13 ?_);refine c_s (vy c.p j s) ?_;refine c_s (iu (a8 c.p) step m v) ?_;refine c_s (Fw (a8 c.p/ step) (by omega)) ?_;refine a_2 ?_;refine aq (n_k ?_);refine r_c 4 (ki (wn (a8 c.p/ step))) ?_;refine a_z ?_;refine r_c 3 (dU 2 (by decide)) ?_;refine a_z ?_;refine bH (fun a:Rat=>dnS c i step (l,a)) (fun _=>True) ?_ ?_
 ·refine aj (aC (fun x:Nat×Rat×Rat=>dnS c i step x.2) (fun x=>x.1) (fun x=>biM c i step x.1 x.2.1 x.2.2=some l) (f,-hiV c step,hiV c step) o ?_ ?_)
  simp only[dnS.eq_1,hiV];exact s_e [(2,4),(3,6),(4,7),(5,8)];rintro⟨f,lo,a⟩ h;simp only at h;simp only[dnS.eq_1];cases f with
  |zero=>cases h
  |succ f=>
   rw[biM] at h;split at h
   case isFalse=>cases h
   case isTrue hs=>
   obtain⟨s1,s2,t⟩:=hs;refine ae (r_c 6 (jC a lo (sm2 s2 s1)) ?_);refine c_s (dU 1 (by decide)) ?_;refine c_s (sd (a- lo) 1 t (by decide)) ?_;refine a_z ?_;refine au rfl (fun e=>?_) (fun e=>?_)
   ·have b:0< fi (a- lo) 1:=by simpa using e
    rw[if_pos b] at h;split at h
    case isFalse=>cases h
    case isTrue ht=>
    obtain⟨t1,t2⟩:=ht;have k:=gx lo a;have w:qs 2=2:=by decide
    have u:=ik (lo+a) 2;unfold sm at s1 s2;refine am (aj (ae (r_d a7 8 ?_)));refine c_s (fy lo a (by omega)) ?_;refine c_s (iu (lo+a) 2 (by decide) (by omega)) ?_;refine c_s (qN ((lo+a) / 2) (by omega)) ?_;refine a_2 ?_;refine aq (n_k ?_);refine r_c 6 (c6 (((lo+a) / 2).floor:Rat) step t1) ?_;refine c_s (tS c i ((((lo+a) / 2).floor:Rat) * step) t2) ?_;refine a_z ?_;refine au rfl (fun g=>?_) (fun g=>?_);have d:0<=plC c i ((((lo+a) / 2).floor:Rat) * step):=by simpa using g
    rw[if_pos d] at h;refine r_m 2 ?_;refine a_z ?_;refine⟨(f,(((lo+a) / 2).floor:Rat),a),Nat.lt_succ_self f,h,?_⟩;simp only[dnS.eq_1];exact s_e [];have d:¬0<=plC c i ((((lo+a) / 2).floor:Rat) * step):=by simpa using g
    rw[if_neg d] at h;refine r_m 2 ?_;refine a_z ?_;refine⟨(f,lo,(((lo+a) / 2).floor:Rat)),Nat.lt_succ_self f,h,?_⟩;simp only[dnS.eq_1];exact s_e []
   have b:¬0< fi (a- lo) 1:=by simpa using e
   rw[if_neg b] at h;cases h;refine ax ⟨a,trivial,?_⟩;simp only[dnS.eq_1];exact s_e []
 rintro a _;simp only[dnS.eq_1];refine r_c 4 (c6 l step n) ?_;refine a_z ?_;refine ae (r_d a7 7 ?_);refine c_s (tS c i (l* step) q) ?_;refine a_3 ?_;refine aq (n_k ?_);refine ai (Fin.many ⟨_,_,rfl,⟨_,_,_,_,_,rfl,rfl,rfl,.inl ⟨TG.h,_,TS.h,nle rfl,rfl⟩⟩,⟨_,_,rfl,rfl,rfl⟩⟩ (nle rfl) ?_);exact ah (an aA (aS _)) (ah (an aA (ag _)) av)
def uB(f:Nat)(c:Cnt)(i:Int)(k:Int):Option Sp:=
 (JJ f c i (gI (wi k 256))).bind fun r=>if r.2 then some (r.1,r.1) else if qs r.1+qs (gI (wi k 256))<=549755813888 then some (r.1,r.1+gI (wi k 256)) else none
theorem fs_span(f:Nat)(c:Cnt)(i:Int)(k:Int)(s:Sp)(h:uB f c i k=some s):FS 248 [plA c i,i64 k] (.agg (spC s.1 s.2)):=by
 unfold uB at h;obtain⟨⟨a,ex⟩,e,b⟩:=Option.bind_eq_some_iff.1 h;refine f_n Tryz.func248 ?_ ?_;exact ac (dB c i) (ac (ag _) af);refine r_z 1 ?_;refine r_c 4 (qT k) ?_;refine a_z ?_;refine r_c 9 (fs_down f c i (gI (wi k 256)) (a,ex) e) ?_;refine a_z ?_;refine ae (r_z 1 ?_);refine au rfl (fun d=>?_) (fun d=>?_);subst d;rw[if_pos rfl] at b;cases b;refine r_c 3 (BC a) ?_;refine a_z ?_;exact ai (c_e (b5 _ _))
 ·subst d
  rw[if_neg (show¬false=true by decide)] at b;split at b
  case isFalse=>cases b
  case isTrue hs=>
  cases b;refine am (ae (r_d a7 6 ?_));refine c_s (fy a (gI (wi k 256)) hs) ?_;refine a_2 ?_;refine aq (n_k ?_);exact ai (c_e (b5 _ _))
abbrev roA(p:Lq)(i:Int):AV:= .agg [.arr (pE p),i64 i]
theorem v6(p:Lq)(i:Int):Closed (roA p i):=az (ac (aB p) (ac (ag _) af))
def uY(f:Nat)(p:Lq):Option Cnt:=if p.length<=274877906944/\kX p=0 then(dz f p).bind fun c=>if Ix c then some c else none else none
theorem I5(f:Nat)(p:Lq)(i:Int)(c:Cnt)(h:uY f p=some c)(hf:f<=1000000)(hi:0<=i):FS 50 [roA p i] (.tup [plA c i,bln (decide (i< Hg c))]):=by
 unfold uY at h;split at h
 case isFalse=>cases h
 case isTrue hp=>
 obtain⟨d,b,a⟩:=Option.bind_eq_some_iff.1 h;split at a
 case isFalse=>cases a
 case isTrue hk=>
 cases a;refine f_n Tryz.func50 ?_ ?_;exact ac (v6 p i) af;refine r_z 3 ?_;refine ae (r_c 9 (Bp p (by omega)) ?_);refine a_2 ?_
 first|refine y_g rfl (by simp[hp.2]) (.fieldAddr_l rfl TF.h (by decide)) ?_|refine y_g rfl (by simp[hp.2]) (.fieldAddr_a rfl TF.h (by decide)) ?_
 first|refine y_g rfl (by simp[hp.2]) (.load_l1 rfl rfl rfl TG.h rfl) ?_|refine y_g rfl (by simp[hp.2]) (.load_a1 rfl rfl TG.h rfl) ?_
 refine y_g rfl (by simp[hp.2]) (.bin rfl rfl ej) ?_;refine o_0 (.pickF rfl (by simp[hp.2]) rfl) ?_;refine aq ?_;refine au rfl (fun h=>?_) (fun h=>?_);exact absurd h (by simp;omega);refine am (ae (r_d a7 8 ?_));refine c_s (lG f p c b hf) ?_;refine a_5 ?_;refine aq (n_k ?_);refine ae (r_d a7 11 ?_);refine c_s (fs_all c hk) ?_;refine a_3 ?_;refine aq (n_k ?_);refine ai (Fin.many ⟨_,_,rfl,rfl,⟨_,_,rfl,rfl,rfl⟩⟩ (nle rfl) ?_);exact ah (Cv.boxp aA rfl (fun _ _ h=>by cases h) rfl (ac (fv c) (ac (ag _) af))) (ah (an aA (ag _)) av)
def nN(s:Sp):Rat:=(s.1+s.2) * gI 1
def AW(c:Cnt)(i:Int)(s:Sp):Sp:=if plC c i (nN s)=0 then(nN s,nN s) else if plC c i (nN s)=1 then(nN s,s.2) else(s.1,nN s)
def nH(c:Cnt)(s:Sp):Prop:=smS s/\nI c (nN s)
instance (c:Cnt) (s:Sp):Decidable (nH c s):=inferInstanceAs (Decidable (_/\_))
def cZ(c:Cnt)(i:Int)(s0:Sp):Nat->Sp
 |0=>s0
 |k+1=>AW c i (cZ c i s0 k)
def closT(c:Cnt)(i:Int)(s0:Sp)(k:Nat):Option La:=some [.agg (spC (cZ c i s0 k).1 (cZ c i s0 k).2)]
abbrev bPl(c:Cnt)(i:Int):AV:= .aptr [[plA c i]] 0 0
theorem dN(c:Cnt)(i:Int):Closed (bPl c i):=bq (ac (dB c i) af)
theorem r7(f:Nat)(c:Cnt)(i:Int)(s0:Sp)(K:Nat)(h:uB f c i 0=some s0)(hok:∀k,k< K->nH c (cZ c i s0 k)):GSpecB Tryz.prog 247 [bPl c i] (closT c i s0) K:=by
 refine GSpecB.enter Tryz.func247 rfl (by kernel_rfl) rfl rfl rfl ?_ ?_ rfl ?_;exact ac (dN c i) af;intro k xs h;cases h;exact ac (b5 _ _) af;intro ll N hN E;refine GWp.seq ?_;refine GWp.lift ?_;refine r_m 4 ?_;refine c_s (fs_span f c i 0 s0 h) ?_;refine a_z ?_;refine GWp.block ?_;refine GWp.loopS (fun k:Nat=>⟨[(0,.v (.func (.yield ll) #[] #[])),(1,bPl c i),(3,.lptr 1 0 0)],[(1,some ⟨42,6,[spC (cZ c i s0 k).1 (cZ c i s0 k).2]⟩)],2,25⟩) (fun k=>k) (fun k=>N+1- k) (fun k=>k<=N) 0 (Nat.zero_le _) rfl ?_ ?_;have:=dN c i;exact s_f [(1,3)];intro k p;refine GWp.seq ?_;refine GWp.seq ?_;refine GWp.regY (fr2:=[(0,.v (.func (.yield ll) #[] #[])),(1,bPl c i),(3,.lptr 1 0 0),(7,.v (.func (.yield ll) #[] #[])),(8,.agg (spC (cZ c i s0 k).1 (cZ c i s0 k).2))]) (hp2:=[(1,some ⟨42,6,[spC (cZ c i s0 k).1 (cZ c i s0 k).2]⟩)]) (nx2:=2) 2 rfl rfl rfl rfl rfl rfl ?_ rfl rfl rfl ?_ ?_ ?_;refine o_0 (.move rfl) ?_;refine aY (.load_l rfl rfl rfl TG.h TS.h (nle rfl)) rfl rfl ?_;refine aq ?_;exact s_y [] (fun hs=>ek) (fun hs=>lV);rotate_left 2;intro n;refine aq ?_;rotate_left;rfl;exact ac (b5 _ _) af;cases n with
 |false=>
  refine GWp.cond rfl (fun h=>?_) (fun h=>?_);cases h;exact GWp.exit ⟨.inl rfl,fun h=>by cases h⟩
 |true=>
  refine GWp.bound fun b=>?_;refine GWp.cond rfl (fun h=>?_) (fun h=>?_);rotate_left;cases h;refine GWp.skip ?_;have o:=hok k (by omega);obtain⟨hs,hb⟩:=o;have a:cZ c i s0 (k+1)=AW c i (cZ c i s0 k):=rfl;obtain⟨s,g⟩:∃s,s=cZ c i s0 k:=⟨_,rfl⟩;rw[<-g] at hs hb a⊢;refine GWp.lift ?_;refine aj (r_c 4 (DQ s.1 s.2 hs.1 hs.2) ?_);refine a_z ?_;refine r_c 3 (tS c i (nN s) hb) ?_;refine aq ?_;refine aj (r_z 2 ?_);refine au rfl (fun l=>?_) (fun l=>?_);have e:plC c i (nN s)=0:=by simpa using l
  have d:cZ c i s0 (k+1)=(nN s,nN s):=by rw[a];unfold AW;rw[if_pos e]
  refine r_m 3 ?_;refine c_s (BC (nN s)) ?_;refine a_z ?_;refine⟨rfl,k+1,by omega,b,rfl,?_⟩;simp only[d];have:=dN c i;exact s_f [];have e:¬plC c i (nN s)=0:=by simpa using l
  refine r_z 2 ?_;refine au rfl (fun m=>?_) (fun m=>?_);have j:plC c i (nN s)=1:=by simpa using m
  have d:cZ c i s0 (k+1)=(nN s,s.2):=by rw[a];unfold AW;rw[if_neg e,if_pos j]
  refine r_m 3 ?_;refine a_z ?_;refine⟨rfl,k+1,by omega,b,rfl,?_⟩;simp only[d];have:=dN c i;exact s_f [];have j:¬plC c i (nN s)=1:=by simpa using m
  have d:cZ c i s0 (k+1)=(s.1,nN s):=by rw[a];unfold AW;rw[if_neg e,if_neg j]
  refine r_m 3 ?_;refine a_z ?_;refine⟨rfl,k+1,by omega,b,rfl,?_⟩;simp only[d];have:=dN c i;exact s_f []
theorem se(c:Cnt)(i:Int):FS 212 [plA c i] (.clos 247 [] [bPl c i]):=by
 refine f_n Tryz.func212 ?_ ?_;exact ac (dB c i) af;refine r_z 2 ?_;refine r_z 2 ?_;refine ai (⟨.inr rfl,[_],⟨_,[],rfl,rfl,rfl⟩,?_⟩);exact Cv.clos av (ah (Cv.boxp aA rfl (fun _ _ h=>by cases h) rfl (ac (dB c i) af)) av)
def py(t:Nat->Option Bool):Nat->Nat->Option Nat
 |0,_=>none
 |f+1,k=>match t k with
  |some true=>some k
  |some false=>py t f (k+1)
  |none=>none
theorem kO{t:Nat->Option Bool}:∀{f k0 k:Nat},py t f k0=some k->t k=some true/\k0<=k/\∀j,k0<=j->j< k->t j=some false
 |0,_,_,h=>by cases h
 |f+1,k0,k,h=>by
  rw[py] at h;split at h;cases h;exact⟨by assumption,Nat.le_refl _,fun j b c=>by omega⟩;obtain⟨b,c,g⟩:=kO h;refine⟨b,by omega,fun j d a=>?_⟩;by_cases e:j=k0;rw[e];assumption;exact g j (by omega) a;cases h
def pJ(c:Cnt)(i:Int)(s:Sp):Option Bool:=if nI c s.1/\qi c s.2/\nH c s/\ -4611686018427387904<=i/\i<=4611686018427387904 then some (decide (ca c s.1=i/\cD c s.2=i+1)) else none
def alS(c:Cnt)(i:Int):Nat->AState
 |k=>⟨[(1,bPl c i),(2,.lptr 1 0 0),(3,.lptr 2 0 0),(6,.clos 247 [] [bPl c i])],[(1,some ⟨42,6,[zC++zC]⟩),(2,some ⟨42,6,[zC++zC]⟩)],3,37⟩
def alX(s:Sp):Unit->AState
 |u=>⟨[(2,.lptr 1 0 0),(3,.lptr 2 0 0)],[(1,some ⟨42,6,[zC++zC]⟩),(2,some ⟨42,6,[spC s.1 s.2]⟩)],3,37⟩
theorem Jg(f g:Nat)(c:Cnt)(i:Int)(s0:Sp)(kk:Nat)(h:uB f c i 0=some s0)(hk:py (fun k=>pJ c i (cZ c i s0 k)) g 0=some kk):FS 272 [plA c i] (.agg (spC (cZ c i s0 kk).1 (cZ c i s0 kk).2)):=by
 obtain⟨d,_,A⟩:=kO hk
 have m:∀k,k<=kk->nI c (cZ c i s0 k).1/\qi c (cZ c i s0 k).2/\nH c (cZ c i s0 k)/\ -4611686018427387904<=i/\i<=4611686018427387904:=fun k hk=>by
  have:∃b,pJ c i (cZ c i s0 k)=some b:=by
   by_cases e:k=kk;rw[e];exact⟨_,d⟩;exact⟨_,A k (Nat.zero_le _) (by omega)⟩
  obtain⟨b,hb⟩:=this;unfold pJ at hb;split at hb;assumption;cases hb
 have y:=r7 f c i s0 kk h (fun k hk=>(m k (by omega)).2.2.1);refine f_n Tryz.func272 ?_ ?_;exact ac (dB c i) af;refine r_z 2 ?_;refine r_z 1 ?_;refine AWp.ent (st':=⟨[(1,bPl c i),(2,.lptr 1 0 0),(3,.lptr 2 0 0)],[(1,some ⟨42,6,[zC++zC]⟩),(2,some ⟨42,6,[zC++zC]⟩)],3,37⟩) ?_ ?_;have:=(ac (dB c i) af);exact s_f [(1,2),(2,3)];refine ae (r_c 2 (se c i) ?_);refine aq ?_;refine aF (alX (cZ c i s0 kk)) (fun _=>True) ?_ ?_;refine aj (AWp.rangeFuncB (α:=Nat) (γ:=Unit) kk (alS c i) (fun k=>k) (fun k=>k<=kk) (alX (cZ c i s0 kk)) (fun e _=>e= .exit 0) 0 rfl y rfl rfl ?_ (fun _=>⟨rfl,rfl⟩) (fun _=>rfl) (Nat.zero_le _) rfl (fun _ h=>h) ?_ ?_ ?_ ?_ ?_);intro k xs j;cases j;rfl;rw[alS.eq_1];have:=dN c i;exact s_t [];exact ac (dN c i) af;intro l k xs hk j;cases j;have B:=m k hk;obtain⟨s,a⟩:∃s,s=cZ c i s0 k:=⟨_,rfl⟩;rw[<-a] at B⊢;obtain⟨o,q,v,t,x⟩:=B;show AWp _ _ _ _ ⟨[(7,.agg (spC s.1 s.2)),(1,bPl c i),(2,.lptr 1 0 0),(3,.lptr 2 0 0),(6,.clos 247 [] [bPl c i]),(1001,bPl c i),(1002,.lptr 1 0 0),(1003,.lptr 2 0 0),(1006,.clos 247 [] [bPl c i])],[(1,some ⟨42,6,[zC++zC]⟩),(2,some ⟨42,6,[zC++zC]⟩)],3,37⟩;refine r_m 2 ?_;refine a_z ?_;refine aj ?_;by_cases hb:ca c s.1=i;refine ae (r_d a7 27 ?_);refine c_s (kj c s.1 o) ?_;refine a_6 ?_;refine y_g rfl (by simp[hb]) (.load_a1 rfl rfl TG.h rfl) ?_;refine y_g rfl (by simp[hb]) (.nilCheck rfl rfl) ?_;refine y_g rfl (by simp[hb]) (.fieldAddr_a rfl TF.h (by decide)) ?_;refine y_g rfl (by simp[hb]) (.load_a1 rfl rfl TG.h rfl) ?_
 refine y_g rfl (by simp[hb]) (.fieldAddr_l rfl TF.h (by decide)) ?_;refine y_g rfl (by simp[hb]) (.load_l rfl rfl rfl TG.h TS.h (nle rfl)) ?_;refine y_g rfl (by simp[hb]) (.call rfl rfl rfl (kN c s.2 q)) ?_;refine y_g rfl (by simp[hb]) (.load_a1 rfl rfl TG.h rfl) ?_;refine y_g rfl (by simp[hb]) (.nilCheck rfl rfl) ?_;refine y_g rfl (by simp[hb]) (.fieldAddr_a rfl TF.h (by decide)) ?_;refine y_g rfl (by simp[hb]) (.load_a1 rfl rfl TG.h rfl) ?_;refine y_g rfl (by simp[hb]) (.bin rfl rfl (Cn (by omega))) ?_;refine y_g rfl (by simp[hb]) (.bin rfl rfl cb) ?_;refine o_0 (.pickT rfl (by simp[hb]) rfl) ?_;refine aq (n_k ?_);refine au rfl (fun w=>?_) (fun w=>?_);have z:cD c s.2=i+1:=by simpa using w
 have n:k=kk:=by
  refine Nat.le_antisymm hk (Nat.le_of_not_lt fun r=>?_);have p:=A k (Nat.zero_le _) r;rw[<-a] at p;unfold pJ at p;rw[if_pos ⟨o,q,v,t,x⟩] at p;simp[hb,z] at p
 subst n;refine r_z 2 ?_;refine ax (⟨rfl,(),rfl,?_⟩);rw[<-a];show SEntT _ ⟨[(1002,.lptr 1 0 0),(1003,.lptr 2 0 0)],[(1,some ⟨42,6,[zC++zC]⟩),(2,some ⟨42,6,[spC s.1 s.2]⟩)],3,37⟩;exact s_y [] (fun hs=>ek) (fun hs=>lV);have z:¬cD c s.2=i+1:=by simpa using w
 have n:k< kk:=by
  refine Nat.lt_of_le_of_ne hk fun e=>?_;subst e;rw[<-a] at d;unfold pJ at d;rw[if_pos ⟨o,q,v,t,x⟩] at d;simp[z] at d
 refine am (⟨k+1,⟨n,rfl⟩,?_⟩);show SEntT _ ⟨[(1001,bPl c i),(1002,.lptr 1 0 0),(1003,.lptr 2 0 0),(1006,.clos 247 [] [bPl c i])],[(1,some ⟨42,6,[zC++zC]⟩),(2,some ⟨42,6,[zC++zC]⟩)],3,37⟩;exact s_y [] (fun hs=>ek) (fun hs=>lV);refine ae (r_d a7 27 ?_);refine c_s (kj c s.1 o) ?_;refine a_6 ?_;refine n_g rfl (by simp[hb]) ?_;refine n_g rfl (by simp[hb]) ?_;refine n_g rfl (by simp[hb]) ?_;refine n_g rfl (by simp[hb]) ?_;refine n_g rfl (by simp[hb]) ?_;refine n_g rfl (by simp[hb]) ?_;refine n_g rfl (by simp[hb]) ?_;refine n_g rfl (by simp[hb]) ?_;refine n_g rfl (by simp[hb]) ?_;refine n_g rfl (by simp[hb]) ?_;refine n_g rfl (by simp[hb]) ?_;refine n_g rfl (by simp[hb]) ?_;refine n_g rfl (by simp[hb]) ?_;refine o_0 (.pickF rfl (by simp[hb]) rfl) ?_;refine aq (n_k ?_);refine cF ?_
 have n:k< kk:=by
  refine Nat.lt_of_le_of_ne hk fun e=>?_;subst e;rw[<-a] at d;unfold pJ at d;rw[if_pos ⟨o,q,v,t,x⟩] at d;simp[hb] at d
 refine am (⟨k+1,⟨n,rfl⟩,?_⟩);show SEntT _ ⟨[(1001,bPl c i),(1002,.lptr 1 0 0),(1003,.lptr 2 0 0),(1006,.clos 247 [] [bPl c i])],[(1,some ⟨42,6,[zC++zC]⟩),(2,some ⟨42,6,[zC++zC]⟩)],3,37⟩;exact s_y [] (fun hs=>ek) (fun hs=>lV);intro k hk j;cases j;rintro e u rfl;exact⟨u,trivial,SEnt.refl _⟩;rintro u _;rw[alX.eq_1];refine r_z 2 ?_;exact ai (c_e (b5 _ _))
end Go.Proofs.YtkbjakfniejkcaaGreatDoor
