/- Part V21. -/
import Derived.Test.YtiodeiecpoopgaaGreatDoorV20
set_option linter.all false
namespace Go.Proofs.YtiodeiecpoopgaaGreatDoor
open Go.Abs
set_option maxRecDepth 20000
set_option maxHeartbeats 2000000
def prS(t:Lq):Nat×Nat->AState
 |(i,d)=>⟨[(0,.arr (pE t)),(3,.lptr 1 0 0),(4,.lptr 2 0 0),(13,.arr (pE t)),(14,i64 t.length),(15,i64 i)],[(1,some ⟨48,3,[qC (nQ d)]⟩),(2,some ⟨48,3,[qC 0]⟩)],3,47⟩
def prT(t:Lq)(D:Nat):Nat×Nat->AState
 |(i,n)=>⟨[(0,.arr (pE t)),(3,.lptr 1 0 0),(4,.lptr 2 0 0),(29,.arr (pE t)),(30,i64 t.length),(31,i64 i)],[(1,some ⟨48,3,[qC (nQ D)]⟩),(2,some ⟨48,3,[qC (nQ n)]⟩)],3,47⟩
theorem zr{l:Lq}{i:Nat}(h:i< l.length):l.drop i=coP l i::l.drop (i+1):=by
 rw[List.drop_eq_getElem_cons h];congr 1;have:=ci h;rw[List.getElem?_eq_getElem h] at this;exact Option.some.inj this
theorem Ks(a b:Nat):bl (Nat.gcd a b)<=max (bl a) (bl b):=by
 rcases Nat.eq_zero_or_pos a with h|h
 subst h;rw[Nat.gcd_zero_left];exact Nat.le_max_right _ _;exact Nat.le_trans (dG (Nat.gcd_le_left b h)) (Nat.le_max_left _ _)
theorem pN(p:Lq)(h:yF p)(h0:ar p≠[]):FS 255 [.arr (pE p)] (.arr (pE (eG p))):=by
 obtain⟨t,C⟩:∃t,t=ar p:=⟨_,rfl⟩;obtain⟨s,hs⟩:∃s,s=mxL p:=⟨_,rfl⟩;have hs1:1<=s:=by rw[hs];exact eI p
 have f:bdL t s:=fun q hq=>by rw[hs];exact e8 p q (c5 (by rw[<-C];exact hq))
 have M:t.length<=p.length:=by rw[C];exact bw p
 obtain⟨H,Z⟩:=h;rw[<-hs] at H;have hts:t.length* s<=p.length* s:=Nat.mul_le_mul_right _ M;rw[Nat.add_mul] at H;obtain⟨D,G⟩:∃D,D=vM t 1:=⟨_,rfl⟩;have Q:D≠0:=by rw[G];exact FN t (by decide)
 have hDb:bl D<=1+t.length* s:=by rw[G];exact FO t 1 f
 have F:∀c∈t,c.den∣D:=by rw[G];exact(vL t 1).2
 obtain⟨N,T⟩:∃N,N=Gr D t 0:=⟨_,rfl⟩
 have b:ba p∈t:=by
  rw[C];obtain⟨n,w⟩:∃n,(ar p).length=n+1:=⟨(ar p).length- 1,by have:=List.length_pos_iff.2 h0;omega⟩;exact List.mem_of_getElem? (fo w)
 have j:=(AK D t 0).2 (ba p) b;rw[<-T] at j;have X:=intC_ne (F _ b) Q (je h0);have S:N≠0:=fun e=>X (by rw[e] at j;exact Nat.zero_dvd.1 j);have hNb:bl N<=s+bl D:=Nat.le_trans (dG (Nat.le_of_dvd (by omega) j)) (Nat.le_trans (Fm _ _) (by have:=f _ b;omega));have R:eG p=a7 t (nQ D/ nQ N):=by unfold eG;rw[<-C,<-G,<-T]
 rw[R];have l:∀i,i< t.length->(pE t)[((i:Nat):Int).toNat]?=some (qC (coP t i)):=fun i u=>dT (ci u);have g:∀i,i< t.length->coP t i∈t:=fun i u=>List.mem_of_getElem? (ci u);have J:=dq p (by omega);rw[<-C] at J;refine f_c Tryz.func255 ?_;refine r_z 1 ?_;refine r_c 3 (J) ?_;refine a_z ?_;refine r_c 6 (ei 1 (by decide)) ?_;refine a_z ?_;refine ae (r_z 3 ?_);refine aC (fun _:Unit=>⟨[(0,.arr (pE t)),(3,.lptr 1 0 0),(4,.lptr 2 0 0)],[(1,some ⟨48,3,[qC (nQ D)]⟩),(2,some ⟨48,3,[qC 0]⟩)],3,47⟩) (fun _=>True) ?_ ?_;refine ah (ax (prS t) (fun x=>t.length- x.1) (fun x=>x.1<=t.length/\x.2≠0/\vM (t.drop x.1) x.2=D) (0,1) ⟨Nat.zero_le _,by decide,by rw[G];rfl⟩ ?_ ?_);simp only[prS.eq_1];rw[qC0];exact s_e [(1,3),(2,4)];rintro⟨i,d⟩ ⟨u,y,z⟩;simp only at u y z;rw[prS.eq_1];refine r_z 1 ?_;refine ae (ap rfl (fun h=>?_) (fun h=>?_));refine am ?_;have a:i< t.length:=by simpa using h
 have hc:=f _ (g i a);have hcd:=c7 (coP t i);have L:=(coP t i).den_nz;rw[zr a] at z;have O:d∣D:=by rw[<-z];exact(vL _ d).1
 have hdb:=dG (Nat.le_of_dvd (by omega) O);have A:=ob (n:=d) (k:=34359738368) (by omega) (by decide);have Y:=ob (n:=(coP t i).den) (k:=34359738368) (by omega) (by decide);have m:=da (nQ d) (nQ (coP t i).den) (by omega);have r:=vn d (coP t i).den (by omega) (by omega);have v:Nat.gcd d (coP t i).den≠0:=by have:=Nat.gcd_pos_of_pos_left (coP t i).den (Nat.pos_of_ne_zero y);omega
 have U:=Ks d (coP t i).den;have V:=ob (n:=Nat.gcd d (coP t i).den) (k:=34359738368) (by omega) (by decide);have K:=dS (nQ d) (nQ (coP t i).den);rw[IY] at K m;have E:=ii (nQ (d* (coP t i).den)) (nQ (Nat.gcd d (coP t i).den)) (fun e=>v (nQ_zero.1 e)) (by omega);rw[CZ _ _ v,Gv _ _ v (Nat.dvd_mul_right_of_dvd (Nat.gcd_dvd_left _ _) _)] at E;refine ae (ah (s_r 4 ?_));refine bF (.index_a rfl rfl (by omega) (l i a) rfl te_35.h) rfl rfl ?_;refine bF (.load_a rfl (l i a) TG.h TS.h (nle rfl)) rfl rfl ?_;refine a_z ?_;refine r_d aT 10 ?_;refine c_s (JG (coP t i) (by unfold sm;omega)) ?_;refine c_s (m) ?_;refine c_s (JG (coP t i) (by unfold sm;omega)) ?_;refine c_s (r) ?_;refine c_s (E) ?_;refine a_1 ?_;refine ao (n_k ?_);refine r_m 2 ?_;refine a_z ?_;refine⟨(i+1,Nat.lcm d (coP t i).den),by simp only;omega,⟨a,Fh y L,z⟩,?_⟩;simp only[prS.eq_1];exact s_e []
 have o:i=t.length:=by
  have:¬i< t.length:=by simpa using h
  omega
 subst o;rw[List.drop_length] at z;refine aw ⟨(),trivial,?_⟩;rw[<-z];exact s_e [];rintro _ _;refine ae (r_z 3 ?_);refine aC (fun _:Unit=>⟨[(0,.arr (pE t)),(3,.lptr 1 0 0),(4,.lptr 2 0 0)],[(1,some ⟨48,3,[qC (nQ D)]⟩),(2,some ⟨48,3,[qC (nQ N)]⟩)],3,47⟩) (fun _=>True) ?_ ?_;refine ah (ax (prT t D) (fun x=>t.length- x.1) (fun x=>x.1<=t.length/\bl x.2<=s+bl D/\Gr D (t.drop x.1) x.2=N) (0,0) ⟨Nat.zero_le _,by rw[bl_zero];exact Nat.zero_le _,by rw[T];rfl⟩ ?_ ?_);simp only[prT.eq_1];exact s_e [];rintro⟨i,n⟩ ⟨u,W,w⟩;simp only at u W w;rw[prT.eq_1];refine r_z 1 ?_;refine ae (ap rfl (fun h=>?_) (fun h=>?_));refine am ?_;have a:i< t.length:=by simpa using h
 have hc:=f _ (g i a);rw[zr a] at w;have hib:=Fm (coP t i) D;have U:=Ks n (th (coP t i) D);have A:=ob (n:=D) (k:=34359738368) (by omega) (by decide);have m:=da (coP t i) (nQ D) (by omega);have B:=rX (coP t i* nQ D);rw[I2 _ _ (F _ (g i a))] at B;have r:=vn n (th (coP t i) D) (by omega) (by omega);refine ae (ah (s_r 4 ?_));refine bF (.index_a rfl rfl (by omega) (l i a) rfl te_35.h) rfl rfl ?_;refine bF (.load_a rfl (l i a) TG.h TS.h (nle rfl)) rfl rfl ?_;refine a_z ?_;refine r_d aT 7 ?_;refine c_s (m) ?_;refine c_s (B) ?_;refine c_s (r) ?_;refine a_1 ?_;refine ao (n_k ?_);refine r_m 2 ?_;refine a_z ?_;refine⟨(i+1,Nat.gcd n (th (coP t i) D)),by simp only;omega,⟨a,by simp only;omega,w⟩,?_⟩;simp only[prT.eq_1];exact s_e []
 have o:i=t.length:=by
  have:¬i< t.length:=by simpa using h
  omega
 subst o;rw[List.drop_length] at w;refine aw ⟨(),trivial,?_⟩;rw[<-w];exact s_e [];rintro _ _;have A:=ob (n:=D) (k:=34359738368) (by omega) (by decide);have Y:=ob (n:=N) (k:=34359738368) (by omega) (by decide);have V:=iC (nQ D) (nQ N);refine r_c 6 (ii (nQ D) (nQ N) (fun e=>S (nQ_zero.1 e)) (by omega)) ?_;refine c_s (fk t (nQ D/ nQ N) (dI f (by omega)) (by unfold sm;omega) (by omega)) ?_;refine a_z ?_;exact aj (t_e (az _))
theorem wv(f:Nat)(p r:Lq)(h:sqfM f p=some r):FS 209 [.arr (pE p)] (.arr (pE r)):=by
 unfold sqfM at h;split at h
 case isFalse=>cases h
 case isTrue hs=>
 obtain⟨g,c,a⟩:=Option.bind_eq_some_iff.1 h;split at a
 case isFalse=>cases a
 case isTrue hg2=>
 cases a;have d:=nu p;have b:=vJ (p:=p) (q:=g);refine f_c Tryz.func209 ?_;refine r_z 1 ?_;refine r_c 11 (rY p hs.1 (by omega)) ?_;refine c_s (JR f p (fh p) g c hs.2 (by omega)) ?_;refine c_s (rR p g (mxL p) (mxL g) (e8 p) (e8 g) (eI p) (eI g) hg2.2.1 hg2.1 hs.2 hg2.2.2.2) ?_;refine a_z ?_;refine r_c 3 (vi (k4 p g).1 (zy hg2.2 hg2.1).1 (by omega)) ?_;refine a_z ?_;exact aj (t_e (az _))
def boS(t:Lq)(l:Lq):Nat×Rat->AState
 |(i,m)=>⟨[(0,.arr (pE t)),(2,.lptr 1 0 0),(3,.lptr 2 0 0),(13,.arr (pE l)),(14,i64 l.length),(15,i64 i)],[(1,some ⟨48,3,[zC]⟩),(2,some ⟨48,3,[qC m]⟩)],3,31⟩
theorem JH(p:Lq)(h:yI p)(h0:ar p≠[]):FS 287 [.arr (pE p)] (.agg (qC (mn p))):=by
 obtain⟨F,E⟩:=h;obtain⟨t,f⟩:∃t,t=ar p:=⟨_,rfl⟩;have o:=dq p (by omega);have v:=bw p;rw[<-f] at o v;obtain⟨l,hl⟩:∃l,l=t.take (t.length- 1):=⟨_,rfl⟩;have a:l.length=t.length- 1:=by rw[hl];simp
 have u:bdL l (mxL p):=fun q w=>e8 p q (c5 (by rw[<-f];exact List.mem_of_mem_take (by rw[<-hl];exact w)));have C:0< t.length:=by rw[f];exact List.length_pos_iff.2 h0
 have e:ba t=ba p:=by rw[f,C4]
 have K:qs (ba p)<=mxL p:=by
  obtain⟨n,J⟩:∃n,(ar p).length=n+1:=⟨(ar p).length- 1,by rw[<-f];omega⟩;exact e8 p _ (c5 (List.mem_of_getElem? (fo J)))
 have hb:mn p=boL (ba p) l 0+1:=by unfold mn;rw[<-f,<-hl]
 rw[hb];obtain⟨B,D⟩:∃B,B=boL (ba p) l 0:=⟨_,rfl⟩;rw[<-D];refine f_c Tryz.func287 ?_;refine r_z 1 ?_;refine r_c 3 (o) ?_;refine a_z ?_;refine r_z 3 ?_;refine ae (s_r 7 ?_);refine a_4 ?_;refine o_0 (.sa_h rfl rfl (h:=t.length- 1) (by omega) (by simp) te_35.h (lY _)) ?_;refine a_z ?_;refine aC (fun _:Unit=>⟨[(2,.lptr 1 0 0),(3,.lptr 2 0 0)],[(1,some ⟨48,3,[zC]⟩),(2,some ⟨48,3,[qC B]⟩)],3,31⟩) (fun _=>qs B<=2* mxL p+1) ?_ ?_;refine ah (ax (boS t l) (fun x=>l.length- x.1) (fun x=>x.1<=l.length/\qs x.2<=2* mxL p+1/\boL (ba p) (l.drop x.1) x.2=B) (0,0) ⟨Nat.zero_le _,Nat.le_trans (by decide:qs 0<=1) (Nat.le_add_left 1 _),by rw[D];rfl⟩ ?_ ?_);simp only[boS.eq_1];rw[qC0];have d:AV.arr (List.take (t.length- 1) (pE t))=AV.arr (pE l):=by rw[hl,tz]
 refine s_x [(1,2),(2,3)] (fun hs=>?_) (fun hs=>?_) ?_
 ·repeat' (first|exact aI|refine au rfl ?_ ?_|exact Cv.loE hs d (d▸az l)|exact aS|(refine Cv.loE hs ?_ (ag _);first|rfl|(simp[i64,u64,u32,bln,a];done)|(simp[i64,u64,u32,bln,a]<;> omega)))
 ·repeat' (first|exact aA|refine h_c ?_ ?_|exact br|(refine aF hs ?_ (aP _);first|(simp[ju,ld,a];done)|(simp[pE,ofV,a];done))|refine ay ?_|exact aq|refine ak ?_ ?_|exact Cv.loE hs d (d▸az l)|exact aS|(refine Cv.loE hs ?_ (ag _);first|(simp[i64,u64,u32,bln,a];done)|(simp[i64,u64,u32,bln,a]<;> omega)))
 ·repeat' (first|exact ShrL.nil|refine ShrL.cons rfl rfl rfl rfl (by first|rfl|(simp;done)|(simp[a]<;> omega)) ?_)
 rintro⟨i,m⟩ ⟨H,A,b⟩;simp only at H A b;rw[boS.eq_1];refine r_z 1 ?_;refine ae (ap rfl (fun h=>?_) (fun h=>?_));refine am ?_;have c:i< l.length:=by simpa using h
 have j:(pE l)[((i:Nat):Int).toNat]?=some (qC (coP l i)):=dT (ci c);have M:qs (coP l i)<=mxL p:=u _ (List.mem_of_getElem? (ci c));rw[zr c] at b;have w:=iC (coP l i) (ba p);have r:=pX t (by omega);rw[e] at r;have G:=qs_abs (coP l i/ ba p)
 have g:bdL [m,gi (coP l i/ ba p)] (2* mxL p+1):=by
  intro x z;rcases List.mem_cons.1 z with rfl|z
  exact A;rw[List.mem_singleton.1 z];omega
 have y:=y3 [m,gi (coP l i/ ba p)] (dI g (by omega)) (by simp);refine ae (ah (s_r 4 ?_));refine i_x j ?_;refine l_x j ?_;refine a_z ?_;refine r_d aT 9 ?_;refine c_s (r) ?_;refine c_s (ii (coP l i) (ba p) (je h0) (by omega)) ?_;refine c_s (rX (coP l i/ ba p)) ?_;refine a_1 ?_;refine o_1 (.callS1 rfl rfl rfl (.shut rfl d_n (.nil)) rfl (y)) ?_;refine a_1 ?_;refine ao (n_k ?_);refine r_m 2 ?_;refine a_z ?_;refine⟨(i+1,oz [m,gi (coP l i/ ba p)]),by simp only;omega,⟨c,maxL_le g (Nat.le_add_left 1 _),b⟩,?_⟩;simp only[boS.eq_1];exact s_e []
 have s:i=l.length:=by
  have:¬i< l.length:=by simpa using h
  omega
 subst s;rw[List.drop_length] at b;have k:m=B:=b;subst k;refine aw ⟨(),A,?_⟩;exact s_e [];rintro _ w;have L:qs 1=1:=by decide
 refine ae (r_d aT 4 ?_);refine c_s (ei 1 (by decide)) ?_;refine c_s (fM B 1 (by omega)) ?_;refine a_1 ?_;refine ao (n_k ?_);exact aj (c_e (aO _))
def stS:Lq×Lw->AState
 |(next,acc)=>⟨[(3,.lsl 1 0 acc.length none 1),(4,.arr (pE next))],[(1,some ⟨35,1,cE acc⟩)],2,40⟩
theorem Cr(next:Lq)(acc:Lw):stS (next,acc)=⟨[(3,.lsl 1 0 acc.length none 1),(4,.arr (pE next))],[(1,some ⟨35,1,cE acc⟩)],2,40⟩:=rfl
theorem Gm(p:Lq):(eG p).length<=p.length:=
 Nat.le_trans (b8 _ _) (bw p)
theorem Jt(f:Nat)(p:Lq)(r:Lw)(h:Cp f p=some r)(hf:f<=1000000):FS 210 [.arr (pE p)] (.arr (cE r)):=by
 unfold Cp at h;split at h
 case isFalse=>cases h
 case isTrue hp=>
 have t:=nu p;have l:=hp.2.1.2;refine f_c Tryz.func210 ?_;refine r_z 1 ?_;refine r_c 4 (pN p hp.2.1 hp.2.2) ?_;refine a_z ?_;refine ae (r_c 3 (rY p hp.1 (by omega)) ?_);refine a_z ?_;refine aC (fun _:Unit=>⟨[(3,.lsl 1 0 r.length none 1)],[(1,some ⟨35,1,cE r⟩)],2,40⟩) (fun _=>True) ?_ ?_
 ·refine ah (ax (fun x:Nat×Lq×Lq×Lw=>stS x.2.2) (fun x=>x.1) (fun x=>zN f x.1 x.2.1 x.2.2.1 x.2.2.2=some r/\x.2.2.1.length<=274877906944/\x.2.2.2.length+x.1<=1000001/\1<=x.2.2.2.length/\x.2.2.2[x.2.2.2.length- 1]?=some x.2.1) (f,eG p,fh p,[eG p]) ⟨h,by simp only;omega,by simp only[List.length_singleton];omega,by simp,rfl⟩ ?_ ?_)
  simp only[Cr];have:=jN [eG p];exact s_f [(1,3)];rintro⟨k,last,next,a⟩ ⟨h,u,m,d,b⟩;simp only at h u m d b;simp only[Cr];cases k with
  |zero=>cases h
  |succ k=>
   rw[zN] at h;refine ae (r_c 3 (dc next (by omega)) ?_);refine a_z ?_;refine ap rfl (fun g=>?_) (fun g=>?_)
   ·have c:ar next≠[]:=by
     intro e;have e2:=degP_neg.2 e;simp at g;omega
    rw[if_neg c] at h;split at h
    case isFalse=>cases h
    case isTrue hs=>
    have v:=Gm next
    have s:=vJ (p:=last) (q:=eG next);have o:=b8 (k4 last (eG next)).2 (-1);have n:=hs.2.1.2.1
    have i:(cE (a++[eG next]))[0+(((a.length+1:Nat):Int)- 2).toNat]?=some [.arr (pE last)]:=by
     rw[show 0+(((a.length+1:Nat):Int)- 2).toNat=a.length- 1 by omega];exact D1 (by rw[List.getElem?_append_left (by omega)];exact b)
    have j:(cE (a++[eG next]))[0+(((a.length+1:Nat):Int)- 1).toNat]?=some [.arr (pE (eG next))]:=by
     rw[show 0+(((a.length+1:Nat):Int)- 1).toNat=a.length by omega];exact D1 (by simp)
    refine am (ah (r_c 6 (pN next hs.1 c) ?_));refine a_z ?_;refine AWp.ent (st':=⟨[(3,.lsl 1 0 (a.length+1) none 1)],[(1,some ⟨35,1,cE (a++[eG next])⟩)],2,40⟩) ?_ ?_
    ·have:=(cE_snoc a (eG next)).symm
     exact s_f [(1,3)]
    refine ae (r_d aT 18 ?_);refine a_5 ?_;refine bF (.load_l1 rfl rfl i TG.h rfl) rfl rfl ?_;refine a_5 ?_;refine bF (.load_l1 rfl rfl j TG.h rfl) rfl rfl ?_;refine c_s (rR last (eG next) (mxL last) (mxL (eG next)) (e8 _) (e8 _) (eI _) (eI _) hs.2.1.1 hs.2.2 hs.2.1.2.1 hs.2.1.2.2) ?_;refine a_5 ?_;refine ao (n_k ?_);refine r_m 4 ?_;refine c_s (ei (-1) (by decide)) ?_;refine c_s (fk (k4 last (eG next)).2 (-1) (zy hs.2.1 hs.2.2).2 (by decide) (by omega)) ?_;refine a_z ?_;refine⟨(k,eG next,a7 (k4 last (eG next)).2 (-1),a++[eG next]),Nat.lt_succ_self k,⟨h,by simp only;omega,by simp only[List.length_append,List.length_singleton];omega,by simp,by simp⟩,?_⟩;have b:(a++[eG next]).length=a.length+1:=by simp
    simp only[Cr,b];exact s_f []
   ·have c:ar next=[]:=by
     refine degP_neg.1 ?_;simp at g;omega
    rw[if_pos c] at h;cases h;refine aw ⟨(),trivial,?_⟩;exact s_f []
 rintro _ _;refine r_z 2 ?_;exact aj (Fin.tmpS rfl rfl rfl (by simp) (jN r))
def chS(ch:Lw)(g:Nat)(cap:La):Nat×Int×Int->AState
 |(i,n,last)=>⟨[(1,.clos g [] cap),(5,i64 n),(6,i64 last),(10,.arr (cE ch)),(11,i64 ch.length),(12,i64 i)],[],1,30⟩
theorem vo(ch:Lw)(g:Nat)(cap:La)(sg:Lq->Int)(hcap:∀c∈cap,Closed c)(hsg:∀q∈ch,-1<=sg q/\sg q<=1)(hl:ch.length<=274877906944)(hg:∀q∈ch,FS g ((.arr (pE q)::cap).map coe) (i64 (sg q))):FS 211 [.arr (cE ch),.clos g [] cap] (i64 (chL (ch.map sg) 0 0)):=by
 refine f_n Tryz.func211 ?_ ?_;exact ac (n7 ch) (ac (aQ af hcap) af);refine r_z 1 ?_;refine r_z 2 ?_;refine ae (r_z 3 ?_);obtain⟨R,y⟩:∃R,R=chL (ch.map sg) 0 0:=⟨_,rfl⟩;rw[<-y];refine aC (fun _:Unit=>⟨[(5,i64 R)],[],1,30⟩) (fun _=>True) ?_ ?_;refine ah (ax (chS ch g cap) (fun x=>ch.length- x.1) (fun x=>x.1<=ch.length/\0<=x.2.1/\x.2.1<=x.1/\ -1<=x.2.2/\x.2.2<=1/\chL ((ch.drop x.1).map sg) x.2.1 x.2.2=R) (0,0,0) ⟨Nat.zero_le _,by decide,by decide,by decide,by decide,by rw[y];rfl⟩ ?_ ?_);simp only[chS.eq_1];exact s_x [] (fun hs=>e_6) (fun hs=>e_15);rintro⟨i,n,last⟩ ⟨A,j,t,k,m,b⟩;simp only at A j t k m b;rw[chS.eq_1];refine r_z 1 ?_;refine ae (ap rfl (fun h=>?_) (fun h=>?_));refine am ?_;have a:i< ch.length:=by simpa using h
 obtain⟨q,p⟩:∃q,ch[i]?=some q:=⟨_,List.getElem?_eq_getElem a⟩;have o:=List.mem_of_getElem? p;have l:(cE ch)[((i:Nat):Int).toNat]?=some [.arr (pE q)]:=D1 p
 have z:ch.drop i=q::ch.drop (i+1):=by
  rw[List.drop_eq_getElem_cons a];rw[List.getElem?_eq_getElem a] at p;rw[Option.some.inj p]
 rw[z,List.map_cons,chL] at b;have d:=hsg q o;refine ae (ah (s_r 3 ?_));refine i_x l ?_;refine l_1 l ?_;refine a_z ?_;refine r_c 4 (hg q o) ?_;refine a_z ?_;refine r_z 2 ?_;refine ap rfl (fun v=>?_) (fun v=>?_);have f:sg q≠0:=by simpa using v
 rw[if_pos f] at b;refine ae (r_z 4 ?_);refine ap rfl (fun s=>?_) (fun s=>?_);have w:sg q= -last:=by simpa using s
 rw[if_pos w] at b;refine r_m 3 ?_;refine a_z ?_;refine r_m 2 ?_;refine a_z ?_;refine r_m 2 ?_;refine a_z ?_;refine⟨(i+1,n+1,sg q),by simp only;omega,⟨a,by simp only;omega,by simp only;omega,d.1,d.2,b⟩,?_⟩;simp only[chS.eq_1];exact s_x [] (fun hs=>e_6) (fun hs=>e_15);have w:¬sg q= -last:=by simpa using s
 rw[if_neg w] at b;refine am (r_m 2 ?_);refine a_z ?_;refine r_m 2 ?_;refine a_z ?_;refine⟨(i+1,n,sg q),by simp only;omega,⟨a,j,by simp only;omega,d.1,d.2,b⟩,?_⟩;simp only[chS.eq_1];exact s_x [] (fun hs=>e_6) (fun hs=>e_15);have f:sg q=0:=by simpa using v
 rw[if_neg (fun e=>e f)] at b;refine am (r_m 2 ?_);refine a_z ?_;refine⟨(i+1,n,last),by simp only;omega,⟨a,j,by simp only;omega,k,m,b⟩,?_⟩;simp only[chS.eq_1];exact s_x [] (fun hs=>e_6) (fun hs=>e_15)
 have r:i=ch.length:=by
  have:¬i< ch.length:=by simpa using h
  omega
 subst r;rw[List.drop_length] at b;have u:n=R:=b;subst u;refine aw ⟨(),trivial,?_⟩;exact s_e [];rintro _ _;refine r_z 2 ?_;exact aj (t_e (ag _))
theorem Dx(q:Lq)(h0:ar q≠[])(hl:q.length<=274877906944):FS 212 [.arr (pE q)] (i64 (sgI q)):=by
 have b:¬a8 q< 0:=fun e=>h0 (degP_neg.1 e);have hb:=yh (ba q).num;refine f_c Tryz.func212 ?_;refine r_z 1 ?_;refine ae (r_c 4 (dc q (by omega)) ?_);refine a_z ?_;refine ap rfl (fun h=>?_) (fun h=>?_);have a:a8 q % 2=1:=by simpa using h
 refine r_c 5 (pX q (by omega)) ?_;refine c_s (cJ (ba q)) ?_;refine a_z ?_;refine aj (aM rfl ?_ ?_);unfold sgI;rw[if_pos a];rfl;exact ag _;have a:¬a8 q % 2=1:=by simpa using h
 refine am (r_c 4 (pX q (by omega)) ?_);refine c_s (cJ (ba q)) ?_;refine a_z ?_;refine aj (aM rfl ?_ ?_);unfold sgI;rw[if_neg a];exact ag _
theorem rU(f:Nat)(p:Lq)(c:Cnt)(h:kI f p=some c)(hf:f<=1000000):FS 173 [.arr (pE p)] (kA c):=by
 unfold kI at h;obtain⟨s,hs,g⟩:=Option.bind_eq_some_iff.1 h;obtain⟨ch,d,a⟩:=Option.bind_eq_some_iff.1 g;split at a
 case isFalse=>cases a
 case isTrue hk=>
 cases a;have b:=vo ch 212 [] sgI af (fun q _=>sgI_abs q) hk.2.1 (fun q e=>Dx q (hk.1 q e).1 (hk.1 q e).2);refine f_c Tryz.func173 ?_;refine r_z 1 ?_;refine r_c 5 (wv f p s hs) ?_;refine a_z ?_;refine r_c 9 (Jt f s ch d hf) ?_;refine a_z ?_;refine r_c 9 (b) ?_;refine a_z ?_;refine r_z 2 ?_;exact aj (Fin.tmpP rfl rfl rfl (xG _))
theorem Jq(q:Lq)(x:Rat)(h:hZ q x):FS 213 [.arr (pE q),bQ x] (i64 (sgE x q)):=by
 refine f_c Tryz.func213 ?_;refine r_z 1 ?_;refine r_c 5 (kD q x h) ?_;refine c_s (cJ (aE q x)) ?_;refine a_z ?_;exact aj (t_e (ag _))
theorem nZ(c:Cnt)(x:Rat)(h:yE c x):FS 175 [kA c,.agg (qC x)] (i64 (fz c x)):=by
 have a:=vo c.ch 213 [bQ x] (sgE x) (ac (cD x) af) (fun q _=>yh _) h.1.2.1 (fun q b=>Jq q x (h.2 q b));have hb:=oV (x:=x) h.1;unfold fz at hb⊢;refine f_c Tryz.func175 ?_;refine r_z 2 ?_;refine AWp.ent (st':=⟨[(0,kA c),(3,bQ x)],[],1,16⟩) ?_ ?_;exact s_e [];refine ae (r_d aT 12 ?_);refine c_s (a) ?_;refine a_2 ?_;refine ao (n_k ?_);exact aj (t_e (ag _))
theorem ly(c:Cnt)(x:Rat)(h:tf c x):FS 174 [kA c,.agg (qC x)] (i64 (ed c x)):=by
 have hb:=oV (x:=x) h.1.1;refine f_c Tryz.func174 ?_;refine r_z 2 ?_;refine r_c 4 (nZ c x h.1) ?_;refine a_z ?_;refine a6 (fun n:Int=>⟨[(5,i64 n)],[],1,20⟩) (fun n=>n=ed c x) ?_ ?_;refine ae (r_d aT 8 ?_);refine c_s (kD c.p x h.2) ?_;refine c_s (cJ (aE c.p x)) ?_;refine a_1 ?_;refine ao (n_k ?_);refine ap rfl (fun a=>?_) (fun a=>?_)
 have b:aE c.p x=0:=by
  have:sgZ (aE c.p x).num=0:=by simpa using a
  exact sgZ_num_eq.1 this
 refine r_m 3 ?_;refine a_z ?_;refine⟨fz c x- 1,by unfold ed;rw[if_pos b],?_⟩;exact s_e []
 have b:aE c.p x≠0:=by
  intro e;have:¬sgZ (aE c.p x).num=0:=by simpa using a
  exact this (sgZ_num_eq.2 e)
 refine am ⟨fz c x,by unfold ed;rw[if_neg b],?_⟩;exact s_e [];rintro n rfl;refine r_z 2 ?_;exact aj (t_e (ag _))
theorem yY(c:Cnt)(i:Int)(x:Rat)(h:tf c x):FS 260 [plA c i,.agg (qC x)] (i64 (plC c i x)):=by
 refine f_n Tryz.func260 ?_ ?_;exact ac (dm c i) (ac (aO x) af);refine r_z 2 ?_;refine ae (ae (r_d aT 7 ?_));refine c_s (ly c x h) ?_;refine a_1 ?_;refine ao (n_k ?_);refine aC (fun _:Unit=>⟨[],[],1,36⟩) (fun _=>plC c i x=1) ?_ ?_;refine ah (r_z 7 ?_);refine ap rfl (fun d=>?_) (fun d=>?_);have a:i< ed c x:=by simpa using d
 refine r_z 1 ?_;refine aj (aM rfl ?_ ?_);unfold plC;rw[if_pos a];rfl;exact ag _;have a:¬i< ed c x:=by simpa using d
 by_cases h3:ed c x=i;refine ae (r_d aT 17 ?_);refine a_7 ?_;refine y_g rfl (by simp[h3]) (.move rfl) ?_;refine y_g rfl (by simp[h3]) (.nilCheck rfl rfl) ?_;refine y_g rfl (by simp[h3]) (.fieldAddr_a rfl TF.h (by decide)) ?_;refine y_g rfl (by simp[h3]) (.load_a1 rfl rfl TG.h rfl) ?_;refine y_g rfl (by simp[h3]) (.load_l rfl rfl rfl TG.h TS.h (nle rfl)) ?_;refine y_g rfl (by simp[h3]) (.call rfl rfl rfl (nZ c x h.1)) ?_;refine y_g rfl (by simp[h3]) (.move rfl) ?_;refine y_g rfl (by simp[h3]) (.bin rfl rfl lK) ?_;refine o_0 (.pickT rfl (by simp[h3]) rfl) ?_;refine a_1 ?_;refine ao (n_k ?_);refine ap rfl (fun b=>?_) (fun b=>?_);have f:ed c x< fz c x:=by simpa using b
 refine r_z 1 ?_;refine aj (aM rfl ?_ ?_);unfold plC;rw[if_neg a,if_pos ⟨h3,f⟩];rfl;exact ag _;have f:¬ed c x< fz c x:=by simpa using b
 refine am ⟨(),by unfold plC;rw[if_neg a,if_neg fun e=>f e.2],?_⟩;exact s_e [];refine ae (r_d aT 17 ?_);refine a_7 ?_;refine n_g rfl (by simp[h3]) ?_;refine n_g rfl (by simp[h3]) ?_;refine n_g rfl (by simp[h3]) ?_;refine n_g rfl (by simp[h3]) ?_;refine n_g rfl (by simp[h3]) ?_;refine n_g rfl (by simp[h3]) ?_;refine n_g rfl (by simp[h3]) ?_;refine n_g rfl (by simp[h3]) ?_;refine o_0 (.pickF rfl (by simp[h3]) rfl) ?_;refine a_1 ?_;refine ao (n_k ?_);refine cF ?_;refine am ⟨(),by unfold plC;rw[if_neg a,if_neg fun e=>h3 e.1],?_⟩;exact s_e [];rintro _ g;refine r_z 1 ?_;refine aj (aM rfl ?_ ?_);rw[g];rfl;exact ag _
def hiV(c:Cnt)(step:Rat):Rat:=wa (mn c.p/ step)
def IW(c:Cnt)(step:Rat)(lo:Rat):Prop:=yI c.p/\ar c.p≠[]/\step≠0/\qs (mn c.p)+qs step<=549755813888/\qs lo+qs step<=549755813888/\tf c (lo* step)
instance (c:Cnt) (step lo:Rat):Decidable (IW c step lo):=inferInstanceAs (Decidable (_/\_/\_/\_/\_/\_))
def Kd(f:Nat)(c:Cnt)(i:Int)(step:Rat):Option (Rat×Bool):=
 (biM c i step f (-hiV c step) (hiV c step)).bind fun lo=>if IW c step lo then some (lo* step,plC c i (lo* step)==0) else none
def dnS(c:Cnt)(i:Int)(step:Rat):Rat×Rat->AState
 |(lo,hi)=>⟨[(0,plA c i),(3,.lptr 1 0 0),(4,.lptr 2 0 0),(6,.lptr 3 0 0),(7,.lptr 4 0 0),(8,.lptr 5 0 0)],[(1,some ⟨48,3,[qC step]⟩),(2,some ⟨48,3,[zC]⟩),(3,some ⟨48,3,[qC hi]⟩),(4,some ⟨48,3,[qC lo]⟩),(5,some ⟨48,3,[qC 2]⟩)],6,52⟩
theorem fs_down(f:Nat)(c:Cnt)(i:Int)(step:Rat)(r:Rat×Bool)(h:Kd f c i step=some r):FS 281 [plA c i,.agg (qC step)] (.tup [.agg (qC r.1),bln r.2]):=by
 unfold Kd at h;obtain⟨l,hl,b⟩:=Option.bind_eq_some_iff.1 h;split at b
 case isFalse=>cases b
 case isTrue hk=>
 cases b;obtain⟨j,q,m,u,n,o⟩:=hk;have w:=iC (mn c.p) step;refine f_n Tryz.func281 ?_ ?_;exact ac (dm c i) (ac (aO step) af);refine r_z 3 ?_;refine ae (r_d aT 13 ?_);refine c_s (JH c.p j q) ?_;refine c_s (ii (mn c.p) step m u) ?_;refine c_s (Fz (mn c.p/ step) (by omega)) ?_;refine a_2 ?_;refine ao (n_k ?_);refine r_c 4 (kX (wa (mn c.p/ step))) ?_;refine a_z ?_;refine r_c 3 (ei 2 (by decide)) ?_;refine a_z ?_;refine a6 (fun a:Rat=>dnS c i step (l,a)) (fun _=>True) ?_ ?_
 ·refine ah (ax (fun x:Nat×Rat×Rat=>dnS c i step x.2) (fun x=>x.1) (fun x=>biM c i step x.1 x.2.1 x.2.2=some l) (f,-hiV c step,hiV c step) hl ?_ ?_)
  simp only[dnS.eq_1,hiV];exact s_e [(2,4),(3,6),(4,7),(5,8)];rintro⟨f,lo,a⟩ h;simp only at h;simp only[dnS.eq_1];cases f with
  |zero=>cases h
  |succ f=>
   rw[biM] at h;split at h
   case isFalse=>cases h
   case isTrue hs=>
   obtain⟨s1,s2,s⟩:=hs;refine ae (r_c 6 (l8 a lo (sm2 s2 s1)) ?_);refine c_s (ei 1 (by decide)) ?_;refine c_s (rV (a- lo) 1 s (by decide)) ?_;refine a_z ?_;refine ap rfl (fun e=>?_) (fun e=>?_)
   ·have b:0< fl (a- lo) 1:=by simpa using e
    rw[if_pos b] at h;split at h
    case isFalse=>cases h
    case isTrue ht=>
    obtain⟨t1,t2⟩:=ht;have k:=kQ lo a;have v:qs 2=2:=by decide
    have t:=iC (lo+a) 2;unfold sm at s1 s2;refine am (ah (ae (r_d aT 8 ?_)));refine c_s (fM lo a (by omega)) ?_;refine c_s (ii (lo+a) 2 (by decide) (by omega)) ?_;refine c_s (pQ ((lo+a) / 2) (by omega)) ?_;refine a_2 ?_;refine ao (n_k ?_);refine r_c 6 (da (((lo+a) / 2).floor:Rat) step t1) ?_;refine c_s (yY c i ((((lo+a) / 2).floor:Rat) * step) t2) ?_;refine a_z ?_;refine ap rfl (fun g=>?_) (fun g=>?_);have d:0<=plC c i ((((lo+a) / 2).floor:Rat) * step):=by simpa using g
    rw[if_pos d] at h;refine r_m 2 ?_;refine a_z ?_;refine⟨(f,(((lo+a) / 2).floor:Rat),a),Nat.lt_succ_self f,h,?_⟩;simp only[dnS.eq_1];exact s_e [];have d:¬0<=plC c i ((((lo+a) / 2).floor:Rat) * step):=by simpa using g
    rw[if_neg d] at h;refine r_m 2 ?_;refine a_z ?_;refine⟨(f,lo,(((lo+a) / 2).floor:Rat)),Nat.lt_succ_self f,h,?_⟩;simp only[dnS.eq_1];exact s_e []
   have b:¬0< fl (a- lo) 1:=by simpa using e
   rw[if_neg b] at h;cases h;refine aw ⟨a,trivial,?_⟩;simp only[dnS.eq_1];exact s_e []
 rintro a _;simp only[dnS.eq_1];refine r_c 4 (da l step n) ?_;refine a_z ?_;refine ae (r_d aT 7 ?_);refine c_s (yY c i (l* step) o) ?_;refine a_3 ?_;refine ao (n_k ?_);refine aj (Fin.many ⟨_,_,rfl,⟨_,_,_,_,_,rfl,rfl,rfl,.inl ⟨TG.h,_,TS.h,nle rfl,rfl⟩⟩,⟨_,_,rfl,rfl,rfl⟩⟩ (nle rfl) ?_);exact ak (ai aB (aO _)) (ak (ai aB (ag _)) aq)
def ur(f:Nat)(c:Cnt)(i:Int)(k:Int):Option Sp:=
 (Kd f c i (gF (wi k 256))).bind fun r=>if r.2 then some (r.1,r.1) else if qs r.1+qs (gF (wi k 256))<=549755813888 then some (r.1,r.1+gF (wi k 256)) else none
theorem fs_span(f:Nat)(c:Cnt)(i:Int)(k:Int)(s:Sp)(h:ur f c i k=some s):FS 258 [plA c i,i64 k] (.agg (spC s.1 s.2)):=by
 unfold ur at h;obtain⟨⟨a,g⟩,e,b⟩:=Option.bind_eq_some_iff.1 h;refine f_n Tryz.func258 ?_ ?_;exact ac (dm c i) (ac (ag _) af);refine r_z 1 ?_;refine r_c 4 (pY k) ?_;refine a_z ?_;refine r_c 9 (fs_down f c i (gF (wi k 256)) (a,g) e) ?_;refine a_z ?_;refine ae (r_z 1 ?_);refine ap rfl (fun d=>?_) (fun d=>?_);subst d;rw[if_pos rfl] at b;cases b;refine r_c 3 (Bt a) ?_;refine a_z ?_;exact aj (c_e (bD _ _))
 ·subst d
  rw[if_neg (show¬false=true by decide)] at b;split at b
  case isFalse=>cases b
  case isTrue hs=>
  cases b;refine am (ae (r_d aT 6 ?_));refine c_s (fM a (gF (wi k 256)) hs) ?_;refine a_2 ?_;refine ao (n_k ?_);exact aj (c_e (bD _ _))
def na(s:Sp):Rat:=(s.1+s.2) * gF 1
def AM(c:Cnt)(i:Int)(s:Sp):Sp:=if plC c i (na s)=0 then(na s,na s) else if plC c i (na s)=1 then(na s,s.2) else(s.1,na s)
def mX(c:Cnt)(s:Sp):Prop:=smS s/\tf c (na s)
instance (c:Cnt) (s:Sp):Decidable (mX c s):=inferInstanceAs (Decidable (_/\_))
def cV(c:Cnt)(i:Int)(s0:Sp):Nat->Sp
 |0=>s0
 |k+1=>AM c i (cV c i s0 k)
def closT(c:Cnt)(i:Int)(s0:Sp)(k:Nat):Option La:=some [.agg (spC (cV c i s0 k).1 (cV c i s0 k).2)]
abbrev bPl(c:Cnt)(i:Int):AV:= .aptr [[plA c i]] 0 0
theorem dw(c:Cnt)(i:Int):Closed (bPl c i):=aU (ac (dm c i) af)
theorem rN(f:Nat)(c:Cnt)(i:Int)(s0:Sp)(K:Nat)(h:ur f c i 0=some s0)(hok:∀k,k< K->mX c (cV c i s0 k)):GSpecB Tryz.prog 257 [bPl c i] (closT c i s0) K:=by
 refine GSpecB.enter Tryz.func257 rfl (by kernel_rfl) rfl rfl rfl ?_ ?_ rfl ?_;exact ac (dw c i) af;intro k xs h;cases h;exact ac (bD _ _) af;intro ll N hN E;refine GWp.seq ?_;refine GWp.lift ?_;refine r_m 4 ?_;refine c_s (fs_span f c i 0 s0 h) ?_;refine a_z ?_;refine GWp.block ?_;refine GWp.loopS (fun k:Nat=>⟨[(0,.v (.func (.yield ll) #[] #[])),(1,bPl c i),(3,.lptr 1 0 0)],[(1,some ⟨50,6,[spC (cV c i s0 k).1 (cV c i s0 k).2]⟩)],2,25⟩) (fun k=>k) (fun k=>N+1- k) (fun k=>k<=N) 0 (Nat.zero_le _) rfl ?_ ?_;have:=dw c i;exact s_f [(1,3)];intro k p;refine GWp.seq ?_;refine GWp.seq ?_;refine GWp.regY (fr2:=[(0,.v (.func (.yield ll) #[] #[])),(1,bPl c i),(3,.lptr 1 0 0),(7,.v (.func (.yield ll) #[] #[])),(8,.agg (spC (cV c i s0 k).1 (cV c i s0 k).2))]) (hp2:=[(1,some ⟨50,6,[spC (cV c i s0 k).1 (cV c i s0 k).2]⟩)]) (nx2:=2) 2 rfl rfl rfl rfl rfl rfl ?_ rfl rfl rfl ?_ ?_ ?_;refine o_0 (.move rfl) ?_;refine bF (.load_l rfl rfl rfl TG.h TS.h (nle rfl)) rfl rfl ?_;refine ao ?_;exact s_y [] (fun hs=>dJ) (fun hs=>lO);rotate_left 2;intro n;refine ao ?_;rotate_left;rfl;exact ac (bD _ _) af;cases n with
 |false=>
  refine GWp.cond rfl (fun h=>?_) (fun h=>?_);cases h;exact GWp.exit ⟨.inl rfl,fun h=>by cases h⟩
 |true=>
  refine GWp.bound fun b=>?_;refine GWp.cond rfl (fun h=>?_) (fun h=>?_);rotate_left;cases h;refine GWp.skip ?_;have o:=hok k (by omega);obtain⟨hs,hb⟩:=o;have a:cV c i s0 (k+1)=AM c i (cV c i s0 k):=rfl;obtain⟨s,g⟩:∃s,s=cV c i s0 k:=⟨_,rfl⟩;rw[<-g] at hs hb a⊢;refine GWp.lift ?_;refine ah (r_c 4 (DA s.1 s.2 hs.1 hs.2) ?_);refine a_z ?_;refine r_c 3 (yY c i (na s) hb) ?_;refine ao ?_;refine ah (r_z 2 ?_);refine ap rfl (fun l=>?_) (fun l=>?_);have e:plC c i (na s)=0:=by simpa using l
  have d:cV c i s0 (k+1)=(na s,na s):=by rw[a];unfold AM;rw[if_pos e]
  refine r_m 3 ?_;refine c_s (Bt (na s)) ?_;refine a_z ?_;refine⟨rfl,k+1,by omega,b,rfl,?_⟩;simp only[d];have:=dw c i;exact s_f [];have e:¬plC c i (na s)=0:=by simpa using l
  refine r_z 2 ?_;refine ap rfl (fun m=>?_) (fun m=>?_);have j:plC c i (na s)=1:=by simpa using m
  have d:cV c i s0 (k+1)=(na s,s.2):=by rw[a];unfold AM;rw[if_neg e,if_pos j]
  refine r_m 3 ?_;refine a_z ?_;refine⟨rfl,k+1,by omega,b,rfl,?_⟩;simp only[d];have:=dw c i;exact s_f [];have j:¬plC c i (na s)=1:=by simpa using m
  have d:cV c i s0 (k+1)=(s.1,na s):=by rw[a];unfold AM;rw[if_neg e,if_neg j]
  refine r_m 3 ?_;refine a_z ?_;refine⟨rfl,k+1,by omega,b,rfl,?_⟩;simp only[d];have:=dw c i;exact s_f []
theorem rW(c:Cnt)(i:Int):FS 215 [plA c i] (.clos 257 [] [bPl c i]):=by
 refine f_n Tryz.func215 ?_ ?_;exact ac (dm c i) af;refine r_z 2 ?_;refine r_z 2 ?_;refine aj (⟨.inr rfl,[_],⟨_,[],rfl,rfl,rfl⟩,?_⟩);exact Cv.clos aq (ak (Cv.boxp aB rfl (fun _ _ h=>by cases h) rfl (ac (dm c i) af)) aq)
def oF(t:Nat->Option Bool):Nat->Nat->Option Nat
 |0,_=>none
 |f+1,k=>match t k with
  |some true=>some k
  |some false=>oF t f (k+1)
  |none=>none
theorem kF{t:Nat->Option Bool}:∀{f k0 k:Nat},oF t f k0=some k->t k=some true/\k0<=k/\∀j,k0<=j->j< k->t j=some false
 |0,_,_,h=>by cases h
 |f+1,k0,k,h=>by
  rw[oF] at h;split at h;cases h;exact⟨by assumption,Nat.le_refl _,fun j b c=>by omega⟩;obtain⟨b,c,g⟩:=kF h;refine⟨b,by omega,fun j d a=>?_⟩;by_cases e:j=k0;rw[e];assumption;exact g j (by omega) a;cases h
def oT(c:Cnt)(i:Int)(s:Sp):Option Bool:=if tf c s.1/\yE c s.2/\mX c s/\ -4611686018427387904<=i/\i<=4611686018427387904 then some (decide (ed c s.1=i/\fz c s.2=i+1)) else none
def alS(c:Cnt)(i:Int):Nat->AState
 |k=>⟨[(1,bPl c i),(2,.lptr 1 0 0),(3,.lptr 2 0 0),(6,.clos 257 [] [bPl c i])],[(1,some ⟨50,6,[zC++zC]⟩),(2,some ⟨50,6,[zC++zC]⟩)],3,37⟩
def alX(s:Sp):Unit->AState
 |u=>⟨[(2,.lptr 1 0 0),(3,.lptr 2 0 0)],[(1,some ⟨50,6,[zC++zC]⟩),(2,some ⟨50,6,[spC s.1 s.2]⟩)],3,37⟩
theorem JJ(f g:Nat)(c:Cnt)(i:Int)(s0:Sp)(kk:Nat)(h:ur f c i 0=some s0)(hk:oF (fun k=>oT c i (cV c i s0 k)) g 0=some kk):FS 283 [plA c i] (.agg (spC (cV c i s0 kk).1 (cV c i s0 kk).2)):=by
 obtain⟨d,_,A⟩:=kF hk
 have m:∀k,k<=kk->tf c (cV c i s0 k).1/\yE c (cV c i s0 k).2/\mX c (cV c i s0 k)/\ -4611686018427387904<=i/\i<=4611686018427387904:=fun k hk=>by
  have:∃b,oT c i (cV c i s0 k)=some b:=by
   by_cases e:k=kk;rw[e];exact⟨_,d⟩;exact⟨_,A k (Nat.zero_le _) (by omega)⟩
  obtain⟨b,hb⟩:=this;unfold oT at hb;split at hb;assumption;cases hb
 have y:=rN f c i s0 kk h (fun k hk=>(m k (by omega)).2.2.1);refine f_n Tryz.func283 ?_ ?_;exact ac (dm c i) af;refine r_z 2 ?_;refine r_z 1 ?_;refine AWp.ent (st':=⟨[(1,bPl c i),(2,.lptr 1 0 0),(3,.lptr 2 0 0)],[(1,some ⟨50,6,[zC++zC]⟩),(2,some ⟨50,6,[zC++zC]⟩)],3,37⟩) ?_ ?_;have:=(ac (dm c i) af);exact s_f [(1,2),(2,3)];refine ae (r_c 2 (rW c i) ?_);refine ao ?_;refine aC (alX (cV c i s0 kk)) (fun _=>True) ?_ ?_;refine ah (AWp.rangeFuncB (α:=Nat) (γ:=Unit) kk (alS c i) (fun k=>k) (fun k=>k<=kk) (alX (cV c i s0 kk)) (fun e _=>e= .exit 0) 0 rfl y rfl rfl ?_ (fun _=>⟨rfl,rfl⟩) (fun _=>rfl) (Nat.zero_le _) rfl (fun _ h=>h) ?_ ?_ ?_ ?_ ?_);intro k xs j;cases j;rfl;rw[alS.eq_1];have:=dw c i;exact s_t [];exact ac (dw c i) af;intro l k xs hk j;cases j;have B:=m k hk;obtain⟨s,a⟩:∃s,s=cV c i s0 k:=⟨_,rfl⟩;rw[<-a] at B⊢;obtain⟨o,q,v,t,x⟩:=B;show AWp _ _ _ _ ⟨[(7,.agg (spC s.1 s.2)),(1,bPl c i),(2,.lptr 1 0 0),(3,.lptr 2 0 0),(6,.clos 257 [] [bPl c i]),(1001,bPl c i),(1002,.lptr 1 0 0),(1003,.lptr 2 0 0),(1006,.clos 257 [] [bPl c i])],[(1,some ⟨50,6,[zC++zC]⟩),(2,some ⟨50,6,[zC++zC]⟩)],3,37⟩;refine r_m 2 ?_;refine a_z ?_;refine ah ?_;by_cases hb:ed c s.1=i;refine ae (r_d aT 27 ?_);refine c_s (ly c s.1 o) ?_;refine a_6 ?_;refine y_g rfl (by simp[hb]) (.load_a1 rfl rfl TG.h rfl) ?_;refine y_g rfl (by simp[hb]) (.nilCheck rfl rfl) ?_;refine y_g rfl (by simp[hb]) (.fieldAddr_a rfl TF.h (by decide)) ?_;refine y_g rfl (by simp[hb]) (.load_a1 rfl rfl TG.h rfl) ?_
 refine y_g rfl (by simp[hb]) (.fieldAddr_l rfl TF.h (by decide)) ?_;refine y_g rfl (by simp[hb]) (.load_l rfl rfl rfl TG.h TS.h (nle rfl)) ?_;refine y_g rfl (by simp[hb]) (.call rfl rfl rfl (nZ c s.2 q)) ?_;refine y_g rfl (by simp[hb]) (.load_a1 rfl rfl TG.h rfl) ?_;refine y_g rfl (by simp[hb]) (.nilCheck rfl rfl) ?_;refine y_g rfl (by simp[hb]) (.fieldAddr_a rfl TF.h (by decide)) ?_;refine y_g rfl (by simp[hb]) (.load_a1 rfl rfl TG.h rfl) ?_;refine y_g rfl (by simp[hb]) (.bin rfl rfl (B1 (by omega))) ?_;refine y_g rfl (by simp[hb]) (.bin rfl rfl bv) ?_;refine o_0 (.pickT rfl (by simp[hb]) rfl) ?_;refine ao (n_k ?_);refine ap rfl (fun w=>?_) (fun w=>?_);have z:fz c s.2=i+1:=by simpa using w
 have n:k=kk:=by
  refine Nat.le_antisymm hk (Nat.le_of_not_lt fun r=>?_);have p:=A k (Nat.zero_le _) r;rw[<-a] at p;unfold oT at p;rw[if_pos ⟨o,q,v,t,x⟩] at p;simp[hb,z] at p
 subst n;refine r_z 2 ?_;refine aw (⟨rfl,(),rfl,?_⟩);rw[<-a];show SEntT _ ⟨[(1002,.lptr 1 0 0),(1003,.lptr 2 0 0)],[(1,some ⟨50,6,[zC++zC]⟩),(2,some ⟨50,6,[spC s.1 s.2]⟩)],3,37⟩;exact s_y [] (fun hs=>dJ) (fun hs=>lO);have z:¬fz c s.2=i+1:=by simpa using w
 have n:k< kk:=by
  refine Nat.lt_of_le_of_ne hk fun e=>?_;subst e;rw[<-a] at d;unfold oT at d;rw[if_pos ⟨o,q,v,t,x⟩] at d;simp[z] at d
 refine am (⟨k+1,⟨n,rfl⟩,?_⟩);show SEntT _ ⟨[(1001,bPl c i),(1002,.lptr 1 0 0),(1003,.lptr 2 0 0),(1006,.clos 257 [] [bPl c i])],[(1,some ⟨50,6,[zC++zC]⟩),(2,some ⟨50,6,[zC++zC]⟩)],3,37⟩;exact s_y [] (fun hs=>dJ) (fun hs=>lO);refine ae (r_d aT 27 ?_);refine c_s (ly c s.1 o) ?_;refine a_6 ?_;refine n_g rfl (by simp[hb]) ?_;refine n_g rfl (by simp[hb]) ?_;refine n_g rfl (by simp[hb]) ?_;refine n_g rfl (by simp[hb]) ?_;refine n_g rfl (by simp[hb]) ?_;refine n_g rfl (by simp[hb]) ?_;refine n_g rfl (by simp[hb]) ?_;refine n_g rfl (by simp[hb]) ?_;refine n_g rfl (by simp[hb]) ?_;refine n_g rfl (by simp[hb]) ?_;refine n_g rfl (by simp[hb]) ?_;refine n_g rfl (by simp[hb]) ?_;refine n_g rfl (by simp[hb]) ?_;refine o_0 (.pickF rfl (by simp[hb]) rfl) ?_;refine ao (n_k ?_);refine cF ?_
 have n:k< kk:=by
  refine Nat.lt_of_le_of_ne hk fun e=>?_;subst e;rw[<-a] at d;unfold oT at d;rw[if_pos ⟨o,q,v,t,x⟩] at d;simp[hb] at d
 refine am (⟨k+1,⟨n,rfl⟩,?_⟩);show SEntT _ ⟨[(1001,bPl c i),(1002,.lptr 1 0 0),(1003,.lptr 2 0 0),(1006,.clos 257 [] [bPl c i])],[(1,some ⟨50,6,[zC++zC]⟩),(2,some ⟨50,6,[zC++zC]⟩)],3,37⟩;exact s_y [] (fun hs=>dJ) (fun hs=>lO);intro k hk j;cases j;rintro e u rfl;exact⟨u,trivial,SEnt.refl _⟩;rintro u _;rw[alX.eq_1];refine r_z 2 ?_;exact aj (c_e (bD _ _))
def KO(f g:Nat)(c:Cnt)(i:Int):Option Sp:=(ur f c i 0).bind fun s0=>(oF (fun k=>oT c i (cV c i s0 k)) g 0).map (cV c i s0)
theorem GW(f g:Nat)(c:Cnt)(i:Int)(s:Sp)(h:KO f g c i=some s):FS 283 [plA c i] (.agg (spC s.1 s.2)):=by
 obtain⟨d,b,a⟩:=Option.bind_eq_some_iff.1 h;obtain⟨k,e,rfl⟩:=Option.map_eq_some_iff.1 a;exact JJ f g c i d k b e
def ye(f g:Nat)(c:Cnt)(i:Int)(q:Lq):Option Bool:=
 if c.p.length<=274877906944/\q.length<=274877906944 then(GC f c.p q).bind fun d=>
  if d.length<=274877906944 then
   if a8 d< 1 then some false
   else(kI f d).bind fun c2=>(KO f g c i).bind fun s=>if yE c2 s.2/\tf c2 s.1 then some (decide (ed c2 s.1< fz c2 s.2)) else none
  else none
 else none
theorem GK(f g:Nat)(c:Cnt)(i:Int)(q:Lq)(r:Bool)(h:ye f g c i q=some r)(hf:f<=1000000):FS 265 [plA c i,.arr (pE q)] (bln r):=by
 unfold ye at h;split at h
 case isFalse=>cases h
 case isTrue hl=>
 obtain⟨d,m,a⟩:=Option.bind_eq_some_iff.1 h;split at a
 case isFalse=>cases a
 case isTrue hdl=>
 refine f_n Tryz.func265 ?_ ?_;exact ac (dm c i) (ac (az q) af);refine r_z 1 ?_;refine r_c 10 (JR f c.p q d m hl.1 hl.2) ?_;refine a_z ?_;refine ae (r_c 3 (dc d (by omega)) ?_);refine a_z ?_;refine ap rfl (fun l=>?_) (fun l=>?_);have j:a8 d< 1:=by simpa using l
 rw[if_pos j] at a;cases a;refine r_z 1 ?_;exact aj (t_e (ag _))
 ·have j:¬a8 d< 1:=by simpa using l
  rw[if_neg j] at a;obtain⟨b,k,n⟩:=Option.bind_eq_some_iff.1 a;obtain⟨s,hs,e⟩:=Option.bind_eq_some_iff.1 n;split at e
  case isFalse=>cases e
  case isTrue hk=>
  cases e;refine am (r_c 7 (rU f d b k hf) ?_);refine c_s (GW f g c i s hs) ?_;refine a_z ?_;refine ae (r_d aT 10 ?_);refine c_s (nZ b s.2 hk.1) ?_;refine c_s (ly b s.1 hk.2) ?_;refine a_2 ?_;refine ao (n_k ?_);exact aj (t_e (ag _))
def Aj(c:Cnt)(i:Int)(c2:Cnt)(s:Sp):Option Bool:=if yE c2 s.2/\tf c2 s.1/\mX c s then some (decide (fz c2 s.2=ed c2 s.1)) else none
def H8(f g:Nat)(c:Cnt)(i:Int)(q:Lq):Option Int:=
 if q.length<=274877906944 then
  if a8 q< 0 then some 0
  else(ye f g c i q).bind fun b=>if b then some 0 else(kI f q).bind fun c2=>(ur f c i 0).bind fun s0=>
   (oF (fun k=>Aj c i c2 (cV c i s0 k)) g 0).bind fun k=>if hZ q (cV c i s0 k).2 then some (sgZ (aE q (cV c i s0 k).2).num) else none
 else none
def pgS(c:Cnt)(i:Int)(q:Lq)(c2:Cnt):Nat->AState
 |k=>⟨[(0,plA c i),(3,bP q),(4,.lptr 1 0 0),(5,.aptr [[kA c2]] 0 0),(18,.clos 257 [] [bPl c i])],[(1,some ⟨3,1,[[i64 0]]⟩)],2,34⟩
def pgX(r:Int):Unit->AState
 |u=>⟨[(4,.lptr 1 0 0)],[(1,some ⟨3,1,[[i64 r]]⟩)],2,34⟩
theorem vV(c:Cnt):Closed (.aptr [[kA c]] 0 0):=aU (ac (gO c) af)
theorem fs_sign(f g:Nat)(c:Cnt)(i:Int)(q:Lq)(r:Int)(h:H8 f g c i q=some r)(hf:f<=1000000):FS 217 [plA c i,.arr (pE q)] (i64 r):=by
 unfold H8 at h;split at h
 case isFalse=>cases h
 case isTrue hl=>
 refine f_n Tryz.func217 ?_ ?_;exact ac (dm c i) (ac (az q) af);refine r_z 2 ?_;refine AWp.ent (st':=⟨[(0,plA c i),(3,bP q),(4,.lptr 1 0 0)],[(1,some ⟨3,1,[[i64 0]]⟩)],2,34⟩) ?_ ?_;exact s_f [(1,4)];by_cases hd:a8 q< 0;rw[if_pos hd] at h;cases h;refine ae (r_c 8 (dc q (by omega)) ?_);refine a_2 ?_;refine n_g rfl (by simp[hd]) ?_;refine n_g rfl (by simp[hd]) ?_;refine n_g rfl (by simp[hd]) ?_;refine o_0 (.pickT rfl (by simp[hd]) rfl) ?_;refine ao ?_;refine ap rfl (fun p=>?_) (fun p=>?_);refine r_z 1 ?_;exact aj (Fin.cell1E rfl rfl rfl TG.h rfl rfl (ag _));cases p;rw[if_neg hd] at h;obtain⟨b,hb,w⟩:=Option.bind_eq_some_iff.1 h;refine ae (r_c 8 (dc q (by omega)) ?_);refine a_2 ?_;refine y_g rfl (by simp[hd]) (.move rfl) ?_;refine y_g rfl (by simp[hd]) (.load_a1 rfl rfl TG.h rfl) ?_;refine y_g rfl (by simp[hd]) (.call rfl rfl rfl (GK f g c i q b hb hf)) ?_;refine o_0 (.pickF rfl (by simp[hd]) rfl) ?_;refine ao ?_;refine ap rfl (fun p=>?_) (fun p=>?_);have n:b=true:=p;subst n;rw[if_pos rfl] at w;cases w;refine r_z 1 ?_;exact aj (Fin.cell1E rfl rfl rfl TG.h rfl rfl (ag _));have n:b=false:=p;subst n;rw[if_neg (show¬false=true by decide)] at w;obtain⟨a,E,O⟩:=Option.bind_eq_some_iff.1 w;obtain⟨m,A,N⟩:=Option.bind_eq_some_iff.1 O;obtain⟨j,z,C⟩:=Option.bind_eq_some_iff.1 N;split at C
 case isFalse=>cases C
 case isTrue hev=>
 cases C;obtain⟨t1,_,t2⟩:=kF z
 have v:∀k,k<=j->yE a (cV c i m k).2/\tf a (cV c i m k).1/\mX c (cV c i m k):=fun k o=>by
  have:∃b,Aj c i a (cV c i m k)=some b:=by
   by_cases e:k=j;rw[e];exact⟨_,t1⟩;exact⟨_,t2 k (Nat.zero_le _) (by omega)⟩
  obtain⟨b,hb⟩:=this;unfold Aj at hb;split at hb;assumption;cases hb
 have G:=rN f c i m j A (fun k o=>(v k (by omega)).2.2);obtain⟨r,D⟩:∃r,r=sgZ (aE q (cV c i m j).2).num:=⟨_,rfl⟩;rw[<-D];refine am (r_c 4 (rU f q a E hf) ?_);refine a_z ?_;refine AWp.ent (st':=⟨[(0,plA c i),(3,bP q),(4,.lptr 1 0 0),(5,.aptr [[kA a]] 0 0)],[(1,some ⟨3,1,[[i64 0]]⟩)],2,34⟩) ?_ ?_;have:=(ac (gO a) af);exact s_f [];refine ae (r_c 2 (rW c i) ?_);refine ao ?_;refine aC (pgX r) (fun _=>False) ?_ (fun _ h=>h.elim);refine ah (AWp.rangeFuncB (α:=Nat) (γ:=Unit) j (pgS c i q a) (fun k=>k) (fun k=>k<=j) (pgX r) (fun e _=>e= .ret) 0 rfl G rfl rfl ?_ (fun _=>⟨rfl,rfl⟩) (fun _=>rfl) (Nat.zero_le _) rfl (fun _ h=>h) ?_ ?_ ?_ ?_ ?_);intro k xs t;cases t;rfl;rw[pgS.eq_1];have:=vV a;exact s_t [];exact ac (dw c i) af;intro l k xs o t;cases t;have M:=v k o;obtain⟨s,d⟩:∃s,s=cV c i m k:=⟨_,rfl⟩;rw[<-d] at M⊢;obtain⟨K,F,L⟩:=M;show AWp _ _ _ _ ⟨[(19,.agg (spC s.1 s.2)),(0,plA c i),(3,bP q),(4,.lptr 1 0 0),(5,.aptr [[kA a]] 0 0),(18,.clos 257 [] [bPl c i]),(1000,plA c i),(1003,bP q),(1004,.lptr 1 0 0),(1005,.aptr [[kA a]] 0 0),(1018,.clos 257 [] [bPl c i])],[(1,some ⟨3,1,[[i64 0]]⟩)],2,34⟩;refine r_m 2 ?_;refine a_z ?_;refine ah (ae (r_d aT 9 ?_));refine c_s (nZ a s.2 K) ?_;refine c_s (ly a s.1 F) ?_;refine a_1 ?_;refine ao (n_k ?_);refine ap rfl (fun H=>?_) (fun H=>?_);have B:fz a s.2=ed a s.1:=by simpa using H
 have J:k=j:=by
  refine Nat.le_antisymm o (Nat.le_of_not_lt fun y=>?_);have x:=t2 k (Nat.zero_le _) y;rw[<-d] at x;unfold Aj at x;rw[if_pos ⟨K,F,L⟩] at x;simp[B] at x
 subst J;rw[<-d] at hev D;refine r_c 6 (kD q s.2 hev) ?_;refine c_s (cJ (aE q s.2)) ?_;refine a_z ?_;refine aj (⟨rfl,(),rfl,?_⟩);rw[D];show SEntT _ ⟨[(1004,.lptr 1 0 0)],[(1,some ⟨3,1,[[i64 (sgZ (aE q s.2).num)]]⟩)],2,34⟩;exact s_t [];have B:¬fz a s.2=ed a s.1:=by simpa using H
 have J:k< j:=by
  refine Nat.lt_of_le_of_ne o fun e=>?_;subst e;rw[<-d] at t1;unfold Aj at t1;rw[if_pos ⟨K,F,L⟩] at t1;simp[B] at t1
 refine am (⟨k+1,⟨J,rfl⟩,?_⟩);show SEntT _ ⟨[(1000,plA c i),(1003,bP q),(1004,.lptr 1 0 0),(1005,.aptr [[kA a]] 0 0),(1018,.clos 257 [] [bPl c i])],[(1,some ⟨3,1,[[i64 0]]⟩)],2,34⟩;have:=vV a;exact s_t [];intro k o t;cases t;rintro e u rfl;exact Fin.cell1E rfl rfl rfl TG.h rfl rfl (ag _)
end Go.Proofs.YtiodeiecpoopgaaGreatDoor
