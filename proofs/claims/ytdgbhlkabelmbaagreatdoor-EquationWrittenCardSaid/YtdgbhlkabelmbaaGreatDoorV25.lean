/- Part V25 of the proof. -/
import Derived.Test.YtdgbhlkabelmbaaGreatDoorV24
set_option linter.all false
namespace Go.Proofs.YtdgbhlkabelmbaaGreatDoor
open Go.Abs
set_option maxRecDepth 20000
set_option maxHeartbeats 2000000
def prS(t:List Rat):Nat×Nat→AState
 |(i,d)=>⟨[(0,.arr (pE t)),(3,.lptr 1 0 0),(4,.lptr 2 0 0),(13,.arr (pE t)),(14,i64 t.length),(15,i64 i)],[(1,some ⟨36,3,[qC (nQ d)]⟩),(2,some ⟨36,3,[qC 0]⟩)],3,47⟩
def prT(t:List Rat)(D:Nat):Nat×Nat→AState
 |(i,n)=>⟨[(0,.arr (pE t)),(3,.lptr 1 0 0),(4,.lptr 2 0 0),(29,.arr (pE t)),(30,i64 t.length),(31,i64 i)],[(1,some ⟨36,3,[qC (nQ D)]⟩),(2,some ⟨36,3,[qC (nQ n)]⟩)],3,47⟩
theorem yn{l:List Rat}{i:Nat}(h:i< l.length):l.drop i=coP l i::l.drop (i+1):=by
 rw[List.drop_eq_getElem_cons h];congr 1;have:=ca h;rw[List.getElem?_eq_getElem h] at this;exact Option.some.inj this
theorem Ij(a b:Nat):bl (Nat.gcd a b)≤max (bl a) (bl b):=by
 rcases Nat.eq_zero_or_pos a with h|h
 subst h;rw[Nat.gcd_zero_left];exact Nat.le_max_right _ _;exact Nat.le_trans (dJ (Nat.gcd_le_left b h)) (Nat.le_max_left _ _)
theorem pD(p:List Rat)(h:xw p)(h0:aq p≠[]):FS 228 [.arr (pE p)] (.arr (pE (er p))):=by
 obtain⟨t,ht⟩:∃t,t=aq p:=⟨_,rfl⟩;obtain⟨s,hs⟩:∃s,s=mxL p:=⟨_,rfl⟩;have Z:1≤s:=by rw[hs];exact ew p
 have j:bdL t s:=fun q hq=>by rw[hs];exact eO p q (c7 (by rw[←ht];exact hq))
 have M:t.length≤p.length:=by rw[ht];exact bF p
 obtain⟨F,W⟩:=h;rw[←hs] at F;have X:t.length* s≤p.length* s:=Nat.mul_le_mul_right _ M;rw[Nat.add_mul] at F;obtain⟨D,C⟩:∃D,D=uN t 1:=⟨_,rfl⟩;have O:D≠0:=by rw[C];exact Ee t (by decide)
 have hDb:bl D≤1+t.length* s:=by rw[C];exact Ef t 1 j
 have B:∀c∈t,c.den∣D:=by rw[C];exact(uM t 1).2
 obtain⟨N,hN⟩:∃N,N=EM D t 0:=⟨_,rfl⟩
 have b:aS p∈t:=by
  rw[ht];obtain⟨n,o⟩:∃n,(aq p).length=n+1:=⟨(aq p).length- 1,by have:=List.length_pos_iff.2 h0;omega⟩;exact List.mem_of_getElem? (ef o)
 have m:=(zr D t 0).2 (aS p) b;rw[←hN] at m;have T:=intC_ne (B _ b) O (fZ h0);have R:N≠0:=fun e=>T (by rw[e] at m;exact Nat.zero_dvd.1 m);have hNb:bl N≤s+bl D:=Nat.le_trans (dJ (Nat.le_of_dvd (by omega) m)) (Nat.le_trans (DS _ _) (by have:=j _ b;omega));have V:er p=aX t (nQ D/ nQ N):=by unfold er;rw[←ht,←C,←hN]
 rw[V];have f:∀i,i< t.length→(pE t)[((i:Nat):Int).toNat]?=some (qC (coP t i)):=fun i w=>pE_get (ca w);have g:∀i,i< t.length→coP t i∈t:=fun i w=>List.mem_of_getElem? (ca w);have G:=dd p (by omega);rw[←ht] at G;refine f_c Tryz.func228 ?_;refine r_z 1 ?_;refine r_c 3 (G) ?_;refine a_z ?_;refine r_c 6 (du 1 (by decide)) ?_;refine a_z ?_;refine ae (r_z 3 ?_);refine aG (fun _:Unit=>⟨[(0,.arr (pE t)),(3,.lptr 1 0 0),(4,.lptr 2 0 0)],[(1,some ⟨36,3,[qC (nQ D)]⟩),(2,some ⟨36,3,[qC 0]⟩)],3,47⟩) (fun _=>True) ?_ ?_;refine aj (aB (prS t) (fun x=>t.length- x.1) (fun x=>x.1≤t.length∧x.2≠0∧uN (t.drop x.1) x.2=D) (0,1) ⟨Nat.zero_le _,by decide,by rw[C];rfl⟩ ?_ ?_);simp only[prS.eq_1];rw[qC0];exact s_e [(1,3),(2,4)];rintro⟨i,d⟩ ⟨w,y,z⟩;simp only at w y z;rw[prS.eq_1];refine r_z 1 ?_;refine ae (ap rfl (fun h=>?_) (fun h=>?_));refine ak ?_;have a:i< t.length:=by simpa using h
 have hc:=j _ (g i a);have hcd:=dM (coP t i);have L:=(coP t i).den_nz;rw[yn a] at z;have U:d∣D:=by rw[←z];exact(uM _ d).1
 have hdb:=dJ (Nat.le_of_dvd (by omega) U);have hq1:=ns (n:=d) (k:=34359738368) (by omega) (by decide);have H:=ns (n:=(coP t i).den) (k:=34359738368) (by omega) (by decide);have l:=cJ (nQ d) (nQ (coP t i).den) (by omega);have u:=ur d (coP t i).den (by omega) (by omega);have v:Nat.gcd d (coP t i).den≠0:=by have:=Nat.gcd_pos_of_pos_left (coP t i).den (Nat.pos_of_ne_zero y);omega
 have S:=Ij d (coP t i).den;have J:=ns (n:=Nat.gcd d (coP t i).den) (k:=34359738368) (by omega) (by decide);have K:=dK (nQ d) (nQ (coP t i).den);rw[GW] at K l;have A:=gU (nQ (d* (coP t i).den)) (nQ (Nat.gcd d (coP t i).den)) (fun e=>v (nQ_zero.1 e)) (by omega);rw[BP _ _ v,ER _ _ v (Nat.dvd_mul_right_of_dvd (Nat.gcd_dvd_left _ _) _)] at A;refine ae (aj (s_r 4 ?_))
 first|refine aF (.index_l rfl rfl (by omega) (by omega) te_38.h) rfl rfl ?_|refine aF (.index_a rfl rfl (by omega) (f i a) rfl te_38.h) rfl rfl ?_
 first|refine aF (.load_l rfl rfl (f i a) TG.h TS.h (nle rfl)) rfl rfl ?_|refine aF (.load_a rfl (f i a) TG.h TS.h (nle rfl)) rfl rfl ?_
 refine a_z ?_;refine r_d a6 10 ?_;refine c_s (HE (coP t i) (by unfold sm;omega)) ?_;refine c_s (l) ?_;refine c_s (HE (coP t i) (by unfold sm;omega)) ?_;refine c_s (u) ?_;refine c_s (A) ?_;refine a_1 ?_;refine ao (n_k ?_);refine r_m 2 ?_;refine a_z ?_;refine⟨(i+1,Nat.lcm d (coP t i).den),by simp only;omega,⟨a,DN y L,z⟩,?_⟩;simp only[prS.eq_1];exact s_e []
 have r:i=t.length:=by
  have:¬i< t.length:=by simpa using h
  omega
 subst r;rw[List.drop_length] at z;refine ay ⟨(),trivial,?_⟩;rw[←z];exact s_e [];rintro _ _;refine ae (r_z 3 ?_);refine aG (fun _:Unit=>⟨[(0,.arr (pE t)),(3,.lptr 1 0 0),(4,.lptr 2 0 0)],[(1,some ⟨36,3,[qC (nQ D)]⟩),(2,some ⟨36,3,[qC (nQ N)]⟩)],3,47⟩) (fun _=>True) ?_ ?_;refine aj (aB (prT t D) (fun x=>t.length- x.1) (fun x=>x.1≤t.length∧bl x.2≤s+bl D∧EM D (t.drop x.1) x.2=N) (0,0) ⟨Nat.zero_le _,by rw[bl_zero];exact Nat.zero_le _,by rw[hN];rfl⟩ ?_ ?_);simp only[prT.eq_1];exact s_e [];rintro⟨i,n⟩ ⟨w,Q,o⟩;simp only at w Q o;rw[prT.eq_1];refine r_z 1 ?_;refine ae (ap rfl (fun h=>?_) (fun h=>?_));refine ak ?_;have a:i< t.length:=by simpa using h
 have hc:=j _ (g i a);rw[yn a] at o;have Y:=DS (coP t i) D;have S:=Ij n (rZ (coP t i) D);have hq1:=ns (n:=D) (k:=34359738368) (by omega) (by decide);have l:=cJ (coP t i) (nQ D) (by omega);have E:=qR (coP t i* nQ D);rw[GY _ _ (B _ (g i a))] at E;have u:=ur n (rZ (coP t i) D) (by omega) (by omega);refine ae (aj (s_r 4 ?_))
 first|refine aF (.index_l rfl rfl (by omega) (by omega) te_38.h) rfl rfl ?_|refine aF (.index_a rfl rfl (by omega) (f i a) rfl te_38.h) rfl rfl ?_
 first|refine aF (.load_l rfl rfl (f i a) TG.h TS.h (nle rfl)) rfl rfl ?_|refine aF (.load_a rfl (f i a) TG.h TS.h (nle rfl)) rfl rfl ?_
 refine a_z ?_;refine r_d a6 7 ?_;refine c_s (l) ?_;refine c_s (E) ?_;refine c_s (u) ?_;refine a_1 ?_;refine ao (n_k ?_);refine r_m 2 ?_;refine a_z ?_;refine⟨(i+1,Nat.gcd n (rZ (coP t i) D)),by simp only;omega,⟨a,by simp only;omega,o⟩,?_⟩;simp only[prT.eq_1];exact s_e []
 have r:i=t.length:=by
  have:¬i< t.length:=by simpa using h
  omega
 subst r;rw[List.drop_length] at o;refine ay ⟨(),trivial,?_⟩;rw[←o];exact s_e [];rintro _ _;have hq1:=ns (n:=D) (k:=34359738368) (by omega) (by decide);have H:=ns (n:=N) (k:=34359738368) (by omega) (by decide);have J:=gO (nQ D) (nQ N);refine r_c 6 (gU (nQ D) (nQ N) (fun e=>R (nQ_zero.1 e)) (by omega)) ?_;refine c_s (eI t (nQ D/ nQ N) (c6 j (by omega)) (by unfold sm;omega) (by omega)) ?_;refine a_z ?_;exact ai (t_e (ax _))
theorem vk(f:Nat)(p r:List Rat)(h:sqfM f p=some r):FS 184 [.arr (pE p)] (.arr (pE r)):=by
 unfold sqfM at h;split at h
 case isFalse=>cases h
 case isTrue hs=>
 obtain⟨g,hg,a⟩:=Option.bind_eq_some_iff.1 h;split at a
 case isFalse=>cases a
 case isTrue hg2=>
 cases a;have c:=my p;have b:=uK (p:=p) (q:=g);refine f_c Tryz.func184 ?_;refine r_z 1 ?_;refine r_c 11 (qS p hs.1 (by omega)) ?_;refine c_s (HN f p (dZ p) g hg hs.2 (by omega)) ?_;refine c_s (qN p g (mxL p) (mxL g) (eO p) (eO g) (ew p) (ew g) hg2.2.1 hg2.1 hs.2 hg2.2.2.2) ?_;refine a_z ?_;refine r_c 3 (ui (fW p g).1 (yq hg2.2 hg2.1).1 (by omega)) ?_;refine a_z ?_;exact ai (t_e (ax _))
def boS(t:List Rat)(l:List Rat):Nat×Rat→AState
 |(i,m)=>⟨[(0,.arr (pE t)),(2,.lptr 1 0 0),(3,.lptr 2 0 0),(13,.arr (pE l)),(14,i64 l.length),(15,i64 i)],[(1,some ⟨36,3,[zC]⟩),(2,some ⟨36,3,[qC m]⟩)],3,31⟩
theorem HF(p:List Rat)(h:pf p)(h0:aq p≠[]):FS 263 [.arr (pE p)] (.agg (qC (gC p))):=by
 obtain⟨G,D⟩:=h;obtain⟨t,ht⟩:∃t,t=aq p:=⟨_,rfl⟩;have o:=dd p (by omega);have u:=bF p;rw[←ht] at o u;obtain⟨l,r⟩:∃l,l=t.take (t.length- 1):=⟨_,rfl⟩;have a:l.length=t.length- 1:=by rw[r];simp
 have w:bdL l (mxL p):=fun q z=>eO p q (c7 (by rw[←ht];exact List.mem_of_mem_take (by rw[←r];exact z)));have C:0< t.length:=by rw[ht];exact List.length_pos_iff.2 h0
 have e:aS t=aS p:=by rw[ht,BW]
 have J:qs (aS p)≤mxL p:=by
  obtain⟨n,E⟩:∃n,(aq p).length=n+1:=⟨(aq p).length- 1,by rw[←ht];omega⟩;exact eO p _ (c7 (List.mem_of_getElem? (ef E)))
 have hb:gC p=boL (aS p) l 0+1:=by unfold gC;rw[←ht,←r]
 rw[hb];obtain⟨B,hB⟩:∃B,B=boL (aS p) l 0:=⟨_,rfl⟩;rw[←hB];refine f_c Tryz.func263 ?_;refine r_z 1 ?_;refine r_c 3 (o) ?_;refine a_z ?_;refine r_z 3 ?_;refine ae (s_r 7 ?_);refine a_4 ?_;refine o_0 (.sa_h rfl rfl (h:=t.length- 1) (by omega) (by simp) te_38.h (lh _)) ?_;refine a_z ?_;refine aG (fun _:Unit=>⟨[(2,.lptr 1 0 0),(3,.lptr 2 0 0)],[(1,some ⟨36,3,[zC]⟩),(2,some ⟨36,3,[qC B]⟩)],3,31⟩) (fun _=>qs B≤2* mxL p+1) ?_ ?_;refine aj (aB (boS t l) (fun x=>l.length- x.1) (fun x=>x.1≤l.length∧qs x.2≤2* mxL p+1∧boL (aS p) (l.drop x.1) x.2=B) (0,0) ⟨Nat.zero_le _,Nat.le_trans (by decide:qs 0≤1) (Nat.le_add_left 1 _),by rw[hB];rfl⟩ ?_ ?_);simp only[boS.eq_1];rw[qC0];have d:AV.arr (List.take (t.length- 1) (pE t))=AV.arr (pE l):=by rw[r,sj]
 refine s_x [(1,2),(2,3)] (fun hs=>?_) (fun hs=>?_) ?_
 ·repeat' (first|exact aN|refine aA rfl ?_ ?_|exact Cv.loE hs d (d▸ax l)|exact aV|(refine Cv.loE hs ?_ (ag _);first|rfl|(simp[i64,u64,u32,bln,a];done)|(simp[i64,u64,u32,bln,a]<;> omega)))
 ·repeat' (first|exact aE|refine h_c ?_ ?_|exact bC|(refine aI hs ?_ (aJ _);first|(simp[iY,kD,a];done)|(simp[pE,ofV,a];done))|refine az ?_|exact av|refine ah ?_ ?_|exact Cv.loE hs d (d▸ax l)|exact aV|(refine Cv.loE hs ?_ (ag _);first|(simp[i64,u64,u32,bln,a];done)|(simp[i64,u64,u32,bln,a]<;> omega)))
 ·repeat' (first|exact ShrL.nil|refine ShrL.cons rfl rfl rfl rfl (by first|rfl|(simp;done)|(simp[a]<;> omega)) ?_)
 rintro⟨i,m⟩ ⟨H,y,b⟩;simp only at H y b;rw[boS.eq_1];refine r_z 1 ?_;refine ae (ap rfl (fun h=>?_) (fun h=>?_));refine ak ?_;have c:i< l.length:=by simpa using h
 have f:(pE l)[((i:Nat):Int).toNat]?=some (qC (coP l i)):=pE_get (ca c);have hc:qs (coP l i)≤mxL p:=w _ (List.mem_of_getElem? (ca c));rw[yn c] at b;have z:=gO (coP l i) (aS p);have k:=pL t (by omega);rw[e] at k;have F:=qs_abs (coP l i/ aS p)
 have g:bdL [m,fS (coP l i/ aS p)] (2* mxL p+1):=by
  intro x v;rcases List.mem_cons.1 v with rfl|v
  exact y;rw[List.mem_singleton.1 v];omega
 have A:=xT [m,fS (coP l i/ aS p)] (c6 g (by omega)) (by simp);refine ae (aj (s_r 4 ?_));refine i_x f ?_;refine l_x f ?_;refine a_z ?_;refine r_d a6 9 ?_;refine c_s (k) ?_;refine c_s (gU (coP l i) (aS p) (fZ h0) (by omega)) ?_;refine c_s (qR (coP l i/ aS p)) ?_;refine a_1 ?_;refine o_1 (.callS1 rfl rfl rfl (.shut rfl d_n (.nil)) rfl (A)) ?_;refine a_1 ?_;refine ao (n_k ?_);refine r_m 2 ?_;refine a_z ?_;refine⟨(i+1,nO [m,fS (coP l i/ aS p)]),by simp only;omega,⟨c,maxL_le g (Nat.le_add_left 1 _),b⟩,?_⟩;simp only[boS.eq_1];exact s_e []
 have s:i=l.length:=by
  have:¬i< l.length:=by simpa using h
  omega
 subst s;rw[List.drop_length] at b;have j:m=B:=b;subst j;refine ay ⟨(),y,?_⟩;exact s_e [];rintro _ z;have h1:qs 1=1:=by decide
 refine ae (r_d a6 4 ?_);refine c_s (du 1 (by decide)) ?_;refine c_s (fh B 1 (by omega)) ?_;refine a_1 ?_;refine ao (n_k ?_);exact ai (c_e (aT _))
def stS:List Rat×List (List Rat)→AState
 |(next,acc)=>⟨[(3,.lsl 1 0 acc.length none 1),(4,.arr (pE next))],[(1,some ⟨38,1,cE acc⟩)],2,40⟩
theorem Br(next:List Rat)(acc:List (List Rat)):stS (next,acc)=⟨[(3,.lsl 1 0 acc.length none 1),(4,.arr (pE next))],[(1,some ⟨38,1,cE acc⟩)],2,40⟩:=rfl
theorem EJ(p:List Rat):(er p).length≤p.length:=
 Nat.le_trans (cL _ _) (bF p)
theorem Hm(f:Nat)(p:List Rat)(r:List (List Rat))(h:Bp f p=some r)(hf:f≤1000000):FS 185 [.arr (pE p)] (.arr (cE r)):=by
 unfold Bp at h;split at h
 case isFalse=>cases h
 case isTrue hp=>
 have u:=my p;have j:=hp.2.1.2;refine f_c Tryz.func185 ?_;refine r_z 1 ?_;refine r_c 4 (pD p hp.2.1 hp.2.2) ?_;refine a_z ?_;refine ae (r_c 3 (qS p hp.1 (by omega)) ?_);refine a_z ?_;refine aG (fun _:Unit=>⟨[(3,.lsl 1 0 r.length none 1)],[(1,some ⟨38,1,cE r⟩)],2,40⟩) (fun _=>True) ?_ ?_
 ·refine aj (aB (fun x:Nat×List Rat×List Rat×List (List Rat)=>stS x.2.2) (fun x=>x.1) (fun x=>yz f x.1 x.2.1 x.2.2.1 x.2.2.2=some r∧x.2.2.1.length≤274877906944∧x.2.2.2.length+x.1≤1000001∧1≤x.2.2.2.length∧x.2.2.2[x.2.2.2.length- 1]?=some x.2.1) (f,er p,dZ p,[er p]) ⟨h,by simp only;omega,by simp only[List.length_singleton];omega,by simp,rfl⟩ ?_ ?_)
  simp only[Br];have:=jp [er p];exact s_f [(1,3)];rintro⟨k,last,next,a⟩ ⟨h,l,s,i,b⟩;simp only at h l s i b;simp only[Br];cases k with
  |zero=>cases h
  |succ k=>
   rw[yz] at h;refine ae (r_c 3 (dk next (by omega)) ?_);refine a_z ?_;refine ap rfl (fun h1=>?_) (fun h1=>?_)
   ·have g:aq next≠[]:=by
     intro e;have e2:=degP_neg.2 e;simp at h1;omega
    rw[if_neg g] at h;split at h
    case isFalse=>cases h
    case isTrue hs=>
    have n:=EJ next
    have t:=uK (p:=last) (q:=er next);have o:=cL (fW last (er next)).2 (-1);have m:=hs.2.1.2.1
    have c:(cE (a++[er next]))[0+(((a.length+1:Nat):Int)- 2).toNat]?=some [.arr (pE last)]:=by
     rw[show 0+(((a.length+1:Nat):Int)- 2).toNat=a.length- 1 by omega];exact CV (by rw[List.getElem?_append_left (by omega)];exact b)
    have d:(cE (a++[er next]))[0+(((a.length+1:Nat):Int)- 1).toNat]?=some [.arr (pE (er next))]:=by
     rw[show 0+(((a.length+1:Nat):Int)- 1).toNat=a.length by omega];exact CV (by simp)
    refine ak (aj (r_c 6 (pD next hs.1 g) ?_));refine a_z ?_;refine AWp.ent (st':=⟨[(3,.lsl 1 0 (a.length+1) none 1)],[(1,some ⟨38,1,cE (a++[er next])⟩)],2,40⟩) ?_ ?_
    ·have:=(cE_snoc a (er next)).symm
     exact s_f [(1,3)]
    refine ae (r_d a6 18 ?_);refine a_5 ?_
    first|refine aF (.load_l1 rfl rfl c TG.h rfl) rfl rfl ?_|refine aF (.load_a1 rfl c TG.h rfl) rfl rfl ?_
    refine a_5 ?_
    first|refine aF (.load_l1 rfl rfl d TG.h rfl) rfl rfl ?_|refine aF (.load_a1 rfl d TG.h rfl) rfl rfl ?_
    refine c_s (qN last (er next) (mxL last) (mxL (er next)) (eO _) (eO _) (ew _) (ew _) hs.2.1.1 hs.2.2 hs.2.1.2.1 hs.2.1.2.2) ?_;refine a_5 ?_;refine ao (n_k ?_);refine r_m 4 ?_;refine c_s (du (-1) (by decide)) ?_;refine c_s (eI (fW last (er next)).2 (-1) (yq hs.2.1 hs.2.2).2 (by decide) (by omega)) ?_;refine a_z ?_;refine⟨(k,er next,aX (fW last (er next)).2 (-1),a++[er next]),Nat.lt_succ_self k,⟨h,by simp only;omega,by simp only[List.length_append,List.length_singleton];omega,by simp,by simp⟩,?_⟩;have b:(a++[er next]).length=a.length+1:=by simp
    simp only[Br,b];exact s_f []
   ·have g:aq next=[]:=by
     refine degP_neg.1 ?_;simp at h1;omega
    rw[if_pos g] at h;cases h;refine ay ⟨(),trivial,?_⟩;exact s_f []
 rintro _ _;refine r_z 2 ?_;exact ai (Fin.tmpS rfl rfl rfl (by simp) (jp r))
def chS(ch:List (List Rat))(g:Nat)(cap:List AV):Nat×Int×Int→AState
 |(i,n,last)=>⟨[(1,.clos g [] cap),(5,i64 n),(6,i64 last),(10,.arr (cE ch)),(11,i64 ch.length),(12,i64 i)],[],1,30⟩
theorem uX(ch:List (List Rat))(g:Nat)(cap:List AV)(i:Nat)(n:Int)(last:Int):chS ch g cap (i,n,last)=⟨[(1,.clos g [] cap),(5,i64 n),(6,i64 last),(10,.arr (cE ch)),(11,i64 ch.length),(12,i64 i)],[],1,30⟩:=rfl
theorem ut(ch:List (List Rat))(g:Nat)(cap:List AV)(sg:List Rat→Int)(hcap:∀c∈cap,Closed c)(hsg:∀q∈ch,-1≤sg q∧sg q≤1)(hl:ch.length≤274877906944)(hg:∀q∈ch,FS g ((.arr (pE q)::cap).map coe) (i64 (sg q))):FS 186 [.arr (cE ch),.clos g [] cap] (i64 (chL (ch.map sg) 0 0)):=by
 refine f_n Tryz.func186 ?_ ?_;exact ac (ni ch) (ac (aP af hcap) af);refine r_z 1 ?_;refine r_z 2 ?_;refine ae (r_z 3 ?_);obtain⟨R,v⟩:∃R,R=chL (ch.map sg) 0 0:=⟨_,rfl⟩;rw[←v];refine aG (fun _:Unit=>⟨[(5,i64 R)],[],1,30⟩) (fun _=>True) ?_ ?_;refine aj (aB (chS ch g cap) (fun x=>ch.length- x.1) (fun x=>x.1≤ch.length∧0≤x.2.1∧x.2.1≤x.1∧ -1≤x.2.2∧x.2.2≤1∧chL ((ch.drop x.1).map sg) x.2.1 x.2.2=R) (0,0,0) ⟨Nat.zero_le _,by decide,by decide,by decide,by decide,by rw[v];rfl⟩ ?_ ?_);simp only[uX];exact s_x [] (fun hs=>e_2) (fun hs=>e_15);rintro⟨i,n,last⟩ ⟨w,f,r,j,k,hc⟩;simp only at w f r j k hc;rw[uX];refine r_z 1 ?_;refine ae (ap rfl (fun h=>?_) (fun h=>?_));refine ak ?_;have a:i< ch.length:=by simpa using h
 obtain⟨q,o⟩:∃q,ch[i]?=some q:=⟨_,List.getElem?_eq_getElem a⟩;have m:=List.mem_of_getElem? o;have l:(cE ch)[((i:Nat):Int).toNat]?=some [.arr (pE q)]:=CV o
 have y:ch.drop i=q::ch.drop (i+1):=by
  rw[List.drop_eq_getElem_cons a];rw[List.getElem?_eq_getElem a] at o;rw[Option.some.inj o]
 rw[y,List.map_cons,chL] at hc;have b:=hsg q m;refine ae (aj (s_r 3 ?_));refine i_x l ?_;refine l_1 l ?_;refine a_z ?_;refine r_c 4 (hg q m) ?_;refine a_z ?_;refine r_z 2 ?_;refine ap rfl (fun h1=>?_) (fun h1=>?_);have d:sg q≠0:=by simpa using h1
 rw[if_pos d] at hc;refine ae (r_z 4 ?_);refine ap rfl (fun u=>?_) (fun u=>?_);have t:sg q= -last:=by simpa using u
 rw[if_pos t] at hc;refine r_m 3 ?_;refine a_z ?_;refine r_m 2 ?_;refine a_z ?_;refine r_m 2 ?_;refine a_z ?_;refine⟨(i+1,n+1,sg q),by simp only;omega,⟨a,by simp only;omega,by simp only;omega,b.1,b.2,hc⟩,?_⟩;simp only[uX];exact s_x [] (fun hs=>e_2) (fun hs=>e_15);have t:¬sg q= -last:=by simpa using u
 rw[if_neg t] at hc;refine ak (r_m 2 ?_);refine a_z ?_;refine r_m 2 ?_;refine a_z ?_;refine⟨(i+1,n,sg q),by simp only;omega,⟨a,f,by simp only;omega,b.1,b.2,hc⟩,?_⟩;simp only[uX];exact s_x [] (fun hs=>e_2) (fun hs=>e_15);have d:sg q=0:=by simpa using h1
 rw[if_neg (fun e=>e d)] at hc;refine ak (r_m 2 ?_);refine a_z ?_;refine⟨(i+1,n,last),by simp only;omega,⟨a,f,by simp only;omega,j,k,hc⟩,?_⟩;simp only[uX];exact s_x [] (fun hs=>e_2) (fun hs=>e_15)
 have p:i=ch.length:=by
  have:¬i< ch.length:=by simpa using h
  omega
 subst p;rw[List.drop_length] at hc;have s:n=R:=hc;subst s;refine ay ⟨(),trivial,?_⟩;exact s_e [];rintro _ _;refine r_z 2 ?_;exact ai (t_e (ag _))
theorem Cp(q:List Rat)(h0:aq q≠[])(hl:q.length≤274877906944):FS 187 [.arr (pE q)] (i64 (sgI q)):=by
 have a:¬bD q< 0:=fun e=>h0 (degP_neg.1 e);have hb:=mM (aS q).num;refine f_c Tryz.func187 ?_;refine r_z 1 ?_;refine ae (r_c 4 (dk q (by omega)) ?_);refine a_z ?_;refine ap rfl (fun h=>?_) (fun h=>?_);have h1:bD q % 2=1:=by simpa using h
 refine r_c 5 (pL q (by omega)) ?_;refine c_s (cw (aS q)) ?_;refine a_z ?_;refine ai (aW rfl ?_ ?_);unfold sgI;rw[if_pos h1];rfl;exact ag _;have h1:¬bD q % 2=1:=by simpa using h
 refine ak (r_c 4 (pL q (by omega)) ?_);refine c_s (cw (aS q)) ?_;refine a_z ?_;refine ai (aW rfl ?_ ?_);unfold sgI;rw[if_neg h1];exact ag _
theorem qO(f:Nat)(p:List Rat)(c:Cnt)(h:jh f p=some c)(hf:f≤1000000):FS 147 [.arr (pE p)] (kA c):=by
 unfold jh at h;obtain⟨s,hs,g⟩:=Option.bind_eq_some_iff.1 h;obtain⟨ch,b,d⟩:=Option.bind_eq_some_iff.1 g;split at d
 case isFalse=>cases d
 case isTrue hk=>
 cases d;have a:=ut ch 187 [] sgI af (fun q _=>sgI_abs q) hk.2.1 (fun q e=>Cp q (hk.1 q e).1 (hk.1 q e).2);refine f_c Tryz.func147 ?_;refine r_z 1 ?_;refine r_c 5 (vk f p s hs) ?_;refine a_z ?_;refine r_c 9 (Hm f s ch b hf) ?_;refine a_z ?_;refine r_c 9 (a) ?_;refine a_z ?_;refine r_z 2 ?_;exact ai (Fin.tmpP rfl rfl rfl (wE _))
theorem Hj(q:List Rat)(x:Rat)(h:ff q x):FS 188 [.arr (pE q),bQ x] (i64 (sgE x q)):=by
 refine f_c Tryz.func188 ?_;refine r_z 1 ?_;refine r_c 5 (j5 q x h) ?_;refine c_s (cw (au q x)) ?_;refine a_z ?_;exact ai (t_e (ag _))
theorem mX(c:Cnt)(x:Rat)(h:rW c x):FS 149 [kA c,.agg (qC x)] (i64 (e8 c x)):=by
 have a:=ut c.ch 188 [bQ x] (sgE x) (ac (cu x) af) (fun q _=>mM _) h.1.2.1 (fun q b=>Hj q x (h.2 q b));have hb:=oG (x:=x) h.1;unfold e8 at hb⊢;refine f_c Tryz.func149 ?_;refine r_z 2 ?_;refine AWp.ent (st':=⟨[(0,kA c),(3,bQ x)],[],1,16⟩) ?_ ?_;exact s_e [];refine ae (r_d a6 12 ?_);refine c_s (a) ?_;refine a_2 ?_;refine ao (n_k ?_);exact ai (t_e (ag _))
theorem kO(c:Cnt)(x:Rat)(h:pg c x):FS 148 [kA c,.agg (qC x)] (i64 (dR c x)):=by
 have hb:=oG (x:=x) h.1.1;refine f_c Tryz.func148 ?_;refine r_z 2 ?_;refine r_c 4 (mX c x h.1) ?_;refine a_z ?_;refine bi (fun n:Int=>⟨[(5,i64 n)],[],1,20⟩) (fun n=>n=dR c x) ?_ ?_;refine ae (r_d a6 8 ?_);refine c_s (j5 c.p x h.2) ?_;refine c_s (cw (au c.p x)) ?_;refine a_1 ?_;refine ao (n_k ?_);refine ap rfl (fun h1=>?_) (fun h1=>?_)
 have a:au c.p x=0:=by
  have:sgZ (au c.p x).num=0:=by simpa using h1
  exact sgZ_num_eq.1 this
 refine r_m 3 ?_;refine a_z ?_;refine⟨e8 c x- 1,by unfold dR;rw[if_pos a],?_⟩;exact s_e []
 have a:au c.p x≠0:=by
  intro e;have:¬sgZ (au c.p x).num=0:=by simpa using h1
  exact this (sgZ_num_eq.2 e)
 refine ak ⟨e8 c x,by unfold dR;rw[if_neg a],?_⟩;exact s_e [];rintro n rfl;refine r_z 2 ?_;exact ai (t_e (ag _))
theorem xM(c:Cnt)(i:Int)(x:Rat)(h:pg c x):FS 233 [plA c i,.agg (qC x)] (i64 (plC c i x)):=by
 refine f_n Tryz.func233 ?_ ?_;exact ac (di c i) (ac (aT x) af);refine r_z 2 ?_;refine ae (ae (r_d a6 7 ?_));refine c_s (kO c x h) ?_;refine a_1 ?_;refine ao (n_k ?_);refine aG (fun _:Unit=>⟨[],[],1,36⟩) (fun _=>plC c i x=1) ?_ ?_;refine aj (r_z 7 ?_);refine ap rfl (fun h1=>?_) (fun h1=>?_);have a:i< dR c x:=by simpa using h1
 refine r_z 1 ?_;refine ai (aW rfl ?_ ?_);unfold plC;rw[if_pos a];rfl;exact ag _;have a:¬i< dR c x:=by simpa using h1
 by_cases h3:dR c x=i;refine ae (r_d a6 17 ?_);refine a_7 ?_;refine y_g rfl (by simp[h3]) (.move rfl) ?_;refine y_g rfl (by simp[h3]) (.nilCheck rfl rfl) ?_
 first|refine y_g rfl (by simp[h3]) (.fieldAddr_l rfl TF.h (by decide)) ?_|refine y_g rfl (by simp[h3]) (.fieldAddr_a rfl TF.h (by decide)) ?_
 first|refine y_g rfl (by simp[h3]) (.load_l1 rfl rfl rfl TG.h rfl) ?_|refine y_g rfl (by simp[h3]) (.load_a1 rfl rfl TG.h rfl) ?_
 first|refine y_g rfl (by simp[h3]) (.load_l rfl rfl rfl TG.h TS.h (nle rfl)) ?_|refine y_g rfl (by simp[h3]) (.load_a rfl rfl TG.h TS.h (nle rfl)) ?_
 refine y_g rfl (by simp[h3]) (.call rfl rfl rfl (mX c x h.1)) ?_;refine y_g rfl (by simp[h3]) (.move rfl) ?_;refine y_g rfl (by simp[h3]) (.bin rfl rfl jT) ?_;refine o_0 (.pickT rfl (by simp[h3]) rfl) ?_;refine a_1 ?_;refine ao (n_k ?_);refine ap rfl (fun b=>?_) (fun b=>?_);have d:dR c x< e8 c x:=by simpa using b
 refine r_z 1 ?_;refine ai (aW rfl ?_ ?_);unfold plC;rw[if_neg a,if_pos ⟨h3,d⟩];rfl;exact ag _;have d:¬dR c x< e8 c x:=by simpa using b
 refine ak ⟨(),by unfold plC;rw[if_neg a,if_neg fun e=>d e.2],?_⟩;exact s_e [];refine ae (r_d a6 17 ?_);refine a_7 ?_;refine n_g rfl (by simp[h3]) ?_;refine n_g rfl (by simp[h3]) ?_;refine n_g rfl (by simp[h3]) ?_;refine n_g rfl (by simp[h3]) ?_;refine n_g rfl (by simp[h3]) ?_;refine n_g rfl (by simp[h3]) ?_;refine n_g rfl (by simp[h3]) ?_;refine n_g rfl (by simp[h3]) ?_;refine o_0 (.pickF rfl (by simp[h3]) rfl) ?_;refine a_1 ?_;refine ao (n_k ?_);refine cF ?_;refine ak ⟨(),by unfold plC;rw[if_neg a,if_neg fun e=>h3 e.1],?_⟩;exact s_e [];rintro _ f;refine r_z 1 ?_;refine ai (aW rfl ?_ ?_);rw[f];rfl;exact ag _
def hiV(c:Cnt)(step:Rat):Rat:=u5 (gC c.p/ step)
def GO(c:Cnt)(step:Rat)(lo:Rat):Prop:=pf c.p∧aq c.p≠[]∧step≠0∧qs (gC c.p)+qs step≤549755813888∧qs lo+qs step≤549755813888∧pg c (lo* step)
instance (c:Cnt) (step lo:Rat):Decidable (GO c step lo):=inferInstanceAs (Decidable (_∧_∧_∧_∧_∧_))
def H5(f:Nat)(c:Cnt)(i:Int)(step:Rat):Option (Rat×Bool):=
 (biM c i step f (-hiV c step) (hiV c step)).bind fun lo=>if GO c step lo then some (lo* step,plC c i (lo* step)==0) else none
def dnS(c:Cnt)(i:Int)(step:Rat):Rat×Rat→AState
 |(lo,hi)=>⟨[(0,plA c i),(3,.lptr 1 0 0),(4,.lptr 2 0 0),(6,.lptr 3 0 0),(7,.lptr 4 0 0),(8,.lptr 5 0 0)],[(1,some ⟨36,3,[qC step]⟩),(2,some ⟨36,3,[zC]⟩),(3,some ⟨36,3,[qC hi]⟩),(4,some ⟨36,3,[qC lo]⟩),(5,some ⟨36,3,[qC 2]⟩)],6,52⟩
theorem fs_down(f:Nat)(c:Cnt)(i:Int)(step:Rat)(r:Rat×Bool)(h:H5 f c i step=some r):FS 257 [plA c i,.agg (qC step)] (.tup [.agg (qC r.1),bln r.2]):=by
 unfold H5 at h;obtain⟨l,o,b⟩:=Option.bind_eq_some_iff.1 h;split at b
 case isFalse=>cases b
 case isTrue hk=>
 cases b;obtain⟨n,s,k3,t,g,k⟩:=hk;have u:=gO (gC c.p) step;refine f_n Tryz.func257 ?_ ?_;exact ac (di c i) (ac (aT step) af);refine r_z 3 ?_;refine ae (r_d a6 13 ?_);refine c_s (HF c.p n s) ?_;refine c_s (gU (gC c.p) step k3 t) ?_;refine c_s (DZ (gC c.p/ step) (by omega)) ?_;refine a_2 ?_;refine ao (n_k ?_);refine r_c 4 (kq (u5 (gC c.p/ step))) ?_;refine a_z ?_;refine r_c 3 (du 2 (by decide)) ?_;refine a_z ?_;refine bi (fun a:Rat=>dnS c i step (l,a)) (fun _=>True) ?_ ?_
 ·refine aj (aB (fun x:Nat×Rat×Rat=>dnS c i step x.2) (fun x=>x.1) (fun x=>biM c i step x.1 x.2.1 x.2.2=some l) (f,-hiV c step,hiV c step) o ?_ ?_)
  simp only[dnS.eq_1,hiV];exact s_e [(2,4),(3,6),(4,7),(5,8)];rintro⟨f,lo,a⟩ h;simp only at h;simp only[dnS.eq_1];cases f with
  |zero=>cases h
  |succ f=>
   rw[biM] at h;split at h
   case isFalse=>cases h
   case isTrue hs=>
   obtain⟨s1,s2,q⟩:=hs;refine ae (r_c 6 (jL a lo (sm2 s2 s1)) ?_);refine c_s (du 1 (by decide)) ?_;refine c_s (qP (a- lo) 1 q (by decide)) ?_;refine a_z ?_;refine ap rfl (fun h1=>?_) (fun h1=>?_)
   ·have b:0< fy (a- lo) 1:=by simpa using h1
    rw[if_pos b] at h;split at h
    case isFalse=>cases h
    case isTrue ht=>
    obtain⟨t1,t2⟩:=ht;have hq1:=kg lo a;have j:qs 2=2:=by decide
    have m:=gO (lo+a) 2;unfold sm at s1 s2;refine ak (aj (ae (r_d a6 8 ?_)));refine c_s (fh lo a (by omega)) ?_;refine c_s (gU (lo+a) 2 (by decide) (by omega)) ?_;refine c_s (pG ((lo+a) / 2) (by omega)) ?_;refine a_2 ?_;refine ao (n_k ?_);refine r_c 6 (cJ (((lo+a) / 2).floor:Rat) step t1) ?_;refine c_s (xM c i ((((lo+a) / 2).floor:Rat) * step) t2) ?_;refine a_z ?_;refine ap rfl (fun d=>?_) (fun d=>?_);have e:0≤plC c i ((((lo+a) / 2).floor:Rat) * step):=by simpa using d
    rw[if_pos e] at h;refine r_m 2 ?_;refine a_z ?_;refine⟨(f,(((lo+a) / 2).floor:Rat),a),Nat.lt_succ_self f,h,?_⟩;simp only[dnS.eq_1];exact s_e [];have e:¬0≤plC c i ((((lo+a) / 2).floor:Rat) * step):=by simpa using d
    rw[if_neg e] at h;refine r_m 2 ?_;refine a_z ?_;refine⟨(f,lo,(((lo+a) / 2).floor:Rat)),Nat.lt_succ_self f,h,?_⟩;simp only[dnS.eq_1];exact s_e []
   have b:¬0< fy (a- lo) 1:=by simpa using h1
   rw[if_neg b] at h;cases h;refine ay ⟨a,trivial,?_⟩;simp only[dnS.eq_1];exact s_e []
 rintro a _;simp only[dnS.eq_1];refine r_c 4 (cJ l step g) ?_;refine a_z ?_;refine ae (r_d a6 7 ?_);refine c_s (xM c i (l* step) k) ?_;refine a_3 ?_;refine ao (n_k ?_);refine ai (Fin.many ⟨_,_,rfl,⟨_,_,_,_,_,rfl,rfl,rfl,.inl ⟨TG.h,_,TS.h,nle rfl,rfl⟩⟩,⟨_,_,rfl,rfl,rfl⟩⟩ (nle rfl) ?_);exact ah (am aD (aT _)) (ah (am aD (ag _)) av)
def tn(f:Nat)(c:Cnt)(i:Int)(k:Int):Option Sp:=
 (H5 f c i (gf (wi k 256))).bind fun r=>if r.2 then some (r.1,r.1) else if qs r.1+qs (gf (wi k 256))≤549755813888 then some (r.1,r.1+gf (wi k 256)) else none
theorem fs_span(f:Nat)(c:Cnt)(i:Int)(k:Int)(s:Sp)(h:tn f c i k=some s):FS 231 [plA c i,i64 k] (.agg (spC s.1 s.2)):=by
 unfold tn at h;obtain⟨⟨a,d⟩,e,b⟩:=Option.bind_eq_some_iff.1 h;refine f_n Tryz.func231 ?_ ?_;exact ac (di c i) (ac (ag _) af);refine r_z 1 ?_;refine r_c 4 (pN k) ?_;refine a_z ?_;refine r_c 9 (fs_down f c i (gf (wi k 256)) (a,d) e) ?_;refine a_z ?_;refine ae (r_z 1 ?_);refine ap rfl (fun h1=>?_) (fun h1=>?_);subst h1;rw[if_pos rfl] at b;cases b;refine r_c 3 (Ah a) ?_;refine a_z ?_;exact ai (c_e (bG _ _))
 ·subst h1
  rw[if_neg (show¬false=true by decide)] at b;split at b
  case isFalse=>cases b
  case isTrue hs=>
  cases b;refine ak (ae (r_d a6 6 ?_));refine c_s (fh a (gf (wi k 256)) hs) ?_;refine a_2 ?_;refine ao (n_k ?_);exact ai (c_e (bG _ _))
def l7(s:Sp):Rat:=(s.1+s.2) * gf 1
def zw(c:Cnt)(i:Int)(s:Sp):Sp:=if plC c i (l7 s)=0 then(l7 s,l7 s) else if plC c i (l7 s)=1 then(l7 s,s.2) else(s.1,l7 s)
def lY(c:Cnt)(s:Sp):Prop:=smS s∧pg c (l7 s)
instance (c:Cnt) (s:Sp):Decidable (lY c s):=inferInstanceAs (Decidable (_∧_))
def cD(c:Cnt)(i:Int)(s0:Sp):Nat→Sp
 |0=>s0
 |k+1=>zw c i (cD c i s0 k)
def closT(c:Cnt)(i:Int)(s0:Sp)(k:Nat):Option (List AV):=some [.agg (spC (cD c i s0 k).1 (cD c i s0 k).2)]
abbrev bPl(c:Cnt)(i:Int):AV:= .aptr [[plA c i]] 0 0
theorem dy(c:Cnt)(i:Int):Closed (bPl c i):=ba (ac (di c i) af)
theorem qJ(f:Nat)(c:Cnt)(i:Int)(s0:Sp)(K:Nat)(h:tn f c i 0=some s0)(hok:∀k,k< K→lY c (cD c i s0 k)):GSpecB Tryz.prog 230 [bPl c i] (closT c i s0) K:=by
 refine GSpecB.enter Tryz.func230 rfl (by kernel_rfl) rfl rfl rfl ?_ ?_ rfl ?_;exact ac (dy c i) af;intro k xs h;cases h;exact ac (bG _ _) af;intro ll N hN E;refine GWp.seq ?_;refine GWp.lift ?_;refine r_m 4 ?_;refine c_s (fs_span f c i 0 s0 h) ?_;refine a_z ?_;refine GWp.block ?_;refine GWp.loopS (fun k:Nat=>⟨[(0,.v (.func (.yield ll) #[] #[])),(1,bPl c i),(3,.lptr 1 0 0)],[(1,some ⟨42,6,[spC (cD c i s0 k).1 (cD c i s0 k).2]⟩)],2,25⟩) (fun k=>k) (fun k=>N+1- k) (fun k=>k≤N) 0 (Nat.zero_le _) rfl ?_ ?_;have:=dy c i;exact s_f [(1,3)];intro k o;refine GWp.seq ?_;refine GWp.seq ?_;refine GWp.regY (fr2:=[(0,.v (.func (.yield ll) #[] #[])),(1,bPl c i),(3,.lptr 1 0 0),(7,.v (.func (.yield ll) #[] #[])),(8,.agg (spC (cD c i s0 k).1 (cD c i s0 k).2))]) (hp2:=[(1,some ⟨42,6,[spC (cD c i s0 k).1 (cD c i s0 k).2]⟩)]) (nx2:=2) 2 rfl rfl rfl rfl rfl rfl ?_ rfl rfl rfl ?_ ?_ ?_;refine o_0 (.move rfl) ?_
 first|refine aF (.load_l rfl rfl rfl TG.h TS.h (nle rfl)) rfl rfl ?_|refine aF (.load_a rfl rfl TG.h TS.h (nle rfl)) rfl rfl ?_
 refine ao ?_;exact s_y [] (fun hs=>dU) (fun hs=>kZ);rotate_left 2;intro n;refine ao ?_;rotate_left;rfl;exact ac (bG _ _) af;cases n with
 |false=>
  refine GWp.cond rfl (fun h=>?_) (fun h=>?_);cases h;exact GWp.exit ⟨.inl rfl,fun h=>by cases h⟩
 |true=>
  refine GWp.bound fun b=>?_;refine GWp.cond rfl (fun h=>?_) (fun h=>?_);rotate_left;cases h;refine GWp.skip ?_;have m:=hok k (by omega);obtain⟨hs,hb⟩:=m;have a:cD c i s0 (k+1)=zw c i (cD c i s0 k):=rfl;obtain⟨s,g⟩:∃s,s=cD c i s0 k:=⟨_,rfl⟩;rw[←g] at hs hb a⊢;refine GWp.lift ?_;refine aj (r_c 4 (Cr s.1 s.2 hs.1 hs.2) ?_);refine a_z ?_;refine r_c 3 (xM c i (l7 s) hb) ?_;refine ao ?_;refine aj (r_z 2 ?_);refine ap rfl (fun h1=>?_) (fun h1=>?_);have e:plC c i (l7 s)=0:=by simpa using h1
  have d:cD c i s0 (k+1)=(l7 s,l7 s):=by rw[a];unfold zw;rw[if_pos e]
  refine r_m 3 ?_;refine c_s (Ah (l7 s)) ?_;refine a_z ?_;refine⟨rfl,k+1,by omega,b,rfl,?_⟩;simp only[d];have:=dy c i;exact s_f [];have e:¬plC c i (l7 s)=0:=by simpa using h1
  refine r_z 2 ?_;refine ap rfl (fun l=>?_) (fun l=>?_);have j:plC c i (l7 s)=1:=by simpa using l
  have d:cD c i s0 (k+1)=(l7 s,s.2):=by rw[a];unfold zw;rw[if_neg e,if_pos j]
  refine r_m 3 ?_;refine a_z ?_;refine⟨rfl,k+1,by omega,b,rfl,?_⟩;simp only[d];have:=dy c i;exact s_f [];have j:¬plC c i (l7 s)=1:=by simpa using l
  have d:cD c i s0 (k+1)=(s.1,l7 s):=by rw[a];unfold zw;rw[if_neg e,if_neg j]
  refine r_m 3 ?_;refine a_z ?_;refine⟨rfl,k+1,by omega,b,rfl,?_⟩;simp only[d];have:=dy c i;exact s_f []
theorem qQ(c:Cnt)(i:Int):FS 190 [plA c i] (.clos 230 [] [bPl c i]):=by
 refine f_n Tryz.func190 ?_ ?_;exact ac (di c i) af;refine r_z 2 ?_;refine r_z 2 ?_;refine ai (⟨.inr rfl,[_],⟨_,[],rfl,rfl,rfl⟩,?_⟩);exact Cv.clos av (ah (Cv.boxp aD rfl (fun _ _ h=>by cases h) rfl (ac (di c i) af)) av)
def nY(t:Nat→Option Bool):Nat→Nat→Option Nat
 |0,_=>none
 |f+1,k=>match t k with
  |some true=>some k
  |some false=>nY t f (k+1)
  |none=>none
theorem j6{t:Nat→Option Bool}:∀{f k0 k:Nat},nY t f k0=some k→t k=some true∧k0≤k∧∀j,k0≤j→j< k→t j=some false
 |0,_,_,h=>by cases h
 |f+1,k0,k,h=>by
  rw[nY] at h;split at h;cases h;exact⟨by assumption,Nat.le_refl _,fun j h1 b=>by omega⟩;obtain⟨h1,b,c⟩:=j6 h;refine⟨h1,by omega,fun j d a=>?_⟩;by_cases e:j=k0;rw[e];assumption;exact c j (by omega) a;cases h
def oD(c:Cnt)(i:Int)(s:Sp):Option Bool:=if pg c s.1∧rW c s.2∧lY c s∧ -4611686018427387904≤i∧i≤4611686018427387904 then some (decide (dR c s.1=i∧e8 c s.2=i+1)) else none
def alS(c:Cnt)(i:Int):Nat→AState
 |k=>⟨[(1,bPl c i),(2,.lptr 1 0 0),(3,.lptr 2 0 0),(6,.clos 230 [] [bPl c i])],[(1,some ⟨42,6,[zC++zC]⟩),(2,some ⟨42,6,[zC++zC]⟩)],3,37⟩
def alX(s:Sp):Unit→AState
 |u=>⟨[(2,.lptr 1 0 0),(3,.lptr 2 0 0)],[(1,some ⟨42,6,[zC++zC]⟩),(2,some ⟨42,6,[spC s.1 s.2]⟩)],3,37⟩
theorem HI(f g:Nat)(c:Cnt)(i:Int)(s0:Sp)(kk:Nat)(h:tn f c i 0=some s0)(hk:nY (fun k=>oD c i (cD c i s0 k)) g 0=some kk):FS 259 [plA c i] (.agg (spC (cD c i s0 kk).1 (cD c i s0 kk).2)):=by
 obtain⟨h1,_,A⟩:=j6 hk
 have j:∀k,k≤kk→pg c (cD c i s0 k).1∧rW c (cD c i s0 k).2∧lY c (cD c i s0 k)∧ -4611686018427387904≤i∧i≤4611686018427387904:=fun k hk=>by
  have:∃b,oD c i (cD c i s0 k)=some b:=by
   by_cases e:k=kk;rw[e];exact⟨_,h1⟩;exact⟨_,A k (Nat.zero_le _) (by omega)⟩
  obtain⟨b,hb⟩:=this;unfold oD at hb;split at hb;assumption;cases hb
 have v:=qJ f c i s0 kk h (fun k hk=>(j k (by omega)).2.2.1);refine f_n Tryz.func259 ?_ ?_;exact ac (di c i) af;refine r_z 2 ?_;refine r_z 1 ?_;refine AWp.ent (st':=⟨[(1,bPl c i),(2,.lptr 1 0 0),(3,.lptr 2 0 0)],[(1,some ⟨42,6,[zC++zC]⟩),(2,some ⟨42,6,[zC++zC]⟩)],3,37⟩) ?_ ?_;have:=(ac (di c i) af);exact s_f [(1,2),(2,3)];refine ae (r_c 2 (qQ c i) ?_);refine ao ?_;refine aG (alX (cD c i s0 kk)) (fun _=>True) ?_ ?_;refine aj (AWp.rangeFuncB (α:=Nat) (γ:=Unit) kk (alS c i) (fun k=>k) (fun k=>k≤kk) (alX (cD c i s0 kk)) (fun e _=>e= .exit 0) 0 rfl v rfl rfl ?_ (fun _=>⟨rfl,rfl⟩) (fun _=>rfl) (Nat.zero_le _) rfl (fun _ h=>h) ?_ ?_ ?_ ?_ ?_);intro k xs d;cases d;rfl;rw[alS.eq_1];have:=dy c i;exact s_t [];exact ac (dy c i) af;intro l k xs hk d;cases d;have z:=j k hk;obtain⟨s,a⟩:∃s,s=cD c i s0 k:=⟨_,rfl⟩;rw[←a] at z⊢;obtain⟨n,o,t,w,x⟩:=z;show AWp _ _ _ _ ⟨[(7,.agg (spC s.1 s.2)),(1,bPl c i),(2,.lptr 1 0 0),(3,.lptr 2 0 0),(6,.clos 230 [] [bPl c i]),(1001,bPl c i),(1002,.lptr 1 0 0),(1003,.lptr 2 0 0),(1006,.clos 230 [] [bPl c i])],[(1,some ⟨42,6,[zC++zC]⟩),(2,some ⟨42,6,[zC++zC]⟩)],3,37⟩;refine r_m 2 ?_;refine a_z ?_;refine aj ?_;by_cases hb:dR c s.1=i;refine ae (r_d a6 27 ?_);refine c_s (kO c s.1 n) ?_;refine a_6 ?_
 first|refine y_g rfl (by simp[hb]) (.load_l1 rfl rfl rfl TG.h rfl) ?_|refine y_g rfl (by simp[hb]) (.load_a1 rfl rfl TG.h rfl) ?_
 refine y_g rfl (by simp[hb]) (.nilCheck rfl rfl) ?_
 first|refine y_g rfl (by simp[hb]) (.fieldAddr_l rfl TF.h (by decide)) ?_|refine y_g rfl (by simp[hb]) (.fieldAddr_a rfl TF.h (by decide)) ?_
 first|refine y_g rfl (by simp[hb]) (.load_l1 rfl rfl rfl TG.h rfl) ?_|refine y_g rfl (by simp[hb]) (.load_a1 rfl rfl TG.h rfl) ?_
 first|refine y_g rfl (by simp[hb]) (.fieldAddr_l rfl TF.h (by decide)) ?_|refine y_g rfl (by simp[hb]) (.fieldAddr_a rfl TF.h (by decide)) ?_
 first|refine y_g rfl (by simp[hb]) (.load_l rfl rfl rfl TG.h TS.h (nle rfl)) ?_|refine y_g rfl (by simp[hb]) (.load_a rfl rfl TG.h TS.h (nle rfl)) ?_
 refine y_g rfl (by simp[hb]) (.call rfl rfl rfl (mX c s.2 o)) ?_
 first|refine y_g rfl (by simp[hb]) (.load_l1 rfl rfl rfl TG.h rfl) ?_|refine y_g rfl (by simp[hb]) (.load_a1 rfl rfl TG.h rfl) ?_
 refine y_g rfl (by simp[hb]) (.nilCheck rfl rfl) ?_
 first|refine y_g rfl (by simp[hb]) (.fieldAddr_l rfl TF.h (by decide)) ?_|refine y_g rfl (by simp[hb]) (.fieldAddr_a rfl TF.h (by decide)) ?_
 first|refine y_g rfl (by simp[hb]) (.load_l1 rfl rfl rfl TG.h rfl) ?_|refine y_g rfl (by simp[hb]) (.load_a1 rfl rfl TG.h rfl) ?_
 refine y_g rfl (by simp[hb]) (.bin rfl rfl (A3 (by omega))) ?_;refine y_g rfl (by simp[hb]) (.bin rfl rfl ci) ?_;refine o_0 (.pickT rfl (by simp[hb]) rfl) ?_;refine ao (n_k ?_);refine ap rfl (fun q=>?_) (fun q=>?_);have y:e8 c s.2=i+1:=by simpa using q
 have m:k=kk:=by
  refine Nat.le_antisymm hk (Nat.le_of_not_lt fun r=>?_);have p:=A k (Nat.zero_le _) r;rw[←a] at p;unfold oD at p;rw[if_pos ⟨n,o,t,w,x⟩] at p;simp[hb,y] at p
 subst m;refine r_z 2 ?_;refine ay (⟨rfl,(),rfl,?_⟩);rw[←a];show SEntT _ ⟨[(1002,.lptr 1 0 0),(1003,.lptr 2 0 0)],[(1,some ⟨42,6,[zC++zC]⟩),(2,some ⟨42,6,[spC s.1 s.2]⟩)],3,37⟩;exact s_y [] (fun hs=>dU) (fun hs=>kZ);have y:¬e8 c s.2=i+1:=by simpa using q
 have m:k< kk:=by
  refine Nat.lt_of_le_of_ne hk fun e=>?_;subst e;rw[←a] at h1;unfold oD at h1;rw[if_pos ⟨n,o,t,w,x⟩] at h1;simp[y] at h1
 refine ak (⟨k+1,⟨m,rfl⟩,?_⟩);show SEntT _ ⟨[(1001,bPl c i),(1002,.lptr 1 0 0),(1003,.lptr 2 0 0),(1006,.clos 230 [] [bPl c i])],[(1,some ⟨42,6,[zC++zC]⟩),(2,some ⟨42,6,[zC++zC]⟩)],3,37⟩;exact s_y [] (fun hs=>dU) (fun hs=>kZ);refine ae (r_d a6 27 ?_);refine c_s (kO c s.1 n) ?_;refine a_6 ?_;refine n_g rfl (by simp[hb]) ?_;refine n_g rfl (by simp[hb]) ?_;refine n_g rfl (by simp[hb]) ?_;refine n_g rfl (by simp[hb]) ?_;refine n_g rfl (by simp[hb]) ?_;refine n_g rfl (by simp[hb]) ?_;refine n_g rfl (by simp[hb]) ?_;refine n_g rfl (by simp[hb]) ?_;refine n_g rfl (by simp[hb]) ?_;refine n_g rfl (by simp[hb]) ?_;refine n_g rfl (by simp[hb]) ?_;refine n_g rfl (by simp[hb]) ?_;refine n_g rfl (by simp[hb]) ?_;refine o_0 (.pickF rfl (by simp[hb]) rfl) ?_;refine ao (n_k ?_);refine cF ?_
 have m:k< kk:=by
  refine Nat.lt_of_le_of_ne hk fun e=>?_;subst e;rw[←a] at h1;unfold oD at h1;rw[if_pos ⟨n,o,t,w,x⟩] at h1;simp[hb] at h1
 refine ak (⟨k+1,⟨m,rfl⟩,?_⟩);show SEntT _ ⟨[(1001,bPl c i),(1002,.lptr 1 0 0),(1003,.lptr 2 0 0),(1006,.clos 230 [] [bPl c i])],[(1,some ⟨42,6,[zC++zC]⟩),(2,some ⟨42,6,[zC++zC]⟩)],3,37⟩;exact s_y [] (fun hs=>dU) (fun hs=>kZ);intro k hk d;cases d;rintro e u rfl;exact⟨u,trivial,SEnt.refl _⟩;rintro u _;rw[alX.eq_1];refine r_z 2 ?_;exact ai (c_e (bG _ _))
def IC(f g:Nat)(c:Cnt)(i:Int):Option Sp:=(tn f c i 0).bind fun s0=>(nY (fun k=>oD c i (cD c i s0 k)) g 0).map (cD c i s0)
theorem Fa(f g:Nat)(c:Cnt)(i:Int)(s:Sp)(h:IC f g c i=some s):FS 259 [plA c i] (.agg (spC s.1 s.2)):=by
 obtain⟨d,h1,a⟩:=Option.bind_eq_some_iff.1 h;obtain⟨k,b,rfl⟩:=Option.map_eq_some_iff.1 a;exact HI f g c i d k h1 b
def w8(f g:Nat)(c:Cnt)(i:Int)(q:List Rat):Option Bool:=
 if c.p.length≤274877906944∧q.length≤274877906944 then(EX f c.p q).bind fun d=>
  if d.length≤274877906944 then
   if bD d< 1 then some false
   else(jh f d).bind fun c2=>(IC f g c i).bind fun s=>if rW c2 s.2∧pg c2 s.1 then some (decide (dR c2 s.1< e8 c2 s.2)) else none
  else none
 else none
theorem E2(f g:Nat)(c:Cnt)(i:Int)(q:List Rat)(r:Bool)(h:w8 f g c i q=some r)(hf:f≤1000000):FS 238 [plA c i,.arr (pE q)] (bln r):=by
 unfold w8 at h;split at h
 case isFalse=>cases h
 case isTrue hl=>
 obtain⟨d,m,a⟩:=Option.bind_eq_some_iff.1 h;split at a
 case isFalse=>cases a
 case isTrue hdl=>
 refine f_n Tryz.func238 ?_ ?_;exact ac (di c i) (ac (ax q) af);refine r_z 1 ?_;refine r_c 10 (HN f c.p q d m hl.1 hl.2) ?_;refine a_z ?_;refine ae (r_c 3 (dk d (by omega)) ?_);refine a_z ?_;refine ap rfl (fun l=>?_) (fun l=>?_);have b:bD d< 1:=by simpa using l
 rw[if_pos b] at a;cases a;refine r_z 1 ?_;exact ai (t_e (ag _))
 ·have b:¬bD d< 1:=by simpa using l
  rw[if_neg b] at a;obtain⟨j,k,n⟩:=Option.bind_eq_some_iff.1 a;obtain⟨s,hs,e⟩:=Option.bind_eq_some_iff.1 n;split at e
  case isFalse=>cases e
  case isTrue hk=>
  cases e;refine ak (r_c 7 (qO f d j k hf) ?_);refine c_s (Fa f g c i s hs) ?_;refine a_z ?_;refine ae (r_d a6 10 ?_);refine c_s (mX j s.2 hk.1) ?_;refine c_s (kO j s.1 hk.2) ?_;refine a_2 ?_;refine ao (n_k ?_);exact ai (t_e (ag _))
def yU(c:Cnt)(i:Int)(c2:Cnt)(s:Sp):Option Bool:=if rW c2 s.2∧pg c2 s.1∧lY c s then some (decide (e8 c2 s.2=dR c2 s.1)) else none
def F9(f g:Nat)(c:Cnt)(i:Int)(q:List Rat):Option Int:=
 if q.length≤274877906944 then
  if bD q< 0 then some 0
  else(w8 f g c i q).bind fun b=>if b then some 0 else(jh f q).bind fun c2=>(tn f c i 0).bind fun s0=>
   (nY (fun k=>yU c i c2 (cD c i s0 k)) g 0).bind fun k=>if ff q (cD c i s0 k).2 then some (sgZ (au q (cD c i s0 k).2).num) else none
 else none
def pgS(c:Cnt)(i:Int)(q:List Rat)(c2:Cnt):Nat→AState
 |k=>⟨[(0,plA c i),(3,bP q),(4,.lptr 1 0 0),(5,.aptr [[kA c2]] 0 0),(18,.clos 230 [] [bPl c i])],[(1,some ⟨3,1,[[i64 0]]⟩)],2,34⟩
def pgX(r:Int):Unit→AState
 |u=>⟨[(4,.lptr 1 0 0)],[(1,some ⟨3,1,[[i64 r]]⟩)],2,34⟩
theorem uS(c:Cnt):Closed (.aptr [[kA c]] 0 0):=ba (ac (gF c) af)
theorem fs_sign(f g:Nat)(c:Cnt)(i:Int)(q:List Rat)(r:Int)(h:F9 f g c i q=some r)(hf:f≤1000000):FS 192 [plA c i,.arr (pE q)] (i64 r):=by
 unfold F9 at h;split at h
 case isFalse=>cases h
 case isTrue hl=>
 refine f_n Tryz.func192 ?_ ?_;exact ac (di c i) (ac (ax q) af);refine r_z 2 ?_;refine AWp.ent (st':=⟨[(0,plA c i),(3,bP q),(4,.lptr 1 0 0)],[(1,some ⟨3,1,[[i64 0]]⟩)],2,34⟩) ?_ ?_;exact s_f [(1,4)];by_cases hd:bD q< 0;rw[if_pos hd] at h;cases h;refine ae (r_c 8 (dk q (by omega)) ?_);refine a_2 ?_;refine n_g rfl (by simp[hd]) ?_;refine n_g rfl (by simp[hd]) ?_;refine n_g rfl (by simp[hd]) ?_;refine o_0 (.pickT rfl (by simp[hd]) rfl) ?_;refine ao ?_;refine ap rfl (fun h1=>?_) (fun h1=>?_);refine r_z 1 ?_;exact ai (Fin.cell1E rfl rfl rfl TG.h rfl rfl (ag _));cases h1;rw[if_neg hd] at h;obtain⟨b,hb,w⟩:=Option.bind_eq_some_iff.1 h;refine ae (r_c 8 (dk q (by omega)) ?_);refine a_2 ?_;refine y_g rfl (by simp[hd]) (.move rfl) ?_
 first|refine y_g rfl (by simp[hd]) (.load_l1 rfl rfl rfl TG.h rfl) ?_|refine y_g rfl (by simp[hd]) (.load_a1 rfl rfl TG.h rfl) ?_
 refine y_g rfl (by simp[hd]) (.call rfl rfl rfl (E2 f g c i q b hb hf)) ?_;refine o_0 (.pickF rfl (by simp[hd]) rfl) ?_;refine ao ?_;refine ap rfl (fun h1=>?_) (fun h1=>?_);have m:b=true:=h1;subst m;rw[if_pos rfl] at w;cases w;refine r_z 1 ?_;exact ai (Fin.cell1E rfl rfl rfl TG.h rfl rfl (ag _));have m:b=false:=h1;subst m;rw[if_neg (show¬false=true by decide)] at w;obtain⟨a,J,M⟩:=Option.bind_eq_some_iff.1 w;obtain⟨n,x,N⟩:=Option.bind_eq_some_iff.1 M;obtain⟨j,A,y⟩:=Option.bind_eq_some_iff.1 N;split at y
 case isFalse=>cases y
 case isTrue hev=>
 cases y;obtain⟨t1,_,t2⟩:=j6 A
 have t:∀k,k≤j→rW a (cD c i n k).2∧pg a (cD c i n k).1∧lY c (cD c i n k):=fun k o=>by
  have:∃b,yU c i a (cD c i n k)=some b:=by
   by_cases e:k=j;rw[e];exact⟨_,t1⟩;exact⟨_,t2 k (Nat.zero_le _) (by omega)⟩
  obtain⟨b,hb⟩:=this;unfold yU at hb;split at hb;assumption;cases hb
 have D:=qJ f c i n j x (fun k o=>(t k (by omega)).2.2);obtain⟨r,E⟩:∃r,r=sgZ (au q (cD c i n j).2).num:=⟨_,rfl⟩;rw[←E];refine ak (r_c 4 (qO f q a J hf) ?_);refine a_z ?_;refine AWp.ent (st':=⟨[(0,plA c i),(3,bP q),(4,.lptr 1 0 0),(5,.aptr [[kA a]] 0 0)],[(1,some ⟨3,1,[[i64 0]]⟩)],2,34⟩) ?_ ?_;have:=(ac (gF a) af);exact s_f [];refine ae (r_c 2 (qQ c i) ?_);refine ao ?_;refine aG (pgX r) (fun _=>False) ?_ (fun _ h=>h.elim);refine aj (AWp.rangeFuncB (α:=Nat) (γ:=Unit) j (pgS c i q a) (fun k=>k) (fun k=>k≤j) (pgX r) (fun e _=>e= .ret) 0 rfl D rfl rfl ?_ (fun _=>⟨rfl,rfl⟩) (fun _=>rfl) (Nat.zero_le _) rfl (fun _ h=>h) ?_ ?_ ?_ ?_ ?_);intro k xs p;cases p;rfl;rw[pgS.eq_1];have:=uS a;exact s_t [];exact ac (dy c i) af;intro l k xs o p;cases p;have L:=t k o;obtain⟨s,d⟩:∃s,s=cD c i n k:=⟨_,rfl⟩;rw[←d] at L⊢;obtain⟨H,B,K⟩:=L;show AWp _ _ _ _ ⟨[(19,.agg (spC s.1 s.2)),(0,plA c i),(3,bP q),(4,.lptr 1 0 0),(5,.aptr [[kA a]] 0 0),(18,.clos 230 [] [bPl c i]),(1000,plA c i),(1003,bP q),(1004,.lptr 1 0 0),(1005,.aptr [[kA a]] 0 0),(1018,.clos 230 [] [bPl c i])],[(1,some ⟨3,1,[[i64 0]]⟩)],2,34⟩;refine r_m 2 ?_;refine a_z ?_;refine aj (ae (r_d a6 9 ?_));refine c_s (mX a s.2 H) ?_;refine c_s (kO a s.1 B) ?_;refine a_1 ?_;refine ao (n_k ?_);refine ap rfl (fun F=>?_) (fun F=>?_);have C:e8 a s.2=dR a s.1:=by simpa using F
 have G:k=j:=by
  refine Nat.le_antisymm o (Nat.le_of_not_lt fun z=>?_);have v:=t2 k (Nat.zero_le _) z;rw[←d] at v;unfold yU at v;rw[if_pos ⟨H,B,K⟩] at v;simp[C] at v
 subst G;rw[←d] at hev E;refine r_c 6 (j5 q s.2 hev) ?_;refine c_s (cw (au q s.2)) ?_;refine a_z ?_;refine ai (⟨rfl,(),rfl,?_⟩);rw[E];show SEntT _ ⟨[(1004,.lptr 1 0 0)],[(1,some ⟨3,1,[[i64 (sgZ (au q s.2).num)]]⟩)],2,34⟩;exact s_t [];have C:¬e8 a s.2=dR a s.1:=by simpa using F
 have G:k< j:=by
  refine Nat.lt_of_le_of_ne o fun e=>?_;subst e;rw[←d] at t1;unfold yU at t1;rw[if_pos ⟨H,B,K⟩] at t1;simp[C] at t1
 refine ak (⟨k+1,⟨G,rfl⟩,?_⟩);show SEntT _ ⟨[(1000,plA c i),(1003,bP q),(1004,.lptr 1 0 0),(1005,.aptr [[kA a]] 0 0),(1018,.clos 230 [] [bPl c i])],[(1,some ⟨3,1,[[i64 0]]⟩)],2,34⟩;have:=uS a;exact s_t [];intro k o p;cases p;rintro e u rfl;exact Fin.cell1E rfl rfl rfl TG.h rfl rfl (ag _)
end Go.Proofs.YtdgbhlkabelmbaaGreatDoor
