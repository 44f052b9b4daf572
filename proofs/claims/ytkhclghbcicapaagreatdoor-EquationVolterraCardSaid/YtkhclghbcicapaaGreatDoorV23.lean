/- Part V23 of the proof. -/
import Derived.Test.YtkhclghbcicapaaGreatDoorV22
set_option linter.all false
namespace Go.Proofs.YtkhclghbcicapaaGreatDoor
open Go.Abs
set_option maxRecDepth 20000
set_option maxHeartbeats 2000000
def prS(t:List Rat):Nat×Nat→AState
 |(i,d)=>⟨[(0,.arr (pE t)),(3,.lptr 1 0 0),(4,.lptr 2 0 0),(13,.arr (pE t)),(14,i64 t.length),(15,i64 i)],[(1,some ⟨34,3,[qC (nQ d)]⟩),(2,some ⟨34,3,[qC 0]⟩)],3,47⟩
def prT(t:List Rat)(D:Nat):Nat×Nat→AState
 |(i,n)=>⟨[(0,.arr (pE t)),(3,.lptr 1 0 0),(4,.lptr 2 0 0),(29,.arr (pE t)),(30,i64 t.length),(31,i64 i)],[(1,some ⟨34,3,[qC (nQ D)]⟩),(2,some ⟨34,3,[qC (nQ n)]⟩)],3,47⟩
theorem Ag{l:List Rat}{i:Nat}(h:i< l.length):l.drop i=coP l i::l.drop (i+1):=by
 rw[List.drop_eq_getElem_cons h];congr 1;have:=cK h;rw[List.getElem?_eq_getElem h] at this;exact Option.some.inj this
theorem Jk(a b:Nat):bl (Nat.gcd a b)≤max (bl a) (bl b):=by
 rcases Nat.eq_zero_or_pos a with h|h
 subst h;rw[Nat.gcd_zero_left];exact Nat.le_max_right _ _;exact Nat.le_trans (dP (Nat.gcd_le_left b h)) (Nat.le_max_left _ _)
theorem rJ(p:List Rat)(h:vY p)(h0:aj p≠[]):FS 238 [.arr (pE p)] (.arr (pE (bU p))):=by
 obtain⟨t,ht⟩:∃t,t=aj p:=⟨_,rfl⟩;obtain⟨s,hs⟩:∃s,s=mxL p:=⟨_,rfl⟩;have hs1:1≤s:=by rw[hs];exact fo p
 have g:bdL t s:=fun q Y=>by rw[hs];exact fj p q (df (by rw[←ht];exact Y))
 have T:t.length≤p.length:=by rw[ht];exact bO p
 obtain⟨F,Z⟩:=h;rw[←hs] at F;have hts:t.length* s≤p.length* s:=Nat.mul_le_mul_right _ T;rw[Nat.add_mul] at F;obtain⟨D,B⟩:∃D,D=iT t 1:=⟨_,rfl⟩;have H:D≠0:=by rw[B];exact sd t (by decide)
 have hDb:bl D≤1+t.length* s:=by rw[B];exact Al t 1 g
 have E:∀c∈t,c.den∣D:=by rw[B];exact(mc t 1).2
 obtain⟨N,hN⟩:∃N,N=jg D t 0:=⟨_,rfl⟩
 have b:aF p∈t:=by
  rw[ht];obtain⟨n,w⟩:∃n,(aj p).length=n+1:=⟨(aj p).length- 1,by have:=List.length_pos_iff.2 h0;omega⟩;exact List.mem_of_getElem? (c8 w)
 have m:=(rl D t 0).2 (aF p) b;rw[←hN] at m;have J:=zH (E _ b) H (c9 h0);have S:N≠0:=fun e=>J (by rw[e] at m;exact Nat.zero_dvd.1 m);have hNb:bl N≤s+bl D:=Nat.le_trans (dP (Nat.le_of_dvd (by omega) m)) (Nat.le_trans (zJ _ _) (by have:=g _ b;omega));have O:bU p=aL t (nQ D/ nQ N):=by unfold bU;rw[←ht,←B,←hN]
 rw[O];have j:∀i,i< t.length→(pE t)[((i:Nat):Int).toNat]?=some (qC (coP t i)):=fun i u=>pE_get (cK u);have f:∀i,i< t.length→coP t i∈t:=fun i u=>List.mem_of_getElem? (cK u);have A:=eC p (by omega);rw[←ht] at A;refine f_c Tryz.func238 ?_;refine r_z 1 ?_;refine r_c 3 (A) ?_;refine a_z ?_;refine r_c 6 (ej 1 (by decide)) ?_;refine a_z ?_;refine ae (r_z 3 ?_);refine aH (fun _:Unit=>⟨[(0,.arr (pE t)),(3,.lptr 1 0 0),(4,.lptr 2 0 0)],[(1,some ⟨34,3,[qC (nQ D)]⟩),(2,some ⟨34,3,[qC 0]⟩)],3,47⟩) (fun _=>True) ?_ ?_;refine am (aD (prS t) (fun x=>t.length- x.1) (fun x=>x.1≤t.length∧x.2≠0∧iT (t.drop x.1) x.2=D) (0,1) ⟨Nat.zero_le _,by decide,by rw[B];rfl⟩ ?_ ?_);simp only[prS.eq_1];rw[qC0];exact s_e [(1,3),(2,4)];rintro⟨i,d⟩ ⟨u,r,z⟩;simp only at u r z;rw[prS.eq_1];refine r_z 1 ?_;refine ae (aq rfl (fun h=>?_) (fun h=>?_));refine an ?_;have a:i< t.length:=by simpa using h
 have hc:=g _ (f i a);have X:=ei (coP t i);have Q:=(coP t i).den_nz;rw[Ag a] at z;have L:d∣D:=by rw[←z];exact(mc _ d).1
 have hdb:=dP (Nat.le_of_dvd (by omega) L);have hq1:=nk (n:=d) (k:=34359738368) (by omega) (by decide);have V:=nk (n:=(coP t i).den) (k:=34359738368) (by omega) (by decide);have l:=cN (nQ d) (nQ (coP t i).den) (by omega);have o:=wt d (coP t i).den (by omega) (by omega);have y:Nat.gcd d (coP t i).den≠0:=by have:=Nat.gcd_pos_of_pos_left (coP t i).den (Nat.pos_of_ne_zero r);omega
 have K:=Jk d (coP t i).den;have U:=nk (n:=Nat.gcd d (coP t i).den) (k:=34359738368) (by omega) (by decide);have M:=dk (nQ d) (nQ (coP t i).den);rw[HZ] at M l;have C:=iR (nQ (d* (coP t i).den)) (nQ (Nat.gcd d (coP t i).den)) (fun e=>y (nQ_zero.1 e)) (by omega);rw[zp _ _ y,x9 _ _ y (Nat.dvd_mul_right_of_dvd (Nat.gcd_dvd_left _ _) _)] at C;refine ae (am (s_r 4 ?_));refine ci (.index_a rfl rfl (by omega) (j i a) rfl te_36.h) rfl rfl ?_;refine ci (.load_a rfl (j i a) TG.h TS.h (nle rfl)) rfl rfl ?_;refine a_z ?_;refine r_d ba 10 ?_;refine c_s (IG (coP t i) (by unfold sm;omega)) ?_;refine c_s (l) ?_;refine c_s (IG (coP t i) (by unfold sm;omega)) ?_;refine c_s (o) ?_;refine c_s (C) ?_;refine a_1 ?_;refine au (n_k ?_);refine r_m 2 ?_;refine a_z ?_;refine⟨(i+1,Nat.lcm d (coP t i).den),by simp only;omega,⟨a,E3 r Q,z⟩,?_⟩;simp only[prS.eq_1];exact s_e []
 have v:i=t.length:=by
  have:¬i< t.length:=by simpa using h
  omega
 subst v;rw[List.drop_length] at z;refine aA ⟨(),trivial,?_⟩;rw[←z];exact s_e [];rintro _ _;refine ae (r_z 3 ?_);refine aH (fun _:Unit=>⟨[(0,.arr (pE t)),(3,.lptr 1 0 0),(4,.lptr 2 0 0)],[(1,some ⟨34,3,[qC (nQ D)]⟩),(2,some ⟨34,3,[qC (nQ N)]⟩)],3,47⟩) (fun _=>True) ?_ ?_;refine am (aD (prT t D) (fun x=>t.length- x.1) (fun x=>x.1≤t.length∧bl x.2≤s+bl D∧jg D (t.drop x.1) x.2=N) (0,0) ⟨Nat.zero_le _,by rw[bl_zero];exact Nat.zero_le _,by rw[hN];rfl⟩ ?_ ?_);simp only[prT.eq_1];exact s_e [];rintro⟨i,n⟩ ⟨u,R,w⟩;simp only at u R w;rw[prT.eq_1];refine r_z 1 ?_;refine ae (aq rfl (fun h=>?_) (fun h=>?_));refine an ?_;have a:i< t.length:=by simpa using h
 have hc:=g _ (f i a);rw[Ag a] at w;have W:=zJ (coP t i) D;have K:=Jk n (iZ (coP t i) D);have hq1:=nk (n:=D) (k:=34359738368) (by omega) (by decide);have l:=cN (coP t i) (nQ D) (by omega);have G:=qi (coP t i* nQ D);rw[rm _ _ (E _ (f i a))] at G;have o:=wt n (iZ (coP t i) D) (by omega) (by omega);refine ae (am (s_r 4 ?_));refine ci (.index_a rfl rfl (by omega) (j i a) rfl te_36.h) rfl rfl ?_;refine ci (.load_a rfl (j i a) TG.h TS.h (nle rfl)) rfl rfl ?_;refine a_z ?_;refine r_d ba 7 ?_;refine c_s (l) ?_;refine c_s (G) ?_;refine c_s (o) ?_;refine a_1 ?_;refine au (n_k ?_);refine r_m 2 ?_;refine a_z ?_;refine⟨(i+1,Nat.gcd n (iZ (coP t i) D)),by simp only;omega,⟨a,by simp only;omega,w⟩,?_⟩;simp only[prT.eq_1];exact s_e []
 have v:i=t.length:=by
  have:¬i< t.length:=by simpa using h
  omega
 subst v;rw[List.drop_length] at w;refine aA ⟨(),trivial,?_⟩;rw[←w];exact s_e [];rintro _ _;have hq1:=nk (n:=D) (k:=34359738368) (by omega) (by decide);have V:=nk (n:=N) (k:=34359738368) (by omega) (by decide);have U:=iN (nQ D) (nQ N);refine r_c 6 (iR (nQ D) (nQ N) (fun e=>S (nQ_zero.1 e)) (by omega)) ?_;refine c_s (iq t (nQ D/ nQ N) (eP g (by omega)) (by unfold sm;omega) (by omega)) ?_;refine a_z ?_;exact ak (t_e (aC _))
theorem xp(f:Nat)(p r:List Rat)(h:xk f p=some r):FS 201 [.arr (pE p)] (.arr (pE r)):=by
 unfold xk at h;split at h
 case isFalse=>cases h
 case isTrue hs=>
 obtain⟨g,hg,a⟩:=Option.bind_eq_some_iff.1 h;split at a
 case isFalse=>cases a
 case isTrue hg2=>
 cases a;have c:=li p;have b:=sa (p:=p) (q:=g);refine f_c Tryz.func201 ?_;refine r_z 1 ?_;refine r_c 11 (tA p hs.1 (by omega)) ?_;refine c_s (IN f p (aN p) g hg hs.2 (by omega)) ?_;refine c_s (tp p g (mxL p) (mxL g) (fj p) (fj g) (fo p) (fo g) hg2.2.1 hg2.1 hs.2 hg2.2.2.2) ?_;refine a_z ?_;refine r_c 3 (wl (cf p g).1 (Ak hg2.2 hg2.1).1 (by omega)) ?_;refine a_z ?_;exact ak (t_e (aC _))
def boS(t:List Rat)(l:List Rat):Nat×Rat→AState
 |(i,m)=>⟨[(0,.arr (pE t)),(2,.lptr 1 0 0),(3,.lptr 2 0 0),(13,.arr (pE l)),(14,i64 l.length),(15,i64 i)],[(1,some ⟨34,3,[zC]⟩),(2,some ⟨34,3,[qC m]⟩)],3,31⟩
theorem IH(p:List Rat)(h:rc p)(h0:aj p≠[]):FS 272 [.arr (pE p)] (.agg (qC (cj p))):=by
 obtain⟨F,D⟩:=h;obtain⟨t,ht⟩:∃t,t=aj p:=⟨_,rfl⟩;have f:=eC p (by omega);have w:=bO p;rw[←ht] at f w;obtain⟨l,r⟩:∃l,l=t.take (t.length- 1):=⟨_,rfl⟩;have a:l.length=t.length- 1:=by rw[r];simp
 have y:bdL l (mxL p):=fun q u=>fj p q (df (by rw[←ht];exact List.mem_of_mem_take (by rw[←r];exact u)));have C:0< t.length:=by rw[ht];exact List.length_pos_iff.2 h0
 have e:aF t=aF p:=by rw[ht,Do]
 have G:qs (aF p)≤mxL p:=by
  obtain⟨n,J⟩:∃n,(aj p).length=n+1:=⟨(aj p).length- 1,by rw[←ht];omega⟩;exact fj p _ (df (List.mem_of_getElem? (c8 J)))
 have hb:cj p=boL (aF p) l 0+1:=by unfold cj;rw[←ht,←r]
 rw[hb];obtain⟨B,hB⟩:∃B,B=boL (aF p) l 0:=⟨_,rfl⟩;rw[←hB];refine f_c Tryz.func272 ?_;refine r_z 1 ?_;refine r_c 3 (f) ?_;refine a_z ?_;refine r_z 3 ?_;refine ae (s_r 7 ?_);refine a_4 ?_;refine o_0 (.sa_h rfl rfl (h:=t.length- 1) (by omega) (by simp) te_36.h (mL _)) ?_;refine a_z ?_;refine aH (fun _:Unit=>⟨[(2,.lptr 1 0 0),(3,.lptr 2 0 0)],[(1,some ⟨34,3,[zC]⟩),(2,some ⟨34,3,[qC B]⟩)],3,31⟩) (fun _=>qs B≤2* mxL p+1) ?_ ?_;refine am (aD (boS t l) (fun x=>l.length- x.1) (fun x=>x.1≤l.length∧qs x.2≤2* mxL p+1∧boL (aF p) (l.drop x.1) x.2=B) (0,0) ⟨Nat.zero_le _,Nat.le_trans (by decide:qs 0≤1) (Nat.le_add_left 1 _),by rw[hB];rfl⟩ ?_ ?_);simp only[boS.eq_1];rw[qC0];have d:AV.arr (List.take (t.length- 1) (pE t))=AV.arr (pE l):=by rw[r,uI]
 refine s_x [(1,2),(2,3)] (fun hs=>?_) (fun hs=>?_) ?_
 ·repeat' (first|exact aS|refine az rfl ?_ ?_|exact Cv.loE hs d (d▸aC l)|exact bm|(refine Cv.loE hs ?_ (ah _);first|rfl|(simp[i64,u64,u32,bln,a];done)|(simp[i64,u64,u32,bln,a]<;> omega)))
 ·repeat' (first|exact aI|refine h_c ?_ ?_|exact cu|(refine aT hs ?_ (aV _);first|(simp[mK,lO,a];done)|(simp[pE,ofV,a];done))|refine aG ?_|exact aw|refine ai ?_ ?_|exact Cv.loE hs d (d▸aC l)|exact bm|(refine Cv.loE hs ?_ (ah _);first|(simp[i64,u64,u32,bln,a];done)|(simp[i64,u64,u32,bln,a]<;> omega)))
 ·repeat' (first|exact ShrL.nil|refine ShrL.cons rfl rfl rfl rfl (by first|rfl|(simp;done)|(simp[a]<;> omega)) ?_)
 rintro⟨i,m⟩ ⟨H,s,b⟩;simp only at H s b;rw[boS.eq_1];refine r_z 1 ?_;refine ae (aq rfl (fun h=>?_) (fun h=>?_));refine an ?_;have c:i< l.length:=by simpa using h
 have g:(pE l)[((i:Nat):Int).toNat]?=some (qC (coP l i)):=pE_get (cK c);have hc:qs (coP l i)≤mxL p:=y _ (List.mem_of_getElem? (cK c));rw[Ag c] at b;have u:=iN (coP l i) (aF p);have k:=uX t (by omega);rw[e] at k;have E:=Db (coP l i/ aF p)
 have j:bdL [m,eN (coP l i/ aF p)] (2* mxL p+1):=by
  intro x v;rcases List.mem_cons.1 v with rfl|v
  exact s;rw[List.mem_singleton.1 v];omega
 have A:=tz [m,eN (coP l i/ aF p)] (eP j (by omega)) (by simp);refine ae (am (s_r 4 ?_));refine i_x g ?_;refine l_x g ?_;refine a_z ?_;refine r_d ba 9 ?_;refine c_s (k) ?_;refine c_s (iR (coP l i) (aF p) (c9 h0) (by omega)) ?_;refine c_s (qi (coP l i/ aF p)) ?_;refine a_1 ?_;refine o_1 (.callS1 rfl rfl rfl (.shut rfl d_n (.nil)) rfl (A)) ?_;refine a_1 ?_;refine au (n_k ?_);refine r_m 2 ?_;refine a_z ?_;refine⟨(i+1,dM [m,eN (coP l i/ aF p)]),by simp only;omega,⟨c,zx j (Nat.le_add_left 1 _),b⟩,?_⟩;simp only[boS.eq_1];exact s_e []
 have z:i=l.length:=by
  have:¬i< l.length:=by simpa using h
  omega
 subst z;rw[List.drop_length] at b;have o:m=B:=b;subst o;refine aA ⟨(),s,?_⟩;exact s_e [];rintro _ u;have h1:qs 1=1:=by decide
 refine ae (r_d ba 4 ?_);refine c_s (ej 1 (by decide)) ?_;refine c_s (fD B 1 (by omega)) ?_;refine a_1 ?_;refine au (n_k ?_);exact ak (c_e (aP _))
def stS:List Rat×List (List Rat)→AState
 |(next,acc)=>⟨[(3,.lsl 1 0 acc.length none 1),(4,.arr (pE next))],[(1,some ⟨36,1,cE acc⟩)],2,40⟩
theorem CT(next:List Rat)(acc:List (List Rat)):stS (next,acc)=⟨[(3,.lsl 1 0 acc.length none 1),(4,.arr (pE next))],[(1,some ⟨36,1,cE acc⟩)],2,40⟩:=rfl
theorem FU(p:List Rat):(bU p).length≤p.length:=
 Nat.le_trans (dn _ _) (bO p)
theorem Is(f:Nat)(p:List Rat)(r:List (List Rat))(h:mG f p=some r)(hf:f≤1000000):FS 202 [.arr (pE p)] (.arr (cE r)):=by
 unfold mG at h;split at h
 case isFalse=>cases h
 case isTrue hp=>
 have s:=li p;have m:=hp.2.1.2;refine f_c Tryz.func202 ?_;refine r_z 1 ?_;refine r_c 4 (rJ p hp.2.1 hp.2.2) ?_;refine a_z ?_;refine ae (r_c 3 (tA p hp.1 (by omega)) ?_);refine a_z ?_;refine aH (fun _:Unit=>⟨[(3,.lsl 1 0 r.length none 1)],[(1,some ⟨36,1,cE r⟩)],2,40⟩) (fun _=>True) ?_ ?_
 ·refine am (aD (fun x:Nat×List Rat×List Rat×List (List Rat)=>stS x.2.2) (fun x=>x.1) (fun x=>oa f x.1 x.2.1 x.2.2.1 x.2.2.2=some r∧x.2.2.1.length≤274877906944∧x.2.2.2.length+x.1≤1000001∧1≤x.2.2.2.length∧x.2.2.2[x.2.2.2.length- 1]?=some x.2.1) (f,bU p,aN p,[bU p]) ⟨h,by simp only;omega,by simp only[List.length_singleton];omega,by simp,rfl⟩ ?_ ?_)
  simp only[CT];have:=ku [bU p];exact s_f [(1,3)];rintro⟨k,last,next,a⟩ ⟨h,u,o,g,b⟩;simp only at h u o g b;simp only[CT];cases k with
  |zero=>cases h
  |succ k=>
   rw[oa] at h;refine ae (r_c 3 (eE next (by omega)) ?_);refine a_z ?_;refine aq rfl (fun h1=>?_) (fun h1=>?_)
   ·have c:aj next≠[]:=by
     intro e;have e2:=degP_neg.2 e;simp at h1;omega
    rw[if_neg c] at h;split at h
    case isFalse=>cases h
    case isTrue hs=>
    have l:=FU next
    have j:=sa (p:=last) (q:=bU next);have t:=dn (cf last (bU next)).2 (-1);have n:=hs.2.1.2.1
    have d:(cE (a++[bU next]))[0+(((a.length+1:Nat):Int)- 2).toNat]?=some [.arr (pE last)]:=by
     rw[show 0+(((a.length+1:Nat):Int)- 2).toNat=a.length- 1 by omega];exact Eb (by rw[List.getElem?_append_left (by omega)];exact b)
    have i:(cE (a++[bU next]))[0+(((a.length+1:Nat):Int)- 1).toNat]?=some [.arr (pE (bU next))]:=by
     rw[show 0+(((a.length+1:Nat):Int)- 1).toNat=a.length by omega];exact Eb (by simp)
    refine an (am (r_c 6 (rJ next hs.1 c) ?_));refine a_z ?_;refine AWp.ent (st':=⟨[(3,.lsl 1 0 (a.length+1) none 1)],[(1,some ⟨36,1,cE (a++[bU next])⟩)],2,40⟩) ?_ ?_
    ·have:=(cE_snoc a (bU next)).symm
     exact s_f [(1,3)]
    refine ae (r_d ba 18 ?_);refine a_5 ?_;refine ci (.load_l1 rfl rfl d TG.h rfl) rfl rfl ?_;refine a_5 ?_;refine ci (.load_l1 rfl rfl i TG.h rfl) rfl rfl ?_;refine c_s (tp last (bU next) (mxL last) (mxL (bU next)) (fj _) (fj _) (fo _) (fo _) hs.2.1.1 hs.2.2 hs.2.1.2.1 hs.2.1.2.2) ?_;refine a_5 ?_;refine au (n_k ?_);refine r_m 4 ?_;refine c_s (ej (-1) (by decide)) ?_;refine c_s (iq (cf last (bU next)).2 (-1) (Ak hs.2.1 hs.2.2).2 (by decide) (by omega)) ?_;refine a_z ?_;refine⟨(k,bU next,aL (cf last (bU next)).2 (-1),a++[bU next]),Nat.lt_succ_self k,⟨h,by simp only;omega,by simp only[List.length_append,List.length_singleton];omega,by simp,by simp⟩,?_⟩;have b:(a++[bU next]).length=a.length+1:=by simp
    simp only[CT,b];exact s_f []
   ·have c:aj next=[]:=by
     refine degP_neg.1 ?_;simp at h1;omega
    rw[if_pos c] at h;cases h;refine aA ⟨(),trivial,?_⟩;exact s_f []
 rintro _ _;refine r_z 2 ?_;exact ak (Fin.tmpS rfl rfl rfl (by simp) (ku r))
def chS(ch:List (List Rat))(g:Nat)(cap:List AV):Nat×Int×Int→AState
 |(i,n,last)=>⟨[(1,.clos g [] cap),(5,i64 n),(6,i64 last),(10,.arr (cE ch)),(11,i64 ch.length),(12,i64 i)],[],1,30⟩
theorem wW(ch:List (List Rat))(g:Nat)(cap:List AV)(i:Nat)(n:Int)(last:Int):chS ch g cap (i,n,last)=⟨[(1,.clos g [] cap),(5,i64 n),(6,i64 last),(10,.arr (cE ch)),(11,i64 ch.length),(12,i64 i)],[],1,30⟩:=rfl
theorem wu(ch:List (List Rat))(g:Nat)(cap:List AV)(sg:List Rat→Int)(hcap:∀c∈cap,Closed c)(hsg:∀q∈ch,-1≤sg q∧sg q≤1)(hl:ch.length≤274877906944)(hg:∀q∈ch,FS g ((.arr (pE q)::cap).map coe) (i64 (sg q))):FS 203 [.arr (cE ch),.clos g [] cap] (i64 (chL (ch.map sg) 0 0)):=by
 refine f_n Tryz.func203 ?_ ?_;exact ac (oW ch) (ac (aU ag hcap) ag);refine r_z 1 ?_;refine r_z 2 ?_;refine ae (r_z 3 ?_);obtain⟨R,v⟩:∃R,R=chL (ch.map sg) 0 0:=⟨_,rfl⟩;rw[←v];refine aH (fun _:Unit=>⟨[(5,i64 R)],[],1,30⟩) (fun _=>True) ?_ ?_;refine am (aD (chS ch g cap) (fun x=>ch.length- x.1) (fun x=>x.1≤ch.length∧0≤x.2.1∧x.2.1≤x.1∧ -1≤x.2.2∧x.2.2≤1∧chL ((ch.drop x.1).map sg) x.2.1 x.2.2=R) (0,0,0) ⟨Nat.zero_le _,by decide,by decide,by decide,by decide,by rw[v];rfl⟩ ?_ ?_);simp only[wW];exact s_x [] (fun hs=>e_1) (fun hs=>e_11);rintro⟨i,n,last⟩ ⟨y,d,s,l,m,hc⟩;simp only at y d s l m hc;rw[wW];refine r_z 1 ?_;refine ae (aq rfl (fun h=>?_) (fun h=>?_));refine an ?_;have a:i< ch.length:=by simpa using h
 obtain⟨q,o⟩:∃q,ch[i]?=some q:=⟨_,List.getElem?_eq_getElem a⟩;have j:=List.mem_of_getElem? o;have k:(cE ch)[((i:Nat):Int).toNat]?=some [.arr (pE q)]:=Eb o
 have w:ch.drop i=q::ch.drop (i+1):=by
  rw[List.drop_eq_getElem_cons a];rw[List.getElem?_eq_getElem a] at o;rw[Option.some.inj o]
 rw[w,List.map_cons,chL] at hc;have b:=hsg q j;refine ae (am (s_r 3 ?_));refine i_x k ?_;refine l_1 k ?_;refine a_z ?_;refine r_c 4 (hg q j) ?_;refine a_z ?_;refine r_z 2 ?_;refine aq rfl (fun h1=>?_) (fun h1=>?_);have f:sg q≠0:=by simpa using h1
 rw[if_pos f] at hc;refine ae (r_z 4 ?_);refine aq rfl (fun t=>?_) (fun t=>?_);have r:sg q= -last:=by simpa using t
 rw[if_pos r] at hc;refine r_m 3 ?_;refine a_z ?_;refine r_m 2 ?_;refine a_z ?_;refine r_m 2 ?_;refine a_z ?_;refine⟨(i+1,n+1,sg q),by simp only;omega,⟨a,by simp only;omega,by simp only;omega,b.1,b.2,hc⟩,?_⟩;simp only[wW];exact s_x [] (fun hs=>e_1) (fun hs=>e_11);have r:¬sg q= -last:=by simpa using t
 rw[if_neg r] at hc;refine an (r_m 2 ?_);refine a_z ?_;refine r_m 2 ?_;refine a_z ?_;refine⟨(i+1,n,sg q),by simp only;omega,⟨a,d,by simp only;omega,b.1,b.2,hc⟩,?_⟩;simp only[wW];exact s_x [] (fun hs=>e_1) (fun hs=>e_11);have f:sg q=0:=by simpa using h1
 rw[if_neg (fun e=>e f)] at hc;refine an (r_m 2 ?_);refine a_z ?_;refine⟨(i+1,n,last),by simp only;omega,⟨a,d,by simp only;omega,l,m,hc⟩,?_⟩;simp only[wW];exact s_x [] (fun hs=>e_1) (fun hs=>e_11)
 have u:i=ch.length:=by
  have:¬i< ch.length:=by simpa using h
  omega
 subst u;rw[List.drop_length] at hc;have p:n=R:=hc;subst p;refine aA ⟨(),trivial,?_⟩;exact s_e [];rintro _ _;refine r_z 2 ?_;exact ak (t_e (ah _))
theorem DM(q:List Rat)(h0:aj q≠[])(hl:q.length≤274877906944):FS 204 [.arr (pE q)] (i64 (sgI q)):=by
 have a:¬cQ q< 0:=fun e=>h0 (degP_neg.1 e);have hb:=oo (aF q).num;refine f_c Tryz.func204 ?_;refine r_z 1 ?_;refine ae (r_c 4 (eE q (by omega)) ?_);refine a_z ?_;refine aq rfl (fun h=>?_) (fun h=>?_);have h1:cQ q % 2=1:=by simpa using h
 refine r_c 5 (uX q (by omega)) ?_;refine c_s (cx (aF q)) ?_;refine a_z ?_;refine ak (aY rfl ?_ ?_);unfold sgI;rw[if_pos h1];rfl;exact ah _;have h1:¬cQ q % 2=1:=by simpa using h
 refine an (r_c 4 (uX q (by omega)) ?_);refine c_s (cx (aF q)) ?_;refine a_z ?_;refine ak (aY rfl ?_ ?_);unfold sgI;rw[if_neg h1];exact ah _
theorem tu(f:Nat)(p:List Rat)(c:Cnt)(h:gx f p=some c)(hf:f≤1000000):FS 173 [.arr (pE p)] (kA c):=by
 unfold gx at h;obtain⟨s,hs,g⟩:=Option.bind_eq_some_iff.1 h;obtain⟨ch,d,b⟩:=Option.bind_eq_some_iff.1 g;split at b
 case isFalse=>cases b
 case isTrue hk=>
 cases b;have a:=wu ch 204 [] sgI ag (fun q _=>sgI_abs q) hk.2.1 (fun q e=>DM q (hk.1 q e).1 (hk.1 q e).2);refine f_c Tryz.func173 ?_;refine r_z 1 ?_;refine r_c 5 (xp f p s hs) ?_;refine a_z ?_;refine r_c 9 (Is f s ch d hf) ?_;refine a_z ?_;refine r_c 9 (a) ?_;refine a_z ?_;refine r_z 2 ?_;exact ak (Fin.tmpP rfl rfl rfl (yC _))
theorem Io(q:List Rat)(x:Rat)(h:fe q x):FS 205 [.arr (pE q),bQ x] (i64 (sgE x q)):=by
 refine f_c Tryz.func205 ?_;refine r_z 1 ?_;refine r_c 5 (j8 q x h) ?_;refine c_s (cx (af q x)) ?_;refine a_z ?_;exact ak (t_e (ah _))
theorem oH(c:Cnt)(x:Rat)(h:qW c x):FS 175 [kA c,.agg (qC x)] (i64 (bZ c x)):=by
 have a:=wu c.ch 205 [bQ x] (sgE x) (ac (b7 x) ag) (fun q _=>oo _) h.1.2.1 (fun q b=>Io q x (h.2 q b));have hb:=lI (x:=x) h.1;unfold bZ at hb⊢;refine f_c Tryz.func175 ?_;refine r_z 2 ?_;refine AWp.ent (st':=⟨[(0,kA c),(3,bQ x)],[],1,16⟩) ?_ ?_;exact s_e [];refine ae (r_d ba 12 ?_);refine c_s (a) ?_;refine a_2 ?_;refine au (n_k ?_);exact ak (t_e (ah _))
theorem lX(c:Cnt)(x:Rat)(h:pa c x):FS 174 [kA c,.agg (qC x)] (i64 (aZ c x)):=by
 have hb:=lI (x:=x) h.1.1;refine f_c Tryz.func174 ?_;refine r_z 2 ?_;refine r_c 4 (oH c x h.1) ?_;refine a_z ?_;refine bD (fun n:Int=>⟨[(5,i64 n)],[],1,20⟩) (fun n=>n=aZ c x) ?_ ?_;refine ae (r_d ba 8 ?_);refine c_s (j8 c.p x h.2) ?_;refine c_s (cx (af c.p x)) ?_;refine a_1 ?_;refine au (n_k ?_);refine aq rfl (fun h1=>?_) (fun h1=>?_)
 have a:af c.p x=0:=by
  have:sgZ (af c.p x).num=0:=by simpa using h1
  exact sgZ_num_eq.1 this
 refine r_m 3 ?_;refine a_z ?_;refine⟨bZ c x- 1,by unfold aZ;rw[if_pos a],?_⟩;exact s_e []
 have a:af c.p x≠0:=by
  intro e;have:¬sgZ (af c.p x).num=0:=by simpa using h1
  exact this (sgZ_num_eq.2 e)
 refine an ⟨bZ c x,by unfold aZ;rw[if_neg a],?_⟩;exact s_e [];rintro n rfl;refine r_z 2 ?_;exact ak (t_e (ah _))
theorem zN(c:Cnt)(i:Int)(x:Rat)(h:pa c x):FS 243 [plA c i,.agg (qC x)] (i64 (plC c i x)):=by
 refine f_n Tryz.func243 ?_ ?_;exact ac (dC c i) (ac (aP x) ag);refine r_z 2 ?_;refine ae (ae (r_d ba 7 ?_));refine c_s (lX c x h) ?_;refine a_1 ?_;refine au (n_k ?_);refine aH (fun _:Unit=>⟨[],[],1,36⟩) (fun _=>plC c i x=1) ?_ ?_;refine am (r_z 7 ?_);refine aq rfl (fun h1=>?_) (fun h1=>?_);have a:i< aZ c x:=by simpa using h1
 refine r_z 1 ?_;refine ak (aY rfl ?_ ?_);unfold plC;rw[if_pos a];rfl;exact ah _;have a:¬i< aZ c x:=by simpa using h1
 by_cases h3:aZ c x=i;refine ae (r_d ba 17 ?_);refine a_7 ?_;refine y_g rfl (by simp[h3]) (.move rfl) ?_;refine y_g rfl (by simp[h3]) (.nilCheck rfl rfl) ?_;refine y_g rfl (by simp[h3]) (.fieldAddr_a rfl TF.h (by decide)) ?_;refine y_g rfl (by simp[h3]) (.load_a1 rfl rfl TG.h rfl) ?_;refine y_g rfl (by simp[h3]) (.load_l rfl rfl rfl TG.h TS.h (nle rfl)) ?_;refine y_g rfl (by simp[h3]) (.call rfl rfl rfl (oH c x h.1)) ?_;refine y_g rfl (by simp[h3]) (.move rfl) ?_;refine y_g rfl (by simp[h3]) (.bin rfl rfl mw) ?_;refine o_0 (.pickT rfl (by simp[h3]) rfl) ?_;refine a_1 ?_;refine au (n_k ?_);refine aq rfl (fun b=>?_) (fun b=>?_);have d:aZ c x< bZ c x:=by simpa using b
 refine r_z 1 ?_;refine ak (aY rfl ?_ ?_);unfold plC;rw[if_neg a,if_pos ⟨h3,d⟩];rfl;exact ah _;have d:¬aZ c x< bZ c x:=by simpa using b
 refine an ⟨(),by unfold plC;rw[if_neg a,if_neg fun e=>d e.2],?_⟩;exact s_e [];refine ae (r_d ba 17 ?_);refine a_7 ?_;refine n_g rfl (by simp[h3]) ?_;refine n_g rfl (by simp[h3]) ?_;refine n_g rfl (by simp[h3]) ?_;refine n_g rfl (by simp[h3]) ?_;refine n_g rfl (by simp[h3]) ?_;refine n_g rfl (by simp[h3]) ?_;refine n_g rfl (by simp[h3]) ?_;refine n_g rfl (by simp[h3]) ?_;refine o_0 (.pickF rfl (by simp[h3]) rfl) ?_;refine a_1 ?_;refine au (n_k ?_);refine cF ?_;refine an ⟨(),by unfold plC;rw[if_neg a,if_neg fun e=>h3 e.1],?_⟩;exact s_e [];rintro _ f;refine r_z 1 ?_;refine ak (aY rfl ?_ ?_);rw[f];rfl;exact ah _
def hiV(c:Cnt)(step:Rat):Rat:=sr (cj c.p/ step)
def Di(c:Cnt)(step:Rat)(lo:Rat):Prop:=rc c.p∧aj c.p≠[]∧step≠0∧qs (cj c.p)+qs step≤549755813888∧qs lo+qs step≤549755813888∧pa c (lo* step)
instance (c:Cnt) (step lo:Rat):Decidable (Di c step lo):=inferInstanceAs (Decidable (_∧_∧_∧_∧_∧_))
def B2(f:Nat)(c:Cnt)(i:Int)(step:Rat):Option (Rat×Bool):=
 (biM c i step f (-hiV c step) (hiV c step)).bind fun lo=>if Di c step lo then some (lo* step,plC c i (lo* step)==0) else none
def dnS(c:Cnt)(i:Int)(step:Rat):Rat×Rat→AState
 |(lo,hi)=>⟨[(0,plA c i),(3,.lptr 1 0 0),(4,.lptr 2 0 0),(6,.lptr 3 0 0),(7,.lptr 4 0 0),(8,.lptr 5 0 0)],[(1,some ⟨34,3,[qC step]⟩),(2,some ⟨34,3,[zC]⟩),(3,some ⟨34,3,[qC hi]⟩),(4,some ⟨34,3,[qC lo]⟩),(5,some ⟨34,3,[qC 2]⟩)],6,52⟩
theorem fs_down(f:Nat)(c:Cnt)(i:Int)(step:Rat)(r:Rat×Bool)(h:B2 f c i step=some r):FS 266 [plA c i,.agg (qC step)] (.tup [.agg (qC r.1),bln r.2]):=by
 unfold B2 at h;obtain⟨l,j,b⟩:=Option.bind_eq_some_iff.1 h;split at b
 case isFalse=>cases b
 case isTrue hk=>
 cases b;obtain⟨m,q,k3,n,t,k⟩:=hk;have u:=iN (cj c.p) step;refine f_n Tryz.func266 ?_ ?_;exact ac (dC c i) (ac (aP step) ag);refine r_z 3 ?_;refine ae (r_d ba 13 ?_);refine c_s (IH c.p m q) ?_;refine c_s (iR (cj c.p) step k3 n) ?_;refine c_s (Fc (cj c.p/ step) (by omega)) ?_;refine a_2 ?_;refine au (n_k ?_);refine r_c 4 (nW (sr (cj c.p/ step))) ?_;refine a_z ?_;refine r_c 3 (ej 2 (by decide)) ?_;refine a_z ?_;refine bD (fun a:Rat=>dnS c i step (l,a)) (fun _=>True) ?_ ?_
 ·refine am (aD (fun x:Nat×Rat×Rat=>dnS c i step x.2) (fun x=>x.1) (fun x=>biM c i step x.1 x.2.1 x.2.2=some l) (f,-hiV c step,hiV c step) j ?_ ?_)
  simp only[dnS.eq_1,hiV];exact s_e [(2,4),(3,6),(4,7),(5,8)];rintro⟨f,lo,a⟩ h;simp only at h;simp only[dnS.eq_1];cases f with
  |zero=>cases h
  |succ f=>
   rw[biM] at h;split at h
   case isFalse=>cases h
   case isTrue hs=>
   obtain⟨s1,s2,g⟩:=hs;refine ae (r_c 6 (lE a lo (sm2 s2 s1)) ?_);refine c_s (ej 1 (by decide)) ?_;refine c_s (qg (a- lo) 1 g (by decide)) ?_;refine a_z ?_;refine aq rfl (fun h1=>?_) (fun h1=>?_)
   ·have b:0< dB (a- lo) 1:=by simpa using h1
    rw[if_pos b] at h;split at h
    case isFalse=>cases h
    case isTrue ht=>
    obtain⟨t1,t2⟩:=ht;have hq1:=fX lo a;have s:qs 2=2:=by decide
    have o:=iN (lo+a) 2;unfold sm at s1 s2;refine an (am (ae (r_d ba 8 ?_)));refine c_s (fD lo a (by omega)) ?_;refine c_s (iR (lo+a) 2 (by decide) (by omega)) ?_;refine c_s (rM ((lo+a) / 2) (by omega)) ?_;refine a_2 ?_;refine au (n_k ?_);refine r_c 6 (cN (((lo+a) / 2).floor:Rat) step t1) ?_;refine c_s (zN c i ((((lo+a) / 2).floor:Rat) * step) t2) ?_;refine a_z ?_;refine aq rfl (fun d=>?_) (fun d=>?_);have e:0≤plC c i ((((lo+a) / 2).floor:Rat) * step):=by simpa using d
    rw[if_pos e] at h;refine r_m 2 ?_;refine a_z ?_;refine⟨(f,(((lo+a) / 2).floor:Rat),a),Nat.lt_succ_self f,h,?_⟩;simp only[dnS.eq_1];exact s_e [];have e:¬0≤plC c i ((((lo+a) / 2).floor:Rat) * step):=by simpa using d
    rw[if_neg e] at h;refine r_m 2 ?_;refine a_z ?_;refine⟨(f,lo,(((lo+a) / 2).floor:Rat)),Nat.lt_succ_self f,h,?_⟩;simp only[dnS.eq_1];exact s_e []
   have b:¬0< dB (a- lo) 1:=by simpa using h1
   rw[if_neg b] at h;cases h;refine aA ⟨a,trivial,?_⟩;simp only[dnS.eq_1];exact s_e []
 rintro a _;simp only[dnS.eq_1];refine r_c 4 (cN l step t) ?_;refine a_z ?_;refine ae (r_d ba 7 ?_);refine c_s (zN c i (l* step) k) ?_;refine a_3 ?_;refine au (n_k ?_);refine ak (Fin.many ⟨_,_,rfl,⟨_,_,_,_,_,rfl,rfl,rfl,.inl ⟨TG.h,_,TS.h,nle rfl,rfl⟩⟩,⟨_,_,rfl,rfl,rfl⟩⟩ (nle rfl) ?_);exact ai (ao ay (aP _)) (ai (ao ay (ah _)) aw)
def pF(f:Nat)(c:Cnt)(i:Int)(k:Int):Option Sp:=
 (B2 f c i (cY (wi k 256))).bind fun r=>if r.2 then some (r.1,r.1) else if qs r.1+qs (cY (wi k 256))≤549755813888 then some (r.1,r.1+cY (wi k 256)) else none
theorem fs_span(f:Nat)(c:Cnt)(i:Int)(k:Int)(s:Sp)(h:pF f c i k=some s):FS 241 [plA c i,i64 k] (.agg (spC s.1 s.2)):=by
 unfold pF at h;obtain⟨⟨a,ex⟩,d,b⟩:=Option.bind_eq_some_iff.1 h;refine f_n Tryz.func241 ?_ ?_;exact ac (dC c i) (ac (ah _) ag);refine r_z 1 ?_;refine r_c 4 (rV k) ?_;refine a_z ?_;refine r_c 9 (fs_down f c i (cY (wi k 256)) (a,ex) d) ?_;refine a_z ?_;refine ae (r_z 1 ?_);refine aq rfl (fun h1=>?_) (fun h1=>?_);subst h1;rw[if_pos rfl] at b;cases b;refine r_c 3 (BK a) ?_;refine a_z ?_;exact ak (c_e (bJ _ _))
 ·subst h1
  rw[if_neg (show¬false=true by decide)] at b;split at b
  case isFalse=>cases b
  case isTrue hs=>
  cases b;refine an (ae (r_d ba 6 ?_));refine c_s (fD a (cY (wi k 256)) hs) ?_;refine a_2 ?_;refine au (n_k ?_);exact ak (c_e (bJ _ _))
def jh(s:Sp):Rat:=(s.1+s.2) * cY 1
def x7(c:Cnt)(i:Int)(s:Sp):Sp:=if plC c i (jh s)=0 then(jh s,jh s) else if plC c i (jh s)=1 then(jh s,s.2) else(s.1,jh s)
def nI(c:Cnt)(s:Sp):Prop:=smS s∧pa c (jh s)
instance (c:Cnt) (s:Sp):Decidable (nI c s):=inferInstanceAs (Decidable (_∧_))
def bv(c:Cnt)(i:Int)(s0:Sp):Nat→Sp
 |0=>s0
 |k+1=>x7 c i (bv c i s0 k)
def closT(c:Cnt)(i:Int)(s0:Sp)(k:Nat):Option (List AV):=some [.agg (spC (bv c i s0 k).1 (bv c i s0 k).2)]
abbrev bPl(c:Cnt)(i:Int):AV:= .aptr [[plA c i]] 0 0
theorem dT(c:Cnt)(i:Int):Closed (bPl c i):=bC (ac (dC c i) ag)
theorem tk(f:Nat)(c:Cnt)(i:Int)(s0:Sp)(K:Nat)(h:pF f c i 0=some s0)(hok:∀k,k< K→nI c (bv c i s0 k)):GSpecB Tryz.prog 240 [bPl c i] (closT c i s0) K:=by
 refine GSpecB.enter Tryz.func240 rfl (by kernel_rfl) rfl rfl rfl ?_ ?_ rfl ?_;exact ac (dT c i) ag;intro k xs h;cases h;exact ac (bJ _ _) ag;intro ll N hN E;refine GWp.seq ?_;refine GWp.lift ?_;refine r_m 4 ?_;refine c_s (fs_span f c i 0 s0 h) ?_;refine a_z ?_;refine GWp.block ?_;refine GWp.loopS (fun k:Nat=>⟨[(0,.v (.func (.yield ll) #[] #[])),(1,bPl c i),(3,.lptr 1 0 0)],[(1,some ⟨40,6,[spC (bv c i s0 k).1 (bv c i s0 k).2]⟩)],2,25⟩) (fun k=>k) (fun k=>N+1- k) (fun k=>k≤N) 0 (Nat.zero_le _) rfl ?_ ?_;have:=dT c i;exact s_f [(1,3)];intro k o;refine GWp.seq ?_;refine GWp.seq ?_;refine GWp.regY (fr2:=[(0,.v (.func (.yield ll) #[] #[])),(1,bPl c i),(3,.lptr 1 0 0),(7,.v (.func (.yield ll) #[] #[])),(8,.agg (spC (bv c i s0 k).1 (bv c i s0 k).2))]) (hp2:=[(1,some ⟨40,6,[spC (bv c i s0 k).1 (bv c i s0 k).2]⟩)]) (nx2:=2) 2 rfl rfl rfl rfl rfl rfl ?_ rfl rfl rfl ?_ ?_ ?_;refine o_0 (.move rfl) ?_;refine ci (.load_l rfl rfl rfl TG.h TS.h (nle rfl)) rfl rfl ?_;refine au ?_;exact s_y [] (fun hs=>eA) (fun hs=>kX);rotate_left 2;intro m;refine au ?_;rotate_left;rfl;exact ac (bJ _ _) ag;cases m with
 |false=>
  refine GWp.cond rfl (fun h=>?_) (fun h=>?_);cases h;exact GWp.exit ⟨.inl rfl,fun h=>by cases h⟩
 |true=>
  refine GWp.bound fun b=>?_;refine GWp.cond rfl (fun h=>?_) (fun h=>?_);rotate_left;cases h;refine GWp.skip ?_;have n:=hok k (by omega);obtain⟨hs,hb⟩:=n;have a:bv c i s0 (k+1)=x7 c i (bv c i s0 k):=rfl;obtain⟨s,g⟩:∃s,s=bv c i s0 k:=⟨_,rfl⟩;rw[←g] at hs hb a⊢;refine GWp.lift ?_;refine am (r_c 4 (DO s.1 s.2 hs.1 hs.2) ?_);refine a_z ?_;refine r_c 3 (zN c i (jh s) hb) ?_;refine au ?_;refine am (r_z 2 ?_);refine aq rfl (fun h1=>?_) (fun h1=>?_);have e:plC c i (jh s)=0:=by simpa using h1
  have d:bv c i s0 (k+1)=(jh s,jh s):=by rw[a];unfold x7;rw[if_pos e]
  refine r_m 3 ?_;refine c_s (BK (jh s)) ?_;refine a_z ?_;refine⟨rfl,k+1,by omega,b,rfl,?_⟩;simp only[d];have:=dT c i;exact s_f [];have e:¬plC c i (jh s)=0:=by simpa using h1
  refine r_z 2 ?_;refine aq rfl (fun j=>?_) (fun j=>?_);have l:plC c i (jh s)=1:=by simpa using j
  have d:bv c i s0 (k+1)=(jh s,s.2):=by rw[a];unfold x7;rw[if_neg e,if_pos l]
  refine r_m 3 ?_;refine a_z ?_;refine⟨rfl,k+1,by omega,b,rfl,?_⟩;simp only[d];have:=dT c i;exact s_f [];have l:¬plC c i (jh s)=1:=by simpa using j
  have d:bv c i s0 (k+1)=(s.1,jh s):=by rw[a];unfold x7;rw[if_neg e,if_neg l]
  refine r_m 3 ?_;refine a_z ?_;refine⟨rfl,k+1,by omega,b,rfl,?_⟩;simp only[d];have:=dT c i;exact s_f []
theorem tv(c:Cnt)(i:Int):FS 207 [plA c i] (.clos 240 [] [bPl c i]):=by
 refine f_n Tryz.func207 ?_ ?_;exact ac (dC c i) ag;refine r_z 2 ?_;refine r_z 2 ?_;refine ak (⟨.inr rfl,[_],⟨_,[],rfl,rfl,rfl⟩,?_⟩);exact Cv.clos aw (ai (Cv.boxp ay rfl (fun _ _ h=>by cases h) rfl (ac (dC c i) ag)) aw)
def mQ(t:Nat→Option Bool):Nat→Nat→Option Nat
 |0,_=>none
 |f+1,k=>match t k with
  |some true=>some k
  |some false=>mQ t f (k+1)
  |none=>none
theorem lf{t:Nat→Option Bool}:∀{f k0 k:Nat},mQ t f k0=some k→t k=some true∧k0≤k∧∀j,k0≤j→j< k→t j=some false
 |0,_,_,h=>by cases h
 |f+1,k0,k,h=>by
  rw[mQ] at h;split at h;cases h;exact⟨by assumption,Nat.le_refl _,fun j h1 b=>by omega⟩;obtain⟨h1,b,d⟩:=lf h;refine⟨h1,by omega,fun j c a=>?_⟩;by_cases e:j=k0;rw[e];assumption;exact d j (by omega) a;cases h
def kS(c:Cnt)(i:Int)(s:Sp):Option Bool:=if pa c s.1∧qW c s.2∧nI c s∧ -4611686018427387904≤i∧i≤4611686018427387904 then some (decide (aZ c s.1=i∧bZ c s.2=i+1)) else none
def alS(c:Cnt)(i:Int):Nat→AState
 |k=>⟨[(1,bPl c i),(2,.lptr 1 0 0),(3,.lptr 2 0 0),(6,.clos 240 [] [bPl c i])],[(1,some ⟨40,6,[zC++zC]⟩),(2,some ⟨40,6,[zC++zC]⟩)],3,37⟩
def alX(s:Sp):Unit→AState
 |u=>⟨[(2,.lptr 1 0 0),(3,.lptr 2 0 0)],[(1,some ⟨40,6,[zC++zC]⟩),(2,some ⟨40,6,[spC s.1 s.2]⟩)],3,37⟩
theorem IJ(f g:Nat)(c:Cnt)(i:Int)(s0:Sp)(kk:Nat)(h:pF f c i 0=some s0)(hk:mQ (fun k=>kS c i (bv c i s0 k)) g 0=some kk):FS 268 [plA c i] (.agg (spC (bv c i s0 kk).1 (bv c i s0 kk).2)):=by
 obtain⟨h1,_,A⟩:=lf hk
 have d:∀k,k≤kk→pa c (bv c i s0 k).1∧qW c (bv c i s0 k).2∧nI c (bv c i s0 k)∧ -4611686018427387904≤i∧i≤4611686018427387904:=fun k hk=>by
  have:∃b,kS c i (bv c i s0 k)=some b:=by
   by_cases e:k=kk;rw[e];exact⟨_,h1⟩;exact⟨_,A k (Nat.zero_le _) (by omega)⟩
  obtain⟨b,hb⟩:=this;unfold kS at hb;split at hb;assumption;cases hb
 have x:=tk f c i s0 kk h (fun k hk=>(d k (by omega)).2.2.1);refine f_n Tryz.func268 ?_ ?_;exact ac (dC c i) ag;refine r_z 2 ?_;refine r_z 1 ?_;refine AWp.ent (st':=⟨[(1,bPl c i),(2,.lptr 1 0 0),(3,.lptr 2 0 0)],[(1,some ⟨40,6,[zC++zC]⟩),(2,some ⟨40,6,[zC++zC]⟩)],3,37⟩) ?_ ?_;have:=(ac (dC c i) ag);exact s_f [(1,2),(2,3)];refine ae (r_c 2 (tv c i) ?_);refine au ?_;refine aH (alX (bv c i s0 kk)) (fun _=>True) ?_ ?_;refine am (AWp.rangeFuncB (α:=Nat) (γ:=Unit) kk (alS c i) (fun k=>k) (fun k=>k≤kk) (alX (bv c i s0 kk)) (fun e _=>e= .exit 0) 0 rfl x rfl rfl ?_ (fun _=>⟨rfl,rfl⟩) (fun _=>rfl) (Nat.zero_le _) rfl (fun _ h=>h) ?_ ?_ ?_ ?_ ?_);intro k xs j;cases j;rfl;rw[alS.eq_1];have:=dT c i;exact s_t [];exact ac (dT c i) ag;intro l k xs hk j;cases j;have z:=d k hk;obtain⟨s,a⟩:∃s,s=bv c i s0 k:=⟨_,rfl⟩;rw[←a] at z⊢;obtain⟨m,p,t,w,v⟩:=z;show AWp _ _ _ _ ⟨[(7,.agg (spC s.1 s.2)),(1,bPl c i),(2,.lptr 1 0 0),(3,.lptr 2 0 0),(6,.clos 240 [] [bPl c i]),(1001,bPl c i),(1002,.lptr 1 0 0),(1003,.lptr 2 0 0),(1006,.clos 240 [] [bPl c i])],[(1,some ⟨40,6,[zC++zC]⟩),(2,some ⟨40,6,[zC++zC]⟩)],3,37⟩;refine r_m 2 ?_;refine a_z ?_;refine am ?_;by_cases hb:aZ c s.1=i;refine ae (r_d ba 27 ?_);refine c_s (lX c s.1 m) ?_;refine a_6 ?_;refine y_g rfl (by simp[hb]) (.load_a1 rfl rfl TG.h rfl) ?_;refine y_g rfl (by simp[hb]) (.nilCheck rfl rfl) ?_;refine y_g rfl (by simp[hb]) (.fieldAddr_a rfl TF.h (by decide)) ?_;refine y_g rfl (by simp[hb]) (.load_a1 rfl rfl TG.h rfl) ?_
 refine y_g rfl (by simp[hb]) (.fieldAddr_l rfl TF.h (by decide)) ?_;refine y_g rfl (by simp[hb]) (.load_l rfl rfl rfl TG.h TS.h (nle rfl)) ?_;refine y_g rfl (by simp[hb]) (.call rfl rfl rfl (oH c s.2 p)) ?_;refine y_g rfl (by simp[hb]) (.load_a1 rfl rfl TG.h rfl) ?_;refine y_g rfl (by simp[hb]) (.nilCheck rfl rfl) ?_;refine y_g rfl (by simp[hb]) (.fieldAddr_a rfl TF.h (by decide)) ?_;refine y_g rfl (by simp[hb]) (.load_a1 rfl rfl TG.h rfl) ?_;refine y_g rfl (by simp[hb]) (.bin rfl rfl (Cz (by omega))) ?_;refine y_g rfl (by simp[hb]) (.bin rfl rfl db) ?_;refine o_0 (.pickT rfl (by simp[hb]) rfl) ?_;refine au (n_k ?_);refine aq rfl (fun y=>?_) (fun y=>?_);have q:bZ c s.2=i+1:=by simpa using y
 have n:k=kk:=by
  refine Nat.le_antisymm hk (Nat.le_of_not_lt fun r=>?_);have o:=A k (Nat.zero_le _) r;rw[←a] at o;unfold kS at o;rw[if_pos ⟨m,p,t,w,v⟩] at o;simp[hb,q] at o
 subst n;refine r_z 2 ?_;refine aA (⟨rfl,(),rfl,?_⟩);rw[←a];show SEntT _ ⟨[(1002,.lptr 1 0 0),(1003,.lptr 2 0 0)],[(1,some ⟨40,6,[zC++zC]⟩),(2,some ⟨40,6,[spC s.1 s.2]⟩)],3,37⟩;exact s_y [] (fun hs=>eA) (fun hs=>kX);have q:¬bZ c s.2=i+1:=by simpa using y
 have n:k< kk:=by
  refine Nat.lt_of_le_of_ne hk fun e=>?_;subst e;rw[←a] at h1;unfold kS at h1;rw[if_pos ⟨m,p,t,w,v⟩] at h1;simp[q] at h1
 refine an (⟨k+1,⟨n,rfl⟩,?_⟩);show SEntT _ ⟨[(1001,bPl c i),(1002,.lptr 1 0 0),(1003,.lptr 2 0 0),(1006,.clos 240 [] [bPl c i])],[(1,some ⟨40,6,[zC++zC]⟩),(2,some ⟨40,6,[zC++zC]⟩)],3,37⟩;exact s_y [] (fun hs=>eA) (fun hs=>kX);refine ae (r_d ba 27 ?_);refine c_s (lX c s.1 m) ?_;refine a_6 ?_;refine n_g rfl (by simp[hb]) ?_;refine n_g rfl (by simp[hb]) ?_;refine n_g rfl (by simp[hb]) ?_;refine n_g rfl (by simp[hb]) ?_;refine n_g rfl (by simp[hb]) ?_;refine n_g rfl (by simp[hb]) ?_;refine n_g rfl (by simp[hb]) ?_;refine n_g rfl (by simp[hb]) ?_;refine n_g rfl (by simp[hb]) ?_;refine n_g rfl (by simp[hb]) ?_;refine n_g rfl (by simp[hb]) ?_;refine n_g rfl (by simp[hb]) ?_;refine n_g rfl (by simp[hb]) ?_;refine o_0 (.pickF rfl (by simp[hb]) rfl) ?_;refine au (n_k ?_);refine cF ?_
 have n:k< kk:=by
  refine Nat.lt_of_le_of_ne hk fun e=>?_;subst e;rw[←a] at h1;unfold kS at h1;rw[if_pos ⟨m,p,t,w,v⟩] at h1;simp[hb] at h1
 refine an (⟨k+1,⟨n,rfl⟩,?_⟩);show SEntT _ ⟨[(1001,bPl c i),(1002,.lptr 1 0 0),(1003,.lptr 2 0 0),(1006,.clos 240 [] [bPl c i])],[(1,some ⟨40,6,[zC++zC]⟩),(2,some ⟨40,6,[zC++zC]⟩)],3,37⟩;exact s_y [] (fun hs=>eA) (fun hs=>kX);intro k hk j;cases j;rintro e u rfl;exact⟨u,trivial,SEnt.refl _⟩;rintro u _;rw[alX.eq_1];refine r_z 2 ?_;exact ak (c_e (bJ _ _))
def AC(f g:Nat)(c:Cnt)(i:Int):Option Sp:=(pF f c i 0).bind fun s0=>(mQ (fun k=>kS c i (bv c i s0 k)) g 0).map (bv c i s0)
theorem Gm(f g:Nat)(c:Cnt)(i:Int)(s:Sp)(h:AC f g c i=some s):FS 268 [plA c i] (.agg (spC s.1 s.2)):=by
 obtain⟨d,h1,a⟩:=Option.bind_eq_some_iff.1 h;obtain⟨k,b,rfl⟩:=Option.map_eq_some_iff.1 a;exact IJ f g c i d k h1 b
def qG(f g:Nat)(c:Cnt)(i:Int)(q:List Rat):Option Bool:=
 if c.p.length≤274877906944∧q.length≤274877906944 then(qf f c.p q).bind fun d=>
  if d.length≤274877906944 then
   if cQ d< 1 then some false
   else(gx f d).bind fun c2=>(AC f g c i).bind fun s=>if qW c2 s.2∧pa c2 s.1 then some (decide (aZ c2 s.1< bZ c2 s.2)) else none
  else none
 else none
theorem Gf(f g:Nat)(c:Cnt)(i:Int)(q:List Rat)(r:Bool)(h:qG f g c i q=some r)(hf:f≤1000000):FS 248 [plA c i,.arr (pE q)] (bln r):=by
 unfold qG at h;split at h
 case isFalse=>cases h
 case isTrue hl=>
 obtain⟨d,m,a⟩:=Option.bind_eq_some_iff.1 h;split at a
 case isFalse=>cases a
 case isTrue hdl=>
 refine f_n Tryz.func248 ?_ ?_;exact ac (dC c i) (ac (aC q) ag);refine r_z 1 ?_;refine r_c 10 (IN f c.p q d m hl.1 hl.2) ?_;refine a_z ?_;refine ae (r_c 3 (eE d (by omega)) ?_);refine a_z ?_;refine aq rfl (fun k=>?_) (fun k=>?_);have l:cQ d< 1:=by simpa using k
 rw[if_pos l] at a;cases a;refine r_z 1 ?_;exact ak (t_e (ah _))
 ·have l:¬cQ d< 1:=by simpa using k
  rw[if_neg l] at a;obtain⟨j,b,n⟩:=Option.bind_eq_some_iff.1 a;obtain⟨s,hs,e⟩:=Option.bind_eq_some_iff.1 n;split at e
  case isFalse=>cases e
  case isTrue hk=>
  cases e;refine an (r_c 7 (tu f d j b hf) ?_);refine c_s (Gm f g c i s hs) ?_;refine a_z ?_;refine ae (r_d ba 10 ?_);refine c_s (oH j s.2 hk.1) ?_;refine c_s (lX j s.1 hk.2) ?_;refine a_2 ?_;refine au (n_k ?_);exact ak (t_e (ah _))
def qF(c:Cnt)(i:Int)(c2:Cnt)(s:Sp):Option Bool:=if qW c2 s.2∧pa c2 s.1∧nI c s then some (decide (bZ c2 s.2=aZ c2 s.1)) else none
def xN(f g:Nat)(c:Cnt)(i:Int)(q:List Rat):Option Int:=
 if q.length≤274877906944 then
  if cQ q< 0 then some 0
  else(qG f g c i q).bind fun b=>if b then some 0 else(gx f q).bind fun c2=>(pF f c i 0).bind fun s0=>
   (mQ (fun k=>qF c i c2 (bv c i s0 k)) g 0).bind fun k=>if fe q (bv c i s0 k).2 then some (sgZ (af q (bv c i s0 k).2).num) else none
 else none
def pgS(c:Cnt)(i:Int)(q:List Rat)(c2:Cnt):Nat→AState
 |k=>⟨[(0,plA c i),(3,bP q),(4,.lptr 1 0 0),(5,.aptr [[kA c2]] 0 0),(18,.clos 240 [] [bPl c i])],[(1,some ⟨3,1,[[i64 0]]⟩)],2,34⟩
def pgX(r:Int):Unit→AState
 |u=>⟨[(4,.lptr 1 0 0)],[(1,some ⟨3,1,[[i64 r]]⟩)],2,34⟩
theorem wQ(c:Cnt):Closed (.aptr [[kA c]] 0 0):=bC (ac (iH c) ag)
theorem fs_sign(f g:Nat)(c:Cnt)(i:Int)(q:List Rat)(r:Int)(h:xN f g c i q=some r)(hf:f≤1000000):FS 209 [plA c i,.arr (pE q)] (i64 r):=by
 unfold xN at h;split at h
 case isFalse=>cases h
 case isTrue hl=>
 refine f_n Tryz.func209 ?_ ?_;exact ac (dC c i) (ac (aC q) ag);refine r_z 2 ?_;refine AWp.ent (st':=⟨[(0,plA c i),(3,bP q),(4,.lptr 1 0 0)],[(1,some ⟨3,1,[[i64 0]]⟩)],2,34⟩) ?_ ?_;exact s_f [(1,4)];by_cases hd:cQ q< 0;rw[if_pos hd] at h;cases h;refine ae (r_c 8 (eE q (by omega)) ?_);refine a_2 ?_;refine n_g rfl (by simp[hd]) ?_;refine n_g rfl (by simp[hd]) ?_;refine n_g rfl (by simp[hd]) ?_;refine o_0 (.pickT rfl (by simp[hd]) rfl) ?_;refine au ?_;refine aq rfl (fun h1=>?_) (fun h1=>?_);refine r_z 1 ?_;exact ak (Fin.cell1E rfl rfl rfl TG.h rfl rfl (ah _));cases h1;rw[if_neg hd] at h;obtain⟨b,hb,w⟩:=Option.bind_eq_some_iff.1 h;refine ae (r_c 8 (eE q (by omega)) ?_);refine a_2 ?_;refine y_g rfl (by simp[hd]) (.move rfl) ?_;refine y_g rfl (by simp[hd]) (.load_a1 rfl rfl TG.h rfl) ?_;refine y_g rfl (by simp[hd]) (.call rfl rfl rfl (Gf f g c i q b hb hf)) ?_;refine o_0 (.pickF rfl (by simp[hd]) rfl) ?_;refine au ?_;refine aq rfl (fun h1=>?_) (fun h1=>?_);have n:b=true:=h1;subst n;rw[if_pos rfl] at w;cases w;refine r_z 1 ?_;exact ak (Fin.cell1E rfl rfl rfl TG.h rfl rfl (ah _));have n:b=false:=h1;subst n;rw[if_neg (show¬false=true by decide)] at w;obtain⟨a,A,M⟩:=Option.bind_eq_some_iff.1 w;obtain⟨m,C,N⟩:=Option.bind_eq_some_iff.1 M;obtain⟨j,H,F⟩:=Option.bind_eq_some_iff.1 N;split at F
 case isFalse=>cases F
 case isTrue hev=>
 cases F;obtain⟨t1,_,t2⟩:=lf H
 have p:∀k,k≤j→qW a (bv c i m k).2∧pa a (bv c i m k).1∧nI c (bv c i m k):=fun k o=>by
  have:∃b,qF c i a (bv c i m k)=some b:=by
   by_cases e:k=j;rw[e];exact⟨_,t1⟩;exact⟨_,t2 k (Nat.zero_le _) (by omega)⟩
  obtain⟨b,hb⟩:=this;unfold qF at hb;split at hb;assumption;cases hb
 have G:=tk f c i m j C (fun k o=>(p k (by omega)).2.2);obtain⟨r,E⟩:∃r,r=sgZ (af q (bv c i m j).2).num:=⟨_,rfl⟩;rw[←E];refine an (r_c 4 (tu f q a A hf) ?_);refine a_z ?_;refine AWp.ent (st':=⟨[(0,plA c i),(3,bP q),(4,.lptr 1 0 0),(5,.aptr [[kA a]] 0 0)],[(1,some ⟨3,1,[[i64 0]]⟩)],2,34⟩) ?_ ?_;have:=(ac (iH a) ag);exact s_f [];refine ae (r_c 2 (tv c i) ?_);refine au ?_;refine aH (pgX r) (fun _=>False) ?_ (fun _ h=>h.elim);refine am (AWp.rangeFuncB (α:=Nat) (γ:=Unit) j (pgS c i q a) (fun k=>k) (fun k=>k≤j) (pgX r) (fun e _=>e= .ret) 0 rfl G rfl rfl ?_ (fun _=>⟨rfl,rfl⟩) (fun _=>rfl) (Nat.zero_le _) rfl (fun _ h=>h) ?_ ?_ ?_ ?_ ?_);intro k xs t;cases t;rfl;rw[pgS.eq_1];have:=wQ a;exact s_t [];exact ac (dT c i) ag;intro l k xs o t;cases t;have K:=p k o;obtain⟨s,d⟩:∃s,s=bv c i m k:=⟨_,rfl⟩;rw[←d] at K⊢;obtain⟨B,J,L⟩:=K;show AWp _ _ _ _ ⟨[(19,.agg (spC s.1 s.2)),(0,plA c i),(3,bP q),(4,.lptr 1 0 0),(5,.aptr [[kA a]] 0 0),(18,.clos 240 [] [bPl c i]),(1000,plA c i),(1003,bP q),(1004,.lptr 1 0 0),(1005,.aptr [[kA a]] 0 0),(1018,.clos 240 [] [bPl c i])],[(1,some ⟨3,1,[[i64 0]]⟩)],2,34⟩;refine r_m 2 ?_;refine a_z ?_;refine am (ae (r_d ba 9 ?_));refine c_s (oH a s.2 B) ?_;refine c_s (lX a s.1 J) ?_;refine a_1 ?_;refine au (n_k ?_);refine aq rfl (fun x=>?_) (fun x=>?_);have z:bZ a s.2=aZ a s.1:=by simpa using x
 have D:k=j:=by
  refine Nat.le_antisymm o (Nat.le_of_not_lt fun y=>?_);have v:=t2 k (Nat.zero_le _) y;rw[←d] at v;unfold qF at v;rw[if_pos ⟨B,J,L⟩] at v;simp[z] at v
 subst D;rw[←d] at hev E;refine r_c 6 (j8 q s.2 hev) ?_;refine c_s (cx (af q s.2)) ?_;refine a_z ?_;refine ak (⟨rfl,(),rfl,?_⟩);rw[E];show SEntT _ ⟨[(1004,.lptr 1 0 0)],[(1,some ⟨3,1,[[i64 (sgZ (af q s.2).num)]]⟩)],2,34⟩;exact s_t [];have z:¬bZ a s.2=aZ a s.1:=by simpa using x
 have D:k< j:=by
  refine Nat.lt_of_le_of_ne o fun e=>?_;subst e;rw[←d] at t1;unfold qF at t1;rw[if_pos ⟨B,J,L⟩] at t1;simp[z] at t1
 refine an (⟨k+1,⟨D,rfl⟩,?_⟩);show SEntT _ ⟨[(1000,plA c i),(1003,bP q),(1004,.lptr 1 0 0),(1005,.aptr [[kA a]] 0 0),(1018,.clos 240 [] [bPl c i])],[(1,some ⟨3,1,[[i64 0]]⟩)],2,34⟩;have:=wQ a;exact s_t [];intro k o t;cases t;rintro e u rfl;exact Fin.cell1E rfl rfl rfl TG.h rfl rfl (ah _)
end Go.Proofs.YtkhclghbcicapaaGreatDoor
