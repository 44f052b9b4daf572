/- Part W26 of the proof. -/
import Derived.Test.YtjmkjicckobojaaGreatDoorW25
set_option linter.all false
namespace Go.Proofs.YtjmkjicckobojaaGreatDoor
open Go.Abs
set_option maxRecDepth 20000
set_option maxHeartbeats 2000000
theorem xW(f:Nat)(p r:Lq)(h:lT f p=some r):FS 219 [.arr (pE p)] (.arr (pE r)):=by
 unfold lT at h;split at h
 case isFalse=>cases h
 case isTrue hs=>
 obtain⟨g,c,a⟩:=Option.bind_eq_some_iff.1 h;split at a
 case isFalse=>cases a
 case isTrue hg2=>
 cases a;have d:=iz p;have b:=oq (p:=p) (q:=g);refine f_c Tryz.func219 ?_;refine r_z 1 ?_;refine r_c 11 (tG p hs.1 ω) ?_;refine c_s (KF f p (aV p) g c hs.2 ω) ?_;refine c_s (tD p g (mxL p) (mxL g) (fx p) (fx g) (fh p) (fh g) hg2.2.1 hg2.1 hs.2 hg2.2.2.2) ?_;refine a_z ?_;refine r_c 3 (wQ (cu p g).1 (AS hg2.2 hg2.1).1 ω) ?_;refine a_z ?_;exact ai (t_e (aD _))
theorem Kq(p:Lq)(hp:p.length<=1099511627776):FS 141 [.arr (pE p)] (i64 (mU p)):=by
 refine f_c Tryz.func141 ?_;refine r_z 1 ?_;refine ac (r_c 3 (em p hp) ?_);refine a_z ?_;refine aC (λ_:Unit=>⟨[],[],1,12⟩) (λ_=>mU p=0) ?_ ?_;refine ah (r_z 3 ?_);refine ar rfl (λh=>?_) (λh=>?_);have a:dt p< 0:=by simpa using h
 refine r_z 1 ?_;refine ai (aS rfl ?_ ?_);unfold mU;rw[if_pos a];rfl;exact ak _;have a:¬dt p< 0:=by simpa using h
 refine r_z 3 ?_;refine ar rfl (λb=>?_) (λb=>?_);have c:40< dt p:=by simpa using b
 refine r_z 1 ?_;refine ai (aS rfl ?_ ?_);unfold mU;rw[if_neg a,if_pos c];rfl;exact ak _;have c:¬40< dt p:=by simpa using b
 refine aj ⟨(),by unfold mU;rw[if_neg a,if_neg c],?_⟩;exact s_e [];rintro _ d;refine r_z 1 ?_;refine ai (aS rfl ?_ ?_);rw[d];rfl;exact ak _
def boS(t:Lq)(l:Lq):Nat×Rat->AState
 |(i,m)=>⟨[(0,.arr (pE t)),(2,.lptr 1 0 0),(3,.lptr 2 0 0),(13,.arr (pE l)),(14,i64 l.length),(15,i64 i)],[(1,some ⟨42,3,[zC]⟩),(2,some ⟨42,3,[qC m]⟩)],3,31⟩
theorem Cb(p:Lq)(h:re p)(h0:ap p≠[]):FS 140 [.arr (pE p)] (.agg (qC (a7 p))):=by
 obtain⟨G,F⟩:=h;obtain⟨t,f⟩:∃t,t=ap p:=⟨_,rfl⟩;have o:=dK p ω;have w:=bh p;rw[<-f] at o w;obtain⟨l,s⟩:∃l,l=t.take (t.length- 1):=⟨_,rfl⟩;have a:l.length=t.length- 1:=by rw[s];simp
 have v:bdL l (mxL p):=λq y=>fx p q (cz (by rw[<-f];exact List.mem_of_mem_take (by rw[<-s];exact y)));have D:0< t.length:=by rw[f];exact List.length_pos_iff.2 h0
 have e:aI t=aI p:=by rw[f,pN]
 have L:qs (aI p)<=mxL p:=by
  obtain⟨n,K⟩:∃n,(ap p).length=n+1:=⟨(ap p).length- 1,by rw[<-f];omega⟩;exact fx p _ (cz (List.mem_of_getElem? (dj K)))
 have hb:a7 p=boL (aI p) l 0+1:=by unfold a7;rw[<-f,<-s]
 rw[hb];obtain⟨B,E⟩:∃B,B=boL (aI p) l 0:=⟨_,rfl⟩;rw[<-E];refine f_c Tryz.func140 ?_;refine r_z 1 ?_;refine r_c 3 (o) ?_;refine a_z ?_;refine r_z 3 ?_;refine ac (s_r 7 ?_);refine a_4 ?_;refine o_0 (.sa_h rfl rfl (h:=t.length- 1) ω ψ te_62.h (mN _)) ?_;refine a_z ?_;refine aC (λ_:Unit=>⟨[(2,.lptr 1 0 0),(3,.lptr 2 0 0)],[(1,some ⟨42,3,[zC]⟩),(2,some ⟨42,3,[qC B]⟩)],3,31⟩) (λ_=>qs B<=2* mxL p+1) ?_ ?_;refine ah (ay (boS t l) (λx=>l.length- x.1) (λx=>x.1<=l.length/\qs x.2<=2* mxL p+1/\boL (aI p) (l.drop x.1) x.2=B) (0,0) ⟨Nat.zero_le _,Nat.le_trans (by decide:qs 0<=1) (Nat.le_add_left 1 _),by rw[E];rfl⟩ ?_ ?_);simp only[boS.eq_1];rw[qC0];have d:AV.arr (List.take (t.length- 1) (pE t))=AV.arr (pE l):=by rw[s,uU]
 refine s_x [(1,2),(2,3)] (λhs=>?_) (λhs=>?_) ?_
 ·repeat' (first|exact aL|refine az rfl ?_ ?_|exact Cv.loE hs d (d▸aD l)|exact aW|(refine Cv.loE hs ?_ (ak _);first|rfl|(simp[i64,u64,u32,bln,a];done)|(simp[i64,u64,u32,bln,a]<;> omega)))
 ·repeat' (first|exact aB|refine h_c ?_ ?_|exact bG|(refine aJ hs ?_ (aQ _);first|(simp[mM,lZ,a];done)|(simp[pE,ofV,a];done))|refine aA ?_|exact av|refine am ?_ ?_|exact Cv.loE hs d (d▸aD l)|exact aW|(refine Cv.loE hs ?_ (ak _);first|(simp[i64,u64,u32,bln,a];done)|(simp[i64,u64,u32,bln,a]<;> omega)))
 ·repeat' (first|exact ShrL.nil|refine ShrL.cons rfl rfl rfl rfl (by first|rfl|(simp;done)|(simp[a]<;> omega)) ?_)
 rintro⟨i,m⟩ ⟨J,C,b⟩;simp only at J C b;rw[boS.eq_1];refine r_z 1 ?_;refine ac (ar rfl (λh=>?_) (λh=>?_));refine aj ?_;have c:i< l.length:=by simpa using h
 have j:(pE l)[((i:Nat):Int).toNat]?=some (qC (coP l i)):=pE_get (ci c);have hc:qs (coP l i)<=mxL p:=v _ (List.mem_of_getElem? (ci c));rw[o8 c] at b;have y:=fL (coP l i) (aI p);have r:=vg t ω;rw[e] at r;have H:=we (coP l i/ aI p)
 have g:bdL [m,eH (coP l i/ aI p)] (2* mxL p+1):=by
  intro x A;rcases List.mem_cons.1 A with rfl|A
  exact C;rw[List.mem_singleton.1 A];omega
 have z:=Ax [m,eH (coP l i/ aI p)] (io g ω) ψ;refine ac (ah (s_r 4 ?_));refine i_x j ?_;refine l_x j ?_;refine a_z ?_;refine r_d aX 9 ?_;refine c_s (r) ?_;refine c_s (iT (coP l i) (aI p) (dd h0) ω) ?_;refine c_s (tF (coP l i/ aI p)) ?_;refine a_1 ?_;refine o_1 (.callS1 rfl rfl rfl (.shut rfl d_n (.nil)) rfl (z)) ?_;refine a_1 ?_;refine aq (n_k ?_);refine r_m 2 ?_;refine a_z ?_;refine⟨(i+1,gQ [m,eH (coP l i/ aI p)]),by simp only;omega,⟨c,Af g (Nat.le_add_left 1 _),b⟩,?_⟩;simp only[boS.eq_1];exact s_e []
 have u:i=l.length:=by
  have:¬i< l.length:=by simpa using h
  omega
 subst u;rw[List.drop_length] at b;have k:m=B:=b;subst k;refine ax ⟨(),C,?_⟩;exact s_e [];rintro _ y;have M:qs 1=1:=δ
 refine ac (r_d aX 4 ?_);refine c_s (eD 1 δ) ?_;refine c_s (fD B 1 ω) ?_;refine a_1 ?_;refine aq (n_k ?_);exact ai (c_e (aP _))
def stS:Lq×Lw->AState
 |(next,acc)=>⟨[(3,.lsl 1 0 acc.length none 1),(4,.arr (pE next))],[(1,some ⟨62,1,cE acc⟩)],2,40⟩
theorem Du(next:Lq)(acc:Lw):stS (next,acc)=⟨[(3,.lsl 1 0 acc.length none 1),(4,.arr (pE next))],[(1,some ⟨62,1,cE acc⟩)],2,40⟩:=rfl
theorem HD(p:Lq):(bU p).length<=p.length:=
 Nat.le_trans (dW _ _) (bh p)
theorem Kh(f:Nat)(p:Lq)(r:Lw)(h:kJ f p=some r)(hf:f<=1000000):FS 220 [.arr (pE p)] (.arr (cE r)):=by
 unfold kJ at h;split at h
 case isFalse=>cases h
 case isTrue hp=>
 have t:=iz p;have l:=hp.2.1.2;refine f_c Tryz.func220 ?_;refine r_z 1 ?_;refine r_c 4 (rR p hp.2.1 hp.2.2) ?_;refine a_z ?_;refine ac (r_c 3 (tG p hp.1 ω) ?_);refine a_z ?_;refine aC (λ_:Unit=>⟨[(3,.lsl 1 0 r.length none 1)],[(1,some ⟨62,1,cE r⟩)],2,40⟩) (λ_=>True) ?_ ?_
 ·refine ah (ay (λx:Nat×Lq×Lq×Lw=>stS x.2.2) (λx=>x.1) (λx=>jy f x.1 x.2.1 x.2.2.1 x.2.2.2=some r/\x.2.2.1.length<=274877906944/\x.2.2.2.length+x.1<=1000001/\1<=x.2.2.2.length/\x.2.2.2[x.2.2.2.length- 1]?=some x.2.1) (f,bU p,aV p,[bU p]) ⟨h,by simp only;omega,by simp only[List.length_singleton];omega,ψ,rfl⟩ ?_ ?_)
  simp only[Du];have:=kz [bU p];exact s_f [(1,3)];rintro⟨k,last,next,a⟩ ⟨h,u,m,d,b⟩;simp only at h u m d b;simp only[Du];cases k with
  |zero=>cases h
  |succ k=>
   rw[jy] at h;refine ac (r_c 3 (em next ω) ?_);refine a_z ?_;refine ar rfl (λg=>?_) (λg=>?_)
   ·have c:ap next≠[]:=by
     intro e;have e2:=degP_neg.2 e;simp at g;omega
    rw[if_neg c] at h;split at h
    case isFalse=>cases h
    case isTrue hs=>
    have v:=HD next
    have s:=oq (p:=last) (q:=bU next);have o:=dW (cu last (bU next)).2 (-1);have n:=hs.2.1.2.1
    have i:(cE (a++[bU next]))[0+(((a.length+1:Nat):Int)- 2).toNat]?=some [.arr (pE last)]:=by
     rw[show 0+(((a.length+1:Nat):Int)- 2).toNat=a.length- 1 by omega];exact E4 (by rw[List.getElem?_append_left ω];exact b)
    have j:(cE (a++[bU next]))[0+(((a.length+1:Nat):Int)- 1).toNat]?=some [.arr (pE (bU next))]:=by
     rw[show 0+(((a.length+1:Nat):Int)- 1).toNat=a.length by omega];exact E4 ψ
    refine aj (ah (r_c 6 (rR next hs.1 c) ?_));refine a_z ?_;refine AWp.ent (st':=⟨[(3,.lsl 1 0 (a.length+1) none 1)],[(1,some ⟨62,1,cE (a++[bU next])⟩)],2,40⟩) ?_ ?_
    ·have:=(cE_snoc a (bU next)).symm
     exact s_f [(1,3)]
    refine ac (r_d aX 18 ?_);refine a_5 ?_;refine bm (.load_l1 rfl rfl i TG.h rfl) rfl rfl ?_;refine a_5 ?_;refine bm (.load_l1 rfl rfl j TG.h rfl) rfl rfl ?_;refine c_s (tD last (bU next) (mxL last) (mxL (bU next)) (fx _) (fx _) (fh _) (fh _) hs.2.1.1 hs.2.2 hs.2.1.2.1 hs.2.1.2.2) ?_;refine a_5 ?_;refine aq (n_k ?_);refine r_m 4 ?_;refine c_s (eD (-1) δ) ?_;refine c_s (jO (cu last (bU next)).2 (-1) (AS hs.2.1 hs.2.2).2 δ ω) ?_;refine a_z ?_;refine⟨(k,bU next,aR (cu last (bU next)).2 (-1),a++[bU next]),Nat.lt_succ_self k,⟨h,by simp only;omega,by simp only[List.length_append,List.length_singleton];omega,ψ,ψ⟩,?_⟩;have b:(a++[bU next]).length=a.length+1:=ψ
    simp only[Du,b];exact s_f []
   ·have c:ap next=[]:=by
     refine degP_neg.1 ?_;simp at g;omega
    rw[if_pos c] at h;cases h;refine ax ⟨(),trivial,?_⟩;exact s_f []
 rintro _ _;refine r_z 2 ?_;exact ai (Fin.tmpS rfl rfl rfl ψ (kz r))
def chS(ch:Lw)(g:Nat)(cap:La):Nat×Int×Int->AState
 |(i,n,last)=>⟨[(1,.clos g [] cap),(5,i64 n),(6,i64 last),(10,.arr (cE ch)),(11,i64 ch.length),(12,i64 i)],[],1,30⟩
theorem wY(ch:Lw)(g:Nat)(cap:La)(sg:Lq->Int)(hcap:∀c∈cap,Closed c)(hsg:∀q∈ch,-1<=sg q/\sg q<=1)(hl:ch.length<=274877906944)(hg:∀q∈ch,FS g ((.arr (pE q)::cap).map coe) (i64 (sg q))):FS 221 [.arr (cE ch),.clos g [] cap] (i64 (chL (ch.map sg) 0 0)):=by
 refine f_n Tryz.func221 ?_ ?_;exact ae (pj ch) (ae (a6 af hcap) af);refine r_z 1 ?_;refine r_z 2 ?_;refine ac (r_z 3 ?_);obtain⟨R,w⟩:∃R,R=chL (ch.map sg) 0 0:=⟨_,rfl⟩;rw[<-w];refine aC (λ_:Unit=>⟨[(5,i64 R)],[],1,30⟩) (λ_=>True) ?_ ?_;refine ah (ay (chS ch g cap) (λx=>ch.length- x.1) (λx=>x.1<=ch.length/\0<=x.2.1/\x.2.1<=x.1/\ -1<=x.2.2/\x.2.2<=1/\chL ((ch.drop x.1).map sg) x.2.1 x.2.2=R) (0,0,0) ⟨Nat.zero_le _,δ,δ,δ,δ,by rw[w];rfl⟩ ?_ ?_);simp only[chS.eq_1];exact s_x [] (λhs=>e_6) (λhs=>e_14);rintro⟨i,n,last⟩ ⟨z,f,s,j,l,hc⟩;simp only at z f s j l hc;rw[chS.eq_1];refine r_z 1 ?_;refine ac (ar rfl (λh=>?_) (λh=>?_));refine aj ?_;have a:i< ch.length:=by simpa using h
 obtain⟨q,o⟩:∃q,ch[i]?=some q:=⟨_,List.getElem?_eq_getElem a⟩;have m:=List.mem_of_getElem? o;have k:(cE ch)[((i:Nat):Int).toNat]?=some [.arr (pE q)]:=E4 o
 have y:ch.drop i=q::ch.drop (i+1):=by
  rw[List.drop_eq_getElem_cons a];rw[List.getElem?_eq_getElem a] at o;rw[Option.some.inj o]
 rw[y,List.map_cons,chL] at hc;have b:=hsg q m;refine ac (ah (s_r 3 ?_));refine i_x k ?_;refine l_1 k ?_;refine a_z ?_;refine r_c 4 (hg q m) ?_;refine a_z ?_;refine r_z 2 ?_;refine ar rfl (λu=>?_) (λu=>?_);have d:sg q≠0:=by simpa using u
 rw[if_pos d] at hc;refine ac (r_z 4 ?_);refine ar rfl (λr=>?_) (λr=>?_);have v:sg q= -last:=by simpa using r
 rw[if_pos v] at hc;refine r_m 3 ?_;refine a_z ?_;refine r_m 2 ?_;refine a_z ?_;refine r_m 2 ?_;refine a_z ?_;refine⟨(i+1,n+1,sg q),by simp only;omega,⟨a,by simp only;omega,by simp only;omega,b.1,b.2,hc⟩,?_⟩;simp only[chS.eq_1];exact s_x [] (λhs=>e_6) (λhs=>e_14);have v:¬sg q= -last:=by simpa using r
 rw[if_neg v] at hc;refine aj (r_m 2 ?_);refine a_z ?_;refine r_m 2 ?_;refine a_z ?_;refine⟨(i+1,n,sg q),by simp only;omega,⟨a,f,by simp only;omega,b.1,b.2,hc⟩,?_⟩;simp only[chS.eq_1];exact s_x [] (λhs=>e_6) (λhs=>e_14);have d:sg q=0:=by simpa using u
 rw[if_neg (λe=>e d)] at hc;refine aj (r_m 2 ?_);refine a_z ?_;refine⟨(i+1,n,last),by simp only;omega,⟨a,f,by simp only;omega,j,l,hc⟩,?_⟩;simp only[chS.eq_1];exact s_x [] (λhs=>e_6) (λhs=>e_14)
 have p:i=ch.length:=by
  have:¬i< ch.length:=by simpa using h
  omega
 subst p;rw[List.drop_length] at hc;have t:n=R:=hc;subst t;refine ax ⟨(),trivial,?_⟩;exact s_e [];rintro _ _;refine r_z 2 ?_;exact ai (t_e (ak _))
theorem Et(q:Lq)(h0:ap q≠[])(hl:q.length<=274877906944):FS 222 [.arr (pE q)] (i64 (sgI q)):=by
 have b:¬dt q< 0:=λe=>h0 (degP_neg.1 e);have hb:=oI (aI q).num;refine f_c Tryz.func222 ?_;refine r_z 1 ?_;refine ac (r_c 4 (em q ω) ?_);refine a_z ?_;refine ar rfl (λh=>?_) (λh=>?_);have a:dt q % 2=1:=by simpa using h
 refine r_c 5 (vg q ω) ?_;refine c_s (c6 (aI q)) ?_;refine a_z ?_;refine ai (aS rfl ?_ ?_);unfold sgI;rw[if_pos a];rfl;exact ak _;have a:¬dt q % 2=1:=by simpa using h
 refine aj (r_c 4 (vg q ω) ?_);refine c_s (c6 (aI q)) ?_;refine a_z ?_;refine ai (aS rfl ?_ ?_);unfold sgI;rw[if_neg a];exact ak _
theorem o4(f:Nat)(p:Lq)(c:Cnt)(h:dM f p=some c)(hf:f<=1000000):FS 142 [.arr (pE p)] (kA c):=by
 unfold dM at h;obtain⟨s,hs,g⟩:=Option.bind_eq_some_iff.1 h;obtain⟨ch,d,a⟩:=Option.bind_eq_some_iff.1 g;split at a
 case isFalse=>cases a
 case isTrue hk=>
 cases a;have b:=wY ch 222 [] sgI af (λq _=>sgI_abs q) hk.2.1 (λq e=>Et q (hk.1 q e).1 (hk.1 q e).2);refine f_c Tryz.func142 ?_;refine r_z 1 ?_;refine r_c 5 (xW f p s hs) ?_;refine a_z ?_;refine r_c 9 (Kh f s ch d hf) ?_;refine a_z ?_;refine r_c 9 (b) ?_;refine a_z ?_;refine r_z 2 ?_;exact ai (Fin.tmpP rfl rfl rfl (y8 _))
theorem Kd(q:Lq)(x:Rat)(h:fM q x):FS 223 [.arr (pE q),bQ x] (i64 (sgE x q)):=by
 refine f_c Tryz.func223 ?_;refine r_z 1 ?_;refine r_c 5 (jF q x h) ?_;refine c_s (c6 (an q x)) ?_;refine a_z ?_;exact ai (t_e (ak _))
theorem mX(c:Cnt)(x:Rat)(h:uL c x):FS 144 [kA c,.agg (qC x)] (i64 (cX c x)):=by
 have a:=wY c.ch 223 [bQ x] (sgE x) (ae (cL x) af) (λq _=>oI _) h.1.2.1 (λq b=>Kd q x (h.2 q b));have hb:=lR (x:=x) h.1;unfold cX at hb⊢;refine f_c Tryz.func144 ?_;refine r_z 2 ?_;refine AWp.ent (st':=⟨[(0,kA c),(3,bQ x)],[],1,16⟩) ?_ ?_;exact s_e [];refine ac (r_d aX 12 ?_);refine c_s (a) ?_;refine a_2 ?_;refine aq (n_k ?_);exact ai (t_e (ak _))
theorem kW(c:Cnt)(x:Rat)(h:pI c x):FS 143 [kA c,.agg (qC x)] (i64 (cN c x)):=by
 have hb:=lR (x:=x) h.1.1;refine f_c Tryz.func143 ?_;refine r_z 2 ?_;refine r_c 4 (mX c x h.1) ?_;refine a_z ?_;refine bD (λn:Int=>⟨[(5,i64 n)],[],1,20⟩) (λn=>n=cN c x) ?_ ?_;refine ac (r_d aX 8 ?_);refine c_s (jF c.p x h.2) ?_;refine c_s (c6 (an c.p x)) ?_;refine a_1 ?_;refine aq (n_k ?_);refine ar rfl (λa=>?_) (λa=>?_)
 have b:an c.p x=0:=by
  have:sgZ (an c.p x).num=0:=by simpa using a
  exact sgZ_num_eq.1 this
 refine r_m 3 ?_;refine a_z ?_;refine⟨cX c x- 1,by unfold cN;rw[if_pos b],?_⟩;exact s_e []
 have b:an c.p x≠0:=by
  intro e;have:¬sgZ (an c.p x).num=0:=by simpa using a
  exact this (sgZ_num_eq.2 e)
 refine aj ⟨cX c x,by unfold cN;rw[if_neg b],?_⟩;exact s_e [];rintro n rfl;refine r_z 2 ?_;exact ai (t_e (ak _))
theorem Ar(c:Cnt)(i:Int)(x:Rat)(h:pI c x):FS 314 [plA c i,.agg (qC x)] (i64 (plC c i x)):=by
 refine f_n Tryz.func314 ?_ ?_;exact ae (dN c i) (ae (aP x) af);refine r_z 2 ?_;refine ac (ac (r_d aX 7 ?_));refine c_s (kW c x h) ?_;refine a_1 ?_;refine aq (n_k ?_);refine aC (λ_:Unit=>⟨[],[],1,36⟩) (λ_=>plC c i x=1) ?_ ?_;refine ah (r_z 7 ?_);refine ar rfl (λd=>?_) (λd=>?_);have a:i< cN c x:=by simpa using d
 refine r_z 1 ?_;refine ai (aS rfl ?_ ?_);unfold plC;rw[if_pos a];rfl;exact ak _;have a:¬i< cN c x:=by simpa using d
 by_cases h3:cN c x=i;refine ac (r_d aX 17 ?_);refine a_7 ?_;refine y_g rfl (by simp[h3]) (.move rfl) ?_;refine y_g rfl (by simp[h3]) (.nilCheck rfl rfl) ?_;refine y_g rfl (by simp[h3]) (.fieldAddr_a rfl TF.h δ) ?_;refine y_g rfl (by simp[h3]) (.load_a1 rfl rfl TG.h rfl) ?_;refine y_g rfl (by simp[h3]) (.load_l rfl rfl rfl TG.h TS.h (nle rfl)) ?_;refine y_g rfl (by simp[h3]) (.call rfl rfl rfl (mX c x h.1)) ?_;refine y_g rfl (by simp[h3]) (.move rfl) ?_;refine y_g rfl (by simp[h3]) (.bin rfl rfl jb) ?_;refine o_0 (.pickT rfl (by simp[h3]) rfl) ?_;refine a_1 ?_;refine aq (n_k ?_);refine ar rfl (λb=>?_) (λb=>?_);have f:cN c x< cX c x:=by simpa using b
 refine r_z 1 ?_;refine ai (aS rfl ?_ ?_);unfold plC;rw[if_neg a,if_pos ⟨h3,f⟩];rfl;exact ak _;have f:¬cN c x< cX c x:=by simpa using b
 refine aj ⟨(),by unfold plC;rw[if_neg a,if_neg λe=>f e.2],?_⟩;exact s_e [];refine ac (r_d aX 17 ?_);refine a_7 ?_;refine n_g rfl (by simp[h3]) ?_;refine n_g rfl (by simp[h3]) ?_;refine n_g rfl (by simp[h3]) ?_;refine n_g rfl (by simp[h3]) ?_;refine n_g rfl (by simp[h3]) ?_;refine n_g rfl (by simp[h3]) ?_;refine n_g rfl (by simp[h3]) ?_;refine n_g rfl (by simp[h3]) ?_;refine o_0 (.pickF rfl (by simp[h3]) rfl) ?_;refine a_1 ?_;refine aq (n_k ?_);refine cF ?_;refine aj ⟨(),by unfold plC;rw[if_neg a,if_neg λe=>h3 e.1],?_⟩;exact s_e [];rintro _ g;refine r_z 1 ?_;refine ai (aS rfl ?_ ?_);rw[g];rfl;exact ak _
def hiV(c:Cnt)(step:Rat):Rat:=xD (a7 c.p/ step)
def JK(c:Cnt)(step:Rat)(lo:Rat):Prop:=re c.p/\ap c.p≠[]/\step≠0/\qs (a7 c.p)+qs step<=549755813888/\qs lo+qs step<=549755813888/\pI c (lo* step)
instance (c:Cnt) (step lo:Rat):Decidable (JK c step lo):=inferInstanceAs (Decidable (_/\_/\_/\_/\_/\_))
def KW(f:Nat)(c:Cnt)(i:Int)(step:Rat):Option (Rat×Bool):=
 (biM c i step f (-hiV c step) (hiV c step)).bind λlo=>if JK c step lo then some (lo* step,plC c i (lo* step)==0) else none
def dnS(c:Cnt)(i:Int)(step:Rat):Rat×Rat->AState
 |(lo,hi)=>⟨[(0,plA c i),(3,.lptr 1 0 0),(4,.lptr 2 0 0),(6,.lptr 3 0 0),(7,.lptr 4 0 0),(8,.lptr 5 0 0)],[(1,some ⟨42,3,[qC step]⟩),(2,some ⟨42,3,[zC]⟩),(3,some ⟨42,3,[qC hi]⟩),(4,some ⟨42,3,[qC lo]⟩),(5,some ⟨42,3,[qC 2]⟩)],6,52⟩
theorem fs_down(f:Nat)(c:Cnt)(i:Int)(step:Rat)(r:Rat×Bool)(h:KW f c i step=some r):FS 333 [plA c i,.agg (qC step)] (.tup [.agg (qC r.1),bln r.2]):=by
 unfold KW at h;obtain⟨l,o,b⟩:=Option.bind_eq_some_iff.1 h;split at b
 case isFalse=>cases b
 case isTrue hk=>
 cases b;obtain⟨j,s,m,v,n,q⟩:=hk;have y:=fL (a7 c.p) step;refine f_n Tryz.func333 ?_ ?_;exact ae (dN c i) (ae (aP step) af);refine r_z 3 ?_;refine ac (r_d aX 13 ?_);refine c_s (Cb c.p j s) ?_;refine c_s (iT (a7 c.p) step m v) ?_;refine c_s (GC (a7 c.p/ step) ω) ?_;refine a_2 ?_;refine aq (n_k ?_);refine r_c 4 (mY (xD (a7 c.p/ step))) ?_;refine a_z ?_;refine r_c 3 (eD 2 δ) ?_;refine a_z ?_;refine bD (λa:Rat=>dnS c i step (l,a)) (λ_=>True) ?_ ?_
 ·refine ah (ay (λx:Nat×Rat×Rat=>dnS c i step x.2) (λx=>x.1) (λx=>biM c i step x.1 x.2.1 x.2.2=some l) (f,-hiV c step,hiV c step) o ?_ ?_)
  simp only[dnS.eq_1,hiV];exact s_e [(2,4),(3,6),(4,7),(5,8)];rintro⟨f,lo,a⟩ h;simp only at h;simp only[dnS.eq_1];cases f with
  |zero=>cases h
  |succ f=>
   rw[biM] at h;split at h
   case isFalse=>cases h
   case isTrue hs=>
   obtain⟨s1,s2,t⟩:=hs;refine ac (r_c 6 (kU a lo (sm2 s2 s1)) ?_);refine c_s (eD 1 δ) ?_;refine c_s (wX (a- lo) 1 t δ) ?_;refine a_z ?_;refine ar rfl (λe=>?_) (λe=>?_)
   ·have b:0< fb (a- lo) 1:=by simpa using e
    rw[if_pos b] at h;split at h
    case isFalse=>cases h
    case isTrue ht=>
    obtain⟨t1,t2⟩:=ht;have k:=e9 lo a;have w:qs 2=2:=δ
    have u:=fL (lo+a) 2;unfold sm at s1 s2;refine aj (ah (ac (r_d aX 8 ?_)));refine c_s (fD lo a ω) ?_;refine c_s (iT (lo+a) 2 δ ω) ?_;refine c_s (rV ((lo+a) / 2) ω) ?_;refine a_2 ?_;refine aq (n_k ?_);refine r_c 6 (dk (((lo+a) / 2).floor:Rat) step t1) ?_;refine c_s (Ar c i ((((lo+a) / 2).floor:Rat) * step) t2) ?_;refine a_z ?_;refine ar rfl (λg=>?_) (λg=>?_);have d:0<=plC c i ((((lo+a) / 2).floor:Rat) * step):=by simpa using g
    rw[if_pos d] at h;refine r_m 2 ?_;refine a_z ?_;refine⟨(f,(((lo+a) / 2).floor:Rat),a),Nat.lt_succ_self f,h,?_⟩;simp only[dnS.eq_1];exact s_e [];have d:¬0<=plC c i ((((lo+a) / 2).floor:Rat) * step):=by simpa using g
    rw[if_neg d] at h;refine r_m 2 ?_;refine a_z ?_;refine⟨(f,lo,(((lo+a) / 2).floor:Rat)),Nat.lt_succ_self f,h,?_⟩;simp only[dnS.eq_1];exact s_e []
   have b:¬0< fb (a- lo) 1:=by simpa using e
   rw[if_neg b] at h;cases h;refine ax ⟨a,trivial,?_⟩;simp only[dnS.eq_1];exact s_e []
 rintro a _;simp only[dnS.eq_1];refine r_c 4 (dk l step n) ?_;refine a_z ?_;refine ac (r_d aX 7 ?_);refine c_s (Ar c i (l* step) q) ?_;refine a_3 ?_;refine aq (n_k ?_);refine ai (Fin.many ⟨_,_,rfl,⟨_,_,_,_,_,rfl,rfl,rfl,.inl ⟨TG.h,_,TS.h,nle rfl,rfl⟩⟩,⟨_,_,rfl,rfl,rfl⟩⟩ (nle rfl) ?_);exact am (ao aF (aP _)) (am (ao aF (ak _)) av)
def vK(f:Nat)(c:Cnt)(i:Int)(k:Int):Option Sp:=
 (KW f c i (gX (wi k 256))).bind λr=>if r.2 then some (r.1,r.1) else if qs r.1+qs (gX (wi k 256))<=549755813888 then some (r.1,r.1+gX (wi k 256)) else none
theorem fs_span(f:Nat)(c:Cnt)(i:Int)(k:Int)(s:Sp)(h:vK f c i k=some s):FS 312 [plA c i,i64 k] (.agg (spC s.1 s.2)):=by
 unfold vK at h;obtain⟨⟨a,ex⟩,e,b⟩:=Option.bind_eq_some_iff.1 h;refine f_n Tryz.func312 ?_ ?_;exact ae (dN c i) (ae (ak _) af);refine r_z 1 ?_;refine r_c 4 (r6 k) ?_;refine a_z ?_;refine r_c 9 (fs_down f c i (gX (wi k 256)) (a,ex) e) ?_;refine a_z ?_;refine ac (r_z 1 ?_);refine ar rfl (λd=>?_) (λd=>?_);subst d;rw[if_pos rfl] at b;cases b;refine r_c 3 (Cn a) ?_;refine a_z ?_;exact ai (c_e (b9 _ _))
 ·subst d
  rw[if_neg (show¬false=true by decide)] at b;split at b
  case isFalse=>cases b
  case isTrue hs=>
  cases b;refine aj (ac (r_d aX 6 ?_));refine c_s (fD a (gX (wi k 256)) hs) ?_;refine a_2 ?_;refine aq (n_k ?_);exact ai (c_e (b9 _ _))
def n5(s:Sp):Rat:=(s.1+s.2) * gX 1
def BP(c:Cnt)(i:Int)(s:Sp):Sp:=if plC c i (n5 s)=0 then(n5 s,n5 s) else if plC c i (n5 s)=1 then(n5 s,s.2) else(s.1,n5 s)
def nW(c:Cnt)(s:Sp):Prop:=smS s/\pI c (n5 s)
instance (c:Cnt) (s:Sp):Decidable (nW c s):=inferInstanceAs (Decidable (_/\_))
def dq(c:Cnt)(i:Int)(s0:Sp):Nat->Sp
 |0=>s0
 |k+1=>BP c i (dq c i s0 k)
def closT(c:Cnt)(i:Int)(s0:Sp)(k:Nat):Option La:=some [.agg (spC (dq c i s0 k).1 (dq c i s0 k).2)]
abbrev bPl(c:Cnt)(i:Int):AV:= .aptr [[plA c i]] 0 0
theorem ea(c:Cnt)(i:Int):Closed (bPl c i):=bi (ae (dN c i) af)
theorem tw(f:Nat)(c:Cnt)(i:Int)(s0:Sp)(K:Nat)(h:vK f c i 0=some s0)(hok:∀k,k< K->nW c (dq c i s0 k)):GSpecB Tryz.prog 311 [bPl c i] (closT c i s0) K:=by
 refine GSpecB.enter Tryz.func311 rfl κ rfl rfl rfl ?_ ?_ rfl ?_;exact ae (ea c i) af;intro k xs h;cases h;exact ae (b9 _ _) af;intro ll N hN E;refine GWp.seq ?_;refine GWp.lift ?_;refine r_m 4 ?_;refine c_s (fs_span f c i 0 s0 h) ?_;refine a_z ?_;refine GWp.block ?_;refine GWp.loopS (λk:Nat=>⟨[(0,.v (.func (.yield ll) #[] #[])),(1,bPl c i),(3,.lptr 1 0 0)],[(1,some ⟨51,6,[spC (dq c i s0 k).1 (dq c i s0 k).2]⟩)],2,25⟩) (λk=>k) (λk=>N+1- k) (λk=>k<=N) 0 (Nat.zero_le _) rfl ?_ ?_;have:=ea c i;exact s_f [(1,3)];intro k p;refine GWp.seq ?_;refine GWp.seq ?_;refine GWp.regY (fr2:=[(0,.v (.func (.yield ll) #[] #[])),(1,bPl c i),(3,.lptr 1 0 0),(7,.v (.func (.yield ll) #[] #[])),(8,.agg (spC (dq c i s0 k).1 (dq c i s0 k).2))]) (hp2:=[(1,some ⟨51,6,[spC (dq c i s0 k).1 (dq c i s0 k).2]⟩)]) (nx2:=2) 2 rfl rfl rfl rfl rfl rfl ?_ rfl rfl rfl ?_ ?_ ?_;refine o_0 (.move rfl) ?_;refine bm (.load_l rfl rfl rfl TG.h TS.h (nle rfl)) rfl rfl ?_;refine aq ?_;exact s_y [] (λhs=>dD) (λhs=>mC);rotate_left 2;intro n;refine aq ?_;rotate_left;rfl;exact ae (b9 _ _) af;cases n with
 |false=>
  refine GWp.cond rfl (λh=>?_) (λh=>?_);cases h;exact GWp.exit ⟨.inl rfl,λh=>by cases h⟩
 |true=>
  refine GWp.bound λb=>?_;refine GWp.cond rfl (λh=>?_) (λh=>?_);rotate_left;cases h;refine GWp.skip ?_;have o:=hok k ω;obtain⟨hs,hb⟩:=o;have a:dq c i s0 (k+1)=BP c i (dq c i s0 k):=rfl;obtain⟨s,g⟩:∃s,s=dq c i s0 k:=⟨_,rfl⟩;rw[<-g] at hs hb a⊢;refine GWp.lift ?_;refine ah (r_c 4 (Ex s.1 s.2 hs.1 hs.2) ?_);refine a_z ?_;refine r_c 3 (Ar c i (n5 s) hb) ?_;refine aq ?_;refine ah (r_z 2 ?_);refine ar rfl (λl=>?_) (λl=>?_);have e:plC c i (n5 s)=0:=by simpa using l
  have d:dq c i s0 (k+1)=(n5 s,n5 s):=by rw[a];unfold BP;rw[if_pos e]
  refine r_m 3 ?_;refine c_s (Cn (n5 s)) ?_;refine a_z ?_;refine⟨rfl,k+1,ω,b,rfl,?_⟩;simp only[d];have:=ea c i;exact s_f [];have e:¬plC c i (n5 s)=0:=by simpa using l
  refine r_z 2 ?_;refine ar rfl (λm=>?_) (λm=>?_);have j:plC c i (n5 s)=1:=by simpa using m
  have d:dq c i s0 (k+1)=(n5 s,s.2):=by rw[a];unfold BP;rw[if_neg e,if_pos j]
  refine r_m 3 ?_;refine a_z ?_;refine⟨rfl,k+1,ω,b,rfl,?_⟩;simp only[d];have:=ea c i;exact s_f [];have j:¬plC c i (n5 s)=1:=by simpa using m
  have d:dq c i s0 (k+1)=(s.1,n5 s):=by rw[a];unfold BP;rw[if_neg e,if_neg j]
  refine r_m 3 ?_;refine a_z ?_;refine⟨rfl,k+1,ω,b,rfl,?_⟩;simp only[d];have:=ea c i;exact s_f []
theorem tE(c:Cnt)(i:Int):FS 279 [plA c i] (.clos 311 [] [bPl c i]):=by
 refine f_n Tryz.func279 ?_ ?_;exact ae (dN c i) af;refine r_z 2 ?_;refine r_z 2 ?_;refine ai (⟨.inr rfl,[_],⟨_,[],rfl,rfl,rfl⟩,?_⟩);exact Cv.clos av (am (Cv.boxp aF rfl (λ_ _ h=>by cases h) rfl (ae (dN c i) af)) av)
def pT(t:Nat->Option Bool):Nat->Nat->Option Nat
 |0,_=>none
 |f+1,k=>match t k with
  |some true=>some k
  |some false=>pT t f (k+1)
  |none=>none
theorem lC{t:Nat->Option Bool}:∀{f k0 k:Nat},pT t f k0=some k->t k=some true/\k0<=k/\∀j,k0<=j->j< k->t j=some false
 |0,_,_,h=>by cases h
 |f+1,k0,k,h=>by
  rw[pT] at h;split at h;cases h;exact⟨by assumption,Nat.le_refl _,λj b c=>by omega⟩;obtain⟨b,c,g⟩:=lC h;refine⟨b,ω,λj d a=>?_⟩;by_cases e:j=k0;rw[e];assumption;exact g j ω a;cases h
def qD(c:Cnt)(i:Int)(s:Sp):Option Bool:=if pI c s.1/\uL c s.2/\nW c s/\ -4611686018427387904<=i/\i<=4611686018427387904 then some (decide (cN c s.1=i/\cX c s.2=i+1)) else none
def alS(c:Cnt)(i:Int):Nat->AState
 |k=>⟨[(1,bPl c i),(2,.lptr 1 0 0),(3,.lptr 2 0 0),(6,.clos 311 [] [bPl c i])],[(1,some ⟨51,6,[zC++zC]⟩),(2,some ⟨51,6,[zC++zC]⟩)],3,37⟩
def alX(s:Sp):Unit->AState
 |u=>⟨[(2,.lptr 1 0 0),(3,.lptr 2 0 0)],[(1,some ⟨51,6,[zC++zC]⟩),(2,some ⟨51,6,[spC s.1 s.2]⟩)],3,37⟩
theorem Kw(f g:Nat)(c:Cnt)(i:Int)(s0:Sp)(kk:Nat)(h:vK f c i 0=some s0)(hk:pT (λk=>qD c i (dq c i s0 k)) g 0=some kk):FS 335 [plA c i] (.agg (spC (dq c i s0 kk).1 (dq c i s0 kk).2)):=by
 obtain⟨d,_,A⟩:=lC hk
 have m:∀k,k<=kk->pI c (dq c i s0 k).1/\uL c (dq c i s0 k).2/\nW c (dq c i s0 k)/\ -4611686018427387904<=i/\i<=4611686018427387904:=λk hk=>by
  have:∃b,qD c i (dq c i s0 k)=some b:=by
   by_cases e:k=kk;rw[e];exact⟨_,d⟩;exact⟨_,A k (Nat.zero_le _) ω⟩
  obtain⟨b,hb⟩:=this;unfold qD at hb;split at hb;assumption;cases hb
 have y:=tw f c i s0 kk h (λk hk=>(m k ω).2.2.1);refine f_n Tryz.func335 ?_ ?_;exact ae (dN c i) af;refine r_z 2 ?_;refine r_z 1 ?_;refine AWp.ent (st':=⟨[(1,bPl c i),(2,.lptr 1 0 0),(3,.lptr 2 0 0)],[(1,some ⟨51,6,[zC++zC]⟩),(2,some ⟨51,6,[zC++zC]⟩)],3,37⟩) ?_ ?_;have:=(ae (dN c i) af);exact s_f [(1,2),(2,3)];refine ac (r_c 2 (tE c i) ?_);refine aq ?_;refine aC (alX (dq c i s0 kk)) (λ_=>True) ?_ ?_;refine ah (AWp.rangeFuncB (α:=Nat) (γ:=Unit) kk (alS c i) (λk=>k) (λk=>k<=kk) (alX (dq c i s0 kk)) (λe _=>e= .exit 0) 0 rfl y rfl rfl ?_ (λ_=>⟨rfl,rfl⟩) (λ_=>rfl) (Nat.zero_le _) rfl (λ_ h=>h) ?_ ?_ ?_ ?_ ?_);intro k xs j;cases j;rfl;rw[alS.eq_1];have:=ea c i;exact s_t [];exact ae (ea c i) af;intro l k xs hk j;cases j;have B:=m k hk;obtain⟨s,a⟩:∃s,s=dq c i s0 k:=⟨_,rfl⟩;rw[<-a] at B⊢;obtain⟨o,q,v,t,x⟩:=B;show AWp _ _ _ _ ⟨[(7,.agg (spC s.1 s.2)),(1,bPl c i),(2,.lptr 1 0 0),(3,.lptr 2 0 0),(6,.clos 311 [] [bPl c i]),(1001,bPl c i),(1002,.lptr 1 0 0),(1003,.lptr 2 0 0),(1006,.clos 311 [] [bPl c i])],[(1,some ⟨51,6,[zC++zC]⟩),(2,some ⟨51,6,[zC++zC]⟩)],3,37⟩;refine r_m 2 ?_;refine a_z ?_;refine ah ?_;by_cases hb:cN c s.1=i;refine ac (r_d aX 27 ?_);refine c_s (kW c s.1 o) ?_;refine a_6 ?_;refine y_g rfl (by simp[hb]) (.load_a1 rfl rfl TG.h rfl) ?_;refine y_g rfl (by simp[hb]) (.nilCheck rfl rfl) ?_;refine y_g rfl (by simp[hb]) (.fieldAddr_a rfl TF.h δ) ?_;refine y_g rfl (by simp[hb]) (.load_a1 rfl rfl TG.h rfl) ?_
 refine y_g rfl (by simp[hb]) (.fieldAddr_l rfl TF.h δ) ?_;refine y_g rfl (by simp[hb]) (.load_l rfl rfl rfl TG.h TS.h (nle rfl)) ?_;refine y_g rfl (by simp[hb]) (.call rfl rfl rfl (mX c s.2 q)) ?_;refine y_g rfl (by simp[hb]) (.load_a1 rfl rfl TG.h rfl) ?_;refine y_g rfl (by simp[hb]) (.nilCheck rfl rfl) ?_;refine y_g rfl (by simp[hb]) (.fieldAddr_a rfl TF.h δ) ?_;refine y_g rfl (by simp[hb]) (.load_a1 rfl rfl TG.h rfl) ?_;refine y_g rfl (by simp[hb]) (.bin rfl rfl (Db ω)) ?_;refine y_g rfl (by simp[hb]) (.bin rfl rfl bJ) ?_;refine o_0 (.pickT rfl (by simp[hb]) rfl) ?_;refine aq (n_k ?_);refine ar rfl (λw=>?_) (λw=>?_);have z:cX c s.2=i+1:=by simpa using w
 have n:k=kk:=by
  refine Nat.le_antisymm hk (Nat.le_of_not_lt λr=>?_);have p:=A k (Nat.zero_le _) r;rw[<-a] at p;unfold qD at p;rw[if_pos ⟨o,q,v,t,x⟩] at p;simp[hb,z] at p
 subst n;refine r_z 2 ?_;refine ax (⟨rfl,(),rfl,?_⟩);rw[<-a];show SEntT _ ⟨[(1002,.lptr 1 0 0),(1003,.lptr 2 0 0)],[(1,some ⟨51,6,[zC++zC]⟩),(2,some ⟨51,6,[spC s.1 s.2]⟩)],3,37⟩;exact s_y [] (λhs=>dD) (λhs=>mC);have z:¬cX c s.2=i+1:=by simpa using w
 have n:k< kk:=by
  refine Nat.lt_of_le_of_ne hk λe=>?_;subst e;rw[<-a] at d;unfold qD at d;rw[if_pos ⟨o,q,v,t,x⟩] at d;simp[z] at d
 refine aj (⟨k+1,⟨n,rfl⟩,?_⟩);show SEntT _ ⟨[(1001,bPl c i),(1002,.lptr 1 0 0),(1003,.lptr 2 0 0),(1006,.clos 311 [] [bPl c i])],[(1,some ⟨51,6,[zC++zC]⟩),(2,some ⟨51,6,[zC++zC]⟩)],3,37⟩;exact s_y [] (λhs=>dD) (λhs=>mC);refine ac (r_d aX 27 ?_);refine c_s (kW c s.1 o) ?_;refine a_6 ?_;refine n_g rfl (by simp[hb]) ?_;refine n_g rfl (by simp[hb]) ?_;refine n_g rfl (by simp[hb]) ?_;refine n_g rfl (by simp[hb]) ?_;refine n_g rfl (by simp[hb]) ?_;refine n_g rfl (by simp[hb]) ?_;refine n_g rfl (by simp[hb]) ?_;refine n_g rfl (by simp[hb]) ?_;refine n_g rfl (by simp[hb]) ?_;refine n_g rfl (by simp[hb]) ?_;refine n_g rfl (by simp[hb]) ?_;refine n_g rfl (by simp[hb]) ?_;refine n_g rfl (by simp[hb]) ?_;refine o_0 (.pickF rfl (by simp[hb]) rfl) ?_;refine aq (n_k ?_);refine cF ?_
 have n:k< kk:=by
  refine Nat.lt_of_le_of_ne hk λe=>?_;subst e;rw[<-a] at d;unfold qD at d;rw[if_pos ⟨o,q,v,t,x⟩] at d;simp[hb] at d
 refine aj (⟨k+1,⟨n,rfl⟩,?_⟩);show SEntT _ ⟨[(1001,bPl c i),(1002,.lptr 1 0 0),(1003,.lptr 2 0 0),(1006,.clos 311 [] [bPl c i])],[(1,some ⟨51,6,[zC++zC]⟩),(2,some ⟨51,6,[zC++zC]⟩)],3,37⟩;exact s_y [] (λhs=>dD) (λhs=>mC);intro k hk j;cases j;rintro e u rfl;exact⟨u,trivial,SEnt.refl _⟩;rintro u _;rw[alX.eq_1];refine r_z 2 ?_;exact ai (c_e (b9 _ _))
def LH(f g:Nat)(c:Cnt)(i:Int):Option Sp:=(vK f c i 0).bind λs0=>(pT (λk=>qD c i (dq c i s0 k)) g 0).map (dq c i s0)
theorem H5(f g:Nat)(c:Cnt)(i:Int)(s:Sp)(h:LH f g c i=some s):FS 335 [plA c i] (.agg (spC s.1 s.2)):=by
 obtain⟨d,b,a⟩:=Option.bind_eq_some_iff.1 h;obtain⟨k,e,rfl⟩:=Option.map_eq_some_iff.1 a;exact Kw f g c i d k b e
def zH(f g:Nat)(c:Cnt)(i:Int)(q:Lq):Option Bool:=
 if c.p.length<=274877906944/\q.length<=274877906944 then(ld f c.p q).bind λd=>
  if d.length<=274877906944 then
   if dt d< 1 then some false
   else(dM f d).bind λc2=>(LH f g c i).bind λs=>if uL c2 s.2/\pI c2 s.1 then some (decide (cN c2 s.1< cX c2 s.2)) else none
  else none
 else none
theorem HW(f g:Nat)(c:Cnt)(i:Int)(q:Lq)(r:Bool)(h:zH f g c i q=some r)(hf:f<=1000000):FS 319 [plA c i,.arr (pE q)] (bln r):=by
 unfold zH at h;split at h
 case isFalse=>cases h
 case isTrue hl=>
 obtain⟨d,m,a⟩:=Option.bind_eq_some_iff.1 h;split at a
 case isFalse=>cases a
 case isTrue hdl=>
 refine f_n Tryz.func319 ?_ ?_;exact ae (dN c i) (ae (aD q) af);refine r_z 1 ?_;refine r_c 10 (KF f c.p q d m hl.1 hl.2) ?_;refine a_z ?_;refine ac (r_c 3 (em d ω) ?_);refine a_z ?_;refine ar rfl (λl=>?_) (λl=>?_);have j:dt d< 1:=by simpa using l
 rw[if_pos j] at a;cases a;refine r_z 1 ?_;exact ai (t_e (ak _))
 ·have j:¬dt d< 1:=by simpa using l
  rw[if_neg j] at a;obtain⟨b,k,n⟩:=Option.bind_eq_some_iff.1 a;obtain⟨s,hs,e⟩:=Option.bind_eq_some_iff.1 n;split at e
  case isFalse=>cases e
  case isTrue hk=>
  cases e;refine aj (r_c 7 (o4 f d b k hf) ?_);refine c_s (H5 f g c i s hs) ?_;refine a_z ?_;refine ac (r_d aX 10 ?_);refine c_s (mX b s.2 hk.1) ?_;refine c_s (kW b s.1 hk.2) ?_;refine a_2 ?_;refine aq (n_k ?_);exact ai (t_e (ak _))
def Bs(c:Cnt)(i:Int)(c2:Cnt)(s:Sp):Option Bool:=if uL c2 s.2/\pI c2 s.1/\nW c s then some (decide (cX c2 s.2=cN c2 s.1)) else none
def I2(f g:Nat)(c:Cnt)(i:Int)(q:Lq):Option Int:=
 if q.length<=274877906944 then
  if dt q< 0 then some 0
  else(zH f g c i q).bind λb=>if b then some 0 else(dM f q).bind λc2=>(vK f c i 0).bind λs0=>
   (pT (λk=>Bs c i c2 (dq c i s0 k)) g 0).bind λk=>if fM q (dq c i s0 k).2 then some (sgZ (an q (dq c i s0 k).2).num) else none
 else none
def pgS(c:Cnt)(i:Int)(q:Lq)(c2:Cnt):Nat->AState
 |k=>⟨[(0,plA c i),(3,bP q),(4,.lptr 1 0 0),(5,.aptr [[kA c2]] 0 0),(18,.clos 311 [] [bPl c i])],[(1,some ⟨3,1,[[i64 0]]⟩)],2,34⟩
def pgX(r:Int):Unit->AState
 |u=>⟨[(4,.lptr 1 0 0)],[(1,some ⟨3,1,[[i64 r]]⟩)],2,34⟩
theorem xn(c:Cnt):Closed (.aptr [[kA c]] 0 0):=bi (ae (gE c) af)
theorem fs_sign(f g:Nat)(c:Cnt)(i:Int)(q:Lq)(r:Int)(h:I2 f g c i q=some r)(hf:f<=1000000):FS 281 [plA c i,.arr (pE q)] (i64 r):=by
 unfold I2 at h;split at h
 case isFalse=>cases h
 case isTrue hl=>
 refine f_n Tryz.func281 ?_ ?_;exact ae (dN c i) (ae (aD q) af);refine r_z 2 ?_;refine AWp.ent (st':=⟨[(0,plA c i),(3,bP q),(4,.lptr 1 0 0)],[(1,some ⟨3,1,[[i64 0]]⟩)],2,34⟩) ?_ ?_;exact s_f [(1,4)];by_cases hd:dt q< 0;rw[if_pos hd] at h;cases h;refine ac (r_c 8 (em q ω) ?_);refine a_2 ?_;refine n_g rfl (by simp[hd]) ?_;refine n_g rfl (by simp[hd]) ?_;refine n_g rfl (by simp[hd]) ?_;refine o_0 (.pickT rfl (by simp[hd]) rfl) ?_;refine aq ?_;refine ar rfl (λp=>?_) (λp=>?_);refine r_z 1 ?_;exact ai (Fin.cell1E rfl rfl rfl TG.h rfl rfl (ak _));cases p;rw[if_neg hd] at h;obtain⟨b,hb,w⟩:=Option.bind_eq_some_iff.1 h;refine ac (r_c 8 (em q ω) ?_);refine a_2 ?_;refine y_g rfl (by simp[hd]) (.move rfl) ?_;refine y_g rfl (by simp[hd]) (.load_a1 rfl rfl TG.h rfl) ?_;refine y_g rfl (by simp[hd]) (.call rfl rfl rfl (HW f g c i q b hb hf)) ?_;refine o_0 (.pickF rfl (by simp[hd]) rfl) ?_;refine aq ?_;refine ar rfl (λp=>?_) (λp=>?_);have n:b=true:=p;subst n;rw[if_pos rfl] at w;cases w;refine r_z 1 ?_;exact ai (Fin.cell1E rfl rfl rfl TG.h rfl rfl (ak _));have n:b=false:=p;subst n;rw[if_neg (show¬false=true by decide)] at w;obtain⟨a,E,O⟩:=Option.bind_eq_some_iff.1 w;obtain⟨m,A,N⟩:=Option.bind_eq_some_iff.1 O;obtain⟨j,z,C⟩:=Option.bind_eq_some_iff.1 N;split at C
 case isFalse=>cases C
 case isTrue hev=>
 cases C;obtain⟨t1,_,t2⟩:=lC z
 have v:∀k,k<=j->uL a (dq c i m k).2/\pI a (dq c i m k).1/\nW c (dq c i m k):=λk o=>by
  have:∃b,Bs c i a (dq c i m k)=some b:=by
   by_cases e:k=j;rw[e];exact⟨_,t1⟩;exact⟨_,t2 k (Nat.zero_le _) ω⟩
  obtain⟨b,hb⟩:=this;unfold Bs at hb;split at hb;assumption;cases hb
 have G:=tw f c i m j A (λk o=>(v k ω).2.2);obtain⟨r,D⟩:∃r,r=sgZ (an q (dq c i m j).2).num:=⟨_,rfl⟩;rw[<-D];refine aj (r_c 4 (o4 f q a E hf) ?_);refine a_z ?_;refine AWp.ent (st':=⟨[(0,plA c i),(3,bP q),(4,.lptr 1 0 0),(5,.aptr [[kA a]] 0 0)],[(1,some ⟨3,1,[[i64 0]]⟩)],2,34⟩) ?_ ?_;have:=(ae (gE a) af);exact s_f [];refine ac (r_c 2 (tE c i) ?_);refine aq ?_;refine aC (pgX r) (λ_=>False) ?_ (λ_ h=>h.elim);refine ah (AWp.rangeFuncB (α:=Nat) (γ:=Unit) j (pgS c i q a) (λk=>k) (λk=>k<=j) (pgX r) (λe _=>e= .ret) 0 rfl G rfl rfl ?_ (λ_=>⟨rfl,rfl⟩) (λ_=>rfl) (Nat.zero_le _) rfl (λ_ h=>h) ?_ ?_ ?_ ?_ ?_);intro k xs t;cases t;rfl;rw[pgS.eq_1];have:=xn a;exact s_t [];exact ae (ea c i) af;intro l k xs o t;cases t;have M:=v k o;obtain⟨s,d⟩:∃s,s=dq c i m k:=⟨_,rfl⟩;rw[<-d] at M⊢;obtain⟨K,F,L⟩:=M;show AWp _ _ _ _ ⟨[(19,.agg (spC s.1 s.2)),(0,plA c i),(3,bP q),(4,.lptr 1 0 0),(5,.aptr [[kA a]] 0 0),(18,.clos 311 [] [bPl c i]),(1000,plA c i),(1003,bP q),(1004,.lptr 1 0 0),(1005,.aptr [[kA a]] 0 0),(1018,.clos 311 [] [bPl c i])],[(1,some ⟨3,1,[[i64 0]]⟩)],2,34⟩;refine r_m 2 ?_;refine a_z ?_;refine ah (ac (r_d aX 9 ?_));refine c_s (mX a s.2 K) ?_;refine c_s (kW a s.1 F) ?_;refine a_1 ?_;refine aq (n_k ?_);refine ar rfl (λH=>?_) (λH=>?_);have B:cX a s.2=cN a s.1:=by simpa using H
 have J:k=j:=by
  refine Nat.le_antisymm o (Nat.le_of_not_lt λy=>?_);have x:=t2 k (Nat.zero_le _) y;rw[<-d] at x;unfold Bs at x;rw[if_pos ⟨K,F,L⟩] at x;simp[B] at x
 subst J;rw[<-d] at hev D;refine r_c 6 (jF q s.2 hev) ?_;refine c_s (c6 (an q s.2)) ?_;refine a_z ?_;refine ai (⟨rfl,(),rfl,?_⟩);rw[D];show SEntT _ ⟨[(1004,.lptr 1 0 0)],[(1,some ⟨3,1,[[i64 (sgZ (an q s.2).num)]]⟩)],2,34⟩;exact s_t [];have B:¬cX a s.2=cN a s.1:=by simpa using H
 have J:k< j:=by
  refine Nat.lt_of_le_of_ne o λe=>?_;subst e;rw[<-d] at t1;unfold Bs at t1;rw[if_pos ⟨K,F,L⟩] at t1;simp[B] at t1
 refine aj (⟨k+1,⟨J,rfl⟩,?_⟩);show SEntT _ ⟨[(1000,plA c i),(1003,bP q),(1004,.lptr 1 0 0),(1005,.aptr [[kA a]] 0 0),(1018,.clos 311 [] [bPl c i])],[(1,some ⟨3,1,[[i64 0]]⟩)],2,34⟩;have:=xn a;exact s_t [];intro k o t;cases t;rintro e u rfl;exact Fin.cell1E rfl rfl rfl TG.h rfl rfl (ak _)
def IJ(c:Cnt)(q:Lq)(step:Rat)(s:Sp):Option Bool:=if z8 q s/\smS (je q s)/\sm ((je q s).2- (je q s).1)/\sm step/\nW c s then some (decide (fb ((je q s).2- (je q s).1) step< 0)) else none
def valR(f g:Nat)(c:Cnt)(i:Int)(q:Lq)(k:Int)(v:Sp):Option Sp:=
 if sm (k4 v.2 (wi k 256))/\smS v/\sm (gX (wi k 256))/\smL q/\q.length<=274877906944 then
  if fb (k4 v.2 (wi k 256)) v.1< 0 then some (k4 v.2 (wi k 256),k4 v.2 (wi k 256)+gX (wi k 256))
  else(I2 f g c i (dQ q (eM (k4 v.2 (wi k 256))))).bind λsg=>
   some (if sg=0 then(k4 v.2 (wi k 256),k4 v.2 (wi k 256)) else if sg=1 then(k4 v.2 (wi k 256),k4 v.2 (wi k 256)+gX (wi k 256)) else(k4 v.2 (wi k 256)- gX (wi k 256),k4 v.2 (wi k 256)))
 else none
def Dj(f g:Nat)(c:Cnt)(i:Int)(q:Lq)(k:Int):Option Sp:=
 (vK f c i 0).bind λs0=>(pT (λj=>IJ c q (gX (wi k 256)) (dq c i s0 j)) g 0).bind λj=>valR f g c i q k (je q (dq c i s0 j))
abbrev bI(k:Int):AV:= .aptr [[i64 k]] 0 0
theorem kD(k:Int):Closed (bI k):=bi (ae (ak _) af)
def vaS(c:Cnt)(i:Int)(q:Lq)(k:Int)(step:Rat):Nat->AState
 |j=>⟨[(3,bPl c i),(4,bP q),(5,bI k),(6,.lptr 1 0 0),(7,bQ step),(14,.clos 311 [] [bPl c i])],[(1,some ⟨51,6,[zC++zC]⟩)],2,61⟩
def vaX(r:Sp):Unit->AState
 |u=>⟨[(6,.lptr 1 0 0)],[(1,some ⟨51,6,[spC r.1 r.2]⟩)],2,61⟩
theorem Kb(f g:Nat)(c:Cnt)(i:Int)(q:Lq)(k:Int)(r:Sp)(h:Dj f g c i q k=some r)(hf:f<=1000000):FS 250 [plA c i,.arr (pE q),i64 k] (.agg (spC r.1 r.2)):=by
 unfold Dj at h;obtain⟨p,R,h2⟩:=Option.bind_eq_some_iff.1 h;obtain⟨y,Q,a⟩:=Option.bind_eq_some_iff.1 h2;obtain⟨t1,_,t2⟩:=lC Q;obtain⟨step,w⟩:∃step,step=gX (wi k 256):=⟨_,rfl⟩;rw[<-w] at t1 t2
 have J:∀j,j<=y->z8 q (dq c i p j)/\smS (je q (dq c i p j))/\sm ((je q (dq c i p j)).2- (je q (dq c i p j)).1)/\sm step/\nW c (dq c i p j):=λj C=>by
  have:∃b,IJ c q step (dq c i p j)=some b:=by
   by_cases e:j=y;rw[e];exact⟨_,t1⟩;exact⟨_,t2 j (Nat.zero_le _) ω⟩
  obtain⟨b,hb⟩:=this;unfold IJ at hb;split at hb;assumption;cases hb
 have U:=tw f c i p y R (λj C=>(J j ω).2.2.2.2);have K:=r6 k;rw[<-w] at K;refine f_n Tryz.func250 ?_ ?_;exact ae (dN c i) (ae (aD q) (ae (ak _) af));refine r_z 4 ?_;refine r_c 4 (K) ?_;refine a_z ?_;refine AWp.ent (st':=⟨[(3,bPl c i),(4,bP q),(5,bI k),(6,.lptr 1 0 0),(7,bQ step)],[(1,some ⟨51,6,[zC++zC]⟩)],2,61⟩) ?_ ?_;have:=(ae (dN c i) af);exact s_f [(1,6)];refine ac (r_c 2 (tE c i) ?_);refine aq ?_;refine aC (vaX r) (λ_=>False) ?_ (λ_ h=>h.elim);refine ah (AWp.rangeFuncB (α:=Nat) (γ:=Unit) y (vaS c i q k step) (λj=>j) (λj=>j<=y) (vaX r) (λe _=>e= .ret) 0 rfl U rfl rfl ?_ (λ_=>⟨rfl,rfl⟩) (λ_=>rfl) (Nat.zero_le _) rfl (λ_ h=>h) ?_ ?_ ?_ ?_ ?_);intro j xs F;cases F;rfl;rw[vaS.eq_1];have:=kD k;exact s_t [];exact ae (ea c i) af;intro l j xs C F;cases F;have M:=J j C;obtain⟨s,o⟩:∃s,s=dq c i p j:=⟨_,rfl⟩;rw[<-o] at M⊢;obtain⟨Y,B,L,O,x5⟩:=M;obtain⟨v,hv⟩:∃v,v=je q s:=⟨_,rfl⟩;have D:=fs_Over q s Y;rw[<-hv] at D B L;show AWp _ _ _ _ ⟨[(15,.agg (spC s.1 s.2)),(3,bPl c i),(4,bP q),(5,bI k),(6,.lptr 1 0 0),(7,bQ step),(14,.clos 311 [] [bPl c i]),(1003,bPl c i),(1004,bP q),(1005,bI k),(1006,.lptr 1 0 0),(1007,bQ step),(1014,.clos 311 [] [bPl c i])],[(1,some ⟨51,6,[zC++zC]⟩)],2,61⟩;refine r_m 2 ?_;refine a_z ?_;refine ah (r_c 5 (D) ?_);refine a_z ?_;refine ac (ac (r_d aX 5 ?_));refine c_s (yT v.1 v.2 B.1 B.2) ?_;refine c_s (wX (v.2- v.1) step L O) ?_;refine a_1 ?_;refine aq (n_k ?_);refine ar rfl (λV=>?_) (λV=>?_)
 have S:¬fb (v.2- v.1) step< 0:=by
  have:0<=fb (v.2- v.1) step:=by simpa using V
  omega
 have X:j< y:=by
  refine Nat.lt_of_le_of_ne C λe=>?_;subst e;rw[<-o] at t1;unfold IJ at t1;rw[<-hv] at t1;rw[if_pos ⟨Y,B,L,O,x5⟩] at t1;simp[S] at t1
 refine ax (⟨j+1,⟨X,rfl⟩,?_⟩);show SEntT _ ⟨[(1003,bPl c i),(1004,bP q),(1005,bI k),(1006,.lptr 1 0 0),(1007,bQ step),(1014,.clos 311 [] [bPl c i])],[(1,some ⟨51,6,[zC++zC]⟩)],2,61⟩;have:=kD k;exact s_t []
 ·have S:fb (v.2- v.1) step< 0:=by
   have:¬0<=fb (v.2- v.1) step:=by simpa using V
   omega
  have X:j=y:=by
   refine Nat.le_antisymm C (Nat.le_of_not_lt λN=>?_);have n:=t2 j (Nat.zero_le _) N;rw[<-o] at n;unfold IJ at n;rw[<-hv] at n;rw[if_pos ⟨Y,B,L,O,x5⟩] at n;simp[S] at n
  subst X;rw[<-o,<-hv] at a;unfold valR at a;rw[<-w] at a;obtain⟨m,hm⟩:∃m,m=k4 v.2 (wi k 256):=⟨_,rfl⟩;rw[<-hm] at a;split at a
  case isFalse=>cases a
  case isTrue hz=>
  obtain⟨G,z2,z3,z4,z5⟩:=hz;have H:=GF v.2 k B.2;rw[<-hm] at H;refine aj (r_c 6 (H) ?_);refine a_z ?_;refine ac (r_c 5 (wX m v.1 G z2.1) ?_);refine a_z ?_;refine ar rfl (λn=>?_) (λn=>?_);have W:fb m v.1< 0:=by simpa using n
  rw[if_pos W] at a;cases a;refine ac (r_d aX 6 ?_);refine c_s (fD m step (sm2 G z3)) ?_;refine a_2 ?_;refine aq (n_k ?_);refine ai (⟨rfl,(),rfl,?_⟩);show SEntT _ ⟨[(1006,.lptr 1 0 0)],[(1,some ⟨51,6,[spC (m,m+step).1 (m,m+step).2]⟩)],2,61⟩;have:=kD k;exact s_t [];have W:¬fb m v.1< 0:=by simpa using n
  rw[if_neg W] at a;obtain⟨sg,T,Z⟩:=Option.bind_eq_some_iff.1 a;cases Z;have hcl:=nk m;have E:smL (eM m):=vM λx M=>by rw[List.mem_singleton.1 M];exact G
  refine aj (ac (ac (r_d aX 6 ?_)));refine c_s (uC m) ?_;refine c_s (Kx q (eM m) z4 E ω ω) ?_;refine c_s (fs_sign f g c i (dQ q (eM m)) sg T hf) ?_;refine aq (n_k ?_);refine ah (r_z 2 ?_);refine ar rfl (λz=>?_) (λz=>?_);have d:sg=0:=by simpa using z
  refine r_c 3 (Cn m) ?_;refine a_z ?_;refine ai (⟨rfl,(),rfl,?_⟩);rw[if_pos d];show SEntT _ ⟨[(1006,.lptr 1 0 0)],[(1,some ⟨51,6,[spC (m,m).1 (m,m).2]⟩)],2,61⟩;have:=kD k;exact s_t [];have d:¬sg=0:=by simpa using z
  refine r_z 2 ?_;refine ar rfl (λA=>?_) (λA=>?_);have t:sg=1:=by simpa using A
  refine ac (r_d aX 6 ?_);refine c_s (fD m step (sm2 G z3)) ?_;refine a_2 ?_;refine aq (n_k ?_);refine ai (⟨rfl,(),rfl,?_⟩);rw[if_neg d,if_pos t];show SEntT _ ⟨[(1006,.lptr 1 0 0)],[(1,some ⟨51,6,[spC (m,m+step).1 (m,m+step).2]⟩)],2,61⟩;have:=kD k;exact s_t [];have t:¬sg=1:=by simpa using A
  refine aj (ac (r_d aX 6 ?_));refine c_s (kU m step (sm2 G z3)) ?_;refine a_3 ?_;refine aq (n_k ?_);refine ai (⟨rfl,(),rfl,?_⟩);rw[if_neg d,if_neg t];show SEntT _ ⟨[(1006,.lptr 1 0 0)],[(1,some ⟨51,6,[spC (m- step,m).1 (m- step,m).2]⟩)],2,61⟩;have:=kD k;exact s_t []
 intro j C F;cases F;rintro e u rfl;exact Fin.cell rfl rfl rfl TG.h TS.h (nle rfl) (ao aF (b9 _ _))
end Go.Proofs.YtjmkjicckobojaaGreatDoor
