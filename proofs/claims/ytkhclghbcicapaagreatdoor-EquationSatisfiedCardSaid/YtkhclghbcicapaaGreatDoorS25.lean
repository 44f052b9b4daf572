/- Part S25 of the proof. -/
import Derived.Test.YtkhclghbcicapaaGreatDoorS24
set_option linter.all false
namespace Go.Proofs.YtkhclghbcicapaaGreatDoor
open Go.Abs
set_option maxRecDepth 20000
set_option maxHeartbeats 2000000
theorem uQ(f:Nat)(p r:List Rat)(h:sqfM f p=some r):FS 201 [.arr (pE p)] (.arr (pE r)):=by
 unfold sqfM at h;split at h
 case isFalse=>cases h
 case isTrue hs=>
 obtain⟨g,hg,a⟩:=Option.bind_eq_some_iff.1 h;split at a
 case isFalse=>cases a
 case isTrue hg2=>
 cases a;have c:=mG p;have b:=ue (p:=p) (q:=g);refine f_c Tryz.func201 ?_;refine r_z 1 ?_;refine r_c 11 (qB p hs.1 (by omega)) ?_;refine c_s (GK f p (dO p) g hg hs.2 (by omega)) ?_;refine c_s (qw p g (mxL p) (mxL g) (eJ p) (eJ g) (ej p) (ej g) hg2.2.1 hg2.1 hs.2 hg2.2.2.2) ?_;refine a_z ?_;refine r_c 3 (tM (fR p g).1 (xQ hg2.2 hg2.1).1 (by omega)) ?_;refine a_z ?_;exact ai (t_e (ax _))
def boS(t:List Rat)(l:List Rat):Nat×Rat→AState
 |(i,m)=>⟨[(0,.arr (pE t)),(2,.lptr 1 0 0),(3,.lptr 2 0 0),(13,.arr (pE l)),(14,i64 l.length),(15,i64 i)],[(1,some ⟨34,3,[zC]⟩),(2,some ⟨34,3,[qC m]⟩)],3,31⟩
theorem GC(p:List Rat)(h:oO p)(h0:aq p≠[]):FS 272 [.arr (pE p)] (.agg (qC (gd p))):=by
 obtain⟨C,G⟩:=h;obtain⟨t,ht⟩:∃t,t=aq p:=⟨_,rfl⟩;have f:=dc p (by omega);have y:=bU p;rw[←ht] at f y;obtain⟨l,hl⟩:∃l,l=t.take (t.length- 1):=⟨_,rfl⟩;have a:l.length=t.length- 1:=by rw[hl];simp
 have u:bdL l (mxL p):=fun q z=>eJ p q (cX (by rw[←ht];exact List.mem_of_mem_take (by rw[←hl];exact z)));have A:0< t.length:=by rw[ht];exact List.length_pos_iff.2 h0
 have e:aR t=aR p:=by rw[ht,Bh]
 have H:qs (aR p)≤mxL p:=by
  obtain⟨n,F⟩:∃n,(aq p).length=n+1:=⟨(aq p).length- 1,by rw[←ht];omega⟩;exact eJ p _ (cX (List.mem_of_getElem? (dT F)))
 have hb:gd p=boL (aR p) l 0+1:=by unfold gd;rw[←ht,←hl]
 rw[hb];obtain⟨B,hB⟩:∃B,B=boL (aR p) l 0:=⟨_,rfl⟩;rw[←hB];refine f_c Tryz.func272 ?_;refine r_z 1 ?_;refine r_c 3 (f) ?_;refine a_z ?_;refine r_z 3 ?_;refine ae (s_r 7 ?_);refine a_4 ?_;refine o_0 (.sa_h rfl rfl (h:=t.length- 1) (by omega) (by simp) te_36.h (kV _)) ?_;refine a_z ?_;refine aH (fun _:Unit=>⟨[(2,.lptr 1 0 0),(3,.lptr 2 0 0)],[(1,some ⟨34,3,[zC]⟩),(2,some ⟨34,3,[qC B]⟩)],3,31⟩) (fun _=>qs B≤2* mxL p+1) ?_ ?_;refine aj (aB (boS t l) (fun x=>l.length- x.1) (fun x=>x.1≤l.length∧qs x.2≤2* mxL p+1∧boL (aR p) (l.drop x.1) x.2=B) (0,0) ⟨Nat.zero_le _,Nat.le_trans (by decide:qs 0≤1) (Nat.le_add_left 1 _),by rw[hB];rfl⟩ ?_ ?_);simp only[boS.eq_1];rw[qC0];have d:AV.arr (List.take (t.length- 1) (pE t))=AV.arr (pE l):=by rw[hl,rO]
 refine s_x [(1,2),(2,3)] (fun hs=>?_) (fun hs=>?_) ?_
 ·repeat' (first|exact aK|refine az rfl ?_ ?_|exact Cv.loE hs d (d▸ax l)|exact aW|(refine Cv.loE hs ?_ (ag _);first|rfl|(simp[i64,u64,u32,bln,a];done)|(simp[i64,u64,u32,bln,a]<;> omega)))
 ·repeat' (first|exact aE|refine h_c ?_ ?_|exact bF|(refine aI hs ?_ (aL _);first|(simp[iP,j6,a];done)|(simp[pE,ofV,a];done))|refine aC ?_|exact av|refine ah ?_ ?_|exact Cv.loE hs d (d▸ax l)|exact aW|(refine Cv.loE hs ?_ (ag _);first|(simp[i64,u64,u32,bln,a];done)|(simp[i64,u64,u32,bln,a]<;> omega)))
 ·repeat' (first|exact ShrL.nil|refine ShrL.cons rfl rfl rfl rfl (by first|rfl|(simp;done)|(simp[a]<;> omega)) ?_)
 rintro⟨i,m⟩ ⟨E,v,b⟩;simp only at E v b;rw[boS.eq_1];refine r_z 1 ?_;refine ae (ap rfl (fun h=>?_) (fun h=>?_));refine am ?_;have c:i< l.length:=by simpa using h
 have g:(pE l)[((i:Nat):Int).toNat]?=some (qC (coP l i)):=pE_get (b9 c);have hc:qs (coP l i)≤mxL p:=u _ (List.mem_of_getElem? (b9 c));rw[xN c] at b;have z:=gY (coP l i) (aR p);have k:=nh t (by omega);rw[e] at k;have D:=qs_abs (coP l i/ aR p)
 have j:bdL [m,fM (coP l i/ aR p)] (2* mxL p+1):=by
  intro x w;rcases List.mem_cons.1 w with rfl|w
  exact v;rw[List.mem_singleton.1 w];omega
 have r:=xn [m,fM (coP l i/ aR p)] (cW j (by omega)) (by simp);refine ae (aj (s_r 4 ?_));refine i_x g ?_;refine l_x g ?_;refine a_z ?_;refine r_d aY 9 ?_;refine c_s (k) ?_;refine c_s (gH (coP l i) (aR p) (gG h0) (by omega)) ?_;refine c_s (qA (coP l i/ aR p)) ?_;refine a_1 ?_;refine o_1 (.callS1 rfl rfl rfl (.shut rfl d_n (.nil)) rfl (r)) ?_;refine a_1 ?_;refine ao (n_k ?_);refine r_m 2 ?_;refine a_z ?_;refine⟨(i+1,nS [m,fM (coP l i/ aR p)]),by simp only;omega,⟨c,maxL_le j (Nat.le_add_left 1 _),b⟩,?_⟩;simp only[boS.eq_1];exact s_e []
 have s:i=l.length:=by
  have:¬i< l.length:=by simpa using h
  omega
 subst s;rw[List.drop_length] at b;have o:m=B:=b;subst o;refine ay ⟨(),v,?_⟩;exact s_e [];rintro _ z;have h1:qs 1=1:=by decide
 refine ae (r_d aY 4 ?_);refine c_s (dK 1 (by decide)) ?_;refine c_s (fl B 1 (by omega)) ?_;refine a_1 ?_;refine ao (n_k ?_);exact ai (c_e (aP _))
def stS:List Rat×List (List Rat)→AState
 |(next,acc)=>⟨[(3,.lsl 1 0 acc.length none 1),(4,.arr (pE next))],[(1,some ⟨36,1,cE acc⟩)],2,40⟩
theorem AK(next:List Rat)(acc:List (List Rat)):stS (next,acc)=⟨[(3,.lsl 1 0 acc.length none 1),(4,.arr (pE next))],[(1,some ⟨36,1,cE acc⟩)],2,40⟩:=rfl
theorem D3(p:List Rat):(ee p).length≤p.length:=
 Nat.le_trans (cy _ _) (bU p)
theorem Gp(f:Nat)(p:List Rat)(r:List (List Rat))(h:AI f p=some r)(hf:f≤1000000):FS 202 [.arr (pE p)] (.arr (cE r)):=by
 unfold AI at h;split at h
 case isFalse=>cases h
 case isTrue hp=>
 have l:=mG p;have n:=hp.2.1.2;refine f_c Tryz.func202 ?_;refine r_z 1 ?_;refine r_c 4 (pe p hp.2.1 hp.2.2) ?_;refine a_z ?_;refine ae (r_c 3 (qB p hp.1 (by omega)) ?_);refine a_z ?_;refine aH (fun _:Unit=>⟨[(3,.lsl 1 0 r.length none 1)],[(1,some ⟨36,1,cE r⟩)],2,40⟩) (fun _=>True) ?_ ?_
 ·refine aj (aB (fun x:Nat×List Rat×List Rat×List (List Rat)=>stS x.2.2) (fun x=>x.1) (fun x=>xY f x.1 x.2.1 x.2.2.1 x.2.2.2=some r∧x.2.2.1.length≤274877906944∧x.2.2.2.length+x.1≤1000001∧1≤x.2.2.2.length∧x.2.2.2[x.2.2.2.length- 1]?=some x.2.1) (f,ee p,dO p,[ee p]) ⟨h,by simp only;omega,by simp only[List.length_singleton];omega,by simp,rfl⟩ ?_ ?_)
  simp only[AK];have:=jd [ee p];exact s_f [(1,3)];rintro⟨k,last,next,a⟩ ⟨h,m,o,i,b⟩;simp only at h m o i b;simp only[AK];cases k with
  |zero=>cases h
  |succ k=>
   rw[xY] at h;refine ae (r_c 3 (cI next (by omega)) ?_);refine a_z ?_;refine ap rfl (fun h1=>?_) (fun h1=>?_)
   ·have c:aq next≠[]:=by
     intro e;have e2:=degP_neg.2 e;simp at h1;omega
    rw[if_neg c] at h;split at h
    case isFalse=>cases h
    case isTrue hs=>
    have s:=D3 next
    have j:=ue (p:=last) (q:=ee next);have u:=cy (fR last (ee next)).2 (-1);have t:=hs.2.1.2.1
    have g:(cE (a++[ee next]))[0+(((a.length+1:Nat):Int)- 2).toNat]?=some [.arr (pE last)]:=by
     rw[show 0+(((a.length+1:Nat):Int)- 2).toNat=a.length- 1 by omega];exact Ca (by rw[List.getElem?_append_left (by omega)];exact b)
    have d:(cE (a++[ee next]))[0+(((a.length+1:Nat):Int)- 1).toNat]?=some [.arr (pE (ee next))]:=by
     rw[show 0+(((a.length+1:Nat):Int)- 1).toNat=a.length by omega];exact Ca (by simp)
    refine am (aj (r_c 6 (pe next hs.1 c) ?_));refine a_z ?_;refine AWp.ent (st':=⟨[(3,.lsl 1 0 (a.length+1) none 1)],[(1,some ⟨36,1,cE (a++[ee next])⟩)],2,40⟩) ?_ ?_
    ·have:=(cE_snoc a (ee next)).symm
     exact s_f [(1,3)]
    refine ae (r_d aY 18 ?_);refine a_5 ?_;refine aO (.load_l1 rfl rfl g TG.h rfl) rfl rfl ?_;refine a_5 ?_;refine aO (.load_l1 rfl rfl d TG.h rfl) rfl rfl ?_;refine c_s (qw last (ee next) (mxL last) (mxL (ee next)) (eJ _) (eJ _) (ej _) (ej _) hs.2.1.1 hs.2.2 hs.2.1.2.1 hs.2.1.2.2) ?_;refine a_5 ?_;refine ao (n_k ?_);refine r_m 4 ?_;refine c_s (dK (-1) (by decide)) ?_;refine c_s (eD (fR last (ee next)).2 (-1) (xQ hs.2.1 hs.2.2).2 (by decide) (by omega)) ?_;refine a_z ?_;refine⟨(k,ee next,aZ (fR last (ee next)).2 (-1),a++[ee next]),Nat.lt_succ_self k,⟨h,by simp only;omega,by simp only[List.length_append,List.length_singleton];omega,by simp,by simp⟩,?_⟩;have b:(a++[ee next]).length=a.length+1:=by simp
    simp only[AK,b];exact s_f []
   ·have c:aq next=[]:=by
     refine degP_neg.1 ?_;simp at h1;omega
    rw[if_pos c] at h;cases h;refine ay ⟨(),trivial,?_⟩;exact s_f []
 rintro _ _;refine r_z 2 ?_;exact ai (Fin.tmpS rfl rfl rfl (by simp) (jd r))
def chS(ch:List (List Rat))(g:Nat)(cap:List AV):Nat×Int×Int→AState
 |(i,n,last)=>⟨[(1,.clos g [] cap),(5,i64 n),(6,i64 last),(10,.arr (cE ch)),(11,i64 ch.length),(12,i64 i)],[],1,30⟩
theorem ux(ch:List (List Rat))(g:Nat)(cap:List AV)(i:Nat)(n:Int)(last:Int):chS ch g cap (i,n,last)=⟨[(1,.clos g [] cap),(5,i64 n),(6,i64 last),(10,.arr (cE ch)),(11,i64 ch.length),(12,i64 i)],[],1,30⟩:=rfl
theorem tR(ch:List (List Rat))(g:Nat)(cap:List AV)(sg:List Rat→Int)(hcap:∀c∈cap,Closed c)(hsg:∀q∈ch,-1≤sg q∧sg q≤1)(hl:ch.length≤274877906944)(hg:∀q∈ch,FS g ((.arr (pE q)::cap).map coe) (i64 (sg q))):FS 203 [.arr (cE ch),.clos g [] cap] (i64 (chL (ch.map sg) 0 0)):=by
 refine f_n Tryz.func203 ?_ ?_;exact ac (nq ch) (ac (aQ af hcap) af);refine r_z 1 ?_;refine r_z 2 ?_;refine ae (r_z 3 ?_);obtain⟨R,v⟩:∃R,R=chL (ch.map sg) 0 0:=⟨_,rfl⟩;rw[←v];refine aH (fun _:Unit=>⟨[(5,i64 R)],[],1,30⟩) (fun _=>True) ?_ ?_;refine aj (aB (chS ch g cap) (fun x=>ch.length- x.1) (fun x=>x.1≤ch.length∧0≤x.2.1∧x.2.1≤x.1∧ -1≤x.2.2∧x.2.2≤1∧chL ((ch.drop x.1).map sg) x.2.1 x.2.2=R) (0,0,0) ⟨Nat.zero_le _,by decide,by decide,by decide,by decide,by rw[v];rfl⟩ ?_ ?_);simp only[ux];exact s_x [] (fun hs=>e_2) (fun hs=>e_15);rintro⟨i,n,last⟩ ⟨y,d,p,j,l,hc⟩;simp only at y d p j l hc;rw[ux];refine r_z 1 ?_;refine ae (ap rfl (fun h=>?_) (fun h=>?_));refine am ?_;have a:i< ch.length:=by simpa using h
 obtain⟨q,o⟩:∃q,ch[i]?=some q:=⟨_,List.getElem?_eq_getElem a⟩;have m:=List.mem_of_getElem? o;have k:(cE ch)[((i:Nat):Int).toNat]?=some [.arr (pE q)]:=Ca o
 have w:ch.drop i=q::ch.drop (i+1):=by
  rw[List.drop_eq_getElem_cons a];rw[List.getElem?_eq_getElem a] at o;rw[Option.some.inj o]
 rw[w,List.map_cons,chL] at hc;have b:=hsg q m;refine ae (aj (s_r 3 ?_));refine i_x k ?_;refine l_1 k ?_;refine a_z ?_;refine r_c 4 (hg q m) ?_;refine a_z ?_;refine r_z 2 ?_;refine ap rfl (fun h1=>?_) (fun h1=>?_);have f:sg q≠0:=by simpa using h1
 rw[if_pos f] at hc;refine ae (r_z 4 ?_);refine ap rfl (fun u=>?_) (fun u=>?_);have t:sg q= -last:=by simpa using u
 rw[if_pos t] at hc;refine r_m 3 ?_;refine a_z ?_;refine r_m 2 ?_;refine a_z ?_;refine r_m 2 ?_;refine a_z ?_;refine⟨(i+1,n+1,sg q),by simp only;omega,⟨a,by simp only;omega,by simp only;omega,b.1,b.2,hc⟩,?_⟩;simp only[ux];exact s_x [] (fun hs=>e_2) (fun hs=>e_15);have t:¬sg q= -last:=by simpa using u
 rw[if_neg t] at hc;refine am (r_m 2 ?_);refine a_z ?_;refine r_m 2 ?_;refine a_z ?_;refine⟨(i+1,n,sg q),by simp only;omega,⟨a,d,by simp only;omega,b.1,b.2,hc⟩,?_⟩;simp only[ux];exact s_x [] (fun hs=>e_2) (fun hs=>e_15);have f:sg q=0:=by simpa using h1
 rw[if_neg (fun e=>e f)] at hc;refine am (r_m 2 ?_);refine a_z ?_;refine⟨(i+1,n,last),by simp only;omega,⟨a,d,by simp only;omega,j,l,hc⟩,?_⟩;simp only[ux];exact s_x [] (fun hs=>e_2) (fun hs=>e_15)
 have s:i=ch.length:=by
  have:¬i< ch.length:=by simpa using h
  omega
 subst s;rw[List.drop_length] at hc;have r:n=R:=hc;subst r;refine ay ⟨(),trivial,?_⟩;exact s_e [];rintro _ _;refine r_z 2 ?_;exact ai (t_e (ag _))
theorem BI(q:List Rat)(h0:aq q≠[])(hl:q.length≤274877906944):FS 204 [.arr (pE q)] (i64 (sgI q)):=by
 have a:¬bv q< 0:=fun e=>h0 (degP_neg.1 e);have hb:=mQ (aR q).num;refine f_c Tryz.func204 ?_;refine r_z 1 ?_;refine ae (r_c 4 (cI q (by omega)) ?_);refine a_z ?_;refine ap rfl (fun h=>?_) (fun h=>?_);have h1:bv q % 2=1:=by simpa using h
 refine r_c 5 (nh q (by omega)) ?_;refine c_s (ci (aR q)) ?_;refine a_z ?_;refine ai (aU rfl ?_ ?_);unfold sgI;rw[if_pos h1];rfl;exact ag _;have h1:¬bv q % 2=1:=by simpa using h
 refine am (r_c 4 (nh q (by omega)) ?_);refine c_s (ci (aR q)) ?_;refine a_z ?_;refine ai (aU rfl ?_ ?_);unfold sgI;rw[if_neg h1];exact ag _
theorem qy(f:Nat)(p:List Rat)(c:Cnt)(h:iX f p=some c)(hf:f≤1000000):FS 173 [.arr (pE p)] (kA c):=by
 unfold iX at h;obtain⟨s,hs,g⟩:=Option.bind_eq_some_iff.1 h;obtain⟨ch,b,d⟩:=Option.bind_eq_some_iff.1 g;split at d
 case isFalse=>cases d
 case isTrue hk=>
 cases d;have a:=tR ch 204 [] sgI af (fun q _=>sgI_abs q) hk.2.1 (fun q e=>BI q (hk.1 q e).1 (hk.1 q e).2);refine f_c Tryz.func173 ?_;refine r_z 1 ?_;refine r_c 5 (uQ f p s hs) ?_;refine a_z ?_;refine r_c 9 (Gp f s ch b hf) ?_;refine a_z ?_;refine r_c 9 (a) ?_;refine a_z ?_;refine r_z 2 ?_;exact ai (Fin.tmpP rfl rfl rfl (vZ _))
theorem Gl(q:List Rat)(x:Rat)(h:e8 q x):FS 205 [.arr (pE q),bQ x] (i64 (sgE x q)):=by
 refine f_c Tryz.func205 ?_;refine r_z 1 ?_;refine r_c 5 (jJ q x h) ?_;refine c_s (ci (au q x)) ?_;refine a_z ?_;exact ai (t_e (ag _))
theorem nf(c:Cnt)(x:Rat)(h:rD c x):FS 175 [kA c,.agg (qC x)] (i64 (eV c x)):=by
 have a:=tR c.ch 205 [bQ x] (sgE x) (ac (cn x) af) (fun q _=>mQ _) h.1.2.1 (fun q b=>Gl q x (h.2 q b));have hb:=oh (x:=x) h.1;unfold eV at hb⊢;refine f_c Tryz.func175 ?_;refine r_z 2 ?_;refine AWp.ent (st':=⟨[(0,kA c),(3,bQ x)],[],1,16⟩) ?_ ?_;exact s_e [];refine ae (r_d aY 12 ?_);refine c_s (a) ?_;refine a_2 ?_;refine ao (n_k ?_);exact ai (t_e (ag _))
theorem kn(c:Cnt)(x:Rat)(h:oQ c x):FS 174 [kA c,.agg (qC x)] (i64 (dA c x)):=by
 have hb:=oh (x:=x) h.1.1;refine f_c Tryz.func174 ?_;refine r_z 2 ?_;refine r_c 4 (nf c x h.1) ?_;refine a_z ?_;refine bh (fun n:Int=>⟨[(5,i64 n)],[],1,20⟩) (fun n=>n=dA c x) ?_ ?_;refine ae (r_d aY 8 ?_);refine c_s (jJ c.p x h.2) ?_;refine c_s (ci (au c.p x)) ?_;refine a_1 ?_;refine ao (n_k ?_);refine ap rfl (fun h1=>?_) (fun h1=>?_)
 have a:au c.p x=0:=by
  have:sgZ (au c.p x).num=0:=by simpa using h1
  exact sgZ_num_eq.1 this
 refine r_m 3 ?_;refine a_z ?_;refine⟨eV c x- 1,by unfold dA;rw[if_pos a],?_⟩;exact s_e []
 have a:au c.p x≠0:=by
  intro e;have:¬sgZ (au c.p x).num=0:=by simpa using h1
  exact this (sgZ_num_eq.2 e)
 refine am ⟨eV c x,by unfold dA;rw[if_neg a],?_⟩;exact s_e [];rintro n rfl;refine r_z 2 ?_;exact ai (t_e (ag _))
theorem xi(c:Cnt)(i:Int)(x:Rat)(h:oQ c x):FS 243 [plA c i,.agg (qC x)] (i64 (plC c i x)):=by
 refine f_n Tryz.func243 ?_ ?_;exact ac (c9 c i) (ac (aP x) af);refine r_z 2 ?_;refine ae (ae (r_d aY 7 ?_));refine c_s (kn c x h) ?_;refine a_1 ?_;refine ao (n_k ?_);refine aH (fun _:Unit=>⟨[],[],1,36⟩) (fun _=>plC c i x=1) ?_ ?_;refine aj (r_z 7 ?_);refine ap rfl (fun h1=>?_) (fun h1=>?_);have a:i< dA c x:=by simpa using h1
 refine r_z 1 ?_;refine ai (aU rfl ?_ ?_);unfold plC;rw[if_pos a];rfl;exact ag _;have a:¬i< dA c x:=by simpa using h1
 by_cases h3:dA c x=i;refine ae (r_d aY 17 ?_);refine a_7 ?_;refine y_g rfl (by simp[h3]) (.move rfl) ?_;refine y_g rfl (by simp[h3]) (.nilCheck rfl rfl) ?_;refine y_g rfl (by simp[h3]) (.fieldAddr_a rfl TF.h (by decide)) ?_;refine y_g rfl (by simp[h3]) (.load_a1 rfl rfl TG.h rfl) ?_;refine y_g rfl (by simp[h3]) (.load_l rfl rfl rfl TG.h TS.h (nle rfl)) ?_;refine y_g rfl (by simp[h3]) (.call rfl rfl rfl (nf c x h.1)) ?_;refine y_g rfl (by simp[h3]) (.move rfl) ?_;refine y_g rfl (by simp[h3]) (.bin rfl rfl kF) ?_;refine o_0 (.pickT rfl (by simp[h3]) rfl) ?_;refine a_1 ?_;refine ao (n_k ?_);refine ap rfl (fun d=>?_) (fun d=>?_);have b:dA c x< eV c x:=by simpa using d
 refine r_z 1 ?_;refine ai (aU rfl ?_ ?_);unfold plC;rw[if_neg a,if_pos ⟨h3,b⟩];rfl;exact ag _;have b:¬dA c x< eV c x:=by simpa using d
 refine am ⟨(),by unfold plC;rw[if_neg a,if_neg fun e=>b e.2],?_⟩;exact s_e [];refine ae (r_d aY 17 ?_);refine a_7 ?_;refine n_g rfl (by simp[h3]) ?_;refine n_g rfl (by simp[h3]) ?_;refine n_g rfl (by simp[h3]) ?_;refine n_g rfl (by simp[h3]) ?_;refine n_g rfl (by simp[h3]) ?_;refine n_g rfl (by simp[h3]) ?_;refine n_g rfl (by simp[h3]) ?_;refine n_g rfl (by simp[h3]) ?_;refine o_0 (.pickF rfl (by simp[h3]) rfl) ?_;refine a_1 ?_;refine ao (n_k ?_);refine cF ?_;refine am ⟨(),by unfold plC;rw[if_neg a,if_neg fun e=>h3 e.1],?_⟩;exact s_e [];rintro _ f;refine r_z 1 ?_;refine ai (aU rfl ?_ ?_);rw[f];rfl;exact ag _
def hiV(c:Cnt)(step:Rat):Rat:=uD (gd c.p/ step)
def FW(c:Cnt)(step:Rat)(lo:Rat):Prop:=oO c.p∧aq c.p≠[]∧step≠0∧qs (gd c.p)+qs step≤549755813888∧qs lo+qs step≤549755813888∧oQ c (lo* step)
instance (c:Cnt) (step lo:Rat):Decidable (FW c step lo):=inferInstanceAs (Decidable (_∧_∧_∧_∧_∧_))
def G6(f:Nat)(c:Cnt)(i:Int)(step:Rat):Option (Rat×Bool):=
 (biM c i step f (-hiV c step) (hiV c step)).bind fun lo=>if FW c step lo then some (lo* step,plC c i (lo* step)==0) else none
def dnS(c:Cnt)(i:Int)(step:Rat):Rat×Rat→AState
 |(lo,hi)=>⟨[(0,plA c i),(3,.lptr 1 0 0),(4,.lptr 2 0 0),(6,.lptr 3 0 0),(7,.lptr 4 0 0),(8,.lptr 5 0 0)],[(1,some ⟨34,3,[qC step]⟩),(2,some ⟨34,3,[zC]⟩),(3,some ⟨34,3,[qC hi]⟩),(4,some ⟨34,3,[qC lo]⟩),(5,some ⟨34,3,[qC 2]⟩)],6,52⟩
theorem fs_down(f:Nat)(c:Cnt)(i:Int)(step:Rat)(r:Rat×Bool)(h:G6 f c i step=some r):FS 266 [plA c i,.agg (qC step)] (.tup [.agg (qC r.1),bln r.2]):=by
 unfold G6 at h;obtain⟨l,hl,b⟩:=Option.bind_eq_some_iff.1 h;split at b
 case isFalse=>cases b
 case isTrue hk=>
 cases b;obtain⟨m,j,k3,q,s,n⟩:=hk;have t:=gY (gd c.p) step;refine f_n Tryz.func266 ?_ ?_;exact ac (c9 c i) (ac (aP step) af);refine r_z 3 ?_;refine ae (r_d aY 13 ?_);refine c_s (GC c.p m j) ?_;refine c_s (gH (gd c.p) step k3 q) ?_;refine c_s (Dg (gd c.p/ step) (by omega)) ?_;refine a_2 ?_;refine ao (n_k ?_);refine r_c 4 (jU (uD (gd c.p/ step))) ?_;refine a_z ?_;refine r_c 3 (dK 2 (by decide)) ?_;refine a_z ?_;refine bh (fun a:Rat=>dnS c i step (l,a)) (fun _=>True) ?_ ?_
 ·refine aj (aB (fun x:Nat×Rat×Rat=>dnS c i step x.2) (fun x=>x.1) (fun x=>biM c i step x.1 x.2.1 x.2.2=some l) (f,-hiV c step,hiV c step) hl ?_ ?_)
  simp only[dnS.eq_1,hiV];exact s_e [(2,4),(3,6),(4,7),(5,8)];rintro⟨f,lo,a⟩ h;simp only at h;simp only[dnS.eq_1];cases f with
  |zero=>cases h
  |succ f=>
   rw[biM] at h;split at h
   case isFalse=>cases h
   case isTrue hs=>
   obtain⟨s1,s2,o⟩:=hs;refine ae (r_c 6 (kZ a lo (sm2 s2 s1)) ?_);refine c_s (dK 1 (by decide)) ?_;refine c_s (nX (a- lo) 1 o (by decide)) ?_;refine a_z ?_;refine ap rfl (fun h1=>?_) (fun h1=>?_)
   ·have b:0< ft (a- lo) 1:=by simpa using h1
    rw[if_pos b] at h;split at h
    case isFalse=>cases h
    case isTrue ht=>
    obtain⟨t1,t2⟩:=ht;have hq1:=kS lo a;have g:qs 2=2:=by decide
    have k:=gY (lo+a) 2;unfold sm at s1 s2;refine am (aj (ae (r_d aY 8 ?_)));refine c_s (fl lo a (by omega)) ?_;refine c_s (gH (lo+a) 2 (by decide) (by omega)) ?_;refine c_s (ph ((lo+a) / 2) (by omega)) ?_;refine a_2 ?_;refine ao (n_k ?_);refine r_c 6 (cU (((lo+a) / 2).floor:Rat) step t1) ?_;refine c_s (xi c i ((((lo+a) / 2).floor:Rat) * step) t2) ?_;refine a_z ?_;refine ap rfl (fun e=>?_) (fun e=>?_);have d:0≤plC c i ((((lo+a) / 2).floor:Rat) * step):=by simpa using e
    rw[if_pos d] at h;refine r_m 2 ?_;refine a_z ?_;refine⟨(f,(((lo+a) / 2).floor:Rat),a),Nat.lt_succ_self f,h,?_⟩;simp only[dnS.eq_1];exact s_e [];have d:¬0≤plC c i ((((lo+a) / 2).floor:Rat) * step):=by simpa using e
    rw[if_neg d] at h;refine r_m 2 ?_;refine a_z ?_;refine⟨(f,lo,(((lo+a) / 2).floor:Rat)),Nat.lt_succ_self f,h,?_⟩;simp only[dnS.eq_1];exact s_e []
   have b:¬0< ft (a- lo) 1:=by simpa using h1
   rw[if_neg b] at h;cases h;refine ay ⟨a,trivial,?_⟩;simp only[dnS.eq_1];exact s_e []
 rintro a _;simp only[dnS.eq_1];refine r_c 4 (cU l step s) ?_;refine a_z ?_;refine ae (r_d aY 7 ?_);refine c_s (xi c i (l* step) n) ?_;refine a_3 ?_;refine ao (n_k ?_);refine ai (Fin.many ⟨_,_,rfl,⟨_,_,_,_,_,rfl,rfl,rfl,.inl ⟨TG.h,_,TS.h,nle rfl,rfl⟩⟩,⟨_,_,rfl,rfl,rfl⟩⟩ (nle rfl) ?_);exact ah (ak aD (aP _)) (ah (ak aD (ag _)) av)
def sO(f:Nat)(c:Cnt)(i:Int)(k:Int):Option Sp:=
 (G6 f c i (fV (wi k 256))).bind fun r=>if r.2 then some (r.1,r.1) else if qs r.1+qs (fV (wi k 256))≤549755813888 then some (r.1,r.1+fV (wi k 256)) else none
theorem fs_span(f:Nat)(c:Cnt)(i:Int)(k:Int)(s:Sp)(h:sO f c i k=some s):FS 241 [plA c i,i64 k] (.agg (spC s.1 s.2)):=by
 unfold sO at h;obtain⟨⟨a,e⟩,d,b⟩:=Option.bind_eq_some_iff.1 h;refine f_n Tryz.func241 ?_ ?_;exact ac (c9 c i) (ac (ag _) af);refine r_z 1 ?_;refine r_c 4 (pq k) ?_;refine a_z ?_;refine r_c 9 (fs_down f c i (fV (wi k 256)) (a,e) d) ?_;refine a_z ?_;refine ae (r_z 1 ?_);refine ap rfl (fun h1=>?_) (fun h1=>?_);subst h1;rw[if_pos rfl] at b;cases b;refine r_c 3 (zx a) ?_;refine a_z ?_;exact ai (c_e (bG _ _))
 ·subst h1
  rw[if_neg (show¬false=true by decide)] at b;split at b
  case isFalse=>cases b
  case isTrue hs=>
  cases b;refine am (ae (r_d aY 6 ?_));refine c_s (fl a (fV (wi k 256)) hs) ?_;refine a_2 ?_;refine ao (n_k ?_);exact ai (c_e (bG _ _))
def lP(s:Sp):Rat:=(s.1+s.2) * fV 1
def yR(c:Cnt)(i:Int)(s:Sp):Sp:=if plC c i (lP s)=0 then(lP s,lP s) else if plC c i (lP s)=1 then(lP s,s.2) else(s.1,lP s)
def lM(c:Cnt)(s:Sp):Prop:=smS s∧oQ c (lP s)
instance (c:Cnt) (s:Sp):Decidable (lM c s):=inferInstanceAs (Decidable (_∧_))
def cC(c:Cnt)(i:Int)(s0:Sp):Nat→Sp
 |0=>s0
 |k+1=>yR c i (cC c i s0 k)
def closT(c:Cnt)(i:Int)(s0:Sp)(k:Nat):Option (List AV):=some [.agg (spC (cC c i s0 k).1 (cC c i s0 k).2)]
abbrev bPl(c:Cnt)(i:Int):AV:= .aptr [[plA c i]] 0 0
theorem di(c:Cnt)(i:Int):Closed (bPl c i):=a7 (ac (c9 c i) af)
theorem qu(f:Nat)(c:Cnt)(i:Int)(s0:Sp)(K:Nat)(h:sO f c i 0=some s0)(hok:∀k,k< K→lM c (cC c i s0 k)):GSpecB Tryz.prog 240 [bPl c i] (closT c i s0) K:=by
 refine GSpecB.enter Tryz.func240 rfl (by kernel_rfl) rfl rfl rfl ?_ ?_ rfl ?_;exact ac (di c i) af;intro k xs h;cases h;exact ac (bG _ _) af;intro ll N hN E;refine GWp.seq ?_;refine GWp.lift ?_;refine r_m 4 ?_;refine c_s (fs_span f c i 0 s0 h) ?_;refine a_z ?_;refine GWp.block ?_;refine GWp.loopS (fun k:Nat=>⟨[(0,.v (.func (.yield ll) #[] #[])),(1,bPl c i),(3,.lptr 1 0 0)],[(1,some ⟨40,6,[spC (cC c i s0 k).1 (cC c i s0 k).2]⟩)],2,25⟩) (fun k=>k) (fun k=>N+1- k) (fun k=>k≤N) 0 (Nat.zero_le _) rfl ?_ ?_;have:=di c i;exact s_f [(1,3)];intro k o;refine GWp.seq ?_;refine GWp.seq ?_;refine GWp.regY (fr2:=[(0,.v (.func (.yield ll) #[] #[])),(1,bPl c i),(3,.lptr 1 0 0),(7,.v (.func (.yield ll) #[] #[])),(8,.agg (spC (cC c i s0 k).1 (cC c i s0 k).2))]) (hp2:=[(1,some ⟨40,6,[spC (cC c i s0 k).1 (cC c i s0 k).2]⟩)]) (nx2:=2) 2 rfl rfl rfl rfl rfl rfl ?_ rfl rfl rfl ?_ ?_ ?_;refine o_0 (.move rfl) ?_;refine aO (.load_l rfl rfl rfl TG.h TS.h (nle rfl)) rfl rfl ?_;refine ao ?_;exact s_y [] (fun hs=>dG) (fun hs=>kI);rotate_left 2;intro n;refine ao ?_;rotate_left;rfl;exact ac (bG _ _) af;cases n with
 |false=>
  refine GWp.cond rfl (fun h=>?_) (fun h=>?_);cases h;exact GWp.exit ⟨.inl rfl,fun h=>by cases h⟩
 |true=>
  refine GWp.bound fun b=>?_;refine GWp.cond rfl (fun h=>?_) (fun h=>?_);rotate_left;cases h;refine GWp.skip ?_;have m:=hok k (by omega);obtain⟨hs,hb⟩:=m;have a:cC c i s0 (k+1)=yR c i (cC c i s0 k):=rfl;obtain⟨s,g⟩:∃s,s=cC c i s0 k:=⟨_,rfl⟩;rw[←g] at hs hb a⊢;refine GWp.lift ?_;refine aj (r_c 4 (BL s.1 s.2 hs.1 hs.2) ?_);refine a_z ?_;refine r_c 3 (xi c i (lP s) hb) ?_;refine ao ?_;refine aj (r_z 2 ?_);refine ap rfl (fun h1=>?_) (fun h1=>?_);have e:plC c i (lP s)=0:=by simpa using h1
  have d:cC c i s0 (k+1)=(lP s,lP s):=by rw[a];unfold yR;rw[if_pos e]
  refine r_m 3 ?_;refine c_s (zx (lP s)) ?_;refine a_z ?_;refine⟨rfl,k+1,by omega,b,rfl,?_⟩;simp only[d];have:=di c i;exact s_f [];have e:¬plC c i (lP s)=0:=by simpa using h1
  refine r_z 2 ?_;refine ap rfl (fun l=>?_) (fun l=>?_);have j:plC c i (lP s)=1:=by simpa using l
  have d:cC c i s0 (k+1)=(lP s,s.2):=by rw[a];unfold yR;rw[if_neg e,if_pos j]
  refine r_m 3 ?_;refine a_z ?_;refine⟨rfl,k+1,by omega,b,rfl,?_⟩;simp only[d];have:=di c i;exact s_f [];have j:¬plC c i (lP s)=1:=by simpa using l
  have d:cC c i s0 (k+1)=(s.1,lP s):=by rw[a];unfold yR;rw[if_neg e,if_neg j]
  refine r_m 3 ?_;refine a_z ?_;refine⟨rfl,k+1,by omega,b,rfl,?_⟩;simp only[d];have:=di c i;exact s_f []
theorem qz(c:Cnt)(i:Int):FS 207 [plA c i] (.clos 240 [] [bPl c i]):=by
 refine f_n Tryz.func207 ?_ ?_;exact ac (c9 c i) af;refine r_z 2 ?_;refine r_z 2 ?_;refine ai (⟨.inr rfl,[_],⟨_,[],rfl,rfl,rfl⟩,?_⟩);exact Cv.clos av (ah (Cv.boxp aD rfl (fun _ _ h=>by cases h) rfl (ac (c9 c i) af)) av)
def n0(t:Nat→Option Bool):Nat→Nat→Option Nat
 |0,_=>none
 |f+1,k=>match t k with
  |some true=>some k
  |some false=>n0 t f (k+1)
  |none=>none
theorem jK{t:Nat→Option Bool}:∀{f k0 k:Nat},n0 t f k0=some k→t k=some true∧k0≤k∧∀j,k0≤j→j< k→t j=some false
 |0,_,_,h=>by cases h
 |f+1,k0,k,h=>by
  rw[n0] at h;split at h;cases h;exact⟨by assumption,Nat.le_refl _,fun j h1 b=>by omega⟩;obtain⟨h1,b,c⟩:=jK h;refine⟨h1,by omega,fun j d a=>?_⟩;by_cases e:j=k0;rw[e];assumption;exact c j (by omega) a;cases h
def od(c:Cnt)(i:Int)(s:Sp):Option Bool:=if oQ c s.1∧rD c s.2∧lM c s∧ -4611686018427387904≤i∧i≤4611686018427387904 then some (decide (dA c s.1=i∧eV c s.2=i+1)) else none
def alS(c:Cnt)(i:Int):Nat→AState
 |k=>⟨[(1,bPl c i),(2,.lptr 1 0 0),(3,.lptr 2 0 0),(6,.clos 240 [] [bPl c i])],[(1,some ⟨40,6,[zC++zC]⟩),(2,some ⟨40,6,[zC++zC]⟩)],3,37⟩
def alX(s:Sp):Unit→AState
 |u=>⟨[(2,.lptr 1 0 0),(3,.lptr 2 0 0)],[(1,some ⟨40,6,[zC++zC]⟩),(2,some ⟨40,6,[spC s.1 s.2]⟩)],3,37⟩
theorem GE(f g:Nat)(c:Cnt)(i:Int)(s0:Sp)(kk:Nat)(h:sO f c i 0=some s0)(hk:n0 (fun k=>od c i (cC c i s0 k)) g 0=some kk):FS 268 [plA c i] (.agg (spC (cC c i s0 kk).1 (cC c i s0 kk).2)):=by
 obtain⟨h1,_,A⟩:=jK hk
 have d:∀k,k≤kk→oQ c (cC c i s0 k).1∧rD c (cC c i s0 k).2∧lM c (cC c i s0 k)∧ -4611686018427387904≤i∧i≤4611686018427387904:=fun k hk=>by
  have:∃b,od c i (cC c i s0 k)=some b:=by
   by_cases e:k=kk;rw[e];exact⟨_,h1⟩;exact⟨_,A k (Nat.zero_le _) (by omega)⟩
  obtain⟨b,hb⟩:=this;unfold od at hb;split at hb;assumption;cases hb
 have r:=qu f c i s0 kk h (fun k hk=>(d k (by omega)).2.2.1);refine f_n Tryz.func268 ?_ ?_;exact ac (c9 c i) af;refine r_z 2 ?_;refine r_z 1 ?_;refine AWp.ent (st':=⟨[(1,bPl c i),(2,.lptr 1 0 0),(3,.lptr 2 0 0)],[(1,some ⟨40,6,[zC++zC]⟩),(2,some ⟨40,6,[zC++zC]⟩)],3,37⟩) ?_ ?_;have:=(ac (c9 c i) af);exact s_f [(1,2),(2,3)];refine ae (r_c 2 (qz c i) ?_);refine ao ?_;refine aH (alX (cC c i s0 kk)) (fun _=>True) ?_ ?_;refine aj (AWp.rangeFuncB (α:=Nat) (γ:=Unit) kk (alS c i) (fun k=>k) (fun k=>k≤kk) (alX (cC c i s0 kk)) (fun e _=>e= .exit 0) 0 rfl r rfl rfl ?_ (fun _=>⟨rfl,rfl⟩) (fun _=>rfl) (Nat.zero_le _) rfl (fun _ h=>h) ?_ ?_ ?_ ?_ ?_);intro k xs m;cases m;rfl;rw[alS.eq_1];have:=di c i;exact s_t [];exact ac (di c i) af;intro l k xs hk m;cases m;have z:=d k hk;obtain⟨s,a⟩:∃s,s=cC c i s0 k:=⟨_,rfl⟩;rw[←a] at z⊢;obtain⟨n,p,w,q,x⟩:=z;show AWp _ _ _ _ ⟨[(7,.agg (spC s.1 s.2)),(1,bPl c i),(2,.lptr 1 0 0),(3,.lptr 2 0 0),(6,.clos 240 [] [bPl c i]),(1001,bPl c i),(1002,.lptr 1 0 0),(1003,.lptr 2 0 0),(1006,.clos 240 [] [bPl c i])],[(1,some ⟨40,6,[zC++zC]⟩),(2,some ⟨40,6,[zC++zC]⟩)],3,37⟩;refine r_m 2 ?_;refine a_z ?_;refine aj ?_;by_cases hb:dA c s.1=i;refine ae (r_d aY 27 ?_);refine c_s (kn c s.1 n) ?_;refine a_6 ?_;refine y_g rfl (by simp[hb]) (.load_a1 rfl rfl TG.h rfl) ?_;refine y_g rfl (by simp[hb]) (.nilCheck rfl rfl) ?_;refine y_g rfl (by simp[hb]) (.fieldAddr_a rfl TF.h (by decide)) ?_;refine y_g rfl (by simp[hb]) (.load_a1 rfl rfl TG.h rfl) ?_
 refine y_g rfl (by simp[hb]) (.fieldAddr_l rfl TF.h (by decide)) ?_;refine y_g rfl (by simp[hb]) (.load_l rfl rfl rfl TG.h TS.h (nle rfl)) ?_;refine y_g rfl (by simp[hb]) (.call rfl rfl rfl (nf c s.2 p)) ?_;refine y_g rfl (by simp[hb]) (.load_a1 rfl rfl TG.h rfl) ?_;refine y_g rfl (by simp[hb]) (.nilCheck rfl rfl) ?_;refine y_g rfl (by simp[hb]) (.fieldAddr_a rfl TF.h (by decide)) ?_;refine y_g rfl (by simp[hb]) (.load_a1 rfl rfl TG.h rfl) ?_;refine y_g rfl (by simp[hb]) (.bin rfl rfl (uH (by omega))) ?_;refine y_g rfl (by simp[hb]) (.bin rfl rfl cv) ?_;refine o_0 (.pickT rfl (by simp[hb]) rfl) ?_;refine ao (n_k ?_);refine ap rfl (fun y=>?_) (fun y=>?_);have t:eV c s.2=i+1:=by simpa using y
 have j:k=kk:=by
  refine Nat.le_antisymm hk (Nat.le_of_not_lt fun v=>?_);have o:=A k (Nat.zero_le _) v;rw[←a] at o;unfold od at o;rw[if_pos ⟨n,p,w,q,x⟩] at o;simp[hb,t] at o
 subst j;refine r_z 2 ?_;refine ay (⟨rfl,(),rfl,?_⟩);rw[←a];show SEntT _ ⟨[(1002,.lptr 1 0 0),(1003,.lptr 2 0 0)],[(1,some ⟨40,6,[zC++zC]⟩),(2,some ⟨40,6,[spC s.1 s.2]⟩)],3,37⟩;exact s_y [] (fun hs=>dG) (fun hs=>kI);have t:¬eV c s.2=i+1:=by simpa using y
 have j:k< kk:=by
  refine Nat.lt_of_le_of_ne hk fun e=>?_;subst e;rw[←a] at h1;unfold od at h1;rw[if_pos ⟨n,p,w,q,x⟩] at h1;simp[t] at h1
 refine am (⟨k+1,⟨j,rfl⟩,?_⟩);show SEntT _ ⟨[(1001,bPl c i),(1002,.lptr 1 0 0),(1003,.lptr 2 0 0),(1006,.clos 240 [] [bPl c i])],[(1,some ⟨40,6,[zC++zC]⟩),(2,some ⟨40,6,[zC++zC]⟩)],3,37⟩;exact s_y [] (fun hs=>dG) (fun hs=>kI);refine ae (r_d aY 27 ?_);refine c_s (kn c s.1 n) ?_;refine a_6 ?_;refine n_g rfl (by simp[hb]) ?_;refine n_g rfl (by simp[hb]) ?_;refine n_g rfl (by simp[hb]) ?_;refine n_g rfl (by simp[hb]) ?_;refine n_g rfl (by simp[hb]) ?_;refine n_g rfl (by simp[hb]) ?_;refine n_g rfl (by simp[hb]) ?_;refine n_g rfl (by simp[hb]) ?_;refine n_g rfl (by simp[hb]) ?_;refine n_g rfl (by simp[hb]) ?_;refine n_g rfl (by simp[hb]) ?_;refine n_g rfl (by simp[hb]) ?_;refine n_g rfl (by simp[hb]) ?_;refine o_0 (.pickF rfl (by simp[hb]) rfl) ?_;refine ao (n_k ?_);refine cF ?_
 have j:k< kk:=by
  refine Nat.lt_of_le_of_ne hk fun e=>?_;subst e;rw[←a] at h1;unfold od at h1;rw[if_pos ⟨n,p,w,q,x⟩] at h1;simp[hb] at h1
 refine am (⟨k+1,⟨j,rfl⟩,?_⟩);show SEntT _ ⟨[(1001,bPl c i),(1002,.lptr 1 0 0),(1003,.lptr 2 0 0),(1006,.clos 240 [] [bPl c i])],[(1,some ⟨40,6,[zC++zC]⟩),(2,some ⟨40,6,[zC++zC]⟩)],3,37⟩;exact s_y [] (fun hs=>dG) (fun hs=>kI);intro k hk m;cases m;rintro e u rfl;exact⟨u,trivial,SEnt.refl _⟩;rintro u _;rw[alX.eq_1];refine r_z 2 ?_;exact ai (c_e (bG _ _))
def HH(f g:Nat)(c:Cnt)(i:Int):Option Sp:=(sO f c i 0).bind fun s0=>(n0 (fun k=>od c i (cC c i s0 k)) g 0).map (cC c i s0)
theorem Ex(f g:Nat)(c:Cnt)(i:Int)(s:Sp)(h:HH f g c i=some s):FS 268 [plA c i] (.agg (spC s.1 s.2)):=by
 obtain⟨b,h1,a⟩:=Option.bind_eq_some_iff.1 h;obtain⟨k,d,rfl⟩:=Option.map_eq_some_iff.1 a;exact GE f g c i b k h1 d
def wB(f g:Nat)(c:Cnt)(i:Int)(q:List Rat):Option Bool:=
 if c.p.length≤274877906944∧q.length≤274877906944 then(Ei f c.p q).bind fun d=>
  if d.length≤274877906944 then
   if bv d< 1 then some false
   else(iX f d).bind fun c2=>(HH f g c i).bind fun s=>if rD c2 s.2∧oQ c2 s.1 then some (decide (dA c2 s.1< eV c2 s.2)) else none
  else none
 else none
theorem Eo(f g:Nat)(c:Cnt)(i:Int)(q:List Rat)(r:Bool)(h:wB f g c i q=some r)(hf:f≤1000000):FS 248 [plA c i,.arr (pE q)] (bln r):=by
 unfold wB at h;split at h
 case isFalse=>cases h
 case isTrue hl=>
 obtain⟨d,n,a⟩:=Option.bind_eq_some_iff.1 h;split at a
 case isFalse=>cases a
 case isTrue hdl=>
 refine f_n Tryz.func248 ?_ ?_;exact ac (c9 c i) (ac (ax q) af);refine r_z 1 ?_;refine r_c 10 (GK f c.p q d n hl.1 hl.2) ?_;refine a_z ?_;refine ae (r_c 3 (cI d (by omega)) ?_);refine a_z ?_;refine ap rfl (fun l=>?_) (fun l=>?_);have k:bv d< 1:=by simpa using l
 rw[if_pos k] at a;cases a;refine r_z 1 ?_;exact ai (t_e (ag _))
 ·have k:¬bv d< 1:=by simpa using l
  rw[if_neg k] at a;obtain⟨b,j,m⟩:=Option.bind_eq_some_iff.1 a;obtain⟨s,hs,e⟩:=Option.bind_eq_some_iff.1 m;split at e
  case isFalse=>cases e
  case isTrue hk=>
  cases e;refine am (r_c 7 (qy f d b j hf) ?_);refine c_s (Ex f g c i s hs) ?_;refine a_z ?_;refine ae (r_d aY 10 ?_);refine c_s (nf b s.2 hk.1) ?_;refine c_s (kn b s.1 hk.2) ?_;refine a_2 ?_;refine ao (n_k ?_);exact ai (t_e (ag _))
def yn(c:Cnt)(i:Int)(c2:Cnt)(s:Sp):Option Bool:=if rD c2 s.2∧oQ c2 s.1∧lM c s then some (decide (eV c2 s.2=dA c2 s.1)) else none
def Fo(f g:Nat)(c:Cnt)(i:Int)(q:List Rat):Option Int:=
 if q.length≤274877906944 then
  if bv q< 0 then some 0
  else(wB f g c i q).bind fun b=>if b then some 0 else(iX f q).bind fun c2=>(sO f c i 0).bind fun s0=>
   (n0 (fun k=>yn c i c2 (cC c i s0 k)) g 0).bind fun k=>if e8 q (cC c i s0 k).2 then some (sgZ (au q (cC c i s0 k).2).num) else none
 else none
def pgS(c:Cnt)(i:Int)(q:List Rat)(c2:Cnt):Nat→AState
 |k=>⟨[(0,plA c i),(3,bP q),(4,.lptr 1 0 0),(5,.aptr [[kA c2]] 0 0),(18,.clos 240 [] [bPl c i])],[(1,some ⟨3,1,[[i64 0]]⟩)],2,34⟩
def pgX(r:Int):Unit→AState
 |u=>⟨[(4,.lptr 1 0 0)],[(1,some ⟨3,1,[[i64 r]]⟩)],2,34⟩
theorem uo(c:Cnt):Closed (.aptr [[kA c]] 0 0):=a7 (ac (gj c) af)
theorem fs_sign(f g:Nat)(c:Cnt)(i:Int)(q:List Rat)(r:Int)(h:Fo f g c i q=some r)(hf:f≤1000000):FS 209 [plA c i,.arr (pE q)] (i64 r):=by
 unfold Fo at h;split at h
 case isFalse=>cases h
 case isTrue hl=>
 refine f_n Tryz.func209 ?_ ?_;exact ac (c9 c i) (ac (ax q) af);refine r_z 2 ?_;refine AWp.ent (st':=⟨[(0,plA c i),(3,bP q),(4,.lptr 1 0 0)],[(1,some ⟨3,1,[[i64 0]]⟩)],2,34⟩) ?_ ?_;exact s_f [(1,4)];by_cases hd:bv q< 0;rw[if_pos hd] at h;cases h;refine ae (r_c 8 (cI q (by omega)) ?_);refine a_2 ?_;refine n_g rfl (by simp[hd]) ?_;refine n_g rfl (by simp[hd]) ?_;refine n_g rfl (by simp[hd]) ?_;refine o_0 (.pickT rfl (by simp[hd]) rfl) ?_;refine ao ?_;refine ap rfl (fun h1=>?_) (fun h1=>?_);refine r_z 1 ?_;exact ai (Fin.cell1E rfl rfl rfl TG.h rfl rfl (ag _));cases h1;rw[if_neg hd] at h;obtain⟨b,hb,w⟩:=Option.bind_eq_some_iff.1 h;refine ae (r_c 8 (cI q (by omega)) ?_);refine a_2 ?_;refine y_g rfl (by simp[hd]) (.move rfl) ?_;refine y_g rfl (by simp[hd]) (.load_a1 rfl rfl TG.h rfl) ?_;refine y_g rfl (by simp[hd]) (.call rfl rfl rfl (Eo f g c i q b hb hf)) ?_;refine o_0 (.pickF rfl (by simp[hd]) rfl) ?_;refine ao ?_;refine ap rfl (fun h1=>?_) (fun h1=>?_);have m:b=true:=h1;subst m;rw[if_pos rfl] at w;cases w;refine r_z 1 ?_;exact ai (Fin.cell1E rfl rfl rfl TG.h rfl rfl (ag _));have m:b=false:=h1;subst m;rw[if_neg (show¬false=true by decide)] at w;obtain⟨a,F,N⟩:=Option.bind_eq_some_iff.1 w;obtain⟨n,y,M⟩:=Option.bind_eq_some_iff.1 N;obtain⟨j,D,G⟩:=Option.bind_eq_some_iff.1 M;split at G
 case isFalse=>cases G
 case isTrue hev=>
 cases G;obtain⟨t1,_,t2⟩:=jK D
 have p:∀k,k≤j→rD a (cC c i n k).2∧oQ a (cC c i n k).1∧lM c (cC c i n k):=fun k o=>by
  have:∃b,yn c i a (cC c i n k)=some b:=by
   by_cases e:k=j;rw[e];exact⟨_,t1⟩;exact⟨_,t2 k (Nat.zero_le _) (by omega)⟩
  obtain⟨b,hb⟩:=this;unfold yn at hb;split at hb;assumption;cases hb
 have x:=qu f c i n j y (fun k o=>(p k (by omega)).2.2);obtain⟨r,J⟩:∃r,r=sgZ (au q (cC c i n j).2).num:=⟨_,rfl⟩;rw[←J];refine am (r_c 4 (qy f q a F hf) ?_);refine a_z ?_;refine AWp.ent (st':=⟨[(0,plA c i),(3,bP q),(4,.lptr 1 0 0),(5,.aptr [[kA a]] 0 0)],[(1,some ⟨3,1,[[i64 0]]⟩)],2,34⟩) ?_ ?_;have:=(ac (gj a) af);exact s_f [];refine ae (r_c 2 (qz c i) ?_);refine ao ?_;refine aH (pgX r) (fun _=>False) ?_ (fun _ h=>h.elim);refine aj (AWp.rangeFuncB (α:=Nat) (γ:=Unit) j (pgS c i q a) (fun k=>k) (fun k=>k≤j) (pgX r) (fun e _=>e= .ret) 0 rfl x rfl rfl ?_ (fun _=>⟨rfl,rfl⟩) (fun _=>rfl) (Nat.zero_le _) rfl (fun _ h=>h) ?_ ?_ ?_ ?_ ?_);intro k xs t;cases t;rfl;rw[pgS.eq_1];have:=uo a;exact s_t [];exact ac (di c i) af;intro l k xs o t;cases t;have K:=p k o;obtain⟨s,d⟩:∃s,s=cC c i n k:=⟨_,rfl⟩;rw[←d] at K⊢;obtain⟨H,E,L⟩:=K;show AWp _ _ _ _ ⟨[(19,.agg (spC s.1 s.2)),(0,plA c i),(3,bP q),(4,.lptr 1 0 0),(5,.aptr [[kA a]] 0 0),(18,.clos 240 [] [bPl c i]),(1000,plA c i),(1003,bP q),(1004,.lptr 1 0 0),(1005,.aptr [[kA a]] 0 0),(1018,.clos 240 [] [bPl c i])],[(1,some ⟨3,1,[[i64 0]]⟩)],2,34⟩;refine r_m 2 ?_;refine a_z ?_;refine aj (ae (r_d aY 9 ?_));refine c_s (nf a s.2 H) ?_;refine c_s (kn a s.1 E) ?_;refine a_1 ?_;refine ao (n_k ?_);refine ap rfl (fun A=>?_) (fun A=>?_);have z:eV a s.2=dA a s.1:=by simpa using A
 have B:k=j:=by
  refine Nat.le_antisymm o (Nat.le_of_not_lt fun C=>?_);have v:=t2 k (Nat.zero_le _) C;rw[←d] at v;unfold yn at v;rw[if_pos ⟨H,E,L⟩] at v;simp[z] at v
 subst B;rw[←d] at hev J;refine r_c 6 (jJ q s.2 hev) ?_;refine c_s (ci (au q s.2)) ?_;refine a_z ?_;refine ai (⟨rfl,(),rfl,?_⟩);rw[J];show SEntT _ ⟨[(1004,.lptr 1 0 0)],[(1,some ⟨3,1,[[i64 (sgZ (au q s.2).num)]]⟩)],2,34⟩;exact s_t [];have z:¬eV a s.2=dA a s.1:=by simpa using A
 have B:k< j:=by
  refine Nat.lt_of_le_of_ne o fun e=>?_;subst e;rw[←d] at t1;unfold yn at t1;rw[if_pos ⟨H,E,L⟩] at t1;simp[z] at t1
 refine am (⟨k+1,⟨B,rfl⟩,?_⟩);show SEntT _ ⟨[(1000,plA c i),(1003,bP q),(1004,.lptr 1 0 0),(1005,.aptr [[kA a]] 0 0),(1018,.clos 240 [] [bPl c i])],[(1,some ⟨3,1,[[i64 0]]⟩)],2,34⟩;have:=uo a;exact s_t [];intro k o t;cases t;rintro e u rfl;exact Fin.cell1E rfl rfl rfl TG.h rfl rfl (ag _)
def E2(c:Cnt)(q:List Rat)(step:Rat)(s:Sp):Option Bool:=if w9 q s∧smS (gU q s)∧sm ((gU q s).2- (gU q s).1)∧sm step∧lM c s then some (decide (ft ((gU q s).2- (gU q s).1) step< 0)) else none
def valR(f g:Nat)(c:Cnt)(i:Int)(q:List Rat)(k:Int)(v:Sp):Option Sp:=
 if sm (jv v.2 (wi k 256))∧smS v∧sm (fV (wi k 256))∧smL q∧q.length≤274877906944 then
  if ft (jv v.2 (wi k 256)) v.1< 0 then some (jv v.2 (wi k 256),jv v.2 (wi k 256)+fV (wi k 256))
  else(Fo f g c i (dC q (dR (jv v.2 (wi k 256))))).bind fun sg=>
   some (if sg=0 then(jv v.2 (wi k 256),jv v.2 (wi k 256)) else if sg=1 then(jv v.2 (wi k 256),jv v.2 (wi k 256)+fV (wi k 256)) else(jv v.2 (wi k 256)- fV (wi k 256),jv v.2 (wi k 256)))
 else none
def AA(f g:Nat)(c:Cnt)(i:Int)(q:List Rat)(k:Int):Option Sp:=
 (sO f c i 0).bind fun s0=>(n0 (fun j=>E2 c q (fV (wi k 256)) (cC c i s0 j)) g 0).bind fun j=>valR f g c i q k (gU q (cC c i s0 j))
abbrev bI(k:Int):AV:= .aptr [[i64 k]] 0 0
theorem je(k:Int):Closed (bI k):=a7 (ac (ag _) af)
def vaS(c:Cnt)(i:Int)(q:List Rat)(k:Int)(step:Rat):Nat→AState
 |j=>⟨[(3,bPl c i),(4,bP q),(5,bI k),(6,.lptr 1 0 0),(7,bQ step),(14,.clos 240 [] [bPl c i])],[(1,some ⟨40,6,[zC++zC]⟩)],2,61⟩
def vaX(r:Sp):Unit→AState
 |u=>⟨[(6,.lptr 1 0 0)],[(1,some ⟨40,6,[spC r.1 r.2]⟩)],2,61⟩
theorem Gj(f g:Nat)(c:Cnt)(i:Int)(q:List Rat)(k:Int)(r:Sp)(h:AA f g c i q k=some r)(hf:f≤1000000):FS 176 [plA c i,.arr (pE q),i64 k] (.agg (spC r.1 r.2)):=by
 unfold AA at h;obtain⟨p,R,h2⟩:=Option.bind_eq_some_iff.1 h;obtain⟨y,Y,a⟩:=Option.bind_eq_some_iff.1 h2;obtain⟨t1,_,t2⟩:=jK Y;obtain⟨step,t⟩:∃step,step=fV (wi k 256):=⟨_,rfl⟩;rw[←t] at t1 t2
 have E:∀j,j≤y→w9 q (cC c i p j)∧smS (gU q (cC c i p j))∧sm ((gU q (cC c i p j)).2- (gU q (cC c i p j)).1)∧sm step∧lM c (cC c i p j):=fun j C=>by
  have:∃b,E2 c q step (cC c i p j)=some b:=by
   by_cases e:j=y;rw[e];exact⟨_,t1⟩;exact⟨_,t2 j (Nat.zero_le _) (by omega)⟩
  obtain⟨b,hb⟩:=this;unfold E2 at hb;split at hb;assumption;cases hb
 have O:=qu f c i p y R (fun j C=>(E j (by omega)).2.2.2.2);have D:=pq k;rw[←t] at D;refine f_n Tryz.func176 ?_ ?_;exact ac (c9 c i) (ac (ax q) (ac (ag _) af));refine r_z 4 ?_;refine r_c 4 (D) ?_;refine a_z ?_;refine AWp.ent (st':=⟨[(3,bPl c i),(4,bP q),(5,bI k),(6,.lptr 1 0 0),(7,bQ step)],[(1,some ⟨40,6,[zC++zC]⟩)],2,61⟩) ?_ ?_;have:=(ac (c9 c i) af);exact s_f [(1,6)];refine ae (r_c 2 (qz c i) ?_);refine ao ?_;refine aH (vaX r) (fun _=>False) ?_ (fun _ h=>h.elim);refine aj (AWp.rangeFuncB (α:=Nat) (γ:=Unit) y (vaS c i q k step) (fun j=>j) (fun j=>j≤y) (vaX r) (fun e _=>e= .ret) 0 rfl O rfl rfl ?_ (fun _=>⟨rfl,rfl⟩) (fun _=>rfl) (Nat.zero_le _) rfl (fun _ h=>h) ?_ ?_ ?_ ?_ ?_);intro j xs G;cases G;rfl;rw[vaS.eq_1];have:=je k;exact s_t [];exact ac (di c i) af;intro l j xs C G;cases G;have L:=E j C;obtain⟨s,o⟩:∃s,s=cC c i p j:=⟨_,rfl⟩;rw[←o] at L⊢;obtain⟨x1,B,M,N,x5⟩:=L;obtain⟨v,hv⟩:∃v,v=gU q s:=⟨_,rfl⟩;have F:=fs_Over q s x1;rw[←hv] at F B M;show AWp _ _ _ _ ⟨[(15,.agg (spC s.1 s.2)),(3,bPl c i),(4,bP q),(5,bI k),(6,.lptr 1 0 0),(7,bQ step),(14,.clos 240 [] [bPl c i]),(1003,bPl c i),(1004,bP q),(1005,bI k),(1006,.lptr 1 0 0),(1007,bQ step),(1014,.clos 240 [] [bPl c i])],[(1,some ⟨40,6,[zC++zC]⟩)],2,61⟩;refine r_m 2 ?_;refine a_z ?_;refine aj (r_c 5 (F) ?_);refine a_z ?_;refine ae (ae (r_d aY 5 ?_));refine c_s (vJ v.1 v.2 B.1 B.2) ?_;refine c_s (nX (v.2- v.1) step M N) ?_;refine a_1 ?_;refine ao (n_k ?_);refine ap rfl (fun T=>?_) (fun T=>?_)
 have S:¬ft (v.2- v.1) step< 0:=by
  have:0≤ft (v.2- v.1) step:=by simpa using T
  omega
 have U:j< y:=by
  refine Nat.lt_of_le_of_ne C fun e=>?_;subst e;rw[←o] at t1;unfold E2 at t1;rw[←hv] at t1;rw[if_pos ⟨x1,B,M,N,x5⟩] at t1;simp[S] at t1
 refine ay (⟨j+1,⟨U,rfl⟩,?_⟩);show SEntT _ ⟨[(1003,bPl c i),(1004,bP q),(1005,bI k),(1006,.lptr 1 0 0),(1007,bQ step),(1014,.clos 240 [] [bPl c i])],[(1,some ⟨40,6,[zC++zC]⟩)],2,61⟩;have:=je k;exact s_t []
 ·have S:ft (v.2- v.1) step< 0:=by
   have:¬0≤ft (v.2- v.1) step:=by simpa using T
   omega
  have U:j=y:=by
   refine Nat.le_antisymm C (Nat.le_of_not_lt fun W=>?_);have d:=t2 j (Nat.zero_le _) W;rw[←o] at d;unfold E2 at d;rw[←hv] at d;rw[if_pos ⟨x1,B,M,N,x5⟩] at d;simp[S] at d
  subst U;rw[←o,←hv] at a;unfold valR at a;rw[←t] at a;obtain⟨m,hm⟩:∃m,m=jv v.2 (wi k 256):=⟨_,rfl⟩;rw[←hm] at a;split at a
  case isFalse=>cases a
  case isTrue hz=>
  obtain⟨K,z2,X,z4,z5⟩:=hz;have H:=Dk v.2 k B.2;rw[←hm] at H;refine am (r_c 6 (H) ?_);refine a_z ?_;refine ae (r_c 5 (nX m v.1 K z2.1) ?_);refine a_z ?_;refine ap rfl (fun d=>?_) (fun d=>?_);have Z:ft m v.1< 0:=by simpa using d
  rw[if_pos Z] at a;cases a;refine ae (r_d aY 6 ?_);refine c_s (fl m step (sm2 K X)) ?_;refine a_2 ?_;refine ao (n_k ?_);refine ai (⟨rfl,(),rfl,?_⟩);show SEntT _ ⟨[(1006,.lptr 1 0 0)],[(1,some ⟨40,6,[spC (m,m+step).1 (m,m+step).2]⟩)],2,61⟩;have:=je k;exact s_t [];have Z:¬ft m v.1< 0:=by simpa using d
  rw[if_neg Z] at a;obtain⟨sg,V,Q⟩:=Option.bind_eq_some_iff.1 a;cases Q;have hcl:=oa m;have J:smL (dR m):=lC fun x L=>by rw[List.mem_singleton.1 L];exact K
  refine am (ae (ae (r_d aY 6 ?_)));refine c_s (rm m) ?_;refine c_s (BK q (dR m) z4 J (by omega) (by omega)) ?_;refine c_s (fs_sign f g c i (dC q (dR m)) sg V hf) ?_;refine ao (n_k ?_);refine aj (r_z 2 ?_);refine ap rfl (fun w=>?_) (fun w=>?_);have n:sg=0:=by simpa using w
  refine r_c 3 (zx m) ?_;refine a_z ?_;refine ai (⟨rfl,(),rfl,?_⟩);rw[if_pos n];show SEntT _ ⟨[(1006,.lptr 1 0 0)],[(1,some ⟨40,6,[spC (m,m).1 (m,m).2]⟩)],2,61⟩;have:=je k;exact s_t [];have n:¬sg=0:=by simpa using w
  refine r_z 2 ?_;refine ap rfl (fun A=>?_) (fun A=>?_);have z:sg=1:=by simpa using A
  refine ae (r_d aY 6 ?_);refine c_s (fl m step (sm2 K X)) ?_;refine a_2 ?_;refine ao (n_k ?_);refine ai (⟨rfl,(),rfl,?_⟩);rw[if_neg n,if_pos z];show SEntT _ ⟨[(1006,.lptr 1 0 0)],[(1,some ⟨40,6,[spC (m,m+step).1 (m,m+step).2]⟩)],2,61⟩;have:=je k;exact s_t [];have z:¬sg=1:=by simpa using A
  refine am (ae (r_d aY 6 ?_));refine c_s (kZ m step (sm2 K X)) ?_;refine a_3 ?_;refine ao (n_k ?_);refine ai (⟨rfl,(),rfl,?_⟩);rw[if_neg n,if_neg z];show SEntT _ ⟨[(1006,.lptr 1 0 0)],[(1,some ⟨40,6,[spC (m- step,m).1 (m- step,m).2]⟩)],2,61⟩;have:=je k;exact s_t []
 intro j C G;cases G;rintro e u rfl;exact Fin.cell rfl rfl rfl TG.h TS.h (nle rfl) (ak aD (bG _ _))
end Go.Proofs.YtkhclghbcicapaaGreatDoor
