/- Part X20 of the proof. -/
import Derived.Test.YtjgokhkahkmpbaaGreatDoorX19
set_option linter.all false
namespace Go.Proofs.YtjgokhkahkmpbaaGreatDoor
open Go.Abs
set_option maxRecDepth 20000
set_option maxHeartbeats 2000000
theorem uC(f:Nat)(p r:Lq)(h:sqfM f p=some r):FS 266 [.arr (pE p)] (.arr (pE r)):=by
 unfold sqfM at h;split at h
 case isFalse=>cases h
 case isTrue hs=>
 obtain⟨g,hg,hr⟩:=Option.bind_eq_some_iff.1 h;split at hr
 case isFalse=>cases hr
 case isTrue hg2=>
 cases hr;have hdl:=ri p;have hdv:=tW (p:=p) (q:=g);refine f_c Tryz.func266 ?_;refine r_z 1 ?_;refine r_c 11 (qx p hs.1 (by omega)) ?_;refine c_s (FC f p (fc p) g hg hs.2 (by omega)) ?_;refine c_s (qp p g (mxL p) (mxL g) (dK p) (dK g) (dZ p) (dZ g) hg2.2.1 hg2.1 hs.2 hg2.2.2.2) ?_;refine a_z ?_;refine r_c 3 (tA (j6 p g).1 (w6 hg2.2 hg2.1).1 (by omega)) ?_;refine a_z ?_;exact aj (t_e (ap _))
theorem yH(p:Lq)(hp:p.length≤1099511627776):FS 246 [.arr (pE p)] (i64 (lr p)):=by
 refine f_c Tryz.func246 ?_;refine r_z 1 ?_;refine ac (r_c 3 (cr p hp) ?_);refine a_z ?_;refine aI (fun _:Unit=>⟨[],[],1,12⟩) (fun _=>lr p=0) ?_ ?_;refine am (r_z 3 ?_);refine aq rfl (fun h=>?_) (fun h=>?_);have h1:cC p< 0:=by simpa using h
 refine r_z 1 ?_;refine aj (aN rfl ?_ ?_);unfold lr;rw[if_pos h1];rfl;exact ag _;have h1:¬cC p< 0:=by simpa using h
 refine r_z 3 ?_;refine aq rfl (fun h2=>?_) (fun h2=>?_);have h3:40< cC p:=by simpa using h2
 refine r_z 1 ?_;refine aj (aN rfl ?_ ?_);unfold lr;rw[if_neg h1,if_pos h3];rfl;exact ag _;have h3:¬40< cC p:=by simpa using h2
 refine ak ⟨(),by unfold lr;rw[if_neg h1,if_neg h3],?_⟩;exact s_e [];rintro _ hl;refine r_z 1 ?_;refine aj (aN rfl ?_ ?_);rw[hl];rfl;exact ag _
def boS(t:Lq)(l:Lq):Nat×Rat→AState
 |(i,m)=>⟨[(0,.arr (pE t)),(2,.lptr 1 0 0),(3,.lptr 2 0 0),(13,.arr (pE l)),(14,i64 l.length),(15,i64 i)],[(1,some ⟨42,3,[zC]⟩),(2,some ⟨42,3,[qC m]⟩)],3,31⟩
theorem yO(p:Lq)(h:rG p)(h0:av p≠[]):FS 271 [.arr (pE p)] (.agg (qC (iT p))):=by
 obtain⟨hsz,hpl⟩:=h;obtain⟨t,ht⟩:∃t,t=av p:=⟨_,rfl⟩;have htr:=ea p (by omega);have htl:=b9 p;rw[←ht] at htr htl;obtain⟨l,hl⟩:∃l,l=t.take (t.length- 1):=⟨_,rfl⟩;have hll:l.length=t.length- 1:=by rw[hl];simp
 have hbl:bdL l (mxL p):=fun q hq=>dK p q (dj (by rw[←ht];exact List.mem_of_mem_take (by rw[←hl];exact hq)));have hpos:0< t.length:=by rw[ht];exact List.length_pos_iff.2 h0
 have hlead:aT t=aT p:=by rw[ht,lj]
 have hlb:qs (aT p)≤mxL p:=by
  obtain⟨n,hn⟩:∃n,(av p).length=n+1:=⟨(av p).length- 1,by rw[←ht];omega⟩;exact dK p _ (dj (List.mem_of_getElem? (fi hn)))
 have hb:iT p=boL (aT p) l 0+1:=by unfold iT;rw[←ht,←hl]
 rw[hb];obtain⟨B,hB⟩:∃B,B=boL (aT p) l 0:=⟨_,rfl⟩;rw[←hB];refine f_c Tryz.func271 ?_;refine r_z 1 ?_;refine r_c 3 (htr) ?_;refine a_z ?_;refine r_z 3 ?_;refine ac (s_r 7 ?_);refine a_4 ?_;refine o_0 (.sa_h rfl rfl (h:=t.length- 1) (by omega) (by simp) te_30.h (gF _)) ?_;refine a_z ?_;refine aI (fun _:Unit=>⟨[(2,.lptr 1 0 0),(3,.lptr 2 0 0)],[(1,some ⟨42,3,[zC]⟩),(2,some ⟨42,3,[qC B]⟩)],3,31⟩) (fun _=>qs B≤2* mxL p+1) ?_ ?_;refine am (aC (boS t l) (fun x=>l.length- x.1) (fun x=>x.1≤l.length∧qs x.2≤2* mxL p+1∧boL (aT p) (l.drop x.1) x.2=B) (0,0) ⟨Nat.zero_le _,Nat.le_trans (by decide:qs 0≤1) (Nat.le_add_left 1 _),by rw[hB];rfl⟩ ?_ ?_);simp only[boS.eq_1];rw[qC0];have e13:AV.arr (List.take (t.length- 1) (pE t))=AV.arr (pE l):=by rw[hl,kZ]
 refine s_x [(1,2),(2,3)] (fun hs=>?_) (fun hs=>?_) ?_
 ·repeat' (first|exact aH|refine ao rfl ?_ ?_|exact Cv.loE hs e13 (e13▸ap l)|exact aY|(refine Cv.loE hs ?_ (ag _);first|rfl|(simp[i64,u64,u32,bln,hll];done)|(simp[i64,u64,u32,bln,hll]<;> omega)))
 ·repeat' (first|exact aD|refine h_c ?_ ?_|exact bG|(refine aM hs ?_ (aL _);first|(simp[lc,uY,hll];done)|(simp[pE,ofV,hll];done))|refine aw ?_|exact ax|refine af ?_ ?_|exact Cv.loE hs e13 (e13▸ap l)|exact aY|(refine Cv.loE hs ?_ (ag _);first|(simp[i64,u64,u32,bln,hll];done)|(simp[i64,u64,u32,bln,hll]<;> omega)))
 ·repeat' (first|exact ShrL.nil|refine ShrL.cons rfl rfl rfl rfl (by first|rfl|(simp;done)|(simp[hll]<;> omega)) ?_)
 rintro⟨i,m⟩ ⟨hi,hm,hbo⟩;simp only at hi hm hbo;rw[boS.eq_1];refine r_z 1 ?_;refine ac (aq rfl (fun h=>?_) (fun h=>?_));refine ak ?_;have hlt:i< l.length:=by simpa using h
 have hgt:(pE l)[((i:Nat):Int).toNat]?=some (qC (coP l i)):=b7 (bv hlt);have hc:qs (coP l i)≤mxL p:=hbl _ (List.mem_of_getElem? (bv hlt));rw[gL hlt] at hbo;have hq:=fP (coP l i) (aT p);have hle:=lG t (by omega);rw[hlead] at hle;have hqa:=qs_abs (coP l i/ aT p)
 have hbm:bdL [m,cj (coP l i/ aT p)] (2* mxL p+1):=by
  intro x hx;rcases List.mem_cons.1 hx with rfl|hx
  exact hm;rw[List.mem_singleton.1 hx];omega
 have hmx:=tK [m,cj (coP l i/ aT p)] (jD hbm (by omega)) (by simp);refine ac (am (s_r 4 ?_));refine i_x hgt ?_;refine l_x hgt ?_;refine a_z ?_;refine r_d hmix 9 ?_;refine c_s (hle) ?_;refine c_s (fR (coP l i) (aT p) (l9 h0) (by omega)) ?_;refine c_s (eY (coP l i/ aT p)) ?_;refine a_1 ?_;refine o_1 (.callS1 rfl rfl rfl (.shut rfl d_n (.nil)) rfl (hmx)) ?_;refine a_1 ?_;refine an (n_k ?_);refine r_m 2 ?_;refine a_z ?_;refine⟨(i+1,n5 [m,cj (coP l i/ aT p)]),by simp only;omega,⟨hlt,maxL_le hbm (Nat.le_add_left 1 _),hbo⟩,?_⟩;simp only[boS.eq_1];exact s_e []
 have hge:i=l.length:=by
  have:¬i< l.length:=by simpa using h
  omega
 subst hge;rw[List.drop_length] at hbo;have hbo':m=B:=hbo;subst hbo';refine aA ⟨(),hm,?_⟩;exact s_e [];rintro _ hq;have h1:qs 1=1:=by decide
 refine ac (r_d hmix 4 ?_);refine c_s (da 1 (by decide)) ?_;refine c_s (fz B 1 (by omega)) ?_;refine a_1 ?_;refine an (n_k ?_);exact aj (c_e (aO _))
def stS:Lq×Lw→AState
 |(next,acc)=>⟨[(3,.lsl 1 0 acc.length none 1),(4,.arr (pE next))],[(1,some ⟨30,1,cE acc⟩)],2,40⟩
theorem zY(next:Lq)(acc:Lw):stS (next,acc)=⟨[(3,.lsl 1 0 acc.length none 1),(4,.arr (pE next))],[(1,some ⟨30,1,cE acc⟩)],2,40⟩:=rfl
theorem Dg(p:Lq):(er p).length≤p.length:=
 Nat.le_trans (cm _ _) (b9 p)
theorem Fl(f:Nat)(p:Lq)(r:Lw)(h:zW f p=some r)(hf:f≤1000000):FS 267 [.arr (pE p)] (.arr (cE r)):=by
 unfold zW at h;split at h
 case isFalse=>cases h
 case isTrue hp=>
 have hdl:=ri p;have hpl:=hp.2.1.2;refine f_c Tryz.func267 ?_;refine r_z 1 ?_;refine r_c 4 (pm p hp.2.1 hp.2.2) ?_;refine a_z ?_;refine ac (r_c 3 (qx p hp.1 (by omega)) ?_);refine a_z ?_;refine aI (fun _:Unit=>⟨[(3,.lsl 1 0 r.length none 1)],[(1,some ⟨30,1,cE r⟩)],2,40⟩) (fun _=>True) ?_ ?_
 ·refine am (aC (fun x:Nat×Lq×Lq×Lw=>stS x.2.2) (fun x=>x.1) (fun x=>xh f x.1 x.2.1 x.2.2.1 x.2.2.2=some r∧x.2.2.1.length≤274877906944∧x.2.2.2.length+x.1≤1000001∧1≤x.2.2.2.length∧x.2.2.2[x.2.2.2.length- 1]?=some x.2.1) (f,er p,fc p,[er p]) ⟨h,by simp only;omega,by simp only[List.length_singleton];omega,by simp,rfl⟩ ?_ ?_)
  simp only[zY];have:=eM [er p];exact s_f [(1,3)];rintro⟨k,last,next,acc⟩ ⟨h,hn,hk,ha1,hla⟩;simp only at h hn hk ha1 hla;simp only[zY];cases k with
  |zero=>cases h
  |succ k=>
   rw[xh] at h;refine ac (r_c 3 (cr next (by omega)) ?_);refine a_z ?_;refine aq rfl (fun h1=>?_) (fun h1=>?_)
   ·have h0:av next≠[]:=by
     intro e;have e2:=degP_neg.2 e;simp at h1;omega
    rw[if_neg h0] at h;split at h
    case isFalse=>cases h
    case isTrue hs=>
    have hpn:=Dg next
    have hdv:=tW (p:=last) (q:=er next);have hsl:=cm (j6 last (er next)).2 (-1);have hl2:=hs.2.1.2.1
    have hg1:(cE (acc++[er next]))[0+(((acc.length+1:Nat):Int)- 2).toNat]?=some [.arr (pE last)]:=by
     rw[show 0+(((acc.length+1:Nat):Int)- 2).toNat=acc.length- 1 by omega];exact ut (by rw[List.getElem?_append_left (by omega)];exact hla)
    have hg2:(cE (acc++[er next]))[0+(((acc.length+1:Nat):Int)- 1).toNat]?=some [.arr (pE (er next))]:=by
     rw[show 0+(((acc.length+1:Nat):Int)- 1).toNat=acc.length by omega];exact ut (by simp)
    refine ak (am (r_c 6 (pm next hs.1 h0) ?_));refine a_z ?_;refine AWp.ent (st':=⟨[(3,.lsl 1 0 (acc.length+1) none 1)],[(1,some ⟨30,1,cE (acc++[er next])⟩)],2,40⟩) ?_ ?_
    ·have:=(xk acc (er next)).symm
     exact s_f [(1,3)]
    refine ac (r_d hmix 18 ?_);refine a_5 ?_
    first|refine ay (.load_l1 rfl rfl hg1 TG.h rfl) rfl rfl ?_|refine ay (.load_a1 rfl hg1 TG.h rfl) rfl rfl ?_
    refine a_5 ?_
    first|refine ay (.load_l1 rfl rfl hg2 TG.h rfl) rfl rfl ?_|refine ay (.load_a1 rfl hg2 TG.h rfl) rfl rfl ?_
    refine c_s (qp last (er next) (mxL last) (mxL (er next)) (dK _) (dK _) (dZ _) (dZ _) hs.2.1.1 hs.2.2 hs.2.1.2.1 hs.2.1.2.2) ?_;refine a_5 ?_;refine an (n_k ?_);refine r_m 4 ?_;refine c_s (da (-1) (by decide)) ?_;refine c_s (iA (j6 last (er next)).2 (-1) (w6 hs.2.1 hs.2.2).2 (by decide) (by omega)) ?_;refine a_z ?_;refine⟨(k,er next,aW (j6 last (er next)).2 (-1),acc++[er next]),Nat.lt_succ_self k,⟨h,by simp only;omega,by simp only[List.length_append,List.length_singleton];omega,by simp,by simp⟩,?_⟩;have hla:(acc++[er next]).length=acc.length+1:=by simp
    simp only[zY,hla];exact s_f []
   ·have h0:av next=[]:=by
     refine degP_neg.1 ?_;simp at h1;omega
    rw[if_pos h0] at h;cases h;refine aA ⟨(),trivial,?_⟩;exact s_f []
 rintro _ _;refine r_z 2 ?_;exact aj (Fin.tmpS rfl rfl rfl (by simp) (eM r))
def chS(ch:Lw)(g:Nat)(cap:La):Nat×Int×Int→AState
 |(i,n,last)=>⟨[(1,.clos g [] cap),(5,i64 n),(6,i64 last),(10,.arr (cE ch)),(11,i64 ch.length),(12,i64 i)],[],1,30⟩
theorem tG(ch:Lw)(g:Nat)(cap:La)(sg:Lq→Int)(hcap:∀c∈cap,Closed c)(hsg:∀q∈ch,-1≤sg q∧sg q≤1)(hl:ch.length≤274877906944)(hg:∀q∈ch,FS g ((.arr (pE q)::cap).map coe) (i64 (sg q))):FS 268 [.arr (cE ch),.clos g [] cap] (i64 (chL (ch.map sg) 0 0)):=by
 refine f_n Tryz.func268 ?_ ?_;exact ae (fK ch) (ae (aV ai hcap) ai);refine r_z 1 ?_;refine r_z 2 ?_;refine ac (r_z 3 ?_);obtain⟨R,hR⟩:∃R,R=chL (ch.map sg) 0 0:=⟨_,rfl⟩;rw[←hR];refine aI (fun _:Unit=>⟨[(5,i64 R)],[],1,30⟩) (fun _=>True) ?_ ?_;refine am (aC (chS ch g cap) (fun x=>ch.length- x.1) (fun x=>x.1≤ch.length∧0≤x.2.1∧x.2.1≤x.1∧ -1≤x.2.2∧x.2.2≤1∧chL ((ch.drop x.1).map sg) x.2.1 x.2.2=R) (0,0,0) ⟨Nat.zero_le _,by decide,by decide,by decide,by decide,by rw[hR];rfl⟩ ?_ ?_);simp only[chS.eq_1];exact s_x [] (fun hs=>e_5) (fun hs=>e_8);rintro⟨i,n,last⟩ ⟨hi,hn0,hn1,hl0,hl1,hc⟩;simp only at hi hn0 hn1 hl0 hl1 hc;rw[chS.eq_1];refine r_z 1 ?_;refine ac (aq rfl (fun h=>?_) (fun h=>?_));refine ak ?_;have hlt:i< ch.length:=by simpa using h
 obtain⟨q,hq⟩:∃q,ch[i]?=some q:=⟨_,List.getElem?_eq_getElem hlt⟩;have hqm:=List.mem_of_getElem? hq;have hgt:(cE ch)[((i:Nat):Int).toNat]?=some [.arr (pE q)]:=ut hq
 have hd:ch.drop i=q::ch.drop (i+1):=by
  rw[List.drop_eq_getElem_cons hlt];rw[List.getElem?_eq_getElem hlt] at hq;rw[Option.some.inj hq]
 rw[hd,List.map_cons,chL] at hc;have hs2:=hsg q hqm;refine ac (am (s_r 3 ?_));refine i_x hgt ?_;refine l_1 hgt ?_;refine a_z ?_;refine r_c 4 (hg q hqm) ?_;refine a_z ?_;refine r_z 2 ?_;refine aq rfl (fun h1=>?_) (fun h1=>?_);have hne:sg q≠0:=by simpa using h1
 rw[if_pos hne] at hc;refine ac (r_z 4 ?_);refine aq rfl (fun h2=>?_) (fun h2=>?_);have he:sg q= -last:=by simpa using h2
 rw[if_pos he] at hc;refine r_m 3 ?_;refine a_z ?_;refine r_m 2 ?_;refine a_z ?_;refine r_m 2 ?_;refine a_z ?_;refine⟨(i+1,n+1,sg q),by simp only;omega,⟨hlt,by simp only;omega,by simp only;omega,hs2.1,hs2.2,hc⟩,?_⟩;simp only[chS.eq_1];exact s_x [] (fun hs=>e_5) (fun hs=>e_8);have he:¬sg q= -last:=by simpa using h2
 rw[if_neg he] at hc;refine ak (r_m 2 ?_);refine a_z ?_;refine r_m 2 ?_;refine a_z ?_;refine⟨(i+1,n,sg q),by simp only;omega,⟨hlt,hn0,by simp only;omega,hs2.1,hs2.2,hc⟩,?_⟩;simp only[chS.eq_1];exact s_x [] (fun hs=>e_5) (fun hs=>e_8);have hne:sg q=0:=by simpa using h1
 rw[if_neg (fun e=>e hne)] at hc;refine ak (r_m 2 ?_);refine a_z ?_;refine⟨(i+1,n,last),by simp only;omega,⟨hlt,hn0,by simp only;omega,hl0,hl1,hc⟩,?_⟩;simp only[chS.eq_1];exact s_x [] (fun hs=>e_5) (fun hs=>e_8)
 have hge:i=ch.length:=by
  have:¬i< ch.length:=by simpa using h
  omega
 subst hge;rw[List.drop_length] at hc;have hc':n=R:=hc;subst hc';refine aA ⟨(),trivial,?_⟩;exact s_e [];rintro _ _;refine r_z 2 ?_;exact aj (t_e (ag _))
theorem A3(q:Lq)(h0:av q≠[])(hl:q.length≤274877906944):FS 269 [.arr (pE q)] (i64 (sgI q)):=by
 have hd:¬cC q< 0:=fun e=>h0 (degP_neg.1 e);have hb:=vU (aT q).num;refine f_c Tryz.func269 ?_;refine r_z 1 ?_;refine ac (r_c 4 (cr q (by omega)) ?_);refine a_z ?_;refine aq rfl (fun h=>?_) (fun h=>?_);have h1:cC q % 2=1:=by simpa using h
 refine r_c 5 (lG q (by omega)) ?_;refine c_s (bY (aT q)) ?_;refine a_z ?_;refine aj (aN rfl ?_ ?_);unfold sgI;rw[if_pos h1];rfl;exact ag _;have h1:¬cC q % 2=1:=by simpa using h
 refine ak (r_c 4 (lG q (by omega)) ?_);refine c_s (bY (aT q)) ?_;refine a_z ?_;refine aj (aN rfl ?_ ?_);unfold sgI;rw[if_neg h1];exact ag _
theorem mT(f:Nat)(p:Lq)(c:Cnt)(h:fU f p=some c)(hf:f≤1000000):FS 247 [.arr (pE p)] (kA c):=by
 unfold fU at h;obtain⟨s,hs,h2⟩:=Option.bind_eq_some_iff.1 h;obtain⟨ch,hch,h3⟩:=Option.bind_eq_some_iff.1 h2;split at h3
 case isFalse=>cases h3
 case isTrue hk=>
 cases h3;have hcs:=tG ch 269 [] sgI ai (fun q _=>sgI_abs q) hk.2.1 (fun q hq=>A3 q (hk.1 q hq).1 (hk.1 q hq).2);refine f_c Tryz.func247 ?_;refine r_z 1 ?_;refine r_c 5 (uC f p s hs) ?_;refine a_z ?_;refine r_c 9 (Fl f s ch hch hf) ?_;refine a_z ?_;refine r_c 9 (hcs) ?_;refine a_z ?_;refine r_z 2 ?_;exact aj (Fin.tmpP rfl rfl rfl (vw _))
theorem Fj(q:Lq)(x:Rat)(h:dP q x):FS 270 [.arr (pE q),bQ x] (i64 (sgE x q)):=by
 refine f_c Tryz.func270 ?_;refine r_z 1 ?_;refine r_c 5 (e8 q x h) ?_;refine c_s (bY (aF q x)) ?_;refine a_z ?_;exact aj (t_e (ag _))
theorem lC(c:Cnt)(x:Rat)(h:rl c x):FS 249 [kA c,.agg (qC x)] (i64 (fq c x)):=by
 have hcs:=tG c.ch 270 [bQ x] (sgE x) (ae (aQ x) ai) (fun q _=>vU _) h.1.2.1 (fun q hq=>Fj q x (h.2 q hq));have hb:=oo (x:=x) h.1;unfold fq at hb⊢;refine f_c Tryz.func249 ?_;refine r_z 2 ?_;refine AWp.ent (st':=⟨[(0,kA c),(3,bQ x)],[],1,16⟩) ?_ ?_;exact s_e [];refine ac (r_d hmix 12 ?_);refine c_s (hcs) ?_;refine a_2 ?_;refine an (n_k ?_);exact aj (t_e (ag _))
theorem kz(c:Cnt)(x:Rat)(h:oQ c x):FS 248 [kA c,.agg (qC x)] (i64 (cx c x)):=by
 have hb:=oo (x:=x) h.1.1;refine f_c Tryz.func248 ?_;refine r_z 2 ?_;refine r_c 4 (lC c x h.1) ?_;refine a_z ?_;refine aU (fun n:Int=>⟨[(5,i64 n)],[],1,20⟩) (fun n=>n=cx c x) ?_ ?_;refine ac (r_d hmix 8 ?_);refine c_s (e8 c.p x h.2) ?_;refine c_s (bY (aF c.p x)) ?_;refine a_1 ?_;refine an (n_k ?_);refine aq rfl (fun h1=>?_) (fun h1=>?_)
 have h0:aF c.p x=0:=by
  have:sgZ (aF c.p x).num=0:=by simpa using h1
  exact sgZ_num_eq.1 this
 refine r_m 3 ?_;refine a_z ?_;refine⟨fq c x- 1,by unfold cx;rw[if_pos h0],?_⟩;exact s_e []
 have h0:aF c.p x≠0:=by
  intro e;have:¬sgZ (aF c.p x).num=0:=by simpa using h1
  exact this (sgZ_num_eq.2 e)
 refine ak ⟨fq c x,by unfold cx;rw[if_neg h0],?_⟩;exact s_e [];rintro n rfl;refine r_z 2 ?_;exact aj (t_e (ag _))
theorem fs_all(c:Cnt)(h:E1 c):FS 251 [kA c] (i64 (D5 c)):=by
 refine f_c Tryz.func251 ?_;refine r_z 1 ?_;refine r_c 8 (yO c.p h.1 h.2.1) ?_;refine c_s (lC c (iT c.p) h.2.2) ?_;refine a_z ?_;exact aj (t_e (ag _))
theorem wE(c:Cnt)(i:Int)(x:Rat)(h:oQ c x):FS 274 [plA c i,.agg (qC x)] (i64 (plC c i x)):=by
 refine f_n Tryz.func274 ?_ ?_;exact ae (c6 c i) (ae (aO x) ai);refine r_z 2 ?_;refine ac (ac (r_d hmix 7 ?_));refine c_s (kz c x h) ?_;refine a_1 ?_;refine an (n_k ?_);refine aI (fun _:Unit=>⟨[],[],1,36⟩) (fun _=>plC c i x=1) ?_ ?_;refine am (r_z 7 ?_);refine aq rfl (fun h1=>?_) (fun h1=>?_);have h2:i< cx c x:=by simpa using h1
 refine r_z 1 ?_;refine aj (aN rfl ?_ ?_);unfold plC;rw[if_pos h2];rfl;exact ag _;have h2:¬i< cx c x:=by simpa using h1
 by_cases h3:cx c x=i;refine ac (r_d hmix 17 ?_);refine a_7 ?_;refine y_g rfl (by simp[h3]) (.move rfl) ?_;refine y_g rfl (by simp[h3]) (.nilCheck rfl rfl) ?_
 first|refine y_g rfl (by simp[h3]) (.fieldAddr_l rfl TF.h (by decide)) ?_|refine y_g rfl (by simp[h3]) (.fieldAddr_a rfl TF.h (by decide)) ?_
 first|refine y_g rfl (by simp[h3]) (.load_l1 rfl rfl rfl TG.h rfl) ?_|refine y_g rfl (by simp[h3]) (.load_a1 rfl rfl TG.h rfl) ?_
 first|refine y_g rfl (by simp[h3]) (.load_l rfl rfl rfl TG.h TS.h (nle rfl)) ?_|refine y_g rfl (by simp[h3]) (.load_a rfl rfl TG.h TS.h (nle rfl)) ?_
 refine y_g rfl (by simp[h3]) (.call rfl rfl rfl (lC c x h.1)) ?_;refine y_g rfl (by simp[h3]) (.move rfl) ?_;refine y_g rfl (by simp[h3]) (.bin rfl rfl cS) ?_;refine o_0 (.pickT rfl (by simp[h3]) rfl) ?_;refine a_1 ?_;refine an (n_k ?_);refine aq rfl (fun h4=>?_) (fun h4=>?_);have h5:cx c x< fq c x:=by simpa using h4
 refine r_z 1 ?_;refine aj (aN rfl ?_ ?_);unfold plC;rw[if_neg h2,if_pos ⟨h3,h5⟩];rfl;exact ag _;have h5:¬cx c x< fq c x:=by simpa using h4
 refine ak ⟨(),by unfold plC;rw[if_neg h2,if_neg fun e=>h5 e.2],?_⟩;exact s_e [];refine ac (r_d hmix 17 ?_);refine a_7 ?_;refine n_g rfl (by simp[h3]) ?_;refine n_g rfl (by simp[h3]) ?_;refine n_g rfl (by simp[h3]) ?_;refine n_g rfl (by simp[h3]) ?_;refine n_g rfl (by simp[h3]) ?_;refine n_g rfl (by simp[h3]) ?_;refine n_g rfl (by simp[h3]) ?_;refine n_g rfl (by simp[h3]) ?_;refine o_0 (.pickF rfl (by simp[h3]) rfl) ?_;refine a_1 ?_;refine an (n_k ?_);refine cF ?_;refine ak ⟨(),by unfold plC;rw[if_neg h2,if_neg fun e=>h3 e.1],?_⟩;exact s_e [];rintro _ hr;refine r_z 1 ?_;refine aj (aN rfl ?_ ?_);rw[hr];rfl;exact ag _
def hiV(c:Cnt)(step:Rat):Rat:=ur (iT c.p/ step)
def EZ(c:Cnt)(step:Rat)(lo:Rat):Prop:=rG c.p∧av c.p≠[]∧step≠0∧qs (iT c.p)+qs step≤549755813888∧qs lo+qs step≤549755813888∧oQ c (lo* step)
instance (c:Cnt) (step lo:Rat):Decidable (EZ c step lo):=inferInstanceAs (Decidable (_∧_∧_∧_∧_∧_))
def FO(f:Nat)(c:Cnt)(i:Int)(step:Rat):Option (Rat×Bool):=
 (biM c i step f (-hiV c step) (hiV c step)).bind fun lo=>if EZ c step lo then some (lo* step,plC c i (lo* step)==0) else none
def dnS(c:Cnt)(i:Int)(step:Rat):Rat×Rat→AState
 |(lo,hi)=>⟨[(0,plA c i),(3,.lptr 1 0 0),(4,.lptr 2 0 0),(6,.lptr 3 0 0),(7,.lptr 4 0 0),(8,.lptr 5 0 0)],[(1,some ⟨42,3,[qC step]⟩),(2,some ⟨42,3,[zC]⟩),(3,some ⟨42,3,[qC hi]⟩),(4,some ⟨42,3,[qC lo]⟩),(5,some ⟨42,3,[qC 2]⟩)],6,52⟩
theorem fs_down(f:Nat)(c:Cnt)(i:Int)(step:Rat)(r:Rat×Bool)(h:FO f c i step=some r):FS 259 [plA c i,.agg (qC step)] (.tup [.agg (qC r.1),bln r.2]):=by
 unfold FO at h;obtain⟨l,hl,h2⟩:=Option.bind_eq_some_iff.1 h;split at h2
 case isFalse=>cases h2
 case isTrue hk=>
 cases h2;obtain⟨k1,k2,k3,k4,k5,k6⟩:=hk;have hq:=fP (iT c.p) step;refine f_n Tryz.func259 ?_ ?_;exact ae (c6 c i) (ae (aO step) ai);refine r_z 3 ?_;refine ac (r_d hmix 13 ?_);refine c_s (yO c.p k1 k2) ?_;refine c_s (fR (iT c.p) step k3 k4) ?_;refine c_s (CO (iT c.p/ step) (by omega)) ?_;refine a_2 ?_;refine an (n_k ?_);refine r_c 4 (jZ (ur (iT c.p/ step))) ?_;refine a_z ?_;refine r_c 3 (da 2 (by decide)) ?_;refine a_z ?_;refine aU (fun hi:Rat=>dnS c i step (l,hi)) (fun _=>True) ?_ ?_
 ·refine am (aC (fun x:Nat×Rat×Rat=>dnS c i step x.2) (fun x=>x.1) (fun x=>biM c i step x.1 x.2.1 x.2.2=some l) (f,-hiV c step,hiV c step) hl ?_ ?_)
  simp only[dnS.eq_1,hiV];exact s_e [(2,4),(3,6),(4,7),(5,8)];rintro⟨f,lo,hi⟩ h;simp only at h;simp only[dnS.eq_1];cases f with
  |zero=>cases h
  |succ f=>
   rw[biM] at h;split at h
   case isFalse=>cases h
   case isTrue hs=>
   obtain⟨s1,s2,s3⟩:=hs;refine ac (r_c 6 (iP hi lo (sm2 s2 s1)) ?_);refine c_s (da 1 (by decide)) ?_;refine c_s (dW (hi- lo) 1 s3 (by decide)) ?_;refine a_z ?_;refine aq rfl (fun h1=>?_) (fun h1=>?_)
   ·have h2:0< cZ (hi- lo) 1:=by simpa using h1
    rw[if_pos h2] at h;split at h
    case isFalse=>cases h
    case isTrue ht=>
    obtain⟨t1,t2⟩:=ht;have hq1:=iM lo hi;have hq2:qs 2=2:=by decide
    have hq3:=fP (lo+hi) 2;unfold sm at s1 s2;refine ak (am (ac (r_d hmix 8 ?_)));refine c_s (fz lo hi (by omega)) ?_;refine c_s (fR (lo+hi) 2 (by decide) (by omega)) ?_;refine c_s (po ((lo+hi) / 2) (by omega)) ?_;refine a_2 ?_;refine an (n_k ?_);refine r_c 6 (dx (((lo+hi) / 2).floor:Rat) step t1) ?_;refine c_s (wE c i ((((lo+hi) / 2).floor:Rat) * step) t2) ?_;refine a_z ?_;refine aq rfl (fun h3=>?_) (fun h3=>?_);have h4:0≤plC c i ((((lo+hi) / 2).floor:Rat) * step):=by simpa using h3
    rw[if_pos h4] at h;refine r_m 2 ?_;refine a_z ?_;refine⟨(f,(((lo+hi) / 2).floor:Rat),hi),Nat.lt_succ_self f,h,?_⟩;simp only[dnS.eq_1];exact s_e [];have h4:¬0≤plC c i ((((lo+hi) / 2).floor:Rat) * step):=by simpa using h3
    rw[if_neg h4] at h;refine r_m 2 ?_;refine a_z ?_;refine⟨(f,lo,(((lo+hi) / 2).floor:Rat)),Nat.lt_succ_self f,h,?_⟩;simp only[dnS.eq_1];exact s_e []
   have h2:¬0< cZ (hi- lo) 1:=by simpa using h1
   rw[if_neg h2] at h;cases h;refine aA ⟨hi,trivial,?_⟩;simp only[dnS.eq_1];exact s_e []
 rintro hi _;simp only[dnS.eq_1];refine r_c 4 (dx l step k5) ?_;refine a_z ?_;refine ac (r_d hmix 7 ?_);refine c_s (wE c i (l* step) k6) ?_;refine a_3 ?_;refine an (n_k ?_);refine aj (Fin.many ⟨_,_,rfl,⟨_,_,_,_,_,rfl,rfl,rfl,.inl ⟨TG.h,_,TS.h,nle rfl,rfl⟩⟩,⟨_,_,rfl,rfl,rfl⟩⟩ (nle rfl) ?_);exact af (ah aB (aO _)) (af (ah aB (ag _)) ax)
def sj(f:Nat)(c:Cnt)(i:Int)(k:Int):Option Sp:=
 (FO f c i (ci (wi k 256))).bind fun r=>if r.2 then some (r.1,r.1) else if qs r.1+qs (ci (wi k 256))≤549755813888 then some (r.1,r.1+ci (wi k 256)) else none
theorem fs_span(f:Nat)(c:Cnt)(i:Int)(k:Int)(s:Sp)(h:sj f c i k=some s):FS 236 [plA c i,i64 k] (.agg (spC s.1 s.2)):=by
 unfold sj at h;obtain⟨⟨at',ex⟩,hd,h2⟩:=Option.bind_eq_some_iff.1 h;refine f_n Tryz.func236 ?_ ?_;exact ae (c6 c i) (ae (ag _) ai);refine r_z 1 ?_;refine r_c 4 (jc k) ?_;refine a_z ?_;refine r_c 9 (fs_down f c i (ci (wi k 256)) (at',ex) hd) ?_;refine a_z ?_;refine ac (r_z 1 ?_);refine aq rfl (fun h1=>?_) (fun h1=>?_);subst h1;rw[if_pos rfl] at h2;cases h2;refine r_c 3 (yV at') ?_;refine a_z ?_;exact aj (c_e (bq _ _))
 ·subst h1
  rw[if_neg (show¬false=true by decide)] at h2;split at h2
  case isFalse=>cases h2
  case isTrue hs=>
  cases h2;refine ak (ac (r_d hmix 6 ?_));refine c_s (fz at' (ci (wi k 256)) hs) ?_;refine a_2 ?_;refine an (n_k ?_);exact aj (c_e (bq _ _))
abbrev roA(p:Lq)(i:Int):AV:= .agg [.arr (pE p),i64 i]
theorem oi(p:Lq)(i:Int):Closed (roA p i):=aG (ae (ap p) (ae (ag _) ai))
def n4(f:Nat)(p:Lq):Option Cnt:=if p.length≤274877906944∧lr p=0 then(fU f p).bind fun c=>if E1 c then some c else none else none
theorem yC(f:Nat)(p:Lq)(i:Int)(c:Cnt)(h:n4 f p=some c)(hf:f≤1000000)(hi:0≤i):FS 217 [roA p i] (.tup [plA c i,bln (decide (i< D5 c))]):=by
 unfold n4 at h;split at h
 case isFalse=>cases h
 case isTrue hp=>
 obtain⟨c',hc,h2⟩:=Option.bind_eq_some_iff.1 h;split at h2
 case isFalse=>cases h2
 case isTrue hk=>
 cases h2;refine f_n Tryz.func217 ?_ ?_;exact ae (oi p i) ai;refine r_z 3 ?_;refine ac (r_c 9 (yH p (by omega)) ?_);refine a_2 ?_
 first|refine y_g rfl (by simp[hp.2]) (.fieldAddr_l rfl TF.h (by decide)) ?_|refine y_g rfl (by simp[hp.2]) (.fieldAddr_a rfl TF.h (by decide)) ?_
 first|refine y_g rfl (by simp[hp.2]) (.load_l1 rfl rfl rfl TG.h rfl) ?_|refine y_g rfl (by simp[hp.2]) (.load_a1 rfl rfl TG.h rfl) ?_
 refine y_g rfl (by simp[hp.2]) (.bin rfl rfl cw) ?_;refine o_0 (.pickF rfl (by simp[hp.2]) rfl) ?_;refine an ?_;refine aq rfl (fun h=>?_) (fun h=>?_);exact absurd h (by simp;omega);refine ak (ac (r_d hmix 8 ?_));refine c_s (mT f p c hc hf) ?_;refine a_5 ?_;refine an (n_k ?_);refine ac (r_d hmix 11 ?_);refine c_s (fs_all c hk) ?_;refine a_3 ?_;refine an (n_k ?_);refine aj (Fin.many ⟨_,_,rfl,rfl,⟨_,_,rfl,rfl,rfl⟩⟩ (nle rfl) ?_);exact af (Cv.boxp aB rfl (fun _ _ h=>by cases h) rfl (ae (gu c) (ae (ag _) ai))) (af (ah aB (ag _)) ax)
def l8(s:Sp):Rat:=(s.1+s.2) * ci 1
def yi(c:Cnt)(i:Int)(s:Sp):Sp:=if plC c i (l8 s)=0 then(l8 s,l8 s) else if plC c i (l8 s)=1 then(l8 s,s.2) else(s.1,l8 s)
def l7(c:Cnt)(s:Sp):Prop:=smS s∧oQ c (l8 s)
instance (c:Cnt) (s:Sp):Decidable (l7 c s):=inferInstanceAs (Decidable (_∧_))
def cX(c:Cnt)(i:Int)(s0:Sp):Nat→Sp
 |0=>s0
 |k+1=>yi c i (cX c i s0 k)
def closT(c:Cnt)(i:Int)(s0:Sp)(k:Nat):Option La:=some [.agg (spC (cX c i s0 k).1 (cX c i s0 k).2)]
abbrev bPl(c:Cnt)(i:Int):AV:= .aptr [[plA c i]] 0 0
theorem dr(c:Cnt)(i:Int):Closed (bPl c i):=ba (ae (c6 c i) ai)
theorem ql(f:Nat)(c:Cnt)(i:Int)(s0:Sp)(K:Nat)(h:sj f c i 0=some s0)(hok:∀k,k< K→l7 c (cX c i s0 k)):GSpecB Tryz.prog 273 [bPl c i] (closT c i s0) K:=by
 refine GSpecB.enter Tryz.func273 rfl (by kernel_rfl) rfl rfl rfl ?_ ?_ rfl ?_;exact ae (dr c i) ai;intro k xs h;cases h;exact ae (bq _ _) ai;intro ll N hN E;refine GWp.seq ?_;refine GWp.lift ?_;refine r_m 4 ?_;refine c_s (fs_span f c i 0 s0 h) ?_;refine a_z ?_;refine GWp.block ?_;refine GWp.loopS (fun k:Nat=>⟨[(0,.v (.func (.yield ll) #[] #[])),(1,bPl c i),(3,.lptr 1 0 0)],[(1,some ⟨44,6,[spC (cX c i s0 k).1 (cX c i s0 k).2]⟩)],2,25⟩) (fun k=>k) (fun k=>N+1- k) (fun k=>k≤N) 0 (Nat.zero_le _) rfl ?_ ?_;have:=dr c i;exact s_f [(1,3)];intro k hk;refine GWp.seq ?_;refine GWp.seq ?_;refine GWp.regY (fr2:=[(0,.v (.func (.yield ll) #[] #[])),(1,bPl c i),(3,.lptr 1 0 0),(7,.v (.func (.yield ll) #[] #[])),(8,.agg (spC (cX c i s0 k).1 (cX c i s0 k).2))]) (hp2:=[(1,some ⟨44,6,[spC (cX c i s0 k).1 (cX c i s0 k).2]⟩)]) (nx2:=2) 2 rfl rfl rfl rfl rfl rfl ?_ rfl rfl rfl ?_ ?_ ?_;refine o_0 (.move rfl) ?_
 first|refine ay (.load_l rfl rfl rfl TG.h TS.h (nle rfl)) rfl rfl ?_|refine ay (.load_a rfl rfl TG.h TS.h (nle rfl)) rfl rfl ?_
 refine an ?_;exact s_y [] (fun hs=>db) (fun hs=>jG);rotate_left 2;intro go;refine an ?_;rotate_left;rfl;exact ae (bq _ _) ai;cases go with
 |false=>
  refine GWp.cond rfl (fun h=>?_) (fun h=>?_);cases h;exact GWp.exit ⟨.inl rfl,fun h=>by cases h⟩
 |true=>
  refine GWp.bound fun hk1=>?_;refine GWp.cond rfl (fun h=>?_) (fun h=>?_);rotate_left;cases h;refine GWp.skip ?_;have hn:=hok k (by omega);obtain⟨hs,hb⟩:=hn;have hnx:cX c i s0 (k+1)=yi c i (cX c i s0 k):=rfl;obtain⟨s,hsd⟩:∃s,s=cX c i s0 k:=⟨_,rfl⟩;rw[←hsd] at hs hb hnx⊢;refine GWp.lift ?_;refine am (r_c 4 (tI s.1 s.2 hs.1 hs.2) ?_);refine a_z ?_;refine r_c 3 (wE c i (l8 s) hb) ?_;refine an ?_;refine am (r_z 2 ?_);refine aq rfl (fun h1=>?_) (fun h1=>?_);have h2:plC c i (l8 s)=0:=by simpa using h1
  have hx:cX c i s0 (k+1)=(l8 s,l8 s):=by rw[hnx];unfold yi;rw[if_pos h2]
  refine r_m 3 ?_;refine c_s (yV (l8 s)) ?_;refine a_z ?_;refine⟨rfl,k+1,by omega,hk1,rfl,?_⟩;simp only[hx];have:=dr c i;exact s_f [];have h2:¬plC c i (l8 s)=0:=by simpa using h1
  refine r_z 2 ?_;refine aq rfl (fun h3=>?_) (fun h3=>?_);have h4:plC c i (l8 s)=1:=by simpa using h3
  have hx:cX c i s0 (k+1)=(l8 s,s.2):=by rw[hnx];unfold yi;rw[if_neg h2,if_pos h4]
  refine r_m 3 ?_;refine a_z ?_;refine⟨rfl,k+1,by omega,hk1,rfl,?_⟩;simp only[hx];have:=dr c i;exact s_f [];have h4:¬plC c i (l8 s)=1:=by simpa using h3
  have hx:cX c i s0 (k+1)=(s.1,l8 s):=by rw[hnx];unfold yi;rw[if_neg h2,if_neg h4]
  refine r_m 3 ?_;refine a_z ?_;refine⟨rfl,k+1,by omega,hk1,rfl,?_⟩;simp only[hx];have:=dr c i;exact s_f []
theorem qt(c:Cnt)(i:Int):FS 253 [plA c i] (.clos 273 [] [bPl c i]):=by
 refine f_n Tryz.func253 ?_ ?_;exact ae (c6 c i) ai;refine r_z 2 ?_;refine r_z 2 ?_;refine aj (⟨.inr rfl,[_],⟨_,[],rfl,rfl,rfl⟩,?_⟩);exact Cv.clos ax (af (Cv.boxp aB rfl (fun _ _ h=>by cases h) rfl (ae (c6 c i) ai)) ax)
def oc(t:Nat→Option Bool):Nat→Nat→Option Nat
 |0,_=>none
 |f+1,k=>match t k with
  |some true=>some k
  |some false=>oc t f (k+1)
  |none=>none
theorem jP{t:Nat→Option Bool}:∀{f k0 k:Nat},oc t f k0=some k→t k=some true∧k0≤k∧∀j,k0≤j→j< k→t j=some false
 |0,_,_,h=>by cases h
 |f+1,k0,k,h=>by
  rw[oc] at h;split at h;cases h;exact⟨by assumption,Nat.le_refl _,fun j h1 h2=>by omega⟩;obtain⟨h1,h2,h3⟩:=jP h;refine⟨h1,by omega,fun j hj1 hj2=>?_⟩;by_cases e:j=k0;rw[e];assumption;exact h3 j (by omega) hj2;cases h
def om(c:Cnt)(i:Int)(s:Sp):Option Bool:=if oQ c s.1∧rl c s.2∧l7 c s∧ -4611686018427387904≤i∧i≤4611686018427387904 then some (decide (cx c s.1=i∧fq c s.2=i+1)) else none
def alS(c:Cnt)(i:Int):Nat→AState
 |k=>⟨[(1,bPl c i),(2,.lptr 1 0 0),(3,.lptr 2 0 0),(6,.clos 273 [] [bPl c i])],[(1,some ⟨44,6,[zC++zC]⟩),(2,some ⟨44,6,[zC++zC]⟩)],3,37⟩
def alX(s:Sp):Unit→AState
 |u=>⟨[(2,.lptr 1 0 0),(3,.lptr 2 0 0)],[(1,some ⟨44,6,[zC++zC]⟩),(2,some ⟨44,6,[spC s.1 s.2]⟩)],3,37⟩
theorem Fx(f g:Nat)(c:Cnt)(i:Int)(s0:Sp)(kk:Nat)(h:sj f c i 0=some s0)(hk:oc (fun k=>om c i (cX c i s0 k)) g 0=some kk):FS 272 [plA c i] (.agg (spC (cX c i s0 kk).1 (cX c i s0 kk).2)):=by
 obtain⟨h1,_,h2⟩:=jP hk
 have hok:∀k,k≤kk→oQ c (cX c i s0 k).1∧rl c (cX c i s0 k).2∧l7 c (cX c i s0 k)∧ -4611686018427387904≤i∧i≤4611686018427387904:=fun k hk=>by
  have:∃b,om c i (cX c i s0 k)=some b:=by
   by_cases e:k=kk;rw[e];exact⟨_,h1⟩;exact⟨_,h2 k (Nat.zero_le _) (by omega)⟩
  obtain⟨b,hb⟩:=this;unfold om at hb;split at hb;assumption;cases hb
 have hgs:=ql f c i s0 kk h (fun k hk=>(hok k (by omega)).2.2.1);refine f_n Tryz.func272 ?_ ?_;exact ae (c6 c i) ai;refine r_z 2 ?_;refine r_z 1 ?_;refine AWp.ent (st':=⟨[(1,bPl c i),(2,.lptr 1 0 0),(3,.lptr 2 0 0)],[(1,some ⟨44,6,[zC++zC]⟩),(2,some ⟨44,6,[zC++zC]⟩)],3,37⟩) ?_ ?_;have:=(ae (c6 c i) ai);exact s_f [(1,2),(2,3)];refine ac (r_c 2 (qt c i) ?_);refine an ?_;refine aI (alX (cX c i s0 kk)) (fun _=>True) ?_ ?_;refine am (AWp.rangeFuncB (α:=Nat) (γ:=Unit) kk (alS c i) (fun k=>k) (fun k=>k≤kk) (alX (cX c i s0 kk)) (fun e _=>e= .exit 0) 0 rfl hgs rfl rfl ?_ (fun _=>⟨rfl,rfl⟩) (fun _=>rfl) (Nat.zero_le _) rfl (fun _ h=>h) ?_ ?_ ?_ ?_ ?_);intro k xs hT;cases hT;rfl;rw[alS.eq_1];have:=dr c i;exact s_t [];exact ae (dr c i) ai;intro l k xs hk hT;cases hT;have hx:=hok k hk;obtain⟨s,hsd⟩:∃s,s=cX c i s0 k:=⟨_,rfl⟩;rw[←hsd] at hx⊢;obtain⟨x1,x2,x3,x4,x5⟩:=hx;show AWp _ _ _ _ ⟨[(7,.agg (spC s.1 s.2)),(1,bPl c i),(2,.lptr 1 0 0),(3,.lptr 2 0 0),(6,.clos 273 [] [bPl c i]),(1001,bPl c i),(1002,.lptr 1 0 0),(1003,.lptr 2 0 0),(1006,.clos 273 [] [bPl c i])],[(1,some ⟨44,6,[zC++zC]⟩),(2,some ⟨44,6,[zC++zC]⟩)],3,37⟩;refine r_m 2 ?_;refine a_z ?_;refine am ?_;by_cases hb:cx c s.1=i;refine ac (r_d hmix 27 ?_);refine c_s (kz c s.1 x1) ?_;refine a_6 ?_
 first|refine y_g rfl (by simp[hb]) (.load_l1 rfl rfl rfl TG.h rfl) ?_|refine y_g rfl (by simp[hb]) (.load_a1 rfl rfl TG.h rfl) ?_
 refine y_g rfl (by simp[hb]) (.nilCheck rfl rfl) ?_
 first|refine y_g rfl (by simp[hb]) (.fieldAddr_l rfl TF.h (by decide)) ?_|refine y_g rfl (by simp[hb]) (.fieldAddr_a rfl TF.h (by decide)) ?_
 first|refine y_g rfl (by simp[hb]) (.load_l1 rfl rfl rfl TG.h rfl) ?_|refine y_g rfl (by simp[hb]) (.load_a1 rfl rfl TG.h rfl) ?_
 first|refine y_g rfl (by simp[hb]) (.fieldAddr_l rfl TF.h (by decide)) ?_|refine y_g rfl (by simp[hb]) (.fieldAddr_a rfl TF.h (by decide)) ?_
 first|refine y_g rfl (by simp[hb]) (.load_l rfl rfl rfl TG.h TS.h (nle rfl)) ?_|refine y_g rfl (by simp[hb]) (.load_a rfl rfl TG.h TS.h (nle rfl)) ?_
 refine y_g rfl (by simp[hb]) (.call rfl rfl rfl (lC c s.2 x2)) ?_
 first|refine y_g rfl (by simp[hb]) (.load_l1 rfl rfl rfl TG.h rfl) ?_|refine y_g rfl (by simp[hb]) (.load_a1 rfl rfl TG.h rfl) ?_
 refine y_g rfl (by simp[hb]) (.nilCheck rfl rfl) ?_
 first|refine y_g rfl (by simp[hb]) (.fieldAddr_l rfl TF.h (by decide)) ?_|refine y_g rfl (by simp[hb]) (.fieldAddr_a rfl TF.h (by decide)) ?_
 first|refine y_g rfl (by simp[hb]) (.load_l1 rfl rfl rfl TG.h rfl) ?_|refine y_g rfl (by simp[hb]) (.load_a1 rfl rfl TG.h rfl) ?_
 refine y_g rfl (by simp[hb]) (.bin rfl rfl (zJ (by omega))) ?_;refine y_g rfl (by simp[hb]) (.bin rfl rfl aJ) ?_;refine o_0 (.pickT rfl (by simp[hb]) rfl) ?_;refine an (n_k ?_);refine aq rfl (fun h5=>?_) (fun h5=>?_);have h6:fq c s.2=i+1:=by simpa using h5
 have he:k=kk:=by
  refine Nat.le_antisymm hk (Nat.le_of_not_lt fun hlt=>?_);have h7:=h2 k (Nat.zero_le _) hlt;rw[←hsd] at h7;unfold om at h7;rw[if_pos ⟨x1,x2,x3,x4,x5⟩] at h7;simp[hb,h6] at h7
 subst he;refine r_z 2 ?_;refine aA (⟨rfl,(),rfl,?_⟩);rw[←hsd];show SEntT _ ⟨[(1002,.lptr 1 0 0),(1003,.lptr 2 0 0)],[(1,some ⟨44,6,[zC++zC]⟩),(2,some ⟨44,6,[spC s.1 s.2]⟩)],3,37⟩;exact s_y [] (fun hs=>db) (fun hs=>jG);have h6:¬fq c s.2=i+1:=by simpa using h5
 have he:k< kk:=by
  refine Nat.lt_of_le_of_ne hk fun e=>?_;subst e;rw[←hsd] at h1;unfold om at h1;rw[if_pos ⟨x1,x2,x3,x4,x5⟩] at h1;simp[h6] at h1
 refine ak (⟨k+1,⟨he,rfl⟩,?_⟩);show SEntT _ ⟨[(1001,bPl c i),(1002,.lptr 1 0 0),(1003,.lptr 2 0 0),(1006,.clos 273 [] [bPl c i])],[(1,some ⟨44,6,[zC++zC]⟩),(2,some ⟨44,6,[zC++zC]⟩)],3,37⟩;exact s_y [] (fun hs=>db) (fun hs=>jG);refine ac (r_d hmix 27 ?_);refine c_s (kz c s.1 x1) ?_;refine a_6 ?_;refine n_g rfl (by simp[hb]) ?_;refine n_g rfl (by simp[hb]) ?_;refine n_g rfl (by simp[hb]) ?_;refine n_g rfl (by simp[hb]) ?_;refine n_g rfl (by simp[hb]) ?_;refine n_g rfl (by simp[hb]) ?_;refine n_g rfl (by simp[hb]) ?_;refine n_g rfl (by simp[hb]) ?_;refine n_g rfl (by simp[hb]) ?_;refine n_g rfl (by simp[hb]) ?_;refine n_g rfl (by simp[hb]) ?_;refine n_g rfl (by simp[hb]) ?_;refine n_g rfl (by simp[hb]) ?_;refine o_0 (.pickF rfl (by simp[hb]) rfl) ?_;refine an (n_k ?_);refine cF ?_
 have he:k< kk:=by
  refine Nat.lt_of_le_of_ne hk fun e=>?_;subst e;rw[←hsd] at h1;unfold om at h1;rw[if_pos ⟨x1,x2,x3,x4,x5⟩] at h1;simp[hb] at h1
 refine ak (⟨k+1,⟨he,rfl⟩,?_⟩);show SEntT _ ⟨[(1001,bPl c i),(1002,.lptr 1 0 0),(1003,.lptr 2 0 0),(1006,.clos 273 [] [bPl c i])],[(1,some ⟨44,6,[zC++zC]⟩),(2,some ⟨44,6,[zC++zC]⟩)],3,37⟩;exact s_y [] (fun hs=>db) (fun hs=>jG);intro k hk hT;cases hT;rintro e u rfl;exact⟨u,trivial,SEnt.refl _⟩;rintro u _;rw[alX.eq_1];refine r_z 2 ?_;exact aj (c_e (bq _ _))
def Gi(f g:Nat)(c:Cnt)(i:Int):Option Sp:=(sj f c i 0).bind fun s0=>(oc (fun k=>om c i (cX c i s0 k)) g 0).map (cX c i s0)
theorem DJ(f g:Nat)(c:Cnt)(i:Int)(s:Sp)(h:Gi f g c i=some s):FS 272 [plA c i] (.agg (spC s.1 s.2)):=by
 obtain⟨s0,h1,h2⟩:=Option.bind_eq_some_iff.1 h;obtain⟨k,h3,rfl⟩:=Option.map_eq_some_iff.1 h2;exact Fx f g c i s0 k h1 h3
def vP(f g:Nat)(c:Cnt)(i:Int)(q:Lq):Option Bool:=
 if c.p.length≤274877906944∧q.length≤274877906944 then(Dz f c.p q).bind fun d=>
  if d.length≤274877906944 then
   if cC d< 1 then some false
   else(fU f d).bind fun c2=>(Gi f g c i).bind fun s=>if rl c2 s.2∧oQ c2 s.1 then some (decide (cx c2 s.1< fq c2 s.2)) else none
  else none
 else none
theorem DE(f g:Nat)(c:Cnt)(i:Int)(q:Lq)(r:Bool)(h:vP f g c i q=some r)(hf:f≤1000000):FS 252 [plA c i,.arr (pE q)] (bln r):=by
 unfold vP at h;split at h
 case isFalse=>cases h
 case isTrue hl=>
 obtain⟨d,hd,h2⟩:=Option.bind_eq_some_iff.1 h;split at h2
 case isFalse=>cases h2
 case isTrue hdl=>
 refine f_n Tryz.func252 ?_ ?_;exact ae (c6 c i) (ae (ap q) ai);refine r_z 1 ?_;refine r_c 10 (FC f c.p q d hd hl.1 hl.2) ?_;refine a_z ?_;refine ac (r_c 3 (cr d (by omega)) ?_);refine a_z ?_;refine aq rfl (fun h3=>?_) (fun h3=>?_);have h4:cC d< 1:=by simpa using h3
 rw[if_pos h4] at h2;cases h2;refine r_z 1 ?_;exact aj (t_e (ag _))
 ·have h4:¬cC d< 1:=by simpa using h3
  rw[if_neg h4] at h2;obtain⟨c2,hc2,h5⟩:=Option.bind_eq_some_iff.1 h2;obtain⟨s,hs,h6⟩:=Option.bind_eq_some_iff.1 h5;split at h6
  case isFalse=>cases h6
  case isTrue hk=>
  cases h6;refine ak (r_c 7 (mT f d c2 hc2 hf) ?_);refine c_s (DJ f g c i s hs) ?_;refine a_z ?_;refine ac (r_d hmix 10 ?_);refine c_s (lC c2 s.2 hk.1) ?_;refine c_s (kz c2 s.1 hk.2) ?_;refine a_2 ?_;refine an (n_k ?_);exact aj (t_e (ag _))
def xK(c:Cnt)(i:Int)(c2:Cnt)(s:Sp):Option Bool:=if rl c2 s.2∧oQ c2 s.1∧l7 c s then some (decide (fq c2 s.2=cx c2 s.1)) else none
def qR(f g:Nat)(c:Cnt)(i:Int)(q:Lq):Option Int:=
 if q.length≤274877906944 then
  if cC q< 0 then some 0
  else(vP f g c i q).bind fun b=>if b then some 0 else(fU f q).bind fun c2=>(sj f c i 0).bind fun s0=>
   (oc (fun k=>xK c i c2 (cX c i s0 k)) g 0).bind fun k=>if dP q (cX c i s0 k).2 then some (sgZ (aF q (cX c i s0 k).2).num) else none
 else none
def pgS(c:Cnt)(i:Int)(q:Lq)(c2:Cnt):Nat→AState
 |k=>⟨[(0,plA c i),(3,bP q),(4,.lptr 1 0 0),(5,.aptr [[kA c2]] 0 0),(18,.clos 273 [] [bPl c i])],[(1,some ⟨3,1,[[i64 0]]⟩)],2,34⟩
def pgX(r:Int):Unit→AState
 |u=>⟨[(4,.lptr 1 0 0)],[(1,some ⟨3,1,[[i64 r]]⟩)],2,34⟩
theorem uj(c:Cnt):Closed (.aptr [[kA c]] 0 0):=ba (ae (gu c) ai)
theorem CK(f g:Nat)(c:Cnt)(i:Int)(q:Lq)(r:Int)(h:qR f g c i q=some r)(hf:f≤1000000):FS 218 [plA c i,.arr (pE q)] (i64 r):=by
 unfold qR at h;split at h
 case isFalse=>cases h
 case isTrue hl=>
 refine f_n Tryz.func218 ?_ ?_;exact ae (c6 c i) (ae (ap q) ai);refine r_z 2 ?_;refine AWp.ent (st':=⟨[(0,plA c i),(3,bP q),(4,.lptr 1 0 0)],[(1,some ⟨3,1,[[i64 0]]⟩)],2,34⟩) ?_ ?_;exact s_f [(1,4)];by_cases hd:cC q< 0;rw[if_pos hd] at h;cases h;refine ac (r_c 8 (cr q (by omega)) ?_);refine a_2 ?_;refine n_g rfl (by simp[hd]) ?_;refine n_g rfl (by simp[hd]) ?_;refine n_g rfl (by simp[hd]) ?_;refine o_0 (.pickT rfl (by simp[hd]) rfl) ?_;refine an ?_;refine aq rfl (fun h1=>?_) (fun h1=>?_);refine r_z 1 ?_;exact aj (Fin.cell1E rfl rfl rfl TG.h rfl rfl (ag _));cases h1;rw[if_neg hd] at h;obtain⟨b,hb,h2⟩:=Option.bind_eq_some_iff.1 h;refine ac (r_c 8 (cr q (by omega)) ?_);refine a_2 ?_;refine y_g rfl (by simp[hd]) (.move rfl) ?_
 first|refine y_g rfl (by simp[hd]) (.load_l1 rfl rfl rfl TG.h rfl) ?_|refine y_g rfl (by simp[hd]) (.load_a1 rfl rfl TG.h rfl) ?_
 refine y_g rfl (by simp[hd]) (.call rfl rfl rfl (DE f g c i q b hb hf)) ?_;refine o_0 (.pickF rfl (by simp[hd]) rfl) ?_;refine an ?_;refine aq rfl (fun h1=>?_) (fun h1=>?_);have hb1:b=true:=h1;subst hb1;rw[if_pos rfl] at h2;cases h2;refine r_z 1 ?_;exact aj (Fin.cell1E rfl rfl rfl TG.h rfl rfl (ag _));have hb1:b=false:=h1;subst hb1;rw[if_neg (show¬false=true by decide)] at h2;obtain⟨c2,hc2,h3⟩:=Option.bind_eq_some_iff.1 h2;obtain⟨s0,hs0,h4⟩:=Option.bind_eq_some_iff.1 h3;obtain⟨kk,hkk,h5⟩:=Option.bind_eq_some_iff.1 h4;split at h5
 case isFalse=>cases h5
 case isTrue hev=>
 cases h5;obtain⟨t1,_,t2⟩:=jP hkk
 have hok:∀k,k≤kk→rl c2 (cX c i s0 k).2∧oQ c2 (cX c i s0 k).1∧l7 c (cX c i s0 k):=fun k hk=>by
  have:∃b,xK c i c2 (cX c i s0 k)=some b:=by
   by_cases e:k=kk;rw[e];exact⟨_,t1⟩;exact⟨_,t2 k (Nat.zero_le _) (by omega)⟩
  obtain⟨b,hb⟩:=this;unfold xK at hb;split at hb;assumption;cases hb
 have hgs:=ql f c i s0 kk hs0 (fun k hk=>(hok k (by omega)).2.2);obtain⟨r,hr⟩:∃r,r=sgZ (aF q (cX c i s0 kk).2).num:=⟨_,rfl⟩;rw[←hr];refine ak (r_c 4 (mT f q c2 hc2 hf) ?_);refine a_z ?_;refine AWp.ent (st':=⟨[(0,plA c i),(3,bP q),(4,.lptr 1 0 0),(5,.aptr [[kA c2]] 0 0)],[(1,some ⟨3,1,[[i64 0]]⟩)],2,34⟩) ?_ ?_;have:=(ae (gu c2) ai);exact s_f [];refine ac (r_c 2 (qt c i) ?_);refine an ?_;refine aI (pgX r) (fun _=>False) ?_ (fun _ h=>h.elim);refine am (AWp.rangeFuncB (α:=Nat) (γ:=Unit) kk (pgS c i q c2) (fun k=>k) (fun k=>k≤kk) (pgX r) (fun e _=>e= .ret) 0 rfl hgs rfl rfl ?_ (fun _=>⟨rfl,rfl⟩) (fun _=>rfl) (Nat.zero_le _) rfl (fun _ h=>h) ?_ ?_ ?_ ?_ ?_);intro k xs hT;cases hT;rfl;rw[pgS.eq_1];have:=uj c2;exact s_t [];exact ae (dr c i) ai;intro l k xs hk hT;cases hT;have hx:=hok k hk;obtain⟨s,hsd⟩:∃s,s=cX c i s0 k:=⟨_,rfl⟩;rw[←hsd] at hx⊢;obtain⟨x1,x2,x3⟩:=hx;show AWp _ _ _ _ ⟨[(19,.agg (spC s.1 s.2)),(0,plA c i),(3,bP q),(4,.lptr 1 0 0),(5,.aptr [[kA c2]] 0 0),(18,.clos 273 [] [bPl c i]),(1000,plA c i),(1003,bP q),(1004,.lptr 1 0 0),(1005,.aptr [[kA c2]] 0 0),(1018,.clos 273 [] [bPl c i])],[(1,some ⟨3,1,[[i64 0]]⟩)],2,34⟩;refine r_m 2 ?_;refine a_z ?_;refine am (ac (r_d hmix 9 ?_));refine c_s (lC c2 s.2 x1) ?_;refine c_s (kz c2 s.1 x2) ?_;refine a_1 ?_;refine an (n_k ?_);refine aq rfl (fun h6=>?_) (fun h6=>?_);have h7:fq c2 s.2=cx c2 s.1:=by simpa using h6
 have he:k=kk:=by
  refine Nat.le_antisymm hk (Nat.le_of_not_lt fun hlt=>?_);have h8:=t2 k (Nat.zero_le _) hlt;rw[←hsd] at h8;unfold xK at h8;rw[if_pos ⟨x1,x2,x3⟩] at h8;simp[h7] at h8
 subst he;rw[←hsd] at hev hr;refine r_c 6 (e8 q s.2 hev) ?_;refine c_s (bY (aF q s.2)) ?_;refine a_z ?_;refine aj (⟨rfl,(),rfl,?_⟩);rw[hr];show SEntT _ ⟨[(1004,.lptr 1 0 0)],[(1,some ⟨3,1,[[i64 (sgZ (aF q s.2).num)]]⟩)],2,34⟩;exact s_t [];have h7:¬fq c2 s.2=cx c2 s.1:=by simpa using h6
 have he:k< kk:=by
  refine Nat.lt_of_le_of_ne hk fun e=>?_;subst e;rw[←hsd] at t1;unfold xK at t1;rw[if_pos ⟨x1,x2,x3⟩] at t1;simp[h7] at t1
 refine ak (⟨k+1,⟨he,rfl⟩,?_⟩);show SEntT _ ⟨[(1000,plA c i),(1003,bP q),(1004,.lptr 1 0 0),(1005,.aptr [[kA c2]] 0 0),(1018,.clos 273 [] [bPl c i])],[(1,some ⟨3,1,[[i64 0]]⟩)],2,34⟩;have:=uj c2;exact s_t [];intro k hk hT;cases hT;rintro e u rfl;exact Fin.cell1E rfl rfl rfl TG.h rfl rfl (ag _)
end Go.Proofs.YtjgokhkahkmpbaaGreatDoor
