/- Part W23 of the proof. -/
import Derived.Test.YtjkddcfoolilbaaGreatDoorW22
set_option linter.all false
namespace Go.Proofs.YtjkddcfoolilbaaGreatDoor
open Go.Abs
set_option maxRecDepth 20000
set_option maxHeartbeats 2000000
theorem kz_(f:Nat)(p r:List Rat)(h:sqfM f p=some r):FS 225 [.arr (pE p)] (.arr (pE r)):=by
 unfold sqfM at h;split at h
 case isFalse=>cases h
 case isTrue hs=>
 obtain⟨g,hg,hr⟩:=Option.bind_eq_some_iff.1 h;split at hr
 case isFalse=>cases hr
 case isTrue hg2=>
 cases hr;have hdl:=f1_ p;have hdv:=kW_ (p:=p) (q:=g);refine f_c Tryz.func225 ?_;refine r_z 1 ?_;refine r_c 11 (iZ_ p hs.1 (by omega)) ?_;refine c_s (fs_Gcd f p (cq_ p) g hg hs.2 (by omega)) ?_;refine c_s (iS_ p g (mxL p) (mxL g) (cW_ p) (cW_ g) (cL_ p) (cL_ g) hg2.2.1 hg2.1 hs.2 hg2.2.2.2) ?_;refine a_z ?_;refine r_c 3 (kG_ (divP p g).1 (nl_ hg2.2 hg2.1).1 (by omega)) ?_;refine a_z ?_;exact ag_ (t_e (ap_ _))
def boS(t:List Rat)(l:List Rat):Nat×Rat→AState
 |(i,m)=>⟨[(0,.arr (pE t)),(2,.lptr 1 0 0),(3,.lptr 2 0 0),(13,.arr (pE l)),(14,i64 l.length),(15,i64 i)],[(1,some ⟨46,3,[zC]⟩),(2,some ⟨46,3,[qC m]⟩)],3,31⟩
theorem fs_bound(p:List Rat)(h:iw_ p)(h0:trimQ p≠[]):FS 295 [.arr (pE p)] (.agg (qC (dZ_ p))):=by
 obtain⟨hsz,hpl⟩:=h;obtain⟨t,ht⟩:∃t,t=trimQ p:=⟨_,rfl⟩;have htr:=cf_ p (by omega);have htl:=bc_ p;rw[←ht] at htr htl;obtain⟨l,hl⟩:∃l,l=t.take (t.length- 1):=⟨_,rfl⟩;have hll:l.length=t.length- 1:=by rw[hl];simp
 have hbl:bdL l (mxL p):=fun q hq=>cW_ p q (bD_ (by rw[←ht];exact List.mem_of_mem_take (by rw[←hl];exact hq)));have hpos:0< t.length:=by rw[ht];exact List.length_pos_iff.2 h0
 have hlead:leadP t=leadP p:=by rw[ht,pl_]
 have hlb:qs (leadP p)≤mxL p:=by
  obtain⟨n,hn⟩:∃n,(trimQ p).length=n+1:=⟨(trimQ p).length- 1,by rw[←ht];omega⟩;exact cW_ p _ (bD_ (List.mem_of_getElem? (cB_ hn)))
 have hb:dZ_ p=boL (leadP p) l 0+1:=by unfold dZ_;rw[←ht,←hl]
 rw[hb];obtain⟨B,hB⟩:∃B,B=boL (leadP p) l 0:=⟨_,rfl⟩;rw[←hB];refine f_c Tryz.func295 ?_;refine r_z 1 ?_;refine r_c 3 (htr) ?_;refine a_z ?_;refine r_z 3 ?_;refine ab_ (s_r 7 ?_);refine a_4 ?_;refine o_0 (.sa_h rfl rfl (h:=t.length- 1) (by omega) (by simp) te_33.h (fS_ _)) ?_;refine a_z ?_;refine av_ (fun _:Unit=>⟨[(2,.lptr 1 0 0),(3,.lptr 2 0 0)],[(1,some ⟨46,3,[zC]⟩),(2,some ⟨46,3,[qC B]⟩)],3,31⟩) (fun _=>qs B≤2* mxL p+1) ?_ ?_;refine af_ (aq_ (boS t l) (fun x=>l.length- x.1) (fun x=>x.1≤l.length∧qs x.2≤2* mxL p+1∧boL (leadP p) (l.drop x.1) x.2=B) (0,0) ⟨Nat.zero_le _,Nat.le_trans (by decide:qs 0≤1) (Nat.le_add_left 1 _),by rw[hB];rfl⟩ ?_ ?_);simp only[boS.eq_1];rw[qC0];have e13:AV.arr (List.take (t.length- 1) (pE t))=AV.arr (pE l):=by rw[hl,ko_]
 refine s_x [(1,2),(2,3)] (fun hs=>?_) (fun hs=>?_) ?_
 ·repeat' (first|exact aD_|refine an_ rfl ?_ ?_|exact Cv.loE hs e13 (e13▸ap_ l)|exact au_c|(refine Cv.loE hs ?_ (ad_ _);first|rfl|(simp[i64,u64,u32,bln,hll];done)|(simp[i64,u64,u32,bln,hll]<;> omega)))
 ·repeat' (first|exact au_|refine h_c ?_ ?_|exact au_e|(refine ay_ hs ?_ (aG_ _);first|(simp[gb_,eg_,hll];done)|(simp[pE,ofV,hll];done))|refine ar_ ?_|exact am_|refine ae_ ?_ ?_|exact Cv.loE hs e13 (e13▸ap_ l)|exact au_c|(refine Cv.loE hs ?_ (ad_ _);first|(simp[i64,u64,u32,bln,hll];done)|(simp[i64,u64,u32,bln,hll]<;> omega)))
 ·repeat' (first|exact ShrL.nil|refine ShrL.cons rfl rfl rfl rfl (by first|rfl|(simp;done)|(simp[hll]<;> omega)) ?_)
 rintro⟨i,m⟩ ⟨hi,hm,hbo⟩;simp only at hi hm hbo;rw[boS.eq_1];refine r_z 1 ?_;refine ab_ (aj_ rfl (fun h=>?_) (fun h=>?_));refine ah_ ?_;have hlt:i< l.length:=by simpa using h
 have hgt:(pE l)[((i:Nat):Int).toNat]?=some (qC (coP l i)):=pE_get (bo_ hlt);have hc:qs (coP l i)≤mxL p:=hbl _ (List.mem_of_getElem? (bo_ hlt));rw[nh_ hlt] at hbo;have hq:=eM_ (coP l i) (leadP p);have hle:=kR_ t (by omega);rw[hlead] at hle;have hqa:=qs_abs (coP l i/ leadP p)
 have hbm:bdL [m,absQ (coP l i/ leadP p)] (2* mxL p+1):=by
  intro x hx;rcases List.mem_cons.1 hx with rfl|hx
  exact hm;rw[List.mem_singleton.1 hx];omega
 have hmx:=ow_ [m,absQ (coP l i/ leadP p)] (fI_ hbm (by omega)) (by simp);refine ab_ (af_ (s_r 4 ?_));refine i_x hgt ?_;refine l_x hgt ?_;refine a_z ?_;refine r_d hmix 9 ?_;refine c_s (hle) ?_;refine c_s (dD_ (coP l i) (leadP p) (fi_ h0) (by omega)) ?_;refine c_s (jN_ (coP l i/ leadP p)) ?_;refine a_1 ?_;refine o_1 (.callS1 rfl rfl rfl (.shut rfl d_n (.nil)) rfl (hmx)) ?_;refine a_1 ?_;refine ak_ (n_k ?_);refine r_m 2 ?_;refine a_z ?_;refine⟨(i+1,maxL [m,absQ (coP l i/ leadP p)]),by simp only;omega,⟨hlt,maxL_le hbm (Nat.le_add_left 1 _),hbo⟩,?_⟩;simp only[boS.eq_1];exact s_e []
 have hge:i=l.length:=by
  have:¬i< l.length:=by simpa using h
  omega
 subst hge;rw[List.drop_length] at hbo;have hbo':m=B:=hbo;subst hbo';refine ao_ ⟨(),hm,?_⟩;exact s_e [];rintro _ hq;have h1:qs 1=1:=by decide
 refine ab_ (r_d hmix 4 ?_);refine c_s (cV_ 1 (by decide)) ?_;refine c_s (c6_ B 1 (by omega)) ?_;refine a_1 ?_;refine ak_ (n_k ?_);exact ag_ (c_e (aC_ _))
def stS:List Rat×List (List Rat)→AState
 |(next,acc)=>⟨[(3,.lsl 1 0 acc.length none 1),(4,.arr (pE next))],[(1,some ⟨33,1,cE acc⟩)],2,40⟩
theorem qi_(next:List Rat)(acc:List (List Rat)):stS (next,acc)=⟨[(3,.lsl 1 0 acc.length none 1),(4,.arr (pE next))],[(1,some ⟨33,1,cE acc⟩)],2,40⟩:=rfl
theorem qK_(p:List Rat):(primP p).length≤p.length:=
 Nat.le_trans (db_ _ _) (bc_ p)
theorem fs_sturm(f:Nat)(p:List Rat)(r:List (List Rat))(h:qg_ f p=some r)(hf:f≤1000000):FS 226 [.arr (pE p)] (.arr (cE r)):=by
 unfold qg_ at h;split at h
 case isFalse=>cases h
 case isTrue hp=>
 have hdl:=f1_ p;have hpl:=hp.2.1.2;refine f_c Tryz.func226 ?_;refine r_z 1 ?_;refine r_c 4 (hf_ p hp.2.1 hp.2.2) ?_;refine a_z ?_;refine ab_ (r_c 3 (iZ_ p hp.1 (by omega)) ?_);refine a_z ?_;refine av_ (fun _:Unit=>⟨[(3,.lsl 1 0 r.length none 1)],[(1,some ⟨33,1,cE r⟩)],2,40⟩) (fun _=>True) ?_ ?_
 ·refine af_ (aq_ (fun x:Nat×List Rat×List Rat×List (List Rat)=>stS x.2.2) (fun x=>x.1) (fun x=>oP_ f x.1 x.2.1 x.2.2.1 x.2.2.2=some r∧x.2.2.1.length≤274877906944∧x.2.2.2.length+x.1≤1000001∧1≤x.2.2.2.length∧x.2.2.2[x.2.2.2.length- 1]?=some x.2.1) (f,primP p,cq_ p,[primP p]) ⟨h,by simp only;omega,by simp only[List.length_singleton];omega,by simp,rfl⟩ ?_ ?_)
  simp only[qi_];have:=ep_ [primP p];exact s_f [(1,3)];rintro⟨k,last,next,acc⟩ ⟨h,hn,hk,ha1,hla⟩;simp only at h hn hk ha1 hla;simp only[qi_];cases k with
  |zero=>cases h
  |succ k=>
   rw[oP_] at h;refine ab_ (r_c 3 (b7_ next (by omega)) ?_);refine a_z ?_;refine aj_ rfl (fun h1=>?_) (fun h1=>?_)
   ·have h0:trimQ next≠[]:=by
     intro e;have e2:=degP_neg.2 e;simp at h1;omega
    rw[if_neg h0] at h;split at h
    case isFalse=>cases h
    case isTrue hs=>
    have hpn:=qK_ next
    have hdv:=kW_ (p:=last) (q:=primP next);have hsl:=db_ (divP last (primP next)).2 (-1);have hl2:=hs.2.1.2.1
    have hg1:(cE (acc++[primP next]))[0+(((acc.length+1:Nat):Int)- 2).toNat]?=some [.arr (pE last)]:=by
     rw[show 0+(((acc.length+1:Nat):Int)- 2).toNat=acc.length- 1 by omega];exact su_ (by rw[List.getElem?_append_left (by omega)];exact hla)
    have hg2:(cE (acc++[primP next]))[0+(((acc.length+1:Nat):Int)- 1).toNat]?=some [.arr (pE (primP next))]:=by
     rw[show 0+(((acc.length+1:Nat):Int)- 1).toNat=acc.length by omega];exact su_ (by simp)
    refine ah_ (af_ (r_c 6 (hf_ next hs.1 h0) ?_));refine a_z ?_;refine AWp.ent (st':=⟨[(3,.lsl 1 0 (acc.length+1) none 1)],[(1,some ⟨33,1,cE (acc++[primP next])⟩)],2,40⟩) ?_ ?_
    ·have:=(cE_snoc acc (primP next)).symm
     exact s_f [(1,3)]
    refine ab_ (r_d hmix 18 ?_);refine a_5 ?_;refine az_ (.load_l1 rfl rfl hg1 TG.h rfl) rfl rfl ?_;refine a_5 ?_;refine az_ (.load_l1 rfl rfl hg2 TG.h rfl) rfl rfl ?_;refine c_s (iS_ last (primP next) (mxL last) (mxL (primP next)) (cW_ _) (cW_ _) (cL_ _) (cL_ _) hs.2.1.1 hs.2.2 hs.2.1.2.1 hs.2.1.2.2) ?_;refine a_5 ?_;refine ak_ (n_k ?_);refine r_m 4 ?_;refine c_s (cV_ (-1) (by decide)) ?_;refine c_s (d7_ (divP last (primP next)).2 (-1) (nl_ hs.2.1 hs.2.2).2 (by decide) (by omega)) ?_;refine a_z ?_;refine⟨(k,primP next,bd_ (divP last (primP next)).2 (-1),acc++[primP next]),Nat.lt_succ_self k,⟨h,by simp only;omega,by simp only[List.length_append,List.length_singleton];omega,by simp,by simp⟩,?_⟩;have hla:(acc++[primP next]).length=acc.length+1:=by simp
    simp only[qi_,hla];exact s_f []
   ·have h0:trimQ next=[]:=by
     refine degP_neg.1 ?_;simp at h1;omega
    rw[if_pos h0] at h;cases h;refine ao_ ⟨(),trivial,?_⟩;exact s_f []
 rintro _ _;refine r_z 2 ?_;exact ag_ (Fin.tmpS rfl rfl rfl (by simp) (ep_ r))
def chS(ch:List (List Rat))(g:Nat)(cap:List AV):Nat×Int×Int→AState
 |(i,n,last)=>⟨[(1,.clos g [] cap),(5,i64 n),(6,i64 last),(10,.arr (cE ch)),(11,i64 ch.length),(12,i64 i)],[],1,30⟩
theorem ms_(ch:List (List Rat))(g:Nat)(cap:List AV)(i:Nat)(n:Int)(last:Int):chS ch g cap (i,n,last)=⟨[(1,.clos g [] cap),(5,i64 n),(6,i64 last),(10,.arr (cE ch)),(11,i64 ch.length),(12,i64 i)],[],1,30⟩:=rfl
theorem jM_(ch:List (List Rat))(g:Nat)(cap:List AV)(sg:List Rat→Int)(hcap:∀c∈cap,Closed c)(hsg:∀q∈ch,-1≤sg q∧sg q≤1)(hl:ch.length≤274877906944)(hg:∀q∈ch,FS g ((.arr (pE q)::cap).map coe) (i64 (sg q))):FS 227 [.arr (cE ch),.clos g [] cap] (i64 (chL (ch.map sg) 0 0)):=by
 refine f_n Tryz.func227 ?_ ?_;exact aa_ (gz_ ch) (aa_ (aE_ ac_ hcap) ac_);refine r_z 1 ?_;refine r_z 2 ?_;refine ab_ (r_z 3 ?_);obtain⟨R,hR⟩:∃R,R=chL (ch.map sg) 0 0:=⟨_,rfl⟩;rw[←hR];refine av_ (fun _:Unit=>⟨[(5,i64 R)],[],1,30⟩) (fun _=>True) ?_ ?_;refine af_ (aq_ (chS ch g cap) (fun x=>ch.length- x.1) (fun x=>x.1≤ch.length∧0≤x.2.1∧x.2.1≤x.1∧ -1≤x.2.2∧x.2.2≤1∧chL ((ch.drop x.1).map sg) x.2.1 x.2.2=R) (0,0,0) ⟨Nat.zero_le _,by decide,by decide,by decide,by decide,by rw[hR];rfl⟩ ?_ ?_);simp only[ms_];exact s_x [] (fun hs=>e_4) (fun hs=>e_12);rintro⟨i,n,last⟩ ⟨hi,hn0,hn1,hl0,hl1,hc⟩;simp only at hi hn0 hn1 hl0 hl1 hc;rw[ms_];refine r_z 1 ?_;refine ab_ (aj_ rfl (fun h=>?_) (fun h=>?_));refine ah_ ?_;have hlt:i< ch.length:=by simpa using h
 obtain⟨q,hq⟩:∃q,ch[i]?=some q:=⟨_,List.getElem?_eq_getElem hlt⟩;have hqm:=List.mem_of_getElem? hq;have hgt:(cE ch)[((i:Nat):Int).toNat]?=some [.arr (pE q)]:=su_ hq
 have hd:ch.drop i=q::ch.drop (i+1):=by
  rw[List.drop_eq_getElem_cons hlt];rw[List.getElem?_eq_getElem hlt] at hq;rw[Option.some.inj hq]
 rw[hd,List.map_cons,chL] at hc;have hs2:=hsg q hqm;refine ab_ (af_ (s_r 3 ?_));refine i_x hgt ?_;refine l_1 hgt ?_;refine a_z ?_;refine r_c 4 (hg q hqm) ?_;refine a_z ?_;refine r_z 2 ?_;refine aj_ rfl (fun h1=>?_) (fun h1=>?_);have hne:sg q≠0:=by simpa using h1
 rw[if_pos hne] at hc;refine ab_ (r_z 4 ?_);refine aj_ rfl (fun h2=>?_) (fun h2=>?_);have he:sg q= -last:=by simpa using h2
 rw[if_pos he] at hc;refine r_m 3 ?_;refine a_z ?_;refine r_m 2 ?_;refine a_z ?_;refine r_m 2 ?_;refine a_z ?_;refine⟨(i+1,n+1,sg q),by simp only;omega,⟨hlt,by simp only;omega,by simp only;omega,hs2.1,hs2.2,hc⟩,?_⟩;simp only[ms_];exact s_x [] (fun hs=>e_4) (fun hs=>e_12);have he:¬sg q= -last:=by simpa using h2
 rw[if_neg he] at hc;refine ah_ (r_m 2 ?_);refine a_z ?_;refine r_m 2 ?_;refine a_z ?_;refine⟨(i+1,n,sg q),by simp only;omega,⟨hlt,hn0,by simp only;omega,hs2.1,hs2.2,hc⟩,?_⟩;simp only[ms_];exact s_x [] (fun hs=>e_4) (fun hs=>e_12);have hne:sg q=0:=by simpa using h1
 rw[if_neg (fun e=>e hne)] at hc;refine ah_ (r_m 2 ?_);refine a_z ?_;refine⟨(i+1,n,last),by simp only;omega,⟨hlt,hn0,by simp only;omega,hl0,hl1,hc⟩,?_⟩;simp only[ms_];exact s_x [] (fun hs=>e_4) (fun hs=>e_12)
 have hge:i=ch.length:=by
  have:¬i< ch.length:=by simpa using h
  omega
 subst hge;rw[List.drop_length] at hc;have hc':n=R:=hc;subst hc';refine ao_ ⟨(),trivial,?_⟩;exact s_e [];rintro _ _;refine r_z 2 ?_;exact ag_ (t_e (ad_ _))
theorem pB_(q:List Rat)(h0:trimQ q≠[])(hl:q.length≤274877906944):FS 228 [.arr (pE q)] (i64 (sgI q)):=by
 have hd:¬degP q< 0:=fun e=>h0 (degP_neg.1 e);have hb:=gN_ (leadP q).num;refine f_c Tryz.func228 ?_;refine r_z 1 ?_;refine ab_ (r_c 4 (b7_ q (by omega)) ?_);refine a_z ?_;refine aj_ rfl (fun h=>?_) (fun h=>?_);have h1:degP q % 2=1:=by simpa using h
 refine r_c 5 (kR_ q (by omega)) ?_;refine c_s (bt_ (leadP q)) ?_;refine a_z ?_;refine ag_ (aH_ rfl ?_ ?_);unfold sgI;rw[if_pos h1];rfl;exact ad_ _;have h1:¬degP q % 2=1:=by simpa using h
 refine ah_ (r_c 4 (kR_ q (by omega)) ?_);refine c_s (bt_ (leadP q)) ?_;refine a_z ?_;refine ag_ (aH_ rfl ?_ ?_);unfold sgI;rw[if_neg h1];exact ad_ _
theorem iT_(f:Nat)(p:List Rat)(c:Cnt)(h:eJ_ f p=some c)(hf:f≤1000000):FS 190 [.arr (pE p)] (kA c):=by
 unfold eJ_ at h;obtain⟨s,hs,h2⟩:=Option.bind_eq_some_iff.1 h;obtain⟨ch,hch,h3⟩:=Option.bind_eq_some_iff.1 h2;split at h3
 case isFalse=>cases h3
 case isTrue hk=>
 cases h3;have hcs:=jM_ ch 228 [] sgI ac_ (fun q _=>sgI_abs q) hk.2.1 (fun q hq=>pB_ q (hk.1 q hq).1 (hk.1 q hq).2);refine f_c Tryz.func190 ?_;refine r_z 1 ?_;refine r_c 5 (kz_ f p s hs) ?_;refine a_z ?_;refine r_c 9 (fs_sturm f s ch hch hf) ?_;refine a_z ?_;refine r_c 9 (hcs) ?_;refine a_z ?_;refine r_z 2 ?_;exact ag_ (Fin.tmpP rfl rfl rfl (mn_ _))
theorem fs_upto1(q:List Rat)(x:Rat)(h:cO_ q x):FS 229 [.arr (pE q),bQ x] (i64 (sgE x q)):=by
 refine f_c Tryz.func229 ?_;refine r_z 1 ?_;refine r_c 5 (dU_ q x h) ?_;refine c_s (bt_ (evalP q x)) ?_;refine a_z ?_;exact ag_ (t_e (ad_ _))
theorem gT_(c:Cnt)(x:Rat)(h:okUp c x):FS 192 [kA c,.agg (qC x)] (i64 (uptoV c x)):=by
 have hcs:=jM_ c.ch 229 [bQ x] (sgE x) (aa_ (bf_ x) ac_) (fun q _=>gN_ _) h.1.2.1 (fun q hq=>fs_upto1 q x (h.2 q hq));have hb:=hI_ (x:=x) h.1;unfold uptoV at hb⊢;refine f_c Tryz.func192 ?_;refine r_z 2 ?_;refine AWp.ent (st':=⟨[(0,kA c),(3,bQ x)],[],1,16⟩) ?_ ?_;exact s_e [];refine ab_ (r_d hmix 12 ?_);refine c_s (hcs) ?_;refine a_2 ?_;refine ak_ (n_k ?_);exact ag_ (t_e (ad_ _))
theorem fl_(c:Cnt)(x:Rat)(h:okBe c x):FS 191 [kA c,.agg (qC x)] (i64 (cy_ c x)):=by
 have hb:=hI_ (x:=x) h.1.1;refine f_c Tryz.func191 ?_;refine r_z 2 ?_;refine r_c 4 (gT_ c x h.1) ?_;refine a_z ?_;refine aQ_ (fun n:Int=>⟨[(5,i64 n)],[],1,20⟩) (fun n=>n=cy_ c x) ?_ ?_;refine ab_ (r_d hmix 8 ?_);refine c_s (dU_ c.p x h.2) ?_;refine c_s (bt_ (evalP c.p x)) ?_;refine a_1 ?_;refine ak_ (n_k ?_);refine aj_ rfl (fun h1=>?_) (fun h1=>?_)
 have h0:evalP c.p x=0:=by
  have:sgZ (evalP c.p x).num=0:=by simpa using h1
  exact sgZ_num_eq.1 this
 refine r_m 3 ?_;refine a_z ?_;refine⟨uptoV c x- 1,by unfold cy_;rw[if_pos h0],?_⟩;exact s_e []
 have h0:evalP c.p x≠0:=by
  intro e;have:¬sgZ (evalP c.p x).num=0:=by simpa using h1
  exact this (sgZ_num_eq.2 e)
 refine ah_ ⟨uptoV c x,by unfold cy_;rw[if_neg h0],?_⟩;exact s_e [];rintro n rfl;refine r_z 2 ?_;exact ag_ (t_e (ad_ _))
theorem m2_(c:Cnt)(i:Int)(x:Rat)(h:okBe c x):FS 268 [plA c i,.agg (qC x)] (i64 (plC c i x)):=by
 refine f_n Tryz.func268 ?_ ?_;exact aa_ (bC_ c i) (aa_ (aC_ x) ac_);refine r_z 2 ?_;refine ab_ (ab_ (r_d hmix 7 ?_));refine c_s (fl_ c x h) ?_;refine a_1 ?_;refine ak_ (n_k ?_);refine av_ (fun _:Unit=>⟨[],[],1,36⟩) (fun _=>plC c i x=1) ?_ ?_;refine af_ (r_z 7 ?_);refine aj_ rfl (fun h1=>?_) (fun h1=>?_);have h2:i< cy_ c x:=by simpa using h1
 refine r_z 1 ?_;refine ag_ (aH_ rfl ?_ ?_);unfold plC;rw[if_pos h2];rfl;exact ad_ _;have h2:¬i< cy_ c x:=by simpa using h1
 by_cases h3:cy_ c x=i;refine ab_ (r_d hmix 17 ?_);refine a_7 ?_;refine y_g rfl (by simp[h3]) (.move rfl) ?_;refine y_g rfl (by simp[h3]) (.nilCheck rfl rfl) ?_;refine y_g rfl (by simp[h3]) (.fieldAddr_a rfl TF.h (by decide)) ?_;refine y_g rfl (by simp[h3]) (.load_a1 rfl rfl TG.h rfl) ?_;refine y_g rfl (by simp[h3]) (.load_l rfl rfl rfl TG.h TS.h (nle rfl)) ?_;refine y_g rfl (by simp[h3]) (.call rfl rfl rfl (gT_ c x h.1)) ?_;refine y_g rfl (by simp[h3]) (.move rfl) ?_;refine y_g rfl (by simp[h3]) (.bin rfl rfl a3_) ?_;refine o_0 (.pickT rfl (by simp[h3]) rfl) ?_;refine a_1 ?_;refine ak_ (n_k ?_);refine aj_ rfl (fun h4=>?_) (fun h4=>?_);have h5:cy_ c x< uptoV c x:=by simpa using h4
 refine r_z 1 ?_;refine ag_ (aH_ rfl ?_ ?_);unfold plC;rw[if_neg h2,if_pos ⟨h3,h5⟩];rfl;exact ad_ _;have h5:¬cy_ c x< uptoV c x:=by simpa using h4
 refine ah_ ⟨(),by unfold plC;rw[if_neg h2,if_neg fun e=>h5 e.2],?_⟩;exact s_e [];refine ab_ (r_d hmix 17 ?_);refine a_7 ?_;refine n_g rfl (by simp[h3]) ?_;refine n_g rfl (by simp[h3]) ?_;refine n_g rfl (by simp[h3]) ?_;refine n_g rfl (by simp[h3]) ?_;refine n_g rfl (by simp[h3]) ?_;refine n_g rfl (by simp[h3]) ?_;refine n_g rfl (by simp[h3]) ?_;refine n_g rfl (by simp[h3]) ?_;refine o_0 (.pickF rfl (by simp[h3]) rfl) ?_;refine a_1 ?_;refine ak_ (n_k ?_);refine cF ?_;refine ah_ ⟨(),by unfold plC;rw[if_neg h2,if_neg fun e=>h3 e.1],?_⟩;exact s_e [];rintro _ hr;refine r_z 1 ?_;refine ag_ (aH_ rfl ?_ ?_);rw[hr];rfl;exact ad_ _
def hiV(c:Cnt)(step:Rat):Rat:=ceilQ (dZ_ c.p/ step)
def okDown(c:Cnt)(step:Rat)(lo:Rat):Prop:=iw_ c.p∧trimQ c.p≠[]∧step≠0∧qs (dZ_ c.p)+qs step≤549755813888∧qs lo+qs step≤549755813888∧okBe c (lo* step)
instance (c:Cnt) (step lo:Rat):Decidable (okDown c step lo):=inferInstanceAs (Decidable (_∧_∧_∧_∧_∧_))
def downM(f:Nat)(c:Cnt)(i:Int)(step:Rat):Option (Rat×Bool):=
 (biM c i step f (-hiV c step) (hiV c step)).bind fun lo=>if okDown c step lo then some (lo* step,plC c i (lo* step)==0) else none
def dnS(c:Cnt)(i:Int)(step:Rat):Rat×Rat→AState
 |(lo,hi)=>⟨[(0,plA c i),(3,.lptr 1 0 0),(4,.lptr 2 0 0),(6,.lptr 3 0 0),(7,.lptr 4 0 0),(8,.lptr 5 0 0)],[(1,some ⟨46,3,[qC step]⟩),(2,some ⟨46,3,[zC]⟩),(3,some ⟨46,3,[qC hi]⟩),(4,some ⟨46,3,[qC lo]⟩),(5,some ⟨46,3,[qC 2]⟩)],6,52⟩
theorem fs_down(f:Nat)(c:Cnt)(i:Int)(step:Rat)(r:Rat×Bool)(h:downM f c i step=some r):FS 289 [plA c i,.agg (qC step)] (.tup [.agg (qC r.1),bln r.2]):=by
 unfold downM at h;obtain⟨l,hl,h2⟩:=Option.bind_eq_some_iff.1 h;split at h2
 case isFalse=>cases h2
 case isTrue hk=>
 cases h2;obtain⟨k1,k2,k3,k4,k5,k6⟩:=hk;have hq:=eM_ (dZ_ c.p) step;refine f_n Tryz.func289 ?_ ?_;exact aa_ (bC_ c i) (aa_ (aC_ step) ac_);refine r_z 3 ?_;refine ab_ (r_d hmix 13 ?_);refine c_s (fs_bound c.p k1 k2) ?_;refine c_s (dD_ (dZ_ c.p) step k3 k4) ?_;refine c_s (rL_ (dZ_ c.p/ step) (by omega)) ?_;refine a_2 ?_;refine ak_ (n_k ?_);refine r_c 4 (hg_ (ceilQ (dZ_ c.p/ step))) ?_;refine a_z ?_;refine r_c 3 (cV_ 2 (by decide)) ?_;refine a_z ?_;refine aQ_ (fun hi:Rat=>dnS c i step (l,hi)) (fun _=>True) ?_ ?_
 ·refine af_ (aq_ (fun x:Nat×Rat×Rat=>dnS c i step x.2) (fun x=>x.1) (fun x=>biM c i step x.1 x.2.1 x.2.2=some l) (f,-hiV c step,hiV c step) hl ?_ ?_)
  simp only[dnS.eq_1,hiV];exact s_e [(2,4),(3,6),(4,7),(5,8)];rintro⟨f,lo,hi⟩ h;simp only at h;simp only[dnS.eq_1];cases f with
  |zero=>cases h
  |succ f=>
   rw[biM] at h;split at h
   case isFalse=>cases h
   case isTrue hs=>
   obtain⟨s1,s2,s3⟩:=hs;refine ab_ (r_c 6 (gm_ hi lo (sm2 s2 s1)) ?_);refine c_s (cV_ 1 (by decide)) ?_;refine c_s (l0_ (hi- lo) 1 s3 (by decide)) ?_;refine a_z ?_;refine aj_ rfl (fun h1=>?_) (fun h1=>?_)
   ·have h2:0< cmpQ (hi- lo) 1:=by simpa using h1
    rw[if_pos h2] at h;split at h
    case isFalse=>cases h
    case isTrue ht=>
    obtain⟨t1,t2⟩:=ht;have hq1:=fD_ lo hi;have hq2:qs 2=2:=by decide
    have hq3:=eM_ (lo+hi) 2;unfold sm at s1 s2;refine ah_ (af_ (ab_ (r_d hmix 8 ?_)));refine c_s (c6_ lo hi (by omega)) ?_;refine c_s (dD_ (lo+hi) 2 (by decide) (by omega)) ?_;refine c_s (h4_ ((lo+hi) / 2) (by omega)) ?_;refine a_2 ?_;refine ak_ (n_k ?_);refine r_c 6 (bE_ (((lo+hi) / 2).floor:Rat) step t1) ?_;refine c_s (m2_ c i ((((lo+hi) / 2).floor:Rat) * step) t2) ?_;refine a_z ?_;refine aj_ rfl (fun h3=>?_) (fun h3=>?_);have h4:0≤plC c i ((((lo+hi) / 2).floor:Rat) * step):=by simpa using h3
    rw[if_pos h4] at h;refine r_m 2 ?_;refine a_z ?_;refine⟨(f,(((lo+hi) / 2).floor:Rat),hi),Nat.lt_succ_self f,h,?_⟩;simp only[dnS.eq_1];exact s_e [];have h4:¬0≤plC c i ((((lo+hi) / 2).floor:Rat) * step):=by simpa using h3
    rw[if_neg h4] at h;refine r_m 2 ?_;refine a_z ?_;refine⟨(f,lo,(((lo+hi) / 2).floor:Rat)),Nat.lt_succ_self f,h,?_⟩;simp only[dnS.eq_1];exact s_e []
   have h2:¬0< cmpQ (hi- lo) 1:=by simpa using h1
   rw[if_neg h2] at h;cases h;refine ao_ ⟨hi,trivial,?_⟩;simp only[dnS.eq_1];exact s_e []
 rintro hi _;simp only[dnS.eq_1];refine r_c 4 (bE_ l step k5) ?_;refine a_z ?_;refine ab_ (r_d hmix 7 ?_);refine c_s (m2_ c i (l* step) k6) ?_;refine a_3 ?_;refine ak_ (n_k ?_);refine ag_ (Fin.many ⟨_,_,rfl,⟨_,_,_,_,_,rfl,rfl,rfl,.inl ⟨TG.h,_,TS.h,nle rfl,rfl⟩⟩,⟨_,_,rfl,rfl,rfl⟩⟩ (nle rfl) ?_);exact ae_ (ai_ as_ (aC_ _)) (ae_ (ai_ as_ (ad_ _)) am_)
def spanM(f:Nat)(c:Cnt)(i:Int)(k:Int):Option Sp:=
 (downM f c i (fineQ (wi k 256))).bind fun r=>if r.2 then some (r.1,r.1) else if qs r.1+qs (fineQ (wi k 256))≤549755813888 then some (r.1,r.1+fineQ (wi k 256)) else none
theorem fs_span(f:Nat)(c:Cnt)(i:Int)(k:Int)(s:Sp)(h:spanM f c i k=some s):FS 266 [plA c i,i64 k] (.agg (spC s.1 s.2)):=by
 unfold spanM at h;obtain⟨⟨at',ex⟩,hd,h2⟩:=Option.bind_eq_some_iff.1 h;refine f_n Tryz.func266 ?_ ?_;exact aa_ (bC_ c i) (aa_ (ad_ _) ac_);refine r_z 1 ?_;refine r_c 4 (iY_ k) ?_;refine a_z ?_;refine r_c 9 (fs_down f c i (fineQ (wi k 256)) (at',ex) hd) ?_;refine a_z ?_;refine ab_ (r_z 1 ?_);refine aj_ rfl (fun h1=>?_) (fun h1=>?_);subst h1;rw[if_pos rfl] at h2;cases h2;refine r_c 3 (fs_At at') ?_;refine a_z ?_;exact ag_ (c_e (a0_ _ _))
 ·subst h1
  rw[if_neg (show¬false=true by decide)] at h2;split at h2
  case isFalse=>cases h2
  case isTrue hs=>
  cases h2;refine ah_ (ab_ (r_d hmix 6 ?_));refine c_s (c6_ at' (fineQ (wi k 256)) hs) ?_;refine a_2 ?_;refine ak_ (n_k ?_);exact ag_ (c_e (a0_ _ _))
def midV(s:Sp):Rat:=(s.1+s.2) * fineQ 1
def nextS(c:Cnt)(i:Int)(s:Sp):Sp:=if plC c i (midV s)=0 then(midV s,midV s) else if plC c i (midV s)=1 then(midV s,s.2) else(s.1,midV s)
def hd_(c:Cnt)(s:Sp):Prop:=smS s∧okBe c (midV s)
instance (c:Cnt) (s:Sp):Decidable (hd_ c s):=inferInstanceAs (Decidable (_∧_))
def closV(c:Cnt)(i:Int)(s0:Sp):Nat→Sp
 |0=>s0
 |k+1=>nextS c i (closV c i s0 k)
def closT(c:Cnt)(i:Int)(s0:Sp)(k:Nat):Option (List AV):=some [.agg (spC (closV c i s0 k).1 (closV c i s0 k).2)]
abbrev bPl(c:Cnt)(i:Int):AV:= .aptr [[plA c i]] 0 0
theorem bJ_(c:Cnt)(i:Int):Closed (bPl c i):=aM_ (aa_ (bC_ c i) ac_)
theorem iN_(f:Nat)(c:Cnt)(i:Int)(s0:Sp)(K:Nat)(h:spanM f c i 0=some s0)(hok:∀k,k< K→hd_ c (closV c i s0 k)):GSpecB Tryz.prog 265 [bPl c i] (closT c i s0) K:=by
 refine GSpecB.enter Tryz.func265 rfl (by kernel_rfl) rfl rfl rfl ?_ ?_ rfl ?_;exact aa_ (bJ_ c i) ac_;intro k xs h;cases h;exact aa_ (a0_ _ _) ac_;intro ll N hN E;refine GWp.seq ?_;refine GWp.lift ?_;refine r_m 4 ?_;refine c_s (fs_span f c i 0 s0 h) ?_;refine a_z ?_;refine GWp.block ?_;refine GWp.loopS (fun k:Nat=>⟨[(0,.v (.func (.yield ll) #[] #[])),(1,bPl c i),(3,.lptr 1 0 0)],[(1,some ⟨74,6,[spC (closV c i s0 k).1 (closV c i s0 k).2]⟩)],2,25⟩) (fun k=>k) (fun k=>N+1- k) (fun k=>k≤N) 0 (Nat.zero_le _) rfl ?_ ?_;have:=bJ_ c i;exact s_f [(1,3)];intro k hk;refine GWp.seq ?_;refine GWp.seq ?_;refine GWp.regY (fr2:=[(0,.v (.func (.yield ll) #[] #[])),(1,bPl c i),(3,.lptr 1 0 0),(7,.v (.func (.yield ll) #[] #[])),(8,.agg (spC (closV c i s0 k).1 (closV c i s0 k).2))]) (hp2:=[(1,some ⟨74,6,[spC (closV c i s0 k).1 (closV c i s0 k).2]⟩)]) (nx2:=2) 2 rfl rfl rfl rfl rfl rfl ?_ rfl rfl rfl ?_ ?_ ?_;refine o_0 (.move rfl) ?_;refine az_ (.load_l rfl rfl rfl TG.h TS.h (nle rfl)) rfl rfl ?_;refine ak_ ?_;exact s_y [] (fun hs=>au_f) (fun hs=>au_h);rotate_left 2;intro go;refine ak_ ?_;rotate_left;rfl;exact aa_ (a0_ _ _) ac_;cases go with
 |false=>
  refine GWp.cond rfl (fun h=>?_) (fun h=>?_);cases h;exact GWp.exit ⟨.inl rfl,fun h=>by cases h⟩
 |true=>
  refine GWp.bound fun hk1=>?_;refine GWp.cond rfl (fun h=>?_) (fun h=>?_);rotate_left;cases h;refine GWp.skip ?_;have hn:=hok k (by omega);obtain⟨hs,hb⟩:=hn;have hnx:closV c i s0 (k+1)=nextS c i (closV c i s0 k):=rfl;obtain⟨s,hsd⟩:∃s,s=closV c i s0 k:=⟨_,rfl⟩;rw[←hsd] at hs hb hnx⊢;refine GWp.lift ?_;refine af_ (r_c 4 (pD_ s.1 s.2 hs.1 hs.2) ?_);refine a_z ?_;refine r_c 3 (m2_ c i (midV s) hb) ?_;refine ak_ ?_;refine af_ (r_z 2 ?_);refine aj_ rfl (fun h1=>?_) (fun h1=>?_);have h2:plC c i (midV s)=0:=by simpa using h1
  have hx:closV c i s0 (k+1)=(midV s,midV s):=by rw[hnx];unfold nextS;rw[if_pos h2]
  refine r_m 3 ?_;refine c_s (fs_At (midV s)) ?_;refine a_z ?_;refine⟨rfl,k+1,by omega,hk1,rfl,?_⟩;simp only[hx];have:=bJ_ c i;exact s_f [];have h2:¬plC c i (midV s)=0:=by simpa using h1
  refine r_z 2 ?_;refine aj_ rfl (fun h3=>?_) (fun h3=>?_);have h4:plC c i (midV s)=1:=by simpa using h3
  have hx:closV c i s0 (k+1)=(midV s,s.2):=by rw[hnx];unfold nextS;rw[if_neg h2,if_pos h4]
  refine r_m 3 ?_;refine a_z ?_;refine⟨rfl,k+1,by omega,hk1,rfl,?_⟩;simp only[hx];have:=bJ_ c i;exact s_f [];have h4:¬plC c i (midV s)=1:=by simpa using h3
  have hx:closV c i s0 (k+1)=(s.1,midV s):=by rw[hnx];unfold nextS;rw[if_neg h2,if_neg h4]
  refine r_m 3 ?_;refine a_z ?_;refine⟨rfl,k+1,by omega,hk1,rfl,?_⟩;simp only[hx];have:=bJ_ c i;exact s_f []
theorem iV_(c:Cnt)(i:Int):FS 231 [plA c i] (.clos 265 [] [bPl c i]):=by
 refine f_n Tryz.func231 ?_ ?_;exact aa_ (bC_ c i) ac_;refine r_z 2 ?_;refine r_z 2 ?_;refine ag_ (⟨.inr rfl,[_],⟨_,[],rfl,rfl,rfl⟩,?_⟩);exact Cv.clos am_ (ae_ (Cv.boxp as_ rfl (fun _ _ h=>by cases h) rfl (aa_ (bC_ c i) ac_)) am_)
def i1_(t:Nat→Option Bool):Nat→Nat→Option Nat
 |0,_=>none
 |f+1,k=>match t k with
  |some true=>some k
  |some false=>i1_ t f (k+1)
  |none=>none
theorem eF_{t:Nat→Option Bool}:∀{f k0 k:Nat},i1_ t f k0=some k→t k=some true∧k0≤k∧∀j,k0≤j→j< k→t j=some false
 |0,_,_,h=>by cases h
 |f+1,k0,k,h=>by
  rw[i1_] at h;split at h;cases h;exact⟨by assumption,Nat.le_refl _,fun j h1 h2=>by omega⟩;obtain⟨h1,h2,h3⟩:=eF_ h;refine⟨h1,by omega,fun j hj1 hj2=>?_⟩;by_cases e:j=k0;rw[e];assumption;exact h3 j (by omega) hj2;cases h
def jj_(c:Cnt)(i:Int)(s:Sp):Option Bool:=if okBe c s.1∧okUp c s.2∧hd_ c s∧ -4611686018427387904≤i∧i≤4611686018427387904 then some (decide (cy_ c s.1=i∧uptoV c s.2=i+1)) else none
def alS(c:Cnt)(i:Int):Nat→AState
 |k=>⟨[(1,bPl c i),(2,.lptr 1 0 0),(3,.lptr 2 0 0),(6,.clos 265 [] [bPl c i])],[(1,some ⟨74,6,[zC++zC]⟩),(2,some ⟨74,6,[zC++zC]⟩)],3,37⟩
def alX(s:Sp):Unit→AState
 |u=>⟨[(2,.lptr 1 0 0),(3,.lptr 2 0 0)],[(1,some ⟨74,6,[zC++zC]⟩),(2,some ⟨74,6,[spC s.1 s.2]⟩)],3,37⟩
theorem fs_alone(f g:Nat)(c:Cnt)(i:Int)(s0:Sp)(kk:Nat)(h:spanM f c i 0=some s0)(hk:i1_ (fun k=>jj_ c i (closV c i s0 k)) g 0=some kk):FS 291 [plA c i] (.agg (spC (closV c i s0 kk).1 (closV c i s0 kk).2)):=by
 obtain⟨h1,_,h2⟩:=eF_ hk
 have hok:∀k,k≤kk→okBe c (closV c i s0 k).1∧okUp c (closV c i s0 k).2∧hd_ c (closV c i s0 k)∧ -4611686018427387904≤i∧i≤4611686018427387904:=fun k hk=>by
  have:∃b,jj_ c i (closV c i s0 k)=some b:=by
   by_cases e:k=kk;rw[e];exact⟨_,h1⟩;exact⟨_,h2 k (Nat.zero_le _) (by omega)⟩
  obtain⟨b,hb⟩:=this;unfold jj_ at hb;split at hb;assumption;cases hb
 have hgs:=iN_ f c i s0 kk h (fun k hk=>(hok k (by omega)).2.2.1);refine f_n Tryz.func291 ?_ ?_;exact aa_ (bC_ c i) ac_;refine r_z 2 ?_;refine r_z 1 ?_;refine AWp.ent (st':=⟨[(1,bPl c i),(2,.lptr 1 0 0),(3,.lptr 2 0 0)],[(1,some ⟨74,6,[zC++zC]⟩),(2,some ⟨74,6,[zC++zC]⟩)],3,37⟩) ?_ ?_;have:=(aa_ (bC_ c i) ac_);exact s_f [(1,2),(2,3)];refine ab_ (r_c 2 (iV_ c i) ?_);refine ak_ ?_;refine av_ (alX (closV c i s0 kk)) (fun _=>True) ?_ ?_;refine af_ (AWp.rangeFuncB (α:=Nat) (γ:=Unit) kk (alS c i) (fun k=>k) (fun k=>k≤kk) (alX (closV c i s0 kk)) (fun e _=>e= .exit 0) 0 rfl hgs rfl rfl ?_ (fun _=>⟨rfl,rfl⟩) (fun _=>rfl) (Nat.zero_le _) rfl (fun _ h=>h) ?_ ?_ ?_ ?_ ?_);intro k xs hT;cases hT;rfl;rw[alS.eq_1];have:=bJ_ c i;exact s_t [];exact aa_ (bJ_ c i) ac_;intro l k xs hk hT;cases hT;have hx:=hok k hk;obtain⟨s,hsd⟩:∃s,s=closV c i s0 k:=⟨_,rfl⟩;rw[←hsd] at hx⊢;obtain⟨x1,x2,x3,x4,x5⟩:=hx;show AWp _ _ _ _ ⟨[(7,.agg (spC s.1 s.2)),(1,bPl c i),(2,.lptr 1 0 0),(3,.lptr 2 0 0),(6,.clos 265 [] [bPl c i]),(1001,bPl c i),(1002,.lptr 1 0 0),(1003,.lptr 2 0 0),(1006,.clos 265 [] [bPl c i])],[(1,some ⟨74,6,[zC++zC]⟩),(2,some ⟨74,6,[zC++zC]⟩)],3,37⟩;refine r_m 2 ?_;refine a_z ?_;refine af_ ?_;by_cases hb:cy_ c s.1=i;refine ab_ (r_d hmix 27 ?_);refine c_s (fl_ c s.1 x1) ?_;refine a_6 ?_;refine y_g rfl (by simp[hb]) (.load_a1 rfl rfl TG.h rfl) ?_;refine y_g rfl (by simp[hb]) (.nilCheck rfl rfl) ?_;refine y_g rfl (by simp[hb]) (.fieldAddr_a rfl TF.h (by decide)) ?_
 refine y_g rfl (by simp[hb]) (.load_a1 rfl rfl TG.h rfl) ?_;refine y_g rfl (by simp[hb]) (.fieldAddr_l rfl TF.h (by decide)) ?_;refine y_g rfl (by simp[hb]) (.load_l rfl rfl rfl TG.h TS.h (nle rfl)) ?_;refine y_g rfl (by simp[hb]) (.call rfl rfl rfl (gT_ c s.2 x2)) ?_;refine y_g rfl (by simp[hb]) (.load_a1 rfl rfl TG.h rfl) ?_;refine y_g rfl (by simp[hb]) (.nilCheck rfl rfl) ?_;refine y_g rfl (by simp[hb]) (.fieldAddr_a rfl TF.h (by decide)) ?_;refine y_g rfl (by simp[hb]) (.load_a1 rfl rfl TG.h rfl) ?_;refine y_g rfl (by simp[hb]) (.bin rfl rfl (o4_ (by omega))) ?_;refine y_g rfl (by simp[hb]) (.bin rfl rfl aS_) ?_;refine o_0 (.pickT rfl (by simp[hb]) rfl) ?_;refine ak_ (n_k ?_);refine aj_ rfl (fun h5=>?_) (fun h5=>?_);have h6:uptoV c s.2=i+1:=by simpa using h5
 have he:k=kk:=by
  refine Nat.le_antisymm hk (Nat.le_of_not_lt fun hlt=>?_);have h7:=h2 k (Nat.zero_le _) hlt;rw[←hsd] at h7;unfold jj_ at h7;rw[if_pos ⟨x1,x2,x3,x4,x5⟩] at h7;simp[hb,h6] at h7
 subst he;refine r_z 2 ?_;refine ao_ (⟨rfl,(),rfl,?_⟩);rw[←hsd];show SEntT _ ⟨[(1002,.lptr 1 0 0),(1003,.lptr 2 0 0)],[(1,some ⟨74,6,[zC++zC]⟩),(2,some ⟨74,6,[spC s.1 s.2]⟩)],3,37⟩;exact s_y [] (fun hs=>au_f) (fun hs=>au_h);have h6:¬uptoV c s.2=i+1:=by simpa using h5
 have he:k< kk:=by
  refine Nat.lt_of_le_of_ne hk fun e=>?_;subst e;rw[←hsd] at h1;unfold jj_ at h1;rw[if_pos ⟨x1,x2,x3,x4,x5⟩] at h1;simp[h6] at h1
 refine ah_ (⟨k+1,⟨he,rfl⟩,?_⟩);show SEntT _ ⟨[(1001,bPl c i),(1002,.lptr 1 0 0),(1003,.lptr 2 0 0),(1006,.clos 265 [] [bPl c i])],[(1,some ⟨74,6,[zC++zC]⟩),(2,some ⟨74,6,[zC++zC]⟩)],3,37⟩;exact s_y [] (fun hs=>au_f) (fun hs=>au_h);refine ab_ (r_d hmix 27 ?_);refine c_s (fl_ c s.1 x1) ?_;refine a_6 ?_;refine n_g rfl (by simp[hb]) ?_;refine n_g rfl (by simp[hb]) ?_;refine n_g rfl (by simp[hb]) ?_;refine n_g rfl (by simp[hb]) ?_;refine n_g rfl (by simp[hb]) ?_;refine n_g rfl (by simp[hb]) ?_;refine n_g rfl (by simp[hb]) ?_;refine n_g rfl (by simp[hb]) ?_;refine n_g rfl (by simp[hb]) ?_;refine n_g rfl (by simp[hb]) ?_;refine n_g rfl (by simp[hb]) ?_;refine n_g rfl (by simp[hb]) ?_;refine n_g rfl (by simp[hb]) ?_;refine o_0 (.pickF rfl (by simp[hb]) rfl) ?_;refine ak_ (n_k ?_);refine cF ?_
 have he:k< kk:=by
  refine Nat.lt_of_le_of_ne hk fun e=>?_;subst e;rw[←hsd] at h1;unfold jj_ at h1;rw[if_pos ⟨x1,x2,x3,x4,x5⟩] at h1;simp[hb] at h1
 refine ah_ (⟨k+1,⟨he,rfl⟩,?_⟩);show SEntT _ ⟨[(1001,bPl c i),(1002,.lptr 1 0 0),(1003,.lptr 2 0 0),(1006,.clos 265 [] [bPl c i])],[(1,some ⟨74,6,[zC++zC]⟩),(2,some ⟨74,6,[zC++zC]⟩)],3,37⟩;exact s_y [] (fun hs=>au_f) (fun hs=>au_h);intro k hk hT;cases hT;rintro e u rfl;exact⟨u,trivial,SEnt.refl _⟩;rintro u _;rw[alX.eq_1];refine r_z 2 ?_;exact ag_ (c_e (a0_ _ _))
def aloneM(f g:Nat)(c:Cnt)(i:Int):Option Sp:=(spanM f c i 0).bind fun s0=>(i1_ (fun k=>jj_ c i (closV c i s0 k)) g 0).map (closV c i s0)
theorem rM_(f g:Nat)(c:Cnt)(i:Int)(s:Sp)(h:aloneM f g c i=some s):FS 291 [plA c i] (.agg (spC s.1 s.2)):=by
 obtain⟨s0,h1,h2⟩:=Option.bind_eq_some_iff.1 h;obtain⟨k,h3,rfl⟩:=Option.map_eq_some_iff.1 h2;exact fs_alone f g c i s0 k h1 h3
def mK_(f g:Nat)(c:Cnt)(i:Int)(q:List Rat):Option Bool:=
 if c.p.length≤274877906944∧q.length≤274877906944 then(gcdM f c.p q).bind fun d=>
  if d.length≤274877906944 then
   if degP d< 1 then some false
   else(eJ_ f d).bind fun c2=>(aloneM f g c i).bind fun s=>if okUp c2 s.2∧okBe c2 s.1 then some (decide (cy_ c2 s.1< uptoV c2 s.2)) else none
  else none
 else none
theorem rA_(f g:Nat)(c:Cnt)(i:Int)(q:List Rat)(r:Bool)(h:mK_ f g c i q=some r)(hf:f≤1000000):FS 273 [plA c i,.arr (pE q)] (bln r):=by
 unfold mK_ at h;split at h
 case isFalse=>cases h
 case isTrue hl=>
 obtain⟨d,hd,h2⟩:=Option.bind_eq_some_iff.1 h;split at h2
 case isFalse=>cases h2
 case isTrue hdl=>
 refine f_n Tryz.func273 ?_ ?_;exact aa_ (bC_ c i) (aa_ (ap_ q) ac_);refine r_z 1 ?_;refine r_c 10 (fs_Gcd f c.p q d hd hl.1 hl.2) ?_;refine a_z ?_;refine ab_ (r_c 3 (b7_ d (by omega)) ?_);refine a_z ?_;refine aj_ rfl (fun h3=>?_) (fun h3=>?_);have h4:degP d< 1:=by simpa using h3
 rw[if_pos h4] at h2;cases h2;refine r_z 1 ?_;exact ag_ (t_e (ad_ _))
 ·have h4:¬degP d< 1:=by simpa using h3
  rw[if_neg h4] at h2;obtain⟨c2,hc2,h5⟩:=Option.bind_eq_some_iff.1 h2;obtain⟨s,hs,h6⟩:=Option.bind_eq_some_iff.1 h5;split at h6
  case isFalse=>cases h6
  case isTrue hk=>
  cases h6;refine ah_ (r_c 7 (iT_ f d c2 hc2 hf) ?_);refine c_s (rM_ f g c i s hs) ?_;refine a_z ?_;refine ab_ (r_d hmix 10 ?_);refine c_s (gT_ c2 s.2 hk.1) ?_;refine c_s (fl_ c2 s.1 hk.2) ?_;refine a_2 ?_;refine ak_ (n_k ?_);exact ag_ (t_e (ad_ _))
def signT(c:Cnt)(i:Int)(c2:Cnt)(s:Sp):Option Bool:=if okUp c2 s.2∧okBe c2 s.1∧hd_ c s then some (decide (uptoV c2 s.2=cy_ c2 s.1)) else none
def signM(f g:Nat)(c:Cnt)(i:Int)(q:List Rat):Option Int:=
 if q.length≤274877906944 then
  if degP q< 0 then some 0
  else(mK_ f g c i q).bind fun b=>if b then some 0 else(eJ_ f q).bind fun c2=>(spanM f c i 0).bind fun s0=>
   (i1_ (fun k=>signT c i c2 (closV c i s0 k)) g 0).bind fun k=>if cO_ q (closV c i s0 k).2 then some (sgZ (evalP q (closV c i s0 k).2).num) else none
 else none
def pgS(c:Cnt)(i:Int)(q:List Rat)(c2:Cnt):Nat→AState
 |k=>⟨[(0,plA c i),(3,bP q),(4,.lptr 1 0 0),(5,.aptr [[kA c2]] 0 0),(18,.clos 265 [] [bPl c i])],[(1,some ⟨3,1,[[i64 0]]⟩)],2,34⟩
def pgX(r:Int):Unit→AState
 |u=>⟨[(4,.lptr 1 0 0)],[(1,some ⟨3,1,[[i64 r]]⟩)],2,34⟩
theorem j2_(c:Cnt):Closed (.aptr [[kA c]] 0 0):=aM_ (aa_ (dt_ c) ac_)
theorem fs_sign(f g:Nat)(c:Cnt)(i:Int)(q:List Rat)(r:Int)(h:signM f g c i q=some r)(hf:f≤1000000):FS 233 [plA c i,.arr (pE q)] (i64 r):=by
 unfold signM at h;split at h
 case isFalse=>cases h
 case isTrue hl=>
 refine f_n Tryz.func233 ?_ ?_;exact aa_ (bC_ c i) (aa_ (ap_ q) ac_);refine r_z 2 ?_;refine AWp.ent (st':=⟨[(0,plA c i),(3,bP q),(4,.lptr 1 0 0)],[(1,some ⟨3,1,[[i64 0]]⟩)],2,34⟩) ?_ ?_;exact s_f [(1,4)];by_cases hd:degP q< 0;rw[if_pos hd] at h;cases h;refine ab_ (r_c 8 (b7_ q (by omega)) ?_);refine a_2 ?_;refine n_g rfl (by simp[hd]) ?_;refine n_g rfl (by simp[hd]) ?_;refine n_g rfl (by simp[hd]) ?_;refine o_0 (.pickT rfl (by simp[hd]) rfl) ?_;refine ak_ ?_;refine aj_ rfl (fun h1=>?_) (fun h1=>?_);refine r_z 1 ?_;exact ag_ (Fin.cell1E rfl rfl rfl TG.h rfl rfl (ad_ _));cases h1;rw[if_neg hd] at h;obtain⟨b,hb,h2⟩:=Option.bind_eq_some_iff.1 h;refine ab_ (r_c 8 (b7_ q (by omega)) ?_);refine a_2 ?_;refine y_g rfl (by simp[hd]) (.move rfl) ?_;refine y_g rfl (by simp[hd]) (.load_a1 rfl rfl TG.h rfl) ?_;refine y_g rfl (by simp[hd]) (.call rfl rfl rfl (rA_ f g c i q b hb hf)) ?_;refine o_0 (.pickF rfl (by simp[hd]) rfl) ?_;refine ak_ ?_;refine aj_ rfl (fun h1=>?_) (fun h1=>?_);have hb1:b=true:=h1;subst hb1;rw[if_pos rfl] at h2;cases h2;refine r_z 1 ?_;exact ag_ (Fin.cell1E rfl rfl rfl TG.h rfl rfl (ad_ _));have hb1:b=false:=h1;subst hb1;rw[if_neg (show¬false=true by decide)] at h2;obtain⟨c2,hc2,h3⟩:=Option.bind_eq_some_iff.1 h2;obtain⟨s0,hs0,h4⟩:=Option.bind_eq_some_iff.1 h3;obtain⟨kk,hkk,h5⟩:=Option.bind_eq_some_iff.1 h4;split at h5
 case isFalse=>cases h5
 case isTrue hev=>
 cases h5;obtain⟨t1,_,t2⟩:=eF_ hkk
 have hok:∀k,k≤kk→okUp c2 (closV c i s0 k).2∧okBe c2 (closV c i s0 k).1∧hd_ c (closV c i s0 k):=fun k hk=>by
  have:∃b,signT c i c2 (closV c i s0 k)=some b:=by
   by_cases e:k=kk;rw[e];exact⟨_,t1⟩;exact⟨_,t2 k (Nat.zero_le _) (by omega)⟩
  obtain⟨b,hb⟩:=this;unfold signT at hb;split at hb;assumption;cases hb
 have hgs:=iN_ f c i s0 kk hs0 (fun k hk=>(hok k (by omega)).2.2);obtain⟨r,hr⟩:∃r,r=sgZ (evalP q (closV c i s0 kk).2).num:=⟨_,rfl⟩;rw[←hr];refine ah_ (r_c 4 (iT_ f q c2 hc2 hf) ?_);refine a_z ?_;refine AWp.ent (st':=⟨[(0,plA c i),(3,bP q),(4,.lptr 1 0 0),(5,.aptr [[kA c2]] 0 0)],[(1,some ⟨3,1,[[i64 0]]⟩)],2,34⟩) ?_ ?_;have:=(aa_ (dt_ c2) ac_);exact s_f [];refine ab_ (r_c 2 (iV_ c i) ?_);refine ak_ ?_;refine av_ (pgX r) (fun _=>False) ?_ (fun _ h=>h.elim);refine af_ (AWp.rangeFuncB (α:=Nat) (γ:=Unit) kk (pgS c i q c2) (fun k=>k) (fun k=>k≤kk) (pgX r) (fun e _=>e= .ret) 0 rfl hgs rfl rfl ?_ (fun _=>⟨rfl,rfl⟩) (fun _=>rfl) (Nat.zero_le _) rfl (fun _ h=>h) ?_ ?_ ?_ ?_ ?_);intro k xs hT;cases hT;rfl;rw[pgS.eq_1];have:=j2_ c2;exact s_t [];exact aa_ (bJ_ c i) ac_;intro l k xs hk hT;cases hT;have hx:=hok k hk;obtain⟨s,hsd⟩:∃s,s=closV c i s0 k:=⟨_,rfl⟩;rw[←hsd] at hx⊢;obtain⟨x1,x2,x3⟩:=hx;show AWp _ _ _ _ ⟨[(19,.agg (spC s.1 s.2)),(0,plA c i),(3,bP q),(4,.lptr 1 0 0),(5,.aptr [[kA c2]] 0 0),(18,.clos 265 [] [bPl c i]),(1000,plA c i),(1003,bP q),(1004,.lptr 1 0 0),(1005,.aptr [[kA c2]] 0 0),(1018,.clos 265 [] [bPl c i])],[(1,some ⟨3,1,[[i64 0]]⟩)],2,34⟩;refine r_m 2 ?_;refine a_z ?_;refine af_ (ab_ (r_d hmix 9 ?_));refine c_s (gT_ c2 s.2 x1) ?_;refine c_s (fl_ c2 s.1 x2) ?_;refine a_1 ?_;refine ak_ (n_k ?_);refine aj_ rfl (fun h6=>?_) (fun h6=>?_);have h7:uptoV c2 s.2=cy_ c2 s.1:=by simpa using h6
 have he:k=kk:=by
  refine Nat.le_antisymm hk (Nat.le_of_not_lt fun hlt=>?_);have h8:=t2 k (Nat.zero_le _) hlt;rw[←hsd] at h8;unfold signT at h8;rw[if_pos ⟨x1,x2,x3⟩] at h8;simp[h7] at h8
 subst he;rw[←hsd] at hev hr;refine r_c 6 (dU_ q s.2 hev) ?_;refine c_s (bt_ (evalP q s.2)) ?_;refine a_z ?_;refine ag_ (⟨rfl,(),rfl,?_⟩);rw[hr];show SEntT _ ⟨[(1004,.lptr 1 0 0)],[(1,some ⟨3,1,[[i64 (sgZ (evalP q s.2).num)]]⟩)],2,34⟩;exact s_t [];have h7:¬uptoV c2 s.2=cy_ c2 s.1:=by simpa using h6
 have he:k< kk:=by
  refine Nat.lt_of_le_of_ne hk fun e=>?_;subst e;rw[←hsd] at t1;unfold signT at t1;rw[if_pos ⟨x1,x2,x3⟩] at t1;simp[h7] at t1
 refine ah_ (⟨k+1,⟨he,rfl⟩,?_⟩);show SEntT _ ⟨[(1000,plA c i),(1003,bP q),(1004,.lptr 1 0 0),(1005,.aptr [[kA c2]] 0 0),(1018,.clos 265 [] [bPl c i])],[(1,some ⟨3,1,[[i64 0]]⟩)],2,34⟩;have:=j2_ c2;exact s_t [];intro k hk hT;cases hT;rintro e u rfl;exact Fin.cell1E rfl rfl rfl TG.h rfl rfl (ad_ _)
def valT(c:Cnt)(q:List Rat)(step:Rat)(s:Sp):Option Bool:=if oa_ q s∧smS (overP q s)∧sm ((overP q s).2- (overP q s).1)∧sm step∧hd_ c s then some (decide (cmpQ ((overP q s).2- (overP q s).1) step< 0)) else none
def valR(f g:Nat)(c:Cnt)(i:Int)(q:List Rat)(k:Int)(v:Sp):Option Sp:=
 if sm (downQ v.2 (wi k 256))∧smS v∧sm (fineQ (wi k 256))∧smL q∧q.length≤274877906944 then
  if cmpQ (downQ v.2 (wi k 256)) v.1< 0 then some (downQ v.2 (wi k 256),downQ v.2 (wi k 256)+fineQ (wi k 256))
  else(signM f g c i (subP q (cK_ (downQ v.2 (wi k 256))))).bind fun sg=>
   some (if sg=0 then(downQ v.2 (wi k 256),downQ v.2 (wi k 256)) else if sg=1 then(downQ v.2 (wi k 256),downQ v.2 (wi k 256)+fineQ (wi k 256)) else(downQ v.2 (wi k 256)- fineQ (wi k 256),downQ v.2 (wi k 256)))
 else none
def p3_(f g:Nat)(c:Cnt)(i:Int)(q:List Rat)(k:Int):Option Sp:=
 (spanM f c i 0).bind fun s0=>(i1_ (fun j=>valT c q (fineQ (wi k 256)) (closV c i s0 j)) g 0).bind fun j=>valR f g c i q k (overP q (closV c i s0 j))
abbrev bI(k:Int):AV:= .aptr [[i64 k]] 0 0
theorem eq_(k:Int):Closed (bI k):=aM_ (aa_ (ad_ _) ac_)
def vaS(c:Cnt)(i:Int)(q:List Rat)(k:Int)(step:Rat):Nat→AState
 |j=>⟨[(3,bPl c i),(4,bP q),(5,bI k),(6,.lptr 1 0 0),(7,bQ step),(14,.clos 265 [] [bPl c i])],[(1,some ⟨74,6,[zC++zC]⟩)],2,61⟩
def vaX(r:Sp):Unit→AState
 |u=>⟨[(6,.lptr 1 0 0)],[(1,some ⟨74,6,[spC r.1 r.2]⟩)],2,61⟩
theorem fs_value(f g:Nat)(c:Cnt)(i:Int)(q:List Rat)(k:Int)(r:Sp)(h:p3_ f g c i q k=some r)(hf:f≤1000000):FS 193 [plA c i,.arr (pE q),i64 k] (.agg (spC r.1 r.2)):=by
 unfold p3_ at h;obtain⟨s0,hs0,h2⟩:=Option.bind_eq_some_iff.1 h;obtain⟨kk,hkk,hR⟩:=Option.bind_eq_some_iff.1 h2;obtain⟨t1,_,t2⟩:=eF_ hkk;obtain⟨step,hst⟩:∃step,step=fineQ (wi k 256):=⟨_,rfl⟩;rw[←hst] at t1 t2
 have hok:∀j,j≤kk→oa_ q (closV c i s0 j)∧smS (overP q (closV c i s0 j))∧sm ((overP q (closV c i s0 j)).2- (overP q (closV c i s0 j)).1)∧sm step∧hd_ c (closV c i s0 j):=fun j hj=>by
  have:∃b,valT c q step (closV c i s0 j)=some b:=by
   by_cases e:j=kk;rw[e];exact⟨_,t1⟩;exact⟨_,t2 j (Nat.zero_le _) (by omega)⟩
  obtain⟨b,hb⟩:=this;unfold valT at hb;split at hb;assumption;cases hb
 have hgs:=iN_ f c i s0 kk hs0 (fun j hj=>(hok j (by omega)).2.2.2.2);have hfi:=iY_ k;rw[←hst] at hfi;refine f_n Tryz.func193 ?_ ?_;exact aa_ (bC_ c i) (aa_ (ap_ q) (aa_ (ad_ _) ac_));refine r_z 4 ?_;refine r_c 4 (hfi) ?_;refine a_z ?_;refine AWp.ent (st':=⟨[(3,bPl c i),(4,bP q),(5,bI k),(6,.lptr 1 0 0),(7,bQ step)],[(1,some ⟨74,6,[zC++zC]⟩)],2,61⟩) ?_ ?_;have:=(aa_ (bC_ c i) ac_);exact s_f [(1,6)];refine ab_ (r_c 2 (iV_ c i) ?_);refine ak_ ?_;refine av_ (vaX r) (fun _=>False) ?_ (fun _ h=>h.elim);refine af_ (AWp.rangeFuncB (α:=Nat) (γ:=Unit) kk (vaS c i q k step) (fun j=>j) (fun j=>j≤kk) (vaX r) (fun e _=>e= .ret) 0 rfl hgs rfl rfl ?_ (fun _=>⟨rfl,rfl⟩) (fun _=>rfl) (Nat.zero_le _) rfl (fun _ h=>h) ?_ ?_ ?_ ?_ ?_);intro j xs hT;cases hT;rfl;rw[vaS.eq_1];have:=eq_ k;exact s_t [];exact aa_ (bJ_ c i) ac_;intro l j xs hj hT;cases hT;have hx:=hok j hj;obtain⟨s,hsd⟩:∃s,s=closV c i s0 j:=⟨_,rfl⟩;rw[←hsd] at hx⊢;obtain⟨x1,x2,x3,x4,x5⟩:=hx;obtain⟨v,hv⟩:∃v,v=overP q s:=⟨_,rfl⟩;have hov:=fs_Over q s x1;rw[←hv] at hov x2 x3;show AWp _ _ _ _ ⟨[(15,.agg (spC s.1 s.2)),(3,bPl c i),(4,bP q),(5,bI k),(6,.lptr 1 0 0),(7,bQ step),(14,.clos 265 [] [bPl c i]),(1003,bPl c i),(1004,bP q),(1005,bI k),(1006,.lptr 1 0 0),(1007,bQ step),(1014,.clos 265 [] [bPl c i])],[(1,some ⟨74,6,[zC++zC]⟩)],2,61⟩;refine r_m 2 ?_;refine a_z ?_;refine af_ (r_c 5 (hov) ?_);refine a_z ?_;refine ab_ (ab_ (r_d hmix 5 ?_));refine c_s (l2_ v.1 v.2 x2.1 x2.2) ?_;refine c_s (l0_ (v.2- v.1) step x3 x4) ?_;refine a_1 ?_
 refine ak_ (n_k ?_);refine aj_ rfl (fun h6=>?_) (fun h6=>?_)
 have h7:¬cmpQ (v.2- v.1) step< 0:=by
  have:0≤cmpQ (v.2- v.1) step:=by simpa using h6
  omega
 have he:j< kk:=by
  refine Nat.lt_of_le_of_ne hj fun e=>?_;subst e;rw[←hsd] at t1;unfold valT at t1;rw[←hv] at t1;rw[if_pos ⟨x1,x2,x3,x4,x5⟩] at t1;simp[h7] at t1
 refine ao_ (⟨j+1,⟨he,rfl⟩,?_⟩);show SEntT _ ⟨[(1003,bPl c i),(1004,bP q),(1005,bI k),(1006,.lptr 1 0 0),(1007,bQ step),(1014,.clos 265 [] [bPl c i])],[(1,some ⟨74,6,[zC++zC]⟩)],2,61⟩;have:=eq_ k;exact s_t []
 ·have h7:cmpQ (v.2- v.1) step< 0:=by
   have:¬0≤cmpQ (v.2- v.1) step:=by simpa using h6
   omega
  have he:j=kk:=by
   refine Nat.le_antisymm hj (Nat.le_of_not_lt fun hlt=>?_);have h8:=t2 j (Nat.zero_le _) hlt;rw[←hsd] at h8;unfold valT at h8;rw[←hv] at h8;rw[if_pos ⟨x1,x2,x3,x4,x5⟩] at h8;simp[h7] at h8
  subst he;rw[←hsd,←hv] at hR;unfold valR at hR;rw[←hst] at hR;obtain⟨m,hm⟩:∃m,m=downQ v.2 (wi k 256):=⟨_,rfl⟩;rw[←hm] at hR;split at hR
  case isFalse=>cases hR
  case isTrue hz=>
  obtain⟨z1,z2,z3,z4,z5⟩:=hz;have hdn:=rY_ v.2 k x2.2;rw[←hm] at hdn;refine ah_ (r_c 6 (hdn) ?_);refine a_z ?_;refine ab_ (r_c 5 (l0_ m v.1 z1 z2.1) ?_);refine a_z ?_;refine aj_ rfl (fun h8=>?_) (fun h8=>?_);have h9:cmpQ m v.1< 0:=by simpa using h8
  rw[if_pos h9] at hR;cases hR;refine ab_ (r_d hmix 6 ?_);refine c_s (c6_ m step (sm2 z1 z3)) ?_;refine a_2 ?_;refine ak_ (n_k ?_);refine ag_ (⟨rfl,(),rfl,?_⟩);show SEntT _ ⟨[(1006,.lptr 1 0 0)],[(1,some ⟨74,6,[spC (m,m+step).1 (m,m+step).2]⟩)],2,61⟩;have:=eq_ k;exact s_t [];have h9:¬cmpQ m v.1< 0:=by simpa using h8
  rw[if_neg h9] at hR;obtain⟨sg,hsg,hR2⟩:=Option.bind_eq_some_iff.1 hR;cases hR2;have hcl:=g3_ m;have hsmc:smL (cK_ m):=kb_ fun x hx=>by rw[List.mem_singleton.1 hx];exact z1
  refine ah_ (ab_ (ab_ (r_d hmix 6 ?_)));refine c_s (iU_ m) ?_;refine c_s (fs_Sub q (cK_ m) z4 hsmc (by omega) (by omega)) ?_;refine c_s (fs_sign f g c i (subP q (cK_ m)) sg hsg hf) ?_;refine ak_ (n_k ?_);refine af_ (r_z 2 ?_);refine aj_ rfl (fun h10=>?_) (fun h10=>?_);have h11:sg=0:=by simpa using h10
  refine r_c 3 (fs_At m) ?_;refine a_z ?_;refine ag_ (⟨rfl,(),rfl,?_⟩);rw[if_pos h11];show SEntT _ ⟨[(1006,.lptr 1 0 0)],[(1,some ⟨74,6,[spC (m,m).1 (m,m).2]⟩)],2,61⟩;have:=eq_ k;exact s_t [];have h11:¬sg=0:=by simpa using h10
  refine r_z 2 ?_;refine aj_ rfl (fun h12=>?_) (fun h12=>?_);have h13:sg=1:=by simpa using h12
  refine ab_ (r_d hmix 6 ?_);refine c_s (c6_ m step (sm2 z1 z3)) ?_;refine a_2 ?_;refine ak_ (n_k ?_);refine ag_ (⟨rfl,(),rfl,?_⟩);rw[if_neg h11,if_pos h13];show SEntT _ ⟨[(1006,.lptr 1 0 0)],[(1,some ⟨74,6,[spC (m,m+step).1 (m,m+step).2]⟩)],2,61⟩;have:=eq_ k;exact s_t [];have h13:¬sg=1:=by simpa using h12
  refine ah_ (ab_ (r_d hmix 6 ?_));refine c_s (gm_ m step (sm2 z1 z3)) ?_;refine a_3 ?_;refine ak_ (n_k ?_);refine ag_ (⟨rfl,(),rfl,?_⟩);rw[if_neg h11,if_neg h13];show SEntT _ ⟨[(1006,.lptr 1 0 0)],[(1,some ⟨74,6,[spC (m- step,m).1 (m- step,m).2]⟩)],2,61⟩;have:=eq_ k;exact s_t []
 intro j hj hT;cases hT;rintro e u rfl;exact Fin.cell rfl rfl rfl TG.h TS.h (nle rfl) (ai_ as_ (a0_ _ _))
end Go.Proofs.YtjkddcfoolilbaaGreatDoor
