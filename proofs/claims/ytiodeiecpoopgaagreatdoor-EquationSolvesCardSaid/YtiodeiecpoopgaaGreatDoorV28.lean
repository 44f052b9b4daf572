/- Part V28. -/
import Derived.Test.YtiodeiecpoopgaaGreatDoorV27
set_option linter.all false
namespace Go.Proofs.YtiodeiecpoopgaaGreatDoor
open Go.Abs
set_option maxRecDepth 20000
set_option maxHeartbeats 1000000
theorem first_text{c:UInt8}{l:List UInt8}:∀w,(Instr.index 9 (.string ⟨(c::l).toArray⟩) (.int .i64 0)).run Tryz.prog w= .ok (.int .u8 c.toNat) w:=fun w=>by
 simp[Instr.index,asIntOf,run_underlying iy,go_sem];rfl
theorem Ge(c:UInt8)(l:List UInt8):∀w,(Instr.sliceAt 9 (.string ⟨(c::l).toArray⟩) (some (.int .i64 1)) none none).run Tryz.prog w= .ok (.string ⟨l.toArray⟩) w:=fun w=>by
 have b1:∀(i y:Nat) (c:BoundsCode),i<=y->(Instr.sliceBound (.int .i64 (i:Int)) y c).run Tryz.prog w= .ok i w:=fun i y c b=>em b c w
 have e:(⟨(c::l).toArray⟩:ByteArray).extract 1 (⟨(c::l).toArray⟩:ByteArray).size=⟨l.toArray⟩:=by
  apply ByteArray.ext;simp[ByteArray.size]
 have a:(Instr.slice 9 (.string ⟨(c::l).toArray⟩) (some (.int .i64 ((1:Nat):Int))) none none).run Tryz.prog w= .ok (.string ⟨l.toArray⟩) w:=by
  have hs:1<=(⟨(c::l).toArray⟩:ByteArray).size:=by simp[ByteArray.size]
  have b2:=b1 1 (⟨(c::l).toArray⟩:ByteArray).size .sliceB hs;rw[show((1:Nat):Int)=1 from rfl] at b2;simp[Instr.slice,run_underlying iy,Instr.sliceBounds,b2,Result.andThen,e]
 unfold Instr.sliceAt;rw[Sem.run_bind,run_underlying iy];exact a
theorem Kh(d:Nat)(zl zh:Int)(hd:d< 10)(el:zl=(d:Int))(eh:zh=(d:Int)+1):∀w,(Instr.sliceAt 9 (.string ⟨#[48,49,50,51,52,53,54,55,56,57]⟩) (some (.int .i64 zl)) (some (.int .i64 zh)) none).run Tryz.prog w= .ok (.string ⟨[UInt8.ofNat (48+d)].toArray⟩) w:=fun w=>by
 rw[vO _ d (d+1) zl zh el (by omega) (by omega) (by exact Nat.le_trans (m:=10) (by omega) (by decide)) w];have a:∀d,d< 10->(ByteArray.mk #[48,49,50,51,52,53,54,55,56,57]).extract d (d+1)=⟨[UInt8.ofNat (48+d)].toArray⟩:=by decide
 rw[a d hd]
theorem zd_sm{m:Nat}(h0:0< m)(h:m< 32768):zd m=[m]:=by
 have hb:UB=32768:=rfl;unfold zd;rw[eB (by decide) h0,Nat.mod_eq_of_lt (by omega),Nat.div_eq_of_lt (by omega),cg];rfl
def ztO(z:Int)(n:Nat):Nat->AState
 |k=>⟨[(1,.aptr [zZ z] 0 0),(3,tx (pd (4* k) n)),(4,.arr (iE (zd (n/ 10^ (4* k)))))],[],2,51⟩
def ztI(z:Int)(r B:Nat)(T:List UInt8):Nat->AState
 |i=>⟨[(1,.aptr [zZ z] 0 0),(3,tx (pd i r++T)),(5,.arr (iE (zd B))),(7,i64 ((r/ 10^ i:Nat):Int)),(8,i64 i)],[],2,51⟩
def ztD(z:Int):List UInt8->AState
 |T=>⟨[(1,.aptr [zZ z] 0 0),(3,tx T)],[],2,51⟩
theorem Bm(z:Int)(h:bl z.natAbs<=68719476736):FS 202 [.agg (zZ z)] (tx (ztx z)):=by
 have hcz:Closed (.aptr [zZ z] 0 0):=aU (dM z);refine f_c Tryz.func202 ?_;refine r_z 2 ?_;refine AWp.ent (st':=⟨[(1,.aptr [zZ z] 0 0)],[],2,51⟩) ?_ ?_;exact s_e [];by_cases h0:z=0;subst h0;refine ae (s_r 3 ?_);refine a_2 ?_;refine o_0 (.bin rfl rfl (vT bv ((by decide)))) ?_;refine ao ?_;refine ap rfl (fun h1=>?_) (fun h1=>?_);refine r_z 1 ?_;exact aj (aM rfl (by rw[show ztx 0=[48] by unfold ztx;rw[Int.natAbs_zero,Lib.decDigits_one (by decide)];rfl];rfl) (ag _));cases h1;refine ae (s_r 3 ?_);refine a_2 ?_;refine o_0 (.bin rfl rfl (vF bv ((by unfold sgZ;rw[if_neg h0];split <;> rfl)))) ?_;refine ao ?_;refine cF (am (r_z 1 ?_));refine r_z 3 ?_;obtain⟨n,hn⟩:∃n,n=z.natAbs:=⟨_,rfl⟩;have hn0:0< n:=by omega
 rw[<-hn] at h;have hzd:=cy n;have hdl:=bC (b:=UB) (by decide) n;refine a6 (ztD z) (fun T=> ∃k,T=pd k n/\n< 10^ k/\k<=4* (bl n+1)) ?_ ?_;refine ah (ax (ztO z n) (fun k=>n/ 10^ (4* k)) (fun k=>k=0\/0< n/ 10^ (4* (k- 1))) 0 (.inl rfl) ?_ ?_);simp only[ztO.eq_1];have e:n/ 10^ (4* 0)=n:=by simp
 rw[e,hn];exact s_f [];rintro k hk;simp only[ztO.eq_1];obtain⟨A,hA⟩:∃A,A=n/ 10^ (4* k):=⟨_,rfl⟩
 have hk4:4* k<=bl n+4:=by
  rcases hk with hk|hk
  omega
  have h1:10^ (4* (k- 1))<=n:=by
   apply Nat.le_of_not_lt;intro hlt;rw[Nat.div_eq_of_lt hlt] at hk;omega
  have h2:=uZ n;have h3:2^ (4* (k- 1))<=10^ (4* (k- 1)):=Nat.pow_le_pow_left (by decide) _;have h4:4* (k- 1)< bl n:=(Nat.pow_lt_pow_iff_right (a:=2) (by decide)).1 (Nat.lt_of_le_of_lt (Nat.le_trans h3 h1) h2);omega
 rw[<-hA];have hAb:bl A<=68719476736:=Nat.le_trans (dG (by rw[hA];exact Nat.div_le_self _ _)) h;by_cases hA0:A=0;have hz:(zd A).length=0:=by rw[hA0,nE];rfl
 refine ae (q_z 3 ?_);refine cF (aw ⟨pd (4* k) n,⟨4* k,rfl,?_,by omega⟩,?_⟩);rw[hA0] at hA;exact(Nat.div_eq_zero_iff.1 hA.symm).resolve_left (by have:=Nat.one_le_pow (4* k) 10 (by decide);omega);simp only[ztD.eq_1];exact s_f [];have hz:0< (zd A).length:=List.length_pos_iff.2 fun e=>hA0 (zd_eq_nil.1 e);refine ae (q_z 3 ?_);refine cT (am (ah ?_));have hov:=pK A 10000 (by decide) (by omega) (by decide);rw[zd_sm (by decide) (by decide:10000< 32768)] at hov;obtain⟨r,hr⟩:∃r,r=A % 10000:=⟨_,rfl⟩;obtain⟨B,hB⟩:∃B,B=A/ 10000:=⟨_,rfl⟩;rw[<-hr,<-hB] at hov;have hr4:r< 10000:=by rw[hr];exact Nat.mod_lt _ (by decide)
 have hzr:(zd r).length<=4:=by
  rw[cy];exact eS (b:=UB) (by decide) (k:=4) (Nat.lt_trans hr4 (by decide))
 have hsh:=ve (zd r) hzr (jw r);rw[ky] at hsh;obtain⟨T,hT⟩:∃T,T=pd (4* k) n:=⟨_,rfl⟩;have hTl:T.length=4* k:=by rw[hT,wR]
 rw[<-hT];refine s_r 8 ?_;refine a_2 ?_;refine o_1 (.callS1 rfl rfl rfl (.keep (.shut rfl d_n (.nil))) rfl (hov)) ?_;refine a_z ?_;refine r_c 3 (hsh) ?_;refine a_z ?_;refine ae (r_z 1 ?_);refine aC (ztI z r B T) (fun i=>i=4) ?_ ?_;refine ah (ax (ztI z r B T) (fun i=>4- i) (fun i=>i<=4) 0 (by decide) ?_ ?_);simp only[ztI.eq_1];have e:((r/ 10^ 0:Nat):Int)=r:=by simp
 rw[e];exact s_f [];rintro i hi;simp only[ztI.eq_1];by_cases h4:i< 4;refine ae (q_z 2 ?_);refine cT (am (ae (ah ?_)));obtain⟨c,hc⟩:∃c,c=r/ 10^ i:=⟨_,rfl⟩;rw[<-hc];have hcr:c<=r:=by rw[hc];exact Nat.div_le_self _ _
 have hsz:[UInt8.ofNat (48+c % 10)].length+(pd i r++T).length<=9223372036854775807:=by
  rw[List.length_append,wR,hTl];simp only[List.length_cons,List.length_nil];omega
 refine s_r 9 ?_;refine a_5 ?_;refine o_0 (.slice_v rfl rfl rfl rfl (Kh (c % 10) _ _ (by omega) (by omega) (by omega))) ?_;refine a_1 ?_;refine o_0 (.bin rfl rfl (eY (l:=[UInt8.ofNat (48+c % 10)]) (m:=pd i r++T) hsz)) ?_;refine a_z ?_;refine r_m 3 ?_;refine a_z ?_;refine r_m 3 ?_;refine a_z ?_;refine⟨i+1,by omega,h4,?_⟩;have e1:pd (i+1) r++T=[UInt8.ofNat (48+c % 10)]++(pd i r++T):=by rw[IL,<-hc];rfl
 have e2:((r/ 10^ (i+1):Nat):Int)=(c:Int) / 10:=by rw[Nat.pow_succ,<-Nat.div_div_eq_div_mul,<-hc];omega
 show SEnt _ ⟨[(1,.aptr [zZ z] 0 0),(3,tx (pd (i+1) r++T)),(5,.arr (iE (zd B))),(7,i64 ((r/ 10^ (i+1):Nat):Int)),(8,i64 ((i+1:Nat):Int))],[],2,_⟩;rw[e1,e2];exact s_f [];refine ae (q_z 2 ?_);refine cF (aw ⟨i,by omega,?_⟩);simp only[ztI.eq_1];exact s_f [];rintro _ rfl;rw[ztI.eq_1];refine r_m 2 ?_;refine a_z ?_;have e0:n/ 10^ (4* (k+1))=B:=by rw[hB,hA,Nat.div_div_eq_div_mul,show 4* (k+1)=4* k+4 by omega,Nat.pow_add]
 refine⟨k+1,?_,.inr ?_,?_⟩;show n/ 10^ (4* (k+1))< A;rw[e0];omega;show 0< n/ 10^ (4* (k+1- 1));rw[Nat.add_sub_cancel,<-hA];omega
 have e1:pd (4* (k+1)) n=pd 4 r++T:=by
  rw[show 4* (k+1)=4+4* k by omega,IN,<-hA,<-hT,hr];congr 1;exact(pd_mod 4 A).symm
 show SEnt _ ⟨[(1,.aptr [zZ z] 0 0),(3,tx (pd (4* (k+1)) n)),(4,.arr (iE (zd (n/ 10^ (4* (k+1))))))],[],2,_⟩;rw[e0,e1];exact s_f [];rintro T ⟨K,hT,hK,hKl⟩;have hdz:j8 T=Lib.decDigits n:=by rw[hT];exact BI K n hn0 hK
 clear hT hK hKl;simp only[ztD.eq_1];refine a6 (ztD z) (fun T=>T=Lib.decDigits n) ?_ ?_;refine ah (ax (ztD z) (fun T=>T.length) (fun T=>j8 T=Lib.decDigits n) T hdz ?_ ?_);simp only[ztD.eq_1];exact s_f [];intro T hT;simp only[ztD.eq_1];cases T with
 |nil=>exact absurd hT.symm (qO n)
 |cons c T=>
  rw[j8] at hT;by_cases hc:c=48;rw[if_pos hc] at hT;refine ae (s_r 3 ?_);refine a_1 ?_;refine o_0 (.index_s rfl rfl first_text) ?_;refine o_0 (.bin rfl rfl (vT bv ((by rw[hc];rfl)))) ?_;refine ao ?_;refine cT (am (ah (r_m 3 ?_)));refine a_1 ?_;refine o_0 (.slice_v rfl rfl rfl rfl (Ge c T)) ?_;refine a_z ?_;refine⟨T,by simp,hT,?_⟩;show SEnt _ ⟨[(1,.aptr [zZ z] 0 0),(3,tx T)],[],2,_⟩;exact s_f [];rw[if_neg hc] at hT
  have hne:(((c.toNat:Nat):Int)==48)=false:=by
   rw[beq_eq_false_iff_ne];intro e
   exact hc (UInt8.toNat_inj.1 (by have:c.toNat=48:=by omega
                                   exact this))
  refine ae (s_r 3 ?_);refine a_1 ?_;refine o_0 (.index_s rfl rfl first_text) ?_;refine o_0 (.bin rfl rfl (vF bv (hne))) ?_;refine ao ?_;refine cF (aw ⟨c::T,hT,?_⟩);show SEnt _ ⟨[(1,.aptr [zZ z] 0 0),(3,tx (c::T))],[],2,_⟩;exact s_f []
 rintro T rfl;simp only[ztD.eq_1];have hdl2:=vN n;by_cases hneg:z< 0;refine ae (s_r 3 ?_);refine a_2 ?_;refine o_0 (.bin rfl rfl (vT ec ((by unfold sgZ;rw[if_neg h0,if_pos hneg];rfl)))) ?_;refine ao ?_;refine cT (s_r 3 ?_);refine a_1 ?_;refine o_0 (.bin rfl rfl (eY (l:=[45]) (by simp;omega))) ?_;refine a_z ?_;exact aj (aM rfl (by unfold ztx;rw[if_pos hneg,hn]) (ag _));refine ae (s_r 3 ?_);refine a_2 ?_;refine o_0 (.bin rfl rfl (vF ec ((by unfold sgZ;rw[if_neg h0,if_neg hneg];rfl)))) ?_;refine ao ?_;refine cF (am (r_z 2 ?_));exact aj (aM rfl (by unfold ztx;rw[if_neg hneg,hn];rfl) (ag _))
abbrev fV:=Int×Int×Nat
def nV(r:fV):Rat:=pr r.1 r.2.1 r.2.2
def nR(l:List fV):Lc:=l.map fun r=>nuC r.1 r.2.1 r.2.2
def nL(l:List fV):Lq:=l.map nV
abbrev rL(l:Lq):Lc:=rE (l.map rq)
def okR(l:List fV):Prop:=∀r∈l,ls r.1/\ls r.2.1/\r.2.2<=255
theorem dd(l:List fV):∀e∈nR l,∀c∈e,Closed c:=by
 intro e a c b;obtain⟨r,_,rfl⟩:=List.mem_map.1 a;exact iQ _ _ _ c b
theorem lH(l:Lq):∀e∈rL l,∀c∈e,Closed c:=cC _
def liS(l:List fV):Lq->Nat->AState
 |[],i=>⟨[(0,.arr (nR l)),(4,.emp),(5,.emp),(6,i64 i)],[],1,33⟩
 |q::Q,i=>⟨[(0,.arr (nR l)),(4,.lsl 1 0 (Q.length+1) none 3),(5,.lsl 2 0 (Q.length+1) none 4),(6,i64 i)],[(1,some ⟨48,3,pE (q::Q)⟩),(2,some ⟨55,4,rL (q::Q)⟩)],3,33⟩
theorem pu(l:List fV)(i:Nat):liS l [] i=⟨[(0,.arr (nR l)),(4,.emp),(5,.emp),(6,i64 i)],[],1,33⟩:=rfl
theorem lj(l:List fV)(q:Rat)(Q:Lq)(i:Nat):liS l (q::Q) i=⟨[(0,.arr (nR l)),(4,.lsl 1 0 (Q.length+1) none 3),(5,.lsl 2 0 (Q.length+1) none 4),(6,i64 i)],[(1,some ⟨48,3,pE (q::Q)⟩),(2,some ⟨55,4,rL (q::Q)⟩)],3,33⟩:=rfl
theorem fs_List(l:List fV)(hl:l.length<=1099511627776)(hb:okR l):FS 36 [.arr (nR l)] (.tup [.arr (pE (nL l)),.arr (rL (nL l))]):=by
 have r:∀q:Rat,∀e∈[rC (rq q)],∀c∈e,Closed c:=fun q=>lH [q];refine f_n Tryz.func36 ?_ ?_;exact ac (aG (dd l)) af;refine r_z 2 ?_;refine r_z 1 ?_;refine r_z 1 ?_;refine ae (r_z 1 ?_);refine aC (fun _:Unit=>liS l (nL l) l.length) (fun _=>True) ?_ ?_;refine ah (ax (fun i:Nat=>liS l (nL (l.take i)) i) (fun i=>l.length- i) (fun i=>i<=l.length) 0 (Nat.zero_le _) ?_ ?_);show SEnt _ (liS l [] 0);rw[pu];have:=(aG (dd l));exact s_f [];rintro i s;have p:(nR l).length=l.length:=by simp[nR]
 by_cases hlt:i< l.length
 ·obtain⟨n,o⟩:∃n,l[i]?=some n:=⟨_,List.getElem?_eq_getElem hlt⟩
  have a:(nR l)[((i:Nat):Int).toNat]?=some (nuC n.1 n.2.1 n.2.2):=by
   show(nR l)[i]?=_;simp[nR,o]
  obtain⟨j,m,k⟩:=hb n (List.mem_of_getElem? o);have b:=qf n.1 n.2.1 n.2.2 j m k;obtain⟨v,hv⟩:∃v,v=pr n.1 n.2.1 n.2.2:=⟨_,rfl⟩;rw[<-hv] at b;have d:nL (l.take (i+1))=nL (l.take i)++[v]:=by rw[cm o];simp[nL,nV,hv]
  have f:(nL (l.take i)).length=i:=by simp[nL];omega
  cases hQ:nL (l.take i) with
  |nil=>
   simp only[pu];refine ae (r_z 4 ?_);refine ap rfl (fun h=>?_) (fun h=>?_);rotate_left;exact absurd h (by simp[nR];omega);refine am (ae (ah (s_r 12 ?_)));refine a_2 ?_;refine i_x a ?_;refine l_x a ?_;refine c_s (b) ?_;refine a_z ?_;refine r_d aT 10 ?_;refine a_8 ?_;refine a_2 ?_;refine ao (n_k ?_);refine r_m 3 ?_;refine a_z ?_;refine⟨i+1,by omega,hlt,?_⟩;simp only[d,hQ,List.nil_append,lj];refine s_x [(1,4),(2,5)] (fun hs=>e_49) (fun hs=>?_)
   ·repeat' (first|exact aA|refine h_c ?_ ?_|exact aV hs (aP [v])|exact aV hs (lH [v])|exact br|refine ay ?_|exact aq|refine ak ?_ ?_|exact ai hs (aG (dd l))|exact aS)
  |cons q Q=>
   rw[hQ] at f;simp at f;simp only[lj];refine ae (r_z 4 ?_);refine ap rfl (fun h=>?_) (fun h=>?_);rotate_left;exact absurd h (by simp[nR];omega);refine am (ae (ah (s_r 12 ?_)));refine a_2 ?_;refine i_x a ?_;refine l_x a ?_;refine c_s (b) ?_;refine a_z ?_;refine r_d aT 10 ?_;refine a_8 ?_;refine a_2 ?_;refine ao (n_k ?_);refine r_m 3 ?_;refine a_z ?_;refine⟨i+1,by omega,hlt,?_⟩;simp only[d,hQ,List.cons_append,lj];have e:pE (q::Q)++[qC v]=pE (q::(Q++[v])):=by simp[pE]
   have e2:rL (q::Q)++[rC (rq v)]=rL (q::(Q++[v])):=by simp[rE]
   refine s_x [(1,4),(2,5)] (fun hs=>e_49) (fun hs=>?_) e_2
   ·repeat' (first|exact aA|refine h_c ?_ ?_|exact aF hs e (aP _)|exact aF hs e2 (lH _)|exact br|refine ay ?_|exact aq|refine ak ?_ ?_|exact ai hs (aG (dd l))|exact aS)
 have g:i=l.length:=by omega
 subst g;simp only[List.take_length];cases hQ:nL l with
 |nil=>
  simp only[pu];refine ae (r_z 4 ?_);refine ap rfl (fun h=>?_) (fun h=>?_);exact absurd h (by simp[nR]);refine aw ⟨(),trivial,?_⟩;simp only[hQ,pu];have:=(aG (dd l));exact s_f []
 |cons q Q=>
  simp only[lj];refine ae (r_z 4 ?_);refine ap rfl (fun h=>?_) (fun h=>?_);exact absurd h (by simp[nR]);refine aw ⟨(),trivial,?_⟩;simp only[hQ,lj];have:=(aG (dd l));exact s_f []
 rintro _ _;cases hQ:nL l with
 |nil=>
  simp only[pu];refine r_z 4 ?_;refine aj (Fin.many ⟨_,_,rfl,rfl,⟨_,_,rfl,rfl,rfl⟩⟩ (nle rfl) ?_);exact ak (Cv.emp _) (ak (Cv.emp _) aq)
 |cons q Q=>
  simp only[lj];refine r_z 4 ?_;refine aj (Fin.many ⟨_,_,rfl,rfl,⟨_,_,rfl,rfl,rfl⟩⟩ (nle rfl) ?_);exact ak (Cv.sealE aB rfl (fun _ _ h=>by cases h) rfl (by simp) (aP _)) (ak (Cv.sealE aB rfl (fun _ _ h=>by cases h) rfl (by simp) (lH _)) aq)
theorem qe(l:List fV)(hl:l.length<=1099511627776)(hb:okR l):FS 10 [.arr (nR l)] (.tup [.arr (pE (nL l)),.arr (rL (nL l))]):=by
 refine f_n Tryz.func10 ?_ ?_;exact ac (aG (dd l)) af;refine r_z 2 ?_;refine r_c 7 (fs_List l hl hb) ?_;refine a_z ?_;refine r_z 4 ?_;refine aj (Fin.many ⟨_,_,rfl,rfl,⟨_,_,rfl,rfl,rfl⟩⟩ (nle rfl) ?_);exact ak (ai aB (aG (aP _))) (ak (ai aB (aG (lH _))) aq)
theorem dec_one{n:Nat}(h:Lib.decDigits n=[49]):n=1:=by
 by_cases h1:n< 10;rw[Lib.decDigits_one h1] at h;have:∀n,n< 10->[UInt8.ofNat (48+n)]=[49]->n=1:=by decide
 exact this n h1 h;have a:=Lib.decDigits_length n;rw[h,Lib.nDigits_big h1] at a;have:=Lib.nDigits_pos (n/ 10);simp at a;omega
theorem Ei(n:Nat):ztx (n:Int)=Lib.decDigits n:=by
 unfold ztx;rw[if_neg (by omega),Int.natAbs_natCast];rfl
theorem Ej(z:Int):(ztx z).length<=bl z.natAbs+2:=by
 have:=vN z.natAbs;unfold ztx;split <;> simp <;> omega
theorem Jv(x:RQ)(hx:rok x)(h:qs x.1<=68719476736):FS 165 [.agg (rC x)] (tx (qtx x.1)):=by
 have f:=Nat.le_trans (di x.1) h;have b:=Nat.le_trans (c7 x.1) h;have a:=Bm x.1.num f;have zd:=Bm (x.1.den:Int) (by rw[Int.natAbs_natCast];exact b);have g:=Ej x.1.num;have c:=Ej (x.1.den:Int);rw[Int.natAbs_natCast] at c;have d:Closed (.aptr [rC x] 0 0):=aU (b6 x);refine f_c Tryz.func165 ?_;refine r_z 2 ?_;by_cases h1:x.1.den=1;have e1:decide (ztx (x.1.den:Int)=[49])=true:=decide_eq_true (by rw[h1];decide+kernel);refine ae (r_c 4 (fv x hx) ?_);refine c_s (zd) ?_;refine o_0 (.bin rfl rfl (vT jk e1)) ?_;refine ao ?_;refine cT (r_c 4 (a) ?_);refine a_z ?_;exact aj (aM rfl (by rw[Iz,if_pos h1,List.append_nil]) (ag _));have e1:decide (ztx (x.1.den:Int)=[49])=false:=decide_eq_false fun e=>h1 (dec_one (by rw[<-Ei];exact e));refine ae (r_c 4 (fv x hx) ?_);refine c_s (zd) ?_;refine o_0 (.bin rfl rfl (vF jk e1)) ?_;refine ao ?_;refine cF (am (ae (r_d aT 9 ?_)));refine c_s (a) ?_;refine o_0 (.bin rfl rfl (eY (m:=[47]) (by simp;omega))) ?_;refine c_s (fv x hx) ?_;refine c_s (zd) ?_;refine o_0 (.bin rfl rfl (eY (by simp;omega))) ?_;refine a_1 ?_;refine ao (n_k ?_);exact aj (aM rfl (by rw[Iz,if_neg h1,Ei,List.append_assoc];rfl) (ag _))
theorem JK(q:Rat)(x:RQ)(hx:rok x)(h:x.1=q)(hs:qs q<=68719476736):FS 120 [.agg (qC q),.agg (rC x)] (bln true):=by
 subst h;have e1:decide (qtx x.1=qtx x.1)=true:=decide_eq_true rfl;refine f_c Tryz.func120 ?_;refine r_z 3 ?_;refine ae (r_d aT 6 ?_);refine c_s (G3 x.1 hs) ?_;refine c_s (Jv x hx hs) ?_;refine o_0 (.bin rfl rfl (vT jk e1)) ?_;refine a_1 ?_;refine ao (n_k ?_);exact aj (t_e (ag _))
def vR(x:List RQ):Lq:=x.map (·.1)
def okX(x:List RQ):Prop:=∀y∈x,rok y
def gz(x:List RQ):List RQ:=x.take (ar (vR x)).length
theorem nF(x:List RQ):vR (gz x)=ar (vR x):=by
 unfold gz;rw[vR,List.map_take];exact(qY (vR x)).symm
theorem mU{x:List RQ}(h:okX x):okX (gz x):=fun y a=>h y (List.mem_of_mem_take a)
@[simp] theorem cO (x:List RQ):(vR x).length=x.length:=by simp[vR]
def lkS(l:Lq)(x:List RQ):Nat->AState
 |i=>⟨[(0,.arr (pE l)),(1,.arr (rE x)),(5,i64 i)],[],1,27⟩
theorem JW(l:Lq)(x:List RQ)(hx:okX x)(h:vR x=l)(hs:bdL l 68719476736)(hl:l.length<=1099511627776):FS 62 [.arr (pE l),.arr (rE x)] (bln true):=by
 have a:x.length=l.length:=by rw[<-h];simp
 refine f_c Tryz.func62 ?_;refine r_z 1 ?_;refine ae (s_r 5 ?_);refine a_4 ?_;refine o_0 (.bin rfl rfl (vF bR ((by rw[a];simp)))) ?_;refine ao ?_;refine cF (am (ae (r_z 1 ?_)));refine aC (fun _:Unit=>⟨[(0,.arr (pE l)),(1,.arr (rE x))],[],1,27⟩) (fun _=>True) ?_ ?_;refine ah (ax (lkS l x) (fun i=>l.length- i) (fun i=>i<=l.length) 0 (Nat.zero_le _) ?_ ?_);simp only[lkS.eq_1];exact s_e [];rintro i f;simp only[lkS.eq_1];by_cases hlt:i< l.length;obtain⟨y,b⟩:∃y,x[i]?=some y:=⟨_,List.getElem?_eq_getElem (by omega)⟩;have e:l[i]?=some y.1:=by rw[<-h,vR,List.getElem?_map,b];rfl
 have d:(pE l)[((i:Nat):Int).toNat]?=some (qC y.1):=dT e;have c:(rE x)[((i:Nat):Int).toNat]?=some (rC y):=gX b;refine ae (q_z 4 ?_);refine cT (am (ae (ah (ae (r_d aT 10 ?_)))));refine a_2 ?_;refine i_x d ?_;refine l_x d ?_;refine a_2 ?_;refine i_x c ?_;refine l_x c ?_;refine c_s (JK y.1 y (hx y (List.mem_of_getElem? b)) rfl (hs _ (List.mem_of_getElem? e))) ?_;refine a_1 ?_;refine ao (n_k ?_);refine cF (am (r_m 3 ?_));refine a_z ?_;refine⟨i+1,by omega,hlt,?_⟩;exact s_e [];refine ae (q_z 4 ?_);refine cF (aw ⟨(),trivial,?_⟩);exact s_e [];rintro _ _;refine r_z 1 ?_;exact aj (t_e (ag _))
def rtmS(x:List RQ):Nat->AState
 |n=>⟨[(0,.arr (rE x)),(3,i64 n)],[],1,23⟩
theorem gE(x:List RQ)(hl:x.length<=1099511627776):FS 52 [.arr (rE x)] (.arr (rE (gz x))):=by
 obtain⟨v,hv⟩:∃v,v=vR x:=⟨_,rfl⟩;have i:v.length=x.length:=by rw[hv];simp
 refine f_c Tryz.func52 ?_;refine r_z 1 ?_;refine r_z 3 ?_;refine a6 (rtmS x) (fun n=>n<=v.length/\ar v=v.take n) ?_ ?_;refine ah (ax (rtmS x) (fun n=>n) (fun n=>n<=v.length/\ar v=ar (v.take n)) v.length ⟨Nat.le_refl _,by rw[List.take_length]⟩ ?_ ?_);simp only[rtmS.eq_1];rw[i];exact s_e [];rintro n ⟨o,a⟩;simp only[rtmS.eq_1];cases n with
 |zero=>
  refine ae (s_r 11 ?_);refine a_1 ?_;refine o_0 (.bin rfl rfl (vF lK ((by simp)))) ?_;refine a_z ?_;refine cF (aw ⟨0,⟨Nat.zero_le _,?_⟩,?_⟩);rw[a];rfl;simp only[rtmS.eq_1];exact s_e []
 |succ n=>
  obtain⟨y,m⟩:∃y,x[n]?=some y:=⟨_,List.getElem?_eq_getElem (by omega)⟩;have p:v[n]?=some y.1:=by rw[hv,vR,List.getElem?_map,m];rfl
  have c:(rE x)[(((n+1:Nat):Int)- 1).toNat]?=some (rC y):=by
   rw[show(((n+1:Nat):Int)- 1).toNat=n by omega];exact gX m
  have hs:ar (v.take (n+1))=if y.1=0 then ar (v.take n) else v.take (n+1):=by
   rw[cm p,lS]
  by_cases h0:y.1=0;refine ae (s_r 11 ?_);refine d_6 ?_;refine aW rfl rfl rfl (.index_a rfl rfl (by omega) c rfl te_37.h) rfl rfl ?_;refine aW rfl rfl rfl (.load_a rfl c TG.h TS.h (nle rfl)) rfl rfl ?_;refine c_s (nm y) ?_;refine aW rfl rfl rfl (.bin rfl rfl (vT bv ((by rw[h0];decide)))) rfl rfl ?_;refine a_z ?_;refine cT (am (ah (r_m 3 ?_)));refine a_z ?_;refine⟨n,Nat.lt_succ_self n,⟨by omega,?_⟩,?_⟩;rw[a,hs,if_pos h0];exact s_e []
  have q:(sgZ y.1.num==(0:Int))=false:=by
   rw[beq_eq_false_iff_ne];exact fun e=>h0 (sgZ_num_eq.1 e)
  refine ae (s_r 11 ?_);refine d_6 ?_;refine aW rfl rfl rfl (.index_a rfl rfl (by omega) c rfl te_37.h) rfl rfl ?_;refine aW rfl rfl rfl (.load_a rfl c TG.h TS.h (nle rfl)) rfl rfl ?_;refine c_s (nm y) ?_;refine aW rfl rfl rfl (.bin rfl rfl (vF bv (q))) rfl rfl ?_;refine a_z ?_;refine cF (aw ⟨n+1,⟨o,?_⟩,?_⟩);rw[a,hs,if_neg h0];simp only[rtmS.eq_1];exact s_e []
 rintro n ⟨o,a⟩;simp only[rtmS.eq_1];have j:(ar v).length=n:=by rw[a];simp;omega
 have b:gz x=x.take n:=by unfold gz;rw[<-hv,j]
 cases n with
 |zero=>
  refine s_r 5 ?_;refine a_2 ?_;refine o_0 (.sa_h rfl rfl (h:=0) rfl (by simp) te_37.h (tv _)) ?_;refine o_0 (.append0 rfl rfl rfl te_37.h rfl rfl rfl (.arr (es:=[]) (by simp))) ?_;refine a_z ?_;refine aj ?_;rw[b];exact Fin.tmpN rfl
 |succ n=>
  obtain⟨X,g⟩:∃X,X=x.take (n+1):=⟨_,rfl⟩;have f:X.length=n+1:=by rw[g];simp;omega
  have k:rE X≠[]:=fun e=>by have:=congrArg List.length e;simp[f] at this
  have d:(rE x).take (n+1)=rE X:=by rw[rE_take,g]
  have l:(rE x).take (n+1)≠[]:=by rw[d];exact k
  refine s_r 5 ?_;refine a_2 ?_;refine o_0 (.sa_h rfl rfl (h:=n+1) rfl (by simp;omega) te_37.h (tv _)) ?_;refine o_1 (.append_e rfl rfl rfl te_37.h rfl rfl rfl (.arr (by rw[d];exact tv _)) (by first|assumption|(simp;done)) TZ.h rfl TB.h d_o (by first|(simp[maxLen];done)|(simp[maxLen];omega))) ?_;refine a_z ?_;refine aj ?_;rw[b,<-g,<-d];exact Fin.tmpS rfl rfl rfl rfl (by rw[d];exact cC _)
theorem Bn(l:Lq)(x:List RQ)(hx:okX x)(h:ar (vR x)=l)(hs:bdL l 68719476736)(hl:x.length<=1099511627776):FS 23 [.arr (pE l),.arr (rE x)] (bln true):=by
 have a:l.length<=x.length:=by rw[<-h];have:=bw (vR x);simpa using this
 refine f_c Tryz.func23 ?_;refine r_z 1 ?_;refine r_c 5 (gE x hl) ?_;refine c_s (JW l (gz x) (mU hx) ((nF x).trans h) hs (by omega)) ?_;refine a_z ?_;exact aj (t_e (ag _))
def oS(t n:Nat)(fr:Fr):List RQ->AState
 |[]=>⟨(t,.emp)::fr,[],1,n⟩
 |y::Y=>⟨(t,.lsl 1 0 (Y.length+1) none 4)::fr,[(1,some ⟨55,4,rE (y::Y)⟩)],2,n⟩
theorem kR(t n:Nat)(fr:Fr):oS t n fr []=⟨(t,.emp)::fr,[],1,n⟩:=rfl
theorem dC(t n:Nat)(fr:Fr)(y:RQ)(Y:List RQ):oS t n fr (y::Y)=⟨(t,.lsl 1 0 (Y.length+1) none 4)::fr,[(1,some ⟨55,4,rE (y::Y)⟩)],2,n⟩:=rfl
def rP(v:Lq):List RQ:=v.map rq
theorem fq(v:Lq):okX (rP v):=fun y a=>by obtain⟨q,_,rfl⟩:=List.mem_map.1 a;exact cK q
theorem c6(v:Lq):vR (rP v)=v:=by
 unfold vR rP;rw[List.map_map];exact List.map_id' v
@[simp] theorem rn (v:Lq):(rP v).length=v.length:=by simp[rP]
theorem oX(v:Lq):gz (rP v)=rP (ar v):=by
 unfold gz;rw[c6,rP,<-List.map_take,<-qY];rfl
theorem kJ{x:List RQ}{i:Nat}(h:i< x.length):∃y,x[i]?=some y/\y.1=coP (vR x) i:=by
 refine⟨_,List.getElem?_eq_getElem h,?_⟩;unfold coP vR;rw[List.getD_eq_getElem?_getD,List.getElem?_map,List.getElem?_eq_getElem h];rfl
theorem oU{x:List RQ}{s:Nat}(h:bdL (vR x) s){y:RQ}{i:Nat}(hy:x[i]?=some y):qs y.1<=s:=h _ (List.mem_map.2 ⟨y,List.mem_of_getElem? hy,rfl⟩)
theorem take_succ'{V:Lq}{j:Nat}(h:j< V.length):V.take (j+1)=V.take j++[coP V j]:=cm (ci h)
theorem lx(x:List RQ)(k:RQ)(s:Nat)(hx:okX x)(hk:rok k)(hs:bdL (vR x) s)(hlim:s+qs k.1<=1099511627776)(hl:x.length<=1000000):FS 21 [.arr (rE x),.agg (rC k)] (.arr (rE (rP (a7 (vR x) k.1)))):=by
 obtain⟨V,h⟩:∃V,V=aJ (vR x).length (fun i=>coP (vR x) i* k.1):=⟨_,rfl⟩;refine f_c Tryz.func21 ?_;have u:Closed (.aptr [rC k] 0 0):=aU (b6 k);refine r_z 2 ?_;refine AWp.ent (st':=⟨[(3,.aptr [rC k] 0 0),(0,.arr (rE x))],[],1,24⟩) ?_ ?_;have:=b6 k;exact s_f [];refine r_z 1 ?_;refine ae (r_z 1 ?_);have w:V.length=x.length:=by rw[h];simp
 refine aC (fun _:Unit=>oS 5 24 [(3,.aptr [rC k] 0 0),(0,.arr (rE x))] (rP V)) (fun _=>True) ?_ ?_;refine ah (ax (fun j:Nat=>oS 5 24 [(6,i64 ((j:Nat):Int)),(3,.aptr [rC k] 0 0),(0,.arr (rE x))] (rP (V.take j))) (fun j=>V.length- j) (fun j=>j<=V.length) 0 (Nat.zero_le _) ?_ ?_);show SEnt _ (oS _ _ _ []);rw[kR];exact s_e [];rintro j z;by_cases hlt:j< V.length;obtain⟨y,o,n⟩:=kJ (x:=x) (i:=j) (by omega);have v:=oU hs o;have r:=hx y (List.mem_of_getElem? o);have d:(rE x)[((j:Nat):Int).toNat]?=some (rC y):=gX o;obtain⟨c,t⟩:∃c,c=y.1* k.1:=⟨_,rfl⟩;have m:coP V j=c:=by rw[h,coP_tab,if_pos (by simp;omega),<-n,t]
 have p:=n0 y k r hk (by omega);rw[<-t] at p;have f:=take_succ' hlt;rw[m] at f;have b:rP (V.take (j+1))=rP (V.take j)++[rq c]:=by rw[f];simp[rP]
 have g:(rP (V.take j)).length=j:=by simp;omega
 cases hQ:rP (V.take j) with
 |nil=>
  rw[hQ,List.nil_append] at b;simp only[kR];refine ae (q_z 4 ?_);refine cT (am (ae (ah (r_d aT 10 ?_))));refine a_3 ?_;refine i_x d ?_;refine l_x d ?_;refine c_s (p) ?_;refine a_3 ?_;refine ao (n_k ?_);refine r_m 3 ?_;refine a_z ?_;refine⟨j+1,by omega,hlt,?_⟩;rw[b,dC];exact s_f [(1,5)]
 |cons q Q=>
  rw[hQ] at g;rw[hQ,List.cons_append] at b;simp at g;simp only[dC];refine ae (q_z 4 ?_);refine cT (am (ae (ah (r_d aT 10 ?_))));refine a_3 ?_;refine i_x d ?_;refine l_x d ?_;refine c_s (p) ?_;refine a_3 ?_;refine ao (n_k ?_);refine r_m 3 ?_;refine a_z ?_;refine⟨j+1,by omega,hlt,?_⟩;rw[b,dC];have e:rE (q::Q)++[rC (rq c)]=rE (q::(Q++[rq c])):=by simp[rE]
  exact s_x [(1,5)] (fun hs=>dJ) (fun hs=>Kb) e_2
 have l:j=V.length:=by omega
 subst l;rw[List.take_length];cases hQ:rP V with
 |nil=>
  simp only[kR];refine ae (q_z 4 ?_);refine cF (aw ⟨(),trivial,?_⟩);exact s_e []
 |cons q Q=>
  simp only[dC];refine ae (q_z 4 ?_);refine cF (aw ⟨(),trivial,?_⟩);exact s_f [(1,5)]
 rintro _ _;have a:=gE (rP V) (by simp;omega);rw[oX] at a;cases hQ:rP V with
 |nil=>
  rw[hQ] at a;simp only[kR];refine r_c 3 (a) ?_;refine a_z ?_;refine aj (aM rfl ?_ ?_);rw[h];rfl;exact aY _
 |cons q Q=>
  rw[hQ] at a;simp only[dC];refine s_r 3 ?_;refine a_1 ?_;refine o_1 (.callS1 rfl rfl rfl (.shut rfl d_n (.nil)) rfl ((FSpec.argE a (by rw[List.drop_zero];exact List.take_of_length_le (by simp))))) ?_;refine a_z ?_;refine aj (aM rfl ?_ ?_);rw[h];rfl;exact aY _
theorem yW(x:List RQ)(s:Nat)(hx:okX x)(hs:bdL (vR x) s)(hlim:s+64<=1099511627776)(hl:x.length<=1000000):FS 118 [.arr (rE x)] (.arr (rE (rP (aL (vR x))))):=by
 obtain⟨V,k⟩:∃V,V=aJ ((vR x).length+1) (fun i=>if i=0 then 0 else coP (vR x) (i- 1) / ((i:Nat):Int)):=⟨_,rfl⟩;refine f_c Tryz.func118 ?_;have t:FS 54 [i64 0] (.agg (rC (rq 0))):=iW 0 (by decide);refine r_z 1 ?_;refine r_c 3 (t) ?_;refine a_z ?_;refine ae (r_z 1 ?_);have p:V.length=x.length+1:=by rw[k];simp
 refine aC (fun _:Unit=>oS 3 26 [(0,.arr (rE x))] (rP V)) (fun _=>True) ?_ ?_;refine ah (ax (fun j:Nat=>oS 3 26 [(4,i64 ((j:Nat):Int)),(0,.arr (rE x))] (rP (V.take (j+1)))) (fun j=>x.length- j) (fun j=>j<=x.length) 0 (Nat.zero_le _) ?_ ?_)
 have e0:rP (V.take (0+1))=[rq 0]:=by
  rw[take_succ' (by omega),k,coP_tab,if_pos (by simp),if_pos rfl,List.take_zero];rfl
 show SEnt _ (oS _ _ _ (rP (V.take (0+1))));rw[e0,dC];exact s_f [(1,3)];rintro j A;have a:(rP (V.take (j+1))).length=j+1:=by simp;omega
 by_cases hlt:j< x.length;obtain⟨y,o,n⟩:=kJ (x:=x) (i:=j) hlt;have w:=oU hs o;have r:=hx y (List.mem_of_getElem? o);have h:(rE x)[((j:Nat):Int).toNat]?=some (rC y):=gX o;obtain⟨c,u⟩:∃c,c=y.1/ ((j+1:Nat):Int):=⟨_,rfl⟩
 have m:coP V (j+1)=c:=by
  rw[k,coP_tab,if_pos (by simp;omega),if_neg (by omega),u,n];rfl
 have l:=iW ((j+1:Nat):Int) (by omega);have z:(rq (((j+1:Nat):Int):Rat)).1≠0:=by show(((j+1:Nat):Int):Rat)≠0;exact fun e=>by have:=Rat.intCast_inj.1 (e.trans (by rfl:(0:Rat)=((0:Int):Rat)));omega
 have v:=Fx y (rq (((j+1:Nat):Int):Rat)) r (cK _) z (by have:=uN (j+1) (by omega);show qs y.1+qs (((j+1:Nat):Int):Rat)<=_;omega);rw[show y.1/ (rq (((j+1:Nat):Int):Rat)).1=c by rw[u];rfl] at v;have g:=take_succ' (V:=V) (j:=j+1) (by omega);rw[m] at g;have f:rP (V.take (j+1+1))=rP (V.take (j+1))++[rq c]:=by rw[g];simp[rP]
 cases hQ:rP (V.take (j+1)) with
 |nil=>rw[hQ] at a;simp at a
 |cons q Q=>
  rw[hQ] at a;rw[hQ,List.cons_append] at f;simp at a;simp only[dC];refine ae (q_z 4 ?_);refine cT (am (ae (ah (r_d aT 12 ?_))));refine a_3 ?_;refine i_x h ?_;refine l_x h ?_;refine c_s (l) ?_;refine c_s (v) ?_;refine a_3 ?_;refine ao (n_k ?_);refine r_m 3 ?_;refine a_z ?_;refine⟨j+1,by omega,hlt,?_⟩;rw[f,dC];have e:rE (q::Q)++[rC (rq c)]=rE (q::(Q++[rq c])):=by simp[rE]
  exact s_x [(1,3)] (fun hs=>dJ) (fun hs=>Kb) e_2
 have d:V.take (j+1)=V:=List.take_of_length_le (by omega);rw[d];cases hQ:rP V with
 |nil=>rw[d,hQ] at a;simp at a
 |cons q Q=>
  simp only[dC];refine ae (q_z 4 ?_);refine cF (aw ⟨(),trivial,?_⟩);exact s_f [(1,3)]
 rintro _ _;have b:=gE (rP V) (by simp;omega);rw[oX] at b;cases hQ:rP V with
 |nil=>have:=congrArg List.length hQ;simp[p] at this
 |cons q Q=>
  rw[hQ] at b;simp only[dC];refine s_r 3 ?_;refine a_1 ?_;refine o_1 (.callS1 rfl rfl rfl (.shut rfl d_n (.nil)) rfl ((FSpec.argE b (by rw[List.drop_zero];exact List.take_of_length_le (by simp))))) ?_;refine a_z ?_;refine aj (aM rfl ?_ ?_);rw[k];rfl;exact aY _
@[simp] theorem jy (x:List RQ):(gz x).length=(ar (vR x)).length:=by rw[<-nF,cO]
theorem fL(x:List RQ)(hl:x.length<=1000000):FS 24 [.arr (rE x)] (i64 (a8 (vR x))):=by
 have a:=bw (vR x);rw[cO,<-jy] at a;refine f_c Tryz.func24 ?_;refine r_z 1 ?_;refine r_c 5 (gE x (by omega)) ?_;refine a_z ?_;exact aj (aM rfl (by rw[jy];rfl) (ag _))
theorem vh(x y:List RQ)(s t:Nat)(hx:okX x)(hy:okX y)(hs:bdL (vR x) s)(ht:bdL (vR y) t)(hlim:s+t+64<=1099511627776)(hxl:x.length<=1000000)(hyl:y.length<=1000000):FS 59 [.arr (rE x),.arr (rE y)] (.arr (rE (rP (fy (vR x) (vR y))))):=by
 obtain⟨V,z⟩:∃V,V=aJ (max (vR x).length (vR y).length) (fun i=>coP (vR x) i+coP (vR y) i):=⟨_,rfl⟩;have l:FS 54 [i64 0] (.agg (rC (rq 0))):=iW 0 (by decide);have E:qs (rq 0).1<=64:=by decide
 refine f_c Tryz.func59 ?_;refine r_z 1 ?_;refine r_z 1 ?_;refine ae (r_z 1 ?_);have D:V.length=max x.length y.length:=by rw[z];simp
 refine aC (fun _:Unit=>oS 5 47 [(0,.arr (rE x)),(1,.arr (rE y))] (rP V)) (fun _=>True) ?_ ?_;refine ah (ax (fun j:Nat=>oS 5 47 [(6,i64 ((j:Nat):Int)),(0,.arr (rE x)),(1,.arr (rE y))] (rP (V.take j))) (fun j=>V.length- j) (fun j=>j<=V.length) 0 (Nat.zero_le _) ?_ ?_);show SEnt _ (oS _ _ _ []);rw[kR];exact s_e [];rintro j F;have k:(rP (V.take j)).length=j:=by simp;omega
 by_cases hjx:j< x.length;by_cases hjy:j< y.length;obtain⟨a,ha,r⟩:=kJ (x:=x) (i:=j) hjx;have B:=oU hs ha;have w:=hx a (List.mem_of_getElem? ha);have g:(rE x)[((j:Nat):Int).toNat]?=some (rC a):=gX ha;obtain⟨b,hb,u⟩:=kJ (x:=y) (i:=j) hjy;have C:=oU ht hb;have v:=hy b (List.mem_of_getElem? hb);have f:(rE y)[((j:Nat):Int).toNat]?=some (rC b):=gX hb;obtain⟨c,o⟩:∃c,c=a.1+b.1:=⟨_,rfl⟩;have m:coP V j=c:=by rw[z,coP_tab,if_pos (by simp;omega),<-r,<-u,o]
 have m1:=n3 (rq 0) a (cK _) w (by omega);rw[show(rq 0).1+a.1=a.1 from Rat.zero_add _] at m1;have m2:=n3 (rq a.1) b (cK _) v (by show qs a.1+qs b.1<=_;omega);rw[show(rq a.1).1+b.1=c by rw[o];rfl] at m2;have h:=take_succ' (V:=V) (j:=j) (by omega);rw[m] at h;have d:rP (V.take (j+1))=rP (V.take j)++[rq c]:=by rw[h];simp[rP]
 cases hQ:rP (V.take j) with
 |nil=>
  rw[hQ,List.nil_append] at d;simp only[kR];refine ae (q_z 10 ?_);refine cT (am (ae (ah (r_c 3 (l) ?_))));refine a_z ?_;refine ae (q_z 4 ?_);refine cT (r_d aT 7 ?_);refine a_3 ?_;refine i_x g ?_;refine l_x g ?_;refine c_s (m1) ?_;refine a_1 ?_;refine ao (n_k ?_);refine ae (q_z 4 ?_);refine cT (r_d aT 7 ?_);refine a_3 ?_;refine i_x f ?_;refine l_x f ?_;refine c_s (m2) ?_;refine a_1 ?_;refine ao (n_k ?_);refine r_m 5 ?_;refine a_z ?_;refine r_m 3 ?_;refine a_z ?_;refine⟨j+1,by omega,by omega,?_⟩;rw[d,dC];exact s_f [(1,5)]
 |cons q Q=>
  rw[hQ] at k;rw[hQ,List.cons_append] at d;simp at k;simp only[dC];refine ae (q_z 10 ?_);refine cT (am (ae (ah (r_c 3 (l) ?_))));refine a_z ?_;refine ae (q_z 4 ?_);refine cT (r_d aT 7 ?_);refine a_3 ?_;refine i_x g ?_;refine l_x g ?_;refine c_s (m1) ?_;refine a_1 ?_;refine ao (n_k ?_);refine ae (q_z 4 ?_);refine cT (r_d aT 7 ?_);refine a_3 ?_;refine i_x f ?_;refine l_x f ?_;refine c_s (m2) ?_;refine a_1 ?_;refine ao (n_k ?_);refine r_m 5 ?_;refine a_z ?_;refine r_m 3 ?_;refine a_z ?_;refine⟨j+1,by omega,by omega,?_⟩;rw[d,dC];have e:rE (q::Q)++[rC (rq c)]=rE (q::(Q++[rq c])):=by simp[rE]
  exact s_x [(1,5)] (fun hs=>dJ) (fun hs=>Kb) e_2
 obtain⟨a,ha,r⟩:=kJ (x:=x) (i:=j) hjx;have B:=oU hs ha;have w:=hx a (List.mem_of_getElem? ha);have g:(rE x)[((j:Nat):Int).toNat]?=some (rC a):=gX ha;obtain⟨c,o⟩:∃c,c=a.1:=⟨_,rfl⟩;have m:coP V j=c:=by rw[z,coP_tab,if_pos (by simp;omega),<-r,eJ (p:=vR y) (by simp;omega),Rat.add_zero,o]
 have m1:=n3 (rq 0) a (cK _) w (by omega);rw[show(rq 0).1+a.1=a.1 from Rat.zero_add _] at m1;rw[<-o] at m1;have h:=take_succ' (V:=V) (j:=j) (by omega);rw[m] at h;have d:rP (V.take (j+1))=rP (V.take j)++[rq c]:=by rw[h];simp[rP]
 cases hQ:rP (V.take j) with
 |nil=>
  rw[hQ,List.nil_append] at d;simp only[kR];refine ae (q_z 10 ?_);refine cT (am (ae (ah (r_c 3 (l) ?_))));refine a_z ?_;refine ae (q_z 4 ?_);refine cT (r_d aT 7 ?_);refine a_3 ?_;refine i_x g ?_;refine l_x g ?_;refine c_s (m1) ?_;refine a_1 ?_;refine ao (n_k ?_);refine ae (q_z 4 ?_);refine cF (am (r_m 5 ?_));refine a_z ?_;refine r_m 3 ?_;refine a_z ?_;refine⟨j+1,by omega,by omega,?_⟩;rw[d,dC];exact s_f [(1,5)]
 |cons q Q=>
  rw[hQ] at k;rw[hQ,List.cons_append] at d;simp at k;simp only[dC];refine ae (q_z 10 ?_);refine cT (am (ae (ah (r_c 3 (l) ?_))));refine a_z ?_;refine ae (q_z 4 ?_);refine cT (r_d aT 7 ?_);refine a_3 ?_;refine i_x g ?_;refine l_x g ?_;refine c_s (m1) ?_;refine a_1 ?_;refine ao (n_k ?_);refine ae (q_z 4 ?_);refine cF (am (r_m 5 ?_));refine a_z ?_;refine r_m 3 ?_;refine a_z ?_;refine⟨j+1,by omega,by omega,?_⟩;rw[d,dC];have e:rE (q::Q)++[rC (rq c)]=rE (q::(Q++[rq c])):=by simp[rE]
  exact s_x [(1,5)] (fun hs=>dJ) (fun hs=>Kb) e_2
 by_cases hjy:j< y.length;obtain⟨b,hb,u⟩:=kJ (x:=y) (i:=j) hjy;have C:=oU ht hb;have v:=hy b (List.mem_of_getElem? hb);have f:(rE y)[((j:Nat):Int).toNat]?=some (rC b):=gX hb;obtain⟨c,o⟩:∃c,c=b.1:=⟨_,rfl⟩;have m:coP V j=c:=by rw[z,coP_tab,if_pos (by simp;omega),eJ (p:=vR x) (by simp;omega),<-u,Rat.zero_add,o]
 have m2:=n3 (rq 0) b (cK _) v (by omega);rw[show(rq 0).1+b.1=c by rw[o];exact Rat.zero_add _] at m2;have h:=take_succ' (V:=V) (j:=j) (by omega);rw[m] at h;have d:rP (V.take (j+1))=rP (V.take j)++[rq c]:=by rw[h];simp[rP]
 cases hQ:rP (V.take j) with
 |nil=>
  rw[hQ,List.nil_append] at d;simp only[kR];refine ae (q_z 10 ?_);refine cT (am (ae (ah (r_c 3 (l) ?_))));refine a_z ?_;refine ae (q_z 4 ?_);refine cF (am (ae (q_z 4 ?_)));refine cT (r_d aT 7 ?_);refine a_3 ?_;refine i_x f ?_;refine l_x f ?_;refine c_s (m2) ?_;refine a_1 ?_;refine ao (n_k ?_);refine r_m 5 ?_;refine a_z ?_;refine r_m 3 ?_;refine a_z ?_;refine⟨j+1,by omega,by omega,?_⟩;rw[d,dC];exact s_f [(1,5)]
 |cons q Q=>
  rw[hQ] at k;rw[hQ,List.cons_append] at d;simp at k;simp only[dC];refine ae (q_z 10 ?_);refine cT (am (ae (ah (r_c 3 (l) ?_))));refine a_z ?_;refine ae (q_z 4 ?_);refine cF (am (ae (q_z 4 ?_)));refine cT (r_d aT 7 ?_);refine a_3 ?_;refine i_x f ?_;refine l_x f ?_;refine c_s (m2) ?_;refine a_1 ?_;refine ao (n_k ?_);refine r_m 5 ?_;refine a_z ?_;refine r_m 3 ?_;refine a_z ?_;refine⟨j+1,by omega,by omega,?_⟩;rw[d,dC];have e:rE (q::Q)++[rC (rq c)]=rE (q::(Q++[rq c])):=by simp[rE]
  exact s_x [(1,5)] (fun hs=>dJ) (fun hs=>Kb) e_2
 have A:V.take j=V:=List.take_of_length_le (by omega);rw[A];cases hQ:rP V with
 |nil=>
  simp only[kR];refine ae (q_z 10 ?_);refine cF (aw ⟨(),trivial,?_⟩);exact s_e []
 |cons q Q=>
  simp only[dC];refine ae (q_z 10 ?_);refine cF (aw ⟨(),trivial,?_⟩);exact s_f [(1,5)]
 rintro _ _;have n:=gE (rP V) (by simp;omega);rw[oX] at n;cases hQ:rP V with
 |nil=>
  rw[hQ] at n;simp only[kR];refine r_c 3 (n) ?_;refine a_z ?_;refine aj (aM rfl ?_ ?_);rw[z];rfl;exact aY _
 |cons q Q=>
  rw[hQ] at n;simp only[dC];refine s_r 3 ?_;refine a_1 ?_;refine o_1 (.callS1 rfl rfl rfl (.shut rfl d_n (.nil)) rfl ((FSpec.argE n (by rw[List.drop_zero];exact List.take_of_length_le (by simp))))) ?_;refine a_z ?_;refine aj (aM rfl ?_ ?_);rw[z];rfl;exact aY _
theorem CH:rq (((-1:Int)):Rat)=rq (-1):=rfl
theorem Bd(x y:List RQ)(s t:Nat)(hx:okX x)(hy:okX y)(hs:bdL (vR x) s)(ht:bdL (vR y) t)(ht1:1<=t)(hlim:s+t+128<=1099511627776)(hxl:x.length<=1000000)(hyl:y.length<=1000000):FS 20 [.arr (rE x),.arr (rE y)] (.arr (rE (rP (dP (vR x) (vR y))))):=by
 have a:=iW (-1) (by decide);rw[CH] at a;have q1:qs (rq (-1)).1<=64:=by decide
 have d:=lx y (rq (-1)) t hy (cK _) ht (by omega) hyl
 have hb:bdL (vR (rP (a7 (vR y) (rq (-1)).1))) t:=by
  rw[c6];exact F1 ht ht1
 have c:(rP (a7 (vR y) (rq (-1)).1)).length<=y.length:=by
  have:=bw (aJ (vR y).length fun i=>coP (vR y) i* (rq (-1)).1);rw[rn];unfold a7;simp at this⊢;exact this
 have b:=vh x (rP (a7 (vR y) (rq (-1)).1)) s t hx (fq _) hs hb (by omega) hxl (by omega);rw[c6] at b;refine f_c Tryz.func20 ?_;refine r_z 1 ?_;refine r_c 6 (a) ?_;refine c_s (d) ?_;refine c_s (b) ?_;refine a_z ?_;exact aj (t_e (aY _))
theorem uT{x y:List RQ}(hx:okX x)(hy:okX y):okX (x++y):=fun z a=>(List.mem_append.1 a).elim (hx z) (hy z)
theorem wT(n:Nat):okX (List.replicate n r0):=fun z a=>by rw[List.eq_of_mem_replicate a];exact CL
theorem qX(x y:List RQ):vR (x++y)=vR x++vR y:=by simp[vR]
theorem ud(n:Nat):vR (List.replicate n r0)=List.replicate n 0:=by simp[vR,r0]
def zR4:La:=[i64 0,.emp,i64 0,.emp]
theorem le_zR4:LeL zR4 (rC r0):=by
 rw[show rC r0=[i64 0,.arr [],i64 0,.arr []] from rC_r0];exact .cons (.refl _) (.cons .emp (.cons (.refl _) (.cons .emp .nil)))
theorem DU:∀c∈zR4,Closed c:=ac (ag _) (ac b9 (ac (ag _) (ac b9 af)))
theorem u5(L:List RQ):∀n,LeLL (List.replicate n zR4++rE L) (rE (List.replicate n r0++L))
 |0=>LeLL.refl _
 |n+1=> .cons le_zR4 (u5 L n)
theorem zK(n:Nat)(L:List RQ):Closed (.arr (List.replicate n zR4++rE L)):=aG fun c a=>(List.mem_append.1 a).elim (fun h=>by rw[List.eq_of_mem_replicate h];exact DU) (cC L c)
theorem FSpec.zerosR{P:Program}{f n:Nat}{L:List RQ}{a r:AV}(h:FSpec P f [a,.arr (rE (List.replicate n r0++L))] r)(ha:Closed a):FSpec P f [a,.arr (List.replicate n zR4++rE L)] r:=
 h.weak (.cons (Le.refl _) (.cons (Le.arr (u5 L n)) .nil)) (ac ha (ac (zK n L) af))
theorem En(n:Nat):(List.replicate n zR4).all (·.all AV.one)=true:=by
 simp only[List.all_replicate];cases n <;> rfl
theorem Jx(x y:List RQ)(s t B:Nat)(hx:okX x)(hy:okX y)(hs:bdL (vR x) s)(ht:bdL (vR y) t)(hs1:1<=s)(hB:∀n,n<=y.length->bdL (mR (vR x) (vR y) n) B)(hlim:s+t+B+64<=1099511627776)(hxl:x.length<=100000)(hyl:y.length<=100000):FS 61 [.arr (rE x),.arr (rE y)] (.arr (rE (rP (aX (vR x) (vR y))))):=by
 obtain⟨m,c⟩:∃m,m=mR (vR x) (vR y):=⟨_,rfl⟩;rw[<-c] at hB;refine f_c Tryz.func61 ?_;refine r_z 1 ?_;refine r_z 1 ?_;refine ae (r_z 1 ?_);refine aC (fun _:Unit=>⟨[(5,.arr (rE (rP (m y.length)))),(0,.arr (rE x)),(1,.arr (rE y))],[],1,25⟩) (fun _=>True) ?_ ?_;refine ah (ax (fun j:Nat=>⟨[(6,i64 ((j:Nat):Int)),(5,.arr (rE (rP (m j)))),(0,.arr (rE x)),(1,.arr (rE y))],[],1,25⟩) (fun j=>y.length- j) (fun j=>j<=y.length) 0 (Nat.zero_le _) ?_ ?_);rw[c];exact s_e [];rintro j A;by_cases hlt:j< y.length
 ·obtain⟨b,hb,f⟩:=kJ (x:=y) (i:=j) hlt
  have w:=oU ht hb;have g:=hy b (List.mem_of_getElem? hb);have a:(rE y)[((j:Nat):Int).toNat]?=some (rC b):=gX hb;have u:=lx x b s hx g hs (by omega) (by omega);have o:=I7 (vR x) (vR y) j;rw[<-c,cO] at o;have k:=b8 (vR x) b.1;rw[cO] at k
  have v:bdL (vR (List.replicate j r0++rP (a7 (vR x) b.1))) (s+qs b.1):=by
   rw[qX,ud,c6];intro q r;rcases List.mem_append.1 r with h|h
   rw[List.eq_of_mem_replicate h];have:qs 0=1:=by decide
   omega;exact Ea hs hs1 q h
  have p:=vh (rP (m j)) (List.replicate j r0++rP (a7 (vR x) b.1)) B (s+qs b.1) (fq _) (uT (wT _) (fq _)) (by rw[c6];exact hB j (by omega)) v (by omega) (by rw[rn];omega) (by rw[List.length_append,List.length_replicate,rn];omega)
  have l:fy (vR (rP (m j))) (vR (List.replicate j r0++rP (a7 (vR x) b.1)))=m (j+1):=by
   rw[c6,qX,ud,c6,c,mR,<-f];rfl
  rw[l] at p;refine ae (q_z 4 ?_);refine cT (am (ae (ah ?_)));have z:=FSpec.zerosR p (aY _);refine r_d aT 12 ?_;refine a_6 ?_;refine i_x a ?_;refine l_x a ?_;refine c_s (u) ?_;refine o_2 (.append_l rfl rfl rfl te_37.h rfl rfl rfl rfl rfl d_o (En _) (eg _) rfl (.arr (tv _)) TZ.h rfl TB.h d_o (by first|(simp[maxLen];done)|(simp[maxLen];omega))) ?_;refine o_1 (.callS1 rfl rfl rfl (.keep (.shut rfl d_n (.nil))) rfl ((FSpec.argE2 z (by rw[List.drop_zero];exact List.take_of_length_le (by simp))))) ?_;refine a_1 ?_;refine ao (n_k ?_);refine r_m 3 ?_;refine a_z ?_;refine⟨j+1,by omega,hlt,?_⟩;exact s_e []
 have d:j=y.length:=by omega
 subst d;refine ae (q_z 4 ?_);refine cF (aw ⟨(),trivial,?_⟩);exact s_e [];rintro _ _;refine r_z 2 ?_;refine aj ?_;have e:m y.length=aX (vR x) (vR y):=by rw[c,<-mR_mul,cO]
 rw[e];exact t_e (aY _)
theorem CvLL.zerosR{r:Ren}{hp hp':Hq}(h:Shr r hp hp')(L:List RQ):∀n,CvLL r hp hp' (List.replicate n zR4++rE L) (rE (List.replicate n r0++L))
 |0=>aV h (cC L)
 |n+1=>by
  refine CvLL.cons (ys:=rE (List.replicate n r0++L)) ?_ (CvLL.zerosR h L n);show CvL r hp hp' zR4 (rC r0);rw[rC_r0];exact ak (ai h (ag _)) (ak (Cv.emp _) (ak (ai h (ag _)) (ak (Cv.emp _) aq)))
theorem Cv.shutZ{r:Ren}{hp hp':Hq}{id sz n k:Nat}{cap:Option Nat}{c:Rat}{B:ABlk}(h:Shr r hp hp')(hi:cZ hp id=some B)(hi':sH r hp' id)(he:B.es=List.replicate k zR4++[rC (rq c)])(hn:n=k+1):Cv r hp hp' (.lsl id 0 n cap sz) (.arr (rE (List.replicate k r0++[rq c]))):=by
 subst hn;refine Cv.shut h hi hi' (by rw[he];simp) ?_;rw[he,List.drop_zero,List.take_of_length_le (by simp)];exact CvLL.zerosR h [rq c] k


theorem IC{x:Rat}{t:Nat}(h:qs x<=t):∀n,qs (x^ n)<=n* t+1
 |0=>by rw[Rat.pow_zero];exact Nat.le_trans (by decide:qs 1<=1) (Nat.le_add_left 1 _)
 |n+1=>by
  have a:=IC h n;have b:=dS (x^ n) x;rw[Rat.pow_succ,Nat.succ_mul];omega
def evS(x:List RQ)(a:RQ):Nat×Rat×Rat->AState
 |(i,o,w)=>⟨[(0,.arr (rE x)),(3,.lptr 1 0 0),(4,.lptr 2 0 0),(5,.lptr 3 0 0),(6,.lptr 4 0 0),(7,i64 i)],[(1,some ⟨55,4,[rC a]⟩),(2,some ⟨55,4,[zR4]⟩),(3,some ⟨55,4,[rC (rq o)]⟩),(4,some ⟨55,4,[rC (rq w)]⟩)],5,28⟩
theorem Be(x:List RQ)(a:RQ)(s t:Nat)(hx:okX x)(ha:rok a)(hs:bdL (vR x) s)(hs1:1<=s)(ht:qs a.1<=t)(hlim:(x.length+2) * (s+t+1)<=137438953472)(hl:x.length<=1000000):
    FS 119 [.arr (rE x),.agg (rC a)] (.agg (rC (rq (aE (vR x) a.1)))):=by
 have n:FS 54 [i64 0] (.agg (rC (rq 0))):=iW 0 (by decide);have j:FS 54 [i64 1] (.agg (rC (rq 1))):=iW 1 (by decide);have k:=cO x;refine f_c Tryz.func119 ?_;refine r_z 2 ?_;refine r_c 6 (n) ?_;refine c_s (j) ?_;refine a_z ?_;refine ae (r_z 1 ?_);refine aC (fun _:Unit=>⟨[(4,.lptr 1 0 0),(5,.lptr 2 0 0)],[(1,some ⟨55,4,[zR4]⟩),(2,some ⟨55,4,[rC (rq (aE (vR x) a.1))]⟩)],3,28⟩) (fun _=>True) ?_ ?_;refine ah (ax (evS x a) (fun y=>x.length- y.1) (fun y=>y.1<=x.length/\y.2.1=aE ((vR x).take y.1) a.1/\y.2.2=a.1^ y.1) (0,0,1) ⟨Nat.zero_le _,rfl,(Rat.pow_zero _).symm⟩ ?_ ?_);simp only[evS.eq_1];exact s_e [(1,3),(2,4),(3,5),(4,6)];rintro⟨i,o,w⟩ ⟨z,d,f⟩;simp only at z d f;rw[evS.eq_1];refine ae (r_z 4 ?_);refine ap rfl (fun h=>?_) (fun h=>?_);refine am ?_;have b:i< x.length:=by simpa using h
 obtain⟨y,r,e⟩:=kJ b;have p:=List.mem_of_getElem? r;have c:(rE x)[((i:Nat):Int).toNat]?=some (rC y):=gX r;have A:=ej hs hs1 i;rw[<-e] at A;have hp:=IC ht i;rw[<-f] at hp;have m:=j7 ht (l:=(vR x).take i) (s:=s) fun q v=>hs q (List.mem_of_mem_take v);rw[<-d,List.length_take,k,Nat.min_eq_left (by omega)] at m;have e1:(i+1) * (s+t+1)<=(x.length+1) * (s+t+1):=Nat.mul_le_mul_right _ (by omega);have e2:(x.length+2) * (s+t+1)=(x.length+1) * (s+t+1)+(s+t+1):=Nat.succ_mul _ _;have B:(i+1) * (s+t+1)=i* (s+t+1)+(s+t+1):=Nat.succ_mul _ _;have C:i* t<=i* (s+t+1):=Nat.mul_le_mul_left _ (by omega);have m1:=n0 y (rq w) (hx y p) (cK _) (by show qs y.1+qs w<=_;omega);have q1:=dS y.1 w;have m2:=n3 (rq o) (rq (y.1* w)) (cK _) (cK _) (by show qs o+qs (y.1* w)<=_;omega);have u:=n0 (rq w) a (cK _) ha (by show qs w+qs a.1<=_;omega);refine ae (ah (ae (r_d aT 9 ?_)));refine a_3 ?_;refine i_x c ?_;refine l_x c ?_;refine c_s (m1) ?_;refine c_s (m2) ?_;refine a_1 ?_;refine ao (n_k ?_);refine r_m 4 ?_;refine c_s (u) ?_;refine a_z ?_;refine r_m 3 ?_;refine a_z ?_;refine⟨(i+1,o+y.1* w,w* a.1),by simp only;omega,⟨b,?_,by simp only;rw[f,Rat.pow_succ]⟩,?_⟩;simp only;rw[vC _ _ _ (by omega),<-d,e,f];simp only[evS.eq_1];exact s_e []
 have g:i=x.length:=by
  have:¬i< x.length:=by simpa using h
  omega
 subst g;rw[List.take_of_length_le (by omega)] at d;subst d;refine aw ⟨(),trivial,?_⟩;exact s_e [(1,4),(2,5)];rintro _ _;refine r_z 2 ?_;exact aj (c_e (eU _))

end Go.Proofs.YtiodeiecpoopgaaGreatDoor
