/- Part W21 of the proof. -/
import Derived.Test.YtjkddcfoolilbaaGreatDoorW20
set_option linter.all false
namespace Go.Proofs.YtjkddcfoolilbaaGreatDoor
open Go.Abs
set_option maxRecDepth 20000
set_option maxHeartbeats 1000000
theorem b7_(l:List Rat)(hl:l.length≤1099511627776):FS 23 [.arr (pE l)] (i64 (degP l)):=by
 have:=bc_ l;refine f_c Tryz.func23 ?_;refine r_z 1 ?_;refine r_c 5 (cf_ l hl) ?_;refine a_z ?_;exact ag_ (t_e (ad_ _))
theorem kR_(l:List Rat)(hl:l.length≤1099511627776):FS 24 [.arr (pE l)] (.agg (qC (leadP l))):=by
 have hlen:=bc_ l;refine f_c Tryz.func24 ?_;refine r_z 1 ?_;refine r_c 3 (cf_ l hl) ?_;refine a_z ?_;refine ab_ (r_z 3 ?_);refine aj_ rfl (fun h=>?_) (fun h=>?_)
 have h0:trimQ l=[]:=by
  have h1:(trimQ l).length=0:=by simpa using h
  exact List.length_eq_zero_iff.1 h1
 rw[iH_ h0];refine r_z 2 ?_;refine ag_ (Fin.cell rfl rfl rfl TG.h TS.h (nle rfl) (Cv.agg ?_));rw[qC0];exact ae_ (Cv.emp _) (ae_ (ai_ as_ (ad_ _)) (ae_ (Cv.emp _) am_))
 obtain⟨n,hn⟩:∃n,(trimQ l).length=n+1:=⟨(trimQ l).length- 1,by
  have h1:¬(trimQ l).length=0:=by simpa using h
  omega⟩
 have hg:(pE (trimQ l))[(((trimQ l).length:Int)- 1).toNat]?=some (qC (leadP l)):=by
  rw[hn,show(((n+1:Nat):Int)- 1).toNat=n by omega];exact pE_get (cB_ hn)
 refine ah_ (s_r 7 ?_);refine a_4 ?_;refine i_x hg ?_;refine l_x hg ?_;refine a_z ?_;exact ag_ (c_e (aC_ _))
theorem fs_at(l:List Rat)(i:Nat):FS 88 [.arr (pE l),i64 i] (.agg (qC (coP l i))):=by
 refine f_c Tryz.func88 ?_;refine r_z 1 ?_;refine ab_ (r_z 4 ?_);refine aj_ rfl (fun h=>?_) (fun h=>?_);have hlt:i< l.length:=by simpa using h
 have hg:(pE l)[((i:Nat):Int).toNat]?=some (qC (coP l i)):=pE_get (bo_ hlt);refine s_r 5 ?_;refine a_2 ?_;refine i_x hg ?_;refine l_x hg ?_;refine a_z ?_;exact ag_ (c_e (aC_ _));have hge:l.length≤i:=by simpa using h
 rw[ec_ hge];refine ah_ (r_z 2 ?_);refine ag_ (Fin.cell rfl rfl rfl TG.h TS.h (nle rfl) (Cv.agg ?_));rw[qC0];exact ae_ (Cv.emp _) (ae_ (ai_ as_ (ad_ _)) (ae_ (Cv.emp _) am_))
theorem eE_set{n i e:Nat}{f:Nat→Rat}(h:i< n)(he:e=i):(pE (tabP i f)++List.replicate (n- i) zC).set e (qC (f i))=pE (tabP (i+1) f)++List.replicate (n- (i+1)) zC:=by
 subst he;obtain⟨k,rfl⟩:∃k,n=e+1+k:=⟨n- (e+1),by omega⟩;rw[show e+1+k- e=k+1 by omega,show e+1+k- (e+1)=k by omega,List.replicate_succ,List.set_append_right _ _ (by simp)];simp[tabP,List.range_succ,pE]
theorem eE_get{n i e:Nat}{f:Nat→Rat}(h:i< n)(he:e=i):(pE (tabP i f)++List.replicate (n- i) zC)[e]?=some zC:=by
 subst he;rw[List.getElem?_append_right (by simp),List.getElem?_replicate,if_pos (by simp;omega)]
theorem jf_(n i:Nat)(f:Nat→Rat):∀e∈pE (tabP i f)++List.replicate (n- i) zC,∀c∈e,Closed c:=by
 intro e he;rcases List.mem_append.1 he with he|he
 exact aG_ _ e he;rw[List.eq_of_mem_replicate he];exact gw_
def eachS(n:Nat)(f:Nat→Rat)(g:Nat)(cap:List AV):Nat→AState
 |i=>⟨[(1,.clos g [] cap),(5,.lsl 1 0 n (some n) 3),(10,i64 n),(11,i64 i)],[(1,some ⟨46,3,pE (tabP i f)++List.replicate (n- i) zC⟩)],2,23⟩
theorem kJ_(n:Nat)(f:Nat→Rat)(g:Nat)(cap:List AV)(hn:n≤1099511627776)(hcap:∀c∈cap,Closed c)(hg:∀i,i< n→FS g ((i64 i::cap).map coe) (.agg (qC (f i)))):FS 86 [i64 n,.clos g [] cap] (.arr (pE (trimQ (tabP n f)))):=by
 refine f_n Tryz.func86 ?_ ?_;exact aa_ (ad_ _) (aa_ (aE_ ac_ hcap) ac_);refine r_z 1 ?_;refine r_z 3 ?_;refine ab_ (r_z 3 ?_);refine av_ (fun _:Unit=>eachS n f g cap n) (fun _=>True) ?_ ?_;refine af_ (aq_ (eachS n f g cap) (fun i=>n- i) (fun i=>i≤n) 0 (Nat.zero_le _) ?_ ?_);simp only[eachS.eq_1];refine s_x [(1,5)] (fun hs=>e_4) (fun hs=>?_)
 ·repeat' (first|exact au_|refine h_c ?_ ?_|exact ay_ hs rfl (jf_ n 0 f)|exact au_e|refine ar_ ?_|exact am_|refine ae_ ?_ ?_|exact ai_ hs (aE_ ac_ hcap)|exact au_c)
 rintro i hi;rw[eachS.eq_1];refine r_z 1 ?_;refine ab_ (aj_ rfl (fun h=>?_) (fun h=>?_));refine ah_ ?_;have hlt:i< n:=by simpa using h
 refine ab_ (af_ (r_z 2 ?_));refine r_m 7 ?_;refine c_s (hg i hlt) ?_;refine a_1 ?_;refine o_1n (.store rfl rfl (eE_get hlt (Nat.zero_add i)) rfl rfl rfl TS.h (nle rfl)) ?_;refine ak_ ?_;refine r_m 2 ?_;refine a_z ?_;refine⟨i+1,by omega,hlt,?_⟩;simp only[eachS.eq_1];refine s_x [] (fun hs=>e_4) (fun hs=>?_)
 ·repeat' (first|exact au_|refine h_c ?_ ?_|exact ay_ hs (eE_set hlt (Nat.zero_add i)) (jf_ n (i+1) f)|exact au_e|refine ar_ ?_|exact am_|refine ae_ ?_ ?_|exact ai_ hs (aE_ ac_ hcap)|exact au_c)
 have hge:i=n:=by
  have:¬i< n:=by simpa using h
  omega
 subst hge;refine ao_ ⟨(),trivial,?_⟩;simp only[eachS.eq_1];refine s_x [] (fun hs=>e_4) (fun hs=>?_)
 ·repeat' (first|exact au_|refine h_c ?_ ?_|exact aU_ hs (jf_ i i f)|exact au_e|refine ar_ ?_|exact am_|refine ae_ ?_ ?_|exact ai_ hs (aE_ ac_ hcap)|exact au_c)
 rintro _ _;rw[eachS.eq_1]
 have hfull:List.take n (List.drop 0 (pE (tabP n f)++List.replicate (n- n) zC))=pE (tabP n f):=by
  rw[Nat.sub_self,List.replicate_zero,List.append_nil,List.drop_zero,List.take_of_length_le (by simp)]
 refine s_r 3 ?_;refine a_1 ?_;refine o_1 (.callS1 rfl rfl rfl (.shut rfl d_n (.nil)) rfl ((by rw[hfull];exact cf_ (tabP n f) (by simp;exact hn)))) ?_;refine a_z ?_;exact ag_ (t_e (ax_ (aG_ _)))
section
variable {P:Go.Program}{T:Nat}{x y:Operand}
theorem oX_{l m:List UInt8}:∀w,(do eqGuard .neq T x y (.string ⟨l.toArray⟩) (.string ⟨m.toArray⟩);binOp .neq T (.string ⟨l.toArray⟩) (.string ⟨m.toArray⟩):Sem Value).run P w= .ok (.bool (!decide (l=m))) w:=fun w=>by
 rw[oW_];congr 2
 have e:∀l:List UInt8,(⟨l.toArray⟩:ByteArray).toList=l:=by
  intro l;have:=ByteArray.toList_eq (bs:=⟨l.toArray⟩);simpa using this
 rw[e,e];rw[Bool.eq_iff_iff];simp
end
def sgnTx(o:Option (List UInt8))(c:Rat):Option (List UInt8):=
 match o with
 |none=>if c< 0 then some [45] else none
 |some s=>if c< 0 then some (s++[32,45,32]) else some (s++[32,43,32])
def wrO(o:Option (List UInt8))(t:List UInt8):Option (List UInt8):=some (o.getD []++t)
def fz_(o:Option (List UInt8))(t:List UInt8):Option (List UInt8):=if t=[49] then o else wrO o (t++[32])
def ig_(tq:Rat→List UInt8)(ti:Nat→List UInt8)(o:Option (List UInt8))(c:Rat)(n:Nat):Option (List UInt8):=
 if n=0 then wrO (sgnTx o c) (tq (absQ c))
 else if 1< n then wrO (wrO (fz_ (sgnTx o c) (tq (absQ c))) [120]) ([94]++ti n) else wrO (fz_ (sgnTx o c) (tq (absQ c))) [120]
def textR(tq:Rat→List UInt8)(ti:Nat→List UInt8)(p:List Rat):Nat→Option (List UInt8)→Option (List UInt8)
 |0,o=>o
 |n+1,o=>textR tq ti p n (if coP p n=0 then o else ig_ tq ti o (coP p n) n)
def textG(tq:Rat→List UInt8)(ti:Nat→List UInt8)(p:List Rat):List UInt8:=(textR tq ti (trimQ p) (trimQ p).length none).getD [48]
def textP(p:List Rat):List UInt8:=textG textQ dec2 p
def okPT(p:List Rat):Prop:=p.length≤1000∧(trimQ p).length≤99∧(∀c∈trimQ p,okT c)
instance (p:List Rat):Decidable (okPT p):=inferInstanceAs (Decidable (_∧_∧_))
def pb0(p:List Rat):Int→AState
 |n=>⟨[(0,.arr (pE p)),(3,.lptr 1 0 0),(4,i64 n)],[(1,some ⟨174,2,[bldC 1 2 none]⟩)],4,67⟩
def pb1(p:List Rat):Int×List UInt8→AState
 |(n,s)=>⟨[(0,.arr (pE p)),(3,.lptr 1 0 0),(4,i64 n)],[(1,some ⟨174,2,[bldC 1 2 (some s)]⟩),(2,some ⟨5,1,bE s⟩)],4,67⟩
def pbS(p:List Rat)(n:Int):Option (List UInt8)→AState
 |none=>pb0 p n
 |some s=>pb1 p (n,s)
def pc0(p:List Rat)(c:Rat):Int→AState
 |n=>⟨[(0,.arr (pE p)),(3,.lptr 1 0 0),(4,i64 n),(5,.lptr 3 0 0)],[(1,some ⟨174,2,[bldC 1 2 none]⟩),(3,some ⟨46,3,[qC c]⟩)],4,67⟩
def pc1(p:List Rat)(c:Rat):Int×List UInt8→AState
 |(n,s)=>⟨[(0,.arr (pE p)),(3,.lptr 1 0 0),(4,i64 n),(5,.lptr 3 0 0)],[(1,some ⟨174,2,[bldC 1 2 (some s)]⟩),(2,some ⟨5,1,bE s⟩),(3,some ⟨46,3,[qC c]⟩)],4,67⟩
def pcS(p:List Rat)(c:Rat)(n:Int):Option (List UInt8)→AState
 |none=>pc0 p c n
 |some s=>pc1 p c (n,s)
def pd0(p:List Rat)(t:List UInt8):Int→AState
 |n=>⟨[(0,.arr (pE p)),(3,.lptr 1 0 0),(4,i64 n),(6,tx t)],[(1,some ⟨174,2,[bldC 1 2 none]⟩)],4,67⟩
def pd1(p:List Rat)(t:List UInt8):Int×List UInt8→AState
 |(n,s)=>⟨[(0,.arr (pE p)),(3,.lptr 1 0 0),(4,i64 n),(6,tx t)],[(1,some ⟨174,2,[bldC 1 2 (some s)]⟩),(2,some ⟨5,1,bE s⟩)],4,67⟩
def pdS(p:List Rat)(t:List UInt8)(n:Int):Option (List UInt8)→AState
 |none=>pd0 p t n
 |some s=>pd1 p t (n,s)
def okOx(o:Option (List UInt8))(n:Nat):Prop:=∀s,o=some s→s≠[]∧s.length≤n
theorem kp_(n:Nat):okOx none n:=fun s h=>by cases h
theorem jF_{o:Option (List UInt8)}{n:Nat}{t:List UInt8}(h:okOx o n)(h0:t≠[]):okOx (wrO o t) (n+t.length):=by
 intro s hs;cases hs;cases o with
 |none=>exact⟨by simpa using h0,by simp⟩
 |some q=>exact⟨by simp[h0],by have:=(h q rfl).2;simp;omega⟩
theorem ob_{o:Option (List UInt8)}{n:Nat}(h:okOx o n)(c:Rat):okOx (sgnTx o c) (n+3):=by
 intro s hs;cases o with
 |none=>
  simp only[sgnTx] at hs;split at hs;cases hs;exact⟨by simp,by simp⟩;cases hs
 |some q=>
  have:=(h q rfl).2;simp only[sgnTx] at hs;split at hs <;> cases hs <;> exact⟨by simp,by simp;omega⟩
theorem dB_{o:Option (List UInt8)}{n m:Nat}(h:okOx o n)(hm:n≤m):okOx o m:=fun s hs=>⟨(h s hs).1,Nat.le_trans (h s hs).2 hm⟩
theorem textQ_ne(q:Rat):textQ q≠[]:=List.length_pos_iff.1 (textQ_len (q:=q)).2
theorem sgZ_neg(c:Rat):sgZ c.num< 0↔c< 0:=by
 rw[←iz_];unfold sgZ;split;omega;split <;> omega
theorem okT_abs{c:Rat}(h:okT c):okT (absQ c):=by
 rw[nw_];split;obtain⟨h1,h2⟩:=h;exact⟨by rw[Rat.neg_num];simpa using h1,by rw[Rat.neg_den];exact h2⟩;exact h
theorem rV_(tq:Rat→List UInt8)(ti:Nat→List UInt8)(L:Nat)(p:List Rat)(h1:p.length≤1000)(hL:L≤10000)(h3:∀c∈trimQ p,FS 38 [.agg (qC (absQ c))] (tx (tq (absQ c)))∧tq (absQ c)≠[]∧(tq (absQ c)).length≤L)(hI:∀n,n< (trimQ p).length→FS 104 [i64 n] (tx (ti n))∧(ti n).length≤20):FS 37 [.arr (pE p)] (tx (textG tq ti p)):=by
 have htr:=cf_ p (by omega);obtain⟨q,hq⟩:∃q,q=trimQ p:=⟨_,rfl⟩;have hR:textG tq ti p=(textR tq ti q q.length none).getD [48]:=by unfold textG;rw[hq]
 rw[hR];have h2:=bc_ p;rw[←hq] at htr h2 h3 hI;have hall:∀k,(q.length- k) * (L+30)≤10030000:=fun k=>Nat.mul_le_mul (show q.length- k≤1000 by omega) (show L+30≤10030 by omega);refine f_c Tryz.func37 ?_;refine r_z 1 ?_;refine r_z 1 ?_;refine r_c 3 (htr) ?_;refine a_z ?_;refine ab_ (r_z 4 ?_);refine av_ (pbS q (-1)) (fun o=>o=textR tq ti q q.length none∧okOx o 20000000) ?_ ?_;refine af_ (aq_ (fun x:Nat×Option (List UInt8)=>pbS q ((x.1:Int)- 1) x.2) (fun x=>x.1) (fun x=>x.1≤q.length∧textR tq ti q x.1 x.2=textR tq ti q q.length none∧okOx x.2 ((q.length- x.1) * (L+30))) (q.length,none) ⟨Nat.le_refl _,rfl,kp_ _⟩ ?_ ?_);show SEnt _ (pb0 q ((q.length:Int)- 1));rw[pb0.eq_1];exact s_e [(1,3)];rintro⟨n,o⟩ ⟨hn,hr,ho⟩;simp only at hn hr ho;cases n with
 |zero=>
  cases o with
  |none=>
   show AWp _ _ _ _ (pb0 q (((0:Nat):Int)- 1));rw[pb0.eq_1];refine ab_ (r_z 2 ?_);refine aj_ rfl (fun h4=>?_) (fun h4=>?_);exact absurd h4 (by simp);refine ao_ ⟨none,⟨hr,kp_ _⟩,?_⟩;show SEnt _ (pb0 q (-1));rw[pb0.eq_1];exact s_e []
  |some s=>
   show AWp _ _ _ _ (pb1 q (((0:Nat):Int)- 1,s));rw[pb1.eq_1];refine ab_ (r_z 2 ?_);refine aj_ rfl (fun h4=>?_) (fun h4=>?_);exact absurd h4 (by simp);refine ao_ ⟨some s,⟨hr,dB_ ho (by have:=hall 0;omega)⟩,?_⟩;show SEnt _ (pb1 q (-1,s));rw[pb1.eq_1];exact s_e []
 |succ n=>
  have hcn:((n+1:Nat):Int)- 1=(n:Int):=by omega
  rw[hcn];rw[textR] at hr;have hlt:n< q.length:=by omega
  obtain⟨c,hc⟩:∃c,c=coP q n:=⟨_,rfl⟩;rw[←hc] at hr;have hg:(pE q)[((n:Nat):Int).toNat]?=some (qC c):=by rw[Int.toNat_natCast,hc];exact pE_get (bo_ hlt)
  obtain⟨fT,htn,htl⟩:=h3 c (by rw[hc];exact List.mem_of_getElem? (bo_ hlt))
  have hm:(q.length- n) * (L+30)=(q.length- (n+1)) * (L+30)+(L+30):=by
   rw[show q.length- n=(q.length- (n+1))+1 by omega,Nat.add_mul,Nat.one_mul]
  obtain⟨B,hB⟩:∃B,B=(q.length- (n+1)) * (L+30):=⟨_,rfl⟩;have hmx:B≤10030000:=by rw[hB];exact hall _
  rw[←hB] at ho hm;obtain⟨t,ht⟩:∃t,t=tq (absQ c):=⟨_,rfl⟩;rw[←ht] at htn htl fT;obtain⟨fI,hd2⟩:=hI n hlt;refine aQ_ (fun _:Unit=>pbS q n o) (fun _=>True) ?_ ?_;cases o with
  |none=>
   show AWp _ _ _ _ (pb0 q n);rw[pb0.eq_1];refine r_z 2 ?_;refine aj_ rfl (fun h4=>?_) (fun h4=>?_);refine ah_ ⟨(),trivial,?_⟩;show SEnt _ (pb0 q n);rw[pb0.eq_1];exact s_e [];exact absurd h4 (by simp)
  |some s=>
   show AWp _ _ _ _ (pb1 q (n,s));rw[pb1.eq_1];refine r_z 2 ?_;refine aj_ rfl (fun h4=>?_) (fun h4=>?_);refine ah_ ⟨(),trivial,?_⟩;show SEnt _ (pb1 q (n,s));rw[pb1.eq_1];exact s_e [];exact absurd h4 (by simp)
  rintro _ _;refine aQ_ (pbS q n) (fun o'=>o'=(if c=0 then o else ig_ tq ti o c n)) ?_ ?_;refine af_ (aQ_ (fun _:Unit=>pcS q c n o) (fun _=>True) ?_ ?_);cases o with
  |none=>
   show AWp _ _ _ _ (pb0 q n);rw[pb0.eq_1];refine r_m 6 ?_;refine a_2 ?_;refine i_x hg ?_;refine l_x hg ?_;refine a_z ?_;refine⟨(),trivial,?_⟩;show SEnt _ (pc0 q c n);rw[pc0.eq_1];exact s_x [(3,5)] (fun hs=>au_f) (fun hs=>e_8)
  |some s=>
   show AWp _ _ _ _ (pb1 q (n,s));rw[pb1.eq_1];refine r_m 6 ?_;refine a_2 ?_;refine i_x hg ?_;refine l_x hg ?_;refine a_z ?_;refine⟨(),trivial,?_⟩;show SEnt _ (pc1 q c (n,s));rw[pc1.eq_1];exact s_x [(3,5)] (fun hs=>au_f) (fun hs=>e_8)
  rintro _ _;refine aQ_ (fun _:Unit=>pcS q c n o) (fun _=>c≠0) ?_ ?_;cases o with
  |none=>
   show AWp _ _ _ _ (pc0 q c n);rw[pc0.eq_1];refine r_c 3 (bt_ c) ?_;refine a_z ?_;refine aj_ rfl (fun h4=>?_) (fun h4=>?_);have h5:c=0:=sgZ_num_eq.1 (by simpa using h4);refine ao_ ⟨none,by rw[if_pos h5],?_⟩;show SEnt _ (pb0 q n);rw[pb0.eq_1];exact s_e [];have h5:c≠0:=fun e=>by have h6:=sgZ_num_eq.2 e;simp[h6] at h4
   refine ah_ ⟨(),h5,?_⟩;show SEnt _ (pc0 q c n);rw[pc0.eq_1];exact s_e []
  |some s=>
   show AWp _ _ _ _ (pc1 q c (n,s));rw[pc1.eq_1];refine r_c 3 (bt_ c) ?_;refine a_z ?_;refine aj_ rfl (fun h4=>?_) (fun h4=>?_);have h5:c=0:=sgZ_num_eq.1 (by simpa using h4);refine ao_ ⟨some s,by rw[if_pos h5],?_⟩;show SEnt _ (pb1 q (n,s));rw[pb1.eq_1];exact s_e [];have h5:c≠0:=fun e=>by have h6:=sgZ_num_eq.2 e;simp[h6] at h4
   refine ah_ ⟨(),h5,?_⟩;show SEnt _ (pc1 q c (n,s));rw[pc1.eq_1];exact s_e []
  rintro _ hc0;rw[if_neg hc0];have hsg:(sgZ c.num< 0)↔c< 0:=sgZ_neg c;refine aQ_ (pcS q c n) (fun o'=>o'=sgnTx o c) ?_ ?_;refine af_ ?_;cases o with
  |none=>
   show AWp _ _ _ _ (pc0 q c n);rw[pc0.eq_1];refine s_r 8 ?_;refine o_0 (.callR (s:=none) (j:=0) (tb:=0) rfl rfl rfl rfl rfl (fun _ h=>by cases h) (kQ_)) ?_;refine a_2 ?_;refine y_g rfl d_t (.load_l rfl rfl rfl TG.h TS.h (nle rfl)) ?_;refine y_g rfl d_t (.call rfl rfl rfl (bt_ c)) ?_;refine y_g rfl d_t (.bin rfl rfl aT_) ?_;refine o_0 (.pickT rfl d_t rfl) ?_;refine a_z ?_;refine aj_ rfl (fun h4=>?_) (fun h4=>?_);have h5:c< 0:=hsg.1 (by simpa using h4);refine r_m 1 ?_;refine o_2 (.callB (s:=none) (j:=0) rfl rfl rfl rfl rfl rfl (fun _ h=>by cases h) (er_ [45] (by simp) (by simp))) ?_;refine ak_ ?_;refine⟨some [45],by simp only[sgnTx];rw[if_pos h5],?_⟩;show SEnt _ (pc1 q c (n,[45]));rw[pc1.eq_1];exact s_z [(2,100012)] (fun hs=>au_f) (fun hs=>e_8);have h5:¬c< 0:=fun e=>by have h6:=hsg.2 e;simp[h6] at h4
   refine s_r 8 ?_;refine o_0 (.callR (s:=none) (j:=0) (tb:=0) rfl rfl rfl rfl rfl (fun _ h=>by cases h) (kQ_)) ?_;refine a_2 ?_;refine n_g rfl d_f ?_;refine n_g rfl d_f ?_;refine n_g rfl d_f ?_;refine o_0 (.pickF rfl d_f rfl) ?_;refine a_z ?_;refine cF (s_r 3 ?_);refine o_0 (.callR (s:=none) (j:=0) (tb:=0) rfl rfl rfl rfl rfl (fun _ h=>by cases h) (kQ_)) ?_;refine a_z ?_;refine aj_ rfl (fun h7=>?_) (fun h7=>?_);exact absurd h7 (by simp);refine ah_ ⟨none,by simp only[sgnTx];rw[if_neg h5],?_⟩;show SEnt _ (pc0 q c n);rw[pc0.eq_1];exact s_e []
  |some s=>
   have hsn:=(ho s rfl).1;have hsl:=(ho s rfl).2;have hs0:s.length≠0:=by simpa using hsn
   show AWp _ _ _ _ (pc1 q c (n,s));rw[pc1.eq_1];refine s_r 8 ?_;refine o_0 (.callR (s:=some _) rfl rfl rfl rfl rfl (fun _ h=>by cases h;exact rfl) (kP_ s)) ?_;refine a_2 ?_;refine n_g rfl (by simp;omega) ?_;refine n_g rfl (by simp;omega) ?_;refine n_g rfl (by simp;omega) ?_;refine o_0 (.pickF rfl (by simp;omega) rfl) ?_;refine a_z ?_;refine aj_ rfl (fun h4=>?_) (fun h4=>?_)
   ·first|(simp at h4;done)|(simp at h4;omega)|(simp at h4;exact absurd h4 hsn)
   refine s_r 8 ?_;refine o_0 (.callR (s:=some _) rfl rfl rfl rfl rfl (fun _ h=>by cases h;exact rfl) (kP_ s)) ?_;refine a_2 ?_;refine y_g rfl (by simp;omega) (.load_l rfl rfl rfl TG.h TS.h (nle rfl)) ?_;refine y_g rfl (by simp;omega) (.call rfl rfl rfl (bt_ c)) ?_;refine y_g rfl (by simp;omega) (.bin rfl rfl aT_) ?_;refine o_0 (.pickT rfl (by simp;omega) rfl) ?_;refine a_z ?_;refine aj_ rfl (fun h6=>?_) (fun h6=>?_);have h5:c< 0:=hsg.1 (by simpa using h6);refine r_m 1 ?_;refine o_3 (.callB (s:=some _) rfl rfl rfl rfl rfl rfl (fun _ h=>by cases h;exact⟨rfl,by decide⟩) (du_ s [32,45,32] (by simp;omega))) ?_;refine ak_ ?_;refine⟨some (s++[32,45,32]),by simp only[sgnTx];rw[if_pos h5],?_⟩;show SEnt _ (pc1 q c (n,s++[32,45,32]));rw[pc1.eq_1];exact s_z [(2,100020)] (fun hs=>au_f) (fun hs=>e_8);have h5:¬c< 0:=fun e=>by have h7:=hsg.2 e;simp[h7] at h6
   refine s_r 3 ?_;refine o_0 (.callR (s:=some _) rfl rfl rfl rfl rfl (fun _ h=>by cases h;exact rfl) (kP_ s)) ?_;refine a_z ?_;refine aj_ rfl (fun h7=>?_) (fun h7=>?_);refine r_m 1 ?_;refine o_3 (.callB (s:=some _) rfl rfl rfl rfl rfl rfl (fun _ h=>by cases h;exact⟨rfl,by decide⟩) (du_ s [32,43,32] (by simp;omega))) ?_;refine ak_ ?_;refine⟨some (s++[32,43,32]),by simp only[sgnTx];rw[if_neg h5],?_⟩;show SEnt _ (pc1 q c (n,s++[32,43,32]));rw[pc1.eq_1];exact s_z [(2,100023)] (fun hs=>au_f) (fun hs=>e_8)
   ·first|(simp at h7;done)|(simp at h7;omega)|(simp at h7;exact absurd h7 hsn)
  rintro o1 rfl;have ho1:=ob_ ho c;obtain⟨o1,ho1e⟩:∃o1,o1=sgnTx o c:=⟨_,rfl⟩;rw[←ho1e] at ho1⊢;refine aQ_ (fun _:Unit=>pdS q t n o1) (fun _=>True) ?_ ?_;cases o1 with
  |none=>
   show AWp _ _ _ _ (pc0 q c n);rw[pc0.eq_1];refine r_m 4 ?_;refine c_s (jN_ c) ?_;refine c_s (fT) ?_;refine a_z ?_;refine⟨(),trivial,?_⟩;show SEnt _ (pd0 q t n);rw[pd0.eq_1];exact s_e []
  |some s=>
   show AWp _ _ _ _ (pc1 q c (n,s));rw[pc1.eq_1];refine r_m 4 ?_;refine c_s (jN_ c) ?_;refine c_s (fT) ?_;refine a_z ?_;refine⟨(),trivial,?_⟩;show SEnt _ (pd1 q t (n,s));rw[pd1.eq_1];exact s_e []
  rintro _ _;refine aQ_ (fun _:Unit=>pdS q t n o1) (fun _=>n≠0) ?_ ?_;cases o1 with
  |none=>
   show AWp _ _ _ _ (pd0 q t n);rw[pd0.eq_1];refine r_z 2 ?_;refine aj_ rfl (fun h4=>?_) (fun h4=>?_);have h5:n=0:=by simpa using h4
   subst h5;refine s_r 2 ?_;refine a_1 ?_;refine o_2 (.callB (s:=none) (j:=0) rfl rfl rfl rfl rfl rfl (fun _ h=>by cases h) (er_ t htn (by omega))) ?_;refine ak_ ?_;refine ao_ ⟨some t,by unfold ig_;rw[if_pos rfl,←ho1e,←ht];rfl,?_⟩;show SEnt _ (pb1 q (((0:Nat):Int),t));rw[pb1.eq_1];exact s_z [(2,100007)] (fun hs=>au_f) (fun hs=>au_h);have h5:n≠0:=fun e=>by simp[e] at h4
   refine ah_ ⟨(),h5,?_⟩;show SEnt _ (pd0 q t n);rw[pd0.eq_1];exact s_e []
  |some s=>
   have hsl:=(ho1 s rfl).2;show AWp _ _ _ _ (pd1 q t (n,s));rw[pd1.eq_1];refine r_z 2 ?_;refine aj_ rfl (fun h4=>?_) (fun h4=>?_);have h5:n=0:=by simpa using h4
   subst h5;refine s_r 2 ?_;refine a_1 ?_;refine o_3 (.callB (s:=some _) rfl rfl rfl rfl rfl rfl (fun _ h=>by cases h;exact⟨rfl,by decide⟩) (du_ s t (by omega))) ?_;refine ak_ ?_;refine ao_ ⟨some (s++t),by unfold ig_;rw[if_pos rfl,←ho1e,←ht];rfl,?_⟩;show SEnt _ (pb1 q (((0:Nat):Int),s++t));rw[pb1.eq_1];exact s_z [(2,100007)] (fun hs=>au_f) (fun hs=>au_h);have h5:n≠0:=fun e=>by simp[e] at h4
   refine ah_ ⟨(),h5,?_⟩;show SEnt _ (pd1 q t (n,s));rw[pd1.eq_1];exact s_e []
  rintro _ hn0;refine aQ_ (pbS q n) (fun o'=>o'=fz_ o1 t) ?_ ?_;cases o1 with
  |none=>
   show AWp _ _ _ _ (pd0 q t n);rw[pd0.eq_1];refine s_r 2 ?_;refine a_1 ?_;refine o_0 (.bin rfl rfl (oX_ (m:=[49]))) ?_;refine ak_ ?_;refine aj_ rfl (fun h4=>?_) (fun h4=>?_);have h5:¬t=[49]:=by simpa using h4
   refine r_m 3 ?_;refine a_1 ?_;refine o_0 (.bin rfl rfl (cI_ (m:=[32]) (by simp;omega))) ?_;refine o_2 (.callB (s:=none) (j:=0) rfl rfl rfl rfl rfl rfl (fun _ h=>by cases h) (er_ (t++[32]) (by simp) (by simp;omega))) ?_;refine ak_ ?_;refine⟨some (t++[32]),by unfold fz_;rw[if_neg h5];rfl,?_⟩;show SEnt _ (pb1 q (n,t++[32]));rw[pb1.eq_1];exact s_z [(2,100008)] (fun hs=>au_f) (fun hs=>au_h);have h5:t=[49]:=by simpa using h4
   refine ah_ ⟨none,by unfold fz_;rw[if_pos h5],?_⟩;show SEnt _ (pb0 q n);rw[pb0.eq_1];exact s_e []
  |some s=>
   have hsl:=(ho1 s rfl).2;show AWp _ _ _ _ (pd1 q t (n,s));rw[pd1.eq_1];refine s_r 2 ?_;refine a_1 ?_;refine o_0 (.bin rfl rfl (oX_ (m:=[49]))) ?_;refine ak_ ?_;refine aj_ rfl (fun h4=>?_) (fun h4=>?_);have h5:¬t=[49]:=by simpa using h4
   refine r_m 3 ?_;refine a_1 ?_;refine o_0 (.bin rfl rfl (cI_ (m:=[32]) (by simp;omega))) ?_;refine o_3 (.callB (s:=some _) rfl rfl rfl rfl rfl rfl (fun _ h=>by cases h;exact⟨rfl,by decide⟩) (du_ s (t++[32]) (by simp;omega))) ?_;refine ak_ ?_;refine⟨some (s++(t++[32])),by unfold fz_;rw[if_neg h5];rfl,?_⟩;show SEnt _ (pb1 q (n,s++(t++[32])));rw[pb1.eq_1];exact s_z [(2,100008)] (fun hs=>au_f) (fun hs=>au_h);have h5:t=[49]:=by simpa using h4
   refine ah_ ⟨some s,by unfold fz_;rw[if_pos h5],?_⟩;show SEnt _ (pb1 q (n,s));rw[pb1.eq_1];exact s_e []
  rintro o2 ho2e
  have ho2:okOx o2 (B+L+4):=by
   rw[ho2e];unfold fz_;split;exact dB_ ho1 (by omega);exact dB_ (jF_ ho1 (t:=t++[32]) (by simp)) (by simp;omega)
  refine aQ_ (fun s=>pb1 q (n,s)) (fun s=>wrO o2 [120]=some s) ?_ ?_;cases o2 with
  |none=>
   show AWp _ _ _ _ (pb0 q n);rw[pb0.eq_1];refine r_m 1 ?_;refine o_2 (.callB (s:=none) (j:=0) rfl rfl rfl rfl rfl rfl (fun _ h=>by cases h) (er_ [120] (by simp) (by simp))) ?_;refine ak_ ?_;refine⟨[120],rfl,?_⟩;simp only[pb1.eq_1];exact s_z [(2,100004)] (fun hs=>au_f) (fun hs=>au_h)
  |some s=>
   have hsl:=(ho2 s rfl).2;show AWp _ _ _ _ (pb1 q (n,s));rw[pb1.eq_1];refine r_m 1 ?_;refine o_3 (.callB (s:=some _) rfl rfl rfl rfl rfl rfl (fun _ h=>by cases h;exact⟨rfl,by decide⟩) (du_ s [120] (by simp;omega))) ?_;refine ak_ ?_;refine⟨s++[120],rfl,?_⟩;simp only[pb1.eq_1];exact s_z [(2,100004)] (fun hs=>au_f) (fun hs=>au_h)
  rintro s hs3;have ho3:=jF_ ho2 (t:=[120]) (by simp) s hs3;have hsl:s.length≤B+L+5:=ho3.2;simp only[pb1.eq_1];refine r_z 2 ?_;refine aj_ rfl (fun h4=>?_) (fun h4=>?_);have h5:1< n:=by simp at h4;omega
  refine r_m 4 ?_;refine c_s (fI) ?_;refine o_0 (.bin rfl rfl (cI_ (l:=[94]) (by simp;omega))) ?_;refine o_3 (.callB (s:=some _) rfl rfl rfl rfl rfl rfl (fun _ h=>by cases h;exact⟨rfl,by decide⟩) (du_ s ([94]++ti n) (by simp;omega))) ?_;refine ak_ ?_;refine⟨some (s++([94]++ti n)),by unfold ig_;rw[if_neg hn0,if_pos h5,←ho1e,←ht,←ho2e,hs3];rfl,?_⟩;show SEnt _ (pb1 q (n,s++([94]++ti n)));rw[pb1.eq_1];exact s_z [(2,100009)] (fun hs=>au_f) (fun hs=>au_h);have h5:¬1< n:=by simp at h4;omega
  refine ah_ ⟨some s,by unfold ig_;rw[if_neg hn0,if_neg h5,←ho1e,←ht,←ho2e,hs3],?_⟩;show SEnt _ (pb1 q (n,s));rw[pb1.eq_1];exact s_e [];rintro o' ho'
  have hok':okOx o' (B+(L+30)):=by
   rw[ho'];split;exact dB_ ho (by omega);have g1:=ob_ ho c;unfold ig_;rw[←ht]
   have g2:okOx (fz_ (sgnTx o c) t) (B+L+4):=by
    unfold fz_;split;exact dB_ g1 (by omega);exact dB_ (jF_ g1 (t:=t++[32]) (by simp)) (by simp;omega)
   have g3:=jF_ g2 (t:=[120]) (by simp);split;exact dB_ (jF_ g1 htn) (by omega);split;exact dB_ (jF_ g3 (t:=[94]++ti n) (by simp)) (by simp;omega);exact dB_ g3 (by simp;omega)
  rw[←ho'] at hr;cases o' with
  |none=>
   show AWp _ _ _ _ (pb0 q n);rw[pb0.eq_1];refine r_m 3 ?_;refine a_z ?_;refine⟨(n,none),Nat.lt_succ_self n,⟨by simp only;omega,hr,kp_ _⟩,?_⟩;show SEnt _ (pb0 q ((n:Int)- 1));rw[pb0.eq_1];exact s_e []
  |some s=>
   show AWp _ _ _ _ (pb1 q (n,s));rw[pb1.eq_1];refine r_m 3 ?_;refine a_z ?_;refine⟨(n,some s),Nat.lt_succ_self n,⟨by simp only;omega,hr,by simp only;rw[hm];exact hok'⟩,?_⟩;show SEnt _ (pb1 q ((n:Int)- 1,s));rw[pb1.eq_1];exact s_e []
 rintro o ⟨rfl,ho⟩;cases ho2:textR tq ti q q.length none with
 |none=>
  show AWp _ _ _ _ (pb0 q (-1));rw[pb0.eq_1];refine ab_ (s_r 2 ?_);refine o_0 (.callR (s:=none) (j:=0) (tb:=0) rfl rfl rfl rfl rfl (fun _ h=>by cases h) (kQ_)) ?_;refine a_z ?_;refine aj_ rfl (fun h4=>?_) (fun h4=>?_);refine r_z 1 ?_;exact ag_ (t_e (ad_ _));exact absurd h4 (by simp)
 |some s=>
  have hs:=ho s ho2;have hsl:s.length≠0:=by have:=hs.1;simpa using this
  have hne:=hs.1;show AWp _ _ _ _ (pb1 q (-1,s));rw[pb1.eq_1];refine ab_ (s_r 2 ?_);refine o_0 (.callR (s:=some _) rfl rfl rfl rfl rfl (fun _ h=>by cases h;exact rfl) (kP_ s)) ?_;refine a_z ?_;refine aj_ rfl (fun h4=>?_) (fun h4=>?_);exact absurd h4 (by simp;omega);refine ah_ (s_r 2 ?_);refine o_2 (.callD rfl rfl rfl rfl rfl rfl (by decide) (by first|assumption|simp) (i8_)) ?_;refine a_z ?_;exact ag_ (t_e (ad_ _))
theorem kN_(p:List Rat)(h:okPT p):FS 37 [.arr (pE p)] (tx (textP p)):=by
 obtain⟨h1,h2,h3⟩:=h;exact rV_ textQ dec2 6 p h1 (by decide) (fun c hc=>⟨kM_ (absQ c) (okT_abs (h3 c hc)),textQ_ne _,textQ_len.1⟩) (fun n hn=>⟨nc_ n (by omega),Nat.le_trans (fp_ n) (by decide)⟩)
abbrev bP(p:List Rat):AV:= .aptr [[.arr (pE p)]] 0 0
abbrev bQ(q:Rat):AV:= .aptr [qC q] 0 0
theorem a2_(p:List Rat):Closed (bP p):=aM_ (aa_ (ap_ p) ac_)
theorem bf_(q:Rat):Closed (bQ q):=aM_ (aN_ q)
theorem fs_Add1(p q:List Rat)(i:Nat)(hp:smL p)(hq:smL q):FS 87 [i64 i,bP p,bP q] (.agg (qC (coP p i+coP q i))):=by
 refine f_c Tryz.func87 ?_;refine r_z 1 ?_;refine ab_ (r_d hmix 8 ?_);refine c_s (fs_at p i) ?_;refine c_s (fs_at q i) ?_;refine c_s (c6_ (coP p i) (coP q i) (sm2 (jY_ hp i) (jY_ hq i))) ?_;refine a_1 ?_;refine ak_ (n_k ?_);exact ag_ (c_e (aC_ _))
theorem i0_(p q:List Rat)(hp:smL p)(hq:smL q)(hp1:p.length≤1099511627776)(hq1:q.length≤1099511627776):FS 29 [.arr (pE p),.arr (pE q)] (.arr (pE (addP p q))):=by
 refine f_c Tryz.func29 ?_;refine r_z 3 ?_;refine AWp.ent (st':=⟨[(2,bP p),(3,bP q)],[],1,12⟩) ?_ ?_;exact s_e []
 have hm:(if ((q.length:Nat):Int)>(p.length:Nat) then((q.length:Nat):Int) else(p.length:Nat))=((max p.length q.length:Nat):Int):=by
  rw[Nat.max_def];split <;> split <;> omega
 have he:=kJ_ (max p.length q.length) (fun i=>coP p i+coP q i) 87 [bP p,bP q] (Nat.max_le.2 ⟨hp1,hq1⟩) (aa_ (a2_ p) (aa_ (a2_ q) ac_)) (fun i _=>fs_Add1 p q i hp hq);rw[←hm] at he;refine r_c 8 (he) ?_;refine a_z ?_;exact ag_ (t_e (ap_ _))
theorem rS_(p:List Rat)(k:Rat)(i:Nat)(hp:smL p)(hk:sm k)(hi:i< p.length):FS 90 [i64 i,bP p,bQ k] (.agg (qC (coP p i* k))):=by
 have hg:(pE p)[((i:Nat):Int).toNat]?=some (qC (coP p i)):=pE_get (bo_ hi);refine f_c Tryz.func90 ?_;refine r_z 1 ?_;refine ab_ (r_d hmix 7 ?_);refine a_2 ?_;refine i_x hg ?_;refine l_x hg ?_;refine c_s (bE_ (coP p i) k (sm2 (jY_ hp i) hk)) ?_;refine a_1 ?_;refine ak_ (n_k ?_);exact ag_ (c_e (aC_ _))
theorem d7_(p:List Rat)(k:Rat)(hp:smL p)(hk:sm k)(hp1:p.length≤1099511627776):FS 30 [.arr (pE p),.agg (qC k)] (.arr (pE (bd_ p k))):=by
 have he:=kJ_ p.length (fun i=>coP p i* k) 90 [bP p,bQ k] hp1 (aa_ (a2_ p) (aa_ (bf_ k) ac_)) (fun i hi=>rS_ p k i hp hk hi);refine f_c Tryz.func30 ?_;refine r_z 3 ?_;refine AWp.ent (st':=⟨[(2,bP p),(3,bQ k)],[],1,9⟩) ?_ ?_;exact s_e [];refine r_c 5 (he) ?_;refine a_z ?_;exact ag_ (t_e (ap_ _))
theorem dD_(a b:Rat)(hb:b≠0)(h:qs a+qs b≤549755813888):FS 171 [.agg (qC a),.agg (qC b)] (.agg (qC (a/ b))):=by
 refine f_c Tryz.func171 ?_;refine r_z 3 ?_;refine r_c 9 (rJ_ a b hb h) ?_;refine a_z ?_;refine r_z 2 ?_;exact ag_ (c_e (aC_ _))
theorem iU_(a:Rat):FS 211 [.agg (qC a)] (.arr (pE (cK_ a))):=by
 refine f_c Tryz.func211 ?_;refine r_z 2 ?_;refine s_r 4 ?_;refine a_2 ?_;refine o_1 (.callS1 rfl rfl rfl (.shut rfl d_n (.nil)) rfl ((cf_ [a] (by simp)))) ?_;refine a_z ?_;exact ag_ (t_e (ap_ _))
theorem fs_line(a:Rat):FS 169 [.agg (qC a)] (.arr (pE [a,1])):=by
 refine f_c Tryz.func169 ?_;refine r_z 2 ?_;refine ab_ (r_d hmix 4 ?_);refine c_s (cV_ 1 (by decide)) ?_;refine a_2 ?_;refine ak_ (n_k ?_);exact ag_ (Fin.tmpS rfl rfl rfl rfl (aG_ [a,1]))
theorem sm_neg1{a:Rat}(h:sm a):sm (a* (-1)):=by
 unfold sm at *
 rw[show a* (-1)= -a by rw[Rat.mul_comm,Rat.neg_mul,Rat.one_mul],dA_];exact h
theorem qs_inv(b:Rat)(hb:b≠0):qs (1/ b)≤qs b:=by
 rw[ja_ 1 b hb];have hn:b.num≠0:=fun e=>hb (Rat.num_eq_zero.1 e);have h1:=b5_ b;have h2:=bP_ b
 refine c0_ (by have:0< b.num.natAbs:=by omega
                show 0< 1* b.num.natAbs;omega) ?_ ?_
 show bl ((1:Int) * sgn (decide (b.num< 0)) b.den).natAbs≤qs b;rw[Int.one_mul,cS_];exact h2;show bl (1* b.num.natAbs)≤qs b;rw[Nat.one_mul];exact h1
theorem pb_{q:List Rat}(h:smL q):smL (bd_ q (-1)):=by
 refine kb_ fun x hx=>?_;obtain⟨i,_,rfl⟩:=List.mem_map.1 hx;exact sm_neg1 (jY_ h i)
theorem fs_Sub(p q:List Rat)(hp:smL p)(hq:smL q)(hp1:p.length≤1099511627776)(hq1:q.length≤1099511627776):FS 118 [.arr (pE p),.arr (pE q)] (.arr (pE (subP p q))):=by
 have hl:=db_ q (-1);refine f_c Tryz.func118 ?_;refine r_z 1 ?_;refine r_c 6 (cV_ (-1) (by decide)) ?_;refine c_s (d7_ q (-1) hq (by decide) hq1) ?_;refine c_s (i0_ p (bd_ q (-1)) hp (pb_ hq) hp1 (by omega)) ?_;refine a_z ?_;exact ag_ (t_e (ap_ _))
theorem kG_(p:List Rat)(hp:smL p)(hp1:p.length≤1099511627776):FS 262 [.arr (pE p)] (.arr (pE (fE_ p))):=by
 have hlead:=leadP_sm hp;refine f_c Tryz.func262 ?_;refine r_z 1 ?_;refine ab_ (r_c 3 (b7_ p hp1) ?_);refine a_z ?_;refine aj_ rfl (fun h=>?_) (fun h=>?_)
 have h0:trimQ p=[]:=by
  have h1:degP p< 0:=by simpa using h
  unfold degP at h1;exact List.length_eq_zero_iff.1 (by omega)
 refine r_z 1 ?_;refine ag_ ?_;unfold fE_;rw[if_pos h0];exact Fin.tmpN rfl
 have h0:trimQ p≠[]:=by
  intro e;have h1:¬degP p< 0:=by simpa using h
  unfold degP at h1;rw[e] at h1;exact h1 (by decide)
 have hne:=fi_ h0;have hinv:=qs_inv (leadP p) hne;unfold sm at hlead;have h1:qs 1=1:=by decide
 unfold fE_;rw[if_neg h0];refine ah_ (r_c 7 (cV_ 1 (by decide)) ?_);refine c_s (kR_ p hp1) ?_;refine c_s (dD_ 1 (leadP p) hne (by omega)) ?_;refine c_s (d7_ p (1/ leadP p) hp (by unfold sm;omega) hp1) ?_;refine a_z ?_;exact ag_ (t_e (ap_ _))
theorem nY_(i:Nat)(h:i≤1099511627776):qs (((i:Nat):Int):Rat)≤64:=by
 refine Nat.max_le.2 ⟨?_,?_⟩;show bl ((i:Int)).natAbs≤64;rw[Int.natAbs_natCast];exact bl_le (by omega);show bl 1≤64;decide
theorem pH_(p:List Rat)(i:Nat)(hp:smL p)(hi:i+1< p.length)(hp1:p.length≤1099511627776):FS 224 [i64 i,bP p] (.agg (qC (coP p (i+1) * ((i+1:Nat):Int)))):=by
 have hg:(pE p)[(((i:Nat):Int)+1).toNat]?=some (qC (coP p (i+1))):=by
  rw[show(((i:Nat):Int)+1).toNat=i+1 by omega];exact pE_get (bo_ hi)
 have hs:=jY_ hp (i+1);have hq:=nY_ (i+1) (by omega);unfold sm at hs;have hI:=cV_ (((i:Nat):Int)+1) (by omega);rw[show((i:Nat):Int)+1=((i+1:Nat):Int) by omega] at hI;refine f_c Tryz.func224 ?_;refine r_z 1 ?_;refine ab_ (r_d hmix 10 ?_);refine a_3 ?_;refine i_x hg ?_;refine l_x hg ?_;refine c_s (hI) ?_;refine c_s (bE_ (coP p (i+1)) ((i+1:Nat):Int) (by omega)) ?_;refine a_1 ?_;refine ak_ (n_k ?_);exact ag_ (c_e (aC_ _))
theorem iZ_(p:List Rat)(hp:smL p)(hp1:p.length≤1099511627776):FS 189 [.arr (pE p)] (.arr (pE (cq_ p))):=by
 have he:=kJ_ (p.length- 1) (fun i=>coP p (i+1) * ((i+1:Nat):Int)) 224 [bP p] (by omega) (aa_ (a2_ p) ac_) (fun i hi=>pH_ p i hp (by omega) hp1);have hm:(if (0:Int)>((p.length:Nat):Int)- 1 then(0:Int) else((p.length:Nat):Int)- 1)=((p.length- 1:Nat):Int):=by split <;> omega
 rw[←hm] at he;refine f_c Tryz.func189 ?_;refine r_z 2 ?_;refine AWp.ent (st':=⟨[(1,bP p)],[],1,9⟩) ?_ ?_;exact s_e [];refine r_c 7 (he) ?_;refine a_z ?_;exact ag_ (t_e (ap_ _))
theorem l3_(p:List Rat)(i:Nat)(hp:smL p)(hi:i< p.length+1)(hp1:p.length≤1099511627775):FS 170 [i64 i,bP p] (.agg (qC (if i=0 then 0 else coP p (i- 1) / ((i:Nat):Int)))):=by
 refine f_c Tryz.func170 ?_;refine r_z 1 ?_;refine ab_ (r_z 2 ?_);refine aj_ rfl (fun h=>?_) (fun h=>?_)
 have h0:i=0:=by
  have h1:(i:Int)=0:=by simpa using h
  omega
 rw[if_pos h0];refine r_z 2 ?_;refine ag_ (Fin.cell rfl rfl rfl TG.h TS.h (nle rfl) (Cv.agg ?_));rw[qC0];exact ae_ (Cv.emp _) (ae_ (ai_ as_ (ad_ _)) (ae_ (Cv.emp _) am_))
 have h0:i≠0:=by
  intro e;have h1:¬(i:Int)=0:=by simpa using h
  omega
 rw[if_neg h0]
 have hg:(pE p)[(((i:Nat):Int)- 1).toNat]?=some (qC (coP p (i- 1))):=by
  rw[show(((i:Nat):Int)- 1).toNat=i- 1 by omega];exact pE_get (bo_ (by omega))
 have hs:=jY_ hp (i- 1);have hq:=nY_ i (by omega);unfold sm at hs;refine ah_ (ab_ (r_d hmix 9 ?_));refine a_3 ?_;refine i_x hg ?_;refine l_x hg ?_;refine c_s (cV_ ((i:Nat):Int) (by omega)) ?_;refine c_s (dD_ (coP p (i- 1)) ((i:Nat):Int) (by intro e;have e2:=congrArg Rat.num e;simp at e2;omega) (by omega)) ?_;refine a_1 ?_;refine ak_ (n_k ?_);exact ag_ (c_e (aC_ _))
theorem iX_(p:List Rat)(hp:smL p)(hp1:p.length≤1099511627775):FS 117 [.arr (pE p)] (.arr (pE (aJ_ p))):=by
 have he:=kJ_ (p.length+1) (fun i=>if i=0 then 0 else coP p (i- 1) / ((i:Nat):Int)) 170 [bP p] (by omega) (aa_ (a2_ p) ac_) (fun i hi=>l3_ p i hp hi hp1);rw[show((p.length+1:Nat):Int)=((p.length:Nat):Int)+1 by omega] at he;refine f_c Tryz.func117 ?_;refine r_z 2 ?_;refine AWp.ent (st':=⟨[(1,bP p)],[],1,8⟩) ?_ ?_;exact s_e [];refine r_c 6 (he) ?_;refine a_z ?_;exact ag_ (t_e (ap_ _))

def mulS(p:List Rat)(q:List Rat):Nat×List Rat→AState
 |(i,o)=>⟨[(1,.arr (pE q)),(5,.lsl 1 0 o.length (some o.length) 3),(25,.arr (pE p)),(26,i64 p.length),(27,i64 i)],[(1,some ⟨46,3,pE o⟩)],2,61⟩
def mulT(p:List Rat)(q:List Rat)(i:Nat)(a:Rat):Nat×List Rat→AState
 |(k,o)=>⟨[(1,.arr (pE q)),(5,.lsl 1 0 o.length (some o.length) 3),(6,i64 i),(7,.lptr 2 0 0),(25,.arr (pE p)),(26,i64 p.length),(27,i64 i),(35,.arr (pE q)),(36,i64 q.length),(37,i64 k)],[(1,some ⟨46,3,pE o⟩),(2,some ⟨46,3,[qC a]⟩)],3,61⟩
theorem fs_Mul(p q:List Rat)(s t:Nat)(hp:bdL p s)(hq:bdL q t)(hs:1≤s)(ht:1≤t)(h:p.length* (s+t+1)+1≤137438953472)(ht2:t≤137438953472)(hp1:p.length≤274877906944)(hq1:q.length≤274877906944):FS 76 [.arr (pE p),.arr (pE q)] (.arr (pE (mulP p q))):=by
 refine f_c Tryz.func76 ?_;refine r_z 1 ?_;refine aQ_ (fun _:Unit=>⟨[(0,.arr (pE p)),(1,.arr (pE q))],[],1,61⟩) (fun _=>p≠[]∧q≠[]) ?_ ?_;by_cases h1:p=[];subst h1;refine s_r 8 ?_;refine a_4 ?_;refine n_g rfl (by simp) ?_;refine n_g rfl (by simp) ?_;refine n_g rfl (by simp) ?_;refine o_0 (.pickT rfl (by simp) rfl) ?_;refine ak_ ?_;refine aj_ rfl (fun h=>?_) (fun h=>?_);refine r_z 1 ?_;refine ag_ ?_;unfold mulP;rw[if_pos (.inl rfl)];exact Fin.tmpN rfl;cases h;have hp0:p.length≠0:=fun e=>h1 (List.length_eq_zero_iff.1 e);refine s_r 8 ?_;refine a_4 ?_;refine y_g rfl (by simp <;> omega) (.move rfl) ?_;refine y_g rfl (by simp <;> omega) (.lenP rfl rfl rfl rfl te_33.h) ?_;refine y_g rfl (by simp <;> omega) (.bin rfl rfl aS_) ?_;refine o_0 (.pickF rfl (by simp <;> omega) rfl) ?_;refine ak_ ?_;refine aj_ rfl (fun h2=>?_) (fun h2=>?_)
 have hq0:q=[]:=by
  have:q.length=0:=by simpa using h2
  exact List.length_eq_zero_iff.1 this
 refine r_z 1 ?_;refine ag_ ?_;unfold mulP;rw[if_pos (.inr hq0)];exact Fin.tmpN rfl
 have hq0:q≠[]:=by
  have:¬q.length=0:=by simpa using h2
  exact fun e=>this (by rw[e];rfl)
 refine ah_ ⟨(),⟨h1,hq0⟩,?_⟩;exact s_e [];rintro _ ⟨hp0,hq0⟩;have hpl:=List.length_pos_iff.2 hp0;have hql:=List.length_pos_iff.2 hq0;have hN:(p.length:Int)+q.length- 1=((p.length+q.length- 1:Nat):Int):=by omega
 refine s_r 8 ?_;refine a_6 ?_;refine o_1 (.makeSlice (l:=p.length+q.length- 1) (c:=p.length+q.length- 1) (by rw[←hN];rfl) (by rw[←hN];rfl) te_33.h TZ.h rfl TB.h (by first|omega|(simp;done)|(simp;omega)) (by first|omega|(simp;done)|(simp;omega)) (by unfold maxLen;first|omega|(simp;done)|(simp;omega))) ?_;refine a_z ?_;refine ab_ (r_z 3 ?_);have hbd:=fun i=>ks_ (dv_ hp hs) (dv_ hq ht) i
 have hbi:∀i,i≤p.length→i* (s+t+1)+1≤137438953472:=fun i hi=>by
  have:=Nat.mul_le_mul_right (s+t+1) hi;omega
 have hs2:s≤137438953472:=by
  have:=hbi 1 hpl;omega
 refine av_ (fun _:Unit=>mulS p q (p.length,mulR p q p.length)) (fun _=>True) ?_ ?_;refine af_ (aq_ (fun i:Nat=>mulS p q (i,mulR p q i)) (fun i=>p.length- i) (fun i=>i≤p.length) 0 (Nat.zero_le _) ?_ ?_);simp only[mulS.eq_1,mulR];exact s_x [(1,5)] (fun hs=>au_f) (fun hs=>e_26);rintro i hi;simp only[mulS.eq_1];refine r_z 1 ?_;refine ab_ (aj_ rfl (fun h=>?_) (fun h=>?_));refine ah_ ?_;have hlt:i< p.length:=by simpa using h
 have hgp:(pE p)[((i:Nat):Int).toNat]?=some (qC (coP p i)):=pE_get (bo_ hlt);refine ab_ (af_ (s_r 6 ?_));refine a_1 ?_;refine i_x hgp ?_;refine l_x hgp ?_;refine a_z ?_;refine ab_ (r_c 3 (bt_ (coP p i)) ?_);refine a_z ?_;refine aj_ rfl (fun h1=>?_) (fun h1=>?_)
 have h0:coP p i=0:=by
  have h1:sgZ (coP p i).num=0:=by simpa using h1
  exact sgZ_num_eq.1 h1
 have hst:mulR p q (i+1)=mulR p q i:=by rw[mulR,if_pos h0]
 refine ao_ (r_m 2 ?_);refine a_z ?_;refine⟨i+1,by omega,hlt,?_⟩;simp only[mulS.eq_1,hst];exact s_e []
 have h0:coP p i≠0:=by
  intro e;have h1:¬sgZ (coP p i).num=0:=by simpa using h1
  exact h1 (sgZ_num_eq.2 e)
 have hst:mulR p q (i+1)=rowP (mulR p q i) (coP p i) q i q.length:=by rw[mulR,if_neg h0]
 refine ah_ (r_z 3 ?_);refine AWp.cutB (fun _:Unit=>mulS p q (i,mulR p q (i+1))) (fun _=>True) ?_ ?_;refine af_ (aq_ (fun k:Nat=>mulT p q i (coP p i) (k,rowP (mulR p q i) (coP p i) q i k)) (fun k=>q.length- k) (fun k=>k≤q.length) 0 (Nat.zero_le _) ?_ ?_);simp only[mulT.eq_1,rowP];exact s_e [(2,7)];rintro k hk;simp only[mulT.eq_1];refine r_z 1 ?_;refine ab_ (aj_ rfl (fun h2=>?_) (fun h2=>?_));refine ah_ ?_;have hlt2:k< q.length:=by simpa using h2
 have hgq:(pE q)[((k:Nat):Int).toNat]?=some (qC (coP q k)):=pE_get (bo_ hlt2);refine ab_ (af_ (s_r 6 ?_));refine a_1 ?_;refine i_x hgq ?_;refine l_x hgq ?_;refine a_z ?_;have hb1:=hbd i;have hb2:=hbi (i+1) hlt;have hb3:=hbi i hi
 have hcur:qs (coP (rowP (mulR p q i) (coP p i) q i k) (i+k))≤137438953472:=by
  rw[kj_ _ _ _ _ _ _ (by omega)];exact Nat.le_trans (hb1 (i+k)) hb3
 have hab:=bH_ (coP p i) (coP q k);have hqa:=dv_ hp hs i;have hqb:=dv_ hq ht k;have hik:i+k< (rowP (mulR p q i) (coP p i) q i k).length:=by simp;omega
 have hgo:(pE (rowP (mulR p q i) (coP p i) q i k))[(0+(((i:Nat):Int)+(k:Nat)).toNat)]?=some (qC (coP (rowP (mulR p q i) (coP p i) q i k) (i+k))):=by
  rw[show 0+(((i:Nat):Int)+(k:Nat)).toNat=i+k by omega];exact pE_get (bo_ hik)
 refine r_d hmix 16 ?_;refine a_8 ?_;refine a_1 ?_;refine az_ (.load_l rfl rfl hgo TG.h TS.h (nle rfl)) rfl rfl ?_;refine c_s (bE_ (coP p i) (coP q k) (by omega)) ?_;refine c_s (c6_ (coP (rowP (mulR p q i) (coP p i) q i k) (i+k)) (coP p i* coP q k) (by omega)) ?_;refine a_1 ?_;refine o_1n (.store rfl rfl hgo rfl rfl rfl TS.h (nle rfl)) ?_;refine ak_ (n_k ?_);refine r_m 2 ?_;refine a_z ?_;refine⟨k+1,by omega,hlt2,?_⟩
 have hst2:(pE (rowP (mulR p q i) (coP p i) q i k)).set (0+(((i:Nat):Int)+(k:Nat)).toNat) (qC (coP (rowP (mulR p q i) (coP p i) q i k) (i+k)+coP p i* coP q k))=pE (rowP (mulR p q i) (coP p i) q i (k+1)):=by
  rw[show 0+(((i:Nat):Int)+(k:Nat)).toNat=i+k by omega,gb_];rfl
 have hl2:(rowP (mulR p q i) (coP p i) q i (k+1)).length=(rowP (mulR p q i) (coP p i) q i k).length:=by simp
 simp only[mulT.eq_1,hl2];exact s_x [] (fun hs=>au_f) (fun hs=>e_27) e_9
 have hge:k=q.length:=by
  have:¬k< q.length:=by simpa using h2
  omega
 subst hge;refine ao_ ⟨(),trivial,?_⟩;simp only[mulS.eq_1,hst];exact s_e [];rintro _ _;simp only[mulS.eq_1];refine r_m 2 ?_;refine a_z ?_;refine⟨i+1,by omega,hlt,?_⟩;exact s_e []
 have hge:i=p.length:=by
  have:¬i< p.length:=by simpa using h
  omega
 subst hge;refine ao_ ⟨(),trivial,?_⟩;simp only[mulS.eq_1];exact s_e [];rintro _ _;simp only[mulS.eq_1]
 have hfull:List.take (mulR p q p.length).length (List.drop 0 (pE (mulR p q p.length)))=pE (mulR p q p.length):=by
  rw[List.drop_zero,List.take_of_length_le (by simp)]
 have hfin:mulP p q=trimQ (mulR p q p.length):=by
  unfold mulP;rw[if_neg (by rintro(h|h);exact hp0 h;exact hq0 h)]
 rw[hfin];refine s_r 3 ?_;refine a_1 ?_;refine o_1 (.callS1 rfl rfl rfl (.shut rfl d_n (.nil)) rfl ((by rw[hfull];exact cf_ (mulR p q p.length) (by simp;omega)))) ?_;refine a_z ?_;exact ag_ (t_e (ap_ _))
end Go.Proofs.YtjkddcfoolilbaaGreatDoor
