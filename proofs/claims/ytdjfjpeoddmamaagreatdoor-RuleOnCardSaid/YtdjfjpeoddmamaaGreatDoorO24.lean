/- Part O24 of the proof. -/
import Derived.Test.YtdjfjpeoddmamaaGreatDoorO23
set_option linter.all false
namespace Go.Proofs.YtdjfjpeoddmamaaGreatDoor
open Go.Abs
set_option maxRecDepth 100000
set_option maxHeartbeats 2000000
section
variable {P:Go.Program}{T:Nat}{x y:Operand}
theorem cV_{l m:List UInt8}(h:l.length+m.length≤9223372036854775807):∀w,(do eqGuard .add T x y (.string ⟨l.toArray⟩) (.string ⟨m.toArray⟩);binOp .add T (.string ⟨l.toArray⟩) (.string ⟨m.toArray⟩):Sem Value).run P w= .ok (.string ⟨(l++m).toArray⟩) w:=fun w=>by
 have hm:IntKind.i64.max=9223372036854775807:=by decide
 have e:(⟨l.toArray⟩:ByteArray)++⟨m.toArray⟩=⟨(l++m).toArray⟩:=by
  apply ByteArray.ext;simp
 have hn:¬((((⟨l.toArray⟩:ByteArray).size+(⟨m.toArray⟩:ByteArray).size:Nat):Int)> IntKind.i64.max):=by
  rw[hv_,hv_,hm];omega
 simp only[eqGuard,binOp,Op.stringOp,hn,if_false,e,Sem.run_bind,Sem.run_pure,Result.andThen_ok];rfl
theorem dZ_{l m:List UInt8}:∀w,(do eqGuard .eql T x y (.string ⟨l.toArray⟩) (.string ⟨m.toArray⟩);binOp .eql T (.string ⟨l.toArray⟩) (.string ⟨m.toArray⟩):Sem Value).run P w= .ok (.bool (decide (l=m))) w:=fun w=>by
 rw[p2_];congr 2
 have e:∀l:List UInt8,(⟨l.toArray⟩:ByteArray).toList=l:=by
  intro l;have:=ByteArray.toList_eq (bs:=⟨l.toArray⟩);simpa using this
 rw[e,e];rw[Bool.eq_iff_iff];simp
end
def textQ(q:Rat):List UInt8:=((if q.num< 0 then [45] else [])++dec2 q.num.natAbs)++(if q.den=1 then [] else 47::dec2 q.den)
def okT(q:Rat):Prop:=q.num.natAbs< 100∧q.den< 100
instance (q:Rat):Decidable (okT q):=inferInstanceAs (Decidable (_∧_))
theorem okT_qs{q:Rat}(h:okT q):qs q≤1099511627776:=by
 obtain⟨h1,h2⟩:=h;have e1:=bl_le (n:=q.num.natAbs) (k:=7) (by omega);have e2:=bl_le (n:=q.den) (k:=7) (by omega);unfold qs;omega
theorem textQ_len{q:Rat}:(textQ q).length≤6∧1≤(textQ q).length:=by
 have h1:=gh_ q.num.natAbs;have h2:=gh_ q.den;have h3:=List.length_pos_iff.2 (op_ q.num.natAbs);unfold textQ;split <;> split <;> simp <;> omega
def qtS(q:Rat):List UInt8→AState
 |l=>⟨[(1,.aptr [qC q] 0 0),(3,tx l)],[],2,24⟩
theorem pw_(q:Rat)(h:okT q):FS 74 [.agg (qC q)] (tx (textQ q)):=by
 have hd1:=gh_ q.num.natAbs;have hd2:=gh_ q.den;have hden:1≤q.den:=q.den_pos;refine f_c Tryz.func74 ?_;refine r_z 2 ?_;refine AWp.ent (st':=⟨[(1,.aptr [qC q] 0 0)],[],2,24⟩) ?_ ?_;exact s_e [];refine r_c 5 (po_ q.num.natAbs h.1) ?_;refine a_z ?_;refine aQ_ (qtS q) (fun l=>l=(if q.num< 0 then [45] else [])++dec2 q.num.natAbs) ?_ ?_;refine r_z 3 ?_;refine aj_ rfl (fun h1=>?_) (fun h1=>?_);have h2:q.num< 0:=by simpa using h1
 refine r_m 3 ?_;refine a_1 ?_;refine o_0 (.bin rfl rfl (cV_ (l:=[45]) (by simp;omega))) ?_;refine a_z ?_;refine⟨_,by rw[if_pos h2],?_⟩;rw[qtS.eq_1];exact s_x [] (fun hs=>e_5) (fun hs=>e_6);have h2:¬q.num< 0:=by simpa using h1
 refine ae_ ⟨dec2 q.num.natAbs,by rw[if_neg h2];rfl,?_⟩;rw[qtS.eq_1];exact s_x [] (fun hs=>e_5) (fun hs=>e_6);rintro l hl;have hll:l.length≤3:=by rw[hl];split <;> simp <;> omega
 rw[qtS.eq_1];refine aQ_ (qtS q) (fun l=>l=textQ q) ?_ ?_;refine r_c 4 (ff_ (q.den- 1)) ?_;refine a_z ?_;refine aj_ rfl (fun h1=>?_) (fun h1=>?_)
 have h2:¬q.den=1:=by
  intro e;rw[e] at h1;simp at h1
 refine r_m 7 ?_;refine c_s (cz_ q (okT_qs h)) ?_;refine c_s (po_ q.den h.2) ?_;refine o_0 (.bin rfl rfl (cV_ (l:=[47]) (by simp;omega))) ?_;refine o_0 (.bin rfl rfl (cV_ (by simp;omega))) ?_;refine a_z ?_;refine⟨_,by unfold textQ;rw[if_neg h2,←hl],?_⟩;rw[qtS.eq_1];exact s_x [] (fun hs=>e_5) (fun hs=>e_6)
 have h2:q.den=1:=by
  have h3:q.den- 1=0:=by simpa using h1
  omega
 refine ae_ ⟨l,by unfold textQ;rw[if_pos h2,←hl,List.append_nil],?_⟩;rw[qtS.eq_1];exact s_x [] (fun hs=>e_5) (fun hs=>e_6);rintro l rfl;rw[qtS.eq_1];refine r_z 2 ?_;exact af_ (t_e (ad_ _))
section
variable {P:Go.Program}{T:Nat}{x y:Operand}
theorem p1_{l m:List UInt8}:∀w,(do eqGuard .neq T x y (.string ⟨l.toArray⟩) (.string ⟨m.toArray⟩);binOp .neq T (.string ⟨l.toArray⟩) (.string ⟨m.toArray⟩):Sem Value).run P w= .ok (.bool (!decide (l=m))) w:=fun w=>by
 rw[p0_];congr 2
 have e:∀l:List UInt8,(⟨l.toArray⟩:ByteArray).toList=l:=by
  intro l;have:=ByteArray.toList_eq (bs:=⟨l.toArray⟩);simpa using this
 rw[e,e];rw[Bool.eq_iff_iff];simp
end
def sgnTx(o:Option (List UInt8))(c:Rat):Option (List UInt8):=
 match o with
 |none=>if c< 0 then some [45] else none
 |some s=>if c< 0 then some (s++[32,45,32]) else some (s++[32,43,32])
def wrO(o:Option (List UInt8))(t:List UInt8):Option (List UInt8):=some (o.getD []++t)
def gn_(o:Option (List UInt8))(t:List UInt8):Option (List UInt8):=if t=[49] then o else wrO o (t++[32])
def iE_(tq:Rat→List UInt8)(ti:Nat→List UInt8)(o:Option (List UInt8))(c:Rat)(n:Nat):Option (List UInt8):=
 if n=0 then wrO (sgnTx o c) (tq (absQ c))
 else if 1< n then wrO (wrO (gn_ (sgnTx o c) (tq (absQ c))) [120]) ([94]++ti n) else wrO (gn_ (sgnTx o c) (tq (absQ c))) [120]
def textR(tq:Rat→List UInt8)(ti:Nat→List UInt8)(p:List Rat):Nat→Option (List UInt8)→Option (List UInt8)
 |0,o=>o
 |n+1,o=>textR tq ti p n (if coP p n=0 then o else iE_ tq ti o (coP p n) n)
def textG(tq:Rat→List UInt8)(ti:Nat→List UInt8)(p:List Rat):List UInt8:=(textR tq ti (trimQ p) (trimQ p).length none).getD [48]
def textP(p:List Rat):List UInt8:=textG textQ dec2 p
def okPT(p:List Rat):Prop:=p.length≤1000∧(trimQ p).length≤99∧(∀c∈trimQ p,okT c)
instance (p:List Rat):Decidable (okPT p):=inferInstanceAs (Decidable (_∧_∧_))
def pb0(p:List Rat):Int→AState
 |n=>⟨[(0,.arr (pE p)),(3,.lptr 1 0 0),(4,i64 n)],[(1,some ⟨223,2,[bldC 1 2 none]⟩)],4,67⟩
def pb1(p:List Rat):Int×List UInt8→AState
 |(n,s)=>⟨[(0,.arr (pE p)),(3,.lptr 1 0 0),(4,i64 n)],[(1,some ⟨223,2,[bldC 1 2 (some s)]⟩),(2,some ⟨5,1,bE s⟩)],4,67⟩
def pbS(p:List Rat)(n:Int):Option (List UInt8)→AState
 |none=>pb0 p n
 |some s=>pb1 p (n,s)
def pc0(p:List Rat)(c:Rat):Int→AState
 |n=>⟨[(0,.arr (pE p)),(3,.lptr 1 0 0),(4,i64 n),(5,.lptr 3 0 0)],[(1,some ⟨223,2,[bldC 1 2 none]⟩),(3,some ⟨35,3,[qC c]⟩)],4,67⟩
def pc1(p:List Rat)(c:Rat):Int×List UInt8→AState
 |(n,s)=>⟨[(0,.arr (pE p)),(3,.lptr 1 0 0),(4,i64 n),(5,.lptr 3 0 0)],[(1,some ⟨223,2,[bldC 1 2 (some s)]⟩),(2,some ⟨5,1,bE s⟩),(3,some ⟨35,3,[qC c]⟩)],4,67⟩
def pcS(p:List Rat)(c:Rat)(n:Int):Option (List UInt8)→AState
 |none=>pc0 p c n
 |some s=>pc1 p c (n,s)
def pd0(p:List Rat)(t:List UInt8):Int→AState
 |n=>⟨[(0,.arr (pE p)),(3,.lptr 1 0 0),(4,i64 n),(6,tx t)],[(1,some ⟨223,2,[bldC 1 2 none]⟩)],4,67⟩
def pd1(p:List Rat)(t:List UInt8):Int×List UInt8→AState
 |(n,s)=>⟨[(0,.arr (pE p)),(3,.lptr 1 0 0),(4,i64 n),(6,tx t)],[(1,some ⟨223,2,[bldC 1 2 (some s)]⟩),(2,some ⟨5,1,bE s⟩)],4,67⟩
def pdS(p:List Rat)(t:List UInt8)(n:Int):Option (List UInt8)→AState
 |none=>pd0 p t n
 |some s=>pd1 p t (n,s)
def okOx(o:Option (List UInt8))(n:Nat):Prop:=∀s,o=some s→s≠[]∧s.length≤n
theorem k3_(n:Nat):okOx none n:=fun s h=>by cases h
theorem ki_{o:Option (List UInt8)}{n:Nat}{t:List UInt8}(h:okOx o n)(h0:t≠[]):okOx (wrO o t) (n+t.length):=by
 intro s hs;cases hs;cases o with
 |none=>exact⟨by simpa using h0,by simp⟩
 |some q=>exact⟨by simp[h0],by have:=(h q rfl).2;simp;omega⟩
theorem o4_{o:Option (List UInt8)}{n:Nat}(h:okOx o n)(c:Rat):okOx (sgnTx o c) (n+3):=by
 intro s hs;cases o with
 |none=>
  simp only[sgnTx] at hs;split at hs;cases hs;exact⟨by simp,by simp⟩;cases hs
 |some q=>
  have:=(h q rfl).2;simp only[sgnTx] at hs;split at hs <;> cases hs <;> exact⟨by simp,by simp;omega⟩
theorem dU_{o:Option (List UInt8)}{n m:Nat}(h:okOx o n)(hm:n≤m):okOx o m:=fun s hs=>⟨(h s hs).1,Nat.le_trans (h s hs).2 hm⟩
theorem textQ_ne(q:Rat):textQ q≠[]:=List.length_pos_iff.1 (textQ_len (q:=q)).2
theorem sgZ_neg(c:Rat):sgZ c.num< 0↔c< 0:=by
 rw[←iU_];unfold sgZ;split;omega;split <;> omega
theorem okT_abs{c:Rat}(h:okT c):okT (absQ c):=by
 rw[hO_];split;obtain⟨h1,h2⟩:=h;exact⟨by rw[Rat.neg_num];simpa using h1,by rw[Rat.neg_den];exact h2⟩;exact h
theorem s5_(tq:Rat→List UInt8)(ti:Nat→List UInt8)(L:Nat)(p:List Rat)(h1:p.length≤1000)(hL:L≤10000)(h3:∀c∈trimQ p,FS 74 [.agg (qC (absQ c))] (tx (tq (absQ c)))∧tq (absQ c)≠[]∧(tq (absQ c)).length≤L)(hI:∀n,n< (trimQ p).length→FS 172 [i64 n] (tx (ti n))∧(ti n).length≤20):FS 75 [.arr (pE p)] (tx (textG tq ti p)):=by
 have htr:=cQ_ p (by omega);obtain⟨q,hq⟩:∃q,q=trimQ p:=⟨_,rfl⟩;have hR:textG tq ti p=(textR tq ti q q.length none).getD [48]:=by unfold textG;rw[hq]
 rw[hR];have h2:=aB_ p;rw[←hq] at htr h2 h3 hI;have hall:∀k,(q.length- k) * (L+30)≤10030000:=fun k=>Nat.mul_le_mul (show q.length- k≤1000 by omega) (show L+30≤10030 by omega);refine f_c Tryz.func75 ?_;refine r_z 1 ?_;refine r_z 1 ?_;refine r_c 3 (htr) ?_;refine a_z ?_;refine aa_ (r_z 4 ?_);refine aw_ (pbS q (-1)) (fun o=>o=textR tq ti q q.length none∧okOx o 20000000) ?_ ?_;refine ac_ (ap_ (fun x:Nat×Option (List UInt8)=>pbS q ((x.1:Int)- 1) x.2) (fun x=>x.1) (fun x=>x.1≤q.length∧textR tq ti q x.1 x.2=textR tq ti q q.length none∧okOx x.2 ((q.length- x.1) * (L+30))) (q.length,none) ⟨Nat.le_refl _,rfl,k3_ _⟩ ?_ ?_);show SEnt _ (pb0 q ((q.length:Int)- 1));rw[pb0.eq_1];exact s_e [(1,3)];rintro⟨n,o⟩ ⟨hn,hr,ho⟩;simp only at hn hr ho;cases n with
 |zero=>
  cases o with
  |none=>
   show AWp _ _ _ _ (pb0 q (((0:Nat):Int)- 1));rw[pb0.eq_1];refine aa_ (r_z 2 ?_);refine aj_ rfl (fun h4=>?_) (fun h4=>?_);exact absurd h4 (by simp);refine am_ ⟨none,⟨hr,k3_ _⟩,?_⟩;show SEnt _ (pb0 q (-1));rw[pb0.eq_1];exact s_e []
  |some s=>
   show AWp _ _ _ _ (pb1 q (((0:Nat):Int)- 1,s));rw[pb1.eq_1];refine aa_ (r_z 2 ?_);refine aj_ rfl (fun h4=>?_) (fun h4=>?_);exact absurd h4 (by simp);refine am_ ⟨some s,⟨hr,dU_ ho (by have:=hall 0;omega)⟩,?_⟩;show SEnt _ (pb1 q (-1,s));rw[pb1.eq_1];exact s_e []
 |succ n=>
  have hcn:((n+1:Nat):Int)- 1=(n:Int):=by omega
  rw[hcn];rw[textR] at hr;have hlt:n< q.length:=by omega
  obtain⟨c,hc⟩:∃c,c=coP q n:=⟨_,rfl⟩;rw[←hc] at hr;have hg:(pE q)[((n:Nat):Int).toNat]?=some (qC c):=by rw[Int.toNat_natCast,hc];exact bK_ (a9_ hlt)
  obtain⟨fT,htn,htl⟩:=h3 c (by rw[hc];exact List.mem_of_getElem? (a9_ hlt))
  have hm:(q.length- n) * (L+30)=(q.length- (n+1)) * (L+30)+(L+30):=by
   rw[show q.length- n=(q.length- (n+1))+1 by omega,Nat.add_mul,Nat.one_mul]
  obtain⟨B,hB⟩:∃B,B=(q.length- (n+1)) * (L+30):=⟨_,rfl⟩;have hmx:B≤10030000:=by rw[hB];exact hall _
  rw[←hB] at ho hm;obtain⟨t,ht⟩:∃t,t=tq (absQ c):=⟨_,rfl⟩;rw[←ht] at htn htl fT;obtain⟨fI,hd2⟩:=hI n hlt;refine aQ_ (fun _:Unit=>pbS q n o) (fun _=>True) ?_ ?_;cases o with
  |none=>
   show AWp _ _ _ _ (pb0 q n);rw[pb0.eq_1];refine r_z 2 ?_;refine aj_ rfl (fun h4=>?_) (fun h4=>?_);refine ae_ ⟨(),trivial,?_⟩;show SEnt _ (pb0 q n);rw[pb0.eq_1];exact s_e [];exact absurd h4 (by simp)
  |some s=>
   show AWp _ _ _ _ (pb1 q (n,s));rw[pb1.eq_1];refine r_z 2 ?_;refine aj_ rfl (fun h4=>?_) (fun h4=>?_);refine ae_ ⟨(),trivial,?_⟩;show SEnt _ (pb1 q (n,s));rw[pb1.eq_1];exact s_e [];exact absurd h4 (by simp)
  rintro _ _;refine aQ_ (pbS q n) (fun o'=>o'=(if c=0 then o else iE_ tq ti o c n)) ?_ ?_;refine ac_ (aQ_ (fun _:Unit=>pcS q c n o) (fun _=>True) ?_ ?_);cases o with
  |none=>
   show AWp _ _ _ _ (pb0 q n);rw[pb0.eq_1];refine r_m 6 ?_;refine a_2 ?_;refine i_x hg ?_;refine l_x hg ?_;refine a_z ?_;refine⟨(),trivial,?_⟩;show SEnt _ (pc0 q c n);rw[pc0.eq_1];exact s_x [(3,5)] (fun hs=>au_f) (fun hs=>e_10)
  |some s=>
   show AWp _ _ _ _ (pb1 q (n,s));rw[pb1.eq_1];refine r_m 6 ?_;refine a_2 ?_;refine i_x hg ?_;refine l_x hg ?_;refine a_z ?_;refine⟨(),trivial,?_⟩;show SEnt _ (pc1 q c (n,s));rw[pc1.eq_1];exact s_x [(3,5)] (fun hs=>au_f) (fun hs=>e_10)
  rintro _ _;refine aQ_ (fun _:Unit=>pcS q c n o) (fun _=>c≠0) ?_ ?_;cases o with
  |none=>
   show AWp _ _ _ _ (pc0 q c n);rw[pc0.eq_1];refine r_c 3 (bZ_ c) ?_;refine a_z ?_;refine aj_ rfl (fun h4=>?_) (fun h4=>?_);have h5:c=0:=sgZ_num_eq.1 (by simpa using h4);refine am_ ⟨none,by rw[if_pos h5],?_⟩;show SEnt _ (pb0 q n);rw[pb0.eq_1];exact s_e [];have h5:c≠0:=fun e=>by have h6:=sgZ_num_eq.2 e;simp[h6] at h4
   refine ae_ ⟨(),h5,?_⟩;show SEnt _ (pc0 q c n);rw[pc0.eq_1];exact s_e []
  |some s=>
   show AWp _ _ _ _ (pc1 q c (n,s));rw[pc1.eq_1];refine r_c 3 (bZ_ c) ?_;refine a_z ?_;refine aj_ rfl (fun h4=>?_) (fun h4=>?_);have h5:c=0:=sgZ_num_eq.1 (by simpa using h4);refine am_ ⟨some s,by rw[if_pos h5],?_⟩;show SEnt _ (pb1 q (n,s));rw[pb1.eq_1];exact s_e [];have h5:c≠0:=fun e=>by have h6:=sgZ_num_eq.2 e;simp[h6] at h4
   refine ae_ ⟨(),h5,?_⟩;show SEnt _ (pc1 q c (n,s));rw[pc1.eq_1];exact s_e []
  rintro _ hc0;rw[if_neg hc0];have hsg:(sgZ c.num< 0)↔c< 0:=sgZ_neg c;refine aQ_ (pcS q c n) (fun o'=>o'=sgnTx o c) ?_ ?_;refine ac_ ?_;cases o with
  |none=>
   show AWp _ _ _ _ (pc0 q c n);rw[pc0.eq_1];refine s_r 8 ?_;refine o_0 (.callR (s:=none) (j:=0) (tb:=0) rfl rfl rfl rfl rfl (fun _ h=>by cases h) (lx_)) ?_;refine a_2 ?_
   first|refine y_g rfl d_t (.load_l rfl rfl rfl TG.h TS.h (nle rfl)) ?_|refine y_g rfl d_t (.load_a rfl rfl TG.h TS.h (nle rfl)) ?_
   refine y_g rfl d_t (.call rfl rfl rfl (bZ_ c)) ?_;refine y_g rfl d_t (.bin rfl rfl c9_) ?_;refine o_0 (.pickT rfl d_t rfl) ?_;refine a_z ?_;refine aj_ rfl (fun h4=>?_) (fun h4=>?_);have h5:c< 0:=hsg.1 (by simpa using h4);refine r_m 1 ?_;refine o_2 (.callB (s:=none) (j:=0) rfl rfl rfl rfl rfl rfl (fun _ h=>by cases h) (eZ_ [45] (by simp) (by simp))) ?_;refine ai_ ?_;refine⟨some [45],by simp only[sgnTx];rw[if_pos h5],?_⟩;show SEnt _ (pc1 q c (n,[45]));rw[pc1.eq_1];exact s_z [(2,100012)] (fun hs=>au_f) (fun hs=>e_10);have h5:¬c< 0:=fun e=>by have h6:=hsg.2 e;simp[h6] at h4
   refine s_r 8 ?_;refine o_0 (.callR (s:=none) (j:=0) (tb:=0) rfl rfl rfl rfl rfl (fun _ h=>by cases h) (lx_)) ?_;refine a_2 ?_;refine n_g rfl d_f ?_;refine n_g rfl d_f ?_;refine n_g rfl d_f ?_;refine o_0 (.pickF rfl d_f rfl) ?_;refine a_z ?_;refine cF (s_r 3 ?_);refine o_0 (.callR (s:=none) (j:=0) (tb:=0) rfl rfl rfl rfl rfl (fun _ h=>by cases h) (lx_)) ?_;refine a_z ?_;refine aj_ rfl (fun h7=>?_) (fun h7=>?_);exact absurd h7 (by simp);refine ae_ ⟨none,by simp only[sgnTx];rw[if_neg h5],?_⟩;show SEnt _ (pc0 q c n);rw[pc0.eq_1];exact s_e []
  |some s=>
   have hsn:=(ho s rfl).1;have hsl:=(ho s rfl).2;have hs0:s.length≠0:=by simpa using hsn
   show AWp _ _ _ _ (pc1 q c (n,s));rw[pc1.eq_1];refine s_r 8 ?_;refine o_0 (.callR (s:=some _) rfl rfl rfl rfl rfl (fun _ h=>by cases h;exact rfl) (lw_ s)) ?_;refine a_2 ?_;refine n_g rfl (by simp;omega) ?_;refine n_g rfl (by simp;omega) ?_;refine n_g rfl (by simp;omega) ?_;refine o_0 (.pickF rfl (by simp;omega) rfl) ?_;refine a_z ?_;refine aj_ rfl (fun h4=>?_) (fun h4=>?_)
   ·first|(simp at h4;done)|(simp at h4;omega)|(simp at h4;exact absurd h4 hsn)
   refine s_r 8 ?_;refine o_0 (.callR (s:=some _) rfl rfl rfl rfl rfl (fun _ h=>by cases h;exact rfl) (lw_ s)) ?_;refine a_2 ?_
   first|refine y_g rfl (by simp;omega) (.load_l rfl rfl rfl TG.h TS.h (nle rfl)) ?_|refine y_g rfl (by simp;omega) (.load_a rfl rfl TG.h TS.h (nle rfl)) ?_
   refine y_g rfl (by simp;omega) (.call rfl rfl rfl (bZ_ c)) ?_;refine y_g rfl (by simp;omega) (.bin rfl rfl c9_) ?_;refine o_0 (.pickT rfl (by simp;omega) rfl) ?_;refine a_z ?_;refine aj_ rfl (fun h6=>?_) (fun h6=>?_);have h5:c< 0:=hsg.1 (by simpa using h6);refine r_m 1 ?_;refine o_3 (.callB (s:=some _) rfl rfl rfl rfl rfl rfl (fun _ h=>by cases h;exact⟨rfl,by decide⟩) (dN_ s [32,45,32] (by simp;omega))) ?_;refine ai_ ?_;refine⟨some (s++[32,45,32]),by simp only[sgnTx];rw[if_pos h5],?_⟩;show SEnt _ (pc1 q c (n,s++[32,45,32]));rw[pc1.eq_1];exact s_z [(2,100020)] (fun hs=>au_f) (fun hs=>e_10);have h5:¬c< 0:=fun e=>by have h7:=hsg.2 e;simp[h7] at h6
   refine s_r 3 ?_;refine o_0 (.callR (s:=some _) rfl rfl rfl rfl rfl (fun _ h=>by cases h;exact rfl) (lw_ s)) ?_;refine a_z ?_;refine aj_ rfl (fun h7=>?_) (fun h7=>?_);refine r_m 1 ?_;refine o_3 (.callB (s:=some _) rfl rfl rfl rfl rfl rfl (fun _ h=>by cases h;exact⟨rfl,by decide⟩) (dN_ s [32,43,32] (by simp;omega))) ?_;refine ai_ ?_;refine⟨some (s++[32,43,32]),by simp only[sgnTx];rw[if_neg h5],?_⟩;show SEnt _ (pc1 q c (n,s++[32,43,32]));rw[pc1.eq_1];exact s_z [(2,100023)] (fun hs=>au_f) (fun hs=>e_10)
   ·first|(simp at h7;done)|(simp at h7;omega)|(simp at h7;exact absurd h7 hsn)
  rintro o1 rfl;have ho1:=o4_ ho c;obtain⟨o1,ho1e⟩:∃o1,o1=sgnTx o c:=⟨_,rfl⟩;rw[←ho1e] at ho1⊢;refine aQ_ (fun _:Unit=>pdS q t n o1) (fun _=>True) ?_ ?_;cases o1 with
  |none=>
   show AWp _ _ _ _ (pc0 q c n);rw[pc0.eq_1];refine r_m 4 ?_;refine c_s (ps_ c) ?_;refine c_s (fT) ?_;refine a_z ?_;refine⟨(),trivial,?_⟩;show SEnt _ (pd0 q t n);rw[pd0.eq_1];exact s_e []
  |some s=>
   show AWp _ _ _ _ (pc1 q c (n,s));rw[pc1.eq_1];refine r_m 4 ?_;refine c_s (ps_ c) ?_;refine c_s (fT) ?_;refine a_z ?_;refine⟨(),trivial,?_⟩;show SEnt _ (pd1 q t (n,s));rw[pd1.eq_1];exact s_e []
  rintro _ _;refine aQ_ (fun _:Unit=>pdS q t n o1) (fun _=>n≠0) ?_ ?_;cases o1 with
  |none=>
   show AWp _ _ _ _ (pd0 q t n);rw[pd0.eq_1];refine r_z 2 ?_;refine aj_ rfl (fun h4=>?_) (fun h4=>?_);have h5:n=0:=by simpa using h4
   subst h5;refine s_r 2 ?_;refine a_1 ?_;refine o_2 (.callB (s:=none) (j:=0) rfl rfl rfl rfl rfl rfl (fun _ h=>by cases h) (eZ_ t htn (by omega))) ?_;refine ai_ ?_;refine am_ ⟨some t,by unfold iE_;rw[if_pos rfl,←ho1e,←ht];rfl,?_⟩;show SEnt _ (pb1 q (((0:Nat):Int),t));rw[pb1.eq_1];exact s_z [(2,100007)] (fun hs=>au_f) (fun hs=>au_h);have h5:n≠0:=fun e=>by simp[e] at h4
   refine ae_ ⟨(),h5,?_⟩;show SEnt _ (pd0 q t n);rw[pd0.eq_1];exact s_e []
  |some s=>
   have hsl:=(ho1 s rfl).2;show AWp _ _ _ _ (pd1 q t (n,s));rw[pd1.eq_1];refine r_z 2 ?_;refine aj_ rfl (fun h4=>?_) (fun h4=>?_);have h5:n=0:=by simpa using h4
   subst h5;refine s_r 2 ?_;refine a_1 ?_;refine o_3 (.callB (s:=some _) rfl rfl rfl rfl rfl rfl (fun _ h=>by cases h;exact⟨rfl,by decide⟩) (dN_ s t (by omega))) ?_;refine ai_ ?_;refine am_ ⟨some (s++t),by unfold iE_;rw[if_pos rfl,←ho1e,←ht];rfl,?_⟩;show SEnt _ (pb1 q (((0:Nat):Int),s++t));rw[pb1.eq_1];exact s_z [(2,100007)] (fun hs=>au_f) (fun hs=>au_h);have h5:n≠0:=fun e=>by simp[e] at h4
   refine ae_ ⟨(),h5,?_⟩;show SEnt _ (pd1 q t (n,s));rw[pd1.eq_1];exact s_e []
  rintro _ hn0;refine aQ_ (pbS q n) (fun o'=>o'=gn_ o1 t) ?_ ?_;cases o1 with
  |none=>
   show AWp _ _ _ _ (pd0 q t n);rw[pd0.eq_1];refine s_r 2 ?_;refine a_1 ?_;refine o_0 (.bin rfl rfl (p1_ (m:=[49]))) ?_;refine ai_ ?_;refine aj_ rfl (fun h4=>?_) (fun h4=>?_);have h5:¬t=[49]:=by simpa using h4
   refine r_m 3 ?_;refine a_1 ?_;refine o_0 (.bin rfl rfl (cV_ (m:=[32]) (by simp;omega))) ?_;refine o_2 (.callB (s:=none) (j:=0) rfl rfl rfl rfl rfl rfl (fun _ h=>by cases h) (eZ_ (t++[32]) (by simp) (by simp;omega))) ?_;refine ai_ ?_;refine⟨some (t++[32]),by unfold gn_;rw[if_neg h5];rfl,?_⟩;show SEnt _ (pb1 q (n,t++[32]));rw[pb1.eq_1];exact s_z [(2,100008)] (fun hs=>au_f) (fun hs=>au_h);have h5:t=[49]:=by simpa using h4
   refine ae_ ⟨none,by unfold gn_;rw[if_pos h5],?_⟩;show SEnt _ (pb0 q n);rw[pb0.eq_1];exact s_e []
  |some s=>
   have hsl:=(ho1 s rfl).2;show AWp _ _ _ _ (pd1 q t (n,s));rw[pd1.eq_1];refine s_r 2 ?_;refine a_1 ?_;refine o_0 (.bin rfl rfl (p1_ (m:=[49]))) ?_;refine ai_ ?_;refine aj_ rfl (fun h4=>?_) (fun h4=>?_);have h5:¬t=[49]:=by simpa using h4
   refine r_m 3 ?_;refine a_1 ?_;refine o_0 (.bin rfl rfl (cV_ (m:=[32]) (by simp;omega))) ?_;refine o_3 (.callB (s:=some _) rfl rfl rfl rfl rfl rfl (fun _ h=>by cases h;exact⟨rfl,by decide⟩) (dN_ s (t++[32]) (by simp;omega))) ?_;refine ai_ ?_;refine⟨some (s++(t++[32])),by unfold gn_;rw[if_neg h5];rfl,?_⟩;show SEnt _ (pb1 q (n,s++(t++[32])));rw[pb1.eq_1];exact s_z [(2,100008)] (fun hs=>au_f) (fun hs=>au_h);have h5:t=[49]:=by simpa using h4
   refine ae_ ⟨some s,by unfold gn_;rw[if_pos h5],?_⟩;show SEnt _ (pb1 q (n,s));rw[pb1.eq_1];exact s_e []
  rintro o2 ho2e
  have ho2:okOx o2 (B+L+4):=by
   rw[ho2e];unfold gn_;split;exact dU_ ho1 (by omega);exact dU_ (ki_ ho1 (t:=t++[32]) (by simp)) (by simp;omega)
  refine aQ_ (fun s=>pb1 q (n,s)) (fun s=>wrO o2 [120]=some s) ?_ ?_;cases o2 with
  |none=>
   show AWp _ _ _ _ (pb0 q n);rw[pb0.eq_1];refine r_m 1 ?_;refine o_2 (.callB (s:=none) (j:=0) rfl rfl rfl rfl rfl rfl (fun _ h=>by cases h) (eZ_ [120] (by simp) (by simp))) ?_;refine ai_ ?_;refine⟨[120],rfl,?_⟩;simp only[pb1.eq_1];exact s_z [(2,100004)] (fun hs=>au_f) (fun hs=>au_h)
  |some s=>
   have hsl:=(ho2 s rfl).2;show AWp _ _ _ _ (pb1 q (n,s));rw[pb1.eq_1];refine r_m 1 ?_;refine o_3 (.callB (s:=some _) rfl rfl rfl rfl rfl rfl (fun _ h=>by cases h;exact⟨rfl,by decide⟩) (dN_ s [120] (by simp;omega))) ?_;refine ai_ ?_;refine⟨s++[120],rfl,?_⟩;simp only[pb1.eq_1];exact s_z [(2,100004)] (fun hs=>au_f) (fun hs=>au_h)
  rintro s hs3;have ho3:=ki_ ho2 (t:=[120]) (by simp) s hs3;have hsl:s.length≤B+L+5:=ho3.2;simp only[pb1.eq_1];refine r_z 2 ?_;refine aj_ rfl (fun h4=>?_) (fun h4=>?_);have h5:1< n:=by simp at h4;omega
  refine r_m 4 ?_;refine c_s (fI) ?_;refine o_0 (.bin rfl rfl (cV_ (l:=[94]) (by simp;omega))) ?_;refine o_3 (.callB (s:=some _) rfl rfl rfl rfl rfl rfl (fun _ h=>by cases h;exact⟨rfl,by decide⟩) (dN_ s ([94]++ti n) (by simp;omega))) ?_;refine ai_ ?_;refine⟨some (s++([94]++ti n)),by unfold iE_;rw[if_neg hn0,if_pos h5,←ho1e,←ht,←ho2e,hs3];rfl,?_⟩;show SEnt _ (pb1 q (n,s++([94]++ti n)));rw[pb1.eq_1];exact s_z [(2,100009)] (fun hs=>au_f) (fun hs=>au_h);have h5:¬1< n:=by simp at h4;omega
  refine ae_ ⟨some s,by unfold iE_;rw[if_neg hn0,if_neg h5,←ho1e,←ht,←ho2e,hs3],?_⟩;show SEnt _ (pb1 q (n,s));rw[pb1.eq_1];exact s_e [];rintro o' ho'
  have hok':okOx o' (B+(L+30)):=by
   rw[ho'];split;exact dU_ ho (by omega);have g1:=o4_ ho c;unfold iE_;rw[←ht]
   have g2:okOx (gn_ (sgnTx o c) t) (B+L+4):=by
    unfold gn_;split;exact dU_ g1 (by omega);exact dU_ (ki_ g1 (t:=t++[32]) (by simp)) (by simp;omega)
   have g3:=ki_ g2 (t:=[120]) (by simp);split;exact dU_ (ki_ g1 htn) (by omega);split;exact dU_ (ki_ g3 (t:=[94]++ti n) (by simp)) (by simp;omega);exact dU_ g3 (by simp;omega)
  rw[←ho'] at hr;cases o' with
  |none=>
   show AWp _ _ _ _ (pb0 q n);rw[pb0.eq_1];refine r_m 3 ?_;refine a_z ?_;refine⟨(n,none),Nat.lt_succ_self n,⟨by simp only;omega,hr,k3_ _⟩,?_⟩;show SEnt _ (pb0 q ((n:Int)- 1));rw[pb0.eq_1];exact s_e []
  |some s=>
   show AWp _ _ _ _ (pb1 q (n,s));rw[pb1.eq_1];refine r_m 3 ?_;refine a_z ?_;refine⟨(n,some s),Nat.lt_succ_self n,⟨by simp only;omega,hr,by simp only;rw[hm];exact hok'⟩,?_⟩;show SEnt _ (pb1 q ((n:Int)- 1,s));rw[pb1.eq_1];exact s_e []
 rintro o ⟨rfl,ho⟩;cases ho2:textR tq ti q q.length none with
 |none=>
  show AWp _ _ _ _ (pb0 q (-1));rw[pb0.eq_1];refine aa_ (s_r 2 ?_);refine o_0 (.callR (s:=none) (j:=0) (tb:=0) rfl rfl rfl rfl rfl (fun _ h=>by cases h) (lx_)) ?_;refine a_z ?_;refine aj_ rfl (fun h4=>?_) (fun h4=>?_);refine r_z 1 ?_;exact af_ (t_e (ad_ _));exact absurd h4 (by simp)
 |some s=>
  have hs:=ho s ho2;have hsl:s.length≠0:=by have:=hs.1;simpa using this
  have hne:=hs.1;show AWp _ _ _ _ (pb1 q (-1,s));rw[pb1.eq_1];refine aa_ (s_r 2 ?_);refine o_0 (.callR (s:=some _) rfl rfl rfl rfl rfl (fun _ h=>by cases h;exact rfl) (lw_ s)) ?_;refine a_z ?_;refine aj_ rfl (fun h4=>?_) (fun h4=>?_);exact absurd h4 (by simp;omega);refine ae_ (s_r 2 ?_);refine o_2 (.callD rfl rfl rfl rfl rfl rfl (by decide) (by first|assumption|simp) (js_)) ?_;refine a_z ?_;exact af_ (t_e (ad_ _))
theorem g7_(p:List Rat)(h:okPT p):FS 75 [.arr (pE p)] (tx (textP p)):=by
 obtain⟨h1,h2,h3⟩:=h;exact s5_ textQ dec2 6 p h1 (by decide) (fun c hc=>⟨pw_ (absQ c) (okT_abs (h3 c hc)),textQ_ne _,textQ_len.1⟩) (fun n hn=>⟨ob_ n (by omega),Nat.le_trans (gh_ n) (by decide)⟩)
def okTo(L:Nat)(p t:List Rat)(k:Rat)(n:Nat):Prop:=n< L∧smL p∧smL t∧leadP t≠0∧sm k∧smL (av_ t k)∧p.length≤274877906944∧t.length≤274877906944
instance (L:Nat) (p t:List Rat) (k:Rat) (n:Nat):Decidable (okTo L p t k n):=inferInstanceAs (Decidable (_∧_∧_∧_∧_∧_∧_∧_))

inductive LeLL:List (List AV)→List (List AV)→Prop
 |nil:LeLL [] []
 |cons {e e' es es'}:LeL e e'→LeLL es es'→LeLL (e::es) (e'::es')
theorem leL_len{xs ys:List AV}(h:LeL xs ys):ys.length=xs.length:=by
 induction h with
 |nil=>rfl
 |cons _ _ ih=>simp[ih]
theorem leL_cs{M:Nat→Prop}{β:Nat→Option (Nat×Nat)}{w:World}{b:Nat}{xs ys:List AV}(h:LeL xs ys):∀{off:Nat},RVcs M β w b xs off→RVcs M β w b ys off:=by
 induction h with
 |nil=>exact fun h=>h
 |cons h1 _ ih=>rintro off ⟨⟨x,hx,hr⟩,hs⟩;exact⟨⟨x,hx,h1 M β w x hr⟩,ih hs⟩
theorem LeLL.ess{M:Nat→Prop}{β:Nat→Option (Nat×Nat)}{w:World}{b s:Nat}{es es':List (List AV)}(h:LeLL es es'):∀{off:Nat},RVess M β w b s es off→RVess M β w b s es' off:=by
 induction h with
 |nil=>exact fun h=>h
 |cons h1 _ ih=>rintro off ⟨h0,hc,hr⟩;exact⟨(leL_len h1).trans h0,leL_cs h1 hc,ih hr⟩
theorem LeLL.length{es es':List (List AV)}(h:LeLL es es'):es'.length=es.length:=by
 induction h with
 |nil=>rfl
 |cons _ _ ih=>simp[ih]
theorem Le.arr{es es':List (List AV)}(h:LeLL es es'):Le (.arr es) (.arr es'):=by
 rintro M β w y ⟨a,c,rfl,h1,h2,h3⟩;refine⟨a,c,by rw[h.length],by rw[h.length];exact h1,h2,h3.imp (fun e=>?_) ?_⟩;subst e;cases h;rfl;rintro⟨b,off,s,rfl,hN,hm,hr⟩;exact⟨b,off,s,rfl,hN,hm,h.ess hr⟩
theorem LeLL.refl:∀es,LeLL es es
 |[]=> .nil
 |e::es=> .cons (LeL.refl e) (LeLL.refl es)
section
variable {P:Go.Program}{T:Nat}{x y:Operand}
end
theorem kp_(p:List Rat)(n:Nat)(hs:bdL p 256)(hl:p.length≤12)(hn:n≤6)(hb:∀k,k≤n→pB p.length k≤1073741824):FS 79 [.arr (pE p),i64 n] (.arr (pE (powP p n))):=by
 refine f_c Tryz.func79 ?_;refine r_z 1 ?_;refine r_c 8 (fs_Power p n hs hl hn hb) ?_;refine a_z ?_;refine r_z 2 ?_;exact af_ (t_e (aD_ _))
theorem s6_(p:List Rat)(o:okMul p [0,1]):FS 52 [.arr (pE p),.arr [zC,qC ((1:Int):Rat)]] (.arr (pE (mulP p [0,1]))):=
 (ky_ p [0,1] (mxL _) (mxL _) (ch_ _) (ch_ _) (bX_ _) (bX_ _) o.1 o.2.1 o.2.2.1 o.2.2.2).weak
  (.cons (Le.refl _) (.cons (Le.arr (.cons le_zC (.cons (LeL.refl _) .nil))) .nil)) (ab_ (aD_ p) (ab_ (aL_ fun e he c hc=>by
   rcases List.mem_cons.1 he with rfl|he
   exact ek_ c hc;rw[List.mem_singleton.1 he] at hc;exact br_ _ c hc) ah_))
def moT(f:List Rat)(s:Sp)(k:Nat):Option (List AV):=some [.agg (qC (moQ f s k))]
theorem mE_(f:List Rat)(s:Sp)(K:Nat)(hK:K≤1000000)(hok:∀k,k≤K→okMo f s k):GSpecB Tryz.prog 81 [bP f,bS s] (moT f s) K:=by
 have hcb:Closed (bP f):=bV_ f;have hcs:Closed (bS s):=fU_ s;refine GSpecB.enter Tryz.func81 rfl (by kernel_rfl) rfl rfl rfl ?_ ?_ rfl ?_;exact ab_ hcb (ab_ hcs ah_);intro k xs h;cases h;exact ab_ (aI_ _) ah_;intro ll N hN E;refine GWp.seq ?_;refine GWp.lift ?_;refine r_m 2 ?_;refine a_z ?_;refine GWp.block ?_;refine GWp.loopS (fun k:Nat=>⟨[(0,.v (.func (.yield ll) #[] #[])),(1,bP f),(2,bS s),(4,.arr (pE (gK f k)))],[],1,16⟩) (fun k=>k) (fun k=>N+1- k) (fun k=>k≤N) 0 (Nat.zero_le _) rfl ?_ ?_;exact s_e [];intro k hk;obtain⟨o1,o2,o3,o4,o5⟩:=hok k (by omega);have hin:FS 82 [.arr (pE (gK f k)),.agg (spC s.1 s.2)] (.agg (qC (moQ f s k))):=n4_ (gK f k) s.1 s.2 o1 o2 o3 o4;refine GWp.seq ?_;refine GWp.seq ?_;refine GWp.regY (fr2:=[(0,.v (.func (.yield ll) #[] #[])),(1,bP f),(2,bS s),(4,.arr (pE (gK f k))),(6,.v (.func (.yield ll) #[] #[])),(9,.agg (qC (moQ f s k)))]) (hp2:=[]) (nx2:=1) 4 rfl rfl rfl rfl rfl rfl ?_ rfl rfl rfl ?_ ?_ ?_;refine o_0 (.move rfl) ?_;refine o_0 (.move rfl) ?_
 first|refine aq_ (.load_l rfl rfl rfl TG.h TS.h (nle rfl)) rfl rfl ?_|refine aq_ (.load_a rfl rfl TG.h TS.h (nle rfl)) rfl rfl ?_
 refine o_0 (.call rfl rfl rfl (hin)) ?_;refine ai_ ?_;exact s_y [] (fun hs=>au_f) (fun hs=>au_h);rotate_left 2;intro go;refine ai_ ?_;rotate_left;rfl;exact ab_ (aI_ _) ah_;cases go with
 |false=>
  refine GWp.cond rfl (fun h=>?_) (fun h=>?_);cases h;exact GWp.exit ⟨.inl rfl,fun h=>by cases h⟩
 |true=>
  refine GWp.bound fun hk1=>?_;refine GWp.cond rfl (fun h=>?_) (fun h=>?_);rotate_left;cases h;refine GWp.skip ?_;have hwh:=aV_ 1 (by decide);have hmu:=s6_ (gK f k) o5;refine GWp.lift ?_;refine ac_ (r_m 6 ?_);refine c_s (hwh) ?_;refine a_1 ?_;refine o_1 (.callS1 rfl rfl rfl (.keep (.shut rfl d_n (.nil))) rfl (hmu)) ?_;refine a_z ?_;refine⟨rfl,k+1,by omega,hk1,rfl,?_⟩;exact s_e []
theorem iP_(l:List Rat)(q:Rat):pE (l++[q])=pE l++[qC q]:=by simp[pE]
def tk0(g:Nat)(cap:List AV)(n:Int):Unit→AState
 |u=>⟨[(3,.lptr 1 0 0),(5,.lptr 2 0 0),(7,.clos g [] cap)],[(1,some ⟨3,1,[[i64 n]]⟩),(2,some ⟨49,1,[[.emp]]⟩)],4,18⟩
def tk1(g:Nat)(cap:List AV)(n:Int)(sq:Nat→Rat):Nat→AState
 |k=>⟨[(3,.lptr 1 0 0),(5,.lptr 2 0 0),(7,.clos g [] cap)],[(1,some ⟨3,1,[[i64 n]]⟩),(2,some ⟨49,1,[[.lsl 3 0 (k+1) none 3]]⟩),(3,some ⟨35,3,pE (sqL sq (k+1))⟩)],4,18⟩
def tkX(z:Nat)(sq:Nat→Rat):Unit→AState
 |u=>⟨[(5,.lptr 1 0 0)],[(1,some ⟨49,1,[[.lsl 2 0 (z+1) none 3]]⟩),(2,some ⟨35,3,pE (sqL sq (z+1))⟩)],4,18⟩
def tkS(g:Nat)(cap:List AV)(n:Int)(sq:Nat→Rat):Nat→AState
 |0=>tk0 g cap n ()
 |k+1=>tk1 g cap n sq k
theorem ip_(g:Nat)(cap:List AV)(hcap:∀c∈cap,Closed c)(sq:Nat→Rat)(n:Nat)(hn:n≤1000)(hcm:cap.map coe=cap)(hgs:GSpecB Tryz.prog g (cap.map coe) (fun k=>some [.agg (qC (sq k))]) n):FS 83 [.clos g [] cap,i64 n] (.arr (pE (sqL sq (n+1)))):=by
 have hcF:Closed (.clos g [] cap):=ba_ ah_ hcap;refine f_c Tryz.func83 ?_;refine r_z 2 ?_;refine r_z 1 ?_;refine aa_ (r_z 1 ?_);refine aw_ (tkX n sq) (fun _=>True) ?_ ?_;refine ac_ (AWp.rangeFuncB (α:=Nat) (γ:=Unit) n (tkS g cap n sq) (fun k=>k) (fun k=>k≤n) (tkX n sq) (fun e _=>e= .exit 0) 0 rfl hgs rfl rfl ?_ (fun k=>by cases k <;> exact⟨rfl,rfl⟩) (fun _=>rfl) (Nat.zero_le _) rfl (fun _ h=>h) ?_ ?_ ?_ ?_ ?_);intro k xs hT;cases hT;rfl;show SEntT _ (tk0 g cap n ());rw[tk0.eq_1];exact s_t [(1,3),(2,5)];rw[hcm];exact hcap
 ·intro l k xs hk hT
  cases hT;cases k with
  |zero=>
   show AWp _ _ _ _ ⟨setPs (tk0 g cap n ()).fr _ _++cj_ (tk0 g cap n ()).fr,_,_,_⟩;show AWp _ _ _ _ ⟨[(8,.agg (qC (sq 0))),(3,.lptr 1 0 0),(5,.lptr 2 0 0),(7,.clos g [] cap),(1003,.lptr 1 0 0),(1005,.lptr 2 0 0),(1007,.clos g [] cap)],[(1,some ⟨3,1,[[i64 n]]⟩),(2,some ⟨49,1,[[.emp]]⟩)],4,18⟩;refine r_m 2 ?_;refine a_z ?_;refine ac_ (s_r 5 ?_);refine a_3 ?_;refine o_1 (.append_e rfl rfl rfl te_49.h rfl rfl rfl (.lsl rfl (nle rfl)) (by first|assumption|(simp;done)) TZ.h rfl TB.h d_o (by first|(simp[maxLen];done)|(simp[maxLen];omega))) ?_;refine a_z ?_;refine r_z 4 ?_;refine aj_ rfl (fun h1=>?_) (fun h1=>?_)
   have h2:n=0:=by
    simp at h1;omega
   subst h2;refine am_ (⟨rfl,(),rfl,?_⟩);show SEntT _ ⟨[(1005,.lptr 1 0 0)],[(1,some ⟨49,1,[[.lsl 2 0 (0+1) none 3]]⟩),(2,some ⟨35,3,pE (sqL sq (0+1))⟩)],4,18⟩;have:=aK_ [sq 0];exact s_t [(1,1005),(2,12)]
   have h2:¬n=0:=by
    simp at h1;omega
   refine ae_ (⟨0+1,⟨by omega,rfl⟩,?_⟩);show SEntT _ ⟨[(1003,.lptr 1 0 0),(1005,.lptr 2 0 0),(1007,.clos g [] cap)],[(1,some ⟨3,1,[[i64 n]]⟩),(2,some ⟨49,1,[[.lsl 3 0 (0+1) none 3]]⟩),(3,some ⟨35,3,pE (sqL sq (0+1))⟩)],4,18⟩;have:=aK_ [sq 0];exact s_t [(3,12)]
  |succ k=>
   show AWp _ _ _ _ ⟨setPs (tk1 g cap n sq k).fr _ _++cj_ (tk1 g cap n sq k).fr,_,_,_⟩;have e:pE (sqL sq (k+1))++[qC (sq (k+1))]=pE (sqL sq (k+1+1)):=by rw[e5_ sq (k+1),iP_]
   show AWp _ _ _ _ ⟨[(8,.agg (qC (sq (k+1)))),(3,.lptr 1 0 0),(5,.lptr 2 0 0),(7,.clos g [] cap),(1003,.lptr 1 0 0),(1005,.lptr 2 0 0),(1007,.clos g [] cap)],[(1,some ⟨3,1,[[i64 n]]⟩),(2,some ⟨49,1,[[.lsl 3 0 (k+1) none 3]]⟩),(3,some ⟨35,3,pE (sqL sq (k+1))⟩)],4,18⟩;refine r_m 2 ?_;refine a_z ?_;refine ac_ (r_z 5 ?_);refine r_z 4 ?_;refine aj_ rfl (fun h1=>?_) (fun h1=>?_)
   have h2:n=k+1:=by
    simp at h1;omega
   subst h2;refine am_ (⟨rfl,(),rfl,?_⟩);show SEntT _ ⟨[(1005,.lptr 1 0 0)],[(1,some ⟨49,1,[[.lsl 2 0 ((k+1)+1) none 3]]⟩),(2,some ⟨35,3,pE (sqL sq ((k+1)+1))⟩)],4,18⟩;exact s_t [(1,1005),(2,12)]
   have h2:¬n=k+1:=by
    simp at h1;omega
   refine ae_ (⟨k+1+1,⟨by omega,rfl⟩,?_⟩);show SEntT _ ⟨[(1003,.lptr 1 0 0),(1005,.lptr 2 0 0),(1007,.clos g [] cap)],[(1,some ⟨3,1,[[i64 n]]⟩),(2,some ⟨49,1,[[.lsl 3 0 ((k+1)+1) none 3]]⟩),(3,some ⟨35,3,pE (sqL sq ((k+1)+1))⟩)],4,18⟩;exact s_t [(3,12)]
 intro k hk hT;cases hT;rintro e u rfl;exact⟨u,trivial,SEnt.refl _⟩;rintro u _;rw[tkX.eq_1];refine r_z 2 ?_;exact af_ (Fin.tmpS rfl rfl rfl (by simp) (aK_ _))
def w0C:List AV:=[.emp,bln false,bln false]++zC++zC
theorem cp_:∀c∈w0C,Closed c:=fun c hc=>by
 unfold w0C at hc;rcases List.mem_append.1 hc with hc|hc
 rcases List.mem_append.1 hc with hc|hc
 exact ab_ bc_ (ab_ (ad_ _) (ab_ (ad_ _) ah_)) c hc;exact ek_ c hc;exact ek_ c hc
theorem oa_(a b:Rat)(n:Nat)(hn:n≤63)(hab:a< b)(ha:qs a≤256)(hb:qs b≤256)(hok:∀k,k≤n→okMo [1] (a,b) k):
    FS 15 [.agg (spC a b),i64 0,i64 0,i64 n] (.tup [.agg (wC (sqL (moQ [1] (a,b)) (n+1)) true true (qC a) (qC b)),i64 0]):=by
 have sa:sm a:=Nat.le_trans ha (by decide);have sb:sm b:=Nat.le_trans hb (by decide);have hva:=fN_ a b sa sb;rw[decide_eq_true (show cmpQ a b≤0 by unfold cmpQ;rw[if_pos hab];decide)] at hva;have hsi:=bZ_ (b- a);have hne:¬sgZ (b- a).num=0:=fun e=>by have:=sgZ_num_eq.1 e;grind
 have ho0:=bs_ 0 0 8;rw[decide_eq_false (by decide)] at ho0;have hon:=bs_ (n:Nat) 0 63;rw[decide_eq_false (by omega)] at hon
 have hp1:FS 79 [.arr [qC (-a),qC ((1:Int):Rat)],i64 0] (.arr (pE [1])):=kp_ [-a,1] 0 (fun q hq=>by
  rcases List.mem_cons.1 hq with rfl|hq
  rw[dG_];exact ha;rw[List.mem_singleton.1 hq];decide) (by simp) (by decide) (fun k hk=>by
  have:k=0:=by omega
  subst this;show pB 2 0≤_;decide)
 have hp2:FS 79 [.arr [qC b,qC ((-1:Int):Rat)],i64 0] (.arr (pE [1])):=kp_ [b,-1] 0 (fun q hq=>by
  rcases List.mem_cons.1 hq with rfl|hq
  exact hb;rw[List.mem_singleton.1 hq];decide) (by simp) (by decide) (fun k hk=>by
  have:k=0:=by omega
  subst this;show pB 2 0≤_;decide)
 have hmu:=ky_ [1] [1] 1 1 (by decide) (by decide) (by decide) (by decide) (by decide) (by decide) (by decide) (by decide);rw[show mulP [1] [1]=[1] by decide+kernel] at hmu;have htk:=ip_ 81 [bP [1],bS (a,b)] (ab_ (bV_ _) (ab_ (fU_ _) ah_)) (moQ [1] (a,b)) n (by omega) rfl (mE_ [1] (a,b) n (by omega) hok);refine f_c Tryz.func15 ?_;refine r_z 3 ?_;refine aQ_ (fun _:Unit=>⟨[(1,i64 0),(2,i64 0),(3,i64 n),(4,.lptr 1 0 0),(8,.lptr 2 0 0)],[(1,some ⟨37,6,[spC a b]⟩),(2,some ⟨51,9,[w0C]⟩)],3,58⟩) (fun _=>True) ?_ ?_;refine ac_ (r_c 10 (hva) ?_);refine c_s (g6_ a b sa sb) ?_;refine c_s (hsi) ?_;refine d_z ?_;refine cF (r_c 11 (ho0) ?_);refine c_s (ho0) ?_;refine c_s (hon) ?_;refine a_z ?_;refine cF (ae_ ⟨(),trivial,?_⟩);exact s_x [(1,4),(2,8)] (fun hs=>au_f) (fun hs=>e_35);rintro _ _;refine aa_ (r_d hmix 16 ?_);refine c_s (h0_ a) ?_;refine c_s (aV_ 1 (by decide)) ?_;refine a_2 ?_;refine o_1 (.callS1 rfl rfl rfl (.shut rfl d_n (.keep (.nil))) rfl (hp1)) ?_;refine c_s (aV_ (-1) (by decide)) ?_;refine a_2 ?_;refine o_1 (.callS1 rfl rfl rfl (.shut rfl d_n (.keep (.nil))) rfl (hp2)) ?_;refine c_s (hmu) ?_;refine a_2 ?_;refine ai_ (n_k ?_);refine AWp.ent (st':=⟨[(3,i64 n),(4,bS (a,b)),(8,.lptr 1 0 0),(10,bP [1])],[(1,some ⟨51,9,[w0C]⟩)],2,58⟩) ?_ ?_;exact s_f [(1,8)];refine r_z 2 ?_;refine aa_ (r_d hmix 10 ?_);refine c_s (htk) ?_;refine a_7 ?_;refine ai_ (n_k ?_);refine af_ (Fin.many ⟨_,_,rfl,⟨_,_,_,_,_,rfl,rfl,rfl,.inl ⟨TG.h,_,TS.h,nle rfl,rfl⟩⟩,⟨_,_,rfl,rfl,rfl⟩⟩ (nle rfl) ?_)
 exact ag_ (an_ ar_ (au_ (a7_ (.inr ⟨a,rfl⟩) (.inr ⟨b,rfl⟩)))) (ag_ (an_ ar_ (ad_ _)) ao_)
theorem i7_(L:List Rat):∀n,LeLL (List.replicate n zC++pE L) (pE (List.replicate n 0++L))
 |0=>LeLL.refl _
 |n+1=> .cons le_zC (i7_ L n)
theorem lI_(n:Nat)(L:List Rat):Closed (.arr (List.replicate n zC++pE L)):=aL_ fun c hc=>(List.mem_append.1 hc).elim (fun h=>by rw[List.eq_of_mem_replicate h];exact ek_) (aK_ L c)
theorem FSpec.zerosQ{P:Program}{f n:Nat}{L:List Rat}{a r:AV}(h:FSpec P f [a,.arr (pE (List.replicate n 0++L))] r)(ha:Closed a):FSpec P f [a,.arr (List.replicate n zC++pE L)] r:=
 h.weak (.cons (Le.refl _) (.cons (Le.arr (i7_ L n)) .nil)) (ab_ ha (ab_ (lI_ n L) ah_))
theorem jX_(n:Nat):(List.replicate n zC).all (·.all AV.one)=true:=by
 simp only[List.all_replicate];cases n <;> rfl
def tmS(f:Nat→Rat)(t1:AV)(W:List AV):Nat→AState
 |0=>⟨[(6,i64 ((0:Nat):Int)),(5,.emp),(1,t1),(2,.lptr 1 0 0),(4,.lptr 2 0 0)],[(1,some ⟨51,9,[W]⟩),(2,some ⟨51,9,[w0C]⟩)],3,29⟩
 |k+1=>⟨[(6,i64 ((k+1:Nat):Int)),(5,.lsl 3 0 (k+1) none 3),(1,t1),(2,.lptr 1 0 0),(4,.lptr 2 0 0)],[(1,some ⟨51,9,[W]⟩),(2,some ⟨51,9,[w0C]⟩),(3,some ⟨35,3,pE (sqL f (k+1))⟩)],4,29⟩
theorem kr_(p m:List Rat)(l r:Bool)(a b:Rat)(s t:Nat)(hp:bdL p s)(hm:bdL m t)(hs:1≤s)(ht:1≤t)(hpl:p.length≤1000)(hml:m.length≤1000)(hlim:(p.length+m.length+3) * (s+t+1)≤137438953472):
    FS 121 [.agg (wC m l r (qC a) (qC b)),.arr (pE p)] (.agg (wC (sqL (tmQ p m) (m.length+1- (trimQ p).length)) l r (qC a) (qC b))):=by
 obtain⟨K,hK⟩:∃K,K=m.length+1- (trimQ p).length:=⟨_,rfl⟩;rw[←hK];have htl:=aB_ p;have hdg:=bC_ p (by omega);have hd:degP p=((trimQ p).length:Int)- 1:=rfl;have hWc:∀c∈wC m l r (qC a) (qC b),Closed c:=a7_ (.inr ⟨a,rfl⟩) (.inr ⟨b,rfl⟩)
 have hof:∀k,k< K→FS 114 [.agg (wC m l r (qC a) (qC b)),.arr (List.replicate k zC++pE p)] (.agg (qC (tmQ p m k))):=fun k hlt=>by
  have hle:k+(trimQ p).length≤m.length:=by omega
  exact FSpec.zerosQ (fs_of (List.replicate k 0++p) m l r a b s t (jL_ hp hs k) hm hs ht (by simp;omega) (iB_ p k _ hle) (Nat.le_trans (Nat.mul_le_mul_right _ (by simp;omega)) hlim)) (au_ hWc)
 have e:∀k,pE (sqL (tmQ p m) k)++[qC (tmQ p m k)]=pE (sqL (tmQ p m) (k+1)):=fun k=>by rw[e5_,iP_]
 generalize tmQ p m=f at hof e⊢;refine f_c Tryz.func121 ?_;refine r_z 2 ?_;refine r_z 1 ?_;refine aa_ (r_z 1 ?_);refine aw_ (fun _:Unit=>⟨[(2,.lptr 1 0 0),(4,.lptr 2 0 0),(5,.arr (pE (sqL f K)))],[(1,some ⟨51,9,[wC m l r (qC a) (qC b)]⟩),(2,some ⟨51,9,[w0C]⟩)],3,29⟩) (fun _=>True) ?_ ?_;refine ac_ (ap_ (fun k:Nat=>tmS f (.arr (pE p)) (wC m l r (qC a) (qC b)) k) (fun k=>K- k) (fun k=>k≤K) 0 (Nat.zero_le _) ?_ ?_);rw[tmS.eq_1];refine s_x [(1,2),(2,4)] (fun hs=>au_f) (fun hs=>?_)
 ·repeat' (first|exact az_|refine h_c ?_ ?_|exact al_ (CvL.clo hs hWc)|exact al_ (CvL.clo hs cp_)|exact au_e)
 rintro k hk;by_cases hlt:k< K
 ·have hle:k+(trimQ p).length≤m.length:=by omega
  have hof:=hof k hlt;have e:=e k;cases k with
  |zero=>
   rw[tmS.eq_1];refine aa_ (aa_ (r_d hmix 8 ?_));refine c_s (hdg) ?_;refine d_5 ?_;refine ai_ (n_k ?_);refine cT (ae_ (aa_ (ac_ (r_d hmix 10 ?_))));refine a_5 ?_;refine o_2 (.append_l rfl rfl rfl te_55.h rfl rfl rfl rfl rfl d_o (jX_ _) (cr_ _) rfl (.arr (gw_ _)) TZ.h rfl TB.h d_o (by first|(simp[maxLen];done)|(simp[maxLen];omega))) ?_;refine o_1 (.callS1 rfl rfl rfl (.keep (.shut rfl d_n (.nil))) rfl ((FSpec.argE2 hof (by rw[List.drop_zero];exact List.take_of_length_le (by simp))))) ?_;refine a_3 ?_;refine ai_ (n_k ?_);refine r_m 3 ?_;refine a_z ?_;refine⟨0+1,by omega,hlt,?_⟩;rw[tmS.eq_2];refine s_x [(3,5)] (fun hs=>au_f) (fun hs=>?_)
   ·repeat' (first|exact az_|refine h_c ?_ ?_|exact al_ (CvL.clo hs hWc)|exact al_ (CvL.clo hs cp_)|exact bi_ hs (aK_ [f 0])|exact au_e)
  |succ k=>
   rw[tmS.eq_2];refine aa_ (aa_ (r_d hmix 8 ?_));refine c_s (hdg) ?_;refine d_5 ?_;refine ai_ (n_k ?_);refine cT (ae_ (aa_ (ac_ (r_d hmix 10 ?_))));refine a_5 ?_;refine o_2 (.append_l rfl rfl rfl te_55.h rfl rfl rfl rfl rfl d_o (jX_ _) (cr_ _) rfl (.arr (gw_ _)) TZ.h rfl TB.h d_o (by first|(simp[maxLen];done)|(simp[maxLen];omega))) ?_;refine o_1 (.callS1 rfl rfl rfl (.keep (.shut rfl d_n (.nil))) rfl ((FSpec.argE2 hof (by rw[List.drop_zero];exact List.take_of_length_le (by simp))))) ?_;refine a_3 ?_;refine ai_ (n_k ?_);refine r_m 3 ?_;refine a_z ?_;refine⟨k+1+1,by omega,hlt,?_⟩;rw[tmS.eq_2];refine s_x [(3,5)] (fun hs=>au_f) (fun hs=>?_) e_4
   ·repeat' (first|exact az_|refine h_c ?_ ?_|exact al_ (CvL.clo hs hWc)|exact al_ (CvL.clo hs cp_)|exact aC_ hs e (aK_ _)|exact au_e)
 have hge:k=K:=by omega
 subst hge;cases k with
 |zero=>
  rw[tmS.eq_1];refine aa_ (aa_ (r_d hmix 8 ?_));refine c_s (hdg) ?_;refine d_5 ?_;refine ai_ (n_k ?_);refine cF (am_ ⟨(),trivial,?_⟩);exact s_e []
 |succ k=>
  rw[tmS.eq_2];refine aa_ (aa_ (r_d hmix 8 ?_));refine c_s (hdg) ?_;refine d_5 ?_;refine ai_ (n_k ?_);refine cF (am_ ⟨(),trivial,?_⟩);refine s_x [] (fun hs=>?_) (fun hs=>?_)
  ·repeat' (first|exact a2_|refine aH_ rfl ?_ ?_|exact Cv.shut hs rfl (aW_ rfl) (by simp) (aC_ hs (by rw[List.drop_zero];exact List.take_of_length_le (by simp)) (aK_ _))|exact au_c)
  ·repeat' (first|exact az_|refine h_c ?_ ?_|exact au_e|refine al_ ?_|exact ao_|refine ag_ ?_ ?_|exact Cv.shut hs rfl (aW_ rfl) (by simp) (aC_ hs (by rw[List.drop_zero];exact List.take_of_length_le (by simp)) (aK_ _))|exact au_c)
 rintro _ _;refine r_z 3 ?_;refine r_z 2 ?_;exact af_ (c_e (au_ (a7_ (.inr ⟨a,rfl⟩) (.inr ⟨b,rfl⟩))))
end Go.Proofs.YtdjfjpeoddmamaaGreatDoor
