/- Part Y14 of the proof. -/
import Derived.Test.YtdjfjpeoddmamaaGreatDoorY13
import Derived.Shelf.Strconv.Itoa3
set_option linter.all false
namespace Go.Proofs.YtdjfjpeoddmamaaGreatDoor
open Go.Abs
set_option maxRecDepth 100000
set_option maxHeartbeats 2000000
section
variable {P:Go.Program}{T:Nat}{x y:Operand}
theorem o2_{l m:List UInt8}:∀w,(do eqGuard .neq T x y (.string ⟨l.toArray⟩) (.string ⟨m.toArray⟩);binOp .neq T (.string ⟨l.toArray⟩) (.string ⟨m.toArray⟩):Sem Value).run P w= .ok (.bool (!decide (l=m))) w:=fun w=>by
 rw[o1_]
 congr 2
 have e:∀l:List UInt8,(⟨l.toArray⟩:ByteArray).toList=l:=by
  intro l
  have:=ByteArray.toList_eq (bs:=⟨l.toArray⟩)
  simpa using this
 rw[e,e]
 rw[Bool.eq_iff_iff];simp
end
def sgnTx(o:Option (List UInt8))(c:Rat):Option (List UInt8):=
 match o with
 |none=>if c< 0 then some [45] else none
 |some s=>if c< 0 then some (s++[32,45,32]) else some (s++[32,43,32])
def wrO(o:Option (List UInt8))(t:List UInt8):Option (List UInt8):=some (o.getD []++t)
def fN_(o:Option (List UInt8))(t:List UInt8):Option (List UInt8):=if t=[49] then o else wrO o (t++[32])
def ig_(tq:Rat→List UInt8)(ti:Nat→List UInt8)(o:Option (List UInt8))(c:Rat)(n:Nat):Option (List UInt8):=
 if n=0 then wrO (sgnTx o c) (tq (absQ c))
 else if 1< n then wrO (wrO (fN_ (sgnTx o c) (tq (absQ c))) [120]) ([94]++ti n) else wrO (fN_ (sgnTx o c) (tq (absQ c))) [120]
def textR(tq:Rat→List UInt8)(ti:Nat→List UInt8)(p:List Rat):Nat→Option (List UInt8)→Option (List UInt8)
 |0,o=>o
 |n+1,o=>textR tq ti p n (if coP p n=0 then o else ig_ tq ti o (coP p n) n)
def textG(tq:Rat→List UInt8)(ti:Nat→List UInt8)(p:List Rat):List UInt8:=(textR tq ti (trimQ p) (trimQ p).length none).getD [48]
def textP(p:List Rat):List UInt8:=textG textQ dec2 p
def okPT(p:List Rat):Prop:=p.length≤1000∧(trimQ p).length≤99∧(∀c∈trimQ p,okT c)
instance (p:List Rat):Decidable (okPT p):=inferInstanceAs (Decidable (_∧_∧_))
def pb0(p:List Rat):Int→AState
 |n=>⟨[(0,.arr (pE p)),(3,.lptr 1 0 0),(4,i64 n)],[(1,some ⟨223,2,[bldC 1 2 none]⟩)],4,67⟩
def pb1(p:List Rat):Int×List UInt8→AState
 |(n,s)=>⟨[(0,.arr (pE p)),(3,.lptr 1 0 0),(4,i64 n)],[(1,some ⟨223,2,[bldC 1 2 (some s)]⟩),(2,some ⟨5,1,bE s⟩)],4,67⟩
def pbS(p:List Rat)(n:Int):Option (List UInt8)→AState
 |none=>pb0 p n
 |some s=>pb1 p (n,s)
def pc0(p:List Rat)(c:Rat):Int→AState
 |n=>⟨[(0,.arr (pE p)),(3,.lptr 1 0 0),(4,i64 n),(5,.lptr 3 0 0)],[(1,some ⟨223,2,[bldC 1 2 none]⟩),(3,some ⟨35,3,[qC c]⟩)],4,67⟩
def pc1(p:List Rat)(c:Rat):Int×List UInt8→AState
 |(n,s)=>⟨[(0,.arr (pE p)),(3,.lptr 1 0 0),(4,i64 n),(5,.lptr 3 0 0)],[(1,some ⟨223,2,[bldC 1 2 (some s)]⟩),(2,some ⟨5,1,bE s⟩),(3,some ⟨35,3,[qC c]⟩)],4,67⟩
def pcS(p:List Rat)(c:Rat)(n:Int):Option (List UInt8)→AState
 |none=>pc0 p c n
 |some s=>pc1 p c (n,s)
def pd0(p:List Rat)(t:List UInt8):Int→AState
 |n=>⟨[(0,.arr (pE p)),(3,.lptr 1 0 0),(4,i64 n),(6,tx t)],[(1,some ⟨223,2,[bldC 1 2 none]⟩)],4,67⟩
def pd1(p:List Rat)(t:List UInt8):Int×List UInt8→AState
 |(n,s)=>⟨[(0,.arr (pE p)),(3,.lptr 1 0 0),(4,i64 n),(6,tx t)],[(1,some ⟨223,2,[bldC 1 2 (some s)]⟩),(2,some ⟨5,1,bE s⟩)],4,67⟩
def pdS(p:List Rat)(t:List UInt8)(n:Int):Option (List UInt8)→AState
 |none=>pd0 p t n
 |some s=>pd1 p t (n,s)
def okOx(o:Option (List UInt8))(n:Nat):Prop:=∀s,o=some s→s≠[]∧s.length≤n
theorem kt_(n:Nat):okOx none n:=fun s h=>by cases h
theorem jP_{o:Option (List UInt8)}{n:Nat}{t:List UInt8}(h:okOx o n)(h0:t≠[]):okOx (wrO o t) (n+t.length):=by
 intro s hs
 cases hs
 cases o with
 |none=>exact⟨by simpa using h0,by simp⟩
 |some q=>exact⟨by simp[h0],by have:=(h q rfl).2;simp;omega⟩
theorem oa_{o:Option (List UInt8)}{n:Nat}(h:okOx o n)(c:Rat):okOx (sgnTx o c) (n+3):=by
 intro s hs
 cases o with
 |none=>
  simp only[sgnTx] at hs
  split at hs
  cases hs;exact⟨by simp,by simp⟩
  cases hs
 |some q=>
  have:=(h q rfl).2
  simp only[sgnTx] at hs
  split at hs <;> cases hs <;> exact⟨by simp,by simp;omega⟩
theorem dB_{o:Option (List UInt8)}{n m:Nat}(h:okOx o n)(hm:n≤m):okOx o m:=fun s hs=>⟨(h s hs).1,Nat.le_trans (h s hs).2 hm⟩
theorem textQ_ne(q:Rat):textQ q≠[]:=List.length_pos_iff.1 (textQ_len (q:=q)).2
theorem sgZ_neg(c:Rat):sgZ c.num< 0↔c< 0:=by
 rw[←hk_]
 unfold sgZ
 split
 omega
 split <;> omega
theorem okT_abs{c:Rat}(h:okT c):okT (absQ c):=by
 rw[hw_]
 split
 obtain⟨h1,h2⟩:=h
 exact⟨by rw[Rat.neg_num];simpa using h1,by rw[Rat.neg_den];exact h2⟩
 exact h
theorem rK_(tq:Rat→List UInt8)(ti:Nat→List UInt8)(L:Nat)(p:List Rat)(h1:p.length≤1000)(hL:L≤10000)(h3:∀c∈trimQ p,FSpec Tryz.prog 74 [.agg (qC (absQ c))] (tx (tq (absQ c)))∧tq (absQ c)≠[]∧(tq (absQ c)).length≤L)(hI:∀n,n< (trimQ p).length→FSpec Tryz.prog 172 [i64 n] (tx (ti n))∧(ti n).length≤20):FSpec Tryz.prog 75 [.arr (pE p)] (tx (textG tq ti p)):=by
 have htr:=cI_ p (by omega)
 obtain⟨q,hq⟩:∃q,q=trimQ p:=⟨_,rfl⟩
 have hR:textG tq ti p=(textR tq ti q q.length none).getD [48]:=by unfold textG;rw[hq]
 rw[hR]
 have h2:=a2_ p
 rw[←hq] at htr h2 h3 hI
 have hall:∀k,(q.length- k) * (L+30)≤10030000:=fun k=>Nat.mul_le_mul (show q.length- k≤1000 by omega) (show L+30≤10030 by omega)
 refine f_n Tryz.func75 ?_ ?_
 exact aa_ (at_ p) ab_
 refine r_z 1 ?_
 refine r_z 1 ?_
 refine r_c 3 (htr) ?_
 refine a_z ?_
 refine ac_ (r_z 4 ?_)
 refine aB_ (pbS q (-1)) (fun o=>o=textR tq ti q q.length none∧okOx o 20000000) ?_ ?_
 refine ag_ (ax_ (fun x:Nat×Option (List UInt8)=>pbS q ((x.1:Int)- 1) x.2) (fun x=>x.1) (fun x=>x.1≤q.length∧textR tq ti q x.1 x.2=textR tq ti q q.length none∧okOx x.2 ((q.length- x.1) * (L+30))) (q.length,none) ⟨Nat.le_refl _,rfl,kt_ _⟩ ?_ ?_)
 show SEnt _ (pb0 q ((q.length:Int)- 1))
 rw[pb0.eq_1]
 exact s_e [(1,3)]
 rintro⟨n,o⟩ ⟨hn,hr,ho⟩
 simp only at hn hr ho
 cases n with
 |zero=>
  cases o with
  |none=>
   show AWp _ _ _ _ (pb0 q (((0:Nat):Int)- 1))
   rw[pb0.eq_1]
   refine ac_ (r_z 2 ?_)
   refine am_ rfl (fun h4=>?_) (fun h4=>?_)
   exact absurd h4 (by simp)
   refine av_ ⟨none,⟨hr,kt_ _⟩,?_⟩
   show SEnt _ (pb0 q (-1))
   rw[pb0.eq_1]
   exact s_e []
  |some s=>
   show AWp _ _ _ _ (pb1 q (((0:Nat):Int)- 1,s))
   rw[pb1.eq_1]
   refine ac_ (r_z 2 ?_)
   refine am_ rfl (fun h4=>?_) (fun h4=>?_)
   exact absurd h4 (by simp)
   refine av_ ⟨some s,⟨hr,dB_ ho (by have:=hall 0;omega)⟩,?_⟩
   show SEnt _ (pb1 q (-1,s))
   rw[pb1.eq_1]
   exact s_e []
 |succ n=>
  have hcn:((n+1:Nat):Int)- 1=(n:Int):=by omega
  rw[hcn]
  rw[textR] at hr
  have hlt:n< q.length:=by omega
  obtain⟨c,hc⟩:∃c,c=coP q n:=⟨_,rfl⟩
  rw[←hc] at hr
  have hg:(pE q)[((n:Nat):Int).toNat]?=some (qC c):=by rw[Int.toNat_natCast,hc];exact bD_ (bd_ hlt)
  obtain⟨fT,htn,htl⟩:=h3 c (by rw[hc];exact List.mem_of_getElem? (bd_ hlt))
  have hm:(q.length- n) * (L+30)=(q.length- (n+1)) * (L+30)+(L+30):=by
   rw[show q.length- n=(q.length- (n+1))+1 by omega,Nat.add_mul,Nat.one_mul]
  obtain⟨B,hB⟩:∃B,B=(q.length- (n+1)) * (L+30):=⟨_,rfl⟩
  have hmx:B≤10030000:=by rw[hB];exact hall _
  rw[←hB] at ho hm
  obtain⟨t,ht⟩:∃t,t=tq (absQ c):=⟨_,rfl⟩
  rw[←ht] at htn htl fT
  obtain⟨fI,hd2⟩:=hI n hlt
  refine aU_ (fun _:Unit=>pbS q n o) (fun _=>True) ?_ ?_
  cases o with
  |none=>
   show AWp _ _ _ _ (pb0 q n)
   rw[pb0.eq_1]
   refine r_z 2 ?_
   refine am_ rfl (fun h4=>?_) (fun h4=>?_)
   refine ah_ ⟨(),trivial,?_⟩
   show SEnt _ (pb0 q n)
   rw[pb0.eq_1]
   exact s_e []
   exact absurd h4 (by simp)
  |some s=>
   show AWp _ _ _ _ (pb1 q (n,s))
   rw[pb1.eq_1]
   refine r_z 2 ?_
   refine am_ rfl (fun h4=>?_) (fun h4=>?_)
   refine ah_ ⟨(),trivial,?_⟩
   show SEnt _ (pb1 q (n,s))
   rw[pb1.eq_1]
   exact s_e []
   exact absurd h4 (by simp)
  rintro _ _
  refine aU_ (pbS q n) (fun o'=>o'=(if c=0 then o else ig_ tq ti o c n)) ?_ ?_
  refine ag_ (aU_ (fun _:Unit=>pcS q c n o) (fun _=>True) ?_ ?_)
  cases o with
  |none=>
   show AWp _ _ _ _ (pb0 q n)
   rw[pb0.eq_1]
   refine r_m 6 ?_
   refine a_2 ?_
   refine i_x hg ?_
   refine l_x hg ?_
   refine a_z ?_
   refine⟨(),trivial,?_⟩
   show SEnt _ (pc0 q c n)
   rw[pc0.eq_1]
   refine ar_ [(3,5)] rfl rfl rfl au_r (fun hs=>au_f) (fun hs=>?_)
   ·repeat' (first|exact ap_|refine al_ rfl rfl rfl rfl ?_ ?_)
    all_goals (first|(exact aH_ hs (aa_ (aO_ c) ab_))|exact au_e)
  |some s=>
   show AWp _ _ _ _ (pb1 q (n,s))
   rw[pb1.eq_1]
   refine r_m 6 ?_
   refine a_2 ?_
   refine i_x hg ?_
   refine l_x hg ?_
   refine a_z ?_
   refine⟨(),trivial,?_⟩
   show SEnt _ (pc1 q c (n,s))
   rw[pc1.eq_1]
   refine ar_ [(3,5)] rfl rfl rfl au_r (fun hs=>au_f) (fun hs=>?_)
   ·repeat' (first|exact ap_|refine al_ rfl rfl rfl rfl ?_ ?_)
    all_goals (first|(exact aH_ hs (aa_ (aO_ c) ab_))|exact au_e)
  rintro _ _
  refine aU_ (fun _:Unit=>pcS q c n o) (fun _=>c≠0) ?_ ?_
  cases o with
  |none=>
   show AWp _ _ _ _ (pc0 q c n)
   rw[pc0.eq_1]
   refine r_c 3 (bI_ c) ?_
   refine a_z ?_
   refine am_ rfl (fun h4=>?_) (fun h4=>?_)
   have h5:c=0:=sgZ_num_eq.1 (by simpa using h4)
   refine av_ ⟨none,by rw[if_pos h5],?_⟩
   show SEnt _ (pb0 q n)
   rw[pb0.eq_1]
   exact s_e []
   have h5:c≠0:=fun e=>by have h6:=sgZ_num_eq.2 e;simp[h6] at h4
   refine ah_ ⟨(),h5,?_⟩
   show SEnt _ (pc0 q c n)
   rw[pc0.eq_1]
   exact s_e []
  |some s=>
   show AWp _ _ _ _ (pc1 q c (n,s))
   rw[pc1.eq_1]
   refine r_c 3 (bI_ c) ?_
   refine a_z ?_
   refine am_ rfl (fun h4=>?_) (fun h4=>?_)
   have h5:c=0:=sgZ_num_eq.1 (by simpa using h4)
   refine av_ ⟨some s,by rw[if_pos h5],?_⟩
   show SEnt _ (pb1 q (n,s))
   rw[pb1.eq_1]
   exact s_e []
   have h5:c≠0:=fun e=>by have h6:=sgZ_num_eq.2 e;simp[h6] at h4
   refine ah_ ⟨(),h5,?_⟩
   show SEnt _ (pc1 q c (n,s))
   rw[pc1.eq_1]
   exact s_e []
  rintro _ hc0
  rw[if_neg hc0]
  have hsg:(sgZ c.num< 0)↔c< 0:=sgZ_neg c
  refine aU_ (pcS q c n) (fun o'=>o'=sgnTx o c) ?_ ?_
  refine ag_ ?_
  cases o with
  |none=>
   show AWp _ _ _ _ (pc0 q c n)
   rw[pc0.eq_1]
   refine s_r 8 ?_
   refine o_0 (.callR (s:=none) (j:=0) (tb:=0) rfl rfl rfl rfl rfl (fun _ h=>by cases h) (kS_)) ?_
   refine a_2 ?_
   first|refine y_g rfl d_t (.load_l rfl rfl rfl tg_35.h ts_35.h (nle rfl)) ?_|refine y_g rfl d_t (.load_a rfl rfl tg_35.h ts_35.h (nle rfl)) ?_
   refine y_g rfl d_t (.call rfl rfl rfl (bI_ c)) ?_
   refine y_g rfl d_t (.bin rfl rfl do_) ?_
   refine o_0 (.pickT rfl d_t rfl) ?_
   refine a_z ?_
   refine am_ rfl (fun h4=>?_) (fun h4=>?_)
   have h5:c< 0:=hsg.1 (by simpa using h4)
   refine r_m 1 ?_
   refine o_2 (.callB (s:=none) (j:=0) rfl rfl rfl rfl rfl rfl (fun _ h=>by cases h) (et_ [45] (by simp) (by simp))) ?_
   refine an_ ?_
   refine⟨some [45],by simp only[sgnTx];rw[if_pos h5],?_⟩
   show SEnt _ (pc1 q c (n,[45]))
   rw[pc1.eq_1]
   refine SEnt.to2 [(2,100012)] rfl rfl rfl au_r (fun hs=>au_f) (fun hs=>?_)
   ·repeat' (first|exact ap_|refine al_ rfl rfl rfl rfl ?_ ?_)
    all_goals (first|(exact aH_ hs (aa_ (aO_ c) ab_))|exact au_e)
   have h5:¬c< 0:=fun e=>by have h6:=hsg.2 e;simp[h6] at h4
   refine s_r 8 ?_
   refine o_0 (.callR (s:=none) (j:=0) (tb:=0) rfl rfl rfl rfl rfl (fun _ h=>by cases h) (kS_)) ?_
   refine a_2 ?_
   refine n_g rfl d_f ?_
   refine n_g rfl d_f ?_
   refine n_g rfl d_f ?_
   refine o_0 (.pickF rfl d_f rfl) ?_
   refine a_z ?_
   refine cF (s_r 3 ?_)
   refine o_0 (.callR (s:=none) (j:=0) (tb:=0) rfl rfl rfl rfl rfl (fun _ h=>by cases h) (kS_)) ?_
   refine a_z ?_
   refine am_ rfl (fun h7=>?_) (fun h7=>?_)
   exact absurd h7 (by simp)
   refine ah_ ⟨none,by simp only[sgnTx];rw[if_neg h5],?_⟩
   show SEnt _ (pc0 q c n)
   rw[pc0.eq_1]
   exact s_e []
  |some s=>
   have hsn:=(ho s rfl).1
   have hsl:=(ho s rfl).2
   have hs0:s.length≠0:=by simpa using hsn
   show AWp _ _ _ _ (pc1 q c (n,s))
   rw[pc1.eq_1]
   refine s_r 8 ?_
   refine o_0 (.callR (s:=some _) rfl rfl rfl rfl rfl (fun _ h=>by cases h;exact rfl) (kR_ s)) ?_
   refine a_2 ?_
   refine n_g rfl (by simp;omega) ?_
   refine n_g rfl (by simp;omega) ?_
   refine n_g rfl (by simp;omega) ?_
   refine o_0 (.pickF rfl (by simp;omega) rfl) ?_
   refine a_z ?_
   refine am_ rfl (fun h4=>?_) (fun h4=>?_)
   ·first|(simp at h4;done)|(simp at h4;omega)|(simp at h4;exact absurd h4 hsn)
   refine s_r 8 ?_
   refine o_0 (.callR (s:=some _) rfl rfl rfl rfl rfl (fun _ h=>by cases h;exact rfl) (kR_ s)) ?_
   refine a_2 ?_
   first|refine y_g rfl (by simp;omega) (.load_l rfl rfl rfl tg_35.h ts_35.h (nle rfl)) ?_|refine y_g rfl (by simp;omega) (.load_a rfl rfl tg_35.h ts_35.h (nle rfl)) ?_
   refine y_g rfl (by simp;omega) (.call rfl rfl rfl (bI_ c)) ?_
   refine y_g rfl (by simp;omega) (.bin rfl rfl do_) ?_
   refine o_0 (.pickT rfl (by simp;omega) rfl) ?_
   refine a_z ?_
   refine am_ rfl (fun h6=>?_) (fun h6=>?_)
   have h5:c< 0:=hsg.1 (by simpa using h6)
   refine r_m 1 ?_
   refine o_3 (.callB (s:=some _) rfl rfl rfl rfl rfl rfl (fun _ h=>by cases h;exact⟨rfl,by decide⟩) (dv_ s [32,45,32] (by simp;omega))) ?_
   refine an_ ?_
   refine⟨some (s++[32,45,32]),by simp only[sgnTx];rw[if_pos h5],?_⟩
   show SEnt _ (pc1 q c (n,s++[32,45,32]))
   rw[pc1.eq_1]
   refine SEnt.to2 [(2,100020)] rfl rfl rfl au_r (fun hs=>au_f) (fun hs=>?_)
   ·repeat' (first|exact ap_|refine al_ rfl rfl rfl rfl ?_ ?_)
    all_goals (first|(exact aH_ hs (aa_ (aO_ c) ab_))|exact au_e)
   have h5:¬c< 0:=fun e=>by have h7:=hsg.2 e;simp[h7] at h6
   refine s_r 3 ?_
   refine o_0 (.callR (s:=some _) rfl rfl rfl rfl rfl (fun _ h=>by cases h;exact rfl) (kR_ s)) ?_
   refine a_z ?_
   refine am_ rfl (fun h7=>?_) (fun h7=>?_)
   refine r_m 1 ?_
   refine o_3 (.callB (s:=some _) rfl rfl rfl rfl rfl rfl (fun _ h=>by cases h;exact⟨rfl,by decide⟩) (dv_ s [32,43,32] (by simp;omega))) ?_
   refine an_ ?_
   refine⟨some (s++[32,43,32]),by simp only[sgnTx];rw[if_neg h5],?_⟩
   show SEnt _ (pc1 q c (n,s++[32,43,32]))
   rw[pc1.eq_1]
   refine SEnt.to2 [(2,100023)] rfl rfl rfl au_r (fun hs=>au_f) (fun hs=>?_)
   ·repeat' (first|exact ap_|refine al_ rfl rfl rfl rfl ?_ ?_)
    all_goals (first|(exact aH_ hs (aa_ (aO_ c) ab_))|exact au_e)
   ·first|(simp at h7;done)|(simp at h7;omega)|(simp at h7;exact absurd h7 hsn)
  rintro o1 rfl
  have ho1:=oa_ ho c
  obtain⟨o1,ho1e⟩:∃o1,o1=sgnTx o c:=⟨_,rfl⟩
  rw[←ho1e] at ho1⊢
  refine aU_ (fun _:Unit=>pdS q t n o1) (fun _=>True) ?_ ?_
  cases o1 with
  |none=>
   show AWp _ _ _ _ (pc0 q c n)
   rw[pc0.eq_1]
   refine r_m 4 ?_
   refine c_s (oy_ c) ?_
   refine c_s (fT) ?_
   refine a_z ?_
   refine⟨(),trivial,?_⟩
   show SEnt _ (pd0 q t n)
   rw[pd0.eq_1]
   exact s_e []
  |some s=>
   show AWp _ _ _ _ (pc1 q c (n,s))
   rw[pc1.eq_1]
   refine r_m 4 ?_
   refine c_s (oy_ c) ?_
   refine c_s (fT) ?_
   refine a_z ?_
   refine⟨(),trivial,?_⟩
   show SEnt _ (pd1 q t (n,s))
   rw[pd1.eq_1]
   exact s_e []
  rintro _ _
  refine aU_ (fun _:Unit=>pdS q t n o1) (fun _=>n≠0) ?_ ?_
  cases o1 with
  |none=>
   show AWp _ _ _ _ (pd0 q t n)
   rw[pd0.eq_1]
   refine r_z 2 ?_
   refine am_ rfl (fun h4=>?_) (fun h4=>?_)
   have h5:n=0:=by simpa using h4
   subst h5
   refine s_r 2 ?_
   refine a_1 ?_
   refine o_2 (.callB (s:=none) (j:=0) rfl rfl rfl rfl rfl rfl (fun _ h=>by cases h) (et_ t htn (by omega))) ?_
   refine an_ ?_
   refine av_ ⟨some t,by unfold ig_;rw[if_pos rfl,←ho1e,←ht];rfl,?_⟩
   show SEnt _ (pb1 q (((0:Nat):Int),t))
   rw[pb1.eq_1]
   refine SEnt.to2 [(2,100007)] rfl rfl rfl au_r (fun hs=>au_f) (fun hs=>au_h)
   have h5:n≠0:=fun e=>by simp[e] at h4
   refine ah_ ⟨(),h5,?_⟩
   show SEnt _ (pd0 q t n)
   rw[pd0.eq_1]
   exact s_e []
  |some s=>
   have hsl:=(ho1 s rfl).2
   show AWp _ _ _ _ (pd1 q t (n,s))
   rw[pd1.eq_1]
   refine r_z 2 ?_
   refine am_ rfl (fun h4=>?_) (fun h4=>?_)
   have h5:n=0:=by simpa using h4
   subst h5
   refine s_r 2 ?_
   refine a_1 ?_
   refine o_3 (.callB (s:=some _) rfl rfl rfl rfl rfl rfl (fun _ h=>by cases h;exact⟨rfl,by decide⟩) (dv_ s t (by omega))) ?_
   refine an_ ?_
   refine av_ ⟨some (s++t),by unfold ig_;rw[if_pos rfl,←ho1e,←ht];rfl,?_⟩
   show SEnt _ (pb1 q (((0:Nat):Int),s++t))
   rw[pb1.eq_1]
   refine SEnt.to2 [(2,100007)] rfl rfl rfl au_r (fun hs=>au_f) (fun hs=>au_h)
   have h5:n≠0:=fun e=>by simp[e] at h4
   refine ah_ ⟨(),h5,?_⟩
   show SEnt _ (pd1 q t (n,s))
   rw[pd1.eq_1]
   exact s_e []
  rintro _ hn0
  refine aU_ (pbS q n) (fun o'=>o'=fN_ o1 t) ?_ ?_
  cases o1 with
  |none=>
   show AWp _ _ _ _ (pd0 q t n)
   rw[pd0.eq_1]
   refine s_r 2 ?_
   refine a_1 ?_
   refine o_0 (.bin rfl rfl (o2_ (m:=[49]))) ?_
   refine an_ ?_
   refine am_ rfl (fun h4=>?_) (fun h4=>?_)
   have h5:¬t=[49]:=by simpa using h4
   refine r_m 3 ?_
   refine a_1 ?_
   refine o_0 (.bin rfl rfl (cM_ (m:=[32]) (by simp;omega))) ?_
   refine o_2 (.callB (s:=none) (j:=0) rfl rfl rfl rfl rfl rfl (fun _ h=>by cases h) (et_ (t++[32]) (by simp) (by simp;omega))) ?_
   refine an_ ?_
   refine⟨some (t++[32]),by unfold fN_;rw[if_neg h5];rfl,?_⟩
   show SEnt _ (pb1 q (n,t++[32]))
   rw[pb1.eq_1]
   refine SEnt.to2 [(2,100008)] rfl rfl rfl au_r (fun hs=>au_f) (fun hs=>au_h)
   have h5:t=[49]:=by simpa using h4
   refine ah_ ⟨none,by unfold fN_;rw[if_pos h5],?_⟩
   show SEnt _ (pb0 q n)
   rw[pb0.eq_1]
   exact s_e []
  |some s=>
   have hsl:=(ho1 s rfl).2
   show AWp _ _ _ _ (pd1 q t (n,s))
   rw[pd1.eq_1]
   refine s_r 2 ?_
   refine a_1 ?_
   refine o_0 (.bin rfl rfl (o2_ (m:=[49]))) ?_
   refine an_ ?_
   refine am_ rfl (fun h4=>?_) (fun h4=>?_)
   have h5:¬t=[49]:=by simpa using h4
   refine r_m 3 ?_
   refine a_1 ?_
   refine o_0 (.bin rfl rfl (cM_ (m:=[32]) (by simp;omega))) ?_
   refine o_3 (.callB (s:=some _) rfl rfl rfl rfl rfl rfl (fun _ h=>by cases h;exact⟨rfl,by decide⟩) (dv_ s (t++[32]) (by simp;omega))) ?_
   refine an_ ?_
   refine⟨some (s++(t++[32])),by unfold fN_;rw[if_neg h5];rfl,?_⟩
   show SEnt _ (pb1 q (n,s++(t++[32])))
   rw[pb1.eq_1]
   refine SEnt.to2 [(2,100008)] rfl rfl rfl au_r (fun hs=>au_f) (fun hs=>au_h)
   have h5:t=[49]:=by simpa using h4
   refine ah_ ⟨some s,by unfold fN_;rw[if_pos h5],?_⟩
   show SEnt _ (pb1 q (n,s))
   rw[pb1.eq_1]
   exact s_e []
  rintro o2 ho2e
  have ho2:okOx o2 (B+L+4):=by
   rw[ho2e];unfold fN_
   split
   exact dB_ ho1 (by omega)
   exact dB_ (jP_ ho1 (t:=t++[32]) (by simp)) (by simp;omega)
  refine aU_ (fun s=>pb1 q (n,s)) (fun s=>wrO o2 [120]=some s) ?_ ?_
  cases o2 with
  |none=>
   show AWp _ _ _ _ (pb0 q n)
   rw[pb0.eq_1]
   refine r_m 1 ?_
   refine o_2 (.callB (s:=none) (j:=0) rfl rfl rfl rfl rfl rfl (fun _ h=>by cases h) (et_ [120] (by simp) (by simp))) ?_
   refine an_ ?_
   refine⟨[120],rfl,?_⟩
   simp only[pb1.eq_1]
   refine SEnt.to2 [(2,100004)] rfl rfl rfl au_r (fun hs=>au_f) (fun hs=>au_h)
  |some s=>
   have hsl:=(ho2 s rfl).2
   show AWp _ _ _ _ (pb1 q (n,s))
   rw[pb1.eq_1]
   refine r_m 1 ?_
   refine o_3 (.callB (s:=some _) rfl rfl rfl rfl rfl rfl (fun _ h=>by cases h;exact⟨rfl,by decide⟩) (dv_ s [120] (by simp;omega))) ?_
   refine an_ ?_
   refine⟨s++[120],rfl,?_⟩
   simp only[pb1.eq_1]
   refine SEnt.to2 [(2,100004)] rfl rfl rfl au_r (fun hs=>au_f) (fun hs=>au_h)
  rintro s hs3
  have ho3:=jP_ ho2 (t:=[120]) (by simp) s hs3
  have hsl:s.length≤B+L+5:=ho3.2
  simp only[pb1.eq_1]
  refine r_z 2 ?_
  refine am_ rfl (fun h4=>?_) (fun h4=>?_)
  have h5:1< n:=by simp at h4;omega
  refine r_m 4 ?_
  refine c_s (fI) ?_
  refine o_0 (.bin rfl rfl (cM_ (l:=[94]) (by simp;omega))) ?_
  refine o_3 (.callB (s:=some _) rfl rfl rfl rfl rfl rfl (fun _ h=>by cases h;exact⟨rfl,by decide⟩) (dv_ s ([94]++ti n) (by simp;omega))) ?_
  refine an_ ?_
  refine⟨some (s++([94]++ti n)),by unfold ig_;rw[if_neg hn0,if_pos h5,←ho1e,←ht,←ho2e,hs3];rfl,?_⟩
  show SEnt _ (pb1 q (n,s++([94]++ti n)))
  rw[pb1.eq_1]
  refine SEnt.to2 [(2,100009)] rfl rfl rfl au_r (fun hs=>au_f) (fun hs=>au_h)
  have h5:¬1< n:=by simp at h4;omega
  refine ah_ ⟨some s,by unfold ig_;rw[if_neg hn0,if_neg h5,←ho1e,←ht,←ho2e,hs3],?_⟩
  show SEnt _ (pb1 q (n,s))
  rw[pb1.eq_1]
  exact s_e []
  rintro o' ho'
  have hok':okOx o' (B+(L+30)):=by
   rw[ho']
   split
   exact dB_ ho (by omega)
   have g1:=oa_ ho c
   unfold ig_
   rw[←ht]
   have g2:okOx (fN_ (sgnTx o c) t) (B+L+4):=by
    unfold fN_
    split
    exact dB_ g1 (by omega)
    exact dB_ (jP_ g1 (t:=t++[32]) (by simp)) (by simp;omega)
   have g3:=jP_ g2 (t:=[120]) (by simp)
   split
   exact dB_ (jP_ g1 htn) (by omega)
   split
   exact dB_ (jP_ g3 (t:=[94]++ti n) (by simp)) (by simp;omega)
   exact dB_ g3 (by simp;omega)
  rw[←ho'] at hr
  cases o' with
  |none=>
   show AWp _ _ _ _ (pb0 q n)
   rw[pb0.eq_1]
   refine r_m 3 ?_
   refine a_z ?_
   refine⟨(n,none),Nat.lt_succ_self n,⟨by simp only;omega,hr,kt_ _⟩,?_⟩
   show SEnt _ (pb0 q ((n:Int)- 1))
   rw[pb0.eq_1]
   exact s_e []
  |some s=>
   show AWp _ _ _ _ (pb1 q (n,s))
   rw[pb1.eq_1]
   refine r_m 3 ?_
   refine a_z ?_
   refine⟨(n,some s),Nat.lt_succ_self n,⟨by simp only;omega,hr,by simp only;rw[hm];exact hok'⟩,?_⟩
   show SEnt _ (pb1 q ((n:Int)- 1,s))
   rw[pb1.eq_1]
   exact s_e []
 rintro o ⟨rfl,ho⟩
 cases ho2:textR tq ti q q.length none with
 |none=>
  show AWp _ _ _ _ (pb0 q (-1))
  rw[pb0.eq_1]
  refine ac_ (s_r 2 ?_)
  refine o_0 (.callR (s:=none) (j:=0) (tb:=0) rfl rfl rfl rfl rfl (fun _ h=>by cases h) (kS_)) ?_
  refine a_z ?_
  refine am_ rfl (fun h4=>?_) (fun h4=>?_)
  refine r_z 1 ?_
  exact aj_ (t_e (ad_ _))
  exact absurd h4 (by simp)
 |some s=>
  have hs:=ho s ho2
  have hsl:s.length≠0:=by have:=hs.1;simpa using this
  have hne:=hs.1
  show AWp _ _ _ _ (pb1 q (-1,s))
  rw[pb1.eq_1]
  refine ac_ (s_r 2 ?_)
  refine o_0 (.callR (s:=some _) rfl rfl rfl rfl rfl (fun _ h=>by cases h;exact rfl) (kR_ s)) ?_
  refine a_z ?_
  refine am_ rfl (fun h4=>?_) (fun h4=>?_)
  exact absurd h4 (by simp;omega)
  refine ah_ (s_r 2 ?_)
  refine o_2 (.callD rfl rfl rfl rfl rfl rfl (by decide) (by first|assumption|simp) (i5_)) ?_
  refine a_z ?_
  exact aj_ (t_e (ad_ _))
theorem gz_(p:List Rat)(h:okPT p):FSpec Tryz.prog 75 [.arr (pE p)] (tx (textP p)):=by
 obtain⟨h1,h2,h3⟩:=h
 exact rK_ textQ dec2 6 p h1 (by decide) (fun c hc=>⟨oB_ (absQ c) (okT_abs (h3 c hc)),textQ_ne _,textQ_len.1⟩) (fun n hn=>⟨nj_ n (by omega),Nat.le_trans (fI_ n) (by decide)⟩)
def okTo(L:Nat)(p t:List Rat)(k:Rat)(n:Nat):Prop:=n< L∧smL p∧smL t∧leadP t≠0∧sm k∧smL (aJ_ t k)∧p.length≤274877906944∧t.length≤274877906944
instance (L:Nat) (p t:List Rat) (k:Rat) (n:Nat):Decidable (okTo L p t k n):=inferInstanceAs (Decidable (_∧_∧_∧_∧_∧_∧_∧_))

inductive LeLL:List (List AV)→List (List AV)→Prop
 |nil:LeLL [] []
 |cons {e e' es es'}:LeL e e'→LeLL es es'→LeLL (e::es) (e'::es')
theorem leL_len{xs ys:List AV}(h:LeL xs ys):ys.length=xs.length:=by
 induction h with
 |nil=>rfl
 |cons _ _ ih=>simp[ih]
theorem leL_cs{M:Nat→Prop}{β:Nat→Option (Nat×Nat)}{w:World}{b:Nat}{xs ys:List AV}(h:LeL xs ys):∀{off:Nat},RVcs M β w b xs off→RVcs M β w b ys off:=by
 induction h with
 |nil=>exact fun h=>h
 |cons h1 _ ih=>rintro off ⟨⟨x,hx,hr⟩,hs⟩;exact⟨⟨x,hx,h1 M β w x hr⟩,ih hs⟩
theorem LeLL.ess{M:Nat→Prop}{β:Nat→Option (Nat×Nat)}{w:World}{b s:Nat}{es es':List (List AV)}(h:LeLL es es'):∀{off:Nat},RVess M β w b s es off→RVess M β w b s es' off:=by
 induction h with
 |nil=>exact fun h=>h
 |cons h1 _ ih=>rintro off ⟨h0,hc,hr⟩;exact⟨(leL_len h1).trans h0,leL_cs h1 hc,ih hr⟩
theorem LeLL.length{es es':List (List AV)}(h:LeLL es es'):es'.length=es.length:=by
 induction h with
 |nil=>rfl
 |cons _ _ ih=>simp[ih]
theorem Le.arr{es es':List (List AV)}(h:LeLL es es'):Le (.arr es) (.arr es'):=by
 rintro M β w y ⟨a,c,rfl,h1,h2,h3⟩
 refine⟨a,c,by rw[h.length],by rw[h.length];exact h1,h2,h3.imp (fun e=>?_) ?_⟩
 subst e;cases h;rfl
 rintro⟨b,off,s,rfl,hN,hm,hr⟩
 exact⟨b,off,s,rfl,hN,hm,h.ess hr⟩
theorem LeLL.refl:∀es,LeLL es es
 |[]=> .nil
 |e::es=> .cons (LeL.refl e) (LeLL.refl es)
section
variable {P:Go.Program}{T:Nat}{x y:Operand}
end
theorem jW_(p:List Rat)(n:Nat)(hs:bdL p 256)(hl:p.length≤12)(hn:n≤6)(hb:∀k,k≤n→pB p.length k≤1073741824):FSpec Tryz.prog 79 [.arr (pE p),i64 n] (.arr (pE (powP p n))):=by
 refine f_n Tryz.func79 ?_ ?_
 exact aa_ (at_ p) (aa_ (ad_ _) ab_)
 refine r_z 1 ?_
 refine r_c 8 (fs_Power p n hs hl hn hb) ?_
 refine a_z ?_
 refine r_z 2 ?_
 exact aj_ (t_e (at_ _))
theorem rL_(p:List Rat)(o:okMul p [0,1]):FSpec Tryz.prog 52 [.arr (pE p),.arr [zC,qC ((1:Int):Rat)]] (.arr (pE (mulP p [0,1]))):=
 (j3_ p [0,1] (mxL _) (mxL _) (ce_ _) (ce_ _) (bP_ _) (bP_ _) o.1 o.2.1 o.2.2.1 o.2.2.2).weak
  (.cons (Le.refl _) (.cons (Le.arr (.cons le_zC (.cons (LeL.refl _) .nil))) .nil)) (aa_ (at_ p) (aa_ (aX_ fun e he c hc=>by
   rcases List.mem_cons.1 he with rfl|he
   exact d1_ c hc
   rw[List.mem_singleton.1 he] at hc;exact aO_ _ c hc) ab_))
def moT(f:List Rat)(s:Sp)(k:Nat):Option (List AV):=some [.agg (qC (moQ f s k))]
theorem lS_(f:List Rat)(s:Sp)(K:Nat)(hK:K≤1000000)(hok:∀k,k≤K→okMo f s k):GSpecB Tryz.prog 81 [bP f,bS s] (moT f s) K:=by
 have hcb:Closed (bP f):=bw_ f
 have hcs:Closed (bS s):=fo_ s
 refine GSpecB.enter Tryz.func81 rfl (by kernel_rfl) rfl rfl rfl ?_ ?_ rfl ?_
 exact aa_ hcb (aa_ hcs ab_)
 intro k xs h
 cases h
 exact aa_ (az_ _) ab_
 intro ll N hN E
 refine GWp.seq ?_
 refine GWp.lift ?_
 refine r_m 2 ?_
 refine a_z ?_
 refine GWp.block ?_
 refine GWp.loopS (fun k:Nat=>⟨[(0,.v (.func (.yield ll) #[] #[])),(1,bP f),(2,bS s),(4,.arr (pE (gK f k)))],[],1,16⟩) (fun k=>k) (fun k=>N+1- k) (fun k=>k≤N) 0 (Nat.zero_le _) rfl ?_ ?_
 exact s_e []
 intro k hk
 obtain⟨o1,o2,o3,o4,o5⟩:=hok k (by omega)
 have hin:FSpec Tryz.prog 82 [.arr (pE (gK f k)),.agg (spC s.1 s.2)] (.agg (qC (moQ f s k))):=nd_ (gK f k) s.1 s.2 o1 o2 o3 o4
 refine GWp.seq ?_
 refine GWp.seq ?_
 refine GWp.regY (fr2:=[(0,.v (.func (.yield ll) #[] #[])),(1,bP f),(2,bS s),(4,.arr (pE (gK f k))),(6,.v (.func (.yield ll) #[] #[])),(9,.agg (qC (moQ f s k)))]) (hp2:=[]) (nx2:=1) 4 rfl rfl rfl rfl rfl rfl ?_ rfl rfl rfl ?_ ?_ ?_
 refine o_0 (.move rfl) ?_
 refine o_0 (.move rfl) ?_
 first|refine aw_ (.load_l rfl rfl rfl tg_37.h ts_37.h (nle rfl)) rfl rfl ?_|refine aw_ (.load_a rfl rfl tg_37.h ts_37.h (nle rfl)) rfl rfl ?_
 refine o_0 (.call rfl rfl rfl (hin)) ?_
 refine an_ ?_
 refine SEntT.to [] rfl rfl rfl au_r (fun hs=>au_f) (fun hs=>au_h)
 rotate_left 2
 intro go
 refine an_ ?_
 rotate_left
 rfl
 exact aa_ (az_ _) ab_
 cases go with
 |false=>
  refine GWp.cond rfl (fun h=>?_) (fun h=>?_)
  cases h
  exact GWp.exit ⟨.inl rfl,fun h=>by cases h⟩
 |true=>
  refine GWp.bound fun hk1=>?_
  refine GWp.cond rfl (fun h=>?_) (fun h=>?_)
  rotate_left
  cases h
  refine GWp.skip ?_
  have hwh:=a4_ 1 (by decide)
  have hmu:=rL_ (gK f k) o5
  refine GWp.lift ?_
  refine ag_ (r_m 6 ?_)
  refine c_s (hwh) ?_
  refine a_1 ?_
  refine o_1 (.callS1 rfl rfl rfl (.keep (.shut rfl d_n (.nil))) rfl (hmu)) ?_
  refine a_z ?_
  refine⟨rfl,k+1,by omega,hk1,rfl,?_⟩
  exact s_e []
theorem it_(l:List Rat)(q:Rat):pE (l++[q])=pE l++[qC q]:=by simp[pE]
def tk0(g:Nat)(cap:List AV)(n:Int):Unit→AState
 |u=>⟨[(3,.lptr 1 0 0),(5,.lptr 2 0 0),(7,.clos g [] cap)],[(1,some ⟨3,1,[[i64 n]]⟩),(2,some ⟨49,1,[[.emp]]⟩)],4,18⟩
def tk1(g:Nat)(cap:List AV)(n:Int)(sq:Nat→Rat):Nat→AState
 |k=>⟨[(3,.lptr 1 0 0),(5,.lptr 2 0 0),(7,.clos g [] cap)],[(1,some ⟨3,1,[[i64 n]]⟩),(2,some ⟨49,1,[[.lsl 3 0 (k+1) none 3]]⟩),(3,some ⟨35,3,pE (sqL sq (k+1))⟩)],4,18⟩
def tkX(z:Nat)(sq:Nat→Rat):Unit→AState
 |u=>⟨[(5,.lptr 1 0 0)],[(1,some ⟨49,1,[[.lsl 2 0 (z+1) none 3]]⟩),(2,some ⟨35,3,pE (sqL sq (z+1))⟩)],4,18⟩
def tkS(g:Nat)(cap:List AV)(n:Int)(sq:Nat→Rat):Nat→AState
 |0=>tk0 g cap n ()
 |k+1=>tk1 g cap n sq k
theorem hY_(g:Nat)(cap:List AV)(hcap:∀c∈cap,Closed c)(sq:Nat→Rat)(n:Nat)(hn:n≤1000)(hcm:cap.map coe=cap)(hgs:GSpecB Tryz.prog g (cap.map coe) (fun k=>some [.agg (qC (sq k))]) n):FSpec Tryz.prog 83 [.clos g [] cap,i64 n] (.arr (pE (sqL sq (n+1)))):=by
 have hcF:Closed (.clos g [] cap):=aT_ ab_ hcap
 refine f_n Tryz.func83 ?_ ?_
 exact aa_ hcF (aa_ (ad_ _) ab_)
 refine r_z 2 ?_
 refine r_z 1 ?_
 refine ac_ (r_z 1 ?_)
 refine aB_ (tkX n sq) (fun _=>True) ?_ ?_
 refine ag_ (AWp.rangeFuncB (α:=Nat) (γ:=Unit) n (tkS g cap n sq) (fun k=>k) (fun k=>k≤n) (tkX n sq) (fun e _=>e= .exit 0) 0 rfl hgs rfl rfl ?_ (fun k=>by cases k <;> exact⟨rfl,rfl⟩) (fun _=>rfl) (Nat.zero_le _) rfl (fun _ h=>h) ?_ ?_ ?_ ?_ ?_)
 intro k xs hT;cases hT;rfl
 show SEntT _ (tk0 g cap n ())
 rw[tk0.eq_1]
 exact s_t [(1,3),(2,5)]
 rw[hcm];exact hcap
 ·intro l k xs hk hT
  cases hT
  cases k with
  |zero=>
   show AWp _ _ _ _ ⟨setPs (tk0 g cap n ()).fr _ _++cf_ (tk0 g cap n ()).fr,_,_,_⟩
   show AWp _ _ _ _ ⟨[(8,.agg (qC (sq 0))),(3,.lptr 1 0 0),(5,.lptr 2 0 0),(7,.clos g [] cap),(1003,.lptr 1 0 0),(1005,.lptr 2 0 0),(1007,.clos g [] cap)],[(1,some ⟨3,1,[[i64 n]]⟩),(2,some ⟨49,1,[[.emp]]⟩)],4,18⟩
   refine r_m 2 ?_
   refine a_z ?_
   refine ag_ (s_r 5 ?_)
   refine a_3 ?_
   refine o_1 (.append_e rfl rfl rfl te_49.h rfl rfl rfl (.lsl rfl (nle rfl)) (by first|assumption|(simp;done)) tz_35.h rfl tb_35.h d_o (by first|(simp[maxLen];done)|(simp[maxLen];omega))) ?_
   refine a_z ?_
   refine r_z 4 ?_
   refine am_ rfl (fun h1=>?_) (fun h1=>?_)
   have h2:n=0:=by
    simp at h1;omega
   subst h2
   refine av_ (⟨rfl,(),rfl,?_⟩)
   show SEntT _ ⟨[(1005,.lptr 1 0 0)],[(1,some ⟨49,1,[[.lsl 2 0 (0+1) none 3]]⟩),(2,some ⟨35,3,pE (sqL sq (0+1))⟩)],4,18⟩
   have:=aI_ [sq 0]
   exact s_t [(1,1005),(2,12)]
   have h2:¬n=0:=by
    simp at h1;omega
   refine ah_ (⟨0+1,⟨by omega,rfl⟩,?_⟩)
   show SEntT _ ⟨[(1003,.lptr 1 0 0),(1005,.lptr 2 0 0),(1007,.clos g [] cap)],[(1,some ⟨3,1,[[i64 n]]⟩),(2,some ⟨49,1,[[.lsl 3 0 (0+1) none 3]]⟩),(3,some ⟨35,3,pE (sqL sq (0+1))⟩)],4,18⟩
   have:=aI_ [sq 0]
   exact s_t [(3,12)]
  |succ k=>
   show AWp _ _ _ _ ⟨setPs (tk1 g cap n sq k).fr _ _++cf_ (tk1 g cap n sq k).fr,_,_,_⟩
   have e:pE (sqL sq (k+1))++[qC (sq (k+1))]=pE (sqL sq (k+1+1)):=by rw[ey_ sq (k+1),it_]
   show AWp _ _ _ _ ⟨[(8,.agg (qC (sq (k+1)))),(3,.lptr 1 0 0),(5,.lptr 2 0 0),(7,.clos g [] cap),(1003,.lptr 1 0 0),(1005,.lptr 2 0 0),(1007,.clos g [] cap)],[(1,some ⟨3,1,[[i64 n]]⟩),(2,some ⟨49,1,[[.lsl 3 0 (k+1) none 3]]⟩),(3,some ⟨35,3,pE (sqL sq (k+1))⟩)],4,18⟩
   refine r_m 2 ?_
   refine a_z ?_
   refine ag_ (r_z 5 ?_)
   refine r_z 4 ?_
   refine am_ rfl (fun h1=>?_) (fun h1=>?_)
   have h2:n=k+1:=by
    simp at h1;omega
   subst h2
   refine av_ (⟨rfl,(),rfl,?_⟩)
   show SEntT _ ⟨[(1005,.lptr 1 0 0)],[(1,some ⟨49,1,[[.lsl 2 0 ((k+1)+1) none 3]]⟩),(2,some ⟨35,3,pE (sqL sq ((k+1)+1))⟩)],4,18⟩
   exact s_t [(1,1005),(2,12)]
   have h2:¬n=k+1:=by
    simp at h1;omega
   refine ah_ (⟨k+1+1,⟨by omega,rfl⟩,?_⟩)
   show SEntT _ ⟨[(1003,.lptr 1 0 0),(1005,.lptr 2 0 0),(1007,.clos g [] cap)],[(1,some ⟨3,1,[[i64 n]]⟩),(2,some ⟨49,1,[[.lsl 3 0 ((k+1)+1) none 3]]⟩),(3,some ⟨35,3,pE (sqL sq ((k+1)+1))⟩)],4,18⟩
   exact s_t [(3,12)]
 intro k hk hT;cases hT
 rintro e u rfl
 exact⟨u,trivial,SEnt.refl _⟩
 rintro u _
 rw[tkX.eq_1]
 refine r_z 2 ?_
 exact aj_ (Fin.tmpS rfl rfl rfl (by simp) (aI_ _))
def w0C:List AV:=[.emp,bln false,bln false]++zC++zC
theorem aV_:∀c∈w0C,Closed c:=fun c hc=>by
 unfold w0C at hc
 rcases List.mem_append.1 hc with hc|hc
 rcases List.mem_append.1 hc with hc|hc
 exact aa_ bt_ (aa_ (ad_ _) (aa_ (ad_ _) ab_)) c hc
 exact d1_ c hc
 exact d1_ c hc
theorem ni_(a b:Rat)(n:Nat)(hn:n≤63)(hab:a< b)(ha:qs a≤256)(hb:qs b≤256)(hok:∀k,k≤n→okMo [1] (a,b) k):
    FSpec Tryz.prog 15 [.agg (spC a b),i64 0,i64 0,i64 n] (.tup [.agg (wC (sqL (moQ [1] (a,b)) (n+1)) true true (qC a) (qC b)),i64 0]):=by
 have sa:sm a:=Nat.le_trans ha (by decide)
 have sb:sm b:=Nat.le_trans hb (by decide)
 have hva:=ff_ a b sa sb
 rw[decide_eq_true (show cmpQ a b≤0 by unfold cmpQ;rw[if_pos hab];decide)] at hva
 have hsi:=bI_ (b- a)
 have hne:¬sgZ (b- a).num=0:=fun e=>by have:=sgZ_num_eq.1 e;grind
 have ho0:=bn_ 0 0 8
 rw[decide_eq_false (by decide)] at ho0
 have hon:=bn_ (n:Nat) 0 63
 rw[decide_eq_false (by omega)] at hon
 have hp1:FSpec Tryz.prog 79 [.arr [qC (-a),qC ((1:Int):Rat)],i64 0] (.arr (pE [1])):=jW_ [-a,1] 0 (fun q hq=>by
  rcases List.mem_cons.1 hq with rfl|hq
  rw[eQ_];exact ha
  rw[List.mem_singleton.1 hq];decide) (by simp) (by decide) (fun k hk=>by
  have:k=0:=by omega
  subst this;show pB 2 0≤_;decide)
 have hp2:FSpec Tryz.prog 79 [.arr [qC b,qC ((-1:Int):Rat)],i64 0] (.arr (pE [1])):=jW_ [b,-1] 0 (fun q hq=>by
  rcases List.mem_cons.1 hq with rfl|hq
  exact hb
  rw[List.mem_singleton.1 hq];decide) (by simp) (by decide) (fun k hk=>by
  have:k=0:=by omega
  subst this;show pB 2 0≤_;decide)
 have hmu:=j3_ [1] [1] 1 1 (by decide) (by decide) (by decide) (by decide) (by decide) (by decide) (by decide) (by decide)
 rw[show mulP [1] [1]=[1] by decide+kernel] at hmu
 have htk:=hY_ 81 [bP [1],bS (a,b)] (aa_ (bw_ _) (aa_ (fo_ _) ab_)) (moQ [1] (a,b)) n (by omega) rfl (lS_ [1] (a,b) n (by omega) hok)
 refine f_n Tryz.func15 ?_ ?_
 exact aa_ (b4_ _ _) (aa_ (ad_ _) (aa_ (ad_ _) (aa_ (ad_ _) ab_)))
 refine r_z 3 ?_
 refine aU_ (fun _:Unit=>⟨[(1,i64 0),(2,i64 0),(3,i64 n),(4,.lptr 1 0 0),(8,.lptr 2 0 0)],[(1,some ⟨37,6,[spC a b]⟩),(2,some ⟨51,9,[w0C]⟩)],3,58⟩) (fun _=>True) ?_ ?_
 refine ag_ (r_c 10 (hva) ?_)
 refine c_s (gy_ a b sa sb) ?_
 refine c_s (hsi) ?_
 refine d_z ?_
 refine cF (r_c 11 (ho0) ?_)
 refine c_s (ho0) ?_
 refine c_s (hon) ?_
 refine a_z ?_
 refine cF (ah_ ⟨(),trivial,?_⟩)
 refine ar_ [(1,4),(2,8)] rfl rfl rfl au_r (fun hs=>au_f) (fun hs=>?_)
 ·repeat' (first|exact ap_|refine al_ rfl rfl rfl rfl ?_ ?_)
  all_goals (first|((try exact ae_ (CvL.clo hs (fun c hc=>(List.mem_append.1 hc).elim (aO_ _ c) (aO_ _ c))));(try exact ae_ (CvL.clo hs aV_)))|exact au_e)
 rintro _ _
 refine ac_ (r_d hmix 16 ?_)
 refine c_s (gx_ a) ?_
 refine c_s (a4_ 1 (by decide)) ?_
 refine a_2 ?_
 refine o_1 (.callS1 rfl rfl rfl (.shut rfl d_n (.keep (.nil))) rfl (hp1)) ?_
 refine c_s (a4_ (-1) (by decide)) ?_
 refine a_2 ?_
 refine o_1 (.callS1 rfl rfl rfl (.shut rfl d_n (.keep (.nil))) rfl (hp2)) ?_
 refine c_s (hmu) ?_
 refine a_2 ?_
 refine an_ (n_k ?_)
 refine AWp.ent (st':=⟨[(3,i64 n),(4,bS (a,b)),(8,.lptr 1 0 0),(10,bP [1])],[(1,some ⟨51,9,[w0C]⟩)],2,58⟩) ?_ ?_
 exact s_f [(1,8)]
 refine r_z 2 ?_
 refine ac_ (r_d hmix 10 ?_)
 refine c_s (htk) ?_
 refine a_7 ?_
 refine an_ (n_k ?_)
 refine aj_ (Fin.many ⟨_,_,rfl,⟨_,_,_,_,_,rfl,rfl,rfl,.inl ⟨tg_51.h,_,ts_51.h,nle rfl,rfl⟩⟩,⟨_,_,rfl,rfl,rfl⟩⟩ (nle rfl) ?_)
 exact af_ (ak_ as_ (aq_ (aG_ (.inr ⟨a,rfl⟩) (.inr ⟨b,rfl⟩)))) (af_ (ak_ as_ (ad_ _)) ao_)
theorem iK_(L:List Rat):∀n,LeLL (List.replicate n zC++pE L) (pE (List.replicate n 0++L))
 |0=>LeLL.refl _
 |n+1=> .cons le_zC (iK_ L n)
theorem k1_(n:Nat)(L:List Rat):Closed (.arr (List.replicate n zC++pE L)):=aX_ fun c hc=>(List.mem_append.1 hc).elim (fun h=>by rw[List.eq_of_mem_replicate h];exact d1_) (aI_ L c)
theorem FSpec.zerosQ{P:Program}{f n:Nat}{L:List Rat}{a r:AV}(h:FSpec P f [a,.arr (pE (List.replicate n 0++L))] r)(ha:Closed a):FSpec P f [a,.arr (List.replicate n zC++pE L)] r:=
 h.weak (.cons (Le.refl _) (.cons (Le.arr (iK_ L n)) .nil)) (aa_ ha (aa_ (k1_ n L) ab_))
theorem lb_(n:Nat):(List.replicate n zC).all (·.all AV.one)=true:=by
 simp only[List.all_replicate]
 cases n <;> rfl
def tmS(f:Nat→Rat)(t1:AV)(W:List AV):Nat→AState
 |0=>⟨[(6,i64 ((0:Nat):Int)),(5,.emp),(1,t1),(2,.lptr 1 0 0),(4,.lptr 2 0 0)],[(1,some ⟨51,9,[W]⟩),(2,some ⟨51,9,[w0C]⟩)],3,29⟩
 |k+1=>⟨[(6,i64 ((k+1:Nat):Int)),(5,.lsl 3 0 (k+1) none 3),(1,t1),(2,.lptr 1 0 0),(4,.lptr 2 0 0)],[(1,some ⟨51,9,[W]⟩),(2,some ⟨51,9,[w0C]⟩),(3,some ⟨35,3,pE (sqL f (k+1))⟩)],4,29⟩
theorem jX_(p m:List Rat)(l r:Bool)(a b:Rat)(s t:Nat)(hp:bdL p s)(hm:bdL m t)(hs:1≤s)(ht:1≤t)(hpl:p.length≤1000)(hml:m.length≤1000)(hlim:(p.length+m.length+3) * (s+t+1)≤137438953472):
    FSpec Tryz.prog 121 [.agg (wC m l r (qC a) (qC b)),.arr (pE p)] (.agg (wC (sqL (tmQ p m) (m.length+1- (trimQ p).length)) l r (qC a) (qC b))):=by
 obtain⟨K,hK⟩:∃K,K=m.length+1- (trimQ p).length:=⟨_,rfl⟩
 rw[←hK]
 have htl:=a2_ p
 have hdg:=bJ_ p (by omega)
 have hd:degP p=((trimQ p).length:Int)- 1:=rfl
 have hWc:∀c∈wC m l r (qC a) (qC b),Closed c:=aG_ (.inr ⟨a,rfl⟩) (.inr ⟨b,rfl⟩)
 have hof:∀k,k< K→FSpec Tryz.prog 114 [.agg (wC m l r (qC a) (qC b)),.arr (List.replicate k zC++pE p)] (.agg (qC (tmQ p m k))):=fun k hlt=>by
  have hle:k+(trimQ p).length≤m.length:=by omega
  exact FSpec.zerosQ (fs_of (List.replicate k 0++p) m l r a b s t (so_ hp hs k) hm hs ht (by simp;omega) (id_ p k _ hle) (Nat.le_trans (Nat.mul_le_mul_right _ (by simp;omega)) hlim)) (aq_ hWc)
 have e:∀k,pE (sqL (tmQ p m) k)++[qC (tmQ p m k)]=pE (sqL (tmQ p m) (k+1)):=fun k=>by rw[ey_,it_]
 generalize tmQ p m=f at hof e⊢
 refine f_n Tryz.func121 ?_ ?_
 exact aa_ (aq_ hWc) (aa_ (at_ p) ab_)
 refine r_z 2 ?_
 refine r_z 1 ?_
 refine ac_ (r_z 1 ?_)
 refine aB_ (fun _:Unit=>⟨[(2,.lptr 1 0 0),(4,.lptr 2 0 0),(5,.arr (pE (sqL f K)))],[(1,some ⟨51,9,[wC m l r (qC a) (qC b)]⟩),(2,some ⟨51,9,[w0C]⟩)],3,29⟩) (fun _=>True) ?_ ?_
 refine ag_ (ax_ (fun k:Nat=>tmS f (.arr (pE p)) (wC m l r (qC a) (qC b)) k) (fun k=>K- k) (fun k=>k≤K) 0 (Nat.zero_le _) ?_ ?_)
 rw[tmS.eq_1]
 refine ar_ [(1,2),(2,4)] rfl rfl rfl au_r (fun hs=>au_f) (fun hs=>?_)
 ·repeat' (first|exact ap_|refine al_ rfl rfl rfl rfl ?_ ?_)
  all_goals (first|((try exact ae_ (CvL.clo hs hWc));(try exact ae_ (CvL.clo hs aV_)))|exact au_e)
 rintro k hk
 by_cases hlt:k< K
 ·have hle:k+(trimQ p).length≤m.length:=by omega
  have hof:=hof k hlt
  have e:=e k
  cases k with
  |zero=>
   rw[tmS.eq_1]
   refine ac_ (ac_ (r_d hmix 8 ?_))
   refine c_s (hdg) ?_
   refine d_5 ?_
   refine an_ (n_k ?_)
   refine cT (ah_ (ac_ (ag_ (r_d hmix 10 ?_))))
   refine a_5 ?_
   refine o_2 (.append_l rfl rfl rfl te_55.h rfl rfl rfl rfl rfl d_o (lb_ _) (cO_ _) rfl (.arr (fZ_ _)) tz_35.h rfl tb_35.h d_o (by first|(simp[maxLen];done)|(simp[maxLen];omega))) ?_
   refine o_1 (.callS1 rfl rfl rfl (.keep (.shut rfl d_n (.nil))) rfl ((FSpec.argE2 hof (by rw[List.drop_zero];exact List.take_of_length_le (by simp))))) ?_
   refine a_3 ?_
   refine an_ (n_k ?_)
   refine r_m 3 ?_
   refine a_z ?_
   refine⟨0+1,by omega,hlt,?_⟩
   rw[tmS.eq_2]
   refine ar_ [(3,5)] rfl rfl rfl au_r (fun hs=>au_f) (fun hs=>?_)
   ·repeat' (first|exact ap_|refine al_ rfl rfl rfl rfl ?_ ?_)
    all_goals (first|((try exact ae_ (CvL.clo hs hWc));(try exact ae_ (CvL.clo hs aV_));(try exact aH_ hs (aI_ [f 0])))|exact au_e)
  |succ k=>
   rw[tmS.eq_2]
   refine ac_ (ac_ (r_d hmix 8 ?_))
   refine c_s (hdg) ?_
   refine d_5 ?_
   refine an_ (n_k ?_)
   refine cT (ah_ (ac_ (ag_ (r_d hmix 10 ?_))))
   refine a_5 ?_
   refine o_2 (.append_l rfl rfl rfl te_55.h rfl rfl rfl rfl rfl d_o (lb_ _) (cO_ _) rfl (.arr (fZ_ _)) tz_35.h rfl tb_35.h d_o (by first|(simp[maxLen];done)|(simp[maxLen];omega))) ?_
   refine o_1 (.callS1 rfl rfl rfl (.keep (.shut rfl d_n (.nil))) rfl ((FSpec.argE2 hof (by rw[List.drop_zero];exact List.take_of_length_le (by simp))))) ?_
   refine a_3 ?_
   refine an_ (n_k ?_)
   refine r_m 3 ?_
   refine a_z ?_
   refine⟨k+1+1,by omega,hlt,?_⟩
   rw[tmS.eq_2]
   refine ar_ [(3,5)] rfl rfl rfl ?_ (fun hs=>au_f) (fun hs=>?_)
   ·repeat' (first|exact ShrL.nil|refine ShrL.cons rfl rfl rfl rfl (by first|(simp)|rfl|(simp;done)|(simp <;> omega)) ?_)
   ·repeat' (first|exact ap_|refine al_ rfl rfl rfl rfl ?_ ?_)
    all_goals (first|((try exact ae_ (CvL.clo hs hWc));(try exact ae_ (CvL.clo hs aV_));(try exact aD_ hs e (aI_ _)))|exact au_e)
 have hge:k=K:=by omega
 subst hge
 cases k with
 |zero=>
  rw[tmS.eq_1]
  refine ac_ (ac_ (r_d hmix 8 ?_))
  refine c_s (hdg) ?_
  refine d_5 ?_
  refine an_ (n_k ?_)
  refine cF (av_ ⟨(),trivial,?_⟩)
  exact s_e []
 |succ k=>
  rw[tmS.eq_2]
  refine ac_ (ac_ (r_d hmix 8 ?_))
  refine c_s (hdg) ?_
  refine d_5 ?_
  refine an_ (n_k ?_)
  refine cF (av_ ⟨(),trivial,?_⟩)
  refine ar_ [] rfl rfl rfl au_r (fun hs=>?_) (fun hs=>?_)
  ·repeat' (first|exact aA_|refine au_ rfl ?_ ?_)
   all_goals (first|(exact Cv.shut hs rfl (aM_ rfl) (by simp) (aD_ hs (by rw[List.drop_zero];exact List.take_of_length_le (by simp)) (aI_ _)))|exact au_c)
  ·repeat' (first|exact ap_|refine al_ rfl rfl rfl rfl ?_ ?_)
   all_goals (first|exact au_e|(refine ae_ ?_;repeat' (first|exact ao_|refine af_ ?_ ?_)))
   all_goals (first|(exact Cv.shut hs rfl (aM_ rfl) (by simp) (aD_ hs (by rw[List.drop_zero];exact List.take_of_length_le (by simp)) (aI_ _)))|exact au_c)
 rintro _ _
 refine r_z 3 ?_
 refine r_z 2 ?_
 exact aj_ (c_e (aq_ (aG_ (.inr ⟨a,rfl⟩) (.inr ⟨b,rfl⟩))))
theorem lZ_(m p:List Rat)(l r:Bool)(a b:Rat)(h:okOf m p):FSpec Tryz.prog 114 [.agg (wC m l r (qC a) (qC b)),.arr (pE p)] (.agg (qC (ofP m p))):=
 fs_of p m l r a b (mxL p) (mxL m) (ce_ p) (ce_ m) (bP_ p) (bP_ m) h.1 h.2.1 h.2.2
theorem dw_(p q:List Rat)(o:okMul p q):FSpec Tryz.prog 52 [.arr (pE p),.arr (pE q)] (.arr (pE (mulP p q))):=
 j3_ p q (mxL p) (mxL q) (ce_ p) (ce_ q) (bP_ p) (bP_ q) o.1 o.2.1 o.2.2.1 o.2.2.2
def ldC(W:List AV)(p q:AV)(nm:List AV)(a b:AV):List AV:=W++[p,q]++nm++[a,b]
def ldF(m:List Rat)(l r:Bool)(a b:Rat)(k:Nat):List AV:=ldC (wC m l r (qC a) (qC b)) (.arr (pE (ldr m k).1)) (.arr (pE (ldr m k).2.1)) (qC (ldr m k).2.2) (.arr (pE (sqL (ldAk m) k))) (.arr (pE (sqL (ldB m) k)))
theorem dK_(m:List Rat)(l r:Bool)(a b:Rat)(k:Nat):∀c∈ldF m l r a b k,Closed c:=fun c hc=>by
 unfold ldF ldC at hc
 rcases List.mem_append.1 hc with hc|hc
 rcases List.mem_append.1 hc with hc|hc
 rcases List.mem_append.1 hc with hc|hc
 exact aG_ (.inr ⟨a,rfl⟩) (.inr ⟨b,rfl⟩) c hc
 exact aa_ (at_ _) (aa_ (at_ _) ab_) c hc
 exact aO_ _ c hc
 exact aa_ (at_ _) (aa_ (at_ _) ab_) c hc
theorem cx_{r:Ren}{hp hp':Nat→Option ABlk}:∀{a b c d:List AV},CvL r hp hp' a b→CvL r hp hp' c d→CvL r hp hp' (a++c) (b++d)
 |[],_,_,_,h,h2=>by cases h;exact h2
 |x::xs,_,_,_,⟨y,ys,e,h1,h3⟩,h2=>by subst e;exact⟨y,_,rfl,h1,cx_ h3 h2⟩
theorem js_{r:Ren}{hp hp':Nat→Option ABlk}(W:List AV){p q a b p' q' a' b':AV}{nm nm':List AV}(h:Shr r hp hp')(hW:∀c∈W,Closed c)(h1:Cv r hp hp' p p')(hq:Cv r hp hp' q q')(hn:CvL r hp hp' nm nm')(ha:Cv r hp hp' a a')(hb:Cv r hp hp' b b'):CvL r hp hp' (ldC W p q nm a b) (ldC W p' q' nm' a' b'):=
 cx_ (cx_ (cx_ (CvL.clo h hW) (af_ h1 (af_ hq ao_))) hn) (af_ ha (af_ hb ao_))
theorem db_{r:Ren}{hp hp':Nat→Option ABlk}{id n:Nat}{cap:Option Nat}{B:ABlk}{L:List Rat}(h:Shr r hp hp')(hi:cellF hp id=some B)(hi':Dead r hp' id)(he:B.es=pE L)(hn:n=L.length):Cv r hp hp' (.lsl id 0 n cap 3) (.arr (pE L)):=
 Cv.shut h hi hi' (by rw[he,hn];simp) (aD_ h (by rw[he,List.drop_zero];exact List.take_of_length_le (by simp[hn])) (aI_ _))
theorem fs_{r:Ren}{hp hp':Nat→Option ABlk}(h:Shr r hp hp'):CvL r hp hp' zC (qC 0):=by
 rw[qC0]
 exact af_ (Cv.emp _) (af_ (ak_ h (ad_ _)) (af_ (Cv.emp _) ao_))
def clS(m:List Rat)(l r:Bool)(a b:Rat)(n:Nat):Nat→AState
 |0=>⟨[(17,i64 n),(18,i64 ((0:Nat):Int)),(6,.lptr 1 0 0)],[(1,some ⟨150,16,[ldC (wC m l r (qC a) (qC b)) (.arr (pE [1])) .emp zC .emp .emp]⟩)],2,113⟩
 |k+1=>⟨[(17,i64 n),(18,i64 ((k+1:Nat):Int)),(6,.lptr 1 0 0)],[(1,some ⟨150,16,[ldC (wC m l r (qC a) (qC b)) (.arr (pE (ldr m (k+1)).1)) (.arr (pE (ldr m (k+1)).2.1)) (qC (ldr m (k+1)).2.2) (.lsl 2 0 (k+1) none 3) (.lsl 3 0 (k+1) none 3)]⟩),(2,some ⟨35,3,pE (sqL (ldAk m) (k+1))⟩),(3,some ⟨35,3,pE (sqL (ldB m) (k+1))⟩)],4,113⟩
def clX(m:List Rat)(l r:Bool)(a b:Rat)(n k:Nat):AState:=⟨[(17,i64 n),(18,i64 k),(6,.lptr 1 0 0)],[(1,some ⟨150,16,[ldF m l r a b k]⟩)],2,113⟩
set_option maxHeartbeats 2000000 in
theorem iY_(m:List Rat)(l r:Bool)(a b:Rat)(n d:Nat)(hn:n≤1000)(hd:d≤n)(hok:∀k,k< d→okLd m k)(hbad:d< n→okMul (ldr m d).1 (ldr m d).1∧okOf m (mulP (ldr m d).1 (ldr m d).1)∧¬0< ldN m (ldr m d).1):
    FSpec Tryz.prog 87 [.agg (wC m l r (qC a) (qC b)),i64 n] (.tup [.aptr [ldF m l r a b d] 0 0,bln (decide (d=n))]):=by
 have hWc:∀c∈wC m l r (qC a) (qC b),Closed c:=aG_ (.inr ⟨a,rfl⟩) (.inr ⟨b,rfl⟩)
 refine f_n Tryz.func87 ?_ ?_
 exact aa_ (aq_ hWc) (aa_ (ad_ _) ab_)
 refine r_z 3 ?_
 refine ac_ (r_d hmix 6 ?_)
 refine c_s (a4_ 1 (by decide)) ?_
 refine a_4 ?_
 refine an_ (n_k ?_)
 refine ac_ (r_z 2 ?_)
 refine aB_ (fun _:Unit=>⟨[(6,.aptr [ldF m l r a b d] 0 0)],[],1,113⟩) (fun _=>d=n) ?_ ?_
 refine ag_ (ax_ (fun k:Nat=>clS m l r a b n k) (fun k=>n- k) (fun k=>k≤d) 0 (Nat.zero_le _) ?_ ?_)
 rw[clS.eq_1]
 refine ar_ [(1,6)] rfl rfl rfl au_r (fun hs=>au_f) (fun hs=>?_)
 ·repeat' (first|exact ap_|refine al_ rfl rfl rfl rfl ?_ ?_)
  all_goals (first|(exact ae_ (js_ _ hs hWc (db_ (L:=[1]) hs rfl (aM_ rfl) rfl rfl) (ak_ hs bt_) (CvL.clo hs d1_) (ak_ hs bt_) (ak_ hs bt_)))|exact au_e)
 rintro k hk
 by_cases hlt:k< d
 obtain⟨o1,o2,o3,o4,o5,o6,o7,o8,o9,o10,o11,o12,o13,o14,o15⟩:=hok k hlt
 have hmm:=dw_ _ _ o1
 have ho1:=lZ_ m _ l r a b o2
 have hsg:=bI_ (ldN m (ldr m k).1)
 have hsp:=sgZ_num_gt.2 o3
 have hmx:=rL_ _ o4
 have ho2:=lZ_ m _ l r a b o5
 have hov:=dW_ _ (ldN m (ldr m k).1) (by grind) o6
 have hng:=gx_ (ldAk m k)
 have hmp:=dw_ (ldr m k).1 [-ldAk m k,1] o8
 have hsc:=dE_ (ldr m k).2.1 (ldB m k) o9 o10 o13
 have hsu:=oA_ _ _ o11 o12 o14 o15
 cases k with
 |zero=>
  have hsc0:FSpec Tryz.prog 50 [.arr [],.agg [.arr [],bln false,.arr []]] (.arr (pE (aJ_ (ldr m 0).2.1 (ldB m 0)))):=by
   rw[show qC (ldB m 0)=[.arr [],bln false,.arr []] by rw[show ldB m 0=0 from rfl];exact qC0] at hsc
   exact hsc
  rw[clS.eq_1]
  refine q_z 1 ?_
  refine ac_ (cT (ah_ (ac_ (ag_ (r_z 2 ?_)))))
  refine ac_ (r_d hmix 10 ?_)
  refine c_s (hmm) ?_
  refine a_1 ?_
  refine an_ (n_k ?_)
  refine r_c 8 (ho1) ?_
  refine a_z ?_
  refine ac_ (r_c 3 (hsg) ?_)
  refine d_z ?_
  refine cF (ah_ (ac_ (r_d hmix 17 ?_)))
  refine c_s (a4_ 1 (by decide)) ?_
  refine a_1 ?_
  refine o_1 (.callS1 rfl rfl rfl (.keep (.shut rfl d_n (.nil))) rfl (hmx)) ?_
  refine c_s (ho2) ?_
  refine c_s (hov) ?_
  refine a_5 ?_
  refine an_ (n_k ?_)
  refine ac_ (q_z 2 ?_)
  refine cF (ah_ (r_z 5 ?_))
  refine ac_ (r_d hmix 22 ?_)
  refine a_8 ?_
  refine a_8 ?_
  refine a_6 ?_
  refine an_ (n_k ?_)
  refine r_d hmix 28 ?_
  refine c_s (hng) ?_
  refine c_s (a4_ 1 (by decide)) ?_
  refine a_1 ?_
  refine o_1 (.callS1 rfl rfl rfl (.keep (.shut rfl d_n (.nil))) rfl (hmp)) ?_
  refine c_s (hsc0) ?_
  refine c_s (hsu) ?_
  refine a_8 ?_
  refine a_2 ?_
  refine an_ (n_k ?_)
  refine r_m 2 ?_
  refine a_z ?_
  refine⟨0+1,by omega,hlt,?_⟩
  rw[clS.eq_2]
  refine ar_ [(1,6),(2,73),(3,80)] rfl rfl rfl au_r (fun hs=>au_f) (fun hs=>?_)
  ·repeat' (first|exact ap_|refine al_ rfl rfl rfl rfl ?_ ?_)
   all_goals (first|((try exact aH_ hs (aI_ [ldAk m 0]));(try exact ae_ (fs_ hs));(try exact ae_ (js_ _ hs hWc (ak_ hs (at_ _)) (ak_ hs (at_ _)) (CvL.clo hs (aO_ _)) (Cv.sl rfl rfl rfl) (Cv.sl rfl rfl rfl))))|exact au_e)
 |succ k=>
  rw[clS.eq_2]
  have hB:ldB m (k+1)=ldN m (ldr m (k+1)).1/ (ldr m (k+1)).2.2:=if_neg (Nat.succ_ne_zero k)
  have hpv:0< (ldr m (k+1)).2.2:=(hok k (by omega)).2.2.1
  have hov2:=dW_ (ldN m (ldr m (k+1)).1) (ldr m (k+1)).2.2 (by grind) o7
  rw[←hB] at hov2
  have eA:pE (sqL (ldAk m) (k+1))++[qC (ldAk m (k+1))]=pE (sqL (ldAk m) (k+1+1)):=by rw[ey_ _ (k+1),it_]
  have eB:pE (sqL (ldB m) (k+1))++[qC (ldB m (k+1))]=pE (sqL (ldB m) (k+1+1)):=by rw[ey_ _ (k+1),it_]
  refine q_z 1 ?_
  refine ac_ (cT (ah_ (ac_ (ag_ (r_z 2 ?_)))))
  refine ac_ (r_d hmix 10 ?_)
  refine c_s (hmm) ?_
  refine a_1 ?_
  refine an_ (n_k ?_)
  refine r_c 8 (ho1) ?_
  refine a_z ?_
  refine ac_ (r_c 3 (hsg) ?_)
  refine d_z ?_
  refine cF (ah_ (ac_ (r_d hmix 17 ?_)))
  refine c_s (a4_ 1 (by decide)) ?_
  refine a_1 ?_
  refine o_1 (.callS1 rfl rfl rfl (.keep (.shut rfl d_n (.nil))) rfl (hmx)) ?_
  refine c_s (ho2) ?_
  refine c_s (hov) ?_
  refine a_5 ?_
  refine an_ (n_k ?_)
  refine ac_ (q_z 2 ?_)
  refine cT (r_d hmix 7 ?_)
  refine c_s (hov2) ?_
  refine a_1 ?_
  refine an_ (n_k ?_)
  refine r_z 5 ?_
  refine ac_ (r_d hmix 22 ?_)
  refine a_8 ?_
  refine a_8 ?_
  refine a_6 ?_
  refine an_ (n_k ?_)
  refine r_d hmix 28 ?_
  refine c_s (hng) ?_
  refine c_s (a4_ 1 (by decide)) ?_
  refine a_1 ?_
  refine o_1 (.callS1 rfl rfl rfl (.keep (.shut rfl d_n (.nil))) rfl (hmp)) ?_
  refine c_s (hsc) ?_
  refine c_s (hsu) ?_
  refine a_8 ?_
  refine a_2 ?_
  refine an_ (n_k ?_)
  refine r_m 2 ?_
  refine a_z ?_
  refine⟨k+1+1,by omega,hlt,?_⟩
  rw[clS.eq_2]
  refine ar_ [(1,6),(2,73),(3,80)] rfl rfl rfl ?_ (fun hs=>au_f) (fun hs=>?_)
  ·repeat' (first|exact ShrL.nil|refine ShrL.cons rfl rfl rfl rfl (by first|(simp)|rfl|(simp;done)|(simp <;> omega)) ?_)
  ·repeat' (first|exact ap_|refine al_ rfl rfl rfl rfl ?_ ?_)
   all_goals (first|((try exact aD_ hs eA (aI_ _));(try exact aD_ hs eB (aI_ _));(try exact ae_ (js_ _ hs hWc (ak_ hs (at_ _)) (ak_ hs (at_ _)) (CvL.clo hs (aO_ _)) (Cv.sl rfl rfl rfl) (Cv.sl rfl rfl rfl))))|exact au_e)
 obtain rfl:k=d:=by omega
 refine AWp.ent (st':=clX m l r a b n k) ?_ ?_
 cases k with
 |zero=>
  rw[clS.eq_1]
  unfold clX
  refine ar_ [(1,6)] rfl rfl rfl au_r (fun hs=>au_f) (fun hs=>?_)
  ·repeat' (first|exact ap_|refine al_ rfl rfl rfl rfl ?_ ?_)
   all_goals (first|(exact ae_ (js_ _ hs hWc (ak_ hs (at_ _)) (Cv.emp _) (fs_ hs) (Cv.emp _) (Cv.emp _)))|exact au_e)
 |succ k=>
  rw[clS.eq_2]
  unfold clX
  refine ar_ [(1,6)] rfl rfl rfl au_r (fun hs=>au_f) (fun hs=>?_)
  ·repeat' (first|exact ap_|refine al_ rfl rfl rfl rfl ?_ ?_)
   all_goals (first|(exact ae_ (js_ _ hs hWc (ak_ hs (at_ _)) (ak_ hs (at_ _)) (CvL.clo hs (aO_ _)) (db_ hs rfl (aM_ rfl) rfl (by simp)) (db_ hs rfl (aM_ rfl) rfl (by simp))))|exact au_e)
 unfold clX
 by_cases hdn:k< n
 ·obtain⟨o1,o2,o3⟩:=hbad hdn
  have hmm:=dw_ _ _ o1
  have ho1:=lZ_ m _ l r a b o2
  have hsg:=bI_ (ldN m (ldr m k).1)
  have hsp:sgZ (ldN m (ldr m k).1).num≤0:=by
   have h1:=sgZ_num_gt (q:=ldN m (ldr m k).1)
   by_cases e:0< sgZ (ldN m (ldr m k).1).num
   exact absurd (h1.1 e) o3
   omega
  rw[decide_eq_false (show¬k=n by omega)]
  refine q_z 1 ?_
  refine ac_ (cT (ah_ (ac_ (ag_ (r_z 2 ?_)))))
  refine ac_ (r_d hmix 10 ?_)
  refine c_s (hmm) ?_
  refine a_1 ?_
  refine an_ (n_k ?_)
  refine r_c 8 (ho1) ?_
  refine a_z ?_
  refine ac_ (r_c 3 (hsg) ?_)
  refine d_z ?_
  refine am_ rfl (fun h=>?_) (fun h=>?_)
  rotate_left
  cases h
  refine r_z 3 ?_
  refine aj_ (Fin.many ⟨_,_,rfl,rfl,⟨_,_,rfl,rfl,rfl⟩⟩ (nle rfl) ?_)
  exact af_ (Cv.boxp as_ rfl (fun _ _ h=>by cases h) rfl (dK_ m l r a b _)) (af_ (ak_ as_ (ad_ _)) ao_)
 obtain rfl:k=n:=by omega
 refine q_z 1 ?_
 refine ac_ (cF (av_ ⟨(),rfl,?_⟩))
 refine ar_ [] rfl rfl rfl au_r (fun hs=>?_) (fun hs=>?_)
 ·repeat' (first|exact aA_|refine au_ rfl ?_ ?_)
  all_goals (first|(exact Cv.boxp hs rfl (aM_ rfl) rfl (dK_ m l r a b _))|exact au_c)
 ·repeat' (first|exact ap_|refine al_ rfl rfl rfl rfl ?_ ?_)
  all_goals (first|exact au_e|(refine ae_ ?_;repeat' (first|exact ao_|refine af_ ?_ ?_)))
  all_goals (first|(exact Cv.boxp hs rfl (aM_ rfl) rfl (dK_ m l r a b _))|exact au_c)
 rintro _ hdn
 rw[decide_eq_true hdn]
 refine r_z 3 ?_
 refine aj_ (Fin.many ⟨_,_,rfl,rfl,⟨_,_,rfl,rfl,rfl⟩⟩ (nle rfl) ?_)
 exact CvL.clo as_ (aa_ (cJ_ fun e he=>by rw[List.mem_singleton.1 he];exact dK_ m l r a b d) (aa_ (ad_ _) ab_))
theorem kO_(m:List Rat)(l r:Bool)(a b:Rat)(n:Nat)(hn:n≤1000)(hok:∀k,k< n→okLd m k):
    FSpec Tryz.prog 87 [.agg (wC m l r (qC a) (qC b)),i64 n] (.tup [.aptr [ldF m l r a b n] 0 0,bln true]):=by
 have h:=iY_ m l r a b n n hn (Nat.le_refl n) hok fun h=>absurd h (Nat.lt_irrefl n)
 rw[decide_eq_true rfl] at h
 exact h
theorem iU_(u v:Rat)(n:Nat)(hu:qs u≤256)(hv:qs v≤256)(hn:n≤8):FSpec Tryz.prog 79 [.arr (pE [u,v]),i64 n] (.arr (pE (powP [u,v] n))):=by
 refine f_n Tryz.func79 ?_ ?_
 exact aa_ (at_ _) (aa_ (ad_ _) ab_)
 refine r_z 1 ?_
 refine r_c 8 (rJ_ u v n hu hv hn) ?_
 refine a_z ?_
 refine r_z 2 ?_
 exact aj_ (t_e (at_ _))
abbrev wZ:List AV:=wC [] false false (qC 0) (qC 0)
theorem Cv_wZ{r:Ren}{hp hp':Nat→Option ABlk}(h:Shr r hp hp'):Cv r hp hp' (.agg w0C) (.agg wZ):=
 Cv.agg (cx_ (cx_ (af_ (Cv.emp _) (af_ (ak_ h (ad_ _)) (af_ (ak_ h (ad_ _)) ao_))) (fs_ h)) (fs_ h))
theorem rM_(a b:Rat)(p q n:Nat)(hp:p≤8)(hq:q≤8)(hn:n≤63)(hab:a< b)(ha:qs a≤256)(hb:qs b≤256):
    FSpec Tryz.prog 15 [.agg (spC a b),i64 p,i64 q,i64 n] (.tup [.agg (wC (sqL (moQ (jcF a b p q) (a,b)) (n+1)) true true (qC a) (qC b)),i64 0]):=by
 have sa:sm a:=Nat.le_trans ha (by decide)
 have sb:sm b:=Nat.le_trans hb (by decide)
 have hva:=ff_ a b sa sb
 rw[decide_eq_true (show cmpQ a b≤0 by unfold cmpQ;rw[if_pos hab];decide)] at hva
 have hsi:=bI_ (b- a)
 have hne:¬sgZ (b- a).num=0:=fun e=>by have:=sgZ_num_eq.1 e;grind
 have hop:=bn_ (p:Nat) 0 8
 rw[decide_eq_false (by omega)] at hop
 have hoq:=bn_ (q:Nat) 0 8
 rw[decide_eq_false (by omega)] at hoq
 have hon:=bn_ (n:Nat) 0 63
 rw[decide_eq_false (by omega)] at hon
 have hp1:FSpec Tryz.prog 79 [.arr [qC (-a),qC ((1:Int):Rat)],i64 p] (.arr (pE (powP [-a,1] p))):=iU_ (-a) 1 p (by rw[eQ_];exact ha) (by decide) hp
 have hp2:FSpec Tryz.prog 79 [.arr [qC b,qC ((-1:Int):Rat)],i64 q] (.arr (pE (powP [b,-1] q))):=iU_ b (-1) q hb (by decide) hq
 have l1:=dA_ (-a) 1 hp
 have l2:=dA_ b (-1) hq
 have m1:=lB_le hp
 have m2:=lB_le hq
 have hmu:FSpec Tryz.prog 52 [.arr (pE (powP [-a,1] p)),.arr (pE (powP [b,-1] q))] (.arr (pE (jcF a b p q))):=j3_ _ _ (lB p) (lB q) (jc_p ha) (jc_q hb) (e8_ p) (e8_ q) (by
  have h4:=Nat.mul_le_mul l1 (show lB p+lB q+1≤320001 by omega)
  omega) (by omega) (by omega) (by omega)
 have htk:=hY_ 81 [bP (jcF a b p q),bS (a,b)] (aa_ (bw_ _) (aa_ (fo_ _) ab_)) (moQ (jcF a b p q) (a,b)) n (by omega) rfl (lS_ (jcF a b p q) (a,b) n (by omega) fun k hk=>(jc_mom ha hb hp hq k (by omega)).1)
 generalize moQ (jcF a b p q) (a,b)=sq at htk⊢
 refine f_n Tryz.func15 ?_ ?_
 exact aa_ (b4_ _ _) (aa_ (ad_ _) (aa_ (ad_ _) (aa_ (ad_ _) ab_)))
 refine r_z 3 ?_
 refine aU_ (fun _:Unit=>⟨[(1,i64 p),(2,i64 q),(3,i64 n),(4,.lptr 1 0 0),(8,.lptr 2 0 0)],[(1,some ⟨37,6,[spC a b]⟩),(2,some ⟨51,9,[w0C]⟩)],3,58⟩) (fun _=>True) ?_ ?_
 refine ag_ (r_c 10 (hva) ?_)
 refine c_s (gy_ a b sa sb) ?_
 refine c_s (hsi) ?_
 refine d_z ?_
 refine cF (r_c 11 (hop) ?_)
 refine c_s (hoq) ?_
 refine c_s (hon) ?_
 refine a_z ?_
 refine cF (ah_ ⟨(),trivial,?_⟩)
 refine ar_ [(1,4),(2,8)] rfl rfl rfl au_r (fun hs=>au_f) (fun hs=>?_)
 ·repeat' (first|exact ap_|refine al_ rfl rfl rfl rfl ?_ ?_)
  all_goals (first|((try exact ae_ (CvL.clo hs (fun c hc=>(List.mem_append.1 hc).elim (aO_ _ c) (aO_ _ c))));(try exact ae_ (CvL.clo hs aV_)))|exact au_e)
 rintro _ _
 refine ac_ (r_d hmix 16 ?_)
 refine c_s (gx_ a) ?_
 refine c_s (a4_ 1 (by decide)) ?_
 refine a_2 ?_
 refine o_1 (.callS1 rfl rfl rfl (.shut rfl d_n (.keep (.nil))) rfl (hp1)) ?_
 refine c_s (a4_ (-1) (by decide)) ?_
 refine a_2 ?_
 refine o_1 (.callS1 rfl rfl rfl (.shut rfl d_n (.keep (.nil))) rfl (hp2)) ?_
 refine c_s (hmu) ?_
 refine a_2 ?_
 refine an_ (n_k ?_)
 refine AWp.ent (st':=⟨[(3,i64 n),(4,bS (a,b)),(8,.lptr 1 0 0),(10,bP (jcF a b p q))],[(1,some ⟨51,9,[w0C]⟩)],2,58⟩) ?_ ?_
 exact s_f [(1,8)]
 refine r_z 2 ?_
 refine ac_ (r_d hmix 10 ?_)
 refine c_s (htk) ?_
 refine a_7 ?_
 refine an_ (n_k ?_)
 refine aj_ (Fin.many ⟨_,_,rfl,⟨_,_,_,_,_,rfl,rfl,rfl,.inl ⟨tg_51.h,_,ts_51.h,nle rfl,rfl⟩⟩,⟨_,_,rfl,rfl,rfl⟩⟩ (nle rfl) ?_)
 exact af_ (ak_ as_ (aq_ (aG_ (.inr ⟨a,rfl⟩) (.inr ⟨b,rfl⟩)))) (af_ (ak_ as_ (ad_ _)) ao_)
theorem pF_(a b:Rat)(p q n:Int)(hab:¬a< b)(ha:qs a≤256)(hb:qs b≤256):FSpec Tryz.prog 15 [.agg (spC a b),i64 p,i64 q,i64 n] (.tup [.agg wZ,i64 2]):=by
 have sa:sm a:=Nat.le_trans ha (by decide)
 have sb:sm b:=Nat.le_trans hb (by decide)
 have hva:=ff_ a b sa sb
 refine f_n Tryz.func15 ?_ ?_
 exact aa_ (b4_ _ _) (aa_ (ad_ _) (aa_ (ad_ _) (aa_ (ad_ _) ab_)))
 refine r_z 3 ?_
 refine ac_ (ag_ ?_)
 by_cases e:a=b
 have hsi:=bI_ (b- a)
 rw[decide_eq_true (show cmpQ a b≤0 by unfold cmpQ;rw[if_neg hab,if_pos e];decide)] at hva
 refine r_c 10 (hva) ?_
 refine c_s (gy_ a b sa sb) ?_
 refine c_s (hsi) ?_
 refine ay_ rfl rfl rfl (.bin rfl rfl (vT a9_ (decide_eq_true (sgZ_num_eq.2 (by grind))))) rfl rfl ?_
 refine a_z ?_
 refine cT (r_z 3 ?_)
 refine aj_ (Fin.many ⟨_,_,rfl,⟨_,_,_,_,_,rfl,rfl,rfl,.inl ⟨tg_51.h,_,ts_51.h,nle rfl,rfl⟩⟩,⟨_,_,rfl,rfl,rfl⟩⟩ (nle rfl) ?_)
 exact af_ (Cv_wZ as_) (af_ (ak_ as_ (ad_ _)) ao_)
 rw[decide_eq_false (show¬cmpQ a b≤0 by unfold cmpQ;rw[if_neg hab,if_neg e];decide)] at hva
 refine r_c 10 (hva) ?_
 refine a_z ?_
 refine cT (r_z 3 ?_)
 refine aj_ (Fin.many ⟨_,_,rfl,⟨_,_,_,_,_,rfl,rfl,rfl,.inl ⟨tg_51.h,_,ts_51.h,nle rfl,rfl⟩⟩,⟨_,_,rfl,rfl,rfl⟩⟩ (nle rfl) ?_)
 exact af_ (Cv_wZ as_) (af_ (ak_ as_ (ad_ _)) ao_)
theorem pE_(a b:Rat)(p q n:Int)(hab:a< b)(ha:qs a≤256)(hb:qs b≤256)(h:p< 0∨8< p∨q< 0∨8< q∨n< 0∨63< n):FSpec Tryz.prog 15 [.agg (spC a b),i64 p,i64 q,i64 n] (.tup [.agg wZ,i64 3]):=by
 have sa:sm a:=Nat.le_trans ha (by decide)
 have sb:sm b:=Nat.le_trans hb (by decide)
 have hva:=ff_ a b sa sb
 rw[decide_eq_true (show cmpQ a b≤0 by unfold cmpQ;rw[if_pos hab];decide)] at hva
 have hsi:=bI_ (b- a)
 have hne:¬sgZ (b- a).num=0:=fun e=>by have:=sgZ_num_eq.1 e;grind
 have hop:=bn_ p 0 8
 have hoq:=bn_ q 0 8
 have hon:=bn_ n 0 63
 refine f_n Tryz.func15 ?_ ?_
 exact aa_ (b4_ _ _) (aa_ (ad_ _) (aa_ (ad_ _) (aa_ (ad_ _) ab_)))
 refine r_z 3 ?_
 refine ac_ (ag_ (r_c 10 (hva) ?_))
 refine c_s (gy_ a b sa sb) ?_
 refine c_s (hsi) ?_
 refine d_z ?_
 refine cF ?_
 by_cases h1:p< 0∨8< p
 rw[decide_eq_true h1] at hop
 refine r_c 11 (hop) ?_
 refine a_z ?_
 refine cT (r_z 3 ?_)
 refine aj_ (Fin.many ⟨_,_,rfl,⟨_,_,_,_,_,rfl,rfl,rfl,.inl ⟨tg_51.h,_,ts_51.h,nle rfl,rfl⟩⟩,⟨_,_,rfl,rfl,rfl⟩⟩ (nle rfl) ?_)
 exact af_ (Cv_wZ as_) (af_ (ak_ as_ (ad_ _)) ao_)
 rw[decide_eq_false h1] at hop
 by_cases h2:q< 0∨8< q
 rw[decide_eq_true h2] at hoq
 refine r_c 11 (hop) ?_
 refine c_s (hoq) ?_
 refine a_z ?_
 refine cT (r_z 3 ?_)
 refine aj_ (Fin.many ⟨_,_,rfl,⟨_,_,_,_,_,rfl,rfl,rfl,.inl ⟨tg_51.h,_,ts_51.h,nle rfl,rfl⟩⟩,⟨_,_,rfl,rfl,rfl⟩⟩ (nle rfl) ?_)
 exact af_ (Cv_wZ as_) (af_ (ak_ as_ (ad_ _)) ao_)
 rw[decide_eq_false h2] at hoq
 rw[decide_eq_true (show n< 0∨63< n by omega)] at hon
 refine r_c 11 (hop) ?_
 refine c_s (hoq) ?_
 refine c_s (hon) ?_
 refine a_z ?_
 refine cT (r_z 3 ?_)
 refine aj_ (Fin.many ⟨_,_,rfl,⟨_,_,_,_,_,rfl,rfl,rfl,.inl ⟨tg_51.h,_,ts_51.h,nle rfl,rfl⟩⟩,⟨_,_,rfl,rfl,rfl⟩⟩ (nle rfl) ?_)
 exact af_ (Cv_wZ as_) (af_ (ak_ as_ (ad_ _)) ao_)
theorem iV_(n lo hi:Int)(h:lo≤n∧n≤hi):FSpec Tryz.prog 85 [i64 n,i64 lo,i64 hi] (i64 0):=by
 have ho:=bn_ n lo hi
 rw[decide_eq_false (by omega)] at ho
 refine f_n Tryz.func85 ?_ ?_
 exact aa_ (ad_ _) (aa_ (ad_ _) (aa_ (ad_ _) ab_))
 refine r_z 1 ?_
 refine ac_ (r_c 4 (ho) ?_)
 refine an_ ?_
 refine cF (ah_ (r_z 1 ?_))
 exact aj_ (t_e (ad_ _))
theorem kI_ (m:List Rat) (l r:Bool) (a b:Rat) (mo:Nat) (g:Nat) (cap:List AV) (p wt:List Rat) (hcap:∀c∈cap,Closed c) (hm:1≤m.length∧m.length≤64) (hab:l=true→r=true→a< b) (ha:sm a) (hb:sm b)
    (hmo:mo≤m.length) (hg:FSpec Tryz.prog g (cap.map coe) (.tup [.arr (pE p),bln true])) (hr:FSpec Tryz.prog 160 [.arr (pE p)] (bln true)) (hpb:bdL p 68719476736) (hp0:trimQ p≠[]) (hpl:p.length≤1099511627776)
    (hon:FSpec Tryz.prog 161 [.agg (wC m l r (qC a) (qC b)),.arr (pE (bf_ p))] (.agg (ruC (bf_ p) wt))):
    FSpec Tryz.prog 84 [.agg (wC m l r (qC a) (qC b)),i64 0,i64 mo,.clos g [] cap] (.tup [.agg (ruC (bf_ p) wt),i64 0]):=by
 have hWc:∀c∈wC m l r (qC a) (qC b),Closed c:=aG_ (.inr ⟨a,rfl⟩) (.inr ⟨b,rfl⟩)
 have hcw:=bS_ m l r a b hm hab ha hb
 have hmn:=ps_ p hpb hp0 hpl
 refine f_n Tryz.func84 ?_ ?_
 exact aa_ (aq_ hWc) (aa_ (ad_ _) (aa_ (ad_ _) (aa_ (aT_ ab_ hcap) ab_)))
 refine r_z 3 ?_
 refine ac_ (r_c 3 (hcw) ?_)
 refine a_z ?_
 refine s_r 2 ?_
 refine a_1 ?_
 refine o_0 (.bin rfl rfl (vF ba_ (rfl))) ?_
 refine an_ ?_
 refine cF (ah_ (ac_ (ag_ (s_r 3 ?_))))
 refine a_1 ?_
 refine o_0 (.bin rfl rfl (vF ba_ (rfl))) ?_
 refine a_z ?_
 refine cF (q_z 6 ?_)
 refine cF (ah_ (r_c 7 (hg) ?_))
 refine a_z ?_
 refine ac_ (r_c 7 (hr) ?_)
 refine a_z ?_
 refine cF (ah_ (ac_ (r_d hmix 6 ?_)))
 refine c_s (hmn) ?_
 refine c_s (hon) ?_
 refine a_2 ?_
 refine an_ (n_k ?_)
 refine aj_ (Fin.many ⟨_,_,rfl,⟨_,_,_,_,_,rfl,rfl,rfl,.inl ⟨tg_57.h,_,ts_57.h,nle rfl,rfl⟩⟩,⟨_,_,rfl,rfl,rfl⟩⟩ (nle rfl) ?_)
 exact af_ (ak_ as_ (aq_ (bU_ _ _))) (af_ (ak_ as_ (ad_ _)) ao_)
def bW(m:List Rat)(l r:Bool)(a b:Rat):AV:= .aptr [wC m l r (qC a) (qC b)] 0 0
theorem es_(m:List Rat)(l r:Bool)(a b:Rat):Closed (bW m l r a b):=ai_ (aG_ (.inr ⟨a,rfl⟩) (.inr ⟨b,rfl⟩))
def bIn(n:Int):AV:= .aptr [[i64 n]] 0 0
theorem dk_(n:Int):Closed (bIn n):=ai_ (aa_ (ad_ _) ab_)
theorem rN_(m:List Rat)(l r:Bool)(a b:Rat)(n:Nat)(hn:n≤1000)(hok:∀k,k< n→okLd m k):FSpec Tryz.prog 86 [bW m l r a b,bIn n] (.tup [.arr (pE (ldr m n).1),bln true]):=by
 have hcl:=kO_ m l r a b n hn hok
 refine f_n Tryz.func86 ?_ ?_
 exact aa_ (es_ m l r a b) (aa_ (dk_ n) ab_)
 refine r_z 2 ?_
 refine r_c 8 (hcl) ?_
 refine a_z ?_
 refine r_z 7 ?_
 refine aj_ (Fin.many ⟨_,_,rfl,rfl,⟨_,_,rfl,rfl,rfl⟩⟩ (nle rfl) ?_)
 exact af_ (ak_ as_ (at_ _)) (af_ (ak_ as_ (ad_ _)) ao_)
theorem fs_Gauss (m:List Rat) (l r:Bool) (a b:Rat) (n:Nat) (wt:List Rat) (hn:1≤n∧n≤25) (hok:∀k,k< n→okLd m k) (hm:2* n≤m.length∧m.length≤64) (hab:l=true→r=true→a< b) (ha:sm a) (hb:sm b)
    (hr:FSpec Tryz.prog 160 [.arr (pE (ldr m n).1)] (bln true)) (hpb:bdL (ldr m n).1 68719476736) (hp0:trimQ (ldr m n).1≠[]) (hpl:(ldr m n).1.length≤1099511627776)
    (hon:FSpec Tryz.prog 161 [.agg (wC m l r (qC a) (qC b)),.arr (pE (bf_ (ldr m n).1))] (.agg (ruC (bf_ (ldr m n).1) wt))):
    FSpec Tryz.prog 16 [.agg (wC m l r (qC a) (qC b)),i64 n] (.tup [.agg (ruC (bf_ (ldr m n).1) wt),i64 0]):=by
 have hWc:∀c∈wC m l r (qC a) (qC b),Closed c:=aG_ (.inr ⟨a,rfl⟩) (.inr ⟨b,rfl⟩)
 have hra:=iV_ (n:Nat) 1 25 (by omega)
 have hcc:∀c∈[bW m l r a b,bIn n],Closed c:=aa_ (es_ m l r a b) (aa_ (dk_ n) ab_)
 have hna:=kI_ m l r a b (2* n) 86 [bW m l r a b,bIn n] (ldr m n).1 wt hcc (by omega) hab ha hb hm.1 (rN_ m l r a b n (by omega) hok) hr hpb hp0 hpl hon
 refine f_n Tryz.func16 ?_ ?_
 exact aa_ (aq_ hWc) (aa_ (ad_ _) ab_)
 refine r_z 4 ?_
 refine AWp.ent (st':=⟨[(2,bW m l r a b),(3,bIn n),(4,.lptr 1 0 0)],[(1,some ⟨57,2,[[.emp,.emp]]⟩)],2,15⟩) ?_ ?_
 refine ar_ [(1,4)] rfl rfl rfl au_r (fun hs=>?_) (fun hs=>?_)
 ·repeat' (first|exact aA_|refine au_ rfl ?_ ?_)
  all_goals (first|((try exact Cv.boxp hs rfl (aM_ rfl) rfl hWc);(try exact Cv.boxp hs rfl (aM_ rfl) rfl (aa_ (ad_ _) ab_));done)|exact au_c)
 ·repeat' (first|exact ap_|refine al_ rfl rfl rfl rfl ?_ ?_)
  all_goals (first|exact au_e|(refine ae_ ?_;repeat' (first|exact ao_|refine af_ ?_ ?_)))
  all_goals (first|((try exact Cv.boxp hs rfl (aM_ rfl) rfl hWc);(try exact Cv.boxp hs rfl (aM_ rfl) rfl (aa_ (ad_ _) ab_));done)|exact au_c)
 refine ac_ (r_d hmix 11 ?_)
 refine c_s (hra) ?_
 refine c_s (hna) ?_
 refine a_4 ?_
 refine an_ (n_k ?_)
 refine aj_ (Fin.many ⟨_,_,rfl,⟨_,_,_,_,_,rfl,rfl,rfl,.inl ⟨tg_57.h,_,ts_57.h,nle rfl,rfl⟩⟩,⟨_,_,rfl,rfl,rfl⟩⟩ (nle rfl) ?_)
 exact af_ (ak_ as_ (aq_ (bU_ _ _))) (af_ (ak_ as_ (ad_ _)) ao_)
theorem fcR(n:Nat):(((fcN n:Nat):Int):Rat) * (((n+1:Nat):Int):Rat)=((fcN (n+1):Nat):Int):=by
 rw[fcN,Int.natCast_mul,Rat.intCast_mul]
def lgT(p k:Nat):Option (List AV):=some [.agg (qC (lgQ p k))]
theorem m7_(p K:Nat)(hp:p≤8)(hK:K≤63):GSpecB Tryz.prog 194 [bIn p] (lgT p) K:=by
 have hcb:Closed (bIn p):=ai_ (aa_ (ad_ _) ab_)
 have h1:=a4_ 1 (by decide)
 refine GSpecB.enter Tryz.func194 rfl (by kernel_rfl) rfl rfl rfl ?_ ?_ rfl ?_
 exact aa_ hcb ab_
 intro k xs h
 cases h
 exact aa_ (az_ _) ab_
 intro ll N hN E
 refine GWp.seq ?_
 refine GWp.lift ?_
 refine r_m 3 ?_
 refine c_s (h1) ?_
 refine a_z ?_
 refine GWp.seq ?_
 refine GWp.seq ?_
 refine GWp.lift ?_
 refine r_m 1 ?_
 refine a_z ?_
 refine GWp.cutT (fun _:Unit=>⟨[(0,.v (.func (.yield ll) #[] #[])),(1,bIn p),(3,.lptr 1 0 0)],[(1,some ⟨35,3,[qC (((fcN p:Nat):Int):Rat)]⟩)],2,27⟩) (fun _=>True) ?_ ?_
 refine ag_ (ax_ (fun k:Nat=>⟨[(0,.v (.func (.yield ll) #[] #[])),(1,bIn p),(3,.lptr 1 0 0),(4,i64 ((k+1:Nat):Int))],[(1,some ⟨35,3,[qC (((fcN k:Nat):Int):Rat)]⟩)],2,27⟩) (fun k=>p- k) (fun k=>k≤p) 0 (Nat.zero_le _) ?_ ?_)
 exact s_e [(1,3)]
 intro k hk
 by_cases hlt:k< p
 have hw:=a4_ ((k+1:Nat):Int) (by omega)
 have hm:=dd_ (((fcN k:Nat):Int):Rat) (((k+1:Nat):Int):Rat) (by
  have:=gB_ (n:=k) (by omega)
  have:=qi21 (n:=((k+1:Nat):Int)) (by omega)
  omega)
 rw[fcR] at hm
 refine ac_ (q_z 3 ?_)
 refine cT (ah_ (ac_ (ag_ (r_d hmix 5 ?_))))
 refine c_s (hw) ?_
 refine c_s (hm) ?_
 refine a_1 ?_
 refine an_ (n_k ?_)
 refine r_m 3 ?_
 refine a_z ?_
 refine⟨k+1,by omega,hlt,?_⟩
 exact s_e [(1,3)]
 have hge:k=p:=by omega
 subst hge
 refine ac_ (q_z 3 ?_)
 refine cF (av_ ⟨(),trivial,?_⟩)
 exact s_e [(1,3)]
 rintro _ _
 refine GWp.seq ?_
 refine GWp.lift ?_
 refine r_m 3 ?_
 refine a_z ?_
 refine GWp.block ?_
 refine GWp.loopS (fun k:Nat=>⟨[(0,.v (.func (.yield ll) #[] #[])),(1,bIn p),(3,.lptr 1 0 0),(5,i64 ((p+k+1:Nat):Int))],[(1,some ⟨35,3,[qC (lgQ p k)]⟩)],2,27⟩) (fun k=>k) (fun k=>N+1- k) (fun k=>k≤N) 0 (Nat.zero_le _) rfl ?_ ?_
 exact s_e [(1,3)]
 intro k hk
 refine GWp.seq ?_
 refine GWp.seq ?_
 refine GWp.regY (fr2:=[(0,.v (.func (.yield ll) #[] #[])),(1,bIn p),(3,.lptr 1 0 0),(5,i64 ((p+k+1:Nat):Int)),(18,.v (.func (.yield ll) #[] #[])),(19,.agg (qC (lgQ p k)))]) (hp2:=[(1,some ⟨35,3,[qC (lgQ p k)]⟩)]) (nx2:=2) 2 rfl rfl rfl rfl rfl rfl ?_ rfl rfl rfl ?_ ?_ ?_
 refine o_0 (.move rfl) ?_
 first|refine aw_ (.load_l rfl rfl rfl tg_35.h ts_35.h (nle rfl)) rfl rfl ?_|refine aw_ (.load_a rfl rfl tg_35.h ts_35.h (nle rfl)) rfl rfl ?_
 refine an_ ?_
 refine SEntT.to [(1,3)] rfl rfl rfl au_r (fun hs=>au_f) (fun hs=>au_h)
 rotate_left 2
 intro go
 refine an_ ?_
 rotate_left
 rfl
 exact aa_ (az_ _) ab_
 cases go with
 |false=>
  refine GWp.cond rfl (fun h=>?_) (fun h=>?_)
  cases h
  exact GWp.exit ⟨.inl rfl,fun h=>by cases h⟩
 |true=>
  refine GWp.bound fun hk1=>?_
  refine GWp.cond rfl (fun h=>?_) (fun h=>?_)
  rotate_left
  cases h
  refine GWp.skip ?_
  have hw:=a4_ ((p+k+1:Nat):Int) (by omega)
  have hm:=dd_ (lgQ p k) (((p+k+1:Nat):Int):Rat) (by
   have h1:=gB_ (n:=p+k) (by omega)
   have h2:=qi21 (n:=((p+k+1:Nat):Int)) (by omega)
   show qs (((fcN (p+k):Nat):Int):Rat)+_≤_
   omega)
  have e:lgQ p k* (((p+k+1:Nat):Int):Rat)=lgQ p (k+1):=fcR (p+k)
  rw[e] at hm
  refine GWp.seq ?_
  refine GWp.lift ?_
  refine ag_ (r_d hmix 5 ?_)
  refine c_s (hw) ?_
  refine c_s (hm) ?_
  refine a_1 ?_
  refine an_ (n_k ?_)
  refine GWp.lift ?_
  refine r_m 3 ?_
  refine a_z ?_
  refine⟨rfl,k+1,by omega,hk1,rfl,?_⟩
  exact s_e [(1,3)]
theorem Cv_wz{r:Ren}{hp hp':Nat→Option ABlk}(h:Shr r hp hp')(m:List Rat)(l b:Bool):Cv r hp hp' (.agg ([.arr (pE m),bln l,bln b]++zC++zC)) (.agg (wC m l b (qC 0) (qC 0))):=
 Cv.agg (cx_ (cx_ (af_ (ak_ h (at_ m)) (af_ (ak_ h (ad_ _)) (af_ (ak_ h (ad_ _)) ao_))) (fs_ h)) (fs_ h))
theorem ng_(p n:Nat)(hp:p≤8)(hn:n≤63):FSpec Tryz.prog 106 [i64 p,i64 n] (.tup [.agg (wC (sqL (lgQ p) (n+1)) true false (qC 0) (qC 0)),i64 0]):=by
 have hop:=bn_ (p:Nat) 0 8
 rw[decide_eq_false (by omega)] at hop
 have hon:=bn_ (n:Nat) 0 63
 rw[decide_eq_false (by omega)] at hon
 have htk:=hY_ 194 [bIn p] (aa_ (ai_ (aa_ (ad_ _) ab_)) ab_) (lgQ p) n (by omega) rfl (m7_ p n hp hn)
 refine f_n Tryz.func106 ?_ ?_
 exact aa_ (ad_ _) (aa_ (ad_ _) ab_)
 refine r_z 3 ?_
 refine ac_ (r_c 6 (hop) ?_)
 refine c_s (hon) ?_
 refine a_z ?_
 refine cF (ah_ (AWp.ent (st':=⟨[(1,i64 n),(2,bIn p),(4,.lptr 1 0 0)],[(1,some ⟨51,9,[w0C]⟩)],2,19⟩) ?_ ?_))
 exact s_f [(1,4)]
 refine r_z 2 ?_
 refine r_c 6 (htk) ?_
 refine a_z ?_
 refine aj_ (Fin.many ⟨_,_,rfl,⟨_,_,_,_,_,rfl,rfl,rfl,.inl ⟨tg_51.h,_,ts_51.h,nle rfl,rfl⟩⟩,⟨_,_,rfl,rfl,rfl⟩⟩ (nle rfl) ?_)
 exact af_ (Cv_wz as_ _ _ _) (af_ (ak_ as_ (ad_ _)) ao_)
theorem l5_(p n:Int)(h:p< 0∨8< p∨n< 0∨63< n):FSpec Tryz.prog 106 [i64 p,i64 n] (.tup [.agg wZ,i64 3]):=by
 have hop:=bn_ p 0 8
 have hon:=bn_ n 0 63
 refine f_n Tryz.func106 ?_ ?_
 exact aa_ (ad_ _) (aa_ (ad_ _) ab_)
 refine r_z 3 ?_
 by_cases h1:p< 0∨8< p
 rw[decide_eq_true h1] at hop
 refine ac_ (r_c 6 (hop) ?_)
 refine a_z ?_
 refine cT (r_z 3 ?_)
 refine aj_ (Fin.many ⟨_,_,rfl,⟨_,_,_,_,_,rfl,rfl,rfl,.inl ⟨tg_51.h,_,ts_51.h,nle rfl,rfl⟩⟩,⟨_,_,rfl,rfl,rfl⟩⟩ (nle rfl) ?_)
 exact af_ (Cv_wZ as_) (af_ (ak_ as_ (ad_ _)) ao_)
 rw[decide_eq_false h1] at hop
 rw[decide_eq_true (show n< 0∨63< n by omega)] at hon
 refine ac_ (r_c 6 (hop) ?_)
 refine c_s (hon) ?_
 refine a_z ?_
 refine cT (r_z 3 ?_)
 refine aj_ (Fin.many ⟨_,_,rfl,⟨_,_,_,_,_,rfl,rfl,rfl,.inl ⟨tg_51.h,_,ts_51.h,nle rfl,rfl⟩⟩,⟨_,_,rfl,rfl,rfl⟩⟩ (nle rfl) ?_)
 exact af_ (Cv_wZ as_) (af_ (ak_ as_ (ad_ _)) ao_)
def bFn(g:Nat):AV:= .aptr [[.clos g [] []]] 0 0
theorem ka_(g:Nat):Closed (bFn g):=ai_ (aa_ (aT_ ab_ ab_) ab_)
def evT(f:Nat→Rat)(k:Nat):Option (List AV):=some [.agg (qC (evW f k))]
theorem gs_even(g:Nat)(f:Nat→Rat)(K:Nat)(hK:K≤63)(hg:∀j,j≤40→FSpec Tryz.prog g [i64 ((2* (j+1):Nat):Int)] (.agg (qC (f (2* (j+1))))))(hf:∀k,k≤200→qs (f k)≤42):GSpecB Tryz.prog 252 [bFn g] (evT f) K:=by
 have hcb:=ka_ g
 have h1:=a4_ 1 (by decide)
 refine GSpecB.enter Tryz.func252 rfl (by kernel_rfl) rfl rfl rfl ?_ ?_ rfl ?_
 exact aa_ hcb ab_
 intro k xs h
 cases h
 exact aa_ (az_ _) ab_
 intro ll N hN E
 refine GWp.seq ?_
 refine GWp.lift ?_
 refine r_m 3 ?_
 refine c_s (h1) ?_
 refine a_z ?_
 refine GWp.seq ?_
 refine GWp.lift ?_
 refine r_m 1 ?_
 refine a_z ?_
 refine GWp.block ?_
 refine GWp.loopS (fun j:Nat=>⟨[(0,.v (.func (.yield ll) #[] #[])),(1,bFn g),(3,.lptr 1 0 0),(4,i64 ((2* (j+1):Nat):Int))],[(1,some ⟨35,3,[qC (evM f j)]⟩)],2,21⟩) (fun j=>2* j) (fun j=>N+2- 2* j) (fun j=>2* j≤N) 0 (Nat.zero_le _) rfl ?_ ?_
 exact s_e [(1,3)]
 intro j hj
 have e0:evW f (2* j)=evM f j:=by
  unfold evW
  rw[if_pos (by omega),show 2* j/ 2=j by omega]
 have e1:evW f (2* j+1)=0:=by
  unfold evW
  rw[if_neg (by omega)]
 refine GWp.seq ?_
 refine GWp.seq ?_
 refine GWp.regL ?_
 refine GLs.yield (fr2:=[(0,.v (.func (.yield ll) #[] #[])),(1,bFn g),(3,.lptr 1 0 0),(4,i64 ((2* (j+1):Nat):Int)),(6,.v (.func (.yield ll) #[] #[])),(7,.agg (qC (evM f j)))]) (hp2:=[(1,some ⟨35,3,[qC (evM f j)]⟩)]) (nx2:=2) 2 rfl rfl rfl rfl (.inl rfl) ?_ rfl rfl rfl ?_ ?_ ?_
 refine o_0 (.move rfl) ?_
 first|refine aw_ (.load_l rfl rfl rfl tg_35.h ts_35.h (nle rfl)) rfl rfl ?_|refine aw_ (.load_a rfl rfl tg_35.h ts_35.h (nle rfl)) rfl rfl ?_
 refine an_ ?_
 refine SEntT.to [(1,3)] rfl rfl rfl au_r (fun hs=>au_f) (fun hs=>au_h)
 show evT f (2* j)=_
 unfold evT
 rw[e0]
 rfl
 exact aa_ (az_ _) ab_
 intro go
 cases go with
 |false=>
  refine GLs.fin rfl ?_
  refine o_0 (.move rfl) ?_
  first|refine ay_ rfl rfl rfl (.move rfl) rfl rfl ?_|refine br_ rfl rfl (by first|(simp[bh_];done)|exact nofun) rfl rfl ?_
  first|refine ay_ rfl rfl rfl (.build tz_35.h tp_35.h rfl rfl) rfl rfl ?_|refine br_ rfl rfl (by first|(simp[bh_];done)|exact nofun) rfl rfl ?_
  first|refine br_ rfl rfl (by first|(simp[bh_];done)|exact nofun) rfl rfl ?_
  first|refine aw_ (.pick rfl (fun _=>rfl) (fun _=>rfl)) rfl rfl ?_|refine aw_ (.pick rfl (fun _=>rfl) (fun h=>absurd h (by decide))) rfl rfl ?_|refine aw_ (.pick rfl (fun h=>absurd h (by decide)) (fun _=>rfl)) rfl rfl ?_
  refine an_ ?_
  refine GWp.cond rfl (fun h=>?_) (fun h=>?_)
  cases h
  exact GWp.exit ⟨.inl rfl,fun h=>by cases h⟩
 |true=>
  refine GLs.yield (fr2:=[(0,.v (.func (.yield ll) #[] #[])),(1,bFn g),(3,.lptr 1 0 0),(4,i64 ((2* (j+1):Nat):Int)),(9,bln true),(10,.v (.func (.yield ll) #[] #[])),(11,.agg (qC 0))]) (hp2:=[(1,some ⟨35,3,[qC (evM f j)]⟩)]) (nx2:=2) 3 rfl rfl rfl rfl (.inr ⟨3,9,rfl,rfl,rfl⟩) ?_ rfl rfl rfl ?_ ?_ ?_
  ·refine o_0 (.move rfl) ?_
   first|refine ay_ rfl rfl rfl (.move rfl) rfl rfl ?_|refine br_ rfl rfl (by first|(simp[bh_];done)|exact nofun) rfl rfl ?_
   first|refine ay_ rfl rfl rfl (.build tz_35.h tp_35.h rfl rfl) rfl rfl ?_|refine br_ rfl rfl (by first|(simp[bh_];done)|exact nofun) rfl rfl ?_
   refine an_ ?_
   refine SEntT.to [(1,3)] rfl rfl rfl au_r (fun hs=>?_) (fun hs=>?_)
   ·repeat' (first|exact aA_|refine au_ rfl ?_ ?_)
    all_goals (first|(exact Cv.agg (fs_ hs))|exact au_c)
   ·repeat' (first|exact ap_|refine al_ rfl rfl rfl rfl ?_ ?_)
    all_goals (first|exact au_e|(refine ae_ ?_;repeat' (first|exact ao_|refine af_ ?_ ?_)))
    all_goals (first|(exact Cv.agg (fs_ hs))|exact au_c)
  show evT f (2* j+1)=_
  unfold evT
  rw[e1]
  rfl
  exact aa_ (az_ _) ab_
  intro go
  refine GLs.fin rfl ?_
  first|refine aw_ (.pick rfl (fun _=>rfl) (fun _=>rfl)) rfl rfl ?_|refine aw_ (.pick rfl (fun _=>rfl) (fun h=>absurd h (by decide))) rfl rfl ?_|refine aw_ (.pick rfl (fun h=>absurd h (by decide)) (fun _=>rfl)) rfl rfl ?_
  refine an_ ?_
  cases go with
  |false=>
   refine GWp.cond rfl (fun h=>?_) (fun h=>?_)
   cases h
   exact GWp.exit ⟨.inl rfl,fun h=>by cases h⟩
  |true=>
   refine GWp.bound fun hk1=>?_
   refine GWp.cond rfl (fun h=>?_) (fun h=>?_)
   rotate_left
   cases h
   refine GWp.skip ?_
   have hfk:=hg j (by omega)
   have hm:=dd_ (evM f j) (f (2* (j+1))) (by
    have h1:=oH_ (f:=f) (s:=42) j fun i hi=>hf _ (by omega)
    have h2:=hf (2* (j+1)) (by omega)
    omega)
   refine GWp.seq ?_
   refine GWp.lift ?_
   refine ag_ (r_d hmix 6 ?_)
   refine c_s (hfk) ?_
   refine c_s (hm) ?_
   refine a_1 ?_
   refine an_ (n_k ?_)
   refine GWp.lift ?_
   refine r_m 3 ?_
   refine a_z ?_
   refine⟨rfl,j+1,by omega,by omega,by omega,?_⟩
   exact s_e [(1,3)]
theorem nf_(g:Nat)(f:Nat→Rat)(n:Nat)(hn:n≤63)(hg:∀j,j≤40→FSpec Tryz.prog g [i64 ((2* (j+1):Nat):Int)] (.agg (qC (f (2* (j+1))))))(hf:∀k,k≤200→qs (f k)≤42):FSpec Tryz.prog 196 [i64 n,.clos g [] []] (.tup [.arr (pE (sqL (evW f) (n+1))),i64 0]):=by
 have hon:=bn_ (n:Nat) 0 63
 rw[decide_eq_false (by omega)] at hon
 have hcg:Closed (.clos g [] []):=aT_ ab_ ab_
 have htk:=hY_ 252 [bFn g] (aa_ (ka_ g) ab_) (evW f) n (by omega) rfl (gs_even g f n hn hg hf)
 refine f_n Tryz.func196 ?_ ?_
 exact aa_ (ad_ _) (aa_ hcg ab_)
 refine r_z 3 ?_
 refine ac_ (r_c 2 (hon) ?_)
 refine an_ ?_
 refine cF (ah_ (AWp.ent (st':=⟨[(0,i64 n),(3,bFn g)],[],1,13⟩) ?_ ?_))
 have:=aa_ hcg ab_
 exact s_f []
 refine r_z 2 ?_
 refine r_c 5 (htk) ?_
 refine a_z ?_
 refine aj_ (Fin.many ⟨_,_,rfl,rfl,⟨_,_,rfl,rfl,rfl⟩⟩ (nle rfl) ?_)
 exact af_ (ak_ as_ (at_ _)) (af_ (ak_ as_ (ad_ _)) ao_)
theorem kL_(g:Nat)(n:Int)(h:n< 0∨63< n):FSpec Tryz.prog 196 [i64 n,.clos g [] []] (.tup [.arr (pE []),i64 3]):=by
 have hon:=bn_ n 0 63
 rw[decide_eq_true h] at hon
 refine f_n Tryz.func196 ?_ ?_
 exact aa_ (ad_ _) (aa_ (aT_ ab_ ab_) ab_)
 refine r_z 3 ?_
 refine ac_ (r_c 2 (hon) ?_)
 refine an_ ?_
 refine cT (r_z 2 ?_)
 refine aj_ (Fin.many ⟨_,_,rfl,rfl,⟨_,_,rfl,rfl,rfl⟩⟩ (nle rfl) ?_)
 exact af_ (Cv.emp _) (af_ (ak_ as_ (ad_ _)) ao_)
theorem fs_Herm1(j:Nat)(hj:j≤40):FSpec Tryz.prog 197 [i64 ((2* (j+1):Nat):Int)] (.agg (qC (evK 1 (2* (j+1))))):=by
 have h1:=a4_ (((2* (j+1):Nat):Int)- 1) (by omega)
 have h2:=a4_ 2 (by decide)
 have q1:=qi21 (n:=((2* (j+1):Nat):Int)- 1) (by omega)
 have q2:=qi21 (n:=2) (by decide)
 have h3:=dW_ ((((2* (j+1):Nat):Int)- 1:Int):Rat) ((2:Int):Rat) (by decide) (by omega)
 refine f_n Tryz.func197 ?_ ?_
 exact aa_ (ad_ _) ab_
 refine r_z 1 ?_
 refine r_c 6 (h1) ?_
 refine c_s (h2) ?_
 refine c_s (h3) ?_
 refine a_z ?_
 exact aj_ (c_e (az_ _))
theorem od_{n:Int}(h:n≠0):(n:Rat)≠0:=fun e=>h (by have:=congrArg Rat.num e;exact this)
theorem fs_Firs1(j:Nat)(hj:j≤40):FSpec Tryz.prog 199 [i64 ((2* (j+1):Nat):Int)] (.agg (qC (evK 2 (2* (j+1))))):=by
 have h1:=a4_ (((2* (j+1):Nat):Int)- 1) (by omega)
 have h2:=a4_ ((2* (j+1):Nat):Int) (by omega)
 have q1:=qi21 (n:=((2* (j+1):Nat):Int)- 1) (by omega)
 have q2:=qi21 (n:=((2* (j+1):Nat):Int)) (by omega)
 have h3:=dW_ ((((2* (j+1):Nat):Int)- 1:Int):Rat) (((2* (j+1):Nat):Int):Rat) (od_ (by omega)) (by omega)
 refine f_n Tryz.func199 ?_ ?_
 exact aa_ (ad_ _) ab_
 refine r_z 1 ?_
 refine r_c 7 (h1) ?_
 refine c_s (h2) ?_
 refine c_s (h3) ?_
 refine a_z ?_
 exact aj_ (c_e (az_ _))
theorem fs_Seco1(j:Nat)(hj:j≤40):FSpec Tryz.prog 200 [i64 ((2* (j+1):Nat):Int)] (.agg (qC (evK 3 (2* (j+1))))):=by
 have h1:=a4_ (((2* (j+1):Nat):Int)- 1) (by omega)
 have h2:=a4_ (((2* (j+1):Nat):Int)+2) (by omega)
 have q1:=qi21 (n:=((2* (j+1):Nat):Int)- 1) (by omega)
 have q2:=qi21 (n:=((2* (j+1):Nat):Int)+2) (by omega)
 have h3:=dW_ ((((2* (j+1):Nat):Int)- 1:Int):Rat) ((((2* (j+1):Nat):Int)+2:Int):Rat) (od_ (by omega)) (by omega)
 refine f_n Tryz.func200 ?_ ?_
 exact aa_ (ad_ _) ab_
 refine r_z 1 ?_
 refine r_c 8 (h1) ?_
 refine c_s (h2) ?_
 refine c_s (h3) ?_
 refine a_z ?_
 exact aj_ (c_e (az_ _))
theorem l2_(m:List Rat):FSpec Tryz.prog 198 [.arr (pE m),i64 0] (.tup [.agg (wC m true true (qC ((-1:Int):Rat)) (qC ((1:Int):Rat))),i64 0]):=by
 have h1:=a4_ 1 (by decide)
 have h2:=a4_ (-1) (by decide)
 refine f_n Tryz.func198 ?_ ?_
 exact aa_ (at_ m) (aa_ (ad_ _) ab_)
 refine r_z 2 ?_
 refine ac_ (s_r 2 ?_)
 refine a_1 ?_
 refine o_0 (.bin rfl rfl (vF ba_ (rfl))) ?_
 refine an_ ?_
 refine cF (ah_ (r_c 6 (h2) ?_))
 refine c_s (h1) ?_
 refine a_z ?_
 refine aj_ (Fin.many ⟨_,_,rfl,⟨_,_,_,_,_,rfl,rfl,rfl,.inl ⟨tg_51.h,_,ts_51.h,nle rfl,rfl⟩⟩,⟨_,_,rfl,rfl,rfl⟩⟩ (nle rfl) ?_)
 exact af_ (ak_ as_ (aq_ (aG_ (.inr ⟨_,rfl⟩) (.inr ⟨_,rfl⟩)))) (af_ (ak_ as_ (ad_ _)) ao_)
theorem l1_(m:List Rat):FSpec Tryz.prog 198 [.arr (pE m),i64 3] (.tup [.agg wZ,i64 3]):=by
 refine f_n Tryz.func198 ?_ ?_
 exact aa_ (at_ m) (aa_ (ad_ _) ab_)
 refine r_z 2 ?_
 refine ac_ (s_r 2 ?_)
 refine a_1 ?_
 refine o_0 (.bin rfl rfl (vT ba_ (rfl))) ?_
 refine an_ ?_
 refine cT (r_z 4 ?_)
 refine aj_ (Fin.many ⟨_,_,rfl,⟨_,_,_,_,_,rfl,rfl,rfl,.inl ⟨tg_51.h,_,ts_51.h,nle rfl,rfl⟩⟩,⟨_,_,rfl,rfl,rfl⟩⟩ (nle rfl) ?_)
 exact af_ (Cv_wZ as_) (af_ (ak_ as_ (ad_ _)) ao_)
theorem j4_(m:List Rat)(n e:Int)(h:FSpec Tryz.prog 196 [i64 n,.clos 197 [] []] (.tup [.arr (pE m),i64 e])):FSpec Tryz.prog 108 [i64 n] (.tup [.agg (wC m false false (qC 0) (qC 0)),i64 e]):=by
 refine f_n Tryz.func108 ?_ ?_
 exact aa_ (ad_ _) ab_
 refine r_z 2 ?_
 refine r_c 7 (h) ?_
 refine a_z ?_
 refine r_z 5 ?_
 refine aj_ (Fin.many ⟨_,_,rfl,⟨_,_,_,_,_,rfl,rfl,rfl,.inl ⟨tg_51.h,_,ts_51.h,nle rfl,rfl⟩⟩,⟨_,_,rfl,rfl,rfl⟩⟩ (nle rfl) ?_)
 exact af_ (Cv_wz as_ _ _ _) (af_ (ak_ as_ (ad_ _)) ao_)
theorem oC_(m:List Rat)(n e:Int)(m':List Rat)(l r:Bool)(a b:Rat)(h:FSpec Tryz.prog 196 [i64 n,.clos 199 [] []] (.tup [.arr (pE m),i64 e]))(ha:FSpec Tryz.prog 198 [.arr (pE m),i64 e] (.tup [.agg (wC m' l r (qC a) (qC b)),i64 e])):
    FSpec Tryz.prog 109 [i64 n] (.tup [.agg (wC m' l r (qC a) (qC b)),i64 e]):=by
 refine f_n Tryz.func109 ?_ ?_
 exact aa_ (ad_ _) ab_
 refine r_z 2 ?_
 refine r_c 9 (h) ?_
 refine c_s (ha) ?_
 refine a_z ?_
 refine aj_ (Fin.many ⟨_,_,rfl,⟨_,_,_,_,_,rfl,rfl,rfl,.inl ⟨tg_51.h,_,ts_51.h,nle rfl,rfl⟩⟩,⟨_,_,rfl,rfl,rfl⟩⟩ (nle rfl) ?_)
 exact af_ (ak_ as_ (aq_ (aG_ (.inr ⟨_,rfl⟩) (.inr ⟨_,rfl⟩)))) (af_ (ak_ as_ (ad_ _)) ao_)
theorem l3_(m:List Rat)(n e:Int)(m':List Rat)(l r:Bool)(a b:Rat)(h:FSpec Tryz.prog 196 [i64 n,.clos 200 [] []] (.tup [.arr (pE m),i64 e]))(ha:FSpec Tryz.prog 198 [.arr (pE m),i64 e] (.tup [.agg (wC m' l r (qC a) (qC b)),i64 e])):
    FSpec Tryz.prog 110 [i64 n] (.tup [.agg (wC m' l r (qC a) (qC b)),i64 e]):=by
 refine f_n Tryz.func110 ?_ ?_
 exact aa_ (ad_ _) ab_
 refine r_z 2 ?_
 refine r_c 9 (h) ?_
 refine c_s (ha) ?_
 refine a_z ?_
 refine aj_ (Fin.many ⟨_,_,rfl,⟨_,_,_,_,_,rfl,rfl,rfl,.inl ⟨tg_51.h,_,ts_51.h,nle rfl,rfl⟩⟩,⟨_,_,rfl,rfl,rfl⟩⟩ (nle rfl) ?_)
 exact af_ (ak_ as_ (aq_ (aG_ (.inr ⟨_,rfl⟩) (.inr ⟨_,rfl⟩)))) (af_ (ak_ as_ (ad_ _)) ao_)
end Go.Proofs.YtdjfjpeoddmamaaGreatDoor
namespace Go.Proofs.YtdjfjpeoddmamaaGreatDoor
open Go.Shelf
def pq_:Go.Shelf.Ren:=⟨fun|171=>172|243=>242|246=>289|283=>315|284=>316|285=>317|286=>318|129=>330|317=>329|318=>331|319=>332|320=>333|337=>335|338=>336|n=>n,fun|3=>3|9=>9|2=>2|4=>4|171=>337|0=>0|53=>235|37=>221|5=>5|173=>340|212=>351|51=>236|20=>20|213=>352|46=>318|232=>356|233=>357|n=>n,fun|17=>0|18=>2|19=>3|n=>n⟩
theorem lay171:Go.Proofs.LaysM.n171 Tryz.prog pq_:={
 mixed:=by kernel_rfl,
 f129:=Tryz.func330.trans (congrArg some (by kernel_rfl)),
 f171:=Tryz.func172.trans (congrArg some (by kernel_rfl)),
 f243:=Tryz.func242.trans (congrArg some (by kernel_rfl)),
 f246:=Tryz.func289.trans (congrArg some (by kernel_rfl)),
 f283:=Tryz.func315.trans (congrArg some (by kernel_rfl)),
 f284:=Tryz.func316.trans (congrArg some (by kernel_rfl)),
 f285:=Tryz.func317.trans (congrArg some (by kernel_rfl)),
 f286:=Tryz.func318.trans (congrArg some (by kernel_rfl)),
 f317:=Tryz.func329.trans (congrArg some (by kernel_rfl)),
 f318:=Tryz.func331.trans (congrArg some (by kernel_rfl)),
 f319:=Tryz.func332.trans (congrArg some (by kernel_rfl)),
 f320:=Tryz.func333.trans (congrArg some (by kernel_rfl)),
 f337:=Tryz.func335.trans (congrArg some (by kernel_rfl)),
 f338:=Tryz.func336.trans (congrArg some (by kernel_rfl)),
 t0:=Tryz.underlying0,
 a0:=Tryz.isAgg0,
 z0:=Tryz.sizeOf0,
 v0:=Tryz.zeroValue0,
 t2:=Tryz.underlying2,
 a2:=Tryz.isAgg2,
 z2:=Tryz.sizeOf2,
 v2:=Tryz.zeroValue2,
 t3:=Tryz.underlying3,
 a3:=Tryz.isAgg3,
 z3:=Tryz.sizeOf3,
 v3:=Tryz.zeroValue3,
 t4:=Tryz.underlying4,
 a4:=Tryz.isAgg4,
 z4:=Tryz.sizeOf4,
 v4:=Tryz.zeroValue4,
 t5:=Tryz.underlying5,
 a5:=Tryz.isAgg5,
 z5:=Tryz.sizeOf5,
 v5:=Tryz.zeroValue5,
 t9:=Tryz.underlying9,
 a9:=Tryz.isAgg9,
 z9:=Tryz.sizeOf9,
 v9:=Tryz.zeroValue9,
 t20:=Tryz.underlying20,
 a20:=Tryz.isAgg20,
 z20:=Tryz.sizeOf20,
 v20:=Tryz.zeroValue20,
 t37:=Tryz.underlying221,
 a37:=Tryz.isAgg221,
 z37:=Tryz.sizeOf221,
 v37:=Tryz.zeroValue221,
 t46:=Tryz.underlying318,
 a46:=Tryz.isAgg318,
 z46:=Tryz.sizeOf318,
 v46:=Tryz.zeroValue318,
 t51:=Tryz.underlying236,
 a51:=Tryz.isAgg236,
 z51:=Tryz.sizeOf236,
 v51:=Tryz.zeroValue236,
 t53:=Tryz.underlying235,
 a53:=Tryz.isAgg235,
 z53:=Tryz.sizeOf235,
 v53:=Tryz.zeroValue235,
 t171:=Tryz.underlying337,
 a171:=Tryz.isAgg337,
 z171:=Tryz.sizeOf337,
 v171:=Tryz.zeroValue337,
 t173:=Tryz.underlying340,
 a173:=Tryz.isAgg340,
 z173:=Tryz.sizeOf340,
 v173:=Tryz.zeroValue340,
 t212:=Tryz.underlying351,
 a212:=Tryz.isAgg351,
 z212:=Tryz.sizeOf351,
 v212:=Tryz.zeroValue351,
 t213:=Tryz.underlying352,
 a213:=Tryz.isAgg352,
 z213:=Tryz.sizeOf352,
 t232:=Tryz.underlying356,
 a232:=Tryz.isAgg356,
 z232:=Tryz.sizeOf356,
 v232:=Tryz.zeroValue356,
 t233:=Tryz.underlying357,
 a233:=Tryz.isAgg357,
 z233:=Tryz.sizeOf357,
 v233:=Tryz.zeroValue357,
 g17:=by kernel_rfl,
 g18:=by kernel_rfl,
 g19:=by kernel_rfl,
 i0:=by kernel_rfl,
 i2:=by kernel_rfl,
 i3:=by kernel_rfl,
 i4:=by kernel_rfl,
 i5:=by kernel_rfl,
 i9:=by kernel_rfl,
 i20:=by kernel_rfl,
 i37:=by kernel_rfl,
 i46:=by kernel_rfl,
 i51:=by kernel_rfl,
 i53:=by kernel_rfl,
 i171:=by kernel_rfl,
 i173:=by kernel_rfl,
 i212:=by kernel_rfl,
 i232:=by kernel_rfl,
 i233:=by kernel_rfl,
 m17:=by kernel_rfl,
 m18:=by kernel_rfl,
 m19:=by kernel_rfl}
end Go.Proofs.YtdjfjpeoddmamaaGreatDoor
