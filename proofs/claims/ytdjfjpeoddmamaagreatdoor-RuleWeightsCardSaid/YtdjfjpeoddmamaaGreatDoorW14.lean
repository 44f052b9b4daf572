/- Part W14 of the proof. -/
import Derived.Test.YtdjfjpeoddmamaaGreatDoorW13
set_option linter.all false
namespace Go.Proofs.YtdjfjpeoddmamaaGreatDoor
open Go.Abs
set_option maxRecDepth 20000
set_option maxHeartbeats 1000000
section
variable {P:Go.Program}{T:Nat}{x y:Operand}
theorem nQ_{l m:List UInt8}:∀w,(do eqGuard .neq T x y (.string ⟨l.toArray⟩) (.string ⟨m.toArray⟩);binOp .neq T (.string ⟨l.toArray⟩) (.string ⟨m.toArray⟩):Sem Value).run P w= .ok (.bool (!decide (l=m))) w:=fun w=>by
 rw[nP_]
 congr 2
 have e:∀l:List UInt8,(⟨l.toArray⟩:ByteArray).toList=l:=by
  intro l
  have:=ByteArray.toList_eq (bs:=⟨l.toArray⟩)
  simpa using this
 rw[e,e]
 rw[Bool.eq_iff_iff];simp
end
def sgnTx(o:Option (List UInt8))(c:Rat):Option (List UInt8):=
 match o with
 |none=>if c< 0 then some [45] else none
 |some s=>if c< 0 then some (s++[32,45,32]) else some (s++[32,43,32])
def wrO(o:Option (List UInt8))(t:List UInt8):Option (List UInt8):=some (o.getD []++t)
def ff_(o:Option (List UInt8))(t:List UInt8):Option (List UInt8):=if t=[49] then o else wrO o (t++[32])
def hf_(tq:Rat→List UInt8)(ti:Nat→List UInt8)(o:Option (List UInt8))(c:Rat)(n:Nat):Option (List UInt8):=
 if n=0 then wrO (sgnTx o c) (tq (absQ c))
 else if 1< n then wrO (wrO (ff_ (sgnTx o c) (tq (absQ c))) [120]) ([94]++ti n) else wrO (ff_ (sgnTx o c) (tq (absQ c))) [120]
def textR(tq:Rat→List UInt8)(ti:Nat→List UInt8)(p:List Rat):Nat→Option (List UInt8)→Option (List UInt8)
 |0,o=>o
 |n+1,o=>textR tq ti p n (if coP p n=0 then o else hf_ tq ti o (coP p n) n)
def textG(tq:Rat→List UInt8)(ti:Nat→List UInt8)(p:List Rat):List UInt8:=(textR tq ti (trimQ p) (trimQ p).length none).getD [48]
def textP(p:List Rat):List UInt8:=textG textQ dec2 p
def okPT(p:List Rat):Prop:=p.length≤1000∧(trimQ p).length≤99∧(∀c∈trimQ p,okT c)
instance (p:List Rat):Decidable (okPT p):=inferInstanceAs (Decidable (_∧_∧_))
def pb0(p:List Rat):Int→AState
 |n=>⟨[(0,.arr (pE p)),(3,.lptr 1 0 0),(4,i64 n)],[(1,some ⟨223,2,[bldC 1 2 none]⟩)],4,67⟩
theorem eu_(p:List Rat)(n:Int):pb0 p n=⟨[(0,.arr (pE p)),(3,.lptr 1 0 0),(4,i64 n)],[(1,some ⟨223,2,[bldC 1 2 none]⟩)],4,67⟩:=rfl
def pb1(p:List Rat):Int×List UInt8→AState
 |(n,s)=>⟨[(0,.arr (pE p)),(3,.lptr 1 0 0),(4,i64 n)],[(1,some ⟨223,2,[bldC 1 2 (some s)]⟩),(2,some ⟨5,1,bE s⟩)],4,67⟩
theorem cM_(p:List Rat)(n:Int)(s:List UInt8):pb1 p (n,s)=⟨[(0,.arr (pE p)),(3,.lptr 1 0 0),(4,i64 n)],[(1,some ⟨223,2,[bldC 1 2 (some s)]⟩),(2,some ⟨5,1,bE s⟩)],4,67⟩:=rfl
def pbS(p:List Rat)(n:Int):Option (List UInt8)→AState
 |none=>pb0 p n
 |some s=>pb1 p (n,s)
def pc0(p:List Rat)(c:Rat):Int→AState
 |n=>⟨[(0,.arr (pE p)),(3,.lptr 1 0 0),(4,i64 n),(5,.lptr 3 0 0)],[(1,some ⟨223,2,[bldC 1 2 none]⟩),(3,some ⟨35,3,[qC c]⟩)],4,67⟩
theorem iX_(p:List Rat)(c:Rat)(n:Int):pc0 p c n=⟨[(0,.arr (pE p)),(3,.lptr 1 0 0),(4,i64 n),(5,.lptr 3 0 0)],[(1,some ⟨223,2,[bldC 1 2 none]⟩),(3,some ⟨35,3,[qC c]⟩)],4,67⟩:=rfl
def pc1(p:List Rat)(c:Rat):Int×List UInt8→AState
 |(n,s)=>⟨[(0,.arr (pE p)),(3,.lptr 1 0 0),(4,i64 n),(5,.lptr 3 0 0)],[(1,some ⟨223,2,[bldC 1 2 (some s)]⟩),(2,some ⟨5,1,bE s⟩),(3,some ⟨35,3,[qC c]⟩)],4,67⟩
theorem gC_(p:List Rat)(c:Rat)(n:Int)(s:List UInt8):pc1 p c (n,s)=⟨[(0,.arr (pE p)),(3,.lptr 1 0 0),(4,i64 n),(5,.lptr 3 0 0)],[(1,some ⟨223,2,[bldC 1 2 (some s)]⟩),(2,some ⟨5,1,bE s⟩),(3,some ⟨35,3,[qC c]⟩)],4,67⟩:=rfl
def pcS(p:List Rat)(c:Rat)(n:Int):Option (List UInt8)→AState
 |none=>pc0 p c n
 |some s=>pc1 p c (n,s)
def pd0(p:List Rat)(t:List UInt8):Int→AState
 |n=>⟨[(0,.arr (pE p)),(3,.lptr 1 0 0),(4,i64 n),(6,tx t)],[(1,some ⟨223,2,[bldC 1 2 none]⟩)],4,67⟩
theorem mW_(p:List Rat)(t:List UInt8)(n:Int):pd0 p t n=⟨[(0,.arr (pE p)),(3,.lptr 1 0 0),(4,i64 n),(6,tx t)],[(1,some ⟨223,2,[bldC 1 2 none]⟩)],4,67⟩:=rfl
def pd1(p:List Rat)(t:List UInt8):Int×List UInt8→AState
 |(n,s)=>⟨[(0,.arr (pE p)),(3,.lptr 1 0 0),(4,i64 n),(6,tx t)],[(1,some ⟨223,2,[bldC 1 2 (some s)]⟩),(2,some ⟨5,1,bE s⟩)],4,67⟩
theorem mV_(p:List Rat)(t:List UInt8)(n:Int)(s:List UInt8):pd1 p t (n,s)=⟨[(0,.arr (pE p)),(3,.lptr 1 0 0),(4,i64 n),(6,tx t)],[(1,some ⟨223,2,[bldC 1 2 (some s)]⟩),(2,some ⟨5,1,bE s⟩)],4,67⟩:=rfl
def pdS(p:List Rat)(t:List UInt8)(n:Int):Option (List UInt8)→AState
 |none=>pd0 p t n
 |some s=>pd1 p t (n,s)
def okOx(o:Option (List UInt8))(n:Nat):Prop:=∀s,o=some s→s≠[]∧s.length≤n
theorem jA_(n:Nat):okOx none n:=fun s h=>by cases h
theorem iZ_{o:Option (List UInt8)}{n:Nat}{t:List UInt8}(h:okOx o n)(h0:t≠[]):okOx (wrO o t) (n+t.length):=by
 intro s hs
 cases hs
 cases o with
 |none=>exact⟨by simpa using h0,by simp⟩
 |some q=>exact⟨by simp[h0],by have:=(h q rfl).2;simp;omega⟩
theorem m2_{o:Option (List UInt8)}{n:Nat}(h:okOx o n)(c:Rat):okOx (sgnTx o c) (n+3):=by
 intro s hs
 cases o with
 |none=>
  simp only[sgnTx] at hs
  split at hs
  cases hs;exact⟨by simp,by simp⟩
  cases hs
 |some q=>
  have:=(h q rfl).2
  simp only[sgnTx] at hs
  split at hs <;> cases hs <;> exact⟨by simp,by simp;omega⟩
theorem dg_{o:Option (List UInt8)}{n m:Nat}(h:okOx o n)(hm:n≤m):okOx o m:=fun s hs=>⟨(h s hs).1,Nat.le_trans (h s hs).2 hm⟩
theorem textQ_ne(q:Rat):textQ q≠[]:=List.length_pos_iff.1 (textQ_len (q:=q)).2
theorem sgZ_neg(c:Rat):sgZ c.num< 0↔c< 0:=by
 rw[←gf_]
 unfold sgZ
 split
 omega
 split <;> omega
theorem okT_abs{c:Rat}(h:okT c):okT (absQ c):=by
 rw[gs_]
 split
 obtain⟨h1,h2⟩:=h
 exact⟨by rw[Rat.neg_num];simpa using h1,by rw[Rat.neg_den];exact h2⟩
 exact h
theorem p8_(tq:Rat→List UInt8)(ti:Nat→List UInt8)(L:Nat)(p:List Rat)(h1:p.length≤1000)(hL:L≤10000)(h3:∀c∈trimQ p,FSpec Tryz.prog 74 [.agg (qC (absQ c))] (tx (tq (absQ c)))∧tq (absQ c)≠[]∧(tq (absQ c)).length≤L)(hI:∀n,n< (trimQ p).length→FSpec Tryz.prog 172 [i64 n] (tx (ti n))∧(ti n).length≤20):FSpec Tryz.prog 75 [.arr (pE p)] (tx (textG tq ti p)):=by
 have htr:=cz_ p (by omega)
 obtain⟨q,hq⟩:∃q,q=trimQ p:=⟨_,rfl⟩
 have hR:textG tq ti p=(textR tq ti q q.length none).getD [48]:=by unfold textG;rw[hq]
 rw[hR]
 have h2:=a9_ p
 rw[←hq] at htr h2 h3 hI
 have hall:∀k,(q.length- k) * (L+30)≤10030000:=fun k=>Nat.mul_le_mul (show q.length- k≤1000 by omega) (show L+30≤10030 by omega)
 refine f_n Tryz.func75 ?_ ?_
 exact aa_ (ar_ p) ab_
 refine r_z 1 ?_
 refine r_z 1 ?_
 refine r_c 3 (htr) ?_
 refine a_z ?_
 refine ac_ (r_z 4 ?_)
 refine aD_ (pbS q (-1)) (fun o=>o=textR tq ti q q.length none∧okOx o 20000000) ?_ ?_
 refine ah_ (ax_ (fun x:Nat×Option (List UInt8)=>pbS q ((x.1:Int)- 1) x.2) (fun x=>x.1) (fun x=>x.1≤q.length∧textR tq ti q x.1 x.2=textR tq ti q q.length none∧okOx x.2 ((q.length- x.1) * (L+30))) (q.length,none) ⟨Nat.le_refl _,rfl,jA_ _⟩ ?_ ?_)
 show SEnt _ (pb0 q ((q.length:Int)- 1))
 rw[eu_]
 exact s_e [(1,3)]
 rintro⟨n,o⟩ ⟨hn,hr,ho⟩
 simp only at hn hr ho
 cases n with
 |zero=>
  cases o with
  |none=>
   show AWp _ _ _ _ (pb0 q (((0:Nat):Int)- 1))
   rw[eu_]
   refine ac_ (r_z 2 ?_)
   refine am_ rfl (fun h4=>?_) (fun h4=>?_)
   exact absurd h4 (by simp)
   refine au_ ⟨none,⟨hr,jA_ _⟩,?_⟩
   show SEnt _ (pb0 q (-1))
   rw[eu_]
   exact s_e []
  |some s=>
   show AWp _ _ _ _ (pb1 q (((0:Nat):Int)- 1,s))
   rw[cM_]
   refine ac_ (r_z 2 ?_)
   refine am_ rfl (fun h4=>?_) (fun h4=>?_)
   exact absurd h4 (by simp)
   refine au_ ⟨some s,⟨hr,dg_ ho (by have:=hall 0;omega)⟩,?_⟩
   show SEnt _ (pb1 q (-1,s))
   rw[cM_]
   exact s_e []
 |succ n=>
  have hcn:((n+1:Nat):Int)- 1=(n:Int):=by omega
  rw[hcn]
  rw[textR] at hr
  have hlt:n< q.length:=by omega
  obtain⟨c,hc⟩:∃c,c=coP q n:=⟨_,rfl⟩
  rw[←hc] at hr
  have hg:(pE q)[((n:Nat):Int).toNat]?=some (qC c):=by rw[Int.toNat_natCast,hc];exact bC_ (bc_ hlt)
  obtain⟨fT,htn,htl⟩:=h3 c (by rw[hc];exact List.mem_of_getElem? (bc_ hlt))
  have hm:(q.length- n) * (L+30)=(q.length- (n+1)) * (L+30)+(L+30):=by
   rw[show q.length- n=(q.length- (n+1))+1 by omega,Nat.add_mul,Nat.one_mul]
  obtain⟨B,hB⟩:∃B,B=(q.length- (n+1)) * (L+30):=⟨_,rfl⟩
  have hmx:B≤10030000:=by rw[hB];exact hall _
  rw[←hB] at ho hm
  obtain⟨t,ht⟩:∃t,t=tq (absQ c):=⟨_,rfl⟩
  rw[←ht] at htn htl fT
  obtain⟨fI,hd2⟩:=hI n hlt
  refine aS_ (fun _:Unit=>pbS q n o) (fun _=>True) ?_ ?_
  cases o with
  |none=>
   show AWp _ _ _ _ (pb0 q n)
   rw[eu_]
   refine r_z 2 ?_
   refine am_ rfl (fun h4=>?_) (fun h4=>?_)
   refine ag_ ⟨(),trivial,?_⟩
   show SEnt _ (pb0 q n)
   rw[eu_]
   exact s_e []
   exact absurd h4 (by simp)
  |some s=>
   show AWp _ _ _ _ (pb1 q (n,s))
   rw[cM_]
   refine r_z 2 ?_
   refine am_ rfl (fun h4=>?_) (fun h4=>?_)
   refine ag_ ⟨(),trivial,?_⟩
   show SEnt _ (pb1 q (n,s))
   rw[cM_]
   exact s_e []
   exact absurd h4 (by simp)
  rintro _ _
  refine aS_ (pbS q n) (fun o'=>o'=(if c=0 then o else hf_ tq ti o c n)) ?_ ?_
  refine ah_ (aS_ (fun _:Unit=>pcS q c n o) (fun _=>True) ?_ ?_)
  cases o with
  |none=>
   show AWp _ _ _ _ (pb0 q n)
   rw[eu_]
   refine r_m 6 ?_
   refine a_2 ?_
   refine i_x hg ?_
   refine l_x hg ?_
   refine a_z ?_
   refine⟨(),trivial,?_⟩
   show SEnt _ (pc0 q c n)
   rw[iX_]
   refine as_ [(3,5)] rfl rfl rfl au_r (fun hs=>au_f) (fun hs=>?_)
   ·repeat' (first|exact ao_|refine ak_ rfl rfl rfl rfl ?_ ?_)
    all_goals (first|(exact aQ_ hs (aa_ (aK_ c) ab_))|exact au_e)
  |some s=>
   show AWp _ _ _ _ (pb1 q (n,s))
   rw[cM_]
   refine r_m 6 ?_
   refine a_2 ?_
   refine i_x hg ?_
   refine l_x hg ?_
   refine a_z ?_
   refine⟨(),trivial,?_⟩
   show SEnt _ (pc1 q c (n,s))
   rw[gC_]
   refine as_ [(3,5)] rfl rfl rfl au_r (fun hs=>au_f) (fun hs=>?_)
   ·repeat' (first|exact ao_|refine ak_ rfl rfl rfl rfl ?_ ?_)
    all_goals (first|(exact aQ_ hs (aa_ (aK_ c) ab_))|exact au_e)
  rintro _ _
  refine aS_ (fun _:Unit=>pcS q c n o) (fun _=>c≠0) ?_ ?_
  cases o with
  |none=>
   show AWp _ _ _ _ (pc0 q c n)
   rw[iX_]
   refine r_c 3 (bK_ c) ?_
   refine a_z ?_
   refine am_ rfl (fun h4=>?_) (fun h4=>?_)
   have h5:c=0:=sgZ_num_eq.1 (by simpa using h4)
   refine au_ ⟨none,by rw[if_pos h5],?_⟩
   show SEnt _ (pb0 q n)
   rw[eu_]
   exact s_e []
   have h5:c≠0:=fun e=>by have h6:=sgZ_num_eq.2 e;simp[h6] at h4
   refine ag_ ⟨(),h5,?_⟩
   show SEnt _ (pc0 q c n)
   rw[iX_]
   exact s_e []
  |some s=>
   show AWp _ _ _ _ (pc1 q c (n,s))
   rw[gC_]
   refine r_c 3 (bK_ c) ?_
   refine a_z ?_
   refine am_ rfl (fun h4=>?_) (fun h4=>?_)
   have h5:c=0:=sgZ_num_eq.1 (by simpa using h4)
   refine au_ ⟨some s,by rw[if_pos h5],?_⟩
   show SEnt _ (pb1 q (n,s))
   rw[cM_]
   exact s_e []
   have h5:c≠0:=fun e=>by have h6:=sgZ_num_eq.2 e;simp[h6] at h4
   refine ag_ ⟨(),h5,?_⟩
   show SEnt _ (pc1 q c (n,s))
   rw[gC_]
   exact s_e []
  rintro _ hc0
  rw[if_neg hc0]
  have hsg:(sgZ c.num< 0)↔c< 0:=sgZ_neg c
  refine aS_ (pcS q c n) (fun o'=>o'=sgnTx o c) ?_ ?_
  refine ah_ ?_
  cases o with
  |none=>
   show AWp _ _ _ _ (pc0 q c n)
   rw[iX_]
   refine s_r 8 ?_
   refine o_0 (.callR (s:=none) (j:=0) (tb:=0) rfl rfl rfl rfl rfl (fun _ h=>by cases h) (jZ_)) ?_
   refine a_2 ?_
   first|refine y_g rfl d_t (.load_l rfl rfl rfl tg_35.h ts_35.h (nle rfl)) ?_|refine y_g rfl d_t (.load_a rfl rfl tg_35.h ts_35.h (nle rfl)) ?_
   refine y_g rfl d_t (.call rfl rfl rfl (bK_ c)) ?_
   refine y_g rfl d_t (.bin rfl rfl c8_) ?_
   refine o_0 (.pickT rfl d_t rfl) ?_
   refine a_z ?_
   refine am_ rfl (fun h4=>?_) (fun h4=>?_)
   have h5:c< 0:=hsg.1 (by simpa using h4)
   refine r_m 1 ?_
   refine o_2 (.callB (s:=none) (j:=0) rfl rfl rfl rfl rfl rfl (fun _ h=>by cases h) (ea_ [45] (by simp) (by simp))) ?_
   refine an_ ?_
   refine⟨some [45],by simp only[sgnTx];rw[if_pos h5],?_⟩
   show SEnt _ (pc1 q c (n,[45]))
   rw[gC_]
   refine SEnt.to2 [(2,100012)] rfl rfl rfl au_r (fun hs=>au_f) (fun hs=>?_)
   ·repeat' (first|exact ao_|refine ak_ rfl rfl rfl rfl ?_ ?_)
    all_goals (first|(exact aQ_ hs (aa_ (aK_ c) ab_))|exact au_e)
   have h5:¬c< 0:=fun e=>by have h6:=hsg.2 e;simp[h6] at h4
   refine s_r 8 ?_
   refine o_0 (.callR (s:=none) (j:=0) (tb:=0) rfl rfl rfl rfl rfl (fun _ h=>by cases h) (jZ_)) ?_
   refine a_2 ?_
   refine n_g rfl d_f ?_
   refine n_g rfl d_f ?_
   refine n_g rfl d_f ?_
   refine o_0 (.pickF rfl d_f rfl) ?_
   refine a_z ?_
   refine cF (s_r 3 ?_)
   refine o_0 (.callR (s:=none) (j:=0) (tb:=0) rfl rfl rfl rfl rfl (fun _ h=>by cases h) (jZ_)) ?_
   refine a_z ?_
   refine am_ rfl (fun h7=>?_) (fun h7=>?_)
   exact absurd h7 (by simp)
   refine ag_ ⟨none,by simp only[sgnTx];rw[if_neg h5],?_⟩
   show SEnt _ (pc0 q c n)
   rw[iX_]
   exact s_e []
  |some s=>
   have hsn:=(ho s rfl).1
   have hsl:=(ho s rfl).2
   have hs0:s.length≠0:=by simpa using hsn
   show AWp _ _ _ _ (pc1 q c (n,s))
   rw[gC_]
   refine s_r 8 ?_
   refine o_0 (.callR (s:=some _) rfl rfl rfl rfl rfl (fun _ h=>by cases h;exact rfl) (jY_ s)) ?_
   refine a_2 ?_
   refine n_g rfl (by simp;omega) ?_
   refine n_g rfl (by simp;omega) ?_
   refine n_g rfl (by simp;omega) ?_
   refine o_0 (.pickF rfl (by simp;omega) rfl) ?_
   refine a_z ?_
   refine am_ rfl (fun h4=>?_) (fun h4=>?_)
   ·first|(simp at h4;done)|(simp at h4;omega)|(simp at h4;exact absurd h4 hsn)
   refine s_r 8 ?_
   refine o_0 (.callR (s:=some _) rfl rfl rfl rfl rfl (fun _ h=>by cases h;exact rfl) (jY_ s)) ?_
   refine a_2 ?_
   first|refine y_g rfl (by simp;omega) (.load_l rfl rfl rfl tg_35.h ts_35.h (nle rfl)) ?_|refine y_g rfl (by simp;omega) (.load_a rfl rfl tg_35.h ts_35.h (nle rfl)) ?_
   refine y_g rfl (by simp;omega) (.call rfl rfl rfl (bK_ c)) ?_
   refine y_g rfl (by simp;omega) (.bin rfl rfl c8_) ?_
   refine o_0 (.pickT rfl (by simp;omega) rfl) ?_
   refine a_z ?_
   refine am_ rfl (fun h6=>?_) (fun h6=>?_)
   have h5:c< 0:=hsg.1 (by simpa using h6)
   refine r_m 1 ?_
   refine o_3 (.callB (s:=some _) rfl rfl rfl rfl rfl rfl (fun _ h=>by cases h;exact⟨rfl,by decide⟩) (dd_ s [32,45,32] (by simp;omega))) ?_
   refine an_ ?_
   refine⟨some (s++[32,45,32]),by simp only[sgnTx];rw[if_pos h5],?_⟩
   show SEnt _ (pc1 q c (n,s++[32,45,32]))
   rw[gC_]
   refine SEnt.to2 [(2,100020)] rfl rfl rfl au_r (fun hs=>au_f) (fun hs=>?_)
   ·repeat' (first|exact ao_|refine ak_ rfl rfl rfl rfl ?_ ?_)
    all_goals (first|(exact aQ_ hs (aa_ (aK_ c) ab_))|exact au_e)
   have h5:¬c< 0:=fun e=>by have h7:=hsg.2 e;simp[h7] at h6
   refine s_r 3 ?_
   refine o_0 (.callR (s:=some _) rfl rfl rfl rfl rfl (fun _ h=>by cases h;exact rfl) (jY_ s)) ?_
   refine a_z ?_
   refine am_ rfl (fun h7=>?_) (fun h7=>?_)
   refine r_m 1 ?_
   refine o_3 (.callB (s:=some _) rfl rfl rfl rfl rfl rfl (fun _ h=>by cases h;exact⟨rfl,by decide⟩) (dd_ s [32,43,32] (by simp;omega))) ?_
   refine an_ ?_
   refine⟨some (s++[32,43,32]),by simp only[sgnTx];rw[if_neg h5],?_⟩
   show SEnt _ (pc1 q c (n,s++[32,43,32]))
   rw[gC_]
   refine SEnt.to2 [(2,100023)] rfl rfl rfl au_r (fun hs=>au_f) (fun hs=>?_)
   ·repeat' (first|exact ao_|refine ak_ rfl rfl rfl rfl ?_ ?_)
    all_goals (first|(exact aQ_ hs (aa_ (aK_ c) ab_))|exact au_e)
   ·first|(simp at h7;done)|(simp at h7;omega)|(simp at h7;exact absurd h7 hsn)
  rintro o1 rfl
  have ho1:=m2_ ho c
  obtain⟨o1,ho1e⟩:∃o1,o1=sgnTx o c:=⟨_,rfl⟩
  rw[←ho1e] at ho1⊢
  refine aS_ (fun _:Unit=>pdS q t n o1) (fun _=>True) ?_ ?_
  cases o1 with
  |none=>
   show AWp _ _ _ _ (pc0 q c n)
   rw[iX_]
   refine r_m 4 ?_
   refine c_s (nn_ c) ?_
   refine c_s (fT) ?_
   refine a_z ?_
   refine⟨(),trivial,?_⟩
   show SEnt _ (pd0 q t n)
   rw[mW_]
   exact s_e []
  |some s=>
   show AWp _ _ _ _ (pc1 q c (n,s))
   rw[gC_]
   refine r_m 4 ?_
   refine c_s (nn_ c) ?_
   refine c_s (fT) ?_
   refine a_z ?_
   refine⟨(),trivial,?_⟩
   show SEnt _ (pd1 q t (n,s))
   rw[mV_]
   exact s_e []
  rintro _ _
  refine aS_ (fun _:Unit=>pdS q t n o1) (fun _=>n≠0) ?_ ?_
  cases o1 with
  |none=>
   show AWp _ _ _ _ (pd0 q t n)
   rw[mW_]
   refine r_z 2 ?_
   refine am_ rfl (fun h4=>?_) (fun h4=>?_)
   have h5:n=0:=by simpa using h4
   subst h5
   refine s_r 2 ?_
   refine a_1 ?_
   refine o_2 (.callB (s:=none) (j:=0) rfl rfl rfl rfl rfl rfl (fun _ h=>by cases h) (ea_ t htn (by omega))) ?_
   refine an_ ?_
   refine au_ ⟨some t,by unfold hf_;rw[if_pos rfl,←ho1e,←ht];rfl,?_⟩
   show SEnt _ (pb1 q (((0:Nat):Int),t))
   rw[cM_]
   refine SEnt.to2 [(2,100007)] rfl rfl rfl au_r (fun hs=>au_f) (fun hs=>au_h)
   have h5:n≠0:=fun e=>by simp[e] at h4
   refine ag_ ⟨(),h5,?_⟩
   show SEnt _ (pd0 q t n)
   rw[mW_]
   exact s_e []
  |some s=>
   have hsl:=(ho1 s rfl).2
   show AWp _ _ _ _ (pd1 q t (n,s))
   rw[mV_]
   refine r_z 2 ?_
   refine am_ rfl (fun h4=>?_) (fun h4=>?_)
   have h5:n=0:=by simpa using h4
   subst h5
   refine s_r 2 ?_
   refine a_1 ?_
   refine o_3 (.callB (s:=some _) rfl rfl rfl rfl rfl rfl (fun _ h=>by cases h;exact⟨rfl,by decide⟩) (dd_ s t (by omega))) ?_
   refine an_ ?_
   refine au_ ⟨some (s++t),by unfold hf_;rw[if_pos rfl,←ho1e,←ht];rfl,?_⟩
   show SEnt _ (pb1 q (((0:Nat):Int),s++t))
   rw[cM_]
   refine SEnt.to2 [(2,100007)] rfl rfl rfl au_r (fun hs=>au_f) (fun hs=>au_h)
   have h5:n≠0:=fun e=>by simp[e] at h4
   refine ag_ ⟨(),h5,?_⟩
   show SEnt _ (pd1 q t (n,s))
   rw[mV_]
   exact s_e []
  rintro _ hn0
  refine aS_ (pbS q n) (fun o'=>o'=ff_ o1 t) ?_ ?_
  cases o1 with
  |none=>
   show AWp _ _ _ _ (pd0 q t n)
   rw[mW_]
   refine s_r 2 ?_
   refine a_1 ?_
   refine o_0 (.bin rfl rfl (nQ_ (m:=[49]))) ?_
   refine an_ ?_
   refine am_ rfl (fun h4=>?_) (fun h4=>?_)
   have h5:¬t=[49]:=by simpa using h4
   refine r_m 3 ?_
   refine a_1 ?_
   refine o_0 (.bin rfl rfl (cE_ (m:=[32]) (by simp;omega))) ?_
   refine o_2 (.callB (s:=none) (j:=0) rfl rfl rfl rfl rfl rfl (fun _ h=>by cases h) (ea_ (t++[32]) (by simp) (by simp;omega))) ?_
   refine an_ ?_
   refine⟨some (t++[32]),by unfold ff_;rw[if_neg h5];rfl,?_⟩
   show SEnt _ (pb1 q (n,t++[32]))
   rw[cM_]
   refine SEnt.to2 [(2,100008)] rfl rfl rfl au_r (fun hs=>au_f) (fun hs=>au_h)
   have h5:t=[49]:=by simpa using h4
   refine ag_ ⟨none,by unfold ff_;rw[if_pos h5],?_⟩
   show SEnt _ (pb0 q n)
   rw[eu_]
   exact s_e []
  |some s=>
   have hsl:=(ho1 s rfl).2
   show AWp _ _ _ _ (pd1 q t (n,s))
   rw[mV_]
   refine s_r 2 ?_
   refine a_1 ?_
   refine o_0 (.bin rfl rfl (nQ_ (m:=[49]))) ?_
   refine an_ ?_
   refine am_ rfl (fun h4=>?_) (fun h4=>?_)
   have h5:¬t=[49]:=by simpa using h4
   refine r_m 3 ?_
   refine a_1 ?_
   refine o_0 (.bin rfl rfl (cE_ (m:=[32]) (by simp;omega))) ?_
   refine o_3 (.callB (s:=some _) rfl rfl rfl rfl rfl rfl (fun _ h=>by cases h;exact⟨rfl,by decide⟩) (dd_ s (t++[32]) (by simp;omega))) ?_
   refine an_ ?_
   refine⟨some (s++(t++[32])),by unfold ff_;rw[if_neg h5];rfl,?_⟩
   show SEnt _ (pb1 q (n,s++(t++[32])))
   rw[cM_]
   refine SEnt.to2 [(2,100008)] rfl rfl rfl au_r (fun hs=>au_f) (fun hs=>au_h)
   have h5:t=[49]:=by simpa using h4
   refine ag_ ⟨some s,by unfold ff_;rw[if_pos h5],?_⟩
   show SEnt _ (pb1 q (n,s))
   rw[cM_]
   exact s_e []
  rintro o2 ho2e
  have ho2:okOx o2 (B+L+4):=by
   rw[ho2e];unfold ff_
   split
   exact dg_ ho1 (by omega)
   exact dg_ (iZ_ ho1 (t:=t++[32]) (by simp)) (by simp;omega)
  refine aS_ (fun s=>pb1 q (n,s)) (fun s=>wrO o2 [120]=some s) ?_ ?_
  cases o2 with
  |none=>
   show AWp _ _ _ _ (pb0 q n)
   rw[eu_]
   refine r_m 1 ?_
   refine o_2 (.callB (s:=none) (j:=0) rfl rfl rfl rfl rfl rfl (fun _ h=>by cases h) (ea_ [120] (by simp) (by simp))) ?_
   refine an_ ?_
   refine⟨[120],rfl,?_⟩
   simp only[cM_]
   refine SEnt.to2 [(2,100004)] rfl rfl rfl au_r (fun hs=>au_f) (fun hs=>au_h)
  |some s=>
   have hsl:=(ho2 s rfl).2
   show AWp _ _ _ _ (pb1 q (n,s))
   rw[cM_]
   refine r_m 1 ?_
   refine o_3 (.callB (s:=some _) rfl rfl rfl rfl rfl rfl (fun _ h=>by cases h;exact⟨rfl,by decide⟩) (dd_ s [120] (by simp;omega))) ?_
   refine an_ ?_
   refine⟨s++[120],rfl,?_⟩
   simp only[cM_]
   refine SEnt.to2 [(2,100004)] rfl rfl rfl au_r (fun hs=>au_f) (fun hs=>au_h)
  rintro s hs3
  have ho3:=iZ_ ho2 (t:=[120]) (by simp) s hs3
  have hsl:s.length≤B+L+5:=ho3.2
  simp only[cM_]
  refine r_z 2 ?_
  refine am_ rfl (fun h4=>?_) (fun h4=>?_)
  have h5:1< n:=by simp at h4;omega
  refine r_m 4 ?_
  refine c_s (fI) ?_
  refine o_0 (.bin rfl rfl (cE_ (l:=[94]) (by simp;omega))) ?_
  refine o_3 (.callB (s:=some _) rfl rfl rfl rfl rfl rfl (fun _ h=>by cases h;exact⟨rfl,by decide⟩) (dd_ s ([94]++ti n) (by simp;omega))) ?_
  refine an_ ?_
  refine⟨some (s++([94]++ti n)),by unfold hf_;rw[if_neg hn0,if_pos h5,←ho1e,←ht,←ho2e,hs3];rfl,?_⟩
  show SEnt _ (pb1 q (n,s++([94]++ti n)))
  rw[cM_]
  refine SEnt.to2 [(2,100009)] rfl rfl rfl au_r (fun hs=>au_f) (fun hs=>au_h)
  have h5:¬1< n:=by simp at h4;omega
  refine ag_ ⟨some s,by unfold hf_;rw[if_neg hn0,if_neg h5,←ho1e,←ht,←ho2e,hs3],?_⟩
  show SEnt _ (pb1 q (n,s))
  rw[cM_]
  exact s_e []
  rintro o' ho'
  have hok':okOx o' (B+(L+30)):=by
   rw[ho']
   split
   exact dg_ ho (by omega)
   have g1:=m2_ ho c
   unfold hf_
   rw[←ht]
   have g2:okOx (ff_ (sgnTx o c) t) (B+L+4):=by
    unfold ff_
    split
    exact dg_ g1 (by omega)
    exact dg_ (iZ_ g1 (t:=t++[32]) (by simp)) (by simp;omega)
   have g3:=iZ_ g2 (t:=[120]) (by simp)
   split
   exact dg_ (iZ_ g1 htn) (by omega)
   split
   exact dg_ (iZ_ g3 (t:=[94]++ti n) (by simp)) (by simp;omega)
   exact dg_ g3 (by simp;omega)
  rw[←ho'] at hr
  cases o' with
  |none=>
   show AWp _ _ _ _ (pb0 q n)
   rw[eu_]
   refine r_m 3 ?_
   refine a_z ?_
   refine⟨(n,none),Nat.lt_succ_self n,⟨by simp only;omega,hr,jA_ _⟩,?_⟩
   show SEnt _ (pb0 q ((n:Int)- 1))
   rw[eu_]
   exact s_e []
  |some s=>
   show AWp _ _ _ _ (pb1 q (n,s))
   rw[cM_]
   refine r_m 3 ?_
   refine a_z ?_
   refine⟨(n,some s),Nat.lt_succ_self n,⟨by simp only;omega,hr,by simp only;rw[hm];exact hok'⟩,?_⟩
   show SEnt _ (pb1 q ((n:Int)- 1,s))
   rw[cM_]
   exact s_e []
 rintro o ⟨rfl,ho⟩
 cases ho2:textR tq ti q q.length none with
 |none=>
  show AWp _ _ _ _ (pb0 q (-1))
  rw[eu_]
  refine ac_ (s_r 2 ?_)
  refine o_0 (.callR (s:=none) (j:=0) (tb:=0) rfl rfl rfl rfl rfl (fun _ h=>by cases h) (jZ_)) ?_
  refine a_z ?_
  refine am_ rfl (fun h4=>?_) (fun h4=>?_)
  refine r_z 1 ?_
  exact ai_ (t_e (ad_ _))
  exact absurd h4 (by simp)
 |some s=>
  have hs:=ho s ho2
  have hsl:s.length≠0:=by have:=hs.1;simpa using this
  have hne:=hs.1
  show AWp _ _ _ _ (pb1 q (-1,s))
  rw[cM_]
  refine ac_ (s_r 2 ?_)
  refine o_0 (.callR (s:=some _) rfl rfl rfl rfl rfl (fun _ h=>by cases h;exact rfl) (jY_ s)) ?_
  refine a_z ?_
  refine am_ rfl (fun h4=>?_) (fun h4=>?_)
  exact absurd h4 (by simp;omega)
  refine ag_ (s_r 2 ?_)
  refine o_2 (.callD rfl rfl rfl rfl rfl rfl (by decide) (by first|assumption|simp) (h0_)) ?_
  refine a_z ?_
  exact ai_ (t_e (ad_ _))
theorem fX_(p:List Rat)(h:okPT p):FSpec Tryz.prog 75 [.arr (pE p)] (tx (textP p)):=by
 obtain⟨h1,h2,h3⟩:=h
 exact p8_ textQ dec2 6 p h1 (by decide) (fun c hc=>⟨np_ (absQ c) (okT_abs (h3 c hc)),textQ_ne _,textQ_len.1⟩) (fun n hn=>⟨mg_ n (by omega),Nat.le_trans (fb_ n) (by decide)⟩)
abbrev bP(p:List Rat):AV:= .aptr [[.arr (pE p)]] 0 0
abbrev bQ(q:Rat):AV:= .aptr [qC q] 0 0
theorem bq_(p:List Rat):Closed (bP p):=aj_ (aa_ (ar_ p) ab_)
theorem cl_(q:Rat):Closed (bQ q):=aj_ (aK_ q)
theorem fs_Add1(p q:List Rat)(i:Nat)(hp:smL p)(hq:smL q):FSpec Tryz.prog 237 [i64 i,bP p,bP q] (.agg (qC (coP p i+coP q i))):=by
 refine f_n Tryz.func237 ?_ ?_
 exact aa_ (ad_ _) (aa_ (bq_ p) (aa_ (bq_ q) ab_))
 refine r_z 1 ?_
 refine ac_ (r_d hmix 8 ?_)
 refine c_s (fs_at p i) ?_
 refine c_s (fs_at q i) ?_
 refine c_s (fm_ (coP p i) (coP q i) (sm2 (h8_ hp i) (h8_ hq i))) ?_
 refine a_1 ?_
 refine an_ (n_k ?_)
 exact ai_ (c_e (av_ _))
theorem fs_Add(p q:List Rat)(hp:smL p)(hq:smL q)(hp1:p.length≤1099511627776)(hq1:q.length≤1099511627776):FSpec Tryz.prog 167 [.arr (pE p),.arr (pE q)] (.arr (pE (addP p q))):=by
 refine f_n Tryz.func167 ?_ ?_
 exact aa_ (ar_ p) (aa_ (ar_ q) ab_)
 refine r_z 3 ?_
 refine AWp.ent (st':=⟨[(2,bP p),(3,bP q)],[],1,12⟩) ?_ ?_
 exact s_e []
 have hm:(if ((q.length:Nat):Int)>(p.length:Nat) then((q.length:Nat):Int) else(p.length:Nat))=((max p.length q.length:Nat):Int):=by
  rw[Nat.max_def];split <;> split <;> omega
 have he:=jU_ (max p.length q.length) (fun i=>coP p i+coP q i) 237 [bP p,bP q] (Nat.max_le.2 ⟨hp1,hq1⟩) (aa_ (bq_ p) (aa_ (bq_ q) ab_)) (fun i _=>fs_Add1 p q i hp hq)
 rw[←hm] at he
 refine r_c 8 (he) ?_
 refine a_z ?_
 exact ai_ (t_e (ar_ _))
theorem p4_(p:List Rat)(k:Rat)(i:Nat)(hp:smL p)(hk:sm k)(hi:i< p.length):FSpec Tryz.prog 140 [i64 i,bP p,bQ k] (.agg (qC (coP p i* k))):=by
 have hg:(pE p)[((i:Nat):Int).toNat]?=some (qC (coP p i)):=bC_ (bc_ hi)
 refine f_n Tryz.func140 ?_ ?_
 exact aa_ (ad_ _) (aa_ (bq_ p) (aa_ (cl_ k) ab_))
 refine r_z 1 ?_
 refine ac_ (r_d hmix 7 ?_)
 refine a_2 ?_
 refine i_x hg ?_
 refine l_x hg ?_
 refine c_s (cW_ (coP p i) k (sm2 (h8_ hp i) hk)) ?_
 refine a_1 ?_
 refine an_ (n_k ?_)
 exact ai_ (c_e (av_ _))
theorem dN_(p:List Rat)(k:Rat)(hp:smL p)(hk:sm k)(hp1:p.length≤1099511627776):FSpec Tryz.prog 50 [.arr (pE p),.agg (qC k)] (.arr (pE (aN_ p k))):=by
 have he:=jU_ p.length (fun i=>coP p i* k) 140 [bP p,bQ k] hp1 (aa_ (bq_ p) (aa_ (cl_ k) ab_)) (fun i hi=>p4_ p k i hp hk hi)
 refine f_n Tryz.func50 ?_ ?_
 exact aa_ (ar_ p) (aa_ (av_ k) ab_)
 refine r_z 3 ?_
 refine AWp.ent (st':=⟨[(2,bP p),(3,bQ k)],[],1,9⟩) ?_ ?_
 exact s_e []
 refine r_c 5 (he) ?_
 refine a_z ?_
 exact ai_ (t_e (ar_ _))
theorem dM_(a b:Rat)(hb:b≠0)(h:qs a+qs b≤549755813888):FSpec Tryz.prog 144 [.agg (qC a),.agg (qC b)] (.agg (qC (a/ b))):=by
 refine f_n Tryz.func144 ?_ ?_
 exact aa_ (av_ a) (aa_ (av_ b) ab_)
 refine r_z 3 ?_
 refine r_c 9 (pX_ a b hb h) ?_
 refine a_z ?_
 refine r_z 2 ?_
 exact ai_ (c_e (av_ _))
theorem hT_(a:Rat):FSpec Tryz.prog 187 [.agg (qC a)] (.arr (pE (dB_ a))):=by
 refine f_n Tryz.func187 ?_ ?_
 exact aa_ (av_ a) ab_
 refine r_z 2 ?_
 refine s_r 4 ?_
 refine a_2 ?_
 refine o_1 (.callS1 rfl rfl rfl (.shut rfl d_n (.nil)) rfl ((cz_ [a] (by simp)))) ?_
 refine a_z ?_
 exact ai_ (t_e (ar_ _))
theorem sm_neg1{a:Rat}(h:sm a):sm (a* (-1)):=by
 unfold sm at *
 rw[show a* (-1)= -a by rw[Rat.mul_comm,Rat.neg_mul,Rat.one_mul],fi_];exact h
theorem qs_inv(b:Rat)(hb:b≠0):qs (1/ b)≤qs b:=by
 rw[h1_ 1 b hb]
 have hn:b.num≠0:=fun e=>hb (Rat.num_eq_zero.1 e)
 have h1:=b6_ b
 have h2:=bT_ b
 refine c6_ (by have:0< b.num.natAbs:=by omega
                show 0< 1* b.num.natAbs
                omega) ?_ ?_
 show bl ((1:Int) * sgn (decide (b.num< 0)) b.den).natAbs≤qs b
 rw[Int.one_mul,cX_];exact h2
 show bl (1* b.num.natAbs)≤qs b
 rw[Nat.one_mul];exact h1
theorem n2_{q:List Rat}(h:smL q):smL (aN_ q (-1)):=by
 refine smL_trim fun x hx=>?_
 obtain⟨i,_,rfl⟩:=List.mem_map.1 hx
 exact sm_neg1 (h8_ h i)
theorem p3_(p q:List Rat)(hp:smL p)(hq:smL q)(hp1:p.length≤1099511627776)(hq1:q.length≤1099511627776):FSpec Tryz.prog 73 [.arr (pE p),.arr (pE q)] (.arr (pE (subP p q))):=by
 have hl:=bW_ q (-1)
 refine f_n Tryz.func73 ?_ ?_
 exact aa_ (ar_ p) (aa_ (ar_ q) ab_)
 refine r_z 1 ?_
 refine r_c 6 (dA_ (-1) (by decide)) ?_
 refine c_s (dN_ q (-1) hq (by decide) hq1) ?_
 refine c_s (fs_Add p (aN_ q (-1)) hp (n2_ hq) hp1 (by omega)) ?_
 refine a_z ?_
 exact ai_ (t_e (ar_ _))
theorem jR_(p:List Rat)(hp:smL p)(hp1:p.length≤1099511627776):FSpec Tryz.prog 270 [.arr (pE p)] (.arr (pE (bd_ p))):=by
 have hlead:=leadP_sm hp
 refine f_n Tryz.func270 ?_ ?_
 exact aa_ (ar_ p) ab_
 refine r_z 1 ?_
 refine ac_ (r_c 3 (bz_ p hp1) ?_)
 refine a_z ?_
 refine am_ rfl (fun h=>?_) (fun h=>?_)
 have h0:trimQ p=[]:=by
  have h1:degP p< 0:=by simpa using h
  unfold degP at h1
  exact List.length_eq_zero_iff.1 (by omega)
 refine r_z 1 ?_
 refine ai_ ?_
 unfold bd_
 rw[if_pos h0]
 exact Fin.tmpN rfl
 have h0:trimQ p≠[]:=by
  intro e
  have h1:¬degP p< 0:=by simpa using h
  unfold degP at h1
  rw[e] at h1
  exact h1 (by decide)
 have hne:=b9_ h0
 have hinv:=qs_inv (leadP p) hne
 unfold sm at hlead
 have h1:qs 1=1:=by decide
 unfold bd_
 rw[if_neg h0]
 refine ag_ (r_c 7 (dA_ 1 (by decide)) ?_)
 refine c_s (fx_ p hp1) ?_
 refine c_s (dM_ 1 (leadP p) hne (by omega)) ?_
 refine c_s (dN_ p (1/ leadP p) hp (by unfold sm;omega) hp1) ?_
 refine a_z ?_
 exact ai_ (t_e (ar_ _))
theorem jw_(i:Nat)(h:i≤1099511627776):qs (((i:Nat):Int):Rat)≤64:=by
 refine Nat.max_le.2 ⟨?_,?_⟩
 show bl ((i:Int)).natAbs≤64
 rw[Int.natAbs_natCast]
 exact bl_le (by omega)
 show bl 1≤64
 decide
theorem om_(p:List Rat)(i:Nat)(hp:smL p)(hi:i+1< p.length)(hp1:p.length≤1099511627776):FSpec Tryz.prog 139 [i64 i,bP p] (.agg (qC (coP p (i+1) * ((i+1:Nat):Int)))):=by
 have hg:(pE p)[(((i:Nat):Int)+1).toNat]?=some (qC (coP p (i+1))):=by
  rw[show(((i:Nat):Int)+1).toNat=i+1 by omega];exact bC_ (bc_ hi)
 have hs:=h8_ hp (i+1)
 have hq:=jw_ (i+1) (by omega)
 unfold sm at hs
 have hI:=dA_ (((i:Nat):Int)+1) (by omega)
 rw[show((i:Nat):Int)+1=((i+1:Nat):Int) by omega] at hI
 refine f_n Tryz.func139 ?_ ?_
 exact aa_ (ad_ _) (aa_ (bq_ p) ab_)
 refine r_z 1 ?_
 refine ac_ (r_d hmix 10 ?_)
 refine a_3 ?_
 refine i_x hg ?_
 refine l_x hg ?_
 refine c_s (hI) ?_
 refine c_s (cW_ (coP p (i+1)) ((i+1:Nat):Int) (by omega)) ?_
 refine a_1 ?_
 refine an_ (n_k ?_)
 exact ai_ (c_e (av_ _))
theorem hV_(p:List Rat)(hp:smL p)(hp1:p.length≤1099511627776):FSpec Tryz.prog 49 [.arr (pE p)] (.arr (pE (a2_ p))):=by
 have he:=jU_ (p.length- 1) (fun i=>coP p (i+1) * ((i+1:Nat):Int)) 139 [bP p] (by omega) (aa_ (bq_ p) ab_) (fun i hi=>om_ p i hp (by omega) hp1)
 have hm:(if (0:Int)>((p.length:Nat):Int)- 1 then(0:Int) else((p.length:Nat):Int)- 1)=((p.length- 1:Nat):Int):=by split <;> omega
 rw[←hm] at he
 refine f_n Tryz.func49 ?_ ?_
 exact aa_ (ar_ p) ab_
 refine r_z 2 ?_
 refine AWp.ent (st':=⟨[(1,bP p)],[],1,9⟩) ?_ ?_
 exact s_e []
 refine r_c 7 (he) ?_
 refine a_z ?_
 exact ai_ (t_e (ar_ _))
theorem k8_(p:List Rat)(i:Nat)(hp:smL p)(hi:i< p.length+1)(hp1:p.length≤1099511627775):FSpec Tryz.prog 143 [i64 i,bP p] (.agg (qC (if i=0 then 0 else coP p (i- 1) / ((i:Nat):Int)))):=by
 refine f_n Tryz.func143 ?_ ?_
 exact aa_ (ad_ _) (aa_ (bq_ p) ab_)
 refine r_z 1 ?_
 refine ac_ (r_z 2 ?_)
 refine am_ rfl (fun h=>?_) (fun h=>?_)
 have h0:i=0:=by
  have h1:(i:Int)=0:=by simpa using h
  omega
 rw[if_pos h0]
 refine r_z 2 ?_
 refine ai_ (Fin.cell rfl rfl rfl tg_35.h ts_35.h (nle rfl) (Cv.agg ?_))
 rw[qC0]
 exact af_ (Cv.emp _) (af_ (al_ at_ (ad_ _)) (af_ (Cv.emp _) ap_))
 have h0:i≠0:=by
  intro e
  have h1:¬(i:Int)=0:=by simpa using h
  omega
 rw[if_neg h0]
 have hg:(pE p)[(((i:Nat):Int)- 1).toNat]?=some (qC (coP p (i- 1))):=by
  rw[show(((i:Nat):Int)- 1).toNat=i- 1 by omega];exact bC_ (bc_ (by omega))
 have hs:=h8_ hp (i- 1)
 have hq:=jw_ i (by omega)
 unfold sm at hs
 refine ag_ (ac_ (r_d hmix 9 ?_))
 refine a_3 ?_
 refine i_x hg ?_
 refine l_x hg ?_
 refine c_s (dA_ ((i:Nat):Int) (by omega)) ?_
 refine c_s (dM_ (coP p (i- 1)) ((i:Nat):Int) (by intro e;have e2:=congrArg Rat.num e;simp at e2;omega) (by omega)) ?_
 refine a_1 ?_
 refine an_ (n_k ?_)
 exact ai_ (c_e (av_ _))
theorem mh_(p:List Rat)(hp:smL p)(hp1:p.length≤1099511627775):FSpec Tryz.prog 53 [.arr (pE p)] (.arr (pE (aI_ p))):=by
 have he:=jU_ (p.length+1) (fun i=>if i=0 then 0 else coP p (i- 1) / ((i:Nat):Int)) 143 [bP p] (by omega) (aa_ (bq_ p) ab_) (fun i hi=>k8_ p i hp hi hp1)
 rw[show((p.length+1:Nat):Int)=((p.length:Nat):Int)+1 by omega] at he
 refine f_n Tryz.func53 ?_ ?_
 exact aa_ (ar_ p) ab_
 refine r_z 2 ?_
 refine AWp.ent (st':=⟨[(1,bP p)],[],1,8⟩) ?_ ?_
 exact s_e []
 refine r_c 6 (he) ?_
 refine a_z ?_
 exact ai_ (t_e (ar_ _))

def mulS(p:List Rat)(q:List Rat):Nat×List Rat→AState
 |(i,o)=>⟨[(1,.arr (pE q)),(5,.lsl 1 0 o.length (some o.length) 3),(25,.arr (pE p)),(26,i64 p.length),(27,i64 i)],[(1,some ⟨35,3,pE o⟩)],2,61⟩
theorem ft_(p:List Rat)(q:List Rat)(i:Nat)(o:List Rat):mulS p q (i,o)=⟨[(1,.arr (pE q)),(5,.lsl 1 0 o.length (some o.length) 3),(25,.arr (pE p)),(26,i64 p.length),(27,i64 i)],[(1,some ⟨35,3,pE o⟩)],2,61⟩:=rfl
def mulT(p:List Rat)(q:List Rat)(i:Nat)(a:Rat):Nat×List Rat→AState
 |(k,o)=>⟨[(1,.arr (pE q)),(5,.lsl 1 0 o.length (some o.length) 3),(6,i64 i),(7,.lptr 2 0 0),(25,.arr (pE p)),(26,i64 p.length),(27,i64 i),(35,.arr (pE q)),(36,i64 q.length),(37,i64 k)],[(1,some ⟨35,3,pE o⟩),(2,some ⟨35,3,[qC a]⟩)],3,61⟩
theorem lW_(p:List Rat)(q:List Rat)(i:Nat)(a:Rat)(k:Nat)(o:List Rat):mulT p q i a (k,o)=⟨[(1,.arr (pE q)),(5,.lsl 1 0 o.length (some o.length) 3),(6,i64 i),(7,.lptr 2 0 0),(25,.arr (pE p)),(26,i64 p.length),(27,i64 i),(35,.arr (pE q)),(36,i64 q.length),(37,i64 k)],[(1,some ⟨35,3,pE o⟩),(2,some ⟨35,3,[qC a]⟩)],3,61⟩:=rfl
theorem jc_(p q:List Rat)(s t:Nat)(hp:bdL p s)(hq:bdL q t)(hs:1≤s)(ht:1≤t)(h:p.length* (s+t+1)+1≤137438953472)(ht2:t≤137438953472)(hp1:p.length≤274877906944)(hq1:q.length≤274877906944):FSpec Tryz.prog 52 [.arr (pE p),.arr (pE q)] (.arr (pE (mulP p q))):=by
 refine f_n Tryz.func52 ?_ ?_
 exact aa_ (ar_ p) (aa_ (ar_ q) ab_)
 refine r_z 1 ?_
 refine aS_ (fun _:Unit=>⟨[(0,.arr (pE p)),(1,.arr (pE q))],[],1,61⟩) (fun _=>p≠[]∧q≠[]) ?_ ?_
 by_cases h1:p=[]
 subst h1
 refine s_r 8 ?_
 refine a_4 ?_
 refine n_g rfl (by simp) ?_
 refine n_g rfl (by simp) ?_
 refine n_g rfl (by simp) ?_
 refine o_0 (.pickT rfl (by simp) rfl) ?_
 refine an_ ?_
 refine am_ rfl (fun h=>?_) (fun h=>?_)
 refine r_z 1 ?_
 refine ai_ ?_
 unfold mulP
 rw[if_pos (.inl rfl)]
 exact Fin.tmpN rfl
 cases h
 have hp0:p.length≠0:=fun e=>h1 (List.length_eq_zero_iff.1 e)
 refine s_r 8 ?_
 refine a_4 ?_
 refine y_g rfl (by simp <;> omega) (.move rfl) ?_
 first|refine y_g rfl (by simp <;> omega) (.lenD rfl rfl rfl rfl te_55.h) ?_|refine y_g rfl (by simp <;> omega) (.lenI rfl rfl rfl rfl te_55.h) ?_|refine y_g rfl (by simp <;> omega) (.lenP rfl rfl rfl rfl te_55.h) ?_|refine y_g rfl (by simp <;> omega) (.lenC rfl rfl rfl rfl te_55.h) ?_|refine y_g rfl (by simp <;> omega) (.lenR rfl rfl rfl rfl te_55.h) ?_|refine y_g rfl (by simp <;> omega) (.len rfl rfl rfl rfl rfl te_55.h) ?_
 refine y_g rfl (by simp <;> omega) (.bin rfl rfl a8_) ?_
 refine o_0 (.pickF rfl (by simp <;> omega) rfl) ?_
 refine an_ ?_
 refine am_ rfl (fun h2=>?_) (fun h2=>?_)
 have hq0:q=[]:=by
  have:q.length=0:=by simpa using h2
  exact List.length_eq_zero_iff.1 this
 refine r_z 1 ?_
 refine ai_ ?_
 unfold mulP
 rw[if_pos (.inr hq0)]
 exact Fin.tmpN rfl
 have hq0:q≠[]:=by
  have:¬q.length=0:=by simpa using h2
  exact fun e=>this (by rw[e];rfl)
 refine ag_ ⟨(),⟨h1,hq0⟩,?_⟩
 exact s_e []
 rintro _ ⟨hp0,hq0⟩
 have hpl:=List.length_pos_iff.2 hp0
 have hql:=List.length_pos_iff.2 hq0
 have hN:(p.length:Int)+q.length- 1=((p.length+q.length- 1:Nat):Int):=by omega
 refine s_r 8 ?_
 refine a_6 ?_
 refine o_1 (.makeSlice (l:=p.length+q.length- 1) (c:=p.length+q.length- 1) (by rw[←hN];rfl) (by rw[←hN];rfl) te_55.h tz_35.h rfl tb_35.h (by first|omega|(simp;done)|(simp;omega)) (by first|omega|(simp;done)|(simp;omega)) (by unfold maxLen;first|omega|(simp;done)|(simp;omega))) ?_
 refine a_z ?_
 refine ac_ (r_z 3 ?_)
 have hbd:=fun i=>jC_ (bQ_ hp hs) (bQ_ hq ht) i
 have hbi:∀i,i≤p.length→i* (s+t+1)+1≤137438953472:=fun i hi=>by
  have:=Nat.mul_le_mul_right (s+t+1) hi
  omega
 have hs2:s≤137438953472:=by
  have:=hbi 1 hpl
  omega
 refine aD_ (fun _:Unit=>mulS p q (p.length,mulR p q p.length)) (fun _=>True) ?_ ?_
 refine ah_ (ax_ (fun i:Nat=>mulS p q (i,mulR p q i)) (fun i=>p.length- i) (fun i=>i≤p.length) 0 (Nat.zero_le _) ?_ ?_)
 simp only[ft_,mulR]
 refine as_ [(1,5)] rfl rfl rfl au_r (fun hs=>au_f) (fun hs=>?_)
 ·repeat' (first|exact ao_|refine ak_ rfl rfl rfl rfl ?_ ?_)
  all_goals (first|(exact CvLL.zeros hs _)|exact au_e)
 rintro i hi
 simp only[ft_]
 refine r_z 1 ?_
 refine ac_ (am_ rfl (fun h=>?_) (fun h=>?_))
 refine ag_ ?_
 have hlt:i< p.length:=by simpa using h
 have hgp:(pE p)[((i:Nat):Int).toNat]?=some (qC (coP p i)):=bC_ (bc_ hlt)
 refine ac_ (ah_ (s_r 6 ?_))
 refine a_1 ?_
 refine i_x hgp ?_
 refine l_x hgp ?_
 refine a_z ?_
 refine ac_ (r_c 3 (bK_ (coP p i)) ?_)
 refine a_z ?_
 refine am_ rfl (fun h1=>?_) (fun h1=>?_)
 have h0:coP p i=0:=by
  have h1:sgZ (coP p i).num=0:=by simpa using h1
  exact sgZ_num_eq.1 h1
 have hst:mulR p q (i+1)=mulR p q i:=by rw[mulR,if_pos h0]
 refine au_ (r_m 2 ?_)
 refine a_z ?_
 refine⟨i+1,by omega,hlt,?_⟩
 simp only[ft_,hst]
 exact s_e []
 have h0:coP p i≠0:=by
  intro e
  have h1:¬sgZ (coP p i).num=0:=by simpa using h1
  exact h1 (sgZ_num_eq.2 e)
 have hst:mulR p q (i+1)=rowP (mulR p q i) (coP p i) q i q.length:=by rw[mulR,if_neg h0]
 refine ag_ (r_z 3 ?_)
 refine AWp.cutB (fun _:Unit=>mulS p q (i,mulR p q (i+1))) (fun _=>True) ?_ ?_
 refine ah_ (ax_ (fun k:Nat=>mulT p q i (coP p i) (k,rowP (mulR p q i) (coP p i) q i k)) (fun k=>q.length- k) (fun k=>k≤q.length) 0 (Nat.zero_le _) ?_ ?_)
 simp only[lW_,rowP]
 exact s_e [(2,7)]
 rintro k hk
 simp only[lW_]
 refine r_z 1 ?_
 refine ac_ (am_ rfl (fun h2=>?_) (fun h2=>?_))
 refine ag_ ?_
 have hlt2:k< q.length:=by simpa using h2
 have hgq:(pE q)[((k:Nat):Int).toNat]?=some (qC (coP q k)):=bC_ (bc_ hlt2)
 refine ac_ (ah_ (s_r 6 ?_))
 refine a_1 ?_
 refine i_x hgq ?_
 refine l_x hgq ?_
 refine a_z ?_
 have hb1:=hbd i
 have hb2:=hbi (i+1) hlt
 have hb3:=hbi i hi
 have hcur:qs (coP (rowP (mulR p q i) (coP p i) q i k) (i+k))≤137438953472:=by
  rw[ju_ _ _ _ _ _ _ (by omega)];exact Nat.le_trans (hb1 (i+k)) hb3
 have hab:=cb_ (coP p i) (coP q k)
 have hqa:=bQ_ hp hs i
 have hqb:=bQ_ hq ht k
 have hik:i+k< (rowP (mulR p q i) (coP p i) q i k).length:=by simp;omega
 have hgo:(pE (rowP (mulR p q i) (coP p i) q i k))[(0+(((i:Nat):Int)+(k:Nat)).toNat)]?=some (qC (coP (rowP (mulR p q i) (coP p i) q i k) (i+k))):=by
  rw[show 0+(((i:Nat):Int)+(k:Nat)).toNat=i+k by omega];exact bC_ (bc_ hik)
 refine r_d hmix 16 ?_
 refine a_8 ?_
 refine a_1 ?_
 first|refine aB_ (.load_l rfl rfl hgo tg_35.h ts_35.h (nle rfl)) rfl rfl ?_|refine aB_ (.load_a rfl hgo tg_35.h ts_35.h (nle rfl)) rfl rfl ?_
 refine c_s (cW_ (coP p i) (coP q k) (by omega)) ?_
 refine c_s (fm_ (coP (rowP (mulR p q i) (coP p i) q i k) (i+k)) (coP p i* coP q k) (by omega)) ?_
 refine a_1 ?_
 refine o_1n (.store rfl rfl hgo rfl rfl rfl ts_35.h (nle rfl)) ?_
 refine an_ (n_k ?_)
 refine r_m 2 ?_
 refine a_z ?_
 refine⟨k+1,by omega,hlt2,?_⟩
 have hst2:(pE (rowP (mulR p q i) (coP p i) q i k)).set (0+(((i:Nat):Int)+(k:Nat)).toNat) (qC (coP (rowP (mulR p q i) (coP p i) q i k) (i+k)+coP p i* coP q k))=pE (rowP (mulR p q i) (coP p i) q i (k+1)):=by
  rw[show 0+(((i:Nat):Int)+(k:Nat)).toNat=i+k by omega,hu_];rfl
 have hl2:(rowP (mulR p q i) (coP p i) q i (k+1)).length=(rowP (mulR p q i) (coP p i) q i k).length:=by simp
 simp only[lW_,hl2]
 refine as_ [] rfl rfl rfl ?_ (fun hs=>au_f) (fun hs=>?_)
 ·repeat' (first|exact ShrL.nil|refine ShrL.cons rfl rfl rfl rfl (by first|(simp)|rfl|(simp;done)|(simp <;> omega)) ?_)
 ·repeat' (first|exact ao_|refine ak_ rfl rfl rfl rfl ?_ ?_)
  all_goals (first|(exact aG_ hs hst2 (aH_ _))|exact au_e)
 have hge:k=q.length:=by
  have:¬k< q.length:=by simpa using h2
  omega
 subst hge
 refine au_ ⟨(),trivial,?_⟩
 simp only[ft_,hst]
 exact s_e []
 rintro _ _
 simp only[ft_]
 refine r_m 2 ?_
 refine a_z ?_
 refine⟨i+1,by omega,hlt,?_⟩
 exact s_e []
 have hge:i=p.length:=by
  have:¬i< p.length:=by simpa using h
  omega
 subst hge
 refine au_ ⟨(),trivial,?_⟩
 simp only[ft_]
 exact s_e []
 rintro _ _
 simp only[ft_]
 have hfull:List.take (mulR p q p.length).length (List.drop 0 (pE (mulR p q p.length)))=pE (mulR p q p.length):=by
  rw[List.drop_zero,List.take_of_length_le (by simp)]
 have hfin:mulP p q=trimQ (mulR p q p.length):=by
  unfold mulP;rw[if_neg (by rintro(h|h);exact hp0 h;exact hq0 h)]
 rw[hfin]
 refine s_r 3 ?_
 refine a_1 ?_
 refine o_1 (.callS1 rfl rfl rfl (.shut rfl d_n (.nil)) rfl ((by rw[hfull];exact cz_ (mulR p q p.length) (by simp;omega)))) ?_
 refine a_z ?_
 exact ai_ (t_e (ar_ _))
theorem os_Clone(l:List Rat)(h0:l≠[])(hl:l.length≤1099511627776):OSpec Tryz.prog 184 [.arr (pE l)] 35 3 (pE l):=by
 have hne:pE l≠[]:=by
  intro e
  exact h0 (List.length_eq_zero_iff.1 (by rw[←kE_,e];rfl))
 refine OSpec.enter Tryz.func184 rfl (by kernel_rfl) rfl rfl rfl ?_ ?_ rfl ?_
 exact aa_ (aC_ (aH_ _)) ab_
 exact aH_ l
 refine r_z 1 ?_
 refine ac_ (s_r 2 ?_)
 refine a_1 ?_
 first|refine aB_ (.nilq_v rfl rfl te_55.h) rfl rfl ?_|refine aB_ (.nilq_arr rfl (hne) rfl te_55.h) rfl rfl ?_
 refine an_ ?_
 refine cF ?_
 ·refine ag_ (s_r 4 ?_)
  refine a_2 ?_
  refine o_2 (.append_l rfl rfl rfl te_55.h rfl rfl rfl rfl rfl d_o (by first|exact dR_ _|exact dI_ _|exact df_ _|exact dS_ _|exact dw_ _|assumption|rfl|simp) (by first|rfl|exact dR_ _|exact dI_ _|exact df_ _|exact dS_ _|exact dw_ _|simp) rfl (.arr (fr_ _)) tz_35.h rfl tb_35.h d_o (by first|(simp[maxLen];done)|(simp[maxLen];omega))) ?_
  refine a_z ?_
  exact ai_ (FinO.tmp rfl rfl rfl (by simp))
theorem os_Trim(l:List Rat)(h0:trimQ l≠[])(hl:l.length≤1099511627776):OSpec Tryz.prog 99 [.arr (pE l)] 35 3 (pE (trimQ l)):=by
 refine OSpec.enter Tryz.func99 rfl (by kernel_rfl) rfl rfl rfl ?_ ?_ rfl ?_
 exact aa_ (aC_ (aH_ _)) ab_
 exact aH_ _
 refine r_z 1 ?_
 refine r_z 3 ?_
 refine aS_ (trS l) (fun n=>n≤l.length∧trimQ l=l.take n) ?_ ?_
 refine ah_ (ax_ (trS l) (fun n=>n) (fun n=>n≤l.length∧trimQ l=trimQ (l.take n)) l.length ⟨Nat.le_refl _,by rw[List.take_length]⟩ ?_ ?_)
 simp only[ey_]
 exact s_e []
 rintro n ⟨hn,ht⟩
 rw[ey_]
 cases n with
 |zero=>exact absurd (ht.trans rfl) h0
 |succ n=>
  obtain⟨q,hq⟩:∃q,l[n]?=some q:=⟨_,List.getElem?_eq_getElem (by omega)⟩
  have hq':(pE l)[(((n+1:Nat):Int)- 1).toNat]?=some (qC q):=by
   rw[show(((n+1:Nat):Int)- 1).toNat=n by omega];exact bC_ hq
  have hs:trimQ (l.take (n+1))=if q=0 then trimQ (l.take n) else l.take (n+1):=by
   rw[cw_ hq,e0_]
  refine ac_ (s_r 11 ?_)
  refine a_3 ?_
  refine y_g rfl (by simp <;> omega) (.move rfl) ?_
  refine y_g rfl (by simp <;> omega) (.move rfl) ?_
  refine y_g rfl (by simp <;> omega) (.bin rfl rfl (f8_ (by omega))) ?_
  first|refine y_g rfl (by simp <;> omega) (.index_l rfl rfl (by omega) (by omega) te_55.h) ?_|refine y_g rfl (by simp <;> omega) (.index_a rfl rfl (by omega) hq' rfl te_55.h) ?_
  first|refine y_g rfl (by simp <;> omega) (.load_l rfl rfl hq' tg_35.h ts_35.h (nle rfl)) ?_|refine y_g rfl (by simp <;> omega) (.load_a rfl hq' tg_35.h ts_35.h (nle rfl)) ?_
  refine y_g rfl (by simp <;> omega) (.call rfl rfl rfl (bK_ q)) ?_
  refine y_g rfl (by simp <;> omega) (.bin rfl rfl a8_) ?_
  refine o_0 (.pickT rfl (by simp <;> omega) rfl) ?_
  refine an_ ?_
  refine am_ rfl (fun h=>?_) (fun h=>?_)
  have h0:q=0:=by
   have h1:sgZ q.num=0:=by simpa using h
   exact sgZ_num_eq.1 h1
  refine ag_ (ah_ (r_m 3 ?_))
  refine a_z ?_
  refine⟨n,Nat.lt_succ_self n,⟨by omega,?_⟩,?_⟩
  rw[ht,hs,if_pos h0]
  simp only[ey_]
  exact s_e []
  have h0:q≠0:=by
   intro e
   have h1:¬sgZ q.num=0:=by simpa using h
   exact h1 (sgZ_num_eq.2 e)
  refine au_ ⟨n+1,⟨hn,?_⟩,?_⟩
  rw[ht,hs,if_neg h0]
  simp only[ey_]
  exact s_e []
 rintro n ⟨hn,ht⟩
 rw[ey_]
 rw[ht] at h0
 have hcl:=os_Clone (l.take n) h0 (by simp;omega)
 refine s_r 5 ?_
 refine a_2 ?_
 refine o_0 (.sa_h rfl rfl (h:=n) rfl (by simp;omega) te_55.h (fr_ _)) ?_
 refine o_1 (.callO rfl rfl rfl ((by rw[lT_];exact hcl))) ?_
 refine a_z ?_
 refine ai_ ?_
 rw[ht]
 exact FinO.tmp rfl rfl rfl (by simp)
def dvS(q:List Rat)(lead:Rat):Nat×List Rat×List Rat→AState
 |(c,u,o)=>⟨[(0,.lsl 1 0 o.length none 3),(1,.arr (pE q)),(4,.lsl 2 0 u.length (some u.length) 3),(6,.lptr 3 0 0),(7,i64 ((c:Int)- 1))],[(1,some ⟨35,3,pE o⟩),(2,some ⟨35,3,pE u⟩),(3,some ⟨35,3,[qC lead]⟩)],4,82⟩
theorem nx_(q:List Rat)(lead:Rat)(c:Nat)(u:List Rat)(o:List Rat):dvS q lead (c,u,o)=⟨[(0,.lsl 1 0 o.length none 3),(1,.arr (pE q)),(4,.lsl 2 0 u.length (some u.length) 3),(6,.lptr 3 0 0),(7,i64 ((c:Int)- 1))],[(1,some ⟨35,3,pE o⟩),(2,some ⟨35,3,pE u⟩),(3,some ⟨35,3,[qC lead]⟩)],4,82⟩:=rfl
def dvT(q:List Rat)(lead:Rat)(n:Nat)(u:List Rat)(k:Rat):Nat×List Rat→AState
 |(i,o)=>⟨[(0,.lsl 1 0 o.length none 3),(1,.arr (pE q)),(4,.lsl 2 0 u.length (some u.length) 3),(6,.lptr 3 0 0),(7,i64 n),(8,.lptr 4 0 0),(55,.arr (pE q)),(56,i64 q.length),(57,i64 i)],[(1,some ⟨35,3,pE o⟩),(2,some ⟨35,3,pE u⟩),(3,some ⟨35,3,[qC lead]⟩),(4,some ⟨35,3,[qC k]⟩)],5,82⟩
theorem qq_(q:List Rat)(lead:Rat)(n:Nat)(u:List Rat)(k:Rat)(i:Nat)(o:List Rat):dvT q lead n u k (i,o)=⟨[(0,.lsl 1 0 o.length none 3),(1,.arr (pE q)),(4,.lsl 2 0 u.length (some u.length) 3),(6,.lptr 3 0 0),(7,i64 n),(8,.lptr 4 0 0),(55,.arr (pE q)),(56,i64 q.length),(57,i64 i)],[(1,some ⟨35,3,pE o⟩),(2,some ⟨35,3,pE u⟩),(3,some ⟨35,3,[qC lead]⟩),(4,some ⟨35,3,[qC k]⟩)],5,82⟩:=rfl
theorem eL_(p q:List Rat)(s t:Nat)(hp:bdL p s)(hq:bdL q t)(hs:1≤s)(ht:1≤t)(h:2^ ((trimQ p).length+1- (trimQ q).length) * (s+2* t+1)≤137438953472)(hq0:trimQ q≠[])(hp1:p.length≤274877906944)(hq1:q.length≤274877906944):FSpec Tryz.prog 227 [.arr (pE p),.arr (pE q)] (.tup [.arr (pE (divP p q).1),.arr (pE (divP p q).2)]):=by
 have hlp:=a9_ p
 have hlq:=a9_ q
 have hql:=List.length_pos_iff.2 hq0
 have hg:(pE (trimQ q))[(((trimQ q).length:Int)- 1).toNat]?=some (qC (leadP q)):=by
  rw[show(((trimQ q).length:Int)- 1).toNat=(trimQ q).length- 1 by omega];exact bC_ (bG_ (by omega))
 have hne:=b9_ hq0
 obtain⟨m,hm⟩:∃m,m=(trimQ p).length+1- (trimQ q).length:=⟨_,rfl⟩
 have hmx:(if (0:Int)>((trimQ p).length:Int)- (trimQ q).length+1 then(0:Int) else((trimQ p).length:Int)- (trimQ q).length+1)=(m:Int):=by split <;> omega
 have hB:divB (trimQ q) (leadP q) 137438953472 m (List.replicate m 0) (trimQ p):=by
  refine⟨s,t,bQ_ (fun x hx=>hp x (bk_ hx)) hs,bQ_ (fun x hx=>hq x (bk_ hx)) ht,hq _ (bk_ (List.mem_of_getElem? (bG_ (n:=(trimQ q).length- 1) (by omega)))),ht,fun n=>?_,by rw[hm];exact h⟩
  have:coP (List.replicate m 0) n=0:=by
   unfold coP
   rw[List.getD_eq_getElem?_getD,List.getElem?_replicate]
   split <;> rfl
  rw[this];decide
 have hdv:divP p q=(trimQ (divR (trimQ q) (leadP q) m (List.replicate m 0) (trimQ p)).1,trimQ (divR (trimQ q) (leadP q) m (List.replicate m 0) (trimQ p)).2):=by rw[hm];rfl
 rw[hdv]
 refine f_n Tryz.func227 ?_ ?_
 exact aa_ (ar_ p) (aa_ (ar_ q) ab_)
 refine r_z 2 ?_
 by_cases hp0:trimQ p=[]
 ·have hm0:m=0:=by rw[hm,hp0];simp;omega
  subst hm0
  rw[hp0] at hmx⊢
  have htp:=cz_ p (by omega)
  rw[hp0] at htp
  refine r_c 6 (htp) ?_
  refine c_s (cz_ q (by omega)) ?_
  refine a_z ?_
  refine s_r 8 ?_
  refine a_4 ?_
  refine i_x hg ?_
  refine l_x hg ?_
  refine a_z ?_
  refine s_r 9 ?_
  refine a_7 ?_
  refine o_1 (.makeSlice (l:=0) (c:=0) (by rw[←hmx];rfl) (by rw[←hmx];rfl) te_55.h tz_35.h rfl tb_35.h (by first|omega|(simp;done)|(simp;omega)) (by first|omega|(simp;done)|(simp;omega)) (by unfold maxLen;first|omega|(simp;done)|(simp;omega))) ?_
  refine a_z ?_
  refine ac_ (r_z 6 ?_)
  refine aD_ (fun _:Unit=>⟨[(0,.arr (pE [])),(4,.lsl 2 0 0 (some 0) 3)],[(2,some ⟨35,3,[]⟩)],3,82⟩) (fun _=>True) ?_ ?_
  refine ah_ (ax_ (fun _:Unit=>⟨[(0,.arr (pE [])),(4,.lsl 2 0 0 (some 0) 3),(7,i64 (0- ((trimQ q).length:Int)))],[(2,some ⟨35,3,[]⟩)],3,82⟩) (fun _=>0) (fun _=>True) () trivial ?_ ?_)
  refine as_ [(2,4)] rfl rfl rfl au_r (fun hs=>au_f) (fun hs=>?_)
  ·repeat' (first|exact ao_|refine ak_ rfl rfl rfl rfl ?_ ?_)
   all_goals (first|(exact CvLL.nil)|exact au_e)
  rintro _ _
  refine ac_ (r_z 2 ?_)
  refine am_ rfl (fun h1=>?_) (fun h1=>?_)
  exact absurd h1 (by simp;omega)
  refine au_ ⟨(),trivial,?_⟩
  refine as_ [] rfl rfl rfl au_r (fun hs=>au_f) (fun hs=>?_)
  ·repeat' (first|exact ao_|refine ak_ rfl rfl rfl rfl ?_ ?_)
   all_goals (first|(exact CvLL.nil)|exact au_e)
  rintro _ _
  refine s_r 6 ?_
  refine a_1 ?_
  refine o_1 (.callS1 rfl rfl rfl (.shut rfl d_n (.nil)) rfl ((cz_ [] (by simp)))) ?_
  refine c_s (cz_ [] (by simp)) ?_
  refine a_z ?_
  refine ai_ (Fin.many ⟨_,_,rfl,rfl,⟨_,_,rfl,rfl,rfl⟩⟩ (nle rfl) ?_)
  exact af_ (al_ at_ (ar_ _)) (af_ (al_ at_ (ar_ _)) ap_)
 have hpl:=List.length_pos_iff.2 hp0
 have hto:=os_Trim p hp0 (by omega)
 have hdl:=er_ (trimQ q) (leadP q) m (List.replicate m 0) (trimQ p)
 have hend:=mp_ hB
 refine s_r 6 ?_
 refine a_1 ?_
 refine o_1 (.callO rfl rfl rfl (hto)) ?_
 refine c_s (cz_ q (by omega)) ?_
 refine a_z ?_
 refine AWp.ent (st':=⟨[(0,.lsl 1 0 (trimQ p).length none 3),(1,.arr (pE (trimQ q)))],[(1,some ⟨35,3,pE (trimQ p)⟩)],2,82⟩) ?_ ?_
 exact s_e [(1,0)]
 refine s_r 8 ?_
 refine a_4 ?_
 refine i_x hg ?_
 refine l_x hg ?_
 refine a_z ?_
 refine s_r 9 ?_
 refine a_7 ?_
 refine o_1 (.makeSlice (l:=m) (c:=m) (by rw[←hmx];rfl) (by rw[←hmx];rfl) te_55.h tz_35.h rfl tb_35.h (by first|omega|(simp;done)|(simp;omega)) (by first|omega|(simp;done)|(simp;omega)) (by unfold maxLen;first|omega|(simp;done)|(simp;omega))) ?_
 refine a_z ?_
 refine ac_ (r_z 6 ?_)
 refine aD_ (fun x:List Rat×List Rat=>⟨[(0,.lsl 1 0 x.2.length none 3),(4,.lsl 2 0 x.1.length (some x.1.length) 3)],[(1,some ⟨35,3,pE x.2⟩),(2,some ⟨35,3,pE x.1⟩)],3,82⟩) (fun x=>x=divR (trimQ q) (leadP q) m (List.replicate m 0) (trimQ p)) ?_ ?_
 refine ah_ ?_
 by_cases hab:(trimQ p).length< (trimQ q).length
 have hm0:m=0:=by omega
 subst hm0
 refine ax_ (fun _:Unit=>⟨[(0,.lsl 1 0 (trimQ p).length none 3),(4,.lsl 2 0 0 (some 0) 3),(7,i64 (((trimQ p).length:Int)- ((trimQ q).length:Int)))],[(1,some ⟨35,3,pE (trimQ p)⟩),(2,some ⟨35,3,[]⟩)],3,82⟩) (fun _=>0) (fun _=>True) () trivial ?_ ?_
 refine as_ [(1,0),(2,4)] rfl rfl rfl au_r (fun hs=>au_f) (fun hs=>?_)
 ·repeat' (first|exact ao_|refine ak_ rfl rfl rfl rfl ?_ ?_)
  all_goals (first|(exact CvLL.nil)|exact au_e)
 rintro _ _
 refine ac_ (r_z 2 ?_)
 refine am_ rfl (fun h1=>?_) (fun h1=>?_)
 exact absurd h1 (by simp;omega)
 refine au_ ⟨([],trimQ p),rfl,?_⟩
 exact s_f []
 refine ax_ (fun x:Nat×List Rat×List Rat=>dvS (trimQ q) (leadP q) x) (fun x=>x.1) (fun x=>x.1≤m∧x.2.1.length=m∧x.2.2.length=(trimQ p).length∧divB (trimQ q) (leadP q) 137438953472 x.1 x.2.1 x.2.2∧divR (trimQ q) (leadP q) x.1 x.2.1 x.2.2=divR (trimQ q) (leadP q) m (List.replicate m 0) (trimQ p)) (m,List.replicate m 0,trimQ p) ⟨Nat.le_refl _,by simp,rfl,hB,rfl⟩ ?_ ?_
 simp only[nx_]
 have hm1:((trimQ p).length:Int)- (trimQ q).length=(m:Int)- 1:=by omega
 rw[hm1]
 refine as_ [(1,0),(2,4),(3,6)] rfl rfl rfl au_r (fun hs=>au_f) (fun hs=>?_)
 ·repeat' (first|exact ao_|refine ak_ rfl rfl rfl rfl ?_ ?_)
  all_goals (first|(exact CvLL.zeros hs _)|exact au_e)
 rintro⟨c,u,o⟩ ⟨hc,hu,ho,hb,hr⟩
 simp only at hc hu ho hb hr
 simp only[nx_]
 cases c with
 |zero=>
  refine ac_ (r_z 2 ?_)
  refine am_ rfl (fun h1=>?_) (fun h1=>?_)
  exact absurd h1 (by simp)
  refine au_ ⟨(u,o),hr,?_⟩
  exact s_e []
 |succ n=>
  obtain⟨B,tt,hb1,hb2,hb3,hb4⟩:=nC_ hb
  have hcn:((n+1:Nat):Int)- 1=(n:Int):=by omega
  rw[hcn]
  refine ac_ (r_z 2 ?_)
  refine am_ rfl (fun h1=>?_) (fun h1=>?_)
  refine ag_ ?_
  obtain⟨k,hk⟩:∃k,k=coP o (n+(trimQ q).length- 1) / leadP q:=⟨_,rfl⟩
  have hst:=ln_ hb
  rw[divR] at hr
  rw[←hk] at hst hr
  have hgo:(pE o)[(0+(((n:Nat):Int)+((trimQ q).length:Nat)- 1).toNat)]?=some (qC (coP o (n+(trimQ q).length- 1))):=by
   rw[show 0+(((n:Nat):Int)+((trimQ q).length:Nat)- 1).toNat=n+(trimQ q).length- 1 by omega];exact bC_ (bc_ (by omega))
  have hov:=dM_ (coP o (n+(trimQ q).length- 1)) (leadP q) hne (by have:=hb1 (n+(trimQ q).length- 1);omega)
  rw[←hk] at hov
  have hgu:(pE u)[0+((n:Nat):Int).toNat]?=some (qC (coP u n)):=by
   rw[show 0+((n:Nat):Int).toNat=n by omega];exact bC_ (bc_ (by omega))
  refine ac_ (ah_ (ac_ (r_d hmix 12 ?_)))
  refine a_7 ?_
  first|refine aB_ (.load_l rfl rfl hgo tg_35.h ts_35.h (nle rfl)) rfl rfl ?_|refine aB_ (.load_a rfl hgo tg_35.h ts_35.h (nle rfl)) rfl rfl ?_
  refine c_s (hov) ?_
  refine a_2 ?_
  refine an_ (n_k ?_)
  refine s_r 5 ?_
  refine a_4 ?_
  refine o_1n (.store rfl rfl hgu rfl rfl rfl ts_35.h (nle rfl)) ?_
  refine an_ ?_
  have hsu:(pE u).set (0+((n:Nat):Int).toNat) (qC k)=pE (u.set n k):=by
   rw[show 0+((n:Nat):Int).toNat=n by omega,hu_]
  have hlu:(u.set n k).length=u.length:=by simp
  refine ac_ (r_c 3 (bK_ k) ?_)
  refine a_z ?_
  refine am_ rfl (fun h2=>?_) (fun h2=>?_)
  have h0:k=0:=by
   have h2:sgZ k.num=0:=by simpa using h2
   exact sgZ_num_eq.1 h2
  rw[if_pos h0] at hst hr
  refine au_ (r_m 3 ?_)
  refine a_z ?_
  refine⟨(n,u.set n k,o),Nat.lt_succ_self n,⟨by omega,by simp only;omega,ho,hst,hr⟩,?_⟩
  simp only[nx_,hlu]
  exact s_f []
  have h0:k≠0:=by
   intro e
   have h2:¬sgZ k.num=0:=by simpa using h2
   exact h2 (sgZ_num_eq.2 e)
  rw[if_neg h0] at hst hr
  refine ag_ (r_z 3 ?_)
  refine AWp.cutB (fun _:Unit=>⟨[(0,.lsl 1 0 o.length none 3),(1,.arr (pE (trimQ q))),(4,.lsl 2 0 u.length (some u.length) 3),(6,.lptr 3 0 0),(7,i64 n)],[(1,some ⟨35,3,pE (rowM o k (trimQ q) n (trimQ q).length)⟩),(2,some ⟨35,3,pE (u.set n k)⟩),(3,some ⟨35,3,[qC (leadP q)]⟩)],4,82⟩) (fun _=>True) ?_ ?_
  refine ah_ (ax_ (fun i:Nat=>dvT (trimQ q) (leadP q) n (u.set n k) k (i,rowM o k (trimQ q) n i)) (fun i=>(trimQ q).length- i) (fun i=>i≤(trimQ q).length) 0 (Nat.zero_le _) ?_ ?_)
  simp only[qq_,rowM,hlu]
  exact s_f [(4,8)]
  rintro i hi
  simp only[qq_]
  refine r_z 1 ?_
  refine ac_ (am_ rfl (fun h3=>?_) (fun h3=>?_))
  refine ag_ ?_
  have hlt2:i< (trimQ q).length:=by simpa using h3
  have hgq:(pE (trimQ q))[((i:Nat):Int).toNat]?=some (qC (coP (trimQ q) i)):=bC_ (bc_ hlt2)
  have hcur:qs (coP (rowM o k (trimQ q) n i) (n+i))≤B:=by
   rw[fM_ _ _ _ _ _ _ (by omega)];exact hb1 _
  have hkq:qs k≤B+tt:=by
   have e1:=d1_ (coP o (n+(trimQ q).length- 1)) (leadP q)
   have e2:=hb1 (n+(trimQ q).length- 1)
   rw[hk];omega
  have hkm:=cb_ k (coP (trimQ q) i)
  have hqi:=hb2 i
  have hik:n+i< (rowM o k (trimQ q) n i).length:=by simp;omega
  have hgr:(pE (rowM o k (trimQ q) n i))[(0+(((n:Nat):Int)+(i:Nat)).toNat)]?=some (qC (coP (rowM o k (trimQ q) n i) (n+i))):=by
   rw[show 0+(((n:Nat):Int)+(i:Nat)).toNat=n+i by omega];exact bC_ (bc_ hik)
  refine ac_ (ah_ (s_r 6 ?_))
  refine a_1 ?_
  refine i_x hgq ?_
  refine l_x hgq ?_
  refine a_z ?_
  refine r_d hmix 16 ?_
  refine a_8 ?_
  refine a_1 ?_
  first|refine aB_ (.load_l rfl rfl hgr tg_35.h ts_35.h (nle rfl)) rfl rfl ?_|refine aB_ (.load_a rfl hgr tg_35.h ts_35.h (nle rfl)) rfl rfl ?_
  refine c_s (cW_ k (coP (trimQ q) i) (by omega)) ?_
  refine c_s (ne_ (coP (rowM o k (trimQ q) n i) (n+i)) (k* coP (trimQ q) i) (by omega)) ?_
  refine a_1 ?_
  refine o_1n (.store rfl rfl hgr rfl rfl rfl ts_35.h (nle rfl)) ?_
  refine an_ (n_k ?_)
  refine r_m 2 ?_
  refine a_z ?_
  refine⟨i+1,by omega,hlt2,?_⟩
  have hst2:(pE (rowM o k (trimQ q) n i)).set (0+(((n:Nat):Int)+(i:Nat)).toNat) (qC (coP (rowM o k (trimQ q) n i) (n+i)- k* coP (trimQ q) i))=pE (rowM o k (trimQ q) n (i+1)):=by
   rw[show 0+(((n:Nat):Int)+(i:Nat)).toNat=n+i by omega,hu_];rfl
  have hl2:(rowM o k (trimQ q) n (i+1)).length=(rowM o k (trimQ q) n i).length:=by simp
  simp only[qq_,hl2]
  refine as_ [] rfl rfl rfl ?_ (fun hs=>au_f) (fun hs=>?_)
  ·repeat' (first|exact ShrL.nil|refine ShrL.cons rfl rfl rfl rfl (by first|(simp)|rfl|(simp;done)|(simp <;> omega)) ?_)
  ·repeat' (first|exact ao_|refine ak_ rfl rfl rfl rfl ?_ ?_)
   all_goals (first|(exact aG_ hs hst2 (aH_ _))|exact au_e)
  have hge:i=(trimQ q).length:=by
   have:¬i< (trimQ q).length:=by simpa using h3
   omega
  subst hge
  refine au_ ⟨(),trivial,?_⟩
  rw[cZ_,hlu]
  exact s_e []
  rintro _ _
  refine r_m 3 ?_
  refine a_z ?_
  refine⟨(n,u.set n k,rowM o k (trimQ q) n (trimQ q).length),Nat.lt_succ_self n,⟨by omega,by simp only;omega,by simp only;rw[cZ_];exact ho,hst,hr⟩,?_⟩
  simp only[nx_,hlu,cZ_]
  exact s_e []
  exact absurd h1 (by simp)
 rintro⟨u,o⟩ hx
 rw[←hx] at hdl hend⊢
 simp only at hdl hend⊢
 have hlu:u.length≤274877906945:=by rw[hdl.1];simp;omega
 have hfu:List.take u.length (List.drop 0 (pE u))=pE u:=by rw[List.drop_zero,List.take_of_length_le (by simp)]
 have hfo:List.take o.length (List.drop 0 (pE o))=pE o:=by rw[List.drop_zero,List.take_of_length_le (by simp)]
 refine s_r 6 ?_
 refine a_1 ?_
 refine o_1 (.callS1 rfl rfl rfl (.shut rfl d_n (.nil)) rfl ((by rw[hfu];exact cz_ u (by omega)))) ?_
 refine a_1 ?_
 refine o_1 (.callS1 rfl rfl rfl (.shut rfl d_n (.nil)) rfl ((by rw[hfo];exact cz_ o (by rw[hdl.2];omega)))) ?_
 refine a_z ?_
 refine ai_ (Fin.many ⟨_,_,rfl,rfl,⟨_,_,rfl,rfl,rfl⟩⟩ (nle rfl) ?_)
 exact af_ (al_ at_ (ar_ _)) (af_ (al_ at_ (ar_ _)) ap_)
def gcS:List Rat×List Rat→AState
 |(p,q)=>⟨[(0,.arr (pE p)),(1,.arr (pE q))],[],1,21⟩
theorem pI_(p:List Rat)(q:List Rat):gcS (p,q)=⟨[(0,.arr (pE p)),(1,.arr (pE q))],[],1,21⟩:=rfl
theorem degP_neg{l:List Rat}:degP l< 0↔trimQ l=[]:=by
 unfold degP
 constructor
 intro h;exact List.length_eq_zero_iff.1 (by omega)
 intro h;rw[h];decide
theorem fs_Gcd(f:Nat)(p q g:List Rat)(h:gcdM f p q=some g)(hp1:p.length≤274877906944)(hq1:q.length≤274877906944):FSpec Tryz.prog 269 [.arr (pE p),.arr (pE q)] (.arr (pE g)):=by
 refine f_n Tryz.func269 ?_ ?_
 exact aa_ (ar_ p) (aa_ (ar_ q) ab_)
 refine r_z 1 ?_
 refine aS_ (fun p:List Rat=>⟨[(0,.arr (pE p))],[],1,21⟩) (fun p=>smL p∧p.length≤274877906944∧g=bd_ p) ?_ ?_
 refine ah_ (ax_ (fun x:Nat×List Rat×List Rat=>gcS x.2) (fun x=>x.1) (fun x=>gcdM x.1 x.2.1 x.2.2=some g∧x.2.1.length≤274877906944∧x.2.2.length≤274877906944) (f,p,q) ⟨h,hp1,hq1⟩ ?_ ?_)
 simp only[pI_]
 exact s_e []
 rintro⟨f,p,q⟩ ⟨h,hp1,hq1⟩
 simp only at h hp1 hq1
 simp only[pI_]
 cases f with
 |zero=>cases h
 |succ f=>
  rw[gcdM] at h
  refine ac_ (r_c 3 (bz_ q (by omega)) ?_)
  refine a_z ?_
  refine am_ rfl (fun h1=>?_) (fun h1=>?_)
  ·have hq0:trimQ q≠[]:=by
    intro e
    have e2:=degP_neg.2 e
    simp at h1;omega
   rw[if_neg hq0] at h
   split at h
   case isFalse=>cases h
   case isTrue hs=>
   have hl:=f1_ (p:=p) (q:=q)
   have hm:=gg_ (divP p q).2
   refine ag_ (ah_ (r_c 8 (eL_ p q (mxL p) (mxL q) (b7_ p) (b7_ q) (bJ_ p) (bJ_ q) hs.1 hq0 hp1 hq1) ?_))
   refine a_z ?_
   refine r_m 5 ?_
   refine c_s (jR_ (divP p q).2 (mq_ hs hq0).2 (by omega)) ?_
   refine a_z ?_
   refine⟨(f,q,bd_ (divP p q).2),Nat.lt_succ_self f,⟨h,hq1,by simp only;omega⟩,?_⟩
   simp only[pI_]
   exact s_e []
  ·have hq0:trimQ q=[]:=by
    refine degP_neg.1 ?_
    simp at h1;omega
   rw[if_pos hq0] at h
   split at h
   case isFalse=>cases h
   case isTrue hs=>
   cases h
   refine au_ ⟨p,⟨hs,hp1,rfl⟩,?_⟩
   exact s_e []
 rintro p ⟨hs,hp1,rfl⟩
 refine r_c 3 (jR_ p hs (by omega)) ?_
 refine a_z ?_
 exact ai_ (t_e (ar_ _))

theorem jH_(l:List Rat)(hl:l.length≤281474976710656):GSpec Tryz.prog 268 [bP l] (backP l):=by
 refine GSpec.enter Tryz.func268 rfl (by kernel_rfl) rfl rfl rfl ?_ ?_ rfl ?_
 exact aa_ (bq_ l) ab_
 intro k xs h
 unfold backP at h
 split at h
 cases h;exact aa_ (ad_ _) (aa_ (av_ _) ab_)
 cases h
 intro ll N E
 refine GWp.seq ?_
 refine GWp.lift ?_
 refine r_m 4 ?_
 refine a_z ?_
 refine GWp.block ?_
 refine GWp.loopS (fun m:Nat=>⟨[(0,.v (.func (.yield ll) #[] #[])),(1,bP l),(3,i64 ((m:Int)- 1))],[],1,19⟩) (fun m=>l.length- m) (fun m=>m) (fun m=>m≤l.length) l.length (Nat.le_refl _) (by simp) ?_ ?_
 exact s_e []
 intro m hm
 refine GWp.seq ?_
 refine GWp.seq ?_
 refine GWp.lift ?_
 refine r_m 2 ?_
 refine a_z ?_
 refine GWp.cond rfl (fun h=>?_) (fun h=>?_)
 ·refine GWp.skip ?_
  have hm1:1≤m:=by have:=of_decide_eq_true h;omega
  have hx':(pE l)[((m:Int)- 1).toNat]?=some (qC (coP l (m- 1))):=by rw[show((m:Int)- 1).toNat=m- 1 by omega];exact bC_ (bc_ (by omega))
  refine GWp.seq ?_
  refine GWp.block ?_
  refine GWp.seq ?_
  refine GWp.regY (fr2:=[(0,.v (.func (.yield ll) #[] #[])),(1,bP l),(3,i64 ((m:Int)- 1)),(11,.v (.func (.yield ll) #[] #[])),(12,i64 ((m:Int)- 1)),(16,.agg (qC (coP l (m- 1))))]) (hp2:=[]) (nx2:=1) 6 rfl rfl rfl rfl rfl rfl ?_ rfl rfl rfl ?_ ?_ ?_
  refine o_0 (.move rfl) ?_
  refine o_0 (.move rfl) ?_
  first|refine aB_ (.load_l1 rfl rfl rfl tg_55.h rfl) rfl rfl ?_|refine aB_ (.load_a1 rfl rfl tg_55.h rfl) rfl rfl ?_
  refine o_0 (.move rfl) ?_
  refine i_x hx' ?_
  refine l_x hx' ?_
  refine an_ ?_
  refine SEntT.to [] rfl rfl rfl au_r (fun hs=>au_f) (fun hs=>au_h)
  rotate_left 2
  intro go
  refine o_0 (.un rfl iI_) ?_
  refine an_ ?_
  rotate_left
  unfold backP
  rw[if_pos (by omega)]
  have e1:((l.length- 1- (l.length- m):Nat):Int)=(m:Int)- 1:=by omega
  have e2:l.length- 1- (l.length- m)=m- 1:=by omega
  rw[e1,e2]
  rfl
  exact aa_ (ad_ _) (aa_ (av_ _) ab_)
  cases go with
  |false=>
   refine GWp.cond rfl (fun h=>?_) (fun h=>?_)
   exact GWp.ret ⟨.inr rfl,fun h=>by cases h⟩
   cases h
  |true=>
   refine GWp.cond rfl (fun h=>?_) (fun h=>?_)
   cases h
   refine GWp.skip ?_
   refine GWp.lift ?_
   refine r_m 3 ?_
   refine a_z ?_
   refine⟨rfl,m- 1,by omega,by omega,by omega,?_⟩
   exact s_e []
 refine GWp.exit ⟨.inl rfl,fun _=>?_⟩
 have:m=0:=by have:=of_decide_eq_false h;omega
 subst this
 unfold backP
 rw[if_neg (by omega)]
theorem j1_(l:List Rat):FSpec Tryz.prog 220 [.arr (pE l)] (.clos 268 [] [bP l]):=by
 refine f_n Tryz.func220 ?_ ?_
 exact aa_ (ar_ l) ab_
 refine r_z 2 ?_
 refine r_z 2 ?_
 refine ai_ (⟨.inr rfl,[_],⟨_,[],rfl,rfl,rfl⟩,?_⟩)
 exact Cv.clos ap_ (af_ (Cv.boxp at_ rfl (fun _ _ h=>by cases h) rfl (aa_ (ar_ l) ab_)) ap_)
def hoS(p:List Rat)(g:Nat)(cap:List AV)(w:Nat→Rat):Nat→AState
 |k=>⟨[(4,.lptr 1 0 0),(5,.aptr [[.clos g [] cap]] 0 0),(6,.lptr 2 0 0),(10,.clos 268 [] [bP p])],[(1,some ⟨35,3,[qC (w k)]⟩),(2,some ⟨35,3,[zC]⟩)],3,18⟩
theorem hoS_mk(p:List Rat)(g:Nat)(cap:List AV)(w:Nat→Rat)(k:Nat):hoS p g cap w k=⟨[(4,.lptr 1 0 0),(5,.aptr [[.clos g [] cap]] 0 0),(6,.lptr 2 0 0),(10,.clos 268 [] [bP p])],[(1,some ⟨35,3,[qC (w k)]⟩),(2,some ⟨35,3,[zC]⟩)],3,18⟩:=rfl
theorem og_(p:List Rat)(g:Nat)(cap:List AV)(w:Nat→Rat)(hl:p.length≤281474976710656)(hcap:∀c∈cap,Closed c)(hg:∀k,k< p.length→FSpec Tryz.prog g ((.agg (qC (w k)):: .agg (qC (coP p (p.length- 1- k)))::cap).map coe) (.agg (qC (w (k+1))))):FSpec Tryz.prog 145 [.arr (pE p),.agg (qC (w 0)),.clos g [] cap] (.agg (qC (w p.length))):=by
 have hb:=j1_ p
 have hgs:=jH_ p hl
 have hcc:Closed (.clos g [] cap):=aR_ ab_ hcap
 have hcc2:Closed (.aptr [[.clos g [] cap]] 0 0):=aj_ (aa_ hcc ab_)
 have hcl2:Closed (.clos 268 [] [bP p]):=aR_ ab_ (aa_ (bq_ p) ab_)
 refine f_n Tryz.func145 ?_ ?_
 exact aa_ (ar_ p) (aa_ (av_ _) (aa_ hcc ab_))
 refine r_z 3 ?_
 refine AWp.ent (st':=⟨[(0,.arr (pE p)),(4,.lptr 1 0 0),(5,.aptr [[.clos g [] cap]] 0 0),(6,.lptr 2 0 0)],[(1,some ⟨35,3,[qC (w 0)]⟩),(2,some ⟨35,3,[zC]⟩)],3,18⟩) ?_ ?_
 have:=aa_ hcc ab_
 exact s_f [(1,4),(2,6)]
 refine ac_ (r_c 2 (hb) ?_)
 refine an_ ?_
 refine aD_ (fun _:Unit=>⟨[(4,.lptr 1 0 0),(6,.lptr 2 0 0)],[(1,some ⟨35,3,[qC (w p.length)]⟩),(2,some ⟨35,3,[zC]⟩)],3,18⟩) (fun _=>True) ?_ ?_
 refine ah_ (AWp.rangeFunc (α:=Nat) (γ:=Empty) p.length (hoS p g cap w) (fun k=>k) (fun k=>k≤p.length) (fun e=>nomatch e) (fun _ e=>nomatch e) 0 rfl hgs rfl rfl ?_ (fun _=>⟨rfl,rfl⟩) (fun e=>nomatch e) (Nat.zero_le _) rfl (fun _ h=>h) ?_ ?_ ?_ ?_ (fun _ e=>nomatch e))
 intro k xs hT
 unfold backP at hT
 split at hT
 cases hT;rfl
 cases hT
 rw[hoS_mk]
 refine SEntT.to [] rfl rfl rfl au_r (fun hs=>au_f) (fun hs=>au_h)
 exact aa_ (bq_ p) ab_
 ·intro l k xs hk hT
  unfold backP at hT
  split at hT
  rotate_left
  cases hT
  rename_i hlt
  cases hT
  show AWp _ _ _ _ ⟨[(12,.agg (qC (coP p (p.length- 1- k)))),(11,i64 (p.length- 1- k:Nat)),(4,.lptr 1 0 0),(5,.aptr [[.clos g [] cap]] 0 0),(6,.lptr 2 0 0),(10,.clos 268 [] [bP p]),(1004,.lptr 1 0 0),(1005,.aptr [[.clos g [] cap]] 0 0),(1006,.lptr 2 0 0),(1010,.clos 268 [] [bP p])],[(1,some ⟨35,3,[qC (w k)]⟩),(2,some ⟨35,3,[zC]⟩)],3,18⟩
  refine r_m 2 ?_
  refine a_z ?_
  refine ah_ (r_m 5 ?_)
  refine c_s (hg k hlt) ?_
  refine a_z ?_
  refine⟨k+1,⟨hlt,rfl⟩,?_⟩
  show SEntT _ ⟨[(1004,.lptr 1 0 0),(1005,.aptr [[.clos g [] cap]] 0 0),(1006,.lptr 2 0 0),(1010,.clos 268 [] [bP p])],[(1,some ⟨35,3,[qC (w (k+1))]⟩),(2,some ⟨35,3,[zC]⟩)],3,18⟩
  refine SEntT.to [] rfl rfl rfl au_r (fun hs=>au_f) (fun hs=>au_h)
 intro k hk hT
 unfold backP at hT
 split at hT
 cases hT
 refine⟨(),trivial,?_⟩
 rw[hoS_mk]
 have h1:k=p.length:=by omega
 subst h1
 exact s_e []
 rintro _ _
 refine r_z 2 ?_
 exact ai_ (c_e (av_ _))
theorem fs_Eval1(v c x:Rat)(h1:qs v+qs x≤549755813888)(h2:qs (v* x)+qs c≤549755813888):FSpec Tryz.prog 146 [.agg (qC v),.agg (qC c),bQ x] (.agg (qC (v* x+c))):=by
 refine f_n Tryz.func146 ?_ ?_
 exact aa_ (av_ v) (aa_ (av_ c) (aa_ (cl_ x) ab_))
 refine r_z 3 ?_
 refine ac_ (r_d hmix 6 ?_)
 refine c_s (cW_ v x h1) ?_
 refine c_s (fm_ (v* x) c h2) ?_
 refine a_1 ?_
 refine an_ (n_k ?_)
 exact ai_ (c_e (av_ _))
theorem j0_(p:List Rat)(x:Rat)(h:dy_ p x):FSpec Tryz.prog 54 [.arr (pE p),.agg (qC x)] (.agg (qC (evalP p x))):=by
 have hw:∀k,k< p.length→FSpec Tryz.prog 146 [.agg (qC (evalP (p.drop (p.length- k)) x)),.agg (qC (coP p (p.length- 1- k))),bQ x] (.agg (qC (evalP (p.drop (p.length- (k+1))) x))):=fun k hk=>by
  have:=oo_ h k hk
  rw[qs_ hk]
  exact fs_Eval1 _ _ _ this.1 this.2
 have hh:=og_ p 146 [bQ x] (fun k=>evalP (p.drop (p.length- k)) x) (by have:=h.2;omega) (aa_ (cl_ x) ab_) hw
 simp only[Nat.sub_zero,Nat.sub_self,List.drop_zero,List.drop_length] at hh
 rw[show evalP [] x=0 from rfl,qC0] at hh
 refine f_n Tryz.func54 ?_ ?_
 exact aa_ (ar_ p) (aa_ (av_ x) ab_)
 refine r_z 2 ?_
 refine AWp.ent (st':=⟨[(0,.arr (pE p)),(3,bQ x),(4,.lptr 1 0 0)],[(1,some ⟨35,3,[zC]⟩)],2,9⟩) ?_ ?_
 exact s_e [(1,4)]
 refine r_c 5 (hh) ?_
 refine a_z ?_
 exact ai_ (c_e (av_ _))
abbrev bS(s:Sp):AV:= .aptr [spC s.1 s.2] 0 0
theorem eW_(s:Sp):Closed (bS s):=aj_ (gp_ _ _)

end Go.Proofs.YtdjfjpeoddmamaaGreatDoor
