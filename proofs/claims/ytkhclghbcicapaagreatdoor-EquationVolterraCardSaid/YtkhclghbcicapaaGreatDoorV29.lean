/- Part V29 of the proof. -/
import Derived.Test.YtkhclghbcicapaaGreatDoorV28
import Derived.ProofKit
import Derived.OpenShut
import Derived.Carry
import Derived.Deep.Slices
import Derived.Deep.Strs
import Derived.Shelf.Strconv.Itoa3
import Derived.Shelf.Strings.Repeat
set_option linter.all false
namespace Go.Proofs.YtkhclghbcicapaaGreatDoor
open Go.Abs
set_option maxRecDepth 100000
set_option maxHeartbeats 4000000
section
variable {P:Go.Program}{T:Nat}{x y:Operand}
theorem Ck{l m:List UInt8}:∀w,(do eqGuard .neq T x y (.string ⟨l.toArray⟩) (.string ⟨m.toArray⟩);binOp .neq T (.string ⟨l.toArray⟩) (.string ⟨m.toArray⟩):Sem Value).run P w= .ok (.bool (!decide (l=m))) w:=fun w=>by
 rw[Cj];congr 2
 have e:∀l:List UInt8,(⟨l.toArray⟩:ByteArray).toList=l:=by
  intro l;have:=ByteArray.toList_eq (bs:=⟨l.toArray⟩);simpa using this
 rw[e,e];rw[Bool.eq_iff_iff];simp
end
def lK(o:Option (List UInt8))(c:Rat):Option (List UInt8):=
 match o with
 |none=>if c< 0 then some [45] else none
 |some s=>if c< 0 then some (s++[32,45,32]) else some (s++[32,43,32])
def wrO(o:Option (List UInt8))(t:List UInt8):Option (List UInt8):=some (o.getD []++t)
def lx(o:Option (List UInt8))(t:List UInt8):Option (List UInt8):=if t=[49] then o else wrO o (t++[32])
def pS(tq:Rat→List UInt8)(ti:Nat→List UInt8)(o:Option (List UInt8))(c:Rat)(n:Nat):Option (List UInt8):=
 if n=0 then wrO (lK o c) (tq (eN c))
 else if 1< n then wrO (wrO (lx (lK o c) (tq (eN c))) [120]) ([94]++ti n) else wrO (lx (lK o c) (tq (eN c))) [120]
def ua(tq:Rat→List UInt8)(ti:Nat→List UInt8)(p:List Rat):Nat→Option (List UInt8)→Option (List UInt8)
 |0,o=>o
 |n+1,o=>ua tq ti p n (if coP p n=0 then o else pS tq ti o (coP p n) n)
def Ew(tq:Rat→List UInt8)(ti:Nat→List UInt8)(p:List Rat):List UInt8:=(ua tq ti (aj p) (aj p).length none).getD [48]
def Eu(p:List Rat):List UInt8:=Ew nh ka p
def HW(p:List Rat):Prop:=p.length≤1000∧(aj p).length≤99∧(∀c∈aj p,okT c)
instance (p:List Rat):Decidable (HW p):=inferInstanceAs (Decidable (_∧_∧_))
def pb0(p:List Rat):Int→AState
 |n=>⟨[(0,.arr (pE p)),(3,.lptr 1 0 0),(4,i64 n)],[(1,some ⟨162,2,[fh 1 2 none]⟩)],4,67⟩
def pb1(p:List Rat):Int×List UInt8→AState
 |(n,s)=>⟨[(0,.arr (pE p)),(3,.lptr 1 0 0),(4,i64 n)],[(1,some ⟨162,2,[fh 1 2 (some s)]⟩),(2,some ⟨5,1,bE s⟩)],4,67⟩
def pbS(p:List Rat)(n:Int):Option (List UInt8)→AState
 |none=>pb0 p n
 |some s=>pb1 p (n,s)
def pc0(p:List Rat)(c:Rat):Int→AState
 |n=>⟨[(0,.arr (pE p)),(3,.lptr 1 0 0),(4,i64 n),(5,.lptr 3 0 0)],[(1,some ⟨162,2,[fh 1 2 none]⟩),(3,some ⟨34,3,[qC c]⟩)],4,67⟩
def pc1(p:List Rat)(c:Rat):Int×List UInt8→AState
 |(n,s)=>⟨[(0,.arr (pE p)),(3,.lptr 1 0 0),(4,i64 n),(5,.lptr 3 0 0)],[(1,some ⟨162,2,[fh 1 2 (some s)]⟩),(2,some ⟨5,1,bE s⟩),(3,some ⟨34,3,[qC c]⟩)],4,67⟩
def pcS(p:List Rat)(c:Rat)(n:Int):Option (List UInt8)→AState
 |none=>pc0 p c n
 |some s=>pc1 p c (n,s)
def pd0(p:List Rat)(t:List UInt8):Int→AState
 |n=>⟨[(0,.arr (pE p)),(3,.lptr 1 0 0),(4,i64 n),(6,tx t)],[(1,some ⟨162,2,[fh 1 2 none]⟩)],4,67⟩
def pd1(p:List Rat)(t:List UInt8):Int×List UInt8→AState
 |(n,s)=>⟨[(0,.arr (pE p)),(3,.lptr 1 0 0),(4,i64 n),(6,tx t)],[(1,some ⟨162,2,[fh 1 2 (some s)]⟩),(2,some ⟨5,1,bE s⟩)],4,67⟩
def pdS(p:List Rat)(t:List UInt8)(n:Int):Option (List UInt8)→AState
 |none=>pd0 p t n
 |some s=>pd1 p t (n,s)
def ux(o:Option (List UInt8))(n:Nat):Prop:=∀s,o=some s→s≠[]∧s.length≤n
theorem v7(n:Nat):ux none n:=fun s h=>by cases h
theorem s9{o:Option (List UInt8)}{n:Nat}{t:List UInt8}(h:ux o n)(h0:t≠[]):ux (wrO o t) (n+t.length):=by
 intro s hs;cases hs;cases o with
 |none=>exact⟨by simpa using h0,by simp⟩
 |some q=>exact⟨by simp[h0],by have:=(h q rfl).2;simp;omega⟩
theorem Bi{o:Option (List UInt8)}{n:Nat}(h:ux o n)(c:Rat):ux (lK o c) (n+3):=by
 intro s hs;cases o with
 |none=>
  simp only[lK] at hs;split at hs;cases hs;exact⟨by simp,by simp⟩;cases hs
 |some q=>
  have:=(h q rfl).2;simp only[lK] at hs;split at hs <;> cases hs <;> exact⟨by simp,by simp;omega⟩
theorem iO{o:Option (List UInt8)}{n m:Nat}(h:ux o n)(hm:n≤m):ux o m:=fun s hs=>⟨(h s hs).1,Nat.le_trans (h s hs).2 hm⟩
theorem G8(q:Rat):nh q≠[]:=List.length_pos_iff.1 (textQ_len (q:=q)).2
theorem sgZ_neg(c:Rat):sgZ c.num< 0↔c< 0:=by
 rw[←rj];unfold sgZ;split;omega;split <;> omega
theorem okT_abs{c:Rat}(h:okT c):okT (eN c):=by
 rw[nf];split;obtain⟨h1,a⟩:=h;exact⟨by rw[Rat.neg_num];simpa using h1,by rw[Rat.neg_den];exact a⟩;exact h
theorem Gv(tq:Rat→List UInt8)(ti:Nat→List UInt8)(L:Nat)(p:List Rat)(h1:p.length≤1000)(hL:L≤10000)(h3:∀c∈aj p,FS 38 [.agg (qC (eN c))] (tx (tq (eN c)))∧tq (eN c)≠[]∧(tq (eN c)).length≤L)(hI:∀n,n< (aj p).length→FS 97 [i64 n] (tx (ti n))∧(ti n).length≤20):FS 37 [.arr (pE p)] (tx (Ew tq ti p)):=by
 have H:=eC p (by omega);obtain⟨q,V⟩:∃q,q=aj p:=⟨_,rfl⟩;have X:Ew tq ti p=(ua tq ti q q.length none).getD [48]:=by unfold Ew;rw[V]
 rw[X];have h2:=bO p;rw[←V] at H h2 h3 hI;have A:∀k,(q.length- k) * (L+30)≤10030000:=fun k=>Nat.mul_le_mul (show q.length- k≤1000 by omega) (show L+30≤10030 by omega);refine f_c Tryz.func37 ?_;refine r_z 1 ?_;refine r_z 1 ?_;refine r_c 3 (H) ?_;refine a_z ?_;refine ae (r_z 4 ?_);refine aH (pbS q (-1)) (fun o=>o=ua tq ti q q.length none∧ux o 20000000) ?_ ?_;refine am (aD (fun x:Nat×Option (List UInt8)=>pbS q ((x.1:Int)- 1) x.2) (fun x=>x.1) (fun x=>x.1≤q.length∧ua tq ti q x.1 x.2=ua tq ti q q.length none∧ux x.2 ((q.length- x.1) * (L+30))) (q.length,none) ⟨Nat.le_refl _,rfl,v7 _⟩ ?_ ?_);show SEnt _ (pb0 q ((q.length:Int)- 1));rw[pb0.eq_1];exact s_e [(1,3)];rintro⟨n,o⟩ ⟨hn,C,u⟩;simp only at hn C u;cases n with
 |zero=>
  cases o with
  |none=>
   show AWp _ _ _ _ (pb0 q (((0:Nat):Int)- 1));rw[pb0.eq_1];refine ae (r_z 2 ?_);refine aq rfl (fun a=>?_) (fun a=>?_);exact absurd a (by simp);refine aA ⟨none,⟨C,v7 _⟩,?_⟩;show SEnt _ (pb0 q (-1));rw[pb0.eq_1];exact s_e []
  |some s=>
   show AWp _ _ _ _ (pb1 q (((0:Nat):Int)- 1,s));rw[pb1.eq_1];refine ae (r_z 2 ?_);refine aq rfl (fun a=>?_) (fun a=>?_);exact absurd a (by simp);refine aA ⟨some s,⟨C,iO u (by have:=A 0;omega)⟩,?_⟩;show SEnt _ (pb1 q (-1,s));rw[pb1.eq_1];exact s_e []
 |succ n=>
  have R:((n+1:Nat):Int)- 1=(n:Int):=by omega
  rw[R];rw[ua] at C;have D:n< q.length:=by omega
  obtain⟨c,hc⟩:∃c,c=coP q n:=⟨_,rfl⟩;rw[←hc] at C;have hg:(pE q)[((n:Nat):Int).toNat]?=some (qC c):=by rw[Int.toNat_natCast,hc];exact pE_get (cK D)
  obtain⟨O,E,S⟩:=h3 c (by rw[hc];exact List.mem_of_getElem? (cK D))
  have U:(q.length- n) * (L+30)=(q.length- (n+1)) * (L+30)+(L+30):=by
   rw[show q.length- n=(q.length- (n+1))+1 by omega,Nat.add_mul,Nat.one_mul]
  obtain⟨B,hB⟩:∃B,B=(q.length- (n+1)) * (L+30):=⟨_,rfl⟩;have hmx:B≤10030000:=by rw[hB];exact A _
  rw[←hB] at u U;obtain⟨t,ht⟩:∃t,t=tq (eN c):=⟨_,rfl⟩;rw[←ht] at E S O;obtain⟨W,hd2⟩:=hI n D;refine bD (fun _:Unit=>pbS q n o) (fun _=>True) ?_ ?_;cases o with
  |none=>
   show AWp _ _ _ _ (pb0 q n);rw[pb0.eq_1];refine r_z 2 ?_;refine aq rfl (fun a=>?_) (fun a=>?_);refine an ⟨(),trivial,?_⟩;show SEnt _ (pb0 q n);rw[pb0.eq_1];exact s_e [];exact absurd a (by simp)
  |some s=>
   show AWp _ _ _ _ (pb1 q (n,s));rw[pb1.eq_1];refine r_z 2 ?_;refine aq rfl (fun a=>?_) (fun a=>?_);refine an ⟨(),trivial,?_⟩;show SEnt _ (pb1 q (n,s));rw[pb1.eq_1];exact s_e [];exact absurd a (by simp)
  rintro _ _;refine bD (pbS q n) (fun z=>z=(if c=0 then o else pS tq ti o c n)) ?_ ?_;refine am (bD (fun _:Unit=>pcS q c n o) (fun _=>True) ?_ ?_);cases o with
  |none=>
   show AWp _ _ _ _ (pb0 q n);rw[pb0.eq_1];refine r_m 6 ?_;refine a_2 ?_;refine i_x hg ?_;refine l_x hg ?_;refine a_z ?_;refine⟨(),trivial,?_⟩;show SEnt _ (pc0 q c n);rw[pc0.eq_1];exact s_x [(3,5)] (fun hs=>eA) (fun hs=>e_8)
  |some s=>
   show AWp _ _ _ _ (pb1 q (n,s));rw[pb1.eq_1];refine r_m 6 ?_;refine a_2 ?_;refine i_x hg ?_;refine l_x hg ?_;refine a_z ?_;refine⟨(),trivial,?_⟩;show SEnt _ (pc1 q c (n,s));rw[pc1.eq_1];exact s_x [(3,5)] (fun hs=>eA) (fun hs=>e_8)
  rintro _ _;refine bD (fun _:Unit=>pcS q c n o) (fun _=>c≠0) ?_ ?_;cases o with
  |none=>
   show AWp _ _ _ _ (pc0 q c n);rw[pc0.eq_1];refine r_c 3 (cx c) ?_;refine a_z ?_;refine aq rfl (fun a=>?_) (fun a=>?_);have b:c=0:=sgZ_num_eq.1 (by simpa using a);refine aA ⟨none,by rw[if_pos b],?_⟩;show SEnt _ (pb0 q n);rw[pb0.eq_1];exact s_e [];have b:c≠0:=fun e=>by have v:=sgZ_num_eq.2 e;simp[v] at a
   refine an ⟨(),b,?_⟩;show SEnt _ (pc0 q c n);rw[pc0.eq_1];exact s_e []
  |some s=>
   show AWp _ _ _ _ (pc1 q c (n,s));rw[pc1.eq_1];refine r_c 3 (cx c) ?_;refine a_z ?_;refine aq rfl (fun a=>?_) (fun a=>?_);have b:c=0:=sgZ_num_eq.1 (by simpa using a);refine aA ⟨some s,by rw[if_pos b],?_⟩;show SEnt _ (pb1 q (n,s));rw[pb1.eq_1];exact s_e [];have b:c≠0:=fun e=>by have v:=sgZ_num_eq.2 e;simp[v] at a
   refine an ⟨(),b,?_⟩;show SEnt _ (pc1 q c (n,s));rw[pc1.eq_1];exact s_e []
  rintro _ T;rw[if_neg T];have w:(sgZ c.num< 0)↔c< 0:=sgZ_neg c;refine bD (pcS q c n) (fun z=>z=lK o c) ?_ ?_;refine am ?_;cases o with
  |none=>
   show AWp _ _ _ _ (pc0 q c n);rw[pc0.eq_1];refine s_r 8 ?_;refine o_0 (.callR (s:=none) (j:=0) (tb:=0) rfl rfl rfl rfl rfl (fun _ h=>by cases h) (uW)) ?_;refine a_2 ?_;refine y_g rfl d_t (.load_l rfl rfl rfl TG.h TS.h (nle rfl)) ?_;refine y_g rfl d_t (.call rfl rfl rfl (cx c)) ?_;refine y_g rfl d_t (.bin rfl rfl fH) ?_;refine o_0 (.pickT rfl d_t rfl) ?_;refine a_z ?_;refine aq rfl (fun a=>?_) (fun a=>?_);have b:c< 0:=w.1 (by simpa using a);refine r_m 1 ?_;refine o_2 (.callB (s:=none) (j:=0) rfl rfl rfl rfl rfl rfl (fun _ h=>by cases h) (mq [45] (by simp) (by simp))) ?_;refine au ?_;refine⟨some [45],by simp only[lK];rw[if_pos b],?_⟩;show SEnt _ (pc1 q c (n,[45]));rw[pc1.eq_1];exact s_z [(2,100012)] (fun hs=>eA) (fun hs=>e_8);have b:¬c< 0:=fun e=>by have v:=w.2 e;simp[v] at a
   refine s_r 8 ?_;refine o_0 (.callR (s:=none) (j:=0) (tb:=0) rfl rfl rfl rfl rfl (fun _ h=>by cases h) (uW)) ?_;refine a_2 ?_;refine n_g rfl d_f ?_;refine n_g rfl d_f ?_;refine n_g rfl d_f ?_;refine o_0 (.pickF rfl d_f rfl) ?_;refine a_z ?_;refine cF (s_r 3 ?_);refine o_0 (.callR (s:=none) (j:=0) (tb:=0) rfl rfl rfl rfl rfl (fun _ h=>by cases h) (uW)) ?_;refine a_z ?_;refine aq rfl (fun r=>?_) (fun r=>?_);exact absurd r (by simp);refine an ⟨none,by simp only[lK];rw[if_neg b],?_⟩;show SEnt _ (pc0 q c n);rw[pc0.eq_1];exact s_e []
  |some s=>
   have F:=(u s rfl).1;have i:=(u s rfl).2;have Y:s.length≠0:=by simpa using F
   show AWp _ _ _ _ (pc1 q c (n,s));rw[pc1.eq_1];refine s_r 8 ?_;refine o_0 (.callR (s:=some _) rfl rfl rfl rfl rfl (fun _ h=>by cases h;exact rfl) (uV s)) ?_;refine a_2 ?_;refine n_g rfl (by simp;omega) ?_;refine n_g rfl (by simp;omega) ?_;refine n_g rfl (by simp;omega) ?_;refine o_0 (.pickF rfl (by simp;omega) rfl) ?_;refine a_z ?_;refine aq rfl (fun a=>?_) (fun a=>?_)
   ·first|(simp at a;done)|(simp at a;omega)|(simp at a;exact absurd a F)
   refine s_r 8 ?_;refine o_0 (.callR (s:=some _) rfl rfl rfl rfl rfl (fun _ h=>by cases h;exact rfl) (uV s)) ?_;refine a_2 ?_;refine y_g rfl (by simp;omega) (.load_l rfl rfl rfl TG.h TS.h (nle rfl)) ?_;refine y_g rfl (by simp;omega) (.call rfl rfl rfl (cx c)) ?_;refine y_g rfl (by simp;omega) (.bin rfl rfl fH) ?_;refine o_0 (.pickT rfl (by simp;omega) rfl) ?_;refine a_z ?_;refine aq rfl (fun v=>?_) (fun v=>?_);have b:c< 0:=w.1 (by simpa using v);refine r_m 1 ?_;refine o_3 (.callB (s:=some _) rfl rfl rfl rfl rfl rfl (fun _ h=>by cases h;exact⟨rfl,by decide⟩) (kx s [32,45,32] (by simp;omega))) ?_;refine au ?_;refine⟨some (s++[32,45,32]),by simp only[lK];rw[if_pos b],?_⟩;show SEnt _ (pc1 q c (n,s++[32,45,32]));rw[pc1.eq_1];exact s_z [(2,100020)] (fun hs=>eA) (fun hs=>e_8);have b:¬c< 0:=fun e=>by have r:=w.2 e;simp[r] at v
   refine s_r 3 ?_;refine o_0 (.callR (s:=some _) rfl rfl rfl rfl rfl (fun _ h=>by cases h;exact rfl) (uV s)) ?_;refine a_z ?_;refine aq rfl (fun r=>?_) (fun r=>?_);refine r_m 1 ?_;refine o_3 (.callB (s:=some _) rfl rfl rfl rfl rfl rfl (fun _ h=>by cases h;exact⟨rfl,by decide⟩) (kx s [32,43,32] (by simp;omega))) ?_;refine au ?_;refine⟨some (s++[32,43,32]),by simp only[lK];rw[if_neg b],?_⟩;show SEnt _ (pc1 q c (n,s++[32,43,32]));rw[pc1.eq_1];exact s_z [(2,100023)] (fun hs=>eA) (fun hs=>e_8)
   ·first|(simp at r;done)|(simp at r;omega)|(simp at r;exact absurd r F)
  rintro o1 rfl;have g:=Bi u c;obtain⟨o1,d⟩:∃o1,o1=lK o c:=⟨_,rfl⟩;rw[←d] at g⊢;refine bD (fun _:Unit=>pdS q t n o1) (fun _=>True) ?_ ?_;cases o1 with
  |none=>
   show AWp _ _ _ _ (pc0 q c n);rw[pc0.eq_1];refine r_m 4 ?_;refine c_s (qi c) ?_;refine c_s (O) ?_;refine a_z ?_;refine⟨(),trivial,?_⟩;show SEnt _ (pd0 q t n);rw[pd0.eq_1];exact s_e []
  |some s=>
   show AWp _ _ _ _ (pc1 q c (n,s));rw[pc1.eq_1];refine r_m 4 ?_;refine c_s (qi c) ?_;refine c_s (O) ?_;refine a_z ?_;refine⟨(),trivial,?_⟩;show SEnt _ (pd1 q t (n,s));rw[pd1.eq_1];exact s_e []
  rintro _ _;refine bD (fun _:Unit=>pdS q t n o1) (fun _=>n≠0) ?_ ?_;cases o1 with
  |none=>
   show AWp _ _ _ _ (pd0 q t n);rw[pd0.eq_1];refine r_z 2 ?_;refine aq rfl (fun a=>?_) (fun a=>?_);have b:n=0:=by simpa using a
   subst b;refine s_r 2 ?_;refine a_1 ?_;refine o_2 (.callB (s:=none) (j:=0) rfl rfl rfl rfl rfl rfl (fun _ h=>by cases h) (mq t E (by omega))) ?_;refine au ?_;refine aA ⟨some t,by unfold pS;rw[if_pos rfl,←d,←ht];rfl,?_⟩;show SEnt _ (pb1 q (((0:Nat):Int),t));rw[pb1.eq_1];exact s_z [(2,100007)] (fun hs=>eA) (fun hs=>kX);have b:n≠0:=fun e=>by simp[e] at a
   refine an ⟨(),b,?_⟩;show SEnt _ (pd0 q t n);rw[pd0.eq_1];exact s_e []
  |some s=>
   have i:=(g s rfl).2;show AWp _ _ _ _ (pd1 q t (n,s));rw[pd1.eq_1];refine r_z 2 ?_;refine aq rfl (fun a=>?_) (fun a=>?_);have b:n=0:=by simpa using a
   subst b;refine s_r 2 ?_;refine a_1 ?_;refine o_3 (.callB (s:=some _) rfl rfl rfl rfl rfl rfl (fun _ h=>by cases h;exact⟨rfl,by decide⟩) (kx s t (by omega))) ?_;refine au ?_;refine aA ⟨some (s++t),by unfold pS;rw[if_pos rfl,←d,←ht];rfl,?_⟩;show SEnt _ (pb1 q (((0:Nat):Int),s++t));rw[pb1.eq_1];exact s_z [(2,100007)] (fun hs=>eA) (fun hs=>kX);have b:n≠0:=fun e=>by simp[e] at a
   refine an ⟨(),b,?_⟩;show SEnt _ (pd1 q t (n,s));rw[pd1.eq_1];exact s_e []
  rintro _ M;refine bD (pbS q n) (fun z=>z=lx o1 t) ?_ ?_;cases o1 with
  |none=>
   show AWp _ _ _ _ (pd0 q t n);rw[pd0.eq_1];refine s_r 2 ?_;refine a_1 ?_;refine o_0 (.bin rfl rfl (Ck (m:=[49]))) ?_;refine au ?_;refine aq rfl (fun a=>?_) (fun a=>?_);have b:¬t=[49]:=by simpa using a
   refine r_m 3 ?_;refine a_1 ?_;refine o_0 (.bin rfl rfl (mu (m:=[32]) (by simp;omega))) ?_;refine o_2 (.callB (s:=none) (j:=0) rfl rfl rfl rfl rfl rfl (fun _ h=>by cases h) (mq (t++[32]) (by simp) (by simp;omega))) ?_;refine au ?_;refine⟨some (t++[32]),by unfold lx;rw[if_neg b];rfl,?_⟩;show SEnt _ (pb1 q (n,t++[32]));rw[pb1.eq_1];exact s_z [(2,100008)] (fun hs=>eA) (fun hs=>kX);have b:t=[49]:=by simpa using a
   refine an ⟨none,by unfold lx;rw[if_pos b],?_⟩;show SEnt _ (pb0 q n);rw[pb0.eq_1];exact s_e []
  |some s=>
   have i:=(g s rfl).2;show AWp _ _ _ _ (pd1 q t (n,s));rw[pd1.eq_1];refine s_r 2 ?_;refine a_1 ?_;refine o_0 (.bin rfl rfl (Ck (m:=[49]))) ?_;refine au ?_;refine aq rfl (fun a=>?_) (fun a=>?_);have b:¬t=[49]:=by simpa using a
   refine r_m 3 ?_;refine a_1 ?_;refine o_0 (.bin rfl rfl (mu (m:=[32]) (by simp;omega))) ?_;refine o_3 (.callB (s:=some _) rfl rfl rfl rfl rfl rfl (fun _ h=>by cases h;exact⟨rfl,by decide⟩) (kx s (t++[32]) (by simp;omega))) ?_;refine au ?_;refine⟨some (s++(t++[32])),by unfold lx;rw[if_neg b];rfl,?_⟩;show SEnt _ (pb1 q (n,s++(t++[32])));rw[pb1.eq_1];exact s_z [(2,100008)] (fun hs=>eA) (fun hs=>kX);have b:t=[49]:=by simpa using a
   refine an ⟨some s,by unfold lx;rw[if_pos b],?_⟩;show SEnt _ (pb1 q (n,s));rw[pb1.eq_1];exact s_e []
  rintro o2 f
  have y:ux o2 (B+L+4):=by
   rw[f];unfold lx;split;exact iO g (by omega);exact iO (s9 g (t:=t++[32]) (by simp)) (by simp;omega)
  refine bD (fun s=>pb1 q (n,s)) (fun s=>wrO o2 [120]=some s) ?_ ?_;cases o2 with
  |none=>
   show AWp _ _ _ _ (pb0 q n);rw[pb0.eq_1];refine r_m 1 ?_;refine o_2 (.callB (s:=none) (j:=0) rfl rfl rfl rfl rfl rfl (fun _ h=>by cases h) (mq [120] (by simp) (by simp))) ?_;refine au ?_;refine⟨[120],rfl,?_⟩;simp only[pb1.eq_1];exact s_z [(2,100004)] (fun hs=>eA) (fun hs=>kX)
  |some s=>
   have i:=(y s rfl).2;show AWp _ _ _ _ (pb1 q (n,s));rw[pb1.eq_1];refine r_m 1 ?_;refine o_3 (.callB (s:=some _) rfl rfl rfl rfl rfl rfl (fun _ h=>by cases h;exact⟨rfl,by decide⟩) (kx s [120] (by simp;omega))) ?_;refine au ?_;refine⟨s++[120],rfl,?_⟩;simp only[pb1.eq_1];exact s_z [(2,100004)] (fun hs=>eA) (fun hs=>kX)
  rintro s G;have Q:=s9 y (t:=[120]) (by simp) s G;have i:s.length≤B+L+5:=Q.2;simp only[pb1.eq_1];refine r_z 2 ?_;refine aq rfl (fun a=>?_) (fun a=>?_);have b:1< n:=by simp at a;omega
  refine r_m 4 ?_;refine c_s (W) ?_;refine o_0 (.bin rfl rfl (mu (l:=[94]) (by simp;omega))) ?_;refine o_3 (.callB (s:=some _) rfl rfl rfl rfl rfl rfl (fun _ h=>by cases h;exact⟨rfl,by decide⟩) (kx s ([94]++ti n) (by simp;omega))) ?_;refine au ?_;refine⟨some (s++([94]++ti n)),by unfold pS;rw[if_neg M,if_pos b,←d,←ht,←f,G];rfl,?_⟩;show SEnt _ (pb1 q (n,s++([94]++ti n)));rw[pb1.eq_1];exact s_z [(2,100009)] (fun hs=>eA) (fun hs=>kX);have b:¬1< n:=by simp at a;omega
  refine an ⟨some s,by unfold pS;rw[if_neg M,if_neg b,←d,←ht,←f,G],?_⟩;show SEnt _ (pb1 q (n,s));rw[pb1.eq_1];exact s_e [];rintro z K
  have J:ux z (B+(L+30)):=by
   rw[K];split;exact iO u (by omega);have N:=Bi u c;unfold pS;rw[←ht]
   have g2:ux (lx (lK o c) t) (B+L+4):=by
    unfold lx;split;exact iO N (by omega);exact iO (s9 N (t:=t++[32]) (by simp)) (by simp;omega)
   have g3:=s9 g2 (t:=[120]) (by simp);split;exact iO (s9 N E) (by omega);split;exact iO (s9 g3 (t:=[94]++ti n) (by simp)) (by simp;omega);exact iO g3 (by simp;omega)
  rw[←K] at C;cases z with
  |none=>
   show AWp _ _ _ _ (pb0 q n);rw[pb0.eq_1];refine r_m 3 ?_;refine a_z ?_;refine⟨(n,none),Nat.lt_succ_self n,⟨by simp only;omega,C,v7 _⟩,?_⟩;show SEnt _ (pb0 q ((n:Int)- 1));rw[pb0.eq_1];exact s_e []
  |some s=>
   show AWp _ _ _ _ (pb1 q (n,s));rw[pb1.eq_1];refine r_m 3 ?_;refine a_z ?_;refine⟨(n,some s),Nat.lt_succ_self n,⟨by simp only;omega,C,by simp only;rw[U];exact J⟩,?_⟩;show SEnt _ (pb1 q ((n:Int)- 1,s));rw[pb1.eq_1];exact s_e []
 rintro o ⟨rfl,u⟩;cases y:ua tq ti q q.length none with
 |none=>
  show AWp _ _ _ _ (pb0 q (-1));rw[pb0.eq_1];refine ae (s_r 2 ?_);refine o_0 (.callR (s:=none) (j:=0) (tb:=0) rfl rfl rfl rfl rfl (fun _ h=>by cases h) (uW)) ?_;refine a_z ?_;refine aq rfl (fun a=>?_) (fun a=>?_);refine r_z 1 ?_;exact ak (t_e (ah _));exact absurd a (by simp)
 |some s=>
  have hs:=u s y;have i:s.length≠0:=by have:=hs.1;simpa using this
  have Z:=hs.1;show AWp _ _ _ _ (pb1 q (-1,s));rw[pb1.eq_1];refine ae (s_r 2 ?_);refine o_0 (.callR (s:=some _) rfl rfl rfl rfl rfl (fun _ h=>by cases h;exact rfl) (uV s)) ?_;refine a_z ?_;refine aq rfl (fun a=>?_) (fun a=>?_);exact absurd a (by simp;omega);refine an (s_r 2 ?_);refine o_2 (.callD rfl rfl rfl rfl rfl rfl (by decide) (by first|assumption|simp) (yx)) ?_;refine a_z ?_;exact ak (t_e (ah _))
theorem wx(p:List Rat)(h:HW p):FS 37 [.arr (pE p)] (tx (Eu p)):=by
 obtain⟨h1,b,a⟩:=h;exact Gv nh ka 6 p h1 (by decide) (fun c hc=>⟨ww (eN c) (okT_abs (a c hc)),G8 _,textQ_len.1⟩) (fun n d=>⟨Ff n (by omega),Nat.le_trans (me n) (by decide)⟩)
def okTo(L:Nat)(p t:List Rat)(k:Rat)(n:Nat):Prop:=n< L∧smL p∧smL t∧aF t≠0∧sm k∧smL (aL t k)∧p.length≤274877906944∧t.length≤274877906944
instance (L:Nat) (p t:List Rat) (k:Rat) (n:Nat):Decidable (okTo L p t k n):=inferInstanceAs (Decidable (_∧_∧_∧_∧_∧_∧_∧_))

inductive LeLL:List (List AV)→List (List AV)→Prop
 |nil:LeLL [] []
 |cons {e e' es es'}:LeL e e'→LeLL es es'→LeLL (e::es) (e'::es')
section
variable {P:Go.Program}{T:Nat}{x y:Operand}
end

















section
variable {a b:Rat}(h:a< b){k:Nat}(hk:1≤k∧k≤4)(ha:qs a≤20)(hb:qs b≤20)
include h hk ha hb
end
section
variable {a b a' b':Rat}(h:a< b)(h':a'< b'){k:Nat}(hk:1≤k∧k≤4)(ha:qs a≤20)(hb:qs b≤20)(ha':qs a'≤20)(hb':qs b'≤20)
include h h' hk ha hb ha' hb'
end




abbrev fK:=Int×Int×Nat
def nV(r:fK):Rat:=kW r.1 r.2.1 r.2.2
def nR(l:List fK):List (List AV):=l.map fun r=>nuC r.1 r.2.1 r.2.2
def nL(l:List fK):List Rat:=l.map nV
abbrev rL(l:List Rat):List (List AV):=rE (l.map rq)
def okR(l:List fK):Prop:=∀r∈l,lV r.1∧lV r.2.1∧r.2.2≤255
theorem cU(l:List fK):∀e∈nR l,∀c∈e,Closed c:=by
 intro e a c hc;obtain⟨r,_,rfl⟩:=List.mem_map.1 a;exact jw _ _ _ c hc
theorem mj(l:List Rat):∀e∈rL l,∀c∈e,Closed c:=kr _
def liS(l:List fK):List Rat→Nat→AState
 |[],i=>⟨[(0,.arr (nR l)),(4,.emp),(5,.emp),(6,i64 i)],[],1,33⟩
 |q::Q,i=>⟨[(0,.arr (nR l)),(4,.lsl 1 0 (Q.length+1) none 3),(5,.lsl 2 0 (Q.length+1) none 4),(6,i64 i)],[(1,some ⟨34,3,pE (q::Q)⟩),(2,some ⟨51,4,rL (q::Q)⟩)],3,33⟩
theorem rp(l:List fK)(i:Nat):liS l [] i=⟨[(0,.arr (nR l)),(4,.emp),(5,.emp),(6,i64 i)],[],1,33⟩:=rfl
theorem lT(l:List fK)(q:Rat)(Q:List Rat)(i:Nat):liS l (q::Q) i=⟨[(0,.arr (nR l)),(4,.lsl 1 0 (Q.length+1) none 3),(5,.lsl 2 0 (Q.length+1) none 4),(6,i64 i)],[(1,some ⟨34,3,pE (q::Q)⟩),(2,some ⟨51,4,rL (q::Q)⟩)],3,33⟩:=rfl
theorem fs_List(l:List fK)(hl:l.length≤1099511627776)(hb:okR l):FS 25 [.arr (nR l)] (.tup [.arr (pE (nL l)),.arr (rL (nL l))]):=by
 have r:∀q:Rat,∀e∈[rC (rq q)],∀c∈e,Closed c:=fun q=>mj [q];refine f_n Tryz.func25 ?_ ?_;exact ac (aK (cU l)) ag;refine r_z 2 ?_;refine r_z 1 ?_;refine r_z 1 ?_;refine ae (r_z 1 ?_);refine aH (fun _:Unit=>liS l (nL l) l.length) (fun _=>True) ?_ ?_;refine am (aD (fun i:Nat=>liS l (nL (l.take i)) i) (fun i=>l.length- i) (fun i=>i≤l.length) 0 (Nat.zero_le _) ?_ ?_);show SEnt _ (liS l [] 0);rw[rp];have:=(aK (cU l));exact s_f [];rintro i s;have p:(nR l).length=l.length:=by simp[nR]
 by_cases hlt:i< l.length
 ·obtain⟨n,m⟩:∃n,l[i]?=some n:=⟨_,List.getElem?_eq_getElem hlt⟩
  have a:(nR l)[((i:Nat):Int).toNat]?=some (nuC n.1 n.2.1 n.2.2):=by
   show(nR l)[i]?=_;simp[nR,m]
  obtain⟨j,g,o⟩:=hb n (List.mem_of_getElem? m);have b:=jN n.1 n.2.1 n.2.2 j g o;obtain⟨v,hv⟩:∃v,v=kW n.1 n.2.1 n.2.2:=⟨_,rfl⟩;rw[←hv] at b;have d:nL (l.take (i+1))=nL (l.take i)++[v]:=by rw[dt m];simp[nL,nV,hv]
  have f:(nL (l.take i)).length=i:=by simp[nL];omega
  cases hQ:nL (l.take i) with
  |nil=>
   simp only[rp];refine ae (r_z 4 ?_);refine aq rfl (fun h=>?_) (fun h=>?_);rotate_left;exact absurd h (by simp[nR];omega);refine an (ae (am (s_r 12 ?_)));refine a_2 ?_;refine i_x a ?_;refine l_x a ?_;refine c_s (b) ?_;refine a_z ?_;refine r_d ba 10 ?_;refine a_8 ?_;refine a_2 ?_;refine au (n_k ?_);refine r_m 3 ?_;refine a_z ?_;refine⟨i+1,by omega,hlt,?_⟩;simp only[d,hQ,List.nil_append,lT];refine s_x [(1,4),(2,5)] (fun hs=>e_41) (fun hs=>?_)
   ·repeat' (first|exact aI|refine h_c ?_ ?_|exact cv hs (aV [v])|exact cv hs (mj [v])|exact cu|refine aG ?_|exact aw|refine ai ?_ ?_|exact ao hs (aK (cU l))|exact bm)
  |cons q Q=>
   rw[hQ] at f;simp at f;simp only[lT];refine ae (r_z 4 ?_);refine aq rfl (fun h=>?_) (fun h=>?_);rotate_left;exact absurd h (by simp[nR];omega);refine an (ae (am (s_r 12 ?_)));refine a_2 ?_;refine i_x a ?_;refine l_x a ?_;refine c_s (b) ?_;refine a_z ?_;refine r_d ba 10 ?_;refine a_8 ?_;refine a_2 ?_;refine au (n_k ?_);refine r_m 3 ?_;refine a_z ?_;refine⟨i+1,by omega,hlt,?_⟩;simp only[d,hQ,List.cons_append,lT];have e:pE (q::Q)++[qC v]=pE (q::(Q++[v])):=by simp[pE]
   have e2:rL (q::Q)++[rC (rq v)]=rL (q::(Q++[v])):=by simp[rE]
   refine s_x [(1,4),(2,5)] (fun hs=>e_41) (fun hs=>?_) e_7
   ·repeat' (first|exact aI|refine h_c ?_ ?_|exact aT hs e (aV _)|exact aT hs e2 (mj _)|exact cu|refine aG ?_|exact aw|refine ai ?_ ?_|exact ao hs (aK (cU l))|exact bm)
 have k:i=l.length:=by omega
 subst k;simp only[List.take_length];cases hQ:nL l with
 |nil=>
  simp only[rp];refine ae (r_z 4 ?_);refine aq rfl (fun h=>?_) (fun h=>?_);exact absurd h (by simp[nR]);refine aA ⟨(),trivial,?_⟩;simp only[hQ,rp];have:=(aK (cU l));exact s_f []
 |cons q Q=>
  simp only[lT];refine ae (r_z 4 ?_);refine aq rfl (fun h=>?_) (fun h=>?_);exact absurd h (by simp[nR]);refine aA ⟨(),trivial,?_⟩;simp only[hQ,lT];have:=(aK (cU l));exact s_f []
 rintro _ _;cases hQ:nL l with
 |nil=>
  simp only[rp];refine r_z 4 ?_;refine ak (Fin.many ⟨_,_,rfl,rfl,⟨_,_,rfl,rfl,rfl⟩⟩ (nle rfl) ?_);exact ai (Cv.emp _) (ai (Cv.emp _) aw)
 |cons q Q=>
  simp only[lT];refine r_z 4 ?_;refine ak (Fin.many ⟨_,_,rfl,rfl,⟨_,_,rfl,rfl,rfl⟩⟩ (nle rfl) ?_);exact ai (Cv.sealE ay rfl (fun _ _ h=>by cases h) rfl (by simp) (aV _)) (ai (Cv.sealE ay rfl (fun _ _ h=>by cases h) rfl (by simp) (mj _)) aw)
theorem wy(l:List fK)(hl:l.length≤1099511627776)(hb:okR l):FS 81 [.arr (nR l)] (.tup [.arr (pE (nL l)),.arr (rL (nL l))]):=by
 refine f_n Tryz.func81 ?_ ?_;exact ac (aK (cU l)) ag;refine r_z 2 ?_;refine r_c 7 (fs_List l hl hb) ?_;refine a_z ?_;refine r_z 4 ?_;refine ak (Fin.many ⟨_,_,rfl,rfl,⟨_,_,rfl,rfl,rfl⟩⟩ (nle rfl) ?_);exact ai (ao ay (aK (aV _))) (ai (ao ay (aK (mj _))) aw)
end Go.Proofs.YtkhclghbcicapaaGreatDoor
namespace Go.Proofs.YtkhclghbcicapaaGreatDoor
open Go.Abs Go.Deep Go.RowKit
set_option maxRecDepth 20000
theorem DX{M:Nat→Prop}{β:Nat→Option (Nat×Nat)}{w:World}{b s off:Nat}{f:Nat→List AV}:∀(n j:Nat),(∀i,i< j+n→(f i).length=s∧RVcs M β w b (f i) (off+i* s))→RVess M β w b s ((List.range' j n).map f) (off+j* s)
 |0,_,_=>trivial
 |n+1,j,h=>by
  rw[List.range'_succ,List.map_cons];refine⟨(h j (by omega)).1,(h j (by omega)).2,?_⟩;have:=DX (M:=M) (β:=β) (w:=w) (b:=b) (s:=s) (off:=off) n (j+1) (fun i a=>h i (by omega));rwa[Nat.add_mul,Nat.one_mul,←Nat.add_assoc] at this
theorem qE{w:World}{b o:Nat}{v:Value}(h:w.cell? ⟨b,o,none⟩=some v):∃N,aO w b=some N:=by
 unfold World.cell? at h;unfold aO;split at h
 ·rename_i c _ _ e;rw[show w.heap[b]?=_ from e];exact⟨c.size,rfl⟩
 cases h
theorem tyS:(Tryz.prog).underlying 25=some (.slice 24):=by kernel_rfl
theorem tyN:∃f0 f1 f2,(Tryz.prog).underlying 24=some (.struct #[f0,f1,f2])∧f0.type=2∧f0.offset=0∧f1.type=2∧f1.offset=1∧f2.type=5∧f2.offset=2:=
 ⟨{name:= "N",type:=2,offset:=0,embedded:=false,tag:= "",pkgPath:= "",byteOffset:=0},{name:= "D",type:=2,offset:=1,embedded:=false,tag:= "",pkgPath:= "",byteOffset:=8},{name:= "Pow",type:=5,offset:=2,embedded:=false,tag:= "",pkgPath:= "",byteOffset:=16},by kernel_rfl,rfl,rfl,rfl,rfl,rfl,rfl⟩
theorem tyc82:(Tryz.prog).cellsOf 24=3:=by kernel_rfl
theorem tyc2:(Tryz.prog).cellsOf 2=1:=by kernel_rfl
theorem tyc5:(Tryz.prog).cellsOf 5=1:=by kernel_rfl
theorem tyu2:(Tryz.prog).underlying 2=some (.int .i64):=by kernel_rfl
theorem tyu5:(Tryz.prog).underlying 5=some (.int .u8):=by kernel_rfl
theorem HX{H:Type}{enc:TypeId×Value→H}{W:World}{base n:Nat}{spare:Nat→Bool}{held:Bool}{cs:List Value}{x:DataW H×List MemPlace}(h:DataW.trod enc Tryz.prog W base spare held n 24 cs=some x):
    ∃r:fK,lV r.1∧lV r.2.1∧r.2.2≤255∧cs=[.int .i64 r.1,.int .i64 r.2.1,.int .u8 r.2.2]:=by
 obtain⟨u,y,w,i,h1,p,g,q,t,f⟩:=tyN;obtain⟨A,z,v,m,_,d,b,c,e⟩:=trod_struct3 i h;rw[h1,p,tyc2] at b;rw[g,q,tyc2] at c;rw[t,f,tyc5] at e;rw[tyc82] at d;obtain⟨k,e0,_,o⟩:=DataW.trod_int tyu2 b;obtain⟨j,e1,_,s⟩:=DataW.trod_int tyu2 c;obtain⟨a,e2,_,l⟩:=DataW.trod_int tyu5 e
 match cs,d with
 |[c0,c1,c2],_=>
  simp at e0 e1 e2;subst e0;subst e1;subst e2;have b2:=bounds_u8 l;refine⟨(k,j,a.toNat),bounds_i64 o,bounds_i64 s,?_,?_⟩;show a.toNat≤255;omega;show _=[_,_,Value.int .u8 ((a.toNat:Nat):Int)];rw[Int.toNat_of_nonneg b2.1]
theorem y8{H:Type}{enc:TypeId×Value→H}{W:World}{a:Option Addr}{len cap:Nat}{d:DataW H}{ps:List MemPlace}(h:DataW.Trod enc Tryz.prog W 0 (fun _=>true) true 25 (.slice a len cap) d ps):
    ∃l:List fK,okR l∧RV (fun _=>False) (fun _=>none) W (.arr (nR l)) (.slice a len cap):=by
 obtain⟨F,hf⟩:=h;rcases open_slice tyS hf with⟨o,_⟩|⟨x,K,G,m,n,D,Y,o,_,O,L,t,_,B⟩
 simp[Value.cells] at o;obtain⟨rfl,rfl,rfl⟩:=o;exact⟨[],(fun r C=>by cases C),none,0,rfl,Nat.le_refl _,by decide,.inl rfl⟩;simp[Value.cells] at o;obtain⟨rfl,rfl,rfl⟩:=o;simp only[if_true] at t;have z:m=cap:=t;rw[z] at B;rw[tyc82] at B
 have E:∀i,i< len→∃r:fK,(lV r.1∧lV r.2.1∧r.2.2≤255)∧W.cells? 0 (x.add (i* 3)) 3=some [.int .i64 r.1,.int .i64 r.2.1,.int .u8 r.2.2]:=fun i y=>by
  obtain⟨V,N,U⟩:=B i (by omega);obtain⟨r,S,Q,X,e⟩:=HX U;exact⟨r,⟨S,Q,X⟩,by rw[N,e]⟩
 obtain⟨R,J⟩:=choose_lt (α:=fK) E;refine⟨(List.range len).map R,?_,some x,cap,by simp[nR],by simpa[nR] using O,L,?_⟩;intro r C;obtain⟨i,y,rfl⟩:=List.mem_map.1 C;exact(J i (List.mem_range.1 y)).1;by_cases h0:len=0;subst h0;exact .inl rfl;right
 have c:∀i,i< len→∀j (v:Value),[.int .i64 (R i).1,.int .i64 (R i).2.1,.int .u8 (R i).2.2][j]?=some v→W.cell? (x.add (i* 3+j))=some v:=fun i y j v hv=>by
  have T:j< 3:=by
   have:=(List.getElem?_eq_some_iff.1 hv).1;simpa using this
  have:=(World.cells?_some (J i y).2).2.2 j T;rw[hv,Go.Deep.add_add] at this;exact this
 have A:=c 0 (by omega) 0 _ rfl;obtain⟨b,off,u⟩:=x;have q:u=none:=by simpa[Addr.add] using World.cell?_spot A
 subst q
 have g:∀k,Addr.add ⟨b,off,none⟩ k=⟨b,off+k,none⟩:=fun k=>by
  unfold Addr.add;by_cases hk:k=0;simp[hk];simp[hk]
 refine⟨b,off,3,rfl,qE (by rw[g] at A;exact A),(fun h=>h),?_⟩;have:=DX (M:=fun _=>False) (β:=fun _=>none) (w:=W) (b:=b) (s:=3) (off:=off) (f:=fun i=>nuC (R i).1 (R i).2.1 (R i).2.2) len 0 (fun i y=>⟨rfl,?_⟩);rw[Nat.zero_mul,Nat.add_zero,←List.range_eq_range'] at this;rw[nR,List.map_map];exact this;have p:i< len:=by omega
 refine⟨⟨_,?_,rfl⟩,⟨_,?_,rfl⟩,⟨_,?_,rfl⟩,trivial⟩;have:=c i p 0 _ rfl;rw[g] at this;exact this;have:=c i p 1 _ rfl;rw[g] at this;rw[Nat.add_assoc];exact this;have:=c i p 2 _ rfl;rw[g] at this;rw[Nat.add_assoc,Nat.add_assoc];exact this
end Go.Proofs.YtkhclghbcicapaaGreatDoor
namespace Go.Proofs.YtkhclghbcicapaaGreatDoor
open Go.Abs Go.Deep Go.RowKit Go.WideShapes
set_option maxRecDepth 20000
def okN(r:fK):Prop:=lV r.1∧lV r.2.1∧r.2.2≤255
theorem rk{H:Type}{enc:TypeId×Value→H}{W:World}{base:Nat}{v:Value}{d:DataW H}{ps:List MemPlace}(hv:Value.okWide Tryz.prog W .any base 24 v)(h:DataW.Trod enc Tryz.prog W 0 (fun _=>true) true 24 v d ps):
    ∃r:fK,okN r∧RV (fun _=>False) (fun _=>none) W (.agg (nuC r.1 r.2.1 r.2.2)) v:=by
 obtain⟨j,l,k,f,_⟩:=tyN
 obtain⟨cs,rfl,_⟩:∃cs,v= .agg cs∧True:=by
  unfold Value.okWide at hv;rw[f] at hv;obtain⟨cs,h1,_⟩:=hv;exact⟨cs,h1,trivial⟩
 obtain⟨a,hf⟩:=h;obtain⟨r,b,c,i,e⟩:=HX hf;refine⟨r,⟨b,c,i⟩,cs,rfl,?_⟩;have g:cs.toList=[.int .i64 r.1,.int .i64 r.2.1,.int .u8 r.2.2]:=by simpa[Value.cells] using e
 rw[g];exact⟨_,_,rfl,rfl,_,_,rfl,rfl,_,_,rfl,rfl,rfl⟩
end Go.Proofs.YtkhclghbcicapaaGreatDoor
namespace Go.Proofs.YtkhclghbcicapaaGreatDoor
open Go.Abs
set_option maxRecDepth 20000
set_option maxHeartbeats 4000000
def nT(r:fK):Bool:=decide (¬((r.2.2:Int) % 4≠0)∧¬r.1> 999999∧¬r.1< -999999∧¬r.2.1> 999999∧¬r.2.1< -999999)
def gz(l:List fK)(k:Nat):Bool:=l.all nT && decide (l.length≤k)
theorem rU(l:List fK)(k:Nat)(hl:l.length≤9223372036854775807)(hk:k≤1000000):FS 6 [.arr (nR l),i64 k] (bln (gz l k)):=by
 have i:(nR l).length=l.length:=by simp[nR]
 refine f_n Tryz.func6 ?_ ?_;exact ac (aK (cU l)) (ac (ah _) ag);refine r_z 1 ?_;refine ae (r_z 1 ?_);refine aH (fun _:Unit=>⟨[(0,.arr (nR l)),(1,i64 k)],[],1,45⟩) (fun _=>l.all nT=true) ?_ ?_;refine am (aD (fun j:Nat=>⟨[(5,i64 ((j:Nat):Int)),(0,.arr (nR l)),(1,i64 k)],[],1,45⟩) (fun j=>l.length- j) (fun j=>j≤l.length∧(l.take j).all nT=true) 0 ⟨Nat.zero_le _,rfl⟩ ?_ ?_);have:=(aK (cU l));exact s_f [];rintro j ⟨n,hg⟩;by_cases hlt:j< l.length;obtain⟨r,m⟩:∃r,l[j]?=some r:=⟨_,List.getElem?_eq_getElem hlt⟩
 have d:(nR l)[((j:Nat):Int).toNat]?=some (nuC r.1 r.2.1 r.2.2):=by
  rw[Int.toNat_natCast,nR,List.getElem?_map,m];rfl
 have b:nT r=false→gz l k=false:=fun h=>by
  unfold gz;rw[Bool.and_eq_false_iff];exact .inl (List.all_eq_false.2 ⟨r,List.mem_of_getElem? m,by rw[h];decide⟩)
 refine ae (q_z 4 ?_);refine cT (an (ae (am (s_r 6 ?_))));refine a_2 ?_;refine i_x d ?_;refine l_x d ?_;refine a_z ?_;by_cases c0:((r.2.2:Int) % 4≠0);have a:nT r=false:=decide_eq_false (by rintro⟨e0,e1,e2,c,f⟩;exact e0 c0);rw[b a];refine s_r 24 ?_;refine a_3 ?_;refine o_0 (.bin rfl rfl (vT eM ((by simpa using c0)))) ?_;refine a_z ?_;refine cT (r_z 1 ?_);exact ak (t_e (ah _));by_cases c1:r.1> 999999;have a:nT r=false:=decide_eq_false (by rintro⟨e0,e1,e2,c,f⟩;exact e1 c1);rw[b a];refine s_r 24 ?_;refine a_3 ?_;refine o_0 (.bin rfl rfl (vF eM ((by simpa using c0)))) ?_;refine d_z ?_;refine cT (r_z 1 ?_);exact ak (t_e (ah _));by_cases c2:r.1< -999999;have a:nT r=false:=decide_eq_false (by rintro⟨e0,e1,e2,c,f⟩;exact e2 c2);rw[b a];refine s_r 24 ?_;refine a_3 ?_;refine o_0 (.bin rfl rfl (vF eM ((by simpa using c0)))) ?_;refine d_z ?_;refine cT (r_z 1 ?_);exact ak (t_e (ah _));by_cases c3:r.2.1> 999999;have a:nT r=false:=decide_eq_false (by rintro⟨e0,e1,e2,c,f⟩;exact c c3);rw[b a];refine s_r 24 ?_;refine a_3 ?_;refine o_0 (.bin rfl rfl (vF eM ((by simpa using c0)))) ?_;refine d_z ?_;refine cT (r_z 1 ?_);exact ak (t_e (ah _));by_cases c4:r.2.1< -999999;have a:nT r=false:=decide_eq_false (by rintro⟨e0,e1,e2,c,f⟩;exact f c4);rw[b a];refine s_r 24 ?_;refine a_3 ?_;refine o_0 (.bin rfl rfl (vF eM ((by simpa using c0)))) ?_;refine d_z ?_;refine cT (r_z 1 ?_);exact ak (t_e (ah _));have a:nT r=true:=decide_eq_true ⟨c0,c1,c2,c3,c4⟩;refine s_r 24 ?_;refine a_3 ?_
 refine o_0 (.bin rfl rfl (vF eM ((by simpa using c0)))) ?_;refine d_z ?_;refine cF (an (r_m 3 ?_));refine a_z ?_;refine⟨j+1,by omega,⟨hlt,?_⟩,?_⟩;rw[dt m,List.all_append,hg];simp[a];have:=(aK (cU l));exact s_f [];have g:l.take j=l:=List.take_of_length_le (by omega);rw[g] at hg;refine ae (q_z 4 ?_);refine cF (aA ⟨(),hg,?_⟩);have:=(aK (cU l));exact s_f [];rintro _ hg
 have e:gz l k=decide ((((nR l).length:Nat):Int)≤(k:Int)):=by
  unfold gz;rw[hg,Bool.true_and,i];exact decide_eq_decide.2 (by omega)
 rw[e];refine r_z 5 ?_;exact ak (t_e (ah _))
theorem good_qs{r:fK}(h:nT r=true)(hb:lV r.1)(hd:lV r.2.1):qs (kW r.1 r.2.1 r.2.2)≤20:=by
 obtain⟨f,h1,e,g,i⟩:=of_decide_eq_true h;have hp:r.2.2 % 4=0:=by omega
 have hN:bl r.1.natAbs≤20:=ez (by omega);unfold kW;rw[hp];show qs (Rat.divInt r.1 (xq r.2.1))≤20;obtain⟨d,a⟩:∃d,d=xq r.2.1:=⟨_,rfl⟩;have c:d≠0:=by rw[a];unfold xq;split <;> omega
 have b:bl d.natAbs≤20:=by rw[a];unfold xq;split <;> exact ez (by omega)
 rw[←a];by_cases hn:d< 0;rw[qp _ d hn];exact gF (by omega) (by rw[Int.natAbs_neg];exact hN) (by omega);rw[qo _ d (by omega)];exact gF (by omega) hN (by omega)
theorem qD{l:List fK}{k:Nat}(h:gz l k=true)(ho:okR l):bdL (nL l) 20∧(nL l).length≤k:=by
 unfold gz at h;rw[Bool.and_eq_true,List.all_eq_true] at h;refine⟨fun q b=>?_,by simpa[nL] using h.2⟩;obtain⟨r,a,rfl⟩:=List.mem_map.1 b;exact good_qs (h.1 r a) (ho r a).1 (ho r a).2.1
theorem Aa(N D N' D':Int)(k k':Nat)(hN:lV N)(hD:lV D)(hk:k≤255)(hN':lV N')(hD':lV D')(hk':k'≤255):
    FS 30 [.agg (nuC N D k++nuC N' D' k')] (.tup [.agg (spC (kW N D k) (kW N' D' k')),.agg (rC (rq (kW N D k))++rC (rq (kW N' D' k')))]):=by
 have b1:=jN N D k hN hD hk;have b2:=jN N' D' k' hN' hD' hk';obtain⟨v,hv⟩:∃v,v=kW N D k:=⟨_,rfl⟩;obtain⟨w,a⟩:∃w,w=kW N' D' k':=⟨_,rfl⟩;rw[←hv] at b1⊢;rw[←a] at b2⊢;refine f_n Tryz.func30 ?_ ?_;exact ac (aB fun c hc=>(List.mem_append.1 hc).elim (jw _ _ _ c) (jw _ _ _ c)) ag;refine r_z 3 ?_;refine r_c 10 (b1) ?_;refine a_z ?_;refine r_c 10 (b2) ?_;refine a_z ?_;refine ae (r_d ba 8 ?_);refine a_8 ?_;refine au (n_k ?_);refine ak (Fin.many ⟨_,_,rfl,⟨_,_,_,_,_,rfl,rfl,rfl,.inl ⟨TG.h,_,TS.h,nle rfl,rfl⟩⟩,⟨_,_,rfl,⟨_,_,_,_,_,rfl,rfl,rfl,.inl ⟨TG.h,_,TS.h,nle rfl,rfl⟩⟩,rfl⟩⟩ (nle rfl) ?_);exact ai (ao ay (bJ _ _)) (ai (ao ay (aB fun c hc=>(List.mem_append.1 hc).elim (hZ _ c) (hZ _ c))) aw)
theorem ab_p2{x:Rat}(h:qs x≤20):ab x≤p2 22:=by
 obtain⟨a,e,f⟩:=oe h
 have b:(1:Rat)≤(((x.den:Nat):Int):Rat):=by
  rw[show(1:Rat)=((1:Int):Rat) from rfl,Rat.intCast_le_intCast];have:=x.den_pos;omega
 have c:=a.ab;rw[cM,show ab (((x.den:Nat):Int):Rat)=(((x.den:Nat):Int):Rat) from if_neg (by grind)] at c;have d:=Rat.mul_le_mul_of_nonneg_left b (cZ x);have g:=eU (show 20≤22 by omega);grind
end Go.Proofs.YtkhclghbcicapaaGreatDoor
namespace Go.Proofs.YtkhclghbcicapaaGreatDoor
open Go.Shelf


end Go.Proofs.YtkhclghbcicapaaGreatDoor
namespace Go.Proofs.YtkhclghbcicapaaGreatDoor
open Go.Abs Go.RowKit

end Go.Proofs.YtkhclghbcicapaaGreatDoor
namespace Go.Proofs.YtkhclghbcicapaaGreatDoor
open Go.Abs
set_option maxRecDepth 20000




def vR(x:List RQ):List Rat:=x.map (·.1)
def okX(x:List RQ):Prop:=∀y∈x,rok y
def xF(x:List RQ):List RQ:=x.take (aj (vR x)).length
theorem vR_trim(x:List RQ):vR (xF x)=aj (vR x):=by
 unfold xF;rw[vR,List.map_take];exact(xG (vR x)).symm
@[simp] theorem oh (x:List RQ):(vR x).length=x.length:=by simp[vR]
def rtmS(x:List RQ):Nat→AState
 |n=>⟨[(0,.arr (rE x)),(3,i64 n)],[],1,23⟩
theorem Iv(x:List RQ)(hl:x.length≤1099511627776):FS 134 [.arr (rE x)] (.arr (rE (xF x))):=by
 obtain⟨v,hv⟩:∃v,v=vR x:=⟨_,rfl⟩;have g:v.length=x.length:=by rw[hv];simp
 refine f_c Tryz.func134 ?_;refine r_z 1 ?_;refine r_z 3 ?_;refine bD (rtmS x) (fun n=>n≤v.length∧aj v=v.take n) ?_ ?_;refine am (aD (rtmS x) (fun n=>n) (fun n=>n≤v.length∧aj v=aj (v.take n)) v.length ⟨Nat.le_refl _,by rw[List.take_length]⟩ ?_ ?_);simp only[rtmS.eq_1];rw[g];exact s_e [];rintro n ⟨m,ht⟩;simp only[rtmS.eq_1];cases n with
 |zero=>
  refine ae (s_r 11 ?_);refine a_1 ?_;refine o_0 (.bin rfl rfl (vF mw ((by simp)))) ?_;refine a_z ?_;refine cF (aA ⟨0,⟨Nat.zero_le _,?_⟩,?_⟩);rw[ht];rfl;simp only[rtmS.eq_1];exact s_e []
 |succ n=>
  obtain⟨y,k⟩:∃y,x[n]?=some y:=⟨_,List.getElem?_eq_getElem (by omega)⟩;have p:v[n]?=some y.1:=by rw[hv,vR,List.getElem?_map,k];rfl
  have c:(rE x)[(((n+1:Nat):Int)- 1).toNat]?=some (rC y):=by
   rw[show(((n+1:Nat):Int)- 1).toNat=n by omega];exact rE_get k
  have hs:aj (v.take (n+1))=if y.1=0 then aj (v.take n) else v.take (n+1):=by
   rw[dt p,mD]
  by_cases h0:y.1=0;refine ae (s_r 11 ?_);refine d_6 ?_;refine bK rfl rfl rfl (.index_a rfl rfl (by omega) c rfl te_87.h) rfl rfl ?_;refine bK rfl rfl rfl (.load_a rfl c TG.h TS.h (nle rfl)) rfl rfl ?_;refine c_s (BA y) ?_;refine bK rfl rfl rfl (.bin rfl rfl (vT db ((by rw[h0];decide)))) rfl rfl ?_;refine a_z ?_;refine cT (an (am (r_m 3 ?_)));refine a_z ?_;refine⟨n,Nat.lt_succ_self n,⟨by omega,?_⟩,?_⟩;rw[ht,hs,if_pos h0];exact s_e []
  have o:(sgZ y.1.num==(0:Int))=false:=by
   rw[beq_eq_false_iff_ne];exact fun e=>h0 (sgZ_num_eq.1 e)
  refine ae (s_r 11 ?_);refine d_6 ?_;refine bK rfl rfl rfl (.index_a rfl rfl (by omega) c rfl te_87.h) rfl rfl ?_;refine bK rfl rfl rfl (.load_a rfl c TG.h TS.h (nle rfl)) rfl rfl ?_;refine c_s (BA y) ?_;refine bK rfl rfl rfl (.bin rfl rfl (vF db (o))) rfl rfl ?_;refine a_z ?_;refine cF (aA ⟨n+1,⟨m,?_⟩,?_⟩);rw[ht,hs,if_neg h0];simp only[rtmS.eq_1];exact s_e []
 rintro n ⟨m,ht⟩;simp only[rtmS.eq_1];have j:(aj v).length=n:=by rw[ht];simp;omega
 have a:xF x=x.take n:=by unfold xF;rw[←hv,j]
 cases n with
 |zero=>
  refine s_r 5 ?_;refine a_2 ?_;refine o_0 (.sa_h rfl rfl (h:=0) rfl (by simp) te_87.h (zc _)) ?_;refine o_0 (.append0 rfl rfl rfl te_87.h rfl rfl rfl (.arr (es:=[]) (by simp))) ?_;refine a_z ?_;refine ak ?_;rw[a];exact Fin.tmpN rfl
 |succ n=>
  obtain⟨X,d⟩:∃X,X=x.take (n+1):=⟨_,rfl⟩;have f:X.length=n+1:=by rw[d];simp;omega
  have i:rE X≠[]:=fun e=>by have:=congrArg List.length e;simp[f] at this
  have b:(rE x).take (n+1)=rE X:=by rw[rE_take,d]
  have l:(rE x).take (n+1)≠[]:=by rw[b];exact i
  refine s_r 5 ?_;refine a_2 ?_;refine o_0 (.sa_h rfl rfl (h:=n+1) rfl (by simp;omega) te_87.h (zc _)) ?_;refine o_1 (.append_e rfl rfl rfl te_87.h rfl rfl rfl (.arr (by rw[b];exact zc _)) (by first|assumption|(simp;done)) TZ.h rfl TB.h d_o (by first|(simp[maxLen];done)|(simp[maxLen];omega))) ?_;refine a_z ?_;refine ak ?_;rw[a,←d,←b];exact Fin.tmpS rfl rfl rfl rfl (by rw[b];exact kr _)
def rP(v:List Rat):List RQ:=v.map rq
theorem okX_rP(v:List Rat):okX (rP v):=fun y a=>by obtain⟨q,_,rfl⟩:=List.mem_map.1 a;exact vM q
theorem vj(v:List Rat):vR (rP v)=v:=by
 unfold vR rP;rw[List.map_map];exact List.map_id' v
@[simp] theorem sX (v:List Rat):(rP v).length=v.length:=by simp[rP]
end Go.Proofs.YtkhclghbcicapaaGreatDoor
