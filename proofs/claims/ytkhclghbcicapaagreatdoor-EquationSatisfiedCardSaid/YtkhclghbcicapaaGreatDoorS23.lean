/- Part S23 of the proof. -/
import Derived.Test.YtkhclghbcicapaaGreatDoorS22
set_option linter.all false
namespace Go.Proofs.YtkhclghbcicapaaGreatDoor
open Go.Abs
set_option maxRecDepth 20000
set_option maxHeartbeats 1000000
section
variable {P:Go.Program}{T:Nat}{x y:Operand}
theorem Af{l m:List UInt8}:∀w,(do eqGuard .neq T x y (.string ⟨l.toArray⟩) (.string ⟨m.toArray⟩);binOp .neq T (.string ⟨l.toArray⟩) (.string ⟨m.toArray⟩):Sem Value).run P w= .ok (.bool (!decide (l=m))) w:=fun w=>by
 rw[Ae];congr 2
 have e:∀l:List UInt8,(⟨l.toArray⟩:ByteArray).toList=l:=by
  intro l;have:=ByteArray.toList_eq (bs:=⟨l.toArray⟩);simpa using this
 rw[e,e];rw[Bool.eq_iff_iff];simp
end
def j0(o:Option (List UInt8))(c:Rat):Option (List UInt8):=
 match o with
 |none=>if c< 0 then some [45] else none
 |some s=>if c< 0 then some (s++[32,45,32]) else some (s++[32,43,32])
def wrO(o:Option (List UInt8))(t:List UInt8):Option (List UInt8):=some (o.getD []++t)
def jO(o:Option (List UInt8))(t:List UInt8):Option (List UInt8):=if t=[49] then o else wrO o (t++[32])
def nK(tq:Rat→List UInt8)(ti:Nat→List UInt8)(o:Option (List UInt8))(c:Rat)(n:Nat):Option (List UInt8):=
 if n=0 then wrO (j0 o c) (tq (fM c))
 else if 1< n then wrO (wrO (jO (j0 o c) (tq (fM c))) [120]) ([94]++ti n) else wrO (jO (j0 o c) (tq (fM c))) [120]
def qY(tq:Rat→List UInt8)(ti:Nat→List UInt8)(p:List Rat):Nat→Option (List UInt8)→Option (List UInt8)
 |0,o=>o
 |n+1,o=>qY tq ti p n (if coP p n=0 then o else nK tq ti o (coP p n) n)
def Cy(tq:Rat→List UInt8)(ti:Nat→List UInt8)(p:List Rat):List UInt8:=(qY tq ti (aq p) (aq p).length none).getD [48]
def Cw(p:List Rat):List UInt8:=Cy ld iW p
def FV(p:List Rat):Prop:=p.length≤1000∧(aq p).length≤99∧(∀c∈aq p,okT c)
instance (p:List Rat):Decidable (FV p):=inferInstanceAs (Decidable (_∧_∧_))
def pb0(p:List Rat):Int→AState
 |n=>⟨[(0,.arr (pE p)),(3,.lptr 1 0 0),(4,i64 n)],[(1,some ⟨162,2,[ed 1 2 none]⟩)],4,67⟩
def pb1(p:List Rat):Int×List UInt8→AState
 |(n,s)=>⟨[(0,.arr (pE p)),(3,.lptr 1 0 0),(4,i64 n)],[(1,some ⟨162,2,[ed 1 2 (some s)]⟩),(2,some ⟨5,1,bE s⟩)],4,67⟩
def pbS(p:List Rat)(n:Int):Option (List UInt8)→AState
 |none=>pb0 p n
 |some s=>pb1 p (n,s)
def pc0(p:List Rat)(c:Rat):Int→AState
 |n=>⟨[(0,.arr (pE p)),(3,.lptr 1 0 0),(4,i64 n),(5,.lptr 3 0 0)],[(1,some ⟨162,2,[ed 1 2 none]⟩),(3,some ⟨34,3,[qC c]⟩)],4,67⟩
def pc1(p:List Rat)(c:Rat):Int×List UInt8→AState
 |(n,s)=>⟨[(0,.arr (pE p)),(3,.lptr 1 0 0),(4,i64 n),(5,.lptr 3 0 0)],[(1,some ⟨162,2,[ed 1 2 (some s)]⟩),(2,some ⟨5,1,bE s⟩),(3,some ⟨34,3,[qC c]⟩)],4,67⟩
def pcS(p:List Rat)(c:Rat)(n:Int):Option (List UInt8)→AState
 |none=>pc0 p c n
 |some s=>pc1 p c (n,s)
def pd0(p:List Rat)(t:List UInt8):Int→AState
 |n=>⟨[(0,.arr (pE p)),(3,.lptr 1 0 0),(4,i64 n),(6,tx t)],[(1,some ⟨162,2,[ed 1 2 none]⟩)],4,67⟩
def pd1(p:List Rat)(t:List UInt8):Int×List UInt8→AState
 |(n,s)=>⟨[(0,.arr (pE p)),(3,.lptr 1 0 0),(4,i64 n),(6,tx t)],[(1,some ⟨162,2,[ed 1 2 (some s)]⟩),(2,some ⟨5,1,bE s⟩)],4,67⟩
def pdS(p:List Rat)(t:List UInt8)(n:Int):Option (List UInt8)→AState
 |none=>pd0 p t n
 |some s=>pd1 p t (n,s)
def rF(o:Option (List UInt8))(n:Nat):Prop:=∀s,o=some s→s≠[]∧s.length≤n
theorem tz(n:Nat):rF none n:=fun s h=>by cases h
theorem qi{o:Option (List UInt8)}{n:Nat}{t:List UInt8}(h:rF o n)(h0:t≠[]):rF (wrO o t) (n+t.length):=by
 intro s hs;cases hs;cases o with
 |none=>exact⟨by simpa using h0,by simp⟩
 |some q=>exact⟨by simp[h0],by have:=(h q rfl).2;simp;omega⟩
theorem yN{o:Option (List UInt8)}{n:Nat}(h:rF o n)(c:Rat):rF (j0 o c) (n+3):=by
 intro s hs;cases o with
 |none=>
  simp only[j0] at hs;split at hs;cases hs;exact⟨by simp,by simp⟩;cases hs
 |some q=>
  have:=(h q rfl).2;simp only[j0] at hs;split at hs <;> cases hs <;> exact⟨by simp,by simp;omega⟩
theorem gC{o:Option (List UInt8)}{n m:Nat}(h:rF o n)(hm:n≤m):rF o m:=fun s hs=>⟨(h s hs).1,Nat.le_trans (h s hs).2 hm⟩
theorem E9(q:Rat):ld q≠[]:=List.length_pos_iff.1 (textQ_len (q:=q)).2
theorem sgZ_neg(c:Rat):sgZ c.num< 0↔c< 0:=by
 rw[←oU];unfold sgZ;split;omega;split <;> omega
theorem okT_abs{c:Rat}(h:okT c):okT (fM c):=by
 rw[ya];split;obtain⟨h1,a⟩:=h;exact⟨by rw[Rat.neg_num];simpa using h1,by rw[Rat.neg_den];exact a⟩;exact h
theorem ED(tq:Rat→List UInt8)(ti:Nat→List UInt8)(L:Nat)(p:List Rat)(h1:p.length≤1000)(hL:L≤10000)(h3:∀c∈aq p,FS 38 [.agg (qC (fM c))] (tx (tq (fM c)))∧tq (fM c)≠[]∧(tq (fM c)).length≤L)(hI:∀n,n< (aq p).length→FS 97 [i64 n] (tx (ti n))∧(ti n).length≤20):FS 37 [.arr (pE p)] (tx (Cy tq ti p)):=by
 have J:=dc p (by omega);obtain⟨q,V⟩:∃q,q=aq p:=⟨_,rfl⟩;have X:Cy tq ti p=(qY tq ti q q.length none).getD [48]:=by unfold Cy;rw[V]
 rw[X];have h2:=bU p;rw[←V] at J h2 h3 hI;have A:∀k,(q.length- k) * (L+30)≤10030000:=fun k=>Nat.mul_le_mul (show q.length- k≤1000 by omega) (show L+30≤10030 by omega);refine f_c Tryz.func37 ?_;refine r_z 1 ?_;refine r_z 1 ?_;refine r_c 3 (J) ?_;refine a_z ?_;refine ae (r_z 4 ?_);refine aH (pbS q (-1)) (fun o=>o=qY tq ti q q.length none∧rF o 20000000) ?_ ?_;refine aj (aB (fun x:Nat×Option (List UInt8)=>pbS q ((x.1:Int)- 1) x.2) (fun x=>x.1) (fun x=>x.1≤q.length∧qY tq ti q x.1 x.2=qY tq ti q q.length none∧rF x.2 ((q.length- x.1) * (L+30))) (q.length,none) ⟨Nat.le_refl _,rfl,tz _⟩ ?_ ?_);show SEnt _ (pb0 q ((q.length:Int)- 1));rw[pb0.eq_1];exact s_e [(1,3)];rintro⟨n,o⟩ ⟨hn,C,u⟩;simp only at hn C u;cases n with
 |zero=>
  cases o with
  |none=>
   show AWp _ _ _ _ (pb0 q (((0:Nat):Int)- 1));rw[pb0.eq_1];refine ae (r_z 2 ?_);refine ap rfl (fun a=>?_) (fun a=>?_);exact absurd a (by simp);refine ay ⟨none,⟨C,tz _⟩,?_⟩;show SEnt _ (pb0 q (-1));rw[pb0.eq_1];exact s_e []
  |some s=>
   show AWp _ _ _ _ (pb1 q (((0:Nat):Int)- 1,s));rw[pb1.eq_1];refine ae (r_z 2 ?_);refine ap rfl (fun a=>?_) (fun a=>?_);exact absurd a (by simp);refine ay ⟨some s,⟨C,gC u (by have:=A 0;omega)⟩,?_⟩;show SEnt _ (pb1 q (-1,s));rw[pb1.eq_1];exact s_e []
 |succ n=>
  have O:((n+1:Nat):Int)- 1=(n:Int):=by omega
  rw[O];rw[qY] at C;have E:n< q.length:=by omega
  obtain⟨c,hc⟩:∃c,c=coP q n:=⟨_,rfl⟩;rw[←hc] at C;have hg:(pE q)[((n:Nat):Int).toNat]?=some (qC c):=by rw[Int.toNat_natCast,hc];exact pE_get (b9 E)
  obtain⟨N,D,T⟩:=h3 c (by rw[hc];exact List.mem_of_getElem? (b9 E))
  have U:(q.length- n) * (L+30)=(q.length- (n+1)) * (L+30)+(L+30):=by
   rw[show q.length- n=(q.length- (n+1))+1 by omega,Nat.add_mul,Nat.one_mul]
  obtain⟨B,hB⟩:∃B,B=(q.length- (n+1)) * (L+30):=⟨_,rfl⟩;have W:B≤10030000:=by rw[hB];exact A _
  rw[←hB] at u U;obtain⟨t,ht⟩:∃t,t=tq (fM c):=⟨_,rfl⟩;rw[←ht] at D T N;obtain⟨fI,Z⟩:=hI n E;refine bh (fun _:Unit=>pbS q n o) (fun _=>True) ?_ ?_;cases o with
  |none=>
   show AWp _ _ _ _ (pb0 q n);rw[pb0.eq_1];refine r_z 2 ?_;refine ap rfl (fun a=>?_) (fun a=>?_);refine am ⟨(),trivial,?_⟩;show SEnt _ (pb0 q n);rw[pb0.eq_1];exact s_e [];exact absurd a (by simp)
  |some s=>
   show AWp _ _ _ _ (pb1 q (n,s));rw[pb1.eq_1];refine r_z 2 ?_;refine ap rfl (fun a=>?_) (fun a=>?_);refine am ⟨(),trivial,?_⟩;show SEnt _ (pb1 q (n,s));rw[pb1.eq_1];exact s_e [];exact absurd a (by simp)
  rintro _ _;refine bh (pbS q n) (fun z=>z=(if c=0 then o else nK tq ti o c n)) ?_ ?_;refine aj (bh (fun _:Unit=>pcS q c n o) (fun _=>True) ?_ ?_);cases o with
  |none=>
   show AWp _ _ _ _ (pb0 q n);rw[pb0.eq_1];refine r_m 6 ?_;refine a_2 ?_;refine i_x hg ?_;refine l_x hg ?_;refine a_z ?_;refine⟨(),trivial,?_⟩;show SEnt _ (pc0 q c n);rw[pc0.eq_1];exact s_x [(3,5)] (fun hs=>dG) (fun hs=>e_9)
  |some s=>
   show AWp _ _ _ _ (pb1 q (n,s));rw[pb1.eq_1];refine r_m 6 ?_;refine a_2 ?_;refine i_x hg ?_;refine l_x hg ?_;refine a_z ?_;refine⟨(),trivial,?_⟩;show SEnt _ (pc1 q c (n,s));rw[pc1.eq_1];exact s_x [(3,5)] (fun hs=>dG) (fun hs=>e_9)
  rintro _ _;refine bh (fun _:Unit=>pcS q c n o) (fun _=>c≠0) ?_ ?_;cases o with
  |none=>
   show AWp _ _ _ _ (pc0 q c n);rw[pc0.eq_1];refine r_c 3 (ci c) ?_;refine a_z ?_;refine ap rfl (fun a=>?_) (fun a=>?_);have b:c=0:=sgZ_num_eq.1 (by simpa using a);refine ay ⟨none,by rw[if_pos b],?_⟩;show SEnt _ (pb0 q n);rw[pb0.eq_1];exact s_e [];have b:c≠0:=fun e=>by have w:=sgZ_num_eq.2 e;simp[w] at a
   refine am ⟨(),b,?_⟩;show SEnt _ (pc0 q c n);rw[pc0.eq_1];exact s_e []
  |some s=>
   show AWp _ _ _ _ (pc1 q c (n,s));rw[pc1.eq_1];refine r_c 3 (ci c) ?_;refine a_z ?_;refine ap rfl (fun a=>?_) (fun a=>?_);have b:c=0:=sgZ_num_eq.1 (by simpa using a);refine ay ⟨some s,by rw[if_pos b],?_⟩;show SEnt _ (pb1 q (n,s));rw[pb1.eq_1];exact s_e [];have b:c≠0:=fun e=>by have w:=sgZ_num_eq.2 e;simp[w] at a
   refine am ⟨(),b,?_⟩;show SEnt _ (pc1 q c (n,s));rw[pc1.eq_1];exact s_e []
  rintro _ R;rw[if_neg R];have y:(sgZ c.num< 0)↔c< 0:=sgZ_neg c;refine bh (pcS q c n) (fun z=>z=j0 o c) ?_ ?_;refine aj ?_;cases o with
  |none=>
   show AWp _ _ _ _ (pc0 q c n);rw[pc0.eq_1];refine s_r 8 ?_;refine o_0 (.callR (s:=none) (j:=0) (tb:=0) rfl rfl rfl rfl rfl (fun _ h=>by cases h) (se)) ?_;refine a_2 ?_
   first|refine y_g rfl d_t (.load_l rfl rfl rfl TG.h TS.h (nle rfl)) ?_|refine y_g rfl d_t (.load_a rfl rfl TG.h TS.h (nle rfl)) ?_
   refine y_g rfl d_t (.call rfl rfl rfl (ci c)) ?_;refine y_g rfl d_t (.bin rfl rfl dM) ?_;refine o_0 (.pickT rfl d_t rfl) ?_;refine a_z ?_;refine ap rfl (fun a=>?_) (fun a=>?_);have b:c< 0:=y.1 (by simpa using a);refine r_m 1 ?_;refine o_2 (.callB (s:=none) (j:=0) rfl rfl rfl rfl rfl rfl (fun _ h=>by cases h) (ky [45] (by simp) (by simp))) ?_;refine ao ?_;refine⟨some [45],by simp only[j0];rw[if_pos b],?_⟩;show SEnt _ (pc1 q c (n,[45]));rw[pc1.eq_1];exact s_z [(2,100012)] (fun hs=>dG) (fun hs=>e_9);have b:¬c< 0:=fun e=>by have w:=y.2 e;simp[w] at a
   refine s_r 8 ?_;refine o_0 (.callR (s:=none) (j:=0) (tb:=0) rfl rfl rfl rfl rfl (fun _ h=>by cases h) (se)) ?_;refine a_2 ?_;refine n_g rfl d_f ?_;refine n_g rfl d_f ?_;refine n_g rfl d_f ?_;refine o_0 (.pickF rfl d_f rfl) ?_;refine a_z ?_;refine cF (s_r 3 ?_);refine o_0 (.callR (s:=none) (j:=0) (tb:=0) rfl rfl rfl rfl rfl (fun _ h=>by cases h) (se)) ?_;refine a_z ?_;refine ap rfl (fun r=>?_) (fun r=>?_);exact absurd r (by simp);refine am ⟨none,by simp only[j0];rw[if_neg b],?_⟩;show SEnt _ (pc0 q c n);rw[pc0.eq_1];exact s_e []
  |some s=>
   have G:=(u s rfl).1;have g:=(u s rfl).2;have Y:s.length≠0:=by simpa using G
   show AWp _ _ _ _ (pc1 q c (n,s));rw[pc1.eq_1];refine s_r 8 ?_;refine o_0 (.callR (s:=some _) rfl rfl rfl rfl rfl (fun _ h=>by cases h;exact rfl) (sd s)) ?_;refine a_2 ?_;refine n_g rfl (by simp;omega) ?_;refine n_g rfl (by simp;omega) ?_;refine n_g rfl (by simp;omega) ?_;refine o_0 (.pickF rfl (by simp;omega) rfl) ?_;refine a_z ?_;refine ap rfl (fun a=>?_) (fun a=>?_)
   ·first|(simp at a;done)|(simp at a;omega)|(simp at a;exact absurd a G)
   refine s_r 8 ?_;refine o_0 (.callR (s:=some _) rfl rfl rfl rfl rfl (fun _ h=>by cases h;exact rfl) (sd s)) ?_;refine a_2 ?_
   first|refine y_g rfl (by simp;omega) (.load_l rfl rfl rfl TG.h TS.h (nle rfl)) ?_|refine y_g rfl (by simp;omega) (.load_a rfl rfl TG.h TS.h (nle rfl)) ?_
   refine y_g rfl (by simp;omega) (.call rfl rfl rfl (ci c)) ?_;refine y_g rfl (by simp;omega) (.bin rfl rfl dM) ?_;refine o_0 (.pickT rfl (by simp;omega) rfl) ?_;refine a_z ?_;refine ap rfl (fun w=>?_) (fun w=>?_);have b:c< 0:=y.1 (by simpa using w);refine r_m 1 ?_;refine o_3 (.callB (s:=some _) rfl rfl rfl rfl rfl rfl (fun _ h=>by cases h;exact⟨rfl,by decide⟩) (jf s [32,45,32] (by simp;omega))) ?_;refine ao ?_;refine⟨some (s++[32,45,32]),by simp only[j0];rw[if_pos b],?_⟩;show SEnt _ (pc1 q c (n,s++[32,45,32]));rw[pc1.eq_1];exact s_z [(2,100020)] (fun hs=>dG) (fun hs=>e_9);have b:¬c< 0:=fun e=>by have r:=y.2 e;simp[r] at w
   refine s_r 3 ?_;refine o_0 (.callR (s:=some _) rfl rfl rfl rfl rfl (fun _ h=>by cases h;exact rfl) (sd s)) ?_;refine a_z ?_;refine ap rfl (fun r=>?_) (fun r=>?_);refine r_m 1 ?_;refine o_3 (.callB (s:=some _) rfl rfl rfl rfl rfl rfl (fun _ h=>by cases h;exact⟨rfl,by decide⟩) (jf s [32,43,32] (by simp;omega))) ?_;refine ao ?_;refine⟨some (s++[32,43,32]),by simp only[j0];rw[if_neg b],?_⟩;show SEnt _ (pc1 q c (n,s++[32,43,32]));rw[pc1.eq_1];exact s_z [(2,100023)] (fun hs=>dG) (fun hs=>e_9)
   ·first|(simp at r;done)|(simp at r;omega)|(simp at r;exact absurd r G)
  rintro o1 rfl;have f:=yN u c;obtain⟨o1,d⟩:∃o1,o1=j0 o c:=⟨_,rfl⟩;rw[←d] at f⊢;refine bh (fun _:Unit=>pdS q t n o1) (fun _=>True) ?_ ?_;cases o1 with
  |none=>
   show AWp _ _ _ _ (pc0 q c n);rw[pc0.eq_1];refine r_m 4 ?_;refine c_s (qA c) ?_;refine c_s (N) ?_;refine a_z ?_;refine⟨(),trivial,?_⟩;show SEnt _ (pd0 q t n);rw[pd0.eq_1];exact s_e []
  |some s=>
   show AWp _ _ _ _ (pc1 q c (n,s));rw[pc1.eq_1];refine r_m 4 ?_;refine c_s (qA c) ?_;refine c_s (N) ?_;refine a_z ?_;refine⟨(),trivial,?_⟩;show SEnt _ (pd1 q t (n,s));rw[pd1.eq_1];exact s_e []
  rintro _ _;refine bh (fun _:Unit=>pdS q t n o1) (fun _=>n≠0) ?_ ?_;cases o1 with
  |none=>
   show AWp _ _ _ _ (pd0 q t n);rw[pd0.eq_1];refine r_z 2 ?_;refine ap rfl (fun a=>?_) (fun a=>?_);have b:n=0:=by simpa using a
   subst b;refine s_r 2 ?_;refine a_1 ?_;refine o_2 (.callB (s:=none) (j:=0) rfl rfl rfl rfl rfl rfl (fun _ h=>by cases h) (ky t D (by omega))) ?_;refine ao ?_;refine ay ⟨some t,by unfold nK;rw[if_pos rfl,←d,←ht];rfl,?_⟩;show SEnt _ (pb1 q (((0:Nat):Int),t));rw[pb1.eq_1];exact s_z [(2,100007)] (fun hs=>dG) (fun hs=>kI);have b:n≠0:=fun e=>by simp[e] at a
   refine am ⟨(),b,?_⟩;show SEnt _ (pd0 q t n);rw[pd0.eq_1];exact s_e []
  |some s=>
   have g:=(f s rfl).2;show AWp _ _ _ _ (pd1 q t (n,s));rw[pd1.eq_1];refine r_z 2 ?_;refine ap rfl (fun a=>?_) (fun a=>?_);have b:n=0:=by simpa using a
   subst b;refine s_r 2 ?_;refine a_1 ?_;refine o_3 (.callB (s:=some _) rfl rfl rfl rfl rfl rfl (fun _ h=>by cases h;exact⟨rfl,by decide⟩) (jf s t (by omega))) ?_;refine ao ?_;refine ay ⟨some (s++t),by unfold nK;rw[if_pos rfl,←d,←ht];rfl,?_⟩;show SEnt _ (pb1 q (((0:Nat):Int),s++t));rw[pb1.eq_1];exact s_z [(2,100007)] (fun hs=>dG) (fun hs=>kI);have b:n≠0:=fun e=>by simp[e] at a
   refine am ⟨(),b,?_⟩;show SEnt _ (pd1 q t (n,s));rw[pd1.eq_1];exact s_e []
  rintro _ H;refine bh (pbS q n) (fun z=>z=jO o1 t) ?_ ?_;cases o1 with
  |none=>
   show AWp _ _ _ _ (pd0 q t n);rw[pd0.eq_1];refine s_r 2 ?_;refine a_1 ?_;refine o_0 (.bin rfl rfl (Af (m:=[49]))) ?_;refine ao ?_;refine ap rfl (fun a=>?_) (fun a=>?_);have b:¬t=[49]:=by simpa using a
   refine r_m 3 ?_;refine a_1 ?_;refine o_0 (.bin rfl rfl (kD (m:=[32]) (by simp;omega))) ?_;refine o_2 (.callB (s:=none) (j:=0) rfl rfl rfl rfl rfl rfl (fun _ h=>by cases h) (ky (t++[32]) (by simp) (by simp;omega))) ?_;refine ao ?_;refine⟨some (t++[32]),by unfold jO;rw[if_neg b];rfl,?_⟩;show SEnt _ (pb1 q (n,t++[32]));rw[pb1.eq_1];exact s_z [(2,100008)] (fun hs=>dG) (fun hs=>kI);have b:t=[49]:=by simpa using a
   refine am ⟨none,by unfold jO;rw[if_pos b],?_⟩;show SEnt _ (pb0 q n);rw[pb0.eq_1];exact s_e []
  |some s=>
   have g:=(f s rfl).2;show AWp _ _ _ _ (pd1 q t (n,s));rw[pd1.eq_1];refine s_r 2 ?_;refine a_1 ?_;refine o_0 (.bin rfl rfl (Af (m:=[49]))) ?_;refine ao ?_;refine ap rfl (fun a=>?_) (fun a=>?_);have b:¬t=[49]:=by simpa using a
   refine r_m 3 ?_;refine a_1 ?_;refine o_0 (.bin rfl rfl (kD (m:=[32]) (by simp;omega))) ?_;refine o_3 (.callB (s:=some _) rfl rfl rfl rfl rfl rfl (fun _ h=>by cases h;exact⟨rfl,by decide⟩) (jf s (t++[32]) (by simp;omega))) ?_;refine ao ?_;refine⟨some (s++(t++[32])),by unfold jO;rw[if_neg b];rfl,?_⟩;show SEnt _ (pb1 q (n,s++(t++[32])));rw[pb1.eq_1];exact s_z [(2,100008)] (fun hs=>dG) (fun hs=>kI);have b:t=[49]:=by simpa using a
   refine am ⟨some s,by unfold jO;rw[if_pos b],?_⟩;show SEnt _ (pb1 q (n,s));rw[pb1.eq_1];exact s_e []
  rintro o2 i
  have v:rF o2 (B+L+4):=by
   rw[i];unfold jO;split;exact gC f (by omega);exact gC (qi f (t:=t++[32]) (by simp)) (by simp;omega)
  refine bh (fun s=>pb1 q (n,s)) (fun s=>wrO o2 [120]=some s) ?_ ?_;cases o2 with
  |none=>
   show AWp _ _ _ _ (pb0 q n);rw[pb0.eq_1];refine r_m 1 ?_;refine o_2 (.callB (s:=none) (j:=0) rfl rfl rfl rfl rfl rfl (fun _ h=>by cases h) (ky [120] (by simp) (by simp))) ?_;refine ao ?_;refine⟨[120],rfl,?_⟩;simp only[pb1.eq_1];exact s_z [(2,100004)] (fun hs=>dG) (fun hs=>kI)
  |some s=>
   have g:=(v s rfl).2;show AWp _ _ _ _ (pb1 q (n,s));rw[pb1.eq_1];refine r_m 1 ?_;refine o_3 (.callB (s:=some _) rfl rfl rfl rfl rfl rfl (fun _ h=>by cases h;exact⟨rfl,by decide⟩) (jf s [120] (by simp;omega))) ?_;refine ao ?_;refine⟨s++[120],rfl,?_⟩;simp only[pb1.eq_1];exact s_z [(2,100004)] (fun hs=>dG) (fun hs=>kI)
  rintro s F;have S:=qi v (t:=[120]) (by simp) s F;have g:s.length≤B+L+5:=S.2;simp only[pb1.eq_1];refine r_z 2 ?_;refine ap rfl (fun a=>?_) (fun a=>?_);have b:1< n:=by simp at a;omega
  refine r_m 4 ?_;refine c_s (fI) ?_;refine o_0 (.bin rfl rfl (kD (l:=[94]) (by simp;omega))) ?_;refine o_3 (.callB (s:=some _) rfl rfl rfl rfl rfl rfl (fun _ h=>by cases h;exact⟨rfl,by decide⟩) (jf s ([94]++ti n) (by simp;omega))) ?_;refine ao ?_;refine⟨some (s++([94]++ti n)),by unfold nK;rw[if_neg H,if_pos b,←d,←ht,←i,F];rfl,?_⟩;show SEnt _ (pb1 q (n,s++([94]++ti n)));rw[pb1.eq_1];exact s_z [(2,100009)] (fun hs=>dG) (fun hs=>kI);have b:¬1< n:=by simp at a;omega
  refine am ⟨some s,by unfold nK;rw[if_neg H,if_neg b,←d,←ht,←i,F],?_⟩;show SEnt _ (pb1 q (n,s));rw[pb1.eq_1];exact s_e [];rintro z M
  have K:rF z (B+(L+30)):=by
   rw[M];split;exact gC u (by omega);have Q:=yN u c;unfold nK;rw[←ht]
   have g2:rF (jO (j0 o c) t) (B+L+4):=by
    unfold jO;split;exact gC Q (by omega);exact gC (qi Q (t:=t++[32]) (by simp)) (by simp;omega)
   have g3:=qi g2 (t:=[120]) (by simp);split;exact gC (qi Q D) (by omega);split;exact gC (qi g3 (t:=[94]++ti n) (by simp)) (by simp;omega);exact gC g3 (by simp;omega)
  rw[←M] at C;cases z with
  |none=>
   show AWp _ _ _ _ (pb0 q n);rw[pb0.eq_1];refine r_m 3 ?_;refine a_z ?_;refine⟨(n,none),Nat.lt_succ_self n,⟨by simp only;omega,C,tz _⟩,?_⟩;show SEnt _ (pb0 q ((n:Int)- 1));rw[pb0.eq_1];exact s_e []
  |some s=>
   show AWp _ _ _ _ (pb1 q (n,s));rw[pb1.eq_1];refine r_m 3 ?_;refine a_z ?_;refine⟨(n,some s),Nat.lt_succ_self n,⟨by simp only;omega,C,by simp only;rw[U];exact K⟩,?_⟩;show SEnt _ (pb1 q ((n:Int)- 1,s));rw[pb1.eq_1];exact s_e []
 rintro o ⟨rfl,u⟩;cases v:qY tq ti q q.length none with
 |none=>
  show AWp _ _ _ _ (pb0 q (-1));rw[pb0.eq_1];refine ae (s_r 2 ?_);refine o_0 (.callR (s:=none) (j:=0) (tb:=0) rfl rfl rfl rfl rfl (fun _ h=>by cases h) (se)) ?_;refine a_z ?_;refine ap rfl (fun a=>?_) (fun a=>?_);refine r_z 1 ?_;exact ai (t_e (ag _));exact absurd a (by simp)
 |some s=>
  have hs:=u s v;have g:s.length≠0:=by have:=hs.1;simpa using this
  have hne:=hs.1;show AWp _ _ _ _ (pb1 q (-1,s));rw[pb1.eq_1];refine ae (s_r 2 ?_);refine o_0 (.callR (s:=some _) rfl rfl rfl rfl rfl (fun _ h=>by cases h;exact rfl) (sd s)) ?_;refine a_z ?_;refine ap rfl (fun a=>?_) (fun a=>?_);exact absurd a (by simp;omega);refine am (s_r 2 ?_);refine o_2 (.callD rfl rfl rfl rfl rfl rfl (by decide) (by first|assumption|simp) (vS)) ?_;refine a_z ?_;exact ai (t_e (ag _))
theorem tU(p:List Rat)(h:FV p):FS 37 [.arr (pE p)] (tx (Cw p)):=by
 obtain⟨h1,b,a⟩:=h;exact ED ld iW 6 p h1 (by decide) (fun c hc=>⟨tT (fM c) (okT_abs (a c hc)),E9 _,textQ_len.1⟩) (fun n d=>⟨Dj n (by omega),Nat.le_trans (kr n) (by decide)⟩)
abbrev bP(p:List Rat):AV:= .aptr [[.arr (pE p)]] 0 0
abbrev bQ(q:Rat):AV:= .aptr [qC q] 0 0
theorem cx(p:List Rat):Closed (bP p):=a7 (ac (ax p) af)
theorem cn(q:Rat):Closed (bQ q):=a7 (a8 q)
theorem fs_Add1(p q:List Rat)(i:Nat)(hp:smL p)(hq:smL q):FS 79 [i64 i,bP p,bP q] (.agg (qC (coP p i+coP q i))):=by
 refine f_c Tryz.func79 ?_;refine r_z 1 ?_;refine ae (r_d aY 8 ?_);refine c_s (fs_at p i) ?_;refine c_s (fs_at q i) ?_;refine c_s (fl (coP p i) (coP q i) (sm2 (mI hp i) (mI hq i))) ?_;refine a_1 ?_;refine ao (n_k ?_);exact ai (c_e (aP _))
theorem jW(p q:List Rat)(hp:smL p)(hq:smL q)(hp1:p.length≤1099511627776)(hq1:q.length≤1099511627776):FS 27 [.arr (pE p),.arr (pE q)] (.arr (pE (fa p q))):=by
 refine f_c Tryz.func27 ?_;refine r_z 3 ?_;refine AWp.ent (st':=⟨[(2,bP p),(3,bP q)],[],1,12⟩) ?_ ?_;exact s_e []
 have b:(if ((q.length:Nat):Int)>(p.length:Nat) then((q.length:Nat):Int) else(p.length:Nat))=((max p.length q.length:Nat):Int):=by
  rw[Nat.max_def];split <;> split <;> omega
 have a:=r9 (max p.length q.length) (fun i=>coP p i+coP q i) 79 [bP p,bP q] (Nat.max_le.2 ⟨hp1,hq1⟩) (ac (cx p) (ac (cx q) af)) (fun i _=>fs_Add1 p q i hp hq);rw[←b] at a;refine r_c 8 (a) ?_;refine a_z ?_;exact ai (t_e (ax _))
theorem EB(p:List Rat)(k:Rat)(i:Nat)(hp:smL p)(hk:sm k)(hi:i< p.length):FS 53 [i64 i,bP p,bQ k] (.agg (qC (coP p i* k))):=by
 have hg:(pE p)[((i:Nat):Int).toNat]?=some (qC (coP p i)):=pE_get (b9 hi);refine f_c Tryz.func53 ?_;refine r_z 1 ?_;refine ae (r_d aY 7 ?_);refine a_2 ?_;refine i_x hg ?_;refine l_x hg ?_;refine c_s (cU (coP p i) k (sm2 (mI hp i) hk)) ?_;refine a_1 ?_;refine ao (n_k ?_);exact ai (c_e (aP _))
theorem eD(p:List Rat)(k:Rat)(hp:smL p)(hk:sm k)(hp1:p.length≤1099511627776):FS 15 [.arr (pE p),.agg (qC k)] (.arr (pE (aZ p k))):=by
 have b:=r9 p.length (fun i=>coP p i* k) 53 [bP p,bQ k] hp1 (ac (cx p) (ac (cn k) af)) (fun i a=>EB p k i hp hk a);refine f_c Tryz.func15 ?_;refine r_z 3 ?_;refine AWp.ent (st':=⟨[(2,bP p),(3,bQ k)],[],1,9⟩) ?_ ?_;exact s_e [];refine r_c 5 (b) ?_;refine a_z ?_;exact ai (t_e (ax _))
theorem gH(a b:Rat)(hb:b≠0)(h:qs a+qs b≤549755813888):FS 52 [.agg (qC a),.agg (qC b)] (.agg (qC (a/ b))):=by
 refine f_c Tryz.func52 ?_;refine r_z 3 ?_;refine r_c 9 (BH a b hb h) ?_;refine a_z ?_;refine r_z 2 ?_;exact ai (c_e (aP _))
theorem rm(a:Rat):FS 112 [.agg (qC a)] (.arr (pE (dR a))):=by
 refine f_c Tryz.func112 ?_;refine r_z 2 ?_;refine s_r 4 ?_;refine a_2 ?_;refine o_1 (.callS1 rfl rfl rfl (.shut rfl d_n (.nil)) rfl ((dc [a] (by simp)))) ?_;refine a_z ?_;exact ai (t_e (ax _))
theorem fs_line(a:Rat):FS 48 [.agg (qC a)] (.arr (pE [a,1])):=by
 refine f_c Tryz.func48 ?_;refine r_z 2 ?_;refine ae (r_d aY 4 ?_);refine c_s (dK 1 (by decide)) ?_;refine a_2 ?_;refine ao (n_k ?_);exact ai (Fin.tmpS rfl rfl rfl rfl (aL [a,1]))
theorem sm_neg1{a:Rat}(h:sm a):sm (a* (-1)):=by
 unfold sm at *
 rw[show a* (-1)= -a by rw[Rat.mul_comm,Rat.neg_mul,Rat.one_mul],iN];exact h
theorem qs_inv(b:Rat)(hb:b≠0):qs (1/ b)≤qs b:=by
 rw[qJ 1 b hb];have c:b.num≠0:=fun e=>hb (Rat.num_eq_zero.1 e);have h1:=dI b;have a:=du b
 refine fh (by have:0< b.num.natAbs:=by omega
               show 0< 1* b.num.natAbs;omega) ?_ ?_
 show bl ((1:Int) * sgn (decide (b.num< 0)) b.den).natAbs≤qs b;rw[Int.one_mul,ff];exact a;show bl (1* b.num.natAbs)≤qs b;rw[Nat.one_mul];exact h1
theorem AL{q:List Rat}(h:smL q):smL (aZ q (-1)):=by
 refine lC fun x a=>?_;obtain⟨i,_,rfl⟩:=List.mem_map.1 a;exact sm_neg1 (mI h i)
theorem BK(p q:List Rat)(hp:smL p)(hq:smL q)(hp1:p.length≤1099511627776)(hq1:q.length≤1099511627776):FS 11 [.arr (pE p),.arr (pE q)] (.arr (pE (dC p q))):=by
 have hl:=cy q (-1);refine f_c Tryz.func11 ?_;refine r_z 1 ?_;refine r_c 6 (dK (-1) (by decide)) ?_;refine c_s (eD q (-1) hq (by decide) hq1) ?_;refine c_s (jW p (aZ q (-1)) hp (AL hq) hp1 (by omega)) ?_;refine a_z ?_;exact ai (t_e (ax _))
theorem tM(p:List Rat)(hp:smL p)(hp1:p.length≤1099511627776):FS 237 [.arr (pE p)] (.arr (pE (jQ p))):=by
 have a:=F5 hp;refine f_c Tryz.func237 ?_;refine r_z 1 ?_;refine ae (r_c 3 (cI p hp1) ?_);refine a_z ?_;refine ap rfl (fun h=>?_) (fun h=>?_)
 have c:aq p=[]:=by
  have h1:bv p< 0:=by simpa using h
  unfold bv at h1;exact List.length_eq_zero_iff.1 (by omega)
 refine r_z 1 ?_;refine ai ?_;unfold jQ;rw[if_pos c];exact Fin.tmpN rfl
 have c:aq p≠[]:=by
  intro e;have h1:¬bv p< 0:=by simpa using h
  unfold bv at h1;rw[e] at h1;exact h1 (by decide)
 have b:=gG c;have d:=qs_inv (aR p) b;unfold sm at a;have h1:qs 1=1:=by decide
 unfold jQ;rw[if_neg c];refine am (r_c 7 (dK 1 (by decide)) ?_);refine c_s (nh p hp1) ?_;refine c_s (gH 1 (aR p) b (by omega)) ?_;refine c_s (eD p (1/ aR p) hp (by unfold sm;omega) hp1) ?_;refine a_z ?_;exact ai (t_e (ax _))
theorem yC(i:Nat)(h:i≤1099511627776):qs (((i:Nat):Int):Rat)≤64:=by
 refine Nat.max_le.2 ⟨?_,?_⟩;show bl ((i:Int)).natAbs≤64;rw[Int.natAbs_natCast];exact gP (by omega);show bl 1≤64;decide
theorem BN(p:List Rat)(i:Nat)(hp:smL p)(hi:i+1< p.length)(hp1:p.length≤1099511627776):FS 200 [i64 i,bP p] (.agg (qC (coP p (i+1) * ((i+1:Nat):Int)))):=by
 have hg:(pE p)[(((i:Nat):Int)+1).toNat]?=some (qC (coP p (i+1))):=by
  rw[show(((i:Nat):Int)+1).toNat=i+1 by omega];exact pE_get (b9 hi)
 have hs:=mI hp (i+1);have b:=yC (i+1) (by omega);unfold sm at hs;have a:=dK (((i:Nat):Int)+1) (by omega);rw[show((i:Nat):Int)+1=((i+1:Nat):Int) by omega] at a;refine f_c Tryz.func200 ?_;refine r_z 1 ?_;refine ae (r_d aY 10 ?_);refine a_3 ?_;refine i_x hg ?_;refine l_x hg ?_;refine c_s (a) ?_;refine c_s (cU (coP p (i+1)) ((i+1:Nat):Int) (by omega)) ?_;refine a_1 ?_;refine ao (n_k ?_);exact ai (c_e (aP _))
theorem qB(p:List Rat)(hp:smL p)(hp1:p.length≤1099511627776):FS 172 [.arr (pE p)] (.arr (pE (dO p))):=by
 have a:=r9 (p.length- 1) (fun i=>coP p (i+1) * ((i+1:Nat):Int)) 200 [bP p] (by omega) (ac (cx p) af) (fun i c=>BN p i hp (by omega) hp1);have b:(if (0:Int)>((p.length:Nat):Int)- 1 then(0:Int) else((p.length:Nat):Int)- 1)=((p.length- 1:Nat):Int):=by split <;> omega
 rw[←b] at a;refine f_c Tryz.func172 ?_;refine r_z 2 ?_;refine AWp.ent (st':=⟨[(1,bP p)],[],1,9⟩) ?_ ?_;exact s_e [];refine r_c 7 (a) ?_;refine a_z ?_;exact ai (t_e (ax _))
theorem xo(p:List Rat)(i:Nat)(hp:smL p)(hi:i< p.length+1)(hp1:p.length≤1099511627775):FS 51 [i64 i,bP p] (.agg (qC (if i=0 then 0 else coP p (i- 1) / ((i:Nat):Int)))):=by
 refine f_c Tryz.func51 ?_;refine r_z 1 ?_;refine ae (r_z 2 ?_);refine ap rfl (fun h=>?_) (fun h=>?_)
 have a:i=0:=by
  have h1:(i:Int)=0:=by simpa using h
  omega
 rw[if_pos a];refine r_z 2 ?_;refine ai (Fin.cell rfl rfl rfl TG.h TS.h (nle rfl) (Cv.agg ?_));rw[qC0];exact ah (Cv.emp _) (ah (ak aD (ag _)) (ah (Cv.emp _) av))
 have a:i≠0:=by
  intro e;have h1:¬(i:Int)=0:=by simpa using h
  omega
 rw[if_neg a]
 have hg:(pE p)[(((i:Nat):Int)- 1).toNat]?=some (qC (coP p (i- 1))):=by
  rw[show(((i:Nat):Int)- 1).toNat=i- 1 by omega];exact pE_get (b9 (by omega))
 have hs:=mI hp (i- 1);have b:=yC i (by omega);unfold sm at hs;refine am (ae (r_d aY 9 ?_));refine a_3 ?_;refine i_x hg ?_;refine l_x hg ?_;refine c_s (dK ((i:Nat):Int) (by omega)) ?_;refine c_s (gH (coP p (i- 1)) ((i:Nat):Int) (by intro e;have e2:=congrArg Rat.num e;simp at e2;omega) (by omega)) ?_;refine a_1 ?_;refine ao (n_k ?_);exact ai (c_e (aP _))
theorem rn(p:List Rat)(hp:smL p)(hp1:p.length≤1099511627775):FS 14 [.arr (pE p)] (.arr (pE (aJ p))):=by
 have a:=r9 (p.length+1) (fun i=>if i=0 then 0 else coP p (i- 1) / ((i:Nat):Int)) 51 [bP p] (by omega) (ac (cx p) af) (fun i b=>xo p i hp b hp1);rw[show((p.length+1:Nat):Int)=((p.length:Nat):Int)+1 by omega] at a;refine f_c Tryz.func14 ?_;refine r_z 2 ?_;refine AWp.ent (st':=⟨[(1,bP p)],[],1,8⟩) ?_ ?_;exact s_e [];refine r_c 6 (a) ?_;refine a_z ?_;exact ai (t_e (ax _))
theorem GF(a b:Rat)(ha:sm a)(hb:sm b):FS 78 [.agg (qC a),.agg (qC b)] (bln (decide (a=b))):=by
 have e:(ft a b==(0:Int))=decide (a=b):=by
  unfold ft;by_cases h:a=b;subst h;simp[Rat.lt_irrefl];by_cases h1:a< b;simp[h,h1];simp[h,h1]
 refine f_c Tryz.func78 ?_;refine r_z 3 ?_;refine r_c 5 (nX a b ha hb) ?_;refine a_z ?_;refine ai (aU rfl ?_ ?_);rw[←e];rfl;exact ag _
def eqS(p:List Rat)(q:List Rat):Nat→AState
 |i=>⟨[(1,.arr (pE q)),(2,.clos 78 [] []),(15,.arr (pE p)),(16,i64 p.length),(17,i64 i)],[],1,32⟩
theorem xq(p q:List Rat)(hp:smL p)(hq:smL q)(hp1:p.length≤1099511627776):FS 77 [.arr (pE p),.arr (pE q),.clos 78 [] []] (bln (decide (p=q))):=by
 refine f_n Tryz.func77 ?_ ?_;exact ac (ax p) (ac (ax q) (ac (aQ af af) af));refine r_z 1 ?_;refine ae (r_z 5 ?_);refine ap rfl (fun h=>?_) (fun h=>?_)
 have b:p≠q:=by
  intro e;subst e;simp at h
 refine r_z 1 ?_;refine ai (aU rfl ?_ ?_);simp[b];rfl;exact ag _
 have d:p.length=q.length:=by
  have h1:(p.length:Int)=q.length:=by simpa using h
  omega
 refine am (ae (r_z 3 ?_));refine aH (fun _:Unit=>⟨[],[],1,32⟩) (fun _=>p=q) ?_ ?_;refine aj (aB (eqS p q) (fun i=>p.length- i) (fun i=>i≤p.length∧p.take i=q.take i) 0 ⟨Nat.zero_le _,rfl⟩ ?_ ?_);simp only[eqS.eq_1];exact s_e [];rintro i ⟨m,ht⟩;rw[eqS.eq_1];refine r_z 1 ?_;refine ae (ap rfl (fun h1=>?_) (fun h1=>?_));refine am ?_;have c:i< p.length:=by simpa using h1
 have a:i< q.length:=by omega
 have f:(pE p)[((i:Nat):Int).toNat]?=some (qC (coP p i)):=pE_get (b9 c);have g:(pE q)[((i:Nat):Int).toNat]?=some (qC (coP q i)):=pE_get (b9 a);refine ae (aj (s_r 6 ?_));refine a_1 ?_;refine i_x f ?_;refine l_x f ?_;refine a_z ?_;refine s_r 6 ?_;refine a_2 ?_;refine i_x g ?_;refine l_x g ?_;refine a_z ?_;refine r_c 5 (GF (coP p i) (coP q i) (mI hp i) (mI hq i)) ?_;refine a_z ?_;refine ap rfl (fun j=>?_) (fun j=>?_);have hc:coP p i≠coP q i:=by simpa using j
 have b:p≠q:=fun e=>hc (by rw[e]);refine r_z 1 ?_;refine ai (aU rfl ?_ ?_);simp[b];rfl;exact ag _;have hc:coP p i=coP q i:=by simpa using j
 refine am (r_m 2 ?_);refine a_z ?_;refine⟨i+1,by omega,⟨c,?_⟩,?_⟩;rw[cw (b9 c),cw (b9 a),ht,hc];simp only[eqS.eq_1];exact s_e []
 have k:i=p.length:=by
  have:¬i< p.length:=by simpa using h1
  omega
 subst k;refine ay ⟨(),?_,?_⟩;rw[List.take_length,d,List.take_length] at ht;exact ht;exact s_e [];rintro _ l;refine r_z 1 ?_;refine ai (aU rfl ?_ ?_);simp[l];rfl;exact ag _
theorem Dh(p q:List Rat)(hp:smL p)(hq:smL q)(hp1:p.length≤1099511627776)(hq1:q.length≤1099511627776):FS 26 [.arr (pE p),.arr (pE q)] (bln (CD p q)):=by
 refine f_c Tryz.func26 ?_;refine r_z 1 ?_;refine r_c 6 (dc p hp1) ?_;refine c_s (dc q hq1) ?_;refine c_s (xq (aq p) (aq q) (lC hp) (lC hq) (Nat.le_trans (bU p) hp1)) ?_;refine a_z ?_;exact ai (t_e (ag _))
def mulS(p:List Rat)(q:List Rat):Nat×List Rat→AState
 |(i,o)=>⟨[(1,.arr (pE q)),(5,.lsl 1 0 o.length (some o.length) 3),(25,.arr (pE p)),(26,i64 p.length),(27,i64 i)],[(1,some ⟨34,3,pE o⟩)],2,61⟩
def mulT(p:List Rat)(q:List Rat)(i:Nat)(a:Rat):Nat×List Rat→AState
 |(k,o)=>⟨[(1,.arr (pE q)),(5,.lsl 1 0 o.length (some o.length) 3),(6,i64 i),(7,.lptr 2 0 0),(25,.arr (pE p)),(26,i64 p.length),(27,i64 i),(35,.arr (pE q)),(36,i64 q.length),(37,i64 k)],[(1,some ⟨34,3,pE o⟩),(2,some ⟨34,3,[qC a]⟩)],3,61⟩
theorem GI(p q:List Rat)(s t:Nat)(hp:bdL p s)(hq:bdL q t)(hs:1≤s)(ht:1≤t)(h:p.length* (s+t+1)+1≤137438953472)(ht2:t≤137438953472)(hp1:p.length≤274877906944)(hq1:q.length≤274877906944):FS 13 [.arr (pE p),.arr (pE q)] (.arr (pE (aT p q))):=by
 refine f_c Tryz.func13 ?_;refine r_z 1 ?_;refine bh (fun _:Unit=>⟨[(0,.arr (pE p)),(1,.arr (pE q))],[],1,61⟩) (fun _=>p≠[]∧q≠[]) ?_ ?_;by_cases h1:p=[];subst h1;refine s_r 8 ?_;refine a_4 ?_;refine n_g rfl (by simp) ?_;refine n_g rfl (by simp) ?_;refine n_g rfl (by simp) ?_;refine o_0 (.pickT rfl (by simp) rfl) ?_;refine ao ?_;refine ap rfl (fun h=>?_) (fun h=>?_);refine r_z 1 ?_;refine ai ?_;unfold aT;rw[if_pos (.inl rfl)];exact Fin.tmpN rfl;cases h;have hp0:p.length≠0:=fun e=>h1 (List.length_eq_zero_iff.1 e);refine s_r 8 ?_;refine a_4 ?_;refine y_g rfl (by simp <;> omega) (.move rfl) ?_
 first|refine y_g rfl (by simp <;> omega) (.lenD rfl rfl rfl rfl te_36.h) ?_|refine y_g rfl (by simp <;> omega) (.lenI rfl rfl rfl rfl te_36.h) ?_|refine y_g rfl (by simp <;> omega) (.lenP rfl rfl rfl rfl te_36.h) ?_|refine y_g rfl (by simp <;> omega) (.lenC rfl rfl rfl rfl te_36.h) ?_|refine y_g rfl (by simp <;> omega) (.lenR rfl rfl rfl rfl te_36.h) ?_|refine y_g rfl (by simp <;> omega) (.len rfl rfl rfl rfl rfl te_36.h) ?_
 refine y_g rfl (by simp <;> omega) (.bin rfl rfl cv) ?_;refine o_0 (.pickF rfl (by simp <;> omega) rfl) ?_;refine ao ?_;refine ap rfl (fun h2=>?_) (fun h2=>?_)
 have hq0:q=[]:=by
  have:q.length=0:=by simpa using h2
  exact List.length_eq_zero_iff.1 this
 refine r_z 1 ?_;refine ai ?_;unfold aT;rw[if_pos (.inr hq0)];exact Fin.tmpN rfl
 have hq0:q≠[]:=by
  have:¬q.length=0:=by simpa using h2
  exact fun e=>this (by rw[e];rfl)
 refine am ⟨(),⟨h1,hq0⟩,?_⟩;exact s_e [];rintro _ ⟨hp0,hq0⟩;have hpl:=List.length_pos_iff.2 hp0;have hql:=List.length_pos_iff.2 hq0;have hN:(p.length:Int)+q.length- 1=((p.length+q.length- 1:Nat):Int):=by omega
 refine s_r 8 ?_;refine a_6 ?_;refine o_1 (.makeSlice (l:=p.length+q.length- 1) (c:=p.length+q.length- 1) (by rw[←hN];rfl) (by rw[←hN];rfl) te_36.h TZ.h rfl TB.h (by first|omega|(simp;done)|(simp;omega)) (by first|omega|(simp;done)|(simp;omega)) (by unfold maxLen;first|omega|(simp;done)|(simp;omega))) ?_;refine a_z ?_;refine ae (r_z 3 ?_);have hbd:=fun i=>rU (dN hp hs) (dN hq ht) i
 have hbi:∀i,i≤p.length→i* (s+t+1)+1≤137438953472:=fun i hi=>by
  have:=Nat.mul_le_mul_right (s+t+1) hi;omega
 have hs2:s≤137438953472:=by
  have:=hbi 1 hpl;omega
 refine aH (fun _:Unit=>mulS p q (p.length,eK p q p.length)) (fun _=>True) ?_ ?_;refine aj (aB (fun i:Nat=>mulS p q (i,eK p q i)) (fun i=>p.length- i) (fun i=>i≤p.length) 0 (Nat.zero_le _) ?_ ?_);simp only[mulS.eq_1,eK];exact s_x [(1,5)] (fun hs=>dG) (fun hs=>e_38);rintro i hi;simp only[mulS.eq_1];refine r_z 1 ?_;refine ae (ap rfl (fun h=>?_) (fun h=>?_));refine am ?_;have hlt:i< p.length:=by simpa using h
 have hgp:(pE p)[((i:Nat):Int).toNat]?=some (qC (coP p i)):=pE_get (b9 hlt);refine ae (aj (s_r 6 ?_));refine a_1 ?_;refine i_x hgp ?_;refine l_x hgp ?_;refine a_z ?_;refine ae (r_c 3 (ci (coP p i)) ?_);refine a_z ?_;refine ap rfl (fun h1=>?_) (fun h1=>?_)
 have h0:coP p i=0:=by
  have h1:sgZ (coP p i).num=0:=by simpa using h1
  exact sgZ_num_eq.1 h1
 have hst:eK p q (i+1)=eK p q i:=by rw[eK,if_pos h0]
 refine ay (r_m 2 ?_);refine a_z ?_;refine⟨i+1,by omega,hlt,?_⟩;simp only[mulS.eq_1,hst];exact s_e []
 have h0:coP p i≠0:=by
  intro e;have h1:¬sgZ (coP p i).num=0:=by simpa using h1
  exact h1 (sgZ_num_eq.2 e)
 have hst:eK p q (i+1)=jo (eK p q i) (coP p i) q i q.length:=by rw[eK,if_neg h0]
 refine am (r_z 3 ?_);refine AWp.cutB (fun _:Unit=>mulS p q (i,eK p q (i+1))) (fun _=>True) ?_ ?_;refine aj (aB (fun k:Nat=>mulT p q i (coP p i) (k,jo (eK p q i) (coP p i) q i k)) (fun k=>q.length- k) (fun k=>k≤q.length) 0 (Nat.zero_le _) ?_ ?_);simp only[mulT.eq_1,jo];exact s_e [(2,7)];rintro k hk;simp only[mulT.eq_1];refine r_z 1 ?_;refine ae (ap rfl (fun h2=>?_) (fun h2=>?_));refine am ?_;have hlt2:k< q.length:=by simpa using h2
 have hgq:(pE q)[((k:Nat):Int).toNat]?=some (qC (coP q k)):=pE_get (b9 hlt2);refine ae (aj (s_r 6 ?_));refine a_1 ?_;refine i_x hgq ?_;refine l_x hgq ?_;refine a_z ?_;have hb1:=hbd i;have hb2:=hbi (i+1) hlt;have hb3:=hbi i hi
 have hcur:qs (coP (jo (eK p q i) (coP p i) q i k) (i+k))≤137438953472:=by
  rw[tc _ _ _ _ _ _ (by omega)];exact Nat.le_trans (hb1 (i+k)) hb3
 have hab:=eu (coP p i) (coP q k);have hqa:=dN hp hs i;have hqb:=dN hq ht k;have hik:i+k< (jo (eK p q i) (coP p i) q i k).length:=by simp;omega
 have hgo:(pE (jo (eK p q i) (coP p i) q i k))[(0+(((i:Nat):Int)+(k:Nat)).toNat)]?=some (qC (coP (jo (eK p q i) (coP p i) q i k) (i+k))):=by
  rw[show 0+(((i:Nat):Int)+(k:Nat)).toNat=i+k by omega];exact pE_get (b9 hik)
 refine r_d aY 16 ?_;refine a_8 ?_;refine a_1 ?_
 first|refine aO (.load_l rfl rfl hgo TG.h TS.h (nle rfl)) rfl rfl ?_|refine aO (.load_a rfl hgo TG.h TS.h (nle rfl)) rfl rfl ?_
 refine c_s (cU (coP p i) (coP q k) (by omega)) ?_;refine c_s (fl (coP (jo (eK p q i) (coP p i) q i k) (i+k)) (coP p i* coP q k) (by omega)) ?_;refine a_1 ?_;refine dX (.store rfl rfl hgo rfl rfl rfl TS.h (nle rfl)) ?_;refine ao (n_k ?_);refine r_m 2 ?_;refine a_z ?_;refine⟨k+1,by omega,hlt2,?_⟩
 have hst2:(pE (jo (eK p q i) (coP p i) q i k)).set (0+(((i:Nat):Int)+(k:Nat)).toNat) (qC (coP (jo (eK p q i) (coP p i) q i k) (i+k)+coP p i* coP q k))=pE (jo (eK p q i) (coP p i) q i (k+1)):=by
  rw[show 0+(((i:Nat):Int)+(k:Nat)).toNat=i+k by omega,iP];rfl
 have hl2:(jo (eK p q i) (coP p i) q i (k+1)).length=(jo (eK p q i) (coP p i) q i k).length:=by simp
 simp only[mulT.eq_1,hl2];exact s_x [] (fun hs=>dG) (fun hs=>e_39) e_8
 have hge:k=q.length:=by
  have:¬k< q.length:=by simpa using h2
  omega
 subst hge;refine ay ⟨(),trivial,?_⟩;simp only[mulS.eq_1,hst];exact s_e [];rintro _ _;simp only[mulS.eq_1];refine r_m 2 ?_;refine a_z ?_;refine⟨i+1,by omega,hlt,?_⟩;exact s_e []
 have hge:i=p.length:=by
  have:¬i< p.length:=by simpa using h
  omega
 subst hge;refine ay ⟨(),trivial,?_⟩;simp only[mulS.eq_1];exact s_e [];rintro _ _;simp only[mulS.eq_1]
 have hfull:List.take (eK p q p.length).length (List.drop 0 (pE (eK p q p.length)))=pE (eK p q p.length):=by
  rw[List.drop_zero,List.take_of_length_le (by simp)]
 have hfin:aT p q=aq (eK p q p.length):=by
  unfold aT;rw[if_neg (by rintro(h|h);exact hp0 h;exact hq0 h)]
 rw[hfin];refine s_r 3 ?_;refine a_1 ?_;refine o_1 (.callS1 rfl rfl rfl (.shut rfl d_n (.nil)) rfl ((by rw[hfull];exact dc (eK p q p.length) (by simp;omega)))) ?_;refine a_z ?_;exact ai (t_e (ax _))
end Go.Proofs.YtkhclghbcicapaaGreatDoor
