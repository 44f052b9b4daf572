/- Part V29 of the proof. -/
import Derived.Test.YtkbjakfniejkcaaGreatDoorV28
import Derived.ProofKit
import Derived.OpenShut
import Derived.Carry
import Derived.Deep.Slices
import Derived.Deep.Strs
set_option linter.all false
namespace Go.Proofs.YtkbjakfniejkcaaGreatDoor
open Go.Abs
set_option maxRecDepth 100000
set_option maxHeartbeats 2000000
section
variable {o:Option (List UInt8)}{n:Nat}
section
variable {P:Go.Program}{T:Nat}{x y:Operand}
theorem Cb{l m:List UInt8}:∀w,(do eqGuard .neq T x y (.string ⟨l.toArray⟩) (.string ⟨m.toArray⟩);binOp .neq T (.string ⟨l.toArray⟩) (.string ⟨m.toArray⟩):Sem Value).run P w= .ok (.bool (!decide (l=m))) w:=fun w=>by
 rw[Ca];congr 2
 have e:∀l:List UInt8,(⟨l.toArray⟩:ByteArray).toList=l:=by
  intro l;have:=ByteArray.toList_eq (bs:=⟨l.toArray⟩);simpa using this
 rw[e,e];rw[Bool.eq_iff_iff];simp
end
def la(o:Option (List UInt8))(c:Rat):Option (List UInt8):=
 match o with
 |none=>if c< 0 then some [45] else none
 |some s=>if c< 0 then some (s++[32,45,32]) else some (s++[32,43,32])
def wrO(o:Option (List UInt8))(t:List UInt8):Option (List UInt8):=some (o.getD []++t)
def kU(o:Option (List UInt8))(t:List UInt8):Option (List UInt8):=if t=[49] then o else wrO o (t++[32])
def pj(tq:Rat->List UInt8)(ti:Nat->List UInt8)(o:Option (List UInt8))(c:Rat)(n:Nat):Option (List UInt8):=
 if n=0 then wrO (la o c) (tq (fq c))
 else if 1< n then wrO (wrO (kU (la o c) (tq (fq c))) [120]) ([94]++ti n) else wrO (kU (la o c) (tq (fq c))) [120]
def sV(tq:Rat->List UInt8)(ti:Nat->List UInt8)(p:Lq):Nat->Option (List UInt8)->Option (List UInt8)
 |0,o=>o
 |n+1,o=>sV tq ti p n (if coP p n=0 then o else pj tq ti o (coP p n) n)
def EG(tq:Rat->List UInt8)(ti:Nat->List UInt8)(p:Lq):List UInt8:=(sV tq ti (ao p) (ao p).length none).getD [48]
def EF(p:Lq):List UInt8:=EG na jL p
def Iu(p:Lq):Prop:=p.length<=1000/\(ao p).length<=99/\(∀c∈ao p,okT c)
instance (p:Lq):Decidable (Iu p):=inferInstanceAs (Decidable (_/\_/\_))
def pb0(p:Lq):Int->AState
 |n=>⟨[(0,.arr (pE p)),(3,.lptr 1 0 0),(4,i64 n)],[(1,some ⟨159,2,[eK 1 2 none]⟩)],4,67⟩
def pb1(p:Lq):Int×List UInt8->AState
 |(n,s)=>⟨[(0,.arr (pE p)),(3,.lptr 1 0 0),(4,i64 n)],[(1,some ⟨159,2,[eK 1 2 (some s)]⟩),(2,some ⟨5,1,bE s⟩)],4,67⟩
def pbS(p:Lq)(n:Int):Option (List UInt8)->AState
 |none=>pb0 p n
 |some s=>pb1 p (n,s)
def pc0(p:Lq)(c:Rat):Int->AState
 |n=>⟨[(0,.arr (pE p)),(3,.lptr 1 0 0),(4,i64 n),(5,.lptr 3 0 0)],[(1,some ⟨159,2,[eK 1 2 none]⟩),(3,some ⟨36,3,[qC c]⟩)],4,67⟩
def pc1(p:Lq)(c:Rat):Int×List UInt8->AState
 |(n,s)=>⟨[(0,.arr (pE p)),(3,.lptr 1 0 0),(4,i64 n),(5,.lptr 3 0 0)],[(1,some ⟨159,2,[eK 1 2 (some s)]⟩),(2,some ⟨5,1,bE s⟩),(3,some ⟨36,3,[qC c]⟩)],4,67⟩
def pcS(p:Lq)(c:Rat)(n:Int):Option (List UInt8)->AState
 |none=>pc0 p c n
 |some s=>pc1 p c (n,s)
def pd0(p:Lq)(t:List UInt8):Int->AState
 |n=>⟨[(0,.arr (pE p)),(3,.lptr 1 0 0),(4,i64 n),(6,tx t)],[(1,some ⟨159,2,[eK 1 2 none]⟩)],4,67⟩
def pd1(p:Lq)(t:List UInt8):Int×List UInt8->AState
 |(n,s)=>⟨[(0,.arr (pE p)),(3,.lptr 1 0 0),(4,i64 n),(6,tx t)],[(1,some ⟨159,2,[eK 1 2 (some s)]⟩),(2,some ⟨5,1,bE s⟩)],4,67⟩
def pdS(p:Lq)(t:List UInt8)(n:Int):Option (List UInt8)->AState
 |none=>pd0 p t n
 |some s=>pd1 p t (n,s)
def tu(o:Option (List UInt8))(n:Nat):Prop:=∀s,o=some s->s≠[]/\s.length<=n
theorem u5(n:Nat):tu none n:=fun s h=>by cases h
theorem rQ{t:List UInt8}(h:tu o n)(h0:t≠[]):tu (wrO o t) (n+t.length):=by
 intro s hs;cases hs;cases o with
 |none=>exact⟨by simpa using h0,by simp⟩
 |some q=>exact⟨by simp[h0],by have:=(h q rfl).2;simp;omega⟩
theorem AU(h:tu o n)(c:Rat):tu (la o c) (n+3):=by
 intro s hs;cases o with
 |none=>
  simp only[la] at hs;split at hs;cases hs;exact⟨by simp,by simp⟩;cases hs
 |some q=>
  have:=(h q rfl).2;simp only[la] at hs;split at hs <;> cases hs <;> exact⟨by simp,by simp;omega⟩
theorem im{m:Nat}(h:tu o n)(hm:n<=m):tu o m:=fun s hs=>⟨(h s hs).1,Nat.le_trans (h s hs).2 hm⟩
theorem HD(q:Rat):na q≠[]:=List.length_pos_iff.1 (textQ_len (q:=q)).2
theorem sgZ_neg(c:Rat):sgZ c.num< 0↔c< 0:=by
 rw[<-qo];unfold sgZ;split;omega;split <;> omega
theorem okT_abs{c:Rat}(h:okT c):okT (fq c):=by
 rw[o4];split;obtain⟨a,b⟩:=h;exact⟨by rw[Rat.neg_num];simpa using a,by rw[Rat.neg_den];exact b⟩;exact h
theorem GS(tq:Rat->List UInt8)(ti:Nat->List UInt8)(L:Nat)(p:Lq)(h1:p.length<=1000)(hL:L<=10000)(h3:∀c∈ao p,FS 30 [.agg (qC (fq c))] (tx (tq (fq c)))/\tq (fq c)≠[]/\(tq (fq c)).length<=L)(hI:∀n,n< (ao p).length->FS 83 [i64 n] (tx (ti n))/\(ti n).length<=20):FS 29 [.arr (pE p)] (tx (EG tq ti p)):=by
 have K:=c9 p (by omega);obtain⟨q,X⟩:∃q,q=ao p:=⟨_,rfl⟩;have hR:EG tq ti p=(sV tq ti q q.length none).getD [48]:=by unfold EG;rw[X]
 rw[hR];have h2:=bR p;rw[<-X] at K h2 h3 hI;have C:∀k,(q.length- k) * (L+30)<=10030000:=fun k=>Nat.mul_le_mul (show q.length- k<=1000 by omega) (show L+30<=10030 by omega);refine f_c Tryz.func29 ?_;refine r_z 1 ?_;refine r_z 1 ?_;refine r_c 3 (K) ?_;refine a_z ?_;refine ae (r_z 4 ?_);refine aF (pbS q (-1)) (fun o=>o=sV tq ti q q.length none/\tu o 20000000) ?_ ?_;refine aj (aC (fun x:Nat×Option (List UInt8)=>pbS q ((x.1:Int)- 1) x.2) (fun x=>x.1) (fun x=>x.1<=q.length/\sV tq ti q x.1 x.2=sV tq ti q q.length none/\tu x.2 ((q.length- x.1) * (L+30))) (q.length,none) ⟨Nat.le_refl _,rfl,u5 _⟩ ?_ ?_);show SEnt _ (pb0 q ((q.length:Int)- 1));rw[pb0.eq_1];exact s_e [(1,3)];rintro⟨n,o⟩ ⟨hn,z,u⟩;simp only at hn z u;cases n with
 |zero=>
  cases o with
  |none=>
   show AWp _ _ _ _ (pb0 q (((0:Nat):Int)- 1));rw[pb0.eq_1];refine ae (r_z 2 ?_);refine au rfl (fun a=>?_) (fun a=>?_);exact absurd a (by simp);refine ax ⟨none,⟨z,u5 _⟩,?_⟩;show SEnt _ (pb0 q (-1));rw[pb0.eq_1];exact s_e []
  |some s=>
   show AWp _ _ _ _ (pb1 q (((0:Nat):Int)- 1,s));rw[pb1.eq_1];refine ae (r_z 2 ?_);refine au rfl (fun a=>?_) (fun a=>?_);exact absurd a (by simp);refine ax ⟨some s,⟨z,im u (by have:=C 0;omega)⟩,?_⟩;show SEnt _ (pb1 q (-1,s));rw[pb1.eq_1];exact s_e []
 |succ n=>
  have S:((n+1:Nat):Int)- 1=(n:Int):=by omega
  rw[S];rw[sV] at z;have D:n< q.length:=by omega
  obtain⟨c,W⟩:∃c,c=coP q n:=⟨_,rfl⟩;rw[<-W] at z;have O:(pE q)[((n:Nat):Int).toNat]?=some (qC c):=by rw[Int.toNat_natCast,W];exact pE_get (ci D)
  obtain⟨V,G,T⟩:=h3 c (by rw[W];exact List.mem_of_getElem? (ci D))
  have Y:(q.length- n) * (L+30)=(q.length- (n+1)) * (L+30)+(L+30):=by
   rw[show q.length- n=(q.length- (n+1))+1 by omega,Nat.add_mul,Nat.one_mul]
  obtain⟨B,Z⟩:∃B,B=(q.length- (n+1)) * (L+30):=⟨_,rfl⟩;have hmx:B<=10030000:=by rw[Z];exact C _
  rw[<-Z] at u Y;obtain⟨t,H⟩:∃t,t=tq (fq c):=⟨_,rfl⟩;rw[<-H] at G T V;obtain⟨fI,hd2⟩:=hI n D;refine bH (fun _:Unit=>pbS q n o) (fun _=>True) ?_ ?_;cases o with
  |none=>
   show AWp _ _ _ _ (pb0 q n);rw[pb0.eq_1];refine r_z 2 ?_;refine au rfl (fun a=>?_) (fun a=>?_);refine am ⟨(),trivial,?_⟩;show SEnt _ (pb0 q n);rw[pb0.eq_1];exact s_e [];exact absurd a (by simp)
  |some s=>
   show AWp _ _ _ _ (pb1 q (n,s));rw[pb1.eq_1];refine r_z 2 ?_;refine au rfl (fun a=>?_) (fun a=>?_);refine am ⟨(),trivial,?_⟩;show SEnt _ (pb1 q (n,s));rw[pb1.eq_1];exact s_e [];exact absurd a (by simp)
  rintro _ _;refine bH (pbS q n) (fun A=>A=(if c=0 then o else pj tq ti o c n)) ?_ ?_;refine aj (bH (fun _:Unit=>pcS q c n o) (fun _=>True) ?_ ?_);cases o with
  |none=>
   show AWp _ _ _ _ (pb0 q n);rw[pb0.eq_1];refine r_m 6 ?_;refine a_2 ?_;refine i_x O ?_;refine l_x O ?_;refine a_z ?_;refine⟨(),trivial,?_⟩;show SEnt _ (pc0 q c n);rw[pc0.eq_1];exact s_x [(3,5)] (fun hs=>ek) (fun hs=>JE)
  |some s=>
   show AWp _ _ _ _ (pb1 q (n,s));rw[pb1.eq_1];refine r_m 6 ?_;refine a_2 ?_;refine i_x O ?_;refine l_x O ?_;refine a_z ?_;refine⟨(),trivial,?_⟩;show SEnt _ (pc1 q c (n,s));rw[pc1.eq_1];exact s_x [(3,5)] (fun hs=>ek) (fun hs=>JE)
  rintro _ _;refine bH (fun _:Unit=>pcS q c n o) (fun _=>c≠0) ?_ ?_;cases o with
  |none=>
   show AWp _ _ _ _ (pc0 q c n);rw[pc0.eq_1];refine r_c 3 (cC c) ?_;refine a_z ?_;refine au rfl (fun a=>?_) (fun a=>?_);have b:c=0:=sgZ_num_eq.1 (by simpa using a);refine ax ⟨none,by rw[if_pos b],?_⟩;show SEnt _ (pb0 q n);rw[pb0.eq_1];exact s_e [];have b:c≠0:=fun e=>by have w:=sgZ_num_eq.2 e;simp[w] at a
   refine am ⟨(),b,?_⟩;show SEnt _ (pc0 q c n);rw[pc0.eq_1];exact s_e []
  |some s=>
   show AWp _ _ _ _ (pc1 q c (n,s));rw[pc1.eq_1];refine r_c 3 (cC c) ?_;refine a_z ?_;refine au rfl (fun a=>?_) (fun a=>?_);have b:c=0:=sgZ_num_eq.1 (by simpa using a);refine ax ⟨some s,by rw[if_pos b],?_⟩;show SEnt _ (pb1 q (n,s));rw[pb1.eq_1];exact s_e [];have b:c≠0:=fun e=>by have w:=sgZ_num_eq.2 e;simp[w] at a
   refine am ⟨(),b,?_⟩;show SEnt _ (pc1 q c (n,s));rw[pc1.eq_1];exact s_e []
  rintro _ Q;rw[if_neg Q];have v:(sgZ c.num< 0)↔c< 0:=sgZ_neg c;refine bH (pcS q c n) (fun A=>A=la o c) ?_ ?_;refine aj ?_;cases o with
  |none=>
   show AWp _ _ _ _ (pc0 q c n);rw[pc0.eq_1];refine s_r 8 ?_;refine o_0 (.callR (s:=none) (j:=0) (tb:=0) rfl rfl rfl rfl rfl (fun _ h=>by cases h) (tZ)) ?_;refine a_2 ?_
   first|refine y_g rfl d_t (.load_l rfl rfl rfl TG.h TS.h (nle rfl)) ?_|refine y_g rfl d_t (.load_a rfl rfl TG.h TS.h (nle rfl)) ?_
   refine y_g rfl d_t (.call rfl rfl rfl (cC c)) ?_;refine y_g rfl d_t (.bin rfl rfl ej) ?_;refine o_0 (.pickT rfl d_t rfl) ?_;refine a_z ?_;refine au rfl (fun a=>?_) (fun a=>?_);have b:c< 0:=v.1 (by simpa using a);refine r_m 1 ?_;refine o_2 (.callB (s:=none) (j:=0) rfl rfl rfl rfl rfl rfl (fun _ h=>by cases h) (lQ [45] (by simp) (by simp))) ?_;refine aq ?_;refine⟨some [45],by simp only[la];rw[if_pos b],?_⟩;show SEnt _ (pc1 q c (n,[45]));rw[pc1.eq_1];exact s_z [(2,100012)] (fun hs=>ek) (fun hs=>JE);have b:¬c< 0:=fun e=>by have w:=v.2 e;simp[w] at a
   refine s_r 8 ?_;refine o_0 (.callR (s:=none) (j:=0) (tb:=0) rfl rfl rfl rfl rfl (fun _ h=>by cases h) (tZ)) ?_;refine a_2 ?_;refine n_g rfl d_f ?_;refine n_g rfl d_f ?_;refine n_g rfl d_f ?_;refine o_0 (.pickF rfl d_f rfl) ?_;refine a_z ?_;refine cF (s_r 3 ?_);refine o_0 (.callR (s:=none) (j:=0) (tb:=0) rfl rfl rfl rfl rfl (fun _ h=>by cases h) (tZ)) ?_;refine a_z ?_;refine au rfl (fun r=>?_) (fun r=>?_);exact absurd r (by simp);refine am ⟨none,by simp only[la];rw[if_neg b],?_⟩;show SEnt _ (pc0 q c n);rw[pc0.eq_1];exact s_e []
  |some s=>
   have F:=(u s rfl).1;have g:=(u s rfl).2;have hs0:s.length≠0:=by simpa using F
   show AWp _ _ _ _ (pc1 q c (n,s));rw[pc1.eq_1];refine s_r 8 ?_;refine o_0 (.callR (s:=some _) rfl rfl rfl rfl rfl (fun _ h=>by cases h;exact rfl) (tY s)) ?_;refine a_2 ?_;refine n_g rfl (by simp;omega) ?_;refine n_g rfl (by simp;omega) ?_;refine n_g rfl (by simp;omega) ?_;refine o_0 (.pickF rfl (by simp;omega) rfl) ?_;refine a_z ?_;refine au rfl (fun a=>?_) (fun a=>?_)
   ·first|(simp at a;done)|(simp at a;omega)|(simp at a;exact absurd a F)
   refine s_r 8 ?_;refine o_0 (.callR (s:=some _) rfl rfl rfl rfl rfl (fun _ h=>by cases h;exact rfl) (tY s)) ?_;refine a_2 ?_
   first|refine y_g rfl (by simp;omega) (.load_l rfl rfl rfl TG.h TS.h (nle rfl)) ?_|refine y_g rfl (by simp;omega) (.load_a rfl rfl TG.h TS.h (nle rfl)) ?_
   refine y_g rfl (by simp;omega) (.call rfl rfl rfl (cC c)) ?_;refine y_g rfl (by simp;omega) (.bin rfl rfl ej) ?_;refine o_0 (.pickT rfl (by simp;omega) rfl) ?_;refine a_z ?_;refine au rfl (fun w=>?_) (fun w=>?_);have b:c< 0:=v.1 (by simpa using w);refine r_m 1 ?_;refine o_3 (.callB (s:=some _) rfl rfl rfl rfl rfl rfl (fun _ h=>by cases h;exact⟨rfl,by decide⟩) (jT s [32,45,32] (by simp;omega))) ?_;refine aq ?_;refine⟨some (s++[32,45,32]),by simp only[la];rw[if_pos b],?_⟩;show SEnt _ (pc1 q c (n,s++[32,45,32]));rw[pc1.eq_1];exact s_z [(2,100020)] (fun hs=>ek) (fun hs=>JE);have b:¬c< 0:=fun e=>by have r:=v.2 e;simp[r] at w
   refine s_r 3 ?_;refine o_0 (.callR (s:=some _) rfl rfl rfl rfl rfl (fun _ h=>by cases h;exact rfl) (tY s)) ?_;refine a_z ?_;refine au rfl (fun r=>?_) (fun r=>?_);refine r_m 1 ?_;refine o_3 (.callB (s:=some _) rfl rfl rfl rfl rfl rfl (fun _ h=>by cases h;exact⟨rfl,by decide⟩) (jT s [32,43,32] (by simp;omega))) ?_;refine aq ?_;refine⟨some (s++[32,43,32]),by simp only[la];rw[if_neg b],?_⟩;show SEnt _ (pc1 q c (n,s++[32,43,32]));rw[pc1.eq_1];exact s_z [(2,100023)] (fun hs=>ek) (fun hs=>JE)
   ·first|(simp at r;done)|(simp at r;omega)|(simp at r;exact absurd r F)
  rintro o1 rfl;have i:=AU u c;obtain⟨o1,d⟩:∃o1,o1=la o c:=⟨_,rfl⟩;rw[<-d] at i⊢;refine bH (fun _:Unit=>pdS q t n o1) (fun _=>True) ?_ ?_;cases o1 with
  |none=>
   show AWp _ _ _ _ (pc0 q c n);rw[pc0.eq_1];refine r_m 4 ?_;refine c_s (sf c) ?_;refine c_s (V) ?_;refine a_z ?_;refine⟨(),trivial,?_⟩;show SEnt _ (pd0 q t n);rw[pd0.eq_1];exact s_e []
  |some s=>
   show AWp _ _ _ _ (pc1 q c (n,s));rw[pc1.eq_1];refine r_m 4 ?_;refine c_s (sf c) ?_;refine c_s (V) ?_;refine a_z ?_;refine⟨(),trivial,?_⟩;show SEnt _ (pd1 q t (n,s));rw[pd1.eq_1];exact s_e []
  rintro _ _;refine bH (fun _:Unit=>pdS q t n o1) (fun _=>n≠0) ?_ ?_;cases o1 with
  |none=>
   show AWp _ _ _ _ (pd0 q t n);rw[pd0.eq_1];refine r_z 2 ?_;refine au rfl (fun a=>?_) (fun a=>?_);have b:n=0:=by simpa using a
   subst b;refine s_r 2 ?_;refine a_1 ?_;refine o_2 (.callB (s:=none) (j:=0) rfl rfl rfl rfl rfl rfl (fun _ h=>by cases h) (lQ t G (by omega))) ?_;refine aq ?_;refine ax ⟨some t,by unfold pj;rw[if_pos rfl,<-d,<-H];rfl,?_⟩;show SEnt _ (pb1 q (((0:Nat):Int),t));rw[pb1.eq_1];exact s_z [(2,100007)] (fun hs=>ek) (fun hs=>lV);have b:n≠0:=fun e=>by simp[e] at a
   refine am ⟨(),b,?_⟩;show SEnt _ (pd0 q t n);rw[pd0.eq_1];exact s_e []
  |some s=>
   have g:=(i s rfl).2;show AWp _ _ _ _ (pd1 q t (n,s));rw[pd1.eq_1];refine r_z 2 ?_;refine au rfl (fun a=>?_) (fun a=>?_);have b:n=0:=by simpa using a
   subst b;refine s_r 2 ?_;refine a_1 ?_;refine o_3 (.callB (s:=some _) rfl rfl rfl rfl rfl rfl (fun _ h=>by cases h;exact⟨rfl,by decide⟩) (jT s t (by omega))) ?_;refine aq ?_;refine ax ⟨some (s++t),by unfold pj;rw[if_pos rfl,<-d,<-H];rfl,?_⟩;show SEnt _ (pb1 q (((0:Nat):Int),s++t));rw[pb1.eq_1];exact s_z [(2,100007)] (fun hs=>ek) (fun hs=>lV);have b:n≠0:=fun e=>by simp[e] at a
   refine am ⟨(),b,?_⟩;show SEnt _ (pd1 q t (n,s));rw[pd1.eq_1];exact s_e []
  rintro _ N;refine bH (pbS q n) (fun A=>A=kU o1 t) ?_ ?_;cases o1 with
  |none=>
   show AWp _ _ _ _ (pd0 q t n);rw[pd0.eq_1];refine s_r 2 ?_;refine a_1 ?_;refine o_0 (.bin rfl rfl (Cb (m:=[49]))) ?_;refine aq ?_;refine au rfl (fun a=>?_) (fun a=>?_);have b:¬t=[49]:=by simpa using a
   refine r_m 3 ?_;refine a_1 ?_;refine o_0 (.bin rfl rfl (lS (m:=[32]) (by simp;omega))) ?_;refine o_2 (.callB (s:=none) (j:=0) rfl rfl rfl rfl rfl rfl (fun _ h=>by cases h) (lQ (t++[32]) (by simp) (by simp;omega))) ?_;refine aq ?_;refine⟨some (t++[32]),by unfold kU;rw[if_neg b];rfl,?_⟩;show SEnt _ (pb1 q (n,t++[32]));rw[pb1.eq_1];exact s_z [(2,100008)] (fun hs=>ek) (fun hs=>lV);have b:t=[49]:=by simpa using a
   refine am ⟨none,by unfold kU;rw[if_pos b],?_⟩;show SEnt _ (pb0 q n);rw[pb0.eq_1];exact s_e []
  |some s=>
   have g:=(i s rfl).2;show AWp _ _ _ _ (pd1 q t (n,s));rw[pd1.eq_1];refine s_r 2 ?_;refine a_1 ?_;refine o_0 (.bin rfl rfl (Cb (m:=[49]))) ?_;refine aq ?_;refine au rfl (fun a=>?_) (fun a=>?_);have b:¬t=[49]:=by simpa using a
   refine r_m 3 ?_;refine a_1 ?_;refine o_0 (.bin rfl rfl (lS (m:=[32]) (by simp;omega))) ?_;refine o_3 (.callB (s:=some _) rfl rfl rfl rfl rfl rfl (fun _ h=>by cases h;exact⟨rfl,by decide⟩) (jT s (t++[32]) (by simp;omega))) ?_;refine aq ?_;refine⟨some (s++(t++[32])),by unfold kU;rw[if_neg b];rfl,?_⟩;show SEnt _ (pb1 q (n,s++(t++[32])));rw[pb1.eq_1];exact s_z [(2,100008)] (fun hs=>ek) (fun hs=>lV);have b:t=[49]:=by simpa using a
   refine am ⟨some s,by unfold kU;rw[if_pos b],?_⟩;show SEnt _ (pb1 q (n,s));rw[pb1.eq_1];exact s_e []
  rintro o2 f
  have y:tu o2 (B+L+4):=by
   rw[f];unfold kU;split;exact im i (by omega);exact im (rQ i (t:=t++[32]) (by simp)) (by simp;omega)
  refine bH (fun s=>pb1 q (n,s)) (fun s=>wrO o2 [120]=some s) ?_ ?_;cases o2 with
  |none=>
   show AWp _ _ _ _ (pb0 q n);rw[pb0.eq_1];refine r_m 1 ?_;refine o_2 (.callB (s:=none) (j:=0) rfl rfl rfl rfl rfl rfl (fun _ h=>by cases h) (lQ [120] (by simp) (by simp))) ?_;refine aq ?_;refine⟨[120],rfl,?_⟩;simp only[pb1.eq_1];exact s_z [(2,100004)] (fun hs=>ek) (fun hs=>lV)
  |some s=>
   have g:=(y s rfl).2;show AWp _ _ _ _ (pb1 q (n,s));rw[pb1.eq_1];refine r_m 1 ?_;refine o_3 (.callB (s:=some _) rfl rfl rfl rfl rfl rfl (fun _ h=>by cases h;exact⟨rfl,by decide⟩) (jT s [120] (by simp;omega))) ?_;refine aq ?_;refine⟨s++[120],rfl,?_⟩;simp only[pb1.eq_1];exact s_z [(2,100004)] (fun hs=>ek) (fun hs=>lV)
  rintro s E;have R:=rQ y (t:=[120]) (by simp) s E;have g:s.length<=B+L+5:=R.2;simp only[pb1.eq_1];refine r_z 2 ?_;refine au rfl (fun a=>?_) (fun a=>?_);have b:1< n:=by simp at a;omega
  refine r_m 4 ?_;refine c_s (fI) ?_;refine o_0 (.bin rfl rfl (lS (l:=[94]) (by simp;omega))) ?_;refine o_3 (.callB (s:=some _) rfl rfl rfl rfl rfl rfl (fun _ h=>by cases h;exact⟨rfl,by decide⟩) (jT s ([94]++ti n) (by simp;omega))) ?_;refine aq ?_;refine⟨some (s++([94]++ti n)),by unfold pj;rw[if_neg N,if_pos b,<-d,<-H,<-f,E];rfl,?_⟩;show SEnt _ (pb1 q (n,s++([94]++ti n)));rw[pb1.eq_1];exact s_z [(2,100009)] (fun hs=>ek) (fun hs=>lV);have b:¬1< n:=by simp at a;omega
  refine am ⟨some s,by unfold pj;rw[if_neg N,if_neg b,<-d,<-H,<-f,E],?_⟩;show SEnt _ (pb1 q (n,s));rw[pb1.eq_1];exact s_e [];rintro A M
  have J:tu A (B+(L+30)):=by
   rw[M];split;exact im u (by omega);have U:=AU u c;unfold pj;rw[<-H]
   have g2:tu (kU (la o c) t) (B+L+4):=by
    unfold kU;split;exact im U (by omega);exact im (rQ U (t:=t++[32]) (by simp)) (by simp;omega)
   have g3:=rQ g2 (t:=[120]) (by simp);split;exact im (rQ U G) (by omega);split;exact im (rQ g3 (t:=[94]++ti n) (by simp)) (by simp;omega);exact im g3 (by simp;omega)
  rw[<-M] at z;cases A with
  |none=>
   show AWp _ _ _ _ (pb0 q n);rw[pb0.eq_1];refine r_m 3 ?_;refine a_z ?_;refine⟨(n,none),Nat.lt_succ_self n,⟨by simp only;omega,z,u5 _⟩,?_⟩;show SEnt _ (pb0 q ((n:Int)- 1));rw[pb0.eq_1];exact s_e []
  |some s=>
   show AWp _ _ _ _ (pb1 q (n,s));rw[pb1.eq_1];refine r_m 3 ?_;refine a_z ?_;refine⟨(n,some s),Nat.lt_succ_self n,⟨by simp only;omega,z,by simp only;rw[Y];exact J⟩,?_⟩;show SEnt _ (pb1 q ((n:Int)- 1,s));rw[pb1.eq_1];exact s_e []
 rintro o ⟨rfl,u⟩;cases y:sV tq ti q q.length none with
 |none=>
  show AWp _ _ _ _ (pb0 q (-1));rw[pb0.eq_1];refine ae (s_r 2 ?_);refine o_0 (.callR (s:=none) (j:=0) (tb:=0) rfl rfl rfl rfl rfl (fun _ h=>by cases h) (tZ)) ?_;refine a_z ?_;refine au rfl (fun a=>?_) (fun a=>?_);refine r_z 1 ?_;exact ai (t_e (ag _));exact absurd a (by simp)
 |some s=>
  have hs:=u s y;have g:s.length≠0:=by have:=hs.1;simpa using this
  have hne:=hs.1;show AWp _ _ _ _ (pb1 q (-1,s));rw[pb1.eq_1];refine ae (s_r 2 ?_);refine o_0 (.callR (s:=some _) rfl rfl rfl rfl rfl (fun _ h=>by cases h;exact rfl) (tY s)) ?_;refine a_z ?_;refine au rfl (fun a=>?_) (fun a=>?_);exact absurd a (by simp;omega);refine am (s_r 2 ?_);refine o_2 (.callD rfl rfl rfl rfl rfl rfl (by decide) (by first|assumption|simp) (xP)) ?_;refine a_z ?_;exact ai (t_e (ag _))
theorem vD(p:Lq)(h:Iu p):FS 29 [.arr (pE p)] (tx (EF p)):=by
 obtain⟨a,e,b⟩:=h;exact GS na jL 6 p a (by decide) (fun c d=>⟨vC (fq c) (okT_abs (b c d)),HD _,textQ_len.1⟩) (fun n f=>⟨Fx n (by omega),Nat.le_trans (lM n) (by decide)⟩)
end



def zE(l:List Int):Lc:=l.map fun n=>[i64 n]
theorem iU(l:List Int):∀e∈zE l,∀c∈e,Closed c:=by
 intro e a c b;obtain⟨n,_,rfl⟩:=List.mem_map.1 a;rw[List.mem_singleton.1 b];exact ag _
def zR(l:List Int):Lq:=l.map fun(n:Int)=>(n:Rat)
def qg(q:Rat):Nat->Rat
 |0=>q
 |k+1=>qg q k* q
theorem E3(q:Rat):∀k,qs (qg q k)<=(k+1) * qs q
 |0=>by simp[qg]
 |k+1=>by
  have a:=dw (qg q k) q;have b:=E3 q k;show qs (qg q k* q)<=_;rw[Nat.add_mul (k+1),Nat.one_mul];omega
def wF(D:Int):Int:=if D=0 then 1 else D
def qp(N D:Int)(p:Nat):Rat:=qg (Rat.divInt N (wF D)) (p % 4)
def nuC(N D:Int)(p:Nat):La:=[i64 N,i64 D,.v (.int .u8 p)]
def lA(n:Int):Prop:= -9223372036854775808<=n/\n<=9223372036854775807
theorem iX(N D:Int)(p:Nat):∀c∈nuC N D p,Closed c:=ac (ag _) (ac (ag _) (ac (ag _) af))
theorem JL(n d:Int):(n:Rat) / (d:Rat)=Rat.divInt n d:=(Rat.divInt_eq_div n d).symm
def boT(N:Int)(D:Int)(p:Nat)(q:Rat):Nat->AState
 |k=>⟨[(1,.lptr 1 0 0),(2,.lptr 2 0 0),(3,.lptr 3 0 0),(4,.lptr 4 0 0),(6,.lptr 5 0 0),(7,.lptr 6 0 0),(8,.lptr 7 0 0),(9,.v (.int .u8 k))],
  [(1,some ⟨24,3,[nuC N D p]⟩),(2,some ⟨36,3,[zC]⟩),(3,some ⟨81,4,[[i64 0,.emp,i64 0,.emp]]⟩),(4,some ⟨36,3,[qC q]⟩),(5,some ⟨81,4,[rC (rq q)]⟩),(6,some ⟨36,3,[qC (qg q k)]⟩),(7,some ⟨81,4,[rC (rq (qg q k))]⟩)],8,44⟩
theorem qV(N D:Int)(p:Nat)(hN:lA N)(hD:lA D)(hp:p<=255):FS 20 [.agg (nuC N D p)] (.tup [.agg (qC (qp N D p)),.agg (rC (rq (qp N D p)))]):=by
 obtain⟨d,b⟩:∃d,d=wF D:=⟨_,rfl⟩;have g:d≠0:=by rw[b];unfold wF;split <;> omega
 have a:lA d:=by
  rw[b];unfold wF lA;unfold lA at hD;split <;> omega
 unfold lA at hN a;obtain⟨q,i⟩:∃q,q=Rat.divInt N d:=⟨_,rfl⟩;have f:=fs_Of N d hN a g;rw[JL,<-i] at f;have e:=fs_rOf N d g hN a;rw[<-i] at e;have m:qp N D p=qg q (p % 4):=by unfold qp;rw[<-b,<-i]
 rw[m];refine f_n Tryz.func20 ?_ ?_;exact ac (az (iX N D p)) af;refine r_z 3 ?_
 refine bH (fun _:Unit=>⟨[(1,.lptr 1 0 0),(2,.lptr 2 0 0),(3,.lptr 3 0 0)],
  [(1,some ⟨24,3,[nuC N d p]⟩),(2,some ⟨36,3,[zC]⟩),(3,some ⟨81,4,[[i64 0,.emp,i64 0,.emp]]⟩)],4,44⟩) (fun _=>True) ?_ ?_
 refine r_z 3 ?_;refine au rfl (fun n=>?_) (fun n=>?_);have c:D=0:=by simpa using n
 have o:d=1:=by rw[b];unfold wF;rw[if_pos c]
 refine r_m 2 ?_;refine a_z ?_;refine⟨(),trivial,?_⟩;rw[o];have:=iX N 1 p;exact s_f [];have c:¬D=0:=by simpa using n
 have o:d=D:=by rw[b];unfold wF;rw[if_neg c]
 refine am ⟨(),trivial,?_⟩;rw[o];have:=iX N D p;exact s_f [];rintro _ _;refine r_c 11 (f) ?_;refine a_z ?_;refine r_c 7 (e) ?_;refine a_z ?_;refine ae (r_d a7 6 ?_);refine a_6 ?_;refine aq (n_k ?_);refine ae (r_z 1 ?_)
 have r:qs q<=64:=by
  have hb:∀z:Int,-9223372036854775808<=z/\z<=9223372036854775808->bl z.natAbs<=64:=fun z h=>gM (k:=64) (by omega);rw[i];by_cases hn:d< 0;rw[pD N d hn];exact fF (by omega) (hb (-N) (by omega)) (hb d (by omega));rw[pC N d (by omega)];exact fF (by omega) (hb N (by omega)) (hb d (by omega))
 have t:(p:Int) % 4=((p % 4:Nat):Int):=by omega
 refine aF (fun _:Unit=>boT N d p q (p % 4)) (fun _=>True) ?_ ?_;refine aj (aC (boT N d p q) (fun k=>p % 4- k) (fun k=>k<=p % 4) 0 (Nat.zero_le _) ?_ ?_);simp only[boT.eq_1,qg];exact s_f [(4,4),(5,6),(6,7),(7,8)];rintro k v;rw[boT.eq_1];refine ae (r_z 5 ?_);refine au rfl (fun h=>?_) (fun h=>?_);refine am ?_
 have l:k< p % 4:=by
  have c:(k:Int)< (p:Int) % 4:=by simpa using h
  omega
 have u:=E3 q k;have s:(k+1) * qs q<=4* 64:=Nat.mul_le_mul (by omega) r;refine ae (aj (r_d a7 8 ?_));refine c_s (c6 (qg q k) q (by omega)) ?_;refine c_s (fs_rMul (rq (qg q k)) (rq q) (yH _) (yH _) (by simp only[rq];omega)) ?_;refine a_2 ?_;refine aq (n_k ?_);refine r_m 3 ?_;refine a_z ?_;refine⟨k+1,by omega,l,?_⟩;simp only[boT.eq_1];exact s_f []
 have j:k=p % 4:=by
  have c:¬(k:Int)< (p:Int) % 4:=by simpa using h
  omega
 subst j;refine ax ⟨(),trivial,?_⟩;exact s_f [];rintro _ _;rw[boT.eq_1];refine ae (r_d a7 4 ?_);refine a_4 ?_;refine aq (n_k ?_);refine ai (Fin.many ⟨_,_,rfl,⟨_,_,_,_,_,rfl,rfl,rfl,.inl ⟨TG.h,_,TS.h,nle rfl,rfl⟩⟩,⟨_,_,rfl,⟨_,_,_,_,_,rfl,rfl,rfl,.inl ⟨TG.h,_,TS.h,nle rfl,rfl⟩⟩,rfl⟩⟩ (nle rfl) ?_);exact ah (an aA (aS _)) (ah (an aA (lP _)) av)




inductive LeLL:Lc->Lc->Prop
 |nil:LeLL [] []
 |cons {e e' es es'}:LeL e e'->LeLL es es'->LeLL (e::es) (e'::es')
section
variable {P:Go.Program}{T:Nat}{x y:Operand}
end
abbrev ft:=Int×Int×Nat
def nV(r:ft):Rat:=qp r.1 r.2.1 r.2.2
def nR(l:List ft):Lc:=l.map fun r=>nuC r.1 r.2.1 r.2.2
def nL(l:List ft):Lq:=l.map nV
abbrev rL(l:Lq):Lc:=rE (l.map rq)
def okR(l:List ft):Prop:=∀r∈l,lA r.1/\lA r.2.1/\r.2.2<=255
theorem cM(l:List ft):∀e∈nR l,∀c∈e,Closed c:=by
 intro e a c b;obtain⟨r,_,rfl⟩:=List.mem_map.1 a;exact iX _ _ _ c b
theorem lO(l:Lq):∀e∈rL l,∀c∈e,Closed c:=jQ _
def liS(l:List ft):Lq->Nat->AState
 |[],i=>⟨[(0,.arr (nR l)),(4,.emp),(5,.emp),(6,i64 i)],[],1,33⟩
 |q::Q,i=>⟨[(0,.arr (nR l)),(4,.lsl 1 0 (Q.length+1) none 3),(5,.lsl 2 0 (Q.length+1) none 4),(6,i64 i)],[(1,some ⟨36,3,pE (q::Q)⟩),(2,some ⟨81,4,rL (q::Q)⟩)],3,33⟩
theorem qw(l:List ft)(i:Nat):liS l [] i=⟨[(0,.arr (nR l)),(4,.emp),(5,.emp),(6,i64 i)],[],1,33⟩:=rfl
theorem lu(l:List ft)(q:Rat)(Q:Lq)(i:Nat):liS l (q::Q) i=⟨[(0,.arr (nR l)),(4,.lsl 1 0 (Q.length+1) none 3),(5,.lsl 2 0 (Q.length+1) none 4),(6,i64 i)],[(1,some ⟨36,3,pE (q::Q)⟩),(2,some ⟨81,4,rL (q::Q)⟩)],3,33⟩:=rfl
theorem fs_List(l:List ft)(hl:l.length<=1099511627776)(hb:okR l):FS 124 [.arr (nR l)] (.tup [.arr (pE (nL l)),.arr (rL (nL l))]):=by
 have r:∀q:Rat,∀e∈[rC (rq q)],∀c∈e,Closed c:=fun q=>lO [q];refine f_n Tryz.func124 ?_ ?_;exact ac (aG (cM l)) af;refine r_z 2 ?_;refine r_z 1 ?_;refine r_z 1 ?_;refine ae (r_z 1 ?_);refine aF (fun _:Unit=>liS l (nL l) l.length) (fun _=>True) ?_ ?_;refine aj (aC (fun i:Nat=>liS l (nL (l.take i)) i) (fun i=>l.length- i) (fun i=>i<=l.length) 0 (Nat.zero_le _) ?_ ?_);show SEnt _ (liS l [] 0);rw[qw];have:=(aG (cM l));exact s_f [];rintro i s;have p:(nR l).length=l.length:=by simp[nR]
 by_cases hlt:i< l.length
 ·obtain⟨n,o⟩:∃n,l[i]?=some n:=⟨_,List.getElem?_eq_getElem hlt⟩
  have a:(nR l)[((i:Nat):Int).toNat]?=some (nuC n.1 n.2.1 n.2.2):=by
   show(nR l)[i]?=_;simp[nR,o]
  obtain⟨j,m,k⟩:=hb n (List.mem_of_getElem? o);have b:=qV n.1 n.2.1 n.2.2 j m k;obtain⟨v,hv⟩:∃v,v=qp n.1 n.2.1 n.2.2:=⟨_,rfl⟩;rw[<-hv] at b;have d:nL (l.take (i+1))=nL (l.take i)++[v]:=by rw[cJ o];simp[nL,nV,hv]
  have f:(nL (l.take i)).length=i:=by simp[nL];omega
  cases hQ:nL (l.take i) with
  |nil=>
   simp only[qw];refine ae (r_z 4 ?_);refine au rfl (fun h=>?_) (fun h=>?_);rotate_left;exact absurd h (by simp[nR];omega);refine am (ae (aj (s_r 12 ?_)));refine a_2 ?_;refine i_x a ?_;refine l_x a ?_;refine c_s (b) ?_;refine a_z ?_;refine r_d a7 10 ?_;refine a_8 ?_;refine a_2 ?_;refine aq (n_k ?_);refine r_m 3 ?_;refine a_z ?_;refine⟨i+1,by omega,hlt,?_⟩;simp only[d,hQ,List.nil_append,lu];refine s_x [(1,4),(2,5)] (fun hs=>e_55) (fun hs=>?_)
   ·repeat' (first|exact aE|refine h_c ?_ ?_|exact bm hs (aJ [v])|exact bm hs (lO [v])|exact bZ|refine aD ?_|exact av|refine ah ?_ ?_|exact an hs (aG (cM l))|exact aX)
  |cons q Q=>
   rw[hQ] at f;simp at f;simp only[lu];refine ae (r_z 4 ?_);refine au rfl (fun h=>?_) (fun h=>?_);rotate_left;exact absurd h (by simp[nR];omega);refine am (ae (aj (s_r 12 ?_)));refine a_2 ?_;refine i_x a ?_;refine l_x a ?_;refine c_s (b) ?_;refine a_z ?_;refine r_d a7 10 ?_;refine a_8 ?_;refine a_2 ?_;refine aq (n_k ?_);refine r_m 3 ?_;refine a_z ?_;refine⟨i+1,by omega,hlt,?_⟩;simp only[d,hQ,List.cons_append,lu];have e:pE (q::Q)++[qC v]=pE (q::(Q++[v])):=by simp[pE]
   have e2:rL (q::Q)++[rC (rq v)]=rL (q::(Q++[v])):=by simp[rE]
   refine s_x [(1,4),(2,5)] (fun hs=>e_55) (fun hs=>?_) e_9
   ·repeat' (first|exact aE|refine h_c ?_ ?_|exact aI hs e (aJ _)|exact aI hs e2 (lO _)|exact bZ|refine aD ?_|exact av|refine ah ?_ ?_|exact an hs (aG (cM l))|exact aX)
 have g:i=l.length:=by omega
 subst g;simp only[List.take_length];cases hQ:nL l with
 |nil=>
  simp only[qw];refine ae (r_z 4 ?_);refine au rfl (fun h=>?_) (fun h=>?_);exact absurd h (by simp[nR]);refine ax ⟨(),trivial,?_⟩;simp only[hQ,qw];have:=(aG (cM l));exact s_f []
 |cons q Q=>
  simp only[lu];refine ae (r_z 4 ?_);refine au rfl (fun h=>?_) (fun h=>?_);exact absurd h (by simp[nR]);refine ax ⟨(),trivial,?_⟩;simp only[hQ,lu];have:=(aG (cM l));exact s_f []
 rintro _ _;cases hQ:nL l with
 |nil=>
  simp only[qw];refine r_z 4 ?_;refine ai (Fin.many ⟨_,_,rfl,rfl,⟨_,_,rfl,rfl,rfl⟩⟩ (nle rfl) ?_);exact ah (Cv.emp _) (ah (Cv.emp _) av)
 |cons q Q=>
  simp only[lu];refine r_z 4 ?_;refine ai (Fin.many ⟨_,_,rfl,rfl,⟨_,_,rfl,rfl,rfl⟩⟩ (nle rfl) ?_);exact ah (Cv.sealE aA rfl (fun _ _ h=>by cases h) rfl (by simp) (aJ _)) (ah (Cv.sealE aA rfl (fun _ _ h=>by cases h) rfl (by simp) (lO _)) av)
theorem vG(l:List ft)(hl:l.length<=1099511627776)(hb:okR l):FS 60 [.arr (nR l)] (.tup [.arr (pE (nL l)),.arr (rL (nL l))]):=by
 refine f_n Tryz.func60 ?_ ?_;exact ac (aG (cM l)) af;refine r_z 2 ?_;refine r_c 7 (fs_List l hl hb) ?_;refine a_z ?_;refine r_z 4 ?_;refine ai (Fin.many ⟨_,_,rfl,rfl,⟨_,_,rfl,rfl,rfl⟩⟩ (nle rfl) ?_);exact ah (an aA (aG (aJ _))) (ah (an aA (aG (lO _))) av)
def vR(x:List RQ):Lq:=x.map (·.1)
def wQ(x:List RQ):List RQ:=x.take (ao (vR x)).length
theorem vR_trim(x:List RQ):vR (wQ x)=ao (vR x):=by
 unfold wQ;rw[vR,List.map_take];exact(wR (vR x)).symm
@[simp] theorem wN (x:List RQ):(vR x).length=x.length:=by simp[vR]
def rtmS(x:List RQ):Nat->AState
 |n=>⟨[(0,.arr (rE x)),(3,i64 n)],[],1,23⟩
theorem I2(x:List RQ)(hl:x.length<=1099511627776):FS 125 [.arr (rE x)] (.arr (rE (wQ x))):=by
 obtain⟨v,hv⟩:∃v,v=vR x:=⟨_,rfl⟩;have i:v.length=x.length:=by rw[hv];simp
 refine f_c Tryz.func125 ?_;refine r_z 1 ?_;refine r_z 3 ?_;refine bH (rtmS x) (fun n=>n<=v.length/\ao v=v.take n) ?_ ?_;refine aj (aC (rtmS x) (fun n=>n) (fun n=>n<=v.length/\ao v=ao (v.take n)) v.length ⟨Nat.le_refl _,by rw[List.take_length]⟩ ?_ ?_);simp only[rtmS.eq_1];rw[i];exact s_e [];rintro n ⟨o,a⟩;simp only[rtmS.eq_1];cases n with
 |zero=>
  refine ae (s_r 11 ?_);refine a_1 ?_;refine o_0 (.bin rfl rfl (vF kG ((by simp)))) ?_;refine a_z ?_;refine cF (ax ⟨0,⟨Nat.zero_le _,?_⟩,?_⟩);rw[a];rfl;simp only[rtmS.eq_1];exact s_e []
 |succ n=>
  obtain⟨y,m⟩:∃y,x[n]?=some y:=⟨_,List.getElem?_eq_getElem (by omega)⟩;have p:v[n]?=some y.1:=by rw[hv,vR,List.getElem?_map,m];rfl
  have c:(rE x)[(((n+1:Nat):Int)- 1).toNat]?=some (rC y):=by
   rw[show(((n+1:Nat):Int)- 1).toNat=n by omega];exact rE_get m
  have hs:ao (v.take (n+1))=if y.1=0 then ao (v.take n) else v.take (n+1):=by
   rw[cJ p,l3]
  by_cases h0:y.1=0;refine ae (s_r 11 ?_);refine d_6 ?_;refine aQ rfl rfl rfl (.index_a rfl rfl (by omega) c rfl te_74.h) rfl rfl ?_;refine aQ rfl rfl rfl (.load_a rfl c TG.h TS.h (nle rfl)) rfl rfl ?_;refine c_s (Bm y) ?_;refine aQ rfl rfl rfl (.bin rfl rfl (vT cb ((by rw[h0];decide)))) rfl rfl ?_;refine a_z ?_;refine cT (am (aj (r_m 3 ?_)));refine a_z ?_;refine⟨n,Nat.lt_succ_self n,⟨by omega,?_⟩,?_⟩;rw[a,hs,if_pos h0];exact s_e []
  have q:(sgZ y.1.num==(0:Int))=false:=by
   rw[beq_eq_false_iff_ne];exact fun e=>h0 (sgZ_num_eq.1 e)
  refine ae (s_r 11 ?_);refine d_6 ?_;refine aQ rfl rfl rfl (.index_a rfl rfl (by omega) c rfl te_74.h) rfl rfl ?_;refine aQ rfl rfl rfl (.load_a rfl c TG.h TS.h (nle rfl)) rfl rfl ?_;refine c_s (Bm y) ?_;refine aQ rfl rfl rfl (.bin rfl rfl (vF cb (q))) rfl rfl ?_;refine a_z ?_;refine cF (ax ⟨n+1,⟨o,?_⟩,?_⟩);rw[a,hs,if_neg h0];simp only[rtmS.eq_1];exact s_e []
 rintro n ⟨o,a⟩;simp only[rtmS.eq_1];have j:(ao v).length=n:=by rw[a];simp;omega
 have b:wQ x=x.take n:=by unfold wQ;rw[<-hv,j]
 cases n with
 |zero=>
  refine s_r 5 ?_;refine a_2 ?_;refine o_0 (.sa_h rfl rfl (h:=0) rfl (by simp) te_74.h (yN _)) ?_;refine o_0 (.append0 rfl rfl rfl te_74.h rfl rfl rfl (.arr (es:=[]) (by simp))) ?_;refine a_z ?_;refine ai ?_;rw[b];exact Fin.tmpN rfl
 |succ n=>
  obtain⟨X,g⟩:∃X,X=x.take (n+1):=⟨_,rfl⟩;have f:X.length=n+1:=by rw[g];simp;omega
  have k:rE X≠[]:=fun e=>by have:=congrArg List.length e;simp[f] at this
  have d:(rE x).take (n+1)=rE X:=by rw[rE_take,g]
  have l:(rE x).take (n+1)≠[]:=by rw[d];exact k
  refine s_r 5 ?_;refine a_2 ?_;refine o_0 (.sa_h rfl rfl (h:=n+1) rfl (by simp;omega) te_74.h (yN _)) ?_;refine o_1 (.append_e rfl rfl rfl te_74.h rfl rfl rfl (.arr (by rw[d];exact yN _)) (by first|assumption|(simp;done)) TZ.h rfl TB.h d_o (by first|(simp[maxLen];done)|(simp[maxLen];omega))) ?_;refine a_z ?_;refine ai ?_;rw[b,<-g,<-d];exact Fin.tmpS rfl rfl rfl rfl (by rw[d];exact jQ _)
def rP(v:Lq):List RQ:=v.map rq
theorem EA(v:Lq):vR (rP v)=v:=by
 unfold vR rP;rw[List.map_map];exact List.map_id' v
@[simp] theorem rP_length (v:Lq):(rP v).length=v.length:=by simp[rP]
@[simp] theorem pP (x:List RQ):(wQ x).length=(ao (vR x)).length:=by rw[<-vR_trim,wN]
theorem iQ(x:List RQ)(hl:x.length<=1000000):FS 61 [.arr (rE x)] (i64 (bO (vR x))):=by
 have a:=bR (vR x);rw[wN,<-pP] at a;refine f_c Tryz.func61 ?_;refine r_z 1 ?_;refine r_c 5 (I2 x (by omega)) ?_;refine a_z ?_;exact ai (aW rfl (by rw[pP];rfl) (ag _))









end Go.Proofs.YtkbjakfniejkcaaGreatDoor
namespace Go.Proofs.YtkbjakfniejkcaaGreatDoor
open Go.Abs Go.Deep Go.RowKit
set_option maxRecDepth 20000
theorem D0{M:Nat->Prop}{β:Bq}{w:World}{b s off:Nat}{f:Nat->La}:∀(n j:Nat),(∀i,i< j+n->(f i).length=s/\RVcs M β w b (f i) (off+i* s))->RVess M β w b s ((List.range' j n).map f) (off+j* s)
 |0,_,_=>trivial
 |n+1,j,h=>by
  rw[List.range'_succ,List.map_cons];refine⟨(h j (by omega)).1,(h j (by omega)).2,?_⟩;have:=D0 (M:=M) (β:=β) (w:=w) (b:=b) (s:=s) (off:=off) n (j+1) (fun i a=>h i (by omega));rwa[Nat.add_mul,Nat.one_mul,<-Nat.add_assoc] at this
theorem pT{w:World}{b o:Nat}{v:Value}(h:w.cell? ⟨b,o,none⟩=some v):∃N,aU w b=some N:=by
 unfold World.cell? at h;unfold aU;split at h
 ·rename_i c _ _ e;rw[show w.heap[b]?=_ from e];exact⟨c.size,rfl⟩
 cases h
theorem tyS:(Tryz.prog).underlying 27=some (.slice 24):=by kernel_rfl
theorem tyN:∃f0 f1 f2,(Tryz.prog).underlying 24=some (.struct #[f0,f1,f2])/\f0.type=2/\f0.offset=0/\f1.type=2/\f1.offset=1/\f2.type=5/\f2.offset=2:=
 ⟨{name:= "N",type:=2,offset:=0,embedded:=false,tag:= "",pkgPath:= "",byteOffset:=0},{name:= "D",type:=2,offset:=1,embedded:=false,tag:= "",pkgPath:= "",byteOffset:=8},{name:= "Pow",type:=5,offset:=2,embedded:=false,tag:= "",pkgPath:= "",byteOffset:=16},by kernel_rfl,rfl,rfl,rfl,rfl,rfl,rfl⟩
theorem ED:(Tryz.prog).cellsOf 24=3:=by kernel_rfl
theorem tyc2:(Tryz.prog).cellsOf 2=1:=by kernel_rfl
theorem tyc5:(Tryz.prog).cellsOf 5=1:=by kernel_rfl
theorem tyu2:(Tryz.prog).underlying 2=some (.int .i64):=by kernel_rfl
theorem tyu5:(Tryz.prog).underlying 5=some (.int .u8):=by kernel_rfl
theorem yX{H:Type}{enc:TypeId×Value->H}{W:World}{base n:Nat}{spare:Nat->Bool}{held:Bool}{cs:List Value}{x:DataW H×List MemPlace}(h:DataW.trod enc Tryz.prog W base spare held n 24 cs=some x):
    ∃r:ft,lA r.1/\lA r.2.1/\r.2.2<=255/\cs=[.int .i64 r.1,.int .i64 r.2.1,.int .u8 r.2.2]:=by
 obtain⟨w,y,z,p,j,g,q,i,k,s⟩:=tyN;obtain⟨A,v,B,m,_,e,c,d,b⟩:=trod_struct3 p h;rw[j,g,tyc2] at c;rw[q,i,tyc2] at d;rw[k,s,tyc5] at b;rw[ED] at e;obtain⟨l,e0,_,o⟩:=DataW.trod_int tyu2 c;obtain⟨t,e1,_,f⟩:=DataW.trod_int tyu2 d;obtain⟨a,e2,_,u⟩:=DataW.trod_int tyu5 b
 match cs,e with
 |[c0,c1,c2],_=>
  simp at e0 e1 e2;subst e0;subst e1;subst e2;have b2:=bounds_u8 u;refine⟨(l,t,a.toNat),bounds_i64 o,bounds_i64 f,?_,?_⟩;show a.toNat<=255;omega;show _=[_,_,Value.int .u8 ((a.toNat:Nat):Int)];rw[Int.toNat_of_nonneg b2.1]
theorem yF{H:Type}{enc:TypeId×Value->H}{W:World}{a:Option Addr}{len cap:Nat}{d:DataW H}{ps:List MemPlace}(h:DataW.Trod enc Tryz.prog W 0 (fun _=>true) true 27 (.slice a len cap) d ps):
    ∃l:List ft,okR l/\RV (fun _=>False) (fun _=>none) W (.arr (nR l)) (.slice a len cap):=by
 obtain⟨J,Q⟩:=h;rcases open_slice tyS Q with⟨o,_⟩|⟨x,G,F,m,n,D,Z,o,_,T,X,t,_,C⟩
 simp[Value.cells] at o;obtain⟨rfl,rfl,rfl⟩:=o;exact⟨[],(fun r B=>by cases B),none,0,rfl,Nat.le_refl _,by decide,.inl rfl⟩;simp[Value.cells] at o;obtain⟨rfl,rfl,rfl⟩:=o;simp only[if_true] at t;have A:m=cap:=t;rw[A] at C;rw[ED] at C
 have z:∀i,i< len->∃r:ft,(lA r.1/\lA r.2.1/\r.2.2<=255)/\W.cells? 0 (x.add (i* 3)) 3=some [.int .i64 r.1,.int .i64 r.2.1,.int .u8 r.2.2]:=fun i y=>by
  obtain⟨U,S,O⟩:=C i (by omega);obtain⟨r,N,V,L,e⟩:=yX O;exact⟨r,⟨N,V,L⟩,by rw[S,e]⟩
 obtain⟨R,K⟩:=choose_lt (α:=ft) z;refine⟨(List.range len).map R,?_,some x,cap,by simp[nR],by simpa[nR] using T,X,?_⟩;intro r B;obtain⟨i,y,rfl⟩:=List.mem_map.1 B;exact(K i (List.mem_range.1 y)).1;by_cases h0:len=0;subst h0;exact .inl rfl;right
 have c:∀i,i< len->∀j (v:Value),[.int .i64 (R i).1,.int .i64 (R i).2.1,.int .u8 (R i).2.2][j]?=some v->W.cell? (x.add (i* 3+j))=some v:=fun i y j v hv=>by
  have Y:j< 3:=by
   have:=(List.getElem?_eq_some_iff.1 hv).1;simpa using this
  have:=(World.cells?_some (K i y).2).2.2 j Y;rw[hv,Go.Deep.add_add] at this;exact this
 have E:=c 0 (by omega) 0 _ rfl;obtain⟨b,off,u⟩:=x;have q:u=none:=by simpa[Addr.add] using World.cell?_spot E
 subst q
 have g:∀k,Addr.add ⟨b,off,none⟩ k=⟨b,off+k,none⟩:=fun k=>by
  unfold Addr.add;by_cases hk:k=0;simp[hk];simp[hk]
 refine⟨b,off,3,rfl,pT (by rw[g] at E;exact E),(fun h=>h),?_⟩;have:=D0 (M:=fun _=>False) (β:=fun _=>none) (w:=W) (b:=b) (s:=3) (off:=off) (f:=fun i=>nuC (R i).1 (R i).2.1 (R i).2.2) len 0 (fun i y=>⟨rfl,?_⟩);rw[Nat.zero_mul,Nat.add_zero,<-List.range_eq_range'] at this;rw[nR,List.map_map];exact this;have p:i< len:=by omega
 refine⟨⟨_,?_,rfl⟩,⟨_,?_,rfl⟩,⟨_,?_,rfl⟩,trivial⟩;have:=c i p 0 _ rfl;rw[g] at this;exact this;have:=c i p 1 _ rfl;rw[g] at this;rw[Nat.add_assoc];exact this;have:=c i p 2 _ rfl;rw[g] at this;rw[Nat.add_assoc,Nat.add_assoc];exact this
end Go.Proofs.YtkbjakfniejkcaaGreatDoor
namespace Go.Proofs.YtkbjakfniejkcaaGreatDoor
open Go.Abs
set_option maxRecDepth 20000
set_option maxHeartbeats 2000000
theorem mxL_le{p:Lq}{s:Nat}(h:bdL p s)(hs:1<=s):mxL p<=s:=by
 unfold mxL
 induction p with
 |nil=>exact hs
 |cons a l c=>
  have e:=h a (List.mem_cons_self ..);have d:=c fun q b=>h q (List.mem_cons_of_mem _ b);rw[List.foldr_cons];omega
def pkR(p:Lq×Lq):La:=[.arr (rE (rP p.1)),.arr (rE (rP p.2))]
def keR(k:Ke):Lc:=k.map pkR
@[simp] theorem pr (k:Ke):(keR k).length=k.length:=by simp[keR]
theorem kF(k:Ke):∀x∈keR k,∀c∈x,Closed c:=fun x a=>by
 obtain⟨p,_,rfl⟩:=List.mem_map.1 a;exact ac (fj _) (ac (fj _) af)
theorem fO(k:Ke):Closed (.arr (keR k)):=aG (kF k)
theorem keR_get{k:Ke}{i:Nat}{p:Lq×Lq}(h:k[i]?=some p):∀e,e=i->(keR k)[e]?=some (pkR p):=fun e a=>by
 rw[a,keR,List.getElem?_map,h];rfl



theorem GZ(p:Lq)(h:oD p)(h0:ao p≠[])(hl:p.length<=1099511627776):FS 38 [.arr (pE p)] (.tup [.agg (qC (a8 p)),i64 0]):=by
 refine f_c Tryz.func38 ?_;refine r_z 2 ?_;refine ae (r_c 3 (db p hl) ?_);refine a_z ?_;refine au rfl (fun a=>?_) (fun a=>?_);exact absurd (degP_neg.1 (by simpa using a)) h0;refine am (r_c 4 (vy p h h0) ?_);refine a_z ?_;refine ai (Fin.many ⟨_,_,rfl,⟨_,_,_,_,_,rfl,rfl,rfl,.inl ⟨TG.h,_,TS.h,nle rfl,rfl⟩⟩,⟨_,_,rfl,rfl,rfl⟩⟩ (nle rfl) ?_);exact ah (an aA (aS _)) (ah (an aA (ag _)) av)













end Go.Proofs.YtkbjakfniejkcaaGreatDoor
