/- Part V27. -/
import Derived.Test.YtiodeiecpoopgaaGreatDoorV26
import Derived.Shelf.Strconv.Itoa3
import Derived.Shelf.Strings.Repeat
set_option linter.all false
namespace Go.Proofs.YtiodeiecpoopgaaGreatDoor
open Go.Abs
set_option maxRecDepth 100000
set_option maxHeartbeats 2000000
section
variable {o:Option (List UInt8)}{n:Nat}
section
variable {P:Go.Program}{T:Nat}{x y:Operand}
theorem BR{l m:List UInt8}:∀w,(do eqGuard .neq T x y (.string ⟨l.toArray⟩) (.string ⟨m.toArray⟩);binOp .neq T (.string ⟨l.toArray⟩) (.string ⟨m.toArray⟩):Sem Value).run P w= .ok (.bool (!decide (l=m))) w:=fun w=>by
 rw[BQ];congr 2
 have e:∀l:List UInt8,(⟨l.toArray⟩:ByteArray).toList=l:=by
  intro l;have:=ByteArray.toList_eq (bs:=⟨l.toArray⟩);simpa using this
 rw[e,e];rw[Bool.eq_iff_iff];simp
end
def k9(o:Option (List UInt8))(c:Rat):Option (List UInt8):=
 match o with
 |none=>if c< 0 then some [45] else none
 |some s=>if c< 0 then some (s++[32,45,32]) else some (s++[32,43,32])
def wrO(o:Option (List UInt8))(t:List UInt8):Option (List UInt8):=some (o.getD []++t)
def kN(o:Option (List UInt8))(t:List UInt8):Option (List UInt8):=if t=[49] then o else wrO o (t++[32])
def oj(tq:Rat->List UInt8)(ti:Nat->List UInt8)(o:Option (List UInt8))(c:Rat)(n:Nat):Option (List UInt8):=
 if n=0 then wrO (k9 o c) (tq (gi c))
 else if 1< n then wrO (wrO (kN (k9 o c) (tq (gi c))) [120]) ([94]++ti n) else wrO (kN (k9 o c) (tq (gi c))) [120]
def sI(tq:Rat->List UInt8)(ti:Nat->List UInt8)(p:Lq):Nat->Option (List UInt8)->Option (List UInt8)
 |0,o=>o
 |n+1,o=>sI tq ti p n (if coP p n=0 then o else oj tq ti o (coP p n) n)
def Ez(tq:Rat->List UInt8)(ti:Nat->List UInt8)(p:Lq):List UInt8:=(sI tq ti (ar p) (ar p).length none).getD [48]
def Ey(p:Lq):List UInt8:=Ez mu jG p
def IV(p:Lq):Prop:=p.length<=1000/\(ar p).length<=99/\(∀c∈ar p,okT c)
instance (p:Lq):Decidable (IV p):=inferInstanceAs (Decidable (_/\_/\_))
def pb0(p:Lq):Int->AState
 |n=>⟨[(0,.arr (pE p)),(3,.lptr 1 0 0),(4,i64 n)],[(1,some ⟨158,2,[dO 1 2 none]⟩)],4,67⟩
def pb1(p:Lq):Int×List UInt8->AState
 |(n,s)=>⟨[(0,.arr (pE p)),(3,.lptr 1 0 0),(4,i64 n)],[(1,some ⟨158,2,[dO 1 2 (some s)]⟩),(2,some ⟨5,1,bE s⟩)],4,67⟩
def pbS(p:Lq)(n:Int):Option (List UInt8)->AState
 |none=>pb0 p n
 |some s=>pb1 p (n,s)
def pc0(p:Lq)(c:Rat):Int->AState
 |n=>⟨[(0,.arr (pE p)),(3,.lptr 1 0 0),(4,i64 n),(5,.lptr 3 0 0)],[(1,some ⟨158,2,[dO 1 2 none]⟩),(3,some ⟨48,3,[qC c]⟩)],4,67⟩
def pc1(p:Lq)(c:Rat):Int×List UInt8->AState
 |(n,s)=>⟨[(0,.arr (pE p)),(3,.lptr 1 0 0),(4,i64 n),(5,.lptr 3 0 0)],[(1,some ⟨158,2,[dO 1 2 (some s)]⟩),(2,some ⟨5,1,bE s⟩),(3,some ⟨48,3,[qC c]⟩)],4,67⟩
def pcS(p:Lq)(c:Rat)(n:Int):Option (List UInt8)->AState
 |none=>pc0 p c n
 |some s=>pc1 p c (n,s)
def pd0(p:Lq)(t:List UInt8):Int->AState
 |n=>⟨[(0,.arr (pE p)),(3,.lptr 1 0 0),(4,i64 n),(6,tx t)],[(1,some ⟨158,2,[dO 1 2 none]⟩)],4,67⟩
def pd1(p:Lq)(t:List UInt8):Int×List UInt8->AState
 |(n,s)=>⟨[(0,.arr (pE p)),(3,.lptr 1 0 0),(4,i64 n),(6,tx t)],[(1,some ⟨158,2,[dO 1 2 (some s)]⟩),(2,some ⟨5,1,bE s⟩)],4,67⟩
def pdS(p:Lq)(t:List UInt8)(n:Int):Option (List UInt8)->AState
 |none=>pd0 p t n
 |some s=>pd1 p t (n,s)
def td(o:Option (List UInt8))(n:Nat):Prop:=∀s,o=some s->s≠[]/\s.length<=n
theorem uU(n:Nat):td none n:=fun s h=>by cases h
theorem rA{t:List UInt8}(h:td o n)(h0:t≠[]):td (wrO o t) (n+t.length):=by
 intro s hs;cases hs;cases o with
 |none=>exact⟨by simpa using h0,by simp⟩
 |some q=>exact⟨by simp[h0],by have:=(h q rfl).2;simp;omega⟩
theorem AH(h:td o n)(c:Rat):td (k9 o c) (n+3):=by
 intro s hs;cases o with
 |none=>
  simp only[k9] at hs;split at hs;cases hs;exact⟨by simp,by simp⟩;cases hs
 |some q=>
  have:=(h q rfl).2;simp only[k9] at hs;split at hs <;> cases hs <;> exact⟨by simp,by simp;omega⟩
theorem gY{m:Nat}(h:td o n)(hm:n<=m):td o m:=fun s hs=>⟨(h s hs).1,Nat.le_trans (h s hs).2 hm⟩
theorem HN(q:Rat):mu q≠[]:=List.length_pos_iff.1 (textQ_len (q:=q)).2
theorem sgZ_neg(c:Rat):sgZ c.num< 0↔c< 0:=by
 rw[<-pq];unfold sgZ;split;omega;split <;> omega
theorem okT_abs{c:Rat}(h:okT c):okT (gi c):=by
 rw[zW];split;obtain⟨a,b⟩:=h;exact⟨by rw[Rat.neg_num];simpa using a,by rw[Rat.neg_den];exact b⟩;exact h
theorem G5(tq:Rat->List UInt8)(ti:Nat->List UInt8)(L:Nat)(p:Lq)(h1:p.length<=1000)(hL:L<=10000)(h3:∀c∈ar p,FS 32 [.agg (qC (gi c))] (tx (tq (gi c)))/\tq (gi c)≠[]/\(tq (gi c)).length<=L)(hI:∀n,n< (ar p).length->FS 85 [i64 n] (tx (ti n))/\(ti n).length<=20):FS 31 [.arr (pE p)] (tx (Ez tq ti p)):=by
 have K:=dq p (by omega);obtain⟨q,X⟩:∃q,q=ar p:=⟨_,rfl⟩;have hR:Ez tq ti p=(sI tq ti q q.length none).getD [48]:=by unfold Ez;rw[X]
 rw[hR];have h2:=bw p;rw[<-X] at K h2 h3 hI;have C:∀k,(q.length- k) * (L+30)<=10030000:=fun k=>Nat.mul_le_mul (show q.length- k<=1000 by omega) (show L+30<=10030 by omega);refine f_c Tryz.func31 ?_;refine r_z 1 ?_;refine r_z 1 ?_;refine r_c 3 (K) ?_;refine a_z ?_;refine ae (r_z 4 ?_);refine aC (pbS q (-1)) (fun o=>o=sI tq ti q q.length none/\td o 20000000) ?_ ?_;refine ah (ax (fun x:Nat×Option (List UInt8)=>pbS q ((x.1:Int)- 1) x.2) (fun x=>x.1) (fun x=>x.1<=q.length/\sI tq ti q x.1 x.2=sI tq ti q q.length none/\td x.2 ((q.length- x.1) * (L+30))) (q.length,none) ⟨Nat.le_refl _,rfl,uU _⟩ ?_ ?_);show SEnt _ (pb0 q ((q.length:Int)- 1));rw[pb0.eq_1];exact s_e [(1,3)];rintro⟨n,o⟩ ⟨hn,z,u⟩;simp only at hn z u;cases n with
 |zero=>
  cases o with
  |none=>
   show AWp _ _ _ _ (pb0 q (((0:Nat):Int)- 1));rw[pb0.eq_1];refine ae (r_z 2 ?_);refine ap rfl (fun a=>?_) (fun a=>?_);exact absurd a (by simp);refine aw ⟨none,⟨z,uU _⟩,?_⟩;show SEnt _ (pb0 q (-1));rw[pb0.eq_1];exact s_e []
  |some s=>
   show AWp _ _ _ _ (pb1 q (((0:Nat):Int)- 1,s));rw[pb1.eq_1];refine ae (r_z 2 ?_);refine ap rfl (fun a=>?_) (fun a=>?_);exact absurd a (by simp);refine aw ⟨some s,⟨z,gY u (by have:=C 0;omega)⟩,?_⟩;show SEnt _ (pb1 q (-1,s));rw[pb1.eq_1];exact s_e []
 |succ n=>
  have S:((n+1:Nat):Int)- 1=(n:Int):=by omega
  rw[S];rw[sI] at z;have D:n< q.length:=by omega
  obtain⟨c,W⟩:∃c,c=coP q n:=⟨_,rfl⟩;rw[<-W] at z;have O:(pE q)[((n:Nat):Int).toNat]?=some (qC c):=by rw[Int.toNat_natCast,W];exact dT (ci D)
  obtain⟨V,G,T⟩:=h3 c (by rw[W];exact List.mem_of_getElem? (ci D))
  have Y:(q.length- n) * (L+30)=(q.length- (n+1)) * (L+30)+(L+30):=by
   rw[show q.length- n=(q.length- (n+1))+1 by omega,Nat.add_mul,Nat.one_mul]
  obtain⟨B,Z⟩:∃B,B=(q.length- (n+1)) * (L+30):=⟨_,rfl⟩;have hmx:B<=10030000:=by rw[Z];exact C _
  rw[<-Z] at u Y;obtain⟨t,H⟩:∃t,t=tq (gi c):=⟨_,rfl⟩;rw[<-H] at G T V;obtain⟨fI,hd2⟩:=hI n D;refine a6 (fun _:Unit=>pbS q n o) (fun _=>True) ?_ ?_;cases o with
  |none=>
   show AWp _ _ _ _ (pb0 q n);rw[pb0.eq_1];refine r_z 2 ?_;refine ap rfl (fun a=>?_) (fun a=>?_);refine am ⟨(),trivial,?_⟩;show SEnt _ (pb0 q n);rw[pb0.eq_1];exact s_e [];exact absurd a (by simp)
  |some s=>
   show AWp _ _ _ _ (pb1 q (n,s));rw[pb1.eq_1];refine r_z 2 ?_;refine ap rfl (fun a=>?_) (fun a=>?_);refine am ⟨(),trivial,?_⟩;show SEnt _ (pb1 q (n,s));rw[pb1.eq_1];exact s_e [];exact absurd a (by simp)
  rintro _ _;refine a6 (pbS q n) (fun A=>A=(if c=0 then o else oj tq ti o c n)) ?_ ?_;refine ah (a6 (fun _:Unit=>pcS q c n o) (fun _=>True) ?_ ?_);cases o with
  |none=>
   show AWp _ _ _ _ (pb0 q n);rw[pb0.eq_1];refine r_m 6 ?_;refine a_2 ?_;refine i_x O ?_;refine l_x O ?_;refine a_z ?_;refine⟨(),trivial,?_⟩;show SEnt _ (pc0 q c n);rw[pc0.eq_1];exact s_x [(3,5)] (fun hs=>dJ) (fun hs=>Kc)
  |some s=>
   show AWp _ _ _ _ (pb1 q (n,s));rw[pb1.eq_1];refine r_m 6 ?_;refine a_2 ?_;refine i_x O ?_;refine l_x O ?_;refine a_z ?_;refine⟨(),trivial,?_⟩;show SEnt _ (pc1 q c (n,s));rw[pc1.eq_1];exact s_x [(3,5)] (fun hs=>dJ) (fun hs=>Kc)
  rintro _ _;refine a6 (fun _:Unit=>pcS q c n o) (fun _=>c≠0) ?_ ?_;cases o with
  |none=>
   show AWp _ _ _ _ (pc0 q c n);rw[pc0.eq_1];refine r_c 3 (cJ c) ?_;refine a_z ?_;refine ap rfl (fun a=>?_) (fun a=>?_);have b:c=0:=sgZ_num_eq.1 (by simpa using a);refine aw ⟨none,by rw[if_pos b],?_⟩;show SEnt _ (pb0 q n);rw[pb0.eq_1];exact s_e [];have b:c≠0:=fun e=>by have w:=sgZ_num_eq.2 e;simp[w] at a
   refine am ⟨(),b,?_⟩;show SEnt _ (pc0 q c n);rw[pc0.eq_1];exact s_e []
  |some s=>
   show AWp _ _ _ _ (pc1 q c (n,s));rw[pc1.eq_1];refine r_c 3 (cJ c) ?_;refine a_z ?_;refine ap rfl (fun a=>?_) (fun a=>?_);have b:c=0:=sgZ_num_eq.1 (by simpa using a);refine aw ⟨some s,by rw[if_pos b],?_⟩;show SEnt _ (pb1 q (n,s));rw[pb1.eq_1];exact s_e [];have b:c≠0:=fun e=>by have w:=sgZ_num_eq.2 e;simp[w] at a
   refine am ⟨(),b,?_⟩;show SEnt _ (pc1 q c (n,s));rw[pc1.eq_1];exact s_e []
  rintro _ Q;rw[if_neg Q];have v:(sgZ c.num< 0)↔c< 0:=sgZ_neg c;refine a6 (pcS q c n) (fun A=>A=k9 o c) ?_ ?_;refine ah ?_;cases o with
  |none=>
   show AWp _ _ _ _ (pc0 q c n);rw[pc0.eq_1];refine s_r 8 ?_;refine o_0 (.callR (s:=none) (j:=0) (tb:=0) rfl rfl rfl rfl rfl (fun _ h=>by cases h) (tO)) ?_;refine a_2 ?_;refine y_g rfl d_t (.load_l rfl rfl rfl TG.h TS.h (nle rfl)) ?_;refine y_g rfl d_t (.call rfl rfl rfl (cJ c)) ?_;refine y_g rfl d_t (.bin rfl rfl ec) ?_;refine o_0 (.pickT rfl d_t rfl) ?_;refine a_z ?_;refine ap rfl (fun a=>?_) (fun a=>?_);have b:c< 0:=v.1 (by simpa using a);refine r_m 1 ?_;refine o_2 (.callB (s:=none) (j:=0) rfl rfl rfl rfl rfl rfl (fun _ h=>by cases h) (jP [45] (by simp) (by simp))) ?_;refine ao ?_;refine⟨some [45],by simp only[k9];rw[if_pos b],?_⟩;show SEnt _ (pc1 q c (n,[45]));rw[pc1.eq_1];exact s_z [(2,100012)] (fun hs=>dJ) (fun hs=>Kc);have b:¬c< 0:=fun e=>by have w:=v.2 e;simp[w] at a
   refine s_r 8 ?_;refine o_0 (.callR (s:=none) (j:=0) (tb:=0) rfl rfl rfl rfl rfl (fun _ h=>by cases h) (tO)) ?_;refine a_2 ?_;refine n_g rfl d_f ?_;refine n_g rfl d_f ?_;refine n_g rfl d_f ?_;refine o_0 (.pickF rfl d_f rfl) ?_;refine a_z ?_;refine cF (s_r 3 ?_);refine o_0 (.callR (s:=none) (j:=0) (tb:=0) rfl rfl rfl rfl rfl (fun _ h=>by cases h) (tO)) ?_;refine a_z ?_;refine ap rfl (fun r=>?_) (fun r=>?_);exact absurd r (by simp);refine am ⟨none,by simp only[k9];rw[if_neg b],?_⟩;show SEnt _ (pc0 q c n);rw[pc0.eq_1];exact s_e []
  |some s=>
   have F:=(u s rfl).1;have g:=(u s rfl).2;have hs0:s.length≠0:=by simpa using F
   show AWp _ _ _ _ (pc1 q c (n,s));rw[pc1.eq_1];refine s_r 8 ?_;refine o_0 (.callR (s:=some _) rfl rfl rfl rfl rfl (fun _ h=>by cases h;exact rfl) (tN s)) ?_;refine a_2 ?_;refine n_g rfl (by simp;omega) ?_;refine n_g rfl (by simp;omega) ?_;refine n_g rfl (by simp;omega) ?_;refine o_0 (.pickF rfl (by simp;omega) rfl) ?_;refine a_z ?_;refine ap rfl (fun a=>?_) (fun a=>?_)
   ·first|(simp at a;done)|(simp at a;omega)|(simp at a;exact absurd a F)
   refine s_r 8 ?_;refine o_0 (.callR (s:=some _) rfl rfl rfl rfl rfl (fun _ h=>by cases h;exact rfl) (tN s)) ?_;refine a_2 ?_;refine y_g rfl (by simp;omega) (.load_l rfl rfl rfl TG.h TS.h (nle rfl)) ?_;refine y_g rfl (by simp;omega) (.call rfl rfl rfl (cJ c)) ?_;refine y_g rfl (by simp;omega) (.bin rfl rfl ec) ?_;refine o_0 (.pickT rfl (by simp;omega) rfl) ?_;refine a_z ?_;refine ap rfl (fun w=>?_) (fun w=>?_);have b:c< 0:=v.1 (by simpa using w);refine r_m 1 ?_;refine o_3 (.callB (s:=some _) rfl rfl rfl rfl rfl rfl (fun _ h=>by cases h;exact⟨rfl,by decide⟩) (gP s [32,45,32] (by simp;omega))) ?_;refine ao ?_;refine⟨some (s++[32,45,32]),by simp only[k9];rw[if_pos b],?_⟩;show SEnt _ (pc1 q c (n,s++[32,45,32]));rw[pc1.eq_1];exact s_z [(2,100020)] (fun hs=>dJ) (fun hs=>Kc);have b:¬c< 0:=fun e=>by have r:=v.2 e;simp[r] at w
   refine s_r 3 ?_;refine o_0 (.callR (s:=some _) rfl rfl rfl rfl rfl (fun _ h=>by cases h;exact rfl) (tN s)) ?_;refine a_z ?_;refine ap rfl (fun r=>?_) (fun r=>?_);refine r_m 1 ?_;refine o_3 (.callB (s:=some _) rfl rfl rfl rfl rfl rfl (fun _ h=>by cases h;exact⟨rfl,by decide⟩) (gP s [32,43,32] (by simp;omega))) ?_;refine ao ?_;refine⟨some (s++[32,43,32]),by simp only[k9];rw[if_neg b],?_⟩;show SEnt _ (pc1 q c (n,s++[32,43,32]));rw[pc1.eq_1];exact s_z [(2,100023)] (fun hs=>dJ) (fun hs=>Kc)
   ·first|(simp at r;done)|(simp at r;omega)|(simp at r;exact absurd r F)
  rintro o1 rfl;have i:=AH u c;obtain⟨o1,d⟩:∃o1,o1=k9 o c:=⟨_,rfl⟩;rw[<-d] at i⊢;refine a6 (fun _:Unit=>pdS q t n o1) (fun _=>True) ?_ ?_;cases o1 with
  |none=>
   show AWp _ _ _ _ (pc0 q c n);rw[pc0.eq_1];refine r_m 4 ?_;refine c_s (rX c) ?_;refine c_s (V) ?_;refine a_z ?_;refine⟨(),trivial,?_⟩;show SEnt _ (pd0 q t n);rw[pd0.eq_1];exact s_e []
  |some s=>
   show AWp _ _ _ _ (pc1 q c (n,s));rw[pc1.eq_1];refine r_m 4 ?_;refine c_s (rX c) ?_;refine c_s (V) ?_;refine a_z ?_;refine⟨(),trivial,?_⟩;show SEnt _ (pd1 q t (n,s));rw[pd1.eq_1];exact s_e []
  rintro _ _;refine a6 (fun _:Unit=>pdS q t n o1) (fun _=>n≠0) ?_ ?_;cases o1 with
  |none=>
   show AWp _ _ _ _ (pd0 q t n);rw[pd0.eq_1];refine r_z 2 ?_;refine ap rfl (fun a=>?_) (fun a=>?_);have b:n=0:=by simpa using a
   subst b;refine s_r 2 ?_;refine a_1 ?_;refine o_2 (.callB (s:=none) (j:=0) rfl rfl rfl rfl rfl rfl (fun _ h=>by cases h) (jP t G (by omega))) ?_;refine ao ?_;refine aw ⟨some t,by unfold oj;rw[if_pos rfl,<-d,<-H];rfl,?_⟩;show SEnt _ (pb1 q (((0:Nat):Int),t));rw[pb1.eq_1];exact s_z [(2,100007)] (fun hs=>dJ) (fun hs=>lO);have b:n≠0:=fun e=>by simp[e] at a
   refine am ⟨(),b,?_⟩;show SEnt _ (pd0 q t n);rw[pd0.eq_1];exact s_e []
  |some s=>
   have g:=(i s rfl).2;show AWp _ _ _ _ (pd1 q t (n,s));rw[pd1.eq_1];refine r_z 2 ?_;refine ap rfl (fun a=>?_) (fun a=>?_);have b:n=0:=by simpa using a
   subst b;refine s_r 2 ?_;refine a_1 ?_;refine o_3 (.callB (s:=some _) rfl rfl rfl rfl rfl rfl (fun _ h=>by cases h;exact⟨rfl,by decide⟩) (gP s t (by omega))) ?_;refine ao ?_;refine aw ⟨some (s++t),by unfold oj;rw[if_pos rfl,<-d,<-H];rfl,?_⟩;show SEnt _ (pb1 q (((0:Nat):Int),s++t));rw[pb1.eq_1];exact s_z [(2,100007)] (fun hs=>dJ) (fun hs=>lO);have b:n≠0:=fun e=>by simp[e] at a
   refine am ⟨(),b,?_⟩;show SEnt _ (pd1 q t (n,s));rw[pd1.eq_1];exact s_e []
  rintro _ N;refine a6 (pbS q n) (fun A=>A=kN o1 t) ?_ ?_;cases o1 with
  |none=>
   show AWp _ _ _ _ (pd0 q t n);rw[pd0.eq_1];refine s_r 2 ?_;refine a_1 ?_;refine o_0 (.bin rfl rfl (BR (m:=[49]))) ?_;refine ao ?_;refine ap rfl (fun a=>?_) (fun a=>?_);have b:¬t=[49]:=by simpa using a
   refine r_m 3 ?_;refine a_1 ?_;refine o_0 (.bin rfl rfl (eY (m:=[32]) (by simp;omega))) ?_;refine o_2 (.callB (s:=none) (j:=0) rfl rfl rfl rfl rfl rfl (fun _ h=>by cases h) (jP (t++[32]) (by simp) (by simp;omega))) ?_;refine ao ?_;refine⟨some (t++[32]),by unfold kN;rw[if_neg b];rfl,?_⟩;show SEnt _ (pb1 q (n,t++[32]));rw[pb1.eq_1];exact s_z [(2,100008)] (fun hs=>dJ) (fun hs=>lO);have b:t=[49]:=by simpa using a
   refine am ⟨none,by unfold kN;rw[if_pos b],?_⟩;show SEnt _ (pb0 q n);rw[pb0.eq_1];exact s_e []
  |some s=>
   have g:=(i s rfl).2;show AWp _ _ _ _ (pd1 q t (n,s));rw[pd1.eq_1];refine s_r 2 ?_;refine a_1 ?_;refine o_0 (.bin rfl rfl (BR (m:=[49]))) ?_;refine ao ?_;refine ap rfl (fun a=>?_) (fun a=>?_);have b:¬t=[49]:=by simpa using a
   refine r_m 3 ?_;refine a_1 ?_;refine o_0 (.bin rfl rfl (eY (m:=[32]) (by simp;omega))) ?_;refine o_3 (.callB (s:=some _) rfl rfl rfl rfl rfl rfl (fun _ h=>by cases h;exact⟨rfl,by decide⟩) (gP s (t++[32]) (by simp;omega))) ?_;refine ao ?_;refine⟨some (s++(t++[32])),by unfold kN;rw[if_neg b];rfl,?_⟩;show SEnt _ (pb1 q (n,s++(t++[32])));rw[pb1.eq_1];exact s_z [(2,100008)] (fun hs=>dJ) (fun hs=>lO);have b:t=[49]:=by simpa using a
   refine am ⟨some s,by unfold kN;rw[if_pos b],?_⟩;show SEnt _ (pb1 q (n,s));rw[pb1.eq_1];exact s_e []
  rintro o2 f
  have y:td o2 (B+L+4):=by
   rw[f];unfold kN;split;exact gY i (by omega);exact gY (rA i (t:=t++[32]) (by simp)) (by simp;omega)
  refine a6 (fun s=>pb1 q (n,s)) (fun s=>wrO o2 [120]=some s) ?_ ?_;cases o2 with
  |none=>
   show AWp _ _ _ _ (pb0 q n);rw[pb0.eq_1];refine r_m 1 ?_;refine o_2 (.callB (s:=none) (j:=0) rfl rfl rfl rfl rfl rfl (fun _ h=>by cases h) (jP [120] (by simp) (by simp))) ?_;refine ao ?_;refine⟨[120],rfl,?_⟩;simp only[pb1.eq_1];exact s_z [(2,100004)] (fun hs=>dJ) (fun hs=>lO)
  |some s=>
   have g:=(y s rfl).2;show AWp _ _ _ _ (pb1 q (n,s));rw[pb1.eq_1];refine r_m 1 ?_;refine o_3 (.callB (s:=some _) rfl rfl rfl rfl rfl rfl (fun _ h=>by cases h;exact⟨rfl,by decide⟩) (gP s [120] (by simp;omega))) ?_;refine ao ?_;refine⟨s++[120],rfl,?_⟩;simp only[pb1.eq_1];exact s_z [(2,100004)] (fun hs=>dJ) (fun hs=>lO)
  rintro s E;have R:=rA y (t:=[120]) (by simp) s E;have g:s.length<=B+L+5:=R.2;simp only[pb1.eq_1];refine r_z 2 ?_;refine ap rfl (fun a=>?_) (fun a=>?_);have b:1< n:=by simp at a;omega
  refine r_m 4 ?_;refine c_s (fI) ?_;refine o_0 (.bin rfl rfl (eY (l:=[94]) (by simp;omega))) ?_;refine o_3 (.callB (s:=some _) rfl rfl rfl rfl rfl rfl (fun _ h=>by cases h;exact⟨rfl,by decide⟩) (gP s ([94]++ti n) (by simp;omega))) ?_;refine ao ?_;refine⟨some (s++([94]++ti n)),by unfold oj;rw[if_neg N,if_pos b,<-d,<-H,<-f,E];rfl,?_⟩;show SEnt _ (pb1 q (n,s++([94]++ti n)));rw[pb1.eq_1];exact s_z [(2,100009)] (fun hs=>dJ) (fun hs=>lO);have b:¬1< n:=by simp at a;omega
  refine am ⟨some s,by unfold oj;rw[if_neg N,if_neg b,<-d,<-H,<-f,E],?_⟩;show SEnt _ (pb1 q (n,s));rw[pb1.eq_1];exact s_e [];rintro A M
  have J:td A (B+(L+30)):=by
   rw[M];split;exact gY u (by omega);have U:=AH u c;unfold oj;rw[<-H]
   have g2:td (kN (k9 o c) t) (B+L+4):=by
    unfold kN;split;exact gY U (by omega);exact gY (rA U (t:=t++[32]) (by simp)) (by simp;omega)
   have g3:=rA g2 (t:=[120]) (by simp);split;exact gY (rA U G) (by omega);split;exact gY (rA g3 (t:=[94]++ti n) (by simp)) (by simp;omega);exact gY g3 (by simp;omega)
  rw[<-M] at z;cases A with
  |none=>
   show AWp _ _ _ _ (pb0 q n);rw[pb0.eq_1];refine r_m 3 ?_;refine a_z ?_;refine⟨(n,none),Nat.lt_succ_self n,⟨by simp only;omega,z,uU _⟩,?_⟩;show SEnt _ (pb0 q ((n:Int)- 1));rw[pb0.eq_1];exact s_e []
  |some s=>
   show AWp _ _ _ _ (pb1 q (n,s));rw[pb1.eq_1];refine r_m 3 ?_;refine a_z ?_;refine⟨(n,some s),Nat.lt_succ_self n,⟨by simp only;omega,z,by simp only;rw[Y];exact J⟩,?_⟩;show SEnt _ (pb1 q ((n:Int)- 1,s));rw[pb1.eq_1];exact s_e []
 rintro o ⟨rfl,u⟩;cases y:sI tq ti q q.length none with
 |none=>
  show AWp _ _ _ _ (pb0 q (-1));rw[pb0.eq_1];refine ae (s_r 2 ?_);refine o_0 (.callR (s:=none) (j:=0) (tb:=0) rfl rfl rfl rfl rfl (fun _ h=>by cases h) (tO)) ?_;refine a_z ?_;refine ap rfl (fun a=>?_) (fun a=>?_);refine r_z 1 ?_;exact aj (t_e (ag _));exact absurd a (by simp)
 |some s=>
  have hs:=u s y;have g:s.length≠0:=by have:=hs.1;simpa using this
  have hne:=hs.1;show AWp _ _ _ _ (pb1 q (-1,s));rw[pb1.eq_1];refine ae (s_r 2 ?_);refine o_0 (.callR (s:=some _) rfl rfl rfl rfl rfl (fun _ h=>by cases h;exact rfl) (tN s)) ?_;refine a_z ?_;refine ap rfl (fun a=>?_) (fun a=>?_);exact absurd a (by simp;omega);refine am (s_r 2 ?_);refine o_2 (.callD rfl rfl rfl rfl rfl rfl (by decide) (by first|assumption|simp) (sd)) ?_;refine a_z ?_;exact aj (t_e (ag _))
theorem vu(p:Lq)(h:IV p):FS 31 [.arr (pE p)] (tx (Ey p)):=by
 obtain⟨a,e,b⟩:=h;exact G5 mu jG 6 p a (by decide) (fun c d=>⟨vr (gi c) (okT_abs (b c d)),HN _,textQ_len.1⟩) (fun n f=>⟨y4 n (by omega),Nat.le_trans (lE n) (by decide)⟩)
end


inductive LeLL:Lc->Lc->Prop
 |nil:LeLL [] []
 |cons {e e' es es'}:LeL e e'->LeLL es es'->LeLL (e::es) (e'::es')
theorem leL_len{xs ys:La}(h:LeL xs ys):ys.length=xs.length:=by
 induction h with
 |nil=>rfl
 |cons _ _ a=>simp[a]
theorem leL_cs{M:Nat->Prop}{β:Bq}{w:World}{b:Nat}{xs ys:La}(h:LeL xs ys):∀{off:Nat},RVcs M β w b xs off->RVcs M β w b ys off:=by
 induction h with
 |nil=>exact fun h=>h
 |cons d _ a=>rintro off ⟨⟨x,e,c⟩,hs⟩;exact⟨⟨x,e,d M β w x c⟩,a hs⟩
theorem LeLL.ess{M:Nat->Prop}{β:Bq}{w:World}{b s:Nat}{es es':Lc}(h:LeLL es es'):∀{off:Nat},RVess M β w b s es off->RVess M β w b s es' off:=by
 induction h with
 |nil=>exact fun h=>h
 |cons a _ c=>rintro off ⟨e,f,d⟩;exact⟨(leL_len a).trans e,leL_cs a f,c d⟩
theorem LeLL.length{es es':Lc}(h:LeLL es es'):es'.length=es.length:=by
 induction h with
 |nil=>rfl
 |cons _ _ a=>simp[a]
theorem Le.arr{es es':Lc}(h:LeLL es es'):Le (.arr es) (.arr es'):=by
 rintro M β w y ⟨a,c,rfl,i,g,k⟩;refine⟨a,c,by rw[h.length],by rw[h.length];exact i,g,k.imp (fun e=>?_) ?_⟩;subst e;cases h;rfl;rintro⟨b,d,s,rfl,l,f,j⟩;exact⟨b,d,s,rfl,l,f,h.ess j⟩
theorem LeLL.refl:∀es,LeLL es es
 |[]=> .nil
 |e::es=> .cons (LeL.refl e) (LeLL.refl es)
section
variable {P:Go.Program}{T:Nat}{x y:Operand}
end











end Go.Proofs.YtiodeiecpoopgaaGreatDoor
namespace Go.Proofs.YtiodeiecpoopgaaGreatDoor
open Go.Shelf
def C6:Go.Shelf.Ren:=⟨fun|171=>85|243=>141|246=>182|283=>224|284=>225|285=>226|286=>227|129=>242|317=>266|318=>267|319=>268|320=>269|337=>284|338=>285|n=>n,fun|3=>3|9=>9|2=>2|4=>4|171=>279|0=>0|53=>192|37=>156|5=>5|173=>282|212=>309|51=>209|20=>20|213=>310|46=>241|232=>325|233=>326|n=>n,fun|17=>0|18=>2|19=>3|n=>n⟩
theorem lay171:Go.Proofs.LaysM.n171 Tryz.prog C6:={
 mixed:=by kernel_rfl,
 f129:=Tryz.func242.trans (congrArg some (by kernel_rfl)),
 f171:=Tryz.func85.trans (congrArg some (by kernel_rfl)),
 f243:=Tryz.func141.trans (congrArg some (by kernel_rfl)),
 f246:=Tryz.func182.trans (congrArg some (by kernel_rfl)),
 f283:=Tryz.func224.trans (congrArg some (by kernel_rfl)),
 f284:=Tryz.func225.trans (congrArg some (by kernel_rfl)),
 f285:=Tryz.func226.trans (congrArg some (by kernel_rfl)),
 f286:=Tryz.func227.trans (congrArg some (by kernel_rfl)),
 f317:=Tryz.func266.trans (congrArg some (by kernel_rfl)),
 f318:=Tryz.func267.trans (congrArg some (by kernel_rfl)),
 f319:=Tryz.func268.trans (congrArg some (by kernel_rfl)),
 f320:=Tryz.func269.trans (congrArg some (by kernel_rfl)),
 f337:=Tryz.func284.trans (congrArg some (by kernel_rfl)),
 f338:=Tryz.func285.trans (congrArg some (by kernel_rfl)),
 t0:=Tryz.underlying0,
 a0:=Tryz.isAgg0,
 z0:=Tryz.sizeOf0,
 v0:=Tryz.zeroValue0,
 t2:=Tryz.underlying2,
 a2:=Tryz.isAgg2,
 z2:=Tryz.sizeOf2,
 v2:=Tryz.zeroValue2,
 t3:=Tryz.underlying3,
 a3:=Tryz.isAgg3,
 z3:=Tryz.sizeOf3,
 v3:=Tryz.zeroValue3,
 t4:=Tryz.underlying4,
 a4:=Tryz.isAgg4,
 z4:=Tryz.sizeOf4,
 v4:=Tryz.zeroValue4,
 t5:=Tryz.underlying5,
 a5:=Tryz.isAgg5,
 z5:=Tryz.sizeOf5,
 v5:=Tryz.zeroValue5,
 t9:=Tryz.underlying9,
 a9:=Tryz.isAgg9,
 z9:=Tryz.sizeOf9,
 v9:=Tryz.zeroValue9,
 t20:=Tryz.underlying20,
 a20:=Tryz.isAgg20,
 z20:=Tryz.sizeOf20,
 v20:=Tryz.zeroValue20,
 t37:=Tryz.underlying156,
 a37:=Tryz.isAgg156,
 z37:=Tryz.sizeOf156,
 v37:=Tryz.zeroValue156,
 t46:=Tryz.underlying241,
 a46:=Tryz.isAgg241,
 z46:=Tryz.sizeOf241,
 v46:=Tryz.zeroValue241,
 t51:=Tryz.underlying209,
 a51:=Tryz.isAgg209,
 z51:=Tryz.sizeOf209,
 v51:=Tryz.zeroValue209,
 t53:=Tryz.underlying192,
 a53:=Tryz.isAgg192,
 z53:=Tryz.sizeOf192,
 v53:=Tryz.zeroValue192,
 t171:=Tryz.underlying279,
 a171:=Tryz.isAgg279,
 z171:=Tryz.sizeOf279,
 v171:=Tryz.zeroValue279,
 t173:=Tryz.underlying282,
 a173:=Tryz.isAgg282,
 z173:=Tryz.sizeOf282,
 v173:=Tryz.zeroValue282,
 t212:=Tryz.underlying309,
 a212:=Tryz.isAgg309,
 z212:=Tryz.sizeOf309,
 v212:=Tryz.zeroValue309,
 t213:=Tryz.underlying310,
 a213:=Tryz.isAgg310,
 z213:=Tryz.sizeOf310,
 t232:=Tryz.underlying325,
 a232:=Tryz.isAgg325,
 z232:=Tryz.sizeOf325,
 v232:=Tryz.zeroValue325,
 t233:=Tryz.underlying326,
 a233:=Tryz.isAgg326,
 z233:=Tryz.sizeOf326,
 v233:=Tryz.zeroValue326,
 g17:=by kernel_rfl,
 g18:=by kernel_rfl,
 g19:=by kernel_rfl,
 i0:=by kernel_rfl,
 i2:=by kernel_rfl,
 i3:=by kernel_rfl,
 i4:=by kernel_rfl,
 i5:=by kernel_rfl,
 i9:=by kernel_rfl,
 i20:=by kernel_rfl,
 i37:=by kernel_rfl,
 i46:=by kernel_rfl,
 i51:=by kernel_rfl,
 i53:=by kernel_rfl,
 i171:=by kernel_rfl,
 i173:=by kernel_rfl,
 i212:=by kernel_rfl,
 i232:=by kernel_rfl,
 i233:=by kernel_rfl,
 m17:=by kernel_rfl,
 m18:=by kernel_rfl,
 m19:=by kernel_rfl}
def u6:Go.Shelf.Ren:=⟨fun|105=>143|212=>184|99=>185|165=>186|166=>84|170=>83|169=>86|263=>228|264=>229|206=>230|240=>140|241=>231|276=>181|277=>270|n=>n,fun|9=>9|3=>3|4=>4|20=>20|0=>0|46=>241|109=>242|5=>5|72=>158|76=>162|51=>209|146=>284|53=>192|148=>286|70=>155|37=>156|75=>161|127=>205|164=>237|80=>105|n=>n,fun|n=>n⟩
theorem lay105:Go.Proofs.Lays.n105 Tryz.prog u6:={
 mixed:=by kernel_rfl,
 f99:=Tryz.func185.trans (congrArg some (by kernel_rfl)),
 f105:=Tryz.func143.trans (congrArg some (by kernel_rfl)),
 f165:=Tryz.func186.trans (congrArg some (by kernel_rfl)),
 f166:=Tryz.func84.trans (congrArg some (by kernel_rfl)),
 f169:=Tryz.func86.trans (congrArg some (by kernel_rfl)),
 f170:=Tryz.func83.trans (congrArg some (by kernel_rfl)),
 f206:=Tryz.func230.trans (congrArg some (by kernel_rfl)),
 f212:=Tryz.func184.trans (congrArg some (by kernel_rfl)),
 f240:=Tryz.func140.trans (congrArg some (by kernel_rfl)),
 f241:=Tryz.func231.trans (congrArg some (by kernel_rfl)),
 f263:=Tryz.func228.trans (congrArg some (by kernel_rfl)),
 f264:=Tryz.func229.trans (congrArg some (by kernel_rfl)),
 f276:=Tryz.func181.trans (congrArg some (by kernel_rfl)),
 f277:=Tryz.func270.trans (congrArg some (by kernel_rfl)),
 t0:=Tryz.underlying0,
 a0:=Tryz.isAgg0,
 z0:=Tryz.sizeOf0,
 v0:=Tryz.zeroValue0,
 t3:=Tryz.underlying3,
 a3:=Tryz.isAgg3,
 z3:=Tryz.sizeOf3,
 v3:=Tryz.zeroValue3,
 t4:=Tryz.underlying4,
 a4:=Tryz.isAgg4,
 z4:=Tryz.sizeOf4,
 v4:=Tryz.zeroValue4,
 t5:=Tryz.underlying5,
 a5:=Tryz.isAgg5,
 z5:=Tryz.sizeOf5,
 v5:=Tryz.zeroValue5,
 t9:=Tryz.underlying9,
 a9:=Tryz.isAgg9,
 z9:=Tryz.sizeOf9,
 v9:=Tryz.zeroValue9,
 t20:=Tryz.underlying20,
 a20:=Tryz.isAgg20,
 z20:=Tryz.sizeOf20,
 v20:=Tryz.zeroValue20,
 t37:=Tryz.underlying156,
 a37:=Tryz.isAgg156,
 z37:=Tryz.sizeOf156,
 v37:=Tryz.zeroValue156,
 t46:=Tryz.underlying241,
 a46:=Tryz.isAgg241,
 z46:=Tryz.sizeOf241,
 v46:=Tryz.zeroValue241,
 t51:=Tryz.underlying209,
 a51:=Tryz.isAgg209,
 z51:=Tryz.sizeOf209,
 v51:=Tryz.zeroValue209,
 t53:=Tryz.underlying192,
 a53:=Tryz.isAgg192,
 z53:=Tryz.sizeOf192,
 v53:=Tryz.zeroValue192,
 t70:=Tryz.underlying155,
 a70:=Tryz.isAgg155,
 z70:=Tryz.sizeOf155,
 v70:=Tryz.zeroValue155,
 t72:=Tryz.underlying158,
 a72:=Tryz.isAgg158,
 z72:=Tryz.sizeOf158,
 v72:=Tryz.zeroValue158,
 t75:=Tryz.underlying161,
 a75:=Tryz.isAgg161,
 z75:=Tryz.sizeOf161,
 v75:=Tryz.zeroValue161,
 t76:=Tryz.underlying162,
 a76:=Tryz.isAgg162,
 z76:=Tryz.sizeOf162,
 v76:=Tryz.zeroValue162,
 t109:=Tryz.underlying242,
 a109:=Tryz.isAgg242,
 z109:=Tryz.sizeOf242,
 v109:=Tryz.zeroValue242,
 t127:=Tryz.underlying205,
 a127:=Tryz.isAgg205,
 z127:=Tryz.sizeOf205,
 v127:=Tryz.zeroValue205,
 t146:=Tryz.underlying284,
 a146:=Tryz.isAgg284,
 z146:=Tryz.sizeOf284,
 v146:=Tryz.zeroValue284,
 t148:=Tryz.underlying286,
 a148:=Tryz.isAgg286,
 z148:=Tryz.sizeOf286,
 v148:=Tryz.zeroValue286,
 t164:=Tryz.underlying237,
 a164:=Tryz.isAgg237,
 z164:=Tryz.sizeOf237,
 v164:=Tryz.zeroValue237}
theorem ext105:Builder.Extra Tryz.prog u6:={
 sizeBuilder:=by kernel_rfl,
 liesBuilder:=by kernel_rfl,
 t5:=Tryz.underlying5,
 a5:=Tryz.isAgg5,
 z5:=Tryz.sizeOf5,
 v5:=Tryz.zeroValue5,
 infoByte:=by kernel_rfl,
 cellsByte:=by kernel_rfl,
 sizeByte:=by kernel_rfl,
 neB5:=by decide}
end Go.Proofs.YtiodeiecpoopgaaGreatDoor
namespace Go.Proofs.YtiodeiecpoopgaaGreatDoor
open Go.Abs Go.RowKit
theorem HQ:(Tryz.prog).globalNamed "internal/strconv.uint64pow10" =some GT:=by kernel_rfl
theorem tab_is{w:World}(h:TabW w):Lib.TabIs Tryz.prog w "internal/strconv.uint64pow10" .u64 Lib.pow10Tab:=by
 obtain⟨t,z,h⟩:=h;unfold Lib.TabIs World.var?;rw[HQ];show(match w.heap[GT]? with|some (.cells cs _ _)=>some cs|_=>none)=_;rw[h];rfl
theorem D6(w:World)(k:Nat)(os:Array Obj):Below w.heap.size w (Sort.grow (w.drewN k) os):=
 ⟨rfl,rfl,rfl,by show w.heap.size<=(w.heap++os).size;simp,fun i a=>by show(w.heap++os)[i]?=_;rw[Array.getElem?_append_left a]⟩
theorem JP(n:Nat)(h:n<=9223372036854775807):FS 85 [i64 n] (tx (Lib.decDigits n)):=by
 refine⟨ac (ag _) af,(y4 0 (by decide)).enters,fun M w vals f a=>?_⟩;obtain⟨x,xs,rfl,i,d⟩:=a;have c:x= .int .i64 n:=i;have b:xs=[]:=d;subst c;subst b;have l:=Any.strconv_Itoa lay171 (n:Int) (by omega) (by omega) w (tab_is f.tab);refine Calls.mono l fun e m ⟨j,k,os,g⟩=>⟨_,j,?_,?_⟩;show Value.string _=Value.string _;unfold Lib.itoa;rw[if_neg (by omega),Int.toNat_natCast];rw[g];exact D6 w k os
theorem DB(z:UInt8)(n:Nat)(h:n<=100):FS 143 [tx [z],i64 n] (tx (List.replicate n z)):=by
 have j:∀(xs:Array Value) (w:World),(callFunc 143 xs).run Tryz.prog w= .ok (.enter 143 xs) w:=fun xs w=>r9 Tryz.func143 (c:=(Tryz.f143).body.get rfl) (by kernel_rfl) rfl xs w;refine⟨ac (ag _) (ac (ag _) af),j,fun M w vals s a=>?_⟩;obtain⟨x,xs,rfl,l,y,m,rfl,i,f⟩:=a;have d:x= .string ⟨[z].toArray⟩:=l;have g:y= .int .i64 n:=i;have b:m=[]:=f;subst d;subst g;subst b;have q:=Any.strings_Repeat lay105 ext105 ⟨[z].toArray⟩ n w (by omega) (by simp[ByteArray.size];omega);refine Calls.mono q fun e r ⟨o,hb⟩=>⟨_,o,?_,hb⟩;show Value.string _=Value.string _;congr 2
 have:∀k,Lib.repeatL [z] k=List.replicate k z:=fun k=>by
  induction k with
  |zero=>rfl
  |succ k p=>rw[Lib.repeatL,p,List.replicate_succ];rfl
 exact congrArg List.toArray (this n)
end Go.Proofs.YtiodeiecpoopgaaGreatDoor
namespace Go.Proofs.YtiodeiecpoopgaaGreatDoor
open Go.Abs
set_option maxRecDepth 20000
def Gn(n:Nat):List UInt8:=List.replicate (9- (Lib.decDigits n).length) 48++Lib.decDigits n
def txD:Ln->List UInt8
 |[]=>[]
 |x::xs=>Lib.decDigits x++xs.flatMap Gn
def mtx(m:Nat):List UInt8:=if m=0 then [48] else txD (av MB m).reverse
theorem Ab{l:Ln}(h:l≠[])(x:Nat):txD (l++[x])=txD l++Gn x:=by
 cases l with
 |nil=>exact absurd rfl h
 |cons a l=>simp[txD]
theorem yK:∀k n,n< 10^ (k+1)->Lib.nDigits n<=k+1
 |0,n,h=>by rw[Lib.nDigits_small (by simpa using h)];omega
 |k+1,n,h=>by
  by_cases h1:n< 10;rw[Lib.nDigits_small h1];omega;rw[Lib.nDigits_big h1];have:n/ 10< 10^ (k+1):=by rw[Nat.pow_succ] at h;omega
  have:=yK k (n/ 10) this;omega
theorem zA{n:Nat}(h:n< 1000000000):(Lib.decDigits n).length<=9:=by
 rw[Lib.decDigits_length];exact yK 8 n h
theorem Ki(n:Nat):Lib.decDigits n≠[]:=by
 intro e;have a:=Lib.decDigits_length n;rw[e] at a;have:=Lib.nDigits_pos n;simp at a;omega
theorem IQ{n:Nat}(h:n< 1000000000):(Gn n).length=9:=by
 have:=zA h;simp[Gn];omega
theorem txD_ne{l:Ln}(h:l≠[]):txD l≠[]:=by
 cases l with
 |nil=>exact absurd rfl h
 |cons a l=>intro e;exact Ki a (List.append_eq_nil_iff.1 e).1
theorem Ew{l:Ln}(h:∀x∈l,x< 1000000000):(txD l).length<=9* l.length:=by
 cases l with
 |nil=>simp[txD]
 |cons a l=>
  have f:=zA (h a (List.mem_cons_self ..))
  have e:∀l:Ln,(∀x∈l,x< 1000000000)->(l.flatMap Gn).length=9* l.length:=by
   intro l
   induction l with
   |nil=>intro _;rfl
   |cons b l d=>
    intro h;rw[List.flatMap_cons,List.length_append,IQ (h b (List.mem_cons_self ..)),d fun x c=>h x (List.mem_cons_of_mem _ c),List.length_cons];omega
  have g:=e l fun x c=>h x (List.mem_cons_of_mem _ c);simp only[txD,List.length_append,List.length_cons];omega
def tf0(L:Ln):Unit->AState
 |u=>⟨[(1,.lptr 1 0 0),(3,.lptr 2 0 0),(11,.clos 183 [] [.aptr [[.arr (dE L)]] 0 0])],[(1,some ⟨44,1,[[.arr (dE L)]]⟩),(2,some ⟨158,2,[dO 2 0 none]⟩)],4,31⟩
def tf1(L:Ln):List UInt8->AState
 |q=>⟨[(1,.lptr 1 0 0),(3,.lptr 2 0 0),(11,.clos 183 [] [.aptr [[.arr (dE L)]] 0 0])],[(1,some ⟨44,1,[[.arr (dE L)]]⟩),(2,some ⟨158,2,[dO 2 3 (some q)]⟩),(3,some ⟨5,1,bE q⟩)],4,31⟩
def tfS(L:Ln):Nat->AState
 |0=>tf0 L ()
 |k+1=>tf1 L (txD (L.reverse.take (k+1)))
theorem xi(m:Nat)(h:bl m<=68719476736):FS 87 [.agg [mag m]] (tx (mtx m)):=by
 have E:=j6 m;refine f_c Tryz.func87 ?_;refine r_z 2 ?_;refine ae (r_c 2 (E) ?_);refine ao ?_;refine ap rfl (fun C=>?_) (fun C=>?_);have w:m=0:=by simpa using C
 subst w;refine r_z 1 ?_;exact aj (t_e (ag _));have w:m≠0:=by simpa using C
 obtain⟨L,o⟩:∃L,L=av MB m:=⟨_,rfl⟩;have U:mag m= .arr (dE L):=by unfold mag;rw[o]
 have N:L.length<=68719476736:=by
  rw[o];exact Nat.le_trans (bC (b:=MB) (by decide) m) h
 have i:∀x∈L,x< 1000000000:=by rw[o];exact dr (b:=MB) (by decide) m
 have p:L≠[]:=by rw[o];exact fun e=>w ((fP (b:=MB) (by decide)).1 e)
 have O:=List.length_pos_iff.2 p;rw[show mtx m=txD L.reverse by unfold mtx;rw[if_neg w,o]];clear E;rw[U];refine am ?_;have u:Closed (.aptr [[.arr (dE L)]] 0 0):=jh (fun e H c K=>by simp at H;subst H;simp at K;subst K;exact cQ _);have a:Closed (.clos 183 [] [.aptr [[.arr (dE L)]] 0 0]):=aQ af (ac u af);have T:(dE L).length=L.length:=n4 L;refine r_z 1 ?_;refine ae (r_c 3 (kY L) ?_);refine ao ?_;refine aC (fun _:Unit=>tf1 L (txD L.reverse)) (fun _=>True) ?_ ?_;refine ah (AWp.rangeFunc (α:=Nat) (γ:=Empty) L.length (tfS L) (fun k=>k) (fun k=>k<=L.length) (fun e=>nomatch e) (fun _ e=>nomatch e) 0 rfl (kU L (by omega)) rfl rfl ?_ (fun k=>by cases k <;> exact⟨rfl,rfl⟩) (fun e=>nomatch e) (Nat.zero_le _) rfl (fun _ h=>h) ?_ ?_ ?_ ?_ (fun _ e=>nomatch e));intro k xs d;unfold lL at d;split at d;cases d;rfl;cases d;show SEntT _ (tf0 L ());rw[tf0.eq_1];exact s_t [(1,1),(2,3)];exact ac u af
 ·intro l k xs R d
  unfold lL at d;split at d;rotate_left;cases d;rename_i hlt;cases d;obtain⟨x,F⟩:∃x,x=L.getD (L.length- 1- k) 0:=⟨_,rfl⟩
  have t:L[L.length- 1- k]?=some x:=by
   rw[F,List.getD_eq_getElem?_getD,List.getElem?_eq_getElem (by omega)];rfl
  have D:x< 1000000000:=i x (List.mem_of_getElem? t)
  have g:L.reverse.take (k+1)=L.reverse.take k++[x]:=by
   rw[List.take_add_one,List.getElem?_reverse (by omega),t];rfl
  have n:=JP x (by omega);have G:=zA D;rw[<-F];cases k with
  |zero=>
   show AWp _ _ _ _ ⟨ja (tf0 L ()).fr _ _++dQ (tf0 L ()).fr,_,_,_⟩;show AWp _ _ _ _ ⟨[(13,u32 x),(12,i64 ((L.length- 1- 0:Nat):Int)),(1,.lptr 1 0 0),(3,.lptr 2 0 0),(11,.clos 183 [] [.aptr [[.arr (dE L)]] 0 0]),(1001,.lptr 1 0 0),(1003,.lptr 2 0 0),(1011,.clos 183 [] [.aptr [[.arr (dE L)]] 0 0])],[(1,some ⟨44,1,[[.arr (dE L)]]⟩),(2,some ⟨158,2,[dO 2 0 none]⟩)],4,31⟩;refine r_z 1 ?_;refine r_m 1 ?_;refine a_z ?_;refine ah (r_c 4 (n) ?_);refine a_z ?_;refine ae (r_z 6 ?_);refine ap rfl (fun f=>?_) (fun f=>?_);exact absurd f (by simp;omega);refine am (r_m 2 ?_);refine a_1 ?_;refine o_2 (.callB (s:=none) (j:=0) rfl rfl rfl rfl rfl rfl (fun _ h=>by cases h) (jP (Lib.decDigits x) (Ki x) (by omega))) ?_;refine ao ?_;refine⟨0+1,⟨by omega,rfl⟩,?_⟩;have e:txD (L.reverse.take (0+1))=Lib.decDigits x:=by rw[g];simp[txD]
   show SEntT _ ⟨dQ (tf1 L (txD (L.reverse.take (0+1)))).fr,(tf1 L (txD (L.reverse.take (0+1)))).hp,_,_⟩;rw[e];show SEntT _ ⟨[(1001,.lptr 1 0 0),(1003,.lptr 2 0 0),(1011,.clos 183 [] [.aptr [[.arr (dE L)]] 0 0])],[(1,some ⟨44,1,[[.arr (dE L)]]⟩),(2,some ⟨158,2,[dO 2 3 (some (Lib.decDigits x))]⟩),(3,some ⟨5,1,bE (Lib.decDigits x)⟩)],4,31⟩;refine SEntT.to2 [(3,100017)] rfl rfl rfl zS (fun hs=>?_) (fun hs=>?_)
   ·repeat' (first|exact aI|refine au rfl ?_ ?_)
    all_goals (first|(exact ai hs a)|exact aS)
   ·repeat' (first|exact aA|refine lR rfl rfl rfl rfl ?_ ?_)
    all_goals (first|exact br|(refine ay ?_;repeat' (first|exact aq|refine ak ?_ ?_)))
    all_goals (first|(exact ai hs a)|exact aS)
  |succ k=>
   obtain⟨q,B⟩:∃q,q=txD (L.reverse.take (k+1)):=⟨_,rfl⟩
   have z:L.reverse.take (k+1)≠[]:=by
    intro e;have:=congrArg List.length e;rw[List.length_take,List.length_reverse] at this;simp only[List.length_nil] at this;omega
   have V:q.length<=9* L.length:=by
    have f:=Ew (l:=L.reverse.take (k+1)) (fun y S=>i y (List.mem_reverse.1 (List.mem_of_mem_take S)));have W:(L.reverse.take (k+1)).length<=L.length:=by simp;omega
    rw[B];omega
   show AWp _ _ _ _ ⟨ja (tf1 L (txD (L.reverse.take (k+1)))).fr _ _++dQ (tf1 L (txD (L.reverse.take (k+1)))).fr,(tf1 L (txD (L.reverse.take (k+1)))).hp,4,_⟩;rw[<-B];show AWp _ _ _ _ ⟨[(13,u32 x),(12,i64 ((L.length- 1- (k+1):Nat):Int)),(1,.lptr 1 0 0),(3,.lptr 2 0 0),(11,.clos 183 [] [.aptr [[.arr (dE L)]] 0 0]),(1001,.lptr 1 0 0),(1003,.lptr 2 0 0),(1011,.clos 183 [] [.aptr [[.arr (dE L)]] 0 0])],[(1,some ⟨44,1,[[.arr (dE L)]]⟩),(2,some ⟨158,2,[dO 2 3 (some q)]⟩),(3,some ⟨5,1,bE q⟩)],4,31⟩;refine r_z 1 ?_;refine r_m 1 ?_;refine a_z ?_;refine ah (r_c 4 (n) ?_);refine a_z ?_;refine ae (r_z 6 ?_);refine ap rfl (fun f=>?_) (fun f=>?_);rotate_left;exact absurd (of_decide_eq_false f) (by omega);have Q:((9:Int)- ((⟨(Lib.decDigits x).toArray⟩:ByteArray).size:Int))=((9- (Lib.decDigits x).length:Nat):Int):=by rw[nI];omega
   have r:FS 143 [tx [48],.v (.int .i64 ((9:Int)- ((⟨(Lib.decDigits x).toArray⟩:ByteArray).size:Int)))] (tx (List.replicate (9- (Lib.decDigits x).length) 48)):=by
    rw[Q];exact DB 48 (9- (Lib.decDigits x).length) (by omega)
   refine r_m 5 ?_;refine o_0 (.move rfl) ?_;refine o_0 (.builtinV (vs:=[_]) rfl rfl (fun _ _ _=>rfl)) ?_;refine o_0 (.bin rfl rfl (ny (by rw[nI];omega))) ?_;refine c_s (r) ?_;refine o_3 (.callB (s:=some _) rfl rfl rfl rfl rfl rfl (fun _ h=>by cases h;exact⟨rfl,by decide⟩) (gP q (List.replicate (9- (Lib.decDigits x).length) 48) (by simp;omega))) ?_;refine ao ?_;refine r_m 2 ?_;refine a_1 ?_;refine o_3 (.callB (s:=some _) rfl rfl rfl rfl rfl rfl (fun _ h=>by cases h;exact⟨rfl,by decide⟩) (gP (q++List.replicate (9- (Lib.decDigits x).length) 48) (Lib.decDigits x) (by simp;omega))) ?_;refine ao ?_;refine⟨k+1+1,⟨by omega,rfl⟩,?_⟩
   have e:txD (L.reverse.take (k+1+1))=q++List.replicate (9- (Lib.decDigits x).length) 48++Lib.decDigits x:=by
    rw[g,Ab z,<-B,List.append_assoc];rfl
   show SEntT _ ⟨dQ (tf1 L (txD (L.reverse.take (k+1+1)))).fr,(tf1 L (txD (L.reverse.take (k+1+1)))).hp,_,_⟩;rw[e];show SEntT _ ⟨[(1001,.lptr 1 0 0),(1003,.lptr 2 0 0),(1011,.clos 183 [] [.aptr [[.arr (dE L)]] 0 0])],[(1,some ⟨44,1,[[.arr (dE L)]]⟩),(2,some ⟨158,2,[dO 2 3 (some (q++List.replicate (9- (Lib.decDigits x).length) 48++Lib.decDigits x))]⟩),(3,some ⟨5,1,bE (q++List.replicate (9- (Lib.decDigits x).length) 48++Lib.decDigits x)⟩)],4,31⟩;refine SEntT.to2 [(3,100022)] rfl rfl rfl zS (fun hs=>?_) (fun hs=>?_)
   ·repeat' (first|exact aI|refine au rfl ?_ ?_)
    all_goals (first|(exact ai hs a)|exact aS)
   ·repeat' (first|exact aA|refine lR rfl rfl rfl rfl ?_ ?_)
    all_goals (first|exact br|(refine ay ?_;repeat' (first|exact aq|refine ak ?_ ?_)))
    all_goals (first|(exact ai hs a)|exact aS)
 ·intro k R d
  unfold lL at d;split at d;cases d
  have A:k=L.length:=by
   rename_i X;omega
  subst A;obtain⟨j,J⟩:∃j,L.length=j+1:=⟨L.length- 1,by omega⟩;refine⟨(),trivial,?_⟩;show SEnt (tfS L L.length) _;rw[J];show SEnt (tf1 L (txD (L.reverse.take (j+1)))) _;rw[<-J,List.take_of_length_le (by simp)];exact SEnt.refl _
 rintro _ _;rw[tf1.eq_1];have M:txD L.reverse≠[]:=txD_ne (by simpa using p);refine s_r 2 ?_;refine o_2 (.callD rfl rfl rfl rfl rfl rfl (by decide) (by first|assumption|simp) (sd)) ?_;refine a_z ?_;exact aj (t_e (ag _))
theorem E9(m:Nat):(mtx m).length<=9* bl m+1:=by
 unfold mtx;split;simp;have a:=Ew (l:=(av MB m).reverse) fun x c=>dr (b:=MB) (by decide) m x (List.mem_reverse.1 c);have d:=bC (b:=MB) (by decide) m;rw[List.length_reverse] at a;omega
def qtx(q:Rat):List UInt8:=((if q.num< 0 then [45] else [])++mtx q.num.natAbs)++(if q.den=1 then [] else 47::mtx q.den)
def quS(q:Rat):List UInt8->AState
 |l=>⟨[(1,.aptr [qC q] 0 0),(3,tx l)],[],2,24⟩
theorem G3(q:Rat)(h:qs q<=68719476736):FS 32 [.agg (qC q)] (tx (qtx q)):=by
 have f:=E9 q.num.natAbs;have d:=E9 q.den;have c:1<=q.den:=q.den_pos;have g:=di q;have j:=c7 q;refine f_c Tryz.func32 ?_;refine r_z 2 ?_;refine AWp.ent (st':=⟨[(1,.aptr [qC q] 0 0)],[],2,24⟩) ?_ ?_;exact s_e [];refine r_c 5 (xi q.num.natAbs (Nat.le_trans (di q) h)) ?_;refine a_z ?_;refine a6 (quS q) (fun l=>l=(if q.num< 0 then [45] else [])++mtx q.num.natAbs) ?_ ?_;refine r_z 3 ?_;refine ap rfl (fun a=>?_) (fun a=>?_);have b:q.num< 0:=by simpa using a
 refine r_m 3 ?_;refine a_1 ?_;refine o_0 (.bin rfl rfl (eY (l:=[45]) (by simp;omega))) ?_;refine a_z ?_;refine⟨_,by rw[if_pos b],?_⟩;rw[quS.eq_1];exact s_x [] (fun hs=>e_3) (fun hs=>e_4);have b:¬q.num< 0:=by simpa using a
 refine am ⟨mtx q.num.natAbs,by rw[if_neg b];rfl,?_⟩;rw[quS.eq_1];exact s_x [] (fun hs=>e_3) (fun hs=>e_4);rintro l hl;have i:l.length<=618475290626:=by rw[hl];split <;> simp <;> omega
 rw[quS.eq_1];refine a6 (quS q) (fun l=>l=qtx q) ?_ ?_;refine r_c 4 (j6 (q.den- 1)) ?_;refine a_z ?_;refine ap rfl (fun a=>?_) (fun a=>?_)
 have b:¬q.den=1:=by
  intro e;rw[e] at a;simp at a
 refine r_m 7 ?_;refine c_s (eo q (by omega)) ?_;refine c_s (xi q.den (Nat.le_trans (c7 q) h)) ?_;refine o_0 (.bin rfl rfl (eY (l:=[47]) (by simp;omega))) ?_;refine o_0 (.bin rfl rfl (eY (by simp;omega))) ?_;refine a_z ?_;refine⟨_,by unfold qtx;rw[if_neg b,<-hl],?_⟩;rw[quS.eq_1];exact s_x [] (fun hs=>e_3) (fun hs=>e_4)
 have b:q.den=1:=by
  have k:q.den- 1=0:=by simpa using a
  omega
 refine am ⟨l,by unfold qtx;rw[if_pos b,<-hl,List.append_nil],?_⟩;rw[quS.eq_1];exact s_x [] (fun hs=>e_3) (fun hs=>e_4);rintro l rfl;rw[quS.eq_1];refine r_z 2 ?_;exact aj (t_e (ag _))
theorem pad9_pd{x:Nat}(h:x< 1000000000):Gn x=pd 9 x:=by
 by_cases h0:x=0;subst h0;decide+kernel;rw[IM 9 x (by omega) h];rfl
theorem Ex:∀(n m:Nat),m<=n->0< m->txD (av MB m).reverse=Lib.decDigits m
 |0,m,h,h0=>by omega
 |n+1,m,h,h0=>by
  have hb:MB=1000000000:=rfl;rw[eB (by decide) h0,List.reverse_cons];by_cases hm:m< MB;rw[Nat.div_eq_of_lt hm,cg,Nat.mod_eq_of_lt hm];simp[txD];have d:0< m/ MB:=Nat.div_pos (by omega) (by decide)
  have c:(av MB (m/ MB)).reverse≠[]:=fun e=>by
   have:=(fP (b:=MB) (by decide)).1 (List.reverse_eq_nil_iff.1 e);omega
  have a:m % MB< 1000000000:=Nat.mod_lt m (by decide);rw[Ab c,Ex n (m/ MB) (by have:=Nat.div_lt_self h0 (by decide:1< MB);omega) d,pad9_pd a,<-xD 9 (m/ MB) (m % MB) d a];congr 1;show m/ 1000000000* 1000000000+m % 1000000000=m;omega
theorem Fa(m:Nat):mtx m=Lib.decDigits m:=by
 unfold mtx;split
 ·rename_i h;subst h;decide+kernel
 exact Ex m m (Nat.le_refl _) (by omega)
def ztx(z:Int):List UInt8:=(if z< 0 then [45] else [])++Lib.decDigits z.natAbs
theorem Iz(q:Rat):qtx q=ztx q.num++(if q.den=1 then [] else 47::Lib.decDigits q.den):=by
 unfold qtx ztx;rw[Fa,Fa]
theorem vN(n:Nat):(Lib.decDigits n).length<=bl n+1:=by
 rw[Lib.decDigits_length];have h:n< 10^ (bl n+1):=Nat.lt_of_lt_of_le (uZ n) (Nat.le_trans (Nat.pow_le_pow_left (by decide:2<=10) _) (Nat.pow_le_pow_right (by decide) (by omega)));exact yK (bl n) n h
end Go.Proofs.YtiodeiecpoopgaaGreatDoor
