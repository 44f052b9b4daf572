/- Part Y27 of the proof. -/
import Derived.Test.YtjmkjicckobojaaGreatDoorY26
import Derived.Shelf.Strconv.Itoa3
import Derived.Shelf.Strings.Repeat
set_option linter.all false
namespace Go.Proofs.YtjmkjicckobojaaGreatDoor
open Go.Abs
set_option maxRecDepth 100000
set_option maxHeartbeats 2000000
section
variable {o:Option (List UInt8)}{n:Nat}
section
variable {P:Go.Program}{T:Nat}{x y:Operand}
theorem Di{l m:List UInt8}:∀w,(do eqGuard .neq T x y (.string ⟨l.toArray⟩) (.string ⟨m.toArray⟩);binOp .neq T (.string ⟨l.toArray⟩) (.string ⟨m.toArray⟩):Sem Value).run P w= .ok (.bool (!decide (l=m))) w:=λw=>by
 rw[Dh];congr 2
 have e:∀l:List UInt8,(⟨l.toArray⟩:ByteArray).toList=l:=by
  intro l;have:=ByteArray.toList_eq (bs:=⟨l.toArray⟩);simpa using this
 rw[e,e];rw[Nv];simp
end
def lL(o:Option (List UInt8))(c:Rat):Option (List UInt8):=
 match o with
 |none=>if c< 0 then some [45] else none
 |some s=>if c< 0 then some (s++[32,45,32]) else some (s++[32,43,32])
def wrO(o:Option (List UInt8))(t:List UInt8):Option (List UInt8):=some (o.getD []++t)
def ls(o:Option (List UInt8))(t:List UInt8):Option (List UInt8):=if t=[49] then o else wrO o (t++[32])
def pi(tq:Rat->List UInt8)(ti:Nat->List UInt8)(o:Option (List UInt8))(c:Rat)(n:Nat):Option (List UInt8):=
 if n=0 then wrO (lL o c) (tq (fN c))
 else if 1< n then wrO (wrO (ls (lL o c) (tq (fN c))) [120]) ([94]++ti n) else wrO (ls (lL o c) (tq (fN c))) [120]
def tU(tq:Rat->List UInt8)(ti:Nat->List UInt8)(p:Lq):Nat->Option (List UInt8)->Option (List UInt8)
 |0,o=>o
 |n+1,o=>tU tq ti p n (if coP p n=0 then o else pi tq ti o (coP p n) n)
def F1(tq:Rat->List UInt8)(ti:Nat->List UInt8)(p:Lq):List UInt8:=(tU tq ti (am p) (am p).length none).getD [48]
def F0(p:Lq):List UInt8:=F1 mZ ka p
def Kd(p:Lq):Prop:=p.length<=1000/\(am p).length<=99/\(∀c∈am p,okT c)
instance (p:Lq):Decidable (Kd p):=inferInstanceAs (Decidable (_/\_/\_))
def pb0(p:Lq):Int->AState
 |n=>⟨[(0,.arr (pE p)),(3,.lptr 1 0 0),(4,i64 n)],[(1,some ⟨205,2,[fe 1 2 none]⟩)],4,67⟩
def pb1(p:Lq):Int×List UInt8->AState
 |(n,s)=>⟨[(0,.arr (pE p)),(3,.lptr 1 0 0),(4,i64 n)],[(1,some ⟨205,2,[fe 1 2 (some s)]⟩),(2,some ⟨5,1,bE s⟩)],4,67⟩
def pbS(p:Lq)(n:Int):Option (List UInt8)->AState
 |none=>pb0 p n
 |some s=>pb1 p (n,s)
def pc0(p:Lq)(c:Rat):Int->AState
 |n=>⟨[(0,.arr (pE p)),(3,.lptr 1 0 0),(4,i64 n),(5,.lptr 3 0 0)],[(1,some ⟨205,2,[fe 1 2 none]⟩),(3,some ⟨42,3,[qC c]⟩)],4,67⟩
def pc1(p:Lq)(c:Rat):Int×List UInt8->AState
 |(n,s)=>⟨[(0,.arr (pE p)),(3,.lptr 1 0 0),(4,i64 n),(5,.lptr 3 0 0)],[(1,some ⟨205,2,[fe 1 2 (some s)]⟩),(2,some ⟨5,1,bE s⟩),(3,some ⟨42,3,[qC c]⟩)],4,67⟩
def pcS(p:Lq)(c:Rat)(n:Int):Option (List UInt8)->AState
 |none=>pc0 p c n
 |some s=>pc1 p c (n,s)
def pd0(p:Lq)(t:List UInt8):Int->AState
 |n=>⟨[(0,.arr (pE p)),(3,.lptr 1 0 0),(4,i64 n),(6,tx t)],[(1,some ⟨205,2,[fe 1 2 none]⟩)],4,67⟩
def pd1(p:Lq)(t:List UInt8):Int×List UInt8->AState
 |(n,s)=>⟨[(0,.arr (pE p)),(3,.lptr 1 0 0),(4,i64 n),(6,tx t)],[(1,some ⟨205,2,[fe 1 2 (some s)]⟩),(2,some ⟨5,1,bE s⟩)],4,67⟩
def pdS(p:Lq)(t:List UInt8)(n:Int):Option (List UInt8)->AState
 |none=>pd0 p t n
 |some s=>pd1 p t (n,s)
def uq(o:Option (List UInt8))(n:Nat):Prop:=∀s,o=some s->s≠[]/\s.length<=n
theorem v7(n:Nat):uq none n:=λs h=>by cases h
theorem sx{t:List UInt8}(h:uq o n)(h0:t≠[]):uq (wrO o t) (n+t.length):=by
 intro s hs;cases hs;cases o with
 |none=>exact⟨by simpa using h0,ψ⟩
 |some q=>exact⟨by simp[h0],by have:=(h q rfl).2;simp;omega⟩
theorem BR(h:uq o n)(c:Rat):uq (lL o c) (n+3):=by
 intro s hs;cases o with
 |none=>
  simp only[lL] at hs;split at hs;cases hs;exact⟨ψ,ψ⟩;cases hs
 |some q=>
  have:=(h q rfl).2;simp only[lL] at hs;split at hs <;> cases hs <;> exact⟨ψ,χ⟩
theorem iK{m:Nat}(h:uq o n)(hm:n<=m):uq o m:=λs hs=>⟨(h s hs).1,fo (h s hs).2 hm⟩
theorem Jh(q:Rat):mZ q≠[]:=nB.1 (textQ_len (q:=q)).2
theorem sgZ_neg(c:Rat):sgZ c.num< 0↔c< 0:=by
 rw[<-qA];unfold sgZ;split;omega;split <;> omega
theorem okT_abs{c:Rat}(h:okT c):okT (fN c):=by
 rw[oX];split;obtain⟨a,b⟩:=h;exact⟨by rw[O7];simpa using a,by rw[O8];exact b⟩;exact h
theorem Iw(tq:Rat->List UInt8)(ti:Nat->List UInt8)(L:Nat)(p:Lq)(h1:p.length<=1000)(hL:L<=10000)(h3:∀c∈am p,FS 47 [.agg (qC (fN c))] (tx (tq (fN c)))/\tq (fN c)≠[]/\(tq (fN c)).length<=L)(hI:∀n,n< (am p).length->FS 129 [i64 n] (tx (ti n))/\(ti n).length<=20):FS 46 [.arr (pE p)] (tx (F1 tq ti p)):=by
 have K:=ee p ω;obtain⟨q,X⟩:∃q,q=am p:=⟨_,rfl⟩;have hR:F1 tq ti p=(tU tq ti q q.length none).getD [48]:=by unfold F1;rw[X]
 rw[hR];have h2:=bm p;rw[<-X] at K h2 h3 hI;have C:∀k,(q.length- k) * (L+30)<=10030000:=λk=>vj (show q.length- k<=1000 by omega) (show L+30<=10030 by omega);refine f_c Tryz.func46 ?_;refine r_z 1 ?_;refine r_z 1 ?_;refine r_c 3 (K) ?_;refine a_z ?_;refine ae (r_z 4 ?_);refine aJ (pbS q (-1)) (λo=>o=tU tq ti q q.length none/\uq o 20000000) ?_ ?_;refine aj (aC (λx:Nat×Option (List UInt8)=>pbS q ((x.1:Int)- 1) x.2) (λx=>x.1) (λx=>x.1<=q.length/\tU tq ti q x.1 x.2=tU tq ti q q.length none/\uq x.2 ((q.length- x.1) * (L+30))) (q.length,none) ⟨ir _,rfl,v7 _⟩ ?_ ?_);show SEnt _ (pb0 q ((q.length:Int)- 1));rw[pb0.eq_1];exact s_e [(1,3)];rintro⟨n,o⟩ ⟨hn,z,u⟩;simp only at hn z u;cases n with
 |zero=>
  cases o with
  |none=>
   show AWp _ _ _ _ (pb0 q (((0:Nat):Int)- 1));rw[pb0.eq_1];refine ae (r_z 2 ?_);refine au rfl (λa=>?_) (λa=>?_);exact absurd a ψ;refine ay ⟨none,⟨z,v7 _⟩,?_⟩;show SEnt _ (pb0 q (-1));rw[pb0.eq_1];exact s_e []
  |some s=>
   show AWp _ _ _ _ (pb1 q (((0:Nat):Int)- 1,s));rw[pb1.eq_1];refine ae (r_z 2 ?_);refine au rfl (λa=>?_) (λa=>?_);exact absurd a ψ;refine ay ⟨some s,⟨z,iK u (by have:=C 0;omega)⟩,?_⟩;show SEnt _ (pb1 q (-1,s));rw[pb1.eq_1];exact s_e []
 |succ n=>
  have S:((n+1:Nat):Int)- 1=(n:Int):=ω
  rw[S];rw[tU] at z;have D:n< q.length:=ω
  obtain⟨c,W⟩:∃c,c=coP q n:=⟨_,rfl⟩;rw[<-W] at z;have O:(pE q)[((n:Nat):Int).toNat]?=some (qC c):=by rw[DH,W];exact pE_get (cm D)
  obtain⟨V,G,T⟩:=h3 c (by rw[W];exact mc (cm D))
  have Y:(q.length- n) * (L+30)=(q.length- (n+1)) * (L+30)+(L+30):=by
   rw[show q.length- n=(q.length- (n+1))+1 by omega,zu,Kk]
  obtain⟨B,Z⟩:∃B,B=(q.length- (n+1)) * (L+30):=⟨_,rfl⟩;have hmx:B<=10030000:=by rw[Z];exact C _
  rw[<-Z] at u Y;obtain⟨t,H⟩:∃t,t=tq (fN c):=⟨_,rfl⟩;rw[<-H] at G T V;obtain⟨fI,hd2⟩:=hI n D;refine bD (λ_:Unit=>pbS q n o) (λ_=>True) ?_ ?_;cases o with
  |none=>
   show AWp _ _ _ _ (pb0 q n);rw[pb0.eq_1];refine r_z 2 ?_;refine au rfl (λa=>?_) (λa=>?_);refine an ⟨(),trivial,?_⟩;show SEnt _ (pb0 q n);rw[pb0.eq_1];exact s_e [];exact absurd a ψ
  |some s=>
   show AWp _ _ _ _ (pb1 q (n,s));rw[pb1.eq_1];refine r_z 2 ?_;refine au rfl (λa=>?_) (λa=>?_);refine an ⟨(),trivial,?_⟩;show SEnt _ (pb1 q (n,s));rw[pb1.eq_1];exact s_e [];exact absurd a ψ
  rintro _ _;refine bD (pbS q n) (λA=>A=(if c=0 then o else pi tq ti o c n)) ?_ ?_;refine aj (bD (λ_:Unit=>pcS q c n o) (λ_=>True) ?_ ?_);cases o with
  |none=>
   show AWp _ _ _ _ (pb0 q n);rw[pb0.eq_1];refine r_m 6 ?_;refine a_2 ?_;refine i_x O ?_;refine l_x O ?_;refine a_z ?_;refine⟨(),trivial,?_⟩;show SEnt _ (pc0 q c n);rw[pc0.eq_1];exact s_x [(3,5)] (λhs=>dJ) (λhs=>LU)
  |some s=>
   show AWp _ _ _ _ (pb1 q (n,s));rw[pb1.eq_1];refine r_m 6 ?_;refine a_2 ?_;refine i_x O ?_;refine l_x O ?_;refine a_z ?_;refine⟨(),trivial,?_⟩;show SEnt _ (pc1 q c (n,s));rw[pc1.eq_1];exact s_x [(3,5)] (λhs=>dJ) (λhs=>LU)
  rintro _ _;refine bD (λ_:Unit=>pcS q c n o) (λ_=>c≠0) ?_ ?_;cases o with
  |none=>
   show AWp _ _ _ _ (pc0 q c n);rw[pc0.eq_1];refine r_c 3 (cX c) ?_;refine a_z ?_;refine au rfl (λa=>?_) (λa=>?_);have b:c=0:=sgZ_num_eq.1 (by simpa using a);refine ay ⟨none,by rw[if_pos b],?_⟩;show SEnt _ (pb0 q n);rw[pb0.eq_1];exact s_e [];have b:c≠0:=λe=>by have w:=sgZ_num_eq.2 e;simp[w] at a
   refine an ⟨(),b,?_⟩;show SEnt _ (pc0 q c n);rw[pc0.eq_1];exact s_e []
  |some s=>
   show AWp _ _ _ _ (pc1 q c (n,s));rw[pc1.eq_1];refine r_c 3 (cX c) ?_;refine a_z ?_;refine au rfl (λa=>?_) (λa=>?_);have b:c=0:=sgZ_num_eq.1 (by simpa using a);refine ay ⟨some s,by rw[if_pos b],?_⟩;show SEnt _ (pb1 q (n,s));rw[pb1.eq_1];exact s_e [];have b:c≠0:=λe=>by have w:=sgZ_num_eq.2 e;simp[w] at a
   refine an ⟨(),b,?_⟩;show SEnt _ (pc1 q c (n,s));rw[pc1.eq_1];exact s_e []
  rintro _ Q;rw[if_neg Q];have v:(sgZ c.num< 0)↔c< 0:=sgZ_neg c;refine bD (pcS q c n) (λA=>A=lL o c) ?_ ?_;refine aj ?_;cases o with
  |none=>
   show AWp _ _ _ _ (pc0 q c n);rw[pc0.eq_1];refine s_r 8 ?_;refine o_0 (.callR (s:=none) (j:=0) (tb:=0) rfl rfl rfl rfl rfl (λ_ h=>by cases h) (uW)) ?_;refine a_2 ?_;refine y_g rfl d_t (.load_l rfl rfl rfl TG.h TS.h (nle rfl)) ?_;refine y_g rfl d_t (.call rfl rfl rfl (cX c)) ?_;refine y_g rfl d_t (.bin rfl rfl fz) ?_;refine o_0 (.pickT rfl d_t rfl) ?_;refine a_z ?_;refine au rfl (λa=>?_) (λa=>?_);have b:c< 0:=v.1 (by simpa using a);refine r_m 1 ?_;refine o_2 (.callB (s:=none) (j:=0) rfl rfl rfl rfl rfl rfl (λ_ h=>by cases h) (mr [45] ψ ψ)) ?_;refine aq ?_;refine⟨some [45],by simp only[lL];rw[if_pos b],?_⟩;show SEnt _ (pc1 q c (n,[45]));rw[pc1.eq_1];exact s_z [(2,100012)] (λhs=>dJ) (λhs=>LU);have b:¬c< 0:=λe=>by have w:=v.2 e;simp[w] at a
   refine s_r 8 ?_;refine o_0 (.callR (s:=none) (j:=0) (tb:=0) rfl rfl rfl rfl rfl (λ_ h=>by cases h) (uW)) ?_;refine a_2 ?_;refine n_g rfl d_f ?_;refine n_g rfl d_f ?_;refine n_g rfl d_f ?_;refine o_0 (.pickF rfl d_f rfl) ?_;refine a_z ?_;refine cF (s_r 3 ?_);refine o_0 (.callR (s:=none) (j:=0) (tb:=0) rfl rfl rfl rfl rfl (λ_ h=>by cases h) (uW)) ?_;refine a_z ?_;refine au rfl (λr=>?_) (λr=>?_);exact absurd r ψ;refine an ⟨none,by simp only[lL];rw[if_neg b],?_⟩;show SEnt _ (pc0 q c n);rw[pc0.eq_1];exact s_e []
  |some s=>
   have F:=(u s rfl).1;have g:=(u s rfl).2;have hs0:s.length≠0:=by simpa using F
   show AWp _ _ _ _ (pc1 q c (n,s));rw[pc1.eq_1];refine s_r 8 ?_;refine o_0 (.callR (s:=some _) rfl rfl rfl rfl rfl (λ_ h=>by cases h;exact rfl) (uV s)) ?_;refine a_2 ?_;refine n_g rfl χ ?_;refine n_g rfl χ ?_;refine n_g rfl χ ?_;refine o_0 (.pickF rfl χ rfl) ?_;refine a_z ?_;refine au rfl (λa=>?_) (λa=>?_)
   ·first|(simp at a;done)|(simp at a;omega)|(simp at a;exact absurd a F)
   refine s_r 8 ?_;refine o_0 (.callR (s:=some _) rfl rfl rfl rfl rfl (λ_ h=>by cases h;exact rfl) (uV s)) ?_;refine a_2 ?_;refine y_g rfl χ (.load_l rfl rfl rfl TG.h TS.h (nle rfl)) ?_;refine y_g rfl χ (.call rfl rfl rfl (cX c)) ?_;refine y_g rfl χ (.bin rfl rfl fz) ?_;refine o_0 (.pickT rfl χ rfl) ?_;refine a_z ?_;refine au rfl (λw=>?_) (λw=>?_);have b:c< 0:=v.1 (by simpa using w);refine r_m 1 ?_;refine o_3 (.callB (s:=some _) rfl rfl rfl rfl rfl rfl (λ_ h=>by cases h;exact⟨rfl,δ⟩) (kz s [32,45,32] χ)) ?_;refine aq ?_;refine⟨some (s++[32,45,32]),by simp only[lL];rw[if_pos b],?_⟩;show SEnt _ (pc1 q c (n,s++[32,45,32]));rw[pc1.eq_1];exact s_z [(2,100020)] (λhs=>dJ) (λhs=>LU);have b:¬c< 0:=λe=>by have r:=v.2 e;simp[r] at w
   refine s_r 3 ?_;refine o_0 (.callR (s:=some _) rfl rfl rfl rfl rfl (λ_ h=>by cases h;exact rfl) (uV s)) ?_;refine a_z ?_;refine au rfl (λr=>?_) (λr=>?_);refine r_m 1 ?_;refine o_3 (.callB (s:=some _) rfl rfl rfl rfl rfl rfl (λ_ h=>by cases h;exact⟨rfl,δ⟩) (kz s [32,43,32] χ)) ?_;refine aq ?_;refine⟨some (s++[32,43,32]),by simp only[lL];rw[if_neg b],?_⟩;show SEnt _ (pc1 q c (n,s++[32,43,32]));rw[pc1.eq_1];exact s_z [(2,100023)] (λhs=>dJ) (λhs=>LU)
   ·first|(simp at r;done)|(simp at r;omega)|(simp at r;exact absurd r F)
  rintro o1 rfl;have i:=BR u c;obtain⟨o1,d⟩:∃o1,o1=lL o c:=⟨_,rfl⟩;rw[<-d] at i⊢;refine bD (λ_:Unit=>pdS q t n o1) (λ_=>True) ?_ ?_;cases o1 with
  |none=>
   show AWp _ _ _ _ (pc0 q c n);rw[pc0.eq_1];refine r_m 4 ?_;refine c_s (sR c) ?_;refine c_s (V) ?_;refine a_z ?_;refine⟨(),trivial,?_⟩;show SEnt _ (pd0 q t n);rw[pd0.eq_1];exact s_e []
  |some s=>
   show AWp _ _ _ _ (pc1 q c (n,s));rw[pc1.eq_1];refine r_m 4 ?_;refine c_s (sR c) ?_;refine c_s (V) ?_;refine a_z ?_;refine⟨(),trivial,?_⟩;show SEnt _ (pd1 q t (n,s));rw[pd1.eq_1];exact s_e []
  rintro _ _;refine bD (λ_:Unit=>pdS q t n o1) (λ_=>n≠0) ?_ ?_;cases o1 with
  |none=>
   show AWp _ _ _ _ (pd0 q t n);rw[pd0.eq_1];refine r_z 2 ?_;refine au rfl (λa=>?_) (λa=>?_);have b:n=0:=by simpa using a
   subst b;refine s_r 2 ?_;refine a_1 ?_;refine o_2 (.callB (s:=none) (j:=0) rfl rfl rfl rfl rfl rfl (λ_ h=>by cases h) (mr t G ω)) ?_;refine aq ?_;refine ay ⟨some t,by unfold pi;rw[if_pos rfl,<-d,<-H];rfl,?_⟩;show SEnt _ (pb1 q (((0:Nat):Int),t));rw[pb1.eq_1];exact s_z [(2,100007)] (λhs=>dJ) (λhs=>lG);have b:n≠0:=λe=>by simp[e] at a
   refine an ⟨(),b,?_⟩;show SEnt _ (pd0 q t n);rw[pd0.eq_1];exact s_e []
  |some s=>
   have g:=(i s rfl).2;show AWp _ _ _ _ (pd1 q t (n,s));rw[pd1.eq_1];refine r_z 2 ?_;refine au rfl (λa=>?_) (λa=>?_);have b:n=0:=by simpa using a
   subst b;refine s_r 2 ?_;refine a_1 ?_;refine o_3 (.callB (s:=some _) rfl rfl rfl rfl rfl rfl (λ_ h=>by cases h;exact⟨rfl,δ⟩) (kz s t ω)) ?_;refine aq ?_;refine ay ⟨some (s++t),by unfold pi;rw[if_pos rfl,<-d,<-H];rfl,?_⟩;show SEnt _ (pb1 q (((0:Nat):Int),s++t));rw[pb1.eq_1];exact s_z [(2,100007)] (λhs=>dJ) (λhs=>lG);have b:n≠0:=λe=>by simp[e] at a
   refine an ⟨(),b,?_⟩;show SEnt _ (pd1 q t (n,s));rw[pd1.eq_1];exact s_e []
  rintro _ N;refine bD (pbS q n) (λA=>A=ls o1 t) ?_ ?_;cases o1 with
  |none=>
   show AWp _ _ _ _ (pd0 q t n);rw[pd0.eq_1];refine s_r 2 ?_;refine a_1 ?_;refine o_0 (.bin rfl rfl (Di (m:=[49]))) ?_;refine aq ?_;refine au rfl (λa=>?_) (λa=>?_);have b:¬t=[49]:=by simpa using a
   refine r_m 3 ?_;refine a_1 ?_;refine o_0 (.bin rfl rfl (mw (m:=[32]) χ)) ?_;refine o_2 (.callB (s:=none) (j:=0) rfl rfl rfl rfl rfl rfl (λ_ h=>by cases h) (mr (t++[32]) ψ χ)) ?_;refine aq ?_;refine⟨some (t++[32]),by unfold ls;rw[if_neg b];rfl,?_⟩;show SEnt _ (pb1 q (n,t++[32]));rw[pb1.eq_1];exact s_z [(2,100008)] (λhs=>dJ) (λhs=>lG);have b:t=[49]:=by simpa using a
   refine an ⟨none,by unfold ls;rw[if_pos b],?_⟩;show SEnt _ (pb0 q n);rw[pb0.eq_1];exact s_e []
  |some s=>
   have g:=(i s rfl).2;show AWp _ _ _ _ (pd1 q t (n,s));rw[pd1.eq_1];refine s_r 2 ?_;refine a_1 ?_;refine o_0 (.bin rfl rfl (Di (m:=[49]))) ?_;refine aq ?_;refine au rfl (λa=>?_) (λa=>?_);have b:¬t=[49]:=by simpa using a
   refine r_m 3 ?_;refine a_1 ?_;refine o_0 (.bin rfl rfl (mw (m:=[32]) χ)) ?_;refine o_3 (.callB (s:=some _) rfl rfl rfl rfl rfl rfl (λ_ h=>by cases h;exact⟨rfl,δ⟩) (kz s (t++[32]) χ)) ?_;refine aq ?_;refine⟨some (s++(t++[32])),by unfold ls;rw[if_neg b];rfl,?_⟩;show SEnt _ (pb1 q (n,s++(t++[32])));rw[pb1.eq_1];exact s_z [(2,100008)] (λhs=>dJ) (λhs=>lG);have b:t=[49]:=by simpa using a
   refine an ⟨some s,by unfold ls;rw[if_pos b],?_⟩;show SEnt _ (pb1 q (n,s));rw[pb1.eq_1];exact s_e []
  rintro o2 f
  have y:uq o2 (B+L+4):=by
   rw[f];unfold ls;split;exact iK i ω;exact iK (sx i (t:=t++[32]) ψ) χ
  refine bD (λs=>pb1 q (n,s)) (λs=>wrO o2 [120]=some s) ?_ ?_;cases o2 with
  |none=>
   show AWp _ _ _ _ (pb0 q n);rw[pb0.eq_1];refine r_m 1 ?_;refine o_2 (.callB (s:=none) (j:=0) rfl rfl rfl rfl rfl rfl (λ_ h=>by cases h) (mr [120] ψ ψ)) ?_;refine aq ?_;refine⟨[120],rfl,?_⟩;simp only[pb1.eq_1];exact s_z [(2,100004)] (λhs=>dJ) (λhs=>lG)
  |some s=>
   have g:=(y s rfl).2;show AWp _ _ _ _ (pb1 q (n,s));rw[pb1.eq_1];refine r_m 1 ?_;refine o_3 (.callB (s:=some _) rfl rfl rfl rfl rfl rfl (λ_ h=>by cases h;exact⟨rfl,δ⟩) (kz s [120] χ)) ?_;refine aq ?_;refine⟨s++[120],rfl,?_⟩;simp only[pb1.eq_1];exact s_z [(2,100004)] (λhs=>dJ) (λhs=>lG)
  rintro s E;have R:=sx y (t:=[120]) ψ s E;have g:s.length<=B+L+5:=R.2;simp only[pb1.eq_1];refine r_z 2 ?_;refine au rfl (λa=>?_) (λa=>?_);have b:1< n:=by simp at a;omega
  refine r_m 4 ?_;refine c_s (fI) ?_;refine o_0 (.bin rfl rfl (mw (l:=[94]) χ)) ?_;refine o_3 (.callB (s:=some _) rfl rfl rfl rfl rfl rfl (λ_ h=>by cases h;exact⟨rfl,δ⟩) (kz s ([94]++ti n) χ)) ?_;refine aq ?_;refine⟨some (s++([94]++ti n)),by unfold pi;rw[if_neg N,if_pos b,<-d,<-H,<-f,E];rfl,?_⟩;show SEnt _ (pb1 q (n,s++([94]++ti n)));rw[pb1.eq_1];exact s_z [(2,100009)] (λhs=>dJ) (λhs=>lG);have b:¬1< n:=by simp at a;omega
  refine an ⟨some s,by unfold pi;rw[if_neg N,if_neg b,<-d,<-H,<-f,E],?_⟩;show SEnt _ (pb1 q (n,s));rw[pb1.eq_1];exact s_e [];rintro A M
  have J:uq A (B+(L+30)):=by
   rw[M];split;exact iK u ω;have U:=BR u c;unfold pi;rw[<-H]
   have g2:uq (ls (lL o c) t) (B+L+4):=by
    unfold ls;split;exact iK U ω;exact iK (sx U (t:=t++[32]) ψ) χ
   have g3:=sx g2 (t:=[120]) ψ;split;exact iK (sx U G) ω;split;exact iK (sx g3 (t:=[94]++ti n) ψ) χ;exact iK g3 χ
  rw[<-M] at z;cases A with
  |none=>
   show AWp _ _ _ _ (pb0 q n);rw[pb0.eq_1];refine r_m 3 ?_;refine a_z ?_;refine⟨(n,none),Ed n,⟨by simp only;omega,z,v7 _⟩,?_⟩;show SEnt _ (pb0 q ((n:Int)- 1));rw[pb0.eq_1];exact s_e []
  |some s=>
   show AWp _ _ _ _ (pb1 q (n,s));rw[pb1.eq_1];refine r_m 3 ?_;refine a_z ?_;refine⟨(n,some s),Ed n,⟨by simp only;omega,z,by simp only;rw[Y];exact J⟩,?_⟩;show SEnt _ (pb1 q ((n:Int)- 1,s));rw[pb1.eq_1];exact s_e []
 rintro o ⟨rfl,u⟩;cases y:tU tq ti q q.length none with
 |none=>
  show AWp _ _ _ _ (pb0 q (-1));rw[pb0.eq_1];refine ae (s_r 2 ?_);refine o_0 (.callR (s:=none) (j:=0) (tb:=0) rfl rfl rfl rfl rfl (λ_ h=>by cases h) (uW)) ?_;refine a_z ?_;refine au rfl (λa=>?_) (λa=>?_);refine r_z 1 ?_;exact ak (t_e (ah _));exact absurd a ψ
 |some s=>
  have hs:=u s y;have g:s.length≠0:=by have:=hs.1;simpa using this
  have hne:=hs.1;show AWp _ _ _ _ (pb1 q (-1,s));rw[pb1.eq_1];refine ae (s_r 2 ?_);refine o_0 (.callR (s:=some _) rfl rfl rfl rfl rfl (λ_ h=>by cases h;exact rfl) (uV s)) ?_;refine a_z ?_;refine au rfl (λa=>?_) (λa=>?_);exact absurd a χ;refine an (s_r 2 ?_);refine o_2 (.callD rfl rfl rfl rfl rfl rfl δ (by first|assumption|simp) (yz)) ?_;refine a_z ?_;exact ak (t_e (ah _))
theorem wG(p:Lq)(h:Kd p):FS 46 [.arr (pE p)] (tx (F0 p)):=by
 obtain⟨a,e,b⟩:=h;exact Iw mZ ka 6 p a δ (λc d=>⟨wF (fN c) (okT_abs (b c d)),Jh _,textQ_len.1⟩) (λn f=>⟨GZ n ω,fo (mh n) δ⟩)
end


inductive LeLL:Lc->Lc->Prop
 |nil:LeLL [] []
 |cons {e e' es es'}:LeL e e'->LeLL es es'->LeLL (e::es) (e'::es')
theorem leL_len{xs ys:La}(h:LeL xs ys):ys.length=xs.length:=by
 induction h with
 |nil=>rfl
 |cons _ _ a=>simp[a]
theorem leL_cs{M:Nat->Prop}{β:Bq}{w:World}{b:Nat}{xs ys:La}(h:LeL xs ys):∀{off:Nat},RVcs M β w b xs off->RVcs M β w b ys off:=by
 induction h with
 |nil=>exact λh=>h
 |cons d _ a=>rintro off ⟨⟨x,e,c⟩,hs⟩;exact⟨⟨x,e,d M β w x c⟩,a hs⟩
theorem LeLL.ess{M:Nat->Prop}{β:Bq}{w:World}{b s:Nat}{es es':Lc}(h:LeLL es es'):∀{off:Nat},RVess M β w b s es off->RVess M β w b s es' off:=by
 induction h with
 |nil=>exact λh=>h
 |cons a _ c=>rintro off ⟨e,f,d⟩;exact⟨(leL_len a).trans e,leL_cs a f,c d⟩
theorem LeLL.length{es es':Lc}(h:LeLL es es'):es'.length=es.length:=by
 induction h with
 |nil=>rfl
 |cons _ _ a=>simp[a]
theorem Le.arr{es es':Lc}(h:LeLL es es'):Le (.arr es) (.arr es'):=by
 rintro M β w y ⟨a,c,rfl,i,g,k⟩;refine⟨a,c,by rw[h.length],by rw[h.length];exact i,g,k.imp (λe=>?_) ?_⟩;subst e;cases h;rfl;rintro⟨b,d,s,rfl,hN,f,j⟩;exact⟨b,d,s,rfl,hN,f,h.ess j⟩
theorem LeLL.refl:∀es,LeLL es es
 |[]=> .nil
 |e::es=> .cons (LeL.refl e) (LeLL.refl es)
section
variable {P:Go.Program}{T:Nat}{x y:Operand}
end
theorem wr(p:Lq)(n:Nat)(hs:bdL p 256)(hl:p.length<=12)(hn:n<=6)(hb:∀k,k<=n->pB p.length k<=1073741824):FS 92 [.arr (pE p),i64 n] (.arr (pE (qp p n))):=by
 refine f_c Tryz.func92 ?_;refine r_z 1 ?_;refine r_c 8 (Lu p n hs hl hn hb) ?_;refine a_z ?_;refine r_z 2 ?_;exact ak (t_e (aw _))
theorem fs_Mulx(p:Lq)(o:gQ p [0,1]):FS 29 [.arr (pE p),.arr [zC,qC ((1:Int):Rat)]] (.arr (pE (aG p [0,1]))):=
 (pz p [0,1] (mxL _) (mxL _) (dO _) (dO _) (dB _) (dB _) o.1 o.2.1 o.2.2.1 o.2.2.2).weak
  (.cons (Le.refl _) (.cons (Le.arr (.cons le_zC (.cons (LeL.refl _) .nil))) .nil)) (ac (aw p) (ac (aP λe a c b=>by
   rcases pY.1 a with rfl|a
   exact gM c b;rw[kI.1 a] at b;exact bi _ c b) af))
def moT(f:Lq)(s:Sp)(k:Nat):Option La:=some [.agg (qC (moQ f s k))]
theorem H8(f:Lq)(s:Sp)(K:Nat)(hK:K<=1000000)(hok:∀k,k<=K->Kf f s k):GSpecB Tryz.prog 94 [bP f,bS s] (moT f s) K:=by
 have a:Closed (bP f):=b9 f;have g:Closed (bS s):=kx s;refine GSpecB.enter Tryz.func94 rfl ξ rfl rfl rfl ?_ ?_ rfl ?_;exact ac a (ac g af);intro k xs h;cases h;exact ac (aU _) af;intro ll N hN E;refine GWp.seq ?_;refine GWp.lift ?_;refine r_m 2 ?_;refine a_z ?_;refine GWp.block ?_;refine GWp.loopS (λk:Nat=>⟨[(0,.v (.func (.yield ll) #[] #[])),(1,bP f),(2,bS s),(4,.arr (pE (gK f k)))],[],1,16⟩) (λk=>k) (λk=>N+1- k) (λk=>k<=N) 0 (mN _) rfl ?_ ?_;exact s_e [];intro k n;obtain⟨o1,o2,i,m,j⟩:=hok k ω;have b:FS 95 [.arr (pE (gK f k)),.agg (spC s.1 s.2)] (.agg (qC (moQ f s k))):=Cp (gK f k) s.1 s.2 o1 o2 i m;refine GWp.seq ?_;refine GWp.seq ?_;refine GWp.regY (fr2:=[(0,.v (.func (.yield ll) #[] #[])),(1,bP f),(2,bS s),(4,.arr (pE (gK f k))),(6,.v (.func (.yield ll) #[] #[])),(9,.agg (qC (moQ f s k)))]) (hp2:=[]) (nx2:=1) 4 rfl rfl rfl rfl rfl rfl ?_ rfl rfl rfl ?_ ?_ ?_;refine o_0 (.move rfl) ?_;refine o_0 (.move rfl) ?_;refine bZ (.load_a rfl rfl TG.h TS.h (nle rfl)) rfl rfl ?_;refine o_0 (.call rfl rfl rfl (b)) ?_;refine aq ?_;exact s_y [] (λhs=>dJ) (λhs=>lG);rotate_left 2;intro l;refine aq ?_;rotate_left;rfl;exact ac (aU _) af;cases l with
 |false=>
  refine GWp.cond rfl (λh=>?_) (λh=>?_);cases h;exact GWp.exit ⟨.inl rfl,λh=>by cases h⟩
 |true=>
  refine GWp.bound λd=>?_;refine GWp.cond rfl (λh=>?_) (λh=>?_);rotate_left;cases h;refine GWp.skip ?_;have e:=fF 1 δ;have c:=fs_Mulx (gK f k) j;refine GWp.lift ?_;refine aj (r_m 6 ?_);refine c_s (e) ?_;refine a_1 ?_;refine o_1 (.callS1 rfl rfl rfl (.keep (.shut rfl d_n (.nil))) rfl (c)) ?_;refine a_z ?_;refine⟨rfl,k+1,ω,d,rfl,?_⟩;exact s_e []
theorem Gs(l:Lq)(q:Rat):pE (l++[q])=pE l++[qC q]:=by simp[pE]
def tk0(g:Nat)(cap:La)(n:Int):Unit->AState
 |u=>⟨[(3,.lptr 1 0 0),(5,.lptr 2 0 0),(7,.clos g [] cap)],[(1,some ⟨3,1,[[i64 n]]⟩),(2,some ⟨61,1,[[.emp]]⟩)],4,18⟩
def tk1(g:Nat)(cap:La)(n:Int)(sq:Nat->Rat):Nat->AState
 |k=>⟨[(3,.lptr 1 0 0),(5,.lptr 2 0 0),(7,.clos g [] cap)],[(1,some ⟨3,1,[[i64 n]]⟩),(2,some ⟨61,1,[[.lsl 3 0 (k+1) none 3]]⟩),(3,some ⟨42,3,pE (sqL sq (k+1))⟩)],4,18⟩
def tkX(z:Nat)(sq:Nat->Rat):Unit->AState
 |u=>⟨[(5,.lptr 1 0 0)],[(1,some ⟨61,1,[[.lsl 2 0 (z+1) none 3]]⟩),(2,some ⟨42,3,pE (sqL sq (z+1))⟩)],4,18⟩
def tkS(g:Nat)(cap:La)(n:Int)(sq:Nat->Rat):Nat->AState
 |0=>tk0 g cap n ()
 |k+1=>tk1 g cap n sq k
theorem K0(g:Nat)(cap:La)(hcap:∀c∈cap,Closed c)(sq:Nat->Rat)(n:Nat)(hn:n<=1000)(hcm:cap.map coe=cap)(hgs:GSpecB Tryz.prog g (cap.map coe) (λk=>some [.agg (qC (sq k))]) n):FS 96 [.clos g [] cap,i64 n] (.arr (pE (sqL sq (n+1)))):=by
 have i:Closed (.clos g [] cap):=aX af hcap;refine f_c Tryz.func96 ?_;refine r_z 2 ?_;refine r_z 1 ?_;refine ae (r_z 1 ?_);refine aJ (tkX n sq) (λ_=>True) ?_ ?_;refine aj (AWp.rangeFuncB (α:=Nat) (γ:=Unit) n (tkS g cap n sq) (λk=>k) (λk=>k<=n) (tkX n sq) (λe _=>e= .exit 0) 0 rfl hgs rfl rfl ?_ (λk=>by cases k <;> exact⟨rfl,rfl⟩) (λ_=>rfl) (mN _) rfl (λ_ h=>h) ?_ ?_ ?_ ?_ ?_);intro k xs d;cases d;rfl;show SEntT _ (tk0 g cap n ());rw[tk0.eq_1];exact s_t [(1,3),(2,5)];rw[hcm];exact hcap
 ·intro l k xs f d
  cases d;cases k with
  |zero=>
   show AWp _ _ _ _ ⟨jJ (tk0 g cap n ()).fr _ _++eX (tk0 g cap n ()).fr,_,_,_⟩;show AWp _ _ _ _ ⟨[(8,.agg (qC (sq 0))),(3,.lptr 1 0 0),(5,.lptr 2 0 0),(7,.clos g [] cap),(1003,.lptr 1 0 0),(1005,.lptr 2 0 0),(1007,.clos g [] cap)],[(1,some ⟨3,1,[[i64 n]]⟩),(2,some ⟨61,1,[[.emp]]⟩)],4,18⟩;refine r_m 2 ?_;refine a_z ?_;refine aj (s_r 5 ?_);refine a_3 ?_;refine o_1 (.append_e rfl rfl rfl te_61.h rfl rfl rfl (.lsl rfl (nle rfl)) (by first|assumption|(simp;done)) TZ.h rfl TB.h d_o μ) ?_;refine a_z ?_;refine r_z 4 ?_;refine au rfl (λa=>?_) (λa=>?_)
   have b:n=0:=by
    simp at a;omega
   subst b;refine ay (⟨rfl,(),rfl,?_⟩);show SEntT _ ⟨[(1005,.lptr 1 0 0)],[(1,some ⟨61,1,[[.lsl 2 0 (0+1) none 3]]⟩),(2,some ⟨42,3,pE (sqL sq (0+1))⟩)],4,18⟩;have:=aK [sq 0];exact s_t [(1,1005),(2,12)]
   have b:¬n=0:=by
    simp at a;omega
   refine an (⟨0+1,⟨ω,rfl⟩,?_⟩);show SEntT _ ⟨[(1003,.lptr 1 0 0),(1005,.lptr 2 0 0),(1007,.clos g [] cap)],[(1,some ⟨3,1,[[i64 n]]⟩),(2,some ⟨61,1,[[.lsl 3 0 (0+1) none 3]]⟩),(3,some ⟨42,3,pE (sqL sq (0+1))⟩)],4,18⟩;have:=aK [sq 0];exact s_t [(3,12)]
  |succ k=>
   show AWp _ _ _ _ ⟨jJ (tk1 g cap n sq k).fr _ _++eX (tk1 g cap n sq k).fr,_,_,_⟩;have e:pE (sqL sq (k+1))++[qC (sq (k+1))]=pE (sqL sq (k+1+1)):=by rw[Jq sq (k+1),Gs]
   show AWp _ _ _ _ ⟨[(8,.agg (qC (sq (k+1)))),(3,.lptr 1 0 0),(5,.lptr 2 0 0),(7,.clos g [] cap),(1003,.lptr 1 0 0),(1005,.lptr 2 0 0),(1007,.clos g [] cap)],[(1,some ⟨3,1,[[i64 n]]⟩),(2,some ⟨61,1,[[.lsl 3 0 (k+1) none 3]]⟩),(3,some ⟨42,3,pE (sqL sq (k+1))⟩)],4,18⟩;refine r_m 2 ?_;refine a_z ?_;refine aj (r_z 5 ?_);refine r_z 4 ?_;refine au rfl (λa=>?_) (λa=>?_)
   have b:n=k+1:=by
    simp at a;omega
   subst b;refine ay (⟨rfl,(),rfl,?_⟩);show SEntT _ ⟨[(1005,.lptr 1 0 0)],[(1,some ⟨61,1,[[.lsl 2 0 ((k+1)+1) none 3]]⟩),(2,some ⟨42,3,pE (sqL sq ((k+1)+1))⟩)],4,18⟩;exact s_t [(1,1005),(2,12)]
   have b:¬n=k+1:=by
    simp at a;omega
   refine an (⟨k+1+1,⟨ω,rfl⟩,?_⟩);show SEntT _ ⟨[(1003,.lptr 1 0 0),(1005,.lptr 2 0 0),(1007,.clos g [] cap)],[(1,some ⟨3,1,[[i64 n]]⟩),(2,some ⟨61,1,[[.lsl 3 0 ((k+1)+1) none 3]]⟩),(3,some ⟨42,3,pE (sqL sq ((k+1)+1))⟩)],4,18⟩;exact s_t [(3,12)]
 intro k f d;cases d;rintro e u rfl;exact⟨u,trivial,SEnt.refl _⟩;rintro u _;rw[tkX.eq_1];refine r_z 2 ?_;exact ak (Fin.tmpS rfl rfl rfl ψ (aK _))
def w0C:La:=[.emp,bln false,bln false]++zC++zC
theorem Fo:∀c∈w0C,Closed c:=λc a=>by
 unfold w0C at a;rcases n7.1 a with a|a
 rcases n7.1 a with a|a
 exact ac dy (ac (ah _) (ac (ah _) af)) c a;exact gM c a;exact gM c a
theorem CC(a b:Rat)(n:Nat)(hn:n<=63)(hab:a< b)(ha:qs a<=256)(hb:qs b<=256)(hok:∀k,k<=n->Kf [1] (a,b) k):
    FS 31 [.agg (spC a b),i64 0,i64 0,i64 n] (.tup [.agg (wC (sqL (moQ [1] (a,b)) (n+1)) true true (qC a) (qC b)),i64 0]):=by
 have r:sm a:=fo ha δ;have sb:sm b:=fo hb δ;have i:=kr a b r sb;rw[decide_eq_true (show eD a b<=0 by unfold eD;rw[if_pos hab];decide)] at i;have p:=cX (b- a);have s:¬sgZ (b- a).num=0:=λe=>by have:=sgZ_num_eq.1 e;grind
 have d:=mS 0 0 8;rw[decide_eq_false δ] at d;have g:=mS (n:Nat) 0 63;rw[decide_eq_false ω] at g
 have l:FS 92 [.arr [qC (-a),qC ((1:Int):Rat)],i64 0] (.arr (pE [1])):=wr [-a,1] 0 (λq f=>by
  rcases pY.1 f with rfl|f
  rw[fa];exact ha;rw[kI.1 f];decide) ψ δ (λk t=>by
  have:k=0:=ω
  subst this;show pB 2 0<=_;decide)
 have o:FS 92 [.arr [qC b,qC ((-1:Int):Rat)],i64 0] (.arr (pE [1])):=wr [b,-1] 0 (λq f=>by
  rcases pY.1 f with rfl|f
  exact hb;rw[kI.1 f];decide) ψ δ (λk t=>by
  have:k=0:=ω
  subst this;show pB 2 0<=_;decide)
 have j:=pz [1] [1] 1 1 δ δ δ δ δ δ δ δ;rw[show aG [1] [1]=[1] by decide+kernel] at j;have m:=K0 94 [bP [1],bS (a,b)] (ac (b9 _) (ac (kx _) af)) (moQ [1] (a,b)) n ω rfl (H8 [1] (a,b) n ω hok);refine f_c Tryz.func31 ?_;refine r_z 3 ?_;refine bD (λ_:Unit=>⟨[(1,i64 0),(2,i64 0),(3,i64 n),(4,.lptr 1 0 0),(8,.lptr 2 0 0)],[(1,some ⟨51,6,[spC a b]⟩),(2,some ⟨100,9,[w0C]⟩)],3,58⟩) (λ_=>True) ?_ ?_;refine aj (r_c 10 (i) ?_);refine c_s (oJ a b r sb) ?_;refine c_s (p) ?_;refine d_z ?_;refine cF (r_c 11 (d) ?_);refine c_s (d) ?_;refine c_s (g) ?_;refine a_z ?_;refine cF (an ⟨(),trivial,?_⟩);refine s_x [(1,4),(2,8)] (λhs=>dJ) (λhs=>?_)
 ·repeat' (first|exact aF|refine h_c ?_ ?_|exact aB (CvL.clo hs (λc u=>(n7.1 u).elim (bi _ c) (bi _ c)))|exact aB (CvL.clo hs Fo)|exact bG)
 rintro _ _;refine ae (r_d ba 16 ?_);refine c_s (iP a) ?_;refine c_s (fF 1 δ) ?_;refine a_2 ?_;refine o_1 (.callS1 rfl rfl rfl (.shut rfl d_n (.keep (.nil))) rfl (l)) ?_;refine c_s (fF (-1) δ) ?_;refine a_2 ?_;refine o_1 (.callS1 rfl rfl rfl (.shut rfl d_n (.keep (.nil))) rfl (o)) ?_;refine c_s (j) ?_;refine a_2 ?_;refine aq (n_k ?_);refine AWp.ent (st':=⟨[(3,i64 n),(4,bS (a,b)),(8,.lptr 1 0 0),(10,bP [1])],[(1,some ⟨100,9,[w0C]⟩)],2,58⟩) ?_ ?_;exact s_f [(1,8)];refine r_z 2 ?_;refine ae (r_d ba 10 ?_);refine c_s (m) ?_;refine a_7 ?_;refine aq (n_k ?_);refine ak (Fin.many ⟨_,_,rfl,⟨_,_,_,_,_,rfl,rfl,rfl,.inl ⟨TG.h,_,TS.h,nle rfl,rfl⟩⟩,⟨_,_,rfl,rfl,rfl⟩⟩ (nle rfl) ?_);exact ai (ao aE (aD (ju (.inr ⟨a,rfl⟩) (.inr ⟨b,rfl⟩)))) (ai (ao aE (ah _)) av)
theorem ud(L:Lq):∀n,LeLL (List.replicate n zC++pE L) (pE (List.replicate n 0++L))
 |0=>LeLL.refl _
 |n+1=> .cons le_zC (ud L n)
theorem xw(n:Nat)(L:Lq):Closed (.arr (List.replicate n zC++pE L)):=aP λc a=>(n7.1 a).elim (λh=>by rw[Ov h];exact gM) (aK L c)
theorem FSpec.zerosQ{P:Program}{f n:Nat}{L:Lq}{a r:AV}(h:FSpec P f [a,.arr (pE (List.replicate n 0++L))] r)(ha:Closed a):FSpec P f [a,.arr (List.replicate n zC++pE L)] r:=
 h.weak (.cons (Le.refl _) (.cons (Le.arr (ud L n)) .nil)) (ac ha (ac (xw n L) af))
theorem I6(n:Nat):(List.replicate n zC).all (·.all AV.one)=true:=by
 simp only[List.all_replicate];cases n <;> rfl
theorem uU(p q:Lq)(o:gQ p q):FS 29 [.arr (pE p),.arr (pE q)] (.arr (pE (aG p q))):=
 pz p q (mxL p) (mxL q) (dO p) (dO q) (dB p) (dB q) o.1 o.2.1 o.2.2.1 o.2.2.2
theorem ii{r:Ren}{hp hp':Hq}{id n:Nat}{cap:Option Nat}{B:ABlk}{L:Lq}(h:Shr r hp hp')(hi:dS hp id=some B)(hi':ux r hp' id)(he:B.es=pE L)(hn:n=L.length):Cv r hp hp' (.lsl id 0 n cap 3) (.arr (pE L)):=
 Cv.shut h hi hi' (by rw[he,hn];simp) (aM h (by rw[he,sr];exact nk (by simp[hn])) (aK _))
theorem CvL_zC{r:Ren}{hp hp':Hq}(h:Shr r hp hp'):CvL r hp hp' zC (qC 0):=by
 rw[qC0];exact ai (Cv.emp _) (ai (ao h (ah _)) (ai (Cv.emp _) av))






end Go.Proofs.YtjmkjicckobojaaGreatDoor
namespace Go.Proofs.YtjmkjicckobojaaGreatDoor
open Go.Shelf


end Go.Proofs.YtjmkjicckobojaaGreatDoor
namespace Go.Proofs.YtjmkjicckobojaaGreatDoor
open Go.Abs Go.RowKit

end Go.Proofs.YtjmkjicckobojaaGreatDoor
namespace Go.Proofs.YtjmkjicckobojaaGreatDoor
open Go.Abs
set_option maxRecDepth 20000
set_option maxHeartbeats 1000000




abbrev fO:=Int×Int×Nat
def nV(r:fO):Rat:=qB r.1 r.2.1 r.2.2
def nR(l:List fO):Lc:=l.map λr=>nuC r.1 r.2.1 r.2.2
def nL(l:List fO):Lq:=l.map nV
abbrev rL(l:Lq):Lc:=rE (l.map rq)
def okR(l:List fO):Prop:=∀r∈l,l8 r.1/\l8 r.2.1/\r.2.2<=255
theorem c9(l:List fO):∀e∈nR l,∀c∈e,Closed c:=by
 intro e a c b;obtain⟨r,_,rfl⟩:=sd.1 a;exact jv _ _ _ c b
theorem mn(l:Lq):∀e∈rL l,∀c∈e,Closed c:=ku _
def liS(l:List fO):Lq->Nat->AState
 |[],i=>⟨[(0,.arr (nR l)),(4,.emp),(5,.emp),(6,i64 i)],[],1,33⟩
 |q::Q,i=>⟨[(0,.arr (nR l)),(4,.lsl 1 0 (Q.length+1) none 3),(5,.lsl 2 0 (Q.length+1) none 4),(6,i64 i)],[(1,some ⟨42,3,pE (q::Q)⟩),(2,some ⟨47,4,rL (q::Q)⟩)],3,33⟩
theorem qH(l:List fO)(i:Nat):liS l [] i=⟨[(0,.arr (nR l)),(4,.emp),(5,.emp),(6,i64 i)],[],1,33⟩:=rfl
theorem l6(l:List fO)(q:Rat)(Q:Lq)(i:Nat):liS l (q::Q) i=⟨[(0,.arr (nR l)),(4,.lsl 1 0 (Q.length+1) none 3),(5,.lsl 2 0 (Q.length+1) none 4),(6,i64 i)],[(1,some ⟨42,3,pE (q::Q)⟩),(2,some ⟨47,4,rL (q::Q)⟩)],3,33⟩:=rfl
theorem fs_List(l:List fO)(hl:l.length<=1099511627776)(hb:okR l):FS 115 [.arr (nR l)] (.tup [.arr (pE (nL l)),.arr (rL (nL l))]):=by
 have r:∀q:Rat,∀e∈[rC (rq q)],∀c∈e,Closed c:=λq=>mn [q];refine f_n Tryz.func115 ?_ ?_;exact ac (aP (c9 l)) af;refine r_z 2 ?_;refine r_z 1 ?_;refine r_z 1 ?_;refine ae (r_z 1 ?_);refine aJ (λ_:Unit=>liS l (nL l) l.length) (λ_=>True) ?_ ?_;refine aj (aC (λi:Nat=>liS l (nL (l.take i)) i) (λi=>l.length- i) (λi=>i<=l.length) 0 (mN _) ?_ ?_);show SEnt _ (liS l [] 0);rw[qH];have:=(aP (c9 l));exact s_f [];rintro i s;have p:(nR l).length=l.length:=by simp[nR]
 by_cases hlt:i< l.length
 ·obtain⟨n,o⟩:∃n,l[i]?=some n:=⟨_,eT hlt⟩
  have a:(nR l)[((i:Nat):Int).toNat]?=some (nuC n.1 n.2.1 n.2.2):=by
   show(nR l)[i]?=_;simp[nR,o]
  obtain⟨j,m,k⟩:=hb n (mc o);have b:=rp n.1 n.2.1 n.2.2 j m k;obtain⟨v,hv⟩:∃v,v=qB n.1 n.2.1 n.2.2:=⟨_,rfl⟩;rw[<-hv] at b;have d:nL (l.take (i+1))=nL (l.take i)++[v]:=by rw[cZ o];simp[nL,nV,hv]
  have f:(nL (l.take i)).length=i:=by simp[nL];omega
  cases hQ:nL (l.take i) with
  |nil=>
   simp only[qH];refine ae (r_z 4 ?_);refine au rfl (λh=>?_) (λh=>?_);rotate_left;exact absurd h (by simp[nR];omega);refine an (ae (aj (s_r 12 ?_)));refine a_2 ?_;refine i_x a ?_;refine l_x a ?_;refine c_s (b) ?_;refine a_z ?_;refine r_d ba 10 ?_;refine a_8 ?_;refine a_2 ?_;refine aq (n_k ?_);refine r_m 3 ?_;refine a_z ?_;refine⟨i+1,ω,hlt,?_⟩;simp only[d,hQ,Nf,l6];refine s_x [(1,4),(2,5)] (λhs=>e_43) (λhs=>?_)
   ·repeat' (first|exact aF|refine h_c ?_ ?_|exact bv hs (aK [v])|exact bv hs (mn [v])|exact bG|refine aB ?_|exact av|refine ai ?_ ?_|exact ao hs (aP (c9 l))|exact aZ)
  |cons q Q=>
   rw[hQ] at f;simp at f;simp only[l6];refine ae (r_z 4 ?_);refine au rfl (λh=>?_) (λh=>?_);rotate_left;exact absurd h (by simp[nR];omega);refine an (ae (aj (s_r 12 ?_)));refine a_2 ?_;refine i_x a ?_;refine l_x a ?_;refine c_s (b) ?_;refine a_z ?_;refine r_d ba 10 ?_;refine a_8 ?_;refine a_2 ?_;refine aq (n_k ?_);refine r_m 3 ?_;refine a_z ?_;refine⟨i+1,ω,hlt,?_⟩;simp only[d,hQ,LJ,l6];have e:pE (q::Q)++[qC v]=pE (q::(Q++[v])):=by simp[pE]
   have e2:rL (q::Q)++[rC (rq v)]=rL (q::(Q++[v])):=by simp[rE]
   refine s_x [(1,4),(2,5)] (λhs=>e_43) (λhs=>?_) e_9
   ·repeat' (first|exact aF|refine h_c ?_ ?_|exact aM hs e (aK _)|exact aM hs e2 (mn _)|exact bG|refine aB ?_|exact av|refine ai ?_ ?_|exact ao hs (aP (c9 l))|exact aZ)
 have g:i=l.length:=ω
 subst g;simp only[qj];cases hQ:nL l with
 |nil=>
  simp only[qH];refine ae (r_z 4 ?_);refine au rfl (λh=>?_) (λh=>?_);exact absurd h (by simp[nR]);refine ay ⟨(),trivial,?_⟩;simp only[hQ,qH];have:=(aP (c9 l));exact s_f []
 |cons q Q=>
  simp only[l6];refine ae (r_z 4 ?_);refine au rfl (λh=>?_) (λh=>?_);exact absurd h (by simp[nR]);refine ay ⟨(),trivial,?_⟩;simp only[hQ,l6];have:=(aP (c9 l));exact s_f []
 rintro _ _;cases hQ:nL l with
 |nil=>
  simp only[qH];refine r_z 4 ?_;refine ak (Fin.many ⟨_,_,rfl,rfl,⟨_,_,rfl,rfl,rfl⟩⟩ (nle rfl) ?_);exact ai (Cv.emp _) (ai (Cv.emp _) av)
 |cons q Q=>
  simp only[l6];refine r_z 4 ?_;refine ak (Fin.many ⟨_,_,rfl,rfl,⟨_,_,rfl,rfl,rfl⟩⟩ (nle rfl) ?_);exact ai (Cv.sealE aE rfl (λ_ _ h=>by cases h) rfl ψ (aK _)) (ai (Cv.sealE aE rfl (λ_ _ h=>by cases h) rfl ψ (mn _)) av)
theorem wI(l:List fO)(hl:l.length<=1099511627776)(hb:okR l):FS 40 [.arr (nR l)] (.tup [.arr (pE (nL l)),.arr (rL (nL l))]):=by
 refine f_n Tryz.func40 ?_ ?_;exact ac (aP (c9 l)) af;refine r_z 2 ?_;refine r_c 7 (fs_List l hl hb) ?_;refine a_z ?_;refine r_z 4 ?_;refine ak (Fin.many ⟨_,_,rfl,rfl,⟨_,_,rfl,rfl,rfl⟩⟩ (nle rfl) ?_);exact ai (ao aE (aP (aK _))) (ai (ao aE (aP (mn _))) av)
def vR(x:List RQ):Lq:=x.map (·.1)
def xK(x:List RQ):List RQ:=x.take (am (vR x)).length
theorem vR_trim(x:List RQ):vR (xK x)=am (vR x):=by
 unfold xK;rw[vR,Pk];exact(r7 (vR x)).symm
@[simp] theorem xH (x:List RQ):(vR x).length=x.length:=by simp[vR]
def rtmS(x:List RQ):Nat->AState
 |n=>⟨[(0,.arr (rE x)),(3,i64 n)],[],1,23⟩
theorem K7(x:List RQ)(hl:x.length<=1099511627776):FS 63 [.arr (rE x)] (.arr (rE (xK x))):=by
 obtain⟨v,hv⟩:∃v,v=vR x:=⟨_,rfl⟩;have i:v.length=x.length:=by rw[hv];simp
 refine f_c Tryz.func63 ?_;refine r_z 1 ?_;refine r_z 3 ?_;refine bD (rtmS x) (λn=>n<=v.length/\am v=v.take n) ?_ ?_;refine aj (aC (rtmS x) (λn=>n) (λn=>n<=v.length/\am v=am (v.take n)) v.length ⟨ir _,by rw[qj]⟩ ?_ ?_);simp only[rtmS.eq_1];rw[i];exact s_e [];rintro n ⟨o,a⟩;simp only[rtmS.eq_1];cases n with
 |zero=>
  refine ae (s_r 11 ?_);refine a_1 ?_;refine o_0 (.bin rfl rfl (vF my (ψ))) ?_;refine a_z ?_;refine cF (ay ⟨0,⟨mN _,?_⟩,?_⟩);rw[a];rfl;simp only[rtmS.eq_1];exact s_e []
 |succ n=>
  obtain⟨y,m⟩:∃y,x[n]?=some y:=⟨_,eT ω⟩;have p:v[n]?=some y.1:=by rw[hv,vR,wS,m];rfl
  have c:(rE x)[(((n+1:Nat):Int)- 1).toNat]?=some (rC y):=by
   rw[show(((n+1:Nat):Int)- 1).toNat=n by omega];exact rE_get m
  have hs:am (v.take (n+1))=if y.1=0 then am (v.take n) else v.take (n+1):=by
   rw[cZ p,mF]
  by_cases h0:y.1=0;refine ae (s_r 11 ?_);refine d_6 ?_;refine bF rfl rfl rfl (.index_a rfl rfl ω c rfl te_78.h) rfl rfl ?_;refine bF rfl rfl rfl (.load_a rfl c TG.h TS.h (nle rfl)) rfl rfl ?_;refine c_s (Cm y) ?_;refine bF rfl rfl rfl (.bin rfl rfl (vT cK ((by rw[h0];decide)))) rfl rfl ?_;refine a_z ?_;refine cT (an (aj (r_m 3 ?_)));refine a_z ?_;refine⟨n,Ed n,⟨ω,?_⟩,?_⟩;rw[a,hs,if_pos h0];exact s_e []
  have q:(sgZ y.1.num==(0:Int))=false:=by
   rw[beq_eq_false_iff_ne];exact λe=>h0 (sgZ_num_eq.1 e)
  refine ae (s_r 11 ?_);refine d_6 ?_;refine bF rfl rfl rfl (.index_a rfl rfl ω c rfl te_78.h) rfl rfl ?_;refine bF rfl rfl rfl (.load_a rfl c TG.h TS.h (nle rfl)) rfl rfl ?_;refine c_s (Cm y) ?_;refine bF rfl rfl rfl (.bin rfl rfl (vF cK (q))) rfl rfl ?_;refine a_z ?_;refine cF (ay ⟨n+1,⟨o,?_⟩,?_⟩);rw[a,hs,if_neg h0];simp only[rtmS.eq_1];exact s_e []
 rintro n ⟨o,a⟩;simp only[rtmS.eq_1];have j:(am v).length=n:=by rw[a];simp;omega
 have b:xK x=x.take n:=by unfold xK;rw[<-hv,j]
 cases n with
 |zero=>
  refine s_r 5 ?_;refine a_2 ?_;refine o_0 (.sa_h rfl rfl (h:=0) rfl ψ te_78.h (zH _)) ?_;refine o_0 (.append0 rfl rfl rfl te_78.h rfl rfl rfl (.arr (es:=[]) ψ)) ?_;refine a_z ?_;refine ak ?_;rw[b];exact Fin.tmpN rfl
 |succ n=>
  obtain⟨X,g⟩:∃X,X=x.take (n+1):=⟨_,rfl⟩;have f:X.length=n+1:=by rw[g];simp;omega
  have k:rE X≠[]:=λe=>by have:=congrArg List.length e;simp[f] at this
  have d:(rE x).take (n+1)=rE X:=by rw[rE_take,g]
  have l:(rE x).take (n+1)≠[]:=by rw[d];exact k
  refine s_r 5 ?_;refine a_2 ?_;refine o_0 (.sa_h rfl rfl (h:=n+1) rfl χ te_78.h (zH _)) ?_;refine o_1 (.append_e rfl rfl rfl te_78.h rfl rfl rfl (.arr (by rw[d];exact zH _)) (by first|assumption|(simp;done)) TZ.h rfl TB.h d_o μ) ?_;refine a_z ?_;refine ak ?_;rw[b,<-g,<-d];exact Fin.tmpS rfl rfl rfl rfl (by rw[d];exact ku _)
def rP(v:Lq):List RQ:=v.map rq
theorem FV(v:Lq):vR (rP v)=v:=by
 unfold vR rP;rw[Oz];exact List.map_id' v
@[simp] theorem rP_length (v:Lq):(rP v).length=v.length:=by simp[rP]
@[simp] theorem pU (x:List RQ):(xK x).length=(am (vR x)).length:=by rw[<-vR_trim,xH]
theorem jo(x:List RQ)(hl:x.length<=1000000):FS 41 [.arr (rE x)] (i64 (a8 (vR x))):=by
 have a:=bm (vR x);rw[xH,<-pU] at a;refine f_c Tryz.func41 ?_;refine r_z 1 ?_;refine r_c 5 (K7 x ω) ?_;refine a_z ?_;exact ak (a7 rfl (by rw[pU];rfl) (ah _))









end Go.Proofs.YtjmkjicckobojaaGreatDoor
