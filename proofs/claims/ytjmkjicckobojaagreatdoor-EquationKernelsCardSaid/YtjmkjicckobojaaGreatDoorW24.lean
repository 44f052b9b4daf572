/- Part W24 of the proof. -/
import Derived.Test.YtjmkjicckobojaaGreatDoorW23
set_option linter.all false
namespace Go.Proofs.YtjmkjicckobojaaGreatDoor
open Go.Abs
set_option maxRecDepth 20000
set_option maxHeartbeats 1000000
section
variable {o:Option (List UInt8)}{n:Nat}
section
variable {P:Go.Program}{T:Nat}{x y:Operand}
theorem C2{l m:List UInt8}:∀w,(do eqGuard .neq T x y (.string ⟨l.toArray⟩) (.string ⟨m.toArray⟩);binOp .neq T (.string ⟨l.toArray⟩) (.string ⟨m.toArray⟩):Sem Value).run P w= .ok (.bool (!decide (l=m))) w:=λw=>by
 rw[C1];congr 2
 have e:∀l:List UInt8,(⟨l.toArray⟩:ByteArray).toList=l:=by
  intro l;have:=ByteArray.toList_eq (bs:=⟨l.toArray⟩);simpa using this
 rw[e,e];rw[Bool.eq_iff_iff];simp
end
def lU(o:Option (List UInt8))(c:Rat):Option (List UInt8):=
 match o with
 |none=>if c< 0 then some [45] else none
 |some s=>if c< 0 then some (s++[32,45,32]) else some (s++[32,43,32])
def wrO(o:Option (List UInt8))(t:List UInt8):Option (List UInt8):=some (o.getD []++t)
def lH(o:Option (List UInt8))(t:List UInt8):Option (List UInt8):=if t=[49] then o else wrO o (t++[32])
def pC(tq:Rat->List UInt8)(ti:Nat->List UInt8)(o:Option (List UInt8))(c:Rat)(n:Nat):Option (List UInt8):=
 if n=0 then wrO (lU o c) (tq (eH c))
 else if 1< n then wrO (wrO (lH (lU o c) (tq (eH c))) [120]) ([94]++ti n) else wrO (lH (lU o c) (tq (eH c))) [120]
def um(tq:Rat->List UInt8)(ti:Nat->List UInt8)(p:Lq):Nat->Option (List UInt8)->Option (List UInt8)
 |0,o=>o
 |n+1,o=>um tq ti p n (if coP p n=0 then o else pC tq ti o (coP p n) n)
def FA(tq:Rat->List UInt8)(ti:Nat->List UInt8)(p:Lq):List UInt8:=(um tq ti (ap p) (ap p).length none).getD [48]
def Fz(p:Lq):List UInt8:=FA nw ko p
def JJ(p:Lq):Prop:=p.length<=1000/\(ap p).length<=99/\(∀c∈ap p,okT c)
instance (p:Lq):Decidable (JJ p):=inferInstanceAs (Decidable (_/\_/\_))
def pb0(p:Lq):Int->AState
 |n=>⟨[(0,.arr (pE p)),(3,.lptr 1 0 0),(4,i64 n)],[(1,some ⟨205,2,[ez 1 2 none]⟩)],4,67⟩
def pb1(p:Lq):Int×List UInt8->AState
 |(n,s)=>⟨[(0,.arr (pE p)),(3,.lptr 1 0 0),(4,i64 n)],[(1,some ⟨205,2,[ez 1 2 (some s)]⟩),(2,some ⟨5,1,bE s⟩)],4,67⟩
def pbS(p:Lq)(n:Int):Option (List UInt8)->AState
 |none=>pb0 p n
 |some s=>pb1 p (n,s)
def pc0(p:Lq)(c:Rat):Int->AState
 |n=>⟨[(0,.arr (pE p)),(3,.lptr 1 0 0),(4,i64 n),(5,.lptr 3 0 0)],[(1,some ⟨205,2,[ez 1 2 none]⟩),(3,some ⟨42,3,[qC c]⟩)],4,67⟩
def pc1(p:Lq)(c:Rat):Int×List UInt8->AState
 |(n,s)=>⟨[(0,.arr (pE p)),(3,.lptr 1 0 0),(4,i64 n),(5,.lptr 3 0 0)],[(1,some ⟨205,2,[ez 1 2 (some s)]⟩),(2,some ⟨5,1,bE s⟩),(3,some ⟨42,3,[qC c]⟩)],4,67⟩
def pcS(p:Lq)(c:Rat)(n:Int):Option (List UInt8)->AState
 |none=>pc0 p c n
 |some s=>pc1 p c (n,s)
def pd0(p:Lq)(t:List UInt8):Int->AState
 |n=>⟨[(0,.arr (pE p)),(3,.lptr 1 0 0),(4,i64 n),(6,tx t)],[(1,some ⟨205,2,[ez 1 2 none]⟩)],4,67⟩
def pd1(p:Lq)(t:List UInt8):Int×List UInt8->AState
 |(n,s)=>⟨[(0,.arr (pE p)),(3,.lptr 1 0 0),(4,i64 n),(6,tx t)],[(1,some ⟨205,2,[ez 1 2 (some s)]⟩),(2,some ⟨5,1,bE s⟩)],4,67⟩
def pdS(p:Lq)(t:List UInt8)(n:Int):Option (List UInt8)->AState
 |none=>pd0 p t n
 |some s=>pd1 p t (n,s)
def uM(o:Option (List UInt8))(n:Nat):Prop:=∀s,o=some s->s≠[]/\s.length<=n
theorem wr(n:Nat):uM none n:=λs h=>by cases h
theorem td{t:List UInt8}(h:uM o n)(h0:t≠[]):uM (wrO o t) (n+t.length):=by
 intro s hs;cases hs;cases o with
 |none=>exact⟨by simpa using h0,ψ⟩
 |some q=>exact⟨by simp[h0],by have:=(h q rfl).2;simp;omega⟩
theorem BO(h:uM o n)(c:Rat):uM (lU o c) (n+3):=by
 intro s hs;cases o with
 |none=>
  simp only[lU] at hs;split at hs;cases hs;exact⟨ψ,ψ⟩;cases hs
 |some q=>
  have:=(h q rfl).2;simp only[lU] at hs;split at hs <;> cases hs <;> exact⟨ψ,χ⟩
theorem iK{m:Nat}(h:uM o n)(hm:n<=m):uM o m:=λs hs=>⟨(h s hs).1,Nat.le_trans (h s hs).2 hm⟩
theorem IR(q:Rat):nw q≠[]:=List.length_pos_iff.1 (textQ_len (q:=q)).2
theorem sgZ_neg(c:Rat):sgZ c.num< 0↔c< 0:=by
 rw[<-rj];unfold sgZ;split;omega;split <;> omega
theorem okT_abs{c:Rat}(h:okT c):okT (eH c):=by
 rw[pn];split;obtain⟨a,b⟩:=h;exact⟨by rw[Rat.neg_num];simpa using a,by rw[Rat.neg_den];exact b⟩;exact h
theorem Ic(tq:Rat->List UInt8)(ti:Nat->List UInt8)(L:Nat)(p:Lq)(h1:p.length<=1000)(hL:L<=10000)(h3:∀c∈ap p,FS 47 [.agg (qC (eH c))] (tx (tq (eH c)))/\tq (eH c)≠[]/\(tq (eH c)).length<=L)(hI:∀n,n< (ap p).length->FS 129 [i64 n] (tx (ti n))/\(ti n).length<=20):FS 46 [.arr (pE p)] (tx (FA tq ti p)):=by
 have K:=dK p ω;obtain⟨q,W⟩:∃q,q=ap p:=⟨_,rfl⟩;have hR:FA tq ti p=(um tq ti q q.length none).getD [48]:=by unfold FA;rw[W]
 rw[hR];have h2:=bh p;rw[<-W] at K h2 h3 hI;have C:∀k,(q.length- k) * (L+30)<=10030000:=λk=>Nat.mul_le_mul (show q.length- k<=1000 by omega) (show L+30<=10030 by omega);refine f_c Tryz.func46 ?_;refine r_z 1 ?_;refine r_z 1 ?_;refine r_c 3 (K) ?_;refine a_z ?_;refine ac (r_z 4 ?_);refine aC (pbS q (-1)) (λo=>o=um tq ti q q.length none/\uM o 20000000) ?_ ?_;refine ah (ay (λx:Nat×Option (List UInt8)=>pbS q ((x.1:Int)- 1) x.2) (λx=>x.1) (λx=>x.1<=q.length/\um tq ti q x.1 x.2=um tq ti q q.length none/\uM x.2 ((q.length- x.1) * (L+30))) (q.length,none) ⟨Nat.le_refl _,rfl,wr _⟩ ?_ ?_);show SEnt _ (pb0 q ((q.length:Int)- 1));rw[pb0.eq_1];exact s_e [(1,3)];rintro⟨n,o⟩ ⟨hn,z,u⟩;simp only at hn z u;cases n with
 |zero=>
  cases o with
  |none=>
   show AWp _ _ _ _ (pb0 q (((0:Nat):Int)- 1));rw[pb0.eq_1];refine ac (r_z 2 ?_);refine ar rfl (λa=>?_) (λa=>?_);exact absurd a ψ;refine ax ⟨none,⟨z,wr _⟩,?_⟩;show SEnt _ (pb0 q (-1));rw[pb0.eq_1];exact s_e []
  |some s=>
   show AWp _ _ _ _ (pb1 q (((0:Nat):Int)- 1,s));rw[pb1.eq_1];refine ac (r_z 2 ?_);refine ar rfl (λa=>?_) (λa=>?_);exact absurd a ψ;refine ax ⟨some s,⟨z,iK u (by have:=C 0;omega)⟩,?_⟩;show SEnt _ (pb1 q (-1,s));rw[pb1.eq_1];exact s_e []
 |succ n=>
  have S:((n+1:Nat):Int)- 1=(n:Int):=ω
  rw[S];rw[um] at z;have D:n< q.length:=ω
  obtain⟨c,hc⟩:∃c,c=coP q n:=⟨_,rfl⟩;rw[<-hc] at z;have O:(pE q)[((n:Nat):Int).toNat]?=some (qC c):=by rw[Int.toNat_natCast,hc];exact pE_get (ci D)
  obtain⟨V,G,T⟩:=h3 c (by rw[hc];exact List.mem_of_getElem? (ci D))
  have X:(q.length- n) * (L+30)=(q.length- (n+1)) * (L+30)+(L+30):=by
   rw[show q.length- n=(q.length- (n+1))+1 by omega,Nat.add_mul,Nat.one_mul]
  obtain⟨B,Y⟩:∃B,B=(q.length- (n+1)) * (L+30):=⟨_,rfl⟩;have hmx:B<=10030000:=by rw[Y];exact C _
  rw[<-Y] at u X;obtain⟨t,H⟩:∃t,t=tq (eH c):=⟨_,rfl⟩;rw[<-H] at G T V;obtain⟨fI,hd2⟩:=hI n D;refine bD (λ_:Unit=>pbS q n o) (λ_=>True) ?_ ?_;cases o with
  |none=>
   show AWp _ _ _ _ (pb0 q n);rw[pb0.eq_1];refine r_z 2 ?_;refine ar rfl (λa=>?_) (λa=>?_);refine aj ⟨(),trivial,?_⟩;show SEnt _ (pb0 q n);rw[pb0.eq_1];exact s_e [];exact absurd a ψ
  |some s=>
   show AWp _ _ _ _ (pb1 q (n,s));rw[pb1.eq_1];refine r_z 2 ?_;refine ar rfl (λa=>?_) (λa=>?_);refine aj ⟨(),trivial,?_⟩;show SEnt _ (pb1 q (n,s));rw[pb1.eq_1];exact s_e [];exact absurd a ψ
  rintro _ _;refine bD (pbS q n) (λA=>A=(if c=0 then o else pC tq ti o c n)) ?_ ?_;refine ah (bD (λ_:Unit=>pcS q c n o) (λ_=>True) ?_ ?_);cases o with
  |none=>
   show AWp _ _ _ _ (pb0 q n);rw[pb0.eq_1];refine r_m 6 ?_;refine a_2 ?_;refine i_x O ?_;refine l_x O ?_;refine a_z ?_;refine⟨(),trivial,?_⟩;show SEnt _ (pc0 q c n);rw[pc0.eq_1];exact s_x [(3,5)] (λhs=>dD) (λhs=>KR)
  |some s=>
   show AWp _ _ _ _ (pb1 q (n,s));rw[pb1.eq_1];refine r_m 6 ?_;refine a_2 ?_;refine i_x O ?_;refine l_x O ?_;refine a_z ?_;refine⟨(),trivial,?_⟩;show SEnt _ (pc1 q c (n,s));rw[pc1.eq_1];exact s_x [(3,5)] (λhs=>dD) (λhs=>KR)
  rintro _ _;refine bD (λ_:Unit=>pcS q c n o) (λ_=>c≠0) ?_ ?_;cases o with
  |none=>
   show AWp _ _ _ _ (pc0 q c n);rw[pc0.eq_1];refine r_c 3 (c6 c) ?_;refine a_z ?_;refine ar rfl (λa=>?_) (λa=>?_);have b:c=0:=sgZ_num_eq.1 (by simpa using a);refine ax ⟨none,by rw[if_pos b],?_⟩;show SEnt _ (pb0 q n);rw[pb0.eq_1];exact s_e [];have b:c≠0:=λe=>by have w:=sgZ_num_eq.2 e;simp[w] at a
   refine aj ⟨(),b,?_⟩;show SEnt _ (pc0 q c n);rw[pc0.eq_1];exact s_e []
  |some s=>
   show AWp _ _ _ _ (pc1 q c (n,s));rw[pc1.eq_1];refine r_c 3 (c6 c) ?_;refine a_z ?_;refine ar rfl (λa=>?_) (λa=>?_);have b:c=0:=sgZ_num_eq.1 (by simpa using a);refine ax ⟨some s,by rw[if_pos b],?_⟩;show SEnt _ (pb1 q (n,s));rw[pb1.eq_1];exact s_e [];have b:c≠0:=λe=>by have w:=sgZ_num_eq.2 e;simp[w] at a
   refine aj ⟨(),b,?_⟩;show SEnt _ (pc1 q c (n,s));rw[pc1.eq_1];exact s_e []
  rintro _ Q;rw[if_neg Q];have v:(sgZ c.num< 0)↔c< 0:=sgZ_neg c;refine bD (pcS q c n) (λA=>A=lU o c) ?_ ?_;refine ah ?_;cases o with
  |none=>
   show AWp _ _ _ _ (pc0 q c n);rw[pc0.eq_1];refine s_r 8 ?_;refine o_0 (.callR (s:=none) (j:=0) (tb:=0) rfl rfl rfl rfl rfl (λ_ h=>by cases h) (vf)) ?_;refine a_2 ?_;refine y_g rfl d_t (.load_l rfl rfl rfl TG.h TS.h (nle rfl)) ?_;refine y_g rfl d_t (.call rfl rfl rfl (c6 c)) ?_;refine y_g rfl d_t (.bin rfl rfl ei) ?_;refine o_0 (.pickT rfl d_t rfl) ?_;refine a_z ?_;refine ar rfl (λa=>?_) (λa=>?_);have b:c< 0:=v.1 (by simpa using a);refine r_m 1 ?_;refine o_2 (.callB (s:=none) (j:=0) rfl rfl rfl rfl rfl rfl (λ_ h=>by cases h) (kF [45] ψ ψ)) ?_;refine aq ?_;refine⟨some [45],by simp only[lU];rw[if_pos b],?_⟩;show SEnt _ (pc1 q c (n,[45]));rw[pc1.eq_1];exact s_z [(2,100012)] (λhs=>dD) (λhs=>KR);have b:¬c< 0:=λe=>by have w:=v.2 e;simp[w] at a
   refine s_r 8 ?_;refine o_0 (.callR (s:=none) (j:=0) (tb:=0) rfl rfl rfl rfl rfl (λ_ h=>by cases h) (vf)) ?_;refine a_2 ?_;refine n_g rfl d_f ?_;refine n_g rfl d_f ?_;refine n_g rfl d_f ?_;refine o_0 (.pickF rfl d_f rfl) ?_;refine a_z ?_;refine cF (s_r 3 ?_);refine o_0 (.callR (s:=none) (j:=0) (tb:=0) rfl rfl rfl rfl rfl (λ_ h=>by cases h) (vf)) ?_;refine a_z ?_;refine ar rfl (λr=>?_) (λr=>?_);exact absurd r ψ;refine aj ⟨none,by simp only[lU];rw[if_neg b],?_⟩;show SEnt _ (pc0 q c n);rw[pc0.eq_1];exact s_e []
  |some s=>
   have F:=(u s rfl).1;have g:=(u s rfl).2;have hs0:s.length≠0:=by simpa using F
   show AWp _ _ _ _ (pc1 q c (n,s));rw[pc1.eq_1];refine s_r 8 ?_;refine o_0 (.callR (s:=some _) rfl rfl rfl rfl rfl (λ_ h=>by cases h;exact rfl) (ve s)) ?_;refine a_2 ?_;refine n_g rfl χ ?_;refine n_g rfl χ ?_;refine n_g rfl χ ?_;refine o_0 (.pickF rfl χ rfl) ?_;refine a_z ?_;refine ar rfl (λa=>?_) (λa=>?_)
   ·first|(simp at a;done)|(simp at a;omega)|(simp at a;exact absurd a F)
   refine s_r 8 ?_;refine o_0 (.callR (s:=some _) rfl rfl rfl rfl rfl (λ_ h=>by cases h;exact rfl) (ve s)) ?_;refine a_2 ?_;refine y_g rfl χ (.load_l rfl rfl rfl TG.h TS.h (nle rfl)) ?_;refine y_g rfl χ (.call rfl rfl rfl (c6 c)) ?_;refine y_g rfl χ (.bin rfl rfl ei) ?_;refine o_0 (.pickT rfl χ rfl) ?_;refine a_z ?_;refine ar rfl (λw=>?_) (λw=>?_);have b:c< 0:=v.1 (by simpa using w);refine r_m 1 ?_;refine o_3 (.callB (s:=some _) rfl rfl rfl rfl rfl rfl (λ_ h=>by cases h;exact⟨rfl,δ⟩) (iA s [32,45,32] χ)) ?_;refine aq ?_;refine⟨some (s++[32,45,32]),by simp only[lU];rw[if_pos b],?_⟩;show SEnt _ (pc1 q c (n,s++[32,45,32]));rw[pc1.eq_1];exact s_z [(2,100020)] (λhs=>dD) (λhs=>KR);have b:¬c< 0:=λe=>by have r:=v.2 e;simp[r] at w
   refine s_r 3 ?_;refine o_0 (.callR (s:=some _) rfl rfl rfl rfl rfl (λ_ h=>by cases h;exact rfl) (ve s)) ?_;refine a_z ?_;refine ar rfl (λr=>?_) (λr=>?_);refine r_m 1 ?_;refine o_3 (.callB (s:=some _) rfl rfl rfl rfl rfl rfl (λ_ h=>by cases h;exact⟨rfl,δ⟩) (iA s [32,43,32] χ)) ?_;refine aq ?_;refine⟨some (s++[32,43,32]),by simp only[lU];rw[if_neg b],?_⟩;show SEnt _ (pc1 q c (n,s++[32,43,32]));rw[pc1.eq_1];exact s_z [(2,100023)] (λhs=>dD) (λhs=>KR)
   ·first|(simp at r;done)|(simp at r;omega)|(simp at r;exact absurd r F)
  rintro o1 rfl;have i:=BO u c;obtain⟨o1,d⟩:∃o1,o1=lU o c:=⟨_,rfl⟩;rw[<-d] at i⊢;refine bD (λ_:Unit=>pdS q t n o1) (λ_=>True) ?_ ?_;cases o1 with
  |none=>
   show AWp _ _ _ _ (pc0 q c n);rw[pc0.eq_1];refine r_m 4 ?_;refine c_s (tF c) ?_;refine c_s (V) ?_;refine a_z ?_;refine⟨(),trivial,?_⟩;show SEnt _ (pd0 q t n);rw[pd0.eq_1];exact s_e []
  |some s=>
   show AWp _ _ _ _ (pc1 q c (n,s));rw[pc1.eq_1];refine r_m 4 ?_;refine c_s (tF c) ?_;refine c_s (V) ?_;refine a_z ?_;refine⟨(),trivial,?_⟩;show SEnt _ (pd1 q t (n,s));rw[pd1.eq_1];exact s_e []
  rintro _ _;refine bD (λ_:Unit=>pdS q t n o1) (λ_=>n≠0) ?_ ?_;cases o1 with
  |none=>
   show AWp _ _ _ _ (pd0 q t n);rw[pd0.eq_1];refine r_z 2 ?_;refine ar rfl (λa=>?_) (λa=>?_);have b:n=0:=by simpa using a
   subst b;refine s_r 2 ?_;refine a_1 ?_;refine o_2 (.callB (s:=none) (j:=0) rfl rfl rfl rfl rfl rfl (λ_ h=>by cases h) (kF t G ω)) ?_;refine aq ?_;refine ax ⟨some t,by unfold pC;rw[if_pos rfl,<-d,<-H];rfl,?_⟩;show SEnt _ (pb1 q (((0:Nat):Int),t));rw[pb1.eq_1];exact s_z [(2,100007)] (λhs=>dD) (λhs=>mC);have b:n≠0:=λe=>by simp[e] at a
   refine aj ⟨(),b,?_⟩;show SEnt _ (pd0 q t n);rw[pd0.eq_1];exact s_e []
  |some s=>
   have g:=(i s rfl).2;show AWp _ _ _ _ (pd1 q t (n,s));rw[pd1.eq_1];refine r_z 2 ?_;refine ar rfl (λa=>?_) (λa=>?_);have b:n=0:=by simpa using a
   subst b;refine s_r 2 ?_;refine a_1 ?_;refine o_3 (.callB (s:=some _) rfl rfl rfl rfl rfl rfl (λ_ h=>by cases h;exact⟨rfl,δ⟩) (iA s t ω)) ?_;refine aq ?_;refine ax ⟨some (s++t),by unfold pC;rw[if_pos rfl,<-d,<-H];rfl,?_⟩;show SEnt _ (pb1 q (((0:Nat):Int),s++t));rw[pb1.eq_1];exact s_z [(2,100007)] (λhs=>dD) (λhs=>mC);have b:n≠0:=λe=>by simp[e] at a
   refine aj ⟨(),b,?_⟩;show SEnt _ (pd1 q t (n,s));rw[pd1.eq_1];exact s_e []
  rintro _ N;refine bD (pbS q n) (λA=>A=lH o1 t) ?_ ?_;cases o1 with
  |none=>
   show AWp _ _ _ _ (pd0 q t n);rw[pd0.eq_1];refine s_r 2 ?_;refine a_1 ?_;refine o_0 (.bin rfl rfl (C2 (m:=[49]))) ?_;refine aq ?_;refine ar rfl (λa=>?_) (λa=>?_);have b:¬t=[49]:=by simpa using a
   refine r_m 3 ?_;refine a_1 ?_;refine o_0 (.bin rfl rfl (fw (m:=[32]) χ)) ?_;refine o_2 (.callB (s:=none) (j:=0) rfl rfl rfl rfl rfl rfl (λ_ h=>by cases h) (kF (t++[32]) ψ χ)) ?_;refine aq ?_;refine⟨some (t++[32]),by unfold lH;rw[if_neg b];rfl,?_⟩;show SEnt _ (pb1 q (n,t++[32]));rw[pb1.eq_1];exact s_z [(2,100008)] (λhs=>dD) (λhs=>mC);have b:t=[49]:=by simpa using a
   refine aj ⟨none,by unfold lH;rw[if_pos b],?_⟩;show SEnt _ (pb0 q n);rw[pb0.eq_1];exact s_e []
  |some s=>
   have g:=(i s rfl).2;show AWp _ _ _ _ (pd1 q t (n,s));rw[pd1.eq_1];refine s_r 2 ?_;refine a_1 ?_;refine o_0 (.bin rfl rfl (C2 (m:=[49]))) ?_;refine aq ?_;refine ar rfl (λa=>?_) (λa=>?_);have b:¬t=[49]:=by simpa using a
   refine r_m 3 ?_;refine a_1 ?_;refine o_0 (.bin rfl rfl (fw (m:=[32]) χ)) ?_;refine o_3 (.callB (s:=some _) rfl rfl rfl rfl rfl rfl (λ_ h=>by cases h;exact⟨rfl,δ⟩) (iA s (t++[32]) χ)) ?_;refine aq ?_;refine⟨some (s++(t++[32])),by unfold lH;rw[if_neg b];rfl,?_⟩;show SEnt _ (pb1 q (n,s++(t++[32])));rw[pb1.eq_1];exact s_z [(2,100008)] (λhs=>dD) (λhs=>mC);have b:t=[49]:=by simpa using a
   refine aj ⟨some s,by unfold lH;rw[if_pos b],?_⟩;show SEnt _ (pb1 q (n,s));rw[pb1.eq_1];exact s_e []
  rintro o2 f
  have y:uM o2 (B+L+4):=by
   rw[f];unfold lH;split;exact iK i ω;exact iK (td i (t:=t++[32]) ψ) χ
  refine bD (λs=>pb1 q (n,s)) (λs=>wrO o2 [120]=some s) ?_ ?_;cases o2 with
  |none=>
   show AWp _ _ _ _ (pb0 q n);rw[pb0.eq_1];refine r_m 1 ?_;refine o_2 (.callB (s:=none) (j:=0) rfl rfl rfl rfl rfl rfl (λ_ h=>by cases h) (kF [120] ψ ψ)) ?_;refine aq ?_;refine⟨[120],rfl,?_⟩;simp only[pb1.eq_1];exact s_z [(2,100004)] (λhs=>dD) (λhs=>mC)
  |some s=>
   have g:=(y s rfl).2;show AWp _ _ _ _ (pb1 q (n,s));rw[pb1.eq_1];refine r_m 1 ?_;refine o_3 (.callB (s:=some _) rfl rfl rfl rfl rfl rfl (λ_ h=>by cases h;exact⟨rfl,δ⟩) (iA s [120] χ)) ?_;refine aq ?_;refine⟨s++[120],rfl,?_⟩;simp only[pb1.eq_1];exact s_z [(2,100004)] (λhs=>dD) (λhs=>mC)
  rintro s E;have R:=td y (t:=[120]) ψ s E;have g:s.length<=B+L+5:=R.2;simp only[pb1.eq_1];refine r_z 2 ?_;refine ar rfl (λa=>?_) (λa=>?_);have b:1< n:=by simp at a;omega
  refine r_m 4 ?_;refine c_s (fI) ?_;refine o_0 (.bin rfl rfl (fw (l:=[94]) χ)) ?_;refine o_3 (.callB (s:=some _) rfl rfl rfl rfl rfl rfl (λ_ h=>by cases h;exact⟨rfl,δ⟩) (iA s ([94]++ti n) χ)) ?_;refine aq ?_;refine⟨some (s++([94]++ti n)),by unfold pC;rw[if_neg N,if_pos b,<-d,<-H,<-f,E];rfl,?_⟩;show SEnt _ (pb1 q (n,s++([94]++ti n)));rw[pb1.eq_1];exact s_z [(2,100009)] (λhs=>dD) (λhs=>mC);have b:¬1< n:=by simp at a;omega
  refine aj ⟨some s,by unfold pC;rw[if_neg N,if_neg b,<-d,<-H,<-f,E],?_⟩;show SEnt _ (pb1 q (n,s));rw[pb1.eq_1];exact s_e [];rintro A M
  have J:uM A (B+(L+30)):=by
   rw[M];split;exact iK u ω;have U:=BO u c;unfold pC;rw[<-H]
   have g2:uM (lH (lU o c) t) (B+L+4):=by
    unfold lH;split;exact iK U ω;exact iK (td U (t:=t++[32]) ψ) χ
   have Z:=td g2 (t:=[120]) ψ;split;exact iK (td U G) ω;split;exact iK (td Z (t:=[94]++ti n) ψ) χ;exact iK Z χ
  rw[<-M] at z;cases A with
  |none=>
   show AWp _ _ _ _ (pb0 q n);rw[pb0.eq_1];refine r_m 3 ?_;refine a_z ?_;refine⟨(n,none),Nat.lt_succ_self n,⟨by simp only;omega,z,wr _⟩,?_⟩;show SEnt _ (pb0 q ((n:Int)- 1));rw[pb0.eq_1];exact s_e []
  |some s=>
   show AWp _ _ _ _ (pb1 q (n,s));rw[pb1.eq_1];refine r_m 3 ?_;refine a_z ?_;refine⟨(n,some s),Nat.lt_succ_self n,⟨by simp only;omega,z,by simp only;rw[X];exact J⟩,?_⟩;show SEnt _ (pb1 q ((n:Int)- 1,s));rw[pb1.eq_1];exact s_e []
 rintro o ⟨rfl,u⟩;cases y:um tq ti q q.length none with
 |none=>
  show AWp _ _ _ _ (pb0 q (-1));rw[pb0.eq_1];refine ac (s_r 2 ?_);refine o_0 (.callR (s:=none) (j:=0) (tb:=0) rfl rfl rfl rfl rfl (λ_ h=>by cases h) (vf)) ?_;refine a_z ?_;refine ar rfl (λa=>?_) (λa=>?_);refine r_z 1 ?_;exact ai (t_e (ak _));exact absurd a ψ
 |some s=>
  have hs:=u s y;have g:s.length≠0:=by have:=hs.1;simpa using this
  have hne:=hs.1;show AWp _ _ _ _ (pb1 q (-1,s));rw[pb1.eq_1];refine ac (s_r 2 ?_);refine o_0 (.callR (s:=some _) rfl rfl rfl rfl rfl (λ_ h=>by cases h;exact rfl) (ve s)) ?_;refine a_z ?_;refine ar rfl (λa=>?_) (λa=>?_);exact absurd a χ;refine aj (s_r 2 ?_);refine o_2 (.callD rfl rfl rfl rfl rfl rfl δ (by first|assumption|simp) (tN)) ?_;refine a_z ?_;exact ai (t_e (ak _))
theorem w7(p:Lq)(h:JJ p):FS 46 [.arr (pE p)] (tx (Fz p)):=by
 obtain⟨a,d,b⟩:=h;exact Ic nw ko 6 p a δ (λc hc=>⟨w6 (eH c) (okT_abs (b c hc)),IR _,textQ_len.1⟩) (λn e=>⟨Ay n ω,Nat.le_trans (mn n) δ⟩)
end
abbrev bP(p:Lq):AV:= .aptr [[.arr (pE p)]] 0 0
abbrev bQ(q:Rat):AV:= .aptr [qC q] 0 0
theorem dz(p:Lq):Closed (bP p):=bi (ae (aD p) af)
theorem cL(q:Rat):Closed (bQ q):=bi (bC q)
theorem fs_Add1(p q:Lq)(i:Nat)(hp:smL p)(hq:smL q):FS 175 [i64 i,bP p,bP q] (.agg (qC (coP p i+coP q i))):=by
 refine f_c Tryz.func175 ?_;refine r_z 1 ?_;refine ac (r_d aX 8 ?_);refine c_s (fs_at p i) ?_;refine c_s (fs_at q i) ?_;refine c_s (fD (coP p i) (coP q i) (sm2 (tV hp i) (tV hq i))) ?_;refine a_1 ?_;refine aq (n_k ?_);exact ai (c_e (aP _))
theorem pS(p q:Lq)(hp:smL p)(hq:smL q)(hp1:p.length<=1099511627776)(hq1:q.length<=1099511627776):FS 82 [.arr (pE p),.arr (pE q)] (.arr (pE (fR p q))):=by
 refine f_c Tryz.func82 ?_;refine r_z 3 ?_;refine AWp.ent (st':=⟨[(2,bP p),(3,bP q)],[],1,12⟩) ?_ ?_;exact s_e []
 have b:(if ((q.length:Nat):Int)>(p.length:Nat) then((q.length:Nat):Int) else(p.length:Nat))=((max p.length q.length:Nat):Int):=by
  rw[Nat.max_def];split <;> split <;> omega
 have a:=u9 (max p.length q.length) (λi=>coP p i+coP q i) 175 [bP p,bP q] (Nat.max_le.2 ⟨hp1,hq1⟩) (ae (dz p) (ae (dz q) af)) (λi _=>fs_Add1 p q i hp hq);rw[<-b] at a;refine r_c 8 (a) ?_;refine a_z ?_;exact ai (t_e (aD _))
theorem Ia(p:Lq)(k:Rat)(i:Nat)(hp:smL p)(hk:sm k)(hi:i< p.length):FS 177 [i64 i,bP p,bQ k] (.agg (qC (coP p i* k))):=by
 have a:(pE p)[((i:Nat):Int).toNat]?=some (qC (coP p i)):=pE_get (ci hi);refine f_c Tryz.func177 ?_;refine r_z 1 ?_;refine ac (r_d aX 7 ?_);refine a_2 ?_;refine i_x a ?_;refine l_x a ?_;refine c_s (dk (coP p i) k (sm2 (tV hp i) hk)) ?_;refine a_1 ?_;refine aq (n_k ?_);exact ai (c_e (aP _))
theorem jO(p:Lq)(k:Rat)(hp:smL p)(hk:sm k)(hp1:p.length<=1099511627776):FS 85 [.arr (pE p),.agg (qC k)] (.arr (pE (aR p k))):=by
 have a:=u9 p.length (λi=>coP p i* k) 177 [bP p,bQ k] hp1 (ae (dz p) (ae (cL k) af)) (λi b=>Ia p k i hp hk b);refine f_c Tryz.func85 ?_;refine r_z 3 ?_;refine AWp.ent (st':=⟨[(2,bP p),(3,bQ k)],[],1,9⟩) ?_ ?_;exact s_e [];refine r_c 5 (a) ?_;refine a_z ?_;exact ai (t_e (aD _))
theorem iT(a b:Rat)(hb:b≠0)(h:qs a+qs b<=549755813888):FS 218 [.agg (qC a),.agg (qC b)] (.agg (qC (a/ b))):=by
 refine f_c Tryz.func218 ?_;refine r_z 3 ?_;refine r_c 9 (Es a b hb h) ?_;refine a_z ?_;refine r_z 2 ?_;exact ai (c_e (aP _))
theorem uC(a:Rat):FS 235 [.agg (qC a)] (.arr (pE (eM a))):=by
 refine f_c Tryz.func235 ?_;refine r_z 2 ?_;refine s_r 4 ?_;refine a_2 ?_;refine o_1 (.callS1 rfl rfl rfl (.shut rfl d_n (.nil)) rfl ((dK [a] ψ))) ?_;refine a_z ?_;exact ai (t_e (aD _))
theorem fs_line(a:Rat):FS 253 [.agg (qC a)] (.arr (pE [a,1])):=by
 refine f_c Tryz.func253 ?_;refine r_z 2 ?_;refine ac (r_d aX 4 ?_);refine c_s (eD 1 δ) ?_;refine a_2 ?_;refine aq (n_k ?_);exact ai (Fin.tmpS rfl rfl rfl rfl (aQ [a,1]))
theorem sm_neg1{a:Rat}(h:sm a):sm (a* (-1)):=by
 unfold sm at *
 rw[show a* (-1)= -a by rw[Rat.mul_comm,Rat.neg_mul,Rat.one_mul],dJ];exact h
theorem qs_inv(b:Rat)(hb:b≠0):qs (1/ b)<=qs b:=by
 rw[tQ 1 b hb];have d:b.num≠0:=λe=>hb (Rat.num_eq_zero.1 e);have a:=dA b;have c:=dr b
 refine fW (by have:0< b.num.natAbs:=ω
               show 0< 1* b.num.natAbs;omega) ?_ ?_
 show bl ((1:Int) * sgn (decide (b.num< 0)) b.den).natAbs<=qs b;rw[Int.one_mul,fT];exact c;show bl (1* b.num.natAbs)<=qs b;rw[Nat.one_mul];exact a
theorem Dx{q:Lq}(h:smL q):smL (aR q (-1)):=by
 refine vM λx a=>?_;obtain⟨i,_,rfl⟩:=List.mem_map.1 a;exact sm_neg1 (tV h i)
theorem Kx(p q:Lq)(hp:smL p)(hq:smL q)(hp1:p.length<=1099511627776)(hq1:q.length<=1099511627776):FS 173 [.arr (pE p),.arr (pE q)] (.arr (pE (dQ p q))):=by
 have a:=dW q (-1);refine f_c Tryz.func173 ?_;refine r_z 1 ?_;refine r_c 6 (eD (-1) δ) ?_;refine c_s (jO q (-1) hq δ hq1) ?_;refine c_s (pS p (aR q (-1)) hp (Dx hq) hp1 ω) ?_;refine a_z ?_;exact ai (t_e (aD _))
theorem wQ(p:Lq)(hp:smL p)(hp1:p.length<=1099511627776):FS 237 [.arr (pE p)] (.arr (pE (ce p))):=by
 have a:=JU hp;refine f_c Tryz.func237 ?_;refine r_z 1 ?_;refine ac (r_c 3 (em p hp1) ?_);refine a_z ?_;refine ar rfl (λh=>?_) (λh=>?_)
 have d:ap p=[]:=by
  have b:dt p< 0:=by simpa using h
  unfold dt at b;exact List.length_eq_zero_iff.1 ω
 refine r_z 1 ?_;refine ai ?_;unfold ce;rw[if_pos d];exact Fin.tmpN rfl
 have d:ap p≠[]:=by
  intro e;have b:¬dt p< 0:=by simpa using h
  unfold dt at b;rw[e] at b;exact b δ
 have c:=dd d;have f:=qs_inv (aI p) c;unfold sm at a;have b:qs 1=1:=δ
 unfold ce;rw[if_neg d];refine aj (r_c 7 (eD 1 δ) ?_);refine c_s (vg p hp1) ?_;refine c_s (iT 1 (aI p) c ω) ?_;refine c_s (jO p (1/ aI p) hp (by unfold sm;omega) hp1) ?_;refine a_z ?_;exact ai (t_e (aD _))
theorem nN(i:Nat)(h:i<=1099511627776):qs (((i:Nat):Int):Rat)<=64:=by
 refine Nat.max_le.2 ⟨?_,?_⟩;show bl ((i:Int)).natAbs<=64;rw[Int.natAbs_natCast];exact gY ω;show bl 1<=64;decide
theorem EA(p:Lq)(i:Nat)(hp:smL p)(hi:i+1< p.length)(hp1:p.length<=1099511627776):FS 239 [i64 i,bP p] (.agg (qC (coP p (i+1) * ((i+1:Nat):Int)))):=by
 have a:(pE p)[(((i:Nat):Int)+1).toNat]?=some (qC (coP p (i+1))):=by
  rw[show(((i:Nat):Int)+1).toNat=i+1 by omega];exact pE_get (ci hi)
 have hs:=tV hp (i+1);have c:=nN (i+1) ω;unfold sm at hs;have b:=eD (((i:Nat):Int)+1) ω;rw[show((i:Nat):Int)+1=((i+1:Nat):Int) by omega] at b;refine f_c Tryz.func239 ?_;refine r_z 1 ?_;refine ac (r_d aX 10 ?_);refine a_3 ?_;refine i_x a ?_;refine l_x a ?_;refine c_s (b) ?_;refine c_s (dk (coP p (i+1)) ((i+1:Nat):Int) ω) ?_;refine a_1 ?_;refine aq (n_k ?_);exact ai (c_e (aP _))
theorem tG(p:Lq)(hp:smL p)(hp1:p.length<=1099511627776):FS 184 [.arr (pE p)] (.arr (pE (aV p))):=by
 have a:=u9 (p.length- 1) (λi=>coP p (i+1) * ((i+1:Nat):Int)) 239 [bP p] ω (ae (dz p) af) (λi c=>EA p i hp ω hp1);have b:(if (0:Int)>((p.length:Nat):Int)- 1 then(0:Int) else((p.length:Nat):Int)- 1)=((p.length- 1:Nat):Int):=by split <;> omega
 rw[<-b] at a;refine f_c Tryz.func184 ?_;refine r_z 2 ?_;refine AWp.ent (st':=⟨[(1,bP p)],[],1,9⟩) ?_ ?_;exact s_e [];refine r_c 7 (a) ?_;refine a_z ?_;exact ai (t_e (aD _))
theorem Az(p:Lq)(i:Nat)(hp:smL p)(hi:i< p.length+1)(hp1:p.length<=1099511627775):FS 236 [i64 i,bP p] (.agg (qC (if i=0 then 0 else coP p (i- 1) / ((i:Nat):Int)))):=by
 refine f_c Tryz.func236 ?_;refine r_z 1 ?_;refine ac (r_z 2 ?_);refine ar rfl (λh=>?_) (λh=>?_)
 have a:i=0:=by
  have c:(i:Int)=0:=by simpa using h
  omega
 rw[if_pos a];refine r_z 2 ?_;refine ai (Fin.cell rfl rfl rfl TG.h TS.h (nle rfl) (Cv.agg ?_));rw[qC0];exact am (Cv.emp _) (am (ao aF (ak _)) (am (Cv.emp _) av))
 have a:i≠0:=by
  intro e;have c:¬(i:Int)=0:=by simpa using h
  omega
 rw[if_neg a]
 have b:(pE p)[(((i:Nat):Int)- 1).toNat]?=some (qC (coP p (i- 1))):=by
  rw[show(((i:Nat):Int)- 1).toNat=i- 1 by omega];exact pE_get (ci ω)
 have hs:=tV hp (i- 1);have d:=nN i ω;unfold sm at hs;refine aj (ac (r_d aX 9 ?_));refine a_3 ?_;refine i_x b ?_;refine l_x b ?_;refine c_s (eD ((i:Nat):Int) ω) ?_;refine c_s (iT (coP p (i- 1)) ((i:Nat):Int) (by intro e;have e2:=congrArg Rat.num e;simp at e2;omega) ω) ?_;refine a_1 ?_;refine aq (n_k ?_);exact ai (c_e (aP _))
theorem uD(p:Lq)(hp:smL p)(hp1:p.length<=1099511627775):FS 180 [.arr (pE p)] (.arr (pE (aM p))):=by
 have a:=u9 (p.length+1) (λi=>if i=0 then 0 else coP p (i- 1) / ((i:Nat):Int)) 236 [bP p] ω (ae (dz p) af) (λi b=>Az p i hp b hp1);rw[show((p.length+1:Nat):Int)=((p.length:Nat):Int)+1 by omega] at a;refine f_c Tryz.func180 ?_;refine r_z 2 ?_;refine AWp.ent (st':=⟨[(1,bP p)],[],1,8⟩) ?_ ?_;exact s_e [];refine r_c 6 (a) ?_;refine a_z ?_;exact ai (t_e (aD _))

def mulS(p:Lq)(q:Lq):Nat×Lq->AState
 |(i,o)=>⟨[(1,.arr (pE q)),(5,.lsl 1 0 o.length (some o.length) 3),(25,.arr (pE p)),(26,i64 p.length),(27,i64 i)],[(1,some ⟨42,3,pE o⟩)],2,61⟩
def mulT(p:Lq)(q:Lq)(i:Nat)(a:Rat):Nat×Lq->AState
 |(k,o)=>⟨[(1,.arr (pE q)),(5,.lsl 1 0 o.length (some o.length) 3),(6,i64 i),(7,.lptr 2 0 0),(25,.arr (pE p)),(26,i64 p.length),(27,i64 i),(35,.arr (pE q)),(36,i64 q.length),(37,i64 k)],[(1,some ⟨42,3,pE o⟩),(2,some ⟨42,3,[qC a]⟩)],3,61⟩
theorem KC(p q:Lq)(s t:Nat)(hp:bdL p s)(hq:bdL q t)(hs:1<=s)(ht:1<=t)(h:p.length* (s+t+1)+1<=137438953472)(ht2:t<=137438953472)(hp1:p.length<=274877906944)(hq1:q.length<=274877906944):FS 29 [.arr (pE p),.arr (pE q)] (.arr (pE (aT p q))):=by
 refine f_c Tryz.func29 ?_;refine r_z 1 ?_;refine bD (λ_:Unit=>⟨[(0,.arr (pE p)),(1,.arr (pE q))],[],1,61⟩) (λ_=>p≠[]/\q≠[]) ?_ ?_;by_cases h1:p=[];subst h1;refine s_r 8 ?_;refine a_4 ?_;refine n_g rfl ψ ?_;refine n_g rfl ψ ?_;refine n_g rfl ψ ?_;refine o_0 (.pickT rfl ψ rfl) ?_;refine aq ?_;refine ar rfl (λh=>?_) (λh=>?_);refine r_z 1 ?_;refine ai ?_;unfold aT;rw[if_pos (.inl rfl)];exact Fin.tmpN rfl;cases h;have hp0:p.length≠0:=λe=>h1 (List.length_eq_zero_iff.1 e);refine s_r 8 ?_;refine a_4 ?_;refine y_g rfl υ (.move rfl) ?_;refine y_g rfl υ (.lenP rfl rfl rfl rfl te_62.h) ?_;refine y_g rfl υ (.bin rfl rfl bJ) ?_;refine o_0 (.pickF rfl υ rfl) ?_;refine aq ?_;refine ar rfl (λh2=>?_) (λh2=>?_)
 have hq0:q=[]:=by
  have:q.length=0:=by simpa using h2
  exact List.length_eq_zero_iff.1 this
 refine r_z 1 ?_;refine ai ?_;unfold aT;rw[if_pos (.inr hq0)];exact Fin.tmpN rfl
 have hq0:q≠[]:=by
  have:¬q.length=0:=by simpa using h2
  exact λe=>this (by rw[e];rfl)
 refine aj ⟨(),⟨h1,hq0⟩,?_⟩;exact s_e [];rintro _ ⟨hp0,hq0⟩;have hpl:=List.length_pos_iff.2 hp0;have hql:=List.length_pos_iff.2 hq0;have hN:(p.length:Int)+q.length- 1=((p.length+q.length- 1:Nat):Int):=ω
 refine s_r 8 ?_;refine a_6 ?_;refine o_1 (.makeSlice (l:=p.length+q.length- 1) (c:=p.length+q.length- 1) (by rw[<-hN];rfl) (by rw[<-hN];rfl) te_62.h TZ.h rfl TB.h ζ ζ ι) ?_;refine a_z ?_;refine ac (r_z 3 ?_);have hbd:=λi=>uX (ej hp hs) (ej hq ht) i
 have hbi:∀i,i<=p.length->i* (s+t+1)+1<=137438953472:=λi hi=>by
  have:=Nat.mul_le_mul_right (s+t+1) hi;omega
 have hs2:s<=137438953472:=by
  have:=hbi 1 hpl;omega
 refine aC (λ_:Unit=>mulS p q (p.length,fy p q p.length)) (λ_=>True) ?_ ?_;refine ah (ay (λi:Nat=>mulS p q (i,fy p q i)) (λi=>p.length- i) (λi=>i<=p.length) 0 (Nat.zero_le _) ?_ ?_);simp only[mulS.eq_1,fy];exact s_x [(1,5)] (λhs=>dD) (λhs=>e_36);rintro i hi;simp only[mulS.eq_1];refine r_z 1 ?_;refine ac (ar rfl (λh=>?_) (λh=>?_));refine aj ?_;have hlt:i< p.length:=by simpa using h
 have hgp:(pE p)[((i:Nat):Int).toNat]?=some (qC (coP p i)):=pE_get (ci hlt);refine ac (ah (s_r 6 ?_));refine a_1 ?_;refine i_x hgp ?_;refine l_x hgp ?_;refine a_z ?_;refine ac (r_c 3 (c6 (coP p i)) ?_);refine a_z ?_;refine ar rfl (λh1=>?_) (λh1=>?_)
 have h0:coP p i=0:=by
  have h1:sgZ (coP p i).num=0:=by simpa using h1
  exact sgZ_num_eq.1 h1
 have hst:fy p q (i+1)=fy p q i:=by rw[fy,if_pos h0]
 refine ax (r_m 2 ?_);refine a_z ?_;refine⟨i+1,ω,hlt,?_⟩;simp only[mulS.eq_1,hst];exact s_e []
 have h0:coP p i≠0:=by
  intro e;have h1:¬sgZ (coP p i).num=0:=by simpa using h1
  exact h1 (sgZ_num_eq.2 e)
 have hst:fy p q (i+1)=kO (fy p q i) (coP p i) q i q.length:=by rw[fy,if_neg h0]
 refine aj (r_z 3 ?_);refine AWp.cutB (λ_:Unit=>mulS p q (i,fy p q (i+1))) (λ_=>True) ?_ ?_;refine ah (ay (λk:Nat=>mulT p q i (coP p i) (k,kO (fy p q i) (coP p i) q i k)) (λk=>q.length- k) (λk=>k<=q.length) 0 (Nat.zero_le _) ?_ ?_);simp only[mulT.eq_1,kO];exact s_e [(2,7)];rintro k hk;simp only[mulT.eq_1];refine r_z 1 ?_;refine ac (ar rfl (λh2=>?_) (λh2=>?_));refine aj ?_;have hlt2:k< q.length:=by simpa using h2
 have hgq:(pE q)[((k:Nat):Int).toNat]?=some (qC (coP q k)):=pE_get (ci hlt2);refine ac (ah (s_r 6 ?_));refine a_1 ?_;refine i_x hgq ?_;refine l_x hgq ?_;refine a_z ?_;have hb1:=hbd i;have hb2:=hbi (i+1) hlt;have hb3:=hbi i hi
 have hcur:qs (coP (kO (fy p q i) (coP p i) q i k) (i+k))<=137438953472:=by
  rw[v6 _ _ _ _ _ _ ω];exact Nat.le_trans (hb1 (i+k)) hb3
 have hab:=cx (coP p i) (coP q k);have hqa:=ej hp hs i;have hqb:=ej hq ht k;have hik:i+k< (kO (fy p q i) (coP p i) q i k).length:=χ
 have hgo:(pE (kO (fy p q i) (coP p i) q i k))[(0+(((i:Nat):Int)+(k:Nat)).toNat)]?=some (qC (coP (kO (fy p q i) (coP p i) q i k) (i+k))):=by
  rw[show 0+(((i:Nat):Int)+(k:Nat)).toNat=i+k by omega];exact pE_get (ci hik)
 refine r_d aX 16 ?_;refine a_8 ?_;refine a_1 ?_;refine bm (.load_l rfl rfl hgo TG.h TS.h (nle rfl)) rfl rfl ?_;refine c_s (dk (coP p i) (coP q k) ω) ?_;refine c_s (fD (coP (kO (fy p q i) (coP p i) q i k) (i+k)) (coP p i* coP q k) ω) ?_;refine a_1 ?_;refine fN (.store rfl rfl hgo rfl rfl rfl TS.h (nle rfl)) ?_;refine aq (n_k ?_);refine r_m 2 ?_;refine a_z ?_;refine⟨k+1,ω,hlt2,?_⟩
 have hst2:(pE (kO (fy p q i) (coP p i) q i k)).set (0+(((i:Nat):Int)+(k:Nat)).toNat) (qC (coP (kO (fy p q i) (coP p i) q i k) (i+k)+coP p i* coP q k))=pE (kO (fy p q i) (coP p i) q i (k+1)):=by
  rw[show 0+(((i:Nat):Int)+(k:Nat)).toNat=i+k by omega,mM];rfl
 have hl2:(kO (fy p q i) (coP p i) q i (k+1)).length=(kO (fy p q i) (coP p i) q i k).length:=ψ
 simp only[mulT.eq_1,hl2];exact s_x [] (λhs=>dD) (λhs=>e_37) e_1
 have hge:k=q.length:=by
  have:¬k< q.length:=by simpa using h2
  omega
 subst hge;refine ax ⟨(),trivial,?_⟩;simp only[mulS.eq_1,hst];exact s_e [];rintro _ _;simp only[mulS.eq_1];refine r_m 2 ?_;refine a_z ?_;refine⟨i+1,ω,hlt,?_⟩;exact s_e []
 have hge:i=p.length:=by
  have:¬i< p.length:=by simpa using h
  omega
 subst hge;refine ax ⟨(),trivial,?_⟩;simp only[mulS.eq_1];exact s_e [];rintro _ _;simp only[mulS.eq_1]
 have hfull:List.take (fy p q p.length).length (List.drop 0 (pE (fy p q p.length)))=pE (fy p q p.length):=by
  rw[List.drop_zero,List.take_of_length_le ψ]
 have hfin:aT p q=ap (fy p q p.length):=by
  unfold aT;rw[if_neg (by rintro(h|h);exact hp0 h;exact hq0 h)]
 rw[hfin];refine s_r 3 ?_;refine a_1 ?_;refine o_1 (.callS1 rfl rfl rfl (.shut rfl d_n (.nil)) rfl ((by rw[hfull];exact dK (fy p q p.length) χ))) ?_;refine a_z ?_;exact ai (t_e (aD _))
end Go.Proofs.YtjmkjicckobojaaGreatDoor
