/- Part W21 of the proof. -/
import Derived.Test.YtjmkjicckobojaaGreatDoorW20
set_option linter.all false
namespace Go.Proofs.YtjmkjicckobojaaGreatDoor
open Go.Abs
set_option maxRecDepth 20000
def HE(n:Nat):List UInt8:=List.replicate (9- (Lib.decDigits n).length) 48++Lib.decDigits n
def txD:Ln->List UInt8
 |[]=>[]
 |x::xs=>Lib.decDigits x++xs.flatMap HE
def mtx(m:Nat):List UInt8:=if m=0 then [48] else txD (aw MB m).reverse
theorem Bl{l:Ln}(h:l≠[])(x:Nat):txD (l++[x])=txD l++HE x:=by
 cases l with
 |nil=>exact absurd rfl h
 |cons a l=>simp[txD]
theorem Ac:∀k n,n< 10^ (k+1)->Lib.nDigits n<=k+1
 |0,n,h=>by rw[Lib.nDigits_small (by simpa using h)];omega
 |k+1,n,h=>by
  by_cases h1:n< 10;rw[Lib.nDigits_small h1];omega;rw[Lib.nDigits_big h1];have:n/ 10< 10^ (k+1):=by rw[Nat.pow_succ] at h;omega
  have:=Ac k (n/ 10) this;omega
theorem A2{n:Nat}(h:n< 1000000000):(Lib.decDigits n).length<=9:=by
 rw[Lib.decDigits_length];exact Ac 8 n h
theorem K2(n:Nat):Lib.decDigits n≠[]:=by
 intro e;have a:=Lib.decDigits_length n;rw[e] at a;have:=Lib.nDigits_pos n;simp at a;omega
theorem JD{n:Nat}(h:n< 1000000000):(HE n).length=9:=by
 have:=A2 h;simp[HE];omega
theorem txD_ne{l:Ln}(h:l≠[]):txD l≠[]:=by
 cases l with
 |nil=>exact absurd rfl h
 |cons a l=>intro e;exact K2 a (List.append_eq_nil_iff.1 e).1
theorem Fx{l:Ln}(h:∀x∈l,x< 1000000000):(txD l).length<=9* l.length:=by
 cases l with
 |nil=>simp[txD]
 |cons a l=>
  have f:=A2 (h a (List.mem_cons_self ..))
  have e:∀l:Ln,(∀x∈l,x< 1000000000)->(l.flatMap HE).length=9* l.length:=by
   intro l
   induction l with
   |nil=>intro _;rfl
   |cons b l d=>
    intro h;rw[List.flatMap_cons,List.length_append,JD (h b (List.mem_cons_self ..)),d λx c=>h x (List.mem_cons_of_mem _ c),List.length_cons];omega
  have g:=e l λx c=>h x (List.mem_cons_of_mem _ c);simp only[txD,List.length_append,List.length_cons];omega
def tf0(L:Ln):Unit->AState
 |u=>⟨[(1,.lptr 1 0 0),(3,.lptr 2 0 0),(11,.clos 256 [] [.aptr [[.arr (dE L)]] 0 0])],[(1,some ⟨38,1,[[.arr (dE L)]]⟩),(2,some ⟨205,2,[ez 2 0 none]⟩)],4,31⟩
def tf1(L:Ln):List UInt8->AState
 |q=>⟨[(1,.lptr 1 0 0),(3,.lptr 2 0 0),(11,.clos 256 [] [.aptr [[.arr (dE L)]] 0 0])],[(1,some ⟨38,1,[[.arr (dE L)]]⟩),(2,some ⟨205,2,[ez 2 3 (some q)]⟩),(3,some ⟨5,1,bE q⟩)],4,31⟩
def tfS(L:Ln):Nat->AState
 |0=>tf0 L ()
 |k+1=>tf1 L (txD (L.reverse.take (k+1)))
theorem yQ(m:Nat)(h:bl m<=68719476736):FS 131 [.agg [mag m]] (tx (mtx m)):=by
 have E:=kV m;refine f_c Tryz.func131 ?_;refine r_z 2 ?_;refine ac (r_c 2 (E) ?_);refine aq ?_;refine ar rfl (λC=>?_) (λC=>?_);have w:m=0:=by simpa using C
 subst w;refine r_z 1 ?_;exact ai (t_e (ak _));have w:m≠0:=by simpa using C
 obtain⟨L,o⟩:∃L,L=aw MB m:=⟨_,rfl⟩;have T:mag m= .arr (dE L):=by unfold mag;rw[o]
 have M:L.length<=68719476736:=by
  rw[o];exact Nat.le_trans (b8 (b:=MB) δ m) h
 have i:∀x∈L,x< 1000000000:=by rw[o];exact dU (b:=MB) δ m
 have p:L≠[]:=by rw[o];exact λe=>w ((gi (b:=MB) δ).1 e)
 have N:=List.length_pos_iff.2 p;rw[show mtx m=txD L.reverse by unfold mtx;rw[if_neg w,o]];clear E;rw[T];refine aj ?_;have u:Closed (.aptr [[.arr (dE L)]] 0 0):=jU (λe H c hc=>by simp at H;subst H;simp at hc;subst hc;exact dn _);have a:Closed (.clos 256 [] [.aptr [[.arr (dE L)]] 0 0]):=a6 af (ae u af);have S:(dE L).length=L.length:=pc L;refine r_z 1 ?_;refine ac (r_c 3 (lP L) ?_);refine aq ?_;refine aC (λ_:Unit=>tf1 L (txD L.reverse)) (λ_=>True) ?_ ?_;refine ah (AWp.rangeFunc (α:=Nat) (γ:=Empty) L.length (tfS L) (λk=>k) (λk=>k<=L.length) (λe=>nomatch e) (λ_ e=>nomatch e) 0 rfl (lM L ω) rfl rfl ?_ (λk=>by cases k <;> exact⟨rfl,rfl⟩) (λe=>nomatch e) (Nat.zero_le _) rfl (λ_ h=>h) ?_ ?_ ?_ ?_ (λ_ e=>nomatch e));intro k xs d;unfold mA at d;split at d;cases d;rfl;cases d;show SEntT _ (tf0 L ());rw[tf0.eq_1];exact s_t [(1,1),(2,3)];exact ae u af
 ·intro l k xs Q d
  unfold mA at d;split at d;rotate_left;cases d;rename_i hlt;cases d;obtain⟨x,F⟩:∃x,x=L.getD (L.length- 1- k) 0:=⟨_,rfl⟩
  have t:L[L.length- 1- k]?=some x:=by
   rw[F,List.getD_eq_getElem?_getD,List.getElem?_eq_getElem ω];rfl
  have D:x< 1000000000:=i x (List.mem_of_getElem? t)
  have g:L.reverse.take (k+1)=L.reverse.take k++[x]:=by
   rw[List.take_add_one,List.getElem?_reverse ω,t];rfl
  have n:=KE x ω;have G:=A2 D;rw[<-F];cases k with
  |zero=>
   show AWp _ _ _ _ ⟨jJ (tf0 L ()).fr _ _++eB (tf0 L ()).fr,_,_,_⟩;show AWp _ _ _ _ ⟨[(13,u32 x),(12,i64 ((L.length- 1- 0:Nat):Int)),(1,.lptr 1 0 0),(3,.lptr 2 0 0),(11,.clos 256 [] [.aptr [[.arr (dE L)]] 0 0]),(1001,.lptr 1 0 0),(1003,.lptr 2 0 0),(1011,.clos 256 [] [.aptr [[.arr (dE L)]] 0 0])],[(1,some ⟨38,1,[[.arr (dE L)]]⟩),(2,some ⟨205,2,[ez 2 0 none]⟩)],4,31⟩;refine r_z 1 ?_;refine r_m 1 ?_;refine a_z ?_;refine ah (r_c 4 (n) ?_);refine a_z ?_;refine ac (r_z 6 ?_);refine ar rfl (λf=>?_) (λf=>?_);exact absurd f χ;refine aj (r_m 2 ?_);refine a_1 ?_;refine o_2 (.callB (s:=none) (j:=0) rfl rfl rfl rfl rfl rfl (λ_ h=>by cases h) (kF (Lib.decDigits x) (K2 x) ω)) ?_;refine aq ?_;refine⟨0+1,⟨ω,rfl⟩,?_⟩;have e:txD (L.reverse.take (0+1))=Lib.decDigits x:=by rw[g];simp[txD]
   show SEntT _ ⟨eB (tf1 L (txD (L.reverse.take (0+1)))).fr,(tf1 L (txD (L.reverse.take (0+1)))).hp,_,_⟩;rw[e];show SEntT _ ⟨[(1001,.lptr 1 0 0),(1003,.lptr 2 0 0),(1011,.clos 256 [] [.aptr [[.arr (dE L)]] 0 0])],[(1,some ⟨38,1,[[.arr (dE L)]]⟩),(2,some ⟨205,2,[ez 2 3 (some (Lib.decDigits x))]⟩),(3,some ⟨5,1,bE (Lib.decDigits x)⟩)],4,31⟩;refine SEntT.to2 [(3,100017)] rfl rfl rfl xK (λhs=>?_) (λhs=>?_)
   ·repeat' (first|exact aL|refine az rfl ?_ ?_)
    all_goals (first|(exact ao hs a)|exact aW)
   ·repeat' (first|exact aB|refine jY rfl rfl rfl rfl ?_ ?_)
    all_goals (first|exact bG|(refine aA ?_;repeat' (first|exact av|refine am ?_ ?_)))
    all_goals (first|(exact ao hs a)|exact aW)
  |succ k=>
   obtain⟨q,B⟩:∃q,q=txD (L.reverse.take (k+1)):=⟨_,rfl⟩
   have z:L.reverse.take (k+1)≠[]:=by
    intro e;have:=congrArg List.length e;rw[List.length_take,List.length_reverse] at this;simp only[List.length_nil] at this;omega
   have U:q.length<=9* L.length:=by
    have f:=Fx (l:=L.reverse.take (k+1)) (λy R=>i y (List.mem_reverse.1 (List.mem_of_mem_take R)));have V:(L.reverse.take (k+1)).length<=L.length:=χ
    rw[B];omega
   show AWp _ _ _ _ ⟨jJ (tf1 L (txD (L.reverse.take (k+1)))).fr _ _++eB (tf1 L (txD (L.reverse.take (k+1)))).fr,(tf1 L (txD (L.reverse.take (k+1)))).hp,4,_⟩;rw[<-B];show AWp _ _ _ _ ⟨[(13,u32 x),(12,i64 ((L.length- 1- (k+1):Nat):Int)),(1,.lptr 1 0 0),(3,.lptr 2 0 0),(11,.clos 256 [] [.aptr [[.arr (dE L)]] 0 0]),(1001,.lptr 1 0 0),(1003,.lptr 2 0 0),(1011,.clos 256 [] [.aptr [[.arr (dE L)]] 0 0])],[(1,some ⟨38,1,[[.arr (dE L)]]⟩),(2,some ⟨205,2,[ez 2 3 (some q)]⟩),(3,some ⟨5,1,bE q⟩)],4,31⟩;refine r_z 1 ?_;refine r_m 1 ?_;refine a_z ?_;refine ah (r_c 4 (n) ?_);refine a_z ?_;refine ac (r_z 6 ?_);refine ar rfl (λf=>?_) (λf=>?_);rotate_left;exact absurd (of_decide_eq_false f) ω;have O:((9:Int)- ((⟨(Lib.decDigits x).toArray⟩:ByteArray).size:Int))=((9- (Lib.decDigits x).length:Nat):Int):=by rw[oG];omega
   have r:FS 210 [tx [48],.v (.int .i64 ((9:Int)- ((⟨(Lib.decDigits x).toArray⟩:ByteArray).size:Int)))] (tx (List.replicate (9- (Lib.decDigits x).length) 48)):=by
    rw[O];exact Ey 48 (9- (Lib.decDigits x).length) ω
   refine r_m 5 ?_;refine o_0 (.move rfl) ?_;refine o_0 (.builtinV (vs:=[_]) rfl rfl (λ_ _ _=>rfl)) ?_;refine o_0 (.bin rfl rfl (ow (by rw[oG];omega))) ?_;refine c_s (r) ?_;refine o_3 (.callB (s:=some _) rfl rfl rfl rfl rfl rfl (λ_ h=>by cases h;exact⟨rfl,δ⟩) (iA q (List.replicate (9- (Lib.decDigits x).length) 48) χ)) ?_;refine aq ?_;refine r_m 2 ?_;refine a_1 ?_;refine o_3 (.callB (s:=some _) rfl rfl rfl rfl rfl rfl (λ_ h=>by cases h;exact⟨rfl,δ⟩) (iA (q++List.replicate (9- (Lib.decDigits x).length) 48) (Lib.decDigits x) χ)) ?_;refine aq ?_;refine⟨k+1+1,⟨ω,rfl⟩,?_⟩
   have e:txD (L.reverse.take (k+1+1))=q++List.replicate (9- (Lib.decDigits x).length) 48++Lib.decDigits x:=by
    rw[g,Bl z,<-B,List.append_assoc];rfl
   show SEntT _ ⟨eB (tf1 L (txD (L.reverse.take (k+1+1)))).fr,(tf1 L (txD (L.reverse.take (k+1+1)))).hp,_,_⟩;rw[e];show SEntT _ ⟨[(1001,.lptr 1 0 0),(1003,.lptr 2 0 0),(1011,.clos 256 [] [.aptr [[.arr (dE L)]] 0 0])],[(1,some ⟨38,1,[[.arr (dE L)]]⟩),(2,some ⟨205,2,[ez 2 3 (some (q++List.replicate (9- (Lib.decDigits x).length) 48++Lib.decDigits x))]⟩),(3,some ⟨5,1,bE (q++List.replicate (9- (Lib.decDigits x).length) 48++Lib.decDigits x)⟩)],4,31⟩;refine SEntT.to2 [(3,100022)] rfl rfl rfl xK (λhs=>?_) (λhs=>?_)
   ·repeat' (first|exact aL|refine az rfl ?_ ?_)
    all_goals (first|(exact ao hs a)|exact aW)
   ·repeat' (first|exact aB|refine jY rfl rfl rfl rfl ?_ ?_)
    all_goals (first|exact bG|(refine aA ?_;repeat' (first|exact av|refine am ?_ ?_)))
    all_goals (first|(exact ao hs a)|exact aW)
 ·intro k Q d
  unfold mA at d;split at d;cases d
  have A:k=L.length:=by
   rename_i W;omega
  subst A;obtain⟨j,J⟩:∃j,L.length=j+1:=⟨L.length- 1,ω⟩;refine⟨(),trivial,?_⟩;show SEnt (tfS L L.length) _;rw[J];show SEnt (tf1 L (txD (L.reverse.take (j+1)))) _;rw[<-J,List.take_of_length_le ψ];exact SEnt.refl _
 rintro _ _;rw[tf1.eq_1];have K:txD L.reverse≠[]:=txD_ne (by simpa using p);refine s_r 2 ?_;refine o_2 (.callD rfl rfl rfl rfl rfl rfl δ (by first|assumption|simp) (tN)) ?_;refine a_z ?_;exact ai (t_e (ak _))
theorem Ga(m:Nat):(mtx m).length<=9* bl m+1:=by
 unfold mtx;split;simp;have a:=Fx (l:=(aw MB m).reverse) λx c=>dU (b:=MB) δ m x (List.mem_reverse.1 c);have d:=b8 (b:=MB) δ m;rw[List.length_reverse] at a;omega
def qtx(q:Rat):List UInt8:=((if q.num< 0 then [45] else [])++mtx q.num.natAbs)++(if q.den=1 then [] else 47::mtx q.den)
def quS(q:Rat):List UInt8->AState
 |l=>⟨[(1,.aptr [qC q] 0 0),(3,tx l)],[],2,24⟩
theorem Ib(q:Rat)(h:qs q<=68719476736):FS 47 [.agg (qC q)] (tx (qtx q)):=by
 have g:=Ga q.num.natAbs;have f:=Ga q.den;have d:1<=q.den:=q.den_pos;have i:=dA q;have k:=dr q;refine f_c Tryz.func47 ?_;refine r_z 2 ?_;refine AWp.ent (st':=⟨[(1,.aptr [qC q] 0 0)],[],2,24⟩) ?_ ?_;exact s_e [];refine r_c 5 (yQ q.num.natAbs (Nat.le_trans (dA q) h)) ?_;refine a_z ?_;refine bD (quS q) (λl=>l=(if q.num< 0 then [45] else [])++mtx q.num.natAbs) ?_ ?_;refine r_z 3 ?_;refine ar rfl (λa=>?_) (λa=>?_);have b:q.num< 0:=by simpa using a
 refine r_m 3 ?_;refine a_1 ?_;refine o_0 (.bin rfl rfl (fw (l:=[45]) χ)) ?_;refine a_z ?_;refine⟨_,by rw[if_pos b],?_⟩;rw[quS.eq_1];exact s_x [] (λhs=>e_4) (λhs=>e_5);have b:¬q.num< 0:=by simpa using a
 refine aj ⟨mtx q.num.natAbs,by rw[if_neg b];rfl,?_⟩;rw[quS.eq_1];exact s_x [] (λhs=>e_4) (λhs=>e_5);rintro l c;have j:l.length<=618475290626:=by rw[c];split <;> simp <;> omega
 rw[quS.eq_1];refine bD (quS q) (λl=>l=qtx q) ?_ ?_;refine r_c 4 (kV (q.den- 1)) ?_;refine a_z ?_;refine ar rfl (λa=>?_) (λa=>?_)
 have b:¬q.den=1:=by
  intro e;rw[e] at a;simp at a
 refine r_m 7 ?_;refine c_s (eT q ω) ?_;refine c_s (yQ q.den (Nat.le_trans (dr q) h)) ?_;refine o_0 (.bin rfl rfl (fw (l:=[47]) χ)) ?_;refine o_0 (.bin rfl rfl (fw χ)) ?_;refine a_z ?_;refine⟨_,by unfold qtx;rw[if_neg b,<-c],?_⟩;rw[quS.eq_1];exact s_x [] (λhs=>e_4) (λhs=>e_5)
 have b:q.den=1:=by
  have m:q.den- 1=0:=by simpa using a
  omega
 refine aj ⟨l,by unfold qtx;rw[if_pos b,<-c,List.append_nil],?_⟩;rw[quS.eq_1];exact s_x [] (λhs=>e_4) (λhs=>e_5);rintro l rfl;rw[quS.eq_1];refine r_z 2 ?_;exact ai (t_e (ak _))
def Dt:Ln->AState
 |l=>⟨[(0,.arr (iE l))],[],1,15⟩
theorem kr(l:Ln):Dt l=⟨[(0,.arr (iE l))],[],1,15⟩:=rfl
theorem jN(l:Ln)(hl:l.length<=281474976710656):FS 260 [.arr (iE l)] (.arr (iE (gI l))):=by
 refine f_c Tryz.func260 ?_;refine r_z 1 ?_;refine bD Dt (λm=>m=gI l) ?_ ?_;refine ah (ay Dt (λm=>m.length) (λm=>m.length<=281474976710656/\gI m=gI l) l ⟨hl,rfl⟩ ?_ ?_);simp only[kr];exact s_e [];rintro m ⟨e,a⟩;rw[kr];cases m with
 |nil=>
  refine ac (s_r 9 ?_);refine a_4 ?_;refine n_g rfl d_f ?_;refine n_g rfl d_f ?_;refine n_g rfl d_f ?_;refine n_g rfl d_f ?_;refine o_0 (.pickF rfl d_f rfl) ?_;refine aq ?_;refine cF ?_;refine ax ⟨[],by simpa[gI] using a,?_⟩;simp only[kr];exact s_e []
 |cons d m=>
  have c:(iE (d::m))[(0:Int).toNat]?=some [i64 d]:=rfl;refine ac (s_r 9 ?_);refine a_4 ?_;refine y_g rfl ψ (.move rfl) ?_;refine y_g rfl ψ (.index_a rfl rfl ω c rfl te_43.h) ?_;refine y_g rfl ψ (.load_a1 rfl c TG.h rfl) ?_;refine y_g rfl ψ (.bin rfl rfl bJ) ?_;refine o_0 (.pickT rfl ψ rfl) ?_;refine aq ?_;refine ar rfl (λh=>?_) (λh=>?_);have b:d=0:=by simpa using h
  refine aj ?_;subst b;refine ah (r_m 3 ?_);refine a_1 ?_;refine o_0 (.sa_l rfl rfl rfl ψ te_43.h (mW _)) ?_;refine a_z ?_;refine⟨m,ψ,⟨by simp at e;omega,by simpa[gI] using a⟩,?_⟩;simp only[kr];exact s_e [];have b:d≠0:=by simpa using h
  refine ax ⟨d::m,by rw[<-a];simp[gI,b],?_⟩;simp only[kr];exact s_e []
 rintro m rfl;rw[kr];refine r_z 2 ?_;exact ai (t_e (fu _))
theorem ly(s:Int)(l:Ln)(z:Int)(hl:l.length<=281474976710656)(hd:∀d∈l,d< UB)(hz:hv l=z.natAbs)(hs:z≠0->s=sgZ z):FS 214 [i64 s,.arr (iE l)] (.agg (zZ z)):=by
 refine f_c Tryz.func214 ?_;refine r_z 1 ?_;refine r_c 3 (jN l hl) ?_;refine a_z ?_;refine ac (r_z 3 ?_);refine ar rfl (λh=>?_) (λh=>?_)
 have b:gI l=[]:=by
  have:(gI l).length=0:=by simpa using h
  exact List.length_eq_zero_iff.1 this
 have a:z=0:=by have:=(vJ hd).1 b;omega
 subst a;refine r_z 2 ?_;refine ai (Fin.cell rfl rfl rfl TG.h TS.h (nle rfl) ?_);rw[Fp];exact Cv.agg (am (ao aF (ak _)) (am (Cv.emp _) av));have b:gI l≠[]:=λe=>by rw[e] at h;simp at h
 have a:z≠0:=by
  intro e;subst e;exact b ((vJ hd).2 hz)
 refine aj (r_z 4 ?_);refine ai (ec rfl rfl rfl TG.h TS.h (nle rfl) ?_ ?_);show AV.agg [i64 s,.arr (iE (gI l))]=_;unfold zZ;rw[hs a,gw hd,hz];exact cV _
theorem zZ_neg(z:Int):zZ (-z)=[i64 (-sgZ z),.arr (iE (zd z.natAbs))]:=by
 unfold zZ;rw[Int.natAbs_neg];congr 2;unfold sgZ;split <;> split <;>(try split)<;>(try split)<;> omega
theorem di(z:Int):sgZ z= -1/\z< 0\/sgZ z=0/\z=0\/sgZ z=1/\0< z:=by
 unfold sgZ;split;right;left;exact⟨rfl,by assumption⟩;split;left;exact⟨rfl,by assumption⟩;right;right;exact⟨rfl,ω⟩
theorem vc(z:Int):FS 211 [.agg (zZ z)] (.agg (zZ (-z))):=by
 have hs:=di z;have hc:=cV (-z);rw[zZ_neg] at hc⊢;refine f_c Tryz.func211 ?_;refine r_z 2 ?_;refine r_z 7 ?_;exact ai (c_e (hc))
theorem zZ_abs(z:Int):zZ (z.natAbs:Int)=[i64 (sgZ z* sgZ z),.arr (iE (zd z.natAbs))]:=by
 unfold zZ;rw[Int.natAbs_natCast];congr 2;rcases di z with⟨h,h'⟩|⟨h,h'⟩|⟨h,h'⟩<;> rcases di (z.natAbs:Int) with⟨g,g'⟩|⟨g,g'⟩|⟨g,g'⟩<;> rw[h,g]<;> omega
theorem fs_ZAbs(z:Int):FS 230 [.agg (zZ z)] (.agg (zZ (z.natAbs:Int))):=by
 have hs:=di z;have a: -9223372036854775808<=sgZ z* sgZ z/\sgZ z* sgZ z<=9223372036854775807:=by rcases hs with⟨h,_⟩|⟨h,_⟩|⟨h,_⟩<;> rw[h]<;> decide
 have hc:=cV (z.natAbs:Int);rw[zZ_abs] at hc⊢;refine f_c Tryz.func230 ?_;refine r_z 2 ?_;refine s_r 9 ?_;refine a_4 ?_;refine o_0 (.bin rfl rfl (sH a)) ?_;refine a_z ?_;exact ai (c_e (hc))
theorem wV(l:Ln)(i:Nat)(hl:l.length<=281474976710656):FS 268 [.arr (iE l),i64 i] (i64 (l.reverse[i]?.getD 0:Nat)):=by
 refine f_c Tryz.func268 ?_;refine r_z 1 ?_;refine ac (r_z 4 ?_);refine ar rfl (λh=>?_) (λh=>?_);have b:l.length<=i:=by simpa using h
 refine r_z 1 ?_;refine ai (aS rfl ?_ (ak _));rw[List.getElem?_eq_none (by simpa using b)];rfl;have b:i< l.length:=by simp at h;omega
 refine aj ?_;obtain⟨d,c⟩:∃d,l[l.length- 1- i]?=some d:=⟨_,List.getElem?_eq_getElem ω⟩;have a:(iE l)[((l.length:Int)- 1- i).toNat]?=some [i64 d]:=by rw[show((l.length:Int)- 1- i).toNat=l.length- 1- i by omega];exact lL c
 refine s_r 9 ?_;refine a_6 ?_;refine i_x a ?_;refine l_1 a ?_;refine a_z ?_;refine ai (aS rfl ?_ (ak _));rw[List.getElem?_reverse b,c];rfl
theorem En(a b:Ln):FS 267 [.arr (iE a),.arr (iE b)] (i64 (max a.length b.length:Nat)):=by
 refine f_c Tryz.func267 ?_;refine r_z 1 ?_;refine ac (r_z 5 ?_);refine ar rfl (λh=>?_) (λh=>?_);refine r_z 3 ?_;refine ai (aS rfl ?_ (ak _));have:b.length< a.length:=by simpa using h
 simp[i64];omega;refine aj (r_z 3 ?_);refine ai (aS rfl ?_ (ak _));have:¬b.length< a.length:=by simpa using h
 simp[i64];omega
def Fe(a:Nat)(b:Nat):Nat->AState
 |i=>⟨[(0,.arr (iE (zd a))),(1,.arr (iE (zd b))),(5,i64 i)],[],1,40⟩
theorem zo{n i d:Nat}(h:(aw UB n)[i]?=some d):(zd n)[(aw UB n).length- 1- i]?=some d:=by
 have a:i< (aw UB n).length:=(List.getElem?_eq_some_iff.1 h).1;unfold zd;rw[List.getElem?_reverse ω,show(aw UB n).length- 1- ((aw UB n).length- 1- i)=i by omega];exact h
theorem Cc(a b:Nat)(ha:(zd a).length<=281474976710656)(hb:(zd b).length<=281474976710656):FS 226 [.arr (iE (zd a)),.arr (iE (zd b))] (i64 (fg a b)):=by
 have t:=c7 a;have u:=c7 b;refine f_c Tryz.func226 ?_;refine r_z 1 ?_;refine ac (r_z 5 ?_);refine ar rfl (λh=>?_) (λh=>?_);have r:(zd a).length≠(zd b).length:=by simp at h;omega
 refine ac (r_z 5 ?_);refine ar rfl (λj=>?_) (λj=>?_);refine r_z 1 ?_;refine ai (aS rfl ?_ (ak _));have s:(zd a).length< (zd b).length:=by simpa using j
 rw[nq];rfl;have:=kw (b:=UB) δ (show(aw UB a).length< (aw UB b).length by omega);omega;refine aj (r_z 1 ?_);refine ai (aS rfl ?_ (ak _));have s:(zd b).length< (zd a).length:=by simp at j;omega
 rw[ph];rfl;have:=kw (b:=UB) δ (show(aw UB b).length< (aw UB a).length by omega);omega;have heq:(aw UB a).length=(aw UB b).length:=by simp at h;omega
 refine aj (ac (r_z 1 ?_));refine aC (Fe a b) (λ_=>a=b) ?_ ?_;refine ah (ay (Fe a b) (λi=>(aw UB a).length- i) (λi=>i<=(aw UB a).length/\(aw UB a).drop ((aw UB a).length- i)=(aw UB b).drop ((aw UB a).length- i)) 0 ⟨Nat.zero_le _,by rw[Nat.sub_zero,List.drop_length,heq,List.drop_length]⟩ ?_ ?_);simp only[Fe.eq_1];exact s_e [];rintro i ⟨w,e⟩;rw[Fe.eq_1];refine ac (r_z 4 ?_);refine ar rfl (λh=>?_) (λh=>?_);have q:i< (aw UB a).length:=by simp at h;omega
 obtain⟨k,v⟩:∃k,k=(aw UB a).length- 1- i:=⟨_,rfl⟩;have o:(aw UB a).length- i=k+1:=ω
 rw[o] at e;obtain⟨x,m⟩:∃x,(aw UB a)[k]?=some x:=⟨_,List.getElem?_eq_getElem ω⟩;obtain⟨y,l⟩:∃y,(aw UB b)[k]?=some y:=⟨_,List.getElem?_eq_getElem ω⟩
 have f:(iE (zd a))[((i:Nat):Int).toNat]?=some [i64 x]:=by
  have:=zo m;rw[show(aw UB a).length- 1- k=i by omega] at this;exact lL this
 have g:(iE (zd b))[((i:Nat):Int).toNat]?=some [i64 y]:=by
  have:=zo l;rw[show(aw UB b).length- 1- k=i by omega] at this;exact lL this
 refine aj (ac (ah (ac (ac (r_d aX 9 ?_)))));refine a_2 ?_;refine i_x f ?_;refine l_1 f ?_;refine a_2 ?_;refine i_x g ?_;refine l_1 g ?_;refine a_1 ?_;refine aq (n_k ?_);refine ar rfl (λj=>?_) (λj=>?_);refine r_z 1 ?_;refine ai (aS rfl ?_ (ak _));have c:x< y:=by simpa using j
 have:=oW (λd e=>dU δ a d e) m l e c;rw[bY δ,bY δ] at this;rw[nq ω];rfl;refine aj (ac (r_d aX 9 ?_));refine a_2 ?_;refine i_x f ?_;refine l_1 f ?_;refine a_2 ?_;refine i_x g ?_;refine l_1 g ?_;refine a_1 ?_;refine aq (n_k ?_);refine ar rfl (λp=>?_) (λp=>?_);refine r_z 1 ?_;refine ai (aS rfl ?_ (ak _));have c:y< x:=by simpa using p
 have:=oW (λd e=>dU δ b d e) l m e.symm c;rw[bY δ,bY δ] at this;rw[ph ω];rfl;have c:x=y:=by simp at j p;omega
 subst c;refine aj (r_m 3 ?_);refine a_z ?_;refine⟨i+1,ω,⟨ω,?_⟩,?_⟩;rw[show(aw UB a).length- (i+1)=k by omega,gD m,gD l,e];simp only[Fe.eq_1];exact s_e [];have n:i=(aw UB a).length:=by simp at h;omega
 refine ax ⟨i,?_,?_⟩;subst n;rw[Nat.sub_self,List.drop_zero,List.drop_zero] at e;rw[<-bY (b:=UB) δ a,<-bY (b:=UB) δ b,e];simp only[Fe.eq_1];exact s_e [];rintro i rfl;rw[Fe.eq_1];refine r_z 1 ?_;refine ai (aS rfl ?_ (ak _));rw[GZ rfl];rfl
def bothS(a:Nat)(b:Nat)(k:Int)(N:Nat):Ln×Int->AState
 |(s,c)=>⟨[(0,.arr (iE (zd a))),(1,.arr (iE (zd b))),(2,i64 k),(7,i64 N),(8,.lsl 1 0 N (some N) 1),(9,i64 c),(10,i64 s.length)],[(1,some ⟨3,1,iE (List.replicate (N- s.length) 0++s.reverse)⟩)],2,51⟩
def Lh(a:Nat)(b:Nat)(k:Int)(N:Nat)(s:Ln):Int×Int->AState
 |(x,c)=>⟨[(0,.arr (iE (zd a))),(1,.arr (iE (zd b))),(2,i64 k),(7,i64 N),(8,.lsl 1 0 N (some N) 1),(9,i64 c),(10,i64 s.length),(11,i64 x)],[(1,some ⟨3,1,iE (List.replicate (N- s.length) 0++s.reverse)⟩)],2,51⟩
theorem rX(a b:Nat)(k:Int)(r:Nat)(hk:k=1\/k= -1)(hr:(r:Int)=a+k* b)(ha:(zd a).length<=17592186044416)(hb:(zd b).length<=17592186044416):FS 225 [.arr (iE (zd a)),.arr (iE (zd b)),i64 k] (.arr (iE (zd r))):=by
 have hza:=c7 a;have hzb:=c7 b;obtain⟨N,hN⟩:∃N,N=max (zd a).length (zd b).length+1:=⟨_,rfl⟩;refine f_c Tryz.func225 ?_;refine r_z 1 ?_;refine r_c 5 (En (zd a) (zd b)) ?_;refine a_z ?_;have D:((max (zd a).length (zd b).length:Nat):Int)+1=(N:Int):=ω
 refine s_r 3 ?_;refine a_1 ?_;refine o_1 (.makeSlice (congrArg (λz=>some (AV.v (.int .i64 z))) D) (congrArg (λz=>some (AV.v (.int .i64 z))) D) te_43.h TZ.h rfl TB.h ζ ζ ι) ?_;refine a_z ?_;refine r_z 1 ?_;refine ac (r_z 1 ?_)
 have T:=ft (b:=UB) δ (n:=r) (k:=N) (by
  have j:=fX (b:=UB) (dU δ a);have o:=fX (b:=UB) (dU δ b);rw[bY δ] at j o;have J:UB^ (aw UB a).length<=UB^ (N- 1):=Nat.pow_le_pow_right δ ω;have h4:UB^ (aw UB b).length<=UB^ (N- 1):=Nat.pow_le_pow_right δ ω;have h5:UB^ N=UB^ (N- 1) * UB:=by rw[<-Nat.pow_succ];congr 1;omega
  rw[h5];show r< UB^ (N- 1) * 32768;rcases hk with rfl|rfl <;> omega)
 have R:r< UB^ N:=by
  have j:=fX (b:=UB) (dU δ r);rw[bY δ] at j;exact Nat.lt_of_lt_of_le j (Nat.pow_le_pow_right δ T)
 refine aC (λs:Ln=>⟨[(8,.lsl 1 0 N (some N) 1)],[(1,some ⟨3,1,iE s.reverse⟩)],2,51⟩) (λs=>s.length=N/\(∀d∈s,d< UB)/\ofD UB s=r) ?_ ?_;refine ah (ay (bothS a b k N) (λx=>N- x.1.length) (λx=>x.1.length<=N/\(∀d∈x.1,d< UB)/\(x.2= -1\/x.2=0\/x.2=1)/\((ofD UB x.1:Nat):Int)+((UB^ x.1.length:Nat):Int) * x.2=(ofD UB ((aw UB a).take x.1.length):Nat)+k* (ofD UB ((aw UB b).take x.1.length):Nat)) ([],0) ⟨ψ,ψ,ψ,by simp[ofD]⟩ ?_ ?_);simp only[bothS.eq_1];exact s_e [(1,8)];rintro⟨s,c⟩ ⟨hs,u,hc,f⟩;simp only at hs u hc f;simp only[bothS.eq_1];refine ac (r_z 3 ?_);refine ar rfl (λh=>?_) (λh=>?_);have hlt:s.length< N:=by simpa using h
 refine aj ?_;obtain⟨x,U⟩:∃x,x=(aw UB a)[s.length]?.getD 0:=⟨_,rfl⟩;obtain⟨y,O⟩:∃y,y=(aw UB b)[s.length]?.getD 0:=⟨_,rfl⟩
 have hx1:x< 32768:=by
  rw[U];cases hh:(aw UB a)[s.length]? with
  |none=>decide
  |some d=>exact da δ hh
 have hy1:y< 32768:=by
  rw[O];cases hh:(aw UB b)[s.length]? with
  |none=>decide
  |some d=>exact da δ hh
 have p:=wV (zd a) s.length ω;have t:=wV (zd b) s.length ω;unfold zd at p t;rw[List.reverse_reverse,<-U] at p;rw[List.reverse_reverse,<-O] at t;have hky: -32768< k* y/\k* y< 32768:=by rcases hk with rfl|rfl <;> omega
 obtain⟨X,hX⟩:∃X:Int,X=x+k* y+c:=⟨_,rfl⟩;have hXr: -32768<=X/\X<=65536:=ω
 refine ac (ah (r_c 12 (p) ?_));refine c_s (t) ?_;refine a_z ?_;refine r_z 1 ?_;refine bD (Lh a b k N s) (λv=>v.1=(if X< 0 then X+32768 else X)/\v.2=(if X< 0 then -1 else 0)) ?_ ?_;refine r_z 2 ?_;refine ar rfl (λj=>?_) (λj=>?_);have g:X< 0:=by rw[hX];simpa using j
 refine r_z 3 ?_;refine r_m 1 ?_;refine a_z ?_;refine⟨(X+32768,-1),⟨by rw[if_pos g],by rw[if_pos g]⟩,?_⟩;simp only[Lh.eq_1];exact s_x [] (λhs=>e_32) (λhs=>e_33) e_31;have g:¬X< 0:=by rw[hX];simpa using j
 refine aj ⟨(X,0),⟨by rw[if_neg g],by rw[if_neg g]⟩,?_⟩;simp only[Lh.eq_1];exact s_x [] (λhs=>e_32) (λhs=>e_33) e_31;rintro⟨F,c1⟩ ⟨i,H⟩;simp only at i H;rw[Lh.eq_1];refine bD (Lh a b k N s) (λv=>v.1=X % 32768/\v.2=X/ 32768) ?_ ?_;refine r_z 2 ?_;refine ar rfl (λj=>?_) (λj=>?_);have o:32768<=F:=by simpa using j
 have Z:F<=65536:=by rw[i];split <;> omega
 refine r_z 3 ?_;refine r_m 1 ?_;refine a_z ?_;have g:¬X< 0:=by intro h0;rw[if_pos h0] at i;omega
 rw[if_neg g] at i;refine⟨(F- 32768,1),⟨by simp only;omega,by simp only;omega⟩,?_⟩;simp only[Lh.eq_1];exact s_e []
 ·have o:F< 32768:=by simp at j;omega
  refine aj ⟨(F,c1),⟨by rw[i] at o⊢;simp only;split <;> rename_i J <;> simp only[J,if_true,if_false] at o <;> omega,by rw[i] at o;rw[H];simp only;split <;> rename_i J <;> simp only[J,if_true,if_false] at o <;> omega⟩,?_⟩;simp only[Lh.eq_1];exact s_e []
 rintro⟨X2,E⟩ ⟨K,Q⟩;simp only at K Q;rw[Lh.eq_1];obtain⟨d,L⟩:∃d:Nat,X2=d:=⟨X2.toNat,ω⟩;have M:d< 32768:=ω
 subst L;have hlen:(List.replicate (N- s.length) 0++s.reverse).length=N:=χ
 have m:List.replicate (N- s.length) 0=List.replicate (N- (s.length+1)) 0++[0]:=by
  rw[show N- s.length=(N- (s.length+1))+1 by omega,List.replicate_succ']
 have G:(iE (List.replicate (N- s.length) 0++s.reverse))[0+((N:Int)- 1- s.length).toNat]?=some [i64 0]:=by
  rw[show 0+((N:Int)- 1- s.length).toNat=N- (s.length+1) by omega];refine lL ?_;rw[m,List.append_assoc];exact rG _ _ _ _ ψ
 have hset:(iE (List.replicate (N- s.length) 0++s.reverse)).set (0+((N:Int)- 1- s.length).toNat) [i64 d]=iE (List.replicate (N- (s++[d]).length) 0++(s++[d]).reverse):=by
  rw[show 0+((N:Int)- 1- s.length).toNat=N- (s.length+1) by omega,pO,m,List.append_assoc];simp only[List.singleton_append,List.length_append,List.length_cons,List.length_nil,List.reverse_append,List.reverse_cons,List.reverse_nil,List.nil_append];rw[qN _ _ _ _ _ ψ];simp
 refine r_m 8 ?_;refine a_7 ?_;refine fN (.store rfl rfl G rfl rfl rfl TS.h (nle rfl)) ?_;refine aq ?_;refine r_m 3 ?_;refine a_z ?_;refine⟨(s++[d],E),χ,⟨χ,?_,by simp only;omega,?_⟩,?_⟩;intro e w;rcases List.mem_append.1 w with w|w
 exact u e w;simp at w;subst w;exact M;simp only[List.length_append,List.length_cons,List.length_nil,Nat.zero_add];rw[iM,fm,fm,<-U,<-O,Nat.pow_succ];obtain⟨B,Y⟩:∃B,B=UB^ s.length:=⟨_,rfl⟩;rw[<-Y] at f⊢;have V:X=32768* E+d:=ω
 have S:(B:Int) * X=B* x+k* (B* y)+B* c:=by
  rw[hX,Int.mul_add,Int.mul_add,Int.mul_left_comm]
 rw[V,Int.mul_add] at S;have e1:((B* 32768:Nat):Int) * E=B* (32768* E):=by rw[Int.natCast_mul,Int.mul_assoc];rfl
 have e2:k* ((ofD UB ((aw UB b).take s.length)+B* y:Nat):Int)=k* (ofD UB ((aw UB b).take s.length):Nat)+k* (B* y):=by
  rw[Int.natCast_add,Int.mul_add,Int.natCast_mul]
 show((ofD UB s+B* d:Nat):Int)+((B* 32768:Nat):Int) * E=_;rw[e1,e2,Int.natCast_add,Int.natCast_add,Int.natCast_mul,Int.natCast_mul];omega;simp only[bothS.eq_1];refine s_x [] (λhs=>dD) (λhs=>?_) e_34
 ·repeat' (first|exact aB|refine h_c ?_ ?_|exact aJ hs hset (dY _)|exact bG)
 have l:s.length=N:=by simp at h;omega
 refine ax ⟨s,⟨l,u,?_⟩,?_⟩;rw[l,List.take_of_length_le ω,List.take_of_length_le ω,bY δ,bY δ,<-hr] at f;have C:=fX u;rw[l] at C;obtain⟨B,Y⟩:∃B,B=UB^ N:=⟨_,rfl⟩;rw[<-Y] at f C R;rcases hc with rfl|rfl|rfl <;> omega
 have e:iE (List.replicate (N- s.length) 0++s.reverse)=iE s.reverse:=by rw[l];simp
 refine s_x [] (λhs=>dD) (λhs=>e_35) ?_
 ·repeat' (first|exact ShrL.nil|refine ShrL.cons rfl rfl rfl rfl (by first|(exact congrArg List.length e)|rfl|(simp;done)|(simp <;> omega)) ?_)
 rintro s ⟨hs,u,f⟩;have W:∀d∈s.reverse,d< UB:=λd h=>u d (List.mem_reverse.1 h);have A:=jN s.reverse χ;rw[gw W,show hv s.reverse=r by unfold hv;rw[List.reverse_reverse];assumption] at A;have q:((iE s.reverse).drop 0).take N=iE s.reverse:=by rw[List.drop_zero,List.take_of_length_le χ]
 refine s_r 3 ?_;refine a_1 ?_;refine o_1 (.callS1 rfl rfl rfl (.shut rfl d_n (.nil)) rfl ((by rw[q];exact A))) ?_;refine a_z ?_;exact ai (t_e (fu _))
def zl(z:Int):Prop:=bl z.natAbs<=8796093022208
theorem zn{z:Int}(h:zl z):(zd z.natAbs).length<=17592186044416:=by
 have:=b8 (b:=UB) δ z.natAbs;rw[c7];unfold zl at h;omega
theorem zK{x y:Int}(h:sgZ x=sgZ y)(hx:x≠0):(x+y).natAbs=x.natAbs+y.natAbs/\(x+y≠0->sgZ x=sgZ (x+y)):=by
 rcases di x with⟨a,b⟩|⟨a,b⟩|⟨a,b⟩<;> rcases di y with⟨c,d⟩|⟨c,d⟩|⟨c,d⟩<;> rcases di (x+y) with⟨e,f⟩|⟨e,f⟩|⟨e,f⟩<;> rw[a,c] at h <;> rw[a,e]<;> first|omega|(constructor <;> omega)
theorem vQ{x y:Int}(h:sgZ x≠sgZ y)(hx:x≠0)(hy:y≠0)(hg:y.natAbs<=x.natAbs):(x+y).natAbs=x.natAbs- y.natAbs/\(x+y≠0->sgZ x=sgZ (x+y)):=by
 rcases di x with⟨a,b⟩|⟨a,b⟩|⟨a,b⟩<;> rcases di y with⟨c,d⟩|⟨c,d⟩|⟨c,d⟩<;> rcases di (x+y) with⟨e,f⟩|⟨e,f⟩|⟨e,f⟩<;> rw[a,c] at h <;> rw[a,e]<;> first|omega|(constructor <;> omega)
theorem GE(x y:Int)(hx:zl x)(hy:zl y):FS 148 [.agg (zZ x),.agg (zZ y)] (.agg (zZ (x+y))):=by
 have c:=zn hx;have d:=zn hy
 have bound:∀r:Nat,r<=x.natAbs+y.natAbs->(zd r).length<=281474976710656:=by
  intro r n;have i:=b8 (b:=UB) δ r;have g:=dO n;have j:=Bb x.natAbs y.natAbs;unfold zl at hx hy;rw[c7];omega
 refine f_c Tryz.func148 ?_;refine r_z 3 ?_;refine ac (r_z 3 ?_);refine ar rfl (λh=>?_) (λh=>?_)
 have m:x=0:=by
  have:sgZ x=0:=by simpa using h
  rcases di x with⟨a,b⟩|⟨a,b⟩|⟨a,b⟩<;> omega
 refine r_z 2 ?_;refine ai (ec rfl rfl rfl TG.h TS.h (nle rfl) ?_ ?_);rw[m,Int.zero_add];rfl;exact cV _;have e:x≠0:=by rintro rfl;simp[sgZ] at h
 refine aj (ac (r_z 3 ?_));refine ar rfl (λi=>?_) (λi=>?_)
 have m:y=0:=by
  have:sgZ y=0:=by simpa using i
  rcases di y with⟨a,b⟩|⟨a,b⟩|⟨a,b⟩<;> omega
 refine r_z 2 ?_;refine ai (ec rfl rfl rfl TG.h TS.h (nle rfl) ?_ ?_);rw[m,Int.add_zero];rfl;exact cV _;have f:y≠0:=by rintro rfl;simp[sgZ] at i
 refine aj (ac (r_z 5 ?_));refine ar rfl (λg=>?_) (λg=>?_);have hs:sgZ x=sgZ y:=by simpa using g
 obtain⟨e1,e2⟩:=zK hs e;refine ac (r_d aX 9 ?_);refine c_s (rX x.natAbs y.natAbs 1 (x.natAbs+y.natAbs) (.inl rfl) ω c d) ?_;refine c_s (ly (sgZ x) (zd (x.natAbs+y.natAbs)) (x+y) (bound _ (Nat.le_refl _)) (j7 _) (by rw[lx,e1]) e2) ?_;refine a_1 ?_;refine aq (n_k ?_);exact ai (c_e (cV _));have hs:sgZ x≠sgZ y:=by simpa using g
 refine aj (ac (r_c 6 (Cc x.natAbs y.natAbs ω ω) ?_));refine a_z ?_;refine ar rfl (λj=>?_) (λj=>?_)
 have k:y.natAbs<=x.natAbs:=by
  have:=of_decide_eq_true j;unfold fg at this;split at this;omega;omega
 obtain⟨e1,e2⟩:=vQ hs e f k;refine ac (r_d aX 9 ?_);refine c_s (rX x.natAbs y.natAbs (-1) (x.natAbs- y.natAbs) (.inr rfl) ω c d) ?_;refine c_s (ly (sgZ x) (zd (x.natAbs- y.natAbs)) (x+y) (bound _ ω) (j7 _) (by rw[lx,e1]) e2) ?_;refine a_1 ?_;refine aq (n_k ?_);exact ai (c_e (cV _))
 have l:x.natAbs<=y.natAbs:=by
  have:=of_decide_eq_false j;unfold fg at this;split at this;omega;split at this <;> omega
 obtain⟨e1,e2⟩:=vQ (λh=>hs h.symm) f e l;rw[Int.add_comm] at e1 e2;refine aj (ac (r_d aX 9 ?_));refine c_s (rX y.natAbs x.natAbs (-1) (y.natAbs- x.natAbs) (.inr rfl) ω d c) ?_;refine c_s (ly (sgZ y) (zd (y.natAbs- x.natAbs)) (x+y) (bound _ ω) (j7 _) (by rw[lx,e1]) e2) ?_;refine a_1 ?_;refine aq (n_k ?_);exact ai (c_e (cV _))
theorem zl_neg{z:Int}(h:zl z):zl (-z):=by unfold zl at *;rwa[Int.natAbs_neg]
theorem fs_ZSub(x y:Int)(hx:zl x)(hy:zl y):FS 227 [.agg (zZ x),.agg (zZ y)] (.agg (zZ (x- y))):=by
 have hs:=GE x (-y) hx (zl_neg hy);rw[<-Int.sub_eq_add_neg] at hs;refine f_c Tryz.func227 ?_;refine r_z 3 ?_;refine ac (r_d aX 5 ?_);refine c_s (vc y) ?_;refine c_s (hs) ?_;refine a_1 ?_;refine aq (n_k ?_);exact ai (c_e (cV _))
theorem fs_ZCmp(x y:Int)(hx:zl x)(hy:zl y):FS 150 [.agg (zZ x),.agg (zZ y)] (i64 (fg x y)):=by
 have e:fg x y=sgZ (x- y):=by
  unfold fg sgZ;split <;> split <;>(try split)<;>(try split)<;> omega
 rw[e];refine f_c Tryz.func150 ?_;refine r_z 3 ?_;refine r_c 5 (fs_ZSub x y hx hy) ?_;refine a_z ?_;exact ai (t_e (ak _))
def Dy(l:Ln):Nat->AState
 |i=>⟨[(0,.arr (iE l)),(3,i64 (hv (l.take i))),(4,i64 i)],[],1,19⟩
theorem D7{l:Ln}(hd:∀d∈l,d< UB)(hl:l.length<=4)(i:Nat):hv (l.take i)< 1152921504606846976:=by
 have a:=Gs (l:=l.take i) λd h=>hd d (List.mem_of_mem_take h);have b:(l.take i).length<=4:=by rw[List.length_take];omega
 exact Nat.lt_of_lt_of_le a (Nat.pow_le_pow_right δ b)
theorem wN(l:Ln)(hl:l.length<=4)(hd:∀d∈l,d< UB):FS 224 [.arr (iE l)] (i64 (hv l)):=by
 refine f_c Tryz.func224 ?_;refine r_z 1 ?_;refine r_z 1 ?_;refine ac (r_z 1 ?_);refine aC (Dy l) (λi=>i=l.length) ?_ ?_;refine ah (ay (Dy l) (λi=>l.length- i) (λi=>i<=l.length) 0 (Nat.zero_le _) ?_ ?_);simp only[Dy.eq_1];exact s_e [];intro i m;rw[Dy.eq_1];refine ac (r_z 4 ?_);refine ar rfl (λh=>?_) (λh=>?_);have f:i< l.length:=by simpa using h
 obtain⟨d,c⟩:∃d,l[i]?=some d:=⟨_,List.getElem?_eq_getElem f⟩;have j:=hd d (List.mem_of_getElem? c);have b:(iE l)[((i:Nat):Int).toNat]?=some [i64 d]:=lL c;have e:=rA (l.take i) d;rw[<-cO c] at e;have hb:=D7 hd hl (i+1);obtain⟨V,k⟩:∃V,V=hv (l.take i):=⟨_,rfl⟩;rw[<-k] at e⊢;have a:hv (l.take (i+1))=V* 32768+d:=e;refine aj (ac (ah (r_m 8 ?_)));refine a_4 ?_;refine i_x b ?_;refine l_1 b ?_;refine a_z ?_;refine r_m 3 ?_;refine a_z ?_;refine⟨i+1,ω,f,?_⟩;simp only[Dy.eq_1];refine s_x [] (λhs=>?_) (λhs=>?_) ?_
 ·repeat' (first|exact aL|refine az rfl ?_ ?_|exact aW|(refine Cv.loE hs ?_ (ak _);first|rfl|(simp[i64,u64,u32,bln,a];done)|(simp[i64,u64,u32,bln,a]<;> omega)))
 ·repeat' (first|exact aB|refine h_c ?_ ?_|exact bG|(refine aJ hs ?_ (dY _);first|(simp[pO,oZ,kf,a];done)|(simp[iE,i64,ofV,a];done))|refine aA ?_|exact av|refine am ?_ ?_|exact aW|(refine Cv.loE hs ?_ (ak _);first|(simp[i64,u64,u32,bln,a];done)|(simp[i64,u64,u32,bln,a]<;> omega)))
 ·repeat' (first|exact ShrL.nil|refine ShrL.cons rfl rfl rfl rfl (by first|rfl|(simp;done)|(simp[a]<;> omega)) ?_)
 have g:i=l.length:=by simp at h;omega
 refine ax ⟨i,g,?_⟩;exact s_e [];rintro i rfl;rw[Dy.eq_1,List.take_length];refine r_z 2 ?_;refine ai (aS rfl rfl (ak _))
def IG(s:Int):Int×Ln->AState
 |(n,l)=>⟨[(0,i64 n),(2,.lptr 1 0 0),(3,i64 s),(4,.arr (iE l))],[(1,some ⟨45,2,[[i64 0,.emp]]⟩)],2,25⟩
theorem η{p:Prop}(h:p:=by first|exact cZ _|exact cY _|exact cD _|exact c5 _|exact cU _|assumption|rfl|simp):p:=h
theorem jE(n:Int)(h: -9223372036854775808<=n/\n<=9223372036854775807):FS 134 [i64 n] (.agg (zZ n)):=by
 obtain⟨s,hs⟩:∃s:Int,s=if n< 0 then -1 else 1:=⟨_,rfl⟩
 have j:n≠0->s=sgZ n:=by
  intro u;rw[hs];unfold sgZ;rw[if_neg u]
 refine f_c Tryz.func134 ?_;refine r_z 1 ?_;refine r_z 1 ?_;refine bD (λ_:Unit=>⟨[(0,i64 n),(2,.lptr 1 0 0),(3,i64 s)],[(1,some ⟨45,2,[[i64 0,.emp]]⟩)],2,25⟩) (λ_=>True) ?_ ?_;refine r_z 2 ?_;refine ar rfl (λb=>?_) (λb=>?_);have p:n< 0:=by simpa using b
 rw[hs,if_pos p];refine r_m 1 ?_;refine a_z ?_;refine⟨(),trivial,?_⟩;exact s_e [];have p:¬n< 0:=by simpa using b
 rw[hs,if_neg p];refine aj ⟨(),trivial,?_⟩;exact s_e [];rintro _ _;refine r_z 1 ?_;refine bD (λl:Ln=>IG s (0,l)) (λl=>l.length<=10/\(∀d∈l,d< UB)/\hv l=n.natAbs) ?_ ?_;refine ah (ay (IG s) (λx=>x.1.natAbs) (λx=>(-9223372036854775808<=x.1/\x.1<=9223372036854775807)/\(∀d∈x.2,d< UB)/\n.natAbs=hv x.2+UB^ x.2.length* x.1.natAbs/\x.2.length<=5) (n,[]) ⟨h,ψ,by simp[wL],ψ⟩ ?_ ?_);simp only[IG.eq_1];exact s_e [(1,2)];rintro⟨m,l⟩ ⟨B,c,a,o⟩;simp only at B c a o;rw[IG.eq_1];refine ac (r_z 2 ?_);refine ar rfl (λh=>?_) (λh=>?_)
 ·have f:m≠0:=by simpa using h
  have A:l.length<=4:=by
   refine Nat.le_of_not_lt λy=>?_;have F:UB^ 5<=UB^ l.length:=Nat.pow_le_pow_right δ y;have C:UB^ l.length* 1<=UB^ l.length* m.natAbs:=Nat.mul_le_mul_left _ ω;have D:UB^ 5=37778931862957161709568:=δ
   omega
  obtain⟨d,i⟩:∃d,d=m.natAbs % 32768:=⟨_,rfl⟩;have k:d< 32768:=ω
  have E:(m.tmod 32768).natAbs=d:=by rw[Int.natAbs_tmod,i];rfl
  have w:(m.tdiv 32768).natAbs=m.natAbs/ 32768:=by rw[Int.natAbs_tdiv];rfl
  have t:m.natAbs/ 32768< m.natAbs:=Nat.div_lt_self ω δ;have r:=Nat.div_add_mod m.natAbs 32768;refine aj (ah (s_r 3 ?_));refine a_1 ?_;refine o_0 (.bin rfl rfl (Ix δ)) ?_;refine a_z ?_;refine bD (λ_:Unit=>⟨[(0,i64 m),(2,.lptr 1 0 0),(3,i64 s),(4,.arr (iE l)),(5,i64 d)],[(1,some ⟨45,2,[[i64 0,.emp]]⟩)],2,25⟩) (λ_=>True) ?_ ?_;refine r_z 2 ?_;refine ar rfl (λb=>?_) (λb=>?_);have g:m.tmod 32768< 0:=by simpa using b
  refine r_m 3 ?_;refine a_z ?_;have e: -m.tmod 32768=d:=ω
  refine⟨(),trivial,?_⟩;have:=(congrArg (λz=>AV.v (.int .i64 z)) e);exact s_f [];have g:¬m.tmod 32768< 0:=by simpa using b
  have e:m.tmod 32768=d:=ω
  refine aj ⟨(),trivial,?_⟩;have:=(congrArg (λz=>AV.v (.int .i64 z)) e);exact s_f [];rintro _ _;refine s_r 5 ?_;refine a_3 ?_;refine o_2 (.append_l rfl rfl rfl te_43.h rfl rfl rfl rfl rfl d_o η ξ rfl (.arr (mW _)) TZ.h rfl TB.h d_o μ) ?_;refine a_z ?_;refine r_m 3 ?_;refine a_1 ?_;refine o_0 (.bin rfl rfl (ud δ ω)) ?_;refine a_z ?_;refine⟨(m.tdiv 32768,d::l),by simp only;omega,⟨by simp only;omega,?_,?_,χ⟩,?_⟩;intro e q;rcases List.mem_cons.1 q with rfl|q
  exact k;exact c e q;simp only[rD,List.length_cons];rw[a,w,Nat.pow_succ,Nat.mul_assoc,Nat.add_assoc,<-Nat.mul_add];congr 2;show m.natAbs=d+32768* (m.natAbs/ 32768);omega;simp only[IG.eq_1];have e:[[i64 d]]++iE l=iE (d::l):=rfl;refine s_x [] (λhs=>?_) (λhs=>?_)
  ·repeat' (first|exact aL|refine az rfl ?_ ?_|exact Cv.sealE hs rfl (aG rfl) e χ (dY _)|exact aW)
  ·repeat' (first|exact aB|refine h_c ?_ ?_|exact bG|refine aA ?_|exact av|refine am ?_ ?_|exact Cv.sealE hs rfl (aG rfl) e χ (dY _)|exact aW)
 have f:m=0:=by simpa using h
 subst f;refine ax ⟨l,⟨ω,c,by simpa using a.symm⟩,?_⟩;simp only[IG.eq_1];exact s_e [];rintro l ⟨A,c,a⟩;rw[IG.eq_1];refine r_c 4 (ly s l n ω c a j) ?_;refine a_z ?_;exact ai (c_e (cV _))
end Go.Proofs.YtjmkjicckobojaaGreatDoor
