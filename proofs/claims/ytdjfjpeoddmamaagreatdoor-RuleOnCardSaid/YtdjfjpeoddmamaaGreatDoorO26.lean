/- Part O26 of the proof. -/
import Derived.Test.YtdjfjpeoddmamaaGreatDoorO25
set_option linter.all false
namespace Go.Proofs.YtdjfjpeoddmamaaGreatDoor
open Go.Abs
set_option maxRecDepth 20000
def pad9(n:Nat):List UInt8:=List.replicate (9- (Lib.decDigits n).length) 48++Lib.decDigits n
def txD:List Nat→List UInt8
 |[]=>[]
 |x::xs=>Lib.decDigits x++xs.flatMap pad9
def mtx(m:Nat):List UInt8:=if m=0 then [48] else txD (digs MB m).reverse
theorem oF_{l:List Nat}(h:l≠[])(x:Nat):txD (l++[x])=txD l++pad9 x:=by
 cases l with
 |nil=>exact absurd rfl h
 |cons a l=>simp[txD]
theorem nN_:∀k n,n< 10^ (k+1)→Lib.nDigits n≤k+1
 |0,n,h=>by rw[Lib.nDigits_small (by simpa using h)];omega
 |k+1,n,h=>by
  by_cases h1:n< 10;rw[Lib.nDigits_small h1];omega;rw[Lib.nDigits_big h1];have:n/ 10< 10^ (k+1):=by rw[Nat.pow_succ] at h;omega
  have:=nN_ k (n/ 10) this;omega
theorem oo_{n:Nat}(h:n< 1000000000):(Lib.decDigits n).length≤9:=by
 rw[Lib.decDigits_length];exact nN_ 8 n h
theorem dec_ne(n:Nat):Lib.decDigits n≠[]:=by
 intro e;have h1:=Lib.decDigits_length n;rw[e] at h1;have:=Lib.nDigits_pos n;simp at h1;omega
theorem pad9_len{n:Nat}(h:n< 1000000000):(pad9 n).length=9:=by
 have:=oo_ h;simp[pad9];omega
theorem txD_ne{l:List Nat}(h:l≠[]):txD l≠[]:=by
 cases l with
 |nil=>exact absurd rfl h
 |cons a l=>intro e;exact dec_ne a (List.append_eq_nil_iff.1 e).1
theorem qW_{l:List Nat}(h:∀x∈l,x< 1000000000):(txD l).length≤9* l.length:=by
 cases l with
 |nil=>simp[txD]
 |cons a l=>
  have h1:=oo_ (h a (List.mem_cons_self ..))
  have h2:∀l:List Nat,(∀x∈l,x< 1000000000)→(l.flatMap pad9).length=9* l.length:=by
   intro l
   induction l with
   |nil=>intro _;rfl
   |cons b l ih=>
    intro h;rw[List.flatMap_cons,List.length_append,pad9_len (h b (List.mem_cons_self ..)),ih fun x hx=>h x (List.mem_cons_of_mem _ hx),List.length_cons];omega
  have h3:=h2 l fun x hx=>h x (List.mem_cons_of_mem _ hx);simp only[txD,List.length_append,List.length_cons];omega
def tf0(L:List Nat):Unit→AState
 |u=>⟨[(1,.lptr 1 0 0),(3,.lptr 2 0 0),(11,.clos 284 [] [.aptr [[.arr (dE L)]] 0 0])],[(1,some ⟨31,1,[[.arr (dE L)]]⟩),(2,some ⟨223,2,[bldC 2 0 none]⟩)],4,31⟩
def tf1(L:List Nat):List UInt8→AState
 |q=>⟨[(1,.lptr 1 0 0),(3,.lptr 2 0 0),(11,.clos 284 [] [.aptr [[.arr (dE L)]] 0 0])],[(1,some ⟨31,1,[[.arr (dE L)]]⟩),(2,some ⟨223,2,[bldC 2 3 (some q)]⟩),(3,some ⟨5,1,bE q⟩)],4,31⟩
def tfS(L:List Nat):Nat→AState
 |0=>tf0 L ()
 |k+1=>tf1 L (txD (L.reverse.take (k+1)))
theorem mN_(m:Nat)(h:bl m≤68719476736):FS 168 [.agg [mag m]] (tx (mtx m)):=by
 have hz:=ff_ m;refine f_c Tryz.func168 ?_;refine r_z 2 ?_;refine aa_ (r_c 2 (hz) ?_);refine ai_ ?_;refine aj_ rfl (fun h1=>?_) (fun h1=>?_);have h2:m=0:=by simpa using h1
 subst h2;refine r_z 1 ?_;exact af_ (t_e (ad_ _));have h2:m≠0:=by simpa using h1
 obtain⟨L,hL⟩:∃L,L=digs MB m:=⟨_,rfl⟩;have hm:mag m= .arr (dE L):=by unfold mag;rw[hL]
 have hLl:L.length≤68719476736:=by
  rw[hL];exact Nat.le_trans (aX_ (b:=MB) (by decide) m) h
 have hLb:∀x∈L,x< 1000000000:=by rw[hL];exact b6_ (b:=MB) (by decide) m
 have hLn:L≠[]:=by rw[hL];exact fun e=>h2 ((dc_ (b:=MB) (by decide)).1 e)
 have hn1:=List.length_pos_iff.2 hLn;rw[show mtx m=txD L.reverse by unfold mtx;rw[if_neg h2,hL]];clear hz;rw[hm];refine ae_ ?_;have hcl:Closed (.aptr [[.arr (dE L)]] 0 0):=de_ (fun e he c hc=>by simp at he;subst he;simp at hc;subst hc;exact bA_ _);have hcl2:Closed (.clos 284 [] [.aptr [[.arr (dE L)]] 0 0]):=ba_ ah_ (ab_ hcl ah_);have hdl:(dE L).length=L.length:=he_ L;refine r_z 1 ?_;refine aa_ (r_c 3 (fg_ L) ?_);refine ai_ ?_;refine aw_ (fun _:Unit=>tf1 L (txD L.reverse)) (fun _=>True) ?_ ?_;refine ac_ (AWp.rangeFunc (α:=Nat) (γ:=Empty) L.length (tfS L) (fun k=>k) (fun k=>k≤L.length) (fun e=>nomatch e) (fun _ e=>nomatch e) 0 rfl (fb_ L (by omega)) rfl rfl ?_ (fun k=>by cases k <;> exact⟨rfl,rfl⟩) (fun e=>nomatch e) (Nat.zero_le _) rfl (fun _ h=>h) ?_ ?_ ?_ ?_ (fun _ e=>nomatch e));intro k xs hT;unfold backT at hT;split at hT;cases hT;rfl;cases hT;show SEntT _ (tf0 L ());rw[tf0.eq_1];exact s_t [(1,1),(2,3)];exact ab_ hcl ah_
 ·intro l k xs hk hT
  unfold backT at hT;split at hT;rotate_left;cases hT;rename_i hlt;cases hT;obtain⟨x,hx⟩:∃x,x=L.getD (L.length- 1- k) 0:=⟨_,rfl⟩
  have hgx:L[L.length- 1- k]?=some x:=by
   rw[hx,List.getD_eq_getElem?_getD,List.getElem?_eq_getElem (by omega)];rfl
  have hxb:x< 1000000000:=hLb x (List.mem_of_getElem? hgx)
  have htk:L.reverse.take (k+1)=L.reverse.take k++[x]:=by
   rw[List.take_add_one,List.getElem?_reverse (by omega),hgx];rfl
  have hit:=fs_ItoaA x (by omega);have hdl9:=oo_ hxb;rw[←hx];cases k with
  |zero=>
   show AWp _ _ _ _ ⟨setPs (tf0 L ()).fr _ _++cj_ (tf0 L ()).fr,_,_,_⟩;show AWp _ _ _ _ ⟨[(13,u32 x),(12,i64 ((L.length- 1- 0:Nat):Int)),(1,.lptr 1 0 0),(3,.lptr 2 0 0),(11,.clos 284 [] [.aptr [[.arr (dE L)]] 0 0]),(1001,.lptr 1 0 0),(1003,.lptr 2 0 0),(1011,.clos 284 [] [.aptr [[.arr (dE L)]] 0 0])],[(1,some ⟨31,1,[[.arr (dE L)]]⟩),(2,some ⟨223,2,[bldC 2 0 none]⟩)],4,31⟩;refine r_z 1 ?_;refine r_m 1 ?_;refine a_z ?_;refine ac_ (r_c 4 (hit) ?_);refine a_z ?_;refine aa_ (r_z 6 ?_);refine aj_ rfl (fun h3=>?_) (fun h3=>?_);exact absurd h3 (by simp;omega);refine ae_ (r_m 2 ?_);refine a_1 ?_;refine o_2 (.callB (s:=none) (j:=0) rfl rfl rfl rfl rfl rfl (fun _ h=>by cases h) (eZ_ (Lib.decDigits x) (dec_ne x) (by omega))) ?_;refine ai_ ?_;refine⟨0+1,⟨by omega,rfl⟩,?_⟩;have e:txD (L.reverse.take (0+1))=Lib.decDigits x:=by rw[htk];simp[txD]
   show SEntT _ ⟨cj_ (tf1 L (txD (L.reverse.take (0+1)))).fr,(tf1 L (txD (L.reverse.take (0+1)))).hp,_,_⟩;rw[e];show SEntT _ ⟨[(1001,.lptr 1 0 0),(1003,.lptr 2 0 0),(1011,.clos 284 [] [.aptr [[.arr (dE L)]] 0 0])],[(1,some ⟨31,1,[[.arr (dE L)]]⟩),(2,some ⟨223,2,[bldC 2 3 (some (Lib.decDigits x))]⟩),(3,some ⟨5,1,bE (Lib.decDigits x)⟩)],4,31⟩;refine SEntT.to2 [(3,100017)] rfl rfl rfl au_r (fun hs=>?_) (fun hs=>?_)
   ·repeat' (first|exact a2_|refine aH_ rfl ?_ ?_)
    all_goals (first|(exact an_ hs hcl2)|exact au_c)
   ·repeat' (first|exact az_|refine gm_ rfl rfl rfl rfl ?_ ?_)
    all_goals (first|exact au_e|(refine al_ ?_;repeat' (first|exact ao_|refine ag_ ?_ ?_)))
    all_goals (first|(exact an_ hs hcl2)|exact au_c)
  |succ k=>
   obtain⟨q,hq⟩:∃q,q=txD (L.reverse.take (k+1)):=⟨_,rfl⟩
   have hrn:L.reverse.take (k+1)≠[]:=by
    intro e;have:=congrArg List.length e;rw[List.length_take,List.length_reverse] at this;simp only[List.length_nil] at this;omega
   have hql:q.length≤9* L.length:=by
    have h3:=qW_ (l:=L.reverse.take (k+1)) (fun y hy=>hLb y (List.mem_reverse.1 (List.mem_of_mem_take hy)));have h4:(L.reverse.take (k+1)).length≤L.length:=by simp;omega
    rw[hq];omega
   show AWp _ _ _ _ ⟨setPs (tf1 L (txD (L.reverse.take (k+1)))).fr _ _++cj_ (tf1 L (txD (L.reverse.take (k+1)))).fr,(tf1 L (txD (L.reverse.take (k+1)))).hp,4,_⟩;rw[←hq];show AWp _ _ _ _ ⟨[(13,u32 x),(12,i64 ((L.length- 1- (k+1):Nat):Int)),(1,.lptr 1 0 0),(3,.lptr 2 0 0),(11,.clos 284 [] [.aptr [[.arr (dE L)]] 0 0]),(1001,.lptr 1 0 0),(1003,.lptr 2 0 0),(1011,.clos 284 [] [.aptr [[.arr (dE L)]] 0 0])],[(1,some ⟨31,1,[[.arr (dE L)]]⟩),(2,some ⟨223,2,[bldC 2 3 (some q)]⟩),(3,some ⟨5,1,bE q⟩)],4,31⟩;refine r_z 1 ?_;refine r_m 1 ?_;refine a_z ?_;refine ac_ (r_c 4 (hit) ?_);refine a_z ?_;refine aa_ (r_z 6 ?_);refine aj_ rfl (fun h3=>?_) (fun h3=>?_);rotate_left;exact absurd (of_decide_eq_false h3) (by omega);have e9:((9:Int)- ((⟨(Lib.decDigits x).toArray⟩:ByteArray).size:Int))=((9- (Lib.decDigits x).length:Nat):Int):=by rw[hv_];omega
   have hrep:FS 240 [tx [48],.v (.int .i64 ((9:Int)- ((⟨(Lib.decDigits x).toArray⟩:ByteArray).size:Int)))] (tx (List.replicate (9- (Lib.decDigits x).length) 48)):=by
    rw[e9];exact qx_ 48 (9- (Lib.decDigits x).length) (by omega)
   refine r_m 5 ?_;refine o_0 (.move rfl) ?_;refine o_0 (.builtinV (vs:=[_]) rfl rfl (fun _ _ _=>rfl)) ?_;refine o_0 (.bin rfl rfl (hl_ (by rw[hv_];omega))) ?_;refine c_s (hrep) ?_;refine o_3 (.callB (s:=some _) rfl rfl rfl rfl rfl rfl (fun _ h=>by cases h;exact⟨rfl,by decide⟩) (dN_ q (List.replicate (9- (Lib.decDigits x).length) 48) (by simp;omega))) ?_;refine ai_ ?_;refine r_m 2 ?_;refine a_1 ?_;refine o_3 (.callB (s:=some _) rfl rfl rfl rfl rfl rfl (fun _ h=>by cases h;exact⟨rfl,by decide⟩) (dN_ (q++List.replicate (9- (Lib.decDigits x).length) 48) (Lib.decDigits x) (by simp;omega))) ?_;refine ai_ ?_;refine⟨k+1+1,⟨by omega,rfl⟩,?_⟩
   have e:txD (L.reverse.take (k+1+1))=q++List.replicate (9- (Lib.decDigits x).length) 48++Lib.decDigits x:=by
    rw[htk,oF_ hrn,←hq,List.append_assoc];rfl
   show SEntT _ ⟨cj_ (tf1 L (txD (L.reverse.take (k+1+1)))).fr,(tf1 L (txD (L.reverse.take (k+1+1)))).hp,_,_⟩;rw[e];show SEntT _ ⟨[(1001,.lptr 1 0 0),(1003,.lptr 2 0 0),(1011,.clos 284 [] [.aptr [[.arr (dE L)]] 0 0])],[(1,some ⟨31,1,[[.arr (dE L)]]⟩),(2,some ⟨223,2,[bldC 2 3 (some (q++List.replicate (9- (Lib.decDigits x).length) 48++Lib.decDigits x))]⟩),(3,some ⟨5,1,bE (q++List.replicate (9- (Lib.decDigits x).length) 48++Lib.decDigits x)⟩)],4,31⟩;refine SEntT.to2 [(3,100022)] rfl rfl rfl au_r (fun hs=>?_) (fun hs=>?_)
   ·repeat' (first|exact a2_|refine aH_ rfl ?_ ?_)
    all_goals (first|(exact an_ hs hcl2)|exact au_c)
   ·repeat' (first|exact az_|refine gm_ rfl rfl rfl rfl ?_ ?_)
    all_goals (first|exact au_e|(refine al_ ?_;repeat' (first|exact ao_|refine ag_ ?_ ?_)))
    all_goals (first|(exact an_ hs hcl2)|exact au_c)
 ·intro k hk hT
  unfold backT at hT;split at hT;cases hT
  have hk1:k=L.length:=by
   rename_i hn;omega
  subst hk1;obtain⟨j,hj⟩:∃j,L.length=j+1:=⟨L.length- 1,by omega⟩;refine⟨(),trivial,?_⟩;show SEnt (tfS L L.length) _;rw[hj];show SEnt (tf1 L (txD (L.reverse.take (j+1)))) _;rw[←hj,List.take_of_length_le (by simp)];exact SEnt.refl _
 rintro _ _;rw[tf1.eq_1];have hne:txD L.reverse≠[]:=txD_ne (by simpa using hLn);refine s_r 2 ?_;refine o_2 (.callD rfl rfl rfl rfl rfl rfl (by decide) (by first|assumption|simp) (js_)) ?_;refine a_z ?_;exact af_ (t_e (ad_ _))
theorem sd_(m:Nat):(mtx m).length≤9* bl m+1:=by
 unfold mtx;split;simp;have h1:=qW_ (l:=(digs MB m).reverse) fun x hx=>b6_ (b:=MB) (by decide) m x (List.mem_reverse.1 hx);have h2:=aX_ (b:=MB) (by decide) m;rw[List.length_reverse] at h1;omega
def qtx(q:Rat):List UInt8:=((if q.num< 0 then [45] else [])++mtx q.num.natAbs)++(if q.den=1 then [] else 47::mtx q.den)
def quS(q:Rat):List UInt8→AState
 |l=>⟨[(1,.aptr [qC q] 0 0),(3,tx l)],[],2,24⟩
theorem s3_(q:Rat)(h:qs q≤68719476736):FS 74 [.agg (qC q)] (tx (qtx q)):=by
 have hd1:=sd_ q.num.natAbs;have hd2:=sd_ q.den;have hden:1≤q.den:=q.den_pos;have hq1:=b5_ q;have hq2:=bU_ q;refine f_c Tryz.func74 ?_;refine r_z 2 ?_;refine AWp.ent (st':=⟨[(1,.aptr [qC q] 0 0)],[],2,24⟩) ?_ ?_;exact s_e [];refine r_c 5 (mN_ q.num.natAbs (Nat.le_trans (b5_ q) h)) ?_;refine a_z ?_;refine aQ_ (quS q) (fun l=>l=(if q.num< 0 then [45] else [])++mtx q.num.natAbs) ?_ ?_;refine r_z 3 ?_;refine aj_ rfl (fun h1=>?_) (fun h1=>?_);have h2:q.num< 0:=by simpa using h1
 refine r_m 3 ?_;refine a_1 ?_;refine o_0 (.bin rfl rfl (cV_ (l:=[45]) (by simp;omega))) ?_;refine a_z ?_;refine⟨_,by rw[if_pos h2],?_⟩;rw[quS.eq_1];exact s_x [] (fun hs=>e_5) (fun hs=>e_6);have h2:¬q.num< 0:=by simpa using h1
 refine ae_ ⟨mtx q.num.natAbs,by rw[if_neg h2];rfl,?_⟩;rw[quS.eq_1];exact s_x [] (fun hs=>e_5) (fun hs=>e_6);rintro l hl;have hll:l.length≤618475290626:=by rw[hl];split <;> simp <;> omega
 rw[quS.eq_1];refine aQ_ (quS q) (fun l=>l=qtx q) ?_ ?_;refine r_c 4 (ff_ (q.den- 1)) ?_;refine a_z ?_;refine aj_ rfl (fun h1=>?_) (fun h1=>?_)
 have h2:¬q.den=1:=by
  intro e;rw[e] at h1;simp at h1
 refine r_m 7 ?_;refine c_s (cz_ q (by omega)) ?_;refine c_s (mN_ q.den (Nat.le_trans (bU_ q) h)) ?_;refine o_0 (.bin rfl rfl (cV_ (l:=[47]) (by simp;omega))) ?_;refine o_0 (.bin rfl rfl (cV_ (by simp;omega))) ?_;refine a_z ?_;refine⟨_,by unfold qtx;rw[if_neg h2,←hl],?_⟩;rw[quS.eq_1];exact s_x [] (fun hs=>e_5) (fun hs=>e_6)
 have h2:q.den=1:=by
  have h3:q.den- 1=0:=by simpa using h1
  omega
 refine ae_ ⟨l,by unfold qtx;rw[if_pos h2,←hl,List.append_nil],?_⟩;rw[quS.eq_1];exact s_x [] (fun hs=>e_5) (fun hs=>e_6);rintro l rfl;rw[quS.eq_1];refine r_z 2 ?_;exact af_ (t_e (ad_ _))
theorem pad9_pd{x:Nat}(h:x< 1000000000):pad9 x=pd 9 x:=by
 by_cases h0:x=0;subst h0;decide+kernel;rw[pd_dec 9 x (by omega) h];rfl
theorem qX_:∀(n m:Nat),m≤n→0< m→txD (digs MB m).reverse=Lib.decDigits m
 |0,m,h,h0=>by omega
 |n+1,m,h,h0=>by
  have hb:MB=1000000000:=rfl;rw[cJ_ (by decide) h0,List.reverse_cons];by_cases hm:m< MB;rw[Nat.div_eq_of_lt hm,bq_,Nat.mod_eq_of_lt hm];simp[txD];have hd:0< m/ MB:=Nat.div_pos (by omega) (by decide)
  have hne:(digs MB (m/ MB)).reverse≠[]:=fun e=>by
   have:=(dc_ (b:=MB) (by decide)).1 (List.reverse_eq_nil_iff.1 e);omega
  have hlt:m % MB< 1000000000:=Nat.mod_lt m (by decide);rw[oF_ hne,qX_ n (m/ MB) (by have:=Nat.div_lt_self h0 (by decide:1< MB);omega) hd,pad9_pd hlt,←nb_ 9 (m/ MB) (m % MB) hd hlt];congr 1;show m/ 1000000000* 1000000000+m % 1000000000=m;omega
theorem se_(m:Nat):mtx m=Lib.decDigits m:=by
 unfold mtx;split
 ·rename_i h;subst h;decide+kernel
 exact qX_ m m (Nat.le_refl _) (by omega)
def ztx(z:Int):List UInt8:=(if z< 0 then [45] else [])++Lib.decDigits z.natAbs
theorem qtx_eq(q:Rat):qtx q=ztx q.num++(if q.den=1 then [] else 47::Lib.decDigits q.den):=by
 unfold qtx ztx;rw[se_,se_]
theorem kE_(n:Nat):(Lib.decDigits n).length≤bl n+1:=by
 rw[Lib.decDigits_length];have h:n< 10^ (bl n+1):=Nat.lt_of_lt_of_le (lt_bl n) (Nat.le_trans (Nat.pow_le_pow_left (by decide:2≤10) _) (Nat.pow_le_pow_right (by decide) (by omega)));exact nN_ (bl n) n h
theorem first_text{c:UInt8}{l:List UInt8}:∀w,(Instr.index 9 (.string ⟨(c::l).toArray⟩) (.int .i64 0)).run Tryz.prog w= .ok (.int .u8 c.toNat) w:=fun w=>by
 simp[Instr.index,asIntOf,run_underlying d5_,go_sem];rfl
theorem q3_(c:UInt8)(l:List UInt8):∀w,(Instr.sliceAt 9 (.string ⟨(c::l).toArray⟩) (some (.int .i64 1)) none none).run Tryz.prog w= .ok (.string ⟨l.toArray⟩) w:=fun w=>by
 have b1:∀(i y:Nat) (c:BoundsCode),i≤y→(Instr.sliceBound (.int .i64 (i:Int)) y c).run Tryz.prog w= .ok i w:=fun i y c hi=>cx_ hi c w
 have e:(⟨(c::l).toArray⟩:ByteArray).extract 1 (⟨(c::l).toArray⟩:ByteArray).size=⟨l.toArray⟩:=by
  apply ByteArray.ext;simp[ByteArray.size]
 have hr:(Instr.slice 9 (.string ⟨(c::l).toArray⟩) (some (.int .i64 ((1:Nat):Int))) none none).run Tryz.prog w= .ok (.string ⟨l.toArray⟩) w:=by
  have hs:1≤(⟨(c::l).toArray⟩:ByteArray).size:=by simp[ByteArray.size]
  have b2:=b1 1 (⟨(c::l).toArray⟩:ByteArray).size .sliceB hs;rw[show((1:Nat):Int)=1 from rfl] at b2;simp[Instr.slice,run_underlying d5_,Instr.sliceBounds,b2,Result.andThen,e]
 unfold Instr.sliceAt;rw[Sem.run_bind,run_underlying d5_];exact hr
theorem dig_text(d:Nat)(zl zh:Int)(hd:d< 10)(el:zl=(d:Int))(eh:zh=(d:Int)+1):∀w,(Instr.sliceAt 9 (.string ⟨#[48,49,50,51,52,53,54,55,56,57]⟩) (some (.int .i64 zl)) (some (.int .i64 zh)) none).run Tryz.prog w= .ok (.string ⟨[UInt8.ofNat (48+d)].toArray⟩) w:=fun w=>by
 rw[lD_ _ d (d+1) zl zh el (by omega) (by omega) (by exact Nat.le_trans (m:=10) (by omega) (by decide)) w];have key:∀d,d< 10→(ByteArray.mk #[48,49,50,51,52,53,54,55,56,57]).extract d (d+1)=⟨[UInt8.ofNat (48+d)].toArray⟩:=by decide
 rw[key d hd]
theorem zd_sm{m:Nat}(h0:0< m)(h:m< 32768):zd m=[m]:=by
 have hb:UB=32768:=rfl;unfold zd;rw[cJ_ (by decide) h0,Nat.mod_eq_of_lt (by omega),Nat.div_eq_of_lt (by omega),bq_];rfl
def ztO(z:Int)(n:Nat):Nat→AState
 |k=>⟨[(1,.aptr [zZ z] 0 0),(3,tx (pd (4* k) n)),(4,.arr (iE (zd (n/ 10^ (4* k)))))],[],2,51⟩
def ztI(z:Int)(r B:Nat)(T:List UInt8):Nat→AState
 |i=>⟨[(1,.aptr [zZ z] 0 0),(3,tx (pd i r++T)),(5,.arr (iE (zd B))),(7,i64 ((r/ 10^ i:Nat):Int)),(8,i64 i)],[],2,51⟩
def ztD(z:Int):List UInt8→AState
 |T=>⟨[(1,.aptr [zZ z] 0 0),(3,tx T)],[],2,51⟩
theorem pt_(z:Int)(h:bl z.natAbs≤68719476736):FS 203 [.agg (zZ z)] (tx (ztx z)):=by
 have hcz:Closed (.aptr [zZ z] 0 0):=aE_ (bL_ z);refine f_c Tryz.func203 ?_;refine r_z 2 ?_;refine AWp.ent (st':=⟨[(1,.aptr [zZ z] 0 0)],[],2,51⟩) ?_ ?_;exact s_e [];by_cases h0:z=0;subst h0;refine aa_ (s_r 3 ?_);refine a_2 ?_;refine o_0 (.bin rfl rfl (vT aU_ ((by decide)))) ?_;refine ai_ ?_;refine aj_ rfl (fun h1=>?_) (fun h1=>?_);refine r_z 1 ?_;exact af_ (aJ_ rfl (by rw[show ztx 0=[48] by unfold ztx;rw[Int.natAbs_zero,Lib.decDigits_one (by decide)];rfl];rfl) (ad_ _));cases h1;refine aa_ (s_r 3 ?_);refine a_2 ?_;refine o_0 (.bin rfl rfl (vF aU_ ((by unfold sgZ;rw[if_neg h0];split <;> rfl)))) ?_;refine ai_ ?_;refine cF (ae_ (r_z 1 ?_));refine r_z 3 ?_;obtain⟨n,hn⟩:∃n,n=z.natAbs:=⟨_,rfl⟩;have hn0:0< n:=by omega
 rw[←hn] at h;have hzd:=by_ n;have hdl:=aX_ (b:=UB) (by decide) n;refine aQ_ (ztD z) (fun T=> ∃k,T=pd k n∧n< 10^ k∧k≤4* (bl n+1)) ?_ ?_;refine ac_ (ap_ (ztO z n) (fun k=>n/ 10^ (4* k)) (fun k=>k=0∨0< n/ 10^ (4* (k- 1))) 0 (.inl rfl) ?_ ?_);simp only[ztO.eq_1];have e:n/ 10^ (4* 0)=n:=by simp
 rw[e,hn];exact s_f [];rintro k hk;simp only[ztO.eq_1];obtain⟨A,hA⟩:∃A,A=n/ 10^ (4* k):=⟨_,rfl⟩
 have hk4:4* k≤bl n+4:=by
  rcases hk with hk|hk
  omega
  have h1:10^ (4* (k- 1))≤n:=by
   apply Nat.le_of_not_lt;intro hlt;rw[Nat.div_eq_of_lt hlt] at hk;omega
  have h2:=lt_bl n;have h3:2^ (4* (k- 1))≤10^ (4* (k- 1)):=Nat.pow_le_pow_left (by decide) _;have h4:4* (k- 1)< bl n:=(Nat.pow_lt_pow_iff_right (a:=2) (by decide)).1 (Nat.lt_of_le_of_lt (Nat.le_trans h3 h1) h2);omega
 rw[←hA];have hAb:bl A≤68719476736:=Nat.le_trans (b0_ (by rw[hA];exact Nat.div_le_self _ _)) h;by_cases hA0:A=0;have hz:(zd A).length=0:=by rw[hA0,hq_];rfl
 refine aa_ (q_z 3 ?_);refine cF (am_ ⟨pd (4* k) n,⟨4* k,rfl,?_,by omega⟩,?_⟩);rw[hA0] at hA;exact(Nat.div_eq_zero_iff.1 hA.symm).resolve_left (by have:=Nat.one_le_pow (4* k) 10 (by decide);omega);simp only[ztD.eq_1];exact s_f [];have hz:0< (zd A).length:=List.length_pos_iff.2 fun e=>hA0 (zd_eq_nil.1 e);refine aa_ (q_z 3 ?_);refine cT (ae_ (ac_ ?_));have hov:=iq_ A 10000 (by decide) (by omega) (by decide);rw[zd_sm (by decide) (by decide:10000< 32768)] at hov;obtain⟨r,hr⟩:∃r,r=A % 10000:=⟨_,rfl⟩;obtain⟨B,hB⟩:∃B,B=A/ 10000:=⟨_,rfl⟩;rw[←hr,←hB] at hov;have hr4:r< 10000:=by rw[hr];exact Nat.mod_lt _ (by decide)
 have hzr:(zd r).length≤4:=by
  rw[by_];exact cC_ (b:=UB) (by decide) (k:=4) (Nat.lt_trans hr4 (by decide))
 have hsh:=lg_ (zd r) hzr (zd_lt r);rw[hv_zd] at hsh;obtain⟨T,hT⟩:∃T,T=pd (4* k) n:=⟨_,rfl⟩;have hTl:T.length=4* k:=by rw[hT,mm_]
 rw[←hT];refine s_r 8 ?_;refine a_2 ?_;refine o_1 (.callS1 rfl rfl rfl (.keep (.shut rfl d_n (.nil))) rfl (hov)) ?_;refine a_z ?_;refine r_c 3 (hsh) ?_;refine a_z ?_;refine aa_ (r_z 1 ?_);refine aw_ (ztI z r B T) (fun i=>i=4) ?_ ?_;refine ac_ (ap_ (ztI z r B T) (fun i=>4- i) (fun i=>i≤4) 0 (by decide) ?_ ?_);simp only[ztI.eq_1];have e:((r/ 10^ 0:Nat):Int)=r:=by simp
 rw[e];exact s_f [];rintro i hi;simp only[ztI.eq_1];by_cases h4:i< 4;refine aa_ (q_z 2 ?_);refine cT (ae_ (aa_ (ac_ ?_)));obtain⟨c,hc⟩:∃c,c=r/ 10^ i:=⟨_,rfl⟩;rw[←hc];have hcr:c≤r:=by rw[hc];exact Nat.div_le_self _ _
 have hsz:[UInt8.ofNat (48+c % 10)].length+(pd i r++T).length≤9223372036854775807:=by
  rw[List.length_append,mm_,hTl];simp only[List.length_cons,List.length_nil];omega
 refine s_r 9 ?_;refine a_5 ?_;refine o_0 (.slice_v rfl rfl rfl rfl (dig_text (c % 10) _ _ (by omega) (by omega) (by omega))) ?_;refine a_1 ?_;refine o_0 (.bin rfl rfl (cV_ (l:=[UInt8.ofNat (48+c % 10)]) (m:=pd i r++T) hsz)) ?_;refine a_z ?_;refine r_m 3 ?_;refine a_z ?_;refine r_m 3 ?_;refine a_z ?_;refine⟨i+1,by omega,h4,?_⟩;have e1:pd (i+1) r++T=[UInt8.ofNat (48+c % 10)]++(pd i r++T):=by rw[pd_front,←hc];rfl
 have e2:((r/ 10^ (i+1):Nat):Int)=(c:Int) / 10:=by rw[Nat.pow_succ,←Nat.div_div_eq_div_mul,←hc];omega
 show SEnt _ ⟨[(1,.aptr [zZ z] 0 0),(3,tx (pd (i+1) r++T)),(5,.arr (iE (zd B))),(7,i64 ((r/ 10^ (i+1):Nat):Int)),(8,i64 ((i+1:Nat):Int))],[],2,_⟩;rw[e1,e2];exact s_f [];refine aa_ (q_z 2 ?_);refine cF (am_ ⟨i,by omega,?_⟩);simp only[ztI.eq_1];exact s_f [];rintro _ rfl;rw[ztI.eq_1];refine r_m 2 ?_;refine a_z ?_;have e0:n/ 10^ (4* (k+1))=B:=by rw[hB,hA,Nat.div_div_eq_div_mul,show 4* (k+1)=4* k+4 by omega,Nat.pow_add]
 refine⟨k+1,?_,.inr ?_,?_⟩;show n/ 10^ (4* (k+1))< A;rw[e0];omega;show 0< n/ 10^ (4* (k+1- 1));rw[Nat.add_sub_cancel,←hA];omega
 have e1:pd (4* (k+1)) n=pd 4 r++T:=by
  rw[show 4* (k+1)=4+4* k by omega,pd_add,←hA,←hT,hr];congr 1;exact(pd_mod 4 A).symm
 show SEnt _ ⟨[(1,.aptr [zZ z] 0 0),(3,tx (pd (4* (k+1)) n)),(4,.arr (iE (zd (n/ 10^ (4* (k+1))))))],[],2,_⟩;rw[e0,e1];exact s_f [];rintro T ⟨K,hT,hK,hKl⟩;have hdz:dropZ T=Lib.decDigits n:=by rw[hT];exact pJ_ K n hn0 hK
 clear hT hK hKl;simp only[ztD.eq_1];refine aQ_ (ztD z) (fun T=>T=Lib.decDigits n) ?_ ?_;refine ac_ (ap_ (ztD z) (fun T=>T.length) (fun T=>dropZ T=Lib.decDigits n) T hdz ?_ ?_);simp only[ztD.eq_1];exact s_f [];intro T hT;simp only[ztD.eq_1];cases T with
 |nil=>exact absurd hT.symm (h5_ n)
 |cons c T=>
  rw[dropZ] at hT;by_cases hc:c=48;rw[if_pos hc] at hT;refine aa_ (s_r 3 ?_);refine a_1 ?_;refine o_0 (.index_s rfl rfl first_text) ?_;refine o_0 (.bin rfl rfl (vT aU_ ((by rw[hc];rfl)))) ?_;refine ai_ ?_;refine cT (ae_ (ac_ (r_m 3 ?_)));refine a_1 ?_;refine o_0 (.slice_v rfl rfl rfl rfl (q3_ c T)) ?_;refine a_z ?_;refine⟨T,by simp,hT,?_⟩;show SEnt _ ⟨[(1,.aptr [zZ z] 0 0),(3,tx T)],[],2,_⟩;exact s_f [];rw[if_neg hc] at hT
  have hne:(((c.toNat:Nat):Int)==48)=false:=by
   rw[beq_eq_false_iff_ne];intro e
   exact hc (UInt8.toNat_inj.1 (by have:c.toNat=48:=by omega
                                   exact this))
  refine aa_ (s_r 3 ?_);refine a_1 ?_;refine o_0 (.index_s rfl rfl first_text) ?_;refine o_0 (.bin rfl rfl (vF aU_ (hne))) ?_;refine ai_ ?_;refine cF (am_ ⟨c::T,hT,?_⟩);show SEnt _ ⟨[(1,.aptr [zZ z] 0 0),(3,tx (c::T))],[],2,_⟩;exact s_f []
 rintro T rfl;simp only[ztD.eq_1];have hdl2:=kE_ n;by_cases hneg:z< 0;refine aa_ (s_r 3 ?_);refine a_2 ?_;refine o_0 (.bin rfl rfl (vT c9_ ((by unfold sgZ;rw[if_neg h0,if_pos hneg];rfl)))) ?_;refine ai_ ?_;refine cT (s_r 3 ?_);refine a_1 ?_;refine o_0 (.bin rfl rfl (cV_ (l:=[45]) (by simp;omega))) ?_;refine a_z ?_;exact af_ (aJ_ rfl (by unfold ztx;rw[if_pos hneg,hn]) (ad_ _));refine aa_ (s_r 3 ?_);refine a_2 ?_;refine o_0 (.bin rfl rfl (vF c9_ ((by unfold sgZ;rw[if_neg h0,if_neg hneg];rfl)))) ?_;refine ai_ ?_;refine cF (ae_ (r_z 2 ?_));exact af_ (aJ_ rfl (by unfold ztx;rw[if_neg hneg,hn];rfl) (ad_ _))
abbrev NRow:=Int×Int×Nat
def nV(r:NRow):Rat:=numV r.1 r.2.1 r.2.2
def nR(l:List NRow):List (List AV):=l.map fun r=>nuC r.1 r.2.1 r.2.2
def nL(l:List NRow):List Rat:=l.map nV
abbrev rL(l:List Rat):List (List AV):=rE (l.map rq)
def okR(l:List NRow):Prop:=∀r∈l,i64r r.1∧i64r r.2.1∧r.2.2≤255
theorem b2_(l:List NRow):∀e∈nR l,∀c∈e,Closed c:=by
 intro e he c hc;obtain⟨r,_,rfl⟩:=List.mem_map.1 he;exact cE_ _ _ _ c hc
theorem fS_(l:List Rat):∀e∈rL l,∀c∈e,Closed c:=a6_ _
theorem gx_{N D:Int}{p:Nat}(hN:i64r N)(hD:i64r D):qs (numV N D p)≤256:=by
 obtain⟨d,hd⟩:∃d,d=dNum D:=⟨_,rfl⟩;have hd0:d≠0:=by rw[hd];unfold dNum;split <;> omega
 have hdr:i64r d:=by
  rw[hd];unfold dNum i64r;unfold i64r at hD;split <;> omega
 unfold i64r at hN hdr;obtain⟨q,hq⟩:∃q,q=Rat.divInt N d:=⟨_,rfl⟩;have hnv:numV N D p=powQ q (p % 4):=by unfold numV;rw[←hd,←hq]
 have hqs:qs q≤64:=by
  have hb:∀z:Int,-9223372036854775808≤z∧z≤9223372036854775808→bl z.natAbs≤64:=fun z h=>bl_le (k:=64) (by omega);rw[hq];by_cases hn:d< 0;rw[gf_ N d hn];exact c6_ (by omega) (hb (-N) (by omega)) (hb d (by omega));rw[ge_ N d (by omega)];exact c6_ (by omega) (hb N (by omega)) (hb d (by omega))
 have h1:=nJ_ q (p % 4);have h2:(p % 4+1) * qs q≤4* 64:=Nat.mul_le_mul (by omega) hqs;rw[hnv];omega
theorem nL_qs{l:List NRow}(h:okR l):∀q∈nL l,qs q≤256:=by
 intro q hq;obtain⟨r,hr,rfl⟩:=List.mem_map.1 hq;exact gx_ (h r hr).1 (h r hr).2.1
def liS(l:List NRow):List Rat→Nat→AState
 |[],i=>⟨[(0,.arr (nR l)),(4,.emp),(5,.emp),(6,i64 i)],[],1,33⟩
 |q::Q,i=>⟨[(0,.arr (nR l)),(4,.lsl 1 0 (Q.length+1) none 3),(5,.lsl 2 0 (Q.length+1) none 4),(6,i64 i)],[(1,some ⟨35,3,pE (q::Q)⟩),(2,some ⟨42,4,rL (q::Q)⟩)],3,33⟩
theorem i5_(l:List NRow)(i:Nat):liS l [] i=⟨[(0,.arr (nR l)),(4,.emp),(5,.emp),(6,i64 i)],[],1,33⟩:=rfl
theorem ga_(l:List NRow)(q:Rat)(Q:List Rat)(i:Nat):liS l (q::Q) i=⟨[(0,.arr (nR l)),(4,.lsl 1 0 (Q.length+1) none 3),(5,.lsl 2 0 (Q.length+1) none 4),(6,i64 i)],[(1,some ⟨35,3,pE (q::Q)⟩),(2,some ⟨42,4,rL (q::Q)⟩)],3,33⟩:=rfl
theorem s7_(l:List NRow)(hl:l.length≤1099511627776)(hb:okR l):FS 101 [.arr (nR l)] (.tup [.arr (pE (nL l)),.arr (rL (nL l))]):=by
 have hcr:∀q:Rat,∀e∈[rC (rq q)],∀c∈e,Closed c:=fun q=>fS_ [q];refine f_n Tryz.func101 ?_ ?_;exact ab_ (aL_ (b2_ l)) ah_;refine r_z 2 ?_;refine r_z 1 ?_;refine r_z 1 ?_;refine aa_ (r_z 1 ?_);refine aw_ (fun _:Unit=>liS l (nL l) l.length) (fun _=>True) ?_ ?_;refine ac_ (ap_ (fun i:Nat=>liS l (nL (l.take i)) i) (fun i=>l.length- i) (fun i=>i≤l.length) 0 (Nat.zero_le _) ?_ ?_);show SEnt _ (liS l [] 0);rw[i5_];have:=(aL_ (b2_ l));exact s_f [];rintro i hi;have hlen:(nR l).length=l.length:=by simp[nR]
 by_cases hlt:i< l.length
 ·obtain⟨n,hn⟩:∃n,l[i]?=some n:=⟨_,List.getElem?_eq_getElem hlt⟩
  have hgt:(nR l)[((i:Nat):Int).toNat]?=some (nuC n.1 n.2.1 n.2.2):=by
   show(nR l)[i]?=_;simp[nR,hn]
  obtain⟨hn1,hn2,hn3⟩:=hb n (List.mem_of_getElem? hn);have hbo:=g9_ n.1 n.2.1 n.2.2 hn1 hn2 hn3;obtain⟨v,hv⟩:∃v,v=numV n.1 n.2.1 n.2.2:=⟨_,rfl⟩;rw[←hv] at hbo;have htk:nL (l.take (i+1))=nL (l.take i)++[v]:=by rw[cv_ hn];simp[nL,nV,hv]
  have hQl:(nL (l.take i)).length=i:=by simp[nL];omega
  cases hQ:nL (l.take i) with
  |nil=>
   simp only[i5_];refine aa_ (r_z 4 ?_);refine aj_ rfl (fun h=>?_) (fun h=>?_);rotate_left;exact absurd h (by simp[nR];omega);refine ae_ (aa_ (ac_ (s_r 12 ?_)));refine a_2 ?_;refine i_x hgt ?_;refine l_x hgt ?_;refine c_s (hbo) ?_;refine a_z ?_;refine r_d hmix 10 ?_;refine a_8 ?_;refine a_2 ?_;refine ai_ (n_k ?_);refine r_m 3 ?_;refine a_z ?_;refine⟨i+1,by omega,hlt,?_⟩;simp only[htk,hQ,List.nil_append,ga_];refine s_x [(1,4),(2,5)] (fun hs=>e_38) (fun hs=>?_)
   ·repeat' (first|exact az_|refine h_c ?_ ?_|exact bi_ hs (aK_ [v])|exact bi_ hs (fS_ [v])|exact au_e|refine al_ ?_|exact ao_|refine ag_ ?_ ?_|exact an_ hs (aL_ (b2_ l))|exact au_c)
  |cons q Q=>
   rw[hQ] at hQl;simp at hQl;simp only[ga_];refine aa_ (r_z 4 ?_);refine aj_ rfl (fun h=>?_) (fun h=>?_);rotate_left;exact absurd h (by simp[nR];omega);refine ae_ (aa_ (ac_ (s_r 12 ?_)));refine a_2 ?_;refine i_x hgt ?_;refine l_x hgt ?_;refine c_s (hbo) ?_;refine a_z ?_;refine r_d hmix 10 ?_;refine a_8 ?_;refine a_2 ?_;refine ai_ (n_k ?_);refine r_m 3 ?_;refine a_z ?_;refine⟨i+1,by omega,hlt,?_⟩;simp only[htk,hQ,List.cons_append,ga_];have e:pE (q::Q)++[qC v]=pE (q::(Q++[v])):=by simp[pE]
   have e2:rL (q::Q)++[rC (rq v)]=rL (q::(Q++[v])):=by simp[rE]
   refine s_x [(1,4),(2,5)] (fun hs=>e_38) (fun hs=>?_) e_4
   ·repeat' (first|exact az_|refine h_c ?_ ?_|exact aC_ hs e (aK_ _)|exact aC_ hs e2 (fS_ _)|exact au_e|refine al_ ?_|exact ao_|refine ag_ ?_ ?_|exact an_ hs (aL_ (b2_ l))|exact au_c)
 have hge:i=l.length:=by omega
 subst hge;simp only[List.take_length];cases hQ:nL l with
 |nil=>
  simp only[i5_];refine aa_ (r_z 4 ?_);refine aj_ rfl (fun h=>?_) (fun h=>?_);exact absurd h (by simp[nR]);refine am_ ⟨(),trivial,?_⟩;simp only[hQ,i5_];have:=(aL_ (b2_ l));exact s_f []
 |cons q Q=>
  simp only[ga_];refine aa_ (r_z 4 ?_);refine aj_ rfl (fun h=>?_) (fun h=>?_);exact absurd h (by simp[nR]);refine am_ ⟨(),trivial,?_⟩;simp only[hQ,ga_];have:=(aL_ (b2_ l));exact s_f []
 rintro _ _;cases hQ:nL l with
 |nil=>
  simp only[i5_];refine r_z 4 ?_;refine af_ (Fin.many ⟨_,_,rfl,rfl,⟨_,_,rfl,rfl,rfl⟩⟩ (nle rfl) ?_);exact ag_ (Cv.emp _) (ag_ (Cv.emp _) ao_)
 |cons q Q=>
  simp only[ga_];refine r_z 4 ?_;refine af_ (Fin.many ⟨_,_,rfl,rfl,⟨_,_,rfl,rfl,rfl⟩⟩ (nle rfl) ?_);exact ag_ (Cv.sealE ar_ rfl (fun _ _ h=>by cases h) rfl (by simp) (aK_ _)) (ag_ (Cv.sealE ar_ rfl (fun _ _ h=>by cases h) rfl (by simp) (fS_ _)) ao_)
theorem py_(l:List NRow)(hl:l.length≤1099511627776)(hb:okR l):FS 22 [.arr (nR l)] (.tup [.arr (pE (nL l)),.arr (rL (nL l))]):=by
 refine f_n Tryz.func22 ?_ ?_;exact ab_ (aL_ (b2_ l)) ah_;refine r_z 2 ?_;refine r_c 7 (s7_ l hl hb) ?_;refine a_z ?_;refine r_z 4 ?_;refine af_ (Fin.many ⟨_,_,rfl,rfl,⟨_,_,rfl,rfl,rfl⟩⟩ (nle rfl) ?_);exact ag_ (an_ ar_ (aL_ (aK_ _))) (ag_ (an_ ar_ (aL_ (fS_ _))) ao_)
theorem dec_one{n:Nat}(h:Lib.decDigits n=[49]):n=1:=by
 by_cases h1:n< 10;rw[Lib.decDigits_one h1] at h;have:∀n,n< 10→[UInt8.ofNat (48+n)]=[49]→n=1:=by decide
 exact this n h1 h;have h2:=Lib.decDigits_length n;rw[h,Lib.nDigits_big h1] at h2;have:=Lib.nDigits_pos (n/ 10);simp at h2;omega
theorem qO_(n:Nat):ztx (n:Int)=Lib.decDigits n:=by
 unfold ztx;rw[if_neg (by omega),Int.natAbs_natCast];rfl
theorem qP_(z:Int):(ztx z).length≤bl z.natAbs+2:=by
 have:=kE_ z.natAbs;unfold ztx;split <;> simp <;> omega
theorem fs_rText(x:RQ)(hx:rok x)(h:qs x.1≤68719476736):FS 116 [.agg (rC x)] (tx (qtx x.1)):=by
 have hn:=Nat.le_trans (b5_ x.1) h;have hd:=Nat.le_trans (bU_ x.1) h;have zn:=pt_ x.1.num hn;have zd:=pt_ (x.1.den:Int) (by rw[Int.natAbs_natCast];exact hd);have ln:=qP_ x.1.num;have ld:=qP_ (x.1.den:Int);rw[Int.natAbs_natCast] at ld;have hcx:Closed (.aptr [rC x] 0 0):=aE_ (bb_ x);refine f_c Tryz.func116 ?_;refine r_z 2 ?_;by_cases h1:x.1.den=1;have e1:decide (ztx (x.1.den:Int)=[49])=true:=decide_eq_true (by rw[h1];decide+kernel);refine aa_ (r_c 4 (c0_ x hx) ?_);refine c_s (zd) ?_;refine o_0 (.bin rfl rfl (vT dZ_ e1)) ?_;refine ai_ ?_;refine cT (r_c 4 (zn) ?_);refine a_z ?_;exact af_ (aJ_ rfl (by rw[qtx_eq,if_pos h1,List.append_nil]) (ad_ _));have e1:decide (ztx (x.1.den:Int)=[49])=false:=decide_eq_false fun e=>h1 (dec_one (by rw[←qO_];exact e));refine aa_ (r_c 4 (c0_ x hx) ?_);refine c_s (zd) ?_;refine o_0 (.bin rfl rfl (vF dZ_ e1)) ?_;refine ai_ ?_;refine cF (ae_ (aa_ (r_d hmix 9 ?_)));refine c_s (zn) ?_;refine o_0 (.bin rfl rfl (cV_ (m:=[47]) (by simp;omega))) ?_;refine c_s (c0_ x hx) ?_;refine c_s (zd) ?_;refine o_0 (.bin rfl rfl (cV_ (by simp;omega))) ?_;refine a_1 ?_;refine ai_ (n_k ?_);exact af_ (aJ_ rfl (by rw[qtx_eq,if_neg h1,qO_,List.append_assoc];rfl) (ad_ _))
theorem pv_(q:Rat)(x:RQ)(hx:rok x)(h:x.1=q)(hs:qs q≤68719476736):FS 33 [.agg (qC q),.agg (rC x)] (bln true):=by
 subst h;have e1:decide (qtx x.1=qtx x.1)=true:=decide_eq_true rfl;refine f_c Tryz.func33 ?_;refine r_z 3 ?_;refine aa_ (r_d hmix 6 ?_);refine c_s (s3_ x.1 hs) ?_;refine c_s (fs_rText x hx hs) ?_;refine o_0 (.bin rfl rfl (vT dZ_ e1)) ?_;refine a_1 ?_;refine ai_ (n_k ?_);exact af_ (t_e (ad_ _))
def vR(x:List RQ):List Rat:=x.map (·.1)
def okX(x:List RQ):Prop:=∀y∈x,rok y
def trimR(x:List RQ):List RQ:=x.take (trimQ (vR x)).length
theorem e1_(x:List RQ):vR (trimR x)=trimQ (vR x):=by
 unfold trimR;rw[vR,List.map_take];exact(gL_ (vR x)).symm
theorem gR_{x:List RQ}(h:okX x):okX (trimR x):=fun y hy=>h y (List.mem_of_mem_take hy)
@[simp] theorem a3_ (x:List RQ):(vR x).length=x.length:=by simp[vR]
def lkS(l:List Rat)(x:List RQ):Nat→AState
 |i=>⟨[(0,.arr (pE l)),(1,.arr (rE x)),(5,i64 i)],[],1,27⟩
theorem fs_Alike(l:List Rat)(x:List RQ)(hx:okX x)(h:vR x=l)(hs:bdL l 68719476736)(hl:l.length≤1099511627776):FS 113 [.arr (pE l),.arr (rE x)] (bln true):=by
 have hxl:x.length=l.length:=by rw[←h];simp
 refine f_c Tryz.func113 ?_;refine r_z 1 ?_;refine aa_ (s_r 5 ?_);refine a_4 ?_;refine o_0 (.bin rfl rfl (vF bd_ ((by rw[hxl];simp)))) ?_;refine ai_ ?_;refine cF (ae_ (aa_ (r_z 1 ?_)));refine aw_ (fun _:Unit=>⟨[(0,.arr (pE l)),(1,.arr (rE x))],[],1,27⟩) (fun _=>True) ?_ ?_;refine ac_ (ap_ (lkS l x) (fun i=>l.length- i) (fun i=>i≤l.length) 0 (Nat.zero_le _) ?_ ?_);simp only[lkS.eq_1];exact s_e [];rintro i hi;simp only[lkS.eq_1];by_cases hlt:i< l.length;obtain⟨y,hy⟩:∃y,x[i]?=some y:=⟨_,List.getElem?_eq_getElem (by omega)⟩;have hq:l[i]?=some y.1:=by rw[←h,vR,List.getElem?_map,hy];rfl
 have g1:(pE l)[((i:Nat):Int).toNat]?=some (qC y.1):=bK_ hq;have g2:(rE x)[((i:Nat):Int).toNat]?=some (rC y):=eb_ hy;refine aa_ (q_z 4 ?_);refine cT (ae_ (aa_ (ac_ (aa_ (r_d hmix 10 ?_)))));refine a_2 ?_;refine i_x g1 ?_;refine l_x g1 ?_;refine a_2 ?_;refine i_x g2 ?_;refine l_x g2 ?_;refine c_s (pv_ y.1 y (hx y (List.mem_of_getElem? hy)) rfl (hs _ (List.mem_of_getElem? hq))) ?_;refine a_1 ?_;refine ai_ (n_k ?_);refine cF (ae_ (r_m 3 ?_));refine a_z ?_;refine⟨i+1,by omega,hlt,?_⟩;exact s_e [];refine aa_ (q_z 4 ?_);refine cF (am_ ⟨(),trivial,?_⟩);exact s_e [];rintro _ _;refine r_z 1 ?_;exact af_ (t_e (ad_ _))
def rtmS(x:List RQ):Nat→AState
 |n=>⟨[(0,.arr (rE x)),(3,i64 n)],[],1,23⟩
theorem cI_(x:List RQ)(hl:x.length≤1099511627776):FS 115 [.arr (rE x)] (.arr (rE (trimR x))):=by
 obtain⟨v,hv⟩:∃v,v=vR x:=⟨_,rfl⟩;have hvl:v.length=x.length:=by rw[hv];simp
 refine f_c Tryz.func115 ?_;refine r_z 1 ?_;refine r_z 3 ?_;refine aQ_ (rtmS x) (fun n=>n≤v.length∧trimQ v=v.take n) ?_ ?_;refine ac_ (ap_ (rtmS x) (fun n=>n) (fun n=>n≤v.length∧trimQ v=trimQ (v.take n)) v.length ⟨Nat.le_refl _,by rw[List.take_length]⟩ ?_ ?_);simp only[rtmS.eq_1];rw[hvl];exact s_e [];rintro n ⟨hn,ht⟩;simp only[rtmS.eq_1];cases n with
 |zero=>
  refine aa_ (s_r 11 ?_);refine a_1 ?_;refine o_0 (.bin rfl rfl (vF fo_ ((by simp)))) ?_;refine a_z ?_;refine cF (am_ ⟨0,⟨Nat.zero_le _,?_⟩,?_⟩);rw[ht];rfl;simp only[rtmS.eq_1];exact s_e []
 |succ n=>
  obtain⟨y,hy⟩:∃y,x[n]?=some y:=⟨_,List.getElem?_eq_getElem (by omega)⟩;have hq:v[n]?=some y.1:=by rw[hv,vR,List.getElem?_map,hy];rfl
  have g2:(rE x)[(((n+1:Nat):Int)- 1).toNat]?=some (rC y):=by
   rw[show(((n+1:Nat):Int)- 1).toNat=n by omega];exact eb_ hy
  have hs:trimQ (v.take (n+1))=if y.1=0 then trimQ (v.take n) else v.take (n+1):=by
   rw[cv_ hq,f0_]
  by_cases h0:y.1=0;refine aa_ (s_r 11 ?_);refine d_6 ?_
  first|refine aA_ rfl rfl rfl (.index_l rfl rfl (by omega) (by omega) te_66.h) rfl rfl ?_|refine aA_ rfl rfl rfl (.index_a rfl rfl (by omega) g2 rfl te_66.h) rfl rfl ?_
  first|refine aA_ rfl rfl rfl (.load_l rfl rfl g2 TG.h TS.h (nle rfl)) rfl rfl ?_|refine aA_ rfl rfl rfl (.load_a rfl g2 TG.h TS.h (nle rfl)) rfl rfl ?_
  refine c_s (g3_ y) ?_;refine aA_ rfl rfl rfl (.bin rfl rfl (vT aU_ ((by rw[h0];decide)))) rfl rfl ?_;refine a_z ?_;refine cT (ae_ (ac_ (r_m 3 ?_)));refine a_z ?_;refine⟨n,Nat.lt_succ_self n,⟨by omega,?_⟩,?_⟩;rw[ht,hs,if_pos h0];exact s_e []
  have hz:(sgZ y.1.num==(0:Int))=false:=by
   rw[beq_eq_false_iff_ne];exact fun e=>h0 (sgZ_num_eq.1 e)
  refine aa_ (s_r 11 ?_);refine d_6 ?_
  first|refine aA_ rfl rfl rfl (.index_l rfl rfl (by omega) (by omega) te_66.h) rfl rfl ?_|refine aA_ rfl rfl rfl (.index_a rfl rfl (by omega) g2 rfl te_66.h) rfl rfl ?_
  first|refine aA_ rfl rfl rfl (.load_l rfl rfl g2 TG.h TS.h (nle rfl)) rfl rfl ?_|refine aA_ rfl rfl rfl (.load_a rfl g2 TG.h TS.h (nle rfl)) rfl rfl ?_
  refine c_s (g3_ y) ?_;refine aA_ rfl rfl rfl (.bin rfl rfl (vF aU_ (hz))) rfl rfl ?_;refine a_z ?_;refine cF (am_ ⟨n+1,⟨hn,?_⟩,?_⟩);rw[ht,hs,if_neg h0];simp only[rtmS.eq_1];exact s_e []
 rintro n ⟨hn,ht⟩;simp only[rtmS.eq_1];have hnl:(trimQ v).length=n:=by rw[ht];simp;omega
 have htr:trimR x=x.take n:=by unfold trimR;rw[←hv,hnl]
 cases n with
 |zero=>
  refine s_r 5 ?_;refine a_2 ?_;refine o_0 (.sa_h rfl rfl (h:=0) rfl (by simp) te_66.h (e7_ _)) ?_;refine o_0 (.append0 rfl rfl rfl te_66.h rfl rfl rfl (.arr (es:=[]) (by simp))) ?_;refine a_z ?_;refine af_ ?_;rw[htr];exact Fin.tmpN rfl
 |succ n=>
  obtain⟨X,hX⟩:∃X,X=x.take (n+1):=⟨_,rfl⟩;have hXl:X.length=n+1:=by rw[hX];simp;omega
  have hXn:rE X≠[]:=fun e=>by have:=congrArg List.length e;simp[hXl] at this
  have e4:(rE x).take (n+1)=rE X:=by rw[rE_take,hX]
  have hXn':(rE x).take (n+1)≠[]:=by rw[e4];exact hXn
  refine s_r 5 ?_;refine a_2 ?_;refine o_0 (.sa_h rfl rfl (h:=n+1) rfl (by simp;omega) te_66.h (e7_ _)) ?_;refine o_1 (.append_e rfl rfl rfl te_66.h rfl rfl rfl (.arr (by rw[e4];exact e7_ _)) (by first|assumption|(simp;done)) TZ.h rfl TB.h d_o (by first|(simp[maxLen];done)|(simp[maxLen];omega))) ?_;refine a_z ?_;refine af_ ?_;rw[htr,←hX,←e4];exact Fin.tmpS rfl rfl rfl rfl (by rw[e4];exact a6_ _)
theorem pu_(l:List Rat)(x:List RQ)(hx:okX x)(h:trimQ (vR x)=l)(hs:bdL l 68719476736)(hl:x.length≤1099511627776):FS 72 [.arr (pE l),.arr (rE x)] (bln true):=by
 have hll:l.length≤x.length:=by rw[←h];have:=aB_ (vR x);simpa using this
 refine f_c Tryz.func72 ?_;refine r_z 1 ?_;refine r_c 5 (cI_ x hl) ?_;refine c_s (fs_Alike l (trimR x) (gR_ hx) ((e1_ x).trans h) hs (by omega)) ?_;refine a_z ?_;exact af_ (t_e (ad_ _))
def oS(t n:Nat)(fr:Fr):List RQ→AState
 |[]=>⟨(t,.emp)::fr,[],1,n⟩
 |y::Y=>⟨(t,.lsl 1 0 (Y.length+1) none 4)::fr,[(1,some ⟨42,4,rE (y::Y)⟩)],2,n⟩
theorem ev_(t n:Nat)(fr:Fr):oS t n fr []=⟨(t,.emp)::fr,[],1,n⟩:=rfl
theorem bQ_(t n:Nat)(fr:Fr)(y:RQ)(Y:List RQ):oS t n fr (y::Y)=⟨(t,.lsl 1 0 (Y.length+1) none 4)::fr,[(1,some ⟨42,4,rE (y::Y)⟩)],2,n⟩:=rfl
def rP(v:List Rat):List RQ:=v.map rq
theorem bS_(v:List Rat):okX (rP v):=fun y hy=>by obtain⟨q,_,rfl⟩:=List.mem_map.1 hy;exact aR_ q
theorem vR_rP(v:List Rat):vR (rP v)=v:=by
 unfold vR rP;rw[List.map_map];exact List.map_id' v
@[simp] theorem aP_ (v:List Rat):(rP v).length=v.length:=by simp[rP]
theorem e2_(v:List Rat):trimR (rP v)=rP (trimQ v):=by
 unfold trimR;rw[vR_rP,rP,←List.map_take,←gL_];rfl
theorem fu_{x:List RQ}{i:Nat}(h:i< x.length):∃y,x[i]?=some y∧y.1=coP (vR x) i:=by
 refine⟨_,List.getElem?_eq_getElem h,?_⟩;unfold coP vR;rw[List.getD_eq_getElem?_getD,List.getElem?_map,List.getElem?_eq_getElem h];rfl
theorem vR_bd{x:List RQ}{s:Nat}(h:bdL (vR x) s){y:RQ}{i:Nat}(hy:x[i]?=some y):qs y.1≤s:=h _ (List.mem_map.2 ⟨y,List.mem_of_getElem? hy,rfl⟩)
theorem take_succ'{V:List Rat}{j:Nat}(h:j< V.length):V.take (j+1)=V.take j++[coP V j]:=cv_ (a9_ h)
theorem kt_(x:List RQ)(s:Nat)(hx:okX x)(hs:bdL (vR x) s)(hlim:s+64≤1099511627776)(hl:x.length≤1000000):FS 265 [.arr (rE x)] (.arr (rE (rP (at_ (vR x))))):=by
 obtain⟨V,hV⟩:∃V,V=tabP ((vR x).length- 1) (fun i=>coP (vR x) (i+1) * ((i+1:Nat):Int)):=⟨_,rfl⟩;refine f_c Tryz.func265 ?_;refine r_z 1 ?_;refine r_z 1 ?_;refine aa_ (r_z 1 ?_);have hVl:V.length=x.length- 1:=by rw[hV];simp
 refine aw_ (fun _:Unit=>oS 3 23 [(0,.arr (rE x))] (rP V)) (fun _=>True) ?_ ?_;refine ac_ (ap_ (fun j:Nat=>oS 3 23 [(4,i64 ((j+1:Nat):Int)),(0,.arr (rE x))] (rP (V.take j))) (fun j=>V.length- j) (fun j=>j≤V.length) 0 (Nat.zero_le _) ?_ ?_);show SEnt _ (oS _ _ _ []);rw[ev_];exact s_e [];rintro j hj;by_cases hlt:j< V.length;obtain⟨y,hy,hyv⟩:=fu_ (x:=x) (i:=j+1) (by omega);have hyb:=vR_bd hs hy;have hyo:=hx y (List.mem_of_getElem? hy);have hgt:(rE x)[((j+1:Nat):Int).toNat]?=some (rC y):=eb_ hy;obtain⟨c,hc⟩:∃c,c=y.1* ((j+1:Nat):Int):=⟨_,rfl⟩;have hco:coP V j=c:=by rw[hV,dO_,if_pos (by simp;omega),←hyv,hc]
 have hm:=dv_ y (rq (((j+1:Nat):Int):Rat)) hyo (aR_ _) (by have:=f2_ (j+1) (by omega);show qs y.1+qs (((j+1:Nat):Int):Rat)≤_;omega);rw[show y.1* (rq (((j+1:Nat):Int):Rat)).1=c by rw[hc];rfl] at hm;have htk:=take_succ' hlt;rw[hco] at htk;have hrp:rP (V.take (j+1))=rP (V.take j)++[rq c]:=by rw[htk];simp[rP]
 have hQl:(rP (V.take j)).length=j:=by simp;omega
 cases hQ:rP (V.take j) with
 |nil=>
  rw[hQ,List.nil_append] at hrp;simp only[ev_];refine aa_ (q_z 4 ?_);refine cT (ae_ (aa_ (ac_ (r_d hmix 11 ?_))));refine a_3 ?_;refine i_x hgt ?_;refine l_x hgt ?_;refine c_s (bF_ ((j+1:Nat):Int) (by omega)) ?_;refine c_s (hm) ?_;refine a_3 ?_;refine ai_ (n_k ?_);refine r_m 3 ?_;refine a_z ?_;refine⟨j+1,by omega,hlt,?_⟩;rw[hrp,bQ_];exact s_f [(1,3)]
 |cons q Q=>
  rw[hQ] at hQl;rw[hQ,List.cons_append] at hrp;simp at hQl;simp only[bQ_];refine aa_ (q_z 4 ?_);refine cT (ae_ (aa_ (ac_ (r_d hmix 11 ?_))));refine a_3 ?_;refine i_x hgt ?_;refine l_x hgt ?_;refine c_s (bF_ ((j+1:Nat):Int) (by omega)) ?_;refine c_s (hm) ?_;refine a_3 ?_;refine ai_ (n_k ?_);refine r_m 3 ?_;refine a_z ?_;refine⟨j+1,by omega,hlt,?_⟩;rw[hrp,bQ_];have e:rE (q::Q)++[rC (rq c)]=rE (q::(Q++[rq c])):=by simp[rE]
  exact s_x [(1,3)] (fun hs=>au_f) (fun hs=>e_9) e_4
 have hge:j=V.length:=by omega
 subst hge;rw[List.take_length];cases hQ:rP V with
 |nil=>
  simp only[ev_];refine aa_ (q_z 4 ?_);refine cF (am_ ⟨(),trivial,?_⟩);exact s_e []
 |cons q Q=>
  simp only[bQ_];refine aa_ (q_z 4 ?_);refine cF (am_ ⟨(),trivial,?_⟩);exact s_f [(1,3)]
 rintro _ _;have htr:=cI_ (rP V) (by simp;omega);rw[e2_] at htr;cases hQ:rP V with
 |nil=>
  rw[hQ] at htr;simp only[ev_];refine r_c 3 (htr) ?_;refine a_z ?_;refine af_ (aJ_ rfl ?_ ?_);rw[hV];rfl;exact aS_ _
 |cons q Q=>
  rw[hQ] at htr;simp only[bQ_];refine s_r 3 ?_;refine a_1 ?_;refine o_1 (.callS1 rfl rfl rfl (.shut rfl d_n (.nil)) rfl ((FSpec.argE htr (by rw[List.drop_zero];exact List.take_of_length_le (by simp))))) ?_;refine a_z ?_;refine af_ (aJ_ rfl ?_ ?_);rw[hV];rfl;exact aS_ _
theorem eP_(x:List RQ)(k:RQ)(s:Nat)(hx:okX x)(hk:rok k)(hs:bdL (vR x) s)(hlim:s+qs k.1≤1099511627776)(hl:x.length≤1000000):FS 131 [.arr (rE x),.agg (rC k)] (.arr (rE (rP (av_ (vR x) k.1)))):=by
 obtain⟨V,hV⟩:∃V,V=tabP (vR x).length (fun i=>coP (vR x) i* k.1):=⟨_,rfl⟩;refine f_c Tryz.func131 ?_;have hkc:Closed (.aptr [rC k] 0 0):=aE_ (bb_ k);refine r_z 2 ?_;refine AWp.ent (st':=⟨[(3,.aptr [rC k] 0 0),(0,.arr (rE x))],[],1,24⟩) ?_ ?_;have:=bb_ k;exact s_f [];refine r_z 1 ?_;refine aa_ (r_z 1 ?_);have hVl:V.length=x.length:=by rw[hV];simp
 refine aw_ (fun _:Unit=>oS 5 24 [(3,.aptr [rC k] 0 0),(0,.arr (rE x))] (rP V)) (fun _=>True) ?_ ?_;refine ac_ (ap_ (fun j:Nat=>oS 5 24 [(6,i64 ((j:Nat):Int)),(3,.aptr [rC k] 0 0),(0,.arr (rE x))] (rP (V.take j))) (fun j=>V.length- j) (fun j=>j≤V.length) 0 (Nat.zero_le _) ?_ ?_);show SEnt _ (oS _ _ _ []);rw[ev_];exact s_e [];rintro j hj;by_cases hlt:j< V.length;obtain⟨y,hy,hyv⟩:=fu_ (x:=x) (i:=j) (by omega);have hyb:=vR_bd hs hy;have hyo:=hx y (List.mem_of_getElem? hy);have hgt:(rE x)[((j:Nat):Int).toNat]?=some (rC y):=eb_ hy;obtain⟨c,hc⟩:∃c,c=y.1* k.1:=⟨_,rfl⟩;have hco:coP V j=c:=by rw[hV,dO_,if_pos (by simp;omega),←hyv,hc]
 have hm:=dv_ y k hyo hk (by omega);rw[←hc] at hm;have htk:=take_succ' hlt;rw[hco] at htk;have hrp:rP (V.take (j+1))=rP (V.take j)++[rq c]:=by rw[htk];simp[rP]
 have hQl:(rP (V.take j)).length=j:=by simp;omega
 cases hQ:rP (V.take j) with
 |nil=>
  rw[hQ,List.nil_append] at hrp;simp only[ev_];refine aa_ (q_z 4 ?_);refine cT (ae_ (aa_ (ac_ (r_d hmix 10 ?_))));refine a_3 ?_;refine i_x hgt ?_;refine l_x hgt ?_;refine c_s (hm) ?_;refine a_3 ?_;refine ai_ (n_k ?_);refine r_m 3 ?_;refine a_z ?_;refine⟨j+1,by omega,hlt,?_⟩;rw[hrp,bQ_];exact s_f [(1,5)]
 |cons q Q=>
  rw[hQ] at hQl;rw[hQ,List.cons_append] at hrp;simp at hQl;simp only[bQ_];refine aa_ (q_z 4 ?_);refine cT (ae_ (aa_ (ac_ (r_d hmix 10 ?_))));refine a_3 ?_;refine i_x hgt ?_;refine l_x hgt ?_;refine c_s (hm) ?_;refine a_3 ?_;refine ai_ (n_k ?_);refine r_m 3 ?_;refine a_z ?_;refine⟨j+1,by omega,hlt,?_⟩;rw[hrp,bQ_];have e:rE (q::Q)++[rC (rq c)]=rE (q::(Q++[rq c])):=by simp[rE]
  exact s_x [(1,5)] (fun hs=>au_f) (fun hs=>e_9) e_4
 have hge:j=V.length:=by omega
 subst hge;rw[List.take_length];cases hQ:rP V with
 |nil=>
  simp only[ev_];refine aa_ (q_z 4 ?_);refine cF (am_ ⟨(),trivial,?_⟩);exact s_e []
 |cons q Q=>
  simp only[bQ_];refine aa_ (q_z 4 ?_);refine cF (am_ ⟨(),trivial,?_⟩);exact s_f [(1,5)]
 rintro _ _;have htr:=cI_ (rP V) (by simp;omega);rw[e2_] at htr;cases hQ:rP V with
 |nil=>
  rw[hQ] at htr;simp only[ev_];refine r_c 3 (htr) ?_;refine a_z ?_;refine af_ (aJ_ rfl ?_ ?_);rw[hV];rfl;exact aS_ _
 |cons q Q=>
  rw[hQ] at htr;simp only[bQ_];refine s_r 3 ?_;refine a_1 ?_;refine o_1 (.callS1 rfl rfl rfl (.shut rfl d_n (.nil)) rfl ((FSpec.argE htr (by rw[List.drop_zero];exact List.take_of_length_le (by simp))))) ?_;refine a_z ?_;refine af_ (aJ_ rfl ?_ ?_);rw[hV];rfl;exact aS_ _
end Go.Proofs.YtdjfjpeoddmamaaGreatDoor
