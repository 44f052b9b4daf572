/- Part V27 of the proof. -/
import Derived.Test.YtkbjakfniejkcaaGreatDoorV26
import Derived.Shelf.Strconv.Itoa3
import Derived.Shelf.Strings.Repeat
set_option linter.all false
namespace Go.Proofs.YtkbjakfniejkcaaGreatDoor
open Go.Abs
set_option maxRecDepth 20000
def te0(m:Nat):Unit->AState
 |u=>⟨[(1,.lptr 1 0 0),(3,.lptr 2 0 0),(11,.clos 183 [] [.aptr [[.arr (dE [m])]] 0 0])],[(1,some ⟨32,1,[[.arr (dE [m])]]⟩),(2,some ⟨159,2,[eK 2 0 none]⟩)],4,31⟩
def te1(m:Nat):Unit->AState
 |u=>⟨[(1,.lptr 1 0 0),(3,.lptr 2 0 0),(11,.clos 183 [] [.aptr [[.arr (dE [m])]] 0 0])],[(1,some ⟨32,1,[[.arr (dE [m])]]⟩),(2,some ⟨159,2,[eK 2 3 (some (jL m))]⟩),(3,some ⟨5,1,bE (jL m)⟩)],4,31⟩
def teS(m:Nat):Nat->AState
 |0=>te0 m ()
 |_+1=>te1 m ()
theorem G5{m:Nat}(h0:m≠0)(h:m< 100):aw MB m=[m]:=by
 have hb:MB=1000000000:=rfl;rw[fo (by decide) (by omega),Nat.mod_eq_of_lt (by omega),Nat.div_eq_of_lt (by omega),cL]
theorem zY(m:Nat):jL m≠[]:=by unfold jL;split <;> simp
theorem lM(m:Nat):(jL m).length<=2:=by unfold jL;split <;> simp
theorem Bo(m:Nat)(h:m< 100):FS 85 [.agg [mag m]] (tx (jL m)):=by
 have u:=nX m;refine f_c Tryz.func85 ?_;refine r_z 2 ?_;refine ae (r_c 2 (u) ?_);refine aq ?_;refine au rfl (fun n=>?_) (fun n=>?_);have f:m=0:=by simpa using n
 subst f;refine r_z 1 ?_;exact ai (t_e (ag _));have f:m≠0:=by simpa using n
 have x:mag m= .arr (dE [m]):=by unfold mag;rw[G5 f h]
 rw[x];refine am ?_;have v:([m]:Ln).length=1:=rfl;have d:Closed (.aptr [[.arr (dE [m])]] 0 0):=kR (fun e p c q=>by simp at p;subst p;simp at q;subst q;exact da _);have b:Closed (.clos 183 [] [.aptr [[.arr (dE [m])]] 0 0]):=aR af (ac d af);refine r_z 1 ?_;refine ae (r_c 3 (pc [m]) ?_);refine aq ?_;refine aF (fun _:Unit=>te1 m ()) (fun _=>True) ?_ ?_;refine aj (AWp.rangeFunc (α:=Nat) (γ:=Empty) 1 (teS m) (fun k=>k) (fun k=>k<=1) (fun e=>nomatch e) (fun _ e=>nomatch e) 0 rfl (o9 [m] (by simp)) rfl rfl ?_ (fun k=>by cases k <;> exact⟨rfl,rfl⟩) (fun e=>nomatch e) (Nat.zero_le _) rfl (fun _ h=>h) ?_ ?_ ?_ ?_ (fun _ e=>nomatch e));intro k xs a;unfold pf at a;split at a;cases a;rfl;cases a;show SEntT _ (te0 m ());rw[te0.eq_1];exact s_t [(1,1),(2,3)];exact ac d af
 ·intro l k xs t a
  unfold pf at a;split at a;rotate_left;cases a;rename_i hlt;have i:k=0:=by simpa using hlt
  subst i;cases a;show AWp _ _ _ _ ⟨jY (te0 m ()).fr _ _++fe (te0 m ()).fr,_,_,_⟩;show AWp _ _ _ _ ⟨[(13,u32 m),(12,i64 0),(1,.lptr 1 0 0),(3,.lptr 2 0 0),(11,.clos 183 [] [.aptr [[.arr (dE [m])]] 0 0]),(1001,.lptr 1 0 0),(1003,.lptr 2 0 0),(1011,.clos 183 [] [.aptr [[.arr (dE [m])]] 0 0])],[(1,some ⟨32,1,[[.arr (dE [m])]]⟩),(2,some ⟨159,2,[eK 2 0 none]⟩)],4,31⟩;refine r_z 1 ?_;refine r_m 1 ?_;refine a_z ?_;refine aj (r_c 4 (Fx m h) ?_);refine a_z ?_;refine ae (r_z 6 ?_);refine au rfl (fun o=>?_) (fun o=>?_);exact absurd o (by simp);refine am (r_m 2 ?_);refine a_1 ?_;refine o_2 (.callB (s:=none) (j:=0) rfl rfl rfl rfl rfl rfl (fun _ h=>by cases h) (lQ (jL m) (zY m) (by have:=lM m;omega))) ?_;refine aq ?_;refine⟨0+1,⟨by omega,rfl⟩,?_⟩;show SEntT _ ⟨[(1001,.lptr 1 0 0),(1003,.lptr 2 0 0),(1011,.clos 183 [] [.aptr [[.arr (dE [m])]] 0 0])],[(1,some ⟨32,1,[[.arr (dE [m])]]⟩),(2,some ⟨159,2,[eK 2 3 (some (jL m))]⟩),(3,some ⟨5,1,bE (jL m)⟩)],4,31⟩;refine SEntT.to2 [(3,100017)] rfl rfl rfl Af (fun hs=>?_) (fun hs=>?_)
  ·repeat' (first|exact aP|refine ay rfl ?_ ?_)
   all_goals (first|(exact an hs b)|exact aX)
  ·repeat' (first|exact aE|refine lZ rfl rfl rfl rfl ?_ ?_)
   all_goals (first|exact bZ|(refine aD ?_;repeat' (first|exact av|refine ah ?_ ?_)))
   all_goals (first|(exact an hs b)|exact aX)
 ·intro k t a
  unfold pf at a;split at a;cases a
  have g:k=1:=by
   rename_i w;simp at w;omega
  subst g;exact⟨(),trivial,SEnt.refl _⟩
 rintro _ _;rw[te1.eq_1];have r:=zY m;refine s_r 2 ?_;refine o_2 (.callD rfl rfl rfl rfl rfl rfl (by decide) (by first|assumption|simp) (xP)) ?_;refine a_z ?_;exact ai (t_e (ag _))
section
variable {P:Go.Program}{T:Nat}{x y:Operand}
theorem lS{l m:List UInt8}(h:l.length+m.length<=9223372036854775807):∀w,(do eqGuard .add T x y (.string ⟨l.toArray⟩) (.string ⟨m.toArray⟩);binOp .add T (.string ⟨l.toArray⟩) (.string ⟨m.toArray⟩):Sem Value).run P w= .ok (.string ⟨(l++m).toArray⟩) w:=fun w=>by
 have a:IntKind.i64.max=9223372036854775807:=by decide
 have e:(⟨l.toArray⟩:ByteArray)++⟨m.toArray⟩=⟨(l++m).toArray⟩:=by
  apply ByteArray.ext;simp
 have b:¬((((⟨l.toArray⟩:ByteArray).size+(⟨m.toArray⟩:ByteArray).size:Nat):Int)> IntKind.i64.max):=by
  rw[tA,tA,a];omega
 simp only[eqGuard,binOp,Op.stringOp,b,if_false,e,Sem.run_bind,Sem.run_pure,Result.andThen_ok];rfl
theorem od{l m:List UInt8}:∀w,(do eqGuard .eql T x y (.string ⟨l.toArray⟩) (.string ⟨m.toArray⟩);binOp .eql T (.string ⟨l.toArray⟩) (.string ⟨m.toArray⟩):Sem Value).run P w= .ok (.bool (decide (l=m))) w:=fun w=>by
 rw[Cc];congr 2
 have e:∀l:List UInt8,(⟨l.toArray⟩:ByteArray).toList=l:=by
  intro l;have:=ByteArray.toList_eq (bs:=⟨l.toArray⟩);simpa using this
 rw[e,e];rw[Bool.eq_iff_iff];simp
end
def na(q:Rat):List UInt8:=((if q.num< 0 then [45] else [])++jL q.num.natAbs)++(if q.den=1 then [] else 47::jL q.den)
def okT(q:Rat):Prop:=q.num.natAbs< 100/\q.den< 100
instance (q:Rat):Decidable (okT q):=inferInstanceAs (Decidable (_/\_))
theorem okT_qs{q:Rat}(h:okT q):qs q<=1099511627776:=by
 obtain⟨a,b⟩:=h;have e1:=gM (n:=q.num.natAbs) (k:=7) (by omega);have e2:=gM (n:=q.den) (k:=7) (by omega);unfold qs;omega
theorem textQ_len{q:Rat}:(na q).length<=6/\1<=(na q).length:=by
 have a:=lM q.num.natAbs;have b:=lM q.den;have c:=List.length_pos_iff.2 (zY q.num.natAbs);unfold na;split <;> split <;> simp <;> omega
def qtS(q:Rat):List UInt8->AState
 |l=>⟨[(1,.aptr [qC q] 0 0),(3,tx l)],[],2,24⟩
theorem vC(q:Rat)(h:okT q):FS 30 [.agg (qC q)] (tx (na q)):=by
 have g:=lM q.num.natAbs;have f:=lM q.den;have d:1<=q.den:=q.den_pos;refine f_c Tryz.func30 ?_;refine r_z 2 ?_;refine AWp.ent (st':=⟨[(1,.aptr [qC q] 0 0)],[],2,24⟩) ?_ ?_;exact s_e [];refine r_c 5 (Bo q.num.natAbs h.1) ?_;refine a_z ?_;refine bH (qtS q) (fun l=>l=(if q.num< 0 then [45] else [])++jL q.num.natAbs) ?_ ?_;refine r_z 3 ?_;refine au rfl (fun a=>?_) (fun a=>?_);have b:q.num< 0:=by simpa using a
 refine r_m 3 ?_;refine a_1 ?_;refine o_0 (.bin rfl rfl (lS (l:=[45]) (by simp;omega))) ?_;refine a_z ?_;refine⟨_,by rw[if_pos b],?_⟩;rw[qtS.eq_1];exact s_x [] (fun hs=>e_17) (fun hs=>e_18);have b:¬q.num< 0:=by simpa using a
 refine am ⟨jL q.num.natAbs,by rw[if_neg b];rfl,?_⟩;rw[qtS.eq_1];exact s_x [] (fun hs=>e_17) (fun hs=>e_18);rintro l c;have i:l.length<=3:=by rw[c];split <;> simp <;> omega
 rw[qtS.eq_1];refine bH (qtS q) (fun l=>l=na q) ?_ ?_;refine r_c 4 (nX (q.den- 1)) ?_;refine a_z ?_;refine au rfl (fun a=>?_) (fun a=>?_)
 have b:¬q.den=1:=by
  intro e;rw[e] at a;simp at a
 refine r_m 7 ?_;refine c_s (eV q (okT_qs h)) ?_;refine c_s (Bo q.den h.2) ?_;refine o_0 (.bin rfl rfl (lS (l:=[47]) (by simp;omega))) ?_;refine o_0 (.bin rfl rfl (lS (by simp;omega))) ?_;refine a_z ?_;refine⟨_,by unfold na;rw[if_neg b,<-c],?_⟩;rw[qtS.eq_1];exact s_x [] (fun hs=>e_17) (fun hs=>e_18)
 have b:q.den=1:=by
  have j:q.den- 1=0:=by simpa using a
  omega
 refine am ⟨l,by unfold na;rw[if_pos b,<-c,List.append_nil],?_⟩;rw[qtS.eq_1];exact s_x [] (fun hs=>e_17) (fun hs=>e_18);rintro l rfl;rw[qtS.eq_1];refine r_z 2 ?_;exact ai (t_e (ag _))
end Go.Proofs.YtkbjakfniejkcaaGreatDoor
namespace Go.Proofs.YtkbjakfniejkcaaGreatDoor
open Go.Shelf


end Go.Proofs.YtkbjakfniejkcaaGreatDoor
namespace Go.Proofs.YtkbjakfniejkcaaGreatDoor
open Go.Abs Go.RowKit

end Go.Proofs.YtkbjakfniejkcaaGreatDoor
namespace Go.Proofs.YtkbjakfniejkcaaGreatDoor
open Go.Abs
set_option maxRecDepth 20000


def CL:Ln->AState
 |l=>⟨[(0,.arr (iE l))],[],1,15⟩
theorem jM(l:Ln):CL l=⟨[(0,.arr (iE l))],[],1,15⟩:=rfl
theorem jk(l:Ln)(hl:l.length<=281474976710656):FS 204 [.arr (iE l)] (.arr (iE (gu l))):=by
 refine f_c Tryz.func204 ?_;refine r_z 1 ?_;refine bH CL (fun m=>m=gu l) ?_ ?_;refine aj (aC CL (fun m=>m.length) (fun m=>m.length<=281474976710656/\gu m=gu l) l ⟨hl,rfl⟩ ?_ ?_);simp only[jM];exact s_e [];rintro m ⟨e,b⟩;rw[jM];cases m with
 |nil=>
  refine ae (s_r 9 ?_);refine a_4 ?_;refine n_g rfl d_f ?_;refine n_g rfl d_f ?_;refine n_g rfl d_f ?_;refine n_g rfl d_f ?_;refine o_0 (.pickF rfl d_f rfl) ?_;refine aq ?_;refine cF ?_;refine ax ⟨[],by simpa[gu] using b,?_⟩;simp only[jM];exact s_e []
 |cons d m=>
  have a:(iE (d::m))[(0:Int).toNat]?=some [i64 d]:=rfl;refine ae (s_r 9 ?_);refine a_4 ?_;refine y_g rfl (by simp) (.move rfl) ?_
  first|refine y_g rfl (by simp) (.index_l rfl rfl (by omega) (by omega) te_77.h) ?_|refine y_g rfl (by simp) (.index_a rfl rfl (by omega) a rfl te_77.h) ?_
  first|refine y_g rfl (by simp) (.load_l1 rfl rfl a TG.h rfl) ?_|refine y_g rfl (by simp) (.load_a1 rfl a TG.h rfl) ?_
  refine y_g rfl (by simp) (.bin rfl rfl cb) ?_;refine o_0 (.pickT rfl (by simp) rfl) ?_;refine aq ?_;refine au rfl (fun h=>?_) (fun h=>?_);have c:d=0:=by simpa using h
  refine am ?_;subst c;refine aj (r_m 3 ?_);refine a_1 ?_;refine o_0 (.sa_l rfl rfl rfl (by simp) te_77.h (mr _)) ?_;refine a_z ?_;refine⟨m,by simp,⟨by simp at e;omega,by simpa[gu] using b⟩,?_⟩;simp only[jM];exact s_e [];have c:d≠0:=by simpa using h
  refine ax ⟨d::m,by rw[<-b];simp[gu,c],?_⟩;simp only[jM];exact s_e []
 rintro m rfl;rw[jM];refine r_z 2 ?_;exact ai (t_e (eX _))
theorem kM(s:Int)(l:Ln)(z:Int)(hl:l.length<=281474976710656)(hd:∀d∈l,d< UB)(hz:hv l=z.natAbs)(hs:z≠0->s=sgZ z):FS 172 [i64 s,.arr (iE l)] (.agg (zZ z)):=by
 refine f_c Tryz.func172 ?_;refine r_z 1 ?_;refine r_c 3 (jk l hl) ?_;refine a_z ?_;refine ae (r_z 3 ?_);refine au rfl (fun h=>?_) (fun h=>?_)
 have b:gu l=[]:=by
  have:(gu l).length=0:=by simpa using h
  exact List.length_eq_zero_iff.1 this
 have a:z=0:=by have:=(uA hd).1 b;omega
 subst a;refine r_z 2 ?_;refine ai (Fin.cell rfl rfl rfl TG.h TS.h (nle rfl) ?_);rw[zZ_zero];exact Cv.agg (ah (an aA (ag _)) (ah (Cv.emp _) av));have b:gu l≠[]:=fun e=>by rw[e] at h;simp at h
 have a:z≠0:=by
  intro e;subst e;exact b ((uA hd).2 hz)
 refine am (r_z 4 ?_);refine ai (dP rfl rfl rfl TG.h TS.h (nle rfl) ?_ ?_);show AV.agg [i64 s,.arr (iE (gu l))]=_;unfold zZ;rw[hs a,fT hd,hz];exact c7 _
theorem zZ_neg(z:Int):zZ (-z)=[i64 (-sgZ z),.arr (iE (zd z.natAbs))]:=by
 unfold zZ;rw[Int.natAbs_neg];congr 2;unfold sgZ;split <;> split <;>(try split)<;>(try split)<;> omega
theorem dm(z:Int):sgZ z= -1/\z< 0\/sgZ z=0/\z=0\/sgZ z=1/\0< z:=by
 unfold sgZ;split;right;left;exact⟨rfl,by assumption⟩;split;left;exact⟨rfl,by assumption⟩;right;right;exact⟨rfl,by omega⟩
theorem zf(z:Int):FS 169 [.agg (zZ z)] (.agg (zZ (-z))):=by
 have hs:=dm z;have a:=c7 (-z);rw[zZ_neg] at a⊢;refine f_c Tryz.func169 ?_;refine r_z 2 ?_;refine r_z 7 ?_;exact ai (c_e (a))
theorem vv(l:Ln)(i:Nat)(hl:l.length<=281474976710656):FS 265 [.arr (iE l),i64 i] (i64 (l.reverse[i]?.getD 0:Nat)):=by
 refine f_c Tryz.func265 ?_;refine r_z 1 ?_;refine ae (r_z 4 ?_);refine au rfl (fun h=>?_) (fun h=>?_);have b:l.length<=i:=by simpa using h
 refine r_z 1 ?_;refine ai (aW rfl ?_ (ag _));rw[List.getElem?_eq_none (by simpa using b)];rfl;have b:i< l.length:=by simp at h;omega
 refine am ?_;obtain⟨d,c⟩:∃d,l[l.length- 1- i]?=some d:=⟨_,List.getElem?_eq_getElem (by omega)⟩;have a:(iE l)[((l.length:Int)- 1- i).toNat]?=some [i64 d]:=by rw[show((l.length:Int)- 1- i).toNat=l.length- 1- i by omega];exact kY c
 refine s_r 9 ?_;refine a_6 ?_;refine i_x a ?_;refine l_1 a ?_;refine a_z ?_;refine ai (aW rfl ?_ (ag _));rw[List.getElem?_reverse b,c];rfl
theorem DH(a b:Ln):FS 266 [.arr (iE a),.arr (iE b)] (i64 (max a.length b.length:Nat)):=by
 refine f_c Tryz.func266 ?_;refine r_z 1 ?_;refine ae (r_z 5 ?_);refine au rfl (fun h=>?_) (fun h=>?_);refine r_z 3 ?_;refine ai (aW rfl ?_ (ag _));have:b.length< a.length:=by simpa using h
 simp[i64];omega;refine am (r_z 3 ?_);refine ai (aW rfl ?_ (ag _));have:¬b.length< a.length:=by simpa using h
 simp[i64];omega
def En(a:Nat)(b:Nat):Nat->AState
 |i=>⟨[(0,.arr (iE (zd a))),(1,.arr (iE (zd b))),(5,i64 i)],[],1,40⟩
theorem yj{n i d:Nat}(h:(aw UB n)[i]?=some d):(zd n)[(aw UB n).length- 1- i]?=some d:=by
 have a:i< (aw UB n).length:=(List.getElem?_eq_some_iff.1 h).1;unfold zd;rw[List.getElem?_reverse (by omega),show(aw UB n).length- 1- ((aw UB n).length- 1- i)=i by omega];exact h
theorem Bv(a b:Nat)(ha:(zd a).length<=281474976710656)(hb:(zd b).length<=281474976710656):FS 241 [.arr (iE (zd a)),.arr (iE (zd b))] (i64 (eN a b)):=by
 have t:=c5 a;have u:=c5 b;refine f_c Tryz.func241 ?_;refine r_z 1 ?_;refine ae (r_z 5 ?_);refine au rfl (fun h=>?_) (fun h=>?_);have r:(zd a).length≠(zd b).length:=by simp at h;omega
 refine ae (r_z 5 ?_);refine au rfl (fun j=>?_) (fun j=>?_);refine r_z 1 ?_;refine ai (aW rfl ?_ (ag _));have s:(zd a).length< (zd b).length:=by simpa using j
 rw[mX];rfl;have:=jP (b:=UB) (by decide) (show(aw UB a).length< (aw UB b).length by omega);omega;refine am (r_z 1 ?_);refine ai (aW rfl ?_ (ag _));have s:(zd b).length< (zd a).length:=by simp at j;omega
 rw[oW];rfl;have:=jP (b:=UB) (by decide) (show(aw UB b).length< (aw UB a).length by omega);omega;have heq:(aw UB a).length=(aw UB b).length:=by simp at h;omega
 refine am (ae (r_z 1 ?_));refine aF (En a b) (fun _=>a=b) ?_ ?_;refine aj (aC (En a b) (fun i=>(aw UB a).length- i) (fun i=>i<=(aw UB a).length/\(aw UB a).drop ((aw UB a).length- i)=(aw UB b).drop ((aw UB a).length- i)) 0 ⟨Nat.zero_le _,by rw[Nat.sub_zero,List.drop_length,heq,List.drop_length]⟩ ?_ ?_);simp only[En.eq_1];exact s_e [];rintro i ⟨w,e⟩;rw[En.eq_1];refine ae (r_z 4 ?_);refine au rfl (fun h=>?_) (fun h=>?_);have q:i< (aw UB a).length:=by simp at h;omega
 obtain⟨k,v⟩:∃k,k=(aw UB a).length- 1- i:=⟨_,rfl⟩;have o:(aw UB a).length- i=k+1:=by omega
 rw[o] at e;obtain⟨x,m⟩:∃x,(aw UB a)[k]?=some x:=⟨_,List.getElem?_eq_getElem (by omega)⟩;obtain⟨y,l⟩:∃y,(aw UB b)[k]?=some y:=⟨_,List.getElem?_eq_getElem (by omega)⟩
 have f:(iE (zd a))[((i:Nat):Int).toNat]?=some [i64 x]:=by
  have:=yj m;rw[show(aw UB a).length- 1- k=i by omega] at this;exact kY this
 have g:(iE (zd b))[((i:Nat):Int).toNat]?=some [i64 y]:=by
  have:=yj l;rw[show(aw UB b).length- 1- k=i by omega] at this;exact kY this
 refine am (ae (aj (ae (ae (r_d a7 9 ?_)))));refine a_2 ?_;refine i_x f ?_;refine l_1 f ?_;refine a_2 ?_;refine i_x g ?_;refine l_1 g ?_;refine a_1 ?_;refine aq (n_k ?_);refine au rfl (fun j=>?_) (fun j=>?_);refine r_z 1 ?_;refine ai (aW rfl ?_ (ag _));have c:x< y:=by simpa using j
 have:=oG (fun d e=>ec (by decide) a d e) m l e c;rw[bU (by decide),bU (by decide)] at this;rw[mX (by omega)];rfl;refine am (ae (r_d a7 9 ?_));refine a_2 ?_;refine i_x f ?_;refine l_1 f ?_;refine a_2 ?_;refine i_x g ?_;refine l_1 g ?_;refine a_1 ?_;refine aq (n_k ?_);refine au rfl (fun p=>?_) (fun p=>?_);refine r_z 1 ?_;refine ai (aW rfl ?_ (ag _));have c:y< x:=by simpa using p
 have:=oG (fun d e=>ec (by decide) b d e) l m e.symm c;rw[bU (by decide),bU (by decide)] at this;rw[oW (by omega)];rfl;have c:x=y:=by simp at j p;omega
 subst c;refine am (r_m 3 ?_);refine a_z ?_;refine⟨i+1,by omega,⟨by omega,?_⟩,?_⟩;rw[show(aw UB a).length- (i+1)=k by omega,fY m,fY l,e];simp only[En.eq_1];exact s_e [];have n:i=(aw UB a).length:=by simp at h;omega
 refine ax ⟨i,?_,?_⟩;subst n;rw[Nat.sub_self,List.drop_zero,List.drop_zero] at e;rw[<-bU (b:=UB) (by decide) a,<-bU (b:=UB) (by decide) b,e];simp only[En.eq_1];exact s_e [];rintro i rfl;rw[En.eq_1];refine r_z 1 ?_;refine ai (aW rfl ?_ (ag _));rw[FV rfl];rfl
def bothS(a:Nat)(b:Nat)(k:Int)(N:Nat):Ln×Int->AState
 |(s,c)=>⟨[(0,.arr (iE (zd a))),(1,.arr (iE (zd b))),(2,i64 k),(7,i64 N),(8,.lsl 1 0 N (some N) 1),(9,i64 c),(10,i64 s.length)],[(1,some ⟨3,1,iE (List.replicate (N- s.length) 0++s.reverse)⟩)],2,51⟩
def JX(a:Nat)(b:Nat)(k:Int)(N:Nat)(s:Ln):Int×Int->AState
 |(x,c)=>⟨[(0,.arr (iE (zd a))),(1,.arr (iE (zd b))),(2,i64 k),(7,i64 N),(8,.lsl 1 0 N (some N) 1),(9,i64 c),(10,i64 s.length),(11,i64 x)],[(1,some ⟨3,1,iE (List.replicate (N- s.length) 0++s.reverse)⟩)],2,51⟩
theorem qO(a b:Nat)(k:Int)(r:Nat)(hk:k=1\/k= -1)(hr:(r:Int)=a+k* b)(ha:(zd a).length<=17592186044416)(hb:(zd b).length<=17592186044416):FS 240 [.arr (iE (zd a)),.arr (iE (zd b)),i64 k] (.arr (iE (zd r))):=by
 have hza:=c5 a;have hzb:=c5 b;obtain⟨N,hN⟩:∃N,N=max (zd a).length (zd b).length+1:=⟨_,rfl⟩;refine f_c Tryz.func240 ?_;refine r_z 1 ?_;refine r_c 5 (DH (zd a) (zd b)) ?_;refine a_z ?_;have D:((max (zd a).length (zd b).length:Nat):Int)+1=(N:Int):=by omega
 refine s_r 3 ?_;refine a_1 ?_;refine o_1 (.makeSlice (congrArg (fun z=>some (AV.v (.int .i64 z))) D) (congrArg (fun z=>some (AV.v (.int .i64 z))) D) te_77.h TZ.h rfl TB.h (by first|omega|(simp;done)|(simp;omega)) (by first|omega|(simp;done)|(simp;omega)) (by unfold maxLen;first|omega|(simp;done)|(simp;omega))) ?_;refine a_z ?_;refine r_z 1 ?_;refine ae (r_z 1 ?_)
 have T:=fM (b:=UB) (by decide) (n:=r) (k:=N) (by
  have j:=fG (b:=UB) (ec (by decide) a);have o:=fG (b:=UB) (ec (by decide) b);rw[bU (by decide)] at j o;have J:UB^ (aw UB a).length<=UB^ (N- 1):=Nat.pow_le_pow_right (by decide) (by omega);have h4:UB^ (aw UB b).length<=UB^ (N- 1):=Nat.pow_le_pow_right (by decide) (by omega);have h5:UB^ N=UB^ (N- 1) * UB:=by rw[<-Nat.pow_succ];congr 1;omega
  rw[h5];show r< UB^ (N- 1) * 32768;rcases hk with rfl|rfl <;> omega)
 have R:r< UB^ N:=by
  have j:=fG (b:=UB) (ec (by decide) r);rw[bU (by decide)] at j;exact Nat.lt_of_lt_of_le j (Nat.pow_le_pow_right (by decide) T)
 refine aF (fun s:Ln=>⟨[(8,.lsl 1 0 N (some N) 1)],[(1,some ⟨3,1,iE s.reverse⟩)],2,51⟩) (fun s=>s.length=N/\(∀d∈s,d< UB)/\ofD UB s=r) ?_ ?_;refine aj (aC (bothS a b k N) (fun x=>N- x.1.length) (fun x=>x.1.length<=N/\(∀d∈x.1,d< UB)/\(x.2= -1\/x.2=0\/x.2=1)/\((ofD UB x.1:Nat):Int)+((UB^ x.1.length:Nat):Int) * x.2=(ofD UB ((aw UB a).take x.1.length):Nat)+k* (ofD UB ((aw UB b).take x.1.length):Nat)) ([],0) ⟨by simp,by simp,by simp,by simp[ofD]⟩ ?_ ?_);simp only[bothS.eq_1];exact s_e [(1,8)];rintro⟨s,c⟩ ⟨hs,u,hc,f⟩;simp only at hs u hc f;simp only[bothS.eq_1];refine ae (r_z 3 ?_);refine au rfl (fun h=>?_) (fun h=>?_);have hlt:s.length< N:=by simpa using h
 refine am ?_;obtain⟨x,U⟩:∃x,x=(aw UB a)[s.length]?.getD 0:=⟨_,rfl⟩;obtain⟨y,O⟩:∃y,y=(aw UB b)[s.length]?.getD 0:=⟨_,rfl⟩
 have hx1:x< 32768:=by
  rw[U];cases hh:(aw UB a)[s.length]? with
  |none=>decide
  |some d=>exact cO (by decide) hh
 have hy1:y< 32768:=by
  rw[O];cases hh:(aw UB b)[s.length]? with
  |none=>decide
  |some d=>exact cO (by decide) hh
 have p:=vv (zd a) s.length (by omega);have t:=vv (zd b) s.length (by omega);unfold zd at p t;rw[List.reverse_reverse,<-U] at p;rw[List.reverse_reverse,<-O] at t;have hky: -32768< k* y/\k* y< 32768:=by rcases hk with rfl|rfl <;> omega
 obtain⟨X,hX⟩:∃X:Int,X=x+k* y+c:=⟨_,rfl⟩;have hXr: -32768<=X/\X<=65536:=by omega
 refine ae (aj (r_c 12 (p) ?_));refine c_s (t) ?_;refine a_z ?_;refine r_z 1 ?_;refine bH (JX a b k N s) (fun v=>v.1=(if X< 0 then X+32768 else X)/\v.2=(if X< 0 then -1 else 0)) ?_ ?_;refine r_z 2 ?_;refine au rfl (fun j=>?_) (fun j=>?_);have g:X< 0:=by rw[hX];simpa using j
 refine r_z 3 ?_;refine r_m 1 ?_;refine a_z ?_;refine⟨(X+32768,-1),⟨by rw[if_pos g],by rw[if_pos g]⟩,?_⟩;simp only[JX.eq_1];exact s_x [] (fun hs=>e_51) (fun hs=>e_52) e_50;have g:¬X< 0:=by rw[hX];simpa using j
 refine am ⟨(X,0),⟨by rw[if_neg g],by rw[if_neg g]⟩,?_⟩;simp only[JX.eq_1];exact s_x [] (fun hs=>e_51) (fun hs=>e_52) e_50;rintro⟨F,c1⟩ ⟨i,H⟩;simp only at i H;rw[JX.eq_1];refine bH (JX a b k N s) (fun v=>v.1=X % 32768/\v.2=X/ 32768) ?_ ?_;refine r_z 2 ?_;refine au rfl (fun j=>?_) (fun j=>?_);have o:32768<=F:=by simpa using j
 have Z:F<=65536:=by rw[i];split <;> omega
 refine r_z 3 ?_;refine r_m 1 ?_;refine a_z ?_;have g:¬X< 0:=by intro h0;rw[if_pos h0] at i;omega
 rw[if_neg g] at i;refine⟨(F- 32768,1),⟨by simp only;omega,by simp only;omega⟩,?_⟩;simp only[JX.eq_1];exact s_e []
 ·have o:F< 32768:=by simp at j;omega
  refine am ⟨(F,c1),⟨by rw[i] at o⊢;simp only;split <;> rename_i J <;> simp only[J,if_true,if_false] at o <;> omega,by rw[i] at o;rw[H];simp only;split <;> rename_i J <;> simp only[J,if_true,if_false] at o <;> omega⟩,?_⟩;simp only[JX.eq_1];exact s_e []
 rintro⟨X2,E⟩ ⟨K,Q⟩;simp only at K Q;rw[JX.eq_1];obtain⟨d,L⟩:∃d:Nat,X2=d:=⟨X2.toNat,by omega⟩;have M:d< 32768:=by omega
 subst L;have hlen:(List.replicate (N- s.length) 0++s.reverse).length=N:=by simp;omega
 have m:List.replicate (N- s.length) 0=List.replicate (N- (s.length+1)) 0++[0]:=by
  rw[show N- s.length=(N- (s.length+1))+1 by omega,List.replicate_succ']
 have G:(iE (List.replicate (N- s.length) 0++s.reverse))[0+((N:Int)- 1- s.length).toNat]?=some [i64 0]:=by
  rw[show 0+((N:Int)- 1- s.length).toNat=N- (s.length+1) by omega];refine kY ?_;rw[m,List.append_assoc];exact qF _ _ _ _ (by simp)
 have hset:(iE (List.replicate (N- s.length) 0++s.reverse)).set (0+((N:Int)- 1- s.length).toNat) [i64 d]=iE (List.replicate (N- (s++[d]).length) 0++(s++[d]).reverse):=by
  rw[show 0+((N:Int)- 1- s.length).toNat=N- (s.length+1) by omega,pt,m,List.append_assoc];simp only[List.singleton_append,List.length_append,List.length_cons,List.length_nil,List.reverse_append,List.reverse_cons,List.reverse_nil,List.nil_append];rw[pX _ _ _ _ _ (by simp)];simp
 refine r_m 8 ?_;refine a_7 ?_;refine eF (.store rfl rfl G rfl rfl rfl TS.h (nle rfl)) ?_;refine aq ?_;refine r_m 3 ?_;refine a_z ?_;refine⟨(s++[d],E),by simp;omega,⟨by simp;omega,?_,by simp only;omega,?_⟩,?_⟩;intro e w;rcases List.mem_append.1 w with w|w
 exact u e w;simp at w;subst w;exact M;simp only[List.length_append,List.length_cons,List.length_nil,Nat.zero_add];rw[iq,eT,eT,<-U,<-O,Nat.pow_succ];obtain⟨B,Y⟩:∃B,B=UB^ s.length:=⟨_,rfl⟩;rw[<-Y] at f⊢;have V:X=32768* E+d:=by omega
 have S:(B:Int) * X=B* x+k* (B* y)+B* c:=by
  rw[hX,Int.mul_add,Int.mul_add,Int.mul_left_comm]
 rw[V,Int.mul_add] at S;have e1:((B* 32768:Nat):Int) * E=B* (32768* E):=by rw[Int.natCast_mul,Int.mul_assoc];rfl
 have e2:k* ((ofD UB ((aw UB b).take s.length)+B* y:Nat):Int)=k* (ofD UB ((aw UB b).take s.length):Nat)+k* (B* y):=by
  rw[Int.natCast_add,Int.mul_add,Int.natCast_mul]
 show((ofD UB s+B* d:Nat):Int)+((B* 32768:Nat):Int) * E=_;rw[e1,e2,Int.natCast_add,Int.natCast_add,Int.natCast_mul,Int.natCast_mul];omega;simp only[bothS.eq_1];refine s_x [] (fun hs=>ek) (fun hs=>?_) e_53
 ·repeat' (first|exact aE|refine h_c ?_ ?_|exact aI hs hset (dK _)|exact bZ)
 have l:s.length=N:=by simp at h;omega
 refine ax ⟨s,⟨l,u,?_⟩,?_⟩;rw[l,List.take_of_length_le (by omega),List.take_of_length_le (by omega),bU (by decide),bU (by decide),<-hr] at f;have C:=fG u;rw[l] at C;obtain⟨B,Y⟩:∃B,B=UB^ N:=⟨_,rfl⟩;rw[<-Y] at f C R;rcases hc with rfl|rfl|rfl <;> omega
 have e:iE (List.replicate (N- s.length) 0++s.reverse)=iE s.reverse:=by rw[l];simp
 refine s_x [] (fun hs=>ek) (fun hs=>e_54) ?_
 ·repeat' (first|exact ShrL.nil|refine ShrL.cons rfl rfl rfl rfl (by first|(exact congrArg List.length e)|rfl|(simp;done)|(simp <;> omega)) ?_)
 rintro s ⟨hs,u,f⟩;have W:∀d∈s.reverse,d< UB:=fun d h=>u d (List.mem_reverse.1 h);have A:=jk s.reverse (by simp;omega);rw[fT W,show hv s.reverse=r by unfold hv;rw[List.reverse_reverse];assumption] at A;have q:((iE s.reverse).drop 0).take N=iE s.reverse:=by rw[List.drop_zero,List.take_of_length_le (by simp;omega)]
 refine s_r 3 ?_;refine a_1 ?_;refine o_1 (.callS1 rfl rfl rfl (.shut rfl d_n (.nil)) rfl ((by rw[q];exact A))) ?_;refine a_z ?_;exact ai (t_e (eX _))
def zl(z:Int):Prop:=bl z.natAbs<=8796093022208
theorem yi{z:Int}(h:zl z):(zd z.natAbs).length<=17592186044416:=by
 have:=b7 (b:=UB) (by decide) z.natAbs;rw[c5];unfold zl at h;omega
theorem yz{x y:Int}(h:sgZ x=sgZ y)(hx:x≠0):(x+y).natAbs=x.natAbs+y.natAbs/\(x+y≠0->sgZ x=sgZ (x+y)):=by
 rcases dm x with⟨a,b⟩|⟨a,b⟩|⟨a,b⟩<;> rcases dm y with⟨c,d⟩|⟨c,d⟩|⟨c,d⟩<;> rcases dm (x+y) with⟨e,f⟩|⟨e,f⟩|⟨e,f⟩<;> rw[a,c] at h <;> rw[a,e]<;> first|omega|(constructor <;> omega)
theorem uH{x y:Int}(h:sgZ x≠sgZ y)(hx:x≠0)(hy:y≠0)(hg:y.natAbs<=x.natAbs):(x+y).natAbs=x.natAbs- y.natAbs/\(x+y≠0->sgZ x=sgZ (x+y)):=by
 rcases dm x with⟨a,b⟩|⟨a,b⟩|⟨a,b⟩<;> rcases dm y with⟨c,d⟩|⟨c,d⟩|⟨c,d⟩<;> rcases dm (x+y) with⟨e,f⟩|⟨e,f⟩|⟨e,f⟩<;> rw[a,c] at h <;> rw[a,e]<;> first|omega|(constructor <;> omega)
theorem fs_ZAdd(x y:Int)(hx:zl x)(hy:zl y):FS 206 [.agg (zZ x),.agg (zZ y)] (.agg (zZ (x+y))):=by
 have c:=yi hx;have d:=yi hy
 have bound:∀r:Nat,r<=x.natAbs+y.natAbs->(zd r).length<=281474976710656:=by
  intro r n;have i:=b7 (b:=UB) (by decide) r;have g:=dI n;have j:=Ae x.natAbs y.natAbs;unfold zl at hx hy;rw[c5];omega
 refine f_c Tryz.func206 ?_;refine r_z 3 ?_;refine ae (r_z 3 ?_);refine au rfl (fun h=>?_) (fun h=>?_)
 have m:x=0:=by
  have:sgZ x=0:=by simpa using h
  rcases dm x with⟨a,b⟩|⟨a,b⟩|⟨a,b⟩<;> omega
 refine r_z 2 ?_;refine ai (dP rfl rfl rfl TG.h TS.h (nle rfl) ?_ ?_);rw[m,Int.zero_add];rfl;exact c7 _;have e:x≠0:=by rintro rfl;simp[sgZ] at h
 refine am (ae (r_z 3 ?_));refine au rfl (fun i=>?_) (fun i=>?_)
 have m:y=0:=by
  have:sgZ y=0:=by simpa using i
  rcases dm y with⟨a,b⟩|⟨a,b⟩|⟨a,b⟩<;> omega
 refine r_z 2 ?_;refine ai (dP rfl rfl rfl TG.h TS.h (nle rfl) ?_ ?_);rw[m,Int.add_zero];rfl;exact c7 _;have f:y≠0:=by rintro rfl;simp[sgZ] at i
 refine am (ae (r_z 5 ?_));refine au rfl (fun g=>?_) (fun g=>?_);have hs:sgZ x=sgZ y:=by simpa using g
 obtain⟨e1,e2⟩:=yz hs e;refine ae (r_d a7 9 ?_);refine c_s (qO x.natAbs y.natAbs 1 (x.natAbs+y.natAbs) (.inl rfl) (by omega) c d) ?_;refine c_s (kM (sgZ x) (zd (x.natAbs+y.natAbs)) (x+y) (bound _ (Nat.le_refl _)) (jU _) (by rw[lC,e1]) e2) ?_;refine a_1 ?_;refine aq (n_k ?_);exact ai (c_e (c7 _));have hs:sgZ x≠sgZ y:=by simpa using g
 refine am (ae (r_c 6 (Bv x.natAbs y.natAbs (by omega) (by omega)) ?_));refine a_z ?_;refine au rfl (fun j=>?_) (fun j=>?_)
 have k:y.natAbs<=x.natAbs:=by
  have:=of_decide_eq_true j;unfold eN at this;split at this;omega;omega
 obtain⟨e1,e2⟩:=uH hs e f k;refine ae (r_d a7 9 ?_);refine c_s (qO x.natAbs y.natAbs (-1) (x.natAbs- y.natAbs) (.inr rfl) (by omega) c d) ?_;refine c_s (kM (sgZ x) (zd (x.natAbs- y.natAbs)) (x+y) (bound _ (by omega)) (jU _) (by rw[lC,e1]) e2) ?_;refine a_1 ?_;refine aq (n_k ?_);exact ai (c_e (c7 _))
 have l:x.natAbs<=y.natAbs:=by
  have:=of_decide_eq_false j;unfold eN at this;split at this;omega;split at this <;> omega
 obtain⟨e1,e2⟩:=uH (fun h=>hs h.symm) f e l;rw[Int.add_comm] at e1 e2;refine am (ae (r_d a7 9 ?_));refine c_s (qO y.natAbs x.natAbs (-1) (y.natAbs- x.natAbs) (.inr rfl) (by omega) d c) ?_;refine c_s (kM (sgZ y) (zd (y.natAbs- x.natAbs)) (x+y) (bound _ (by omega)) (jU _) (by rw[lC,e1]) e2) ?_;refine a_1 ?_;refine aq (n_k ?_);exact ai (c_e (c7 _))
theorem zl_neg{z:Int}(h:zl z):zl (-z):=by unfold zl at *;rwa[Int.natAbs_neg]
theorem fs_ZSub(x y:Int)(hx:zl x)(hy:zl y):FS 173 [.agg (zZ x),.agg (zZ y)] (.agg (zZ (x- y))):=by
 have hs:=fs_ZAdd x (-y) hx (zl_neg hy);rw[<-Int.sub_eq_add_neg] at hs;refine f_c Tryz.func173 ?_;refine r_z 3 ?_;refine ae (r_d a7 5 ?_);refine c_s (zf y) ?_;refine c_s (hs) ?_;refine a_1 ?_;refine aq (n_k ?_);exact ai (c_e (c7 _))
theorem fs_ZCmp(x y:Int)(hx:zl x)(hy:zl y):FS 130 [.agg (zZ x),.agg (zZ y)] (i64 (eN x y)):=by
 have e:eN x y=sgZ (x- y):=by
  unfold eN sgZ;split <;> split <;>(try split)<;>(try split)<;> omega
 rw[e];refine f_c Tryz.func130 ?_;refine r_z 3 ?_;refine r_c 5 (fs_ZSub x y hx hy) ?_;refine a_z ?_;exact ai (t_e (ag _))
def CQ(l:Ln):Nat->AState
 |i=>⟨[(0,.arr (iE l)),(3,i64 (hv (l.take i))),(4,i64 i)],[],1,19⟩
theorem Dt{l:Ln}(hd:∀d∈l,d< UB)(hl:l.length<=4)(i:Nat):hv (l.take i)< 1152921504606846976:=by
 have a:=Fp (l:=l.take i) fun d h=>hd d (List.mem_of_mem_take h);have b:(l.take i).length<=4:=by rw[List.length_take];omega
 exact Nat.lt_of_lt_of_le a (Nat.pow_le_pow_right (by decide) b)
theorem Bl(l:Ln)(hl:l.length<=4)(hd:∀d∈l,d< UB):FS 203 [.arr (iE l)] (i64 (hv l)):=by
 refine f_c Tryz.func203 ?_;refine r_z 1 ?_;refine r_z 1 ?_;refine ae (r_z 1 ?_);refine aF (CQ l) (fun i=>i=l.length) ?_ ?_;refine aj (aC (CQ l) (fun i=>l.length- i) (fun i=>i<=l.length) 0 (Nat.zero_le _) ?_ ?_);simp only[CQ.eq_1];exact s_e [];intro i m;rw[CQ.eq_1];refine ae (r_z 4 ?_);refine au rfl (fun h=>?_) (fun h=>?_);have f:i< l.length:=by simpa using h
 obtain⟨d,c⟩:∃d,l[i]?=some d:=⟨_,List.getElem?_eq_getElem f⟩;have j:=hd d (List.mem_of_getElem? c);have b:(iE l)[((i:Nat):Int).toNat]?=some [i64 d]:=kY c;have e:=qB (l.take i) d;rw[<-cJ c] at e;have hb:=Dt hd hl (i+1);obtain⟨V,k⟩:∃V,V=hv (l.take i):=⟨_,rfl⟩;rw[<-k] at e⊢;have a:hv (l.take (i+1))=V* 32768+d:=e;refine am (ae (aj (r_m 8 ?_)));refine a_4 ?_;refine i_x b ?_;refine l_1 b ?_;refine a_z ?_;refine r_m 3 ?_;refine a_z ?_;refine⟨i+1,by omega,f,?_⟩;simp only[CQ.eq_1];refine s_x [] (fun hs=>?_) (fun hs=>?_) ?_
 ·repeat' (first|exact aP|refine ay rfl ?_ ?_|exact aX|(refine Cv.loE hs ?_ (ag _);first|rfl|(simp[i64,u64,u32,bln,a];done)|(simp[i64,u64,u32,bln,a]<;> omega)))
 ·repeat' (first|exact aE|refine h_c ?_ ?_|exact bZ|(refine aI hs ?_ (dK _);first|(simp[pt,oK,jI,a];done)|(simp[iE,i64,ofV,a];done))|refine aD ?_|exact av|refine ah ?_ ?_|exact aX|(refine Cv.loE hs ?_ (ag _);first|(simp[i64,u64,u32,bln,a];done)|(simp[i64,u64,u32,bln,a]<;> omega)))
 ·repeat' (first|exact ShrL.nil|refine ShrL.cons rfl rfl rfl rfl (by first|rfl|(simp;done)|(simp[a]<;> omega)) ?_)
 have g:i=l.length:=by simp at h;omega
 refine ax ⟨i,g,?_⟩;exact s_e [];rintro i rfl;rw[CQ.eq_1,List.take_length];refine r_z 2 ?_;refine ai (aW rfl rfl (ag _))
def Hl(s:Int):Int×Ln->AState
 |(n,l)=>⟨[(0,i64 n),(2,.lptr 1 0 0),(3,i64 s),(4,.arr (iE l))],[(1,some ⟨79,2,[[i64 0,.emp]]⟩)],2,25⟩
theorem qQ(n:Int)(h: -9223372036854775808<=n/\n<=9223372036854775807):FS 127 [i64 n] (.agg (zZ n)):=by
 obtain⟨s,hs⟩:∃s:Int,s=if n< 0 then -1 else 1:=⟨_,rfl⟩
 have j:n≠0->s=sgZ n:=by
  intro u;rw[hs];unfold sgZ;rw[if_neg u]
 refine f_c Tryz.func127 ?_;refine r_z 1 ?_;refine r_z 1 ?_;refine bH (fun _:Unit=>⟨[(0,i64 n),(2,.lptr 1 0 0),(3,i64 s)],[(1,some ⟨79,2,[[i64 0,.emp]]⟩)],2,25⟩) (fun _=>True) ?_ ?_;refine r_z 2 ?_;refine au rfl (fun b=>?_) (fun b=>?_);have p:n< 0:=by simpa using b
 rw[hs,if_pos p];refine r_m 1 ?_;refine a_z ?_;refine⟨(),trivial,?_⟩;exact s_e [];have p:¬n< 0:=by simpa using b
 rw[hs,if_neg p];refine am ⟨(),trivial,?_⟩;exact s_e [];rintro _ _;refine r_z 1 ?_;refine bH (fun l:Ln=>Hl s (0,l)) (fun l=>l.length<=10/\(∀d∈l,d< UB)/\hv l=n.natAbs) ?_ ?_;refine aj (aC (Hl s) (fun x=>x.1.natAbs) (fun x=>(-9223372036854775808<=x.1/\x.1<=9223372036854775807)/\(∀d∈x.2,d< UB)/\n.natAbs=hv x.2+UB^ x.2.length* x.1.natAbs/\x.2.length<=5) (n,[]) ⟨h,by simp,by simp[vi],by simp⟩ ?_ ?_);simp only[Hl.eq_1];exact s_e [(1,2)];rintro⟨m,l⟩ ⟨B,c,a,o⟩;simp only at B c a o;rw[Hl.eq_1];refine ae (r_z 2 ?_);refine au rfl (fun h=>?_) (fun h=>?_)
 ·have f:m≠0:=by simpa using h
  have A:l.length<=4:=by
   refine Nat.le_of_not_lt fun y=>?_;have F:UB^ 5<=UB^ l.length:=Nat.pow_le_pow_right (by decide) y;have C:UB^ l.length* 1<=UB^ l.length* m.natAbs:=Nat.mul_le_mul_left _ (by omega);have D:UB^ 5=37778931862957161709568:=by decide
   omega
  obtain⟨d,i⟩:∃d,d=m.natAbs % 32768:=⟨_,rfl⟩;have k:d< 32768:=by omega
  have E:(m.tmod 32768).natAbs=d:=by rw[Int.natAbs_tmod,i];rfl
  have w:(m.tdiv 32768).natAbs=m.natAbs/ 32768:=by rw[Int.natAbs_tdiv];rfl
  have t:m.natAbs/ 32768< m.natAbs:=Nat.div_lt_self (by omega) (by decide);have r:=Nat.div_add_mod m.natAbs 32768;refine am (aj (s_r 3 ?_));refine a_1 ?_;refine o_0 (.bin rfl rfl (Hf (by decide))) ?_;refine a_z ?_;refine bH (fun _:Unit=>⟨[(0,i64 m),(2,.lptr 1 0 0),(3,i64 s),(4,.arr (iE l)),(5,i64 d)],[(1,some ⟨79,2,[[i64 0,.emp]]⟩)],2,25⟩) (fun _=>True) ?_ ?_;refine r_z 2 ?_;refine au rfl (fun b=>?_) (fun b=>?_);have g:m.tmod 32768< 0:=by simpa using b
  refine r_m 3 ?_;refine a_z ?_;have e: -m.tmod 32768=d:=by omega
  refine⟨(),trivial,?_⟩;have:=(congrArg (fun z=>AV.v (.int .i64 z)) e);exact s_f [];have g:¬m.tmod 32768< 0:=by simpa using b
  have e:m.tmod 32768=d:=by omega
  refine am ⟨(),trivial,?_⟩;have:=(congrArg (fun z=>AV.v (.int .i64 z)) e);exact s_f [];rintro _ _;refine s_r 5 ?_;refine a_3 ?_;refine o_2 (.append_l rfl rfl rfl te_77.h rfl rfl rfl rfl rfl d_o (by first|exact dV _|exact dT _|exact dy _|exact dX _|exact dS _|assumption|rfl|simp) (by first|rfl|exact dV _|exact dT _|exact dy _|exact dX _|exact dS _|simp) rfl (.arr (mr _)) TZ.h rfl TB.h d_o (by first|(simp[maxLen];done)|(simp[maxLen];omega))) ?_;refine a_z ?_;refine r_m 3 ?_;refine a_1 ?_;refine o_0 (.bin rfl rfl (sR (by decide) (by omega))) ?_;refine a_z ?_;refine⟨(m.tdiv 32768,d::l),by simp only;omega,⟨by simp only;omega,?_,?_,by simp;omega⟩,?_⟩;intro e q;rcases List.mem_cons.1 q with rfl|q
  exact k;exact c e q;simp only[qD,List.length_cons];rw[a,w,Nat.pow_succ,Nat.mul_assoc,Nat.add_assoc,<-Nat.mul_add];congr 2;show m.natAbs=d+32768* (m.natAbs/ 32768);omega;simp only[Hl.eq_1];have e:[[i64 d]]++iE l=iE (d::l):=rfl;refine s_x [] (fun hs=>?_) (fun hs=>?_)
  ·repeat' (first|exact aP|refine ay rfl ?_ ?_|exact Cv.sealE hs rfl (aT rfl) e (by simp;omega) (dK _)|exact aX)
  ·repeat' (first|exact aE|refine h_c ?_ ?_|exact bZ|refine aD ?_|exact av|refine ah ?_ ?_|exact Cv.sealE hs rfl (aT rfl) e (by simp;omega) (dK _)|exact aX)
 have f:m=0:=by simpa using h
 subst f;refine ax ⟨l,⟨by omega,c,by simpa using a.symm⟩,?_⟩;simp only[Hl.eq_1];exact s_e [];rintro l ⟨A,c,a⟩;rw[Hl.eq_1];refine r_c 4 (kM s l n (by omega) c a j) ?_;refine a_z ?_;exact ai (c_e (c7 _))
end Go.Proofs.YtkbjakfniejkcaaGreatDoor
