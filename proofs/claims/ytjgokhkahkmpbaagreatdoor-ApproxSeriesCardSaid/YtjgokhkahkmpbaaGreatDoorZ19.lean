/- Part Z19 of the proof. -/
import Derived.Test.YtjgokhkahkmpbaaGreatDoorZ18
set_option linter.all false
namespace Go.Proofs.YtjgokhkahkmpbaaGreatDoor
open Go.Abs
set_option maxRecDepth 20000
set_option maxHeartbeats 1000000
theorem fs_ends (g:Nat) (op:Rat→Rat→Rat) (a b c d:Rat) (h1:FS g [.agg (qC a),.agg (qC c)] (.agg (qC (op a c)))) (h2:FS g [.agg (qC a),.agg (qC d)] (.agg (qC (op a d)))) (h3:FS g [.agg (qC b),.agg (qC c)] (.agg (qC (op b c)))) (h4:FS g [.agg (qC b),.agg (qC d)] (.agg (qC (op b d))))
    (hs:smL [op a c,op a d,op b c,op b d]):FS 283 [.clos g [] [],.agg (spC a b),.agg (spC c d)] (.agg (spC (E5 [op a c,op a d,op b c,op b d]) (mY [op a c,op a d,op b c,op b d]))):=by
 refine f_n Tryz.func283 ?_ ?_;exact ac (aT ai ai) (ac (bt a b) (ac (bt c d) ai));refine r_z 3 ?_;refine ae (r_d hmix 27 ?_);refine c_s (h1) ?_;refine c_s (h2) ?_;refine c_s (h3) ?_;refine c_s (h4) ?_;refine a_1 ?_;refine o_1 (.callS1 rfl rfl rfl (.shut rfl d_n (.nil)) rfl (AF [op a c,op a d,op b c,op b d] hs (by simp))) ?_;refine a_1 ?_;refine aq (n_k ?_);exact am (c_e (bt _ _))
theorem fs_SMul(a b c d:Rat)(ha:sm a)(hb:sm b)(hc:sm c)(hd:sm d)(hs:smL [a* c,a* d,b* c,b* d]):FS 278 [.agg (spC a b),.agg (spC c d)] (.agg (spC (E5 [a* c,a* d,b* c,b* d]) (mY [a* c,a* d,b* c,b* d]))):=by
 refine f_c Tryz.func278 ?_;refine r_z 3 ?_;refine r_c 4 (fs_ends 25 (fun x y=>x* y) a b c d (c7 a c (sm2 ha hc)) (c7 a d (sm2 ha hd)) (c7 b c (sm2 hb hc)) (c7 b d (sm2 hb hd)) hs) ?_;refine a_z ?_;exact am (c_e (bt _ _))
theorem qs_int(n:Int):qs (n:Rat)≤max (bl n.natAbs) 1:=by
 have e1:(n:Rat).num=n:=rfl;have e2:(n:Rat).den=1:=rfl;unfold qs;rw[e1,e2,jI];exact Nat.le_refl _
theorem EJ{n:Int}(h: -9223372036854775808≤n∧n≤9223372036854775807):qs (n:Rat)≤64:=by
 have h1:=qs_int n;have h2:bl n.natAbs≤64:=iG (Nat.lt_of_le_of_lt (show n.natAbs≤9223372036854775808 by omega) (by decide));omega
theorem fs_Of(n d:Int)(hn: -9223372036854775808≤n∧n≤9223372036854775807)(hd: -9223372036854775808≤d∧d≤9223372036854775807)(h0:d≠0):FS 105 [i64 n,i64 d] (.tup [.agg (qC ((n:Rat) / (d:Rat))),i64 0]):=by
 have h1:=EJ hn;have h2:=EJ hd
 have hd0:(d:Rat)≠0:=by
  intro h;have:(d:Rat).num=0:=by rw[h];rfl
  exact h0 this
 refine f_c Tryz.func105 ?_;refine r_z 2 ?_;refine r_c 9 (cN n hn) ?_;refine c_s (cN d hd) ?_;refine c_s (AP (n:Rat) (d:Rat) hd0 (by omega)) ?_;refine a_z ?_;refine am (Fin.many ⟨_,_,rfl,⟨_,_,_,_,_,rfl,rfl,rfl,.inl ⟨TG.h,_,TS.h,nle rfl,rfl⟩⟩,⟨_,_,rfl,rfl,rfl⟩⟩ (nle rfl) ?_);exact af (ah aE (aM _)) (af (ah aE (ag _)) ay)
theorem yI(l:Lq)(hl:l.length≤1099511627776):FS 77 [.arr (pE l)] (.arr (pE l)):=by
 cases l with
 |nil=>
  refine FSpec.nil1 fun a c=>?_;refine f_c Tryz.func77 ?_;refine r_z 1 ?_;refine ae (r_z 2 ?_);refine au rfl (fun h=>?_) (fun h=>?_);refine r_z 1 ?_;exact am (Fin.tmpN rfl)
  ·refine an (s_r 4 ?_)
   refine a_2 ?_;refine o_2 (.append_l rfl rfl rfl te_30.h rfl rfl rfl rfl rfl d_o (by first|exact dh _|exact df _|exact cL _|exact di _|exact de _|assumption|rfl|simp) (by first|rfl|exact dh _|exact df _|exact cL _|exact di _|exact de _|simp) rfl (.vnil) TZ.h rfl TB.h d_o (by first|(simp[maxLen];done)|(simp[maxLen];omega))) ?_;refine a_z ?_;exact am (Fin.tmpS rfl rfl rfl rfl (aF []))
 |cons q l=>
  have hne:pE (q::l)≠[]:=by simp[pE]
  simp at hl;refine f_c Tryz.func77 ?_;refine r_z 1 ?_;refine ae (s_r 2 ?_);refine a_1 ?_
  first|refine ax (.nilq_v rfl rfl te_30.h) rfl rfl ?_|refine ax (.nilq_arr rfl (hne) rfl te_30.h) rfl rfl ?_
  refine aq ?_;refine cF ?_
  ·refine an (s_r 4 ?_)
   refine a_2 ?_;refine o_2 (.append_l rfl rfl rfl te_30.h rfl rfl rfl rfl rfl d_o (by first|exact dh _|exact df _|exact cL _|exact di _|exact de _|assumption|rfl|simp) (by first|rfl|exact dh _|exact df _|exact cL _|exact di _|exact de _|simp) rfl (.arr (eF _)) TZ.h rfl TB.h d_o (by first|(simp[maxLen];done)|(simp[maxLen];omega))) ?_;refine a_z ?_;exact am (Fin.tmpS rfl rfl rfl (by simp) (aF _))
def trS(l:Lq):Nat→AState
 |n=>⟨[(0,.arr (pE l)),(3,i64 n)],[],1,23⟩
theorem cY(l:Lq)(hl:l.length≤1099511627776):FS 21 [.arr (pE l)] (.arr (pE (av l))):=by
 refine f_c Tryz.func21 ?_;refine r_z 1 ?_;refine r_z 3 ?_;refine aZ (trS l) (fun n=>n≤l.length∧av l=l.take n) ?_ ?_;refine ak (aC (trS l) (fun n=>n) (fun n=>n≤l.length∧av l=av (l.take n)) l.length ⟨Nat.le_refl _,by rw[List.take_length]⟩ ?_ ?_);simp only[trS.eq_1];exact s_e [];rintro n ⟨hn,ht⟩;rw[trS.eq_1];cases n with
 |zero=>
  refine ae (s_r 11 ?_);refine a_3 ?_;refine n_g rfl (by simp) ?_;refine n_g rfl (by simp) ?_;refine n_g rfl (by simp) ?_;refine n_g rfl (by simp) ?_;refine n_g rfl (by simp) ?_;refine n_g rfl (by simp) ?_;refine n_g rfl (by simp) ?_;refine o_0 (.pickF rfl (by simp) rfl) ?_;refine aq ?_;refine cF ?_;refine aB ⟨0,⟨Nat.zero_le _,?_⟩,?_⟩;rw[ht];rfl;simp only[trS.eq_1];exact s_e []
 |succ n=>
  obtain⟨q,hq⟩:∃q,l[n]?=some q:=⟨_,List.getElem?_eq_getElem (by omega)⟩
  have hq':(pE l)[(((n+1:Nat):Int)- 1).toNat]?=some (qC q):=by
   rw[show(((n+1:Nat):Int)- 1).toNat=n by omega];exact bK hq
  have hs:av (l.take (n+1))=if q=0 then av (l.take n) else l.take (n+1):=by
   rw[dx hq,mS]
  refine ae (s_r 11 ?_);refine a_3 ?_;refine y_g rfl (by simp <;> omega) (.move rfl) ?_;refine y_g rfl (by simp <;> omega) (.move rfl) ?_;refine y_g rfl (by simp <;> omega) (.bin rfl rfl (jn (by omega))) ?_
  first|refine y_g rfl (by simp <;> omega) (.index_l rfl rfl (by omega) (by omega) te_30.h) ?_|refine y_g rfl (by simp <;> omega) (.index_a rfl rfl (by omega) hq' rfl te_30.h) ?_
  first|refine y_g rfl (by simp <;> omega) (.load_l rfl rfl hq' TG.h TS.h (nle rfl)) ?_|refine y_g rfl (by simp <;> omega) (.load_a rfl hq' TG.h TS.h (nle rfl)) ?_
  refine y_g rfl (by simp <;> omega) (.call rfl rfl rfl (b6 q)) ?_;refine y_g rfl (by simp <;> omega) (.bin rfl rfl aV) ?_;refine o_0 (.pickT rfl (by simp <;> omega) rfl) ?_;refine aq ?_;refine au rfl (fun h=>?_) (fun h=>?_)
  have h0:q=0:=by
   have h1:sgZ q.num=0:=by simpa using h
   exact sgZ_num_eq.1 h1
  refine an (ak (r_m 3 ?_));refine a_z ?_;refine⟨n,Nat.lt_succ_self n,⟨by omega,?_⟩,?_⟩;rw[ht,hs,if_pos h0];simp only[trS.eq_1];exact s_e []
  have h0:q≠0:=by
   intro e;have h1:¬sgZ q.num=0:=by simpa using h
   exact h1 (sgZ_num_eq.2 e)
  refine aB ⟨n+1,⟨hn,?_⟩,?_⟩;rw[ht,hs,if_neg h0];simp only[trS.eq_1];exact s_e []
 rintro n ⟨hn,ht⟩;rw[trS.eq_1];have hcl:=yI (l.take n) (by simp;omega);refine s_r 5 ?_;refine a_2 ?_;refine o_0 (.sa_h rfl rfl (h:=n) rfl (by simp;omega) te_30.h (eF _)) ?_;refine o_0 (.call rfl rfl rfl ((by rw[kx];exact hcl))) ?_;refine o_0 (.assign rfl) ?_;refine aq ?_;refine am (aR rfl ?_ ?_);rw[ht];exact aP (aF _)
theorem bZ(l:Lq)(hl:l.length≤1099511627776):FS 22 [.arr (pE l)] (i64 (ct l)):=by
 have:=ci l;refine f_c Tryz.func22 ?_;refine r_z 1 ?_;refine r_c 5 (cY l hl) ?_;refine a_z ?_;exact am (t_e (ag _))
theorem kK(l:Lq)(hl:l.length≤1099511627776):FS 110 [.arr (pE l)] (.agg (qC (aS l))):=by
 have hlen:=ci l;refine f_c Tryz.func110 ?_;refine r_z 1 ?_;refine r_c 3 (cY l hl) ?_;refine a_z ?_;refine ae (r_z 3 ?_);refine au rfl (fun h=>?_) (fun h=>?_)
 have h0:av l=[]:=by
  have h1:(av l).length=0:=by simpa using h
  exact List.length_eq_zero_iff.1 h1
 rw[pt h0];refine r_z 2 ?_;refine am (Fin.cell rfl rfl rfl TG.h TS.h (nle rfl) (Cv.agg ?_));rw[qC0];exact af (Cv.emp _) (af (ah aE (ag _)) (af (Cv.emp _) ay))
 obtain⟨n,hn⟩:∃n,(av l).length=n+1:=⟨(av l).length- 1,by
  have h1:¬(av l).length=0:=by simpa using h
  omega⟩
 have hg:(pE (av l))[(((av l).length:Int)- 1).toNat]?=some (qC (aS l)):=by
  rw[hn,show(((n+1:Nat):Int)- 1).toNat=n by omega];exact bK (dV hn)
 refine an (s_r 7 ?_);refine a_4 ?_;refine i_x hg ?_;refine l_x hg ?_;refine a_z ?_;exact am (c_e (aM _))
theorem fs_at(l:Lq)(i:Nat):FS 172 [.arr (pE l),i64 i] (.agg (qC (coP l i))):=by
 refine f_c Tryz.func172 ?_;refine r_z 1 ?_;refine ae (r_z 4 ?_);refine au rfl (fun h=>?_) (fun h=>?_);have hlt:i< l.length:=by simpa using h
 have hg:(pE l)[((i:Nat):Int).toNat]?=some (qC (coP l i)):=bK (bm hlt);refine s_r 5 ?_;refine a_2 ?_;refine i_x hg ?_;refine l_x hg ?_;refine a_z ?_;exact am (c_e (aM _));have hge:l.length≤i:=by simpa using h
 rw[eK hge];refine an (r_z 2 ?_);refine am (Fin.cell rfl rfl rfl TG.h TS.h (nle rfl) (Cv.agg ?_));rw[qC0];exact af (Cv.emp _) (af (ah aE (ag _)) (af (Cv.emp _) ay))
theorem eE_set{n i e:Nat}{f:Nat→Rat}(h:i< n)(he:e=i):(pE (aL i f)++List.replicate (n- i) zC).set e (qC (f i))=pE (aL (i+1) f)++List.replicate (n- (i+1)) zC:=by
 subst he;obtain⟨k,rfl⟩:∃k,n=e+1+k:=⟨n- (e+1),by omega⟩;rw[show e+1+k- e=k+1 by omega,show e+1+k- (e+1)=k by omega,List.replicate_succ,List.set_append_right _ _ (by simp)];simp[aL,List.range_succ,pE]
theorem eE_get{n i e:Nat}{f:Nat→Rat}(h:i< n)(he:e=i):(pE (aL i f)++List.replicate (n- i) zC)[e]?=some zC:=by
 subst he;rw[List.getElem?_append_right (by simp),List.getElem?_replicate,if_pos (by simp;omega)]
theorem pS(n i:Nat)(f:Nat→Rat):∀e∈pE (aL i f)++List.replicate (n- i) zC,∀c∈e,Closed c:=by
 intro e he;rcases List.mem_append.1 he with he|he
 exact aF _ e he;rw[List.eq_of_mem_replicate he];exact bJ
def FK(n:Nat)(f:Nat→Rat)(g:Nat)(cap:La):Nat→AState
 |i=>⟨[(1,.clos g [] cap),(5,.lsl 1 0 n (some n) 3),(10,i64 n),(11,i64 i)],[(1,some ⟨42,3,pE (aL i f)++List.replicate (n- i) zC⟩)],2,23⟩
theorem wz(n:Nat)(f:Nat→Rat)(g:Nat)(cap:La)(hn:n≤1099511627776)(hcap:∀c∈cap,Closed c)(hg:∀i,i< n→FS g ((i64 i::cap).map coe) (.agg (qC (f i)))):FS 169 [i64 n,.clos g [] cap] (.arr (pE (av (aL n f)))):=by
 refine f_n Tryz.func169 ?_ ?_;exact ac (ag _) (ac (aT ai hcap) ai);refine r_z 1 ?_;refine r_z 3 ?_;refine ae (r_z 3 ?_);refine aH (fun _:Unit=>FK n f g cap n) (fun _=>True) ?_ ?_;refine ak (aC (FK n f g cap) (fun i=>n- i) (fun i=>i≤n) 0 (Nat.zero_le _) ?_ ?_);simp only[FK.eq_1];refine s_x [(1,5)] (fun hs=>e_4) (fun hs=>?_)
 ·repeat' (first|exact aD|refine h_c ?_ ?_|exact aI hs rfl (pS n 0 f)|exact bC|refine aw ?_|exact ay|refine af ?_ ?_|exact ah hs (aT ai hcap)|exact aW)
 rintro i hi;rw[FK.eq_1];refine r_z 1 ?_;refine ae (au rfl (fun h=>?_) (fun h=>?_));refine an ?_;have hlt:i< n:=by simpa using h
 refine ae (ak (r_z 2 ?_));refine r_m 7 ?_;refine c_s (hg i hlt) ?_;refine a_1 ?_;refine ep (.store rfl rfl (eE_get hlt (Nat.zero_add i)) rfl rfl rfl TS.h (nle rfl)) ?_;refine aq ?_;refine r_m 2 ?_;refine a_z ?_;refine⟨i+1,by omega,hlt,?_⟩;simp only[FK.eq_1];refine s_x [] (fun hs=>e_4) (fun hs=>?_)
 ·repeat' (first|exact aD|refine h_c ?_ ?_|exact aI hs (eE_set hlt (Nat.zero_add i)) (pS n (i+1) f)|exact bC|refine aw ?_|exact ay|refine af ?_ ?_|exact ah hs (aT ai hcap)|exact aW)
 have hge:i=n:=by
  have:¬i< n:=by simpa using h
  omega
 subst hge;refine aB ⟨(),trivial,?_⟩;simp only[FK.eq_1];refine s_x [] (fun hs=>e_4) (fun hs=>?_)
 ·repeat' (first|exact aD|refine h_c ?_ ?_|exact b9 hs (pS i i f)|exact bC|refine aw ?_|exact ay|refine af ?_ ?_|exact ah hs (aT ai hcap)|exact aW)
 rintro _ _;rw[FK.eq_1]
 have hfull:List.take n (List.drop 0 (pE (aL n f)++List.replicate (n- n) zC))=pE (aL n f):=by
  rw[Nat.sub_self,List.replicate_zero,List.append_nil,List.drop_zero,List.take_of_length_le (by simp)]
 refine s_r 3 ?_;refine a_1 ?_;refine o_1 (.callS1 rfl rfl rfl (.shut rfl d_n (.nil)) rfl ((by rw[hfull];exact cY (aL n f) (by simp;exact hn)))) ?_;refine a_z ?_;exact am (t_e (aP (aF _)))
section
variable {o:Option (List UInt8)}{n:Nat}
section
variable {P:Go.Program}{T:Nat}{x y:Operand}
theorem zc{l m:List UInt8}:∀w,(do eqGuard .neq T x y (.string ⟨l.toArray⟩) (.string ⟨m.toArray⟩);binOp .neq T (.string ⟨l.toArray⟩) (.string ⟨m.toArray⟩):Sem Value).run P w= .ok (.bool (!decide (l=m))) w:=fun w=>by
 rw[zb];congr 2
 have e:∀l:List UInt8,(⟨l.toArray⟩:ByteArray).toList=l:=by
  intro l;have:=ByteArray.toList_eq (bs:=⟨l.toArray⟩);simpa using this
 rw[e,e];rw[Bool.eq_iff_iff];simp
end
def jN(o:Option (List UInt8))(c:Rat):Option (List UInt8):=
 match o with
 |none=>if c< 0 then some [45] else none
 |some s=>if c< 0 then some (s++[32,45,32]) else some (s++[32,43,32])
def wrO(o:Option (List UInt8))(t:List UInt8):Option (List UInt8):=some (o.getD []++t)
def jz(o:Option (List UInt8))(t:List UInt8):Option (List UInt8):=if t=[49] then o else wrO o (t++[32])
def mT(tq:Rat→List UInt8)(ti:Nat→List UInt8)(o:Option (List UInt8))(c:Rat)(n:Nat):Option (List UInt8):=
 if n=0 then wrO (jN o c) (tq (cI c))
 else if 1< n then wrO (wrO (jz (jN o c) (tq (cI c))) [120]) ([94]++ti n) else wrO (jz (jN o c) (tq (cI c))) [120]
def pZ(tq:Rat→List UInt8)(ti:Nat→List UInt8)(p:Lq):Nat→Option (List UInt8)→Option (List UInt8)
 |0,o=>o
 |n+1,o=>pZ tq ti p n (if coP p n=0 then o else mT tq ti o (coP p n) n)
def BC(tq:Rat→List UInt8)(ti:Nat→List UInt8)(p:Lq):List UInt8:=(pZ tq ti (av p) (av p).length none).getD [48]
def BB(p:Lq):List UInt8:=BC jL iM p
def EU(p:Lq):Prop:=p.length≤1000∧(av p).length≤99∧(∀c∈av p,okT c)
instance (p:Lq):Decidable (EU p):=inferInstanceAs (Decidable (_∧_∧_))
def pb0(p:Lq):Int→AState
 |n=>⟨[(0,.arr (pE p)),(3,.lptr 1 0 0),(4,i64 n)],[(1,some ⟨148,2,[ed 1 2 none]⟩)],4,67⟩
def pb1(p:Lq):Int×List UInt8→AState
 |(n,s)=>⟨[(0,.arr (pE p)),(3,.lptr 1 0 0),(4,i64 n)],[(1,some ⟨148,2,[ed 1 2 (some s)]⟩),(2,some ⟨5,1,bE s⟩)],4,67⟩
def pbS(p:Lq)(n:Int):Option (List UInt8)→AState
 |none=>pb0 p n
 |some s=>pb1 p (n,s)
def pc0(p:Lq)(c:Rat):Int→AState
 |n=>⟨[(0,.arr (pE p)),(3,.lptr 1 0 0),(4,i64 n),(5,.lptr 3 0 0)],[(1,some ⟨148,2,[ed 1 2 none]⟩),(3,some ⟨42,3,[qC c]⟩)],4,67⟩
def pc1(p:Lq)(c:Rat):Int×List UInt8→AState
 |(n,s)=>⟨[(0,.arr (pE p)),(3,.lptr 1 0 0),(4,i64 n),(5,.lptr 3 0 0)],[(1,some ⟨148,2,[ed 1 2 (some s)]⟩),(2,some ⟨5,1,bE s⟩),(3,some ⟨42,3,[qC c]⟩)],4,67⟩
def pcS(p:Lq)(c:Rat)(n:Int):Option (List UInt8)→AState
 |none=>pc0 p c n
 |some s=>pc1 p c (n,s)
def pd0(p:Lq)(t:List UInt8):Int→AState
 |n=>⟨[(0,.arr (pE p)),(3,.lptr 1 0 0),(4,i64 n),(6,tx t)],[(1,some ⟨148,2,[ed 1 2 none]⟩)],4,67⟩
def pd1(p:Lq)(t:List UInt8):Int×List UInt8→AState
 |(n,s)=>⟨[(0,.arr (pE p)),(3,.lptr 1 0 0),(4,i64 n),(6,tx t)],[(1,some ⟨148,2,[ed 1 2 (some s)]⟩),(2,some ⟨5,1,bE s⟩)],4,67⟩
def pdS(p:Lq)(t:List UInt8)(n:Int):Option (List UInt8)→AState
 |none=>pd0 p t n
 |some s=>pd1 p t (n,s)
def qz(o:Option (List UInt8))(n:Nat):Prop:=∀s,o=some s→s≠[]∧s.length≤n
theorem sO(n:Nat):qz none n:=fun s h=>by cases h
theorem pm{t:List UInt8}(h:qz o n)(h0:t≠[]):qz (wrO o t) (n+t.length):=by
 intro s hs;cases hs;cases o with
 |none=>exact⟨by simpa using h0,by simp⟩
 |some q=>exact⟨by simp[h0],by have:=(h q rfl).2;simp;omega⟩
theorem xV(h:qz o n)(c:Rat):qz (jN o c) (n+3):=by
 intro s hs;cases o with
 |none=>
  simp only[jN] at hs;split at hs;cases hs;exact⟨by simp,by simp⟩;cases hs
 |some q=>
  have:=(h q rfl).2;simp only[jN] at hs;split at hs <;> cases hs <;> exact⟨by simp,by simp;omega⟩
theorem gj{m:Nat}(h:qz o n)(hm:n≤m):qz o m:=fun s hs=>⟨(h s hs).1,Nat.le_trans (h s hs).2 hm⟩
theorem Ec(q:Rat):jL q≠[]:=List.length_pos_iff.1 (textQ_len (q:=q)).2
theorem sgZ_neg(c:Rat):sgZ c.num< 0↔c< 0:=by
 rw[←oc];unfold sgZ;split;omega;split <;> omega
theorem okT_abs{c:Rat}(h:okT c):okT (cI c):=by
 rw[rD];split;obtain⟨h1,h2⟩:=h;exact⟨by rw[Rat.neg_num];simpa using h1,by rw[Rat.neg_den];exact h2⟩;exact h
theorem DA(tq:Rat→List UInt8)(ti:Nat→List UInt8)(L:Nat)(p:Lq)(h1:p.length≤1000)(hL:L≤10000)(h3:∀c∈av p,FS 34 [.agg (qC (cI c))] (tx (tq (cI c)))∧tq (cI c)≠[]∧(tq (cI c)).length≤L)(hI:∀n,n< (av p).length→FS 96 [i64 n] (tx (ti n))∧(ti n).length≤20):FS 33 [.arr (pE p)] (tx (BC tq ti p)):=by
 have htr:=cY p (by omega);obtain⟨q,hq⟩:∃q,q=av p:=⟨_,rfl⟩;have hR:BC tq ti p=(pZ tq ti q q.length none).getD [48]:=by unfold BC;rw[hq]
 rw[hR];have h2:=ci p;rw[←hq] at htr h2 h3 hI;have hall:∀k,(q.length- k) * (L+30)≤10030000:=fun k=>Nat.mul_le_mul (show q.length- k≤1000 by omega) (show L+30≤10030 by omega);refine f_c Tryz.func33 ?_;refine r_z 1 ?_;refine r_z 1 ?_;refine r_c 3 (htr) ?_;refine a_z ?_;refine ae (r_z 4 ?_);refine aH (pbS q (-1)) (fun o=>o=pZ tq ti q q.length none∧qz o 20000000) ?_ ?_;refine ak (aC (fun x:Nat×Option (List UInt8)=>pbS q ((x.1:Int)- 1) x.2) (fun x=>x.1) (fun x=>x.1≤q.length∧pZ tq ti q x.1 x.2=pZ tq ti q q.length none∧qz x.2 ((q.length- x.1) * (L+30))) (q.length,none) ⟨Nat.le_refl _,rfl,sO _⟩ ?_ ?_);show SEnt _ (pb0 q ((q.length:Int)- 1));rw[pb0.eq_1];exact s_e [(1,3)];rintro⟨n,o⟩ ⟨hn,hr,ho⟩;simp only at hn hr ho;cases n with
 |zero=>
  cases o with
  |none=>
   show AWp _ _ _ _ (pb0 q (((0:Nat):Int)- 1));rw[pb0.eq_1];refine ae (r_z 2 ?_);refine au rfl (fun h4=>?_) (fun h4=>?_);exact absurd h4 (by simp);refine aB ⟨none,⟨hr,sO _⟩,?_⟩;show SEnt _ (pb0 q (-1));rw[pb0.eq_1];exact s_e []
  |some s=>
   show AWp _ _ _ _ (pb1 q (((0:Nat):Int)- 1,s));rw[pb1.eq_1];refine ae (r_z 2 ?_);refine au rfl (fun h4=>?_) (fun h4=>?_);exact absurd h4 (by simp);refine aB ⟨some s,⟨hr,gj ho (by have:=hall 0;omega)⟩,?_⟩;show SEnt _ (pb1 q (-1,s));rw[pb1.eq_1];exact s_e []
 |succ n=>
  have hcn:((n+1:Nat):Int)- 1=(n:Int):=by omega
  rw[hcn];rw[pZ] at hr;have hlt:n< q.length:=by omega
  obtain⟨c,hc⟩:∃c,c=coP q n:=⟨_,rfl⟩;rw[←hc] at hr;have hg:(pE q)[((n:Nat):Int).toNat]?=some (qC c):=by rw[Int.toNat_natCast,hc];exact bK (bm hlt)
  obtain⟨fT,htn,htl⟩:=h3 c (by rw[hc];exact List.mem_of_getElem? (bm hlt))
  have hm:(q.length- n) * (L+30)=(q.length- (n+1)) * (L+30)+(L+30):=by
   rw[show q.length- n=(q.length- (n+1))+1 by omega,Nat.add_mul,Nat.one_mul]
  obtain⟨B,hB⟩:∃B,B=(q.length- (n+1)) * (L+30):=⟨_,rfl⟩;have hmx:B≤10030000:=by rw[hB];exact hall _
  rw[←hB] at ho hm;obtain⟨t,ht⟩:∃t,t=tq (cI c):=⟨_,rfl⟩;rw[←ht] at htn htl fT;obtain⟨fI,hd2⟩:=hI n hlt;refine aZ (fun _:Unit=>pbS q n o) (fun _=>True) ?_ ?_;cases o with
  |none=>
   show AWp _ _ _ _ (pb0 q n);rw[pb0.eq_1];refine r_z 2 ?_;refine au rfl (fun h4=>?_) (fun h4=>?_);refine an ⟨(),trivial,?_⟩;show SEnt _ (pb0 q n);rw[pb0.eq_1];exact s_e [];exact absurd h4 (by simp)
  |some s=>
   show AWp _ _ _ _ (pb1 q (n,s));rw[pb1.eq_1];refine r_z 2 ?_;refine au rfl (fun h4=>?_) (fun h4=>?_);refine an ⟨(),trivial,?_⟩;show SEnt _ (pb1 q (n,s));rw[pb1.eq_1];exact s_e [];exact absurd h4 (by simp)
  rintro _ _;refine aZ (pbS q n) (fun o'=>o'=(if c=0 then o else mT tq ti o c n)) ?_ ?_;refine ak (aZ (fun _:Unit=>pcS q c n o) (fun _=>True) ?_ ?_);cases o with
  |none=>
   show AWp _ _ _ _ (pb0 q n);rw[pb0.eq_1];refine r_m 6 ?_;refine a_2 ?_;refine i_x hg ?_;refine l_x hg ?_;refine a_z ?_;refine⟨(),trivial,?_⟩;show SEnt _ (pc0 q c n);rw[pc0.eq_1];exact s_x [(3,5)] (fun hs=>dj) (fun hs=>e_6)
  |some s=>
   show AWp _ _ _ _ (pb1 q (n,s));rw[pb1.eq_1];refine r_m 6 ?_;refine a_2 ?_;refine i_x hg ?_;refine l_x hg ?_;refine a_z ?_;refine⟨(),trivial,?_⟩;show SEnt _ (pc1 q c (n,s));rw[pc1.eq_1];exact s_x [(3,5)] (fun hs=>dj) (fun hs=>e_6)
  rintro _ _;refine aZ (fun _:Unit=>pcS q c n o) (fun _=>c≠0) ?_ ?_;cases o with
  |none=>
   show AWp _ _ _ _ (pc0 q c n);rw[pc0.eq_1];refine r_c 3 (b6 c) ?_;refine a_z ?_;refine au rfl (fun h4=>?_) (fun h4=>?_);have h5:c=0:=sgZ_num_eq.1 (by simpa using h4);refine aB ⟨none,by rw[if_pos h5],?_⟩;show SEnt _ (pb0 q n);rw[pb0.eq_1];exact s_e [];have h5:c≠0:=fun e=>by have h6:=sgZ_num_eq.2 e;simp[h6] at h4
   refine an ⟨(),h5,?_⟩;show SEnt _ (pc0 q c n);rw[pc0.eq_1];exact s_e []
  |some s=>
   show AWp _ _ _ _ (pc1 q c (n,s));rw[pc1.eq_1];refine r_c 3 (b6 c) ?_;refine a_z ?_;refine au rfl (fun h4=>?_) (fun h4=>?_);have h5:c=0:=sgZ_num_eq.1 (by simpa using h4);refine aB ⟨some s,by rw[if_pos h5],?_⟩;show SEnt _ (pb1 q (n,s));rw[pb1.eq_1];exact s_e [];have h5:c≠0:=fun e=>by have h6:=sgZ_num_eq.2 e;simp[h6] at h4
   refine an ⟨(),h5,?_⟩;show SEnt _ (pc1 q c (n,s));rw[pc1.eq_1];exact s_e []
  rintro _ hc0;rw[if_neg hc0];have hsg:(sgZ c.num< 0)↔c< 0:=sgZ_neg c;refine aZ (pcS q c n) (fun o'=>o'=jN o c) ?_ ?_;refine ak ?_;cases o with
  |none=>
   show AWp _ _ _ _ (pc0 q c n);rw[pc0.eq_1];refine s_r 8 ?_;refine o_0 (.callR (s:=none) (j:=0) (tb:=0) rfl rfl rfl rfl rfl (fun _ h=>by cases h) (rv)) ?_;refine a_2 ?_
   first|refine y_g rfl d_t (.load_l rfl rfl rfl TG.h TS.h (nle rfl)) ?_|refine y_g rfl d_t (.load_a rfl rfl TG.h TS.h (nle rfl)) ?_
   refine y_g rfl d_t (.call rfl rfl rfl (b6 c)) ?_;refine y_g rfl d_t (.bin rfl rfl dY) ?_;refine o_0 (.pickT rfl d_t rfl) ?_;refine a_z ?_;refine au rfl (fun h4=>?_) (fun h4=>?_);have h5:c< 0:=hsg.1 (by simpa using h4);refine r_m 1 ?_;refine o_2 (.callB (s:=none) (j:=0) rfl rfl rfl rfl rfl rfl (fun _ h=>by cases h) (j9 [45] (by simp) (by simp))) ?_;refine aq ?_;refine⟨some [45],by simp only[jN];rw[if_pos h5],?_⟩;show SEnt _ (pc1 q c (n,[45]));rw[pc1.eq_1];exact s_z [(2,100012)] (fun hs=>dj) (fun hs=>e_6);have h5:¬c< 0:=fun e=>by have h6:=hsg.2 e;simp[h6] at h4
   refine s_r 8 ?_;refine o_0 (.callR (s:=none) (j:=0) (tb:=0) rfl rfl rfl rfl rfl (fun _ h=>by cases h) (rv)) ?_;refine a_2 ?_;refine n_g rfl d_f ?_;refine n_g rfl d_f ?_;refine n_g rfl d_f ?_;refine o_0 (.pickF rfl d_f rfl) ?_;refine a_z ?_;refine cF (s_r 3 ?_);refine o_0 (.callR (s:=none) (j:=0) (tb:=0) rfl rfl rfl rfl rfl (fun _ h=>by cases h) (rv)) ?_;refine a_z ?_;refine au rfl (fun h7=>?_) (fun h7=>?_);exact absurd h7 (by simp);refine an ⟨none,by simp only[jN];rw[if_neg h5],?_⟩;show SEnt _ (pc0 q c n);rw[pc0.eq_1];exact s_e []
  |some s=>
   have hsn:=(ho s rfl).1;have hsl:=(ho s rfl).2;have hs0:s.length≠0:=by simpa using hsn
   show AWp _ _ _ _ (pc1 q c (n,s));rw[pc1.eq_1];refine s_r 8 ?_;refine o_0 (.callR (s:=some _) rfl rfl rfl rfl rfl (fun _ h=>by cases h;exact rfl) (ru s)) ?_;refine a_2 ?_;refine n_g rfl (by simp;omega) ?_;refine n_g rfl (by simp;omega) ?_;refine n_g rfl (by simp;omega) ?_;refine o_0 (.pickF rfl (by simp;omega) rfl) ?_;refine a_z ?_;refine au rfl (fun h4=>?_) (fun h4=>?_)
   ·first|(simp at h4;done)|(simp at h4;omega)|(simp at h4;exact absurd h4 hsn)
   refine s_r 8 ?_;refine o_0 (.callR (s:=some _) rfl rfl rfl rfl rfl (fun _ h=>by cases h;exact rfl) (ru s)) ?_;refine a_2 ?_
   first|refine y_g rfl (by simp;omega) (.load_l rfl rfl rfl TG.h TS.h (nle rfl)) ?_|refine y_g rfl (by simp;omega) (.load_a rfl rfl TG.h TS.h (nle rfl)) ?_
   refine y_g rfl (by simp;omega) (.call rfl rfl rfl (b6 c)) ?_;refine y_g rfl (by simp;omega) (.bin rfl rfl dY) ?_;refine o_0 (.pickT rfl (by simp;omega) rfl) ?_;refine a_z ?_;refine au rfl (fun h6=>?_) (fun h6=>?_);have h5:c< 0:=hsg.1 (by simpa using h6);refine r_m 1 ?_;refine o_3 (.callB (s:=some _) rfl rfl rfl rfl rfl rfl (fun _ h=>by cases h;exact⟨rfl,by decide⟩) (iU s [32,45,32] (by simp;omega))) ?_;refine aq ?_;refine⟨some (s++[32,45,32]),by simp only[jN];rw[if_pos h5],?_⟩;show SEnt _ (pc1 q c (n,s++[32,45,32]));rw[pc1.eq_1];exact s_z [(2,100020)] (fun hs=>dj) (fun hs=>e_6);have h5:¬c< 0:=fun e=>by have h7:=hsg.2 e;simp[h7] at h6
   refine s_r 3 ?_;refine o_0 (.callR (s:=some _) rfl rfl rfl rfl rfl (fun _ h=>by cases h;exact rfl) (ru s)) ?_;refine a_z ?_;refine au rfl (fun h7=>?_) (fun h7=>?_);refine r_m 1 ?_;refine o_3 (.callB (s:=some _) rfl rfl rfl rfl rfl rfl (fun _ h=>by cases h;exact⟨rfl,by decide⟩) (iU s [32,43,32] (by simp;omega))) ?_;refine aq ?_;refine⟨some (s++[32,43,32]),by simp only[jN];rw[if_neg h5],?_⟩;show SEnt _ (pc1 q c (n,s++[32,43,32]));rw[pc1.eq_1];exact s_z [(2,100023)] (fun hs=>dj) (fun hs=>e_6)
   ·first|(simp at h7;done)|(simp at h7;omega)|(simp at h7;exact absurd h7 hsn)
  rintro o1 rfl;have ho1:=xV ho c;obtain⟨o1,ho1e⟩:∃o1,o1=jN o c:=⟨_,rfl⟩;rw[←ho1e] at ho1⊢;refine aZ (fun _:Unit=>pdS q t n o1) (fun _=>True) ?_ ?_;cases o1 with
  |none=>
   show AWp _ _ _ _ (pc0 q c n);rw[pc0.eq_1];refine r_m 4 ?_;refine c_s (eH c) ?_;refine c_s (fT) ?_;refine a_z ?_;refine⟨(),trivial,?_⟩;show SEnt _ (pd0 q t n);rw[pd0.eq_1];exact s_e []
  |some s=>
   show AWp _ _ _ _ (pc1 q c (n,s));rw[pc1.eq_1];refine r_m 4 ?_;refine c_s (eH c) ?_;refine c_s (fT) ?_;refine a_z ?_;refine⟨(),trivial,?_⟩;show SEnt _ (pd1 q t (n,s));rw[pd1.eq_1];exact s_e []
  rintro _ _;refine aZ (fun _:Unit=>pdS q t n o1) (fun _=>n≠0) ?_ ?_;cases o1 with
  |none=>
   show AWp _ _ _ _ (pd0 q t n);rw[pd0.eq_1];refine r_z 2 ?_;refine au rfl (fun h4=>?_) (fun h4=>?_);have h5:n=0:=by simpa using h4
   subst h5;refine s_r 2 ?_;refine a_1 ?_;refine o_2 (.callB (s:=none) (j:=0) rfl rfl rfl rfl rfl rfl (fun _ h=>by cases h) (j9 t htn (by omega))) ?_;refine aq ?_;refine aB ⟨some t,by unfold mT;rw[if_pos rfl,←ho1e,←ht];rfl,?_⟩;show SEnt _ (pb1 q (((0:Nat):Int),t));rw[pb1.eq_1];exact s_z [(2,100007)] (fun hs=>dj) (fun hs=>jq);have h5:n≠0:=fun e=>by simp[e] at h4
   refine an ⟨(),h5,?_⟩;show SEnt _ (pd0 q t n);rw[pd0.eq_1];exact s_e []
  |some s=>
   have hsl:=(ho1 s rfl).2;show AWp _ _ _ _ (pd1 q t (n,s));rw[pd1.eq_1];refine r_z 2 ?_;refine au rfl (fun h4=>?_) (fun h4=>?_);have h5:n=0:=by simpa using h4
   subst h5;refine s_r 2 ?_;refine a_1 ?_;refine o_3 (.callB (s:=some _) rfl rfl rfl rfl rfl rfl (fun _ h=>by cases h;exact⟨rfl,by decide⟩) (iU s t (by omega))) ?_;refine aq ?_;refine aB ⟨some (s++t),by unfold mT;rw[if_pos rfl,←ho1e,←ht];rfl,?_⟩;show SEnt _ (pb1 q (((0:Nat):Int),s++t));rw[pb1.eq_1];exact s_z [(2,100007)] (fun hs=>dj) (fun hs=>jq);have h5:n≠0:=fun e=>by simp[e] at h4
   refine an ⟨(),h5,?_⟩;show SEnt _ (pd1 q t (n,s));rw[pd1.eq_1];exact s_e []
  rintro _ hn0;refine aZ (pbS q n) (fun o'=>o'=jz o1 t) ?_ ?_;cases o1 with
  |none=>
   show AWp _ _ _ _ (pd0 q t n);rw[pd0.eq_1];refine s_r 2 ?_;refine a_1 ?_;refine o_0 (.bin rfl rfl (zc (m:=[49]))) ?_;refine aq ?_;refine au rfl (fun h4=>?_) (fun h4=>?_);have h5:¬t=[49]:=by simpa using h4
   refine r_m 3 ?_;refine a_1 ?_;refine o_0 (.bin rfl rfl (kg (m:=[32]) (by simp;omega))) ?_;refine o_2 (.callB (s:=none) (j:=0) rfl rfl rfl rfl rfl rfl (fun _ h=>by cases h) (j9 (t++[32]) (by simp) (by simp;omega))) ?_;refine aq ?_;refine⟨some (t++[32]),by unfold jz;rw[if_neg h5];rfl,?_⟩;show SEnt _ (pb1 q (n,t++[32]));rw[pb1.eq_1];exact s_z [(2,100008)] (fun hs=>dj) (fun hs=>jq);have h5:t=[49]:=by simpa using h4
   refine an ⟨none,by unfold jz;rw[if_pos h5],?_⟩;show SEnt _ (pb0 q n);rw[pb0.eq_1];exact s_e []
  |some s=>
   have hsl:=(ho1 s rfl).2;show AWp _ _ _ _ (pd1 q t (n,s));rw[pd1.eq_1];refine s_r 2 ?_;refine a_1 ?_;refine o_0 (.bin rfl rfl (zc (m:=[49]))) ?_;refine aq ?_;refine au rfl (fun h4=>?_) (fun h4=>?_);have h5:¬t=[49]:=by simpa using h4
   refine r_m 3 ?_;refine a_1 ?_;refine o_0 (.bin rfl rfl (kg (m:=[32]) (by simp;omega))) ?_;refine o_3 (.callB (s:=some _) rfl rfl rfl rfl rfl rfl (fun _ h=>by cases h;exact⟨rfl,by decide⟩) (iU s (t++[32]) (by simp;omega))) ?_;refine aq ?_;refine⟨some (s++(t++[32])),by unfold jz;rw[if_neg h5];rfl,?_⟩;show SEnt _ (pb1 q (n,s++(t++[32])));rw[pb1.eq_1];exact s_z [(2,100008)] (fun hs=>dj) (fun hs=>jq);have h5:t=[49]:=by simpa using h4
   refine an ⟨some s,by unfold jz;rw[if_pos h5],?_⟩;show SEnt _ (pb1 q (n,s));rw[pb1.eq_1];exact s_e []
  rintro o2 ho2e
  have ho2:qz o2 (B+L+4):=by
   rw[ho2e];unfold jz;split;exact gj ho1 (by omega);exact gj (pm ho1 (t:=t++[32]) (by simp)) (by simp;omega)
  refine aZ (fun s=>pb1 q (n,s)) (fun s=>wrO o2 [120]=some s) ?_ ?_;cases o2 with
  |none=>
   show AWp _ _ _ _ (pb0 q n);rw[pb0.eq_1];refine r_m 1 ?_;refine o_2 (.callB (s:=none) (j:=0) rfl rfl rfl rfl rfl rfl (fun _ h=>by cases h) (j9 [120] (by simp) (by simp))) ?_;refine aq ?_;refine⟨[120],rfl,?_⟩;simp only[pb1.eq_1];exact s_z [(2,100004)] (fun hs=>dj) (fun hs=>jq)
  |some s=>
   have hsl:=(ho2 s rfl).2;show AWp _ _ _ _ (pb1 q (n,s));rw[pb1.eq_1];refine r_m 1 ?_;refine o_3 (.callB (s:=some _) rfl rfl rfl rfl rfl rfl (fun _ h=>by cases h;exact⟨rfl,by decide⟩) (iU s [120] (by simp;omega))) ?_;refine aq ?_;refine⟨s++[120],rfl,?_⟩;simp only[pb1.eq_1];exact s_z [(2,100004)] (fun hs=>dj) (fun hs=>jq)
  rintro s hs3;have ho3:=pm ho2 (t:=[120]) (by simp) s hs3;have hsl:s.length≤B+L+5:=ho3.2;simp only[pb1.eq_1];refine r_z 2 ?_;refine au rfl (fun h4=>?_) (fun h4=>?_);have h5:1< n:=by simp at h4;omega
  refine r_m 4 ?_;refine c_s (fI) ?_;refine o_0 (.bin rfl rfl (kg (l:=[94]) (by simp;omega))) ?_;refine o_3 (.callB (s:=some _) rfl rfl rfl rfl rfl rfl (fun _ h=>by cases h;exact⟨rfl,by decide⟩) (iU s ([94]++ti n) (by simp;omega))) ?_;refine aq ?_;refine⟨some (s++([94]++ti n)),by unfold mT;rw[if_neg hn0,if_pos h5,←ho1e,←ht,←ho2e,hs3];rfl,?_⟩;show SEnt _ (pb1 q (n,s++([94]++ti n)));rw[pb1.eq_1];exact s_z [(2,100009)] (fun hs=>dj) (fun hs=>jq);have h5:¬1< n:=by simp at h4;omega
  refine an ⟨some s,by unfold mT;rw[if_neg hn0,if_neg h5,←ho1e,←ht,←ho2e,hs3],?_⟩;show SEnt _ (pb1 q (n,s));rw[pb1.eq_1];exact s_e [];rintro o' ho'
  have hok':qz o' (B+(L+30)):=by
   rw[ho'];split;exact gj ho (by omega);have g1:=xV ho c;unfold mT;rw[←ht]
   have g2:qz (jz (jN o c) t) (B+L+4):=by
    unfold jz;split;exact gj g1 (by omega);exact gj (pm g1 (t:=t++[32]) (by simp)) (by simp;omega)
   have g3:=pm g2 (t:=[120]) (by simp);split;exact gj (pm g1 htn) (by omega);split;exact gj (pm g3 (t:=[94]++ti n) (by simp)) (by simp;omega);exact gj g3 (by simp;omega)
  rw[←ho'] at hr;cases o' with
  |none=>
   show AWp _ _ _ _ (pb0 q n);rw[pb0.eq_1];refine r_m 3 ?_;refine a_z ?_;refine⟨(n,none),Nat.lt_succ_self n,⟨by simp only;omega,hr,sO _⟩,?_⟩;show SEnt _ (pb0 q ((n:Int)- 1));rw[pb0.eq_1];exact s_e []
  |some s=>
   show AWp _ _ _ _ (pb1 q (n,s));rw[pb1.eq_1];refine r_m 3 ?_;refine a_z ?_;refine⟨(n,some s),Nat.lt_succ_self n,⟨by simp only;omega,hr,by simp only;rw[hm];exact hok'⟩,?_⟩;show SEnt _ (pb1 q ((n:Int)- 1,s));rw[pb1.eq_1];exact s_e []
 rintro o ⟨rfl,ho⟩;cases ho2:pZ tq ti q q.length none with
 |none=>
  show AWp _ _ _ _ (pb0 q (-1));rw[pb0.eq_1];refine ae (s_r 2 ?_);refine o_0 (.callR (s:=none) (j:=0) (tb:=0) rfl rfl rfl rfl rfl (fun _ h=>by cases h) (rv)) ?_;refine a_z ?_;refine au rfl (fun h4=>?_) (fun h4=>?_);refine r_z 1 ?_;exact am (t_e (ag _));exact absurd h4 (by simp)
 |some s=>
  have hs:=ho s ho2;have hsl:s.length≠0:=by have:=hs.1;simpa using this
  have hne:=hs.1;show AWp _ _ _ _ (pb1 q (-1,s));rw[pb1.eq_1];refine ae (s_r 2 ?_);refine o_0 (.callR (s:=some _) rfl rfl rfl rfl rfl (fun _ h=>by cases h;exact rfl) (ru s)) ?_;refine a_z ?_;refine au rfl (fun h4=>?_) (fun h4=>?_);exact absurd h4 (by simp;omega);refine an (s_r 2 ?_);refine o_2 (.callD rfl rfl rfl rfl rfl rfl (by decide) (by first|assumption|simp) (u7)) ?_;refine a_z ?_;exact am (t_e (ag _))
theorem tl(p:Lq)(h:EU p):FS 33 [.arr (pE p)] (tx (BB p)):=by
 obtain⟨h1,h2,h3⟩:=h;exact DA jL iM 6 p h1 (by decide) (fun c hc=>⟨oF (cI c) (okT_abs (h3 c hc)),Ec _,textQ_len.1⟩) (fun n hn=>⟨Cu n (by omega),Nat.le_trans (j0 n) (by decide)⟩)
end
abbrev bP(p:Lq):AV:= .aptr [[.arr (pE p)]] 0 0
abbrev bQ(q:Rat):AV:= .aptr [qC q] 0 0
theorem cm(p:Lq):Closed (bP p):=aX (ac (ao p) ai)
theorem aO(q:Rat):Closed (bQ q):=aX (aU q)
theorem fs_Add1(p q:Lq)(i:Nat)(hp:smL p)(hq:smL q):FS 171 [i64 i,bP p,bP q] (.agg (qC (coP p i+coP q i))):=by
 refine f_c Tryz.func171 ?_;refine r_z 1 ?_;refine ae (r_d hmix 8 ?_);refine c_s (fs_at p i) ?_;refine c_s (fs_at q i) ?_;refine c_s (ff (coP p i) (coP q i) (sm2 (gG hp i) (gG hq i))) ?_;refine a_1 ?_;refine aq (n_k ?_);exact am (c_e (aM _))
theorem tu(p q:Lq)(hp:smL p)(hq:smL q)(hp1:p.length≤1099511627776)(hq1:q.length≤1099511627776):FS 114 [.arr (pE p),.arr (pE q)] (.arr (pE (kQ p q))):=by
 refine f_c Tryz.func114 ?_;refine r_z 3 ?_;refine AWp.ent (st':=⟨[(2,bP p),(3,bP q)],[],1,12⟩) ?_ ?_;exact s_e []
 have hm:(if ((q.length:Nat):Int)>(p.length:Nat) then((q.length:Nat):Int) else(p.length:Nat))=((max p.length q.length:Nat):Int):=by
  rw[Nat.max_def];split <;> split <;> omega
 have he:=wz (max p.length q.length) (fun i=>coP p i+coP q i) 171 [bP p,bP q] (Nat.max_le.2 ⟨hp1,hq1⟩) (ac (cm p) (ac (cm q) ai)) (fun i _=>fs_Add1 p q i hp hq);rw[←hm] at he;refine r_c 8 (he) ?_;refine a_z ?_;exact am (t_e (ao _))
theorem Du(p:Lq)(k:Rat)(i:Nat)(hp:smL p)(hk:sm k)(hi:i< p.length):FS 170 [i64 i,bP p,bQ k] (.agg (qC (coP p i* k))):=by
 have hg:(pE p)[((i:Nat):Int).toNat]?=some (qC (coP p i)):=bK (bm hi);refine f_c Tryz.func170 ?_;refine r_z 1 ?_;refine ae (r_d hmix 7 ?_);refine a_2 ?_;refine i_x hg ?_;refine l_x hg ?_;refine c_s (c7 (coP p i) k (sm2 (gG hp i) hk)) ?_;refine a_1 ?_;refine aq (n_k ?_);exact am (c_e (aM _))
theorem ii(p:Lq)(k:Rat)(hp:smL p)(hk:sm k)(hp1:p.length≤1099511627776):FS 111 [.arr (pE p),.agg (qC k)] (.arr (pE (cj p k))):=by
 have he:=wz p.length (fun i=>coP p i* k) 170 [bP p,bQ k] hp1 (ac (cm p) (ac (aO k) ai)) (fun i hi=>Du p k i hp hk hi);refine f_c Tryz.func111 ?_;refine r_z 3 ?_;refine AWp.ent (st':=⟨[(2,bP p),(3,bQ k)],[],1,9⟩) ?_ ?_;exact s_e [];refine r_c 5 (he) ?_;refine a_z ?_;exact am (t_e (ao _))
theorem fE(a b:Rat)(hb:b≠0)(h:qs a+qs b≤549755813888):FS 109 [.agg (qC a),.agg (qC b)] (.agg (qC (a/ b))):=by
 refine f_c Tryz.func109 ?_;refine r_z 3 ?_;refine r_c 9 (AP a b hb h) ?_;refine a_z ?_;refine r_z 2 ?_;exact am (c_e (aM _))
theorem jv(a:Rat):FS 166 [.agg (qC a)] (.arr (pE (fP a))):=by
 refine f_c Tryz.func166 ?_;refine r_z 2 ?_;refine s_r 4 ?_;refine a_2 ?_;refine o_1 (.callS1 rfl rfl rfl (.shut rfl d_n (.nil)) rfl ((cY [a] (by simp)))) ?_;refine a_z ?_;exact am (t_e (ao _))
theorem Co(a:Rat):FS 187 [.agg (qC a)] (.arr (pE [a,1])):=by
 refine f_c Tryz.func187 ?_;refine r_z 2 ?_;refine ae (r_d hmix 4 ?_);refine c_s (cN 1 (by decide)) ?_;refine a_2 ?_;refine aq (n_k ?_);exact am (Fin.tmpS rfl rfl rfl rfl (aF [a,1]))
theorem fs_x:FS 219 [] (.arr (pE [0,1])):=by
 refine f_c Tryz.func219 ?_;refine r_z 1 ?_;refine r_c 3 ((by have:=Co 0;rw[qC0] at this;exact this)) ?_;refine a_z ?_;exact am (t_e (ao _))
theorem sm_neg1{a:Rat}(h:sm a):sm (a* (-1)):=by
 unfold sm at *
 rw[show a* (-1)= -a by rw[Rat.mul_comm,Rat.neg_mul,Rat.one_mul],iw];exact h
theorem qs_inv(b:Rat)(hb:b≠0):qs (1/ b)≤qs b:=by
 rw[pM 1 b hb];have hn:b.num≠0:=fun e=>hb (Rat.num_eq_zero.1 e);have h1:=ea b;have h2:=dO b
 refine gf (by have:0< b.num.natAbs:=by omega
               show 0< 1* b.num.natAbs;omega) ?_ ?_
 show bl ((1:Int) * sgn (decide (b.num< 0)) b.den).natAbs≤qs b;rw[Int.one_mul,eX];exact h2;show bl (1* b.num.natAbs)≤qs b;rw[Nat.one_mul];exact h1
theorem zQ{q:Lq}(h:smL q):smL (cj q (-1)):=by
 refine lh fun x hx=>?_;obtain⟨i,_,rfl⟩:=List.mem_map.1 hx;exact sm_neg1 (gG h i)
theorem ni(p q:Lq)(hp:smL p)(hq:smL q)(hp1:p.length≤1099511627776)(hq1:q.length≤1099511627776):FS 100 [.arr (pE p),.arr (pE q)] (.arr (pE (fK p q))):=by
 have hl:=eY q (-1);refine f_c Tryz.func100 ?_;refine r_z 1 ?_;refine r_c 6 (cN (-1) (by decide)) ?_;refine c_s (ii q (-1) hq (by decide) hq1) ?_;refine c_s (tu p (cj q (-1)) hp (zQ hq) hp1 (by omega)) ?_;refine a_z ?_;exact am (t_e (ao _))
theorem ta(p:Lq)(hp:smL p)(hp1:p.length≤1099511627776):FS 79 [.arr (pE p)] (.arr (pE (dP p))):=by
 have hlead:=sX hp;refine f_c Tryz.func79 ?_;refine r_z 1 ?_;refine ae (r_c 3 (bZ p hp1) ?_);refine a_z ?_;refine au rfl (fun h=>?_) (fun h=>?_)
 have h0:av p=[]:=by
  have h1:ct p< 0:=by simpa using h
  unfold ct at h1;exact List.length_eq_zero_iff.1 (by omega)
 refine r_z 1 ?_;refine am ?_;unfold dP;rw[if_pos h0];exact Fin.tmpN rfl
 have h0:av p≠[]:=by
  intro e;have h1:¬ct p< 0:=by simpa using h
  unfold ct at h1;rw[e] at h1;exact h1 (by decide)
 have hne:=gu h0;have hinv:=qs_inv (aS p) hne;unfold sm at hlead;have h1:qs 1=1:=by decide
 unfold dP;rw[if_neg h0];refine an (r_c 7 (cN 1 (by decide)) ?_);refine c_s (kK p hp1) ?_;refine c_s (fE 1 (aS p) hne (by omega)) ?_;refine c_s (ii p (1/ aS p) hp (by unfold sm;omega) hp1) ?_;refine a_z ?_;exact am (t_e (ao _))
theorem EI(i:Nat)(h:i≤1099511627776):qs (((i:Nat):Int):Rat)≤64:=by
 refine Nat.max_le.2 ⟨?_,?_⟩;show bl ((i:Int)).natAbs≤64;rw[Int.natAbs_natCast];exact iG (by omega);show bl 1≤64;decide
theorem AZ(p:Lq)(i:Nat)(hp:smL p)(hi:i+1< p.length)(hp1:p.length≤1099511627776):FS 250 [i64 i,bP p] (.agg (qC (coP p (i+1) * ((i+1:Nat):Int)))):=by
 have hg:(pE p)[(((i:Nat):Int)+1).toNat]?=some (qC (coP p (i+1))):=by
  rw[show(((i:Nat):Int)+1).toNat=i+1 by omega];exact bK (bm hi)
 have hs:=gG hp (i+1);have hq:=EI (i+1) (by omega);unfold sm at hs;have hI:=cN (((i:Nat):Int)+1) (by omega);rw[show((i:Nat):Int)+1=((i+1:Nat):Int) by omega] at hI;refine f_c Tryz.func250 ?_;refine r_z 1 ?_;refine ae (r_d hmix 10 ?_);refine a_3 ?_;refine i_x hg ?_;refine l_x hg ?_;refine c_s (hI) ?_;refine c_s (c7 (coP p (i+1)) ((i+1:Nat):Int) (by omega)) ?_;refine a_1 ?_;refine aq (n_k ?_);exact am (c_e (aM _))
theorem pI(p:Lq)(hp:smL p)(hp1:p.length≤1099511627776):FS 216 [.arr (pE p)] (.arr (pE (eJ p))):=by
 have he:=wz (p.length- 1) (fun i=>coP p (i+1) * ((i+1:Nat):Int)) 250 [bP p] (by omega) (ac (cm p) ai) (fun i hi=>AZ p i hp (by omega) hp1);have hm:(if (0:Int)>((p.length:Nat):Int)- 1 then(0:Int) else((p.length:Nat):Int)- 1)=((p.length- 1:Nat):Int):=by split <;> omega
 rw[←hm] at he;refine f_c Tryz.func216 ?_;refine r_z 2 ?_;refine AWp.ent (st':=⟨[(1,bP p)],[],1,9⟩) ?_ ?_;exact s_e [];refine r_c 7 (he) ?_;refine a_z ?_;exact am (t_e (ao _))
theorem FD(a b:Rat)(ha:sm a)(hb:sm b):FS 85 [.agg (qC a),.agg (qC b)] (bln (decide (a=b))):=by
 have e:(cZ a b==(0:Int))=decide (a=b):=by
  unfold cZ;by_cases h:a=b;subst h;simp[Rat.lt_irrefl];by_cases h1:a< b;simp[h,h1];simp[h,h1]
 refine f_c Tryz.func85 ?_;refine r_z 3 ?_;refine r_c 5 (dJ a b ha hb) ?_;refine a_z ?_;refine am (aR rfl ?_ ?_);rw[←e];rfl;exact ag _
def eqS(p:Lq)(q:Lq):Nat→AState
 |i=>⟨[(1,.arr (pE q)),(2,.clos 85 [] []),(15,.arr (pE p)),(16,i64 p.length),(17,i64 i)],[],1,32⟩
theorem wG(p q:Lq)(hp:smL p)(hq:smL q)(hp1:p.length≤1099511627776):FS 84 [.arr (pE p),.arr (pE q),.clos 85 [] []] (bln (decide (p=q))):=by
 refine f_n Tryz.func84 ?_ ?_;exact ac (ao p) (ac (ao q) (ac (aT ai ai) ai));refine r_z 1 ?_;refine ae (r_z 5 ?_);refine au rfl (fun h=>?_) (fun h=>?_)
 have hne:p≠q:=by
  intro e;subst e;simp at h
 refine r_z 1 ?_;refine am (aR rfl ?_ ?_);simp[hne];rfl;exact ag _
 have hlen:p.length=q.length:=by
  have h1:(p.length:Int)=q.length:=by simpa using h
  omega
 refine an (ae (r_z 3 ?_));refine aH (fun _:Unit=>⟨[],[],1,32⟩) (fun _=>p=q) ?_ ?_;refine ak (aC (eqS p q) (fun i=>p.length- i) (fun i=>i≤p.length∧p.take i=q.take i) 0 ⟨Nat.zero_le _,rfl⟩ ?_ ?_);simp only[eqS.eq_1];exact s_e [];rintro i ⟨hi,ht⟩;rw[eqS.eq_1];refine r_z 1 ?_;refine ae (au rfl (fun h1=>?_) (fun h1=>?_));refine an ?_;have hlt:i< p.length:=by simpa using h1
 have hlt2:i< q.length:=by omega
 have hgp:(pE p)[((i:Nat):Int).toNat]?=some (qC (coP p i)):=bK (bm hlt);have hgq:(pE q)[((i:Nat):Int).toNat]?=some (qC (coP q i)):=bK (bm hlt2);refine ae (ak (s_r 6 ?_));refine a_1 ?_;refine i_x hgp ?_;refine l_x hgp ?_;refine a_z ?_;refine s_r 6 ?_;refine a_2 ?_;refine i_x hgq ?_;refine l_x hgq ?_;refine a_z ?_;refine r_c 5 (FD (coP p i) (coP q i) (gG hp i) (gG hq i)) ?_;refine a_z ?_;refine au rfl (fun h2=>?_) (fun h2=>?_);have hc:coP p i≠coP q i:=by simpa using h2
 have hne:p≠q:=fun e=>hc (by rw[e]);refine r_z 1 ?_;refine am (aR rfl ?_ ?_);simp[hne];rfl;exact ag _;have hc:coP p i=coP q i:=by simpa using h2
 refine an (r_m 2 ?_);refine a_z ?_;refine⟨i+1,by omega,⟨hlt,?_⟩,?_⟩;rw[dx (bm hlt),dx (bm hlt2),ht,hc];simp only[eqS.eq_1];exact s_e []
 have hge:i=p.length:=by
  have:¬i< p.length:=by simpa using h1
  omega
 subst hge;refine aB ⟨(),?_,?_⟩;rw[List.take_length,hlen,List.take_length] at ht;exact ht;exact s_e [];rintro _ he;refine r_z 1 ?_;refine am (aR rfl ?_ ?_);simp[he];rfl;exact ag _
theorem Ct(p q:Lq)(hp:smL p)(hq:smL q)(hp1:p.length≤1099511627776)(hq1:q.length≤1099511627776):FS 26 [.arr (pE p),.arr (pE q)] (bln (El p q)):=by
 refine f_c Tryz.func26 ?_;refine r_z 1 ?_;refine r_c 6 (cY p hp1) ?_;refine c_s (cY q hq1) ?_;refine c_s (wG (av p) (av q) (lh hp) (lh hq) (Nat.le_trans (ci p) hp1)) ?_;refine a_z ?_;exact am (t_e (ag _))
end Go.Proofs.YtjgokhkahkmpbaaGreatDoor
