/- Part X18 of the proof. -/
import Derived.Test.YtjgokhkahkmpbaaGreatDoorX17
set_option linter.all false
namespace Go.Proofs.YtjgokhkahkmpbaaGreatDoor
open Go.Abs
set_option maxRecDepth 20000
set_option maxHeartbeats 1000000
theorem fs_ends (g:Nat) (op:Rat→Rat→Rat) (a b c d:Rat) (h1:FS g [.agg (qC a),.agg (qC c)] (.agg (qC (op a c)))) (h2:FS g [.agg (qC a),.agg (qC d)] (.agg (qC (op a d)))) (h3:FS g [.agg (qC b),.agg (qC c)] (.agg (qC (op b c)))) (h4:FS g [.agg (qC b),.agg (qC d)] (.agg (qC (op b d))))
    (hs:smL [op a c,op a d,op b c,op b d]):FS 283 [.clos g [] [],.agg (spC a b),.agg (spC c d)] (.agg (spC (E6 [op a c,op a d,op b c,op b d]) (n5 [op a c,op a d,op b c,op b d]))):=by
 refine f_n Tryz.func283 ?_ ?_;exact ae (aV ai ai) (ae (bq a b) (ae (bq c d) ai));refine r_z 3 ?_;refine ac (r_d hmix 27 ?_);refine c_s (h1) ?_;refine c_s (h2) ?_;refine c_s (h3) ?_;refine c_s (h4) ?_;refine a_1 ?_;refine o_1 (.callS1 rfl rfl rfl (.shut rfl d_n (.nil)) rfl (AN [op a c,op a d,op b c,op b d] hs (by simp))) ?_;refine a_1 ?_;refine an (n_k ?_);exact aj (c_e (bq _ _))
theorem fs_SMul(a b c d:Rat)(ha:sm a)(hb:sm b)(hc:sm c)(hd:sm d)(hs:smL [a* c,a* d,b* c,b* d]):FS 278 [.agg (spC a b),.agg (spC c d)] (.agg (spC (E6 [a* c,a* d,b* c,b* d]) (n5 [a* c,a* d,b* c,b* d]))):=by
 refine f_c Tryz.func278 ?_;refine r_z 3 ?_;refine r_c 4 (fs_ends 25 (fun x y=>x* y) a b c d (dx a c (sm2 ha hc)) (dx a d (sm2 ha hd)) (dx b c (sm2 hb hc)) (dx b d (sm2 hb hd)) hs) ?_;refine a_z ?_;exact aj (c_e (bq _ _))
theorem qs_int(n:Int):qs (n:Rat)≤max (bl n.natAbs) 1:=by
 have e1:(n:Rat).num=n:=rfl;have e2:(n:Rat).den=1:=rfl;unfold qs;rw[e1,e2,j9];exact Nat.le_refl _
theorem EI{n:Int}(h: -9223372036854775808≤n∧n≤9223372036854775807):qs (n:Rat)≤64:=by
 have h1:=qs_int n;have h2:bl n.natAbs≤64:=iW (Nat.lt_of_le_of_lt (show n.natAbs≤9223372036854775808 by omega) (by decide));omega
theorem fs_Of(n d:Int)(hn: -9223372036854775808≤n∧n≤9223372036854775807)(hd: -9223372036854775808≤d∧d≤9223372036854775807)(h0:d≠0):FS 105 [i64 n,i64 d] (.tup [.agg (qC ((n:Rat) / (d:Rat))),i64 0]):=by
 have h1:=EI hn;have h2:=EI hd
 have hd0:(d:Rat)≠0:=by
  intro h;have:(d:Rat).num=0:=by rw[h];rfl
  exact h0 this
 refine f_c Tryz.func105 ?_;refine r_z 2 ?_;refine r_c 9 (da n hn) ?_;refine c_s (da d hd) ?_;refine c_s (A2 (n:Rat) (d:Rat) hd0 (by omega)) ?_;refine a_z ?_;refine aj (Fin.many ⟨_,_,rfl,⟨_,_,_,_,_,rfl,rfl,rfl,.inl ⟨TG.h,_,TS.h,nle rfl,rfl⟩⟩,⟨_,_,rfl,rfl,rfl⟩⟩ (nle rfl) ?_);exact af (ah aB (aO _)) (af (ah aB (ag _)) ax)
theorem yU(l:Lq)(hl:l.length≤1099511627776):FS 77 [.arr (pE l)] (.arr (pE l)):=by
 cases l with
 |nil=>
  refine FSpec.nil1 fun a c=>?_;refine f_c Tryz.func77 ?_;refine r_z 1 ?_;refine ac (r_z 2 ?_);refine aq rfl (fun h=>?_) (fun h=>?_);refine r_z 1 ?_;exact aj (Fin.tmpN rfl)
  ·refine ak (s_r 4 ?_)
   refine a_2 ?_;refine o_2 (.append_l rfl rfl rfl te_30.h rfl rfl rfl rfl rfl d_o (by first|exact eI _|exact eF _|exact ec _|exact eN _|exact eo _|assumption|rfl|simp) (by first|rfl|exact eI _|exact eF _|exact ec _|exact eN _|exact eo _|simp) rfl (.vnil) TZ.h rfl TB.h d_o (by first|(simp[maxLen];done)|(simp[maxLen];omega))) ?_;refine a_z ?_;exact aj (Fin.tmpS rfl rfl rfl rfl (aL []))
 |cons q l=>
  have hne:pE (q::l)≠[]:=by simp[pE]
  simp at hl;refine f_c Tryz.func77 ?_;refine r_z 1 ?_;refine ac (s_r 2 ?_);refine a_1 ?_
  first|refine ay (.nilq_v rfl rfl te_30.h) rfl rfl ?_|refine ay (.nilq_arr rfl (hne) rfl te_30.h) rfl rfl ?_
  refine an ?_;refine cF ?_
  ·refine ak (s_r 4 ?_)
   refine a_2 ?_;refine o_2 (.append_l rfl rfl rfl te_30.h rfl rfl rfl rfl rfl d_o (by first|exact eI _|exact eF _|exact ec _|exact eN _|exact eo _|assumption|rfl|simp) (by first|rfl|exact eI _|exact eF _|exact ec _|exact eN _|exact eo _|simp) rfl (.arr (gF _)) TZ.h rfl TB.h d_o (by first|(simp[maxLen];done)|(simp[maxLen];omega))) ?_;refine a_z ?_;exact aj (Fin.tmpS rfl rfl rfl (by simp) (aL _))
def trS(l:Lq):Nat→AState
 |n=>⟨[(0,.arr (pE l)),(3,i64 n)],[],1,23⟩
theorem ea(l:Lq)(hl:l.length≤1099511627776):FS 21 [.arr (pE l)] (.arr (pE (av l))):=by
 refine f_c Tryz.func21 ?_;refine r_z 1 ?_;refine r_z 3 ?_;refine aU (trS l) (fun n=>n≤l.length∧av l=l.take n) ?_ ?_;refine am (aC (trS l) (fun n=>n) (fun n=>n≤l.length∧av l=av (l.take n)) l.length ⟨Nat.le_refl _,by rw[List.take_length]⟩ ?_ ?_);simp only[trS.eq_1];exact s_e [];rintro n ⟨hn,ht⟩;rw[trS.eq_1];cases n with
 |zero=>
  refine ac (s_r 11 ?_);refine a_3 ?_;refine n_g rfl (by simp) ?_;refine n_g rfl (by simp) ?_;refine n_g rfl (by simp) ?_;refine n_g rfl (by simp) ?_;refine n_g rfl (by simp) ?_;refine n_g rfl (by simp) ?_;refine n_g rfl (by simp) ?_;refine o_0 (.pickF rfl (by simp) rfl) ?_;refine an ?_;refine cF ?_;refine aA ⟨0,⟨Nat.zero_le _,?_⟩,?_⟩;rw[ht];rfl;simp only[trS.eq_1];exact s_e []
 |succ n=>
  obtain⟨q,hq⟩:∃q,l[n]?=some q:=⟨_,List.getElem?_eq_getElem (by omega)⟩
  have hq':(pE l)[(((n+1:Nat):Int)- 1).toNat]?=some (qC q):=by
   rw[show(((n+1:Nat):Int)- 1).toNat=n by omega];exact b7 hq
  have hs:av (l.take (n+1))=if q=0 then av (l.take n) else l.take (n+1):=by
   rw[dA hq,kU]
  refine ac (s_r 11 ?_);refine a_3 ?_;refine y_g rfl (by simp <;> omega) (.move rfl) ?_;refine y_g rfl (by simp <;> omega) (.move rfl) ?_;refine y_g rfl (by simp <;> omega) (.bin rfl rfl (iD (by omega))) ?_
  first|refine y_g rfl (by simp <;> omega) (.index_l rfl rfl (by omega) (by omega) te_30.h) ?_|refine y_g rfl (by simp <;> omega) (.index_a rfl rfl (by omega) hq' rfl te_30.h) ?_
  first|refine y_g rfl (by simp <;> omega) (.load_l rfl rfl hq' TG.h TS.h (nle rfl)) ?_|refine y_g rfl (by simp <;> omega) (.load_a rfl hq' TG.h TS.h (nle rfl)) ?_
  refine y_g rfl (by simp <;> omega) (.call rfl rfl rfl (bY q)) ?_;refine y_g rfl (by simp <;> omega) (.bin rfl rfl aJ) ?_;refine o_0 (.pickT rfl (by simp <;> omega) rfl) ?_;refine an ?_;refine aq rfl (fun h=>?_) (fun h=>?_)
  have h0:q=0:=by
   have h1:sgZ q.num=0:=by simpa using h
   exact sgZ_num_eq.1 h1
  refine ak (am (r_m 3 ?_));refine a_z ?_;refine⟨n,Nat.lt_succ_self n,⟨by omega,?_⟩,?_⟩;rw[ht,hs,if_pos h0];simp only[trS.eq_1];exact s_e []
  have h0:q≠0:=by
   intro e;have h1:¬sgZ q.num=0:=by simpa using h
   exact h1 (sgZ_num_eq.2 e)
  refine aA ⟨n+1,⟨hn,?_⟩,?_⟩;rw[ht,hs,if_neg h0];simp only[trS.eq_1];exact s_e []
 rintro n ⟨hn,ht⟩;rw[trS.eq_1];have hcl:=yU (l.take n) (by simp;omega);refine s_r 5 ?_;refine a_2 ?_;refine o_0 (.sa_h rfl rfl (h:=n) rfl (by simp;omega) te_30.h (gF _)) ?_;refine o_0 (.call rfl rfl rfl ((by rw[kZ];exact hcl))) ?_;refine o_0 (.assign rfl) ?_;refine an ?_;refine aj (aN rfl ?_ ?_);rw[ht];exact aR (aL _)
theorem cr(l:Lq)(hl:l.length≤1099511627776):FS 22 [.arr (pE l)] (i64 (cC l)):=by
 have:=b9 l;refine f_c Tryz.func22 ?_;refine r_z 1 ?_;refine r_c 5 (ea l hl) ?_;refine a_z ?_;exact aj (t_e (ag _))
theorem lG(l:Lq)(hl:l.length≤1099511627776):FS 110 [.arr (pE l)] (.agg (qC (aT l))):=by
 have hlen:=b9 l;refine f_c Tryz.func110 ?_;refine r_z 1 ?_;refine r_c 3 (ea l hl) ?_;refine a_z ?_;refine ac (r_z 3 ?_);refine aq rfl (fun h=>?_) (fun h=>?_)
 have h0:av l=[]:=by
  have h1:(av l).length=0:=by simpa using h
  exact List.length_eq_zero_iff.1 h1
 rw[u6 h0];refine r_z 2 ?_;refine aj (Fin.cell rfl rfl rfl TG.h TS.h (nle rfl) (Cv.agg ?_));rw[qC0];exact af (Cv.emp _) (af (ah aB (ag _)) (af (Cv.emp _) ax))
 obtain⟨n,hn⟩:∃n,(av l).length=n+1:=⟨(av l).length- 1,by
  have h1:¬(av l).length=0:=by simpa using h
  omega⟩
 have hg:(pE (av l))[(((av l).length:Int)- 1).toNat]?=some (qC (aT l)):=by
  rw[hn,show(((n+1:Nat):Int)- 1).toNat=n by omega];exact b7 (fi hn)
 refine ak (s_r 7 ?_);refine a_4 ?_;refine i_x hg ?_;refine l_x hg ?_;refine a_z ?_;exact aj (c_e (aO _))
theorem fs_at(l:Lq)(i:Nat):FS 172 [.arr (pE l),i64 i] (.agg (qC (coP l i))):=by
 refine f_c Tryz.func172 ?_;refine r_z 1 ?_;refine ac (r_z 4 ?_);refine aq rfl (fun h=>?_) (fun h=>?_);have hlt:i< l.length:=by simpa using h
 have hg:(pE l)[((i:Nat):Int).toNat]?=some (qC (coP l i)):=b7 (bv hlt);refine s_r 5 ?_;refine a_2 ?_;refine i_x hg ?_;refine l_x hg ?_;refine a_z ?_;exact aj (c_e (aO _));have hge:l.length≤i:=by simpa using h
 rw[jf hge];refine ak (r_z 2 ?_);refine aj (Fin.cell rfl rfl rfl TG.h TS.h (nle rfl) (Cv.agg ?_));rw[qC0];exact af (Cv.emp _) (af (ah aB (ag _)) (af (Cv.emp _) ax))
theorem eE_set{n i e:Nat}{f:Nat→Rat}(h:i< n)(he:e=i):(pE (bR i f)++List.replicate (n- i) zC).set e (qC (f i))=pE (bR (i+1) f)++List.replicate (n- (i+1)) zC:=by
 subst he;obtain⟨k,rfl⟩:∃k,n=e+1+k:=⟨n- (e+1),by omega⟩;rw[show e+1+k- e=k+1 by omega,show e+1+k- (e+1)=k by omega,List.replicate_succ,List.set_append_right _ _ (by simp)];simp[bR,List.range_succ,pE]
theorem eE_get{n i e:Nat}{f:Nat→Rat}(h:i< n)(he:e=i):(pE (bR i f)++List.replicate (n- i) zC)[e]?=some zC:=by
 subst he;rw[List.getElem?_append_right (by simp),List.getElem?_replicate,if_pos (by simp;omega)]
theorem qJ(n i:Nat)(f:Nat→Rat):∀e∈pE (bR i f)++List.replicate (n- i) zC,∀c∈e,Closed c:=by
 intro e he;rcases List.mem_append.1 he with he|he
 exact aL _ e he;rw[List.eq_of_mem_replicate he];exact bH
def FJ(n:Nat)(f:Nat→Rat)(g:Nat)(cap:La):Nat→AState
 |i=>⟨[(1,.clos g [] cap),(5,.lsl 1 0 n (some n) 3),(10,i64 n),(11,i64 i)],[(1,some ⟨42,3,pE (bR i f)++List.replicate (n- i) zC⟩)],2,23⟩
theorem wH(n:Nat)(f:Nat→Rat)(g:Nat)(cap:La)(hn:n≤1099511627776)(hcap:∀c∈cap,Closed c)(hg:∀i,i< n→FS g ((i64 i::cap).map coe) (.agg (qC (f i)))):FS 169 [i64 n,.clos g [] cap] (.arr (pE (av (bR n f)))):=by
 refine f_n Tryz.func169 ?_ ?_;exact ae (ag _) (ae (aV ai hcap) ai);refine r_z 1 ?_;refine r_z 3 ?_;refine ac (r_z 3 ?_);refine aI (fun _:Unit=>FJ n f g cap n) (fun _=>True) ?_ ?_;refine am (aC (FJ n f g cap) (fun i=>n- i) (fun i=>i≤n) 0 (Nat.zero_le _) ?_ ?_);simp only[FJ.eq_1];refine s_x [(1,5)] (fun hs=>e_5) (fun hs=>?_)
 ·repeat' (first|exact aD|refine h_c ?_ ?_|exact aM hs rfl (qJ n 0 f)|exact bG|refine aw ?_|exact ax|refine af ?_ ?_|exact ah hs (aV ai hcap)|exact aY)
 rintro i hi;rw[FJ.eq_1];refine r_z 1 ?_;refine ac (aq rfl (fun h=>?_) (fun h=>?_));refine ak ?_;have hlt:i< n:=by simpa using h
 refine ac (am (r_z 2 ?_));refine r_m 7 ?_;refine c_s (hg i hlt) ?_;refine a_1 ?_;refine fk (.store rfl rfl (eE_get hlt (Nat.zero_add i)) rfl rfl rfl TS.h (nle rfl)) ?_;refine an ?_;refine r_m 2 ?_;refine a_z ?_;refine⟨i+1,by omega,hlt,?_⟩;simp only[FJ.eq_1];refine s_x [] (fun hs=>e_5) (fun hs=>?_)
 ·repeat' (first|exact aD|refine h_c ?_ ?_|exact aM hs (eE_set hlt (Nat.zero_add i)) (qJ n (i+1) f)|exact bG|refine aw ?_|exact ax|refine af ?_ ?_|exact ah hs (aV ai hcap)|exact aY)
 have hge:i=n:=by
  have:¬i< n:=by simpa using h
  omega
 subst hge;refine aA ⟨(),trivial,?_⟩;simp only[FJ.eq_1];refine s_x [] (fun hs=>e_5) (fun hs=>?_)
 ·repeat' (first|exact aD|refine h_c ?_ ?_|exact cU hs (qJ i i f)|exact bG|refine aw ?_|exact ax|refine af ?_ ?_|exact ah hs (aV ai hcap)|exact aY)
 rintro _ _;rw[FJ.eq_1]
 have hfull:List.take n (List.drop 0 (pE (bR n f)++List.replicate (n- n) zC))=pE (bR n f):=by
  rw[Nat.sub_self,List.replicate_zero,List.append_nil,List.drop_zero,List.take_of_length_le (by simp)]
 refine s_r 3 ?_;refine a_1 ?_;refine o_1 (.callS1 rfl rfl rfl (.shut rfl d_n (.nil)) rfl ((by rw[hfull];exact ea (bR n f) (by simp;exact hn)))) ?_;refine a_z ?_;exact aj (t_e (aR (aL _)))
section
variable {o:Option (List UInt8)}{n:Nat}
section
variable {P:Go.Program}{T:Nat}{x y:Operand}
theorem zx{l m:List UInt8}:∀w,(do eqGuard .neq T x y (.string ⟨l.toArray⟩) (.string ⟨m.toArray⟩);binOp .neq T (.string ⟨l.toArray⟩) (.string ⟨m.toArray⟩):Sem Value).run P w= .ok (.bool (!decide (l=m))) w:=fun w=>by
 rw[zw];congr 2
 have e:∀l:List UInt8,(⟨l.toArray⟩:ByteArray).toList=l:=by
  intro l;have:=ByteArray.toList_eq (bs:=⟨l.toArray⟩);simpa using this
 rw[e,e];rw[Bool.eq_iff_iff];simp
end
def ki(o:Option (List UInt8))(c:Rat):Option (List UInt8):=
 match o with
 |none=>if c< 0 then some [45] else none
 |some s=>if c< 0 then some (s++[32,45,32]) else some (s++[32,43,32])
def wrO(o:Option (List UInt8))(t:List UInt8):Option (List UInt8):=some (o.getD []++t)
def jS(o:Option (List UInt8))(t:List UInt8):Option (List UInt8):=if t=[49] then o else wrO o (t++[32])
def nX(tq:Rat→List UInt8)(ti:Nat→List UInt8)(o:Option (List UInt8))(c:Rat)(n:Nat):Option (List UInt8):=
 if n=0 then wrO (ki o c) (tq (cj c))
 else if 1< n then wrO (wrO (jS (ki o c) (tq (cj c))) [120]) ([94]++ti n) else wrO (jS (ki o c) (tq (cj c))) [120]
def qQ(tq:Rat→List UInt8)(ti:Nat→List UInt8)(p:Lq):Nat→Option (List UInt8)→Option (List UInt8)
 |0,o=>o
 |n+1,o=>qQ tq ti p n (if coP p n=0 then o else nX tq ti o (coP p n) n)
def BU(tq:Rat→List UInt8)(ti:Nat→List UInt8)(p:Lq):List UInt8:=(qQ tq ti (av p) (av p).length none).getD [48]
def BT(p:Lq):List UInt8:=BU kf je p
def EV(p:Lq):Prop:=p.length≤1000∧(av p).length≤99∧(∀c∈av p,okT c)
instance (p:Lq):Decidable (EV p):=inferInstanceAs (Decidable (_∧_∧_))
def pb0(p:Lq):Int→AState
 |n=>⟨[(0,.arr (pE p)),(3,.lptr 1 0 0),(4,i64 n)],[(1,some ⟨148,2,[dI 1 2 none]⟩)],4,67⟩
def pb1(p:Lq):Int×List UInt8→AState
 |(n,s)=>⟨[(0,.arr (pE p)),(3,.lptr 1 0 0),(4,i64 n)],[(1,some ⟨148,2,[dI 1 2 (some s)]⟩),(2,some ⟨5,1,bE s⟩)],4,67⟩
def pbS(p:Lq)(n:Int):Option (List UInt8)→AState
 |none=>pb0 p n
 |some s=>pb1 p (n,s)
def pc0(p:Lq)(c:Rat):Int→AState
 |n=>⟨[(0,.arr (pE p)),(3,.lptr 1 0 0),(4,i64 n),(5,.lptr 3 0 0)],[(1,some ⟨148,2,[dI 1 2 none]⟩),(3,some ⟨42,3,[qC c]⟩)],4,67⟩
def pc1(p:Lq)(c:Rat):Int×List UInt8→AState
 |(n,s)=>⟨[(0,.arr (pE p)),(3,.lptr 1 0 0),(4,i64 n),(5,.lptr 3 0 0)],[(1,some ⟨148,2,[dI 1 2 (some s)]⟩),(2,some ⟨5,1,bE s⟩),(3,some ⟨42,3,[qC c]⟩)],4,67⟩
def pcS(p:Lq)(c:Rat)(n:Int):Option (List UInt8)→AState
 |none=>pc0 p c n
 |some s=>pc1 p c (n,s)
def pd0(p:Lq)(t:List UInt8):Int→AState
 |n=>⟨[(0,.arr (pE p)),(3,.lptr 1 0 0),(4,i64 n),(6,tx t)],[(1,some ⟨148,2,[dI 1 2 none]⟩)],4,67⟩
def pd1(p:Lq)(t:List UInt8):Int×List UInt8→AState
 |(n,s)=>⟨[(0,.arr (pE p)),(3,.lptr 1 0 0),(4,i64 n),(6,tx t)],[(1,some ⟨148,2,[dI 1 2 (some s)]⟩),(2,some ⟨5,1,bE s⟩)],4,67⟩
def pdS(p:Lq)(t:List UInt8)(n:Int):Option (List UInt8)→AState
 |none=>pd0 p t n
 |some s=>pd1 p t (n,s)
def rm(o:Option (List UInt8))(n:Nat):Prop:=∀s,o=some s→s≠[]∧s.length≤n
theorem ta(n:Nat):rm none n:=fun s h=>by cases h
theorem pV{t:List UInt8}(h:rm o n)(h0:t≠[]):rm (wrO o t) (n+t.length):=by
 intro s hs;cases hs;cases o with
 |none=>exact⟨by simpa using h0,by simp⟩
 |some q=>exact⟨by simp[h0],by have:=(h q rfl).2;simp;omega⟩
theorem yd(h:rm o n)(c:Rat):rm (ki o c) (n+3):=by
 intro s hs;cases o with
 |none=>
  simp only[ki] at hs;split at hs;cases hs;exact⟨by simp,by simp⟩;cases hs
 |some q=>
  have:=(h q rfl).2;simp only[ki] at hs;split at hs <;> cases hs <;> exact⟨by simp,by simp;omega⟩
theorem gG{m:Nat}(h:rm o n)(hm:n≤m):rm o m:=fun s hs=>⟨(h s hs).1,Nat.le_trans (h s hs).2 hm⟩
theorem En(q:Rat):kf q≠[]:=List.length_pos_iff.1 (textQ_len (q:=q)).2
theorem sgZ_neg(c:Rat):sgZ c.num< 0↔c< 0:=by
 rw[←oU];unfold sgZ;split;omega;split <;> omega
theorem okT_abs{c:Rat}(h:okT c):okT (cj c):=by
 rw[rX];split;obtain⟨h1,h2⟩:=h;exact⟨by rw[Rat.neg_num];simpa using h1,by rw[Rat.neg_den];exact h2⟩;exact h
theorem DQ(tq:Rat→List UInt8)(ti:Nat→List UInt8)(L:Nat)(p:Lq)(h1:p.length≤1000)(hL:L≤10000)(h3:∀c∈av p,FS 34 [.agg (qC (cj c))] (tx (tq (cj c)))∧tq (cj c)≠[]∧(tq (cj c)).length≤L)(hI:∀n,n< (av p).length→FS 96 [i64 n] (tx (ti n))∧(ti n).length≤20):FS 33 [.arr (pE p)] (tx (BU tq ti p)):=by
 have htr:=ea p (by omega);obtain⟨q,hq⟩:∃q,q=av p:=⟨_,rfl⟩;have hR:BU tq ti p=(qQ tq ti q q.length none).getD [48]:=by unfold BU;rw[hq]
 rw[hR];have h2:=b9 p;rw[←hq] at htr h2 h3 hI;have hall:∀k,(q.length- k) * (L+30)≤10030000:=fun k=>Nat.mul_le_mul (show q.length- k≤1000 by omega) (show L+30≤10030 by omega);refine f_c Tryz.func33 ?_;refine r_z 1 ?_;refine r_z 1 ?_;refine r_c 3 (htr) ?_;refine a_z ?_;refine ac (r_z 4 ?_);refine aI (pbS q (-1)) (fun o=>o=qQ tq ti q q.length none∧rm o 20000000) ?_ ?_;refine am (aC (fun x:Nat×Option (List UInt8)=>pbS q ((x.1:Int)- 1) x.2) (fun x=>x.1) (fun x=>x.1≤q.length∧qQ tq ti q x.1 x.2=qQ tq ti q q.length none∧rm x.2 ((q.length- x.1) * (L+30))) (q.length,none) ⟨Nat.le_refl _,rfl,ta _⟩ ?_ ?_);show SEnt _ (pb0 q ((q.length:Int)- 1));rw[pb0.eq_1];exact s_e [(1,3)];rintro⟨n,o⟩ ⟨hn,hr,ho⟩;simp only at hn hr ho;cases n with
 |zero=>
  cases o with
  |none=>
   show AWp _ _ _ _ (pb0 q (((0:Nat):Int)- 1));rw[pb0.eq_1];refine ac (r_z 2 ?_);refine aq rfl (fun h4=>?_) (fun h4=>?_);exact absurd h4 (by simp);refine aA ⟨none,⟨hr,ta _⟩,?_⟩;show SEnt _ (pb0 q (-1));rw[pb0.eq_1];exact s_e []
  |some s=>
   show AWp _ _ _ _ (pb1 q (((0:Nat):Int)- 1,s));rw[pb1.eq_1];refine ac (r_z 2 ?_);refine aq rfl (fun h4=>?_) (fun h4=>?_);exact absurd h4 (by simp);refine aA ⟨some s,⟨hr,gG ho (by have:=hall 0;omega)⟩,?_⟩;show SEnt _ (pb1 q (-1,s));rw[pb1.eq_1];exact s_e []
 |succ n=>
  have hcn:((n+1:Nat):Int)- 1=(n:Int):=by omega
  rw[hcn];rw[qQ] at hr;have hlt:n< q.length:=by omega
  obtain⟨c,hc⟩:∃c,c=coP q n:=⟨_,rfl⟩;rw[←hc] at hr;have hg:(pE q)[((n:Nat):Int).toNat]?=some (qC c):=by rw[Int.toNat_natCast,hc];exact b7 (bv hlt)
  obtain⟨fT,htn,htl⟩:=h3 c (by rw[hc];exact List.mem_of_getElem? (bv hlt))
  have hm:(q.length- n) * (L+30)=(q.length- (n+1)) * (L+30)+(L+30):=by
   rw[show q.length- n=(q.length- (n+1))+1 by omega,Nat.add_mul,Nat.one_mul]
  obtain⟨B,hB⟩:∃B,B=(q.length- (n+1)) * (L+30):=⟨_,rfl⟩;have hmx:B≤10030000:=by rw[hB];exact hall _
  rw[←hB] at ho hm;obtain⟨t,ht⟩:∃t,t=tq (cj c):=⟨_,rfl⟩;rw[←ht] at htn htl fT;obtain⟨fI,hd2⟩:=hI n hlt;refine aU (fun _:Unit=>pbS q n o) (fun _=>True) ?_ ?_;cases o with
  |none=>
   show AWp _ _ _ _ (pb0 q n);rw[pb0.eq_1];refine r_z 2 ?_;refine aq rfl (fun h4=>?_) (fun h4=>?_);refine ak ⟨(),trivial,?_⟩;show SEnt _ (pb0 q n);rw[pb0.eq_1];exact s_e [];exact absurd h4 (by simp)
  |some s=>
   show AWp _ _ _ _ (pb1 q (n,s));rw[pb1.eq_1];refine r_z 2 ?_;refine aq rfl (fun h4=>?_) (fun h4=>?_);refine ak ⟨(),trivial,?_⟩;show SEnt _ (pb1 q (n,s));rw[pb1.eq_1];exact s_e [];exact absurd h4 (by simp)
  rintro _ _;refine aU (pbS q n) (fun o'=>o'=(if c=0 then o else nX tq ti o c n)) ?_ ?_;refine am (aU (fun _:Unit=>pcS q c n o) (fun _=>True) ?_ ?_);cases o with
  |none=>
   show AWp _ _ _ _ (pb0 q n);rw[pb0.eq_1];refine r_m 6 ?_;refine a_2 ?_;refine i_x hg ?_;refine l_x hg ?_;refine a_z ?_;refine⟨(),trivial,?_⟩;show SEnt _ (pc0 q c n);rw[pc0.eq_1];exact s_x [(3,5)] (fun hs=>db) (fun hs=>e_6)
  |some s=>
   show AWp _ _ _ _ (pb1 q (n,s));rw[pb1.eq_1];refine r_m 6 ?_;refine a_2 ?_;refine i_x hg ?_;refine l_x hg ?_;refine a_z ?_;refine⟨(),trivial,?_⟩;show SEnt _ (pc1 q c (n,s));rw[pc1.eq_1];exact s_x [(3,5)] (fun hs=>db) (fun hs=>e_6)
  rintro _ _;refine aU (fun _:Unit=>pcS q c n o) (fun _=>c≠0) ?_ ?_;cases o with
  |none=>
   show AWp _ _ _ _ (pc0 q c n);rw[pc0.eq_1];refine r_c 3 (bY c) ?_;refine a_z ?_;refine aq rfl (fun h4=>?_) (fun h4=>?_);have h5:c=0:=sgZ_num_eq.1 (by simpa using h4);refine aA ⟨none,by rw[if_pos h5],?_⟩;show SEnt _ (pb0 q n);rw[pb0.eq_1];exact s_e [];have h5:c≠0:=fun e=>by have h6:=sgZ_num_eq.2 e;simp[h6] at h4
   refine ak ⟨(),h5,?_⟩;show SEnt _ (pc0 q c n);rw[pc0.eq_1];exact s_e []
  |some s=>
   show AWp _ _ _ _ (pc1 q c (n,s));rw[pc1.eq_1];refine r_c 3 (bY c) ?_;refine a_z ?_;refine aq rfl (fun h4=>?_) (fun h4=>?_);have h5:c=0:=sgZ_num_eq.1 (by simpa using h4);refine aA ⟨some s,by rw[if_pos h5],?_⟩;show SEnt _ (pb1 q (n,s));rw[pb1.eq_1];exact s_e [];have h5:c≠0:=fun e=>by have h6:=sgZ_num_eq.2 e;simp[h6] at h4
   refine ak ⟨(),h5,?_⟩;show SEnt _ (pc1 q c (n,s));rw[pc1.eq_1];exact s_e []
  rintro _ hc0;rw[if_neg hc0];have hsg:(sgZ c.num< 0)↔c< 0:=sgZ_neg c;refine aU (pcS q c n) (fun o'=>o'=ki o c) ?_ ?_;refine am ?_;cases o with
  |none=>
   show AWp _ _ _ _ (pc0 q c n);rw[pc0.eq_1];refine s_r 8 ?_;refine o_0 (.callR (s:=none) (j:=0) (tb:=0) rfl rfl rfl rfl rfl (fun _ h=>by cases h) (rQ)) ?_;refine a_2 ?_
   first|refine y_g rfl d_t (.load_l rfl rfl rfl TG.h TS.h (nle rfl)) ?_|refine y_g rfl d_t (.load_a rfl rfl TG.h TS.h (nle rfl)) ?_
   refine y_g rfl d_t (.call rfl rfl rfl (bY c)) ?_;refine y_g rfl d_t (.bin rfl rfl cw) ?_;refine o_0 (.pickT rfl d_t rfl) ?_;refine a_z ?_;refine aq rfl (fun h4=>?_) (fun h4=>?_);have h5:c< 0:=hsg.1 (by simpa using h4);refine r_m 1 ?_;refine o_2 (.callB (s:=none) (j:=0) rfl rfl rfl rfl rfl rfl (fun _ h=>by cases h) (jq [45] (by simp) (by simp))) ?_;refine an ?_;refine⟨some [45],by simp only[ki];rw[if_pos h5],?_⟩;show SEnt _ (pc1 q c (n,[45]));rw[pc1.eq_1];exact s_z [(2,100012)] (fun hs=>db) (fun hs=>e_6);have h5:¬c< 0:=fun e=>by have h6:=hsg.2 e;simp[h6] at h4
   refine s_r 8 ?_;refine o_0 (.callR (s:=none) (j:=0) (tb:=0) rfl rfl rfl rfl rfl (fun _ h=>by cases h) (rQ)) ?_;refine a_2 ?_;refine n_g rfl d_f ?_;refine n_g rfl d_f ?_;refine n_g rfl d_f ?_;refine o_0 (.pickF rfl d_f rfl) ?_;refine a_z ?_;refine cF (s_r 3 ?_);refine o_0 (.callR (s:=none) (j:=0) (tb:=0) rfl rfl rfl rfl rfl (fun _ h=>by cases h) (rQ)) ?_;refine a_z ?_;refine aq rfl (fun h7=>?_) (fun h7=>?_);exact absurd h7 (by simp);refine ak ⟨none,by simp only[ki];rw[if_neg h5],?_⟩;show SEnt _ (pc0 q c n);rw[pc0.eq_1];exact s_e []
  |some s=>
   have hsn:=(ho s rfl).1;have hsl:=(ho s rfl).2;have hs0:s.length≠0:=by simpa using hsn
   show AWp _ _ _ _ (pc1 q c (n,s));rw[pc1.eq_1];refine s_r 8 ?_;refine o_0 (.callR (s:=some _) rfl rfl rfl rfl rfl (fun _ h=>by cases h;exact rfl) (rO s)) ?_;refine a_2 ?_;refine n_g rfl (by simp;omega) ?_;refine n_g rfl (by simp;omega) ?_;refine n_g rfl (by simp;omega) ?_;refine o_0 (.pickF rfl (by simp;omega) rfl) ?_;refine a_z ?_;refine aq rfl (fun h4=>?_) (fun h4=>?_)
   ·first|(simp at h4;done)|(simp at h4;omega)|(simp at h4;exact absurd h4 hsn)
   refine s_r 8 ?_;refine o_0 (.callR (s:=some _) rfl rfl rfl rfl rfl (fun _ h=>by cases h;exact rfl) (rO s)) ?_;refine a_2 ?_
   first|refine y_g rfl (by simp;omega) (.load_l rfl rfl rfl TG.h TS.h (nle rfl)) ?_|refine y_g rfl (by simp;omega) (.load_a rfl rfl TG.h TS.h (nle rfl)) ?_
   refine y_g rfl (by simp;omega) (.call rfl rfl rfl (bY c)) ?_;refine y_g rfl (by simp;omega) (.bin rfl rfl cw) ?_;refine o_0 (.pickT rfl (by simp;omega) rfl) ?_;refine a_z ?_;refine aq rfl (fun h6=>?_) (fun h6=>?_);have h5:c< 0:=hsg.1 (by simpa using h6);refine r_m 1 ?_;refine o_3 (.callB (s:=some _) rfl rfl rfl rfl rfl rfl (fun _ h=>by cases h;exact⟨rfl,by decide⟩) (gx s [32,45,32] (by simp;omega))) ?_;refine an ?_;refine⟨some (s++[32,45,32]),by simp only[ki];rw[if_pos h5],?_⟩;show SEnt _ (pc1 q c (n,s++[32,45,32]));rw[pc1.eq_1];exact s_z [(2,100020)] (fun hs=>db) (fun hs=>e_6);have h5:¬c< 0:=fun e=>by have h7:=hsg.2 e;simp[h7] at h6
   refine s_r 3 ?_;refine o_0 (.callR (s:=some _) rfl rfl rfl rfl rfl (fun _ h=>by cases h;exact rfl) (rO s)) ?_;refine a_z ?_;refine aq rfl (fun h7=>?_) (fun h7=>?_);refine r_m 1 ?_;refine o_3 (.callB (s:=some _) rfl rfl rfl rfl rfl rfl (fun _ h=>by cases h;exact⟨rfl,by decide⟩) (gx s [32,43,32] (by simp;omega))) ?_;refine an ?_;refine⟨some (s++[32,43,32]),by simp only[ki];rw[if_neg h5],?_⟩;show SEnt _ (pc1 q c (n,s++[32,43,32]));rw[pc1.eq_1];exact s_z [(2,100023)] (fun hs=>db) (fun hs=>e_6)
   ·first|(simp at h7;done)|(simp at h7;omega)|(simp at h7;exact absurd h7 hsn)
  rintro o1 rfl;have ho1:=yd ho c;obtain⟨o1,ho1e⟩:∃o1,o1=ki o c:=⟨_,rfl⟩;rw[←ho1e] at ho1⊢;refine aU (fun _:Unit=>pdS q t n o1) (fun _=>True) ?_ ?_;cases o1 with
  |none=>
   show AWp _ _ _ _ (pc0 q c n);rw[pc0.eq_1];refine r_m 4 ?_;refine c_s (eY c) ?_;refine c_s (fT) ?_;refine a_z ?_;refine⟨(),trivial,?_⟩;show SEnt _ (pd0 q t n);rw[pd0.eq_1];exact s_e []
  |some s=>
   show AWp _ _ _ _ (pc1 q c (n,s));rw[pc1.eq_1];refine r_m 4 ?_;refine c_s (eY c) ?_;refine c_s (fT) ?_;refine a_z ?_;refine⟨(),trivial,?_⟩;show SEnt _ (pd1 q t (n,s));rw[pd1.eq_1];exact s_e []
  rintro _ _;refine aU (fun _:Unit=>pdS q t n o1) (fun _=>n≠0) ?_ ?_;cases o1 with
  |none=>
   show AWp _ _ _ _ (pd0 q t n);rw[pd0.eq_1];refine r_z 2 ?_;refine aq rfl (fun h4=>?_) (fun h4=>?_);have h5:n=0:=by simpa using h4
   subst h5;refine s_r 2 ?_;refine a_1 ?_;refine o_2 (.callB (s:=none) (j:=0) rfl rfl rfl rfl rfl rfl (fun _ h=>by cases h) (jq t htn (by omega))) ?_;refine an ?_;refine aA ⟨some t,by unfold nX;rw[if_pos rfl,←ho1e,←ht];rfl,?_⟩;show SEnt _ (pb1 q (((0:Nat):Int),t));rw[pb1.eq_1];exact s_z [(2,100007)] (fun hs=>db) (fun hs=>jG);have h5:n≠0:=fun e=>by simp[e] at h4
   refine ak ⟨(),h5,?_⟩;show SEnt _ (pd0 q t n);rw[pd0.eq_1];exact s_e []
  |some s=>
   have hsl:=(ho1 s rfl).2;show AWp _ _ _ _ (pd1 q t (n,s));rw[pd1.eq_1];refine r_z 2 ?_;refine aq rfl (fun h4=>?_) (fun h4=>?_);have h5:n=0:=by simpa using h4
   subst h5;refine s_r 2 ?_;refine a_1 ?_;refine o_3 (.callB (s:=some _) rfl rfl rfl rfl rfl rfl (fun _ h=>by cases h;exact⟨rfl,by decide⟩) (gx s t (by omega))) ?_;refine an ?_;refine aA ⟨some (s++t),by unfold nX;rw[if_pos rfl,←ho1e,←ht];rfl,?_⟩;show SEnt _ (pb1 q (((0:Nat):Int),s++t));rw[pb1.eq_1];exact s_z [(2,100007)] (fun hs=>db) (fun hs=>jG);have h5:n≠0:=fun e=>by simp[e] at h4
   refine ak ⟨(),h5,?_⟩;show SEnt _ (pd1 q t (n,s));rw[pd1.eq_1];exact s_e []
  rintro _ hn0;refine aU (pbS q n) (fun o'=>o'=jS o1 t) ?_ ?_;cases o1 with
  |none=>
   show AWp _ _ _ _ (pd0 q t n);rw[pd0.eq_1];refine s_r 2 ?_;refine a_1 ?_;refine o_0 (.bin rfl rfl (zx (m:=[49]))) ?_;refine an ?_;refine aq rfl (fun h4=>?_) (fun h4=>?_);have h5:¬t=[49]:=by simpa using h4
   refine r_m 3 ?_;refine a_1 ?_;refine o_0 (.bin rfl rfl (eQ (m:=[32]) (by simp;omega))) ?_;refine o_2 (.callB (s:=none) (j:=0) rfl rfl rfl rfl rfl rfl (fun _ h=>by cases h) (jq (t++[32]) (by simp) (by simp;omega))) ?_;refine an ?_;refine⟨some (t++[32]),by unfold jS;rw[if_neg h5];rfl,?_⟩;show SEnt _ (pb1 q (n,t++[32]));rw[pb1.eq_1];exact s_z [(2,100008)] (fun hs=>db) (fun hs=>jG);have h5:t=[49]:=by simpa using h4
   refine ak ⟨none,by unfold jS;rw[if_pos h5],?_⟩;show SEnt _ (pb0 q n);rw[pb0.eq_1];exact s_e []
  |some s=>
   have hsl:=(ho1 s rfl).2;show AWp _ _ _ _ (pd1 q t (n,s));rw[pd1.eq_1];refine s_r 2 ?_;refine a_1 ?_;refine o_0 (.bin rfl rfl (zx (m:=[49]))) ?_;refine an ?_;refine aq rfl (fun h4=>?_) (fun h4=>?_);have h5:¬t=[49]:=by simpa using h4
   refine r_m 3 ?_;refine a_1 ?_;refine o_0 (.bin rfl rfl (eQ (m:=[32]) (by simp;omega))) ?_;refine o_3 (.callB (s:=some _) rfl rfl rfl rfl rfl rfl (fun _ h=>by cases h;exact⟨rfl,by decide⟩) (gx s (t++[32]) (by simp;omega))) ?_;refine an ?_;refine⟨some (s++(t++[32])),by unfold jS;rw[if_neg h5];rfl,?_⟩;show SEnt _ (pb1 q (n,s++(t++[32])));rw[pb1.eq_1];exact s_z [(2,100008)] (fun hs=>db) (fun hs=>jG);have h5:t=[49]:=by simpa using h4
   refine ak ⟨some s,by unfold jS;rw[if_pos h5],?_⟩;show SEnt _ (pb1 q (n,s));rw[pb1.eq_1];exact s_e []
  rintro o2 ho2e
  have ho2:rm o2 (B+L+4):=by
   rw[ho2e];unfold jS;split;exact gG ho1 (by omega);exact gG (pV ho1 (t:=t++[32]) (by simp)) (by simp;omega)
  refine aU (fun s=>pb1 q (n,s)) (fun s=>wrO o2 [120]=some s) ?_ ?_;cases o2 with
  |none=>
   show AWp _ _ _ _ (pb0 q n);rw[pb0.eq_1];refine r_m 1 ?_;refine o_2 (.callB (s:=none) (j:=0) rfl rfl rfl rfl rfl rfl (fun _ h=>by cases h) (jq [120] (by simp) (by simp))) ?_;refine an ?_;refine⟨[120],rfl,?_⟩;simp only[pb1.eq_1];exact s_z [(2,100004)] (fun hs=>db) (fun hs=>jG)
  |some s=>
   have hsl:=(ho2 s rfl).2;show AWp _ _ _ _ (pb1 q (n,s));rw[pb1.eq_1];refine r_m 1 ?_;refine o_3 (.callB (s:=some _) rfl rfl rfl rfl rfl rfl (fun _ h=>by cases h;exact⟨rfl,by decide⟩) (gx s [120] (by simp;omega))) ?_;refine an ?_;refine⟨s++[120],rfl,?_⟩;simp only[pb1.eq_1];exact s_z [(2,100004)] (fun hs=>db) (fun hs=>jG)
  rintro s hs3;have ho3:=pV ho2 (t:=[120]) (by simp) s hs3;have hsl:s.length≤B+L+5:=ho3.2;simp only[pb1.eq_1];refine r_z 2 ?_;refine aq rfl (fun h4=>?_) (fun h4=>?_);have h5:1< n:=by simp at h4;omega
  refine r_m 4 ?_;refine c_s (fI) ?_;refine o_0 (.bin rfl rfl (eQ (l:=[94]) (by simp;omega))) ?_;refine o_3 (.callB (s:=some _) rfl rfl rfl rfl rfl rfl (fun _ h=>by cases h;exact⟨rfl,by decide⟩) (gx s ([94]++ti n) (by simp;omega))) ?_;refine an ?_;refine⟨some (s++([94]++ti n)),by unfold nX;rw[if_neg hn0,if_pos h5,←ho1e,←ht,←ho2e,hs3];rfl,?_⟩;show SEnt _ (pb1 q (n,s++([94]++ti n)));rw[pb1.eq_1];exact s_z [(2,100009)] (fun hs=>db) (fun hs=>jG);have h5:¬1< n:=by simp at h4;omega
  refine ak ⟨some s,by unfold nX;rw[if_neg hn0,if_neg h5,←ho1e,←ht,←ho2e,hs3],?_⟩;show SEnt _ (pb1 q (n,s));rw[pb1.eq_1];exact s_e [];rintro o' ho'
  have hok':rm o' (B+(L+30)):=by
   rw[ho'];split;exact gG ho (by omega);have g1:=yd ho c;unfold nX;rw[←ht]
   have g2:rm (jS (ki o c) t) (B+L+4):=by
    unfold jS;split;exact gG g1 (by omega);exact gG (pV g1 (t:=t++[32]) (by simp)) (by simp;omega)
   have g3:=pV g2 (t:=[120]) (by simp);split;exact gG (pV g1 htn) (by omega);split;exact gG (pV g3 (t:=[94]++ti n) (by simp)) (by simp;omega);exact gG g3 (by simp;omega)
  rw[←ho'] at hr;cases o' with
  |none=>
   show AWp _ _ _ _ (pb0 q n);rw[pb0.eq_1];refine r_m 3 ?_;refine a_z ?_;refine⟨(n,none),Nat.lt_succ_self n,⟨by simp only;omega,hr,ta _⟩,?_⟩;show SEnt _ (pb0 q ((n:Int)- 1));rw[pb0.eq_1];exact s_e []
  |some s=>
   show AWp _ _ _ _ (pb1 q (n,s));rw[pb1.eq_1];refine r_m 3 ?_;refine a_z ?_;refine⟨(n,some s),Nat.lt_succ_self n,⟨by simp only;omega,hr,by simp only;rw[hm];exact hok'⟩,?_⟩;show SEnt _ (pb1 q ((n:Int)- 1,s));rw[pb1.eq_1];exact s_e []
 rintro o ⟨rfl,ho⟩;cases ho2:qQ tq ti q q.length none with
 |none=>
  show AWp _ _ _ _ (pb0 q (-1));rw[pb0.eq_1];refine ac (s_r 2 ?_);refine o_0 (.callR (s:=none) (j:=0) (tb:=0) rfl rfl rfl rfl rfl (fun _ h=>by cases h) (rQ)) ?_;refine a_z ?_;refine aq rfl (fun h4=>?_) (fun h4=>?_);refine r_z 1 ?_;exact aj (t_e (ag _));exact absurd h4 (by simp)
 |some s=>
  have hs:=ho s ho2;have hsl:s.length≠0:=by have:=hs.1;simpa using this
  have hne:=hs.1;show AWp _ _ _ _ (pb1 q (-1,s));rw[pb1.eq_1];refine ac (s_r 2 ?_);refine o_0 (.callR (s:=some _) rfl rfl rfl rfl rfl (fun _ h=>by cases h;exact rfl) (rO s)) ?_;refine a_z ?_;refine aq rfl (fun h4=>?_) (fun h4=>?_);exact absurd h4 (by simp;omega);refine ak (s_r 2 ?_);refine o_2 (.callD rfl rfl rfl rfl rfl rfl (by decide) (by first|assumption|simp) (qA)) ?_;refine a_z ?_;exact aj (t_e (ag _))
theorem tJ(p:Lq)(h:EV p):FS 33 [.arr (pE p)] (tx (BT p)):=by
 obtain⟨h1,h2,h3⟩:=h;exact DQ kf je 6 p h1 (by decide) (fun c hc=>⟨pr (cj c) (okT_abs (h3 c hc)),En _,textQ_len.1⟩) (fun n hn=>⟨wI n (by omega),Nat.le_trans (kH n) (by decide)⟩)
end
abbrev bP(p:Lq):AV:= .aptr [[.arr (pE p)]] 0 0
abbrev bQ(q:Rat):AV:= .aptr [qC q] 0 0
theorem cu(p:Lq):Closed (bP p):=ba (ae (ap p) ai)
theorem aQ(q:Rat):Closed (bQ q):=ba (aZ q)
theorem fs_Add1(p q:Lq)(i:Nat)(hp:smL p)(hq:smL q):FS 171 [i64 i,bP p,bP q] (.agg (qC (coP p i+coP q i))):=by
 refine f_c Tryz.func171 ?_;refine r_z 1 ?_;refine ac (r_d hmix 8 ?_);refine c_s (fs_at p i) ?_;refine c_s (fs_at q i) ?_;refine c_s (fz (coP p i) (coP q i) (sm2 (iS hp i) (iS hq i))) ?_;refine a_1 ?_;refine an (n_k ?_);exact aj (c_e (aO _))
theorem tN(p q:Lq)(hp:smL p)(hq:smL q)(hp1:p.length≤1099511627776)(hq1:q.length≤1099511627776):FS 114 [.arr (pE p),.arr (pE q)] (.arr (pE (ik p q))):=by
 refine f_c Tryz.func114 ?_;refine r_z 3 ?_;refine AWp.ent (st':=⟨[(2,bP p),(3,bP q)],[],1,12⟩) ?_ ?_;exact s_e []
 have hm:(if ((q.length:Nat):Int)>(p.length:Nat) then((q.length:Nat):Int) else(p.length:Nat))=((max p.length q.length:Nat):Int):=by
  rw[Nat.max_def];split <;> split <;> omega
 have he:=wH (max p.length q.length) (fun i=>coP p i+coP q i) 171 [bP p,bP q] (Nat.max_le.2 ⟨hp1,hq1⟩) (ae (cu p) (ae (cu q) ai)) (fun i _=>fs_Add1 p q i hp hq);rw[←hm] at he;refine r_c 8 (he) ?_;refine a_z ?_;exact aj (t_e (ap _))
theorem DK(p:Lq)(k:Rat)(i:Nat)(hp:smL p)(hk:sm k)(hi:i< p.length):FS 170 [i64 i,bP p,bQ k] (.agg (qC (coP p i* k))):=by
 have hg:(pE p)[((i:Nat):Int).toNat]?=some (qC (coP p i)):=b7 (bv hi);refine f_c Tryz.func170 ?_;refine r_z 1 ?_;refine ac (r_d hmix 7 ?_);refine a_2 ?_;refine i_x hg ?_;refine l_x hg ?_;refine c_s (dx (coP p i) k (sm2 (iS hp i) hk)) ?_;refine a_1 ?_;refine an (n_k ?_);exact aj (c_e (aO _))
theorem iA(p:Lq)(k:Rat)(hp:smL p)(hk:sm k)(hp1:p.length≤1099511627776):FS 111 [.arr (pE p),.agg (qC k)] (.arr (pE (aW p k))):=by
 have he:=wH p.length (fun i=>coP p i* k) 170 [bP p,bQ k] hp1 (ae (cu p) (ae (aQ k) ai)) (fun i hi=>DK p k i hp hk hi);refine f_c Tryz.func111 ?_;refine r_z 3 ?_;refine AWp.ent (st':=⟨[(2,bP p),(3,bQ k)],[],1,9⟩) ?_ ?_;exact s_e [];refine r_c 5 (he) ?_;refine a_z ?_;exact aj (t_e (ap _))
theorem fR(a b:Rat)(hb:b≠0)(h:qs a+qs b≤549755813888):FS 109 [.agg (qC a),.agg (qC b)] (.agg (qC (a/ b))):=by
 refine f_c Tryz.func109 ?_;refine r_z 3 ?_;refine r_c 9 (A2 a b hb h) ?_;refine a_z ?_;refine r_z 2 ?_;exact aj (c_e (aO _))
theorem jO(a:Rat):FS 166 [.agg (qC a)] (.arr (pE (fe a))):=by
 refine f_c Tryz.func166 ?_;refine r_z 2 ?_;refine s_r 4 ?_;refine a_2 ?_;refine o_1 (.callS1 rfl rfl rfl (.shut rfl d_n (.nil)) rfl ((ea [a] (by simp)))) ?_;refine a_z ?_;exact aj (t_e (ap _))
theorem CM(a:Rat):FS 187 [.agg (qC a)] (.arr (pE [a,1])):=by
 refine f_c Tryz.func187 ?_;refine r_z 2 ?_;refine ac (r_d hmix 4 ?_);refine c_s (da 1 (by decide)) ?_;refine a_2 ?_;refine an (n_k ?_);exact aj (Fin.tmpS rfl rfl rfl rfl (aL [a,1]))
theorem fs_x:FS 219 [] (.arr (pE [0,1])):=by
 refine f_c Tryz.func219 ?_;refine r_z 1 ?_;refine r_c 3 ((by have:=CM 0;rw[qC0] at this;exact this)) ?_;refine a_z ?_;exact aj (t_e (ap _))
theorem sm_neg1{a:Rat}(h:sm a):sm (a* (-1)):=by
 unfold sm at *
 rw[show a* (-1)= -a by rw[Rat.mul_comm,Rat.neg_mul,Rat.one_mul],fX];exact h
theorem qs_inv(b:Rat)(hb:b≠0):qs (1/ b)≤qs b:=by
 rw[qE 1 b hb];have hn:b.num≠0:=fun e=>hb (Rat.num_eq_zero.1 e);have h1:=c9 b;have h2:=c7 b
 refine gE (by have:0< b.num.natAbs:=by omega
               show 0< 1* b.num.natAbs;omega) ?_ ?_
 show bl ((1:Int) * sgn (decide (b.num< 0)) b.den).natAbs≤qs b;rw[Int.one_mul,fu];exact h2;show bl (1* b.num.natAbs)≤qs b;rw[Nat.one_mul];exact h1
theorem Aa{q:Lq}(h:smL q):smL (aW q (-1)):=by
 refine sr fun x hx=>?_;obtain⟨i,_,rfl⟩:=List.mem_map.1 hx;exact sm_neg1 (iS h i)
theorem ob(p q:Lq)(hp:smL p)(hq:smL q)(hp1:p.length≤1099511627776)(hq1:q.length≤1099511627776):FS 100 [.arr (pE p),.arr (pE q)] (.arr (pE (dH p q))):=by
 have hl:=cm q (-1);refine f_c Tryz.func100 ?_;refine r_z 1 ?_;refine r_c 6 (da (-1) (by decide)) ?_;refine c_s (iA q (-1) hq (by decide) hq1) ?_;refine c_s (tN p (aW q (-1)) hp (Aa hq) hp1 (by omega)) ?_;refine a_z ?_;exact aj (t_e (ap _))
theorem tA(p:Lq)(hp:smL p)(hp1:p.length≤1099511627776):FS 79 [.arr (pE p)] (.arr (pE (jV p))):=by
 have hlead:=tl hp;refine f_c Tryz.func79 ?_;refine r_z 1 ?_;refine ac (r_c 3 (cr p hp1) ?_);refine a_z ?_;refine aq rfl (fun h=>?_) (fun h=>?_)
 have h0:av p=[]:=by
  have h1:cC p< 0:=by simpa using h
  unfold cC at h1;exact List.length_eq_zero_iff.1 (by omega)
 refine r_z 1 ?_;refine aj ?_;unfold jV;rw[if_pos h0];exact Fin.tmpN rfl
 have h0:av p≠[]:=by
  intro e;have h1:¬cC p< 0:=by simpa using h
  unfold cC at h1;rw[e] at h1;exact h1 (by decide)
 have hne:=l9 h0;have hinv:=qs_inv (aT p) hne;unfold sm at hlead;have h1:qs 1=1:=by decide
 unfold jV;rw[if_neg h0];refine ak (r_c 7 (da 1 (by decide)) ?_);refine c_s (lG p hp1) ?_;refine c_s (fR 1 (aT p) hne (by omega)) ?_;refine c_s (iA p (1/ aT p) hp (by unfold sm;omega) hp1) ?_;refine a_z ?_;exact aj (t_e (ap _))
theorem EH(i:Nat)(h:i≤1099511627776):qs (((i:Nat):Int):Rat)≤64:=by
 refine Nat.max_le.2 ⟨?_,?_⟩;show bl ((i:Int)).natAbs≤64;rw[Int.natAbs_natCast];exact iW (by omega);show bl 1≤64;decide
theorem A9(p:Lq)(i:Nat)(hp:smL p)(hi:i+1< p.length)(hp1:p.length≤1099511627776):FS 250 [i64 i,bP p] (.agg (qC (coP p (i+1) * ((i+1:Nat):Int)))):=by
 have hg:(pE p)[(((i:Nat):Int)+1).toNat]?=some (qC (coP p (i+1))):=by
  rw[show(((i:Nat):Int)+1).toNat=i+1 by omega];exact b7 (bv hi)
 have hs:=iS hp (i+1);have hq:=EH (i+1) (by omega);unfold sm at hs;have hI:=da (((i:Nat):Int)+1) (by omega);rw[show((i:Nat):Int)+1=((i+1:Nat):Int) by omega] at hI;refine f_c Tryz.func250 ?_;refine r_z 1 ?_;refine ac (r_d hmix 10 ?_);refine a_3 ?_;refine i_x hg ?_;refine l_x hg ?_;refine c_s (hI) ?_;refine c_s (dx (coP p (i+1)) ((i+1:Nat):Int) (by omega)) ?_;refine a_1 ?_;refine an (n_k ?_);exact aj (c_e (aO _))
theorem qx(p:Lq)(hp:smL p)(hp1:p.length≤1099511627776):FS 216 [.arr (pE p)] (.arr (pE (fc p))):=by
 have he:=wH (p.length- 1) (fun i=>coP p (i+1) * ((i+1:Nat):Int)) 250 [bP p] (by omega) (ae (cu p) ai) (fun i hi=>A9 p i hp (by omega) hp1);have hm:(if (0:Int)>((p.length:Nat):Int)- 1 then(0:Int) else((p.length:Nat):Int)- 1)=((p.length- 1:Nat):Int):=by split <;> omega
 rw[←hm] at he;refine f_c Tryz.func216 ?_;refine r_z 2 ?_;refine AWp.ent (st':=⟨[(1,bP p)],[],1,9⟩) ?_ ?_;exact s_e [];refine r_c 7 (he) ?_;refine a_z ?_;exact aj (t_e (ap _))

def mulS(p:Lq)(q:Lq):Nat×Lq→AState
 |(i,o)=>⟨[(1,.arr (pE q)),(5,.lsl 1 0 o.length (some o.length) 3),(25,.arr (pE p)),(26,i64 p.length),(27,i64 i)],[(1,some ⟨42,3,pE o⟩)],2,61⟩
def mulT(p:Lq)(q:Lq)(i:Nat)(a:Rat):Nat×Lq→AState
 |(k,o)=>⟨[(1,.arr (pE q)),(5,.lsl 1 0 o.length (some o.length) 3),(6,i64 i),(7,.lptr 2 0 0),(25,.arr (pE p)),(26,i64 p.length),(27,i64 i),(35,.arr (pE q)),(36,i64 q.length),(37,i64 k)],[(1,some ⟨42,3,pE o⟩),(2,some ⟨42,3,[qC a]⟩)],3,61⟩
theorem A7(p q:Lq)(s t:Nat)(hp:bdL p s)(hq:bdL q t)(hs:1≤s)(ht:1≤t)(h:p.length* (s+t+1)+1≤137438953472)(ht2:t≤137438953472)(hp1:p.length≤274877906944)(hq1:q.length≤274877906944):FS 72 [.arr (pE p),.arr (pE q)] (.arr (pE (ef p q))):=by
 refine f_c Tryz.func72 ?_;refine r_z 1 ?_;refine aU (fun _:Unit=>⟨[(0,.arr (pE p)),(1,.arr (pE q))],[],1,61⟩) (fun _=>p≠[]∧q≠[]) ?_ ?_;by_cases h1:p=[];subst h1;refine s_r 8 ?_;refine a_4 ?_;refine n_g rfl (by simp) ?_;refine n_g rfl (by simp) ?_;refine n_g rfl (by simp) ?_;refine o_0 (.pickT rfl (by simp) rfl) ?_;refine an ?_;refine aq rfl (fun h=>?_) (fun h=>?_);refine r_z 1 ?_;refine aj ?_;unfold ef;rw[if_pos (.inl rfl)];exact Fin.tmpN rfl;cases h;have hp0:p.length≠0:=fun e=>h1 (List.length_eq_zero_iff.1 e);refine s_r 8 ?_;refine a_4 ?_;refine y_g rfl (by simp <;> omega) (.move rfl) ?_
 first|refine y_g rfl (by simp <;> omega) (.lenD rfl rfl rfl rfl te_30.h) ?_|refine y_g rfl (by simp <;> omega) (.lenI rfl rfl rfl rfl te_30.h) ?_|refine y_g rfl (by simp <;> omega) (.lenP rfl rfl rfl rfl te_30.h) ?_|refine y_g rfl (by simp <;> omega) (.lenC rfl rfl rfl rfl te_30.h) ?_|refine y_g rfl (by simp <;> omega) (.lenR rfl rfl rfl rfl te_30.h) ?_|refine y_g rfl (by simp <;> omega) (.len rfl rfl rfl rfl rfl te_30.h) ?_
 refine y_g rfl (by simp <;> omega) (.bin rfl rfl aJ) ?_;refine o_0 (.pickF rfl (by simp <;> omega) rfl) ?_;refine an ?_;refine aq rfl (fun h2=>?_) (fun h2=>?_)
 have hq0:q=[]:=by
  have:q.length=0:=by simpa using h2
  exact List.length_eq_zero_iff.1 this
 refine r_z 1 ?_;refine aj ?_;unfold ef;rw[if_pos (.inr hq0)];exact Fin.tmpN rfl
 have hq0:q≠[]:=by
  have:¬q.length=0:=by simpa using h2
  exact fun e=>this (by rw[e];rfl)
 refine ak ⟨(),⟨h1,hq0⟩,?_⟩;exact s_e [];rintro _ ⟨hp0,hq0⟩;have hpl:=List.length_pos_iff.2 hp0;have hql:=List.length_pos_iff.2 hq0;have hN:(p.length:Int)+q.length- 1=((p.length+q.length- 1:Nat):Int):=by omega
 refine s_r 8 ?_;refine a_6 ?_;refine o_1 (.makeSlice (l:=p.length+q.length- 1) (c:=p.length+q.length- 1) (by rw[←hN];rfl) (by rw[←hN];rfl) te_30.h TZ.h rfl TB.h (by first|omega|(simp;done)|(simp;omega)) (by first|omega|(simp;done)|(simp;omega)) (by unfold maxLen;first|omega|(simp;done)|(simp;omega))) ?_;refine a_z ?_;refine ac (r_z 3 ?_);have hbd:=fun i=>rH (dL hp hs) (dL hq ht) i
 have hbi:∀i,i≤p.length→i* (s+t+1)+1≤137438953472:=fun i hi=>by
  have:=Nat.mul_le_mul_right (s+t+1) hi;omega
 have hs2:s≤137438953472:=by
  have:=hbi 1 hpl;omega
 refine aI (fun _:Unit=>mulS p q (p.length,eW p q p.length)) (fun _=>True) ?_ ?_;refine am (aC (fun i:Nat=>mulS p q (i,eW p q i)) (fun i=>p.length- i) (fun i=>i≤p.length) 0 (Nat.zero_le _) ?_ ?_);simp only[mulS.eq_1,eW];exact s_x [(1,5)] (fun hs=>db) (fun hs=>e_26);rintro i hi;simp only[mulS.eq_1];refine r_z 1 ?_;refine ac (aq rfl (fun h=>?_) (fun h=>?_));refine ak ?_;have hlt:i< p.length:=by simpa using h
 have hgp:(pE p)[((i:Nat):Int).toNat]?=some (qC (coP p i)):=b7 (bv hlt);refine ac (am (s_r 6 ?_));refine a_1 ?_;refine i_x hgp ?_;refine l_x hgp ?_;refine a_z ?_;refine ac (r_c 3 (bY (coP p i)) ?_);refine a_z ?_;refine aq rfl (fun h1=>?_) (fun h1=>?_)
 have h0:coP p i=0:=by
  have h1:sgZ (coP p i).num=0:=by simpa using h1
  exact sgZ_num_eq.1 h1
 have hst:eW p q (i+1)=eW p q i:=by rw[eW,if_pos h0]
 refine aA (r_m 2 ?_);refine a_z ?_;refine⟨i+1,by omega,hlt,?_⟩;simp only[mulS.eq_1,hst];exact s_e []
 have h0:coP p i≠0:=by
  intro e;have h1:¬sgZ (coP p i).num=0:=by simpa using h1
  exact h1 (sgZ_num_eq.2 e)
 have hst:eW p q (i+1)=ju (eW p q i) (coP p i) q i q.length:=by rw[eW,if_neg h0]
 refine ak (r_z 3 ?_);refine AWp.cutB (fun _:Unit=>mulS p q (i,eW p q (i+1))) (fun _=>True) ?_ ?_;refine am (aC (fun k:Nat=>mulT p q i (coP p i) (k,ju (eW p q i) (coP p i) q i k)) (fun k=>q.length- k) (fun k=>k≤q.length) 0 (Nat.zero_le _) ?_ ?_);simp only[mulT.eq_1,ju];exact s_e [(2,7)];rintro k hk;simp only[mulT.eq_1];refine r_z 1 ?_;refine ac (aq rfl (fun h2=>?_) (fun h2=>?_));refine ak ?_;have hlt2:k< q.length:=by simpa using h2
 have hgq:(pE q)[((k:Nat):Int).toNat]?=some (qC (coP q k)):=b7 (bv hlt2);refine ac (am (s_r 6 ?_));refine a_1 ?_;refine i_x hgq ?_;refine l_x hgq ?_;refine a_z ?_;have hb1:=hbd i;have hb2:=hbi (i+1) hlt;have hb3:=hbi i hi
 have hcur:qs (coP (ju (eW p q i) (coP p i) q i k) (i+k))≤137438953472:=by
  rw[sT _ _ _ _ _ _ (by omega)];exact Nat.le_trans (hb1 (i+k)) hb3
 have hab:=eV (coP p i) (coP q k);have hqa:=dL hp hs i;have hqb:=dL hq ht k;have hik:i+k< (ju (eW p q i) (coP p i) q i k).length:=by simp;omega
 have hgo:(pE (ju (eW p q i) (coP p i) q i k))[(0+(((i:Nat):Int)+(k:Nat)).toNat)]?=some (qC (coP (ju (eW p q i) (coP p i) q i k) (i+k))):=by
  rw[show 0+(((i:Nat):Int)+(k:Nat)).toNat=i+k by omega];exact b7 (bv hik)
 refine r_d hmix 16 ?_;refine a_8 ?_;refine a_1 ?_
 first|refine ay (.load_l rfl rfl hgo TG.h TS.h (nle rfl)) rfl rfl ?_|refine ay (.load_a rfl hgo TG.h TS.h (nle rfl)) rfl rfl ?_
 refine c_s (dx (coP p i) (coP q k) (by omega)) ?_;refine c_s (fz (coP (ju (eW p q i) (coP p i) q i k) (i+k)) (coP p i* coP q k) (by omega)) ?_;refine a_1 ?_;refine fk (.store rfl rfl hgo rfl rfl rfl TS.h (nle rfl)) ?_;refine an (n_k ?_);refine r_m 2 ?_;refine a_z ?_;refine⟨k+1,by omega,hlt2,?_⟩
 have hst2:(pE (ju (eW p q i) (coP p i) q i k)).set (0+(((i:Nat):Int)+(k:Nat)).toNat) (qC (coP (ju (eW p q i) (coP p i) q i k) (i+k)+coP p i* coP q k))=pE (ju (eW p q i) (coP p i) q i (k+1)):=by
  rw[show 0+(((i:Nat):Int)+(k:Nat)).toNat=i+k by omega,lc];rfl
 have hl2:(ju (eW p q i) (coP p i) q i (k+1)).length=(ju (eW p q i) (coP p i) q i k).length:=by simp
 simp only[mulT.eq_1,hl2];exact s_x [] (fun hs=>db) (fun hs=>e_27) e_1
 have hge:k=q.length:=by
  have:¬k< q.length:=by simpa using h2
  omega
 subst hge;refine aA ⟨(),trivial,?_⟩;simp only[mulS.eq_1,hst];exact s_e [];rintro _ _;simp only[mulS.eq_1];refine r_m 2 ?_;refine a_z ?_;refine⟨i+1,by omega,hlt,?_⟩;exact s_e []
 have hge:i=p.length:=by
  have:¬i< p.length:=by simpa using h
  omega
 subst hge;refine aA ⟨(),trivial,?_⟩;simp only[mulS.eq_1];exact s_e [];rintro _ _;simp only[mulS.eq_1]
 have hfull:List.take (eW p q p.length).length (List.drop 0 (pE (eW p q p.length)))=pE (eW p q p.length):=by
  rw[List.drop_zero,List.take_of_length_le (by simp)]
 have hfin:ef p q=av (eW p q p.length):=by
  unfold ef;rw[if_neg (by rintro(h|h);exact hp0 h;exact hq0 h)]
 rw[hfin];refine s_r 3 ?_;refine a_1 ?_;refine o_1 (.callS1 rfl rfl rfl (.shut rfl d_n (.nil)) rfl ((by rw[hfull];exact ea (eW p q p.length) (by simp;omega)))) ?_;refine a_z ?_;exact aj (t_e (ap _))
end Go.Proofs.YtjgokhkahkmpbaaGreatDoor
