/- Part V23 of the proof. -/
import Derived.Test.YtdgbhlkabelmbaaGreatDoorV22
set_option linter.all false
namespace Go.Proofs.YtdgbhlkabelmbaaGreatDoor
open Go.Abs
set_option maxRecDepth 20000
set_option maxHeartbeats 1000000
theorem fs_ends (g:Nat) (op:Rat→Rat→Rat) (a b c d:Rat) (h1:FS g [.agg (qC a),.agg (qC c)] (.agg (qC (op a c)))) (h2:FS g [.agg (qC a),.agg (qC d)] (.agg (qC (op a d)))) (h3:FS g [.agg (qC b),.agg (qC c)] (.agg (qC (op b c)))) (h4:FS g [.agg (qC b),.agg (qC d)] (.agg (qC (op b d))))
    (hs:smL [op a c,op a d,op b c,op b d]):FS 258 [.clos g [] [],.agg (spC a b),.agg (spC c d)] (.agg (spC (BS [op a c,op a d,op b c,op b d]) (nO [op a c,op a d,op b c,op b d]))):=by
 refine f_n Tryz.func258 ?_ ?_;exact ac (aP af af) (ac (bG a b) (ac (bG c d) af));refine r_z 3 ?_;refine ae (r_d a6 27 ?_);refine c_s (h1) ?_;refine c_s (h2) ?_;refine c_s (h3) ?_;refine c_s (h4) ?_;refine a_1 ?_;refine o_1 (.callS1 rfl rfl rfl (.shut rfl d_n (.nil)) rfl (Ca [op a c,op a d,op b c,op b d] hs (by simp))) ?_;refine a_1 ?_;refine ao (n_k ?_);exact ai (c_e (bG _ _))
theorem fs_SMul(a b c d:Rat)(ha:sm a)(hb:sm b)(hc:sm c)(hd:sm d)(hs:smL [a* c,a* d,b* c,b* d]):FS 236 [.agg (spC a b),.agg (spC c d)] (.agg (spC (BS [a* c,a* d,b* c,b* d]) (nO [a* c,a* d,b* c,b* d]))):=by
 refine f_c Tryz.func236 ?_;refine r_z 3 ?_;refine r_c 4 (fs_ends 29 (fun x y=>x* y) a b c d (cJ a c (sm2 ha hc)) (cJ a d (sm2 ha hd)) (cJ b c (sm2 hb hc)) (cJ b d (sm2 hb hd)) hs) ?_;refine a_z ?_;exact ai (c_e (bG _ _))
theorem qs_int(n:Int):qs (n:Rat)≤max (bl n.natAbs) 1:=by
 have e1:(n:Rat).num=n:=rfl;have e2:(n:Rat).den=1:=rfl;unfold qs;rw[e1,e2,jS];exact Nat.le_refl _
theorem Gt{n:Int}(h: -9223372036854775808≤n∧n≤9223372036854775807):qs (n:Rat)≤64:=by
 have h1:=qs_int n;have a:bl n.natAbs≤64:=hZ (Nat.lt_of_le_of_lt (show n.natAbs≤9223372036854775808 by omega) (by decide));omega
theorem fs_Of(n d:Int)(hn: -9223372036854775808≤n∧n≤9223372036854775807)(hd: -9223372036854775808≤d∧d≤9223372036854775807)(h0:d≠0):FS 21 [i64 n,i64 d] (.tup [.agg (qC ((n:Rat) / (d:Rat))),i64 0]):=by
 have h1:=Gt hn;have b:=Gt hd
 have a:(d:Rat)≠0:=by
  intro h;have:(d:Rat).num=0:=by rw[h];rfl
  exact h0 this
 refine f_c Tryz.func21 ?_;refine r_z 2 ?_;refine r_c 9 (du n hn) ?_;refine c_s (du d hd) ?_;refine c_s (Co (n:Rat) (d:Rat) a (by omega)) ?_;refine a_z ?_;refine ai (Fin.many ⟨_,_,rfl,⟨_,_,_,_,_,rfl,rfl,rfl,.inl ⟨TG.h,_,TS.h,nle rfl,rfl⟩⟩,⟨_,_,rfl,rfl,rfl⟩⟩ (nle rfl) ?_);exact ah (am aD (aT _)) (ah (am aD (ag _)) av)
theorem HP(l:List Rat)(hl:l.length≤1099511627776):FS 94 [.arr (pE l)] (.arr (pE l)):=by
 cases l with
 |nil=>
  refine FSpec.nil1 fun a c=>?_;refine f_c Tryz.func94 ?_;refine r_z 1 ?_;refine ae (r_z 2 ?_);refine ap rfl (fun h=>?_) (fun h=>?_);refine r_z 1 ?_;exact ai (Fin.tmpN rfl)
  ·refine ak (s_r 4 ?_)
   refine a_2 ?_;refine o_2 (.append_l rfl rfl rfl te_38.h rfl rfl rfl rfl rfl d_o (by first|exact dq _|exact dp _|exact cW _|exact dr _|exact dn _|assumption|rfl|simp) (by first|rfl|exact dq _|exact dp _|exact cW _|exact dr _|exact dn _|simp) rfl (.vnil) TZ.h rfl TB.h d_o (by first|(simp[maxLen];done)|(simp[maxLen];omega))) ?_;refine a_z ?_;exact ai (Fin.tmpS rfl rfl rfl rfl (aJ []))
 |cons q l=>
  have b:pE (q::l)≠[]:=by simp[pE]
  simp at hl;refine f_c Tryz.func94 ?_;refine r_z 1 ?_;refine ae (s_r 2 ?_);refine a_1 ?_
  first|refine aF (.nilq_v rfl rfl te_38.h) rfl rfl ?_|refine aF (.nilq_arr rfl (b) rfl te_38.h) rfl rfl ?_
  refine ao ?_;refine cF ?_
  ·refine ak (s_r 4 ?_)
   refine a_2 ?_;refine o_2 (.append_l rfl rfl rfl te_38.h rfl rfl rfl rfl rfl d_o (by first|exact dq _|exact dp _|exact cW _|exact dr _|exact dn _|assumption|rfl|simp) (by first|rfl|exact dq _|exact dp _|exact cW _|exact dr _|exact dn _|simp) rfl (.arr (lh _)) TZ.h rfl TB.h d_o (by first|(simp[maxLen];done)|(simp[maxLen];omega))) ?_;refine a_z ?_;exact ai (Fin.tmpS rfl rfl rfl (by simp) (aJ _))
def trS(l:List Rat):Nat→AState
 |n=>⟨[(0,.arr (pE l)),(3,i64 n)],[],1,23⟩
theorem dd(l:List Rat)(hl:l.length≤1099511627776):FS 43 [.arr (pE l)] (.arr (pE (aq l))):=by
 refine f_c Tryz.func43 ?_;refine r_z 1 ?_;refine r_z 3 ?_;refine bi (trS l) (fun n=>n≤l.length∧aq l=l.take n) ?_ ?_;refine aj (aB (trS l) (fun n=>n) (fun n=>n≤l.length∧aq l=aq (l.take n)) l.length ⟨Nat.le_refl _,by rw[List.take_length]⟩ ?_ ?_);simp only[trS.eq_1];exact s_e [];rintro n ⟨f,ht⟩;rw[trS.eq_1];cases n with
 |zero=>
  refine ae (s_r 11 ?_);refine a_3 ?_;refine n_g rfl (by simp) ?_;refine n_g rfl (by simp) ?_;refine n_g rfl (by simp) ?_;refine n_g rfl (by simp) ?_;refine n_g rfl (by simp) ?_;refine n_g rfl (by simp) ?_;refine n_g rfl (by simp) ?_;refine o_0 (.pickF rfl (by simp) rfl) ?_;refine ao ?_;refine cF ?_;refine ay ⟨0,⟨Nat.zero_le _,?_⟩,?_⟩;rw[ht];rfl;simp only[trS.eq_1];exact s_e []
 |succ n=>
  obtain⟨q,d⟩:∃q,l[n]?=some q:=⟨_,List.getElem?_eq_getElem (by omega)⟩
  have a:(pE l)[(((n+1:Nat):Int)- 1).toNat]?=some (qC q):=by
   rw[show(((n+1:Nat):Int)- 1).toNat=n by omega];exact pE_get d
  have hs:aq (l.take (n+1))=if q=0 then aq (l.take n) else l.take (n+1):=by
   rw[cx d,jt]
  refine ae (s_r 11 ?_);refine a_3 ?_;refine y_g rfl (by simp <;> omega) (.move rfl) ?_;refine y_g rfl (by simp <;> omega) (.move rfl) ?_;refine y_g rfl (by simp <;> omega) (.bin rfl rfl (qh (by omega))) ?_
  first|refine y_g rfl (by simp <;> omega) (.index_l rfl rfl (by omega) (by omega) te_38.h) ?_|refine y_g rfl (by simp <;> omega) (.index_a rfl rfl (by omega) a rfl te_38.h) ?_
  first|refine y_g rfl (by simp <;> omega) (.load_l rfl rfl a TG.h TS.h (nle rfl)) ?_|refine y_g rfl (by simp <;> omega) (.load_a rfl a TG.h TS.h (nle rfl)) ?_
  refine y_g rfl (by simp <;> omega) (.call rfl rfl rfl (cw q)) ?_;refine y_g rfl (by simp <;> omega) (.bin rfl rfl ci) ?_;refine o_0 (.pickT rfl (by simp <;> omega) rfl) ?_;refine ao ?_;refine ap rfl (fun h=>?_) (fun h=>?_)
  have b:q=0:=by
   have h1:sgZ q.num=0:=by simpa using h
   exact sgZ_num_eq.1 h1
  refine ak (aj (r_m 3 ?_));refine a_z ?_;refine⟨n,Nat.lt_succ_self n,⟨by omega,?_⟩,?_⟩;rw[ht,hs,if_pos b];simp only[trS.eq_1];exact s_e []
  have b:q≠0:=by
   intro e;have h1:¬sgZ q.num=0:=by simpa using h
   exact h1 (sgZ_num_eq.2 e)
  refine ay ⟨n+1,⟨f,?_⟩,?_⟩;rw[ht,hs,if_neg b];simp only[trS.eq_1];exact s_e []
 rintro n ⟨f,ht⟩;rw[trS.eq_1];have c:=HP (l.take n) (by simp;omega);refine s_r 5 ?_;refine a_2 ?_;refine o_0 (.sa_h rfl rfl (h:=n) rfl (by simp;omega) te_38.h (lh _)) ?_;refine o_0 (.call rfl rfl rfl ((by rw[sj];exact c))) ?_;refine o_0 (.assign rfl) ?_;refine ao ?_;refine ai (aW rfl ?_ ?_);rw[ht];exact aH (aJ _)
theorem dk(l:List Rat)(hl:l.length≤1099511627776):FS 84 [.arr (pE l)] (i64 (bD l)):=by
 have:=bF l;refine f_c Tryz.func84 ?_;refine r_z 1 ?_;refine r_c 5 (dd l hl) ?_;refine a_z ?_;exact ai (t_e (ag _))
theorem pL(l:List Rat)(hl:l.length≤1099511627776):FS 131 [.arr (pE l)] (.agg (qC (aS l))):=by
 have a:=bF l;refine f_c Tryz.func131 ?_;refine r_z 1 ?_;refine r_c 3 (dd l hl) ?_;refine a_z ?_;refine ae (r_z 3 ?_);refine ap rfl (fun h=>?_) (fun h=>?_)
 have c:aq l=[]:=by
  have h1:(aq l).length=0:=by simpa using h
  exact List.length_eq_zero_iff.1 h1
 rw[qG c];refine r_z 2 ?_;refine ai (Fin.cell rfl rfl rfl TG.h TS.h (nle rfl) (Cv.agg ?_));rw[qC0];exact ah (Cv.emp _) (ah (am aD (ag _)) (ah (Cv.emp _) av))
 obtain⟨n,b⟩:∃n,(aq l).length=n+1:=⟨(aq l).length- 1,by
  have h1:¬(aq l).length=0:=by simpa using h
  omega⟩
 have hg:(pE (aq l))[(((aq l).length:Int)- 1).toNat]?=some (qC (aS l)):=by
  rw[b,show(((n+1:Nat):Int)- 1).toNat=n by omega];exact pE_get (ef b)
 refine ak (s_r 7 ?_);refine a_4 ?_;refine i_x hg ?_;refine l_x hg ?_;refine a_z ?_;exact ai (c_e (aT _))
theorem fs_at(l:List Rat)(i:Nat):FS 80 [.arr (pE l),i64 i] (.agg (qC (coP l i))):=by
 refine f_c Tryz.func80 ?_;refine r_z 1 ?_;refine ae (r_z 4 ?_);refine ap rfl (fun h=>?_) (fun h=>?_);have a:i< l.length:=by simpa using h
 have hg:(pE l)[((i:Nat):Int).toNat]?=some (qC (coP l i)):=pE_get (ca a);refine s_r 5 ?_;refine a_2 ?_;refine i_x hg ?_;refine l_x hg ?_;refine a_z ?_;exact ai (c_e (aT _));have b:l.length≤i:=by simpa using h
 rw[fO b];refine ak (r_z 2 ?_);refine ai (Fin.cell rfl rfl rfl TG.h TS.h (nle rfl) (Cv.agg ?_));rw[qC0];exact ah (Cv.emp _) (ah (am aD (ag _)) (ah (Cv.emp _) av))
theorem eE_set{n i e:Nat}{f:Nat→Rat}(h:i< n)(he:e=i):(pE (aO i f)++List.replicate (n- i) zC).set e (qC (f i))=pE (aO (i+1) f)++List.replicate (n- (i+1)) zC:=by
 subst he;obtain⟨k,rfl⟩:∃k,n=e+1+k:=⟨n- (e+1),by omega⟩;rw[show e+1+k- e=k+1 by omega,show e+1+k- (e+1)=k by omega,List.replicate_succ,List.set_append_right _ _ (by simp)];simp[aO,List.range_succ,pE]
theorem eE_get{n i e:Nat}{f:Nat→Rat}(h:i< n)(he:e=i):(pE (aO i f)++List.replicate (n- i) zC)[e]?=some zC:=by
 subst he;rw[List.getElem?_append_right (by simp),List.getElem?_replicate,if_pos (by simp;omega)]
theorem rk(n i:Nat)(f:Nat→Rat):∀e∈pE (aO i f)++List.replicate (n- i) zC,∀c∈e,Closed c:=by
 intro e a;rcases List.mem_append.1 a with a|a
 exact aJ _ e a;rw[List.eq_of_mem_replicate a];exact nh
def H0(n:Nat)(f:Nat→Rat)(g:Nat)(cap:List AV):Nat→AState
 |i=>⟨[(1,.clos g [] cap),(5,.lsl 1 0 n (some n) 3),(10,i64 n),(11,i64 i)],[(1,some ⟨36,3,pE (aO i f)++List.replicate (n- i) zC⟩)],2,23⟩
theorem sK(n:Nat)(f:Nat→Rat)(g:Nat)(cap:List AV)(hn:n≤1099511627776)(hcap:∀c∈cap,Closed c)(hg:∀i,i< n→FS g ((i64 i::cap).map coe) (.agg (qC (f i)))):FS 27 [i64 n,.clos g [] cap] (.arr (pE (aq (aO n f)))):=by
 refine f_n Tryz.func27 ?_ ?_;exact ac (ag _) (ac (aP af hcap) af);refine r_z 1 ?_;refine r_z 3 ?_;refine ae (r_z 3 ?_);refine aG (fun _:Unit=>H0 n f g cap n) (fun _=>True) ?_ ?_;refine aj (aB (H0 n f g cap) (fun i=>n- i) (fun i=>i≤n) 0 (Nat.zero_le _) ?_ ?_);simp only[H0.eq_1];refine s_x [(1,5)] (fun hs=>e_2) (fun hs=>?_)
 ·repeat' (first|exact aE|refine h_c ?_ ?_|exact aI hs rfl (rk n 0 f)|exact bC|refine az ?_|exact av|refine ah ?_ ?_|exact am hs (aP af hcap)|exact aV)
 rintro i e;rw[H0.eq_1];refine r_z 1 ?_;refine ae (ap rfl (fun h=>?_) (fun h=>?_));refine ak ?_;have a:i< n:=by simpa using h
 refine ae (aj (r_z 2 ?_));refine r_m 7 ?_;refine c_s (hg i a) ?_;refine a_1 ?_;refine dX (.store rfl rfl (eE_get a (Nat.zero_add i)) rfl rfl rfl TS.h (nle rfl)) ?_;refine ao ?_;refine r_m 2 ?_;refine a_z ?_;refine⟨i+1,by omega,a,?_⟩;simp only[H0.eq_1];refine s_x [] (fun hs=>e_2) (fun hs=>?_)
 ·repeat' (first|exact aE|refine h_c ?_ ?_|exact aI hs (eE_set a (Nat.zero_add i)) (rk n (i+1) f)|exact bC|refine az ?_|exact av|refine ah ?_ ?_|exact am hs (aP af hcap)|exact aV)
 have d:i=n:=by
  have:¬i< n:=by simpa using h
  omega
 subst d;refine ay ⟨(),trivial,?_⟩;simp only[H0.eq_1];refine s_x [] (fun hs=>e_2) (fun hs=>?_)
 ·repeat' (first|exact aE|refine h_c ?_ ?_|exact a8 hs (rk i i f)|exact bC|refine az ?_|exact av|refine ah ?_ ?_|exact am hs (aP af hcap)|exact aV)
 rintro _ _;rw[H0.eq_1]
 have b:List.take n (List.drop 0 (pE (aO n f)++List.replicate (n- n) zC))=pE (aO n f):=by
  rw[Nat.sub_self,List.replicate_zero,List.append_nil,List.drop_zero,List.take_of_length_le (by simp)]
 refine s_r 3 ?_;refine a_1 ?_;refine o_1 (.callS1 rfl rfl rfl (.shut rfl d_n (.nil)) rfl ((by rw[b];exact dd (aO n f) (by simp;exact hn)))) ?_;refine a_z ?_;exact ai (t_e (aH (aJ _)))
section
variable {P:Go.Program}{T:Nat}{x y:Operand}
theorem AL{l m:List UInt8}:∀w,(do eqGuard .neq T x y (.string ⟨l.toArray⟩) (.string ⟨m.toArray⟩);binOp .neq T (.string ⟨l.toArray⟩) (.string ⟨m.toArray⟩):Sem Value).run P w= .ok (.bool (!decide (l=m))) w:=fun w=>by
 rw[AK];congr 2
 have e:∀l:List UInt8,(⟨l.toArray⟩:ByteArray).toList=l:=by
  intro l;have:=ByteArray.toList_eq (bs:=⟨l.toArray⟩);simpa using this
 rw[e,e];rw[Bool.eq_iff_iff];simp
end
def kx(o:Option (List UInt8))(c:Rat):Option (List UInt8):=
 match o with
 |none=>if c< 0 then some [45] else none
 |some s=>if c< 0 then some (s++[32,45,32]) else some (s++[32,43,32])
def wrO(o:Option (List UInt8))(t:List UInt8):Option (List UInt8):=some (o.getD []++t)
def ka(o:Option (List UInt8))(t:List UInt8):Option (List UInt8):=if t=[49] then o else wrO o (t++[32])
def nG(tq:Rat→List UInt8)(ti:Nat→List UInt8)(o:Option (List UInt8))(c:Rat)(n:Nat):Option (List UInt8):=
 if n=0 then wrO (kx o c) (tq (fS c))
 else if 1< n then wrO (wrO (ka (kx o c) (tq (fS c))) [120]) ([94]++ti n) else wrO (ka (kx o c) (tq (fS c))) [120]
def ry(tq:Rat→List UInt8)(ti:Nat→List UInt8)(p:List Rat):Nat→Option (List UInt8)→Option (List UInt8)
 |0,o=>o
 |n+1,o=>ry tq ti p n (if coP p n=0 then o else nG tq ti o (coP p n) n)
def De(tq:Rat→List UInt8)(ti:Nat→List UInt8)(p:List Rat):List UInt8:=(ry tq ti (aq p) (aq p).length none).getD [48]
def Dd(p:List Rat):List UInt8:=De lD jg p
def GM(p:List Rat):Prop:=p.length≤1000∧(aq p).length≤99∧(∀c∈aq p,okT c)
instance (p:List Rat):Decidable (GM p):=inferInstanceAs (Decidable (_∧_∧_))
def pb0(p:List Rat):Int→AState
 |n=>⟨[(0,.arr (pE p)),(3,.lptr 1 0 0),(4,i64 n)],[(1,some ⟨143,2,[eo 1 2 none]⟩)],4,67⟩
def pb1(p:List Rat):Int×List UInt8→AState
 |(n,s)=>⟨[(0,.arr (pE p)),(3,.lptr 1 0 0),(4,i64 n)],[(1,some ⟨143,2,[eo 1 2 (some s)]⟩),(2,some ⟨5,1,bE s⟩)],4,67⟩
def pbS(p:List Rat)(n:Int):Option (List UInt8)→AState
 |none=>pb0 p n
 |some s=>pb1 p (n,s)
def pc0(p:List Rat)(c:Rat):Int→AState
 |n=>⟨[(0,.arr (pE p)),(3,.lptr 1 0 0),(4,i64 n),(5,.lptr 3 0 0)],[(1,some ⟨143,2,[eo 1 2 none]⟩),(3,some ⟨36,3,[qC c]⟩)],4,67⟩
def pc1(p:List Rat)(c:Rat):Int×List UInt8→AState
 |(n,s)=>⟨[(0,.arr (pE p)),(3,.lptr 1 0 0),(4,i64 n),(5,.lptr 3 0 0)],[(1,some ⟨143,2,[eo 1 2 (some s)]⟩),(2,some ⟨5,1,bE s⟩),(3,some ⟨36,3,[qC c]⟩)],4,67⟩
def pcS(p:List Rat)(c:Rat)(n:Int):Option (List UInt8)→AState
 |none=>pc0 p c n
 |some s=>pc1 p c (n,s)
def pd0(p:List Rat)(t:List UInt8):Int→AState
 |n=>⟨[(0,.arr (pE p)),(3,.lptr 1 0 0),(4,i64 n),(6,tx t)],[(1,some ⟨143,2,[eo 1 2 none]⟩)],4,67⟩
def pd1(p:List Rat)(t:List UInt8):Int×List UInt8→AState
 |(n,s)=>⟨[(0,.arr (pE p)),(3,.lptr 1 0 0),(4,i64 n),(6,tx t)],[(1,some ⟨143,2,[eo 1 2 (some s)]⟩),(2,some ⟨5,1,bE s⟩)],4,67⟩
def pdS(p:List Rat)(t:List UInt8)(n:Int):Option (List UInt8)→AState
 |none=>pd0 p t n
 |some s=>pd1 p t (n,s)
def rX(o:Option (List UInt8))(n:Nat):Prop:=∀s,o=some s→s≠[]∧s.length≤n
theorem tV(n:Nat):rX none n:=fun s h=>by cases h
theorem qz{o:Option (List UInt8)}{n:Nat}{t:List UInt8}(h:rX o n)(h0:t≠[]):rX (wrO o t) (n+t.length):=by
 intro s hs;cases hs;cases o with
 |none=>exact⟨by simpa using h0,by simp⟩
 |some q=>exact⟨by simp[h0],by have:=(h q rfl).2;simp;omega⟩
theorem zp{o:Option (List UInt8)}{n:Nat}(h:rX o n)(c:Rat):rX (kx o c) (n+3):=by
 intro s hs;cases o with
 |none=>
  simp only[kx] at hs;split at hs;cases hs;exact⟨by simp,by simp⟩;cases hs
 |some q=>
  have:=(h q rfl).2;simp only[kx] at hs;split at hs <;> cases hs <;> exact⟨by simp,by simp;omega⟩
theorem gP{o:Option (List UInt8)}{n m:Nat}(h:rX o n)(hm:n≤m):rX o m:=fun s hs=>⟨(h s hs).1,Nat.le_trans (h s hs).2 hm⟩
theorem FU(q:Rat):lD q≠[]:=List.length_pos_iff.1 (textQ_len (q:=q)).2
theorem sgZ_neg(c:Rat):sgZ c.num< 0↔c< 0:=by
 rw[←pj];unfold sgZ;split;omega;split <;> omega
theorem okT_abs{c:Rat}(h:okT c):okT (fS c):=by
 rw[yH];split;obtain⟨h1,a⟩:=h;exact⟨by rw[Rat.neg_num];simpa using h1,by rw[Rat.neg_den];exact a⟩;exact h
theorem Fh(tq:Rat→List UInt8)(ti:Nat→List UInt8)(L:Nat)(p:List Rat)(h1:p.length≤1000)(hL:L≤10000)(h3:∀c∈aq p,FS 25 [.agg (qC (fS c))] (tx (tq (fS c)))∧tq (fS c)≠[]∧(tq (fS c)).length≤L)(hI:∀n,n< (aq p).length→FS 69 [i64 n] (tx (ti n))∧(ti n).length≤20):FS 24 [.arr (pE p)] (tx (De tq ti p)):=by
 have M:=dd p (by omega);obtain⟨q,V⟩:∃q,q=aq p:=⟨_,rfl⟩;have X:De tq ti p=(ry tq ti q q.length none).getD [48]:=by unfold De;rw[V]
 rw[X];have h2:=bF p;rw[←V] at M h2 h3 hI;have z:∀k,(q.length- k) * (L+30)≤10030000:=fun k=>Nat.mul_le_mul (show q.length- k≤1000 by omega) (show L+30≤10030 by omega);refine f_c Tryz.func24 ?_;refine r_z 1 ?_;refine r_z 1 ?_;refine r_c 3 (M) ?_;refine a_z ?_;refine ae (r_z 4 ?_);refine aG (pbS q (-1)) (fun o=>o=ry tq ti q q.length none∧rX o 20000000) ?_ ?_;refine aj (aB (fun x:Nat×Option (List UInt8)=>pbS q ((x.1:Int)- 1) x.2) (fun x=>x.1) (fun x=>x.1≤q.length∧ry tq ti q x.1 x.2=ry tq ti q q.length none∧rX x.2 ((q.length- x.1) * (L+30))) (q.length,none) ⟨Nat.le_refl _,rfl,tV _⟩ ?_ ?_);show SEnt _ (pb0 q ((q.length:Int)- 1));rw[pb0.eq_1];exact s_e [(1,3)];rintro⟨n,o⟩ ⟨W,A,r⟩;simp only at W A r;cases n with
 |zero=>
  cases o with
  |none=>
   show AWp _ _ _ _ (pb0 q (((0:Nat):Int)- 1));rw[pb0.eq_1];refine ae (r_z 2 ?_);refine ap rfl (fun a=>?_) (fun a=>?_);exact absurd a (by simp);refine ay ⟨none,⟨A,tV _⟩,?_⟩;show SEnt _ (pb0 q (-1));rw[pb0.eq_1];exact s_e []
  |some s=>
   show AWp _ _ _ _ (pb1 q (((0:Nat):Int)- 1,s));rw[pb1.eq_1];refine ae (r_z 2 ?_);refine ap rfl (fun a=>?_) (fun a=>?_);exact absurd a (by simp);refine ay ⟨some s,⟨A,gP r (by have:=z 0;omega)⟩,?_⟩;show SEnt _ (pb1 q (-1,s));rw[pb1.eq_1];exact s_e []
 |succ n=>
  have R:((n+1:Nat):Int)- 1=(n:Int):=by omega
  rw[R];rw[ry] at A;have E:n< q.length:=by omega
  obtain⟨c,hc⟩:∃c,c=coP q n:=⟨_,rfl⟩;rw[←hc] at A;have hg:(pE q)[((n:Nat):Int).toNat]?=some (qC c):=by rw[Int.toNat_natCast,hc];exact pE_get (ca E)
  obtain⟨O,D,S⟩:=h3 c (by rw[hc];exact List.mem_of_getElem? (ca E))
  have U:(q.length- n) * (L+30)=(q.length- (n+1)) * (L+30)+(L+30):=by
   rw[show q.length- n=(q.length- (n+1))+1 by omega,Nat.add_mul,Nat.one_mul]
  obtain⟨B,hB⟩:∃B,B=(q.length- (n+1)) * (L+30):=⟨_,rfl⟩;have hmx:B≤10030000:=by rw[hB];exact z _
  rw[←hB] at r U;obtain⟨t,ht⟩:∃t,t=tq (fS c):=⟨_,rfl⟩;rw[←ht] at D S O;obtain⟨fI,hd2⟩:=hI n E;refine bi (fun _:Unit=>pbS q n o) (fun _=>True) ?_ ?_;cases o with
  |none=>
   show AWp _ _ _ _ (pb0 q n);rw[pb0.eq_1];refine r_z 2 ?_;refine ap rfl (fun a=>?_) (fun a=>?_);refine ak ⟨(),trivial,?_⟩;show SEnt _ (pb0 q n);rw[pb0.eq_1];exact s_e [];exact absurd a (by simp)
  |some s=>
   show AWp _ _ _ _ (pb1 q (n,s));rw[pb1.eq_1];refine r_z 2 ?_;refine ap rfl (fun a=>?_) (fun a=>?_);refine ak ⟨(),trivial,?_⟩;show SEnt _ (pb1 q (n,s));rw[pb1.eq_1];exact s_e [];exact absurd a (by simp)
  rintro _ _;refine bi (pbS q n) (fun C=>C=(if c=0 then o else nG tq ti o c n)) ?_ ?_;refine aj (bi (fun _:Unit=>pcS q c n o) (fun _=>True) ?_ ?_);cases o with
  |none=>
   show AWp _ _ _ _ (pb0 q n);rw[pb0.eq_1];refine r_m 6 ?_;refine a_2 ?_;refine i_x hg ?_;refine l_x hg ?_;refine a_z ?_;refine⟨(),trivial,?_⟩;show SEnt _ (pc0 q c n);rw[pc0.eq_1];exact s_x [(3,5)] (fun hs=>dU) (fun hs=>e_9)
  |some s=>
   show AWp _ _ _ _ (pb1 q (n,s));rw[pb1.eq_1];refine r_m 6 ?_;refine a_2 ?_;refine i_x hg ?_;refine l_x hg ?_;refine a_z ?_;refine⟨(),trivial,?_⟩;show SEnt _ (pc1 q c (n,s));rw[pc1.eq_1];exact s_x [(3,5)] (fun hs=>dU) (fun hs=>e_9)
  rintro _ _;refine bi (fun _:Unit=>pcS q c n o) (fun _=>c≠0) ?_ ?_;cases o with
  |none=>
   show AWp _ _ _ _ (pc0 q c n);rw[pc0.eq_1];refine r_c 3 (cw c) ?_;refine a_z ?_;refine ap rfl (fun a=>?_) (fun a=>?_);have b:c=0:=sgZ_num_eq.1 (by simpa using a);refine ay ⟨none,by rw[if_pos b],?_⟩;show SEnt _ (pb0 q n);rw[pb0.eq_1];exact s_e [];have b:c≠0:=fun e=>by have w:=sgZ_num_eq.2 e;simp[w] at a
   refine ak ⟨(),b,?_⟩;show SEnt _ (pc0 q c n);rw[pc0.eq_1];exact s_e []
  |some s=>
   show AWp _ _ _ _ (pc1 q c (n,s));rw[pc1.eq_1];refine r_c 3 (cw c) ?_;refine a_z ?_;refine ap rfl (fun a=>?_) (fun a=>?_);have b:c=0:=sgZ_num_eq.1 (by simpa using a);refine ay ⟨some s,by rw[if_pos b],?_⟩;show SEnt _ (pb1 q (n,s));rw[pb1.eq_1];exact s_e [];have b:c≠0:=fun e=>by have w:=sgZ_num_eq.2 e;simp[w] at a
   refine ak ⟨(),b,?_⟩;show SEnt _ (pc1 q c (n,s));rw[pc1.eq_1];exact s_e []
  rintro _ T;rw[if_neg T];have y:(sgZ c.num< 0)↔c< 0:=sgZ_neg c;refine bi (pcS q c n) (fun C=>C=kx o c) ?_ ?_;refine aj ?_;cases o with
  |none=>
   show AWp _ _ _ _ (pc0 q c n);rw[pc0.eq_1];refine s_r 8 ?_;refine o_0 (.callR (s:=none) (j:=0) (tb:=0) rfl rfl rfl rfl rfl (fun _ h=>by cases h) (sO)) ?_;refine a_2 ?_
   first|refine y_g rfl d_t (.load_l rfl rfl rfl TG.h TS.h (nle rfl)) ?_|refine y_g rfl d_t (.load_a rfl rfl TG.h TS.h (nle rfl)) ?_
   refine y_g rfl d_t (.call rfl rfl rfl (cw c)) ?_;refine y_g rfl d_t (.bin rfl rfl eN) ?_;refine o_0 (.pickT rfl d_t rfl) ?_;refine a_z ?_;refine ap rfl (fun a=>?_) (fun a=>?_);have b:c< 0:=y.1 (by simpa using a);refine r_m 1 ?_;refine o_2 (.callB (s:=none) (j:=0) rfl rfl rfl rfl rfl rfl (fun _ h=>by cases h) (kU [45] (by simp) (by simp))) ?_;refine ao ?_;refine⟨some [45],by simp only[kx];rw[if_pos b],?_⟩;show SEnt _ (pc1 q c (n,[45]));rw[pc1.eq_1];exact s_z [(2,100012)] (fun hs=>dU) (fun hs=>e_9);have b:¬c< 0:=fun e=>by have w:=y.2 e;simp[w] at a
   refine s_r 8 ?_;refine o_0 (.callR (s:=none) (j:=0) (tb:=0) rfl rfl rfl rfl rfl (fun _ h=>by cases h) (sO)) ?_;refine a_2 ?_;refine n_g rfl d_f ?_;refine n_g rfl d_f ?_;refine n_g rfl d_f ?_;refine o_0 (.pickF rfl d_f rfl) ?_;refine a_z ?_;refine cF (s_r 3 ?_);refine o_0 (.callR (s:=none) (j:=0) (tb:=0) rfl rfl rfl rfl rfl (fun _ h=>by cases h) (sO)) ?_;refine a_z ?_;refine ap rfl (fun u=>?_) (fun u=>?_);exact absurd u (by simp);refine ak ⟨none,by simp only[kx];rw[if_neg b],?_⟩;show SEnt _ (pc0 q c n);rw[pc0.eq_1];exact s_e []
  |some s=>
   have F:=(r s rfl).1;have i:=(r s rfl).2;have Y:s.length≠0:=by simpa using F
   show AWp _ _ _ _ (pc1 q c (n,s));rw[pc1.eq_1];refine s_r 8 ?_;refine o_0 (.callR (s:=some _) rfl rfl rfl rfl rfl (fun _ h=>by cases h;exact rfl) (sN s)) ?_;refine a_2 ?_;refine n_g rfl (by simp;omega) ?_;refine n_g rfl (by simp;omega) ?_;refine n_g rfl (by simp;omega) ?_;refine o_0 (.pickF rfl (by simp;omega) rfl) ?_;refine a_z ?_;refine ap rfl (fun a=>?_) (fun a=>?_)
   ·first|(simp at a;done)|(simp at a;omega)|(simp at a;exact absurd a F)
   refine s_r 8 ?_;refine o_0 (.callR (s:=some _) rfl rfl rfl rfl rfl (fun _ h=>by cases h;exact rfl) (sN s)) ?_;refine a_2 ?_
   first|refine y_g rfl (by simp;omega) (.load_l rfl rfl rfl TG.h TS.h (nle rfl)) ?_|refine y_g rfl (by simp;omega) (.load_a rfl rfl TG.h TS.h (nle rfl)) ?_
   refine y_g rfl (by simp;omega) (.call rfl rfl rfl (cw c)) ?_;refine y_g rfl (by simp;omega) (.bin rfl rfl eN) ?_;refine o_0 (.pickT rfl (by simp;omega) rfl) ?_;refine a_z ?_;refine ap rfl (fun w=>?_) (fun w=>?_);have b:c< 0:=y.1 (by simpa using w);refine r_m 1 ?_;refine o_3 (.callB (s:=some _) rfl rfl rfl rfl rfl rfl (fun _ h=>by cases h;exact⟨rfl,by decide⟩) (jr s [32,45,32] (by simp;omega))) ?_;refine ao ?_;refine⟨some (s++[32,45,32]),by simp only[kx];rw[if_pos b],?_⟩;show SEnt _ (pc1 q c (n,s++[32,45,32]));rw[pc1.eq_1];exact s_z [(2,100020)] (fun hs=>dU) (fun hs=>e_9);have b:¬c< 0:=fun e=>by have u:=y.2 e;simp[u] at w
   refine s_r 3 ?_;refine o_0 (.callR (s:=some _) rfl rfl rfl rfl rfl (fun _ h=>by cases h;exact rfl) (sN s)) ?_;refine a_z ?_;refine ap rfl (fun u=>?_) (fun u=>?_);refine r_m 1 ?_;refine o_3 (.callB (s:=some _) rfl rfl rfl rfl rfl rfl (fun _ h=>by cases h;exact⟨rfl,by decide⟩) (jr s [32,43,32] (by simp;omega))) ?_;refine ao ?_;refine⟨some (s++[32,43,32]),by simp only[kx];rw[if_neg b],?_⟩;show SEnt _ (pc1 q c (n,s++[32,43,32]));rw[pc1.eq_1];exact s_z [(2,100023)] (fun hs=>dU) (fun hs=>e_9)
   ·first|(simp at u;done)|(simp at u;omega)|(simp at u;exact absurd u F)
  rintro o1 rfl;have f:=zp r c;obtain⟨o1,d⟩:∃o1,o1=kx o c:=⟨_,rfl⟩;rw[←d] at f⊢;refine bi (fun _:Unit=>pdS q t n o1) (fun _=>True) ?_ ?_;cases o1 with
  |none=>
   show AWp _ _ _ _ (pc0 q c n);rw[pc0.eq_1];refine r_m 4 ?_;refine c_s (qR c) ?_;refine c_s (O) ?_;refine a_z ?_;refine⟨(),trivial,?_⟩;show SEnt _ (pd0 q t n);rw[pd0.eq_1];exact s_e []
  |some s=>
   show AWp _ _ _ _ (pc1 q c (n,s));rw[pc1.eq_1];refine r_m 4 ?_;refine c_s (qR c) ?_;refine c_s (O) ?_;refine a_z ?_;refine⟨(),trivial,?_⟩;show SEnt _ (pd1 q t (n,s));rw[pd1.eq_1];exact s_e []
  rintro _ _;refine bi (fun _:Unit=>pdS q t n o1) (fun _=>n≠0) ?_ ?_;cases o1 with
  |none=>
   show AWp _ _ _ _ (pd0 q t n);rw[pd0.eq_1];refine r_z 2 ?_;refine ap rfl (fun a=>?_) (fun a=>?_);have b:n=0:=by simpa using a
   subst b;refine s_r 2 ?_;refine a_1 ?_;refine o_2 (.callB (s:=none) (j:=0) rfl rfl rfl rfl rfl rfl (fun _ h=>by cases h) (kU t D (by omega))) ?_;refine ao ?_;refine ay ⟨some t,by unfold nG;rw[if_pos rfl,←d,←ht];rfl,?_⟩;show SEnt _ (pb1 q (((0:Nat):Int),t));rw[pb1.eq_1];exact s_z [(2,100007)] (fun hs=>dU) (fun hs=>kZ);have b:n≠0:=fun e=>by simp[e] at a
   refine ak ⟨(),b,?_⟩;show SEnt _ (pd0 q t n);rw[pd0.eq_1];exact s_e []
  |some s=>
   have i:=(f s rfl).2;show AWp _ _ _ _ (pd1 q t (n,s));rw[pd1.eq_1];refine r_z 2 ?_;refine ap rfl (fun a=>?_) (fun a=>?_);have b:n=0:=by simpa using a
   subst b;refine s_r 2 ?_;refine a_1 ?_;refine o_3 (.callB (s:=some _) rfl rfl rfl rfl rfl rfl (fun _ h=>by cases h;exact⟨rfl,by decide⟩) (jr s t (by omega))) ?_;refine ao ?_;refine ay ⟨some (s++t),by unfold nG;rw[if_pos rfl,←d,←ht];rfl,?_⟩;show SEnt _ (pb1 q (((0:Nat):Int),s++t));rw[pb1.eq_1];exact s_z [(2,100007)] (fun hs=>dU) (fun hs=>kZ);have b:n≠0:=fun e=>by simp[e] at a
   refine ak ⟨(),b,?_⟩;show SEnt _ (pd1 q t (n,s));rw[pd1.eq_1];exact s_e []
  rintro _ K;refine bi (pbS q n) (fun C=>C=ka o1 t) ?_ ?_;cases o1 with
  |none=>
   show AWp _ _ _ _ (pd0 q t n);rw[pd0.eq_1];refine s_r 2 ?_;refine a_1 ?_;refine o_0 (.bin rfl rfl (AL (m:=[49]))) ?_;refine ao ?_;refine ap rfl (fun a=>?_) (fun a=>?_);have b:¬t=[49]:=by simpa using a
   refine r_m 3 ?_;refine a_1 ?_;refine o_0 (.bin rfl rfl (kW (m:=[32]) (by simp;omega))) ?_;refine o_2 (.callB (s:=none) (j:=0) rfl rfl rfl rfl rfl rfl (fun _ h=>by cases h) (kU (t++[32]) (by simp) (by simp;omega))) ?_;refine ao ?_;refine⟨some (t++[32]),by unfold ka;rw[if_neg b];rfl,?_⟩;show SEnt _ (pb1 q (n,t++[32]));rw[pb1.eq_1];exact s_z [(2,100008)] (fun hs=>dU) (fun hs=>kZ);have b:t=[49]:=by simpa using a
   refine ak ⟨none,by unfold ka;rw[if_pos b],?_⟩;show SEnt _ (pb0 q n);rw[pb0.eq_1];exact s_e []
  |some s=>
   have i:=(f s rfl).2;show AWp _ _ _ _ (pd1 q t (n,s));rw[pd1.eq_1];refine s_r 2 ?_;refine a_1 ?_;refine o_0 (.bin rfl rfl (AL (m:=[49]))) ?_;refine ao ?_;refine ap rfl (fun a=>?_) (fun a=>?_);have b:¬t=[49]:=by simpa using a
   refine r_m 3 ?_;refine a_1 ?_;refine o_0 (.bin rfl rfl (kW (m:=[32]) (by simp;omega))) ?_;refine o_3 (.callB (s:=some _) rfl rfl rfl rfl rfl rfl (fun _ h=>by cases h;exact⟨rfl,by decide⟩) (jr s (t++[32]) (by simp;omega))) ?_;refine ao ?_;refine⟨some (s++(t++[32])),by unfold ka;rw[if_neg b];rfl,?_⟩;show SEnt _ (pb1 q (n,s++(t++[32])));rw[pb1.eq_1];exact s_z [(2,100008)] (fun hs=>dU) (fun hs=>kZ);have b:t=[49]:=by simpa using a
   refine ak ⟨some s,by unfold ka;rw[if_pos b],?_⟩;show SEnt _ (pb1 q (n,s));rw[pb1.eq_1];exact s_e []
  rintro o2 g
  have v:rX o2 (B+L+4):=by
   rw[g];unfold ka;split;exact gP f (by omega);exact gP (qz f (t:=t++[32]) (by simp)) (by simp;omega)
  refine bi (fun s=>pb1 q (n,s)) (fun s=>wrO o2 [120]=some s) ?_ ?_;cases o2 with
  |none=>
   show AWp _ _ _ _ (pb0 q n);rw[pb0.eq_1];refine r_m 1 ?_;refine o_2 (.callB (s:=none) (j:=0) rfl rfl rfl rfl rfl rfl (fun _ h=>by cases h) (kU [120] (by simp) (by simp))) ?_;refine ao ?_;refine⟨[120],rfl,?_⟩;simp only[pb1.eq_1];exact s_z [(2,100004)] (fun hs=>dU) (fun hs=>kZ)
  |some s=>
   have i:=(v s rfl).2;show AWp _ _ _ _ (pb1 q (n,s));rw[pb1.eq_1];refine r_m 1 ?_;refine o_3 (.callB (s:=some _) rfl rfl rfl rfl rfl rfl (fun _ h=>by cases h;exact⟨rfl,by decide⟩) (jr s [120] (by simp;omega))) ?_;refine ao ?_;refine⟨s++[120],rfl,?_⟩;simp only[pb1.eq_1];exact s_z [(2,100004)] (fun hs=>dU) (fun hs=>kZ)
  rintro s G;have N:=qz v (t:=[120]) (by simp) s G;have i:s.length≤B+L+5:=N.2;simp only[pb1.eq_1];refine r_z 2 ?_;refine ap rfl (fun a=>?_) (fun a=>?_);have b:1< n:=by simp at a;omega
  refine r_m 4 ?_;refine c_s (fI) ?_;refine o_0 (.bin rfl rfl (kW (l:=[94]) (by simp;omega))) ?_;refine o_3 (.callB (s:=some _) rfl rfl rfl rfl rfl rfl (fun _ h=>by cases h;exact⟨rfl,by decide⟩) (jr s ([94]++ti n) (by simp;omega))) ?_;refine ao ?_;refine⟨some (s++([94]++ti n)),by unfold nG;rw[if_neg K,if_pos b,←d,←ht,←g,G];rfl,?_⟩;show SEnt _ (pb1 q (n,s++([94]++ti n)));rw[pb1.eq_1];exact s_z [(2,100009)] (fun hs=>dU) (fun hs=>kZ);have b:¬1< n:=by simp at a;omega
  refine ak ⟨some s,by unfold nG;rw[if_neg K,if_neg b,←d,←ht,←g,G],?_⟩;show SEnt _ (pb1 q (n,s));rw[pb1.eq_1];exact s_e [];rintro C H
  have J:rX C (B+(L+30)):=by
   rw[H];split;exact gP r (by omega);have Q:=zp r c;unfold nG;rw[←ht]
   have g2:rX (ka (kx o c) t) (B+L+4):=by
    unfold ka;split;exact gP Q (by omega);exact gP (qz Q (t:=t++[32]) (by simp)) (by simp;omega)
   have g3:=qz g2 (t:=[120]) (by simp);split;exact gP (qz Q D) (by omega);split;exact gP (qz g3 (t:=[94]++ti n) (by simp)) (by simp;omega);exact gP g3 (by simp;omega)
  rw[←H] at A;cases C with
  |none=>
   show AWp _ _ _ _ (pb0 q n);rw[pb0.eq_1];refine r_m 3 ?_;refine a_z ?_;refine⟨(n,none),Nat.lt_succ_self n,⟨by simp only;omega,A,tV _⟩,?_⟩;show SEnt _ (pb0 q ((n:Int)- 1));rw[pb0.eq_1];exact s_e []
  |some s=>
   show AWp _ _ _ _ (pb1 q (n,s));rw[pb1.eq_1];refine r_m 3 ?_;refine a_z ?_;refine⟨(n,some s),Nat.lt_succ_self n,⟨by simp only;omega,A,by simp only;rw[U];exact J⟩,?_⟩;show SEnt _ (pb1 q ((n:Int)- 1,s));rw[pb1.eq_1];exact s_e []
 rintro o ⟨rfl,r⟩;cases v:ry tq ti q q.length none with
 |none=>
  show AWp _ _ _ _ (pb0 q (-1));rw[pb0.eq_1];refine ae (s_r 2 ?_);refine o_0 (.callR (s:=none) (j:=0) (tb:=0) rfl rfl rfl rfl rfl (fun _ h=>by cases h) (sO)) ?_;refine a_z ?_;refine ap rfl (fun a=>?_) (fun a=>?_);refine r_z 1 ?_;exact ai (t_e (ag _));exact absurd a (by simp)
 |some s=>
  have hs:=r s v;have i:s.length≠0:=by have:=hs.1;simpa using this
  have Z:=hs.1;show AWp _ _ _ _ (pb1 q (-1,s));rw[pb1.eq_1];refine ae (s_r 2 ?_);refine o_0 (.callR (s:=some _) rfl rfl rfl rfl rfl (fun _ h=>by cases h;exact rfl) (sN s)) ?_;refine a_z ?_;refine ap rfl (fun a=>?_) (fun a=>?_);exact absurd a (by simp;omega);refine ak (s_r 2 ?_);refine o_2 (.callD rfl rfl rfl rfl rfl rfl (by decide) (by first|assumption|simp) (wy)) ?_;refine a_z ?_;exact ai (t_e (ag _))
theorem uy(p:List Rat)(h:GM p):FS 24 [.arr (pE p)] (tx (Dd p)):=by
 obtain⟨h1,d,a⟩:=h;exact Fh lD jg 6 p h1 (by decide) (fun c hc=>⟨ux (fS c) (okT_abs (a c hc)),FU _,textQ_len.1⟩) (fun n b=>⟨D0 n (by omega),Nat.le_trans (kQ n) (by decide)⟩)
abbrev bP(p:List Rat):AV:= .aptr [[.arr (pE p)]] 0 0
abbrev bQ(q:Rat):AV:= .aptr [qC q] 0 0
theorem cV(p:List Rat):Closed (bP p):=ba (ac (ax p) af)
theorem cu(q:Rat):Closed (bQ q):=ba (aZ q)
theorem fs_Add1(p q:List Rat)(i:Nat)(hp:smL p)(hq:smL q):FS 79 [i64 i,bP p,bP q] (.agg (qC (coP p i+coP q i))):=by
 refine f_c Tryz.func79 ?_;refine r_z 1 ?_;refine ae (r_d a6 8 ?_);refine c_s (fs_at p i) ?_;refine c_s (fs_at q i) ?_;refine c_s (fh (coP p i) (coP q i) (sm2 (mB hp i) (mB hq i))) ?_;refine a_1 ?_;refine ao (n_k ?_);exact ai (c_e (aT _))
theorem mh(p q:List Rat)(hp:smL p)(hq:smL q)(hp1:p.length≤1099511627776)(hq1:q.length≤1099511627776):FS 32 [.arr (pE p),.arr (pE q)] (.arr (pE (fR p q))):=by
 refine f_c Tryz.func32 ?_;refine r_z 3 ?_;refine AWp.ent (st':=⟨[(2,bP p),(3,bP q)],[],1,12⟩) ?_ ?_;exact s_e []
 have b:(if ((q.length:Nat):Int)>(p.length:Nat) then((q.length:Nat):Int) else(p.length:Nat))=((max p.length q.length:Nat):Int):=by
  rw[Nat.max_def];split <;> split <;> omega
 have a:=sK (max p.length q.length) (fun i=>coP p i+coP q i) 79 [bP p,bP q] (Nat.max_le.2 ⟨hp1,hq1⟩) (ac (cV p) (ac (cV q) af)) (fun i _=>fs_Add1 p q i hp hq);rw[←b] at a;refine r_c 8 (a) ?_;refine a_z ?_;exact ai (t_e (ax _))
theorem Ff(p:List Rat)(k:Rat)(i:Nat)(hp:smL p)(hk:sm k)(hi:i< p.length):FS 28 [i64 i,bP p,bQ k] (.agg (qC (coP p i* k))):=by
 have hg:(pE p)[((i:Nat):Int).toNat]?=some (qC (coP p i)):=pE_get (ca hi);refine f_c Tryz.func28 ?_;refine r_z 1 ?_;refine ae (r_d a6 7 ?_);refine a_2 ?_;refine i_x hg ?_;refine l_x hg ?_;refine c_s (cJ (coP p i) k (sm2 (mB hp i) hk)) ?_;refine a_1 ?_;refine ao (n_k ?_);exact ai (c_e (aT _))
theorem eI(p:List Rat)(k:Rat)(hp:smL p)(hk:sm k)(hp1:p.length≤1099511627776):FS 8 [.arr (pE p),.agg (qC k)] (.arr (pE (aX p k))):=by
 have b:=sK p.length (fun i=>coP p i* k) 28 [bP p,bQ k] hp1 (ac (cV p) (ac (cu k) af)) (fun i a=>Ff p k i hp hk a);refine f_c Tryz.func8 ?_;refine r_z 3 ?_;refine AWp.ent (st':=⟨[(2,bP p),(3,bQ k)],[],1,9⟩) ?_ ?_;exact s_e [];refine r_c 5 (b) ?_;refine a_z ?_;exact ai (t_e (ax _))
theorem gU(a b:Rat)(hb:b≠0)(h:qs a+qs b≤549755813888):FS 156 [.agg (qC a),.agg (qC b)] (.agg (qC (a/ b))):=by
 refine f_c Tryz.func156 ?_;refine r_z 3 ?_;refine r_c 9 (Co a b hb h) ?_;refine a_z ?_;refine r_z 2 ?_;exact ai (c_e (aT _))
theorem rM(a:Rat):FS 193 [.agg (qC a)] (.arr (pE (ed a))):=by
 refine f_c Tryz.func193 ?_;refine r_z 2 ?_;refine s_r 4 ?_;refine a_2 ?_;refine o_1 (.callS1 rfl rfl rfl (.shut rfl d_n (.nil)) rfl ((dd [a] (by simp)))) ?_;refine a_z ?_;exact ai (t_e (ax _))
theorem fs_line(a:Rat):FS 154 [.agg (qC a)] (.arr (pE [a,1])):=by
 refine f_c Tryz.func154 ?_;refine r_z 2 ?_;refine ae (r_d a6 4 ?_);refine c_s (du 1 (by decide)) ?_;refine a_2 ?_;refine ao (n_k ?_);exact ai (Fin.tmpS rfl rfl rfl rfl (aJ [a,1]))
theorem sm_neg1{a:Rat}(h:sm a):sm (a* (-1)):=by
 unfold sm at *
 rw[show a* (-1)= -a by rw[Rat.mul_comm,Rat.neg_mul,Rat.one_mul],iW];exact h
theorem qs_inv(b:Rat)(hb:b≠0):qs (1/ b)≤qs b:=by
 rw[qZ 1 b hb];have c:b.num≠0:=fun e=>hb (Rat.num_eq_zero.1 e);have h1:=dW b;have a:=dM b
 refine fo (by have:0< b.num.natAbs:=by omega
               show 0< 1* b.num.natAbs;omega) ?_ ?_
 show bl ((1:Int) * sgn (decide (b.num< 0)) b.den).natAbs≤qs b;rw[Int.one_mul,fl];exact a;show bl (1* b.num.natAbs)≤qs b;rw[Nat.one_mul];exact h1
theorem Bt{q:List Rat}(h:smL q):smL (aX q (-1)):=by
 refine lP fun x a=>?_;obtain⟨i,_,rfl⟩:=List.mem_map.1 a;exact sm_neg1 (mB h i)
theorem xQ(p q:List Rat)(hp:smL p)(hq:smL q)(hp1:p.length≤1099511627776)(hq1:q.length≤1099511627776):FS 10 [.arr (pE p),.arr (pE q)] (.arr (pE (cK p q))):=by
 have a:=cL q (-1);refine f_c Tryz.func10 ?_;refine r_z 1 ?_;refine r_c 6 (du (-1) (by decide)) ?_;refine c_s (eI q (-1) hq (by decide) hq1) ?_;refine c_s (mh p (aX q (-1)) hp (Bt hq) hp1 (by omega)) ?_;refine a_z ?_;exact ai (t_e (ax _))
theorem ui(p:List Rat)(hp:smL p)(hp1:p.length≤1099511627776):FS 227 [.arr (pE p)] (.arr (pE (ki p))):=by
 have a:=G3 hp;refine f_c Tryz.func227 ?_;refine r_z 1 ?_;refine ae (r_c 3 (dk p hp1) ?_);refine a_z ?_;refine ap rfl (fun h=>?_) (fun h=>?_)
 have c:aq p=[]:=by
  have h1:bD p< 0:=by simpa using h
  unfold bD at h1;exact List.length_eq_zero_iff.1 (by omega)
 refine r_z 1 ?_;refine ai ?_;unfold ki;rw[if_pos c];exact Fin.tmpN rfl
 have c:aq p≠[]:=by
  intro e;have h1:¬bD p< 0:=by simpa using h
  unfold bD at h1;rw[e] at h1;exact h1 (by decide)
 have b:=fZ c;have d:=qs_inv (aS p) b;unfold sm at a;have h1:qs 1=1:=by decide
 unfold ki;rw[if_neg c];refine ak (r_c 7 (du 1 (by decide)) ?_);refine c_s (pL p hp1) ?_;refine c_s (gU 1 (aS p) b (by omega)) ?_;refine c_s (eI p (1/ aS p) hp (by unfold sm;omega) hp1) ?_;refine a_z ?_;exact ai (t_e (ax _))
theorem za(i:Nat)(h:i≤1099511627776):qs (((i:Nat):Int):Rat)≤64:=by
 refine Nat.max_le.2 ⟨?_,?_⟩;show bl ((i:Int)).natAbs≤64;rw[Int.natAbs_natCast];exact hZ (by omega);show bl 1≤64;decide
theorem Ct(p:List Rat)(i:Nat)(hp:smL p)(hi:i+1< p.length)(hp1:p.length≤1099511627776):FS 183 [i64 i,bP p] (.agg (qC (coP p (i+1) * ((i+1:Nat):Int)))):=by
 have hg:(pE p)[(((i:Nat):Int)+1).toNat]?=some (qC (coP p (i+1))):=by
  rw[show(((i:Nat):Int)+1).toNat=i+1 by omega];exact pE_get (ca hi)
 have hs:=mB hp (i+1);have b:=za (i+1) (by omega);unfold sm at hs;have a:=du (((i:Nat):Int)+1) (by omega);rw[show((i:Nat):Int)+1=((i+1:Nat):Int) by omega] at a;refine f_c Tryz.func183 ?_;refine r_z 1 ?_;refine ae (r_d a6 10 ?_);refine a_3 ?_;refine i_x hg ?_;refine l_x hg ?_;refine c_s (a) ?_;refine c_s (cJ (coP p (i+1)) ((i+1:Nat):Int) (by omega)) ?_;refine a_1 ?_;refine ao (n_k ?_);exact ai (c_e (aT _))
theorem qS(p:List Rat)(hp:smL p)(hp1:p.length≤1099511627776):FS 146 [.arr (pE p)] (.arr (pE (dZ p))):=by
 have a:=sK (p.length- 1) (fun i=>coP p (i+1) * ((i+1:Nat):Int)) 183 [bP p] (by omega) (ac (cV p) af) (fun i c=>Ct p i hp (by omega) hp1);have b:(if (0:Int)>((p.length:Nat):Int)- 1 then(0:Int) else((p.length:Nat):Int)- 1)=((p.length- 1:Nat):Int):=by split <;> omega
 rw[←b] at a;refine f_c Tryz.func146 ?_;refine r_z 2 ?_;refine AWp.ent (st':=⟨[(1,bP p)],[],1,9⟩) ?_ ?_;exact s_e [];refine r_c 7 (a) ?_;refine a_z ?_;exact ai (t_e (ax _))
theorem xU(p:List Rat)(i:Nat)(hp:smL p)(hi:i< p.length+1)(hp1:p.length≤1099511627775):FS 155 [i64 i,bP p] (.agg (qC (if i=0 then 0 else coP p (i- 1) / ((i:Nat):Int)))):=by
 refine f_c Tryz.func155 ?_;refine r_z 1 ?_;refine ae (r_z 2 ?_);refine ap rfl (fun h=>?_) (fun h=>?_)
 have a:i=0:=by
  have h1:(i:Int)=0:=by simpa using h
  omega
 rw[if_pos a];refine r_z 2 ?_;refine ai (Fin.cell rfl rfl rfl TG.h TS.h (nle rfl) (Cv.agg ?_));rw[qC0];exact ah (Cv.emp _) (ah (am aD (ag _)) (ah (Cv.emp _) av))
 have a:i≠0:=by
  intro e;have h1:¬(i:Int)=0:=by simpa using h
  omega
 rw[if_neg a]
 have hg:(pE p)[(((i:Nat):Int)- 1).toNat]?=some (qC (coP p (i- 1))):=by
  rw[show(((i:Nat):Int)- 1).toNat=i- 1 by omega];exact pE_get (ca (by omega))
 have hs:=mB hp (i- 1);have b:=za i (by omega);unfold sm at hs;refine ak (ae (r_d a6 9 ?_));refine a_3 ?_;refine i_x hg ?_;refine l_x hg ?_;refine c_s (du ((i:Nat):Int) (by omega)) ?_;refine c_s (gU (coP p (i- 1)) ((i:Nat):Int) (by intro e;have e2:=congrArg Rat.num e;simp at e2;omega) (by omega)) ?_;refine a_1 ?_;refine ao (n_k ?_);exact ai (c_e (aT _))
theorem rN(p:List Rat)(hp:smL p)(hp1:p.length≤1099511627775):FS 115 [.arr (pE p)] (.arr (pE (aK p))):=by
 have a:=sK (p.length+1) (fun i=>if i=0 then 0 else coP p (i- 1) / ((i:Nat):Int)) 155 [bP p] (by omega) (ac (cV p) af) (fun i b=>xU p i hp b hp1);rw[show((p.length+1:Nat):Int)=((p.length:Nat):Int)+1 by omega] at a;refine f_c Tryz.func115 ?_;refine r_z 2 ?_;refine AWp.ent (st':=⟨[(1,bP p)],[],1,8⟩) ?_ ?_;exact s_e [];refine r_c 6 (a) ?_;refine a_z ?_;exact ai (t_e (ax _))
theorem HJ(a b:Rat)(ha:sm a)(hb:sm b):FS 44 [.agg (qC a),.agg (qC b)] (bln (decide (a=b))):=by
 have e:(fy a b==(0:Int))=decide (a=b):=by
  unfold fy;by_cases h:a=b;subst h;simp[Rat.lt_irrefl];by_cases h1:a< b;simp[h,h1];simp[h,h1]
 refine f_c Tryz.func44 ?_;refine r_z 3 ?_;refine r_c 5 (qP a b ha hb) ?_;refine a_z ?_;refine ai (aW rfl ?_ ?_);rw[←e];rfl;exact ag _
def eqS(p:List Rat)(q:List Rat):Nat→AState
 |i=>⟨[(1,.arr (pE q)),(2,.clos 44 [] []),(15,.arr (pE p)),(16,i64 p.length),(17,i64 i)],[],1,32⟩
theorem xW(p q:List Rat)(hp:smL p)(hq:smL q)(hp1:p.length≤1099511627776):FS 42 [.arr (pE p),.arr (pE q),.clos 44 [] []] (bln (decide (p=q))):=by
 refine f_n Tryz.func42 ?_ ?_;exact ac (ax p) (ac (ax q) (ac (aP af af) af));refine r_z 1 ?_;refine ae (r_z 5 ?_);refine ap rfl (fun h=>?_) (fun h=>?_)
 have c:p≠q:=by
  intro e;subst e;simp at h
 refine r_z 1 ?_;refine ai (aW rfl ?_ ?_);simp[c];rfl;exact ag _
 have f:p.length=q.length:=by
  have h1:(p.length:Int)=q.length:=by simpa using h
  omega
 refine ak (ae (r_z 3 ?_));refine aG (fun _:Unit=>⟨[],[],1,32⟩) (fun _=>p=q) ?_ ?_;refine aj (aB (eqS p q) (fun i=>p.length- i) (fun i=>i≤p.length∧p.take i=q.take i) 0 ⟨Nat.zero_le _,rfl⟩ ?_ ?_);simp only[eqS.eq_1];exact s_e [];rintro i ⟨m,ht⟩;rw[eqS.eq_1];refine r_z 1 ?_;refine ae (ap rfl (fun h1=>?_) (fun h1=>?_));refine ak ?_;have b:i< p.length:=by simpa using h1
 have a:i< q.length:=by omega
 have d:(pE p)[((i:Nat):Int).toNat]?=some (qC (coP p i)):=pE_get (ca b);have g:(pE q)[((i:Nat):Int).toNat]?=some (qC (coP q i)):=pE_get (ca a);refine ae (aj (s_r 6 ?_));refine a_1 ?_;refine i_x d ?_;refine l_x d ?_;refine a_z ?_;refine s_r 6 ?_;refine a_2 ?_;refine i_x g ?_;refine l_x g ?_;refine a_z ?_;refine r_c 5 (HJ (coP p i) (coP q i) (mB hp i) (mB hq i)) ?_;refine a_z ?_;refine ap rfl (fun j=>?_) (fun j=>?_);have hc:coP p i≠coP q i:=by simpa using j
 have c:p≠q:=fun e=>hc (by rw[e]);refine r_z 1 ?_;refine ai (aW rfl ?_ ?_);simp[c];rfl;exact ag _;have hc:coP p i=coP q i:=by simpa using j
 refine ak (r_m 2 ?_);refine a_z ?_;refine⟨i+1,by omega,⟨b,?_⟩,?_⟩;rw[cx (ca b),cx (ca a),ht,hc];simp only[eqS.eq_1];exact s_e []
 have k:i=p.length:=by
  have:¬i< p.length:=by simpa using h1
  omega
 subst k;refine ay ⟨(),?_,?_⟩;rw[List.take_length,f,List.take_length] at ht;exact ht;exact s_e [];rintro _ l;refine r_z 1 ?_;refine ai (aW rfl ?_ ?_);simp[l];rfl;exact ag _
theorem xR(p q:List Rat)(hp:smL p)(hq:smL q)(hp1:p.length≤1099511627776)(hq1:q.length≤1099511627776):FS 13 [.arr (pE p),.arr (pE q)] (bln (Dj p q)):=by
 refine f_c Tryz.func13 ?_;refine r_z 1 ?_;refine r_c 6 (dd p hp1) ?_;refine c_s (dd q hq1) ?_;refine c_s (xW (aq p) (aq q) (lP hp) (lP hq) (Nat.le_trans (bF p) hp1)) ?_;refine a_z ?_;exact ai (t_e (ag _))
end Go.Proofs.YtdgbhlkabelmbaaGreatDoor
