/- Part Y19 of the proof. -/
import Derived.Test.YtjgokhkahkmpbaaGreatDoorY18
set_option linter.all false
namespace Go.Proofs.YtjgokhkahkmpbaaGreatDoor
open Go.Abs
set_option maxRecDepth 20000
set_option maxHeartbeats 1000000
theorem fs_ends (g:Nat) (op:Rat->Rat->Rat) (a b c d:Rat) (h1:FS g [.agg (qC a),.agg (qC c)] (.agg (qC (op a c)))) (h2:FS g [.agg (qC a),.agg (qC d)] (.agg (qC (op a d)))) (h3:FS g [.agg (qC b),.agg (qC c)] (.agg (qC (op b c)))) (h4:FS g [.agg (qC b),.agg (qC d)] (.agg (qC (op b d))))
    (hs:smL [op a c,op a d,op b c,op b d]):FS 283 [.clos g [] [],.agg (spC a b),.agg (spC c d)] (.agg (spC (GP [op a c,op a d,op b c,op b d]) (oc [op a c,op a d,op b c,op b d]))):=by
 refine f_n Tryz.func283 ?_ ?_;exact ae (aY ai ai) (ae (bK a b) (ae (bK c d) ai));refine r_z 3 ?_;refine ac (r_d hmix 27 ?_);refine c_s (h1) ?_;refine c_s (h2) ?_;refine c_s (h3) ?_;refine c_s (h4) ?_;refine a_1 ?_;refine o_1 (.callS1 rfl rfl rfl (.shut rfl d_n (.nil)) rfl (BW [op a c,op a d,op b c,op b d] hs ψ)) ?_;refine a_1 ?_;refine ao (n_k ?_);exact an (c_e (bK _ _))
theorem fs_SMul(a b c d:Rat)(ha:sm a)(hb:sm b)(hc:sm c)(hd:sm d)(hs:smL [a* c,a* d,b* c,b* d]):FS 278 [.agg (spC a b),.agg (spC c d)] (.agg (spC (GP [a* c,a* d,b* c,b* d]) (oc [a* c,a* d,b* c,b* d]))):=by
 refine f_c Tryz.func278 ?_;refine r_z 3 ?_;refine r_c 4 (fs_ends 25 (λx y=>x* y) a b c d (dq a c (sm2 ha hc)) (dq a d (sm2 ha hd)) (dq b c (sm2 hb hc)) (dq b d (sm2 hb hd)) hs) ?_;refine a_z ?_;exact an (c_e (bK _ _))
theorem qs_int(n:Int):qs (n:Rat)<=max (bl n.natAbs) 1:=by
 have e1:(n:Rat).num=n:=rfl;have e2:(n:Rat).den=1:=rfl;unfold qs;rw[e1,e2,ko];exact Nat.le_refl _
theorem Gk{n:Int}(h: -9223372036854775808<=n/\n<=9223372036854775807):qs (n:Rat)<=64:=by
 have h1:=qs_int n;have h2:bl n.natAbs<=64:=jc (Nat.lt_of_le_of_lt (show n.natAbs<=9223372036854775808 by omega) δ);omega
theorem fs_Of(n d:Int)(hn: -9223372036854775808<=n/\n<=9223372036854775807)(hd: -9223372036854775808<=d/\d<=9223372036854775807)(h0:d≠0):FS 105 [i64 n,i64 d] (.tup [.agg (qC ((n:Rat) / (d:Rat))),i64 0]):=by
 have h1:=Gk hn;have h2:=Gk hd
 have hd0:(d:Rat)≠0:=by
  intro h;have:(d:Rat).num=0:=by rw[h];rfl
  exact h0 this
 refine f_c Tryz.func105 ?_;refine r_z 2 ?_;refine r_c 9 (df n hn) ?_;refine c_s (df d hd) ?_;refine c_s (B9 (n:Rat) (d:Rat) hd0 ω) ?_;refine a_z ?_;refine an (Fin.many ⟨_,_,rfl,⟨_,_,_,_,_,rfl,rfl,rfl,.inl ⟨TG.h,_,TS.h,nle rfl,rfl⟩⟩,⟨_,_,rfl,rfl,rfl⟩⟩ (nle rfl) ?_);exact af (ah aE (aS _)) (af (ah aE (ag _)) ax)
theorem η{p:Prop}(h:p:=by first|exact cV _|exact cU _|exact cy _|exact cW _|exact cS _|assumption|rfl|simp):p:=h
theorem Ai(l:Lq)(hl:l.length<=1099511627776):FS 77 [.arr (pE l)] (.arr (pE l)):=by
 cases l with
 |nil=>
  refine FSpec.nil1 λa c=>?_;refine f_c Tryz.func77 ?_;refine r_z 1 ?_;refine ac (r_z 2 ?_);refine aw rfl (λh=>?_) (λh=>?_);refine r_z 1 ?_;exact an (Fin.tmpN rfl)
  ·refine am (s_r 4 ?_)
   refine a_2 ?_;refine o_2 (.append_l rfl rfl rfl te_30.h rfl rfl rfl rfl rfl d_o η ξ rfl (.vnil) TZ.h rfl TB.h d_o μ) ?_;refine a_z ?_;exact an (Fin.tmpS rfl rfl rfl rfl (aJ []))
 |cons q l=>
  have hne:pE (q::l)≠[]:=by simp[pE]
  simp at hl;refine f_c Tryz.func77 ?_;refine r_z 1 ?_;refine ac (s_r 2 ?_);refine a_1 ?_
  first|refine av (.nilq_v rfl rfl te_30.h) rfl rfl ?_|refine av (.nilq_arr rfl (hne) rfl te_30.h) rfl rfl ?_
  refine ao ?_;refine cF ?_
  ·refine am (s_r 4 ?_)
   refine a_2 ?_;refine o_2 (.append_l rfl rfl rfl te_30.h rfl rfl rfl rfl rfl d_o η ξ rfl (.arr (fl _)) TZ.h rfl TB.h d_o μ) ?_;refine a_z ?_;exact an (Fin.tmpS rfl rfl rfl ψ (aJ _))
def trS(l:Lq):Nat->AState
 |n=>⟨[(0,.arr (pE l)),(3,i64 n)],[],1,23⟩
theorem ζ{p:Prop}(h:p:=by simp <;> omega):p:=h
theorem dT(l:Lq)(hl:l.length<=1099511627776):FS 21 [.arr (pE l)] (.arr (pE (aA l))):=by
 refine f_c Tryz.func21 ?_;refine r_z 1 ?_;refine r_z 3 ?_;refine bi (trS l) (λn=>n<=l.length/\aA l=l.take n) ?_ ?_;refine ak (aC (trS l) (λn=>n) (λn=>n<=l.length/\aA l=aA (l.take n)) l.length ⟨Nat.le_refl _,by rw[List.take_length]⟩ ?_ ?_);simp only[trS.eq_1];exact s_e [];rintro n ⟨hn,ht⟩;rw[trS.eq_1];cases n with
 |zero=>
  refine ac (s_r 11 ?_);refine a_3 ?_;refine n_g rfl ψ ?_;refine n_g rfl ψ ?_;refine n_g rfl ψ ?_;refine n_g rfl ψ ?_;refine n_g rfl ψ ?_;refine n_g rfl ψ ?_;refine n_g rfl ψ ?_;refine o_0 (.pickF rfl ψ rfl) ?_;refine ao ?_;refine cF ?_;refine aB ⟨0,⟨Nat.zero_le _,?_⟩,?_⟩;rw[ht];rfl;simp only[trS.eq_1];exact s_e []
 |succ n=>
  obtain⟨q,hq⟩:∃q,l[n]?=some q:=⟨_,List.getElem?_eq_getElem ω⟩
  have hq':(pE l)[(((n+1:Nat):Int)- 1).toNat]?=some (qC q):=by
   rw[show(((n+1:Nat):Int)- 1).toNat=n by omega];exact cj hq
  have hs:aA (l.take (n+1))=if q=0 then aA (l.take n) else l.take (n+1):=by
   rw[dO hq,kY]
  refine ac (s_r 11 ?_);refine a_3 ?_;refine y_g rfl ζ (.move rfl) ?_;refine y_g rfl ζ (.move rfl) ?_;refine y_g rfl ζ (.bin rfl rfl (iL ω)) ?_
  first|refine y_g rfl ζ (.index_l rfl rfl ω ω te_30.h) ?_|refine y_g rfl ζ (.index_a rfl rfl ω hq' rfl te_30.h) ?_
  first|refine y_g rfl ζ (.load_l rfl rfl hq' TG.h TS.h (nle rfl)) ?_|refine y_g rfl ζ (.load_a rfl hq' TG.h TS.h (nle rfl)) ?_
  refine y_g rfl ζ (.call rfl rfl rfl (cb q)) ?_;refine y_g rfl ζ (.bin rfl rfl aM) ?_;refine o_0 (.pickT rfl ζ rfl) ?_;refine ao ?_;refine aw rfl (λh=>?_) (λh=>?_)
  have h0:q=0:=by
   have h1:sgZ q.num=0:=by simpa using h
   exact sgZ_num_eq.1 h1
  refine am (ak (r_m 3 ?_));refine a_z ?_;refine⟨n,Nat.lt_succ_self n,⟨ω,?_⟩,?_⟩;rw[ht,hs,if_pos h0];simp only[trS.eq_1];exact s_e []
  have h0:q≠0:=by
   intro e;have h1:¬sgZ q.num=0:=by simpa using h
   exact h1 (sgZ_num_eq.2 e)
  refine aB ⟨n+1,⟨hn,?_⟩,?_⟩;rw[ht,hs,if_neg h0];simp only[trS.eq_1];exact s_e []
 rintro n ⟨hn,ht⟩;rw[trS.eq_1];have hcl:=Ai (l.take n) χ;refine s_r 5 ?_;refine a_2 ?_;refine o_0 (.sa_h rfl rfl (h:=n) rfl χ te_30.h (fl _)) ?_;refine o_0 (.call rfl rfl rfl ((by rw[li];exact hcl))) ?_;refine o_0 (.assign rfl) ?_;refine ao ?_;refine an (aR rfl ?_ ?_);rw[ht];exact aU (aJ _)
theorem cK(l:Lq)(hl:l.length<=1099511627776):FS 22 [.arr (pE l)] (i64 (db l)):=by
 have:=cv l;refine f_c Tryz.func22 ?_;refine r_z 1 ?_;refine r_c 5 (dT l hl) ?_;refine a_z ?_;exact an (t_e (ag _))
theorem lI(l:Lq)(hl:l.length<=1099511627776):FS 110 [.arr (pE l)] (.agg (qC (bu l))):=by
 have hlen:=cv l;refine f_c Tryz.func110 ?_;refine r_z 1 ?_;refine r_c 3 (dT l hl) ?_;refine a_z ?_;refine ac (r_z 3 ?_);refine aw rfl (λh=>?_) (λh=>?_)
 have h0:aA l=[]:=by
  have h1:(aA l).length=0:=by simpa using h
  exact List.length_eq_zero_iff.1 h1
 rw[v8 h0];refine r_z 2 ?_;refine an (Fin.cell rfl rfl rfl TG.h TS.h (nle rfl) (Cv.agg ?_));rw[qC0];exact af (Cv.emp _) (af (ah aE (ag _)) (af (Cv.emp _) ax))
 obtain⟨n,hn⟩:∃n,(aA l).length=n+1:=⟨(aA l).length- 1,by
  have h1:¬(aA l).length=0:=by simpa using h
  omega⟩
 have hg:(pE (aA l))[(((aA l).length:Int)- 1).toNat]?=some (qC (bu l)):=by
  rw[hn,show(((n+1:Nat):Int)- 1).toNat=n by omega];exact cj (gq hn)
 refine am (s_r 7 ?_);refine a_4 ?_;refine i_x hg ?_;refine l_x hg ?_;refine a_z ?_;exact an (c_e (aS _))
theorem fs_at(l:Lq)(i:Nat):FS 172 [.arr (pE l),i64 i] (.agg (qC (coP l i))):=by
 refine f_c Tryz.func172 ?_;refine r_z 1 ?_;refine ac (r_z 4 ?_);refine aw rfl (λh=>?_) (λh=>?_);have hlt:i< l.length:=by simpa using h
 have hg:(pE l)[((i:Nat):Int).toNat]?=some (qC (coP l i)):=cj (bJ hlt);refine s_r 5 ?_;refine a_2 ?_;refine i_x hg ?_;refine l_x hg ?_;refine a_z ?_;exact an (c_e (aS _));have hge:l.length<=i:=by simpa using h
 rw[lJ hge];refine am (r_z 2 ?_);refine an (Fin.cell rfl rfl rfl TG.h TS.h (nle rfl) (Cv.agg ?_));rw[qC0];exact af (Cv.emp _) (af (ah aE (ag _)) (af (Cv.emp _) ax))
theorem eE_set{n i e:Nat}{f:Nat->Rat}(h:i< n)(he:e=i):(pE (aH i f)++List.replicate (n- i) zC).set e (qC (f i))=pE (aH (i+1) f)++List.replicate (n- (i+1)) zC:=by
 subst he;obtain⟨k,rfl⟩:∃k,n=e+1+k:=⟨n- (e+1),ω⟩;rw[show e+1+k- e=k+1 by omega,show e+1+k- (e+1)=k by omega,List.replicate_succ,List.set_append_right _ _ ψ];simp[aH,List.range_succ,pE]
theorem eE_get{n i e:Nat}{f:Nat->Rat}(h:i< n)(he:e=i):(pE (aH i f)++List.replicate (n- i) zC)[e]?=some zC:=by
 subst he;rw[List.getElem?_append_right ψ,List.getElem?_replicate,if_pos χ]
theorem rp(n i:Nat)(f:Nat->Rat):∀e∈pE (aH i f)++List.replicate (n- i) zC,∀c∈e,Closed c:=by
 intro e he;rcases List.mem_append.1 he with he|he
 exact aJ _ e he;rw[List.eq_of_mem_replicate he];exact b7
def HG(n:Nat)(f:Nat->Rat)(g:Nat)(cap:La):Nat->AState
 |i=>⟨[(1,.clos g [] cap),(5,.lsl 1 0 n (some n) 3),(10,i64 n),(11,i64 i)],[(1,some ⟨42,3,pE (aH i f)++List.replicate (n- i) zC⟩)],2,23⟩
theorem xK(n:Nat)(f:Nat->Rat)(g:Nat)(cap:La)(hn:n<=1099511627776)(hcap:∀c∈cap,Closed c)(hg:∀i,i< n->FS g ((i64 i::cap).map coe) (.agg (qC (f i)))):FS 169 [i64 n,.clos g [] cap] (.arr (pE (aA (aH n f)))):=by
 refine f_n Tryz.func169 ?_ ?_;exact ae (ag _) (ae (aY ai hcap) ai);refine r_z 1 ?_;refine r_z 3 ?_;refine ac (r_z 3 ?_);refine aG (λ_:Unit=>HG n f g cap n) (λ_=>True) ?_ ?_;refine ak (aC (HG n f g cap) (λi=>n- i) (λi=>i<=n) 0 (Nat.zero_le _) ?_ ?_);simp only[HG.eq_1];refine s_x [(1,5)] (λhs=>e_6) (λhs=>?_)
 ·repeat' (first|exact aD|refine h_c ?_ ?_|exact aI hs rfl (rp n 0 f)|exact bG|refine ay ?_|exact ax|refine af ?_ ?_|exact ah hs (aY ai hcap)|exact aX)
 rintro i hi;rw[HG.eq_1];refine r_z 1 ?_;refine ac (aw rfl (λh=>?_) (λh=>?_));refine am ?_;have hlt:i< n:=by simpa using h
 refine ac (ak (r_z 2 ?_));refine r_m 7 ?_;refine c_s (hg i hlt) ?_;refine a_1 ?_;refine ee (.store rfl rfl (eE_get hlt (Nat.zero_add i)) rfl rfl rfl TS.h (nle rfl)) ?_;refine ao ?_;refine r_m 2 ?_;refine a_z ?_;refine⟨i+1,ω,hlt,?_⟩;simp only[HG.eq_1];refine s_x [] (λhs=>e_6) (λhs=>?_)
 ·repeat' (first|exact aD|refine h_c ?_ ?_|exact aI hs (eE_set hlt (Nat.zero_add i)) (rp n (i+1) f)|exact bG|refine ay ?_|exact ax|refine af ?_ ?_|exact ah hs (aY ai hcap)|exact aX)
 have hge:i=n:=by
  have:¬i< n:=by simpa using h
  omega
 subst hge;refine aB ⟨(),trivial,?_⟩;simp only[HG.eq_1];refine s_x [] (λhs=>e_6) (λhs=>?_)
 ·repeat' (first|exact aD|refine h_c ?_ ?_|exact bZ hs (rp i i f)|exact bG|refine ay ?_|exact ax|refine af ?_ ?_|exact ah hs (aY ai hcap)|exact aX)
 rintro _ _;rw[HG.eq_1]
 have hfull:List.take n (List.drop 0 (pE (aH n f)++List.replicate (n- n) zC))=pE (aH n f):=by
  rw[Nat.sub_self,List.replicate_zero,List.append_nil,List.drop_zero,List.take_of_length_le ψ]
 refine s_r 3 ?_;refine a_1 ?_;refine o_1 (.callS1 rfl rfl rfl (.shut rfl d_n (.nil)) rfl ((by rw[hfull];exact dT (aH n f) (by simp;exact hn)))) ?_;refine a_z ?_;exact an (t_e (aU (aJ _)))
section
variable {o:Option (List UInt8)}{n:Nat}
section
variable {P:Go.Program}{T:Nat}{x y:Operand}
theorem AI{l m:List UInt8}:∀w,(do eqGuard .neq T x y (.string ⟨l.toArray⟩) (.string ⟨m.toArray⟩);binOp .neq T (.string ⟨l.toArray⟩) (.string ⟨m.toArray⟩):Sem Value).run P w= .ok (.bool (!decide (l=m))) w:=λw=>by
 rw[AH];congr 2
 have e:∀l:List UInt8,(⟨l.toArray⟩:ByteArray).toList=l:=by
  intro l;have:=ByteArray.toList_eq (bs:=⟨l.toArray⟩);simpa using this
 rw[e,e];rw[Bool.eq_iff_iff];simp
end
def kw(o:Option (List UInt8))(c:Rat):Option (List UInt8):=
 match o with
 |none=>if c< 0 then some [45] else none
 |some s=>if c< 0 then some (s++[32,45,32]) else some (s++[32,43,32])
def wrO(o:Option (List UInt8))(t:List UInt8):Option (List UInt8):=some (o.getD []++t)
def j0(o:Option (List UInt8))(t:List UInt8):Option (List UInt8):=if t=[49] then o else wrO o (t++[32])
def n6(tq:Rat->List UInt8)(ti:Nat->List UInt8)(o:Option (List UInt8))(c:Rat)(n:Nat):Option (List UInt8):=
 if n=0 then wrO (kw o c) (tq (c8 c))
 else if 1< n then wrO (wrO (j0 (kw o c) (tq (c8 c))) [120]) ([94]++ti n) else wrO (j0 (kw o c) (tq (c8 c))) [120]
def rH(tq:Rat->List UInt8)(ti:Nat->List UInt8)(p:Lq):Nat->Option (List UInt8)->Option (List UInt8)
 |0,o=>o
 |n+1,o=>rH tq ti p n (if coP p n=0 then o else n6 tq ti o (coP p n) n)
def CZ(tq:Rat->List UInt8)(ti:Nat->List UInt8)(p:Lq):List UInt8:=(rH tq ti (aA p) (aA p).length none).getD [48]
def CY(p:Lq):List UInt8:=CZ kq jm p
def Gz(p:Lq):Prop:=p.length<=1000/\(aA p).length<=99/\(∀c∈aA p,okT c)
instance (p:Lq):Decidable (Gz p):=inferInstanceAs (Decidable (_/\_/\_))
def pb0(p:Lq):Int->AState
 |n=>⟨[(0,.arr (pE p)),(3,.lptr 1 0 0),(4,i64 n)],[(1,some ⟨148,2,[dX 1 2 none]⟩)],4,67⟩
def pb1(p:Lq):Int×List UInt8->AState
 |(n,s)=>⟨[(0,.arr (pE p)),(3,.lptr 1 0 0),(4,i64 n)],[(1,some ⟨148,2,[dX 1 2 (some s)]⟩),(2,some ⟨5,1,bE s⟩)],4,67⟩
def pbS(p:Lq)(n:Int):Option (List UInt8)->AState
 |none=>pb0 p n
 |some s=>pb1 p (n,s)
def pc0(p:Lq)(c:Rat):Int->AState
 |n=>⟨[(0,.arr (pE p)),(3,.lptr 1 0 0),(4,i64 n),(5,.lptr 3 0 0)],[(1,some ⟨148,2,[dX 1 2 none]⟩),(3,some ⟨42,3,[qC c]⟩)],4,67⟩
def pc1(p:Lq)(c:Rat):Int×List UInt8->AState
 |(n,s)=>⟨[(0,.arr (pE p)),(3,.lptr 1 0 0),(4,i64 n),(5,.lptr 3 0 0)],[(1,some ⟨148,2,[dX 1 2 (some s)]⟩),(2,some ⟨5,1,bE s⟩),(3,some ⟨42,3,[qC c]⟩)],4,67⟩
def pcS(p:Lq)(c:Rat)(n:Int):Option (List UInt8)->AState
 |none=>pc0 p c n
 |some s=>pc1 p c (n,s)
def pd0(p:Lq)(t:List UInt8):Int->AState
 |n=>⟨[(0,.arr (pE p)),(3,.lptr 1 0 0),(4,i64 n),(6,tx t)],[(1,some ⟨148,2,[dX 1 2 none]⟩)],4,67⟩
def pd1(p:Lq)(t:List UInt8):Int×List UInt8->AState
 |(n,s)=>⟨[(0,.arr (pE p)),(3,.lptr 1 0 0),(4,i64 n),(6,tx t)],[(1,some ⟨148,2,[dX 1 2 (some s)]⟩),(2,some ⟨5,1,bE s⟩)],4,67⟩
def pdS(p:Lq)(t:List UInt8)(n:Int):Option (List UInt8)->AState
 |none=>pd0 p t n
 |some s=>pd1 p t (n,s)
def si(o:Option (List UInt8))(n:Nat):Prop:=∀s,o=some s->s≠[]/\s.length<=n
theorem tX(n:Nat):si none n:=λs h=>by cases h
theorem qH{t:List UInt8}(h:si o n)(h0:t≠[]):si (wrO o t) (n+t.length):=by
 intro s hs;cases hs;cases o with
 |none=>exact⟨by simpa using h0,ψ⟩
 |some q=>exact⟨by simp[h0],by have:=(h q rfl).2;simp;omega⟩
theorem zp(h:si o n)(c:Rat):si (kw o c) (n+3):=by
 intro s hs;cases o with
 |none=>
  simp only[kw] at hs;split at hs;cases hs;exact⟨ψ,ψ⟩;cases hs
 |some q=>
  have:=(h q rfl).2;simp only[kw] at hs;split at hs <;> cases hs <;> exact⟨ψ,χ⟩
theorem gH{m:Nat}(h:si o n)(hm:n<=m):si o m:=λs hs=>⟨(h s hs).1,Nat.le_trans (h s hs).2 hm⟩
theorem FC(q:Rat):kq q≠[]:=List.length_pos_iff.1 (textQ_len (q:=q)).2
theorem sgZ_neg(c:Rat):sgZ c.num< 0↔c< 0:=by
 rw[<-pz];unfold sgZ;split;omega;split <;> omega
theorem okT_abs{c:Rat}(h:okT c):okT (c8 c):=by
 rw[sY];split;obtain⟨h1,h2⟩:=h;exact⟨by rw[Rat.neg_num];simpa using h1,by rw[Rat.neg_den];exact h2⟩;exact h
theorem EY(tq:Rat->List UInt8)(ti:Nat->List UInt8)(L:Nat)(p:Lq)(h1:p.length<=1000)(hL:L<=10000)(h3:∀c∈aA p,FS 34 [.agg (qC (c8 c))] (tx (tq (c8 c)))/\tq (c8 c)≠[]/\(tq (c8 c)).length<=L)(hI:∀n,n< (aA p).length->FS 96 [i64 n] (tx (ti n))/\(ti n).length<=20):FS 33 [.arr (pE p)] (tx (CZ tq ti p)):=by
 have htr:=dT p ω;obtain⟨q,hq⟩:∃q,q=aA p:=⟨_,rfl⟩;have hR:CZ tq ti p=(rH tq ti q q.length none).getD [48]:=by unfold CZ;rw[hq]
 rw[hR];have h2:=cv p;rw[<-hq] at htr h2 h3 hI;have hall:∀k,(q.length- k) * (L+30)<=10030000:=λk=>Nat.mul_le_mul (show q.length- k<=1000 by omega) (show L+30<=10030 by omega);refine f_c Tryz.func33 ?_;refine r_z 1 ?_;refine r_z 1 ?_;refine r_c 3 (htr) ?_;refine a_z ?_;refine ac (r_z 4 ?_);refine aG (pbS q (-1)) (λo=>o=rH tq ti q q.length none/\si o 20000000) ?_ ?_;refine ak (aC (λx:Nat×Option (List UInt8)=>pbS q ((x.1:Int)- 1) x.2) (λx=>x.1) (λx=>x.1<=q.length/\rH tq ti q x.1 x.2=rH tq ti q q.length none/\si x.2 ((q.length- x.1) * (L+30))) (q.length,none) ⟨Nat.le_refl _,rfl,tX _⟩ ?_ ?_);show SEnt _ (pb0 q ((q.length:Int)- 1));rw[pb0.eq_1];exact s_e [(1,3)];rintro⟨n,o⟩ ⟨hn,hr,ho⟩;simp only at hn hr ho;cases n with
 |zero=>
  cases o with
  |none=>
   show AWp _ _ _ _ (pb0 q (((0:Nat):Int)- 1));rw[pb0.eq_1];refine ac (r_z 2 ?_);refine aw rfl (λh4=>?_) (λh4=>?_);exact absurd h4 ψ;refine aB ⟨none,⟨hr,tX _⟩,?_⟩;show SEnt _ (pb0 q (-1));rw[pb0.eq_1];exact s_e []
  |some s=>
   show AWp _ _ _ _ (pb1 q (((0:Nat):Int)- 1,s));rw[pb1.eq_1];refine ac (r_z 2 ?_);refine aw rfl (λh4=>?_) (λh4=>?_);exact absurd h4 ψ;refine aB ⟨some s,⟨hr,gH ho (by have:=hall 0;omega)⟩,?_⟩;show SEnt _ (pb1 q (-1,s));rw[pb1.eq_1];exact s_e []
 |succ n=>
  have hcn:((n+1:Nat):Int)- 1=(n:Int):=ω
  rw[hcn];rw[rH] at hr;have hlt:n< q.length:=ω
  obtain⟨c,hc⟩:∃c,c=coP q n:=⟨_,rfl⟩;rw[<-hc] at hr;have hg:(pE q)[((n:Nat):Int).toNat]?=some (qC c):=by rw[Int.toNat_natCast,hc];exact cj (bJ hlt)
  obtain⟨fT,htn,htl⟩:=h3 c (by rw[hc];exact List.mem_of_getElem? (bJ hlt))
  have hm:(q.length- n) * (L+30)=(q.length- (n+1)) * (L+30)+(L+30):=by
   rw[show q.length- n=(q.length- (n+1))+1 by omega,Nat.add_mul,Nat.one_mul]
  obtain⟨B,hB⟩:∃B,B=(q.length- (n+1)) * (L+30):=⟨_,rfl⟩;have hmx:B<=10030000:=by rw[hB];exact hall _
  rw[<-hB] at ho hm;obtain⟨t,ht⟩:∃t,t=tq (c8 c):=⟨_,rfl⟩;rw[<-ht] at htn htl fT;obtain⟨fI,hd2⟩:=hI n hlt;refine bi (λ_:Unit=>pbS q n o) (λ_=>True) ?_ ?_;cases o with
  |none=>
   show AWp _ _ _ _ (pb0 q n);rw[pb0.eq_1];refine r_z 2 ?_;refine aw rfl (λh4=>?_) (λh4=>?_);refine am ⟨(),trivial,?_⟩;show SEnt _ (pb0 q n);rw[pb0.eq_1];exact s_e [];exact absurd h4 ψ
  |some s=>
   show AWp _ _ _ _ (pb1 q (n,s));rw[pb1.eq_1];refine r_z 2 ?_;refine aw rfl (λh4=>?_) (λh4=>?_);refine am ⟨(),trivial,?_⟩;show SEnt _ (pb1 q (n,s));rw[pb1.eq_1];exact s_e [];exact absurd h4 ψ
  rintro _ _;refine bi (pbS q n) (λo'=>o'=(if c=0 then o else n6 tq ti o c n)) ?_ ?_;refine ak (bi (λ_:Unit=>pcS q c n o) (λ_=>True) ?_ ?_);cases o with
  |none=>
   show AWp _ _ _ _ (pb0 q n);rw[pb0.eq_1];refine r_m 6 ?_;refine a_2 ?_;refine i_x hg ?_;refine l_x hg ?_;refine a_z ?_;refine⟨(),trivial,?_⟩;show SEnt _ (pc0 q c n);rw[pc0.eq_1];exact s_x [(3,5)] (λhs=>cN) (λhs=>e_7)
  |some s=>
   show AWp _ _ _ _ (pb1 q (n,s));rw[pb1.eq_1];refine r_m 6 ?_;refine a_2 ?_;refine i_x hg ?_;refine l_x hg ?_;refine a_z ?_;refine⟨(),trivial,?_⟩;show SEnt _ (pc1 q c (n,s));rw[pc1.eq_1];exact s_x [(3,5)] (λhs=>cN) (λhs=>e_7)
  rintro _ _;refine bi (λ_:Unit=>pcS q c n o) (λ_=>c≠0) ?_ ?_;cases o with
  |none=>
   show AWp _ _ _ _ (pc0 q c n);rw[pc0.eq_1];refine r_c 3 (cb c) ?_;refine a_z ?_;refine aw rfl (λh4=>?_) (λh4=>?_);have h5:c=0:=sgZ_num_eq.1 (by simpa using h4);refine aB ⟨none,by rw[if_pos h5],?_⟩;show SEnt _ (pb0 q n);rw[pb0.eq_1];exact s_e [];have h5:c≠0:=λe=>by have h6:=sgZ_num_eq.2 e;simp[h6] at h4
   refine am ⟨(),h5,?_⟩;show SEnt _ (pc0 q c n);rw[pc0.eq_1];exact s_e []
  |some s=>
   show AWp _ _ _ _ (pc1 q c (n,s));rw[pc1.eq_1];refine r_c 3 (cb c) ?_;refine a_z ?_;refine aw rfl (λh4=>?_) (λh4=>?_);have h5:c=0:=sgZ_num_eq.1 (by simpa using h4);refine aB ⟨some s,by rw[if_pos h5],?_⟩;show SEnt _ (pb1 q (n,s));rw[pb1.eq_1];exact s_e [];have h5:c≠0:=λe=>by have h6:=sgZ_num_eq.2 e;simp[h6] at h4
   refine am ⟨(),h5,?_⟩;show SEnt _ (pc1 q c (n,s));rw[pc1.eq_1];exact s_e []
  rintro _ hc0;rw[if_neg hc0];have hsg:(sgZ c.num< 0)↔c< 0:=sgZ_neg c;refine bi (pcS q c n) (λo'=>o'=kw o c) ?_ ?_;refine ak ?_;cases o with
  |none=>
   show AWp _ _ _ _ (pc0 q c n);rw[pc0.eq_1];refine s_r 8 ?_;refine o_0 (.callR (s:=none) (j:=0) (tb:=0) rfl rfl rfl rfl rfl (λ_ h=>by cases h) (sT)) ?_;refine a_2 ?_
   first|refine y_g rfl d_t (.load_l rfl rfl rfl TG.h TS.h (nle rfl)) ?_|refine y_g rfl d_t (.load_a rfl rfl TG.h TS.h (nle rfl)) ?_
   refine y_g rfl d_t (.call rfl rfl rfl (cb c)) ?_;refine y_g rfl d_t (.bin rfl rfl aZ) ?_;refine o_0 (.pickT rfl d_t rfl) ?_;refine a_z ?_;refine aw rfl (λh4=>?_) (λh4=>?_);have h5:c< 0:=hsg.1 (by simpa using h4);refine r_m 1 ?_;refine o_2 (.callB (s:=none) (j:=0) rfl rfl rfl rfl rfl rfl (λ_ h=>by cases h) (jt [45] ψ ψ)) ?_;refine ao ?_;refine⟨some [45],by simp only[kw];rw[if_pos h5],?_⟩;show SEnt _ (pc1 q c (n,[45]));rw[pc1.eq_1];exact s_z [(2,100012)] (λhs=>cN) (λhs=>e_7);have h5:¬c< 0:=λe=>by have h6:=hsg.2 e;simp[h6] at h4
   refine s_r 8 ?_;refine o_0 (.callR (s:=none) (j:=0) (tb:=0) rfl rfl rfl rfl rfl (λ_ h=>by cases h) (sT)) ?_;refine a_2 ?_;refine n_g rfl d_f ?_;refine n_g rfl d_f ?_;refine n_g rfl d_f ?_;refine o_0 (.pickF rfl d_f rfl) ?_;refine a_z ?_;refine cF (s_r 3 ?_);refine o_0 (.callR (s:=none) (j:=0) (tb:=0) rfl rfl rfl rfl rfl (λ_ h=>by cases h) (sT)) ?_;refine a_z ?_;refine aw rfl (λh7=>?_) (λh7=>?_);exact absurd h7 ψ;refine am ⟨none,by simp only[kw];rw[if_neg h5],?_⟩;show SEnt _ (pc0 q c n);rw[pc0.eq_1];exact s_e []
  |some s=>
   have hsn:=(ho s rfl).1;have hsl:=(ho s rfl).2;have hs0:s.length≠0:=by simpa using hsn
   show AWp _ _ _ _ (pc1 q c (n,s));rw[pc1.eq_1];refine s_r 8 ?_;refine o_0 (.callR (s:=some _) rfl rfl rfl rfl rfl (λ_ h=>by cases h;exact rfl) (sS s)) ?_;refine a_2 ?_;refine n_g rfl χ ?_;refine n_g rfl χ ?_;refine n_g rfl χ ?_;refine o_0 (.pickF rfl χ rfl) ?_;refine a_z ?_;refine aw rfl (λh4=>?_) (λh4=>?_)
   ·first|(simp at h4;done)|(simp at h4;omega)|(simp at h4;exact absurd h4 hsn)
   refine s_r 8 ?_;refine o_0 (.callR (s:=some _) rfl rfl rfl rfl rfl (λ_ h=>by cases h;exact rfl) (sS s)) ?_;refine a_2 ?_
   first|refine y_g rfl χ (.load_l rfl rfl rfl TG.h TS.h (nle rfl)) ?_|refine y_g rfl χ (.load_a rfl rfl TG.h TS.h (nle rfl)) ?_
   refine y_g rfl χ (.call rfl rfl rfl (cb c)) ?_;refine y_g rfl χ (.bin rfl rfl aZ) ?_;refine o_0 (.pickT rfl χ rfl) ?_;refine a_z ?_;refine aw rfl (λh6=>?_) (λh6=>?_);have h5:c< 0:=hsg.1 (by simpa using h6);refine r_m 1 ?_;refine o_3 (.callB (s:=some _) rfl rfl rfl rfl rfl rfl (λ_ h=>by cases h;exact⟨rfl,δ⟩) (gx s [32,45,32] χ)) ?_;refine ao ?_;refine⟨some (s++[32,45,32]),by simp only[kw];rw[if_pos h5],?_⟩;show SEnt _ (pc1 q c (n,s++[32,45,32]));rw[pc1.eq_1];exact s_z [(2,100020)] (λhs=>cN) (λhs=>e_7);have h5:¬c< 0:=λe=>by have h7:=hsg.2 e;simp[h7] at h6
   refine s_r 3 ?_;refine o_0 (.callR (s:=some _) rfl rfl rfl rfl rfl (λ_ h=>by cases h;exact rfl) (sS s)) ?_;refine a_z ?_;refine aw rfl (λh7=>?_) (λh7=>?_);refine r_m 1 ?_;refine o_3 (.callB (s:=some _) rfl rfl rfl rfl rfl rfl (λ_ h=>by cases h;exact⟨rfl,δ⟩) (gx s [32,43,32] χ)) ?_;refine ao ?_;refine⟨some (s++[32,43,32]),by simp only[kw];rw[if_neg h5],?_⟩;show SEnt _ (pc1 q c (n,s++[32,43,32]));rw[pc1.eq_1];exact s_z [(2,100023)] (λhs=>cN) (λhs=>e_7)
   ·first|(simp at h7;done)|(simp at h7;omega)|(simp at h7;exact absurd h7 hsn)
  rintro o1 rfl;have ho1:=zp ho c;obtain⟨o1,ho1e⟩:∃o1,o1=kw o c:=⟨_,rfl⟩;rw[<-ho1e] at ho1⊢;refine bi (λ_:Unit=>pdS q t n o1) (λ_=>True) ?_ ?_;cases o1 with
  |none=>
   show AWp _ _ _ _ (pc0 q c n);rw[pc0.eq_1];refine r_m 4 ?_;refine c_s (eY c) ?_;refine c_s (fT) ?_;refine a_z ?_;refine⟨(),trivial,?_⟩;show SEnt _ (pd0 q t n);rw[pd0.eq_1];exact s_e []
  |some s=>
   show AWp _ _ _ _ (pc1 q c (n,s));rw[pc1.eq_1];refine r_m 4 ?_;refine c_s (eY c) ?_;refine c_s (fT) ?_;refine a_z ?_;refine⟨(),trivial,?_⟩;show SEnt _ (pd1 q t (n,s));rw[pd1.eq_1];exact s_e []
  rintro _ _;refine bi (λ_:Unit=>pdS q t n o1) (λ_=>n≠0) ?_ ?_;cases o1 with
  |none=>
   show AWp _ _ _ _ (pd0 q t n);rw[pd0.eq_1];refine r_z 2 ?_;refine aw rfl (λh4=>?_) (λh4=>?_);have h5:n=0:=by simpa using h4
   subst h5;refine s_r 2 ?_;refine a_1 ?_;refine o_2 (.callB (s:=none) (j:=0) rfl rfl rfl rfl rfl rfl (λ_ h=>by cases h) (jt t htn ω)) ?_;refine ao ?_;refine aB ⟨some t,by unfold n6;rw[if_pos rfl,<-ho1e,<-ht];rfl,?_⟩;show SEnt _ (pb1 q (((0:Nat):Int),t));rw[pb1.eq_1];exact s_z [(2,100007)] (λhs=>cN) (λhs=>jN);have h5:n≠0:=λe=>by simp[e] at h4
   refine am ⟨(),h5,?_⟩;show SEnt _ (pd0 q t n);rw[pd0.eq_1];exact s_e []
  |some s=>
   have hsl:=(ho1 s rfl).2;show AWp _ _ _ _ (pd1 q t (n,s));rw[pd1.eq_1];refine r_z 2 ?_;refine aw rfl (λh4=>?_) (λh4=>?_);have h5:n=0:=by simpa using h4
   subst h5;refine s_r 2 ?_;refine a_1 ?_;refine o_3 (.callB (s:=some _) rfl rfl rfl rfl rfl rfl (λ_ h=>by cases h;exact⟨rfl,δ⟩) (gx s t ω)) ?_;refine ao ?_;refine aB ⟨some (s++t),by unfold n6;rw[if_pos rfl,<-ho1e,<-ht];rfl,?_⟩;show SEnt _ (pb1 q (((0:Nat):Int),s++t));rw[pb1.eq_1];exact s_z [(2,100007)] (λhs=>cN) (λhs=>jN);have h5:n≠0:=λe=>by simp[e] at h4
   refine am ⟨(),h5,?_⟩;show SEnt _ (pd1 q t (n,s));rw[pd1.eq_1];exact s_e []
  rintro _ hn0;refine bi (pbS q n) (λo'=>o'=j0 o1 t) ?_ ?_;cases o1 with
  |none=>
   show AWp _ _ _ _ (pd0 q t n);rw[pd0.eq_1];refine s_r 2 ?_;refine a_1 ?_;refine o_0 (.bin rfl rfl (AI (m:=[49]))) ?_;refine ao ?_;refine aw rfl (λh4=>?_) (λh4=>?_);have h5:¬t=[49]:=by simpa using h4
   refine r_m 3 ?_;refine a_1 ?_;refine o_0 (.bin rfl rfl (eQ (m:=[32]) χ)) ?_;refine o_2 (.callB (s:=none) (j:=0) rfl rfl rfl rfl rfl rfl (λ_ h=>by cases h) (jt (t++[32]) ψ χ)) ?_;refine ao ?_;refine⟨some (t++[32]),by unfold j0;rw[if_neg h5];rfl,?_⟩;show SEnt _ (pb1 q (n,t++[32]));rw[pb1.eq_1];exact s_z [(2,100008)] (λhs=>cN) (λhs=>jN);have h5:t=[49]:=by simpa using h4
   refine am ⟨none,by unfold j0;rw[if_pos h5],?_⟩;show SEnt _ (pb0 q n);rw[pb0.eq_1];exact s_e []
  |some s=>
   have hsl:=(ho1 s rfl).2;show AWp _ _ _ _ (pd1 q t (n,s));rw[pd1.eq_1];refine s_r 2 ?_;refine a_1 ?_;refine o_0 (.bin rfl rfl (AI (m:=[49]))) ?_;refine ao ?_;refine aw rfl (λh4=>?_) (λh4=>?_);have h5:¬t=[49]:=by simpa using h4
   refine r_m 3 ?_;refine a_1 ?_;refine o_0 (.bin rfl rfl (eQ (m:=[32]) χ)) ?_;refine o_3 (.callB (s:=some _) rfl rfl rfl rfl rfl rfl (λ_ h=>by cases h;exact⟨rfl,δ⟩) (gx s (t++[32]) χ)) ?_;refine ao ?_;refine⟨some (s++(t++[32])),by unfold j0;rw[if_neg h5];rfl,?_⟩;show SEnt _ (pb1 q (n,s++(t++[32])));rw[pb1.eq_1];exact s_z [(2,100008)] (λhs=>cN) (λhs=>jN);have h5:t=[49]:=by simpa using h4
   refine am ⟨some s,by unfold j0;rw[if_pos h5],?_⟩;show SEnt _ (pb1 q (n,s));rw[pb1.eq_1];exact s_e []
  rintro o2 ho2e
  have ho2:si o2 (B+L+4):=by
   rw[ho2e];unfold j0;split;exact gH ho1 ω;exact gH (qH ho1 (t:=t++[32]) ψ) χ
  refine bi (λs=>pb1 q (n,s)) (λs=>wrO o2 [120]=some s) ?_ ?_;cases o2 with
  |none=>
   show AWp _ _ _ _ (pb0 q n);rw[pb0.eq_1];refine r_m 1 ?_;refine o_2 (.callB (s:=none) (j:=0) rfl rfl rfl rfl rfl rfl (λ_ h=>by cases h) (jt [120] ψ ψ)) ?_;refine ao ?_;refine⟨[120],rfl,?_⟩;simp only[pb1.eq_1];exact s_z [(2,100004)] (λhs=>cN) (λhs=>jN)
  |some s=>
   have hsl:=(ho2 s rfl).2;show AWp _ _ _ _ (pb1 q (n,s));rw[pb1.eq_1];refine r_m 1 ?_;refine o_3 (.callB (s:=some _) rfl rfl rfl rfl rfl rfl (λ_ h=>by cases h;exact⟨rfl,δ⟩) (gx s [120] χ)) ?_;refine ao ?_;refine⟨s++[120],rfl,?_⟩;simp only[pb1.eq_1];exact s_z [(2,100004)] (λhs=>cN) (λhs=>jN)
  rintro s hs3;have ho3:=qH ho2 (t:=[120]) ψ s hs3;have hsl:s.length<=B+L+5:=ho3.2;simp only[pb1.eq_1];refine r_z 2 ?_;refine aw rfl (λh4=>?_) (λh4=>?_);have h5:1< n:=by simp at h4;omega
  refine r_m 4 ?_;refine c_s (fI) ?_;refine o_0 (.bin rfl rfl (eQ (l:=[94]) χ)) ?_;refine o_3 (.callB (s:=some _) rfl rfl rfl rfl rfl rfl (λ_ h=>by cases h;exact⟨rfl,δ⟩) (gx s ([94]++ti n) χ)) ?_;refine ao ?_;refine⟨some (s++([94]++ti n)),by unfold n6;rw[if_neg hn0,if_pos h5,<-ho1e,<-ht,<-ho2e,hs3];rfl,?_⟩;show SEnt _ (pb1 q (n,s++([94]++ti n)));rw[pb1.eq_1];exact s_z [(2,100009)] (λhs=>cN) (λhs=>jN);have h5:¬1< n:=by simp at h4;omega
  refine am ⟨some s,by unfold n6;rw[if_neg hn0,if_neg h5,<-ho1e,<-ht,<-ho2e,hs3],?_⟩;show SEnt _ (pb1 q (n,s));rw[pb1.eq_1];exact s_e [];rintro o' ho'
  have hok':si o' (B+(L+30)):=by
   rw[ho'];split;exact gH ho ω;have g1:=zp ho c;unfold n6;rw[<-ht]
   have g2:si (j0 (kw o c) t) (B+L+4):=by
    unfold j0;split;exact gH g1 ω;exact gH (qH g1 (t:=t++[32]) ψ) χ
   have g3:=qH g2 (t:=[120]) ψ;split;exact gH (qH g1 htn) ω;split;exact gH (qH g3 (t:=[94]++ti n) ψ) χ;exact gH g3 χ
  rw[<-ho'] at hr;cases o' with
  |none=>
   show AWp _ _ _ _ (pb0 q n);rw[pb0.eq_1];refine r_m 3 ?_;refine a_z ?_;refine⟨(n,none),Nat.lt_succ_self n,⟨by simp only;omega,hr,tX _⟩,?_⟩;show SEnt _ (pb0 q ((n:Int)- 1));rw[pb0.eq_1];exact s_e []
  |some s=>
   show AWp _ _ _ _ (pb1 q (n,s));rw[pb1.eq_1];refine r_m 3 ?_;refine a_z ?_;refine⟨(n,some s),Nat.lt_succ_self n,⟨by simp only;omega,hr,by simp only;rw[hm];exact hok'⟩,?_⟩;show SEnt _ (pb1 q ((n:Int)- 1,s));rw[pb1.eq_1];exact s_e []
 rintro o ⟨rfl,ho⟩;cases ho2:rH tq ti q q.length none with
 |none=>
  show AWp _ _ _ _ (pb0 q (-1));rw[pb0.eq_1];refine ac (s_r 2 ?_);refine o_0 (.callR (s:=none) (j:=0) (tb:=0) rfl rfl rfl rfl rfl (λ_ h=>by cases h) (sT)) ?_;refine a_z ?_;refine aw rfl (λh4=>?_) (λh4=>?_);refine r_z 1 ?_;exact an (t_e (ag _));exact absurd h4 ψ
 |some s=>
  have hs:=ho s ho2;have hsl:s.length≠0:=by have:=hs.1;simpa using this
  have hne:=hs.1;show AWp _ _ _ _ (pb1 q (-1,s));rw[pb1.eq_1];refine ac (s_r 2 ?_);refine o_0 (.callR (s:=some _) rfl rfl rfl rfl rfl (λ_ h=>by cases h;exact rfl) (sS s)) ?_;refine a_z ?_;refine aw rfl (λh4=>?_) (λh4=>?_);exact absurd h4 χ;refine am (s_r 2 ?_);refine o_2 (.callD rfl rfl rfl rfl rfl rfl δ (by first|assumption|simp) (rf)) ?_;refine a_z ?_;exact an (t_e (ag _))
theorem uz(p:Lq)(h:Gz p):FS 33 [.arr (pE p)] (tx (CY p)):=by
 obtain⟨h1,h2,h3⟩:=h;exact EY kq jm 6 p h1 δ (λc hc=>⟨pX (c8 c) (okT_abs (h3 c hc)),FC _,textQ_len.1⟩) (λn hn=>⟨xQ n ω,Nat.le_trans (kO n) δ⟩)
end
abbrev bP(p:Lq):AV:= .aptr [[.arr (pE p)]] 0 0
abbrev bQ(q:Rat):AV:= .aptr [qC q] 0 0
theorem cD(p:Lq):Closed (bP p):=aW (ae (aq p) ai)
theorem aT(q:Rat):Closed (bQ q):=aW (bo q)
theorem fs_Add1(p q:Lq)(i:Nat)(hp:smL p)(hq:smL q):FS 171 [i64 i,bP p,bP q] (.agg (qC (coP p i+coP q i))):=by
 refine f_c Tryz.func171 ?_;refine r_z 1 ?_;refine ac (r_d hmix 8 ?_);refine c_s (fs_at p i) ?_;refine c_s (fs_at q i) ?_;refine c_s (fz (coP p i) (coP q i) (sm2 (iX hp i) (iX hq i))) ?_;refine a_1 ?_;refine ao (n_k ?_);exact an (c_e (aS _))
theorem uB(p q:Lq)(hp:smL p)(hq:smL q)(hp1:p.length<=1099511627776)(hq1:q.length<=1099511627776):FS 114 [.arr (pE p),.arr (pE q)] (.arr (pE (lR p q))):=by
 refine f_c Tryz.func114 ?_;refine r_z 3 ?_;refine AWp.ent (st':=⟨[(2,bP p),(3,bP q)],[],1,12⟩) ?_ ?_;exact s_e []
 have hm:(if ((q.length:Nat):Int)>(p.length:Nat) then((q.length:Nat):Int) else(p.length:Nat))=((max p.length q.length:Nat):Int):=by
  rw[Nat.max_def];split <;> split <;> omega
 have he:=xK (max p.length q.length) (λi=>coP p i+coP q i) 171 [bP p,bP q] (Nat.max_le.2 ⟨hp1,hq1⟩) (ae (cD p) (ae (cD q) ai)) (λi _=>fs_Add1 p q i hp hq);rw[<-hm] at he;refine r_c 8 (he) ?_;refine a_z ?_;exact an (t_e (aq _))
theorem ES(p:Lq)(k:Rat)(i:Nat)(hp:smL p)(hk:sm k)(hi:i< p.length):FS 170 [i64 i,bP p,bQ k] (.agg (qC (coP p i* k))):=by
 have hg:(pE p)[((i:Nat):Int).toNat]?=some (qC (coP p i)):=cj (bJ hi);refine f_c Tryz.func170 ?_;refine r_z 1 ?_;refine ac (r_d hmix 7 ?_);refine a_2 ?_;refine i_x hg ?_;refine l_x hg ?_;refine c_s (dq (coP p i) k (sm2 (iX hp i) hk)) ?_;refine a_1 ?_;refine ao (n_k ?_);exact an (c_e (aS _))
theorem iH(p:Lq)(k:Rat)(hp:smL p)(hk:sm k)(hp1:p.length<=1099511627776):FS 111 [.arr (pE p),.agg (qC k)] (.arr (pE (cI p k))):=by
 have he:=xK p.length (λi=>coP p i* k) 170 [bP p,bQ k] hp1 (ae (cD p) (ae (aT k) ai)) (λi hi=>ES p k i hp hk hi);refine f_c Tryz.func111 ?_;refine r_z 3 ?_;refine AWp.ent (st':=⟨[(2,bP p),(3,bQ k)],[],1,9⟩) ?_ ?_;exact s_e [];refine r_c 5 (he) ?_;refine a_z ?_;exact an (t_e (aq _))
theorem fP(a b:Rat)(hb:b≠0)(h:qs a+qs b<=549755813888):FS 109 [.agg (qC a),.agg (qC b)] (.agg (qC (a/ b))):=by
 refine f_c Tryz.func109 ?_;refine r_z 3 ?_;refine r_c 9 (B9 a b hb h) ?_;refine a_z ?_;refine r_z 2 ?_;exact an (c_e (aS _))
theorem jV(a:Rat):FS 166 [.agg (qC a)] (.arr (pE (fY a))):=by
 refine f_c Tryz.func166 ?_;refine r_z 2 ?_;refine s_r 4 ?_;refine a_2 ?_;refine o_1 (.callS1 rfl rfl rfl (.shut rfl d_n (.nil)) rfl ((dT [a] ψ))) ?_;refine a_z ?_;exact an (t_e (aq _))
theorem DQ(a:Rat):FS 187 [.agg (qC a)] (.arr (pE [a,1])):=by
 refine f_c Tryz.func187 ?_;refine r_z 2 ?_;refine ac (r_d hmix 4 ?_);refine c_s (df 1 δ) ?_;refine a_2 ?_;refine ao (n_k ?_);exact an (Fin.tmpS rfl rfl rfl rfl (aJ [a,1]))
theorem fs_x:FS 219 [] (.arr (pE [0,1])):=by
 refine f_c Tryz.func219 ?_;refine r_z 1 ?_;refine r_c 3 ((by have:=DQ 0;rw[qC0] at this;exact this)) ?_;refine a_z ?_;exact an (t_e (aq _))
theorem sm_neg1{a:Rat}(h:sm a):sm (a* (-1)):=by
 unfold sm at *
 rw[show a* (-1)= -a by rw[Rat.mul_comm,Rat.neg_mul,Rat.one_mul],ij];exact h
theorem qs_inv(b:Rat)(hb:b≠0):qs (1/ b)<=qs b:=by
 rw[rk 1 b hb];have hn:b.num≠0:=λe=>hb (Rat.num_eq_zero.1 e);have h1:=dB b;have h2:=dp b
 refine gG (by have:0< b.num.natAbs:=ω
               show 0< 1* b.num.natAbs;omega) ?_ ?_
 show bl ((1:Int) * sgn (decide (b.num< 0)) b.den).natAbs<=qs b;rw[Int.one_mul,fq];exact h2;show bl (1* b.num.natAbs)<=qs b;rw[Nat.one_mul];exact h1
theorem Be{q:Lq}(h:smL q):smL (cI q (-1)):=by
 refine tu λx hx=>?_;obtain⟨i,_,rfl⟩:=List.mem_map.1 hx;exact sm_neg1 (iX h i)
theorem oi(p q:Lq)(hp:smL p)(hq:smL q)(hp1:p.length<=1099511627776)(hq1:q.length<=1099511627776):FS 100 [.arr (pE p),.arr (pE q)] (.arr (pE (gz p q))):=by
 have hl:=eB q (-1);refine f_c Tryz.func100 ?_;refine r_z 1 ?_;refine r_c 6 (df (-1) δ) ?_;refine c_s (iH q (-1) hq δ hq1) ?_;refine c_s (uB p (cI q (-1)) hp (Be hq) hp1 ω) ?_;refine a_z ?_;exact an (t_e (aq _))
theorem uo(p:Lq)(hp:smL p)(hp1:p.length<=1099511627776):FS 79 [.arr (pE p)] (.arr (pE (j7 p))):=by
 have hlead:=ug hp;refine f_c Tryz.func79 ?_;refine r_z 1 ?_;refine ac (r_c 3 (cK p hp1) ?_);refine a_z ?_;refine aw rfl (λh=>?_) (λh=>?_)
 have h0:aA p=[]:=by
  have h1:db p< 0:=by simpa using h
  unfold db at h1;exact List.length_eq_zero_iff.1 ω
 refine r_z 1 ?_;refine an ?_;unfold j7;rw[if_pos h0];exact Fin.tmpN rfl
 have h0:aA p≠[]:=by
  intro e;have h1:¬db p< 0:=by simpa using h
  unfold db at h1;rw[e] at h1;exact h1 δ
 have hne:=pD h0;have hinv:=qs_inv (bu p) hne;unfold sm at hlead;have h1:qs 1=1:=δ
 unfold j7;rw[if_neg h0];refine am (r_c 7 (df 1 δ) ?_);refine c_s (lI p hp1) ?_;refine c_s (fP 1 (bu p) hne ω) ?_;refine c_s (iH p (1/ bu p) hp (by unfold sm;omega) hp1) ?_;refine a_z ?_;exact an (t_e (aq _))
theorem Gj(i:Nat)(h:i<=1099511627776):qs (((i:Nat):Int):Rat)<=64:=by
 refine Nat.max_le.2 ⟨?_,?_⟩;show bl ((i:Int)).natAbs<=64;rw[Int.natAbs_natCast];exact jc ω;show bl 1<=64;decide
theorem Cf(p:Lq)(i:Nat)(hp:smL p)(hi:i+1< p.length)(hp1:p.length<=1099511627776):FS 250 [i64 i,bP p] (.agg (qC (coP p (i+1) * ((i+1:Nat):Int)))):=by
 have hg:(pE p)[(((i:Nat):Int)+1).toNat]?=some (qC (coP p (i+1))):=by
  rw[show(((i:Nat):Int)+1).toNat=i+1 by omega];exact cj (bJ hi)
 have hs:=iX hp (i+1);have hq:=Gj (i+1) ω;unfold sm at hs;have hI:=df (((i:Nat):Int)+1) ω;rw[show((i:Nat):Int)+1=((i+1:Nat):Int) by omega] at hI;refine f_c Tryz.func250 ?_;refine r_z 1 ?_;refine ac (r_d hmix 10 ?_);refine a_3 ?_;refine i_x hg ?_;refine l_x hg ?_;refine c_s (hI) ?_;refine c_s (dq (coP p (i+1)) ((i+1:Nat):Int) ω) ?_;refine a_1 ?_;refine ao (n_k ?_);exact an (c_e (aS _))
theorem qZ(p:Lq)(hp:smL p)(hp1:p.length<=1099511627776):FS 216 [.arr (pE p)] (.arr (pE (fc p))):=by
 have he:=xK (p.length- 1) (λi=>coP p (i+1) * ((i+1:Nat):Int)) 250 [bP p] ω (ae (cD p) ai) (λi hi=>Cf p i hp ω hp1);have hm:(if (0:Int)>((p.length:Nat):Int)- 1 then(0:Int) else((p.length:Nat):Int)- 1)=((p.length- 1:Nat):Int):=by split <;> omega
 rw[<-hm] at he;refine f_c Tryz.func216 ?_;refine r_z 2 ?_;refine AWp.ent (st':=⟨[(1,bP p)],[],1,9⟩) ?_ ?_;exact s_e [];refine r_c 7 (he) ?_;refine a_z ?_;exact an (t_e (aq _))

def mulS(p:Lq)(q:Lq):Nat×Lq->AState
 |(i,o)=>⟨[(1,.arr (pE q)),(5,.lsl 1 0 o.length (some o.length) 3),(25,.arr (pE p)),(26,i64 p.length),(27,i64 i)],[(1,some ⟨42,3,pE o⟩)],2,61⟩
def mulT(p:Lq)(q:Lq)(i:Nat)(a:Rat):Nat×Lq->AState
 |(k,o)=>⟨[(1,.arr (pE q)),(5,.lsl 1 0 o.length (some o.length) 3),(6,i64 i),(7,.lptr 2 0 0),(25,.arr (pE p)),(26,i64 p.length),(27,i64 i),(35,.arr (pE q)),(36,i64 q.length),(37,i64 k)],[(1,some ⟨42,3,pE o⟩),(2,some ⟨42,3,[qC a]⟩)],3,61⟩
theorem xP(p q:Lq)(s t:Nat)(hp:bdL p s)(hq:bdL q t)(hs:1<=s)(ht:1<=t)(h:p.length* (s+t+1)+1<=137438953472)(ht2:t<=137438953472)(hp1:p.length<=274877906944)(hq1:q.length<=274877906944):FS 72 [.arr (pE p),.arr (pE q)] (.arr (pE (ep p q))):=by
 refine f_c Tryz.func72 ?_;refine r_z 1 ?_;refine bi (λ_:Unit=>⟨[(0,.arr (pE p)),(1,.arr (pE q))],[],1,61⟩) (λ_=>p≠[]/\q≠[]) ?_ ?_;by_cases h1:p=[];subst h1;refine s_r 8 ?_;refine a_4 ?_;refine n_g rfl ψ ?_;refine n_g rfl ψ ?_;refine n_g rfl ψ ?_;refine o_0 (.pickT rfl ψ rfl) ?_;refine ao ?_;refine aw rfl (λh=>?_) (λh=>?_);refine r_z 1 ?_;refine an ?_;unfold ep;rw[if_pos (.inl rfl)];exact Fin.tmpN rfl;cases h;have hp0:p.length≠0:=λe=>h1 (List.length_eq_zero_iff.1 e);refine s_r 8 ?_;refine a_4 ?_;refine y_g rfl ζ (.move rfl) ?_
 first|refine y_g rfl ζ (.lenD rfl rfl rfl rfl te_30.h) ?_|refine y_g rfl ζ (.lenI rfl rfl rfl rfl te_30.h) ?_|refine y_g rfl ζ (.lenP rfl rfl rfl rfl te_30.h) ?_|refine y_g rfl ζ (.lenC rfl rfl rfl rfl te_30.h) ?_|refine y_g rfl ζ (.lenR rfl rfl rfl rfl te_30.h) ?_|refine y_g rfl ζ (.len rfl rfl rfl rfl rfl te_30.h) ?_
 refine y_g rfl ζ (.bin rfl rfl aM) ?_;refine o_0 (.pickF rfl ζ rfl) ?_;refine ao ?_;refine aw rfl (λh2=>?_) (λh2=>?_)
 have hq0:q=[]:=by
  have:q.length=0:=by simpa using h2
  exact List.length_eq_zero_iff.1 this
 refine r_z 1 ?_;refine an ?_;unfold ep;rw[if_pos (.inr hq0)];exact Fin.tmpN rfl
 have hq0:q≠[]:=by
  have:¬q.length=0:=by simpa using h2
  exact λe=>this (by rw[e];rfl)
 refine am ⟨(),⟨h1,hq0⟩,?_⟩;exact s_e [];rintro _ ⟨hp0,hq0⟩;have hpl:=List.length_pos_iff.2 hp0;have hql:=List.length_pos_iff.2 hq0;have hN:(p.length:Int)+q.length- 1=((p.length+q.length- 1:Nat):Int):=ω
 refine s_r 8 ?_;refine a_6 ?_;refine o_1 (.makeSlice (l:=p.length+q.length- 1) (c:=p.length+q.length- 1) (by rw[<-hN];rfl) (by rw[<-hN];rfl) te_30.h TZ.h rfl TB.h ν ν ι) ?_;refine a_z ?_;refine ac (r_z 3 ?_);have hbd:=λi=>sM (gY hp hs) (gY hq ht) i
 have hbi:∀i,i<=p.length->i* (s+t+1)+1<=137438953472:=λi hi=>by
  have:=Nat.mul_le_mul_right (s+t+1) hi;omega
 have hs2:s<=137438953472:=by
  have:=hbi 1 hpl;omega
 refine aG (λ_:Unit=>mulS p q (p.length,eW p q p.length)) (λ_=>True) ?_ ?_;refine ak (aC (λi:Nat=>mulS p q (i,eW p q i)) (λi=>p.length- i) (λi=>i<=p.length) 0 (Nat.zero_le _) ?_ ?_);simp only[mulS.eq_1,eW];exact s_x [(1,5)] (λhs=>cN) (λhs=>e_27);rintro i hi;simp only[mulS.eq_1];refine r_z 1 ?_;refine ac (aw rfl (λh=>?_) (λh=>?_));refine am ?_;have hlt:i< p.length:=by simpa using h
 have hgp:(pE p)[((i:Nat):Int).toNat]?=some (qC (coP p i)):=cj (bJ hlt);refine ac (ak (s_r 6 ?_));refine a_1 ?_;refine i_x hgp ?_;refine l_x hgp ?_;refine a_z ?_;refine ac (r_c 3 (cb (coP p i)) ?_);refine a_z ?_;refine aw rfl (λh1=>?_) (λh1=>?_)
 have h0:coP p i=0:=by
  have h1:sgZ (coP p i).num=0:=by simpa using h1
  exact sgZ_num_eq.1 h1
 have hst:eW p q (i+1)=eW p q i:=by rw[eW,if_pos h0]
 refine aB (r_m 2 ?_);refine a_z ?_;refine⟨i+1,ω,hlt,?_⟩;simp only[mulS.eq_1,hst];exact s_e []
 have h0:coP p i≠0:=by
  intro e;have h1:¬sgZ (coP p i).num=0:=by simpa using h1
  exact h1 (sgZ_num_eq.2 e)
 have hst:eW p q (i+1)=jC (eW p q i) (coP p i) q i q.length:=by rw[eW,if_neg h0]
 refine am (r_z 3 ?_);refine AWp.cutB (λ_:Unit=>mulS p q (i,eW p q (i+1))) (λ_=>True) ?_ ?_;refine ak (aC (λk:Nat=>mulT p q i (coP p i) (k,jC (eW p q i) (coP p i) q i k)) (λk=>q.length- k) (λk=>k<=q.length) 0 (Nat.zero_le _) ?_ ?_);simp only[mulT.eq_1,jC];exact s_e [(2,7)];rintro k hk;simp only[mulT.eq_1];refine r_z 1 ?_;refine ac (aw rfl (λh2=>?_) (λh2=>?_));refine am ?_;have hlt2:k< q.length:=by simpa using h2
 have hgq:(pE q)[((k:Nat):Int).toNat]?=some (qC (coP q k)):=cj (bJ hlt2);refine ac (ak (s_r 6 ?_));refine a_1 ?_;refine i_x hgq ?_;refine l_x hgq ?_;refine a_z ?_;have hb1:=hbd i;have hb2:=hbi (i+1) hlt;have hb3:=hbi i hi
 have hcur:qs (coP (jC (eW p q i) (coP p i) q i k) (i+k))<=137438953472:=by
  rw[tM _ _ _ _ _ _ ω];exact Nat.le_trans (hb1 (i+k)) hb3
 have hab:=eV (coP p i) (coP q k);have hqa:=gY hp hs i;have hqb:=gY hq ht k;have hik:i+k< (jC (eW p q i) (coP p i) q i k).length:=χ
 have hgo:(pE (jC (eW p q i) (coP p i) q i k))[(0+(((i:Nat):Int)+(k:Nat)).toNat)]?=some (qC (coP (jC (eW p q i) (coP p i) q i k) (i+k))):=by
  rw[show 0+(((i:Nat):Int)+(k:Nat)).toNat=i+k by omega];exact cj (bJ hik)
 refine r_d hmix 16 ?_;refine a_8 ?_;refine a_1 ?_
 first|refine av (.load_l rfl rfl hgo TG.h TS.h (nle rfl)) rfl rfl ?_|refine av (.load_a rfl hgo TG.h TS.h (nle rfl)) rfl rfl ?_
 refine c_s (dq (coP p i) (coP q k) ω) ?_;refine c_s (fz (coP (jC (eW p q i) (coP p i) q i k) (i+k)) (coP p i* coP q k) ω) ?_;refine a_1 ?_;refine ee (.store rfl rfl hgo rfl rfl rfl TS.h (nle rfl)) ?_;refine ao (n_k ?_);refine r_m 2 ?_;refine a_z ?_;refine⟨k+1,ω,hlt2,?_⟩
 have hst2:(pE (jC (eW p q i) (coP p i) q i k)).set (0+(((i:Nat):Int)+(k:Nat)).toNat) (qC (coP (jC (eW p q i) (coP p i) q i k) (i+k)+coP p i* coP q k))=pE (jC (eW p q i) (coP p i) q i (k+1)):=by
  rw[show 0+(((i:Nat):Int)+(k:Nat)).toNat=i+k by omega,j5];rfl
 have hl2:(jC (eW p q i) (coP p i) q i (k+1)).length=(jC (eW p q i) (coP p i) q i k).length:=ψ
 simp only[mulT.eq_1,hl2];exact s_x [] (λhs=>cN) (λhs=>e_28) e_2
 have hge:k=q.length:=by
  have:¬k< q.length:=by simpa using h2
  omega
 subst hge;refine aB ⟨(),trivial,?_⟩;simp only[mulS.eq_1,hst];exact s_e [];rintro _ _;simp only[mulS.eq_1];refine r_m 2 ?_;refine a_z ?_;refine⟨i+1,ω,hlt,?_⟩;exact s_e []
 have hge:i=p.length:=by
  have:¬i< p.length:=by simpa using h
  omega
 subst hge;refine aB ⟨(),trivial,?_⟩;simp only[mulS.eq_1];exact s_e [];rintro _ _;simp only[mulS.eq_1]
 have hfull:List.take (eW p q p.length).length (List.drop 0 (pE (eW p q p.length)))=pE (eW p q p.length):=by
  rw[List.drop_zero,List.take_of_length_le ψ]
 have hfin:ep p q=aA (eW p q p.length):=by
  unfold ep;rw[if_neg (by rintro(h|h);exact hp0 h;exact hq0 h)]
 rw[hfin];refine s_r 3 ?_;refine a_1 ?_;refine o_1 (.callS1 rfl rfl rfl (.shut rfl d_n (.nil)) rfl ((by rw[hfull];exact dT (eW p q p.length) χ))) ?_;refine a_z ?_;exact an (t_e (aq _))
end Go.Proofs.YtjgokhkahkmpbaaGreatDoor
