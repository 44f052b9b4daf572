/- Part V20 of the proof. -/
import Derived.Test.YtjkddcfoolilbaaGreatDoorV19
set_option linter.all false
namespace Go.Proofs.YtjkddcfoolilbaaGreatDoor
open Go.Abs
set_option maxRecDepth 20000
set_option maxHeartbeats 1000000
theorem oH_(a:Rat)(k:Int)(h:sm a):FS 187 [.agg (qC a),i64 k] (.agg (spC (downQ a (wi k 256)) (upQ a (wi k 256)))):=by
 refine f_c Tryz.func187 ?_;refine r_z 2 ?_;refine ab_ (r_d hmix 8 ?_);refine c_s (sf_ a k h) ?_;refine c_s (fs_Up a k h) ?_;refine a_2 ?_;refine al_ (n_k ?_);exact af_ (c_e (aY_ _ _))
theorem fs_At(a:Rat):FS 234 [.agg (qC a)] (.agg (spC a a)):=by
 refine f_c Tryz.func234 ?_;refine r_z 2 ?_;refine r_z 4 ?_;exact af_ (c_e (aY_ _ _))
theorem gC_(a b:Rat)(ha:sm a)(hb:sm b):FS 151 [.agg (spC a b)] (bln (decide (cmpQ a b≤0))):=by
 refine f_c Tryz.func151 ?_;refine r_z 2 ?_;refine r_c 7 (l4_ a b ha hb) ?_;refine a_z ?_;exact af_ (t_e (ad_ _))
theorem fs_SAdd(a b c d:Rat)(ha:sm a)(hb:sm b)(hc:sm c)(hd:sm d):FS 272 [.agg (spC a b),.agg (spC c d)] (.agg (spC (a+c) (b+d))):=by
 refine f_c Tryz.func272 ?_;refine r_z 3 ?_;refine ab_ (r_d hmix 12 ?_);refine c_s (dy_ a c (sm2 ha hc)) ?_;refine c_s (dy_ b d (sm2 hb hd)) ?_;refine a_2 ?_;refine al_ (n_k ?_);exact af_ (c_e (aY_ _ _))
theorem pU_(a b:Rat)(ha:sm a)(hb:sm b):FS 267 [.agg (spC a b)] (.agg (qC ((a+b) * fineQ 1))):=by
 have h1:qs (a+b)≤274877906945:=by have:=fN_ a b;unfold sm at ha hb;omega
 have h2:qs (fineQ 1)≤2:=by decide
 refine f_c Tryz.func267 ?_;refine r_z 2 ?_;refine r_c 8 (dy_ a b (sm2 ha hb)) ?_;refine c_s (i4_ 1) ?_;refine c_s (bK_ (a+b) (fineQ 1) (by omega)) ?_;refine a_z ?_;exact af_ (c_e (aC_ _))
theorem l7_(a b:Rat)(ha:sm a)(hb:sm b):FS 99 [.agg (spC a b)] (.agg (qC (b- a))):=by
 refine f_c Tryz.func99 ?_;refine r_z 2 ?_;refine r_c 6 (gz_ b a (sm2 hb ha)) ?_;refine a_z ?_;exact af_ (c_e (aC_ _))
theorem fs_Min1(c:Int):FS 259 [i64 c] (bln (decide (c< 0))):=by
 refine f_c Tryz.func259 ?_;refine r_z 1 ?_;refine r_z 3 ?_;exact af_ (t_e (ad_ _))
theorem fs_Max1(c:Int):FS 236 [i64 c] (bln (decide (0< c))):=by
 refine f_c Tryz.func236 ?_;refine r_z 1 ?_;refine r_z 3 ?_;exact af_ (t_e (ad_ _))
def nB_(g:Nat)(l:List Rat):Nat×List AV→AState
 |(i,o)=>⟨[(0,.clos g [] []),(4,.lptr 1 0 0),(5,.lptr 2 0 0),(8,.arr (pE l)),(9,i64 l.length),(10,i64 i)],[(1,some ⟨46,3,[zC]⟩),(2,some ⟨46,3,[o]⟩)],3,27⟩
theorem l5_(g:Nat)(bf:Int→Bool)(hg:∀c,FS g [i64 c] (bln (bf c)))(l:List Rat)(hl:smL l)(hln:l.length≤1099511627776):FS 235 [.clos g [] [],.arr (pE l)] (.agg (qC (cv_ bf l))):=by
 refine f_n Tryz.func235 ?_ ?_;exact aa_ (aG_ ac_ ac_) (aa_ (ar_ l) ac_);refine r_z 1 ?_;refine r_z 1 ?_;refine ab_ (r_z 3 ?_);refine aw_ (fun _:Unit=>⟨[(4,.lptr 1 0 0),(5,.lptr 2 0 0)],[(1,some ⟨46,3,[zC]⟩),(2,some ⟨46,3,[qC (cv_ bf l)]⟩)],3,27⟩) (fun _=>True) ?_ ?_;refine ae_ (aq_ (fun x:Nat×List AV=>nB_ g l x) (fun x=>l.length- x.1) (fun x=>x.1≤l.length∧((x.1=0→x.2=zC)∧(x.1≠0→x.2=qC (cv_ bf (l.take x.1))))) (0,zC) ⟨Nat.zero_le _,fun _=>rfl,fun h=>absurd rfl h⟩ ?_ ?_);simp only[nB_.eq_1];exact s_e [(1,4),(2,5)];rintro⟨i,o⟩ ⟨hi,ho0,ho⟩;simp only at hi ho0 ho;simp only[nB_.eq_1];refine r_z 1 ?_;refine ab_ (aj_ rfl (fun h=>?_) (fun h=>?_));refine ah_ ?_;have hlt:i< l.length:=by simpa using h
 obtain⟨q,hq⟩:∃q,l[i]?=some q:=⟨_,List.getElem?_eq_getElem hlt⟩;have hq':(pE l)[((i:Nat):Int).toNat]?=some (qC q):=cS_ hq;have hsq:sm q:=hl q (List.mem_of_getElem? hq);have hst:sm (cv_ bf (l.take i)):=ht_ fun q hq=>hl q (List.mem_of_mem_take hq);have hsn:=my_ bf (l.take i) q;rw[←bm_ hq] at hsn;refine ab_ (ae_ (s_r 6 ?_));refine a_1 ?_;refine i_x hq' ?_;refine l_x hq' ?_;refine a_z ?_;refine AWp.cutB (fun _:Unit=>nB_ g l (i,qC (cv_ bf (l.take (i+1))))) (fun _=>True) ?_ ?_;by_cases h0:i=0;subst h0;have:=ho0 rfl;subst this;rw[if_pos (.inl (by simp))] at hsn;refine s_r 9 ?_;refine a_3 ?_;refine n_g rfl d_t ?_;refine n_g rfl d_t ?_;refine n_g rfl d_t ?_;refine n_g rfl d_t ?_;refine n_g rfl d_t ?_;refine o_0 (.pickT rfl d_t rfl) ?_;refine al_ ?_;refine aj_ rfl (fun h=>?_) (fun h=>?_);refine r_m 2 ?_;refine a_z ?_;refine⟨(),trivial,?_⟩;simp only[nB_.eq_1];rw[hsn];exact s_e [];cases h;have ho':o=qC (cv_ bf (l.take i)):=ho h0;subst ho'
 have hne:l.take i≠[]:=fun h=>by
  have:=congrArg List.length h;rw[List.length_take,List.length_nil] at this;omega
 refine s_r 9 ?_;refine a_3 ?_;refine y_g rfl (by simp;omega) (.move rfl) ?_
 first|refine y_g rfl (by simp;omega) (.load_l rfl rfl rfl TG.h TS.h (nle rfl)) ?_|refine y_g rfl (by simp;omega) (.load_a rfl rfl TG.h TS.h (nle rfl)) ?_
 first|refine y_g rfl (by simp;omega) (.load_l rfl rfl rfl TG.h TS.h (nle rfl)) ?_|refine y_g rfl (by simp;omega) (.load_a rfl rfl TG.h TS.h (nle rfl)) ?_
 refine y_g rfl (by simp;omega) (.call rfl rfl rfl (l4_ q (cv_ bf (l.take i)) hsq hst)) ?_;refine y_g rfl (by simp;omega) (.call rfl rfl rfl (hg (cmpQ q (cv_ bf (l.take i))))) ?_;refine o_0 (.pickF rfl (by simp;omega) rfl) ?_;refine al_ ?_;refine aj_ rfl (fun h1=>?_) (fun h1=>?_);refine r_m 2 ?_;refine a_z ?_;refine⟨(),trivial,?_⟩;simp only[nB_.eq_1];rw[hsn,if_pos (.inr h1)];exact s_e [];refine ah_ ⟨(),trivial,?_⟩;simp only[nB_.eq_1];rw[hsn,if_neg (fun hh=>hh.elim hne fun h2=>by rw[h1] at h2;cases h2)];exact s_e [];rintro _ _;rw[nB_.eq_1];refine r_m 2 ?_;refine a_z ?_;refine⟨(i+1,qC (cv_ bf (l.take (i+1)))),by simp only;omega,⟨by simp only;omega,fun h=>absurd h (by simp),fun _=>rfl⟩,?_⟩;simp only[nB_.eq_1];exact s_e [];have hge:i=l.length:=by simp at h;omega
 refine ao_ ⟨(),trivial,?_⟩;subst hge;by_cases h0:l.length=0;have:=ho0 h0;subst this
 have:cv_ bf l=0:=by
  rw[List.length_eq_zero_iff] at h0;rw[h0];rfl
 rw[this,qC0];exact s_e [];have:=ho h0;subst this;rw[List.take_length];exact s_e [];rintro _ _;refine r_z 2 ?_;exact af_ (c_e (aC_ _))
theorem fs_Min(l:List Rat)(hl:smL l)(hln:l.length≤1099511627776):FS 223 [.arr (pE l)] (.agg (qC (minL l))):=by
 refine f_c Tryz.func223 ?_;refine r_z 1 ?_;refine r_c 3 (l5_ 259 _ fs_Min1 l hl hln) ?_;refine a_z ?_;exact af_ (c_e (aC_ _))
theorem oI_(l:List Rat)(hl:smL l)(hln:l.length≤1099511627776):FS 195 [.arr (pE l)] (.agg (qC (maxL l))):=by
 refine f_c Tryz.func195 ?_;refine r_z 1 ?_;refine r_c 3 (l5_ 236 _ fs_Max1 l hl hln) ?_;refine a_z ?_;exact af_ (c_e (aC_ _))
theorem mR_{a b:Rat}(ha:sm a)(hb:sm b):smL [a,b]:=by
 intro q hq;simp at hq;rcases hq with rfl|rfl
 exact ha;exact hb
theorem oF_(a b c d:Rat)(ha:sm a)(hb:sm b)(hc:sm c)(hd:sm d):FS 188 [.agg (spC a b),.agg (spC c d)] (.agg (spC (minL [a,c]) (maxL [b,d]))):=by
 refine f_c Tryz.func188 ?_;refine r_z 3 ?_;refine ab_ (r_d hmix 14 ?_);refine a_5 ?_;refine o_1 (.callS1 rfl rfl rfl (.shut rfl d_n (.nil)) rfl (fs_Min [a,c] (mR_ ha hc) (by simp))) ?_;refine a_5 ?_;refine o_1 (.callS1 rfl rfl rfl (.shut rfl d_n (.nil)) rfl (oI_ [b,d] (mR_ hb hd) (by simp))) ?_;refine a_2 ?_;refine al_ (n_k ?_);exact af_ (c_e (aY_ _ _))
theorem pE_(l:List Rat)(hl:smL l)(hln:l.length≤1099511627776):FS 296 [.arr (pE l)] (.agg (spC (minL l) (maxL l))):=by
 refine f_c Tryz.func296 ?_;refine r_z 1 ?_;refine r_c 6 (fs_Min l hl hln) ?_;refine c_s (oI_ l hl hln) ?_;refine a_z ?_;exact af_ (c_e (aY_ _ _))
section
variable {P:Go.Program}{T:Nat}{x y:Operand}
theorem cQ_{l m:List UInt8}(h:l.length+m.length≤9223372036854775807):∀w,(do eqGuard .add T x y (.string ⟨l.toArray⟩) (.string ⟨m.toArray⟩);binOp .add T (.string ⟨l.toArray⟩) (.string ⟨m.toArray⟩):Sem Value).run P w= .ok (.string ⟨(l++m).toArray⟩) w:=fun w=>by
 have hm:IntKind.i64.max=9223372036854775807:=by decide
 have e:(⟨l.toArray⟩:ByteArray)++⟨m.toArray⟩=⟨(l++m).toArray⟩:=by
  apply ByteArray.ext;simp
 have hn:¬((((⟨l.toArray⟩:ByteArray).size+(⟨m.toArray⟩:ByteArray).size:Nat):Int)> IntKind.i64.max):=by
  rw[gR_,gR_,hm];omega
 simp only[eqGuard,binOp,Op.stringOp,hn,if_false,e,Sem.run_bind,Sem.run_pure,Result.andThen_ok];rfl
theorem eg_{l m:List UInt8}:∀w,(do eqGuard .eql T x y (.string ⟨l.toArray⟩) (.string ⟨m.toArray⟩);binOp .eql T (.string ⟨l.toArray⟩) (.string ⟨m.toArray⟩):Sem Value).run P w= .ok (.bool (decide (l=m))) w:=fun w=>by
 rw[pc_];congr 2
 have e:∀l:List UInt8,(⟨l.toArray⟩:ByteArray).toList=l:=by
  intro l;have:=ByteArray.toList_eq (bs:=⟨l.toArray⟩);simpa using this
 rw[e,e];rw[Bool.eq_iff_iff];simp
end
def textQ(q:Rat):List UInt8:=((if q.num< 0 then [45] else [])++dec2 q.num.natAbs)++(if q.den=1 then [] else 47::dec2 q.den)
def okT(q:Rat):Prop:=q.num.natAbs< 100∧q.den< 100
instance (q:Rat):Decidable (okT q):=inferInstanceAs (Decidable (_∧_))
theorem okT_qs{q:Rat}(h:okT q):qs q≤1099511627776:=by
 obtain⟨h1,h2⟩:=h;have e1:=bl_le (n:=q.num.natAbs) (k:=7) (by omega);have e2:=bl_le (n:=q.den) (k:=7) (by omega);unfold qs;omega
theorem textQ_len{q:Rat}:(textQ q).length≤6∧1≤(textQ q).length:=by
 have h1:=fC_ q.num.natAbs;have h2:=fC_ q.den;have h3:=List.length_pos_iff.2 (nu_ q.num.natAbs);unfold textQ;split <;> split <;> simp <;> omega
def qtS(q:Rat):List UInt8→AState
 |l=>⟨[(1,.aptr [qC q] 0 0),(3,tx l)],[],2,24⟩
theorem kQ_(q:Rat)(h:okT q):FS 38 [.agg (qC q)] (tx (textQ q)):=by
 have hd1:=fC_ q.num.natAbs;have hd2:=fC_ q.den;have hden:1≤q.den:=q.den_pos;refine f_c Tryz.func38 ?_;refine r_z 2 ?_;refine AWp.ent (st':=⟨[(1,.aptr [qC q] 0 0)],[],2,24⟩) ?_ ?_;exact s_e [];refine r_c 5 (oB_ q.num.natAbs h.1) ?_;refine a_z ?_;refine aP_ (qtS q) (fun l=>l=(if q.num< 0 then [45] else [])++dec2 q.num.natAbs) ?_ ?_;refine r_z 3 ?_;refine aj_ rfl (fun h1=>?_) (fun h1=>?_);have h2:q.num< 0:=by simpa using h1
 refine r_m 3 ?_;refine a_1 ?_;refine o_0 (.bin rfl rfl (cQ_ (l:=[45]) (by simp;omega))) ?_;refine a_z ?_;refine⟨_,by rw[if_pos h2],?_⟩;rw[qtS.eq_1];exact s_x [] (fun hs=>e_2) (fun hs=>e_3);have h2:¬q.num< 0:=by simpa using h1
 refine ah_ ⟨dec2 q.num.natAbs,by rw[if_neg h2];rfl,?_⟩;rw[qtS.eq_1];exact s_x [] (fun hs=>e_2) (fun hs=>e_3);rintro l hl;have hll:l.length≤3:=by rw[hl];split <;> simp <;> omega
 rw[qtS.eq_1];refine aP_ (qtS q) (fun l=>l=textQ q) ?_ ?_;refine r_c 4 (eJ_ (q.den- 1)) ?_;refine a_z ?_;refine aj_ rfl (fun h1=>?_) (fun h1=>?_)
 have h2:¬q.den=1:=by
  intro e;rw[e] at h1;simp at h1
 refine r_m 7 ?_;refine c_s (cj_ q (okT_qs h)) ?_;refine c_s (oB_ q.den h.2) ?_;refine o_0 (.bin rfl rfl (cQ_ (l:=[47]) (by simp;omega))) ?_;refine o_0 (.bin rfl rfl (cQ_ (by simp;omega))) ?_;refine a_z ?_;refine⟨_,by unfold textQ;rw[if_neg h2,←hl],?_⟩;rw[qtS.eq_1];exact s_x [] (fun hs=>e_2) (fun hs=>e_3)
 have h2:q.den=1:=by
  have h3:q.den- 1=0:=by simpa using h1
  omega
 refine ah_ ⟨l,by unfold textQ;rw[if_pos h2,←hl,List.append_nil],?_⟩;rw[qtS.eq_1];exact s_x [] (fun hs=>e_2) (fun hs=>e_3);rintro l rfl;rw[qtS.eq_1];refine r_z 2 ?_;exact af_ (t_e (ad_ _))
theorem fs_ends (g:Nat) (op:Rat→Rat→Rat) (a b c d:Rat) (h1:FS g [.agg (qC a),.agg (qC c)] (.agg (qC (op a c)))) (h2:FS g [.agg (qC a),.agg (qC d)] (.agg (qC (op a d)))) (h3:FS g [.agg (qC b),.agg (qC c)] (.agg (qC (op b c)))) (h4:FS g [.agg (qC b),.agg (qC d)] (.agg (qC (op b d))))
    (hs:smL [op a c,op a d,op b c,op b d]):FS 290 [.clos g [] [],.agg (spC a b),.agg (spC c d)] (.agg (spC (minL [op a c,op a d,op b c,op b d]) (maxL [op a c,op a d,op b c,op b d]))):=by
 refine f_n Tryz.func290 ?_ ?_;exact aa_ (aG_ ac_ ac_) (aa_ (aY_ a b) (aa_ (aY_ c d) ac_));refine r_z 3 ?_;refine ab_ (r_d hmix 27 ?_);refine c_s (h1) ?_;refine c_s (h2) ?_;refine c_s (h3) ?_;refine c_s (h4) ?_;refine a_1 ?_;refine o_1 (.callS1 rfl rfl rfl (.shut rfl d_n (.nil)) rfl (pE_ [op a c,op a d,op b c,op b d] hs (by simp))) ?_;refine a_1 ?_;refine al_ (n_k ?_);exact af_ (c_e (aY_ _ _))
theorem fs_SMul(a b c d:Rat)(ha:sm a)(hb:sm b)(hc:sm c)(hd:sm d)(hs:smL [a* c,a* d,b* c,b* d]):FS 271 [.agg (spC a b),.agg (spC c d)] (.agg (spC (minL [a* c,a* d,b* c,b* d]) (maxL [a* c,a* d,b* c,b* d]))):=by
 refine f_c Tryz.func271 ?_;refine r_z 3 ?_;refine r_c 4 (fs_ends 40 (fun x y=>x* y) a b c d (bK_ a c (sm2 ha hc)) (bK_ a d (sm2 ha hd)) (bK_ b c (sm2 hb hc)) (bK_ b d (sm2 hb hd)) hs) ?_;refine a_z ?_;exact af_ (c_e (aY_ _ _))
theorem qs_int(n:Int):qs (n:Rat)≤max (bl n.natAbs) 1:=by
 have e1:(n:Rat).num=n:=rfl;have e2:(n:Rat).den=1:=rfl;unfold qs;rw[e1,e2,fR_];exact Nat.le_refl _
theorem qs_i64{n:Int}(h: -9223372036854775808≤n∧n≤9223372036854775807):qs (n:Rat)≤64:=by
 have h1:=qs_int n;have h2:bl n.natAbs≤64:=bl_le (Nat.lt_of_le_of_lt (show n.natAbs≤9223372036854775808 by omega) (by decide));omega
theorem fs_Of(n d:Int)(hn: -9223372036854775808≤n∧n≤9223372036854775807)(hd: -9223372036854775808≤d∧d≤9223372036854775807)(h0:d≠0):FS 35 [i64 n,i64 d] (.tup [.agg (qC ((n:Rat) / (d:Rat))),i64 0]):=by
 have h1:=qs_i64 hn;have h2:=qs_i64 hd
 have hd0:(d:Rat)≠0:=by
  intro h;have:(d:Rat).num=0:=by rw[h];rfl
  exact h0 this
 refine f_c Tryz.func35 ?_;refine r_z 2 ?_;refine r_c 9 (c2_ n hn) ?_;refine c_s (c2_ d hd) ?_;refine c_s (r3_ (n:Rat) (d:Rat) hd0 (by omega)) ?_;refine a_z ?_;refine af_ (Fin.many ⟨_,_,rfl,⟨_,_,_,_,_,rfl,rfl,rfl,.inl ⟨TG.h,_,TS.h,nle rfl,rfl⟩⟩,⟨_,_,rfl,rfl,rfl⟩⟩ (nle rfl) ?_);exact ai_ (ak_ ax_ (aC_ _)) (ai_ (ak_ ax_ (ad_ _)) an_)
theorem fs_Clone(l:List Rat)(hl:l.length≤1099511627776):FS 143 [.arr (pE l)] (.arr (pE l)):=by
 cases l with
 |nil=>
  refine FSpec.nil1 fun a c=>?_;refine f_c Tryz.func143 ?_;refine r_z 1 ?_;refine ab_ (r_z 2 ?_);refine aj_ rfl (fun h=>?_) (fun h=>?_);refine r_z 1 ?_;exact af_ (Fin.tmpN rfl)
  ·refine ah_ (s_r 4 ?_)
   refine a_2 ?_;refine o_2 (.append_l rfl rfl rfl te_33.h rfl rfl rfl rfl rfl d_o (by first|exact cU_ _|exact cT_ _|exact ci_ _|exact cV_ _|exact cD_ _|assumption|rfl|simp) (by first|rfl|exact cU_ _|exact cT_ _|exact ci_ _|exact cV_ _|exact cD_ _|simp) rfl (.vnil) TZ.h rfl TB.h d_o (by first|(simp[maxLen];done)|(simp[maxLen];omega))) ?_;refine a_z ?_;exact af_ (Fin.tmpS rfl rfl rfl rfl (aI_ []))
 |cons q l=>
  have hne:pE (q::l)≠[]:=by simp[pE]
  simp at hl;refine f_c Tryz.func143 ?_;refine r_z 1 ?_;refine ab_ (s_r 2 ?_);refine a_1 ?_
  first|refine aA_ (.nilq_v rfl rfl te_33.h) rfl rfl ?_|refine aA_ (.nilq_arr rfl (hne) rfl te_33.h) rfl rfl ?_
  refine al_ ?_;refine cF ?_
  ·refine ah_ (s_r 4 ?_)
   refine a_2 ?_;refine o_2 (.append_l rfl rfl rfl te_33.h rfl rfl rfl rfl rfl d_o (by first|exact cU_ _|exact cT_ _|exact ci_ _|exact cV_ _|exact cD_ _|assumption|rfl|simp) (by first|rfl|exact cU_ _|exact cT_ _|exact ci_ _|exact cV_ _|exact cD_ _|simp) rfl (.arr (f1_ _)) TZ.h rfl TB.h d_o (by first|(simp[maxLen];done)|(simp[maxLen];omega))) ?_;refine a_z ?_;exact af_ (Fin.tmpS rfl rfl rfl (by simp) (aI_ _))
def trS(l:List Rat):Nat→AState
 |n=>⟨[(0,.arr (pE l)),(3,i64 n)],[],1,23⟩
theorem ce_(l:List Rat)(hl:l.length≤1099511627776):FS 77 [.arr (pE l)] (.arr (pE (trimQ l))):=by
 refine f_c Tryz.func77 ?_;refine r_z 1 ?_;refine r_z 3 ?_;refine aP_ (trS l) (fun n=>n≤l.length∧trimQ l=l.take n) ?_ ?_;refine ae_ (aq_ (trS l) (fun n=>n) (fun n=>n≤l.length∧trimQ l=trimQ (l.take n)) l.length ⟨Nat.le_refl _,by rw[List.take_length]⟩ ?_ ?_);simp only[trS.eq_1];exact s_e [];rintro n ⟨hn,ht⟩;rw[trS.eq_1];cases n with
 |zero=>
  refine ab_ (s_r 11 ?_);refine a_3 ?_;refine n_g rfl (by simp) ?_;refine n_g rfl (by simp) ?_;refine n_g rfl (by simp) ?_;refine n_g rfl (by simp) ?_;refine n_g rfl (by simp) ?_;refine n_g rfl (by simp) ?_;refine n_g rfl (by simp) ?_;refine o_0 (.pickF rfl (by simp) rfl) ?_;refine al_ ?_;refine cF ?_;refine ao_ ⟨0,⟨Nat.zero_le _,?_⟩,?_⟩;rw[ht];rfl;simp only[trS.eq_1];exact s_e []
 |succ n=>
  obtain⟨q,hq⟩:∃q,l[n]?=some q:=⟨_,List.getElem?_eq_getElem (by omega)⟩
  have hq':(pE l)[(((n+1:Nat):Int)- 1).toNat]?=some (qC q):=by
   rw[show(((n+1:Nat):Int)- 1).toNat=n by omega];exact cS_ hq
  have hs:trimQ (l.take (n+1))=if q=0 then trimQ (l.take n) else l.take (n+1):=by
   rw[bm_ hq,fk_]
  refine ab_ (s_r 11 ?_);refine a_3 ?_;refine y_g rfl (by simp <;> omega) (.move rfl) ?_;refine y_g rfl (by simp <;> omega) (.move rfl) ?_;refine y_g rfl (by simp <;> omega) (.bin rfl rfl (gO_ (by omega))) ?_
  first|refine y_g rfl (by simp <;> omega) (.index_l rfl rfl (by omega) (by omega) te_33.h) ?_|refine y_g rfl (by simp <;> omega) (.index_a rfl rfl (by omega) hq' rfl te_33.h) ?_
  first|refine y_g rfl (by simp <;> omega) (.load_l rfl rfl hq' TG.h TS.h (nle rfl)) ?_|refine y_g rfl (by simp <;> omega) (.load_a rfl hq' TG.h TS.h (nle rfl)) ?_
  refine y_g rfl (by simp <;> omega) (.call rfl rfl rfl (br_ q)) ?_;refine y_g rfl (by simp <;> omega) (.bin rfl rfl a3_) ?_;refine o_0 (.pickT rfl (by simp <;> omega) rfl) ?_;refine al_ ?_;refine aj_ rfl (fun h=>?_) (fun h=>?_)
  have h0:q=0:=by
   have h1:sgZ q.num=0:=by simpa using h
   exact sgZ_num_eq.1 h1
  refine ah_ (ae_ (r_m 3 ?_));refine a_z ?_;refine⟨n,Nat.lt_succ_self n,⟨by omega,?_⟩,?_⟩;rw[ht,hs,if_pos h0];simp only[trS.eq_1];exact s_e []
  have h0:q≠0:=by
   intro e;have h1:¬sgZ q.num=0:=by simpa using h
   exact h1 (sgZ_num_eq.2 e)
  refine ao_ ⟨n+1,⟨hn,?_⟩,?_⟩;rw[ht,hs,if_neg h0];simp only[trS.eq_1];exact s_e []
 rintro n ⟨hn,ht⟩;rw[trS.eq_1];have hcl:=fs_Clone (l.take n) (by simp;omega);refine s_r 5 ?_;refine a_2 ?_;refine o_0 (.sa_h rfl rfl (h:=n) rfl (by simp;omega) te_33.h (f1_ _)) ?_;refine o_0 (.call rfl rfl rfl ((by rw[kt_];exact hcl))) ?_;refine o_0 (.assign rfl) ?_;refine al_ ?_;refine af_ (aD_ rfl ?_ ?_);rw[ht];exact aB_ (aI_ _)
theorem b5_(l:List Rat)(hl:l.length≤1099511627776):FS 23 [.arr (pE l)] (i64 (degP l)):=by
 have:=a8_ l;refine f_c Tryz.func23 ?_;refine r_z 1 ?_;refine r_c 5 (ce_ l hl) ?_;refine a_z ?_;exact af_ (t_e (ad_ _))
theorem kV_(l:List Rat)(hl:l.length≤1099511627776):FS 24 [.arr (pE l)] (.agg (qC (leadP l))):=by
 have hlen:=a8_ l;refine f_c Tryz.func24 ?_;refine r_z 1 ?_;refine r_c 3 (ce_ l hl) ?_;refine a_z ?_;refine ab_ (r_z 3 ?_);refine aj_ rfl (fun h=>?_) (fun h=>?_)
 have h0:trimQ l=[]:=by
  have h1:(trimQ l).length=0:=by simpa using h
  exact List.length_eq_zero_iff.1 h1
 rw[iL_ h0];refine r_z 2 ?_;refine af_ (Fin.cell rfl rfl rfl TG.h TS.h (nle rfl) (Cv.agg ?_));rw[qC0];exact ai_ (Cv.emp _) (ai_ (ak_ ax_ (ad_ _)) (ai_ (Cv.emp _) an_))
 obtain⟨n,hn⟩:∃n,(trimQ l).length=n+1:=⟨(trimQ l).length- 1,by
  have h1:¬(trimQ l).length=0:=by simpa using h
  omega⟩
 have hg:(pE (trimQ l))[(((trimQ l).length:Int)- 1).toNat]?=some (qC (leadP l)):=by
  rw[hn,show(((n+1:Nat):Int)- 1).toNat=n by omega];exact cS_ (cG_ hn)
 refine ah_ (s_r 7 ?_);refine a_4 ?_;refine i_x hg ?_;refine l_x hg ?_;refine a_z ?_;exact af_ (c_e (aC_ _))
theorem fs_at(l:List Rat)(i:Nat):FS 88 [.arr (pE l),i64 i] (.agg (qC (coP l i))):=by
 refine f_c Tryz.func88 ?_;refine r_z 1 ?_;refine ab_ (r_z 4 ?_);refine aj_ rfl (fun h=>?_) (fun h=>?_);have hlt:i< l.length:=by simpa using h
 have hg:(pE l)[((i:Nat):Int).toNat]?=some (qC (coP l i)):=cS_ (bw_ hlt);refine s_r 5 ?_;refine a_2 ?_;refine i_x hg ?_;refine l_x hg ?_;refine a_z ?_;exact af_ (c_e (aC_ _));have hge:l.length≤i:=by simpa using h
 rw[dh_ hge];refine ah_ (r_z 2 ?_);refine af_ (Fin.cell rfl rfl rfl TG.h TS.h (nle rfl) (Cv.agg ?_));rw[qC0];exact ai_ (Cv.emp _) (ai_ (ak_ ax_ (ad_ _)) (ai_ (Cv.emp _) an_))
theorem eE_set{n i e:Nat}{f:Nat→Rat}(h:i< n)(he:e=i):(pE (tabP i f)++List.replicate (n- i) zC).set e (qC (f i))=pE (tabP (i+1) f)++List.replicate (n- (i+1)) zC:=by
 subst he;obtain⟨k,rfl⟩:∃k,n=e+1+k:=⟨n- (e+1),by omega⟩;rw[show e+1+k- e=k+1 by omega,show e+1+k- (e+1)=k by omega,List.replicate_succ,List.set_append_right _ _ (by simp)];simp[tabP,List.range_succ,pE]
theorem eE_get{n i e:Nat}{f:Nat→Rat}(h:i< n)(he:e=i):(pE (tabP i f)++List.replicate (n- i) zC)[e]?=some zC:=by
 subst he;rw[List.getElem?_append_right (by simp),List.getElem?_replicate,if_pos (by simp;omega)]
theorem jn_(n i:Nat)(f:Nat→Rat):∀e∈pE (tabP i f)++List.replicate (n- i) zC,∀c∈e,Closed c:=by
 intro e he;rcases List.mem_append.1 he with he|he
 exact aI_ _ e he;rw[List.eq_of_mem_replicate he];exact jm_
def eachS(n:Nat)(f:Nat→Rat)(g:Nat)(cap:List AV):Nat→AState
 |i=>⟨[(1,.clos g [] cap),(5,.lsl 1 0 n (some n) 3),(10,i64 n),(11,i64 i)],[(1,some ⟨46,3,pE (tabP i f)++List.replicate (n- i) zC⟩)],2,23⟩
theorem kM_(n:Nat)(f:Nat→Rat)(g:Nat)(cap:List AV)(hn:n≤1099511627776)(hcap:∀c∈cap,Closed c)(hg:∀i,i< n→FS g ((i64 i::cap).map coe) (.agg (qC (f i)))):FS 86 [i64 n,.clos g [] cap] (.arr (pE (trimQ (tabP n f)))):=by
 refine f_n Tryz.func86 ?_ ?_;exact aa_ (ad_ _) (aa_ (aG_ ac_ hcap) ac_);refine r_z 1 ?_;refine r_z 3 ?_;refine ab_ (r_z 3 ?_);refine aw_ (fun _:Unit=>eachS n f g cap n) (fun _=>True) ?_ ?_;refine ae_ (aq_ (eachS n f g cap) (fun i=>n- i) (fun i=>i≤n) 0 (Nat.zero_le _) ?_ ?_);simp only[eachS.eq_1];refine s_x [(1,5)] (fun hs=>e_4) (fun hs=>?_)
 ·repeat' (first|exact az_|refine h_c ?_ ?_|exact aF_ hs rfl (jn_ n 0 f)|exact au_e|refine av_ ?_|exact an_|refine ai_ ?_ ?_|exact ak_ hs (aG_ ac_ hcap)|exact au_c)
 rintro i hi;rw[eachS.eq_1];refine r_z 1 ?_;refine ab_ (aj_ rfl (fun h=>?_) (fun h=>?_));refine ah_ ?_;have hlt:i< n:=by simpa using h
 refine ab_ (ae_ (r_z 2 ?_));refine r_m 7 ?_;refine c_s (hg i hlt) ?_;refine a_1 ?_;refine o_1n (.store rfl rfl (eE_get hlt (Nat.zero_add i)) rfl rfl rfl TS.h (nle rfl)) ?_;refine al_ ?_;refine r_m 2 ?_;refine a_z ?_;refine⟨i+1,by omega,hlt,?_⟩;simp only[eachS.eq_1];refine s_x [] (fun hs=>e_4) (fun hs=>?_)
 ·repeat' (first|exact az_|refine h_c ?_ ?_|exact aF_ hs (eE_set hlt (Nat.zero_add i)) (jn_ n (i+1) f)|exact au_e|refine av_ ?_|exact an_|refine ai_ ?_ ?_|exact ak_ hs (aG_ ac_ hcap)|exact au_c)
 have hge:i=n:=by
  have:¬i< n:=by simpa using h
  omega
 subst hge;refine ao_ ⟨(),trivial,?_⟩;simp only[eachS.eq_1];refine s_x [] (fun hs=>e_4) (fun hs=>?_)
 ·repeat' (first|exact az_|refine h_c ?_ ?_|exact a9_ hs (jn_ i i f)|exact au_e|refine av_ ?_|exact an_|refine ai_ ?_ ?_|exact ak_ hs (aG_ ac_ hcap)|exact au_c)
 rintro _ _;rw[eachS.eq_1]
 have hfull:List.take n (List.drop 0 (pE (tabP n f)++List.replicate (n- n) zC))=pE (tabP n f):=by
  rw[Nat.sub_self,List.replicate_zero,List.append_nil,List.drop_zero,List.take_of_length_le (by simp)]
 refine s_r 3 ?_;refine a_1 ?_;refine o_1 (.callS1 rfl rfl rfl (.shut rfl d_n (.nil)) rfl ((by rw[hfull];exact ce_ (tabP n f) (by simp;exact hn)))) ?_;refine a_z ?_;exact af_ (t_e (aB_ (aI_ _)))
section
variable {P:Go.Program}{T:Nat}{x y:Operand}
theorem pb_{l m:List UInt8}:∀w,(do eqGuard .neq T x y (.string ⟨l.toArray⟩) (.string ⟨m.toArray⟩);binOp .neq T (.string ⟨l.toArray⟩) (.string ⟨m.toArray⟩):Sem Value).run P w= .ok (.bool (!decide (l=m))) w:=fun w=>by
 rw[pa_];congr 2
 have e:∀l:List UInt8,(⟨l.toArray⟩:ByteArray).toList=l:=by
  intro l;have:=ByteArray.toList_eq (bs:=⟨l.toArray⟩);simpa using this
 rw[e,e];rw[Bool.eq_iff_iff];simp
end
def sgnTx(o:Option (List UInt8))(c:Rat):Option (List UInt8):=
 match o with
 |none=>if c< 0 then some [45] else none
 |some s=>if c< 0 then some (s++[32,45,32]) else some (s++[32,43,32])
def wrO(o:Option (List UInt8))(t:List UInt8):Option (List UInt8):=some (o.getD []++t)
def fK_(o:Option (List UInt8))(t:List UInt8):Option (List UInt8):=if t=[49] then o else wrO o (t++[32])
def io_(tq:Rat→List UInt8)(ti:Nat→List UInt8)(o:Option (List UInt8))(c:Rat)(n:Nat):Option (List UInt8):=
 if n=0 then wrO (sgnTx o c) (tq (absQ c))
 else if 1< n then wrO (wrO (fK_ (sgnTx o c) (tq (absQ c))) [120]) ([94]++ti n) else wrO (fK_ (sgnTx o c) (tq (absQ c))) [120]
def textR(tq:Rat→List UInt8)(ti:Nat→List UInt8)(p:List Rat):Nat→Option (List UInt8)→Option (List UInt8)
 |0,o=>o
 |n+1,o=>textR tq ti p n (if coP p n=0 then o else io_ tq ti o (coP p n) n)
def textG(tq:Rat→List UInt8)(ti:Nat→List UInt8)(p:List Rat):List UInt8:=(textR tq ti (trimQ p) (trimQ p).length none).getD [48]
def textP(p:List Rat):List UInt8:=textG textQ dec2 p
def okPT(p:List Rat):Prop:=p.length≤1000∧(trimQ p).length≤99∧(∀c∈trimQ p,okT c)
instance (p:List Rat):Decidable (okPT p):=inferInstanceAs (Decidable (_∧_∧_))
def pb0(p:List Rat):Int→AState
 |n=>⟨[(0,.arr (pE p)),(3,.lptr 1 0 0),(4,i64 n)],[(1,some ⟨174,2,[bldC 1 2 none]⟩)],4,67⟩
def pb1(p:List Rat):Int×List UInt8→AState
 |(n,s)=>⟨[(0,.arr (pE p)),(3,.lptr 1 0 0),(4,i64 n)],[(1,some ⟨174,2,[bldC 1 2 (some s)]⟩),(2,some ⟨5,1,bE s⟩)],4,67⟩
def pbS(p:List Rat)(n:Int):Option (List UInt8)→AState
 |none=>pb0 p n
 |some s=>pb1 p (n,s)
def pc0(p:List Rat)(c:Rat):Int→AState
 |n=>⟨[(0,.arr (pE p)),(3,.lptr 1 0 0),(4,i64 n),(5,.lptr 3 0 0)],[(1,some ⟨174,2,[bldC 1 2 none]⟩),(3,some ⟨46,3,[qC c]⟩)],4,67⟩
def pc1(p:List Rat)(c:Rat):Int×List UInt8→AState
 |(n,s)=>⟨[(0,.arr (pE p)),(3,.lptr 1 0 0),(4,i64 n),(5,.lptr 3 0 0)],[(1,some ⟨174,2,[bldC 1 2 (some s)]⟩),(2,some ⟨5,1,bE s⟩),(3,some ⟨46,3,[qC c]⟩)],4,67⟩
def pcS(p:List Rat)(c:Rat)(n:Int):Option (List UInt8)→AState
 |none=>pc0 p c n
 |some s=>pc1 p c (n,s)
def pd0(p:List Rat)(t:List UInt8):Int→AState
 |n=>⟨[(0,.arr (pE p)),(3,.lptr 1 0 0),(4,i64 n),(6,tx t)],[(1,some ⟨174,2,[bldC 1 2 none]⟩)],4,67⟩
def pd1(p:List Rat)(t:List UInt8):Int×List UInt8→AState
 |(n,s)=>⟨[(0,.arr (pE p)),(3,.lptr 1 0 0),(4,i64 n),(6,tx t)],[(1,some ⟨174,2,[bldC 1 2 (some s)]⟩),(2,some ⟨5,1,bE s⟩)],4,67⟩
def pdS(p:List Rat)(t:List UInt8)(n:Int):Option (List UInt8)→AState
 |none=>pd0 p t n
 |some s=>pd1 p t (n,s)
def okOx(o:Option (List UInt8))(n:Nat):Prop:=∀s,o=some s→s≠[]∧s.length≤n
theorem ku_(n:Nat):okOx none n:=fun s h=>by cases h
theorem jR_{o:Option (List UInt8)}{n:Nat}{t:List UInt8}(h:okOx o n)(h0:t≠[]):okOx (wrO o t) (n+t.length):=by
 intro s hs;cases hs;cases o with
 |none=>exact⟨by simpa using h0,by simp⟩
 |some q=>exact⟨by simp[h0],by have:=(h q rfl).2;simp;omega⟩
theorem on_{o:Option (List UInt8)}{n:Nat}(h:okOx o n)(c:Rat):okOx (sgnTx o c) (n+3):=by
 intro s hs;cases o with
 |none=>
  simp only[sgnTx] at hs;split at hs;cases hs;exact⟨by simp,by simp⟩;cases hs
 |some q=>
  have:=(h q rfl).2;simp only[sgnTx] at hs;split at hs <;> cases hs <;> exact⟨by simp,by simp;omega⟩
theorem dH_{o:Option (List UInt8)}{n m:Nat}(h:okOx o n)(hm:n≤m):okOx o m:=fun s hs=>⟨(h s hs).1,Nat.le_trans (h s hs).2 hm⟩
theorem textQ_ne(q:Rat):textQ q≠[]:=List.length_pos_iff.1 (textQ_len (q:=q)).2
theorem sgZ_neg(c:Rat):sgZ c.num< 0↔c< 0:=by
 rw[←iE_];unfold sgZ;split;omega;split <;> omega
theorem okT_abs{c:Rat}(h:okT c):okT (absQ c):=by
 rw[nG_];split;obtain⟨h1,h2⟩:=h;exact⟨by rw[Rat.neg_num];simpa using h1,by rw[Rat.neg_den];exact h2⟩;exact h
theorem sc_(tq:Rat→List UInt8)(ti:Nat→List UInt8)(L:Nat)(p:List Rat)(h1:p.length≤1000)(hL:L≤10000)(h3:∀c∈trimQ p,FS 38 [.agg (qC (absQ c))] (tx (tq (absQ c)))∧tq (absQ c)≠[]∧(tq (absQ c)).length≤L)(hI:∀n,n< (trimQ p).length→FS 104 [i64 n] (tx (ti n))∧(ti n).length≤20):FS 37 [.arr (pE p)] (tx (textG tq ti p)):=by
 have htr:=ce_ p (by omega);obtain⟨q,hq⟩:∃q,q=trimQ p:=⟨_,rfl⟩;have hR:textG tq ti p=(textR tq ti q q.length none).getD [48]:=by unfold textG;rw[hq]
 rw[hR];have h2:=a8_ p;rw[←hq] at htr h2 h3 hI;have hall:∀k,(q.length- k) * (L+30)≤10030000:=fun k=>Nat.mul_le_mul (show q.length- k≤1000 by omega) (show L+30≤10030 by omega);refine f_c Tryz.func37 ?_;refine r_z 1 ?_;refine r_z 1 ?_;refine r_c 3 (htr) ?_;refine a_z ?_;refine ab_ (r_z 4 ?_);refine aw_ (pbS q (-1)) (fun o=>o=textR tq ti q q.length none∧okOx o 20000000) ?_ ?_;refine ae_ (aq_ (fun x:Nat×Option (List UInt8)=>pbS q ((x.1:Int)- 1) x.2) (fun x=>x.1) (fun x=>x.1≤q.length∧textR tq ti q x.1 x.2=textR tq ti q q.length none∧okOx x.2 ((q.length- x.1) * (L+30))) (q.length,none) ⟨Nat.le_refl _,rfl,ku_ _⟩ ?_ ?_);show SEnt _ (pb0 q ((q.length:Int)- 1));rw[pb0.eq_1];exact s_e [(1,3)];rintro⟨n,o⟩ ⟨hn,hr,ho⟩;simp only at hn hr ho;cases n with
 |zero=>
  cases o with
  |none=>
   show AWp _ _ _ _ (pb0 q (((0:Nat):Int)- 1));rw[pb0.eq_1];refine ab_ (r_z 2 ?_);refine aj_ rfl (fun h4=>?_) (fun h4=>?_);exact absurd h4 (by simp);refine ao_ ⟨none,⟨hr,ku_ _⟩,?_⟩;show SEnt _ (pb0 q (-1));rw[pb0.eq_1];exact s_e []
  |some s=>
   show AWp _ _ _ _ (pb1 q (((0:Nat):Int)- 1,s));rw[pb1.eq_1];refine ab_ (r_z 2 ?_);refine aj_ rfl (fun h4=>?_) (fun h4=>?_);exact absurd h4 (by simp);refine ao_ ⟨some s,⟨hr,dH_ ho (by have:=hall 0;omega)⟩,?_⟩;show SEnt _ (pb1 q (-1,s));rw[pb1.eq_1];exact s_e []
 |succ n=>
  have hcn:((n+1:Nat):Int)- 1=(n:Int):=by omega
  rw[hcn];rw[textR] at hr;have hlt:n< q.length:=by omega
  obtain⟨c,hc⟩:∃c,c=coP q n:=⟨_,rfl⟩;rw[←hc] at hr;have hg:(pE q)[((n:Nat):Int).toNat]?=some (qC c):=by rw[Int.toNat_natCast,hc];exact cS_ (bw_ hlt)
  obtain⟨fT,htn,htl⟩:=h3 c (by rw[hc];exact List.mem_of_getElem? (bw_ hlt))
  have hm:(q.length- n) * (L+30)=(q.length- (n+1)) * (L+30)+(L+30):=by
   rw[show q.length- n=(q.length- (n+1))+1 by omega,Nat.add_mul,Nat.one_mul]
  obtain⟨B,hB⟩:∃B,B=(q.length- (n+1)) * (L+30):=⟨_,rfl⟩;have hmx:B≤10030000:=by rw[hB];exact hall _
  rw[←hB] at ho hm;obtain⟨t,ht⟩:∃t,t=tq (absQ c):=⟨_,rfl⟩;rw[←ht] at htn htl fT;obtain⟨fI,hd2⟩:=hI n hlt;refine aP_ (fun _:Unit=>pbS q n o) (fun _=>True) ?_ ?_;cases o with
  |none=>
   show AWp _ _ _ _ (pb0 q n);rw[pb0.eq_1];refine r_z 2 ?_;refine aj_ rfl (fun h4=>?_) (fun h4=>?_);refine ah_ ⟨(),trivial,?_⟩;show SEnt _ (pb0 q n);rw[pb0.eq_1];exact s_e [];exact absurd h4 (by simp)
  |some s=>
   show AWp _ _ _ _ (pb1 q (n,s));rw[pb1.eq_1];refine r_z 2 ?_;refine aj_ rfl (fun h4=>?_) (fun h4=>?_);refine ah_ ⟨(),trivial,?_⟩;show SEnt _ (pb1 q (n,s));rw[pb1.eq_1];exact s_e [];exact absurd h4 (by simp)
  rintro _ _;refine aP_ (pbS q n) (fun o'=>o'=(if c=0 then o else io_ tq ti o c n)) ?_ ?_;refine ae_ (aP_ (fun _:Unit=>pcS q c n o) (fun _=>True) ?_ ?_);cases o with
  |none=>
   show AWp _ _ _ _ (pb0 q n);rw[pb0.eq_1];refine r_m 6 ?_;refine a_2 ?_;refine i_x hg ?_;refine l_x hg ?_;refine a_z ?_;refine⟨(),trivial,?_⟩;show SEnt _ (pc0 q c n);rw[pc0.eq_1];exact s_x [(3,5)] (fun hs=>au_f) (fun hs=>e_8)
  |some s=>
   show AWp _ _ _ _ (pb1 q (n,s));rw[pb1.eq_1];refine r_m 6 ?_;refine a_2 ?_;refine i_x hg ?_;refine l_x hg ?_;refine a_z ?_;refine⟨(),trivial,?_⟩;show SEnt _ (pc1 q c (n,s));rw[pc1.eq_1];exact s_x [(3,5)] (fun hs=>au_f) (fun hs=>e_8)
  rintro _ _;refine aP_ (fun _:Unit=>pcS q c n o) (fun _=>c≠0) ?_ ?_;cases o with
  |none=>
   show AWp _ _ _ _ (pc0 q c n);rw[pc0.eq_1];refine r_c 3 (br_ c) ?_;refine a_z ?_;refine aj_ rfl (fun h4=>?_) (fun h4=>?_);have h5:c=0:=sgZ_num_eq.1 (by simpa using h4);refine ao_ ⟨none,by rw[if_pos h5],?_⟩;show SEnt _ (pb0 q n);rw[pb0.eq_1];exact s_e [];have h5:c≠0:=fun e=>by have h6:=sgZ_num_eq.2 e;simp[h6] at h4
   refine ah_ ⟨(),h5,?_⟩;show SEnt _ (pc0 q c n);rw[pc0.eq_1];exact s_e []
  |some s=>
   show AWp _ _ _ _ (pc1 q c (n,s));rw[pc1.eq_1];refine r_c 3 (br_ c) ?_;refine a_z ?_;refine aj_ rfl (fun h4=>?_) (fun h4=>?_);have h5:c=0:=sgZ_num_eq.1 (by simpa using h4);refine ao_ ⟨some s,by rw[if_pos h5],?_⟩;show SEnt _ (pb1 q (n,s));rw[pb1.eq_1];exact s_e [];have h5:c≠0:=fun e=>by have h6:=sgZ_num_eq.2 e;simp[h6] at h4
   refine ah_ ⟨(),h5,?_⟩;show SEnt _ (pc1 q c (n,s));rw[pc1.eq_1];exact s_e []
  rintro _ hc0;rw[if_neg hc0];have hsg:(sgZ c.num< 0)↔c< 0:=sgZ_neg c;refine aP_ (pcS q c n) (fun o'=>o'=sgnTx o c) ?_ ?_;refine ae_ ?_;cases o with
  |none=>
   show AWp _ _ _ _ (pc0 q c n);rw[pc0.eq_1];refine s_r 8 ?_;refine o_0 (.callR (s:=none) (j:=0) (tb:=0) rfl rfl rfl rfl rfl (fun _ h=>by cases h) (kU_)) ?_;refine a_2 ?_
   first|refine y_g rfl d_t (.load_l rfl rfl rfl TG.h TS.h (nle rfl)) ?_|refine y_g rfl d_t (.load_a rfl rfl TG.h TS.h (nle rfl)) ?_
   refine y_g rfl d_t (.call rfl rfl rfl (br_ c)) ?_;refine y_g rfl d_t (.bin rfl rfl a6_) ?_;refine o_0 (.pickT rfl d_t rfl) ?_;refine a_z ?_;refine aj_ rfl (fun h4=>?_) (fun h4=>?_);have h5:c< 0:=hsg.1 (by simpa using h4);refine r_m 1 ?_;refine o_2 (.callB (s:=none) (j:=0) rfl rfl rfl rfl rfl rfl (fun _ h=>by cases h) (ex_ [45] (by simp) (by simp))) ?_;refine al_ ?_;refine⟨some [45],by simp only[sgnTx];rw[if_pos h5],?_⟩;show SEnt _ (pc1 q c (n,[45]));rw[pc1.eq_1];exact s_z [(2,100012)] (fun hs=>au_f) (fun hs=>e_8);have h5:¬c< 0:=fun e=>by have h6:=hsg.2 e;simp[h6] at h4
   refine s_r 8 ?_;refine o_0 (.callR (s:=none) (j:=0) (tb:=0) rfl rfl rfl rfl rfl (fun _ h=>by cases h) (kU_)) ?_;refine a_2 ?_;refine n_g rfl d_f ?_;refine n_g rfl d_f ?_;refine n_g rfl d_f ?_;refine o_0 (.pickF rfl d_f rfl) ?_;refine a_z ?_;refine cF (s_r 3 ?_);refine o_0 (.callR (s:=none) (j:=0) (tb:=0) rfl rfl rfl rfl rfl (fun _ h=>by cases h) (kU_)) ?_;refine a_z ?_;refine aj_ rfl (fun h7=>?_) (fun h7=>?_);exact absurd h7 (by simp);refine ah_ ⟨none,by simp only[sgnTx];rw[if_neg h5],?_⟩;show SEnt _ (pc0 q c n);rw[pc0.eq_1];exact s_e []
  |some s=>
   have hsn:=(ho s rfl).1;have hsl:=(ho s rfl).2;have hs0:s.length≠0:=by simpa using hsn
   show AWp _ _ _ _ (pc1 q c (n,s));rw[pc1.eq_1];refine s_r 8 ?_;refine o_0 (.callR (s:=some _) rfl rfl rfl rfl rfl (fun _ h=>by cases h;exact rfl) (kT_ s)) ?_;refine a_2 ?_;refine n_g rfl (by simp;omega) ?_;refine n_g rfl (by simp;omega) ?_;refine n_g rfl (by simp;omega) ?_;refine o_0 (.pickF rfl (by simp;omega) rfl) ?_;refine a_z ?_;refine aj_ rfl (fun h4=>?_) (fun h4=>?_)
   ·first|(simp at h4;done)|(simp at h4;omega)|(simp at h4;exact absurd h4 hsn)
   refine s_r 8 ?_;refine o_0 (.callR (s:=some _) rfl rfl rfl rfl rfl (fun _ h=>by cases h;exact rfl) (kT_ s)) ?_;refine a_2 ?_
   first|refine y_g rfl (by simp;omega) (.load_l rfl rfl rfl TG.h TS.h (nle rfl)) ?_|refine y_g rfl (by simp;omega) (.load_a rfl rfl TG.h TS.h (nle rfl)) ?_
   refine y_g rfl (by simp;omega) (.call rfl rfl rfl (br_ c)) ?_;refine y_g rfl (by simp;omega) (.bin rfl rfl a6_) ?_;refine o_0 (.pickT rfl (by simp;omega) rfl) ?_;refine a_z ?_;refine aj_ rfl (fun h6=>?_) (fun h6=>?_);have h5:c< 0:=hsg.1 (by simpa using h6);refine r_m 1 ?_;refine o_3 (.callB (s:=some _) rfl rfl rfl rfl rfl rfl (fun _ h=>by cases h;exact⟨rfl,by decide⟩) (dC_ s [32,45,32] (by simp;omega))) ?_;refine al_ ?_;refine⟨some (s++[32,45,32]),by simp only[sgnTx];rw[if_pos h5],?_⟩;show SEnt _ (pc1 q c (n,s++[32,45,32]));rw[pc1.eq_1];exact s_z [(2,100020)] (fun hs=>au_f) (fun hs=>e_8);have h5:¬c< 0:=fun e=>by have h7:=hsg.2 e;simp[h7] at h6
   refine s_r 3 ?_;refine o_0 (.callR (s:=some _) rfl rfl rfl rfl rfl (fun _ h=>by cases h;exact rfl) (kT_ s)) ?_;refine a_z ?_;refine aj_ rfl (fun h7=>?_) (fun h7=>?_);refine r_m 1 ?_;refine o_3 (.callB (s:=some _) rfl rfl rfl rfl rfl rfl (fun _ h=>by cases h;exact⟨rfl,by decide⟩) (dC_ s [32,43,32] (by simp;omega))) ?_;refine al_ ?_;refine⟨some (s++[32,43,32]),by simp only[sgnTx];rw[if_neg h5],?_⟩;show SEnt _ (pc1 q c (n,s++[32,43,32]));rw[pc1.eq_1];exact s_z [(2,100023)] (fun hs=>au_f) (fun hs=>e_8)
   ·first|(simp at h7;done)|(simp at h7;omega)|(simp at h7;exact absurd h7 hsn)
  rintro o1 rfl;have ho1:=on_ ho c;obtain⟨o1,ho1e⟩:∃o1,o1=sgnTx o c:=⟨_,rfl⟩;rw[←ho1e] at ho1⊢;refine aP_ (fun _:Unit=>pdS q t n o1) (fun _=>True) ?_ ?_;cases o1 with
  |none=>
   show AWp _ _ _ _ (pc0 q c n);rw[pc0.eq_1];refine r_m 4 ?_;refine c_s (j1_ c) ?_;refine c_s (fT) ?_;refine a_z ?_;refine⟨(),trivial,?_⟩;show SEnt _ (pd0 q t n);rw[pd0.eq_1];exact s_e []
  |some s=>
   show AWp _ _ _ _ (pc1 q c (n,s));rw[pc1.eq_1];refine r_m 4 ?_;refine c_s (j1_ c) ?_;refine c_s (fT) ?_;refine a_z ?_;refine⟨(),trivial,?_⟩;show SEnt _ (pd1 q t (n,s));rw[pd1.eq_1];exact s_e []
  rintro _ _;refine aP_ (fun _:Unit=>pdS q t n o1) (fun _=>n≠0) ?_ ?_;cases o1 with
  |none=>
   show AWp _ _ _ _ (pd0 q t n);rw[pd0.eq_1];refine r_z 2 ?_;refine aj_ rfl (fun h4=>?_) (fun h4=>?_);have h5:n=0:=by simpa using h4
   subst h5;refine s_r 2 ?_;refine a_1 ?_;refine o_2 (.callB (s:=none) (j:=0) rfl rfl rfl rfl rfl rfl (fun _ h=>by cases h) (ex_ t htn (by omega))) ?_;refine al_ ?_;refine ao_ ⟨some t,by unfold io_;rw[if_pos rfl,←ho1e,←ht];rfl,?_⟩;show SEnt _ (pb1 q (((0:Nat):Int),t));rw[pb1.eq_1];exact s_z [(2,100007)] (fun hs=>au_f) (fun hs=>au_h);have h5:n≠0:=fun e=>by simp[e] at h4
   refine ah_ ⟨(),h5,?_⟩;show SEnt _ (pd0 q t n);rw[pd0.eq_1];exact s_e []
  |some s=>
   have hsl:=(ho1 s rfl).2;show AWp _ _ _ _ (pd1 q t (n,s));rw[pd1.eq_1];refine r_z 2 ?_;refine aj_ rfl (fun h4=>?_) (fun h4=>?_);have h5:n=0:=by simpa using h4
   subst h5;refine s_r 2 ?_;refine a_1 ?_;refine o_3 (.callB (s:=some _) rfl rfl rfl rfl rfl rfl (fun _ h=>by cases h;exact⟨rfl,by decide⟩) (dC_ s t (by omega))) ?_;refine al_ ?_;refine ao_ ⟨some (s++t),by unfold io_;rw[if_pos rfl,←ho1e,←ht];rfl,?_⟩;show SEnt _ (pb1 q (((0:Nat):Int),s++t));rw[pb1.eq_1];exact s_z [(2,100007)] (fun hs=>au_f) (fun hs=>au_h);have h5:n≠0:=fun e=>by simp[e] at h4
   refine ah_ ⟨(),h5,?_⟩;show SEnt _ (pd1 q t (n,s));rw[pd1.eq_1];exact s_e []
  rintro _ hn0;refine aP_ (pbS q n) (fun o'=>o'=fK_ o1 t) ?_ ?_;cases o1 with
  |none=>
   show AWp _ _ _ _ (pd0 q t n);rw[pd0.eq_1];refine s_r 2 ?_;refine a_1 ?_;refine o_0 (.bin rfl rfl (pb_ (m:=[49]))) ?_;refine al_ ?_;refine aj_ rfl (fun h4=>?_) (fun h4=>?_);have h5:¬t=[49]:=by simpa using h4
   refine r_m 3 ?_;refine a_1 ?_;refine o_0 (.bin rfl rfl (cQ_ (m:=[32]) (by simp;omega))) ?_;refine o_2 (.callB (s:=none) (j:=0) rfl rfl rfl rfl rfl rfl (fun _ h=>by cases h) (ex_ (t++[32]) (by simp) (by simp;omega))) ?_;refine al_ ?_;refine⟨some (t++[32]),by unfold fK_;rw[if_neg h5];rfl,?_⟩;show SEnt _ (pb1 q (n,t++[32]));rw[pb1.eq_1];exact s_z [(2,100008)] (fun hs=>au_f) (fun hs=>au_h);have h5:t=[49]:=by simpa using h4
   refine ah_ ⟨none,by unfold fK_;rw[if_pos h5],?_⟩;show SEnt _ (pb0 q n);rw[pb0.eq_1];exact s_e []
  |some s=>
   have hsl:=(ho1 s rfl).2;show AWp _ _ _ _ (pd1 q t (n,s));rw[pd1.eq_1];refine s_r 2 ?_;refine a_1 ?_;refine o_0 (.bin rfl rfl (pb_ (m:=[49]))) ?_;refine al_ ?_;refine aj_ rfl (fun h4=>?_) (fun h4=>?_);have h5:¬t=[49]:=by simpa using h4
   refine r_m 3 ?_;refine a_1 ?_;refine o_0 (.bin rfl rfl (cQ_ (m:=[32]) (by simp;omega))) ?_;refine o_3 (.callB (s:=some _) rfl rfl rfl rfl rfl rfl (fun _ h=>by cases h;exact⟨rfl,by decide⟩) (dC_ s (t++[32]) (by simp;omega))) ?_;refine al_ ?_;refine⟨some (s++(t++[32])),by unfold fK_;rw[if_neg h5];rfl,?_⟩;show SEnt _ (pb1 q (n,s++(t++[32])));rw[pb1.eq_1];exact s_z [(2,100008)] (fun hs=>au_f) (fun hs=>au_h);have h5:t=[49]:=by simpa using h4
   refine ah_ ⟨some s,by unfold fK_;rw[if_pos h5],?_⟩;show SEnt _ (pb1 q (n,s));rw[pb1.eq_1];exact s_e []
  rintro o2 ho2e
  have ho2:okOx o2 (B+L+4):=by
   rw[ho2e];unfold fK_;split;exact dH_ ho1 (by omega);exact dH_ (jR_ ho1 (t:=t++[32]) (by simp)) (by simp;omega)
  refine aP_ (fun s=>pb1 q (n,s)) (fun s=>wrO o2 [120]=some s) ?_ ?_;cases o2 with
  |none=>
   show AWp _ _ _ _ (pb0 q n);rw[pb0.eq_1];refine r_m 1 ?_;refine o_2 (.callB (s:=none) (j:=0) rfl rfl rfl rfl rfl rfl (fun _ h=>by cases h) (ex_ [120] (by simp) (by simp))) ?_;refine al_ ?_;refine⟨[120],rfl,?_⟩;simp only[pb1.eq_1];exact s_z [(2,100004)] (fun hs=>au_f) (fun hs=>au_h)
  |some s=>
   have hsl:=(ho2 s rfl).2;show AWp _ _ _ _ (pb1 q (n,s));rw[pb1.eq_1];refine r_m 1 ?_;refine o_3 (.callB (s:=some _) rfl rfl rfl rfl rfl rfl (fun _ h=>by cases h;exact⟨rfl,by decide⟩) (dC_ s [120] (by simp;omega))) ?_;refine al_ ?_;refine⟨s++[120],rfl,?_⟩;simp only[pb1.eq_1];exact s_z [(2,100004)] (fun hs=>au_f) (fun hs=>au_h)
  rintro s hs3;have ho3:=jR_ ho2 (t:=[120]) (by simp) s hs3;have hsl:s.length≤B+L+5:=ho3.2;simp only[pb1.eq_1];refine r_z 2 ?_;refine aj_ rfl (fun h4=>?_) (fun h4=>?_);have h5:1< n:=by simp at h4;omega
  refine r_m 4 ?_;refine c_s (fI) ?_;refine o_0 (.bin rfl rfl (cQ_ (l:=[94]) (by simp;omega))) ?_;refine o_3 (.callB (s:=some _) rfl rfl rfl rfl rfl rfl (fun _ h=>by cases h;exact⟨rfl,by decide⟩) (dC_ s ([94]++ti n) (by simp;omega))) ?_;refine al_ ?_;refine⟨some (s++([94]++ti n)),by unfold io_;rw[if_neg hn0,if_pos h5,←ho1e,←ht,←ho2e,hs3];rfl,?_⟩;show SEnt _ (pb1 q (n,s++([94]++ti n)));rw[pb1.eq_1];exact s_z [(2,100009)] (fun hs=>au_f) (fun hs=>au_h);have h5:¬1< n:=by simp at h4;omega
  refine ah_ ⟨some s,by unfold io_;rw[if_neg hn0,if_neg h5,←ho1e,←ht,←ho2e,hs3],?_⟩;show SEnt _ (pb1 q (n,s));rw[pb1.eq_1];exact s_e [];rintro o' ho'
  have hok':okOx o' (B+(L+30)):=by
   rw[ho'];split;exact dH_ ho (by omega);have g1:=on_ ho c;unfold io_;rw[←ht]
   have g2:okOx (fK_ (sgnTx o c) t) (B+L+4):=by
    unfold fK_;split;exact dH_ g1 (by omega);exact dH_ (jR_ g1 (t:=t++[32]) (by simp)) (by simp;omega)
   have g3:=jR_ g2 (t:=[120]) (by simp);split;exact dH_ (jR_ g1 htn) (by omega);split;exact dH_ (jR_ g3 (t:=[94]++ti n) (by simp)) (by simp;omega);exact dH_ g3 (by simp;omega)
  rw[←ho'] at hr;cases o' with
  |none=>
   show AWp _ _ _ _ (pb0 q n);rw[pb0.eq_1];refine r_m 3 ?_;refine a_z ?_;refine⟨(n,none),Nat.lt_succ_self n,⟨by simp only;omega,hr,ku_ _⟩,?_⟩;show SEnt _ (pb0 q ((n:Int)- 1));rw[pb0.eq_1];exact s_e []
  |some s=>
   show AWp _ _ _ _ (pb1 q (n,s));rw[pb1.eq_1];refine r_m 3 ?_;refine a_z ?_;refine⟨(n,some s),Nat.lt_succ_self n,⟨by simp only;omega,hr,by simp only;rw[hm];exact hok'⟩,?_⟩;show SEnt _ (pb1 q ((n:Int)- 1,s));rw[pb1.eq_1];exact s_e []
 rintro o ⟨rfl,ho⟩;cases ho2:textR tq ti q q.length none with
 |none=>
  show AWp _ _ _ _ (pb0 q (-1));rw[pb0.eq_1];refine ab_ (s_r 2 ?_);refine o_0 (.callR (s:=none) (j:=0) (tb:=0) rfl rfl rfl rfl rfl (fun _ h=>by cases h) (kU_)) ?_;refine a_z ?_;refine aj_ rfl (fun h4=>?_) (fun h4=>?_);refine r_z 1 ?_;exact af_ (t_e (ad_ _));exact absurd h4 (by simp)
 |some s=>
  have hs:=ho s ho2;have hsl:s.length≠0:=by have:=hs.1;simpa using this
  have hne:=hs.1;show AWp _ _ _ _ (pb1 q (-1,s));rw[pb1.eq_1];refine ab_ (s_r 2 ?_);refine o_0 (.callR (s:=some _) rfl rfl rfl rfl rfl (fun _ h=>by cases h;exact rfl) (kT_ s)) ?_;refine a_z ?_;refine aj_ rfl (fun h4=>?_) (fun h4=>?_);exact absurd h4 (by simp;omega);refine ah_ (s_r 2 ?_);refine o_2 (.callD rfl rfl rfl rfl rfl rfl (by decide) (by first|assumption|simp) (je_)) ?_;refine a_z ?_;exact af_ (t_e (ad_ _))
theorem kR_(p:List Rat)(h:okPT p):FS 37 [.arr (pE p)] (tx (textP p)):=by
 obtain⟨h1,h2,h3⟩:=h;exact sc_ textQ dec2 6 p h1 (by decide) (fun c hc=>⟨kQ_ (absQ c) (okT_abs (h3 c hc)),textQ_ne _,textQ_len.1⟩) (fun n hn=>⟨ni_ n (by omega),Nat.le_trans (fC_ n) (by decide)⟩)
abbrev bP(p:List Rat):AV:= .aptr [[.arr (pE p)]] 0 0
abbrev bQ(q:Rat):AV:= .aptr [qC q] 0 0
theorem bu_(p:List Rat):Closed (bP p):=aL_ (aa_ (ar_ p) ac_)
theorem bj_(q:Rat):Closed (bQ q):=aL_ (aR_ q)
theorem fs_Add1(p q:List Rat)(i:Nat)(hp:smL p)(hq:smL q):FS 87 [i64 i,bP p,bP q] (.agg (qC (coP p i+coP q i))):=by
 refine f_c Tryz.func87 ?_;refine r_z 1 ?_;refine ab_ (r_d hmix 8 ?_);refine c_s (fs_at p i) ?_;refine c_s (fs_at q i) ?_;refine c_s (dy_ (coP p i) (coP q i) (sm2 (ka_ hp i) (ka_ hq i))) ?_;refine a_1 ?_;refine al_ (n_k ?_);exact af_ (c_e (aC_ _))
theorem i6_(p q:List Rat)(hp:smL p)(hq:smL q)(hp1:p.length≤1099511627776)(hq1:q.length≤1099511627776):FS 29 [.arr (pE p),.arr (pE q)] (.arr (pE (addP p q))):=by
 refine f_c Tryz.func29 ?_;refine r_z 3 ?_;refine AWp.ent (st':=⟨[(2,bP p),(3,bP q)],[],1,12⟩) ?_ ?_;exact s_e []
 have hm:(if ((q.length:Nat):Int)>(p.length:Nat) then((q.length:Nat):Int) else(p.length:Nat))=((max p.length q.length:Nat):Int):=by
  rw[Nat.max_def];split <;> split <;> omega
 have he:=kM_ (max p.length q.length) (fun i=>coP p i+coP q i) 87 [bP p,bP q] (Nat.max_le.2 ⟨hp1,hq1⟩) (aa_ (bu_ p) (aa_ (bu_ q) ac_)) (fun i _=>fs_Add1 p q i hp hq);rw[←hm] at he;refine r_c 8 (he) ?_;refine a_z ?_;exact af_ (t_e (ar_ _))
theorem r9_(p:List Rat)(k:Rat)(i:Nat)(hp:smL p)(hk:sm k)(hi:i< p.length):FS 90 [i64 i,bP p,bQ k] (.agg (qC (coP p i* k))):=by
 have hg:(pE p)[((i:Nat):Int).toNat]?=some (qC (coP p i)):=cS_ (bw_ hi);refine f_c Tryz.func90 ?_;refine r_z 1 ?_;refine ab_ (r_d hmix 7 ?_);refine a_2 ?_;refine i_x hg ?_;refine l_x hg ?_;refine c_s (bK_ (coP p i) k (sm2 (ka_ hp i) hk)) ?_;refine a_1 ?_;refine al_ (n_k ?_);exact af_ (c_e (aC_ _))
theorem ee_(p:List Rat)(k:Rat)(hp:smL p)(hk:sm k)(hp1:p.length≤1099511627776):FS 30 [.arr (pE p),.agg (qC k)] (.arr (pE (aN_ p k))):=by
 have he:=kM_ p.length (fun i=>coP p i* k) 90 [bP p,bQ k] hp1 (aa_ (bu_ p) (aa_ (bj_ k) ac_)) (fun i hi=>r9_ p k i hp hk hi);refine f_c Tryz.func30 ?_;refine r_z 3 ?_;refine AWp.ent (st':=⟨[(2,bP p),(3,bQ k)],[],1,9⟩) ?_ ?_;exact s_e [];refine r_c 5 (he) ?_;refine a_z ?_;exact af_ (t_e (ar_ _))
theorem dJ_(a b:Rat)(hb:b≠0)(h:qs a+qs b≤549755813888):FS 171 [.agg (qC a),.agg (qC b)] (.agg (qC (a/ b))):=by
 refine f_c Tryz.func171 ?_;refine r_z 3 ?_;refine r_c 9 (r3_ a b hb h) ?_;refine a_z ?_;refine r_z 2 ?_;exact af_ (c_e (aC_ _))
theorem i0_(a:Rat):FS 211 [.agg (qC a)] (.arr (pE (bo_ a))):=by
 refine f_c Tryz.func211 ?_;refine r_z 2 ?_;refine s_r 4 ?_;refine a_2 ?_;refine o_1 (.callS1 rfl rfl rfl (.shut rfl d_n (.nil)) rfl ((ce_ [a] (by simp)))) ?_;refine a_z ?_;exact af_ (t_e (ar_ _))
theorem fs_line(a:Rat):FS 169 [.agg (qC a)] (.arr (pE [a,1])):=by
 refine f_c Tryz.func169 ?_;refine r_z 2 ?_;refine ab_ (r_d hmix 4 ?_);refine c_s (c2_ 1 (by decide)) ?_;refine a_2 ?_;refine al_ (n_k ?_);exact af_ (Fin.tmpS rfl rfl rfl rfl (aI_ [a,1]))
end Go.Proofs.YtjkddcfoolilbaaGreatDoor
