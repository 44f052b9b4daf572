/- Part V21 of the proof. -/
import Derived.Test.YtdgbhlkabelmbaaGreatDoorV20
import Derived.Shelf.Strconv.Itoa3
import Derived.Shelf.Strings.Repeat
set_option linter.all false
namespace Go.Proofs.YtdgbhlkabelmbaaGreatDoor
open Go.Abs
set_option maxRecDepth 20000
theorem Af(a:Rat)(k:Int)(h:sm a):FS 144 [.agg (qC a),i64 k] (.agg (spC (jN a (wi k 256)) (upQ a (wi k 256)))):=by
 refine f_c Tryz.func144 ?_;refine r_z 2 ?_;refine ae (r_d a6 8 ?_);refine c_s (D1 a k h) ?_;refine c_s (fs_Up a k h) ?_;refine a_2 ?_;refine ao (n_k ?_);exact ai (c_e (bG _ _))
theorem Ah(a:Rat):FS 194 [.agg (qC a)] (.agg (spC a a)):=by
 refine f_c Tryz.func194 ?_;refine r_z 2 ?_;refine r_z 4 ?_;exact ai (c_e (bG _ _))
theorem mZ(a b:Rat)(ha:sm a)(hb:sm b):FS 82 [.agg (spC a b)] (bln (decide (fy a b≤0))):=by
 refine f_c Tryz.func82 ?_;refine r_z 2 ?_;refine r_c 7 (qP a b ha hb) ?_;refine a_z ?_;exact ai (t_e (ag _))
theorem fs_SAdd(a b c d:Rat)(ha:sm a)(hb:sm b)(hc:sm c)(hd:sm d):FS 237 [.agg (spC a b),.agg (spC c d)] (.agg (spC (a+c) (b+d))):=by
 refine f_c Tryz.func237 ?_;refine r_z 3 ?_;refine ae (r_d a6 12 ?_);refine c_s (fh a c (sm2 ha hc)) ?_;refine c_s (fh b d (sm2 hb hd)) ?_;refine a_2 ?_;refine ao (n_k ?_);exact ai (c_e (bG _ _))
theorem Cr(a b:Rat)(ha:sm a)(hb:sm b):FS 232 [.agg (spC a b)] (.agg (qC ((a+b) * gf 1))):=by
 have h1:qs (a+b)≤274877906945:=by have:=kg a b;unfold sm at ha hb;omega
 have c:qs (gf 1)≤2:=by decide
 refine f_c Tryz.func232 ?_;refine r_z 2 ?_;refine r_c 8 (fh a b (sm2 ha hb)) ?_;refine c_s (pN 1) ?_;refine c_s (cJ (a+b) (gf 1) (by omega)) ?_;refine a_z ?_;exact ai (c_e (aT _))
theorem wr(a b:Rat)(ha:sm a)(hb:sm b):FS 61 [.agg (spC a b)] (.agg (qC (b- a))):=by
 refine f_c Tryz.func61 ?_;refine r_z 2 ?_;refine r_c 6 (jL b a (sm2 hb ha)) ?_;refine a_z ?_;exact ai (c_e (aT _))
theorem fs_Min1(c:Int):FS 224 [i64 c] (bln (decide (c< 0))):=by
 refine f_c Tryz.func224 ?_;refine r_z 1 ?_;refine r_z 3 ?_;exact ai (t_e (ag _))
theorem fs_Max1(c:Int):FS 196 [i64 c] (bln (decide (0< c))):=by
 refine f_c Tryz.func196 ?_;refine r_z 1 ?_;refine r_z 3 ?_;exact ai (t_e (ag _))
def yx(g:Nat)(l:List Rat):Nat×List AV→AState
 |(i,o)=>⟨[(0,.clos g [] []),(4,.lptr 1 0 0),(5,.lptr 2 0 0),(8,.arr (pE l)),(9,i64 l.length),(10,i64 i)],[(1,some ⟨36,3,[zC]⟩),(2,some ⟨36,3,[o]⟩)],3,27⟩
theorem wn(g:Nat)(bf:Int→Bool)(hg:∀c,FS g [i64 c] (bln (bf c)))(l:List Rat)(hl:smL l)(hln:l.length≤1099511627776):FS 195 [.clos g [] [],.arr (pE l)] (.agg (qC (ea bf l))):=by
 refine f_n Tryz.func195 ?_ ?_;exact ac (aP af af) (ac (ax l) af);refine r_z 1 ?_;refine r_z 1 ?_;refine ae (r_z 3 ?_);refine aG (fun _:Unit=>⟨[(4,.lptr 1 0 0),(5,.lptr 2 0 0)],[(1,some ⟨36,3,[zC]⟩),(2,some ⟨36,3,[qC (ea bf l)]⟩)],3,27⟩) (fun _=>True) ?_ ?_;refine aj (aB (fun x:Nat×List AV=>yx g l x) (fun x=>l.length- x.1) (fun x=>x.1≤l.length∧((x.1=0→x.2=zC)∧(x.1≠0→x.2=qC (ea bf (l.take x.1))))) (0,zC) ⟨Nat.zero_le _,fun _=>rfl,fun h=>absurd rfl h⟩ ?_ ?_);simp only[yx.eq_1];exact s_e [(1,4),(2,5)];rintro⟨i,o⟩ ⟨u,b,j⟩;simp only at u b j;simp only[yx.eq_1];refine r_z 1 ?_;refine ae (ap rfl (fun h=>?_) (fun h=>?_));refine ak ?_;have m:i< l.length:=by simpa using h
 obtain⟨q,d⟩:∃q,l[i]?=some q:=⟨_,List.getElem?_eq_getElem m⟩;have e:(pE l)[((i:Nat):Int).toNat]?=some (qC q):=pE_get d;have k:sm q:=hl q (List.mem_of_getElem? d);have r:sm (ea bf (l.take i)):=oC fun q d=>hl q (List.mem_of_mem_take d);have a:=yy bf (l.take i) q;rw[←cx d] at a;refine ae (aj (s_r 6 ?_));refine a_1 ?_;refine i_x e ?_;refine l_x e ?_;refine a_z ?_;refine AWp.cutB (fun _:Unit=>yx g l (i,qC (ea bf (l.take (i+1))))) (fun _=>True) ?_ ?_;by_cases h0:i=0;subst h0;have:=b rfl;subst this;rw[if_pos (.inl (by simp))] at a;refine s_r 9 ?_;refine a_3 ?_;refine n_g rfl d_t ?_;refine n_g rfl d_t ?_;refine n_g rfl d_t ?_;refine n_g rfl d_t ?_;refine n_g rfl d_t ?_;refine o_0 (.pickT rfl d_t rfl) ?_;refine ao ?_;refine ap rfl (fun h=>?_) (fun h=>?_);refine r_m 2 ?_;refine a_z ?_;refine⟨(),trivial,?_⟩;simp only[yx.eq_1];rw[a];exact s_e [];cases h;have n:o=qC (ea bf (l.take i)):=j h0;subst n
 have p:l.take i≠[]:=fun h=>by
  have:=congrArg List.length h;rw[List.length_take,List.length_nil] at this;omega
 refine s_r 9 ?_;refine a_3 ?_;refine y_g rfl (by simp;omega) (.move rfl) ?_
 first|refine y_g rfl (by simp;omega) (.load_l rfl rfl rfl TG.h TS.h (nle rfl)) ?_|refine y_g rfl (by simp;omega) (.load_a rfl rfl TG.h TS.h (nle rfl)) ?_
 first|refine y_g rfl (by simp;omega) (.load_l rfl rfl rfl TG.h TS.h (nle rfl)) ?_|refine y_g rfl (by simp;omega) (.load_a rfl rfl TG.h TS.h (nle rfl)) ?_
 refine y_g rfl (by simp;omega) (.call rfl rfl rfl (qP q (ea bf (l.take i)) k r)) ?_;refine y_g rfl (by simp;omega) (.call rfl rfl rfl (hg (fy q (ea bf (l.take i))))) ?_;refine o_0 (.pickF rfl (by simp;omega) rfl) ?_;refine ao ?_;refine ap rfl (fun h1=>?_) (fun h1=>?_);refine r_m 2 ?_;refine a_z ?_;refine⟨(),trivial,?_⟩;simp only[yx.eq_1];rw[a,if_pos (.inr h1)];exact s_e [];refine ak ⟨(),trivial,?_⟩;simp only[yx.eq_1];rw[a,if_neg (fun t=>t.elim p fun s=>by rw[h1] at s;cases s)];exact s_e [];rintro _ _;rw[yx.eq_1];refine r_m 2 ?_;refine a_z ?_;refine⟨(i+1,qC (ea bf (l.take (i+1)))),by simp only;omega,⟨by simp only;omega,fun h=>absurd h (by simp),fun _=>rfl⟩,?_⟩;simp only[yx.eq_1];exact s_e [];have f:i=l.length:=by simp at h;omega
 refine ay ⟨(),trivial,?_⟩;subst f;by_cases h0:l.length=0;have:=b h0;subst this
 have:ea bf l=0:=by
  rw[List.length_eq_zero_iff] at h0;rw[h0];rfl
 rw[this,qC0];exact s_e [];have:=j h0;subst this;rw[List.take_length];exact s_e [];rintro _ _;refine r_z 2 ?_;exact ai (c_e (aT _))
theorem HM(l:List Rat)(hl:smL l)(hln:l.length≤1099511627776):FS 182 [.arr (pE l)] (.agg (qC (BS l))):=by
 refine f_c Tryz.func182 ?_;refine r_z 1 ?_;refine r_c 3 (wn 224 _ fs_Min1 l hl hln) ?_;refine a_z ?_;exact ai (c_e (aT _))
theorem xT(l:List Rat)(hl:smL l)(hln:l.length≤1099511627776):FS 152 [.arr (pE l)] (.agg (qC (nO l))):=by
 refine f_c Tryz.func152 ?_;refine r_z 1 ?_;refine r_c 3 (wn 196 _ fs_Max1 l hl hln) ?_;refine a_z ?_;exact ai (c_e (aT _))
theorem w7{a b:Rat}(ha:sm a)(hb:sm b):smL [a,b]:=by
 intro q c;simp at c;rcases c with rfl|rfl
 exact ha;exact hb
theorem Ac(a b c d:Rat)(ha:sm a)(hb:sm b)(hc:sm c)(hd:sm d):FS 145 [.agg (spC a b),.agg (spC c d)] (.agg (spC (BS [a,c]) (nO [b,d]))):=by
 refine f_c Tryz.func145 ?_;refine r_z 3 ?_;refine ae (r_d a6 14 ?_);refine a_5 ?_;refine o_1 (.callS1 rfl rfl rfl (.shut rfl d_n (.nil)) rfl (HM [a,c] (w7 ha hc) (by simp))) ?_;refine a_5 ?_;refine o_1 (.callS1 rfl rfl rfl (.shut rfl d_n (.nil)) rfl (xT [b,d] (w7 hb hd) (by simp))) ?_;refine a_2 ?_;refine ao (n_k ?_);exact ai (c_e (bG _ _))
theorem Ca(l:List Rat)(hl:smL l)(hln:l.length≤1099511627776):FS 264 [.arr (pE l)] (.agg (spC (BS l) (nO l))):=by
 refine f_c Tryz.func264 ?_;refine r_z 1 ?_;refine r_c 6 (HM l hl hln) ?_;refine c_s (xT l hl hln) ?_;refine a_z ?_;exact ai (c_e (bG _ _))
section
variable {P:Go.Program}{T:Nat}{x y:Operand}
theorem kW{l m:List UInt8}(h:l.length+m.length≤9223372036854775807):∀w,(do eqGuard .add T x y (.string ⟨l.toArray⟩) (.string ⟨m.toArray⟩);binOp .add T (.string ⟨l.toArray⟩) (.string ⟨m.toArray⟩):Sem Value).run P w= .ok (.string ⟨(l++m).toArray⟩) w:=fun w=>by
 have b:IntKind.i64.max=9223372036854775807:=by decide
 have e:(⟨l.toArray⟩:ByteArray)++⟨m.toArray⟩=⟨(l++m).toArray⟩:=by
  apply ByteArray.ext;simp
 have a:¬((((⟨l.toArray⟩:ByteArray).size+(⟨m.toArray⟩:ByteArray).size:Nat):Int)> IntKind.i64.max):=by
  rw[r8,r8,b];omega
 simp only[eqGuard,binOp,Op.stringOp,a,if_false,e,Sem.run_bind,Sem.run_pure,Result.andThen_ok];rfl
theorem mC{l m:List UInt8}:∀w,(do eqGuard .eql T x y (.string ⟨l.toArray⟩) (.string ⟨m.toArray⟩);binOp .eql T (.string ⟨l.toArray⟩) (.string ⟨m.toArray⟩):Sem Value).run P w= .ok (.bool (decide (l=m))) w:=fun w=>by
 rw[AM];congr 2
 have e:∀l:List UInt8,(⟨l.toArray⟩:ByteArray).toList=l:=by
  intro l;have:=ByteArray.toList_eq (bs:=⟨l.toArray⟩);simpa using this
 rw[e,e];rw[Bool.eq_iff_iff];simp
end
def lD(q:Rat):List UInt8:=((if q.num< 0 then [45] else [])++jg q.num.natAbs)++(if q.den=1 then [] else 47::jg q.den)
def okT(q:Rat):Prop:=q.num.natAbs< 100∧q.den< 100
instance (q:Rat):Decidable (okT q):=inferInstanceAs (Decidable (_∧_))
theorem okT_qs{q:Rat}(h:okT q):qs q≤1099511627776:=by
 obtain⟨h1,a⟩:=h;have e1:=hZ (n:=q.num.natAbs) (k:=7) (by omega);have e2:=hZ (n:=q.den) (k:=7) (by omega);unfold qs;omega
theorem textQ_len{q:Rat}:(lD q).length≤6∧1≤(lD q).length:=by
 have h1:=kQ q.num.natAbs;have b:=kQ q.den;have a:=List.length_pos_iff.2 (yu q.num.natAbs);unfold lD;split <;> split <;> simp <;> omega
def qtS(q:Rat):List UInt8→AState
 |l=>⟨[(1,.aptr [qC q] 0 0),(3,tx l)],[],2,24⟩
theorem ux(q:Rat)(h:okT q):FS 25 [.agg (qC q)] (tx (lD q)):=by
 have f:=kQ q.num.natAbs;have d:=kQ q.den;have c:1≤q.den:=q.den_pos;refine f_c Tryz.func25 ?_;refine r_z 2 ?_;refine AWp.ent (st':=⟨[(1,.aptr [qC q] 0 0)],[],2,24⟩) ?_ ?_;exact s_e [];refine r_c 5 (z6 q.num.natAbs h.1) ?_;refine a_z ?_;refine bi (qtS q) (fun l=>l=(if q.num< 0 then [45] else [])++jg q.num.natAbs) ?_ ?_;refine r_z 3 ?_;refine ap rfl (fun h1=>?_) (fun h1=>?_);have a:q.num< 0:=by simpa using h1
 refine r_m 3 ?_;refine a_1 ?_;refine o_0 (.bin rfl rfl (kW (l:=[45]) (by simp;omega))) ?_;refine a_z ?_;refine⟨_,by rw[if_pos a],?_⟩;rw[qtS.eq_1];exact s_x [] (fun hs=>e_13) (fun hs=>e_14);have a:¬q.num< 0:=by simpa using h1
 refine ak ⟨jg q.num.natAbs,by rw[if_neg a];rfl,?_⟩;rw[qtS.eq_1];exact s_x [] (fun hs=>e_13) (fun hs=>e_14);rintro l b;have g:l.length≤3:=by rw[b];split <;> simp <;> omega
 rw[qtS.eq_1];refine bi (qtS q) (fun l=>l=lD q) ?_ ?_;refine r_c 4 (mf (q.den- 1)) ?_;refine a_z ?_;refine ap rfl (fun h1=>?_) (fun h1=>?_)
 have a:¬q.den=1:=by
  intro e;rw[e] at h1;simp at h1
 refine r_m 7 ?_;refine c_s (eH q (okT_qs h)) ?_;refine c_s (z6 q.den h.2) ?_;refine o_0 (.bin rfl rfl (kW (l:=[47]) (by simp;omega))) ?_;refine o_0 (.bin rfl rfl (kW (by simp;omega))) ?_;refine a_z ?_;refine⟨_,by unfold lD;rw[if_neg a,←b],?_⟩;rw[qtS.eq_1];exact s_x [] (fun hs=>e_13) (fun hs=>e_14)
 have a:q.den=1:=by
  have i:q.den- 1=0:=by simpa using h1
  omega
 refine ak ⟨l,by unfold lD;rw[if_pos a,←b,List.append_nil],?_⟩;rw[qtS.eq_1];exact s_x [] (fun hs=>e_13) (fun hs=>e_14);rintro l rfl;rw[qtS.eq_1];refine r_z 2 ?_;exact ai (t_e (ag _))
end Go.Proofs.YtdgbhlkabelmbaaGreatDoor
namespace Go.Proofs.YtdgbhlkabelmbaaGreatDoor
open Go.Shelf


end Go.Proofs.YtdgbhlkabelmbaaGreatDoor
namespace Go.Proofs.YtdgbhlkabelmbaaGreatDoor
open Go.Abs Go.RowKit

end Go.Proofs.YtdgbhlkabelmbaaGreatDoor
namespace Go.Proofs.YtdgbhlkabelmbaaGreatDoor
open Go.Abs
set_option maxRecDepth 20000


def Bq:List Nat→AState
 |l=>⟨[(0,.arr (iE l))],[],1,15⟩
theorem ji(l:List Nat):Bq l=⟨[(0,.arr (iE l))],[],1,15⟩:=rfl
theorem iP(l:List Nat)(hl:l.length≤281474976710656):FS 177 [.arr (iE l)] (.arr (iE (fU l))):=by
 refine f_c Tryz.func177 ?_;refine r_z 1 ?_;refine bi Bq (fun m=>m=fU l) ?_ ?_;refine aj (aB Bq (fun m=>m.length) (fun m=>m.length≤281474976710656∧fU m=fU l) l ⟨hl,rfl⟩ ?_ ?_);simp only[ji];exact s_e [];rintro m ⟨e,a⟩;rw[ji];cases m with
 |nil=>
  refine ae (s_r 9 ?_);refine a_4 ?_;refine n_g rfl d_f ?_;refine n_g rfl d_f ?_;refine n_g rfl d_f ?_;refine n_g rfl d_f ?_;refine o_0 (.pickF rfl d_f rfl) ?_;refine ao ?_;refine cF ?_;refine ay ⟨[],by simpa[fU] using a,?_⟩;simp only[ji];exact s_e []
 |cons d m=>
  have c:(iE (d::m))[(0:Int).toNat]?=some [i64 d]:=rfl;refine ae (s_r 9 ?_);refine a_4 ?_;refine y_g rfl (by simp) (.move rfl) ?_
  first|refine y_g rfl (by simp) (.index_l rfl rfl (by omega) (by omega) te_70.h) ?_|refine y_g rfl (by simp) (.index_a rfl rfl (by omega) c rfl te_70.h) ?_
  first|refine y_g rfl (by simp) (.load_l1 rfl rfl c TG.h rfl) ?_|refine y_g rfl (by simp) (.load_a1 rfl c TG.h rfl) ?_
  refine y_g rfl (by simp) (.bin rfl rfl ci) ?_;refine o_0 (.pickT rfl (by simp) rfl) ?_;refine ao ?_;refine ap rfl (fun h=>?_) (fun h=>?_);have b:d=0:=by simpa using h
  refine ak ?_;subst b;refine aj (r_m 3 ?_);refine a_1 ?_;refine o_0 (.sa_l rfl rfl rfl (by simp) te_70.h (lj _)) ?_;refine a_z ?_;refine⟨m,by simp,⟨by simp at e;omega,by simpa[fU] using a⟩,?_⟩;simp only[ji];exact s_e [];have b:d≠0:=by simpa using h
  refine ay ⟨d::m,by rw[←a];simp[fU,b],?_⟩;simp only[ji];exact s_e []
 rintro m rfl;rw[ji];refine r_z 2 ?_;exact ai (t_e (eK _))
theorem j4(s:Int)(l:List Nat)(z:Int)(hl:l.length≤281474976710656)(hd:∀d∈l,d< UB)(hz:hv l=z.natAbs)(hs:z≠0→s=sgZ z):FS 142 [i64 s,.arr (iE l)] (.agg (zZ z)):=by
 refine f_c Tryz.func142 ?_;refine r_z 1 ?_;refine r_c 3 (iP l hl) ?_;refine a_z ?_;refine ae (r_z 3 ?_);refine ap rfl (fun h=>?_) (fun h=>?_)
 have b:fU l=[]:=by
  have:(fU l).length=0:=by simpa using h
  exact List.length_eq_zero_iff.1 this
 have a:z=0:=by have:=(tl hd).1 b;omega
 subst a;refine r_z 2 ?_;refine ai (Fin.cell rfl rfl rfl TG.h TS.h (nle rfl) ?_);rw[zZ_zero];exact Cv.agg (ah (am aD (ag _)) (ah (Cv.emp _) av));have b:fU l≠[]:=fun e=>by rw[e] at h;simp at h
 have a:z≠0:=by
  intro e;subst e;exact b ((tl hd).2 hz)
 refine ak (r_z 4 ?_);refine ai (dA rfl rfl rfl TG.h TS.h (nle rfl) ?_ ?_);show AV.agg [i64 s,.arr (iE (fU l))]=_;unfold zZ;rw[hs a,fH hd,hz];exact cM _
theorem zZ_neg(z:Int):zZ (-z)=[i64 (-sgZ z),.arr (iE (zd z.natAbs))]:=by
 unfold zZ;rw[Int.natAbs_neg];congr 2;unfold sgZ;split <;> split <;>(try split)<;>(try split)<;> omega
theorem c8(z:Int):sgZ z= -1∧z< 0∨sgZ z=0∧z=0∨sgZ z=1∧0< z:=by
 unfold sgZ;split;right;left;exact⟨rfl,by assumption⟩;split;left;exact⟨rfl,by assumption⟩;right;right;exact⟨rfl,by omega⟩
theorem xP(z:Int):FS 139 [.agg (zZ z)] (.agg (zZ (-z))):=by
 have hs:=c8 z;have hc:=cM (-z);rw[zZ_neg] at hc⊢;refine f_c Tryz.func139 ?_;refine r_z 2 ?_;refine r_z 7 ?_;exact ai (c_e (hc))
theorem uq(l:List Nat)(i:Nat)(hl:l.length≤281474976710656):FS 250 [.arr (iE l),i64 i] (i64 (l.reverse[i]?.getD 0:Nat)):=by
 refine f_c Tryz.func250 ?_;refine r_z 1 ?_;refine ae (r_z 4 ?_);refine ap rfl (fun h=>?_) (fun h=>?_);have b:l.length≤i:=by simpa using h
 refine r_z 1 ?_;refine ai (aW rfl ?_ (ag _));rw[List.getElem?_eq_none (by simpa using b)];rfl;have b:i< l.length:=by simp at h;omega
 refine ak ?_;obtain⟨d,c⟩:∃d,l[l.length- 1- i]?=some d:=⟨_,List.getElem?_eq_getElem (by omega)⟩;have a:(iE l)[((l.length:Int)- 1- i).toNat]?=some [i64 d]:=by rw[show((l.length:Int)- 1- i).toNat=l.length- 1- i by omega];exact ko c
 refine s_r 9 ?_;refine a_6 ?_;refine i_x a ?_;refine l_1 a ?_;refine a_z ?_;refine ai (aW rfl ?_ (ag _));rw[List.getElem?_reverse b,c];rfl
theorem Ci(a b:List Nat):FS 251 [.arr (iE a),.arr (iE b)] (i64 (max a.length b.length:Nat)):=by
 refine f_c Tryz.func251 ?_;refine r_z 1 ?_;refine ae (r_z 5 ?_);refine ap rfl (fun h=>?_) (fun h=>?_);refine r_z 3 ?_;refine ai (aW rfl ?_ (ag _));have:b.length< a.length:=by simpa using h
 simp[i64];omega;refine ak (r_z 3 ?_);refine ai (aW rfl ?_ (ag _));have:¬b.length< a.length:=by simpa using h
 simp[i64];omega
def C2(a:Nat)(b:Nat):Nat→AState
 |i=>⟨[(0,.arr (iE (zd a))),(1,.arr (iE (zd b))),(5,i64 i)],[],1,40⟩
theorem wR{n i d:Nat}(h:(aw UB n)[i]?=some d):(zd n)[(aw UB n).length- 1- i]?=some d:=by
 have a:i< (aw UB n).length:=(List.getElem?_eq_some_iff.1 h).1;unfold zd;rw[List.getElem?_reverse (by omega),show(aw UB n).length- 1- ((aw UB n).length- 1- i)=i by omega];exact h
theorem Ab(a b:Nat)(ha:(zd a).length≤281474976710656)(hb:(zd b).length≤281474976710656):FS 220 [.arr (iE (zd a)),.arr (iE (zd b))] (i64 (eu a b)):=by
 have s:=cI a;have q:=cI b;refine f_c Tryz.func220 ?_;refine r_z 1 ?_;refine ae (r_z 5 ?_);refine ap rfl (fun h=>?_) (fun h=>?_);have r:(zd a).length≠(zd b).length:=by simp at h;omega
 refine ae (r_z 5 ?_);refine ap rfl (fun h1=>?_) (fun h1=>?_);refine r_z 1 ?_;refine ai (aW rfl ?_ (ag _));have t:(zd a).length< (zd b).length:=by simpa using h1
 rw[ly];rfl;have:=jm (b:=UB) (by decide) (show(aw UB a).length< (aw UB b).length by omega);omega;refine ak (r_z 1 ?_);refine ai (aW rfl ?_ (ag _));have t:(zd b).length< (zd a).length:=by simp at h1;omega
 rw[ng];rfl;have:=jm (b:=UB) (by decide) (show(aw UB b).length< (aw UB a).length by omega);omega;have heq:(aw UB a).length=(aw UB b).length:=by simp at h;omega
 refine ak (ae (r_z 1 ?_));refine aG (C2 a b) (fun _=>a=b) ?_ ?_;refine aj (aB (C2 a b) (fun i=>(aw UB a).length- i) (fun i=>i≤(aw UB a).length∧(aw UB a).drop ((aw UB a).length- i)=(aw UB b).drop ((aw UB a).length- i)) 0 ⟨Nat.zero_le _,by rw[Nat.sub_zero,List.drop_length,heq,List.drop_length]⟩ ?_ ?_);simp only[C2.eq_1];exact s_e [];rintro i ⟨v,e⟩;rw[C2.eq_1];refine ae (r_z 4 ?_);refine ap rfl (fun h=>?_) (fun h=>?_);have p:i< (aw UB a).length:=by simp at h;omega
 obtain⟨k,u⟩:∃k,k=(aw UB a).length- 1- i:=⟨_,rfl⟩;have o:(aw UB a).length- i=k+1:=by omega
 rw[o] at e;obtain⟨x,l⟩:∃x,(aw UB a)[k]?=some x:=⟨_,List.getElem?_eq_getElem (by omega)⟩;obtain⟨y,j⟩:∃y,(aw UB b)[k]?=some y:=⟨_,List.getElem?_eq_getElem (by omega)⟩
 have f:(iE (zd a))[((i:Nat):Int).toNat]?=some [i64 x]:=by
  have:=wR l;rw[show(aw UB a).length- 1- k=i by omega] at this;exact ko this
 have g:(iE (zd b))[((i:Nat):Int).toNat]?=some [i64 y]:=by
  have:=wR j;rw[show(aw UB b).length- 1- k=i by omega] at this;exact ko this
 refine ak (ae (aj (ae (ae (r_d a6 9 ?_)))));refine a_2 ?_;refine i_x f ?_;refine l_1 f ?_;refine a_2 ?_;refine i_x g ?_;refine l_1 g ?_;refine a_1 ?_;refine ao (n_k ?_);refine ap rfl (fun h1=>?_) (fun h1=>?_);refine r_z 1 ?_;refine ai (aW rfl ?_ (ag _));have c:x< y:=by simpa using h1
 have:=mT (fun d e=>dI (by decide) a d e) l j e c;rw[bt (by decide),bt (by decide)] at this;rw[ly (by omega)];rfl;refine ak (ae (r_d a6 9 ?_));refine a_2 ?_;refine i_x f ?_;refine l_1 f ?_;refine a_2 ?_;refine i_x g ?_;refine l_1 g ?_;refine a_1 ?_;refine ao (n_k ?_);refine ap rfl (fun n=>?_) (fun n=>?_);refine r_z 1 ?_;refine ai (aW rfl ?_ (ag _));have c:y< x:=by simpa using n
 have:=mT (fun d e=>dI (by decide) b d e) j l e.symm c;rw[bt (by decide),bt (by decide)] at this;rw[ng (by omega)];rfl;have c:x=y:=by simp at h1 n;omega
 subst c;refine ak (r_m 3 ?_);refine a_z ?_;refine⟨i+1,by omega,⟨by omega,?_⟩,?_⟩;rw[show(aw UB a).length- (i+1)=k by omega,fN l,fN j,e];simp only[C2.eq_1];exact s_e [];have m:i=(aw UB a).length:=by simp at h;omega
 refine ay ⟨i,?_,?_⟩;subst m;rw[Nat.sub_self,List.drop_zero,List.drop_zero] at e;rw[←bt (b:=UB) (by decide) a,←bt (b:=UB) (by decide) b,e];simp only[C2.eq_1];exact s_e [];rintro i rfl;rw[C2.eq_1];refine r_z 1 ?_;refine ai (aW rfl ?_ (ag _));rw[En rfl];rfl
def bothS(a:Nat)(b:Nat)(k:Int)(N:Nat):List Nat×Int→AState
 |(s,c)=>⟨[(0,.arr (iE (zd a))),(1,.arr (iE (zd b))),(2,i64 k),(7,i64 N),(8,.lsl 1 0 N (some N) 1),(9,i64 c),(10,i64 s.length)],[(1,some ⟨3,1,iE (List.replicate (N- s.length) 0++s.reverse)⟩)],2,51⟩
def Ig(a:Nat)(b:Nat)(k:Int)(N:Nat)(s:List Nat):Int×Int→AState
 |(x,c)=>⟨[(0,.arr (iE (zd a))),(1,.arr (iE (zd b))),(2,i64 k),(7,i64 N),(8,.lsl 1 0 N (some N) 1),(9,i64 c),(10,i64 s.length),(11,i64 x)],[(1,some ⟨3,1,iE (List.replicate (N- s.length) 0++s.reverse)⟩)],2,51⟩
theorem pH(a b:Nat)(k:Int)(r:Nat)(hk:k=1∨k= -1)(hr:(r:Int)=a+k* b)(ha:(zd a).length≤17592186044416)(hb:(zd b).length≤17592186044416):FS 219 [.arr (iE (zd a)),.arr (iE (zd b)),i64 k] (.arr (iE (zd r))):=by
 have hza:=cI a;have hzb:=cI b;obtain⟨N,hN⟩:∃N,N=max (zd a).length (zd b).length+1:=⟨_,rfl⟩;refine f_c Tryz.func219 ?_;refine r_z 1 ?_;refine r_c 5 (Ci (zd a) (zd b)) ?_;refine a_z ?_;have G:((max (zd a).length (zd b).length:Nat):Int)+1=(N:Int):=by omega
 refine s_r 3 ?_;refine a_1 ?_;refine o_1 (.makeSlice (congrArg (fun z=>some (AV.v (.int .i64 z))) G) (congrArg (fun z=>some (AV.v (.int .i64 z))) G) te_70.h TZ.h rfl TB.h (by first|omega|(simp;done)|(simp;omega)) (by first|omega|(simp;done)|(simp;omega)) (by unfold maxLen;first|omega|(simp;done)|(simp;omega))) ?_;refine a_z ?_;refine r_z 1 ?_;refine ae (r_z 1 ?_)
 have T:=fw (b:=UB) (by decide) (n:=r) (k:=N) (by
  have h1:=fq (b:=UB) (dI (by decide) a);have p:=fq (b:=UB) (dI (by decide) b);rw[bt (by decide)] at h1 p;have J:UB^ (aw UB a).length≤UB^ (N- 1):=Nat.pow_le_pow_right (by decide) (by omega);have h4:UB^ (aw UB b).length≤UB^ (N- 1):=Nat.pow_le_pow_right (by decide) (by omega);have h5:UB^ N=UB^ (N- 1) * UB:=by rw[←Nat.pow_succ];congr 1;omega
  rw[h5];show r< UB^ (N- 1) * 32768;rcases hk with rfl|rfl <;> omega)
 have L:r< UB^ N:=by
  have h1:=fq (b:=UB) (dI (by decide) r);rw[bt (by decide)] at h1;exact Nat.lt_of_lt_of_le h1 (Nat.pow_le_pow_right (by decide) T)
 refine aG (fun s:List Nat=>⟨[(8,.lsl 1 0 N (some N) 1)],[(1,some ⟨3,1,iE s.reverse⟩)],2,51⟩) (fun s=>s.length=N∧(∀d∈s,d< UB)∧ofD UB s=r) ?_ ?_;refine aj (aB (bothS a b k N) (fun x=>N- x.1.length) (fun x=>x.1.length≤N∧(∀d∈x.1,d< UB)∧(x.2= -1∨x.2=0∨x.2=1)∧((ofD UB x.1:Nat):Int)+((UB^ x.1.length:Nat):Int) * x.2=(ofD UB ((aw UB a).take x.1.length):Nat)+k* (ofD UB ((aw UB b).take x.1.length):Nat)) ([],0) ⟨by simp,by simp,by simp,by simp[ofD]⟩ ?_ ?_);simp only[bothS.eq_1];exact s_e [(1,8)];rintro⟨s,c⟩ ⟨hs,u,hc,f⟩;simp only at hs u hc f;simp only[bothS.eq_1];refine ae (r_z 3 ?_);refine ap rfl (fun h=>?_) (fun h=>?_);have hlt:s.length< N:=by simpa using h
 refine ak ?_;obtain⟨x,Q⟩:∃x,x=(aw UB a)[s.length]?.getD 0:=⟨_,rfl⟩;obtain⟨y,M⟩:∃y,y=(aw UB b)[s.length]?.getD 0:=⟨_,rfl⟩
 have hx1:x< 32768:=by
  rw[Q];cases hh:(aw UB a)[s.length]? with
  |none=>decide
  |some d=>exact cv (by decide) hh
 have hy1:y< 32768:=by
  rw[M];cases hh:(aw UB b)[s.length]? with
  |none=>decide
  |some d=>exact cv (by decide) hh
 have m:=uq (zd a) s.length (by omega);have o:=uq (zd b) s.length (by omega);unfold zd at m o;rw[List.reverse_reverse,←Q] at m;rw[List.reverse_reverse,←M] at o;have hky: -32768< k* y∧k* y< 32768:=by rcases hk with rfl|rfl <;> omega
 obtain⟨X,U⟩:∃X:Int,X=x+k* y+c:=⟨_,rfl⟩;have hXr: -32768≤X∧X≤65536:=by omega
 refine ae (aj (r_c 12 (m) ?_));refine c_s (o) ?_;refine a_z ?_;refine r_z 1 ?_;refine bi (Ig a b k N s) (fun v=>v.1=(if X< 0 then X+32768 else X)∧v.2=(if X< 0 then -1 else 0)) ?_ ?_;refine r_z 2 ?_;refine ap rfl (fun h1=>?_) (fun h1=>?_);have g:X< 0:=by rw[U];simpa using h1
 refine r_z 3 ?_;refine r_m 1 ?_;refine a_z ?_;refine⟨(X+32768,-1),⟨by rw[if_pos g],by rw[if_pos g]⟩,?_⟩;simp only[Ig.eq_1];exact s_x [] (fun hs=>e_33) (fun hs=>e_34) e_32;have g:¬X< 0:=by rw[U];simpa using h1
 refine ak ⟨(X,0),⟨by rw[if_neg g],by rw[if_neg g]⟩,?_⟩;simp only[Ig.eq_1];exact s_x [] (fun hs=>e_33) (fun hs=>e_34) e_32;rintro⟨C,c1⟩ ⟨i,w⟩;simp only at i w;rw[Ig.eq_1];refine bi (Ig a b k N s) (fun v=>v.1=X % 32768∧v.2=X/ 32768) ?_ ?_;refine r_z 2 ?_;refine ap rfl (fun h1=>?_) (fun h1=>?_);have p:32768≤C:=by simpa using h1
 have Z:C≤65536:=by rw[i];split <;> omega
 refine r_z 3 ?_;refine r_m 1 ?_;refine a_z ?_;have g:¬X< 0:=by intro h0;rw[if_pos h0] at i;omega
 rw[if_neg g] at i;refine⟨(C- 32768,1),⟨by simp only;omega,by simp only;omega⟩,?_⟩;simp only[Ig.eq_1];exact s_e []
 ·have p:C< 32768:=by simp at h1;omega
  refine ak ⟨(C,c1),⟨by rw[i] at p⊢;simp only;split <;> rename_i J <;> simp only[J,if_true,if_false] at p <;> omega,by rw[i] at p;rw[w];simp only;split <;> rename_i J <;> simp only[J,if_true,if_false] at p <;> omega⟩,?_⟩;simp only[Ig.eq_1];exact s_e []
 rintro⟨X2,H⟩ ⟨Y,S⟩;simp only at Y S;rw[Ig.eq_1];obtain⟨d,W⟩:∃d:Nat,X2=d:=⟨X2.toNat,by omega⟩;have R:d< 32768:=by omega
 subst W;have hlen:(List.replicate (N- s.length) 0++s.reverse).length=N:=by simp;omega
 have l:List.replicate (N- s.length) 0=List.replicate (N- (s.length+1)) 0++[0]:=by
  rw[show N- s.length=(N- (s.length+1))+1 by omega,List.replicate_succ']
 have D:(iE (List.replicate (N- s.length) 0++s.reverse))[0+((N:Int)- 1- s.length).toNat]?=some [i64 0]:=by
  rw[show 0+((N:Int)- 1- s.length).toNat=N- (s.length+1) by omega];refine ko ?_;rw[l,List.append_assoc];exact pv _ _ _ _ (by simp)
 have A:(iE (List.replicate (N- s.length) 0++s.reverse)).set (0+((N:Int)- 1- s.length).toNat) [i64 d]=iE (List.replicate (N- (s++[d]).length) 0++(s++[d]).reverse):=by
  rw[show 0+((N:Int)- 1- s.length).toNat=N- (s.length+1) by omega,nT,l,List.append_assoc];simp only[List.singleton_append,List.length_append,List.length_cons,List.length_nil,List.reverse_append,List.reverse_cons,List.reverse_nil,List.nil_append];rw[oX _ _ _ _ _ (by simp)];simp
 refine r_m 8 ?_;refine a_7 ?_;refine dX (.store rfl rfl D rfl rfl rfl TS.h (nle rfl)) ?_;refine ao ?_;refine r_m 3 ?_;refine a_z ?_;refine⟨(s++[d],H),by simp;omega,⟨by simp;omega,?_,by simp only;omega,?_⟩,?_⟩;intro e t;rcases List.mem_append.1 t with t|t
 exact u e t;simp at t;subst t;exact R;simp only[List.length_append,List.length_cons,List.length_nil,Nat.zero_add];rw[gR,eE,eE,←Q,←M,Nat.pow_succ];obtain⟨B,hB⟩:∃B,B=UB^ s.length:=⟨_,rfl⟩;rw[←hB] at f⊢;have V:X=32768* H+d:=by omega
 have K:(B:Int) * X=B* x+k* (B* y)+B* c:=by
  rw[U,Int.mul_add,Int.mul_add,Int.mul_left_comm]
 rw[V,Int.mul_add] at K;have e1:((B* 32768:Nat):Int) * H=B* (32768* H):=by rw[Int.natCast_mul,Int.mul_assoc];rfl
 have e2:k* ((ofD UB ((aw UB b).take s.length)+B* y:Nat):Int)=k* (ofD UB ((aw UB b).take s.length):Nat)+k* (B* y):=by
  rw[Int.natCast_add,Int.mul_add,Int.natCast_mul]
 show((ofD UB s+B* d:Nat):Int)+((B* 32768:Nat):Int) * H=_;rw[e1,e2,Int.natCast_add,Int.natCast_add,Int.natCast_mul,Int.natCast_mul];omega;simp only[bothS.eq_1];refine s_x [] (fun hs=>dU) (fun hs=>?_) e_35
 ·repeat' (first|exact aE|refine h_c ?_ ?_|exact aI hs A (dw _)|exact bC)
 have j:s.length=N:=by simp at h;omega
 refine ay ⟨s,⟨j,u,?_⟩,?_⟩;rw[j,List.take_of_length_le (by omega),List.take_of_length_le (by omega),bt (by decide),bt (by decide),←hr] at f;have E:=fq u;rw[j] at E;obtain⟨B,hB⟩:∃B,B=UB^ N:=⟨_,rfl⟩;rw[←hB] at f E L;rcases hc with rfl|rfl|rfl <;> omega
 have e:iE (List.replicate (N- s.length) 0++s.reverse)=iE s.reverse:=by rw[j];simp
 refine s_x [] (fun hs=>dU) (fun hs=>e_36) ?_
 ·repeat' (first|exact ShrL.nil|refine ShrL.cons rfl rfl rfl rfl (by first|(exact congrArg List.length e)|rfl|(simp;done)|(simp <;> omega)) ?_)
 rintro s ⟨hs,u,f⟩;have O:∀d∈s.reverse,d< UB:=fun d h=>u d (List.mem_reverse.1 h);have F:=iP s.reverse (by simp;omega);rw[fH O,show hv s.reverse=r by unfold hv;rw[List.reverse_reverse];assumption] at F;have q:((iE s.reverse).drop 0).take N=iE s.reverse:=by rw[List.drop_zero,List.take_of_length_le (by simp;omega)]
 refine s_r 3 ?_;refine a_1 ?_;refine o_1 (.callS1 rfl rfl rfl (.shut rfl d_n (.nil)) rfl ((by rw[q];exact F))) ?_;refine a_z ?_;exact ai (t_e (eK _))
def zl(z:Int):Prop:=bl z.natAbs≤8796093022208
theorem wQ{z:Int}(h:zl z):(zd z.natAbs).length≤17592186044416:=by
 have:=bR (b:=UB) (by decide) z.natAbs;rw[cI];unfold zl at h;omega
theorem xa{x y:Int}(h:sgZ x=sgZ y)(hx:x≠0):(x+y).natAbs=x.natAbs+y.natAbs∧(x+y≠0→sgZ x=sgZ (x+y)):=by
 rcases c8 x with⟨a,b⟩|⟨a,b⟩|⟨a,b⟩<;> rcases c8 y with⟨c,d⟩|⟨c,d⟩|⟨c,d⟩<;> rcases c8 (x+y) with⟨e,f⟩|⟨e,f⟩|⟨e,f⟩<;> rw[a,c] at h <;> rw[a,e]<;> first|omega|(constructor <;> omega)
theorem tz{x y:Int}(h:sgZ x≠sgZ y)(hx:x≠0)(hy:y≠0)(hg:y.natAbs≤x.natAbs):(x+y).natAbs=x.natAbs- y.natAbs∧(x+y≠0→sgZ x=sgZ (x+y)):=by
 rcases c8 x with⟨a,b⟩|⟨a,b⟩|⟨a,b⟩<;> rcases c8 y with⟨c,d⟩|⟨c,d⟩|⟨c,d⟩<;> rcases c8 (x+y) with⟨e,f⟩|⟨e,f⟩|⟨e,f⟩<;> rw[a,c] at h <;> rw[a,e]<;> first|omega|(constructor <;> omega)
theorem fs_ZAdd(x y:Int)(hx:zl x)(hy:zl y):FS 179 [.agg (zZ x),.agg (zZ y)] (.agg (zZ (x+y))):=by
 have e:=wQ hx;have d:=wQ hy
 have bound:∀r:Nat,r≤x.natAbs+y.natAbs→(zd r).length≤281474976710656:=by
  intro r m;have h1:=bR (b:=UB) (by decide) r;have g:=dJ m;have i:=yC x.natAbs y.natAbs;unfold zl at hx hy;rw[cI];omega
 refine f_c Tryz.func179 ?_;refine r_z 3 ?_;refine ae (r_z 3 ?_);refine ap rfl (fun h=>?_) (fun h=>?_)
 have k:x=0:=by
  have:sgZ x=0:=by simpa using h
  rcases c8 x with⟨a,b⟩|⟨a,b⟩|⟨a,b⟩<;> omega
 refine r_z 2 ?_;refine ai (dA rfl rfl rfl TG.h TS.h (nle rfl) ?_ ?_);rw[k,Int.zero_add];rfl;exact cM _;have c:x≠0:=by rintro rfl;simp[sgZ] at h
 refine ak (ae (r_z 3 ?_));refine ap rfl (fun h1=>?_) (fun h1=>?_)
 have k:y=0:=by
  have:sgZ y=0:=by simpa using h1
  rcases c8 y with⟨a,b⟩|⟨a,b⟩|⟨a,b⟩<;> omega
 refine r_z 2 ?_;refine ai (dA rfl rfl rfl TG.h TS.h (nle rfl) ?_ ?_);rw[k,Int.add_zero];rfl;exact cM _;have f:y≠0:=by rintro rfl;simp[sgZ] at h1
 refine ak (ae (r_z 5 ?_));refine ap rfl (fun g=>?_) (fun g=>?_);have hs:sgZ x=sgZ y:=by simpa using g
 obtain⟨e1,e2⟩:=xa hs c;refine ae (r_d a6 9 ?_);refine c_s (pH x.natAbs y.natAbs 1 (x.natAbs+y.natAbs) (.inl rfl) (by omega) e d) ?_;refine c_s (j4 (sgZ x) (zd (x.natAbs+y.natAbs)) (x+y) (bound _ (Nat.le_refl _)) (js _) (by rw[kM,e1]) e2) ?_;refine a_1 ?_;refine ao (n_k ?_);exact ai (c_e (cM _));have hs:sgZ x≠sgZ y:=by simpa using g
 refine ak (ae (r_c 6 (Ab x.natAbs y.natAbs (by omega) (by omega)) ?_));refine a_z ?_;refine ap rfl (fun i=>?_) (fun i=>?_)
 have l:y.natAbs≤x.natAbs:=by
  have:=of_decide_eq_true i;unfold eu at this;split at this;omega;omega
 obtain⟨e1,e2⟩:=tz hs c f l;refine ae (r_d a6 9 ?_);refine c_s (pH x.natAbs y.natAbs (-1) (x.natAbs- y.natAbs) (.inr rfl) (by omega) e d) ?_;refine c_s (j4 (sgZ x) (zd (x.natAbs- y.natAbs)) (x+y) (bound _ (by omega)) (js _) (by rw[kM,e1]) e2) ?_;refine a_1 ?_;refine ao (n_k ?_);exact ai (c_e (cM _))
 have j:x.natAbs≤y.natAbs:=by
  have:=of_decide_eq_false i;unfold eu at this;split at this;omega;split at this <;> omega
 obtain⟨e1,e2⟩:=tz (fun h=>hs h.symm) f c j;rw[Int.add_comm] at e1 e2;refine ak (ae (r_d a6 9 ?_));refine c_s (pH y.natAbs x.natAbs (-1) (y.natAbs- x.natAbs) (.inr rfl) (by omega) d e) ?_;refine c_s (j4 (sgZ y) (zd (y.natAbs- x.natAbs)) (x+y) (bound _ (by omega)) (js _) (by rw[kM,e1]) e2) ?_;refine a_1 ?_;refine ao (n_k ?_);exact ai (c_e (cM _))
theorem zl_neg{z:Int}(h:zl z):zl (-z):=by unfold zl at *;rwa[Int.natAbs_neg]
theorem fs_ZSub(x y:Int)(hx:zl x)(hy:zl y):FS 143 [.agg (zZ x),.agg (zZ y)] (.agg (zZ (x- y))):=by
 have hs:=fs_ZAdd x (-y) hx (zl_neg hy);rw[←Int.sub_eq_add_neg] at hs;refine f_c Tryz.func143 ?_;refine r_z 3 ?_;refine ae (r_d a6 5 ?_);refine c_s (xP y) ?_;refine c_s (hs) ?_;refine a_1 ?_;refine ao (n_k ?_);exact ai (c_e (cM _))
theorem fs_ZCmp(x y:Int)(hx:zl x)(hy:zl y):FS 101 [.agg (zZ x),.agg (zZ y)] (i64 (eu x y)):=by
 have e:eu x y=sgZ (x- y):=by
  unfold eu sgZ;split <;> split <;>(try split)<;>(try split)<;> omega
 rw[e];refine f_c Tryz.func101 ?_;refine r_z 3 ?_;refine r_c 5 (fs_ZSub x y hx hy) ?_;refine a_z ?_;exact ai (t_e (ag _))
def Bu(l:List Nat):Nat→AState
 |i=>⟨[(0,.arr (iE l)),(3,i64 (hv (l.take i))),(4,i64 i)],[],1,19⟩
theorem B5{l:List Nat}(hd:∀d∈l,d< UB)(hl:l.length≤4)(i:Nat):hv (l.take i)< 1152921504606846976:=by
 have h1:=DV (l:=l.take i) fun d h=>hd d (List.mem_of_mem_take h);have a:(l.take i).length≤4:=by rw[List.length_take];omega
 exact Nat.lt_of_lt_of_le h1 (Nat.pow_le_pow_right (by decide) a)
theorem zW(l:List Nat)(hl:l.length≤4)(hd:∀d∈l,d< UB):FS 176 [.arr (iE l)] (i64 (hv l)):=by
 refine f_c Tryz.func176 ?_;refine r_z 1 ?_;refine r_z 1 ?_;refine ae (r_z 1 ?_);refine aG (Bu l) (fun i=>i=l.length) ?_ ?_;refine aj (aB (Bu l) (fun i=>l.length- i) (fun i=>i≤l.length) 0 (Nat.zero_le _) ?_ ?_);simp only[Bu.eq_1];exact s_e [];intro i m;rw[Bu.eq_1];refine ae (r_z 4 ?_);refine ap rfl (fun h=>?_) (fun h=>?_);have f:i< l.length:=by simpa using h
 obtain⟨d,c⟩:∃d,l[i]?=some d:=⟨_,List.getElem?_eq_getElem f⟩;have k:=hd d (List.mem_of_getElem? c);have b:(iE l)[((i:Nat):Int).toNat]?=some [i64 d]:=ko c;have e:=pq (l.take i) d;rw[←cx c] at e;have hb:=B5 hd hl (i+1);obtain⟨V,j⟩:∃V,V=hv (l.take i):=⟨_,rfl⟩;rw[←j] at e⊢;have a:hv (l.take (i+1))=V* 32768+d:=e;refine ak (ae (aj (r_m 8 ?_)));refine a_4 ?_;refine i_x b ?_;refine l_1 b ?_;refine a_z ?_;refine r_m 3 ?_;refine a_z ?_;refine⟨i+1,by omega,f,?_⟩;simp only[Bu.eq_1];refine s_x [] (fun hs=>?_) (fun hs=>?_) ?_
 ·repeat' (first|exact aN|refine aA rfl ?_ ?_|exact aV|(refine Cv.loE hs ?_ (ag _);first|rfl|(simp[i64,u64,u32,bln,a];done)|(simp[i64,u64,u32,bln,a]<;> omega)))
 ·repeat' (first|exact aE|refine h_c ?_ ?_|exact bC|(refine aI hs ?_ (dw _);first|(simp[nT,mW,jd,a];done)|(simp[iE,i64,ofV,a];done))|refine az ?_|exact av|refine ah ?_ ?_|exact aV|(refine Cv.loE hs ?_ (ag _);first|(simp[i64,u64,u32,bln,a];done)|(simp[i64,u64,u32,bln,a]<;> omega)))
 ·repeat' (first|exact ShrL.nil|refine ShrL.cons rfl rfl rfl rfl (by first|rfl|(simp;done)|(simp[a]<;> omega)) ?_)
 have g:i=l.length:=by simp at h;omega
 refine ay ⟨i,g,?_⟩;exact s_e [];rintro i rfl;rw[Bu.eq_1,List.take_length];refine r_z 2 ?_;refine ai (aW rfl rfl (ag _))
def FG(s:Int):Int×List Nat→AState
 |(n,l)=>⟨[(0,i64 n),(2,.lptr 1 0 0),(3,i64 s),(4,.arr (iE l))],[(1,some ⟨72,2,[[i64 0,.emp]]⟩)],2,25⟩
theorem pJ(n:Int)(h: -9223372036854775808≤n∧n≤9223372036854775807):FS 98 [i64 n] (.agg (zZ n)):=by
 obtain⟨s,hs⟩:∃s:Int,s=if n< 0 then -1 else 1:=⟨_,rfl⟩
 have j:n≠0→s=sgZ n:=by
  intro r;rw[hs];unfold sgZ;rw[if_neg r]
 refine f_c Tryz.func98 ?_;refine r_z 1 ?_;refine r_z 1 ?_;refine bi (fun _:Unit=>⟨[(0,i64 n),(2,.lptr 1 0 0),(3,i64 s)],[(1,some ⟨72,2,[[i64 0,.emp]]⟩)],2,25⟩) (fun _=>True) ?_ ?_;refine r_z 2 ?_;refine ap rfl (fun h1=>?_) (fun h1=>?_);have g:n< 0:=by simpa using h1
 rw[hs,if_pos g];refine r_m 1 ?_;refine a_z ?_;refine⟨(),trivial,?_⟩;exact s_e [];have g:¬n< 0:=by simpa using h1
 rw[hs,if_neg g];refine ak ⟨(),trivial,?_⟩;exact s_e [];rintro _ _;refine r_z 1 ?_;refine bi (fun l:List Nat=>FG s (0,l)) (fun l=>l.length≤10∧(∀d∈l,d< UB)∧hv l=n.natAbs) ?_ ?_;refine aj (aB (FG s) (fun x=>x.1.natAbs) (fun x=>(-9223372036854775808≤x.1∧x.1≤9223372036854775807)∧(∀d∈x.2,d< UB)∧n.natAbs=hv x.2+UB^ x.2.length* x.1.natAbs∧x.2.length≤5) (n,[]) ⟨h,by simp,by simp[ue],by simp⟩ ?_ ?_);simp only[FG.eq_1];exact s_e [(1,2)];rintro⟨m,l⟩ ⟨u,c,a,p⟩;simp only at u c a p;rw[FG.eq_1];refine ae (r_z 2 ?_);refine ap rfl (fun h=>?_) (fun h=>?_)
 ·have f:m≠0:=by simpa using h
  have y:l.length≤4:=by
   refine Nat.le_of_not_lt fun t=>?_;have E:UB^ 5≤UB^ l.length:=Nat.pow_le_pow_right (by decide) t;have C:UB^ l.length* 1≤UB^ l.length* m.natAbs:=Nat.mul_le_mul_left _ (by omega);have B:UB^ 5=37778931862957161709568:=by decide
   omega
  obtain⟨d,o⟩:∃d,d=m.natAbs % 32768:=⟨_,rfl⟩;have i:d< 32768:=by omega
  have D:(m.tmod 32768).natAbs=d:=by rw[Int.natAbs_tmod,o];rfl
  have w:(m.tdiv 32768).natAbs=m.natAbs/ 32768:=by rw[Int.natAbs_tdiv];rfl
  have A:m.natAbs/ 32768< m.natAbs:=Nat.div_lt_self (by omega) (by decide);have q:=Nat.div_add_mod m.natAbs 32768;refine ak (aj (s_r 3 ?_));refine a_1 ?_;refine o_0 (.bin rfl rfl (FA (by decide))) ?_;refine a_z ?_;refine bi (fun _:Unit=>⟨[(0,i64 m),(2,.lptr 1 0 0),(3,i64 s),(4,.arr (iE l)),(5,i64 d)],[(1,some ⟨72,2,[[i64 0,.emp]]⟩)],2,25⟩) (fun _=>True) ?_ ?_;refine r_z 2 ?_;refine ap rfl (fun h1=>?_) (fun h1=>?_);have b:m.tmod 32768< 0:=by simpa using h1
  refine r_m 3 ?_;refine a_z ?_;have e: -m.tmod 32768=d:=by omega
  refine⟨(),trivial,?_⟩;have:=(congrArg (fun z=>AV.v (.int .i64 z)) e);exact s_f [];have b:¬m.tmod 32768< 0:=by simpa using h1
  have e:m.tmod 32768=d:=by omega
  refine ak ⟨(),trivial,?_⟩;have:=(congrArg (fun z=>AV.v (.int .i64 z)) e);exact s_f [];rintro _ _;refine s_r 5 ?_;refine a_3 ?_;refine o_2 (.append_l rfl rfl rfl te_70.h rfl rfl rfl rfl rfl d_o (by first|exact dq _|exact dp _|exact cW _|exact dr _|exact dn _|assumption|rfl|simp) (by first|rfl|exact dq _|exact dp _|exact cW _|exact dr _|exact dn _|simp) rfl (.arr (lj _)) TZ.h rfl TB.h d_o (by first|(simp[maxLen];done)|(simp[maxLen];omega))) ?_;refine a_z ?_;refine r_m 3 ?_;refine a_1 ?_;refine o_0 (.bin rfl rfl (rn (by decide) (by omega))) ?_;refine a_z ?_;refine⟨(m.tdiv 32768,d::l),by simp only;omega,⟨by simp only;omega,?_,?_,by simp;omega⟩,?_⟩;intro e k;rcases List.mem_cons.1 k with rfl|k
  exact i;exact c e k;simp only[pt,List.length_cons];rw[a,w,Nat.pow_succ,Nat.mul_assoc,Nat.add_assoc,←Nat.mul_add];congr 2;show m.natAbs=d+32768* (m.natAbs/ 32768);omega;simp only[FG.eq_1];have e:[[i64 d]]++iE l=iE (d::l):=rfl;refine s_x [] (fun hs=>?_) (fun hs=>?_)
  ·repeat' (first|exact aN|refine aA rfl ?_ ?_|exact Cv.sealE hs rfl (aM rfl) e (by simp;omega) (dw _)|exact aV)
  ·repeat' (first|exact aE|refine h_c ?_ ?_|exact bC|refine az ?_|exact av|refine ah ?_ ?_|exact Cv.sealE hs rfl (aM rfl) e (by simp;omega) (dw _)|exact aV)
 have f:m=0:=by simpa using h
 subst f;refine ay ⟨l,⟨by omega,c,by simpa using a.symm⟩,?_⟩;simp only[FG.eq_1];exact s_e [];rintro l ⟨y,c,a⟩;rw[FG.eq_1];refine r_c 4 (j4 s l n (by omega) c a j) ?_;refine a_z ?_;exact ai (c_e (cM _))
end Go.Proofs.YtdgbhlkabelmbaaGreatDoor
