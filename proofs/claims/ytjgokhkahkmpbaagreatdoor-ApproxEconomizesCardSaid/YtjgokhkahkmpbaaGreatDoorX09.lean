/- Part X09 of the proof. -/
import Derived.Test.YtjgokhkahkmpbaaGreatDoorX08
set_option linter.all false
namespace Go.Abs
section
variable {p:Prop}
theorem aY(h:p:=by first|exact ah hs (ag _)|exact Cv.ptr rfl rfl rfl|exact Cv.sl rfl rfl rfl|exact Cv.slN rfl rfl rfl|exact ah hs aS|(refine ah hs ?_;first|assumption|exact cQ _|exact bU _|exact ag _|exact aS|exact ap _|exact eK _|exact fK _|exact cP _|exact aO _|exact kK _|exact bq _ _|exact aV ai ai|exact cu _|exact aQ _|exact bw _|exact gu _|exact c6 _ _|exact dr _ _|exact kL|exact fj _|exact b8 _|(refine aV ai ?_;first|assumption|exact ae (cu _) ai|exact ae (aQ _) ai|exact ae (dr _ _) ai))|(refine Cv.boxp hs rfl (aP rfl) rfl ?_;first|exact aZ _|exact cf _ _|exact dk _|exact c8 _|(refine ae ?_ ai;first|assumption|exact cQ _|exact bU _|exact ag _|exact aS|exact ap _|exact eK _|exact fK _|exact cP _|exact aO _|exact kK _|exact bq _ _|exact aV ai ai|exact cu _|exact aQ _|exact bw _|exact gu _|exact c6 _ _|exact dr _ _|exact kL|exact fj _|exact b8 _|(refine aV ai ?_;first|assumption|exact ae (cu _) ai|exact ae (aQ _) ai|exact ae (dr _ _) ai)))|(refine Cv.loE hs ?_ (ag _);first|rfl|(simp[i64,u64,u32,bln];done)|(simp[i64,u64,u32,bln]<;> omega))|(refine Cv.slE rfl rfl rfl ?_ ?_ ?_ <;> first|rfl|omega|(congr 1;omega)|(simp;done)|(simp <;> omega))|exact Cv.emp _):p:=h
theorem bG(h:p:=by(first|(first|exact CvLL.bld rfl rfl rfl rfl rfl rfl|exact CvLL.bld0 hs|exact cU hs (vx _)|exact cU hs (bz _)|(refine aM hs ?_ (bz _);first|(simp[gO,kI,gP];done)|(simp[dE,u32,ofV];done))|exact cU hs (aL _)|exact cU hs (dq _)|(refine aM hs ?_ (dq _);first|(simp[n8,mS,ja];done)|(simp[iE,i64,ofV];done))|(refine aM hs ?_ (aL _);first|(simp[lc,uY];done)|(simp[pE,ofV];done))|(refine aw ?_;repeat' (first|exact ax|exact CvL.clo hs (aZ _)|refine af ?_ ?_))))<;> exact aY):p:=h
theorem xt(h:p:=by repeat' (first|exact ShrL.nil|refine ShrL.cons rfl rfl rfl rfl (by first|rfl|(simp;done)|(simp <;> omega)) ?_)):p:=h
theorem db(h:p:=by repeat' (first|exact aH|refine ao rfl ?_ ?_|exact aY)):p:=h
theorem jG(h:p:=by repeat' (first|exact aD|refine bi rfl rfl rfl rfl ?_ ?_|exact bG)):p:=h
section
variable {P:Program}{ops:Array Oper}{nx n j:Nat}{rest:List Oper}{fr:Fr}{hp:Hp}{K:Fps→Fr→Hp→Prop}
variable {d:Nat}{op:Op}{ty:Nat}{pos:String}{after:Array Edge}{a:AV}{p q s:Nat×Option ABlk}{rd:Ln}
theorem o_0(hs:AEval P (nx+j) (evF (look fr)) (au hp) op ⟨a,[]⟩ rd)(h:AR P ops nx n (j+1) rest ((d,a)::fr) hp fun fps f h=>K (([],rd)::fps) f h)(hnd:bK op=true:=by exact rfl)(hd:Nat.blt d n=true:=by exact rfl):AR P ops nx n j (⟨some d,op,ty,pos,after,none⟩::rest) fr hp K:=ay hs hnd hd h
theorem o_1(hs:AEval P (nx+j) (evF (look fr)) (au hp) op ⟨a,[p]⟩ rd)(h:AR P ops nx n (j+1) rest ((d,a)::fr) (p::hp) fun fps f h=>K (([p.1],rd)::fps) f h)(hnd:bK op=true:=by exact rfl)(hd:Nat.blt d n=true:=by exact rfl):AR P ops nx n j (⟨some d,op,ty,pos,after,none⟩::rest) fr hp K:=AR.op1 hs hnd hd h
theorem o_2(hs:AEval P (nx+j) (evF (look fr)) (au hp) op ⟨a,[p,q]⟩ rd)(h:AR P ops nx n (j+1) rest ((d,a)::fr) (q::p::hp) fun fps f h=>K (([p.1,q.1],rd)::fps) f h)(hnd:bK op=true:=by exact rfl)(hd:Nat.blt d n=true:=by exact rfl):AR P ops nx n j (⟨some d,op,ty,pos,after,none⟩::rest) fr hp K:=AR.op2 hs hnd hd h
theorem o_3(hs:AEval P (nx+j) (evF (look fr)) (au hp) op ⟨a,[p,q,s]⟩ rd)(h:AR P ops nx n (j+1) rest ((d,a)::fr) (s::q::p::hp) fun fps f h=>K (([p.1,q.1,s.1],rd)::fps) f h)(hnd:bK op=true:=by exact rfl)(hd:Nat.blt d n=true:=by exact rfl):AR P ops nx n j (⟨some d,op,ty,pos,after,none⟩::rest) fr hp K:=AR.op3 hs hnd hd h
theorem fk(hs:AEval P (nx+j) (evF (look fr)) (au hp) op ⟨a,[p]⟩ rd)(h:AR P ops nx n (j+1) rest fr (p::hp) fun fps f h=>K (([p.1],rd)::fps) f h)(hnd:bK op=true:=by exact rfl):AR P ops nx n j (⟨none,op,ty,pos,after,none⟩::rest) fr hp K:=AR.op1n hs hnd h
theorem s_r{ρ:Option Nat}{Q:Exit→AState→Prop}{id:Nat}{y:Code}(m:Nat)(h:AR P ops nx n 0 ops.toList fr hp fun _ f h=>jI (AWp ρ P y Q) Q .normal ⟨f,h,nx+m,n⟩)(hsz:ops.size=m:=by exact rfl):AWp ρ P (.seq (.region id ops false) y) Q ⟨fr,hp,nx,n⟩:=ac (C6 hsz h)
end
theorem s_e {fr fr':Fr} {hp hp':Hp} {nx nx' n:Nat} (l:List (Nat×Nat)) (hS:ShrL (rnm fr l nx') (au hp) hp':=by exact xt)
    (hF:Shr (rnm fr l nx') (au hp) (au hp')→CvF (rnm fr l nx') (au hp) (au hp') fr fr':=by exact fun hs=>db)
    (hH:Shr (rnm fr l nx') (au hp) (au hp')→CvH (rnm fr l nx') (au hp) (au hp') hp':=by exact fun hs=>jG)
    (hk:Nat.blt 0 nx'=true:=by exact rfl) (h0:(rnm fr l nx').s 0=0:=by exact rfl) (hinj:lu (rnm fr l nx') (hp'.map (·.1))=true:=by exact rfl):SEnt ⟨fr,hp,nx,n⟩ ⟨fr',hp',nx',n⟩:=
 di l hk h0 hinj hS hF hH
end
section
variable {T yt:Nat}{x y:Operand}{p q:Prop}
class TZ (P:Program) (t:Nat) (v:outParam (List Value)):Prop where h:fo P t=some v
class TS (P:Program) (t:Nat) (v:outParam Nat):Prop where h:iI P t=some v
class TG (P:Program) (t:Nat) (v:outParam Bool):Prop where h:fm P t=some v
class TB (P:Program) (t:Nat) (v:outParam Nat):Prop where h:qL P t=some v
class TE (P:Program) (t:Nat) (v:outParam (Nat×Nat)):Prop where h:dT P t=some v
class TU (P:Program) (t:Nat) (v:outParam TypeDesc):Prop where h:P.underlying t=some v
class TP (P:Program) (t:Nat) (v:outParam (List (Nat×Nat))):Prop where h:s8 P t=some v
class TF (P:Program) (t i:Nat) (v:outParam (Nat×Nat)):Prop where h:lR P t i=some v
class TA (P:Program) (t i:Nat) (v:outParam Bool):Prop where h:mh P t i=some v
structure Hid (q:Prop):Prop where h:q
section
variable {P:Program}{ops:Array Oper}{nx n j:Nat}{rest:List Oper}{fr:Fr}{hp:Hp}{K:Fps→Fr→Hp→Prop}{dst:Option Nat}{ty:Nat}{pos:String}{after:Array Edge}
theorem k_load(h:AR P ops nx n j (⟨dst,.load T x,ty,pos,after,none⟩::rest) fr hp K):AR P ops nx n j (⟨dst,.load T x,ty,pos,after,none⟩::rest) fr hp K:=h
theorem yn{f:Nat}(h:AR P ops nx n j (⟨dst,.fieldAddr T x f,ty,pos,after,none⟩::rest) fr hp K):AR P ops nx n j (⟨dst,.fieldAddr T x f,ty,pos,after,none⟩::rest) fr hp K:=h
theorem Fa{b:BinOp}(h:AR P ops nx n j (⟨dst,.binOp b T x y yt,ty,pos,after,none⟩::rest) fr hp K):AR P ops nx n j (⟨dst,.binOp b T x y yt,ty,pos,after,none⟩::rest) fr hp K:=h
theorem k_call{c:Call}(h:AR P ops nx n j (⟨dst,.call c,ty,pos,after,none⟩::rest) fr hp K):AR P ops nx n j (⟨dst,.call c,ty,pos,after,none⟩::rest) fr hp K:=h
theorem k_move(h:AR P ops nx n j (⟨dst,.move x,ty,pos,after,none⟩::rest) fr hp K):AR P ops nx n j (⟨dst,.move x,ty,pos,after,none⟩::rest) fr hp K:=h
theorem k_index(h:AR P ops nx n j (⟨dst,.indexAddr T x y,ty,pos,after,none⟩::rest) fr hp K):AR P ops nx n j (⟨dst,.indexAddr T x y,ty,pos,after,none⟩::rest) fr hp K:=h
theorem Fb(h:AR P ops nx n j (⟨dst,.assign x,ty,pos,after,none⟩::rest) fr hp K):AR P ops nx n j (⟨dst,.assign x,ty,pos,after,none⟩::rest) fr hp K:=h
theorem k_store(h:AR P ops nx n j (⟨dst,.store T x y,ty,pos,after,none⟩::rest) fr hp K):AR P ops nx n j (⟨dst,.store T x y,ty,pos,after,none⟩::rest) fr hp K:=h
theorem Dx{i:Nat}(h:AR P ops nx n j (⟨dst,.extract x i,ty,pos,after,none⟩::rest) fr hp K):AR P ops nx n j (⟨dst,.extract x i,ty,pos,after,none⟩::rest) fr hp K:=h
theorem k_box(h:AR P ops nx n j (⟨dst,.box T x,ty,pos,after,none⟩::rest) fr hp K):AR P ops nx n j (⟨dst,.box T x,ty,pos,after,none⟩::rest) fr hp K:=h
theorem k_alloc(h:AR P ops nx n j (⟨dst,.alloc T,ty,pos,after,none⟩::rest) fr hp K):AR P ops nx n j (⟨dst,.alloc T,ty,pos,after,none⟩::rest) fr hp K:=h
theorem k_conv{S D:Nat}(h:AR P ops nx n j (⟨dst,.convert S D x,ty,pos,after,none⟩::rest) fr hp K):AR P ops nx n j (⟨dst,.convert S D x,ty,pos,after,none⟩::rest) fr hp K:=h
theorem k_field{f:Nat}(h:AR P ops nx n j (⟨dst,.field T x f,ty,pos,after,none⟩::rest) fr hp K):AR P ops nx n j (⟨dst,.field T x f,ty,pos,after,none⟩::rest) fr hp K:=h
theorem k_nilc(h:AR P ops nx n j (⟨dst,.nilCheck x,ty,pos,after,none⟩::rest) fr hp K):AR P ops nx n j (⟨dst,.nilCheck x,ty,pos,after,none⟩::rest) fr hp K:=h
theorem k_pick{z:Operand}(h:AR P ops nx n j (⟨dst,.pick x y z,ty,pos,after,none⟩::rest) fr hp K):AR P ops nx n j (⟨dst,.pick x y z,ty,pos,after,none⟩::rest) fr hp K:=h
theorem k_un{b:UnOp}(h:AR P ops nx n j (⟨dst,.unOp b T x,ty,pos,after,none⟩::rest) fr hp K):AR P ops nx n j (⟨dst,.unOp b T x,ty,pos,after,none⟩::rest) fr hp K:=h
theorem k_build{ps:Array (Nat×Operand)}(h:AR P ops nx n j (⟨dst,.build T ps,ty,pos,after,none⟩::rest) fr hp K):AR P ops nx n j (⟨dst,.build T ps,ty,pos,after,none⟩::rest) fr hp K:=h
theorem k_eql(h:AR P ops nx n j (⟨dst,.binOp .eql T x y yt,ty,pos,after,none⟩::rest) fr hp K):AR P ops nx n j (⟨dst,.binOp .eql T x y yt,ty,pos,after,none⟩::rest) fr hp K:=h
theorem k_neq(h:AR P ops nx n j (⟨dst,.binOp .neq T x y yt,ty,pos,after,none⟩::rest) fr hp K):AR P ops nx n j (⟨dst,.binOp .neq T x y yt,ty,pos,after,none⟩::rest) fr hp K:=h
theorem k_lss(h:AR P ops nx n j (⟨dst,.binOp .lss T x y yt,ty,pos,after,none⟩::rest) fr hp K):AR P ops nx n j (⟨dst,.binOp .lss T x y yt,ty,pos,after,none⟩::rest) fr hp K:=h
theorem k_leq(h:AR P ops nx n j (⟨dst,.binOp .leq T x y yt,ty,pos,after,none⟩::rest) fr hp K):AR P ops nx n j (⟨dst,.binOp .leq T x y yt,ty,pos,after,none⟩::rest) fr hp K:=h
theorem k_gtr(h:AR P ops nx n j (⟨dst,.binOp .gtr T x y yt,ty,pos,after,none⟩::rest) fr hp K):AR P ops nx n j (⟨dst,.binOp .gtr T x y yt,ty,pos,after,none⟩::rest) fr hp K:=h
theorem k_geq(h:AR P ops nx n j (⟨dst,.binOp .geq T x y yt,ty,pos,after,none⟩::rest) fr hp K):AR P ops nx n j (⟨dst,.binOp .geq T x y yt,ty,pos,after,none⟩::rest) fr hp K:=h
theorem k_add(h:AR P ops nx n j (⟨dst,.binOp .add T x y yt,ty,pos,after,none⟩::rest) fr hp K):AR P ops nx n j (⟨dst,.binOp .add T x y yt,ty,pos,after,none⟩::rest) fr hp K:=h
theorem k_sub(h:AR P ops nx n j (⟨dst,.binOp .sub T x y yt,ty,pos,after,none⟩::rest) fr hp K):AR P ops nx n j (⟨dst,.binOp .sub T x y yt,ty,pos,after,none⟩::rest) fr hp K:=h
theorem k_mul(h:AR P ops nx n j (⟨dst,.binOp .mul T x y yt,ty,pos,after,none⟩::rest) fr hp K):AR P ops nx n j (⟨dst,.binOp .mul T x y yt,ty,pos,after,none⟩::rest) fr hp K:=h
theorem k_quo(h:AR P ops nx n j (⟨dst,.binOp .quo T x y yt,ty,pos,after,none⟩::rest) fr hp K):AR P ops nx n j (⟨dst,.binOp .quo T x y yt,ty,pos,after,none⟩::rest) fr hp K:=h
theorem k_rem(h:AR P ops nx n j (⟨dst,.binOp .rem T x y yt,ty,pos,after,none⟩::rest) fr hp K):AR P ops nx n j (⟨dst,.binOp .rem T x y yt,ty,pos,after,none⟩::rest) fr hp K:=h
theorem k_len{aa:Array Operand}{tt:Array Nat}(h:AR P ops nx n j (⟨dst,.call ⟨.builtin .len,aa,tt⟩,ty,pos,after,none⟩::rest) fr hp K):AR P ops nx n j (⟨dst,.call ⟨.builtin .len,aa,tt⟩,ty,pos,after,none⟩::rest) fr hp K:=h
theorem Fc{aa:Array Operand}{tt:Array Nat}(h:AR P ops nx n j (⟨dst,.call ⟨.builtin .append,aa,tt⟩,ty,pos,after,none⟩::rest) fr hp K):AR P ops nx n j (⟨dst,.call ⟨.builtin .append,aa,tt⟩,ty,pos,after,none⟩::rest) fr hp K:=h
end
section
variable {P:Program}{ops:Array Oper}{nx n j:Nat}{rest:List Oper}{fr:Fr}{hp:Hp}{K:Fps→Fr→Hp→Prop}{dst:Option Nat}{op:Op}{ty:Nat}{pos:String}{after:Array Edge}{g t d:Nat}{want b:Bool}
theorem g_y(ht:(ops[g]?).bind (·.dst)=some t)(hx:evF (look fr) (.tmp t)=some (.v (.bool want)))(h:AR P ops nx n j (⟨dst,op,ty,pos,after,none⟩::rest) fr hp K):AR P ops nx n j (⟨dst,op,ty,pos,after,some (g,want)⟩::rest) fr hp K:=by
 obtain⟨us,st',⟨u,rd,us',he,⟨h1,h2⟩,hd,hr⟩,hk⟩:=h;exact⟨us,st',⟨u,rd,us',he,⟨h1,t,.bool want,ht,hx,.inl ⟨rfl,h2⟩⟩,hd,hr⟩,hk⟩
theorem g_n(ht:(ops[g]?).bind (·.dst)=some t)(hx:evF (look fr) (.tmp t)=some (.v (.bool b)))(hb:(b==want)=false)(hnd:bK op=true)(hd:Nat.blt d n=true)(h:AR P ops nx n (j+1) rest ((d,.v undef)::fr) hp fun fps f h=>K (([],[])::fps) f h):AR P ops nx n j (⟨some d,op,ty,pos,after,some (g,want)⟩::rest) fr hp K:=
 dM ht hx (gn (by cases b <;> cases want <;> first|rfl|grind)) hnd hd h
theorem g_nn(ht:(ops[g]?).bind (·.dst)=some t)(hx:evF (look fr) (.tmp t)=some (.v (.bool b)))(hb:(b==want)=false)(hnd:bK op=true)(h:AR P ops nx n (j+1) rest fr hp fun fps f h=>K (([],[])::fps) f h):AR P ops nx n j (⟨none,op,ty,pos,after,some (g,want)⟩::rest) fr hp K:=
 AR.opNn ht hx (gn (by cases b <;> cases want <;> first|rfl|grind)) hnd h
theorem vT{P:Program}{p:Bool}{f:Sem Value}(h:∀w,f.run P w= .ok (.bool p) w)(e:p=true):∀w,f.run P w= .ok (.bool true) w:=e▸h
theorem vF{P:Program}{p:Bool}{f:Sem Value}(h:∀w,f.run P w= .ok (.bool p) w)(e:p=false):∀w,f.run P w= .ok (.bool false) w:=e▸h
end
theorem a_1 (h:q) (f:Hid q→p:=by
 intro h0
 first
 |(apply k_load;first|exact o_0 (.load_l1 rfl rfl rfl TG.h rfl) h0.h|exact o_0 (.load_l rfl rfl rfl TG.h TS.h (nle rfl)) h0.h|exact o_0 (.load_a1 rfl rfl TG.h rfl) h0.h|exact o_0 (.load_a rfl rfl TG.h TS.h (nle rfl)) h0.h|exact o_0 (.load_l rfl rfl (by assumption) TG.h TS.h (by exact nle rfl)) h0.h|exact o_0 (.load_l1 rfl rfl (by assumption) TG.h (by exact rfl)) h0.h|exact o_0 (.load_a rfl (by assumption) TG.h TS.h (by exact nle rfl)) h0.h|exact o_0 (.load_a1 rfl (by assumption) TG.h (by exact rfl)) h0.h)
 |(apply k_move;exact o_0 (.move rfl) h0.h)
 |(apply yn;first|exact o_0 (.fieldAddr_l rfl TF.h (by decide)) h0.h|exact o_0 (.fieldAddr_a rfl TF.h (by decide)) h0.h)
 |(apply Fa;first|(apply k_eql;first|exact o_0 (.bin rfl rfl aJ) h0.h|exact o_0 (.bin rfl rfl (F8 TU.h)) h0.h|exact o_0 (.bin rfl rfl zy) h0.h|exact o_0 (.nilq_v rfl rfl TE.h) h0.h|exact o_0 (.nilq_arr rfl (by assumption) rfl TE.h) h0.h)|(apply k_neq;first|exact o_0 (.bin rfl rfl cv) h0.h|exact o_0 (.bin rfl rfl (F7 TU.h)) h0.h|exact o_0 (.bin rfl rfl zw) h0.h)|(apply k_lss;exact o_0 (.bin rfl rfl cw) h0.h)|(apply k_leq;exact o_0 (.bin rfl rfl dY) h0.h)|(apply k_gtr;exact o_0 (.bin rfl rfl cS) h0.h)|(apply k_geq;exact o_0 (.bin rfl rfl ei) h0.h)|(apply k_add;first|exact o_0 (.bin rfl rfl (zJ (by omega))) h0.h|exact o_0 (.bin rfl rfl (Gd (by omega))) h0.h|exact o_0 (.bin rfl rfl (Gg (by omega))) h0.h|exact o_0 (.bin rfl rfl (bU8_add (by omega))) h0.h)|(apply k_sub;first|exact o_0 (.bin rfl rfl (iD (by omega))) h0.h|exact o_0 (.bin rfl rfl (Ga (by omega))) h0.h|exact o_0 (.bin rfl rfl (Ge (by omega))) h0.h|exact o_0 (.bin rfl rfl (bU8_sub (by omega))) h0.h)|(apply k_mul;first|exact o_0 (.bin rfl rfl (pI (by omega))) h0.h|exact o_0 (.bin rfl rfl (Gc (by omega))) h0.h)|(apply k_quo;first|exact o_0 (.bin rfl rfl (Gh (by omega))) h0.h|exact o_0 (.bin rfl rfl (zG (by omega))) h0.h|exact o_0 (.bin rfl rfl (zH (by omega))) h0.h)|(apply k_rem;first|exact o_0 (.bin rfl rfl (uv (by omega))) h0.h|exact o_0 (.bin rfl rfl (Gb (by omega))) h0.h|exact o_0 (.bin rfl rfl (Gf (by omega))) h0.h|exact o_0 (.bin rfl rfl (bU8_rem (by omega))) h0.h))
 |(apply k_call;first|(apply k_len;first|exact o_0 (.lenD rfl rfl rfl rfl TE.h) h0.h|exact o_0 (.lenI rfl rfl rfl rfl TE.h) h0.h|exact o_0 (.lenP rfl rfl rfl rfl TE.h) h0.h|exact o_0 (.lenC rfl rfl rfl rfl TE.h) h0.h|exact o_0 (.lenR rfl rfl rfl rfl TE.h) h0.h|exact o_0 (.len rfl rfl rfl rfl rfl TE.h) h0.h)|(apply Fc;first|exact o_1 (.append_e rfl rfl rfl TE.h rfl rfl rfl (.lsl rfl (nle rfl)) (by first|assumption|(simp;done)) TZ.h rfl TB.h (by first|rfl|assumption|(simp;done)|(simp;omega)|omega) (by first|(simp[maxLen];done)|(simp[maxLen];omega))) h0.h|exact o_2 (.append_l rfl rfl rfl TE.h rfl rfl rfl rfl rfl (by first|rfl|assumption|(simp;done)|(simp;omega)|omega) (by first|exact eI _|exact eF _|exact ec _|exact eN _|exact eo _|rfl|simp) (by first|rfl|exact eI _|exact eF _|exact ec _|exact eN _|exact eo _|simp) rfl (.lsl rfl (nle rfl)) TZ.h rfl TB.h (by first|rfl|assumption|(simp;done)|(simp;omega)|omega) (by first|(simp[maxLen];done)|(simp[maxLen];omega))) h0.h)|exact o_0 (.builtinV (vs:=[_,_]) rfl rfl bmin) h0.h|exact o_0 (.builtinV (vs:=[_,_]) rfl rfl bmax) h0.h)
 |(apply k_index;first|exact o_0 (.index_l rfl rfl (by omega) (by omega) TE.h) h0.h|exact o_0 (.index_a rfl rfl (by omega) rfl rfl TE.h) h0.h|exact o_0 (.index_a rfl rfl (by omega) (by assumption) (by rfl) TE.h) h0.h)
 |(apply Fb;exact o_0 (.assign rfl) h0.h)
 |(apply k_store;exact fk (.store rfl rfl rfl rfl rfl rfl TS.h (nle rfl)) h0.h)
 |(apply Dx;exact o_0 (.extract rfl rfl) h0.h)
 |(apply k_box;exact o_1 (.box rfl rfl) h0.h)
 |(apply k_alloc;exact o_1 (.alloc TZ.h) h0.h)
 |(apply k_conv;first|exact o_0 (.conv rfl (cI64 (by omega) TU.h TU.h)) h0.h|exact o_0 (.conv rfl (cU64 (by omega) TU.h TU.h)) h0.h|exact o_0 (.conv rfl (cU32 (by omega) TU.h TU.h)) h0.h|exact o_0 (.conv rfl (cU8 (by omega) TU.h TU.h)) h0.h)
 |(apply k_field;first|exact o_0 (.field1 rfl TF.h TA.h rfl) h0.h|exact o_0 (.field rfl TF.h TA.h (nle rfl)) h0.h)
 |(apply k_nilc;exact o_0 (.nilCheck rfl rfl) h0.h)
 |(apply k_pick;first|exact o_0 (.pick rfl (fun _=>rfl) (fun _=>rfl)) h0.h|exact o_0 (.pick rfl (fun _=>rfl) (fun h=>absurd h (by decide))) h0.h|exact o_0 (.pick rfl (fun h=>absurd h (by decide)) (fun _=>rfl)) h0.h)
 |(apply k_un;first|exact o_0 (.un rfl jR) h0.h|exact o_0 (.un rfl (Eh (by omega))) h0.h)
 |(apply k_build;exact o_0 (.build TZ.h TP.h rfl rfl) h0.h)
 |exact o_0 (.makeFunc rfl rfl) h0.h
 |exact o_1 (.buildSlice TE.h TZ.h rfl (by decide) rfl rfl rfl (by first|(simp;done)|(simp[dc,ofV];done)|rfl)) h0.h
 |exact o_1 (.makeSlice rfl rfl TE.h TZ.h rfl TB.h (by first|omega|(simp;done)|(simp;omega)) (by first|omega|(simp;done)|(simp;omega)) (by unfold maxLen;first|omega|(simp;done)|(simp;omega))) h0.h
 |exact o_0 (.lookup rfl rfl TU.h TU.h rfl rfl rfl) h0.h
 |exact g_y rfl rfl h0.h
 |exact g_n rfl rfl rfl rfl rfl h0.h
 |exact g_nn rfl rfl rfl rfl h0.h):p:=f ⟨h⟩
theorem a_2(h:q)(f:Hid q→p:=by intro h0;(iterate 2 (refine a_1 ?_));exact h0.h):p:=f ⟨h⟩
theorem a_3(h:q)(f:Hid q→p:=by intro h0;(iterate 3 (refine a_1 ?_));exact h0.h):p:=f ⟨h⟩
theorem a_4(h:q)(f:Hid q→p:=by intro h0;(iterate 4 (refine a_1 ?_));exact h0.h):p:=f ⟨h⟩
theorem a_5(h:q)(f:Hid q→p:=by intro h0;(iterate 5 (refine a_1 ?_));exact h0.h):p:=f ⟨h⟩
theorem a_6(h:q)(f:Hid q→p:=by intro h0;(iterate 6 (refine a_1 ?_));exact h0.h):p:=f ⟨h⟩
theorem a_7(h:q)(f:Hid q→p:=by intro h0;(iterate 7 (refine a_1 ?_));exact h0.h):p:=f ⟨h⟩
theorem a_8(h:q)(f:Hid q→p:=by intro h0;(iterate 8 (refine a_1 ?_));exact h0.h):p:=f ⟨h⟩
theorem a_z(h:q)(f:Hid q→p:=by intro h0;(repeat (refine a_1 ?_));exact an h0.h):p:=f ⟨h⟩
theorem c_s{A:Prop}(c:A)(h:q)(f:A→Hid q→p:=by intro c0 h0;(repeat (refine a_1 ?_));first|exact ay (.call rfl rfl rfl c0) rfl rfl h0.h|exact AR.op0n (.call rfl rfl rfl c0) rfl h0.h):p:=f c ⟨h⟩
section
variable {P:Program}{ops:Array Oper}{nx n:Nat}{fr:Fr}{hp:Hp}
theorem r_z{ρ:Option Nat}{Q:Exit→AState→Prop}{id:Nat}{y:Code}(m:Nat)(h:q)(f:Hid q→AR P ops nx n 0 ops.toList fr hp fun _ f h=>jI (AWp ρ P y Q) Q .normal ⟨f,h,nx+m,n⟩:=by intro h0;(repeat (refine a_1 ?_));exact an h0.h)(hsz:ops.size=m:=by exact rfl):AWp ρ P (.seq (.region id ops false) y) Q ⟨fr,hp,nx,n⟩:=s_r m (f ⟨h⟩) hsz
theorem r_c{A:Prop}(m:Nat)(c:A){ρ:Option Nat}{Q:Exit→AState→Prop}{id:Nat}{y:Code}(h:q)(f:A→Hid q→AR P ops nx n 0 ops.toList fr hp fun _ f h=>jI (AWp ρ P y Q) Q .normal ⟨f,h,nx+m,n⟩:=by intro c0 h0;(repeat (refine a_1 ?_));first|exact ay (.call rfl rfl rfl c0) rfl rfl h0.h|exact AR.op0n (.call rfl rfl rfl c0) rfl h0.h)(hsz:ops.size=m:=by exact rfl):AWp ρ P (.seq (.region id ops false) y) Q ⟨fr,hp,nx,n⟩:=s_r m (f c ⟨h⟩) hsz
end
end
section
variable {p q:Prop}
section
variable {P:Program}{ops:Array Oper}{nx n j:Nat}{rest:List Oper}{fr:Fr}{hp:Hp}{K:Fps→Fr→Hp→Prop}{dst:Option Nat}{op:Op}{ty:Nat}{pos:String}{after:Array Edge}{g t d:Nat}{want b:Bool}
theorem g_u(ht:(ops[g]?).bind (·.dst)=some t)(hx:evF (look fr) (.tmp t)=some (.v undef))(hnd:bK op=true)(hd:Nat.blt d n=true)(h:AR P ops nx n (j+1) rest ((d,.v undef)::fr) hp fun fps f h=>K (([],[])::fps) f h):AR P ops nx n j (⟨some d,op,ty,pos,after,some (g,want)⟩::rest) fr hp K:=
 dM ht hx nofun hnd hd h
end
theorem w_1 (h:q) (f:Hid q→p:=by
 intro h0
 first
 |(apply k_lss;first|exact o_0 (.bin rfl rfl (vT cw (decide_eq_true (by omega)))) h0.h|exact o_0 (.bin rfl rfl (vF cw (decide_eq_false (by omega)))) h0.h)
 |(apply k_gtr;first|exact o_0 (.bin rfl rfl (vT cS (decide_eq_true (by omega)))) h0.h|exact o_0 (.bin rfl rfl (vF cS (decide_eq_false (by omega)))) h0.h)
 |(apply k_leq;first|exact o_0 (.bin rfl rfl (vT dY (decide_eq_true (by omega)))) h0.h|exact o_0 (.bin rfl rfl (vF dY (decide_eq_false (by omega)))) h0.h)
 |(apply k_geq;first|exact o_0 (.bin rfl rfl (vT ei (decide_eq_true (by omega)))) h0.h|exact o_0 (.bin rfl rfl (vF ei (decide_eq_false (by omega)))) h0.h)
 |(apply k_eql;first|exact o_0 (.bin rfl rfl (vT aJ (decide_eq_true (by omega)))) h0.h|exact o_0 (.bin rfl rfl (vF aJ (decide_eq_false (by omega)))) h0.h)):p:=f ⟨h⟩
theorem m_1 (h:q) (f:Hid q→p:=by
 intro h0
 first
 |(apply Fa;exact w_1 h0.h)
 |exact g_n rfl rfl rfl rfl rfl h0.h
 |exact g_nn rfl rfl rfl rfl h0.h
 |exact g_u rfl rfl rfl rfl h0.h
 |(refine g_y rfl rfl ?_;first|(apply Fa;exact w_1 h0.h)|exact a_1 h0.h)
 |exact a_1 h0.h):p:=f ⟨h⟩
theorem d_2(h:q)(f:Hid q→p:=by intro h0;(iterate 2 (refine m_1 ?_));exact h0.h):p:=f ⟨h⟩
theorem d_3(h:q)(f:Hid q→p:=by intro h0;(iterate 3 (refine m_1 ?_));exact h0.h):p:=f ⟨h⟩
theorem d_4(h:q)(f:Hid q→p:=by intro h0;(iterate 4 (refine m_1 ?_));exact h0.h):p:=f ⟨h⟩
theorem d_5(h:q)(f:Hid q→p:=by intro h0;(iterate 5 (refine m_1 ?_));exact h0.h):p:=f ⟨h⟩
theorem d_6(h:q)(f:Hid q→p:=by intro h0;(iterate 6 (refine m_1 ?_));exact h0.h):p:=f ⟨h⟩
theorem d_7(h:q)(f:Hid q→p:=by intro h0;(iterate 7 (refine m_1 ?_));exact h0.h):p:=f ⟨h⟩
theorem d_8(h:q)(f:Hid q→p:=by intro h0;(iterate 8 (refine m_1 ?_));exact h0.h):p:=f ⟨h⟩
theorem d_z(h:q)(f:Hid q→p:=by intro h0;(repeat (refine m_1 ?_));exact an h0.h):p:=f ⟨h⟩
theorem e_s{A:Prop}(c:A)(h:q)(f:A→Hid q→p:=by intro c0 h0;(repeat (refine m_1 ?_));first|exact ay (.call rfl rfl rfl c0) rfl rfl h0.h|exact g_y rfl rfl (ay (.call rfl rfl rfl c0) rfl rfl h0.h)|exact AR.op0n (.call rfl rfl rfl c0) rfl h0.h):p:=f c ⟨h⟩
section
variable {P:Program}{ops:Array Oper}{nx n:Nat}{fr:Fr}{hp:Hp}
theorem q_z{ρ:Option Nat}{Q:Exit→AState→Prop}{id:Nat}{y:Code}(m:Nat)(h:q)(f:Hid q→AR P ops nx n 0 ops.toList fr hp fun _ f h=>jI (AWp ρ P y Q) Q .normal ⟨f,h,nx+m,n⟩:=by intro h0;(repeat (refine m_1 ?_));exact an h0.h)(hsz:ops.size=m:=by exact rfl):AWp ρ P (.seq (.region id ops false) y) Q ⟨fr,hp,nx,n⟩:=s_r m (f ⟨h⟩) hsz
theorem q_c{A:Prop}(m:Nat)(c:A){ρ:Option Nat}{Q:Exit→AState→Prop}{id:Nat}{y:Code}(h:q)(f:A→Hid q→AR P ops nx n 0 ops.toList fr hp fun _ f h=>jI (AWp ρ P y Q) Q .normal ⟨f,h,nx+m,n⟩:=by intro c0 h0;(repeat (refine m_1 ?_));first|exact ay (.call rfl rfl rfl c0) rfl rfl h0.h|exact g_y rfl rfl (ay (.call rfl rfl rfl c0) rfl rfl h0.h)|exact AR.op0n (.call rfl rfl rfl c0) rfl h0.h)(hsz:ops.size=m:=by exact rfl):AWp ρ P (.seq (.region id ops false) y) Q ⟨fr,hp,nx,n⟩:=s_r m (f c ⟨h⟩) hsz
end
end
section
variable {p:Prop}{ρ:Option Nat}{P:Program}{Q:Exit→AState→Prop}{fr fr':Fr}{hp hp':Hp}{nx nx' n i T o:Nat}{r:AV}{xx:Operand}{es:Lc}{cs:La}
theorem d_t(h:p:=by first|rfl|assumption|exact decide_eq_true (by omega)|(simp;done)|(simp;omega)):p:=h
theorem d_f(h:p:=by first|rfl|assumption|exact decide_eq_false (by omega)|(simp;done)|(simp;omega)):p:=h
theorem d_n(h:p:=by first|exact nle rfl|(simp;done)|(simp;omega)):p:=h
theorem d_o(h:p:=by first|rfl|assumption|(simp;done)|(simp;omega)|omega):p:=h
theorem cT{st:AState}{c:Operand}{x y:Code}(h1:AWp ρ P x Q st)(hc:st.ev c=some (.v (.bool true)):=by exact rfl):AWp ρ P (.cond c x y) Q st:=aq hc (fun _=>h1) (fun e=>by cases e)
theorem cF{st:AState}{c:Operand}{x y:Code}(h1:AWp ρ P y Q st)(hc:st.ev c=some (.v (.bool false)):=by exact rfl):AWp ρ P (.cond c x y) Q st:=aq hc (fun e=>by cases e) (fun _=>h1)
theorem au_d(h:p:=by first|exact aY|(refine Cv.loE hs ?_ (ag _);assumption)|(refine Cv.boxp hs rfl (aP rfl) rfl ?_;assumption)):p:=h
theorem au_g(h:p:=by(first|exact bG|(refine cU hs ?_;first|assumption|exact aL _|exact eM _|exact fJ _|exact dq _)|(refine aM hs ?_ ?_;assumption;first|assumption|exact bz _|exact aL _|exact eM _|exact fJ _|exact dq _)|exact aw (CvL.clo hs (by first|assumption|exact aZ _|exact c8 _))|(refine aw ?_;repeat' (first|exact ax|refine af ?_ ?_)))<;> exact au_d):p:=h
theorem au_i(h:p:=by repeat' (first|exact aH|refine ao rfl ?_ ?_|exact au_d)):p:=h
theorem au_j(h:p:=by repeat' (first|exact aD|refine bi rfl rfl rfl rfl ?_ ?_|exact au_g)):p:=h
theorem s_f (l:List (Nat×Nat)) (hS:ShrL (rnm fr l nx') (au hp) hp':=by exact xt)
    (hF:Shr (rnm fr l nx') (au hp) (au hp')→CvF (rnm fr l nx') (au hp) (au hp') fr fr':=by exact fun hs=>au_i)
    (hH:Shr (rnm fr l nx') (au hp) (au hp')→CvH (rnm fr l nx') (au hp) (au hp') hp':=by exact fun hs=>au_j)
    (hk:Nat.blt 0 nx'=true:=by exact rfl) (h0:(rnm fr l nx').s 0=0:=by exact rfl) (hinj:lu (rnm fr l nx') (hp'.map (·.1))=true:=by exact rfl):SEnt ⟨fr,hp,nx,n⟩ ⟨fr',hp',nx',n⟩:=
 di l hk h0 hinj hS hF hH
theorem s_t (l:List (Nat×Nat)) (hS:ShrL (rnm fr l nx') (au hp) hp':=by exact xt)
    (hF:Shr (rnm fr l nx') (au hp) (au hp')→CvF (rnm fr l nx') (au hp) (au hp') fr fr':=by exact fun hs=>au_i)
    (hH:Shr (rnm fr l nx') (au hp) (au hp')→CvH (rnm fr l nx') (au hp) (au hp') hp':=by exact fun hs=>au_j)
    (hk:Nat.blt 0 nx'=true:=by exact rfl) (h0:(rnm fr l nx').s 0=0:=by exact rfl) (hinj:lu (rnm fr l nx') (hp'.map (·.1))=true:=by exact rfl):SEntT ⟨fr,hp,nx,n⟩ ⟨fr',hp',nx',n⟩:=
 SEntT.to l hk h0 hinj hS hF hH
class T4 (P:Program) (t:Nat) (z:outParam (List Value)) (s:outParam Nat) (g:outParam Bool) (b:outParam Nat):Prop where h:(fo P t,iI P t,fm P t,qL P t)=(some z,some s,some g,some b)
class T3 (P:Program) (t:Nat) (s:outParam Nat) (g:outParam Bool) (b:outParam Nat):Prop where h:(iI P t,fm P t,qL P t)=(some s,some g,some b)
class T2 (P:Program) (t i:Nat) (v:outParam (Nat×Nat)) (g:outParam Bool):Prop where h:(lR P t i,mh P t i)=(some v,some g)
section
variable {P:Program}{t i s b:Nat}{z:List Value}{g:Bool}{v:Nat×Nat}
instance [c:T4 P t z s g b]:T3 P t s g b:=⟨congrArg (·.2) c.h⟩
instance [c:T4 P t z s g b]:TZ P t z:=⟨congrArg (·.1) c.h⟩
instance [c:T3 P t s g b]:TS P t s:=⟨congrArg (·.1) c.h⟩
instance [c:T3 P t s g b]:TG P t g:=⟨congrArg (·.2.1) c.h⟩
instance [c:T3 P t s g b]:TB P t b:=⟨congrArg (·.2.2) c.h⟩
instance [c:T2 P t i v g]:TF P t i v:=⟨congrArg (·.1) c.h⟩
instance [c:T2 P t i v g]:TA P t i g:=⟨congrArg (·.2) c.h⟩
end
theorem h_c{r:Ren}{hp hp':Hq}{B B0:ABlk}{l:Hp}(hc:CvLL r hp hp' B0.es B.es)(hl:CvH r hp hp' l)(hi:Nat.blt i r.n=true:=by exact rfl)(h:hp (r.s i)=some B0:=by exact rfl)(ht:B0.ty=B.ty:=by exact rfl)(hz:B0.sz=B.sz:=by exact rfl):CvH r hp hp' ((i,some B)::l):=bi hi h ht hz hc hl
theorem s_x (l:List (Nat×Nat))
    (hF:Shr (rnm fr l nx') (au hp) (au hp')→CvF (rnm fr l nx') (au hp) (au hp') fr fr')
    (hH:Shr (rnm fr l nx') (au hp) (au hp')→CvH (rnm fr l nx') (au hp) (au hp') hp') (hS:ShrL (rnm fr l nx') (au hp) hp':=by exact xt)
    (hk:Nat.blt 0 nx'=true:=by exact rfl) (h0:(rnm fr l nx').s 0=0:=by exact rfl) (hinj:lu (rnm fr l nx') (hp'.map (·.1))=true:=by exact rfl):SEnt ⟨fr,hp,nx,n⟩ ⟨fr',hp',nx',n⟩:=
 di l hk h0 hinj hS hF hH
theorem s_y (l:List (Nat×Nat))
    (hF:Shr (rnm fr l nx') (au hp) (au hp')→CvF (rnm fr l nx') (au hp) (au hp') fr fr')
    (hH:Shr (rnm fr l nx') (au hp) (au hp')→CvH (rnm fr l nx') (au hp) (au hp') hp') (hS:ShrL (rnm fr l nx') (au hp) hp':=by exact xt)
    (hk:Nat.blt 0 nx'=true:=by exact rfl) (h0:(rnm fr l nx').s 0=0:=by exact rfl) (hinj:lu (rnm fr l nx') (hp'.map (·.1))=true:=by exact rfl):SEntT ⟨fr,hp,nx,n⟩ ⟨fr',hp',nx',n⟩:=
 SEntT.to l hk h0 hinj hS hF hH
theorem s_z (l:List (Nat×Nat))
    (hF:Shr (jw fr l nx') (au hp) (au hp')→CvF (jw fr l nx') (au hp) (au hp') fr fr')
    (hH:Shr (jw fr l nx') (au hp) (au hp')→CvH (jw fr l nx') (au hp) (au hp') hp') (hS:ShrL (jw fr l nx') (au hp) hp':=by exact xt)
    (hk:Nat.blt 0 nx'=true:=by exact rfl) (h0:(jw fr l nx').s 0=0:=by exact rfl) (hinj:lu (jw fr l nx') (hp'.map (·.1))=true:=by exact rfl):SEnt ⟨fr,hp,nx,n⟩ ⟨fr',hp',nx',n⟩:=
 SEnt.to2 l hk h0 hinj hS hF hH
theorem f_n{f:Nat}{fn:Func}{c:Code}{args:La}{rs:List ResultVar}{m:Nat}(hf:P.funcs[f]?=some fn)(hcl:∀a∈args,Closed a)(h:AWp none P c (Fin P rs r) ⟨fr,[],1,m⟩)(hb:fn.body=some c:=by exact rfl)(hrs:fn.results.toList=rs:=by exact rfl)(hm:fn.ntmps=m:=by exact rfl)(hn:Nat.ble args.length m=true:=by exact rfl)(hfr:dh 0 args=fr:=by exact rfl)(hname:(fn.name== "runtime.NumGoroutine")=false:=by kernel_rfl):FSpec P f args r:=rk hf hb hname hrs hm hn hcl hfr h
theorem f_c{f:Nat}{fn:Func}{c:Code}{args:La}{rs:List ResultVar}{m:Nat}(hf:P.funcs[f]?=some fn)(h:AWp none P c (Fin P rs r) ⟨fr,[],1,m⟩)(hcl:∀a∈args,Closed a:=by repeat' (first|exact ai|exact ag _|assumption|exact bU _|exact bz _|exact vv _|exact aZ _|exact aL _|exact cf _ _|exact dk _|exact dq _|exact c8 _|exact fJ _|exact cu _|exact aQ _|exact gu _|exact eM _|refine ae ?_ ?_|refine aG ?_|refine aR ?_|refine ba ?_))(hb:fn.body=some c:=by exact rfl)(hrs:fn.results.toList=rs:=by exact rfl)(hm:fn.ntmps=m:=by exact rfl)(hn:Nat.ble args.length m=true:=by exact rfl)(hfr:dh 0 args=fr:=by exact rfl)(hname:(fn.name== "runtime.NumGoroutine")=false:=by kernel_rfl):FSpec P f args r:=rk hf hb hname hrs hm hn hcl hfr h
section
variable {P:Program}{ops:Array Oper}{nx n j:Nat}{rest:List Oper}{fr:Fr}{hp:Hp}{K:Fps→Fr→Hp→Prop}{d:Nat}{op:Op}{ty:Nat}{pos:String}{after:Array Edge}{a:AV}{rd:Ln}{g t:Nat}{b want:Bool}{x:Value}
theorem n_k{q s:Prop}(h:s)(h0:q:=by kernel_rfl):q∧s:=⟨h0,h⟩
def gv(ops:Array Oper)(g:Nat)(fr:Fr):Option Bool:=((ops[g]?).bind (·.dst)).bind fun t=>(evF (look fr) (.tmp t)).bind fun a=>match a with| .v (.bool b)=>some b|_=>none
theorem gv_of(h:gv ops g fr=some b):∃t,(ops[g]?).bind (·.dst)=some t∧evF (look fr) (.tmp t)=some (.v (.bool b)):=by
 obtain⟨t,h1,h2⟩:=Option.bind_eq_some_iff.1 h;obtain⟨a,h3,h4⟩:=Option.bind_eq_some_iff.1 h2;grind
theorem n_g(hx:gv ops g fr=some b)(hb:b=!want)(h:AR P ops nx n (j+1) rest ((d,.v undef)::fr) hp fun fps f h=>K (([],[])::fps) f h)(hnd:bK op=true:=by exact rfl)(hd:Nat.blt d n=true:=by exact rfl):AR P ops nx n j (⟨some d,op,ty,pos,after,some (g,want)⟩::rest) fr hp K:=by
 obtain⟨t,ht,hx⟩:=gv_of hx;exact dM ht hx (gn hb) hnd hd h
theorem y_g(hx:gv ops g fr=some b)(hb:b=want)(hs:AEval P (nx+j) (evF (look fr)) (au hp) op ⟨a,[]⟩ rd)(h:AR P ops nx n (j+1) rest ((d,a)::fr) hp fun fps f h=>K (([],rd)::fps) f h)(hnd:bK op=true:=by exact rfl)(hd:Nat.blt d n=true:=by exact rfl):AR P ops nx n j (⟨some d,op,ty,pos,after,some (g,want)⟩::rest) fr hp K:=by
 obtain⟨t,ht,hx⟩:=gv_of hx;exact aE ht hx (gy hb) hs hnd hd h
theorem i_x{E:Nat}{sz:Nat}{ix:Operand}{kd:IntKind}{z:Int}[TE P T (E,sz)](hg:es[z.toNat]?=some cs)(h:AR P ops nx n (j+1) rest ((d,.aptr es z.toNat 0)::fr) hp fun fps f h=>K (([],[])::fps) f h)(h1:evF (look fr) xx=some (.arr es):=by exact rfl)(h2:evF (look fr) ix=some (.v (.int kd z)):=by exact rfl)(h3:0≤z:=by omega)(h4:cs.length=sz:=by exact rfl)(hd:Nat.blt d n=true:=by exact rfl):AR P ops nx n j (⟨some d,.indexAddr T xx ix,ty,pos,after,none⟩::rest) fr hp K:=ay (.index_a h1 h2 h3 hg h4 TE.h) rfl hd h
theorem l_x{k:Nat}[TG P T true][TS P T k](hg:es[i]?=some cs)(h:AR P ops nx n (j+1) rest ((d,.agg ((cs.drop o).take k))::fr) hp fun fps f h=>K (([],[])::fps) f h)(h1:evF (look fr) xx=some (.aptr es i o):=by exact rfl)(h2:Nat.ble (o+k) cs.length=true:=by exact rfl)(hd:Nat.blt d n=true:=by exact rfl):AR P ops nx n j (⟨some d,.load T xx,ty,pos,after,none⟩::rest) fr hp K:=ay (.load_a h1 hg TG.h TS.h (Nat.le_of_ble_eq_true h2)) rfl hd h
theorem l_1{c:AV}[TG P T false](hg:es[i]?=some cs)(h:AR P ops nx n (j+1) rest ((d,c)::fr) hp fun fps f h=>K (([],[])::fps) f h)(h1:evF (look fr) xx=some (.aptr es i o):=by exact rfl)(h2:cs[o]?=some c:=by exact rfl)(hd:Nat.blt d n=true:=by exact rfl):AR P ops nx n j (⟨some d,.load T xx,ty,pos,after,none⟩::rest) fr hp K:=ay (.load_a1 h1 hg TG.h h2) rfl hd h
theorem r_m{id:Nat}(m:Nat)(h:AR P ops nx n 0 ops.toList fr hp fun _ f h=>Q .normal ⟨f,h,nx+m,n⟩)(hsz:ops.size=m:=by exact rfl):AWp ρ P (.region id ops false) Q ⟨fr,hp,nx,n⟩:=C6 hsz h
theorem r_d{id:Nat}(hm:P.follows .mixedOrders=true)(m:Nat)(h:AR P ops nx n 0 ops.toList fr hp fun fps f h=>qW ops fps=true∧Q .normal ⟨f,h,nx+m,n⟩)(hsz:ops.size=m:=by exact rfl):AWp ρ P (.region id ops true) Q ⟨fr,hp,nx,n⟩:=Gm hm hsz h
theorem c_e{e k:Nat}{B:ABlk}[TG P T true][TS P T k](hc:Closed r)(h:look fr t=some (.lptr i e o):=by exact rfl)(hb:dz (au hp) i=some B:=by exact rfl)(he:B.es[e]?=some cs:=by exact rfl)(hl:Nat.ble (o+k) cs.length=true:=by exact rfl)(h2:AV.agg ((cs.drop o).take k)=r:=by exact rfl):Fin P [.cell t T] r .ret ⟨fr,hp,nx,n⟩:=dt h hb he TG.h TS.h (Nat.le_of_ble_eq_true hl) h2 hc
theorem t_e{r0:AV}(hc:Closed r)(h:look fr t=some r0:=by exact rfl)(e:r0=r:=by exact rfl):Fin P [.tmp t] r .ret ⟨fr,hp,nx,n⟩:=aN h e hc
end
end
theorem e_1{p:Prop}(h:p:=by repeat' (first|exact ShrL.nil|refine ShrL.cons rfl rfl rfl rfl (by first|(simp)|rfl|(simp;done)|(simp <;> omega)) ?_)):p:=h
theorem e_2{p:Prop}(h:p:=by repeat' (first|exact aH|refine ao rfl ?_ ?_|exact ah hs (ce L)|exact ah hs (bC d)|exact aY)):p:=h
theorem e_3{p:Prop}(h:p:=by repeat' (first|exact aH|refine ao rfl ?_ ?_|exact ah hs (ba (aZ q))|exact aY)):p:=h
theorem e_4{p:Prop}(h:p:=by repeat' (first|exact aD|refine h_c ?_ ?_|exact bG|refine aw ?_|exact ax|refine af ?_ ?_|exact ah hs (ba (aZ q))|exact aY)):p:=h
theorem e_5{p:Prop}(h:p:=by repeat' (first|exact aH|refine ao rfl ?_ ?_|exact ah hs (aV ai hcap)|exact aY)):p:=h
theorem e_6{p:Prop}(h:p:=by repeat' (first|exact aD|refine h_c ?_ ?_|exact cU hs (ae (aZ c) ai)|exact bG)):p:=h
theorem e_7{p:Prop}(h:p:=by repeat' (first|exact aD|refine h_c ?_ ?_|exact cU hs (aL _)|exact aw (CvL.clo hs (aZ _))|exact aw (CvL.clo hs bH)|exact bG|refine aw ?_|exact ax|refine af ?_ ?_|exact ah hs (ce L)|exact ah hs (bC d)|exact aY)):p:=h
theorem e_8{p:Prop}(h:p:=by repeat' (first|exact aD|refine h_c ?_ ?_|exact bG|refine aw ?_|exact ax|refine af ?_ ?_|exact ah hs (aV ai hcap)|exact aY)):p:=h
theorem e_9{p:Prop}(h:p:=by repeat' (first|exact aH|refine ao rfl ?_ ?_|exact ah hs hcc|exact ah hs (ce L)|exact aY)):p:=h
theorem e_10{p:Prop}(h:p:=by repeat' (first|exact aD|refine h_c ?_ ?_|exact bG|refine aw ?_|exact ax|refine af ?_ ?_|exact ah hs hcc|exact ah hs (ce L)|exact aY)):p:=h
theorem e_11{p:Prop}(h:p:=by repeat' (first|exact aD|refine h_c ?_ ?_|exact aM hs e (fJ _)|exact bG)):p:=h
theorem e_12{p:Prop}(h:p:=by repeat' (first|exact aH|refine ao rfl ?_ ?_|exact ah hs (bw s)|exact ah hs (aQ z)|exact ah hs (ap _)|exact aY)):p:=h
theorem e_13{p:Prop}(h:p:=by repeat' (first|exact aD|refine h_c ?_ ?_|exact bG|refine aw ?_|exact ax|refine af ?_ ?_|exact ah hs (bw s)|exact ah hs (aQ z)|exact ah hs (ap _)|exact aY)):p:=h
theorem e_14{p:Prop}(h:p:=by repeat' (first|exact aH|refine ao rfl ?_ ?_|exact ah hs (aR (eJ l))|exact aY)):p:=h
theorem e_15{p:Prop}(h:p:=by repeat' (first|exact aD|refine h_c ?_ ?_|(refine aM hs ?_ (bz _);rw[hI];exact hset _)|exact bG)):p:=h
theorem e_16{p:Prop}(h:p:=by repeat' (first|exact aD|refine h_c ?_ ?_|exact CvLL.nil|exact bG)):p:=h
theorem e_17{p:Prop}(h:p:=by repeat' (first|exact aH|refine ao rfl ?_ ?_|exact ah hs na|exact aY)):p:=h
theorem e_18{p:Prop}(h:p:=by repeat' (first|exact aH|refine ao rfl ?_ ?_|exact ah hs (b8 _)|exact aY)):p:=h
theorem e_19{p:Prop}(h:p:=by repeat' (first|exact aD|refine h_c ?_ ?_|exact aw (CvL.clo hs oh)|exact aw (CvL.clo hs (c8 _))|exact bG|refine aw ?_|exact ax|refine af ?_ ?_|exact ah hs (b8 _)|exact aY)):p:=h
theorem e_20{p:Prop}(h:p:=by repeat' (first|exact aD|refine h_c ?_ ?_|(refine aM hs ?_ (bz _);rw[hv1];exact hset _)|exact bG)):p:=h
theorem e_21{p:Prop}(h:p:=by repeat' (first|exact aD|refine h_c ?_ ?_|(refine aM hs ?_ (bz _);exact hset _)|exact bG)):p:=h
theorem e_22{p:Prop}(h:p:=by repeat' (first|exact ShrL.nil|refine ShrL.cons rfl rfl rfl rfl (by first|(exact(congrArg List.length hcp).trans (by simp))|rfl|(simp;done)|(simp <;> omega)) ?_)):p:=h
theorem e_23{p:Prop}(h:p:=by repeat' (first|exact aD|refine h_c ?_ ?_|exact aM hs hcp (bz _)|exact bG)):p:=h
theorem e_24{p:Prop}(h:p:=by repeat' (first|exact aH|refine ao rfl ?_ ?_|exact Cv.sealE hs rfl (aP rfl) rfl (by simp;omega) (bz _)|exact aY)):p:=h
theorem e_25{p:Prop}(h:p:=by repeat' (first|exact aD|refine h_c ?_ ?_|exact bG|refine aw ?_|exact ax|refine af ?_ ?_|exact Cv.sealE hs rfl (aP rfl) rfl (by simp;omega) (bz _)|exact aY)):p:=h
theorem e_26{p:Prop}(h:p:=by repeat' (first|exact aD|refine h_c ?_ ?_|exact CvLL.zeros hs _|exact bG)):p:=h
theorem e_27{p:Prop}(h:p:=by repeat' (first|exact aD|refine h_c ?_ ?_|exact aM hs hst2 (aL _)|exact bG)):p:=h
theorem e_28{p:Prop}(h:p:=by repeat' (first|exact aD|refine h_c ?_ ?_|exact aM hs (E3 L i x _ (by omega)) (dp _)|exact bG)):p:=h
theorem e_29{p:Prop}(h:p:=by repeat' (first|exact aD|refine h_c ?_ ?_|exact aM hs (E3 L (i- 1) x _ (by omega)) (dp _)|exact bG)):p:=h
theorem e_30{p:Prop}(h:p:=by repeat' (first|exact aD|refine h_c ?_ ?_|exact aM hs ex.symm (aL _)|exact aM hs et.symm (aL _)|exact aw (CvL.clo hs (aZ _))|exact aw (CvL.clo hs bH)|exact bG|refine aw ?_|exact ax|refine af ?_ ?_|exact ah hs (ce L)|exact ah hs (bC d)|exact aY)):p:=h
theorem e_31{p:Prop}(h:p:=by repeat' (first|exact aD|refine h_c ?_ ?_|exact aM hs ey.symm (aL _)|exact aw (CvL.clo hs (aZ _))|exact aw (CvL.clo hs bH)|exact bG|refine aw ?_|exact ax|refine af ?_ ?_|exact ah hs (ce L)|exact ah hs (bC d)|exact aY)):p:=h
theorem e_32{p:Prop}(h:p:=by repeat' (first|exact aH|refine ao rfl ?_ ?_|exact ah hs (bC d)|exact aY)):p:=h
theorem e_33{p:Prop}(h:p:=by repeat' (first|exact aD|refine h_c ?_ ?_|exact aM hs hsn.symm (dp _)|exact aw (CvL.clo hs oj)|exact bG|refine aw ?_|exact ax|refine af ?_ ?_|exact ah hs (bC d)|exact aY)):p:=h
theorem e_34{p:Prop}(h:p:=by repeat' (first|exact aH|refine ao rfl ?_ ?_|exact ah hs (aQ _)|exact ah hs (ap _)|exact aY)):p:=h
theorem e_35{p:Prop}(h:p:=by repeat' (first|exact aH|refine ao rfl ?_ ?_|exact ah hs hcc|exact ah hs (ap _)|exact aY)):p:=h
theorem e_36{p:Prop}(h:p:=by repeat' (first|exact aD|refine h_c ?_ ?_|exact bG|refine aw ?_|exact ax|refine af ?_ ?_|exact ah hs hcc|exact ah hs (ap _)|exact aY)):p:=h
theorem e_37{p:Prop}(h:p:=by repeat' (first|exact ShrL.nil|refine ShrL.cons rfl rfl rfl rfl (by first|rfl|(simp;done)|(simp[hX]<;> omega)) ?_)):p:=h
theorem e_38{p:Prop}(h:p:=by repeat' (first|exact aH|refine ao rfl ?_ ?_|exact aY|(refine Cv.loE hs ?_ (ag _);first|rfl|(simp[i64,u64,u32,bln,hX];done)|(simp[i64,u64,u32,bln,hX]<;> omega)))):p:=h
theorem e_39{p:Prop}(h:p:=by repeat' (first|exact aD|refine h_c ?_ ?_|exact bG|(refine aM hs ?_ (dq _);first|(simp[n8,mS,ja,hX];done)|(simp[iE,i64,ofV,hX];done))|refine aw ?_|exact ax|refine af ?_ ?_|exact aY|(refine Cv.loE hs ?_ (ag _);first|(simp[i64,u64,u32,bln,hX];done)|(simp[i64,u64,u32,bln,hX]<;> omega)))):p:=h
theorem e_40{p:Prop}(h:p:=by repeat' (first|exact ShrL.nil|refine ShrL.cons rfl rfl rfl rfl (by first|(exact congrArg List.length hset)|rfl|(simp;done)|(simp <;> omega)) ?_)):p:=h
theorem e_41{p:Prop}(h:p:=by repeat' (first|exact aD|refine h_c ?_ ?_|exact aM hs e (dq _)|exact bG)):p:=h
theorem e_42{p:Prop}(h:p:=by repeat' (first|exact aH|refine ao rfl ?_ ?_|exact ah hs (fK _)|exact aY)):p:=h
theorem e_43{p:Prop}(h:p:=by repeat' (first|exact aH|refine ao rfl ?_ ?_|exact ah hs (aR (dU l))|exact aY)):p:=h
theorem e_44{p:Prop}(h:p:=by repeat' (first|exact aH|refine ao rfl ?_ ?_|exact Cv.boxp hs rfl (aP rfl) rfl (cf _ _)|exact Cv.boxp hs rfl (aP rfl) rfl (aZ _)|exact Cv.sealE hs rfl (aP rfl) rfl rfl (aL [s.1,s.2])|exact Cv.loE hs rfl (ag _)|exact aY)):p:=h
theorem e_45{p:Prop}(h:p:=by repeat' (first|exact aD|refine h_c ?_ ?_|exact bG|refine aw ?_|exact ax|refine af ?_ ?_|exact Cv.boxp hs rfl (aP rfl) rfl (cf _ _)|exact Cv.boxp hs rfl (aP rfl) rfl (aZ _)|exact Cv.sealE hs rfl (aP rfl) rfl rfl (aL [s.1,s.2])|exact Cv.loE hs rfl (ag _)|exact aY)):p:=h
theorem e_46{p:Prop}(h:p:=by repeat' (first|exact aH|refine ao rfl ?_ ?_|exact ah hs (bw s)|exact ah hs (lJ _ _ _ _)|exact ah hs (ap _)|exact aY)):p:=h
theorem e_47{p:Prop}(h:p:=by repeat' (first|exact aD|refine h_c ?_ ?_|exact bG|refine aw ?_|exact ax|refine af ?_ ?_|exact ah hs (bw s)|exact ah hs (lJ _ _ _ _)|exact ah hs (ap _)|exact aY)):p:=h
theorem e_48{p:Prop}(h:p:=by repeat' (first|exact aH|refine ao rfl ?_ ?_|exact Cv.boxp hs rfl (aP rfl) rfl (cf _ _)|exact Cv.boxp hs rfl (aP rfl) rfl (aZ _)|exact aY)):p:=h
theorem e_49{p:Prop}(h:p:=by repeat' (first|exact aD|refine h_c ?_ ?_|exact aw (CvL.clo hs ga)|exact bG|refine aw ?_|exact ax|refine af ?_ ?_|exact Cv.boxp hs rfl (aP rfl) rfl (cf _ _)|exact Cv.boxp hs rfl (aP rfl) rfl (aZ _)|exact aY)):p:=h
theorem e_50{p:Prop}(h:p:=by repeat' (first|exact aH|refine ao rfl ?_ ?_|exact ah hs (bw s)|exact ah hs (aQ w)|exact ah hs (ap _)|exact aY)):p:=h
theorem e_51{p:Prop}(h:p:=by repeat' (first|exact aD|refine h_c ?_ ?_|exact aM hs ex.symm (aL _)|exact aw (CvL.clo hs ga)|exact bG|refine aw ?_|exact ax|refine af ?_ ?_|exact ah hs (bw s)|exact ah hs (aQ w)|exact ah hs (ap _)|exact aY)):p:=h
theorem e_52{p:Prop}(h:p:=by repeat' (first|exact aH|refine ao rfl ?_ ?_|exact ah hs (bw s)|exact ah hs (aQ _)|exact ah hs (ap _)|exact aY)):p:=h
theorem e_53{p:Prop}(h:p:=by repeat' (first|exact aD|refine h_c ?_ ?_|exact aM hs ex.symm (aL _)|exact aM hs hsn.symm (dp _)|exact aw (CvL.clo hs ga)|exact aw (af (ah hs (ap _)) (af (Cv.sl rfl rfl rfl) (af (ah hs aS) ax)))|exact bG|refine aw ?_|exact ax|refine af ?_ ?_|exact ah hs (bw s)|exact ah hs (aQ _)|exact ah hs (ap _)|exact aY)):p:=h
theorem e_54{p:Prop}(h:p:=by repeat' (first|exact aH|refine ao rfl ?_ ?_|exact ah hs hRc|exact ah hs (ap _)|exact aY)):p:=h
theorem e_55{p:Prop}(h:p:=by repeat' (first|exact aD|refine h_c ?_ ?_|exact bG|refine aw ?_|exact ax|refine af ?_ ?_|exact ah hs hRc|exact ah hs (ap _)|exact aY)):p:=h
theorem e_56{p:Prop}(h:p:=by repeat' (first|exact aD|refine h_c ?_ ?_|exact aM hs ex.symm (aL _)|exact aM hs ey.symm (aL _)|exact aw (CvL.clo hs (ae aS (ae aS (ae aS ai))))|exact aw (af (Cv.sl rfl rfl rfl) (af (Cv.sl rfl rfl rfl) (af (ah hs aS) ax)))|exact bG|refine aw ?_|exact ax|refine af ?_ ?_|exact ah hs (aR (eJ l))|exact aY)):p:=h
theorem e_57{p:Prop}(h:p:=by repeat' (first|exact aH|refine ao rfl ?_ ?_|exact ah hs ca|exact Cv.boxp hs rfl (aP rfl) rfl cG|exact ah hs cp|exact ah hs crp|exact aY)):p:=h
theorem e_58{p:Prop}(h:p:=by repeat' (first|exact aD|refine h_c ?_ ?_|exact bG|refine aw ?_|exact ax|refine af ?_ ?_|exact ah hs ca|exact Cv.boxp hs rfl (aP rfl) rfl cG|exact ah hs cp|exact ah hs crp|exact aY)):p:=h
end Go.Abs
