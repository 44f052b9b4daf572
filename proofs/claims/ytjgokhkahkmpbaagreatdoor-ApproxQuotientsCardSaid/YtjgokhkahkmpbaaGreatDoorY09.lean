/- Part Y09 of the proof. -/
import Derived.Test.YtjgokhkahkmpbaaGreatDoorY08
set_option linter.all false
namespace Go.Abs
section
variable {p:Prop}
theorem aX(h:p:=by first|exact ah hs (ag _)|exact Cv.ptr rfl rfl rfl|exact Cv.sl rfl rfl rfl|exact Cv.slN rfl rfl rfl|exact ah hs aK|(refine ah hs ?_;first|assumption|exact c6 _|exact cg _|exact ag _|exact aK|exact aq _|exact eM _|exact fH _|exact dk _|exact aS _|exact closed_mA _|exact bK _ _|exact aY ai ai|exact cD _|exact aT _|exact bU _|exact gu _|exact dh _ _|exact dI _ _|exact kR|exact gr _|exact bp _|(refine aY ai ?_;first|assumption|exact ae (cD _) ai|exact ae (aT _) ai|exact ae (dI _ _) ai))|(refine Cv.boxp hs rfl (aP rfl) rfl ?_;first|exact bo _|exact cu _ _|exact dV _|exact fi _|(refine ae ?_ ai;first|assumption|exact c6 _|exact cg _|exact ag _|exact aK|exact aq _|exact eM _|exact fH _|exact dk _|exact aS _|exact closed_mA _|exact bK _ _|exact aY ai ai|exact cD _|exact aT _|exact bU _|exact gu _|exact dh _ _|exact dI _ _|exact kR|exact gr _|exact bp _|(refine aY ai ?_;first|assumption|exact ae (cD _) ai|exact ae (aT _) ai|exact ae (dI _ _) ai)))|(refine Cv.loE hs ?_ (ag _);first|rfl|(simp[i64,u64,u32,bln];done)|(simp[i64,u64,u32,bln]<;> omega))|(refine Cv.slE rfl rfl rfl ?_ ?_ ?_ <;> first|rfl|omega|(congr 1;omega)|(simp;done)|(simp <;> omega))|exact Cv.emp _):p:=h
theorem bG(h:p:=by(first|(first|exact CvLL.bld rfl rfl rfl rfl rfl rfl|exact CvLL.bld0 hs|exact bZ hs (wD _)|exact bZ hs (bY _)|(refine aI hs ?_ (bY _);first|(simp[gR,kP,gS];done)|(simp[dE,u32,ofV];done))|exact bZ hs (aJ _)|exact bZ hs (dH _)|(refine aI hs ?_ (dH _);first|(simp[og,nw,ji];done)|(simp[iE,i64,ofV];done))|(refine aI hs ?_ (aJ _);first|(simp[j5,vZ];done)|(simp[pE,ofV];done))|(refine ay ?_;repeat' (first|exact ax|exact CvL.clo hs (bo _)|refine af ?_ ?_))))<;> exact aX):p:=h
theorem yz(h:p:=by repeat' (first|exact ShrL.nil|refine ShrL.cons rfl rfl rfl rfl (by first|rfl|(simp;done)|(simp <;> omega)) ?_)):p:=h
theorem cN(h:p:=by repeat' (first|exact aF|refine aj rfl ?_ ?_|exact aX)):p:=h
theorem jN(h:p:=by repeat' (first|exact aD|refine bw rfl rfl rfl rfl ?_ ?_|exact bG)):p:=h
section
variable {P:Program}{ops:Array Oper}{nx n j:Nat}{rest:List Oper}{fr:Fr}{hp:Hp}{K:Fps->Fr->Hp->Prop}
variable {d:Nat}{op:Op}{ty:Nat}{pos:String}{after:Array Edge}{a:AV}{p q s:Nat×Option ABlk}{rd:Ln}
theorem o_0(hs:AEval P (nx+j) (evF (look fr)) (au hp) op ⟨a,[]⟩ rd)(h:AR P ops nx n (j+1) rest ((d,a)::fr) hp λfps f h=>K (([],rd)::fps) f h)(hnd:ce op=true:=by exact rfl)(hd:Nat.blt d n=true:=by exact rfl):AR P ops nx n j (⟨some d,op,ty,pos,after,none⟩::rest) fr hp K:=av hs hnd hd h
theorem o_1(hs:AEval P (nx+j) (evF (look fr)) (au hp) op ⟨a,[p]⟩ rd)(h:AR P ops nx n (j+1) rest ((d,a)::fr) (p::hp) λfps f h=>K (([p.1],rd)::fps) f h)(hnd:ce op=true:=by exact rfl)(hd:Nat.blt d n=true:=by exact rfl):AR P ops nx n j (⟨some d,op,ty,pos,after,none⟩::rest) fr hp K:=AR.op1 hs hnd hd h
theorem o_2(hs:AEval P (nx+j) (evF (look fr)) (au hp) op ⟨a,[p,q]⟩ rd)(h:AR P ops nx n (j+1) rest ((d,a)::fr) (q::p::hp) λfps f h=>K (([p.1,q.1],rd)::fps) f h)(hnd:ce op=true:=by exact rfl)(hd:Nat.blt d n=true:=by exact rfl):AR P ops nx n j (⟨some d,op,ty,pos,after,none⟩::rest) fr hp K:=AR.op2 hs hnd hd h
theorem o_3(hs:AEval P (nx+j) (evF (look fr)) (au hp) op ⟨a,[p,q,s]⟩ rd)(h:AR P ops nx n (j+1) rest ((d,a)::fr) (s::q::p::hp) λfps f h=>K (([p.1,q.1,s.1],rd)::fps) f h)(hnd:ce op=true:=by exact rfl)(hd:Nat.blt d n=true:=by exact rfl):AR P ops nx n j (⟨some d,op,ty,pos,after,none⟩::rest) fr hp K:=AR.op3 hs hnd hd h
theorem ee(hs:AEval P (nx+j) (evF (look fr)) (au hp) op ⟨a,[p]⟩ rd)(h:AR P ops nx n (j+1) rest fr (p::hp) λfps f h=>K (([p.1],rd)::fps) f h)(hnd:ce op=true:=by exact rfl):AR P ops nx n j (⟨none,op,ty,pos,after,none⟩::rest) fr hp K:=AR.op1n hs hnd h
theorem s_r{ρ:Option Nat}{Q:Exit->AState->Prop}{id:Nat}{y:Code}(m:Nat)(h:AR P ops nx n 0 ops.toList fr hp λ_ f h=>jO (AWp ρ P y Q) Q .normal ⟨f,h,nx+m,n⟩)(hsz:ops.size=m:=by exact rfl):AWp ρ P (.seq (.region id ops false) y) Q ⟨fr,hp,nx,n⟩:=ac (D6 hsz h)
end
theorem s_e {fr fr':Fr} {hp hp':Hp} {nx nx' n:Nat} (l:List (Nat×Nat)) (hS:ShrL (rnm fr l nx') (au hp) hp':=by exact yz)
    (hF:Shr (rnm fr l nx') (au hp) (au hp')->CvF (rnm fr l nx') (au hp) (au hp') fr fr':=by exact λhs=>cN)
    (hH:Shr (rnm fr l nx') (au hp) (au hp')->CvH (rnm fr l nx') (au hp) (au hp') hp':=by exact λhs=>jN)
    (hk:Nat.blt 0 nx'=true:=by exact rfl) (h0:(rnm fr l nx').s 0=0:=by exact rfl) (hinj:lA (rnm fr l nx') (hp'.map (·.1))=true:=by exact rfl):SEnt ⟨fr,hp,nx,n⟩ ⟨fr',hp',nx',n⟩:=
 dn l hk h0 hinj hS hF hH
end
section
variable {T yt:Nat}{x y:Operand}{p q:Prop}
class TZ (P:Program) (t:Nat) (v:outParam (List Value)):Prop where h:fm P t=some v
class TS (P:Program) (t:Nat) (v:outParam Nat):Prop where h:iO P t=some v
class TG (P:Program) (t:Nat) (v:outParam Bool):Prop where h:fj P t=some v
class TB (P:Program) (t:Nat) (v:outParam Nat):Prop where h:rv P t=some v
class TE (P:Program) (t:Nat) (v:outParam (Nat×Nat)):Prop where h:eg P t=some v
class TU (P:Program) (t:Nat) (v:outParam TypeDesc):Prop where h:P.underlying t=some v
class TP (P:Program) (t:Nat) (v:outParam (List (Nat×Nat))):Prop where h:tV P t=some v
class TF (P:Program) (t i:Nat) (v:outParam (Nat×Nat)):Prop where h:lW P t i=some v
class TA (P:Program) (t i:Nat) (v:outParam Bool):Prop where h:mI P t i=some v
structure Hid (q:Prop):Prop where h:q
section
variable {P:Program}{ops:Array Oper}{nx n j:Nat}{rest:List Oper}{fr:Fr}{hp:Hp}{K:Fps->Fr->Hp->Prop}{dst:Option Nat}{ty:Nat}{pos:String}{after:Array Edge}
theorem k_load(h:AR P ops nx n j (⟨dst,.load T x,ty,pos,after,none⟩::rest) fr hp K):AR P ops nx n j (⟨dst,.load T x,ty,pos,after,none⟩::rest) fr hp K:=h
theorem zG{f:Nat}(h:AR P ops nx n j (⟨dst,.fieldAddr T x f,ty,pos,after,none⟩::rest) fr hp K):AR P ops nx n j (⟨dst,.fieldAddr T x f,ty,pos,after,none⟩::rest) fr hp K:=h
theorem GX{b:BinOp}(h:AR P ops nx n j (⟨dst,.binOp b T x y yt,ty,pos,after,none⟩::rest) fr hp K):AR P ops nx n j (⟨dst,.binOp b T x y yt,ty,pos,after,none⟩::rest) fr hp K:=h
theorem k_call{c:Call}(h:AR P ops nx n j (⟨dst,.call c,ty,pos,after,none⟩::rest) fr hp K):AR P ops nx n j (⟨dst,.call c,ty,pos,after,none⟩::rest) fr hp K:=h
theorem k_move(h:AR P ops nx n j (⟨dst,.move x,ty,pos,after,none⟩::rest) fr hp K):AR P ops nx n j (⟨dst,.move x,ty,pos,after,none⟩::rest) fr hp K:=h
theorem k_index(h:AR P ops nx n j (⟨dst,.indexAddr T x y,ty,pos,after,none⟩::rest) fr hp K):AR P ops nx n j (⟨dst,.indexAddr T x y,ty,pos,after,none⟩::rest) fr hp K:=h
theorem GY(h:AR P ops nx n j (⟨dst,.assign x,ty,pos,after,none⟩::rest) fr hp K):AR P ops nx n j (⟨dst,.assign x,ty,pos,after,none⟩::rest) fr hp K:=h
theorem k_store(h:AR P ops nx n j (⟨dst,.store T x y,ty,pos,after,none⟩::rest) fr hp K):AR P ops nx n j (⟨dst,.store T x y,ty,pos,after,none⟩::rest) fr hp K:=h
theorem EB{i:Nat}(h:AR P ops nx n j (⟨dst,.extract x i,ty,pos,after,none⟩::rest) fr hp K):AR P ops nx n j (⟨dst,.extract x i,ty,pos,after,none⟩::rest) fr hp K:=h
theorem k_box(h:AR P ops nx n j (⟨dst,.box T x,ty,pos,after,none⟩::rest) fr hp K):AR P ops nx n j (⟨dst,.box T x,ty,pos,after,none⟩::rest) fr hp K:=h
theorem k_alloc(h:AR P ops nx n j (⟨dst,.alloc T,ty,pos,after,none⟩::rest) fr hp K):AR P ops nx n j (⟨dst,.alloc T,ty,pos,after,none⟩::rest) fr hp K:=h
theorem k_conv{S D:Nat}(h:AR P ops nx n j (⟨dst,.convert S D x,ty,pos,after,none⟩::rest) fr hp K):AR P ops nx n j (⟨dst,.convert S D x,ty,pos,after,none⟩::rest) fr hp K:=h
theorem k_field{f:Nat}(h:AR P ops nx n j (⟨dst,.field T x f,ty,pos,after,none⟩::rest) fr hp K):AR P ops nx n j (⟨dst,.field T x f,ty,pos,after,none⟩::rest) fr hp K:=h
theorem k_nilc(h:AR P ops nx n j (⟨dst,.nilCheck x,ty,pos,after,none⟩::rest) fr hp K):AR P ops nx n j (⟨dst,.nilCheck x,ty,pos,after,none⟩::rest) fr hp K:=h
theorem k_pick{z:Operand}(h:AR P ops nx n j (⟨dst,.pick x y z,ty,pos,after,none⟩::rest) fr hp K):AR P ops nx n j (⟨dst,.pick x y z,ty,pos,after,none⟩::rest) fr hp K:=h
theorem k_un{b:UnOp}(h:AR P ops nx n j (⟨dst,.unOp b T x,ty,pos,after,none⟩::rest) fr hp K):AR P ops nx n j (⟨dst,.unOp b T x,ty,pos,after,none⟩::rest) fr hp K:=h
theorem k_build{ps:Array (Nat×Operand)}(h:AR P ops nx n j (⟨dst,.build T ps,ty,pos,after,none⟩::rest) fr hp K):AR P ops nx n j (⟨dst,.build T ps,ty,pos,after,none⟩::rest) fr hp K:=h
theorem k_eql(h:AR P ops nx n j (⟨dst,.binOp .eql T x y yt,ty,pos,after,none⟩::rest) fr hp K):AR P ops nx n j (⟨dst,.binOp .eql T x y yt,ty,pos,after,none⟩::rest) fr hp K:=h
theorem k_neq(h:AR P ops nx n j (⟨dst,.binOp .neq T x y yt,ty,pos,after,none⟩::rest) fr hp K):AR P ops nx n j (⟨dst,.binOp .neq T x y yt,ty,pos,after,none⟩::rest) fr hp K:=h
theorem k_lss(h:AR P ops nx n j (⟨dst,.binOp .lss T x y yt,ty,pos,after,none⟩::rest) fr hp K):AR P ops nx n j (⟨dst,.binOp .lss T x y yt,ty,pos,after,none⟩::rest) fr hp K:=h
theorem k_leq(h:AR P ops nx n j (⟨dst,.binOp .leq T x y yt,ty,pos,after,none⟩::rest) fr hp K):AR P ops nx n j (⟨dst,.binOp .leq T x y yt,ty,pos,after,none⟩::rest) fr hp K:=h
theorem k_gtr(h:AR P ops nx n j (⟨dst,.binOp .gtr T x y yt,ty,pos,after,none⟩::rest) fr hp K):AR P ops nx n j (⟨dst,.binOp .gtr T x y yt,ty,pos,after,none⟩::rest) fr hp K:=h
theorem k_geq(h:AR P ops nx n j (⟨dst,.binOp .geq T x y yt,ty,pos,after,none⟩::rest) fr hp K):AR P ops nx n j (⟨dst,.binOp .geq T x y yt,ty,pos,after,none⟩::rest) fr hp K:=h
theorem k_add(h:AR P ops nx n j (⟨dst,.binOp .add T x y yt,ty,pos,after,none⟩::rest) fr hp K):AR P ops nx n j (⟨dst,.binOp .add T x y yt,ty,pos,after,none⟩::rest) fr hp K:=h
theorem k_sub(h:AR P ops nx n j (⟨dst,.binOp .sub T x y yt,ty,pos,after,none⟩::rest) fr hp K):AR P ops nx n j (⟨dst,.binOp .sub T x y yt,ty,pos,after,none⟩::rest) fr hp K:=h
theorem k_mul(h:AR P ops nx n j (⟨dst,.binOp .mul T x y yt,ty,pos,after,none⟩::rest) fr hp K):AR P ops nx n j (⟨dst,.binOp .mul T x y yt,ty,pos,after,none⟩::rest) fr hp K:=h
theorem k_quo(h:AR P ops nx n j (⟨dst,.binOp .quo T x y yt,ty,pos,after,none⟩::rest) fr hp K):AR P ops nx n j (⟨dst,.binOp .quo T x y yt,ty,pos,after,none⟩::rest) fr hp K:=h
theorem k_rem(h:AR P ops nx n j (⟨dst,.binOp .rem T x y yt,ty,pos,after,none⟩::rest) fr hp K):AR P ops nx n j (⟨dst,.binOp .rem T x y yt,ty,pos,after,none⟩::rest) fr hp K:=h
theorem k_len{aa:Array Operand}{tt:Array Nat}(h:AR P ops nx n j (⟨dst,.call ⟨.builtin .len,aa,tt⟩,ty,pos,after,none⟩::rest) fr hp K):AR P ops nx n j (⟨dst,.call ⟨.builtin .len,aa,tt⟩,ty,pos,after,none⟩::rest) fr hp K:=h
theorem GZ{aa:Array Operand}{tt:Array Nat}(h:AR P ops nx n j (⟨dst,.call ⟨.builtin .append,aa,tt⟩,ty,pos,after,none⟩::rest) fr hp K):AR P ops nx n j (⟨dst,.call ⟨.builtin .append,aa,tt⟩,ty,pos,after,none⟩::rest) fr hp K:=h
end
section
variable {P:Program}{ops:Array Oper}{nx n j:Nat}{rest:List Oper}{fr:Fr}{hp:Hp}{K:Fps->Fr->Hp->Prop}{dst:Option Nat}{op:Op}{ty:Nat}{pos:String}{after:Array Edge}{g t d:Nat}{want b:Bool}
theorem g_y(ht:(ops[g]?).bind (·.dst)=some t)(hx:evF (look fr) (.tmp t)=some (.v (.bool want)))(h:AR P ops nx n j (⟨dst,op,ty,pos,after,none⟩::rest) fr hp K):AR P ops nx n j (⟨dst,op,ty,pos,after,some (g,want)⟩::rest) fr hp K:=by
 obtain⟨us,st',⟨u,rd,us',he,⟨h1,h2⟩,hd,hr⟩,hk⟩:=h;exact⟨us,st',⟨u,rd,us',he,⟨h1,t,.bool want,ht,hx,.inl ⟨rfl,h2⟩⟩,hd,hr⟩,hk⟩
theorem g_n(ht:(ops[g]?).bind (·.dst)=some t)(hx:evF (look fr) (.tmp t)=some (.v (.bool b)))(hb:(b==want)=false)(hnd:ce op=true)(hd:Nat.blt d n=true)(h:AR P ops nx n (j+1) rest ((d,.v undef)::fr) hp λfps f h=>K (([],[])::fps) f h):AR P ops nx n j (⟨some d,op,ty,pos,after,some (g,want)⟩::rest) fr hp K:=
 aV ht hx (gn (by cases b <;> cases want <;> first|rfl|grind)) hnd hd h
theorem g_nn(ht:(ops[g]?).bind (·.dst)=some t)(hx:evF (look fr) (.tmp t)=some (.v (.bool b)))(hb:(b==want)=false)(hnd:ce op=true)(h:AR P ops nx n (j+1) rest fr hp λfps f h=>K (([],[])::fps) f h):AR P ops nx n j (⟨none,op,ty,pos,after,some (g,want)⟩::rest) fr hp K:=
 AR.opNn ht hx (gn (by cases b <;> cases want <;> first|rfl|grind)) hnd h
theorem vT{P:Program}{p:Bool}{f:Sem Value}(h:∀w,f.run P w= .ok (.bool p) w)(e:p=true):∀w,f.run P w= .ok (.bool true) w:=e▸h
theorem vF{P:Program}{p:Bool}{f:Sem Value}(h:∀w,f.run P w= .ok (.bool p) w)(e:p=false):∀w,f.run P w= .ok (.bool false) w:=e▸h
end
theorem μ{p:Prop}(h:p:=by first|(simp[maxLen];done)|(simp[maxLen];omega)):p:=h
theorem ξ{p:Prop}(h:p:=by first|rfl|exact cV _|exact cU _|exact cy _|exact cW _|exact cS _|simp):p:=h
theorem ν{p:Prop}(h:p:=by first|omega|(simp;done)|(simp;omega)):p:=h
theorem ι{p:Prop}(h:p:=by unfold maxLen;first|omega|(simp;done)|(simp;omega)):p:=h
theorem υ{p:Prop}(h:p:=by first|(simp;done)|(simp[cx,ofV];done)|rfl):p:=h
theorem a_1 (h:q) (f:Hid q->p:=by
 intro h0
 first
 |(apply k_load;first|exact o_0 (.load_l1 rfl rfl rfl TG.h rfl) h0.h|exact o_0 (.load_l rfl rfl rfl TG.h TS.h (nle rfl)) h0.h|exact o_0 (.load_a1 rfl rfl TG.h rfl) h0.h|exact o_0 (.load_a rfl rfl TG.h TS.h (nle rfl)) h0.h|exact o_0 (.load_l rfl rfl (by assumption) TG.h TS.h (by exact nle rfl)) h0.h|exact o_0 (.load_l1 rfl rfl (by assumption) TG.h (by exact rfl)) h0.h|exact o_0 (.load_a rfl (by assumption) TG.h TS.h (by exact nle rfl)) h0.h|exact o_0 (.load_a1 rfl (by assumption) TG.h (by exact rfl)) h0.h)
 |(apply k_move;exact o_0 (.move rfl) h0.h)
 |(apply zG;first|exact o_0 (.fieldAddr_l rfl TF.h δ) h0.h|exact o_0 (.fieldAddr_a rfl TF.h δ) h0.h)
 |(apply GX;first|(apply k_eql;first|exact o_0 (.bin rfl rfl aM) h0.h|exact o_0 (.bin rfl rfl (H4 TU.h)) h0.h|exact o_0 (.bin rfl rfl AJ) h0.h|exact o_0 (.nilq_v rfl rfl TE.h) h0.h|exact o_0 (.nilq_arr rfl (by assumption) rfl TE.h) h0.h)|(apply k_neq;first|exact o_0 (.bin rfl rfl bO) h0.h|exact o_0 (.bin rfl rfl (H3 TU.h)) h0.h|exact o_0 (.bin rfl rfl AH) h0.h)|(apply k_lss;exact o_0 (.bin rfl rfl aZ) h0.h)|(apply k_leq;exact o_0 (.bin rfl rfl cO) h0.h)|(apply k_gtr;exact o_0 (.bin rfl rfl ct) h0.h)|(apply k_geq;exact o_0 (.bin rfl rfl dc) h0.h)|(apply k_add;first|exact o_0 (.bin rfl rfl (dj ω)) h0.h|exact o_0 (.bin rfl rfl (H8 ω)) h0.h|exact o_0 (.bin rfl rfl (Ib ω)) h0.h|exact o_0 (.bin rfl rfl (bU8_add ω)) h0.h)|(apply k_sub;first|exact o_0 (.bin rfl rfl (iL ω)) h0.h|exact o_0 (.bin rfl rfl (H5 ω)) h0.h|exact o_0 (.bin rfl rfl (H9 ω)) h0.h|exact o_0 (.bin rfl rfl (bU8_sub ω)) h0.h)|(apply k_mul;first|exact o_0 (.bin rfl rfl (vm ω)) h0.h|exact o_0 (.bin rfl rfl (H7 ω)) h0.h)|(apply k_quo;first|exact o_0 (.bin rfl rfl (Ic ω)) h0.h|exact o_0 (.bin rfl rfl (AO ω)) h0.h|exact o_0 (.bin rfl rfl (AP ω)) h0.h)|(apply k_rem;first|exact o_0 (.bin rfl rfl (vk ω)) h0.h|exact o_0 (.bin rfl rfl (H6 ω)) h0.h|exact o_0 (.bin rfl rfl (Ia ω)) h0.h|exact o_0 (.bin rfl rfl (bU8_rem ω)) h0.h))
 |(apply k_call;first|(apply k_len;first|exact o_0 (.lenD rfl rfl rfl rfl TE.h) h0.h|exact o_0 (.lenI rfl rfl rfl rfl TE.h) h0.h|exact o_0 (.lenP rfl rfl rfl rfl TE.h) h0.h|exact o_0 (.lenC rfl rfl rfl rfl TE.h) h0.h|exact o_0 (.lenR rfl rfl rfl rfl TE.h) h0.h|exact o_0 (.len rfl rfl rfl rfl rfl TE.h) h0.h)|(apply GZ;first|exact o_1 (.append_e rfl rfl rfl TE.h rfl rfl rfl (.lsl rfl (nle rfl)) (by first|assumption|(simp;done)) TZ.h rfl TB.h (by first|rfl|assumption|(simp;done)|(simp;omega)|omega) μ) h0.h|exact o_2 (.append_l rfl rfl rfl TE.h rfl rfl rfl rfl rfl (by first|rfl|assumption|(simp;done)|(simp;omega)|omega) (by first|exact cV _|exact cU _|exact cy _|exact cW _|exact cS _|rfl|simp) ξ rfl (.lsl rfl (nle rfl)) TZ.h rfl TB.h (by first|rfl|assumption|(simp;done)|(simp;omega)|omega) μ) h0.h)|exact o_0 (.builtinV (vs:=[_,_]) rfl rfl bmin) h0.h|exact o_0 (.builtinV (vs:=[_,_]) rfl rfl bmax) h0.h)
 |(apply k_index;first|exact o_0 (.index_l rfl rfl ω ω TE.h) h0.h|exact o_0 (.index_a rfl rfl ω rfl rfl TE.h) h0.h|exact o_0 (.index_a rfl rfl ω (by assumption) (by rfl) TE.h) h0.h)
 |(apply GY;exact o_0 (.assign rfl) h0.h)
 |(apply k_store;exact ee (.store rfl rfl rfl rfl rfl rfl TS.h (nle rfl)) h0.h)
 |(apply EB;exact o_0 (.extract rfl rfl) h0.h)
 |(apply k_box;exact o_1 (.box rfl rfl) h0.h)
 |(apply k_alloc;exact o_1 (.alloc TZ.h) h0.h)
 |(apply k_conv;first|exact o_0 (.conv rfl (cI64 ω TU.h TU.h)) h0.h|exact o_0 (.conv rfl (cU64 ω TU.h TU.h)) h0.h|exact o_0 (.conv rfl (cU32 ω TU.h TU.h)) h0.h|exact o_0 (.conv rfl (cU8 ω TU.h TU.h)) h0.h)
 |(apply k_field;first|exact o_0 (.field1 rfl TF.h TA.h rfl) h0.h|exact o_0 (.field rfl TF.h TA.h (nle rfl)) h0.h)
 |(apply k_nilc;exact o_0 (.nilCheck rfl rfl) h0.h)
 |(apply k_pick;first|exact o_0 (.pick rfl (λ_=>rfl) (λ_=>rfl)) h0.h|exact o_0 (.pick rfl (λ_=>rfl) (λh=>absurd h δ)) h0.h|exact o_0 (.pick rfl (λh=>absurd h δ) (λ_=>rfl)) h0.h)
 |(apply k_un;first|exact o_0 (.un rfl iN) h0.h|exact o_0 (.un rfl (Fy ω)) h0.h)
 |(apply k_build;exact o_0 (.build TZ.h TP.h rfl rfl) h0.h)
 |exact o_0 (.makeFunc rfl rfl) h0.h
 |exact o_1 (.buildSlice TE.h TZ.h rfl δ rfl rfl rfl υ) h0.h
 |exact o_1 (.makeSlice rfl rfl TE.h TZ.h rfl TB.h ν ν ι) h0.h
 |exact o_0 (.lookup rfl rfl TU.h TU.h rfl rfl rfl) h0.h
 |exact g_y rfl rfl h0.h
 |exact g_n rfl rfl rfl rfl rfl h0.h
 |exact g_nn rfl rfl rfl rfl h0.h):p:=f ⟨h⟩
theorem a_2(h:q)(f:Hid q->p:=by intro h0;(iterate 2 (refine a_1 ?_));exact h0.h):p:=f ⟨h⟩
theorem a_3(h:q)(f:Hid q->p:=by intro h0;(iterate 3 (refine a_1 ?_));exact h0.h):p:=f ⟨h⟩
theorem a_4(h:q)(f:Hid q->p:=by intro h0;(iterate 4 (refine a_1 ?_));exact h0.h):p:=f ⟨h⟩
theorem a_5(h:q)(f:Hid q->p:=by intro h0;(iterate 5 (refine a_1 ?_));exact h0.h):p:=f ⟨h⟩
theorem a_6(h:q)(f:Hid q->p:=by intro h0;(iterate 6 (refine a_1 ?_));exact h0.h):p:=f ⟨h⟩
theorem a_7(h:q)(f:Hid q->p:=by intro h0;(iterate 7 (refine a_1 ?_));exact h0.h):p:=f ⟨h⟩
theorem a_8(h:q)(f:Hid q->p:=by intro h0;(iterate 8 (refine a_1 ?_));exact h0.h):p:=f ⟨h⟩
theorem a_z(h:q)(f:Hid q->p:=by intro h0;(repeat (refine a_1 ?_));exact ao h0.h):p:=f ⟨h⟩
theorem c_s{A:Prop}(c:A)(h:q)(f:A->Hid q->p:=by intro c0 h0;(repeat (refine a_1 ?_));first|exact av (.call rfl rfl rfl c0) rfl rfl h0.h|exact AR.op0n (.call rfl rfl rfl c0) rfl h0.h):p:=f c ⟨h⟩
section
variable {P:Program}{ops:Array Oper}{nx n:Nat}{fr:Fr}{hp:Hp}
theorem r_z{ρ:Option Nat}{Q:Exit->AState->Prop}{id:Nat}{y:Code}(m:Nat)(h:q)(f:Hid q->AR P ops nx n 0 ops.toList fr hp λ_ f h=>jO (AWp ρ P y Q) Q .normal ⟨f,h,nx+m,n⟩:=by intro h0;(repeat (refine a_1 ?_));exact ao h0.h)(hsz:ops.size=m:=by exact rfl):AWp ρ P (.seq (.region id ops false) y) Q ⟨fr,hp,nx,n⟩:=s_r m (f ⟨h⟩) hsz
theorem r_c{A:Prop}(m:Nat)(c:A){ρ:Option Nat}{Q:Exit->AState->Prop}{id:Nat}{y:Code}(h:q)(f:A->Hid q->AR P ops nx n 0 ops.toList fr hp λ_ f h=>jO (AWp ρ P y Q) Q .normal ⟨f,h,nx+m,n⟩:=by intro c0 h0;(repeat (refine a_1 ?_));first|exact av (.call rfl rfl rfl c0) rfl rfl h0.h|exact AR.op0n (.call rfl rfl rfl c0) rfl h0.h)(hsz:ops.size=m:=by exact rfl):AWp ρ P (.seq (.region id ops false) y) Q ⟨fr,hp,nx,n⟩:=s_r m (f c ⟨h⟩) hsz
end
end
section
variable {p q:Prop}
section
variable {P:Program}{ops:Array Oper}{nx n j:Nat}{rest:List Oper}{fr:Fr}{hp:Hp}{K:Fps->Fr->Hp->Prop}{dst:Option Nat}{op:Op}{ty:Nat}{pos:String}{after:Array Edge}{g t d:Nat}{want b:Bool}
theorem g_u(ht:(ops[g]?).bind (·.dst)=some t)(hx:evF (look fr) (.tmp t)=some (.v undef))(hnd:ce op=true)(hd:Nat.blt d n=true)(h:AR P ops nx n (j+1) rest ((d,.v undef)::fr) hp λfps f h=>K (([],[])::fps) f h):AR P ops nx n j (⟨some d,op,ty,pos,after,some (g,want)⟩::rest) fr hp K:=
 aV ht hx nofun hnd hd h
end
theorem w_1 (h:q) (f:Hid q->p:=by
 intro h0
 first
 |(apply k_lss;first|exact o_0 (.bin rfl rfl (vT aZ (decide_eq_true ω))) h0.h|exact o_0 (.bin rfl rfl (vF aZ (decide_eq_false ω))) h0.h)
 |(apply k_gtr;first|exact o_0 (.bin rfl rfl (vT ct (decide_eq_true ω))) h0.h|exact o_0 (.bin rfl rfl (vF ct (decide_eq_false ω))) h0.h)
 |(apply k_leq;first|exact o_0 (.bin rfl rfl (vT cO (decide_eq_true ω))) h0.h|exact o_0 (.bin rfl rfl (vF cO (decide_eq_false ω))) h0.h)
 |(apply k_geq;first|exact o_0 (.bin rfl rfl (vT dc (decide_eq_true ω))) h0.h|exact o_0 (.bin rfl rfl (vF dc (decide_eq_false ω))) h0.h)
 |(apply k_eql;first|exact o_0 (.bin rfl rfl (vT aM (decide_eq_true ω))) h0.h|exact o_0 (.bin rfl rfl (vF aM (decide_eq_false ω))) h0.h)):p:=f ⟨h⟩
theorem m_1 (h:q) (f:Hid q->p:=by
 intro h0
 first
 |(apply GX;exact w_1 h0.h)
 |exact g_n rfl rfl rfl rfl rfl h0.h
 |exact g_nn rfl rfl rfl rfl h0.h
 |exact g_u rfl rfl rfl rfl h0.h
 |(refine g_y rfl rfl ?_;first|(apply GX;exact w_1 h0.h)|exact a_1 h0.h)
 |exact a_1 h0.h):p:=f ⟨h⟩
theorem d_2(h:q)(f:Hid q->p:=by intro h0;(iterate 2 (refine m_1 ?_));exact h0.h):p:=f ⟨h⟩
theorem d_3(h:q)(f:Hid q->p:=by intro h0;(iterate 3 (refine m_1 ?_));exact h0.h):p:=f ⟨h⟩
theorem d_4(h:q)(f:Hid q->p:=by intro h0;(iterate 4 (refine m_1 ?_));exact h0.h):p:=f ⟨h⟩
theorem d_5(h:q)(f:Hid q->p:=by intro h0;(iterate 5 (refine m_1 ?_));exact h0.h):p:=f ⟨h⟩
theorem d_6(h:q)(f:Hid q->p:=by intro h0;(iterate 6 (refine m_1 ?_));exact h0.h):p:=f ⟨h⟩
theorem d_7(h:q)(f:Hid q->p:=by intro h0;(iterate 7 (refine m_1 ?_));exact h0.h):p:=f ⟨h⟩
theorem d_8(h:q)(f:Hid q->p:=by intro h0;(iterate 8 (refine m_1 ?_));exact h0.h):p:=f ⟨h⟩
theorem d_z(h:q)(f:Hid q->p:=by intro h0;(repeat (refine m_1 ?_));exact ao h0.h):p:=f ⟨h⟩
theorem e_s{A:Prop}(c:A)(h:q)(f:A->Hid q->p:=by intro c0 h0;(repeat (refine m_1 ?_));first|exact av (.call rfl rfl rfl c0) rfl rfl h0.h|exact g_y rfl rfl (av (.call rfl rfl rfl c0) rfl rfl h0.h)|exact AR.op0n (.call rfl rfl rfl c0) rfl h0.h):p:=f c ⟨h⟩
section
variable {P:Program}{ops:Array Oper}{nx n:Nat}{fr:Fr}{hp:Hp}
theorem q_z{ρ:Option Nat}{Q:Exit->AState->Prop}{id:Nat}{y:Code}(m:Nat)(h:q)(f:Hid q->AR P ops nx n 0 ops.toList fr hp λ_ f h=>jO (AWp ρ P y Q) Q .normal ⟨f,h,nx+m,n⟩:=by intro h0;(repeat (refine m_1 ?_));exact ao h0.h)(hsz:ops.size=m:=by exact rfl):AWp ρ P (.seq (.region id ops false) y) Q ⟨fr,hp,nx,n⟩:=s_r m (f ⟨h⟩) hsz
theorem q_c{A:Prop}(m:Nat)(c:A){ρ:Option Nat}{Q:Exit->AState->Prop}{id:Nat}{y:Code}(h:q)(f:A->Hid q->AR P ops nx n 0 ops.toList fr hp λ_ f h=>jO (AWp ρ P y Q) Q .normal ⟨f,h,nx+m,n⟩:=by intro c0 h0;(repeat (refine m_1 ?_));first|exact av (.call rfl rfl rfl c0) rfl rfl h0.h|exact g_y rfl rfl (av (.call rfl rfl rfl c0) rfl rfl h0.h)|exact AR.op0n (.call rfl rfl rfl c0) rfl h0.h)(hsz:ops.size=m:=by exact rfl):AWp ρ P (.seq (.region id ops false) y) Q ⟨fr,hp,nx,n⟩:=s_r m (f c ⟨h⟩) hsz
end
end
section
variable {p:Prop}{ρ:Option Nat}{P:Program}{Q:Exit->AState->Prop}{fr fr':Fr}{hp hp':Hp}{nx nx' n i T o:Nat}{r:AV}{xx:Operand}{es:Lc}{cs:La}
theorem d_t(h:p:=by first|rfl|assumption|exact decide_eq_true (by omega)|(simp;done)|(simp;omega)):p:=h
theorem d_f(h:p:=by first|rfl|assumption|exact decide_eq_false (by omega)|(simp;done)|(simp;omega)):p:=h
theorem d_n(h:p:=by first|exact nle rfl|(simp;done)|(simp;omega)):p:=h
theorem d_o(h:p:=by first|rfl|assumption|(simp;done)|(simp;omega)|omega):p:=h
theorem cT{st:AState}{c:Operand}{x y:Code}(h1:AWp ρ P x Q st)(hc:st.ev c=some (.v (.bool true)):=by exact rfl):AWp ρ P (.cond c x y) Q st:=aw hc (λ_=>h1) (λe=>by cases e)
theorem cF{st:AState}{c:Operand}{x y:Code}(h1:AWp ρ P y Q st)(hc:st.ev c=some (.v (.bool false)):=by exact rfl):AWp ρ P (.cond c x y) Q st:=aw hc (λe=>by cases e) (λ_=>h1)
theorem au_d(h:p:=by first|exact aX|(refine Cv.loE hs ?_ (ag _);assumption)|(refine Cv.boxp hs rfl (aP rfl) rfl ?_;assumption)):p:=h
theorem au_g(h:p:=by(first|exact bG|(refine bZ hs ?_;first|assumption|exact aJ _|exact eO _|exact b8 _|exact dH _)|(refine aI hs ?_ ?_;assumption;first|assumption|exact bY _|exact aJ _|exact eO _|exact b8 _|exact dH _)|exact ay (CvL.clo hs (by first|assumption|exact bo _|exact fi _))|(refine ay ?_;repeat' (first|exact ax|refine af ?_ ?_)))<;> exact au_d):p:=h
theorem au_i(h:p:=by repeat' (first|exact aF|refine aj rfl ?_ ?_|exact au_d)):p:=h
theorem au_j(h:p:=by repeat' (first|exact aD|refine bw rfl rfl rfl rfl ?_ ?_|exact au_g)):p:=h
theorem s_f (l:List (Nat×Nat)) (hS:ShrL (rnm fr l nx') (au hp) hp':=by exact yz)
    (hF:Shr (rnm fr l nx') (au hp) (au hp')->CvF (rnm fr l nx') (au hp) (au hp') fr fr':=by exact λhs=>au_i)
    (hH:Shr (rnm fr l nx') (au hp) (au hp')->CvH (rnm fr l nx') (au hp) (au hp') hp':=by exact λhs=>au_j)
    (hk:Nat.blt 0 nx'=true:=by exact rfl) (h0:(rnm fr l nx').s 0=0:=by exact rfl) (hinj:lA (rnm fr l nx') (hp'.map (·.1))=true:=by exact rfl):SEnt ⟨fr,hp,nx,n⟩ ⟨fr',hp',nx',n⟩:=
 dn l hk h0 hinj hS hF hH
theorem s_t (l:List (Nat×Nat)) (hS:ShrL (rnm fr l nx') (au hp) hp':=by exact yz)
    (hF:Shr (rnm fr l nx') (au hp) (au hp')->CvF (rnm fr l nx') (au hp) (au hp') fr fr':=by exact λhs=>au_i)
    (hH:Shr (rnm fr l nx') (au hp) (au hp')->CvH (rnm fr l nx') (au hp) (au hp') hp':=by exact λhs=>au_j)
    (hk:Nat.blt 0 nx'=true:=by exact rfl) (h0:(rnm fr l nx').s 0=0:=by exact rfl) (hinj:lA (rnm fr l nx') (hp'.map (·.1))=true:=by exact rfl):SEntT ⟨fr,hp,nx,n⟩ ⟨fr',hp',nx',n⟩:=
 SEntT.to l hk h0 hinj hS hF hH
class T4 (P:Program) (t:Nat) (z:outParam (List Value)) (s:outParam Nat) (g:outParam Bool) (b:outParam Nat):Prop where h:(fm P t,iO P t,fj P t,rv P t)=(some z,some s,some g,some b)
class T3 (P:Program) (t:Nat) (s:outParam Nat) (g:outParam Bool) (b:outParam Nat):Prop where h:(iO P t,fj P t,rv P t)=(some s,some g,some b)
class T2 (P:Program) (t i:Nat) (v:outParam (Nat×Nat)) (g:outParam Bool):Prop where h:(lW P t i,mI P t i)=(some v,some g)
section
variable {P:Program}{t i s b:Nat}{z:List Value}{g:Bool}{v:Nat×Nat}
instance [c:T4 P t z s g b]:T3 P t s g b:=⟨congrArg (·.2) c.h⟩
instance [c:T4 P t z s g b]:TZ P t z:=⟨congrArg (·.1) c.h⟩
instance [c:T3 P t s g b]:TS P t s:=⟨congrArg (·.1) c.h⟩
instance [c:T3 P t s g b]:TG P t g:=⟨congrArg (·.2.1) c.h⟩
instance [c:T3 P t s g b]:TB P t b:=⟨congrArg (·.2.2) c.h⟩
instance [c:T2 P t i v g]:TF P t i v:=⟨congrArg (·.1) c.h⟩
instance [c:T2 P t i v g]:TA P t i g:=⟨congrArg (·.2) c.h⟩
end
theorem h_c{r:Ren}{hp hp':Hq}{B B0:ABlk}{l:Hp}(hc:CvLL r hp hp' B0.es B.es)(hl:CvH r hp hp' l)(hi:Nat.blt i r.n=true:=by exact rfl)(h:hp (r.s i)=some B0:=by exact rfl)(ht:B0.ty=B.ty:=by exact rfl)(hz:B0.sz=B.sz:=by exact rfl):CvH r hp hp' ((i,some B)::l):=bw hi h ht hz hc hl
theorem s_x (l:List (Nat×Nat))
    (hF:Shr (rnm fr l nx') (au hp) (au hp')->CvF (rnm fr l nx') (au hp) (au hp') fr fr')
    (hH:Shr (rnm fr l nx') (au hp) (au hp')->CvH (rnm fr l nx') (au hp) (au hp') hp') (hS:ShrL (rnm fr l nx') (au hp) hp':=by exact yz)
    (hk:Nat.blt 0 nx'=true:=by exact rfl) (h0:(rnm fr l nx').s 0=0:=by exact rfl) (hinj:lA (rnm fr l nx') (hp'.map (·.1))=true:=by exact rfl):SEnt ⟨fr,hp,nx,n⟩ ⟨fr',hp',nx',n⟩:=
 dn l hk h0 hinj hS hF hH
theorem s_y (l:List (Nat×Nat))
    (hF:Shr (rnm fr l nx') (au hp) (au hp')->CvF (rnm fr l nx') (au hp) (au hp') fr fr')
    (hH:Shr (rnm fr l nx') (au hp) (au hp')->CvH (rnm fr l nx') (au hp) (au hp') hp') (hS:ShrL (rnm fr l nx') (au hp) hp':=by exact yz)
    (hk:Nat.blt 0 nx'=true:=by exact rfl) (h0:(rnm fr l nx').s 0=0:=by exact rfl) (hinj:lA (rnm fr l nx') (hp'.map (·.1))=true:=by exact rfl):SEntT ⟨fr,hp,nx,n⟩ ⟨fr',hp',nx',n⟩:=
 SEntT.to l hk h0 hinj hS hF hH
theorem s_z (l:List (Nat×Nat))
    (hF:Shr (jE fr l nx') (au hp) (au hp')->CvF (jE fr l nx') (au hp) (au hp') fr fr')
    (hH:Shr (jE fr l nx') (au hp) (au hp')->CvH (jE fr l nx') (au hp) (au hp') hp') (hS:ShrL (jE fr l nx') (au hp) hp':=by exact yz)
    (hk:Nat.blt 0 nx'=true:=by exact rfl) (h0:(jE fr l nx').s 0=0:=by exact rfl) (hinj:lA (jE fr l nx') (hp'.map (·.1))=true:=by exact rfl):SEnt ⟨fr,hp,nx,n⟩ ⟨fr',hp',nx',n⟩:=
 SEnt.to2 l hk h0 hinj hS hF hH
theorem f_n{f:Nat}{fn:Func}{c:Code}{args:La}{rs:List ResultVar}{m:Nat}(hf:P.funcs[f]?=some fn)(hcl:∀a∈args,Closed a)(h:AWp none P c (Fin P rs r) ⟨fr,[],1,m⟩)(hb:fn.body=some c:=by exact rfl)(hrs:fn.results.toList=rs:=by exact rfl)(hm:fn.ntmps=m:=by exact rfl)(hn:Nat.ble args.length m=true:=by exact rfl)(hfr:dx 0 args=fr:=by exact rfl)(hname:(fn.name== "runtime.NumGoroutine")=false:=by kernel_rfl):FSpec P f args r:=mO hf hb hname hrs hm hn hcl hfr h
theorem f_c{f:Nat}{fn:Func}{c:Code}{args:La}{rs:List ResultVar}{m:Nat}(hf:P.funcs[f]?=some fn)(h:AWp none P c (Fin P rs r) ⟨fr,[],1,m⟩)(hcl:∀a∈args,Closed a:=by repeat' (first|exact ai|exact ag _|assumption|exact cg _|exact bY _|exact wA _|exact bo _|exact aJ _|exact cu _ _|exact dV _|exact dH _|exact fi _|exact b8 _|exact cD _|exact aT _|exact gu _|exact eO _|refine ae ?_ ?_|refine aN ?_|refine aU ?_|refine aW ?_))(hb:fn.body=some c:=by exact rfl)(hrs:fn.results.toList=rs:=by exact rfl)(hm:fn.ntmps=m:=by exact rfl)(hn:Nat.ble args.length m=true:=by exact rfl)(hfr:dx 0 args=fr:=by exact rfl)(hname:(fn.name== "runtime.NumGoroutine")=false:=by kernel_rfl):FSpec P f args r:=mO hf hb hname hrs hm hn hcl hfr h
section
variable {P:Program}{ops:Array Oper}{nx n j:Nat}{rest:List Oper}{fr:Fr}{hp:Hp}{K:Fps->Fr->Hp->Prop}{d:Nat}{op:Op}{ty:Nat}{pos:String}{after:Array Edge}{a:AV}{rd:Ln}{g t:Nat}{b want:Bool}{x:Value}
theorem n_k{q s:Prop}(h:s)(h0:q:=by kernel_rfl):q/\s:=⟨h0,h⟩
def gv(ops:Array Oper)(g:Nat)(fr:Fr):Option Bool:=((ops[g]?).bind (·.dst)).bind λt=>(evF (look fr) (.tmp t)).bind λa=>match a with| .v (.bool b)=>some b|_=>none
theorem gv_of(h:gv ops g fr=some b):∃t,(ops[g]?).bind (·.dst)=some t/\evF (look fr) (.tmp t)=some (.v (.bool b)):=by
 obtain⟨t,h1,h2⟩:=Option.bind_eq_some_iff.1 h;obtain⟨a,h3,h4⟩:=Option.bind_eq_some_iff.1 h2;grind
theorem n_g(hx:gv ops g fr=some b)(hb:b=!want)(h:AR P ops nx n (j+1) rest ((d,.v undef)::fr) hp λfps f h=>K (([],[])::fps) f h)(hnd:ce op=true:=by exact rfl)(hd:Nat.blt d n=true:=by exact rfl):AR P ops nx n j (⟨some d,op,ty,pos,after,some (g,want)⟩::rest) fr hp K:=by
 obtain⟨t,ht,hx⟩:=gv_of hx;exact aV ht hx (gn hb) hnd hd h
theorem y_g(hx:gv ops g fr=some b)(hb:b=want)(hs:AEval P (nx+j) (evF (look fr)) (au hp) op ⟨a,[]⟩ rd)(h:AR P ops nx n (j+1) rest ((d,a)::fr) hp λfps f h=>K (([],rd)::fps) f h)(hnd:ce op=true:=by exact rfl)(hd:Nat.blt d n=true:=by exact rfl):AR P ops nx n j (⟨some d,op,ty,pos,after,some (g,want)⟩::rest) fr hp K:=by
 obtain⟨t,ht,hx⟩:=gv_of hx;exact ap ht hx (gy hb) hs hnd hd h
theorem i_x{E:Nat}{sz:Nat}{ix:Operand}{kd:IntKind}{z:Int}[TE P T (E,sz)](hg:es[z.toNat]?=some cs)(h:AR P ops nx n (j+1) rest ((d,.aptr es z.toNat 0)::fr) hp λfps f h=>K (([],[])::fps) f h)(h1:evF (look fr) xx=some (.arr es):=by exact rfl)(h2:evF (look fr) ix=some (.v (.int kd z)):=by exact rfl)(h3:0<=z:=by omega)(h4:cs.length=sz:=by exact rfl)(hd:Nat.blt d n=true:=by exact rfl):AR P ops nx n j (⟨some d,.indexAddr T xx ix,ty,pos,after,none⟩::rest) fr hp K:=av (.index_a h1 h2 h3 hg h4 TE.h) rfl hd h
theorem l_x{k:Nat}[TG P T true][TS P T k](hg:es[i]?=some cs)(h:AR P ops nx n (j+1) rest ((d,.agg ((cs.drop o).take k))::fr) hp λfps f h=>K (([],[])::fps) f h)(h1:evF (look fr) xx=some (.aptr es i o):=by exact rfl)(h2:Nat.ble (o+k) cs.length=true:=by exact rfl)(hd:Nat.blt d n=true:=by exact rfl):AR P ops nx n j (⟨some d,.load T xx,ty,pos,after,none⟩::rest) fr hp K:=av (.load_a h1 hg TG.h TS.h (Nat.le_of_ble_eq_true h2)) rfl hd h
theorem l_1{c:AV}[TG P T false](hg:es[i]?=some cs)(h:AR P ops nx n (j+1) rest ((d,c)::fr) hp λfps f h=>K (([],[])::fps) f h)(h1:evF (look fr) xx=some (.aptr es i o):=by exact rfl)(h2:cs[o]?=some c:=by exact rfl)(hd:Nat.blt d n=true:=by exact rfl):AR P ops nx n j (⟨some d,.load T xx,ty,pos,after,none⟩::rest) fr hp K:=av (.load_a1 h1 hg TG.h h2) rfl hd h
theorem r_m{id:Nat}(m:Nat)(h:AR P ops nx n 0 ops.toList fr hp λ_ f h=>Q .normal ⟨f,h,nx+m,n⟩)(hsz:ops.size=m:=by exact rfl):AWp ρ P (.region id ops false) Q ⟨fr,hp,nx,n⟩:=D6 hsz h
theorem r_d{id:Nat}(hm:P.follows .mixedOrders=true)(m:Nat)(h:AR P ops nx n 0 ops.toList fr hp λfps f h=>mq ops fps=true/\Q .normal ⟨f,h,nx+m,n⟩)(hsz:ops.size=m:=by exact rfl):AWp ρ P (.region id ops true) Q ⟨fr,hp,nx,n⟩:=Ik hm hsz h
theorem c_e{e k:Nat}{B:ABlk}[TG P T true][TS P T k](hc:Closed r)(h:look fr t=some (.lptr i e o):=by exact rfl)(hb:dw (au hp) i=some B:=by exact rfl)(he:B.es[e]?=some cs:=by exact rfl)(hl:Nat.ble (o+k) cs.length=true:=by exact rfl)(h2:AV.agg ((cs.drop o).take k)=r:=by exact rfl):Fin P [.cell t T] r .ret ⟨fr,hp,nx,n⟩:=dA h hb he TG.h TS.h (Nat.le_of_ble_eq_true hl) h2 hc
theorem t_e{r0:AV}(hc:Closed r)(h:look fr t=some r0:=by exact rfl)(e:r0=r:=by exact rfl):Fin P [.tmp t] r .ret ⟨fr,hp,nx,n⟩:=aR h e hc
end
end
theorem e_1{p:Prop}(h:p:=by repeat' (first|exact aF|refine aj rfl ?_ ?_|exact ah hs (bp _)|exact aX)):p:=h
theorem e_2{p:Prop}(h:p:=by repeat' (first|exact ShrL.nil|refine ShrL.cons rfl rfl rfl rfl (by first|(simp)|rfl|(simp;done)|(simp <;> omega)) ?_)):p:=h
theorem e_3{p:Prop}(h:p:=by repeat' (first|exact aF|refine aj rfl ?_ ?_|exact ah hs (cm L)|exact ah hs (b6 d)|exact aX)):p:=h
theorem e_4{p:Prop}(h:p:=by repeat' (first|exact aF|refine aj rfl ?_ ?_|exact ah hs (aW (bo q))|exact aX)):p:=h
theorem e_5{p:Prop}(h:p:=by repeat' (first|exact aD|refine h_c ?_ ?_|exact bG|refine ay ?_|exact ax|refine af ?_ ?_|exact ah hs (aW (bo q))|exact aX)):p:=h
theorem e_6{p:Prop}(h:p:=by repeat' (first|exact aF|refine aj rfl ?_ ?_|exact ah hs (aY ai hcap)|exact aX)):p:=h
theorem e_7{p:Prop}(h:p:=by repeat' (first|exact aD|refine h_c ?_ ?_|exact bZ hs (ae (bo c) ai)|exact bG)):p:=h
theorem e_8{p:Prop}(h:p:=by repeat' (first|exact aD|refine h_c ?_ ?_|exact bZ hs (aJ _)|exact ay (CvL.clo hs (bo _))|exact ay (CvL.clo hs b7)|exact bG|refine ay ?_|exact ax|refine af ?_ ?_|exact ah hs (cm L)|exact ah hs (b6 d)|exact aX)):p:=h
theorem e_9{p:Prop}(h:p:=by repeat' (first|exact aD|refine h_c ?_ ?_|exact bG|refine ay ?_|exact ax|refine af ?_ ?_|exact ah hs (aY ai hcap)|exact aX)):p:=h
theorem e_10{p:Prop}(h:p:=by repeat' (first|exact aF|refine aj rfl ?_ ?_|exact ah hs hcc|exact ah hs (cm L)|exact aX)):p:=h
theorem e_11{p:Prop}(h:p:=by repeat' (first|exact aD|refine h_c ?_ ?_|exact bG|refine ay ?_|exact ax|refine af ?_ ?_|exact ah hs hcc|exact ah hs (cm L)|exact aX)):p:=h
theorem e_12{p:Prop}(h:p:=by repeat' (first|exact aD|refine h_c ?_ ?_|exact aI hs e (b8 _)|exact bG)):p:=h
theorem e_13{p:Prop}(h:p:=by repeat' (first|exact aF|refine aj rfl ?_ ?_|exact ah hs (bU s)|exact ah hs (aT z)|exact ah hs (aq _)|exact aX)):p:=h
theorem e_14{p:Prop}(h:p:=by repeat' (first|exact aD|refine h_c ?_ ?_|exact bG|refine ay ?_|exact ax|refine af ?_ ?_|exact ah hs (bU s)|exact ah hs (aT z)|exact ah hs (aq _)|exact aX)):p:=h
theorem e_15{p:Prop}(h:p:=by repeat' (first|exact aF|refine aj rfl ?_ ?_|exact ah hs (aU (eK l))|exact aX)):p:=h
theorem e_16{p:Prop}(h:p:=by repeat' (first|exact aD|refine h_c ?_ ?_|(refine aI hs ?_ (bY _);rw[hI];exact hset _)|exact bG)):p:=h
theorem e_17{p:Prop}(h:p:=by repeat' (first|exact aD|refine h_c ?_ ?_|exact CvLL.nil|exact bG)):p:=h
theorem e_18{p:Prop}(h:p:=by repeat' (first|exact aF|refine aj rfl ?_ ?_|exact ah hs nJ|exact aX)):p:=h
theorem e_19{p:Prop}(h:p:=by repeat' (first|exact aD|refine h_c ?_ ?_|exact bZ hs (iv _ _ _)|exact bZ hs (b8 _)|exact bG|refine ay ?_|exact ax|refine af ?_ ?_|exact ah hs (bp _)|exact aX)):p:=h
theorem e_20{p:Prop}(h:p:=by repeat' (first|exact aF|refine aj rfl ?_ ?_|exact ah hs cc|exact ah hs cq|exact ah hs cM|exact aX)):p:=h
theorem e_21{p:Prop}(h:p:=by repeat' (first|exact aD|refine h_c ?_ ?_|(refine aI hs ?_ (bY _);rw[hv1];exact hset _)|exact bG)):p:=h
theorem e_22{p:Prop}(h:p:=by repeat' (first|exact aD|refine h_c ?_ ?_|(refine aI hs ?_ (bY _);exact hset _)|exact bG)):p:=h
theorem e_23{p:Prop}(h:p:=by repeat' (first|exact ShrL.nil|refine ShrL.cons rfl rfl rfl rfl (by first|(exact(congrArg List.length hcp).trans (by simp))|rfl|(simp;done)|(simp <;> omega)) ?_)):p:=h
theorem e_24{p:Prop}(h:p:=by repeat' (first|exact aD|refine h_c ?_ ?_|exact aI hs hcp (bY _)|exact bG)):p:=h
theorem e_25{p:Prop}(h:p:=by repeat' (first|exact aF|refine aj rfl ?_ ?_|exact Cv.sealE hs rfl (aP rfl) rfl (by simp;omega) (bY _)|exact aX)):p:=h
theorem e_26{p:Prop}(h:p:=by repeat' (first|exact aD|refine h_c ?_ ?_|exact bG|refine ay ?_|exact ax|refine af ?_ ?_|exact Cv.sealE hs rfl (aP rfl) rfl (by simp;omega) (bY _)|exact aX)):p:=h
theorem e_27{p:Prop}(h:p:=by repeat' (first|exact aD|refine h_c ?_ ?_|exact CvLL.zeros hs _|exact bG)):p:=h
theorem e_28{p:Prop}(h:p:=by repeat' (first|exact aD|refine h_c ?_ ?_|exact aI hs hst2 (aJ _)|exact bG)):p:=h
theorem e_29{p:Prop}(h:p:=by repeat' (first|exact aF|refine aj rfl ?_ ?_|exact ah hs hcc|exact ah hs (closed_mA k)|exact aX)):p:=h
theorem e_30{p:Prop}(h:p:=by repeat' (first|exact aD|refine h_c ?_ ?_|exact bG|refine ay ?_|exact ax|refine af ?_ ?_|exact ah hs hcc|exact ah hs (closed_mA k)|exact aX)):p:=h
theorem e_31{p:Prop}(h:p:=by repeat' (first|exact aD|refine h_c ?_ ?_|exact aI hs (GG L i x _ (by omega)) (dG _)|exact bG)):p:=h
theorem e_32{p:Prop}(h:p:=by repeat' (first|exact aD|refine h_c ?_ ?_|exact aI hs (GG L (i- 1) x _ (by omega)) (dG _)|exact bG)):p:=h
theorem e_33{p:Prop}(h:p:=by repeat' (first|exact aD|refine h_c ?_ ?_|exact aI hs ex.symm (aJ _)|exact aI hs et.symm (aJ _)|exact ay (CvL.clo hs (bo _))|exact ay (CvL.clo hs b7)|exact bG|refine ay ?_|exact ax|refine af ?_ ?_|exact ah hs (cm L)|exact ah hs (b6 d)|exact aX)):p:=h
theorem e_34{p:Prop}(h:p:=by repeat' (first|exact aD|refine h_c ?_ ?_|exact aI hs ey.symm (aJ _)|exact ay (CvL.clo hs (bo _))|exact ay (CvL.clo hs b7)|exact bG|refine ay ?_|exact ax|refine af ?_ ?_|exact ah hs (cm L)|exact ah hs (b6 d)|exact aX)):p:=h
theorem e_35{p:Prop}(h:p:=by repeat' (first|exact aF|refine aj rfl ?_ ?_|exact ah hs (b6 d)|exact aX)):p:=h
theorem e_36{p:Prop}(h:p:=by repeat' (first|exact aD|refine h_c ?_ ?_|exact aI hs hsn.symm (dG _)|exact ay (CvL.clo hs ou)|exact bG|refine ay ?_|exact ax|refine af ?_ ?_|exact ah hs (b6 d)|exact aX)):p:=h
theorem e_37{p:Prop}(h:p:=by repeat' (first|exact aF|refine aj rfl ?_ ?_|exact ah hs (aT _)|exact ah hs (aq _)|exact aX)):p:=h
theorem e_38{p:Prop}(h:p:=by repeat' (first|exact ShrL.nil|refine ShrL.cons rfl rfl rfl rfl (by first|rfl|(simp;done)|(simp[hX]<;> omega)) ?_)):p:=h
theorem e_39{p:Prop}(h:p:=by repeat' (first|exact aF|refine aj rfl ?_ ?_|exact aX|(refine Cv.loE hs ?_ (ag _);first|rfl|(simp[i64,u64,u32,bln,hX];done)|(simp[i64,u64,u32,bln,hX]<;> omega)))):p:=h
theorem e_40{p:Prop}(h:p:=by repeat' (first|exact aD|refine h_c ?_ ?_|exact bG|(refine aI hs ?_ (dH _);first|(simp[og,nw,ji,hX];done)|(simp[iE,i64,ofV,hX];done))|refine ay ?_|exact ax|refine af ?_ ?_|exact aX|(refine Cv.loE hs ?_ (ag _);first|(simp[i64,u64,u32,bln,hX];done)|(simp[i64,u64,u32,bln,hX]<;> omega)))):p:=h
theorem e_41{p:Prop}(h:p:=by repeat' (first|exact ShrL.nil|refine ShrL.cons rfl rfl rfl rfl (by first|(exact congrArg List.length hset)|rfl|(simp;done)|(simp <;> omega)) ?_)):p:=h
theorem e_42{p:Prop}(h:p:=by repeat' (first|exact aD|refine h_c ?_ ?_|exact aI hs e (dH _)|exact bG)):p:=h
theorem e_43{p:Prop}(h:p:=by repeat' (first|exact aF|refine aj rfl ?_ ?_|exact ah hs (fH _)|exact aX)):p:=h
theorem e_44{p:Prop}(h:p:=by repeat' (first|exact aF|refine aj rfl ?_ ?_|exact ah hs (aU (ew l))|exact aX)):p:=h
theorem e_45{p:Prop}(h:p:=by repeat' (first|exact aF|refine aj rfl ?_ ?_|(refine Cv.loE hs ?_ (ag _);simp[i64];done)|exact aX)):p:=h
theorem e_46{p:Prop}(h:p:=by repeat' (first|exact aD|refine h_c ?_ ?_|exact bG|refine ay ?_|exact ax|refine af ?_ ?_|(refine Cv.loE hs ?_ (ag _);simp[i64];done)|exact aX)):p:=h
theorem e_47{p:Prop}(h:p:=by repeat' (first|exact aD|refine h_c ?_ ?_|exact aI hs (iD (0) _ _ hv) (b8 _)|exact bG|refine ay ?_|exact ax|refine af ?_ ?_|exact ah hs (bp _)|exact aX)):p:=h
theorem e_48{p:Prop}(h:p:=by repeat' (first|exact aD|refine h_c ?_ ?_|exact aI hs (iD (j+1) _ _ hv) (b8 _)|exact bG|refine ay ?_|exact ax|refine af ?_ ?_|exact ah hs (bp _)|exact aX)):p:=h
theorem e_49{p:Prop}(h:p:=by repeat' (first|exact aF|refine aj rfl ?_ ?_|exact ah hs (bp _)|exact dJ hs rfl (aP rfl) rfl (by simp)|exact aX)):p:=h
theorem e_50{p:Prop}(h:p:=by repeat' (first|exact aD|refine h_c ?_ ?_|exact aI hs (iD (0) _ _ hv) (b8 _)|exact bZ hs (iv _ _ _)|exact bZ hs (b8 _)|exact bG|refine ay ?_|exact ax|refine af ?_ ?_|exact ah hs (bp _)|exact aX)):p:=h
theorem e_51{p:Prop}(h:p:=by repeat' (first|exact aD|refine h_c ?_ ?_|exact aI hs (iD (j+1) _ _ hv) (b8 _)|exact bZ hs (iv _ _ _)|exact bZ hs (b8 _)|exact bG|refine ay ?_|exact ax|refine af ?_ ?_|exact ah hs (bp _)|exact aX)):p:=h
theorem e_52{p:Prop}(h:p:=by repeat' (first|exact aF|refine aj rfl ?_ ?_|exact ah hs cq|exact dJ hs rfl (aP rfl) rfl (by simp)|exact aX)):p:=h
theorem e_53{p:Prop}(h:p:=by repeat' (first|exact aD|refine h_c ?_ ?_|exact bG|refine ay ?_|exact ax|refine af ?_ ?_|exact ah hs cq|exact dJ hs rfl (aP rfl) rfl (by simp)|exact aX)):p:=h
theorem e_54{p:Prop}(h:p:=by repeat' (first|exact aF|refine aj rfl ?_ ?_|exact ah hs hcc|exact ah hs (aq _)|exact aX)):p:=h
theorem e_55{p:Prop}(h:p:=by repeat' (first|exact aD|refine h_c ?_ ?_|exact bG|refine ay ?_|exact ax|refine af ?_ ?_|exact ah hs hcc|exact ah hs (aq _)|exact aX)):p:=h
theorem e_56{p:Prop}(h:p:=by repeat' (first|exact aF|refine aj rfl ?_ ?_|exact Cv.boxp hs rfl (aP rfl) rfl (cu _ _)|exact Cv.boxp hs rfl (aP rfl) rfl (bo _)|exact Cv.sealE hs rfl (aP rfl) rfl rfl (aJ [s.1,s.2])|exact Cv.loE hs rfl (ag _)|exact aX)):p:=h
theorem e_57{p:Prop}(h:p:=by repeat' (first|exact aD|refine h_c ?_ ?_|exact bG|refine ay ?_|exact ax|refine af ?_ ?_|exact Cv.boxp hs rfl (aP rfl) rfl (cu _ _)|exact Cv.boxp hs rfl (aP rfl) rfl (bo _)|exact Cv.sealE hs rfl (aP rfl) rfl rfl (aJ [s.1,s.2])|exact Cv.loE hs rfl (ag _)|exact aX)):p:=h
theorem e_58{p:Prop}(h:p:=by repeat' (first|exact aF|refine aj rfl ?_ ?_|exact ah hs (bU s)|exact ah hs (lM _ _ _ _)|exact ah hs (aq _)|exact aX)):p:=h
theorem e_59{p:Prop}(h:p:=by repeat' (first|exact aD|refine h_c ?_ ?_|exact bG|refine ay ?_|exact ax|refine af ?_ ?_|exact ah hs (bU s)|exact ah hs (lM _ _ _ _)|exact ah hs (aq _)|exact aX)):p:=h
theorem e_60{p:Prop}(h:p:=by repeat' (first|exact aF|refine aj rfl ?_ ?_|exact Cv.boxp hs rfl (aP rfl) rfl (cu _ _)|exact Cv.boxp hs rfl (aP rfl) rfl (bo _)|exact aX)):p:=h
theorem e_61{p:Prop}(h:p:=by repeat' (first|exact aD|refine h_c ?_ ?_|exact ay (CvL.clo hs ga)|exact bG|refine ay ?_|exact ax|refine af ?_ ?_|exact Cv.boxp hs rfl (aP rfl) rfl (cu _ _)|exact Cv.boxp hs rfl (aP rfl) rfl (bo _)|exact aX)):p:=h
theorem e_62{p:Prop}(h:p:=by repeat' (first|exact aF|refine aj rfl ?_ ?_|exact ah hs (bU s)|exact ah hs (aT w)|exact ah hs (aq _)|exact aX)):p:=h
theorem e_63{p:Prop}(h:p:=by repeat' (first|exact aD|refine h_c ?_ ?_|exact aI hs ex.symm (aJ _)|exact ay (CvL.clo hs ga)|exact bG|refine ay ?_|exact ax|refine af ?_ ?_|exact ah hs (bU s)|exact ah hs (aT w)|exact ah hs (aq _)|exact aX)):p:=h
theorem e_64{p:Prop}(h:p:=by repeat' (first|exact aF|refine aj rfl ?_ ?_|exact ah hs (bU s)|exact ah hs (aT _)|exact ah hs (aq _)|exact aX)):p:=h
theorem e_65{p:Prop}(h:p:=by repeat' (first|exact aD|refine h_c ?_ ?_|exact aI hs ex.symm (aJ _)|exact aI hs hsn.symm (dG _)|exact ay (CvL.clo hs ga)|exact ay (af (ah hs (aq _)) (af (Cv.sl rfl rfl rfl) (af (ah hs aK) ax)))|exact bG|refine ay ?_|exact ax|refine af ?_ ?_|exact ah hs (bU s)|exact ah hs (aT _)|exact ah hs (aq _)|exact aX)):p:=h
theorem e_66{p:Prop}(h:p:=by repeat' (first|exact aF|refine aj rfl ?_ ?_|exact ah hs hRc|exact ah hs (aq _)|exact aX)):p:=h
theorem e_67{p:Prop}(h:p:=by repeat' (first|exact aD|refine h_c ?_ ?_|exact bG|refine ay ?_|exact ax|refine af ?_ ?_|exact ah hs hRc|exact ah hs (aq _)|exact aX)):p:=h
theorem e_68{p:Prop}(h:p:=by repeat' (first|exact aD|refine h_c ?_ ?_|exact aI hs ex.symm (aJ _)|exact aI hs ey.symm (aJ _)|exact ay (CvL.clo hs (ae aK (ae aK (ae aK ai))))|exact ay (af (Cv.sl rfl rfl rfl) (af (Cv.sl rfl rfl rfl) (af (ah hs aK) ax)))|exact bG|refine ay ?_|exact ax|refine af ?_ ?_|exact ah hs (aU (eK l))|exact aX)):p:=h
end Go.Abs
