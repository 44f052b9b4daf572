/- Part V09 of the proof. -/
import Derived.Test.YtkhclghbcicapaaGreatDoorV08
set_option linter.all false
namespace Go.Abs
theorem d_t{p:Prop}(h:p:=by first|rfl|assumption|exact decide_eq_true (by omega)|(simp;done)|(simp;omega)):p:=h
theorem d_f{p:Prop}(h:p:=by first|rfl|assumption|exact decide_eq_false (by omega)|(simp;done)|(simp;omega)):p:=h
theorem d_n{p:Prop}(h:p:=by first|exact nle rfl|(simp;done)|(simp;omega)):p:=h
theorem d_o{p:Prop}(h:p:=by first|rfl|assumption|(simp;done)|(simp;omega)|omega):p:=h
theorem cT{ρ:Option Nat}{P:Program}{Q:Exit→AState→Prop}{st:AState}{c:Operand}{x y:Code}(h1:AWp ρ P x Q st)(hc:st.ev c=some (.v (.bool true)):=by exact rfl):AWp ρ P (.cond c x y) Q st:=aq hc (fun _=>h1) (fun e=>by cases e)
theorem cF{ρ:Option Nat}{P:Program}{Q:Exit→AState→Prop}{st:AState}{c:Operand}{x y:Code}(h1:AWp ρ P y Q st)(hc:st.ev c=some (.v (.bool false)):=by exact rfl):AWp ρ P (.cond c x y) Q st:=aq hc (fun e=>by cases e) (fun _=>h1)
theorem au_d{p:Prop}(h:p:=by first|exact bm|(refine Cv.loE hs ?_ (ah _);assumption)|(refine Cv.boxp hs rfl (aQ rfl) rfl ?_;assumption)):p:=h
theorem au_g{p:Prop}(h:p:=by(first|exact cu|(refine cv hs ?_;first|assumption|exact aV _|exact ku _|exact kr _|exact dR _)|(refine aT hs ?_ ?_;assumption;first|assumption|exact b6 _|exact aV _|exact ku _|exact kr _|exact dR _)|exact aG (CvL.clo hs (by first|assumption|exact a7 _|exact hZ _))|(refine aG ?_;repeat' (first|exact aw|refine ai ?_ ?_)))<;> exact au_d):p:=h
theorem au_i{p:Prop}(h:p:=by repeat' (first|exact aS|refine az rfl ?_ ?_|exact au_d)):p:=h
theorem au_j{p:Prop}(h:p:=by repeat' (first|exact aI|refine sK rfl rfl rfl rfl ?_ ?_|exact au_g)):p:=h
theorem s_f {fr fr':Fr} {hp hp':Hp} {nx nx' n:Nat} (l:List (Nat×Nat)) (hS:ShrL (rnm fr l nx') (ap hp) hp':=by exact Ei)
    (hF:Shr (rnm fr l nx') (ap hp) (ap hp')→CvF (rnm fr l nx') (ap hp) (ap hp') fr fr':=by exact fun hs=>au_i)
    (hH:Shr (rnm fr l nx') (ap hp) (ap hp')→CvH (rnm fr l nx') (ap hp) (ap hp') hp':=by exact fun hs=>au_j)
    (hk:Nat.blt 0 nx'=true:=by exact rfl) (h0:(rnm fr l nx').s 0=0:=by exact rfl) (hinj:nS (rnm fr l nx') (hp'.map (·.1))=true:=by exact rfl):SEnt ⟨fr,hp,nx,n⟩ ⟨fr',hp',nx',n⟩:=
 AE l hk h0 hinj hS hF hH
theorem s_t {fr fr':Fr} {hp hp':Hp} {nx nx' n:Nat} (l:List (Nat×Nat)) (hS:ShrL (rnm fr l nx') (ap hp) hp':=by exact Ei)
    (hF:Shr (rnm fr l nx') (ap hp) (ap hp')→CvF (rnm fr l nx') (ap hp) (ap hp') fr fr':=by exact fun hs=>au_i)
    (hH:Shr (rnm fr l nx') (ap hp) (ap hp')→CvH (rnm fr l nx') (ap hp) (ap hp') hp':=by exact fun hs=>au_j)
    (hk:Nat.blt 0 nx'=true:=by exact rfl) (h0:(rnm fr l nx').s 0=0:=by exact rfl) (hinj:nS (rnm fr l nx') (hp'.map (·.1))=true:=by exact rfl):SEntT ⟨fr,hp,nx,n⟩ ⟨fr',hp',nx',n⟩:=
 SEntT.to l hk h0 hinj hS hF hH
class T4 (P:Program) (t:Nat) (z:outParam (List Value)) (s:outParam Nat) (g:outParam Bool) (b:outParam Nat):Prop where h:(ic P t,jV P t,fZ P t,uB P t)=(some z,some s,some g,some b)
class T3 (P:Program) (t:Nat) (s:outParam Nat) (g:outParam Bool) (b:outParam Nat):Prop where h:(jV P t,fZ P t,uB P t)=(some s,some g,some b)
class T2 (P:Program) (t i:Nat) (v:outParam (Nat×Nat)) (g:outParam Bool):Prop where h:(nn P t i,n3 P t i)=(some v,some g)
section
variable {P:Program}{t i s b:Nat}{z:List Value}{g:Bool}{v:Nat×Nat}
instance [c:T4 P t z s g b]:T3 P t s g b:=⟨congrArg (·.2) c.h⟩
instance [c:T4 P t z s g b]:TZ P t z:=⟨congrArg (·.1) c.h⟩
instance [c:T3 P t s g b]:TS P t s:=⟨congrArg (·.1) c.h⟩
instance [c:T3 P t s g b]:TG P t g:=⟨congrArg (·.2.1) c.h⟩
instance [c:T3 P t s g b]:TB P t b:=⟨congrArg (·.2.2) c.h⟩
instance [c:T2 P t i v g]:TF P t i v:=⟨congrArg (·.1) c.h⟩
instance [c:T2 P t i v g]:TA P t i g:=⟨congrArg (·.2) c.h⟩
end
theorem h_c{r:Ren}{hp hp':Nat→Option ABlk}{i:Nat}{B B0:ABlk}{l:Hp}(hc:CvLL r hp hp' B0.es B.es)(hl:CvH r hp hp' l)(hi:Nat.blt i r.n=true:=by exact rfl)(h:hp (r.s i)=some B0:=by exact rfl)(ht:B0.ty=B.ty:=by exact rfl)(hz:B0.sz=B.sz:=by exact rfl):CvH r hp hp' ((i,some B)::l):=sK hi h ht hz hc hl
theorem s_x {fr fr':Fr} {hp hp':Hp} {nx nx' n:Nat} (l:List (Nat×Nat))
    (hF:Shr (rnm fr l nx') (ap hp) (ap hp')→CvF (rnm fr l nx') (ap hp) (ap hp') fr fr')
    (hH:Shr (rnm fr l nx') (ap hp) (ap hp')→CvH (rnm fr l nx') (ap hp) (ap hp') hp') (hS:ShrL (rnm fr l nx') (ap hp) hp':=by exact Ei)
    (hk:Nat.blt 0 nx'=true:=by exact rfl) (h0:(rnm fr l nx').s 0=0:=by exact rfl) (hinj:nS (rnm fr l nx') (hp'.map (·.1))=true:=by exact rfl):SEnt ⟨fr,hp,nx,n⟩ ⟨fr',hp',nx',n⟩:=
 AE l hk h0 hinj hS hF hH
theorem s_y {fr fr':Fr} {hp hp':Hp} {nx nx' n:Nat} (l:List (Nat×Nat))
    (hF:Shr (rnm fr l nx') (ap hp) (ap hp')→CvF (rnm fr l nx') (ap hp) (ap hp') fr fr')
    (hH:Shr (rnm fr l nx') (ap hp) (ap hp')→CvH (rnm fr l nx') (ap hp) (ap hp') hp') (hS:ShrL (rnm fr l nx') (ap hp) hp':=by exact Ei)
    (hk:Nat.blt 0 nx'=true:=by exact rfl) (h0:(rnm fr l nx').s 0=0:=by exact rfl) (hinj:nS (rnm fr l nx') (hp'.map (·.1))=true:=by exact rfl):SEntT ⟨fr,hp,nx,n⟩ ⟨fr',hp',nx',n⟩:=
 SEntT.to l hk h0 hinj hS hF hH
theorem s_z {fr fr':Fr} {hp hp':Hp} {nx nx' n:Nat} (l:List (Nat×Nat))
    (hF:Shr (kK fr l nx') (ap hp) (ap hp')→CvF (kK fr l nx') (ap hp) (ap hp') fr fr')
    (hH:Shr (kK fr l nx') (ap hp) (ap hp')→CvH (kK fr l nx') (ap hp) (ap hp') hp') (hS:ShrL (kK fr l nx') (ap hp) hp':=by exact Ei)
    (hk:Nat.blt 0 nx'=true:=by exact rfl) (h0:(kK fr l nx').s 0=0:=by exact rfl) (hinj:nS (kK fr l nx') (hp'.map (·.1))=true:=by exact rfl):SEnt ⟨fr,hp,nx,n⟩ ⟨fr',hp',nx',n⟩:=
 SEnt.to2 l hk h0 hinj hS hF hH
theorem f_n{P:Program}{f:Nat}{fn:Func}{c:Code}{args:List AV}{r:AV}{rs:List ResultVar}{m:Nat}{fr:Fr}(hf:P.funcs[f]?=some fn)(hcl:∀a∈args,Closed a)(h:AWp none P c (Fin P rs r) ⟨fr,[],1,m⟩)(hb:fn.body=some c:=by exact rfl)(hrs:fn.results.toList=rs:=by exact rfl)(hm:fn.ntmps=m:=by exact rfl)(hn:Nat.ble args.length m=true:=by exact rfl)(hfr:dI 0 args=fr:=by exact rfl)(hname:(fn.name== "runtime.NumGoroutine")=false:=by kernel_rfl):FSpec P f args r:=uu hf hb hname hrs hm hn hcl hfr h
theorem f_c{P:Program}{f:Nat}{fn:Func}{c:Code}{args:List AV}{r:AV}{rs:List ResultVar}{m:Nat}{fr:Fr}(hf:P.funcs[f]?=some fn)(h:AWp none P c (Fin P rs r) ⟨fr,[],1,m⟩)(hcl:∀a∈args,Closed a:=by repeat' (first|exact ag|exact ah _|assumption|exact cm _|exact b6 _|exact yB _|exact a7 _|exact aV _|exact bi _ _|exact gY _|exact dR _|exact hZ _|exact kr _|exact dj _|exact b7 _|exact iH _|exact ku _|refine ac ?_ ?_|refine aB ?_|refine aK ?_|refine bC ?_))(hb:fn.body=some c:=by exact rfl)(hrs:fn.results.toList=rs:=by exact rfl)(hm:fn.ntmps=m:=by exact rfl)(hn:Nat.ble args.length m=true:=by exact rfl)(hfr:dI 0 args=fr:=by exact rfl)(hname:(fn.name== "runtime.NumGoroutine")=false:=by kernel_rfl):FSpec P f args r:=uu hf hb hname hrs hm hn hcl hfr h
section
variable {P:Program}{ops:Array Oper}{nx n j:Nat}{rest:List Oper}{fr:Fr}{hp:Hp}{K:Fps→Fr→Hp→Prop}{d:Nat}{op:Op}{ty:Nat}{pos:String}{after:Array Edge}{a:AV}{rd:List Nat}{g t:Nat}{b want:Bool}{x:Value}
theorem n_k{q s:Prop}(h:s)(h0:q:=by kernel_rfl):q∧s:=⟨h0,h⟩
def gv(ops:Array Oper)(g:Nat)(fr:Fr):Option Bool:=((ops[g]?).bind (·.dst)).bind fun t=>(evF (look fr) (.tmp t)).bind fun a=>match a with| .v (.bool b)=>some b|_=>none
theorem gv_of(h:gv ops g fr=some b):∃t,(ops[g]?).bind (·.dst)=some t∧evF (look fr) (.tmp t)=some (.v (.bool b)):=by
 obtain⟨t,h1,c⟩:=Option.bind_eq_some_iff.1 h;obtain⟨a,d,e⟩:=Option.bind_eq_some_iff.1 c;grind
theorem n_g(hx:gv ops g fr=some b)(hb:b=!want)(h:AR P ops nx n (j+1) rest ((d,.v undef)::fr) hp fun fps f h=>K (([],[])::fps) f h)(hnd:cb op=true:=by exact rfl)(hd:Nat.blt d n=true:=by exact rfl):AR P ops nx n j (⟨some d,op,ty,pos,after,some (g,want)⟩::rest) fr hp K:=by
 obtain⟨t,ht,hx⟩:=gv_of hx;exact En ht hx (gn hb) hnd hd h
theorem y_g(hx:gv ops g fr=some b)(hb:b=want)(hs:AEval P (nx+j) (evF (look fr)) (ap hp) op ⟨a,[]⟩ rd)(h:AR P ops nx n (j+1) rest ((d,a)::fr) hp fun fps f h=>K (([],rd)::fps) f h)(hnd:cb op=true:=by exact rfl)(hd:Nat.blt d n=true:=by exact rfl):AR P ops nx n j (⟨some d,op,ty,pos,after,some (g,want)⟩::rest) fr hp K:=by
 obtain⟨t,ht,hx⟩:=gv_of hx;exact bK ht hx (gy hb) hs hnd hd h
theorem i_x{T E:Nat}{sz:Nat}{xx ix:Operand}{es:List (List AV)}{cs:List AV}{kd:IntKind}{z:Int}[TE P T (E,sz)](hg:es[z.toNat]?=some cs)(h:AR P ops nx n (j+1) rest ((d,.aptr es z.toNat 0)::fr) hp fun fps f h=>K (([],[])::fps) f h)(h1:evF (look fr) xx=some (.arr es):=by exact rfl)(h2:evF (look fr) ix=some (.v (.int kd z)):=by exact rfl)(h3:0≤z:=by omega)(h4:cs.length=sz:=by exact rfl)(hd:Nat.blt d n=true:=by exact rfl):AR P ops nx n j (⟨some d,.indexAddr T xx ix,ty,pos,after,none⟩::rest) fr hp K:=ci (.index_a h1 h2 h3 hg h4 TE.h) rfl hd h
theorem l_x{T i o k:Nat}{xx:Operand}{es:List (List AV)}{cs:List AV}[TG P T true][TS P T k](hg:es[i]?=some cs)(h:AR P ops nx n (j+1) rest ((d,.agg ((cs.drop o).take k))::fr) hp fun fps f h=>K (([],[])::fps) f h)(h1:evF (look fr) xx=some (.aptr es i o):=by exact rfl)(h2:Nat.ble (o+k) cs.length=true:=by exact rfl)(hd:Nat.blt d n=true:=by exact rfl):AR P ops nx n j (⟨some d,.load T xx,ty,pos,after,none⟩::rest) fr hp K:=ci (.load_a h1 hg TG.h TS.h (Nat.le_of_ble_eq_true h2)) rfl hd h
theorem l_1{T i o:Nat}{xx:Operand}{es:List (List AV)}{cs:List AV}{c:AV}[TG P T false](hg:es[i]?=some cs)(h:AR P ops nx n (j+1) rest ((d,c)::fr) hp fun fps f h=>K (([],[])::fps) f h)(h1:evF (look fr) xx=some (.aptr es i o):=by exact rfl)(h2:cs[o]?=some c:=by exact rfl)(hd:Nat.blt d n=true:=by exact rfl):AR P ops nx n j (⟨some d,.load T xx,ty,pos,after,none⟩::rest) fr hp K:=ci (.load_a1 h1 hg TG.h h2) rfl hd h
theorem r_m{ρ:Option Nat}{Q:Exit→AState→Prop}{id:Nat}(m:Nat)(h:AR P ops nx n 0 ops.toList fr hp fun _ f h=>Q .normal ⟨f,h,nx+m,n⟩)(hsz:ops.size=m:=by exact rfl):AWp ρ P (.region id ops false) Q ⟨fr,hp,nx,n⟩:=FD hsz h
theorem r_d{ρ:Option Nat}{Q:Exit→AState→Prop}{id:Nat}(hm:P.follows .mixedOrders=true)(m:Nat)(h:AR P ops nx n 0 ops.toList fr hp fun fps f h=>nG ops fps=true∧Q .normal ⟨f,h,nx+m,n⟩)(hsz:ops.size=m:=by exact rfl):AWp ρ P (.region id ops true) Q ⟨fr,hp,nx,n⟩:=JE hm hsz h
theorem c_e{T i e o k:Nat}{B:ABlk}{cs:List AV}{r:AV}[TG P T true][TS P T k](hc:Closed r)(h:look fr t=some (.lptr i e o):=by exact rfl)(hb:dW (ap hp) i=some B:=by exact rfl)(he:B.es[e]?=some cs:=by exact rfl)(hl:Nat.ble (o+k) cs.length=true:=by exact rfl)(h2:AV.agg ((cs.drop o).take k)=r:=by exact rfl):Fin P [.cell t T] r .ret ⟨fr,hp,nx,n⟩:=dV h hb he TG.h TS.h (Nat.le_of_ble_eq_true hl) h2 hc
theorem t_e{r0 r:AV}(hc:Closed r)(h:look fr t=some r0:=by exact rfl)(e:r0=r:=by exact rfl):Fin P [.tmp t] r .ret ⟨fr,hp,nx,n⟩:=aY h e hc
end
theorem e_1{p:Prop}(h:p:=by repeat' (first|exact aS|refine az rfl ?_ ?_|exact ao hs (aU ag hcap)|exact bm)):p:=h
theorem e_2{p:Prop}(h:p:=by repeat' (first|exact aS|refine az rfl ?_ ?_|exact ao hs (wR _)|exact ao hs (em k L G)|exact ao hs (b7 _)|exact ao hs (aC _)|exact bm)):p:=h
theorem e_3{p:Prop}(h:p:=by repeat' (first|exact aI|refine h_c ?_ ?_|exact cu|refine aG ?_|exact aw|refine ai ?_ ?_|exact ao hs (wR _)|exact ao hs (em k L G)|exact ao hs (b7 _)|exact ao hs (aC _)|exact bm)):p:=h
theorem e_4{p:Prop}(h:p:=by repeat' (first|exact aS|refine az rfl ?_ ?_|exact ao hs (aX k)|exact ao hs hcc|exact bm)):p:=h
theorem e_5{p:Prop}(h:p:=by repeat' (first|exact aS|refine az rfl ?_ ?_|exact ao hs (eg _)|exact ao hs (closed_mA _)|exact bm)):p:=h
theorem e_6{p:Prop}(h:p:=by repeat' (first|exact aS|refine az rfl ?_ ?_|exact ao hs (cL a b)|exact ao hs (da [p] l g a b)|exact ao hs (cX 1 A L)|exact ao hs (dS a b gr)|exact ao hs (b7 _)|exact ao hs (aC _)|exact bm)):p:=h
theorem e_7{p:Prop}(h:p:=by repeat' (first|exact ShrL.nil|refine ShrL.cons rfl rfl rfl rfl (by first|(simp)|rfl|(simp;done)|(simp <;> omega)) ?_)):p:=h
theorem e_8{p:Prop}(h:p:=by repeat' (first|exact aI|refine h_c ?_ ?_|exact cv hs (ac (a7 c) ag)|exact cu)):p:=h
theorem e_9{p:Prop}(h:p:=by repeat' (first|exact aI|refine h_c ?_ ?_|exact cu|refine aG ?_|exact aw|refine ai ?_ ?_|exact ao hs (eg _)|exact ao hs (closed_mA _)|exact bm)):p:=h
theorem IX{p:Prop}(h:p:=by repeat' (first|exact aI|refine h_c ?_ ?_|exact cu|refine aG ?_|exact aw|refine ai ?_ ?_|exact ao hs (cL a b)|exact ao hs (da [p] l g a b)|exact ao hs (cX 1 A L)|exact ao hs (dS a b gr)|exact ao hs (b7 _)|exact ao hs (aC _)|exact bm)):p:=h
theorem e_11{p:Prop}(h:p:=by repeat' (first|exact aI|refine h_c ?_ ?_|exact cu|refine aG ?_|exact aw|refine ai ?_ ?_|exact ao hs (aU ag hcap)|exact bm)):p:=h
theorem e_12{p:Prop}(h:p:=by repeat' (first|exact aS|refine az rfl ?_ ?_|exact ao hs (bC (a7 q))|exact bm)):p:=h
theorem e_13{p:Prop}(h:p:=by repeat' (first|exact aI|refine h_c ?_ ?_|exact cu|refine aG ?_|exact aw|refine ai ?_ ?_|exact ao hs (bC (a7 q))|exact bm)):p:=h
theorem e_14{p:Prop}(h:p:=by repeat' (first|exact aS|refine az rfl ?_ ?_|exact ao hs (cL a b)|exact ao hs (da [p] l g a b)|exact ao hs (cX 1 A L)|exact ao hs (dS a b gr)|exact ao hs (b7 _)|exact ao hs (aC _)|exact Cv.boxp hs rfl (aQ rfl) rfl (a7 _)|exact bm)):p:=h
theorem e_15{p:Prop}(h:p:=by repeat' (first|exact aI|refine h_c ?_ ?_|(refine aT hs ?_ (b6 _);rw[hI];exact hset _)|exact cu)):p:=h
theorem e_16{p:Prop}(h:p:=by repeat' (first|exact aI|refine h_c ?_ ?_|exact CvLL.nil|exact cu)):p:=h
theorem e_17{p:Prop}(h:p:=by repeat' (first|exact aS|refine az rfl ?_ ?_|exact ao hs (aX k)|exact bm)):p:=h
theorem e_18{p:Prop}(h:p:=by repeat' (first|exact aI|refine h_c ?_ ?_|exact aG (CvL.clo hs hcl)|exact aG (CvL.clo hs (dy (bi lo hi) (ac (ah _) ag)))|exact cu|refine aG ?_|exact aw|refine ai ?_ ?_|exact ao hs (aX k)|exact bm)):p:=h
theorem e_19{p:Prop}(h:p:=by repeat' (first|exact aS|refine az rfl ?_ ?_|exact ao hs (dr l)|exact bm)):p:=h
theorem e_20{p:Prop}(h:p:=by repeat' (first|exact aS|refine az rfl ?_ ?_|exact ao hs (fR [p])|exact bm)):p:=h
theorem e_21{p:Prop}(h:p:=by repeat' (first|exact aI|refine h_c ?_ ?_|(refine aT hs ?_ (b6 _);rw[hv1];exact hset _)|exact cu)):p:=h
theorem e_22{p:Prop}(h:p:=by repeat' (first|exact aI|refine h_c ?_ ?_|(refine aT hs ?_ (b6 _);exact hset _)|exact cu)):p:=h
theorem e_23{p:Prop}(h:p:=by repeat' (first|exact ShrL.nil|refine ShrL.cons rfl rfl rfl rfl (by first|(exact(congrArg List.length hcp).trans (by simp))|rfl|(simp;done)|(simp <;> omega)) ?_)):p:=h
theorem e_24{p:Prop}(h:p:=by repeat' (first|exact aI|refine h_c ?_ ?_|exact aT hs hcp (b6 _)|exact cu)):p:=h
theorem e_25{p:Prop}(h:p:=by repeat' (first|exact aS|refine az rfl ?_ ?_|exact Cv.sealE hs rfl (aQ rfl) rfl (by simp;omega) (b6 _)|exact bm)):p:=h
theorem e_26{p:Prop}(h:p:=by repeat' (first|exact aI|refine h_c ?_ ?_|exact cu|refine aG ?_|exact aw|refine ai ?_ ?_|exact Cv.sealE hs rfl (aQ rfl) rfl (by simp;omega) (b6 _)|exact bm)):p:=h
theorem e_27{p:Prop}(h:p:=by repeat' (first|exact aI|refine h_c ?_ ?_|exact CvLL.zeros hs _|exact cu)):p:=h
theorem e_28{p:Prop}(h:p:=by repeat' (first|exact aI|refine h_c ?_ ?_|exact aT hs hst2 (aV _)|exact cu)):p:=h
theorem e_29{p:Prop}(h:p:=by repeat' (first|exact aS|refine az rfl ?_ ?_|exact ao hs hcc|exact ao hs (aX k)|exact bm)):p:=h
theorem e_30{p:Prop}(h:p:=by repeat' (first|exact aI|refine h_c ?_ ?_|exact cu|refine aG ?_|exact aw|refine ai ?_ ?_|exact ao hs hcc|exact ao hs (aX k)|exact bm)):p:=h
theorem e_31{p:Prop}(h:p:=by repeat' (first|exact aS|refine az rfl ?_ ?_|exact ao hs (aX k)|exact ao hs (aC u)|exact bm)):p:=h
theorem e_32{p:Prop}(h:p:=by repeat' (first|exact aI|refine h_c ?_ ?_|exact cu|refine aG ?_|exact aw|refine ai ?_ ?_|exact ao hs (aX k)|exact ao hs (aC u)|exact bm)):p:=h
theorem e_33{p:Prop}(h:p:=by repeat' (first|exact aI|refine h_c ?_ ?_|exact cu|refine aG ?_|exact aw|refine ai ?_ ?_|exact ao hs (aX k)|exact ao hs hcc|exact bm)):p:=h
theorem e_34{p:Prop}(h:p:=by repeat' (first|exact aS|refine az rfl ?_ ?_|exact ao hs (aU ag (ac (em k l g) (ac (b7 a) ag)))|exact bm)):p:=h
theorem e_35{p:Prop}(h:p:=by repeat' (first|exact aI|refine h_c ?_ ?_|exact cu|refine aG ?_|exact aw|refine ai ?_ ?_|exact ao hs (aU ag (ac (em k l g) (ac (b7 a) ag)))|exact bm)):p:=h
theorem e_36{p:Prop}(h:p:=by repeat' (first|exact ShrL.nil|refine ShrL.cons rfl rfl rfl rfl (by first|rfl|(simp;done)|(simp[hX]<;> omega)) ?_)):p:=h
theorem e_37{p:Prop}(h:p:=by repeat' (first|exact aS|refine az rfl ?_ ?_|exact bm|(refine Cv.loE hs ?_ (ah _);first|rfl|(simp[i64,u64,u32,bln,hX];done)|(simp[i64,u64,u32,bln,hX]<;> omega)))):p:=h
theorem e_38{p:Prop}(h:p:=by repeat' (first|exact aI|refine h_c ?_ ?_|exact cu|(refine aT hs ?_ (dR _);first|(simp[qe,oF,j6,hX];done)|(simp[iE,i64,ofV,hX];done))|refine aG ?_|exact aw|refine ai ?_ ?_|exact bm|(refine Cv.loE hs ?_ (ah _);first|(simp[i64,u64,u32,bln,hX];done)|(simp[i64,u64,u32,bln,hX]<;> omega)))):p:=h
theorem e_39{p:Prop}(h:p:=by repeat' (first|exact ShrL.nil|refine ShrL.cons rfl rfl rfl rfl (by first|(exact congrArg List.length hset)|rfl|(simp;done)|(simp <;> omega)) ?_)):p:=h
theorem e_40{p:Prop}(h:p:=by repeat' (first|exact aI|refine h_c ?_ ?_|exact aT hs e (dR _)|exact cu)):p:=h
theorem e_41{p:Prop}(h:p:=by repeat' (first|exact aS|refine az rfl ?_ ?_|exact ao hs (aK (cU l))|exact bm)):p:=h
theorem e_42{p:Prop}(h:p:=by repeat' (first|exact aS|refine az rfl ?_ ?_|exact ao hs hcc|exact ao hs (closed_mA k)|exact bm)):p:=h
theorem e_43{p:Prop}(h:p:=by repeat' (first|exact aI|refine h_c ?_ ?_|exact cu|refine aG ?_|exact aw|refine ai ?_ ?_|exact ao hs hcc|exact ao hs (closed_mA k)|exact bm)):p:=h
theorem e_44{p:Prop}(h:p:=by repeat' (first|exact aS|refine az rfl ?_ ?_|exact ao hs (cX n A L)|exact ao hs (aK (fg L))|exact bm)):p:=h
theorem e_45{p:Prop}(h:p:=by repeat' (first|exact aS|refine az rfl ?_ ?_|exact ao hs (aX k)|exact ao hs (aC c)|exact bm)):p:=h
theorem e_46{p:Prop}(h:p:=by repeat' (first|exact aI|refine h_c ?_ ?_|exact cu|refine aG ?_|exact aw|refine ai ?_ ?_|exact ao hs (aX k)|exact ao hs (aC c)|exact bm)):p:=h
theorem e_47{p:Prop}(h:p:=by repeat' (first|exact aS|refine az rfl ?_ ?_|exact ao hs (da k l g a b)|exact Cv.boxp hs rfl (aQ rfl) rfl (eK _ _ _)|exact bm)):p:=h
theorem e_48{p:Prop}(h:p:=by repeat' (first|exact aI|refine h_c ?_ ?_|exact cu|refine aG ?_|exact aw|refine ai ?_ ?_|exact ao hs (da k l g a b)|exact Cv.boxp hs rfl (aQ rfl) rfl (eK _ _ _)|exact bm)):p:=h
theorem e_49{p:Prop}(h:p:=by repeat' (first|exact aI|refine h_c ?_ ?_|exact cu|refine aG ?_|exact aw|refine ai ?_ ?_|exact ao hs (fR [p])|exact bm)):p:=h
theorem e_50{p:Prop}(h:p:=by repeat' (first|exact aI|refine h_c ?_ ?_|exact aT hs rfl (D8 _ _ _)|exact cu|refine aG ?_|exact aw|refine ai ?_ ?_|exact ao hs (cL a b)|exact ao hs (da [p] l g a b)|exact ao hs (cX 1 A L)|exact ao hs (dS a b gr)|exact ao hs (b7 _)|exact ao hs (aC _)|exact Cv.boxp hs rfl (aQ rfl) rfl (a7 _)|exact bm)):p:=h
section
variable {P:Program}{l N:Nat}{T:Nat→Option (List AV)}{E:GEnv P l T N}
def GLs(E:GEnv P l T N)(ops:Array Oper)(Q:Exit→Nat→Bool→AState→Prop)(tail:List Oper)(j nx n k:Nat)(go:Bool)(fr:Fr)(hp:Hp):Prop:=
 ∀(a:Act) (w:World) (M G:Nat→Prop) (hj:E.J k go M G w),FRel M (gI w G (E.gk hj)) (look fr) (ap hp) (fun i=>nx+j≤i) n a w→
  wpListIn (FR none) 0 P ops (fun e a' w'=> ∃k' go' st',GRel E k' go' st' a' w'∧Q e k' go' st') tail a w
theorem GLs.fin {ops:Array Oper} {tail:List Oper} {j k nx n n1:Nat} {go:Bool} {fr:Fr} {hp:Hp} {Q:Exit→Nat→Bool→AState→Prop} (hsz:j+tail.length=n1)
    (h:AR P ops nx n j tail fr hp fun _ f' h'=>Q .normal k go ⟨f',h',nx+n1,n⟩):GLs E ops Q tail j nx n k go fr hp:=by
 intro a w M G p r;obtain⟨us,d,b,q⟩:=h;have m:=jJ _ j _ _ _ b;have c:=kL (P:=P) (ops:=ops) (ρ:=none) (M0:=M) (w0:=gI w G (E.gk p)) (nx:=nx) (Q:=fun e s t=> ∃o l f,GRel E o l f s t∧Q e o l f) [] tail j ⟨fr,hp,nx,n⟩ d us a w b r fun v u g=>?_;rw[List.append_nil] at c;exact c;refine⟨k,go,⟨d.fr,d.hp,nx+n1,n⟩,GRel.go_on p ?_,q⟩;rw[m] at g;refine g.free fun i (hi:nx+n1≤i)=>?_;omega
theorem GLs.yield {ops:Array Oper} {tail:List Oper} {j k nx n nx2 d:Nat} {fr fr2:Fr} {hp hp2:Hp} {Q:Exit→Nat→Bool→AState→Prop} (m:Nat) {o:Oper} (ho:tail[m]?=some o) {cc:Call} {f:Operand} {as:List AV} (hop:o.op= .call cc) (hd:o.dst=some d) (hf:cc.callee= .value f)
    (hg:o.guard=none∨∃g t,o.guard=some (g,true)∧ops[g]?.bind (·.dst)=some t∧evF (look fr2) (.tmp t)=some (.v (.bool true)))
    (h:AR P ops nx n j (tail.take m) fr hp fun _ f1 h1=>SEntT ⟨f1,h1,nx+(j+m),n⟩ ⟨fr2,hp2,nx2,n⟩) (hdn:Nat.blt d n=true)
    (hev:evF (look fr2) f=some (.v (.func (.yield l) #[] #[]))) (has:evs (evF (look fr2)) cc.args.toList=some as) (hT:T k=some (as.map coe)) (hcl:∀a∈as.map coe,Closed a)
    (h3:∀go,GLs E ops Q (tail.drop (m+1)) (j+m+1) nx2 n (k+1) go ((d,.v (.bool go))::fr2) hp2):GLs E ops Q tail j nx n k true fr hp:=by
 have V:m< tail.length:=(List.getElem?_eq_some_iff.1 ho).1
 have J:tail=tail.take m++o::tail.drop (m+1):=by
  rw[←(List.getElem?_eq_some_iff.1 ho).2,←List.drop_eq_getElem_cons V,List.take_append_drop]
 intro a w M G N hr;rw[J];obtain⟨us,Z,r,C⟩:=h;have F:=jJ _ j _ _ _ r;simp only at F;refine kL (M0:=M) (w0:=gI w G (E.gk N)) (ρ:=none) _ _ j ⟨fr,hp,nx,n⟩ Z us a w r hr fun u p z=>?_;have R:(tail.take m).length=m:=by rw[List.length_take];omega
 rw[R,F] at z;have B:TRel M (gI w G (E.gk N)) ⟨fr2,hp2,nx2,n⟩ u p:=C M _ u p z;have hb:=z.choose_spec.1.below;have S:GStep G (fun b=>(G b∨w.heap.size≤b)∧b< p.heap.size) w p:=⟨hb.os,hb.tape,hb.output,hb.size,fun b h1 H=>hb.block b ⟨h1,H⟩,hb.sizes,fun b h=>h⟩;have q:=E.ok _ _ _ _ _ _ _ N S
 have W:TRel M (gI p (fun b=>(G b∨w.heap.size≤b)∧b< p.heap.size) (E.gk q)) ⟨fr2,hp2,nx2,n⟩ u p:=by
  obtain⟨β,e,h1,H,h3,⟨Ds,h4,h5,h6⟩,h7⟩:=B
  have L:∀b,b< p.heap.size→¬(gI w G (E.gk N)).K b→¬(gI p (fun b=>(G b∨w.heap.size≤b)∧b< p.heap.size) (E.gk q)).K b:=by
   rintro b O hk ⟨_,hn⟩;refine hn ⟨?_,O⟩;by_cases hG:G b;exact .inl hG;exact .inr (Nat.le_of_not_lt fun R=>hk ⟨R,hG⟩)
  refine⟨β,e.rebase (gI p _ (E.gk q)) rfl (fun b hb=>?_) (fun i b s Y=>L b (e.rng i b s Y).2 (e.rng i b s Y).1) e.pin,h1,fun t x U=>H t x U,h3,⟨Ds,h4,h5,fun D hD=>?_⟩,h7⟩;have:=(e.m0 b hb).1;exact⟨Nat.lt_of_lt_of_le this.1 e.below.size,fun hG=>hG.1.elim this.2 fun h=>by have:=this.1;omega⟩;obtain⟨h8,h9⟩:=h6 D hD;exact⟨h8,L D (Array.getElem?_eq_some_iff.1 h8).1 h9⟩
 have hw:Region.wanted o (yielded ops u.tmps)=true:=by
  rcases hg with hg|⟨g,t,hg,ht,U⟩
  simp[Region.wanted,hg];obtain⟨β,e,h1,H,_⟩:=B;have c:u.tmps.getD t undef= .bool true:=ii H (.tmp t) _ U
  have hyl:yielded ops u.tmps g=some true:=by
   simp only[yielded,ht,Option.bind_some];cases htt:u.tmps[t]? with
   |none=>
    rw[Array.getD_eq_getD_getElem?,htt] at c;cases c
   |some y=>
    rw[Array.getD_eq_getD_getElem?,htt] at c;simp only[Option.getD_some] at c;subst c;rfl
  simp only[Region.wanted,hg,hyl,beq_iff_eq]
 refine wpListIn_step fun K L=>?_;rw[if_pos hw];refine AH (E:=E) (st:=⟨fr2,hp2,nx2,n⟩) hop hd (Nat.le_of_ble_eq_true hdn) hf hev has hT hcl q W fun go a2 w2 A=>L a2 w2 ?_;obtain⟨M4,G4,X,A⟩:=A;exact h3 go a2 w2 M4 G4 X (FRel.free A fun i Y=>by show nx2≤i;omega)
theorem GWp.cutT{α:Type}{Q:Exit→Nat→Bool→AState→Prop}{x y:Code}{k:Nat}{go:Bool}{st:AState}(S:α→AState)(Post:α→Prop)(h:AWp none P x (cutA S Post fun _ _=>False) st)(h2:∀a,Post a→GWp E y Q k go (S a)):GWp E x (G7 (GWp E y Q) Q) k go st:=
 GWp.lift (AWp.mono h fun e s hs=>by
  cases e with
  |normal=>obtain⟨a,b,c⟩:=hs;exact GWp.ent c (h2 a b)
  |_=>exact hs.elim)
end
def mxB(T sz:Nat):List (List (List AV))→Nat→Hp
 |[],_=>[]
 |e::l,i=>(i,some ⟨T,sz,e⟩)::mxB T sz l (i+1)
theorem uK{T sz:Nat}:∀(L:List (List (List AV))) (i j:Nat) (B:ABlk),(j,some B)∈mxB T sz L i→∃k e,L[k]?=some e∧j=i+k∧B=⟨T,sz,e⟩
 |[],_,_,_,h=>by cases h
 |e::l,i,j,B,h=>by
  rcases List.mem_cons.1 h with h|h
  cases h;exact⟨0,e,rfl,rfl,rfl⟩;obtain⟨k,a,h1,c,b⟩:=uK l (i+1) j B h;exact⟨k+1,a,by grind,by omega,b⟩
theorem uL{T sz:Nat}:∀(L:List (List (List AV))) (i j:Nat),j∈(mxB T sz L i).map (·.1)→i≤j∧j< i+L.length
 |[],_,_,h=>by cases h
 |e::l,i,j,h=>by
  rcases List.mem_cons.1 h with h|h
  subst h;exact⟨Nat.le_refl _,by simp⟩;have:=uL l (i+1) j h;grind
theorem EW{T sz:Nat}:∀(L:List (List (List AV))) (i k:Nat) (e:List (List AV)),L[k]?=some e→ap (mxB T sz L i) (k+i)=some ⟨T,sz,e⟩
 |[],_,_,_,h=>by cases h
 |a::l,i,k,e,h=>by
  rw[mxB,dq];unfold upd;cases k with
  |zero=>grind
  |succ k=>
   have:=EW (T:=T) (sz:=sz) l (i+1) k e (by grind);grind
def mxH(TS TQ:Nat)(o:List (List AV))(L:List (List (List AV))):Hp:=(1,some ⟨TS,1,o⟩)::mxB TQ 4 L 2
theorem xj{r:Ren}{hp hp':Nat→Option ABlk}:∀l:Hp,(∀i B,(i,some B)∈l→i< r.n∧∃B0,hp (r.s i)=some B0∧B0.ty=B.ty∧B0.sz=B.sz∧CvLL r hp hp' B0.es B.es)→CvH r hp hp' l
 |[],_=>trivial
 |(i,none)::l,h=>⟨trivial,xj l fun j B a=>h j B (List.mem_cons_of_mem _ a)⟩
 |(i,some B)::l,h=>⟨h i B (List.mem_cons_self ..),xj l fun j B a=>h j B (List.mem_cons_of_mem _ a)⟩
theorem uR{r:Ren}:∀l:List Nat,(∀i j,i∈l→j∈l→r.s i=r.s j→i=j)→nS r l=true
 |[],_=>rfl
 |a::l,h=>by
  rw[nS,Bool.and_eq_true,List.all_eq_true];refine⟨fun j b=>?_,uR l fun i j c b=>h i j (List.mem_cons_of_mem _ c) (List.mem_cons_of_mem _ b)⟩;by_cases e:r.s a=r.s j;have:=h a j (List.mem_cons_self ..) (List.mem_cons_of_mem _ b) e;rw[this];simp
  have:Nat.beq (r.s a) (r.s j)=false:=by
   cases hb:Nat.beq (r.s a) (r.s j) with
   |false=>rfl
   |true=>simp_all
  grind
theorem SEnt.mx {fr fr':Fr} {hp:Hp} {nx N TS TQ:Nat} (s:Nat→Nat) (o o':List (List AV)) (L:List (List (List AV))) (hL:L.length≤30) (s0:s 0=0) (hinj:∀i j,1≤i→i< L.length+2→1≤j→j< L.length+2→s i=s j→i=j)
    (h1:ap hp (s 1)=some ⟨TS,1,o'⟩) (ho:o'.length=o.length) (hr:∀i e,L[i]?=some e→ap hp (s (i+2))=some ⟨TQ,4,e⟩∧∀x∈e,∀c∈x,Closed c)
    (hO:Shr ⟨40,s⟩ (ap hp) (ap (mxH TS TQ o L))→CvLL ⟨40,s⟩ (ap hp) (ap (mxH TS TQ o L)) o' o)
    (hF:Shr ⟨40,s⟩ (ap hp) (ap (mxH TS TQ o L))→CvF ⟨40,s⟩ (ap hp) (ap (mxH TS TQ o L)) fr fr'):SEnt ⟨fr,hp,nx,N⟩ ⟨fr',mxH TS TQ o L,40,N⟩:=by
 have a:∀i B,(i,some B)∈mxH TS TQ o L→(i=1∧B=⟨TS,1,o⟩)∨∃k e,L[k]?=some e∧i=k+2∧B=⟨TQ,4,e⟩:=fun i B h=>by
  rcases List.mem_cons.1 h with h|h
  cases h;exact .inl ⟨rfl,rfl⟩;obtain⟨k,e,d,m,k3⟩:=uK L 2 i B h;grind
 have f:Shr ⟨40,s⟩ (ap hp) (ap (mxH TS TQ o L)):=⟨fun i B h=>by
  rcases a i B (ji h) with⟨rfl,rfl⟩|⟨k,e,d,rfl,rfl⟩
  exact⟨(show 1< 40 by decide),_,h1,rfl,rfl,ho⟩;grind⟩
 refine SEnt.intro (st:=⟨fr,hp,nx,N⟩) (st':=⟨fr',mxH TS TQ o L,40,N⟩) ⟨40,s⟩ rfl (show 0< 40 by decide) s0 (uR _ fun i j b l e=>?_) rfl (hF f) (xj _ fun i B h=>?_)
 have g:∀i,i∈(mxH TS TQ o L).map (·.1)→1≤i∧i< L.length+2:=fun i b=>by
  rcases List.mem_cons.1 b with h|h
  have h:i=1:=h;omega;have:=uL L 2 i h;omega
 exact hinj i j (g i b).1 (g i b).2 (g j l).1 (g j l).2 e;rcases a i B h with⟨rfl,rfl⟩|⟨k,e,d,rfl,rfl⟩
 exact⟨(show 1< 40 by decide),_,h1,rfl,rfl,hO f⟩;exact⟨by grind,_,(hr k e d).1,rfl,rfl,cv f (hr k e d).2⟩
def mxO(w:Nat)(s:Nat→Nat)(n:Nat):List (List AV):=(List.range n).map fun i=>[.lsl (s (i+2)) 0 w none 4]
@[simp] theorem mxO_length (w:Nat)(s:Nat→Nat)(n:Nat):(mxO w s n).length=n:=by simp[mxO]
theorem CD{r:Ren}{hp hp':Nat→Option ABlk}{α:Type}(f g:α→List AV):∀l:List α,(∀a∈l,CvL r hp hp' (f a) (g a))→CvLL r hp hp' (l.map f) (l.map g)
 |[],_=>CvLL.nil
 |a::l,h=>CvLL.cons (h a (List.mem_cons_self ..)) (CD f g l fun b hb=>h b (List.mem_cons_of_mem _ hb))
def lessF:List (List Nat×List Nat)→List (List Nat×List Nat)→Prop
 |[],[]=>True
 |(w,r)::l,(w0,r0)::l0=>w=w0∧(∀k∈w,40≤k)∧(∀x∈r,x∈r0∨x< 40)∧lessF l l0
 |_,_=>False
theorem lessF.nil:lessF [] []:=trivial
theorem lessF.cons{w w0 r r0:List Nat}{l l0:List (List Nat×List Nat)}(h1:w=w0)(h2:∀k∈w,40≤k)(h3:∀x∈r,x∈r0∨x< 40)(h4:lessF l l0):lessF ((w,r)::l) ((w0,r0)::l0):=⟨h1,h2,h3,h4⟩
theorem lessF.zz{l l0:List (List Nat×List Nat)}(h:lessF l l0):lessF (([],[])::l) (([],[])::l0):= .cons rfl (fun k a=>absurd a List.not_mem_nil) (fun k a=>absurd a List.not_mem_nil) h
theorem lessF.rd{x:Nat}{l l0:List (List Nat×List Nat)}(hx:x< 40)(h:lessF l l0):lessF (([],[x])::l) (([],[])::l0):= .cons rfl (fun k a=>absurd a List.not_mem_nil) (fun k a=> .inr (by grind)) h
theorem lessF.al{x y:Nat}{l l0:List (List Nat×List Nat)}(e:x=y)(hx:40≤x)(h:lessF l l0):lessF (([x],[])::l) (([y],[])::l0):= .cons (by rw[e]) (fun k a=>by grind) (fun k a=>absurd a List.not_mem_nil) h
theorem lessF.st{x y:Nat}{l l0:List (List Nat×List Nat)}(e:x=y)(hx:40≤x)(h:lessF l l0):lessF (([x],[x])::l) (([y],[y])::l0):= .cons (by rw[e]) (fun k a=>by grind) (fun k a=> .inl (by grind)) h
theorem we:∀(l l0:List (List Nat×List Nat)) (i:Nat),lessF l l0→(l.getD i ([],[])).1=(l0.getD i ([],[])).1∧(∀k∈(l.getD i ([],[])).1,40≤k)∧∀x∈(l.getD i ([],[])).2,x∈(l0.getD i ([],[])).2∨x< 40
 |[],[],i,_=>⟨rfl,(fun k a=>by grind),fun x b=>by grind⟩
 |(w,r)::l,(w0,r0)::l0,0,⟨h1,h2,h3,_⟩=>⟨h1,h2,h3⟩
 |(w,r)::l,(w0,r0)::l0,i+1,⟨_,_,_,h⟩=>by
  have:=we l l0 i h;grind
 |[],_::_,_,h=>h.elim
 |_::_,[],_,h=>h.elim
theorem vX{ops:Array Oper}{fps fps0:List (List Nat×List Nat)}(h:nG ops fps0=true)(hl:lessF fps fps0):nG ops fps=true:=by
 have s:∀{a b:Nat},a≠b→(!Nat.beq a b)=true:=fun{a b} e=>by
  cases hb:Nat.beq a b with
  |false=>rfl
  |true=>exact absurd (Nat.eq_of_beq_eq_true hb) e
 unfold nG at h⊢;rw[Bool.and_eq_true] at h⊢;refine⟨h.1,?_⟩;have c:=h.2;simp only at c⊢;rw[List.all_eq_true] at c⊢;intro j v;have g:=c j v;rw[List.all_eq_true] at g⊢;intro i u;have o:=g i u;rw[Bool.or_eq_true] at o⊢;refine o.imp id fun f=>?_;obtain⟨l,r,A⟩:=we fps fps0 i hl;obtain⟨b1,b2,p⟩:=we fps fps0 j hl;unfold pO at f⊢;simp only[Bool.and_eq_true] at f⊢;obtain⟨⟨⟨⟨c1,w⟩,t⟩,n⟩,z⟩:=f;refine⟨⟨⟨⟨c1,w⟩,t⟩,?_⟩,?_⟩;rw[l,b1];rw[List.all_eq_true] at n⊢;intro k m;have d:=n k m;rw[Bool.and_eq_true] at d⊢;refine⟨?_,d.2⟩;have d1:=d.1;rw[List.all_eq_true] at d1⊢;intro x q;rcases p x q with e|e
 exact d1 x e;exact s (fun y=>by have:=r k (by rw[l];exact m);omega);grind
end Go.Abs
namespace Go.Abs
open Go.RowKit
structure OTSpec (P:Program)(f:Nat)(args:List AV)(ty sz:Nat)(es:List (List AV))(v:Value):Prop where
 sz0:sz≠0
 cl:∀a∈args,Closed a
 enters:∀(xs:Array Value) (w:World),(callFunc f xs).run P w= .ok (.enter f xs) w
 calls:∀(M:Nat→Prop) (w:World) (vals:List Value),Fit M w→RVs M (fun _=>none) w args vals→
  Calls P f vals.toArray w fun x w'=> ∃b c,x= .returned (.tuple #[.slice (some ⟨b,0,none⟩) es.length c,v])∧w.heap.size≤b∧b< w'.heap.size∧es.length≤c∧c≤maxLen∧(∃cs,w'.heap[b]?=some (.cells cs ty (0,0))∧RVess (fun x=>M x∨x=b) (fun _=>none) w' b sz es 0∧c* sz≤cs.size)∧Below w.heap.size w w'
theorem OTSpec.intro {P:Program} {f:Nat} {fn:Func} {c:Code} {ty sz t t2:Nat} {v:Value} {args:List AV} {es:List (List AV)} (hf:P.funcs[f]?=some fn) (hb:fn.body=some c) (hname:(fn.name== "runtime.NumGoroutine")=false) (hrs:fn.results.toList=[.tmp t,.tmp t2]) (hcl:∀a∈args,Closed a) (hce:∀x∈es,∀c∈x,Closed c) (hn:args.length≤fn.ntmps)
    (h:AWp none P c (fun x st=>(x= .normal∨x= .ret)∧(∃i cap,look st.fr t=some (.lsl i 0 es.length cap sz)∧ap st.hp i=some ⟨ty,sz,es⟩)∧look st.fr t2=some (.v v)) ⟨dI 0 args,[],1,fn.ntmps⟩) (hz:Nat.blt 0 sz=true:=by rfl):OTSpec P f args ty sz es v:=by
 refine⟨j0 hz,hcl,fun xs w=>?_,fun M w vals hM hargs=>?_⟩;have hname':¬fn.name= "runtime.NumGoroutine" :=by grind
 simp[callFunc,hf,hname',hb];refine(callsIn_wide (n:=0)).1 (callsIn_of_wp_marks (F:=Fence.wide) hf hb trivial ?_);have hlen:=hargs.length
 have hrel:kV M (Base.of w hM.tab) ⟨dI 0 args,[],1,fn.ntmps⟩ {tmps:=vals.toArray++Array.replicate (fn.ntmps- vals.toArray.size) undef,defers:=[]} w:=by
  refine⟨fun _=>none,⟨⟨rfl,rfl,rfl,Nat.le_refl _,fun _ _=>rfl,fun _ _ h=>h⟩,(fun b hb=>⟨hM.lt b hb,fun e=>hM.nt (e▸hb)⟩),(fun _ _ _ h=>by cases h),(fun _=>rfl),(fun _ _ h=>by cases h),(fun _ _ _ _ _ _ _ h=>by simp)⟩,by grind,fun t x hx=>?_,fun i (hi:1≤i)=>⟨rfl,by omega⟩,⟨[],rfl,List.nodup_nil,by simp⟩⟩;have hmm:MM M (fun _=>none) (ap [])=M:=by funext b;simp[MM,ap,look]
  show RV (MM M (fun _=>none) (ap [])) _ _ _ _;rw[hmm,cW rfl];obtain⟨_,y,h1,h2⟩:=iz hargs hx
  have hy:(vals.toArray++Array.replicate (fn.ntmps- vals.toArray.size) undef).getD t undef=y:=by
   have hlt:t< vals.length:=by grind
   rw[Array.getD_eq_getD_getElem?,Array.getElem?_append_left (by grind)];grind
  grind
 refine wpIn_mono (h M (Base.of w hM.tab) _ w hrel) fun x a' w' ⟨st',⟨β,mem,hsz,hfr,hfree,Ds,hds,hnd,hD⟩,he,⟨i,cap,hlk,hbk⟩,hlk2⟩=>?_
 have hres:nr P fn.results.toList st' .any:=by
  rw[hrs];exact⟨[_,_],⟨_,[_],rfl,hlk,⟨_,[],rfl,hlk2,rfl⟩⟩,fun _ _ _ _ _ _ _=>trivial⟩
 have hL:LeavesInM (FR none) 0 P fn a'.tmps (fun x w'=> ∃b c,x= .returned (.tuple #[.slice (some ⟨b,0,none⟩) es.length c,v])∧w.heap.size≤b∧b< w'.heap.size∧es.length≤c∧c≤maxLen∧(∃cs,w'.heap[b]?=some (.cells cs ty (0,0))∧RVess (fun x=>M x∨x=b) (fun _=>none) w' b sz es 0∧c* sz≤cs.size)∧Below w.heap.size w w') a'.defers .returning w':=by
  rw[hds];refine jF hres (fun y w'' _ h2 h3 h4=>?_) Ds w' hnd hD mem (fun t x hx=>by have:=hfr t x hx;rwa[cW rfl] at this);obtain⟨b,c,e1,e2,e3,e4,e5,N,e6,e7⟩:=h3 t _ hlk;have g2:a'.tmps.getD t2 undef=v:=h3 t2 _ hlk2;obtain⟨b',cs,f1,f2,f3,f4⟩:=h2.cells hbk (j0 hz);rw[e1] at f1;cases f1;have hr:=h2.rng i b _ e1
  have hy:y= .tuple #[.slice (some ⟨b,0,none⟩) es.length c,v]:=by
   have hm:(fn.results.mapM (iM a'.tmps)).run P w''= .ok #[a'.tmps.getD t undef,a'.tmps.getD t2 undef] w'':=by
    rw[Array.mapM_eq_mapM_toList,hrs];rfl
   have he:results fn a'.tmps=(do let vs←fn.results.mapM (iM a'.tmps);pure (if h:vs.size=1 then vs[0] else .tuple vs)):=rfl;rw[he,Sem.run_bind,hm] at h4;have h5:(Result.ok (.tuple #[a'.tmps.getD t undef,a'.tmps.getD t2 undef]) w'':Result Value)= .ok y w'':=h4;cases h5;rw[e2,g2];simp
  refine⟨b,c,by rw[hy],Nat.le_of_not_lt hr.1,hr.2,e3,e4,⟨cs,f2,?_,?_⟩,⟨h2.below.os,h2.below.tape,h2.below.output,h2.below.size,h2.below.block⟩⟩;refine StabC.ess (w:=w'') (w':=w'') (M:=MM M β (ap st'.hp)) (β:=fun _=>none) ⟨fun _ _ _ _=>rfl,fun x _ _ hx=>?_,(fun _ _ h=>by cases h),fun _ _ h=>h⟩ rfl (iK hce f3);rcases hx with hx|rfl
  exact .inl hx;exact .inr ⟨i,_,_,hbk,e1⟩;simp[aO,f2] at e6;rw[e6];simpa using e7
 rcases he with rfl|rfl
 exact hL;exact hL
def FinOT(t t2 ty sz:Nat)(es:List (List AV))(v:Value)(x:Exit)(st:AState):Prop:=(x= .normal∨x= .ret)∧(∃i cap,look st.fr t=some (.lsl i 0 es.length cap sz)∧ap st.hp i=some ⟨ty,sz,es⟩)∧look st.fr t2=some (.v v)
theorem FinOT.tmp{fr:Fr}{hp:Hp}{nx n t t2 ty sz i k:Nat}{cap:Option Nat}{es es':List (List AV)}{v:Value}(h:look fr t=some (.lsl i 0 k cap sz))(hb:ap hp i=some ⟨ty,sz,es⟩)(he:es=es')(hk:k=es'.length)(h2:look fr t2=some (.v v)):FinOT t t2 ty sz es' v .ret ⟨fr,hp,nx,n⟩:=
 ⟨.inr rfl,⟨i,cap,by grind,by grind⟩,h2⟩
theorem OTSpec.enter {P:Program} {f:Nat} {fn:Func} {c:Code} {ty sz t t2:Nat} {v:Value} {args:List AV} {es:List (List AV)} (hf:P.funcs[f]?=some fn) (hb:fn.body=some c) (hname:(fn.name== "runtime.NumGoroutine")=false) (hrs:fn.results.toList=[.tmp t,.tmp t2]) {m:Nat} (hm:fn.ntmps=m) (hn:Nat.ble args.length m=true)
    (hcl:∀a∈args,Closed a) (hce:∀x∈es,∀c∈x,Closed c) {fr:Fr} (hfr:dI 0 args=fr) (h:AWp none P c (FinOT t t2 ty sz es v) ⟨fr,[],1,m⟩) (hz:Nat.blt 0 sz=true:=by rfl):OTSpec P f args ty sz es v:=by
 subst hm hfr;exact OTSpec.intro hf hb hname hrs hcl hce (nle hn) h hz
section
variable {P:Program}{id:Nat}{ev:Operand→Option AV}{hp:Nat→Option ABlk}
end
end Go.Abs
namespace Go.Abs
section
variable {P:Program}{id:Nat}{ev:Operand→Option AV}{hp:Nat→Option ABlk}{T:Nat}{x lo hi:Operand}{es es':List (List AV)}{kl kh:IntKind}{zl zh:Int}{l h:Nat}{d:Nat×Nat}
theorem AEval.sa_hE(e:es.take h=es')(hx:ev x=some (.arr es))(h2:ev hi=some (.v (.int kh zh)))(e2:zh=(h:Int))(hl:h≤es.length)(he:eO P T=some d)(hel:∀e∈es,e.length=d.2):
    AEval P id ev hp (.slice T x none (some hi) none) ⟨.arr es',[]⟩ []:=by
 subst e;exact .sa_h hx h2 e2 hl he hel
end

end Go.Abs
namespace Go.Abs
open Go.RowKit
structure XSpec (P:Program)(f:Nat)(args:List AV)(hp:Hp)(nx:Nat)(v:AV)(hp':Hp)(nx':Nat):Prop where
 enters:∀(xs:Array Value) (w:World),(callFunc f xs).run P w= .ok (.enter f xs) w
 calls:∀(M:Nat→Prop) (w0:Base) (β:Nat→Option (Nat×Nat)) (vals:List Value),w0.gh=(fun _=>undef)→Mem M w0 β (ap hp) w0.w→(∀i,nx≤i→β i=none∧i≠0)→RVs (MM M β (ap hp)) β w0.w args vals→
  Calls P f vals.toArray w0.w fun x w'=> ∃y β',x= .returned y∧Mem M w0 β' (ap hp') w'∧RV (MM M β' (ap hp')) β' w' v y∧∀i,nx'≤i→β' i=none∧i≠0
def FinX(t:Nat)(v:AV)(hp':Hp)(nx' n:Nat)(x:Exit)(st:AState):Prop:=(x= .normal∨x= .ret)∧SEnt st ⟨[(t,v)],hp',nx',n⟩
theorem FinX.of{fr:Fr}{hp hp':Hp}{nx nx' n t:Nat}{v:AV}(h:SEnt ⟨fr,hp,nx,n⟩ ⟨[(t,v)],hp',nx',n⟩):FinX t v hp' nx' n .ret ⟨fr,hp,nx,n⟩:=⟨.inr rfl,h⟩
theorem XSpec.enter {P:Program} {f:Nat} {fn:Func} {c:Code} {t nx nx':Nat} {v:AV} {hp hp':Hp} {args:List AV} (hf:P.funcs[f]?=some fn) (hb:fn.body=some c) (hname:(fn.name== "runtime.NumGoroutine")=false) (hrs:fn.results.toList=[.tmp t]) {m:Nat} (hm:fn.ntmps=m) (hn:Nat.ble args.length m=true)
    (ht:Nat.ble t 999=true) {fr:Fr} (hfr:dI 0 args=fr) (h:AWp none P c (FinX t v hp' nx' m) ⟨fr,hp,nx,m⟩):XSpec P f args hp nx v hp' nx':=by
 subst hm hfr;have hn:=Nat.le_of_ble_eq_true hn;refine⟨fun xs w=>?_,fun M w0 β vals hgh mem hfree hargs=>?_⟩;have hname':¬fn.name= "runtime.NumGoroutine" :=by grind
 simp[callFunc,hf,hname',hb];refine(callsIn_wide (n:=0)).1 (callsIn_of_wp_marks (F:=Fence.wide) hf hb trivial ?_);have hlen:=hargs.length
 have hrel:kV M w0 ⟨dI 0 args,hp,nx,fn.ntmps⟩ {tmps:=vals.toArray++Array.replicate (fn.ntmps- vals.toArray.size) undef,defers:=[]} w0.w:=by
  refine⟨β,mem,by grind,fun t x hx=>?_,hfree,⟨[],rfl,List.nodup_nil,by simp⟩⟩;rw[cW hgh]
  have key:∀{as:List AV} {vs:List Value} {i t:Nat} {x:AV},RVs (MM M β (ap hp)) β w0.w as vs→look (dI i as) t=some x→i≤t∧∃y,vs[t- i]?=some y∧RV (MM M β (ap hp)) β w0.w x y:=by
   intro as
   induction as with
   |nil=>intro vs i t x _ h;cases h
   |cons a as ih=>
    rintro vs i t x ⟨y,ys,e,h1,h2⟩ h;subst e;simp only[dI] at h;rw[cO] at h;unfold upd at h;grind
  obtain⟨_,y,h1,h2⟩:=key hargs hx
  have hy:(vals.toArray++Array.replicate (fn.ntmps- vals.toArray.size) undef).getD t undef=y:=by
   have hlt:t< vals.length:=by grind
   rw[Array.getD_eq_getD_getElem?,Array.getElem?_append_left (by grind)];grind
  grind
 refine wpIn_mono (h M w0 _ w0.w hrel) fun x a' w' ⟨st',hst,he,hent⟩=>?_;obtain⟨β',mem',hsz,hfr,hfree',Ds,hds,hnd,hD⟩:=hent M w0 a' w' hst;have hv:look ([(t,v)]:Fr) t=some v:=by rw[cO];exact a8 _ _ _
 have hres:nr P fn.results.toList ⟨[(t,v)],hp',nx',fn.ntmps⟩ .any:=by
  rw[hrs];exact⟨[_],⟨_,[],rfl,hv,rfl⟩,fun _ _ _ _ _ _ _=>trivial⟩
 have hL:LeavesInM (FR none) 0 P fn a'.tmps (fun x w'=> ∃y β',x= .returned y∧Mem M w0 β' (ap hp') w'∧RV (MM M β' (ap hp')) β' w' v y∧∀i,nx'≤i→β' i=none∧i≠0) a'.defers .returning w':=by
  rw[hds];refine jF (st:=⟨[(t,v)],hp',nx',fn.ntmps⟩) hres (fun y w'' _ h2 h3 h4=>?_) Ds w' hnd hD mem' (fun t x hx=>by have:=hfr t x hx;rwa[cW hgh] at this)
  have hy:y=a'.tmps.getD t undef:=by
   have hm:(fn.results.mapM (iM a'.tmps)).run P w''= .ok #[a'.tmps.getD t undef] w'':=by
    rw[Array.mapM_eq_mapM_toList,hrs];rfl
   have he:results fn a'.tmps=(do let vs←fn.results.mapM (iM a'.tmps);pure (if h:vs.size=1 then vs[0] else .tuple vs)):=rfl;rw[he,Sem.run_bind,hm] at h4;have h5:(Result.ok (a'.tmps.getD t undef) w'':Result Value)= .ok y w'':=h4;cases h5;rfl
  exact⟨y,β',rfl,h2,by rw[hy];exact h3 t v hv,hfree'⟩
 rcases he with rfl|rfl
 exact hL;exact hL
theorem y6{M M':Nat→Prop}{β β':Nat→Option (Nat×Nat)}{w w':World}{x:AV}{y:Value}(hc:Closed x)(h:RV M β w x y)(h1:∀b N,aO w b=some N→¬M b→w'.heap[b]?=w.heap[b]?)(h2:∀b N,aO w b=some N→M' b→M b)(h3:∀b n,aO w b=some n→aO w' b=some n):RV M' β' w' x y:=by
 have d:RVs M (fun _=>none) w [x] [y]:=eI (fun a ha=>by grind) ⟨_,_,rfl,h,rfl⟩;have c:RVs M' β' w' [x] [y]:=StabC.vs ⟨h1,h2,(fun _ _ h=>by cases h),h3⟩ d;obtain⟨z,f,e,r,_⟩:=c;grind
theorem AWp.regX {P:Program} {ρ:Option Nat} {Q:Exit→AState→Prop} {ops:Array Oper} {id n nx n1 nx2 nx3 d g:Nat} {fr fr2 fr3:Fr} {hp hp2 hp3:Hp} {v:AV} (jj:Nat) {o:Oper} (ho:ops.toList[jj]?=some o) {cc:Call} {f:Operand} {as:List AV} (hop:o.op= .call cc) (hg:o.guard=none) (hd:o.dst=some d) (hf:cc.callee= .value f) (hsz:ops.size=n1)
    (h:AR P ops nx n 0 (ops.toList.take jj) fr hp fun _ f1 h1=>SEntT ⟨f1,h1,nx+jj,n⟩ ⟨fr2,hp2,nx2,n⟩) (hdn:Nat.blt d n=true)
    (hev:evF (look fr2) f=some (.clos g [] [])) (has:evs (evF (look fr2)) cc.args.toList=some as) (hX:XSpec P g (as.map coe) hp2 nx2 v hp3 nx3) (h30:∀t x,look fr3 t=some x→look fr2 t=some x∧Closed x) (hlo:∀t x,look fr3 t=some x→t< 1000)
    (h3:AR P ops nx3 n (jj+1) (ops.toList.drop (jj+1)) ((d,v)::fr3) hp3 fun _ f' h'=>Q .normal ⟨f',h',nx3+n1,n⟩):AWp ρ P (.region id ops false) Q ⟨fr,hp,nx,n⟩:=by
 have U:jj< ops.toList.length:=(List.getElem?_eq_some_iff.1 ho).1
 have hops:ops.toList=ops.toList.take jj++o::ops.toList.drop (jj+1):=by
  rw[←(List.getElem?_eq_some_iff.1 ho).2,←List.drop_eq_getElem_cons U,List.take_append_drop]
 rintro M w0 a w hr;refine wpIn_region_list ?_;rw[hops];obtain⟨us,Y,F,X⟩:=h
 have W:=(fu (ops.toList.take jj) 0 _ Y us [] (look fr) (ap hp) F rfl (fun i o h=>by
  rw[List.getElem?_take] at h;split at h;simpa using h;cases h) rfl rfl).2.2.2
 simp only at W;refine kL (M0:=M) (w0:=w0) (ρ:=ρ) _ _ 0 ⟨fr,hp,nx,n⟩ Y us a w F (FRel.free hr fun i l=>by show nx≤i;simpa using l) fun R p hr1=>?_;have hl:(ops.toList.take jj).length=jj:=by rw[List.length_take];omega
 rw[hl,Nat.zero_add,W] at hr1;obtain⟨β,j,s1,s2,s3,⟨Ds,s4,s5,s6⟩,s7⟩:=X M w0 R p hr1;refine wpListIn_step fun K hK=>?_;rw[if_pos (by simp[Region.wanted,hg])]
 -- the call,seen from here
 have H:∀b,(∃i s,β i=some (b,s))→¬w0.K b:=fun b ⟨i,s,l⟩=>(j.rng i b s l).1;have hgt:¬(∃i s,β i=some (GT,s)):=fun⟨i,s,l⟩=>j.gtn i s l
 let wc:Base:=⟨p,fun b=>b< p.heap.size∧¬ ∃i s,β i=some (b,s),fun _ h=>h.1,w0.pin,fun _=>undef,⟨j.tab.lt,hgt⟩,j.tab⟩
 have Z:Mem M wc β (ap hp2) wc.w:=⟨⟨rfl,rfl,rfl,Nat.le_refl _,fun _ _=>rfl,fun _ _ h=>h⟩,fun b hb=>⟨⟨j.lt (.inl hb),fun z=>H b z (j.m0 b hb).1⟩,(j.m0 b hb).2⟩,fun i b s l=>⟨fun E=>E.2 ⟨i,s,l⟩,(j.rng i b s l).2⟩,j.pin,j.blk,j.inj⟩;have hv:RVs (MM M β (ap hp2)) β p as (cc.args.toList.map R.eval):=jo (ii s2) has;have hv2:=jD hv;obtain⟨xs,ys,hx,hx1,hx2⟩:=ii s2 f _ hev;have hxs:xs= #[]:=Array.ext' hx1;have hys:ys= #[]:=Array.ext' hx2;subst hxs hys;refine⟨fun _ _=>trivial,?_⟩;rw[Oper.semAt_eq _ _ _ (by rw[hop];intro c e;cases e)];have O:(execOp R.eval o).run P p= .ok (.enter g (cc.args.toList.map R.eval).toArray) p:=iB hop hf hx rfl hX.enters;rw[O];refine⟨fun hh=>by simp[FR] at hh,u5 ((hX.calls M wc β _ rfl Z s3 hv2).mono ?_)⟩;rintro e A ⟨y,β',rfl,k,hy,C⟩;have m:∀b,b< p.heap.size→(¬ ∃i s,β i=some (b,s))→A.heap[b]?=p.heap[b]?:=fun b h1 h2=>k.below.block b ⟨h1,h2⟩
 have q:∀b,(∃i s,β i=some (b,s))→MM M β (ap hp2) b:=fun b ⟨i,s,l⟩=>by
  obtain⟨B,hB⟩:=Option.isSome_iff_exists.1 (s7 i _ l);exact .inr ⟨i,B,s,hB,l⟩
 have c1:∀b N,aO p b=some N→¬MM M β (ap hp2) b→A.heap[b]?=p.heap[b]?:=fun b N hs T=>m b (cy hs) fun z=>T (q b z)
 have c2:∀b N,aO p b=some N→MM M β' (ap hp3) b→MM M β (ap hp2) b:=fun b N hs T=>by
  rcases T with T|⟨i,B,s,_,l⟩
  exact .inl T;by_cases z:∃i s,β i=some (b,s);exact q b z;exact absurd ⟨cy hs,z⟩ (k.rng i b s l).1
 have hDs:∀D∈Ds,A.heap[D]?=some (.deferred (some []))∧¬w0.K D:=fun D hD=>by
  obtain⟨d1,d2⟩:=s6 D hD;refine⟨?_,d2⟩;rw[m D (Array.getElem?_eq_some_iff.1 d1).1 fun⟨i,s,l⟩=>?_];exact d1;obtain⟨B,hB⟩:=Option.isSome_iff_exists.1 (s7 i _ l);obtain⟨b,r1,r2⟩:=j.blk i B hB;rw[l] at r1;cases r1;obtain⟨N,hN⟩:=r2.size;simp[aO,d1] at hN
 have memn:Mem M w0 β' (ap hp3) A:=by
  have hb:=k.below;refine⟨⟨hb.os.trans j.below.os,hb.tape.trans j.below.tape,hb.output.trans j.below.output,Nat.le_trans j.below.size hb.size,fun b E=>?_,fun b n hs=>hb.sizes b n (j.below.sizes b n hs)⟩,j.m0,fun i b s l=>⟨fun E=>?_,(k.rng i b s l).2⟩,k.pin,k.blk,k.inj⟩;rw[m b (Nat.lt_of_lt_of_le (w0.lt b E) j.below.size) fun z=>H b z E];exact j.below.block b E;exact(k.rng i b s l).1 ⟨Nat.lt_of_lt_of_le (w0.lt b E) j.below.size,fun z=>H b z E⟩
 refine hK _ A ?_;obtain⟨us',J,r,hq⟩:=h3;have hn3:=(jJ _ (jj+1) _ _ _ r);simp only at hn3
 have S:kV M w0 ⟨(d,v)::fr3,hp3,nx3,n⟩ (R.put o.dst y) A:=by
  refine⟨β',memn,by rw[hd];simp[Act.put,s1],fun t x hx=>?_,C,⟨Ds,by rw[←s4,hd];rfl,s5,hDs⟩⟩;rw[hd,rG (by rw[s1];exact Nat.le_of_ble_eq_true hdn)];have u:look ((d,v)::fr3) t=some x:=hx;rw[cO] at u;unfold upd at u;split at u
  ·rename_i L;rw[if_pos L];cases u;exact hy
  ·rename_i L;rw[if_neg L]
   obtain⟨e1,e2⟩:=h30 t x u;exact y6 e2 (s2 t x e1) c1 c2 k.below.sizes
 have G:=kL (P:=P) (ops:=ops) (ρ:=ρ) (M0:=M) (w0:=w0) (nx:=nx3) (Q:=fun e a' A=> ∃V,kV M w0 V a' A∧Q e V) [] (ops.toList.drop (jj+1)) (jj+1) ⟨(d,v)::fr3,hp3,nx3,n⟩ J us' (R.put o.dst y) A r (S.free fun i l=>by show nx3≤i;omega) fun a5 w5 hr5=>?_;rw[List.append_nil] at G;exact G;refine⟨⟨J.fr,J.hp,nx3+n1,n⟩,?_,hq⟩;rw[hn3] at hr5;refine hr5.free fun i (l:nx3+n1≤i)=>?_;rw[List.length_drop,Array.length_toList];have:jj< ops.size:=by simpa using U
 omega
end Go.Abs
