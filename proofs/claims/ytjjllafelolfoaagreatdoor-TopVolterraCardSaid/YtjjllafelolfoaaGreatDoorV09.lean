/- Part V09 of the proof. -/
import Derived.Test.YtjjllafelolfoaaGreatDoorV08
import Derived.Below
set_option linter.all false
namespace Go.Abs
theorem d_t{p:Prop}(h:p:=by first|rfl|assumption|exact decide_eq_true (by omega)|(simp;done)|(simp;omega)):p:=h
theorem d_f{p:Prop}(h:p:=by first|rfl|assumption|exact decide_eq_false (by omega)|(simp;done)|(simp;omega)):p:=h
theorem d_n{p:Prop}(h:p:=by first|exact nle rfl|(simp;done)|(simp;omega)):p:=h
theorem d_o{p:Prop}(h:p:=by first|rfl|assumption|(simp;done)|(simp;omega)|omega):p:=h
theorem cT{ρ:Option Nat}{P:Program}{Q:Exit→AState→Prop}{st:AState}{c:Operand}{x y:Code}(h1:AWp ρ P x Q st)(hc:st.ev c=some (.v (.bool true)):=by exact rfl):AWp ρ P (.cond c x y) Q st:=ai_ hc (fun _=>h1) (fun e=>by cases e)
theorem cF{ρ:Option Nat}{P:Program}{Q:Exit→AState→Prop}{st:AState}{c:Operand}{x y:Code}(h1:AWp ρ P y Q st)(hc:st.ev c=some (.v (.bool false)):=by exact rfl):AWp ρ P (.cond c x y) Q st:=ai_ hc (fun e=>by cases e) (fun _=>h1)
theorem au_d{p:Prop}(h:p:=by first|exact au_c|(refine Cv.loE hs ?_ (af_ _);assumption)|(refine Cv.boxp hs rfl (a7_ rfl) rfl ?_;assumption)):p:=h
theorem au_g{p:Prop}(h:p:=by(first|exact au_e|(refine bt_ hs ?_;first|assumption|exact aF_ _|exact ey_ _|exact gy_ _|exact bR_ _)|(refine aJ_ hs ?_ ?_;assumption;first|assumption|exact aX_ _|exact aF_ _|exact ey_ _|exact gy_ _|exact bR_ _)|exact aA_ (CvL.clo hs (by first|assumption|exact aN_ _|exact fi_ _))|(refine aA_ ?_;repeat' (first|exact aq_|refine ah_ ?_ ?_)))<;> exact au_d):p:=h
theorem au_i{p:Prop}(h:p:=by repeat' (first|exact a9_|refine aV_ rfl ?_ ?_|exact au_d)):p:=h
theorem au_j{p:Prop}(h:p:=by repeat' (first|exact aC_|refine hJ_ rfl rfl rfl rfl ?_ ?_|exact au_g)):p:=h
theorem s_f {fr fr':Fr} {hp hp':Hp} {nx nx' n:Nat} (l:List (Nat×Nat)) (hS:ShrL (rnm fr l nx') (lookB hp) hp':=by exact au_r)
    (hF:Shr (rnm fr l nx') (lookB hp) (lookB hp')→CvF (rnm fr l nx') (lookB hp) (lookB hp') fr fr':=by exact fun hs=>au_i)
    (hH:Shr (rnm fr l nx') (lookB hp) (lookB hp')→CvH (rnm fr l nx') (lookB hp) (lookB hp') hp':=by exact fun hs=>au_j)
    (hk:Nat.blt 0 nx'=true:=by exact rfl) (h0:(rnm fr l nx').s 0=0:=by exact rfl) (hinj:injL (rnm fr l nx') (hp'.map (·.1))=true:=by exact rfl):SEnt ⟨fr,hp,nx,n⟩ ⟨fr',hp',nx',n⟩:=
 mX_ l hk h0 hinj hS hF hH
theorem s_t {fr fr':Fr} {hp hp':Hp} {nx nx' n:Nat} (l:List (Nat×Nat)) (hS:ShrL (rnm fr l nx') (lookB hp) hp':=by exact au_r)
    (hF:Shr (rnm fr l nx') (lookB hp) (lookB hp')→CvF (rnm fr l nx') (lookB hp) (lookB hp') fr fr':=by exact fun hs=>au_i)
    (hH:Shr (rnm fr l nx') (lookB hp) (lookB hp')→CvH (rnm fr l nx') (lookB hp) (lookB hp') hp':=by exact fun hs=>au_j)
    (hk:Nat.blt 0 nx'=true:=by exact rfl) (h0:(rnm fr l nx').s 0=0:=by exact rfl) (hinj:injL (rnm fr l nx') (hp'.map (·.1))=true:=by exact rfl):SEntT ⟨fr,hp,nx,n⟩ ⟨fr',hp',nx',n⟩:=
 SEntT.to l hk h0 hinj hS hF hH
class T4 (P:Program) (t:Nat) (z:outParam (List Value)) (s:outParam Nat) (g:outParam Bool) (b:outParam Nat):Prop where h:(dM_ P t,szOf P t,df_ P t,byOf P t)=(some z,some s,some g,some b)
class T3 (P:Program) (t:Nat) (s:outParam Nat) (g:outParam Bool) (b:outParam Nat):Prop where h:(szOf P t,df_ P t,byOf P t)=(some s,some g,some b)
class T2 (P:Program) (t i:Nat) (v:outParam (Nat×Nat)) (g:outParam Bool):Prop where h:(fldOf P t i,g6_ P t i)=(some v,some g)
section
variable {P:Program}{t i s b:Nat}{z:List Value}{g:Bool}{v:Nat×Nat}
instance [c:T4 P t z s g b]:T3 P t s g b:=⟨congrArg (·.2) c.h⟩
instance [c:T4 P t z s g b]:TZ P t z:=⟨congrArg (·.1) c.h⟩
instance [c:T3 P t s g b]:TS P t s:=⟨congrArg (·.1) c.h⟩
instance [c:T3 P t s g b]:TG P t g:=⟨congrArg (·.2.1) c.h⟩
instance [c:T3 P t s g b]:TB P t b:=⟨congrArg (·.2.2) c.h⟩
instance [c:T2 P t i v g]:TF P t i v:=⟨congrArg (·.1) c.h⟩
instance [c:T2 P t i v g]:TA P t i g:=⟨congrArg (·.2) c.h⟩
end
theorem h_c{r:Ren}{hp hp':Nat→Option ABlk}{i:Nat}{B B0:ABlk}{l:Hp}(hc:CvLL r hp hp' B0.es B.es)(hl:CvH r hp hp' l)(hi:Nat.blt i r.n=true:=by exact rfl)(h:hp (r.s i)=some B0:=by exact rfl)(ht:B0.ty=B.ty:=by exact rfl)(hz:B0.sz=B.sz:=by exact rfl):CvH r hp hp' ((i,some B)::l):=hJ_ hi h ht hz hc hl
theorem s_x {fr fr':Fr} {hp hp':Hp} {nx nx' n:Nat} (l:List (Nat×Nat))
    (hF:Shr (rnm fr l nx') (lookB hp) (lookB hp')→CvF (rnm fr l nx') (lookB hp) (lookB hp') fr fr')
    (hH:Shr (rnm fr l nx') (lookB hp) (lookB hp')→CvH (rnm fr l nx') (lookB hp) (lookB hp') hp') (hS:ShrL (rnm fr l nx') (lookB hp) hp':=by exact au_r)
    (hk:Nat.blt 0 nx'=true:=by exact rfl) (h0:(rnm fr l nx').s 0=0:=by exact rfl) (hinj:injL (rnm fr l nx') (hp'.map (·.1))=true:=by exact rfl):SEnt ⟨fr,hp,nx,n⟩ ⟨fr',hp',nx',n⟩:=
 mX_ l hk h0 hinj hS hF hH
theorem s_y {fr fr':Fr} {hp hp':Hp} {nx nx' n:Nat} (l:List (Nat×Nat))
    (hF:Shr (rnm fr l nx') (lookB hp) (lookB hp')→CvF (rnm fr l nx') (lookB hp) (lookB hp') fr fr')
    (hH:Shr (rnm fr l nx') (lookB hp) (lookB hp')→CvH (rnm fr l nx') (lookB hp) (lookB hp') hp') (hS:ShrL (rnm fr l nx') (lookB hp) hp':=by exact au_r)
    (hk:Nat.blt 0 nx'=true:=by exact rfl) (h0:(rnm fr l nx').s 0=0:=by exact rfl) (hinj:injL (rnm fr l nx') (hp'.map (·.1))=true:=by exact rfl):SEntT ⟨fr,hp,nx,n⟩ ⟨fr',hp',nx',n⟩:=
 SEntT.to l hk h0 hinj hS hF hH
theorem f_n{P:Program}{f:Nat}{fn:Func}{c:Code}{args:List AV}{r:AV}{rs:List ResultVar}{m:Nat}{fr:Fr}(hf:P.funcs[f]?=some fn)(hcl:∀a∈args,Closed a)(h:AWp none P c (Fin P rs r) ⟨fr,[],1,m⟩)(hb:fn.body=some c:=by exact rfl)(hrs:fn.results.toList=rs:=by exact rfl)(hm:fn.ntmps=m:=by exact rfl)(hn:Nat.ble args.length m=true:=by exact rfl)(hfr:argFr 0 args=fr:=by exact rfl)(hname:(fn.name== "runtime.NumGoroutine")=false:=by kernel_rfl):FSpec P f args r:=iS_ hf hb hname hrs hm hn hcl hfr h
theorem f_c{P:Program}{f:Nat}{fn:Func}{c:Code}{args:List AV}{r:AV}{rs:List ResultVar}{m:Nat}{fr:Fr}(hf:P.funcs[f]?=some fn)(h:AWp none P c (Fin P rs r) ⟨fr,[],1,m⟩)(hcl:∀a∈args,Closed a:=by repeat' (first|exact ac_|exact af_ _|assumption|exact a5_ _|exact aX_ _|exact lS_ _|exact aN_ _|exact aF_ _|exact cU_ _ _|exact dc_ _|exact bR_ _|exact fi_ _|exact gy_ _|exact bo_ _|exact b0_ _|exact dB_ _|exact ey_ _|refine aa_ ?_ ?_|refine aB_ ?_|refine aL_ ?_|refine bg_ ?_))(hb:fn.body=some c:=by exact rfl)(hrs:fn.results.toList=rs:=by exact rfl)(hm:fn.ntmps=m:=by exact rfl)(hn:Nat.ble args.length m=true:=by exact rfl)(hfr:argFr 0 args=fr:=by exact rfl)(hname:(fn.name== "runtime.NumGoroutine")=false:=by kernel_rfl):FSpec P f args r:=iS_ hf hb hname hrs hm hn hcl hfr h
section
variable {P:Program}{ops:Array Oper}{nx n j:Nat}{rest:List Oper}{fr:Fr}{hp:Hp}{K:Fps→Fr→Hp→Prop}{d:Nat}{op:Op}{ty:Nat}{pos:String}{after:Array Edge}{a:AV}{rd:List Nat}{g t:Nat}{b want:Bool}{x:Value}
theorem n_k{q s:Prop}(h:s)(h0:q:=by kernel_rfl):q∧s:=⟨h0,h⟩
def gv(ops:Array Oper)(g:Nat)(fr:Fr):Option Bool:=((ops[g]?).bind (·.dst)).bind fun t=>(evF (look fr) (.tmp t)).bind fun a=>match a with| .v (.bool b)=>some b|_=>none
theorem gv_of(h:gv ops g fr=some b):∃t,(ops[g]?).bind (·.dst)=some t∧evF (look fr) (.tmp t)=some (.v (.bool b)):=by
 obtain⟨t,h1,h2⟩:=Option.bind_eq_some_iff.1 h;obtain⟨a,h3,h4⟩:=Option.bind_eq_some_iff.1 h2;grind
theorem n_g(hx:gv ops g fr=some b)(hb:b=!want)(h:AR P ops nx n (j+1) rest ((d,.v undef)::fr) hp fun fps f h=>K (([],[])::fps) f h)(hnd:bb_ op=true:=by exact rfl)(hd:Nat.blt d n=true:=by exact rfl):AR P ops nx n j (⟨some d,op,ty,pos,after,some (g,want)⟩::rest) fr hp K:=by
 obtain⟨t,ht,hx⟩:=gv_of hx;exact rP_ ht hx (gn hb) hnd hd h
theorem y_g(hx:gv ops g fr=some b)(hb:b=want)(hs:AEval P (nx+j) (evF (look fr)) (lookB hp) op ⟨a,[]⟩ rd)(h:AR P ops nx n (j+1) rest ((d,a)::fr) hp fun fps f h=>K (([],rd)::fps) f h)(hnd:bb_ op=true:=by exact rfl)(hd:Nat.blt d n=true:=by exact rfl):AR P ops nx n j (⟨some d,op,ty,pos,after,some (g,want)⟩::rest) fr hp K:=by
 obtain⟨t,ht,hx⟩:=gv_of hx;exact de_ ht hx (gy hb) hs hnd hd h
theorem i_x{T E:Nat}{sz:Nat}{xx ix:Operand}{es:List (List AV)}{cs:List AV}{kd:IntKind}{z:Int}[TE P T (E,sz)](hg:es[z.toNat]?=some cs)(h:AR P ops nx n (j+1) rest ((d,.aptr es z.toNat 0)::fr) hp fun fps f h=>K (([],[])::fps) f h)(h1:evF (look fr) xx=some (.arr es):=by exact rfl)(h2:evF (look fr) ix=some (.v (.int kd z)):=by exact rfl)(h3:0≤z:=by omega)(h4:cs.length=sz:=by exact rfl)(hd:Nat.blt d n=true:=by exact rfl):AR P ops nx n j (⟨some d,.indexAddr T xx ix,ty,pos,after,none⟩::rest) fr hp K:=aK_ (.index_a h1 h2 h3 hg h4 TE.h) rfl hd h
theorem l_x{T i o k:Nat}{xx:Operand}{es:List (List AV)}{cs:List AV}[TG P T true][TS P T k](hg:es[i]?=some cs)(h:AR P ops nx n (j+1) rest ((d,.agg ((cs.drop o).take k))::fr) hp fun fps f h=>K (([],[])::fps) f h)(h1:evF (look fr) xx=some (.aptr es i o):=by exact rfl)(h2:Nat.ble (o+k) cs.length=true:=by exact rfl)(hd:Nat.blt d n=true:=by exact rfl):AR P ops nx n j (⟨some d,.load T xx,ty,pos,after,none⟩::rest) fr hp K:=aK_ (.load_a h1 hg TG.h TS.h (Nat.le_of_ble_eq_true h2)) rfl hd h
theorem l_1{T i o:Nat}{xx:Operand}{es:List (List AV)}{cs:List AV}{c:AV}[TG P T false](hg:es[i]?=some cs)(h:AR P ops nx n (j+1) rest ((d,c)::fr) hp fun fps f h=>K (([],[])::fps) f h)(h1:evF (look fr) xx=some (.aptr es i o):=by exact rfl)(h2:cs[o]?=some c:=by exact rfl)(hd:Nat.blt d n=true:=by exact rfl):AR P ops nx n j (⟨some d,.load T xx,ty,pos,after,none⟩::rest) fr hp K:=aK_ (.load_a1 h1 hg TG.h h2) rfl hd h
theorem r_m{ρ:Option Nat}{Q:Exit→AState→Prop}{id:Nat}(m:Nat)(h:AR P ops nx n 0 ops.toList fr hp fun _ f h=>Q .normal ⟨f,h,nx+m,n⟩)(hsz:ops.size=m:=by exact rfl):AWp ρ P (.region id ops false) Q ⟨fr,hp,nx,n⟩:=rO_ hsz h
theorem r_d{ρ:Option Nat}{Q:Exit→AState→Prop}{id:Nat}(hm:P.follows .mixedOrders=true)(m:Nat)(h:AR P ops nx n 0 ops.toList fr hp fun fps f h=>okReg ops fps=true∧Q .normal ⟨f,h,nx+m,n⟩)(hsz:ops.size=m:=by exact rfl):AWp ρ P (.region id ops true) Q ⟨fr,hp,nx,n⟩:=AWp.regD hm hsz h
theorem c_e{T i e o k:Nat}{B:ABlk}{cs:List AV}{r:AV}[TG P T true][TS P T k](hc:Closed r)(h:look fr t=some (.lptr i e o):=by exact rfl)(hb:cellF (lookB hp) i=some B:=by exact rfl)(he:B.es[e]?=some cs:=by exact rfl)(hl:Nat.ble (o+k) cs.length=true:=by exact rfl)(h2:AV.agg ((cs.drop o).take k)=r:=by exact rfl):Fin P [.cell t T] r .ret ⟨fr,hp,nx,n⟩:=cc_ h hb he TG.h TS.h (Nat.le_of_ble_eq_true hl) h2 hc
theorem t_e{r0 r:AV}(hc:Closed r)(h:look fr t=some r0:=by exact rfl)(e:r0=r:=by exact rfl):Fin P [.tmp t] r .ret ⟨fr,hp,nx,n⟩:=aE_ h e hc
end
theorem e_1{p:Prop}(h:p:=by repeat' (first|exact a9_|refine aV_ rfl ?_ ?_|exact au_ hs (aG_ ac_ hcap)|exact au_c)):p:=h
theorem e_2{p:Prop}(h:p:=by repeat' (first|exact ShrL.nil|refine ShrL.cons rfl rfl rfl rfl (by first|(simp)|rfl|(simp;done)|(simp <;> omega)) ?_)):p:=h
theorem e_3{p:Prop}(h:p:=by repeat' (first|exact a9_|refine aV_ rfl ?_ ?_|exact au_ hs hca|exact au_ hs (ap_ v)|exact au_c)):p:=h
theorem e_4{p:Prop}(h:p:=by repeat' (first|exact aC_|refine h_c ?_ ?_|exact aA_ (CvL.clo hs hcj)|exact au_e|refine aA_ ?_|exact aq_|refine ah_ ?_ ?_|exact au_ hs hca|exact au_ hs (ap_ v)|exact au_c)):p:=h
theorem e_5{p:Prop}(h:p:=by repeat' (first|exact aC_|refine h_c ?_ ?_|exact au_e|refine aA_ ?_|exact aq_|refine ah_ ?_ ?_|exact au_ hs (aG_ ac_ hcap)|exact au_c)):p:=h
theorem e_6{p:Prop}(h:p:=by repeat' (first|exact a9_|refine aV_ rfl ?_ ?_|exact au_ hs (bg_ (aN_ q))|exact au_c)):p:=h
theorem e_7{p:Prop}(h:p:=by repeat' (first|exact aC_|refine h_c ?_ ?_|exact au_e|refine aA_ ?_|exact aq_|refine ah_ ?_ ?_|exact au_ hs (bg_ (aN_ q))|exact au_c)):p:=h
theorem e_8{p:Prop}(h:p:=by repeat' (first|exact aC_|refine h_c ?_ ?_|(refine aJ_ hs ?_ (aX_ _);rw[hI];exact hset _)|exact au_e)):p:=h
theorem e_9{p:Prop}(h:p:=by repeat' (first|exact aC_|refine h_c ?_ ?_|exact CvLL.nil|exact au_e)):p:=h
theorem e_10{p:Prop}(h:p:=by repeat' (first|exact a9_|refine aV_ rfl ?_ ?_|exact au_ hs (bf_ k)|exact au_ hs hcc|exact au_c)):p:=h
theorem e_11{p:Prop}(h:p:=by repeat' (first|exact a9_|refine aV_ rfl ?_ ?_|exact au_ hs (bf_ k)|exact au_c)):p:=h
theorem e_12{p:Prop}(h:p:=by repeat' (first|exact aC_|refine h_c ?_ ?_|exact aA_ (CvL.clo hs hcl)|exact aA_ (CvL.clo hs (dH_ (cU_ lo hi) (aa_ (af_ _) ac_)))|exact au_e|refine aA_ ?_|exact aq_|refine ah_ ?_ ?_|exact au_ hs (bf_ k)|exact au_c)):p:=h
theorem e_13{p:Prop}(h:p:=by repeat' (first|exact aC_|refine h_c ?_ ?_|exact aA_ (CvL.clo hs hWc)|exact bt_ hs (aF_ _)|exact au_e)):p:=h
theorem e_14{p:Prop}(h:p:=by repeat' (first|exact aC_|refine h_c ?_ ?_|exact bt_ hs (aF_ _)|exact aA_ (CvL.clo hs (aN_ _))|exact au_e)):p:=h
theorem e_15{p:Prop}(h:p:=by repeat' (first|exact a9_|refine aV_ rfl ?_ ?_|((first|exact au_ hs hca|(refine Cv.loE hs ?_ (af_ _);first|rfl|(simp[i64,ofV,hpl];done)|(simp[i64,hpl]<;> omega))))|exact au_c)):p:=h
theorem e_16{p:Prop}(h:p:=by repeat' (first|exact aC_|refine h_c ?_ ?_|exact au_e|refine aA_ ?_|exact aq_|refine ah_ ?_ ?_|((first|exact au_ hs hca|(refine Cv.loE hs ?_ (af_ _);first|rfl|(simp[i64,ofV,hpl];done)|(simp[i64,hpl]<;> omega))))|exact au_c)):p:=h
theorem e_17{p:Prop}(h:p:=by repeat' (first|exact aC_|refine h_c ?_ ?_|(refine aJ_ hs ?_ (aX_ _);rw[hv1];exact hset _)|exact au_e)):p:=h
theorem e_18{p:Prop}(h:p:=by repeat' (first|exact aC_|refine h_c ?_ ?_|(refine aJ_ hs ?_ (aX_ _);exact hset _)|exact au_e)):p:=h
theorem e_19{p:Prop}(h:p:=by repeat' (first|exact ShrL.nil|refine ShrL.cons rfl rfl rfl rfl (by first|(exact(congrArg List.length hcp).trans (by simp))|rfl|(simp;done)|(simp <;> omega)) ?_)):p:=h
theorem e_20{p:Prop}(h:p:=by repeat' (first|exact aC_|refine h_c ?_ ?_|exact aJ_ hs hcp (aX_ _)|exact au_e)):p:=h
theorem e_21{p:Prop}(h:p:=by repeat' (first|exact a9_|refine aV_ rfl ?_ ?_|exact Cv.sealE hs rfl (a7_ rfl) rfl (by simp;omega) (aX_ _)|exact au_c)):p:=h
theorem e_22{p:Prop}(h:p:=by repeat' (first|exact aC_|refine h_c ?_ ?_|exact au_e|refine aA_ ?_|exact aq_|refine ah_ ?_ ?_|exact Cv.sealE hs rfl (a7_ rfl) rfl (by simp;omega) (aX_ _)|exact au_c)):p:=h
theorem e_23{p:Prop}(h:p:=by repeat' (first|exact aC_|refine h_c ?_ ?_|exact CvLL.zeros hs _|exact au_e)):p:=h
theorem e_24{p:Prop}(h:p:=by repeat' (first|exact aC_|refine h_c ?_ ?_|exact aJ_ hs hst2 (aF_ _)|exact au_e)):p:=h
theorem e_25{p:Prop}(h:p:=by repeat' (first|exact a9_|refine aV_ rfl ?_ ?_|exact au_ hs hcc|exact au_ hs (bf_ k)|exact au_c)):p:=h
theorem e_26{p:Prop}(h:p:=by repeat' (first|exact aC_|refine h_c ?_ ?_|exact au_e|refine aA_ ?_|exact aq_|refine ah_ ?_ ?_|exact au_ hs hcc|exact au_ hs (bf_ k)|exact au_c)):p:=h
theorem e_27{p:Prop}(h:p:=by repeat' (first|exact a9_|refine aV_ rfl ?_ ?_|exact au_ hs (bf_ k)|exact au_ hs (ap_ u)|exact au_c)):p:=h
theorem e_28{p:Prop}(h:p:=by repeat' (first|exact aC_|refine h_c ?_ ?_|exact au_e|refine aA_ ?_|exact aq_|refine ah_ ?_ ?_|exact au_ hs (bf_ k)|exact au_ hs (ap_ u)|exact au_c)):p:=h
theorem e_29{p:Prop}(h:p:=by repeat' (first|exact a9_|refine aV_ rfl ?_ ?_|exact au_ hs (aG_ ac_ (aa_ (cW_ k l g) (aa_ (b0_ a) ac_)))|exact au_c)):p:=h
theorem e_30{p:Prop}(h:p:=by repeat' (first|exact aC_|refine h_c ?_ ?_|exact au_e|refine aA_ ?_|exact aq_|refine ah_ ?_ ?_|exact au_ hs (aG_ ac_ (aa_ (cW_ k l g) (aa_ (b0_ a) ac_)))|exact au_c)):p:=h
theorem e_31{p:Prop}(h:p:=by repeat' (first|exact ShrL.nil|refine ShrL.cons rfl rfl rfl rfl (by first|rfl|(simp;done)|(simp[hX]<;> omega)) ?_)):p:=h
theorem e_32{p:Prop}(h:p:=by repeat' (first|exact a9_|refine aV_ rfl ?_ ?_|exact au_c|(refine Cv.loE hs ?_ (af_ _);first|rfl|(simp[i64,u64,u32,bln,hX];done)|(simp[i64,u64,u32,bln,hX]<;> omega)))):p:=h
theorem e_33{p:Prop}(h:p:=by repeat' (first|exact aC_|refine h_c ?_ ?_|exact au_e|(refine aJ_ hs ?_ (bR_ _);first|(simp[ii_,gk_,d8_,hX];done)|(simp[iE,i64,ofV,hX];done))|refine aA_ ?_|exact aq_|refine ah_ ?_ ?_|exact au_c|(refine Cv.loE hs ?_ (af_ _);first|(simp[i64,u64,u32,bln,hX];done)|(simp[i64,u64,u32,bln,hX]<;> omega)))):p:=h
theorem e_34{p:Prop}(h:p:=by repeat' (first|exact ShrL.nil|refine ShrL.cons rfl rfl rfl rfl (by first|(exact congrArg List.length hset)|rfl|(simp;done)|(simp <;> omega)) ?_)):p:=h
theorem e_35{p:Prop}(h:p:=by repeat' (first|exact aC_|refine h_c ?_ ?_|exact aJ_ hs e (bR_ _)|exact au_e)):p:=h
theorem e_36{p:Prop}(h:p:=by repeat' (first|exact a9_|refine aV_ rfl ?_ ?_|exact au_ hs (aL_ (bQ_ l))|exact au_c)):p:=h
section
variable {P:Program}{l N:Nat}{T:Nat→Option (List AV)}{E:GEnv P l T N}
def GLs(E:GEnv P l T N)(ops:Array Oper)(Q:Exit→Nat→Bool→AState→Prop)(tail:List Oper)(j nx n k:Nat)(go:Bool)(fr:Fr)(hp:Hp):Prop:=
 ∀(a:Act) (w:World) (M G:Nat→Prop) (hj:E.J k go M G w),FRel M (gbase w G (E.gk hj)) (look fr) (lookB hp) (fun i=>nx+j≤i) n a w→
  wpListIn (FR none) 0 P ops (fun e a' w'=> ∃k' go' st',GRel E k' go' st' a' w'∧Q e k' go' st') tail a w
theorem GLs.fin {ops:Array Oper} {tail:List Oper} {j k nx n n1:Nat} {go:Bool} {fr:Fr} {hp:Hp} {Q:Exit→Nat→Bool→AState→Prop} (hsz:j+tail.length=n1)
    (h:AR P ops nx n j tail fr hp fun _ f' h'=>Q .normal k go ⟨f',h',nx+n1,n⟩):GLs E ops Q tail j nx n k go fr hp:=by
 intro a w M G hj hr;obtain⟨us,st3,hrun,hq⟩:=h;have hn3:=eH_ _ j _ _ _ hrun;have happ:=gj_ (P:=P) (ops:=ops) (ρ:=none) (M0:=M) (w0:=gbase w G (E.gk hj)) (nx:=nx) (Q:=fun e a' w'=> ∃k' go' st',GRel E k' go' st' a' w'∧Q e k' go' st') [] tail j ⟨fr,hp,nx,n⟩ st3 us a w hrun hr fun a5 w5 hr5=>?_;rw[List.append_nil] at happ;exact happ;refine⟨k,go,⟨st3.fr,st3.hp,nx+n1,n⟩,GRel.go_on hj ?_,hq⟩;rw[hn3] at hr5;refine hr5.free fun i (hi:nx+n1≤i)=>?_;omega
theorem GLs.yield {ops:Array Oper} {tail:List Oper} {j k nx n nx2 d:Nat} {fr fr2:Fr} {hp hp2:Hp} {Q:Exit→Nat→Bool→AState→Prop} (m:Nat) {o:Oper} (ho:tail[m]?=some o) {cc:Call} {f:Operand} {as:List AV} (hop:o.op= .call cc) (hd:o.dst=some d) (hf:cc.callee= .value f)
    (hg:o.guard=none∨∃g t,o.guard=some (g,true)∧ops[g]?.bind (·.dst)=some t∧evF (look fr2) (.tmp t)=some (.v (.bool true)))
    (h:AR P ops nx n j (tail.take m) fr hp fun _ f1 h1=>SEntT ⟨f1,h1,nx+(j+m),n⟩ ⟨fr2,hp2,nx2,n⟩) (hdn:Nat.blt d n=true)
    (hev:evF (look fr2) f=some (.v (.func (.yield l) #[] #[]))) (has:evs (evF (look fr2)) cc.args.toList=some as) (hT:T k=some (as.map coe)) (hcl:∀a∈as.map coe,Closed a)
    (h3:∀go,GLs E ops Q (tail.drop (m+1)) (j+m+1) nx2 n (k+1) go ((d,.v (.bool go))::fr2) hp2):GLs E ops Q tail j nx n k true fr hp:=by
 have hjl:m< tail.length:=(List.getElem?_eq_some_iff.1 ho).1
 have hops:tail=tail.take m++o::tail.drop (m+1):=by
  rw[←(List.getElem?_eq_some_iff.1 ho).2,←List.drop_eq_getElem_cons hjl,List.take_append_drop]
 intro a w M G hj hr;rw[hops];obtain⟨us,st1,hrun,hent⟩:=h;have hn1:=eH_ _ j _ _ _ hrun;simp only at hn1;refine gj_ (M0:=M) (w0:=gbase w G (E.gk hj)) (ρ:=none) _ _ j ⟨fr,hp,nx,n⟩ st1 us a w hrun hr fun a1 w1 hr1=>?_;have hl:(tail.take m).length=m:=by rw[List.length_take];omega
 rw[hl,hn1] at hr1;have hr2:TRel M (gbase w G (E.gk hj)) ⟨fr2,hp2,nx2,n⟩ a1 w1:=hent M _ a1 w1 hr1;have hb:=hr1.choose_spec.1.below;have hst:GStep G (fun b=>(G b∨w.heap.size≤b)∧b< w1.heap.size) w w1:=⟨hb.os,hb.tape,hb.output,hb.size,fun b h1 h2=>hb.block b ⟨h1,h2⟩,hb.sizes,fun b h=>h⟩;have hj1:=E.ok _ _ _ _ _ _ _ hj hst
 have hr3:TRel M (gbase w1 (fun b=>(G b∨w.heap.size≤b)∧b< w1.heap.size) (E.gk hj1)) ⟨fr2,hp2,nx2,n⟩ a1 w1:=by
  obtain⟨β,mem,h1,h2,h3,⟨Ds,h4,h5,h6⟩,h7⟩:=hr2
  have hK:∀b,b< w1.heap.size→¬(gbase w G (E.gk hj)).K b→¬(gbase w1 (fun b=>(G b∨w.heap.size≤b)∧b< w1.heap.size) (E.gk hj1)).K b:=by
   rintro b hlt hk ⟨_,hn⟩;refine hn ⟨?_,hlt⟩;by_cases hG:G b;exact .inl hG;exact .inr (Nat.le_of_not_lt fun hl=>hk ⟨hl,hG⟩)
  refine⟨β,mem.rebase (gbase w1 _ (E.gk hj1)) rfl (fun b hb=>?_) (fun i b s hi=>hK b (mem.rng i b s hi).2 (mem.rng i b s hi).1) mem.pin,h1,fun t x hx=>h2 t x hx,h3,⟨Ds,h4,h5,fun D hD=>?_⟩,h7⟩;have:=(mem.m0 b hb).1;exact⟨Nat.lt_of_lt_of_le this.1 mem.below.size,fun hG=>hG.1.elim this.2 fun h=>by have:=this.1;omega⟩;obtain⟨h8,h9⟩:=h6 D hD;exact⟨h8,hK D (Array.getElem?_eq_some_iff.1 h8).1 h9⟩
 have hw:Region.wanted o (yielded ops a1.tmps)=true:=by
  rcases hg with hg|⟨g,t,hg,ht,hx⟩
  simp[Region.wanted,hg];obtain⟨β,mem,h1,h2,_⟩:=hr2;have hval:a1.tmps.getD t undef= .bool true:=g7_ h2 (.tmp t) _ hx
  have hyl:yielded ops a1.tmps g=some true:=by
   simp only[yielded,ht,Option.bind_some];cases htt:a1.tmps[t]? with
   |none=>
    rw[Array.getD_eq_getD_getElem?,htt] at hval;cases hval
   |some y=>
    rw[Array.getD_eq_getD_getElem?,htt] at hval;simp only[Option.getD_some] at hval;subst hval;rfl
  simp only[Region.wanted,hg,hyl,beq_iff_eq]
 refine wpListIn_step fun K hK=>?_;rw[if_pos hw];refine m1_ (E:=E) (st:=⟨fr2,hp2,nx2,n⟩) hop hd (Nat.le_of_ble_eq_true hdn) hf hev has hT hcl hj1 hr3 fun go a2 w2 hr4=>hK a2 w2 ?_;obtain⟨M4,G4,hj4,hr4⟩:=hr4;exact h3 go a2 w2 M4 G4 hj4 (FRel.free hr4 fun i hi=>by show nx2≤i;omega)
theorem GWp.cutT{α:Type}{Q:Exit→Nat→Bool→AState→Prop}{x y:Code}{k:Nat}{go:Bool}{st:AState}(S:α→AState)(Post:α→Prop)(h:AWp none P x (cutA S Post fun _ _=>False) st)(h2:∀a,Post a→GWp E y Q k go (S a)):GWp E x (thenG (GWp E y Q) Q) k go st:=
 GWp.lift (AWp.mono h fun e s hs=>by
  cases e with
  |normal=>obtain⟨a,h3,h4⟩:=hs;exact GWp.ent h4 (h2 a h3)
  |_=>exact hs.elim)
end
def mxB(T sz:Nat):List (List (List AV))→Nat→Hp
 |[],_=>[]
 |e::l,i=>(i,some ⟨T,sz,e⟩)::mxB T sz l (i+1)
theorem p2_{T sz:Nat}:∀(L:List (List (List AV))) (i j:Nat) (B:ABlk),(j,some B)∈mxB T sz L i→∃k e,L[k]?=some e∧j=i+k∧B=⟨T,sz,e⟩
 |[],_,_,_,h=>by cases h
 |e::l,i,j,B,h=>by
  rcases List.mem_cons.1 h with h|h
  cases h;exact⟨0,e,rfl,rfl,rfl⟩;obtain⟨k,e',h1,h2,h3⟩:=p2_ l (i+1) j B h;exact⟨k+1,e',by grind,by omega,h3⟩
theorem p3_{T sz:Nat}:∀(L:List (List (List AV))) (i j:Nat),j∈(mxB T sz L i).map (·.1)→i≤j∧j< i+L.length
 |[],_,_,h=>by cases h
 |e::l,i,j,h=>by
  rcases List.mem_cons.1 h with h|h
  subst h;exact⟨Nat.le_refl _,by simp⟩;have:=p3_ l (i+1) j h;grind
def mxH(TS TQ:Nat)(o:List (List AV))(L:List (List (List AV))):Hp:=(1,some ⟨TS,1,o⟩)::mxB TQ 4 L 2
theorem rN_{r:Ren}{hp hp':Nat→Option ABlk}:∀l:Hp,(∀i B,(i,some B)∈l→i< r.n∧∃B0,hp (r.s i)=some B0∧B0.ty=B.ty∧B0.sz=B.sz∧CvLL r hp hp' B0.es B.es)→CvH r hp hp' l
 |[],_=>trivial
 |(i,none)::l,h=>⟨trivial,rN_ l fun j B hj=>h j B (List.mem_cons_of_mem _ hj)⟩
 |(i,some B)::l,h=>⟨h i B (List.mem_cons_self ..),rN_ l fun j B hj=>h j B (List.mem_cons_of_mem _ hj)⟩
theorem qm_{r:Ren}:∀l:List Nat,(∀i j,i∈l→j∈l→r.s i=r.s j→i=j)→injL r l=true
 |[],_=>rfl
 |a::l,h=>by
  rw[injL,Bool.and_eq_true,List.all_eq_true];refine⟨fun j hj=>?_,qm_ l fun i j hi hj=>h i j (List.mem_cons_of_mem _ hi) (List.mem_cons_of_mem _ hj)⟩;by_cases e:r.s a=r.s j;have:=h a j (List.mem_cons_self ..) (List.mem_cons_of_mem _ hj) e;rw[this];simp
  have:Nat.beq (r.s a) (r.s j)=false:=by
   cases hb:Nat.beq (r.s a) (r.s j) with
   |false=>rfl
   |true=>simp_all
  grind
theorem SEnt.mx {fr fr':Fr} {hp:Hp} {nx N TS TQ:Nat} (s:Nat→Nat) (o o':List (List AV)) (L:List (List (List AV))) (hL:L.length≤30) (s0:s 0=0) (hinj:∀i j,1≤i→i< L.length+2→1≤j→j< L.length+2→s i=s j→i=j)
    (h1:lookB hp (s 1)=some ⟨TS,1,o'⟩) (ho:o'.length=o.length) (hr:∀i e,L[i]?=some e→lookB hp (s (i+2))=some ⟨TQ,4,e⟩∧∀x∈e,∀c∈x,Closed c)
    (hO:Shr ⟨40,s⟩ (lookB hp) (lookB (mxH TS TQ o L))→CvLL ⟨40,s⟩ (lookB hp) (lookB (mxH TS TQ o L)) o' o)
    (hF:Shr ⟨40,s⟩ (lookB hp) (lookB (mxH TS TQ o L))→CvF ⟨40,s⟩ (lookB hp) (lookB (mxH TS TQ o L)) fr fr'):SEnt ⟨fr,hp,nx,N⟩ ⟨fr',mxH TS TQ o L,40,N⟩:=by
 have key:∀i B,(i,some B)∈mxH TS TQ o L→(i=1∧B=⟨TS,1,o⟩)∨∃k e,L[k]?=some e∧i=k+2∧B=⟨TQ,4,e⟩:=fun i B h=>by
  rcases List.mem_cons.1 h with h|h
  cases h;exact .inl ⟨rfl,rfl⟩;obtain⟨k,e,k1,k2,k3⟩:=p2_ L 2 i B h;grind
 have hS:Shr ⟨40,s⟩ (lookB hp) (lookB (mxH TS TQ o L)):=⟨fun i B h=>by
  rcases key i B (e8_ h) with⟨rfl,rfl⟩|⟨k,e,k1,rfl,rfl⟩
  exact⟨(show 1< 40 by decide),_,h1,rfl,rfl,ho⟩;grind⟩
 refine SEnt.intro (st:=⟨fr,hp,nx,N⟩) (st':=⟨fr',mxH TS TQ o L,40,N⟩) ⟨40,s⟩ rfl (show 0< 40 by decide) s0 (qm_ _ fun i j hi hj e=>?_) rfl (hF hS) (rN_ _ fun i B h=>?_)
 have g:∀i,i∈(mxH TS TQ o L).map (·.1)→1≤i∧i< L.length+2:=fun i hi=>by
  rcases List.mem_cons.1 hi with h|h
  have h:i=1:=h;omega;have:=p3_ L 2 i h;omega
 exact hinj i j (g i hi).1 (g i hi).2 (g j hj).1 (g j hj).2 e;rcases key i B h with⟨rfl,rfl⟩|⟨k,e,k1,rfl,rfl⟩
 exact⟨(show 1< 40 by decide),_,h1,rfl,rfl,hO hS⟩;exact⟨by grind,_,(hr k e k1).1,rfl,rfl,bt_ hS (hr k e k1).2⟩
def mxO(w:Nat)(s:Nat→Nat)(n:Nat):List (List AV):=(List.range n).map fun i=>[.lsl (s (i+2)) 0 w none 4]
@[simp] theorem mxO_length (w:Nat)(s:Nat→Nat)(n:Nat):(mxO w s n).length=n:=by simp[mxO]
def lessF:List (List Nat×List Nat)→List (List Nat×List Nat)→Prop
 |[],[]=>True
 |(w,r)::l,(w0,r0)::l0=>w=w0∧(∀k∈w,40≤k)∧(∀x∈r,x∈r0∨x< 40)∧lessF l l0
 |_,_=>False
theorem lessF.nil:lessF [] []:=trivial
theorem lessF.cons{w w0 r r0:List Nat}{l l0:List (List Nat×List Nat)}(h1:w=w0)(h2:∀k∈w,40≤k)(h3:∀x∈r,x∈r0∨x< 40)(h4:lessF l l0):lessF ((w,r)::l) ((w0,r0)::l0):=⟨h1,h2,h3,h4⟩
theorem lessF.zz{l l0:List (List Nat×List Nat)}(h:lessF l l0):lessF (([],[])::l) (([],[])::l0):= .cons rfl (fun k hk=>absurd hk List.not_mem_nil) (fun k hk=>absurd hk List.not_mem_nil) h
theorem lessF.rd{x:Nat}{l l0:List (List Nat×List Nat)}(hx:x< 40)(h:lessF l l0):lessF (([],[x])::l) (([],[])::l0):= .cons rfl (fun k hk=>absurd hk List.not_mem_nil) (fun k hk=> .inr (by grind)) h
theorem lessF.al{x y:Nat}{l l0:List (List Nat×List Nat)}(e:x=y)(hx:40≤x)(h:lessF l l0):lessF (([x],[])::l) (([y],[])::l0):= .cons (by rw[e]) (fun k hk=>by grind) (fun k hk=>absurd hk List.not_mem_nil) h
theorem lessF.st{x y:Nat}{l l0:List (List Nat×List Nat)}(e:x=y)(hx:40≤x)(h:lessF l l0):lessF (([x],[x])::l) (([y],[y])::l0):= .cons (by rw[e]) (fun k hk=>by grind) (fun k hk=> .inl (by grind)) h
end Go.Abs
namespace Go.Abs
open Go.RowKit
structure OTSpec (P:Program)(f:Nat)(args:List AV)(ty sz:Nat)(es:List (List AV))(v:Value):Prop where
 sz0:sz≠0
 cl:∀a∈args,Closed a
 enters:∀(xs:Array Value) (w:World),(callFunc f xs).run P w= .ok (.enter f xs) w
 calls:∀(M:Nat→Prop) (w:World) (vals:List Value),Fit M w→RVs M (fun _=>none) w args vals→
  Calls P f vals.toArray w fun x w'=> ∃b c,x= .returned (.tuple #[.slice (some ⟨b,0,none⟩) es.length c,v])∧w.heap.size≤b∧b< w'.heap.size∧es.length≤c∧c≤maxLen∧(∃cs,w'.heap[b]?=some (.cells cs ty (0,0))∧RVess (fun x=>M x∨x=b) (fun _=>none) w' b sz es 0∧c* sz≤cs.size)∧Below w.heap.size w w'
theorem OTSpec.intro {P:Program} {f:Nat} {fn:Func} {c:Code} {ty sz t t2:Nat} {v:Value} {args:List AV} {es:List (List AV)} (hf:P.funcs[f]?=some fn) (hb:fn.body=some c) (hname:(fn.name== "runtime.NumGoroutine")=false) (hrs:fn.results.toList=[.tmp t,.tmp t2]) (hcl:∀a∈args,Closed a) (hce:∀x∈es,∀c∈x,Closed c) (hn:args.length≤fn.ntmps)
    (h:AWp none P c (fun x st=>(x= .normal∨x= .ret)∧(∃i cap,look st.fr t=some (.lsl i 0 es.length cap sz)∧lookB st.hp i=some ⟨ty,sz,es⟩)∧look st.fr t2=some (.v v)) ⟨argFr 0 args,[],1,fn.ntmps⟩) (hz:Nat.blt 0 sz=true:=by rfl):OTSpec P f args ty sz es v:=by
 refine⟨eZ_ hz,hcl,fun xs w=>?_,fun M w vals hM hargs=>?_⟩;have hname':¬fn.name= "runtime.NumGoroutine" :=by grind
 simp[callFunc,hf,hname',hb];refine(callsIn_wide (n:=0)).1 (callsIn_of_wp_marks (F:=Fence.wide) hf hb trivial ?_);have hlen:=hargs.length
 have hrel:ARel M (Base.of w hM.tab) ⟨argFr 0 args,[],1,fn.ntmps⟩ {tmps:=vals.toArray++Array.replicate (fn.ntmps- vals.toArray.size) undef,defers:=[]} w:=by
  refine⟨fun _=>none,⟨⟨rfl,rfl,rfl,Nat.le_refl _,fun _ _=>rfl,fun _ _ h=>h⟩,(fun b hb=>⟨hM.lt b hb,fun e=>hM.nt (e▸hb)⟩),(fun _ _ _ h=>by cases h),(fun _=>rfl),(fun _ _ h=>by cases h),(fun _ _ _ _ _ _ _ h=>by simp)⟩,by grind,fun t x hx=>?_,fun i (hi:1≤i)=>⟨rfl,by omega⟩,⟨[],rfl,List.nodup_nil,by simp⟩⟩;have hmm:MM M (fun _=>none) (lookB [])=M:=by funext b;simp[MM,lookB,look]
  show RV (MM M (fun _=>none) (lookB [])) _ _ _ _;rw[hmm,bT_ rfl];obtain⟨_,y,h1,h2⟩:=dm_ hargs hx
  have hy:(vals.toArray++Array.replicate (fn.ntmps- vals.toArray.size) undef).getD t undef=y:=by
   have hlt:t< vals.length:=by grind
   rw[Array.getD_eq_getD_getElem?,Array.getElem?_append_left (by grind)];grind
  grind
 refine wpIn_mono (h M (Base.of w hM.tab) _ w hrel) fun x a' w' ⟨st',⟨β,mem,hsz,hfr,hfree,Ds,hds,hnd,hD⟩,he,⟨i,cap,hlk,hbk⟩,hlk2⟩=>?_
 have hres:ResOK P fn.results.toList st' .any:=by
  rw[hrs];exact⟨[_,_],⟨_,[_],rfl,hlk,⟨_,[],rfl,hlk2,rfl⟩⟩,fun _ _ _ _ _ _ _=>trivial⟩
 have hL:LeavesInM (FR none) 0 P fn a'.tmps (fun x w'=> ∃b c,x= .returned (.tuple #[.slice (some ⟨b,0,none⟩) es.length c,v])∧w.heap.size≤b∧b< w'.heap.size∧es.length≤c∧c≤maxLen∧(∃cs,w'.heap[b]?=some (.cells cs ty (0,0))∧RVess (fun x=>M x∨x=b) (fun _=>none) w' b sz es 0∧c* sz≤cs.size)∧Below w.heap.size w w') a'.defers .returning w':=by
  rw[hds];refine fS_ hres (fun y w'' _ h2 h3 h4=>?_) Ds w' hnd hD mem (fun t x hx=>by have:=hfr t x hx;rwa[bT_ rfl] at this);obtain⟨b,c,e1,e2,e3,e4,e5,N,e6,e7⟩:=h3 t _ hlk;have g2:a'.tmps.getD t2 undef=v:=h3 t2 _ hlk2;obtain⟨b',cs,f1,f2,f3,f4⟩:=h2.cells hbk (eZ_ hz);rw[e1] at f1;cases f1;have hr:=h2.rng i b _ e1
  have hy:y= .tuple #[.slice (some ⟨b,0,none⟩) es.length c,v]:=by
   have hm:(fn.results.mapM (fF_ a'.tmps)).run P w''= .ok #[a'.tmps.getD t undef,a'.tmps.getD t2 undef] w'':=by
    rw[Array.mapM_eq_mapM_toList,hrs];rfl
   have he:results fn a'.tmps=(do let vs←fn.results.mapM (fF_ a'.tmps);pure (if h:vs.size=1 then vs[0] else .tuple vs)):=rfl;rw[he,Sem.run_bind,hm] at h4;have h5:(Result.ok (.tuple #[a'.tmps.getD t undef,a'.tmps.getD t2 undef]) w'':Result Value)= .ok y w'':=h4;cases h5;rw[e2,g2];simp
  refine⟨b,c,by rw[hy],Nat.le_of_not_lt hr.1,hr.2,e3,e4,⟨cs,f2,?_,?_⟩,⟨h2.below.os,h2.below.tape,h2.below.output,h2.below.size,h2.below.block⟩⟩;refine StabC.ess (w:=w'') (w':=w'') (M:=MM M β (lookB st'.hp)) (β:=fun _=>none) ⟨fun _ _ _ _=>rfl,fun x _ _ hx=>?_,(fun _ _ h=>by cases h),fun _ _ h=>h⟩ rfl (du_ hce f3);rcases hx with hx|rfl
  exact .inl hx;exact .inr ⟨i,_,_,hbk,e1⟩;simp[aH_,f2] at e6;rw[e6];simpa using e7
 rcases he with rfl|rfl
 exact hL;exact hL
def FinOT(t t2 ty sz:Nat)(es:List (List AV))(v:Value)(x:Exit)(st:AState):Prop:=(x= .normal∨x= .ret)∧(∃i cap,look st.fr t=some (.lsl i 0 es.length cap sz)∧lookB st.hp i=some ⟨ty,sz,es⟩)∧look st.fr t2=some (.v v)
theorem FinOT.tmp{fr:Fr}{hp:Hp}{nx n t t2 ty sz i k:Nat}{cap:Option Nat}{es es':List (List AV)}{v:Value}(h:look fr t=some (.lsl i 0 k cap sz))(hb:lookB hp i=some ⟨ty,sz,es⟩)(he:es=es')(hk:k=es'.length)(h2:look fr t2=some (.v v)):FinOT t t2 ty sz es' v .ret ⟨fr,hp,nx,n⟩:=
 ⟨.inr rfl,⟨i,cap,by grind,by grind⟩,h2⟩
theorem OTSpec.enter {P:Program} {f:Nat} {fn:Func} {c:Code} {ty sz t t2:Nat} {v:Value} {args:List AV} {es:List (List AV)} (hf:P.funcs[f]?=some fn) (hb:fn.body=some c) (hname:(fn.name== "runtime.NumGoroutine")=false) (hrs:fn.results.toList=[.tmp t,.tmp t2]) {m:Nat} (hm:fn.ntmps=m) (hn:Nat.ble args.length m=true)
    (hcl:∀a∈args,Closed a) (hce:∀x∈es,∀c∈x,Closed c) {fr:Fr} (hfr:argFr 0 args=fr) (h:AWp none P c (FinOT t t2 ty sz es v) ⟨fr,[],1,m⟩) (hz:Nat.blt 0 sz=true:=by rfl):OTSpec P f args ty sz es v:=by
 subst hm hfr;exact OTSpec.intro hf hb hname hrs hcl hce (nle hn) h hz
section
variable {P:Program}{id:Nat}{ev:Operand→Option AV}{hp:Nat→Option ABlk}
end
end Go.Abs
namespace Go.Abs
section
variable {P:Program}{id:Nat}{ev:Operand→Option AV}{hp:Nat→Option ABlk}{T:Nat}{x lo hi:Operand}{es es':List (List AV)}{kl kh:IntKind}{zl zh:Int}{l h:Nat}{d:Nat×Nat}
theorem AEval.sa_hE(e:es.take h=es')(hx:ev x=some (.arr es))(h2:ev hi=some (.v (.int kh zh)))(e2:zh=(h:Int))(hl:h≤es.length)(he:elOf P T=some d)(hel:∀e∈es,e.length=d.2):
    AEval P id ev hp (.slice T x none (some hi) none) ⟨.arr es',[]⟩ []:=by
 subst e;exact .sa_h hx h2 e2 hl he hel
end

def digs(b n:Nat):List Nat:=
 if _h:b≤1∨n=0 then [] else n % b::digs b (n/ b)
termination_by n
decreasing_by exact Nat.div_lt_self (by omega) (by omega)
def ofD(b:Nat):List Nat→Nat
 |[]=>0
 |d::l=>d+b* ofD b l
theorem bh_(b:Nat):digs b 0=[]:=by rw[digs];simp
theorem cM_{b n:Nat}(hb:1< b)(hn:0< n):digs b n=n % b::digs b (n/ b):=by rw[digs,dif_neg (by omega)]
theorem aO_{b:Nat}(hb:1< b)(n:Nat):ofD b (digs b n)=n:=by
 induction n using Nat.strongRecOn with
 |_ n ih=>
  rcases Nat.eq_zero_or_pos n with rfl|hn
  rw[bh_];rfl;rw[cM_ hb hn,ofD,ih _ (Nat.div_lt_self hn hb)];exact Nat.mod_add_div n b
theorem b8_{b:Nat}(hb:1< b)(n:Nat):∀d∈digs b n,d< b:=by
 induction n using Nat.strongRecOn with
 |_ n ih=>
  rcases Nat.eq_zero_or_pos n with rfl|hn
  rw[bh_];simp;rw[cM_ hb hn];intro d hd;rcases List.mem_cons.1 hd with rfl|hd
  exact Nat.mod_lt _ (by omega);exact ih _ (Nat.div_lt_self hn hb) d hd
def IsD(b:Nat)(l:List Nat):Prop:=(∀d∈l,d< b)∧l.getLast?≠some 0
theorem iB_{b:Nat}(hb:1< b)(n:Nat):(digs b n).getLast?≠some 0:=by
 induction n using Nat.strongRecOn with
 |_ n ih=>
  rcases Nat.eq_zero_or_pos n with rfl|hn
  rw[bh_];simp;rw[cM_ hb hn];have h1:=ih _ (Nat.div_lt_self hn hb);rw[List.getLast?_cons];intro h;by_cases h0:digs b (n/ b)=[];rw[h0] at h;simp only[List.getLast?_nil,Option.getD_none,Option.some.injEq] at h
  have hz:n/ b=0:=by
   have:=aO_ hb (n/ b);rw[h0] at this;exact this.symm
  have:=Nat.mod_add_div n b;rw[hz] at this;omega;cases hl:(digs b (n/ b)).getLast? with
  |none=>simp_all
  |some x=>
   grind
theorem ofD_pos{b:Nat}{l:List Nat}(h:IsD b l)(hl:l≠[]):0< ofD b l:=by
 induction l with
 |nil=>grind
 |cons d l ih=>
  rw[ofD];by_cases h0:l=[];subst h0;have h2:=h.2;simp at h2;omega;have hb:0< b:=by have:=h.1 d (List.mem_cons_self ..);omega
  have:0< ofD b l:=ih ⟨fun x hx=>h.1 x (List.mem_cons_of_mem _ hx),by
   have h2:=h.2;grind⟩ h0
  have:=Nat.mul_pos hb this;omega
theorem kt_{b:Nat}(hb:1< b):∀{l:List Nat},IsD b l→digs b (ofD b l)=l
 |[],_=>bh_ b
 |d::l,h=>by
  have hp:=ofD_pos h (by simp);have hd:=h.1 d (List.mem_cons_self ..)
  have hl:IsD b l:=⟨fun x hx=>h.1 x (List.mem_cons_of_mem _ hx),by
   have h2:=h.2;grind⟩
  rw[cM_ hb hp];have e1:ofD b (d::l) % b=d:=by rw[ofD,Nat.add_mul_mod_self_left];exact Nat.mod_eq_of_lt hd
  have e2:ofD b (d::l) / b=ofD b l:=by rw[ofD,Nat.add_mul_div_left _ _ (by omega),Nat.div_eq_of_lt hd];omega
  rw[e1,e2,kt_ hb hl]
theorem di_(b:Nat)(l m:List Nat):ofD b (l++m)=ofD b l+b^ l.length* ofD b m:=by
 induction l with
 |nil=>simp[ofD]
 |cons d l ih=>simp only[List.cons_append,ofD];grind
theorem dx_{b:Nat}{l:List Nat}(h:∀d∈l,d< b):ofD b l< b^ l.length:=by
 induction l with
 |nil=>simp[ofD]
 |cons d l ih=>
  have h1:=ih fun x hx=>h x (List.mem_cons_of_mem _ hx);have h2:=h d (List.mem_cons_self ..);rw[ofD,List.length_cons,Nat.pow_succ];have:b* (ofD b l+1)≤b* b^ l.length:=Nat.mul_le_mul_left _ h1;grind
theorem h5_(b k:Nat):ofD b (List.replicate k 0)=0:=by
 induction k with
 |zero=>rfl
 |succ k ih=>rw[List.replicate_succ,ofD,ih];simp
theorem bX_(b k:Nat)(l:List Nat)(h:k≤l.length):ofD b l=ofD b (l.take k)+b^ k* ofD b (l.drop k):=by
 conv=>lhs;rw[←List.take_append_drop k l]
 rw[di_,List.length_take,Nat.min_eq_left h]
def trimD:List Nat→List Nat
 |[]=>[]
 |d::l=>match trimD l with
  |[]=>if d=0 then [] else [d]
  |e::m=>d::e::m
theorem kW_(b:Nat):∀l,ofD b (trimD l)=ofD b l
 |[]=>rfl
 |d::l=>by
  have ih:=kW_ b l;unfold trimD;split
  ·rename_i h
   rw[h] at ih;split
   ·rename_i h0;subst h0;show 0=0+b* ofD b l;rw[←ih];simp[ofD]
   show d+b* ofD b []=d+b* ofD b l;grind
  ·rename_i e m h
   rw[h] at ih;show d+b* ofD b (e::m)=d+b* ofD b l;rw[ih]
theorem jh_:∀l,(trimD l).getLast?≠some 0
 |[]=>by simp[trimD]
 |d::l=>by
  have ih:=jh_ l;unfold trimD;grind
theorem kV_:∀l,∀d∈trimD l,d∈l
 |[],d,h=>by simp[trimD] at h
 |a::l,d,h=>by
  have ih:=kV_ l;unfold trimD at h;grind
theorem eF_{b:Nat}(hb:1< b){l:List Nat}(h:∀d∈l,d< b):trimD l=digs b (ofD b l):=by
 rw[←kW_ b l];exact(kt_ hb ⟨fun d hd=>h d (kV_ l d hd),jh_ l⟩).symm
theorem fp_:∀(l:List Nat) (k:Nat),k≤l.length→(∀i,k≤i→i< l.length→l[i]?=some 0)→(k=0∨l[k- 1]?≠some 0)→trimD l=l.take k
 |[],k,hk,_,_=>by simp[trimD]
 |d::l,k,hk,hz,hl=>by
  cases k with
  |zero=>
   have h1:=fp_ l 0 (Nat.zero_le _) (fun i _ hi=>by have:=hz (i+1) (by omega) (by grind);grind) (.inl rfl);have h2:=hz 0 (Nat.le_refl _) (by simp);simp only[List.getElem?_cons_zero,Option.some.injEq] at h2;simp[trimD,h1,h2]
  |succ k=>
   have hz':∀i,k≤i→i< l.length→l[i]?=some 0:=fun i h1 hi=>by have:=hz (i+1) (by omega) (by grind);grind
   simp only[Nat.add_sub_cancel] at hl;cases k with
   |zero=>
    have h1:=fp_ l 0 (Nat.zero_le _) hz' (.inl rfl);simp at hl;simp[trimD,h1,hl]
   |succ k=>
    have hlen:k+1≤l.length:=by grind
    have h1:=fp_ l (k+1) hlen hz' (.inr (hl.elim (fun h=>absurd h (by omega)) fun h=>by grind));cases l with
    |nil=>grind
    |cons e m=>
     simp only[List.take_succ_cons] at h1⊢;rw[trimD,h1]
def bl(n:Nat):Nat:=if n=0 then 0 else n.log2+1
theorem lt_bl(n:Nat):n< 2^ bl n:=by
 unfold bl;split
 ·grind
 exact Nat.lt_log2_self
theorem bl_le{n k:Nat}(h:n< 2^ k):bl n≤k:=by
 unfold bl;split;omega
 ·rename_i hn;exact(Nat.log2_lt hn).2 h
theorem bl_lt{n k:Nat}(h:bl n≤k):n< 2^ k:=Nat.lt_of_lt_of_le (lt_bl n) (Nat.pow_le_pow_right (by omega) h)
theorem b1_{m n:Nat}(h:m≤n):bl m≤bl n:=bl_le (Nat.lt_of_le_of_lt h (lt_bl n))
theorem eB_(m n:Nat):bl (m* n)≤bl m+bl n:=by
 refine bl_le ?_;rw[Nat.pow_add];exact Nat.mul_lt_mul'' (lt_bl m) (lt_bl n)
theorem rE_(m n:Nat):bl (m+n)≤max (bl m) (bl n)+1:=by
 refine bl_le ?_;have h1:m< 2^ max (bl m) (bl n):=bl_lt (Nat.le_max_left _ _);have h2:n< 2^ max (bl m) (bl n):=bl_lt (Nat.le_max_right _ _);grind
theorem bl_zero:bl 0=0:=rfl
theorem fl_:bl 1=1:=by decide
theorem bl_pos{n:Nat}(h:0< n):0< bl n:=by unfold bl;grind
theorem aZ_{b:Nat}(hb:1< b)(n:Nat):(digs b n).length≤bl n:=by
 induction n using Nat.strongRecOn with
 |_ n ih=>
  rcases Nat.eq_zero_or_pos n with rfl|hn
  rw[bh_];simp;rw[cM_ hb hn,List.length_cons];have h1:=ih _ (Nat.div_lt_self hn hb)
  have h2:bl (n/ b)+1≤bl n:=by
   have hle:n/ b≤n/ 2:=Nat.div_le_div_left hb (by omega)
   have h3:bl (n/ 2)+1≤bl n:=by
    have hlt:=lt_bl n;have hp:=bl_pos hn
    have:n/ 2< 2^ (bl n- 1):=by
     rw[Nat.div_lt_iff_lt_mul (by omega)];simp_all
    have:=bl_le this;omega
   have:=b1_ hle;omega
  omega
theorem cK_{b:Nat}(hb:1< b){n k:Nat}(h:n< b^ k):(digs b n).length≤k:=by
 induction k generalizing n with
 |zero=>have:n=0:=by grind
        subst this;rw[bh_];simp
 |succ k ih=>
  rcases Nat.eq_zero_or_pos n with rfl|hn
  rw[bh_];simp;rw[cM_ hb hn];have:n/ b< b^ k:=by rw[Nat.div_lt_iff_lt_mul (by omega)];exact h
  grind
theorem dU_{b n:Nat}(hb:1< b):digs b n=[]↔n=0:=by
 constructor;intro h;have:=aO_ hb n;rw[h] at this;exact this.symm;rintro rfl;exact bh_ b
abbrev MB:Nat:=1000000000
def u32(d:Nat):AV:= .v (.int .u32 d)
def i64(z:Int):AV:= .v (.int .i64 z)
def u64(z:Int):AV:= .v (.int .u64 z)
def bln(b:Bool):AV:= .v (.bool b)
def dE(l:List Nat):List (List AV):=l.map fun d=>[u32 d]
def mag(n:Nat):AV:= .arr (dE (digs MB n))
@[simp] theorem iF_ (l:List Nat):(dE l).length=l.length:=by simp[dE]
theorem cd_{l:List Nat}{i d:Nat}(h:l[i]?=some d):(dE l)[i]?=some [u32 d]:=by simp[dE,h]
theorem rn_(l:List Nat)(k:Nat):(dE l).take k=dE (l.take k):=by simp[dE]
theorem fg_(l m:List Nat):dE (l++m)=dE l++dE m:=by simp[dE]
theorem ec_(l:List Nat)(i d:Nat):(dE l).set i [u32 d]=dE (l.set i d):=by simp[dE,List.map_set]
theorem dA_(k:Nat):List.replicate k [u32 0]=dE (List.replicate k 0):=by simp[dE]
theorem ed_(l:List Nat):(dE l).all (·.all AV.one)=true:=by simp[dE,u32,AV.one];intros;rfl
theorem mO_(l:List Nat):∀e∈dE l,e.length=1:=by intro e he;simp[dE] at he;obtain⟨d,_,rfl⟩:=he;rfl
theorem aX_(l:List Nat):∀e∈dE l,∀c∈e,Closed c:=by
 intro e he c hc;simp[dE] at he;obtain⟨d,_,rfl⟩:=he;simp at hc;subst hc;exact af_ _
theorem bs_(l:List Nat):Closed (.arr (dE l)):=aL_ (aX_ l)
theorem a5_(n:Nat):Closed (mag n):=bs_ _
theorem ac_:∀a∈([]:List AV),Closed a:=fun _ h=>by cases h
theorem aa_{a:AV}{l:List AV}(h:Closed a)(h':∀a∈l,Closed a):∀b∈a::l,Closed b:=by
 intro b hb;rcases List.mem_cons.1 hb with rfl|hb
 exact h;exact h' b hb
theorem AEval.lenD{P:Program}{id:Nat}{ev:Operand→Option AV}{hp:Nat→Option ABlk}{c:Call}{x:Operand}{T:Nat}{d:Nat×Nat}{l:List Nat}(hc:c.callee= .builtin .len)(ha:c.args= #[x])(ht:c.argTypes= #[T])(hx:ev x=some (.arr (dE l)))(he:elOf P T=some d):
    AEval P id ev hp (.call c) ⟨.v (.int .i64 (l.length:Nat)),[]⟩ []:= .len hc ha ht hx (by simp[lenA]) he
theorem dE_(b:Nat)(s:List Nat)(v:Nat):ofD b (s++[v])=ofD b s+b^ s.length* v:=by rw[di_];simp[ofD]
theorem b5_{α:Type}{l:List α}{k:Nat}{x:α}(h:l[k]?=some x):l.take (k+1)=l.take k++[x]:=by
 rw[List.take_add_one,h];rfl
theorem bi_(b:Nat){l:List Nat}{k d:Nat}(h:l[k]?=some d):ofD b (l.take (k+1))=ofD b (l.take k)+b^ k* d:=by
 have hk:k< l.length:=(List.getElem?_eq_some_iff.1 h).1;rw[b5_ h,dE_,List.length_take,Nat.min_eq_left (by omega)]
theorem cl_(b:Nat)(l:List Nat)(k:Nat):ofD b (l.take (k+1))=ofD b (l.take k)+b^ k* (l[k]?.getD 0):=by
 cases h:l[k]? with
 |some d=>exact bi_ b h
 |none=>rw[List.getElem?_eq_none_iff] at h;rw[List.take_of_length_le (by omega),List.take_of_length_le (by omega)];simp
theorem dw_(b:Nat){l:List Nat}{k:Nat}(h:l.length≤k):ofD b (l.take k)=ofD b l:=by rw[List.take_of_length_le h]
theorem fs_(b:Nat){l:List Nat}{k d:Nat}(h:l[k]?=some d):ofD b (l.drop k)=d+b* ofD b (l.drop (k+1)):=by
 rw[List.drop_eq_getElem_cons (List.getElem?_eq_some_iff.1 h).1,ofD];grind
theorem h6_(b:Nat):∀{l:List Nat} {j d:Nat} (v:Nat),l[j]?=some d→ofD b (l.set j v)+b^ j* d=ofD b l+b^ j* v
 |[],_,_,_,h=>by grind
 |x::l,0,d,v,h=>by simp at h;simp[ofD];omega
 |x::l,j+1,d,v,h=>by
  simp only[List.getElem?_cons_succ] at h;have:=h6_ b v h;rw[List.set_cons_succ,ofD,ofD];grind
theorem kf_{l:List Nat}{j v:Nat}{p:Nat→Prop}(h:∀d∈l,p d)(hv:p v):∀d∈l.set j v,p d:=by grind
theorem pt_{α:Type}{cs vs:List α}(h:vs.length=cs.length):setAt cs 0 vs=vs:=by
 apply List.ext_getElem?;intro j;rw[ct_];grind
theorem l8_{α:Type}{cs vs:List α}(h:vs.length≤cs.length):setAt cs 0 vs=vs++cs.drop vs.length:=by
 apply List.ext_getElem?;intro j;rw[ct_];grind
theorem m7_(s:List Nat)(m v i:Nat)(hi:i=s.length):(s++List.replicate (m+1) 0).set i v=(s++[v])++List.replicate m 0:=by
 subst hi;grind
theorem nw_(s:List Nat)(m i:Nat)(hi:i=s.length):(s++List.replicate (m+1) 0)[i]?=some 0:=by grind
theorem be_{b n i d:Nat}(hb:1< b)(h:(digs b n)[i]?=some d):d< b:=b8_ hb n d (List.mem_of_getElem? h)
theorem oT_{n:Nat}(h0:0< n)(h:n< MB):digs MB n=[n]:=by
 rw[cM_ (by decide) h0,Nat.div_eq_of_lt h,bh_,Nat.mod_eq_of_lt h]
theorem rj_{b:Nat}(hb:1< b)(n k:Nat):(digs b n).drop k=digs b (ofD b ((digs b n).drop k)):=by
 symm;refine kt_ hb ⟨fun d hd=>b8_ hb n d (List.mem_of_mem_drop hd),?_⟩;by_cases hk:k< (digs b n).length;rw[List.getLast?_drop,if_neg (by omega)];exact iB_ hb n;grind
theorem iA_{b n:Nat}(hb:1< b):b^ ((digs b n).length- 1)≤n∨n=0:=by
 rcases Nat.eq_zero_or_pos n with h|h
 exact .inr h;have hne:digs b n≠[]:=fun e=>by have:=(dU_ hb).1 e;omega
 have hl:=iB_ hb n;obtain⟨s,x,e⟩:∃s x,digs b n=s++[x]:=⟨_,_,(List.dropLast_concat_getLast hne).symm⟩;have h1:=aO_ hb n;rw[e,dE_] at h1;rw[e] at hl;simp at hl;rw[e];simp;have:b^ s.length* 1≤b^ s.length* x:=Nat.mul_le_mul_left _ (by omega);omega
theorem en_{b m n:Nat}(hb:1< b)(h:(digs b m).length< (digs b n).length):m< n:=by
 have h1:=dx_ (b:=b) (b8_ hb m);rw[aO_ hb] at h1;rcases iA_ (n:=n) hb with h2|h2
 have:b^ (digs b m).length≤b^ ((digs b n).length- 1):=Nat.pow_le_pow_right (by omega) (by omega);omega;subst h2;rw[bh_] at h;grind
theorem nt_{b m n:Nat}(hb:1< b)(h:m≤n):(digs b m).length≤(digs b n).length:=by
 rcases Nat.lt_or_ge (digs b n).length (digs b m).length with h1|h1
 have:=en_ hb h1;omega;grind
def restD(n k:Nat):Nat:=ofD MB ((digs MB n).drop k)
def preD(n k:Nat):List Nat:=(digs MB n).take k
theorem jo_(n:Nat):restD n 0=n:=aO_ (by decide) n
theorem dQ_(n:Nat):preD n 0=[]:=rfl
theorem preD_end(n:Nat):preD n (digs MB n).length=digs MB n:=List.take_length
theorem fM_{n k:Nat}(h:k≤(digs MB n).length):(preD n k).length=k:=by simp[preD,Nat.min_eq_left h]
theorem jp_{n k:Nat}(h:k< (digs MB n).length):restD n (k+1)=restD n k/ MB∧preD n (k+1)=preD n k++[restD n k % MB]:=by
 have hd:(digs MB n)[k]?=some (digs MB n)[k]:=List.getElem?_eq_getElem h;have h1:=fs_ MB hd;have h2:(digs MB n)[k]< MB:=be_ (by decide) hd;constructor;unfold restD;rw[h1,Nat.add_mul_div_left _ _ (by decide),Nat.div_eq_of_lt h2];omega;unfold preD restD;rw[b5_ hd,h1,Nat.add_mul_mod_self_left,Nat.mod_eq_of_lt h2]
theorem restD_le{n k:Nat}(hk:k≤(digs MB n).length):restD n k≤n:=by
 have:=bX_ MB k _ hk;rw[aO_ (by decide)] at this;have h2:=Nat.le_mul_of_pos_left (ofD MB ((digs MB n).drop k)) (Nat.pow_pos (n:=k) (show 0< MB by decide));unfold restD;omega
theorem restD_eq{n k:Nat}(hk:k≤(digs MB n).length):restD n k=0↔k=(digs MB n).length:=by
 constructor;intro e;have:=rj_ (b:=MB) (by decide) n k;rw[show ofD MB ((digs MB n).drop k)=0 from e,bh_,List.drop_eq_nil_iff] at this;omega;intro e;unfold restD;rw[e,List.drop_length];rfl
def cmpZ(a b:Int):Int:=if a< b then -1 else if b< a then 1 else 0
theorem f0_{a b:Int}(h:a< b):cmpZ a b= -1:=by simp[cmpZ,h]
theorem gT_{a b:Int}(h:b< a):cmpZ a b=1:=by simp[cmpZ];omega
theorem rs_{a b:Int}(h:a=b):cmpZ a b=0:=by simp[cmpZ];omega
theorem kx_{a b:Int}:cmpZ a b≠0↔a≠b:=by unfold cmpZ;split <;>(try split)<;> omega
theorem gf_{b i x y:Nat}{l m:List Nat}(hl:∀d∈l,d< b)(hx:l[i]?=some x)(hy:m[i]?=some y)(hd:l.drop (i+1)=m.drop (i+1))(hlt:x< y):ofD b l< ofD b m:=by
 have hi:i< l.length:=(List.getElem?_eq_some_iff.1 hx).1;have hj:i< m.length:=(List.getElem?_eq_some_iff.1 hy).1;rw[bX_ b i l (by omega),bX_ b i m (by omega),fs_ b hx,fs_ b hy,hd]
 have h1:ofD b (l.take i)< b^ i:=by
  have:=dx_ (b:=b) (l:=l.take i) fun d hd=>hl d (List.mem_of_mem_take hd);rwa[List.length_take,Nat.min_eq_left (by omega)] at this
 have h2:b^ i* (x+b* ofD b (m.drop (i+1))+1)≤b^ i* (y+b* ofD b (m.drop (i+1))):=Nat.mul_le_mul_left _ (by omega);rw[Nat.mul_add _ _ 1] at h2;omega
theorem in_(s t:List Nat)(x:Nat)(i:Nat)(hi:i=s.length):(s++x::t)[i]?=some x:=by subst hi;simp
theorem hV_(s t:List Nat)(x v:Nat)(i:Nat)(hi:i=s.length):(s++x::t).set i v=(s++[v])++t:=by
 subst hi;rw[List.set_append_right _ _ (Nat.le_refl _)];simp
theorem c8_{l:List Nat}{i x:Nat}(h:l[i]?=some x):l.drop i=x::l.drop (i+1):=by
 rw[List.drop_eq_getElem_cons (List.getElem?_eq_some_iff.1 h).1,(List.getElem?_eq_some_iff.1 h).2]
end Go.Abs
