/- Part Y09 of the proof. -/
import Derived.Test.YtjmkjicckobojaaGreatDoorY08
set_option linter.all false
namespace Go.Abs
section
variable {p:Prop}{ρ:Option Nat}{P:Program}{Q:Exit->AState->Prop}{fr fr':Fr}{hp hp':Hp}{nx nx' n i T o:Nat}{r:AV}{xx:Operand}{es:Lc}{cs:La}
theorem d_t(h:p:=by first|rfl|assumption|exact decide_eq_true (by omega)|(simp;done)|(simp;omega)):p:=h
theorem d_f(h:p:=by first|rfl|assumption|exact decide_eq_false (by omega)|(simp;done)|(simp;omega)):p:=h
theorem d_n(h:p:=by first|exact nle rfl|(simp;done)|(simp;omega)):p:=h
theorem d_o(h:p:=by first|rfl|assumption|(simp;done)|(simp;omega)|omega):p:=h
theorem cT{st:AState}{c:Operand}{x y:Code}(h1:AWp ρ P x Q st)(hc:st.ev c=some (.v (.bool true)):=by exact rfl):AWp ρ P (.cond c x y) Q st:=au hc (λ_=>h1) (λe=>by cases e)
theorem cF{st:AState}{c:Operand}{x y:Code}(h1:AWp ρ P y Q st)(hc:st.ev c=some (.v (.bool false)):=by exact rfl):AWp ρ P (.cond c x y) Q st:=au hc (λe=>by cases e) (λ_=>h1)
theorem au_d(h:p:=by first|exact aZ|(refine Cv.loE hs ?_ (ah _);assumption)|(refine Cv.boxp hs rfl (aR rfl) rfl ?_;assumption)):p:=h
theorem au_g(h:p:=by(first|exact bG|(refine bv hs ?_;first|assumption|exact aK _|exact kw _|exact ku _|exact dU _)|(refine aM hs ?_ ?_;assumption;first|assumption|exact cf _|exact aK _|exact kw _|exact ku _|exact dU _)|exact aB (CvL.clo hs (by first|assumption|exact bi _|exact gO _))|(refine aB ?_;repeat' (first|exact av|refine ai ?_ ?_)))<;> exact au_d):p:=h
theorem au_i(h:p:=by repeat' (first|exact aV|refine aA rfl ?_ ?_|exact au_d)):p:=h
theorem au_j(h:p:=by repeat' (first|exact aF|refine rY rfl rfl rfl rfl ?_ ?_|exact au_g)):p:=h
theorem s_f (l:List (Nat×Nat)) (hS:ShrL (rnm fr l nx') (ap hp) hp':=by exact FG)
    (hF:Shr (rnm fr l nx') (ap hp) (ap hp')->CvF (rnm fr l nx') (ap hp) (ap hp') fr fr':=by exact λhs=>au_i)
    (hH:Shr (rnm fr l nx') (ap hp) (ap hp')->CvH (rnm fr l nx') (ap hp) (ap hp') hp':=by exact λhs=>au_j)
    (hk:Nat.blt 0 nx'=true:=by exact rfl) (h0:(rnm fr l nx').s 0=0:=by exact rfl) (hinj:nN (rnm fr l nx') (hp'.map (·.1))=true:=by exact rfl):SEnt ⟨fr,hp,nx,n⟩ ⟨fr',hp',nx',n⟩:=
 Bb l hk h0 hinj hS hF hH
theorem s_t (l:List (Nat×Nat)) (hS:ShrL (rnm fr l nx') (ap hp) hp':=by exact FG)
    (hF:Shr (rnm fr l nx') (ap hp) (ap hp')->CvF (rnm fr l nx') (ap hp) (ap hp') fr fr':=by exact λhs=>au_i)
    (hH:Shr (rnm fr l nx') (ap hp) (ap hp')->CvH (rnm fr l nx') (ap hp) (ap hp') hp':=by exact λhs=>au_j)
    (hk:Nat.blt 0 nx'=true:=by exact rfl) (h0:(rnm fr l nx').s 0=0:=by exact rfl) (hinj:nN (rnm fr l nx') (hp'.map (·.1))=true:=by exact rfl):SEntT ⟨fr,hp,nx,n⟩ ⟨fr',hp',nx',n⟩:=
 SEntT.to l hk h0 hinj hS hF hH
class T4 (P:Program) (t:Nat) (z:outParam (List Value)) (s:outParam Nat) (g:outParam Bool) (b:outParam Nat):Prop where h:(gR P t,jU P t,fT P t,uv P t)=(some z,some s,some g,some b)
class T3 (P:Program) (t:Nat) (s:outParam Nat) (g:outParam Bool) (b:outParam Nat):Prop where h:(jU P t,fT P t,uv P t)=(some s,some g,some b)
class T2 (P:Program) (t i:Nat) (v:outParam (Nat×Nat)) (g:outParam Bool):Prop where h:(ng P t i,nX P t i)=(some v,some g)
section
variable {P:Program}{t i s b:Nat}{z:List Value}{g:Bool}{v:Nat×Nat}
instance [c:T4 P t z s g b]:T3 P t s g b:=⟨congrArg (·.2) c.h⟩
instance [c:T4 P t z s g b]:TZ P t z:=⟨congrArg (·.1) c.h⟩
instance [c:T3 P t s g b]:TS P t s:=⟨congrArg (·.1) c.h⟩
instance [c:T3 P t s g b]:TG P t g:=⟨congrArg (·.2.1) c.h⟩
instance [c:T3 P t s g b]:TB P t b:=⟨congrArg (·.2.2) c.h⟩
instance [c:T2 P t i v g]:TF P t i v:=⟨congrArg (·.1) c.h⟩
instance [c:T2 P t i v g]:TA P t i g:=⟨congrArg (·.2) c.h⟩
end
theorem h_c{r:Ren}{hp hp':Hq}{B B0:ABlk}{l:Hp}(hc:CvLL r hp hp' B0.es B.es)(hl:CvH r hp hp' l)(hi:Nat.blt i r.n=true:=by exact rfl)(h:hp (r.s i)=some B0:=by exact rfl)(ht:B0.ty=B.ty:=by exact rfl)(hz:B0.sz=B.sz:=by exact rfl):CvH r hp hp' ((i,some B)::l):=rY hi h ht hz hc hl
theorem s_x (l:List (Nat×Nat))
    (hF:Shr (rnm fr l nx') (ap hp) (ap hp')->CvF (rnm fr l nx') (ap hp) (ap hp') fr fr')
    (hH:Shr (rnm fr l nx') (ap hp) (ap hp')->CvH (rnm fr l nx') (ap hp) (ap hp') hp') (hS:ShrL (rnm fr l nx') (ap hp) hp':=by exact FG)
    (hk:Nat.blt 0 nx'=true:=by exact rfl) (h0:(rnm fr l nx').s 0=0:=by exact rfl) (hinj:nN (rnm fr l nx') (hp'.map (·.1))=true:=by exact rfl):SEnt ⟨fr,hp,nx,n⟩ ⟨fr',hp',nx',n⟩:=
 Bb l hk h0 hinj hS hF hH
theorem s_y (l:List (Nat×Nat))
    (hF:Shr (rnm fr l nx') (ap hp) (ap hp')->CvF (rnm fr l nx') (ap hp) (ap hp') fr fr')
    (hH:Shr (rnm fr l nx') (ap hp) (ap hp')->CvH (rnm fr l nx') (ap hp) (ap hp') hp') (hS:ShrL (rnm fr l nx') (ap hp) hp':=by exact FG)
    (hk:Nat.blt 0 nx'=true:=by exact rfl) (h0:(rnm fr l nx').s 0=0:=by exact rfl) (hinj:nN (rnm fr l nx') (hp'.map (·.1))=true:=by exact rfl):SEntT ⟨fr,hp,nx,n⟩ ⟨fr',hp',nx',n⟩:=
 SEntT.to l hk h0 hinj hS hF hH
theorem s_z (l:List (Nat×Nat))
    (hF:Shr (kO fr l nx') (ap hp) (ap hp')->CvF (kO fr l nx') (ap hp) (ap hp') fr fr')
    (hH:Shr (kO fr l nx') (ap hp) (ap hp')->CvH (kO fr l nx') (ap hp) (ap hp') hp') (hS:ShrL (kO fr l nx') (ap hp) hp':=by exact FG)
    (hk:Nat.blt 0 nx'=true:=by exact rfl) (h0:(kO fr l nx').s 0=0:=by exact rfl) (hinj:nN (kO fr l nx') (hp'.map (·.1))=true:=by exact rfl):SEnt ⟨fr,hp,nx,n⟩ ⟨fr',hp',nx',n⟩:=
 SEnt.to2 l hk h0 hinj hS hF hH
theorem f_n{f:Nat}{fn:Func}{c:Code}{args:La}{rs:List ResultVar}{m:Nat}(hf:P.funcs[f]?=some fn)(hcl:∀a∈args,Closed a)(h:AWp none P c (Fin P rs r) ⟨fr,[],1,m⟩)(hb:fn.body=some c:=by exact rfl)(hrs:fn.results.toList=rs:=by exact rfl)(hm:fn.ntmps=m:=by exact rfl)(hn:Nat.ble args.length m=true:=by exact rfl)(hfr:dA 0 args=fr:=by exact rfl)(hname:(fn.name== "runtime.NumGoroutine")=false:=by kernel_rfl):FSpec P f args r:=ui hf hb hname hrs hm hn hcl hfr h
theorem f_c{f:Nat}{fn:Func}{c:Code}{args:La}{rs:List ResultVar}{m:Nat}(hf:P.funcs[f]?=some fn)(h:AWp none P c (Fin P rs r) ⟨fr,[],1,m⟩)(hcl:∀a∈args,Closed a:=by repeat' (first|exact af|exact ah _|assumption|exact cz _|exact cf _|exact yF _|exact bi _|exact aK _|exact bh _ _|exact gL _|exact dU _|exact gO _|exact ku _|exact b9 _|exact cO _|exact iD _|exact kw _|refine ac ?_ ?_|refine aD ?_|refine aP ?_|refine aN ?_))(hb:fn.body=some c:=by exact rfl)(hrs:fn.results.toList=rs:=by exact rfl)(hm:fn.ntmps=m:=by exact rfl)(hn:Nat.ble args.length m=true:=by exact rfl)(hfr:dA 0 args=fr:=by exact rfl)(hname:(fn.name== "runtime.NumGoroutine")=false:=by kernel_rfl):FSpec P f args r:=ui hf hb hname hrs hm hn hcl hfr h
section
variable {P:Program}{ops:Array Oper}{nx n j:Nat}{rest:List Oper}{fr:Fr}{hp:Hp}{K:Fps->Fr->Hp->Prop}{d:Nat}{op:Op}{ty:Nat}{pos:String}{after:Array Edge}{a:AV}{rd:Ln}{g t:Nat}{b want:Bool}{x:Value}
theorem n_k{q s:Prop}(h:s)(h0:q:=by kernel_rfl):q/\s:=⟨h0,h⟩
def gv(ops:Array Oper)(g:Nat)(fr:Fr):Option Bool:=((ops[g]?).bind (·.dst)).bind λt=>(evF (look fr) (.tmp t)).bind λa=>match a with| .v (.bool b)=>some b|_=>none
theorem gv_of(h:gv ops g fr=some b):∃t,(ops[g]?).bind (·.dst)=some t/\evF (look fr) (.tmp t)=some (.v (.bool b)):=by
 obtain⟨t,e,c⟩:=vd.1 h;obtain⟨a,f,d⟩:=vd.1 c;grind
theorem n_g(hx:gv ops g fr=some b)(hb:b=!want)(h:AR P ops nx n (j+1) rest ((d,.v undef)::fr) hp λfps f h=>K (([],[])::fps) f h)(hnd:ct op=true:=by exact rfl)(hd:Nat.blt d n=true:=by exact rfl):AR P ops nx n j (⟨some d,op,ty,pos,after,some (g,want)⟩::rest) fr hp K:=by
 obtain⟨t,a,hx⟩:=gv_of hx;exact FO a hx (gn hb) hnd hd h
theorem y_g(hx:gv ops g fr=some b)(hb:b=want)(hs:AEval P (nx+j) (evF (look fr)) (ap hp) op ⟨a,[]⟩ rd)(h:AR P ops nx n (j+1) rest ((d,a)::fr) hp λfps f h=>K (([],rd)::fps) f h)(hnd:ct op=true:=by exact rfl)(hd:Nat.blt d n=true:=by exact rfl):AR P ops nx n j (⟨some d,op,ty,pos,after,some (g,want)⟩::rest) fr hp K:=by
 obtain⟨t,c,hx⟩:=gv_of hx;exact bF c hx (gy hb) hs hnd hd h
theorem i_x{E:Nat}{sz:Nat}{ix:Operand}{kd:IntKind}{z:Int}[TE P T (E,sz)](hg:es[z.toNat]?=some cs)(h:AR P ops nx n (j+1) rest ((d,.aptr es z.toNat 0)::fr) hp λfps f h=>K (([],[])::fps) f h)(h1:evF (look fr) xx=some (.arr es):=by exact rfl)(h2:evF (look fr) ix=some (.v (.int kd z)):=by exact rfl)(h3:0<=z:=by omega)(h4:cs.length=sz:=by exact rfl)(hd:Nat.blt d n=true:=by exact rfl):AR P ops nx n j (⟨some d,.indexAddr T xx ix,ty,pos,after,none⟩::rest) fr hp K:=bZ (.index_a h1 h2 h3 hg h4 TE.h) rfl hd h
theorem l_x{k:Nat}[TG P T true][TS P T k](hg:es[i]?=some cs)(h:AR P ops nx n (j+1) rest ((d,.agg ((cs.drop o).take k))::fr) hp λfps f h=>K (([],[])::fps) f h)(h1:evF (look fr) xx=some (.aptr es i o):=by exact rfl)(h2:Nat.ble (o+k) cs.length=true:=by exact rfl)(hd:Nat.blt d n=true:=by exact rfl):AR P ops nx n j (⟨some d,.load T xx,ty,pos,after,none⟩::rest) fr hp K:=bZ (.load_a h1 hg TG.h TS.h (r9 h2)) rfl hd h
theorem l_1{c:AV}[TG P T false](hg:es[i]?=some cs)(h:AR P ops nx n (j+1) rest ((d,c)::fr) hp λfps f h=>K (([],[])::fps) f h)(h1:evF (look fr) xx=some (.aptr es i o):=by exact rfl)(h2:cs[o]?=some c:=by exact rfl)(hd:Nat.blt d n=true:=by exact rfl):AR P ops nx n j (⟨some d,.load T xx,ty,pos,after,none⟩::rest) fr hp K:=bZ (.load_a1 h1 hg TG.h h2) rfl hd h
theorem r_m{id:Nat}(m:Nat)(h:AR P ops nx n 0 ops.toList fr hp λ_ f h=>Q .normal ⟨f,h,nx+m,n⟩)(hsz:ops.size=m:=by exact rfl):AWp ρ P (.region id ops false) Q ⟨fr,hp,nx,n⟩:=HE hsz h
theorem r_d{id:Nat}(hm:P.follows .mixedOrders=true)(m:Nat)(h:AR P ops nx n 0 ops.toList fr hp λfps f h=>lR ops fps=true/\Q .normal ⟨f,h,nx+m,n⟩)(hsz:ops.size=m:=by exact rfl):AWp ρ P (.region id ops true) Q ⟨fr,hp,nx,n⟩:=MR hm hsz h
theorem c_e{e k:Nat}{B:ABlk}[TG P T true][TS P T k](hc:Closed r)(h:look fr t=some (.lptr i e o):=by exact rfl)(hb:dS (ap hp) i=some B:=by exact rfl)(he:B.es[e]?=some cs:=by exact rfl)(hl:Nat.ble (o+k) cs.length=true:=by exact rfl)(h2:AV.agg ((cs.drop o).take k)=r:=by exact rfl):Fin P [.cell t T] r .ret ⟨fr,hp,nx,n⟩:=ed h hb he TG.h TS.h (r9 hl) h2 hc
theorem t_e{r0:AV}(hc:Closed r)(h:look fr t=some r0:=by exact rfl)(e:r0=r:=by exact rfl):Fin P [.tmp t] r .ret ⟨fr,hp,nx,n⟩:=a7 h e hc
end
end
theorem e_1{p:Prop}(h:p:=by repeat' (first|exact aV|refine aA rfl ?_ ?_|exact ao hs (bC n A L)|exact ao hs (aP (dp L))|exact aZ)):p:=h
theorem e_2{p:Prop}(h:p:=by repeat' (first|exact aV|refine aA rfl ?_ ?_|exact ao hs (aX af hcap)|exact aZ)):p:=h
theorem e_3{p:Prop}(h:p:=by repeat' (first|exact aV|refine aA rfl ?_ ?_|exact ao hs (a6 k)|exact ao hs hcc|exact aZ)):p:=h
theorem e_4{p:Prop}(h:p:=by repeat' (first|exact aV|refine aA rfl ?_ ?_|exact ao hs (dZ _)|exact ao hs (closed_mA _)|exact aZ)):p:=h
theorem e_5{p:Prop}(h:p:=by repeat' (first|exact aV|refine aA rfl ?_ ?_|exact ao hs (cY a b)|exact ao hs (cj [p] l g a b)|exact ao hs (bC 1 A L)|exact ao hs (dX a b gr)|exact ao hs (cO _)|exact ao hs (aw _)|exact aZ)):p:=h
theorem e_6{p:Prop}(h:p:=by repeat' (first|exact aV|refine aA rfl ?_ ?_|exact ao hs (aN (bt _ _ _))|exact ao hs (aw _)|exact ao hs (aN (dm _ _))|exact aZ)):p:=h
theorem e_7{p:Prop}(h:p:=by repeat' (first|exact aV|refine aA rfl ?_ ?_|exact ao hs (aN (bt _ _ _))|exact ao hs (aw _)|exact aZ)):p:=h
theorem e_8{p:Prop}(h:p:=by repeat' (first|exact aF|refine h_c ?_ ?_|exact bG|refine aB ?_|exact av|refine ai ?_ ?_|exact ao hs (aN (bt _ _ _))|exact ao hs (aw _)|exact aZ)):p:=h
theorem e_9{p:Prop}(h:p:=by repeat' (first|exact ShrL.nil|refine ShrL.cons rfl rfl rfl rfl (by first|(simp)|rfl|(simp;done)|(simp <;> omega)) ?_)):p:=h
theorem LU{p:Prop}(h:p:=by repeat' (first|exact aF|refine h_c ?_ ?_|exact bv hs (ac (bi c) af)|exact bG)):p:=h
theorem LS{p:Prop}(h:p:=by repeat' (first|exact aF|refine h_c ?_ ?_|exact bG|refine aB ?_|exact av|refine ai ?_ ?_|exact ao hs (dZ _)|exact ao hs (closed_mA _)|exact aZ)):p:=h
theorem LR{p:Prop}(h:p:=by repeat' (first|exact aF|refine h_c ?_ ?_|exact bG|refine aB ?_|exact av|refine ai ?_ ?_|exact ao hs (cY a b)|exact ao hs (cj [p] l g a b)|exact ao hs (bC 1 A L)|exact ao hs (dX a b gr)|exact ao hs (cO _)|exact ao hs (aw _)|exact aZ)):p:=h
theorem LQ{p:Prop}(h:p:=by repeat' (first|exact aV|refine aA rfl ?_ ?_|exact ao hs (closed_mA l)|exact ao hs (aw _)|exact aZ)):p:=h
theorem e_14{p:Prop}(h:p:=by repeat' (first|exact aF|refine h_c ?_ ?_|exact bG|refine aB ?_|exact av|refine ai ?_ ?_|exact ao hs (aX af hcap)|exact aZ)):p:=h
theorem e_15{p:Prop}(h:p:=by repeat' (first|exact aV|refine aA rfl ?_ ?_|exact ao hs (aN (bi q))|exact aZ)):p:=h
theorem e_16{p:Prop}(h:p:=by repeat' (first|exact aF|refine h_c ?_ ?_|exact bG|refine aB ?_|exact av|refine ai ?_ ?_|exact ao hs (aN (bi q))|exact aZ)):p:=h
theorem e_17{p:Prop}(h:p:=by repeat' (first|exact aV|refine aA rfl ?_ ?_|exact ao hs (cY a b)|exact ao hs (cj [p] l g a b)|exact ao hs (bC 1 A L)|exact ao hs (dX a b gr)|exact ao hs (cO _)|exact ao hs (aw _)|exact Cv.boxp hs rfl (aR rfl) rfl (bi _)|exact aZ)):p:=h
theorem e_18{p:Prop}(h:p:=by repeat' (first|exact aF|refine h_c ?_ ?_|exact bG|refine aB ?_|exact av|refine ai ?_ ?_|exact ao hs (aN (bt _ _ _))|exact ao hs (aw _)|exact ao hs (aN (dm _ _))|exact aZ)):p:=h
theorem e_19{p:Prop}(h:p:=by repeat' (first|exact aF|refine h_c ?_ ?_|(refine aM hs ?_ (cf _);rw[hI];exact hset _)|exact bG)):p:=h
theorem e_20{p:Prop}(h:p:=by repeat' (first|exact aF|refine h_c ?_ ?_|exact CvLL.nil|exact bG)):p:=h
theorem e_21{p:Prop}(h:p:=by repeat' (first|exact aF|refine h_c ?_ ?_|exact aB (CvL.clo hs hWc)|exact bv hs (aK _)|exact bG)):p:=h
theorem e_22{p:Prop}(h:p:=by repeat' (first|exact aF|refine h_c ?_ ?_|exact bv hs (aK _)|exact aB (CvL.clo hs (bi _))|exact bG)):p:=h
theorem e_23{p:Prop}(h:p:=by repeat' (first|exact aV|refine aA rfl ?_ ?_|exact ao hs (dx l)|exact aZ)):p:=h
theorem e_24{p:Prop}(h:p:=by repeat' (first|exact aV|refine aA rfl ?_ ?_|exact ao hs (cj k l g a b)|exact Cv.boxp hs rfl (aR rfl) rfl (ew _ _ _)|exact aZ)):p:=h
theorem e_25{p:Prop}(h:p:=by repeat' (first|exact aF|refine h_c ?_ ?_|exact bG|refine aB ?_|exact av|refine ai ?_ ?_|exact ao hs (cj k l g a b)|exact Cv.boxp hs rfl (aR rfl) rfl (ew _ _ _)|exact aZ)):p:=h
theorem e_26{p:Prop}(h:p:=by repeat' (first|exact aV|refine aA rfl ?_ ?_|exact ao hs (fK [p])|exact aZ)):p:=h
theorem e_27{p:Prop}(h:p:=by repeat' (first|exact aV|refine aA rfl ?_ ?_|exact ao hs (aw k)|exact ao hs hcc|exact aZ)):p:=h
theorem e_28{p:Prop}(h:p:=by repeat' (first|exact aV|refine aA rfl ?_ ?_|exact ao hs (bC n A L)|exact aZ)):p:=h
theorem e_29{p:Prop}(h:p:=by repeat' (first|exact aV|refine aA rfl ?_ ?_|exact ao hs (closed_mA k)|exact ao hs hcc|exact aZ)):p:=h
theorem e_30{p:Prop}(h:p:=by repeat' (first|exact aF|refine h_c ?_ ?_|(refine aM hs ?_ (cf _);rw[hv1];exact hset _)|exact bG)):p:=h
theorem e_31{p:Prop}(h:p:=by repeat' (first|exact aF|refine h_c ?_ ?_|(refine aM hs ?_ (cf _);exact hset _)|exact bG)):p:=h
theorem e_32{p:Prop}(h:p:=by repeat' (first|exact ShrL.nil|refine ShrL.cons rfl rfl rfl rfl (by first|(exact(congrArg List.length hcp).trans (by simp))|rfl|(simp;done)|(simp <;> omega)) ?_)):p:=h
theorem e_33{p:Prop}(h:p:=by repeat' (first|exact aF|refine h_c ?_ ?_|exact aM hs hcp (cf _)|exact bG)):p:=h
theorem e_34{p:Prop}(h:p:=by repeat' (first|exact aV|refine aA rfl ?_ ?_|exact Cv.sealE hs rfl (aR rfl) rfl (by simp;omega) (cf _)|exact aZ)):p:=h
theorem e_35{p:Prop}(h:p:=by repeat' (first|exact aF|refine h_c ?_ ?_|exact bG|refine aB ?_|exact av|refine ai ?_ ?_|exact Cv.sealE hs rfl (aR rfl) rfl (by simp;omega) (cf _)|exact aZ)):p:=h
theorem e_36{p:Prop}(h:p:=by repeat' (first|exact aF|refine h_c ?_ ?_|exact CvLL.zeros hs _|exact bG)):p:=h
theorem e_37{p:Prop}(h:p:=by repeat' (first|exact aF|refine h_c ?_ ?_|exact aM hs hst2 (aK _)|exact bG)):p:=h
theorem e_38{p:Prop}(h:p:=by repeat' (first|exact ShrL.nil|refine ShrL.cons rfl rfl rfl rfl (by first|rfl|(simp;done)|(simp[hX]<;> omega)) ?_)):p:=h
theorem e_39{p:Prop}(h:p:=by repeat' (first|exact aV|refine aA rfl ?_ ?_|exact aZ|(refine Cv.loE hs ?_ (ah _);first|rfl|(simp[i64,u64,u32,bln,hX];done)|(simp[i64,u64,u32,bln,hX]<;> omega)))):p:=h
theorem e_40{p:Prop}(h:p:=by repeat' (first|exact aF|refine h_c ?_ ?_|exact bG|(refine aM hs ?_ (dU _);first|(simp[px,oG,j7,hX];done)|(simp[iE,i64,ofV,hX];done))|refine aB ?_|exact av|refine ai ?_ ?_|exact aZ|(refine Cv.loE hs ?_ (ah _);first|(simp[i64,u64,u32,bln,hX];done)|(simp[i64,u64,u32,bln,hX]<;> omega)))):p:=h
theorem e_41{p:Prop}(h:p:=by repeat' (first|exact ShrL.nil|refine ShrL.cons rfl rfl rfl rfl (by first|(exact congrArg List.length hset)|rfl|(simp;done)|(simp <;> omega)) ?_)):p:=h
theorem e_42{p:Prop}(h:p:=by repeat' (first|exact aF|refine h_c ?_ ?_|exact aM hs e (dU _)|exact bG)):p:=h
theorem e_43{p:Prop}(h:p:=by repeat' (first|exact aV|refine aA rfl ?_ ?_|exact ao hs (aP (c9 l))|exact aZ)):p:=h
theorem e_44{p:Prop}(h:p:=by repeat' (first|exact aV|refine aA rfl ?_ ?_|exact ao hs hcc|exact ao hs (a6 k)|exact aZ)):p:=h
theorem e_45{p:Prop}(h:p:=by repeat' (first|exact aF|refine h_c ?_ ?_|exact bG|refine aB ?_|exact av|refine ai ?_ ?_|exact ao hs hcc|exact ao hs (a6 k)|exact aZ)):p:=h
theorem e_46{p:Prop}(h:p:=by repeat' (first|exact aV|refine aA rfl ?_ ?_|exact ao hs (a6 k)|exact ao hs (aw u)|exact aZ)):p:=h
theorem e_47{p:Prop}(h:p:=by repeat' (first|exact aF|refine h_c ?_ ?_|exact bG|refine aB ?_|exact av|refine ai ?_ ?_|exact ao hs (a6 k)|exact ao hs (aw u)|exact aZ)):p:=h
theorem e_48{p:Prop}(h:p:=by repeat' (first|exact aF|refine h_c ?_ ?_|exact bG|refine aB ?_|exact av|refine ai ?_ ?_|exact ao hs (a6 k)|exact ao hs hcc|exact aZ)):p:=h
theorem e_49{p:Prop}(h:p:=by repeat' (first|exact aV|refine aA rfl ?_ ?_|exact ao hs hcc|exact ao hs (closed_mA k)|exact aZ)):p:=h
theorem e_50{p:Prop}(h:p:=by repeat' (first|exact aF|refine h_c ?_ ?_|exact bG|refine aB ?_|exact av|refine ai ?_ ?_|exact ao hs hcc|exact ao hs (closed_mA k)|exact aZ)):p:=h
theorem e_51{p:Prop}(h:p:=by repeat' (first|exact aV|refine aA rfl ?_ ?_|(refine Cv.shut hs rfl (aR rfl) (by simp) ?_;exact aM hs (by rw[sr];exact nk (by simp)) (aK _))|exact aZ)):p:=h
theorem e_52{p:Prop}(h:p:=by repeat' (first|exact aF|refine h_c ?_ ?_|exact bG|refine aB ?_|exact av|refine ai ?_ ?_|(refine Cv.shut hs rfl (aR rfl) (by simp) ?_;exact aM hs (by rw[sr];exact nk (by simp)) (aK _))|exact aZ)):p:=h
theorem e_53{p:Prop}(h:p:=by repeat' (first|exact aV|refine aA rfl ?_ ?_|exact ao hs (a6 k)|exact ao hs (aw c)|exact aZ)):p:=h
theorem e_54{p:Prop}(h:p:=by repeat' (first|exact aF|refine h_c ?_ ?_|exact bG|refine aB ?_|exact av|refine ai ?_ ?_|exact ao hs (a6 k)|exact ao hs (aw c)|exact aZ)):p:=h
theorem e_55{p:Prop}(h:p:=by repeat' (first|exact aF|refine h_c ?_ ?_|exact bG|refine aB ?_|exact av|refine ai ?_ ?_|exact ao hs (fK [p])|exact aZ)):p:=h
theorem e_56{p:Prop}(h:p:=by repeat' (first|exact aF|refine h_c ?_ ?_|exact aM hs rfl (Fs _ _ _)|exact bG|refine aB ?_|exact av|refine ai ?_ ?_|exact ao hs (cY a b)|exact ao hs (cj [p] l g a b)|exact ao hs (bC 1 A L)|exact ao hs (dX a b gr)|exact ao hs (cO _)|exact ao hs (aw _)|exact Cv.boxp hs rfl (aR rfl) rfl (bi _)|exact aZ)):p:=h
theorem e_57{p:Prop}(h:p:=by repeat' (first|exact aV|refine aA rfl ?_ ?_|(refine Cv.shut hs rfl (aR rfl) (by simp) ?_;exact aM hs (by rw[sr];exact nk (by simp)) (cI _))|exact aZ)):p:=h
theorem e_58{p:Prop}(h:p:=by repeat' (first|exact aF|refine h_c ?_ ?_|exact bG|refine aB ?_|exact av|refine ai ?_ ?_|(refine Cv.shut hs rfl (aR rfl) (by simp) ?_;exact aM hs (by rw[sr];exact nk (by simp)) (cI _))|exact aZ)):p:=h
theorem e_59{p:Prop}(h:p:=by repeat' (first|exact aV|refine aA rfl ?_ ?_|(refine Cv.loE hs ?_ (ah _);simp[i64];done)|exact aZ)):p:=h
theorem e_60{p:Prop}(h:p:=by repeat' (first|exact aF|refine h_c ?_ ?_|exact bG|refine aB ?_|exact av|refine ai ?_ ?_|exact ao hs (closed_mA l)|exact ao hs (aw _)|exact aZ)):p:=h
theorem e_61{p:Prop}(h:p:=by repeat' (first|exact aF|refine h_c ?_ ?_|exact bv hs (cI _)|exact bG|refine aB ?_|exact av|refine ai ?_ ?_|exact ao hs (closed_mA l)|exact ao hs (aw _)|exact aZ)):p:=h
theorem e_62{p:Prop}(h:p:=by repeat' (first|exact aV|refine aA rfl ?_ ?_|exact ao hs (aN (bt _ _ _))|exact ao hs (aN (bh _ _))|exact ao hs (aw _)|exact aZ)):p:=h

section
variable {k:Nat}{Q:Exit->Nat->Bool->AState->Prop}
section
variable {P:Program}{l N:Nat}{T:Nat->Option La}{E:GEnv P l T N}
def GLs(E:GEnv P l T N)(ops:Array Oper)(Q:Exit->Nat->Bool->AState->Prop)(tail:List Oper)(j nx n k:Nat)(go:Bool)(fr:Fr)(hp:Hp):Prop:=
 ∀(a:Act) (w:World) (M G:Nat->Prop) (hj:E.J k go M G w),FRel M (gq w G (E.gk hj)) (look fr) (ap hp) (λi=>nx+j<=i) n a w->
  wpListIn (FR none) 0 P ops (λe a' w'=> ∃k' go' st',GRel E k' go' st' a' w'/\Q e k' go' st') tail a w
theorem GLs.fin {ops:Array Oper} {tail:List Oper} {j nx n n1:Nat} {go:Bool} {fr:Fr} {hp:Hp} (hsz:j+tail.length=n1)
    (h:AR P ops nx n j tail fr hp λ_ f' h'=>Q .normal k go ⟨f',h',nx+n1,n⟩):GLs E ops Q tail j nx n k go fr hp:=by
 intro a w M G p t;obtain⟨us,d,c,r⟩:=h;have m:=jK _ j _ _ _ c;have b:=kQ (P:=P) (ops:=ops) (ρ:=none) (M0:=M) (w0:=gq w G (E.gk p)) (nx:=nx) (Q:=λe s q=> ∃o g l,GRel E o g l s q/\Q e o g l) [] tail j ⟨fr,hp,nx,n⟩ d us a w c t λu v f=>?_;rw[Ng] at b;exact b;refine⟨k,go,⟨d.fr,d.hp,nx+n1,n⟩,GRel.go_on p ?_,r⟩;rw[m] at f;refine f.free λi (hi:nx+n1<=i)=>?_;omega
theorem GLs.yield {ops:Array Oper} {tail:List Oper} {j nx n nx2 d:Nat} {fr fr2:Fr} {hp hp2:Hp} (m:Nat) {o:Oper} (ho:tail[m]?=some o) {cc:Call} {f:Operand} {as:La} (hop:o.op= .call cc) (hd:o.dst=some d) (hf:cc.callee= .value f)
    (hg:o.guard=none\/∃g t,o.guard=some (g,true)/\ops[g]?.bind (·.dst)=some t/\evF (look fr2) (.tmp t)=some (.v (.bool true)))
    (h:AR P ops nx n j (tail.take m) fr hp λ_ f1 h1=>SEntT ⟨f1,h1,nx+(j+m),n⟩ ⟨fr2,hp2,nx2,n⟩) (hdn:Nat.blt d n=true)
    (hev:evF (look fr2) f=some (.v (.func (.yield l) #[] #[]))) (has:evs (evF (look fr2)) cc.args.toList=some as) (hT:T k=some (as.map coe)) (hcl:∀a∈as.map coe,Closed a)
    (h3:∀go,GLs E ops Q (tail.drop (m+1)) (j+m+1) nx2 n (k+1) go ((d,.v (.bool go))::fr2) hp2):GLs E ops Q tail j nx n k true fr hp:=by
 have W:m< tail.length:=(jY.1 ho).1
 have H:tail=tail.take m++o::tail.drop (m+1):=by
  rw[<-(jY.1 ho).2,<-DA W,KO]
 intro a w M G N hr;rw[H];obtain⟨us,R,r,F⟩:=h;have J:=jK _ j _ _ _ r;simp only at J;refine kQ (M0:=M) (w0:=gq w G (E.gk N)) (ρ:=none) _ _ j ⟨fr,hp,nx,n⟩ R us a w r hr λA p z=>?_;have X:(tail.take m).length=m:=by rw[yv];omega
 rw[X,J] at z;have C:TRel M (gq w G (E.gk N)) ⟨fr2,hp2,nx2,n⟩ A p:=F M _ A p z;have hb:=z.choose_spec.1.below;have U:GStep G (λb=>(G b\/w.heap.size<=b)/\b< p.heap.size) w p:=⟨hb.os,hb.tape,hb.output,hb.size,λb h1 B=>hb.block b ⟨h1,B⟩,hb.sizes,λb h=>h⟩;have q:=E.ok _ _ _ _ _ _ _ N U
 have hr3:TRel M (gq p (λb=>(G b\/w.heap.size<=b)/\b< p.heap.size) (E.gk q)) ⟨fr2,hp2,nx2,n⟩ A p:=by
  obtain⟨β,e,h1,B,h3,⟨Ds,h4,h5,h6⟩,h7⟩:=C
  have L:∀b,b< p.heap.size->¬(gq w G (E.gk N)).K b->¬(gq p (λb=>(G b\/w.heap.size<=b)/\b< p.heap.size) (E.gk q)).K b:=by
   rintro b O hk ⟨_,hn⟩;refine hn ⟨?_,O⟩;by_cases hG:G b;exact .inl hG;exact .inr (Ez λX=>hk ⟨X,hG⟩)
  refine⟨β,e.rebase (gq p _ (E.gk q)) rfl (λb hb=>?_) (λi b s Y=>L b (e.rng i b s Y).2 (e.rng i b s Y).1) e.pin,h1,λt x Z=>B t x Z,h3,⟨Ds,h4,h5,λD hD=>?_⟩,h7⟩;have:=(e.m0 b hb).1;exact⟨ns this.1 e.below.size,λhG=>hG.1.elim this.2 λh=>by have:=this.1;omega⟩;obtain⟨h8,h9⟩:=h6 D hD;exact⟨h8,L D (sk.1 h8).1 h9⟩
 have hw:Region.wanted o (yielded ops A.tmps)=true:=by
  rcases hg with hg|⟨g,t,hg,ht,Z⟩
  simp[Region.wanted,hg];obtain⟨β,e,h1,B,_⟩:=C;have c:A.tmps.getD t undef= .bool true:=fG B (.tmp t) _ Z
  have V:yielded ops A.tmps g=some true:=by
   simp only[yielded,ht,zL];cases htt:A.tmps[t]? with
   |none=>
    rw[oj,htt] at c;cases c
   |some y=>
    rw[oj,htt] at c;simp only[M8] at c;subst c;rfl
  simp only[Region.wanted,hg,V,beq_iff_eq]
 refine wpListIn_step λK L=>?_;rw[if_pos hw];refine Bf (E:=E) (st:=⟨fr2,hp2,nx2,n⟩) hop hd (r9 hdn) hf hev has hT hcl q hr3 λgo a2 w2 u=>L a2 w2 ?_;obtain⟨M4,G4,S,u⟩:=u;exact h3 go a2 w2 M4 G4 S (FRel.free u λi Y=>by show nx2<=i;omega)
theorem GWp.cutT{α:Type}{x y:Code}{go:Bool}{st:AState}(S:α->AState)(Post:α->Prop)(h:AWp none P x (L5 S Post λ_ _=>False) st)(h2:∀a,Post a->GWp E y Q k go (S a)):GWp E x (Jg (GWp E y Q) Q) k go st:=
 GWp.lift (AWp.mono h λe s hs=>by
  cases e with
  |normal=>obtain⟨a,c,b⟩:=hs;exact GWp.ent b (h2 a c)
  |_=>exact hs.elim)
end
end
section
variable {l l0:List (Ln×Ln)}{x:Nat}
def mxB(T sz:Nat):List Lc->Nat->Hp
 |[],_=>[]
 |e::l,i=>(i,some ⟨T,sz,e⟩)::mxB T sz l (i+1)
theorem qE{T sz:Nat}:∀(L:List Lc) (i j:Nat) (B:ABlk),(j,some B)∈mxB T sz L i->∃k e,L[k]?=some e/\j=i+k/\B=⟨T,sz,e⟩
 |[],_,_,_,h=>by cases h
 |e::l,i,j,B,h=>by
  rcases pY.1 h with h|h
  cases h;exact⟨0,e,rfl,rfl,rfl⟩;obtain⟨k,b,d,c,a⟩:=qE l (i+1) j B h;exact⟨k+1,b,φ,ω,a⟩
theorem uG{T sz:Nat}:∀(L:List Lc) (i j:Nat),j∈(mxB T sz L i).map (·.1)->i<=j/\j< i+L.length
 |[],_,_,h=>by cases h
 |e::l,i,j,h=>by
  rcases pY.1 h with h|h
  subst h;exact⟨ir _,ψ⟩;have:=uG l (i+1) j h;grind
theorem GC{T sz:Nat}:∀(L:List Lc) (i k:Nat) (e:Lc),L[k]?=some e->ap (mxB T sz L i) (k+i)=some ⟨T,sz,e⟩
 |[],_,_,_,h=>by cases h
 |a::l,i,k,e,h=>by
  rw[mxB,dw];unfold upd;cases k with
  |zero=>grind
  |succ k=>
   have:=GC (T:=T) (sz:=sz) l (i+1) k e φ;grind
def mxH(TS TQ:Nat)(o:Lc)(L:List Lc):Hp:=(1,some ⟨TS,1,o⟩)::mxB TQ 4 L 2
theorem xm{r:Ren}{hp hp':Hq}:∀l:Hp,(∀i B,(i,some B)∈l->i< r.n/\∃B0,hp (r.s i)=some B0/\B0.ty=B.ty/\B0.sz=B.sz/\CvLL r hp hp' B0.es B.es)->CvH r hp hp' l
 |[],_=>trivial
 |(i,none)::l,h=>⟨trivial,xm l λj B a=>h j B (lQ _ a)⟩
 |(i,some B)::l,h=>⟨h i B (mu ..),xm l λj B a=>h j B (lQ _ a)⟩
theorem uN{r:Ren}:∀l:Ln,(∀i j,i∈l->j∈l->r.s i=r.s j->i=j)->nN r l=true
 |[],_=>rfl
 |a::l,h=>by
  rw[nN,sj,pZ];refine⟨λj b=>?_,uN l λi j c b=>h i j (lQ _ c) (lQ _ b)⟩;by_cases e:r.s a=r.s j;have:=h a j (mu ..) (lQ _ b) e;rw[this];simp
  have:Nat.beq (r.s a) (r.s j)=false:=by
   cases hb:Nat.beq (r.s a) (r.s j) with
   |false=>rfl
   |true=>simp_all
  grind
theorem SEnt.mx {fr fr':Fr} {hp:Hp} {nx N TS TQ:Nat} (s:Nat->Nat) (o o':Lc) (L:List Lc) (hL:L.length<=30) (s0:s 0=0) (hinj:∀i j,1<=i->i< L.length+2->1<=j->j< L.length+2->s i=s j->i=j)
    (h1:ap hp (s 1)=some ⟨TS,1,o'⟩) (ho:o'.length=o.length) (hr:∀i e,L[i]?=some e->ap hp (s (i+2))=some ⟨TQ,4,e⟩/\∀x∈e,∀c∈x,Closed c)
    (hO:Shr ⟨40,s⟩ (ap hp) (ap (mxH TS TQ o L))->CvLL ⟨40,s⟩ (ap hp) (ap (mxH TS TQ o L)) o' o)
    (hF:Shr ⟨40,s⟩ (ap hp) (ap (mxH TS TQ o L))->CvF ⟨40,s⟩ (ap hp) (ap (mxH TS TQ o L)) fr fr'):SEnt ⟨fr,hp,nx,N⟩ ⟨fr',mxH TS TQ o L,40,N⟩:=by
 have a:∀i B,(i,some B)∈mxH TS TQ o L->(i=1/\B=⟨TS,1,o⟩)\/∃k e,L[k]?=some e/\i=k+2/\B=⟨TQ,4,e⟩:=λi B h=>by
  rcases pY.1 h with h|h
  cases h;exact .inl ⟨rfl,rfl⟩;obtain⟨k,e,b,m,n⟩:=qE L 2 i B h;grind
 have f:Shr ⟨40,s⟩ (ap hp) (ap (mxH TS TQ o L)):=⟨λi B h=>by
  rcases a i B (iA h) with⟨rfl,rfl⟩|⟨k,e,b,rfl,rfl⟩
  exact⟨(show 1< 40 by decide),_,h1,rfl,rfl,ho⟩;grind⟩
 refine SEnt.intro (st:=⟨fr,hp,nx,N⟩) (st':=⟨fr',mxH TS TQ o L,40,N⟩) ⟨40,s⟩ rfl (show 0< 40 by decide) s0 (uN _ λi j d l e=>?_) rfl (hF f) (xm _ λi B h=>?_)
 have g:∀i,i∈(mxH TS TQ o L).map (·.1)->1<=i/\i< L.length+2:=λi d=>by
  rcases pY.1 d with h|h
  have h:i=1:=h;omega;have:=uG L 2 i h;omega
 exact hinj i j (g i d).1 (g i d).2 (g j l).1 (g j l).2 e;rcases a i B h with⟨rfl,rfl⟩|⟨k,e,b,rfl,rfl⟩
 exact⟨(show 1< 40 by decide),_,h1,rfl,rfl,hO f⟩;exact⟨φ,_,(hr k e b).1,rfl,rfl,bv f (hr k e b).2⟩
def mxO(w:Nat)(s:Nat->Nat)(n:Nat):Lc:=(List.range n).map λi=>[.lsl (s (i+2)) 0 w none 4]
@[simp] theorem mxO_length (w:Nat)(s:Nat->Nat)(n:Nat):(mxO w s n).length=n:=by simp[mxO]
theorem Dy{r:Ren}{hp hp':Hq}{α:Type}(f g:α->La):∀l:List α,(∀a∈l,CvL r hp hp' (f a) (g a))->CvLL r hp hp' (l.map f) (l.map g)
 |[],_=>CvLL.nil
 |a::l,h=>CvLL.cons (h a (mu ..)) (Dy f g l λb hb=>h b (lQ _ hb))
def lessF:List (Ln×Ln)->List (Ln×Ln)->Prop
 |[],[]=>True
 |(w,r)::l,(w0,r0)::l0=>w=w0/\(∀k∈w,40<=k)/\(∀x∈r,x∈r0\/x< 40)/\lessF l l0
 |_,_=>False
theorem lessF.nil:lessF [] []:=trivial
theorem lessF.cons{w w0 r r0:Ln}(h1:w=w0)(h2:∀k∈w,40<=k)(h3:∀x∈r,x∈r0\/x< 40)(h4:lessF l l0):lessF ((w,r)::l) ((w0,r0)::l0):=⟨h1,h2,h3,h4⟩
theorem lessF.zz(h:lessF l l0):lessF (([],[])::l) (([],[])::l0):= .cons rfl (λk a=>absurd a NZ) (λk a=>absurd a NZ) h
theorem lessF.rd(hx:x< 40)(h:lessF l l0):lessF (([],[x])::l) (([],[])::l0):= .cons rfl (λk a=>absurd a NZ) (λk a=> .inr φ) h
theorem lessF.al{y:Nat}(e:x=y)(hx:40<=x)(h:lessF l l0):lessF (([x],[])::l) (([y],[])::l0):= .cons (by rw[e]) (λk a=>φ) (λk a=>absurd a NZ) h
theorem lessF.st{y:Nat}(e:x=y)(hx:40<=x)(h:lessF l l0):lessF (([x],[x])::l) (([y],[y])::l0):= .cons (by rw[e]) (λk a=>φ) (λk a=> .inl φ) h
theorem wj:∀(l l0:List (Ln×Ln)) (i:Nat),lessF l l0->(l.getD i ([],[])).1=(l0.getD i ([],[])).1/\(∀k∈(l.getD i ([],[])).1,40<=k)/\∀x∈(l.getD i ([],[])).2,x∈(l0.getD i ([],[])).2\/x< 40
 |[],[],i,_=>⟨rfl,(λk a=>φ),λx b=>by grind⟩
 |(w,r)::l,(w0,r0)::l0,0,⟨h1,h2,h3,_⟩=>⟨h1,h2,h3⟩
 |(w,r)::l,(w0,r0)::l0,i+1,⟨_,_,_,h⟩=>by
  have:=wj l l0 i h;grind
 |[],_::_,_,h=>h.elim
 |_::_,[],_,h=>h.elim
theorem vZ{ops:Array Oper}{fps fps0:List (Ln×Ln)}(h:lR ops fps0=true)(hl:lessF fps fps0):lR ops fps=true:=by
 have q:∀{a b:Nat},a≠b->(!Nat.beq a b)=true:=fun{a b} e=>by
  cases hb:Nat.beq a b with
  |false=>rfl
  |true=>exact absurd (Nb hb) e
 unfold lR at h⊢;rw[sj] at h⊢;refine⟨h.1,?_⟩;have c:=h.2;simp only at c⊢;rw[pZ] at c⊢;intro j w;have m:=c j w;rw[pZ] at m⊢;intro i u;have l:=m i u;rw[Nu] at l⊢;refine l.imp id λf=>?_;obtain⟨n,y,A⟩:=wj fps fps0 i hl;obtain⟨b1,b2,p⟩:=wj fps fps0 j hl;unfold pc at f⊢;simp only[sj] at f⊢;obtain⟨⟨⟨⟨r,s⟩,t⟩,o⟩,B⟩:=f;refine⟨⟨⟨⟨r,s⟩,t⟩,?_⟩,?_⟩;rw[n,b1];rw[pZ] at o⊢;intro k g;have d:=o k g;rw[sj] at d⊢;refine⟨?_,d.2⟩;have d1:=d.1;rw[pZ] at d1⊢;intro x v;rcases p x v with e|e
 exact d1 x e;exact q (λz=>by have:=y k (by rw[n];exact g);omega);grind
end
end Go.Abs
namespace Go.Abs
open Go.RowKit
section
variable {ty sz t t2:Nat}{v:Value}{es:Lc}
structure OTSpec (P:Program)(f:Nat)(args:La)(ty sz:Nat)(es:Lc)(v:Value):Prop where
 sz0:sz≠0
 cl:∀a∈args,Closed a
 enters:∀(xs:Array Value) (w:World),(callFunc f xs).run P w= .ok (.enter f xs) w
 calls:∀(M:Nat->Prop) (w:World) (vals:List Value),Fit M w->RVs M (λ_=>none) w args vals->
  Calls P f vals.toArray w λx w'=> ∃b c,x= .returned (.tuple #[.slice (some ⟨b,0,none⟩) es.length c,v])/\w.heap.size<=b/\b< w'.heap.size/\es.length<=c/\c<=maxLen/\(∃cs,w'.heap[b]?=some (.cells cs ty (0,0))/\RVess (λx=>M x\/x=b) (λ_=>none) w' b sz es 0/\c* sz<=cs.size)/\Below w.heap.size w w'
theorem OTSpec.intro {P:Program} {f:Nat} {fn:Func} {c:Code} {args:La} (hf:P.funcs[f]?=some fn) (hb:fn.body=some c) (hname:(fn.name== "runtime.NumGoroutine")=false) (hrs:fn.results.toList=[.tmp t,.tmp t2]) (hcl:∀a∈args,Closed a) (hce:∀x∈es,∀c∈x,Closed c) (hn:args.length<=fn.ntmps)
    (h:AWp none P c (λx st=>(x= .normal\/x= .ret)/\(∃i cap,look st.fr t=some (.lsl i 0 es.length cap sz)/\ap st.hp i=some ⟨ty,sz,es⟩)/\look st.fr t2=some (.v v)) ⟨dA 0 args,[],1,fn.ntmps⟩) (hz:Nat.blt 0 sz=true:=by rfl):OTSpec P f args ty sz es v:=by
 refine⟨j0 hz,hcl,λxs w=>?_,λM w vals hM hargs=>?_⟩;have hname':¬fn.name= "runtime.NumGoroutine" :=φ
 simp[callFunc,hf,hname',hb];refine(callsIn_wide (n:=0)).1 (callsIn_of_wp_marks (F:=Fence.wide) hf hb trivial ?_);have hlen:=hargs.length
 have hrel:jT M (Base.of w hM.tab) ⟨dA 0 args,[],1,fn.ntmps⟩ {tmps:=vals.toArray++Array.replicate (fn.ntmps- vals.toArray.size) undef,defers:=[]} w:=by
  refine⟨λ_=>none,⟨⟨rfl,rfl,rfl,ir _,λ_ _=>rfl,λ_ _ h=>h⟩,(λb hb=>⟨hM.lt b hb,λe=>hM.nt (e▸hb)⟩),(λ_ _ _ h=>by cases h),(λ_=>rfl),(λ_ _ h=>by cases h),(λ_ _ _ _ _ _ _ h=>ψ)⟩,φ,λt x hx=>?_,λi (hi:1<=i)=>⟨rfl,ω⟩,⟨[],rfl,E9,ψ⟩⟩;have hmm:MM M (λ_=>none) (ap [])=M:=by funext b;simp[MM,ap,look]
  show RV (MM M (λ_=>none) (ap [])) _ _ _ _;rw[hmm,cN rfl];obtain⟨_,y,h1,h2⟩:=gC hargs hx
  have hy:(vals.toArray++Array.replicate (fn.ntmps- vals.toArray.size) undef).getD t undef=y:=by
   have hlt:t< vals.length:=φ
   rw[oj,zr φ];grind
  grind
 refine wpIn_mono (h M (Base.of w hM.tab) _ w hrel) λx a' w' ⟨st',⟨β,mem,hsz,hfr,hfree,Ds,hds,hnd,hD⟩,he,⟨i,cap,hlk,hbk⟩,hlk2⟩=>?_
 have hres:ni P fn.results.toList st' .any:=by
  rw[hrs];exact⟨[_,_],⟨_,[_],rfl,hlk,⟨_,[],rfl,hlk2,rfl⟩⟩,λ_ _ _ _ _ _ _=>trivial⟩
 have hL:LeavesInM (FR none) 0 P fn a'.tmps (λx w'=> ∃b c,x= .returned (.tuple #[.slice (some ⟨b,0,none⟩) es.length c,v])/\w.heap.size<=b/\b< w'.heap.size/\es.length<=c/\c<=maxLen/\(∃cs,w'.heap[b]?=some (.cells cs ty (0,0))/\RVess (λx=>M x\/x=b) (λ_=>none) w' b sz es 0/\c* sz<=cs.size)/\Below w.heap.size w w') a'.defers .returning w':=by
  rw[hds];refine iN hres (λy w'' _ h2 h3 h4=>?_) Ds w' hnd hD mem (λt x hx=>by have:=hfr t x hx;rwa[cN rfl] at this);obtain⟨b,c,e1,e2,e3,e4,e5,N,e6,e7⟩:=h3 t _ hlk;have g2:a'.tmps.getD t2 undef=v:=h3 t2 _ hlk2;obtain⟨b',cs,f1,f2,f3,f4⟩:=h2.cells hbk (j0 hz);rw[e1] at f1;cases f1;have hr:=h2.rng i b _ e1
  have hy:y= .tuple #[.slice (some ⟨b,0,none⟩) es.length c,v]:=by
   have hm:(fn.results.mapM (iJ a'.tmps)).run P w''= .ok #[a'.tmps.getD t undef,a'.tmps.getD t2 undef] w'':=by
    rw[KN,hrs];rfl
   have he:results fn a'.tmps=(do let vs<-fn.results.mapM (iJ a'.tmps);pure (if h:vs.size=1 then vs[0] else .tuple vs)):=rfl;rw[he,Sem.run_bind,hm] at h4;have h5:(Result.ok (.tuple #[a'.tmps.getD t undef,a'.tmps.getD t2 undef]) w'':Result Value)= .ok y w'':=h4;cases h5;rw[e2,g2];simp
  refine⟨b,c,by rw[hy],Ez hr.1,hr.2,e3,e4,⟨cs,f2,?_,?_⟩,⟨h2.below.os,h2.below.tape,h2.below.output,h2.below.size,h2.below.block⟩⟩;refine StabC.ess (w:=w'') (w':=w'') (M:=MM M β (ap st'.hp)) (β:=λ_=>none) ⟨λ_ _ _ _=>rfl,λx _ _ hx=>?_,(λ_ _ h=>by cases h),λ_ _ h=>h⟩ rfl (iH hce f3);rcases hx with hx|rfl
  exact .inl hx;exact .inr ⟨i,_,_,hbk,e1⟩;simp[aY,f2] at e6;rw[e6];simpa using e7
 rcases he with rfl|rfl
 exact hL;exact hL
def FinOT(t t2 ty sz:Nat)(es:Lc)(v:Value)(x:Exit)(st:AState):Prop:=(x= .normal\/x= .ret)/\(∃i cap,look st.fr t=some (.lsl i 0 es.length cap sz)/\ap st.hp i=some ⟨ty,sz,es⟩)/\look st.fr t2=some (.v v)
theorem FinOT.tmp{fr:Fr}{hp:Hp}{nx n i k:Nat}{cap:Option Nat}{es':Lc}(h:look fr t=some (.lsl i 0 k cap sz))(hb:ap hp i=some ⟨ty,sz,es⟩)(he:es=es')(hk:k=es'.length)(h2:look fr t2=some (.v v)):FinOT t t2 ty sz es' v .ret ⟨fr,hp,nx,n⟩:=
 ⟨.inr rfl,⟨i,cap,φ,φ⟩,h2⟩
theorem OTSpec.enter {P:Program} {f:Nat} {fn:Func} {c:Code} {args:La} (hf:P.funcs[f]?=some fn) (hb:fn.body=some c) (hname:(fn.name== "runtime.NumGoroutine")=false) (hrs:fn.results.toList=[.tmp t,.tmp t2]) {m:Nat} (hm:fn.ntmps=m) (hn:Nat.ble args.length m=true)
    (hcl:∀a∈args,Closed a) (hce:∀x∈es,∀c∈x,Closed c) {fr:Fr} (hfr:dA 0 args=fr) (h:AWp none P c (FinOT t t2 ty sz es v) ⟨fr,[],1,m⟩) (hz:Nat.blt 0 sz=true:=by rfl):OTSpec P f args ty sz es v:=by
 subst hm hfr;exact OTSpec.intro hf hb hname hrs hcl hce (nle hn) h hz
section
variable {P:Program}{id:Nat}{ev:Operand->Option AV}{hp:Hq}
end
end
end Go.Abs
namespace Go.Abs
section
variable {P:Program}{id:Nat}{ev:Operand->Option AV}{hp:Hq}{T:Nat}{x lo hi:Operand}{es es':Lc}{kl kh:IntKind}{zl zh:Int}{l h:Nat}{d:Nat×Nat}
theorem AEval.sa_hE(e:es.take h=es')(hx:ev x=some (.arr es))(h2:ev hi=some (.v (.int kh zh)))(e2:zh=(h:Int))(hl:h<=es.length)(he:eQ P T=some d)(hel:∀e∈es,e.length=d.2):
    AEval P id ev hp (.slice T x none (some hi) none) ⟨.arr es',[]⟩ []:=by
 subst e;exact .sa_h hx h2 e2 hl he hel
end
end Go.Abs
namespace Go.Abs
open Go.RowKit
structure XSpec (P:Program)(f:Nat)(args:La)(hp:Hp)(nx:Nat)(v:AV)(hp':Hp)(nx':Nat):Prop where
 enters:∀(xs:Array Value) (w:World),(callFunc f xs).run P w= .ok (.enter f xs) w
 calls:∀(M:Nat->Prop) (w0:Base) (β:Bq) (vals:List Value),w0.gh=(λ_=>undef)->Mem M w0 β (ap hp) w0.w->(∀i,nx<=i->β i=none/\i≠0)->RVs (MM M β (ap hp)) β w0.w args vals->
  Calls P f vals.toArray w0.w λx w'=> ∃y β',x= .returned y/\Mem M w0 β' (ap hp') w'/\RV (MM M β' (ap hp')) β' w' v y/\∀i,nx'<=i->β' i=none/\i≠0
def FinX(t:Nat)(v:AV)(hp':Hp)(nx' n:Nat)(x:Exit)(st:AState):Prop:=(x= .normal\/x= .ret)/\SEnt st ⟨[(t,v)],hp',nx',n⟩
theorem FinX.of{fr:Fr}{hp hp':Hp}{nx nx' n t:Nat}{v:AV}(h:SEnt ⟨fr,hp,nx,n⟩ ⟨[(t,v)],hp',nx',n⟩):FinX t v hp' nx' n .ret ⟨fr,hp,nx,n⟩:=⟨.inr rfl,h⟩
theorem XSpec.enter {P:Program} {f:Nat} {fn:Func} {c:Code} {t nx nx':Nat} {v:AV} {hp hp':Hp} {args:La} (hf:P.funcs[f]?=some fn) (hb:fn.body=some c) (hname:(fn.name== "runtime.NumGoroutine")=false) (hrs:fn.results.toList=[.tmp t]) {m:Nat} (hm:fn.ntmps=m) (hn:Nat.ble args.length m=true)
    (ht:Nat.ble t 999=true) {fr:Fr} (hfr:dA 0 args=fr) (h:AWp none P c (FinX t v hp' nx' m) ⟨fr,hp,nx,m⟩):XSpec P f args hp nx v hp' nx':=by
 subst hm hfr;have hn:=r9 hn;refine⟨λxs w=>?_,λM w0 β vals hgh mem hfree hargs=>?_⟩;have hname':¬fn.name= "runtime.NumGoroutine" :=φ
 simp[callFunc,hf,hname',hb];refine(callsIn_wide (n:=0)).1 (callsIn_of_wp_marks (F:=Fence.wide) hf hb trivial ?_);have hlen:=hargs.length
 have hrel:jT M w0 ⟨dA 0 args,hp,nx,fn.ntmps⟩ {tmps:=vals.toArray++Array.replicate (fn.ntmps- vals.toArray.size) undef,defers:=[]} w0.w:=by
  refine⟨β,mem,φ,λt x hx=>?_,hfree,⟨[],rfl,E9,ψ⟩⟩;rw[cN hgh]
  have key:∀{as:La} {vs:List Value} {i t:Nat} {x:AV},RVs (MM M β (ap hp)) β w0.w as vs->look (dA i as) t=some x->i<=t/\∃y,vs[t- i]?=some y/\RV (MM M β (ap hp)) β w0.w x y:=by
   intro as
   induction as with
   |nil=>intro vs i t x _ h;cases h
   |cons a as ih=>
    rintro vs i t x ⟨y,ys,e,h1,h2⟩ h;subst e;simp only[dA] at h;rw[b8] at h;unfold upd at h;grind
  obtain⟨_,y,h1,h2⟩:=key hargs hx
  have hy:(vals.toArray++Array.replicate (fn.ntmps- vals.toArray.size) undef).getD t undef=y:=by
   have hlt:t< vals.length:=φ
   rw[oj,zr φ];grind
  grind
 refine wpIn_mono (h M w0 _ w0.w hrel) λx a' w' ⟨st',hst,he,hent⟩=>?_;obtain⟨β',mem',hsz,hfr,hfree',Ds,hds,hnd,hD⟩:=hent M w0 a' w' hst;have hv:look ([(t,v)]:Fr) t=some v:=by rw[b8];exact bq _ _ _
 have hres:ni P fn.results.toList ⟨[(t,v)],hp',nx',fn.ntmps⟩ .any:=by
  rw[hrs];exact⟨[_],⟨_,[],rfl,hv,rfl⟩,λ_ _ _ _ _ _ _=>trivial⟩
 have hL:LeavesInM (FR none) 0 P fn a'.tmps (λx w'=> ∃y β',x= .returned y/\Mem M w0 β' (ap hp') w'/\RV (MM M β' (ap hp')) β' w' v y/\∀i,nx'<=i->β' i=none/\i≠0) a'.defers .returning w':=by
  rw[hds];refine iN (st:=⟨[(t,v)],hp',nx',fn.ntmps⟩) hres (λy w'' _ h2 h3 h4=>?_) Ds w' hnd hD mem' (λt x hx=>by have:=hfr t x hx;rwa[cN hgh] at this)
  have hy:y=a'.tmps.getD t undef:=by
   have hm:(fn.results.mapM (iJ a'.tmps)).run P w''= .ok #[a'.tmps.getD t undef] w'':=by
    rw[KN,hrs];rfl
   have he:results fn a'.tmps=(do let vs<-fn.results.mapM (iJ a'.tmps);pure (if h:vs.size=1 then vs[0] else .tuple vs)):=rfl;rw[he,Sem.run_bind,hm] at h4;have h5:(Result.ok (a'.tmps.getD t undef) w'':Result Value)= .ok y w'':=h4;cases h5;rfl
  exact⟨y,β',rfl,h2,by rw[hy];exact h3 t v hv,hfree'⟩
 rcases he with rfl|rfl
 exact hL;exact hL
theorem pm{M M':Nat->Prop}{β β':Bq}{w w':World}{x:AV}{y:Value}(hc:Closed x)(h:RV M β w x y)(h1:∀b N,aY w b=some N->¬M b->w'.heap[b]?=w.heap[b]?)(h2:∀b N,aY w b=some N->M' b->M b)(h3:∀b n,aY w b=some n->aY w' b=some n):RV M' β' w' x y:=by
 have d:RVs M (λ_=>none) w [x] [y]:=dG (λa ha=>φ) ⟨_,_,rfl,h,rfl⟩;have c:RVs M' β' w' [x] [y]:=StabC.vs ⟨h1,h2,(λ_ _ h=>by cases h),h3⟩ d;obtain⟨z,f,e,r,_⟩:=c;grind
theorem AWp.regX {P:Program} {ρ:Option Nat} {Q:Exit->AState->Prop} {ops:Array Oper} {id n nx n1 nx2 nx3 d g:Nat} {fr fr2 fr3:Fr} {hp hp2 hp3:Hp} {v:AV} (jj:Nat) {o:Oper} (ho:ops.toList[jj]?=some o) {cc:Call} {f:Operand} {as:La} (hop:o.op= .call cc) (hg:o.guard=none) (hd:o.dst=some d) (hf:cc.callee= .value f) (hsz:ops.size=n1)
    (h:AR P ops nx n 0 (ops.toList.take jj) fr hp λ_ f1 h1=>SEntT ⟨f1,h1,nx+jj,n⟩ ⟨fr2,hp2,nx2,n⟩) (hdn:Nat.blt d n=true)
    (hev:evF (look fr2) f=some (.clos g [] [])) (has:evs (evF (look fr2)) cc.args.toList=some as) (hX:XSpec P g (as.map coe) hp2 nx2 v hp3 nx3) (h30:∀t x,look fr3 t=some x->look fr2 t=some x/\Closed x) (hlo:∀t x,look fr3 t=some x->t< 1000)
    (h3:AR P ops nx3 n (jj+1) (ops.toList.drop (jj+1)) ((d,v)::fr3) hp3 λ_ f' h'=>Q .normal ⟨f',h',nx3+n1,n⟩):AWp ρ P (.region id ops false) Q ⟨fr,hp,nx,n⟩:=by
 have T:jj< ops.toList.length:=(jY.1 ho).1
 have hops:ops.toList=ops.toList.take jj++o::ops.toList.drop (jj+1):=by
  rw[<-(jY.1 ho).2,<-DA T,KO]
 rintro M w0 a w hr;refine wpIn_region_list ?_;rw[hops];obtain⟨us,st1,F,hent⟩:=h
 have S:=(fm (ops.toList.take jj) 0 _ st1 us [] (look fr) (ap hp) F rfl (λi o h=>by
  rw[Na] at h;split at h;simpa using h;cases h) rfl rfl).2.2.2
 simp only at S;refine kQ (M0:=M) (w0:=w0) (ρ:=ρ) _ _ 0 ⟨fr,hp,nx,n⟩ st1 us a w F (FRel.free hr λi l=>by show nx<=i;simpa using l) λR r U=>?_;have hl:(ops.toList.take jj).length=jj:=by rw[yv];omega
 rw[hl,vY,S] at U;obtain⟨β,j,s1,s2,s3,⟨Ds,s4,s5,s6⟩,s7⟩:=hent M w0 R r U;refine wpListIn_step λK hK=>?_;rw[if_pos (by simp[Region.wanted,hg])]
 -- the call,seen from here
 have H:∀b,(∃i s,β i=some (b,s))->¬w0.K b:=λb ⟨i,s,l⟩=>(j.rng i b s l).1;have hgt:¬(∃i s,β i=some (GT,s)):=fun⟨i,s,l⟩=>j.gtn i s l
 let wc:Base:=⟨r,λb=>b< r.heap.size/\¬ ∃i s,β i=some (b,s),λ_ h=>h.1,w0.pin,λ_=>undef,⟨j.tab.lt,hgt⟩,j.tab⟩
 have W:Mem M wc β (ap hp2) wc.w:=⟨⟨rfl,rfl,rfl,ir _,λ_ _=>rfl,λ_ _ h=>h⟩,λb hb=>⟨⟨j.lt (.inl hb),λz=>H b z (j.m0 b hb).1⟩,(j.m0 b hb).2⟩,λi b s l=>⟨λE=>E.2 ⟨i,s,l⟩,(j.rng i b s l).2⟩,j.pin,j.blk,j.inj⟩;have hv:RVs (MM M β (ap hp2)) β r as (cc.args.toList.map R.eval):=jq (fG s2) has;have hv2:=gF hv;obtain⟨xs,ys,hx,hx1,hx2⟩:=fG s2 f _ hev;have hxs:xs= #[]:=AD hx1;have hys:ys= #[]:=AD hx2;subst hxs hys;refine⟨λ_ _=>trivial,?_⟩;rw[Oper.semAt_eq _ _ _ (by rw[hop];intro c e;cases e)];have L:(execOp R.eval o).run P r= .ok (.enter g (cc.args.toList.map R.eval).toArray) r:=fP hop hf hx rfl hX.enters;rw[L];refine⟨λhh=>by simp[FR] at hh,u7 ((hX.calls M wc β _ rfl W s3 hv2).mono ?_)⟩;rintro e C ⟨y,β',rfl,k,hy,A⟩;have u:∀b,b< r.heap.size->(¬ ∃i s,β i=some (b,s))->C.heap[b]?=r.heap[b]?:=λb h1 h2=>k.below.block b ⟨h1,h2⟩
 have p:∀b,(∃i s,β i=some (b,s))->MM M β (ap hp2) b:=λb ⟨i,s,l⟩=>by
  obtain⟨B,hB⟩:=xa.1 (s7 i _ l);exact .inr ⟨i,B,s,hB,l⟩
 have c1:∀b N,aY r b=some N->¬MM M β (ap hp2) b->C.heap[b]?=r.heap[b]?:=λb N hs Y=>u b (cy hs) λz=>Y (p b z)
 have c2:∀b N,aY r b=some N->MM M β' (ap hp3) b->MM M β (ap hp2) b:=λb N hs Y=>by
  rcases Y with Y|⟨i,B,s,_,l⟩
  exact .inl Y;by_cases z:∃i s,β i=some (b,s);exact p b z;exact absurd ⟨cy hs,z⟩ (k.rng i b s l).1
 have hDs:∀D∈Ds,C.heap[D]?=some (.deferred (some []))/\¬w0.K D:=λD hD=>by
  obtain⟨d1,d2⟩:=s6 D hD;refine⟨?_,d2⟩;rw[u D (sk.1 d1).1 fun⟨i,s,l⟩=>?_];exact d1;obtain⟨B,hB⟩:=xa.1 (s7 i _ l);obtain⟨b,r1,r2⟩:=j.blk i B hB;rw[l] at r1;cases r1;obtain⟨N,hN⟩:=r2.size;simp[aY,d1] at hN
 have memn:Mem M w0 β' (ap hp3) C:=by
  have hb:=k.below;refine⟨⟨hb.os.trans j.below.os,hb.tape.trans j.below.tape,hb.output.trans j.below.output,fo j.below.size hb.size,λb E=>?_,λb n hs=>hb.sizes b n (j.below.sizes b n hs)⟩,j.m0,λi b s l=>⟨λE=>?_,(k.rng i b s l).2⟩,k.pin,k.blk,k.inj⟩;rw[u b (ns (w0.lt b E) j.below.size) λz=>H b z E];exact j.below.block b E;exact(k.rng i b s l).1 ⟨ns (w0.lt b E) j.below.size,λz=>H b z E⟩
 refine hK _ C ?_;obtain⟨us',J,m,hq⟩:=h3;have V:=(jK _ (jj+1) _ _ _ m);simp only at V
 have hrel:jT M w0 ⟨(d,v)::fr3,hp3,nx3,n⟩ (R.put o.dst y) C:=by
  refine⟨β',memn,by rw[hd];simp[Act.put,s1],λt x hx=>?_,A,⟨Ds,by rw[<-s4,hd];rfl,s5,hDs⟩⟩;rw[hd,qT (by rw[s1];exact r9 hdn)];have q:look ((d,v)::fr3) t=some x:=hx;rw[b8] at q;unfold upd at q;split at q
  ·rename_i O;rw[if_pos O];cases q;exact hy
  ·rename_i O;rw[if_neg O]
   obtain⟨e1,e2⟩:=h30 t x q;exact pm e2 (s2 t x e1) c1 c2 k.below.sizes
 have G:=kQ (P:=P) (ops:=ops) (ρ:=ρ) (M0:=M) (w0:=w0) (nx:=nx3) (Q:=λe a' C=> ∃X,jT M w0 X a' C/\Q e X) [] (ops.toList.drop (jj+1)) (jj+1) ⟨(d,v)::fr3,hp3,nx3,n⟩ J us' (R.put o.dst y) C m (hrel.free λi l=>by show nx3<=i;omega) λa5 w5 Z=>?_;rw[Ng] at G;exact G;refine⟨⟨J.fr,J.hp,nx3+n1,n⟩,?_,hq⟩;rw[V] at Z;refine Z.free λi (l:nx3+n1<=i)=>?_;rw[List.length_drop,zK];have:jj< ops.size:=by simpa using T
 omega
end Go.Abs
