/- Part W02 of the proof. -/
import Derived.Test.YtjmkjicckobojaaGreatDoorW01
set_option linter.all false
namespace Go.Abs
open Go.RowKit
section
variable {w':World}{M:Nat->Prop}{sz' c':Nat}{a':Option Addr}{new:Array Value}
def oC(M0:Nat->Prop)(w0:Base)(β:Bq)(hp:Hq)(w:World)(id:Nat)(u:Upd)(y:Value)(w':World)(β':Bq):Prop:=
 Mem M0 w0 β' (jd hp u.blk) w'/\RV (MM M0 β' (jd hp u.blk)) β' w' u.val y/\Stab (MM M0 β hp) (MM M0 β' (jd hp u.blk)) β β' w w'/\∀j,j≠id->β' j=β j
def Good(P:Program)(M0:Nat->Prop)(w0:Base)(β:Bq)(hp:Hq)(w:World)(id:Nat)(ρ:Operand->Value)(o:Oper)(u:Upd):Prop:=
 (∃y w' β',((execOp ρ o).run P w= .ok (.value y) w'\/((execOp ρ o).run P w= .ok .skip w'/\y=undef))/\oC M0 w0 β hp w id u y w' β')\/
 (∃f args,(execOp ρ o).run P w= .ok (.enter f args) w/\Calls P f args w λe w'=> ∃y,e= .returned y/\∃β',oC M0 w0 β hp w id u y w' β')
def ASem(P:Program)(id:Nat)(ev:Operand->Option AV)(hp:Hq)(op:Op)(u:Upd)(rd:Ln):Prop:=
 ∀(M0:Nat->Prop) (w0:Base) (β:Bq) (hp':Hq) (w:World) (ρ:Operand->Value) (o:Oper),o.op=op->Mem M0 w0 β hp' w->(∀x∈op.operands,∀a,ev x=some a->RV (MM M0 β hp') β w a (ρ x))->(∀v,ρ (.const v)=v)->
  id≠0->β id=none->hp' id=none->(∀i∈rd,hp' i=hp i)->Good P M0 w0 β hp' w id ρ o u
def wh(P:Program)(T:Nat):Option (List (Nat×Nat)):=
 match P.underlying T with
 |some (.struct fs)=>fs.toList.mapM λf=>(j0 P f.type).map λs=>(f.offset,s)
 |_=>none
def tl:AV->Option Nat
 | .arr es=>some es.length
 | .lsl _ _ n _ _=>some n
 | .emp=>some 0
 |_=>none
def uQ(P:Program)(T:Nat):Option Nat:=(P.info? T).map (·.bytes)
def evO(ev:Operand->Option AV):Option Operand->Option (Option Value)
 |none=>some none
 |some x=>match ev x with|some (.v y)=>some (some y)|_=>none
def SlB(ev:Operand->Option AV)(lo hi mx:Option Operand)(l h len:Nat)(cap m:Option Nat):Prop:=
 (∃lv,evO ev lo=some lv/\(lv=none/\l=0\/∃k i,lv=some (.int k i)/\i=(l:Int)))/\
 (∃hv,evO ev hi=some hv/\(hv=none/\h=len/\mx=none\/∃k i,hv=some (.int k i)/\i=(h:Int)))/\
 (∃mv,evO ev mx=some mv/\(mv=none/\m=cap\/∃k i,∃m':Nat,mv=some (.int k i)/\i=(m':Int)/\h<=m'/\m'<=len/\(m=some m'\/m=none)))
def xC:La->Option Lc
 |[]=>some []
 |a::as=>match a.cells,xC as with|some c,some cs=>some (c::cs)|_,_=>none
inductive SealArgs (hp:Hq):La->La->Ln->Prop
 |nil:SealArgs hp [] [] []
 |keep {a as as' ids}:SealArgs hp as as' ids->SealArgs hp (a::as) (coe a::as') ids
 |shut {i e n cap sz B as as' ids}:dS hp i=some B->e+n<=B.es.length->SealArgs hp as as' ids->SealArgs hp (.lsl i e n cap sz::as) (.arr ((B.es.drop e).take n)::as') (i::ids)
theorem SealArgs.congr{hp hp':Hq}{as as':La}{ids:Ln}(h:SealArgs hp as as' ids):(∀i∈ids,hp' i=hp i)->SealArgs hp' as as' ids:=by
 induction h with
 |nil=>exact λ_=> .nil
 |keep _ a=>exact λh=> .keep (a h)
 |shut c b _ a=>exact λh=> .shut ((fC (h _ (List.mem_cons_self ..))).trans c) b (a λi d=>h i (List.mem_cons_of_mem _ d))
inductive AEval (P:Program)(id:Nat)(ev:Operand->Option AV)(hp:Hq):Op->Upd->Ln->Prop
 |move {x a}:ev x=some a->AEval P id ev hp (.move x) ⟨a,[]⟩ []
 |sem {op u rd}:ASem P id ev hp op u rd->AEval P id ev hp op u rd
 |assign {x a}:ev x=some a->AEval P id ev hp (.assign x) ⟨a,[]⟩ []
 |pick {c a b t v}:ev c=some (.v (.bool t))->(t=true->ev a=some v)->(t=false->ev b=some v)->AEval P id ev hp (.pick c a b) ⟨v,[]⟩ []
 |alloc {T zs}:gH P T=some zs->(hz:Nat.blt 0 zs.length=true:=by rfl)->AEval P id ev hp (.alloc T) ⟨.lptr id 0 0,[(id,some ⟨T,zs.length,[zs.map ofV]⟩)]⟩ []
 |box {T x a cs}:ev x=some a->a.cells=some cs->(hz:Nat.blt 0 cs.length=true:=by rfl)->AEval P id ev hp (.box T x) ⟨.lptr id 0 0,[(id,some ⟨T,cs.length,[cs]⟩)]⟩ []
 |load_l {T x i e o B cs n}:ev x=some (.lptr i e o)->dS hp i=some B->B.es[e]?=some cs->fO P T=some true->j0 P T=some n->o+n<=cs.length->
    AEval P id ev hp (.load T x) ⟨.agg ((cs.drop o).take n),[]⟩ [i]
 |load_l1 {T x i e o B cs c}:ev x=some (.lptr i e o)->dS hp i=some B->B.es[e]?=some cs->fO P T=some false->cs[o]?=some c->
    AEval P id ev hp (.load T x) ⟨c,[]⟩ [i]
 |load_a {T x es i o cs n}:ev x=some (.aptr es i o)->es[i]?=some cs->fO P T=some true->j0 P T=some n->o+n<=cs.length->
    AEval P id ev hp (.load T x) ⟨.agg ((cs.drop o).take n),[]⟩ []
 |load_a1 {T x es i o cs c}:ev x=some (.aptr es i o)->es[i]?=some cs->fO P T=some false->cs[o]?=some c->
    AEval P id ev hp (.load T x) ⟨c,[]⟩ []
 |store {T x y i e o B cs a vs}:ev x=some (.lptr i e o)->dS hp i=some B->B.es[e]?=some cs->ev y=some a->a.cells=some vs->vs.all AV.one=true->j0 P T=some vs.length->o+vs.length<=cs.length->
    AEval P id ev hp (.store T x y) ⟨.v undef,[(i,some ⟨B.ty,B.sz,B.es.set e (fz cs o vs)⟩)]⟩ [i]
 |nilCheck {x a}:ev x=some a->(match a with| .lptr .. | .aptr .. | .clos .. =>true|_=>false)=true->AEval P id ev hp (.nilCheck x) ⟨a,[]⟩ []
 |bin {op T x y yt a b r}:ev x=some (.v a)->ev y=some (.v b)->(∀w,(do eqGuard op T x y a b;binOp op T a b:Sem Value).run P w= .ok r w)->
    AEval P id ev hp (.binOp op T x y yt) ⟨.v r,[]⟩ []
 |bin_c {op T x y yt a b r}:ev x=some a->y= .const b->(∀(M:Nat->Prop) β w' xv,RV M β w' a xv->∀w,(do eqGuard op T x y xv b;binOp op T xv b:Sem Value).run P w= .ok r w)->
    AEval P id ev hp (.binOp op T x y yt) ⟨.v r,[]⟩ []
 |un {op T x a r}:ev x=some (.v a)->(∀w,(Op.unary op a).run P w= .ok r w)->AEval P id ev hp (.unOp op T x) ⟨.v r,[]⟩ []
 |conv {S D x a r}:ev x=some (.v a)->(∀w,(convert S D a).run P w= .ok r w)->AEval P id ev hp (.convert S D x) ⟨.v r,[]⟩ []
 |extract {t i cs c}:ev t=some (.tup cs)->cs[i]?=some c->AEval P id ev hp (.extract t i) ⟨c,[]⟩ []
 |build {T parts zs pl as cs}:gH P T=some zs->wh P T=some pl->evs ev (parts.toList.map (·.2))=some as->
    Cr (λi=>pl[i]?) (zs.map ofV) ((parts.toList.map (·.1)).zip as)=some cs->AEval P id ev hp (.build T parts) ⟨.agg cs,[]⟩ []
 |fieldAddr_l {T x f i e o off s}:ev x=some (.lptr i e o)->nB P T f=some (off,s)->s≠0->AEval P id ev hp (.fieldAddr T x f) ⟨.lptr i e (o+off),[]⟩ []
 |fieldAddr_a {T x f es i o off s}:ev x=some (.aptr es i o)->nB P T f=some (off,s)->s≠0->AEval P id ev hp (.fieldAddr T x f) ⟨.aptr es i (o+off),[]⟩ []
 |field {T x f cs off s}:ev x=some (.agg cs)->nB P T f=some (off,s)->oi P T f=some true->off+s<=cs.length->AEval P id ev hp (.field T x f) ⟨.agg ((cs.drop off).take s),[]⟩ []
 |field1 {T x f cs off s c}:ev x=some (.agg cs)->nB P T f=some (off,s)->oi P T f=some false->cs[off]?=some c->AEval P id ev hp (.field T x f) ⟨c,[]⟩ []
 |index_l {T x ix i e n c E sz kd k}:ev x=some (.lsl i e n c sz)->ev ix=some (.v (.int kd k))->0<=k->k< (n:Int)->eK P T=some (E,sz)->AEval P id ev hp (.indexAddr T x ix) ⟨.lptr i (e+k.toNat) 0,[]⟩ []
 |index_a {T x ix es E sz kd k cs}:ev x=some (.arr es)->ev ix=some (.v (.int kd k))->0<=k->es[k.toNat]?=some cs->cs.length=sz->eK P T=some (E,sz)->AEval P id ev hp (.indexAddr T x ix) ⟨.aptr es k.toNat 0,[]⟩ []
 |index_s {T x ix a b r}:ev x=some (.v a)->ev ix=some (.v b)->(∀w,(Instr.index T a b).run P w= .ok r w)->AEval P id ev hp (.index T x ix) ⟨.v r,[]⟩ []
 |makeFunc {f first captured as bs}:evs ev first.toList=some as->evs ev captured.toList=some bs->AEval P id ev hp (.makeFunc (.func f) first captured) ⟨.clos f as bs,[]⟩ []
 |call {c callee f fst cap as r}:c.callee= .value callee->ev callee=some (.clos f fst cap)->evs ev c.args.toList=some as->FSpec P f ((fst++as++cap).map coe) r->AEval P id ev hp (.call c) ⟨r,[]⟩ []
 |callS {c callee f fst cap as as' ids r}:c.callee= .value callee->ev callee=some (.clos f fst cap)->evs ev c.args.toList=some as->SealArgs hp (fst++as++cap) as' ids->FSpec P f as' r->AEval P id ev hp (.call c) ⟨r,ids.map λi=>(i,none)⟩ ids
 |callE {c callee f x0 rest as i e n cap B E' r}:c.callee= .value callee->ev callee=some (.clos f [] [])->c.args.toList=x0::rest->ev x0=some (.lsl i e n cap B.sz)->evs ev rest=some as->dS hp i=some B->ESpec P f B.ty B.sz B.es E' e n cap (as.map coe) r->
    AEval P id ev hp (.call c) ⟨.v r,[(i,some ⟨B.ty,B.sz,E'⟩)]⟩ [i]
 |callO {c callee f as ty sz es}:c.callee= .value callee->ev callee=some (.clos f [] [])->evs ev c.args.toList=some as->OSpec P f (as.map coe) ty sz es->
    AEval P id ev hp (.call c) ⟨.lsl id 0 es.length none sz,[(id,some ⟨ty,sz,es⟩)]⟩ []
 |len {c x a n T d}:c.callee= .builtin .len->c.args= #[x]->c.argTypes= #[T]->ev x=some a->tl a=some n->eK P T=some d->AEval P id ev hp (.call c) ⟨.v (.int .i64 n),[]⟩ []
 |builtinV {c b} {vs:List Value} {r}:c.callee= .builtin b->evs ev c.args.toList=some (vs.map AV.v)->(∀w ty cs,(builtin b c.argTypes ty cs vs.toArray).run P w= .ok (.value r) w)->AEval P id ev hp (.call c) ⟨.v r,[]⟩ []
 |slice_a {T x lo hi mx es l h d}:ev x=some (.arr es)->SlB ev lo hi mx l h es.length none none->l<=h->h<=es.length->eK P T=some d->(es≠[]->∀e∈es,e.length=d.2)->
    AEval P id ev hp (.slice T x lo hi mx) ⟨.arr ((es.drop l).take (h- l)),[]⟩ []
 |slice_l {T x lo hi mx i e n cap sz l h m E}:ev x=some (.lsl i e n cap sz)->SlB ev lo hi mx l h n cap m->l<=h->h<=n->(l=0\/l< h)->eK P T=some (E,sz)->
    AEval P id ev hp (.slice T x lo hi mx) ⟨.lsl i (e+l) (h- l) (m.map (· - l)) sz,[]⟩ []
 |slice_e {T x lo hi mx a d}:ev x=some a->(match a with| .arr _| .lsl .. | .emp=>true|_=>false)=true->evO ev lo=some none->(∃k,evO ev hi=some (some (.int k 0)))->(∃k,evO ev mx=some (some (.int k 0)))->eK P T=some d->
    AEval P id ev hp (.slice T x lo hi mx) ⟨.emp,[]⟩ []
 |slice_v {T x lo hi mx a lv hv mv r}:ev x=some (.v a)->evO ev lo=some lv->evO ev hi=some hv->evO ev mx=some mv->(∀w,(Instr.sliceAt T a lv hv mv).run P w= .ok r w)->AEval P id ev hp (.slice T x lo hi mx) ⟨.v r,[]⟩ []
 |makeSlice {T lo co kl kc E sz zs bs} {l c:Nat}:ev lo=some (.v (.int kl l))->ev co=some (.v (.int kc c))->eK P T=some (E,sz)->gH P E=some zs->zs.length=sz->uQ P E=some bs->l<=c->bs* c<=281474976710656->c<=maxLen->(hz:Nat.blt 0 sz=true:=by rfl)->
    AEval P id ev hp (.makeSlice T lo co) ⟨.lsl id 0 l (some c) sz,[(id,some ⟨E,sz,List.replicate c (zs.map ofV)⟩)]⟩ []
 |buildSlice {T len parts E sz zs as es}:eK P T=some (E,sz)->gH P E=some zs->zs.length=sz->len* sz<=16777216/\len<=16777216->parts.toList.map (·.1)=List.range len->evs ev (parts.toList.map (·.2))=some as->xC as=some es->(∀e∈es,e.length=sz)->(hz:Nat.blt 0 sz=true:=by rfl)->
    AEval P id ev hp (.buildSlice T len parts) ⟨.lsl id 0 len (some len) sz,[(id,some ⟨E,sz,es⟩)]⟩ []
 |append0 {c x y T T' E sz a rd}:c.callee= .builtin .append->c.args= #[x,y]->c.argTypes= #[T,T']->eK P T=some (E,sz)->(eK P T').isSome=true->ev x=some .emp->ev y=some a->SrcOf hp sz a [] rd->
    AEval P id ev hp (.call c) ⟨.emp,[]⟩ rd
 |append_e {c x y T T' E sz a rd es zs bs}:c.callee= .builtin .append->c.args= #[x,y]->c.argTypes= #[T,T']->eK P T=some (E,sz)->(eK P T').isSome=true->ev x=some .emp->ev y=some a->SrcOf hp sz a es rd->es≠[]->
    gH P E=some zs->zs.length=sz->uQ P E=some bs->es.length* bs<=140737488355328->es.length<=maxLen- 1->(hz:Nat.blt 0 sz=true:=by rfl)->
    AEval P id ev hp (.call c) ⟨.lsl id 0 es.length none sz,[(id,some ⟨E,sz,es⟩)]⟩ rd
 |append_l {c x y T T' E sz a rd es zs bs i n cap B}:c.callee= .builtin .append->c.args= #[x,y]->c.argTypes= #[T,T']->eK P T=some (E,sz)->(eK P T').isSome=true->ev x=some (.lsl i 0 n cap sz)->dS hp i=some B->B.ty=E->B.sz=sz->B.es.length=n->B.es.all (·.all AV.one)=true->es.all (·.all AV.one)=true->ev y=some a->SrcOf hp sz a es rd->
    gH P E=some zs->zs.length=sz->uQ P E=some bs->(n+es.length) * bs<=140737488355328->n+es.length<=maxLen- 1->
    AEval P id ev hp (.call c) ⟨.lsl id 0 (n+es.length) none sz,[(i,none),(id,some ⟨E,sz,B.es++es⟩)]⟩ (i::rd)
 |copy {c x y T T' E sz a rd es i e n cap B}:c.callee= .builtin .copy->c.args= #[x,y]->c.argTypes= #[T,T']->eK P T=some (E,sz)->ev x=some (.lsl i e n cap sz)->dS hp i=some B->B.sz=sz->e+n<=B.es.length->es.all (·.all AV.one)=true->ev y=some a->SrcOf hp sz a es rd->
    AEval P id ev hp (.call c) ⟨.v (.int .i64 (Nat.min es.length n)),[(i,some ⟨B.ty,B.sz,fz B.es e (es.take (Nat.min es.length n))⟩)]⟩ (i::rd)
section
variable {P:Program}{M0:Nat->Prop}{w0:Base}{w:World}{β:Bq}{hp:Hq}{id:Nat}{ρ:Operand->Value}{o:Oper}{u:Upd}
theorem Good.pure{a:AV}{y:Value}(mem:Mem M0 w0 β hp w)(hr:(execOp ρ o).run P w= .ok (.value y) w)(hy:RV (MM M0 β hp) β w a y):Good P M0 w0 β hp w id ρ o ⟨a,[]⟩:=
 .inl ⟨y,w,β,.inl hr,mem,hy,.refl,λ_ _=>rfl⟩
theorem iH(s:Sem Value){y:Value}(h:s.run P w= .ok y w'):(do pure (Next.value (<-s)):Sem Next).run P w= .ok (.value y) w':=by simp_all
theorem ny:∀(fs:List Field) (pl:List (Nat×Nat)) (w:World),(fs.mapM λf=>(j0 P f.type).map λs=>(f.offset,s))=some pl->
    (fs.mapM λf=>(do pure (f.offset,<-sizeOf f.type):Sem (Nat×Nat))).run P w= .ok pl w
 |[],pl,w,h=>by
  simp_all
 |f::fs,pl,w,h=>by
  simp only[List.mapM_cons,Option.pure_def,Option.bind_eq_bind] at h;cases hs:j0 P f.type with
  |none=>grind
  |some n=>
   cases hm:(fs.mapM λf=>(j0 P f.type).map λs=>(f.offset,s)) with
   |none=>grind
   |some a=>
    simp only[hs,hm,Option.map_some,Option.bind_some,Option.some.injEq] at h;subst h;simp only[List.mapM_cons,Sem.run_bind,run_sizeOf' hs,Result.andThen_ok,Sem.run_pure];rw[ny fs a w hm];rfl
theorem FM{cs:La}{xs:Array Value}(h:RVs M β w cs xs.toList){i:Nat}{c:AV}(hc:cs[i]?=some c):∃x,xs[i]?=some x/\RV M β w c x:=by
 obtain⟨x,a,b⟩:=h.get hc;grind
theorem IF{M:Nat->Prop}{ρ:Operand->Value}:∀{ps:List (Nat×Operand)} {as:La},RVs M β w as ((ps.map (·.2)).map ρ)->
    (((ps.map (·.1)).zip as).map (·.1)=(ps.map λq=>(q.1,ρ q.2)).map (·.1)/\RVs M β w (((ps.map (·.1)).zip as).map (·.2)) ((ps.map λq=>(q.1,ρ q.2)).map (·.2)))
 |[],as,h=>by
  cases as with
  |nil=>simp_all
  |cons a as=>obtain⟨x,xs,e,_⟩:=h;cases e
 |p::ps,as,h=>by
  cases as with
  |nil=>cases (h:_=[])
  |cons a as=>
   obtain⟨x,xs,e,c,b⟩:=h;obtain⟨rfl,rfl⟩:=e;have:=IF b;exact⟨by simp_all,⟨_,_,rfl,c,this.2⟩⟩
theorem eu{M:Nat->Prop}:∀{as:La} {xs:List Value},(∀a∈as,Closed a)->RVs M β w as xs->RVs M (λ_=>none) w as xs
 |[],_,_,h=>h
 |a::_,_,hc,⟨x,xs,e,h1,h2⟩=>⟨x,xs,e,hc a (List.mem_cons_self ..) M β w x h1,eu (λb hb=>hc b (List.mem_cons_of_mem _ hb)) h2⟩
theorem ut{T f off s:Nat}(h:nB P T f=some (off,s))(hs:s≠0)(b o':Nat)(w:World):(Instr.fieldAt T (.pointer (some ⟨b,o',none⟩)) f).run P w= .ok (.pointer (some ⟨b,o'+off,none⟩)) w:=by
 unfold nB at h;cases hu:P.underlying T with
 |none=>grind
 |some d=>
  rw[hu] at h;cases d with
  |struct c=>
   cases hf:c[f]? with
   |none=>grind
   |some a=>
    simp only[hf] at h;cases hz:j0 P a.type with
    |none=>grind
    |some n=>
     simp only[hz] at h;obtain⟨rfl,rfl⟩:=h;simp only[Instr.fieldAt,Sem.run_bind,run_underlying hu w,Result.andThen_ok,hf,Instr.sureAddr,Sem.run_pure,fieldPlace,run_sizeOf' hz,hs,if_false,lc]
  |_=>grind
theorem xU{T f off s:Nat}(h:nB P T f=some (off,s))(ha:oi P T f=some true)(xs:Array Value)(w:World):(Instr.field T (.agg xs) f).run P w= .ok (.agg (xs.extract off (off+s))) w:=by
 unfold nB at h;unfold oi at ha;cases hu:P.underlying T with
 |none=>grind
 |some d=>
  rw[hu] at h ha;cases d with
  |struct b=>
   cases hf:b[f]? with
   |none=>grind
   |some a=>
    simp only[hf] at h ha;cases hz:j0 P a.type with
    |none=>grind
    |some n=>
     simp only[hz] at h;obtain⟨rfl,rfl⟩:=h;simp only[Instr.field,Sem.run_bind,run_underlying hu w,Result.andThen_ok,hf,asAgg,Sem.run_pure,part,oM ha,if_true,run_sizeOf' hz]
  |_=>grind
theorem xT{T f off s:Nat}(h:nB P T f=some (off,s))(ha:oi P T f=some false){xs:Array Value}{y:Value}(hy:xs[off]?=some y)(w:World):(Instr.field T (.agg xs) f).run P w= .ok y w:=by
 unfold nB at h;unfold oi at ha;cases hu:P.underlying T with
 |none=>grind
 |some d=>
  rw[hu] at h ha;cases d with
  |struct b=>
   cases hf:b[f]? with
   |none=>grind
   |some a=>
    simp only[hf] at h ha;cases hz:j0 P a.type with
    |none=>grind
    |some n=>
     simp only[hz] at h;obtain⟨rfl,rfl⟩:=h;simp only[Instr.field,Sem.run_bind,run_underlying hu w,Result.andThen_ok,hf,asAgg,Sem.run_pure,part,oM ha,Bool.false_eq_true,if_false,hy]
  |_=>grind
theorem eo{T E s:Nat}(h:eK P T=some (E,s)):P.underlying T=some (.slice E)/\j0 P E=some s:=by
 unfold eK at h;cases hu:P.underlying T with
 |none=>grind
 |some d=>
  rw[hu] at h;cases d with
  |slice e=>
   cases hz:j0 P e with
   |none=>grind
   |some n=>
    grind
  |_=>grind
theorem ur{T E s:Nat}(h:eK P T=some (E,s)){b off n c:Nat}{kd:IntKind}{k:Int}(h0:0<=k)(h1:k< (n:Int))(w:World):
    (Instr.indexAt T (.slice (some ⟨b,off,none⟩) n c) (.int kd k)).run P w= .ok (.pointer (some ⟨b,off+k.toNat* s,none⟩)) w:=by
 obtain⟨a,d⟩:=eo h;simp only[Instr.indexAt,asIntOf,Sem.run_bind,Sem.run_pure,Result.andThen_ok,run_underlying a w,h0,h1,and_self,if_true,run_sizeOf' d,lc]
theorem kj{ev:Operand->Option AV}{ρ:Operand->Value}(hev:∀x a,ev x=some a->RV M β w a (ρ x)):∀{o:Option Operand} {v:Option Value},evO ev o=some v->o.map ρ=v
 |none,v,h=>by simp only[evO] at h;grind
 |some x,v,h=>by
  simp only[evO] at h;split at h
  ·rename_i y b
   simp only[Option.some.injEq] at h;subst h;exact congrArg some (hev x _ b)
  cases h
theorem eS{k:IntKind}{i y:Nat}(h:i<=y)(code:BoundsCode)(w:World):(Instr.sliceBound (.int k (i:Int)) y code).run P w= .ok i w:=by
 have:=run_sliceBound (P:=P) w k (i:Int) y code ω ω;grind
theorem FO {ev:Operand->Option AV} {ρ:Operand->Value} (hev:∀x a,ev x=some a->RV M β w a (ρ x)) {lo hi mx:Option Operand} {l h len c:Nat} {cap m:Option Nat} (hb:SlB ev lo hi mx l h len cap m)
    (hlc:len<=c) (hcap:∀k,cap=some k->c=k) (hlh:l<=h) (hhl:h<=len):∃N,(Instr.sliceBounds true len c (lo.map ρ) (hi.map ρ) (mx.map ρ)).run P w= .ok (l,h,N) w/\h<=N/\N<=c/\∀k,m=some k->N=k:=by
 obtain⟨⟨u,e1,e⟩,⟨hv,e2,f⟩,⟨mv,g,o⟩⟩:=hb;rw[kj hev e1,kj hev e2,kj hev g];rcases o with⟨rfl,rfl⟩|⟨v,t,d,rfl,rfl,b,j,i⟩
 refine⟨c,?_,ω,Nat.le_refl _,hcap⟩;rcases f with⟨rfl,rfl,_⟩|⟨n,q,rfl,rfl⟩<;> rcases e with⟨rfl,rfl⟩|⟨r,il,rfl,rfl⟩
 simp[Instr.sliceBounds];simp[Instr.sliceBounds,eS hlh];simp[Instr.sliceBounds,eS (show h<=c by omega)];simp[Instr.sliceBounds,eS (show h<=c by omega),eS hlh];refine⟨d,?_,b,ω,λk s=>by grind⟩;rcases f with⟨rfl,rfl,p⟩|⟨n,q,rfl,rfl⟩
 subst p;simp[evO] at g;rcases e with⟨rfl,rfl⟩|⟨r,il,rfl,rfl⟩
 simp[Instr.sliceBounds,eS (show d<=c by omega),eS b];simp[Instr.sliceBounds,eS (show d<=c by omega),eS b,eS hlh]
theorem run_sliceAt'{T E s:Nat}(h:eK P T=some (E,s)){a:Option Addr}{n c l h' N:Nat}{lo hi mx:Option Value}(hb:(Instr.sliceBounds true n c lo hi mx).run P w= .ok (l,h',N) w):
    (Instr.sliceAt T (.slice a n c) lo hi mx).run P w= .ok (.slice (if N=l then a else a.map (·.add (l* s))) (h'- l) (N- l)) w:=by
 obtain⟨b,d⟩:=eo h;simp[Instr.sliceAt,Instr.slice,run_underlying b w,hb,run_sizeOf' d]
theorem Ak{E sz bs:Nat}{zs:List Value}(h1:j0 P E=some sz)(h2:gH P E=some zs)(h3:uQ P E=some bs):∃i z,P.info? E=some i/\i.zero=some z/\z.cells.toList=zs/\i.size=sz/\i.bytes=bs:=by
 unfold j0 at h1;unfold gH at h2;unfold uQ at h3;cases hu:P.info? E with
 |none=>grind
 |some i=>
  simp_all
theorem Cq{sz:Nat}:∀(vs:List Value) (k:Nat) (cs:Array Value),(∀v∈vs,v.cells.size=sz)->(k+vs.length) * sz<=cs.size->
    ∃ys,Instr.fill (λi=>some (i* sz,sz)) cs (((List.range' k vs.length)).zip vs)=some ys/\ys.size=cs.size/\(∀i v,vs[i]?=some v->∀j x,v.cells[j]?=some x->ys[(k+i) * sz+j]?=some x)/\∀j,j< k* sz->ys[j]?=cs[j]?
 |[],k,cs,_,_=>⟨cs,rfl,rfl,λi v h=>by grind,λ_ _=>rfl⟩
 |v::vs,k,cs,hv,hsz=>by
  have g:(k+1) * sz<=(k+(vs.length+1)) * sz:=Nat.mul_le_mul_right _ ω
  have d:(v.cells.zipIdx.foldl (λcs (c,j)=>cs.setIfInBounds (k* sz+j) c) cs).toList=fz cs.toList (k* sz) v.cells.toList:=by
   rw[<-Array.foldl_toList,Array.toList_zipIdx,oh];rfl
  have b:(v.cells.zipIdx.foldl (λcs (c,j)=>cs.setIfInBounds (k* sz+j) c) cs).size=cs.size:=by
   have:=congrArg List.length d;simpa[b4] using this
  obtain⟨ys,n,l,o,f⟩:=Cq vs (k+1) ((v.cells.zipIdx.foldl (λcs (c,j)=>cs.setIfInBounds (k* sz+j) c) cs)) (λu e=>hv u (List.mem_cons_of_mem _ e)) φ;have a:∀j,(v.cells.zipIdx.foldl (λcs (c,j)=>cs.setIfInBounds (k* sz+j) c) cs)[j]?=(fz cs.toList (k* sz) v.cells.toList)[j]?:=λj=>by rw[<-Array.getElem?_toList,d]
  refine⟨ys,?_,l.trans b,λi u e j x p=>?_,λj q=>?_⟩;rw[List.length_cons,List.range'_succ,List.zip_cons_cons,Instr.fill];simp only[];rw[if_neg φ];exact n;cases i with
  |zero=>
   simp only[List.getElem?_cons_zero,Option.some.injEq] at e;subst e;have m:j< sz:=φ
   rw[Nat.add_zero,f _ φ,a,fj];grind
  |succ i=>
   grind
  rw[f j φ,a,fj,if_neg ω];simp
theorem zb{M:Nat->Prop}:∀{as:La} {xs:List Value} {es:Lc},RVs M β w as xs->xC as=some es->es.length=xs.length/\∀(i:Nat) (e:La),es[i]?=some e->∃x:Value,xs[i]?=some x/\RVs M β w e x.cells.toList
 |[],xs,es,h,hc=>by
  cases (h:xs=[]);simp only[xC] at hc;grind
 |a::as,_,es,⟨x,xs,e,h1,h2⟩,hc=>by
  subst e;simp only[xC] at hc;split at hc
  ·rename_i c cs d b
   simp only[Option.some.injEq] at hc;subst hc;obtain⟨j,g⟩:=zb h2 b;refine⟨φ,λi e f=>?_⟩;cases i with
   |zero=>simp only[List.getElem?_cons_zero,Option.some.injEq] at f;subst f;exact⟨x,rfl,qR h1 d⟩
   |succ i=>grind
  grind
theorem iC(z:Array Value)(n:Nat):(Builtin.zeroCells z n).size=n* z.size:=by simp[Builtin.zeroCells]
theorem GW{need old:Nat}{e:TypeId}(t:Nat)(h:need< 2^ 63):need<=(Question.appendCap need old e).cut t/\(Question.appendCap need old e).cut t< 2^ 63:=by
 simp only[Question.cut];have:=Nat.mod_lt t (show 2^ 63- need> 0 by omega);omega
theorem nA {T T' E E' sz bs:Nat} {zs:List Value} (h1:eK P T=some (E,sz)) (h2:eK P T'=some (E',sz')) (h3:gH P E=some zs) (h4:uQ P E=some bs)
    {base:Option Addr} {n c m:Nat} {old:Array Value} (hgrow:c< n+m) (hroom:(n+m) * bs<=140737488355328) (h63:n+m<=maxLen- 1) (ty:TypeId)
    (hold:∀w',w'.heap=w.heap->(Builtin.firstCells sz n (.slice base n c)).run P w'= .ok old w') (hnew:∀w',w'.heap=w.heap->(Builtin.firstCells sz m (.slice a' m c')).run P w'= .ok new w'):
    ∃nc z,n+m<=nc/\nc< 2^ 63/\z.toList=zs/\(Builtin.append_ #[T,T'] ty #[.slice base n c,.slice a' m c']).run P w=
     .ok (.slice (some ⟨w.heap.size,0,none⟩) (n+m) nc) (w.drew.alloc (.cells (old++new++Builtin.zeroCells z (nc- (n+m))) E)):=by
 obtain⟨t,o⟩:=eo h1;obtain⟨j,_⟩:=eo h2;obtain⟨f,z,i1,i2,i3,i4,i5⟩:=Ak o h3 h4;have i:n+m< 2^ 63:=by unfold maxLen at h63;omega
 obtain⟨l,k⟩:=GW (need:=n+m) (old:=c) (e:=E) (w.tape w.drawn (.appendCap (n+m) c E)) i;refine⟨(Question.appendCap (n+m) c E).cut (w.tape w.drawn (.appendCap (n+m) c E)),z.cells,l,k,i3,?_⟩;have p:=growslice_fits hgrow hroom
 have g:¬((n:Int)+(m:Int)> IntKind.i64.max):=by
  have:IntKind.i64.max=9223372036854775807:=δ
  grind
 have s:¬(n+m<=c):=ω
 have r:∀w:World,({w with drawn:=w.drawn+1}:World)=w.drew:=λ_=>rfl;have q:=hold w.drew rfl;have u:=hnew w.drew rfl;have a:(Question.appendCap (n+m) c E).forced=false:=rfl;have b:¬(((n+m:Nat):Int)> IntKind.i64.max/\(False\/f.bytes=0)):=λh=>g φ;have d:¬(Builtin.nextslicecap (n+m) c* f.bytes> 2^ 48):=φ
 unfold Builtin.append_
 simp only[List.getElem?_toArray,List.getElem?_cons_zero,List.getElem?_cons_succ,Sem.run_bind,run_underlying t w,run_underlying j w,Result.andThen_ok,run_sizeOf' o,Sem.run_pure,
  Bool.false_eq_true,if_false,Builtin.lenOf,s,typeInfo,run_program,i1,b,d,run_choose,a,r,run_askRoom,Bool.not_false,if_true,q,u,zeroValue,i2,newRow,run_newObj]
 rfl
theorem uK {T T' E E' sz:Nat} (h1:eK P T=some (E,sz)) (h2:eK P T'=some (E',sz'))
    {b off n c m:Nat} (hroom:n+m<=c) (ty:TypeId) (hnew:(Builtin.firstCells sz m (.slice a' m c')).run P w= .ok new w)
    (hst:(storeCells ⟨b,off+n* sz,none⟩ new.toList).run P w= .ok () w'):
    (Builtin.append_ #[T,T'] ty #[.slice (some ⟨b,off,none⟩) n c,.slice a' m c']).run P w= .ok (.slice (some ⟨b,off,none⟩) (n+m) c) w':=by
 obtain⟨d,e⟩:=eo h1;obtain⟨a,_⟩:=eo h2;unfold Builtin.append_
 simp only[List.getElem?_toArray,List.getElem?_cons_zero,List.getElem?_cons_succ,Sem.run_bind,run_underlying d w,run_underlying a w,Result.andThen_ok,run_sizeOf' e,Sem.run_pure,
  Bool.false_eq_true,if_false,Builtin.lenOf,hroom,Bool.not_false,if_true,hnew,lc,hst]
theorem vZ{T T' E E' sz:Nat}(h1:eK P T=some (E,sz))(h2:eK P T'=some (E',sz')){base:Option Addr}(ty:TypeId)(hnew:(Builtin.firstCells sz 0 (.slice a' 0 c')).run P w= .ok #[] w):
    (Builtin.append_ #[T,T'] ty #[.slice base 0 0,.slice a' 0 c']).run P w= .ok (.slice base 0 0) w:=by
 obtain⟨c,d⟩:=eo h1;obtain⟨b,_⟩:=eo h2;unfold Builtin.append_
 simp only[List.getElem?_toArray,List.getElem?_cons_zero,List.getElem?_cons_succ,Sem.run_bind,run_underlying c w,run_underlying b w,Result.andThen_ok,run_sizeOf' d,Sem.run_pure,
  Bool.false_eq_true,if_false,Builtin.lenOf,Nat.le_refl,Bool.not_false,if_true,hnew]
 cases base with
 |none=>rfl
 |some a=>simp[storeCells]
theorem Ja {T E sz:Nat} (h1:eK P T=some (E,sz)) {T':Nat} {b off n c m:Nat} (ty:TypeId) (hnew:(Builtin.firstCells sz (Nat.min m n) (.slice a' m c')).run P w= .ok new w)
    (hst:(storeCells ⟨b,off,none⟩ new.toList).run P w= .ok () w'):
    (Builtin.copy_ #[T,T'] ty #[.slice (some ⟨b,off,none⟩) n c,.slice a' m c']).run P w= .ok (.int .i64 (Nat.min m n)) w':=by
 obtain⟨a,d⟩:=eo h1;unfold Builtin.copy_;simp only[List.getElem?_toArray,List.getElem?_cons_zero,List.getElem?_cons_succ,Sem.run_bind,run_underlying a w,Result.andThen_ok,run_sizeOf' d,Sem.run_pure,Builtin.lenOf,hnew,hst];rfl
theorem Stab.trans{M1 M2 M3:Nat->Prop}{β1 β2 β3:Bq}{w1 w2 w3:World}(h:Stab M1 M2 β1 β2 w1 w2)(h':Stab M2 M3 β2 β3 w2 w3)(hs:w1.heap.size<=w2.heap.size):Stab M1 M3 β1 β3 w1 w3:=by
 refine⟨⟨λb N a c=>?_,λb N a c=>?_,λi x j=>h'.be i x (h.be i x j),λb n hb=>h'.sz b n (h.sz b n hb)⟩,λb hb g=>?_⟩;have f:=h.sz b N a;have e1:=h.heap b N a c;rw[<-e1];exact h'.heap b N f (λd=>c (h.m b N a d));exact h.m b N a (h'.m b N (h.sz b N a) c);have e:=h.oth b hb g;rw[<-e];exact h'.oth b ω (by rw[eW e];grind)
theorem Flat.one{s:Nat}{es:Lc}{xs:List Value}(h:Flat M β w s es xs)(ho:es.all (·.all AV.one)=true):∀v∈xs,v.oneCell'=true:=by
 intro v hv;obtain⟨j,b,a⟩:=List.mem_iff_getElem.1 hv
 have hs:0< s:=by
  rcases Nat.eq_zero_or_pos s with k|k
  rw[h.1,k] at b;simp at b;grind
 have d:j/ s< es.length:=by rw[Nat.div_lt_iff_lt_mul hs,<-h.1];grind
 obtain⟨e,f,l,m⟩:=h.2 (j/ s) es[j/ s] (List.getElem?_eq_getElem d);have g:j % s< e.length:=by rw[f.length,l];exact Nat.mod_lt _ hs
 have i:=m (j % s) e[j % s] (List.getElem?_eq_getElem g);rw[Nat.mul_comm,Nat.div_add_mod,List.getElem?_eq_getElem b,Option.some.injEq] at i;rw[<-a,i];have c:=List.all_eq_true.1 ho es[j/ s] (List.getElem_mem d);exact zN f c _ (List.getElem_mem g)
theorem qF{α:Type}(f:Nat->Option α)(i:Nat)(x y:Option α):upd (upd f i x) i y=upd f i y:=by
 funext j;simp only[upd];grind
theorem Mem.storeEls (h:Mem M0 w0 β hp w) {i b e:Nat} {B:ABlk} {fs es':Lc} {xs:List Value} (hz:B.sz≠0) (hi:hp i=some B) (hb:β i=some (b,B.sz)) (hf:Flat (MM M0 β hp) β w B.sz fs xs) (hone:∀v∈xs,v.oneCell'=true)
    {N:Nat} (hN:aU w b=some N) (hsz:(e+fs.length) * B.sz<=N) (hes:∀q el,es'[q]?=some el->(e<=q/\q< e+fs.length/\fs[q- e]?=some el)\/((q< e\/e+fs.length<=q)/\B.es[q]?=some el)) (hlen:es'.length* B.sz<=N):
    ∃w',(storeCells ⟨b,e* B.sz,none⟩ xs).run P w= .ok () w'/\Mem M0 w0 β (upd hp i (some ⟨B.ty,B.sz,es'⟩)) w'/\Stab (MM M0 β hp) (MM M0 β (upd hp i (some ⟨B.ty,B.sz,es'⟩))) β β w w'/\w'.heap.size=w.heap.size:=by
 obtain⟨J,cs,f,k,E,_⟩:=h.cells hi hz;rw[hb] at f;cases f;have p:cs.size=N:=by simpa[aU,k] using hN
 subst p;rw[Nat.add_mul] at hsz;obtain⟨w',z,x,y,t,D⟩:=run_storeCells' (P:=P) xs w cs (e* B.sz) 0 k (by rw[hf.1];omega) hone;rw[Nat.add_zero] at x;have g:=h.write (w':=w') (i:=i) (es:=es') hz hi hb D t x y (λq el A=>?_) (by simpa[b4] using hlen) (by simp[aU,k,b4]);exact⟨w',z,g.1,g.2,t⟩
 have n:∀j v,cs[q* B.sz+j]?=some v->¬(e* B.sz<=q* B.sz+j/\q* B.sz+j< e* B.sz+xs.length)->(fz cs.toList (e* B.sz) xs).toArray[q* B.sz+j]?=some v:=by
  intro j v hv F;rw[List.getElem?_toArray,fj,if_neg F];grind
 rcases hes q el A with⟨a,H,o⟩|⟨a,o⟩
 obtain⟨r,s1,s2,G⟩:=hf.2 _ el o;refine⟨r,s1,s2,λj v l=>?_⟩;have u:=G j v l;have m:=(List.getElem?_eq_some_iff.1 u).1;have c:q* B.sz=e* B.sz+(q- e) * B.sz:=by rw[<-Nat.add_mul];congr 1;omega
 rw[List.getElem?_toArray,fj,if_pos ω,if_pos (by rw[Array.length_toList];rw[hf.1] at m;omega),c,show e* B.sz+(q- e) * B.sz+j- e* B.sz=(q- e) * B.sz+j by omega];exact u;obtain⟨s,d⟩:=E.get o;obtain⟨r,s1,s2⟩:=s.vals;refine⟨r,s1,d,λj v l=>?_⟩;have C:j< B.sz:=by have:=(List.getElem?_eq_some_iff.1 l).1;rw[s1.length,d] at this;exact this
 refine n j v ?_ ?_;have:=s2 j v l;simp only[World.cell?,k] at this;simpa using this;rw[hf.1];rcases a with a|a
 have:=Nat.mul_le_mul_right B.sz (show q+1<=e from a);rw[Nat.add_mul,Nat.one_mul] at this;omega;have:=Nat.mul_le_mul_right B.sz a;grind
variable {op:Op}{rd:Ln}{ev:Operand->Option AV}
def ed(hp:Hq)(ids:Ln):Nat->Option ABlk:=λi=>if i∈ids then none else hp i
theorem ue:∀(ids:Ln) (hp:Hq),jd hp (ids.map λi=>(i,none))=ed hp ids
 |[],hp=>by funext j;simp[jd,ed]
 |i::ids,hp=>by
  rw[List.map_cons,jd,ue ids];funext j;simp only[ed,upd];grind
theorem By(mem:Mem M0 w0 β hp w){ids:Ln}:∀{as as':La} {ids':Ln} {vals:List Value},SealArgs hp as as' ids'->(∀i∈ids',i∈ids)->RVs (MM M0 β hp) β w as vals->(∀a∈as',Closed a)->RVs (MM M0 β (ed hp ids)) (λ_=>none) w as' vals:=by
 have q:∀b,MM M0 β (ed hp ids) b->MM M0 β hp b:=by
  rintro b (hb|⟨i,B,s,d,g⟩);exact .inl hb;refine .inr ⟨i,B,s,?_,g⟩;simp only[ed] at d;grind
 have st:StabC (MM M0 β hp) (MM M0 β (ed hp ids)) β β w w:=⟨λ_ _ _ _=>rfl,λb _ _ h=>q b h,λ_ _ h=>h,λ_ _ h=>h⟩;intro as as' ids' vals h
 induction h generalizing vals with
 |nil=>exact λ_ hv _=>hv
 |keep _ o=>
  rintro m ⟨x,xs,rfl,d,g⟩ hc;exact⟨x,xs,rfl,hc _ (List.mem_cons_self ..) _ _ _ _ (st.all (I9 d)),o m g λa ha=>hc a (List.mem_cons_of_mem _ ha)⟩
 | @shut i e n cap sz B as as' ids' d g _ o=>
  rintro m ⟨x,xs,rfl,z,r⟩ hc;refine⟨x,xs,rfl,hc _ (List.mem_cons_self ..) _ β _ _ ?_,o (λj D=>m j (List.mem_cons_of_mem _ D)) r λa ha=>hc a (List.mem_cons_of_mem _ ha)⟩;obtain⟨b,c,hb,rfl,v,l,_,_⟩:=z;obtain⟨F,cs,f,u,y,_⟩:=mem.cellsF d;rw[hb] at f;cases f;have t:((B.es.drop e).take n).length=n:=φ
  refine⟨_,c,by rw[t],ω,l,.inr ⟨b,0+e* B.sz,B.sz,ψ,⟨cs.size,by simp[aU,u]⟩,?_,st.ess rfl ((y.drop e).take n)⟩⟩;rintro(A|⟨j,p,E,k,C⟩);exact(mem.rng i b _ hb).1 (mem.m0 b A).1;simp only[ed] at k;split at k;cases k
  ·have:=mem.inj i j B p b _ _ (eb d).1 k hb C
   grind
theorem uq{M:Nat->Prop}{b:Nat}:∀{cs:La} {off:Nat},(∀c∈cs,Closed c)->RVcs M β w b cs off->RVcs M (λ_=>none) w b cs off
 |[],_,_,_=>trivial
 |c::_,_,hc,⟨⟨x,h0,h1⟩,h2⟩=>⟨⟨x,h0,hc c (List.mem_cons_self ..) M β w x h1⟩,uq (λd a=>hc d (List.mem_cons_of_mem _ a)) h2⟩
theorem iG{M:Nat->Prop}{b s:Nat}:∀{es:Lc} {off:Nat},(∀e∈es,∀c∈e,Closed c)->RVess M β w b s es off->RVess M (λ_=>none) w b s es off
 |[],_,_,_=>trivial
 |e::_,_,hc,⟨h0,h1,h2⟩=>⟨h0,uq (hc e (List.mem_cons_self ..)) h1,iG (λd a=>hc d (List.mem_cons_of_mem _ a)) h2⟩
theorem Mem.but {i b:Nat} {B:ABlk} {E':Lc} {cs':Array Value} (h:Mem M0 w0 β hp w) (hz:B.sz≠0) (hb:But b w w') (hi:hp i=some B) (hbi:β i=some (b,B.sz)) (hh:w'.heap[b]?=some (.cells cs' B.ty (0,0)))
    (hr:RVess (MM M0 β hp) (λ_=>none) w' b B.sz E' 0) (hl:E'.length* B.sz<=cs'.size):
    Mem M0 w0 β (upd hp i (some ⟨B.ty,B.sz,E'⟩)) w'/\Stab (MM M0 β hp) (MM M0 β (upd hp i (some ⟨B.ty,B.sz,E'⟩))) β β w w':=by
 have t:MM M0 β hp b:= .inr ⟨i,B,_,hi,hbi⟩;have o:=h.rng i b _ hbi;have x:∃N,aU w b=some N:=by obtain⟨C,e1,e2⟩:=h.blk i B hi;rw[hbi] at e1;cases e1;exact e2.size
 have m:∀c,MM M0 β (upd hp i (some ⟨B.ty,B.sz,E'⟩)) c↔MM M0 β hp c:=by
  intro c;constructor;rintro(hc|⟨j,l,s,d,a⟩);exact .inl hc;by_cases hji:j=i;subst hji;exact .inr ⟨j,B,s,hi,a⟩;rw[bF _ _ hji] at d;exact .inr ⟨j,l,s,d,a⟩;rintro(hc|⟨j,l,s,d,a⟩);exact .inl hc;by_cases hji:j=i;subst hji;exact .inr ⟨j,_,s,bq _ _ _,a⟩;exact .inr ⟨j,l,s,by rw[bF _ _ hji];grind,a⟩
 have st:Stab (MM M0 β hp) (MM M0 β (upd hp i (some ⟨B.ty,B.sz,E'⟩))) β β w w':=
  ⟨⟨λc N hs u=>hb.block c (ct hs) (λe=>u (e▸t)),λc _ _ u=>(m c).1 u,λ_ _ h=>h,λc n hc=>hb.sizes c n hc⟩,
   λc q E=>hb.block c q (λe=>φ)⟩
 refine⟨⟨⟨hb.os.trans h.below.os,hb.tape.trans h.below.tape,hb.output.trans h.below.output,Nat.le_trans h.below.size hb.size,λk r=>(hb.block k (Nat.lt_of_lt_of_le (w0.lt k r) h.below.size) (λe=>o.1 (e▸r))).trans (h.below.block k r),λc n hs=>hb.sizes c n (h.below.sizes c n hs)⟩,h.m0,
  λj c s f=>⟨(h.rng j c s f).1,Nat.lt_of_lt_of_le (h.rng j c s f).2 hb.size⟩,λy=>h.pin (by by_cases h00:0=i;(grind);rw[bF _ _ h00] at y;grind),λj l f=>?_,λj k D F c s v d a A z=>?_⟩,st⟩
 by_cases hji:j=i;subst hji;rw[bq] at f;cases f;exact⟨b,hbi,.inl ⟨hz,cs',hh,StabC.ess (w:=w') (w':=w') (M:=MM M0 β hp) (β:=λ_=>none) ⟨λ_ _ _ _=>rfl,λc _ _ hc=>(m c).1 hc,(λ_ _ h=>by cases h),λ_ _ h=>h⟩ rfl hr,hl⟩⟩;rw[bF _ _ hji] at f;obtain⟨c,d,a⟩:=h.blk j l f;have p:c≠b:=λe=>by subst e;exact hji (h.inj j i l B c _ _ f hi d hbi)
 have g:=hb.block c (h.rng j c _ d).2 p;exact⟨c,d,a.stab st.toStabC g⟩
 have e1:∃B,hp j=some B:=by
  by_cases hji:j=i;subst hji;exact⟨_,hi⟩;rw[bF _ _ hji] at d;grind
 have e2:∃B,hp k=some B:=by
  by_cases hki:k=i;subst hki;exact⟨_,hi⟩;rw[bF _ _ hki] at a;exact⟨_,a⟩
 obtain⟨_,e1⟩:=e1;obtain⟨_,e2⟩:=e2;exact h.inj j k _ _ c s v e1 e2 A z
theorem Mem.own {i b ty s:Nat} {es:Lc} {cs:Array Value} (h:Mem M0 w0 β hp w) (hs0:s≠0) (hb:Below w.heap.size w w') (hi0:i≠0) (hi:β i=none) (hpi:hp i=none) (hb1:w.heap.size<=b) (hb2:b< w'.heap.size) (hh:w'.heap[b]?=some (.cells cs ty (0,0)))
    (hr:RVess (λx=>MM M0 β hp x\/x=b) (λ_=>none) w' b s es 0) (hl:es.length* s<=cs.size):
    Mem M0 w0 (upd β i (some (b,s))) (upd hp i (some ⟨ty,s,es⟩)) w'/\Stab (MM M0 β hp) (MM M0 (upd β i (some (b,s))) (upd hp i (some ⟨ty,s,es⟩))) β (upd β i (some (b,s))) w w':=by
 obtain⟨m1,e⟩:=h.ext hb
 have n:∀j x,β j=some x->upd β i (some (b,s)) j=some x:=λj x a=>by
  rw[bF];exact a;grind
 have m:∀c,MM M0 (upd β i (some (b,s))) (upd hp i (some ⟨ty,s,es⟩)) c->MM M0 β hp c\/c=b:=by
  rintro c (hc|⟨j,p,o,f,d⟩);exact .inl (.inl hc);by_cases a:j=i;subst a;rw[bq] at d;cases d;exact .inr rfl;rw[bF _ _ a] at f d;exact .inl (.inr ⟨j,p,o,f,d⟩)
 have st:Stab (MM M0 β hp) (MM M0 (upd β i (some (b,s))) (upd hp i (some ⟨ty,s,es⟩))) β (upd β i (some (b,s))) w w':=by
  refine⟨⟨e.heap,λc N hs q=>?_,n,e.sz⟩,e.oth⟩;rcases m c q with q|rfl
  exact q;have:=ct hs;omega
 have t:StabC (MM M0 β hp) (MM M0 β hp) β β w w':=e.toStabC;refine⟨⟨m1.below,h.m0,λj c o a=>?_,λr=>(bF _ _ (Ne.symm hi0)).trans (h.pin (by rw[bF _ _ (Ne.symm hi0)] at r;grind)),λj B a=>?_,λj k B p c s1 s2 f d l g=>?_⟩,st⟩;by_cases hji:j=i;subst hji;rw[bq] at a;cases a;exact⟨λu=>absurd (w0.lt _ u) (by have:=h.below.size;omega),hb2⟩;rw[bF _ _ hji] at a;exact m1.rng j c o a;by_cases hji:j=i;subst hji;rw[bq] at a;cases a;exact⟨b,bq _ _ _,.inl ⟨hs0,cs,hh,StabC.ess (w:=w') (w':=w') (M:=λx=>MM M0 β hp x\/x=b) (β:=λ_=>none) ⟨λ_ _ _ _=>rfl,λc _ _ hc=>m c hc,(λ_ _ h=>by cases h),λ_ _ h=>h⟩ rfl hr,hl⟩⟩;rw[bF _ _ hji] at a;obtain⟨c,f,d⟩:=h.blk j B a;exact⟨c,n _ _ f,d.stab st.toStabC (hb.block c (h.rng j c _ f).2)⟩;by_cases hji:j=i <;> by_cases hki:k=i;rw[hji,hki];subst hji;rw[bq] at l;cases l;rw[bF _ _ hki] at g;have:=(h.rng k _ _ g).2;omega;subst hki;rw[bq] at g;cases g;rw[bF _ _ hji] at l;have:=(h.rng j _ _ l).2;omega;rw[bF _ _ hji] at f l;rw[bF _ _ hki] at d g;exact h.inj j k B p c s1 s2 f d l g
theorem AEval.good(h:AEval P id ev hp op u rd)(mem:Mem M0 w0 β hp w)(hev:∀x a,ev x=some a->RV (MM M0 β hp) β w a (ρ x))(hcst:∀v,ρ (.const v)=v)(hid0:id≠0)(hid:β id=none)(hidh:hp id=none)(ho:o.op=op):
    Good P M0 w0 β hp w id ρ o u:=by
 cases h with
 |move g=>exact .pure mem (by simp[execOp,ho]) (hev _ _ g)
 |sem g=>exact g M0 w0 β hp w ρ o ho mem (λx _ a ha=>hev x a ha) hcst hid0 hid hidh (λ_ _=>rfl)
 |assign g=>exact .pure mem (by simp[execOp,ho]) (hev _ _ g)
 | @pick c a b t v g h2 h3=>
  have hc:ρ c= .bool t:=hev _ _ g;cases t with
  |true=>exact .pure (y:=ρ a) mem (by simp[execOp,ho,hc,asBool]) (hev _ _ (h2 rfl))
  |false=>exact .pure (y:=ρ b) mem (by simp[execOp,ho,hc,asBool]) (hev _ _ (h3 rfl))
 | @alloc T zs g hz0=>
  obtain⟨v,hv,hc⟩:=run_zeroValue' g w
  have J:=mem.alloc (i:=id) (ty:=T) (s:=zs.length) (es:=[zs.map ofV]) (cs:=v.cells) (j6 hz0) hid0 hid hidh (λk e X=>by
   cases k with
   |zero=>
    simp only[List.getElem?_cons_zero,Option.some.injEq] at X;subst X;exact⟨zs,uS zs,ψ,λj x A=>by rw[<-Array.getElem?_toList,hc];simpa using A⟩
   |succ k=>simp at X) (by simp[<-hc])
  refine .inl ⟨.pointer (some ⟨w.heap.size,0,none⟩),_,_,.inl ?_,J.1,⟨w.heap.size,zs.length,bq _ _ _,ψ⟩,J.2,λj A=>bF _ _ A⟩;simp[execOp,ho,Instr.alloc,hv,newVar,newRow]
 | @box T x a cs g h2 hz0=>
  have G:=qR (hev _ _ g) h2
  have J:=mem.alloc (i:=id) (ty:=T) (s:=cs.length) (es:=[cs]) (cs:=(ρ x).cells) (j6 hz0) hid0 hid hidh (λk e X=>by
   cases k with
   |zero=>
    simp only[List.getElem?_cons_zero,Option.some.injEq] at X;subst X;exact⟨_,G,rfl,λj y A=>by rw[<-Array.getElem?_toList];simpa using A⟩
   |succ k=>simp at X) (by have:=G.length;simp at this⊢;omega)
  refine .inl ⟨.pointer (some ⟨w.heap.size,0,none⟩),_,_,.inl ?_,J.1,⟨w.heap.size,cs.length,bq _ _ _,ψ⟩,J.2,λj A=>bF _ _ A⟩;simp[execOp,ho,Instr.box,newVar,newRow]
 | @load_l T x i e off B cs n g h2 h3 p C h6=>
  obtain⟨b,s,hb,hp'⟩:=hev _ _ g;obtain⟨b',cs',O,_,K,_⟩:=mem.cellsF h2;rw[hb] at O;cases O;have hg:=((K.get h3).1.drop off).take n;obtain⟨xs,Q,U⟩:=hg.vals;have hl:xs.length=n:=by rw[Q.length];simp;omega
  refine .pure (y:= .agg xs.toArray) mem ?_ ⟨_,rfl,Q⟩;simp[execOp,ho,Instr.loadAt,Instr.sureAddr,hp',j4 p C hl (λj v A=>by have:=U j v A;simpa using this)]
 | @load_l1 T x i e off B cs c g h2 h3 p C=>
  obtain⟨b,s,hb,hp'⟩:=hev _ _ g;obtain⟨b',cs',O,_,K,_⟩:=mem.cellsF h2;rw[hb] at O;cases O;obtain⟨y,Z,hy2⟩:=(K.get h3).1.get C;refine .pure (y:=y) mem ?_ hy2;simp[execOp,ho,Instr.loadAt,Instr.sureAddr,hp',j2 p (by simpa using Z)]
 | @load_a T x es i off cs n g h2 h3 p C=>
  obtain⟨_,b,o',s,hp',_,_,K⟩:=hev _ _ g;have hg:=((K.get h2).1.drop off).take n;obtain⟨xs,Q,U⟩:=hg.vals;have hl:xs.length=n:=by rw[Q.length];simp;omega
  refine .pure (y:= .agg xs.toArray) mem ?_ ⟨_,rfl,Q⟩;simp[execOp,ho,Instr.loadAt,Instr.sureAddr,hp',j4 h3 p hl U]
 | @load_a1 T x es i off cs c g h2 h3 p=>
  obtain⟨_,b,o',s,hp',_,_,K⟩:=hev _ _ g;obtain⟨y,Z,hy2⟩:=(K.get h2).1.get p;refine .pure (y:=y) mem ?_ hy2;simp[execOp,ho,Instr.loadAt,Instr.sureAddr,hp',j2 h3 Z]
 | @store T x y i e off B cs a vs g h2 h3 p C h6 h7 h8=>
  obtain⟨b,s,hb,hp'⟩:=hev _ _ g;obtain⟨b',cs',O,hh,K,hsz⟩:=mem.cellsF h2;rw[hb] at O;cases O;have L:=hev _ _ p;have hc:=qR L C;have R:=hc.length;have hcl:=(K.get h3).2;have hei:e< B.es.length:=(List.getElem?_eq_some_iff.1 h3).1;have hle:(e+1) * B.sz<=cs'.size:=Nat.le_trans (Nat.mul_le_mul_right _ hei) hsz;rw[Nat.add_mul,Nat.one_mul] at hle;obtain⟨w',r1,r2,r3,r4,r5⟩:=run_storeCells' (P:=P) (ρ y).cells.toList w cs' (e* B.sz+off) 0 hh ω (zN hc h6);have hwr:=mem.write (w':=w') (i:=i) (es:=B.es.set e (fz cs off vs)) (eb h2).2 (eb h2).1 hb r5 r4 r2 r3 (λk e' he'=>?_) (by simp[b4];simpa using hsz) (by simp[aU,hh,b4]);refine .inl ⟨undef,w',β,.inr ⟨?_,rfl⟩,hwr.1,rfl,hwr.2,λ_ _=>rfl⟩;simp only[Array.length_toList] at R;simp[execOp,ho,Instr.storeAt,Instr.sureAddr,hp',storeVar,run_sizeOf' h7,R,r1];rw[List.getElem?_set] at he';by_cases hek:e=k;subst hek;simp only[if_true,hei,Option.some.injEq] at he';subst he';obtain⟨xs,Q,U⟩:=(K.get h3).1.vals;refine⟨fz xs off (ρ y).cells.toList,yl Q hc,by rw[b4];exact hcl,λj v A=>?_⟩;have hxl:=Q.length;rw[fj] at A;rw[List.getElem?_toArray,fj];simp only[Nat.add_zero,Array.length_toList] at A⊢
  have hjl:j< xs.length:=by
   by_cases hjl:j< xs.length;exact hjl;exfalso;simp only[hjl,if_false] at A;split at A;cases A;rw[List.getElem?_eq_none ω] at A;cases A
  by_cases hin:off<=j/\j< off+(ρ y).cells.size;rw[if_pos hin,if_pos hjl] at A;rw[if_pos ω,if_pos ω,show e* B.sz+j- (e* B.sz+off)=j- off by omega];exact A;rw[if_neg hin] at A;rw[if_neg ω];have:=U j v A;simp only[World.cell?,hh] at this;simpa using this;rw[if_neg hek] at he';obtain⟨hc1,hc2⟩:=K.get he';obtain⟨xs,Q,U⟩:=hc1.vals;refine⟨xs,Q,hc2,λj v A=>?_⟩;have hxl:=Q.length;have hjl:j< xs.length:=(List.getElem?_eq_some_iff.1 A).1;rw[List.getElem?_toArray,fj]
  have hdis:¬(e* B.sz+off+0<=k* B.sz+j/\k* B.sz+j< e* B.sz+off+0+(ρ y).cells.toList.length):=by
   simp only[Array.length_toList] at R⊢;rcases Nat.lt_or_gt_of_ne hek with W|hgt
   have:=Nat.mul_le_mul_right B.sz (show e+1<=k from W);rw[Nat.add_mul,Nat.one_mul] at this;omega;have:=Nat.mul_le_mul_right B.sz (show k+1<=e from hgt);rw[Nat.add_mul,Nat.one_mul] at this;omega
  rw[if_neg hdis];have:=U j v A;simp only[World.cell?,hh] at this;simpa using this
 | @nilCheck x a g h2=>
  have G:=hev _ _ g;refine .pure (y:=ρ x) mem ?_ G;cases a with
  |lptr i e o'=>obtain⟨b,s,_,L⟩:=G;simp[execOp,ho,L]
  |aptr es i o'=>obtain⟨_,b,off,s,L,_⟩:=G;simp[execOp,ho,L]
  |clos f fst cap=>obtain⟨xs,Y,L,_⟩:=G;simp[execOp,ho,L]
  |_=>simp at h2
 | @bin bop T x y yt a b r g h2 h3=>
  have ha:ρ x=a:=hev _ _ g;have hb:ρ y=b:=hev _ _ h2;refine .pure (y:=r) mem ?_ rfl;have:=h3 w;simp only[execOp,ho,ha,hb];exact iH _ this
 | @bin_c bop T x y yt a b r g h2 h3=>
  subst h2;have ha:=hev _ _ g;have hb:ρ (.const b)=b:=hcst b;refine .pure (y:=r) mem ?_ rfl;have:=h3 _ _ _ _ ha w;simp only[execOp,ho,hb];exact iH _ this
 | @un uop T x a r g h2=>
  have ha:ρ x=a:=hev _ _ g;refine .pure (y:=r) mem ?_ rfl;simp only[execOp,ho,ha];exact iH _ (h2 w)
 | @conv S D x a r g h2=>
  have ha:ρ x=a:=hev _ _ g;refine .pure (y:=r) mem ?_ rfl;simp only[execOp,ho,ha];exact iH _ (h2 w)
 | @extract t i cs c g h2=>
  obtain⟨xs,G,K⟩:=hev _ _ g;obtain⟨y,Z,hy2⟩:=FM K h2;refine .pure (y:=y) mem ?_ hy2;simp[execOp,ho,G,Instr.extract,Z]
 | @build T parts zs pl as cs g h2 h3 p=>
  obtain⟨v,hv,hc⟩:=run_zeroValue' g w;have V:=js (xs:=parts.toList.map (·.2)) hev h3;obtain⟨Y,Z,hy2⟩:=GK (xs:=v.cells) (IF V) (by rw[hc];exact uS zs) p;refine .pure (y:= .agg Y) mem ?_ ⟨_,rfl,hy2⟩;unfold wh at h2;cases hu:P.underlying T with
  |none=>simp[hu] at h2
  |some d=>
   rw[hu] at h2;cases d with
   |struct fs=>
    simp only[] at h2;have hm:=ny fs.toList pl w h2
    have hm':(fs.mapM λf=>(do pure (f.offset,<-sizeOf f.type):Sem (Nat×Nat))).run P w= .ok pl.toArray w:=by
     rw[Array.mapM_eq_mapM_toList,Sem.run_map,hm];rfl
    have hq:(parts.map λq=>(q.1,ρ q.2)).toList=parts.toList.map λq=>(q.1,ρ q.2):=ψ
    have hfill:Instr.fill (λi=>pl.toArray[i]?) v.cells (parts.map λq=>(q.1,ρ q.2)).toList=some Y:=by
     rw[hq];simpa using Z
    simp only[execOp,ho];refine iH _ ?_;simp only[Instr.build,Sem.run_bind,hv,Result.andThen_ok,run_underlying hu w];simp only[hm',Result.andThen_ok];rw[hfill];rfl
   |_=>simp at h2
 | @fieldAddr_l T x f i e off' foff s g h2 h3=>
  obtain⟨b,sz,hb,G⟩:=hev _ _ g;refine .pure (y:= .pointer (some ⟨b,e* sz+off'+foff,none⟩)) mem ?_ ⟨b,sz,hb,by rw[Nat.add_assoc]⟩;simp only[execOp,ho,G];exact iH _ (ut h2 h3 _ _ _)
 | @fieldAddr_a T x f es i off' foff s g h2 h3=>
  obtain⟨hi,b,boff,sz,G,K⟩:=hev _ _ g;refine .pure (y:= .pointer (some ⟨b,boff+i* sz+off'+foff,none⟩)) mem ?_ ⟨hi,b,boff,sz,by rw[Nat.add_assoc (boff+i* sz)],K⟩;simp only[execOp,ho,G];exact iH _ (ut h2 h3 _ _ _)
 | @field T x f cs foff s g h2 h3 p=>
  obtain⟨xs,G,K⟩:=hev _ _ g;have hl:=K.length;simp only[Array.length_toList] at hl;refine .pure (y:= .agg (xs.extract foff (foff+s))) mem ?_ ⟨_,rfl,?_⟩;simp only[execOp,ho,G];exact iH _ (xU h2 h3 _ _);rw[Array.toList_extract,List.extract_eq_take_drop];have:=(K.drop foff).take s;simpa using this
 | @field1 T x f cs foff s c g h2 h3 p=>
  obtain⟨xs,G,K⟩:=hev _ _ g;obtain⟨y,Z,hy2⟩:=FM K p;refine .pure (y:=y) mem ?_ hy2;simp only[execOp,ho,G];exact iH _ (xT h2 h3 Z _)
 | @index_l T x ix i e n c E sz kd k g h2 h3 p C=>
  obtain⟨b,c',hb,G,hnc,_⟩:=hev _ _ g;have hix:ρ ix= .int kd k:=hev _ _ h2;refine .pure (y:= .pointer (some ⟨b,e* sz+k.toNat* sz,none⟩)) mem ?_ ⟨b,sz,hb,by simp[Nat.add_mul]⟩;simp only[execOp,ho,G,hix];exact iH _ (ur C h3 p _)
 | @index_a T x ix es E sz kd k cs g h2 h3 p C h6=>
  obtain⟨a,c',G,hnc,_,K⟩:=hev _ _ g;have hix:ρ ix= .int kd k:=hev _ _ h2;have W:k.toNat< es.length:=(List.getElem?_eq_some_iff.1 p).1;rcases K with rfl|⟨b,off,s,rfl,hb,hm,K⟩
  simp at W;have hs:s=sz:=by rw[<-(K.get p).2];exact C
  subst hs;refine .pure (y:= .pointer (some ⟨b,off+k.toNat* s,none⟩)) mem ?_ ⟨W,b,off,s,ψ,hb,hm,K⟩;simp only[execOp,ho,G,hix];exact iH _ (ur h6 h3 ω _)
 | @index_s T x ix a b r g h2 h3=>
  have ha:ρ x=a:=hev _ _ g;have hb:ρ ix=b:=hev _ _ h2;refine .pure (y:=r) mem ?_ rfl;simp only[execOp,ho,ha,hb];exact iH _ (h3 w)
 | @makeFunc f first captured as bs g h2=>
  have ha:=js hev g;have hb:=js hev h2;refine .pure (y:= .func (.func f) (first.map ρ) (captured.map ρ)) mem ?_ ⟨_,_,rfl,by simpa using ha,by simpa using hb⟩;simp only[execOp,ho];exact iH _ rfl
 | @call c callee f fst cap as r g h2 h3 p=>
  obtain⟨xs,Y,G,hr1,hr2⟩:=hev _ _ h2;have V:=js hev h3;have hall:=iF ((hr1.append V).append hr2);have hcl:RVs (MM M0 β hp) (λ_=>none) w ((fst++as++cap).map coe) (xs.toList++c.args.toList.map ρ++Y.toList):=eu p.cl hall;refine .inr ⟨f,xs++c.args.map ρ++Y,?_,?_⟩;simp only[execOp,ho];simp only[resolve,g,G,Deferred.ofValue,Sem.run_bind,Sem.run_pure,Result.andThen_ok,invoke,p.enters];have hc:=p.calls (MM M0 β hp) w _ mem.fit hcl
  have X:(xs.toList++c.args.toList.map ρ++Y.toList).toArray=xs++c.args.map ρ++Y:=by
   apply Array.ext';simp
  rw[X] at hc;refine hc.mono ?_;rintro e w' ⟨y,rfl,L,hb⟩;have hm:=mem.ext hb;exact⟨y,rfl,β,hm.1,(StabC.all (w:=w') (w':=w') (M:=MM M0 β hp) (M':=MM M0 β hp) (β:=λ_=>none) (β':=β) ⟨λ_ _ _ _=>rfl,λ_ _ _ h=>h,(λ_ _ h=>by cases h),λ_ _ h=>h⟩ L),hm.2,λ_ _=>rfl⟩
 | @callS c callee f fst cap as as' ids r g h2 h3 p C=>
  obtain⟨xs,Y,G,hr1,hr2⟩:=hev _ _ h2;have V:=js hev h3;have hcl:=By mem p (λ_ h=>h) ((hr1.append V).append hr2) C.cl;refine .inr ⟨f,xs++c.args.map ρ++Y,?_,?_⟩;simp only[execOp,ho];simp only[resolve,g,G,Deferred.ofValue,Sem.run_bind,Sem.run_pure,Result.andThen_ok,invoke,C.enters]
  have hsub:∀i B,ed hp rd i=some B->hp i=some B:=λi B h=>by
   simp only[ed] at h;split at h;cases h;exact h
  have hM:∀b,MM M0 β (ed hp rd) b->MM M0 β hp b:=by
   rintro b (hb|⟨i,B,s,g1,g2⟩);exact .inl hb;exact .inr ⟨i,B,s,hsub i B g1,g2⟩
  have hc:=C.calls (MM M0 β (ed hp rd)) w _ (mem.fit.sub hM) hcl
  have X:(xs.toList++c.args.toList.map ρ++Y.toList).toArray=xs++c.args.map ρ++Y:=by
   apply Array.ext';simp
  rw[X] at hc;refine hc.mono ?_;rintro e w' ⟨y,rfl,L,hb⟩;have hm:=mem.ext hb;have hf:=hm.1.forget hsub;refine⟨y,rfl,β,?_⟩;unfold oC;rw[ue];exact⟨hf.1,(StabC.all (w:=w') (w':=w') (M:=MM M0 β (ed hp rd)) (M':=MM M0 β (ed hp rd)) (β:=λ_=>none) (β':=β) ⟨λ_ _ _ _=>rfl,λ_ _ _ h=>h,(λ_ _ h=>by cases h),λ_ _ h=>h⟩ L),hm.2.trans hf.2 hb.size,λ_ _=>rfl⟩
 | @callE c callee f x0 rest as i e n cap B E' r g h2 h3 p C h6 h7=>
  obtain⟨xs,Y,G,hr1,hr2⟩:=hev _ _ h2;have hxs:xs.toList=[]:=hr1;have hys:Y.toList=[]:=hr2;have hargs:c.args.map ρ=(ρ x0::rest.map ρ).toArray:=by apply Array.ext';simp[h3]
  have V:=iF (js hev C);obtain⟨b,cs,hb,hh,K,hl⟩:=mem.cellsF h6;have hmb:MM M0 β hp b:= .inr ⟨i,B,_,(eb h6).1,hb⟩;have hst:StabC (MM M0 β hp) (MM M0 β hp) (λ_=>none) β w w:=⟨λ_ _ _ _=>rfl,λ_ _ _ h=>h,(λ_ _ h=>by cases h),λ_ _ h=>h⟩;refine .inr ⟨f,(ρ x0::rest.map ρ).toArray,?_,?_⟩;simp only[execOp,ho];simp only[resolve,g,G,Deferred.ofValue,Sem.run_bind,Sem.run_pure,Result.andThen_ok,invoke];rw[hargs,show xs= #[] from Array.ext' hxs,show Y= #[] from Array.ext' hys,Array.empty_append,Array.append_empty];simp only[h7.enters]
  have hlsl:RV (MM M0 β hp) (λi=>if i=0 then some (b,B.sz) else none) w (.lsl 0 e n cap B.sz) (ρ x0):=by
   obtain⟨b',c',O,hrest⟩:=hev _ _ p;rw[hb] at O;cases O;exact⟨b,c',rfl,hrest⟩
  refine(h7.calls (MM M0 β hp) w b (ρ x0) _ mem.fit hmb ⟨cs,hh,iG h7.clE K,hl⟩ hlsl (eu h7.cl V)).mono ?_;rintro x w' ⟨rfl,⟨cs',hh',hr',hl'⟩,hbut⟩;have hm:=mem.but (eb h6).2 hbut (eb h6).1 hb hh' hr' hl';exact⟨r,rfl,β,hm.1,rfl,hm.2,λ_ _=>rfl⟩
 | @callO c callee f as ty sz es g h2 h3 p=>
  obtain⟨xs,Y,G,hr1,hr2⟩:=hev _ _ h2;have hxs:xs.toList=[]:=hr1;have hys:Y.toList=[]:=hr2;have V:=iF (js hev h3);refine .inr ⟨f,c.args.map ρ,?_,?_⟩;simp only[execOp,ho];simp only[resolve,g,G,Deferred.ofValue,Sem.run_bind,Sem.run_pure,Result.andThen_ok,invoke];rw[show xs= #[] from Array.ext' hxs,show Y= #[] from Array.ext' hys,Array.empty_append,Array.append_empty];simp only[p.enters];have hc:=p.calls (MM M0 β hp) w _ mem.fit (eu p.cl V);have X:(c.args.toList.map ρ).toArray=c.args.map ρ:=by apply Array.ext';simp
  rw[X] at hc;refine hc.mono ?_;rintro x w' ⟨b,cc,rfl,hb1,hb2,hc1,hc2,⟨cs,hh,K,hl⟩,hbel⟩;have hm:=mem.own p.sz0 hbel hid0 hid hidh hb1 hb2 hh K (Nat.le_trans (Nat.mul_le_mul_right _ hc1) hl);refine⟨_,rfl,_,hm.1,⟨b,cc,bq _ _ _,ψ,hc1,hc2,(λ_ h=>by cases h),cs.size,by simp[aU,hh],by simpa using hl⟩,hm.2,λj A=>bF _ _ A⟩
 | @len c x a n T d g h2 h3 p C h6=>
  have G:=hev _ _ p;obtain⟨hu,_⟩:=eo h6;refine .pure (y:= .int .i64 n) mem ?_ rfl
  have hb:∀(b:Option Addr) (c':Nat),ρ x= .slice b n c'->(execOp ρ o).run P w= .ok (.value (.int .i64 n)) w:=by
   intro b c' hb;simp[execOp,ho,resolve,g,h2,h3,hb,invoke,builtin,Builtin.len_,run_underlying hu,goInt]
  cases a with
  |arr es=>simp only[tl,Option.some.injEq] at C;subst C;obtain⟨b,c',L,_⟩:=G;exact hb b c' L
  |lsl i e k cap sz=>simp only[tl,Option.some.injEq] at C;subst C;obtain⟨b,c',_,L,_⟩:=G;exact hb _ c' L
  |emp=>simp only[tl,Option.some.injEq] at C;subst C;obtain⟨b,L⟩:=G;exact hb b 0 L
  |_=>simp[tl] at C
 | @builtinV c b vs r g h2 h3=>
  have V:=js hev h2
  have hv:c.args.toList.map ρ=vs:=by
   clear h3 ho h2;generalize c.args.toList.map ρ=Y at V
   induction vs generalizing Y with
   |nil=>exact V
   |cons v vs ih=>obtain⟨x,xs,rfl,e,h⟩:=V;cases (e:x=v);rw[ih xs h]
  have hargs:c.args.map ρ=vs.toArray:=by apply Array.ext';simp[hv]
  refine .pure (y:=r) mem ?_ rfl;simp only[execOp,ho,resolve,g,Sem.run_bind,Sem.run_pure,Result.andThen_ok,invoke,hargs];exact h3 w _ _
 | @slice_a T x lo hi mx es l h d g h2 h3 p C h6=>
  obtain⟨a,c,G,hnc,hcm,K⟩:=hev _ _ g;obtain⟨N,r1,r2,r3,_⟩:=FO (P:=P) hev h2 hnc (λ_ h=>by cases h) h3 p;have H:=run_sliceAt' (s:=d.2) (E:=d.1) C (a:=a) r1;have R:((es.drop l).take (h- l)).length=h- l:=χ
  refine .pure (y:= .slice (if N=l then a else a.map (·.add (l* d.2))) (h- l) (N- l)) mem ?_ ?_;simp only[execOp,ho,G];exact iH _ H;refine⟨_,N- l,by rw[R],by rw[R];omega,ω,?_⟩;by_cases W:l< h;right;have hes:es≠[]:=λe=>by subst e;simp at p;omega
  rcases K with rfl|⟨b,off,s,rfl,hN,hm,K⟩
  exact absurd rfl hes
  have hs:s=d.2:=by
   cases es with
   |nil=>exact absurd rfl hes
   |cons e es=>rw[<-h6 hes e (List.mem_cons_self ..)];exact K.1.symm
  subst hs;exact⟨b,off+l* d.2,d.2,by rw[if_neg ω];simp[lc],hN,hm,(K.drop l).take _⟩;left;rw[show h- l=0 by omega];rfl
 | @slice_l T x lo hi mx i e n cap sz l h m E g h2 h3 p C h6=>
  obtain⟨b,c,hb,G,hnc,hcm,hcap,N0,hN1,hN2⟩:=hev _ _ g;obtain⟨N,r1,r2,r3,r4⟩:=FO (P:=P) hev h2 hnc hcap h3 p;have H:=run_sliceAt' h6 (a:=some ⟨b,e* sz,none⟩) r1
  have haddr:(if N=l then some (⟨b,e* sz,none⟩:Addr) else(some ⟨b,e* sz,none⟩:Option Addr).map (·.add (l* sz)))=some ⟨b,(e+l) * sz,none⟩:=by
   split;have:l=0:=ω
   subst this;rfl;simp[lc,Nat.add_mul]
  rw[haddr] at H;refine .pure (y:= .slice (some ⟨b,(e+l) * sz,none⟩) (h- l) (N- l)) mem ?_ ⟨b,N- l,hb,rfl,ω,ω,λk hk=>?_,N0,hN1,?_⟩;simp only[execOp,ho,G];exact iH _ H;cases m with
  |none=>cases hk
  |some m'=>simp only[Option.map_some,Option.some.injEq] at hk;rw[r4 m' rfl];exact hk
  exact Nat.le_trans (Nat.mul_le_mul_right _ ω) hN2
 | @slice_e T x lo hi mx a d g h2 h3 p C h6=>
  obtain⟨kh,p⟩:=p;obtain⟨km,C⟩:=C;have G:=hev _ _ g
  have hs:∃b n c,ρ x= .slice b n c:=by
   cases a with
   |arr es=>obtain⟨b,c,L,_⟩:=G;exact⟨_,_,_,L⟩
   |lsl i e k cap sz=>obtain⟨b,c',_,L,_⟩:=G;exact⟨_,_,_,L⟩
   |emp=>obtain⟨b,L⟩:=G;exact⟨_,_,_,L⟩
   |_=>simp at h2
  obtain⟨b,n,c,L⟩:=hs
  have hb:(Instr.sliceBounds true n c (lo.map ρ) (hi.map ρ) (mx.map ρ)).run P w= .ok (0,0,0) w:=by
   rw[kj hev h3,kj hev p,kj hev C];have r1:∀k y code,(Instr.sliceBound (.int k 0) y code).run P w= .ok 0 w:=λk y code=>eS (i:=0) (Nat.zero_le _) code w;simp[Instr.sliceBounds,r1]
  refine .pure (y:= .slice b 0 0) mem ?_ ⟨b,rfl⟩;simp only[execOp,ho,L];refine iH _ ?_;have:=run_sliceAt' (s:=d.2) (E:=d.1) h6 (a:=b) hb;simpa using this
 | @slice_v T x lo hi mx a lv hv mv r g h2 h3 p C=>
  have ha:ρ x=a:=hev _ _ g;refine .pure (y:=r) mem ?_ rfl;simp only[execOp,ho,ha,kj hev h2,kj hev h3,kj hev p];exact iH _ (C w)
 | @makeSlice T lo co kl kc E sz zs bs l c g h2 h3 p C h6 h7 h8 h9 hz0=>
  have hl:ρ lo= .int kl l:=hev _ _ g;have hc:ρ co= .int kc c:=hev _ _ h2;obtain⟨hu,hz⟩:=eo h3;obtain⟨inf,z,i1,i2,i3,i4,i5⟩:=Ak hz p h6;have h9':(c:Int)<=9223372036854775807:=by unfold maxLen at h9;omega
  have O:(inf.bytes:Int) * (c:Int)<=281474976710656:=by
   rw[i5];have:((bs* c:Nat):Int)<=281474976710656:=ω
   rwa[Int.natCast_mul] at this
  have H:=run_make (P:=P) w T E inf z hu i1 i2 kl kc l c ω ω O h9';simp only[Int.toNat_natCast] at H;have hzs:z.cells.size=sz:=by rw[<-Array.length_toList,i3];exact C
  have J:=mem.alloc (i:=id) (ty:=E) (s:=sz) (es:=List.replicate c (zs.map ofV)) (cs:=madeCells z.cells (c* inf.size)) (j6 hz0) hid0 hid hidh (λk e X=>by
   rw[List.getElem?_replicate] at X;split at X
   ·rename_i hk
    simp only[Option.some.injEq] at X;subst X;refine⟨zs,uS zs,by simp[C],λj v A=>?_⟩;have hjl:j< sz:=by rw[<-C];exact(List.getElem?_eq_some_iff.1 A).1
    have W:k* sz+j< c* sz:=by
     have:(k+1) * sz<=c* sz:=Nat.mul_le_mul_right _ hk;rw[Nat.add_mul] at this;omega
    have hmod:(k* sz+j) % sz=j:=by rw[Nat.mul_comm,Nat.mul_add_mod];exact Nat.mod_eq_of_lt hjl
    rw[i4];simp only[madeCells,Array.getElem?_map,Array.getElem?_range,W,if_true,Option.map_some,hzs,hmod];rw[<-i3] at A;rw[Array.getElem?_toList] at A;simp[getElem!_def,A]
   cases X) (by simp[i4,size_madeCells])
  refine .inl ⟨.slice (some ⟨w.heap.size,0,none⟩) l c,_,_,.inl ?_,J.1,⟨w.heap.size,c,bq _ _ _,?_,h7,h9,λk hk=>by simpa using hk,c* sz,?_,ψ⟩,J.2,λj A=>bF _ _ A⟩;simp only[execOp,ho,hl,hc];exact iH _ H;simp;unfold aU;rw[heap_alloc_new'];simp[i4,size_madeCells]
 | @buildSlice T len parts E sz zs as es g h2 h3 p C h6 h7 h8 hz0=>
  obtain⟨hu,hz⟩:=eo g;obtain⟨z,hzr,hzc⟩:=run_zeroValue' h2 w;have V:=js (xs:=parts.toList.map (·.2)) hev h6;obtain⟨hl1,hl2⟩:=zb V h7;have R:parts.toList.length=len:=by have:=congrArg List.length C;simpa using this
  have hesl:es.length=len:=by rw[hl1];simp;simpa using R
  have hq:(parts.map λq=>(q.1,ρ q.2)).toList=(List.range' 0 ((parts.toList.map (·.2)).map ρ).length).zip ((parts.toList.map (·.2)).map ρ):=by
   have e1:List.range' 0 ((parts.toList.map (·.2)).map ρ).length=parts.toList.map (·.1):=by
    rw[C,List.range_eq_range'];congr 1;simp;simpa using R
   rw[e1,Array.toList_map,List.map_map,List.zip_map'];rfl
  have hcells:∀v∈(parts.toList.map (·.2)).map ρ,v.cells.size=sz:=by
   intro v hv;obtain⟨i,hi,hvi⟩:=List.mem_iff_getElem.1 hv;have hil:i< es.length:=by rw[hl1];exact hi
   obtain⟨x,Q,U⟩:=hl2 i es[i] (List.getElem?_eq_getElem hil);rw[List.getElem?_eq_getElem hi,Option.some.injEq,hvi] at Q;subst Q;have:=U.length;rw[<-Array.length_toList,this];exact h8 _ (List.getElem_mem hil)
  have hzsz:z.cells.size=sz:=by rw[<-Array.length_toList,hzc];exact h3
  obtain⟨Y,f1,f2,f3,_⟩:=Cq (sz:=sz) ((parts.toList.map (·.2)).map ρ) 0 ((Array.range (len* sz)).map ((if len* sz=0 then #[] else z.cells)[· % (if len* sz=0 then #[] else z.cells).size]!)) hcells (by simp;rw[<-R];simp)
  have J:=mem.alloc (i:=id) (ty:=E) (s:=sz) (es:=es) (cs:=Y) (j6 hz0) hid0 hid hidh (λk e X=>by
   obtain⟨x,Q,U⟩:=hl2 k e X;refine⟨x.cells.toList,U,h8 e (List.mem_of_getElem? X),λj v A=>?_⟩;have:=f3 k x Q j v (by simpa using A);simpa using this) (by rw[f2];simp[hesl])
  refine .inl ⟨.slice (some ⟨w.heap.size,0,none⟩) len len,_,_,.inl ?_,J.1,⟨w.heap.size,len,bq _ _ _,ψ,Nat.le_refl _,?_,λk hk=>by simpa using hk,len* sz,?_,ψ⟩,J.2,λj A=>bF _ _ A⟩;simp only[execOp,ho];refine iH _ ?_;rw[<-hq] at f1;by_cases h0:len* sz=0;simp only[h0,if_true] at f1;simp only[Instr.buildSlice,Sem.run_bind,run_underlying hu w,Result.andThen_ok,run_sizeOf' hz,h0,show¬(0> 2^ 24) by omega,if_false,if_true,Sem.run_pure,f1,newRow,run_newObj];rfl;simp only[h0,if_false] at f1;simp only[Instr.buildSlice,Sem.run_bind,run_underlying hu w,Result.andThen_ok,run_sizeOf' hz,h0,show¬(len* sz> 2^ 24) by have:=p.1;omega,if_false,hzr,Sem.run_pure,f1,newRow,run_newObj];rfl;have:=p.2;unfold maxLen;omega;unfold aU;rw[heap_alloc_new'];simp[f2]
 | @append0 c x y T T' E sz a rd g h2 h3 p C h6 h7 h8=>
  obtain⟨b,G⟩:=hev _ _ h6;obtain⟨xs,c',_,⟨a',L⟩,_,H⟩:=h8.run (P:=P) mem (hev _ _ h7);obtain⟨⟨E',sz'⟩,C⟩:=Option.isSome_iff_exists.1 C;have h0:=H 0 (Nat.zero_le _) w rfl;simp only[List.length_nil] at L;rw[L] at h0;simp only[Nat.zero_mul,List.take_zero] at h0;refine .pure (y:= .slice b 0 0) mem ?_ ⟨b,rfl⟩;simp only[execOp,ho,resolve,g,h2,Sem.run_bind,Sem.run_pure,Result.andThen_ok,invoke,builtin,List.map_toArray,List.map_cons,List.map_nil,G,L,h3,vZ p C _ h0]
 | @append_e c x y T T' E sz a rd es zs bs g h2 h3 p C h6 h7 h8 h9 h10 h11 h12 h13 h14 hz0=>
  obtain⟨b,G⟩:=hev _ _ h6;obtain⟨xs,c',F,⟨a',L⟩,_,H⟩:=h8.run (P:=P) mem (hev _ _ h7);obtain⟨⟨E',sz'⟩,C⟩:=Option.isSome_iff_exists.1 C;have hn:=H es.length (Nat.le_refl _);rw[L,<-F.1,List.take_length] at hn;have hpos:0< es.length:=by cases es with|nil=>exact absurd rfl h9|cons e es=>simp
  have hold:∀w':World,w'.heap=w.heap->(Builtin.firstCells sz 0 (.slice b 0 0)).run P w'= .ok #[] w':=by
   intro w' _;cases b with
   |none=>rfl
   |some ad=>simp[Builtin.firstCells,loadCells,loadCellsFrom]
  obtain⟨nc,z,g1,g2,g3,K⟩:=nA (w:=w) (n:=0) (m:=es.length) (c:=0) (c':=c') (a':=a') (base:=b) p C h10 h12 ω (by simpa using h13) (by simpa using h14) o.type hold hn;have hzs:z.size=sz:=by rw[<-Array.length_toList,g3];exact h11
  have hdr:=mem.ext ((Below.refl w.heap.size w).drew)
  have J:=hdr.1.alloc (i:=id) (ty:=E) (s:=sz) (es:=es) (cs:= #[]++xs.toArray++Builtin.zeroCells z (nc- (0+es.length))) (j6 hz0) hid0 hid hidh (λk e X=>by
   obtain⟨Y,r1,r2,r3⟩:=F.2 k e X;refine⟨Y,hdr.2.vs r1,r2,λj v A=>?_⟩;have:=r3 j v A;have W:=(List.getElem?_eq_some_iff.1 this).1;rw[Array.getElem?_append_left (by simpa using W)];simpa using this) (by simp[F.1])
  refine .inl ⟨.slice (some ⟨w.heap.size,0,none⟩) es.length nc,_,_,.inl ?_,J.1,⟨w.heap.size,nc,bq _ _ _,ψ,ω,by unfold maxLen;omega,(λk hk=>by cases hk),nc* sz,?_,ψ⟩,⟨⟨λbb N hN hm=>(J.2.heap bb N hN hm),J.2.m,J.2.be,J.2.sz⟩,J.2.oth⟩,λj A=>bF _ _ A⟩;simp only[execOp,ho,resolve,g,h2,Sem.run_bind,Sem.run_pure,Result.andThen_ok,invoke,builtin,List.map_toArray,List.map_cons,List.map_nil,G,L,h3,K,Nat.zero_add];unfold aU;have:(w.drew.alloc (.cells (#[]++xs.toArray++Builtin.zeroCells z (nc- (0+es.length))) E)).heap[w.heap.size]?=_:=heap_alloc_new' w.drew _;rw[this];simp only[Array.size_append,List.size_toArray,List.length_nil,F.1,iC,hzs,Option.some.injEq];rw[Nat.zero_add,<-Nat.add_mul];congr 1;omega
 | @append_l c x y T T' E sz a rd es zs bs i n cap B g h2 h3 p C h6 h7 h8 h9 h10 h11 h12 h13 h14 h15 h16 h17 h18 h19=>
  subst h8 h9 h10;have hxv:=hev _ _ h6
  have hsrcx:SrcOf hp B.sz (.lsl i 0 B.es.length cap B.sz) B.es [i]:=by
   have:=SrcOf.lsl (s:=B.sz) (hp:=hp) (i:=i) (e:=0) (n:=B.es.length) (cap:=cap) h7 ω;simpa using this
  obtain⟨xs0,c,hflat0,⟨a0,G⟩,_,hrun0⟩:=hsrcx.run (P:=P) mem hxv;obtain⟨b,c2,hb,U,hnc,hcm,hcap,N,hN,hcN⟩:=hxv;rw[G] at U;simp only[Value.slice.injEq,true_and] at U;obtain⟨rfl,rfl⟩:=U;obtain⟨xs,c',F,⟨a',L⟩,_,H⟩:=h14.run (P:=P) mem (hev _ _ h13);obtain⟨⟨E',sz'⟩,C⟩:=Option.isSome_iff_exists.1 C;have hn:=H es.length (Nat.le_refl _);rw[L,<-F.1,List.take_length] at hn;have h7s:=eb h7;have hne:i≠id:=λe=>by subst e;rw[hidh] at h7s;cases h7s.1
  simp only[Nat.zero_mul] at G hcN;rw[Nat.zero_add] at hcN;by_cases hroom:B.es.length+es.length<=c;have hle:(B.es.length+es.length) * B.sz<=N:=Nat.le_trans (Nat.mul_le_mul_right _ hroom) hcN
  obtain⟨w',r1,r2,r3,r4⟩:=mem.storeEls (P:=P) (e:=B.es.length) (es':=B.es++es) h7s.2 h7s.1 hb F (F.one h12) hN hle (λq el hq=>by
   by_cases hql:q< B.es.length;rw[List.getElem?_append_left hql] at hq;exact .inr ⟨.inl hql,hq⟩;rw[List.getElem?_append_right ω] at hq;have:=(List.getElem?_eq_some_iff.1 hq).1;exact .inl ⟨ω,ω,hq⟩) (by simpa using hle)
  have hrn:=r2.rename (i:=i) (id:=id) (B:=⟨B.ty,B.sz,B.es++es⟩) (bq _ _ _) hb hid0 hid (by rw[bF _ _ (λe=>hne e.symm)];exact hidh);rw[qF] at hrn;refine .inl ⟨.slice (some ⟨b,0,none⟩) (B.es.length+es.length) c,w',_,.inl ?_,hrn.1,⟨b,c,bq _ _ _,ψ,hroom,hcm,(λk hk=>by cases hk),N,r3.sz b N hN,by rw[Nat.zero_add];exact hcN⟩,r3.trans hrn.2 ω,λj A=>bF _ _ A⟩;have K:=uK (P:=P) (w:=w) (w':=w') (b:=b) (off:=0) (n:=B.es.length) (m:=es.length) (c:=c) (c':=c') (a':=a') (new:=xs.toArray) p C hroom o.type (hn w rfl) (by simpa using r1);simp only[execOp,ho,resolve,g,h2,Sem.run_bind,Sem.run_pure,Result.andThen_ok,invoke,builtin,List.map_toArray,List.map_cons,List.map_nil,G,L,h3,K];have hold:=hrun0 B.es.length (Nat.le_refl _);rw[G,<-hflat0.1,List.take_length] at hold;obtain⟨nc,z,g1,g2,g3,K⟩:=nA (w:=w) (n:=B.es.length) (m:=es.length) (c:=c) (c':=c') (a':=a') (base:=some ⟨b,0,none⟩) p C h15 h17 ω h18 h19 o.type hold hn;have hzs:z.size=B.sz:=by rw[<-Array.length_toList,g3];exact h16
  have hdr:=mem.ext ((Below.refl w.heap.size w).drew);have hboth:=(F.append hflat0).stab hdr.2.toStabC
  have J:=hdr.1.alloc (i:=id) (ty:=B.ty) (s:=B.sz) (es:=B.es++es) (cs:=xs0.toArray++xs.toArray++Builtin.zeroCells z (nc- (B.es.length+es.length))) h7s.2 hid0 hid hidh (λk e X=>by
   obtain⟨Y,q1,q2,q3⟩:=hboth.2 k e X;refine⟨Y,q1,q2,λj v A=>?_⟩;have p:=q3 j v A;have W:=(List.getElem?_eq_some_iff.1 p).1;rw[Array.getElem?_append_left (by simpa using W)];simpa using p) (by have:=hboth.1;simp at this⊢;omega)
  have hfg:=J.1.forget (hp':=upd (upd hp i none) id (some ⟨B.ty,B.sz,B.es++es⟩)) (λj B' A=>by
   by_cases hji:j=id;subst hji;rw[bq] at A⊢;exact A;rw[bF _ _ hji] at A⊢;by_cases hj2:j=i;subst hj2;rw[bq] at A;cases A;rw[bF _ _ hj2] at A;exact A)
  refine .inl ⟨.slice (some ⟨w.heap.size,0,none⟩) (B.es.length+es.length) nc,_,_,.inl ?_,hfg.1,⟨w.heap.size,nc,bq _ _ _,ψ,ω,by unfold maxLen;omega,(λk hk=>by cases hk),nc* B.sz,?_,ψ⟩,(hdr.2.trans J.2 (Nat.le_refl _)).trans hfg.2 ψ,λj A=>bF _ _ A⟩;simp only[execOp,ho,resolve,g,h2,Sem.run_bind,Sem.run_pure,Result.andThen_ok,invoke,builtin,List.map_toArray,List.map_cons,List.map_nil,G,L,h3,K];unfold aU;have:(w.drew.alloc (.cells (xs0.toArray++xs.toArray++Builtin.zeroCells z (nc- (B.es.length+es.length))) B.ty)).heap[w.heap.size]?=_:=heap_alloc_new' w.drew _;rw[this];simp only[Array.size_append,List.size_toArray,F.1,hflat0.1,iC,hzs,Option.some.injEq];rw[<-Nat.add_mul,<-Nat.add_mul];congr 1;omega
 | @copy c x y T T' E sz a rd es i e n cap B g h2 h3 p C h6 h7 h8 h9 h10 h11=>
  subst h7;obtain⟨b,c2,hb,G,hnc,hcm,hcap,N,hN,hcN⟩:=hev _ _ C;obtain⟨xs,c',F,⟨a',L⟩,_,H⟩:=h11.run (P:=P) mem (hev _ _ h10);have hkl:Nat.min es.length n<=es.length:=Nat.min_le_left _ _;have hkn:Nat.min es.length n<=n:=Nat.min_le_right _ _;have hn:=H (Nat.min es.length n) hkl w rfl;rw[L] at hn;have hft:=F.take (Nat.min es.length n);have W:(es.take (Nat.min es.length n)).length=Nat.min es.length n:=by rw[List.length_take];omega
  rw[W] at hft;have hsl:(fz B.es e (es.take (Nat.min es.length n))).length=B.es.length:=b4 _ _ _
  have hBN:B.es.length* B.sz<=N:=by
   obtain⟨b',cs,O,hh,_,hsz⟩:=mem.cellsF h6;rw[hb] at O;cases O;have:cs.size=N:=by simpa[aU,hh] using hN
   omega
  obtain⟨w',r1,r2,r3,r4⟩:=mem.storeEls (P:=P) (e:=e) (es':=fz B.es e (es.take (Nat.min es.length n))) (eb h6).2 (eb h6).1 hb hft (λv hv=>F.one h9 v (List.mem_of_mem_take hv)) hN (by rw[W];exact Nat.le_trans (Nat.mul_le_mul_right _ ω) hBN) (λq el hq=>by
   rw[fj] at hq;split at hq
   ·rename_i hin
    split at hq;exact .inl ⟨hin.1,hin.2,hq⟩;cases hq
   ·rename_i hin
    exact .inr ⟨ω,hq⟩) (by rw[hsl];exact hBN)
  refine .inl ⟨.int .i64 (Nat.min es.length n),w',β,.inl ?_,r2,rfl,r3,λ_ _=>rfl⟩;have K:=Ja (P:=P) (w:=w) (w':=w') (T':=T') (b:=b) (off:=e* B.sz) (n:=n) (m:=es.length) (c:=c2) (c':=c') (a':=a') p o.type hn r1;simp only[execOp,ho,resolve,g,h2,Sem.run_bind,Sem.run_pure,Result.andThen_ok,invoke,builtin,List.map_toArray,List.map_cons,List.map_nil,G,L,h3,K]
end
end
end Go.Abs
