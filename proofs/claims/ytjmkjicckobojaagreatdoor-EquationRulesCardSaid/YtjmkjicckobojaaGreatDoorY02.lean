/- Part Y02 of the proof. -/
import Derived.Test.YtjmkjicckobojaaGreatDoorY01
set_option linter.all false
namespace Go.Abs
open Go.RowKit
section
variable {w':World}{M:Nat->Prop}{sz' c':Nat}{a':Option Addr}{new:Array Value}
def nj(M0:Nat->Prop)(w0:Base)(β:Bq)(hp:Hq)(w:World)(id:Nat)(u:Upd)(y:Value)(w':World)(β':Bq):Prop:=
 Mem M0 w0 β' (iF hp u.blk) w'/\RV (MM M0 β' (iF hp u.blk)) β' w' u.val y/\Stab (MM M0 β hp) (MM M0 β' (iF hp u.blk)) β β' w w'/\∀j,j≠id->β' j=β j
def Good(P:Program)(M0:Nat->Prop)(w0:Base)(β:Bq)(hp:Hq)(w:World)(id:Nat)(ρ:Operand->Value)(o:Oper)(u:Upd):Prop:=
 (∃y w' β',((execOp ρ o).run P w= .ok (.value y) w'\/((execOp ρ o).run P w= .ok .skip w'/\y=undef))/\nj M0 w0 β hp w id u y w' β')\/
 (∃f args,(execOp ρ o).run P w= .ok (.enter f args) w/\Calls P f args w λe w'=> ∃y,e= .returned y/\∃β',nj M0 w0 β hp w id u y w' β')
def ASem(P:Program)(id:Nat)(ev:Operand->Option AV)(hp:Hq)(op:Op)(u:Upd)(rd:Ln):Prop:=
 ∀(M0:Nat->Prop) (w0:Base) (β:Bq) (hp':Hq) (w:World) (ρ:Operand->Value) (o:Oper),o.op=op->Mem M0 w0 β hp' w->(∀x∈op.operands,∀a,ev x=some a->RV (MM M0 β hp') β w a (ρ x))->(∀v,ρ (.const v)=v)->
  id≠0->β id=none->hp' id=none->(∀i∈rd,hp' i=hp i)->Good P M0 w0 β hp' w id ρ o u
def vW(P:Program)(T:Nat):Option (List (Nat×Nat)):=
 match P.underlying T with
 |some (.struct fs)=>fs.toList.mapM λf=>(jU P f.type).map λs=>(f.offset,s)
 |_=>none
def sI:AV->Option Nat
 | .arr es=>some es.length
 | .lsl _ _ n _ _=>some n
 | .emp=>some 0
 |_=>none
def uv(P:Program)(T:Nat):Option Nat:=(P.info? T).map (·.bytes)
def evO(ev:Operand->Option AV):Option Operand->Option (Option Value)
 |none=>some none
 |some x=>match ev x with|some (.v y)=>some (some y)|_=>none
def SlB(ev:Operand->Option AV)(lo hi mx:Option Operand)(l h len:Nat)(cap m:Option Nat):Prop:=
 (∃lv,evO ev lo=some lv/\(lv=none/\l=0\/∃k i,lv=some (.int k i)/\i=(l:Int)))/\
 (∃hv,evO ev hi=some hv/\(hv=none/\h=len/\mx=none\/∃k i,hv=some (.int k i)/\i=(h:Int)))/\
 (∃mv,evO ev mx=some mv/\(mv=none/\m=cap\/∃k i,∃m':Nat,mv=some (.int k i)/\i=(m':Int)/\h<=m'/\m'<=len/\(m=some m'\/m=none)))
def xe:La->Option Lc
 |[]=>some []
 |a::as=>match a.cells,xe as with|some c,some cs=>some (c::cs)|_,_=>none
inductive SealArgs (hp:Hq):La->La->Ln->Prop
 |nil:SealArgs hp [] [] []
 |keep {a as as' ids}:SealArgs hp as as' ids->SealArgs hp (a::as) (coe a::as') ids
 |shut {i e n cap sz B as as' ids}:dS hp i=some B->e+n<=B.es.length->SealArgs hp as as' ids->SealArgs hp (.lsl i e n cap sz::as) (.arr ((B.es.drop e).take n)::as') (i::ids)
theorem SealArgs.congr{hp hp':Hq}{as as':La}{ids:Ln}(h:SealArgs hp as as' ids):(∀i∈ids,hp' i=hp i)->SealArgs hp' as as' ids:=by
 induction h with
 |nil=>exact λ_=> .nil
 |keep _ a=>exact λh=> .keep (a h)
 |shut c b _ a=>exact λh=> .shut ((fE (h _ (mu ..))).trans c) b (a λi d=>h i (lQ _ d))
inductive AEval (P:Program)(id:Nat)(ev:Operand->Option AV)(hp:Hq):Op->Upd->Ln->Prop
 |move {x a}:ev x=some a->AEval P id ev hp (.move x) ⟨a,[]⟩ []
 |sem {op u rd}:ASem P id ev hp op u rd->AEval P id ev hp op u rd
 |assign {x a}:ev x=some a->AEval P id ev hp (.assign x) ⟨a,[]⟩ []
 |pick {c a b t v}:ev c=some (.v (.bool t))->(t=true->ev a=some v)->(t=false->ev b=some v)->AEval P id ev hp (.pick c a b) ⟨v,[]⟩ []
 |alloc {T zs}:gR P T=some zs->(hz:Nat.blt 0 zs.length=true:=by rfl)->AEval P id ev hp (.alloc T) ⟨.lptr id 0 0,[(id,some ⟨T,zs.length,[zs.map ofV]⟩)]⟩ []
 |box {T x a cs}:ev x=some a->a.cells=some cs->(hz:Nat.blt 0 cs.length=true:=by rfl)->AEval P id ev hp (.box T x) ⟨.lptr id 0 0,[(id,some ⟨T,cs.length,[cs]⟩)]⟩ []
 |load_l {T x i e o B cs n}:ev x=some (.lptr i e o)->dS hp i=some B->B.es[e]?=some cs->fT P T=some true->jU P T=some n->o+n<=cs.length->
    AEval P id ev hp (.load T x) ⟨.agg ((cs.drop o).take n),[]⟩ [i]
 |load_l1 {T x i e o B cs c}:ev x=some (.lptr i e o)->dS hp i=some B->B.es[e]?=some cs->fT P T=some false->cs[o]?=some c->
    AEval P id ev hp (.load T x) ⟨c,[]⟩ [i]
 |load_a {T x es i o cs n}:ev x=some (.aptr es i o)->es[i]?=some cs->fT P T=some true->jU P T=some n->o+n<=cs.length->
    AEval P id ev hp (.load T x) ⟨.agg ((cs.drop o).take n),[]⟩ []
 |load_a1 {T x es i o cs c}:ev x=some (.aptr es i o)->es[i]?=some cs->fT P T=some false->cs[o]?=some c->
    AEval P id ev hp (.load T x) ⟨c,[]⟩ []
 |store {T x y i e o B cs a vs}:ev x=some (.lptr i e o)->dS hp i=some B->B.es[e]?=some cs->ev y=some a->a.cells=some vs->vs.all AV.one=true->jU P T=some vs.length->o+vs.length<=cs.length->
    AEval P id ev hp (.store T x y) ⟨.v undef,[(i,some ⟨B.ty,B.sz,B.es.set e (fD cs o vs)⟩)]⟩ [i]
 |nilCheck {x a}:ev x=some a->(match a with| .lptr .. | .aptr .. | .clos .. =>true|_=>false)=true->AEval P id ev hp (.nilCheck x) ⟨a,[]⟩ []
 |bin {op T x y yt a b r}:ev x=some (.v a)->ev y=some (.v b)->(∀w,(do eqGuard op T x y a b;binOp op T a b:Sem Value).run P w= .ok r w)->
    AEval P id ev hp (.binOp op T x y yt) ⟨.v r,[]⟩ []
 |bin_c {op T x y yt a b r}:ev x=some a->y= .const b->(∀(M:Nat->Prop) β w' xv,RV M β w' a xv->∀w,(do eqGuard op T x y xv b;binOp op T xv b:Sem Value).run P w= .ok r w)->
    AEval P id ev hp (.binOp op T x y yt) ⟨.v r,[]⟩ []
 |un {op T x a r}:ev x=some (.v a)->(∀w,(Op.unary op a).run P w= .ok r w)->AEval P id ev hp (.unOp op T x) ⟨.v r,[]⟩ []
 |conv {S D x a r}:ev x=some (.v a)->(∀w,(convert S D a).run P w= .ok r w)->AEval P id ev hp (.convert S D x) ⟨.v r,[]⟩ []
 |extract {t i cs c}:ev t=some (.tup cs)->cs[i]?=some c->AEval P id ev hp (.extract t i) ⟨c,[]⟩ []
 |build {T parts zs pl as cs}:gR P T=some zs->vW P T=some pl->evs ev (parts.toList.map (·.2))=some as->
    CJ (λi=>pl[i]?) (zs.map ofV) ((parts.toList.map (·.1)).zip as)=some cs->AEval P id ev hp (.build T parts) ⟨.agg cs,[]⟩ []
 |fieldAddr_l {T x f i e o off s}:ev x=some (.lptr i e o)->ng P T f=some (off,s)->s≠0->AEval P id ev hp (.fieldAddr T x f) ⟨.lptr i e (o+off),[]⟩ []
 |fieldAddr_a {T x f es i o off s}:ev x=some (.aptr es i o)->ng P T f=some (off,s)->s≠0->AEval P id ev hp (.fieldAddr T x f) ⟨.aptr es i (o+off),[]⟩ []
 |field {T x f cs off s}:ev x=some (.agg cs)->ng P T f=some (off,s)->nX P T f=some true->off+s<=cs.length->AEval P id ev hp (.field T x f) ⟨.agg ((cs.drop off).take s),[]⟩ []
 |field1 {T x f cs off s c}:ev x=some (.agg cs)->ng P T f=some (off,s)->nX P T f=some false->cs[off]?=some c->AEval P id ev hp (.field T x f) ⟨c,[]⟩ []
 |index_l {T x ix i e n c E sz kd k}:ev x=some (.lsl i e n c sz)->ev ix=some (.v (.int kd k))->0<=k->k< (n:Int)->eQ P T=some (E,sz)->AEval P id ev hp (.indexAddr T x ix) ⟨.lptr i (e+k.toNat) 0,[]⟩ []
 |index_a {T x ix es E sz kd k cs}:ev x=some (.arr es)->ev ix=some (.v (.int kd k))->0<=k->es[k.toNat]?=some cs->cs.length=sz->eQ P T=some (E,sz)->AEval P id ev hp (.indexAddr T x ix) ⟨.aptr es k.toNat 0,[]⟩ []
 |index_s {T x ix a b r}:ev x=some (.v a)->ev ix=some (.v b)->(∀w,(Instr.index T a b).run P w= .ok r w)->AEval P id ev hp (.index T x ix) ⟨.v r,[]⟩ []
 |makeFunc {f first captured as bs}:evs ev first.toList=some as->evs ev captured.toList=some bs->AEval P id ev hp (.makeFunc (.func f) first captured) ⟨.clos f as bs,[]⟩ []
 |call {c callee f fst cap as r}:c.callee= .value callee->ev callee=some (.clos f fst cap)->evs ev c.args.toList=some as->FSpec P f ((fst++as++cap).map coe) r->AEval P id ev hp (.call c) ⟨r,[]⟩ []
 |callS {c callee f fst cap as as' ids r}:c.callee= .value callee->ev callee=some (.clos f fst cap)->evs ev c.args.toList=some as->SealArgs hp (fst++as++cap) as' ids->FSpec P f as' r->AEval P id ev hp (.call c) ⟨r,ids.map λi=>(i,none)⟩ ids
 |callE {c callee f x0 rest as i e n cap B E' r}:c.callee= .value callee->ev callee=some (.clos f [] [])->c.args.toList=x0::rest->ev x0=some (.lsl i e n cap B.sz)->evs ev rest=some as->dS hp i=some B->ESpec P f B.ty B.sz B.es E' e n cap (as.map coe) r->
    AEval P id ev hp (.call c) ⟨.v r,[(i,some ⟨B.ty,B.sz,E'⟩)]⟩ [i]
 |callO {c callee f as ty sz es}:c.callee= .value callee->ev callee=some (.clos f [] [])->evs ev c.args.toList=some as->OSpec P f (as.map coe) ty sz es->
    AEval P id ev hp (.call c) ⟨.lsl id 0 es.length none sz,[(id,some ⟨ty,sz,es⟩)]⟩ []
 |len {c x a n T d}:c.callee= .builtin .len->c.args= #[x]->c.argTypes= #[T]->ev x=some a->sI a=some n->eQ P T=some d->AEval P id ev hp (.call c) ⟨.v (.int .i64 n),[]⟩ []
 |builtinV {c b} {vs:List Value} {r}:c.callee= .builtin b->evs ev c.args.toList=some (vs.map AV.v)->(∀w ty cs,(builtin b c.argTypes ty cs vs.toArray).run P w= .ok (.value r) w)->AEval P id ev hp (.call c) ⟨.v r,[]⟩ []
 |slice_a {T x lo hi mx es l h d}:ev x=some (.arr es)->SlB ev lo hi mx l h es.length none none->l<=h->h<=es.length->eQ P T=some d->(es≠[]->∀e∈es,e.length=d.2)->
    AEval P id ev hp (.slice T x lo hi mx) ⟨.arr ((es.drop l).take (h- l)),[]⟩ []
 |slice_l {T x lo hi mx i e n cap sz l h m E}:ev x=some (.lsl i e n cap sz)->SlB ev lo hi mx l h n cap m->l<=h->h<=n->(l=0\/l< h)->eQ P T=some (E,sz)->
    AEval P id ev hp (.slice T x lo hi mx) ⟨.lsl i (e+l) (h- l) (m.map (· - l)) sz,[]⟩ []
 |slice_e {T x lo hi mx a d}:ev x=some a->(match a with| .arr _| .lsl .. | .emp=>true|_=>false)=true->evO ev lo=some none->(∃k,evO ev hi=some (some (.int k 0)))->(∃k,evO ev mx=some (some (.int k 0)))->eQ P T=some d->
    AEval P id ev hp (.slice T x lo hi mx) ⟨.emp,[]⟩ []
 |slice_v {T x lo hi mx a lv hv mv r}:ev x=some (.v a)->evO ev lo=some lv->evO ev hi=some hv->evO ev mx=some mv->(∀w,(Instr.sliceAt T a lv hv mv).run P w= .ok r w)->AEval P id ev hp (.slice T x lo hi mx) ⟨.v r,[]⟩ []
 |makeSlice {T lo co kl kc E sz zs bs} {l c:Nat}:ev lo=some (.v (.int kl l))->ev co=some (.v (.int kc c))->eQ P T=some (E,sz)->gR P E=some zs->zs.length=sz->uv P E=some bs->l<=c->bs* c<=281474976710656->c<=maxLen->(hz:Nat.blt 0 sz=true:=by rfl)->
    AEval P id ev hp (.makeSlice T lo co) ⟨.lsl id 0 l (some c) sz,[(id,some ⟨E,sz,List.replicate c (zs.map ofV)⟩)]⟩ []
 |buildSlice {T len parts E sz zs as es}:eQ P T=some (E,sz)->gR P E=some zs->zs.length=sz->len* sz<=16777216/\len<=16777216->parts.toList.map (·.1)=List.range len->evs ev (parts.toList.map (·.2))=some as->xe as=some es->(∀e∈es,e.length=sz)->(hz:Nat.blt 0 sz=true:=by rfl)->
    AEval P id ev hp (.buildSlice T len parts) ⟨.lsl id 0 len (some len) sz,[(id,some ⟨E,sz,es⟩)]⟩ []
 |append0 {c x y T T' E sz a rd}:c.callee= .builtin .append->c.args= #[x,y]->c.argTypes= #[T,T']->eQ P T=some (E,sz)->(eQ P T').isSome=true->ev x=some .emp->ev y=some a->SrcOf hp sz a [] rd->
    AEval P id ev hp (.call c) ⟨.emp,[]⟩ rd
 |append_e {c x y T T' E sz a rd es zs bs}:c.callee= .builtin .append->c.args= #[x,y]->c.argTypes= #[T,T']->eQ P T=some (E,sz)->(eQ P T').isSome=true->ev x=some .emp->ev y=some a->SrcOf hp sz a es rd->es≠[]->
    gR P E=some zs->zs.length=sz->uv P E=some bs->es.length* bs<=140737488355328->es.length<=maxLen- 1->(hz:Nat.blt 0 sz=true:=by rfl)->
    AEval P id ev hp (.call c) ⟨.lsl id 0 es.length none sz,[(id,some ⟨E,sz,es⟩)]⟩ rd
 |append_l {c x y T T' E sz a rd es zs bs i n cap B}:c.callee= .builtin .append->c.args= #[x,y]->c.argTypes= #[T,T']->eQ P T=some (E,sz)->(eQ P T').isSome=true->ev x=some (.lsl i 0 n cap sz)->dS hp i=some B->B.ty=E->B.sz=sz->B.es.length=n->B.es.all (·.all AV.one)=true->es.all (·.all AV.one)=true->ev y=some a->SrcOf hp sz a es rd->
    gR P E=some zs->zs.length=sz->uv P E=some bs->(n+es.length) * bs<=140737488355328->n+es.length<=maxLen- 1->
    AEval P id ev hp (.call c) ⟨.lsl id 0 (n+es.length) none sz,[(i,none),(id,some ⟨E,sz,B.es++es⟩)]⟩ (i::rd)
 |copy {c x y T T' E sz a rd es i e n cap B}:c.callee= .builtin .copy->c.args= #[x,y]->c.argTypes= #[T,T']->eQ P T=some (E,sz)->ev x=some (.lsl i e n cap sz)->dS hp i=some B->B.sz=sz->e+n<=B.es.length->es.all (·.all AV.one)=true->ev y=some a->SrcOf hp sz a es rd->
    AEval P id ev hp (.call c) ⟨.v (.int .i64 (Nat.min es.length n)),[(i,some ⟨B.ty,B.sz,fD B.es e (es.take (Nat.min es.length n))⟩)]⟩ (i::rd)
section
variable {P:Program}{M0:Nat->Prop}{w0:Base}{w:World}{β:Bq}{hp:Hq}{id:Nat}{ρ:Operand->Value}{o:Oper}{u:Upd}
theorem Good.pure{a:AV}{y:Value}(mem:Mem M0 w0 β hp w)(hr:(execOp ρ o).run P w= .ok (.value y) w)(hy:RV (MM M0 β hp) β w a y):Good P M0 w0 β hp w id ρ o ⟨a,[]⟩:=
 .inl ⟨y,w,β,.inl hr,mem,hy,.refl,λ_ _=>rfl⟩
theorem iI(s:Sem Value){y:Value}(h:s.run P w= .ok y w'):(do pure (Next.value (<-s)):Sem Next).run P w= .ok (.value y) w':=by simp_all
theorem na:∀(fs:List Field) (pl:List (Nat×Nat)) (w:World),(fs.mapM λf=>(jU P f.type).map λs=>(f.offset,s))=some pl->
    (fs.mapM λf=>(do pure (f.offset,<-sizeOf f.type):Sem (Nat×Nat))).run P w= .ok pl w
 |[],pl,w,h=>by
  simp_all
 |f::fs,pl,w,h=>by
  simp only[List.mapM_cons,Option.pure_def,Option.bind_eq_bind] at h;cases hs:jU P f.type with
  |none=>grind
  |some n=>
   cases hm:(fs.mapM λf=>(jU P f.type).map λs=>(f.offset,s)) with
   |none=>grind
   |some a=>
    simp only[hs,hm,DS,zL,Option.some.injEq] at h;subst h;simp only[List.mapM_cons,Sem.run_bind,run_sizeOf' hs,Result.andThen_ok,Sem.run_pure];rw[na fs a w hm];rfl
theorem Gb{cs:La}{xs:Array Value}(h:RVs M β w cs xs.toList){i:Nat}{c:AV}(hc:cs[i]?=some c):∃x,xs[i]?=some x/\RV M β w c x:=by
 obtain⟨x,a,b⟩:=h.get hc;grind
theorem I4{M:Nat->Prop}{ρ:Operand->Value}:∀{ps:List (Nat×Operand)} {as:La},RVs M β w as ((ps.map (·.2)).map ρ)->
    (((ps.map (·.1)).zip as).map (·.1)=(ps.map λq=>(q.1,ρ q.2)).map (·.1)/\RVs M β w (((ps.map (·.1)).zip as).map (·.2)) ((ps.map λq=>(q.1,ρ q.2)).map (·.2)))
 |[],as,h=>by
  cases as with
  |nil=>simp_all
  |cons a as=>obtain⟨x,xs,e,_⟩:=h;cases e
 |p::ps,as,h=>by
  cases as with
  |nil=>cases (h:_=[])
  |cons a as=>
   obtain⟨x,xs,e,c,b⟩:=h;obtain⟨rfl,rfl⟩:=e;have:=I4 b;exact⟨by simp_all,⟨_,_,rfl,c,this.2⟩⟩
theorem dG{M:Nat->Prop}:∀{as:La} {xs:List Value},(∀a∈as,Closed a)->RVs M β w as xs->RVs M (λ_=>none) w as xs
 |[],_,_,h=>h
 |a::_,_,hc,⟨x,xs,e,h1,h2⟩=>⟨x,xs,e,hc a (mu ..) M β w x h1,dG (λb hb=>hc b (lQ _ hb)) h2⟩
theorem tY{T f off s:Nat}(h:ng P T f=some (off,s))(hs:s≠0)(b o':Nat)(w:World):(Instr.fieldAt T (.pointer (some ⟨b,o',none⟩)) f).run P w= .ok (.pointer (some ⟨b,o'+off,none⟩)) w:=by
 unfold ng at h;cases hu:P.underlying T with
 |none=>grind
 |some d=>
  rw[hu] at h;cases d with
  |struct c=>
   cases hf:c[f]? with
   |none=>grind
   |some a=>
    simp only[hf] at h;cases hz:jU P a.type with
    |none=>grind
    |some n=>
     simp only[hz] at h;obtain⟨rfl,rfl⟩:=h;simp only[Instr.fieldAt,Sem.run_bind,run_underlying hu w,Result.andThen_ok,hf,Instr.sureAddr,Sem.run_pure,fieldPlace,run_sizeOf' hz,hs,if_false,k5]
  |_=>grind
theorem xp{T f off s:Nat}(h:ng P T f=some (off,s))(ha:nX P T f=some true)(xs:Array Value)(w:World):(Instr.field T (.agg xs) f).run P w= .ok (.agg (xs.extract off (off+s))) w:=by
 unfold ng at h;unfold nX at ha;cases hu:P.underlying T with
 |none=>grind
 |some d=>
  rw[hu] at h ha;cases d with
  |struct b=>
   cases hf:b[f]? with
   |none=>grind
   |some a=>
    simp only[hf] at h ha;cases hz:jU P a.type with
    |none=>grind
    |some n=>
     simp only[hz] at h;obtain⟨rfl,rfl⟩:=h;simp only[Instr.field,Sem.run_bind,run_underlying hu w,Result.andThen_ok,hf,asAgg,Sem.run_pure,part,ov ha,if_true,run_sizeOf' hz]
  |_=>grind
theorem xo{T f off s:Nat}(h:ng P T f=some (off,s))(ha:nX P T f=some false){xs:Array Value}{y:Value}(hy:xs[off]?=some y)(w:World):(Instr.field T (.agg xs) f).run P w= .ok y w:=by
 unfold ng at h;unfold nX at ha;cases hu:P.underlying T with
 |none=>grind
 |some d=>
  rw[hu] at h ha;cases d with
  |struct b=>
   cases hf:b[f]? with
   |none=>grind
   |some a=>
    simp only[hf] at h ha;cases hz:jU P a.type with
    |none=>grind
    |some n=>
     simp only[hz] at h;obtain⟨rfl,rfl⟩:=h;simp only[Instr.field,Sem.run_bind,run_underlying hu w,Result.andThen_ok,hf,asAgg,Sem.run_pure,part,ov ha,Ha,if_false,hy]
  |_=>grind
theorem eo{T E s:Nat}(h:eQ P T=some (E,s)):P.underlying T=some (.slice E)/\jU P E=some s:=by
 unfold eQ at h;cases hu:P.underlying T with
 |none=>grind
 |some d=>
  rw[hu] at h;cases d with
  |slice e=>
   cases hz:jU P e with
   |none=>grind
   |some n=>
    grind
  |_=>grind
theorem tX{T E s:Nat}(h:eQ P T=some (E,s)){b off n c:Nat}{kd:IntKind}{k:Int}(h0:0<=k)(h1:k< (n:Int))(w:World):
    (Instr.indexAt T (.slice (some ⟨b,off,none⟩) n c) (.int kd k)).run P w= .ok (.pointer (some ⟨b,off+k.toNat* s,none⟩)) w:=by
 obtain⟨a,d⟩:=eo h;simp only[Instr.indexAt,asIntOf,Sem.run_bind,Sem.run_pure,Result.andThen_ok,run_underlying a w,h0,h1,and_self,if_true,run_sizeOf' d,k5]
theorem j8{ev:Operand->Option AV}{ρ:Operand->Value}(hev:∀x a,ev x=some a->RV M β w a (ρ x)):∀{o:Option Operand} {v:Option Value},evO ev o=some v->o.map ρ=v
 |none,v,h=>by simp only[evO] at h;grind
 |some x,v,h=>by
  simp only[evO] at h;split at h
  ·rename_i y b
   simp only[Option.some.injEq] at h;subst h;exact congrArg some (hev x _ b)
  cases h
theorem fl{k:IntKind}{i y:Nat}(h:i<=y)(code:BoundsCode)(w:World):(Instr.sliceBound (.int k (i:Int)) y code).run P w= .ok i w:=by
 have:=run_sliceBound (P:=P) w k (i:Int) y code ω ω;grind
theorem Gd {ev:Operand->Option AV} {ρ:Operand->Value} (hev:∀x a,ev x=some a->RV M β w a (ρ x)) {lo hi mx:Option Operand} {l h len c:Nat} {cap m:Option Nat} (hb:SlB ev lo hi mx l h len cap m)
    (hlc:len<=c) (hcap:∀k,cap=some k->c=k) (hlh:l<=h) (hhl:h<=len):∃N,(Instr.sliceBounds true len c (lo.map ρ) (hi.map ρ) (mx.map ρ)).run P w= .ok (l,h,N) w/\h<=N/\N<=c/\∀k,m=some k->N=k:=by
 obtain⟨⟨u,e1,e⟩,⟨hv,e2,f⟩,⟨mv,g,o⟩⟩:=hb;rw[j8 hev e1,j8 hev e2,j8 hev g];rcases o with⟨rfl,rfl⟩|⟨v,t,d,rfl,rfl,b,j,i⟩
 refine⟨c,?_,ω,ir _,hcap⟩;rcases f with⟨rfl,rfl,_⟩|⟨n,q,rfl,rfl⟩<;> rcases e with⟨rfl,rfl⟩|⟨r,il,rfl,rfl⟩
 simp[Instr.sliceBounds];simp[Instr.sliceBounds,fl hlh];simp[Instr.sliceBounds,fl (show h<=c by omega)];simp[Instr.sliceBounds,fl (show h<=c by omega),fl hlh];refine⟨d,?_,b,ω,λk s=>by grind⟩;rcases f with⟨rfl,rfl,p⟩|⟨n,q,rfl,rfl⟩
 subst p;simp[evO] at g;rcases e with⟨rfl,rfl⟩|⟨r,il,rfl,rfl⟩
 simp[Instr.sliceBounds,fl (show d<=c by omega),fl b];simp[Instr.sliceBounds,fl (show d<=c by omega),fl b,fl hlh]
theorem run_sliceAt'{T E s:Nat}(h:eQ P T=some (E,s)){a:Option Addr}{n c l h' N:Nat}{lo hi mx:Option Value}(hb:(Instr.sliceBounds true n c lo hi mx).run P w= .ok (l,h',N) w):
    (Instr.sliceAt T (.slice a n c) lo hi mx).run P w= .ok (.slice (if N=l then a else a.map (·.add (l* s))) (h'- l) (N- l)) w:=by
 obtain⟨b,d⟩:=eo h;simp[Instr.sliceAt,Instr.slice,run_underlying b w,hb,run_sizeOf' d]
theorem Ad{E sz bs:Nat}{zs:List Value}(h1:jU P E=some sz)(h2:gR P E=some zs)(h3:uv P E=some bs):∃i z,P.info? E=some i/\i.zero=some z/\z.cells.toList=zs/\i.size=sz/\i.bytes=bs:=by
 unfold jU at h1;unfold gR at h2;unfold uv at h3;cases hu:P.info? E with
 |none=>grind
 |some i=>
  simp_all
theorem CI{sz:Nat}:∀(vs:List Value) (k:Nat) (cs:Array Value),(∀v∈vs,v.cells.size=sz)->(k+vs.length) * sz<=cs.size->
    ∃ys,Instr.fill (λi=>some (i* sz,sz)) cs (((List.range' k vs.length)).zip vs)=some ys/\ys.size=cs.size/\(∀i v,vs[i]?=some v->∀j x,v.cells[j]?=some x->ys[(k+i) * sz+j]?=some x)/\∀j,j< k* sz->ys[j]?=cs[j]?
 |[],k,cs,_,_=>⟨cs,rfl,rfl,λi v h=>by grind,λ_ _=>rfl⟩
 |v::vs,k,cs,hv,hsz=>by
  have g:(k+1) * sz<=(k+(vs.length+1)) * sz:=mC _ ω
  have d:(v.cells.zipIdx.foldl (λcs (c,j)=>cs.setIfInBounds (k* sz+j) c) cs).toList=fD cs.toList (k* sz) v.cells.toList:=by
   rw[<-NO,Array.toList_zipIdx,nW];rfl
  have b:(v.cells.zipIdx.foldl (λcs (c,j)=>cs.setIfInBounds (k* sz+j) c) cs).size=cs.size:=by
   have:=congrArg List.length d;simpa[cL] using this
  obtain⟨ys,n,l,o,f⟩:=CI vs (k+1) ((v.cells.zipIdx.foldl (λcs (c,j)=>cs.setIfInBounds (k* sz+j) c) cs)) (λu e=>hv u (lQ _ e)) φ;have a:∀j,(v.cells.zipIdx.foldl (λcs (c,j)=>cs.setIfInBounds (k* sz+j) c) cs)[j]?=(fD cs.toList (k* sz) v.cells.toList)[j]?:=λj=>by rw[<-NW,d]
  refine⟨ys,?_,l.trans b,λi u e j x p=>?_,λj q=>?_⟩;rw[vX,List.range'_succ,Oi,Instr.fill];simp only[];rw[if_neg φ];exact n;cases i with
  |zero=>
   simp only[xg,Option.some.injEq] at e;subst e;have m:j< sz:=φ
   rw[M6,f _ φ,a,fk];grind
  |succ i=>
   grind
  rw[f j φ,a,fk,if_neg ω];simp
theorem yJ{M:Nat->Prop}:∀{as:La} {xs:List Value} {es:Lc},RVs M β w as xs->xe as=some es->es.length=xs.length/\∀(i:Nat) (e:La),es[i]?=some e->∃x:Value,xs[i]?=some x/\RVs M β w e x.cells.toList
 |[],xs,es,h,hc=>by
  cases (h:xs=[]);simp only[xe] at hc;grind
 |a::as,_,es,⟨x,xs,e,h1,h2⟩,hc=>by
  subst e;simp only[xe] at hc;split at hc
  ·rename_i c cs d b
   simp only[Option.some.injEq] at hc;subst hc;obtain⟨j,g⟩:=yJ h2 b;refine⟨φ,λi e f=>?_⟩;cases i with
   |zero=>simp only[xg,Option.some.injEq] at f;subst f;exact⟨x,rfl,qi h1 d⟩
   |succ i=>grind
  grind
theorem iG(z:Array Value)(n:Nat):(Builtin.zeroCells z n).size=n* z.size:=by simp[Builtin.zeroCells]
theorem Hi{need old:Nat}{e:TypeId}(t:Nat)(h:need< 2^ 63):need<=(Question.appendCap need old e).cut t/\(Question.appendCap need old e).cut t< 2^ 63:=by
 simp only[Question.cut];have:=EC t (show 2^ 63- need> 0 by omega);omega
theorem nf {T T' E E' sz bs:Nat} {zs:List Value} (h1:eQ P T=some (E,sz)) (h2:eQ P T'=some (E',sz')) (h3:gR P E=some zs) (h4:uv P E=some bs)
    {base:Option Addr} {n c m:Nat} {old:Array Value} (hgrow:c< n+m) (hroom:(n+m) * bs<=140737488355328) (h63:n+m<=maxLen- 1) (ty:TypeId)
    (hold:∀w',w'.heap=w.heap->(Builtin.firstCells sz n (.slice base n c)).run P w'= .ok old w') (hnew:∀w',w'.heap=w.heap->(Builtin.firstCells sz m (.slice a' m c')).run P w'= .ok new w'):
    ∃nc z,n+m<=nc/\nc< 2^ 63/\z.toList=zs/\(Builtin.append_ #[T,T'] ty #[.slice base n c,.slice a' m c']).run P w=
     .ok (.slice (some ⟨w.heap.size,0,none⟩) (n+m) nc) (w.drew.alloc (.cells (old++new++Builtin.zeroCells z (nc- (n+m))) E)):=by
 obtain⟨u,o⟩:=eo h1;obtain⟨j,_⟩:=eo h2;obtain⟨f,z,i1,i2,t,y,x⟩:=Ad o h3 h4;have i:n+m< 2^ 63:=by unfold maxLen at h63;omega
 obtain⟨l,k⟩:=Hi (need:=n+m) (old:=c) (e:=E) (w.tape w.drawn (.appendCap (n+m) c E)) i;refine⟨(Question.appendCap (n+m) c E).cut (w.tape w.drawn (.appendCap (n+m) c E)),z.cells,l,k,t,?_⟩;have p:=growslice_fits hgrow hroom
 have g:¬((n:Int)+(m:Int)> IntKind.i64.max):=by
  have:IntKind.i64.max=9223372036854775807:=δ
  grind
 have s:¬(n+m<=c):=ω
 have r:∀w:World,({w with drawn:=w.drawn+1}:World)=w.drew:=λ_=>rfl;have q:=hold w.drew rfl;have v:=hnew w.drew rfl;have a:(Question.appendCap (n+m) c E).forced=false:=rfl;have b:¬(((n+m:Nat):Int)> IntKind.i64.max/\(False\/f.bytes=0)):=λh=>g φ;have d:¬(Builtin.nextslicecap (n+m) c* f.bytes> 2^ 48):=φ
 unfold Builtin.append_
 simp only[Ee,xg,A6,Sem.run_bind,run_underlying u w,run_underlying j w,Result.andThen_ok,run_sizeOf' o,Sem.run_pure,
  Ha,if_false,Builtin.lenOf,s,typeInfo,run_program,i1,b,d,run_choose,a,r,run_askRoom,Om,if_true,q,v,zeroValue,i2,newRow,run_newObj]
 rfl
theorem um {T T' E E' sz:Nat} (h1:eQ P T=some (E,sz)) (h2:eQ P T'=some (E',sz'))
    {b off n c m:Nat} (hroom:n+m<=c) (ty:TypeId) (hnew:(Builtin.firstCells sz m (.slice a' m c')).run P w= .ok new w)
    (hst:(storeCells ⟨b,off+n* sz,none⟩ new.toList).run P w= .ok () w'):
    (Builtin.append_ #[T,T'] ty #[.slice (some ⟨b,off,none⟩) n c,.slice a' m c']).run P w= .ok (.slice (some ⟨b,off,none⟩) (n+m) c) w':=by
 obtain⟨d,e⟩:=eo h1;obtain⟨a,_⟩:=eo h2;unfold Builtin.append_
 simp only[Ee,xg,A6,Sem.run_bind,run_underlying d w,run_underlying a w,Result.andThen_ok,run_sizeOf' e,Sem.run_pure,
  Ha,if_false,Builtin.lenOf,hroom,Om,if_true,hnew,k5,hst]
theorem vH{T T' E E' sz:Nat}(h1:eQ P T=some (E,sz))(h2:eQ P T'=some (E',sz')){base:Option Addr}(ty:TypeId)(hnew:(Builtin.firstCells sz 0 (.slice a' 0 c')).run P w= .ok #[] w):
    (Builtin.append_ #[T,T'] ty #[.slice base 0 0,.slice a' 0 c']).run P w= .ok (.slice base 0 0) w:=by
 obtain⟨c,d⟩:=eo h1;obtain⟨b,_⟩:=eo h2;unfold Builtin.append_
 simp only[Ee,xg,A6,Sem.run_bind,run_underlying c w,run_underlying b w,Result.andThen_ok,run_sizeOf' d,Sem.run_pure,
  Ha,if_false,Builtin.lenOf,ir,Om,if_true,hnew]
 cases base with
 |none=>rfl
 |some a=>simp[storeCells]
theorem JG {T E sz:Nat} (h1:eQ P T=some (E,sz)) {T':Nat} {b off n c m:Nat} (ty:TypeId) (hnew:(Builtin.firstCells sz (Nat.min m n) (.slice a' m c')).run P w= .ok new w)
    (hst:(storeCells ⟨b,off,none⟩ new.toList).run P w= .ok () w'):
    (Builtin.copy_ #[T,T'] ty #[.slice (some ⟨b,off,none⟩) n c,.slice a' m c']).run P w= .ok (.int .i64 (Nat.min m n)) w':=by
 obtain⟨a,d⟩:=eo h1;unfold Builtin.copy_;simp only[Ee,xg,A6,Sem.run_bind,run_underlying a w,Result.andThen_ok,run_sizeOf' d,Sem.run_pure,Builtin.lenOf,hnew,hst];rfl
theorem Stab.trans{M1 M2 M3:Nat->Prop}{β1 β2 β3:Bq}{w1 w2 w3:World}(h:Stab M1 M2 β1 β2 w1 w2)(h':Stab M2 M3 β2 β3 w2 w3)(hs:w1.heap.size<=w2.heap.size):Stab M1 M3 β1 β3 w1 w3:=by
 refine⟨⟨λb N hN a=>?_,λb N hN a=>?_,λi x g=>h'.be i x (h.be i x g),λb n hb=>h'.sz b n (h.sz b n hb)⟩,λb hb f=>?_⟩;have d:=h.sz b N hN;have e1:=h.heap b N hN a;rw[<-e1];exact h'.heap b N d (λc=>a (h.m b N hN c));exact h.m b N hN (h'.m b N (h.sz b N hN) a);have e:=h.oth b hb f;rw[<-e];exact h'.oth b ω (by rw[eW e];grind)
theorem Flat.one{s:Nat}{es:Lc}{xs:List Value}(h:Flat M β w s es xs)(ho:es.all (·.all AV.one)=true):∀v∈xs,v.oneCell'=true:=by
 intro v hv;obtain⟨j,b,a⟩:=List.mem_iff_getElem.1 hv
 have hs:0< s:=by
  rcases zW s with k|k
  rw[h.1,k] at b;simp at b;grind
 have d:j/ s< es.length:=by rw[DB hs,<-h.1];grind
 obtain⟨e,f,l,m⟩:=h.2 (j/ s) es[j/ s] (eT d);have g:j % s< e.length:=by rw[f.length,l];exact EC _ hs
 have i:=m (j % s) e[j % s] (eT g);rw[Eg,MX,eT b,Option.some.injEq] at i;rw[<-a,i];have c:=pZ.1 ho es[j/ s] (FH d);exact zg f c _ (FH g)
theorem pT{α:Type}(f:Nat->Option α)(i:Nat)(x y:Option α):upd (upd f i x) i y=upd f i y:=by
 funext j;simp only[upd];grind
theorem Mem.storeEls (h:Mem M0 w0 β hp w) {i b e:Nat} {B:ABlk} {fs es':Lc} {xs:List Value} (hz:B.sz≠0) (hi:hp i=some B) (hb:β i=some (b,B.sz)) (hf:Flat (MM M0 β hp) β w B.sz fs xs) (hone:∀v∈xs,v.oneCell'=true)
    {N:Nat} (hN:aY w b=some N) (hsz:(e+fs.length) * B.sz<=N) (hes:∀q el,es'[q]?=some el->(e<=q/\q< e+fs.length/\fs[q- e]?=some el)\/((q< e\/e+fs.length<=q)/\B.es[q]?=some el)) (hlen:es'.length* B.sz<=N):
    ∃w',(storeCells ⟨b,e* B.sz,none⟩ xs).run P w= .ok () w'/\Mem M0 w0 β (upd hp i (some ⟨B.ty,B.sz,es'⟩)) w'/\Stab (MM M0 β hp) (MM M0 β (upd hp i (some ⟨B.ty,B.sz,es'⟩))) β β w w'/\w'.heap.size=w.heap.size:=by
 obtain⟨J,cs,f,k,E,_⟩:=h.cells hi hz;rw[hb] at f;cases f;have p:cs.size=N:=by simpa[aY,k] using hN
 subst p;rw[zu] at hsz;obtain⟨w',z,x,y,t,D⟩:=run_storeCells' (P:=P) xs w cs (e* B.sz) 0 k (by rw[hf.1];omega) hone;rw[M6] at x;have g:=h.write (w':=w') (i:=i) (es:=es') hz hi hb D t x y (λq el A=>?_) (by simpa[cL] using hlen) (by simp[aY,k,cL]);exact⟨w',z,g.1,g.2,t⟩
 have n:∀j v,cs[q* B.sz+j]?=some v->¬(e* B.sz<=q* B.sz+j/\q* B.sz+j< e* B.sz+xs.length)->(fD cs.toList (e* B.sz) xs).toArray[q* B.sz+j]?=some v:=by
  intro j v hv F;rw[Ee,fk,if_neg F];grind
 rcases hes q el A with⟨a,H,o⟩|⟨a,o⟩
 obtain⟨r,s1,s2,G⟩:=hf.2 _ el o;refine⟨r,s1,s2,λj v l=>?_⟩;have u:=G j v l;have m:=(jY.1 u).1;have c:q* B.sz=e* B.sz+(q- e) * B.sz:=by rw[<-zu];congr 1;omega
 rw[Ee,fk,if_pos ω,if_pos (by rw[zK];rw[hf.1] at m;omega),c,show e* B.sz+(q- e) * B.sz+j- e* B.sz=(q- e) * B.sz+j by omega];exact u;obtain⟨s,d⟩:=E.get o;obtain⟨r,s1,s2⟩:=s.vals;refine⟨r,s1,d,λj v l=>?_⟩;have C:j< B.sz:=by have:=(jY.1 l).1;rw[s1.length,d] at this;exact this
 refine n j v ?_ ?_;have:=s2 j v l;simp only[World.cell?,k] at this;simpa using this;rw[hf.1];rcases a with a|a
 have:=mC B.sz (show q+1<=e from a);rw[zu,Kk] at this;omega;have:=mC B.sz a;grind
variable {op:Op}{rd:Ln}{ev:Operand->Option AV}
def ef(hp:Hq)(ids:Ln):Nat->Option ABlk:=λi=>if i∈ids then none else hp i
theorem tS:∀(ids:Ln) (hp:Hq),iF hp (ids.map λi=>(i,none))=ef hp ids
 |[],hp=>by funext j;simp[iF,ef]
 |i::ids,hp=>by
  rw[zo,iF,tS ids];funext j;simp only[ef,upd];grind
theorem By(mem:Mem M0 w0 β hp w){ids:Ln}:∀{as as':La} {ids':Ln} {vals:List Value},SealArgs hp as as' ids'->(∀i∈ids',i∈ids)->RVs (MM M0 β hp) β w as vals->(∀a∈as',Closed a)->RVs (MM M0 β (ef hp ids)) (λ_=>none) w as' vals:=by
 have r:∀b,MM M0 β (ef hp ids) b->MM M0 β hp b:=by
  rintro b (hb|⟨i,B,s,d,k⟩);exact .inl hb;refine .inr ⟨i,B,s,?_,k⟩;simp only[ef] at d;grind
 have st:StabC (MM M0 β hp) (MM M0 β (ef hp ids)) β β w w:=⟨λ_ _ _ _=>rfl,λb _ _ h=>r b h,λ_ _ h=>h,λ_ _ h=>h⟩;intro as as' ids' vals h
 induction h generalizing vals with
 |nil=>exact λ_ hv _=>hv
 |keep _ p=>
  rintro o ⟨x,xs,rfl,d,k⟩ g;exact⟨x,xs,rfl,g _ (mu ..) _ _ _ _ (st.all (JF d)),p o k λa ha=>g a (lQ _ ha)⟩
 | @shut i e n cap sz B as as' ids' d k _ p=>
  rintro o ⟨x,xs,rfl,A,t⟩ g;refine⟨x,xs,rfl,g _ (mu ..) _ β _ _ ?_,p (λj E=>o j (lQ _ E)) t λa ha=>g a (lQ _ ha)⟩;obtain⟨b,c,hb,rfl,y,m,_,_⟩:=A;obtain⟨G,cs,f,v,z,_⟩:=mem.cellsF d;rw[hb] at f;cases f;have u:((B.es.drop e).take n).length=n:=φ
  refine⟨_,c,by rw[u],ω,m,.inr ⟨b,0+e* B.sz,B.sz,ψ,⟨cs.size,by simp[aY,v]⟩,?_,st.ess rfl ((z.drop e).take n)⟩⟩;rintro(C|⟨j,q,F,l,D⟩);exact(mem.rng i b _ hb).1 (mem.m0 b C).1;simp only[ef] at l;split at l;cases l
  ·have:=mem.inj i j B q b _ _ (ea d).1 l hb D
   grind
theorem tW{M:Nat->Prop}{b:Nat}:∀{cs:La} {off:Nat},(∀c∈cs,Closed c)->RVcs M β w b cs off->RVcs M (λ_=>none) w b cs off
 |[],_,_,_=>trivial
 |c::_,_,hc,⟨⟨x,h0,h1⟩,h2⟩=>⟨⟨x,h0,hc c (mu ..) M β w x h1⟩,tW (λd a=>hc d (lQ _ a)) h2⟩
theorem iH{M:Nat->Prop}{b s:Nat}:∀{es:Lc} {off:Nat},(∀e∈es,∀c∈e,Closed c)->RVess M β w b s es off->RVess M (λ_=>none) w b s es off
 |[],_,_,_=>trivial
 |e::_,_,hc,⟨h0,h1,h2⟩=>⟨h0,tW (hc e (mu ..)) h1,iH (λd a=>hc d (lQ _ a)) h2⟩
theorem Mem.but {i b:Nat} {B:ABlk} {E':Lc} {cs':Array Value} (h:Mem M0 w0 β hp w) (hz:B.sz≠0) (hb:But b w w') (hi:hp i=some B) (hbi:β i=some (b,B.sz)) (hh:w'.heap[b]?=some (.cells cs' B.ty (0,0)))
    (hr:RVess (MM M0 β hp) (λ_=>none) w' b B.sz E' 0) (hl:E'.length* B.sz<=cs'.size):
    Mem M0 w0 β (upd hp i (some ⟨B.ty,B.sz,E'⟩)) w'/\Stab (MM M0 β hp) (MM M0 β (upd hp i (some ⟨B.ty,B.sz,E'⟩))) β β w w':=by
 have u:MM M0 β hp b:= .inr ⟨i,B,_,hi,hbi⟩;have p:=h.rng i b _ hbi;have y:∃N,aY w b=some N:=by obtain⟨D,e1,e2⟩:=h.blk i B hi;rw[hbi] at e1;cases e1;exact e2.size
 have o:∀c,MM M0 β (upd hp i (some ⟨B.ty,B.sz,E'⟩)) c↔MM M0 β hp c:=by
  intro c;constructor;rintro(l|⟨j,m,s,d,a⟩);exact .inl l;by_cases hji:j=i;subst hji;exact .inr ⟨j,B,s,hi,a⟩;rw[bw _ _ hji] at d;exact .inr ⟨j,m,s,d,a⟩;rintro(l|⟨j,m,s,d,a⟩);exact .inl l;by_cases hji:j=i;subst hji;exact .inr ⟨j,_,s,bq _ _ _,a⟩;exact .inr ⟨j,m,s,by rw[bw _ _ hji];grind,a⟩
 have st:Stab (MM M0 β hp) (MM M0 β (upd hp i (some ⟨B.ty,B.sz,E'⟩))) β β w w':=
  ⟨⟨λc N hs v=>hb.block c (cy hs) (λe=>v (e▸u)),λc _ _ v=>(o c).1 v,λ_ _ h=>h,λc n l=>hb.sizes c n l⟩,
   λc r F=>hb.block c r (λe=>φ)⟩
 refine⟨⟨⟨hb.os.trans h.below.os,hb.tape.trans h.below.tape,hb.output.trans h.below.output,fo h.below.size hb.size,λk t=>(hb.block k (ns (w0.lt k t) h.below.size) (λe=>p.1 (e▸t))).trans (h.below.block k t),λc n hs=>hb.sizes c n (h.below.sizes c n hs)⟩,h.m0,
  λj c s f=>⟨(h.rng j c s f).1,ns (h.rng j c s f).2 hb.size⟩,λz=>h.pin (by by_cases h00:0=i;(grind);rw[bw _ _ h00] at z;grind),λj m f=>?_,λj k E G c s x d a C A=>?_⟩,st⟩
 by_cases hji:j=i;subst hji;rw[bq] at f;cases f;exact⟨b,hbi,.inl ⟨hz,cs',hh,StabC.ess (w:=w') (w':=w') (M:=MM M0 β hp) (β:=λ_=>none) ⟨λ_ _ _ _=>rfl,λc _ _ l=>(o c).1 l,(λ_ _ h=>by cases h),λ_ _ h=>h⟩ rfl hr,hl⟩⟩;rw[bw _ _ hji] at f;obtain⟨c,d,a⟩:=h.blk j m f;have q:c≠b:=λe=>by subst e;exact hji (h.inj j i m B c _ _ f hi d hbi)
 have g:=hb.block c (h.rng j c _ d).2 q;exact⟨c,d,a.stab st.toStabC g⟩
 have e1:∃B,hp j=some B:=by
  by_cases hji:j=i;subst hji;exact⟨_,hi⟩;rw[bw _ _ hji] at d;grind
 have e2:∃B,hp k=some B:=by
  by_cases hki:k=i;subst hki;exact⟨_,hi⟩;rw[bw _ _ hki] at a;exact⟨_,a⟩
 obtain⟨_,e1⟩:=e1;obtain⟨_,e2⟩:=e2;exact h.inj j k _ _ c s x e1 e2 C A
theorem Mem.own {i b ty s:Nat} {es:Lc} {cs:Array Value} (h:Mem M0 w0 β hp w) (hs0:s≠0) (hb:Below w.heap.size w w') (hi0:i≠0) (hi:β i=none) (hpi:hp i=none) (hb1:w.heap.size<=b) (hb2:b< w'.heap.size) (hh:w'.heap[b]?=some (.cells cs ty (0,0)))
    (hr:RVess (λx=>MM M0 β hp x\/x=b) (λ_=>none) w' b s es 0) (hl:es.length* s<=cs.size):
    Mem M0 w0 (upd β i (some (b,s))) (upd hp i (some ⟨ty,s,es⟩)) w'/\Stab (MM M0 β hp) (MM M0 (upd β i (some (b,s))) (upd hp i (some ⟨ty,s,es⟩))) β (upd β i (some (b,s))) w w':=by
 obtain⟨m1,e⟩:=h.ext hb
 have n:∀j x,β j=some x->upd β i (some (b,s)) j=some x:=λj x a=>by
  rw[bw];exact a;grind
 have m:∀c,MM M0 (upd β i (some (b,s))) (upd hp i (some ⟨ty,s,es⟩)) c->MM M0 β hp c\/c=b:=by
  rintro c (r|⟨j,p,o,f,d⟩);exact .inl (.inl r);by_cases a:j=i;subst a;rw[bq] at d;cases d;exact .inr rfl;rw[bw _ _ a] at f d;exact .inl (.inr ⟨j,p,o,f,d⟩)
 have st:Stab (MM M0 β hp) (MM M0 (upd β i (some (b,s))) (upd hp i (some ⟨ty,s,es⟩))) β (upd β i (some (b,s))) w w':=by
  refine⟨⟨e.heap,λc N hs q=>?_,n,e.sz⟩,e.oth⟩;rcases m c q with q|rfl
  exact q;have:=cy hs;omega
 have u:StabC (MM M0 β hp) (MM M0 β hp) β β w w':=e.toStabC;refine⟨⟨m1.below,h.m0,λj c o a=>?_,λt=>(bw _ _ (Nz hi0)).trans (h.pin (by rw[bw _ _ (Nz hi0)] at t;grind)),λj B a=>?_,λj k B p c s1 s2 f d l g=>?_⟩,st⟩;by_cases hji:j=i;subst hji;rw[bq] at a;cases a;exact⟨λv=>absurd (w0.lt _ v) (by have:=h.below.size;omega),hb2⟩;rw[bw _ _ hji] at a;exact m1.rng j c o a;by_cases hji:j=i;subst hji;rw[bq] at a;cases a;exact⟨b,bq _ _ _,.inl ⟨hs0,cs,hh,StabC.ess (w:=w') (w':=w') (M:=λx=>MM M0 β hp x\/x=b) (β:=λ_=>none) ⟨λ_ _ _ _=>rfl,λc _ _ r=>m c r,(λ_ _ h=>by cases h),λ_ _ h=>h⟩ rfl hr,hl⟩⟩;rw[bw _ _ hji] at a;obtain⟨c,f,d⟩:=h.blk j B a;exact⟨c,n _ _ f,d.stab st.toStabC (hb.block c (h.rng j c _ f).2)⟩;by_cases hji:j=i <;> by_cases hki:k=i;rw[hji,hki];subst hji;rw[bq] at l;cases l;rw[bw _ _ hki] at g;have:=(h.rng k _ _ g).2;omega;subst hki;rw[bq] at g;cases g;rw[bw _ _ hji] at l;have:=(h.rng j _ _ l).2;omega;rw[bw _ _ hji] at f l;rw[bw _ _ hki] at d g;exact h.inj j k B p c s1 s2 f d l g
theorem AEval.good(h:AEval P id ev hp op u rd)(mem:Mem M0 w0 β hp w)(hev:∀x a,ev x=some a->RV (MM M0 β hp) β w a (ρ x))(hcst:∀v,ρ (.const v)=v)(hid0:id≠0)(hid:β id=none)(hidh:hp id=none)(ho:o.op=op):
    Good P M0 w0 β hp w id ρ o u:=by
 cases h with
 |move g=>exact .pure mem (by simp[execOp,ho]) (hev _ _ g)
 |sem g=>exact g M0 w0 β hp w ρ o ho mem (λx _ a ha=>hev x a ha) hcst hid0 hid hidh (λ_ _=>rfl)
 |assign g=>exact .pure mem (by simp[execOp,ho]) (hev _ _ g)
 | @pick c a b t v g h2 h3=>
  have Z:ρ c= .bool t:=hev _ _ g;cases t with
  |true=>exact .pure (y:=ρ a) mem (by simp[execOp,ho,Z,asBool]) (hev _ _ (h2 rfl))
  |false=>exact .pure (y:=ρ b) mem (by simp[execOp,ho,Z,asBool]) (hev _ _ (h3 rfl))
 | @alloc T zs g hz0=>
  obtain⟨v,hv,Z⟩:=run_zeroValue' g w
  have J:=mem.alloc (i:=id) (ty:=T) (s:=zs.length) (es:=[zs.map ofV]) (cs:=v.cells) (j0 hz0) hid0 hid hidh (λk e X=>by
   cases k with
   |zero=>
    simp only[xg,Option.some.injEq] at X;subst X;exact⟨zs,uD zs,ψ,λj x A=>by rw[<-NW,Z];simpa using A⟩
   |succ k=>simp at X) (by simp[<-Z])
  refine .inl ⟨.pointer (some ⟨w.heap.size,0,none⟩),_,_,.inl ?_,J.1,⟨w.heap.size,zs.length,bq _ _ _,ψ⟩,J.2,λj A=>bw _ _ A⟩;simp[execOp,ho,Instr.alloc,hv,newVar,newRow]
 | @box T x a cs g h2 hz0=>
  have G:=qi (hev _ _ g) h2
  have J:=mem.alloc (i:=id) (ty:=T) (s:=cs.length) (es:=[cs]) (cs:=(ρ x).cells) (j0 hz0) hid0 hid hidh (λk e X=>by
   cases k with
   |zero=>
    simp only[xg,Option.some.injEq] at X;subst X;exact⟨_,G,rfl,λj y A=>by rw[<-NW];simpa using A⟩
   |succ k=>simp at X) (by have:=G.length;simp at this⊢;omega)
  refine .inl ⟨.pointer (some ⟨w.heap.size,0,none⟩),_,_,.inl ?_,J.1,⟨w.heap.size,cs.length,bq _ _ _,ψ⟩,J.2,λj A=>bw _ _ A⟩;simp[execOp,ho,Instr.box,newVar,newRow]
 | @load_l T x i e off B cs n g h2 h3 p C h6=>
  obtain⟨b,s,hb,hp'⟩:=hev _ _ g;obtain⟨b',cs',O,_,K,_⟩:=mem.cellsF h2;rw[hb] at O;cases O;have hg:=((K.get h3).1.drop off).take n;obtain⟨xs,Q,U⟩:=hg.vals;have hl:xs.length=n:=by rw[Q.length];simp;omega
  refine .pure (y:= .agg xs.toArray) mem ?_ ⟨_,rfl,Q⟩;simp[execOp,ho,Instr.loadAt,Instr.sureAddr,hp',jX p C hl (λj v A=>by have:=U j v A;simpa using this)]
 | @load_l1 T x i e off B cs c g h2 h3 p C=>
  obtain⟨b,s,hb,hp'⟩:=hev _ _ g;obtain⟨b',cs',O,_,K,_⟩:=mem.cellsF h2;rw[hb] at O;cases O;obtain⟨y,hy1,hy2⟩:=(K.get h3).1.get C;refine .pure (y:=y) mem ?_ hy2;simp[execOp,ho,Instr.loadAt,Instr.sureAddr,hp',jW p (by simpa using hy1)]
 | @load_a T x es i off cs n g h2 h3 p C=>
  obtain⟨_,b,o',s,hp',_,_,K⟩:=hev _ _ g;have hg:=((K.get h2).1.drop off).take n;obtain⟨xs,Q,U⟩:=hg.vals;have hl:xs.length=n:=by rw[Q.length];simp;omega
  refine .pure (y:= .agg xs.toArray) mem ?_ ⟨_,rfl,Q⟩;simp[execOp,ho,Instr.loadAt,Instr.sureAddr,hp',jX h3 p hl U]
 | @load_a1 T x es i off cs c g h2 h3 p=>
  obtain⟨_,b,o',s,hp',_,_,K⟩:=hev _ _ g;obtain⟨y,hy1,hy2⟩:=(K.get h2).1.get p;refine .pure (y:=y) mem ?_ hy2;simp[execOp,ho,Instr.loadAt,Instr.sureAddr,hp',jW h3 hy1]
 | @store T x y i e off B cs a vs g h2 h3 p C h6 h7 h8=>
  obtain⟨b,s,hb,hp'⟩:=hev _ _ g;obtain⟨b',cs',O,hh,K,hsz⟩:=mem.cellsF h2;rw[hb] at O;cases O;have L:=hev _ _ p;have Z:=qi L C;have R:=Z.length;have hcl:=(K.get h3).2;have hei:e< B.es.length:=(jY.1 h3).1;have hle:(e+1) * B.sz<=cs'.size:=fo (mC _ hei) hsz;rw[zu,Kk] at hle;obtain⟨w',r1,r2,r3,r4,r5⟩:=run_storeCells' (P:=P) (ρ y).cells.toList w cs' (e* B.sz+off) 0 hh ω (zg Z h6);have hwr:=mem.write (w':=w') (i:=i) (es:=B.es.set e (fD cs off vs)) (ea h2).2 (ea h2).1 hb r5 r4 r2 r3 (λk e' he'=>?_) (by simp[cL];simpa using hsz) (by simp[aY,hh,cL]);refine .inl ⟨undef,w',β,.inr ⟨?_,rfl⟩,hwr.1,rfl,hwr.2,λ_ _=>rfl⟩;simp only[zK] at R;simp[execOp,ho,Instr.storeAt,Instr.sureAddr,hp',storeVar,run_sizeOf' h7,R,r1];rw[Aa] at he';by_cases hek:e=k;subst hek;simp only[if_true,hei,Option.some.injEq] at he';subst he';obtain⟨xs,Q,U⟩:=(K.get h3).1.vals;refine⟨fD xs off (ρ y).cells.toList,xV Q Z,by rw[cL];exact hcl,λj v A=>?_⟩;have hxl:=Q.length;rw[fk] at A;rw[Ee,fk];simp only[M6,zK] at A⊢
  have hjl:j< xs.length:=by
   by_cases hjl:j< xs.length;exact hjl;exfalso;simp only[hjl,if_false] at A;split at A;cases A;rw[zt ω] at A;cases A
  by_cases hin:off<=j/\j< off+(ρ y).cells.size;rw[if_pos hin,if_pos hjl] at A;rw[if_pos ω,if_pos ω,show e* B.sz+j- (e* B.sz+off)=j- off by omega];exact A;rw[if_neg hin] at A;rw[if_neg ω];have:=U j v A;simp only[World.cell?,hh] at this;simpa using this;rw[if_neg hek] at he';obtain⟨hc1,hc2⟩:=K.get he';obtain⟨xs,Q,U⟩:=hc1.vals;refine⟨xs,Q,hc2,λj v A=>?_⟩;have hxl:=Q.length;have hjl:j< xs.length:=(jY.1 A).1;rw[Ee,fk]
  have hdis:¬(e* B.sz+off+0<=k* B.sz+j/\k* B.sz+j< e* B.sz+off+0+(ρ y).cells.toList.length):=by
   simp only[zK] at R⊢;rcases Nat.lt_or_gt_of_ne hek with W|hgt
   have:=mC B.sz (show e+1<=k from W);rw[zu,Kk] at this;omega;have:=mC B.sz (show k+1<=e from hgt);rw[zu,Kk] at this;omega
  rw[if_neg hdis];have:=U j v A;simp only[World.cell?,hh] at this;simpa using this
 | @nilCheck x a g h2=>
  have G:=hev _ _ g;refine .pure (y:=ρ x) mem ?_ G;cases a with
  |lptr i e o'=>obtain⟨b,s,_,L⟩:=G;simp[execOp,ho,L]
  |aptr es i o'=>obtain⟨_,b,off,s,L,_⟩:=G;simp[execOp,ho,L]
  |clos f fst cap=>obtain⟨xs,Y,L,_⟩:=G;simp[execOp,ho,L]
  |_=>simp at h2
 | @bin bop T x y yt a b r g h2 h3=>
  have ha:ρ x=a:=hev _ _ g;have hb:ρ y=b:=hev _ _ h2;refine .pure (y:=r) mem ?_ rfl;have:=h3 w;simp only[execOp,ho,ha,hb];exact iI _ this
 | @bin_c bop T x y yt a b r g h2 h3=>
  subst h2;have ha:=hev _ _ g;have hb:ρ (.const b)=b:=hcst b;refine .pure (y:=r) mem ?_ rfl;have:=h3 _ _ _ _ ha w;simp only[execOp,ho,hb];exact iI _ this
 | @un uop T x a r g h2=>
  have ha:ρ x=a:=hev _ _ g;refine .pure (y:=r) mem ?_ rfl;simp only[execOp,ho,ha];exact iI _ (h2 w)
 | @conv S D x a r g h2=>
  have ha:ρ x=a:=hev _ _ g;refine .pure (y:=r) mem ?_ rfl;simp only[execOp,ho,ha];exact iI _ (h2 w)
 | @extract t i cs c g h2=>
  obtain⟨xs,G,K⟩:=hev _ _ g;obtain⟨y,hy1,hy2⟩:=Gb K h2;refine .pure (y:=y) mem ?_ hy2;simp[execOp,ho,G,Instr.extract,hy1]
 | @build T parts zs pl as cs g h2 h3 p=>
  obtain⟨v,hv,Z⟩:=run_zeroValue' g w;have V:=jq (xs:=parts.toList.map (·.2)) hev h3;obtain⟨Y,hy1,hy2⟩:=G6 (xs:=v.cells) (I4 V) (by rw[Z];exact uD zs) p;refine .pure (y:= .agg Y) mem ?_ ⟨_,rfl,hy2⟩;unfold vW at h2;cases hu:P.underlying T with
  |none=>simp[hu] at h2
  |some d=>
   rw[hu] at h2;cases d with
   |struct fs=>
    simp only[] at h2;have hm:=na fs.toList pl w h2
    have hm':(fs.mapM λf=>(do pure (f.offset,<-sizeOf f.type):Sem (Nat×Nat))).run P w= .ok pl.toArray w:=by
     rw[KN,Sem.run_map,hm];rfl
    have hq:(parts.map λq=>(q.1,ρ q.2)).toList=parts.toList.map λq=>(q.1,ρ q.2):=ψ
    have hfill:Instr.fill (λi=>pl.toArray[i]?) v.cells (parts.map λq=>(q.1,ρ q.2)).toList=some Y:=by
     rw[hq];simpa using hy1
    simp only[execOp,ho];refine iI _ ?_;simp only[Instr.build,Sem.run_bind,hv,Result.andThen_ok,run_underlying hu w];simp only[hm',Result.andThen_ok];rw[hfill];rfl
   |_=>simp at h2
 | @fieldAddr_l T x f i e off' foff s g h2 h3=>
  obtain⟨b,sz,hb,G⟩:=hev _ _ g;refine .pure (y:= .pointer (some ⟨b,e* sz+off'+foff,none⟩)) mem ?_ ⟨b,sz,hb,by rw[JQ]⟩;simp only[execOp,ho,G];exact iI _ (tY h2 h3 _ _ _)
 | @fieldAddr_a T x f es i off' foff s g h2 h3=>
  obtain⟨hi,b,boff,sz,G,K⟩:=hev _ _ g;refine .pure (y:= .pointer (some ⟨b,boff+i* sz+off'+foff,none⟩)) mem ?_ ⟨hi,b,boff,sz,by rw[JQ (boff+i* sz)],K⟩;simp only[execOp,ho,G];exact iI _ (tY h2 h3 _ _ _)
 | @field T x f cs foff s g h2 h3 p=>
  obtain⟨xs,G,K⟩:=hev _ _ g;have hl:=K.length;simp only[zK] at hl;refine .pure (y:= .agg (xs.extract foff (foff+s))) mem ?_ ⟨_,rfl,?_⟩;simp only[execOp,ho,G];exact iI _ (xp h2 h3 _ _);rw[Array.toList_extract,List.extract_eq_take_drop];have:=(K.drop foff).take s;simpa using this
 | @field1 T x f cs foff s c g h2 h3 p=>
  obtain⟨xs,G,K⟩:=hev _ _ g;obtain⟨y,hy1,hy2⟩:=Gb K p;refine .pure (y:=y) mem ?_ hy2;simp only[execOp,ho,G];exact iI _ (xo h2 h3 hy1 _)
 | @index_l T x ix i e n c E sz kd k g h2 h3 p C=>
  obtain⟨b,c',hb,G,hnc,_⟩:=hev _ _ g;have hix:ρ ix= .int kd k:=hev _ _ h2;refine .pure (y:= .pointer (some ⟨b,e* sz+k.toNat* sz,none⟩)) mem ?_ ⟨b,sz,hb,by simp[zu]⟩;simp only[execOp,ho,G,hix];exact iI _ (tX C h3 p _)
 | @index_a T x ix es E sz kd k cs g h2 h3 p C h6=>
  obtain⟨a,c',G,hnc,_,K⟩:=hev _ _ g;have hix:ρ ix= .int kd k:=hev _ _ h2;have W:k.toNat< es.length:=(jY.1 p).1;rcases K with rfl|⟨b,off,s,rfl,hb,hm,K⟩
  simp at W;have hs:s=sz:=by rw[<-(K.get p).2];exact C
  subst hs;refine .pure (y:= .pointer (some ⟨b,off+k.toNat* s,none⟩)) mem ?_ ⟨W,b,off,s,ψ,hb,hm,K⟩;simp only[execOp,ho,G,hix];exact iI _ (tX h6 h3 ω _)
 | @index_s T x ix a b r g h2 h3=>
  have ha:ρ x=a:=hev _ _ g;have hb:ρ ix=b:=hev _ _ h2;refine .pure (y:=r) mem ?_ rfl;simp only[execOp,ho,ha,hb];exact iI _ (h3 w)
 | @makeFunc f first captured as bs g h2=>
  have ha:=jq hev g;have hb:=jq hev h2;refine .pure (y:= .func (.func f) (first.map ρ) (captured.map ρ)) mem ?_ ⟨_,_,rfl,by simpa using ha,by simpa using hb⟩;simp only[execOp,ho];exact iI _ rfl
 | @call c callee f fst cap as r g h2 h3 p=>
  obtain⟨xs,Y,G,hr1,hr2⟩:=hev _ _ h2;have V:=jq hev h3;have hall:=gF ((hr1.append V).append hr2);have hcl:RVs (MM M0 β hp) (λ_=>none) w ((fst++as++cap).map coe) (xs.toList++c.args.toList.map ρ++Y.toList):=dG p.cl hall;refine .inr ⟨f,xs++c.args.map ρ++Y,?_,?_⟩;simp only[execOp,ho];simp only[resolve,g,G,Deferred.ofValue,Sem.run_bind,Sem.run_pure,Result.andThen_ok,invoke,p.enters];have Z:=p.calls (MM M0 β hp) w _ mem.fit hcl
  have X:(xs.toList++c.args.toList.map ρ++Y.toList).toArray=xs++c.args.map ρ++Y:=by
   apply AD;simp
  rw[X] at Z;refine Z.mono ?_;rintro e w' ⟨y,rfl,L,hb⟩;have hm:=mem.ext hb;exact⟨y,rfl,β,hm.1,(StabC.all (w:=w') (w':=w') (M:=MM M0 β hp) (M':=MM M0 β hp) (β:=λ_=>none) (β':=β) ⟨λ_ _ _ _=>rfl,λ_ _ _ h=>h,(λ_ _ h=>by cases h),λ_ _ h=>h⟩ L),hm.2,λ_ _=>rfl⟩
 | @callS c callee f fst cap as as' ids r g h2 h3 p C=>
  obtain⟨xs,Y,G,hr1,hr2⟩:=hev _ _ h2;have V:=jq hev h3;have hcl:=By mem p (λ_ h=>h) ((hr1.append V).append hr2) C.cl;refine .inr ⟨f,xs++c.args.map ρ++Y,?_,?_⟩;simp only[execOp,ho];simp only[resolve,g,G,Deferred.ofValue,Sem.run_bind,Sem.run_pure,Result.andThen_ok,invoke,C.enters]
  have hsub:∀i B,ef hp rd i=some B->hp i=some B:=λi B h=>by
   simp only[ef] at h;split at h;cases h;exact h
  have hM:∀b,MM M0 β (ef hp rd) b->MM M0 β hp b:=by
   rintro b (hb|⟨i,B,s,g1,g2⟩);exact .inl hb;exact .inr ⟨i,B,s,hsub i B g1,g2⟩
  have Z:=C.calls (MM M0 β (ef hp rd)) w _ (mem.fit.sub hM) hcl
  have X:(xs.toList++c.args.toList.map ρ++Y.toList).toArray=xs++c.args.map ρ++Y:=by
   apply AD;simp
  rw[X] at Z;refine Z.mono ?_;rintro e w' ⟨y,rfl,L,hb⟩;have hm:=mem.ext hb;have hf:=hm.1.forget hsub;refine⟨y,rfl,β,?_⟩;unfold nj;rw[tS];exact⟨hf.1,(StabC.all (w:=w') (w':=w') (M:=MM M0 β (ef hp rd)) (M':=MM M0 β (ef hp rd)) (β:=λ_=>none) (β':=β) ⟨λ_ _ _ _=>rfl,λ_ _ _ h=>h,(λ_ _ h=>by cases h),λ_ _ h=>h⟩ L),hm.2.trans hf.2 hb.size,λ_ _=>rfl⟩
 | @callE c callee f x0 rest as i e n cap B E' r g h2 h3 p C h6 h7=>
  obtain⟨xs,Y,G,hr1,hr2⟩:=hev _ _ h2;have hxs:xs.toList=[]:=hr1;have hys:Y.toList=[]:=hr2;have hargs:c.args.map ρ=(ρ x0::rest.map ρ).toArray:=by apply AD;simp[h3]
  have V:=gF (jq hev C);obtain⟨b,cs,hb,hh,K,hl⟩:=mem.cellsF h6;have hmb:MM M0 β hp b:= .inr ⟨i,B,_,(ea h6).1,hb⟩;have hst:StabC (MM M0 β hp) (MM M0 β hp) (λ_=>none) β w w:=⟨λ_ _ _ _=>rfl,λ_ _ _ h=>h,(λ_ _ h=>by cases h),λ_ _ h=>h⟩;refine .inr ⟨f,(ρ x0::rest.map ρ).toArray,?_,?_⟩;simp only[execOp,ho];simp only[resolve,g,G,Deferred.ofValue,Sem.run_bind,Sem.run_pure,Result.andThen_ok,invoke];rw[hargs,show xs= #[] from AD hxs,show Y= #[] from AD hys,Array.empty_append,Array.append_empty];simp only[h7.enters]
  have hlsl:RV (MM M0 β hp) (λi=>if i=0 then some (b,B.sz) else none) w (.lsl 0 e n cap B.sz) (ρ x0):=by
   obtain⟨b',c',O,hrest⟩:=hev _ _ p;rw[hb] at O;cases O;exact⟨b,c',rfl,hrest⟩
  refine(h7.calls (MM M0 β hp) w b (ρ x0) _ mem.fit hmb ⟨cs,hh,iH h7.clE K,hl⟩ hlsl (dG h7.cl V)).mono ?_;rintro x w' ⟨rfl,⟨cs',hh',hr',hl'⟩,hbut⟩;have hm:=mem.but (ea h6).2 hbut (ea h6).1 hb hh' hr' hl';exact⟨r,rfl,β,hm.1,rfl,hm.2,λ_ _=>rfl⟩
 | @callO c callee f as ty sz es g h2 h3 p=>
  obtain⟨xs,Y,G,hr1,hr2⟩:=hev _ _ h2;have hxs:xs.toList=[]:=hr1;have hys:Y.toList=[]:=hr2;have V:=gF (jq hev h3);refine .inr ⟨f,c.args.map ρ,?_,?_⟩;simp only[execOp,ho];simp only[resolve,g,G,Deferred.ofValue,Sem.run_bind,Sem.run_pure,Result.andThen_ok,invoke];rw[show xs= #[] from AD hxs,show Y= #[] from AD hys,Array.empty_append,Array.append_empty];simp only[p.enters];have Z:=p.calls (MM M0 β hp) w _ mem.fit (dG p.cl V);have X:(c.args.toList.map ρ).toArray=c.args.map ρ:=by apply AD;simp
  rw[X] at Z;refine Z.mono ?_;rintro x w' ⟨b,cc,rfl,hb1,hb2,hc1,hc2,⟨cs,hh,K,hl⟩,hbel⟩;have hm:=mem.own p.sz0 hbel hid0 hid hidh hb1 hb2 hh K (fo (mC _ hc1) hl);refine⟨_,rfl,_,hm.1,⟨b,cc,bq _ _ _,ψ,hc1,hc2,(λ_ h=>by cases h),cs.size,by simp[aY,hh],by simpa using hl⟩,hm.2,λj A=>bw _ _ A⟩
 | @len c x a n T d g h2 h3 p C h6=>
  have G:=hev _ _ p;obtain⟨hu,_⟩:=eo h6;refine .pure (y:= .int .i64 n) mem ?_ rfl
  have hb:∀(b:Option Addr) (c':Nat),ρ x= .slice b n c'->(execOp ρ o).run P w= .ok (.value (.int .i64 n)) w:=by
   intro b c' hb;simp[execOp,ho,resolve,g,h2,h3,hb,invoke,builtin,Builtin.len_,run_underlying hu,goInt]
  cases a with
  |arr es=>simp only[sI,Option.some.injEq] at C;subst C;obtain⟨b,c',L,_⟩:=G;exact hb b c' L
  |lsl i e k cap sz=>simp only[sI,Option.some.injEq] at C;subst C;obtain⟨b,c',_,L,_⟩:=G;exact hb _ c' L
  |emp=>simp only[sI,Option.some.injEq] at C;subst C;obtain⟨b,L⟩:=G;exact hb b 0 L
  |_=>simp[sI] at C
 | @builtinV c b vs r g h2 h3=>
  have V:=jq hev h2
  have hv:c.args.toList.map ρ=vs:=by
   clear h3 ho h2;generalize c.args.toList.map ρ=Y at V
   induction vs generalizing Y with
   |nil=>exact V
   |cons v vs ih=>obtain⟨x,xs,rfl,e,h⟩:=V;cases (e:x=v);rw[ih xs h]
  have hargs:c.args.map ρ=vs.toArray:=by apply AD;simp[hv]
  refine .pure (y:=r) mem ?_ rfl;simp only[execOp,ho,resolve,g,Sem.run_bind,Sem.run_pure,Result.andThen_ok,invoke,hargs];exact h3 w _ _
 | @slice_a T x lo hi mx es l h d g h2 h3 p C h6=>
  obtain⟨a,c,G,hnc,hcm,K⟩:=hev _ _ g;obtain⟨N,r1,r2,r3,_⟩:=Gd (P:=P) hev h2 hnc (λ_ h=>by cases h) h3 p;have H:=run_sliceAt' (s:=d.2) (E:=d.1) C (a:=a) r1;have R:((es.drop l).take (h- l)).length=h- l:=χ
  refine .pure (y:= .slice (if N=l then a else a.map (·.add (l* d.2))) (h- l) (N- l)) mem ?_ ?_;simp only[execOp,ho,G];exact iI _ H;refine⟨_,N- l,by rw[R],by rw[R];omega,ω,?_⟩;by_cases W:l< h;right;have hes:es≠[]:=λe=>by subst e;simp at p;omega
  rcases K with rfl|⟨b,off,s,rfl,hN,hm,K⟩
  exact absurd rfl hes
  have hs:s=d.2:=by
   cases es with
   |nil=>exact absurd rfl hes
   |cons e es=>rw[<-h6 hes e (mu ..)];exact K.1.symm
  subst hs;exact⟨b,off+l* d.2,d.2,by rw[if_neg ω];simp[k5],hN,hm,(K.drop l).take _⟩;left;rw[show h- l=0 by omega];rfl
 | @slice_l T x lo hi mx i e n cap sz l h m E g h2 h3 p C h6=>
  obtain⟨b,c,hb,G,hnc,hcm,hcap,N0,hN1,hN2⟩:=hev _ _ g;obtain⟨N,r1,r2,r3,r4⟩:=Gd (P:=P) hev h2 hnc hcap h3 p;have H:=run_sliceAt' h6 (a:=some ⟨b,e* sz,none⟩) r1
  have haddr:(if N=l then some (⟨b,e* sz,none⟩:Addr) else(some ⟨b,e* sz,none⟩:Option Addr).map (·.add (l* sz)))=some ⟨b,(e+l) * sz,none⟩:=by
   split;have:l=0:=ω
   subst this;rfl;simp[k5,zu]
  rw[haddr] at H;refine .pure (y:= .slice (some ⟨b,(e+l) * sz,none⟩) (h- l) (N- l)) mem ?_ ⟨b,N- l,hb,rfl,ω,ω,λk hk=>?_,N0,hN1,?_⟩;simp only[execOp,ho,G];exact iI _ H;cases m with
  |none=>cases hk
  |some m'=>simp only[DS,Option.some.injEq] at hk;rw[r4 m' rfl];exact hk
  exact fo (mC _ ω) hN2
 | @slice_e T x lo hi mx a d g h2 h3 p C h6=>
  obtain⟨kh,p⟩:=p;obtain⟨km,C⟩:=C;have G:=hev _ _ g
  have hs:∃b n c,ρ x= .slice b n c:=by
   cases a with
   |arr es=>obtain⟨b,c,L,_⟩:=G;exact⟨_,_,_,L⟩
   |lsl i e k cap sz=>obtain⟨b,c',_,L,_⟩:=G;exact⟨_,_,_,L⟩
   |emp=>obtain⟨b,L⟩:=G;exact⟨_,_,_,L⟩
   |_=>simp at h2
  obtain⟨b,n,c,L⟩:=hs
  have hb:(Instr.sliceBounds true n c (lo.map ρ) (hi.map ρ) (mx.map ρ)).run P w= .ok (0,0,0) w:=by
   rw[j8 hev h3,j8 hev p,j8 hev C];have r1:∀k y code,(Instr.sliceBound (.int k 0) y code).run P w= .ok 0 w:=λk y code=>fl (i:=0) (mN _) code w;simp[Instr.sliceBounds,r1]
  refine .pure (y:= .slice b 0 0) mem ?_ ⟨b,rfl⟩;simp only[execOp,ho,L];refine iI _ ?_;have:=run_sliceAt' (s:=d.2) (E:=d.1) h6 (a:=b) hb;simpa using this
 | @slice_v T x lo hi mx a lv hv mv r g h2 h3 p C=>
  have ha:ρ x=a:=hev _ _ g;refine .pure (y:=r) mem ?_ rfl;simp only[execOp,ho,ha,j8 hev h2,j8 hev h3,j8 hev p];exact iI _ (C w)
 | @makeSlice T lo co kl kc E sz zs bs l c g h2 h3 p C h6 h7 h8 h9 hz0=>
  have hl:ρ lo= .int kl l:=hev _ _ g;have Z:ρ co= .int kc c:=hev _ _ h2;obtain⟨hu,hz⟩:=eo h3;obtain⟨inf,z,i1,i2,i3,i4,i5⟩:=Ad hz p h6;have h9':(c:Int)<=9223372036854775807:=by unfold maxLen at h9;omega
  have O:(inf.bytes:Int) * (c:Int)<=281474976710656:=by
   rw[i5];have:((bs* c:Nat):Int)<=281474976710656:=ω
   rwa[EA] at this
  have H:=run_make (P:=P) w T E inf z hu i1 i2 kl kc l c ω ω O h9';simp only[DH] at H;have hzs:z.cells.size=sz:=by rw[<-zK,i3];exact C
  have J:=mem.alloc (i:=id) (ty:=E) (s:=sz) (es:=List.replicate c (zs.map ofV)) (cs:=madeCells z.cells (c* inf.size)) (j0 hz0) hid0 hid hidh (λk e X=>by
   rw[MS] at X;split at X
   ·rename_i hk
    simp only[Option.some.injEq] at X;subst X;refine⟨zs,uD zs,by simp[C],λj v A=>?_⟩;have hjl:j< sz:=by rw[<-C];exact(jY.1 A).1
    have W:k* sz+j< c* sz:=by
     have:(k+1) * sz<=c* sz:=mC _ hk;rw[zu] at this;omega
    have hmod:(k* sz+j) % sz=j:=by rw[Eg,Pc];exact Fz hjl
    rw[i4];simp only[madeCells,Array.getElem?_map,Array.getElem?_range,W,if_true,DS,hzs,hmod];rw[<-i3] at A;rw[NW] at A;simp[getElem!_def,A]
   cases X) (by simp[i4,size_madeCells])
  refine .inl ⟨.slice (some ⟨w.heap.size,0,none⟩) l c,_,_,.inl ?_,J.1,⟨w.heap.size,c,bq _ _ _,?_,h7,h9,λk hk=>by simpa using hk,c* sz,?_,ψ⟩,J.2,λj A=>bw _ _ A⟩;simp only[execOp,ho,hl,Z];exact iI _ H;simp;unfold aY;rw[heap_alloc_new'];simp[i4,size_madeCells]
 | @buildSlice T len parts E sz zs as es g h2 h3 p C h6 h7 h8 hz0=>
  obtain⟨hu,hz⟩:=eo g;obtain⟨z,hzr,hzc⟩:=run_zeroValue' h2 w;have V:=jq (xs:=parts.toList.map (·.2)) hev h6;obtain⟨hl1,hl2⟩:=yJ V h7;have R:parts.toList.length=len:=by have:=congrArg List.length C;simpa using this
  have hesl:es.length=len:=by rw[hl1];simp;simpa using R
  have hq:(parts.map λq=>(q.1,ρ q.2)).toList=(List.range' 0 ((parts.toList.map (·.2)).map ρ).length).zip ((parts.toList.map (·.2)).map ρ):=by
   have e1:List.range' 0 ((parts.toList.map (·.2)).map ρ).length=parts.toList.map (·.1):=by
    rw[C,NC];congr 1;simp;simpa using R
   rw[e1,Array.toList_map,Oz,List.zip_map'];rfl
  have hcells:∀v∈(parts.toList.map (·.2)).map ρ,v.cells.size=sz:=by
   intro v hv;obtain⟨i,hi,hvi⟩:=List.mem_iff_getElem.1 hv;have hil:i< es.length:=by rw[hl1];exact hi
   obtain⟨x,Q,U⟩:=hl2 i es[i] (eT hil);rw[eT hi,Option.some.injEq,hvi] at Q;subst Q;have:=U.length;rw[<-zK,this];exact h8 _ (FH hil)
  have hzsz:z.cells.size=sz:=by rw[<-zK,hzc];exact h3
  obtain⟨Y,f1,f2,f3,_⟩:=CI (sz:=sz) ((parts.toList.map (·.2)).map ρ) 0 ((Array.range (len* sz)).map ((if len* sz=0 then #[] else z.cells)[· % (if len* sz=0 then #[] else z.cells).size]!)) hcells (by simp;rw[<-R];simp)
  have J:=mem.alloc (i:=id) (ty:=E) (s:=sz) (es:=es) (cs:=Y) (j0 hz0) hid0 hid hidh (λk e X=>by
   obtain⟨x,Q,U⟩:=hl2 k e X;refine⟨x.cells.toList,U,h8 e (mc X),λj v A=>?_⟩;have:=f3 k x Q j v (by simpa using A);simpa using this) (by rw[f2];simp[hesl])
  refine .inl ⟨.slice (some ⟨w.heap.size,0,none⟩) len len,_,_,.inl ?_,J.1,⟨w.heap.size,len,bq _ _ _,ψ,ir _,?_,λk hk=>by simpa using hk,len* sz,?_,ψ⟩,J.2,λj A=>bw _ _ A⟩;simp only[execOp,ho];refine iI _ ?_;rw[<-hq] at f1;by_cases h0:len* sz=0;simp only[h0,if_true] at f1;simp only[Instr.buildSlice,Sem.run_bind,run_underlying hu w,Result.andThen_ok,run_sizeOf' hz,h0,show¬(0> 2^ 24) by omega,if_false,if_true,Sem.run_pure,f1,newRow,run_newObj];rfl;simp only[h0,if_false] at f1;simp only[Instr.buildSlice,Sem.run_bind,run_underlying hu w,Result.andThen_ok,run_sizeOf' hz,h0,show¬(len* sz> 2^ 24) by have:=p.1;omega,if_false,hzr,Sem.run_pure,f1,newRow,run_newObj];rfl;have:=p.2;unfold maxLen;omega;unfold aY;rw[heap_alloc_new'];simp[f2]
 | @append0 c x y T T' E sz a rd g h2 h3 p C h6 h7 h8=>
  obtain⟨b,G⟩:=hev _ _ h6;obtain⟨xs,c',_,⟨a',L⟩,_,H⟩:=h8.run (P:=P) mem (hev _ _ h7);obtain⟨⟨E',sz'⟩,C⟩:=xa.1 C;have h0:=H 0 (mN _) w rfl;simp only[Fe] at L;rw[L] at h0;simp only[JR,List.take_zero] at h0;refine .pure (y:= .slice b 0 0) mem ?_ ⟨b,rfl⟩;simp only[execOp,ho,resolve,g,h2,Sem.run_bind,Sem.run_pure,Result.andThen_ok,invoke,builtin,M9,zo,Nm,G,L,h3,vH p C _ h0]
 | @append_e c x y T T' E sz a rd es zs bs g h2 h3 p C h6 h7 h8 h9 h10 h11 h12 h13 h14 hz0=>
  obtain⟨b,G⟩:=hev _ _ h6;obtain⟨xs,c',F,⟨a',L⟩,_,H⟩:=h8.run (P:=P) mem (hev _ _ h7);obtain⟨⟨E',sz'⟩,C⟩:=xa.1 C;have hn:=H es.length (ir _);rw[L,<-F.1,qj] at hn;have hpos:0< es.length:=by cases es with|nil=>exact absurd rfl h9|cons e es=>simp
  have hold:∀w':World,w'.heap=w.heap->(Builtin.firstCells sz 0 (.slice b 0 0)).run P w'= .ok #[] w':=by
   intro w' _;cases b with
   |none=>rfl
   |some ad=>simp[Builtin.firstCells,loadCells,loadCellsFrom]
  obtain⟨nc,z,g1,g2,g3,K⟩:=nf (w:=w) (n:=0) (m:=es.length) (c:=0) (c':=c') (a':=a') (base:=b) p C h10 h12 ω (by simpa using h13) (by simpa using h14) o.type hold hn;have hzs:z.size=sz:=by rw[<-zK,g3];exact h11
  have hdr:=mem.ext ((Below.refl w.heap.size w).drew)
  have J:=hdr.1.alloc (i:=id) (ty:=E) (s:=sz) (es:=es) (cs:= #[]++xs.toArray++Builtin.zeroCells z (nc- (0+es.length))) (j0 hz0) hid0 hid hidh (λk e X=>by
   obtain⟨Y,r1,r2,r3⟩:=F.2 k e X;refine⟨Y,hdr.2.vs r1,r2,λj v A=>?_⟩;have:=r3 j v A;have W:=(jY.1 this).1;rw[zr (by simpa using W)];simpa using this) (by simp[F.1])
  refine .inl ⟨.slice (some ⟨w.heap.size,0,none⟩) es.length nc,_,_,.inl ?_,J.1,⟨w.heap.size,nc,bq _ _ _,ψ,ω,by unfold maxLen;omega,(λk hk=>by cases hk),nc* sz,?_,ψ⟩,⟨⟨λbb N hN hm=>(J.2.heap bb N hN hm),J.2.m,J.2.be,J.2.sz⟩,J.2.oth⟩,λj A=>bw _ _ A⟩;simp only[execOp,ho,resolve,g,h2,Sem.run_bind,Sem.run_pure,Result.andThen_ok,invoke,builtin,M9,zo,Nm,G,L,h3,K,vY];unfold aY;have:(w.drew.alloc (.cells (#[]++xs.toArray++Builtin.zeroCells z (nc- (0+es.length))) E)).heap[w.heap.size]?=_:=heap_alloc_new' w.drew _;rw[this];simp only[Ou,NU,Fe,F.1,iG,hzs,Option.some.injEq];rw[vY,<-zu];congr 1;omega
 | @append_l c x y T T' E sz a rd es zs bs i n cap B g h2 h3 p C h6 h7 h8 h9 h10 h11 h12 h13 h14 h15 h16 h17 h18 h19=>
  subst h8 h9 h10;have hxv:=hev _ _ h6
  have hsrcx:SrcOf hp B.sz (.lsl i 0 B.es.length cap B.sz) B.es [i]:=by
   have:=SrcOf.lsl (s:=B.sz) (hp:=hp) (i:=i) (e:=0) (n:=B.es.length) (cap:=cap) h7 ω;simpa using this
  obtain⟨xs0,c,hflat0,⟨a0,G⟩,_,hrun0⟩:=hsrcx.run (P:=P) mem hxv;obtain⟨b,c2,hb,U,hnc,hcm,hcap,N,hN,hcN⟩:=hxv;rw[G] at U;simp only[Value.slice.injEq,true_and] at U;obtain⟨rfl,rfl⟩:=U;obtain⟨xs,c',F,⟨a',L⟩,_,H⟩:=h14.run (P:=P) mem (hev _ _ h13);obtain⟨⟨E',sz'⟩,C⟩:=xa.1 C;have hn:=H es.length (ir _);rw[L,<-F.1,qj] at hn;have h7s:=ea h7;have hne:i≠id:=λe=>by subst e;rw[hidh] at h7s;cases h7s.1
  simp only[JR] at G hcN;rw[vY] at hcN;by_cases hroom:B.es.length+es.length<=c;have hle:(B.es.length+es.length) * B.sz<=N:=fo (mC _ hroom) hcN
  obtain⟨w',r1,r2,r3,r4⟩:=mem.storeEls (P:=P) (e:=B.es.length) (es':=B.es++es) h7s.2 h7s.1 hb F (F.one h12) hN hle (λq el hq=>by
   by_cases hql:q< B.es.length;rw[Bg hql] at hq;exact .inr ⟨.inl hql,hq⟩;rw[D2 ω] at hq;have:=(jY.1 hq).1;exact .inl ⟨ω,ω,hq⟩) (by simpa using hle)
  have hrn:=r2.rename (i:=i) (id:=id) (B:=⟨B.ty,B.sz,B.es++es⟩) (bq _ _ _) hb hid0 hid (by rw[bw _ _ (λe=>hne e.symm)];exact hidh);rw[pT] at hrn;refine .inl ⟨.slice (some ⟨b,0,none⟩) (B.es.length+es.length) c,w',_,.inl ?_,hrn.1,⟨b,c,bq _ _ _,ψ,hroom,hcm,(λk hk=>by cases hk),N,r3.sz b N hN,by rw[vY];exact hcN⟩,r3.trans hrn.2 ω,λj A=>bw _ _ A⟩;have K:=um (P:=P) (w:=w) (w':=w') (b:=b) (off:=0) (n:=B.es.length) (m:=es.length) (c:=c) (c':=c') (a':=a') (new:=xs.toArray) p C hroom o.type (hn w rfl) (by simpa using r1);simp only[execOp,ho,resolve,g,h2,Sem.run_bind,Sem.run_pure,Result.andThen_ok,invoke,builtin,M9,zo,Nm,G,L,h3,K];have hold:=hrun0 B.es.length (ir _);rw[G,<-hflat0.1,qj] at hold;obtain⟨nc,z,g1,g2,g3,K⟩:=nf (w:=w) (n:=B.es.length) (m:=es.length) (c:=c) (c':=c') (a':=a') (base:=some ⟨b,0,none⟩) p C h15 h17 ω h18 h19 o.type hold hn;have hzs:z.size=B.sz:=by rw[<-zK,g3];exact h16
  have hdr:=mem.ext ((Below.refl w.heap.size w).drew);have hboth:=(F.append hflat0).stab hdr.2.toStabC
  have J:=hdr.1.alloc (i:=id) (ty:=B.ty) (s:=B.sz) (es:=B.es++es) (cs:=xs0.toArray++xs.toArray++Builtin.zeroCells z (nc- (B.es.length+es.length))) h7s.2 hid0 hid hidh (λk e X=>by
   obtain⟨Y,q1,q2,q3⟩:=hboth.2 k e X;refine⟨Y,q1,q2,λj v A=>?_⟩;have p:=q3 j v A;have W:=(jY.1 p).1;rw[zr (by simpa using W)];simpa using p) (by have:=hboth.1;simp at this⊢;omega)
  have hfg:=J.1.forget (hp':=upd (upd hp i none) id (some ⟨B.ty,B.sz,B.es++es⟩)) (λj B' A=>by
   by_cases hji:j=id;subst hji;rw[bq] at A⊢;exact A;rw[bw _ _ hji] at A⊢;by_cases hj2:j=i;subst hj2;rw[bq] at A;cases A;rw[bw _ _ hj2] at A;exact A)
  refine .inl ⟨.slice (some ⟨w.heap.size,0,none⟩) (B.es.length+es.length) nc,_,_,.inl ?_,hfg.1,⟨w.heap.size,nc,bq _ _ _,ψ,ω,by unfold maxLen;omega,(λk hk=>by cases hk),nc* B.sz,?_,ψ⟩,(hdr.2.trans J.2 (ir _)).trans hfg.2 ψ,λj A=>bw _ _ A⟩;simp only[execOp,ho,resolve,g,h2,Sem.run_bind,Sem.run_pure,Result.andThen_ok,invoke,builtin,M9,zo,Nm,G,L,h3,K];unfold aY;have:(w.drew.alloc (.cells (xs0.toArray++xs.toArray++Builtin.zeroCells z (nc- (B.es.length+es.length))) B.ty)).heap[w.heap.size]?=_:=heap_alloc_new' w.drew _;rw[this];simp only[Ou,NU,F.1,hflat0.1,iG,hzs,Option.some.injEq];rw[<-zu,<-zu];congr 1;omega
 | @copy c x y T T' E sz a rd es i e n cap B g h2 h3 p C h6 h7 h8 h9 h10 h11=>
  subst h7;obtain⟨b,c2,hb,G,hnc,hcm,hcap,N,hN,hcN⟩:=hev _ _ C;obtain⟨xs,c',F,⟨a',L⟩,_,H⟩:=h11.run (P:=P) mem (hev _ _ h10);have hkl:Nat.min es.length n<=es.length:=Nat.min_le_left _ _;have hkn:Nat.min es.length n<=n:=Nat.min_le_right _ _;have hn:=H (Nat.min es.length n) hkl w rfl;rw[L] at hn;have hft:=F.take (Nat.min es.length n);have W:(es.take (Nat.min es.length n)).length=Nat.min es.length n:=by rw[yv];omega
  rw[W] at hft;have hsl:(fD B.es e (es.take (Nat.min es.length n))).length=B.es.length:=cL _ _ _
  have hBN:B.es.length* B.sz<=N:=by
   obtain⟨b',cs,O,hh,_,hsz⟩:=mem.cellsF h6;rw[hb] at O;cases O;have:cs.size=N:=by simpa[aY,hh] using hN
   omega
  obtain⟨w',r1,r2,r3,r4⟩:=mem.storeEls (P:=P) (e:=e) (es':=fD B.es e (es.take (Nat.min es.length n))) (ea h6).2 (ea h6).1 hb hft (λv hv=>F.one h9 v (AG hv)) hN (by rw[W];exact fo (mC _ ω) hBN) (λq el hq=>by
   rw[fk] at hq;split at hq
   ·rename_i hin
    split at hq;exact .inl ⟨hin.1,hin.2,hq⟩;cases hq
   ·rename_i hin
    exact .inr ⟨ω,hq⟩) (by rw[hsl];exact hBN)
  refine .inl ⟨.int .i64 (Nat.min es.length n),w',β,.inl ?_,r2,rfl,r3,λ_ _=>rfl⟩;have K:=JG (P:=P) (w:=w) (w':=w') (T':=T') (b:=b) (off:=e* B.sz) (n:=n) (m:=es.length) (c:=c2) (c':=c') (a':=a') p o.type hn r1;simp only[execOp,ho,resolve,g,h2,Sem.run_bind,Sem.run_pure,Result.andThen_ok,invoke,builtin,M9,zo,Nm,G,L,h3,K]
end
end
end Go.Abs
