/- Part Y02 of the proof. -/
import Derived.Test.YtjgokhkahkmpbaaGreatDoorY01
set_option linter.all false
namespace Go.Abs
open Go.RowKit
section
variable {w':World}{M:Nat->Prop}{sz' c':Nat}{a':Option Addr}{new:Array Value}
def mS(M0:Nat->Prop)(w0:Base)(β:Bq)(hp:Hq)(w:World)(id:Nat)(u:Upd)(y:Value)(w':World)(β':Bq):Prop:=
 Mem M0 w0 β' (iM hp u.blk) w'/\RV (MM M0 β' (iM hp u.blk)) β' w' u.val y/\Stab (MM M0 β hp) (MM M0 β' (iM hp u.blk)) β β' w w'/\∀j,j≠id->β' j=β j
def Good(P:Program)(M0:Nat->Prop)(w0:Base)(β:Bq)(hp:Hq)(w:World)(id:Nat)(ρ:Operand->Value)(o:Oper)(u:Upd):Prop:=
 (∃y w' β',((execOp ρ o).run P w= .ok (.value y) w'\/((execOp ρ o).run P w= .ok .skip w'/\y=undef))/\mS M0 w0 β hp w id u y w' β')\/
 (∃f args,(execOp ρ o).run P w= .ok (.enter f args) w/\Calls P f args w λe w'=> ∃y,e= .returned y/\∃β',mS M0 w0 β hp w id u y w' β')
def ASem(P:Program)(id:Nat)(ev:Operand->Option AV)(hp:Hq)(op:Op)(u:Upd)(rd:Ln):Prop:=
 ∀(M0:Nat->Prop) (w0:Base) (β:Bq) (hp':Hq) (w:World) (ρ:Operand->Value) (o:Oper),o.op=op->Mem M0 w0 β hp' w->(∀x∈op.operands,∀a,ev x=some a->RV (MM M0 β hp') β w a (ρ x))->(∀v,ρ (.const v)=v)->
  id≠0->β id=none->hp' id=none->(∀i∈rd,hp' i=hp i)->Good P M0 w0 β hp' w id ρ o u
def tV(P:Program)(T:Nat):Option (List (Nat×Nat)):=
 match P.underlying T with
 |some (.struct fs)=>fs.toList.mapM λf=>(iO P f.type).map λs=>(f.offset,s)
 |_=>none
def qN:AV->Option Nat
 | .arr es=>some es.length
 | .lsl _ _ n _ _=>some n
 | .emp=>some 0
 |_=>none
def rv(P:Program)(T:Nat):Option Nat:=(P.info? T).map (·.bytes)
def evO(ev:Operand->Option AV):Option Operand->Option (Option Value)
 |none=>some none
 |some x=>match ev x with|some (.v y)=>some (some y)|_=>none
def SlB(ev:Operand->Option AV)(lo hi mx:Option Operand)(l h len:Nat)(cap m:Option Nat):Prop:=
 (∃lv,evO ev lo=some lv/\(lv=none/\l=0\/∃k i,lv=some (.int k i)/\i=(l:Int)))/\
 (∃hv,evO ev hi=some hv/\(hv=none/\h=len/\mx=none\/∃k i,hv=some (.int k i)/\i=(h:Int)))/\
 (∃mv,evO ev mx=some mv/\(mv=none/\m=cap\/∃k i,∃m':Nat,mv=some (.int k i)/\i=(m':Int)/\h<=m'/\m'<=len/\(m=some m'\/m=none)))
def ve:La->Option Lc
 |[]=>some []
 |a::as=>match a.cells,ve as with|some c,some cs=>some (c::cs)|_,_=>none
inductive SealArgs (hp:Hq):La->La->Ln->Prop
 |nil:SealArgs hp [] [] []
 |keep {a as as' ids}:SealArgs hp as as' ids->SealArgs hp (a::as) (coe a::as') ids
 |shut {i e n cap sz B as as' ids}:dw hp i=some B->e+n<=B.es.length->SealArgs hp as as' ids->SealArgs hp (.lsl i e n cap sz::as) (.arr ((B.es.drop e).take n)::as') (i::ids)
theorem SealArgs.congr{hp hp':Hq}{as as':La}{ids:Ln}(h:SealArgs hp as as' ids):(∀i∈ids,hp' i=hp i)->SealArgs hp' as as' ids:=by
 induction h with
 |nil=>exact λ_=> .nil
 |keep _ ih=>exact λh=> .keep (ih h)
 |shut h1 h2 _ ih=>exact λh=> .shut ((eS (h _ (List.mem_cons_self ..))).trans h1) h2 (ih λi hi=>h i (List.mem_cons_of_mem _ hi))
inductive AEval (P:Program)(id:Nat)(ev:Operand->Option AV)(hp:Hq):Op->Upd->Ln->Prop
 |move {x a}:ev x=some a->AEval P id ev hp (.move x) ⟨a,[]⟩ []
 |sem {op u rd}:ASem P id ev hp op u rd->AEval P id ev hp op u rd
 |assign {x a}:ev x=some a->AEval P id ev hp (.assign x) ⟨a,[]⟩ []
 |pick {c a b t v}:ev c=some (.v (.bool t))->(t=true->ev a=some v)->(t=false->ev b=some v)->AEval P id ev hp (.pick c a b) ⟨v,[]⟩ []
 |alloc {T zs}:fm P T=some zs->(hz:Nat.blt 0 zs.length=true:=by rfl)->AEval P id ev hp (.alloc T) ⟨.lptr id 0 0,[(id,some ⟨T,zs.length,[zs.map ofV]⟩)]⟩ []
 |box {T x a cs}:ev x=some a->a.cells=some cs->(hz:Nat.blt 0 cs.length=true:=by rfl)->AEval P id ev hp (.box T x) ⟨.lptr id 0 0,[(id,some ⟨T,cs.length,[cs]⟩)]⟩ []
 |load_l {T x i e o B cs n}:ev x=some (.lptr i e o)->dw hp i=some B->B.es[e]?=some cs->fj P T=some true->iO P T=some n->o+n<=cs.length->
    AEval P id ev hp (.load T x) ⟨.agg ((cs.drop o).take n),[]⟩ [i]
 |load_l1 {T x i e o B cs c}:ev x=some (.lptr i e o)->dw hp i=some B->B.es[e]?=some cs->fj P T=some false->cs[o]?=some c->
    AEval P id ev hp (.load T x) ⟨c,[]⟩ [i]
 |load_a {T x es i o cs n}:ev x=some (.aptr es i o)->es[i]?=some cs->fj P T=some true->iO P T=some n->o+n<=cs.length->
    AEval P id ev hp (.load T x) ⟨.agg ((cs.drop o).take n),[]⟩ []
 |load_a1 {T x es i o cs c}:ev x=some (.aptr es i o)->es[i]?=some cs->fj P T=some false->cs[o]?=some c->
    AEval P id ev hp (.load T x) ⟨c,[]⟩ []
 |store {T x y i e o B cs a vs}:ev x=some (.lptr i e o)->dw hp i=some B->B.es[e]?=some cs->ev y=some a->a.cells=some vs->vs.all AV.one=true->iO P T=some vs.length->o+vs.length<=cs.length->
    AEval P id ev hp (.store T x y) ⟨.v undef,[(i,some ⟨B.ty,B.sz,B.es.set e (eR cs o vs)⟩)]⟩ [i]
 |nilCheck {x a}:ev x=some a->(match a with| .lptr .. | .aptr .. | .clos .. =>true|_=>false)=true->AEval P id ev hp (.nilCheck x) ⟨a,[]⟩ []
 |bin {op T x y yt a b r}:ev x=some (.v a)->ev y=some (.v b)->(∀w,(do eqGuard op T x y a b;binOp op T a b:Sem Value).run P w= .ok r w)->
    AEval P id ev hp (.binOp op T x y yt) ⟨.v r,[]⟩ []
 |bin_c {op T x y yt a b r}:ev x=some a->y= .const b->(∀(M:Nat->Prop) β w' xv,RV M β w' a xv->∀w,(do eqGuard op T x y xv b;binOp op T xv b:Sem Value).run P w= .ok r w)->
    AEval P id ev hp (.binOp op T x y yt) ⟨.v r,[]⟩ []
 |un {op T x a r}:ev x=some (.v a)->(∀w,(Op.unary op a).run P w= .ok r w)->AEval P id ev hp (.unOp op T x) ⟨.v r,[]⟩ []
 |conv {S D x a r}:ev x=some (.v a)->(∀w,(convert S D a).run P w= .ok r w)->AEval P id ev hp (.convert S D x) ⟨.v r,[]⟩ []
 |extract {t i cs c}:ev t=some (.tup cs)->cs[i]?=some c->AEval P id ev hp (.extract t i) ⟨c,[]⟩ []
 |build {T parts zs pl as cs}:fm P T=some zs->tV P T=some pl->evs ev (parts.toList.map (·.2))=some as->
    An (λi=>pl[i]?) (zs.map ofV) ((parts.toList.map (·.1)).zip as)=some cs->AEval P id ev hp (.build T parts) ⟨.agg cs,[]⟩ []
 |fieldAddr_l {T x f i e o off s}:ev x=some (.lptr i e o)->lW P T f=some (off,s)->s≠0->AEval P id ev hp (.fieldAddr T x f) ⟨.lptr i e (o+off),[]⟩ []
 |fieldAddr_a {T x f es i o off s}:ev x=some (.aptr es i o)->lW P T f=some (off,s)->s≠0->AEval P id ev hp (.fieldAddr T x f) ⟨.aptr es i (o+off),[]⟩ []
 |field {T x f cs off s}:ev x=some (.agg cs)->lW P T f=some (off,s)->mI P T f=some true->off+s<=cs.length->AEval P id ev hp (.field T x f) ⟨.agg ((cs.drop off).take s),[]⟩ []
 |field1 {T x f cs off s c}:ev x=some (.agg cs)->lW P T f=some (off,s)->mI P T f=some false->cs[off]?=some c->AEval P id ev hp (.field T x f) ⟨c,[]⟩ []
 |index_l {T x ix i e n c E sz kd k}:ev x=some (.lsl i e n c sz)->ev ix=some (.v (.int kd k))->0<=k->k< (n:Int)->eg P T=some (E,sz)->AEval P id ev hp (.indexAddr T x ix) ⟨.lptr i (e+k.toNat) 0,[]⟩ []
 |index_a {T x ix es E sz kd k cs}:ev x=some (.arr es)->ev ix=some (.v (.int kd k))->0<=k->es[k.toNat]?=some cs->cs.length=sz->eg P T=some (E,sz)->AEval P id ev hp (.indexAddr T x ix) ⟨.aptr es k.toNat 0,[]⟩ []
 |index_s {T x ix a b r}:ev x=some (.v a)->ev ix=some (.v b)->(∀w,(Instr.index T a b).run P w= .ok r w)->AEval P id ev hp (.index T x ix) ⟨.v r,[]⟩ []
 |makeFunc {f first captured as bs}:evs ev first.toList=some as->evs ev captured.toList=some bs->AEval P id ev hp (.makeFunc (.func f) first captured) ⟨.clos f as bs,[]⟩ []
 |call {c callee f fst cap as r}:c.callee= .value callee->ev callee=some (.clos f fst cap)->evs ev c.args.toList=some as->FSpec P f ((fst++as++cap).map coe) r->AEval P id ev hp (.call c) ⟨r,[]⟩ []
 |callS {c callee f fst cap as as' ids r}:c.callee= .value callee->ev callee=some (.clos f fst cap)->evs ev c.args.toList=some as->SealArgs hp (fst++as++cap) as' ids->FSpec P f as' r->AEval P id ev hp (.call c) ⟨r,ids.map λi=>(i,none)⟩ ids
 |callE {c callee f x0 rest as i e n cap B E' r}:c.callee= .value callee->ev callee=some (.clos f [] [])->c.args.toList=x0::rest->ev x0=some (.lsl i e n cap B.sz)->evs ev rest=some as->dw hp i=some B->ESpec P f B.ty B.sz B.es E' e n cap (as.map coe) r->
    AEval P id ev hp (.call c) ⟨.v r,[(i,some ⟨B.ty,B.sz,E'⟩)]⟩ [i]
 |callO {c callee f as ty sz es}:c.callee= .value callee->ev callee=some (.clos f [] [])->evs ev c.args.toList=some as->OSpec P f (as.map coe) ty sz es->
    AEval P id ev hp (.call c) ⟨.lsl id 0 es.length none sz,[(id,some ⟨ty,sz,es⟩)]⟩ []
 |len {c x a n T d}:c.callee= .builtin .len->c.args= #[x]->c.argTypes= #[T]->ev x=some a->qN a=some n->eg P T=some d->AEval P id ev hp (.call c) ⟨.v (.int .i64 n),[]⟩ []
 |builtinV {c b} {vs:List Value} {r}:c.callee= .builtin b->evs ev c.args.toList=some (vs.map AV.v)->(∀w ty cs,(builtin b c.argTypes ty cs vs.toArray).run P w= .ok (.value r) w)->AEval P id ev hp (.call c) ⟨.v r,[]⟩ []
 |slice_a {T x lo hi mx es l h d}:ev x=some (.arr es)->SlB ev lo hi mx l h es.length none none->l<=h->h<=es.length->eg P T=some d->(es≠[]->∀e∈es,e.length=d.2)->
    AEval P id ev hp (.slice T x lo hi mx) ⟨.arr ((es.drop l).take (h- l)),[]⟩ []
 |slice_l {T x lo hi mx i e n cap sz l h m E}:ev x=some (.lsl i e n cap sz)->SlB ev lo hi mx l h n cap m->l<=h->h<=n->(l=0\/l< h)->eg P T=some (E,sz)->
    AEval P id ev hp (.slice T x lo hi mx) ⟨.lsl i (e+l) (h- l) (m.map (· - l)) sz,[]⟩ []
 |slice_e {T x lo hi mx a d}:ev x=some a->(match a with| .arr _| .lsl .. | .emp=>true|_=>false)=true->evO ev lo=some none->(∃k,evO ev hi=some (some (.int k 0)))->(∃k,evO ev mx=some (some (.int k 0)))->eg P T=some d->
    AEval P id ev hp (.slice T x lo hi mx) ⟨.emp,[]⟩ []
 |slice_v {T x lo hi mx a lv hv mv r}:ev x=some (.v a)->evO ev lo=some lv->evO ev hi=some hv->evO ev mx=some mv->(∀w,(Instr.sliceAt T a lv hv mv).run P w= .ok r w)->AEval P id ev hp (.slice T x lo hi mx) ⟨.v r,[]⟩ []
 |makeSlice {T lo co kl kc E sz zs bs} {l c:Nat}:ev lo=some (.v (.int kl l))->ev co=some (.v (.int kc c))->eg P T=some (E,sz)->fm P E=some zs->zs.length=sz->rv P E=some bs->l<=c->bs* c<=281474976710656->c<=maxLen->(hz:Nat.blt 0 sz=true:=by rfl)->
    AEval P id ev hp (.makeSlice T lo co) ⟨.lsl id 0 l (some c) sz,[(id,some ⟨E,sz,List.replicate c (zs.map ofV)⟩)]⟩ []
 |buildSlice {T len parts E sz zs as es}:eg P T=some (E,sz)->fm P E=some zs->zs.length=sz->len* sz<=16777216/\len<=16777216->parts.toList.map (·.1)=List.range len->evs ev (parts.toList.map (·.2))=some as->ve as=some es->(∀e∈es,e.length=sz)->(hz:Nat.blt 0 sz=true:=by rfl)->
    AEval P id ev hp (.buildSlice T len parts) ⟨.lsl id 0 len (some len) sz,[(id,some ⟨E,sz,es⟩)]⟩ []
 |append0 {c x y T T' E sz a rd}:c.callee= .builtin .append->c.args= #[x,y]->c.argTypes= #[T,T']->eg P T=some (E,sz)->(eg P T').isSome=true->ev x=some .emp->ev y=some a->SrcOf hp sz a [] rd->
    AEval P id ev hp (.call c) ⟨.emp,[]⟩ rd
 |append_e {c x y T T' E sz a rd es zs bs}:c.callee= .builtin .append->c.args= #[x,y]->c.argTypes= #[T,T']->eg P T=some (E,sz)->(eg P T').isSome=true->ev x=some .emp->ev y=some a->SrcOf hp sz a es rd->es≠[]->
    fm P E=some zs->zs.length=sz->rv P E=some bs->es.length* bs<=140737488355328->es.length<=maxLen- 1->(hz:Nat.blt 0 sz=true:=by rfl)->
    AEval P id ev hp (.call c) ⟨.lsl id 0 es.length none sz,[(id,some ⟨E,sz,es⟩)]⟩ rd
 |append_l {c x y T T' E sz a rd es zs bs i n cap B}:c.callee= .builtin .append->c.args= #[x,y]->c.argTypes= #[T,T']->eg P T=some (E,sz)->(eg P T').isSome=true->ev x=some (.lsl i 0 n cap sz)->dw hp i=some B->B.ty=E->B.sz=sz->B.es.length=n->B.es.all (·.all AV.one)=true->es.all (·.all AV.one)=true->ev y=some a->SrcOf hp sz a es rd->
    fm P E=some zs->zs.length=sz->rv P E=some bs->(n+es.length) * bs<=140737488355328->n+es.length<=maxLen- 1->
    AEval P id ev hp (.call c) ⟨.lsl id 0 (n+es.length) none sz,[(i,none),(id,some ⟨E,sz,B.es++es⟩)]⟩ (i::rd)
 |copy {c x y T T' E sz a rd es i e n cap B}:c.callee= .builtin .copy->c.args= #[x,y]->c.argTypes= #[T,T']->eg P T=some (E,sz)->ev x=some (.lsl i e n cap sz)->dw hp i=some B->B.sz=sz->e+n<=B.es.length->es.all (·.all AV.one)=true->ev y=some a->SrcOf hp sz a es rd->
    AEval P id ev hp (.call c) ⟨.v (.int .i64 (Nat.min es.length n)),[(i,some ⟨B.ty,B.sz,eR B.es e (es.take (Nat.min es.length n))⟩)]⟩ (i::rd)
section
variable {P:Program}{M0:Nat->Prop}{w0:Base}{w:World}{β:Bq}{hp:Hq}{id:Nat}{ρ:Operand->Value}{o:Oper}{u:Upd}
theorem Good.pure{a:AV}{y:Value}(mem:Mem M0 w0 β hp w)(hr:(execOp ρ o).run P w= .ok (.value y) w)(hy:RV (MM M0 β hp) β w a y):Good P M0 w0 β hp w id ρ o ⟨a,[]⟩:=
 .inl ⟨y,w,β,.inl hr,mem,hy,.refl,λ_ _=>rfl⟩
theorem gF(s:Sem Value){y:Value}(h:s.run P w= .ok y w'):(do pure (Next.value (<-s)):Sem Next).run P w= .ok (.value y) w':=by simp_all
theorem lT:∀(fs:List Field) (pl:List (Nat×Nat)) (w:World),(fs.mapM λf=>(iO P f.type).map λs=>(f.offset,s))=some pl->
    (fs.mapM λf=>(do pure (f.offset,<-sizeOf f.type):Sem (Nat×Nat))).run P w= .ok pl w
 |[],pl,w,h=>by
  simp_all
 |f::fs,pl,w,h=>by
  simp only[List.mapM_cons,Option.pure_def,Option.bind_eq_bind] at h;cases hs:iO P f.type with
  |none=>grind
  |some n=>
   cases hm:(fs.mapM λf=>(iO P f.type).map λs=>(f.offset,s)) with
   |none=>grind
   |some pl'=>
    simp only[hs,hm,Option.map_some,Option.bind_some,Option.some.injEq] at h;subst h;simp only[List.mapM_cons,Sem.run_bind,run_sizeOf' hs,Result.andThen_ok,Sem.run_pure];rw[lT fs pl' w hm];rfl
theorem C9{cs:La}{xs:Array Value}(h:RVs M β w cs xs.toList){i:Nat}{c:AV}(hc:cs[i]?=some c):∃x,xs[i]?=some x/\RV M β w c x:=by
 obtain⟨x,h1,h2⟩:=h.get hc;grind
theorem Fm{M:Nat->Prop}{ρ:Operand->Value}:∀{ps:List (Nat×Operand)} {as:La},RVs M β w as ((ps.map (·.2)).map ρ)->
    (((ps.map (·.1)).zip as).map (·.1)=(ps.map λq=>(q.1,ρ q.2)).map (·.1)/\RVs M β w (((ps.map (·.1)).zip as).map (·.2)) ((ps.map λq=>(q.1,ρ q.2)).map (·.2)))
 |[],as,h=>by
  cases as with
  |nil=>simp_all
  |cons a as=>obtain⟨x,xs,e,_⟩:=h;cases e
 |p::ps,as,h=>by
  cases as with
  |nil=>cases (h:_=[])
  |cons a as=>
   obtain⟨x,xs,e,h1,h2⟩:=h;obtain⟨rfl,rfl⟩:=e;have:=Fm h2;exact⟨by simp_all,⟨_,_,rfl,h1,this.2⟩⟩
theorem dW{M:Nat->Prop}:∀{as:La} {xs:List Value},(∀a∈as,Closed a)->RVs M β w as xs->RVs M (λ_=>none) w as xs
 |[],_,_,h=>h
 |a::_,_,hc,⟨x,xs,e,h1,h2⟩=>⟨x,xs,e,hc a (List.mem_cons_self ..) M β w x h1,dW (λb hb=>hc b (List.mem_cons_of_mem _ hb)) h2⟩
theorem rO{T f off s:Nat}(h:lW P T f=some (off,s))(hs:s≠0)(b o':Nat)(w:World):(Instr.fieldAt T (.pointer (some ⟨b,o',none⟩)) f).run P w= .ok (.pointer (some ⟨b,o'+off,none⟩)) w:=by
 unfold lW at h;cases hu:P.underlying T with
 |none=>grind
 |some d=>
  rw[hu] at h;cases d with
  |struct fs=>
   cases hf:fs[f]? with
   |none=>grind
   |some fd=>
    simp only[hf] at h;cases hz:iO P fd.type with
    |none=>grind
    |some n=>
     simp only[hz] at h;obtain⟨rfl,rfl⟩:=h;simp only[Instr.fieldAt,Sem.run_bind,run_underlying hu w,Result.andThen_ok,hf,Instr.sureAddr,Sem.run_pure,fieldPlace,run_sizeOf' hz,hs,if_false,jM]
  |_=>grind
theorem vu{T f off s:Nat}(h:lW P T f=some (off,s))(ha:mI P T f=some true)(xs:Array Value)(w:World):(Instr.field T (.agg xs) f).run P w= .ok (.agg (xs.extract off (off+s))) w:=by
 unfold lW at h;unfold mI at ha;cases hu:P.underlying T with
 |none=>grind
 |some d=>
  rw[hu] at h ha;cases d with
  |struct fs=>
   cases hf:fs[f]? with
   |none=>grind
   |some fd=>
    simp only[hf] at h ha;cases hz:iO P fd.type with
    |none=>grind
    |some n=>
     simp only[hz] at h;obtain⟨rfl,rfl⟩:=h;simp only[Instr.field,Sem.run_bind,run_underlying hu w,Result.andThen_ok,hf,asAgg,Sem.run_pure,part,nh ha,if_true,run_sizeOf' hz]
  |_=>grind
theorem vr{T f off s:Nat}(h:lW P T f=some (off,s))(ha:mI P T f=some false){xs:Array Value}{y:Value}(hy:xs[off]?=some y)(w:World):(Instr.field T (.agg xs) f).run P w= .ok y w:=by
 unfold lW at h;unfold mI at ha;cases hu:P.underlying T with
 |none=>grind
 |some d=>
  rw[hu] at h ha;cases d with
  |struct fs=>
   cases hf:fs[f]? with
   |none=>grind
   |some fd=>
    simp only[hf] at h ha;cases hz:iO P fd.type with
    |none=>grind
    |some n=>
     simp only[hz] at h;obtain⟨rfl,rfl⟩:=h;simp only[Instr.field,Sem.run_bind,run_underlying hu w,Result.andThen_ok,hf,asAgg,Sem.run_pure,part,nh ha,Bool.false_eq_true,if_false,hy]
  |_=>grind
theorem dU{T E s:Nat}(h:eg P T=some (E,s)):P.underlying T=some (.slice E)/\iO P E=some s:=by
 unfold eg at h;cases hu:P.underlying T with
 |none=>grind
 |some d=>
  rw[hu] at h;cases d with
  |slice e=>
   cases hz:iO P e with
   |none=>grind
   |some n=>
    grind
  |_=>grind
theorem rN{T E s:Nat}(h:eg P T=some (E,s)){b off n c:Nat}{kd:IntKind}{k:Int}(h0:0<=k)(h1:k< (n:Int))(w:World):
    (Instr.indexAt T (.slice (some ⟨b,off,none⟩) n c) (.int kd k)).run P w= .ok (.pointer (some ⟨b,off+k.toNat* s,none⟩)) w:=by
 obtain⟨hu,hz⟩:=dU h;simp only[Instr.indexAt,asIntOf,Sem.run_bind,Sem.run_pure,Result.andThen_ok,run_underlying hu w,h0,h1,and_self,if_true,run_sizeOf' hz,jM]
theorem jl{ev:Operand->Option AV}{ρ:Operand->Value}(hev:∀x a,ev x=some a->RV M β w a (ρ x)):∀{o:Option Operand} {v:Option Value},evO ev o=some v->o.map ρ=v
 |none,v,h=>by simp only[evO] at h;grind
 |some x,v,h=>by
  simp only[evO] at h;split at h
  ·rename_i y hy
   simp only[Option.some.injEq] at h;subst h;exact congrArg some (hev x _ hy)
  cases h
theorem eu{k:IntKind}{i y:Nat}(h:i<=y)(code:BoundsCode)(w:World):(Instr.sliceBound (.int k (i:Int)) y code).run P w= .ok i w:=by
 have:=run_sliceBound (P:=P) w k (i:Int) y code ω ω;grind
theorem Dd {ev:Operand->Option AV} {ρ:Operand->Value} (hev:∀x a,ev x=some a->RV M β w a (ρ x)) {lo hi mx:Option Operand} {l h len c:Nat} {cap m:Option Nat} (hb:SlB ev lo hi mx l h len cap m)
    (hlc:len<=c) (hcap:∀k,cap=some k->c=k) (hlh:l<=h) (hhl:h<=len):∃N,(Instr.sliceBounds true len c (lo.map ρ) (hi.map ρ) (mx.map ρ)).run P w= .ok (l,h,N) w/\h<=N/\N<=c/\∀k,m=some k->N=k:=by
 obtain⟨⟨lv,e1,c1⟩,⟨hv,e2,c2⟩,⟨mv,e3,c3⟩⟩:=hb;rw[jl hev e1,jl hev e2,jl hev e3];rcases c3 with⟨rfl,rfl⟩|⟨km,im,m',rfl,rfl,hm1,hm2,hm3⟩
 refine⟨c,?_,ω,Nat.le_refl _,hcap⟩;rcases c2 with⟨rfl,rfl,_⟩|⟨kh,ih,rfl,rfl⟩<;> rcases c1 with⟨rfl,rfl⟩|⟨kl,il,rfl,rfl⟩
 simp[Instr.sliceBounds];simp[Instr.sliceBounds,eu hlh];simp[Instr.sliceBounds,eu (show h<=c by omega)];simp[Instr.sliceBounds,eu (show h<=c by omega),eu hlh];refine⟨m',?_,hm1,ω,λk hk=>by grind⟩;rcases c2 with⟨rfl,rfl,hx⟩|⟨kh,ih,rfl,rfl⟩
 subst hx;simp[evO] at e3;rcases c1 with⟨rfl,rfl⟩|⟨kl,il,rfl,rfl⟩
 simp[Instr.sliceBounds,eu (show m'<=c by omega),eu hm1];simp[Instr.sliceBounds,eu (show m'<=c by omega),eu hm1,eu hlh]
theorem run_sliceAt'{T E s:Nat}(h:eg P T=some (E,s)){a:Option Addr}{n c l h' N:Nat}{lo hi mx:Option Value}(hb:(Instr.sliceBounds true n c lo hi mx).run P w= .ok (l,h',N) w):
    (Instr.sliceAt T (.slice a n c) lo hi mx).run P w= .ok (.slice (if N=l then a else a.map (·.add (l* s))) (h'- l) (N- l)) w:=by
 obtain⟨hu,hz⟩:=dU h;simp[Instr.sliceAt,Instr.slice,run_underlying hu w,hb,run_sizeOf' hz]
theorem xz{E sz bs:Nat}{zs:List Value}(h1:iO P E=some sz)(h2:fm P E=some zs)(h3:rv P E=some bs):∃i z,P.info? E=some i/\i.zero=some z/\z.cells.toList=zs/\i.size=sz/\i.bytes=bs:=by
 unfold iO at h1;unfold fm at h2;unfold rv at h3;cases hu:P.info? E with
 |none=>grind
 |some i=>
  simp_all
theorem Am{sz:Nat}:∀(vs:List Value) (k:Nat) (cs:Array Value),(∀v∈vs,v.cells.size=sz)->(k+vs.length) * sz<=cs.size->
    ∃ys,Instr.fill (λi=>some (i* sz,sz)) cs (((List.range' k vs.length)).zip vs)=some ys/\ys.size=cs.size/\(∀i v,vs[i]?=some v->∀j x,v.cells[j]?=some x->ys[(k+i) * sz+j]?=some x)/\∀j,j< k* sz->ys[j]?=cs[j]?
 |[],k,cs,_,_=>⟨cs,rfl,rfl,λi v h=>by grind,λ_ _=>rfl⟩
 |v::vs,k,cs,hv,hsz=>by
  have hkle:(k+1) * sz<=(k+(vs.length+1)) * sz:=Nat.mul_le_mul_right _ ω
  have hcs:(v.cells.zipIdx.foldl (λcs (c,j)=>cs.setIfInBounds (k* sz+j) c) cs).toList=eR cs.toList (k* sz) v.cells.toList:=by
   rw[<-Array.foldl_toList,Array.toList_zipIdx,mH];rfl
  have hsize:(v.cells.zipIdx.foldl (λcs (c,j)=>cs.setIfInBounds (k* sz+j) c) cs).size=cs.size:=by
   have:=congrArg List.length hcs;simpa[cx] using this
  obtain⟨ys,h1,h2,h3,h4⟩:=Am vs (k+1) ((v.cells.zipIdx.foldl (λcs (c,j)=>cs.setIfInBounds (k* sz+j) c) cs)) (λu hu=>hv u (List.mem_cons_of_mem _ hu)) φ;have hget:∀j,(v.cells.zipIdx.foldl (λcs (c,j)=>cs.setIfInBounds (k* sz+j) c) cs)[j]?=(eR cs.toList (k* sz) v.cells.toList)[j]?:=λj=>by rw[<-Array.getElem?_toList,hcs]
  refine⟨ys,?_,h2.trans hsize,λi u hu j x hx=>?_,λj hj=>?_⟩;rw[List.length_cons,List.range'_succ,List.zip_cons_cons,Instr.fill];simp only[];rw[if_neg φ];exact h1;cases i with
  |zero=>
   simp only[List.getElem?_cons_zero,Option.some.injEq] at hu;subst hu;have hjs:j< sz:=φ
   rw[Nat.add_zero,h4 _ φ,hget,eF];grind
  |succ i=>
   grind
  rw[h4 j φ,hget,eF,if_neg ω];simp
theorem wF{M:Nat->Prop}:∀{as:La} {xs:List Value} {es:Lc},RVs M β w as xs->ve as=some es->es.length=xs.length/\∀(i:Nat) (e:La),es[i]?=some e->∃x:Value,xs[i]?=some x/\RVs M β w e x.cells.toList
 |[],xs,es,h,hc=>by
  cases (h:xs=[]);simp only[ve] at hc;grind
 |a::as,_,es,⟨x,xs,e,h1,h2⟩,hc=>by
  subst e;simp only[ve] at hc;split at hc
  ·rename_i c cs hc1 hc2
   simp only[Option.some.injEq] at hc;subst hc;obtain⟨h3,h4⟩:=wF h2 hc2;refine⟨φ,λi e he=>?_⟩;cases i with
   |zero=>simp only[List.getElem?_cons_zero,Option.some.injEq] at he;subst he;exact⟨x,rfl,ph h1 hc1⟩
   |succ i=>grind
  grind
theorem gC(z:Array Value)(n:Nat):(Builtin.zeroCells z n).size=n* z.size:=by simp[Builtin.zeroCells]
theorem DZ{need old:Nat}{e:TypeId}(t:Nat)(h:need< 2^ 63):need<=(Question.appendCap need old e).cut t/\(Question.appendCap need old e).cut t< 2^ 63:=by
 simp only[Question.cut];have:=Nat.mod_lt t (show 2^ 63- need> 0 by omega);omega
theorem iR {T T' E E' sz bs:Nat} {zs:List Value} (h1:eg P T=some (E,sz)) (h2:eg P T'=some (E',sz')) (h3:fm P E=some zs) (h4:rv P E=some bs)
    {base:Option Addr} {n c m:Nat} {old:Array Value} (hgrow:c< n+m) (hroom:(n+m) * bs<=140737488355328) (h63:n+m<=maxLen- 1) (ty:TypeId)
    (hold:∀w',w'.heap=w.heap->(Builtin.firstCells sz n (.slice base n c)).run P w'= .ok old w') (hnew:∀w',w'.heap=w.heap->(Builtin.firstCells sz m (.slice a' m c')).run P w'= .ok new w'):
    ∃nc z,n+m<=nc/\nc< 2^ 63/\z.toList=zs/\(Builtin.append_ #[T,T'] ty #[.slice base n c,.slice a' m c']).run P w=
     .ok (.slice (some ⟨w.heap.size,0,none⟩) (n+m) nc) (w.drew.alloc (.cells (old++new++Builtin.zeroCells z (nc- (n+m))) E)):=by
 obtain⟨hu,hz⟩:=dU h1;obtain⟨hu',_⟩:=dU h2;obtain⟨inf,z,i1,i2,i3,i4,i5⟩:=xz hz h3 h4;have h63':n+m< 2^ 63:=by unfold maxLen at h63;omega
 obtain⟨hc1,hc2⟩:=DZ (need:=n+m) (old:=c) (e:=E) (w.tape w.drawn (.appendCap (n+m) c E)) h63';refine⟨(Question.appendCap (n+m) c E).cut (w.tape w.drawn (.appendCap (n+m) c E)),z.cells,hc1,hc2,i3,?_⟩;have hfit:=growslice_fits hgrow hroom
 have hmax:¬((n:Int)+(m:Int)> IntKind.i64.max):=by
  have:IntKind.i64.max=9223372036854775807:=δ
  grind
 have g1:¬(n+m<=c):=ω
 have hw:∀w:World,({w with drawn:=w.drawn+1}:World)=w.drew:=λ_=>rfl;have f1:=hold w.drew rfl;have f2:=hnew w.drew rfl;have hforced:(Question.appendCap (n+m) c E).forced=false:=rfl;have hcond:¬(((n+m:Nat):Int)> IntKind.i64.max/\(False\/inf.bytes=0)):=λh=>hmax φ;have hfit':¬(Builtin.nextslicecap (n+m) c* inf.bytes> 2^ 48):=φ
 unfold Builtin.append_
 simp only[List.getElem?_toArray,List.getElem?_cons_zero,List.getElem?_cons_succ,Sem.run_bind,run_underlying hu w,run_underlying hu' w,Result.andThen_ok,run_sizeOf' hz,Sem.run_pure,
  Bool.false_eq_true,if_false,Builtin.lenOf,g1,typeInfo,run_program,i1,hcond,hfit',run_choose,hforced,hw,run_askRoom,Bool.not_false,if_true,f1,f2,zeroValue,i2,newRow,run_newObj]
 rfl
theorem lU {T T' E E' sz:Nat} (h1:eg P T=some (E,sz)) (h2:eg P T'=some (E',sz'))
    {b off n c m:Nat} (hroom:n+m<=c) (ty:TypeId) (hnew:(Builtin.firstCells sz m (.slice a' m c')).run P w= .ok new w)
    (hst:(storeCells ⟨b,off+n* sz,none⟩ new.toList).run P w= .ok () w'):
    (Builtin.append_ #[T,T'] ty #[.slice (some ⟨b,off,none⟩) n c,.slice a' m c']).run P w= .ok (.slice (some ⟨b,off,none⟩) (n+m) c) w':=by
 obtain⟨hu,hz⟩:=dU h1;obtain⟨hu',_⟩:=dU h2;unfold Builtin.append_
 simp only[List.getElem?_toArray,List.getElem?_cons_zero,List.getElem?_cons_succ,Sem.run_bind,run_underlying hu w,run_underlying hu' w,Result.andThen_ok,run_sizeOf' hz,Sem.run_pure,
  Bool.false_eq_true,if_false,Builtin.lenOf,hroom,Bool.not_false,if_true,hnew,jM,hst]
theorem tJ{T T' E E' sz:Nat}(h1:eg P T=some (E,sz))(h2:eg P T'=some (E',sz')){base:Option Addr}(ty:TypeId)(hnew:(Builtin.firstCells sz 0 (.slice a' 0 c')).run P w= .ok #[] w):
    (Builtin.append_ #[T,T'] ty #[.slice base 0 0,.slice a' 0 c']).run P w= .ok (.slice base 0 0) w:=by
 obtain⟨hu,hz⟩:=dU h1;obtain⟨hu',_⟩:=dU h2;unfold Builtin.append_
 simp only[List.getElem?_toArray,List.getElem?_cons_zero,List.getElem?_cons_succ,Sem.run_bind,run_underlying hu w,run_underlying hu' w,Result.andThen_ok,run_sizeOf' hz,Sem.run_pure,
  Bool.false_eq_true,if_false,Builtin.lenOf,Nat.le_refl,Bool.not_false,if_true,hnew]
 cases base with
 |none=>rfl
 |some a=>simp[storeCells]
theorem F4 {T E sz:Nat} (h1:eg P T=some (E,sz)) {T':Nat} {b off n c m:Nat} (ty:TypeId) (hnew:(Builtin.firstCells sz (Nat.min m n) (.slice a' m c')).run P w= .ok new w)
    (hst:(storeCells ⟨b,off,none⟩ new.toList).run P w= .ok () w'):
    (Builtin.copy_ #[T,T'] ty #[.slice (some ⟨b,off,none⟩) n c,.slice a' m c']).run P w= .ok (.int .i64 (Nat.min m n)) w':=by
 obtain⟨hu,hz⟩:=dU h1;unfold Builtin.copy_;simp only[List.getElem?_toArray,List.getElem?_cons_zero,List.getElem?_cons_succ,Sem.run_bind,run_underlying hu w,Result.andThen_ok,run_sizeOf' hz,Sem.run_pure,Builtin.lenOf,hnew,hst];rfl
theorem Stab.trans{M1 M2 M3:Nat->Prop}{β1 β2 β3:Bq}{w1 w2 w3:World}(h:Stab M1 M2 β1 β2 w1 w2)(h':Stab M2 M3 β2 β3 w2 w3)(hs:w1.heap.size<=w2.heap.size):Stab M1 M3 β1 β3 w1 w3:=by
 refine⟨⟨λb N hN hm=>?_,λb N hN hm=>?_,λi x hx=>h'.be i x (h.be i x hx),λb n hb=>h'.sz b n (h.sz b n hb)⟩,λb hb hn=>?_⟩;have h1:=h.sz b N hN;have e1:=h.heap b N hN hm;rw[<-e1];exact h'.heap b N h1 (λhm2=>hm (h.m b N hN hm2));exact h.m b N hN (h'.m b N (h.sz b N hN) hm);have e:=h.oth b hb hn;rw[<-e];exact h'.oth b ω (by rw[dZ e];grind)
theorem Flat.one{s:Nat}{es:Lc}{xs:List Value}(h:Flat M β w s es xs)(ho:es.all (·.all AV.one)=true):∀v∈xs,v.oneCell'=true:=by
 intro v hv;obtain⟨j,hj,hvj⟩:=List.mem_iff_getElem.1 hv
 have hs:0< s:=by
  rcases Nat.eq_zero_or_pos s with h0|h0
  rw[h.1,h0] at hj;simp at hj;grind
 have hk:j/ s< es.length:=by rw[Nat.div_lt_iff_lt_mul hs,<-h.1];grind
 obtain⟨ys,r1,r2,r3⟩:=h.2 (j/ s) es[j/ s] (List.getElem?_eq_getElem hk);have hr:j % s< ys.length:=by rw[r1.length,r2];exact Nat.mod_lt _ hs
 have h3:=r3 (j % s) ys[j % s] (List.getElem?_eq_getElem hr);rw[Nat.mul_comm,Nat.div_add_mod,List.getElem?_eq_getElem hj,Option.some.injEq] at h3;rw[<-hvj,h3];have ho':=List.all_eq_true.1 ho es[j/ s] (List.getElem_mem hk);exact xa r1 ho' _ (List.getElem_mem hr)
theorem oW{α:Type}(f:Nat->Option α)(i:Nat)(x y:Option α):upd (upd f i x) i y=upd f i y:=by
 funext j;simp only[upd];grind
theorem Mem.storeEls (h:Mem M0 w0 β hp w) {i b e:Nat} {B:ABlk} {fs es':Lc} {xs:List Value} (hz:B.sz≠0) (hi:hp i=some B) (hb:β i=some (b,B.sz)) (hf:Flat (MM M0 β hp) β w B.sz fs xs) (hone:∀v∈xs,v.oneCell'=true)
    {N:Nat} (hN:aL w b=some N) (hsz:(e+fs.length) * B.sz<=N) (hes:∀q el,es'[q]?=some el->(e<=q/\q< e+fs.length/\fs[q- e]?=some el)\/((q< e\/e+fs.length<=q)/\B.es[q]?=some el)) (hlen:es'.length* B.sz<=N):
    ∃w',(storeCells ⟨b,e* B.sz,none⟩ xs).run P w= .ok () w'/\Mem M0 w0 β (upd hp i (some ⟨B.ty,B.sz,es'⟩)) w'/\Stab (MM M0 β hp) (MM M0 β (upd hp i (some ⟨B.ty,B.sz,es'⟩))) β β w w'/\w'.heap.size=w.heap.size:=by
 obtain⟨b',cs,hb',hh,hr,_⟩:=h.cells hi hz;rw[hb] at hb';cases hb';have hcs:cs.size=N:=by simpa[aL,hh] using hN
 subst hcs;rw[Nat.add_mul] at hsz;obtain⟨w',r1,r2,r3,r4,r5⟩:=run_storeCells' (P:=P) xs w cs (e* B.sz) 0 hh (by rw[hf.1];omega) hone;rw[Nat.add_zero] at r2;have hwr:=h.write (w':=w') (i:=i) (es:=es') hz hi hb r5 r4 r2 r3 (λq el hq=>?_) (by simpa[cx] using hlen) (by simp[aL,hh,cx]);exact⟨w',r1,hwr.1,hwr.2,r4⟩
 have out:∀j v,cs[q* B.sz+j]?=some v->¬(e* B.sz<=q* B.sz+j/\q* B.sz+j< e* B.sz+xs.length)->(eR cs.toList (e* B.sz) xs).toArray[q* B.sz+j]?=some v:=by
  intro j v hv hn;rw[List.getElem?_toArray,eF,if_neg hn];grind
 rcases hes q el hq with⟨h1,h2,h3⟩|⟨h1,h3⟩
 obtain⟨ys,s1,s2,s3⟩:=hf.2 _ el h3;refine⟨ys,s1,s2,λj v hj=>?_⟩;have h4:=s3 j v hj;have hlt:=(List.getElem?_eq_some_iff.1 h4).1;have hmul:q* B.sz=e* B.sz+(q- e) * B.sz:=by rw[<-Nat.add_mul];congr 1;omega
 rw[List.getElem?_toArray,eF,if_pos ω,if_pos (by rw[Array.length_toList];rw[hf.1] at hlt;omega),hmul,show e* B.sz+(q- e) * B.sz+j- e* B.sz=(q- e) * B.sz+j by omega];exact h4;obtain⟨hc1,hc2⟩:=hr.get h3;obtain⟨ys,s1,s2⟩:=hc1.vals;refine⟨ys,s1,hc2,λj v hj=>?_⟩;have hjl:j< B.sz:=by have:=(List.getElem?_eq_some_iff.1 hj).1;rw[s1.length,hc2] at this;exact this
 refine out j v ?_ ?_;have:=s2 j v hj;simp only[World.cell?,hh] at this;simpa using this;rw[hf.1];rcases h1 with h1|h1
 have:=Nat.mul_le_mul_right B.sz (show q+1<=e from h1);rw[Nat.add_mul,Nat.one_mul] at this;omega;have:=Nat.mul_le_mul_right B.sz h1;grind
variable {op:Op}{rd:Ln}{ev:Operand->Option AV}
def dK(hp:Hq)(ids:Ln):Nat->Option ABlk:=λi=>if i∈ids then none else hp i
theorem rA:∀(ids:Ln) (hp:Hq),iM hp (ids.map λi=>(i,none))=dK hp ids
 |[],hp=>by funext j;simp[iM,dK]
 |i::ids,hp=>by
  rw[List.map_cons,iM,rA ids];funext j;simp only[dK,upd];grind
theorem yW(mem:Mem M0 w0 β hp w){ids:Ln}:∀{as as':La} {ids':Ln} {vals:List Value},SealArgs hp as as' ids'->(∀i∈ids',i∈ids)->RVs (MM M0 β hp) β w as vals->(∀a∈as',Closed a)->RVs (MM M0 β (dK hp ids)) (λ_=>none) w as' vals:=by
 have hM:∀b,MM M0 β (dK hp ids) b->MM M0 β hp b:=by
  rintro b (hb|⟨i,B,s,h1,h2⟩);exact .inl hb;refine .inr ⟨i,B,s,?_,h2⟩;simp only[dK] at h1;grind
 have st:StabC (MM M0 β hp) (MM M0 β (dK hp ids)) β β w w:=⟨λ_ _ _ _=>rfl,λb _ _ h=>hM b h,λ_ _ h=>h,λ_ _ h=>h⟩;intro as as' ids' vals h
 induction h generalizing vals with
 |nil=>exact λ_ hv _=>hv
 |keep _ ih=>
  rintro hi ⟨x,xs,rfl,h1,h2⟩ hc;exact⟨x,xs,rfl,hc _ (List.mem_cons_self ..) _ _ _ _ (st.all (F3 h1)),ih hi h2 λa ha=>hc a (List.mem_cons_of_mem _ ha)⟩
 | @shut i e n cap sz B as as' ids' h1 h2 _ ih=>
  rintro hi ⟨x,xs,rfl,h3,h4⟩ hc;refine⟨x,xs,rfl,hc _ (List.mem_cons_self ..) _ β _ _ ?_,ih (λj hj=>hi j (List.mem_cons_of_mem _ hj)) h4 λa ha=>hc a (List.mem_cons_of_mem _ ha)⟩;obtain⟨b,c,hb,rfl,hnc,hcm,_,_⟩:=h3;obtain⟨b',cs,hb',hh,hr,_⟩:=mem.cellsF h1;rw[hb] at hb';cases hb';have hl:((B.es.drop e).take n).length=n:=φ
  refine⟨_,c,by rw[hl],ω,hcm,.inr ⟨b,0+e* B.sz,B.sz,ψ,⟨cs.size,by simp[aL,hh]⟩,?_,st.ess rfl ((hr.drop e).take n)⟩⟩;rintro(hm|⟨j,B',s',h5,h6⟩);exact(mem.rng i b _ hb).1 (mem.m0 b hm).1;simp only[dK] at h5;split at h5;cases h5
  ·have:=mem.inj i j B B' b _ _ (du h1).1 h5 hb h6
   grind
theorem rM{M:Nat->Prop}{b:Nat}:∀{cs:La} {off:Nat},(∀c∈cs,Closed c)->RVcs M β w b cs off->RVcs M (λ_=>none) w b cs off
 |[],_,_,_=>trivial
 |c::_,_,hc,⟨⟨x,h0,h1⟩,h2⟩=>⟨⟨x,h0,hc c (List.mem_cons_self ..) M β w x h1⟩,rM (λd hd=>hc d (List.mem_cons_of_mem _ hd)) h2⟩
theorem gE{M:Nat->Prop}{b s:Nat}:∀{es:Lc} {off:Nat},(∀e∈es,∀c∈e,Closed c)->RVess M β w b s es off->RVess M (λ_=>none) w b s es off
 |[],_,_,_=>trivial
 |e::_,_,hc,⟨h0,h1,h2⟩=>⟨h0,rM (hc e (List.mem_cons_self ..)) h1,gE (λd hd=>hc d (List.mem_cons_of_mem _ hd)) h2⟩
theorem Mem.but {i b:Nat} {B:ABlk} {E':Lc} {cs':Array Value} (h:Mem M0 w0 β hp w) (hz:B.sz≠0) (hb:But b w w') (hi:hp i=some B) (hbi:β i=some (b,B.sz)) (hh:w'.heap[b]?=some (.cells cs' B.ty (0,0)))
    (hr:RVess (MM M0 β hp) (λ_=>none) w' b B.sz E' 0) (hl:E'.length* B.sz<=cs'.size):
    Mem M0 w0 β (upd hp i (some ⟨B.ty,B.sz,E'⟩)) w'/\Stab (MM M0 β hp) (MM M0 β (upd hp i (some ⟨B.ty,B.sz,E'⟩))) β β w w':=by
 have hmb:MM M0 β hp b:= .inr ⟨i,B,_,hi,hbi⟩;have hrng:=h.rng i b _ hbi;have hbs:∃N,aL w b=some N:=by obtain⟨b',e1,e2⟩:=h.blk i B hi;rw[hbi] at e1;cases e1;exact e2.size
 have hmm:∀c,MM M0 β (upd hp i (some ⟨B.ty,B.sz,E'⟩)) c↔MM M0 β hp c:=by
  intro c;constructor;rintro(hc|⟨j,B',s,h1,h2⟩);exact .inl hc;by_cases hji:j=i;subst hji;exact .inr ⟨j,B,s,hi,h2⟩;rw[br _ _ hji] at h1;exact .inr ⟨j,B',s,h1,h2⟩;rintro(hc|⟨j,B',s,h1,h2⟩);exact .inl hc;by_cases hji:j=i;subst hji;exact .inr ⟨j,_,s,bn _ _ _,h2⟩;exact .inr ⟨j,B',s,by rw[br _ _ hji];grind,h2⟩
 have st:Stab (MM M0 β hp) (MM M0 β (upd hp i (some ⟨B.ty,B.sz,E'⟩))) β β w w':=
  ⟨⟨λc N hs hm=>hb.block c (ci hs) (λe=>hm (e▸hmb)),λc _ _ hm=>(hmm c).1 hm,λ_ _ h=>h,λc n hc=>hb.sizes c n hc⟩,
   λc hlt hn=>hb.block c hlt (λe=>φ)⟩
 refine⟨⟨⟨hb.os.trans h.below.os,hb.tape.trans h.below.tape,hb.output.trans h.below.output,Nat.le_trans h.below.size hb.size,λk hk=>(hb.block k (Nat.lt_of_lt_of_le (w0.lt k hk) h.below.size) (λe=>hrng.1 (e▸hk))).trans (h.below.block k hk),λc n hs=>hb.sizes c n (h.below.sizes c n hs)⟩,h.m0,
  λj c s hj=>⟨(h.rng j c s hj).1,Nat.lt_of_lt_of_le (h.rng j c s hj).2 hb.size⟩,λh0=>h.pin (by by_cases h00:0=i;(grind);rw[br _ _ h00] at h0;grind),λj B' hj=>?_,λj k B1 B2 c s s' h1 h2 h3 h4=>?_⟩,st⟩
 by_cases hji:j=i;subst hji;rw[bn] at hj;cases hj;exact⟨b,hbi,.inl ⟨hz,cs',hh,StabC.ess (w:=w') (w':=w') (M:=MM M0 β hp) (β:=λ_=>none) ⟨λ_ _ _ _=>rfl,λc _ _ hc=>(hmm c).1 hc,(λ_ _ h=>by cases h),λ_ _ h=>h⟩ rfl hr,hl⟩⟩;rw[br _ _ hji] at hj;obtain⟨c,h1,h2⟩:=h.blk j B' hj;have hcb:c≠b:=λe=>by subst e;exact hji (h.inj j i B' B c _ _ hj hi h1 hbi)
 have hsame:=hb.block c (h.rng j c _ h1).2 hcb;exact⟨c,h1,h2.stab st.toStabC hsame⟩
 have e1:∃B,hp j=some B:=by
  by_cases hji:j=i;subst hji;exact⟨_,hi⟩;rw[br _ _ hji] at h1;grind
 have e2:∃B,hp k=some B:=by
  by_cases hki:k=i;subst hki;exact⟨_,hi⟩;rw[br _ _ hki] at h2;exact⟨_,h2⟩
 obtain⟨_,e1⟩:=e1;obtain⟨_,e2⟩:=e2;exact h.inj j k _ _ c s s' e1 e2 h3 h4
theorem Mem.own {i b ty s:Nat} {es:Lc} {cs:Array Value} (h:Mem M0 w0 β hp w) (hs0:s≠0) (hb:Below w.heap.size w w') (hi0:i≠0) (hi:β i=none) (hpi:hp i=none) (hb1:w.heap.size<=b) (hb2:b< w'.heap.size) (hh:w'.heap[b]?=some (.cells cs ty (0,0)))
    (hr:RVess (λx=>MM M0 β hp x\/x=b) (λ_=>none) w' b s es 0) (hl:es.length* s<=cs.size):
    Mem M0 w0 (upd β i (some (b,s))) (upd hp i (some ⟨ty,s,es⟩)) w'/\Stab (MM M0 β hp) (MM M0 (upd β i (some (b,s))) (upd hp i (some ⟨ty,s,es⟩))) β (upd β i (some (b,s))) w w':=by
 obtain⟨m1,st1⟩:=h.ext hb
 have hbe:∀j x,β j=some x->upd β i (some (b,s)) j=some x:=λj x hj=>by
  rw[br];exact hj;grind
 have hmm:∀c,MM M0 (upd β i (some (b,s))) (upd hp i (some ⟨ty,s,es⟩)) c->MM M0 β hp c\/c=b:=by
  rintro c (hc|⟨j,B',s',h1,h2⟩);exact .inl (.inl hc);by_cases hj:j=i;subst hj;rw[bn] at h2;cases h2;exact .inr rfl;rw[br _ _ hj] at h1 h2;exact .inl (.inr ⟨j,B',s',h1,h2⟩)
 have st:Stab (MM M0 β hp) (MM M0 (upd β i (some (b,s))) (upd hp i (some ⟨ty,s,es⟩))) β (upd β i (some (b,s))) w w':=by
  refine⟨⟨st1.heap,λc N hs hm=>?_,hbe,st1.sz⟩,st1.oth⟩;rcases hmm c hm with hm|rfl
  exact hm;have:=ci hs;omega
 have st2:StabC (MM M0 β hp) (MM M0 β hp) β β w w':=st1.toStabC;refine⟨⟨m1.below,h.m0,λj c s' hj=>?_,λh0=>(br _ _ (Ne.symm hi0)).trans (h.pin (by rw[br _ _ (Ne.symm hi0)] at h0;grind)),λj B hj=>?_,λj k B B' c s1 s2 h1 h2 h3 h4=>?_⟩,st⟩;by_cases hji:j=i;subst hji;rw[bn] at hj;cases hj;exact⟨λhk=>absurd (w0.lt _ hk) (by have:=h.below.size;omega),hb2⟩;rw[br _ _ hji] at hj;exact m1.rng j c s' hj;by_cases hji:j=i;subst hji;rw[bn] at hj;cases hj;exact⟨b,bn _ _ _,.inl ⟨hs0,cs,hh,StabC.ess (w:=w') (w':=w') (M:=λx=>MM M0 β hp x\/x=b) (β:=λ_=>none) ⟨λ_ _ _ _=>rfl,λc _ _ hc=>hmm c hc,(λ_ _ h=>by cases h),λ_ _ h=>h⟩ rfl hr,hl⟩⟩;rw[br _ _ hji] at hj;obtain⟨c,h1,h2⟩:=h.blk j B hj;exact⟨c,hbe _ _ h1,h2.stab st.toStabC (hb.block c (h.rng j c _ h1).2)⟩;by_cases hji:j=i <;> by_cases hki:k=i;rw[hji,hki];subst hji;rw[bn] at h3;cases h3;rw[br _ _ hki] at h4;have:=(h.rng k _ _ h4).2;omega;subst hki;rw[bn] at h4;cases h4;rw[br _ _ hji] at h3;have:=(h.rng j _ _ h3).2;omega;rw[br _ _ hji] at h1 h3;rw[br _ _ hki] at h2 h4;exact h.inj j k B B' c s1 s2 h1 h2 h3 h4
theorem AEval.good(h:AEval P id ev hp op u rd)(mem:Mem M0 w0 β hp w)(hev:∀x a,ev x=some a->RV (MM M0 β hp) β w a (ρ x))(hcst:∀v,ρ (.const v)=v)(hid0:id≠0)(hid:β id=none)(hidh:hp id=none)(ho:o.op=op):
    Good P M0 w0 β hp w id ρ o u:=by
 cases h with
 |move h1=>exact .pure mem (by simp[execOp,ho]) (hev _ _ h1)
 |sem h1=>exact h1 M0 w0 β hp w ρ o ho mem (λx _ a ha=>hev x a ha) hcst hid0 hid hidh (λ_ _=>rfl)
 |assign h1=>exact .pure mem (by simp[execOp,ho]) (hev _ _ h1)
 | @pick c a b t v h1 h2 h3=>
  have hc:ρ c= .bool t:=hev _ _ h1;cases t with
  |true=>exact .pure (y:=ρ a) mem (by simp[execOp,ho,hc,asBool]) (hev _ _ (h2 rfl))
  |false=>exact .pure (y:=ρ b) mem (by simp[execOp,ho,hc,asBool]) (hev _ _ (h3 rfl))
 | @alloc T zs h1 hz0=>
  obtain⟨v,hv,hc⟩:=run_zeroValue' h1 w
  have hal:=mem.alloc (i:=id) (ty:=T) (s:=zs.length) (es:=[zs.map ofV]) (cs:=v.cells) (iZ hz0) hid0 hid hidh (λk e he=>by
   cases k with
   |zero=>
    simp only[List.getElem?_cons_zero,Option.some.injEq] at he;subst he;exact⟨zs,sx zs,ψ,λj x hj=>by rw[<-Array.getElem?_toList,hc];simpa using hj⟩
   |succ k=>simp at he) (by simp[<-hc])
  refine .inl ⟨.pointer (some ⟨w.heap.size,0,none⟩),_,_,.inl ?_,hal.1,⟨w.heap.size,zs.length,bn _ _ _,ψ⟩,hal.2,λj hj=>br _ _ hj⟩;simp[execOp,ho,Instr.alloc,hv,newVar,newRow]
 | @box T x a cs h1 h2 hz0=>
  have hx:=ph (hev _ _ h1) h2
  have hal:=mem.alloc (i:=id) (ty:=T) (s:=cs.length) (es:=[cs]) (cs:=(ρ x).cells) (iZ hz0) hid0 hid hidh (λk e he=>by
   cases k with
   |zero=>
    simp only[List.getElem?_cons_zero,Option.some.injEq] at he;subst he;exact⟨_,hx,rfl,λj y hj=>by rw[<-Array.getElem?_toList];simpa using hj⟩
   |succ k=>simp at he) (by have:=hx.length;simp at this⊢;omega)
  refine .inl ⟨.pointer (some ⟨w.heap.size,0,none⟩),_,_,.inl ?_,hal.1,⟨w.heap.size,cs.length,bn _ _ _,ψ⟩,hal.2,λj hj=>br _ _ hj⟩;simp[execOp,ho,Instr.box,newVar,newRow]
 | @load_l T x i e off B cs n h1 h2 h3 h4 h5 h6=>
  obtain⟨b,s,hb,hp'⟩:=hev _ _ h1;obtain⟨b',cs',hb',_,hr,_⟩:=mem.cellsF h2;rw[hb] at hb';cases hb';have hg:=((hr.get h3).1.drop off).take n;obtain⟨xs,hx1,hx2⟩:=hg.vals;have hl:xs.length=n:=by rw[hx1.length];simp;omega
  refine .pure (y:= .agg xs.toArray) mem ?_ ⟨_,rfl,hx1⟩;simp[execOp,ho,Instr.loadAt,Instr.sureAddr,hp',iQ h4 h5 hl (λj v hj=>by have:=hx2 j v hj;simpa using this)]
 | @load_l1 T x i e off B cs c h1 h2 h3 h4 h5=>
  obtain⟨b,s,hb,hp'⟩:=hev _ _ h1;obtain⟨b',cs',hb',_,hr,_⟩:=mem.cellsF h2;rw[hb] at hb';cases hb';obtain⟨y,hy1,hy2⟩:=(hr.get h3).1.get h5;refine .pure (y:=y) mem ?_ hy2;simp[execOp,ho,Instr.loadAt,Instr.sureAddr,hp',iP h4 (by simpa using hy1)]
 | @load_a T x es i off cs n h1 h2 h3 h4 h5=>
  obtain⟨_,b,o',s,hp',_,_,hr⟩:=hev _ _ h1;have hg:=((hr.get h2).1.drop off).take n;obtain⟨xs,hx1,hx2⟩:=hg.vals;have hl:xs.length=n:=by rw[hx1.length];simp;omega
  refine .pure (y:= .agg xs.toArray) mem ?_ ⟨_,rfl,hx1⟩;simp[execOp,ho,Instr.loadAt,Instr.sureAddr,hp',iQ h3 h4 hl hx2]
 | @load_a1 T x es i off cs c h1 h2 h3 h4=>
  obtain⟨_,b,o',s,hp',_,_,hr⟩:=hev _ _ h1;obtain⟨y,hy1,hy2⟩:=(hr.get h2).1.get h4;refine .pure (y:=y) mem ?_ hy2;simp[execOp,ho,Instr.loadAt,Instr.sureAddr,hp',iP h3 hy1]
 | @store T x y i e off B cs a vs h1 h2 h3 h4 h5 h6 h7 h8=>
  obtain⟨b,s,hb,hp'⟩:=hev _ _ h1;obtain⟨b',cs',hb',hh,hr,hsz⟩:=mem.cellsF h2;rw[hb] at hb';cases hb';have hy:=hev _ _ h4;have hc:=ph hy h5;have hlen:=hc.length;have hcl:=(hr.get h3).2;have hei:e< B.es.length:=(List.getElem?_eq_some_iff.1 h3).1;have hle:(e+1) * B.sz<=cs'.size:=Nat.le_trans (Nat.mul_le_mul_right _ hei) hsz;rw[Nat.add_mul,Nat.one_mul] at hle;obtain⟨w',r1,r2,r3,r4,r5⟩:=run_storeCells' (P:=P) (ρ y).cells.toList w cs' (e* B.sz+off) 0 hh ω (xa hc h6);have hwr:=mem.write (w':=w') (i:=i) (es:=B.es.set e (eR cs off vs)) (du h2).2 (du h2).1 hb r5 r4 r2 r3 (λk e' he'=>?_) (by simp[cx];simpa using hsz) (by simp[aL,hh,cx]);refine .inl ⟨undef,w',β,.inr ⟨?_,rfl⟩,hwr.1,rfl,hwr.2,λ_ _=>rfl⟩;simp only[Array.length_toList] at hlen;simp[execOp,ho,Instr.storeAt,Instr.sureAddr,hp',storeVar,run_sizeOf' h7,hlen,r1];rw[List.getElem?_set] at he';by_cases hek:e=k;subst hek;simp only[if_true,hei,Option.some.injEq] at he';subst he';obtain⟨xs,hx1,hx2⟩:=(hr.get h3).1.vals;refine⟨eR xs off (ρ y).cells.toList,vS hx1 hc,by rw[cx];exact hcl,λj v hj=>?_⟩;have hxl:=hx1.length;rw[eF] at hj;rw[List.getElem?_toArray,eF];simp only[Nat.add_zero,Array.length_toList] at hj⊢
  have hjl:j< xs.length:=by
   by_cases hjl:j< xs.length;exact hjl;exfalso;simp only[hjl,if_false] at hj;split at hj;cases hj;rw[List.getElem?_eq_none ω] at hj;cases hj
  by_cases hin:off<=j/\j< off+(ρ y).cells.size;rw[if_pos hin,if_pos hjl] at hj;rw[if_pos ω,if_pos ω,show e* B.sz+j- (e* B.sz+off)=j- off by omega];exact hj;rw[if_neg hin] at hj;rw[if_neg ω];have:=hx2 j v hj;simp only[World.cell?,hh] at this;simpa using this;rw[if_neg hek] at he';obtain⟨hc1,hc2⟩:=hr.get he';obtain⟨xs,hx1,hx2⟩:=hc1.vals;refine⟨xs,hx1,hc2,λj v hj=>?_⟩;have hxl:=hx1.length;have hjl:j< xs.length:=(List.getElem?_eq_some_iff.1 hj).1;rw[List.getElem?_toArray,eF]
  have hdis:¬(e* B.sz+off+0<=k* B.sz+j/\k* B.sz+j< e* B.sz+off+0+(ρ y).cells.toList.length):=by
   simp only[Array.length_toList] at hlen⊢;rcases Nat.lt_or_gt_of_ne hek with hlt|hgt
   have:=Nat.mul_le_mul_right B.sz (show e+1<=k from hlt);rw[Nat.add_mul,Nat.one_mul] at this;omega;have:=Nat.mul_le_mul_right B.sz (show k+1<=e from hgt);rw[Nat.add_mul,Nat.one_mul] at this;omega
  rw[if_neg hdis];have:=hx2 j v hj;simp only[World.cell?,hh] at this;simpa using this
 | @nilCheck x a h1 h2=>
  have hx:=hev _ _ h1;refine .pure (y:=ρ x) mem ?_ hx;cases a with
  |lptr i e o'=>obtain⟨b,s,_,hy⟩:=hx;simp[execOp,ho,hy]
  |aptr es i o'=>obtain⟨_,b,off,s,hy,_⟩:=hx;simp[execOp,ho,hy]
  |clos f fst cap=>obtain⟨xs,ys,hy,_⟩:=hx;simp[execOp,ho,hy]
  |_=>simp at h2
 | @bin bop T x y yt a b r h1 h2 h3=>
  have ha:ρ x=a:=hev _ _ h1;have hb:ρ y=b:=hev _ _ h2;refine .pure (y:=r) mem ?_ rfl;have:=h3 w;simp only[execOp,ho,ha,hb];exact gF _ this
 | @bin_c bop T x y yt a b r h1 h2 h3=>
  subst h2;have ha:=hev _ _ h1;have hb:ρ (.const b)=b:=hcst b;refine .pure (y:=r) mem ?_ rfl;have:=h3 _ _ _ _ ha w;simp only[execOp,ho,hb];exact gF _ this
 | @un uop T x a r h1 h2=>
  have ha:ρ x=a:=hev _ _ h1;refine .pure (y:=r) mem ?_ rfl;simp only[execOp,ho,ha];exact gF _ (h2 w)
 | @conv S D x a r h1 h2=>
  have ha:ρ x=a:=hev _ _ h1;refine .pure (y:=r) mem ?_ rfl;simp only[execOp,ho,ha];exact gF _ (h2 w)
 | @extract t i cs c h1 h2=>
  obtain⟨xs,hx,hr⟩:=hev _ _ h1;obtain⟨y,hy1,hy2⟩:=C9 hr h2;refine .pure (y:=y) mem ?_ hy2;simp[execOp,ho,hx,Instr.extract,hy1]
 | @build T parts zs pl as cs h1 h2 h3 h4=>
  obtain⟨v,hv,hc⟩:=run_zeroValue' h1 w;have has:=iV (xs:=parts.toList.map (·.2)) hev h3;obtain⟨ys,hy1,hy2⟩:=DT (xs:=v.cells) (Fm has) (by rw[hc];exact sx zs) h4;refine .pure (y:= .agg ys) mem ?_ ⟨_,rfl,hy2⟩;unfold tV at h2;cases hu:P.underlying T with
  |none=>simp[hu] at h2
  |some d=>
   rw[hu] at h2;cases d with
   |struct fs=>
    simp only[] at h2;have hm:=lT fs.toList pl w h2
    have hm':(fs.mapM λf=>(do pure (f.offset,<-sizeOf f.type):Sem (Nat×Nat))).run P w= .ok pl.toArray w:=by
     rw[Array.mapM_eq_mapM_toList,Sem.run_map,hm];rfl
    have hq:(parts.map λq=>(q.1,ρ q.2)).toList=parts.toList.map λq=>(q.1,ρ q.2):=ψ
    have hfill:Instr.fill (λi=>pl.toArray[i]?) v.cells (parts.map λq=>(q.1,ρ q.2)).toList=some ys:=by
     rw[hq];simpa using hy1
    simp only[execOp,ho];refine gF _ ?_;simp only[Instr.build,Sem.run_bind,hv,Result.andThen_ok,run_underlying hu w];simp only[hm',Result.andThen_ok];rw[hfill];rfl
   |_=>simp at h2
 | @fieldAddr_l T x f i e off' foff s h1 h2 h3=>
  obtain⟨b,sz,hb,hx⟩:=hev _ _ h1;refine .pure (y:= .pointer (some ⟨b,e* sz+off'+foff,none⟩)) mem ?_ ⟨b,sz,hb,by rw[Nat.add_assoc]⟩;simp only[execOp,ho,hx];exact gF _ (rO h2 h3 _ _ _)
 | @fieldAddr_a T x f es i off' foff s h1 h2 h3=>
  obtain⟨hi,b,boff,sz,hx,hr⟩:=hev _ _ h1;refine .pure (y:= .pointer (some ⟨b,boff+i* sz+off'+foff,none⟩)) mem ?_ ⟨hi,b,boff,sz,by rw[Nat.add_assoc (boff+i* sz)],hr⟩;simp only[execOp,ho,hx];exact gF _ (rO h2 h3 _ _ _)
 | @field T x f cs foff s h1 h2 h3 h4=>
  obtain⟨xs,hx,hr⟩:=hev _ _ h1;have hl:=hr.length;simp only[Array.length_toList] at hl;refine .pure (y:= .agg (xs.extract foff (foff+s))) mem ?_ ⟨_,rfl,?_⟩;simp only[execOp,ho,hx];exact gF _ (vu h2 h3 _ _);rw[Array.toList_extract,List.extract_eq_take_drop];have:=(hr.drop foff).take s;simpa using this
 | @field1 T x f cs foff s c h1 h2 h3 h4=>
  obtain⟨xs,hx,hr⟩:=hev _ _ h1;obtain⟨y,hy1,hy2⟩:=C9 hr h4;refine .pure (y:=y) mem ?_ hy2;simp only[execOp,ho,hx];exact gF _ (vr h2 h3 hy1 _)
 | @index_l T x ix i e n c E sz kd k h1 h2 h3 h4 h5=>
  obtain⟨b,c',hb,hx,hnc,_⟩:=hev _ _ h1;have hix:ρ ix= .int kd k:=hev _ _ h2;refine .pure (y:= .pointer (some ⟨b,e* sz+k.toNat* sz,none⟩)) mem ?_ ⟨b,sz,hb,by simp[Nat.add_mul]⟩;simp only[execOp,ho,hx,hix];exact gF _ (rN h5 h3 h4 _)
 | @index_a T x ix es E sz kd k cs h1 h2 h3 h4 h5 h6=>
  obtain⟨a,c',hx,hnc,_,hr⟩:=hev _ _ h1;have hix:ρ ix= .int kd k:=hev _ _ h2;have hlt:k.toNat< es.length:=(List.getElem?_eq_some_iff.1 h4).1;rcases hr with rfl|⟨b,off,s,rfl,hb,hm,hr⟩
  simp at hlt;have hs:s=sz:=by rw[<-(hr.get h4).2];exact h5
  subst hs;refine .pure (y:= .pointer (some ⟨b,off+k.toNat* s,none⟩)) mem ?_ ⟨hlt,b,off,s,ψ,hb,hm,hr⟩;simp only[execOp,ho,hx,hix];exact gF _ (rN h6 h3 ω _)
 | @index_s T x ix a b r h1 h2 h3=>
  have ha:ρ x=a:=hev _ _ h1;have hb:ρ ix=b:=hev _ _ h2;refine .pure (y:=r) mem ?_ rfl;simp only[execOp,ho,ha,hb];exact gF _ (h3 w)
 | @makeFunc f first captured as bs h1 h2=>
  have ha:=iV hev h1;have hb:=iV hev h2;refine .pure (y:= .func (.func f) (first.map ρ) (captured.map ρ)) mem ?_ ⟨_,_,rfl,by simpa using ha,by simpa using hb⟩;simp only[execOp,ho];exact gF _ rfl
 | @call c callee f fst cap as r h1 h2 h3 h4=>
  obtain⟨xs,ys,hx,hr1,hr2⟩:=hev _ _ h2;have has:=iV hev h3;have hall:=iy ((hr1.append has).append hr2);have hcl:RVs (MM M0 β hp) (λ_=>none) w ((fst++as++cap).map coe) (xs.toList++c.args.toList.map ρ++ys.toList):=dW h4.cl hall;refine .inr ⟨f,xs++c.args.map ρ++ys,?_,?_⟩;simp only[execOp,ho];simp only[resolve,h1,hx,Deferred.ofValue,Sem.run_bind,Sem.run_pure,Result.andThen_ok,invoke,h4.enters];have hc:=h4.calls (MM M0 β hp) w _ mem.fit hcl
  have he:(xs.toList++c.args.toList.map ρ++ys.toList).toArray=xs++c.args.map ρ++ys:=by
   apply Array.ext';simp
  rw[he] at hc;refine hc.mono ?_;rintro e w' ⟨y,rfl,hy,hb⟩;have hm:=mem.ext hb;exact⟨y,rfl,β,hm.1,(StabC.all (w:=w') (w':=w') (M:=MM M0 β hp) (M':=MM M0 β hp) (β:=λ_=>none) (β':=β) ⟨λ_ _ _ _=>rfl,λ_ _ _ h=>h,(λ_ _ h=>by cases h),λ_ _ h=>h⟩ hy),hm.2,λ_ _=>rfl⟩
 | @callS c callee f fst cap as as' ids r h1 h2 h3 h4 h5=>
  obtain⟨xs,ys,hx,hr1,hr2⟩:=hev _ _ h2;have has:=iV hev h3;have hcl:=yW mem h4 (λ_ h=>h) ((hr1.append has).append hr2) h5.cl;refine .inr ⟨f,xs++c.args.map ρ++ys,?_,?_⟩;simp only[execOp,ho];simp only[resolve,h1,hx,Deferred.ofValue,Sem.run_bind,Sem.run_pure,Result.andThen_ok,invoke,h5.enters]
  have hsub:∀i B,dK hp rd i=some B->hp i=some B:=λi B h=>by
   simp only[dK] at h;split at h;cases h;exact h
  have hM:∀b,MM M0 β (dK hp rd) b->MM M0 β hp b:=by
   rintro b (hb|⟨i,B,s,g1,g2⟩);exact .inl hb;exact .inr ⟨i,B,s,hsub i B g1,g2⟩
  have hc:=h5.calls (MM M0 β (dK hp rd)) w _ (mem.fit.sub hM) hcl
  have he:(xs.toList++c.args.toList.map ρ++ys.toList).toArray=xs++c.args.map ρ++ys:=by
   apply Array.ext';simp
  rw[he] at hc;refine hc.mono ?_;rintro e w' ⟨y,rfl,hy,hb⟩;have hm:=mem.ext hb;have hf:=hm.1.forget hsub;refine⟨y,rfl,β,?_⟩;unfold mS;rw[rA];exact⟨hf.1,(StabC.all (w:=w') (w':=w') (M:=MM M0 β (dK hp rd)) (M':=MM M0 β (dK hp rd)) (β:=λ_=>none) (β':=β) ⟨λ_ _ _ _=>rfl,λ_ _ _ h=>h,(λ_ _ h=>by cases h),λ_ _ h=>h⟩ hy),hm.2.trans hf.2 hb.size,λ_ _=>rfl⟩
 | @callE c callee f x0 rest as i e n cap B E' r h1 h2 h3 h4 h5 h6 h7=>
  obtain⟨xs,ys,hx,hr1,hr2⟩:=hev _ _ h2;have hxs:xs.toList=[]:=hr1;have hys:ys.toList=[]:=hr2;have hargs:c.args.map ρ=(ρ x0::rest.map ρ).toArray:=by apply Array.ext';simp[h3]
  have has:=iy (iV hev h5);obtain⟨b,cs,hb,hh,hr,hl⟩:=mem.cellsF h6;have hmb:MM M0 β hp b:= .inr ⟨i,B,_,(du h6).1,hb⟩;have hst:StabC (MM M0 β hp) (MM M0 β hp) (λ_=>none) β w w:=⟨λ_ _ _ _=>rfl,λ_ _ _ h=>h,(λ_ _ h=>by cases h),λ_ _ h=>h⟩;refine .inr ⟨f,(ρ x0::rest.map ρ).toArray,?_,?_⟩;simp only[execOp,ho];simp only[resolve,h1,hx,Deferred.ofValue,Sem.run_bind,Sem.run_pure,Result.andThen_ok,invoke];rw[hargs,show xs= #[] from Array.ext' hxs,show ys= #[] from Array.ext' hys,Array.empty_append,Array.append_empty];simp only[h7.enters]
  have hlsl:RV (MM M0 β hp) (λi=>if i=0 then some (b,B.sz) else none) w (.lsl 0 e n cap B.sz) (ρ x0):=by
   obtain⟨b',c',hb',hrest⟩:=hev _ _ h4;rw[hb] at hb';cases hb';exact⟨b,c',rfl,hrest⟩
  refine(h7.calls (MM M0 β hp) w b (ρ x0) _ mem.fit hmb ⟨cs,hh,gE h7.clE hr,hl⟩ hlsl (dW h7.cl has)).mono ?_;rintro x w' ⟨rfl,⟨cs',hh',hr',hl'⟩,hbut⟩;have hm:=mem.but (du h6).2 hbut (du h6).1 hb hh' hr' hl';exact⟨r,rfl,β,hm.1,rfl,hm.2,λ_ _=>rfl⟩
 | @callO c callee f as ty sz es h1 h2 h3 h4=>
  obtain⟨xs,ys,hx,hr1,hr2⟩:=hev _ _ h2;have hxs:xs.toList=[]:=hr1;have hys:ys.toList=[]:=hr2;have has:=iy (iV hev h3);refine .inr ⟨f,c.args.map ρ,?_,?_⟩;simp only[execOp,ho];simp only[resolve,h1,hx,Deferred.ofValue,Sem.run_bind,Sem.run_pure,Result.andThen_ok,invoke];rw[show xs= #[] from Array.ext' hxs,show ys= #[] from Array.ext' hys,Array.empty_append,Array.append_empty];simp only[h4.enters];have hc:=h4.calls (MM M0 β hp) w _ mem.fit (dW h4.cl has);have he:(c.args.toList.map ρ).toArray=c.args.map ρ:=by apply Array.ext';simp
  rw[he] at hc;refine hc.mono ?_;rintro x w' ⟨b,cc,rfl,hb1,hb2,hc1,hc2,⟨cs,hh,hr,hl⟩,hbel⟩;have hm:=mem.own h4.sz0 hbel hid0 hid hidh hb1 hb2 hh hr (Nat.le_trans (Nat.mul_le_mul_right _ hc1) hl);refine⟨_,rfl,_,hm.1,⟨b,cc,bn _ _ _,ψ,hc1,hc2,(λ_ h=>by cases h),cs.size,by simp[aL,hh],by simpa using hl⟩,hm.2,λj hj=>br _ _ hj⟩
 | @len c x a n T d h1 h2 h3 h4 h5 h6=>
  have hx:=hev _ _ h4;obtain⟨hu,_⟩:=dU h6;refine .pure (y:= .int .i64 n) mem ?_ rfl
  have hb:∀(b:Option Addr) (c':Nat),ρ x= .slice b n c'->(execOp ρ o).run P w= .ok (.value (.int .i64 n)) w:=by
   intro b c' hb;simp[execOp,ho,resolve,h1,h2,h3,hb,invoke,builtin,Builtin.len_,run_underlying hu,goInt]
  cases a with
  |arr es=>simp only[qN,Option.some.injEq] at h5;subst h5;obtain⟨b,c',hy,_⟩:=hx;exact hb b c' hy
  |lsl i e k cap sz=>simp only[qN,Option.some.injEq] at h5;subst h5;obtain⟨b,c',_,hy,_⟩:=hx;exact hb _ c' hy
  |emp=>simp only[qN,Option.some.injEq] at h5;subst h5;obtain⟨b,hy⟩:=hx;exact hb b 0 hy
  |_=>simp[qN] at h5
 | @builtinV c b vs r h1 h2 h3=>
  have has:=iV hev h2
  have hv:c.args.toList.map ρ=vs:=by
   clear h3 ho h2;generalize c.args.toList.map ρ=ys at has
   induction vs generalizing ys with
   |nil=>exact has
   |cons v vs ih=>obtain⟨x,xs,rfl,e,h⟩:=has;cases (e:x=v);rw[ih xs h]
  have hargs:c.args.map ρ=vs.toArray:=by apply Array.ext';simp[hv]
  refine .pure (y:=r) mem ?_ rfl;simp only[execOp,ho,resolve,h1,Sem.run_bind,Sem.run_pure,Result.andThen_ok,invoke,hargs];exact h3 w _ _
 | @slice_a T x lo hi mx es l h d h1 h2 h3 h4 h5 h6=>
  obtain⟨a,c,hx,hnc,hcm,hr⟩:=hev _ _ h1;obtain⟨N,r1,r2,r3,_⟩:=Dd (P:=P) hev h2 hnc (λ_ h=>by cases h) h3 h4;have hrun:=run_sliceAt' (s:=d.2) (E:=d.1) h5 (a:=a) r1;have hlen:((es.drop l).take (h- l)).length=h- l:=χ
  refine .pure (y:= .slice (if N=l then a else a.map (·.add (l* d.2))) (h- l) (N- l)) mem ?_ ?_;simp only[execOp,ho,hx];exact gF _ hrun;refine⟨_,N- l,by rw[hlen],by rw[hlen];omega,ω,?_⟩;by_cases hlt:l< h;right;have hes:es≠[]:=λe=>by subst e;simp at h4;omega
  rcases hr with rfl|⟨b,off,s,rfl,hN,hm,hr⟩
  exact absurd rfl hes
  have hs:s=d.2:=by
   cases es with
   |nil=>exact absurd rfl hes
   |cons e es=>rw[<-h6 hes e (List.mem_cons_self ..)];exact hr.1.symm
  subst hs;exact⟨b,off+l* d.2,d.2,by rw[if_neg ω];simp[jM],hN,hm,(hr.drop l).take _⟩;left;rw[show h- l=0 by omega];rfl
 | @slice_l T x lo hi mx i e n cap sz l h m E h1 h2 h3 h4 h5 h6=>
  obtain⟨b,c,hb,hx,hnc,hcm,hcap,N0,hN1,hN2⟩:=hev _ _ h1;obtain⟨N,r1,r2,r3,r4⟩:=Dd (P:=P) hev h2 hnc hcap h3 h4;have hrun:=run_sliceAt' h6 (a:=some ⟨b,e* sz,none⟩) r1
  have haddr:(if N=l then some (⟨b,e* sz,none⟩:Addr) else(some ⟨b,e* sz,none⟩:Option Addr).map (·.add (l* sz)))=some ⟨b,(e+l) * sz,none⟩:=by
   split;have:l=0:=ω
   subst this;rfl;simp[jM,Nat.add_mul]
  rw[haddr] at hrun;refine .pure (y:= .slice (some ⟨b,(e+l) * sz,none⟩) (h- l) (N- l)) mem ?_ ⟨b,N- l,hb,rfl,ω,ω,λk hk=>?_,N0,hN1,?_⟩;simp only[execOp,ho,hx];exact gF _ hrun;cases m with
  |none=>cases hk
  |some m'=>simp only[Option.map_some,Option.some.injEq] at hk;rw[r4 m' rfl];exact hk
  exact Nat.le_trans (Nat.mul_le_mul_right _ ω) hN2
 | @slice_e T x lo hi mx a d h1 h2 h3 h4 h5 h6=>
  obtain⟨kh,h4⟩:=h4;obtain⟨km,h5⟩:=h5;have hx:=hev _ _ h1
  have hs:∃b n c,ρ x= .slice b n c:=by
   cases a with
   |arr es=>obtain⟨b,c,hy,_⟩:=hx;exact⟨_,_,_,hy⟩
   |lsl i e k cap sz=>obtain⟨b,c',_,hy,_⟩:=hx;exact⟨_,_,_,hy⟩
   |emp=>obtain⟨b,hy⟩:=hx;exact⟨_,_,_,hy⟩
   |_=>simp at h2
  obtain⟨b,n,c,hy⟩:=hs
  have hb:(Instr.sliceBounds true n c (lo.map ρ) (hi.map ρ) (mx.map ρ)).run P w= .ok (0,0,0) w:=by
   rw[jl hev h3,jl hev h4,jl hev h5];have r1:∀k y code,(Instr.sliceBound (.int k 0) y code).run P w= .ok 0 w:=λk y code=>eu (i:=0) (Nat.zero_le _) code w;simp[Instr.sliceBounds,r1]
  refine .pure (y:= .slice b 0 0) mem ?_ ⟨b,rfl⟩;simp only[execOp,ho,hy];refine gF _ ?_;have:=run_sliceAt' (s:=d.2) (E:=d.1) h6 (a:=b) hb;simpa using this
 | @slice_v T x lo hi mx a lv hv mv r h1 h2 h3 h4 h5=>
  have ha:ρ x=a:=hev _ _ h1;refine .pure (y:=r) mem ?_ rfl;simp only[execOp,ho,ha,jl hev h2,jl hev h3,jl hev h4];exact gF _ (h5 w)
 | @makeSlice T lo co kl kc E sz zs bs l c h1 h2 h3 h4 h5 h6 h7 h8 h9 hz0=>
  have hl:ρ lo= .int kl l:=hev _ _ h1;have hc:ρ co= .int kc c:=hev _ _ h2;obtain⟨hu,hz⟩:=dU h3;obtain⟨inf,z,i1,i2,i3,i4,i5⟩:=xz hz h4 h6;have h9':(c:Int)<=9223372036854775807:=by unfold maxLen at h9;omega
  have hb':(inf.bytes:Int) * (c:Int)<=281474976710656:=by
   rw[i5];have:((bs* c:Nat):Int)<=281474976710656:=ω
   rwa[Int.natCast_mul] at this
  have hrun:=run_make (P:=P) w T E inf z hu i1 i2 kl kc l c ω ω hb' h9';simp only[Int.toNat_natCast] at hrun;have hzs:z.cells.size=sz:=by rw[<-Array.length_toList,i3];exact h5
  have hal:=mem.alloc (i:=id) (ty:=E) (s:=sz) (es:=List.replicate c (zs.map ofV)) (cs:=madeCells z.cells (c* inf.size)) (iZ hz0) hid0 hid hidh (λk e he=>by
   rw[List.getElem?_replicate] at he;split at he
   ·rename_i hk
    simp only[Option.some.injEq] at he;subst he;refine⟨zs,sx zs,by simp[h5],λj v hj=>?_⟩;have hjl:j< sz:=by rw[<-h5];exact(List.getElem?_eq_some_iff.1 hj).1
    have hlt:k* sz+j< c* sz:=by
     have:(k+1) * sz<=c* sz:=Nat.mul_le_mul_right _ hk;rw[Nat.add_mul] at this;omega
    have hmod:(k* sz+j) % sz=j:=by rw[Nat.mul_comm,Nat.mul_add_mod];exact Nat.mod_eq_of_lt hjl
    rw[i4];simp only[madeCells,Array.getElem?_map,Array.getElem?_range,hlt,if_true,Option.map_some,hzs,hmod];rw[<-i3] at hj;rw[Array.getElem?_toList] at hj;simp[getElem!_def,hj]
   cases he) (by simp[i4,size_madeCells])
  refine .inl ⟨.slice (some ⟨w.heap.size,0,none⟩) l c,_,_,.inl ?_,hal.1,⟨w.heap.size,c,bn _ _ _,?_,h7,h9,λk hk=>by simpa using hk,c* sz,?_,ψ⟩,hal.2,λj hj=>br _ _ hj⟩;simp only[execOp,ho,hl,hc];exact gF _ hrun;simp;unfold aL;rw[heap_alloc_new'];simp[i4,size_madeCells]
 | @buildSlice T len parts E sz zs as es h1 h2 h3 h4 h5 h6 h7 h8 hz0=>
  obtain⟨hu,hz⟩:=dU h1;obtain⟨z,hzr,hzc⟩:=run_zeroValue' h2 w;have has:=iV (xs:=parts.toList.map (·.2)) hev h6;obtain⟨hl1,hl2⟩:=wF has h7;have hlen:parts.toList.length=len:=by have:=congrArg List.length h5;simpa using this
  have hesl:es.length=len:=by rw[hl1];simp;simpa using hlen
  have hq:(parts.map λq=>(q.1,ρ q.2)).toList=(List.range' 0 ((parts.toList.map (·.2)).map ρ).length).zip ((parts.toList.map (·.2)).map ρ):=by
   have e1:List.range' 0 ((parts.toList.map (·.2)).map ρ).length=parts.toList.map (·.1):=by
    rw[h5,List.range_eq_range'];congr 1;simp;simpa using hlen
   rw[e1,Array.toList_map,List.map_map,List.zip_map'];rfl
  have hcells:∀v∈(parts.toList.map (·.2)).map ρ,v.cells.size=sz:=by
   intro v hv;obtain⟨i,hi,hvi⟩:=List.mem_iff_getElem.1 hv;have hil:i< es.length:=by rw[hl1];exact hi
   obtain⟨x,hx1,hx2⟩:=hl2 i es[i] (List.getElem?_eq_getElem hil);rw[List.getElem?_eq_getElem hi,Option.some.injEq,hvi] at hx1;subst hx1;have:=hx2.length;rw[<-Array.length_toList,this];exact h8 _ (List.getElem_mem hil)
  have hzsz:z.cells.size=sz:=by rw[<-Array.length_toList,hzc];exact h3
  obtain⟨ys,f1,f2,f3,_⟩:=Am (sz:=sz) ((parts.toList.map (·.2)).map ρ) 0 ((Array.range (len* sz)).map ((if len* sz=0 then #[] else z.cells)[· % (if len* sz=0 then #[] else z.cells).size]!)) hcells (by simp;rw[<-hlen];simp)
  have hal:=mem.alloc (i:=id) (ty:=E) (s:=sz) (es:=es) (cs:=ys) (iZ hz0) hid0 hid hidh (λk e he=>by
   obtain⟨x,hx1,hx2⟩:=hl2 k e he;refine⟨x.cells.toList,hx2,h8 e (List.mem_of_getElem? he),λj v hj=>?_⟩;have:=f3 k x hx1 j v (by simpa using hj);simpa using this) (by rw[f2];simp[hesl])
  refine .inl ⟨.slice (some ⟨w.heap.size,0,none⟩) len len,_,_,.inl ?_,hal.1,⟨w.heap.size,len,bn _ _ _,ψ,Nat.le_refl _,?_,λk hk=>by simpa using hk,len* sz,?_,ψ⟩,hal.2,λj hj=>br _ _ hj⟩;simp only[execOp,ho];refine gF _ ?_;rw[<-hq] at f1;by_cases h0:len* sz=0;simp only[h0,if_true] at f1;simp only[Instr.buildSlice,Sem.run_bind,run_underlying hu w,Result.andThen_ok,run_sizeOf' hz,h0,show¬(0> 2^ 24) by omega,if_false,if_true,Sem.run_pure,f1,newRow,run_newObj];rfl;simp only[h0,if_false] at f1;simp only[Instr.buildSlice,Sem.run_bind,run_underlying hu w,Result.andThen_ok,run_sizeOf' hz,h0,show¬(len* sz> 2^ 24) by have:=h4.1;omega,if_false,hzr,Sem.run_pure,f1,newRow,run_newObj];rfl;have:=h4.2;unfold maxLen;omega;unfold aL;rw[heap_alloc_new'];simp[f2]
 | @append0 c x y T T' E sz a rd h1 h2 h3 h4 h5 h6 h7 h8=>
  obtain⟨b,hx⟩:=hev _ _ h6;obtain⟨xs,c',_,⟨a',hy⟩,_,hrun⟩:=h8.run (P:=P) mem (hev _ _ h7);obtain⟨⟨E',sz'⟩,h5⟩:=Option.isSome_iff_exists.1 h5;have h0:=hrun 0 (Nat.zero_le _) w rfl;simp only[List.length_nil] at hy;rw[hy] at h0;simp only[Nat.zero_mul,List.take_zero] at h0;refine .pure (y:= .slice b 0 0) mem ?_ ⟨b,rfl⟩;simp only[execOp,ho,resolve,h1,h2,Sem.run_bind,Sem.run_pure,Result.andThen_ok,invoke,builtin,List.map_toArray,List.map_cons,List.map_nil,hx,hy,h3,tJ h4 h5 _ h0]
 | @append_e c x y T T' E sz a rd es zs bs h1 h2 h3 h4 h5 h6 h7 h8 h9 h10 h11 h12 h13 h14 hz0=>
  obtain⟨b,hx⟩:=hev _ _ h6;obtain⟨xs,c',hflat,⟨a',hy⟩,_,hrun⟩:=h8.run (P:=P) mem (hev _ _ h7);obtain⟨⟨E',sz'⟩,h5⟩:=Option.isSome_iff_exists.1 h5;have hn:=hrun es.length (Nat.le_refl _);rw[hy,<-hflat.1,List.take_length] at hn;have hpos:0< es.length:=by cases es with|nil=>exact absurd rfl h9|cons e es=>simp
  have hold:∀w':World,w'.heap=w.heap->(Builtin.firstCells sz 0 (.slice b 0 0)).run P w'= .ok #[] w':=by
   intro w' _;cases b with
   |none=>rfl
   |some ad=>simp[Builtin.firstCells,loadCells,loadCellsFrom]
  obtain⟨nc,z,g1,g2,g3,hr⟩:=iR (w:=w) (n:=0) (m:=es.length) (c:=0) (c':=c') (a':=a') (base:=b) h4 h5 h10 h12 ω (by simpa using h13) (by simpa using h14) o.type hold hn;have hzs:z.size=sz:=by rw[<-Array.length_toList,g3];exact h11
  have hdr:=mem.ext ((Below.refl w.heap.size w).drew)
  have hal:=hdr.1.alloc (i:=id) (ty:=E) (s:=sz) (es:=es) (cs:= #[]++xs.toArray++Builtin.zeroCells z (nc- (0+es.length))) (iZ hz0) hid0 hid hidh (λk e he=>by
   obtain⟨ys,r1,r2,r3⟩:=hflat.2 k e he;refine⟨ys,hdr.2.vs r1,r2,λj v hj=>?_⟩;have:=r3 j v hj;have hlt:=(List.getElem?_eq_some_iff.1 this).1;rw[Array.getElem?_append_left (by simpa using hlt)];simpa using this) (by simp[hflat.1])
  refine .inl ⟨.slice (some ⟨w.heap.size,0,none⟩) es.length nc,_,_,.inl ?_,hal.1,⟨w.heap.size,nc,bn _ _ _,ψ,ω,by unfold maxLen;omega,(λk hk=>by cases hk),nc* sz,?_,ψ⟩,⟨⟨λbb N hN hm=>(hal.2.heap bb N hN hm),hal.2.m,hal.2.be,hal.2.sz⟩,hal.2.oth⟩,λj hj=>br _ _ hj⟩;simp only[execOp,ho,resolve,h1,h2,Sem.run_bind,Sem.run_pure,Result.andThen_ok,invoke,builtin,List.map_toArray,List.map_cons,List.map_nil,hx,hy,h3,hr,Nat.zero_add];unfold aL;have:(w.drew.alloc (.cells (#[]++xs.toArray++Builtin.zeroCells z (nc- (0+es.length))) E)).heap[w.heap.size]?=_:=heap_alloc_new' w.drew _;rw[this];simp only[Array.size_append,List.size_toArray,List.length_nil,hflat.1,gC,hzs,Option.some.injEq];rw[Nat.zero_add,<-Nat.add_mul];congr 1;omega
 | @append_l c x y T T' E sz a rd es zs bs i n cap B h1 h2 h3 h4 h5 h6 h7 h8 h9 h10 h11 h12 h13 h14 h15 h16 h17 h18 h19=>
  subst h8 h9 h10;have hxv:=hev _ _ h6
  have hsrcx:SrcOf hp B.sz (.lsl i 0 B.es.length cap B.sz) B.es [i]:=by
   have:=SrcOf.lsl (s:=B.sz) (hp:=hp) (i:=i) (e:=0) (n:=B.es.length) (cap:=cap) h7 ω;simpa using this
  obtain⟨xs0,c,hflat0,⟨a0,hx⟩,_,hrun0⟩:=hsrcx.run (P:=P) mem hxv;obtain⟨b,c2,hb,hx2,hnc,hcm,hcap,N,hN,hcN⟩:=hxv;rw[hx] at hx2;simp only[Value.slice.injEq,true_and] at hx2;obtain⟨rfl,rfl⟩:=hx2;obtain⟨xs,c',hflat,⟨a',hy⟩,_,hrun⟩:=h14.run (P:=P) mem (hev _ _ h13);obtain⟨⟨E',sz'⟩,h5⟩:=Option.isSome_iff_exists.1 h5;have hn:=hrun es.length (Nat.le_refl _);rw[hy,<-hflat.1,List.take_length] at hn;have h7s:=du h7;have hne:i≠id:=λe=>by subst e;rw[hidh] at h7s;cases h7s.1
  simp only[Nat.zero_mul] at hx hcN;rw[Nat.zero_add] at hcN;by_cases hroom:B.es.length+es.length<=c;have hle:(B.es.length+es.length) * B.sz<=N:=Nat.le_trans (Nat.mul_le_mul_right _ hroom) hcN
  obtain⟨w',r1,r2,r3,r4⟩:=mem.storeEls (P:=P) (e:=B.es.length) (es':=B.es++es) h7s.2 h7s.1 hb hflat (hflat.one h12) hN hle (λq el hq=>by
   by_cases hql:q< B.es.length;rw[List.getElem?_append_left hql] at hq;exact .inr ⟨.inl hql,hq⟩;rw[List.getElem?_append_right ω] at hq;have:=(List.getElem?_eq_some_iff.1 hq).1;exact .inl ⟨ω,ω,hq⟩) (by simpa using hle)
  have hrn:=r2.rename (i:=i) (id:=id) (B:=⟨B.ty,B.sz,B.es++es⟩) (bn _ _ _) hb hid0 hid (by rw[br _ _ (λe=>hne e.symm)];exact hidh);rw[oW] at hrn;refine .inl ⟨.slice (some ⟨b,0,none⟩) (B.es.length+es.length) c,w',_,.inl ?_,hrn.1,⟨b,c,bn _ _ _,ψ,hroom,hcm,(λk hk=>by cases hk),N,r3.sz b N hN,by rw[Nat.zero_add];exact hcN⟩,r3.trans hrn.2 ω,λj hj=>br _ _ hj⟩;have hr:=lU (P:=P) (w:=w) (w':=w') (b:=b) (off:=0) (n:=B.es.length) (m:=es.length) (c:=c) (c':=c') (a':=a') (new:=xs.toArray) h4 h5 hroom o.type (hn w rfl) (by simpa using r1);simp only[execOp,ho,resolve,h1,h2,Sem.run_bind,Sem.run_pure,Result.andThen_ok,invoke,builtin,List.map_toArray,List.map_cons,List.map_nil,hx,hy,h3,hr];have hold:=hrun0 B.es.length (Nat.le_refl _);rw[hx,<-hflat0.1,List.take_length] at hold;obtain⟨nc,z,g1,g2,g3,hr⟩:=iR (w:=w) (n:=B.es.length) (m:=es.length) (c:=c) (c':=c') (a':=a') (base:=some ⟨b,0,none⟩) h4 h5 h15 h17 ω h18 h19 o.type hold hn;have hzs:z.size=B.sz:=by rw[<-Array.length_toList,g3];exact h16
  have hdr:=mem.ext ((Below.refl w.heap.size w).drew);have hboth:=(hflat.append hflat0).stab hdr.2.toStabC
  have hal:=hdr.1.alloc (i:=id) (ty:=B.ty) (s:=B.sz) (es:=B.es++es) (cs:=xs0.toArray++xs.toArray++Builtin.zeroCells z (nc- (B.es.length+es.length))) h7s.2 hid0 hid hidh (λk e he=>by
   obtain⟨ys,q1,q2,q3⟩:=hboth.2 k e he;refine⟨ys,q1,q2,λj v hj=>?_⟩;have h4:=q3 j v hj;have hlt:=(List.getElem?_eq_some_iff.1 h4).1;rw[Array.getElem?_append_left (by simpa using hlt)];simpa using h4) (by have:=hboth.1;simp at this⊢;omega)
  have hfg:=hal.1.forget (hp':=upd (upd hp i none) id (some ⟨B.ty,B.sz,B.es++es⟩)) (λj B' hj=>by
   by_cases hji:j=id;subst hji;rw[bn] at hj⊢;exact hj;rw[br _ _ hji] at hj⊢;by_cases hj2:j=i;subst hj2;rw[bn] at hj;cases hj;rw[br _ _ hj2] at hj;exact hj)
  refine .inl ⟨.slice (some ⟨w.heap.size,0,none⟩) (B.es.length+es.length) nc,_,_,.inl ?_,hfg.1,⟨w.heap.size,nc,bn _ _ _,ψ,ω,by unfold maxLen;omega,(λk hk=>by cases hk),nc* B.sz,?_,ψ⟩,(hdr.2.trans hal.2 (Nat.le_refl _)).trans hfg.2 ψ,λj hj=>br _ _ hj⟩;simp only[execOp,ho,resolve,h1,h2,Sem.run_bind,Sem.run_pure,Result.andThen_ok,invoke,builtin,List.map_toArray,List.map_cons,List.map_nil,hx,hy,h3,hr];unfold aL;have:(w.drew.alloc (.cells (xs0.toArray++xs.toArray++Builtin.zeroCells z (nc- (B.es.length+es.length))) B.ty)).heap[w.heap.size]?=_:=heap_alloc_new' w.drew _;rw[this];simp only[Array.size_append,List.size_toArray,hflat.1,hflat0.1,gC,hzs,Option.some.injEq];rw[<-Nat.add_mul,<-Nat.add_mul];congr 1;omega
 | @copy c x y T T' E sz a rd es i e n cap B h1 h2 h3 h4 h5 h6 h7 h8 h9 h10 h11=>
  subst h7;obtain⟨b,c2,hb,hx,hnc,hcm,hcap,N,hN,hcN⟩:=hev _ _ h5;obtain⟨xs,c',hflat,⟨a',hy⟩,_,hrun⟩:=h11.run (P:=P) mem (hev _ _ h10);have hkl:Nat.min es.length n<=es.length:=Nat.min_le_left _ _;have hkn:Nat.min es.length n<=n:=Nat.min_le_right _ _;have hn:=hrun (Nat.min es.length n) hkl w rfl;rw[hy] at hn;have hft:=hflat.take (Nat.min es.length n);have hlt:(es.take (Nat.min es.length n)).length=Nat.min es.length n:=by rw[List.length_take];omega
  rw[hlt] at hft;have hsl:(eR B.es e (es.take (Nat.min es.length n))).length=B.es.length:=cx _ _ _
  have hBN:B.es.length* B.sz<=N:=by
   obtain⟨b',cs,hb',hh,_,hsz⟩:=mem.cellsF h6;rw[hb] at hb';cases hb';have:cs.size=N:=by simpa[aL,hh] using hN
   omega
  obtain⟨w',r1,r2,r3,r4⟩:=mem.storeEls (P:=P) (e:=e) (es':=eR B.es e (es.take (Nat.min es.length n))) (du h6).2 (du h6).1 hb hft (λv hv=>hflat.one h9 v (List.mem_of_mem_take hv)) hN (by rw[hlt];exact Nat.le_trans (Nat.mul_le_mul_right _ ω) hBN) (λq el hq=>by
   rw[eF] at hq;split at hq
   ·rename_i hin
    split at hq;exact .inl ⟨hin.1,hin.2,hq⟩;cases hq
   ·rename_i hin
    exact .inr ⟨ω,hq⟩) (by rw[hsl];exact hBN)
  refine .inl ⟨.int .i64 (Nat.min es.length n),w',β,.inl ?_,r2,rfl,r3,λ_ _=>rfl⟩;have hr:=F4 (P:=P) (w:=w) (w':=w') (T':=T') (b:=b) (off:=e* B.sz) (n:=n) (m:=es.length) (c:=c2) (c':=c') (a':=a') h4 o.type hn r1;simp only[execOp,ho,resolve,h1,h2,Sem.run_bind,Sem.run_pure,Result.andThen_ok,invoke,builtin,List.map_toArray,List.map_cons,List.map_nil,hx,hy,h3,hr]
end
end
end Go.Abs
