/- Part Y11 of the proof. -/
import Derived.Test.YtjmkjicckobojaaGreatDoorY10
import Derived.Below
set_option linter.all false
namespace Go.Abs
open Go.RowKit
theorem XSpec.enterC {P:Program} {f:Nat} {fn:Func} {c:Code} {nx:Nat} {v:AV} {hp:Hp} {args:La} (hf:P.funcs[f]?=some fn) (hb:fn.body=some c) (hname:(fn.name== "runtime.NumGoroutine")=false) {rs:List ResultVar} (hrs:fn.results.toList=rs) {m:Nat} (hm:fn.ntmps=m) (hn:Nat.ble args.length m=true)
    {fr:Fr} (hfr:dA 0 args=fr) (h:AWp none P c (Fin P rs v) ⟨fr,hp,nx,m⟩):XSpec P f args hp nx v [] 1:=by
 subst hrs hm hfr;have hn:=r9 hn;refine⟨λxs w=>?_,λM w0 β vals hgh mem hfree hargs=>?_⟩;have hname':¬fn.name= "runtime.NumGoroutine" :=φ
 simp[callFunc,hf,hname',hb];refine(callsIn_wide (n:=0)).1 (callsIn_of_wp_marks (F:=Fence.wide) hf hb trivial ?_);have hlen:=hargs.length
 have hrel:jT M w0 ⟨dA 0 args,hp,nx,fn.ntmps⟩ {tmps:=vals.toArray++Array.replicate (fn.ntmps- vals.toArray.size) undef,defers:=[]} w0.w:=by
  refine⟨β,mem,φ,λt x hx=>?_,hfree,⟨[],rfl,E9,ψ⟩⟩;rw[cN hgh]
  have key:∀{as:La} {vs:List Value} {i t:Nat} {x:AV},RVs (MM M β (ap hp)) β w0.w as vs->look (dA i as) t=some x->i<=t/\∃y,vs[t- i]?=some y/\RV (MM M β (ap hp)) β w0.w x y:=by
   intro as
   induction as with
   |nil=>intro vs i t x _ h;cases h
   |cons a as ih=>
    rintro vs i t x ⟨y,ys,e,h1,h2⟩ h;subst e;simp only[dA] at h;rw[b8] at h;unfold upd at h;grind
  obtain⟨_,y,h1,h2⟩:=key hargs hx
  have hy:(vals.toArray++Array.replicate (fn.ntmps- vals.toArray.size) undef).getD t undef=y:=by
   have hlt:t< vals.length:=φ
   rw[oj,zr φ];grind
  grind
 refine wpIn_mono (h M w0 _ w0.w hrel) λx a' w' ⟨st',⟨β2,mem2,hsz,hfr,hfree2,Ds,hds,hnd,hD⟩,he,hres⟩=>?_;have e0:∀(M:Nat->Prop) (b:Bq),MM M b (ap [])=M:=λM b=>by funext c;simp[MM,ap,look]
 have hL:LeavesInM (FR none) 0 P fn a'.tmps (λx w'=> ∃y β',x= .returned y/\Mem M w0 β' (ap []) w'/\RV (MM M β' (ap [])) β' w' v y/\∀i,1<=i->β' i=none/\i≠0) a'.defers .returning w':=by
  rw[hds];exact iN hres (λy w'' h1 h2 _ _=>⟨y,λ_=>none,rfl,⟨h2.below,h2.m0,(λ_ _ _ h=>by cases h),(λh=>by cases h),(λ_ _ h=>by cases h),λ_ _ _ _ _ _ _ h=>by cases h⟩,by rw[e0];exact h1,λi hi=>⟨rfl,ω⟩⟩) Ds w' hnd hD mem2 (λt x hx=>by have:=hfr t x hx;rwa[cN hgh] at this)
 rcases he with rfl|rfl
 exact hL;exact hL
def mzX(sz TS TQ:Nat)(o:Lc)(L:List Lc)(ex:Hp):Hp:=ex++mzH sz TS TQ o L
def InX(m i:Nat):Prop:=(1<=i/\i< m+2)\/(35<=i/\i< 40)
theorem nJ{l:Hp}{t:Nat}:∀ex:Hp,(∀p∈ex,p.1≠t)->ap (ex++l) t=ap l t
 |[],_=>rfl
 |(k,x)::ex,h=>by
  rw[LJ,dw];unfold upd;rw[if_neg λe=>h (k,x) (mu ..) e.symm];exact nJ ex λp hp=>h p (lQ _ hp)
section
variable {sz:Nat}{fr fr':Fr}{hp ex:Hp}{nx N TS TQ:Nat}{o o':Lc}{L:List Lc}{e:Lc}{k:Nat}
theorem mzX_row(hid:∀p∈ex,35<=p.1/\p.1< 40)(hk:k<=30)(h:L[k]?=some e):ap (mzX sz TS TQ o L ex) (k+2)=some ⟨TQ,sz,e⟩:=by
 unfold mzX;rw[nJ ex λp hp e=>by grind];exact dq h
theorem mzX_out(hid:∀p∈ex,35<=p.1/\p.1< 40):ap (mzX sz TS TQ o L ex) 1=some ⟨TS,1,o⟩:=by
 unfold mzX;rw[nJ ex λp hp e=>by grind];rfl
theorem SEntT.mzx (s:Nat->Nat) (hL:L.length<=30) (s0:s 0=0) (hinj:∀i j,InX L.length i->InX L.length j->s i=s j->i=j)
    (h1:ap hp (s 1)=some ⟨TS,1,o'⟩) (ho:o'.length=o.length) (hr:∀i e,L[i]?=some e->ap hp (s (i+2))=some ⟨TQ,sz,e⟩/\∀x∈e,∀c∈x,Closed c) (hid:∀p∈ex,35<=p.1/\p.1< 40)
    (hex:∀i B,(i,some B)∈ex->∃B0,ap hp (s i)=some B0/\B0.ty=B.ty/\B0.sz=B.sz/\B0.es.length=B.es.length)
    (hO:Shr ⟨40,s⟩ (ap hp) (ap (mzX sz TS TQ o L ex))->CvLL ⟨40,s⟩ (ap hp) (ap (mzX sz TS TQ o L ex)) o' o)
    (hE:Shr ⟨40,s⟩ (ap hp) (ap (mzX sz TS TQ o L ex))->∀i B B0,(i,some B)∈ex->ap hp (s i)=some B0->CvLL ⟨40,s⟩ (ap hp) (ap (mzX sz TS TQ o L ex)) B0.es B.es)
    (hF:Shr ⟨40,s⟩ (ap hp) (ap (mzX sz TS TQ o L ex))->CvF ⟨40,s⟩ (ap hp) (ap (mzX sz TS TQ o L ex)) fr fr'):SEntT ⟨fr,hp,nx,N⟩ ⟨fr',mzX sz TS TQ o L ex,40,N⟩:=by
 have d:∀i B,(i,some B)∈mzX sz TS TQ o L ex->(i,some B)∈ex\/(i=1/\B=⟨TS,1,o⟩)\/∃k e,L[k]?=some e/\i=k+2/\B=⟨TQ,sz,e⟩:=λi B h=>by
  rcases n7.1 h with h|h
  exact .inl h;rcases pY.1 h with h|h
  cases h;exact .inr (.inl ⟨rfl,rfl⟩);obtain⟨k,e,f,t,r⟩:=qE L 2 i B h;grind
 have l:Shr ⟨40,s⟩ (ap hp) (ap (mzX sz TS TQ o L ex)):=⟨λi B h=>by
  rcases d i B (iA h) with b|⟨rfl,rfl⟩|⟨k,e,f,rfl,rfl⟩
  obtain⟨B0,b1,b2,m,n⟩:=hex i B b;exact⟨(hid _ b).2,B0,b1,b2,m,n⟩;exact⟨(show 1< 40 by decide),_,h1,rfl,rfl,ho⟩;grind⟩
 refine SEntT.intro (st:=⟨fr,hp,nx,N⟩) (st':=⟨fr',mzX sz TS TQ o L ex,40,N⟩) ⟨40,s⟩ rfl (show 0< 40 by decide) s0 (uN _ λi j a q e=>?_) rfl (hF l) (xm _ λi B h=>?_)
 have g:∀i,i∈(mzX sz TS TQ o L ex).map (·.1)->InX L.length i:=λi a=>by
  unfold mzX at a;rw[N7,n7] at a;rcases a with a|a
  obtain⟨p,hp,rfl⟩:=sd.1 a;exact .inr (hid p hp);rcases pY.1 a with h|h
  have h:i=1:=h;exact .inl ⟨ω,ω⟩;have:=uG L 2 i h;exact .inl ⟨ω,ω⟩
 exact hinj i j (g i a) (g j q) e;rcases d i B h with b|⟨rfl,rfl⟩|⟨k,e,f,rfl,rfl⟩
 obtain⟨B0,b1,b2,m,n⟩:=hex i B b;exact⟨(hid _ b).2,B0,b1,b2,m,hE l i B B0 b b1⟩;exact⟨(show 1< 40 by decide),_,h1,rfl,rfl,hO l⟩;exact⟨φ,_,(hr k e f).1,rfl,rfl,bv l (hr k e f).2⟩
end
theorem FSpec.xs{P:Program}{f:Nat}{args:La}{r:AV}(h:FSpec P f args r)(hr:Closed r):XSpec P f args [] 1 r [] 1:=by
 have e0:∀(M:Nat->Prop) (b:Bq),MM M b (ap [])=M:=λM b=>by funext c;simp[MM,ap,look]
 refine⟨h.enters,λM j β vals l d g a=>?_⟩;rw[e0] at a;refine(h.calls M j.w vals ⟨λb hb=>j.lt b (d.m0 b hb).1,λhb=>(d.m0 GT hb).2 rfl,d.tab⟩ (dG h.cl a)).mono ?_;rintro e n ⟨y,rfl,k,hb⟩;have i:=d.ext hb;refine⟨y,β,rfl,i.1,?_,g⟩;rw[e0];exact pm hr k (λ_ _ _ _=>rfl) (λb _ _ m=>m) λ_ _ h=>h
theorem look_mem':∀{fr:Fr} {t:Nat} {x:AV},look fr t=some x->(t,x)∈fr
 |[],_,_,h=>by cases h
 |(s,y)::fr,t,x,h=>by
  rw[b8] at h;unfold upd at h;split at h
  ·rename_i e;cases h;subst e;exact mu ..
  exact lQ _ (look_mem' h)
theorem keepF{fr2 fr3:Fr}(h:∀p∈fr3,look fr2 p.1=some p.2/\Closed p.2):∀t x,look fr3 t=some x->look fr2 t=some x/\Closed x:=λt x a=>h (t,x) (look_mem' a)
theorem loF{fr3:Fr}(h:fr3.all (λp=>Nat.blt p.1 1000)=true):∀t x,look fr3 t=some x->t< 1000:=λt x a=>r9 (pZ.1 h _ (look_mem' a))
theorem SEnt.keep{fr fr':Fr}{hp:Hp}{nx nx' n:Nat}(hk:∀p∈fr',look fr p.1=some p.2)(hn:nx<=nx'):SEnt ⟨fr,hp,nx,n⟩ ⟨fr',hp,nx',n⟩:=λM j a w ⟨β,d,f,c,b,e⟩=>
 ⟨β,d,f,λt x h=>c t x (hk (t,x) (look_mem' h)),λi g=>b i (fo hn g),e⟩
theorem u9{fr:Fr}:∀p∈([]:Fr),look fr p.1=some p.2:=λp hp=>by cases hp
theorem all_cons{fr fr':Fr}{t:Nat}{x:AV}(h1:look fr t=some x)(h2:∀p∈fr',look fr p.1=some p.2):∀p∈(t,x)::fr',look fr p.1=some p.2:=λp hp=>by
 rcases pY.1 hp with rfl|hp
 exact h1;exact h2 p hp
section
variable {ev:Operand->Option AV}{y0:Value}{v:AV}{xs:List Operand}{as asB:La}
def ArgsV(ev:Operand->Option AV)(y0:Value)(v:AV):List Operand->La->Prop
 |[],as=>as=[]
 |x::xs,as=> ∃a as',as=a::as'/\((ev x=some (.v y0)/\a=v)\/(ev x=some a/\Closed a))/\ArgsV ev y0 v xs as'
theorem ArgsV.nil:ArgsV ev y0 v [] []:=rfl
theorem ArgsV.own{x:Operand}(h1:ev x=some (.v y0))(h:ArgsV ev y0 v xs as):ArgsV ev y0 v (x::xs) (v::as):=⟨_,_,rfl,.inl ⟨h1,rfl⟩,h⟩
theorem ArgsV.clo{a:AV}{x:Operand}(h1:ev x=some a)(h2:Closed a)(h:ArgsV ev y0 v xs as):ArgsV ev y0 v (x::xs) (a::as):=⟨_,_,rfl,.inr ⟨h1,h2⟩,h⟩
theorem ArgsV.congr{ev':Operand->Option AV}:∀{xs:List Operand} {as:La},(∀x∈xs,ev' x=ev x)->ArgsV ev y0 v xs as->ArgsV ev' y0 v xs as
 |[],_,_,h=>h
 |x::xs,_,he,⟨a,as',e,h1,h2⟩=>by
  have e0:=he x (mu ..);exact⟨a,as',e,h1.imp (fun⟨c,b⟩=>⟨e0.trans c,b⟩) (fun⟨c,b⟩=>⟨e0.trans c,b⟩),ArgsV.congr (λz d=>he z (lQ _ d)) h2⟩
theorem ArgsV.rvs{M MB:Nat->Prop}{β βS:Bq}{w:World}{ρ:Operand->Value}(hv:RV MB βS w v y0)(hm:∀b N,aY w b=some N->MB b->M b):
    ∀{xs:List Operand} {as:La},(∀x∈xs,∀a,ev x=some a->RV M β w a (ρ x))->ArgsV ev y0 v xs as->RVs MB βS w as (xs.map ρ)
 |[],_,_,h=>by cases h;rfl
 |x::xs,_,he,⟨a,as',e,h1,h2⟩=>by
  subst e;refine⟨_,_,rfl,?_,ArgsV.rvs hv hm (λz i=>he z (lQ _ i)) h2⟩;rcases h1 with⟨c,rfl⟩|⟨c,f⟩
  have g:=he x (mu ..) _ c;have d:ρ x=y0:=g;rw[d];exact hv;exact pm f (he x (mu ..) a c) (λ_ _ _ _=>rfl) hm λ_ _ h=>h
structure PkgV (M00:Nat->Prop)(w00:Base)(hpA:Hp)(nxA:Nat)(v:AV)(y0:Value)(βS:Bq)(M0:Nat->Prop)(w0:Base)(M:Nat->Prop)(w:World):Prop where
 m:∀b,M0 b↔M00 b\/∃i s,βS i=some (b,s)
 k:∀b,w0.K b↔w00.K b\/∃i s,βS i=some (b,s)
 rng:∀i b s,βS i=some (b,s)->¬w00.K b/\b< w.heap.size
 live:∀i x,βS i=some x->(ap hpA i).isSome=true
 blk:∀i B,ap hpA i=some B->∃b,βS i=some (b,B.sz)/\BlkAt M βS w b B
 inj:∀i j B B' b s s',ap hpA i=some B->ap hpA j=some B'->βS i=some (b,s)->βS j=some (b,s')->i=j
 free:∀i,nxA<=i->βS i=none/\i≠0
 zero:(ap hpA 0).isSome=true->False
 val:RV M βS w v y0
structure XQ (jB:Nat)(y0:Value)(v:AV)(hpA:Hp)(nxA:Nat)(M00:Nat->Prop)(w00:Base)(H:Ln->Nat->Option ABlk)(σ:Ln)(M0:Nat->Prop)(w0:Base)(β:Bq)(w:World):Prop where
 kept:w00.Kept w
 m00:∀b,M00 b->w00.K b/\b≠GT
 pin:w0.pin=w00.pin
 no:jB∈σ->(∀b,M0 b↔M00 b)/\(∀b,w0.K b↔w00.K b)
 yes:jB∉σ->∃βS,PkgV M00 w00 hpA nxA v y0 βS M0 w0 (MM M0 β (H σ)) w
section
variable {P:Program}{jB j id nxA:Nat}{v:AV}{y0:Value}{hpA:Hp}{M00 M0:Nat->Prop}{w00 w0:Base}{H:Ln->Nat->Option ABlk}{σ:Ln}{β β':Bq}{a:Act}{w w':World}{u:Upd}{y:Value}
theorem XQ.sub(hX:XQ jB y0 v hpA nxA M00 w00 H σ M0 w0 β w):(∀b,w00.K b->w0.K b)/\∀b,M00 b->M0 b:=by
 by_cases h2:jB∈σ;obtain⟨a,c⟩:=hX.no h2;exact⟨λb hb=>(c b).2 hb,λb hb=>(a b).2 hb⟩;obtain⟨d,p⟩:=hX.yes h2;exact⟨λb hb=>(p.k b).2 (.inl hb),λb hb=>(p.m b).2 (.inl hb)⟩
theorem XQ.ordinary (h2:j≠jB) (hH:H (σ++[j])=iF (H σ) u.blk)
    (hX:XQ jB y0 v hpA nxA M00 w00 H σ M0 w0 β w) (mem:Mem M0 w0 β (H σ) w) (haf:nj M0 w0 β (H σ) w id u y w' β'):XQ jB y0 v hpA nxA M00 w00 H (σ++[j]) M0 w0 β' w':=by
 obtain⟨d,_,st,_⟩:=haf;have g:jB∈σ++[j]↔jB∈σ:=⟨λh=>jG h (Nz h2),λh=>tE _ h⟩;have f:∀b,w0.K b->w'.heap[b]?=w.heap[b]?:=λb hb=>(d.below.block b hb).trans (mem.below.block b hb).symm
 refine⟨⟨d.below.os.trans (mem.below.os.symm.trans hX.kept.os),d.below.tape.trans (mem.below.tape.symm.trans hX.kept.tape),d.below.output.trans (mem.below.output.symm.trans hX.kept.output),fo hX.kept.size st.size,λb hb=>(f b (hX.sub.1 b hb)).trans (hX.kept.block b hb),λb k hb=>st.sz b k (hX.kept.sizes b k hb)⟩,hX.m00,hX.pin,
  λh=>hX.no (g.1 h),λl=>?_⟩
 obtain⟨e,p⟩:=hX.yes λx=>l (g.2 x);have a:StabC (MM M0 β (H σ)) (MM M0 β' (H (σ++[j]))) e e w w':=⟨st.heap,by rw[hH];exact st.m,λ_ _ h=>h,st.sz⟩;refine⟨e,p.m,p.k,λi b s c=>⟨(p.rng i b s c).1,ns (p.rng i b s c).2 st.size⟩,p.live,λi B c=>?_,p.inj,p.free,p.zero,a.all p.val⟩;obtain⟨b,e1,e2⟩:=p.blk i B c;exact⟨b,e1,e2.stab a (f b ((p.k b).2 (.inr ⟨i,_,e1⟩)))⟩
theorem XQ.use {g nxB:Nat} {r:AV} (hX:XQ jB y0 v hpA nxA M00 w00 H σ M0 w0 β w) (mem:Mem M0 w0 β (H σ) w) (hj:jB∉σ) (hH:H (σ++[jB])=H σ)
    (X2:XSpec P g asB hpA nxA r [] nxB) (hr:Closed r) (hev:∀x∈xs,∀z,ev x=some z->RV (MM M0 β (H σ)) β w z (a.eval x)) (hargs:ArgsV ev y0 v xs as) (hco:as.map coe=asB):
    Calls P g (xs.map a.eval).toArray w λe w'=> ∃y M0' w0' β',e= .returned y/\Mem M0' w0' β' (H σ) w'/\w0'.gh=w0.gh/\RV (MM M0' β' (H σ)) β' w' r y/\StabC (MM M0 β (H σ)) (MM M0' β' (H σ)) β β' w w'/\(∀i,i≠id->β' i=β i)/\(∀ds,DefOK ds w0 w->DefOK ds w0' w')/\
     XQ jB y0 v hpA nxA M00 w00 H (σ++[jB]) M0' w0' β' w':=by
 have e0:∀(M:Nat->Prop) (b:Bq),MM M b (ap [])=M:=λM b=>by funext c;simp[MM,ap,look]
 obtain⟨j,p⟩:=hX.yes hj
 let S:Nat->Prop:=λb=> ∃i s,j i=some (b,s)
 let MB:Nat->Prop:=λb=>MM M0 β (H σ) b/\¬S b
 have n:∀b,S b->M0 b:=λb hb=>(p.m b).2 (.inr hb);have t:∀b,S b->w0.K b:=λb hb=>(p.k b).2 (.inr hb);have u:¬S GT:=λh=>(mem.m0 GT (n _ h)).2 rfl
 let wc:Base:=⟨w,λb=>b< w.heap.size/\¬S b,λ_ h=>h.1,none,λ_=>undef,⟨mem.tab.lt,u⟩,mem.tab⟩
 have T:∀b,MM MB j (ap hpA) b->MM M0 β (H σ) b:=by
  rintro b (hb|⟨i,B,s,_,d⟩);exact hb.1;exact .inl (n b ⟨i,s,d⟩)
 have U:StabC (MM M0 β (H σ)) (MM MB j (ap hpA)) j j w w:=⟨λ_ _ _ _=>rfl,λb _ _ h=>T b h,λ_ _ h=>h,λ_ _ h=>h⟩
 have E:Mem MB wc j (ap hpA) w:=⟨⟨rfl,rfl,rfl,ir _,λ_ _=>rfl,λ_ _ h=>h⟩,λb hb=>⟨⟨mem.lt hb.1,hb.2⟩,λe=>by
  rcases hb.1 with hb|⟨i,B,s,_,d⟩
  exact(mem.m0 b hb).2 e;rw[e] at d;exact mem.gtn i s d⟩,λi b s d=>⟨λA=>A.2 ⟨i,s,d⟩,(p.rng i b s d).2⟩,λY=>(p.zero Y).elim,λi B d=>by
  obtain⟨b,e1,e2⟩:=p.blk i B d;exact⟨b,e1,e2.stab U rfl⟩,p.inj⟩
 have hv:RVs (MM MB j (ap hpA)) j w as (xs.map a.eval):=ArgsV.rvs (M:=MM M0 β (H σ)) (β:=β) (U.all p.val) (λb _ _ h=>T b h) hev hargs;refine(X2.calls MB wc j _ rfl E p.free (hco▸gF hv)).mono ?_;rintro e w' ⟨y,βB,rfl,o,V,_⟩;rw[e0] at V;have f:∀b,b< w.heap.size->¬S b->w'.heap[b]?=w.heap[b]?:=λb R L=>o.below.block b ⟨R,L⟩;have q:w.heap.size<=w'.heap.size:=o.below.size;have C:∀b,w00.K b->¬S b:=λb hb ⟨i,s,d⟩=>(p.rng i b s d).1 hb;have F:∀b,w00.K b->b< w.heap.size:=λb hb=>ns (w00.lt b hb) hX.kept.size;have l:∀i b s,β i=some (b,s)->¬S b:=λi b s d h=>(mem.rng i b s d).1 (t b h)
 let w0':Base:=⟨w',w00.K,λb hb=>ns (F b hb) q,w0.pin,w0.gh,w00.kt,mem.tab.congr (f GT mem.tab.lt u)⟩
 have G:∀b,MM M00 β (H σ) b->MM M0 β (H σ) b/\¬S b:=by
  rintro b (hb|⟨i,B,s,R,L⟩);exact⟨.inl ((p.m b).2 (.inl hb)),C b (hX.m00 b hb).1⟩;exact⟨.inr ⟨i,B,s,R,L⟩,l i b s L⟩
 have st:StabC (MM M0 β (H σ)) (MM M00 β (H σ)) β β w w':=⟨λb N hb J=>f b (cy hb) λh=>J (.inl (n b h)),λb N _ J=>(G b J).1,λ_ _ h=>h,o.below.sizes⟩;refine⟨y,M00,w0',β,rfl,⟨⟨rfl,rfl,rfl,ir _,λ_ _=>rfl,λ_ _ h=>h⟩,hX.m00,λi b s d=>⟨λA=>(mem.rng i b s d).1 ((p.k b).2 (.inl A)),ns (mem.rng i b s d).2 q⟩,mem.pin,λi B d=>?_,mem.inj⟩,rfl,?_,st,λ_ _=>rfl,λds Q=>?_,?_⟩;obtain⟨b,e1,e2⟩:=mem.blk i B d;exact⟨b,e1,e2.stab st (f b (mem.rng i b _ e1).2 (l i b _ e1))⟩;exact pm hr V (λ_ _ _ _=>rfl) (λb _ _ J=>G b J) λ_ _ h=>h;obtain⟨Z,d1,d2,W⟩:=Q;refine⟨Z,d1,d2,λD X=>?_⟩;obtain⟨e1,e2⟩:=W D X;have O:=(sk.1 e1).1;refine⟨by rw[f D O λh=>e2 (t D h)];exact e1,λA=>e2 ((p.k D).2 (.inl A))⟩;refine⟨⟨o.below.os.trans hX.kept.os,o.below.tape.trans hX.kept.tape,o.below.output.trans hX.kept.output,fo hX.kept.size q,λb hb=>(f b (F b hb) (C b hb)).trans (hX.kept.block b hb),λb k hb=>o.below.sizes b k (hX.kept.sizes b k hb)⟩,hX.m00,hX.pin,λ_=>⟨λ_=>No,λ_=>No⟩,λh=>absurd ψ h⟩
end
def spQ(jB:Nat)(r:AV)(j:Nat):Option AV:=cond (Nat.beq j jB) (some r) none
def kB(jB:Nat)(y0:Value)(v:AV)(gB:Nat)(asB:La)(fB:Operand)(xB:List Operand)(j:Nat)(fr:Nat->Option AV):Prop:=
 j=jB->evF fr fB=some (.clos gB [] [])/\∃as,ArgsV (evF fr) y0 v xB as/\as.map coe=asB
theorem kB.b{jB:Nat}{gB:Nat}{fB:Operand}{xB:List Operand}{fr:Nat->Option AV}(h1:evF fr fB=some (.clos gB [] []))(h2:ArgsV (evF fr) y0 v xB as)(h4:as.map coe=asB):kB jB y0 v gB asB fB xB jB fr:=
 λ_=>⟨h1,as,h2,h4⟩
theorem AWp.regB {P:Program} {ρ:Option Nat} {Q:Exit->AState->Prop} {ops:Array Oper} {rid nx0 n:Nat} {fr0 fr:Fr} {hp0:Hp} (jB t0:Nat) {r:AV} {hpA:Hp} {nxA nxB gB:Nat} {oB:Oper} {cB:Call} {fB:Operand} (hm:P.follows .mixedOrders=true)
    (hs:SEntT ⟨fr0,hp0,nx0,n⟩ ⟨(t0,v)::fr,hpA,nxA,n⟩) (hcl:∀t x,look fr t=some x->Closed x) (hz0:(ap hpA 0).isSome=false)
    (XB:XSpec P gB asB hpA nxA r [] nxB) (hr:Closed r) (hoB:ops[jB]?=some oB) (hopB:oB.op= .call cB) (hgB:oB.guard=none) (hfB:cB.callee= .value fB)
    (h:∀y0:Value,AY P ops (spQ jB r) (kB jB y0 v gB asB fB cB.args.toList) 1 n 0 ops.toList ((t0,.v y0)::fr) [] λfps f h=>lR ops fps=true/\Q .normal ⟨f,h,1+ops.size,n⟩):AWp ρ P (.region rid ops true) Q ⟨fr0,hp0,nx0,n⟩:=by
 have e0:∀(M:Nat->Prop) (b:Bq),MM M b (ap [])=M:=λM b=>by funext c;simp[MM,ap,look]
 rintro F d a w hr0;obtain⟨G,g,hn0',O,L,V,C⟩:=hs F d a w hr0;obtain⟨us,U,hrun,H,hq⟩:=h (fj d a t0);obtain⟨h1,h2,h3,h4⟩:=nv ops.toList 0 _ U us [] (look ((t0,.v (fj d a t0))::fr)) (ap []) hrun rfl (λi o h=>by simpa using h) rfl rfl;simp only[Nf,vY,zK] at h1 h2 h3
 have W:yM ops=true:=by
  unfold lR at H;simp only[sj] at H;exact H.1
 have hB1:jB< ops.size:=(sk.1 hoB).1
 have hHs:∀(j:Nat) (u:Upd) (rd:Ln) (σ:Ln),us[j]?=some (u,rd)->stH us (ap []) (σ++[j])=iF (stH us (ap []) σ) u.blk:=λj u rd σ hu=>by
  rw[ij,show blk? us j=u.blk by simp[blk?,hu]]
 refine BC (us:=us) (n:=n) (nx:=1) (fr0:=look ((t0,.v (fj d a t0))::fr)) (hp0:=ap []) (X:=λσ R w0 β a' w=>XQ jB (fj d a t0) v hpA nxA F d (λσ=>stH us (ap []) σ) σ R w0 β w) (gh:=d.gh) hm (MI W) (sw H) (λj o ho=>?_) (λR w0 β q=>?_) ?_ (λσ a' w' nd hall hlt hF=>?_);obtain⟨u,rd,hu,s1,s2,hdst⟩:=h1 j o (by simpa using ho);refine⟨u,rd,hu,hdst,?_⟩;by_cases hjB:j=jB;subst hjB;rw[hoB] at ho;cases ho;obtain⟨rfl,rfl,hC⟩:=s1 r (by unfold spQ;rw[Of];rfl);obtain⟨c1,as,c2,c4⟩:=hC rfl;refine .inr ⟨hgB,(λc hc=>by rw[hopB] at hc;cases hc),λσ R w0 β a w hj hr' hag hn A J hid hid0 q=>?_⟩;have hcg:∀x∈oB.op.operands,evF (stF ops us (look ((t0,.v (fj d _ t0))::fr)) σ) x=evF (stF ops us (look ((t0,.v (fj d _ t0))::fr)) (List.range j)) x:=λx E=>s8 λt e=>hag t (by subst e;exact tE _ (pg (Eh.2 E)));have o1:fB∈oB.op.operands:=by rw[hopB];simp[Op.operands,Call.operands,hfB]
 have o2:∀x∈cB.args.toList,x∈oB.op.operands:=λx E=>by rw[hopB];simp[Op.operands,Call.operands,hfB];exact .inr (by simpa using E)
 have d1:=(hcg fB o1).trans c1;obtain⟨xs,ys,E,hx1,hx2⟩:=fG J fB _ d1;have hxs:xs= #[]:=AD hx1;have hys:ys= #[]:=AD hx2;subst hxs hys;refine⟨gB,_,fP hopB hfB E rfl XB.enters,?_⟩;exact q.use A hj (hHs _ _ _ σ hu) XB hr (λx _ z hz=>fG J x z hz) (ArgsV.congr (λx E=>hcg x (o2 x E)) c2) c4
 have hs':spQ jB r j=none:=by
  unfold spQ;rw[show Nat.beq j jB=false by cases hb:Nat.beq j jB with|false=>rfl|true=>exact absurd (wg hb) hjB];rfl
 exact .inl ⟨s2 hs',λσ R w0 β a w y w' β' hj hn q A haf=>q.ordinary hjB (hHs j u rd σ hu) A haf⟩;refine⟨⟨q.kept.os,q.kept.tape,q.kept.output,q.kept.size,q.kept.block,q.kept.sizes⟩,q.m00,q.pin,q.no,λh=>?_⟩;obtain⟨βS,p⟩:=q.yes h;have st2:StabC (MM R β (stH us (ap []) [])) (MM R β (stH us (ap []) [])) βS βS w w.drew:=⟨λ_ _ _ _=>rfl,λ_ _ _ h=>h,λ_ _ h=>h,λ_ _ h=>h⟩
 exact⟨βS,p.m,p.k,p.rng,p.live,λi B l=>by
  obtain⟨b,e1,e2⟩:=p.blk i B l;exact⟨b,e1,e2.stab st2 rfl⟩,p.inj,p.free,p.zero,st2.all p.val⟩
 have hjn:∀b,(∃i s,G i=some (b,s))->¬d.K b:=λb ⟨i,s,l⟩=>(g.rng i b s l).1;have hgt:¬(∃i s,G i=some (GT,s)):=fun⟨i,s,l⟩=>g.gtn i s l
 let M0':Nat->Prop:=λb=>F b\/∃i s,G i=some (b,s)
 have hK:∀b,d.K b->b< w.heap.size:=λb hb=>ns (d.lt b hb) g.below.size
 let w0':Base:=⟨w,λb=>d.K b\/∃i s,G i=some (b,s),λb hb=>by
  rcases hb with hb|⟨i,s,l⟩
  exact hK b hb;exact(g.rng i b s l).2,d.pin,d.gh,.inl d.kt,g.tab⟩
 have hlv:∀b,M0' b->MM F G (ap hpA) b:=by
  rintro b (hb|⟨i,s,l⟩);exact .inl hb;obtain⟨B,hB⟩:=xa.1 (C i _ l);exact .inr ⟨i,B,s,hB,l⟩
 have st0:StabC (MM F G (ap hpA)) M0' G G w w:=⟨λ_ _ _ _=>rfl,λb _ _ h=>hlv b h,λ_ _ h=>h,λ_ _ h=>h⟩;have hSt:stH us (ap []) []=ap []:=rfl;refine⟨M0',w0',λ_=>none,⟨⟨rfl,rfl,rfl,ir _,λ_ _=>rfl,λ_ _ h=>h⟩,λb hb=>⟨hb.imp (λh=>(g.m0 b h).1) λh=>h,λe=>?_⟩,(λ_ _ _ h=>by cases h),(λh=>by cases h),(λ_ _ h=>by cases h),λ_ _ _ _ _ _ _ h=>by cases h⟩,rfl,hn0',λt x E=>?_,λi l=>⟨rfl,ω⟩,?_,?_⟩;rcases hb with hb|⟨i,s,l⟩
 exact(g.m0 b hb).2 e;rw[e] at l;exact hgt ⟨i,s,l⟩;rw[e0,show fj w0' a t=fj d a t from p9 rfl a t];rw[b8] at E;unfold upd at E;split at E
 ·rename_i e;subst e;cases E;exact(rfl:fj d a t=fj d a t)
 ·rename_i e
  have h5:=O t x (by rw[b8];unfold upd;rw[if_neg e];exact E);exact pm (hcl t x E) h5 (λ_ _ _ _=>rfl) (λb _ _ hm=>hlv b hm) λ_ _ h=>h
 obtain⟨Ds,d1,d2,Z⟩:=V;refine⟨Ds,d1,d2,λD Y=>⟨(Z D Y).1,λT=>?_⟩⟩;rcases T with T|⟨i,s,l⟩
 exact(Z D Y).2 T;obtain⟨B,hB⟩:=xa.1 (C i _ l);obtain⟨b,r1,r2⟩:=g.blk i B hB;rw[l] at r1;cases r1;obtain⟨N,hN⟩:=r2.size;simp[aY,(Z D Y).1] at hN;refine⟨g.below,g.m0,rfl,(λh=>by cases h),λ_=>⟨G,λ_=>No,λ_=>No,λi b s l=>g.rng i b s l,C,λi B l=>?_,g.inj,L,(λh=>by rw[hz0] at h;cases h),?_⟩⟩;obtain⟨b,e1,e2⟩:=g.blk i B l;refine⟨b,e1,?_⟩;show BlkAt (MM M0' (λ_=>none) (ap [])) G w b B;rw[e0];exact e2.stab st0 rfl;show RV (MM M0' (λ_=>none) (ap [])) G w v (fj d a t0);rw[e0];exact st0.all (O t0 v (by rw[b8];exact bq _ _ _));obtain⟨R,w0,β,A,hgh,hn,J,S,hdef,q⟩:=hF;obtain⟨n1,n2⟩:=q.no (hall jB hB1);have hM0:R=F:=funext λb=>propext (n1 b);subst hM0;rw[<-h2,<-h3] at *
 refine⟨⟨U.fr,U.hp,1+ops.size,n⟩,⟨β,⟨q.kept,q.m00,λi b s l=>⟨λT=>(A.rng i b s l).1 ((n2 b).2 T),(A.rng i b s l).2⟩,λhz=>(A.pin hz).trans q.pin,A.blk,A.inj⟩,hn,λt x E=>by rw[<-p9 hgh];exact J t x E,S,?_⟩,hq⟩;obtain⟨Ds,d1,d2,Z⟩:=hdef;exact⟨Ds,d1,d2,λD Y=>⟨(Z D Y).1,λT=>(Z D Y).2 ((n2 D).2 T)⟩⟩
end
def FinX0(hp':Hp)(nx' n:Nat)(x:Exit)(st:AState):Prop:=(x= .normal\/x= .ret)/\SEnt st ⟨[],hp',nx',n⟩
theorem FinX0.of{fr:Fr}{hp hp':Hp}{nx nx' n:Nat}(h:SEnt ⟨fr,hp,nx,n⟩ ⟨[],hp',nx',n⟩):FinX0 hp' nx' n .ret ⟨fr,hp,nx,n⟩:=⟨.inr rfl,h⟩
theorem FinE.none{P:Program}{fr:Fr}{hp:Hp}{nx n ty sz:Nat}{E' es:Lc}{x:Exit}(hx:x= .normal\/x= .ret)(hb:ap hp 0=some ⟨ty,sz,es⟩)(he:es=E'):FinE P [] ty sz E' (.tuple #[]) x ⟨fr,hp,nx,n⟩:=by
 refine⟨hx,⟨[],rfl,λc d β w y _ h=>?_⟩,by rw[<-he];exact hb⟩;obtain⟨a,e,b⟩:=h;subst e;have:a= #[]:=AD b;subst this;rfl
section
variable {f g:Nat}{P:Program}{r:AV}
def AWpC(C:(Nat->Prop)->Base->Prop)(ρ:Option Nat)(P:Program)(c:Code)(Q:Exit->AState->Prop)(st:AState):Prop:=
 ∀M0 w0 a w,C M0 w0->jT M0 w0 st a w->c.wpIn (FR ρ) 0 P (λe a' w'=> ∃st',jT M0 w0 st' a' w'/\Q e st') a w
section
variable {C:(Nat->Prop)->Base->Prop}{ρ:Option Nat}{P:Program}{Q:Exit->AState->Prop}{st:AState}{x y c:Code}
theorem AWp.toC(h:AWp ρ P c Q st):AWpC C ρ P c Q st:=λb e a w _ d=>h b e a w d
theorem AWpC.seq(h:AWpC C ρ P x (jF (AWpC C ρ P y Q) Q) st):AWpC C ρ P (.seq x y) Q st:=λb f a w g k=>
 wpIn_seq (wpIn_mono (h b f a w g k) λe j i ⟨s,d,c⟩=>by
  cases e with
  |normal=>exact c b f j i g d
  |_=>exact⟨s,d,c⟩)
theorem AWpC.cutT{α:Type}(S:α->AState)(Post:α->Prop)(h:AWpC C ρ P x (L5 S Post Q) st)(h2:∀a,Post a->AWpC C ρ P y Q (S a)):AWpC C ρ P x (jF (AWpC C ρ P y Q) Q) st:=λi f a w t o=>
 wpIn_mono (h i f a w t o) λe m k ⟨s,g,d⟩=>by
  cases e with
  |normal=>obtain⟨z,n,p⟩:=d;exact⟨_,p i f m k g,λl j q r c b=>h2 z n l j q r c b⟩
  |_=>exact⟨s,g,d⟩
theorem AWpC.block{id:Nat}(h:AWpC C ρ P c (tO id Q) st):AWpC C ρ P (.block id c) Q st:=λg j a w k i=>
 wpIn_block (wpIn_mono (h g j a w k i) λe m l ⟨s,d,b⟩=>by
  cases e with
  |exit f=>
   simp only[Exit.inBlock];simp only[tO] at b;by_cases hi:f=id;subst hi;simp only[if_true];rw[Of,if_pos rfl] at b;exact⟨s,d,b⟩;rw[if_neg hi];rw[if_neg (λhb=>hi (Nb hb))] at b;exact⟨s,d,b⟩
  |_=>exact⟨s,d,b⟩)
end
structure GSpecK (P:Program)(g:Nat)(cap:La)(T:Nat->Option La)(N:Nat)(M0:Nat->Prop)(w0:Base):Prop where
 enters:∀(xs:Array Value) (w:World),(callFunc g xs).run P w= .ok (.enter g xs) w
 calls:∀(l:Nat) (E:GEnv P l T N) (M:Nat->Prop) (w:World) (vals:List Value),(∀k go M G W,E.J k go M G W->w0.Kept W/\∀b,w0.K b->M b\/G b->M0 b)->E.J 0 true M (λ_=>False) w->RVs M (λ_=>none) w cap vals->
  CallsIn (FR none) 0 P g (#[.func (.yield l) #[] #[]]++vals.toArray) w λe w'=>(∃v,e= .returned v)/\∃k go M' G',E.J k go M' G' w'/\(go=true->T k=none)
section
variable {M0:Nat->Prop}{w0:Base}{a:Act}{w W:World}{M G:Nat->Prop}{st:AState}
theorem Wait.look(hlt:∀b,w0.K b->b< w.heap.size)(h:Wait M0 w0 a w M G st W):w0.Kept W/\∀b,w0.K b->M b\/G b->M0 b:=by
 obtain⟨kept,two,mark,glt,_,β,e,_,_,_,f⟩:=h;refine⟨kept,λb hb d=>?_⟩;have g:=hlt b hb;rcases d with d|d
 rcases(f b).1 d with c|c|c|⟨i,s,c⟩
 exact c;omega;omega;exact absurd ⟨(e.rng i b s c).2,.inl hb⟩ (e.rng i b s c).1;have:=(glt b d).1;omega
end
section
variable {P:Program}{α γ:Type}{ps:Array Tmp}{assign body:Code}
theorem AWpC.rangeFunc {C:(Nat->Prop)->Base->Prop} {Q:Exit->AState->Prop} {f:Operand} {fr:Fr} {hp:Hp} {nx n:Nat} {cap:La} {T:Nat->Option La} (N:Nat) (S:α->AState) (kk:α->Nat) (Inv:α->Prop) (X:γ->AState) (PX:Exit->γ->Prop) (a0:α)
    (hf:evF (look (S a0).fr) f=some (.clos g [] cap)) (hsC:∀M0 w0,C M0 w0->GSpecK P g (cap.map coe) T N M0 w0) (hps:ps.toList.all (Nat.blt · n)=true) (hng:Nat.ble n 1000=true) (hT:∀k as,T k=some as->as.length=ps.size)
    (hSn:∀a,(S a).n=n/\B4 (S a).fr=true) (hXn:∀c,(X c).n=n) (hi:Inv a0) (hk0:kk a0=0) (hb:∀a,Inv a->kk a<=N)
    (h0:SEntT ⟨fr,hp,nx,n⟩ (S a0)) (hcap:(∀x∈cap.map coe,Closed x))
    (hround:∀l a as,Inv a->T (kk a)=some as->AWp (some l) P assign (jF (AWp (some l) P body (vJ S (λa'=>Inv a'/\kk a'=kk a+1) X PX n)) (λ_ _=>False)) ⟨jJ (S a).fr ps.toList as++eX (S a).fr,(S a).hp,(S a).nx,n⟩)
    (hdone:∀a,Inv a->T (kk a)=none->Q .normal (S a)) (hstop:∀e c,PX e c->Q e (X c)):AWpC C none P (.rangeFunc f ps assign body) Q ⟨fr,hp,nx,n⟩:=by
 intro M0 w0 a w hC hr;have hs:=hsC M0 w0 hC;have F:∀b,M0 b->w0.K b:=by obtain⟨_,m,_⟩:=hr;exact λb hb=>(m.m0 b hb).1
 have q:∀b,w0.K b->b< w.heap.size:=by obtain⟨_,m,_⟩:=hr;exact λb hb=>ns (w0.lt b hb) m.below.size
 have z:∀b,M0 b->b< w.heap.size:=λb hb=>q b (F b hb);have hn:a.tmps.size=n:=by obtain⟨_,_,D,_⟩:=hr;exact D
 have hng':n<=GH:=r9 hng;have hps':∀p∈ps.toList,p< n:=λp hp=>r9 (pZ.1 hps p hp);obtain⟨β,mem,_,hfr,Z,hdef,ht⟩:=h0 M0 w0 a w hr;obtain⟨xs,ys,hfe,hr1,hr2⟩:=fG hfr f _ hf;have hxs:xs= #[]:=by have:xs.toList=[]:=hr1;simpa using this
 subst hxs;refine wpIn_rangeFunc ?_;intro fn _;obtain⟨o,d⟩:∃r:Loop,r={state:= .ready,pending:=none,fn,tmps:=a.tmps,params:=ps,assign,body,defers:=w.heap.size}:=⟨_,rfl⟩;obtain⟨U,V⟩:=Wait.begin q F mem hfr Z hdef ht o;obtain⟨L,hW1⟩:∃L,L=(w.alloc (.deferred (some []))).alloc (.loop o):=⟨_,rfl⟩;rw[<-hW1] at U V
 have hcapv:RVs (λb=>M0 b\/b=w.heap.size+1\/b=w.heap.size\/∃i s,β i=some (b,s)) (λ_=>none) L (cap.map coe) ys.toList:=by
  have hbel:Below w.heap.size w L:=by rw[hW1];exact((Below.refl _ w).alloc (ir _) _).alloc ψ _
  have D:=(mem.ext hbel).2.vs (gF hr2);refine se (λb N hb hm=>?_) (dG hcap D);rcases hm with hm|rfl|rfl|⟨i,s,hm⟩
  exact .inl hm;simp[aY,V] at hb;simp[aY,U.mark] at hb;obtain⟨B,hB⟩:=xa.1 (ht i _ hm);exact .inr ⟨i,B,s,hB,hm⟩
 let E:GEnv P (w.heap.size+1) T N:={
  J:=λk Y M G W=>
   (Y=true/\∃x,Inv x/\kk x=k/\W.heap[w.heap.size+1]?=some (.loop o)/\Wait M0 w0 a w M G (S x) W)\/
   (Y=false/\∃e j c,gU e=some j/\PX e c/\W.heap[w.heap.size+1]?=some (.loop {o with state:= .done,pending:=some j})/\Wait M0 w0 a w M G (X c) W)
  ok:=by
   have keep:∀{M G G':Nat->Prop} {W W':World} {st:AState},Wait M0 w0 a w M G st W->GStep G G' W W'->W'.heap[w.heap.size+1]?=W.heap[w.heap.size+1]?:=λh hs=>hs.block _ (by have:=h.two;omega) (λhG=>by have:=(h.glt _ hG).1;omega);rintro k Y M G G' W W' (⟨D,x,y,h3,A,u⟩|⟨D,e,j,c,y,h3,A,u⟩) hs;exact .inl ⟨D,x,y,h3,(keep u hs).trans A,u.step z q hs⟩;exact .inr ⟨D,e,j,c,y,h3,(keep u hs).trans A,u.step z q hs⟩
  bound:=by
   rintro k M G W (⟨_,x,y,rfl,_⟩|⟨D,_⟩);exact hb x y;cases D
  disj:=by
   rintro k Y M G W (⟨_,x,_,_,_,u⟩|⟨_,e,j,c,_,_,_,u⟩);exact u.disj z;exact u.disj z
  tabs:=by
   rintro k Y M G W (⟨_,x,_,_,_,u⟩|⟨_,e,j,c,_,_,_,u⟩);exact u.tabs q;exact u.tabs q
  yok:=by
   rintro k M G W as vals (⟨_,x,y,rfl,A,u⟩|⟨D,_⟩) H hv hG;have hlen:vals.length=ps.size:=hv.length.trans (hT _ _ H);have hy:=run_yield (P:=P) (args:=vals.toArray) A (by rw[d];simpa using hlen);refine⟨_,_,_,_,hy,?_⟩;have e1:o.tmps=a.tmps:=by rw[d]
   have e2:o.params=ps:=by rw[d]
   have e3:o.assign=assign:=by rw[d]
   have e4:o.body=body:=by rw[d]
   rw[e1,e2,e3,e4];refine u.round z q hn hng' rfl A (by rw[d]) (hSn x).2 hv hps' _ (hround _ x as y H) (λx' M' W4 hx' O hg4 hl4=>?_) (λe j c M' W4 hj hPX O hg4 hl4=>?_);refine⟨true,M',rfl,.inl ⟨rfl,x',hx'.1,hx'.2,?_,O⟩,hg4⟩;rw[hl4,d];exact⟨false,M',rfl,.inr ⟨rfl,e,j,c,hj,hPX,by rw[hl4,e1,e2,e3,e4],O⟩,hg4⟩;cases D}
 refine⟨w.heap.size+1,[{target:= .collected w.heap.size,args:= #[]}],L,{target:= .fn (.func g) ys,args:= #[.func (.yield (w.heap.size+1)) #[] #[]]},L,g, #[.func (.yield (w.heap.size+1)) #[] #[]]++ys,L,by rw[hW1,d];exact run_enterLoop_outer _ _ _ _ _,?_,λ_ _=>trivial,?_,λh=>by simp[FR] at h,?_⟩;simp only[resolve,hfe,Deferred.ofValue,Sem.run_pure];simp;rfl;simp only[invoke,hs.enters]
 have hc:=hs.calls (w.heap.size+1) E _ L ys.toList (by
  rintro k Y M G W (⟨_,x,_,_,_,u⟩|⟨_,e,j,c,_,_,_,u⟩);exact u.look q;exact u.look q) (.inl ⟨rfl,a0,hi,hk0,V,U⟩) hcapv
 rw[Array.toArray_toList] at hc;refine hc.mono ?_;rintro e W2 ⟨⟨v,rfl⟩,k,Y,M',G',hJ,H⟩;rcases hJ with⟨rfl,x,y,rfl,A,u⟩|⟨rfl,e,j,c,y,h3,A,u⟩
 refine⟨none,_,by have:=run_endLoop (P:=P) A (by rw[d];simp);rw[this];rw[d],S x,u.over q F hn (hSn x).1 A,hdone x y (H rfl)⟩;refine⟨some j,_,run_endLoop (P:=P) A ψ,?_⟩;have R:=u.over q F hn (hXn c) (rec':={({o with state:= .done,pending:=some j}:Loop) with state:= .exhausted}) A;have hq:=hstop e c h3;cases e with
 |ret=>simp only[gU,Option.some.injEq] at y;subst y;exact wpIn_ret ⟨_,R,hq⟩
 |exit id=>simp only[gU,Option.some.injEq] at y;subst y;exact wpIn_exit ⟨_,R,hq⟩
 |goto t=>simp only[gU,Option.some.injEq] at y;subst y;exact wpIn_goto ⟨_,R,hq⟩
 |normal=>cases y
 |panic ch=>cases y
 |outgrown=>cases y
end
def Hy(b1:Nat)(y1:Value)(L:La)(M:Nat->Prop)(w:World):Prop:=
 M b1/\∃cs ty xs c,w.heap[b1]?=some (.cells cs ty (0,0))/\RVs M (λ_=>none) w L xs/\(∀i x,xs[i]?=some x->w.cell? ⟨b1,i,none⟩=some x)/\y1= .slice (some ⟨b1,0,none⟩) L.length c/\L.length<=c/\c<=maxLen
theorem xW{M:Nat->Prop}{β:Bq}{w:World}{b:Nat}:∀(L:La) (off:Nat),RVess M β w b 1 (L.map λz=>[z]) off->∃xs,RVs M β w L xs/\∀i x,xs[i]?=some x->w.cell? ⟨b,off+i,none⟩=some x
 |[],_,_=>⟨[],rfl,λi x h=>by simp at h⟩
 |z::L,off,⟨_,⟨⟨x,h1,h2⟩,_⟩,h3⟩=>by
  obtain⟨xs,a,c⟩:=xW L (off+1) h3;refine⟨x::xs,⟨x,xs,rfl,h2,a⟩,λi y h=>?_⟩;cases i with
  |zero=>cases h;exact h1
  |succ i=>rw[show off+(i+1)=off+1+i by omega];exact c i y (by simpa using h)
theorem x7{M:Nat->Prop}{β:Bq}{w:World}{b:Nat}:∀(xs:List Value) (off:Nat),(∀i x,xs[i]?=some x->w.cell? ⟨b,off+i,none⟩=some x)->RVess M β w b 1 (xs.map λx=>[.v x]) off
 |[],_,_=>trivial
 |x::xs,off,h=>⟨rfl,⟨⟨x,h 0 x rfl,rfl⟩,trivial⟩,x7 xs (off+1) λi y a=>by
  have:=h (i+1) y (by simpa using a);rwa[show off+(i+1)=off+1+i by omega] at this⟩
def mB(L:La)(k:Nat):Option La:=if k< L.length then some [.v (.int .i64 ((L.length- 1- k:Nat):Int)),L.getD (L.length- 1- k) .any] else none
theorem JD{M:Nat->Prop}{β:Bq}{w:World}:∀{L:La} {xs:List Value} {i:Nat},RVs M β w L xs->i< L.length->∃x,xs[i]?=some x/\RV M β w (L.getD i .any) x
 |[],_,_,_,h=>by simp at h
 |_::_,_,0,⟨x,xs,e,h1,_⟩,_=>⟨x,by rw[e];rfl,h1⟩
 |_::L,_,i+1,⟨x,xs,e,_,h2⟩,h=>by
  obtain⟨z,b,a⟩:=JD (i:=i) h2 (by simpa using h);exact⟨z,by rw[e];simpa using b,by simpa using a⟩
theorem GSpecK.look{N b1:Nat}{y1:Value}{L:La}{M0:Nat->Prop}{w0:Base}(hg:∀xs:List Value,xs.length=L.length->GSpecB P g [.aptr [[.arr (xs.map λx=>[.v x])]] 0 0] (mB (xs.map .v)) N)(hK:∀b,b< w0.w.heap.size->w0.K b)(H:Hy b1 y1 L M0 w0.w):GSpecK P g [.aptr [[.v y1]] 0 0] (mB L) N M0 w0:=by
 obtain⟨hM1,cs,ty,xs,c,hh,y,r,O,hc1,Z⟩:=H;have d:xs.length=L.length:=y.length;have gs:=hg xs d;have n:w0.K b1:=hK b1 (sk.1 hh).1;refine⟨gs.enters,λl E M w vals X hJ A=>?_⟩
 let E':GEnv P l (mB (xs.map .v)) N:={
  J:=λk o q G W=> ∃M,E.J k o M G W/\∀b,q b↔M b/\b≠b1
  ok:=by
   rintro k o q G G' W W' ⟨M,f,p⟩ hs;exact⟨M,E.ok _ _ _ _ _ _ _ f hs,p⟩
  bound:=by
   rintro k q G W ⟨M,f,_⟩;exact E.bound _ _ _ _ f
  disj:=by
   rintro k o q G W ⟨M,f,p⟩ b hb;exact E.disj _ _ _ _ _ f b ((p b).1 hb).1
  tabs:=by
   rintro k o q G W ⟨M,f,p⟩;obtain⟨t1,t2,t3⟩:=E.tabs _ _ _ _ _ f;exact⟨t1,λh=>t2 ((p _).1 h).1,t3⟩
  yok:=by
   rintro k q G W as vals ⟨M,f,p⟩ u hv hG;unfold mB at u;split at u;rotate_left;cases u;rename_i hlt;cases u;obtain⟨v0,vs,rfl,r0,v1,vs1,rfl,r1,rfl⟩:=hv;rw[Ey,d] at hlt r0 r1;obtain⟨x,hx1,F⟩:=JD y (i:=L.length- 1- k) ω
   have U:v1=x:=by
    have e:(xs.map AV.v).getD (L.length- 1- k) .any= .v x:=by rw[jH,wS,hx1];rfl
    rw[e] at r1;exact r1
   subst U;obtain⟨kept,V⟩:=X _ _ _ _ _ f;have st:StabC M0 (λb=>M b\/G b) (λ_=>none) (λ_=>none) w0.w W:=⟨λb N hs _=>kept.block b (hK b (cy hs)),λb N hs hm=>V b (hK b (cy hs)) hm,λ_ _ h=>h,kept.sizes⟩;have Q:mB L k=some [.v (.int .i64 ((L.length- 1- k:Nat):Int)),L.getD (L.length- 1- k) .any]:=by unfold mB;rw[if_pos hlt]
   obtain⟨fn,C,j,B,hy,hR⟩:=E.yok k M G W _ [v0,v1] f Q ⟨_,_,rfl,r0,_,_,rfl,st.all F,rfl⟩ hG;refine⟨fn,C,j,B,hy,hR.mono ?_⟩;rintro e w' ⟨o,D,he,m,a⟩;refine⟨o,λb=>D b/\b≠b1,he,⟨D,m,λ_=>No⟩,⟨a.os,a.tape,a.output,a.size,λb hb hm=>?_,a.sizes,λb hb=>?_⟩⟩;by_cases e1:b=b1;rw[e1,(X _ _ _ _ _ m).1.block b1 n,kept.block b1 n];exact a.block b hb λh=>hm ((p b).2 ⟨h,e1⟩);obtain⟨o1,o2⟩:=a.own b hb.1;exact⟨o1.imp (λh=>(p b).2 ⟨h,hb.2⟩) id,o2⟩}
 obtain⟨kept,_⟩:=X _ _ _ _ _ hJ;have hh2:w.heap[b1]?=some (.cells cs ty (0,0)):=(kept.block b1 n).trans hh
 have t:RVs (λb=>M b/\b≠b1) (λ_=>none) w [.aptr [[.arr (xs.map λx=>[.v x])]] 0 0] vals:=by
  obtain⟨v0,vs,rfl,⟨hi,b,Y,s,rfl,R,T,⟨hs1,⟨⟨z,hz1,hz2⟩,_⟩,_⟩⟩,rfl⟩:=A;refine⟨_,_,rfl,⟨hi,b,Y,s,rfl,R,λh=>T h.1,⟨hs1,⟨⟨z,hz1,?_⟩,trivial⟩,trivial⟩⟩,rfl⟩;have S:z=y1:=hz2;subst S;rw[O];refine⟨_,c,by rw[Ey,d],by rw[Ey,d];exact hc1,Z,.inr ⟨b1,0,1,rfl,⟨cs.size,by simp[aY,hh2]⟩,λh=>h.2 rfl,x7 xs 0 λi x hx=>?_⟩⟩;rw[vY,cell?_congr (w:=w0.w) (w':=w) ((kept.block b1 n))];exact r i x hx
 refine(gs.calls l N (ir N) E' _ w vals ⟨M,hJ,λ_=>No⟩ t).mono ?_;rintro e w' ⟨hv,k,o,q,G',⟨D,m,_⟩,u⟩;refine⟨hv,k,o,D,G',m,λhgo=>?_⟩;have:=u hgo;unfold mB at this⊢;split at this;cases this
 ·rename_i hn
  rw[Ey,d] at hn;rw[if_neg hn]
structure FSpecW (P:Program)(f:Nat)(args:La)(r:AV)(H:(Nat->Prop)->World->Prop):Prop where
 cl:∀a∈args,Closed a
 enters:∀(xs:Array Value) (w:World),(callFunc f xs).run P w= .ok (.enter f xs) w
 calls:∀(M:Nat->Prop) (w:World) (vals:List Value),Fit M w->H M w->RVs M (λ_=>none) w args vals->
  Calls P f vals.toArray w λe w'=> ∃y,e= .returned y/\RV M (λ_=>none) w' r y/\Below w.heap.size w w'
theorem FSpecW.enter {fn:Func} {c:Code} {args:La} {H:(Nat->Prop)->World->Prop} (hf:P.funcs[f]?=some fn) (hb:fn.body=some c) (hname:(fn.name== "runtime.NumGoroutine")=false) {rs:List ResultVar} (hrs:fn.results.toList=rs) {m:Nat} (hm:fn.ntmps=m) (hn:Nat.ble args.length m=true)
    (hcl:∀a∈args,Closed a) {fr:Fr} (hfr:dA 0 args=fr) (h:AWpC (λM w0=>H M w0.w/\∀b,b< w0.w.heap.size->w0.K b) none P c (Fin P rs r) ⟨fr,[],1,m⟩):FSpecW P f args r H:=by
 subst hrs hm hfr;have hn:=nle hn;refine⟨hcl,λxs w=>?_,λM w vals hM hH hargs=>?_⟩;have hname':¬fn.name= "runtime.NumGoroutine" :=by simpa using hname
 simp[callFunc,hf,hname',hb];refine(callsIn_wide (n:=0)).1 ?_;refine callsIn_of_wp_marks (F:=Fence.wide) hf hb trivial ?_;have hlen:=hargs.length
 have hrel:jT M (Base.of w hM.tab) ⟨dA 0 args,[],1,fn.ntmps⟩ {tmps:=vals.toArray++Array.replicate (fn.ntmps- vals.toArray.size) undef,defers:=[]} w:=by
  refine⟨λ_=>none,⟨⟨rfl,rfl,rfl,ir _,λ_ _=>rfl,λ_ _ h=>h⟩,(λb hb=>⟨hM.lt b hb,λe=>hM.nt (e▸hb)⟩),(λ_ _ _ h=>by cases h),(λ_=>rfl),(λ_ _ h=>by cases h),(λ_ _ _ _ _ _ _ h=>by cases h)⟩,χ,λt x hx=>?_,λi (hi:1<=i)=>⟨rfl,ω⟩,⟨[],rfl,E9,ψ⟩⟩;have hmm:MM M (λ_=>none) (ap [])=M:=by funext b;simp[MM,ap,look]
  show RV (MM M (λ_=>none) (ap [])) _ _ _ _;rw[hmm,cN rfl];obtain⟨_,y,h1,h2⟩:=gC hargs hx
  have hy:(vals.toArray++Array.replicate (fn.ntmps- vals.toArray.size) undef).getD t undef=y:=by
   have hlt:t< vals.length:=by simpa using(jY.1 h1).1
   rw[oj,zr (by simpa using hlt)];simp at h1⊢;rw[h1];rfl
  rw[hy];exact h2
 refine wpIn_mono (h M (Base.of w hM.tab) _ w ⟨hH,λb hb=>hb⟩ hrel) λe a' w' ⟨st',⟨β,mem,hsz,hfr,hfree,Ds,hds,hnd,hD⟩,he,hres⟩=>?_
 have hL:LeavesInM (FR none) 0 P fn a'.tmps (λe w'=> ∃y,e= .returned y/\RV M (λ_=>none) w' r y/\Below w.heap.size w w') a'.defers .returning w':=by
  rw[hds];exact iN hres (λy w'' h1 h2 _ _=>⟨y,rfl,h1,⟨h2.below.os,h2.below.tape,h2.below.output,h2.below.size,h2.below.block⟩⟩) Ds w' hnd hD mem (λt x hx=>by have:=hfr t x hx;rwa[cN rfl] at this)
 rcases he with rfl|rfl
 exact hL;exact hL
theorem FSpecW.to{args:La}(h:FSpecW P f args r λ_ _=>True):FSpec P f args r:=⟨h.cl,h.enters,λM w vals b a=>h.calls M w vals b trivial a⟩
theorem GSpecK.of{cap:La}{T:Nat->Option La}{N:Nat}{M0:Nat->Prop}{w0:Base}(h:GSpec P g cap T):GSpecK P g cap T N M0 w0:=⟨(h N).enters,λl E M w vals _ a b=>(h N).calls l N (ir N) E M w vals a b⟩
theorem AEval.callL {id:Nat} {ev:Operand->Option AV} {hp:Hq} {c:Call} {callee x0 x1:Operand} {i n ty:Nat} {cap:Option Nat} {a:AV} {L:La} {es:Lc} (h1:c.callee= .value callee) (h2:ev callee=some (.clos f [] [])) (h3:c.args.toList=[x0,x1]) (h4:ev x0=some a) (h5:ev x1=some (.lsl i 0 n cap 1)) (h6:hp i=some ⟨ty,1,es⟩)
    (hL:es=L.map λz=>[z]) (hn:n=L.length) (hLc:∀z∈L,Closed z) (hs:∀b1 c,FSpecW P f [coe a,.v (.slice (some ⟨b1,0,none⟩) L.length c)] r (Hy b1 (.slice (some ⟨b1,0,none⟩) L.length c) L)):AEval P id ev hp (.call c) ⟨r,[]⟩ [i]:=by
 refine .sem λm w0 β d w ρ o U k l O N Y S K=>?_
 have g:∀x,x∈(Op.call c).operands↔x=callee\/x∈c.args.toList:=by
  intro x;simp[Op.operands,Call.operands,h1,<-Array.mem_toList_iff]
 obtain⟨xs,W,V,F,A⟩:=l callee ((g _).2 (.inl rfl)) _ h2;have C:xs= #[]:=Array.ext' F;have D:W= #[]:=Array.ext' A;subst C D;have r0:=l x0 ((g _).2 (.inr (by rw[h3];simp))) _ h4;obtain⟨b,B,t,p,Z,G,_,_⟩:=l x1 ((g _).2 (.inr (by rw[h3];simp))) _ h5;have Q:d i=some ⟨ty,1,es⟩:=(K i (List.mem_singleton.2 rfl)).trans h6;obtain⟨b',cs,e1,e2,J,e4⟩:=k.cells Q (show(1:Nat)≠0 by decide);rw[t] at e1;cases e1;simp only at e2 J;rw[hL] at J;obtain⟨vs,v1,v2⟩:=xW L 0 J
 have H:Hy b (ρ x1) L (MM m β d) w:=by
  refine⟨.inr ⟨i,_,1,Q,t⟩,cs,ty,vs,B,e2,dG hLc v1,λj x X=>by have:=v2 j x X;rwa[Nat.zero_add] at this,by rw[p,hn,Nat.zero_mul],ω,G⟩
 have u:=hs b B;have E:ρ x1= .slice (some ⟨b,0,none⟩) L.length B:=by rw[p,hn,Nat.zero_mul]
 rw[<-E] at u
 have s:RVs (MM m β d) (λ_=>none) w [coe a,.v (ρ x1)] [ρ x0,ρ x1]:=by
  have q:RVs (MM m β d) β w [coe a] [ρ x0]:=gF (cs:=[a]) ⟨_,_,rfl,r0,rfl⟩;obtain⟨z,zs,e,q1,_⟩:=dG (λz T=>u.cl z (by rw[List.mem_singleton.1 T];simp)) q;cases e;exact⟨_,_,rfl,q1,_,_,rfl,rfl,rfl⟩
 refine .inr ⟨f,_,fP U h1 V rfl u.enters,?_⟩;rw[h3];refine(u.calls (MM m β d) w _ k.fit H s).mono ?_;rintro e w' ⟨y,rfl,E,hb⟩;have R:=k.ext hb;refine⟨y,rfl,β,R.1,?_,R.2,λ_ _=>rfl⟩;exact(StabC.all (w:=w') (w':=w') (M:=MM m β d) (M':=MM m β d) (β:=λ_=>none) (β':=β) ⟨λ_ _ _ _=>rfl,λ_ _ _ h=>h,(λ_ _ h=>by cases h),λ_ _ h=>h⟩ E)
end
end Go.Abs
namespace Go.Abs
section
variable {b n k:Nat}{l:Ln}
def ax(b n:Nat):Ln:=
 if _h:b<=1\/n=0 then [] else n % b::ax b (n/ b)
termination_by n
decreasing_by exact NM ω ω
def ofD(b:Nat):Ln->Nat
 |[]=>0
 |d::l=>d+b* ofD b l
theorem c8(b:Nat):ax b 0=[]:=by rw[ax];simp
theorem fM(hb:1< b)(hn:0< n):ax b n=n % b::ax b (n/ b):=by rw[ax,dif_neg ω]
theorem bO(hb:1< b)(n:Nat):ofD b (ax b n)=n:=by
 induction n using Nat.strongRecOn with
 |_ n c=>
  rcases zW n with rfl|a
  rw[c8];rfl;rw[fM hb a,ofD,c _ (NM a hb)];exact MW n b
theorem er(hb:1< b)(n:Nat):∀d∈ax b n,d< b:=by
 induction n using Nat.strongRecOn with
 |_ n e=>
  rcases zW n with rfl|c
  rw[c8];simp;rw[fM hb c];intro d a;rcases pY.1 a with rfl|a
  exact EC _ ω;exact e _ (NM c hb) d a
def IsD(b:Nat)(l:Ln):Prop:=(∀d∈l,d< b)/\l.getLast?≠some 0
theorem tG(hb:1< b)(n:Nat):(ax b n).getLast?≠some 0:=by
 induction n using Nat.strongRecOn with
 |_ n c=>
  rcases zW n with rfl|a
  rw[c8];simp;rw[fM hb a];have e:=c _ (NM a hb);rw[List.getLast?_cons];intro h;by_cases h0:ax b (n/ b)=[];rw[h0] at h;simp only[List.getLast?_nil,Option.getD_none,Option.some.injEq] at h
  have d:n/ b=0:=by
   have:=bO hb (n/ b);rw[h0] at this;exact this.symm
  have:=MW n b;rw[d] at this;omega;cases hl:(ax b (n/ b)).getLast? with
  |none=>simp_all
  |some x=>
   grind
theorem ofD_pos(h:IsD b l)(hl:l≠[]):0< ofD b l:=by
 induction l with
 |nil=>grind
 |cons d l c=>
  rw[ofD];by_cases h0:l=[];subst h0;have a:=h.2;simp at a;omega;have hb:0< b:=by have:=h.1 d (mu ..);omega
  have:0< ofD b l:=c ⟨λx e=>h.1 x (lQ _ e),by
   have a:=h.2;grind⟩ h0
  have:=M7 hb this;omega
theorem wT{b:Nat}(hb:1< b):∀{l:Ln},IsD b l->ax b (ofD b l)=l
 |[],_=>c8 b
 |d::l,h=>by
  have hp:=ofD_pos h ψ;have a:=h.1 d (mu ..)
  have c:IsD b l:=⟨λx e=>h.1 x (lQ _ e),by
   have f:=h.2;grind⟩
  rw[fM hb hp];have e1:ofD b (d::l) % b=d:=by rw[ofD,On];exact Fz a
  have e2:ofD b (d::l) / b=ofD b l:=by rw[ofD,N4 _ _ ω,Fw a];omega
  rw[e1,e2,wT hb c]
theorem im(b:Nat)(l m:Ln):ofD b (l++m)=ofD b l+b^ l.length* ofD b m:=by
 induction l with
 |nil=>simp[ofD]
 |cons d l a=>simp only[LJ,ofD];grind
theorem gi(h:∀d∈l,d< b):ofD b l< b^ l.length:=by
 induction l with
 |nil=>simp[ofD]
 |cons d l a=>
  have c:=a λx e=>h x (lQ _ e);have f:=h d (mu ..);rw[ofD,vX,D7];have:b* (ofD b l+1)<=b* b^ l.length:=sO _ c;grind
theorem sA(b k:Nat):ofD b (List.replicate k 0)=0:=by
 induction k with
 |zero=>rfl
 |succ k a=>rw[OQ,ofD,a];simp
theorem eF(b k:Nat)(l:Ln)(h:k<=l.length):ofD b l=ofD b (l.take k)+b^ k* ofD b (l.drop k):=by
 conv=>lhs;rw[<-KO k l]
 rw[im,yv,KM h]
def fL:Ln->Ln
 |[]=>[]
 |d::l=>match fL l with
  |[]=>if d=0 then [] else [d]
  |e::m=>d::e::m
theorem xM(b:Nat):∀l,ofD b (fL l)=ofD b l
 |[]=>rfl
 |d::l=>by
  have a:=xM b l;unfold fL;split
  ·rename_i h
   rw[h] at a;split
   ·rename_i c;subst c;show 0=0+b* ofD b l;rw[<-a];simp[ofD]
   show d+b* ofD b []=d+b* ofD b l;grind
  ·rename_i e m h
   rw[h] at a;show d+b* ofD b (e::m)=d+b* ofD b l;rw[a]
theorem vh:∀l,(fL l).getLast?≠some 0
 |[]=>by simp[fL]
 |d::l=>by
  have a:=vh l;unfold fL;grind
theorem xL:∀l,∀d∈fL l,d∈l
 |[],d,h=>by simp[fL] at h
 |a::l,d,h=>by
  have b:=xL l;unfold fL at h;grind
theorem kH(hb:1< b)(h:∀d∈l,d< b):fL l=ax b (ofD b l):=by
 rw[<-xM b l];exact(wT hb ⟨λd a=>h d (xL l d a),vh l⟩).symm
theorem mG:∀(l:Ln) (k:Nat),k<=l.length->(∀i,k<=i->i< l.length->l[i]?=some 0)->(k=0\/l[k- 1]?≠some 0)->fL l=l.take k
 |[],k,hk,_,_=>by simp[fL]
 |d::l,k,hk,hz,hl=>by
  cases k with
  |zero=>
   have a:=mG l 0 (mN _) (λi _ g=>by have:=hz (i+1) ω φ;grind) (.inl rfl);have f:=hz 0 (ir _) ψ;simp only[xg,Option.some.injEq] at f;simp[fL,a,f]
  |succ k=>
   have b:∀i,k<=i->i< l.length->l[i]?=some 0:=λi a g=>by have:=hz (i+1) ω φ;grind
   simp only[Nat.add_sub_cancel] at hl;cases k with
   |zero=>
    have a:=mG l 0 (mN _) b (.inl rfl);simp at hl;simp[fL,a,hl]
   |succ k=>
    have c:k+1<=l.length:=φ
    have a:=mG l (k+1) c b (.inr (hl.elim (λh=>absurd h ω) λh=>φ));cases l with
    |nil=>grind
    |cons e m=>
     simp only[N9] at a⊢;rw[fL,a]
def bl(n:Nat):Nat:=if n=0 then 0 else n.log2+1
theorem B3(n:Nat):n< 2^ bl n:=by
 unfold bl;split
 ·grind
 exact Nat.lt_log2_self
theorem fx(h:n< 2^ k):bl n<=k:=by
 unfold bl;split;omega
 ·rename_i a;exact(Nat.log2_lt a).2 h
theorem bl_lt(h:bl n<=k):n< 2^ k:=ns (B3 n) (vi ω h)
theorem dQ{m:Nat}(h:m<=n):bl m<=bl n:=fx (G9 h (B3 n))
theorem jy(m n:Nat):bl (m* n)<=bl m+bl n:=by
 refine fx ?_;rw[N3];exact Nat.mul_lt_mul'' (B3 m) (B3 n)
theorem A7(m n:Nat):bl (m+n)<=max (bl m) (bl n)+1:=by
 refine fx ?_;have a:m< 2^ max (bl m) (bl n):=bl_lt (OA _ _);have b:n< 2^ max (bl m) (bl n):=bl_lt (NX _ _);grind
theorem bl_zero:bl 0=0:=rfl
theorem jx:bl 1=1:=δ
theorem Mk(h:0< n):0< bl n:=by unfold bl;grind
theorem ci(hb:1< b)(n:Nat):(ax b n).length<=bl n:=by
 induction n using Nat.strongRecOn with
 |_ n e=>
  rcases zW n with rfl|c
  rw[c8];simp;rw[fM hb c,vX];have g:=e _ (NM c hb)
  have f:bl (n/ b)+1<=bl n:=by
   have a:n/ b<=n/ 2:=OP hb ω
   have h:bl (n/ 2)+1<=bl n:=by
    have d:=B3 n;have hp:=Mk c
    have:n/ 2< 2^ (bl n- 1):=by
     rw[DB ω];simp_all
    have:=fx this;omega
   have:=dQ a;omega
  omega
theorem gw(hb:1< b)(h:n< b^ k):(ax b n).length<=k:=by
 induction k generalizing n with
 |zero=>have:n=0:=φ
        subst this;rw[c8];simp
 |succ k c=>
  rcases zW n with rfl|a
  rw[c8];simp;rw[fM hb a];have:n/ b< b^ k:=by rw[DB ω];exact h
  grind
theorem jR(hb:1< b):ax b n=[]↔n=0:=by
 constructor;intro h;have:=bO hb n;rw[h] at this;exact this.symm;rintro rfl;exact c8 b
end
end Go.Abs
