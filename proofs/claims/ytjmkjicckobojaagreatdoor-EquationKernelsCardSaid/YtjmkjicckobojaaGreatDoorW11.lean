/- Part W11 of the proof. -/
import Derived.Test.YtjmkjicckobojaaGreatDoorW10
import Derived.Below
set_option linter.all false
namespace Go.Abs
open Go.RowKit
section
variable {sz TS TQ n:Nat}{L:List Lc}{w:Nat->Nat}
def mzH(sz TS TQ:Nat)(o:Lc)(L:List Lc):Hp:=(1,some ⟨TS,1,o⟩)::mxB TQ sz L 2
theorem dH{k:Nat}{o:Lc}{e:Lc}(h:L[k]?=some e):au (mzH sz TS TQ o L) (k+2)=some ⟨TQ,sz,e⟩:=by
 unfold mzH;rw[dB];unfold upd;exact F9 L 2 k e h
theorem JM{k:Nat}(hz:sz≠0){o:Lc}{e:Lc}(h:L[k]?=some e):dS (au (mzH sz TS TQ o L)) (k+2)=some ⟨TQ,sz,e⟩:=eA (dH h) hz
theorem SEntT.mz {fr fr':Fr} {hp:Hp} {nx N:Nat} (s:Nat->Nat) (o o':Lc) (L:List Lc) (hL:L.length<=30) (s0:s 0=0) (hinj:∀i j,1<=i->i< L.length+2->1<=j->j< L.length+2->s i=s j->i=j)
    (h1:au hp (s 1)=some ⟨TS,1,o'⟩) (ho:o'.length=o.length) (hr:∀i e,L[i]?=some e->au hp (s (i+2))=some ⟨TQ,sz,e⟩/\∀x∈e,∀c∈x,Closed c)
    (hO:Shr ⟨40,s⟩ (au hp) (au (mzH sz TS TQ o L))->CvLL ⟨40,s⟩ (au hp) (au (mzH sz TS TQ o L)) o' o)
    (hF:Shr ⟨40,s⟩ (au hp) (au (mzH sz TS TQ o L))->CvF ⟨40,s⟩ (au hp) (au (mzH sz TS TQ o L)) fr fr'):SEntT ⟨fr,hp,nx,N⟩ ⟨fr',mzH sz TS TQ o L,40,N⟩:=by
 have a:∀i B,(i,some B)∈mzH sz TS TQ o L->(i=1/\B=⟨TS,1,o⟩)\/∃k e,L[k]?=some e/\i=k+2/\B=⟨TQ,sz,e⟩:=λi B h=>by
  rcases List.mem_cons.1 h with h|h
  cases h;exact .inl ⟨rfl,rfl⟩;obtain⟨k,e,b,m,n⟩:=uV L 2 i B h;grind
 have f:Shr ⟨40,s⟩ (au hp) (au (mzH sz TS TQ o L)):=⟨λi B h=>by
  rcases a i B (jn h) with⟨rfl,rfl⟩|⟨k,e,b,rfl,rfl⟩
  exact⟨(show 1< 40 by decide),_,h1,rfl,rfl,ho⟩;grind⟩
 refine SEntT.intro (st:=⟨fr,hp,nx,N⟩) (st':=⟨fr',mzH sz TS TQ o L,40,N⟩) ⟨40,s⟩ rfl (show 0< 40 by decide) s0 (u6 _ λi j d l e=>?_) rfl (hF f) (xR _ λi B h=>?_)
 have g:∀i,i∈(mzH sz TS TQ o L).map (·.1)->1<=i/\i< L.length+2:=λi d=>by
  rcases List.mem_cons.1 d with h|h
  have h:i=1:=h;omega;have:=uW L 2 i h;omega
 exact hinj i j (g i d).1 (g i d).2 (g j l).1 (g j l).2 e;rcases a i B h with⟨rfl,rfl⟩|⟨k,e,b,rfl,rfl⟩
 exact⟨(show 1< 40 by decide),_,h1,rfl,rfl,hO f⟩;exact⟨φ,_,(hr k e b).1,rfl,rfl,ba f (hr k e b).2⟩
def mzO(sz:Nat)(w:Nat->Nat)(s:Nat->Nat)(n:Nat):Lc:=(List.range n).map λi=>[.lsl (s (i+2)) 0 (w i) none sz]
@[simp] theorem pJ (sz:Nat)(w:Nat->Nat)(s:Nat->Nat)(n:Nat):(mzO sz w s n).length=n:=by simp[mzO]
theorem Ad{s:Nat->Nat}{i:Nat}(h:i< n):(mzO sz w s n)[i]?=some [.lsl (s (i+2)) 0 (w i) none sz]:=by simp[mzO,h]
theorem sJ{hp hp':Hq}{s:Nat->Nat}(hn:n<=30)(hl:∀i,i< n->(hp' (i+2)).isSome=true):CvLL ⟨40,s⟩ hp hp' (mzO sz w s n) (mzO sz w (λi=>i) n):=
 De _ _ _ λi a=>by
  have:=List.mem_range.1 a;exact am (Cv.sl (Nat.ble_eq_true_of_le (show i+2+1<=40 by omega)) rfl (hl i this)) av
theorem Cv.mzShut{r:Ren}{hp':Hq}{cap:Option Nat}(hz:sz≠0)(h:Shr r (au (mzH sz TS TQ (mzO sz w (λi=>i) n) L)) hp')(hd:∀i,hp' i=none)(hn:n=L.length)(hw:∀i e,L[i]?=some e->e.length=w i)(hc:∀e∈L,∀x∈e,∀c∈x,Closed c):
    Cv r (au (mzH sz TS TQ (mzO sz w (λi=>i) n) L)) hp' (.lsl 1 0 n cap 1) (.arr (L.map λe=>[.arr e])):=by
 have g:∀i,uj r hp' i:=λi j B t=>by grind
 have f:(mzO sz w (λi=>i) n).length=n:=pJ _ _ _ _;have q:dS (au (mzH sz TS TQ (mzO sz w (λi=>i) n) L)) 1=some ⟨TS,1,mzO sz w (λi=>i) n⟩:=rfl;refine Cv.trans_eq (Cv.shut (es:=L.map λe=>[.arr e]) h q (g 1) φ ?_) rfl;show CvLL r _ hp' (((mzO sz w (λi=>i) n).drop 0).take n) _;rw[List.drop_zero,List.take_of_length_le ω];subst hn
 have a:∀(l:List Lc) (k:Nat),(∀i e,l[i]?=some e->L[k+i]?=some e)->CvLL r (au (mzH sz TS TQ (mzO sz w (λi=>i) L.length) L)) hp' ((List.range' k l.length).map λi=>[.lsl (i+2) 0 (w i) none sz]) (l.map λe=>[.arr e]):=by
  intro l
  induction l with
  |nil=>intro k _;exact CvLL.nil
  |cons e l p=>
   intro k b;have d:L[k]?=some e:=b 0 e rfl;have m:=List.mem_of_getElem? d
   refine CvLL.cons (am ?_ av) (p (k+1) λi s o=>by
    have:=b (i+1) s φ;grind)
   refine Cv.shut (es:=e) h (JM hz d) (g _) φ ?_;rw[List.take_of_length_le φ];exact ba h (hc e m)
 have:=a L 0 λi e o=>by grind
 rw[<-List.range_eq_range'] at this;exact this
theorem XSpecT.shut{P:Program}{f nx nx':Nat}{args:La}{v r:AV}{hp':Hp}(h:XSpecT P f args [] nx v hp' nx')(h0:Nat.ble 1 nx=true)(hcl:∀a∈args,Closed a){rr:Ren}(hc:Cv rr (au hp') (λ_=>none) v r)(hr:Closed r):FSpec P f args r:=by
 have e0:∀(M:Nat->Prop) (b:Bq),MM M b (au [])=M:=λM b=>by funext c;simp[MM,au,look]
 have e1:∀(M:Nat->Prop) (b:Bq),MM M b (λ_=>none)=M:=λM b=>by funext c;simp[MM]
 refine⟨hcl,h.enters,λM w vals g j=>((h.calls M (Base.of w g.tab) (λ_=>none) vals rfl ⟨⟨rfl,rfl,rfl,Nat.le_refl _,λ_ _=>rfl,λ_ _ h=>h⟩,(λb hb=>⟨g.lt b hb,λe=>g.nt (e▸hb)⟩),(λ_ _ _ h=>by cases h),(λ_=>rfl),(λ_ _ h=>by cases h),λ_ _ _ _ _ _ _ h=>by simp⟩ (λi o=>⟨rfl,by have:=Nat.le_of_ble_eq_true h0;omega⟩) (by rw[e0];exact j)).mono ?_)⟩;rintro e l ⟨y,n,rfl,d,m,_,_⟩;have k:=hc M _ n l y d m;rw[e1] at k;exact⟨y,rfl,hr _ _ _ _ k,d.below.os,d.below.tape,d.below.output,d.below.size,d.below.block⟩
end
section
variable {hp:Hq}
theorem AEval.callV {P:Program} {id:Nat} {ev:Operand->Option AV} {c:Call} {callee:Operand} {f:Nat} {as as':La} {r:Value} {rd:Ln} {rr:Ren} (h1:c.callee= .value callee) (h2:ev callee=some (.clos f [] [])) (h3:evs ev c.args.toList=some as)
    (h4:∀hp':Nat->Option ABlk,(∀i∈rd,hp' i=hp i)->CvL rr hp' (λ_=>none) as as') (h5:FSpec P f as' (.v r)):AEval P id ev hp (.call c) ⟨.v r,[]⟩ rd:=by
 refine .sem λj D β hp' w ρ o B a g u t F A s=>?_
 have d:∀x,x∈(Op.call c).operands↔x=callee\/x∈c.args.toList:=by
  simp[Op.operands,Call.operands,h1]
 obtain⟨xs,E,n,p,k⟩:=g callee ((d _).2 (.inl rfl)) _ h2;have l:xs= #[]:=Array.ext' p;have m:E= #[]:=Array.ext' k;subst l m;have q:RVs (MM j β hp') β w as (c.args.toList.map ρ):=AJ (λx n=>g x ((d _).2 (.inr n))) h3;have z:=CvL.rvs a (h4 hp' s) q;have e1:∀b:Nat->Option (Nat×Nat),MM j b (λ_=>none)=j:=λb=>by funext c;simp[MM]
 rw[e1] at z;refine .inr ⟨f,_,ir B h1 n rfl h5.enters,(h5.calls j w _ ⟨λb hb=>Nat.lt_of_lt_of_le (D.lt b (a.m0 b hb).1) a.below.size,λhb=>(a.m0 GT hb).2 rfl,a.tab⟩ (eu h5.cl z)).mono ?_⟩;rintro e G ⟨y,rfl,C,hb⟩;have h:=a.ext hb;exact⟨y,rfl,β,h.1,C,h.2,λ_ _=>rfl⟩
theorem zj{r:Ren}{hp hp':Hq}:∀(k:Nat) {a b:Lc},CvLL r hp hp' a b->CvLL r hp hp' (a.drop k) (b.drop k)
 |0,_,_,h=>h
 |k+1,[],_,h=>by cases (h:_=[]);exact CvLL.nil
 |k+1,x::xs,_,⟨y,ys,e,_,h2⟩=>by subst e;exact zj k h2
theorem zi{r:Ren}{hp hp':Hq}:∀(k:Nat) {a b:Lc},CvLL r hp hp' a b->CvLL r hp hp' (a.take k) (b.take k)
 |0,_,_,_=>CvLL.nil
 |k+1,[],_,h=>by cases (h:_=[]);exact CvLL.nil
 |k+1,x::xs,_,⟨y,ys,e,h1,h2⟩=>by subst e;exact CvLL.cons h1 (zi k h2)
theorem ID{r:Ren}{sz TQ:Nat}{w:Nat->Nat}{L:List Lc}(hz:sz≠0)(hr:∀i e,L[i]?=some e->hp (i+2)=some ⟨TQ,sz,e⟩)(hw:∀i e,L[i]?=some e->e.length=w i)(hc:∀e∈L,∀x∈e,∀c∈x,Closed c):
    CvLL r hp (λ_=>none) (mzO sz w (λx=>x) L.length) (L.map λe=>[.arr e]):=by
 have a:∀(l:List Lc) (k:Nat),(∀i e,l[i]?=some e->L[k+i]?=some e)->CvLL r hp (λ_=>none) ((List.range' k l.length).map λi=>[.lsl (i+2) 0 (w i) none sz]) (l.map λe=>[.arr e]):=by
  intro l
  induction l with
  |nil=>intro k _;exact CvLL.nil
  |cons e l h=>
   intro k b;have d:L[k]?=some e:=b 0 e rfl;have f:=List.mem_of_getElem? d
   refine CvLL.cons (am ?_ av) (h (k+1) λi m g=>by
    have:=b (i+1) m φ;grind)
   refine Cv.shut (es:=e) aF (eA (hr k e d) hz) (λj B n=>φ) φ ?_;rw[List.take_of_length_le φ];exact ba aF (hc e f)
 have:=a L 0 λi e g=>by grind
 rw[<-List.range_eq_range'] at this;exact this
theorem Cv.mzV {r:Ren} {cap:Option Nat} {sz TS TQ a m:Nat} {w:Nat->Nat} {L:List Lc} (hz:sz≠0) (h1:hp 1=some ⟨TS,1,mzO sz w (λx=>x) L.length⟩) (hr:∀i e,L[i]?=some e->hp (i+2)=some ⟨TQ,sz,e⟩) (hw:∀i e,L[i]?=some e->e.length=w i)
    (hc:∀e∈L,∀x∈e,∀c∈x,Closed c) (ham:a+m<=L.length):Cv r hp (λ_=>none) (.lsl 1 a m cap 1) (.arr (((L.map λe=>[.arr e]).drop a).take m)):=
 Cv.shut (es:=((L.map λe=>[.arr e]).drop a).take m) aF (eA h1 (show(1:Nat)≠0 by decide)) (λj B b=>φ) (by simp_all) (zi m (zj a (ID hz hr hw hc)))
end
theorem XSpec.enterC {P:Program} {f:Nat} {fn:Func} {c:Code} {nx:Nat} {v:AV} {hp:Hp} {args:La} (hf:P.funcs[f]?=some fn) (hb:fn.body=some c) (hname:(fn.name== "runtime.NumGoroutine")=false) {rs:List ResultVar} (hrs:fn.results.toList=rs) {m:Nat} (hm:fn.ntmps=m) (hn:Nat.ble args.length m=true)
    {fr:Fr} (hfr:dG 0 args=fr) (h:AWp none P c (Fin P rs v) ⟨fr,hp,nx,m⟩):XSpec P f args hp nx v [] 1:=by
 subst hrs hm hfr;have hn:=Nat.le_of_ble_eq_true hn;refine⟨λxs w=>?_,λM w0 β vals hgh mem hfree hargs=>?_⟩;have hname':¬fn.name= "runtime.NumGoroutine" :=φ
 simp[callFunc,hf,hname',hb];refine(callsIn_wide (n:=0)).1 (callsIn_of_wp_marks (F:=Fence.wide) hf hb trivial ?_);have hlen:=hargs.length
 have hrel:jZ M w0 ⟨dG 0 args,hp,nx,fn.ntmps⟩ {tmps:=vals.toArray++Array.replicate (fn.ntmps- vals.toArray.size) undef,defers:=[]} w0.w:=by
  refine⟨β,mem,φ,λt x hx=>?_,hfree,⟨[],rfl,List.nodup_nil,ψ⟩⟩;rw[cC hgh]
  have key:∀{as:La} {vs:List Value} {i t:Nat} {x:AV},RVs (MM M β (au hp)) β w0.w as vs->look (dG i as) t=some x->i<=t/\∃y,vs[t- i]?=some y/\RV (MM M β (au hp)) β w0.w x y:=by
   intro as
   induction as with
   |nil=>intro vs i t x _ h;cases h
   |cons a as ih=>
    rintro vs i t x ⟨y,ys,e,h1,h2⟩ h;subst e;simp only[dG] at h;rw[c8] at h;unfold upd at h;grind
  obtain⟨_,y,h1,h2⟩:=key hargs hx
  have hy:(vals.toArray++Array.replicate (fn.ntmps- vals.toArray.size) undef).getD t undef=y:=by
   have hlt:t< vals.length:=φ
   rw[Array.getD_eq_getD_getElem?,Array.getElem?_append_left φ];grind
  grind
 refine wpIn_mono (h M w0 _ w0.w hrel) λx a' w' ⟨st',⟨β2,mem2,hsz,hfr,hfree2,Ds,hds,hnd,hD⟩,he,hres⟩=>?_;have e0:∀(M:Nat->Prop) (b:Bq),MM M b (au [])=M:=λM b=>by funext c;simp[MM,au,look]
 have hL:LeavesInM (FR none) 0 P fn a'.tmps (λx w'=> ∃y β',x= .returned y/\Mem M w0 β' (au []) w'/\RV (MM M β' (au [])) β' w' v y/\∀i,1<=i->β' i=none/\i≠0) a'.defers .returning w':=by
  rw[hds];exact iQ hres (λy w'' h1 h2 _ _=>⟨y,λ_=>none,rfl,⟨h2.below,h2.m0,(λ_ _ _ h=>by cases h),(λh=>by cases h),(λ_ _ h=>by cases h),λ_ _ _ _ _ _ _ h=>by cases h⟩,by rw[e0];exact h1,λi hi=>⟨rfl,ω⟩⟩) Ds w' hnd hD mem2 (λt x hx=>by have:=hfr t x hx;rwa[cC hgh] at this)
 rcases he with rfl|rfl
 exact hL;exact hL
def mzX(sz TS TQ:Nat)(o:Lc)(L:List Lc)(ex:Hp):Hp:=ex++mzH sz TS TQ o L
def InX(m i:Nat):Prop:=(1<=i/\i< m+2)\/(35<=i/\i< 40)
theorem n7{l:Hp}{t:Nat}:∀ex:Hp,(∀p∈ex,p.1≠t)->au (ex++l) t=au l t
 |[],_=>rfl
 |(k,x)::ex,h=>by
  rw[List.cons_append,dB];unfold upd;rw[if_neg λe=>h (k,x) (List.mem_cons_self ..) e.symm];exact n7 ex λp hp=>h p (List.mem_cons_of_mem _ hp)
section
variable {sz:Nat}{fr fr':Fr}{hp ex:Hp}{nx N TS TQ:Nat}{o o':Lc}{L:List Lc}{e:Lc}{k:Nat}
theorem mzX_row(hid:∀p∈ex,35<=p.1/\p.1< 40)(hk:k<=30)(h:L[k]?=some e):au (mzX sz TS TQ o L ex) (k+2)=some ⟨TQ,sz,e⟩:=by
 unfold mzX;rw[n7 ex λp hp e=>by grind];exact dH h
theorem mzX_out(hid:∀p∈ex,35<=p.1/\p.1< 40):au (mzX sz TS TQ o L ex) 1=some ⟨TS,1,o⟩:=by
 unfold mzX;rw[n7 ex λp hp e=>by grind];rfl
theorem SEntT.mzx (s:Nat->Nat) (hL:L.length<=30) (s0:s 0=0) (hinj:∀i j,InX L.length i->InX L.length j->s i=s j->i=j)
    (h1:au hp (s 1)=some ⟨TS,1,o'⟩) (ho:o'.length=o.length) (hr:∀i e,L[i]?=some e->au hp (s (i+2))=some ⟨TQ,sz,e⟩/\∀x∈e,∀c∈x,Closed c) (hid:∀p∈ex,35<=p.1/\p.1< 40)
    (hex:∀i B,(i,some B)∈ex->∃B0,au hp (s i)=some B0/\B0.ty=B.ty/\B0.sz=B.sz/\B0.es.length=B.es.length)
    (hO:Shr ⟨40,s⟩ (au hp) (au (mzX sz TS TQ o L ex))->CvLL ⟨40,s⟩ (au hp) (au (mzX sz TS TQ o L ex)) o' o)
    (hE:Shr ⟨40,s⟩ (au hp) (au (mzX sz TS TQ o L ex))->∀i B B0,(i,some B)∈ex->au hp (s i)=some B0->CvLL ⟨40,s⟩ (au hp) (au (mzX sz TS TQ o L ex)) B0.es B.es)
    (hF:Shr ⟨40,s⟩ (au hp) (au (mzX sz TS TQ o L ex))->CvF ⟨40,s⟩ (au hp) (au (mzX sz TS TQ o L ex)) fr fr'):SEntT ⟨fr,hp,nx,N⟩ ⟨fr',mzX sz TS TQ o L ex,40,N⟩:=by
 have d:∀i B,(i,some B)∈mzX sz TS TQ o L ex->(i,some B)∈ex\/(i=1/\B=⟨TS,1,o⟩)\/∃k e,L[k]?=some e/\i=k+2/\B=⟨TQ,sz,e⟩:=λi B h=>by
  rcases List.mem_append.1 h with h|h
  exact .inl h;rcases List.mem_cons.1 h with h|h
  cases h;exact .inr (.inl ⟨rfl,rfl⟩);obtain⟨k,e,f,t,r⟩:=uV L 2 i B h;grind
 have l:Shr ⟨40,s⟩ (au hp) (au (mzX sz TS TQ o L ex)):=⟨λi B h=>by
  rcases d i B (jn h) with b|⟨rfl,rfl⟩|⟨k,e,f,rfl,rfl⟩
  obtain⟨B0,b1,b2,m,n⟩:=hex i B b;exact⟨(hid _ b).2,B0,b1,b2,m,n⟩;exact⟨(show 1< 40 by decide),_,h1,rfl,rfl,ho⟩;grind⟩
 refine SEntT.intro (st:=⟨fr,hp,nx,N⟩) (st':=⟨fr',mzX sz TS TQ o L ex,40,N⟩) ⟨40,s⟩ rfl (show 0< 40 by decide) s0 (u6 _ λi j a q e=>?_) rfl (hF l) (xR _ λi B h=>?_)
 have g:∀i,i∈(mzX sz TS TQ o L ex).map (·.1)->InX L.length i:=λi a=>by
  unfold mzX at a;rw[List.map_append,List.mem_append] at a;rcases a with a|a
  obtain⟨p,hp,rfl⟩:=List.mem_map.1 a;exact .inr (hid p hp);rcases List.mem_cons.1 a with h|h
  have h:i=1:=h;exact .inl ⟨ω,ω⟩;have:=uW L 2 i h;exact .inl ⟨ω,ω⟩
 exact hinj i j (g i a) (g j q) e;rcases d i B h with b|⟨rfl,rfl⟩|⟨k,e,f,rfl,rfl⟩
 obtain⟨B0,b1,b2,m,n⟩:=hex i B b;exact⟨(hid _ b).2,B0,b1,b2,m,hE l i B B0 b b1⟩;exact⟨(show 1< 40 by decide),_,h1,rfl,rfl,hO l⟩;exact⟨φ,_,(hr k e f).1,rfl,rfl,ba l (hr k e f).2⟩
end
theorem FSpec.xs{P:Program}{f:Nat}{args:La}{r:AV}(h:FSpec P f args r)(hr:Closed r):XSpec P f args [] 1 r [] 1:=by
 have e0:∀(M:Nat->Prop) (b:Bq),MM M b (au [])=M:=λM b=>by funext c;simp[MM,au,look]
 refine⟨h.enters,λM j β vals l d g a=>?_⟩;rw[e0] at a;refine(h.calls M j.w vals ⟨λb hb=>j.lt b (d.m0 b hb).1,λhb=>(d.m0 GT hb).2 rfl,d.tab⟩ (eu h.cl a)).mono ?_;rintro e n ⟨y,rfl,k,hb⟩;have i:=d.ext hb;refine⟨y,β,rfl,i.1,?_,g⟩;rw[e0];exact zO hr k (λ_ _ _ _=>rfl) (λb _ _ m=>m) λ_ _ h=>h
theorem look_mem':∀{fr:Fr} {t:Nat} {x:AV},look fr t=some x->(t,x)∈fr
 |[],_,_,h=>by cases h
 |(s,y)::fr,t,x,h=>by
  rw[c8] at h;unfold upd at h;split at h
  ·rename_i e;cases h;subst e;exact List.mem_cons_self ..
  exact List.mem_cons_of_mem _ (look_mem' h)
theorem keepF{fr2 fr3:Fr}(h:∀p∈fr3,look fr2 p.1=some p.2/\Closed p.2):∀t x,look fr3 t=some x->look fr2 t=some x/\Closed x:=λt x a=>h (t,x) (look_mem' a)
theorem loF{fr3:Fr}(h:fr3.all (λp=>Nat.blt p.1 1000)=true):∀t x,look fr3 t=some x->t< 1000:=λt x a=>Nat.le_of_ble_eq_true (List.all_eq_true.1 h _ (look_mem' a))
theorem SEnt.keep{fr fr':Fr}{hp:Hp}{nx nx' n:Nat}(hk:∀p∈fr',look fr p.1=some p.2)(hn:nx<=nx'):SEnt ⟨fr,hp,nx,n⟩ ⟨fr',hp,nx',n⟩:=λM j a w ⟨β,d,f,c,b,e⟩=>
 ⟨β,d,f,λt x h=>c t x (hk (t,x) (look_mem' h)),λi g=>b i (Nat.le_trans hn g),e⟩
theorem vo{fr:Fr}:∀p∈([]:Fr),look fr p.1=some p.2:=λp hp=>by cases hp
theorem all_cons{fr fr':Fr}{t:Nat}{x:AV}(h1:look fr t=some x)(h2:∀p∈fr',look fr p.1=some p.2):∀p∈(t,x)::fr',look fr p.1=some p.2:=λp hp=>by
 rcases List.mem_cons.1 hp with rfl|hp
 exact h1;exact h2 p hp
section
variable {ev:Operand->Option AV}{y0:Value}{v:AV}{as:La}
def ArgsV(ev:Operand->Option AV)(y0:Value)(v:AV):List Operand->La->Prop
 |[],as=>as=[]
 |x::xs,as=> ∃a as',as=a::as'/\((ev x=some (.v y0)/\a=v)\/(ev x=some a/\Closed a))/\ArgsV ev y0 v xs as'
theorem ArgsV.nil:ArgsV ev y0 v [] []:=rfl
theorem ArgsV.own{x:Operand}{xs:List Operand}(h1:ev x=some (.v y0))(h:ArgsV ev y0 v xs as):ArgsV ev y0 v (x::xs) (v::as):=⟨_,_,rfl,.inl ⟨h1,rfl⟩,h⟩
theorem ArgsV.clo{a:AV}{x:Operand}{xs:List Operand}(h1:ev x=some a)(h2:Closed a)(h:ArgsV ev y0 v xs as):ArgsV ev y0 v (x::xs) (a::as):=⟨_,_,rfl,.inr ⟨h1,h2⟩,h⟩
theorem ArgsV.congr{ev':Operand->Option AV}:∀{xs:List Operand} {as:La},(∀x∈xs,ev' x=ev x)->ArgsV ev y0 v xs as->ArgsV ev' y0 v xs as
 |[],_,_,h=>h
 |x::xs,_,he,⟨a,as',e,h1,h2⟩=>by
  have e0:=he x (List.mem_cons_self ..);exact⟨a,as',e,h1.imp (fun⟨c,b⟩=>⟨e0.trans c,b⟩) (fun⟨c,b⟩=>⟨e0.trans c,b⟩),ArgsV.congr (λz d=>he z (List.mem_cons_of_mem _ d)) h2⟩
structure PkgV (M00:Nat->Prop)(w00:Base)(hpA:Hp)(nxA:Nat)(v:AV)(y0:Value)(βS:Bq)(M0:Nat->Prop)(w0:Base)(M:Nat->Prop)(w:World):Prop where
 m:∀b,M0 b↔M00 b\/∃i s,βS i=some (b,s)
 k:∀b,w0.K b↔w00.K b\/∃i s,βS i=some (b,s)
 rng:∀i b s,βS i=some (b,s)->¬w00.K b/\b< w.heap.size
 live:∀i x,βS i=some x->(au hpA i).isSome=true
 blk:∀i B,au hpA i=some B->∃b,βS i=some (b,B.sz)/\BlkAt M βS w b B
 inj:∀i j B B' b s s',au hpA i=some B->au hpA j=some B'->βS i=some (b,s)->βS j=some (b,s')->i=j
 free:∀i,nxA<=i->βS i=none/\i≠0
 zero:(au hpA 0).isSome=true->False
 val:RV M βS w v y0
structure XQ (jB:Nat)(y0:Value)(v:AV)(hpA:Hp)(nxA:Nat)(M00:Nat->Prop)(w00:Base)(H:Ln->Nat->Option ABlk)(σ:Ln)(M0:Nat->Prop)(w0:Base)(β:Bq)(w:World):Prop where
 kept:w00.Kept w
 m00:∀b,M00 b->w00.K b/\b≠GT
 pin:w0.pin=w00.pin
 no:jB∈σ->(∀b,M0 b↔M00 b)/\(∀b,w0.K b↔w00.K b)
 yes:jB∉σ->∃βS,PkgV M00 w00 hpA nxA v y0 βS M0 w0 (MM M0 β (H σ)) w
section
variable {P:Program}{jB j id nxA:Nat}{v:AV}{y0:Value}{hpA:Hp}{M00 M0:Nat->Prop}{w00 w0:Base}{H:Ln->Nat->Option ABlk}{σ:Ln}{β β':Bq}{a:Act}{w w':World}{u:Upd}{y:Value}
theorem XQ.sub(hX:XQ jB y0 v hpA nxA M00 w00 H σ M0 w0 β w):(∀b,w00.K b->w0.K b)/\∀b,M00 b->M0 b:=by
 by_cases h2:jB∈σ;obtain⟨a,c⟩:=hX.no h2;exact⟨λb hb=>(c b).2 hb,λb hb=>(a b).2 hb⟩;obtain⟨d,p⟩:=hX.yes h2;exact⟨λb hb=>(p.k b).2 (.inl hb),λb hb=>(p.m b).2 (.inl hb)⟩
end
def kB(jB:Nat)(y0:Value)(v:AV)(gB:Nat)(asB:La)(fB:Operand)(xB:List Operand)(j:Nat)(fr:Nat->Option AV):Prop:=
 j=jB->evF fr fB=some (.clos gB [] [])/\∃as,ArgsV (evF fr) y0 v xB as/\as.map coe=asB
theorem kB.b{jB:Nat}{gB:Nat}{asB:La}{fB:Operand}{xB:List Operand}{fr:Nat->Option AV}(h1:evF fr fB=some (.clos gB [] []))(h2:ArgsV (evF fr) y0 v xB as)(h4:as.map coe=asB):kB jB y0 v gB asB fB xB jB fr:=
 λ_=>⟨h1,as,h2,h4⟩
end
def FinX0(hp':Hp)(nx' n:Nat)(x:Exit)(st:AState):Prop:=(x= .normal\/x= .ret)/\SEnt st ⟨[],hp',nx',n⟩
theorem FinX0.of{fr:Fr}{hp hp':Hp}{nx nx' n:Nat}(h:SEnt ⟨fr,hp,nx,n⟩ ⟨[],hp',nx',n⟩):FinX0 hp' nx' n .ret ⟨fr,hp,nx,n⟩:=⟨.inr rfl,h⟩
theorem FinE.none{P:Program}{fr:Fr}{hp:Hp}{nx n ty sz:Nat}{E' es:Lc}{x:Exit}(hx:x= .normal\/x= .ret)(hb:au hp 0=some ⟨ty,sz,es⟩)(he:es=E'):FinE P [] ty sz E' (.tuple #[]) x ⟨fr,hp,nx,n⟩:=by
 refine⟨hx,⟨[],rfl,λc d β w y _ h=>?_⟩,by rw[<-he];exact hb⟩;obtain⟨a,e,b⟩:=h;subst e;have:a= #[]:=Array.ext' b;subst this;rfl
section
variable {g:Nat}{P:Program}
def AWpC(C:(Nat->Prop)->Base->Prop)(ρ:Option Nat)(P:Program)(c:Code)(Q:Exit->AState->Prop)(st:AState):Prop:=
 ∀M0 w0 a w,C M0 w0->jZ M0 w0 st a w->c.wpIn (FR ρ) 0 P (λe a' w'=> ∃st',jZ M0 w0 st' a' w'/\Q e st') a w
section
variable {C:(Nat->Prop)->Base->Prop}{ρ:Option Nat}{P:Program}{Q:Exit->AState->Prop}{st:AState}{x y c:Code}
theorem AWpC.seq(h:AWpC C ρ P x (jH (AWpC C ρ P y Q) Q) st):AWpC C ρ P (.seq x y) Q st:=λb f a w hc j=>
 wpIn_seq (wpIn_mono (h b f a w hc j) λe i g ⟨s,d,c⟩=>by
  cases e with
  |normal=>exact c b f i g hc d
  |_=>exact⟨s,d,c⟩)
theorem AWpC.cutT{α:Type}(S:α->AState)(Post:α->Prop)(h:AWpC C ρ P x (K4 S Post Q) st)(h2:∀a,Post a->AWpC C ρ P y Q (S a)):AWpC C ρ P x (jH (AWpC C ρ P y Q) Q) st:=λi f a w hc o=>
 wpIn_mono (h i f a w hc o) λe m k ⟨s,g,d⟩=>by
  cases e with
  |normal=>obtain⟨z,n,p⟩:=d;exact⟨_,p i f m k g,λl j q r c b=>h2 z n l j q r c b⟩
  |_=>exact⟨s,g,d⟩
theorem AWpC.block{id:Nat}(h:AWpC C ρ P c (tZ id Q) st):AWpC C ρ P (.block id c) Q st:=λg j a w hc i=>
 wpIn_block (wpIn_mono (h g j a w hc i) λe l k ⟨s,d,b⟩=>by
  cases e with
  |exit f=>
   simp only[Exit.inBlock];simp only[tZ] at b;by_cases hi:f=id;subst hi;simp only[if_true];rw[Nat.beq_refl,if_pos rfl] at b;exact⟨s,d,b⟩;rw[if_neg hi];rw[if_neg (λhb=>hi (Nat.eq_of_beq_eq_true hb))] at b;exact⟨s,d,b⟩
  |_=>exact⟨s,d,b⟩)
end
structure GSpecK (P:Program)(g:Nat)(cap:La)(T:Nat->Option La)(N:Nat)(M0:Nat->Prop)(w0:Base):Prop where
 enters:∀(xs:Array Value) (w:World),(callFunc g xs).run P w= .ok (.enter g xs) w
 calls:∀(l:Nat) (E:GEnv P l T N) (M:Nat->Prop) (w:World) (vals:List Value),(∀k go M G W,E.J k go M G W->w0.Kept W/\∀b,w0.K b->M b\/G b->M0 b)->E.J 0 true M (λ_=>False) w->RVs M (λ_=>none) w cap vals->
  CallsIn (FR none) 0 P g (#[.func (.yield l) #[] #[]]++vals.toArray) w λe w'=>(∃v,e= .returned v)/\∃k go M' G',E.J k go M' G' w'/\(go=true->T k=none)
section
variable {M0:Nat->Prop}{w0:Base}{a:Act}{w W:World}{M G:Nat->Prop}{st:AState}
theorem Wait.look(hlt:∀b,w0.K b->b< w.heap.size)(h:Wait M0 w0 a w M G st W):w0.Kept W/\∀b,w0.K b->M b\/G b->M0 b:=by
 obtain⟨kept,two,mark,glt,_,β,e,_,_,_,f⟩:=h;refine⟨kept,λb hb d=>?_⟩;have g:=hlt b hb;rcases d with d|d
 rcases(f b).1 d with c|c|c|⟨i,s,c⟩
 exact c;omega;omega;exact absurd ⟨(e.rng i b s c).2,.inl hb⟩ (e.rng i b s c).1;have:=(glt b d).1;omega
end
section
variable {P:Program}{α γ:Type}{ps:Array Tmp}{assign body:Code}
theorem AWpC.rangeFunc {C:(Nat->Prop)->Base->Prop} {Q:Exit->AState->Prop} {f:Operand} {fr:Fr} {hp:Hp} {nx n:Nat} {cap:La} {T:Nat->Option La} (N:Nat) (S:α->AState) (kk:α->Nat) (Inv:α->Prop) (X:γ->AState) (PX:Exit->γ->Prop) (a0:α)
    (hf:evF (look (S a0).fr) f=some (.clos g [] cap)) (hsC:∀M0 w0,C M0 w0->GSpecK P g (cap.map coe) T N M0 w0) (hps:ps.toList.all (Nat.blt · n)=true) (hng:Nat.ble n 1000=true) (hT:∀k as,T k=some as->as.length=ps.size)
    (hSn:∀a,(S a).n=n/\BU (S a).fr=true) (hXn:∀c,(X c).n=n) (hi:Inv a0) (hk0:kk a0=0) (hb:∀a,Inv a->kk a<=N)
    (h0:SEntT ⟨fr,hp,nx,n⟩ (S a0)) (hcap:(∀x∈cap.map coe,Closed x))
    (hround:∀l a as,Inv a->T (kk a)=some as->AWp (some l) P assign (jH (AWp (some l) P body (v7 S (λa'=>Inv a'/\kk a'=kk a+1) X PX n)) (λ_ _=>False)) ⟨jJ (S a).fr ps.toList as++eB (S a).fr,(S a).hp,(S a).nx,n⟩)
    (hdone:∀a,Inv a->T (kk a)=none->Q .normal (S a)) (hstop:∀e c,PX e c->Q e (X c)):AWpC C none P (.rangeFunc f ps assign body) Q ⟨fr,hp,nx,n⟩:=by
 intro M0 w0 a w hC hr;have hs:=hsC M0 w0 hC;have F:∀b,M0 b->w0.K b:=by obtain⟨_,m,_⟩:=hr;exact λb hb=>(m.m0 b hb).1
 have q:∀b,w0.K b->b< w.heap.size:=by obtain⟨_,m,_⟩:=hr;exact λb hb=>Nat.lt_of_lt_of_le (w0.lt b hb) m.below.size
 have z:∀b,M0 b->b< w.heap.size:=λb hb=>q b (F b hb);have hn:a.tmps.size=n:=by obtain⟨_,_,D,_⟩:=hr;exact D
 have hng':n<=GH:=Nat.le_of_ble_eq_true hng;have hps':∀p∈ps.toList,p< n:=λp hp=>Nat.le_of_ble_eq_true (List.all_eq_true.1 hps p hp);obtain⟨β,mem,_,hfr,Z,hdef,ht⟩:=h0 M0 w0 a w hr;obtain⟨xs,ys,hfe,hr1,hr2⟩:=gf hfr f _ hf;have hxs:xs= #[]:=by have:xs.toList=[]:=hr1;simpa using this
 subst hxs;refine wpIn_rangeFunc ?_;intro fn _;obtain⟨o,d⟩:∃r:Loop,r={state:= .ready,pending:=none,fn,tmps:=a.tmps,params:=ps,assign,body,defers:=w.heap.size}:=⟨_,rfl⟩;obtain⟨U,V⟩:=Wait.begin q F mem hfr Z hdef ht o;obtain⟨L,hW1⟩:∃L,L=(w.alloc (.deferred (some []))).alloc (.loop o):=⟨_,rfl⟩;rw[<-hW1] at U V
 have hcapv:RVs (λb=>M0 b\/b=w.heap.size+1\/b=w.heap.size\/∃i s,β i=some (b,s)) (λ_=>none) L (cap.map coe) ys.toList:=by
  have hbel:Below w.heap.size w L:=by rw[hW1];exact((Below.refl _ w).alloc (Nat.le_refl _) _).alloc ψ _
  have D:=(mem.ext hbel).2.vs (iF hr2);refine sV (λb N hb hm=>?_) (eu hcap D);rcases hm with hm|rfl|rfl|⟨i,s,hm⟩
  exact .inl hm;simp[aU,V] at hb;simp[aU,U.mark] at hb;obtain⟨B,hB⟩:=Option.isSome_iff_exists.1 (ht i _ hm);exact .inr ⟨i,B,s,hB,hm⟩
 let E:GEnv P (w.heap.size+1) T N:={
  J:=λk Y M G W=>
   (Y=true/\∃x,Inv x/\kk x=k/\W.heap[w.heap.size+1]?=some (.loop o)/\Wait M0 w0 a w M G (S x) W)\/
   (Y=false/\∃e j c,gL e=some j/\PX e c/\W.heap[w.heap.size+1]?=some (.loop {o with state:= .done,pending:=some j})/\Wait M0 w0 a w M G (X c) W)
  ok:=by
   have keep:∀{M G G':Nat->Prop} {W W':World} {st:AState},Wait M0 w0 a w M G st W->GStep G G' W W'->W'.heap[w.heap.size+1]?=W.heap[w.heap.size+1]?:=λh hs=>hs.block _ (by have:=h.two;omega) (λhG=>by have:=(h.glt _ hG).1;omega);rintro k Y M G G' W W' (⟨D,x,y,h3,A,u⟩|⟨D,e,j,c,y,h3,A,u⟩) hs;exact .inl ⟨D,x,y,h3,(keep u hs).trans A,u.step z q hs⟩;exact .inr ⟨D,e,j,c,y,h3,(keep u hs).trans A,u.step z q hs⟩
  bound:=by
   rintro k M G W (⟨_,x,y,rfl,_⟩|⟨D,_⟩);exact hb x y;cases D
  disj:=by
   rintro k Y M G W (⟨_,x,_,_,_,u⟩|⟨_,e,j,c,_,_,_,u⟩);exact u.disj z;exact u.disj z
  tabs:=by
   rintro k Y M G W (⟨_,x,_,_,_,u⟩|⟨_,e,j,c,_,_,_,u⟩);exact u.tabs q;exact u.tabs q
  yok:=by
   rintro k M G W as vals (⟨_,x,y,rfl,A,u⟩|⟨D,_⟩) H hv hG;have hlen:vals.length=ps.size:=hv.length.trans (hT _ _ H);have hy:=run_yield (P:=P) (args:=vals.toArray) A (by rw[d];simpa using hlen);refine⟨_,_,_,_,hy,?_⟩;have e1:o.tmps=a.tmps:=by rw[d]
   have e2:o.params=ps:=by rw[d]
   have e3:o.assign=assign:=by rw[d]
   have e4:o.body=body:=by rw[d]
   rw[e1,e2,e3,e4];refine u.round z q hn hng' rfl A (by rw[d]) (hSn x).2 hv hps' _ (hround _ x as y H) (λx' M' W4 hx' O hg4 hl4=>?_) (λe j c M' W4 hj hPX O hg4 hl4=>?_);refine⟨true,M',rfl,.inl ⟨rfl,x',hx'.1,hx'.2,?_,O⟩,hg4⟩;rw[hl4,d];exact⟨false,M',rfl,.inr ⟨rfl,e,j,c,hj,hPX,by rw[hl4,e1,e2,e3,e4],O⟩,hg4⟩;cases D}
 refine⟨w.heap.size+1,[{target:= .collected w.heap.size,args:= #[]}],L,{target:= .fn (.func g) ys,args:= #[.func (.yield (w.heap.size+1)) #[] #[]]},L,g, #[.func (.yield (w.heap.size+1)) #[] #[]]++ys,L,by rw[hW1,d];exact run_enterLoop_outer _ _ _ _ _,?_,λ_ _=>trivial,?_,λh=>by simp[FR] at h,?_⟩;simp only[resolve,hfe,Deferred.ofValue,Sem.run_pure];simp;rfl;simp only[invoke,hs.enters]
 have hc:=hs.calls (w.heap.size+1) E _ L ys.toList (by
  rintro k Y M G W (⟨_,x,_,_,_,u⟩|⟨_,e,j,c,_,_,_,u⟩);exact u.look q;exact u.look q) (.inl ⟨rfl,a0,hi,hk0,V,U⟩) hcapv
 rw[Array.toArray_toList] at hc;refine hc.mono ?_;rintro e W2 ⟨⟨v,rfl⟩,k,Y,M',G',hJ,H⟩;rcases hJ with⟨rfl,x,y,rfl,A,u⟩|⟨rfl,e,j,c,y,h3,A,u⟩
 refine⟨none,_,by have:=run_endLoop (P:=P) A (by rw[d];simp);rw[this];rw[d],S x,u.over q F hn (hSn x).1 A,hdone x y (H rfl)⟩;refine⟨some j,_,run_endLoop (P:=P) A ψ,?_⟩;have R:=u.over q F hn (hXn c) (rec':={({o with state:= .done,pending:=some j}:Loop) with state:= .exhausted}) A;have hq:=hstop e c h3;cases e with
 |ret=>simp only[gL,Option.some.injEq] at y;subst y;exact wpIn_ret ⟨_,R,hq⟩
 |exit id=>simp only[gL,Option.some.injEq] at y;subst y;exact wpIn_exit ⟨_,R,hq⟩
 |goto t=>simp only[gL,Option.some.injEq] at y;subst y;exact wpIn_goto ⟨_,R,hq⟩
 |normal=>cases y
 |panic ch=>cases y
 |outgrown=>cases y
end
def LookH(b1:Nat)(y1:Value)(L:La)(M:Nat->Prop)(w:World):Prop:=
 M b1/\∃cs ty xs c,w.heap[b1]?=some (.cells cs ty (0,0))/\RVs M (λ_=>none) w L xs/\(∀i x,xs[i]?=some x->w.cell? ⟨b1,i,none⟩=some x)/\y1= .slice (some ⟨b1,0,none⟩) L.length c/\L.length<=c/\c<=maxLen
theorem yq{M:Nat->Prop}{β:Bq}{w:World}{b:Nat}:∀(xs:List Value) (off:Nat),(∀i x,xs[i]?=some x->w.cell? ⟨b,off+i,none⟩=some x)->RVess M β w b 1 (xs.map λx=>[.v x]) off
 |[],_,_=>trivial
 |x::xs,off,h=>⟨rfl,⟨⟨x,h 0 x rfl,rfl⟩,trivial⟩,yq xs (off+1) λi y a=>by
  have:=h (i+1) y (by simpa using a);rwa[show off+(i+1)=off+1+i by omega] at this⟩
def xJ(L:La)(k:Nat):Option La:=if k< L.length then some [.v (.int .i64 ((L.length- 1- k:Nat):Int)),L.getD (L.length- 1- k) .any] else none
theorem I7{M:Nat->Prop}{β:Bq}{w:World}:∀{L:La} {xs:List Value} {i:Nat},RVs M β w L xs->i< L.length->∃x,xs[i]?=some x/\RV M β w (L.getD i .any) x
 |[],_,_,_,h=>by simp at h
 |_::_,_,0,⟨x,xs,e,h1,_⟩,_=>⟨x,by rw[e];rfl,h1⟩
 |_::L,_,i+1,⟨x,xs,e,_,h2⟩,h=>by
  obtain⟨z,b,a⟩:=I7 (i:=i) h2 (by simpa using h);exact⟨z,by rw[e];simpa using b,by simpa using a⟩
theorem GSpecK.look{N b1:Nat}{y1:Value}{L:La}{M0:Nat->Prop}{w0:Base}(hg:∀xs:List Value,xs.length=L.length->GSpecB P g [.aptr [[.arr (xs.map λx=>[.v x])]] 0 0] (xJ (xs.map .v)) N)(hK:∀b,b< w0.w.heap.size->w0.K b)(H:LookH b1 y1 L M0 w0.w):GSpecK P g [.aptr [[.v y1]] 0 0] (xJ L) N M0 w0:=by
 obtain⟨hM1,cs,ty,xs,c,hh,y,r,O,hc1,Z⟩:=H;have d:xs.length=L.length:=y.length;have gs:=hg xs d;have n:w0.K b1:=hK b1 (Array.getElem?_eq_some_iff.1 hh).1;refine⟨gs.enters,λl E M w vals X hJ A=>?_⟩
 let E':GEnv P l (xJ (xs.map .v)) N:={
  J:=λk o q G W=> ∃M,E.J k o M G W/\∀b,q b↔M b/\b≠b1
  ok:=by
   rintro k o q G G' W W' ⟨M,f,p⟩ hs;exact⟨M,E.ok _ _ _ _ _ _ _ f hs,p⟩
  bound:=by
   rintro k q G W ⟨M,f,_⟩;exact E.bound _ _ _ _ f
  disj:=by
   rintro k o q G W ⟨M,f,p⟩ b hb;exact E.disj _ _ _ _ _ f b ((p b).1 hb).1
  tabs:=by
   rintro k o q G W ⟨M,f,p⟩;obtain⟨t1,t2,t3⟩:=E.tabs _ _ _ _ _ f;exact⟨t1,λh=>t2 ((p _).1 h).1,t3⟩
  yok:=by
   rintro k q G W as vals ⟨M,f,p⟩ u hv hG;unfold xJ at u;split at u;rotate_left;cases u;rename_i hlt;cases u;obtain⟨v0,vs,rfl,r0,v1,vs1,rfl,r1,rfl⟩:=hv;rw[List.length_map,d] at hlt r0 r1;obtain⟨x,hx1,F⟩:=I7 y (i:=L.length- 1- k) ω
   have U:v1=x:=by
    have e:(xs.map AV.v).getD (L.length- 1- k) .any= .v x:=by rw[List.getD_eq_getElem?_getD,List.getElem?_map,hx1];rfl
    rw[e] at r1;exact r1
   subst U;obtain⟨kept,V⟩:=X _ _ _ _ _ f;have st:StabC M0 (λb=>M b\/G b) (λ_=>none) (λ_=>none) w0.w W:=⟨λb N hs _=>kept.block b (hK b (ct hs)),λb N hs hm=>V b (hK b (ct hs)) hm,λ_ _ h=>h,kept.sizes⟩;have Q:xJ L k=some [.v (.int .i64 ((L.length- 1- k:Nat):Int)),L.getD (L.length- 1- k) .any]:=by unfold xJ;rw[if_pos hlt]
   obtain⟨fn,C,j,B,hy,hR⟩:=E.yok k M G W _ [v0,v1] f Q ⟨_,_,rfl,r0,_,_,rfl,st.all F,rfl⟩ hG;refine⟨fn,C,j,B,hy,hR.mono ?_⟩;rintro e w' ⟨o,D,he,m,a⟩;refine⟨o,λb=>D b/\b≠b1,he,⟨D,m,λ_=>Iff.rfl⟩,⟨a.os,a.tape,a.output,a.size,λb hb hm=>?_,a.sizes,λb hb=>?_⟩⟩;by_cases e1:b=b1;rw[e1,(X _ _ _ _ _ m).1.block b1 n,kept.block b1 n];exact a.block b hb λh=>hm ((p b).2 ⟨h,e1⟩);obtain⟨o1,o2⟩:=a.own b hb.1;exact⟨o1.imp (λh=>(p b).2 ⟨h,hb.2⟩) id,o2⟩}
 obtain⟨kept,_⟩:=X _ _ _ _ _ hJ;have hh2:w.heap[b1]?=some (.cells cs ty (0,0)):=(kept.block b1 n).trans hh
 have t:RVs (λb=>M b/\b≠b1) (λ_=>none) w [.aptr [[.arr (xs.map λx=>[.v x])]] 0 0] vals:=by
  obtain⟨v0,vs,rfl,⟨hi,b,Y,s,rfl,R,T,⟨hs1,⟨⟨z,hz1,hz2⟩,_⟩,_⟩⟩,rfl⟩:=A;refine⟨_,_,rfl,⟨hi,b,Y,s,rfl,R,λh=>T h.1,⟨hs1,⟨⟨z,hz1,?_⟩,trivial⟩,trivial⟩⟩,rfl⟩;have S:z=y1:=hz2;subst S;rw[O];refine⟨_,c,by rw[List.length_map,d],by rw[List.length_map,d];exact hc1,Z,.inr ⟨b1,0,1,rfl,⟨cs.size,by simp[aU,hh2]⟩,λh=>h.2 rfl,yq xs 0 λi x hx=>?_⟩⟩;rw[Nat.zero_add,cell?_congr (w:=w0.w) (w':=w) ((kept.block b1 n))];exact r i x hx
 refine(gs.calls l N (Nat.le_refl N) E' _ w vals ⟨M,hJ,λ_=>Iff.rfl⟩ t).mono ?_;rintro e w' ⟨hv,k,o,q,G',⟨D,m,_⟩,u⟩;refine⟨hv,k,o,D,G',m,λhgo=>?_⟩;have:=u hgo;unfold xJ at this⊢;split at this;cases this
 ·rename_i hn
  rw[List.length_map,d] at hn;rw[if_neg hn]
structure FSpecW (P:Program)(f:Nat)(args:La)(r:AV)(H:(Nat->Prop)->World->Prop):Prop where
 cl:∀a∈args,Closed a
 enters:∀(xs:Array Value) (w:World),(callFunc f xs).run P w= .ok (.enter f xs) w
 calls:∀(M:Nat->Prop) (w:World) (vals:List Value),Fit M w->H M w->RVs M (λ_=>none) w args vals->
  Calls P f vals.toArray w λe w'=> ∃y,e= .returned y/\RV M (λ_=>none) w' r y/\Below w.heap.size w w'
theorem FSpecW.enter {f:Nat} {fn:Func} {c:Code} {args:La} {r:AV} {H:(Nat->Prop)->World->Prop} (hf:P.funcs[f]?=some fn) (hb:fn.body=some c) (hname:(fn.name== "runtime.NumGoroutine")=false) {rs:List ResultVar} (hrs:fn.results.toList=rs) {m:Nat} (hm:fn.ntmps=m) (hn:Nat.ble args.length m=true)
    (hcl:∀a∈args,Closed a) {fr:Fr} (hfr:dG 0 args=fr) (h:AWpC (λM w0=>H M w0.w/\∀b,b< w0.w.heap.size->w0.K b) none P c (Fin P rs r) ⟨fr,[],1,m⟩):FSpecW P f args r H:=by
 subst hrs hm hfr;have hn:=nle hn;refine⟨hcl,λxs w=>?_,λM w vals hM hH hargs=>?_⟩;have hname':¬fn.name= "runtime.NumGoroutine" :=by simpa using hname
 simp[callFunc,hf,hname',hb];refine(callsIn_wide (n:=0)).1 ?_;refine callsIn_of_wp_marks (F:=Fence.wide) hf hb trivial ?_;have hlen:=hargs.length
 have hrel:jZ M (Base.of w hM.tab) ⟨dG 0 args,[],1,fn.ntmps⟩ {tmps:=vals.toArray++Array.replicate (fn.ntmps- vals.toArray.size) undef,defers:=[]} w:=by
  refine⟨λ_=>none,⟨⟨rfl,rfl,rfl,Nat.le_refl _,λ_ _=>rfl,λ_ _ h=>h⟩,(λb hb=>⟨hM.lt b hb,λe=>hM.nt (e▸hb)⟩),(λ_ _ _ h=>by cases h),(λ_=>rfl),(λ_ _ h=>by cases h),(λ_ _ _ _ _ _ _ h=>by cases h)⟩,χ,λt x hx=>?_,λi (hi:1<=i)=>⟨rfl,ω⟩,⟨[],rfl,List.nodup_nil,ψ⟩⟩;have hmm:MM M (λ_=>none) (au [])=M:=by funext b;simp[MM,au,look]
  show RV (MM M (λ_=>none) (au [])) _ _ _ _;rw[hmm,cC rfl];obtain⟨_,y,h1,h2⟩:=gq hargs hx
  have hy:(vals.toArray++Array.replicate (fn.ntmps- vals.toArray.size) undef).getD t undef=y:=by
   have hlt:t< vals.length:=by simpa using(List.getElem?_eq_some_iff.1 h1).1
   rw[Array.getD_eq_getD_getElem?,Array.getElem?_append_left (by simpa using hlt)];simp at h1⊢;rw[h1];rfl
  rw[hy];exact h2
 refine wpIn_mono (h M (Base.of w hM.tab) _ w ⟨hH,λb hb=>hb⟩ hrel) λe a' w' ⟨st',⟨β,mem,hsz,hfr,hfree,Ds,hds,hnd,hD⟩,he,hres⟩=>?_
 have hL:LeavesInM (FR none) 0 P fn a'.tmps (λe w'=> ∃y,e= .returned y/\RV M (λ_=>none) w' r y/\Below w.heap.size w w') a'.defers .returning w':=by
  rw[hds];exact iQ hres (λy w'' h1 h2 _ _=>⟨y,rfl,h1,⟨h2.below.os,h2.below.tape,h2.below.output,h2.below.size,h2.below.block⟩⟩) Ds w' hnd hD mem (λt x hx=>by have:=hfr t x hx;rwa[cC rfl] at this)
 rcases he with rfl|rfl
 exact hL;exact hL
theorem FSpecW.to{f:Nat}{args:La}{r:AV}(h:FSpecW P f args r λ_ _=>True):FSpec P f args r:=⟨h.cl,h.enters,λM w vals b a=>h.calls M w vals b trivial a⟩
theorem GSpecK.of{cap:La}{T:Nat->Option La}{N:Nat}{M0:Nat->Prop}{w0:Base}(h:GSpec P g cap T):GSpecK P g cap T N M0 w0:=⟨(h N).enters,λl E M w vals _ a hc=>(h N).calls l N (Nat.le_refl N) E M w vals a hc⟩
end
end Go.Abs
namespace Go.Abs
theorem AEval.sa_lE{P:Program}{ev:Operand->Option AV}{hp:Hq}{id:Nat}{T:Nat}{x lo:Operand}{es es':Lc}{kl:IntKind}{zl:Int}{l:Nat}{d:Nat×Nat}(e:es.drop l=es')(hx:ev x=some (.arr es))(h1:ev lo=some (.v (.int kl zl)))(e1:zl=(l:Int))(hl:l<=es.length)(he:eK P T=some d)(hel:∀e∈es,e.length=d.2):
    AEval P id ev hp (.slice T x (some lo) none none) ⟨.arr es',[]⟩ []:=by subst e;exact AEval.sa_l hx h1 e1 hl he hel
section
variable {b n k:Nat}{l:Ln}
def aw(b n:Nat):Ln:=
 if _h:b<=1\/n=0 then [] else n % b::aw b (n/ b)
termination_by n
decreasing_by exact Nat.div_lt_self ω ω
def ofD(b:Nat):Ln->Nat
 |[]=>0
 |d::l=>d+b* ofD b l
theorem cI(b:Nat):aw b 0=[]:=by rw[aw];simp
theorem eY(hb:1< b)(hn:0< n):aw b n=n % b::aw b (n/ b):=by rw[aw,dif_neg ω]
theorem bY(hb:1< b)(n:Nat):ofD b (aw b n)=n:=by
 induction n using Nat.strongRecOn with
 |_ n c=>
  rcases Nat.eq_zero_or_pos n with rfl|a
  rw[cI];rfl;rw[eY hb a,ofD,c _ (Nat.div_lt_self a hb)];exact Nat.mod_add_div n b
theorem dU(hb:1< b)(n:Nat):∀d∈aw b n,d< b:=by
 induction n using Nat.strongRecOn with
 |_ n e=>
  rcases Nat.eq_zero_or_pos n with rfl|c
  rw[cI];simp;rw[eY hb c];intro d a;rcases List.mem_cons.1 a with rfl|a
  exact Nat.mod_lt _ ω;exact e _ (Nat.div_lt_self c hb) d a
def IsD(b:Nat)(l:Ln):Prop:=(∀d∈l,d< b)/\l.getLast?≠some 0
theorem tR(hb:1< b)(n:Nat):(aw b n).getLast?≠some 0:=by
 induction n using Nat.strongRecOn with
 |_ n c=>
  rcases Nat.eq_zero_or_pos n with rfl|a
  rw[cI];simp;rw[eY hb a];have e:=c _ (Nat.div_lt_self a hb);rw[List.getLast?_cons];intro h;by_cases h0:aw b (n/ b)=[];rw[h0] at h;simp only[List.getLast?_nil,Option.getD_none,Option.some.injEq] at h
  have d:n/ b=0:=by
   have:=bY hb (n/ b);rw[h0] at this;exact this.symm
  have:=Nat.mod_add_div n b;rw[d] at this;omega;cases hl:(aw b (n/ b)).getLast? with
  |none=>simp_all
  |some x=>
   grind
theorem ofD_pos(h:IsD b l)(hl:l≠[]):0< ofD b l:=by
 induction l with
 |nil=>grind
 |cons d l c=>
  rw[ofD];by_cases h0:l=[];subst h0;have a:=h.2;simp at a;omega;have hb:0< b:=by have:=h.1 d (List.mem_cons_self ..);omega
  have:0< ofD b l:=c ⟨λx e=>h.1 x (List.mem_cons_of_mem _ e),by
   have a:=h.2;grind⟩ h0
  have:=Nat.mul_pos hb this;omega
theorem xe{b:Nat}(hb:1< b):∀{l:Ln},IsD b l->aw b (ofD b l)=l
 |[],_=>cI b
 |d::l,h=>by
  have hp:=ofD_pos h ψ;have a:=h.1 d (List.mem_cons_self ..)
  have c:IsD b l:=⟨λx e=>h.1 x (List.mem_cons_of_mem _ e),by
   have f:=h.2;grind⟩
  rw[eY hb hp];have e1:ofD b (d::l) % b=d:=by rw[ofD,Nat.add_mul_mod_self_left];exact Nat.mod_eq_of_lt a
  have e2:ofD b (d::l) / b=ofD b l:=by rw[ofD,Nat.add_mul_div_left _ _ ω,Nat.div_eq_of_lt a];omega
  rw[e1,e2,xe hb c]
theorem ig(b:Nat)(l m:Ln):ofD b (l++m)=ofD b l+b^ l.length* ofD b m:=by
 induction l with
 |nil=>simp[ofD]
 |cons d l a=>simp only[List.cons_append,ofD];grind
theorem fX(h:∀d∈l,d< b):ofD b l< b^ l.length:=by
 induction l with
 |nil=>simp[ofD]
 |cons d l a=>
  have c:=a λx e=>h x (List.mem_cons_of_mem _ e);have f:=h d (List.mem_cons_self ..);rw[ofD,List.length_cons,Nat.pow_succ];have:b* (ofD b l+1)<=b* b^ l.length:=Nat.mul_le_mul_left _ c;grind
theorem tf(b k:Nat):ofD b (List.replicate k 0)=0:=by
 induction k with
 |zero=>rfl
 |succ k a=>rw[List.replicate_succ,ofD,a];simp
theorem eF(b k:Nat)(l:Ln)(h:k<=l.length):ofD b l=ofD b (l.take k)+b^ k* ofD b (l.drop k):=by
 conv=>lhs;rw[<-List.take_append_drop k l]
 rw[ig,List.length_take,Nat.min_eq_left h]
def fH:Ln->Ln
 |[]=>[]
 |d::l=>match fH l with
  |[]=>if d=0 then [] else [d]
  |e::m=>d::e::m
theorem yf(b:Nat):∀l,ofD b (fH l)=ofD b l
 |[]=>rfl
 |d::l=>by
  have a:=yf b l;unfold fH;split
  ·rename_i h
   rw[h] at a;split
   ·rename_i c;subst c;show 0=0+b* ofD b l;rw[<-a];simp[ofD]
   show d+b* ofD b []=d+b* ofD b l;grind
  ·rename_i e m h
   rw[h] at a;show d+b* ofD b (e::m)=d+b* ofD b l;rw[a]
theorem vC:∀l,(fH l).getLast?≠some 0
 |[]=>by simp[fH]
 |d::l=>by
  have a:=vC l;unfold fH;grind
theorem ye:∀l,∀d∈fH l,d∈l
 |[],d,h=>by simp[fH] at h
 |a::l,d,h=>by
  have b:=ye l;unfold fH at h;grind
theorem kH(hb:1< b)(h:∀d∈l,d< b):fH l=aw b (ofD b l):=by
 rw[<-yf b l];exact(xe hb ⟨λd a=>h d (ye l d a),vC l⟩).symm
theorem mH:∀(l:Ln) (k:Nat),k<=l.length->(∀i,k<=i->i< l.length->l[i]?=some 0)->(k=0\/l[k- 1]?≠some 0)->fH l=l.take k
 |[],k,hk,_,_=>by simp[fH]
 |d::l,k,hk,hz,hl=>by
  cases k with
  |zero=>
   have a:=mH l 0 (Nat.zero_le _) (λi _ g=>by have:=hz (i+1) ω φ;grind) (.inl rfl);have f:=hz 0 (Nat.le_refl _) ψ;simp only[List.getElem?_cons_zero,Option.some.injEq] at f;simp[fH,a,f]
  |succ k=>
   have b:∀i,k<=i->i< l.length->l[i]?=some 0:=λi a g=>by have:=hz (i+1) ω φ;grind
   simp only[Nat.add_sub_cancel] at hl;cases k with
   |zero=>
    have a:=mH l 0 (Nat.zero_le _) b (.inl rfl);simp at hl;simp[fH,a,hl]
   |succ k=>
    have c:k+1<=l.length:=φ
    have a:=mH l (k+1) c b (.inr (hl.elim (λh=>absurd h ω) λh=>φ));cases l with
    |nil=>grind
    |cons e m=>
     simp only[List.take_succ_cons] at a⊢;rw[fH,a]
def bl(n:Nat):Nat:=if n=0 then 0 else n.log2+1
theorem wD(n:Nat):n< 2^ bl n:=by
 unfold bl;split
 ·grind
 exact Nat.lt_log2_self
theorem gY(h:n< 2^ k):bl n<=k:=by
 unfold bl;split;omega
 ·rename_i a;exact(Nat.log2_lt a).2 h
theorem bl_lt(h:bl n<=k):n< 2^ k:=Nat.lt_of_lt_of_le (wD n) (Nat.pow_le_pow_right ω h)
theorem dO{m:Nat}(h:m<=n):bl m<=bl n:=gY (Nat.lt_of_le_of_lt h (wD n))
theorem im(m n:Nat):bl (m* n)<=bl m+bl n:=by
 refine gY ?_;rw[Nat.pow_add];exact Nat.mul_lt_mul'' (wD m) (wD n)
theorem Bb(m n:Nat):bl (m+n)<=max (bl m) (bl n)+1:=by
 refine gY ?_;have a:m< 2^ max (bl m) (bl n):=bl_lt (Nat.le_max_left _ _);have b:n< 2^ max (bl m) (bl n):=bl_lt (Nat.le_max_right _ _);grind
theorem G5:bl 0=0:=rfl
theorem jz:bl 1=1:=δ
theorem Lk(h:0< n):0< bl n:=by unfold bl;grind
theorem b8(hb:1< b)(n:Nat):(aw b n).length<=bl n:=by
 induction n using Nat.strongRecOn with
 |_ n e=>
  rcases Nat.eq_zero_or_pos n with rfl|c
  rw[cI];simp;rw[eY hb c,List.length_cons];have g:=e _ (Nat.div_lt_self c hb)
  have f:bl (n/ b)+1<=bl n:=by
   have a:n/ b<=n/ 2:=Nat.div_le_div_left hb ω
   have h:bl (n/ 2)+1<=bl n:=by
    have d:=wD n;have hp:=Lk c
    have:n/ 2< 2^ (bl n- 1):=by
     rw[Nat.div_lt_iff_lt_mul ω];simp_all
    have:=gY this;omega
   have:=dO a;omega
  omega
theorem ft(hb:1< b)(h:n< b^ k):(aw b n).length<=k:=by
 induction k generalizing n with
 |zero=>have:n=0:=φ
        subst this;rw[cI];simp
 |succ k c=>
  rcases Nat.eq_zero_or_pos n with rfl|a
  rw[cI];simp;rw[eY hb a];have:n/ b< b^ k:=by rw[Nat.div_lt_iff_lt_mul ω];exact h
  grind
theorem gi(hb:1< b):aw b n=[]↔n=0:=by
 constructor;intro h;have:=bY hb n;rw[h] at this;exact this.symm;rintro rfl;exact cI b
end
abbrev MB:Nat:=1000000000
def u32(d:Nat):AV:= .v (.int .u32 d)
def i64(z:Int):AV:= .v (.int .i64 z)
def u64(z:Int):AV:= .v (.int .u64 z)
def bln(b:Bool):AV:= .v (.bool b)
def dE(l:Ln):Lc:=l.map λd=>[u32 d]
def mag(n:Nat):AV:= .arr (dE (aw MB n))
@[simp] theorem pc (l:Ln):(dE l).length=l.length:=by simp[dE]
theorem eg{l:Ln}{i d:Nat}(h:l[i]?=some d):(dE l)[i]?=some [u32 d]:=by simp[dE,h]
theorem GV(l:Ln)(k:Nat):(dE l).take k=dE (l.take k):=by simp[dE]
theorem mq(l m:Ln):dE (l++m)=dE l++dE m:=by simp[dE]
theorem iX(l:Ln)(i d:Nat):(dE l).set i [u32 d]=dE (l.set i d):=by simp[dE,List.map_set]
theorem iY(k:Nat):List.replicate k [u32 0]=dE (List.replicate k 0):=by simp[dE]
theorem cZ(l:Ln):(dE l).all (·.all AV.one)=true:=by simp[dE,u32,AV.one];intros;rfl
theorem A4(l:Ln):∀e∈dE l,e.length=1:=by intro e a;simp[dE] at a;obtain⟨d,_,rfl⟩:=a;rfl
theorem cf(l:Ln):∀e∈dE l,∀c∈e,Closed c:=by
 intro e a c hc;simp[dE] at a;obtain⟨d,_,rfl⟩:=a;simp at hc;subst hc;exact ak _
theorem dn(l:Ln):Closed (.arr (dE l)):=aK (cf l)
theorem cr(n:Nat):Closed (mag n):=dn _
theorem af:∀a∈([]:La),Closed a:=λ_ h=>by cases h
theorem ae{a:AV}{l:La}(h:Closed a)(h':∀a∈l,Closed a):∀b∈a::l,Closed b:=by
 intro b hb;rcases List.mem_cons.1 hb with rfl|hb
 exact h;exact h' b hb
theorem AEval.lenD{P:Program}{id:Nat}{ev:Operand->Option AV}{hp:Hq}{c:Call}{x:Operand}{T:Nat}{d:Nat×Nat}{l:Ln}(hc:c.callee= .builtin .len)(ha:c.args= #[x])(ht:c.argTypes= #[T])(hx:ev x=some (.arr (dE l)))(he:eK P T=some d):
    AEval P id ev hp (.call c) ⟨.v (.int .i64 (l.length:Nat)),[]⟩ []:= .len hc ha ht hx (by simp[tl]) he
end Go.Abs
