/- Part V11 of the proof. -/
import Derived.Test.YtkhclghbcicapaaGreatDoorV10
import Derived.Below
set_option linter.all false
namespace Go.Abs
open Go.RowKit
theorem AEval.callV {P:Program} {id:Nat} {ev:Operand→Option AV} {hp:Nat→Option ABlk} {c:Call} {callee:Operand} {f:Nat} {as as':List AV} {r:Value} {rd:List Nat} {rr:Ren} (h1:c.callee= .value callee) (h2:ev callee=some (.clos f [] [])) (h3:evs ev c.args.toList=some as)
    (h4:∀hp':Nat→Option ABlk,(∀i∈rd,hp' i=hp i)→CvL rr hp' (fun _=>none) as as') (h5:FSpec P f as' (.v r)):AEval P id ev hp (.call c) ⟨.v r,[]⟩ rd:=by
 refine .sem fun j D β hp' w ρ o B a g z A C u p=>?_
 have d:∀x,x∈(Op.call c).operands↔x=callee∨x∈c.args.toList:=by
  simp[Op.operands,Call.operands,h1]
 obtain⟨xs,F,m,s,k⟩:=g callee ((d _).2 (.inl rfl)) _ h2;have q:xs= #[]:=Array.ext' s;have l:F= #[]:=Array.ext' k;subst q l;have n:RVs (MM j β hp') β w as (c.args.toList.map ρ):=Ad (fun x m=>g x ((d _).2 (.inr m))) h3;have t:=CvL.rvs a (h4 hp' p) n;have e1:∀b:Nat→Option (Nat×Nat),MM j b (fun _=>none)=j:=fun b=>by funext c;simp[MM]
 rw[e1] at t;refine .inr ⟨f,_,iB B h1 m rfl h5.enters,(h5.calls j w _ ⟨fun b hb=>Nat.lt_of_lt_of_le (D.lt b (a.m0 b hb).1) a.below.size,fun hb=>(a.m0 GT hb).2 rfl,a.tab⟩ (eI h5.cl t)).mono ?_⟩;rintro e G ⟨y,rfl,E,hb⟩;have h:=a.ext hb;exact⟨y,rfl,β,h.1,E,h.2,fun _ _=>rfl⟩
theorem yN{r:Ren}{hp hp':Nat→Option ABlk}:∀(k:Nat) {a b:List (List AV)},CvLL r hp hp' a b→CvLL r hp hp' (a.drop k) (b.drop k)
 |0,_,_,h=>h
 |k+1,[],_,h=>by cases (h:_=[]);exact CvLL.nil
 |k+1,x::xs,_,⟨y,ys,e,_,h2⟩=>by subst e;exact yN k h2
theorem yM{r:Ren}{hp hp':Nat→Option ABlk}:∀(k:Nat) {a b:List (List AV)},CvLL r hp hp' a b→CvLL r hp hp' (a.take k) (b.take k)
 |0,_,_,_=>CvLL.nil
 |k+1,[],_,h=>by cases (h:_=[]);exact CvLL.nil
 |k+1,x::xs,_,⟨y,ys,e,h1,h2⟩=>by subst e;exact CvLL.cons h1 (yM k h2)
theorem GP{r:Ren}{hp:Nat→Option ABlk}{sz TQ:Nat}{w:Nat→Nat}{L:List (List (List AV))}(hz:sz≠0)(hr:∀i e,L[i]?=some e→hp (i+2)=some ⟨TQ,sz,e⟩)(hw:∀i e,L[i]?=some e→e.length=w i)(hc:∀e∈L,∀x∈e,∀c∈x,Closed c):
    CvLL r hp (fun _=>none) (mzO sz w (fun x=>x) L.length) (L.map fun e=>[.arr e]):=by
 have a:∀(l:List (List (List AV))) (k:Nat),(∀i e,l[i]?=some e→L[k+i]?=some e)→CvLL r hp (fun _=>none) ((List.range' k l.length).map fun i=>[.lsl (i+2) 0 (w i) none sz]) (l.map fun e=>[.arr e]):=by
  intro l
  induction l with
  |nil=>intro k _;exact CvLL.nil
  |cons e l f=>
   intro k b;have d:L[k]?=some e:=b 0 e rfl;have g:=List.mem_of_getElem? d
   refine CvLL.cons (ai ?_ aw) (f (k+1) fun i m h=>by
    have:=b (i+1) m (by grind);grind)
   refine Cv.shut (es:=e) ay (ew (hr k e d) hz) (fun j B n=>by grind) (by grind) ?_;rw[List.take_of_length_le (by grind)];exact cv ay (hc e g)
 have:=a L 0 fun i e h=>by grind
 rw[←List.range_eq_range'] at this;exact this
theorem Cv.mzV {r:Ren} {hp:Nat→Option ABlk} {cap:Option Nat} {sz TS TQ a m:Nat} {w:Nat→Nat} {L:List (List (List AV))} (hz:sz≠0) (h1:hp 1=some ⟨TS,1,mzO sz w (fun x=>x) L.length⟩) (hr:∀i e,L[i]?=some e→hp (i+2)=some ⟨TQ,sz,e⟩) (hw:∀i e,L[i]?=some e→e.length=w i)
    (hc:∀e∈L,∀x∈e,∀c∈x,Closed c) (ham:a+m≤L.length):Cv r hp (fun _=>none) (.lsl 1 a m cap 1) (.arr (((L.map fun e=>[.arr e]).drop a).take m)):=
 Cv.shut (es:=((L.map fun e=>[.arr e]).drop a).take m) ay (ew h1 (show(1:Nat)≠0 by decide)) (fun j B b=>by grind) (by simp_all) (yM m (yN a (GP hz hr hw hc)))
theorem XSpec.enterC {P:Program} {f:Nat} {fn:Func} {c:Code} {nx:Nat} {v:AV} {hp:Hp} {args:List AV} (hf:P.funcs[f]?=some fn) (hb:fn.body=some c) (hname:(fn.name== "runtime.NumGoroutine")=false) {rs:List ResultVar} (hrs:fn.results.toList=rs) {m:Nat} (hm:fn.ntmps=m) (hn:Nat.ble args.length m=true)
    {fr:Fr} (hfr:dI 0 args=fr) (h:AWp none P c (Fin P rs v) ⟨fr,hp,nx,m⟩):XSpec P f args hp nx v [] 1:=by
 subst hrs hm hfr;have hn:=Nat.le_of_ble_eq_true hn;refine⟨fun xs w=>?_,fun M w0 β vals hgh mem hfree hargs=>?_⟩;have hname':¬fn.name= "runtime.NumGoroutine" :=by grind
 simp[callFunc,hf,hname',hb];refine(callsIn_wide (n:=0)).1 (callsIn_of_wp_marks (F:=Fence.wide) hf hb trivial ?_);have hlen:=hargs.length
 have hrel:kV M w0 ⟨dI 0 args,hp,nx,fn.ntmps⟩ {tmps:=vals.toArray++Array.replicate (fn.ntmps- vals.toArray.size) undef,defers:=[]} w0.w:=by
  refine⟨β,mem,by grind,fun t x hx=>?_,hfree,⟨[],rfl,List.nodup_nil,by simp⟩⟩;rw[cW hgh]
  have key:∀{as:List AV} {vs:List Value} {i t:Nat} {x:AV},RVs (MM M β (ap hp)) β w0.w as vs→look (dI i as) t=some x→i≤t∧∃y,vs[t- i]?=some y∧RV (MM M β (ap hp)) β w0.w x y:=by
   intro as
   induction as with
   |nil=>intro vs i t x _ h;cases h
   |cons a as ih=>
    rintro vs i t x ⟨y,ys,e,h1,h2⟩ h;subst e;simp only[dI] at h;rw[cO] at h;unfold upd at h;grind
  obtain⟨_,y,h1,h2⟩:=key hargs hx
  have hy:(vals.toArray++Array.replicate (fn.ntmps- vals.toArray.size) undef).getD t undef=y:=by
   have hlt:t< vals.length:=by grind
   rw[Array.getD_eq_getD_getElem?,Array.getElem?_append_left (by grind)];grind
  grind
 refine wpIn_mono (h M w0 _ w0.w hrel) fun x a' w' ⟨st',⟨β2,mem2,hsz,hfr,hfree2,Ds,hds,hnd,hD⟩,he,hres⟩=>?_;have e0:∀(M:Nat→Prop) (b:Nat→Option (Nat×Nat)),MM M b (ap [])=M:=fun M b=>by funext c;simp[MM,ap,look]
 have hL:LeavesInM (FR none) 0 P fn a'.tmps (fun x w'=> ∃y β',x= .returned y∧Mem M w0 β' (ap []) w'∧RV (MM M β' (ap [])) β' w' v y∧∀i,1≤i→β' i=none∧i≠0) a'.defers .returning w':=by
  rw[hds];exact jF hres (fun y w'' h1 h2 _ _=>⟨y,fun _=>none,rfl,⟨h2.below,h2.m0,(fun _ _ _ h=>by cases h),(fun h=>by cases h),(fun _ _ h=>by cases h),fun _ _ _ _ _ _ _ h=>by cases h⟩,by rw[e0];exact h1,fun i hi=>⟨rfl,by omega⟩⟩) Ds w' hnd hD mem2 (fun t x hx=>by have:=hfr t x hx;rwa[cW hgh] at this)
 rcases he with rfl|rfl
 exact hL;exact hL
def mzX(sz TS TQ:Nat)(o:List (List AV))(L:List (List (List AV)))(ex:Hp):Hp:=ex++mzH sz TS TQ o L
def InX(m i:Nat):Prop:=(1≤i∧i< m+2)∨(35≤i∧i< 40)
theorem nO{l:Hp}{t:Nat}:∀ex:Hp,(∀p∈ex,p.1≠t)→ap (ex++l) t=ap l t
 |[],_=>rfl
 |(k,x)::ex,h=>by
  rw[List.cons_append,dq];unfold upd;rw[if_neg fun e=>h (k,x) (List.mem_cons_self ..) e.symm];exact nO ex fun p hp=>h p (List.mem_cons_of_mem _ hp)
section
variable {sz:Nat}{fr fr':Fr}{hp ex:Hp}{nx N TS TQ:Nat}{o o':List (List AV)}{L:List (List (List AV))}{e:List (List AV)}{k:Nat}
theorem mzX_row(hid:∀p∈ex,35≤p.1∧p.1< 40)(hk:k≤30)(h:L[k]?=some e):ap (mzX sz TS TQ o L ex) (k+2)=some ⟨TQ,sz,e⟩:=by
 unfold mzX;rw[nO ex fun p hp e=>by grind];exact dx h
theorem mzX_out(hid:∀p∈ex,35≤p.1∧p.1< 40):ap (mzX sz TS TQ o L ex) 1=some ⟨TS,1,o⟩:=by
 unfold mzX;rw[nO ex fun p hp e=>by grind];rfl
theorem SEntT.mzx (s:Nat→Nat) (hL:L.length≤30) (s0:s 0=0) (hinj:∀i j,InX L.length i→InX L.length j→s i=s j→i=j)
    (h1:ap hp (s 1)=some ⟨TS,1,o'⟩) (ho:o'.length=o.length) (hr:∀i e,L[i]?=some e→ap hp (s (i+2))=some ⟨TQ,sz,e⟩∧∀x∈e,∀c∈x,Closed c) (hid:∀p∈ex,35≤p.1∧p.1< 40)
    (hex:∀i B,(i,some B)∈ex→∃B0,ap hp (s i)=some B0∧B0.ty=B.ty∧B0.sz=B.sz∧B0.es.length=B.es.length)
    (hO:Shr ⟨40,s⟩ (ap hp) (ap (mzX sz TS TQ o L ex))→CvLL ⟨40,s⟩ (ap hp) (ap (mzX sz TS TQ o L ex)) o' o)
    (hE:Shr ⟨40,s⟩ (ap hp) (ap (mzX sz TS TQ o L ex))→∀i B B0,(i,some B)∈ex→ap hp (s i)=some B0→CvLL ⟨40,s⟩ (ap hp) (ap (mzX sz TS TQ o L ex)) B0.es B.es)
    (hF:Shr ⟨40,s⟩ (ap hp) (ap (mzX sz TS TQ o L ex))→CvF ⟨40,s⟩ (ap hp) (ap (mzX sz TS TQ o L ex)) fr fr'):SEntT ⟨fr,hp,nx,N⟩ ⟨fr',mzX sz TS TQ o L ex,40,N⟩:=by
 have d:∀i B,(i,some B)∈mzX sz TS TQ o L ex→(i,some B)∈ex∨(i=1∧B=⟨TS,1,o⟩)∨∃k e,L[k]?=some e∧i=k+2∧B=⟨TQ,sz,e⟩:=fun i B h=>by
  rcases List.mem_append.1 h with h|h
  exact .inl h;rcases List.mem_cons.1 h with h|h
  cases h;exact .inr (.inl ⟨rfl,rfl⟩);obtain⟨k,e,f,r,k3⟩:=uK L 2 i B h;grind
 have l:Shr ⟨40,s⟩ (ap hp) (ap (mzX sz TS TQ o L ex)):=⟨fun i B h=>by
  rcases d i B (ji h) with b|⟨rfl,rfl⟩|⟨k,e,f,rfl,rfl⟩
  obtain⟨B0,b1,b2,m,n⟩:=hex i B b;exact⟨(hid _ b).2,B0,b1,b2,m,n⟩;exact⟨(show 1< 40 by decide),_,h1,rfl,rfl,ho⟩;grind⟩
 refine SEntT.intro (st:=⟨fr,hp,nx,N⟩) (st':=⟨fr',mzX sz TS TQ o L ex,40,N⟩) ⟨40,s⟩ rfl (show 0< 40 by decide) s0 (uR _ fun i j a q e=>?_) rfl (hF l) (xj _ fun i B h=>?_)
 have g:∀i,i∈(mzX sz TS TQ o L ex).map (·.1)→InX L.length i:=fun i a=>by
  unfold mzX at a;rw[List.map_append,List.mem_append] at a;rcases a with a|a
  obtain⟨p,hp,rfl⟩:=List.mem_map.1 a;exact .inr (hid p hp);rcases List.mem_cons.1 a with h|h
  have h:i=1:=h;exact .inl ⟨by omega,by omega⟩;have:=uL L 2 i h;exact .inl ⟨by omega,by omega⟩
 exact hinj i j (g i a) (g j q) e;rcases d i B h with b|⟨rfl,rfl⟩|⟨k,e,f,rfl,rfl⟩
 obtain⟨B0,b1,b2,m,n⟩:=hex i B b;exact⟨(hid _ b).2,B0,b1,b2,m,hE l i B B0 b b1⟩;exact⟨(show 1< 40 by decide),_,h1,rfl,rfl,hO l⟩;exact⟨by grind,_,(hr k e f).1,rfl,rfl,cv l (hr k e f).2⟩
end
theorem FSpec.xs{P:Program}{f:Nat}{args:List AV}{r:AV}(h:FSpec P f args r)(hr:Closed r):XSpec P f args [] 1 r [] 1:=by
 have e0:∀(M:Nat→Prop) (b:Nat→Option (Nat×Nat)),MM M b (ap [])=M:=fun M b=>by funext c;simp[MM,ap,look]
 refine⟨h.enters,fun M j β vals l d g a=>?_⟩;rw[e0] at a;refine(h.calls M j.w vals ⟨fun b hb=>j.lt b (d.m0 b hb).1,fun hb=>(d.m0 GT hb).2 rfl,d.tab⟩ (eI h.cl a)).mono ?_;rintro e n ⟨y,rfl,m,hb⟩;have i:=d.ext hb;refine⟨y,β,rfl,i.1,?_,g⟩;rw[e0];exact y6 hr m (fun _ _ _ _=>rfl) (fun b _ _ k=>k) fun _ _ h=>h
theorem look_mem':∀{fr:Fr} {t:Nat} {x:AV},look fr t=some x→(t,x)∈fr
 |[],_,_,h=>by cases h
 |(s,y)::fr,t,x,h=>by
  rw[cO] at h;unfold upd at h;split at h
  ·rename_i e;cases h;subst e;exact List.mem_cons_self ..
  exact List.mem_cons_of_mem _ (look_mem' h)
theorem keepF{fr2 fr3:Fr}(h:∀p∈fr3,look fr2 p.1=some p.2∧Closed p.2):∀t x,look fr3 t=some x→look fr2 t=some x∧Closed x:=fun t x a=>h (t,x) (look_mem' a)
theorem loF{fr3:Fr}(h:fr3.all (fun p=>Nat.blt p.1 1000)=true):∀t x,look fr3 t=some x→t< 1000:=fun t x a=>Nat.le_of_ble_eq_true (List.all_eq_true.1 h _ (look_mem' a))
theorem SEnt.keep{fr fr':Fr}{hp:Hp}{nx nx' n:Nat}(hk:∀p∈fr',look fr p.1=some p.2)(hn:nx≤nx'):SEnt ⟨fr,hp,nx,n⟩ ⟨fr',hp,nx',n⟩:=fun M g a w ⟨β,c,h1,d,b,f⟩=>
 ⟨β,c,h1,fun t x h=>d t x (hk (t,x) (look_mem' h)),fun i e=>b i (Nat.le_trans hn e),f⟩
theorem u7{fr:Fr}:∀p∈([]:Fr),look fr p.1=some p.2:=fun p hp=>by cases hp
theorem all_cons{fr fr':Fr}{t:Nat}{x:AV}(h1:look fr t=some x)(h2:∀p∈fr',look fr p.1=some p.2):∀p∈(t,x)::fr',look fr p.1=some p.2:=fun p hp=>by
 rcases List.mem_cons.1 hp with rfl|hp
 exact h1;exact h2 p hp
def ArgsV(ev:Operand→Option AV)(y0:Value)(v:AV):List Operand→List AV→Prop
 |[],as=>as=[]
 |x::xs,as=> ∃a as',as=a::as'∧((ev x=some (.v y0)∧a=v)∨(ev x=some a∧Closed a))∧ArgsV ev y0 v xs as'
theorem ArgsV.nil{ev:Operand→Option AV}{y0:Value}{v:AV}:ArgsV ev y0 v [] []:=rfl
theorem ArgsV.own{ev:Operand→Option AV}{y0:Value}{v:AV}{x:Operand}{xs:List Operand}{as:List AV}(h1:ev x=some (.v y0))(h:ArgsV ev y0 v xs as):ArgsV ev y0 v (x::xs) (v::as):=⟨_,_,rfl,.inl ⟨h1,rfl⟩,h⟩
theorem ArgsV.clo{ev:Operand→Option AV}{y0:Value}{v a:AV}{x:Operand}{xs:List Operand}{as:List AV}(h1:ev x=some a)(h2:Closed a)(h:ArgsV ev y0 v xs as):ArgsV ev y0 v (x::xs) (a::as):=⟨_,_,rfl,.inr ⟨h1,h2⟩,h⟩
theorem ArgsV.congr{ev ev':Operand→Option AV}{y0:Value}{v:AV}:∀{xs:List Operand} {as:List AV},(∀x∈xs,ev' x=ev x)→ArgsV ev y0 v xs as→ArgsV ev' y0 v xs as
 |[],_,_,h=>h
 |x::xs,_,he,⟨a,as',e,h1,h2⟩=>by
  have e0:=he x (List.mem_cons_self ..);exact⟨a,as',e,h1.imp (fun⟨b,c⟩=>⟨e0.trans b,c⟩) (fun⟨b,c⟩=>⟨e0.trans b,c⟩),ArgsV.congr (fun z d=>he z (List.mem_cons_of_mem _ d)) h2⟩
structure PkgV (M00:Nat→Prop)(w00:Base)(hpA:Hp)(nxA:Nat)(v:AV)(y0:Value)(βS:Nat→Option (Nat×Nat))(M0:Nat→Prop)(w0:Base)(M:Nat→Prop)(w:World):Prop where
 m:∀b,M0 b↔M00 b∨∃i s,βS i=some (b,s)
 k:∀b,w0.K b↔w00.K b∨∃i s,βS i=some (b,s)
 rng:∀i b s,βS i=some (b,s)→¬w00.K b∧b< w.heap.size
 live:∀i x,βS i=some x→(ap hpA i).isSome=true
 blk:∀i B,ap hpA i=some B→∃b,βS i=some (b,B.sz)∧BlkAt M βS w b B
 inj:∀i j B B' b s s',ap hpA i=some B→ap hpA j=some B'→βS i=some (b,s)→βS j=some (b,s')→i=j
 free:∀i,nxA≤i→βS i=none∧i≠0
 zero:(ap hpA 0).isSome=true→False
 val:RV M βS w v y0
structure XQ (jB:Nat)(y0:Value)(v:AV)(hpA:Hp)(nxA:Nat)(M00:Nat→Prop)(w00:Base)(H:List Nat→Nat→Option ABlk)(σ:List Nat)(M0:Nat→Prop)(w0:Base)(β:Nat→Option (Nat×Nat))(w:World):Prop where
 kept:w00.Kept w
 m00:∀b,M00 b→w00.K b∧b≠GT
 pin:w0.pin=w00.pin
 no:jB∈σ→(∀b,M0 b↔M00 b)∧(∀b,w0.K b↔w00.K b)
 yes:jB∉σ→∃βS,PkgV M00 w00 hpA nxA v y0 βS M0 w0 (MM M0 β (H σ)) w
section
variable {P:Program}{jB j id nxA:Nat}{v:AV}{y0:Value}{hpA:Hp}{M00 M0:Nat→Prop}{w00 w0:Base}{H:List Nat→Nat→Option ABlk}{σ:List Nat}{β β':Nat→Option (Nat×Nat)}{a:Act}{w w':World}{u:Upd}{y:Value}
theorem XQ.sub(hX:XQ jB y0 v hpA nxA M00 w00 H σ M0 w0 β w):(∀b,w00.K b→w0.K b)∧∀b,M00 b→M0 b:=by
 by_cases h2:jB∈σ;obtain⟨c,a⟩:=hX.no h2;exact⟨fun b hb=>(a b).2 hb,fun b hb=>(c b).2 hb⟩;obtain⟨d,p⟩:=hX.yes h2;exact⟨fun b hb=>(p.k b).2 (.inl hb),fun b hb=>(p.m b).2 (.inl hb)⟩
end
def kB(jB:Nat)(y0:Value)(v:AV)(gB:Nat)(asB:List AV)(fB:Operand)(xB:List Operand)(j:Nat)(fr:Nat→Option AV):Prop:=
 j=jB→evF fr fB=some (.clos gB [] [])∧∃as,ArgsV (evF fr) y0 v xB as∧as.map coe=asB
theorem kB.b{jB:Nat}{y0:Value}{v:AV}{gB:Nat}{asB as:List AV}{fB:Operand}{xB:List Operand}{fr:Nat→Option AV}(h1:evF fr fB=some (.clos gB [] []))(h2:ArgsV (evF fr) y0 v xB as)(h4:as.map coe=asB):kB jB y0 v gB asB fB xB jB fr:=
 fun _=>⟨h1,as,h2,h4⟩
end Go.Abs
namespace Go.Abs
def av(b n:Nat):List Nat:=
 if _h:b≤1∨n=0 then [] else n % b::av b (n/ b)
termination_by n
decreasing_by exact Nat.div_lt_self (by omega) (by omega)
def ofD(b:Nat):List Nat→Nat
 |[]=>0
 |d::l=>d+b* ofD b l
theorem cP(b:Nat):av b 0=[]:=by rw[av];simp
theorem fU{b n:Nat}(hb:1< b)(hn:0< n):av b n=n % b::av b (n/ b):=by rw[av,dif_neg (by omega)]
theorem bG{b:Nat}(hb:1< b)(n:Nat):ofD b (av b n)=n:=by
 induction n using Nat.strongRecOn with
 |_ n c=>
  rcases Nat.eq_zero_or_pos n with rfl|a
  rw[cP];rfl;rw[fU hb a,ofD,c _ (Nat.div_lt_self a hb)];exact Nat.mod_add_div n b
theorem ee{b:Nat}(hb:1< b)(n:Nat):∀d∈av b n,d< b:=by
 induction n using Nat.strongRecOn with
 |_ n e=>
  rcases Nat.eq_zero_or_pos n with rfl|c
  rw[cP];simp;rw[fU hb c];intro d a;rcases List.mem_cons.1 a with rfl|a
  exact Nat.mod_lt _ (by omega);exact e _ (Nat.div_lt_self c hb) d a
def IsD(b:Nat)(l:List Nat):Prop:=(∀d∈l,d< b)∧l.getLast?≠some 0
theorem tJ{b:Nat}(hb:1< b)(n:Nat):(av b n).getLast?≠some 0:=by
 induction n using Nat.strongRecOn with
 |_ n c=>
  rcases Nat.eq_zero_or_pos n with rfl|a
  rw[cP];simp;rw[fU hb a];have h1:=c _ (Nat.div_lt_self a hb);rw[List.getLast?_cons];intro h;by_cases h0:av b (n/ b)=[];rw[h0] at h;simp only[List.getLast?_nil,Option.getD_none,Option.some.injEq] at h
  have d:n/ b=0:=by
   have:=bG hb (n/ b);rw[h0] at this;exact this.symm
  have:=Nat.mod_add_div n b;rw[d] at this;omega;cases hl:(av b (n/ b)).getLast? with
  |none=>simp_all
  |some x=>
   grind
theorem ofD_pos{b:Nat}{l:List Nat}(h:IsD b l)(hl:l≠[]):0< ofD b l:=by
 induction l with
 |nil=>grind
 |cons d l e=>
  rw[ofD];by_cases h0:l=[];subst h0;have a:=h.2;simp at a;omega;have hb:0< b:=by have:=h.1 d (List.mem_cons_self ..);omega
  have:0< ofD b l:=e ⟨fun x c=>h.1 x (List.mem_cons_of_mem _ c),by
   have a:=h.2;grind⟩ h0
  have:=Nat.mul_pos hb this;omega
theorem wH{b:Nat}(hb:1< b):∀{l:List Nat},IsD b l→av b (ofD b l)=l
 |[],_=>cP b
 |d::l,h=>by
  have hp:=ofD_pos h (by simp);have a:=h.1 d (List.mem_cons_self ..)
  have c:IsD b l:=⟨fun x e=>h.1 x (List.mem_cons_of_mem _ e),by
   have f:=h.2;grind⟩
  rw[fU hb hp];have e1:ofD b (d::l) % b=d:=by rw[ofD,Nat.add_mul_mod_self_left];exact Nat.mod_eq_of_lt a
  have e2:ofD b (d::l) / b=ofD b l:=by rw[ofD,Nat.add_mul_div_left _ _ (by omega),Nat.div_eq_of_lt a];omega
  rw[e1,e2,wH hb c]
theorem iv(b:Nat)(l m:List Nat):ofD b (l++m)=ofD b l+b^ l.length* ofD b m:=by
 induction l with
 |nil=>simp[ofD]
 |cons d l a=>simp only[List.cons_append,ofD];grind
theorem gG{b:Nat}{l:List Nat}(h:∀d∈l,d< b):ofD b l< b^ l.length:=by
 induction l with
 |nil=>simp[ofD]
 |cons d l c=>
  have h1:=c fun x a=>h x (List.mem_cons_of_mem _ a);have e:=h d (List.mem_cons_self ..);rw[ofD,List.length_cons,Nat.pow_succ];have:b* (ofD b l+1)≤b* b^ l.length:=Nat.mul_le_mul_left _ h1;grind
theorem ta(b k:Nat):ofD b (List.replicate k 0)=0:=by
 induction k with
 |zero=>rfl
 |succ k a=>rw[List.replicate_succ,ofD,a];simp
theorem eD(b k:Nat)(l:List Nat)(h:k≤l.length):ofD b l=ofD b (l.take k)+b^ k* ofD b (l.drop k):=by
 conv=>lhs;rw[←List.take_append_drop k l]
 rw[iv,List.length_take,Nat.min_eq_left h]
def fS:List Nat→List Nat
 |[]=>[]
 |d::l=>match fS l with
  |[]=>if d=0 then [] else [d]
  |e::m=>d::e::m
theorem xI(b:Nat):∀l,ofD b (fS l)=ofD b l
 |[]=>rfl
 |d::l=>by
  have a:=xI b l;unfold fS;split
  ·rename_i h
   rw[h] at a;split
   ·rename_i c;subst c;show 0=0+b* ofD b l;rw[←a];simp[ofD]
   show d+b* ofD b []=d+b* ofD b l;grind
  ·rename_i e m h
   rw[h] at a;show d+b* ofD b (e::m)=d+b* ofD b l;rw[a]
theorem vn:∀l,(fS l).getLast?≠some 0
 |[]=>by simp[fS]
 |d::l=>by
  have a:=vn l;unfold fS;grind
theorem xH:∀l,∀d∈fS l,d∈l
 |[],d,h=>by simp[fS] at h
 |a::l,d,h=>by
  have b:=xH l;unfold fS at h;grind
theorem kD{b:Nat}(hb:1< b){l:List Nat}(h:∀d∈l,d< b):fS l=av b (ofD b l):=by
 rw[←xI b l];exact(wH hb ⟨fun d a=>h d (xH l d a),vn l⟩).symm
theorem mF:∀(l:List Nat) (k:Nat),k≤l.length→(∀i,k≤i→i< l.length→l[i]?=some 0)→(k=0∨l[k- 1]?≠some 0)→fS l=l.take k
 |[],k,hk,_,_=>by simp[fS]
 |d::l,k,hk,hz,hl=>by
  cases k with
  |zero=>
   have h1:=mF l 0 (Nat.zero_le _) (fun i _ f=>by have:=hz (i+1) (by omega) (by grind);grind) (.inl rfl);have c:=hz 0 (Nat.le_refl _) (by simp);simp only[List.getElem?_cons_zero,Option.some.injEq] at c;simp[fS,h1,c]
  |succ k=>
   have b:∀i,k≤i→i< l.length→l[i]?=some 0:=fun i h1 f=>by have:=hz (i+1) (by omega) (by grind);grind
   simp only[Nat.add_sub_cancel] at hl;cases k with
   |zero=>
    have h1:=mF l 0 (Nat.zero_le _) b (.inl rfl);simp at hl;simp[fS,h1,hl]
   |succ k=>
    have a:k+1≤l.length:=by grind
    have h1:=mF l (k+1) a b (.inr (hl.elim (fun h=>absurd h (by omega)) fun h=>by grind));cases l with
    |nil=>grind
    |cons e m=>
     simp only[List.take_succ_cons] at h1⊢;rw[fS,h1]
def bl(n:Nat):Nat:=if n=0 then 0 else n.log2+1
theorem uj(n:Nat):n< 2^ bl n:=by
 unfold bl;split
 ·grind
 exact Nat.lt_log2_self
theorem ez{n k:Nat}(h:n< 2^ k):bl n≤k:=by
 unfold bl;split;omega
 ·rename_i a;exact(Nat.log2_lt a).2 h
theorem bl_lt{n k:Nat}(h:bl n≤k):n< 2^ k:=Nat.lt_of_lt_of_le (uj n) (Nat.pow_le_pow_right (by omega) h)
theorem dP{m n:Nat}(h:m≤n):bl m≤bl n:=ez (Nat.lt_of_le_of_lt h (uj n))
theorem jz(m n:Nat):bl (m* n)≤bl m+bl n:=by
 refine ez ?_;rw[Nat.pow_add];exact Nat.mul_lt_mul'' (uj m) (uj n)
theorem AB(m n:Nat):bl (m+n)≤max (bl m) (bl n)+1:=by
 refine ez ?_;have h1:m< 2^ max (bl m) (bl n):=bl_lt (Nat.le_max_left _ _);have a:n< 2^ max (bl m) (bl n):=bl_lt (Nat.le_max_right _ _);grind
theorem bl_zero:bl 0=0:=rfl
theorem j2:bl 1=1:=by decide
theorem Jj{n:Nat}(h:0< n):0< bl n:=by unfold bl;grind
theorem b8{b:Nat}(hb:1< b)(n:Nat):(av b n).length≤bl n:=by
 induction n using Nat.strongRecOn with
 |_ n d=>
  rcases Nat.eq_zero_or_pos n with rfl|c
  rw[cP];simp;rw[fU hb c,List.length_cons];have h1:=d _ (Nat.div_lt_self c hb)
  have f:bl (n/ b)+1≤bl n:=by
   have a:n/ b≤n/ 2:=Nat.div_le_div_left hb (by omega)
   have g:bl (n/ 2)+1≤bl n:=by
    have e:=uj n;have hp:=Jj c
    have:n/ 2< 2^ (bl n- 1):=by
     rw[Nat.div_lt_iff_lt_mul (by omega)];simp_all
    have:=ez this;omega
   have:=dP a;omega
  omega
theorem gL{b:Nat}(hb:1< b){n k:Nat}(h:n< b^ k):(av b n).length≤k:=by
 induction k generalizing n with
 |zero=>have:n=0:=by grind
        subst this;rw[cP];simp
 |succ k c=>
  rcases Nat.eq_zero_or_pos n with rfl|a
  rw[cP];simp;rw[fU hb a];have:n/ b< b^ k:=by rw[Nat.div_lt_iff_lt_mul (by omega)];exact h
  grind
theorem jR{b n:Nat}(hb:1< b):av b n=[]↔n=0:=by
 constructor;intro h;have:=bG hb n;rw[h] at this;exact this.symm;rintro rfl;exact cP b
abbrev MB:Nat:=1000000000
def u32(d:Nat):AV:= .v (.int .u32 d)
def i64(z:Int):AV:= .v (.int .i64 z)
def u64(z:Int):AV:= .v (.int .u64 z)
def bln(b:Bool):AV:= .v (.bool b)
def dE(l:List Nat):List (List AV):=l.map fun d=>[u32 d]
def mag(n:Nat):AV:= .arr (dE (av MB n))
@[simp] theorem tM (l:List Nat):(dE l).length=l.length:=by simp[dE]
theorem ea{l:List Nat}{i d:Nat}(h:l[i]?=some d):(dE l)[i]?=some [u32 d]:=by simp[dE,h]
theorem Fs(l:List Nat)(k:Nat):(dE l).take k=dE (l.take k):=by simp[dE]
theorem mf(l m:List Nat):dE (l++m)=dE l++dE m:=by simp[dE]
theorem iU(l:List Nat)(i d:Nat):(dE l).set i [u32 d]=dE (l.set i d):=by simp[dE,List.map_set]
theorem iV(k:Nat):List.replicate k [u32 0]=dE (List.replicate k 0):=by simp[dE]
theorem gf(l:List Nat):(dE l).all (·.all AV.one)=true:=by simp[dE,u32,AV.one];intros;rfl
theorem Ap(l:List Nat):∀e∈dE l,e.length=1:=by intro e a;simp[dE] at a;obtain⟨d,_,rfl⟩:=a;rfl
theorem b6(l:List Nat):∀e∈dE l,∀c∈e,Closed c:=by
 intro e a c hc;simp[dE] at a;obtain⟨d,_,rfl⟩:=a;simp at hc;subst hc;exact ah _
theorem di(l:List Nat):Closed (.arr (dE l)):=aK (b6 l)
theorem cm(n:Nat):Closed (mag n):=di _
theorem ag:∀a∈([]:List AV),Closed a:=fun _ h=>by cases h
theorem ac{a:AV}{l:List AV}(h:Closed a)(h':∀a∈l,Closed a):∀b∈a::l,Closed b:=by
 intro b hb;rcases List.mem_cons.1 hb with rfl|hb
 exact h;exact h' b hb
theorem AEval.lenD{P:Program}{id:Nat}{ev:Operand→Option AV}{hp:Nat→Option ABlk}{c:Call}{x:Operand}{T:Nat}{d:Nat×Nat}{l:List Nat}(hc:c.callee= .builtin .len)(ha:c.args= #[x])(ht:c.argTypes= #[T])(hx:ev x=some (.arr (dE l)))(he:eO P T=some d):
    AEval P id ev hp (.call c) ⟨.v (.int .i64 (l.length:Nat)),[]⟩ []:= .len hc ha ht hx (by simp[tg]) he
def zI(z:Int):List AV:=[mag z.natAbs,bln (decide (z< 0))]
def qC(q:Rat):List AV:=[mag q.num.natAbs,bln (decide (q.num< 0)),mag (q.den- 1)]
def sgn(b:Bool)(m:Nat):Int:=if b then -(m:Int) else m
theorem yB(z:Int):∀c∈zI z,Closed c:=ac (cm _) (ac (ah _) ag)
theorem a7(q:Rat):∀c∈qC q,Closed c:=ac (cm _) (ac (ah _) (ac (cm _) ag))
theorem ju(z:Int):Closed (.agg (zI z)):=aB (yB z)
theorem aP(q:Rat):Closed (.agg (qC q)):=aB (a7 q)
theorem closed_mA(n:Nat):Closed (.agg [mag n]):=aB (ac (cm n) ag)
theorem gD(b:Bool)(m:Nat):(sgn b m).natAbs=m:=by unfold sgn;grind
theorem sgn_neg(b:Bool)(m:Nat):decide (sgn b m< 0)=(b && !(m==0)):=by
 unfold sgn;grind
theorem qH(z:Int):sgn (decide (z< 0)) z.natAbs=z:=by
 unfold sgn;grind
def qs(q:Rat):Nat:=max (bl q.num.natAbs) (bl q.den)
theorem lR{n:Int}{d:Nat}(hd:0< d):(mkRat n d).num=n/ (Nat.gcd n.natAbs d:Int)∧(mkRat n d).den=d/ Nat.gcd n.natAbs d:=by
 unfold mkRat;rw[dif_neg (by omega),Rat.normalize_eq];grind
theorem ki{n:Int}{d:Nat}(hd:0< d):(mkRat n d).num=sgn (decide (n< 0)) (n.natAbs/ Nat.gcd n.natAbs d):=by
 rw[(lR hd).1];have hg:0< Nat.gcd n.natAbs d:=Nat.gcd_pos_of_pos_right _ hd;obtain⟨k,a⟩:=Nat.gcd_dvd_left n.natAbs d;generalize Nat.gcd n.natAbs d=g at hg a⊢;rw[a,Nat.mul_div_cancel_left _ hg];unfold sgn;split
 ·rename_i h
  have:=of_decide_eq_true h;have e:n=(g:Int) * (-(k:Int)):=by rw[Int.mul_neg,←Int.natCast_mul];omega
  rw[e,Int.mul_ediv_cancel_left _ (by omega)]
 ·have e:n=(g:Int) * (k:Int):=by grind
  rw[e,Int.mul_ediv_cancel_left _ (by omega)]
theorem fG(a b:Nat):bl (a/ b)≤bl a:=dP (Nat.div_le_self _ _)
theorem gF{n:Int}{d:Nat}(hd:0< d){k:Nat}(h1:bl n.natAbs≤k)(h2:bl d≤k):qs (mkRat n d)≤k:=by
 unfold qs;rw[ki hd,gD,(lR hd).2];exact Nat.max_le.2 ⟨Nat.le_trans (fG _ _) h1,Nat.le_trans (fG _ _) h2⟩
theorem yK(a b:Rat):a+b=mkRat (a.num* b.den+b.num* a.den) (a.den* b.den):=by
 rw[Rat.add_def];unfold mkRat;grind
theorem oz(a b:Rat):a* b=mkRat (a.num* b.num) (a.den* b.den):=by
 rw[Rat.mul_def];unfold mkRat;grind
theorem dZ(a:Rat):bl a.num.natAbs≤qs a:=Nat.le_max_left _ _
theorem ei(a:Rat):bl a.den≤qs a:=Nat.le_max_right _ _
theorem o0{x y:Int}{k:Nat}(hx:bl x.natAbs≤k)(hy:bl y.natAbs≤k):bl (x+y).natAbs≤k+1:=by
 have h1:=dP (Int.natAbs_add_le x y);have a:=AB x.natAbs y.natAbs;omega
theorem dG{x y:Int}{j k:Nat}(hx:bl x.natAbs≤j)(hy:bl y.natAbs≤k):bl (x* y).natAbs≤j+k:=by
 rw[Int.natAbs_mul];have:=jz x.natAbs y.natAbs;omega
theorem yJ(a b:Rat):bl (a.num* b.den+b.num* a.den).natAbs≤qs a+qs b+1∧bl (a.den* b.den)≤qs a+qs b:=by
 have h1:=dZ a;have c:=ei a;have d:=dZ b;have e:=ei b;refine⟨o0 (dG h1 (by grind)) ?_,?_⟩;have:=dG (x:=b.num) (y:=a.den) d (by simpa using c);omega;have:=jz a.den b.den;omega
theorem td(a b:Rat):bl (a.num* b.num).natAbs≤qs a+qs b∧bl (a.den* b.den)≤qs a+qs b:=by
 have h1:=dZ a;have d:=ei a;have c:=dZ b;have e:=ei b;refine⟨dG h1 c,?_⟩;have:=jz a.den b.den;omega
theorem n7(a b:Rat):0< a.den* b.den:=Nat.mul_pos a.den_pos b.den_pos
theorem fX(a b:Rat):qs (a+b)≤qs a+qs b+1:=by
 rw[yK];have h:=yJ a b;exact gF (n7 a b) h.1 (by omega)
theorem dk(a b:Rat):qs (a* b)≤qs a+qs b:=by
 rw[oz];have h:=td a b;exact gF (n7 a b) h.1 h.2
theorem fv(a:Rat):qs (-a)=qs a:=by unfold qs;simp
theorem nD(a b:Rat):qs (a- b)≤qs a+qs b+1:=by
 rw[Rat.sub_eq_add_neg];have:=fX a (-b);rwa[fv] at this
theorem tI(a b:Rat)(hb:b≠0):a/ b=mkRat (a.num* sgn (decide (b.num< 0)) b.den) (a.den* b.num.natAbs):=by
 rw[Rat.div_def,Rat.inv_def]
 conv=>lhs;rw[←Rat.num_divInt_den a]
 rw[Rat.divInt_mul_divInt];unfold sgn;split
 ·rename_i h
  have c:=of_decide_eq_true h;have hp:0< a.den* b.num.natAbs:=Nat.mul_pos a.den_pos (by omega);have e:(a.den:Int) * b.num= -((a.den* b.num.natAbs:Nat):Int):=by grind
  rw[e,Int.mul_neg];generalize a.den* b.num.natAbs=d at hp⊢;cases d with
  |zero=>omega
  |succ d=>
   rfl
 ·have e:(a.den:Int) * b.num=((a.den* b.num.natAbs:Nat):Int):=by grind
  rw[e];rfl
theorem yy(a b:Rat):bl (a.num* sgn (decide (b.num< 0)) b.den).natAbs≤qs a+qs b∧bl (a.den* b.num.natAbs)≤qs a+qs b:=by
 have h1:=dZ a;have c:=ei a;have e:=dZ b;have d:=ei b;refine⟨dG h1 (by rw[gD];grind),?_⟩;have:=jz a.den b.num.natAbs;omega
theorem iN(a b:Rat):qs (a/ b)≤qs a+qs b:=by
 by_cases hb:b=0;subst hb;rw[Rat.div_def,Rat.inv_zero,Rat.mul_zero];omega;rw[tI a b hb];have h:=yy a b;have c:b.num≠0:=fun h=>hb (Rat.num_eq_zero.1 h);exact gF (Nat.mul_pos a.den_pos (by omega)) h.1 h.2
def sm(q:Rat):Prop:=qs q≤137438953472
instance (q:Rat):Decidable (sm q):=inferInstanceAs (Decidable (_≤_))
theorem sm2{a b:Rat}(ha:sm a)(hb:sm b):qs a+qs b≤549755813888:=by unfold sm at ha hb;omega
def sgZ(z:Int):Int:=if z=0 then 0 else if z< 0 then -1 else 1
def dB(a b:Rat):Int:=if a< b then -1 else if a=b then 0 else 1
theorem sgZ_num_lt{q:Rat}:sgZ q.num< 0↔q< 0:=by
 unfold sgZ;have h1:q.num=0↔q=0:=Rat.num_eq_zero;have a:0≤q.num↔0≤q:=Rat.num_nonneg;have b:q< 0↔¬0≤q:=Rat.not_le.symm;rw[b,←a];split;omega;split <;> omega
theorem sgZ_num_eq{q:Rat}:sgZ q.num=0↔q=0:=by
 unfold sgZ;rw[←Rat.num_eq_zero];split;simp[*];split <;> simp[*]
theorem sgZ_num_gt{q:Rat}:0< sgZ q.num↔0< q:=by
 have h1:= @sgZ_num_lt q;have a:= @sgZ_num_eq q
 have b:0< q↔¬(q< 0∨q=0):=by
  rw[←Rat.not_le,Rat.le_iff_lt_or_eq]
 rw[b,←h1,←a];omega
theorem Fy(a b:Rat):dB a b=if a.num* b.den< b.num* a.den then -1 else if a.num* b.den=b.num* a.den then 0 else 1:=by
 unfold dB;have h1:=Rat.lt_iff a b
 have c:a=b↔a.num* b.den=b.num* a.den:=by
  constructor;rintro rfl;rfl;intro h;have:=(Rat.mkRat_eq_iff (n₁:=a.num) (n₂:=b.num) a.den_nz b.den_nz).2 h;rwa[Rat.mkRat_self,Rat.mkRat_self] at this
 by_cases h:a< b;rw[if_pos h,if_pos (h1.1 h)];rw[if_neg h,if_neg (fun x=>h (h1.2 x))];by_cases h':a=b;rw[if_pos h',if_pos (c.1 h')];rw[if_neg h',if_neg (fun x=>h' (c.2 x))]
def cY(k:Nat):Rat:=mkRat 1 (2^ k)
theorem rj(q:Rat):q.num< 0↔q< 0:=by
 rw[←sgZ_num_lt];unfold sgZ;split;omega;split <;> omega
def eN(q:Rat):Rat:=mkRat q.num.natAbs q.den
theorem nf(q:Rat):eN q=if q< 0 then -q else q:=by
 unfold eN;by_cases h:q< 0;have a:q.num< 0:=(rj q).2 h;rw[if_pos h];have e:(q.num.natAbs:Int)=(-q).num:=by rw[Rat.neg_num];omega
 rw[e,←Rat.neg_den,Rat.mkRat_self];have a:¬q.num< 0:=fun e=>h ((rj q).1 e);rw[if_neg h];have e:(q.num.natAbs:Int)=q.num:=by omega
 rw[e,Rat.mkRat_self]
theorem CB(q:Rat):(eN q).num=(q.num.natAbs:Int):=by
 rw[nf];by_cases h:q< 0;rw[if_pos h,Rat.neg_num];have a:q.num< 0:=(rj q).2 h;omega;rw[if_neg h];have a:¬q.num< 0:=fun e=>h ((rj q).1 e);omega
theorem CC(q:Rat):(eN q).den=q.den:=by
 rw[nf];split;exact Rat.neg_den ..;rfl
theorem qC_abs(q:Rat):qC (eN q)=zI (sgn false q.num.natAbs)++[mag (q.den- 1)]:=by
 unfold qC zI;rw[CB,CC];rfl
def pE(l:List Rat):List (List AV):=l.map qC
def pA(l:List Rat):AV:= .arr (pE l)
def spC(a b:Rat):List AV:=qC a++qC b
@[simp] theorem qC_length (q:Rat):(qC q).length=3:=rfl
@[simp] theorem spC_length (a b:Rat):(spC a b).length=6:=rfl
@[simp] theorem FV (l:List Rat):(pE l).length=l.length:=by simp[pE]
theorem pE_get{l:List Rat}{i:Nat}{q:Rat}(h:l[i]?=some q):(pE l)[i]?=some (qC q):=by simp[pE,h]
theorem uI(l:List Rat)(k:Nat):(pE l).take k=pE (l.take k):=by simp[pE]
theorem lO(l m:List Rat):pE (l++m)=pE l++pE m:=by simp[pE]
theorem mK(l:List Rat)(i:Nat)(q:Rat):(pE l).set i (qC q)=pE (l.set i q):=by simp[pE,List.map_set]
theorem fc(l:List Rat):(pE l).all (·.all AV.one)=true:=by
 simp only[pE,List.all_map,List.all_eq_true];intro q _;rfl
theorem mL(l:List Rat):∀e∈pE l,e.length=3:=by intro e a;simp[pE] at a;obtain⟨q,_,rfl⟩:=a;rfl
theorem aV(l:List Rat):∀e∈pE l,∀c∈e,Closed c:=by
 intro e a c hc;simp[pE] at a;obtain⟨q,_,rfl⟩:=a;exact a7 q c hc
theorem aC(l:List Rat):Closed (pA l):=aK (aV l)
theorem bi(a b:Rat):∀c∈spC a b,Closed c:=fun c hc=>(List.mem_append.1 hc).elim (a7 a c) (a7 b c)
theorem bJ(a b:Rat):Closed (.agg (spC a b)):=aB (bi a b)
def zC:List AV:=[.emp,bln false,.emp]
theorem mag0:mag 0= .arr []:=by unfold mag;rw[cP];rfl
theorem qC0:qC 0=[.arr [],bln false,.arr []]:=by
 show [mag 0,bln (decide ((0:Int)< 0)),mag (1- 1)]=_;rw[mag0];rfl
def smL(l:List Rat):Prop:=∀q∈l,sm q
instance (l:List Rat):Decidable (smL l):=inferInstanceAs (Decidable (∀q∈l,sm q))
def dO(bf:Int→Bool):List Rat→Rat
 |[]=>0
 |x::l=>l.foldl (fun o y=>if bf (dB y o) then y else o) x
theorem Ax(bf:Int→Bool)(l:List Rat)(y:Rat):dO bf (l++[y])=if l=[]∨bf (dB y (dO bf l))=true then y else dO bf l:=by
 cases l with
 |nil=>simp[dO]
 |cons x l=>simp[dO,List.foldl_append]
theorem qt{bf:Int→Bool}:∀{l:List Rat},smL l→sm (dO bf l)
 |[],_=>(by decide:sm 0)
 |x::l,h=>by
  have b:∀(l:List Rat) (o:Rat),sm o→smL l→sm (l.foldl (fun o y=>if bf (dB y o) then y else o) o):=by
   intro l
   induction l with
   |nil=>intro o c _;exact c
   |cons y l e=>
    intro o c d;refine e _ ?_ fun q a=>d q (List.mem_cons_of_mem _ a);show sm (if bf (dB y o)=true then y else o);split;exact d y (List.mem_cons_self ..);exact c
  exact b l x (h x (List.mem_cons_self ..)) fun q a=>h q (List.mem_cons_of_mem _ a)
def eV(l:List Rat):Rat:=dO (fun c=>decide (c< 0)) l
def dM(l:List Rat):Rat:=dO (fun c=>decide (0< c)) l
theorem AEval.lenP{P:Program}{id:Nat}{ev:Operand→Option AV}{hp:Nat→Option ABlk}{c:Call}{x:Operand}{T:Nat}{d:Nat×Nat}{l:List Rat}(hc:c.callee= .builtin .len)(ha:c.args= #[x])(ht:c.argTypes= #[T])(hx:ev x=some (.arr (pE l)))(he:eO P T=some d):
    AEval P id ev hp (.call c) ⟨.v (.int .i64 (l.length:Nat)),[]⟩ []:= .len hc ha ht hx (by simp[tg]) he
def aj:List Rat→List Rat
 |[]=>[]
 |a::l=>match aj l with
  |[]=>if a=0 then [] else [a]
  |b::m=>a::b::m
theorem e8(a:Rat)(l:List Rat):aj (a::l)=if aj l=[] then(if a=0 then [] else [a]) else a::aj l:=by
 rw[aj];grind
theorem mD(l:List Rat)(a:Rat):aj (l++[a])=if a=0 then aj l else l++[a]:=by
 induction l with
 |nil=>simp[aj]
 |cons b l c=>
  rw[List.cons_append,e8,c,e8];by_cases h:a=0;simp only[if_pos h];simp_all
theorem bO(l:List Rat):(aj l).length≤l.length:=by
 induction l with
 |nil=>simp[aj]
 |cons a l b=>rw[e8];grind
theorem xG(l:List Rat):aj l=l.take (aj l).length:=by
 induction l with
 |nil=>simp[aj]
 |cons a l b=>
  rw[e8];grind
theorem df{l:List Rat}{q:Rat}(h:q∈aj l):q∈l:=by
 rw[xG] at h;grind
theorem vm{l:List Rat}{q:Rat}(h:(aj l).getLast?=some q):q≠0:=by
 induction l with
 |nil=>simp[aj] at h
 |cons a l b=>
  rw[e8] at h;grind
theorem cw(l:List Rat):aj (aj l)=aj l:=by
 rcases List.eq_nil_or_concat (aj l) with h|⟨m,q,h⟩
 rw[h];rfl;have a:q≠0:=vm (l:=l) (by grind);rw[h,List.concat_eq_append,mD,if_neg a]
theorem vy{l:List Rat}(h:smL l):smL (aj l):=fun q a=>h q (df a)
def cQ(l:List Rat):Int:=(aj l).length- 1
def aF(l:List Rat):Rat:=(aj l).getLastD 0
theorem c9{l:List Rat}(h:aj l≠[]):aF l≠0:=by
 refine vm (l:=l) (q:=(aj l).getLastD 0) ?_;rw[List.getLastD_eq_getLast?];cases hl:(aj l).getLast? with
 |none=>simp_all
 |some q=>rfl
theorem th{l:List Rat}(h:aj l=[]):aF l=0:=by unfold aF;grind
theorem c8{l:List Rat}{n:Nat}(h:(aj l).length=n+1):(aj l)[n]?=some (aF l):=by
 unfold aF;grind
theorem H7{l:List Rat}(h:smL l):sm (aF l):=by
 by_cases h0:aj l=[];rw[th h0];decide;obtain⟨n,a⟩:∃n,(aj l).length=n+1:=⟨(aj l).length- 1,by have:=List.length_pos_iff.2 h0;omega⟩;exact h _ (df (List.mem_of_getElem? (c8 a)))
def aW(n:Nat)(f:Nat→Rat):List Rat:=(List.range n).map f
@[simp] theorem uc (n:Nat)(f:Nat→Rat):(aW n f).length=n:=by simp[aW]
def coP(p:List Rat)(i:Nat):Rat:=p.getD i 0
def fV(p q:List Rat):List Rat:=aj (aW (max p.length q.length) fun i=>coP p i+coP q i)
def aL(p:List Rat)(k:Rat):List Rat:=aj (aW p.length fun i=>coP p i* k)
def cn(p q:List Rat):List Rat:=fV p (aL q (-1))
def b9(a:Rat):List Rat:=aj [a]
def aN(p:List Rat):List Rat:=aj (aW (p.length- 1) fun i=>coP p (i+1) * ((i+1:Nat):Int))
def ax(p:List Rat):List Rat:=aj (aW (p.length+1) fun i=>if i=0 then 0 else coP p (i- 1) / ((i:Nat):Int))
def cI(p:List Rat):List Rat:=if aj p=[] then [] else aL p (1/ aF p)
theorem tN{p:List Rat}(h:smL p)(i:Nat):sm (coP p i):=by
 unfold coP;rw[List.getD_eq_getElem?_getD];cases hi:p[i]? with
 |none=>exact(by decide:sm 0)
 |some q=>exact h q (List.mem_of_getElem? hi)
theorem cK{p:List Rat}{i:Nat}(h:i< p.length):p[i]?=some (coP p i):=by
 unfold coP;grind
theorem ef{p:List Rat}{i:Nat}(h:p.length≤i):coP p i=0:=by
 unfold coP;grind
theorem oV:∀c∈zC,Closed c:=ac dD (ac (ah _) (ac dD ag))
def bdL(l:List Rat)(n:Nat):Prop:=∀q∈l,qs q≤n
instance (l:List Rat) (n:Nat):Decidable (bdL l n):=inferInstanceAs (Decidable (∀q∈l,qs q≤n))
theorem eP{l:List Rat}{n:Nat}(h:bdL l n)(hn:n≤137438953472):smL l:=fun q a=>Nat.le_trans (h q a) hn
theorem fI{l:List Rat}{n:Nat}(h:bdL l n)(hn:1≤n)(i:Nat):qs (coP l i)≤n:=by
 unfold coP;rw[List.getD_eq_getElem?_getD];cases hi:l[i]? with
 |none=>exact Nat.le_trans (by decide:qs 0≤1) hn
 |some q=>exact h q (List.mem_of_getElem? hi)
def CA(o:List Rat)(j:Nat)(x:Rat):List Rat:=o.set j (coP o j+x)
def kJ(o:List Rat)(a:Rat)(q:List Rat)(i:Nat):Nat→List Rat
 |0=>o
 |k+1=>CA (kJ o a q i k) (i+k) (a* coP q k)
def fJ(p q:List Rat):Nat→List Rat
 |0=>List.replicate (p.length+q.length- 1) 0
 |i+1=>if coP p i=0 then fJ p q i else kJ (fJ p q i) (coP p i) q i q.length
def aJ(p q:List Rat):List Rat:=if p=[]∨q=[] then [] else aj (fJ p q p.length)
@[simp] theorem AD (o:List Rat)(j:Nat)(x:Rat):(CA o j x).length=o.length:=by simp[CA]
@[simp] theorem A5 (o:List Rat)(a:Rat)(q:List Rat)(i k:Nat):(kJ o a q i k).length=o.length:=by
 induction k with
 |zero=>rfl
 |succ k ih=>rw[kJ,AD,ih]
@[simp] theorem nK (p q:List Rat)(i:Nat):(fJ p q i).length=p.length+q.length- 1:=by
 induction i with
 |zero=>simp[fJ]
 |succ i ih=>rw[fJ];split <;> simp[ih]
theorem tP(o:List Rat)(j n:Nat)(x:Rat):coP (CA o j x) n=if n=j∧j< o.length then coP o j+x else coP o n:=by
 unfold CA coP;rw[List.getD_eq_getElem?_getD,List.getElem?_set,List.getD_eq_getElem?_getD,List.getD_eq_getElem?_getD];by_cases h:j=n;subst h;by_cases h2:j< o.length;simp[h2];simp[h2];rw[if_neg h,if_neg (by omega)]
theorem js{o:List Rat}{n:Nat}(h:∀i,qs (coP o i)≤n):bdL o n:=by
 intro q b;obtain⟨i,a,rfl⟩:=List.getElem_of_mem b;have:=h i;unfold coP at this;rwa[List.getD_eq_getElem?_getD,List.getElem?_eq_getElem a] at this
theorem vL(o:List Rat)(a:Rat)(q:List Rat)(i k n:Nat)(h:n< i∨i+k≤n):coP (kJ o a q i k) n=coP o n:=by
 induction k with
 |zero=>rfl
 |succ k b=>rw[kJ,tP,if_neg (by omega),b (by omega)]
theorem EJ{o:List Rat}{a:Rat}{q:List Rat}{B s t:Nat}(i:Nat)(ho:∀n,qs (coP o n)≤B)(ha:qs a≤s)(hq:∀n,qs (coP q n)≤t):∀k n,qs (coP (kJ o a q i k) n)≤B+(s+t+1)
 |0,n=>Nat.le_trans (ho n) (by omega)
 |k+1,n=>by
  rw[kJ,tP];split;rw[vL o a q i k (i+k) (by omega)];have h1:=fX (coP o (i+k)) (a* coP q k);have b:=dk a (coP q k);have d:=ho (i+k);have c:=hq k;omega;exact EJ i ho ha hq k n
theorem uM{p q:List Rat}{s t:Nat}(hp:∀n,qs (coP p n)≤s)(hq:∀n,qs (coP q n)≤t):∀i n,qs (coP (fJ p q i) n)≤i* (s+t+1)+1
 |0,n=>by
  have:coP (fJ p q 0) n=0:=by
   unfold fJ coP;rw[List.getD_eq_getElem?_getD,List.getElem?_replicate];split <;> rfl
  rw[this];exact Nat.le_add_left 1 _
 |i+1,n=>by
  rw[fJ,Nat.add_mul,Nat.one_mul];split;have:=uM hp hq i n;omega;have:=EJ (B:=i* (s+t+1)+1) i (uM hp hq i) (hp i) hq q.length n;omega
theorem zu{p q:List Rat}{s t:Nat}(hp:bdL p s)(hq:bdL q t)(hs:1≤s)(ht:1≤t):bdL (aJ p q) (p.length* (s+t+1)+1):=by
 unfold aJ;split;intro q hq;cases hq;intro x a;exact js (uM (fI hp hs) (fI hq ht) p.length) x (df a)
theorem CvLL.zeros{r:Ren}{hp hp':Nat→Option ABlk}(h:Shr r hp hp')(n:Nat):CvLL r hp hp' (List.replicate n zC) (pE (List.replicate n 0)):=by
 induction n with
 |zero=>rfl
 |succ n a=>
  refine⟨qC 0,_,rfl,?_,a⟩;rw[qC0];exact ai (Cv.emp _) (ai (ao h (ah _)) (ai (Cv.emp _) aw))
def AM(o:List Rat)(j:Nat)(x:Rat):List Rat:=o.set j (coP o j- x)
def gE(o:List Rat)(k:Rat)(q:List Rat)(n:Nat):Nat→List Rat
 |0=>o
 |i+1=>AM (gE o k q n i) (n+i) (k* coP q i)
def jQ(q:List Rat)(lead:Rat):Nat→List Rat→List Rat→List Rat×List Rat
 |0,u,o=>(u,o)
 |n+1,u,o=>jQ q lead n (u.set n (coP o (n+q.length- 1) / lead)) (if coP o (n+q.length- 1) / lead=0 then o else gE o (coP o (n+q.length- 1) / lead) q n q.length)
def cf(p q:List Rat):List Rat×List Rat:=
 let r:=jQ (aj q) (aF q) ((aj p).length+1- (aj q).length) (List.replicate ((aj p).length+1- (aj q).length) 0) (aj p)
 (aj r.1,aj r.2)
@[simp] theorem yW (o:List Rat)(j:Nat)(x:Rat):(AM o j x).length=o.length:=by simp[AM]
@[simp] theorem iD (o:List Rat)(a:Rat)(q:List Rat)(i k:Nat):(gE o a q i k).length=o.length:=by
 induction k with
 |zero=>rfl
 |succ k ih=>rw[gE,yW,ih]
theorem jP(q:List Rat)(lead:Rat):∀c u o,(jQ q lead c u o).1.length=u.length∧(jQ q lead c u o).2.length=o.length
 |0,u,o=>⟨rfl,rfl⟩
 |n+1,u,o=>by
  refine⟨(jP q lead n _ _).1.trans (by simp),(jP q lead n _ _).2.trans ?_⟩;split <;> simp
theorem uZ(o:List Rat)(j n:Nat)(x:Rat):coP (o.set j x) n=if n=j∧j< o.length then x else coP o n:=by
 unfold coP;grind
theorem oR(o:List Rat)(j n:Nat)(x:Rat):coP (AM o j x) n=if n=j∧j< o.length then coP o j- x else coP o n:=uZ o j n _
theorem nB(o:List Rat)(a:Rat)(q:List Rat)(i k n:Nat)(h:n< i∨i+k≤n):coP (gE o a q i k) n=coP o n:=by
 induction k with
 |zero=>rfl
 |succ k b=>rw[gE,oR,if_neg (by omega),b (by omega)]
theorem EK{o:List Rat}{a:Rat}{q:List Rat}{B s t:Nat}(i:Nat)(ho:∀n,qs (coP o n)≤B)(ha:qs a≤s)(hq:∀n,qs (coP q n)≤t):∀k n,qs (coP (gE o a q i k) n)≤B+(s+t+1)
 |0,n=>Nat.le_trans (ho n) (by omega)
 |k+1,n=>by
  rw[gE,oR];split;rw[nB o a q i k (i+k) (by omega)];have h1:=nD (coP o (i+k)) (a* coP q k);have b:=dk a (coP q k);have d:=ho (i+k);have c:=hq k;omega;exact EK i ho ha hq k n
def D2(q:List Rat)(lead:Rat)(L c:Nat)(u o:List Rat):Prop:=
 ∃B t,(∀n,qs (coP o n)≤B)∧(∀n,qs (coP q n)≤t)∧qs lead≤t∧1≤t∧(∀n,qs (coP u n)≤L)∧2^ c* (B+2* t+1)≤L
theorem B3{q:List Rat}{lead:Rat}{L c:Nat}{u o:List Rat}(h:D2 q lead L c u o):∃B t,(∀n,qs (coP o n)≤B)∧(∀n,qs (coP q n)≤t)∧qs lead≤t∧B+2* t+1≤L:=by
 obtain⟨B,t,h1,a,d,e,f,b⟩:=h;refine⟨B,t,h1,a,d,Nat.le_trans ?_ b⟩;have:=Nat.mul_le_mul_right (B+2* t+1) (Nat.one_le_two_pow (n:=c));omega
theorem yA{q:List Rat}{lead:Rat}{L n:Nat}{u o:List Rat}(h:D2 q lead L (n+1) u o):
    D2 q lead L n (u.set n (coP o (n+q.length- 1) / lead)) (if coP o (n+q.length- 1) / lead=0 then o else gE o (coP o (n+q.length- 1) / lead) q n q.length):=by
 obtain⟨B,t,h1,c,g,d,p,e⟩:=h;obtain⟨k,f⟩:∃k,k=coP o (n+q.length- 1) / lead:=⟨_,rfl⟩
 have a:qs k≤B+t:=by
  have e1:=iN (coP o (n+q.length- 1)) lead;grind
 rw[←f];obtain⟨W,i⟩:∃W,W=2^ n:=⟨_,rfl⟩;have b:1≤W:=by grind
 rw[Nat.pow_succ] at e;have m:W* (2* B+2* t+1+2* t+1)≤L:=by grind
 have l:2* B+2* t+1+2* t+1≤L:=by
  have:=Nat.mul_le_mul_right (2* B+2* t+1+2* t+1) b;omega
 refine⟨2* B+2* t+1,t,fun j=>?_,c,g,d,fun j=>?_,by grind⟩;split;have:=h1 j;omega;have:=EK n h1 a c q.length j;omega;rw[uZ];grind
theorem Aj{q:List Rat}{lead:Rat}{L:Nat}:∀{c u o},D2 q lead L c u o→(∀n,qs (coP (jQ q lead c u o).1 n)≤L)∧(∀n,qs (coP (jQ q lead c u o).2 n)≤L)
 |0,u,o,h=>by
  obtain⟨B,t,h1,b,e,d⟩:=B3 h;obtain⟨_,_,_,_,_,_,a,_⟩:=h;exact⟨a,fun n=>Nat.le_trans (h1 n) (by omega)⟩
 |n+1,u,o,h=>Aj (c:=n) (yA h)
def mxL(l:List Rat):Nat:=l.foldr (fun q n=>max (qs q) n) 1
theorem fo(l:List Rat):1≤mxL l:=by
 induction l with
 |nil=>exact Nat.le_refl _
 |cons q l a=>exact Nat.le_trans a (Nat.le_max_right _ _)
theorem fj(l:List Rat):bdL l (mxL l):=by
 induction l with
 |nil=>intro q b;grind
 |cons a l c=>
  intro q b;rcases List.mem_cons.1 b with rfl|b
  exact Nat.le_max_left _ _;exact Nat.le_trans (c q b) (Nat.le_max_right _ _)
theorem dz{l:List Rat}{n:Nat}(h:bdL l n)(hn:1≤n):mxL l≤n:=by
 induction l with
 |nil=>exact hn
 |cons a l c=>exact Nat.max_le.2 ⟨h a (List.mem_cons_self ..),c fun q b=>h q (List.mem_cons_of_mem _ b)⟩
def la(p q:List Rat):Prop:=2^ ((aj p).length+1- (aj q).length) * (mxL p+2* mxL q+1)≤137438953472∧p.length≤274877906944∧q.length≤274877906944
instance (p q:List Rat):Decidable (la p q):=inferInstanceAs (Decidable (_∧_∧_))
theorem D1{p q:List Rat}{s t L:Nat}(hp:bdL p s)(hq:bdL q t)(hs:1≤s)(ht:1≤t)(hq0:aj q≠[])(m:Nat)(h:2^ m* (s+2* t+1)≤L):D2 (aj q) (aF q) L m (List.replicate m 0) (aj p):=by
 have c:1≤L:=by
  have d:=Nat.mul_le_mul_right (s+2* t+1) (Nat.one_le_two_pow (n:=m));omega
 have b:=List.length_pos_iff.2 hq0;refine⟨s,t,fI (fun x a=>hp x (df a)) hs,fI (fun x a=>hq x (df a)) ht,hq _ (df (List.mem_of_getElem? (c8 (n:=(aj q).length- 1) (by omega)))),ht,fun n=>?_,h⟩
 have:coP (List.replicate m 0) n=0:=by
  unfold coP;rw[List.getD_eq_getElem?_getD,List.getElem?_replicate];split <;> rfl
 rw[this];exact Nat.le_trans (by decide:qs 0≤1) c
theorem Fq{p q:List Rat}{s t L:Nat}(hp:bdL p s)(hq:bdL q t)(hs:1≤s)(ht:1≤t)(hq0:aj q≠[])(h:2^ ((aj p).length+1- (aj q).length) * (s+2* t+1)≤L):bdL (cf p q).1 L∧bdL (cf p q).2 L:=by
 have:=Aj (D1 hp hq hs ht hq0 _ h);exact⟨fun x a=>js this.1 x (df a),fun x a=>js this.2 x (df a)⟩
theorem Ak{p q:List Rat}(h:la p q)(hq0:aj q≠[]):smL (cf p q).1∧smL (cf p q).2:=
 have:=Fq (fj p) (fj q) (fo p) (fo q) hq0 h.1
 ⟨eP this.1 (Nat.le_refl _),eP this.2 (Nat.le_refl _)⟩
theorem sa{p q:List Rat}:(cf p q).1.length≤p.length+1∧(cf p q).2.length≤p.length:=by
 have h1:=jP (aj q) (aF q) ((aj p).length+1- (aj q).length) (List.replicate ((aj p).length+1- (aj q).length) 0) (aj p);have c:=bO p;have b:=bO (jQ (aj q) (aF q) ((aj p).length+1- (aj q).length) (List.replicate ((aj p).length+1- (aj q).length) 0) (aj p)).1;have a:=bO (jQ (aj q) (aF q) ((aj p).length+1- (aj q).length) (List.replicate ((aj p).length+1- (aj q).length) 0) (aj p)).2;rw[h1.1,List.length_replicate] at b;rw[h1.2] at a;exact⟨by unfold cf;simp only;omega,by unfold cf;simp only;omega⟩
theorem dn(p:List Rat)(k:Rat):(aL p k).length≤p.length:=by
 have:=bO (aW p.length fun i=>coP p i* k);simpa[aL] using this
theorem pZ(p:List Rat):(cI p).length≤p.length:=by
 unfold cI;split;simp;exact dn _ _
def qf:Nat→List Rat→List Rat→Option (List Rat)
 |0,_,_=>none
 |f+1,p,q=>if aj q=[] then(if smL p then some (cI p) else none) else if la p q then qf f q (cI (cf p q).2) else none
end Go.Abs
