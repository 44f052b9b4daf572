/- Part V12 of the proof. -/
import Derived.Test.YtdgbhlkabelmbaaGreatDoorV11
import Derived.Below
set_option linter.all false
namespace Go.Abs
open Go.RowKit
theorem AEval.callV {P:Program} {id:Nat} {ev:Operand→Option AV} {hp:Nat→Option ABlk} {c:Call} {callee:Operand} {f:Nat} {as as':List AV} {r:Value} {rd:List Nat} {rr:Ren} (h1:c.callee= .value callee) (h2:ev callee=some (.clos f [] [])) (h3:evs ev c.args.toList=some as)
    (h4:∀hp':Nat→Option ABlk,(∀i∈rd,hp' i=hp i)→CvL rr hp' (fun _=>none) as as') (h5:FSpec P f as' (.v r)):AEval P id ev hp (.call c) ⟨.v r,[]⟩ rd:=by
 refine .sem fun j D β hp' w ρ o B a g z A E t l=>?_
 have d:∀x,x∈(Op.call c).operands↔x=callee∨x∈c.args.toList:=by
  simp[Op.operands,Call.operands,h1]
 obtain⟨xs,F,m,k,s⟩:=g callee ((d _).2 (.inl rfl)) _ h2;have n:xs= #[]:=Array.ext' k;have q:F= #[]:=Array.ext' s;subst n q;have p:RVs (MM j β hp') β w as (c.args.toList.map ρ):=ye (fun x m=>g x ((d _).2 (.inr m))) h3;have u:=CvL.rvs a (h4 hp' l) p;have e1:∀b:Nat→Option (Nat×Nat),MM j b (fun _=>none)=j:=fun b=>by funext c;simp[MM]
 rw[e1] at u;refine .inr ⟨f,_,fG B h1 m rfl h5.enters,(h5.calls j w _ ⟨fun b hb=>Nat.lt_of_lt_of_le (D.lt b (a.m0 b hb).1) a.below.size,fun hb=>(a.m0 GT hb).2 rfl,a.tab⟩ (df h5.cl u)).mono ?_⟩;rintro e G ⟨y,rfl,C,hb⟩;have h:=a.ext hb;exact⟨y,rfl,β,h.1,C,h.2,fun _ _=>rfl⟩
theorem wP{r:Ren}{hp hp':Nat→Option ABlk}:∀(k:Nat) {a b:List (List AV)},CvLL r hp hp' a b→CvLL r hp hp' (a.drop k) (b.drop k)
 |0,_,_,h=>h
 |k+1,[],_,h=>by cases (h:_=[]);exact CvLL.nil
 |k+1,x::xs,_,⟨y,ys,e,_,h2⟩=>by subst e;exact wP k h2
theorem wN{r:Ren}{hp hp':Nat→Option ABlk}:∀(k:Nat) {a b:List (List AV)},CvLL r hp hp' a b→CvLL r hp hp' (a.take k) (b.take k)
 |0,_,_,_=>CvLL.nil
 |k+1,[],_,h=>by cases (h:_=[]);exact CvLL.nil
 |k+1,x::xs,_,⟨y,ys,e,h1,h2⟩=>by subst e;exact CvLL.cons h1 (wN k h2)
theorem FE{r:Ren}{hp:Nat→Option ABlk}{sz TQ:Nat}{w:Nat→Nat}{L:List (List (List AV))}(hz:sz≠0)(hr:∀i e,L[i]?=some e→hp (i+2)=some ⟨TQ,sz,e⟩)(hw:∀i e,L[i]?=some e→e.length=w i)(hc:∀e∈L,∀x∈e,∀c∈x,Closed c):
    CvLL r hp (fun _=>none) (mzO sz w (fun x=>x) L.length) (L.map fun e=>[.arr e]):=by
 have a:∀(l:List (List (List AV))) (k:Nat),(∀i e,l[i]?=some e→L[k+i]?=some e)→CvLL r hp (fun _=>none) ((List.range' k l.length).map fun i=>[.lsl (i+2) 0 (w i) none sz]) (l.map fun e=>[.arr e]):=by
  intro l
  induction l with
  |nil=>intro k _;exact CvLL.nil
  |cons e l h=>
   intro k b;have d:L[k]?=some e:=b 0 e rfl;have f:=List.mem_of_getElem? d
   refine CvLL.cons (ah ?_ av) (h (k+1) fun i m g=>by
    have:=b (i+1) m (by grind);grind)
   refine Cv.shut (es:=e) aD (dP (hr k e d) hz) (fun j B n=>by grind) (by grind) ?_;rw[List.take_of_length_le (by grind)];exact a8 aD (hc e f)
 have:=a L 0 fun i e g=>by grind
 rw[←List.range_eq_range'] at this;exact this
theorem Cv.mzV {r:Ren} {hp:Nat→Option ABlk} {cap:Option Nat} {sz TS TQ a m:Nat} {w:Nat→Nat} {L:List (List (List AV))} (hz:sz≠0) (h1:hp 1=some ⟨TS,1,mzO sz w (fun x=>x) L.length⟩) (hr:∀i e,L[i]?=some e→hp (i+2)=some ⟨TQ,sz,e⟩) (hw:∀i e,L[i]?=some e→e.length=w i)
    (hc:∀e∈L,∀x∈e,∀c∈x,Closed c) (ham:a+m≤L.length):Cv r hp (fun _=>none) (.lsl 1 a m cap 1) (.arr (((L.map fun e=>[.arr e]).drop a).take m)):=
 Cv.shut (es:=((L.map fun e=>[.arr e]).drop a).take m) aD (dP h1 (show(1:Nat)≠0 by decide)) (fun j B b=>by grind) (by simp_all) (wN m (wP a (FE hz hr hw hc)))
theorem XSpec.enterC {P:Program} {f:Nat} {fn:Func} {c:Code} {nx:Nat} {v:AV} {hp:Hp} {args:List AV} (hf:P.funcs[f]?=some fn) (hb:fn.body=some c) (hname:(fn.name== "runtime.NumGoroutine")=false) {rs:List ResultVar} (hrs:fn.results.toList=rs) {m:Nat} (hm:fn.ntmps=m) (hn:Nat.ble args.length m=true)
    {fr:Fr} (hfr:da 0 args=fr) (h:AWp none P c (Fin P rs v) ⟨fr,hp,nx,m⟩):XSpec P f args hp nx v [] 1:=by
 subst hrs hm hfr;have hn:=Nat.le_of_ble_eq_true hn;refine⟨fun xs w=>?_,fun M w0 β vals hgh mem hfree hargs=>?_⟩;have hname':¬fn.name= "runtime.NumGoroutine" :=by grind
 simp[callFunc,hf,hname',hb];refine(callsIn_wide (n:=0)).1 (callsIn_of_wp_marks (F:=Fence.wide) hf hb trivial ?_);have hlen:=hargs.length
 have hrel:iS M w0 ⟨da 0 args,hp,nx,fn.ntmps⟩ {tmps:=vals.toArray++Array.replicate (fn.ntmps- vals.toArray.size) undef,defers:=[]} w0.w:=by
  refine⟨β,mem,by grind,fun t x hx=>?_,hfree,⟨[],rfl,List.nodup_nil,by simp⟩⟩;rw[cg hgh]
  have key:∀{as:List AV} {vs:List Value} {i t:Nat} {x:AV},RVs (MM M β (an hp)) β w0.w as vs→look (da i as) t=some x→i≤t∧∃y,vs[t- i]?=some y∧RV (MM M β (an hp)) β w0.w x y:=by
   intro as
   induction as with
   |nil=>intro vs i t x _ h;cases h
   |cons a as ih=>
    rintro vs i t x ⟨y,ys,e,h1,h2⟩ h;subst e;simp only[da] at h;rw[cn] at h;unfold upd at h;grind
  obtain⟨_,y,h1,h2⟩:=key hargs hx
  have hy:(vals.toArray++Array.replicate (fn.ntmps- vals.toArray.size) undef).getD t undef=y:=by
   have hlt:t< vals.length:=by grind
   rw[Array.getD_eq_getD_getElem?,Array.getElem?_append_left (by grind)];grind
  grind
 refine wpIn_mono (h M w0 _ w0.w hrel) fun x a' w' ⟨st',⟨β2,mem2,hsz,hfr,hfree2,Ds,hds,hnd,hD⟩,he,hres⟩=>?_;have e0:∀(M:Nat→Prop) (b:Nat→Option (Nat×Nat)),MM M b (an [])=M:=fun M b=>by funext c;simp[MM,an,look]
 have hL:LeavesInM (FR none) 0 P fn a'.tmps (fun x w'=> ∃y β',x= .returned y∧Mem M w0 β' (an []) w'∧RV (MM M β' (an [])) β' w' v y∧∀i,1≤i→β' i=none∧i≠0) a'.defers .returning w':=by
  rw[hds];exact gS hres (fun y w'' h1 h2 _ _=>⟨y,fun _=>none,rfl,⟨h2.below,h2.m0,(fun _ _ _ h=>by cases h),(fun h=>by cases h),(fun _ _ h=>by cases h),fun _ _ _ _ _ _ _ h=>by cases h⟩,by rw[e0];exact h1,fun i hi=>⟨rfl,by omega⟩⟩) Ds w' hnd hD mem2 (fun t x hx=>by have:=hfr t x hx;rwa[cg hgh] at this)
 rcases he with rfl|rfl
 exact hL;exact hL
def mzX(sz TS TQ:Nat)(o:List (List AV))(L:List (List (List AV)))(ex:Hp):Hp:=ex++mzH sz TS TQ o L
def InX(m i:Nat):Prop:=(1≤i∧i< m+2)∨(35≤i∧i< 40)
theorem l9{l:Hp}{t:Nat}:∀ex:Hp,(∀p∈ex,p.1≠t)→an (ex++l) t=an l t
 |[],_=>rfl
 |(k,x)::ex,h=>by
  rw[List.cons_append,cX];unfold upd;rw[if_neg fun e=>h (k,x) (List.mem_cons_self ..) e.symm];exact l9 ex fun p hp=>h p (List.mem_cons_of_mem _ hp)
section
variable {sz:Nat}{fr fr':Fr}{hp ex:Hp}{nx N TS TQ:Nat}{o o':List (List AV)}{L:List (List (List AV))}{e:List (List AV)}{k:Nat}
theorem mzX_row(hid:∀p∈ex,35≤p.1∧p.1< 40)(hk:k≤30)(h:L[k]?=some e):an (mzX sz TS TQ o L ex) (k+2)=some ⟨TQ,sz,e⟩:=by
 unfold mzX;rw[l9 ex fun p hp e=>by grind];exact dc h
theorem mzX_out(hid:∀p∈ex,35≤p.1∧p.1< 40):an (mzX sz TS TQ o L ex) 1=some ⟨TS,1,o⟩:=by
 unfold mzX;rw[l9 ex fun p hp e=>by grind];rfl
theorem SEntT.mzx (s:Nat→Nat) (hL:L.length≤30) (s0:s 0=0) (hinj:∀i j,InX L.length i→InX L.length j→s i=s j→i=j)
    (h1:an hp (s 1)=some ⟨TS,1,o'⟩) (ho:o'.length=o.length) (hr:∀i e,L[i]?=some e→an hp (s (i+2))=some ⟨TQ,sz,e⟩∧∀x∈e,∀c∈x,Closed c) (hid:∀p∈ex,35≤p.1∧p.1< 40)
    (hex:∀i B,(i,some B)∈ex→∃B0,an hp (s i)=some B0∧B0.ty=B.ty∧B0.sz=B.sz∧B0.es.length=B.es.length)
    (hO:Shr ⟨40,s⟩ (an hp) (an (mzX sz TS TQ o L ex))→CvLL ⟨40,s⟩ (an hp) (an (mzX sz TS TQ o L ex)) o' o)
    (hE:Shr ⟨40,s⟩ (an hp) (an (mzX sz TS TQ o L ex))→∀i B B0,(i,some B)∈ex→an hp (s i)=some B0→CvLL ⟨40,s⟩ (an hp) (an (mzX sz TS TQ o L ex)) B0.es B.es)
    (hF:Shr ⟨40,s⟩ (an hp) (an (mzX sz TS TQ o L ex))→CvF ⟨40,s⟩ (an hp) (an (mzX sz TS TQ o L ex)) fr fr'):SEntT ⟨fr,hp,nx,N⟩ ⟨fr',mzX sz TS TQ o L ex,40,N⟩:=by
 have d:∀i B,(i,some B)∈mzX sz TS TQ o L ex→(i,some B)∈ex∨(i=1∧B=⟨TS,1,o⟩)∨∃k e,L[k]?=some e∧i=k+2∧B=⟨TQ,sz,e⟩:=fun i B h=>by
  rcases List.mem_append.1 h with h|h
  exact .inl h;rcases List.mem_cons.1 h with h|h
  cases h;exact .inr (.inl ⟨rfl,rfl⟩);obtain⟨k,e,f,r,k3⟩:=sr L 2 i B h;grind
 have l:Shr ⟨40,s⟩ (an hp) (an (mzX sz TS TQ o L ex)):=⟨fun i B h=>by
  rcases d i B (iu h) with b|⟨rfl,rfl⟩|⟨k,e,f,rfl,rfl⟩
  obtain⟨B0,b1,b2,m,n⟩:=hex i B b;exact⟨(hid _ b).2,B0,b1,b2,m,n⟩;exact⟨(show 1< 40 by decide),_,h1,rfl,rfl,ho⟩;grind⟩
 refine SEntT.intro (st:=⟨fr,hp,nx,N⟩) (st':=⟨fr',mzX sz TS TQ o L ex,40,N⟩) ⟨40,s⟩ rfl (show 0< 40 by decide) s0 (sE _ fun i j a q e=>?_) rfl (hF l) (vg _ fun i B h=>?_)
 have g:∀i,i∈(mzX sz TS TQ o L ex).map (·.1)→InX L.length i:=fun i a=>by
  unfold mzX at a;rw[List.map_append,List.mem_append] at a;rcases a with a|a
  obtain⟨p,hp,rfl⟩:=List.mem_map.1 a;exact .inr (hid p hp);rcases List.mem_cons.1 a with h|h
  have h:i=1:=h;exact .inl ⟨by omega,by omega⟩;have:=sv L 2 i h;exact .inl ⟨by omega,by omega⟩
 exact hinj i j (g i a) (g j q) e;rcases d i B h with b|⟨rfl,rfl⟩|⟨k,e,f,rfl,rfl⟩
 obtain⟨B0,b1,b2,m,n⟩:=hex i B b;exact⟨(hid _ b).2,B0,b1,b2,m,hE l i B B0 b b1⟩;exact⟨(show 1< 40 by decide),_,h1,rfl,rfl,hO l⟩;exact⟨by grind,_,(hr k e f).1,rfl,rfl,a8 l (hr k e f).2⟩
end
theorem FSpec.xs{P:Program}{f:Nat}{args:List AV}{r:AV}(h:FSpec P f args r)(hr:Closed r):XSpec P f args [] 1 r [] 1:=by
 have e0:∀(M:Nat→Prop) (b:Nat→Option (Nat×Nat)),MM M b (an [])=M:=fun M b=>by funext c;simp[MM,an,look]
 refine⟨h.enters,fun M j β vals k d g a=>?_⟩;rw[e0] at a;refine(h.calls M j.w vals ⟨fun b hb=>j.lt b (d.m0 b hb).1,fun hb=>(d.m0 GT hb).2 rfl,d.tab⟩ (df h.cl a)).mono ?_;rintro e n ⟨y,rfl,l,hb⟩;have i:=d.ext hb;refine⟨y,β,rfl,i.1,?_,g⟩;rw[e0];exact xf hr l (fun _ _ _ _=>rfl) (fun b _ _ m=>m) fun _ _ h=>h
theorem look_mem':∀{fr:Fr} {t:Nat} {x:AV},look fr t=some x→(t,x)∈fr
 |[],_,_,h=>by cases h
 |(s,y)::fr,t,x,h=>by
  rw[cn] at h;unfold upd at h;split at h
  ·rename_i e;cases h;subst e;exact List.mem_cons_self ..
  exact List.mem_cons_of_mem _ (look_mem' h)
theorem keepF{fr2 fr3:Fr}(h:∀p∈fr3,look fr2 p.1=some p.2∧Closed p.2):∀t x,look fr3 t=some x→look fr2 t=some x∧Closed x:=fun t x a=>h (t,x) (look_mem' a)
theorem loF{fr3:Fr}(h:fr3.all (fun p=>Nat.blt p.1 1000)=true):∀t x,look fr3 t=some x→t< 1000:=fun t x a=>Nat.le_of_ble_eq_true (List.all_eq_true.1 h _ (look_mem' a))
theorem SEnt.keep{fr fr':Fr}{hp:Hp}{nx nx' n:Nat}(hk:∀p∈fr',look fr p.1=some p.2)(hn:nx≤nx'):SEnt ⟨fr,hp,nx,n⟩ ⟨fr',hp,nx',n⟩:=fun M g a w ⟨β,c,h1,d,b,e⟩=>
 ⟨β,c,h1,fun t x h=>d t x (hk (t,x) (look_mem' h)),fun i f=>b i (Nat.le_trans hn f),e⟩
theorem sU{fr:Fr}:∀p∈([]:Fr),look fr p.1=some p.2:=fun p hp=>by cases hp
theorem all_cons{fr fr':Fr}{t:Nat}{x:AV}(h1:look fr t=some x)(h2:∀p∈fr',look fr p.1=some p.2):∀p∈(t,x)::fr',look fr p.1=some p.2:=fun p hp=>by
 rcases List.mem_cons.1 hp with rfl|hp
 exact h1;exact h2 p hp
def ArgsV(ev:Operand→Option AV)(y0:Value)(v:AV):List Operand→List AV→Prop
 |[],as=>as=[]
 |x::xs,as=> ∃a as',as=a::as'∧((ev x=some (.v y0)∧a=v)∨(ev x=some a∧Closed a))∧ArgsV ev y0 v xs as'
theorem ArgsV.nil{ev:Operand→Option AV}{y0:Value}{v:AV}:ArgsV ev y0 v [] []:=rfl
theorem ArgsV.own{ev:Operand→Option AV}{y0:Value}{v:AV}{x:Operand}{xs:List Operand}{as:List AV}(h1:ev x=some (.v y0))(h:ArgsV ev y0 v xs as):ArgsV ev y0 v (x::xs) (v::as):=⟨_,_,rfl,.inl ⟨h1,rfl⟩,h⟩
theorem ArgsV.clo{ev:Operand→Option AV}{y0:Value}{v a:AV}{x:Operand}{xs:List Operand}{as:List AV}(h1:ev x=some a)(h2:Closed a)(h:ArgsV ev y0 v xs as):ArgsV ev y0 v (x::xs) (a::as):=⟨_,_,rfl,.inr ⟨h1,h2⟩,h⟩
theorem ArgsV.congr{ev ev':Operand→Option AV}{y0:Value}{v:AV}:∀{xs:List Operand} {as:List AV},(∀x∈xs,ev' x=ev x)→ArgsV ev y0 v xs as→ArgsV ev' y0 v xs as
 |[],_,_,h=>h
 |x::xs,_,he,⟨a,as',e,h1,h2⟩=>by
  have e0:=he x (List.mem_cons_self ..);exact⟨a,as',e,h1.imp (fun⟨c,b⟩=>⟨e0.trans c,b⟩) (fun⟨c,b⟩=>⟨e0.trans c,b⟩),ArgsV.congr (fun z d=>he z (List.mem_cons_of_mem _ d)) h2⟩
structure PkgV (M00:Nat→Prop)(w00:Base)(hpA:Hp)(nxA:Nat)(v:AV)(y0:Value)(βS:Nat→Option (Nat×Nat))(M0:Nat→Prop)(w0:Base)(M:Nat→Prop)(w:World):Prop where
 m:∀b,M0 b↔M00 b∨∃i s,βS i=some (b,s)
 k:∀b,w0.K b↔w00.K b∨∃i s,βS i=some (b,s)
 rng:∀i b s,βS i=some (b,s)→¬w00.K b∧b< w.heap.size
 live:∀i x,βS i=some x→(an hpA i).isSome=true
 blk:∀i B,an hpA i=some B→∃b,βS i=some (b,B.sz)∧BlkAt M βS w b B
 inj:∀i j B B' b s s',an hpA i=some B→an hpA j=some B'→βS i=some (b,s)→βS j=some (b,s')→i=j
 free:∀i,nxA≤i→βS i=none∧i≠0
 zero:(an hpA 0).isSome=true→False
 val:RV M βS w v y0
structure XQ (jB:Nat)(y0:Value)(v:AV)(hpA:Hp)(nxA:Nat)(M00:Nat→Prop)(w00:Base)(H:List Nat→Nat→Option ABlk)(σ:List Nat)(M0:Nat→Prop)(w0:Base)(β:Nat→Option (Nat×Nat))(w:World):Prop where
 kept:w00.Kept w
 m00:∀b,M00 b→w00.K b∧b≠GT
 pin:w0.pin=w00.pin
 no:jB∈σ→(∀b,M0 b↔M00 b)∧(∀b,w0.K b↔w00.K b)
 yes:jB∉σ→∃βS,PkgV M00 w00 hpA nxA v y0 βS M0 w0 (MM M0 β (H σ)) w
section
variable {P:Program}{jB j id nxA:Nat}{v:AV}{y0:Value}{hpA:Hp}{M00 M0:Nat→Prop}{w00 w0:Base}{H:List Nat→Nat→Option ABlk}{σ:List Nat}{β β':Nat→Option (Nat×Nat)}{a:Act}{w w':World}{u:Upd}{y:Value}
theorem XQ.sub(hX:XQ jB y0 v hpA nxA M00 w00 H σ M0 w0 β w):(∀b,w00.K b→w0.K b)∧∀b,M00 b→M0 b:=by
 by_cases h2:jB∈σ;obtain⟨c,a⟩:=hX.no h2;exact⟨fun b hb=>(a b).2 hb,fun b hb=>(c b).2 hb⟩;obtain⟨d,p⟩:=hX.yes h2;exact⟨fun b hb=>(p.k b).2 (.inl hb),fun b hb=>(p.m b).2 (.inl hb)⟩
end
def kB(jB:Nat)(y0:Value)(v:AV)(gB:Nat)(asB:List AV)(fB:Operand)(xB:List Operand)(j:Nat)(fr:Nat→Option AV):Prop:=
 j=jB→evF fr fB=some (.clos gB [] [])∧∃as,ArgsV (evF fr) y0 v xB as∧as.map coe=asB
theorem kB.b{jB:Nat}{y0:Value}{v:AV}{gB:Nat}{asB as:List AV}{fB:Operand}{xB:List Operand}{fr:Nat→Option AV}(h1:evF fr fB=some (.clos gB [] []))(h2:ArgsV (evF fr) y0 v xB as)(h4:as.map coe=asB):kB jB y0 v gB asB fB xB jB fr:=
 fun _=>⟨h1,as,h2,h4⟩
def FinX0(hp':Hp)(nx' n:Nat)(x:Exit)(st:AState):Prop:=(x= .normal∨x= .ret)∧SEnt st ⟨[],hp',nx',n⟩
theorem FinX0.of{fr:Fr}{hp hp':Hp}{nx nx' n:Nat}(h:SEnt ⟨fr,hp,nx,n⟩ ⟨[],hp',nx',n⟩):FinX0 hp' nx' n .ret ⟨fr,hp,nx,n⟩:=⟨.inr rfl,h⟩
theorem FinE.none{P:Program}{fr:Fr}{hp:Hp}{nx n ty sz:Nat}{E' es:List (List AV)}{x:Exit}(hx:x= .normal∨x= .ret)(hb:an hp 0=some ⟨ty,sz,es⟩)(he:es=E'):FinE P [] ty sz E' (.tuple #[]) x ⟨fr,hp,nx,n⟩:=by
 refine⟨hx,⟨[],rfl,fun d c β w y _ h=>?_⟩,by rw[←he];exact hb⟩;obtain⟨b,e,a⟩:=h;subst e;have:b= #[]:=Array.ext' a;subst this;rfl
def AWpC(C:(Nat→Prop)→Base→Prop)(ρ:Option Nat)(P:Program)(c:Code)(Q:Exit→AState→Prop)(st:AState):Prop:=
 ∀M0 w0 a w,C M0 w0→iS M0 w0 st a w→c.wpIn (FR ρ) 0 P (fun e a' w'=> ∃st',iS M0 w0 st' a' w'∧Q e st') a w
section
variable {C:(Nat→Prop)→Base→Prop}{ρ:Option Nat}{P:Program}{Q:Exit→AState→Prop}{st:AState}{x y c:Code}
theorem AWp.toC(h:AWp ρ P c Q st):AWpC C ρ P c Q st:=fun e d a w _ b=>h e d a w b
theorem AWpC.seq(h:AWpC C ρ P x (iK (AWpC C ρ P y Q) Q) st):AWpC C ρ P (.seq x y) Q st:=fun d b a w hc g=>
 wpIn_seq (wpIn_mono (h d b a w hc g) fun e f i ⟨s,h1,c⟩=>by
  cases e with
  |normal=>exact c d b f i hc h1
  |_=>exact⟨s,h1,c⟩)
theorem AWpC.cutT{α:Type}(S:α→AState)(Post:α→Prop)(h:AWpC C ρ P x (H8 S Post Q) st)(h2:∀a,Post a→AWpC C ρ P y Q (S a)):AWpC C ρ P x (iK (AWpC C ρ P y Q) Q) st:=fun i f a w hc n=>
 wpIn_mono (h i f a w hc n) fun e m o ⟨s,d,g⟩=>by
  cases e with
  |normal=>obtain⟨z,l,p⟩:=g;exact⟨_,p i f m o d,fun k r q j b c=>h2 z l k r q j b c⟩
  |_=>exact⟨s,d,g⟩
theorem AWpC.block{id:Nat}(h:AWpC C ρ P c (rl id Q) st):AWpC C ρ P (.block id c) Q st:=fun i g a w hc f=>
 wpIn_block (wpIn_mono (h i g a w hc f) fun e j k ⟨s,h1,b⟩=>by
  cases e with
  |exit d=>
   simp only[Exit.inBlock];simp only[rl] at b;by_cases hi:d=id;subst hi;simp only[if_true];rw[Nat.beq_refl,if_pos rfl] at b;exact⟨s,h1,b⟩;rw[if_neg hi];rw[if_neg (fun hb=>hi (Nat.eq_of_beq_eq_true hb))] at b;exact⟨s,h1,b⟩
  |_=>exact⟨s,h1,b⟩)
end
structure GSpecK (P:Program)(g:Nat)(cap:List AV)(T:Nat→Option (List AV))(N:Nat)(M0:Nat→Prop)(w0:Base):Prop where
 enters:∀(xs:Array Value) (w:World),(callFunc g xs).run P w= .ok (.enter g xs) w
 calls:∀(l:Nat) (E:GEnv P l T N) (M:Nat→Prop) (w:World) (vals:List Value),(∀k go M G W,E.J k go M G W→w0.Kept W∧∀b,w0.K b→M b∨G b→M0 b)→E.J 0 true M (fun _=>False) w→RVs M (fun _=>none) w cap vals→
  CallsIn (FR none) 0 P g (#[.func (.yield l) #[] #[]]++vals.toArray) w fun e w'=>(∃v,e= .returned v)∧∃k go M' G',E.J k go M' G' w'∧(go=true→T k=none)
section
variable {M0:Nat→Prop}{w0:Base}{a:Act}{w W:World}{M G:Nat→Prop}{st:AState}
theorem Wait.look(hlt:∀b,w0.K b→b< w.heap.size)(h:Wait M0 w0 a w M G st W):w0.Kept W∧∀b,w0.K b→M b∨G b→M0 b:=by
 obtain⟨kept,two,mark,glt,_,β,c,_,_,_,f⟩:=h;refine⟨kept,fun b hb d=>?_⟩;have e:=hlt b hb;rcases d with d|d
 rcases(f b).1 d with h1|h1|h1|⟨i,s,h1⟩
 exact h1;omega;omega;exact absurd ⟨(c.rng i b s h1).2,.inl hb⟩ (c.rng i b s h1).1;have:=(glt b d).1;omega
end
section
variable {P:Program}{α γ:Type}{ps:Array Tmp}{assign body:Code}
theorem AWpC.rangeFunc {C:(Nat→Prop)→Base→Prop} {Q:Exit→AState→Prop} {f:Operand} {fr:Fr} {hp:Hp} {nx n g:Nat} {cap:List AV} {T:Nat→Option (List AV)} (N:Nat) (S:α→AState) (kk:α→Nat) (Inv:α→Prop) (X:γ→AState) (PX:Exit→γ→Prop) (a0:α)
    (hf:evF (look (S a0).fr) f=some (.clos g [] cap)) (hsC:∀M0 w0,C M0 w0→GSpecK P g (cap.map coe) T N M0 w0) (hps:ps.toList.all (Nat.blt · n)=true) (hng:Nat.ble n 1000=true) (hT:∀k as,T k=some as→as.length=ps.size)
    (hSn:∀a,(S a).n=n∧zF (S a).fr=true) (hXn:∀c,(X c).n=n) (hi:Inv a0) (hk0:kk a0=0) (hb:∀a,Inv a→kk a≤N)
    (h0:SEntT ⟨fr,hp,nx,n⟩ (S a0)) (hcap:(∀x∈cap.map coe,Closed x))
    (hround:∀l a as,Inv a→T (kk a)=some as→AWp (some l) P assign (iK (AWp (some l) P body (tH S (fun a'=>Inv a'∧kk a'=kk a+1) X PX n)) (fun _ _=>False)) ⟨jx (S a).fr ps.toList as++eV (S a).fr,(S a).hp,(S a).nx,n⟩)
    (hdone:∀a,Inv a→T (kk a)=none→Q .normal (S a)) (hstop:∀e c,PX e c→Q e (X c)):AWpC C none P (.rangeFunc f ps assign body) Q ⟨fr,hp,nx,n⟩:=by
 intro M0 w0 a w hC hr;have hs:=hsC M0 w0 hC;have F:∀b,M0 b→w0.K b:=by obtain⟨_,m,_⟩:=hr;exact fun b hb=>(m.m0 b hb).1
 have u:∀b,w0.K b→b< w.heap.size:=by obtain⟨_,m,_⟩:=hr;exact fun b hb=>Nat.lt_of_lt_of_le (w0.lt b hb) m.below.size
 have z:∀b,M0 b→b< w.heap.size:=fun b hb=>u b (F b hb);have hn:a.tmps.size=n:=by obtain⟨_,_,h1,_⟩:=hr;exact h1
 have hng':n≤GH:=Nat.le_of_ble_eq_true hng;have hps':∀p∈ps.toList,p< n:=fun p hp=>Nat.le_of_ble_eq_true (List.all_eq_true.1 hps p hp);obtain⟨β,mem,_,hfr,hfree,hdef,ht⟩:=h0 M0 w0 a w hr;obtain⟨xs,ys,hfe,hr1,hr2⟩:=fv hfr f _ hf;have hxs:xs= #[]:=by have:xs.toList=[]:=hr1;simpa using this
 subst hxs;refine wpIn_rangeFunc ?_;intro fn _;obtain⟨o,d⟩:∃r:Loop,r={state:= .ready,pending:=none,fn,tmps:=a.tmps,params:=ps,assign,body,defers:=w.heap.size}:=⟨_,rfl⟩;obtain⟨O,hl1⟩:=Wait.begin u F mem hfr hfree hdef ht o;obtain⟨H,L⟩:∃H,H=(w.alloc (.deferred (some []))).alloc (.loop o):=⟨_,rfl⟩;rw[←L] at O hl1
 have hcapv:RVs (fun b=>M0 b∨b=w.heap.size+1∨b=w.heap.size∨∃i s,β i=some (b,s)) (fun _=>none) H (cap.map coe) ys.toList:=by
  have hbel:Below w.heap.size w H:=by rw[L];exact((Below.refl _ w).alloc (Nat.le_refl _) _).alloc (by simp) _
  have h1:=(mem.ext hbel).2.vs (gq hr2);refine qp (fun b N hb hm=>?_) (df hcap h1);rcases hm with hm|rfl|rfl|⟨i,s,hm⟩
  exact .inl hm;simp[aR,hl1] at hb;simp[aR,O.mark] at hb;obtain⟨B,hB⟩:=Option.isSome_iff_exists.1 (ht i _ hm);exact .inr ⟨i,B,s,hB,hm⟩
 let E:GEnv P (w.heap.size+1) T N:={
  J:=fun k U M G W=>
   (U=true∧∃x,Inv x∧kk x=k∧W.heap[w.heap.size+1]?=some (.loop o)∧Wait M0 w0 a w M G (S x) W)∨
   (U=false∧∃e j c,fV e=some j∧PX e c∧W.heap[w.heap.size+1]?=some (.loop {o with state:= .done,pending:=some j})∧Wait M0 w0 a w M G (X c) W)
  ok:=by
   have keep:∀{M G G':Nat→Prop} {W W':World} {st:AState},Wait M0 w0 a w M G st W→GStep G G' W W'→W'.heap[w.heap.size+1]?=W.heap[w.heap.size+1]?:=fun h hs=>hs.block _ (by have:=h.two;omega) (fun hG=>by have:=(h.glt _ hG).1;omega);rintro k U M G G' W W' (⟨h1,x,y,h3,A,q⟩|⟨h1,e,j,c,y,h3,A,q⟩) hs;exact .inl ⟨h1,x,y,h3,(keep q hs).trans A,q.step z u hs⟩;exact .inr ⟨h1,e,j,c,y,h3,(keep q hs).trans A,q.step z u hs⟩
  bound:=by
   rintro k M G W (⟨_,x,y,rfl,_⟩|⟨h1,_⟩);exact hb x y;cases h1
  disj:=by
   rintro k U M G W (⟨_,x,_,_,_,q⟩|⟨_,e,j,c,_,_,_,q⟩);exact q.disj z;exact q.disj z
  tabs:=by
   rintro k U M G W (⟨_,x,_,_,_,q⟩|⟨_,e,j,c,_,_,_,q⟩);exact q.tabs u;exact q.tabs u
  yok:=by
   rintro k M G W as vals (⟨_,x,y,rfl,A,q⟩|⟨h1,_⟩) D hv hG;have hlen:vals.length=ps.size:=hv.length.trans (hT _ _ D);have hy:=run_yield (P:=P) (args:=vals.toArray) A (by rw[d];simpa using hlen);refine⟨_,_,_,_,hy,?_⟩;have e1:o.tmps=a.tmps:=by rw[d]
   have e2:o.params=ps:=by rw[d]
   have e3:o.assign=assign:=by rw[d]
   have e4:o.body=body:=by rw[d]
   rw[e1,e2,e3,e4];refine q.round z u hn hng' rfl A (by rw[d]) (hSn x).2 hv hps' _ (hround _ x as y D) (fun x' M' W4 hx' Y R Z=>?_) (fun e j c M' W4 hj hPX Y R Z=>?_);refine⟨true,M',rfl,.inl ⟨rfl,x',hx'.1,hx'.2,?_,Y⟩,R⟩;rw[Z,d];exact⟨false,M',rfl,.inr ⟨rfl,e,j,c,hj,hPX,by rw[Z,e1,e2,e3,e4],Y⟩,R⟩;cases h1}
 refine⟨w.heap.size+1,[{target:= .collected w.heap.size,args:= #[]}],H,{target:= .fn (.func g) ys,args:= #[.func (.yield (w.heap.size+1)) #[] #[]]},H,g, #[.func (.yield (w.heap.size+1)) #[] #[]]++ys,H,by rw[L,d];exact run_enterLoop_outer _ _ _ _ _,?_,fun _ _=>trivial,?_,fun h=>by simp[FR] at h,?_⟩;simp only[resolve,hfe,Deferred.ofValue,Sem.run_pure];simp;rfl;simp only[invoke,hs.enters]
 have hc:=hs.calls (w.heap.size+1) E _ H ys.toList (by
  rintro k U M G W (⟨_,x,_,_,_,q⟩|⟨_,e,j,c,_,_,_,q⟩);exact q.look u;exact q.look u) (.inl ⟨rfl,a0,hi,hk0,hl1,O⟩) hcapv
 rw[Array.toArray_toList] at hc;refine hc.mono ?_;rintro e W2 ⟨⟨v,rfl⟩,k,U,M',G',hJ,D⟩;rcases hJ with⟨rfl,x,y,rfl,A,q⟩|⟨rfl,e,j,c,y,h3,A,q⟩
 refine⟨none,_,by have:=run_endLoop (P:=P) A (by rw[d];simp);rw[this];rw[d],S x,q.over u F hn (hSn x).1 A,hdone x y (D rfl)⟩;refine⟨some j,_,run_endLoop (P:=P) A (by simp),?_⟩;have V:=q.over u F hn (hXn c) (rec':={({o with state:= .done,pending:=some j}:Loop) with state:= .exhausted}) A;have hq:=hstop e c h3;cases e with
 |ret=>simp only[fV,Option.some.injEq] at y;subst y;exact wpIn_ret ⟨_,V,hq⟩
 |exit id=>simp only[fV,Option.some.injEq] at y;subst y;exact wpIn_exit ⟨_,V,hq⟩
 |goto t=>simp only[fV,Option.some.injEq] at y;subst y;exact wpIn_goto ⟨_,V,hq⟩
 |normal=>cases y
 |panic ch=>cases y
 |outgrown=>cases y
end
def Et(b1:Nat)(y1:Value)(L:List AV)(M:Nat→Prop)(w:World):Prop:=
 M b1∧∃cs ty xs c,w.heap[b1]?=some (.cells cs ty (0,0))∧RVs M (fun _=>none) w L xs∧(∀i x,xs[i]?=some x→w.cell? ⟨b1,i,none⟩=some x)∧y1= .slice (some ⟨b1,0,none⟩) L.length c∧L.length≤c∧c≤maxLen
theorem vM{M:Nat→Prop}{β:Nat→Option (Nat×Nat)}{w:World}{b:Nat}:∀(L:List AV) (off:Nat),RVess M β w b 1 (L.map fun z=>[z]) off→∃xs,RVs M β w L xs∧∀i x,xs[i]?=some x→w.cell? ⟨b,off+i,none⟩=some x
 |[],_,_=>⟨[],rfl,fun i x h=>by simp at h⟩
 |z::L,off,⟨_,⟨⟨x,h1,h2⟩,_⟩,h3⟩=>by
  obtain⟨xs,a,c⟩:=vM L (off+1) h3;refine⟨x::xs,⟨x,xs,rfl,h2,a⟩,fun i y h=>?_⟩;cases i with
  |zero=>cases h;exact h1
  |succ i=>rw[show off+(i+1)=off+1+i by omega];exact c i y (by simpa using h)
theorem vP{M:Nat→Prop}{β:Nat→Option (Nat×Nat)}{w:World}{b:Nat}:∀(xs:List Value) (off:Nat),(∀i x,xs[i]?=some x→w.cell? ⟨b,off+i,none⟩=some x)→RVess M β w b 1 (xs.map fun x=>[.v x]) off
 |[],_,_=>trivial
 |x::xs,off,h=>⟨rfl,⟨⟨x,h 0 x rfl,rfl⟩,trivial⟩,vP xs (off+1) fun i y a=>by
  have:=h (i+1) y (by simpa using a);rwa[show off+(i+1)=off+1+i by omega] at this⟩
def kY(L:List AV)(k:Nat):Option (List AV):=if k< L.length then some [.v (.int .i64 ((L.length- 1- k:Nat):Int)),L.getD (L.length- 1- k) .any] else none
theorem Gf{M:Nat→Prop}{β:Nat→Option (Nat×Nat)}{w:World}:∀{L:List AV} {xs:List Value} {i:Nat},RVs M β w L xs→i< L.length→∃x,xs[i]?=some x∧RV M β w (L.getD i .any) x
 |[],_,_,_,h=>by simp at h
 |_::_,_,0,⟨x,xs,e,h1,_⟩,_=>⟨x,by rw[e];rfl,h1⟩
 |_::L,_,i+1,⟨x,xs,e,_,h2⟩,h=>by
  obtain⟨z,b,a⟩:=Gf (i:=i) h2 (by simpa using h);exact⟨z,by rw[e];simpa using b,by simpa using a⟩
theorem GSpecK.look{P:Program}{g N b1:Nat}{y1:Value}{L:List AV}{M0:Nat→Prop}{w0:Base}(hg:∀xs:List Value,xs.length=L.length→GSpecB P g [.aptr [[.arr (xs.map fun x=>[.v x])]] 0 0] (kY (xs.map .v)) N)(hK:∀b,b< w0.w.heap.size→w0.K b)(H:Et b1 y1 L M0 w0.w):GSpecK P g [.aptr [[.v y1]] 0 0] (kY L) N M0 w0:=by
 obtain⟨hM1,cs,ty,xs,c,hh,t,p,hy1,Z,Y⟩:=H;have d:xs.length=L.length:=t.length;have gs:=hg xs d;have f:w0.K b1:=hK b1 (Array.getElem?_eq_some_iff.1 hh).1;refine⟨gs.enters,fun l E M w vals R hJ A=>?_⟩
 let E':GEnv P l (kY (xs.map .v)) N:={
  J:=fun k n o G W=> ∃M,E.J k n M G W∧∀b,o b↔M b∧b≠b1
  ok:=by
   rintro k n o G G' W W' ⟨M,h1,m⟩ hs;exact⟨M,E.ok _ _ _ _ _ _ _ h1 hs,m⟩
  bound:=by
   rintro k o G W ⟨M,h1,_⟩;exact E.bound _ _ _ _ h1
  disj:=by
   rintro k n o G W ⟨M,h1,m⟩ b hb;exact E.disj _ _ _ _ _ h1 b ((m b).1 hb).1
  tabs:=by
   rintro k n o G W ⟨M,h1,m⟩;obtain⟨t1,t2,t3⟩:=E.tabs _ _ _ _ _ h1;exact⟨t1,fun h=>t2 ((m _).1 h).1,t3⟩
  yok:=by
   rintro k o G W as vals ⟨M,h1,m⟩ r hv hG;unfold kY at r;split at r;rotate_left;cases r;rename_i hlt;cases r;obtain⟨v0,vs,rfl,r0,v1,vs1,rfl,O,rfl⟩:=hv;rw[List.length_map,d] at hlt r0 O;obtain⟨x,X,hx2⟩:=Gf t (i:=L.length- 1- k) (by omega)
   have hxe:v1=x:=by
    have e:(xs.map AV.v).getD (L.length- 1- k) .any= .v x:=by rw[List.getD_eq_getElem?_getD,List.getElem?_map,X];rfl
    rw[e] at O;exact O
   subst hxe;obtain⟨kept,Q⟩:=R _ _ _ _ _ h1;have st:StabC M0 (fun b=>M b∨G b) (fun _=>none) (fun _=>none) w0.w W:=⟨fun b N hs _=>kept.block b (hK b (b7 hs)),fun b N hs D=>Q b (hK b (b7 hs)) D,fun _ _ h=>h,kept.sizes⟩;have V:kY L k=some [.v (.int .i64 ((L.length- 1- k:Nat):Int)),L.getD (L.length- 1- k) .any]:=by unfold kY;rw[if_pos hlt]
   obtain⟨fn,y,j,u,hy,hR⟩:=E.yok k M G W _ [v0,v1] h1 V ⟨_,_,rfl,r0,_,_,rfl,st.all hx2,rfl⟩ hG;refine⟨fn,y,j,u,hy,hR.mono ?_⟩;rintro e w' ⟨n,B,he,hJ2,a⟩;refine⟨n,fun b=>B b∧b≠b1,he,⟨B,hJ2,fun _=>Iff.rfl⟩,⟨a.os,a.tape,a.output,a.size,fun b hb D=>?_,a.sizes,fun b hb=>?_⟩⟩;by_cases e1:b=b1;rw[e1,(R _ _ _ _ _ hJ2).1.block b1 f,kept.block b1 f];exact a.block b hb fun h=>D ((m b).2 ⟨h,e1⟩);obtain⟨o1,o2⟩:=a.own b hb.1;exact⟨o1.imp (fun h=>(m b).2 ⟨h,hb.2⟩) id,o2⟩}
 obtain⟨kept,_⟩:=R _ _ _ _ _ hJ;have T:w.heap[b1]?=some (.cells cs ty (0,0)):=(kept.block b1 f).trans hh
 have q:RVs (fun b=>M b∧b≠b1) (fun _=>none) w [.aptr [[.arr (xs.map fun x=>[.v x])]] 0 0] vals:=by
  obtain⟨v0,vs,rfl,⟨hi,b,off,s,rfl,C,U,⟨hs1,⟨⟨z,F,S⟩,_⟩,_⟩⟩,rfl⟩:=A;refine⟨_,_,rfl,⟨hi,b,off,s,rfl,C,fun h=>U h.1,⟨hs1,⟨⟨z,F,?_⟩,trivial⟩,trivial⟩⟩,rfl⟩;have hz3:z=y1:=S;subst hz3;rw[hy1];refine⟨_,c,by rw[List.length_map,d],by rw[List.length_map,d];exact Z,Y,.inr ⟨b1,0,1,rfl,⟨cs.size,by simp[aR,T]⟩,fun h=>h.2 rfl,vP xs 0 fun i x hx=>?_⟩⟩;rw[Nat.zero_add,cell?_congr (w:=w0.w) (w':=w) ((kept.block b1 f))];exact p i x hx
 refine(gs.calls l N (Nat.le_refl N) E' _ w vals ⟨M,hJ,fun _=>Iff.rfl⟩ q).mono ?_;rintro e w' ⟨hv,k,n,o,G',⟨B,hJ2,_⟩,r⟩;refine⟨hv,k,n,B,G',hJ2,fun hgo=>?_⟩;have:=r hgo;unfold kY at this⊢;split at this;cases this
 ·rename_i hn
  rw[List.length_map,d] at hn;rw[if_neg hn]
structure FSpecW (P:Program)(f:Nat)(args:List AV)(r:AV)(H:(Nat→Prop)→World→Prop):Prop where
 cl:∀a∈args,Closed a
 enters:∀(xs:Array Value) (w:World),(callFunc f xs).run P w= .ok (.enter f xs) w
 calls:∀(M:Nat→Prop) (w:World) (vals:List Value),Fit M w→H M w→RVs M (fun _=>none) w args vals→
  Calls P f vals.toArray w fun e w'=> ∃y,e= .returned y∧RV M (fun _=>none) w' r y∧Below w.heap.size w w'
theorem FSpecW.enter {P:Program} {f:Nat} {fn:Func} {c:Code} {args:List AV} {r:AV} {H:(Nat→Prop)→World→Prop} (hf:P.funcs[f]?=some fn) (hb:fn.body=some c) (hname:(fn.name== "runtime.NumGoroutine")=false) {rs:List ResultVar} (hrs:fn.results.toList=rs) {m:Nat} (hm:fn.ntmps=m) (hn:Nat.ble args.length m=true)
    (hcl:∀a∈args,Closed a) {fr:Fr} (hfr:da 0 args=fr) (h:AWpC (fun M w0=>H M w0.w∧∀b,b< w0.w.heap.size→w0.K b) none P c (Fin P rs r) ⟨fr,[],1,m⟩):FSpecW P f args r H:=by
 subst hrs hm hfr;have hn:=nle hn;refine⟨hcl,fun xs w=>?_,fun M w vals hM hH hargs=>?_⟩;have hname':¬fn.name= "runtime.NumGoroutine" :=by simpa using hname
 simp[callFunc,hf,hname',hb];refine(callsIn_wide (n:=0)).1 ?_;refine callsIn_of_wp_marks (F:=Fence.wide) hf hb trivial ?_;have hlen:=hargs.length
 have hrel:iS M (Base.of w hM.tab) ⟨da 0 args,[],1,fn.ntmps⟩ {tmps:=vals.toArray++Array.replicate (fn.ntmps- vals.toArray.size) undef,defers:=[]} w:=by
  refine⟨fun _=>none,⟨⟨rfl,rfl,rfl,Nat.le_refl _,fun _ _=>rfl,fun _ _ h=>h⟩,(fun b hb=>⟨hM.lt b hb,fun e=>hM.nt (e▸hb)⟩),(fun _ _ _ h=>by cases h),(fun _=>rfl),(fun _ _ h=>by cases h),(fun _ _ _ _ _ _ _ h=>by cases h)⟩,by simp;omega,fun t x hx=>?_,fun i (hi:1≤i)=>⟨rfl,by omega⟩,⟨[],rfl,List.nodup_nil,by simp⟩⟩;have hmm:MM M (fun _=>none) (an [])=M:=by funext b;simp[MM,an,look]
  show RV (MM M (fun _=>none) (an [])) _ _ _ _;rw[hmm,cg rfl];obtain⟨_,y,h1,h2⟩:=fF hargs hx
  have hy:(vals.toArray++Array.replicate (fn.ntmps- vals.toArray.size) undef).getD t undef=y:=by
   have hlt:t< vals.length:=by simpa using(List.getElem?_eq_some_iff.1 h1).1
   rw[Array.getD_eq_getD_getElem?,Array.getElem?_append_left (by simpa using hlt)];simp at h1⊢;rw[h1];rfl
  rw[hy];exact h2
 refine wpIn_mono (h M (Base.of w hM.tab) _ w ⟨hH,fun b hb=>hb⟩ hrel) fun e a' w' ⟨st',⟨β,mem,hsz,hfr,hfree,Ds,hds,hnd,hD⟩,he,hres⟩=>?_
 have hL:LeavesInM (FR none) 0 P fn a'.tmps (fun e w'=> ∃y,e= .returned y∧RV M (fun _=>none) w' r y∧Below w.heap.size w w') a'.defers .returning w':=by
  rw[hds];exact gS hres (fun y w'' h1 h2 _ _=>⟨y,rfl,h1,⟨h2.below.os,h2.below.tape,h2.below.output,h2.below.size,h2.below.block⟩⟩) Ds w' hnd hD mem (fun t x hx=>by have:=hfr t x hx;rwa[cg rfl] at this)
 rcases he with rfl|rfl
 exact hL;exact hL
theorem FSpecW.to{P:Program}{f:Nat}{args:List AV}{r:AV}(h:FSpecW P f args r fun _ _=>True):FSpec P f args r:=⟨h.cl,h.enters,fun M w vals h1 a=>h.calls M w vals h1 trivial a⟩
theorem GSpecK.of{P:Program}{g:Nat}{cap:List AV}{T:Nat→Option (List AV)}{N:Nat}{M0:Nat→Prop}{w0:Base}(h:GSpec P g cap T):GSpecK P g cap T N M0 w0:=⟨(h N).enters,fun l E M w vals _ hJ hc=>(h N).calls l N (Nat.le_refl N) E M w vals hJ hc⟩
theorem AEval.callL {P:Program} {id:Nat} {ev:Operand→Option AV} {hp:Nat→Option ABlk} {c:Call} {callee x0 x1:Operand} {f i n ty:Nat} {cap:Option Nat} {a r:AV} {L:List AV} {es:List (List AV)} (h1:c.callee= .value callee) (h2:ev callee=some (.clos f [] [])) (h3:c.args.toList=[x0,x1]) (h4:ev x0=some a) (h5:ev x1=some (.lsl i 0 n cap 1)) (h6:hp i=some ⟨ty,1,es⟩)
    (hL:es=L.map fun z=>[z]) (hn:n=L.length) (hLc:∀z∈L,Closed z) (hs:∀b1 c,FSpecW P f [coe a,.v (.slice (some ⟨b1,0,none⟩) L.length c)] r (Et b1 (.slice (some ⟨b1,0,none⟩) L.length c) L)):AEval P id ev hp (.call c) ⟨r,[]⟩ [i]:=by
 refine .sem fun m Z β d w ρ o S l k N R U K B=>?_
 have g:∀x,x∈(Op.call c).operands↔x=callee∨x∈c.args.toList:=by
  intro x;simp[Op.operands,Call.operands,h1,←Array.mem_toList_iff]
 obtain⟨xs,V,W,u,J⟩:=k callee ((g _).2 (.inl rfl)) _ h2;have D:xs= #[]:=Array.ext' u;have G:V= #[]:=Array.ext' J;subst D G;have r0:=k x0 ((g _).2 (.inr (by rw[h3];simp))) _ h4;obtain⟨b,C,p,hb2,T,F,_,_⟩:=k x1 ((g _).2 (.inr (by rw[h3];simp))) _ h5;have Q:d i=some ⟨ty,1,es⟩:=(B i (List.mem_singleton.2 rfl)).trans h6;obtain⟨b',cs,e1,e2,E,e4⟩:=l.cells Q (show(1:Nat)≠0 by decide);rw[p] at e1;cases e1;simp only at e2 E;rw[hL] at E;obtain⟨vs,v1,v2⟩:=vM L 0 E
 have H:Et b (ρ x1) L (MM m β d) w:=by
  refine⟨.inr ⟨i,_,1,Q,p⟩,cs,ty,vs,C,e2,df hLc v1,fun j x X=>by have:=v2 j x X;rwa[Nat.zero_add] at this,by rw[hb2,hn,Nat.zero_mul],by omega,F⟩
 have t:=hs b C;have A:ρ x1= .slice (some ⟨b,0,none⟩) L.length C:=by rw[hb2,hn,Nat.zero_mul]
 rw[←A] at t
 have s:RVs (MM m β d) (fun _=>none) w [coe a,.v (ρ x1)] [ρ x0,ρ x1]:=by
  have q:RVs (MM m β d) β w [coe a] [ρ x0]:=gq (cs:=[a]) ⟨_,_,rfl,r0,rfl⟩;obtain⟨z,zs,e,q1,_⟩:=df (fun z Y=>t.cl z (by rw[List.mem_singleton.1 Y];simp)) q;cases e;exact⟨_,_,rfl,q1,_,_,rfl,rfl,rfl⟩
 refine .inr ⟨f,_,fG S h1 W rfl t.enters,?_⟩;rw[h3];refine(t.calls (MM m β d) w _ l.fit H s).mono ?_;rintro e w' ⟨y,rfl,A,hb⟩;have O:=l.ext hb;refine⟨y,rfl,β,O.1,?_,O.2,fun _ _=>rfl⟩;exact(StabC.all (w:=w') (w':=w') (M:=MM m β d) (M':=MM m β d) (β:=fun _=>none) (β':=β) ⟨fun _ _ _ _=>rfl,fun _ _ _ h=>h,(fun _ _ h=>by cases h),fun _ _ h=>h⟩ A)
end Go.Abs
namespace Go.Abs
def aw(b n:Nat):List Nat:=
 if _h:b≤1∨n=0 then [] else n % b::aw b (n/ b)
termination_by n
decreasing_by exact Nat.div_lt_self (by omega) (by omega)
def ofD(b:Nat):List Nat→Nat
 |[]=>0
 |d::l=>d+b* ofD b l
theorem ct(b:Nat):aw b 0=[]:=by rw[aw];simp
theorem fa{b n:Nat}(hb:1< b)(hn:0< n):aw b n=n % b::aw b (n/ b):=by rw[aw,dif_neg (by omega)]
theorem bt{b:Nat}(hb:1< b)(n:Nat):ofD b (aw b n)=n:=by
 induction n using Nat.strongRecOn with
 |_ n c=>
  rcases Nat.eq_zero_or_pos n with rfl|a
  rw[ct];rfl;rw[fa hb a,ofD,c _ (Nat.div_lt_self a hb)];exact Nat.mod_add_div n b
theorem dI{b:Nat}(hb:1< b)(n:Nat):∀d∈aw b n,d< b:=by
 induction n using Nat.strongRecOn with
 |_ n e=>
  rcases Nat.eq_zero_or_pos n with rfl|c
  rw[ct];simp;rw[fa hb c];intro d a;rcases List.mem_cons.1 a with rfl|a
  exact Nat.mod_lt _ (by omega);exact e _ (Nat.div_lt_self c hb) d a
def IsD(b:Nat)(l:List Nat):Prop:=(∀d∈l,d< b)∧l.getLast?≠some 0
theorem rc{b:Nat}(hb:1< b)(n:Nat):(aw b n).getLast?≠some 0:=by
 induction n using Nat.strongRecOn with
 |_ n c=>
  rcases Nat.eq_zero_or_pos n with rfl|a
  rw[ct];simp;rw[fa hb a];have h1:=c _ (Nat.div_lt_self a hb);rw[List.getLast?_cons];intro h;by_cases h0:aw b (n/ b)=[];rw[h0] at h;simp only[List.getLast?_nil,Option.getD_none,Option.some.injEq] at h
  have d:n/ b=0:=by
   have:=bt hb (n/ b);rw[h0] at this;exact this.symm
  have:=Nat.mod_add_div n b;rw[d] at this;omega;cases hl:(aw b (n/ b)).getLast? with
  |none=>simp_all
  |some x=>
   grind
theorem ofD_pos{b:Nat}{l:List Nat}(h:IsD b l)(hl:l≠[]):0< ofD b l:=by
 induction l with
 |nil=>grind
 |cons d l e=>
  rw[ofD];by_cases h0:l=[];subst h0;have a:=h.2;simp at a;omega;have hb:0< b:=by have:=h.1 d (List.mem_cons_self ..);omega
  have:0< ofD b l:=e ⟨fun x c=>h.1 x (List.mem_cons_of_mem _ c),by
   have a:=h.2;grind⟩ h0
  have:=Nat.mul_pos hb this;omega
theorem uL{b:Nat}(hb:1< b):∀{l:List Nat},IsD b l→aw b (ofD b l)=l
 |[],_=>ct b
 |d::l,h=>by
  have hp:=ofD_pos h (by simp);have a:=h.1 d (List.mem_cons_self ..)
  have e:IsD b l:=⟨fun x c=>h.1 x (List.mem_cons_of_mem _ c),by
   have f:=h.2;grind⟩
  rw[fa hb hp];have e1:ofD b (d::l) % b=d:=by rw[ofD,Nat.add_mul_mod_self_left];exact Nat.mod_eq_of_lt a
  have e2:ofD b (d::l) / b=ofD b l:=by rw[ofD,Nat.add_mul_div_left _ _ (by omega),Nat.div_eq_of_lt a];omega
  rw[e1,e2,uL hb e]
theorem gw(b:Nat)(l m:List Nat):ofD b (l++m)=ofD b l+b^ l.length* ofD b m:=by
 induction l with
 |nil=>simp[ofD]
 |cons d l a=>simp only[List.cons_append,ofD];grind
theorem fq{b:Nat}{l:List Nat}(h:∀d∈l,d< b):ofD b l< b^ l.length:=by
 induction l with
 |nil=>simp[ofD]
 |cons d l c=>
  have h1:=c fun x a=>h x (List.mem_cons_of_mem _ a);have e:=h d (List.mem_cons_self ..);rw[ofD,List.length_cons,Nat.pow_succ];have:b* (ofD b l+1)≤b* b^ l.length:=Nat.mul_le_mul_left _ h1;grind
theorem qA(b k:Nat):ofD b (List.replicate k 0)=0:=by
 induction k with
 |zero=>rfl
 |succ k a=>rw[List.replicate_succ,ofD,a];simp
theorem dS(b k:Nat)(l:List Nat)(h:k≤l.length):ofD b l=ofD b (l.take k)+b^ k* ofD b (l.drop k):=by
 conv=>lhs;rw[←List.take_append_drop k l]
 rw[gw,List.length_take,Nat.min_eq_left h]
def e9:List Nat→List Nat
 |[]=>[]
 |d::l=>match e9 l with
  |[]=>if d=0 then [] else [d]
  |e::m=>d::e::m
theorem vD(b:Nat):∀l,ofD b (e9 l)=ofD b l
 |[]=>rfl
 |d::l=>by
  have a:=vD b l;unfold e9;split
  ·rename_i h
   rw[h] at a;split
   ·rename_i c;subst c;show 0=0+b* ofD b l;rw[←a];simp[ofD]
   show d+b* ofD b []=d+b* ofD b l;grind
  ·rename_i e m h
   rw[h] at a;show d+b* ofD b (e::m)=d+b* ofD b l;rw[a]
theorem td:∀l,(e9 l).getLast?≠some 0
 |[]=>by simp[e9]
 |d::l=>by
  have a:=td l;unfold e9;grind
theorem vC:∀l,∀d∈e9 l,d∈l
 |[],d,h=>by simp[e9] at h
 |a::l,d,h=>by
  have b:=vC l;unfold e9 at h;grind
theorem ju{b:Nat}(hb:1< b){l:List Nat}(h:∀d∈l,d< b):e9 l=aw b (ofD b l):=by
 rw[←vD b l];exact(uL hb ⟨fun d a=>h d (vC l d a),td l⟩).symm
theorem k8:∀(l:List Nat) (k:Nat),k≤l.length→(∀i,k≤i→i< l.length→l[i]?=some 0)→(k=0∨l[k- 1]?≠some 0)→e9 l=l.take k
 |[],k,hk,_,_=>by simp[e9]
 |d::l,k,hk,hz,hl=>by
  cases k with
  |zero=>
   have h1:=k8 l 0 (Nat.zero_le _) (fun i _ f=>by have:=hz (i+1) (by omega) (by grind);grind) (.inl rfl);have c:=hz 0 (Nat.le_refl _) (by simp);simp only[List.getElem?_cons_zero,Option.some.injEq] at c;simp[e9,h1,c]
  |succ k=>
   have b:∀i,k≤i→i< l.length→l[i]?=some 0:=fun i h1 f=>by have:=hz (i+1) (by omega) (by grind);grind
   simp only[Nat.add_sub_cancel] at hl;cases k with
   |zero=>
    have h1:=k8 l 0 (Nat.zero_le _) b (.inl rfl);simp at hl;simp[e9,h1,hl]
   |succ k=>
    have a:k+1≤l.length:=by grind
    have h1:=k8 l (k+1) a b (.inr (hl.elim (fun h=>absurd h (by omega)) fun h=>by grind));cases l with
    |nil=>grind
    |cons e m=>
     simp only[List.take_succ_cons] at h1⊢;rw[e9,h1]
def bl(n:Nat):Nat:=if n=0 then 0 else n.log2+1
theorem zD(n:Nat):n< 2^ bl n:=by
 unfold bl;split
 ·grind
 exact Nat.lt_log2_self
theorem hZ{n k:Nat}(h:n< 2^ k):bl n≤k:=by
 unfold bl;split;omega
 ·rename_i a;exact(Nat.log2_lt a).2 h
theorem bl_lt{n k:Nat}(h:bl n≤k):n< 2^ k:=Nat.lt_of_lt_of_le (zD n) (Nat.pow_le_pow_right (by omega) h)
theorem dJ{m n:Nat}(h:m≤n):bl m≤bl n:=hZ (Nat.lt_of_le_of_lt h (zD n))
theorem iH(m n:Nat):bl (m* n)≤bl m+bl n:=by
 refine hZ ?_;rw[Nat.pow_add];exact Nat.mul_lt_mul'' (zD m) (zD n)
theorem yC(m n:Nat):bl (m+n)≤max (bl m) (bl n)+1:=by
 refine hZ ?_;have h1:m< 2^ max (bl m) (bl n):=bl_lt (Nat.le_max_left _ _);have a:n< 2^ max (bl m) (bl n):=bl_lt (Nat.le_max_right _ _);grind
theorem bl_zero:bl 0=0:=rfl
theorem jS:bl 1=1:=by decide
theorem Ii{n:Nat}(h:0< n):0< bl n:=by unfold bl;grind
theorem bR{b:Nat}(hb:1< b)(n:Nat):(aw b n).length≤bl n:=by
 induction n using Nat.strongRecOn with
 |_ n e=>
  rcases Nat.eq_zero_or_pos n with rfl|a
  rw[ct];simp;rw[fa hb a,List.length_cons];have h1:=e _ (Nat.div_lt_self a hb)
  have f:bl (n/ b)+1≤bl n:=by
   have c:n/ b≤n/ 2:=Nat.div_le_div_left hb (by omega)
   have g:bl (n/ 2)+1≤bl n:=by
    have d:=zD n;have hp:=Ii a
    have:n/ 2< 2^ (bl n- 1):=by
     rw[Nat.div_lt_iff_lt_mul (by omega)];simp_all
    have:=hZ this;omega
   have:=dJ c;omega
  omega
theorem fw{b:Nat}(hb:1< b){n k:Nat}(h:n< b^ k):(aw b n).length≤k:=by
 induction k generalizing n with
 |zero=>have:n=0:=by grind
        subst this;rw[ct];simp
 |succ k c=>
  rcases Nat.eq_zero_or_pos n with rfl|a
  rw[ct];simp;rw[fa hb a];have:n/ b< b^ k:=by rw[Nat.div_lt_iff_lt_mul (by omega)];exact h
  grind
theorem iQ{b n:Nat}(hb:1< b):aw b n=[]↔n=0:=by
 constructor;intro h;have:=bt hb n;rw[h] at this;exact this.symm;rintro rfl;exact ct b
abbrev MB:Nat:=1000000000
def u32(d:Nat):AV:= .v (.int .u32 d)
def i64(z:Int):AV:= .v (.int .i64 z)
def u64(z:Int):AV:= .v (.int .u64 z)
def bln(b:Bool):AV:= .v (.bool b)
def dE(l:List Nat):List (List AV):=l.map fun d=>[u32 d]
def mag(n:Nat):AV:= .arr (dE (aw MB n))
@[simp] theorem re (l:List Nat):(dE l).length=l.length:=by simp[dE]
theorem dD{l:List Nat}{i d:Nat}(h:l[i]?=some d):(dE l)[i]?=some [u32 d]:=by simp[dE,h]
theorem Eh(l:List Nat)(k:Nat):(dE l).take k=dE (l.take k):=by simp[dE]
theorem kR(l m:List Nat):dE (l++m)=dE l++dE m:=by simp[dE]
theorem gX(l:List Nat)(i d:Nat):(dE l).set i [u32 d]=dE (l.set i d):=by simp[dE,List.map_set]
theorem gY(k:Nat):List.replicate k [u32 0]=dE (List.replicate k 0):=by simp[dE]
theorem dq(l:List Nat):(dE l).all (·.all AV.one)=true:=by simp[dE,u32,AV.one];intros;rfl
theorem yv(l:List Nat):∀e∈dE l,e.length=1:=by intro e a;simp[dE] at a;obtain⟨d,_,rfl⟩:=a;rfl
theorem bH(l:List Nat):∀e∈dE l,∀c∈e,Closed c:=by
 intro e a c hc;simp[dE] at a;obtain⟨d,_,rfl⟩:=a;simp at hc;subst hc;exact ag _
theorem cQ(l:List Nat):Closed (.arr (dE l)):=aH (bH l)
theorem b6(n:Nat):Closed (mag n):=cQ _
theorem af:∀a∈([]:List AV),Closed a:=fun _ h=>by cases h
theorem ac{a:AV}{l:List AV}(h:Closed a)(h':∀a∈l,Closed a):∀b∈a::l,Closed b:=by
 intro b hb;rcases List.mem_cons.1 hb with rfl|hb
 exact h;exact h' b hb
theorem AEval.lenD{P:Program}{id:Nat}{ev:Operand→Option AV}{hp:Nat→Option ABlk}{c:Call}{x:Operand}{T:Nat}{d:Nat×Nat}{l:List Nat}(hc:c.callee= .builtin .len)(ha:c.args= #[x])(ht:c.argTypes= #[T])(hx:ev x=some (.arr (dE l)))(he:ec P T=some d):
    AEval P id ev hp (.call c) ⟨.v (.int .i64 (l.length:Nat)),[]⟩ []:= .len hc ha ht hx (by simp[qF]) he
theorem gR(b:Nat)(s:List Nat)(v:Nat):ofD b (s++[v])=ofD b s+b^ s.length* v:=by rw[gw];simp[ofD]
theorem cx{α:Type}{l:List α}{k:Nat}{x:α}(h:l[k]?=some x):l.take (k+1)=l.take k++[x]:=by
 rw[List.take_add_one,h];rfl
theorem cC(b:Nat){l:List Nat}{k d:Nat}(h:l[k]?=some d):ofD b (l.take (k+1))=ofD b (l.take k)+b^ k* d:=by
 have a:k< l.length:=(List.getElem?_eq_some_iff.1 h).1;rw[cx h,gR,List.length_take,Nat.min_eq_left (by omega)]
theorem eE(b:Nat)(l:List Nat)(k:Nat):ofD b (l.take (k+1))=ofD b (l.take k)+b^ k* (l[k]?.getD 0):=by
 cases h:l[k]? with
 |some d=>exact cC b h
 |none=>rw[List.getElem?_eq_none_iff] at h;rw[List.take_of_length_le (by omega),List.take_of_length_le (by omega)];simp
theorem gQ(b:Nat){l:List Nat}{k:Nat}(h:l.length≤k):ofD b (l.take k)=ofD b l:=by rw[List.take_of_length_le h]
theorem kF(b:Nat){l:List Nat}{k d:Nat}(h:l[k]?=some d):ofD b (l.drop k)=d+b* ofD b (l.drop (k+1)):=by
 rw[List.drop_eq_getElem_cons (List.getElem?_eq_some_iff.1 h).1,ofD];grind
theorem ph(b:Nat):∀{l:List Nat} {j d:Nat} (v:Nat),l[j]?=some d→ofD b (l.set j v)+b^ j* d=ofD b l+b^ j* v
 |[],_,_,_,h=>by grind
 |x::l,0,d,v,h=>by simp at h;simp[ofD];omega
 |x::l,j+1,d,v,h=>by
  simp only[List.getElem?_cons_succ] at h;have:=ph b v h;rw[List.set_cons_succ,ofD,ofD];grind
theorem sx{l:List Nat}{j v:Nat}{p:Nat→Prop}(h:∀d∈l,p d)(hv:p v):∀d∈l.set j v,p d:=by grind
theorem EF{α:Type}{cs vs:List α}(h:vs.length=cs.length):eR cs 0 vs=vs:=by
 apply List.ext_getElem?;intro j;rw[eA];grind
theorem yZ{α:Type}{cs vs:List α}(h:vs.length≤cs.length):eR cs 0 vs=vs++cs.drop vs.length:=by
 apply List.ext_getElem?;intro j;rw[eA];grind
theorem yW(s:List Nat)(m v i:Nat)(hi:i=s.length):(s++List.replicate (m+1) 0).set i v=(s++[v])++List.replicate m 0:=by
 subst hi;grind
theorem zQ(s:List Nat)(m i:Nat)(hi:i=s.length):(s++List.replicate (m+1) 0)[i]?=some 0:=by grind
theorem cv{b n i d:Nat}(hb:1< b)(h:(aw b n)[i]?=some d):d< b:=dI hb n d (List.mem_of_getElem? h)
theorem CK{n:Nat}(h0:0< n)(h:n< MB):aw MB n=[n]:=by
 rw[fa (by decide) h0,Nat.div_eq_of_lt h,ct,Nat.mod_eq_of_lt h]
theorem Fw{b:Nat}(hb:1< b)(n k:Nat):(aw b n).drop k=aw b (ofD b ((aw b n).drop k)):=by
 symm;refine uL hb ⟨fun d a=>dI hb n d (List.mem_of_mem_drop a),?_⟩;by_cases hk:k< (aw b n).length;rw[List.getLast?_drop,if_neg (by omega)];exact rc hb n;grind
theorem rO{b n:Nat}(hb:1< b):b^ ((aw b n).length- 1)≤n∨n=0:=by
 rcases Nat.eq_zero_or_pos n with h|h
 exact .inr h;have a:aw b n≠[]:=fun e=>by have:=(iQ hb).1 e;omega
 have c:=rc hb n;obtain⟨s,x,e⟩:∃s x,aw b n=s++[x]:=⟨_,_,(List.dropLast_concat_getLast a).symm⟩;have h1:=bt hb n;rw[e,gR] at h1;rw[e] at c;simp at c;rw[e];simp;have:b^ s.length* 1≤b^ s.length* x:=Nat.mul_le_mul_left _ (by omega);omega
theorem jm{b m n:Nat}(hb:1< b)(h:(aw b m).length< (aw b n).length):m< n:=by
 have h1:=fq (b:=b) (dI hb m);rw[bt hb] at h1;rcases rO (n:=n) hb with a|a
 have:b^ (aw b m).length≤b^ ((aw b n).length- 1):=Nat.pow_le_pow_right (by omega) (by omega);omega;subst a;rw[ct] at h;grind
theorem zG{b m n:Nat}(hb:1< b)(h:m≤n):(aw b m).length≤(aw b n).length:=by
 rcases Nat.lt_or_ge (aw b n).length (aw b m).length with h1|h1
 have:=jm hb h1;omega;grind
def jZ(n k:Nat):Nat:=ofD MB ((aw MB n).drop k)
def vj(n k:Nat):List Nat:=(aw MB n).take k
theorem tK(n:Nat):jZ n 0=n:=bt (by decide) n
theorem im(n:Nat):vj n 0=[]:=rfl
theorem Gz(n:Nat):vj n (aw MB n).length=aw MB n:=List.take_length
theorem lU{n k:Nat}(h:k≤(aw MB n).length):(vj n k).length=k:=by simp[vj,Nat.min_eq_left h]
theorem tM{n k:Nat}(h:k< (aw MB n).length):jZ n (k+1)=jZ n k/ MB∧vj n (k+1)=vj n k++[jZ n k % MB]:=by
 have a:(aw MB n)[k]?=some (aw MB n)[k]:=List.getElem?_eq_getElem h;have h1:=kF MB a;have b:(aw MB n)[k]< MB:=cv (by decide) a;constructor;unfold jZ;rw[h1,Nat.add_mul_div_left _ _ (by decide),Nat.div_eq_of_lt b];omega;unfold vj jZ;rw[cx a,h1,Nat.add_mul_mod_self_left,Nat.mod_eq_of_lt b]
theorem Gl{n k:Nat}(hk:k≤(aw MB n).length):jZ n k≤n:=by
 have:=dS MB k _ hk;rw[bt (by decide)] at this;have a:=Nat.le_mul_of_pos_left (ofD MB ((aw MB n).drop k)) (Nat.pow_pos (n:=k) (show 0< MB by decide));unfold jZ;omega
theorem Gm{n k:Nat}(hk:k≤(aw MB n).length):jZ n k=0↔k=(aw MB n).length:=by
 constructor;intro e;have:=Fw (b:=MB) (by decide) n k;rw[show ofD MB ((aw MB n).drop k)=0 from e,ct,List.drop_eq_nil_iff] at this;omega;intro e;unfold jZ;rw[e,List.drop_length];rfl
def eu(a b:Int):Int:=if a< b then -1 else if b< a then 1 else 0
theorem ly{a b:Int}(h:a< b):eu a b= -1:=by simp[eu,h]
theorem ng{a b:Int}(h:b< a):eu a b=1:=by simp[eu];omega
theorem En{a b:Int}(h:a=b):eu a b=0:=by simp[eu];omega
theorem sS{a b:Int}:eu a b≠0↔a≠b:=by unfold eu;split <;>(try split)<;> omega
theorem mT{b i x y:Nat}{l m:List Nat}(hl:∀d∈l,d< b)(hx:l[i]?=some x)(hy:m[i]?=some y)(hd:l.drop (i+1)=m.drop (i+1))(hlt:x< y):ofD b l< ofD b m:=by
 have e:i< l.length:=(List.getElem?_eq_some_iff.1 hx).1;have c:i< m.length:=(List.getElem?_eq_some_iff.1 hy).1;rw[dS b i l (by omega),dS b i m (by omega),kF b hx,kF b hy,hd]
 have h1:ofD b (l.take i)< b^ i:=by
  have:=fq (b:=b) (l:=l.take i) fun d hd=>hl d (List.mem_of_mem_take hd);rwa[List.length_take,Nat.min_eq_left (by omega)] at this
 have a:b^ i* (x+b* ofD b (m.drop (i+1))+1)≤b^ i* (y+b* ofD b (m.drop (i+1))):=Nat.mul_le_mul_left _ (by omega);rw[Nat.mul_add _ _ 1] at a;omega
theorem pv(s t:List Nat)(x:Nat)(i:Nat)(hi:i=s.length):(s++x::t)[i]?=some x:=by subst hi;simp
theorem oX(s t:List Nat)(x v:Nat)(i:Nat)(hi:i=s.length):(s++x::t).set i v=(s++[v])++t:=by
 subst hi;rw[List.set_append_right _ _ (Nat.le_refl _)];simp
theorem fN{l:List Nat}{i x:Nat}(h:l[i]?=some x):l.drop i=x::l.drop (i+1):=by
 rw[List.drop_eq_getElem_cons (List.getElem?_eq_some_iff.1 h).1,(List.getElem?_eq_some_iff.1 h).2]
end Go.Abs
