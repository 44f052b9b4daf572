/- Part W12 of the proof. -/
import Derived.Test.YtjkddcfoolilbaaGreatDoorW11
import Derived.Below
set_option linter.all false
namespace Go.Abs
open Go.RowKit
theorem AEval.callV {P:Program} {id:Nat} {ev:Operand→Option AV} {hp:Nat→Option ABlk} {c:Call} {callee:Operand} {f:Nat} {as as':List AV} {r:Value} {rd:List Nat} {rr:Ren} (h1:c.callee= .value callee) (h2:ev callee=some (.clos f [] [])) (h3:evs ev c.args.toList=some as)
    (h4:∀hp':Nat→Option ABlk,(∀i∈rd,hp' i=hp i)→CvL rr hp' (fun _=>none) as as') (h5:FSpec P f as' (.v r)):AEval P id ev hp (.call c) ⟨.v r,[]⟩ rd:=by
 refine .sem fun M0 w0 β hp' w ρ o ho mem hev hcst hid0 hid hidh hrd=>?_
 have hopn:∀x,x∈(Op.call c).operands↔x=callee∨x∈c.args.toList:=by
  intro x;simp[Op.operands,Call.operands,h1,←Array.mem_toList_iff]
 obtain⟨xs,ys,hx,hr1,hr2⟩:=hev callee ((hopn _).2 (.inl rfl)) _ h2;have hxs:xs= #[]:=Array.ext' hr1;have hys:ys= #[]:=Array.ext' hr2;subst hxs hys;have has:RVs (MM M0 β hp') β w as (c.args.toList.map ρ):=kU_ (fun x hx=>hev x ((hopn _).2 (.inr hx))) h3;have h6:=CvL.rvs mem (h4 hp' hrd) has;have e1:∀b:Nat→Option (Nat×Nat),MM M0 b (fun _=>none)=M0:=fun b=>by funext c;simp[MM]
 rw[e1] at h6;refine .inr ⟨f,_,cN_ ho h1 hx rfl h5.enters,?_⟩;refine(h5.calls M0 w _ ⟨fun b hb=>Nat.lt_of_lt_of_le (w0.lt b (mem.m0 b hb).1) mem.below.size,fun hb=>(mem.m0 GT hb).2 rfl,mem.tab⟩ (bS_ h5.cl h6)).mono ?_;rintro e w' ⟨y,rfl,hy,hb⟩;have hmx:=mem.ext hb;exact⟨y,rfl,β,hmx.1,hy,hmx.2,fun _ _=>rfl⟩
theorem mE_{r:Ren}{hp hp':Nat→Option ABlk}:∀(k:Nat) {a b:List (List AV)},CvLL r hp hp' a b→CvLL r hp hp' (a.drop k) (b.drop k)
 |0,_,_,h=>h
 |k+1,[],_,h=>by cases (h:_=[]);exact CvLL.nil
 |k+1,x::xs,_,⟨y,ys,e,_,h2⟩=>by subst e;exact mE_ k h2
theorem mC_{r:Ren}{hp hp':Nat→Option ABlk}:∀(k:Nat) {a b:List (List AV)},CvLL r hp hp' a b→CvLL r hp hp' (a.take k) (b.take k)
 |0,_,_,_=>CvLL.nil
 |k+1,[],_,h=>by cases (h:_=[]);exact CvLL.nil
 |k+1,x::xs,_,⟨y,ys,e,h1,h2⟩=>by subst e;exact CvLL.cons h1 (mC_ k h2)
theorem sK_{r:Ren}{hp:Nat→Option ABlk}{sz TQ:Nat}{w:Nat→Nat}{L:List (List (List AV))}(hz:sz≠0)(hr:∀i e,L[i]?=some e→hp (i+2)=some ⟨TQ,sz,e⟩)(hw:∀i e,L[i]?=some e→e.length=w i)(hc:∀e∈L,∀x∈e,∀c∈x,Closed c):
    CvLL r hp (fun _=>none) (mzO sz w (fun x=>x) L.length) (L.map fun e=>[.arr e]):=by
 have key:∀(l:List (List (List AV))) (k:Nat),(∀i e,l[i]?=some e→L[k+i]?=some e)→CvLL r hp (fun _=>none) ((List.range' k l.length).map fun i=>[.lsl (i+2) 0 (w i) none sz]) (l.map fun e=>[.arr e]):=by
  intro l
  induction l with
  |nil=>intro k _;exact CvLL.nil
  |cons e l ih=>
   intro k hk;rw[List.length_cons,List.range'_succ];have he:L[k]?=some e:=hk 0 e rfl;have hm:=List.mem_of_getElem? he
   refine CvLL.cons (ae_ ?_ am_) (ih (k+1) fun i e' h'=>by
    have:=hk (i+1) e' (by simpa using h');rwa[show k+(i+1)=k+1+i by omega] at this)
   refine Cv.shut (es:=e) as_ (b2_ (hr k e he) hz) (fun j B hj=>by cases hj) (by show 0+w k≤e.length;rw[hw k e he];omega) ?_;show CvLL r _ _ ((e.drop 0).take (w k)) e;rw[List.drop_zero,List.take_of_length_le (by rw[hw k e he];exact Nat.le_refl _)];exact aU_ as_ (hc e hm)
 have:=key L 0 fun i e h'=>by rw[Nat.zero_add];exact h'
 rw[←List.range_eq_range'] at this;exact this
theorem Cv.mzV {r:Ren} {hp:Nat→Option ABlk} {cap:Option Nat} {sz TS TQ a m:Nat} {w:Nat→Nat} {L:List (List (List AV))} (hz:sz≠0) (h1:hp 1=some ⟨TS,1,mzO sz w (fun x=>x) L.length⟩) (hr:∀i e,L[i]?=some e→hp (i+2)=some ⟨TQ,sz,e⟩) (hw:∀i e,L[i]?=some e→e.length=w i)
    (hc:∀e∈L,∀x∈e,∀c∈x,Closed c) (ham:a+m≤L.length):Cv r hp (fun _=>none) (.lsl 1 a m cap 1) (.arr (((L.map fun e=>[.arr e]).drop a).take m)):=
 Cv.shut (es:=((L.map fun e=>[.arr e]).drop a).take m) as_ (b2_ h1 (show(1:Nat)≠0 by decide)) (fun j B hj=>by cases hj) (by show a+m≤(mzO sz w (fun x=>x) L.length).length;rw[fe_];exact ham) (mC_ m (mE_ a (sK_ hz hr hw hc)))
theorem XSpec.enterC {P:Program} {f:Nat} {fn:Func} {c:Code} {nx:Nat} {v:AV} {hp:Hp} {args:List AV} (hf:P.funcs[f]?=some fn) (hb:fn.body=some c) (hname:(fn.name== "runtime.NumGoroutine")=false) {rs:List ResultVar} (hrs:fn.results.toList=rs) {m:Nat} (hm:fn.ntmps=m) (hn:Nat.ble args.length m=true)
    {fr:Fr} (hfr:argFr 0 args=fr) (h:AWp none P c (Fin P rs v) ⟨fr,hp,nx,m⟩):XSpec P f args hp nx v [] 1:=by
 subst hrs hm hfr;have hn:=Nat.le_of_ble_eq_true hn;refine⟨fun xs w=>?_,fun M w0 β vals hgh mem hfree hargs=>?_⟩;have hname':¬fn.name= "runtime.NumGoroutine" :=by simpa using hname
 simp[callFunc,hf,hname',hb];refine(callsIn_wide (n:=0)).1 ?_;refine callsIn_of_wp_marks (F:=Fence.wide) hf hb trivial ?_;have hlen:=hargs.length
 have hrel:ARel M w0 ⟨argFr 0 args,hp,nx,fn.ntmps⟩ {tmps:=vals.toArray++Array.replicate (fn.ntmps- vals.toArray.size) undef,defers:=[]} w0.w:=by
  refine⟨β,mem,by simp;omega,fun t x hx=>?_,hfree,⟨[],rfl,List.nodup_nil,by simp⟩⟩;rw[bj_ hgh]
  have key:∀{as:List AV} {vs:List Value} {i t:Nat} {x:AV},RVs (MM M β (lookB hp)) β w0.w as vs→look (argFr i as) t=some x→i≤t∧∃y,vs[t- i]?=some y∧RV (MM M β (lookB hp)) β w0.w x y:=by
   intro as
   induction as with
   |nil=>intro vs i t x _ h;cases h
   |cons a as ih=>
    rintro vs i t x ⟨y,ys,e,h1,h2⟩ h;subst e;simp only[argFr] at h;rw[aZ_] at h;unfold upd at h;split at h
    ·rename_i e;subst e;cases h;exact⟨Nat.le_refl _,y,by simp,h1⟩
    obtain⟨h3,z,h4,h5⟩:=ih h2 h;exact⟨by omega,z,by rw[show t- i=(t- (i+1))+1 by omega,List.getElem?_cons_succ];exact h4,h5⟩
  obtain⟨_,y,h1,h2⟩:=key hargs hx
  have hy:(vals.toArray++Array.replicate (fn.ntmps- vals.toArray.size) undef).getD t undef=y:=by
   have hlt:t< vals.length:=by simpa using(List.getElem?_eq_some_iff.1 h1).1
   rw[Array.getD_eq_getD_getElem?,Array.getElem?_append_left (by simpa using hlt)];simp at h1⊢;rw[h1];rfl
  rw[hy];exact h2
 refine wpIn_mono (h M w0 _ w0.w hrel) fun x a' w' ⟨st',⟨β2,mem2,hsz,hfr,hfree2,Ds,hds,hnd,hD⟩,he,hres⟩=>?_;have e0:∀(M:Nat→Prop) (b:Nat→Option (Nat×Nat)),MM M b (lookB [])=M:=fun M b=>by funext c;simp[MM,lookB,look]
 have hL:LeavesInM (FR none) 0 P fn a'.tmps (fun x w'=> ∃y β',x= .returned y∧Mem M w0 β' (lookB []) w'∧RV (MM M β' (lookB [])) β' w' v y∧∀i,1≤i→β' i=none∧i≠0) a'.defers .returning w':=by
  rw[hds];exact ea_ hres (fun y w'' h1 h2 _ _=>⟨y,fun _=>none,rfl,⟨h2.below,h2.m0,(fun _ _ _ h=>by cases h),(fun h=>by cases h),(fun _ _ h=>by cases h),fun _ _ _ _ _ _ _ h=>by cases h⟩,by rw[e0];exact h1,fun i hi=>⟨rfl,by omega⟩⟩) Ds w' hnd hD mem2 (fun t x hx=>by have:=hfr t x hx;rwa[bj_ hgh] at this)
 rcases he with rfl|rfl
 exact hL;exact hL
def mzX(sz TS TQ:Nat)(o:List (List AV))(L:List (List (List AV)))(ex:Hp):Hp:=ex++mzH sz TS TQ o L
def InX(m i:Nat):Prop:=(1≤i∧i< m+2)∨(35≤i∧i< 40)
theorem fV_{l:Hp}{t:Nat}:∀ex:Hp,(∀p∈ex,p.1≠t)→lookB (ex++l) t=lookB l t
 |[],_=>rfl
 |(k,x)::ex,h=>by
  rw[List.cons_append,bk_];unfold upd;rw[if_neg fun e=>h (k,x) (List.mem_cons_self ..) e.symm];exact fV_ ex fun p hp=>h p (List.mem_cons_of_mem _ hp)
section
variable {sz:Nat}{fr fr':Fr}{hp ex:Hp}{nx N TS TQ:Nat}{o o':List (List AV)}{L:List (List (List AV))}{e:List (List AV)}{k:Nat}
theorem mzX_row(hid:∀p∈ex,35≤p.1∧p.1< 40)(hk:k≤30)(h:L[k]?=some e):lookB (mzX sz TS TQ o L ex) (k+2)=some ⟨TQ,sz,e⟩:=by
 unfold mzX;rw[fV_ ex fun p hp e=>by have:=(hid p hp).1;omega];exact bB_ h
theorem mzX_out(hid:∀p∈ex,35≤p.1∧p.1< 40):lookB (mzX sz TS TQ o L ex) 1=some ⟨TS,1,o⟩:=by
 unfold mzX;rw[fV_ ex fun p hp e=>by have:=(hid p hp).1;omega];rfl
theorem SEntT.mzx (s:Nat→Nat) (hL:L.length≤30) (s0:s 0=0) (hinj:∀i j,InX L.length i→InX L.length j→s i=s j→i=j)
    (h1:lookB hp (s 1)=some ⟨TS,1,o'⟩) (ho:o'.length=o.length) (hr:∀i e,L[i]?=some e→lookB hp (s (i+2))=some ⟨TQ,sz,e⟩∧∀x∈e,∀c∈x,Closed c) (hid:∀p∈ex,35≤p.1∧p.1< 40)
    (hex:∀i B,(i,some B)∈ex→∃B0,lookB hp (s i)=some B0∧B0.ty=B.ty∧B0.sz=B.sz∧B0.es.length=B.es.length)
    (hO:Shr ⟨40,s⟩ (lookB hp) (lookB (mzX sz TS TQ o L ex))→CvLL ⟨40,s⟩ (lookB hp) (lookB (mzX sz TS TQ o L ex)) o' o)
    (hE:Shr ⟨40,s⟩ (lookB hp) (lookB (mzX sz TS TQ o L ex))→∀i B B0,(i,some B)∈ex→lookB hp (s i)=some B0→CvLL ⟨40,s⟩ (lookB hp) (lookB (mzX sz TS TQ o L ex)) B0.es B.es)
    (hF:Shr ⟨40,s⟩ (lookB hp) (lookB (mzX sz TS TQ o L ex))→CvF ⟨40,s⟩ (lookB hp) (lookB (mzX sz TS TQ o L ex)) fr fr'):SEntT ⟨fr,hp,nx,N⟩ ⟨fr',mzX sz TS TQ o L ex,40,N⟩:=by
 have key:∀i B,(i,some B)∈mzX sz TS TQ o L ex→(i,some B)∈ex∨(i=1∧B=⟨TS,1,o⟩)∨∃k e,L[k]?=some e∧i=k+2∧B=⟨TQ,sz,e⟩:=fun i B h=>by
  rcases List.mem_append.1 h with h|h
  exact .inl h;rcases List.mem_cons.1 h with h|h
  cases h;exact .inr (.inl ⟨rfl,rfl⟩);obtain⟨k,e,k1,k2,k3⟩:=iB_ L 2 i B h;exact .inr (.inr ⟨k,e,k1,by omega,k3⟩)
 have hS:Shr ⟨40,s⟩ (lookB hp) (lookB (mzX sz TS TQ o L ex)):=⟨fun i B h=>by
  rcases key i B (c1_ h) with hm|⟨rfl,rfl⟩|⟨k,e,k1,rfl,rfl⟩
  obtain⟨B0,b1,b2,b3,b4⟩:=hex i B hm;exact⟨(hid _ hm).2,B0,b1,b2,b3,b4⟩;exact⟨(show 1< 40 by decide),_,h1,rfl,rfl,ho⟩;have hk:=(List.getElem?_eq_some_iff.1 k1).1;exact⟨by show k+2< 40;omega,_,(hr k e k1).1,rfl,rfl,rfl⟩⟩
 refine SEntT.intro (st:=⟨fr,hp,nx,N⟩) (st':=⟨fr',mzX sz TS TQ o L ex,40,N⟩) ⟨40,s⟩ rfl (show 0< 40 by decide) s0 (kx_ _ fun i j hi hj e=>?_) rfl (hF hS) (mF_ _ fun i B h=>?_)
 have g:∀i,i∈(mzX sz TS TQ o L ex).map (·.1)→InX L.length i:=fun i hi=>by
  unfold mzX at hi;rw[List.map_append,List.mem_append] at hi;rcases hi with hi|hi
  obtain⟨p,hp,rfl⟩:=List.mem_map.1 hi;exact .inr (hid p hp);rcases List.mem_cons.1 hi with h|h
  have h:i=1:=h;exact .inl ⟨by omega,by omega⟩;have:=iC_ L 2 i h;exact .inl ⟨by omega,by omega⟩
 exact hinj i j (g i hi) (g j hj) e;rcases key i B h with hm|⟨rfl,rfl⟩|⟨k,e,k1,rfl,rfl⟩
 obtain⟨B0,b1,b2,b3,b4⟩:=hex i B hm;exact⟨(hid _ hm).2,B0,b1,b2,b3,hE hS i B B0 hm b1⟩;exact⟨(show 1< 40 by decide),_,h1,rfl,rfl,hO hS⟩;have hk:=(List.getElem?_eq_some_iff.1 k1).1;exact⟨by show k+2< 40;omega,_,(hr k e k1).1,rfl,rfl,aU_ hS (hr k e k1).2⟩
end
theorem FSpec.xs{P:Program}{f:Nat}{args:List AV}{r:AV}(h:FSpec P f args r)(hr:Closed r):XSpec P f args [] 1 r [] 1:=by
 have e0:∀(M:Nat→Prop) (b:Nat→Option (Nat×Nat)),MM M b (lookB [])=M:=fun M b=>by funext c;simp[MM,lookB,look]
 refine⟨h.enters,fun M w0 β vals hgh mem hfree hargs=>?_⟩;rw[e0] at hargs;refine(h.calls M w0.w vals ⟨fun b hb=>w0.lt b (mem.m0 b hb).1,fun hb=>(mem.m0 GT hb).2 rfl,mem.tab⟩ (bS_ h.cl hargs)).mono ?_;rintro e w' ⟨y,rfl,hy,hb⟩;have hmx:=mem.ext hb;refine⟨y,β,rfl,hmx.1,?_,hfree⟩;rw[e0];exact il_ hr hy (fun _ _ _ _=>rfl) (fun b _ _ hm=>hm) fun _ _ h=>h
theorem look_mem':∀{fr:Fr} {t:Nat} {x:AV},look fr t=some x→(t,x)∈fr
 |[],_,_,h=>by cases h
 |(s,y)::fr,t,x,h=>by
  rw[aZ_] at h;unfold upd at h;split at h
  ·rename_i e;cases h;subst e;exact List.mem_cons_self ..
  exact List.mem_cons_of_mem _ (look_mem' h)
theorem keepF{fr2 fr3:Fr}(h:∀p∈fr3,look fr2 p.1=some p.2∧Closed p.2):∀t x,look fr3 t=some x→look fr2 t=some x∧Closed x:=fun t x hx=>h (t,x) (look_mem' hx)
theorem loF{fr3:Fr}(h:fr3.all (fun p=>Nat.blt p.1 1000)=true):∀t x,look fr3 t=some x→t< 1000:=fun t x hx=>Nat.le_of_ble_eq_true (List.all_eq_true.1 h _ (look_mem' hx))
theorem SEnt.keep{fr fr':Fr}{hp:Hp}{nx nx' n:Nat}(hk:∀p∈fr',look fr p.1=some p.2)(hn:nx≤nx'):SEnt ⟨fr,hp,nx,n⟩ ⟨fr',hp,nx',n⟩:=fun M w0 a w ⟨β,mem,h1,hfr,hfree,hd⟩=>
 ⟨β,mem,h1,fun t x h=>hfr t x (hk (t,x) (look_mem' h)),fun i hi=>hfree i (Nat.le_trans hn hi),hd⟩
theorem k9_{fr:Fr}:∀p∈([]:Fr),look fr p.1=some p.2:=fun p hp=>by cases hp
theorem all_cons{fr fr':Fr}{t:Nat}{x:AV}(h1:look fr t=some x)(h2:∀p∈fr',look fr p.1=some p.2):∀p∈(t,x)::fr',look fr p.1=some p.2:=fun p hp=>by
 rcases List.mem_cons.1 hp with rfl|hp
 exact h1;exact h2 p hp
def ArgsV(ev:Operand→Option AV)(y0:Value)(v:AV):List Operand→List AV→Prop
 |[],as=>as=[]
 |x::xs,as=> ∃a as',as=a::as'∧((ev x=some (.v y0)∧a=v)∨(ev x=some a∧Closed a))∧ArgsV ev y0 v xs as'
theorem ArgsV.nil{ev:Operand→Option AV}{y0:Value}{v:AV}:ArgsV ev y0 v [] []:=rfl
theorem ArgsV.own{ev:Operand→Option AV}{y0:Value}{v:AV}{x:Operand}{xs:List Operand}{as:List AV}(h1:ev x=some (.v y0))(h:ArgsV ev y0 v xs as):ArgsV ev y0 v (x::xs) (v::as):=⟨_,_,rfl,.inl ⟨h1,rfl⟩,h⟩
theorem ArgsV.clo{ev:Operand→Option AV}{y0:Value}{v a:AV}{x:Operand}{xs:List Operand}{as:List AV}(h1:ev x=some a)(h2:Closed a)(h:ArgsV ev y0 v xs as):ArgsV ev y0 v (x::xs) (a::as):=⟨_,_,rfl,.inr ⟨h1,h2⟩,h⟩
theorem ArgsV.congr{ev ev':Operand→Option AV}{y0:Value}{v:AV}:∀{xs:List Operand} {as:List AV},(∀x∈xs,ev' x=ev x)→ArgsV ev y0 v xs as→ArgsV ev' y0 v xs as
 |[],_,_,h=>h
 |x::xs,_,he,⟨a,as',e,h1,h2⟩=>by
  have e0:=he x (List.mem_cons_self ..);exact⟨a,as',e,h1.imp (fun⟨h3,h4⟩=>⟨e0.trans h3,h4⟩) (fun⟨h3,h4⟩=>⟨e0.trans h3,h4⟩),ArgsV.congr (fun z hz=>he z (List.mem_cons_of_mem _ hz)) h2⟩
theorem ArgsV.rvs{ev:Operand→Option AV}{y0:Value}{v:AV}{M MB:Nat→Prop}{β βS:Nat→Option (Nat×Nat)}{w:World}{ρ:Operand→Value}(hv:RV MB βS w v y0)(hm:∀b N,aI_ w b=some N→MB b→M b):
    ∀{xs:List Operand} {as:List AV},(∀x∈xs,∀a,ev x=some a→RV M β w a (ρ x))→ArgsV ev y0 v xs as→RVs MB βS w as (xs.map ρ)
 |[],_,_,h=>by cases h;rfl
 |x::xs,_,he,⟨a,as',e,h1,h2⟩=>by
  subst e;refine⟨_,_,rfl,?_,ArgsV.rvs hv hm (fun z hz=>he z (List.mem_cons_of_mem _ hz)) h2⟩;rcases h1 with⟨h3,rfl⟩|⟨h3,h4⟩
  have h5:=he x (List.mem_cons_self ..) _ h3;have h6:ρ x=y0:=h5;rw[h6];exact hv;exact il_ h4 (he x (List.mem_cons_self ..) a h3) (fun _ _ _ _=>rfl) hm fun _ _ h=>h
structure PkgV (M00:Nat→Prop)(w00:Base)(hpA:Hp)(nxA:Nat)(v:AV)(y0:Value)(βS:Nat→Option (Nat×Nat))(M0:Nat→Prop)(w0:Base)(M:Nat→Prop)(w:World):Prop where
 m:∀b,M0 b↔M00 b∨∃i s,βS i=some (b,s)
 k:∀b,w0.K b↔w00.K b∨∃i s,βS i=some (b,s)
 rng:∀i b s,βS i=some (b,s)→¬w00.K b∧b< w.heap.size
 live:∀i x,βS i=some x→(lookB hpA i).isSome=true
 blk:∀i B,lookB hpA i=some B→∃b,βS i=some (b,B.sz)∧BlkAt M βS w b B
 inj:∀i j B B' b s s',lookB hpA i=some B→lookB hpA j=some B'→βS i=some (b,s)→βS j=some (b,s')→i=j
 free:∀i,nxA≤i→βS i=none∧i≠0
 zero:(lookB hpA 0).isSome=true→False
 val:RV M βS w v y0
structure XQ (jB:Nat)(y0:Value)(v:AV)(hpA:Hp)(nxA:Nat)(M00:Nat→Prop)(w00:Base)(H:List Nat→Nat→Option ABlk)(σ:List Nat)(M0:Nat→Prop)(w0:Base)(β:Nat→Option (Nat×Nat))(w:World):Prop where
 kept:w00.Kept w
 m00:∀b,M00 b→w00.K b∧b≠GT
 pin:w0.pin=w00.pin
 no:jB∈σ→(∀b,M0 b↔M00 b)∧(∀b,w0.K b↔w00.K b)
 yes:jB∉σ→∃βS,PkgV M00 w00 hpA nxA v y0 βS M0 w0 (MM M0 β (H σ)) w
section
variable {P:Program}{jB j id nxA:Nat}{v:AV}{y0:Value}{hpA:Hp}{M00 M0:Nat→Prop}{w00 w0:Base}{H:List Nat→Nat→Option ABlk}{σ:List Nat}{β β':Nat→Option (Nat×Nat)}{a:Act}{w w':World}{u:Upd}{y:Value}
theorem XQ.sub(hX:XQ jB y0 v hpA nxA M00 w00 H σ M0 w0 β w):(∀b,w00.K b→w0.K b)∧∀b,M00 b→M0 b:=by
 by_cases h2:jB∈σ;obtain⟨n1,n2⟩:=hX.no h2;exact⟨fun b hb=>(n2 b).2 hb,fun b hb=>(n1 b).2 hb⟩;obtain⟨βS,p⟩:=hX.yes h2;exact⟨fun b hb=>(p.k b).2 (.inl hb),fun b hb=>(p.m b).2 (.inl hb)⟩
theorem XQ.ordinary (h2:j≠jB) (hH:H (σ++[j])=appB (H σ) u.blk)
    (hX:XQ jB y0 v hpA nxA M00 w00 H σ M0 w0 β w) (mem:Mem M0 w0 β (H σ) w) (haf:After M0 w0 β (H σ) w id u y w' β'):XQ jB y0 v hpA nxA M00 w00 H (σ++[j]) M0 w0 β' w':=by
 obtain⟨m',_,st,_⟩:=haf;have hB:jB∈σ++[j]↔jB∈σ:=⟨fun h=>d1_ h (Ne.symm h2),fun h=>List.mem_append_left _ h⟩;have hK:∀b,w0.K b→w'.heap[b]?=w.heap[b]?:=fun b hb=>(m'.below.block b hb).trans (mem.below.block b hb).symm
 refine⟨⟨m'.below.os.trans (mem.below.os.symm.trans hX.kept.os),m'.below.tape.trans (mem.below.tape.symm.trans hX.kept.tape),m'.below.output.trans (mem.below.output.symm.trans hX.kept.output),Nat.le_trans hX.kept.size st.size,fun b hb=>(hK b (hX.sub.1 b hb)).trans (hX.kept.block b hb),fun b k hb=>st.sz b k (hX.kept.sizes b k hb)⟩,hX.m00,hX.pin,
  fun h=>hX.no (hB.1 h),fun h'=>?_⟩
 obtain⟨βS,p⟩:=hX.yes fun x=>h' (hB.2 x);have st2:StabC (MM M0 β (H σ)) (MM M0 β' (H (σ++[j]))) βS βS w w':=⟨st.heap,by rw[hH];exact st.m,fun _ _ h=>h,st.sz⟩;refine⟨βS,p.m,p.k,fun i b s hi=>⟨(p.rng i b s hi).1,Nat.lt_of_lt_of_le (p.rng i b s hi).2 st.size⟩,p.live,fun i B hi=>?_,p.inj,p.free,p.zero,st2.all p.val⟩;obtain⟨b,e1,e2⟩:=p.blk i B hi;exact⟨b,e1,e2.stab st2 (hK b ((p.k b).2 (.inr ⟨i,_,e1⟩)))⟩
theorem XQ.use {g nxB:Nat} {r:AV} {as asB:List AV} {xs:List Operand} {ev:Operand→Option AV} (hX:XQ jB y0 v hpA nxA M00 w00 H σ M0 w0 β w) (mem:Mem M0 w0 β (H σ) w) (hj:jB∉σ) (hH:H (σ++[jB])=H σ)
    (X2:XSpec P g asB hpA nxA r [] nxB) (hr:Closed r) (hev:∀x∈xs,∀z,ev x=some z→RV (MM M0 β (H σ)) β w z (a.eval x)) (hargs:ArgsV ev y0 v xs as) (hco:as.map coe=asB):
    Calls P g (xs.map a.eval).toArray w fun e w'=> ∃y M0' w0' β',e= .returned y∧Mem M0' w0' β' (H σ) w'∧w0'.gh=w0.gh∧RV (MM M0' β' (H σ)) β' w' r y∧StabC (MM M0 β (H σ)) (MM M0' β' (H σ)) β β' w w'∧(∀i,i≠id→β' i=β i)∧(∀ds,DefOK ds w0 w→DefOK ds w0' w')∧
     XQ jB y0 v hpA nxA M00 w00 H (σ++[jB]) M0' w0' β' w':=by
 have e0:∀(M:Nat→Prop) (b:Nat→Option (Nat×Nat)),MM M b (lookB [])=M:=fun M b=>by funext c;simp[MM,lookB,look]
 obtain⟨βS,p⟩:=hX.yes hj
 let S:Nat→Prop:=fun b=> ∃i s,βS i=some (b,s)
 let MB:Nat→Prop:=fun b=>MM M0 β (H σ) b∧¬S b
 have hSM:∀b,S b→M0 b:=fun b hb=>(p.m b).2 (.inr hb);have hSK:∀b,S b→w0.K b:=fun b hb=>(p.k b).2 (.inr hb);have hSG:¬S GT:=fun h=>(mem.m0 GT (hSM _ h)).2 rfl
 let wc:Base:=⟨w,fun b=>b< w.heap.size∧¬S b,fun _ h=>h.1,none,fun _=>undef,⟨mem.tab.lt,hSG⟩,mem.tab⟩
 have hM:∀b,MM MB βS (lookB hpA) b→MM M0 β (H σ) b:=by
  rintro b (hb|⟨i,B,s,_,hi⟩);exact hb.1;exact .inl (hSM b ⟨i,s,hi⟩)
 have sB:StabC (MM M0 β (H σ)) (MM MB βS (lookB hpA)) βS βS w w:=⟨fun _ _ _ _=>rfl,fun b _ _ h=>hM b h,fun _ _ h=>h,fun _ _ h=>h⟩
 have memc:Mem MB wc βS (lookB hpA) w:=⟨⟨rfl,rfl,rfl,Nat.le_refl _,fun _ _=>rfl,fun _ _ h=>h⟩,fun b hb=>⟨⟨mem.lt hb.1,hb.2⟩,fun e=>by
  rcases hb.1 with hb|⟨i,B,s,_,hi⟩
  exact(mem.m0 b hb).2 e;rw[e] at hi;exact mem.gtn i s hi⟩,fun i b s hi=>⟨fun hk=>hk.2 ⟨i,s,hi⟩,(p.rng i b s hi).2⟩,fun hz=>(p.zero hz).elim,fun i B hi=>by
  obtain⟨b,e1,e2⟩:=p.blk i B hi;exact⟨b,e1,e2.stab sB rfl⟩,p.inj⟩
 have hv:RVs (MM MB βS (lookB hpA)) βS w as (xs.map a.eval):=ArgsV.rvs (M:=MM M0 β (H σ)) (β:=β) (sB.all p.val) (fun b _ _ h=>hM b h) hev hargs;refine(X2.calls MB wc βS _ rfl memc p.free (hco▸dw_ hv)).mono ?_;rintro e w' ⟨y,βB,rfl,mB,hy,_⟩;rw[e0] at hy;have hold:∀b,b< w.heap.size→¬S b→w'.heap[b]?=w.heap[b]?:=fun b h1 h2=>mB.below.block b ⟨h1,h2⟩;have hsz:w.heap.size≤w'.heap.size:=mB.below.size;have hnS:∀b,w00.K b→¬S b:=fun b hb ⟨i,s,hi⟩=>(p.rng i b s hi).1 hb;have hK0:∀b,w00.K b→b< w.heap.size:=fun b hb=>Nat.lt_of_lt_of_le (w00.lt b hb) hX.kept.size;have hown:∀i b s,β i=some (b,s)→¬S b:=fun i b s hi h=>(mem.rng i b s hi).1 (hSK b h)
 let w0':Base:=⟨w',w00.K,fun b hb=>Nat.lt_of_lt_of_le (hK0 b hb) hsz,w0.pin,w0.gh,w00.kt,mem.tab.congr (hold GT mem.tab.lt hSG)⟩
 have hMM:∀b,MM M00 β (H σ) b→MM M0 β (H σ) b∧¬S b:=by
  rintro b (hb|⟨i,B,s,h1,h2⟩);exact⟨.inl ((p.m b).2 (.inl hb)),hnS b (hX.m00 b hb).1⟩;exact⟨.inr ⟨i,B,s,h1,h2⟩,hown i b s h2⟩
 have st:StabC (MM M0 β (H σ)) (MM M00 β (H σ)) β β w w':=⟨fun b N hb hm=>hold b (bb_ hb) fun h=>hm (.inl (hSM b h)),fun b N _ hm=>(hMM b hm).1,fun _ _ h=>h,mB.below.sizes⟩;refine⟨y,M00,w0',β,rfl,⟨⟨rfl,rfl,rfl,Nat.le_refl _,fun _ _=>rfl,fun _ _ h=>h⟩,hX.m00,fun i b s hi=>⟨fun hk=>(mem.rng i b s hi).1 ((p.k b).2 (.inl hk)),Nat.lt_of_lt_of_le (mem.rng i b s hi).2 hsz⟩,mem.pin,fun i B hi=>?_,mem.inj⟩,rfl,?_,st,fun _ _=>rfl,fun ds hds=>?_,?_⟩;obtain⟨b,e1,e2⟩:=mem.blk i B hi;exact⟨b,e1,e2.stab st (hold b (mem.rng i b _ e1).2 (hown i b _ e1))⟩;exact il_ hr hy (fun _ _ _ _=>rfl) (fun b _ _ hm=>hMM b hm) fun _ _ h=>h;obtain⟨Ds,d1,d2,d3⟩:=hds;refine⟨Ds,d1,d2,fun D hD=>?_⟩;obtain⟨e1,e2⟩:=d3 D hD;have hlt:=(Array.getElem?_eq_some_iff.1 e1).1;refine⟨by rw[hold D hlt fun h=>e2 (hSK D h)];exact e1,fun hk=>e2 ((p.k D).2 (.inl hk))⟩;refine⟨⟨mB.below.os.trans hX.kept.os,mB.below.tape.trans hX.kept.tape,mB.below.output.trans hX.kept.output,Nat.le_trans hX.kept.size hsz,fun b hb=>(hold b (hK0 b hb) (hnS b hb)).trans (hX.kept.block b hb),fun b k hb=>mB.below.sizes b k (hX.kept.sizes b k hb)⟩,hX.m00,hX.pin,fun _=>⟨fun _=>Iff.rfl,fun _=>Iff.rfl⟩,fun h=>absurd (by simp) h⟩
end
def spQ(jB:Nat)(r:AV)(j:Nat):Option AV:=cond (Nat.beq j jB) (some r) none
def kB(jB:Nat)(y0:Value)(v:AV)(gB:Nat)(asB:List AV)(fB:Operand)(xB:List Operand)(j:Nat)(fr:Nat→Option AV):Prop:=
 j=jB→evF fr fB=some (.clos gB [] [])∧∃as,ArgsV (evF fr) y0 v xB as∧as.map coe=asB
theorem kB.b{jB:Nat}{y0:Value}{v:AV}{gB:Nat}{asB as:List AV}{fB:Operand}{xB:List Operand}{fr:Nat→Option AV}(h1:evF fr fB=some (.clos gB [] []))(h2:ArgsV (evF fr) y0 v xB as)(h4:as.map coe=asB):kB jB y0 v gB asB fB xB jB fr:=
 fun _=>⟨h1,as,h2,h4⟩
theorem AWp.regB {P:Program} {ρ:Option Nat} {Q:Exit→AState→Prop} {ops:Array Oper} {rid nx0 n:Nat} {fr0 fr:Fr} {hp0:Hp} (jB t0:Nat) {v r:AV} {hpA:Hp} {nxA nxB gB:Nat} {asB:List AV} {oB:Oper} {cB:Call} {fB:Operand} (hm:P.follows .mixedOrders=true)
    (hs:SEntT ⟨fr0,hp0,nx0,n⟩ ⟨(t0,v)::fr,hpA,nxA,n⟩) (hcl:∀t x,look fr t=some x→Closed x) (hz0:(lookB hpA 0).isSome=false)
    (XB:XSpec P gB asB hpA nxA r [] nxB) (hr:Closed r) (hoB:ops[jB]?=some oB) (hopB:oB.op= .call cB) (hgB:oB.guard=none) (hfB:cB.callee= .value fB)
    (h:∀y0:Value,AY P ops (spQ jB r) (kB jB y0 v gB asB fB cB.args.toList) 1 n 0 ops.toList ((t0,.v y0)::fr) [] fun fps f h=>okReg ops fps=true∧Q .normal ⟨f,h,1+ops.size,n⟩):AWp ρ P (.region rid ops true) Q ⟨fr0,hp0,nx0,n⟩:=by
 have e0:∀(M:Nat→Prop) (b:Nat→Option (Nat×Nat)),MM M b (lookB [])=M:=fun M b=>by funext c;simp[MM,lookB,look]
 rintro M00 w00 a w hr0;obtain⟨β0,mem0,hn0',hfr0,hfree0,hdef0,hlive0⟩:=hs M00 w00 a w hr0;obtain⟨us,st',hrun,hok,hq⟩:=h (slot w00 a t0);obtain⟨h1,h2,h3,h4⟩:=fM_ ops.toList 0 _ st' us [] (look ((t0,.v (slot w00 a t0))::fr)) (lookB []) hrun rfl (fun i o h=>by simpa using h) rfl rfl;simp only[List.nil_append,Nat.zero_add,Array.length_toList] at h1 h2 h3
 have hback:backB ops=true:=by
  unfold okReg at hok;simp only[Bool.and_eq_true] at hok;exact hok.1
 have hB1:jB< ops.size:=(Array.getElem?_eq_some_iff.1 hoB).1
 have hHs:∀(j:Nat) (u:Upd) (rd:List Nat) (σ:List Nat),us[j]?=some (u,rd)→stH us (lookB []) (σ++[j])=appB (stH us (lookB []) σ) u.blk:=fun j u rd σ hu=>by
  rw[c9_,show blk? us j=u.blk by simp[blk?,hu]]
 refine nT_ (us:=us) (n:=n) (nx:=1) (fr0:=look ((t0,.v (slot w00 a t0))::fr)) (hp0:=lookB []) (X:=fun σ M0 w0 β a' w=>XQ jB (slot w00 a t0) v hpA nxA M00 w00 (fun σ=>stH us (lookB []) σ) σ M0 w0 β w) (gh:=w00.gh) hm (ancOK hback) (iu_ hok) (fun j o ho=>?_) (fun M0 w0 β hX=>?_) ?_ (fun σ a' w' nd hall hlt hF=>?_);obtain⟨u,rd,hu,s1,s2,hdst⟩:=h1 j o (by simpa using ho);refine⟨u,rd,hu,hdst,?_⟩;by_cases hjB:j=jB;subst hjB;rw[hoB] at ho;cases ho;obtain⟨rfl,rfl,hC⟩:=s1 r (by unfold spQ;rw[Nat.beq_refl];rfl);obtain⟨c1,as,c2,c4⟩:=hC rfl;refine .inr ⟨hgB,(fun c hc=>by rw[hopB] at hc;cases hc),fun σ M0 w0 β a w hj hr' hag hn mem hfr hid hid0 hX=>?_⟩;have hcg:∀x∈oB.op.operands,evF (stF ops us (look ((t0,.v (slot w00 _ t0))::fr)) σ) x=evF (stF ops us (look ((t0,.v (slot w00 _ t0))::fr)) (List.range j)) x:=fun x hx=>i6_ fun t e=>hag t (by subst e;exact List.mem_append_left _ (gI_ (Array.mem_toList_iff.2 hx)));have o1:fB∈oB.op.operands:=by rw[hopB];simp[Op.operands,Call.operands,hfB]
 have o2:∀x∈cB.args.toList,x∈oB.op.operands:=fun x hx=>by rw[hopB];simp[Op.operands,Call.operands,hfB];exact .inr (by simpa using hx)
 have d1:=(hcg fB o1).trans c1;obtain⟨xs,ys,hx,hx1,hx2⟩:=c7_ hfr fB _ d1;have hxs:xs= #[]:=Array.ext' hx1;have hys:ys= #[]:=Array.ext' hx2;subst hxs hys;refine⟨gB,_,cN_ hopB hfB hx rfl XB.enters,?_⟩;exact hX.use mem hj (hHs _ _ _ σ hu) XB hr (fun x _ z hz=>c7_ hfr x z hz) (ArgsV.congr (fun x hx=>hcg x (o2 x hx)) c2) c4
 have hs':spQ jB r j=none:=by
  unfold spQ;rw[show Nat.beq j jB=false by cases hb:Nat.beq j jB with|false=>rfl|true=>exact absurd (nbeqT hb) hjB];rfl
 exact .inl ⟨s2 hs',fun σ M0 w0 β a w y w' β' hj hn hX mem haf=>hX.ordinary hjB (hHs j u rd σ hu) mem haf⟩;refine⟨⟨hX.kept.os,hX.kept.tape,hX.kept.output,hX.kept.size,hX.kept.block,hX.kept.sizes⟩,hX.m00,hX.pin,hX.no,fun h=>?_⟩;obtain⟨βS,p⟩:=hX.yes h;have st2:StabC (MM M0 β (stH us (lookB []) [])) (MM M0 β (stH us (lookB []) [])) βS βS w w.drew:=⟨fun _ _ _ _=>rfl,fun _ _ _ h=>h,fun _ _ h=>h,fun _ _ h=>h⟩
 exact⟨βS,p.m,p.k,p.rng,p.live,fun i B hi=>by
  obtain⟨b,e1,e2⟩:=p.blk i B hi;exact⟨b,e1,e2.stab st2 rfl⟩,p.inj,p.free,p.zero,st2.all p.val⟩
 have hjn:∀b,(∃i s,β0 i=some (b,s))→¬w00.K b:=fun b ⟨i,s,hi⟩=>(mem0.rng i b s hi).1;have hgt:¬(∃i s,β0 i=some (GT,s)):=fun⟨i,s,hi⟩=>mem0.gtn i s hi
 let M0':Nat→Prop:=fun b=>M00 b∨∃i s,β0 i=some (b,s)
 have hK:∀b,w00.K b→b< w.heap.size:=fun b hb=>Nat.lt_of_lt_of_le (w00.lt b hb) mem0.below.size
 let w0':Base:=⟨w,fun b=>w00.K b∨∃i s,β0 i=some (b,s),fun b hb=>by
  rcases hb with hb|⟨i,s,hi⟩
  exact hK b hb;exact(mem0.rng i b s hi).2,w00.pin,w00.gh,.inl w00.kt,mem0.tab⟩
 have hlv:∀b,M0' b→MM M00 β0 (lookB hpA) b:=by
  rintro b (hb|⟨i,s,hi⟩);exact .inl hb;obtain⟨B,hB⟩:=Option.isSome_iff_exists.1 (hlive0 i _ hi);exact .inr ⟨i,B,s,hB,hi⟩
 have st0:StabC (MM M00 β0 (lookB hpA)) M0' β0 β0 w w:=⟨fun _ _ _ _=>rfl,fun b _ _ h=>hlv b h,fun _ _ h=>h,fun _ _ h=>h⟩;have hSt:stH us (lookB []) []=lookB []:=rfl;refine⟨M0',w0',fun _=>none,⟨⟨rfl,rfl,rfl,Nat.le_refl _,fun _ _=>rfl,fun _ _ h=>h⟩,fun b hb=>⟨hb.imp (fun h=>(mem0.m0 b h).1) fun h=>h,fun e=>?_⟩,(fun _ _ _ h=>by cases h),(fun h=>by cases h),(fun _ _ h=>by cases h),fun _ _ _ _ _ _ _ h=>by cases h⟩,rfl,hn0',fun t x hx=>?_,fun i hi=>⟨rfl,by omega⟩,?_,?_⟩;rcases hb with hb|⟨i,s,hi⟩
 exact(mem0.m0 b hb).2 e;rw[e] at hi;exact hgt ⟨i,s,hi⟩;rw[e0,show slot w0' a t=slot w00 a t from hJ_ rfl a t];rw[aZ_] at hx;unfold upd at hx;split at hx
 ·rename_i e;subst e;cases hx;exact(rfl:slot w00 a t=slot w00 a t)
 ·rename_i e
  have h5:=hfr0 t x (by rw[aZ_];unfold upd;rw[if_neg e];exact hx);exact il_ (hcl t x hx) h5 (fun _ _ _ _=>rfl) (fun b _ _ hm=>hlv b hm) fun _ _ h=>h
 obtain⟨Ds,d1,d2,d3⟩:=hdef0;refine⟨Ds,d1,d2,fun D hD=>⟨(d3 D hD).1,fun hk=>?_⟩⟩;rcases hk with hk|⟨i,s,hi⟩
 exact(d3 D hD).2 hk;obtain⟨B,hB⟩:=Option.isSome_iff_exists.1 (hlive0 i _ hi);obtain⟨b,r1,r2⟩:=mem0.blk i B hB;rw[hi] at r1;cases r1;obtain⟨N,hN⟩:=r2.size;simp[aI_,(d3 D hD).1] at hN;refine⟨mem0.below,mem0.m0,rfl,(fun h=>by cases h),fun _=>⟨β0,fun _=>Iff.rfl,fun _=>Iff.rfl,fun i b s hi=>mem0.rng i b s hi,hlive0,fun i B hi=>?_,mem0.inj,hfree0,(fun h=>by rw[hz0] at h;cases h),?_⟩⟩;obtain⟨b,e1,e2⟩:=mem0.blk i B hi;refine⟨b,e1,?_⟩;show BlkAt (MM M0' (fun _=>none) (lookB [])) β0 w b B;rw[e0];exact e2.stab st0 rfl;show RV (MM M0' (fun _=>none) (lookB [])) β0 w v (slot w00 a t0);rw[e0];exact st0.all (hfr0 t0 v (by rw[aZ_];exact aL_ _ _ _));obtain⟨M0,w0,β,mem,hgh,hn,hfr,hfree,hdef,hX⟩:=hF;obtain⟨n1,n2⟩:=hX.no (hall jB hB1);have hM0:M0=M00:=funext fun b=>propext (n1 b);subst hM0;rw[←h2,←h3] at *
 refine⟨⟨st'.fr,st'.hp,1+ops.size,n⟩,⟨β,⟨hX.kept,hX.m00,fun i b s hi=>⟨fun hk=>(mem.rng i b s hi).1 ((n2 b).2 hk),(mem.rng i b s hi).2⟩,fun hz=>(mem.pin hz).trans hX.pin,mem.blk,mem.inj⟩,hn,fun t x hx=>by rw[←hJ_ hgh];exact hfr t x hx,hfree,?_⟩,hq⟩;obtain⟨Ds,d1,d2,d3⟩:=hdef;exact⟨Ds,d1,d2,fun D hD=>⟨(d3 D hD).1,fun hk=>(d3 D hD).2 ((n2 D).2 hk)⟩⟩
end Go.Abs
namespace Go.Abs
def digs(b n:Nat):List Nat:=
 if _h:b≤1∨n=0 then [] else n % b::digs b (n/ b)
termination_by n
decreasing_by exact Nat.div_lt_self (by omega) (by omega)
def ofD(b:Nat):List Nat→Nat
 |[]=>0
 |d::l=>d+b* ofD b l
theorem be_(b:Nat):digs b 0=[]:=by rw[digs];simp
theorem cv_{b n:Nat}(hb:1< b)(hn:0< n):digs b n=n % b::digs b (n/ b):=by rw[digs,dif_neg (by omega)]
theorem aY_{b:Nat}(hb:1< b)(n:Nat):ofD b (digs b n)=n:=by
 induction n using Nat.strongRecOn with
 |_ n ih=>
  rcases Nat.eq_zero_or_pos n with rfl|hn
  rw[be_];rfl;rw[cv_ hb hn,ofD,ih _ (Nat.div_lt_self hn hb)];exact Nat.mod_add_div n b
theorem bR_{b:Nat}(hb:1< b)(n:Nat):∀d∈digs b n,d< b:=by
 induction n using Nat.strongRecOn with
 |_ n ih=>
  rcases Nat.eq_zero_or_pos n with rfl|hn
  rw[be_];simp;rw[cv_ hb hn];intro d hd;rcases List.mem_cons.1 hd with rfl|hd
  exact Nat.mod_lt _ (by omega);exact ih _ (Nat.div_lt_self hn hb) d hd
def IsD(b:Nat)(l:List Nat):Prop:=(∀d∈l,d< b)∧l.getLast?≠some 0
theorem jc_{b:Nat}(hb:1< b)(n:Nat):(digs b n).getLast?≠some 0:=by
 induction n using Nat.strongRecOn with
 |_ n ih=>
  rcases Nat.eq_zero_or_pos n with rfl|hn
  rw[be_];simp;rw[cv_ hb hn];have h1:=ih _ (Nat.div_lt_self hn hb);rw[List.getLast?_cons];intro h;by_cases h0:digs b (n/ b)=[];rw[h0] at h;simp only[List.getLast?_nil,Option.getD_none,Option.some.injEq] at h
  have hz:n/ b=0:=by
   have:=aY_ hb (n/ b);rw[h0] at this;exact this.symm
  have:=Nat.mod_add_div n b;rw[hz] at this;omega;cases hl:(digs b (n/ b)).getLast? with
  |none=>simp_all
  |some x=>
   grind
theorem ofD_pos{b:Nat}{l:List Nat}(h:IsD b l)(hl:l≠[]):0< ofD b l:=by
 induction l with
 |nil=>grind
 |cons d l ih=>
  rw[ofD];by_cases h0:l=[];subst h0;have h2:=h.2;simp at h2;omega;have hb:0< b:=by have:=h.1 d (List.mem_cons_self ..);omega
  have:0< ofD b l:=ih ⟨fun x hx=>h.1 x (List.mem_cons_of_mem _ hx),by
   have h2:=h.2;grind⟩ h0
  have:=Nat.mul_pos hb this;omega
theorem kX_{b:Nat}(hb:1< b):∀{l:List Nat},IsD b l→digs b (ofD b l)=l
 |[],_=>be_ b
 |d::l,h=>by
  have hp:=ofD_pos h (by simp);have hd:=h.1 d (List.mem_cons_self ..)
  have hl:IsD b l:=⟨fun x hx=>h.1 x (List.mem_cons_of_mem _ hx),by
   have h2:=h.2;grind⟩
  rw[cv_ hb hp];have e1:ofD b (d::l) % b=d:=by rw[ofD,Nat.add_mul_mod_self_left];exact Nat.mod_eq_of_lt hd
  have e2:ofD b (d::l) / b=ofD b l:=by rw[ofD,Nat.add_mul_div_left _ _ (by omega),Nat.div_eq_of_lt hd];omega
  rw[e1,e2,kX_ hb hl]
theorem dd_(b:Nat)(l m:List Nat):ofD b (l++m)=ofD b l+b^ l.length* ofD b m:=by
 induction l with
 |nil=>simp[ofD]
 |cons d l ih=>simp only[List.cons_append,ofD];grind
theorem dr_{b:Nat}{l:List Nat}(h:∀d∈l,d< b):ofD b l< b^ l.length:=by
 induction l with
 |nil=>simp[ofD]
 |cons d l ih=>
  have h1:=ih fun x hx=>h x (List.mem_cons_of_mem _ hx);have h2:=h d (List.mem_cons_self ..);rw[ofD,List.length_cons,Nat.pow_succ];have:b* (ofD b l+1)≤b* b^ l.length:=Nat.mul_le_mul_left _ h1;grind
theorem ix_(b k:Nat):ofD b (List.replicate k 0)=0:=by
 induction k with
 |zero=>rfl
 |succ k ih=>rw[List.replicate_succ,ofD,ih];simp
theorem bV_(b k:Nat)(l:List Nat)(h:k≤l.length):ofD b l=ofD b (l.take k)+b^ k* ofD b (l.drop k):=by
 conv=>lhs;rw[←List.take_append_drop k l]
 rw[dd_,List.length_take,Nat.min_eq_left h]
def trimD:List Nat→List Nat
 |[]=>[]
 |d::l=>match trimD l with
  |[]=>if d=0 then [] else [d]
  |e::m=>d::e::m
theorem lr_(b:Nat):∀l,ofD b (trimD l)=ofD b l
 |[]=>rfl
 |d::l=>by
  have ih:=lr_ b l;unfold trimD;split
  ·rename_i h
   rw[h] at ih;split
   ·rename_i h0;subst h0;show 0=0+b* ofD b l;rw[←ih];simp[ofD]
   show d+b* ofD b []=d+b* ofD b l;grind
  ·rename_i e m h
   rw[h] at ih;show d+b* ofD b (e::m)=d+b* ofD b l;rw[ih]
theorem jp_:∀l,(trimD l).getLast?≠some 0
 |[]=>by simp[trimD]
 |d::l=>by
  have ih:=jp_ l;unfold trimD;grind
theorem lq_:∀l,∀d∈trimD l,d∈l
 |[],d,h=>by simp[trimD] at h
 |a::l,d,h=>by
  have ih:=lq_ l;unfold trimD at h;grind
theorem et_{b:Nat}(hb:1< b){l:List Nat}(h:∀d∈l,d< b):trimD l=digs b (ofD b l):=by
 rw[←lr_ b l];exact(kX_ hb ⟨fun d hd=>h d (lq_ l d hd),jp_ l⟩).symm
theorem fa_:∀(l:List Nat) (k:Nat),k≤l.length→(∀i,k≤i→i< l.length→l[i]?=some 0)→(k=0∨l[k- 1]?≠some 0)→trimD l=l.take k
 |[],k,hk,_,_=>by simp[trimD]
 |d::l,k,hk,hz,hl=>by
  cases k with
  |zero=>
   have h1:=fa_ l 0 (Nat.zero_le _) (fun i _ hi=>by have:=hz (i+1) (by omega) (by grind);grind) (.inl rfl);have h2:=hz 0 (Nat.le_refl _) (by simp);simp only[List.getElem?_cons_zero,Option.some.injEq] at h2;simp[trimD,h1,h2]
  |succ k=>
   have hz':∀i,k≤i→i< l.length→l[i]?=some 0:=fun i h1 hi=>by have:=hz (i+1) (by omega) (by grind);grind
   simp only[Nat.add_sub_cancel] at hl;cases k with
   |zero=>
    have h1:=fa_ l 0 (Nat.zero_le _) hz' (.inl rfl);simp at hl;simp[trimD,h1,hl]
   |succ k=>
    have hlen:k+1≤l.length:=by grind
    have h1:=fa_ l (k+1) hlen hz' (.inr (hl.elim (fun h=>absurd h (by omega)) fun h=>by grind));cases l with
    |nil=>grind
    |cons e m=>
     simp only[List.take_succ_cons] at h1⊢;rw[trimD,h1]
def bl(n:Nat):Nat:=if n=0 then 0 else n.log2+1
theorem lt_bl(n:Nat):n< 2^ bl n:=by
 unfold bl;split
 ·grind
 exact Nat.lt_log2_self
theorem bl_le{n k:Nat}(h:n< 2^ k):bl n≤k:=by
 unfold bl;split;omega
 ·rename_i hn;exact(Nat.log2_lt hn).2 h
theorem bl_lt{n k:Nat}(h:bl n≤k):n< 2^ k:=Nat.lt_of_lt_of_le (lt_bl n) (Nat.pow_le_pow_right (by omega) h)
theorem b4_{m n:Nat}(h:m≤n):bl m≤bl n:=bl_le (Nat.lt_of_le_of_lt h (lt_bl n))
theorem es_(m n:Nat):bl (m* n)≤bl m+bl n:=by
 refine bl_le ?_;rw[Nat.pow_add];exact Nat.mul_lt_mul'' (lt_bl m) (lt_bl n)
theorem oV_(m n:Nat):bl (m+n)≤max (bl m) (bl n)+1:=by
 refine bl_le ?_;have h1:m< 2^ max (bl m) (bl n):=bl_lt (Nat.le_max_left _ _);have h2:n< 2^ max (bl m) (bl n):=bl_lt (Nat.le_max_right _ _);grind
theorem bl_zero:bl 0=0:=rfl
theorem fH_:bl 1=1:=by decide
theorem bl_pos{n:Nat}(h:0< n):0< bl n:=by unfold bl;grind
theorem aW_{b:Nat}(hb:1< b)(n:Nat):(digs b n).length≤bl n:=by
 induction n using Nat.strongRecOn with
 |_ n ih=>
  rcases Nat.eq_zero_or_pos n with rfl|hn
  rw[be_];simp;rw[cv_ hb hn,List.length_cons];have h1:=ih _ (Nat.div_lt_self hn hb)
  have h2:bl (n/ b)+1≤bl n:=by
   have hle:n/ b≤n/ 2:=Nat.div_le_div_left hb (by omega)
   have h3:bl (n/ 2)+1≤bl n:=by
    have hlt:=lt_bl n;have hp:=bl_pos hn
    have:n/ 2< 2^ (bl n- 1):=by
     rw[Nat.div_lt_iff_lt_mul (by omega)];simp_all
    have:=bl_le this;omega
   have:=b4_ hle;omega
  omega
theorem cm_{b:Nat}(hb:1< b){n k:Nat}(h:n< b^ k):(digs b n).length≤k:=by
 induction k generalizing n with
 |zero=>have:n=0:=by grind
        subst this;rw[be_];simp
 |succ k ih=>
  rcases Nat.eq_zero_or_pos n with rfl|hn
  rw[be_];simp;rw[cv_ hb hn];have:n/ b< b^ k:=by rw[Nat.div_lt_iff_lt_mul (by omega)];exact h
  grind
theorem cR_{b n:Nat}(hb:1< b):digs b n=[]↔n=0:=by
 constructor;intro h;have:=aY_ hb n;rw[h] at this;exact this.symm;rintro rfl;exact be_ b
abbrev MB:Nat:=1000000000
def u32(d:Nat):AV:= .v (.int .u32 d)
def i64(z:Int):AV:= .v (.int .i64 z)
def u64(z:Int):AV:= .v (.int .u64 z)
def bln(b:Bool):AV:= .v (.bool b)
def dE(l:List Nat):List (List AV):=l.map fun d=>[u32 d]
def mag(n:Nat):AV:= .arr (dE (digs MB n))
@[simp] theorem gv_ (l:List Nat):(dE l).length=l.length:=by simp[dE]
theorem cd_{l:List Nat}{i d:Nat}(h:l[i]?=some d):(dE l)[i]?=some [u32 d]:=by simp[dE,h]
theorem sk_(l:List Nat)(k:Nat):(dE l).take k=dE (l.take k):=by simp[dE]
theorem e4_(l m:List Nat):dE (l++m)=dE l++dE m:=by simp[dE]
theorem d8_(l:List Nat)(i d:Nat):(dE l).set i [u32 d]=dE (l.set i d):=by simp[dE,List.map_set]
theorem ds_(k:Nat):List.replicate k [u32 0]=dE (List.replicate k 0):=by simp[dE]
theorem cw_(l:List Nat):(dE l).all (·.all AV.one)=true:=by simp[dE,u32,AV.one];intros;rfl
theorem no_(l:List Nat):∀e∈dE l,e.length=1:=by intro e he;simp[dE] at he;obtain⟨d,_,rfl⟩:=he;rfl
theorem a1_(l:List Nat):∀e∈dE l,∀c∈e,Closed c:=by
 intro e he c hc;simp[dE] at he;obtain⟨d,_,rfl⟩:=he;simp at hc;subst hc;exact ad_ _
theorem bp_(l:List Nat):Closed (.arr (dE l)):=ax_ (a1_ l)
theorem ba_(n:Nat):Closed (mag n):=bp_ _
theorem ac_:∀a∈([]:List AV),Closed a:=fun _ h=>by cases h
theorem aa_{a:AV}{l:List AV}(h:Closed a)(h':∀a∈l,Closed a):∀b∈a::l,Closed b:=by
 intro b hb;rcases List.mem_cons.1 hb with rfl|hb
 exact h;exact h' b hb
theorem AEval.lenD{P:Program}{id:Nat}{ev:Operand→Option AV}{hp:Nat→Option ABlk}{c:Call}{x:Operand}{T:Nat}{d:Nat×Nat}{l:List Nat}(hc:c.callee= .builtin .len)(ha:c.args= #[x])(ht:c.argTypes= #[T])(hx:ev x=some (.arr (dE l)))(he:elOf P T=some d):
    AEval P id ev hp (.call c) ⟨.v (.int .i64 (l.length:Nat)),[]⟩ []:= .len hc ha ht hx (by simp[lenA]) he
theorem dC_(b:Nat)(s:List Nat)(v:Nat):ofD b (s++[v])=ofD b s+b^ s.length* v:=by rw[dd_];simp[ofD]
theorem br_{α:Type}{l:List α}{k:Nat}{x:α}(h:l[k]?=some x):l.take (k+1)=l.take k++[x]:=by
 rw[List.take_add_one,h];rfl
theorem bn_(b:Nat){l:List Nat}{k d:Nat}(h:l[k]?=some d):ofD b (l.take (k+1))=ofD b (l.take k)+b^ k* d:=by
 have hk:k< l.length:=(List.getElem?_eq_some_iff.1 h).1;rw[br_ h,dC_,List.length_take,Nat.min_eq_left (by omega)]
theorem cl_(b:Nat)(l:List Nat)(k:Nat):ofD b (l.take (k+1))=ofD b (l.take k)+b^ k* (l[k]?.getD 0):=by
 cases h:l[k]? with
 |some d=>exact bn_ b h
 |none=>rw[List.getElem?_eq_none_iff] at h;rw[List.take_of_length_le (by omega),List.take_of_length_le (by omega)];simp
theorem dq_(b:Nat){l:List Nat}{k:Nat}(h:l.length≤k):ofD b (l.take k)=ofD b l:=by rw[List.take_of_length_le h]
theorem fd_(b:Nat){l:List Nat}{k d:Nat}(h:l[k]?=some d):ofD b (l.drop k)=d+b* ofD b (l.drop (k+1)):=by
 rw[List.drop_eq_getElem_cons (List.getElem?_eq_some_iff.1 h).1,ofD];grind
theorem iy_(b:Nat):∀{l:List Nat} {j d:Nat} (v:Nat),l[j]?=some d→ofD b (l.set j v)+b^ j* d=ofD b l+b^ j* v
 |[],_,_,_,h=>by grind
 |x::l,0,d,v,h=>by simp at h;simp[ofD];omega
 |x::l,j+1,d,v,h=>by
  simp only[List.getElem?_cons_succ] at h;have:=iy_ b v h;rw[List.set_cons_succ,ofD,ofD];grind
theorem kt_{l:List Nat}{j v:Nat}{p:Nat→Prop}(h:∀d∈l,p d)(hv:p v):∀d∈l.set j v,p d:=by grind
theorem qo_{α:Type}{cs vs:List α}(h:vs.length=cs.length):setAt cs 0 vs=vs:=by
 apply List.ext_getElem?;intro j;rw[cA_];grind
theorem mL_{α:Type}{cs vs:List α}(h:vs.length≤cs.length):setAt cs 0 vs=vs++cs.drop vs.length:=by
 apply List.ext_getElem?;intro j;rw[cA_];grind
theorem nL_(s:List Nat)(m v i:Nat)(hi:i=s.length):(s++List.replicate (m+1) 0).set i v=(s++[v])++List.replicate m 0:=by
 subst hi;grind
theorem ol_(s:List Nat)(m i:Nat)(hi:i=s.length):(s++List.replicate (m+1) 0)[i]?=some 0:=by grind
theorem bi_{b n i d:Nat}(hb:1< b)(h:(digs b n)[i]?=some d):d< b:=bR_ hb n d (List.mem_of_getElem? h)
theorem pM_{n:Nat}(h0:0< n)(h:n< MB):digs MB n=[n]:=by
 rw[cv_ (by decide) h0,Nat.div_eq_of_lt h,be_,Nat.mod_eq_of_lt h]
theorem sg_{b:Nat}(hb:1< b)(n k:Nat):(digs b n).drop k=digs b (ofD b ((digs b n).drop k)):=by
 symm;refine kX_ hb ⟨fun d hd=>bR_ hb n d (List.mem_of_mem_drop hd),?_⟩;by_cases hk:k< (digs b n).length;rw[List.getLast?_drop,if_neg (by omega)];exact jc_ hb n;grind
theorem jb_{b n:Nat}(hb:1< b):b^ ((digs b n).length- 1)≤n∨n=0:=by
 rcases Nat.eq_zero_or_pos n with h|h
 exact .inr h;have hne:digs b n≠[]:=fun e=>by have:=(cR_ hb).1 e;omega
 have hl:=jc_ hb n;obtain⟨s,x,e⟩:∃s x,digs b n=s++[x]:=⟨_,_,(List.dropLast_concat_getLast hne).symm⟩;have h1:=aY_ hb n;rw[e,dC_] at h1;rw[e] at hl;simp at hl;rw[e];simp;have:b^ s.length* 1≤b^ s.length* x:=Nat.mul_le_mul_left _ (by omega);omega
theorem ej_{b m n:Nat}(hb:1< b)(h:(digs b m).length< (digs b n).length):m< n:=by
 have h1:=dr_ (b:=b) (bR_ hb m);rw[aY_ hb] at h1;rcases jb_ (n:=n) hb with h2|h2
 have:b^ (digs b m).length≤b^ ((digs b n).length- 1):=Nat.pow_le_pow_right (by omega) (by omega);omega;subst h2;rw[be_] at h;grind
theorem oi_{b m n:Nat}(hb:1< b)(h:m≤n):(digs b m).length≤(digs b n).length:=by
 rcases Nat.lt_or_ge (digs b n).length (digs b m).length with h1|h1
 have:=ej_ hb h1;omega;grind
def restD(n k:Nat):Nat:=ofD MB ((digs MB n).drop k)
def preD(n k:Nat):List Nat:=(digs MB n).take k
theorem jz_(n:Nat):restD n 0=n:=aY_ (by decide) n
theorem dR_(n:Nat):preD n 0=[]:=rfl
theorem preD_end(n:Nat):preD n (digs MB n).length=digs MB n:=List.take_length
theorem fP_{n k:Nat}(h:k≤(digs MB n).length):(preD n k).length=k:=by simp[preD,Nat.min_eq_left h]
theorem jA_{n k:Nat}(h:k< (digs MB n).length):restD n (k+1)=restD n k/ MB∧preD n (k+1)=preD n k++[restD n k % MB]:=by
 have hd:(digs MB n)[k]?=some (digs MB n)[k]:=List.getElem?_eq_getElem h;have h1:=fd_ MB hd;have h2:(digs MB n)[k]< MB:=bi_ (by decide) hd;constructor;unfold restD;rw[h1,Nat.add_mul_div_left _ _ (by decide),Nat.div_eq_of_lt h2];omega;unfold preD restD;rw[br_ hd,h1,Nat.add_mul_mod_self_left,Nat.mod_eq_of_lt h2]
theorem restD_le{n k:Nat}(hk:k≤(digs MB n).length):restD n k≤n:=by
 have:=bV_ MB k _ hk;rw[aY_ (by decide)] at this;have h2:=Nat.le_mul_of_pos_left (ofD MB ((digs MB n).drop k)) (Nat.pow_pos (n:=k) (show 0< MB by decide));unfold restD;omega
theorem restD_eq{n k:Nat}(hk:k≤(digs MB n).length):restD n k=0↔k=(digs MB n).length:=by
 constructor;intro e;have:=sg_ (b:=MB) (by decide) n k;rw[show ofD MB ((digs MB n).drop k)=0 from e,be_,List.drop_eq_nil_iff] at this;omega;intro e;unfold restD;rw[e,List.drop_length];rfl
def cmpZ(a b:Int):Int:=if a< b then -1 else if b< a then 1 else 0
theorem f3_{a b:Int}(h:a< b):cmpZ a b= -1:=by simp[cmpZ,h]
theorem g4_{a b:Int}(h:b< a):cmpZ a b=1:=by simp[cmpZ];omega
theorem sq_{a b:Int}(h:a=b):cmpZ a b=0:=by simp[cmpZ];omega
theorem k2_{a b:Int}:cmpZ a b≠0↔a≠b:=by unfold cmpZ;split <;>(try split)<;> omega
theorem gg_{b i x y:Nat}{l m:List Nat}(hl:∀d∈l,d< b)(hx:l[i]?=some x)(hy:m[i]?=some y)(hd:l.drop (i+1)=m.drop (i+1))(hlt:x< y):ofD b l< ofD b m:=by
 have hi:i< l.length:=(List.getElem?_eq_some_iff.1 hx).1;have hj:i< m.length:=(List.getElem?_eq_some_iff.1 hy).1;rw[bV_ b i l (by omega),bV_ b i m (by omega),fd_ b hx,fd_ b hy,hd]
 have h1:ofD b (l.take i)< b^ i:=by
  have:=dr_ (b:=b) (l:=l.take i) fun d hd=>hl d (List.mem_of_mem_take hd);rwa[List.length_take,Nat.min_eq_left (by omega)] at this
 have h2:b^ i* (x+b* ofD b (m.drop (i+1))+1)≤b^ i* (y+b* ofD b (m.drop (i+1))):=Nat.mul_le_mul_left _ (by omega);rw[Nat.mul_add _ _ 1] at h2;omega
theorem iO_(s t:List Nat)(x:Nat)(i:Nat)(hi:i=s.length):(s++x::t)[i]?=some x:=by subst hi;simp
theorem ii_(s t:List Nat)(x v:Nat)(i:Nat)(hi:i=s.length):(s++x::t).set i v=(s++[v])++t:=by
 subst hi;rw[List.set_append_right _ _ (Nat.le_refl _)];simp
theorem c3_{l:List Nat}{i x:Nat}(h:l[i]?=some x):l.drop i=x::l.drop (i+1):=by
 rw[List.drop_eq_getElem_cons (List.getElem?_eq_some_iff.1 h).1,(List.getElem?_eq_some_iff.1 h).2]
def padD(b:Nat):Nat→Nat→List Nat
 |0,_=>[]
 |n+1,m=>m % b::padD b n (m/ b)
@[simp] theorem ex_ (b:Nat):∀n m,(padD b n m).length=n
 |0,_=>rfl
 |n+1,m=>by simp[padD,ex_ b n]
theorem kn_{b:Nat}(hb:0< b):∀n m,∀d∈padD b n m,d< b
 |0,_,d,h=>by cases h
 |n+1,m,d,h=>by
  rcases List.mem_cons.1 h with rfl|h
  exact Nat.mod_lt _ hb;exact kn_ hb n _ d h
theorem hU_{b:Nat}(hb:0< b):∀{n m:Nat},m< b^ n→ofD b (padD b n m)=m
 |0,m,h=>by simp at h;subst h;rfl
 |n+1,m,h=>by
  rw[padD,ofD,hU_ hb (by rw[Nat.div_lt_iff_lt_mul hb];exact h)];exact Nat.mod_add_div m b
theorem n6_{b:Nat}:∀{l:List Nat},(∀d∈l,d< b)→padD b l.length (ofD b l)=l
 |[],_=>rfl
 |d::l,h=>by
  have hd:=h d (List.mem_cons_self ..);have h1:ofD b (d::l) % b=d:=by rw[ofD,Nat.add_mul_mod_self_left];exact Nat.mod_eq_of_lt hd
  have h2:ofD b (d::l) / b=ofD b l:=by rw[ofD,Nat.add_mul_div_left _ _ (by omega),Nat.div_eq_of_lt hd];omega
  rw[List.length_cons,padD,h1,h2,n6_ fun x hx=>h x (List.mem_cons_of_mem _ hx)]
theorem ng_{b n m:Nat}{l:List Nat}(h:∀d∈l,d< b)(hl:l.length=n)(hv:ofD b l=m):l=padD b n m:=by
 subst hl hv;exact(n6_ h).symm
theorem qq_{v:Nat}(h1:1≤v)(h2:v< 1000000000):500000000≤v* (1000000000/ (v+1))∧(v+1) * (1000000000/ (v+1))≤1000000000∧1≤1000000000/ (v+1):=by
 have hq1:(v+1) * (1000000000/ (v+1))≤1000000000:=Nat.mul_div_le _ _;have hq2:1000000000< (v+1) * (1000000000/ (v+1))+(v+1):=Nat.lt_mul_div_succ _ (by omega);have hq3:1≤1000000000/ (v+1):=by grind
 refine⟨?_,hq1,hq3⟩;obtain⟨q,hq⟩:∃q,q=1000000000/ (v+1):=⟨_,rfl⟩;rw[←hq] at hq1 hq2 hq3⊢;rw[Nat.add_mul] at hq1 hq2;by_cases c1:500000000≤v;have:=Nat.mul_le_mul_left v hq3;omega;by_cases c2:250000000≤v;have:2≤q:=by grind
 have:=Nat.mul_le_mul_left v this;omega;by_cases c3:166666666≤v
 have:4≤q:=by
  rw[hq,Nat.le_div_iff_mul_le (by omega)];omega
 have:=Nat.mul_le_mul_left v this;omega;by_cases c4:v=1;subst c4;omega
 have:q≤333333333:=by
  have:1000000000/ (v+1)≤1000000000/ 3:=Nat.div_le_div_left (by omega) (by omega);omega
 omega
theorem guess_ok{b n p w u v lo lw:Nat}(hb:0< b)(hp:p=lo+b^ n* u)(hlo:lo< b^ n)(hw:w=lw+b^ n* v)(hlw:lw< b^ n)(hv:b≤2* v)(hvb:v< b)(hq:p< w* b):
    p/ w≤min (u/ v) (b- 1)∧min (u/ v) (b- 1)≤p/ w+2:=by
 have hvp:0< v:=by omega
 have hbn:0< b^ n:=Nat.pow_pos hb;have hwp:0< w:=by grind
 have q1:w* (p/ w)≤p:=Nat.mul_div_le _ _;have q2:p< w* (p/ w)+w:=Nat.lt_mul_div_succ _ hwp;have q3:p/ w< b:=by rw[Nat.div_lt_iff_lt_mul hwp,Nat.mul_comm];grind
 obtain⟨q,hqe⟩:∃q,q=p/ w:=⟨_,rfl⟩;rw[←hqe] at q1 q2 q3⊢;have g1:v* (u/ v)≤u:=Nat.mul_div_le _ _;obtain⟨g,hge⟩:∃g,g=u/ v:=⟨_,rfl⟩;rw[←hge] at g1;constructor;refine Nat.le_min.2 ⟨?_,by omega⟩;rw[←hge,hge,Nat.le_div_iff_mul_le hvp]
 -- q v≤u,for q v b^n≤q w≤p< (u+1) b^n
 have h1:b^ n* (q* v)≤w* q:=by rw[hw,Nat.add_mul,Nat.mul_assoc,Nat.mul_comm v q];omega
 have h2:b^ n* (q* v)< b^ n* (u+1):=by grind
 have:=Nat.lt_of_mul_lt_mul_left h2;omega;rw[←hge]
 -- if min g (b- 1)≥q+3 then(q+3) v≤u and so p≥b^n (q+3) v,but p< w (q+1)
 refine Nat.le_of_not_lt fun hlt=>?_;have hg3:q+3≤g:=by grind
 have hb3:q+3≤b- 1:=by grind
 have h1:v* (q+3)≤u:=Nat.le_trans (Nat.mul_le_mul_left _ hg3) g1;have h2:b^ n* (v* (q+3))≤p:=by rw[hp];have:=Nat.mul_le_mul_left (b^ n) h1;omega
 have h3:w* (q+1)< b^ n* ((v+1) * (q+1))+1:=by
  have:w≤b^ n* (v+1):=by grind
  have:=Nat.mul_le_mul_right (q+1) this;grind
 have h4:p< w* (q+1):=by grind
 have h5:b^ n* (v* (q+3))< b^ n* ((v+1) * (q+1)):=by omega
 have h6:=Nat.lt_of_mul_lt_mul_left h5;grind
end Go.Abs
