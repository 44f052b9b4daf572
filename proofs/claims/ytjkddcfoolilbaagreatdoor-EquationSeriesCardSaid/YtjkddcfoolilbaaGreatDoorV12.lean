/- Part V12 of the proof. -/
import Derived.Test.YtjkddcfoolilbaaGreatDoorV11
import Derived.Below
set_option linter.all false
namespace Go.Abs
open Go.RowKit
theorem AEval.callV {P:Program} {id:Nat} {ev:Operand→Option AV} {hp:Nat→Option ABlk} {c:Call} {callee:Operand} {f:Nat} {as as':List AV} {r:Value} {rd:List Nat} {rr:Ren} (h1:c.callee= .value callee) (h2:ev callee=some (.clos f [] [])) (h3:evs ev c.args.toList=some as)
    (h4:∀hp':Nat→Option ABlk,(∀i∈rd,hp' i=hp i)→CvL rr hp' (fun _=>none) as as') (h5:FSpec P f as' (.v r)):AEval P id ev hp (.call c) ⟨.v r,[]⟩ rd:=by
 refine .sem fun M0 w0 β hp' w ρ o ho mem hev hcst hid0 hid hidh hrd=>?_
 have hopn:∀x,x∈(Op.call c).operands↔x=callee∨x∈c.args.toList:=by
  intro x;simp[Op.operands,Call.operands,h1,←Array.mem_toList_iff]
 obtain⟨xs,ys,hx,hr1,hr2⟩:=hev callee ((hopn _).2 (.inl rfl)) _ h2;have hxs:xs= #[]:=Array.ext' hr1;have hys:ys= #[]:=Array.ext' hr2;subst hxs hys;have has:RVs (MM M0 β hp') β w as (c.args.toList.map ρ):=nj_ (fun x hx=>hev x ((hopn _).2 (.inr hx))) h3;have h6:=CvL.rvs mem (h4 hp' hrd) has;have e1:∀b:Nat→Option (Nat×Nat),MM M0 b (fun _=>none)=M0:=fun b=>by funext c;simp[MM]
 rw[e1] at h6;refine .inr ⟨f,_,dq_ ho h1 hx rfl h5.enters,?_⟩;refine(h5.calls M0 w _ ⟨fun b hb=>Nat.lt_of_lt_of_le (w0.lt b (mem.m0 b hb).1) mem.below.size,fun hb=>(mem.m0 GT hb).2 rfl,mem.tab⟩ (b3_ h5.cl h6)).mono ?_;rintro e w' ⟨y,rfl,hy,hb⟩;have hmx:=mem.ext hb;exact⟨y,rfl,β,hmx.1,hy,hmx.2,fun _ _=>rfl⟩
theorem mM_{r:Ren}{hp hp':Nat→Option ABlk}:∀(k:Nat) {a b:List (List AV)},CvLL r hp hp' a b→CvLL r hp hp' (a.drop k) (b.drop k)
 |0,_,_,h=>h
 |k+1,[],_,h=>by cases (h:_=[]);exact CvLL.nil
 |k+1,x::xs,_,⟨y,ys,e,_,h2⟩=>by subst e;exact mM_ k h2
theorem mL_{r:Ren}{hp hp':Nat→Option ABlk}:∀(k:Nat) {a b:List (List AV)},CvLL r hp hp' a b→CvLL r hp hp' (a.take k) (b.take k)
 |0,_,_,_=>CvLL.nil
 |k+1,[],_,h=>by cases (h:_=[]);exact CvLL.nil
 |k+1,x::xs,_,⟨y,ys,e,h1,h2⟩=>by subst e;exact CvLL.cons h1 (mL_ k h2)
theorem s1_{r:Ren}{hp:Nat→Option ABlk}{sz TQ:Nat}{w:Nat→Nat}{L:List (List (List AV))}(hz:sz≠0)(hr:∀i e,L[i]?=some e→hp (i+2)=some ⟨TQ,sz,e⟩)(hw:∀i e,L[i]?=some e→e.length=w i)(hc:∀e∈L,∀x∈e,∀c∈x,Closed c):
    CvLL r hp (fun _=>none) (mzO sz w (fun x=>x) L.length) (L.map fun e=>[.arr e]):=by
 have key:∀(l:List (List (List AV))) (k:Nat),(∀i e,l[i]?=some e→L[k+i]?=some e)→CvLL r hp (fun _=>none) ((List.range' k l.length).map fun i=>[.lsl (i+2) 0 (w i) none sz]) (l.map fun e=>[.arr e]):=by
  intro l
  induction l with
  |nil=>intro k _;exact CvLL.nil
  |cons e l ih=>
   intro k hk;rw[List.length_cons,List.range'_succ];have he:L[k]?=some e:=hk 0 e rfl;have hm:=List.mem_of_getElem? he
   refine CvLL.cons (ai_ ?_ an_) (ih (k+1) fun i e' h'=>by
    have:=hk (i+1) e' (by simpa using h');rwa[show k+(i+1)=k+1+i by omega] at this)
   refine Cv.shut (es:=e) ax_ (b2_ (hr k e he) hz) (fun j B hj=>by cases hj) (by show 0+w k≤e.length;rw[hw k e he];omega) ?_;show CvLL r _ _ ((e.drop 0).take (w k)) e;rw[List.drop_zero,List.take_of_length_le (by rw[hw k e he];exact Nat.le_refl _)];exact a9_ ax_ (hc e hm)
 have:=key L 0 fun i e h'=>by rw[Nat.zero_add];exact h'
 rw[←List.range_eq_range'] at this;exact this
theorem Cv.mzV {r:Ren} {hp:Nat→Option ABlk} {cap:Option Nat} {sz TS TQ a m:Nat} {w:Nat→Nat} {L:List (List (List AV))} (hz:sz≠0) (h1:hp 1=some ⟨TS,1,mzO sz w (fun x=>x) L.length⟩) (hr:∀i e,L[i]?=some e→hp (i+2)=some ⟨TQ,sz,e⟩) (hw:∀i e,L[i]?=some e→e.length=w i)
    (hc:∀e∈L,∀x∈e,∀c∈x,Closed c) (ham:a+m≤L.length):Cv r hp (fun _=>none) (.lsl 1 a m cap 1) (.arr (((L.map fun e=>[.arr e]).drop a).take m)):=
 Cv.shut (es:=((L.map fun e=>[.arr e]).drop a).take m) ax_ (b2_ h1 (show(1:Nat)≠0 by decide)) (fun j B hj=>by cases hj) (by show a+m≤(mzO sz w (fun x=>x) L.length).length;rw[fq_];exact ham) (mL_ m (mM_ a (s1_ hz hr hw hc)))
theorem XSpec.enterC {P:Program} {f:Nat} {fn:Func} {c:Code} {nx:Nat} {v:AV} {hp:Hp} {args:List AV} (hf:P.funcs[f]?=some fn) (hb:fn.body=some c) (hname:(fn.name== "runtime.NumGoroutine")=false) {rs:List ResultVar} (hrs:fn.results.toList=rs) {m:Nat} (hm:fn.ntmps=m) (hn:Nat.ble args.length m=true)
    {fr:Fr} (hfr:argFr 0 args=fr) (h:AWp none P c (Fin P rs v) ⟨fr,hp,nx,m⟩):XSpec P f args hp nx v [] 1:=by
 subst hrs hm hfr;have hn:=Nat.le_of_ble_eq_true hn;refine⟨fun xs w=>?_,fun M w0 β vals hgh mem hfree hargs=>?_⟩;have hname':¬fn.name= "runtime.NumGoroutine" :=by simpa using hname
 simp[callFunc,hf,hname',hb];refine(callsIn_wide (n:=0)).1 ?_;refine callsIn_of_wp_marks (F:=Fence.wide) hf hb trivial ?_;have hlen:=hargs.length
 have hrel:ARel M w0 ⟨argFr 0 args,hp,nx,fn.ntmps⟩ {tmps:=vals.toArray++Array.replicate (fn.ntmps- vals.toArray.size) undef,defers:=[]} w0.w:=by
  refine⟨β,mem,by simp;omega,fun t x hx=>?_,hfree,⟨[],rfl,List.nodup_nil,by simp⟩⟩;rw[bf_ hgh]
  have key:∀{as:List AV} {vs:List Value} {i t:Nat} {x:AV},RVs (MM M β (lookB hp)) β w0.w as vs→look (argFr i as) t=some x→i≤t∧∃y,vs[t- i]?=some y∧RV (MM M β (lookB hp)) β w0.w x y:=by
   intro as
   induction as with
   |nil=>intro vs i t x _ h;cases h
   |cons a as ih=>
    rintro vs i t x ⟨y,ys,e,h1,h2⟩ h;subst e;simp only[argFr] at h;rw[bi_] at h;unfold upd at h;split at h
    ·rename_i e;subst e;cases h;exact⟨Nat.le_refl _,y,by simp,h1⟩
    obtain⟨h3,z,h4,h5⟩:=ih h2 h;exact⟨by omega,z,by rw[show t- i=(t- (i+1))+1 by omega,List.getElem?_cons_succ];exact h4,h5⟩
  obtain⟨_,y,h1,h2⟩:=key hargs hx
  have hy:(vals.toArray++Array.replicate (fn.ntmps- vals.toArray.size) undef).getD t undef=y:=by
   have hlt:t< vals.length:=by simpa using(List.getElem?_eq_some_iff.1 h1).1
   rw[Array.getD_eq_getD_getElem?,Array.getElem?_append_left (by simpa using hlt)];simp at h1⊢;rw[h1];rfl
  rw[hy];exact h2
 refine wpIn_mono (h M w0 _ w0.w hrel) fun x a' w' ⟨st',⟨β2,mem2,hsz,hfr,hfree2,Ds,hds,hnd,hD⟩,he,hres⟩=>?_;have e0:∀(M:Nat→Prop) (b:Nat→Option (Nat×Nat)),MM M b (lookB [])=M:=fun M b=>by funext c;simp[MM,lookB,look]
 have hL:LeavesInM (FR none) 0 P fn a'.tmps (fun x w'=> ∃y β',x= .returned y∧Mem M w0 β' (lookB []) w'∧RV (MM M β' (lookB [])) β' w' v y∧∀i,1≤i→β' i=none∧i≠0) a'.defers .returning w':=by
  rw[hds];exact ei_ hres (fun y w'' h1 h2 _ _=>⟨y,fun _=>none,rfl,⟨h2.below,h2.m0,(fun _ _ _ h=>by cases h),(fun h=>by cases h),(fun _ _ h=>by cases h),fun _ _ _ _ _ _ _ h=>by cases h⟩,by rw[e0];exact h1,fun i hi=>⟨rfl,by omega⟩⟩) Ds w' hnd hD mem2 (fun t x hx=>by have:=hfr t x hx;rwa[bf_ hgh] at this)
 rcases he with rfl|rfl
 exact hL;exact hL
def mzX(sz TS TQ:Nat)(o:List (List AV))(L:List (List (List AV)))(ex:Hp):Hp:=ex++mzH sz TS TQ o L
def InX(m i:Nat):Prop:=(1≤i∧i< m+2)∨(35≤i∧i< 40)
theorem f4_{l:Hp}{t:Nat}:∀ex:Hp,(∀p∈ex,p.1≠t)→lookB (ex++l) t=lookB l t
 |[],_=>rfl
 |(k,x)::ex,h=>by
  rw[List.cons_append,bv_];unfold upd;rw[if_neg fun e=>h (k,x) (List.mem_cons_self ..) e.symm];exact f4_ ex fun p hp=>h p (List.mem_cons_of_mem _ hp)
section
variable {sz:Nat}{fr fr':Fr}{hp ex:Hp}{nx N TS TQ:Nat}{o o':List (List AV)}{L:List (List (List AV))}{e:List (List AV)}{k:Nat}
theorem mzX_row(hid:∀p∈ex,35≤p.1∧p.1< 40)(hk:k≤30)(h:L[k]?=some e):lookB (mzX sz TS TQ o L ex) (k+2)=some ⟨TQ,sz,e⟩:=by
 unfold mzX;rw[f4_ ex fun p hp e=>by have:=(hid p hp).1;omega];exact bE_ h
theorem mzX_out(hid:∀p∈ex,35≤p.1∧p.1< 40):lookB (mzX sz TS TQ o L ex) 1=some ⟨TS,1,o⟩:=by
 unfold mzX;rw[f4_ ex fun p hp e=>by have:=(hid p hp).1;omega];rfl
theorem SEntT.mzx (s:Nat→Nat) (hL:L.length≤30) (s0:s 0=0) (hinj:∀i j,InX L.length i→InX L.length j→s i=s j→i=j)
    (h1:lookB hp (s 1)=some ⟨TS,1,o'⟩) (ho:o'.length=o.length) (hr:∀i e,L[i]?=some e→lookB hp (s (i+2))=some ⟨TQ,sz,e⟩∧∀x∈e,∀c∈x,Closed c) (hid:∀p∈ex,35≤p.1∧p.1< 40)
    (hex:∀i B,(i,some B)∈ex→∃B0,lookB hp (s i)=some B0∧B0.ty=B.ty∧B0.sz=B.sz∧B0.es.length=B.es.length)
    (hO:Shr ⟨40,s⟩ (lookB hp) (lookB (mzX sz TS TQ o L ex))→CvLL ⟨40,s⟩ (lookB hp) (lookB (mzX sz TS TQ o L ex)) o' o)
    (hE:Shr ⟨40,s⟩ (lookB hp) (lookB (mzX sz TS TQ o L ex))→∀i B B0,(i,some B)∈ex→lookB hp (s i)=some B0→CvLL ⟨40,s⟩ (lookB hp) (lookB (mzX sz TS TQ o L ex)) B0.es B.es)
    (hF:Shr ⟨40,s⟩ (lookB hp) (lookB (mzX sz TS TQ o L ex))→CvF ⟨40,s⟩ (lookB hp) (lookB (mzX sz TS TQ o L ex)) fr fr'):SEntT ⟨fr,hp,nx,N⟩ ⟨fr',mzX sz TS TQ o L ex,40,N⟩:=by
 have key:∀i B,(i,some B)∈mzX sz TS TQ o L ex→(i,some B)∈ex∨(i=1∧B=⟨TS,1,o⟩)∨∃k e,L[k]?=some e∧i=k+2∧B=⟨TQ,sz,e⟩:=fun i B h=>by
  rcases List.mem_append.1 h with h|h
  exact .inl h;rcases List.mem_cons.1 h with h|h
  cases h;exact .inr (.inl ⟨rfl,rfl⟩);obtain⟨k,e,k1,k2,k3⟩:=kw_ L 2 i B h;exact .inr (.inr ⟨k,e,k1,by omega,k3⟩)
 have hS:Shr ⟨40,s⟩ (lookB hp) (lookB (mzX sz TS TQ o L ex)):=⟨fun i B h=>by
  rcases key i B (d3_ h) with hm|⟨rfl,rfl⟩|⟨k,e,k1,rfl,rfl⟩
  obtain⟨B0,b1,b2,b3,b4⟩:=hex i B hm;exact⟨(hid _ hm).2,B0,b1,b2,b3,b4⟩;exact⟨(show 1< 40 by decide),_,h1,rfl,rfl,ho⟩;have hk:=(List.getElem?_eq_some_iff.1 k1).1;exact⟨by show k+2< 40;omega,_,(hr k e k1).1,rfl,rfl,rfl⟩⟩
 refine SEntT.intro (st:=⟨fr,hp,nx,N⟩) (st':=⟨fr',mzX sz TS TQ o L ex,40,N⟩) ⟨40,s⟩ rfl (show 0< 40 by decide) s0 (kC_ _ fun i j hi hj e=>?_) rfl (hF hS) (mN_ _ fun i B h=>?_)
 have g:∀i,i∈(mzX sz TS TQ o L ex).map (·.1)→InX L.length i:=fun i hi=>by
  unfold mzX at hi;rw[List.map_append,List.mem_append] at hi;rcases hi with hi|hi
  obtain⟨p,hp,rfl⟩:=List.mem_map.1 hi;exact .inr (hid p hp);rcases List.mem_cons.1 hi with h|h
  have h:i=1:=h;exact .inl ⟨by omega,by omega⟩;have:=kx_ L 2 i h;exact .inl ⟨by omega,by omega⟩
 exact hinj i j (g i hi) (g j hj) e;rcases key i B h with hm|⟨rfl,rfl⟩|⟨k,e,k1,rfl,rfl⟩
 obtain⟨B0,b1,b2,b3,b4⟩:=hex i B hm;exact⟨(hid _ hm).2,B0,b1,b2,b3,hE hS i B B0 hm b1⟩;exact⟨(show 1< 40 by decide),_,h1,rfl,rfl,hO hS⟩;have hk:=(List.getElem?_eq_some_iff.1 k1).1;exact⟨by show k+2< 40;omega,_,(hr k e k1).1,rfl,rfl,a9_ hS (hr k e k1).2⟩
end
theorem FSpec.xs{P:Program}{f:Nat}{args:List AV}{r:AV}(h:FSpec P f args r)(hr:Closed r):XSpec P f args [] 1 r [] 1:=by
 have e0:∀(M:Nat→Prop) (b:Nat→Option (Nat×Nat)),MM M b (lookB [])=M:=fun M b=>by funext c;simp[MM,lookB,look]
 refine⟨h.enters,fun M w0 β vals hgh mem hfree hargs=>?_⟩;rw[e0] at hargs;refine(h.calls M w0.w vals ⟨fun b hb=>w0.lt b (mem.m0 b hb).1,fun hb=>(mem.m0 GT hb).2 rfl,mem.tab⟩ (b3_ h.cl hargs)).mono ?_;rintro e w' ⟨y,rfl,hy,hb⟩;have hmx:=mem.ext hb;refine⟨y,β,rfl,hmx.1,?_,hfree⟩;rw[e0];exact n3_ hr hy (fun _ _ _ _=>rfl) (fun b _ _ hm=>hm) fun _ _ h=>h
theorem look_mem':∀{fr:Fr} {t:Nat} {x:AV},look fr t=some x→(t,x)∈fr
 |[],_,_,h=>by cases h
 |(s,y)::fr,t,x,h=>by
  rw[bi_] at h;unfold upd at h;split at h
  ·rename_i e;cases h;subst e;exact List.mem_cons_self ..
  exact List.mem_cons_of_mem _ (look_mem' h)
theorem keepF{fr2 fr3:Fr}(h:∀p∈fr3,look fr2 p.1=some p.2∧Closed p.2):∀t x,look fr3 t=some x→look fr2 t=some x∧Closed x:=fun t x hx=>h (t,x) (look_mem' hx)
theorem loF{fr3:Fr}(h:fr3.all (fun p=>Nat.blt p.1 1000)=true):∀t x,look fr3 t=some x→t< 1000:=fun t x hx=>Nat.le_of_ble_eq_true (List.all_eq_true.1 h _ (look_mem' hx))
theorem SEnt.keep{fr fr':Fr}{hp:Hp}{nx nx' n:Nat}(hk:∀p∈fr',look fr p.1=some p.2)(hn:nx≤nx'):SEnt ⟨fr,hp,nx,n⟩ ⟨fr',hp,nx',n⟩:=fun M w0 a w ⟨β,mem,h1,hfr,hfree,hd⟩=>
 ⟨β,mem,h1,fun t x h=>hfr t x (hk (t,x) (look_mem' h)),fun i hi=>hfree i (Nat.le_trans hn hi),hd⟩
theorem lg_{fr:Fr}:∀p∈([]:Fr),look fr p.1=some p.2:=fun p hp=>by cases hp
theorem all_cons{fr fr':Fr}{t:Nat}{x:AV}(h1:look fr t=some x)(h2:∀p∈fr',look fr p.1=some p.2):∀p∈(t,x)::fr',look fr p.1=some p.2:=fun p hp=>by
 rcases List.mem_cons.1 hp with rfl|hp
 exact h1;exact h2 p hp
end Go.Abs
namespace Go.Abs
def digs(b n:Nat):List Nat:=
 if _h:b≤1∨n=0 then [] else n % b::digs b (n/ b)
termination_by n
decreasing_by exact Nat.div_lt_self (by omega) (by omega)
def ofD(b:Nat):List Nat→Nat
 |[]=>0
 |d::l=>d+b* ofD b l
theorem bb_(b:Nat):digs b 0=[]:=by rw[digs];simp
theorem cx_{b n:Nat}(hb:1< b)(hn:0< n):digs b n=n % b::digs b (n/ b):=by rw[digs,dif_neg (by omega)]
theorem aV_{b:Nat}(hb:1< b)(n:Nat):ofD b (digs b n)=n:=by
 induction n using Nat.strongRecOn with
 |_ n ih=>
  rcases Nat.eq_zero_or_pos n with rfl|hn
  rw[bb_];rfl;rw[cx_ hb hn,ofD,ih _ (Nat.div_lt_self hn hb)];exact Nat.mod_add_div n b
theorem bT_{b:Nat}(hb:1< b)(n:Nat):∀d∈digs b n,d< b:=by
 induction n using Nat.strongRecOn with
 |_ n ih=>
  rcases Nat.eq_zero_or_pos n with rfl|hn
  rw[bb_];simp;rw[cx_ hb hn];intro d hd;rcases List.mem_cons.1 hd with rfl|hd
  exact Nat.mod_lt _ (by omega);exact ih _ (Nat.div_lt_self hn hb) d hd
def IsD(b:Nat)(l:List Nat):Prop:=(∀d∈l,d< b)∧l.getLast?≠some 0
theorem ji_{b:Nat}(hb:1< b)(n:Nat):(digs b n).getLast?≠some 0:=by
 induction n using Nat.strongRecOn with
 |_ n ih=>
  rcases Nat.eq_zero_or_pos n with rfl|hn
  rw[bb_];simp;rw[cx_ hb hn];have h1:=ih _ (Nat.div_lt_self hn hb);rw[List.getLast?_cons];intro h;by_cases h0:digs b (n/ b)=[];rw[h0] at h;simp only[List.getLast?_nil,Option.getD_none,Option.some.injEq] at h
  have hz:n/ b=0:=by
   have:=aV_ hb (n/ b);rw[h0] at this;exact this.symm
  have:=Nat.mod_add_div n b;rw[hz] at this;omega;cases hl:(digs b (n/ b)).getLast? with
  |none=>simp_all
  |some x=>
   grind
theorem ofD_pos{b:Nat}{l:List Nat}(h:IsD b l)(hl:l≠[]):0< ofD b l:=by
 induction l with
 |nil=>grind
 |cons d l ih=>
  rw[ofD];by_cases h0:l=[];subst h0;have h2:=h.2;simp at h2;omega;have hb:0< b:=by have:=h.1 d (List.mem_cons_self ..);omega
  have:0< ofD b l:=ih ⟨fun x hx=>h.1 x (List.mem_cons_of_mem _ hx),by
   have h2:=h.2;grind⟩ h0
  have:=Nat.mul_pos hb this;omega
theorem k2_{b:Nat}(hb:1< b):∀{l:List Nat},IsD b l→digs b (ofD b l)=l
 |[],_=>bb_ b
 |d::l,h=>by
  have hp:=ofD_pos h (by simp);have hd:=h.1 d (List.mem_cons_self ..)
  have hl:IsD b l:=⟨fun x hx=>h.1 x (List.mem_cons_of_mem _ hx),by
   have h2:=h.2;grind⟩
  rw[cx_ hb hp];have e1:ofD b (d::l) % b=d:=by rw[ofD,Nat.add_mul_mod_self_left];exact Nat.mod_eq_of_lt hd
  have e2:ofD b (d::l) / b=ofD b l:=by rw[ofD,Nat.add_mul_div_left _ _ (by omega),Nat.div_eq_of_lt hd];omega
  rw[e1,e2,k2_ hb hl]
theorem dg_(b:Nat)(l m:List Nat):ofD b (l++m)=ofD b l+b^ l.length* ofD b m:=by
 induction l with
 |nil=>simp[ofD]
 |cons d l ih=>simp only[List.cons_append,ofD];grind
theorem dx_{b:Nat}{l:List Nat}(h:∀d∈l,d< b):ofD b l< b^ l.length:=by
 induction l with
 |nil=>simp[ofD]
 |cons d l ih=>
  have h1:=ih fun x hx=>h x (List.mem_cons_of_mem _ hx);have h2:=h d (List.mem_cons_self ..);rw[ofD,List.length_cons,Nat.pow_succ];have:b* (ofD b l+1)≤b* b^ l.length:=Nat.mul_le_mul_left _ h1;grind
theorem iC_(b k:Nat):ofD b (List.replicate k 0)=0:=by
 induction k with
 |zero=>rfl
 |succ k ih=>rw[List.replicate_succ,ofD,ih];simp
theorem bU_(b k:Nat)(l:List Nat)(h:k≤l.length):ofD b l=ofD b (l.take k)+b^ k* ofD b (l.drop k):=by
 conv=>lhs;rw[←List.take_append_drop k l]
 rw[dg_,List.length_take,Nat.min_eq_left h]
def trimD:List Nat→List Nat
 |[]=>[]
 |d::l=>match trimD l with
  |[]=>if d=0 then [] else [d]
  |e::m=>d::e::m
theorem lv_(b:Nat):∀l,ofD b (trimD l)=ofD b l
 |[]=>rfl
 |d::l=>by
  have ih:=lv_ b l;unfold trimD;split
  ·rename_i h
   rw[h] at ih;split
   ·rename_i h0;subst h0;show 0=0+b* ofD b l;rw[←ih];simp[ofD]
   show d+b* ofD b []=d+b* ofD b l;grind
  ·rename_i e m h
   rw[h] at ih;show d+b* ofD b (e::m)=d+b* ofD b l;rw[ih]
theorem jB_:∀l,(trimD l).getLast?≠some 0
 |[]=>by simp[trimD]
 |d::l=>by
  have ih:=jB_ l;unfold trimD;grind
theorem lu_:∀l,∀d∈trimD l,d∈l
 |[],d,h=>by simp[trimD] at h
 |a::l,d,h=>by
  have ih:=lu_ l;unfold trimD at h;grind
theorem ez_{b:Nat}(hb:1< b){l:List Nat}(h:∀d∈l,d< b):trimD l=digs b (ofD b l):=by
 rw[←lv_ b l];exact(k2_ hb ⟨fun d hd=>h d (lu_ l d hd),jB_ l⟩).symm
theorem fl_:∀(l:List Nat) (k:Nat),k≤l.length→(∀i,k≤i→i< l.length→l[i]?=some 0)→(k=0∨l[k- 1]?≠some 0)→trimD l=l.take k
 |[],k,hk,_,_=>by simp[trimD]
 |d::l,k,hk,hz,hl=>by
  cases k with
  |zero=>
   have h1:=fl_ l 0 (Nat.zero_le _) (fun i _ hi=>by have:=hz (i+1) (by omega) (by grind);grind) (.inl rfl);have h2:=hz 0 (Nat.le_refl _) (by simp);simp only[List.getElem?_cons_zero,Option.some.injEq] at h2;simp[trimD,h1,h2]
  |succ k=>
   have hz':∀i,k≤i→i< l.length→l[i]?=some 0:=fun i h1 hi=>by have:=hz (i+1) (by omega) (by grind);grind
   simp only[Nat.add_sub_cancel] at hl;cases k with
   |zero=>
    have h1:=fl_ l 0 (Nat.zero_le _) hz' (.inl rfl);simp at hl;simp[trimD,h1,hl]
   |succ k=>
    have hlen:k+1≤l.length:=by grind
    have h1:=fl_ l (k+1) hlen hz' (.inr (hl.elim (fun h=>absurd h (by omega)) fun h=>by grind));cases l with
    |nil=>grind
    |cons e m=>
     simp only[List.take_succ_cons] at h1⊢;rw[trimD,h1]
def bl(n:Nat):Nat:=if n=0 then 0 else n.log2+1
theorem lt_bl(n:Nat):n< 2^ bl n:=by
 unfold bl;split
 ·grind
 exact Nat.lt_log2_self
theorem bl_le{n k:Nat}(h:n< 2^ k):bl n≤k:=by
 unfold bl;split;omega
 ·rename_i hn;exact(Nat.log2_lt hn).2 h
theorem bl_lt{n k:Nat}(h:bl n≤k):n< 2^ k:=Nat.lt_of_lt_of_le (lt_bl n) (Nat.pow_le_pow_right (by omega) h)
theorem b0_{m n:Nat}(h:m≤n):bl m≤bl n:=bl_le (Nat.lt_of_le_of_lt h (lt_bl n))
theorem ey_(m n:Nat):bl (m* n)≤bl m+bl n:=by
 refine bl_le ?_;rw[Nat.pow_add];exact Nat.mul_lt_mul'' (lt_bl m) (lt_bl n)
theorem o9_(m n:Nat):bl (m+n)≤max (bl m) (bl n)+1:=by
 refine bl_le ?_;have h1:m< 2^ max (bl m) (bl n):=bl_lt (Nat.le_max_left _ _);have h2:n< 2^ max (bl m) (bl n):=bl_lt (Nat.le_max_right _ _);grind
theorem bl_zero:bl 0=0:=rfl
theorem fR_:bl 1=1:=by decide
theorem bl_pos{n:Nat}(h:0< n):0< bl n:=by unfold bl;grind
theorem aT_{b:Nat}(hb:1< b)(n:Nat):(digs b n).length≤bl n:=by
 induction n using Nat.strongRecOn with
 |_ n ih=>
  rcases Nat.eq_zero_or_pos n with rfl|hn
  rw[bb_];simp;rw[cx_ hb hn,List.length_cons];have h1:=ih _ (Nat.div_lt_self hn hb)
  have h2:bl (n/ b)+1≤bl n:=by
   have hle:n/ b≤n/ 2:=Nat.div_le_div_left hb (by omega)
   have h3:bl (n/ 2)+1≤bl n:=by
    have hlt:=lt_bl n;have hp:=bl_pos hn
    have:n/ 2< 2^ (bl n- 1):=by
     rw[Nat.div_lt_iff_lt_mul (by omega)];simp_all
    have:=bl_le this;omega
   have:=b0_ hle;omega
  omega
theorem co_{b:Nat}(hb:1< b){n k:Nat}(h:n< b^ k):(digs b n).length≤k:=by
 induction k generalizing n with
 |zero=>have:n=0:=by grind
        subst this;rw[bb_];simp
 |succ k ih=>
  rcases Nat.eq_zero_or_pos n with rfl|hn
  rw[bb_];simp;rw[cx_ hb hn];have:n/ b< b^ k:=by rw[Nat.div_lt_iff_lt_mul (by omega)];exact h
  grind
theorem cY_{b n:Nat}(hb:1< b):digs b n=[]↔n=0:=by
 constructor;intro h;have:=aV_ hb n;rw[h] at this;exact this.symm;rintro rfl;exact bb_ b
abbrev MB:Nat:=1000000000
def u32(d:Nat):AV:= .v (.int .u32 d)
def i64(z:Int):AV:= .v (.int .i64 z)
def u64(z:Int):AV:= .v (.int .u64 z)
def bln(b:Bool):AV:= .v (.bool b)
def dE(l:List Nat):List (List AV):=l.map fun d=>[u32 d]
def mag(n:Nat):AV:= .arr (dE (digs MB n))
@[simp] theorem gH_ (l:List Nat):(dE l).length=l.length:=by simp[dE]
theorem cc_{l:List Nat}{i d:Nat}(h:l[i]?=some d):(dE l)[i]?=some [u32 d]:=by simp[dE,h]
theorem sE_(l:List Nat)(k:Nat):(dE l).take k=dE (l.take k):=by simp[dE]
theorem ff_(l m:List Nat):dE (l++m)=dE l++dE m:=by simp[dE]
theorem ef_(l:List Nat)(i d:Nat):(dE l).set i [u32 d]=dE (l.set i d):=by simp[dE,List.map_set]
theorem dz_(k:Nat):List.replicate k [u32 0]=dE (List.replicate k 0):=by simp[dE]
theorem cU_(l:List Nat):(dE l).all (·.all AV.one)=true:=by simp[dE,u32,AV.one];intros;rfl
theorem nv_(l:List Nat):∀e∈dE l,e.length=1:=by intro e he;simp[dE] at he;obtain⟨d,_,rfl⟩:=he;rfl
theorem aZ_(l:List Nat):∀e∈dE l,∀c∈e,Closed c:=by
 intro e he c hc;simp[dE] at he;obtain⟨d,_,rfl⟩:=he;simp at hc;subst hc;exact ad_ _
theorem bl_(l:List Nat):Closed (.arr (dE l)):=aB_ (aZ_ l)
theorem a5_(n:Nat):Closed (mag n):=bl_ _
theorem ac_:∀a∈([]:List AV),Closed a:=fun _ h=>by cases h
theorem aa_{a:AV}{l:List AV}(h:Closed a)(h':∀a∈l,Closed a):∀b∈a::l,Closed b:=by
 intro b hb;rcases List.mem_cons.1 hb with rfl|hb
 exact h;exact h' b hb
theorem AEval.lenD{P:Program}{id:Nat}{ev:Operand→Option AV}{hp:Nat→Option ABlk}{c:Call}{x:Operand}{T:Nat}{d:Nat×Nat}{l:List Nat}(hc:c.callee= .builtin .len)(ha:c.args= #[x])(ht:c.argTypes= #[T])(hx:ev x=some (.arr (dE l)))(he:elOf P T=some d):
    AEval P id ev hp (.call c) ⟨.v (.int .i64 (l.length:Nat)),[]⟩ []:= .len hc ha ht hx (by simp[lenA]) he
theorem dI_(b:Nat)(s:List Nat)(v:Nat):ofD b (s++[v])=ofD b s+b^ s.length* v:=by rw[dg_];simp[ofD]
theorem bm_{α:Type}{l:List α}{k:Nat}{x:α}(h:l[k]?=some x):l.take (k+1)=l.take k++[x]:=by
 rw[List.take_add_one,h];rfl
theorem bk_(b:Nat){l:List Nat}{k d:Nat}(h:l[k]?=some d):ofD b (l.take (k+1))=ofD b (l.take k)+b^ k* d:=by
 have hk:k< l.length:=(List.getElem?_eq_some_iff.1 h).1;rw[bm_ h,dI_,List.length_take,Nat.min_eq_left (by omega)]
theorem cn_(b:Nat)(l:List Nat)(k:Nat):ofD b (l.take (k+1))=ofD b (l.take k)+b^ k* (l[k]?.getD 0):=by
 cases h:l[k]? with
 |some d=>exact bk_ b h
 |none=>rw[List.getElem?_eq_none_iff] at h;rw[List.take_of_length_le (by omega),List.take_of_length_le (by omega)];simp
theorem dw_(b:Nat){l:List Nat}{k:Nat}(h:l.length≤k):ofD b (l.take k)=ofD b l:=by rw[List.take_of_length_le h]
theorem fp_(b:Nat){l:List Nat}{k d:Nat}(h:l[k]?=some d):ofD b (l.drop k)=d+b* ofD b (l.drop (k+1)):=by
 rw[List.drop_eq_getElem_cons (List.getElem?_eq_some_iff.1 h).1,ofD];grind
theorem iD_(b:Nat):∀{l:List Nat} {j d:Nat} (v:Nat),l[j]?=some d→ofD b (l.set j v)+b^ j* d=ofD b l+b^ j* v
 |[],_,_,_,h=>by grind
 |x::l,0,d,v,h=>by simp at h;simp[ofD];omega
 |x::l,j+1,d,v,h=>by
  simp only[List.getElem?_cons_succ] at h;have:=iD_ b v h;rw[List.set_cons_succ,ofD,ofD];grind
theorem kz_{l:List Nat}{j v:Nat}{p:Nat→Prop}(h:∀d∈l,p d)(hv:p v):∀d∈l.set j v,p d:=by grind
theorem qJ_{α:Type}{cs vs:List α}(h:vs.length=cs.length):setAt cs 0 vs=vs:=by
 apply List.ext_getElem?;intro j;rw[cB_];grind
theorem mT_{α:Type}{cs vs:List α}(h:vs.length≤cs.length):setAt cs 0 vs=vs++cs.drop vs.length:=by
 apply List.ext_getElem?;intro j;rw[cB_];grind
theorem nZ_(s:List Nat)(m v i:Nat)(hi:i=s.length):(s++List.replicate (m+1) 0).set i v=(s++[v])++List.replicate m 0:=by
 subst hi;grind
theorem ow_(s:List Nat)(m i:Nat)(hi:i=s.length):(s++List.replicate (m+1) 0)[i]?=some 0:=by grind
theorem be_{b n i d:Nat}(hb:1< b)(h:(digs b n)[i]?=some d):d< b:=bT_ hb n d (List.mem_of_getElem? h)
theorem p4_{n:Nat}(h0:0< n)(h:n< MB):digs MB n=[n]:=by
 rw[cx_ (by decide) h0,Nat.div_eq_of_lt h,bb_,Nat.mod_eq_of_lt h]
theorem sB_{b:Nat}(hb:1< b)(n k:Nat):(digs b n).drop k=digs b (ofD b ((digs b n).drop k)):=by
 symm;refine k2_ hb ⟨fun d hd=>bT_ hb n d (List.mem_of_mem_drop hd),?_⟩;by_cases hk:k< (digs b n).length;rw[List.getLast?_drop,if_neg (by omega)];exact ji_ hb n;grind
theorem jh_{b n:Nat}(hb:1< b):b^ ((digs b n).length- 1)≤n∨n=0:=by
 rcases Nat.eq_zero_or_pos n with h|h
 exact .inr h;have hne:digs b n≠[]:=fun e=>by have:=(cY_ hb).1 e;omega
 have hl:=ji_ hb n;obtain⟨s,x,e⟩:∃s x,digs b n=s++[x]:=⟨_,_,(List.dropLast_concat_getLast hne).symm⟩;have h1:=aV_ hb n;rw[e,dI_] at h1;rw[e] at hl;simp at hl;rw[e];simp;have:b^ s.length* 1≤b^ s.length* x:=Nat.mul_le_mul_left _ (by omega);omega
theorem ep_{b m n:Nat}(hb:1< b)(h:(digs b m).length< (digs b n).length):m< n:=by
 have h1:=dx_ (b:=b) (bT_ hb m);rw[aV_ hb] at h1;rcases jh_ (n:=n) hb with h2|h2
 have:b^ (digs b m).length≤b^ ((digs b n).length- 1):=Nat.pow_le_pow_right (by omega) (by omega);omega;subst h2;rw[bb_] at h;grind
theorem os_{b m n:Nat}(hb:1< b)(h:m≤n):(digs b m).length≤(digs b n).length:=by
 rcases Nat.lt_or_ge (digs b n).length (digs b m).length with h1|h1
 have:=ep_ hb h1;omega;grind
def restD(n k:Nat):Nat:=ofD MB ((digs MB n).drop k)
def preD(n k:Nat):List Nat:=(digs MB n).take k
theorem jK_(n:Nat):restD n 0=n:=aV_ (by decide) n
theorem d1_(n:Nat):preD n 0=[]:=rfl
theorem preD_end(n:Nat):preD n (digs MB n).length=digs MB n:=List.take_length
theorem fY_{n k:Nat}(h:k≤(digs MB n).length):(preD n k).length=k:=by simp[preD,Nat.min_eq_left h]
theorem jL_{n k:Nat}(h:k< (digs MB n).length):restD n (k+1)=restD n k/ MB∧preD n (k+1)=preD n k++[restD n k % MB]:=by
 have hd:(digs MB n)[k]?=some (digs MB n)[k]:=List.getElem?_eq_getElem h;have h1:=fp_ MB hd;have h2:(digs MB n)[k]< MB:=be_ (by decide) hd;constructor;unfold restD;rw[h1,Nat.add_mul_div_left _ _ (by decide),Nat.div_eq_of_lt h2];omega;unfold preD restD;rw[bm_ hd,h1,Nat.add_mul_mod_self_left,Nat.mod_eq_of_lt h2]
theorem restD_le{n k:Nat}(hk:k≤(digs MB n).length):restD n k≤n:=by
 have:=bU_ MB k _ hk;rw[aV_ (by decide)] at this;have h2:=Nat.le_mul_of_pos_left (ofD MB ((digs MB n).drop k)) (Nat.pow_pos (n:=k) (show 0< MB by decide));unfold restD;omega
theorem restD_eq{n k:Nat}(hk:k≤(digs MB n).length):restD n k=0↔k=(digs MB n).length:=by
 constructor;intro e;have:=sB_ (b:=MB) (by decide) n k;rw[show ofD MB ((digs MB n).drop k)=0 from e,bb_,List.drop_eq_nil_iff] at this;omega;intro e;unfold restD;rw[e,List.drop_length];rfl
def cmpZ(a b:Int):Int:=if a< b then -1 else if b< a then 1 else 0
theorem gc_{a b:Int}(h:a< b):cmpZ a b= -1:=by simp[cmpZ,h]
theorem hr_{a b:Int}(h:b< a):cmpZ a b=1:=by simp[cmpZ];omega
theorem sK_{a b:Int}(h:a=b):cmpZ a b=0:=by simp[cmpZ];omega
theorem k8_{a b:Int}:cmpZ a b≠0↔a≠b:=by unfold cmpZ;split <;>(try split)<;> omega
theorem gr_{b i x y:Nat}{l m:List Nat}(hl:∀d∈l,d< b)(hx:l[i]?=some x)(hy:m[i]?=some y)(hd:l.drop (i+1)=m.drop (i+1))(hlt:x< y):ofD b l< ofD b m:=by
 have hi:i< l.length:=(List.getElem?_eq_some_iff.1 hx).1;have hj:i< m.length:=(List.getElem?_eq_some_iff.1 hy).1;rw[bU_ b i l (by omega),bU_ b i m (by omega),fp_ b hx,fp_ b hy,hd]
 have h1:ofD b (l.take i)< b^ i:=by
  have:=dx_ (b:=b) (l:=l.take i) fun d hd=>hl d (List.mem_of_mem_take hd);rwa[List.length_take,Nat.min_eq_left (by omega)] at this
 have h2:b^ i* (x+b* ofD b (m.drop (i+1))+1)≤b^ i* (y+b* ofD b (m.drop (i+1))):=Nat.mul_le_mul_left _ (by omega);rw[Nat.mul_add _ _ 1] at h2;omega
theorem iT_(s t:List Nat)(x:Nat)(i:Nat)(hi:i=s.length):(s++x::t)[i]?=some x:=by subst hi;simp
theorem iq_(s t:List Nat)(x v:Nat)(i:Nat)(hi:i=s.length):(s++x::t).set i v=(s++[v])++t:=by
 subst hi;rw[List.set_append_right _ _ (Nat.le_refl _)];simp
theorem db_{l:List Nat}{i x:Nat}(h:l[i]?=some x):l.drop i=x::l.drop (i+1):=by
 rw[List.drop_eq_getElem_cons (List.getElem?_eq_some_iff.1 h).1,(List.getElem?_eq_some_iff.1 h).2]
def padD(b:Nat):Nat→Nat→List Nat
 |0,_=>[]
 |n+1,m=>m % b::padD b n (m/ b)
@[simp] theorem eD_ (b:Nat):∀n m,(padD b n m).length=n
 |0,_=>rfl
 |n+1,m=>by simp[padD,eD_ b n]
theorem ks_{b:Nat}(hb:0< b):∀n m,∀d∈padD b n m,d< b
 |0,_,d,h=>by cases h
 |n+1,m,d,h=>by
  rcases List.mem_cons.1 h with rfl|h
  exact Nat.mod_lt _ hb;exact ks_ hb n _ d h
theorem h2_{b:Nat}(hb:0< b):∀{n m:Nat},m< b^ n→ofD b (padD b n m)=m
 |0,m,h=>by simp at h;subst h;rfl
 |n+1,m,h=>by
  rw[padD,ofD,h2_ hb (by rw[Nat.div_lt_iff_lt_mul hb];exact h)];exact Nat.mod_add_div m b
theorem oi_{b:Nat}:∀{l:List Nat},(∀d∈l,d< b)→padD b l.length (ofD b l)=l
 |[],_=>rfl
 |d::l,h=>by
  have hd:=h d (List.mem_cons_self ..);have h1:ofD b (d::l) % b=d:=by rw[ofD,Nat.add_mul_mod_self_left];exact Nat.mod_eq_of_lt hd
  have h2:ofD b (d::l) / b=ofD b l:=by rw[ofD,Nat.add_mul_div_left _ _ (by omega),Nat.div_eq_of_lt hd];omega
  rw[List.length_cons,padD,h1,h2,oi_ fun x hx=>h x (List.mem_cons_of_mem _ hx)]
theorem nm_{b n m:Nat}{l:List Nat}(h:∀d∈l,d< b)(hl:l.length=n)(hv:ofD b l=m):l=padD b n m:=by
 subst hl hv;exact(oi_ h).symm
theorem qM_{v:Nat}(h1:1≤v)(h2:v< 1000000000):500000000≤v* (1000000000/ (v+1))∧(v+1) * (1000000000/ (v+1))≤1000000000∧1≤1000000000/ (v+1):=by
 have hq1:(v+1) * (1000000000/ (v+1))≤1000000000:=Nat.mul_div_le _ _;have hq2:1000000000< (v+1) * (1000000000/ (v+1))+(v+1):=Nat.lt_mul_div_succ _ (by omega);have hq3:1≤1000000000/ (v+1):=by grind
 refine⟨?_,hq1,hq3⟩;obtain⟨q,hq⟩:∃q,q=1000000000/ (v+1):=⟨_,rfl⟩;rw[←hq] at hq1 hq2 hq3⊢;rw[Nat.add_mul] at hq1 hq2;by_cases c1:500000000≤v;have:=Nat.mul_le_mul_left v hq3;omega;by_cases c2:250000000≤v;have:2≤q:=by grind
 have:=Nat.mul_le_mul_left v this;omega;by_cases c3:166666666≤v
 have:4≤q:=by
  rw[hq,Nat.le_div_iff_mul_le (by omega)];omega
 have:=Nat.mul_le_mul_left v this;omega;by_cases c4:v=1;subst c4;omega
 have:q≤333333333:=by
  have:1000000000/ (v+1)≤1000000000/ 3:=Nat.div_le_div_left (by omega) (by omega);omega
 omega
theorem guess_ok{b n p w u v lo lw:Nat}(hb:0< b)(hp:p=lo+b^ n* u)(hlo:lo< b^ n)(hw:w=lw+b^ n* v)(hlw:lw< b^ n)(hv:b≤2* v)(hvb:v< b)(hq:p< w* b):
    p/ w≤min (u/ v) (b- 1)∧min (u/ v) (b- 1)≤p/ w+2:=by
 have hvp:0< v:=by omega
 have hbn:0< b^ n:=Nat.pow_pos hb;have hwp:0< w:=by grind
 have q1:w* (p/ w)≤p:=Nat.mul_div_le _ _;have q2:p< w* (p/ w)+w:=Nat.lt_mul_div_succ _ hwp;have q3:p/ w< b:=by rw[Nat.div_lt_iff_lt_mul hwp,Nat.mul_comm];grind
 obtain⟨q,hqe⟩:∃q,q=p/ w:=⟨_,rfl⟩;rw[←hqe] at q1 q2 q3⊢;have g1:v* (u/ v)≤u:=Nat.mul_div_le _ _;obtain⟨g,hge⟩:∃g,g=u/ v:=⟨_,rfl⟩;rw[←hge] at g1;constructor;refine Nat.le_min.2 ⟨?_,by omega⟩;rw[←hge,hge,Nat.le_div_iff_mul_le hvp]
 -- q v≤u,for q v b^n≤q w≤p< (u+1) b^n
 have h1:b^ n* (q* v)≤w* q:=by rw[hw,Nat.add_mul,Nat.mul_assoc,Nat.mul_comm v q];omega
 have h2:b^ n* (q* v)< b^ n* (u+1):=by grind
 have:=Nat.lt_of_mul_lt_mul_left h2;omega;rw[←hge]
 -- if min g (b- 1)≥q+3 then(q+3) v≤u and so p≥b^n (q+3) v,but p< w (q+1)
 refine Nat.le_of_not_lt fun hlt=>?_;have hg3:q+3≤g:=by grind
 have hb3:q+3≤b- 1:=by grind
 have h1:v* (q+3)≤u:=Nat.le_trans (Nat.mul_le_mul_left _ hg3) g1;have h2:b^ n* (v* (q+3))≤p:=by rw[hp];have:=Nat.mul_le_mul_left (b^ n) h1;omega
 have h3:w* (q+1)< b^ n* ((v+1) * (q+1))+1:=by
  have:w≤b^ n* (v+1):=by grind
  have:=Nat.mul_le_mul_right (q+1) this;grind
 have h4:p< w* (q+1):=by grind
 have h5:b^ n* (v* (q+3))< b^ n* ((v+1) * (q+1)):=by omega
 have h6:=Nat.lt_of_mul_lt_mul_left h5;grind
structure DivI (U v n L:Nat)(R T:List Nat)(k:Nat):Prop where
 len:R.length=L
 dig:∀d∈R,d< MB
 digT:∀d∈T,d< MB
 k_le:k+n+T.length=L
 val:U=ofD MB R+v* (MB^ k* ofD MB T)
 top:ofD MB (R.drop k)< v
theorem DivI.start{U v n L s b:Nat}{R:List Nat}(hR:R.length=L)(hd:∀d∈R,d< MB)(hU:ofD MB R=U)(hn:n≤L)(hb:MB^ (n- 1)≤b)(hn1:1≤n)(hv:v=b* s)(hlt:U< MB^ (L- 1) * s):DivI U v n L R [] (L- n):=by
 refine⟨hR,hd,by simp,by grind,by simp[ofD,hU],?_⟩;have h1:=bU_ MB (L- n) R (by omega);have h3:MB^ (L- 1)=MB^ (L- n) * MB^ (n- 1):=by rw[←Nat.pow_add];grind
 rw[h3,Nat.mul_assoc] at hlt;have h4:MB^ (L- n) * ofD MB (R.drop (L- n))< MB^ (L- n) * (MB^ (n- 1) * s):=by omega
 have h5:=Nat.lt_of_mul_lt_mul_left h4;have h6:MB^ (n- 1) * s≤b* s:=Nat.mul_le_mul_right _ hb;omega
theorem DivI.parts{U v n L k:Nat}{R T:List Nat}(h:DivI U v n L R T (k+1))(hv:v< MB^ n):
    ofD MB (R.drop (k+n+1))=0∧ofD MB ((R.drop k).take (n+1))=ofD MB (R.drop k)∧ofD MB (R.drop k)< v* MB∧((R.drop k).take (n+1)).length=n+1∧R=R.take k++(R.drop k).take (n+1)++R.drop (k+n+1):=by
 have hl:=h.k_le;have hlen:=h.len;have hk:k< R.length:=by omega
 obtain⟨x,hx⟩:∃x,R[k]?=some x:=⟨_,List.getElem?_eq_getElem hk⟩;have hx1:x< MB:=h.dig x (List.mem_of_getElem? hx);have e1:=fp_ MB hx;have htop:=h.top;have e2:=bU_ MB n (R.drop (k+1)) (by grind);rw[List.drop_drop,show k+1+n=k+n+1 by omega] at e2
 have hz:ofD MB (R.drop (k+n+1))=0:=by
  rcases Nat.eq_zero_or_pos (ofD MB (R.drop (k+n+1))) with h0|h0
  exact h0;have:MB^ n* 1≤MB^ n* ofD MB (R.drop (k+n+1)):=Nat.mul_le_mul_left _ h0;omega
 have e3:=bU_ MB (n+1) (R.drop k) (by grind);rw[List.drop_drop,show k+(n+1)=k+n+1 by omega,hz] at e3;refine⟨hz,by omega,?_,by grind,?_⟩;have:MB* (ofD MB (R.drop (k+1))+1)≤MB* v:=Nat.mul_le_mul_left _ htop;rw[Nat.mul_add] at this;rw[Nat.mul_comm v MB];omega;rw[List.append_assoc]
 conv=>lhs;rw[←List.take_append_drop k R]
 conv=>lhs;rw[←List.take_append_drop (n+1) (R.drop k)]
 rw[List.drop_drop,show k+(n+1)=k+n+1 by omega]
theorem DivI.next{U v n L k:Nat}{R T A:List Nat}(h:DivI U v n L R T (k+1))(hv:v< MB^ n)(hv0:0< v)(hA:A=padD MB (n+1) (ofD MB (R.drop k) % v)):
    DivI U v n L (R.take k++A++R.drop (k+n+1)) (ofD MB (R.drop k) / v::T) k:=by
 obtain⟨p1,p2,p3,p4,p5⟩:=h.parts hv;have hl:=h.k_le;have hlen:=h.len
 have hm:ofD MB (R.drop k) % v< MB^ (n+1):=by
  have:=Nat.mod_lt (ofD MB (R.drop k)) hv0;have h2:MB^ n≤MB^ (n+1):=Nat.pow_le_pow_right (by decide) (by omega);omega
 have hAl:A.length=n+1:=by rw[hA];simp
 have hAv:ofD MB A=ofD MB (R.drop k) % v:=by rw[hA];exact h2_ (by decide) hm
 have hk:(R.take k).length=k:=by simp;omega
 have hval:ofD MB (R.take k++A++R.drop (k+n+1))=ofD MB (R.take k)+MB^ k* (ofD MB (R.drop k) % v):=by
  rw[dg_,dg_,p1,hk,hAv];simp
 refine⟨by simp[hAl];omega,?_,?_,by simp;omega,?_,?_⟩;intro d hd;rcases List.mem_append.1 hd with hd|hd
 rcases List.mem_append.1 hd with hd|hd
 exact h.dig d (List.mem_of_mem_take hd);rw[hA] at hd;exact ks_ (by decide) _ _ d hd;exact h.dig d (List.mem_of_mem_drop hd);intro d hd;rcases List.mem_cons.1 hd with rfl|hd
 rw[Nat.div_lt_iff_lt_mul hv0,Nat.mul_comm];exact p3;exact h.digT d hd;rw[hval,ofD,h.val,bU_ MB k R (by omega),Nat.pow_succ];have e:=Nat.mod_add_div (ofD MB (R.drop k)) v
 have e2:MB^ k* (ofD MB (R.drop k) % v)+v* (MB^ k* (ofD MB (R.drop k) / v))=MB^ k* ofD MB (R.drop k):=by
  rw[Nat.mul_left_comm,←Nat.mul_add,e]
 rw[Nat.mul_add,Nat.mul_add,←Nat.mul_assoc (MB^ k) MB];omega;rw[List.append_assoc,List.drop_append,hk,Nat.sub_self,List.drop_zero,List.drop_of_length_le (by omega),List.nil_append,dg_,p1,hAv];simp;exact Nat.mod_lt _ hv0
theorem DivI.last{U v n L a b s:Nat}{R T:List Nat}(h:DivI U v n L R T 0)(hU:U=a* s)(hv:v=b* s)(hb:0< b)(hs:0< s):ofD MB T=a/ b∧ofD MB R/ s=a % b:=by
 have h1:=h.val;have h2:=h.top;rw[List.drop_zero,hv] at h2;rw[Nat.pow_zero,Nat.one_mul,hU,hv] at h1
 have hq:ofD MB T=a/ b:=by
  have e1:a/ b=a* s/ (b* s):=(Nat.mul_div_mul_right a b hs).symm;rw[e1,h1,Nat.add_mul_div_left _ _ (Nat.mul_pos hb hs),Nat.div_eq_of_lt h2];omega
 have e2:ofD MB R=(a % b) * s:=by
  rw[hq] at h1
  have e3:a* s=(a % b) * s+b* s* (a/ b):=by
   conv=>lhs;rw[←Nat.mod_add_div a b]
   grind
  omega
 simp_all
theorem oY_{n k:Nat}(hl:(digs MB n).length=k+1){d:Nat}(hd:(digs MB n)[k]?=some d):∃lo,n=lo+MB^ k* d∧lo< MB^ k:=by
 refine⟨ofD MB ((digs MB n).take k),?_,?_⟩;have h1:=bk_ MB hd;rw[←hl,List.take_length,aV_ (by decide)] at h1;exact h1;have:=dx_ (b:=MB) (l:=(digs MB n).take k) fun d hd=>bT_ (by decide) n d (List.mem_of_mem_take hd);grind
theorem p2_{b s vt k:Nat}(hl:(digs MB b).length=k+1)(hvt:(digs MB b)[k]?=some vt)(h0:1≤vt)(h1:500000000≤vt* s)(h2:(vt+1) * s≤1000000000):
    (digs MB (b* s)).length=k+1∧MB^ k≤b∧b* s< MB^ (k+1)∧∃v lw,(digs MB (b* s))[k]?=some v∧b* s=lw+MB^ k* v∧lw< MB^ k∧500000000≤v∧v< 1000000000:=by
 obtain⟨lo,e1,e2⟩:=oY_ hl hvt
 have hb1:MB^ k≤b:=by
  have:=Nat.mul_le_mul_left (MB^ k) h0;omega
 have hb2:b< MB^ k* (vt+1):=by grind
 have hs0:0< s:=by grind
 have hv2:b* s< MB^ (k+1):=by
  have h3:b* s< MB^ k* (vt+1) * s:=Nat.mul_lt_mul_of_pos_right hb2 hs0;have h4:MB^ k* ((vt+1) * s)≤MB^ k* MB:=Nat.mul_le_mul_left _ h2;grind
 have hv1:MB^ k* 500000000≤b* s:=by
  have h3:MB^ k* vt* s≤b* s:=Nat.mul_le_mul_right _ (by omega);have h4:MB^ k* 500000000≤MB^ k* (vt* s):=Nat.mul_le_mul_left _ h1;grind
 have hlen:(digs MB (b* s)).length=k+1:=by
  have u1:=co_ (b:=MB) (by decide) hv2
  have u2:k< (digs MB (b* s)).length:=by
   refine Nat.lt_of_not_le fun hle=>?_;have:=dx_ (b:=MB) (bT_ (by decide) (b* s));rw[aV_ (by decide)] at this;have h5:MB^ (digs MB (b* s)).length≤MB^ k:=Nat.pow_le_pow_right (by decide) hle;omega
  omega
 obtain⟨v,hv⟩:∃v,(digs MB (b* s))[k]?=some v:=⟨_,List.getElem?_eq_getElem (by omega)⟩;obtain⟨lw,f1,f2⟩:=oY_ hlen hv;refine⟨hlen,hb1,hv2,v,lw,hv,f1,f2,?_,be_ (by decide) hv⟩;have h6:MB^ k* 500000000< MB^ k* (v+1):=by grind
 have:=Nat.lt_of_mul_lt_mul_left h6;omega
theorem part_two{A:List Nat}{k x0 x1:Nat}(hA:A.length=k+2)(h0:A[k]?=some x0)(h1:A[k+1]?=some x1)(hd:∀d∈A,d< MB):∃lo,ofD MB A=lo+MB^ k* (x1* 1000000000+x0)∧lo< MB^ k:=by
 refine⟨ofD MB (A.take k),?_,?_⟩;have e1:=bk_ MB h1;rw[show k+1+1=A.length by omega,List.take_length] at e1;rw[e1,bk_ MB h0,Nat.pow_succ,Nat.mul_add,Nat.mul_assoc];have:MB^ k* (MB* x1)=MB^ k* (x1* 1000000000):=by grind
 omega;have:=dx_ (b:=MB) (l:=A.take k) fun d h=>hd d (List.mem_of_mem_take h);grind
def zI(z:Int):List AV:=[mag z.natAbs,bln (decide (z< 0))]
def qC(q:Rat):List AV:=[mag q.num.natAbs,bln (decide (q.num< 0)),mag (q.den- 1)]
def sgn(b:Bool)(m:Nat):Int:=if b then -(m:Int) else m
theorem mt_(z:Int):∀c∈zI z,Closed c:=aa_ (a5_ _) (aa_ (ad_ _) ac_)
theorem aR_(q:Rat):∀c∈qC q,Closed c:=aa_ (a5_ _) (aa_ (ad_ _) (aa_ (a5_ _) ac_))
theorem d6_(z:Int):Closed (.agg (zI z)):=ay_ (mt_ z)
theorem aC_(q:Rat):Closed (.agg (qC q)):=ay_ (aR_ q)
theorem closed_mA(n:Nat):Closed (.agg [mag n]):=ay_ (aa_ (a5_ n) ac_)
theorem cZ_(b:Bool)(m:Nat):(sgn b m).natAbs=m:=by unfold sgn;grind
theorem sgn_neg(b:Bool)(m:Nat):decide (sgn b m< 0)=(b && !(m==0)):=by
 unfold sgn;grind
theorem hS_(z:Int):sgn (decide (z< 0)) z.natAbs=z:=by
 unfold sgn;grind
def qs(q:Rat):Nat:=max (bl q.num.natAbs) (bl q.den)
theorem e4_{n:Int}{d:Nat}(hd:0< d):(mkRat n d).num=n/ (Nat.gcd n.natAbs d:Int)∧(mkRat n d).den=d/ Nat.gcd n.natAbs d:=by
 unfold mkRat;rw[dif_neg (by omega),Rat.normalize_eq];grind
theorem eo_{n:Int}{d:Nat}(hd:0< d):(mkRat n d).num=sgn (decide (n< 0)) (n.natAbs/ Nat.gcd n.natAbs d):=by
 rw[(e4_ hd).1];have hg:0< Nat.gcd n.natAbs d:=Nat.gcd_pos_of_pos_right _ hd;obtain⟨k,hk⟩:=Nat.gcd_dvd_left n.natAbs d;generalize Nat.gcd n.natAbs d=g at hg hk⊢;rw[hk,Nat.mul_div_cancel_left _ hg];unfold sgn;split
 ·rename_i h
  have:=of_decide_eq_true h;have e:n=(g:Int) * (-(k:Int)):=by rw[Int.mul_neg,←Int.natCast_mul];omega
  rw[e,Int.mul_ediv_cancel_left _ (by omega)]
 ·have e:n=(g:Int) * (k:Int):=by grind
  rw[e,Int.mul_ediv_cancel_left _ (by omega)]
theorem cM_(a b:Nat):bl (a/ b)≤bl a:=b0_ (Nat.div_le_self _ _)
theorem c7_{n:Int}{d:Nat}(hd:0< d){k:Nat}(h1:bl n.natAbs≤k)(h2:bl d≤k):qs (mkRat n d)≤k:=by
 unfold qs;rw[eo_ hd,cZ_,(e4_ hd).2];exact Nat.max_le.2 ⟨Nat.le_trans (cM_ _ _) h1,Nat.le_trans (cM_ _ _) h2⟩
theorem jt_(a b:Rat):a+b=mkRat (a.num* b.den+b.num* a.den) (a.den* b.den):=by
 rw[Rat.add_def];unfold mkRat;grind
theorem gp_(a b:Rat):a* b=mkRat (a.num* b.num) (a.den* b.den):=by
 rw[Rat.mul_def];unfold mkRat;grind
theorem b1_(a:Rat):bl a.num.natAbs≤qs a:=Nat.le_max_left _ _
theorem bR_(a:Rat):bl a.den≤qs a:=Nat.le_max_right _ _
theorem mD_{x y:Int}{k:Nat}(hx:bl x.natAbs≤k)(hy:bl y.natAbs≤k):bl (x+y).natAbs≤k+1:=by
 have h1:=b0_ (Int.natAbs_add_le x y);have h2:=o9_ x.natAbs y.natAbs;omega
theorem ca_{x y:Int}{j k:Nat}(hx:bl x.natAbs≤j)(hy:bl y.natAbs≤k):bl (x* y).natAbs≤j+k:=by
 rw[Int.natAbs_mul];have:=ey_ x.natAbs y.natAbs;omega
theorem js_(a b:Rat):bl (a.num* b.den+b.num* a.den).natAbs≤qs a+qs b+1∧bl (a.den* b.den)≤qs a+qs b:=by
 have h1:=b1_ a;have h2:=bR_ a;have h3:=b1_ b;have h4:=bR_ b;refine⟨mD_ (ca_ h1 (by grind)) ?_,?_⟩;have:=ca_ (x:=b.num) (y:=a.den) h3 (by simpa using h2);omega;have:=ey_ a.den b.den;omega
theorem iH_(a b:Rat):bl (a.num* b.num).natAbs≤qs a+qs b∧bl (a.den* b.den)≤qs a+qs b:=by
 have h1:=b1_ a;have h2:=bR_ a;have h3:=b1_ b;have h4:=bR_ b;refine⟨ca_ h1 h3,?_⟩;have:=ey_ a.den b.den;omega
theorem fB_(a b:Rat):0< a.den* b.den:=Nat.mul_pos a.den_pos b.den_pos
theorem fN_(a b:Rat):qs (a+b)≤qs a+qs b+1:=by
 rw[jt_];have h:=js_ a b;exact c7_ (fB_ a b) h.1 (by omega)
theorem cE_(a b:Rat):qs (a* b)≤qs a+qs b:=by
 rw[gp_];have h:=iH_ a b;exact c7_ (fB_ a b) h.1 h.2
theorem eQ_(a:Rat):qs (-a)=qs a:=by unfold qs;simp
theorem q4_(a b:Rat):qs (a- b)≤qs a+qs b+1:=by
 rw[Rat.sub_eq_add_neg];have:=fN_ a (-b);rwa[eQ_] at this
theorem jg_(a b:Rat)(hb:b≠0):a/ b=mkRat (a.num* sgn (decide (b.num< 0)) b.den) (a.den* b.num.natAbs):=by
 rw[Rat.div_def,Rat.inv_def]
 conv=>lhs;rw[←Rat.num_divInt_den a]
 rw[Rat.divInt_mul_divInt];unfold sgn;split
 ·rename_i h
  have h':=of_decide_eq_true h;have hp:0< a.den* b.num.natAbs:=Nat.mul_pos a.den_pos (by omega);have e:(a.den:Int) * b.num= -((a.den* b.num.natAbs:Nat):Int):=by grind
  rw[e,Int.mul_neg];generalize a.den* b.num.natAbs=d at hp⊢;cases d with
  |zero=>omega
  |succ d=>
   rfl
 ·have e:(a.den:Int) * b.num=((a.den* b.num.natAbs:Nat):Int):=by grind
  rw[e];rfl
theorem mn_(a b:Rat):bl (a.num* sgn (decide (b.num< 0)) b.den).natAbs≤qs a+qs b∧bl (a.den* b.num.natAbs)≤qs a+qs b:=by
 have h1:=b1_ a;have h2:=bR_ a;have h3:=b1_ b;have h4:=bR_ b;refine⟨ca_ h1 (by rw[cZ_];grind),?_⟩;have:=ey_ a.den b.num.natAbs;omega
theorem e1_(a b:Rat):qs (a/ b)≤qs a+qs b:=by
 by_cases hb:b=0;subst hb;rw[Rat.div_def,Rat.inv_zero,Rat.mul_zero];omega;rw[jg_ a b hb];have h:=mn_ a b;have hn:b.num≠0:=fun h=>hb (Rat.num_eq_zero.1 h);exact c7_ (Nat.mul_pos a.den_pos (by omega)) h.1 h.2
def sm(q:Rat):Prop:=qs q≤137438953472
instance (q:Rat):Decidable (sm q):=inferInstanceAs (Decidable (_≤_))
theorem sm2{a b:Rat}(ha:sm a)(hb:sm b):qs a+qs b≤549755813888:=by unfold sm at ha hb;omega
def sgZ(z:Int):Int:=if z=0 then 0 else if z< 0 then -1 else 1
def cmpQ(a b:Rat):Int:=if a< b then -1 else if a=b then 0 else 1
theorem sgZ_num_lt{q:Rat}:sgZ q.num< 0↔q< 0:=by
 unfold sgZ;have h1:q.num=0↔q=0:=Rat.num_eq_zero;have h2:0≤q.num↔0≤q:=Rat.num_nonneg;have h3:q< 0↔¬0≤q:=Rat.not_le.symm;rw[h3,←h2];split;omega;split <;> omega
theorem sgZ_num_eq{q:Rat}:sgZ q.num=0↔q=0:=by
 unfold sgZ;rw[←Rat.num_eq_zero];split;simp[*];split <;> simp[*]
theorem sgZ_num_gt{q:Rat}:0< sgZ q.num↔0< q:=by
 have h1:= @sgZ_num_lt q;have h2:= @sgZ_num_eq q
 have h3:0< q↔¬(q< 0∨q=0):=by
  rw[←Rat.not_le,Rat.le_iff_lt_or_eq]
 rw[h3,←h1,←h2];omega
theorem cmpQ_eq(a b:Rat):cmpQ a b=if a.num* b.den< b.num* a.den then -1 else if a.num* b.den=b.num* a.den then 0 else 1:=by
 unfold cmpQ;have h1:=Rat.lt_iff a b
 have h2:a=b↔a.num* b.den=b.num* a.den:=by
  constructor;rintro rfl;rfl;intro h;have:=(Rat.mkRat_eq_iff (n₁:=a.num) (n₂:=b.num) a.den_nz b.den_nz).2 h;rwa[Rat.mkRat_self,Rat.mkRat_self] at this
 by_cases h:a< b;rw[if_pos h,if_pos (h1.1 h)];rw[if_neg h,if_neg (fun x=>h (h1.2 x))];by_cases h':a=b;rw[if_pos h',if_pos (h2.1 h')];rw[if_neg h',if_neg (fun x=>h' (h2.2 x))]
def fineQ(k:Nat):Rat:=mkRat 1 (2^ k)
theorem iE_(q:Rat):q.num< 0↔q< 0:=by
 rw[←sgZ_num_lt];unfold sgZ;split;omega;split <;> omega
def absQ(q:Rat):Rat:=mkRat q.num.natAbs q.den
theorem nG_(q:Rat):absQ q=if q< 0 then -q else q:=by
 unfold absQ;by_cases h:q< 0;have hn:q.num< 0:=(iE_ q).2 h;rw[if_pos h];have e:(q.num.natAbs:Int)=(-q).num:=by rw[Rat.neg_num];omega
 rw[e,←Rat.neg_den,Rat.mkRat_self];have hn:¬q.num< 0:=fun e=>h ((iE_ q).1 e);rw[if_neg h];have e:(q.num.natAbs:Int)=q.num:=by omega
 rw[e,Rat.mkRat_self]
theorem pi_(q:Rat):(absQ q).num=(q.num.natAbs:Int):=by
 rw[nG_];by_cases h:q< 0;rw[if_pos h,Rat.neg_num];have hn:q.num< 0:=(iE_ q).2 h;omega;rw[if_neg h];have hn:¬q.num< 0:=fun e=>h ((iE_ q).1 e);omega
theorem pj_(q:Rat):(absQ q).den=q.den:=by
 rw[nG_];split;exact Rat.neg_den ..;rfl
theorem qC_abs(q:Rat):qC (absQ q)=zI (sgn false q.num.natAbs)++[mag (q.den- 1)]:=by
 unfold qC zI;rw[pi_,pj_];rfl
def pE(l:List Rat):List (List AV):=l.map qC
def pA(l:List Rat):AV:= .arr (pE l)
def spC(a b:Rat):List AV:=qC a++qC b
@[simp] theorem qC_length (q:Rat):(qC q).length=3:=rfl
@[simp] theorem spC_length (a b:Rat):(spC a b).length=6:=rfl
@[simp] theorem rc_ (l:List Rat):(pE l).length=l.length:=by simp[pE]
theorem cS_{l:List Rat}{i:Nat}{q:Rat}(h:l[i]?=some q):(pE l)[i]?=some (qC q):=by simp[pE,h]
theorem kt_(l:List Rat)(k:Nat):(pE l).take k=pE (l.take k):=by simp[pE]
theorem e2_(l m:List Rat):pE (l++m)=pE l++pE m:=by simp[pE]
theorem gm_(l:List Rat)(i:Nat)(q:Rat):(pE l).set i (qC q)=pE (l.set i q):=by simp[pE,List.map_set]
theorem ci_(l:List Rat):(pE l).all (·.all AV.one)=true:=by
 simp only[pE,List.all_map,List.all_eq_true];intro q _;rfl
theorem f1_(l:List Rat):∀e∈pE l,e.length=3:=by intro e he;simp[pE] at he;obtain⟨q,_,rfl⟩:=he;rfl
theorem aI_(l:List Rat):∀e∈pE l,∀c∈e,Closed c:=by
 intro e he c hc;simp[pE] at he;obtain⟨q,_,rfl⟩:=he;exact aR_ q c hc
theorem ar_(l:List Rat):Closed (pA l):=aB_ (aI_ l)
theorem a0_(a b:Rat):∀c∈spC a b,Closed c:=fun c hc=>(List.mem_append.1 hc).elim (aR_ a c) (aR_ b c)
theorem aY_(a b:Rat):Closed (.agg (spC a b)):=ay_ (a0_ a b)
def zC:List AV:=[.emp,bln false,.emp]
theorem mag0:mag 0= .arr []:=by unfold mag;rw[bb_];rfl
theorem qC0:qC 0=[.arr [],bln false,.arr []]:=by
 show [mag 0,bln (decide ((0:Int)< 0)),mag (1- 1)]=_;rw[mag0];rfl
def smL(l:List Rat):Prop:=∀q∈l,sm q
instance (l:List Rat):Decidable (smL l):=inferInstanceAs (Decidable (∀q∈l,sm q))
def cv_(bf:Int→Bool):List Rat→Rat
 |[]=>0
 |x::l=>l.foldl (fun o y=>if bf (cmpQ y o) then y else o) x
theorem my_(bf:Int→Bool)(l:List Rat)(y:Rat):cv_ bf (l++[y])=if l=[]∨bf (cmpQ y (cv_ bf l))=true then y else cv_ bf l:=by
 cases l with
 |nil=>simp[cv_]
 |cons x l=>simp[cv_,List.foldl_append]
theorem ht_{bf:Int→Bool}:∀{l:List Rat},smL l→sm (cv_ bf l)
 |[],_=>(by decide:sm 0)
 |x::l,h=>by
  have key:∀(l:List Rat) (o:Rat),sm o→smL l→sm (l.foldl (fun o y=>if bf (cmpQ y o) then y else o) o):=by
   intro l
   induction l with
   |nil=>intro o ho _;exact ho
   |cons y l ih=>
    intro o ho hl;refine ih _ ?_ fun q hq=>hl q (List.mem_cons_of_mem _ hq);show sm (if bf (cmpQ y o)=true then y else o);split;exact hl y (List.mem_cons_self ..);exact ho
  exact key l x (h x (List.mem_cons_self ..)) fun q hq=>h q (List.mem_cons_of_mem _ hq)
def minL(l:List Rat):Rat:=cv_ (fun c=>decide (c< 0)) l
def maxL(l:List Rat):Rat:=cv_ (fun c=>decide (0< c)) l
theorem AEval.lenP{P:Program}{id:Nat}{ev:Operand→Option AV}{hp:Nat→Option ABlk}{c:Call}{x:Operand}{T:Nat}{d:Nat×Nat}{l:List Rat}(hc:c.callee= .builtin .len)(ha:c.args= #[x])(ht:c.argTypes= #[T])(hx:ev x=some (.arr (pE l)))(he:elOf P T=some d):
    AEval P id ev hp (.call c) ⟨.v (.int .i64 (l.length:Nat)),[]⟩ []:= .len hc ha ht hx (by simp[lenA]) he
end Go.Abs
