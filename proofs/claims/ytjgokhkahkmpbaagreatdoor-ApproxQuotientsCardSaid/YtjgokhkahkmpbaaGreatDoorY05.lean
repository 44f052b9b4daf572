/- Part Y05 of the proof. -/
import Derived.Test.YtjgokhkahkmpbaaGreatDoorY04
import Derived.IntWalk
set_option linter.all false
namespace Go.Abs
open Go.RowKit
section
variable {S D t T i e o f m ty sz:Nat}{k:IntKind}{n:Int}{d:TypeDesc}{r0:AV}{B:ABlk}{cs args:La}{c:Code}{rs:List ResultVar}{es:Lc}{P:Program}{fn:Func}
abbrev Fr:=List (Nat×AV)
abbrev Hp:=List (Nat×Option ABlk)
abbrev Fps:=List (Ln×Ln)
theorem nle{a b:Nat}(h:Nat.ble a b=true):a<=b:=by simp_all
def AR(P:Program)(ops:Array Oper)(nx n j:Nat)(rest:List Oper)(fr:Fr)(hp:Hp)(K:Fps->Fr->Hp->Prop):Prop:=
 ∃us st',lS P ops nx j rest ⟨fr,hp,nx,n⟩ us st'/\K (us.map fp) st'.fr st'.hp
section
variable {P:Program}{ops:Array Oper}{nx n j:Nat}{rest:List Oper}{fr:Fr}{hp:Hp}{K:Fps->Fr->Hp->Prop}
variable {d:Nat}{op:Op}{ty:Nat}{pos:String}{after:Array Edge}{a:AV}{p q:Nat×Option ABlk}{rd:Ln}
theorem ao(h:K [] fr hp):AR P ops nx n j [] fr hp K:=⟨[],_,⟨rfl,rfl⟩,h⟩
theorem AR.cons {dst:Option Nat} {guard:Option (Nat×Bool)} {u:Upd} {rd:Ln}
    (hs:AStep P ops (nx+j) (look fr) (au hp) ⟨dst,op,ty,pos,after,guard⟩ u rd) (hd:(match dst with|some d=>Nat.blt d n|none=>true)=true)
    (h:AR P ops nx n (j+1) rest (zf fr dst u.val) (u.blk.reverse++hp) λfps f h=>K ((u.blk.map (·.1),rd)::fps) f h):AR P ops nx n j (⟨dst,op,ty,pos,after,guard⟩::rest) fr hp K:=by
 obtain⟨us,st',h1,h2⟩:=h;refine⟨(u,rd)::us,st',⟨u,rd,us,rfl,hs,λd hd'=>?_,h1⟩,h2⟩;subst hd';simp_all
theorem av (hs:AEval P (nx+j) (evF (look fr)) (au hp) op ⟨a,[]⟩ rd) (hnd:ce op=true) (hd:Nat.blt d n=true)
    (h:AR P ops nx n (j+1) rest ((d,a)::fr) hp λfps f h=>K (([],rd)::fps) f h):AR P ops nx n j (⟨some d,op,ty,pos,after,none⟩::rest) fr hp K:=
 AR.cons ⟨bz hnd,hs⟩ hd h
theorem AR.op1 (hs:AEval P (nx+j) (evF (look fr)) (au hp) op ⟨a,[p]⟩ rd) (hnd:ce op=true) (hd:Nat.blt d n=true)
    (h:AR P ops nx n (j+1) rest ((d,a)::fr) (p::hp) λfps f h=>K (([p.1],rd)::fps) f h):AR P ops nx n j (⟨some d,op,ty,pos,after,none⟩::rest) fr hp K:=
 AR.cons ⟨bz hnd,hs⟩ hd h
theorem AR.op2 (hs:AEval P (nx+j) (evF (look fr)) (au hp) op ⟨a,[p,q]⟩ rd) (hnd:ce op=true) (hd:Nat.blt d n=true)
    (h:AR P ops nx n (j+1) rest ((d,a)::fr) (q::p::hp) λfps f h=>K (([p.1,q.1],rd)::fps) f h):AR P ops nx n j (⟨some d,op,ty,pos,after,none⟩::rest) fr hp K:=
 AR.cons ⟨bz hnd,hs⟩ hd h
theorem AR.op1n (hs:AEval P (nx+j) (evF (look fr)) (au hp) op ⟨a,[p]⟩ rd) (hnd:ce op=true)
    (h:AR P ops nx n (j+1) rest fr (p::hp) λfps f h=>K (([p.1],rd)::fps) f h):AR P ops nx n j (⟨none,op,ty,pos,after,none⟩::rest) fr hp K:=
 AR.cons ⟨bz hnd,hs⟩ rfl h
theorem AR.op0n (hs:AEval P (nx+j) (evF (look fr)) (au hp) op ⟨a,[]⟩ rd) (hnd:ce op=true)
    (h:AR P ops nx n (j+1) rest fr hp λfps f h=>K (([],rd)::fps) f h):AR P ops nx n j (⟨none,op,ty,pos,after,none⟩::rest) fr hp K:=
 AR.cons ⟨bz hnd,hs⟩ rfl h
variable {g t:Nat}{want:Bool}{x:Value}
theorem ap (ht:(ops[g]?).bind (·.dst)=some t) (hx:evF (look fr) (.tmp t)=some (.v x)) (hb:aQ x=some want) (hs:AEval P (nx+j) (evF (look fr)) (au hp) op ⟨a,[]⟩ rd) (hnd:ce op=true) (hd:Nat.blt d n=true)
    (h:AR P ops nx n (j+1) rest ((d,a)::fr) hp λfps f h=>K (([],rd)::fps) f h):AR P ops nx n j (⟨some d,op,ty,pos,after,some (g,want)⟩::rest) fr hp K:=
 AR.cons ⟨bz hnd,t,x,ht,hx,.inl ⟨hb,hs⟩⟩ hd h
theorem AR.op1y (ht:(ops[g]?).bind (·.dst)=some t) (hx:evF (look fr) (.tmp t)=some (.v x)) (hb:aQ x=some want) (hs:AEval P (nx+j) (evF (look fr)) (au hp) op ⟨a,[p]⟩ rd) (hnd:ce op=true) (hd:Nat.blt d n=true)
    (h:AR P ops nx n (j+1) rest ((d,a)::fr) (p::hp) λfps f h=>K (([p.1],rd)::fps) f h):AR P ops nx n j (⟨some d,op,ty,pos,after,some (g,want)⟩::rest) fr hp K:=
 AR.cons ⟨bz hnd,t,x,ht,hx,.inl ⟨hb,hs⟩⟩ hd h
theorem aV (ht:(ops[g]?).bind (·.dst)=some t) (hx:evF (look fr) (.tmp t)=some (.v x)) (hb:aQ x≠some want) (hnd:ce op=true) (hd:Nat.blt d n=true)
    (h:AR P ops nx n (j+1) rest ((d,.v undef)::fr) hp λfps f h=>K (([],[])::fps) f h):AR P ops nx n j (⟨some d,op,ty,pos,after,some (g,want)⟩::rest) fr hp K:=
 AR.cons (u:=⟨.v undef,[]⟩) ⟨bz hnd,t,x,ht,hx,.inr ⟨hb,rfl,rfl⟩⟩ hd h
theorem AR.opNn (ht:(ops[g]?).bind (·.dst)=some t) (hx:evF (look fr) (.tmp t)=some (.v x)) (hb:aQ x≠some want) (hnd:ce op=true)
    (h:AR P ops nx n (j+1) rest fr hp λfps f h=>K (([],[])::fps) f h):AR P ops nx n j (⟨none,op,ty,pos,after,some (g,want)⟩::rest) fr hp K:=
 AR.cons (u:=⟨.v undef,[]⟩) ⟨bz hnd,t,x,ht,hx,.inr ⟨hb,rfl,rfl⟩⟩ rfl h
variable {ρ:Option Nat}{Q:Exit->AState->Prop}{id m:Nat}
theorem Ik(hm:P.follows .mixedOrders=true)(hsz:ops.size=m)(h:AR P ops nx n 0 ops.toList fr hp λfps f h=>mq ops fps=true/\Q .normal ⟨f,h,nx+m,n⟩):AWp ρ P (.region id ops true) Q ⟨fr,hp,nx,n⟩:=by
 obtain⟨us,st',h1,h2,h3⟩:=h;have hn:=(eG ops.toList 0 _ st' us [] (look fr) (au hp) h1 rfl (λi o h=>φ) rfl rfl).2.2.2;exact AWp.regionD hm ⟨us,st',h1,h2,φ⟩
theorem D6(hsz:ops.size=m)(h:AR P ops nx n 0 ops.toList fr hp λ_ f h=>Q .normal ⟨f,h,nx+m,n⟩):AWp ρ P (.region id ops false) Q ⟨fr,hp,nx,n⟩:=by
 obtain⟨us,st',h1,h3⟩:=h;have hn:=(eG ops.toList 0 _ st' us [] (look fr) (au hp) h1 rfl (λi o h=>φ) rfl rfl).2.2.2;exact AWp.region ⟨us,st',h1,φ⟩
end
section
variable {P:Program}{T:Nat}{x y:Operand}{a b:Int}
theorem dj(h: -9223372036854775808<=a+b/\a+b<=9223372036854775807):∀w,(do eqGuard .add T x y (.int .i64 a) (.int .i64 b);binOp .add T (.int .i64 a) (.int .i64 b):Sem Value).run P w= .ok (.int .i64 (a+b)) w:=λw=>by
 rw[qm,IntWalk.i64_in _ h]
theorem iL(h: -9223372036854775808<=a- b/\a- b<=9223372036854775807):∀w,(do eqGuard .sub T x y (.int .i64 a) (.int .i64 b);binOp .sub T (.int .i64 a) (.int .i64 b):Sem Value).run P w= .ok (.int .i64 (a- b)) w:=λw=>by
 rw[qk,IntWalk.i64_in _ h]
theorem vm(h: -9223372036854775808<=a* b/\a* b<=9223372036854775807):∀w,(do eqGuard .mul T x y (.int .i64 a) (.int .i64 b);binOp .mul T (.int .i64 a) (.int .i64 b):Sem Value).run P w= .ok (.int .i64 (a* b)) w:=λw=>by
 rw[AK,IntWalk.i64_in _ h]
theorem Ic(h0:0<=a/\0< b/\a<=9223372036854775807):∀w,(do eqGuard .quo T x y (.int .i64 a) (.int .i64 b);binOp .quo T (.int .i64 a) (.int .i64 b):Sem Value).run P w= .ok (.int .i64 (a/ b)) w:=λw=>by
 have h1:0<=a/ b:=Int.ediv_nonneg h0.1 ω;have h2:a/ b<=a:=Int.ediv_le_self _ h0.1;rw[ql ω,Int.tdiv_eq_ediv_of_nonneg h0.1,IntWalk.i64_in _ ω]
theorem vk(h0:0<=a/\0< b):∀w,(do eqGuard .rem T x y (.int .i64 a) (.int .i64 b);binOp .rem T (.int .i64 a) (.int .i64 b):Sem Value).run P w= .ok (.int .i64 (a % b)) w:=λw=>by
 rw[mK ω,Int.tmod_eq_emod_of_nonneg h0.1]
theorem Ib(h:0<=a+b/\a+b<=4294967295):∀w,(do eqGuard .add T x y (.int .u32 a) (.int .u32 b);binOp .add T (.int .u32 a) (.int .u32 b):Sem Value).run P w= .ok (.int .u32 (a+b)) w:=λw=>by
 rw[qm,IntWalk.u32_in _ h]
theorem H9(h:0<=a- b/\a- b<=4294967295):∀w,(do eqGuard .sub T x y (.int .u32 a) (.int .u32 b);binOp .sub T (.int .u32 a) (.int .u32 b):Sem Value).run P w= .ok (.int .u32 (a- b)) w:=λw=>by
 rw[qk,IntWalk.u32_in _ h]
theorem AP(h0:0<=a/\0< b/\a<=4294967295):∀w,(do eqGuard .quo T x y (.int .u32 a) (.int .u32 b);binOp .quo T (.int .u32 a) (.int .u32 b):Sem Value).run P w= .ok (.int .u32 (a/ b)) w:=λw=>by
 have h1:0<=a/ b:=Int.ediv_nonneg h0.1 ω;have h2:a/ b<=a:=Int.ediv_le_self _ h0.1;rw[ql ω,Int.tdiv_eq_ediv_of_nonneg h0.1,IntWalk.u32_in _ ω]
theorem Ia(h0:0<=a/\0< b):∀w,(do eqGuard .rem T x y (.int .u32 a) (.int .u32 b);binOp .rem T (.int .u32 a) (.int .u32 b):Sem Value).run P w= .ok (.int .u32 (a % b)) w:=λw=>by
 rw[mK ω,Int.tmod_eq_emod_of_nonneg h0.1]
theorem H8(h:0<=a+b/\a+b<=18446744073709551615):∀w,(do eqGuard .add T x y (.int .u64 a) (.int .u64 b);binOp .add T (.int .u64 a) (.int .u64 b):Sem Value).run P w= .ok (.int .u64 (a+b)) w:=λw=>by
 rw[qm,IntWalk.u64_in _ h]
theorem H5(h:0<=a- b/\a- b<=18446744073709551615):∀w,(do eqGuard .sub T x y (.int .u64 a) (.int .u64 b);binOp .sub T (.int .u64 a) (.int .u64 b):Sem Value).run P w= .ok (.int .u64 (a- b)) w:=λw=>by
 rw[qk,IntWalk.u64_in _ h]
theorem H7(h:0<=a* b/\a* b<=18446744073709551615):∀w,(do eqGuard .mul T x y (.int .u64 a) (.int .u64 b);binOp .mul T (.int .u64 a) (.int .u64 b):Sem Value).run P w= .ok (.int .u64 (a* b)) w:=λw=>by
 rw[AK,IntWalk.u64_in _ h]
theorem AO(h0:0<=a/\0< b/\a<=18446744073709551615):∀w,(do eqGuard .quo T x y (.int .u64 a) (.int .u64 b);binOp .quo T (.int .u64 a) (.int .u64 b):Sem Value).run P w= .ok (.int .u64 (a/ b)) w:=λw=>by
 have h1:0<=a/ b:=Int.ediv_nonneg h0.1 ω;have h2:a/ b<=a:=Int.ediv_le_self _ h0.1;rw[ql ω,Int.tdiv_eq_ediv_of_nonneg h0.1,IntWalk.u64_in _ ω]
theorem H6(h0:0<=a/\0< b):∀w,(do eqGuard .rem T x y (.int .u64 a) (.int .u64 b);binOp .rem T (.int .u64 a) (.int .u64 b):Sem Value).run P w= .ok (.int .u64 (a % b)) w:=λw=>by
 rw[mK ω,Int.tmod_eq_emod_of_nonneg h0.1]
theorem bU8_sub(h:0<=a- b/\a- b<=255):∀w,(do eqGuard .sub T x y (.int .u8 a) (.int .u8 b);binOp .sub T (.int .u8 a) (.int .u8 b):Sem Value).run P w= .ok (.int .u8 (a- b)) w:=λw=>by
 rw[qk,IntWalk.u8_in _ h]
theorem bU8_add(h:0<=a+b/\a+b<=255):∀w,(do eqGuard .add T x y (.int .u8 a) (.int .u8 b);binOp .add T (.int .u8 a) (.int .u8 b):Sem Value).run P w= .ok (.int .u8 (a+b)) w:=λw=>by
 rw[qm,IntWalk.u8_in _ h]
theorem bU8_rem(h0:0<=a/\0< b):∀w,(do eqGuard .rem T x y (.int .u8 a) (.int .u8 b);binOp .rem T (.int .u8 a) (.int .u8 b):Sem Value).run P w= .ok (.int .u8 (a % b)) w:=λw=>by
 rw[mK ω,Int.tmod_eq_emod_of_nonneg h0.1]
theorem Fy(h: -9223372036854775808<= -a/\ -a<=9223372036854775807):∀w,(Op.unary .neg (.int .i64 a)).run P w= .ok (.int .i64 (-a)) w:=λw=>by
 rw[Fv,show(0:Int)- a= -a by omega,IntWalk.i64_in _ h]
theorem cI64(h: -9223372036854775808<=n/\n<=9223372036854775807)(hs:P.underlying S=some d)(hd:P.underlying D=some (.int .i64)):∀w,(convert S D (.int k n)).run P w= .ok (.int .i64 n) w:=λw=>by
 simp only[convert,Sem.run_bind,run_underlying hs w,run_underlying hd w,Result.andThen_ok];cases d <;> simp[Conv.intToInt,IntWalk.i64_in _ h]
theorem cU64(h:0<=n/\n<=18446744073709551615)(hs:P.underlying S=some d)(hd:P.underlying D=some (.int .u64)):∀w,(convert S D (.int k n)).run P w= .ok (.int .u64 n) w:=λw=>by
 simp only[convert,Sem.run_bind,run_underlying hs w,run_underlying hd w,Result.andThen_ok];cases d <;> simp[Conv.intToInt,IntWalk.u64_in _ h]
theorem cU32(h:0<=n/\n<=4294967295)(hs:P.underlying S=some d)(hd:P.underlying D=some (.int .u32)):∀w,(convert S D (.int k n)).run P w= .ok (.int .u32 n) w:=λw=>by
 simp only[convert,Sem.run_bind,run_underlying hs w,run_underlying hd w,Result.andThen_ok];cases d <;> simp[Conv.intToInt,IntWalk.u32_in _ h]
theorem cU8(h:0<=n/\n<=255)(hs:P.underlying S=some d)(hd:P.underlying D=some (.int .u8)):∀w,(convert S D (.int k n)).run P w= .ok (.int .u8 n) w:=λw=>by
 simp only[convert,Sem.run_bind,run_underlying hs w,run_underlying hd w,Result.andThen_ok];cases d <;> simp[Conv.intToInt,IntWalk.u8_in _ h]
end
def Fin(P:Program)(rs:List ResultVar)(r:AV)(e:Exit)(st:AState):Prop:=(e= .normal\/e= .ret)/\kW P rs st r
theorem aE{k:Ren}{hp:Hq}:Shr k hp (λ_=>none):=⟨λ_ _ h=>by cases h⟩
section
variable {P:Program}{fr:Fr}{hp:Hp}{nx n:Nat}{r:AV}{ρ:Option Nat}
theorem Fin.tmp(h:look fr t=some r0)(hc:Cv (Ren.id 0) (au hp) (λ_=>none) r0 r):Fin P [.tmp t] r .ret ⟨fr,hp,nx,n⟩:=
 ⟨.inr rfl,[r0],⟨r0,[],rfl,h,rfl⟩,hc⟩
theorem aR(h:look fr t=some r0)(e:r0=r)(hc:Closed r):Fin P [.tmp t] r .ret ⟨fr,hp,nx,n⟩:=
 Fin.tmp h (by subst e;exact ah aE hc)
theorem Fin.cell {k:Nat} (h:look fr t=some (.lptr i e o)) (hb:dw (au hp) i=some B) (he:B.es[e]?=some cs) (hg:fj P T=some true) (hs:iO P T=some k) (hl:o+k<=cs.length)
    (hc:Cv (Ren.id 0) (au hp) (λ_=>none) (.agg ((cs.drop o).take k)) r):Fin P [.cell t T] r .ret ⟨fr,hp,nx,n⟩:=
 ⟨.inr rfl,[.agg ((cs.drop o).take k)],⟨_,[],rfl,⟨i,e,o,B,cs,h,hb,he,.inl ⟨hg,k,hs,hl,rfl⟩⟩,rfl⟩,hc⟩
theorem dA {k:Nat} (h:look fr t=some (.lptr i e o)) (hb:dw (au hp) i=some B) (he:B.es[e]?=some cs) (hg:fj P T=some true) (hs:iO P T=some k) (hl:o+k<=cs.length)
    (e:AV.agg ((cs.drop o).take k)=r) (hc:Closed r):Fin P [.cell t T] r .ret ⟨fr,hp,nx,n⟩:=
 Fin.cell h hb he hg hs hl (by subst e;exact ah aE hc)
theorem Fin.cell1 {c:AV} (h:look fr t=some (.lptr i e o)) (hb:dw (au hp) i=some B) (he:B.es[e]?=some cs) (hg:fj P T=some false) (hl:cs[o]?=some c)
    (hc:Cv (Ren.id 0) (au hp) (λ_=>none) c r):Fin P [.cell t T] r .ret ⟨fr,hp,nx,n⟩:=
 ⟨.inr rfl,[c],⟨_,[],rfl,⟨i,e,o,B,cs,h,hb,he,.inr ⟨hg,hl⟩⟩,rfl⟩,hc⟩
theorem Fin.many{as bs:La}(h:D7 P ⟨fr,hp,nx,n⟩ rs as)(h2:2<=as.length)(hc:CvL (Ren.id 0) (au hp) (λ_=>none) as bs):Fin P rs (.tup bs) .ret ⟨fr,hp,nx,n⟩:=by
 refine⟨.inr rfl,as,h,?_⟩
 have:Gw as= .tup as:=by
  cases as with
  |nil=>grind
  |cons a as=>cases as with|nil=>grind|cons b bs=>rfl
 rw[this];exact Cv.tup hc
end
theorem ag(x:Value):Closed (.v x):=(lo_v 0 x).closed
theorem aK:Closed .emp:=(lo_emp 0).closed
theorem aU(h:∀e∈es,∀c∈e,Closed c):Closed (.arr es):=(lo_arr λe he c hc=>(h e he c hc).lo 0).closed
theorem iJ(h:∀e∈es,∀c∈e,Closed c):Closed (.aptr es i o):=(lo_aptr λe he c hc=>(h e he c hc).lo 0).closed
theorem aN(h:∀c∈cs,Closed c):Closed (.agg cs):=(lo_agg λc hc=>(h c hc).lo 0).closed
theorem Fa{ks:List Value}{vs:La}(h:∀c∈vs,Closed c):Closed (.mp ks vs):=(lo_mp λc hc=>(h c hc).lo 0).closed
theorem aY{fst cap:La}(h1:∀c∈fst,Closed c)(h2:∀c∈cap,Closed c):Closed (.clos f fst cap):=(lo_clos (λc hc=>(h1 c hc).lo 0) (λc hc=>(h2 c hc).lo 0)).closed
theorem mO {r:AV} (hf:P.funcs[f]?=some fn) (hb:fn.body=some c) (hname:(fn.name== "runtime.NumGoroutine")=false) (hrs:fn.results.toList=rs) (hm:fn.ntmps=m) (hn:Nat.ble args.length m=true)
    (hcl:∀a∈args,Closed a) {fr:Fr} (hfr:dx 0 args=fr) (h:AWp none P c (Fin P rs r) ⟨fr,[],1,m⟩):FSpec P f args r:=by
 subst hrs hm hfr;exact FSpec.intro hf hb hname hcl (nle hn) h
def FinE(P:Program)(rs:List ResultVar)(ty sz:Nat)(E':Lc)(r:Value)(x:Exit)(st:AState):Prop:=(x= .normal\/x= .ret)/\kW P rs st (.v r)/\au st.hp 0=some ⟨ty,sz,E'⟩
theorem FinE.tmp{fr:Fr}{hp:Hp}{nx n:Nat}{E':Lc}{r:Value}(h:look fr t=some r0)(e:r0= .v r)(hb:au hp 0=some ⟨ty,sz,es⟩)(he:es=E'):FinE P [.tmp t] ty sz E' r .ret ⟨fr,hp,nx,n⟩:=
 ⟨.inr rfl,(aR (P:=P) (fr:=fr) (hp:=hp) (nx:=nx) (n:=n) h e (ag r)).2,φ⟩
theorem ESpec.enter {E E':Lc} {k:Nat} {cap:Option Nat} {r:Value} (hf:P.funcs[f]?=some fn) (hb:fn.body=some c) (hname:(fn.name== "runtime.NumGoroutine")=false) (hrs:fn.results.toList=rs) (hm:fn.ntmps=m) (hn:Nat.ble (args.length+1) m=true)
    (hcl:∀a∈args,Closed a) (hclE:∀x∈E,∀c∈x,Closed c) (hclE':∀x∈E',∀c∈x,Closed c) {fr:Fr} (hfr:dx 1 args=fr)
    (h:AWp none P c (FinE P rs ty sz E' r) ⟨(0,.lsl 0 e k cap sz)::fr,[(0,some ⟨ty,sz,E⟩)],1,m⟩) (hz:Nat.blt 0 sz=true:=by rfl):ESpec P f ty sz E E' e k cap args r:=by
 subst hrs hm hfr;exact ESpec.intro hf hb hname hcl hclE hclE' (nle hn) h hz
def FinO(t ty sz:Nat)(es:Lc)(x:Exit)(st:AState):Prop:=(x= .normal\/x= .ret)/\∃i cap,look st.fr t=some (.lsl i 0 es.length cap sz)/\au st.hp i=some ⟨ty,sz,es⟩
theorem FinO.tmp{fr:Fr}{hp:Hp}{nx n k:Nat}{cap:Option Nat}{es':Lc}(h:look fr t=some (.lsl i 0 k cap sz))(hb:au hp i=some ⟨ty,sz,es⟩)(he:es=es')(hk:k=es'.length):FinO t ty sz es' .ret ⟨fr,hp,nx,n⟩:=
 ⟨.inr rfl,i,cap,φ,φ⟩
theorem OSpec.enter (hf:P.funcs[f]?=some fn) (hb:fn.body=some c) (hname:(fn.name== "runtime.NumGoroutine")=false) (hrs:fn.results.toList=[.tmp t]) (hm:fn.ntmps=m) (hn:Nat.ble args.length m=true)
    (hcl:∀a∈args,Closed a) (hce:∀x∈es,∀c∈x,Closed c) {fr:Fr} (hfr:dx 0 args=fr) (h:AWp none P c (FinO t ty sz es) ⟨fr,[],1,m⟩) (hz:Nat.blt 0 sz=true:=by rfl):OSpec P f args ty sz es:=by
 subst hm hfr;exact OSpec.intro hf hb hname hrs hcl hce (nle hn) h hz
end
section
variable {α:Type}{i id n sz nx:Nat}{B:ABlk}{hp:Hq}{cap:Option Nat}{fr:Fr}{P:Program}{st:AState}{k:IntKind}{a:Int}
section
variable {ρ:Option Nat}{P:Program}{Q:Exit->AState->Prop}{st:AState}
theorem aC {c:Code} (S:α->AState) (m:α->Nat) (Inv:α->Prop) (a0:α) (hi:Inv a0) (h0:SEnt st (S a0))
    (round:∀a,Inv a->AWp ρ P c (jO (λs'=> ∃a',m a'< m a/\Inv a'/\SEnt s' (S a')) Q) (S a)):AWp ρ P (.loop c) Q st:=by
 refine AWp.loop (λn s=> ∃a,m a=n/\Inv a/\SEnt s (S a)) (m:=m a0) ⟨a0,rfl,hi,h0⟩ ?_;rintro n s ⟨a,rfl,ha,hs⟩;refine AWp.mono (AWp.ent hs (round a ha)) λe s' h=>?_;grind
end
section
variable {r:Ren}{hp hp':Hq}{fr:Fr}
theorem aj{t:Nat}{x x0:AV}{l:Fr}(h:Abs.look fr t=some x0)(hc:Cv r hp hp' x0 x)(hl:CvF r hp hp' fr l):CvF r hp hp' fr ((t,x)::l):=⟨⟨x0,h,hc⟩,hl⟩
theorem aF:CvF r hp hp' fr []:=trivial
theorem aD:CvH r hp hp' []:=trivial
theorem bw{B0:ABlk}{l:Hp}(hi:Nat.blt i r.n=true)(h:hp (r.s i)=some B0)(ht:B0.ty=B.ty)(hz:B0.sz=B.sz)(hc:CvLL r hp hp' B0.es B.es)(hl:CvH r hp hp' l):CvH r hp hp' ((i,some B)::l):=
 ⟨⟨Nat.le_of_ble_eq_true hi,B0,h,ht,hz,hc⟩,hl⟩
theorem ShrL.nil:ShrL r hp []:=trivial
theorem ShrL.cons{B0:ABlk}{l:Hp}(hi:Nat.blt i r.n=true)(h:hp (r.s i)=some B0)(ht:B0.ty=B.ty)(hz:B0.sz=B.sz)(hc:B0.es.length=B.es.length)(hl:ShrL r hp l):ShrL r hp ((i,some B)::l):=
 ⟨⟨Nat.le_of_ble_eq_true hi,B0,h,ht,hz,hc⟩,hl⟩
theorem ax:CvL r hp hp' [] []:=rfl
theorem af{x y:AV}{xs ys:La}(h:Cv r hp hp' x y)(h':CvL r hp hp' xs ys):CvL r hp hp' (x::xs) (y::ys):=⟨y,ys,rfl,h,h'⟩
theorem CvLL.nil:CvLL r hp hp' [] []:=rfl
theorem CvLL.cons{x y:La}{xs ys:Lc}(h:CvL r hp hp' x y)(h':CvLL r hp hp' xs ys):CvLL r hp hp' (x::xs) (y::ys):=⟨y,ys,rfl,h,h'⟩
theorem ay{x y:La}(h:CvL r hp hp' x y):CvLL r hp hp' [x] [y]:=CvLL.cons h CvLL.nil
end
theorem Cv.slE{r:Ren}{hp':Hq}{id' i' n':Nat}{cap':Option Nat}(hi:Nat.blt id' r.n=true)(hs:r.s id'=id)(hl:(hp' id').isSome=true)(e0:i=i')(e:n=n')(e':cap=cap'):Cv r hp hp' (.lsl id i n cap sz) (.lsl id' i' n' cap' sz):=by
 subst e0 e e';exact Cv.sl hi hs hl
theorem Cv.sealE{r:Ren}{hp':Hq}{es:Lc}(h:Shr r hp hp')(hi:dw hp id=some B)(hd:vA r hp' id)(e:B.es=es)(hn:n=es.length)(hc:∀e∈es,∀c∈e,Closed c):Cv r hp hp' (.lsl id 0 n cap sz) (.arr es):=by
 subst e hn;refine Cv.shut h hi hd ψ ?_;rw[List.drop_zero,List.take_length];exact bZ h hc
def idAt(fr:Fr)(t:Nat):Nat:=match look fr t with
 |some (.lsl i ..)=>i
 |some (.lptr i ..)=>i
 |_=>0
def rnm(fr:Fr)(l:List (Nat×Nat))(n:Nat):Ren:=⟨n,λi=>match look l i with|some t=>idAt fr t|none=>i⟩
theorem dn {fr':Fr} {hp hp':Hp} {nx':Nat} (l:List (Nat×Nat)) (hk:Nat.blt 0 nx'=true) (h0:(rnm fr l nx').s 0=0) (hinj:lA (rnm fr l nx') (hp'.map (·.1))=true) (hS:ShrL (rnm fr l nx') (au hp) hp')
    (hF:Shr (rnm fr l nx') (au hp) (au hp')->CvF (rnm fr l nx') (au hp) (au hp') fr fr')
    (hH:Shr (rnm fr l nx') (au hp) (au hp')->CvH (rnm fr l nx') (au hp) (au hp') hp'):SEnt ⟨fr,hp,nx,n⟩ ⟨fr',hp',nx',n⟩:=
 SEnt.intro (st:=⟨fr,hp,nx,n⟩) (st':=⟨fr',hp',nx',n⟩) (rnm fr l nx') rfl (Nat.le_of_ble_eq_true hk) h0 hinj rfl (hF hS.shr) (hH hS.shr)
theorem SEntT.to {fr':Fr} {hp hp':Hp} {nx':Nat} (l:List (Nat×Nat)) (hk:Nat.blt 0 nx'=true) (h0:(rnm fr l nx').s 0=0) (hinj:lA (rnm fr l nx') (hp'.map (·.1))=true) (hS:ShrL (rnm fr l nx') (au hp) hp')
    (hF:Shr (rnm fr l nx') (au hp) (au hp')->CvF (rnm fr l nx') (au hp) (au hp') fr fr')
    (hH:Shr (rnm fr l nx') (au hp) (au hp')->CvH (rnm fr l nx') (au hp) (au hp') hp'):SEntT ⟨fr,hp,nx,n⟩ ⟨fr',hp',nx',n⟩:=
 SEntT.intro (st:=⟨fr,hp,nx,n⟩) (st':=⟨fr',hp',nx',n⟩) (rnm fr l nx') rfl (Nat.le_of_ble_eq_true hk) h0 hinj rfl (hF hS.shr) (hH hS.shr)
section
variable {P:Program}{id:Nat}{ev:Operand->Option AV}{hp:Hq}{c a b:Operand}{t:Bool}{v:AV}
theorem AEval.pickT(h:ev c=some (.v (.bool t)))(ht:t=true)(ha:ev a=some v):AEval P id ev hp (.pick c a b) ⟨v,[]⟩ []:= .pick h (λ_=>ha) (λe=>absurd (ht.symm.trans e) δ)
theorem AEval.pickF(h:ev c=some (.v (.bool t)))(ht:t=false)(hb:ev b=some v):AEval P id ev hp (.pick c a b) ⟨v,[]⟩ []:= .pick h (λe=>absurd (ht.symm.trans e) δ) (λ_=>hb)
end
def cutA(S:α->AState)(Post:α->Prop)(Q:Exit->AState->Prop):Exit->AState->Prop
 | .normal,s=> ∃a,Post a/\SEnt s (S a)
 |e,s=>Q e s
theorem aG{ρ:Option Nat}{Q:Exit->AState->Prop}{x y:Code}(S:α->AState)(Post:α->Prop)(h:AWp ρ P x (cutA S Post Q) st)(h2:∀a,Post a->AWp ρ P y Q (S a)):AWp ρ P x (jO (AWp ρ P y Q) Q) st:=
 AWp.mono h λe s hs=>by
  cases e with
  |normal=>obtain⟨a,h3,h4⟩:=hs;exact AWp.ent h4 (h2 a h3)
  |_=>exact hs
theorem bi{ρ:Option Nat}{Q:Exit->AState->Prop}{x y:Code}(S:α->AState)(Post:α->Prop)(h:AWp ρ P x (cutA S Post Q) st)(h2:∀a,Post a->AWp ρ P y Q (S a)):AWp ρ P (.seq x y) Q st:=
 ac (AWp.mono h λe s hs=>by
  cases e with
  |normal=>obtain⟨a,h3,h4⟩:=hs;exact AWp.ent h4 (h2 a h3)
  |_=>exact hs)
section
variable {P:Program}{id:Nat}{ev:Operand->Option AV}{hp:Hq}{T:Nat}{x lo hi mx:Operand}{es:Lc}{kl kh km:IntKind}{zl zh zm:Int}{l h m:Nat}{d:Nat×Nat}
theorem AEval.sa_h(hx:ev x=some (.arr es))(h2:ev hi=some (.v (.int kh zh)))(e2:zh=(h:Int))(hl:h<=es.length)(he:eg P T=some d)(hel:∀e∈es,e.length=d.2):
    AEval P id ev hp (.slice T x none (some hi) none) ⟨.arr (es.take h),[]⟩ []:=by
 subst e2;have:=AEval.slice_a (P:=P) (id:=id) (hp:=hp) (T:=T) (lo:=none) (hi:=some hi) (mx:=none) (l:=0) (h:=h) hx ⟨⟨none,rfl,.inl ⟨rfl,rfl⟩⟩,⟨some (.int kh h),by simp only[evO,h2],.inr ⟨kh,_,rfl,rfl⟩⟩,⟨none,rfl,.inl ⟨rfl,rfl⟩⟩⟩ (Nat.zero_le _) hl he (λ_=>hel);grind
theorem AEval.sa_hm(hx:ev x=some (.arr es))(h2:ev hi=some (.v (.int kh zh)))(e2:zh=(h:Int))(h3:ev mx=some (.v (.int km zm)))(e3:zm=(m:Int))(hm:h<=m/\m<=es.length)(he:eg P T=some d)(hel:∀e∈es,e.length=d.2):
    AEval P id ev hp (.slice T x none (some hi) (some mx)) ⟨.arr (es.take h),[]⟩ []:=by
 subst e2 e3;have:=AEval.slice_a (P:=P) (id:=id) (hp:=hp) (T:=T) (lo:=none) (hi:=some hi) (mx:=some mx) (l:=0) (h:=h) hx ⟨⟨none,rfl,.inl ⟨rfl,rfl⟩⟩,⟨some (.int kh h),by simp only[evO,h2],.inr ⟨kh,_,rfl,rfl⟩⟩,⟨some (.int km m),by simp only[evO,h3],.inr ⟨km,_,m,rfl,rfl,hm.1,hm.2,.inr rfl⟩⟩⟩ (Nat.zero_le _) (Nat.le_trans hm.1 hm.2) he (λ_=>hel);grind
theorem AEval.sa_l(hx:ev x=some (.arr es))(h1:ev lo=some (.v (.int kl zl)))(e1:zl=(l:Int))(hl:l<=es.length)(he:eg P T=some d)(hel:∀e∈es,e.length=d.2):
    AEval P id ev hp (.slice T x (some lo) none none) ⟨.arr (es.drop l),[]⟩ []:=by
 subst e1;have:=AEval.slice_a (P:=P) (id:=id) (hp:=hp) (T:=T) (lo:=some lo) (hi:=none) (mx:=none) (l:=l) (h:=es.length) hx ⟨⟨some (.int kl l),by simp only[evO,h1],.inr ⟨kl,_,rfl,rfl⟩⟩,⟨none,rfl,.inl ⟨rfl,rfl,rfl⟩⟩,⟨none,rfl,.inl ⟨rfl,rfl⟩⟩⟩ hl (Nat.le_refl _) he (λ_=>hel);rwa[List.take_of_length_le ψ] at this
end
theorem gy{t want:Bool}(h:t=want):aQ (.bool t)=some want:=by rw[h];rfl
theorem gn{t want:Bool}(h:t=!want):aQ (.bool t)≠some want:=by rw[h];cases want <;> simp[aQ]
theorem bmin{b:Int}{tys:Array Nat}:∀w ty cs,(builtin .min tys ty cs [Value.int k a,Value.int k b].toArray).run P w= .ok (.value (.int k (if b< a then b else a))) w:=λ_ _ _=>rfl
theorem bmax{b:Int}{tys:Array Nat}:∀w ty cs,(builtin .max tys ty cs [Value.int k a,Value.int k b].toArray).run P w= .ok (.value (.int k (if b> a then b else a))) w:=λ_ _ _=>rfl
section
variable {P:Program}{id:Nat}{ev:Operand->Option AV}{hp:Hq}{T:Nat}{x lo hi mx:Operand}{i e n sz E:Nat}{cap:Option Nat}{kl kh km:IntKind}{zl zh zm:Int}{l h m:Nat}
theorem AEval.sl_lhm(hx:ev x=some (.lsl i e n cap sz))(h1:ev lo=some (.v (.int kl zl)))(e1:zl=(l:Int))(h2:ev hi=some (.v (.int kh zh)))(e2:zh=(h:Int))(h3:ev mx=some (.v (.int km zm)))(e3:zm=(m:Int))(hl:l< h/\h<=m/\m<=n)(he:eg P T=some (E,sz)):
    AEval P id ev hp (.slice T x (some lo) (some hi) (some mx)) ⟨.lsl i (e+l) (h- l) (some (m- l)) sz,[]⟩ []:=by
 subst e1 e2 e3;exact AEval.slice_l (P:=P) (id:=id) (hp:=hp) (T:=T) (lo:=some lo) (hi:=some hi) (mx:=some mx) (l:=l) (h:=h) (m:=some m) hx ⟨⟨some (.int kl l),by simp only[evO,h1],.inr ⟨kl,_,rfl,rfl⟩⟩,⟨some (.int kh h),by simp only[evO,h2],.inr ⟨kh,_,rfl,rfl⟩⟩,⟨some (.int km m),by simp only[evO,h3],.inr ⟨km,_,m,rfl,rfl,hl.2.1,hl.2.2,.inl rfl⟩⟩⟩ ω ω (.inr hl.1) he
end
theorem AEval.callE2 {ev:Operand->Option AV} {c:Call} {callee x0:Operand} {f e ty:Nat} {rest:List Operand} {as:La} {E E':Lc} {r:Value} (h1:c.callee= .value callee) (h2:ev callee=some (.clos f [] [])) (h3:c.args.toList=x0::rest) (h4:ev x0=some (.lsl i e n cap sz)) (h5:evs ev rest=some as) (h6:dw hp i=some ⟨ty,sz,E⟩)
    (h7:ESpec P f ty sz E E' e n cap (as.map coe) r):AEval P id ev hp (.call c) ⟨.v r,[(i,some ⟨ty,sz,E'⟩)]⟩ [i]:= .callE (B:=⟨ty,sz,E⟩) h1 h2 h3 h4 h5 h6 h7
theorem Fin.norm{rs:List ResultVar}{r:AV}(h:Fin P rs r .ret st):Fin P rs r .normal st:=⟨.inl rfl,h.2⟩
theorem Fin.cell1E {hp:Hp} {t T e o:Nat} {cs:La} {c r:AV} (h:look fr t=some (.lptr i e o)) (hb:dw (au hp) i=some B) (he:B.es[e]?=some cs) (hg:fj P T=some false) (hl:cs[o]?=some c)
    (e:c=r) (hc:Closed r):Fin P [.cell t T] r .ret ⟨fr,hp,nx,n⟩:=Fin.cell1 h hb he hg hl (by subst e;exact ah aE hc)
section
variable {P:Program}{T:Nat}{x y:Operand}{a b:Bool}
theorem l8(h:P.underlying T=some .bool)(w:World):(Op.equal T (.bool a) (.bool b)).run P w= .ok (a==b) w:=by
 unfold Op.equal;rw[show Op.maxDepth=(Op.maxDepth- 1)+1 from rfl];simp[Op.equalIn,run_underlying h]
theorem H4(h:P.underlying T=some .bool):∀w,(do eqGuard .eql T x y (.bool a) (.bool b);binOp .eql T (.bool a) (.bool b):Sem Value).run P w= .ok (.bool (a==b)) w:=λw=>by
 simp[eqGuard,binOp,l8 h]
theorem H3(h:P.underlying T=some .bool):∀w,(do eqGuard .neq T x y (.bool a) (.bool b);binOp .neq T (.bool a) (.bool b):Sem Value).run P w= .ok (.bool (a !=b)) w:=λw=>by
 simp[eqGuard,binOp,l8 h];grind
theorem AJ{s t:ByteArray}:∀w,(do eqGuard .eql T x y (.string s) (.string t);binOp .eql T (.string s) (.string t):Sem Value).run P w= .ok (.bool (s.toList==t.toList)) w:=λw=>by
 simp[eqGuard,binOp,Op.stringOp]
theorem AH{s t:ByteArray}:∀w,(do eqGuard .neq T x y (.string s) (.string t);binOp .neq T (.string s) (.string t):Sem Value).run P w= .ok (.bool !(s.toList==t.toList)) w:=λw=>by
 simp[eqGuard,binOp,Op.stringOp]
end
theorem vJ{n:Int}(h: -18446744073709551616<=n/\n< 0):IntKind.u64.wrap n=n+18446744073709551616:=by
 rw[<-IntWalk.u64_in (n+18446744073709551616) ω];simp only[IntKind.wrap,IntKind.bits];simp
theorem cU64n{S D:Nat}{n:Int}(h: -18446744073709551616<=n/\n< 0){d:TypeDesc}(hs:P.underlying S=some d)(hd:P.underlying D=some (.int .u64)):∀w,(convert S D (.int k n)).run P w= .ok (.int .u64 (n+18446744073709551616)) w:=λw=>by
 simp only[convert,Sem.run_bind,run_underlying hs w,run_underlying hd w,Result.andThen_ok];cases d <;> simp[Conv.intToInt,vJ h]
theorem Fx(h:0< a/\a<=18446744073709551616):∀w,(Op.unary .neg (.int .u64 a)).run P w= .ok (.int .u64 (18446744073709551616- a)) w:=λw=>by
 rw[Fv,vJ ω,show 0- a+18446744073709551616=18446744073709551616- a by omega]
end
section
variable {M G:Nat->Prop}{w:World}{id:Nat}{as:La}
structure GStep (G G':Nat->Prop)(w w':World):Prop where
 os:w'.os=w.os
 tape:w'.tape=w.tape
 output:w'.output=w.output
 size:w.heap.size<=w'.heap.size
 block:∀b,b< w.heap.size->¬G b->w'.heap[b]?=w.heap[b]?
 sizes:∀b n,aL w b=some n->aL w' b=some n
 own:∀b,G' b->(G b\/w.heap.size<=b)/\b< w'.heap.size
structure GEnv (P:Program) (l:Nat) (T:Nat->Option La) (N:Nat) where
 J:Nat->Bool->(Nat->Prop)->(Nat->Prop)->World->Prop
 ok:∀k go M G G' w w',J k go M G w->GStep G G' w w'->J k go M G' w'
 bound:∀k M G w,J k true M G w->k<=N
 disj:∀k go M G w,J k go M G w->∀b,M b->b< w.heap.size/\¬G b
 tabs:∀k go M G w,J k go M G w->TabW w/\¬M GT/\¬G GT
 yok:∀k M G w as vals,J k true M G w->T k=some as->RVs (λb=>M b\/G b) (λ_=>none) w as vals->(∀b,G b->b< w.heap.size)->
  YieldAt (FR none) 0 P l vals.toArray w λe w'=> ∃go M',e= .returned (.bool go)/\J (k+1) go M' G w'/\GStep M M' w w'
structure GSpecB (P:Program)(g:Nat)(cap:La)(T:Nat->Option La)(K:Nat):Prop where
 cl:∀a∈cap,Closed a
 clT:∀k as,T k=some as->∀a∈as,Closed a
 enters:∀(xs:Array Value) (w:World),(callFunc g xs).run P w= .ok (.enter g xs) w
 calls:∀(l N:Nat) (_:N<=K) (E:GEnv P l T N) (M:Nat->Prop) (w:World) (vals:List Value),E.J 0 true M (λ_=>False) w->RVs M (λ_=>none) w cap vals->
  CallsIn (FR none) 0 P g (#[.func (.yield l) #[] #[]]++vals.toArray) w λe w'=>(∃v,e= .returned v)/\∃k go M' G',E.J k go M' G' w'/\(go=true->T k=none)
def GSpec(P:Program)(g:Nat)(cap:La)(T:Nat->Option La):Prop:=∀K,GSpecB P g cap T K
def fx(w:World)(G:Nat->Prop)(h:TabW w/\¬G GT):Base:=⟨w,λb=>b< w.heap.size/\¬G b,λ_ h=>h.1,none,λ_=>undef,⟨h.1.lt,h.2⟩,h.1⟩
section
variable {P:Program}{l N:Nat}{T:Nat->Option La}{E:GEnv P l T N}
theorem GEnv.gk(E:GEnv P l T N){k:Nat}{go:Bool}(hj:E.J k go M G w):TabW w/\¬G GT:=⟨(E.tabs _ _ _ _ _ hj).1,(E.tabs _ _ _ _ _ hj).2.2⟩
def GRel(E:GEnv P l T N)(k:Nat)(go:Bool)(st:AState)(a:Act)(w:World):Prop:=∃M G,∃hj:E.J k go M G w,ARel M (fx w G (E.gk hj)) st a w
def GWp(E:GEnv P l T N)(c:Code)(Q:Exit->Nat->Bool->AState->Prop)(k:Nat)(go:Bool)(st:AState):Prop:=
 ∀a w,GRel E k go st a w->c.wpIn (FR none) 0 P (λe a' w'=> ∃k' go' st',GRel E k' go' st' a' w'/\Q e k' go' st') a w
theorem Mem.rebase{M0:Nat->Prop}{w0:Base}{β:Bq}{hp:Hq}(h:Mem M0 w0 β hp w)(w1:Base)(hw:w1.w=w)(hm:∀b,M0 b->w1.K b)(hr:∀i b s,β i=some (b,s)->¬w1.K b)(hp0:(hp 0).isSome=true->β 0=w1.pin):Mem M0 w1 β hp w:=by
 subst hw;exact⟨⟨rfl,rfl,rfl,Nat.le_refl _,λ_ _=>rfl,λ_ _ h=>h⟩,(λb hb=>⟨hm b hb,(h.m0 b hb).2⟩),λi b s hi=>⟨hr i b s hi,(h.rng i b s hi).2⟩,hp0,h.blk,h.inj⟩
theorem GRel.go_on{k:Nat}{go:Bool}{st:AState}{a:Act}{w':World}(hj:E.J k go M G w)(h:ARel M (fx w G (E.gk hj)) st a w'):GRel E k go st a w':=by
 obtain⟨β,mem,h1,h2,h3,Ds,h4,h5,h6⟩:=h;have hb:=mem.below;have hst:GStep G (λb=>(G b\/w.heap.size<=b)/\b< w'.heap.size) w w':=⟨hb.os,hb.tape,hb.output,hb.size,λb h1 h2=>hb.block b ⟨h1,h2⟩,hb.sizes,λb h=>h⟩;have hj':=E.ok _ _ _ _ _ _ _ hj hst
 have hK:∀b,b< w'.heap.size->¬(fx w G (E.gk hj)).K b->¬(fx w' (λb=>(G b\/w.heap.size<=b)/\b< w'.heap.size) (E.gk hj')).K b:=by
  rintro b hlt hk ⟨_,hn⟩;refine hn ⟨?_,hlt⟩;by_cases hG:G b;exact .inl hG;exact .inr (Nat.le_of_not_lt λhl=>hk ⟨hl,hG⟩)
 refine⟨M,_,hj',β,mem.rebase (fx w' _ (E.gk hj')) rfl (λb hb=>?_) (λi b s hi=>hK b (mem.rng i b s hi).2 (mem.rng i b s hi).1) mem.pin,h1,λt x hx=>h2 t x hx,h3,Ds,h4,h5,λD hD=>?_⟩;have:=(mem.m0 b hb).1;exact⟨Nat.lt_of_lt_of_le this.1 mem.below.size,λhG=>hG.1.elim this.2 λh=>by have:=this.1;omega⟩;grind
variable {c x y:Code}{Q Q':Exit->Nat->Bool->AState->Prop}{k:Nat}{go:Bool}{st:AState}
theorem GWp.ent{st':AState}(h:SEnt st st')(hc:GWp E c Q k go st'):GWp E c Q k go st:=λa w ⟨M,G,hj,hr⟩=>hc a w ⟨M,G,hj,h M _ a w hr⟩
theorem GWp.mono(h:GWp E c Q k go st)(hq:∀e k' go' s,Q e k' go' s->Q' e k' go' s):GWp E c Q' k go st:=λa w hr=>
 wpIn_mono (h a w hr) λe _ _ ⟨k',go',s,h1,h2⟩=>⟨k',go',s,h1,hq e k' go' s h2⟩
theorem GWp.bound(h:k<=N->GWp E c Q k true st):GWp E c Q k true st:=λa w hr=>h (let ⟨M,G,hj,_⟩:=hr;E.bound k M G w hj) a w hr
theorem GWp.skip(h:Q .normal k go st):GWp E .skip Q k go st:=λ_ _ hr=>wpIn_skip ⟨k,go,st,hr,h⟩
theorem GWp.ret(h:Q .ret k go st):GWp E .ret Q k go st:=λ_ _ hr=>wpIn_ret ⟨k,go,st,hr,h⟩
theorem GWp.exit(h:Q (.exit id) k go st):GWp E (.exit id) Q k go st:=λ_ _ hr=>wpIn_exit ⟨k,go,st,hr,h⟩
theorem GWp.lift(h:AWp none P c (λe s=>Q e k go s) st):GWp E c Q k go st:=by
 rintro a w ⟨M,G,hj,hr⟩;refine wpIn_mono (h M _ a w hr) ?_;rintro e a' w' ⟨st',h1,h2⟩;exact⟨k,go,st',GRel.go_on hj h1,h2⟩
def FB(next:Nat->Bool->AState->Prop)(Q:Exit->Nat->Bool->AState->Prop):Exit->Nat->Bool->AState->Prop
 | .normal,k,go,s=>next k go s
 |e,k,go,s=>Q e k go s
theorem GWp.seq(h:GWp E x (FB (GWp E y Q) Q) k go st):GWp E (.seq x y) Q k go st:=λa w hr=>
 wpIn_seq (wpIn_mono (h a w hr) λe a' w' ⟨k',go',s,h1,h2⟩=>by
  cases e with
  |normal=>exact h2 a' w' h1
  |_=>exact⟨k',go',s,h1,h2⟩)
theorem GWp.cond{c:Operand}{t:Bool}(hc:st.ev c=some (.v (.bool t)))(h1:t=true->GWp E x Q k go st)(h2:t=false->GWp E y Q k go st):GWp E (.cond c x y) Q k go st:=by
 rintro a w hr
 have hv:a.eval c= .bool t:=by
  obtain⟨_,_,_,β,mem,_,hf,_⟩:=hr;exact iW hf c _ hc
 exact wpIn_cond_split hv (λe=>h1 e a w hr) (λe=>h2 e a w hr)
def H0(id:Nat)(Q:Exit->Nat->Bool->AState->Prop):Exit->Nat->Bool->AState->Prop
 | .exit id',k,go,s=>if Nat.beq id' id then Q .normal k go s else Q (.exit id') k go s
 |e,k,go,s=>Q e k go s
theorem GWp.block(h:GWp E c (H0 id Q) k go st):GWp E (.block id c) Q k go st:=λa w hr=>
 wpIn_block (wpIn_mono (h a w hr) λe a' w' ⟨k',go',s,h1,h2⟩=>by
  cases e with
  |exit id'=>
   simp only[Exit.inBlock];simp only[H0] at h2;by_cases hi:id'=id;subst hi;simp only[if_true];rw[Nat.beq_refl] at h2;exact⟨k',go',s,h1,h2⟩;rw[if_neg (λhb=>hi (Nat.eq_of_beq_eq_true hb))] at h2;grind
  |_=>exact⟨k',go',s,h1,h2⟩)
theorem GWp.loopS {α:Type} (S:α->AState) (kk:α->Nat) (m:α->Nat) (Inv:α->Prop) (a0:α) (hi:Inv a0) (hk:kk a0=k) (h0:SEnt st (S a0))
    (round:∀a,Inv a->GWp E c (FB (λk' go' s'=>go'=true/\∃a',m a'< m a/\Inv a'/\kk a'=k'/\SEnt s' (S a')) Q) (kk a) true (S a)):GWp E (.loop c) Q k true st:=by
 rintro a w hr
 let R:Nat->Act->World->Prop:=λn a w=> ∃x,Inv x/\m x=n/\GRel E (kk x) true (S x) a w
 have hR:∃f:Act->World->Nat,∀a w,(∃n,R n a w)->R (f a w) a w/\∀n,R n a w->f a w<=n:=by
  have hx:∀p:Act×World,∃n,(∃n,R n p.1 p.2)->R n p.1 p.2/\∀m,R m p.1 p.2->n<=m:=by
   intro p;by_cases h:∃n,R n p.1 p.2;obtain⟨n,h1,h2⟩:=least h;exact⟨n,λ_=>⟨h1,h2⟩⟩;simp_all
  exact⟨λa w=>Classical.choose (hx (a,w)),λa w=>Classical.choose_spec (hx (a,w))⟩
 obtain⟨f,hf⟩:=hR
 have hst:R (m a0) a w:=by
  obtain⟨M,G,hj,hr⟩:=hr;exact⟨a0,hi,rfl,M,G,φ,h0 M _ a w hr⟩
 refine wpIn_loop (λa w=> ∃n,R n a w) f ⟨_,hst⟩ λa w hn=>?_;obtain⟨⟨x,hx,hm,hs⟩,_⟩:=hf a w hn;refine wpIn_mono (round x hx a w hs) λe a' w' ⟨k',go',s',h1,h2⟩=>?_;cases e with
 |normal=>
  obtain⟨rfl,x',h3,h4,rfl,h5⟩:=h2
  have hR':R (m x') a' w':=by
   obtain⟨M,G,hj,hr⟩:=h1;exact⟨x',h4,rfl,M,G,hj,h5 M _ a' w' hr⟩
  exact⟨⟨_,hR'⟩,Nat.lt_of_le_of_lt ((hf a' w' ⟨_,hR'⟩).2 _ hR') ω⟩
 |_=>exact⟨k',go',s',h1,h2⟩
theorem vQ{M':Nat->Prop}{vals:List Value}(hm:∀b n,aL w b=some n->M' b->M b)(h:RVs M (λ_=>none) w as vals):RVs M' (λ_=>none) w as vals:=
 StabC.vs ⟨λ_ _ _ _=>rfl,hm,(λ_ _ h=>by cases h),λ_ _ h=>h⟩ h
theorem yE {o:Oper} {cc:Call} {f:Operand} {d:Nat} {a:Act} {K:Act->World->Prop} {Q:Exit->Act->World->Prop} (ho:o.op= .call cc) (hd:o.dst=some d) (hdn:d< st.n) (hf:cc.callee= .value f) (hev:st.ev f=some (.v (.func (.yield l) #[] #[])))
    (has:evs st.ev cc.args.toList=some as) (hT:T k=some (as.map coe)) (hcl:∀a∈as.map coe,Closed a) (hj:E.J k true M G w) (hr:TRel M (fx w G (E.gk hj)) st a w)
    (hK:∀go a' w',GRel E (k+1) go {st with fr:=(d,.v (.bool go))::st.fr} a' w'->K a' w'):o.wpIn (FR none) 0 P a w K Q:=by
 obtain⟨β,mem,h1,h2,h3,⟨Ds,h4,h5,h6⟩,ht⟩:=hr
 let G2:Nat->Prop:=λb=>(∃i s,β i=some (b,s))\/b∈Ds
 have hlt2:∀b,G2 b->b< w.heap.size:=by
  rintro b (⟨i,s,hi⟩|hb);exact(mem.rng i b s hi).2;grind
 have hG2:∀b,G2 b->G b:=by
  rintro b hb;have hnk:¬(fx w G (E.gk hj)).K b:=hb.elim (fun⟨i,s,hi⟩=>(mem.rng i b s hi).1) λhb=>(h6 b hb).2;by_cases hG:G b;exact hG;exact absurd ⟨hlt2 b hb,hG⟩ hnk
 have hj2:E.J k true M G2 w:=E.ok _ _ _ _ _ _ _ hj ⟨rfl,rfl,rfl,Nat.le_refl _,λ_ _ _=>rfl,λ_ _ h=>h,λb hb=>⟨.inl (hG2 b hb),hlt2 b hb⟩⟩
 have hmm:∀b n,aL w b=some n->(M b\/G2 b)->MM M β (au st.hp) b:=by
  rintro b n hs (hb|⟨i,s,hi⟩|hb);exact .inl hb;obtain⟨B,hB⟩:=Option.isSome_iff_exists.1 (ht i _ hi);exact .inr ⟨i,B,s,hB,hi⟩;simp[aL,(h6 b hb).1] at hs
 have hv:RVs (MM M β (au st.hp)) β w as (cc.args.toList.map a.eval):=iV (iW h2) has;have hv2:RVs (λb=>M b\/G2 b) (λ_=>none) w (as.map coe) (cc.args.toList.map a.eval):=vQ hmm (dW hcl (iy hv));obtain⟨fn,tmps,assign,body,hy,hR⟩:=E.yok k M G2 w _ _ hj2 hT hv2 hlt2;have hfe:a.eval f= .func (.yield l) #[] #[]:=iW h2 f _ hev;refine⟨λ_ _=>trivial,?_⟩;rw[Oper.semAt_eq _ _ _ (by rw[ho];intro c e;cases e)]
 have hrun:(execOp a.eval o).run P w= .ok (.round l fn tmps assign body) w:=by
  have hargs:cc.args.map a.eval=(cc.args.toList.map a.eval).toArray:=by apply Array.ext';simp
  simp only[execOp,ho,resolve,hf,hfe,Deferred.ofValue,Sem.run_bind,Sem.run_pure,Result.andThen_ok,invoke];rw[<-hy,hargs];simp
 rw[hrun];refine⟨λhh=>by simp[FR] at hh,hR.mono ?_⟩;rintro e w' ⟨go,M',rfl,hj',hs⟩;have hMK:∀b,M b->(fx w G (E.gk hj)).K b:=λb hb=>(mem.m0 b hb).1;have hdis:=E.disj _ _ _ _ _ hj';have hnum:∀i b s,β i=some (b,s)->¬M b:=λi b s hi hm=>(mem.rng i b s hi).1 (hMK b hm)
 have st1:StabC (MM M β (au st.hp)) (MM M' β (au st.hp)) β β w w':=by
  refine⟨λb n hb hm=>hs.block b (ci hb) λh=>hm (.inl h),λb n hb hm=>?_,λ_ _ h=>h,hs.sizes⟩;rcases hm with hm|hm
  rcases(hs.own b hm).1 with h|h
  exact .inl h;have:=ci hb;omega;exact .inr hm
 refine hK go _ w' ⟨M',G2,hj',β,⟨⟨rfl,rfl,rfl,Nat.le_refl _,λ_ _=>rfl,λ_ _ h=>h⟩,λb hb=>⟨⟨(hdis b hb).1,(hdis b hb).2⟩,λe=>(E.tabs _ _ _ _ _ hj').2.1 (e▸hb)⟩,λi b s hi=>⟨λhk=>hk.2 (.inl ⟨i,s,hi⟩),Nat.lt_of_lt_of_le (mem.rng i b s hi).2 hs.size⟩,mem.pin,λi B hi=>?_,mem.inj⟩,?_,λt x hx=>?_,h3,Ds,?_,h5,λD hD=>?_⟩;obtain⟨b,r1,r2⟩:=mem.blk i B hi;exact⟨b,r1,r2.stab st1 (hs.block b (mem.rng i b _ r1).2 (hnum i b _ r1))⟩;rw[hd];simp[Act.put,h1];rw[hd,pM (by rw[h1];exact hdn)];have hx':look ((d,AV.v (.bool go))::st.fr) t=some x:=hx;rw[cJ] at hx';unfold upd at hx';split at hx'
 ·rename_i htd;rw[if_pos htd];cases hx';rfl
 ·rename_i htd;rw[if_neg htd];exact st1.all (h2 t x hx')
 rw[<-h4,hd];rfl;obtain⟨h7,h8⟩:=h6 D hD;refine⟨?_,λhk=>hk.2 (.inr hD)⟩;rw[hs.block D (Array.getElem?_eq_some_iff.1 h7).1 λhm=>h8 (hMK D hm)];grind
theorem iB{ops:Array Oper}{nx:Nat}:∀(rest:List Oper) (j:Nat) (s s':AState) (us:List (Upd×Ln)),lS P ops nx j rest s us s'->s'.n=s.n
 |[],_,_,_,_,⟨_,rfl⟩=>rfl
 |o::rest,j,s,s',_,⟨u,rd,us',_,_,_,hrun⟩=>iB rest (j+1) (s.step o.dst u) s' us' hrun
theorem jF{ops:Array Oper}{ρ:Option Nat}{M0:Nat->Prop}{w0:Base}{nx:Nat}{Q:Exit->Act->World->Prop}(tail:List Oper):∀(rest:List Oper) (j:Nat) (s s':AState) (us:List (Upd×Ln)) (a:Act) (w:World),
    lS P ops nx j rest s us s'->FRel M0 w0 (look s.fr) (au s.hp) (λi=>nx+j<=i) s.n a w->
    (∀a' w',FRel M0 w0 (look s'.fr) (au s'.hp) (λi=>nx+(j+rest.length)<=i) s'.n a' w'->wpListIn (FR ρ) 0 P ops Q tail a' w')->wpListIn (FR ρ) 0 P ops Q (rest++tail) a w
 |[],j,s,s',us,a,w,h,hr,hk=>by
  obtain⟨_,rfl⟩:=h;simp_all
 |o::rest,j,s,s',us,a,w,h,hr,hk=>by
  obtain⟨u,rd,us',rfl,hstep,hdst,hrun⟩:=h;refine wpListIn_step λK hK=>(hstep.sim hr (Nat.le_refl _) hdst λa' w' hr'=>hK a' w' (jF (M0:=M0) (w0:=w0) tail rest (j+1) (s.step o.dst u) s' us' a' w' hrun ?_ λa'' w'' hr''=>hk a'' w'' ?_));rw[<-nr,<-kI] at hr';exact hr'.free λi hi=>⟨ω,ω⟩;rw[List.length_cons];grind
theorem GWp.regY {ops:Array Oper} {n nx n1 nx2 d:Nat} {fr fr2:Fr} {hp hp2:Hp} (jj:Nat) {o:Oper} (ho:ops.toList[jj]?=some o) {cc:Call} {f:Operand} (hop:o.op= .call cc) (hg:o.guard=none) (hd:o.dst=some d) (hf:cc.callee= .value f) (hsz:ops.size=n1)
    (h:AR P ops nx n 0 (ops.toList.take jj) fr hp λ_ f1 h1=>SEntT ⟨f1,h1,nx+jj,n⟩ ⟨fr2,hp2,nx2,n⟩) (hdn:Nat.blt d n=true)
    (hev:evF (look fr2) f=some (.v (.func (.yield l) #[] #[]))) (has:evs (evF (look fr2)) cc.args.toList=some as) (hT:T k=some (as.map coe)) (hcl:∀a∈as.map coe,Closed a)
    (h3:∀go,AR P ops nx2 n (jj+1) (ops.toList.drop (jj+1)) ((d,.v (.bool go))::fr2) hp2 λ_ f' h'=>Q .normal (k+1) go ⟨f',h',nx2+n1,n⟩):GWp E (.region id ops false) Q k true ⟨fr,hp,nx,n⟩:=by
 have hjl:jj< ops.toList.length:=(List.getElem?_eq_some_iff.1 ho).1
 have hops:ops.toList=ops.toList.take jj++o::ops.toList.drop (jj+1):=by
  rw[<-(List.getElem?_eq_some_iff.1 ho).2,<-List.drop_eq_getElem_cons hjl,List.take_append_drop]
 rintro a w ⟨M,G,hj,hr⟩;refine wpIn_region_list ?_;rw[hops];obtain⟨us,st1,hrun,hent⟩:=h
 have hn1:=(eG (ops.toList.take jj) 0 _ st1 us [] (look fr) (au hp) hrun rfl (λi o h=>by
  rw[List.getElem?_take] at h;split at h;simpa using h;cases h) rfl rfl).2.2.2
 simp only at hn1;refine jF (M0:=M) (w0:=fx w G (E.gk hj)) (ρ:=none) _ _ 0 ⟨fr,hp,nx,n⟩ st1 us a w hrun (FRel.free hr λi hi=>by show nx<=i;simpa using hi) λa1 w1 hr1=>?_;have hl:(ops.toList.take jj).length=jj:=by rw[List.length_take];omega
 rw[hl,Nat.zero_add,hn1] at hr1;have hr2:TRel M (fx w G (E.gk hj)) ⟨fr2,hp2,nx2,n⟩ a1 w1:=hent M _ a1 w1 hr1
 -- the generator's blocks,seen from here
 have hb:=hr1.choose_spec.1.below;have hst:GStep G (λb=>(G b\/w.heap.size<=b)/\b< w1.heap.size) w w1:=⟨hb.os,hb.tape,hb.output,hb.size,λb h1 h2=>hb.block b ⟨h1,h2⟩,hb.sizes,λb h=>h⟩;have hj1:=E.ok _ _ _ _ _ _ _ hj hst
 have hr3:TRel M (fx w1 (λb=>(G b\/w.heap.size<=b)/\b< w1.heap.size) (E.gk hj1)) ⟨fr2,hp2,nx2,n⟩ a1 w1:=by
  obtain⟨β,mem,h1,h2,h3,⟨Ds,h4,h5,h6⟩,h7⟩:=hr2
  have hK:∀b,b< w1.heap.size->¬(fx w G (E.gk hj)).K b->¬(fx w1 (λb=>(G b\/w.heap.size<=b)/\b< w1.heap.size) (E.gk hj1)).K b:=by
   rintro b hlt hk ⟨_,hn⟩;refine hn ⟨?_,hlt⟩;by_cases hG:G b;exact .inl hG;exact .inr (Nat.le_of_not_lt λhl=>hk ⟨hl,hG⟩)
  refine⟨β,mem.rebase (fx w1 _ (E.gk hj1)) rfl (λb hb=>?_) (λi b s hi=>hK b (mem.rng i b s hi).2 (mem.rng i b s hi).1) mem.pin,h1,λt x hx=>h2 t x hx,h3,⟨Ds,h4,h5,λD hD=>?_⟩,h7⟩;have:=(mem.m0 b hb).1;exact⟨Nat.lt_of_lt_of_le this.1 mem.below.size,λhG=>hG.1.elim this.2 λh=>by have:=this.1;omega⟩;obtain⟨h8,h9⟩:=h6 D hD;exact⟨h8,hK D (Array.getElem?_eq_some_iff.1 h8).1 h9⟩
 refine wpListIn_step λK hK=>?_;rw[if_pos (by simp[Region.wanted,hg])];refine yE (E:=E) (st:=⟨fr2,hp2,nx2,n⟩) hop hd (Nat.le_of_ble_eq_true hdn) hf hev has hT hcl hj1 hr3 λgo a2 w2 hr4=>hK a2 w2 ?_;obtain⟨M4,G4,hj4,hr4⟩:=hr4;obtain⟨us',st3,hrun3,hq⟩:=h3 go;have hn3:=(iB _ (jj+1) _ _ _ hrun3);simp only at hn3;have happ:=jF (P:=P) (ops:=ops) (ρ:=none) (M0:=M4) (w0:=fx w2 G4 (E.gk hj4)) (nx:=nx2) (Q:=λe a' w'=> ∃k' go' st',GRel E k' go' st' a' w'/\Q e k' go' st') [] (ops.toList.drop (jj+1)) (jj+1) ⟨(d,.v (.bool go))::fr2,hp2,nx2,n⟩ st3 us' a2 w2 hrun3 (hr4.free λi hi=>by show nx2<=i;omega) λa5 w5 hr5=>?_;rw[List.append_nil] at happ;exact happ;refine⟨k+1,go,⟨st3.fr,st3.hp,nx2+n1,n⟩,GRel.go_on hj4 ?_,hq⟩;rw[hn3] at hr5;refine hr5.free λi (hi:nx2+n1<=i)=>?_;rw[List.length_drop,Array.length_toList];have:jj< ops.size:=by simpa using hjl
 omega
theorem GSpecB.intro {P:Program} {f:Nat} {fn:Func} {c:Code} {cap:La} {T:Nat->Option La} {K:Nat} (hf:P.funcs[f]?=some fn) (hb:fn.body=some c) (hname:(fn.name== "runtime.NumGoroutine")=false) (hrs:fn.results.toList=[]) {m:Nat} (hm:fn.ntmps=m) (hn:Nat.ble (cap.length+1) m=true)
    (hcl:∀a∈cap,Closed a) (hclT:∀k as,T k=some as->∀a∈as,Closed a)
    (h:∀l N (_:N<=K) (E:GEnv P l T N),GWp E c (λe k go _=>(e= .normal\/e= .ret)/\(go=true->T k=none)) 0 true ⟨(0,.v (.func (.yield l) #[] #[]))::dx 1 cap,[],1,m⟩):GSpecB P f cap T K:=by
 subst hm;refine⟨hcl,hclT,λxs w=>?_,λl N hNK E M w vals hj hargs=>?_⟩;have hname':¬fn.name= "runtime.NumGoroutine" :=φ
 simp[callFunc,hf,hname',hb];refine callsIn_of_wp_marks (F:=FR none) hf hb trivial ?_;have hlen:=hargs.length;have hn':=Nat.le_of_ble_eq_true hn;have hargs':RVs M (λ_=>none) w (AV.v (.func (.yield l) #[] #[])::cap) (Value.func (.yield l) #[] #[]::vals):=⟨_,_,rfl,rfl,hargs⟩;have hd:=E.disj _ _ _ _ _ hj
 have hrel:GRel E 0 true ⟨(0,.v (.func (.yield l) #[] #[]))::dx 1 cap,[],1,fn.ntmps⟩ {tmps:=(#[Value.func (.yield l) #[] #[]]++vals.toArray)++Array.replicate (fn.ntmps- (#[Value.func (.yield l) #[] #[]]++vals.toArray).size) undef,defers:=[]} w:=by
  refine⟨M,λ_=>False,hj,λ_=>none,⟨⟨rfl,rfl,rfl,Nat.le_refl _,λ_ _=>rfl,λ_ _ h=>h⟩,λb hb=>⟨⟨(hd b hb).1,(hd b hb).2⟩,λe=>(E.tabs _ _ _ _ _ hj).2.1 (e▸hb)⟩,(λ_ _ _ h=>by cases h),(λ_=>rfl),(λ_ _ h=>by cases h),(λ_ _ _ _ _ _ _ h=>ψ)⟩,φ,λt x hx=>?_,λi (hi:1<=i)=>⟨rfl,ω⟩,⟨[],rfl,List.nodup_nil,ψ⟩⟩;have hmm:MM M (λ_=>none) (au [])=M:=by funext b;simp[MM,au,look]
  show RV (MM M (λ_=>none) (au [])) _ _ _ _;rw[hmm,cY rfl];obtain⟨_,y,h1,h2⟩:=gf (i:=0) hargs' hx
  have hy:((#[Value.func (.yield l) #[] #[]]++vals.toArray)++Array.replicate (fn.ntmps- (#[Value.func (.yield l) #[] #[]]++vals.toArray).size) undef).getD t undef=y:=by
   have hlt:t< (Value.func (.yield l) #[] #[]::vals).length:=by simpa using(List.getElem?_eq_some_iff.1 h1).1
   rw[Array.getD_eq_getD_getElem?,Array.getElem?_append_left (by simpa using hlt)];grind
  grind
 refine wpIn_mono (h l N hNK E _ w hrel) ?_;rintro e a' w' ⟨k,go,st',⟨M',G',hj',β,mem,hsz,hfr,hfree,Ds,hds,hnd,hD⟩,he,hT⟩
 have hres:kW P fn.results.toList st' (.tup []):=by
  rw[hrs];exact⟨[],rfl,Cv.tup rfl⟩
 have hL:LeavesInM (FR none) 0 P fn a'.tmps (λe w'=>(∃v,e= .returned v)/\∃k go M' G',E.J k go M' G' w'/\(go=true->T k=none)) a'.defers .returning w':=by
  rw[hds];refine iz hres (λy w'' h1 h2 _ _=>⟨⟨y,rfl⟩,k,go,M',λb=>(G' b\/w'.heap.size<=b)/\b< w''.heap.size,E.ok _ _ _ _ _ _ _ hj' ?_,hT⟩) Ds w' hnd hD mem (λt x hx=>by have:=hfr t x hx;rwa[cY rfl] at this);have hb:=h2.below;exact⟨hb.os,hb.tape,hb.output,hb.size,λb h1 h2=>hb.block b ⟨h1,h2⟩,hb.sizes,λb h=>h⟩
 rcases he with rfl|rfl
 exact hL;exact hL
end
end
end Go.Abs
