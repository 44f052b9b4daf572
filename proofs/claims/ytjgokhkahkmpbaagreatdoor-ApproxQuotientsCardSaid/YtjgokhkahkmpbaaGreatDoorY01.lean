/- Part Y01 of the proof. -/
import Derived.WalkKit
import Derived.Lib.LaidTab
import Derived.Lib.ItoaNum
set_option linter.all false
theorem ω{p:Prop}(h:p:=by omega):p:=h
theorem δ{p:Prop}(h:p:=by decide):p:=h
theorem ψ{p:Prop}(h:p:=by simp):p:=h
theorem φ{p:Prop}(h:p:=by grind):p:=h
theorem χ{p:Prop}(h:p:=by simp;omega):p:=h
namespace Go.Abs
open Go.RowKit
def GT:Nat:=0
def tabA:Array Value:=(Lib.pow10Tab.map λz=>Value.int .u64 z).toArray
def TabW(w:World):Prop:=∃t z,w.heap[GT]?=some (.cells tabA t z)
theorem TabW.lt{w:World}(h:TabW w):GT< w.heap.size:=by
 obtain⟨t,z,h⟩:=h;exact(Array.getElem?_eq_some_iff.1 h).1
theorem TabW.congr{w w':World}(h:TabW w)(e:w'.heap[GT]?=w.heap[GT]?):TabW w':=by
 obtain⟨t,z,h⟩:=h;exact⟨t,z,e.trans h⟩
structure Fit (M:Nat->Prop)(w:World):Prop where
 lt:∀b,M b->b< w.heap.size
 nt:¬M GT
 tab:TabW w
theorem Fit.sub{M M':Nat->Prop}{w:World}(h:Fit M w)(hs:∀b,M' b->M b):Fit M' w:=⟨λb hb=>h.lt b (hs b hb),λhb=>h.nt (hs GT hb),h.tab⟩
inductive AV where
 |v (x:Value)
 |any
 |emp
 |arr (es:List (List AV))
 |aptr (es:List (List AV)) (i o:Nat)
 |lptr (id i o:Nat)
 |lsl (id i n:Nat) (cap:Option Nat) (sz:Nat)
 |agg (cs:List AV)
 |tup (cs:List AV)
 |clos (f:Nat) (fst cap:List AV)
 |mp (ks:List Value) (vs:List AV)
 |lmp (id:Nat)
abbrev Lq:=List Rat
abbrev Lw:=List Lq
abbrev Ln:=List Nat
abbrev La:=List AV
abbrev Lc:=List La
abbrev Bq:=Nat->Option (Nat×Nat)
def aL(w:World)(b:Nat):Option Nat:=
 match w.heap[b]? with
 |some (.cells cs _ _)=>some cs.size
 |some (.map _ _)=>some 0
 |_=>none
section
variable (M:Nat->Prop)(β:Bq)(w:World)
mutual
    def RV:AV->Value->Prop
    | .v x,y=>y=x
    | .any,_=>True
    | .emp,y=> ∃a,y= .slice a 0 0
    | .arr es,y=> ∃a c,y= .slice a es.length c/\es.length<=c/\c<=maxLen/\(es=[]\/∃b off s,a=some ⟨b,off,none⟩/\(∃N,aL w b=some N)/\¬M b/\RVess b s es off)
    | .aptr es i o,y=>i< es.length/\∃b off s,y= .pointer (some ⟨b,off+i* s+o,none⟩)/\(∃N,aL w b=some N)/\¬M b/\RVess b s es off
    | .lptr id i o,y=> ∃b s,β id=some (b,s)/\y= .pointer (some ⟨b,i* s+o,none⟩)
    | .lsl id i n cap sz,y=> ∃b c,β id=some (b,sz)/\y= .slice (some ⟨b,i* sz,none⟩) n c/\n<=c/\c<=maxLen/\(∀k,cap=some k->c=k)/\∃N,aL w b=some N/\(i+c) * sz<=N
    | .agg cs,y=> ∃xs,y= .agg xs/\RVs cs xs.toList
    | .tup cs,y=> ∃xs,y= .tuple xs/\RVs cs xs.toList
    | .clos f fst cap,y=> ∃xs ys,y= .func (.func f) xs ys/\RVs fst xs.toList/\RVs cap ys.toList
    | .lmp id,y=> ∃r,β id=some (r,0)/\y= .map (some r)
    | .mp ks vs,y=> ∃r ens ck,y= .map (some r)/\w.heap[r]?=some (.map ens ck)/\¬M r/\∃l:List MapEntry,l.Perm ens.toList/\l.map (·.key)=ks/\RVs vs (l.map (·.val))
 def RVess (b s:Nat):Lc->Nat->Prop
  |[],_=>True
  |e::es,off=>e.length=s/\RVcs b e off/\RVess b s es (off+s)
 def RVcs (b:Nat):La->Nat->Prop
  |[],_=>True
  |c::cs,off=>(∃x,w.cell? ⟨b,off,none⟩=some x/\RV c x)/\RVcs b cs (off+1)
 def RVs:La->List Value->Prop
  |[],ys=>ys=[]
  |c::cs,ys=> ∃x xs,ys=x::xs/\RV c x/\RVs cs xs
end
end
structure StabC (M M':Nat->Prop)(β β':Bq)(w w':World):Prop where
 heap:∀b N,aL w b=some N->¬M b->w'.heap[b]?=w.heap[b]?
 m:∀b N,aL w b=some N->M' b->M b
 be:∀i x,β i=some x->β' i=some x
 sz:∀b n,aL w b=some n->aL w' b=some n
structure Stab (M M':Nat->Prop)(β β':Bq)(w w':World):Prop extends StabC M M' β β' w w' where
 oth:∀b,b< w.heap.size->aL w b=none->w'.heap[b]?=w.heap[b]?
theorem cell?_congr{w w':World}{b:Nat}(h:w'.heap[b]?=w.heap[b]?)(o:Nat):w'.cell? ⟨b,o,none⟩=w.cell? ⟨b,o,none⟩:=by
 simp only[World.cell?,h]
section
variable {M M':Nat->Prop}{β β':Bq}{w w':World}
theorem Stab.refl:Stab M M β β w w:=⟨⟨λ_ _ _ _=>rfl,λ_ _ _ h=>h,λ_ _ h=>h,λ_ _ h=>h⟩,λ_ _ _=>rfl⟩
theorem StabC.both(h:StabC M M' β β' w w'):
    (∀a y,RV M β w a y->RV M' β' w' a y)/\
    (∀es b s off,w'.heap[b]?=w.heap[b]?->RVess M β w b s es off->RVess M' β' w' b s es off)/\
    (∀cs,(∀b off,w'.heap[b]?=w.heap[b]?->RVcs M β w b cs off->RVcs M' β' w' b cs off)/\(∀ys,RVs M β w cs ys->RVs M' β' w' cs ys)):=by
 let m1:AV->Prop:=λa=> ∀y,RV M β w a y->RV M' β' w' a y
 let m2:Lc->Prop:=λes=> ∀b s off,w'.heap[b]?=w.heap[b]?->RVess M β w b s es off->RVess M' β' w' b s es off
 let m3:La->Prop:=λcs=>(∀b off,w'.heap[b]?=w.heap[b]?->RVcs M β w b cs off->RVcs M' β' w' b cs off)/\(∀ys,RVs M β w cs ys->RVs M' β' w' cs ys)
 have hv:∀x,m1 (.v x):=λx y hy=>hy;have hany:m1 .any:=λy _=>trivial;have hemp:m1 .emp:=λy hy=>hy
 have harr:∀es,m2 es->m1 (.arr es):=by
  rintro es ih y ⟨a,c,rfl,h1,h2,h3⟩;refine⟨a,c,rfl,h1,h2,h3.imp id ?_⟩;rintro⟨b,off,s,rfl,⟨N,hb⟩,hm,he⟩;exact⟨b,off,s,rfl,⟨N,h.sz b N hb⟩,λhm'=>hm (h.m b N hb hm'),ih b s off (h.heap b N hb hm) he⟩
 have haptr:∀es i o,m2 es->m1 (.aptr es i o):=by
  rintro es i o ih y ⟨hi,b,off,s,rfl,⟨N,hb⟩,hm,he⟩;exact⟨hi,b,off,s,rfl,⟨N,h.sz b N hb⟩,λhm'=>hm (h.m b N hb hm'),ih b s off (h.heap b N hb hm) he⟩
 have hlptr:∀id i o,m1 (.lptr id i o):=by rintro id i o y ⟨b,s,hb,rfl⟩;exact⟨b,s,h.be _ _ hb,rfl⟩
 have hlsl:∀id i n cap sz,m1 (.lsl id i n cap sz):=by rintro id i n cap sz y ⟨b,c,hb,rfl,h1,h2,h3,N,h4,h5⟩;exact⟨b,c,h.be _ _ hb,rfl,h1,h2,h3,N,h.sz _ _ h4,h5⟩
 have hagg:∀cs,m3 cs->m1 (.agg cs):=by rintro cs ih y ⟨xs,rfl,hr⟩;exact⟨xs,rfl,ih.2 _ hr⟩
 have htup:∀cs,m3 cs->m1 (.tup cs):=by rintro cs ih y ⟨xs,rfl,hr⟩;exact⟨xs,rfl,ih.2 _ hr⟩
 have hclos:∀f fst cap,m3 fst->m3 cap->m1 (.clos f fst cap):=by
  rintro f fst cap ih1 ih2 y ⟨xs,ys,rfl,h1,h2⟩;exact⟨xs,ys,rfl,ih1.2 _ h1,ih2.2 _ h2⟩
 have hmp:∀ks vs,m3 vs->m1 (.mp ks vs):=by
  rintro ks vs ih y ⟨r,ens,ck,rfl,h1,h2,l,h5,h3,h4⟩;have hs:aL w r=some 0:=by simp[aL,h1]
  exact⟨r,ens,ck,rfl,by rw[h.heap r 0 hs h2];grind,λhm=>h2 (h.m r 0 hs hm),l,h5,h3,ih.2 _ h4⟩
 have hlmp:∀id,m1 (.lmp id):=by rintro id y ⟨r,hb,rfl⟩;exact⟨r,h.be _ _ hb,rfl⟩
 have hn2:m2 []:=λ_ _ _ _ _=>trivial;have hc2:∀e es,m3 e->m2 es->m2 (e::es):=by rintro e es ih1 ih2 b s off hh ⟨hl,hc,hr⟩;exact⟨hl,ih1.1 b off hh hc,ih2 b s _ hh hr⟩
 have hn3:m3 []:=⟨λ_ _ _ _=>trivial,λ_ h=>h⟩
 have hc3:∀c cs,m1 c->m3 cs->m3 (c::cs):=by
  refine λc cs ih1 ih2=>⟨?_,?_⟩;rintro b off hh ⟨⟨x,hx,hr⟩,hs⟩;exact⟨⟨x,by rw[cell?_congr hh];exact hx,ih1 _ hr⟩,ih2.1 b _ hh hs⟩;rintro ys ⟨x,xs,rfl,h1,h2⟩;exact⟨x,xs,rfl,ih1 _ h1,ih2.2 _ h2⟩
 exact⟨λa=>AV.rec (motive_1:=m1) (motive_2:=m2) (motive_3:=m3) hv hany hemp harr haptr hlptr hlsl hagg htup hclos hmp hlmp hn2 hc2 hn3 hc3 a,
  λes=>AV.rec_1 (motive_1:=m1) (motive_2:=m2) (motive_3:=m3) hv hany hemp harr haptr hlptr hlsl hagg htup hclos hmp hlmp hn2 hc2 hn3 hc3 es,
  λcs=>AV.rec_2 (motive_1:=m1) (motive_2:=m2) (motive_3:=m3) hv hany hemp harr haptr hlptr hlsl hagg htup hclos hmp hlmp hn2 hc2 hn3 hc3 cs⟩
theorem StabC.all(h:StabC M M' β β' w w'){a:AV}{y:Value}(hy:RV M β w a y):RV M' β' w' a y:=h.both.1 a y hy
theorem StabC.ess(h:StabC M M' β β' w w'){es:Lc}{b s off:Nat}(hh:w'.heap[b]?=w.heap[b]?)(hy:RVess M β w b s es off):RVess M' β' w' b s es off:=h.both.2.1 es b s off hh hy
theorem StabC.cs(h:StabC M M' β β' w w'){cs:La}{b off:Nat}(hh:w'.heap[b]?=w.heap[b]?)(hy:RVcs M β w b cs off):RVcs M' β' w' b cs off:=(h.both.2.2 cs).1 b off hh hy
theorem StabC.vs(h:StabC M M' β β' w w'){cs:La}{ys:List Value}(hy:RVs M β w cs ys):RVs M' β' w' cs ys:=(h.both.2.2 cs).2 ys hy
end
section
variable {i b s:Nat}{M:Nat->Prop}{α:Type}
structure ABlk where
 ty:Nat
 sz:Nat
 es:List (List AV)
abbrev Hq:=Nat->Option ABlk
def MM(M0:Nat->Prop)(β:Bq)(hp:Hq):Nat->Prop:=λb=>M0 b\/∃i B s,hp i=some B/\β i=some (b,s)
structure Base where
 w:World
 K:Nat->Prop
 lt:∀b,K b->b< w.heap.size
 pin:Option (Nat×Nat)
 gh:Nat->Value
 kt:K GT
 tab:TabW w
structure Base.Kept (w0:Base)(w:World):Prop where
 os:w.os=w0.w.os
 tape:w.tape=w0.w.tape
 output:w.output=w0.w.output
 size:w0.w.heap.size<=w.heap.size
 block:∀b,w0.K b->w.heap[b]?=w0.w.heap[b]?
 sizes:∀b n,aL w0.w b=some n->aL w b=some n
def RVkv(M:Nat->Prop)(β:Bq)(w:World):Lc->List MapEntry->Prop
 |[],es=>es=[]
 |x::xs,es=> ∃e es',es=e::es'/\RVs M β w x [e.key,e.val]/\RVkv M β w xs es'
def BlkAt(M:Nat->Prop)(β:Bq)(w:World)(b:Nat)(B:ABlk):Prop:=
 (B.sz≠0/\∃cs,w.heap[b]?=some (.cells cs B.ty (0,0))/\RVess M β w b B.sz B.es 0/\B.es.length* B.sz<=cs.size)\/
 (B.sz=0/\∃ens ck,w.heap[b]?=some (.map ens ck)/\RVkv M β w B.es ens.toList)
def dw(hp:Hq)(i:Nat):Option ABlk:=match hp i with|some B=>cond (Nat.beq B.sz 0) none (some B)|none=>none
theorem du{hp:Hq}{B:ABlk}(h:dw hp i=some B):hp i=some B/\B.sz≠0:=by
 unfold dw at h;split at h
 ·rename_i B' hB
  cases hb:Nat.beq B'.sz 0 with
  |true=>grind
  |false=>rw[hb] at h;cases h;exact⟨hB,λe=>by simp_all⟩
 cases h
theorem dY{hp:Hq}{B:ABlk}(h:hp i=some B)(hz:B.sz≠0):dw hp i=some B:=by
 unfold dw
 have:Nat.beq B.sz 0=false:=by
  cases hb:Nat.beq B.sz 0 with
  |false=>rfl
  |true=>simp_all
 grind
theorem eS{hp hp':Hq}(h:hp' i=hp i):dw hp' i=dw hp i:=by unfold dw;rw[h]
theorem iZ{n:Nat}(h:Nat.blt 0 n=true):n≠0:=λe=>by simp_all
structure Mem (M0:Nat->Prop)(w0:Base)(β:Bq)(hp:Hq)(w:World):Prop where
 below:w0.Kept w
 m0:∀b,M0 b->w0.K b/\b≠GT
 rng:∀i b s,β i=some (b,s)->¬w0.K b/\b< w.heap.size
 pin:(hp 0).isSome=true->β 0=w0.pin
 blk:∀i B,hp i=some B->∃b,β i=some (b,B.sz)/\BlkAt (MM M0 β hp) β w b B
 inj:∀i j B B' b s s',hp i=some B->hp j=some B'->β i=some (b,s)->β j=some (b,s')->i=j
section
variable {M0:Nat->Prop}{w0:Base}{w w':World}{β β':Bq}{hp hp':Hq}
theorem Mem.lt(h:Mem M0 w0 β hp w)(hb:MM M0 β hp b):b< w.heap.size:=by
 rcases hb with hb|⟨i,B,s,_,hb⟩
 exact Nat.lt_of_lt_of_le (w0.lt b (h.m0 b hb).1) h.below.size;exact(h.rng i b s hb).2
theorem Mem.tab(h:Mem M0 w0 β hp w):TabW w:=w0.tab.congr (h.below.block GT w0.kt)
theorem Mem.nt(h:Mem M0 w0 β hp w):¬MM M0 β hp GT:=by
 rintro(hb|⟨i,B,s,_,hb⟩);exact(h.m0 GT hb).2 rfl;exact(h.rng i GT s hb).1 w0.kt
theorem Mem.gtn(h:Mem M0 w0 β hp w):∀i s,β i≠some (GT,s):=λi s hi=>(h.rng i GT s hi).1 w0.kt
theorem Base.Kept.tab{w0:Base}{w:World}(h:w0.Kept w):TabW w:=w0.tab.congr (h.block GT w0.kt)
theorem TabW.sz{w:World}(h:TabW w):aL w GT≠none:=by
 obtain⟨t,z,h⟩:=h;simp[aL,h]
theorem Mem.fit(h:Mem M0 w0 β hp w):Fit (MM M0 β hp) w:=⟨λ_=>h.lt,h.nt,h.tab⟩
theorem ci{n:Nat}(h:aL w b=some n):b< w.heap.size:=by
 unfold aL at h;grind
theorem dZ(h:w'.heap[b]?=w.heap[b]?):aL w' b=aL w b:=by simp only[aL,h]
theorem StabC.kv{M':Nat->Prop}(st:StabC M M' β β' w w'):∀{es:Lc} {ens:List MapEntry},RVkv M β w es ens->RVkv M' β' w' es ens
 |[],_,h=>h
 |_::_,_,⟨e,es',h1,h2,h3⟩=>⟨e,es',h1,st.vs h2,st.kv h3⟩
theorem BlkAt.stab{M':Nat->Prop}{B:ABlk}(h:BlkAt M β w b B)(st:StabC M M' β β' w w')(hh:w'.heap[b]?=w.heap[b]?):BlkAt M' β' w' b B:=by
 rcases h with⟨h1,cs,h2,h3,h4⟩|⟨h1,ens,ck,h2,h3⟩
 exact .inl ⟨h1,cs,φ,st.ess hh h3,h4⟩;exact .inr ⟨h1,ens,ck,φ,st.kv h3⟩
theorem BlkAt.size{B:ABlk}(h:BlkAt M β w b B):∃N,aL w b=some N:=by
 rcases h with⟨_,cs,h2,_⟩|⟨_,ens,ck,h2,_⟩
 exact⟨cs.size,by simp[aL,h2]⟩;exact⟨0,by simp[aL,h2]⟩
theorem Mem.cells(h:Mem M0 w0 β hp w){B:ABlk}(hi:hp i=some B)(hz:B.sz≠0):∃b cs,β i=some (b,B.sz)/\w.heap[b]?=some (.cells cs B.ty (0,0))/\RVess (MM M0 β hp) β w b B.sz B.es 0/\B.es.length* B.sz<=cs.size:=by
 obtain⟨b,h1,h2⟩:=h.blk i B hi;rcases h2 with⟨_,cs,h2⟩|⟨h0,_⟩
 exact⟨b,cs,h1,h2⟩;grind
theorem Mem.cellsF(h:Mem M0 w0 β hp w){B:ABlk}(hi:dw hp i=some B):∃b cs,β i=some (b,B.sz)/\w.heap[b]?=some (.cells cs B.ty (0,0))/\RVess (MM M0 β hp) β w b B.sz B.es 0/\B.es.length* B.sz<=cs.size:=
 h.cells (du hi).1 (du hi).2
theorem Mem.ext(h:Mem M0 w0 β hp w)(hb:Below w.heap.size w w'):Mem M0 w0 β hp w'/\Stab (MM M0 β hp) (MM M0 β hp) β β w w':=by
 have st:Stab (MM M0 β hp) (MM M0 β hp) β β w w':=⟨⟨λb N hs _=>hb.block b (ci hs),λ_ _ _ h=>h,λ_ _ h=>h,λb n h=>(dZ (hb.block b (ci h))).trans h⟩,λb hlt _=>hb.block b hlt⟩;refine⟨⟨⟨hb.os.trans h.below.os,hb.tape.trans h.below.tape,hb.output.trans h.below.output,Nat.le_trans h.below.size hb.size,λb hk=>(hb.block b (Nat.lt_of_lt_of_le (w0.lt b hk) h.below.size)).trans (h.below.block b hk),λb n hs=>st.sz b n (h.below.sizes b n hs)⟩,h.m0,λi b s hi=>⟨(h.rng i b s hi).1,Nat.lt_of_lt_of_le (h.rng i b s hi).2 hb.size⟩,h.pin,λi B hi=>?_,h.inj⟩,st⟩;obtain⟨b,h1,h2⟩:=h.blk i B hi;exact⟨b,h1,h2.stab st.toStabC (hb.block b (h.rng i b _ h1).2)⟩
theorem Mem.forget(h:Mem M0 w0 β hp w)(hs:∀i B,hp' i=some B->hp i=some B):Mem M0 w0 β hp' w/\Stab (MM M0 β hp) (MM M0 β hp') β β w w:=by
 have st:Stab (MM M0 β hp) (MM M0 β hp') β β w w:=⟨⟨λ_ _ _ _=>rfl,λb _ _ hb=>hb.imp id fun⟨i,B,s,h1,h2⟩=>⟨i,B,s,hs i B h1,h2⟩,λ_ _ h=>h,λ_ _ h=>h⟩,λ_ _ _=>rfl⟩;refine⟨⟨h.below,h.m0,h.rng,λh0=>h.pin (by obtain⟨B,hB⟩:=Option.isSome_iff_exists.1 h0;grind),λi B hi=>?_,λi j B B' b s s' h1 h2=>h.inj i j B B' b s s' (hs _ _ h1) (hs _ _ h2)⟩,st⟩;obtain⟨b,h1,h2⟩:=h.blk i B (hs i B hi);exact⟨b,h1,h2.stab st.toStabC rfl⟩
def upd(f:Nat->Option α)(i:Nat)(x:Option α):Nat->Option α:=λj=>if j=i then x else f j
@[simp] theorem bn (f:Nat->Option α)(i:Nat)(x:Option α):upd f i x i=x:=by simp[upd]
theorem br(f:Nat->Option α){j:Nat}(x:Option α)(h:j≠i):upd f i x j=f j:=by simp[upd,h]
theorem RVs.length:∀{cs:La} {xs:List Value},RVs M β w cs xs->xs.length=cs.length
 |[],xs,h=>by cases (h:xs=[]);rfl
 |c::cs,xs,⟨x,xs',e,_,h2⟩=>by subst e;simp[RVs.length h2]
theorem RVs.get:∀{cs:La} {xs:List Value} {i:Nat} {c:AV},RVs M β w cs xs->cs[i]?=some c->∃x,xs[i]?=some x/\RV M β w c x
 |c::cs,xs,0,c',⟨x,xs',e,h1,_⟩,h=>by grind
 |c::cs,xs,i+1,c',⟨x,xs',e,_,h2⟩,h=>by subst e;simp only[List.getElem?_cons_succ] at h⊢;exact RVs.get h2 h
theorem RVs.append:∀{cs ds:La} {xs ys:List Value},RVs M β w cs xs->RVs M β w ds ys->RVs M β w (cs++ds) (xs++ys)
 |[],ds,xs,ys,h,h'=>by cases (h:xs=[]);grind
 |c::cs,ds,xs,ys,⟨x,xs',e,h1,h2⟩,h'=>by subst e;exact⟨x,xs'++ys,rfl,h1,RVs.append h2 h'⟩
theorem RVs.take:∀{cs:La} {xs:List Value} (n:Nat),RVs M β w cs xs->RVs M β w (cs.take n) (xs.take n)
 |_,_,0,_=>by simp[RVs]
 |[],xs,n+1,h=>by cases (h:xs=[]);simp[RVs]
 |c::cs,xs,n+1,⟨x,xs',e,h1,h2⟩=>by subst e;exact⟨x,xs'.take n,rfl,h1,RVs.take n h2⟩
theorem RVs.drop:∀{cs:La} {xs:List Value} (n:Nat),RVs M β w cs xs->RVs M β w (cs.drop n) (xs.drop n)
 |_,_,0,h=>h
 |[],xs,n+1,h=>by cases (h:xs=[]);simp[RVs]
 |c::cs,xs,n+1,⟨x,xs',e,h1,h2⟩=>by subst e;exact RVs.drop n h2
theorem RVcs.get:∀{cs:La} {off i:Nat} {c:AV},RVcs M β w b cs off->cs[i]?=some c->∃x,w.cell? ⟨b,off+i,none⟩=some x/\RV M β w c x
 |c::cs,off,0,c',⟨h1,_⟩,h=>by grind
 |c::cs,off,i+1,c',⟨_,h2⟩,h=>by
  have:=RVcs.get h2 h;grind
theorem RVcs.drop:∀{cs:La} {off:Nat} (n:Nat),RVcs M β w b cs off->RVcs M β w b (cs.drop n) (off+n)
 |_,_,0,h=>h
 |[],_,n+1,_=>trivial
 |c::cs,off,n+1,⟨_,h2⟩=>by have:=RVcs.drop n h2;grind
theorem RVcs.take:∀{cs:La} {off:Nat} (n:Nat),RVcs M β w b cs off->RVcs M β w b (cs.take n) off
 |_,_,0,_=>by simp[RVcs]
 |[],_,n+1,_=>trivial
 |c::cs,off,n+1,⟨h1,h2⟩=>⟨h1,RVcs.take n h2⟩
theorem RVcs.vals:∀{cs:La} {off:Nat},RVcs M β w b cs off->∃xs,RVs M β w cs xs/\∀j v,xs[j]?=some v->w.cell? ⟨b,off+j,none⟩=some v
 |[],off,_=>⟨[],rfl,λj v h=>by grind⟩
 |c::cs,off,⟨⟨x,hx,h1⟩,h2⟩=>by
  obtain⟨xs,h3,h4⟩:=RVcs.vals h2;exact⟨x::xs,⟨x,xs,rfl,h1,h3⟩,λj v h=>(φ)⟩
theorem RVcs.of_vals:∀{cs:La} {xs:List Value} {off:Nat},RVs M β w cs xs->(∀j v,xs[j]?=some v->w.cell? ⟨b,off+j,none⟩=some v)->RVcs M β w b cs off
 |[],_,_,_,_=>trivial
 |c::cs,xs,off,⟨x,xs',e,h1,h2⟩,h=>by
  subst e;refine⟨⟨x,h 0 x rfl,h1⟩,RVcs.of_vals h2 λj v hj=>?_⟩;have:=h (j+1) v φ;grind
theorem RVess.get:∀{es:Lc} {off i:Nat} {e:La},RVess M β w b s es off->es[i]?=some e->RVcs M β w b e (off+i* s)/\e.length=s
 |e::es,off,0,e',⟨h1,h2,_⟩,h=>by grind
 |e::es,off,i+1,e',⟨_,_,h3⟩,h=>by
  have:=RVess.get h3 h;grind
theorem RVess.drop:∀{es:Lc} {off:Nat} (n:Nat),RVess M β w b s es off->RVess M β w b s (es.drop n) (off+n* s)
 |_,_,0,h=>by grind
 |[],_,n+1,_=>trivial
 |c::cs,off,n+1,⟨_,_,h2⟩=>by have:=RVess.drop n h2;grind
theorem RVess.take:∀{es:Lc} {off:Nat} (n:Nat),RVess M β w b s es off->RVess M β w b s (es.take n) off
 |_,_,0,_=>by simp[RVess]
 |[],_,n+1,_=>trivial
 |c::cs,off,n+1,⟨h0,h1,h2⟩=>⟨h0,h1,RVess.take n h2⟩
theorem RVess.append:∀{es fs:Lc} {off:Nat},RVess M β w b s es off->RVess M β w b s fs (off+es.length* s)->RVess M β w b s (es++fs) off
 |[],_,_,_,h=>by grind
 |c::cs,fs,off,⟨h0,h1,h2⟩,h=>⟨h0,h1,RVess.append h2 φ⟩
theorem RVess.of_get:∀{es:Lc} {off:Nat},(∀i e,es[i]?=some e->RVcs M β w b e (off+i* s)/\e.length=s)->RVess M β w b s es off
 |[],_,_=>trivial
 |e::es,off,h=>by
  have h0:=h 0 e rfl;refine⟨h0.2,φ,RVess.of_get λi e' he=>?_⟩;have:=h (i+1) e' φ;grind
theorem heap_alloc_new'(w:World)(o:Obj):(w.alloc o).heap[w.heap.size]?=some o:=by
 show(w.heap.push o)[w.heap.size]?=_;simp
theorem Mem.alloc (h:Mem M0 w0 β hp w) {ty:Nat} {es:Lc} {cs:Array Value} (hs0:s≠0) (hi0:i≠0) (hi:β i=none) (hpi:hp i=none)
    (hes:∀k e,es[k]?=some e->∃xs:List Value,RVs (MM M0 β hp) β w e xs/\e.length=s/\∀j v,xs[j]?=some v->cs[k* s+j]?=some v) (hsz:es.length* s<=cs.size):
    Mem M0 w0 (upd β i (some (w.heap.size,s))) (upd hp i (some ⟨ty,s,es⟩)) (w.alloc (.cells cs ty))/\
    Stab (MM M0 β hp) (MM M0 (upd β i (some (w.heap.size,s))) (upd hp i (some ⟨ty,s,es⟩))) β (upd β i (some (w.heap.size,s))) w (w.alloc (.cells cs ty)):=by
 have hbe:∀j x,β j=some x->upd β i (some (w.heap.size,s)) j=some x:=λj x hj=>by
  rw[br];exact hj;grind
 have st:Stab (MM M0 β hp) (MM M0 (upd β i (some (w.heap.size,s))) (upd hp i (some ⟨ty,s,es⟩))) β (upd β i (some (w.heap.size,s))) w (w.alloc (.cells cs ty)):=by
  refine⟨⟨λb N hs _=>Below.heap_alloc _ _ _ (ci hs),λb N hs hm=>?_,hbe,λb n h=>(dZ (Below.heap_alloc _ _ _ (ci h))).trans h⟩,λb hb _=>Below.heap_alloc _ _ _ hb⟩;have hb:=ci hs;rcases hm with hm|⟨j,B,s',h1,h2⟩
  exact .inl hm;by_cases hj:j=i;subst hj;rw[bn] at h2;cases h2;omega;rw[br _ _ hj] at h1 h2;exact .inr ⟨j,B,s',h1,h2⟩
 refine⟨⟨⟨h.below.os,h.below.tape,h.below.output,by simp;have:=h.below.size;omega,λb hk=>(Below.heap_alloc _ _ _ (Nat.lt_of_lt_of_le (w0.lt b hk) h.below.size)).trans (h.below.block b hk),λb n hs=>st.sz b n (h.below.sizes b n hs)⟩,h.m0,λj b s' hj=>?_,λh0=>(br _ _ (Ne.symm hi0)).trans (h.pin (by rw[br _ _ (Ne.symm hi0)] at h0;grind)),λj B hj=>?_,λj k B B' b s1 s2 h1 h2 h3 h4=>?_⟩,st⟩;by_cases hji:j=i;subst hji;rw[bn] at hj;cases hj;exact⟨λhk=>absurd (w0.lt _ hk) (by have:=h.below.size;omega),ψ⟩;rw[br _ _ hji] at hj;have:=h.rng j b s' hj;exact⟨this.1,χ⟩;by_cases hji:j=i;subst hji;rw[bn] at hj;cases hj;refine⟨w.heap.size,bn _ _ _,.inl ⟨hs0,cs,heap_alloc_new' _ _,RVess.of_get λk e he=>?_,hsz⟩⟩;obtain⟨xs,h1,h2,h3⟩:=hes k e he;refine⟨RVcs.of_vals (st.vs h1) λj v hj=>?_,h2⟩;simp only[World.cell?,heap_alloc_new'];simpa using h3 j v hj;rw[br _ _ hji] at hj;obtain⟨b,h1,h2⟩:=h.blk j B hj;exact⟨b,hbe _ _ h1,h2.stab st.toStabC (Below.heap_alloc _ _ _ (h.rng j b _ h1).2)⟩;by_cases hji:j=i <;> by_cases hki:k=i;rw[hji,hki];subst hji;rw[bn] at h3;cases h3;rw[br _ _ hki] at h4;have:=(h.rng k _ _ h4).2;omega;subst hki;rw[bn] at h4;cases h4;rw[br _ _ hji] at h3;have:=(h.rng j _ _ h3).2;omega;rw[br _ _ hji] at h1 h3;rw[br _ _ hki] at h2 h4;exact h.inj j k B B' b s1 s2 h1 h2 h3 h4
theorem Mem.write (h:Mem M0 w0 β hp w) {B:ABlk} {es:Lc} {cs:Array Value} (hz:B.sz≠0) (hi:hp i=some B) (hb:β i=some (b,B.sz))
    (hsame:w'.os=w.os/\w'.tape=w.tape/\w'.output=w.output) (hsize:w'.heap.size=w.heap.size) (hnew:w'.heap[b]?=some (.cells cs B.ty (0,0))) (hold:∀k,k≠b->w'.heap[k]?=w.heap[k]?)
    (hes:∀k e,es[k]?=some e->∃xs:List Value,RVs (MM M0 β hp) β w e xs/\e.length=B.sz/\∀j v,xs[j]?=some v->cs[k* B.sz+j]?=some v) (hsz:es.length* B.sz<=cs.size) (hss:aL w b=some cs.size):
    Mem M0 w0 β (upd hp i (some ⟨B.ty,B.sz,es⟩)) w'/\Stab (MM M0 β hp) (MM M0 β (upd hp i (some ⟨B.ty,B.sz,es⟩))) β β w w':=by
 have hmb:MM M0 β hp b:= .inr ⟨i,B,_,hi,hb⟩;have hrng:=h.rng i b _ hb
 have hmm:∀c,MM M0 β (upd hp i (some ⟨B.ty,B.sz,es⟩)) c->MM M0 β hp c:=by
  rintro c (hc|⟨j,B',s,h1,h2⟩);exact .inl hc;by_cases hji:j=i;subst hji;exact .inr ⟨j,B,s,hi,h2⟩;rw[br _ _ hji] at h1;exact .inr ⟨j,B',s,h1,h2⟩
 have st:Stab (MM M0 β hp) (MM M0 β (upd hp i (some ⟨B.ty,B.sz,es⟩))) β β w w':=
  ⟨⟨λc _ _ hm=>hold c (λe=>hm (e▸hmb)),λc _ _ hm=>hmm c hm,λ_ _ h=>h,λc n hc=>by
   by_cases hcb:c=b;subst hcb;rw[hss] at hc;simp only[aL,hnew];exact hc;exact(dZ (hold c hcb)).trans hc⟩,λc _ hn=>hold c (λe=>φ)⟩
 refine⟨⟨⟨hsame.1.trans h.below.os,hsame.2.1.trans h.below.tape,hsame.2.2.trans h.below.output,by have:=h.below.size;omega,λk hk=>(hold k (λe=>hrng.1 (e▸hk))).trans (h.below.block k hk),λc n hs=>st.sz c n (h.below.sizes c n hs)⟩,h.m0,λj c s hj=>by have:=h.rng j c s hj;grind,λh0=>h.pin (by by_cases h00:0=i;(grind);rw[br _ _ h00] at h0;grind),λj B' hj=>?_,λj k B1 B2 c s s' h1 h2 h3 h4=>?_⟩,st⟩;by_cases hji:j=i;subst hji;rw[bn] at hj;cases hj;refine⟨b,hb,.inl ⟨hz,cs,hnew,RVess.of_get λk e he=>?_,hsz⟩⟩;obtain⟨xs,h1,h2,h3⟩:=hes k e he;refine⟨RVcs.of_vals (st.vs h1) λj v hj=>?_,h2⟩;simp only[World.cell?,hnew];simpa using h3 j v hj;rw[br _ _ hji] at hj;obtain⟨c,h1,h2⟩:=h.blk j B' hj;have hcb:c≠b:=λe=>by subst e;exact hji (h.inj j i B' B c _ _ hj hi h1 hb)
 exact⟨c,h1,h2.stab st.toStabC (hold c hcb)⟩
 have e1:∃B,hp j=some B:=by
  by_cases hji:j=i;subst hji;exact⟨_,hi⟩;rw[br _ _ hji] at h1;exact⟨_,h1⟩
 have e2:∃B,hp k=some B:=by
  by_cases hki:k=i;subst hki;exact⟨_,hi⟩;rw[br _ _ hki] at h2;exact⟨_,h2⟩
 obtain⟨_,e1⟩:=e1;obtain⟨_,e2⟩:=e2;exact h.inj j k _ _ c s s' e1 e2 h3 h4
end
end
def fj(P:Program)(T:Nat):Option Bool:=(P.underlying T).map λd=>match d with| .struct _| .array _ _=>true|_=>false
def iO(P:Program)(T:Nat):Option Nat:=(P.info? T).map (·.size)
def fm(P:Program)(T:Nat):Option (List Value):=(P.info? T).bind λi=>i.zero.map (·.cells.toList)
def lW(P:Program)(T f:Nat):Option (Nat×Nat):=
 match P.underlying T with
 |some (.struct fs)=>match fs[f]? with|some fd=>(iO P fd.type).map λs=>(fd.offset,s)|none=>none
 |_=>none
def mI(P:Program)(T f:Nat):Option Bool:=
 match P.underlying T with
 |some (.struct fs)=>match fs[f]? with|some fd=>fj P fd.type|none=>none
 |_=>none
def eg(P:Program)(T:Nat):Option (Nat×Nat):=
 match P.underlying T with
 |some (.slice e)=>(iO P e).map λs=>(e,s)
 |_=>none
section
variable {P:Program}{T:Nat}{w:World}
theorem nh{t:Bool}(h:fj P T=some t)(w:World):(isAgg T).run P w= .ok t w:=by
 unfold fj at h;cases hu:P.underlying T with
 |none=>simp[hu] at h
 |some d=>
  simp only[hu,Option.map_some,Option.some.injEq] at h;unfold isAgg;rw[Sem.run_bind,run_underlying hu w];subst h;cases d <;> rfl
theorem run_sizeOf'{n:Nat}(h:iO P T=some n)(w:World):(sizeOf T).run P w= .ok n w:=by
 unfold iO at h;cases hu:P.info? T with
 |none=>simp[hu] at h
 |some i=>
  simp only[hu,Option.map_some,Option.some.injEq] at h;simp[sizeOf,typeInfo,hu,h]
theorem run_zeroValue'{zs:List Value}(h:fm P T=some zs)(w:World):∃v,(zeroValue T).run P w= .ok v w/\v.cells.toList=zs:=by
 unfold fm at h;cases hu:P.info? T with
 |none=>simp[hu] at h
 |some i=>
  simp only[hu,Option.bind_some] at h;cases hz:i.zero with
  |none=>simp[hz] at h
  |some v=>
   simp only[hz,Option.map_some,Option.some.injEq] at h;exact⟨v,by simp[zeroValue,typeInfo,hu,hz],h⟩
theorem jM(b off n:Nat):(⟨b,off,none⟩:Addr).add n=⟨b,off+n,none⟩:=by
 unfold Addr.add;split <;> simp_all
theorem iQ {n b off:Nat} {xs:List Value} (h1:fj P T=some true) (h2:iO P T=some n) (hn:xs.length=n)
    (hx:∀j v,xs[j]?=some v->w.cell? ⟨b,off+j,none⟩=some v):(loadVar T ⟨b,off,none⟩).run P w= .ok (.agg xs.toArray) w:=by
 have hl:=run_loadCells_list (P:=P) w ⟨b,off,none⟩ xs (λj v hv=>by rw[jM];exact hx j v hv);rw[hn] at hl;simp[loadVar,Sem.run_bind,nh h1,run_sizeOf' h2,hl]
theorem iP{b off:Nat}{x:Value}(h1:fj P T=some false)(hx:w.cell? ⟨b,off,none⟩=some x):(loadVar T ⟨b,off,none⟩).run P w= .ok x w:=by
 simp[loadVar,Sem.run_bind,nh h1,hx]
def eR{α:Type}(cs:List α)(off:Nat):List α->List α
 |[]=>cs
 |v::vs=>eR (cs.set off v) (off+1) vs
theorem cx{α:Type}:∀(vs cs:List α) (off:Nat),(eR cs off vs).length=cs.length
 |[],_,_=>rfl
 |v::vs,cs,off=>by simp[eR,cx vs]
theorem eF{α:Type}:∀(vs cs:List α) (off j:Nat),(eR cs off vs)[j]?=if off<=j/\j< off+vs.length then(if j< cs.length then vs[j- off]? else none) else cs[j]?
 |[],cs,off,j=>by
  rw[if_neg (by simp only[List.length_nil];omega)];rfl
 |v::vs,cs,off,j=>by
  rw[eR,eF vs,List.getElem?_set,List.length_set,List.length_cons];by_cases h1:off=j;subst h1;have ha:¬(off+1<=off/\off< off+1+vs.length):=ω
  have hb:off<=off/\off< off+(vs.length+1):=ω
  simp only[ha,hb,if_true,if_false,and_self,Nat.sub_self,List.getElem?_cons_zero];by_cases h2:off+1<=j/\j< off+1+vs.length;have hb:off<=j/\j< off+(vs.length+1):=ω
  have he:j- off=(j- (off+1))+1:=ω
  simp only[h2,hb,if_true,and_self,he,List.getElem?_cons_succ];have hb:¬(off<=j/\j< off+(vs.length+1)):=ω
  simp only[h1,h2,hb,if_false]
theorem run_storeCells'{b ty:Nat}:∀(vs:List Value) (w:World) (cs:Array Value) (off i:Nat),w.heap[b]?=some (.cells cs ty (0,0))->off+i+vs.length<=cs.size->(∀v∈vs,v.oneCell'=true)->
    ∃w',(storeCells ⟨b,off,none⟩ vs i).run P w= .ok () w'/\w'.heap[b]?=some (.cells (eR cs.toList (off+i) vs).toArray ty (0,0))/\(∀k,k≠b->w'.heap[k]?=w.heap[k]?)/\w'.heap.size=w.heap.size/\(w'.os=w.os/\w'.tape=w.tape/\w'.output=w.output)
 |[],w,cs,off,i,h,_,_=>⟨w,by simp[storeCells],by simpa[eR] using h,λ_ _=>rfl,rfl,rfl,rfl,rfl⟩
 |v::vs,w,cs,off,i,h,hlen,hone=>by
  simp only[List.length_cons] at hlen;have hc:w.cell? ⟨b,off+i,none⟩=some (cs[off+i]'(by omega)):=by simp[World.cell?,h]
  have hf:w.frozen? ⟨b,off+i,none⟩=false:=by simp[World.frozen?,h]
  have h1:=heap_setCell_same w b (off+i) cs ty v h;obtain⟨w',r,e1,e2,e3,e4⟩:=run_storeCells' vs (w.setCell ⟨b,off+i,none⟩ v) (cs.setIfInBounds (off+i) v) off (i+1) h1 χ (λu hu=>hone u (List.mem_cons_of_mem _ hu));refine⟨w',?_,?_,λk hk=>?_,?_,?_⟩;simp only[storeCells,Sem.run_bind,jM,run_store P w _ v .plain (hone v (List.mem_cons_self ..)),hc,hf,Bool.false_eq_true,if_false,Result.andThen_ok];exact r;rw[e1];simp[eR,Nat.add_assoc];rw[e2 k hk];exact heap_setCell_other w _ k v hk;rw[e3];simp;exact e4
end
section
variable {y:Value}{a:AV}
def Closed(a:AV):Prop:=∀(M:Nat->Prop) β w y,RV M β w a y->RV M (λ_=>none) w a y
structure FSpec (P:Program)(f:Nat)(args:La)(r:AV):Prop where
 cl:∀a∈args,Closed a
 enters:∀(xs:Array Value) (w:World),(callFunc f xs).run P w= .ok (.enter f xs) w
 calls:∀(M:Nat->Prop) (w:World) (vals:List Value),Fit M w->RVs M (λ_=>none) w args vals->
  Calls P f vals.toArray w λe w'=> ∃y,e= .returned y/\RV M (λ_=>none) w' r y/\Below w.heap.size w w'
structure But (b:Nat)(w w':World):Prop where
 os:w'.os=w.os
 tape:w'.tape=w.tape
 output:w'.output=w.output
 size:w.heap.size<=w'.heap.size
 block:∀x,x< w.heap.size->x≠b->w'.heap[x]?=w.heap[x]?
 sizes:∀x n,aL w x=some n->aL w' x=some n
def Ih(M:Nat->Prop)(w:World)(b ty sz:Nat)(es:Lc):Prop:=∃cs,w.heap[b]?=some (.cells cs ty (0,0))/\RVess M (λ_=>none) w b sz es 0/\es.length* sz<=cs.size
structure ESpec (P:Program)(f:Nat)(ty sz:Nat)(E E':Lc)(e n:Nat)(cap:Option Nat)(args:La)(r:Value):Prop where
 sz0:sz≠0
 cl:∀a∈args,Closed a
 clE:∀x∈E,∀c∈x,Closed c
 enters:∀(xs:Array Value) (w:World),(callFunc f xs).run P w= .ok (.enter f xs) w
 calls:∀(M:Nat->Prop) (w:World) (b:Nat) (y0:Value) (vals:List Value),Fit M w->M b->Ih M w b ty sz E->RV M (λi=>if i=0 then some (b,sz) else none) w (.lsl 0 e n cap sz) y0->RVs M (λ_=>none) w args vals->
  Calls P f (y0::vals).toArray w λx w'=>x= .returned r/\Ih M w' b ty sz E'/\But b w w'
structure OSpec (P:Program)(f:Nat)(args:La)(ty sz:Nat)(es:Lc):Prop where
 sz0:sz≠0
 cl:∀a∈args,Closed a
 enters:∀(xs:Array Value) (w:World),(callFunc f xs).run P w= .ok (.enter f xs) w
 calls:∀(M:Nat->Prop) (w:World) (vals:List Value),Fit M w->RVs M (λ_=>none) w args vals->
  Calls P f vals.toArray w λx w'=> ∃b c,x= .returned (.slice (some ⟨b,0,none⟩) es.length c)/\w.heap.size<=b/\b< w'.heap.size/\es.length<=c/\c<=maxLen/\(∃cs,w'.heap[b]?=some (.cells cs ty (0,0))/\RVess (λx=>M x\/x=b) (λ_=>none) w' b sz es 0/\c* sz<=cs.size)/\Below w.heap.size w w'
structure Upd where
 val:AV
 blk:List (Nat×Option ABlk)
def iM(hp:Hq):List (Nat×Option ABlk)->Nat->Option ABlk
 |[]=>hp
 |(i,x)::l=>iM (upd hp i x) l
def ofV:Value->AV
 | .slice none 0 0=> .emp
 |x=> .v x
def HU:AV->AV
 | .emp=> .arr []
 |a=>a
def coe:AV->AV
 | .emp=> .arr []
 | .agg cs=> .agg (cs.map HU)
 | .tup cs=> .tup (cs.map HU)
 |a=>a
def AV.one:AV->Bool
 | .agg _| .tup _| .any=>false
 | .v x=>x.oneCell'
 |_=>true
def AV.cells:AV->Option La
 | .agg cs=>some cs
 | .tup _| .any=>none
 | .v (.agg _)| .v (.tuple _)=>none
 |a=>some [a]
def evs(ev:Operand->Option AV):List Operand->Option La
 |[]=>some []
 |x::xs=>match ev x,evs ev xs with
  |some a,some as=>some (a::as)
  |_,_=>none
def An(place:Bq)(cs:La):List (Nat×AV)->Option La
 |[]=>some cs
 |(i,a)::rest=>
  match place i,a.cells with
  |some (off,size),some vs=>if vs.length=size/\off+vs.length<=cs.length then An place (eR cs off vs) rest else none
  |_,_=>none
section
variable {M:Nat->Prop}{β:Bq}{w:World}
theorem F2(x:Value):RV M β w (ofV x) x:=by
 unfold ofV;split;exact⟨none,rfl⟩;rfl
theorem sx:∀xs:List Value,RVs M β w (xs.map ofV) xs
 |[]=>rfl
 |x::xs=>⟨x,xs,rfl,F2 x,sx xs⟩
theorem xb(h:RV M β w .emp y):RV M β w (.arr []) y:=by
 obtain⟨a,rfl⟩:=h;exact⟨a,0,rfl,Nat.le_refl _,φ,.inl rfl⟩
theorem rv_coe1{c:AV}(h:RV M β w c y):RV M β w (HU c) y:=by
 unfold HU;split;exact xb h;exact h
theorem tG:∀{cs:La} {ys:List Value},RVs M β w cs ys->RVs M β w (cs.map HU) ys
 |[],_,h=>h
 |_::_,_,⟨x,xs,e,h1,h2⟩=>⟨x,xs,e,rv_coe1 h1,tG h2⟩
theorem F3(h:RV M β w a y):RV M β w (coe a) y:=by
 unfold coe;split;exact xb h;obtain⟨xs,rfl,h⟩:=h;exact⟨xs,rfl,tG h⟩;obtain⟨xs,rfl,h⟩:=h;exact⟨xs,rfl,tG h⟩;exact h
theorem iy:∀{cs:La} {ys:List Value},RVs M β w cs ys->RVs M β w (cs.map coe) ys
 |[],_,h=>h
 |_::_,_,⟨x,xs,e,h1,h2⟩=>⟨x,xs,e,F3 h1,iy h2⟩
theorem ph{cs:La}(h:RV M β w a y)(hc:a.cells=some cs):RVs M β w cs y.cells.toList:=by
 have one:∀{a:AV} {y:Value},RV M β w a y->y.cells= #[y]->RVs M β w [a] y.cells.toList:=λh e=>by rw[e];exact⟨_,_,rfl,h,rfl⟩
 cases a with
 |agg ds=>simp only[AV.cells,Option.some.injEq] at hc;subst hc;obtain⟨xs,rfl,h⟩:=h;exact h
 |tup ds=>simp[AV.cells] at hc
 |any=>simp[AV.cells] at hc
 |v x=>
  cases (h:y=x);cases y <;> simp only[AV.cells,Option.some.injEq,reduceCtorEq] at hc <;>(subst hc;exact⟨_,_,rfl,rfl,rfl⟩)
 |emp=>simp only[AV.cells,Option.some.injEq] at hc;subst hc;exact one h (by obtain⟨a,rfl⟩:=h;rfl)
 |arr es=>simp only[AV.cells,Option.some.injEq] at hc;subst hc;exact one h (by obtain⟨a,c,rfl,_⟩:=h;rfl)
 |aptr es i o=>simp only[AV.cells,Option.some.injEq] at hc;subst hc;exact one h (by obtain⟨_,b,off,s,rfl,_⟩:=h;rfl)
 |lptr id i o=>simp only[AV.cells,Option.some.injEq] at hc;subst hc;exact one h (by obtain⟨b,s,_,rfl⟩:=h;rfl)
 |lsl id i n cap sz=>simp only[AV.cells,Option.some.injEq] at hc;subst hc;exact one h (by obtain⟨b,c,_,rfl,_⟩:=h;rfl)
 |clos f fst cap=>simp only[AV.cells,Option.some.injEq] at hc;subst hc;exact one h (by obtain⟨xs,ys,rfl,_⟩:=h;rfl)
 |mp ks vs=>simp only[AV.cells,Option.some.injEq] at hc;subst hc;exact one h (by obtain⟨r,ens,ck,rfl,_⟩:=h;rfl)
 |lmp id=>simp only[AV.cells,Option.some.injEq] at hc;subst hc;exact one h (by obtain⟨r,_,rfl⟩:=h;rfl)
theorem F1(h:RV M β w a y)(hc:a.one=true):y.oneCell'=true:=by
 cases a with
 |agg ds=>simp[AV.one] at hc
 |tup ds=>simp[AV.one] at hc
 |any=>simp[AV.one] at hc
 |v x=>cases (h:y=x);exact hc
 |emp=>obtain⟨a,rfl⟩:=h;rfl
 |arr es=>obtain⟨a,c,rfl,_⟩:=h;rfl
 |aptr es i o=>obtain⟨_,b,off,s,rfl,_⟩:=h;rfl
 |lptr id i o=>obtain⟨b,s,_,rfl⟩:=h;rfl
 |lsl id i n cap sz=>obtain⟨b,c,_,rfl,_⟩:=h;rfl
 |clos f fst cap=>obtain⟨xs,ys,rfl,_⟩:=h;rfl
 |mp ks vs=>obtain⟨r,ens,ck,rfl,_⟩:=h;rfl
 |lmp id=>obtain⟨r,_,rfl⟩:=h;rfl
theorem xa:∀{cs:La} {ys:List Value},RVs M β w cs ys->cs.all AV.one=true->∀y∈ys,y.oneCell'=true
 |[],ys,h,_,y,hy=>by cases (h:ys=[]);grind
 |c::cs,ys,⟨x,xs,e,h1,h2⟩,ha,y,hy=>by
  subst e;simp only[List.all_cons,Bool.and_eq_true] at ha;rcases List.mem_cons.1 hy with rfl|hy
  exact F1 h1 ha.1;exact xa h2 ha.2 y hy
theorem C8:∀{cs:La} {ys:List Value} {i:Nat} {c:AV} {y:Value},RVs M β w cs ys->RV M β w c y->RVs M β w (cs.set i c) (ys.set i y)
 |[],ys,_,_,_,h,_=>by cases (h:ys=[]);exact rfl
 |c::cs,ys,0,_,_,⟨x,xs,e,_,h2⟩,h=>by subst e;exact⟨_,_,rfl,h,h2⟩
 |c::cs,ys,i+1,_,_,⟨x,xs,e,h1,h2⟩,h=>by subst e;exact⟨_,_,rfl,h1,C8 h2 h⟩
theorem vS{vs:La}:∀{xs:List Value} {cs:La} {ys:List Value} {off:Nat},RVs M β w cs ys->RVs M β w vs xs->RVs M β w (eR cs off vs) (eR ys off xs):=by
 induction vs with
 |nil=>intro xs cs ys off h h';cases (h':xs=[]);exact h
 |cons v vs ih=>rintro xs cs ys off h ⟨x,xs',rfl,h1,h2⟩;exact ih (C8 h h1) h2
theorem iV{ev:Operand->Option AV}{ρ:Operand->Value}(hev:∀x a,ev x=some a->RV M β w a (ρ x)):∀{xs:List Operand} {as:La},evs ev xs=some as->RVs M β w as (xs.map ρ)
 |[],as,h=>by simp only[evs,Option.some.injEq] at h;subst h;exact rfl
 |x::xs,as,h=>by
  simp only[evs] at h;split at h
  ·rename_i a as' h1 h2
   simp only[Option.some.injEq] at h;subst h;exact⟨_,_,rfl,hev x a h1,iV hev h2⟩
  cases h
theorem wu{ev ev':Operand->Option AV}:∀{xs:List Operand},(∀x∈xs,ev' x=ev x)->evs ev' xs=evs ev xs
 |[],_=>rfl
 |x::xs,h=>by simp only[evs,h x (List.mem_cons_self ..),wu λy hy=>h y (List.mem_cons_of_mem _ hy)]
theorem mH:∀(vs:List Value) (cs:Array Value) (off j:Nat),((vs.zipIdx j).foldl (λcs (c,j)=>cs.setIfInBounds (off+j) c) cs).toList=eR cs.toList (off+j) vs
 |[],_,_,_=>rfl
 |v::vs,cs,off,j=>by
  simp only[List.zipIdx_cons,List.foldl_cons,eR];rw[mH vs _ off (j+1)];grind
theorem DT{place:Bq}:∀{ps:List (Nat×AV)} {qs:List (Nat×Value)} {cs ds:La} {xs:Array Value},
    (ps.map (·.1)=qs.map (·.1)/\RVs M β w (ps.map (·.2)) (qs.map (·.2)))->RVs M β w cs xs.toList->An place cs ps=some ds->∃ys,Instr.fill place xs qs=some ys/\RVs M β w ds ys.toList
 |[],qs,cs,ds,xs,⟨h1,h2⟩,hc,h=>by
  simp only[An,Option.some.injEq] at h;subst h;cases qs with
  |nil=>exact⟨xs,rfl,hc⟩
  |cons q qs=>grind
 |(i,a)::ps,qs,cs,ds,xs,⟨h1,h2⟩,hc,h=>by
  cases qs with
  |nil=>grind
  |cons q qs=>
   simp only[List.map_cons,List.cons.injEq] at h1;obtain⟨rfl,h1⟩:=h1;obtain⟨x',xs',e,h3,h4⟩:=h2;obtain⟨rfl,rfl⟩:=List.cons.inj e;simp only[An] at h;split at h
   ·rename_i off size vs hp hv
    split at h
    ·have hvs:=ph h3 hv
     have hl:=hvs.length;have hl2:=hc.length;simp only[Instr.fill,hp];rw[if_neg φ];refine DT ⟨h1,h4⟩ ?_ h;rw[<-Array.foldl_toList,Array.toList_zipIdx,mH];exact vS hc hvs
    cases h
   cases h
end
end
def Flat(M:Nat->Prop)(β:Bq)(w:World)(s:Nat)(es:Lc)(xs:List Value):Prop:=
 xs.length=es.length* s/\∀k e,es[k]?=some e->∃ys,RVs M β w e ys/\e.length=s/\∀j v,ys[j]?=some v->xs[k* s+j]?=some v
section
variable {M:Nat->Prop}{β:Bq}{w:World}{s:Nat}
theorem Flat.nil:Flat M β w s [] []:=⟨ψ,λk e h=>by grind⟩
theorem Flat.cons{e:La}{es:Lc}{ys xs:List Value}(h1:RVs M β w e ys)(h2:e.length=s)(h:Flat M β w s es xs):Flat M β w s (e::es) (ys++xs):=by
 have hl:=h1.length;refine⟨by simp[h.1,Nat.add_mul];omega,λk e' he=>?_⟩;cases k with
 |zero=>
  grind
 |succ k=>
  obtain⟨zs,r1,r2,r3⟩:=h.2 k e' he;grind
theorem Flat.append{fs:Lc}{ys:List Value}(h':Flat M β w s fs ys):∀{es:Lc} {xs:List Value},Flat M β w s es xs->Flat M β w s (es++fs) (xs++ys):=by
 intro es xs h;refine⟨by simp[h.1,h'.1,Nat.add_mul],λk e he=>?_⟩;by_cases hk:k< es.length;rw[List.getElem?_append_left hk] at he;obtain⟨zs,r1,r2,r3⟩:=h.2 k e he;refine⟨zs,r1,r2,λj v hj=>?_⟩;have hlt:=(List.getElem?_eq_some_iff.1 (r3 j v hj)).1;rw[List.getElem?_append_left hlt];exact r3 j v hj;rw[List.getElem?_append_right ω] at he;obtain⟨zs,r1,r2,r3⟩:=h'.2 _ e he;refine⟨zs,r1,r2,λj v hj=>?_⟩;have hmul:k* s=es.length* s+(k- es.length) * s:=by rw[<-Nat.add_mul];grind
 rw[List.getElem?_append_right (by rw[h.1];omega),show k* s+j- xs.length=(k- es.length) * s+j by rw[h.1];omega];grind
theorem RVess.flat{b:Nat}:∀{es:Lc} {off:Nat},RVess M β w b s es off->∃xs,Flat M β w s es xs/\∀j v,xs[j]?=some v->w.cell? ⟨b,off+j,none⟩=some v
 |[],_,_=>⟨[],.nil,λj v h=>by grind⟩
 |e::es,off,⟨h0,h1,h2⟩=>by
  obtain⟨ys,r1,r2⟩:=h1.vals;obtain⟨xs,r3,r4⟩:=RVess.flat h2;have hl:=r1.length;exact⟨ys++xs,.cons r1 h0 r3,λj v hj=>(φ)⟩
theorem Flat.take{es:Lc}{xs:List Value}(h:Flat M β w s es xs)(n:Nat):Flat M β w s (es.take n) (xs.take ((es.take n).length* s)):=by
 have hle:(es.take n).length* s<=xs.length:=by rw[h.1];exact Nat.mul_le_mul_right _ φ
 refine⟨φ,λk e he=>?_⟩;have hk:k< (es.take n).length:=(List.getElem?_eq_some_iff.1 he).1;rw[List.getElem?_take] at he;split at he;obtain⟨zs,r1,r2,r3⟩:=h.2 k e he;refine⟨zs,r1,r2,λj v hj=>?_⟩;have hjl:j< s:=by have:=(List.getElem?_eq_some_iff.1 hj).1;rw[r1.length] at this;grind
 have hmul:(k+1) * s<=(es.take n).length* s:=Nat.mul_le_mul_right _ hk;rw[Nat.add_mul] at hmul;rw[List.getElem?_take,if_pos ω];exact r3 j v hj;grind
theorem Flat.stab{M':Nat->Prop}{β':Bq}{w':World}(st:StabC M M' β β' w w'){es:Lc}{xs:List Value}(h:Flat M β w s es xs):Flat M' β' w' s es xs:=
 ⟨h.1,λk e he=>let ⟨ys,r1,r2,r3⟩:=h.2 k e he;⟨ys,st.vs r1,r2,r3⟩⟩
end
inductive SrcOf (hp:Hq)(s:Nat):AV->Lc->Ln->Prop
 |arr {es}:(∀e∈es,e.length=s)->SrcOf hp s (.arr es) es []
 |lsl {i e n cap B}:dw hp i=some B->e+n<=B.es.length->SrcOf hp s (.lsl i e n cap s) ((B.es.drop e).take n) [i]
 |emp:SrcOf hp s .emp [] []
 |vnil {a c}:SrcOf hp s (.v (.slice a 0 c)) [] []
theorem SrcOf.congr{hp hp':Hq}{s:Nat}{a:AV}{es:Lc}{rd:Ln}(h:SrcOf hp s a es rd)(h2:∀i∈rd,hp' i=hp i):SrcOf hp' s a es rd:=by
 cases h with
 |arr h=>exact .arr h
 |lsl h hn=>exact .lsl ((eS (h2 _ ψ)).trans h) hn
 |emp=>exact .emp
 |vnil=>exact .vnil
section
variable {M0:Nat->Prop}{w0:Base}{w:World}{β:Bq}{hp:Hq}{P:Program}{s:Nat}
theorem SrcOf.run{a:AV}{es:Lc}{rd:Ln}{y:Value}(h:SrcOf hp s a es rd)(mem:Mem M0 w0 β hp w)(hy:RV (MM M0 β hp) β w a y):
    ∃xs c,Flat (MM M0 β hp) β w s es xs/\(∃a',y= .slice a' es.length c)/\es.length<=c/\∀k,k<=es.length->∀w':World,w'.heap=w.heap->(Builtin.firstCells s k y).run P w'= .ok (xs.take (k* s)).toArray w':=by
 cases h with
 | @arr es h=>
  obtain⟨a',c,rfl,h1,h2,h3⟩:=hy;rcases h3 with rfl|⟨b,off,s',rfl,⟨N,hN⟩,hm,hr⟩
  refine⟨[],c,.nil,⟨_,rfl⟩,h1,λk hk w' hw=>?_⟩;have hk0:k=0:=φ
  subst hk0;cases a' with
  |none=>simp[Builtin.firstCells]
  |some ad=>simp[Builtin.firstCells,loadCells,loadCellsFrom]
  cases es with
  |nil=>
   refine⟨[],c,.nil,⟨_,rfl⟩,h1,λk hk w' hw=>?_⟩;have hk0:k=0:=φ
   subst hk0;simp[Builtin.firstCells,loadCells,loadCellsFrom]
  |cons e es=>
   have hs:s'=s:=by rw[<-h e (List.mem_cons_self ..)];exact hr.1.symm
   subst hs;obtain⟨xs,r1,r2⟩:=hr.flat;refine⟨xs,c,r1,⟨_,rfl⟩,h1,λk hk w' hw=>?_⟩
   have hl:=run_loadCells_list (P:=P) w' ⟨b,off,none⟩ (xs.take (k* s')) (λj v hv=>by
    rw[jM,cell?_congr (w:=w) (w':=w') (by rw[hw])];grind)
   have:(xs.take (k* s')).length=k* s':=by
    rw[List.length_take,r1.1];simp_all
   rw[this] at hl;simpa[Builtin.firstCells] using hl
 | @lsl i e n cap B h hn=>
  obtain⟨b,c,hb,rfl,h1,h2,h3,_⟩:=hy;obtain⟨b',cs,hb',hh,hr,hsz⟩:=mem.cellsF h;rw[hb] at hb';cases hb';have hr':=(hr.drop e).take n;obtain⟨xs,r1,r2⟩:=hr'.flat;have hlen:((B.es.drop e).take n).length=n:=χ
  refine⟨xs,c,r1,⟨some ⟨b,e* B.sz,none⟩,by rw[hlen]⟩,by rw[hlen];exact h1,λk hk w' hw=>?_⟩
  have hl:=run_loadCells_list (P:=P) w' ⟨b,e* B.sz,none⟩ (xs.take (k* B.sz)) (λj v hv=>by
   rw[jM,cell?_congr (w:=w) (w':=w') (by rw[hw])];rw[List.getElem?_take] at hv;split at hv;have:=r2 j v hv;simpa using this;cases hv)
  have:(xs.take (k* B.sz)).length=k* B.sz:=by
   rw[List.length_take,r1.1];exact Nat.min_eq_left (Nat.mul_le_mul_right _ hk)
  rw[this] at hl;simpa[Builtin.firstCells] using hl
 | @vnil a' c=>
  cases (hy:y=_);refine⟨[],c,.nil,⟨a',rfl⟩,Nat.zero_le _,λk hk w' hw=>?_⟩;have hk0:k=0:=by simpa using hk
  subst hk0;cases a' with
  |none=>simp[Builtin.firstCells]
  |some ad=>simp[Builtin.firstCells,loadCells,loadCellsFrom]
 |emp=>
  obtain⟨a',rfl⟩:=hy;refine⟨[],0,.nil,⟨a',rfl⟩,Nat.le_refl _,λk hk w' hw=>?_⟩;have hk0:k=0:=by simpa using hk
  subst hk0;cases a' with
  |none=>simp[Builtin.firstCells]
  |some ad=>simp[Builtin.firstCells,loadCells,loadCellsFrom]
theorem Mem.rename(h:Mem M0 w0 β hp w){i id:Nat}{B:ABlk}{b s:Nat}(hi:hp i=some B)(hb:β i=some (b,s))(hid0:id≠0)(hid:β id=none)(hidh:hp id=none):
    Mem M0 w0 (upd β id (some (b,s))) (upd (upd hp i none) id (some B)) w/\Stab (MM M0 β hp) (MM M0 (upd β id (some (b,s))) (upd (upd hp i none) id (some B))) β (upd β id (some (b,s))) w w:=by
 have hne:i≠id:=λe=>by grind
 have hbe:∀j x,β j=some x->upd β id (some (b,s)) j=some x:=λj x hj=>by
  rw[br];exact hj;grind
 have hmm:∀c,MM M0 (upd β id (some (b,s))) (upd (upd hp i none) id (some B)) c->MM M0 β hp c:=by
  rintro c (hc|⟨j,B',s',h1,h2⟩);exact .inl hc;by_cases hj:j=id;subst hj;rw[bn] at h1 h2;cases h2;exact .inr ⟨i,B,s,hi,hb⟩;rw[br _ _ hj] at h1 h2;by_cases hji:j=i;subst hji;rw[bn] at h1;cases h1;rw[br _ _ hji] at h1;exact .inr ⟨j,B',s',h1,h2⟩
 have st:Stab (MM M0 β hp) (MM M0 (upd β id (some (b,s))) (upd (upd hp i none) id (some B))) β (upd β id (some (b,s))) w w:=
  ⟨⟨λ_ _ _ _=>rfl,λc _ _ hc=>hmm c hc,hbe,λ_ _ h=>h⟩,λ_ _ _=>rfl⟩
 refine⟨⟨h.below,h.m0,λj c s' hj=>?_,λh0=>(br _ _ (Ne.symm hid0)).trans (h.pin (by rw[br _ _ (Ne.symm hid0)] at h0;by_cases h00:0=i;(grind);rw[br _ _ h00] at h0;grind)),λj B' hj=>?_,λj k B1 B2 c s1 s2 h1 h2 h3 h4=>?_⟩,st⟩;by_cases hji:j=id;subst hji;rw[bn] at hj;cases hj;exact h.rng i b s hb;rw[br _ _ hji] at hj;exact h.rng j c s' hj;by_cases hji:j=id;subst hji;rw[bn] at hj;cases hj;obtain⟨b',r1,r2⟩:=h.blk i B hi;rw[hb] at r1;cases r1;exact⟨b,bn _ _ _,r2.stab st.toStabC rfl⟩;rw[br _ _ hji] at hj;by_cases hj2:j=i;subst hj2;rw[bn] at hj;cases hj;rw[br _ _ hj2] at hj;obtain⟨b',r1,r2⟩:=h.blk j B' hj;exact⟨b',hbe _ _ r1,r2.stab st.toStabC rfl⟩
 have key:∀j B1 c s1,upd (upd hp i none) id (some B) j=some B1->upd β id (some (b,s)) j=some (c,s1)->∃j',(j=id->j'=i)/\(j≠id->j'=j/\j≠i)/\(∃B',hp j'=some B')/\β j'=some (c,s1):=by
  intro j B1 c s1 h1 h3;by_cases hj:j=id;subst hj;rw[bn] at h3;cases h3;exact⟨i,λ_=>rfl,λhn=>absurd rfl hn,⟨B,hi⟩,hb⟩;rw[br _ _ hj] at h1 h3;by_cases hji:j=i;subst hji;rw[bn] at h1;cases h1;rw[br _ _ hji] at h1;grind
 obtain⟨j',a1,a2,⟨_,a3⟩,a4⟩:=key j B1 c s1 h1 h3;obtain⟨k',b1,b2,⟨_,b3⟩,b4⟩:=key k B2 c s2 h2 h4;have e:=h.inj j' k' _ _ c s1 s2 a3 b3 a4 b4;grind
end
end Go.Abs
