/- Part Y01 of the proof. -/
import Derived.WalkKit
import Derived.Lib.LaidTab
import Derived.Lib.ItoaNum
set_option linter.all false
def eT:=@List.getElem?_eq_getElem
def fo:=@Nat.le_trans
def ir:=@Nat.le_refl
def jH:=@List.getD_eq_getElem?_getD
def jY:=@List.getElem?_eq_some_iff
def kI:=@List.mem_singleton
def lQ:=@List.mem_cons_of_mem
def mc:=@List.mem_of_getElem?
def mu:=@List.mem_cons_self
def mC:=@Nat.mul_le_mul_right
def mN:=@Nat.zero_le
def nk:=@List.take_of_length_le
def ns:=@Nat.lt_of_lt_of_le
def nB:=@List.length_pos_iff
def n7:=@List.mem_append
def oj:=@Array.getD_eq_getD_getElem?
def pY:=@List.mem_cons
def pZ:=@List.all_eq_true
def qj:=@List.take_length
def r9:=@Nat.le_of_ble_eq_true
def sd:=@List.mem_map
def sj:=@Bool.and_eq_true
def sk:=@Array.getElem?_eq_some_iff
def sr:=@List.drop_zero
def sO:=@Nat.mul_le_mul_left
def tE:=@List.mem_append_left
def vc:=@Rat.mul_le_mul_of_nonneg_left
def vd:=@Option.bind_eq_some_iff
def vi:=@Nat.pow_le_pow_right
def vj:=@Nat.mul_le_mul
def vv:=@List.length_eq_zero_iff
def vX:=@List.length_cons
def vY:=@Nat.zero_add
def wS:=@List.getElem?_map
def xa:=@Option.isSome_iff_exists
def xb:=@List.length_singleton
def xd:=@List.mem_range
def xg:=@List.getElem?_cons_zero
def xi:=@List.eq_nil_of_length_eq_zero
def yv:=@List.length_take
def y2:=@Int.natAbs_natCast
def y4:=@Rat.mul_eq_zero
def zf:=@Rat.mul_le_mul_of_nonneg_right
def zo:=@List.map_cons
def zp:=@Rat.div_mul_cancel
def zq:=@List.length_append
def zr:=@Array.getElem?_append_left
def zt:=@List.getElem?_eq_none
def zu:=@Nat.add_mul
def zv:=@Classical.byContradiction
def zK:=@Array.length_toList
def zL:=@Option.bind_some
def zM:=@Nat.mul_add
def zW:=@Nat.eq_zero_or_pos
def Aa:=@List.getElem?_set
def AD:=@Array.ext'
def AG:=@List.mem_of_mem_take
def A6:=@List.getElem?_cons_succ
def Bg:=@List.getElem?_append_left
def DA:=@List.drop_eq_getElem_cons
def DB:=@Nat.div_lt_iff_lt_mul
def DE:=@List.ext_getElem?
def DH:=@Int.toNat_natCast
def DJ:=@List.drop_length
def DS:=@Option.map_some
def D2:=@List.getElem?_append_right
def D7:=@Nat.pow_succ
def Ed:=@Nat.lt_succ_self
def Ee:=@List.getElem?_toArray
def Eg:=@Nat.mul_comm
def Eh:=@Array.mem_toList_iff
def Ey:=@List.length_map
def Ez:=@Nat.le_of_not_lt
def EA:=@Int.natCast_mul
def EB:=@Nat.mul_assoc
def EC:=@Nat.mod_lt
def ED:=@Rat.mul_pos
def EE:=@Rat.mul_nonneg
def E9:=@List.nodup_nil
def Fe:=@List.length_nil
def Fw:=@Nat.div_eq_of_lt
def Fz:=@Nat.mod_eq_of_lt
def FH:=@List.getElem_mem
def FI:=@List.range_succ
def Gu:=@List.dropLast_concat_getLast
def G9:=@Nat.lt_of_le_of_lt
def Ha:=@Bool.false_eq_true
def Hc:=@List.mem_of_mem_drop
def JP:=@Bool.or_eq_false_iff
def JQ:=@Nat.add_assoc
def JR:=@Nat.zero_mul
def Kk:=@Nat.one_mul
def KM:=@Nat.min_eq_left
def KN:=@Array.mapM_eq_mapM_toList
def KO:=@List.take_append_drop
def LJ:=@List.cons_append
def LK:=@Rat.div_def
def LM:=@List.pairwise_append
def MS:=@List.getElem?_replicate
def MT:=@List.append_assoc
def MU:=@Bool.not_eq_true'
def MV:=@Rat.num_eq_zero
def MW:=@Nat.mod_add_div
def MX:=@Nat.div_add_mod
def MY:=@List.getElem?_range
def MZ:=@Rat.zero_mul
def M5:=@Option.map_eq_some_iff
def M6:=@Nat.add_zero
def M7:=@Nat.mul_pos
def M8:=@Option.getD_some
def M9:=@List.map_toArray
def Na:=@List.getElem?_take
def Nb:=@Nat.eq_of_beq_eq_true
def Nc:=@Decidable.byContradiction
def Nd:=@Nat.le_add_left
def Nf:=@List.nil_append
def Ng:=@List.append_nil
def Nh:=@Rat.pow_zero
def Ni:=@Nat.succ_mul
def Nj:=@Nat.sub_self
def Nk:=@Nat.le_one_iff_eq_zero_or_eq_one
def Nl:=@List.reverse_reverse
def Nm:=@List.map_nil
def Nn:=@List.map_congr_left
def No:=@Iff.rfl
def Np:=@Nat.lt_of_not_le
def Nq:=@Int.natCast_ediv
def Nr:=@Rat.pow_succ
def Ns:=@Nat.le_of_lt
def Nt:=@Rat.intCast_mul
def Nu:=@Bool.or_eq_true
def Nv:=@Bool.eq_iff_iff
def Nw:=@List.set_append_right
def Ny:=@List.getElem?_reverse
def Nz:=@Ne.symm
def NA:=@Option.ne_none_iff_exists'
def NB:=@Nat.pow_pos
def NC:=@List.range_eq_range'
def ND:=@List.getElem?_set_ne
def NE:=@List.getElem?_of_mem
def NF:=@Int.tmod_eq_emod_of_nonneg
def NG:=@Int.tdiv_eq_ediv_of_nonneg
def NH:=@Nat.lt_of_mul_lt_mul_left
def NI:=@List.mem_or_eq_of_mem_set
def NJ:=@Array.getElem?_eq_getElem
def NK:=@Nat.gcd_pos_of_pos_right
def NL:=@Rat.intCast_inj
def NM:=@Nat.div_lt_self
def NN:=@List.nodup_cons
def NO:=@Array.foldl_toList
def NP:=@Nat.mul_div_cancel_left
def NQ:=@Nat.mul_left_comm
def NR:=@Nat.le_of_eq
def NS:=@Nat.le_mul_of_pos_left
def NT:=@List.take_add_one
def NU:=@List.size_toArray
def NV:=@Int.natAbs_mul
def NW:=@Array.getElem?_toList
def NX:=@Nat.le_max_right
def NY:=@Nat.gcd_le_right
def NZ:=@List.not_mem_nil
def N2:=@List.mem_reverse
def N3:=@Nat.pow_add
def N4:=@Nat.add_mul_div_left
def N5:=@Int.le_refl
def N6:=@Nat.one_ne_zero
def N7:=@List.map_append
def N8:=@Array.getElem?_setIfInBounds
def N9:=@List.take_succ_cons
def Oa:=@List.mem_map_of_mem
def Ob:=@List.length_reverse
def Oc:=@Nat.sub_zero
def Od:=@Nat.mul_lt_mul_of_pos_right
def Oe:=@Nat.gcd_comm
def Of:=@Nat.beq_refl
def Og:=@Nat.one_le_two_pow
def Oh:=@Nat.lt_of_le_of_ne
def Oi:=@List.zip_cons_cons
def Oj:=@List.map_singleton
def Ol:=@Int.natAbs_neg
def Om:=@Bool.not_false
def On:=@Nat.add_mul_mod_self_left
def Oo:=@List.mem_of_find?_eq_some
def Oq:=@List.reverse_cons
def Ot:=@List.foldl_append
def Ou:=@Array.size_append
def Ov:=@List.eq_of_mem_replicate
def Ow:=@List.Pairwise.imp_of_mem
def Ox:=@Nat.succ_le_succ
def Oy:=@Nat.div_div_eq_div_mul
def Oz:=@List.map_map
def OA:=@Nat.le_max_left
def OB:=@Nat.le_antisymm
def OC:=@List.foldl_cons
def OD:=@Nat.le_div_iff_mul_le
def OE:=@Nat.ble_eq_true_of_le
def OF:=@List.mem_iff_getElem?
def OG:=@List.length_replicate
def OH:=@Bool.and_eq_false_iff
def OI:=@Rat.mkRat_self
def OJ:=@Nat.mul_div_le
def OK:=@Nat.div_one
def OL:=@List.replicate_succ'
def OM:=@Int.mul_nonneg
def ON:=@Nat.lt_mul_div_succ
def OO:=@Nat.div_mul_le_self
def OP:=@Nat.div_le_div_left
def OQ:=@List.replicate_succ
def OR:=@Nat.dvd_trans
def OS:=@Rat.num_divInt_den
def OT:=@Nat.max_le
def OU:=@List.getElem?_drop
def OV:=@List.find?_eq_none
def OW:=@List.map_set
def OX:=@List.any_eq_false
def OY:=@List.all_map
def OZ:=@Classical.not_not
def O0:=@Bool.or_true
def O1:=@Rat.mkRat_eq_iff
def O2:=@Rat.intCast_zero
def O3:=@Rat.divInt_ofNat
def O4:=@Nat.gcd_dvd_left
def O5:=@Int.ediv_le_self
def O6:=@Rat.one_mul
def O7:=@Rat.neg_num
def O8:=@Rat.neg_den
def O9:=@Int.mul_add
def Pa:=@Rat.intCast_sub
def Pb:=@Nat.zero_lt_one
def Pc:=@Nat.mul_add_mod
def Pd:=@List.mem_filter
def Pe:=@List.length_set
def Pf:=@Int.natCast_add
def Pg:=@Int.ediv_nonneg
def Ph:=@List.drop_drop
def Pi:=@Rat.floor_def
def Pj:=@Nat.le_of_dvd
def Pk:=@List.map_take
def Pm:=@List.all_cons
def Pn:=@Rat.mul_zero
def Po:=@Nat.lt_or_ge
def Pp:=@Nat.add_comm
def Pq:=@Nat.mul_one
def Pr:=@Nat.gcd_rec
def Ps:=@Int.neg_mul
def Pt:=@Int.mul_neg
theorem ω{p:Prop}(h:p:=by omega):p:=h
theorem δ{p:Prop}(h:p:=by decide):p:=h
theorem ψ{p:Prop}(h:p:=by simp):p:=h
theorem φ{p:Prop}(h:p:=by grind):p:=h
theorem χ{p:Prop}(h:p:=by simp;omega):p:=h
namespace Go.Abs
open Go.RowKit
def GT:Nat:=0
def tabA:Array Value:=(Lib.pow10Tab.map λz=>Value.int .u64 z).toArray
def TabW(w:World):Prop:=∃t z,w.heap[GT]?=some (.cells tabA t z)
theorem TabW.lt{w:World}(h:TabW w):GT< w.heap.size:=by
 obtain⟨t,z,h⟩:=h;exact(sk.1 h).1
theorem TabW.congr{w w':World}(h:TabW w)(e:w'.heap[GT]?=w.heap[GT]?):TabW w':=by
 obtain⟨t,z,h⟩:=h;exact⟨t,z,e.trans h⟩
structure Fit (M:Nat->Prop)(w:World):Prop where
 lt:∀b,M b->b< w.heap.size
 nt:¬M GT
 tab:TabW w
theorem Fit.sub{M M':Nat->Prop}{w:World}(h:Fit M w)(hs:∀b,M' b->M b):Fit M' w:=⟨λb hb=>h.lt b (hs b hb),λhb=>h.nt (hs GT hb),h.tab⟩
inductive AV where
 |v (x:Value)
 |any
 |emp
 |arr (es:List (List AV))
 |aptr (es:List (List AV)) (i o:Nat)
 |lptr (id i o:Nat)
 |lsl (id i n:Nat) (cap:Option Nat) (sz:Nat)
 |agg (cs:List AV)
 |tup (cs:List AV)
 |clos (f:Nat) (fst cap:List AV)
 |mp (ks:List Value) (vs:List AV)
 |lmp (id:Nat)
abbrev Lq:=List Rat
abbrev Lw:=List Lq
abbrev Ln:=List Nat
abbrev La:=List AV
abbrev Lc:=List La
abbrev Bq:=Nat->Option (Nat×Nat)
def aY(w:World)(b:Nat):Option Nat:=
 match w.heap[b]? with
 |some (.cells cs _ _)=>some cs.size
 |some (.map _ _)=>some 0
 |_=>none
section
variable (M:Nat->Prop)(β:Bq)(w:World)
mutual
    def RV:AV->Value->Prop
    | .v x,y=>y=x
    | .any,_=>True
    | .emp,y=> ∃a,y= .slice a 0 0
    | .arr es,y=> ∃a c,y= .slice a es.length c/\es.length<=c/\c<=maxLen/\(es=[]\/∃b off s,a=some ⟨b,off,none⟩/\(∃N,aY w b=some N)/\¬M b/\RVess b s es off)
    | .aptr es i o,y=>i< es.length/\∃b off s,y= .pointer (some ⟨b,off+i* s+o,none⟩)/\(∃N,aY w b=some N)/\¬M b/\RVess b s es off
    | .lptr id i o,y=> ∃b s,β id=some (b,s)/\y= .pointer (some ⟨b,i* s+o,none⟩)
    | .lsl id i n cap sz,y=> ∃b c,β id=some (b,sz)/\y= .slice (some ⟨b,i* sz,none⟩) n c/\n<=c/\c<=maxLen/\(∀k,cap=some k->c=k)/\∃N,aY w b=some N/\(i+c) * sz<=N
    | .agg cs,y=> ∃xs,y= .agg xs/\RVs cs xs.toList
    | .tup cs,y=> ∃xs,y= .tuple xs/\RVs cs xs.toList
    | .clos f fst cap,y=> ∃xs ys,y= .func (.func f) xs ys/\RVs fst xs.toList/\RVs cap ys.toList
    | .lmp id,y=> ∃r,β id=some (r,0)/\y= .map (some r)
    | .mp ks vs,y=> ∃r ens ck,y= .map (some r)/\w.heap[r]?=some (.map ens ck)/\¬M r/\∃l:List MapEntry,l.Perm ens.toList/\l.map (·.key)=ks/\RVs vs (l.map (·.val))
 def RVess (b s:Nat):Lc->Nat->Prop
  |[],_=>True
  |e::es,off=>e.length=s/\RVcs b e off/\RVess b s es (off+s)
 def RVcs (b:Nat):La->Nat->Prop
  |[],_=>True
  |c::cs,off=>(∃x,w.cell? ⟨b,off,none⟩=some x/\RV c x)/\RVcs b cs (off+1)
 def RVs:La->List Value->Prop
  |[],ys=>ys=[]
  |c::cs,ys=> ∃x xs,ys=x::xs/\RV c x/\RVs cs xs
end
end
structure StabC (M M':Nat->Prop)(β β':Bq)(w w':World):Prop where
 heap:∀b N,aY w b=some N->¬M b->w'.heap[b]?=w.heap[b]?
 m:∀b N,aY w b=some N->M' b->M b
 be:∀i x,β i=some x->β' i=some x
 sz:∀b n,aY w b=some n->aY w' b=some n
structure Stab (M M':Nat->Prop)(β β':Bq)(w w':World):Prop extends StabC M M' β β' w w' where
 oth:∀b,b< w.heap.size->aY w b=none->w'.heap[b]?=w.heap[b]?
theorem cell?_congr{w w':World}{b:Nat}(h:w'.heap[b]?=w.heap[b]?)(o:Nat):w'.cell? ⟨b,o,none⟩=w.cell? ⟨b,o,none⟩:=by
 simp only[World.cell?,h]
section
variable {M M':Nat->Prop}{β β':Bq}{w w':World}
theorem Stab.refl:Stab M M β β w w:=⟨⟨λ_ _ _ _=>rfl,λ_ _ _ h=>h,λ_ _ h=>h,λ_ _ h=>h⟩,λ_ _ _=>rfl⟩
theorem StabC.both(h:StabC M M' β β' w w'):
    (∀a y,RV M β w a y->RV M' β' w' a y)/\
    (∀es b s off,w'.heap[b]?=w.heap[b]?->RVess M β w b s es off->RVess M' β' w' b s es off)/\
    (∀cs,(∀b off,w'.heap[b]?=w.heap[b]?->RVcs M β w b cs off->RVcs M' β' w' b cs off)/\(∀ys,RVs M β w cs ys->RVs M' β' w' cs ys)):=by
 let m1:AV->Prop:=λa=> ∀y,RV M β w a y->RV M' β' w' a y
 let m2:Lc->Prop:=λes=> ∀b s off,w'.heap[b]?=w.heap[b]?->RVess M β w b s es off->RVess M' β' w' b s es off
 let m3:La->Prop:=λcs=>(∀b off,w'.heap[b]?=w.heap[b]?->RVcs M β w b cs off->RVcs M' β' w' b cs off)/\(∀ys,RVs M β w cs ys->RVs M' β' w' cs ys)
 have hv:∀x,m1 (.v x):=λx y Z=>Z;have C:m1 .any:=λy _=>trivial;have t:m1 .emp:=λy Z=>Z
 have A:∀es,m2 es->m1 (.arr es):=by
  rintro es G y ⟨a,c,rfl,F,E,V⟩;refine⟨a,c,rfl,F,E,V.imp id ?_⟩;rintro⟨b,off,s,rfl,⟨N,hb⟩,R,he⟩;exact⟨b,off,s,rfl,⟨N,h.sz b N hb⟩,λH=>R (h.m b N hb H),G b s off (h.heap b N hb R) he⟩
 have g:∀es i o,m2 es->m1 (.aptr es i o):=by
  rintro es i o G y ⟨hi,b,off,s,rfl,⟨N,hb⟩,R,he⟩;exact⟨hi,b,off,s,rfl,⟨N,h.sz b N hb⟩,λH=>R (h.m b N hb H),G b s off (h.heap b N hb R) he⟩
 have j:∀id i o,m1 (.lptr id i o):=by rintro id i o y ⟨b,s,hb,rfl⟩;exact⟨b,s,h.be _ _ hb,rfl⟩
 have u:∀id i n p sz,m1 (.lsl id i n p sz):=by rintro id i n p sz y ⟨b,c,hb,rfl,F,E,V,N,W,X⟩;exact⟨b,c,h.be _ _ hb,rfl,F,E,V,N,h.sz _ _ W,X⟩
 have D:∀cs,m3 cs->m1 (.agg cs):=by rintro cs G y ⟨xs,rfl,K⟩;exact⟨xs,rfl,G.2 _ K⟩
 have z:∀cs,m3 cs->m1 (.tup cs):=by rintro cs G y ⟨xs,rfl,K⟩;exact⟨xs,rfl,G.2 _ K⟩
 have d:∀f O p,m3 O->m3 p->m1 (.clos f O p):=by
  rintro f O p k q y ⟨xs,ys,rfl,F,E⟩;exact⟨xs,ys,rfl,k.2 _ F,q.2 _ E⟩
 have S:∀ks vs,m3 vs->m1 (.mp ks vs):=by
  rintro ks vs G y ⟨r,Y,ck,rfl,F,E,l,X,V,W⟩;have hs:aY w r=some 0:=by simp[aY,F]
  exact⟨r,Y,ck,rfl,by rw[h.heap r 0 hs E];grind,λR=>E (h.m r 0 hs R),l,X,V,G.2 _ W⟩
 have B:∀id,m1 (.lmp id):=by rintro id y ⟨r,hb,rfl⟩;exact⟨r,h.be _ _ hb,rfl⟩
 have Q:m2 []:=λ_ _ _ _ _=>trivial;have L:∀e es,m3 e->m2 es->m2 (e::es):=by rintro e es k q b s off U ⟨hl,hc,K⟩;exact⟨hl,k.1 b off U hc,q b s _ U K⟩
 have J:m3 []:=⟨λ_ _ _ _=>trivial,λ_ h=>h⟩
 have T:∀c cs,m1 c->m3 cs->m3 (c::cs):=by
  refine λc cs k q=>⟨?_,?_⟩;rintro b off U ⟨⟨x,hx,K⟩,hs⟩;exact⟨⟨x,by rw[cell?_congr U];exact hx,k _ K⟩,q.1 b _ U hs⟩;rintro ys ⟨x,xs,rfl,F,E⟩;exact⟨x,xs,rfl,k _ F,q.2 _ E⟩
 exact⟨λa=>AV.rec (motive_1:=m1) (motive_2:=m2) (motive_3:=m3) hv C t A g j u D z d S B Q L J T a,
  λes=>AV.rec_1 (motive_1:=m1) (motive_2:=m2) (motive_3:=m3) hv C t A g j u D z d S B Q L J T es,
  λcs=>AV.rec_2 (motive_1:=m1) (motive_2:=m2) (motive_3:=m3) hv C t A g j u D z d S B Q L J T cs⟩
theorem StabC.all(h:StabC M M' β β' w w'){a:AV}{y:Value}(hy:RV M β w a y):RV M' β' w' a y:=h.both.1 a y hy
theorem StabC.ess(h:StabC M M' β β' w w'){es:Lc}{b s off:Nat}(hh:w'.heap[b]?=w.heap[b]?)(hy:RVess M β w b s es off):RVess M' β' w' b s es off:=h.both.2.1 es b s off hh hy
theorem StabC.cs(h:StabC M M' β β' w w'){cs:La}{b off:Nat}(hh:w'.heap[b]?=w.heap[b]?)(hy:RVcs M β w b cs off):RVcs M' β' w' b cs off:=(h.both.2.2 cs).1 b off hh hy
theorem StabC.vs(h:StabC M M' β β' w w'){cs:La}{ys:List Value}(hy:RVs M β w cs ys):RVs M' β' w' cs ys:=(h.both.2.2 cs).2 ys hy
end
section
variable {i b s:Nat}{M:Nat->Prop}{α:Type}
structure ABlk where
 ty:Nat
 sz:Nat
 es:List (List AV)
abbrev Hq:=Nat->Option ABlk
def MM(M0:Nat->Prop)(β:Bq)(hp:Hq):Nat->Prop:=λb=>M0 b\/∃i B s,hp i=some B/\β i=some (b,s)
structure Base where
 w:World
 K:Nat->Prop
 lt:∀b,K b->b< w.heap.size
 pin:Option (Nat×Nat)
 gh:Nat->Value
 kt:K GT
 tab:TabW w
structure Base.Kept (w0:Base)(w:World):Prop where
 os:w.os=w0.w.os
 tape:w.tape=w0.w.tape
 output:w.output=w0.w.output
 size:w0.w.heap.size<=w.heap.size
 block:∀b,w0.K b->w.heap[b]?=w0.w.heap[b]?
 sizes:∀b n,aY w0.w b=some n->aY w b=some n
def RVkv(M:Nat->Prop)(β:Bq)(w:World):Lc->List MapEntry->Prop
 |[],es=>es=[]
 |x::xs,es=> ∃e es',es=e::es'/\RVs M β w x [e.key,e.val]/\RVkv M β w xs es'
def BlkAt(M:Nat->Prop)(β:Bq)(w:World)(b:Nat)(B:ABlk):Prop:=
 (B.sz≠0/\∃cs,w.heap[b]?=some (.cells cs B.ty (0,0))/\RVess M β w b B.sz B.es 0/\B.es.length* B.sz<=cs.size)\/
 (B.sz=0/\∃ens ck,w.heap[b]?=some (.map ens ck)/\RVkv M β w B.es ens.toList)
def dS(hp:Hq)(i:Nat):Option ABlk:=match hp i with|some B=>cond (Nat.beq B.sz 0) none (some B)|none=>none
theorem ea{hp:Hq}{B:ABlk}(h:dS hp i=some B):hp i=some B/\B.sz≠0:=by
 unfold dS at h;split at h
 ·rename_i a b
  cases hb:Nat.beq a.sz 0 with
  |true=>grind
  |false=>rw[hb] at h;cases h;exact⟨b,λe=>by simp_all⟩
 cases h
theorem ez{hp:Hq}{B:ABlk}(h:hp i=some B)(hz:B.sz≠0):dS hp i=some B:=by
 unfold dS
 have:Nat.beq B.sz 0=false:=by
  cases hb:Nat.beq B.sz 0 with
  |false=>rfl
  |true=>simp_all
 grind
theorem fE{hp hp':Hq}(h:hp' i=hp i):dS hp' i=dS hp i:=by unfold dS;rw[h]
theorem j0{n:Nat}(h:Nat.blt 0 n=true):n≠0:=λe=>by simp_all
structure Mem (M0:Nat->Prop)(w0:Base)(β:Bq)(hp:Hq)(w:World):Prop where
 below:w0.Kept w
 m0:∀b,M0 b->w0.K b/\b≠GT
 rng:∀i b s,β i=some (b,s)->¬w0.K b/\b< w.heap.size
 pin:(hp 0).isSome=true->β 0=w0.pin
 blk:∀i B,hp i=some B->∃b,β i=some (b,B.sz)/\BlkAt (MM M0 β hp) β w b B
 inj:∀i j B B' b s s',hp i=some B->hp j=some B'->β i=some (b,s)->β j=some (b,s')->i=j
section
variable {M0:Nat->Prop}{w0:Base}{w w':World}{β β':Bq}{hp hp':Hq}
theorem Mem.lt(h:Mem M0 w0 β hp w)(hb:MM M0 β hp b):b< w.heap.size:=by
 rcases hb with hb|⟨i,B,s,_,hb⟩
 exact ns (w0.lt b (h.m0 b hb).1) h.below.size;exact(h.rng i b s hb).2
theorem Mem.tab(h:Mem M0 w0 β hp w):TabW w:=w0.tab.congr (h.below.block GT w0.kt)
theorem Mem.nt(h:Mem M0 w0 β hp w):¬MM M0 β hp GT:=by
 rintro(hb|⟨i,B,s,_,hb⟩);exact(h.m0 GT hb).2 rfl;exact(h.rng i GT s hb).1 w0.kt
theorem Mem.gtn(h:Mem M0 w0 β hp w):∀i s,β i≠some (GT,s):=λi s a=>(h.rng i GT s a).1 w0.kt
theorem Base.Kept.tab{w0:Base}{w:World}(h:w0.Kept w):TabW w:=w0.tab.congr (h.block GT w0.kt)
theorem TabW.sz{w:World}(h:TabW w):aY w GT≠none:=by
 obtain⟨t,z,h⟩:=h;simp[aY,h]
theorem Mem.fit(h:Mem M0 w0 β hp w):Fit (MM M0 β hp) w:=⟨λ_=>h.lt,h.nt,h.tab⟩
theorem cy{n:Nat}(h:aY w b=some n):b< w.heap.size:=by
 unfold aY at h;grind
theorem eW(h:w'.heap[b]?=w.heap[b]?):aY w' b=aY w b:=by simp only[aY,h]
theorem StabC.kv{M':Nat->Prop}(st:StabC M M' β β' w w'):∀{es:Lc} {ens:List MapEntry},RVkv M β w es ens->RVkv M' β' w' es ens
 |[],_,h=>h
 |_::_,_,⟨e,es',h1,h2,h3⟩=>⟨e,es',h1,st.vs h2,st.kv h3⟩
theorem BlkAt.stab{M':Nat->Prop}{B:ABlk}(h:BlkAt M β w b B)(st:StabC M M' β β' w w')(hh:w'.heap[b]?=w.heap[b]?):BlkAt M' β' w' b B:=by
 rcases h with⟨a,cs,e,c,f⟩|⟨a,d,g,e,c⟩
 exact .inl ⟨a,cs,φ,st.ess hh c,f⟩;exact .inr ⟨a,d,g,φ,st.kv c⟩
theorem BlkAt.size{B:ABlk}(h:BlkAt M β w b B):∃N,aY w b=some N:=by
 rcases h with⟨_,cs,a,_⟩|⟨_,c,d,a,_⟩
 exact⟨cs.size,by simp[aY,a]⟩;exact⟨0,by simp[aY,a]⟩
theorem Mem.cells(h:Mem M0 w0 β hp w){B:ABlk}(hi:hp i=some B)(hz:B.sz≠0):∃b cs,β i=some (b,B.sz)/\w.heap[b]?=some (.cells cs B.ty (0,0))/\RVess (MM M0 β hp) β w b B.sz B.es 0/\B.es.length* B.sz<=cs.size:=by
 obtain⟨b,c,a⟩:=h.blk i B hi;rcases a with⟨_,cs,a⟩|⟨d,_⟩
 exact⟨b,cs,c,a⟩;grind
theorem Mem.cellsF(h:Mem M0 w0 β hp w){B:ABlk}(hi:dS hp i=some B):∃b cs,β i=some (b,B.sz)/\w.heap[b]?=some (.cells cs B.ty (0,0))/\RVess (MM M0 β hp) β w b B.sz B.es 0/\B.es.length* B.sz<=cs.size:=
 h.cells (ea hi).1 (ea hi).2
theorem Mem.ext(h:Mem M0 w0 β hp w)(hb:Below w.heap.size w w'):Mem M0 w0 β hp w'/\Stab (MM M0 β hp) (MM M0 β hp) β β w w':=by
 have st:Stab (MM M0 β hp) (MM M0 β hp) β β w w':=⟨⟨λb N hs _=>hb.block b (cy hs),λ_ _ _ h=>h,λ_ _ h=>h,λb n h=>(eW (hb.block b (cy h))).trans h⟩,λb c _=>hb.block b c⟩;refine⟨⟨⟨hb.os.trans h.below.os,hb.tape.trans h.below.tape,hb.output.trans h.below.output,fo h.below.size hb.size,λb d=>(hb.block b (ns (w0.lt b d) h.below.size)).trans (h.below.block b d),λb n hs=>st.sz b n (h.below.sizes b n hs)⟩,h.m0,λi b s a=>⟨(h.rng i b s a).1,ns (h.rng i b s a).2 hb.size⟩,h.pin,λi B a=>?_,h.inj⟩,st⟩;obtain⟨b,e,f⟩:=h.blk i B a;exact⟨b,e,f.stab st.toStabC (hb.block b (h.rng i b _ e).2)⟩
theorem Mem.forget(h:Mem M0 w0 β hp w)(hs:∀i B,hp' i=some B->hp i=some B):Mem M0 w0 β hp' w/\Stab (MM M0 β hp) (MM M0 β hp') β β w w:=by
 have st:Stab (MM M0 β hp) (MM M0 β hp') β β w w:=⟨⟨λ_ _ _ _=>rfl,λb _ _ hb=>hb.imp id fun⟨i,B,s,c,a⟩=>⟨i,B,s,hs i B c,a⟩,λ_ _ h=>h,λ_ _ h=>h⟩,λ_ _ _=>rfl⟩;refine⟨⟨h.below,h.m0,h.rng,λf=>h.pin (by obtain⟨B,k⟩:=xa.1 f;grind),λi B g=>?_,λi j B e b s d c a=>h.inj i j B e b s d (hs _ _ c) (hs _ _ a)⟩,st⟩;obtain⟨b,c,a⟩:=h.blk i B (hs i B g);exact⟨b,c,a.stab st.toStabC rfl⟩
def upd(f:Nat->Option α)(i:Nat)(x:Option α):Nat->Option α:=λj=>if j=i then x else f j
@[simp] theorem bq (f:Nat->Option α)(i:Nat)(x:Option α):upd f i x i=x:=by simp[upd]
theorem bw(f:Nat->Option α){j:Nat}(x:Option α)(h:j≠i):upd f i x j=f j:=by simp[upd,h]
theorem RVs.length:∀{cs:La} {xs:List Value},RVs M β w cs xs->xs.length=cs.length
 |[],xs,h=>by cases (h:xs=[]);rfl
 |c::cs,xs,⟨x,xs',e,_,h2⟩=>by subst e;simp[RVs.length h2]
theorem RVs.get:∀{cs:La} {xs:List Value} {i:Nat} {c:AV},RVs M β w cs xs->cs[i]?=some c->∃x,xs[i]?=some x/\RV M β w c x
 |c::cs,xs,0,c',⟨x,xs',e,h1,_⟩,h=>by grind
 |c::cs,xs,i+1,c',⟨x,xs',e,_,h2⟩,h=>by subst e;simp only[A6] at h⊢;exact RVs.get h2 h
theorem RVs.append:∀{cs ds:La} {xs ys:List Value},RVs M β w cs xs->RVs M β w ds ys->RVs M β w (cs++ds) (xs++ys)
 |[],ds,xs,ys,h,h'=>by cases (h:xs=[]);grind
 |c::cs,ds,xs,ys,⟨x,xs',e,h1,h2⟩,h'=>by subst e;exact⟨x,xs'++ys,rfl,h1,RVs.append h2 h'⟩
theorem RVs.take:∀{cs:La} {xs:List Value} (n:Nat),RVs M β w cs xs->RVs M β w (cs.take n) (xs.take n)
 |_,_,0,_=>by simp[RVs]
 |[],xs,n+1,h=>by cases (h:xs=[]);simp[RVs]
 |c::cs,xs,n+1,⟨x,xs',e,h1,h2⟩=>by subst e;exact⟨x,xs'.take n,rfl,h1,RVs.take n h2⟩
theorem RVs.drop:∀{cs:La} {xs:List Value} (n:Nat),RVs M β w cs xs->RVs M β w (cs.drop n) (xs.drop n)
 |_,_,0,h=>h
 |[],xs,n+1,h=>by cases (h:xs=[]);simp[RVs]
 |c::cs,xs,n+1,⟨x,xs',e,h1,h2⟩=>by subst e;exact RVs.drop n h2
theorem RVcs.get:∀{cs:La} {off i:Nat} {c:AV},RVcs M β w b cs off->cs[i]?=some c->∃x,w.cell? ⟨b,off+i,none⟩=some x/\RV M β w c x
 |c::cs,off,0,c',⟨h1,_⟩,h=>by grind
 |c::cs,off,i+1,c',⟨_,h2⟩,h=>by
  have:=RVcs.get h2 h;grind
theorem RVcs.drop:∀{cs:La} {off:Nat} (n:Nat),RVcs M β w b cs off->RVcs M β w b (cs.drop n) (off+n)
 |_,_,0,h=>h
 |[],_,n+1,_=>trivial
 |c::cs,off,n+1,⟨_,h2⟩=>by have:=RVcs.drop n h2;grind
theorem RVcs.take:∀{cs:La} {off:Nat} (n:Nat),RVcs M β w b cs off->RVcs M β w b (cs.take n) off
 |_,_,0,_=>by simp[RVcs]
 |[],_,n+1,_=>trivial
 |c::cs,off,n+1,⟨h1,h2⟩=>⟨h1,RVcs.take n h2⟩
theorem RVcs.vals:∀{cs:La} {off:Nat},RVcs M β w b cs off->∃xs,RVs M β w cs xs/\∀j v,xs[j]?=some v->w.cell? ⟨b,off+j,none⟩=some v
 |[],off,_=>⟨[],rfl,λj v h=>by grind⟩
 |c::cs,off,⟨⟨x,hx,h1⟩,h2⟩=>by
  obtain⟨xs,a,d⟩:=RVcs.vals h2;exact⟨x::xs,⟨x,xs,rfl,h1,a⟩,λj v h=>(φ)⟩
theorem RVcs.of_vals:∀{cs:La} {xs:List Value} {off:Nat},RVs M β w cs xs->(∀j v,xs[j]?=some v->w.cell? ⟨b,off+j,none⟩=some v)->RVcs M β w b cs off
 |[],_,_,_,_=>trivial
 |c::cs,xs,off,⟨x,xs',e,h1,h2⟩,h=>by
  subst e;refine⟨⟨x,h 0 x rfl,h1⟩,RVcs.of_vals h2 λj v a=>?_⟩;have:=h (j+1) v φ;grind
theorem RVess.get:∀{es:Lc} {off i:Nat} {e:La},RVess M β w b s es off->es[i]?=some e->RVcs M β w b e (off+i* s)/\e.length=s
 |e::es,off,0,e',⟨h1,h2,_⟩,h=>by grind
 |e::es,off,i+1,e',⟨_,_,h3⟩,h=>by
  have:=RVess.get h3 h;grind
theorem RVess.drop:∀{es:Lc} {off:Nat} (n:Nat),RVess M β w b s es off->RVess M β w b s (es.drop n) (off+n* s)
 |_,_,0,h=>by grind
 |[],_,n+1,_=>trivial
 |c::cs,off,n+1,⟨_,_,h2⟩=>by have:=RVess.drop n h2;grind
theorem RVess.take:∀{es:Lc} {off:Nat} (n:Nat),RVess M β w b s es off->RVess M β w b s (es.take n) off
 |_,_,0,_=>by simp[RVess]
 |[],_,n+1,_=>trivial
 |c::cs,off,n+1,⟨h0,h1,h2⟩=>⟨h0,h1,RVess.take n h2⟩
theorem RVess.append:∀{es fs:Lc} {off:Nat},RVess M β w b s es off->RVess M β w b s fs (off+es.length* s)->RVess M β w b s (es++fs) off
 |[],_,_,_,h=>by grind
 |c::cs,fs,off,⟨h0,h1,h2⟩,h=>⟨h0,h1,RVess.append h2 φ⟩
theorem RVess.of_get:∀{es:Lc} {off:Nat},(∀i e,es[i]?=some e->RVcs M β w b e (off+i* s)/\e.length=s)->RVess M β w b s es off
 |[],_,_=>trivial
 |e::es,off,h=>by
  have a:=h 0 e rfl;refine⟨a.2,φ,RVess.of_get λi c d=>?_⟩;have:=h (i+1) c φ;grind
theorem heap_alloc_new'(w:World)(o:Obj):(w.alloc o).heap[w.heap.size]?=some o:=by
 show(w.heap.push o)[w.heap.size]?=_;simp
theorem Mem.alloc (h:Mem M0 w0 β hp w) {ty:Nat} {es:Lc} {cs:Array Value} (hs0:s≠0) (hi0:i≠0) (hi:β i=none) (hpi:hp i=none)
    (hes:∀k e,es[k]?=some e->∃xs:List Value,RVs (MM M0 β hp) β w e xs/\e.length=s/\∀j v,xs[j]?=some v->cs[k* s+j]?=some v) (hsz:es.length* s<=cs.size):
    Mem M0 w0 (upd β i (some (w.heap.size,s))) (upd hp i (some ⟨ty,s,es⟩)) (w.alloc (.cells cs ty))/\
    Stab (MM M0 β hp) (MM M0 (upd β i (some (w.heap.size,s))) (upd hp i (some ⟨ty,s,es⟩))) β (upd β i (some (w.heap.size,s))) w (w.alloc (.cells cs ty)):=by
 have l:∀j x,β j=some x->upd β i (some (w.heap.size,s)) j=some x:=λj x a=>by
  rw[bw];exact a;grind
 have st:Stab (MM M0 β hp) (MM M0 (upd β i (some (w.heap.size,s))) (upd hp i (some ⟨ty,s,es⟩))) β (upd β i (some (w.heap.size,s))) w (w.alloc (.cells cs ty)):=by
  refine⟨⟨λb N hs _=>Below.heap_alloc _ _ _ (cy hs),λb N hs p=>?_,l,λb n h=>(eW (Below.heap_alloc _ _ _ (cy h))).trans h⟩,λb hb _=>Below.heap_alloc _ _ _ hb⟩;have hb:=cy hs;rcases p with p|⟨j,B,o,d,c⟩
  exact .inl p;by_cases a:j=i;subst a;rw[bq] at c;cases c;omega;rw[bw _ _ a] at d c;exact .inr ⟨j,B,o,d,c⟩
 refine⟨⟨⟨h.below.os,h.below.tape,h.below.output,by simp;have:=h.below.size;omega,λb m=>(Below.heap_alloc _ _ _ (ns (w0.lt b m) h.below.size)).trans (h.below.block b m),λb n hs=>st.sz b n (h.below.sizes b n hs)⟩,h.m0,λj b o a=>?_,λr=>(bw _ _ (Nz hi0)).trans (h.pin (by rw[bw _ _ (Nz hi0)] at r;grind)),λj B a=>?_,λj k B q b s1 s2 d c f g=>?_⟩,st⟩;by_cases hji:j=i;subst hji;rw[bq] at a;cases a;exact⟨λm=>absurd (w0.lt _ m) (by have:=h.below.size;omega),ψ⟩;rw[bw _ _ hji] at a;have:=h.rng j b o a;exact⟨this.1,χ⟩;by_cases hji:j=i;subst hji;rw[bq] at a;cases a;refine⟨w.heap.size,bq _ _ _,.inl ⟨hs0,cs,heap_alloc_new' _ _,RVess.of_get λk e t=>?_,hsz⟩⟩;obtain⟨xs,d,c,f⟩:=hes k e t;refine⟨RVcs.of_vals (st.vs d) λj v a=>?_,c⟩;simp only[World.cell?,heap_alloc_new'];simpa using f j v a;rw[bw _ _ hji] at a;obtain⟨b,d,c⟩:=h.blk j B a;exact⟨b,l _ _ d,c.stab st.toStabC (Below.heap_alloc _ _ _ (h.rng j b _ d).2)⟩;by_cases hji:j=i <;> by_cases hki:k=i;rw[hji,hki];subst hji;rw[bq] at f;cases f;rw[bw _ _ hki] at g;have:=(h.rng k _ _ g).2;omega;subst hki;rw[bq] at g;cases g;rw[bw _ _ hji] at f;have:=(h.rng j _ _ f).2;omega;rw[bw _ _ hji] at d f;rw[bw _ _ hki] at c g;exact h.inj j k B q b s1 s2 d c f g
theorem Mem.write (h:Mem M0 w0 β hp w) {B:ABlk} {es:Lc} {cs:Array Value} (hz:B.sz≠0) (hi:hp i=some B) (hb:β i=some (b,B.sz))
    (hsame:w'.os=w.os/\w'.tape=w.tape/\w'.output=w.output) (hsize:w'.heap.size=w.heap.size) (hnew:w'.heap[b]?=some (.cells cs B.ty (0,0))) (hold:∀k,k≠b->w'.heap[k]?=w.heap[k]?)
    (hes:∀k e,es[k]?=some e->∃xs:List Value,RVs (MM M0 β hp) β w e xs/\e.length=B.sz/\∀j v,xs[j]?=some v->cs[k* B.sz+j]?=some v) (hsz:es.length* B.sz<=cs.size) (hss:aY w b=some cs.size):
    Mem M0 w0 β (upd hp i (some ⟨B.ty,B.sz,es⟩)) w'/\Stab (MM M0 β hp) (MM M0 β (upd hp i (some ⟨B.ty,B.sz,es⟩))) β β w w':=by
 have q:MM M0 β hp b:= .inr ⟨i,B,_,hi,hb⟩;have l:=h.rng i b _ hb
 have p:∀c,MM M0 β (upd hp i (some ⟨B.ty,B.sz,es⟩)) c->MM M0 β hp c:=by
  rintro c (m|⟨j,o,s,a,f⟩);exact .inl m;by_cases hji:j=i;subst hji;exact .inr ⟨j,B,s,hi,f⟩;rw[bw _ _ hji] at a;exact .inr ⟨j,o,s,a,f⟩
 have st:Stab (MM M0 β hp) (MM M0 β (upd hp i (some ⟨B.ty,B.sz,es⟩))) β β w w':=
  ⟨⟨λc _ _ t=>hold c (λe=>t (e▸q)),λc _ _ t=>p c t,λ_ _ h=>h,λc n m=>by
   by_cases d:c=b;subst d;rw[hss] at m;simp only[aY,hnew];exact m;exact(eW (hold c d)).trans m⟩,λc _ D=>hold c (λe=>φ)⟩
 refine⟨⟨⟨hsame.1.trans h.below.os,hsame.2.1.trans h.below.tape,hsame.2.2.trans h.below.output,by have:=h.below.size;omega,λk u=>(hold k (λe=>l.1 (e▸u))).trans (h.below.block k u),λc n hs=>st.sz c n (h.below.sizes c n hs)⟩,h.m0,λj c s g=>by have:=h.rng j c s g;grind,λy=>h.pin (by by_cases h00:0=i;(grind);rw[bw _ _ h00] at y;grind),λj o g=>?_,λj k C E c s x a f r z=>?_⟩,st⟩;by_cases hji:j=i;subst hji;rw[bq] at g;cases g;refine⟨b,hb,.inl ⟨hz,cs,hnew,RVess.of_get λk e A=>?_,hsz⟩⟩;obtain⟨xs,a,f,r⟩:=hes k e A;refine⟨RVcs.of_vals (st.vs a) λj v g=>?_,f⟩;simp only[World.cell?,hnew];simpa using r j v g;rw[bw _ _ hji] at g;obtain⟨c,a,f⟩:=h.blk j o g;have d:c≠b:=λe=>by subst e;exact hji (h.inj j i o B c _ _ g hi a hb)
 exact⟨c,a,f.stab st.toStabC (hold c d)⟩
 have e1:∃B,hp j=some B:=by
  by_cases hji:j=i;subst hji;exact⟨_,hi⟩;rw[bw _ _ hji] at a;exact⟨_,a⟩
 have e2:∃B,hp k=some B:=by
  by_cases hki:k=i;subst hki;exact⟨_,hi⟩;rw[bw _ _ hki] at f;exact⟨_,f⟩
 obtain⟨_,e1⟩:=e1;obtain⟨_,e2⟩:=e2;exact h.inj j k _ _ c s x e1 e2 r z
end
end
def fT(P:Program)(T:Nat):Option Bool:=(P.underlying T).map λd=>match d with| .struct _| .array _ _=>true|_=>false
def jU(P:Program)(T:Nat):Option Nat:=(P.info? T).map (·.size)
def gR(P:Program)(T:Nat):Option (List Value):=(P.info? T).bind λi=>i.zero.map (·.cells.toList)
def ng(P:Program)(T f:Nat):Option (Nat×Nat):=
 match P.underlying T with
 |some (.struct fs)=>match fs[f]? with|some fd=>(jU P fd.type).map λs=>(fd.offset,s)|none=>none
 |_=>none
def nX(P:Program)(T f:Nat):Option Bool:=
 match P.underlying T with
 |some (.struct fs)=>match fs[f]? with|some fd=>fT P fd.type|none=>none
 |_=>none
def eQ(P:Program)(T:Nat):Option (Nat×Nat):=
 match P.underlying T with
 |some (.slice e)=>(jU P e).map λs=>(e,s)
 |_=>none
section
variable {P:Program}{T:Nat}{w:World}
theorem ov{t:Bool}(h:fT P T=some t)(w:World):(isAgg T).run P w= .ok t w:=by
 unfold fT at h;cases hu:P.underlying T with
 |none=>simp[hu] at h
 |some d=>
  simp only[hu,DS,Option.some.injEq] at h;unfold isAgg;rw[Sem.run_bind,run_underlying hu w];subst h;cases d <;> rfl
theorem run_sizeOf'{n:Nat}(h:jU P T=some n)(w:World):(sizeOf T).run P w= .ok n w:=by
 unfold jU at h;cases hu:P.info? T with
 |none=>simp[hu] at h
 |some i=>
  simp only[hu,DS,Option.some.injEq] at h;simp[sizeOf,typeInfo,hu,h]
theorem run_zeroValue'{zs:List Value}(h:gR P T=some zs)(w:World):∃v,(zeroValue T).run P w= .ok v w/\v.cells.toList=zs:=by
 unfold gR at h;cases hu:P.info? T with
 |none=>simp[hu] at h
 |some i=>
  simp only[hu,zL] at h;cases hz:i.zero with
  |none=>simp[hz] at h
  |some v=>
   simp only[hz,DS,Option.some.injEq] at h;exact⟨v,by simp[zeroValue,typeInfo,hu,hz],h⟩
theorem k5(b off n:Nat):(⟨b,off,none⟩:Addr).add n=⟨b,off+n,none⟩:=by
 unfold Addr.add;split <;> simp_all
theorem jX {n b off:Nat} {xs:List Value} (h1:fT P T=some true) (h2:jU P T=some n) (hn:xs.length=n)
    (hx:∀j v,xs[j]?=some v->w.cell? ⟨b,off+j,none⟩=some v):(loadVar T ⟨b,off,none⟩).run P w= .ok (.agg xs.toArray) w:=by
 have a:=run_loadCells_list (P:=P) w ⟨b,off,none⟩ xs (λj v hv=>by rw[k5];exact hx j v hv);rw[hn] at a;simp[loadVar,Sem.run_bind,ov h1,run_sizeOf' h2,a]
theorem jW{b off:Nat}{x:Value}(h1:fT P T=some false)(hx:w.cell? ⟨b,off,none⟩=some x):(loadVar T ⟨b,off,none⟩).run P w= .ok x w:=by
 simp[loadVar,Sem.run_bind,ov h1,hx]
def fD{α:Type}(cs:List α)(off:Nat):List α->List α
 |[]=>cs
 |v::vs=>fD (cs.set off v) (off+1) vs
theorem cL{α:Type}:∀(vs cs:List α) (off:Nat),(fD cs off vs).length=cs.length
 |[],_,_=>rfl
 |v::vs,cs,off=>by simp[fD,cL vs]
theorem fk{α:Type}:∀(vs cs:List α) (off j:Nat),(fD cs off vs)[j]?=if off<=j/\j< off+vs.length then(if j< cs.length then vs[j- off]? else none) else cs[j]?
 |[],cs,off,j=>by
  rw[if_neg (by simp only[Fe];omega)];rfl
 |v::vs,cs,off,j=>by
  rw[fD,fk vs,Aa,Pe,vX];by_cases h1:off=j;subst h1;have ha:¬(off+1<=off/\off< off+1+vs.length):=ω
  have hb:off<=off/\off< off+(vs.length+1):=ω
  simp only[ha,hb,if_true,if_false,and_self,Nj,xg];by_cases h2:off+1<=j/\j< off+1+vs.length;have hb:off<=j/\j< off+(vs.length+1):=ω
  have a:j- off=(j- (off+1))+1:=ω
  simp only[h2,hb,if_true,and_self,a,A6];have hb:¬(off<=j/\j< off+(vs.length+1)):=ω
  simp only[h1,h2,hb,if_false]
theorem run_storeCells'{b ty:Nat}:∀(vs:List Value) (w:World) (cs:Array Value) (off i:Nat),w.heap[b]?=some (.cells cs ty (0,0))->off+i+vs.length<=cs.size->(∀v∈vs,v.oneCell'=true)->
    ∃w',(storeCells ⟨b,off,none⟩ vs i).run P w= .ok () w'/\w'.heap[b]?=some (.cells (fD cs.toList (off+i) vs).toArray ty (0,0))/\(∀k,k≠b->w'.heap[k]?=w.heap[k]?)/\w'.heap.size=w.heap.size/\(w'.os=w.os/\w'.tape=w.tape/\w'.output=w.output)
 |[],w,cs,off,i,h,_,_=>⟨w,by simp[storeCells],by simpa[fD] using h,λ_ _=>rfl,rfl,rfl,rfl,rfl⟩
 |v::vs,w,cs,off,i,h,hlen,hone=>by
  simp only[vX] at hlen;have j:w.cell? ⟨b,off+i,none⟩=some (cs[off+i]'(by omega)):=by simp[World.cell?,h]
  have c:w.frozen? ⟨b,off+i,none⟩=false:=by simp[World.frozen?,h]
  have f:=heap_setCell_same w b (off+i) cs ty v h;obtain⟨w',r,e1,e2,d,e⟩:=run_storeCells' vs (w.setCell ⟨b,off+i,none⟩ v) (cs.setIfInBounds (off+i) v) off (i+1) f χ (λu g=>hone u (lQ _ g));refine⟨w',?_,?_,λk a=>?_,?_,?_⟩;simp only[storeCells,Sem.run_bind,k5,run_store P w _ v .plain (hone v (mu ..)),j,c,Ha,if_false,Result.andThen_ok];exact r;rw[e1];simp[fD,JQ];rw[e2 k a];exact heap_setCell_other w _ k v a;rw[d];simp;exact e
end
section
variable {y:Value}{a:AV}
def Closed(a:AV):Prop:=∀(M:Nat->Prop) β w y,RV M β w a y->RV M (λ_=>none) w a y
structure FSpec (P:Program)(f:Nat)(args:La)(r:AV):Prop where
 cl:∀a∈args,Closed a
 enters:∀(xs:Array Value) (w:World),(callFunc f xs).run P w= .ok (.enter f xs) w
 calls:∀(M:Nat->Prop) (w:World) (vals:List Value),Fit M w->RVs M (λ_=>none) w args vals->
  Calls P f vals.toArray w λe w'=> ∃y,e= .returned y/\RV M (λ_=>none) w' r y/\Below w.heap.size w w'
structure But (b:Nat)(w w':World):Prop where
 os:w'.os=w.os
 tape:w'.tape=w.tape
 output:w'.output=w.output
 size:w.heap.size<=w'.heap.size
 block:∀x,x< w.heap.size->x≠b->w'.heap[x]?=w.heap[x]?
 sizes:∀x n,aY w x=some n->aY w' x=some n
def MO(M:Nat->Prop)(w:World)(b ty sz:Nat)(es:Lc):Prop:=∃cs,w.heap[b]?=some (.cells cs ty (0,0))/\RVess M (λ_=>none) w b sz es 0/\es.length* sz<=cs.size
structure ESpec (P:Program)(f:Nat)(ty sz:Nat)(E E':Lc)(e n:Nat)(cap:Option Nat)(args:La)(r:Value):Prop where
 sz0:sz≠0
 cl:∀a∈args,Closed a
 clE:∀x∈E,∀c∈x,Closed c
 enters:∀(xs:Array Value) (w:World),(callFunc f xs).run P w= .ok (.enter f xs) w
 calls:∀(M:Nat->Prop) (w:World) (b:Nat) (y0:Value) (vals:List Value),Fit M w->M b->MO M w b ty sz E->RV M (λi=>if i=0 then some (b,sz) else none) w (.lsl 0 e n cap sz) y0->RVs M (λ_=>none) w args vals->
  Calls P f (y0::vals).toArray w λx w'=>x= .returned r/\MO M w' b ty sz E'/\But b w w'
structure OSpec (P:Program)(f:Nat)(args:La)(ty sz:Nat)(es:Lc):Prop where
 sz0:sz≠0
 cl:∀a∈args,Closed a
 enters:∀(xs:Array Value) (w:World),(callFunc f xs).run P w= .ok (.enter f xs) w
 calls:∀(M:Nat->Prop) (w:World) (vals:List Value),Fit M w->RVs M (λ_=>none) w args vals->
  Calls P f vals.toArray w λx w'=> ∃b c,x= .returned (.slice (some ⟨b,0,none⟩) es.length c)/\w.heap.size<=b/\b< w'.heap.size/\es.length<=c/\c<=maxLen/\(∃cs,w'.heap[b]?=some (.cells cs ty (0,0))/\RVess (λx=>M x\/x=b) (λ_=>none) w' b sz es 0/\c* sz<=cs.size)/\Below w.heap.size w w'
structure Upd where
 val:AV
 blk:List (Nat×Option ABlk)
def iF(hp:Hq):List (Nat×Option ABlk)->Nat->Option ABlk
 |[]=>hp
 |(i,x)::l=>iF (upd hp i x) l
def ofV:Value->AV
 | .slice none 0 0=> .emp
 |x=> .v x
def L7:AV->AV
 | .emp=> .arr []
 |a=>a
def coe:AV->AV
 | .emp=> .arr []
 | .agg cs=> .agg (cs.map L7)
 | .tup cs=> .tup (cs.map L7)
 |a=>a
def AV.one:AV->Bool
 | .agg _| .tup _| .any=>false
 | .v x=>x.oneCell'
 |_=>true
def AV.cells:AV->Option La
 | .agg cs=>some cs
 | .tup _| .any=>none
 | .v (.agg _)| .v (.tuple _)=>none
 |a=>some [a]
def evs(ev:Operand->Option AV):List Operand->Option La
 |[]=>some []
 |x::xs=>match ev x,evs ev xs with
  |some a,some as=>some (a::as)
  |_,_=>none
def CJ(place:Bq)(cs:La):List (Nat×AV)->Option La
 |[]=>some cs
 |(i,a)::rest=>
  match place i,a.cells with
  |some (off,size),some vs=>if vs.length=size/\off+vs.length<=cs.length then CJ place (fD cs off vs) rest else none
  |_,_=>none
section
variable {M:Nat->Prop}{β:Bq}{w:World}
theorem JE(x:Value):RV M β w (ofV x) x:=by
 unfold ofV;split;exact⟨none,rfl⟩;rfl
theorem uD:∀xs:List Value,RVs M β w (xs.map ofV) xs
 |[]=>rfl
 |x::xs=>⟨x,xs,rfl,JE x,uD xs⟩
theorem zi(h:RV M β w .emp y):RV M β w (.arr []) y:=by
 obtain⟨a,rfl⟩:=h;exact⟨a,0,rfl,ir _,φ,.inl rfl⟩
theorem rv_coe1{c:AV}(h:RV M β w c y):RV M β w (L7 c) y:=by
 unfold L7;split;exact zi h;exact h
theorem vE:∀{cs:La} {ys:List Value},RVs M β w cs ys->RVs M β w (cs.map L7) ys
 |[],_,h=>h
 |_::_,_,⟨x,xs,e,h1,h2⟩=>⟨x,xs,e,rv_coe1 h1,vE h2⟩
theorem JF(h:RV M β w a y):RV M β w (coe a) y:=by
 unfold coe;split;exact zi h;obtain⟨xs,rfl,h⟩:=h;exact⟨xs,rfl,vE h⟩;obtain⟨xs,rfl,h⟩:=h;exact⟨xs,rfl,vE h⟩;exact h
theorem gF:∀{cs:La} {ys:List Value},RVs M β w cs ys->RVs M β w (cs.map coe) ys
 |[],_,h=>h
 |_::_,_,⟨x,xs,e,h1,h2⟩=>⟨x,xs,e,JF h1,gF h2⟩
theorem qi{cs:La}(h:RV M β w a y)(hc:a.cells=some cs):RVs M β w cs y.cells.toList:=by
 have one:∀{a:AV} {y:Value},RV M β w a y->y.cells= #[y]->RVs M β w [a] y.cells.toList:=λh e=>by rw[e];exact⟨_,_,rfl,h,rfl⟩
 cases a with
 |agg g=>simp only[AV.cells,Option.some.injEq] at hc;subst hc;obtain⟨xs,rfl,h⟩:=h;exact h
 |tup g=>simp[AV.cells] at hc
 |any=>simp[AV.cells] at hc
 |v x=>
  cases (h:y=x);cases y <;> simp only[AV.cells,Option.some.injEq,reduceCtorEq] at hc <;>(subst hc;exact⟨_,_,rfl,rfl,rfl⟩)
 |emp=>simp only[AV.cells,Option.some.injEq] at hc;subst hc;exact one h (by obtain⟨a,rfl⟩:=h;rfl)
 |arr es=>simp only[AV.cells,Option.some.injEq] at hc;subst hc;exact one h (by obtain⟨a,c,rfl,_⟩:=h;rfl)
 |aptr es i o=>simp only[AV.cells,Option.some.injEq] at hc;subst hc;exact one h (by obtain⟨_,b,j,s,rfl,_⟩:=h;rfl)
 |lptr id i o=>simp only[AV.cells,Option.some.injEq] at hc;subst hc;exact one h (by obtain⟨b,s,_,rfl⟩:=h;rfl)
 |lsl id i n d sz=>simp only[AV.cells,Option.some.injEq] at hc;subst hc;exact one h (by obtain⟨b,c,_,rfl,_⟩:=h;rfl)
 |clos f k d=>simp only[AV.cells,Option.some.injEq] at hc;subst hc;exact one h (by obtain⟨xs,q,rfl,_⟩:=h;rfl)
 |mp m vs=>simp only[AV.cells,Option.some.injEq] at hc;subst hc;exact one h (by obtain⟨r,l,p,rfl,_⟩:=h;rfl)
 |lmp id=>simp only[AV.cells,Option.some.injEq] at hc;subst hc;exact one h (by obtain⟨r,_,rfl⟩:=h;rfl)
theorem rv_one(h:RV M β w a y)(hc:a.one=true):y.oneCell'=true:=by
 cases a with
 |agg e=>simp[AV.one] at hc
 |tup e=>simp[AV.one] at hc
 |any=>simp[AV.one] at hc
 |v x=>cases (h:y=x);exact hc
 |emp=>obtain⟨a,rfl⟩:=h;rfl
 |arr es=>obtain⟨a,c,rfl,_⟩:=h;rfl
 |aptr es i o=>obtain⟨_,b,g,s,rfl,_⟩:=h;rfl
 |lptr id i o=>obtain⟨b,s,_,rfl⟩:=h;rfl
 |lsl id i n d sz=>obtain⟨b,c,_,rfl,_⟩:=h;rfl
 |clos f j d=>obtain⟨xs,p,rfl,_⟩:=h;rfl
 |mp l vs=>obtain⟨r,k,m,rfl,_⟩:=h;rfl
 |lmp id=>obtain⟨r,_,rfl⟩:=h;rfl
theorem zg:∀{cs:La} {ys:List Value},RVs M β w cs ys->cs.all AV.one=true->∀y∈ys,y.oneCell'=true
 |[],ys,h,_,y,a=>by cases (h:ys=[]);grind
 |c::cs,ys,⟨x,xs,e,h1,h2⟩,ha,y,a=>by
  subst e;simp only[Pm,sj] at ha;rcases pY.1 a with rfl|a
  exact rv_one h1 ha.1;exact zg h2 ha.2 y a
theorem Ga:∀{cs:La} {ys:List Value} {i:Nat} {c:AV} {y:Value},RVs M β w cs ys->RV M β w c y->RVs M β w (cs.set i c) (ys.set i y)
 |[],ys,_,_,_,h,_=>by cases (h:ys=[]);exact rfl
 |c::cs,ys,0,_,_,⟨x,xs,e,_,h2⟩,h=>by subst e;exact⟨_,_,rfl,h,h2⟩
 |c::cs,ys,i+1,_,_,⟨x,xs,e,h1,h2⟩,h=>by subst e;exact⟨_,_,rfl,h1,Ga h2 h⟩
theorem xV{vs:La}:∀{xs:List Value} {cs:La} {ys:List Value} {off:Nat},RVs M β w cs ys->RVs M β w vs xs->RVs M β w (fD cs off vs) (fD ys off xs):=by
 induction vs with
 |nil=>intro xs cs ys off h a;cases (a:xs=[]);exact h
 |cons v vs d=>rintro xs cs ys off h ⟨x,b,rfl,e,c⟩;exact d (Ga h e) c
theorem jq{ev:Operand->Option AV}{ρ:Operand->Value}(hev:∀x a,ev x=some a->RV M β w a (ρ x)):∀{xs:List Operand} {as:La},evs ev xs=some as->RVs M β w as (xs.map ρ)
 |[],as,h=>by simp only[evs,Option.some.injEq] at h;subst h;exact rfl
 |x::xs,as,h=>by
  simp only[evs] at h;split at h
  ·rename_i a c b d
   simp only[Option.some.injEq] at h;subst h;exact⟨_,_,rfl,hev x a b,jq hev d⟩
  cases h
theorem sV{ev ev':Operand->Option AV}:∀{xs:List Operand},(∀x∈xs,ev' x=ev x)->evs ev' xs=evs ev xs
 |[],_=>rfl
 |x::xs,h=>by simp only[evs,h x (mu ..),sV λy a=>h y (lQ _ a)]
theorem nW:∀(vs:List Value) (cs:Array Value) (off j:Nat),((vs.zipIdx j).foldl (λcs (c,j)=>cs.setIfInBounds (off+j) c) cs).toList=fD cs.toList (off+j) vs
 |[],_,_,_=>rfl
 |v::vs,cs,off,j=>by
  simp only[List.zipIdx_cons,OC,fD];rw[nW vs _ off (j+1)];grind
theorem G6{place:Bq}:∀{ps:List (Nat×AV)} {qs:List (Nat×Value)} {cs ds:La} {xs:Array Value},
    (ps.map (·.1)=qs.map (·.1)/\RVs M β w (ps.map (·.2)) (qs.map (·.2)))->RVs M β w cs xs.toList->CJ place cs ps=some ds->∃ys,Instr.fill place xs qs=some ys/\RVs M β w ds ys.toList
 |[],qs,cs,ds,xs,⟨c,h2⟩,hc,h=>by
  simp only[CJ,Option.some.injEq] at h;subst h;cases qs with
  |nil=>exact⟨xs,rfl,hc⟩
  |cons q qs=>grind
 |(i,a)::ps,qs,cs,ds,xs,⟨c,h2⟩,hc,h=>by
  cases qs with
  |nil=>grind
  |cons q qs=>
   simp only[zo,List.cons.injEq] at c;obtain⟨rfl,c⟩:=c;obtain⟨m,f,e,k,j⟩:=h2;obtain⟨rfl,rfl⟩:=List.cons.inj e;simp only[CJ] at h;split at h
   ·rename_i g size vs hp hv
    split at h
    ·have b:=qi k hv
     have l:=b.length;have d:=hc.length;simp only[Instr.fill,hp];rw[if_neg φ];refine G6 ⟨c,j⟩ ?_ h;rw[<-NO,Array.toList_zipIdx,nW];exact xV hc b
    cases h
   cases h
end
end
def Flat(M:Nat->Prop)(β:Bq)(w:World)(s:Nat)(es:Lc)(xs:List Value):Prop:=
 xs.length=es.length* s/\∀k e,es[k]?=some e->∃ys,RVs M β w e ys/\e.length=s/\∀j v,ys[j]?=some v->xs[k* s+j]?=some v
section
variable {M:Nat->Prop}{β:Bq}{w:World}{s:Nat}
theorem Flat.nil:Flat M β w s [] []:=⟨ψ,λk e h=>by grind⟩
theorem Flat.cons{e:La}{es:Lc}{ys xs:List Value}(h1:RVs M β w e ys)(h2:e.length=s)(h:Flat M β w s es xs):Flat M β w s (e::es) (ys++xs):=by
 have f:=h1.length;refine⟨by simp[h.1,zu];omega,λk b a=>?_⟩;cases k with
 |zero=>
  grind
 |succ k=>
  obtain⟨i,g,c,d⟩:=h.2 k b a;grind
theorem Flat.append{fs:Lc}{ys:List Value}(h':Flat M β w s fs ys):∀{es:Lc} {xs:List Value},Flat M β w s es xs->Flat M β w s (es++fs) (xs++ys):=by
 intro es xs h;refine⟨by simp[h.1,h'.1,zu],λk e a=>?_⟩;by_cases hk:k< es.length;rw[Bg hk] at a;obtain⟨i,g,b,d⟩:=h.2 k e a;refine⟨i,g,b,λj v f=>?_⟩;have c:=(jY.1 (d j v f)).1;rw[Bg c];exact d j v f;rw[D2 ω] at a;obtain⟨i,g,b,d⟩:=h'.2 _ e a;refine⟨i,g,b,λj v f=>?_⟩;have l:k* s=es.length* s+(k- es.length) * s:=by rw[<-zu];grind
 rw[D2 (by rw[h.1];omega),show k* s+j- xs.length=(k- es.length) * s+j by rw[h.1];omega];grind
theorem RVess.flat{b:Nat}:∀{es:Lc} {off:Nat},RVess M β w b s es off->∃xs,Flat M β w s es xs/\∀j v,xs[j]?=some v->w.cell? ⟨b,off+j,none⟩=some v
 |[],_,_=>⟨[],.nil,λj v h=>by grind⟩
 |e::es,off,⟨h0,h1,h2⟩=>by
  obtain⟨d,a,f⟩:=h1.vals;obtain⟨xs,c,g⟩:=RVess.flat h2;have i:=a.length;exact⟨d++xs,.cons a h0 c,λj v k=>(φ)⟩
theorem Flat.take{es:Lc}{xs:List Value}(h:Flat M β w s es xs)(n:Nat):Flat M β w s (es.take n) (xs.take ((es.take n).length* s)):=by
 have m:(es.take n).length* s<=xs.length:=by rw[h.1];exact mC _ φ
 refine⟨φ,λk e b=>?_⟩;have g:k< (es.take n).length:=(jY.1 b).1;rw[Na] at b;split at b;obtain⟨o,d,f,i⟩:=h.2 k e b;refine⟨o,d,f,λj v c=>?_⟩;have l:j< s:=by have:=(jY.1 c).1;rw[d.length] at this;grind
 have a:(k+1) * s<=(es.take n).length* s:=mC _ g;rw[zu] at a;rw[Na,if_pos ω];exact i j v c;grind
theorem Flat.stab{M':Nat->Prop}{β':Bq}{w':World}(st:StabC M M' β β' w w'){es:Lc}{xs:List Value}(h:Flat M β w s es xs):Flat M' β' w' s es xs:=
 ⟨h.1,λk e a=>let ⟨ys,r1,r2,r3⟩:=h.2 k e a;⟨ys,st.vs r1,r2,r3⟩⟩
end
inductive SrcOf (hp:Hq)(s:Nat):AV->Lc->Ln->Prop
 |arr {es}:(∀e∈es,e.length=s)->SrcOf hp s (.arr es) es []
 |lsl {i e n cap B}:dS hp i=some B->e+n<=B.es.length->SrcOf hp s (.lsl i e n cap s) ((B.es.drop e).take n) [i]
 |emp:SrcOf hp s .emp [] []
 |vnil {a c}:SrcOf hp s (.v (.slice a 0 c)) [] []
theorem SrcOf.congr{hp hp':Hq}{s:Nat}{a:AV}{es:Lc}{rd:Ln}(h:SrcOf hp s a es rd)(h2:∀i∈rd,hp' i=hp i):SrcOf hp' s a es rd:=by
 cases h with
 |arr h=>exact .arr h
 |lsl h b=>exact .lsl ((fE (h2 _ ψ)).trans h) b
 |emp=>exact .emp
 |vnil=>exact .vnil
section
variable {M0:Nat->Prop}{w0:Base}{w:World}{β:Bq}{hp:Hq}{P:Program}{s:Nat}
theorem SrcOf.run{a:AV}{es:Lc}{rd:Ln}{y:Value}(h:SrcOf hp s a es rd)(mem:Mem M0 w0 β hp w)(hy:RV (MM M0 β hp) β w a y):
    ∃xs c,Flat (MM M0 β hp) β w s es xs/\(∃a',y= .slice a' es.length c)/\es.length<=c/\∀k,k<=es.length->∀w':World,w'.heap=w.heap->(Builtin.firstCells s k y).run P w'= .ok (xs.take (k* s)).toArray w':=by
 cases h with
 | @arr es h=>
  obtain⟨a',c,rfl,o,D,A⟩:=hy;rcases A with rfl|⟨b,x,r,rfl,⟨N,hN⟩,H,t⟩
  refine⟨[],c,.nil,⟨_,rfl⟩,o,λk f w' l=>?_⟩;have d:k=0:=φ
  subst d;cases a' with
  |none=>simp[Builtin.firstCells]
  |some z=>simp[Builtin.firstCells,loadCells,loadCellsFrom]
  cases es with
  |nil=>
   refine⟨[],c,.nil,⟨_,rfl⟩,o,λk f w' l=>?_⟩;have d:k=0:=φ
   subst d;simp[Builtin.firstCells,loadCells,loadCellsFrom]
  |cons e es=>
   have hs:r=s:=by rw[<-h e (mu ..)];exact t.1.symm
   subst hs;obtain⟨xs,m,C⟩:=t.flat;refine⟨xs,c,m,⟨_,rfl⟩,o,λk f w' l=>?_⟩
   have p:=run_loadCells_list (P:=P) w' ⟨b,x,none⟩ (xs.take (k* r)) (λj v hv=>by
    rw[k5,cell?_congr (w:=w) (w':=w') (by rw[l])];grind)
   have:(xs.take (k* r)).length=k* r:=by
    rw[yv,m.1];simp_all
   rw[this] at p;simpa[Builtin.firstCells] using p
 | @lsl i e n cap B h hn=>
  obtain⟨b,c,hb,rfl,o,D,A,_⟩:=hy;obtain⟨F,cs,q,G,t,E⟩:=mem.cellsF h;rw[hb] at q;cases q;have u:=(t.drop e).take n;obtain⟨xs,m,C⟩:=u.flat;have g:((B.es.drop e).take n).length=n:=χ
  refine⟨xs,c,m,⟨some ⟨b,e* B.sz,none⟩,by rw[g]⟩,by rw[g];exact o,λk f w' l=>?_⟩
  have p:=run_loadCells_list (P:=P) w' ⟨b,e* B.sz,none⟩ (xs.take (k* B.sz)) (λj v hv=>by
   rw[k5,cell?_congr (w:=w) (w':=w') (by rw[l])];rw[Na] at hv;split at hv;have:=C j v hv;simpa using this;cases hv)
  have:(xs.take (k* B.sz)).length=k* B.sz:=by
   rw[yv,m.1];exact KM (mC _ f)
  rw[this] at p;simpa[Builtin.firstCells] using p
 | @vnil a' c=>
  cases (hy:y=_);refine⟨[],c,.nil,⟨a',rfl⟩,mN _,λk f w' l=>?_⟩;have d:k=0:=by simpa using f
  subst d;cases a' with
  |none=>simp[Builtin.firstCells]
  |some z=>simp[Builtin.firstCells,loadCells,loadCellsFrom]
 |emp=>
  obtain⟨a',rfl⟩:=hy;refine⟨[],0,.nil,⟨a',rfl⟩,ir _,λk f w' l=>?_⟩;have d:k=0:=by simpa using f
  subst d;cases a' with
  |none=>simp[Builtin.firstCells]
  |some z=>simp[Builtin.firstCells,loadCells,loadCellsFrom]
theorem Mem.rename(h:Mem M0 w0 β hp w){i id:Nat}{B:ABlk}{b s:Nat}(hi:hp i=some B)(hb:β i=some (b,s))(hid0:id≠0)(hid:β id=none)(hidh:hp id=none):
    Mem M0 w0 (upd β id (some (b,s))) (upd (upd hp i none) id (some B)) w/\Stab (MM M0 β hp) (MM M0 (upd β id (some (b,s))) (upd (upd hp i none) id (some B))) β (upd β id (some (b,s))) w w:=by
 have A:i≠id:=λe=>by grind
 have o:∀j x,β j=some x->upd β id (some (b,s)) j=some x:=λj x a=>by
  rw[bw];exact a;grind
 have t:∀c,MM M0 (upd β id (some (b,s))) (upd (upd hp i none) id (some B)) c->MM M0 β hp c:=by
  rintro c (v|⟨j,l,r,d,g⟩);exact .inl v;by_cases a:j=id;subst a;rw[bq] at d g;cases g;exact .inr ⟨i,B,s,hi,hb⟩;rw[bw _ _ a] at d g;by_cases hji:j=i;subst hji;rw[bq] at d;cases d;rw[bw _ _ hji] at d;exact .inr ⟨j,l,r,d,g⟩
 have st:Stab (MM M0 β hp) (MM M0 (upd β id (some (b,s))) (upd (upd hp i none) id (some B))) β (upd β id (some (b,s))) w w:=
  ⟨⟨λ_ _ _ _=>rfl,λc _ _ v=>t c v,o,λ_ _ h=>h⟩,λ_ _ _=>rfl⟩
 refine⟨⟨h.below,h.m0,λj c r a=>?_,λy=>(bw _ _ (Nz hid0)).trans (h.pin (by rw[bw _ _ (Nz hid0)] at y;by_cases h00:0=i;(grind);rw[bw _ _ h00] at y;grind)),λj l a=>?_,λj k q K c s1 s2 d g n D=>?_⟩,st⟩;by_cases hji:j=id;subst hji;rw[bq] at a;cases a;exact h.rng i b s hb;rw[bw _ _ hji] at a;exact h.rng j c r a;by_cases hji:j=id;subst hji;rw[bq] at a;cases a;obtain⟨z,p,u⟩:=h.blk i B hi;rw[hb] at p;cases p;exact⟨b,bq _ _ _,u.stab st.toStabC rfl⟩;rw[bw _ _ hji] at a;by_cases hj2:j=i;subst hj2;rw[bq] at a;cases a;rw[bw _ _ hj2] at a;obtain⟨z,p,u⟩:=h.blk j l a;exact⟨z,o _ _ p,u.stab st.toStabC rfl⟩
 have m:∀j q c s1,upd (upd hp i none) id (some B) j=some q->upd β id (some (b,s)) j=some (c,s1)->∃f,(j=id->f=i)/\(j≠id->f=j/\j≠i)/\(∃l,hp f=some l)/\β f=some (c,s1):=by
  intro j q c s1 d n;by_cases a:j=id;subst a;rw[bq] at n;cases n;exact⟨i,λ_=>rfl,λJ=>absurd rfl J,⟨B,hi⟩,hb⟩;rw[bw _ _ a] at d n;by_cases hji:j=i;subst hji;rw[bq] at d;cases d;rw[bw _ _ hji] at d;grind
 obtain⟨f,L,M,⟨_,E⟩,G⟩:=m j q c s1 d n;obtain⟨F,b1,b2,⟨_,C⟩,H⟩:=m k K c s2 g D;have e:=h.inj f F _ _ c s1 s2 E C G H;grind
end
end Go.Abs
