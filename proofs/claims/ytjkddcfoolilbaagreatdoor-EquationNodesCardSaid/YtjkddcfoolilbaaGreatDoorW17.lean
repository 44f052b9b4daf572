/- Part W17 of the proof. -/
import Derived.Test.YtjkddcfoolilbaaGreatDoorW16
import Derived.Test.YtjkddcfoolilbaaGreatDoorProg
import Derived.KernelRfl
set_option linter.all false
namespace Go.Abs
theorem el_sol{c:Rat}{M:Mx}{n k:Nat}{x:Nat→Rat}(hk:k< n)(hz:∀j,j< k→M k j=0)(h:Sol c M n x):Sol c (elM M k n) n x:=by
 have hrow:∀i j,i< n→i≠k→elM M k n i j=M i j- M i k/ M k k* M k j:=fun i j hi hik=>by
  unfold elM;by_cases e:k≤j;rw[if_pos ⟨hi,hik,e⟩];rw[if_neg (fun e'=>e e'.2.2),hz j (by omega)];grind
 have hkk:∀j,elM M k n k j=M k j:=fun j=>by unfold elM;rw[if_neg (fun e=>e.2.1 rfl)]
 intro i hi;by_cases e:i=k;subst e;rw[hkk,bU_ (g:=fun j=>M i j* x j) n fun j _=>by rw[hkk]];exact h i hi;rw[hrow i n hi e,bU_ (g:=fun j=>M i j* x j- M i k/ M k k* (M k j* x j)) n fun j _=>by rw[hrow i j hi e];grind,ij_,h i hi,h k hk];grind
theorem gj_sol{M:Mx}{n:Nat}:∀k A,k≤n→gjM M n k=some A→∀c x,Sol c M n x→Sol c A n x
 |0,A,_,h=>by cases h;exact fun _ _ h=>h
 |k+1,A,hk,h=>by
  rw[gjM] at h;cases e:gjM M n k with
  |none=>rw[e] at h;cases h
  |some B=>
   rw[e,Option.bind_some] at h;have i1:=gj_sol k B (by omega) e;obtain⟨_,i2⟩:=fX_ k B (by omega) e;cases e2:pvt B n k with
   |none=>rw[e2] at h;cases h
   |some p=>
    rw[e2] at h;cases h;obtain⟨p1,p2,p3⟩:=hR_ e2;have d:=sh_ i2 p2 p1;exact fun c x hs=>el_sol (by omega) (fun j hj=>(d j hj).2 k (by omega) (by omega)) ((qj_ (by omega) p1).2 (i1 c x hs))
theorem rp_{M A:Mx}{n:Nat}(h:gjM M n n=some A){c:Rat}{x y:Nat→Rat}(hx:Sol c M n x)(hy:Sol c M n y):∀j,j< n→x j=y j:=by
 obtain⟨_,d⟩:=fX_ n A (Nat.le_refl _) h
 have key:∀z,Sol c M n z→∀i,i< n→A i i* z i=c* A i n:=fun z hz i hi=>by
  have h1:=gj_sol n A (Nat.le_refl _) h c z hz i hi;rw[bU_ (g:=fun j=>if j=i then A i i* z i else 0) n fun j hj=>?_,fA_,if_pos hi] at h1;exact h1;by_cases e:j=i;rw[if_pos e,e];rw[if_neg e,(d j hj).2 i hi (fun e'=>e e'.symm)];grind
 intro j hj;have h1:=key x hx j hj;have h2:=key y hy j hj;have h3:=(d j hj).1;have h4:A j j* (x j- y j)=0:=by grind
 rcases Rat.mul_eq_zero.1 h4 with h5|h5
 exact absurd h5 h3;grind
theorem nI_(A:Mx)(n:Nat):Sol 0 A n (fun _=>0):=fun i hi=>by
 rw[bU_ (g:=fun j=>if j=n then 0 else 0) n fun j hj=>by grind,fA_,if_neg (by omega)];grind
theorem Ech.gap{A:Mx}{n c:Nat}{L:List Nat}(h:Ech A n c L){i l:Nat}(hi:L[i]?=some l):∀d m,L[i+d]?=some m→l+d≤m
 |0,m,hm=>by rw[Nat.add_zero] at hm;rw[hi] at hm;cases hm;omega
 |d+1,m,hm=>by
  have hlt:=(List.getElem?_eq_some_iff.1 hm).1;have h1:L[i+d]?=some L[i+d]:=List.getElem?_eq_getElem (by omega);have h2:=h.gap hi d _ h1;have h3:=h.inc _ _ _ _ h1 hm (by omega);omega
theorem Ech.all{A:Mx}{n:Nat}{L:List Nat}(h:Ech A n n L)(hl:n≤L.length):∀j,j< n→j∈L:=fun j hj=>by
 have h1:L[j]?=some L[j]:=List.getElem?_eq_getElem (by omega);have h2:L[0]?=some L[0]:=List.getElem?_eq_getElem (by omega);have h3:L[j+(n- 1- j)]?=some L[j+(n- 1- j)]:=List.getElem?_eq_getElem (by omega);have g1:=h.gap h2 j L[j] (by rw[Nat.zero_add];exact h1);have g2:=h.gap h1 _ _ h3;have g3:=h.lt _ _ h3;have e:L[j]=j:=by omega
 rw[←e];exact List.getElem_mem _
theorem Ech.full{A:Mx}{n:Nat}{L:List Nat}(h:Ech A n n L)(hL:∀j,j< n→j∈L):n≤L.length:=by
 have key:∀j,j< n→∃k,j≤k∧L[k]?=some j:=fun j=>by
  induction j with
  |zero=>exact fun hj=>by obtain⟨k,hk⟩:=List.getElem?_of_mem (hL 0 hj);exact⟨k,Nat.zero_le _,hk⟩
  |succ j ih=>
   intro hj;obtain⟨k,k1,k2⟩:=ih (by omega);obtain⟨t,ht⟩:=List.getElem?_of_mem (hL (j+1) hj);refine⟨t,?_,ht⟩;by_cases e:k< t;omega;by_cases e2:t=k;rw[e2,k2] at ht;cases ht;have:=h.inc _ _ _ _ ht k2 (by omega);omega
 by_cases hn:n=0;omega;obtain⟨k,k1,k2⟩:=key (n- 1) (by omega);have:=(List.getElem?_eq_some_iff.1 k2).1;omega
theorem ra_{M:Mx}{n:Nat}(h:gjM M n n=none):(slM M n n).2.length< n:=by
 refine Nat.lt_of_not_le fun hl=>?_;obtain⟨x,⟨j,hj,hx⟩,hs⟩:=rq_ n (Nat.le_refl _) h;have hE:=da_ M n n;exact hx (hE.uniq ((kc_ n).2 hs) (nI_ _ _) (fun j hj g=>absurd (hE.all hl j hj) g) j hj)
theorem q8_{M A:Mx}{n:Nat}(h:gjM M n n=some A):n≤(slM M n n).2.length∧oneL (slM M n n).1 n (slM M n n).2=tabP n fun i=>A i n/ A i i:=by
 have hE:=da_ M n n
 have hl:n≤(slM M n n).2.length:=hE.full fun f hf=>by
  refine Classical.byContradiction fun g=>?_;have hz:=(kc_ n).1 (hE.zerX hf g);have h1:=rp_ h hz (nI_ M n) f hf;unfold Abs.zerX at h1;rw[if_neg (by simpa using g),if_pos rfl] at h1;exact absurd h1 (by decide)
 refine⟨hl,?_⟩;have h1:=(kc_ n).1 (hE.oneX fun i g1 g2=>by omega);have h2:=gj_end h;have h3:=rp_ h h1 h2;unfold oneL tabP;exact List.map_congr_left fun j hj=>h3 j (List.mem_range.1 hj)
theorem bdL_oneL{M:Mx}{n s:Nat}(hb:bdM M n s):bdL (oneL (slM M n n).1 n (slM M n n).2) (slB s n+1):=fun q hq=>by
 obtain⟨j,hj,rfl⟩:=List.mem_map.1 hq;have hE:=da_ M n n;unfold oneX;split
 ·rename_i g
  have g':j∈(slM M n n).2:=by simpa using g
  have h1:=List.idxOf_lt_length_of_mem g';have h2:=hE.len2;exact Nat.le_trans (o0_ hb n (Nat.le_refl _) _ _ (by omega) (Nat.le_refl _)) (Nat.le_succ _)
 exact Nat.le_trans (by decide:qs 0≤1) (Nat.le_add_left 1 _)

end Go.Abs
namespace Go.Proofs.YtjkddcfoolilbaaGreatDoor
open Go.Abs
set_option maxRecDepth 20000
theorem hmix:Tryz.prog.follows .mixedOrders=true:=by kernel_rfl
instance:T4 Tryz.prog 2 [Value.int IntKind.i64 0] 1 false 8:=⟨by kernel_rfl⟩
instance tu_2:TU Tryz.prog 2 (.int .i64):=⟨by kernel_rfl⟩
instance:T4 Tryz.prog 3 [Value.int IntKind.i64 0] 1 false 8:=⟨by kernel_rfl⟩
instance tu_3:TU Tryz.prog 3 (.int .i64):=⟨by kernel_rfl⟩
instance:T4 Tryz.prog 4 [Value.bool false] 1 false 1:=⟨by kernel_rfl⟩
instance tu_4:TU Tryz.prog 4 .bool:=⟨by kernel_rfl⟩
instance:T4 Tryz.prog 5 [Value.int IntKind.u8 0] 1 false 1:=⟨by kernel_rfl⟩
instance tu_5:TU Tryz.prog 5 (.int .u8):=⟨by kernel_rfl⟩
instance:T3 Tryz.prog 9 1 false 16:=⟨by kernel_rfl⟩
instance tu_9:TU Tryz.prog 9 .string:=⟨by kernel_rfl⟩
instance:T4 Tryz.prog 22 [Value.slice none 0 0] 1 false 24:=⟨by kernel_rfl⟩
instance te_22:TE Tryz.prog 22 (93,2):=⟨by kernel_rfl⟩
instance:T4 Tryz.prog 24 [Value.int IntKind.i64 0,Value.int IntKind.i64 0,Value.int IntKind.u8 0] 3 true 24:=⟨by kernel_rfl⟩
instance tp_24:TP Tryz.prog 24 [(0,1),(1,1),(2,1)]:=⟨by kernel_rfl⟩
instance:T2 Tryz.prog 24 0 (0,1) false:=⟨by kernel_rfl⟩
instance:T2 Tryz.prog 24 1 (1,1) false:=⟨by kernel_rfl⟩
instance:T2 Tryz.prog 24 2 (2,1) false:=⟨by kernel_rfl⟩
instance:T4 Tryz.prog 25 [Value.slice none 0 0] 1 false 24:=⟨by kernel_rfl⟩
instance te_25:TE Tryz.prog 25 (24,3):=⟨by kernel_rfl⟩
instance:T4 Tryz.prog 26 [Value.slice none 0 0] 1 false 24:=⟨by kernel_rfl⟩
instance te_26:TE Tryz.prog 26 (98,2):=⟨by kernel_rfl⟩
instance:T4 Tryz.prog 27 [Value.slice none 0 0] 1 false 24:=⟨by kernel_rfl⟩
instance te_27:TE Tryz.prog 27 (98,2):=⟨by kernel_rfl⟩
instance:T4 Tryz.prog 29 [Value.slice none 0 0] 1 false 24:=⟨by kernel_rfl⟩
instance te_29:TE Tryz.prog 29 (100,2):=⟨by kernel_rfl⟩
instance:T4 Tryz.prog 32 [Value.slice none 0 0] 1 false 24:=⟨by kernel_rfl⟩
instance te_32:TE Tryz.prog 32 (46,3):=⟨by kernel_rfl⟩
instance:T4 Tryz.prog 33 [Value.slice none 0 0] 1 false 24:=⟨by kernel_rfl⟩
instance te_33:TE Tryz.prog 33 (46,3):=⟨by kernel_rfl⟩
instance:T4 Tryz.prog 34 [Value.slice none 0 0] 1 false 24:=⟨by kernel_rfl⟩
instance te_34:TE Tryz.prog 34 (51,4):=⟨by kernel_rfl⟩
instance:T4 Tryz.prog 35 [Value.slice none 0 0] 1 false 24:=⟨by kernel_rfl⟩
instance te_35:TE Tryz.prog 35 (51,4):=⟨by kernel_rfl⟩
instance:T4 Tryz.prog 40 [Value.slice none 0 0] 1 false 24:=⟨by kernel_rfl⟩
instance te_40:TE Tryz.prog 40 (204,1):=⟨by kernel_rfl⟩
instance:T4 Tryz.prog 42 [Value.slice none 0 0] 1 true 24:=⟨by kernel_rfl⟩
instance tp_42:TP Tryz.prog 42 [(0,1)]:=⟨by kernel_rfl⟩
instance:T2 Tryz.prog 42 0 (0,1) false:=⟨by kernel_rfl⟩
instance:T4 Tryz.prog 44 [Value.slice none 0 0,Value.bool false] 2 true 32:=⟨by kernel_rfl⟩
instance tp_44:TP Tryz.prog 44 [(0,1),(1,1)]:=⟨by kernel_rfl⟩
instance:T2 Tryz.prog 44 0 (0,1) true:=⟨by kernel_rfl⟩
instance:T2 Tryz.prog 44 1 (1,1) false:=⟨by kernel_rfl⟩
instance:T4 Tryz.prog 46 [Value.slice none 0 0,Value.bool false,Value.slice none 0 0] 3 true 56:=⟨by kernel_rfl⟩
instance tp_46:TP Tryz.prog 46 [(0,2),(2,1)]:=⟨by kernel_rfl⟩
instance:T2 Tryz.prog 46 0 (0,2) true:=⟨by kernel_rfl⟩
instance:T2 Tryz.prog 46 1 (2,1) true:=⟨by kernel_rfl⟩
instance:T4 Tryz.prog 47 [Value.slice none 0 0] 1 false 24:=⟨by kernel_rfl⟩
instance te_47:TE Tryz.prog 47 (3,1):=⟨by kernel_rfl⟩
instance:T4 Tryz.prog 49 [Value.int IntKind.i64 0,Value.slice none 0 0] 2 true 32:=⟨by kernel_rfl⟩
instance tp_49:TP Tryz.prog 49 [(0,1),(1,1)]:=⟨by kernel_rfl⟩
instance:T2 Tryz.prog 49 0 (0,1) false:=⟨by kernel_rfl⟩
instance:T2 Tryz.prog 49 1 (1,1) false:=⟨by kernel_rfl⟩
instance:T4 Tryz.prog 51 [Value.int IntKind.i64 0,Value.slice none 0 0,Value.int IntKind.i64 0,Value.slice none 0 0] 4 true 64:=⟨by kernel_rfl⟩
instance tp_51:TP Tryz.prog 51 [(0,2),(2,2)]:=⟨by kernel_rfl⟩
instance:T2 Tryz.prog 51 0 (0,2) true:=⟨by kernel_rfl⟩
instance:T2 Tryz.prog 51 1 (2,2) true:=⟨by kernel_rfl⟩
instance:T4 Tryz.prog 58 [Value.slice none 0 0,Value.slice none 0 0,Value.bool false,Value.slice none 0 0,Value.slice none 0 0] 5 true 104:=⟨by kernel_rfl⟩
instance tp_58:TP Tryz.prog 58 [(0,1),(1,3),(4,1)]:=⟨by kernel_rfl⟩
instance:T2 Tryz.prog 58 0 (0,1) false:=⟨by kernel_rfl⟩
instance:T2 Tryz.prog 58 1 (1,3) true:=⟨by kernel_rfl⟩
instance:T2 Tryz.prog 58 2 (4,1) false:=⟨by kernel_rfl⟩
instance:T4 Tryz.prog 74 [Value.slice none 0 0,Value.bool false,Value.slice none 0 0,Value.slice none 0 0,Value.bool false,Value.slice none 0 0] 6 true 112:=⟨by kernel_rfl⟩
instance tp_74:TP Tryz.prog 74 [(0,3),(3,3)]:=⟨by kernel_rfl⟩
instance:T2 Tryz.prog 74 0 (0,3) true:=⟨by kernel_rfl⟩
instance:T2 Tryz.prog 74 1 (3,3) true:=⟨by kernel_rfl⟩
instance:T4 Tryz.prog 77 [Value.slice none 0 0] 1 false 24:=⟨by kernel_rfl⟩
instance te_77:TE Tryz.prog 77 (33,1):=⟨by kernel_rfl⟩
instance:T4 Tryz.prog 93 [Value.slice none 0 0,Value.slice none 0 0] 2 true 48:=⟨by kernel_rfl⟩
instance tp_93:TP Tryz.prog 93 [(0,1),(1,1)]:=⟨by kernel_rfl⟩
instance:T2 Tryz.prog 93 0 (0,1) false:=⟨by kernel_rfl⟩
instance:T2 Tryz.prog 93 1 (1,1) false:=⟨by kernel_rfl⟩
instance:T4 Tryz.prog 98 [Value.slice none 0 0,Value.slice none 0 0] 2 true 48:=⟨by kernel_rfl⟩
instance tp_98:TP Tryz.prog 98 [(0,1),(1,1)]:=⟨by kernel_rfl⟩
instance:T2 Tryz.prog 98 0 (0,1) false:=⟨by kernel_rfl⟩
instance:T2 Tryz.prog 98 1 (1,1) false:=⟨by kernel_rfl⟩
instance:T4 Tryz.prog 100 [Value.slice none 0 0,Value.slice none 0 0] 2 true 48:=⟨by kernel_rfl⟩
instance tp_100:TP Tryz.prog 100 [(0,1),(1,1)]:=⟨by kernel_rfl⟩
instance:T2 Tryz.prog 100 0 (0,1) false:=⟨by kernel_rfl⟩
instance:T2 Tryz.prog 100 1 (1,1) false:=⟨by kernel_rfl⟩
instance:T4 Tryz.prog 106 [Value.slice none 0 0,Value.slice none 0 0,Value.bool false,Value.slice none 0 0,Value.slice none 0 0,Value.bool false,Value.slice none 0 0,Value.slice none 0 0,Value.bool false,Value.slice none 0 0] 10 true 192:=⟨by kernel_rfl⟩
instance tp_106:TP Tryz.prog 106 [(0,1),(1,3),(4,3),(7,3)]:=⟨by kernel_rfl⟩
instance:T2 Tryz.prog 106 0 (0,1) false:=⟨by kernel_rfl⟩
instance:T2 Tryz.prog 106 1 (1,3) true:=⟨by kernel_rfl⟩
instance:T2 Tryz.prog 106 2 (4,3) true:=⟨by kernel_rfl⟩
instance:T2 Tryz.prog 106 3 (7,3) true:=⟨by kernel_rfl⟩
instance:T4 Tryz.prog 111 [Value.nilFunc] 1 false 8:=⟨by kernel_rfl⟩
instance:T4 Tryz.prog 114 [Value.slice none 0 0,Value.slice none 0 0,Value.bool false,Value.slice none 0 0,Value.slice none 0 0,Value.slice none 0 0,Value.bool false,Value.slice none 0 0,Value.slice none 0 0,Value.bool false,Value.slice none 0 0] 11 true 216:=⟨by kernel_rfl⟩
instance tp_114:TP Tryz.prog 114 [(0,5),(5,6)]:=⟨by kernel_rfl⟩
instance:T2 Tryz.prog 114 0 (0,5) true:=⟨by kernel_rfl⟩
instance:T2 Tryz.prog 114 1 (5,6) true:=⟨by kernel_rfl⟩
instance:T4 Tryz.prog 125 [Value.slice none 0 0] 1 false 24:=⟨by kernel_rfl⟩
instance te_125:TE Tryz.prog 125 (32,1):=⟨by kernel_rfl⟩
instance:T4 Tryz.prog 126 [Value.slice none 0 0] 1 false 24:=⟨by kernel_rfl⟩
instance te_126:TE Tryz.prog 126 (32,1):=⟨by kernel_rfl⟩
instance:T4 Tryz.prog 129 [Value.nilFunc] 1 false 8:=⟨by kernel_rfl⟩
instance:T4 Tryz.prog 131 [Value.slice none 0 0,Value.slice none 0 0,Value.int IntKind.i64 0] 3 true 56:=⟨by kernel_rfl⟩
instance tp_131:TP Tryz.prog 131 [(0,1),(1,1),(2,1)]:=⟨by kernel_rfl⟩
instance:T2 Tryz.prog 131 0 (0,1) false:=⟨by kernel_rfl⟩
instance:T2 Tryz.prog 131 1 (1,1) false:=⟨by kernel_rfl⟩
instance:T2 Tryz.prog 131 2 (2,1) false:=⟨by kernel_rfl⟩
instance:T4 Tryz.prog 135 [Value.slice none 0 0] 1 false 24:=⟨by kernel_rfl⟩
instance te_135:TE Tryz.prog 135 (34,1):=⟨by kernel_rfl⟩
instance:T4 Tryz.prog 148 [Value.nilFunc] 1 false 8:=⟨by kernel_rfl⟩
instance:T4 Tryz.prog 151 [Value.nilFunc] 1 false 8:=⟨by kernel_rfl⟩
instance:T4 Tryz.prog 161 [Value.nilFunc] 1 false 8:=⟨by kernel_rfl⟩
instance:T4 Tryz.prog 162 [Value.slice none 0 0] 1 false 24:=⟨by kernel_rfl⟩
instance te_162:TE Tryz.prog 162 (2,1):=⟨by kernel_rfl⟩
instance:T4 Tryz.prog 166 [Value.nilFunc] 1 false 8:=⟨by kernel_rfl⟩
instance:T4 Tryz.prog 168 [Value.slice none 0 0,Value.bool false,Value.slice none 0 0,Value.slice none 0 0,Value.bool false,Value.slice none 0 0,Value.int IntKind.i64 0] 7 true 120:=⟨by kernel_rfl⟩
instance tp_168:TP Tryz.prog 168 [(0,6),(6,1)]:=⟨by kernel_rfl⟩
instance:T2 Tryz.prog 168 0 (0,6) true:=⟨by kernel_rfl⟩
instance:T2 Tryz.prog 168 1 (6,1) false:=⟨by kernel_rfl⟩
instance:T4 Tryz.prog 170 [Value.nilFunc] 1 false 8:=⟨by kernel_rfl⟩
instance:T4 Tryz.prog 171 [Value.pointer none] 1 false 8:=⟨by kernel_rfl⟩
instance:T4 Tryz.prog 172 [Value.slice none 0 0] 1 false 24:=⟨by kernel_rfl⟩
instance te_172:TE Tryz.prog 172 (5,1):=⟨by kernel_rfl⟩
instance:T4 Tryz.prog 174 [Value.pointer none,Value.slice none 0 0] 2 true 32:=⟨by kernel_rfl⟩
instance tp_174:TP Tryz.prog 174 [(0,1),(1,1)]:=⟨by kernel_rfl⟩
instance:T2 Tryz.prog 174 0 (0,1) false:=⟨by kernel_rfl⟩
instance:T2 Tryz.prog 174 1 (1,1) false:=⟨by kernel_rfl⟩
instance:T4 Tryz.prog 187 [Value.nilFunc] 1 false 8:=⟨by kernel_rfl⟩
instance:T4 Tryz.prog 193 [Value.nilFunc] 1 false 8:=⟨by kernel_rfl⟩
instance:T4 Tryz.prog 204 [Value.int IntKind.u32 0] 1 false 4:=⟨by kernel_rfl⟩
instance tu_204:TU Tryz.prog 204 (.int .u32):=⟨by kernel_rfl⟩
instance:T4 Tryz.prog 205 [Value.int IntKind.u64 0] 1 false 8:=⟨by kernel_rfl⟩
instance tu_205:TU Tryz.prog 205 (.int .u64):=⟨by kernel_rfl⟩
instance:T4 Tryz.prog 217 [Value.pointer none] 1 false 8:=⟨by kernel_rfl⟩
instance:T4 Tryz.prog 228 [Value.nilFunc] 1 false 8:=⟨by kernel_rfl⟩
instance:T4 Tryz.prog 237 [Value.nilFunc] 1 false 8:=⟨by kernel_rfl⟩
instance:T4 Tryz.prog 240 [Value.nilFunc] 1 false 8:=⟨by kernel_rfl⟩
instance:T4 Tryz.prog 246 [Value.pointer none] 1 false 8:=⟨by kernel_rfl⟩
instance:T4 Tryz.prog 248 [Value.pointer none] 1 false 8:=⟨by kernel_rfl⟩
instance:T4 Tryz.prog 250 [Value.pointer none,Value.int IntKind.i64 0] 2 true 16:=⟨by kernel_rfl⟩
instance tp_250:TP Tryz.prog 250 [(0,1),(1,1)]:=⟨by kernel_rfl⟩
instance:T2 Tryz.prog 250 0 (0,1) false:=⟨by kernel_rfl⟩
instance:T2 Tryz.prog 250 1 (1,1) false:=⟨by kernel_rfl⟩
instance:T4 Tryz.prog 253 [Value.pointer none] 1 false 8:=⟨by kernel_rfl⟩
instance:T4 Tryz.prog 257 [Value.int IntKind.u64 0] 1 false 8:=⟨by kernel_rfl⟩
instance tu_257:TU Tryz.prog 257 (.int .u64):=⟨by kernel_rfl⟩
instance:T4 Tryz.prog 271 [Value.nilFunc] 1 false 8:=⟨by kernel_rfl⟩
instance:T4 Tryz.prog 278 [Value.slice none 0 0,Value.slice none 0 0,Value.int IntKind.i64 0] 3 true 56:=⟨by kernel_rfl⟩
instance tp_278:TP Tryz.prog 278 [(0,1),(1,1),(2,1)]:=⟨by kernel_rfl⟩
instance:T2 Tryz.prog 278 0 (0,1) false:=⟨by kernel_rfl⟩
instance:T2 Tryz.prog 278 1 (1,1) false:=⟨by kernel_rfl⟩
instance:T2 Tryz.prog 278 2 (2,1) false:=⟨by kernel_rfl⟩
instance:T4 Tryz.prog 281 [Value.nilFunc] 1 false 8:=⟨by kernel_rfl⟩
instance:T3 Tryz.prog 287 24 true 24:=⟨by kernel_rfl⟩
instance:T4 Tryz.prog 312 [Value.nilFunc] 1 false 8:=⟨by kernel_rfl⟩
instance:T3 Tryz.prog 315 20 true 160:=⟨by kernel_rfl⟩
instance:T3 Tryz.prog 316 65 true 65:=⟨by kernel_rfl⟩
instance:T3 Tryz.prog 331 32 true 32:=⟨by kernel_rfl⟩
instance:T3 Tryz.prog 332 64 true 64:=⟨by kernel_rfl⟩
abbrev FS:=FSpec Tryz.prog
theorem rt_(l:List Nat):FS 107 [.agg [.arr (dE l)]] (bln (l.length==0)):=by
 refine f_n Tryz.func107 ?_ ?_;exact aa_ (aw_ (aa_ (bp_ l) ac_)) ac_;refine r_z 2 ?_;refine r_z 5 ?_;refine ag_ (aH_ rfl ?_ (ad_ _));simp only[bln,gv_];congr 2;rw[Bool.eq_iff_iff];simp
theorem dH_(l:List Nat)(hl:l.length≤281474976710656):FS 144 [.arr (dE l)] (.agg [.arr (dE (trimD l))]):=by
 refine f_n Tryz.func144 ?_ ?_;exact aa_ (bp_ l) ac_;refine r_z 1 ?_;refine r_z 3 ?_;refine aQ_ (fun k:Nat=>⟨[(0,.arr (dE l)),(2,.lptr 1 0 0),(3,i64 k)],[(1,some ⟨42,1,[[.emp]]⟩)],2,23⟩) (fun k=>k≤l.length∧trimD l=l.take k) ?_ ?_;refine af_ (aq_ (fun k:Nat=>⟨[(0,.arr (dE l)),(2,.lptr 1 0 0),(3,i64 k)],[(1,some ⟨42,1,[[.emp]]⟩)],2,23⟩) (fun k=>k) (fun k=>k≤l.length∧∀i,k≤i→i< l.length→l[i]?=some 0) l.length ⟨Nat.le_refl _,fun i h1 h2=>by omega⟩ ?_ ?_);exact s_e [];rintro k ⟨hk,hz⟩;have fin:k=0∨l[k- 1]?≠some 0→trimD l=l.take k:=fa_ l k hk hz;by_cases h0:k=0;subst h0;refine ab_ (s_r 10 ?_);refine a_3 ?_;refine n_g rfl d_f ?_;refine n_g rfl d_f ?_;refine n_g rfl d_f ?_;refine n_g rfl d_f ?_;refine n_g rfl d_f ?_;refine n_g rfl d_f ?_;refine o_0 (.pickF rfl d_f rfl) ?_;refine ak_ ?_;refine aj_ rfl (fun h=>?_) (fun _=>?_);cases h;refine ao_ ⟨0,⟨hk,fin (.inl rfl)⟩,?_⟩;exact s_e [];have hk1:k- 1< l.length:=by omega
 obtain⟨d,hd⟩:∃d,l[k- 1]?=some d:=⟨_,List.getElem?_eq_getElem hk1⟩;have hd':(dE l)[((k:Int)- 1).toNat]?=some [u32 d]:=by rw[show((k:Int)- 1).toNat=k- 1 by omega];exact cd_ hd
 refine ab_ (s_r 10 ?_);refine a_3 ?_;refine y_g rfl d_t (.move rfl) ?_;refine y_g rfl d_t (.move rfl) ?_;refine y_g rfl d_t (.bin rfl rfl (gD_ (by omega))) ?_;refine y_g rfl d_t (.index_a rfl rfl (by omega) hd' rfl te_40.h) ?_;refine y_g rfl d_t (.load_a1 rfl hd' TG.h rfl) ?_;refine y_g rfl d_t (.bin rfl rfl aS_) ?_;refine o_0 (.pickT rfl d_t rfl) ?_;refine ak_ ?_;refine aj_ rfl (fun h=>?_) (fun h=>?_);refine ah_ ?_;have hd0:d=0:=by simpa using h
 subst hd0;refine af_ (r_m 3 ?_);refine a_z ?_;refine⟨k- 1,by omega,⟨by omega,fun i h1 h2=>?_⟩,?_⟩;by_cases hi:i=k- 1;rw[hi];exact hd;exact hz i (by omega) h2;exact s_e [];refine ao_ ⟨k,⟨hk,fin (.inr ?_)⟩,?_⟩;rw[hd];simp at h⊢;omega;exact s_e [];rintro k ⟨hk,ht⟩;refine s_r 6 ?_;refine a_3 ?_;refine o_0 (.sa_hm rfl rfl rfl rfl rfl ⟨Nat.le_refl _,by simpa using hk⟩ te_40.h (no_ l)) ?_;refine a_z ?_;refine ag_ (bN_ rfl rfl rfl TG.h TS.h (nle rfl) ?_ (aw_ (aa_ (bp_ _) ac_)));rw[ht,←sk_];rfl
theorem jK_(z:Int):FS 183 [i64 z] (bln false):=by
 refine f_c Tryz.func183 ?_;refine r_z 1 ?_;refine r_z 4 ?_;refine ag_ (aH_ rfl ?_ (ad_ _));simp[bln]
theorem jJ_(z:Nat):FS 184 [u32 z] (bln false):=by
 refine f_c Tryz.func184 ?_;refine r_z 1 ?_;refine r_z 4 ?_;refine ag_ (aH_ rfl ?_ (ad_ _));simp[bln]
theorem l9_(a b:Int):FS 147 [i64 a,i64 b] (i64 (cmpZ a b)):=by
 refine f_c Tryz.func147 ?_;refine r_z 1 ?_;refine r_c 3 (jK_ a) ?_;refine a_z ?_;refine r_c 3 (jK_ b) ?_;refine a_z ?_;refine ab_ (r_z 1 ?_);refine aj_ rfl (fun h=>?_) (fun _=>ah_ ?_);cases h;refine ab_ (r_z 1 ?_);refine aj_ rfl (fun h=>?_) (fun _=>ah_ ?_);cases h;refine ab_ (r_z 3 ?_);refine aj_ rfl (fun h=>?_) (fun h=>ah_ ?_);refine r_z 1 ?_;refine ag_ (aH_ rfl ?_ (ad_ _));simp at h;simp[i64,ofV,cmpZ,h];refine ab_ (r_z 3 ?_);refine aj_ rfl (fun h'=>?_) (fun h'=>ah_ ?_);refine r_z 1 ?_;refine ag_ (aH_ rfl ?_ (ad_ _));simp at h h';simp[i64,ofV,cmpZ];omega;refine r_z 1 ?_;refine ag_ (aH_ rfl ?_ (ad_ _));simp at h h';simp[i64,ofV,cmpZ];omega
theorem l8_(a b:Nat):FS 148 [u32 a,u32 b] (i64 (cmpZ a b)):=by
 refine f_c Tryz.func148 ?_;refine r_z 1 ?_;refine r_c 3 (jJ_ a) ?_;refine a_z ?_;refine r_c 3 (jJ_ b) ?_;refine a_z ?_;refine ab_ (r_z 1 ?_);refine aj_ rfl (fun h=>?_) (fun _=>ah_ ?_);cases h;refine ab_ (r_z 1 ?_);refine aj_ rfl (fun h=>?_) (fun _=>ah_ ?_);cases h;refine ab_ (r_z 3 ?_);refine aj_ rfl (fun h=>?_) (fun h=>ah_ ?_);refine r_z 1 ?_;refine ag_ (aH_ rfl ?_ (ad_ _));simp at h;simp[i64,ofV,cmpZ,h];refine ab_ (r_z 3 ?_);refine aj_ rfl (fun h'=>?_) (fun h'=>ah_ ?_);refine r_z 1 ?_;refine ag_ (aH_ rfl ?_ (ad_ _));simp at h h';simp[i64,ofV,cmpZ];omega;refine r_z 1 ?_;refine ag_ (aH_ rfl ?_ (ad_ _));simp at h h';simp[i64,ofV,cmpZ];omega
theorem digs_one{n:Nat}:(digs MB n).length=1∧(digs MB n)[0]?=some 1↔n=1:=by
 constructor;rintro⟨h1,h2⟩;have:=aY_ (b:=MB) (by decide) n
 match hd:digs MB n,h1,h2 with
 |[d],_,h2=>rw[hd] at this;simp at h2;subst h2;simpa[ofD] using this.symm
 rintro rfl;rw[cv_ (by decide) (by decide)];rw[show 1/ MB=0 by decide,be_];simp
theorem fs_one(n:Nat):FS 165 [.agg [mag n]] (bln (n==1)):=by
 refine f_c Tryz.func165 ?_;refine r_z 2 ?_;by_cases h1:(digs MB n).length=1;obtain⟨d,hd⟩:∃d,(digs MB n)[0]?=some d:=⟨_,List.getElem?_eq_getElem (by omega)⟩;have hd':(dE (digs MB n))[(0:Int).toNat]?=some [u32 d]:=cd_ hd;refine s_r 12 ?_;refine a_5 ?_;refine y_g rfl (by simp;omega) (.fieldAddr_l rfl TF.h (by decide)) ?_;refine y_g rfl (by simp;omega) (.load_l1 rfl rfl rfl TG.h rfl) ?_;refine y_g rfl (by simp;omega) (.index_a rfl rfl (by omega) hd' rfl te_40.h) ?_;refine y_g rfl (by simp;omega) (.load_a1 rfl hd' TG.h rfl) ?_;refine y_g rfl (by simp;omega) (.bin rfl rfl aS_) ?_;refine o_0 (.pickT rfl (by simp;omega) rfl) ?_;refine a_z ?_;refine ag_ (aH_ rfl ?_ (ad_ _));simp only[bln];congr 2;rw[Bool.eq_iff_iff];have:=digs_one (n:=n);simp only[h1,hd,true_and,Option.some.injEq] at this;simp only[beq_iff_eq,←this];omega;refine s_r 12 ?_;refine a_5 ?_;refine n_g rfl (by simp;omega) ?_;refine n_g rfl (by simp;omega) ?_;refine n_g rfl (by simp;omega) ?_;refine n_g rfl (by simp;omega) ?_;refine n_g rfl (by simp;omega) ?_;refine o_0 (.pickF rfl (by simp;omega) rfl) ?_;refine a_z ?_;refine ag_ (aH_ rfl ?_ (ad_ _));simp only[bln,ofV];congr 2;symm;rw[beq_eq_false_iff_ne];intro h;exact h1 (digs_one.2 h).1
def nJ_(n:Nat):Nat→AState
 |0=>⟨[(0,u64 n),(2,.lptr 1 0 0),(3,.emp)],[(1,some ⟨42,1,[[.emp]]⟩)],2,16⟩
 |k+1=>⟨[(0,u64 (restD n (k+1))),(2,.lptr 1 0 0),(3,.lsl 2 0 (k+1) none 1)],[(1,some ⟨42,1,[[.emp]]⟩),(2,some ⟨204,1,dE (preD n (k+1))⟩)],3,16⟩
theorem dm_(n:Nat)(h:n< 18446744073709551616):FS 146 [u64 n] (.agg [mag n]):=by
 have hlen:(digs MB n).length≤3:=cm_ (by decide) (Nat.lt_of_lt_of_le h (by decide));refine f_c Tryz.func146 ?_;refine r_z 1 ?_;refine r_z 1 ?_;refine aQ_ (nJ_ n) (fun k=>k=(digs MB n).length) ?_ ?_;refine af_ (aq_ (nJ_ n) (fun k=>(digs MB n).length- k) (fun k=>k≤(digs MB n).length) 0 (Nat.zero_le _) ?_ ?_);rw[nJ_.eq_1];exact s_e [];rintro k hk;have hle:=restD_le hk;have hz:=restD_eq hk;have hpl:=fP_ hk;cases k with
 |zero=>
  rw[jz_] at hz;refine ab_ (r_z 2 ?_);refine aj_ rfl (fun h=>?_) (fun h=>?_);refine ah_ ?_;have h0:0< n:=by simpa using h
  have hl1:0< (digs MB n).length:=by omega
  obtain⟨hq,ht⟩:=jA_ hl1;rw[jz_] at hq ht;refine ab_ (af_ (r_m 7 ?_));refine a_z ?_;refine r_m 3 ?_;refine a_z ?_;refine⟨1,by omega,hl1,?_⟩;rw[nJ_.eq_2];refine s_x [(2,3)] (fun hs=>?_) (fun hs=>?_) ?_
  ·repeat' (first|exact aD_|refine an_ rfl ?_ ?_|exact au_c|(refine Cv.loE hs ?_ (ad_ _);first|rfl|(simp[i64,u64,u32,bln,hq,ht,dR_];done)|(simp[i64,u64,u32,bln,hq,ht,dR_]<;> omega)))
  ·repeat' (first|exact au_|refine h_c ?_ ?_|exact au_e|(refine ay_ hs ?_ (a1_ _);first|(simp[d8_,e4_,ds_,hq,ht,dR_];done)|(simp[dE,u32,ofV,hq,ht,dR_];done))|refine ar_ ?_|exact am_|refine ae_ ?_ ?_|exact au_c|(refine Cv.loE hs ?_ (ad_ _);first|(simp[i64,u64,u32,bln,hq,ht,dR_];done)|(simp[i64,u64,u32,bln,hq,ht,dR_]<;> omega)))
  ·repeat' (first|exact ShrL.nil|refine ShrL.cons rfl rfl rfl rfl (by first|rfl|(simp;done)|(simp[hq,ht,dR_]<;> omega)) ?_)
  refine ao_ ⟨0,?_,?_⟩;have:¬0< n:=by simpa using h
  omega;rw[nJ_.eq_1];exact s_e []
 |succ k=>
  rw[nJ_.eq_2];refine ab_ (r_z 2 ?_);refine aj_ rfl (fun h=>?_) (fun h=>?_);refine ah_ ?_;have h0:0< restD n (k+1):=by simpa using h
  have hl1:k+1< (digs MB n).length:=by omega
  obtain⟨hq,ht⟩:=jA_ hl1;refine ab_ (af_ (r_m 7 ?_));refine a_z ?_;refine r_m 3 ?_;refine a_z ?_;refine⟨k+1+1,by omega,hl1,?_⟩;rw[nJ_.eq_2];refine s_x [(2,3)] (fun hs=>?_) (fun hs=>?_) ?_
  ·repeat' (first|exact aD_|refine an_ rfl ?_ ?_|exact au_c|(refine Cv.loE hs ?_ (ad_ _);first|rfl|(simp[i64,u64,u32,bln,hq,ht,hpl];done)|(simp[i64,u64,u32,bln,hq,ht,hpl]<;> omega)))
  ·repeat' (first|exact au_|refine h_c ?_ ?_|exact au_e|(refine ay_ hs ?_ (a1_ _);first|(simp[d8_,e4_,ds_,hq,ht,hpl];done)|(simp[dE,u32,ofV,hq,ht,hpl];done))|refine ar_ ?_|exact am_|refine ae_ ?_ ?_|exact au_c|(refine Cv.loE hs ?_ (ad_ _);first|(simp[i64,u64,u32,bln,hq,ht,hpl];done)|(simp[i64,u64,u32,bln,hq,ht,hpl]<;> omega)))
  ·repeat' (first|exact ShrL.nil|refine ShrL.cons rfl rfl rfl rfl (by first|rfl|(simp;done)|(simp[hq,ht,hpl]<;> omega)) ?_)
  refine ao_ ⟨k+1,?_,?_⟩;have:¬0< restD n (k+1):=by simpa using h
  omega;rw[nJ_.eq_2];exact s_e []
 rintro k rfl;cases hk:(digs MB n).length with
 |zero=>
  rw[nJ_.eq_1];refine r_z 3 ?_;refine ag_ (Fin.cell rfl rfl rfl TG.h TS.h (nle rfl) (Cv.agg (ae_ (Cv.emp _ ?_) am_)));unfold mag;rw[List.length_eq_zero_iff] at hk;rw[hk];rfl
 |succ k=>
  rw[nJ_.eq_2];refine r_z 3 ?_;refine ag_ (Fin.cell rfl rfl rfl TG.h TS.h (nle rfl) (Cv.agg (ae_ (Cv.shut as_ rfl (fun _ _ h=>by cases h) ?_ ?_) am_)));simp[fP_ (Nat.le_of_eq hk.symm)];refine ay_ as_ ?_ (a1_ _);have h1:(preD n (k+1)).length=k+1:=fP_ (Nat.le_of_eq hk.symm);have h2:=preD_end n;rw[hk] at h2;simp only[List.drop_zero,sk_];rw[List.take_of_length_le (Nat.le_of_eq h1),h2]
def plusS(p:Nat)(q:Nat):List Nat×Nat→AState
 |(s,c)=>⟨[(26,i64 s.length),(25,i64 (digs MB p).length),(24,mag p),(2,.lptr 1 0 0),(3,.lptr 2 0 0),(4,.lptr 3 0 0),(5,.lsl 4 0 ((digs MB p).length+1) (some ((digs MB p).length+1)) 1),(6,u32 c)],
  [(1,some ⟨42,1,[[mag p]]⟩),(2,some ⟨42,1,[[mag q]]⟩),(3,some ⟨42,1,[[.emp]]⟩),(4,some ⟨204,1,dE (s++List.replicate ((digs MB p).length+1- s.length) 0)⟩)],5,63⟩
structure PlusI (p q:Nat)(a:List Nat×Nat):Prop where
 le:a.1.length≤(digs MB p).length
 dig:∀d∈a.1,d< MB
 car:a.2≤1
 val:ofD MB a.1+MB^ a.1.length* a.2=ofD MB ((digs MB p).take a.1.length)+ofD MB ((digs MB q).take a.1.length)
theorem m1_(a b:Nat)(h:bl a+bl b≤17592186044416):FS 145 [.agg [mag a],.agg [mag b]] (.agg [mag (a+b)]):=by
 have hla:=aW_ (b:=MB) (by decide) a;have hlb:=aW_ (b:=MB) (by decide) b;refine f_c Tryz.func145 ?_;refine r_z 3 ?_;refine ab_ (r_z 7 ?_)
 refine av_ (fun x:Nat×Nat=>⟨[(2,.lptr 1 0 0),(3,.lptr 2 0 0),(4,.lptr 3 0 0)],[(1,some ⟨42,1,[[mag x.1]]⟩),(2,some ⟨42,1,[[mag x.2]]⟩),(3,some ⟨42,1,[[.emp]]⟩)],4,63⟩)
  (fun x=>x.1+x.2=a+b∧(digs MB x.2).length≤(digs MB x.1).length∧(digs MB x.1).length≤17592186044416) ?_ ?_
 refine aj_ rfl (fun h=>?_) (fun h=>?_);refine r_m 4 ?_;refine a_z ?_;refine⟨(b,a),⟨by simp;omega,?_,by simp;omega⟩,?_⟩;simp at h;simp;omega;exact s_e [];refine ah_ ⟨(a,b),⟨rfl,?_,by simp;omega⟩,?_⟩;simp at h;simpa using h;exact s_e [];rintro⟨p,q⟩ ⟨hpq,hqp,hp⟩;simp only at hpq hqp hp⊢;refine r_z 6 ?_;refine r_z 1 ?_;refine ab_ (r_z 4 ?_);refine av_ (plusS p q) (fun x=>PlusI p q x∧x.1.length=(digs MB p).length) ?_ ?_;refine af_ (aq_ (plusS p q) (fun x=>(digs MB p).length- x.1.length) (PlusI p q) ([],0) ⟨by simp,by simp,by simp,by simp[ofD]⟩ ?_ ?_);rw[plusS.eq_1];exact s_e [(4,5)];rintro⟨s,c⟩ ⟨hle,hdig,hcar,hval⟩;simp only at hle hdig hcar hval;rw[plusS.eq_1];refine r_z 1 ?_;refine ab_ (aj_ rfl (fun h=>?_) (fun h=>?_));refine ah_ ?_;have hlt:s.length< (digs MB p).length:=by simpa using h
 obtain⟨x,hx⟩:∃x,(digs MB p)[s.length]?=some x:=⟨_,List.getElem?_eq_getElem hlt⟩;have hx1:x< 1000000000:=bi_ (by decide) hx;have hx':(dE (digs MB p))[((s.length:Nat):Int).toNat]?=some [u32 x]:=cd_ hx;refine ab_ (af_ (s_r 5 ?_));refine a_1 ?_;refine i_x hx' ?_;refine l_1 hx' ?_;refine a_z ?_;refine r_z 4 ?_;refine ab_ (r_z 5 ?_)
 have hq0:∀y,((digs MB q)[s.length]?.getD 0=y)→y< 1000000000:=by
  rintro y rfl;cases hy:(digs MB q)[s.length]? with
  |none=>decide
  |some y=>exact bi_ (by decide) hy
 refine av_ (fun v:Nat=>⟨[(26,i64 s.length),(25,i64 (digs MB p).length),(24,mag p),(2,.lptr 1 0 0),(3,.lptr 2 0 0),(4,.lptr 3 0 0),(5,.lsl 4 0 ((digs MB p).length+1) (some ((digs MB p).length+1)) 1),(7,i64 s.length),(8,u32 v)],
  [(1,some ⟨42,1,[[mag p]]⟩),(2,some ⟨42,1,[[mag q]]⟩),(3,some ⟨42,1,[[.emp]]⟩),(4,some ⟨204,1,dE (s++List.replicate ((digs MB p).length+1- s.length) 0)⟩)],5,63⟩)
  (fun v=>v=x+c+(digs MB q)[s.length]?.getD 0) ?_ ?_
 refine aj_ rfl (fun h=>?_) (fun h=>?_);have hlt2:s.length< (digs MB q).length:=by simpa using h
 obtain⟨y,hy⟩:∃y,(digs MB q)[s.length]?=some y:=⟨_,List.getElem?_eq_getElem hlt2⟩;have hy1:y< 1000000000:=bi_ (by decide) hy;have hy':(dE (digs MB q))[((s.length:Nat):Int).toNat]?=some [u32 y]:=cd_ hy;refine r_m 8 ?_;refine a_4 ?_;refine i_x hy' ?_;refine l_1 hy' ?_;refine a_z ?_;refine⟨x+c+y,by rw[hy];rfl,?_⟩;exact s_e [];have hlt2:¬s.length< (digs MB q).length:=by simpa using h
 refine ah_ ⟨x+c,by rw[List.getElem?_eq_none (by omega)];rfl,?_⟩;exact s_e [];rintro v hv;obtain⟨y,hy⟩:∃y,y=(digs MB q)[s.length]?.getD 0:=⟨_,rfl⟩;have hy1:=hq0 y hy.symm;rw[←hy] at hv;refine r_z 1 ?_;refine ab_ (r_z 2 ?_)
 have hg:(dE (s++List.replicate ((digs MB p).length+1- s.length) 0))[0+((s.length:Nat):Int).toNat]?=some [u32 0]:=by
  rw[Nat.zero_add,Int.toNat_natCast];exact cd_ (by rw[show(digs MB p).length+1- s.length=((digs MB p).length- s.length)+1 by omega];exact ol_ _ _ _ rfl)
 have hset:∀w:Nat,(dE (s++List.replicate ((digs MB p).length+1- s.length) 0)).set (0+((s.length:Nat):Int).toNat) [u32 w]=dE ((s++[w])++List.replicate ((digs MB p).length+1- (s++[w]).length) 0):=by
  intro w;rw[Nat.zero_add,Int.toNat_natCast,d8_,show(digs MB p).length+1- s.length=((digs MB p).length- s.length)+1 by omega,nL_ _ _ _ _ rfl,show(digs MB p).length+1- (s++[w]).length=(digs MB p).length- s.length by simp]
 have hnext:∀w c',w+1000000000* c'=x+c+y→w< 1000000000→c'≤1→PlusI p q (s++[w],c'):=by
  intro w c' hw hwb hc';refine⟨by simp;omega,?_,hc',?_⟩;intro d hd;rcases List.mem_append.1 hd with hd|hd
  exact hdig d hd;simp at hd;subst hd;exact hwb;simp only[List.length_append,List.length_singleton];rw[dC_,bn_ _ hx,cl_,←hy,Nat.pow_succ];have e:MB^ s.length* w+MB^ s.length* MB* c'=MB^ s.length* (w+MB* c'):=by rw[Nat.mul_add,Nat.mul_assoc]
  have e2:MB^ s.length* (x+c+y)=MB^ s.length* x+MB^ s.length* c+MB^ s.length* y:=by rw[Nat.mul_add,Nat.mul_add]
  rw[hw,e2] at e;omega
 refine aj_ rfl (fun h=>?_) (fun h=>?_);have hb:1000000000≤v:=by have:=of_decide_eq_true h;omega
 have hv1:((v:Int)- 1000000000)=((v- 1000000000:Nat):Int):=by omega
 refine r_m 4 ?_;refine a_z ?_;refine r_m 5 ?_;refine a_4 ?_;refine o_1n (.store rfl rfl hg rfl rfl rfl TS.h (nle rfl)) ?_;refine ak_ ?_;refine r_m 2 ?_;refine a_z ?_;refine⟨(s++[v- 1000000000],1),by simp;omega,hnext _ _ (by omega) (by omega) (Nat.le_refl _),?_⟩;rw[plusS.eq_1];exact s_x [] (fun hs=>au_f) (fun hs=>e_20);have hb:v< 1000000000:=by have:=of_decide_eq_false h;omega
 refine ah_ (r_m 5 ?_);refine a_4 ?_;refine o_1n (.store rfl rfl hg rfl rfl rfl TS.h (nle rfl)) ?_;refine ak_ ?_;refine r_m 2 ?_;refine a_z ?_;refine⟨(s++[v],0),by simp;omega,hnext _ _ (by omega) hb (by omega),?_⟩;rw[plusS.eq_1];exact s_x [] (fun hs=>au_f) (fun hs=>e_21);refine ao_ ⟨(s,c),⟨⟨hle,hdig,hcar,hval⟩,?_⟩,?_⟩;simp at h;simp;omega;rw[plusS.eq_1];exact s_e [];rintro⟨s,c⟩ ⟨⟨hle,hdig,hcar,hval⟩,hlen⟩;simp only at hle hdig hcar hval hlen
 have hg:(dE (s++List.replicate ((digs MB p).length+1- s.length) 0))[0+(((digs MB p).length:Nat):Int).toNat]?=some [u32 0]:=by
  rw[Nat.zero_add,Int.toNat_natCast,←hlen];exact cd_ (by rw[show s.length+1- s.length=0+1 by omega];exact ol_ _ _ _ rfl)
 have hset:(dE (s++List.replicate ((digs MB p).length+1- s.length) 0)).set (0+(((digs MB p).length:Nat):Int).toNat) [u32 c]=dE (s++[c]):=by
  rw[Nat.zero_add,Int.toNat_natCast,←hlen,d8_,show s.length+1- s.length=0+1 by omega,nL_ _ _ _ _ rfl];simp
 have hres:trimD (s++[c])=digs MB (a+b):=by
  rw[et_ (b:=MB) (by decide),dC_,hval,dq_ _ (by omega),dq_ _ (by omega),aY_ (by decide),aY_ (by decide),hpq];intro d hd;rcases List.mem_append.1 hd with hd|hd
  exact hdig d hd;simp at hd;subst hd;show d< 1000000000;omega
 rw[plusS.eq_1];refine s_r 7 ?_;refine a_6 ?_;refine o_1n (.store rfl rfl hg rfl rfl rfl TS.h (nle rfl)) ?_;refine ak_ ?_;refine AWp.ent (st':=⟨[(4,.lptr 3 0 0),(5,.arr (dE (s++[c])))],[(3,some ⟨42,1,[[.emp]]⟩)],4,63⟩) ?_ ?_;refine s_x [] (fun hs=>?_) (fun hs=>?_)
 ·repeat' (first|exact aD_|refine an_ rfl ?_ ?_|exact Cv.sealE hs rfl (aB_ rfl) hset (by simp[hlen]) (a1_ _)|exact au_c)
 ·repeat' (first|exact au_|refine h_c ?_ ?_|exact au_e|refine ar_ ?_|exact am_|refine ae_ ?_ ?_|exact Cv.sealE hs rfl (aB_ rfl) hset (by simp[hlen]) (a1_ _)|exact au_c)
 refine s_r 3 ?_;refine o_0 (.move rfl) ?_;refine o_0 (.call rfl rfl rfl (dH_ _ (by simp;omega))) ?_;refine a_z ?_;refine ag_ (bN_ rfl rfl rfl TG.h TS.h (nle rfl) ?_ (aw_ (aa_ (ba_ _) ac_)));rw[hres];rfl
def agS(a:Nat)(b:Nat):Nat→AState
 |k=>⟨[(2,.lptr 1 0 0),(3,.lptr 2 0 0),(6,i64 ((k:Int)- 1))],[(1,some ⟨42,1,[[mag a]]⟩),(2,some ⟨42,1,[[mag b]]⟩)],3,40⟩
theorem gV_(a b:Nat)(h:bl a+bl b≤17592186044416):FS 80 [.agg [mag a],.agg [mag b]] (i64 (cmpZ a b)):=by
 have hla:=aW_ (b:=MB) (by decide) a;have hlb:=aW_ (b:=MB) (by decide) b;refine f_c Tryz.func80 ?_;refine r_z 3 ?_;refine ab_ (r_c 8 (l9_ _ _) ?_);refine a_z ?_;refine r_z 2 ?_;refine aj_ rfl (fun h=>?_) (fun h=>?_);have hne:cmpZ (digs MB a).length (digs MB b).length≠0:=by simpa using h
 refine r_z 2 ?_;refine ag_ (aH_ rfl ?_ (ad_ _));unfold i64;congr 2;rw[k2_] at hne;rcases Nat.lt_or_ge (digs MB a).length (digs MB b).length with hl|hl
 have:=ej_ (by decide) hl;rw[f3_ (by omega),f3_ (by omega)];have:=ej_ (m:=b) (n:=a) (b:=MB) (by decide) (by omega);rw[g4_ (by omega),g4_ (by omega)]
 have heq:(digs MB a).length=(digs MB b).length:=by
  have h0:¬cmpZ (digs MB a).length (digs MB b).length≠0:=by simpa using h
  rw[k2_] at h0;omega
 refine ah_ (ab_ (r_z 5 ?_));refine av_ (agS a b) (fun k=>k=0∧a=b) ?_ ?_;refine af_ (aq_ (agS a b) (fun k=>k) (fun k=>k≤(digs MB a).length∧(digs MB a).drop k=(digs MB b).drop k) (digs MB a).length ⟨Nat.le_refl _,by rw[List.drop_length,heq,List.drop_length]⟩ ?_ ?_);rw[agS.eq_1];exact s_e [];rintro k ⟨hk,hd⟩;rw[agS.eq_1];refine ab_ (r_z 2 ?_);refine aj_ rfl (fun h=>?_) (fun h=>?_);have hk0:0< k:=by have:=of_decide_eq_true h;omega
 obtain⟨x,hx⟩:∃x,(digs MB a)[k- 1]?=some x:=⟨_,List.getElem?_eq_getElem (by omega)⟩;obtain⟨y,hy⟩:∃y,(digs MB b)[k- 1]?=some y:=⟨_,List.getElem?_eq_getElem (by omega)⟩;have hx':(dE (digs MB a))[((k:Int)- 1).toNat]?=some [u32 x]:=by rw[show((k:Int)- 1).toNat=k- 1 by omega];exact cd_ hx
 have hy':(dE (digs MB b))[((k:Int)- 1).toNat]?=some [u32 y]:=by rw[show((k:Int)- 1).toNat=k- 1 by omega];exact cd_ hy
 rw[show k=(k- 1)+1 by omega] at hd;refine ah_ (ab_ (af_ (ab_ (r_d hmix 12 ?_))));refine a_3 ?_;refine i_x hx' ?_;refine l_1 hx' ?_;refine a_3 ?_;refine i_x hy' ?_;refine l_1 hy' ?_;refine c_s (l8_ x y) ?_;refine a_1 ?_;refine ak_ (n_k ?_);refine r_z 2 ?_;refine aj_ rfl (fun h2=>?_) (fun h2=>?_);have hne:cmpZ x y≠0:=by simpa using h2
 refine r_z 2 ?_;refine ag_ (aH_ rfl ?_ (ad_ _));unfold i64;congr 2;rw[k2_] at hne;rcases Nat.lt_or_ge x y with hl|hl
 have:=gg_ (b:=MB) (bR_ (by decide) a) hx hy hd hl;rw[aY_ (by decide),aY_ (by decide)] at this;rw[f3_ (by omega),f3_ (by omega)];have:=gg_ (b:=MB) (bR_ (by decide) b) hy hx hd.symm (by omega);rw[aY_ (by decide),aY_ (by decide)] at this;rw[g4_ (by omega),g4_ (by omega)]
 have hxy:x=y:=by
  have h0:¬cmpZ x y≠0:=by simpa using h2
  rw[k2_] at h0;omega
 refine ah_ (r_m 3 ?_);refine a_z ?_;refine⟨k- 1,by omega,⟨by omega,?_⟩,?_⟩;rw[c3_ hx,c3_ hy,hd,hxy];rw[agS.eq_1];exact s_e [];have hk0:k=0:=by have:=of_decide_eq_false h;omega
 subst hk0;refine ao_ ⟨0,⟨rfl,?_⟩,?_⟩;have:=congrArg (ofD MB) hd;rwa[List.drop_zero,List.drop_zero,aY_ (by decide),aY_ (by decide)] at this;rw[agS.eq_1];exact s_e [];rintro k ⟨rfl,hab⟩;rw[agS.eq_1];refine r_z 1 ?_;refine ag_ (aH_ rfl ?_ (ad_ _));subst hab;rw[sq_ rfl];rfl
def leS(a:Nat)(b:Nat):List Nat×Nat→AState
 |(s,c)=>⟨[(19,i64 s.length),(18,i64 (digs MB a).length),(2,.lptr 1 0 0),(3,.lptr 2 0 0),(4,.lptr 3 0 0),(5,.lsl 4 0 (digs MB a).length (some (digs MB a).length) 1),(6,u32 c)],
  [(1,some ⟨42,1,[[mag a]]⟩),(2,some ⟨42,1,[[mag b]]⟩),(3,some ⟨42,1,[[.emp]]⟩),(4,some ⟨204,1,dE (s++(digs MB a).drop s.length)⟩)],5,61⟩
def leT(n:Nat):List Nat×Unit→AState
 |(o,u)=>⟨[(4,.lptr 3 0 0),(5,.lsl 4 0 n (some n) 1)],
  [(3,some ⟨42,1,[[.emp]]⟩),(4,some ⟨204,1,dE o⟩)],5,61⟩
structure LessI (a b:Nat)(x:List Nat×Nat):Prop where
 le:x.1.length≤(digs MB a).length
 dig:∀d∈x.1,d< MB
 car:x.2≤1
 val:ofD MB x.1+ofD MB ((digs MB b).take x.1.length)=ofD MB ((digs MB a).take x.1.length)+MB^ x.1.length* x.2
theorem m3_(a b:Nat)(h:bl a≤17592186044416)(hba:b≤a):FS 167 [.agg [mag a],.agg [mag b]] (.agg [mag (a- b)]):=by
 have hla:=aW_ (b:=MB) (by decide) a;have hlen:=oi_ (b:=MB) (by decide) hba;have va:=aY_ (b:=MB) (by decide) a;have vb:=aY_ (b:=MB) (by decide) b;refine f_c Tryz.func167 ?_;refine r_z 3 ?_;refine r_z 5 ?_;refine s_r 4 ?_;refine a_3 ?_;refine o_1 (.copy rfl rfl rfl te_40.h rfl rfl rfl (by first|(simp;done)|(simp;omega)) (by first|exact cw_ _|exact cu_ _|exact b6_ _|exact cx_ _|exact ct_ _|rfl|simp) rfl (.arr (no_ _))) ?_;refine ak_ ?_
 have hcp:setAt (List.replicate (digs MB a).length [ofV (Value.int IntKind.u32 0)]) 0 (List.take (Nat.min (dE (digs MB a)).length (digs MB a).length) (dE (digs MB a)))=dE ([]++(digs MB a).drop 0):=by
  rw[qo_];rw[List.take_of_length_le (by simp)];rfl;simp
 refine r_z 1 ?_;refine ab_ (r_z 3 ?_);refine av_ (leT (digs MB a).length) (fun x=>(∀d∈x.1,d< MB)∧x.1.length=(digs MB a).length∧ofD MB x.1=a- b) ?_ ?_;refine af_ (aq_ (leS a b) (fun x=>(digs MB a).length- x.1.length) (LessI a b) ([],0) ⟨by simp,by simp,by simp,by simp[ofD]⟩ ?_ ?_);rw[leS.eq_1];exact s_x [(4,5)] (fun hs=>au_f) (fun hs=>e_23) e_22;rintro⟨s,c⟩ ⟨hle,hdig,hcar,hval⟩;simp only at hle hdig hcar hval;rw[leS.eq_1];refine r_z 1 ?_;refine ab_ (aj_ rfl (fun h=>?_) (fun h=>?_));have hlt:s.length< (digs MB a).length:=by have:=of_decide_eq_true h;omega
 obtain⟨x,hx⟩:∃x,(digs MB a)[s.length]?=some x:=⟨_,List.getElem?_eq_getElem hlt⟩;have hx1:x< 1000000000:=bi_ (by decide) hx;have hdx:=c3_ hx;refine ah_ (ab_ (af_ (r_z 2 ?_)));refine r_z 2 ?_;refine ab_ (r_z 5 ?_)
 refine av_ (fun v:Nat=>⟨[(19,i64 s.length),(18,i64 (digs MB a).length),(2,.lptr 1 0 0),(3,.lptr 2 0 0),(4,.lptr 3 0 0),(5,.lsl 4 0 (digs MB a).length (some (digs MB a).length) 1),(6,u32 c),(7,i64 s.length),(8,u32 v)],
  [(1,some ⟨42,1,[[mag a]]⟩),(2,some ⟨42,1,[[mag b]]⟩),(3,some ⟨42,1,[[.emp]]⟩),(4,some ⟨204,1,dE (s++(digs MB a).drop s.length)⟩)],5,61⟩)
  (fun v=>v=c+(digs MB b)[s.length]?.getD 0∧v≤1000000000) ?_ ?_
 refine aj_ rfl (fun h=>?_) (fun h=>?_);have hlt2:s.length< (digs MB b).length:=by have:=of_decide_eq_true h;omega
 obtain⟨y,hy⟩:∃y,(digs MB b)[s.length]?=some y:=⟨_,List.getElem?_eq_getElem hlt2⟩;have hy1:y< 1000000000:=bi_ (by decide) hy;have hy':(dE (digs MB b))[((s.length:Nat):Int).toNat]?=some [u32 y]:=cd_ hy;refine r_m 8 ?_;refine a_4 ?_;refine i_x hy' ?_;refine l_1 hy' ?_;refine a_z ?_;refine⟨c+y,⟨by rw[hy];rfl,by omega⟩,?_⟩;exact s_e [];have hlt2:¬s.length< (digs MB b).length:=by have:=of_decide_eq_false h;omega
 refine r_z 2 ?_;refine aj_ rfl (fun h=>?_) (fun h=>?_);have hc0:c=0:=by simpa using h
 refine ao_ ⟨(s++(digs MB a).drop s.length,()),⟨?_,by simp;omega,?_⟩,?_⟩;intro d hd;rcases List.mem_append.1 hd with hd|hd
 exact hdig d hd;exact bR_ (by decide) a d (List.mem_of_mem_drop hd);have:=bV_ MB s.length (digs MB a) (by omega);rw[va] at this;rw[dq_ _ (by omega),vb,hc0] at hval;simp only[dd_];omega;rw[leT.eq_1];exact s_e [];refine ah_ ⟨c,⟨by rw[List.getElem?_eq_none (by omega)];rfl,by omega⟩,?_⟩;exact s_e [];rintro v ⟨hv,hv1⟩;obtain⟨y,hy⟩:∃y,y=(digs MB b)[s.length]?.getD 0:=⟨_,rfl⟩;rw[←hy] at hv
 have hg:(dE (s++(digs MB a).drop s.length))[0+((s.length:Nat):Int).toNat]?=some [u32 x]:=by
  rw[Nat.zero_add,Int.toNat_natCast,hdx];exact cd_ (iO_ _ _ _ _ rfl)
 have hset:∀w:Nat,(dE (s++(digs MB a).drop s.length)).set (0+((s.length:Nat):Int).toNat) [u32 w]=dE ((s++[w])++(digs MB a).drop (s++[w]).length):=by
  intro w;rw[Nat.zero_add,Int.toNat_natCast,d8_,hdx,ii_ _ _ _ _ _ rfl];simp
 have hnext:∀w c',w+v=x+1000000000* c'→w< 1000000000→c'≤1→LessI a b (s++[w],c'):=by
  intro w c' hw hwb hc';refine⟨by simp;omega,?_,hc',?_⟩;intro d hd;rcases List.mem_append.1 hd with hd|hd
  exact hdig d hd;simp at hd;subst hd;exact hwb;simp only[List.length_append,List.length_singleton];rw[dC_,bn_ _ hx,cl_,←hy,Nat.pow_succ];have e:MB^ s.length* (w+v)=MB^ s.length* (x+MB* c'):=by rw[hw]
  rw[hv,Nat.mul_add,Nat.mul_add,Nat.mul_add,←Nat.mul_assoc] at e;omega
 refine r_z 1 ?_;refine ab_ (s_r 6 ?_);refine a_2 ?_;refine az_ (.index_l rfl rfl (by omega) (by omega) te_40.h) rfl rfl ?_;refine az_ (.load_l1 rfl rfl hg TG.h rfl) rfl rfl ?_;refine a_z ?_;refine aj_ rfl (fun h=>?_) (fun h=>?_);have hb:x< v:=by have:=of_decide_eq_true h;omega
 have hv2:((x:Int)+1000000000- v)=((x+1000000000- v:Nat):Int):=by omega
 have hv3:((x:Int)+1000000000)=((x+1000000000:Nat):Int):=by omega
 refine r_m 10 ?_;refine a_5 ?_;refine az_ (.load_l1 rfl rfl hg TG.h rfl) rfl rfl ?_;refine a_2 ?_;refine o_1n (.store rfl rfl hg rfl rfl rfl TS.h (nle rfl)) ?_;refine a_z ?_
 refine AWp.ent (st':=⟨[(19,i64 s.length),(18,i64 (digs MB a).length),(2,.lptr 1 0 0),(3,.lptr 2 0 0),(4,.lptr 3 0 0),(5,.lsl 4 0 (digs MB a).length (some (digs MB a).length) 1),(6,u32 1),(7,i64 s.length),(8,u32 v)],
  [(1,some ⟨42,1,[[mag a]]⟩),(2,some ⟨42,1,[[mag b]]⟩),(3,some ⟨42,1,[[.emp]]⟩),(4,some ⟨204,1,dE (s++(x+1000000000)::(digs MB a).drop (s.length+1))⟩)],5,61⟩) ?_ ?_
 refine s_x [] (fun hs=>au_f) (fun hs=>?_)
 ·repeat' (first|exact au_|refine h_c ?_ ?_|(refine ay_ hs ?_ (a1_ _);rw[hv3];exact(hset _).trans (by simp))|exact au_e)
 have hg2:(dE (s++(x+1000000000)::(digs MB a).drop (s.length+1)))[0+((s.length:Nat):Int).toNat]?=some [u32 (x+1000000000)]:=by
  rw[Nat.zero_add,Int.toNat_natCast];exact cd_ (iO_ _ _ _ _ rfl)
 have hset2:∀w:Nat,(dE (s++(x+1000000000)::(digs MB a).drop (s.length+1))).set (0+((s.length:Nat):Int).toNat) [u32 w]=dE ((s++[w])++(digs MB a).drop (s++[w]).length):=by
  intro w;rw[Nat.zero_add,Int.toNat_natCast,d8_,ii_ _ _ _ _ _ rfl];simp
 have hv2:(((x+1000000000:Nat):Int)- v)=((x+1000000000- v:Nat):Int):=by omega
 refine r_m 8 ?_;refine a_2 ?_;refine az_ (.index_l rfl rfl (by omega) (by omega) te_40.h) rfl rfl ?_;refine az_ (.load_l1 rfl rfl hg2 TG.h rfl) rfl rfl ?_;refine a_3 ?_;refine o_1n (.store rfl rfl hg2 rfl rfl rfl TS.h (nle rfl)) ?_;refine ak_ ?_;refine r_m 2 ?_;refine a_z ?_;refine⟨(s++[x+1000000000- v],1),by simp;omega,hnext _ _ (by omega) (by omega) (by omega),?_⟩;rw[leS.eq_1];refine s_x [] (fun hs=>au_f) (fun hs=>?_)
 ·repeat' (first|exact au_|refine h_c ?_ ?_|(refine ay_ hs ?_ (a1_ _);rw[hv2];exact hset2 _)|exact au_e)
 have hb:v≤x:=by have:=of_decide_eq_false h;omega
 have hv1:((x:Int)- v)=((x- v:Nat):Int):=by omega
 refine ah_ (r_m 8 ?_);refine a_2 ?_;refine az_ (.index_l rfl rfl (by omega) (by omega) te_40.h) rfl rfl ?_;refine az_ (.load_l1 rfl rfl hg TG.h rfl) rfl rfl ?_;refine a_3 ?_;refine o_1n (.store rfl rfl hg rfl rfl rfl TS.h (nle rfl)) ?_;refine ak_ ?_;refine r_m 2 ?_;refine a_z ?_;refine⟨(s++[x- v],0),by simp;omega,hnext _ _ (by omega) (by omega) (by omega),?_⟩;rw[leS.eq_1];exact s_x [] (fun hs=>au_f) (fun hs=>e_20);have hl:s.length=(digs MB a).length:=by have:=of_decide_eq_false h;omega
 refine ao_ ⟨(s,()),⟨hdig,hl,?_⟩,?_⟩;have h1:=dr_ hdig;rw[hl,dq_ _ hlen,dq_ _ (Nat.le_refl _),va,vb] at hval;rw[hl] at h1
 have h2:c=0:=by
  rcases Nat.eq_zero_or_pos c with h|h
  exact h;have:MB^ (digs MB a).length* 1≤MB^ (digs MB a).length* c:=Nat.mul_le_mul_left _ h;omega
 subst h2;simp at hval⊢;omega;rw[leT.eq_1];refine s_x [] (fun hs=>?_) (fun hs=>?_) ?_
 ·repeat' (first|exact aD_|refine an_ rfl ?_ ?_|exact au_c|(refine Cv.loE hs ?_ (ad_ _);first|rfl|(simp[i64,u64,u32,bln,hl];done)|(simp[i64,u64,u32,bln,hl]<;> omega)))
 ·repeat' (first|exact au_|refine h_c ?_ ?_|exact au_e|(refine ay_ hs ?_ (a1_ _);first|(simp[d8_,e4_,ds_,hl];done)|(simp[dE,u32,ofV,hl];done))|refine ar_ ?_|exact am_|refine ae_ ?_ ?_|exact au_c|(refine Cv.loE hs ?_ (ad_ _);first|(simp[i64,u64,u32,bln,hl];done)|(simp[i64,u64,u32,bln,hl]<;> omega)))
 ·repeat' (first|exact ShrL.nil|refine ShrL.cons rfl rfl rfl rfl (by first|rfl|(simp;done)|(simp[hl]<;> omega)) ?_)
 rintro⟨o,u⟩ ⟨hd,hl,hv⟩;rw[leT.eq_1];refine AWp.ent (st':=⟨[(4,.lptr 3 0 0),(5,.arr (dE o))],[(3,some ⟨42,1,[[.emp]]⟩)],4,61⟩) ?_ ?_;refine s_x [] (fun hs=>?_) (fun hs=>?_)
 ·repeat' (first|exact aD_|refine an_ rfl ?_ ?_|exact Cv.sealE hs rfl (aB_ rfl) rfl (by simp[hl]) (a1_ _)|exact au_c)
 ·repeat' (first|exact au_|refine h_c ?_ ?_|exact au_e|refine ar_ ?_|exact am_|refine ae_ ?_ ?_|exact Cv.sealE hs rfl (aB_ rfl) rfl (by simp[hl]) (a1_ _)|exact au_c)
 simp only at hl hv;refine s_r 3 ?_;refine o_0 (.move rfl) ?_;refine o_0 (.call rfl rfl rfl (dH_ _ (by omega))) ?_;refine o_1n (.store rfl rfl rfl rfl rfl rfl TS.h (nle rfl)) ?_;refine ak_ ?_;refine ag_ (bN_ rfl rfl rfl TG.h TS.h (nle rfl) ?_ (aw_ (aa_ (ba_ _) ac_)));rw[et_ (b:=MB) (by decide) hd,hv];rfl
end Go.Proofs.YtjkddcfoolilbaaGreatDoor
