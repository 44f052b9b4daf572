/- Part W17 of the proof. -/
import Derived.Test.YtdjfjpeoddmamaaGreatDoorW16
import Derived.ProofKit
import Derived.OpenShut
import Derived.Carry
import Derived.Deep.Slices
import Derived.Deep.Strs
import Derived.ChangeSame
set_option linter.all false
namespace Go.Proofs.YtdjfjpeoddmamaaGreatDoor
open Go.Abs
set_option maxRecDepth 20000
abbrev NRow:=Int×Int×Nat
def nV(r:NRow):Rat:=numV r.1 r.2.1 r.2.2
def nR(l:List NRow):List (List AV):=l.map fun r=>nuC r.1 r.2.1 r.2.2
def nL(l:List NRow):List Rat:=l.map nV
abbrev rL(l:List Rat):List (List AV):=rE (l.map rq)
def okR(l:List NRow):Prop:=∀r∈l,i64r r.1∧i64r r.2.1∧r.2.2≤255
theorem ba_(l:List NRow):∀e∈nR l,∀c∈e,Closed c:=by
 intro e he c hc
 obtain⟨r,_,rfl⟩:=List.mem_map.1 he
 exact cp_ _ _ _ c hc
theorem eT_(l:List Rat):∀e∈rL l,∀c∈e,Closed c:=aY_ _
theorem fs_{N D:Int}{p:Nat}(hN:i64r N)(hD:i64r D):qs (numV N D p)≤256:=by
 obtain⟨d,hd⟩:∃d,d=dNum D:=⟨_,rfl⟩
 have hd0:d≠0:=by rw[hd];unfold dNum;split <;> omega
 have hdr:i64r d:=by
  rw[hd];unfold dNum i64r;unfold i64r at hD;split <;> omega
 unfold i64r at hN hdr
 obtain⟨q,hq⟩:∃q,q=Rat.divInt N d:=⟨_,rfl⟩
 have hnv:numV N D p=powQ q (p % 4):=by unfold numV;rw[←hd,←hq]
 have hqs:qs q≤64:=by
  have hb:∀z:Int,-9223372036854775808≤z∧z≤9223372036854775808→bl z.natAbs≤64:=fun z h=>bl_le (k:=64) (by omega)
  rw[hq]
  by_cases hn:d< 0
  rw[gm_ N d hn]
  exact c6_ (by omega) (hb (-N) (by omega)) (hb d (by omega))
  rw[gl_ N d (by omega)]
  exact c6_ (by omega) (hb N (by omega)) (hb d (by omega))
 have h1:=lS_ q (p % 4)
 have h2:(p % 4+1) * qs q≤4* 64:=Nat.mul_le_mul (by omega) hqs
 rw[hnv];omega
theorem nL_qs{l:List NRow}(h:okR l):∀q∈nL l,qs q≤256:=by
 intro q hq
 obtain⟨r,hr,rfl⟩:=List.mem_map.1 hq
 exact fs_ (h r hr).1 (h r hr).2.1
def liS(l:List NRow):List Rat→Nat→AState
 |[],i=>⟨[(0,.arr (nR l)),(4,.emp),(5,.emp),(6,i64 i)],[],1,33⟩
 |q::Q,i=>⟨[(0,.arr (nR l)),(4,.lsl 1 0 (Q.length+1) none 3),(5,.lsl 2 0 (Q.length+1) none 4),(6,i64 i)],[(1,some ⟨35,3,pE (q::Q)⟩),(2,some ⟨42,4,rL (q::Q)⟩)],3,33⟩
theorem hH_(l:List NRow)(i:Nat):liS l [] i=⟨[(0,.arr (nR l)),(4,.emp),(5,.emp),(6,i64 i)],[],1,33⟩:=rfl
theorem e5_(l:List NRow)(q:Rat)(Q:List Rat)(i:Nat):liS l (q::Q) i=⟨[(0,.arr (nR l)),(4,.lsl 1 0 (Q.length+1) none 3),(5,.lsl 2 0 (Q.length+1) none 4),(6,i64 i)],[(1,some ⟨35,3,pE (q::Q)⟩),(2,some ⟨42,4,rL (q::Q)⟩)],3,33⟩:=rfl
theorem qa_(l:List NRow)(hl:l.length≤1099511627776)(hb:okR l):FSpec Tryz.prog 101 [.arr (nR l)] (.tup [.arr (pE (nL l)),.arr (rL (nL l))]):=by
 have hcr:∀q:Rat,∀e∈[rC (rq q)],∀c∈e,Closed c:=fun q=>eT_ [q]
 refine f_n Tryz.func101 ?_ ?_
 exact aa_ (aC_ (ba_ l)) ab_
 refine r_z 2 ?_
 refine r_z 1 ?_
 refine r_z 1 ?_
 refine ac_ (r_z 1 ?_)
 refine aD_ (fun _:Unit=>liS l (nL l) l.length) (fun _=>True) ?_ ?_
 refine ah_ (ax_ (fun i:Nat=>liS l (nL (l.take i)) i) (fun i=>l.length- i) (fun i=>i≤l.length) 0 (Nat.zero_le _) ?_ ?_)
 show SEnt _ (liS l [] 0)
 rw[hH_]
 have:=(aC_ (ba_ l))
 exact s_f []
 rintro i hi
 have hlen:(nR l).length=l.length:=by simp[nR]
 by_cases hlt:i< l.length
 ·obtain⟨n,hn⟩:∃n,l[i]?=some n:=⟨_,List.getElem?_eq_getElem hlt⟩
  have hgt:(nR l)[((i:Nat):Int).toNat]?=some (nuC n.1 n.2.1 n.2.2):=by
   show(nR l)[i]?=_
   simp[nR,hn]
  obtain⟨hn1,hn2,hn3⟩:=hb n (List.mem_of_getElem? hn)
  have hbo:=fY_ n.1 n.2.1 n.2.2 hn1 hn2 hn3
  obtain⟨v,hv⟩:∃v,v=numV n.1 n.2.1 n.2.2:=⟨_,rfl⟩
  rw[←hv] at hbo
  have htk:nL (l.take (i+1))=nL (l.take i)++[v]:=by rw[cw_ hn];simp[nL,nV,hv]
  have hQl:(nL (l.take i)).length=i:=by simp[nL];omega
  cases hQ:nL (l.take i) with
  |nil=>
   simp only[hH_]
   refine ac_ (r_z 4 ?_)
   refine am_ rfl (fun h=>?_) (fun h=>?_)
   rotate_left
   exact absurd h (by simp[nR];omega)
   refine ag_ (ac_ (ah_ (s_r 12 ?_)))
   refine a_2 ?_
   refine i_x hgt ?_
   refine l_x hgt ?_
   refine c_s (hbo) ?_
   refine a_z ?_
   refine r_d hmix 10 ?_
   refine a_8 ?_
   refine a_2 ?_
   refine an_ (n_k ?_)
   refine r_m 3 ?_
   refine a_z ?_
   refine⟨i+1,by omega,hlt,?_⟩
   simp only[htk,hQ,List.nil_append,e5_]
   refine as_ [(1,4),(2,5)] rfl rfl rfl au_r (fun hs=>?_) (fun hs=>?_)
   ·repeat' (first|exact aA_|refine aw_ rfl ?_ ?_)
    all_goals (first|(exact al_ hs (aC_ (ba_ l)))|exact au_c)
   ·repeat' (first|exact ao_|refine ak_ rfl rfl rfl rfl ?_ ?_)
    all_goals (first|((try exact aQ_ hs (aH_ [v]));(try exact aQ_ hs (eT_ [v])))|exact au_e|(refine ae_ ?_;repeat' (first|exact ap_|refine af_ ?_ ?_)))
    all_goals (first|(exact al_ hs (aC_ (ba_ l)))|exact au_c)
  |cons q Q=>
   rw[hQ] at hQl
   simp at hQl
   simp only[e5_]
   refine ac_ (r_z 4 ?_)
   refine am_ rfl (fun h=>?_) (fun h=>?_)
   rotate_left
   exact absurd h (by simp[nR];omega)
   refine ag_ (ac_ (ah_ (s_r 12 ?_)))
   refine a_2 ?_
   refine i_x hgt ?_
   refine l_x hgt ?_
   refine c_s (hbo) ?_
   refine a_z ?_
   refine r_d hmix 10 ?_
   refine a_8 ?_
   refine a_2 ?_
   refine an_ (n_k ?_)
   refine r_m 3 ?_
   refine a_z ?_
   refine⟨i+1,by omega,hlt,?_⟩
   simp only[htk,hQ,List.cons_append,e5_]
   have e:pE (q::Q)++[qC v]=pE (q::(Q++[v])):=by simp[pE]
   have e2:rL (q::Q)++[rC (rq v)]=rL (q::(Q++[v])):=by simp[rE]
   refine as_ [(1,4),(2,5)] rfl rfl rfl ?_ (fun hs=>?_) (fun hs=>?_)
   ·repeat' (first|exact ShrL.nil|refine ShrL.cons rfl rfl rfl rfl (by first|(simp)|rfl|(simp;done)|(simp <;> omega)) ?_)
   ·repeat' (first|exact aA_|refine aw_ rfl ?_ ?_)
    all_goals (first|(exact al_ hs (aC_ (ba_ l)))|exact au_c)
   ·repeat' (first|exact ao_|refine ak_ rfl rfl rfl rfl ?_ ?_)
    all_goals (first|((try exact aG_ hs e (aH_ _));(try exact aG_ hs e2 (eT_ _)))|exact au_e|(refine ae_ ?_;repeat' (first|exact ap_|refine af_ ?_ ?_)))
    all_goals (first|(exact al_ hs (aC_ (ba_ l)))|exact au_c)
 have hge:i=l.length:=by omega
 subst hge
 simp only[List.take_length]
 cases hQ:nL l with
 |nil=>
  simp only[hH_]
  refine ac_ (r_z 4 ?_)
  refine am_ rfl (fun h=>?_) (fun h=>?_)
  exact absurd h (by simp[nR])
  refine au_ ⟨(),trivial,?_⟩
  simp only[hQ,hH_]
  have:=(aC_ (ba_ l))
  exact s_f []
 |cons q Q=>
  simp only[e5_]
  refine ac_ (r_z 4 ?_)
  refine am_ rfl (fun h=>?_) (fun h=>?_)
  exact absurd h (by simp[nR])
  refine au_ ⟨(),trivial,?_⟩
  simp only[hQ,e5_]
  have:=(aC_ (ba_ l))
  exact s_f []
 rintro _ _
 cases hQ:nL l with
 |nil=>
  simp only[hH_]
  refine r_z 4 ?_
  refine ai_ (Fin.many ⟨_,_,rfl,rfl,⟨_,_,rfl,rfl,rfl⟩⟩ (nle rfl) ?_)
  exact af_ (Cv.emp _) (af_ (Cv.emp _) ap_)
 |cons q Q=>
  simp only[e5_]
  refine r_z 4 ?_
  refine ai_ (Fin.many ⟨_,_,rfl,rfl,⟨_,_,rfl,rfl,rfl⟩⟩ (nle rfl) ?_)
  exact af_ (Cv.sealE at_ rfl (fun _ _ h=>by cases h) rfl (by simp) (aH_ _)) (af_ (Cv.sealE at_ rfl (fun _ _ h=>by cases h) rfl (by simp) (eT_ _)) ap_)
theorem fs_BothP(l:List NRow)(hl:l.length≤1099511627776)(hb:okR l):FSpec Tryz.prog 22 [.arr (nR l)] (.tup [.arr (pE (nL l)),.arr (rL (nL l))]):=by
 refine f_n Tryz.func22 ?_ ?_
 exact aa_ (aC_ (ba_ l)) ab_
 refine r_z 2 ?_
 refine r_c 7 (qa_ l hl hb) ?_
 refine a_z ?_
 refine r_z 4 ?_
 refine ai_ (Fin.many ⟨_,_,rfl,rfl,⟨_,_,rfl,rfl,rfl⟩⟩ (nle rfl) ?_)
 exact af_ (al_ at_ (aC_ (aH_ _))) (af_ (al_ at_ (aC_ (eT_ _))) ap_)
end Go.Proofs.YtdjfjpeoddmamaaGreatDoor
namespace Go.Proofs.YtdjfjpeoddmamaaGreatDoor
open Go.Abs Go.Deep Go.RowKit
set_option maxRecDepth 20000
theorem ess_of{M:Nat→Prop}{β:Nat→Option (Nat×Nat)}{w:World}{b s off:Nat}{f:Nat→List AV}:∀(n j:Nat),(∀i,i< j+n→(f i).length=s∧RVcs M β w b (f i) (off+i* s))→RVess M β w b s ((List.range' j n).map f) (off+j* s)
 |0,_,_=>trivial
 |n+1,j,h=>by
  rw[List.range'_succ,List.map_cons]
  refine⟨(h j (by omega)).1,(h j (by omega)).2,?_⟩
  have:=ess_of (M:=M) (β:=β) (w:=w) (b:=b) (s:=s) (off:=off) n (j+1) (fun i hi=>h i (by omega))
  rwa[Nat.add_mul,Nat.one_mul,←Nat.add_assoc] at this
theorem kv_{w:World}{b o:Nat}{v:Value}(h:w.cell? ⟨b,o,none⟩=some v):∃N,aM_ w b=some N:=by
 unfold World.cell? at h
 unfold aM_
 split at h
 ·rename_i c _ _ e;rw[show w.heap[b]?=_ from e];exact⟨c.size,rfl⟩
 cases h
theorem tyS:(Tryz.prog).underlying 26=some (.slice 23):=by kernel_rfl
theorem tyN:∃f0 f1 f2,(Tryz.prog).underlying 23=some (.struct #[f0,f1,f2])∧f0.type=2∧f0.offset=0∧f1.type=2∧f1.offset=1∧f2.type=5∧f2.offset=2:=
 ⟨{name:= "N",type:=2,offset:=0,embedded:=false,tag:= "",pkgPath:= "",byteOffset:=0},{name:= "D",type:=2,offset:=1,embedded:=false,tag:= "",pkgPath:= "",byteOffset:=8},{name:= "Pow",type:=5,offset:=2,embedded:=false,tag:= "",pkgPath:= "",byteOffset:=16},by kernel_rfl,rfl,rfl,rfl,rfl,rfl,rfl⟩
theorem tyc82:(Tryz.prog).cellsOf 23=3:=by kernel_rfl
theorem tyc2:(Tryz.prog).cellsOf 2=1:=by kernel_rfl
theorem tyc5:(Tryz.prog).cellsOf 5=1:=by kernel_rfl
theorem tyu2:(Tryz.prog).underlying 2=some (.int .i64):=by kernel_rfl
theorem tyu5:(Tryz.prog).underlying 5=some (.int .u8):=by kernel_rfl
theorem kN_{H:Type}{enc:TypeId×Value→H}{W:World}{base n:Nat}{spare:Nat→Bool}{held:Bool}{cs:List Value}{x:DataW H×List MemPlace}(h:DataW.trod enc Tryz.prog W base spare held n 23 cs=some x):
    ∃r:NRow,i64r r.1∧i64r r.2.1∧r.2.2≤255∧cs=[.int .i64 r.1,.int .i64 r.2.1,.int .u8 r.2.2]:=by
 obtain⟨f0,f1,f2,hu,h1,h2,h3,h4,h5,h6⟩:=tyN
 obtain⟨y0,y1,y2,m,_,hl,g0,g1,g2⟩:=trod_struct3 hu h
 rw[h1,h2,tyc2] at g0
 rw[h3,h4,tyc2] at g1
 rw[h5,h6,tyc5] at g2
 rw[tyc82] at hl
 obtain⟨n0,e0,_,w0⟩:=DataW.trod_int tyu2 g0
 obtain⟨n1,e1,_,w1⟩:=DataW.trod_int tyu2 g1
 obtain⟨n2,e2,_,w2⟩:=DataW.trod_int tyu5 g2
 match cs,hl with
 |[c0,c1,c2],_=>
  simp at e0 e1 e2
  subst e0;subst e1;subst e2
  have b2:=bounds_u8 w2
  refine⟨(n0,n1,n2.toNat),bounds_i64 w0,bounds_i64 w1,?_,?_⟩
  show n2.toNat≤255;omega
  show _=[_,_,Value.int .u8 ((n2.toNat:Nat):Int)]
  rw[Int.toNat_of_nonneg b2.1]
theorem o8_{H:Type}{enc:TypeId×Value→H}{W:World}{a:Option Addr}{len cap:Nat}{d:DataW H}{ps:List MemPlace}(h:DataW.Trod enc Tryz.prog W 0 (fun _=>true) true 26 (.slice a len cap) d ps):
    ∃l:List NRow,okR l∧RV (fun _=>False) (fun _=>none) W (.arr (nR l)) (.slice a len cap):=by
 obtain⟨fuel,hf⟩:=h
 rcases open_slice tyS hf with⟨hcs,_⟩|⟨x,len',cap',m,n,D,Pl,hcs,_,hl,hm,hmm,_,hx⟩
 simp[Value.cells] at hcs
 obtain⟨rfl,rfl,rfl⟩:=hcs
 exact⟨[],(fun r hr=>by cases hr),none,0,rfl,Nat.le_refl _,by decide,.inl rfl⟩
 simp[Value.cells] at hcs
 obtain⟨rfl,rfl,rfl⟩:=hcs
 simp only[if_true] at hmm
 have hmc:m=cap:=hmm
 rw[hmc] at hx
 rw[tyc82] at hx
 have hx':∀i,i< len→∃r:NRow,(i64r r.1∧i64r r.2.1∧r.2.2≤255)∧W.cells? 0 (x.add (i* 3)) 3=some [.int .i64 r.1,.int .i64 r.2.1,.int .u8 r.2.2]:=fun i hi=>by
  obtain⟨cs',g1,g2⟩:=hx i (by omega)
  obtain⟨r,r1,r2,r3,e⟩:=kN_ g2
  exact⟨r,⟨r1,r2,r3⟩,by rw[g1,e]⟩
 obtain⟨R,hR⟩:=choose_lt (α:=NRow) hx'
 refine⟨(List.range len).map R,?_,some x,cap,by simp[nR],by simpa[nR] using hl,hm,?_⟩
 intro r hr
 obtain⟨i,hi,rfl⟩:=List.mem_map.1 hr
 exact(hR i (List.mem_range.1 hi)).1
 by_cases h0:len=0
 subst h0;exact .inl rfl
 right
 have c:∀i,i< len→∀j (v:Value),[.int .i64 (R i).1,.int .i64 (R i).2.1,.int .u8 (R i).2.2][j]?=some v→W.cell? (x.add (i* 3+j))=some v:=fun i hi j v hv=>by
  have hj:j< 3:=by
   have:=(List.getElem?_eq_some_iff.1 hv).1
   simpa using this
  have:=(World.cells?_some (hR i hi).2).2.2 j hj
  rw[hv,Go.Deep.add_add] at this
  exact this
 have c0:=c 0 (by omega) 0 _ rfl
 obtain⟨b,off,spot⟩:=x
 have hspot:spot=none:=by simpa[Addr.add] using World.cell?_spot c0
 subst hspot
 have hadd:∀k,Addr.add ⟨b,off,none⟩ k=⟨b,off+k,none⟩:=fun k=>by
  unfold Addr.add
  by_cases hk:k=0
  simp[hk]
  simp[hk]
 refine⟨b,off,3,rfl,kv_ (by rw[hadd] at c0;exact c0),(fun h=>h),?_⟩
 have:=ess_of (M:=fun _=>False) (β:=fun _=>none) (w:=W) (b:=b) (s:=3) (off:=off) (f:=fun i=>nuC (R i).1 (R i).2.1 (R i).2.2) len 0 (fun i hi=>⟨rfl,?_⟩)
 rw[Nat.zero_mul,Nat.add_zero,←List.range_eq_range'] at this
 rw[nR,List.map_map]
 exact this
 have hi':i< len:=by omega
 refine⟨⟨_,?_,rfl⟩,⟨_,?_,rfl⟩,⟨_,?_,rfl⟩,trivial⟩
 have:=c i hi' 0 _ rfl;rw[hadd] at this;exact this
 have:=c i hi' 1 _ rfl;rw[hadd] at this;rw[Nat.add_assoc];exact this
 have:=c i hi' 2 _ rfl;rw[hadd] at this;rw[Nat.add_assoc,Nat.add_assoc];exact this
end Go.Proofs.YtdjfjpeoddmamaaGreatDoor
namespace Go.Proofs.YtdjfjpeoddmamaaGreatDoor
open Go.Abs Go.Deep Go.RowKit Go.WideShapes
set_option maxRecDepth 20000
def okN(r:NRow):Prop:=i64r r.1∧i64r r.2.1∧r.2.2≤255
theorem tyu3:(Tryz.prog).underlying 3=some (.int .i64):=by kernel_rfl
end Go.Proofs.YtdjfjpeoddmamaaGreatDoor
namespace Go.Proofs.YtdjfjpeoddmamaaGreatDoor
open Go.Abs Go.ChangeShapes Go.Deep Go.RowKit Go.WideShapes
set_option maxRecDepth 20000
theorem tyG:∃f0 f1,(Tryz.prog).underlying 25=some (.struct #[f0,f1])∧f0.type=23∧f0.offset=0∧f1.type=23∧f1.offset=3:=
 ⟨{name:= "Low",type:=23,offset:=0,embedded:=false,tag:= "",pkgPath:= "",byteOffset:=0},{name:= "High",type:=23,offset:=3,embedded:=false,tag:= "",pkgPath:= "",byteOffset:=24},by kernel_rfl,rfl,rfl,rfl,rfl⟩
theorem tycG:(Tryz.prog).cellsOf 25=6:=by kernel_rfl
end Go.Proofs.YtdjfjpeoddmamaaGreatDoor
namespace Go.Proofs.YtdjfjpeoddmamaaGreatDoor
open Go.Abs Go.Deep Go.RowKit Go.WideShapes
set_option maxRecDepth 20000

end Go.Proofs.YtdjfjpeoddmamaaGreatDoor
namespace Go.Proofs.YtdjfjpeoddmamaaGreatDoor
open Go.Abs
set_option maxRecDepth 20000
def okL(n:Nat)(p last:List Rat):Prop:=okMul (aN_ [0,1] ((2* (n:Int)+1:Int):Rat)) p∧smL last∧smL (aN_ last ((n:Int):Rat))∧smL (subP (mulP (aN_ [0,1] ((2* (n:Int)+1:Int):Rat)) p) (aN_ last ((n:Int):Rat)))∧(mulP (aN_ [0,1] ((2* (n:Int)+1:Int):Rat)) p).length≤1000∧last.length≤1000∧n≤1000
instance (n:Nat) (p last:List Rat):Decidable (okL n p last):=inferInstanceAs (Decidable (_∧_∧_∧_∧_∧_∧_))
def stH(n:Nat)(p last:List Rat):List Rat:=subP (mulP twP p) (aN_ last ((2* (n:Int):Int):Rat))
def okH(n:Nat)(p last:List Rat):Prop:=okMul twP p∧smL last∧smL (aN_ last ((2* (n:Int):Int):Rat))∧(mulP twP p).length≤1000∧last.length≤1000∧n≤1000
instance (n:Nat) (p last:List Rat):Decidable (okH n p last):=inferInstanceAs (Decidable (_∧_∧_∧_∧_∧_))

def okC(_:Nat)(p last:List Rat):Prop:=okMul twP p∧smL last∧(mulP twP p).length≤1000∧last.length≤1000
instance (n:Nat) (p last:List Rat):Decidable (okC n p last):=inferInstanceAs (Decidable (_∧_∧_∧_))
theorem qe_(p:List Rat)(h:eC_ p)(h0:trimQ p≠[])(hl:p.length≤1099511627776):FSpec Tryz.prog 57 [.arr (pE p)] (.tup [.agg (qC (cC_ p)),i64 0]):=by
 refine f_n Tryz.func57 ?_ ?_
 exact aa_ (ar_ p) ab_
 refine r_z 2 ?_
 refine ac_ (r_c 3 (bz_ p hl) ?_)
 refine a_z ?_
 refine am_ rfl (fun h1=>?_) (fun h1=>?_)
 exact absurd (degP_neg.1 (by simpa using h1)) h0
 refine ag_ (r_c 4 (fs_bound p h h0) ?_)
 refine a_z ?_
 refine ai_ (Fin.many ⟨_,_,rfl,⟨_,_,_,_,_,rfl,rfl,rfl,.inl ⟨tg_35.h,_,ts_35.h,nle rfl,rfl⟩⟩,⟨_,_,rfl,rfl,rfl⟩⟩ (nle rfl) ?_)
 exact af_ (al_ at_ (av_ _)) (af_ (al_ at_ (ad_ _)) ap_)
theorem fs_Count(f:Nat)(p:List Rat)(c:Cnt)(s:Sp)(hc:eS_ f p=some c)(hf:f≤1000000)(h1:okBe c s.1)(h2:okUp c s.2)(hs:smS s)(hv:cmpQ s.1 s.2≤0)(hl:hK_ p=0)(hp:p.length≤1099511627776):
    FSpec Tryz.prog 56 [.arr (pE p),.agg (spC s.1 s.2)] (.tup [i64 (uptoV c s.2- f6_ c s.1),i64 0]):=by
 have hb1:=gQ_ (x:=s.2) h2.1
 have hb2:=qN_ (x:=s.1) h1.1.1
 have hla:=fs_large p hp
 rw[hl] at hla
 refine f_n Tryz.func56 ?_ ?_
 exact aa_ (ar_ p) (aa_ (bX_ _ _) ab_)
 refine r_z 3 ?_
 refine ac_ (r_c 3 (eM_ s.1 s.2 hs.1 hs.2) ?_)
 refine a_z ?_
 refine am_ rfl (fun h3=>?_) (fun h3=>?_)
 exact absurd h3 (by simp[hv])
 refine ag_ (ac_ (r_c 3 (hla) ?_))
 refine a_z ?_
 refine r_z 2 ?_
 refine am_ rfl (fun h4=>?_) (fun h4=>?_)
 exact absurd h4 (by decide)
 refine ag_ (r_c 3 (pY_ f p c hc hf) ?_)
 refine a_z ?_
 refine ac_ (r_d hmix 11 ?_)
 refine c_s (pN_ c s.2 h2) ?_
 refine c_s (fs_below c s.1 h1) ?_
 refine a_3 ?_
 refine an_ (n_k ?_)
 refine ai_ (Fin.many ⟨_,_,rfl,rfl,⟨_,_,rfl,rfl,rfl⟩⟩ (nle rfl) ?_)
 exact af_ (al_ at_ (ad_ _)) (af_ (al_ at_ (ad_ _)) ap_)
theorem dz_(a b:Rat)(hb:b≠0)(h:qs a+qs b≤549755813888):FSpec Tryz.prog 95 [.agg (qC a),.agg (qC b)] (.agg (qC (a/ b))):=by
 refine f_n Tryz.func95 ?_ ?_
 exact aa_ (av_ a) (aa_ (av_ b) ab_)
 refine r_z 3 ?_
 refine r_c 9 (pX_ a b hb h) ?_
 refine a_z ?_
 refine r_z 2 ?_
 exact ai_ (c_e (av_ _))
theorem aZ_(n:Int)(h: -9223372036854775808≤n∧n≤9223372036854775807):FSpec Tryz.prog 80 [i64 n] (.agg (qC (n:Rat))):=by
 refine f_n Tryz.func80 ?_ ?_
 exact aa_ (ad_ _) ab_
 refine r_z 1 ?_
 refine r_c 3 (dA_ n h) ?_
 refine a_z ?_
 exact ai_ (c_e (av_ _))
theorem bo_(n lo hi:Int):FSpec Tryz.prog 78 [i64 n,i64 lo,i64 hi] (bln (decide (n< lo∨hi< n))):=by
 refine f_n Tryz.func78 ?_ ?_
 exact aa_ (ad_ _) (aa_ (ad_ _) (aa_ (ad_ _) ab_))
 refine r_z 1 ?_
 by_cases h:n< lo
 rw[decide_eq_true (Or.inl h)]
 refine q_z 9 ?_
 exact ai_ (t_e (ad_ _))
 by_cases h2:hi< n
 rw[decide_eq_true (Or.inr h2)]
 refine q_z 9 ?_
 exact ai_ (t_e (ad_ _))
 rw[decide_eq_false (fun e=>e.elim h h2)]
 refine q_z 9 ?_
 exact ai_ (t_e (ad_ _))
theorem l6_(p q:List Rat)(h:okDiv p q)(h0:trimQ q≠[]):FSpec Tryz.prog 189 [.arr (pE p),.arr (pE q)] (.arr (pE (divP p q).2)):=by
 refine f_n Tryz.func189 ?_ ?_
 exact aa_ (ar_ p) (aa_ (ar_ q) ab_)
 refine r_z 1 ?_
 refine r_c 10 (qd_ p q h h0) ?_
 refine a_z ?_
 refine r_z 2 ?_
 exact ai_ (t_e (ar_ _))
theorem ob_(p:List Rat)(hb:bdL p 68719476736)(h0:trimQ p≠[])(hl:p.length≤1099511627776):FSpec Tryz.prog 96 [.arr (pE p)] (.arr (pE (bd_ p))):=by
 have hp:smL p:=f7_ hb (by decide)
 have hle:qs (leadP p)≤68719476736:=by
  obtain⟨n,hn⟩:∃n,(trimQ p).length=n+1:=⟨(trimQ p).length- 1,by have:=List.length_pos_iff.2 h0;omega⟩
  exact hb _ (bk_ (List.mem_of_getElem? (bG_ hn)))
 have q1:qs ((1:Int):Rat)=1:=by decide
 have hq:=d1_ ((1:Int):Rat) (leadP p)
 have e:bd_ p=aN_ p (((1:Int):Rat) / leadP p):=by unfold bd_;rw[if_neg h0];rfl
 rw[e]
 refine f_n Tryz.func96 ?_ ?_
 exact aa_ (ar_ p) ab_
 refine r_z 1 ?_
 refine r_c 7 (aZ_ 1 (by decide)) ?_
 refine c_s (fx_ p hl) ?_
 refine o_0 (.call rfl rfl rfl (dz_ _ (leadP p) (b9_ h0) (by omega))) ?_
 refine o_0 (.call rfl rfl rfl (dN_ p _ hp (by unfold sm;omega) hl)) ?_
 refine o_0 (.assign rfl) ?_
 refine an_ ?_
 exact ai_ (t_e (ar_ _))
theorem ma_(f:List Rat)(a b:Rat)(hf:smL f)(hl:f.length≤1000000)(ha:dy_ (aI_ f) a)(hb:dy_ (aI_ f) b):FSpec Tryz.prog 82 [.arr (pE f),.agg (spC a b)] (.agg (qC (evalP (aI_ f) b- evalP (aI_ f) a))):=by
 have q1:=nt_ ha
 have q2:=nt_ hb
 unfold sm at q1 q2
 refine f_n Tryz.func82 ?_ ?_
 exact aa_ (ar_ f) (aa_ (bX_ _ _) ab_)
 refine r_z 2 ?_
 refine r_c 3 (mh_ f hf (by omega)) ?_
 refine a_z ?_
 refine ac_ (r_d hmix 10 ?_)
 refine c_s (j0_ (aI_ f) b hb) ?_
 refine c_s (j0_ (aI_ f) a ha) ?_
 refine o_0 (.call rfl rfl rfl (ne_ _ _ (by omega))) ?_
 refine o_1n (.store rfl rfl rfl rfl rfl rfl ts_35.h (nle rfl)) ?_
 refine an_ (n_k ?_)
 exact ai_ (c_e (av_ _))
theorem jS_(p:List Rat)(h:eC_ p)(h0:trimQ p≠[])(hl:p.length≤1099511627776):FSpec Tryz.prog 235 [.arr (pE p)] (.agg (spC (-cC_ p) (cC_ p))):=by
 refine f_n Tryz.func235 ?_ ?_
 exact aa_ (ar_ p) ab_
 refine r_z 1 ?_
 refine r_c 8 (qe_ p h h0 hl) ?_
 refine a_z ?_
 refine ac_ (r_d hmix 5 ?_)
 refine c_s (gH_ (cC_ p)) ?_
 refine a_3 ?_
 refine an_ (n_k ?_)
 exact ai_ (c_e (bX_ _ _))
def wC(m:List Rat)(l r:Bool)(lo hi:List AV):List AV:=[.arr (pE m),bln l,bln r]++lo++hi
def okC2(lo:List AV):Prop:=lo=zC∨∃q,lo=qC q
theorem ic_{lo:List AV}(h:okC2 lo):∀c∈lo,Closed c:=by
 rcases h with rfl|⟨q,rfl⟩
 exact dD_
 exact aK_ q
theorem aJ_{m:List Rat}{l r:Bool}{lo hi:List AV}(h:okC2 lo)(h2:okC2 hi):∀c∈wC m l r lo hi,Closed c:=fun c hc=>by
 unfold wC at hc
 rcases List.mem_append.1 hc with hc|hc
 rcases List.mem_append.1 hc with hc|hc
 exact aa_ (ar_ m) (aa_ (ad_ _) (aa_ (ad_ _) ab_)) c hc
 exact ic_ h c hc
 exact ic_ h2 c hc
def ofS(t:List Rat)(W:List AV):Nat×Rat→AState
 |(i,o)=>⟨[(2,.lptr 1 0 0),(4,.lptr 2 0 0),(5,.lptr 3 0 0),(9,.arr (pE t)),(10,i64 t.length),(11,i64 i)],[(1,some ⟨51,9,[W]⟩),(2,some ⟨35,3,[zC]⟩),(3,some ⟨35,3,[qC o]⟩)],4,27⟩
theorem pl_(t:List Rat)(W:List AV)(i:Nat)(o:Rat):ofS t W (i,o)=⟨[(2,.lptr 1 0 0),(4,.lptr 2 0 0),(5,.lptr 3 0 0),(9,.arr (pE t)),(10,i64 t.length),(11,i64 i)],[(1,some ⟨51,9,[W]⟩),(2,some ⟨35,3,[zC]⟩),(3,some ⟨35,3,[qC o]⟩)],4,27⟩:=rfl
theorem fs_of(p m:List Rat)(l r:Bool)(a b:Rat)(s t:Nat)(hp:bdL p s)(hm:bdL m t)(hs:1≤s)(ht:1≤t)(hpl:p.length≤1000000)(hlen:(trimQ p).length≤m.length)(hlim:(p.length+2) * (s+t+1)≤137438953472):
    FSpec Tryz.prog 114 [.agg (wC m l r (qC a) (qC b)),.arr (pE p)] (.agg (qC (ofQ (trimQ p) m (trimQ p).length))):=by
 obtain⟨T,hT⟩:∃T,T=trimQ p:=⟨_,rfl⟩
 have htl:=a9_ p
 have hTb:bdL T s:=fun q hq=>hp q (bk_ (by rw[←hT];exact hq))
 have htr:=cz_ p (by omega)
 rw[←hT] at htl hlen htr⊢
 obtain⟨W,hW⟩:∃W,W=wC m l r (qC a) (qC b):=⟨_,rfl⟩
 have hWc:∀c∈W,Closed c:=by rw[hW];exact aJ_ (.inr ⟨a,rfl⟩) (.inr ⟨b,rfl⟩)
 rw[hW] at hWc
 refine f_n Tryz.func114 ?_ ?_
 exact aa_ (aq_ hWc) (aa_ (ar_ p) ab_)
 refine r_z 2 ?_
 refine r_z 1 ?_
 refine ac_ (r_c 4 (htr) ?_)
 refine a_z ?_
 have hWr:W=wC m l r (qC a) (qC b):=hW
 refine aD_ (fun _:Unit=>⟨[(4,.lptr 1 0 0),(5,.lptr 2 0 0)],[(1,some ⟨35,3,[zC]⟩),(2,some ⟨35,3,[qC (ofQ T m T.length)]⟩)],3,27⟩) (fun _=>True) ?_ ?_
 refine ah_ (ax_ (ofS T (wC m l r (qC a) (qC b))) (fun x=>T.length- x.1) (fun x=>x.1≤T.length∧x.2=ofQ T m x.1) (0,0) ⟨Nat.zero_le _,rfl⟩ ?_ ?_)
 simp only[pl_]
 rw[qC0]
 exact s_f [(1,2),(2,4),(3,5)]
 rintro⟨i,o⟩ ⟨hi,ho⟩
 simp only at hi ho
 rw[pl_]
 by_cases hlt:i< T.length
 refine q_z 1 ?_
 refine ac_ (cT (ag_ ?_))
 have hgt:(pE T)[((i:Nat):Int).toNat]?=some (qC (coP T i)):=bC_ (bc_ hlt)
 have hgm:(pE m)[((i:Nat):Int).toNat]?=some (qC (coP m i)):=bC_ (bc_ (by omega))
 have hc:=bQ_ hTb hs i
 have hd:=bQ_ hm ht i
 have hq:=kK_ hTb hm hs ht i
 rw[←ho] at hq
 have e1:i* (s+t+1)≤(p.length+1) * (s+t+1):=Nat.mul_le_mul_right _ (by omega)
 have e2:(p.length+2) * (s+t+1)=(p.length+1) * (s+t+1)+(s+t+1):=Nat.succ_mul _ _
 have hmu:=cW_ (coP T i) (coP m i) (by omega)
 have hqm:=cb_ (coP T i) (coP m i)
 have had:=fm_ o (coP T i* coP m i) (by omega)
 refine ac_ (ah_ (s_r 6 ?_))
 refine a_1 ?_
 refine i_x hgt ?_
 refine l_x hgt ?_
 refine a_z ?_
 refine r_d hmix 10 ?_
 refine a_5 ?_
 refine i_x hgm ?_
 refine l_x hgm ?_
 refine c_s (hmu) ?_
 refine c_s (had) ?_
 refine a_1 ?_
 refine an_ (n_k ?_)
 refine r_m 2 ?_
 refine a_z ?_
 refine⟨(i+1,o+coP T i* coP m i),by simp only;omega,⟨hlt,by simp only;rw[ofQ,←ho]⟩,?_⟩
 simp only[pl_]
 exact s_f []
 have hge:i=T.length:=by omega
 subst hge
 refine q_z 1 ?_
 refine ac_ (cF (au_ ⟨(),trivial,?_⟩))
 rw[ho]
 exact s_e [(1,4),(2,5)]
 rintro _ _
 refine r_z 2 ?_
 exact ai_ (c_e (av_ _))
theorem fs_real1(p:List Rat)(n:Int)(hl:p.length≤1099511627776)(h:1≤degP p∧degP p≤25)(hb:eC_ p)(hc:FSpec Tryz.prog 56 [.arr (pE p),.agg (spC (-cC_ p) (cC_ p))] (.tup [i64 n,i64 0])):FSpec Tryz.prog 160 [.arr (pE p)] (bln (decide (n=degP p))):=by
 have ho:=bo_ (degP p) 1 25
 rw[decide_eq_false (by omega)] at ho
 have h0:trimQ p≠[]:=fun e=>by have:=degP_neg.2 e;omega
 have hev:=jS_ p hb h0 hl
 refine f_n Tryz.func160 ?_ ?_
 exact aa_ (ar_ p) ab_
 refine r_z 1 ?_
 refine r_c 3 (bz_ p hl) ?_
 refine a_z ?_
 refine ac_ (r_c 2 (ho) ?_)
 refine an_ ?_
 refine cF (ag_ (r_c 9 (hev) ?_))
 refine c_s (hc) ?_
 refine a_z ?_
 refine r_z 4 ?_
 exact ai_ (t_e (ad_ _))
abbrev ruC(p w:List Rat):List AV:=[.arr (pE p),.arr (pE w)]
theorem bL_(p w:List Rat):∀c∈ruC p w,Closed c:=aa_ (ar_ p) (aa_ (ar_ w) ab_)
theorem lc_(p w:List Rat)(hr:FSpec Tryz.prog 160 [.arr (pE p)] (bln true))(hm:leadP p=1)(hd:degP w< degP p)(hp:p.length≤1099511627776)(hw:w.length≤1099511627776):FSpec Tryz.prog 94 [.agg (ruC p w)] (i64 0):=by
 have hle:=fx_ p hp
 rw[hm] at hle
 have hwh:=aZ_ 1 (by decide)
 have hcm:=ja_ 1 ((1:Int):Rat) (by decide) (by decide)
 rw[show cmpQ 1 ((1:Int):Rat)=0 by decide+kernel] at hcm
 refine f_n Tryz.func94 ?_ ?_
 exact aa_ (aq_ (bL_ p w)) ab_
 refine r_z 2 ?_
 refine ac_ (ac_ (r_d hmix 21 ?_))
 refine c_s (hr) ?_
 refine c_s (hle) ?_
 refine c_s (hwh) ?_
 refine c_s (hcm) ?_
 refine ay_ rfl rfl rfl (.bin rfl rfl (vF by_ (rfl))) rfl rfl ?_
 refine c_s (bz_ w hw) ?_
 refine c_s (bz_ p hp) ?_
 refine d_2 ?_
 refine an_ (n_k ?_)
 refine cF (ag_ (r_z 1 ?_))
 exact ai_ (t_e (ad_ _))
theorem cI_(m:List Rat)(l r:Bool)(a b:Rat)(hm:1≤m.length∧m.length≤64)(hab:l=true→r=true→a< b)(ha:sm a)(hb:sm b):FSpec Tryz.prog 31 [.agg (wC m l r (qC a) (qC b))] (i64 0):=by
 have ho:=bo_ (m.length:Nat) 1 64
 rw[decide_eq_false (by omega)] at ho
 have hWc:=aJ_ (m:=m) (l:=l) (r:=r) (.inr ⟨a,rfl⟩) (.inr ⟨b,rfl⟩)
 have hcm:=ja_ a b ha hb
 refine f_n Tryz.func31 ?_ ?_
 exact aa_ (aq_ hWc) ab_
 refine r_z 2 ?_
 cases l with
 |false=>
  refine ac_ (r_c 20 (ho) ?_)
  refine a_z ?_
  refine cF (ag_ (r_z 1 ?_))
  exact ai_ (t_e (ad_ _))
 |true=>
  cases r with
  |false=>
   refine ac_ (r_c 20 (ho) ?_)
   refine a_z ?_
   refine cF (ag_ (r_z 1 ?_))
   exact ai_ (t_e (ad_ _))
  |true=>
   have hlt:=hab rfl rfl
   rw[show cmpQ a b= -1 by unfold cmpQ;rw[if_pos hlt]] at hcm
   refine ac_ (r_c 20 (ho) ?_)
   refine c_s (hcm) ?_
   refine ay_ rfl rfl rfl (.bin rfl rfl (vF cv_ (rfl))) rfl rfl ?_
   refine a_z ?_
   refine cF (ag_ (r_z 1 ?_))
   exact ai_ (t_e (ad_ _))
theorem k6_ (p:List Rat) (n:Nat) (hl:p.length≤1000000) (hn:n≤40) (hmx:(if (0:Int)> degP p then(0:Int) else degP p) * n≤72∧0≤(if (0:Int)> degP p then(0:Int) else degP p) * n)
    (hM:∀j,j< n→FSpec Tryz.prog 52 [.arr (pE (powP p j)),.arr (pE p)] (.arr (pE (powP p (j+1))))):FSpec Tryz.prog 174 [.arr (pE p),i64 n] (.tup [.arr (pE (powP p n)),i64 0]):=by
 have hdg:(0:Int)≤degP p+1∧degP p≤1000000:=by
  have:=a9_ p
  unfold degP
  omega
 refine f_n Tryz.func174 ?_ ?_
 exact aa_ (ar_ p) (aa_ (ad_ _) ab_)
 refine r_z 2 ?_
 refine ac_ (ah_ (q_z 7 ?_))
 refine cF (r_c 7 (bz_ p (by omega)) ?_)
 refine a_2 ?_
 refine o_0 (.bin rfl rfl (g9_ (by omega))) ?_
 refine d_z ?_
 refine cF (ag_ ?_)
 have h1:=dA_ 1 (by decide)
 have h2:=hT_ 1
 refine r_c 3 (h1) ?_
 refine c_s (h2) ?_
 refine a_z ?_
 refine ac_ (r_z 2 ?_)
 refine aD_ (fun _:Unit=>⟨[(6,.arr (pE (powP p n)))],[],1,31⟩) (fun _=>True) ?_ ?_
 refine ah_ (ax_ (fun j:Nat=>⟨[(24,i64 ((j:Nat):Int)),(23,i64 ((n:Nat):Int)),(6,.arr (pE (powP p j))),(0,.arr (pE p))],[],1,31⟩) (fun j=>n- j) (fun j=>j≤n) 0 (Nat.zero_le _) ?_ ?_)
 exact s_e []
 rintro j hj
 by_cases hlt:j< n
 have hm:=hM j hlt
 refine q_z 1 ?_
 refine ac_ (cT (ag_ (ac_ (ah_ (r_m 4 ?_)))))
 refine c_s (hm) ?_
 refine a_z ?_
 refine r_m 2 ?_
 refine a_z ?_
 refine⟨j+1,by omega,hlt,?_⟩
 exact s_e []
 have hge:j=n:=by omega
 subst hge
 refine q_z 1 ?_
 refine ac_ (cF (au_ ⟨(),trivial,?_⟩))
 exact s_e []
 rintro _ _
 refine r_z 3 ?_
 refine ai_ (Fin.many ⟨_,_,rfl,rfl,⟨_,_,rfl,rfl,rfl⟩⟩ (nle rfl) ?_)
 exact af_ (al_ at_ (ar_ _)) (af_ (al_ at_ (ad_ _)) ap_)
theorem fs_Power(p:List Rat)(n:Nat)(hs:bdL p 256)(hl:p.length≤12)(hn:n≤6)(hb:∀k,k≤n→pB p.length k≤1073741824):FSpec Tryz.prog 174 [.arr (pE p),i64 n] (.tup [.arr (pE (powP p n)),i64 0]):=by
 have hdg:(0:Int)≤degP p+1∧degP p≤12:=by
  have:=a9_ p
  unfold degP
  omega
 refine k6_ p n (by omega) (by omega) ?_ fun j hlt=>?_
 have h1:(0:Int)≤(if (0:Int)> degP p then(0:Int) else degP p)∧(if (0:Int)> degP p then(0:Int) else degP p)≤12:=by split <;> omega
 generalize (if (0:Int)> degP p then(0:Int) else degP p)=m at h1⊢
 have h2:m* n≤12* 6:=Int.mul_le_mul h1.2 (by omega) (by omega) (by decide)
 exact⟨h2,Int.mul_nonneg h1.1 (by omega)⟩
 have hB:=hb (j+1) hlt
 have hll:=fN_ p j
 have hjl:j* p.length≤6* 12:=Nat.mul_le_mul (by omega) hl
 exact jc_ (powP p j) p (pB p.length j) 256 (ph_ hs j) hs (pB_pos p.length j) (by decide) (by
  have h3:=Nat.mul_le_mul_right (pB p.length j+256+1) hll
  have h4:(j* p.length+1) * (pB p.length j+256+1)+1≤1073741824:=hB
  omega) (by decide) (by omega) (by omega)
theorem p7_(u v:Rat)(n:Nat)(hu:qs u≤256)(hv:qs v≤256)(hn:n≤8):FSpec Tryz.prog 174 [.arr (pE [u,v]),i64 n] (.tup [.arr (pE (powP [u,v] n)),i64 0]):=by
 have hd:degP [u,v]≤1:=by
  have:=a9_ [u,v]
  have e:[u,v].length=2:=rfl
  unfold degP
  omega
 refine k6_ [u,v] n (by simp) (by omega) ?_ fun j hj=>?_
 have h1:(0:Int)≤(if (0:Int)> degP [u,v] then(0:Int) else degP [u,v])∧(if (0:Int)> degP [u,v] then(0:Int) else degP [u,v])≤1:=by split <;> omega
 generalize (if (0:Int)> degP [u,v] then(0:Int) else degP [u,v])=m at h1⊢
 have h2:m* n≤1* 8:=Int.mul_le_mul h1.2 (by omega) (by omega) (by decide)
 exact⟨by omega,Int.mul_nonneg h1.1 (by omega)⟩
 have hll:=fN_ [u,v] j
 have e:[u,v].length=2:=rfl
 have hb:=lB_le (n:=j) (by omega)
 rw[e] at hll
 exact jc_ (powP [u,v] j) [u,v] (lB j) 256 (fO_ hu hv j) (bd_uv hu hv) (eG_ j) (by decide) (by
  have h3:=Nat.mul_le_mul (show(powP [u,v] j).length≤20 by omega) (show lB j+256+1≤200000 by omega)
  omega) (by decide) (by omega) (by simp)
theorem i5_(p:List Rat)(n:Nat)(hs:bdL p 256)(hl:p.length≤12)(hn:n≤6)(hb:∀k,k≤n→pB p.length k≤1073741824):FSpec Tryz.prog 79 [.arr (pE p),i64 n] (.arr (pE (powP p n))):=by
 refine f_n Tryz.func79 ?_ ?_
 exact aa_ (ar_ p) (aa_ (ad_ _) ab_)
 refine r_z 1 ?_
 refine r_c 8 (fs_Power p n hs hl hn hb) ?_
 refine a_z ?_
 refine r_z 2 ?_
 exact ai_ (t_e (ar_ _))
theorem p9_(p:List Rat)(o:okMul p [0,1]):FSpec Tryz.prog 52 [.arr (pE p),.arr [zC,qC ((1:Int):Rat)]] (.arr (pE (mulP p [0,1]))):=
 (jc_ p [0,1] (mxL _) (mxL _) (b7_ _) (b7_ _) (bJ_ _) (bJ_ _) o.1 o.2.1 o.2.2.1 o.2.2.2).weak
  (.cons (Le.refl _) (.cons (Le.arr (.cons le_zC (.cons (LeL.refl _) .nil))) .nil)) (aa_ (ar_ p) (aa_ (aC_ fun e he c hc=>by
   rcases List.mem_cons.1 he with rfl|he
   exact dD_ c hc
   rw[List.mem_singleton.1 he] at hc;exact aK_ _ c hc) ab_))
def moT(f:List Rat)(s:Sp)(k:Nat):Option (List AV):=some [.agg (qC (moQ f s k))]
theorem kW_(f:List Rat)(s:Sp)(K:Nat)(hK:K≤1000000)(hok:∀k,k≤K→okMo f s k):GSpecB Tryz.prog 81 [bP f,bS s] (moT f s) K:=by
 have hcb:Closed (bP f):=bq_ f
 have hcs:Closed (bS s):=eW_ s
 refine GSpecB.enter Tryz.func81 rfl (by kernel_rfl) rfl rfl rfl ?_ ?_ rfl ?_
 exact aa_ hcb (aa_ hcs ab_)
 intro k xs h
 cases h
 exact aa_ (av_ _) ab_
 intro ll N hN E
 refine GWp.seq ?_
 refine GWp.lift ?_
 refine r_m 2 ?_
 refine a_z ?_
 refine GWp.block ?_
 refine GWp.loopS (fun k:Nat=>⟨[(0,.v (.func (.yield ll) #[] #[])),(1,bP f),(2,bS s),(4,.arr (pE (gK f k)))],[],1,16⟩) (fun k=>k) (fun k=>N+1- k) (fun k=>k≤N) 0 (Nat.zero_le _) rfl ?_ ?_
 exact s_e []
 intro k hk
 obtain⟨o1,o2,o3,o4,o5⟩:=hok k (by omega)
 have hin:FSpec Tryz.prog 82 [.arr (pE (gK f k)),.agg (spC s.1 s.2)] (.agg (qC (moQ f s k))):=ma_ (gK f k) s.1 s.2 o1 o2 o3 o4
 refine GWp.seq ?_
 refine GWp.seq ?_
 refine GWp.regY (fr2:=[(0,.v (.func (.yield ll) #[] #[])),(1,bP f),(2,bS s),(4,.arr (pE (gK f k))),(6,.v (.func (.yield ll) #[] #[])),(9,.agg (qC (moQ f s k)))]) (hp2:=[]) (nx2:=1) 4 rfl rfl rfl rfl rfl rfl ?_ rfl rfl rfl ?_ ?_ ?_
 refine o_0 (.move rfl) ?_
 refine o_0 (.move rfl) ?_
 first|refine aB_ (.load_l rfl rfl rfl tg_37.h ts_37.h (nle rfl)) rfl rfl ?_|refine aB_ (.load_a rfl rfl tg_37.h ts_37.h (nle rfl)) rfl rfl ?_
 refine o_0 (.call rfl rfl rfl (hin)) ?_
 refine an_ ?_
 refine SEntT.to [] rfl rfl rfl au_r (fun hs=>au_f) (fun hs=>au_h)
 rotate_left 2
 intro go
 refine an_ ?_
 rotate_left
 rfl
 exact aa_ (av_ _) ab_
 cases go with
 |false=>
  refine GWp.cond rfl (fun h=>?_) (fun h=>?_)
  cases h
  exact GWp.exit ⟨.inl rfl,fun h=>by cases h⟩
 |true=>
  refine GWp.bound fun hk1=>?_
  refine GWp.cond rfl (fun h=>?_) (fun h=>?_)
  rotate_left
  cases h
  refine GWp.skip ?_
  have hwh:=aZ_ 1 (by decide)
  have hmu:=p9_ (gK f k) o5
  refine GWp.lift ?_
  refine ah_ (r_m 6 ?_)
  refine c_s (hwh) ?_
  refine a_1 ?_
  refine o_1 (.callS1 rfl rfl rfl (.keep (.shut rfl d_n (.nil))) rfl (hmu)) ?_
  refine a_z ?_
  refine⟨rfl,k+1,by omega,hk1,rfl,?_⟩
  exact s_e []
theorem ht_(l:List Rat)(q:Rat):pE (l++[q])=pE l++[qC q]:=by simp[pE]
def tk0(g:Nat)(cap:List AV)(n:Int):Unit→AState
 |u=>⟨[(3,.lptr 1 0 0),(5,.lptr 2 0 0),(7,.clos g [] cap)],[(1,some ⟨3,1,[[i64 n]]⟩),(2,some ⟨49,1,[[.emp]]⟩)],4,18⟩
theorem tk0_mk(g:Nat)(cap:List AV)(n:Int)(u:Unit):tk0 g cap n u=⟨[(3,.lptr 1 0 0),(5,.lptr 2 0 0),(7,.clos g [] cap)],[(1,some ⟨3,1,[[i64 n]]⟩),(2,some ⟨49,1,[[.emp]]⟩)],4,18⟩:=rfl
def tk1(g:Nat)(cap:List AV)(n:Int)(sq:Nat→Rat):Nat→AState
 |k=>⟨[(3,.lptr 1 0 0),(5,.lptr 2 0 0),(7,.clos g [] cap)],[(1,some ⟨3,1,[[i64 n]]⟩),(2,some ⟨49,1,[[.lsl 3 0 (k+1) none 3]]⟩),(3,some ⟨35,3,pE (sqL sq (k+1))⟩)],4,18⟩
def tkX(z:Nat)(sq:Nat→Rat):Unit→AState
 |u=>⟨[(5,.lptr 1 0 0)],[(1,some ⟨49,1,[[.lsl 2 0 (z+1) none 3]]⟩),(2,some ⟨35,3,pE (sqL sq (z+1))⟩)],4,18⟩
theorem tkX_mk(z:Nat)(sq:Nat→Rat)(u:Unit):tkX z sq u=⟨[(5,.lptr 1 0 0)],[(1,some ⟨49,1,[[.lsl 2 0 (z+1) none 3]]⟩),(2,some ⟨35,3,pE (sqL sq (z+1))⟩)],4,18⟩:=rfl
def tkS(g:Nat)(cap:List AV)(n:Int)(sq:Nat→Rat):Nat→AState
 |0=>tk0 g cap n ()
 |k+1=>tk1 g cap n sq k
theorem gZ_(g:Nat)(cap:List AV)(hcap:∀c∈cap,Closed c)(sq:Nat→Rat)(n:Nat)(hn:n≤1000)(hcm:cap.map coe=cap)(hgs:GSpecB Tryz.prog g (cap.map coe) (fun k=>some [.agg (qC (sq k))]) n):FSpec Tryz.prog 83 [.clos g [] cap,i64 n] (.arr (pE (sqL sq (n+1)))):=by
 have hcF:Closed (.clos g [] cap):=aR_ ab_ hcap
 refine f_n Tryz.func83 ?_ ?_
 exact aa_ hcF (aa_ (ad_ _) ab_)
 refine r_z 2 ?_
 refine r_z 1 ?_
 refine ac_ (r_z 1 ?_)
 refine aD_ (tkX n sq) (fun _=>True) ?_ ?_
 refine ah_ (AWp.rangeFuncB (α:=Nat) (γ:=Unit) n (tkS g cap n sq) (fun k=>k) (fun k=>k≤n) (tkX n sq) (fun e _=>e= .exit 0) 0 rfl hgs rfl rfl ?_ (fun k=>by cases k <;> exact⟨rfl,rfl⟩) (fun _=>rfl) (Nat.zero_le _) rfl (fun _ h=>h) ?_ ?_ ?_ ?_ ?_)
 intro k xs hT;cases hT;rfl
 show SEntT _ (tk0 g cap n ())
 rw[tk0_mk]
 exact s_t [(1,3),(2,5)]
 rw[hcm];exact hcap
 ·intro l k xs hk hT
  cases hT
  cases k with
  |zero=>
   show AWp _ _ _ _ ⟨setPs (tk0 g cap n ()).fr _ _++ca_ (tk0 g cap n ()).fr,_,_,_⟩
   show AWp _ _ _ _ ⟨[(8,.agg (qC (sq 0))),(3,.lptr 1 0 0),(5,.lptr 2 0 0),(7,.clos g [] cap),(1003,.lptr 1 0 0),(1005,.lptr 2 0 0),(1007,.clos g [] cap)],[(1,some ⟨3,1,[[i64 n]]⟩),(2,some ⟨49,1,[[.emp]]⟩)],4,18⟩
   refine r_m 2 ?_
   refine a_z ?_
   refine ah_ (s_r 5 ?_)
   refine a_3 ?_
   refine o_1 (.append_e rfl rfl rfl te_49.h rfl rfl rfl (.lsl rfl (nle rfl)) (by first|assumption|(simp;done)) tz_35.h rfl tb_35.h d_o (by first|(simp[maxLen];done)|(simp[maxLen];omega))) ?_
   refine a_z ?_
   refine r_z 4 ?_
   refine am_ rfl (fun h1=>?_) (fun h1=>?_)
   have h2:n=0:=by
    simp at h1;omega
   subst h2
   refine au_ (⟨rfl,(),rfl,?_⟩)
   show SEntT _ ⟨[(1005,.lptr 1 0 0)],[(1,some ⟨49,1,[[.lsl 2 0 (0+1) none 3]]⟩),(2,some ⟨35,3,pE (sqL sq (0+1))⟩)],4,18⟩
   have:=aH_ [sq 0]
   exact s_t [(1,1005),(2,12)]
   have h2:¬n=0:=by
    simp at h1;omega
   refine ag_ (⟨0+1,⟨by omega,rfl⟩,?_⟩)
   show SEntT _ ⟨[(1003,.lptr 1 0 0),(1005,.lptr 2 0 0),(1007,.clos g [] cap)],[(1,some ⟨3,1,[[i64 n]]⟩),(2,some ⟨49,1,[[.lsl 3 0 (0+1) none 3]]⟩),(3,some ⟨35,3,pE (sqL sq (0+1))⟩)],4,18⟩
   have:=aH_ [sq 0]
   exact s_t [(3,12)]
  |succ k=>
   show AWp _ _ _ _ ⟨setPs (tk1 g cap n sq k).fr _ _++ca_ (tk1 g cap n sq k).fr,_,_,_⟩
   have e:pE (sqL sq (k+1))++[qC (sq (k+1))]=pE (sqL sq (k+1+1)):=by rw[ed_ sq (k+1),ht_]
   show AWp _ _ _ _ ⟨[(8,.agg (qC (sq (k+1)))),(3,.lptr 1 0 0),(5,.lptr 2 0 0),(7,.clos g [] cap),(1003,.lptr 1 0 0),(1005,.lptr 2 0 0),(1007,.clos g [] cap)],[(1,some ⟨3,1,[[i64 n]]⟩),(2,some ⟨49,1,[[.lsl 3 0 (k+1) none 3]]⟩),(3,some ⟨35,3,pE (sqL sq (k+1))⟩)],4,18⟩
   refine r_m 2 ?_
   refine a_z ?_
   refine ah_ (r_z 5 ?_)
   refine r_z 4 ?_
   refine am_ rfl (fun h1=>?_) (fun h1=>?_)
   have h2:n=k+1:=by
    simp at h1;omega
   subst h2
   refine au_ (⟨rfl,(),rfl,?_⟩)
   show SEntT _ ⟨[(1005,.lptr 1 0 0)],[(1,some ⟨49,1,[[.lsl 2 0 ((k+1)+1) none 3]]⟩),(2,some ⟨35,3,pE (sqL sq ((k+1)+1))⟩)],4,18⟩
   exact s_t [(1,1005),(2,12)]
   have h2:¬n=k+1:=by
    simp at h1;omega
   refine ag_ (⟨k+1+1,⟨by omega,rfl⟩,?_⟩)
   show SEntT _ ⟨[(1003,.lptr 1 0 0),(1005,.lptr 2 0 0),(1007,.clos g [] cap)],[(1,some ⟨3,1,[[i64 n]]⟩),(2,some ⟨49,1,[[.lsl 3 0 ((k+1)+1) none 3]]⟩),(3,some ⟨35,3,pE (sqL sq ((k+1)+1))⟩)],4,18⟩
   exact s_t [(3,12)]
 intro k hk hT;cases hT
 rintro e u rfl
 exact⟨u,trivial,SEnt.refl _⟩
 rintro u _
 rw[tkX_mk]
 refine r_z 2 ?_
 exact ai_ (Fin.tmpS rfl rfl rfl (by simp) (aH_ _))
def w0C:List AV:=[.emp,bln false,bln false]++zC++zC
theorem aT_:∀c∈w0C,Closed c:=fun c hc=>by
 unfold w0C at hc
 rcases List.mem_append.1 hc with hc|hc
 rcases List.mem_append.1 hc with hc|hc
 exact aa_ bB_ (aa_ (ad_ _) (aa_ (ad_ _) ab_)) c hc
 exact dD_ c hc
 exact dD_ c hc
theorem mf_(a b:Rat)(n:Nat)(hn:n≤63)(hab:a< b)(ha:qs a≤256)(hb:qs b≤256)(hok:∀k,k≤n→okMo [1] (a,b) k):
    FSpec Tryz.prog 15 [.agg (spC a b),i64 0,i64 0,i64 n] (.tup [.agg (wC (sqL (moQ [1] (a,b)) (n+1)) true true (qC a) (qC b)),i64 0]):=by
 have sa:sm a:=Nat.le_trans ha (by decide)
 have sb:sm b:=Nat.le_trans hb (by decide)
 have hva:=eM_ a b sa sb
 rw[decide_eq_true (show cmpQ a b≤0 by unfold cmpQ;rw[if_pos hab];decide)] at hva
 have hsi:=bK_ (b- a)
 have hne:¬sgZ (b- a).num=0:=fun e=>by have:=sgZ_num_eq.1 e;grind
 have ho0:=bo_ 0 0 8
 rw[decide_eq_false (by decide)] at ho0
 have hon:=bo_ (n:Nat) 0 63
 rw[decide_eq_false (by omega)] at hon
 have hp1:FSpec Tryz.prog 79 [.arr [qC (-a),qC ((1:Int):Rat)],i64 0] (.arr (pE [1])):=i5_ [-a,1] 0 (fun q hq=>by
  rcases List.mem_cons.1 hq with rfl|hq
  rw[fi_];exact ha
  rw[List.mem_singleton.1 hq];decide) (by simp) (by decide) (fun k hk=>by
  have:k=0:=by omega
  subst this;show pB 2 0≤_;decide)
 have hp2:FSpec Tryz.prog 79 [.arr [qC b,qC ((-1:Int):Rat)],i64 0] (.arr (pE [1])):=i5_ [b,-1] 0 (fun q hq=>by
  rcases List.mem_cons.1 hq with rfl|hq
  exact hb
  rw[List.mem_singleton.1 hq];decide) (by simp) (by decide) (fun k hk=>by
  have:k=0:=by omega
  subst this;show pB 2 0≤_;decide)
 have hmu:=jc_ [1] [1] 1 1 (by decide) (by decide) (by decide) (by decide) (by decide) (by decide) (by decide) (by decide)
 rw[show mulP [1] [1]=[1] by decide+kernel] at hmu
 have htk:=gZ_ 81 [bP [1],bS (a,b)] (aa_ (bq_ _) (aa_ (eW_ _) ab_)) (moQ [1] (a,b)) n (by omega) rfl (kW_ [1] (a,b) n (by omega) hok)
 refine f_n Tryz.func15 ?_ ?_
 exact aa_ (bX_ _ _) (aa_ (ad_ _) (aa_ (ad_ _) (aa_ (ad_ _) ab_)))
 refine r_z 3 ?_
 refine aS_ (fun _:Unit=>⟨[(1,i64 0),(2,i64 0),(3,i64 n),(4,.lptr 1 0 0),(8,.lptr 2 0 0)],[(1,some ⟨37,6,[spC a b]⟩),(2,some ⟨51,9,[w0C]⟩)],3,58⟩) (fun _=>True) ?_ ?_
 refine ah_ (r_c 10 (hva) ?_)
 refine c_s (fW_ a b sa sb) ?_
 refine c_s (hsi) ?_
 refine d_z ?_
 refine cF (r_c 11 (ho0) ?_)
 refine c_s (ho0) ?_
 refine c_s (hon) ?_
 refine a_z ?_
 refine cF (ag_ ⟨(),trivial,?_⟩)
 refine as_ [(1,4),(2,8)] rfl rfl rfl au_r (fun hs=>au_f) (fun hs=>?_)
 ·repeat' (first|exact ao_|refine ak_ rfl rfl rfl rfl ?_ ?_)
  all_goals (first|((try exact ae_ (CvL.clo hs (fun c hc=>(List.mem_append.1 hc).elim (aK_ _ c) (aK_ _ c))));(try exact ae_ (CvL.clo hs aT_)))|exact au_e)
 rintro _ _
 refine ac_ (r_d hmix 16 ?_)
 refine c_s (gH_ a) ?_
 refine c_s (aZ_ 1 (by decide)) ?_
 refine a_2 ?_
 refine o_1 (.callS1 rfl rfl rfl (.shut rfl d_n (.keep (.nil))) rfl (hp1)) ?_
 refine c_s (aZ_ (-1) (by decide)) ?_
 refine a_2 ?_
 refine o_1 (.callS1 rfl rfl rfl (.shut rfl d_n (.keep (.nil))) rfl (hp2)) ?_
 refine c_s (hmu) ?_
 refine a_2 ?_
 refine an_ (n_k ?_)
 refine AWp.ent (st':=⟨[(3,i64 n),(4,bS (a,b)),(8,.lptr 1 0 0),(10,bP [1])],[(1,some ⟨51,9,[w0C]⟩)],2,58⟩) ?_ ?_
 exact s_f [(1,8)]
 refine r_z 2 ?_
 refine ac_ (r_d hmix 10 ?_)
 refine c_s (htk) ?_
 refine a_7 ?_
 refine an_ (n_k ?_)
 refine ai_ (Fin.many ⟨_,_,rfl,⟨_,_,_,_,_,rfl,rfl,rfl,.inl ⟨tg_51.h,_,ts_51.h,nle rfl,rfl⟩⟩,⟨_,_,rfl,rfl,rfl⟩⟩ (nle rfl) ?_)
 exact af_ (al_ at_ (aq_ (aJ_ (.inr ⟨a,rfl⟩) (.inr ⟨b,rfl⟩)))) (af_ (al_ at_ (ad_ _)) ap_)
theorem hJ_(L:List Rat):∀n,LeLL (List.replicate n zC++pE L) (pE (List.replicate n 0++L))
 |0=>LeLL.refl _
 |n+1=> .cons le_zC (hJ_ L n)
theorem ka_(n:Nat)(L:List Rat):Closed (.arr (List.replicate n zC++pE L)):=aC_ fun c hc=>(List.mem_append.1 hc).elim (fun h=>by rw[List.eq_of_mem_replicate h];exact dD_) (aH_ L c)
theorem FSpec.zerosQ{P:Program}{f n:Nat}{L:List Rat}{a r:AV}(h:FSpec P f [a,.arr (pE (List.replicate n 0++L))] r)(ha:Closed a):FSpec P f [a,.arr (List.replicate n zC++pE L)] r:=
 h.weak (.cons (Le.refl _) (.cons (Le.arr (hJ_ L n)) .nil)) (aa_ ha (aa_ (ka_ n L) ab_))
theorem kl_(n:Nat):(List.replicate n zC).all (·.all AV.one)=true:=by
 simp only[List.all_replicate]
 cases n <;> rfl
def tmS(f:Nat→Rat)(t1:AV)(W:List AV):Nat→AState
 |0=>⟨[(6,i64 ((0:Nat):Int)),(5,.emp),(1,t1),(2,.lptr 1 0 0),(4,.lptr 2 0 0)],[(1,some ⟨51,9,[W]⟩),(2,some ⟨51,9,[w0C]⟩)],3,29⟩
 |k+1=>⟨[(6,i64 ((k+1:Nat):Int)),(5,.lsl 3 0 (k+1) none 3),(1,t1),(2,.lptr 1 0 0),(4,.lptr 2 0 0)],[(1,some ⟨51,9,[W]⟩),(2,some ⟨51,9,[w0C]⟩),(3,some ⟨35,3,pE (sqL f (k+1))⟩)],4,29⟩
theorem tmS_0(f:Nat→Rat)(t1:AV)(W:List AV):tmS f t1 W 0=⟨[(6,i64 ((0:Nat):Int)),(5,.emp),(1,t1),(2,.lptr 1 0 0),(4,.lptr 2 0 0)],[(1,some ⟨51,9,[W]⟩),(2,some ⟨51,9,[w0C]⟩)],3,29⟩:=rfl
theorem tmS_s(f:Nat→Rat)(t1:AV)(W:List AV)(k:Nat):tmS f t1 W (k+1)=⟨[(6,i64 ((k+1:Nat):Int)),(5,.lsl 3 0 (k+1) none 3),(1,t1),(2,.lptr 1 0 0),(4,.lptr 2 0 0)],[(1,some ⟨51,9,[W]⟩),(2,some ⟨51,9,[w0C]⟩),(3,some ⟨35,3,pE (sqL f (k+1))⟩)],4,29⟩:=rfl
theorem i6_(p m:List Rat)(l r:Bool)(a b:Rat)(s t:Nat)(hp:bdL p s)(hm:bdL m t)(hs:1≤s)(ht:1≤t)(hpl:p.length≤1000)(hml:m.length≤1000)(hlim:(p.length+m.length+3) * (s+t+1)≤137438953472):
    FSpec Tryz.prog 121 [.agg (wC m l r (qC a) (qC b)),.arr (pE p)] (.agg (wC (sqL (tmQ p m) (m.length+1- (trimQ p).length)) l r (qC a) (qC b))):=by
 obtain⟨K,hK⟩:∃K,K=m.length+1- (trimQ p).length:=⟨_,rfl⟩
 rw[←hK]
 have htl:=a9_ p
 have hdg:=bz_ p (by omega)
 have hd:degP p=((trimQ p).length:Int)- 1:=rfl
 have hWc:∀c∈wC m l r (qC a) (qC b),Closed c:=aJ_ (.inr ⟨a,rfl⟩) (.inr ⟨b,rfl⟩)
 have hof:∀k,k< K→FSpec Tryz.prog 114 [.agg (wC m l r (qC a) (qC b)),.arr (List.replicate k zC++pE p)] (.agg (qC (tmQ p m k))):=fun k hlt=>by
  have hle:k+(trimQ p).length≤m.length:=by omega
  exact FSpec.zerosQ (fs_of (List.replicate k 0++p) m l r a b s t (qO_ hp hs k) hm hs ht (by simp;omega) (hd_ p k _ hle) (Nat.le_trans (Nat.mul_le_mul_right _ (by simp;omega)) hlim)) (aq_ hWc)
 have e:∀k,pE (sqL (tmQ p m) k)++[qC (tmQ p m k)]=pE (sqL (tmQ p m) (k+1)):=fun k=>by rw[ed_,ht_]
 generalize tmQ p m=f at hof e⊢
 refine f_n Tryz.func121 ?_ ?_
 exact aa_ (aq_ hWc) (aa_ (ar_ p) ab_)
 refine r_z 2 ?_
 refine r_z 1 ?_
 refine ac_ (r_z 1 ?_)
 refine aD_ (fun _:Unit=>⟨[(2,.lptr 1 0 0),(4,.lptr 2 0 0),(5,.arr (pE (sqL f K)))],[(1,some ⟨51,9,[wC m l r (qC a) (qC b)]⟩),(2,some ⟨51,9,[w0C]⟩)],3,29⟩) (fun _=>True) ?_ ?_
 refine ah_ (ax_ (fun k:Nat=>tmS f (.arr (pE p)) (wC m l r (qC a) (qC b)) k) (fun k=>K- k) (fun k=>k≤K) 0 (Nat.zero_le _) ?_ ?_)
 rw[tmS_0]
 refine as_ [(1,2),(2,4)] rfl rfl rfl au_r (fun hs=>au_f) (fun hs=>?_)
 ·repeat' (first|exact ao_|refine ak_ rfl rfl rfl rfl ?_ ?_)
  all_goals (first|((try exact ae_ (CvL.clo hs hWc));(try exact ae_ (CvL.clo hs aT_)))|exact au_e)
 rintro k hk
 by_cases hlt:k< K
 ·have hle:k+(trimQ p).length≤m.length:=by omega
  have hof:=hof k hlt
  have e:=e k
  cases k with
  |zero=>
   rw[tmS_0]
   refine ac_ (ac_ (r_d hmix 8 ?_))
   refine c_s (hdg) ?_
   refine d_5 ?_
   refine an_ (n_k ?_)
   refine cT (ag_ (ac_ (ah_ (r_d hmix 10 ?_))))
   refine a_5 ?_
   refine o_2 (.append_l rfl rfl rfl te_55.h rfl rfl rfl rfl rfl d_o (kl_ _) (df_ _) rfl (.arr (fr_ _)) tz_35.h rfl tb_35.h d_o (by first|(simp[maxLen];done)|(simp[maxLen];omega))) ?_
   refine o_1 (.callS1 rfl rfl rfl (.keep (.shut rfl d_n (.nil))) rfl ((FSpec.argE2 hof (by rw[List.drop_zero];exact List.take_of_length_le (by simp))))) ?_
   refine a_3 ?_
   refine an_ (n_k ?_)
   refine r_m 3 ?_
   refine a_z ?_
   refine⟨0+1,by omega,hlt,?_⟩
   rw[tmS_s]
   refine as_ [(3,5)] rfl rfl rfl au_r (fun hs=>au_f) (fun hs=>?_)
   ·repeat' (first|exact ao_|refine ak_ rfl rfl rfl rfl ?_ ?_)
    all_goals (first|((try exact ae_ (CvL.clo hs hWc));(try exact ae_ (CvL.clo hs aT_));(try exact aQ_ hs (aH_ [f 0])))|exact au_e)
  |succ k=>
   rw[tmS_s]
   refine ac_ (ac_ (r_d hmix 8 ?_))
   refine c_s (hdg) ?_
   refine d_5 ?_
   refine an_ (n_k ?_)
   refine cT (ag_ (ac_ (ah_ (r_d hmix 10 ?_))))
   refine a_5 ?_
   refine o_2 (.append_l rfl rfl rfl te_55.h rfl rfl rfl rfl rfl d_o (kl_ _) (df_ _) rfl (.arr (fr_ _)) tz_35.h rfl tb_35.h d_o (by first|(simp[maxLen];done)|(simp[maxLen];omega))) ?_
   refine o_1 (.callS1 rfl rfl rfl (.keep (.shut rfl d_n (.nil))) rfl ((FSpec.argE2 hof (by rw[List.drop_zero];exact List.take_of_length_le (by simp))))) ?_
   refine a_3 ?_
   refine an_ (n_k ?_)
   refine r_m 3 ?_
   refine a_z ?_
   refine⟨k+1+1,by omega,hlt,?_⟩
   rw[tmS_s]
   refine as_ [(3,5)] rfl rfl rfl ?_ (fun hs=>au_f) (fun hs=>?_)
   ·repeat' (first|exact ShrL.nil|refine ShrL.cons rfl rfl rfl rfl (by first|(simp)|rfl|(simp;done)|(simp <;> omega)) ?_)
   ·repeat' (first|exact ao_|refine ak_ rfl rfl rfl rfl ?_ ?_)
    all_goals (first|((try exact ae_ (CvL.clo hs hWc));(try exact ae_ (CvL.clo hs aT_));(try exact aG_ hs e (aH_ _)))|exact au_e)
 have hge:k=K:=by omega
 subst hge
 cases k with
 |zero=>
  rw[tmS_0]
  refine ac_ (ac_ (r_d hmix 8 ?_))
  refine c_s (hdg) ?_
  refine d_5 ?_
  refine an_ (n_k ?_)
  refine cF (au_ ⟨(),trivial,?_⟩)
  exact s_e []
 |succ k=>
  rw[tmS_s]
  refine ac_ (ac_ (r_d hmix 8 ?_))
  refine c_s (hdg) ?_
  refine d_5 ?_
  refine an_ (n_k ?_)
  refine cF (au_ ⟨(),trivial,?_⟩)
  refine as_ [] rfl rfl rfl au_r (fun hs=>?_) (fun hs=>?_)
  ·repeat' (first|exact aA_|refine aw_ rfl ?_ ?_)
   all_goals (first|(exact Cv.shut hs rfl (aE_ rfl) (by simp) (aG_ hs (by rw[List.drop_zero];exact List.take_of_length_le (by simp)) (aH_ _)))|exact au_c)
  ·repeat' (first|exact ao_|refine ak_ rfl rfl rfl rfl ?_ ?_)
   all_goals (first|exact au_e|(refine ae_ ?_;repeat' (first|exact ap_|refine af_ ?_ ?_)))
   all_goals (first|(exact Cv.shut hs rfl (aE_ rfl) (by simp) (aG_ hs (by rw[List.drop_zero];exact List.take_of_length_le (by simp)) (aH_ _)))|exact au_c)
 rintro _ _
 refine r_z 3 ?_
 refine r_z 2 ?_
 exact ai_ (c_e (aq_ (aJ_ (.inr ⟨a,rfl⟩) (.inr ⟨b,rfl⟩))))
theorem ni_(m p:List Rat)(l r:Bool)(a b:Rat)(h:okOf m p):FSpec Tryz.prog 114 [.agg (wC m l r (qC a) (qC b)),.arr (pE p)] (.agg (qC (ofP m p))):=
 fs_of p m l r a b (mxL p) (mxL m) (b7_ p) (b7_ m) (bJ_ p) (bJ_ m) h.1 h.2.1 h.2.2
theorem eo_(p q:List Rat)(o:okMul p q):FSpec Tryz.prog 52 [.arr (pE p),.arr (pE q)] (.arr (pE (mulP p q))):=
 jc_ p q (mxL p) (mxL q) (b7_ p) (b7_ q) (bJ_ p) (bJ_ q) o.1 o.2.1 o.2.2.1 o.2.2.2
def ldC(W:List AV)(p q:AV)(nm:List AV)(a b:AV):List AV:=W++[p,q]++nm++[a,b]
def ldF(m:List Rat)(l r:Bool)(a b:Rat)(k:Nat):List AV:=ldC (wC m l r (qC a) (qC b)) (.arr (pE (ldr m k).1)) (.arr (pE (ldr m k).2.1)) (qC (ldr m k).2.2) (.arr (pE (sqL (ldAk m) k))) (.arr (pE (sqL (ldB m) k)))
theorem do_(m:List Rat)(l r:Bool)(a b:Rat)(k:Nat):∀c∈ldF m l r a b k,Closed c:=fun c hc=>by
 unfold ldF ldC at hc
 rcases List.mem_append.1 hc with hc|hc
 rcases List.mem_append.1 hc with hc|hc
 rcases List.mem_append.1 hc with hc|hc
 exact aJ_ (.inr ⟨a,rfl⟩) (.inr ⟨b,rfl⟩) c hc
 exact aa_ (ar_ _) (aa_ (ar_ _) ab_) c hc
 exact aK_ _ c hc
 exact aa_ (ar_ _) (aa_ (ar_ _) ab_) c hc
theorem cq_{r:Ren}{hp hp':Nat→Option ABlk}:∀{a b c d:List AV},CvL r hp hp' a b→CvL r hp hp' c d→CvL r hp hp' (a++c) (b++d)
 |[],_,_,_,h,h2=>by cases h;exact h2
 |x::xs,_,_,_,⟨y,ys,e,h1,h3⟩,h2=>by subst e;exact⟨y,_,rfl,h1,cq_ h3 h2⟩
theorem il_{r:Ren}{hp hp':Nat→Option ABlk}(W:List AV){p q a b p' q' a' b':AV}{nm nm':List AV}(h:Shr r hp hp')(hW:∀c∈W,Closed c)(h1:Cv r hp hp' p p')(hq:Cv r hp hp' q q')(hn:CvL r hp hp' nm nm')(ha:Cv r hp hp' a a')(hb:Cv r hp hp' b b'):CvL r hp hp' (ldC W p q nm a b) (ldC W p' q' nm' a' b'):=
 cq_ (cq_ (cq_ (CvL.clo h hW) (af_ h1 (af_ hq ap_))) hn) (af_ ha (af_ hb ap_))
theorem dk_{r:Ren}{hp hp':Nat→Option ABlk}{id n:Nat}{cap:Option Nat}{B:ABlk}{L:List Rat}(h:Shr r hp hp')(hi:cellF hp id=some B)(hi':Dead r hp' id)(he:B.es=pE L)(hn:n=L.length):Cv r hp hp' (.lsl id 0 n cap 3) (.arr (pE L)):=
 Cv.shut h hi hi' (by rw[he,hn];simp) (aG_ h (by rw[he,List.drop_zero];exact List.take_of_length_le (by simp[hn])) (aH_ _))
theorem eb_{r:Ren}{hp hp':Nat→Option ABlk}(h:Shr r hp hp'):CvL r hp hp' zC (qC 0):=by
 rw[qC0]
 exact af_ (Cv.emp _) (af_ (al_ h (ad_ _)) (af_ (Cv.emp _) ap_))
def clS(m:List Rat)(l r:Bool)(a b:Rat)(n:Nat):Nat→AState
 |0=>⟨[(17,i64 n),(18,i64 ((0:Nat):Int)),(6,.lptr 1 0 0)],[(1,some ⟨150,16,[ldC (wC m l r (qC a) (qC b)) (.arr (pE [1])) .emp zC .emp .emp]⟩)],2,113⟩
 |k+1=>⟨[(17,i64 n),(18,i64 ((k+1:Nat):Int)),(6,.lptr 1 0 0)],[(1,some ⟨150,16,[ldC (wC m l r (qC a) (qC b)) (.arr (pE (ldr m (k+1)).1)) (.arr (pE (ldr m (k+1)).2.1)) (qC (ldr m (k+1)).2.2) (.lsl 2 0 (k+1) none 3) (.lsl 3 0 (k+1) none 3)]⟩),(2,some ⟨35,3,pE (sqL (ldAk m) (k+1))⟩),(3,some ⟨35,3,pE (sqL (ldB m) (k+1))⟩)],4,113⟩
theorem clS_0(m:List Rat)(l r:Bool)(a b:Rat)(n:Nat):clS m l r a b n 0=⟨[(17,i64 n),(18,i64 ((0:Nat):Int)),(6,.lptr 1 0 0)],[(1,some ⟨150,16,[ldC (wC m l r (qC a) (qC b)) (.arr (pE [1])) .emp zC .emp .emp]⟩)],2,113⟩:=rfl
theorem clS_s(m:List Rat)(l r:Bool)(a b:Rat)(n k:Nat):clS m l r a b n (k+1)=⟨[(17,i64 n),(18,i64 ((k+1:Nat):Int)),(6,.lptr 1 0 0)],[(1,some ⟨150,16,[ldC (wC m l r (qC a) (qC b)) (.arr (pE (ldr m (k+1)).1)) (.arr (pE (ldr m (k+1)).2.1)) (qC (ldr m (k+1)).2.2) (.lsl 2 0 (k+1) none 3) (.lsl 3 0 (k+1) none 3)]⟩),(2,some ⟨35,3,pE (sqL (ldAk m) (k+1))⟩),(3,some ⟨35,3,pE (sqL (ldB m) (k+1))⟩)],4,113⟩:=rfl
def clX(m:List Rat)(l r:Bool)(a b:Rat)(k:Nat):AState:=⟨[(17,i64 k),(18,i64 k),(6,.lptr 1 0 0)],[(1,some ⟨150,16,[ldF m l r a b k]⟩)],2,113⟩
set_option maxHeartbeats 2000000 in
theorem jW_(m:List Rat)(l r:Bool)(a b:Rat)(n:Nat)(hn:n≤1000)(hok:∀k,k< n→okLd m k):
    FSpec Tryz.prog 87 [.agg (wC m l r (qC a) (qC b)),i64 n] (.tup [.aptr [ldF m l r a b n] 0 0,bln true]):=by
 have hWc:∀c∈wC m l r (qC a) (qC b),Closed c:=aJ_ (.inr ⟨a,rfl⟩) (.inr ⟨b,rfl⟩)
 refine f_n Tryz.func87 ?_ ?_
 exact aa_ (aq_ hWc) (aa_ (ad_ _) ab_)
 refine r_z 3 ?_
 refine ac_ (r_d hmix 6 ?_)
 refine c_s (aZ_ 1 (by decide)) ?_
 refine a_4 ?_
 refine an_ (n_k ?_)
 refine ac_ (r_z 2 ?_)
 refine aD_ (fun _:Unit=>⟨[(6,.aptr [ldF m l r a b n] 0 0)],[],1,113⟩) (fun _=>True) ?_ ?_
 refine ah_ (ax_ (fun k:Nat=>clS m l r a b n k) (fun k=>n- k) (fun k=>k≤n) 0 (Nat.zero_le _) ?_ ?_)
 rw[clS_0]
 refine as_ [(1,6)] rfl rfl rfl au_r (fun hs=>au_f) (fun hs=>?_)
 ·repeat' (first|exact ao_|refine ak_ rfl rfl rfl rfl ?_ ?_)
  all_goals (first|(exact ae_ (il_ _ hs hWc (dk_ (L:=[1]) hs rfl (aE_ rfl) rfl rfl) (al_ hs bB_) (CvL.clo hs dD_) (al_ hs bB_) (al_ hs bB_)))|exact au_e)
 rintro k hk
 by_cases hlt:k< n
 obtain⟨o1,o2,o3,o4,o5,o6,o7,o8,o9,o10,o11,o12,o13,o14,o15⟩:=hok k hlt
 have hmm:=eo_ _ _ o1
 have ho1:=ni_ m _ l r a b o2
 have hsg:=bK_ (ldN m (ldr m k).1)
 have hsp:=sgZ_num_gt.2 o3
 have hmx:=p9_ _ o4
 have ho2:=ni_ m _ l r a b o5
 have hov:=dz_ _ (ldN m (ldr m k).1) (by grind) o6
 have hng:=gH_ (ldAk m k)
 have hmp:=eo_ (ldr m k).1 [-ldAk m k,1] o8
 have hsc:=dN_ (ldr m k).2.1 (ldB m k) o9 o10 o13
 have hsu:=p3_ _ _ o11 o12 o14 o15
 cases k with
 |zero=>
  have hsc0:FSpec Tryz.prog 50 [.arr [],.agg [.arr [],bln false,.arr []]] (.arr (pE (aN_ (ldr m 0).2.1 (ldB m 0)))):=by
   rw[show qC (ldB m 0)=[.arr [],bln false,.arr []] by rw[show ldB m 0=0 from rfl];exact qC0] at hsc
   exact hsc
  rw[clS_0]
  refine q_z 1 ?_
  refine ac_ (cT (ag_ (ac_ (ah_ (r_z 2 ?_)))))
  refine ac_ (r_d hmix 10 ?_)
  refine c_s (hmm) ?_
  refine a_1 ?_
  refine an_ (n_k ?_)
  refine r_c 8 (ho1) ?_
  refine a_z ?_
  refine ac_ (r_c 3 (hsg) ?_)
  refine d_z ?_
  refine cF (ag_ (ac_ (r_d hmix 17 ?_)))
  refine c_s (aZ_ 1 (by decide)) ?_
  refine a_1 ?_
  refine o_1 (.callS1 rfl rfl rfl (.keep (.shut rfl d_n (.nil))) rfl (hmx)) ?_
  refine c_s (ho2) ?_
  refine c_s (hov) ?_
  refine a_5 ?_
  refine an_ (n_k ?_)
  refine ac_ (q_z 2 ?_)
  refine cF (ag_ (r_z 5 ?_))
  refine ac_ (r_d hmix 22 ?_)
  refine a_8 ?_
  refine a_8 ?_
  refine a_6 ?_
  refine an_ (n_k ?_)
  refine r_d hmix 28 ?_
  refine c_s (hng) ?_
  refine c_s (aZ_ 1 (by decide)) ?_
  refine a_1 ?_
  refine o_1 (.callS1 rfl rfl rfl (.keep (.shut rfl d_n (.nil))) rfl (hmp)) ?_
  refine c_s (hsc0) ?_
  refine c_s (hsu) ?_
  refine a_8 ?_
  refine a_2 ?_
  refine an_ (n_k ?_)
  refine r_m 2 ?_
  refine a_z ?_
  refine⟨0+1,by omega,hlt,?_⟩
  rw[clS_s]
  refine as_ [(1,6),(2,73),(3,80)] rfl rfl rfl au_r (fun hs=>au_f) (fun hs=>?_)
  ·repeat' (first|exact ao_|refine ak_ rfl rfl rfl rfl ?_ ?_)
   all_goals (first|((try exact aQ_ hs (aH_ [ldAk m 0]));(try exact ae_ (eb_ hs));(try exact ae_ (il_ _ hs hWc (al_ hs (ar_ _)) (al_ hs (ar_ _)) (CvL.clo hs (aK_ _)) (Cv.sl rfl rfl rfl) (Cv.sl rfl rfl rfl))))|exact au_e)
 |succ k=>
  rw[clS_s]
  have hB:ldB m (k+1)=ldN m (ldr m (k+1)).1/ (ldr m (k+1)).2.2:=if_neg (Nat.succ_ne_zero k)
  have hpv:0< (ldr m (k+1)).2.2:=(hok k (by omega)).2.2.1
  have hov2:=dz_ (ldN m (ldr m (k+1)).1) (ldr m (k+1)).2.2 (by grind) o7
  rw[←hB] at hov2
  have eA:pE (sqL (ldAk m) (k+1))++[qC (ldAk m (k+1))]=pE (sqL (ldAk m) (k+1+1)):=by rw[ed_ _ (k+1),ht_]
  have eB:pE (sqL (ldB m) (k+1))++[qC (ldB m (k+1))]=pE (sqL (ldB m) (k+1+1)):=by rw[ed_ _ (k+1),ht_]
  refine q_z 1 ?_
  refine ac_ (cT (ag_ (ac_ (ah_ (r_z 2 ?_)))))
  refine ac_ (r_d hmix 10 ?_)
  refine c_s (hmm) ?_
  refine a_1 ?_
  refine an_ (n_k ?_)
  refine r_c 8 (ho1) ?_
  refine a_z ?_
  refine ac_ (r_c 3 (hsg) ?_)
  refine d_z ?_
  refine cF (ag_ (ac_ (r_d hmix 17 ?_)))
  refine c_s (aZ_ 1 (by decide)) ?_
  refine a_1 ?_
  refine o_1 (.callS1 rfl rfl rfl (.keep (.shut rfl d_n (.nil))) rfl (hmx)) ?_
  refine c_s (ho2) ?_
  refine c_s (hov) ?_
  refine a_5 ?_
  refine an_ (n_k ?_)
  refine ac_ (q_z 2 ?_)
  refine cT (r_d hmix 7 ?_)
  refine c_s (hov2) ?_
  refine a_1 ?_
  refine an_ (n_k ?_)
  refine r_z 5 ?_
  refine ac_ (r_d hmix 22 ?_)
  refine a_8 ?_
  refine a_8 ?_
  refine a_6 ?_
  refine an_ (n_k ?_)
  refine r_d hmix 28 ?_
  refine c_s (hng) ?_
  refine c_s (aZ_ 1 (by decide)) ?_
  refine a_1 ?_
  refine o_1 (.callS1 rfl rfl rfl (.keep (.shut rfl d_n (.nil))) rfl (hmp)) ?_
  refine c_s (hsc) ?_
  refine c_s (hsu) ?_
  refine a_8 ?_
  refine a_2 ?_
  refine an_ (n_k ?_)
  refine r_m 2 ?_
  refine a_z ?_
  refine⟨k+1+1,by omega,hlt,?_⟩
  rw[clS_s]
  refine as_ [(1,6),(2,73),(3,80)] rfl rfl rfl ?_ (fun hs=>au_f) (fun hs=>?_)
  ·repeat' (first|exact ShrL.nil|refine ShrL.cons rfl rfl rfl rfl (by first|(simp)|rfl|(simp;done)|(simp <;> omega)) ?_)
  ·repeat' (first|exact ao_|refine ak_ rfl rfl rfl rfl ?_ ?_)
   all_goals (first|((try exact aG_ hs eA (aH_ _));(try exact aG_ hs eB (aH_ _));(try exact ae_ (il_ _ hs hWc (al_ hs (ar_ _)) (al_ hs (ar_ _)) (CvL.clo hs (aK_ _)) (Cv.sl rfl rfl rfl) (Cv.sl rfl rfl rfl))))|exact au_e)
 have hge:k=n:=by omega
 subst hge
 cases k with
 |zero=>
  rw[clS_0]
  refine AWp.ent (st':=clX m l r a b 0) ?_ ?_
  unfold clX
  refine as_ [(1,6)] rfl rfl rfl au_r (fun hs=>au_f) (fun hs=>?_)
  ·repeat' (first|exact ao_|refine ak_ rfl rfl rfl rfl ?_ ?_)
   all_goals (first|(exact ae_ (il_ _ hs hWc (al_ hs (ar_ _)) (Cv.emp _) (eb_ hs) (Cv.emp _) (Cv.emp _)))|exact au_e)
  unfold clX
  refine q_z 1 ?_
  refine ac_ (cF (au_ ⟨(),trivial,?_⟩))
  refine as_ [] rfl rfl rfl au_r (fun hs=>?_) (fun hs=>?_)
  ·repeat' (first|exact aA_|refine aw_ rfl ?_ ?_)
   all_goals (first|(exact Cv.boxp hs rfl (aE_ rfl) rfl (do_ m l r a b _))|exact au_c)
  ·repeat' (first|exact ao_|refine ak_ rfl rfl rfl rfl ?_ ?_)
   all_goals (first|exact au_e|(refine ae_ ?_;repeat' (first|exact ap_|refine af_ ?_ ?_)))
   all_goals (first|(exact Cv.boxp hs rfl (aE_ rfl) rfl (do_ m l r a b _))|exact au_c)
 |succ k=>
  rw[clS_s]
  refine AWp.ent (st':=clX m l r a b (k+1)) ?_ ?_
  unfold clX
  refine as_ [(1,6)] rfl rfl rfl au_r (fun hs=>au_f) (fun hs=>?_)
  ·repeat' (first|exact ao_|refine ak_ rfl rfl rfl rfl ?_ ?_)
   all_goals (first|(exact ae_ (il_ _ hs hWc (al_ hs (ar_ _)) (al_ hs (ar_ _)) (CvL.clo hs (aK_ _)) (dk_ hs rfl (aE_ rfl) rfl (by simp)) (dk_ hs rfl (aE_ rfl) rfl (by simp))))|exact au_e)
  unfold clX
  refine q_z 1 ?_
  refine ac_ (cF (au_ ⟨(),trivial,?_⟩))
  refine as_ [] rfl rfl rfl au_r (fun hs=>?_) (fun hs=>?_)
  ·repeat' (first|exact aA_|refine aw_ rfl ?_ ?_)
   all_goals (first|(exact Cv.boxp hs rfl (aE_ rfl) rfl (do_ m l r a b _))|exact au_c)
  ·repeat' (first|exact ao_|refine ak_ rfl rfl rfl rfl ?_ ?_)
   all_goals (first|exact au_e|(refine ae_ ?_;repeat' (first|exact ap_|refine af_ ?_ ?_)))
   all_goals (first|(exact Cv.boxp hs rfl (aE_ rfl) rfl (do_ m l r a b _))|exact au_c)
 rintro _ _
 refine r_z 3 ?_
 refine ai_ (Fin.many ⟨_,_,rfl,rfl,⟨_,_,rfl,rfl,rfl⟩⟩ (nle rfl) ?_)
 exact CvL.clo at_ (aa_ (cL_ fun e he=>by rw[List.mem_singleton.1 he];exact do_ m l r a b n) (aa_ (ad_ _) ab_))
theorem hR_(u v:Rat)(n:Nat)(hu:qs u≤256)(hv:qs v≤256)(hn:n≤8):FSpec Tryz.prog 79 [.arr (pE [u,v]),i64 n] (.arr (pE (powP [u,v] n))):=by
 refine f_n Tryz.func79 ?_ ?_
 exact aa_ (ar_ _) (aa_ (ad_ _) ab_)
 refine r_z 1 ?_
 refine r_c 8 (p7_ u v n hu hv hn) ?_
 refine a_z ?_
 refine r_z 2 ?_
 exact ai_ (t_e (ar_ _))
abbrev wZ:List AV:=wC [] false false (qC 0) (qC 0)
theorem Cv_wZ{r:Ren}{hp hp':Nat→Option ABlk}(h:Shr r hp hp'):Cv r hp hp' (.agg w0C) (.agg wZ):=
 Cv.agg (cq_ (cq_ (af_ (Cv.emp _) (af_ (al_ h (ad_ _)) (af_ (al_ h (ad_ _)) ap_))) (eb_ h)) (eb_ h))
theorem qb_(a b:Rat)(p q n:Nat)(hp:p≤8)(hq:q≤8)(hn:n≤63)(hab:a< b)(ha:qs a≤256)(hb:qs b≤256):
    FSpec Tryz.prog 15 [.agg (spC a b),i64 p,i64 q,i64 n] (.tup [.agg (wC (sqL (moQ (jcF a b p q) (a,b)) (n+1)) true true (qC a) (qC b)),i64 0]):=by
 have sa:sm a:=Nat.le_trans ha (by decide)
 have sb:sm b:=Nat.le_trans hb (by decide)
 have hva:=eM_ a b sa sb
 rw[decide_eq_true (show cmpQ a b≤0 by unfold cmpQ;rw[if_pos hab];decide)] at hva
 have hsi:=bK_ (b- a)
 have hne:¬sgZ (b- a).num=0:=fun e=>by have:=sgZ_num_eq.1 e;grind
 have hop:=bo_ (p:Nat) 0 8
 rw[decide_eq_false (by omega)] at hop
 have hoq:=bo_ (q:Nat) 0 8
 rw[decide_eq_false (by omega)] at hoq
 have hon:=bo_ (n:Nat) 0 63
 rw[decide_eq_false (by omega)] at hon
 have hp1:FSpec Tryz.prog 79 [.arr [qC (-a),qC ((1:Int):Rat)],i64 p] (.arr (pE (powP [-a,1] p))):=hR_ (-a) 1 p (by rw[fi_];exact ha) (by decide) hp
 have hp2:FSpec Tryz.prog 79 [.arr [qC b,qC ((-1:Int):Rat)],i64 q] (.arr (pE (powP [b,-1] q))):=hR_ b (-1) q hb (by decide) hq
 have l1:=ef_ (-a) 1 hp
 have l2:=ef_ b (-1) hq
 have m1:=lB_le hp
 have m2:=lB_le hq
 have hmu:FSpec Tryz.prog 52 [.arr (pE (powP [-a,1] p)),.arr (pE (powP [b,-1] q))] (.arr (pE (jcF a b p q))):=jc_ _ _ (lB p) (lB q) (jc_p ha) (jc_q hb) (eG_ p) (eG_ q) (by
  have h4:=Nat.mul_le_mul l1 (show lB p+lB q+1≤320001 by omega)
  omega) (by omega) (by omega) (by omega)
 have htk:=gZ_ 81 [bP (jcF a b p q),bS (a,b)] (aa_ (bq_ _) (aa_ (eW_ _) ab_)) (moQ (jcF a b p q) (a,b)) n (by omega) rfl (kW_ (jcF a b p q) (a,b) n (by omega) fun k hk=>(jc_mom ha hb hp hq k (by omega)).1)
 generalize moQ (jcF a b p q) (a,b)=sq at htk⊢
 refine f_n Tryz.func15 ?_ ?_
 exact aa_ (bX_ _ _) (aa_ (ad_ _) (aa_ (ad_ _) (aa_ (ad_ _) ab_)))
 refine r_z 3 ?_
 refine aS_ (fun _:Unit=>⟨[(1,i64 p),(2,i64 q),(3,i64 n),(4,.lptr 1 0 0),(8,.lptr 2 0 0)],[(1,some ⟨37,6,[spC a b]⟩),(2,some ⟨51,9,[w0C]⟩)],3,58⟩) (fun _=>True) ?_ ?_
 refine ah_ (r_c 10 (hva) ?_)
 refine c_s (fW_ a b sa sb) ?_
 refine c_s (hsi) ?_
 refine d_z ?_
 refine cF (r_c 11 (hop) ?_)
 refine c_s (hoq) ?_
 refine c_s (hon) ?_
 refine a_z ?_
 refine cF (ag_ ⟨(),trivial,?_⟩)
 refine as_ [(1,4),(2,8)] rfl rfl rfl au_r (fun hs=>au_f) (fun hs=>?_)
 ·repeat' (first|exact ao_|refine ak_ rfl rfl rfl rfl ?_ ?_)
  all_goals (first|((try exact ae_ (CvL.clo hs (fun c hc=>(List.mem_append.1 hc).elim (aK_ _ c) (aK_ _ c))));(try exact ae_ (CvL.clo hs aT_)))|exact au_e)
 rintro _ _
 refine ac_ (r_d hmix 16 ?_)
 refine c_s (gH_ a) ?_
 refine c_s (aZ_ 1 (by decide)) ?_
 refine a_2 ?_
 refine o_1 (.callS1 rfl rfl rfl (.shut rfl d_n (.keep (.nil))) rfl (hp1)) ?_
 refine c_s (aZ_ (-1) (by decide)) ?_
 refine a_2 ?_
 refine o_1 (.callS1 rfl rfl rfl (.shut rfl d_n (.keep (.nil))) rfl (hp2)) ?_
 refine c_s (hmu) ?_
 refine a_2 ?_
 refine an_ (n_k ?_)
 refine AWp.ent (st':=⟨[(3,i64 n),(4,bS (a,b)),(8,.lptr 1 0 0),(10,bP (jcF a b p q))],[(1,some ⟨51,9,[w0C]⟩)],2,58⟩) ?_ ?_
 exact s_f [(1,8)]
 refine r_z 2 ?_
 refine ac_ (r_d hmix 10 ?_)
 refine c_s (htk) ?_
 refine a_7 ?_
 refine an_ (n_k ?_)
 refine ai_ (Fin.many ⟨_,_,rfl,⟨_,_,_,_,_,rfl,rfl,rfl,.inl ⟨tg_51.h,_,ts_51.h,nle rfl,rfl⟩⟩,⟨_,_,rfl,rfl,rfl⟩⟩ (nle rfl) ?_)
 exact af_ (al_ at_ (aq_ (aJ_ (.inr ⟨a,rfl⟩) (.inr ⟨b,rfl⟩)))) (af_ (al_ at_ (ad_ _)) ap_)
theorem ol_(a b:Rat)(p q n:Int)(hab:¬a< b)(ha:qs a≤256)(hb:qs b≤256):FSpec Tryz.prog 15 [.agg (spC a b),i64 p,i64 q,i64 n] (.tup [.agg wZ,i64 2]):=by
 have sa:sm a:=Nat.le_trans ha (by decide)
 have sb:sm b:=Nat.le_trans hb (by decide)
 have hva:=eM_ a b sa sb
 refine f_n Tryz.func15 ?_ ?_
 exact aa_ (bX_ _ _) (aa_ (ad_ _) (aa_ (ad_ _) (aa_ (ad_ _) ab_)))
 refine r_z 3 ?_
 refine ac_ (ah_ ?_)
 by_cases e:a=b
 have hsi:=bK_ (b- a)
 rw[decide_eq_true (show cmpQ a b≤0 by unfold cmpQ;rw[if_neg hab,if_pos e];decide)] at hva
 refine r_c 10 (hva) ?_
 refine c_s (fW_ a b sa sb) ?_
 refine c_s (hsi) ?_
 refine ay_ rfl rfl rfl (.bin rfl rfl (vT a8_ (decide_eq_true (sgZ_num_eq.2 (by grind))))) rfl rfl ?_
 refine a_z ?_
 refine cT (r_z 3 ?_)
 refine ai_ (Fin.many ⟨_,_,rfl,⟨_,_,_,_,_,rfl,rfl,rfl,.inl ⟨tg_51.h,_,ts_51.h,nle rfl,rfl⟩⟩,⟨_,_,rfl,rfl,rfl⟩⟩ (nle rfl) ?_)
 exact af_ (Cv_wZ at_) (af_ (al_ at_ (ad_ _)) ap_)
 rw[decide_eq_false (show¬cmpQ a b≤0 by unfold cmpQ;rw[if_neg hab,if_neg e];decide)] at hva
 refine r_c 10 (hva) ?_
 refine a_z ?_
 refine cT (r_z 3 ?_)
 refine ai_ (Fin.many ⟨_,_,rfl,⟨_,_,_,_,_,rfl,rfl,rfl,.inl ⟨tg_51.h,_,ts_51.h,nle rfl,rfl⟩⟩,⟨_,_,rfl,rfl,rfl⟩⟩ (nle rfl) ?_)
 exact af_ (Cv_wZ at_) (af_ (al_ at_ (ad_ _)) ap_)
theorem ok_(a b:Rat)(p q n:Int)(hab:a< b)(ha:qs a≤256)(hb:qs b≤256)(h:p< 0∨8< p∨q< 0∨8< q∨n< 0∨63< n):FSpec Tryz.prog 15 [.agg (spC a b),i64 p,i64 q,i64 n] (.tup [.agg wZ,i64 3]):=by
 have sa:sm a:=Nat.le_trans ha (by decide)
 have sb:sm b:=Nat.le_trans hb (by decide)
 have hva:=eM_ a b sa sb
 rw[decide_eq_true (show cmpQ a b≤0 by unfold cmpQ;rw[if_pos hab];decide)] at hva
 have hsi:=bK_ (b- a)
 have hne:¬sgZ (b- a).num=0:=fun e=>by have:=sgZ_num_eq.1 e;grind
 have hop:=bo_ p 0 8
 have hoq:=bo_ q 0 8
 have hon:=bo_ n 0 63
 refine f_n Tryz.func15 ?_ ?_
 exact aa_ (bX_ _ _) (aa_ (ad_ _) (aa_ (ad_ _) (aa_ (ad_ _) ab_)))
 refine r_z 3 ?_
 refine ac_ (ah_ (r_c 10 (hva) ?_))
 refine c_s (fW_ a b sa sb) ?_
 refine c_s (hsi) ?_
 refine d_z ?_
 refine cF ?_
 by_cases h1:p< 0∨8< p
 rw[decide_eq_true h1] at hop
 refine r_c 11 (hop) ?_
 refine a_z ?_
 refine cT (r_z 3 ?_)
 refine ai_ (Fin.many ⟨_,_,rfl,⟨_,_,_,_,_,rfl,rfl,rfl,.inl ⟨tg_51.h,_,ts_51.h,nle rfl,rfl⟩⟩,⟨_,_,rfl,rfl,rfl⟩⟩ (nle rfl) ?_)
 exact af_ (Cv_wZ at_) (af_ (al_ at_ (ad_ _)) ap_)
 rw[decide_eq_false h1] at hop
 by_cases h2:q< 0∨8< q
 rw[decide_eq_true h2] at hoq
 refine r_c 11 (hop) ?_
 refine c_s (hoq) ?_
 refine a_z ?_
 refine cT (r_z 3 ?_)
 refine ai_ (Fin.many ⟨_,_,rfl,⟨_,_,_,_,_,rfl,rfl,rfl,.inl ⟨tg_51.h,_,ts_51.h,nle rfl,rfl⟩⟩,⟨_,_,rfl,rfl,rfl⟩⟩ (nle rfl) ?_)
 exact af_ (Cv_wZ at_) (af_ (al_ at_ (ad_ _)) ap_)
 rw[decide_eq_false h2] at hoq
 rw[decide_eq_true (show n< 0∨63< n by omega)] at hon
 refine r_c 11 (hop) ?_
 refine c_s (hoq) ?_
 refine c_s (hon) ?_
 refine a_z ?_
 refine cT (r_z 3 ?_)
 refine ai_ (Fin.many ⟨_,_,rfl,⟨_,_,_,_,_,rfl,rfl,rfl,.inl ⟨tg_51.h,_,ts_51.h,nle rfl,rfl⟩⟩,⟨_,_,rfl,rfl,rfl⟩⟩ (nle rfl) ?_)
 exact af_ (Cv_wZ at_) (af_ (al_ at_ (ad_ _)) ap_)
end Go.Proofs.YtdjfjpeoddmamaaGreatDoor
