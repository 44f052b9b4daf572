/- Part V31. -/
import Derived.Test.YtiodeiecpoopgaaGreatDoorV30
set_option linter.all false
namespace Go.Proofs.YtiodeiecpoopgaaGreatDoor
open Go.Abs
set_option maxRecDepth 20000
set_option maxHeartbeats 4000000
section
variable {z v:Nat->RQ}{n i:Nat}{L:Ln}
def xzL(z v:Nat->RQ)(n:Nat)(L:Ln)(i:Nat):List RQ:=(List.range n).map fun j=>if (L.take i).contains j then v (L.idxOf j) else z j
@[simp] theorem Cb (z v:Nat->RQ)(n:Nat)(L:Ln)(i:Nat):(xzL z v n L i).length=n:=by simp[xzL]
theorem Eo{c:Nat}(h:c< n):∀e:Nat,e=c->∃y,(rE (xzL z v n L i))[e]?=some (rC y):=fun e a=>by
 subst a;exact⟨_,gX (by unfold xzL;rw[List.getElem?_map,List.getElem?_range h];rfl)⟩
theorem xzL_s{A:Mx}{c0:Nat}{c:Nat}(hE:Ech A n c0 L)(hl:L[i]?=some c)(hc:c< n):∀e:Nat,e=c->(rE (xzL z v n L i)).set e (rC (v i))=rE (xzL z v n L (i+1)):=fun e b=>by
 subst b;rw[CQ];congr 1;have a:L.take (i+1)=L.take i++[e]:=by rw[List.take_add_one,hl];rfl
 refine List.ext_getElem? fun t=>?_;rw[List.getElem?_set,Cb];by_cases ht:t< n;by_cases h1:e=t;subst h1;rw[if_pos rfl,if_pos ht];unfold xzL;rw[List.getElem?_map,List.getElem?_range ht,a,Option.map_some,if_pos (by simp),hE.idx hl];rw[if_neg h1];unfold xzL;rw[List.getElem?_map,List.getElem?_map,List.getElem?_range ht,a,Option.map_some,Option.map_some]
 have d:(L.take i++[e]).contains t=(L.take i).contains t:=by
  simp only[List.contains_eq_mem,List.mem_append,List.mem_singleton];simp[show¬t=e from fun f=>h1 f.symm]
 rw[d];rw[if_neg (by omega),List.getElem?_eq_none (by simp;omega),List.getElem?_eq_none (by simp;omega)]
theorem xzL_0(v:Nat->RQ)(n:Nat)(L:Ln):xzL (fun _=>r0) v n L 0=List.replicate n r0:=by
 unfold xzL;rw[List.eq_replicate_iff];refine⟨by simp,fun b hb=>?_⟩;obtain⟨_,_,e⟩:=List.mem_map.1 hb;exact e.symm
theorem xzL_1(v:Nat->RQ){f:Nat}(L:Ln)(h:f< n):(List.replicate n r0).set f (rq 1)=xzL (fun j=>if j=f then rq 1 else r0) v n L 0:=by
 refine List.ext_getElem? fun t=>?_;rw[List.getElem?_set];unfold xzL;rw[List.getElem?_map];by_cases ht:t< n;rw[List.getElem?_range ht,Option.map_some];by_cases h1:f=t;subst h1;simp[h];rw[if_neg h1];simp[ht,show¬t=f from fun e=>h1 e.symm];rw[if_neg (by omega),List.getElem?_eq_none (by simp;omega),List.getElem?_eq_none (l:=List.range n) (by simp;omega)];rfl
theorem Hy(h:L.length<=i):xzL z v n L i=xzL z v n L L.length:=by
 unfold xzL;rw[List.take_of_length_le h,List.take_length]
theorem zY{r:Ren}{hp hp':Hq}(h:Shr r hp hp')(n:Nat):CvLL r hp hp' (List.replicate n zR4) (rE (List.replicate n r0)):=by
 have:=CvLL.zerosR h [] n;simpa[rE] using this
def soX(A:Mx)(n:Nat)(L:Ln):List RQ:=xzL (fun _=>r0) (fun t=>rq (A t n)) n L L.length
def soF(A:Mx)(n:Nat)(L:Ln)(f:Nat):List RQ:=xzL (fun j=>if j=f then rq 1 else r0) (fun t=>rq (-A t f)) n L L.length
def soE(A:Mx)(n:Nat)(L:Ln)(m:Nat):Lc:=(frL L m).map fun f=>[.arr (rE (gz (soF A n L f)))]
@[simp] theorem Cs (A:Mx)(n:Nat)(L:Ln):(soX A n L).length=n:=by simp[soX]
@[simp] theorem Ct (A:Mx)(n:Nat)(L:Ln)(f:Nat):(soF A n L f).length=n:=by simp[soF]
theorem oQ(A:Mx)(n:Nat)(L:Ln)(m:Nat):∀e∈soE A n L m,∀c∈e,Closed c:=fun e a=>by
 obtain⟨l,_,rfl⟩:=List.mem_map.1 a;exact ac (aY _) af
def soR(n:Nat)(A:Mx)(L:Ln):AV:=if eA n A L then .tup [.arr [],.arr [],bln false] else .tup [.arr (rE (gz (soX A n L))),.arr (soE A n L n),bln true]
def bsA:Lc->AV
 |[]=> .emp
 |e::E=> .lsl 2 0 (E.length+1) none 1
def bsK:Lc->Hp
 |[]=>[]
 |e::E=>[(2,some ⟨37,1,e::E⟩)]
def xuS(A:Mx)(n:Nat)(L:Ln):Nat->AState
 |i=>⟨[(11,i64 n),(13,.arr (qmE (qrw A n) n)),(18,.arr (lvE L)),(19,.arr (bE (frF n L) n)),(28,.lsl 1 0 n (some n) 4),(29,i64 i)],[(1,some ⟨55,4,rE (xzL (fun _=>r0) (fun t=>rq (A t n)) n L i)⟩)],2,303⟩
def xbS(A:Mx)(n:Nat)(L:Ln)(U:List RQ):Nat->AState
 |j=>⟨[(11,i64 n),(13,.arr (qmE (qrw A n) n)),(18,.arr (lvE L)),(19,.arr (bE (frF n L) n)),(28,.arr (rE U)),(30,bsA (soE A n L j)),(31,i64 j)],bsK (soE A n L j),3,303⟩
def xvS(A:Mx)(n:Nat)(L:Ln)(U:List RQ)(E:Lc)(f:Nat):Nat->AState
 |i=>⟨[(11,i64 n),(13,.arr (qmE (qrw A n) n)),(18,.arr (lvE L)),(19,.arr (bE (frF n L) n)),(28,.arr (rE U)),(30,bsA E),(31,i64 f),(32,.lsl 1 0 n (some n) 4),(33,i64 i)],(1,some ⟨55,4,rE (xzL (fun j=>if j=f then rq 1 else r0) (fun t=>rq (-A t f)) n L i)⟩)::bsK E,3,303⟩
theorem so_read(A:Mx)(n:Nat)(L:Ln)(hE:Ech A n n L)(hn:n<=25)(hq:∀i j,i< n->j<=n->qs (A i j)<=100000000000):
    AWp none Tryz.prog soB (Fin Tryz.prog Tryz.f16.results.toList (soR n A L)) ⟨[(11,i64 n),(13,.arr (qmE (qrw A n) n)),(18,.arr (lvE L)),(19,.arr (bE (frF n L) n))],[],1,303⟩:=by
 have cM:=DX (qrw A n) n;have cL:=aG (cu L);have cF:=aG (closed_bE (frF n L) n);have hLn:=hE.len2;have hml:(qmE (qrw A n) n).length=n:=by simp
 have hll:(lvE L).length=L.length:=iI L;have hbl:(bE (frF n L) n).length=n:=by simp
 have hrow:∀i,i< n->(qmE (qrw A n) n)[((i:Nat):Int).toNat]?=some [.arr (rE (qrw A n i))]:=fun i hi=>qmE_get hi _ (by simp);have hval:∀i j,j< n+1->(rE (qrw A n i))[((j:Nat):Int).toNat]?=some (rC (rq (A i j))):=fun i j hj=>pt (by omega) _ (by simp);have hrl:∀i,(rE (qrw A n i)).length=n+1:=fun i=>by simp
 unfold soB soA;refine r_z 3 ?_;refine ae (r_z 1 ?_);refine aC (fun _:Unit=>⟨[(11,i64 n),(13,.arr (qmE (qrw A n) n)),(18,.arr (lvE L)),(19,.arr (bE (frF n L) n)),(28,.arr (rE (soX A n L)))],[],1,303⟩) (fun _=>eA n A L=false) ?_ ?_
 ·refine ah (ax (xuS A n L) (fun i=>n- i) (fun i=>i<=n/\∀t,L.length<=t->t< i->A t n=0) 0 ⟨Nat.zero_le _,fun t h1 h2=>by omega⟩ ?_ ?_)
  rw[xuS.eq_1,xzL_0];refine s_x [(1,28)] (fun hs=>e_19) (fun hs=>?_)
  ·repeat' (first|exact aA|refine h_c ?_ ?_|exact zY hs n|exact br|refine ay ?_|exact aq|refine ak ?_ ?_|exact ai hs cM|exact ai hs cL|exact ai hs cF|exact aS)
  rintro i ⟨hi,hz⟩;rw[xuS.eq_1];by_cases hlt:i< n;rotate_left;have hge:i=n:=by omega
  subst hge;refine ae (q_z 3 ?_);refine ap rfl (fun h=>?_) (fun h=>?_);cases h;refine aw ⟨(),?_,?_⟩;cases hb:eA i A L with
  |false=>rfl
  |true=>obtain⟨t,h1,h2,h3⟩:=ow hb;exact absurd (hz t h1 h2) h3
  rw[Hy hLn];refine s_x [] (fun hs=>?_) (fun hs=>?_)
  ·repeat' (first|exact aI|refine au rfl ?_ ?_|exact ai hs cM|exact ai hs cL|exact ai hs cF|(refine Cv.shut hs rfl (aH rfl) (by simp) ?_;exact aF hs (by rw[List.drop_zero];exact List.take_of_length_le (by simp)) (cC _))|exact aS)
  ·repeat' (first|exact aA|refine h_c ?_ ?_|exact br|refine ay ?_|exact aq|refine ak ?_ ?_|exact ai hs cM|exact ai hs cL|exact ai hs cF|(refine Cv.shut hs rfl (aH rfl) (by simp) ?_;exact aF hs (by rw[List.drop_zero];exact List.take_of_length_le (by simp)) (cC _))|exact aS)
  refine ae (q_z 3 ?_);refine cT (am (ae (ah ?_)));have hrow:=hrow i hlt;have hval:=hval i n (by omega);have hrl:=hrl i;by_cases hiL:i< L.length;obtain⟨c,hc⟩:∃c,L[i]?=some c:=⟨_,List.getElem?_eq_getElem hiL⟩;have hcn:=hE.lt i c hc;have hgt:(lvE L)[((i:Nat):Int).toNat]?=some [i64 c]:=nT hc _ (by simp);obtain⟨y,hy⟩:=Eo (z:=fun _=>r0) (v:=fun t=>rq (A t n)) (L:=L) (i:=i) hcn (0+((c:Nat):Int).toNat) (by omega);have hxl:(rE (xzL (fun _=>r0) (fun t=>rq (A t n)) n L i)).length=n:=by simp
  refine q_z 4 ?_;refine cT (r_d aT 14 ?_);refine a_3 ?_;refine i_x hgt ?_;refine l_1 hgt ?_;refine a_2 ?_;refine i_x hrow ?_;refine l_1 hrow ?_;refine a_1 ?_;refine i_x hval ?_;refine l_x hval ?_;refine a_1 ?_;refine dB (.store rfl rfl hy rfl rfl rfl TS.h (nle rfl)) ?_;refine ao (n_k ?_);refine r_m 3 ?_;refine a_z ?_;refine⟨i+1,by omega,⟨by omega,fun t h1 h2=>hz t h1 (by omega)⟩,?_⟩;rw[xuS.eq_1];refine s_x [(1,28)] (fun hs=>e_19) (fun hs=>?_)
  ·repeat' (first|exact aA|refine h_c ?_ ?_|exact aF hs (xzL_s hE hc hcn (0+((c:Nat):Int).toNat) (by omega)) (cC _)|exact br|refine ay ?_|exact aq|refine ak ?_ ?_|exact ai hs cM|exact ai hs cL|exact ai hs cF|exact aS)
  have hsg:=nm (rq (A i n));refine q_z 4 ?_;refine ap rfl (fun h=>?_) (fun h=>?_);cases h;by_cases h0:A i n=0;refine s_r 9 ?_;refine a_2 ?_;refine i_x hrow ?_;refine l_1 hrow ?_;refine a_1 ?_;refine i_x hval ?_;refine l_x hval ?_;refine c_s (hsg) ?_;refine o_0 (.bin rfl rfl (vF bR (neF (sgZ_zero.2 h0)))) ?_;refine ao ?_;refine ap rfl (fun h=>?_) (fun h=>?_);cases h;refine am (r_m 3 ?_);refine a_z ?_;refine⟨i+1,by omega,⟨by omega,fun t h1 h2=>?_⟩,?_⟩;by_cases e:t=i;rw[e];exact h0;exact hz t h1 (by omega);rw[xuS.eq_1,Hy (i:=i) (by omega),Hy (i:=i+1) (by omega)];refine s_x [(1,28)] (fun hs=>e_19) (fun hs=>?_)
  ·repeat' (first|exact aA|refine h_c ?_ ?_|exact aV hs (cC _)|exact br|refine ay ?_|exact aq|refine ak ?_ ?_|exact ai hs cM|exact ai hs cL|exact ai hs cF|exact aS)
  refine s_r 9 ?_;refine a_2 ?_;refine i_x hrow ?_;refine l_1 hrow ?_;refine a_1 ?_;refine i_x hval ?_;refine l_x hval ?_;refine c_s (hsg) ?_;refine o_0 (.bin rfl rfl (vT bR (neT (mt sgZ_zero.1 h0)))) ?_;refine ao ?_;refine cT (r_z 3 ?_);refine aj ?_
  have hnb:eA n A L=true:=by
   cases hb:eA n A L with
   |true=>rfl
   |false=>exact absurd (kx hb i (by omega) hlt) h0
  unfold soR;rw[if_pos hnb];refine Fin.many ⟨_,_,rfl,rfl,⟨_,_,rfl,rfl,⟨_,_,rfl,rfl,rfl⟩⟩⟩ (nle rfl) ?_;exact ak (Cv.emp _) (ak (Cv.emp _) (ak (ai aB (ag _)) aq))
 rintro _ hnb;obtain⟨U,hU⟩:∃U,U=soX A n L:=⟨_,rfl⟩;have hR:soR n A L= .tup [.arr (rE (gz U)),.arr (soE A n L n),bln true]:=by unfold soR;rw[if_neg (by rw[hnb];decide),hU]
 rw[hR,<-hU];have hUl:U.length=n:=by rw[hU];simp[soX]
 clear hR hU;have cU:=aY U;refine r_z 1 ?_;refine ae (r_z 1 ?_);refine aC (fun _:Unit=>⟨[(28,.arr (rE U)),(30,bsA (soE A n L n))],bsK (soE A n L n),3,303⟩) (fun _=>True) ?_ ?_
 ·refine ah (ax (xbS A n L U) (fun j=>n- j) (fun j=>j<=n) 0 (Nat.zero_le _) ?_ ?_)
  rw[xbS.eq_1,show soE A n L 0=[] from rfl];exact s_x [] (fun hs=>e_1) (fun hs=>e_20);intro j hj;rw[xbS.eq_1];have hEc:=oQ A n L j;by_cases hlt:j< n;rotate_left;have hge:j=n:=by omega
  subst hge;refine ae (q_z 3 ?_);refine ap rfl (fun h=>?_) (fun h=>?_);cases h;refine aw ⟨(),trivial,?_⟩;generalize soE A j L j=E at hEc⊢;cases E with
  |nil=>
   exact s_x [] (fun hs=>e_1) (fun hs=>e_20)
  |cons e E=>
   exact s_x [(2,30)] (fun hs=>e_1) (fun hs=>e_50)
  obtain⟨E,hEe⟩:∃E,E=soE A n L j:=⟨_,rfl⟩
  have hone:E.all (·.all AV.one)=true:=by
   rw[hEe];unfold soE;rw[List.all_map,List.all_eq_true];intro _ _;rfl
  have hEl:E.length<=j:=by rw[hEe];unfold soE;rw[List.length_map];exact qh L j
  rw[<-hEe] at hEc⊢;have hbg:(bE (frF n L) n)[((j:Nat):Int).toNat]?=some [bln (frF n L j)]:=wh hlt _ (by simp);refine ae (q_z 3 ?_);refine cT (am (ae (ah ?_)));by_cases hjL:j∈L;rw[show frF n L j=false from decide_eq_false fun h=>h.2 hjL] at hbg;have hE2:soE A n L (j+1)=E:=by rw[hEe];unfold soE;rw[vw (by simpa using hjL)]
  refine s_r 4 ?_;refine a_2 ?_;refine i_x hbg ?_;refine l_1 hbg ?_;refine ao ?_;refine ap rfl (fun h=>?_) (fun h=>?_);cases h;refine am (r_m 3 ?_);refine a_z ?_;refine⟨j+1,by omega,by omega,?_⟩;rw[xbS.eq_1,hE2];clear hE2 hEe;cases E with
  |nil=>
   exact s_x [] (fun hs=>e_1) (fun hs=>e_20)
  |cons e E=>
   exact s_x [(2,30)] (fun hs=>e_1) (fun hs=>e_50)
  rw[show frF n L j=true from decide_eq_true ⟨hlt,hjL⟩] at hbg;have hE2:soE A n L (j+1)=E++[[.arr (rE (gz (soF A n L j)))]]:=by rw[hEe];unfold soE;rw[qg (by simpa using hjL),List.map_append];rfl
  clear hEe;have hi1:FS 54 [i64 1] (.agg (rC (rq 1))):=iW 1 (by decide);refine s_r 4 ?_;refine a_2 ?_;refine i_x hbg ?_;refine l_1 hbg ?_;refine ao ?_;refine cT (r_z 3 ?_);refine AWp.ent (st':=⟨[(11,i64 n),(13,.arr (qmE (qrw A n) n)),(18,.arr (lvE L)),(19,.arr (bE (frF n L) n)),(28,.arr (rE U)),(30,bsA E),(31,i64 j),(32,.lsl 1 0 n (some n) 4)],(1,some ⟨55,4,rE (List.replicate n r0)⟩)::bsK E,3,303⟩) ?_ ?_;clear hE2;cases E with
  |nil=>
   refine s_x [(1,32)] (fun hs=>e_1) (fun hs=>?_)
   ·repeat' (first|exact aA|refine h_c ?_ ?_|exact zY hs n|exact br|refine ay ?_|exact aq|refine ak ?_ ?_|exact ai hs cM|exact ai hs cL|exact ai hs cF|exact ai hs cU|exact aS)
  |cons e E=>
   refine s_x [(1,32),(2,30)] (fun hs=>e_1) (fun hs=>?_)
   ·repeat' (first|exact aA|refine h_c ?_ ?_|exact zY hs n|exact aV hs hEc|exact br|refine ay ?_|exact aq|refine ak ?_ ?_|exact ai hs cM|exact ai hs cL|exact ai hs cF|exact ai hs cU|exact aS)
  have hrg:(rE (List.replicate n r0))[0+((j:Nat):Int).toNat]?=some (rC r0):=by
   rw[show 0+((j:Nat):Int).toNat=j by omega];exact gX (by rw[List.getElem?_replicate,if_pos hlt])
  have hset:(rE (List.replicate n r0)).set (0+((j:Nat):Int).toNat) (rC (rq 1))=rE (xzL (fun t=>if t=j then rq 1 else r0) (fun t=>rq (-A t j)) n L 0):=by
   rw[show 0+((j:Nat):Int).toNat=j by omega,CQ,xzL_1 _ L hlt]
  have hrpl:(rE (List.replicate n r0)).length=n:=by simp
  refine r_c 5 (hi1) ?_;refine a_1 ?_;refine dB (.store rfl rfl hrg rfl rfl rfl TS.h (nle rfl)) ?_;refine ao ?_;refine ae (r_z 1 ?_);refine aC (fun _:Unit=>⟨[(11,i64 n),(13,.arr (qmE (qrw A n) n)),(18,.arr (lvE L)),(19,.arr (bE (frF n L) n)),(28,.arr (rE U)),(30,bsA E),(31,i64 j),(32,.lsl 1 0 n (some n) 4)],(1,some ⟨55,4,rE (soF A n L j)⟩)::bsK E,3,303⟩) (fun _=>True) ?_ ?_
  ·clear hE2
   refine ah (ax (xvS A n L U E j) (fun i=>L.length- i) (fun i=>i<=L.length) 0 (Nat.zero_le _) ?_ ?_);rw[xvS.eq_1];cases E with
   |nil=>
    refine s_x [(1,32)] (fun hs=>e_1) (fun hs=>?_)
    ·repeat' (first|exact aA|refine h_c ?_ ?_|exact aF hs hset (cC _)|exact br|refine ay ?_|exact aq|refine ak ?_ ?_|exact ai hs cM|exact ai hs cL|exact ai hs cF|exact ai hs cU|exact aS)
   |cons e E=>
    refine s_x [(1,32),(2,30)] (fun hs=>e_1) (fun hs=>?_)
    ·repeat' (first|exact aA|refine h_c ?_ ?_|exact aF hs hset (cC _)|exact aV hs hEc|exact br|refine ay ?_|exact aq|refine ak ?_ ?_|exact ai hs cM|exact ai hs cL|exact ai hs cF|exact ai hs cU|exact aS)
   intro i hi;rw[xvS.eq_1];by_cases hiL:i< L.length;rotate_left;have hge:i=L.length:=by omega
   subst hge;refine ae (q_z 4 ?_);refine ap rfl (fun h=>?_) (fun h=>?_);cases h;refine aw ⟨(),trivial,?_⟩;cases E with
   |nil=>
    refine s_x [(1,32)] (fun hs=>e_1) (fun hs=>?_)
    ·repeat' (first|exact aA|refine h_c ?_ ?_|exact aV hs (cC _)|exact br|refine ay ?_|exact aq|refine ak ?_ ?_|exact ai hs cM|exact ai hs cL|exact ai hs cF|exact ai hs cU|exact aS)
   |cons e E=>
    refine s_x [(1,32),(2,30)] (fun hs=>e_1) (fun hs=>?_)
    ·repeat' (first|exact aA|refine h_c ?_ ?_|exact aV hs (cC _)|exact aV hs hEc|exact br|refine ay ?_|exact aq|refine ak ?_ ?_|exact ai hs cM|exact ai hs cL|exact ai hs cF|exact ai hs cU|exact aS)
   obtain⟨c,hc⟩:∃c,L[i]?=some c:=⟨_,List.getElem?_eq_getElem hiL⟩;have hcn:=hE.lt i c hc;have hin:i< n:=by omega
   have hgt:(lvE L)[((i:Nat):Int).toNat]?=some [i64 c]:=nT hc _ (by simp);obtain⟨y,hy⟩:=Eo (z:=fun t=>if t=j then rq 1 else r0) (v:=fun t=>rq (-A t j)) (L:=L) (i:=i) hcn (0+((c:Nat):Int).toNat) (by omega);have hxl:(rE (xzL (fun t=>if t=j then rq 1 else r0) (fun t=>rq (-A t j)) n L i)).length=n:=by simp
   have hrow:=hrow i hin;have hval:=hval i j (by omega);have hrl:=hrl i;have hng:=Fw (rq (A i j)) (cK _);refine ae (q_z 4 ?_);refine cT (am (ae (ah (r_d aT 15 ?_))));refine a_3 ?_;refine i_x hgt ?_;refine l_1 hgt ?_;refine a_2 ?_;refine i_x hrow ?_;refine l_1 hrow ?_;refine a_1 ?_;refine i_x hval ?_;refine l_x hval ?_;refine c_s (hng) ?_;refine a_1 ?_;refine dB (.store rfl rfl hy rfl rfl rfl TS.h (nle rfl)) ?_;refine ao (n_k ?_);refine r_m 3 ?_;refine a_z ?_;refine⟨i+1,by omega,by omega,?_⟩;rw[xvS.eq_1];have hst:=xzL_s (z:=fun t=>if t=j then rq 1 else r0) (v:=fun t=>rq (-A t j)) hE hc hcn (0+((c:Nat):Int).toNat) (by omega);cases E with
   |nil=>
    refine s_x [(1,32)] (fun hs=>e_1) (fun hs=>?_)
    ·repeat' (first|exact aA|refine h_c ?_ ?_|exact aF hs hst (cC _)|exact br|refine ay ?_|exact aq|refine ak ?_ ?_|exact ai hs cM|exact ai hs cL|exact ai hs cF|exact ai hs cU|exact aS)
   |cons e E=>
    refine s_x [(1,32),(2,30)] (fun hs=>e_1) (fun hs=>?_)
    ·repeat' (first|exact aA|refine h_c ?_ ?_|exact aF hs hst (cC _)|exact aV hs hEc|exact br|refine ay ?_|exact aq|refine ak ?_ ?_|exact ai hs cM|exact ai hs cL|exact ai hs cF|exact ai hs cU|exact aS)
  rintro _ _;have htr:=gE (soF A n L j) (by simp[soF];omega);have hsl:(rE (soF A n L j)).length=n:=by simp[soF]
  cases E with
  |nil=>
   refine r_m 6 ?_;refine a_2 ?_;refine o_1 (.callS1 rfl rfl rfl (.shut rfl d_n (.nil)) rfl ((FSpec.argE htr (by rw[List.drop_zero];exact List.take_of_length_le (by simp))))) ?_;refine a_1 ?_;refine AR.op1 (.append_e rfl rfl rfl te_76.h rfl rfl rfl (.lsl rfl (nle rfl)) (by first|assumption|(simp;done)) TZ.h rfl TB.h d_o (by first|(simp[maxLen];done)|(simp[maxLen];omega))) rfl rfl ?_;refine a_z ?_;refine r_m 3 ?_;refine a_z ?_;refine⟨j+1,by omega,by omega,?_⟩;rw[xbS.eq_1,hE2];refine s_x [(2,30)] (fun hs=>e_1) (fun hs=>?_)
   ·repeat' (first|exact aA|refine h_c ?_ ?_|exact aV hs (fun e he=>by rw[List.mem_singleton.1 he];exact ac (aY _) af)|exact br|refine ay ?_|exact aq|refine ak ?_ ?_|exact ai hs cM|exact ai hs cL|exact ai hs cF|exact ai hs cU|exact aS)
  |cons e E=>
   have hEl2:E.length+1<=j:=hEl;refine r_m 6 ?_;refine a_2 ?_;refine o_1 (.callS1 rfl rfl rfl (.shut rfl d_n (.nil)) rfl ((FSpec.argE htr (by rw[List.drop_zero];exact List.take_of_length_le (by simp))))) ?_;refine o_1 (.buildSlice te_76.h TZ.h rfl (by decide) rfl rfl rfl (by first|(simp;done)|(simp[b7,ofV];done)|rfl)) ?_;refine o_2 (.append_l rfl rfl rfl te_76.h rfl rfl rfl rfl rfl d_o (by first|exact eT _|exact eP _|exact dZ _|exact eW _|exact eg _|assumption|rfl|simp) (by first|rfl|exact eT _|exact eP _|exact dZ _|exact eW _|exact eg _|simp) rfl (.lsl rfl (nle rfl)) TZ.h rfl TB.h d_o (by first|(simp[maxLen];done)|(simp[maxLen];omega))) ?_;refine o_0 (.assign rfl) ?_;refine ao ?_;refine r_m 3 ?_;refine a_z ?_;refine⟨j+1,by omega,by omega,?_⟩;rw[xbS.eq_1,hE2]
   have hEc2:∀x∈e::(E++[[.arr (rE (gz (soF A n L j)))]]),∀c∈x,Closed c:=fun x hx=>by
    rcases List.mem_append.1 (show x∈(e::E)++[[.arr (rE (gz (soF A n L j)))]] from hx) with h|h
    exact hEc x h;rw[List.mem_singleton.1 h];exact ac (aY _) af
   refine s_x [(2,30)] (fun hs=>e_1) (fun hs=>?_)
   ·repeat' (first|exact aA|refine h_c ?_ ?_|exact aV hs hEc2|exact br|refine ay ?_|exact aq|refine ak ?_ ?_|exact ai hs cM|exact ai hs cL|exact ai hs cF|exact ai hs cU|exact aS)
 rintro _ _;have htr:=gE U (by omega);have hEc:=oQ A n L n;generalize soE A n L n=E at hEc⊢;refine r_c 6 (htr) ?_;refine a_z ?_;refine aj (Fin.many ⟨_,_,rfl,rfl,⟨_,_,rfl,rfl,⟨_,_,rfl,rfl,rfl⟩⟩⟩ (nle rfl) ?_);refine ak (ai aB (aY _)) (ak ?_ (ak (ai aB (ag _)) aq));cases E with
 |nil=>exact Cv.emp _
 |cons e E=>exact Cv.shut (es:=e::E) (B:=⟨37,1,e::E⟩) aB rfl (fun j B hj=>by cases hj) (by simp) (lG (by simp) hEc)
end

def sx(p:Lq×Lq):Bool:=decide (12< a8 p.1)||decide (12< a8 p.2)
def vaB(k:Ke):Bool:=!k.any sx && decide (k.length<=8)
theorem Hk(p:Lq×Lq):zQ p=sx p:=by
 unfold zQ sx;by_cases h1:12< a8 p.1;rw[decide_eq_true h1,Bool.true_or,decide_eq_true];split <;> omega;by_cases h2:12< a8 p.2;rw[decide_eq_true h2,Bool.or_true,decide_eq_true];split <;> omega;rw[decide_eq_false h1,decide_eq_false h2,Bool.or_false,decide_eq_false];split <;> omega
def vkS(k:Ke):Nat->AState
 |i=>⟨[(0,.arr (keR k)),(3,i64 i)],[],1,29⟩
theorem vg(k:Ke)(hl:k.length<=1000)(h2:∀p∈k,p.1.length<=1000000/\p.2.length<=1000000):FS 14 [.arr (keR k)] (bln (vaB k)):=by
 have l:(keR k).length=k.length:=j2 k;refine f_n Tryz.func14 ?_ ?_;exact ac (b5 k) af;obtain⟨r,n⟩:∃r,r=vaB k:=⟨_,rfl⟩;rw[<-n];refine r_z 1 ?_;refine ae (r_z 1 ?_);refine aC (fun _:Unit=>⟨[(0,.arr (keR k))],[],1,29⟩) (fun _=> ∀p∈k,sx p=false) ?_ ?_;refine ah (ax (vkS k) (fun i=>k.length- i) (fun i=>i<=k.length/\∀p∈k.take i,sx p=false) 0 ⟨Nat.zero_le _,fun p hp=>by simp at hp⟩ ?_ ?_);rw[vkS.eq_1];have:=b5 k;exact s_f [];rintro i ⟨o,b⟩;rw[vkS.eq_1];by_cases hlt:i< k.length;obtain⟨p,hp⟩:∃p,k[i]?=some p:=⟨_,List.getElem?_eq_getElem hlt⟩;have a:(keR k)[((i:Nat):Int).toNat]?=some (pkR p):=yT hp _ (by simp);have f:=List.mem_of_getElem? hp;obtain⟨l1,l2⟩:=h2 p f;have d1:=fL (rP p.1) (by simp;omega);have d2:=fL (rP p.2) (by simp;omega);rw[c6] at d1 d2
 have d:sx p=true->r=false:=fun e=>by
  rw[n];unfold vaB;rw[List.any_eq_true.2 ⟨p,f,e⟩];rfl
 by_cases e1:12< a8 p.1;refine ae (q_z 4 ?_);refine cT (am (ae (ah (s_r 16 ?_))));refine a_2 ?_;refine i_x a ?_;refine a_1 ?_;refine l_1 a ?_;refine c_s (d1) ?_;refine d_z ?_;refine cT ?_;rw[d (by unfold sx;rw[decide_eq_true e1];rfl)];refine r_z 1 ?_;exact aj (t_e (ag _));by_cases e2:12< a8 p.2;refine ae (q_z 4 ?_);refine cT (am (ae (ah (s_r 16 ?_))));refine a_2 ?_;refine i_x a ?_;refine a_1 ?_;refine l_1 a ?_;refine c_s (d1) ?_;refine d_4 ?_;refine aW rfl rfl rfl (.index_a rfl rfl (by omega) a rfl te_31.h) rfl rfl ?_;refine m_1 ?_;refine aW rfl rfl rfl (.load_a1 rfl a TG.h rfl) rfl rfl ?_;refine c_s (d2) ?_;refine d_z ?_;refine cT ?_;rw[d (by unfold sx;rw[decide_eq_true e2,Bool.or_true])];refine r_z 1 ?_;exact aj (t_e (ag _));refine ae (q_z 4 ?_);refine cT (am (ae (ah (s_r 16 ?_))));refine a_2 ?_;refine i_x a ?_;refine a_1 ?_;refine l_1 a ?_;refine c_s (d1) ?_;refine d_4 ?_;refine aW rfl rfl rfl (.index_a rfl rfl (by omega) a rfl te_31.h) rfl rfl ?_;refine m_1 ?_;refine aW rfl rfl rfl (.load_a1 rfl a TG.h rfl) rfl rfl ?_;refine c_s (d2) ?_;refine d_z ?_;refine cF (am (r_m 3 ?_));refine a_z ?_;refine⟨i+1,by omega,⟨by omega,fun q c=>?_⟩,?_⟩;rw[cm hp] at c;rcases List.mem_append.1 c with c|c
 exact b q c;rw[List.mem_singleton.1 c];unfold sx;rw[decide_eq_false e1,decide_eq_false e2];rfl;rw[vkS.eq_1];have:=b5 k;exact s_f [];have j:i=k.length:=by omega
 refine ae (q_z 4 ?_);refine cF (aw ⟨(),(by rw[j,List.take_length] at b;exact b),?_⟩);have:=b5 k;exact s_f [];rintro _ g
 have m:r=decide (((keR k).length:Int)<=8):=by
  rw[n];unfold vaB;have:k.any sx=false:=List.any_eq_false.2 fun p hp=>by rw[g p hp];decide
  rw[this,l];show decide (k.length<=8)=_;exact decide_eq_decide.2 (by omega)
 rw[m];refine r_z 4 ?_;exact aj (t_e (ag _))
theorem JI(k:Ke)(g:Lq)(hl:k.length<=1000)(h2:∀p∈k,p.1.length<=1000000/\p.2.length<=1000000)(hg:g.length<=1000000):FS 18 [.arr (keR k),.arr (rE (rP g))] (bln (!vaB k||decide (20< a8 g))):=by
 have hv:=vg k hl h2;have a:=fL (rP g) (by simp;omega);rw[c6] at a;refine f_n Tryz.func18 ?_ ?_;exact ac (b5 k) (ac (aY _) af);refine r_z 1 ?_;cases e:vaB k with
 |false=>
  rw[e] at hv;refine r_c 9 (hv) ?_;refine d_z ?_;exact aj (t_e (ag _))
 |true=>
  rw[e] at hv;refine r_c 9 (hv) ?_;refine e_s (a) ?_;refine d_z ?_;exact aj (t_e (ag _))
theorem wW{k:Ke}(hkl:k.length<=3)(h4:∀p∈k,p.1.length<=4/\p.2.length<=4):rD k:=by
 refine⟨by omega,?_,fun p hp=>by have:=h4 p hp;omega⟩;rw[List.any_eq_false];intro p hp;have h:=h4 p hp;have a:=bw p.1;have a2:=bw p.2
 have:¬(12< if a8 p.2> a8 p.1 then a8 p.2 else a8 p.1):=by
  unfold a8;split <;> omega
 unfold zQ;simpa using this
theorem qN(g:Lq){n:Nat}(h:g.length<=n+1):a8 g<=n:=by
 have:=bw g;unfold a8;omega
theorem Hn{k:Ke}{l:Rat}{g:Lq}{a:Rat}{n:Nat}(hn:n<=40)(hkl:k.length<=3)(h4:∀p∈k,p.1.length<=4/\p.2.length<=4)(hb:∀p∈k,bdL p.1 20/\bdL p.2 20)(hg:g.length<=5)(bg:bdL g 20)(hl:qs l<=20)(ha:qs a<=20):OkSe k l g a n:=by
 obtain⟨M,Q,w,C,E,A,x⟩:=KQ hkl h4 hb;obtain⟨c,i,d0⟩:=Eg ha;obtain⟨m,t,y⟩:=Eg hl;obtain⟨R,v⟩:=zX g bg;have v:=v.mono (show _<=101 by omega);obtain⟨z,B,o,j,q,u,h⟩:=Hr w C E A x d0 i c;obtain⟨D,e⟩:=HS_shift' (N:=4) d0 i c v (by omega);have e:=e.mono (show _<=3000 by omega);have F:=kf a g;have f:(mvK a k).length<=900:=by unfold mvK;simp;omega
 have S:=fun r (s:r<=1000)=>H9 (k:=mvK a k) (G:=cb [a,1] g) (L:=l) o f (by omega) (by omega) j q u h e y t m hn r s;have U:=fun r (s:r<=1000) (K:Rat) (H:HS (seK (mvK a k) (cb [a,1] g) l n r) K (20000* r+1))=>xU (a:=0) (d:=1) o f (by have:=yi (mvK a k) (cb [a,1] g) l n r;omega) H (by decide) (IB.one.mono (by omega)) ((IB.zero 20).eq (by grind)) (by decide) (by omega) j q u h (by omega);refine⟨wW hkl h4,by have:=qN g (n:=4) (by omega);omega,fun p hp=>?_,?_,by omega,by unfold sm;omega,dI (e.bdL (by omega)) (by omega),by omega,fun r s=>(S r (by omega)).2,fun r s=>?_,fun r s=>?_⟩;obtain⟨J,O⟩:=h4 p hp;exact⟨⟨nP (N:=3) d0 i c ha (by omega) (by omega) (by omega) _ (by omega) (w.a p hp),by omega⟩,nP (N:=3) d0 i c ha (by omega) (by omega) (by omega) _ (by omega) (w.b p hp),by omega⟩;exact nP (N:=4) d0 i c ha (by omega) (by omega) (by omega) _ (by omega) v;obtain⟨K,H⟩:=(S r (by omega)).1;obtain⟨u1,u2,_⟩:=U r (by omega) K H;have hl:=yi (mvK a k) (cb [a,1] g) l n r;exact⟨dI (u1.bdL (by omega)) (by omega),by omega⟩;obtain⟨K,H⟩:=(S r (by omega)).1;obtain⟨u1,u2,_⟩:=U r (by omega) K H;exact dI ((u1.k y t m).bdL (by omega)) (by omega)
theorem F3(k:Ke):k.any zQ=k.any sx:=by
 congr 1;exact funext Hk
theorem yH{k:Ke}(h:vaB k=true)(h2:∀p∈k,p.1.length<=1099511627776/\p.2.length<=1099511627776):rD k:=by
 unfold vaB at h;simp only[Bool.and_eq_true,Bool.not_eq_true',decide_eq_true_eq] at h;exact⟨h.2,by rw[F3];exact h.1,h2⟩
theorem DE(k:Ke)(h:vaB k=false)(hl:k.length<=1000)(h2:∀p∈k,p.1.length<=1099511627776/\p.2.length<=1099511627776):FS 123 [.arr (kE k)] (i64 2):=by
 have b:(kE k).length=k.length:=dV k;have a:=p8 k 167 [] zQ af (by omega) (fun p hp=>xr p (h2 p hp).1 (h2 p hp).2) rfl;by_cases h8:8< k.length;refine f_n Tryz.func123 ?_ ?_;exact ac (aN k) af;refine r_z 1 ?_;refine ae (q_z 7 ?_);refine cT (r_z 1 ?_);exact aj (t_e (ag _))
 have hb:k.any zQ=true:=by
  unfold vaB at h;rw[decide_eq_true (by omega:k.length<=8),Bool.and_true] at h;rw[F3];simpa using h
 rw[hb] at a;refine f_n Tryz.func123 ?_ ?_;exact ac (aN k) af;refine r_z 1 ?_;refine ae (q_c 7 (a) ?_);refine a_z ?_;refine cT (r_z 1 ?_);exact aj (t_e (ag _))
theorem vd(k:Ke)(a b:Rat)(h:vaB k=false)(hl:k.length<=1000)(h2:∀p∈k,p.1.length<=1099511627776/\p.2.length<=1099511627776):FS 65 [.arr (kE k),.agg (spC a b)] (bln true):=by
 have c:=DE k h hl h2;refine f_n Tryz.func65 ?_ ?_;exact ac (aN k) (ac (bD _ _) af);refine r_z 2 ?_;refine r_c 9 (c) ?_;refine o_0 (.bin rfl rfl (vT bR (rfl))) ?_;refine d_z ?_;exact aj (t_e (ag _))
theorem wu(k:Ke)(l:Rat)(g:Lq)(a b:Rat)(h:vaB k=false\/20< a8 g)(hl:k.length<=1000)(h2:∀p∈k,p.1.length<=1099511627776/\p.2.length<=1099511627776)(ha:sm a)(hb:sm b)(hab:a<=b)(hgl:g.length<=1099511627776):FS 37 [.agg (eqC k l g++spC a b)] (bln true):=by
 have j:∀c∈eqC k l g++spC a b,Closed c:=fun c m=>(List.mem_append.1 m).elim (cv k l g c) (bh a b c);have f:=dc g hgl;cases e:vaB k with
 |false=>
  have d:=vd k a b e hl h2;refine f_c Tryz.func37 ?_;refine r_z 2 ?_;refine r_c 14 (d) ?_;refine d_z ?_;exact aj (t_e (ag _))
 |true=>
  have d:=rQ k a b (yH e h2) ha hb hab
  have i:20< a8 g:=by
   rcases h with h|h
   rw[e] at h;cases h;exact h
  refine f_c Tryz.func37 ?_;refine r_z 2 ?_;refine r_c 14 (d) ?_;refine e_s (f) ?_;refine d_z ?_;exact aj (t_e (ag _))
theorem G1(l:List fV)(ho:okR l)(hl:l.length<=9223372036854775807):
    FS 5 [.arr (nR l)] (if 40< l.length then .tup [.arr (pE []),.arr (rE []),bln false] else .tup [.arr (pE (nL l)),.arr (rE (rP (nL l))),bln (fC l 5||decide (20< a8 (nL l)))]):=by
 have c:(nR l).length=l.length:=by simp[nR]
 have d:=aG (dd l);by_cases h40:40< l.length;rw[if_pos h40];refine f_c Tryz.func5 ?_;refine r_z 3 ?_;refine ae (q_z 3 ?_);refine cT (r_z 3 ?_);refine aj (Fin.many ⟨_,_,rfl,rfl,⟨_,_,rfl,rfl,⟨_,_,rfl,rfl,rfl⟩⟩⟩ (nle rfl) ?_);exact ak (Cv.emp _) (ak (Cv.emp _) (ak (ai aB (ag _)) aq));rw[if_neg h40];have hb:=qe l (by omega) ho;have a:=pU l 5 hl (by decide);have b:=fL (rP (nL l)) (by simp[nL];omega);rw[c6] at b;cases e:fC l 5 with
 |true=>
  rw[e] at a;refine f_c Tryz.func5 ?_;refine r_z 3 ?_;refine ae (q_z 3 ?_);refine cF (am (r_c 7 (hb) ?_));refine a_z ?_;refine r_c 12 (a) ?_;refine d_z ?_;refine aj (Fin.many ⟨_,_,rfl,rfl,⟨_,_,rfl,rfl,⟨_,_,rfl,rfl,rfl⟩⟩⟩ (nle rfl) ?_);exact ak (ai aB (az _)) (ak (ai aB (aY _)) (ak (ai aB (ag _)) aq))
 |false=>
  rw[e] at a;refine f_c Tryz.func5 ?_;refine r_z 3 ?_;refine ae (q_z 3 ?_);refine cF (am (r_c 7 (hb) ?_));refine a_z ?_;refine r_c 12 (a) ?_;refine e_s (b) ?_;refine d_z ?_;refine aj (Fin.many ⟨_,_,rfl,rfl,⟨_,_,rfl,rfl,⟨_,_,rfl,rfl,rfl⟩⟩⟩ (nle rfl) ?_);exact ak (ai aB (az _)) (ak (ai aB (aY _)) (ak (ai aB (ag _)) aq))
abbrev iu:=List fV×List fV
def twC(t:iu):La:=[.arr (nR t.1),.arr (nR t.2)]
def twR(l:List iu):Lc:=l.map twC
@[simp] theorem Cj (l:List iu):(twR l).length=l.length:=by simp[twR]
theorem DV(l:List iu):∀x∈twR l,∀c∈x,Closed c:=fun x a=>by
 obtain⟨p,_,rfl⟩:=List.mem_map.1 a;exact ac (aG (dd _)) (ac (aG (dd _)) af)
theorem eF(l:List iu):Closed (.arr (twR l)):=aG (DV l)
theorem twR_get{l:List iu}{i:Nat}{t:iu}(h:l[i]?=some t):∀e,e=i->(twR l)[e]?=some (twC t):=fun e a=>by
 rw[a,twR,List.getElem?_map,h];rfl
def AG(t:iu):Prop:=(okR t.1/\okR t.2)/\t.1.length<=9223372036854775807/\t.2.length<=9223372036854775807
def fD(l:List fV):Bool:=fC l 4||decide (12< a8 (nL l))
def w8(t:iu):Bool:=decide (30< t.1.length)||decide (30< t.2.length)
def iF(t:iu):Bool:=!w8 t && (fD t.1 && fD t.2)
def w9(n:Nat):Bool:=!((decide (3< n) && decide (n<=8))||decide (12< n))
def tg(l:List iu):Bool:=w9 l.length && l.all iF
def keM(l:List iu):Ke:=l.map fun t=>(nL t.1,nL t.2)
@[simp] theorem fJ (l:List iu):(keM l).length=l.length:=by simp[keM]
def keV(l:List iu):AV:=if tg l then .tup [.arr (kE (keM l)),.arr (keR (keM l)),bln true] else .tup [.arr (kE []),.arr (keR []),bln false]
theorem keR_one(k:Ke):(keR k).all (·.all AV.one)=true:=by
 rw[List.all_eq_true];intro x a;obtain⟨p,_,rfl⟩:=List.mem_map.1 a;rfl
theorem Jc(k:Ke)(p:Lq×Lq):keR (k++[p])=keR k++[pkR p]:=by simp[keR]
def krS'(l:List iu):Nat->AState
 |0=>⟨[(0,.arr (twR l)),(5,.emp),(6,.emp),(7,i64 0)],[],1,105⟩
 |i+1=>⟨[(0,.arr (twR l)),(5,.lsl 1 0 (i+1) none 2),(6,.lsl 2 0 (i+1) none 2),(7,i64 ((i+1:Nat):Int))],[(1,some ⟨91,2,kE ((keM l).take (i+1))⟩),(2,some ⟨93,2,keR ((keM l).take (i+1))⟩)],3,105⟩
theorem px{l:List iu}{t:iu}(ht:t∈l)(h:iF t=false):tg l=false:=by
 unfold tg;rw[List.all_eq_false.2 ⟨t,ht,by rw[h];decide⟩,Bool.and_false]
structure PrF (t:iu):Prop where
 b1:FS 10 [.arr (nR t.1)] (.tup [.arr (pE (nL t.1)),.arr (rE (rP (nL t.1)))])
 b2:FS 10 [.arr (nR t.2)] (.tup [.arr (pE (nL t.2)),.arr (rE (rP (nL t.2)))])
 t1:FS 6 [.arr (nR t.1),i64 4] (bln (fC t.1 4))
 t2:FS 6 [.arr (nR t.2),i64 4] (bln (fC t.2 4))
 d1:FS 24 [.arr (rE (rP (nL t.1)))] (i64 (a8 (nL t.1)))
 d2:FS 24 [.arr (rE (rP (nL t.2)))] (i64 (a8 (nL t.2)))
theorem prF{t:iu}(h:AG t)(h1:t.1.length<=30)(h2:t.2.length<=30):PrF t:=by
 have d1:=fL (rP (nL t.1)) (by simp[nL];omega);have d2:=fL (rP (nL t.2)) (by simp[nL];omega);rw[c6] at d1 d2;exact⟨qe t.1 (by omega) h.1.1,qe t.2 (by omega) h.1.2,pU t.1 4 h.2.1 (by decide),pU t.2 4 h.2.2 (by decide),d1,d2⟩
theorem DC(l:List iu)(ho:∀t∈l,AG t)(hl:l.length<=9223372036854775807):FS 4 [.arr (twR l)] (keV l):=by
 have M:(twR l).length=l.length:=Cj l;refine f_n Tryz.func4 ?_ ?_;exact ac (eF l) af;obtain⟨r,D⟩:∃r,r=keV l:=⟨_,rfl⟩;rw[<-D];have e:tg l=false->r= .tup [.arr (kE []),.arr (keR []),bln false]:=fun h=>by rw[D,keV,h];rfl
 refine r_z 3 ?_;refine r_z 1 ?_;refine r_z 1 ?_;have C:Cv (Ren.id 0) (an []) (fun _=>none) (.tup [.emp,.emp,bln false]) (.tup [.arr (kE []),.arr (keR []),bln false])->True:=fun _=>trivial;by_cases c1:12< l.length;rw[e (by unfold tg w9;rw[decide_eq_true c1,Bool.or_true];rfl)];refine ae (q_z 13 ?_);refine cT (r_z 3 ?_);refine aj (Fin.many ⟨_,_,rfl,rfl,⟨_,_,rfl,rfl,⟨_,_,rfl,rfl,rfl⟩⟩⟩ (nle rfl) ?_);exact ak (Cv.emp _) (ak (Cv.emp _) (ak (ai aB (ag _)) aq));by_cases c2:3< l.length/\l.length<=8;rw[e (by unfold tg w9;rw[decide_eq_true c2.1,decide_eq_true c2.2];rfl)];refine ae (q_z 13 ?_);refine cT (r_z 3 ?_);refine aj (Fin.many ⟨_,_,rfl,rfl,⟨_,_,rfl,rfl,⟨_,_,rfl,rfl,rfl⟩⟩⟩ (nle rfl) ?_);exact ak (Cv.emp _) (ak (Cv.emp _) (ak (ai aB (ag _)) aq))
 have v:w9 l.length=true:=by
  unfold w9;rw[decide_eq_false c1,Bool.or_false,Bool.not_eq_true',Bool.and_eq_false_iff];by_cases h3:3< l.length;exact .inr (decide_eq_false (by omega));exact .inl (decide_eq_false h3)
 refine a6 (fun _:Unit=>⟨[(0,.arr (twR l)),(5,.emp),(6,.emp)],[],1,105⟩) (fun _=>True) ?_ ?_;by_cases h3:3< l.length;refine q_z 13 ?_;refine cF (am (⟨(),trivial,?_⟩));have:=eF l;exact s_f [];refine q_z 13 ?_;refine cF (am (⟨(),trivial,?_⟩));have:=eF l;exact s_f [];rintro _ _;refine ae (r_z 1 ?_);refine aC (fun _:Unit=>krS' l l.length) (fun _=> ∀t∈l,iF t=true) ?_ ?_
 ·refine ah (ax (krS' l) (fun i=>l.length- i) (fun i=>i<=l.length/\∀t∈l.take i,iF t=true) 0 ⟨Nat.zero_le _,fun t s=>by simp at s⟩ ?_ ?_)
  rw[krS'.eq_1];have:=eF l;exact s_f [];rintro i ⟨O,g⟩;obtain⟨G,J,p,q,o⟩:∃G J p q,krS' l i=⟨[(0,.arr (twR l)),(5,G),(6,J),(7,i64 i)],p,q,105⟩:=by cases i <;> exact⟨_,_,_,_,rfl⟩
  by_cases hlt:i< l.length;rotate_left;have u:i=l.length:=by omega
  rw[o];refine ae (q_z 4 ?_);refine cF (aw ⟨(),(by rw[u,List.take_length] at g;exact g),?_⟩);show SEnt _ (krS' l l.length);rw[<-u];cases i with
  |zero=>
   rw[krS'.eq_1] at o⊢;cases o;have:=eF l;exact s_f []
  |succ i=>
   rw[krS'.eq_2] at o⊢;cases o;refine s_x [(1,5),(2,6)] (fun hs=>e_21) (fun hs=>?_)
   ·repeat' (first|exact aA|refine h_c ?_ ?_|exact aV hs (dW _)|exact aV hs (ki _)|exact br|refine ay ?_|exact aq|refine ak ?_ ?_|exact ai hs (eF l)|exact aS)
  obtain⟨t,s⟩:∃t,l[i]?=some t:=⟨_,List.getElem?_eq_getElem hlt⟩;have k:=List.mem_of_getElem? s;have a:(twR l)[((i:Nat):Int).toNat]?=some (twC t):=twR_get s _ (by simp);have Q:(nR t.1).length=t.1.length:=by simp[nR]
  have R:(nR t.2).length=t.2.length:=by simp[nR]
  rw[o];by_cases l1:30< t.1.length;rw[e (px k (by unfold iF w8;rw[decide_eq_true l1];rfl))];refine ae (q_z 4 ?_);refine cT (am (ae (ah (ae (s_r 16 ?_)))));refine a_2 ?_;refine i_x a ?_;refine a_1 ?_;refine l_1 a ?_;refine d_z ?_;refine cT (r_z 3 ?_);refine aj (Fin.many ⟨_,_,rfl,rfl,⟨_,_,rfl,rfl,⟨_,_,rfl,rfl,rfl⟩⟩⟩ (nle rfl) ?_);exact ak (Cv.emp _) (ak (Cv.emp _) (ak (ai aB (ag _)) aq));by_cases l2:30< t.2.length;rw[e (px k (by unfold iF w8;rw[decide_eq_true l2,Bool.or_true];rfl))];refine ae (q_z 4 ?_);refine cT (am (ae (ah (ae (s_r 16 ?_)))));refine a_2 ?_;refine i_x a ?_;refine a_1 ?_;refine l_1 a ?_;refine d_5 ?_;refine aW rfl rfl rfl (.index_a rfl rfl (by omega) a rfl te_22.h) rfl rfl ?_;refine m_1 ?_;refine aW rfl rfl rfl (.load_a1 rfl a TG.h rfl) rfl rfl ?_;refine d_z ?_;refine cT (r_z 3 ?_);refine aj (Fin.many ⟨_,_,rfl,rfl,⟨_,_,rfl,rfl,⟨_,_,rfl,rfl,rfl⟩⟩⟩ (nle rfl) ?_);exact ak (Cv.emp _) (ak (Cv.emp _) (ak (ai aB (ag _)) aq));have F:=prF (ho t k) (by omega) (by omega);have b1:=F.b1;have b2:=F.b2;have t1:=F.t1;have t2:=F.t2;have d1:=F.d1;have d2:=F.d2;have c:w8 t=false:=by unfold w8;rw[decide_eq_false l1,decide_eq_false l2];rfl
  refine ae (q_z 4 ?_);refine cT (am (ae (ah (ae (s_r 16 ?_)))));refine a_2 ?_;refine i_x a ?_;refine a_1 ?_;refine l_1 a ?_;refine d_5 ?_;refine aW rfl rfl rfl (.index_a rfl rfl (by omega) a rfl te_22.h) rfl rfl ?_;refine m_1 ?_;refine aW rfl rfl rfl (.load_a1 rfl a TG.h rfl) rfl rfl ?_;refine d_z ?_;refine cF (am (s_r 11 ?_));refine a_2 ?_;refine i_x a ?_;refine a_1 ?_;refine l_1 a ?_;refine c_s (b1) ?_;refine a_z ?_;refine s_r 11 ?_;refine a_2 ?_;refine i_x a ?_;refine a_1 ?_;refine l_1 a ?_;refine c_s (b2) ?_;refine a_z ?_;refine a6 (fun _:Unit=>⟨[(0,.arr (twR l)),(5,G),(6,J),(7,i64 i),(8,.arr (pE (nL t.1))),(9,.arr (rE (rP (nL t.1)))),(10,.arr (pE (nL t.2))),(11,.arr (rE (rP (nL t.2))))],p,q+100,105⟩) (fun _=>iF t=true) ?_ ?_;by_cases s1:fD t.1=true;by_cases s2:fD t.2=true;have f:iF t=true:=by unfold iF;rw[c,s1,s2];rfl
  cases e1:fC t.1 4 with
  |true=>
   rw[e1] at t1;cases e2:fC t.2 4 with
   |true=>
    rw[e2] at t2;refine s_r 26 ?_;refine a_2 ?_;refine i_x a ?_;refine a_1 ?_;refine l_1 a ?_;refine c_s (t1) ?_;refine d_8 ?_;refine m_1 ?_;refine aW rfl rfl rfl (.index_a rfl rfl (by omega) a rfl te_22.h) rfl rfl ?_;refine m_1 ?_;refine aW rfl rfl rfl (.load_a1 rfl a TG.h rfl) rfl rfl ?_;refine c_s (t2) ?_;refine d_z ?_;exact cF (am (⟨(),f,SEnt.keep (all_cons rfl (all_cons rfl (all_cons rfl (all_cons rfl (all_cons rfl (all_cons rfl (all_cons rfl (all_cons rfl tU)))))))) (by omega)⟩))
   |false=>
    rw[e2] at t2;have K:12< a8 (nL t.2):=by unfold fD at s2;rw[e2] at s2;simpa using s2
    refine s_r 26 ?_;refine a_2 ?_;refine i_x a ?_;refine a_1 ?_;refine l_1 a ?_;refine c_s (t1) ?_;refine d_8 ?_;refine m_1 ?_;refine aW rfl rfl rfl (.index_a rfl rfl (by omega) a rfl te_22.h) rfl rfl ?_;refine m_1 ?_;refine aW rfl rfl rfl (.load_a1 rfl a TG.h rfl) rfl rfl ?_;refine c_s (t2) ?_;refine e_s (d2) ?_;refine d_z ?_;exact cF (am (⟨(),f,SEnt.keep (all_cons rfl (all_cons rfl (all_cons rfl (all_cons rfl (all_cons rfl (all_cons rfl (all_cons rfl (all_cons rfl tU)))))))) (by omega)⟩))
  |false=>
   rw[e1] at t1;have L:12< a8 (nL t.1):=by unfold fD at s1;rw[e1] at s1;simpa using s1
   cases e2:fC t.2 4 with
   |true=>
    rw[e2] at t2;refine s_r 26 ?_;refine a_2 ?_;refine i_x a ?_;refine a_1 ?_;refine l_1 a ?_;refine c_s (t1) ?_;refine e_s (d1) ?_;refine d_5 ?_;refine aW rfl rfl rfl (.index_a rfl rfl (by omega) a rfl te_22.h) rfl rfl ?_;refine m_1 ?_;refine aW rfl rfl rfl (.load_a1 rfl a TG.h rfl) rfl rfl ?_;refine c_s (t2) ?_;refine d_z ?_;exact cF (am (⟨(),f,SEnt.keep (all_cons rfl (all_cons rfl (all_cons rfl (all_cons rfl (all_cons rfl (all_cons rfl (all_cons rfl (all_cons rfl tU)))))))) (by omega)⟩))
   |false=>
    rw[e2] at t2;have K:12< a8 (nL t.2):=by unfold fD at s2;rw[e2] at s2;simpa using s2
    refine s_r 26 ?_;refine a_2 ?_;refine i_x a ?_;refine a_1 ?_;refine l_1 a ?_;refine c_s (t1) ?_;refine e_s (d1) ?_;refine d_5 ?_;refine aW rfl rfl rfl (.index_a rfl rfl (by omega) a rfl te_22.h) rfl rfl ?_;refine m_1 ?_;refine aW rfl rfl rfl (.load_a1 rfl a TG.h rfl) rfl rfl ?_;refine c_s (t2) ?_;refine e_s (d2) ?_;refine d_z ?_;exact cF (am (⟨(),f,SEnt.keep (all_cons rfl (all_cons rfl (all_cons rfl (all_cons rfl (all_cons rfl (all_cons rfl (all_cons rfl (all_cons rfl tU)))))))) (by omega)⟩))
  have d:fD t.2=false:=by simpa using s2
  rw[e (px k (by unfold iF;rw[c,d];simp))];have e2:fC t.2 4=false:=by unfold fD at d;rw[Bool.or_eq_false_iff] at d;exact d.1
  have K:¬12< a8 (nL t.2):=by unfold fD at d;rw[Bool.or_eq_false_iff] at d;exact of_decide_eq_false d.2
  rw[e2] at t2;cases e1:fC t.1 4 with
  |true=>
   rw[e1] at t1;refine s_r 26 ?_;refine a_2 ?_;refine i_x a ?_;refine a_1 ?_;refine l_1 a ?_;refine c_s (t1) ?_;refine d_8 ?_;refine m_1 ?_;refine aW rfl rfl rfl (.index_a rfl rfl (by omega) a rfl te_22.h) rfl rfl ?_;refine m_1 ?_;refine aW rfl rfl rfl (.load_a1 rfl a TG.h rfl) rfl rfl ?_;refine c_s (t2) ?_;refine e_s (d2) ?_;refine d_z ?_;refine cT (r_z 3 ?_);refine aj (Fin.many ⟨_,_,rfl,rfl,⟨_,_,rfl,rfl,⟨_,_,rfl,rfl,rfl⟩⟩⟩ (nle rfl) ?_);exact ak (Cv.emp _) (ak (Cv.emp _) (ak (ai aB (ag _)) aq))
  |false=>
   rw[e1] at t1;have L:12< a8 (nL t.1):=by unfold fD at s1;rw[e1] at s1;simpa using s1
   refine s_r 26 ?_;refine a_2 ?_;refine i_x a ?_;refine a_1 ?_;refine l_1 a ?_;refine c_s (t1) ?_;refine e_s (d1) ?_;refine d_5 ?_;refine aW rfl rfl rfl (.index_a rfl rfl (by omega) a rfl te_22.h) rfl rfl ?_;refine m_1 ?_;refine aW rfl rfl rfl (.load_a1 rfl a TG.h rfl) rfl rfl ?_;refine c_s (t2) ?_;refine e_s (d2) ?_;refine d_z ?_;refine cT (r_z 3 ?_);refine aj (Fin.many ⟨_,_,rfl,rfl,⟨_,_,rfl,rfl,⟨_,_,rfl,rfl,rfl⟩⟩⟩ (nle rfl) ?_);exact ak (Cv.emp _) (ak (Cv.emp _) (ak (ai aB (ag _)) aq))
  have b:fD t.1=false:=by simpa using s1
  rw[e (px k (by unfold iF;rw[c,b];rfl))];have e1:fC t.1 4=false:=by unfold fD at b;rw[Bool.or_eq_false_iff] at b;exact b.1
  have L:¬12< a8 (nL t.1):=by unfold fD at b;rw[Bool.or_eq_false_iff] at b;exact of_decide_eq_false b.2
  rw[e1] at t1;refine s_r 26 ?_;refine a_2 ?_;refine i_x a ?_;refine a_1 ?_;refine l_1 a ?_;refine c_s (t1) ?_;refine e_s (d1) ?_;refine d_z ?_;refine cT (r_z 3 ?_);refine aj (Fin.many ⟨_,_,rfl,rfl,⟨_,_,rfl,rfl,⟨_,_,rfl,rfl,rfl⟩⟩⟩ (nle rfl) ?_);exact ak (Cv.emp _) (ak (Cv.emp _) (ak (ai aB (ag _)) aq));rintro _ f;have N:(keM l)[i]?=some (nL t.1,nL t.2):=by unfold keM;rw[List.getElem?_map,s];rfl
  have w:(keM l).take (i+1)=(keM l).take i++[(nL t.1,nL t.2)]:=cm N;have e1:kE ((keM l).take i)++[prC (nL t.1,nL t.2)]=kE ((keM l).take (i+1)):=by rw[w,Fk]
  have e2:keR ((keM l).take i)++[pkR (nL t.1,nL t.2)]=keR ((keM l).take (i+1)):=by rw[w,Jc]
  have n:∀A∈l.take (i+1),iF A=true:=fun A h=>by
   rw[cm s] at h;rcases List.mem_append.1 h with h|h
   exact g A h;rw[List.mem_singleton.1 h];exact f
  cases i with
  |zero=>
   rw[krS'.eq_1] at o;cases o;refine r_m 14 ?_;refine a_z ?_;refine r_m 3 ?_;refine a_z ?_;refine⟨0+1,by omega,⟨by omega,n⟩,?_⟩;rw[krS'.eq_2,<-e1,<-e2];refine s_x [(1,5),(2,6)] (fun hs=>e_21) (fun hs=>?_)
   ·repeat' (first|exact aA|refine h_c ?_ ?_|exact aV hs (dW [(nL t.1,nL t.2)])|exact aV hs (ki [(nL t.1,nL t.2)])|exact br|refine ay ?_|exact aq|refine ak ?_ ?_|exact ai hs (eF l)|exact aS)
  |succ i=>
   rw[krS'.eq_2] at o;cases o;have o1:=Jg ((keM l).take (i+1));have o2:=keR_one ((keM l).take (i+1));have q1:(kE ((keM l).take (i+1))).length=i+1:=by rw[dV,List.length_take,fJ];omega
   have q2:(keR ((keM l).take (i+1))).length=i+1:=by rw[j2,List.length_take,fJ];omega
   refine r_m 14 ?_;refine o_0 (.move rfl) ?_;refine o_0 (.move rfl) ?_;refine o_0 (.move rfl) ?_;refine o_0 (.build TZ.h tp_91.h rfl rfl) ?_;refine o_1 (.buildSlice te_29.h TZ.h rfl (by decide) rfl rfl rfl (by first|(simp;done)|(simp[b7,ofV];done)|rfl)) ?_;refine o_2 (.append_l rfl rfl rfl te_29.h rfl rfl rfl rfl rfl d_o (by first|exact eT _|exact eP _|exact dZ _|exact eW _|exact eg _|assumption|rfl|simp) (by first|rfl|exact eT _|exact eP _|exact dZ _|exact eW _|exact eg _|simp) rfl (.lsl rfl (nle rfl)) TZ.h rfl TB.h d_o (by first|(simp[maxLen];done)|(simp[maxLen];omega))) ?_;refine o_0 (.move rfl) ?_;refine o_0 (.move rfl) ?_;refine o_0 (.move rfl) ?_;refine o_0 (.build TZ.h tp_93.h rfl rfl) ?_;refine o_1 (.buildSlice te_31.h TZ.h rfl (by decide) rfl rfl rfl (by first|(simp;done)|(simp[b7,ofV];done)|rfl)) ?_;refine o_2 (.append_l rfl rfl rfl te_31.h rfl rfl rfl rfl rfl d_o (by first|exact eT _|exact eP _|exact dZ _|exact eW _|exact eg _|assumption|rfl|simp) (by first|rfl|exact eT _|exact eP _|exact dZ _|exact eW _|exact eg _|simp) rfl (.lsl rfl (nle rfl)) TZ.h rfl TB.h d_o (by first|(simp[maxLen];done)|(simp[maxLen];omega))) ?_;refine o_0 (.assign rfl) ?_;refine o_0 (.assign rfl) ?_;refine ao ?_;refine r_m 3 ?_;refine a_z ?_;refine⟨i+1+1,by omega,⟨by omega,n⟩,?_⟩;rw[krS'.eq_2];refine s_x [(1,5),(2,6)] (fun hs=>e_21) (fun hs=>?_)
   ·repeat' (first|exact aA|refine h_c ?_ ?_|exact aF hs e1 (dW _)|exact aF hs e2 (ki _)|exact br|refine ay ?_|exact aq|refine ak ?_ ?_|exact ai hs (eF l)|exact aS)
 rintro _ x
 have E:r= .tup [.arr (kE (keM l)),.arr (keR (keM l)),bln true]:=by
  rw[D,keV,show tg l=true by unfold tg;rw[v,List.all_eq_true.2 x];rfl];rfl
 rw[E];cases hll:l.length with
 |zero=>
  have y:l=[]:=List.eq_nil_of_length_eq_zero hll;subst y;rw[krS'.eq_1];refine r_z 5 ?_;refine aj (Fin.many ⟨_,_,rfl,rfl,⟨_,_,rfl,rfl,⟨_,_,rfl,rfl,rfl⟩⟩⟩ (nle rfl) ?_);exact ak (Cv.emp _) (ak (Cv.emp _) (ak (ai aB (ag _)) aq))
 |succ m=>
  have z:(keM l).take (m+1)=keM l:=List.take_of_length_le (by rw[fJ];omega);have q1:(kE (keM l)).length=m+1:=by rw[dV,fJ];omega
  have q2:(keR (keM l)).length=m+1:=by rw[j2,fJ];omega
  rw[krS'.eq_2,z];refine r_z 5 ?_;refine aj (Fin.many ⟨_,_,rfl,rfl,⟨_,_,rfl,rfl,⟨_,_,rfl,rfl,rfl⟩⟩⟩ (nle rfl) ?_);exact ak (Cv.shut (B:=⟨91,2,kE (keM l)⟩) aB rfl (fun j B H=>by cases H) (by show 0+(m+1)<=(kE (keM l)).length;omega) (lG q1.symm (dW _))) (ak (Cv.shut (B:=⟨93,2,keR (keM l)⟩) aB rfl (fun j B H=>by cases H) (by show 0+(m+1)<=(keR (keM l)).length;omega) (lG q2.symm (ki _))) (ak (ai aB (ag _)) aq))
end Go.Proofs.YtiodeiecpoopgaaGreatDoor
