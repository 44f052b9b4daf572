/- EquationSatisfied: for every input the law returns true; the listed variables start as the program's text lays them (tied). -/
import Derived.Test.YtkhclghbcicapaaGreatDoorS33
import Derived.Test.YtkhclghbcicapaaGreatDoorRows
import Derived.JoinedOf
import Derived.SevenTiedAt
import Derived.Lib.LaidTab
import Derived.Test.YtkhclghbcicapaaGreatDoorTie
import Derived.Test.YtkhclghbcicapaaGreatDoorCards
import Derived.LaidMore
import Derived.Stop.Joined
import Derived.MakeChecks
set_option linter.all false
namespace Go.Proofs.YtkhclghbcicapaaGreatDoor
open Go.Abs
set_option maxRecDepth 20000
set_option maxHeartbeats 4000000
def cuL(u:List Rat)(B:List (List Rat))(c:List Rat):Nat→List Rat
 |0=>u
 |i+1=>fa (cuL u B c i) (aZ (B.getD i []) (coP c i))
theorem zX{k:Ke}{l a b:Rat}{g u c:List Rat}{B:List (List Rat)}(hF:Fre k l a b B)(hu:u.length≤5)(bu:bdL u 10000000)(hs:SolE k l a b g u)(hc:bdL c 20):∀i,i≤B.length→bdL (cuL u B c i) (10000000+i* 1400021)∧(cuL u B c i).length≤5∧SolE k l a b g (cuL u B c i)
 |0,_=>⟨bu,hu,hs⟩
 |i+1,h=>by
  obtain⟨h1,j,f⟩:=zX hF hu bu hs hc i (by omega);have d:=lW (B:=B) (i:=i) (by omega);obtain⟨b1,b2⟩:=hF.bd _ d;have s1:=gi b1 (by omega) (dN hc (by omega) i);have s2:=cy (B.getD i []) (coP c i);have e:=sw h1 s1 (by omega) (by omega);have m:=gR (cuL u B c i) (aZ (B.getD i []) (coP c i));rw[cuL];exact⟨bdL_mono' e (by rw[Nat.succ_mul];omega),by omega,f.add (hF.sol _ d)⟩
def bZ(k:Ke)(l:Rat):AV:= .aptr [.arr (kE k)::(qC l++[.emp])] 0 0
theorem uq(k:Ke)(l:Rat):∀c∈ .arr (kE k)::(qC l++[.emp]),Closed c:=ac (aV k) (ct (a8 l) (ac cM af))
theorem v6(k:Ke)(l:Rat):Closed (bZ k l):=a7 (uq k l)
def saS(k:Ke)(l:Rat)(g:List Rat)(a b:Rat)(nr:List eM)(u:List Rat)(B' B:List (List Rat))(e:Int):Nat→AState
 |i=>⟨[(4,.arr (nR nr)),(11,bEq k l g),(12,bSp a b),(14,.arr (pE u)),(15,.arr (mE B')),(16,i64 e),(17,.arr (mE B)),(19,bZ k l),(20,i64 i)],[],1,207⟩
theorem lE(k:Ke)(l:Rat)(g:List Rat)(a b:Rat)(nr:List eM)(u:List Rat)(B' B:List (List Rat))(e:Int)(i:Nat):saS k l g a b nr u B' B e i=⟨[(4,.arr (nR nr)),(11,bEq k l g),(12,bSp a b),(14,.arr (pE u)),(15,.arr (mE B')),(16,i64 e),(17,.arr (mE B)),(19,bZ k l),(20,i64 i)],[],1,207⟩:=rfl
def sbS(k:Ke)(l:Rat)(g:List Rat)(a b:Rat)(u c:List Rat)(B:List (List Rat)):Nat→AState
 |i=>⟨[(11,bEq k l g),(12,bSp a b),(14,.arr (pE (cuL u B c i))),(15,.arr (mE B)),(17,.arr (mE B)),(24,.arr (pE c)),(26,i64 i)],[],1,207⟩
theorem AQ(k:Ke)(l:Rat)(g:List Rat)(a b:Rat)(u c:List Rat)(B:List (List Rat))(i:Nat):sbS k l g a b u c B i=⟨[(11,bEq k l g),(12,bSp a b),(14,.arr (pE (cuL u B c i))),(15,.arr (mE B)),(17,.arr (mE B)),(24,.arr (pE c)),(26,i64 i)],[],1,207⟩:=rfl
theorem lZ(l:List gf)(gp:eM×eM)(cr:eM)(gr nr:List eM)(ho:∀t∈l,w7 t)(hll:l.length≤9223372036854775807)(hgp:okN gp.1∧okN gp.2)(hc:okN cr)(hg:okR gr)(hgl:gr.length≤9223372036854775807)(hn:okR nr)(hnl:nr.length≤9223372036854775807):
    FS 4 [.arr (twR l),.agg (nuC gp.1.1 gp.1.2.1 gp.1.2.2++nuC gp.2.1 gp.2.2.1 gp.2.2.2),.agg (nuC cr.1 cr.2.1 cr.2.2),.arr (nR gr),.arr (nR nr)] (.v (.bool true)):=by
 obtain⟨k1,g1,bb,hP,hk1,hg1,hbb⟩:=Gt l gp.1 gp.2 cr gr ho hll hgp.1 hgp.2 hc hg hgl;have ht:=po nr 6 hnl (by decide);have Y:=Bs;have cG:∀c∈nuC gp.1.1 gp.1.2.1 gp.1.2.2++nuC gp.2.1 gp.2.2.1 gp.2.2.2,Closed c:=ct (eY gp.1) (eY gp.2);have N:=aG (ce nr);refine f_n Tryz.func4 ?_ ?_;exact ac (cV l) (ac (aA cG) (ac (aA (eY cr)) (ac (aG (ce gr)) (ac N af))));refine r_z 3 ?_;cases bb with
 |false=>
  refine r_c 14 (hP) ?_;refine a_z ?_;refine ae (q_z 7 ?_);refine cT (r_c 2 (Y) ?_);refine a_z ?_;exact ai (t_e (ag _))
 |true=>
 obtain⟨rfl,rfl,j⟩:=hbb rfl;refine r_c 14 (hP) ?_;refine a_z ?_;cases et:fc nr 6 with
 |false=>
  rw[et] at ht;refine ae (q_c 7 (ht) ?_);refine d_z ?_;refine cT (r_c 2 (Y) ?_);refine a_z ?_;exact ai (t_e (ag _))
 |true=>
 rw[et] at ht;refine ae (q_c 7 (ht) ?_);refine d_z ?_;refine cF (am ?_);obtain⟨W,lc⟩:=om et hn
 have hLi:=Di nr (by have:(nL nr).length=nr.length:=by simp[nL]
                     omega) hn
 have qa:=j.qa;have qb:=j.qb;have Q:=j.qc;have ab:=j.ab;have D:=j.t;have w:=j.ok;have bg:=j.bg;have lg:=j.lg;generalize keM l=k at *
 generalize nV cr=L at *
 generalize nL gr=G at *
 generalize nV gp.1=a at *
 generalize nV gp.2=b at *
 generalize hcn:nL nr=c at *
 refine AWp.ent (st':=⟨[(4,.arr (nR nr)),(11,bEq k L G),(12,bSp a b)],[],1,207⟩) ?_ ?_;refine s_x [] (fun hs=>?_) (fun hs=>?_)
 ·repeat' (first|exact aK|refine az rfl ?_ ?_|exact ak hs N|exact Cv.boxp hs rfl (aM rfl) rfl (cL _ _ _)|exact Cv.boxp hs rfl (aM rfl) rfl (a6 _ _)|exact aW)
 ·repeat' (first|exact aE|refine h_c ?_ ?_|exact bF|refine aC ?_|exact av|refine ah ?_ ?_|exact ak hs N|exact Cv.boxp hs rfl (aM rfl) rfl (cL _ _ _)|exact Cv.boxp hs rfl (aM rfl) rfl (a6 _ _)|exact aW)
 have hT:=ta_tame D w lg bg Q qa qb ab;have b0:bdL [] 20:=fun q hq=>(by cases hq);have Z:=ta_tame (g:=[]) D w (Nat.zero_le _) b0 Q qa qb ab;obtain⟨u,E,e,hS,ul,ub,uz,he⟩:=Fj D hT lg bg Q;have T:=fs_Free D Z;rw[bK_same k L [] G] at T;have r:=vL D hT;generalize bK k L G a b=B at *
 have hBl:=r.len;have hmB:(mE B).length=B.length:=by simp[mE]
 have cB:=closed_mA B;have M:=closed_mA E;refine r_c 10 (hS) ?_;refine a_z ?_;refine r_c 11 (T) ?_;refine a_z ?_
 have hst:∀p∈B,FS 21 [.agg (eqC k L []),.agg (spC a b),.arr (pE p)] (.tup [bln true,i64 0]):=fun p hp=>by
  have h1:=zv k L [] p a b (Dd (g:=[]) D w (Nat.zero_le _) b0 Q qa qb ab (by have:=(r.bd p hp).2;omega) (r.bd p hp).1 (by omega) (by omega));rw[y7 (r.sol p hp)] at h1;exact h1
 have h0e:e=0∨e=12:=by rcases he with h|h
                       exact .inr h;exact .inl h.1
 refine bh (fun _:Unit=>⟨[(4,.arr (nR nr)),(11,bEq k L G),(12,bSp a b),(14,.arr (pE u)),(15,.arr (mE E)),(16,i64 e),(17,.arr (mE B))],[],1,207⟩) (fun _=>True) ?_ ?_;rcases h0e with rfl|rfl
 refine q_z 10 ?_;refine cF (am ⟨(),trivial,?_⟩);exact s_x [] (fun hs=>e_25) (fun hs=>e_26);refine q_z 10 ?_;refine cF (am ⟨(),trivial,?_⟩);exact s_x [] (fun hs=>e_25) (fun hs=>e_26);rintro _ _;refine r_z 7 ?_;refine AWp.ent (st':=⟨[(4,.arr (nR nr)),(11,bEq k L G),(12,bSp a b),(14,.arr (pE u)),(15,.arr (mE E)),(16,i64 e),(17,.arr (mE B)),(19,bZ k L)],[],1,207⟩) ?_ ?_;refine s_x [] (fun hs=>?_) (fun hs=>?_)
 ·repeat' (first|exact aK|refine az rfl ?_ ?_|exact ak hs N|exact ak hs cB|exact ak hs M|exact ak hs (ax _)|exact ak hs (ec _ _ _)|exact ak hs (bD _ _)|exact Cv.boxp hs rfl (aM rfl) rfl (uq k L)|exact aW)
 ·repeat' (first|exact aE|refine h_c ?_ ?_|exact bF|refine aC ?_|exact av|refine ah ?_ ?_|exact ak hs N|exact ak hs cB|exact ak hs M|exact ak hs (ax _)|exact ak hs (ec _ _ _)|exact ak hs (bD _ _)|exact Cv.boxp hs rfl (aM rfl) rfl (uq k L)|exact aW)
 refine ae (r_z 1 ?_);refine aH (fun _:Unit=>⟨[(4,.arr (nR nr)),(11,bEq k L G),(12,bSp a b),(14,.arr (pE u)),(15,.arr (mE E)),(16,i64 e),(17,.arr (mE B))],[],1,207⟩) (fun _=>True) ?_ ?_;refine aj (aB (saS k L G a b nr u E B e) (fun i=>B.length- i) (fun i=>i≤B.length) 0 (Nat.zero_le _) ?_ ?_);rw[lE];exact s_x [] (fun hs=>e_6) (fun hs=>e_7);intro i hi;rw[lE];by_cases hlt:i< B.length;obtain⟨p,hp⟩:∃p,B[i]?=some p:=⟨_,List.getElem?_eq_getElem hlt⟩;have C:=List.mem_of_getElem? hp;have d:(mE B)[((i:Nat):Int).toNat]?=some [.arr (pE p)]:=fP hp _ (by simp);have hH:=hst p C;have hv:=r.bas.piv p C;obtain⟨K,pl⟩:=r.bd p C;have hD:=cI p (by omega);have hdp:=hv.deg;have F:=nh p (by omega);rw[hv.one] at F;have X:FS 24 [i64 1] (.agg (qC 1)):=dK 1 (by decide);have V:FS 23 [.agg (qC 1),.agg (qC 1)] (i64 0):=nX 1 1 (by decide) (by decide);have hul:(pE u).length=u.length:=by simp[pE]
 refine ae (q_z 4 ?_);refine cT (am ?_);have y:=ci (coP u (dg p));rw[uz p C] at y;refine bh (fun _:Unit=>saS k L G a b nr u E B e i) (fun _=>True) ?_ ?_;refine aj (ae (r_d aY 12 ?_));refine a_4 ?_;refine i_x d ?_;refine l_1 d ?_;refine c_s (hH) ?_;refine a_5 ?_;refine ao (n_k ?_);refine s_r 6 ?_;refine a_2 ?_;refine i_x d ?_;refine l_1 d ?_;refine c_s (hD) ?_;refine a_z ?_;by_cases hd:dg p< u.length
 have o:(pE u)[(bv p).toNat]?=some (qC 0):=by
  have:=pE_get (b9 hd) (bv p).toNat (by omega);rwa[uz p C] at this
 by_cases h0:0< i;obtain⟨s,n⟩:∃p,B[i- 1]?=some p:=⟨_,List.getElem?_eq_getElem (by omega)⟩;have A:=List.mem_of_getElem? n;have f:(mE B)[((i:Int)- 1).toNat]?=some [.arr (pE s)]:=fP n _ (by omega);have z:=cI s (by have:=(r.bd s A).2;omega)
 have hup:bv s< bv p:=by
  have:=List.pairwise_iff_getElem.1 r.bas.up (i- 1) i (by omega) hlt (by omega);rwa[(List.getElem?_eq_some_iff.1 n).2,(List.getElem?_eq_some_iff.1 hp).2] at this
 refine s_r 48 ?_;refine a_1 ?_;refine o_0 (.bin rfl rfl (vF cb (rfl))) ?_;refine d_8 ?_;refine d_3 ?_
 first|refine aF rfl rfl rfl (.index_l rfl rfl (by omega) (by omega) te_68.h) rfl rfl ?_|refine aF rfl rfl rfl (.index_a rfl rfl (by omega) d rfl te_68.h) rfl rfl ?_
 first|refine aF rfl rfl rfl (.load_l1 rfl rfl d TG.h rfl) rfl rfl ?_|refine aF rfl rfl rfl (.load_a1 rfl d TG.h rfl) rfl rfl ?_
 refine c_s (F) ?_;refine c_s (X) ?_;refine c_s (V) ?_;refine aF rfl rfl rfl (.bin rfl rfl (vF cb (rfl))) rfl rfl ?_;refine d_8 ?_
 first|refine aF rfl rfl rfl (.index_l rfl rfl (by omega) (by omega) te_68.h) rfl rfl ?_|refine aF rfl rfl rfl (.index_a rfl rfl (by omega) f rfl te_68.h) rfl rfl ?_
 first|refine aF rfl rfl rfl (.load_l1 rfl rfl f TG.h rfl) rfl rfl ?_|refine aF rfl rfl rfl (.load_a1 rfl f TG.h rfl) rfl rfl ?_
 refine c_s (z) ?_;refine d_8 ?_;refine d_4 ?_
 first|refine aF rfl rfl rfl (.index_l rfl rfl (by omega) (by omega) te_36.h) rfl rfl ?_|refine aF rfl rfl rfl (.index_a rfl rfl (by omega) o rfl te_36.h) rfl rfl ?_
 first|refine aF rfl rfl rfl (.load_l rfl rfl o TG.h TS.h (nle rfl)) rfl rfl ?_|refine aF rfl rfl rfl (.load_a rfl o TG.h TS.h (nle rfl)) rfl rfl ?_
 refine c_s (y) ?_;refine aF rfl rfl rfl (.bin rfl rfl (vF cb (rfl))) rfl rfl ?_;refine d_z ?_;refine cF (am ⟨(),trivial,?_⟩);rw[lE];exact s_x [] (fun hs=>e_6) (fun hs=>e_7);have hi0:i=0:=by omega
 refine s_r 48 ?_;refine a_1 ?_;refine o_0 (.bin rfl rfl (vF cb (rfl))) ?_;refine d_8 ?_;refine d_3 ?_
 first|refine aF rfl rfl rfl (.index_l rfl rfl (by omega) (by omega) te_68.h) rfl rfl ?_|refine aF rfl rfl rfl (.index_a rfl rfl (by omega) d rfl te_68.h) rfl rfl ?_
 first|refine aF rfl rfl rfl (.load_l1 rfl rfl d TG.h rfl) rfl rfl ?_|refine aF rfl rfl rfl (.load_a1 rfl d TG.h rfl) rfl rfl ?_
 refine c_s (F) ?_;refine c_s (X) ?_;refine c_s (V) ?_;refine aF rfl rfl rfl (.bin rfl rfl (vF cb (rfl))) rfl rfl ?_;refine d_8 ?_;refine d_8 ?_;refine d_7 ?_
 first|refine aF rfl rfl rfl (.index_l rfl rfl (by omega) (by omega) te_36.h) rfl rfl ?_|refine aF rfl rfl rfl (.index_a rfl rfl (by omega) o rfl te_36.h) rfl rfl ?_
 first|refine aF rfl rfl rfl (.load_l rfl rfl o TG.h TS.h (nle rfl)) rfl rfl ?_|refine aF rfl rfl rfl (.load_a rfl o TG.h TS.h (nle rfl)) rfl rfl ?_
 refine c_s (y) ?_;refine aF rfl rfl rfl (.bin rfl rfl (vF cb (rfl))) rfl rfl ?_;refine d_z ?_;refine cF (am ⟨(),trivial,?_⟩);rw[lE];exact s_x [] (fun hs=>e_6) (fun hs=>e_7);by_cases h0:0< i;obtain⟨s,n⟩:∃p,B[i- 1]?=some p:=⟨_,List.getElem?_eq_getElem (by omega)⟩;have A:=List.mem_of_getElem? n;have f:(mE B)[((i:Int)- 1).toNat]?=some [.arr (pE s)]:=fP n _ (by omega);have z:=cI s (by have:=(r.bd s A).2;omega)
 have hup:bv s< bv p:=by
  have:=List.pairwise_iff_getElem.1 r.bas.up (i- 1) i (by omega) hlt (by omega);rwa[(List.getElem?_eq_some_iff.1 n).2,(List.getElem?_eq_some_iff.1 hp).2] at this
 refine s_r 48 ?_;refine a_1 ?_;refine o_0 (.bin rfl rfl (vF cb (rfl))) ?_;refine d_8 ?_;refine d_3 ?_
 first|refine aF rfl rfl rfl (.index_l rfl rfl (by omega) (by omega) te_68.h) rfl rfl ?_|refine aF rfl rfl rfl (.index_a rfl rfl (by omega) d rfl te_68.h) rfl rfl ?_
 first|refine aF rfl rfl rfl (.load_l1 rfl rfl d TG.h rfl) rfl rfl ?_|refine aF rfl rfl rfl (.load_a1 rfl d TG.h rfl) rfl rfl ?_
 refine c_s (F) ?_;refine c_s (X) ?_;refine c_s (V) ?_;refine aF rfl rfl rfl (.bin rfl rfl (vF cb (rfl))) rfl rfl ?_;refine d_8 ?_
 first|refine aF rfl rfl rfl (.index_l rfl rfl (by omega) (by omega) te_68.h) rfl rfl ?_|refine aF rfl rfl rfl (.index_a rfl rfl (by omega) f rfl te_68.h) rfl rfl ?_
 first|refine aF rfl rfl rfl (.load_l1 rfl rfl f TG.h rfl) rfl rfl ?_|refine aF rfl rfl rfl (.load_a1 rfl f TG.h rfl) rfl rfl ?_
 refine c_s (z) ?_;refine d_z ?_;refine cF (am ⟨(),trivial,?_⟩);rw[lE];exact s_x [] (fun hs=>e_6) (fun hs=>e_7);have hi0:i=0:=by omega
 refine s_r 48 ?_;refine a_1 ?_;refine o_0 (.bin rfl rfl (vF cb (rfl))) ?_;refine d_8 ?_;refine d_3 ?_
 first|refine aF rfl rfl rfl (.index_l rfl rfl (by omega) (by omega) te_68.h) rfl rfl ?_|refine aF rfl rfl rfl (.index_a rfl rfl (by omega) d rfl te_68.h) rfl rfl ?_
 first|refine aF rfl rfl rfl (.load_l1 rfl rfl d TG.h rfl) rfl rfl ?_|refine aF rfl rfl rfl (.load_a1 rfl d TG.h rfl) rfl rfl ?_
 refine c_s (F) ?_;refine c_s (X) ?_;refine c_s (V) ?_;refine aF rfl rfl rfl (.bin rfl rfl (vF cb (rfl))) rfl rfl ?_;refine d_z ?_;refine cF (am ⟨(),trivial,?_⟩);rw[lE];exact s_x [] (fun hs=>e_6) (fun hs=>e_7);rintro _ _;rw[lE];refine r_m 3 ?_;refine a_z ?_;refine⟨i+1,by omega,by omega,?_⟩;rw[lE];exact s_x [] (fun hs=>e_6) (fun hs=>e_7);refine ae (q_z 4 ?_);refine cF (ay ⟨(),trivial,?_⟩);exact s_x [] (fun hs=>e_25) (fun hs=>e_26);rintro _ _;rcases he with rfl|⟨rfl,hBB,U⟩
 refine ae (s_r 2 ?_);refine a_1 ?_;refine o_0 (.bin rfl rfl (vT cb (rfl))) ?_;refine ao ?_;refine cT (r_c 2 (Y) ?_);refine a_z ?_;exact ai (t_e (ag _));have H:=hBB.symm;subst H;refine ae (s_r 2 ?_);refine a_1 ?_;refine o_0 (.bin rfl rfl (vF cb (rfl))) ?_;refine ao ?_;refine cF (am (ae (s_r 5 ?_)));refine a_4 ?_;refine o_0 (.bin rfl rfl (vF cb ((by simp)))) ?_;refine ao ?_;refine cF (am (r_c 7 (hLi) ?_));refine a_z ?_;refine ae (r_z 1 ?_);obtain⟨bc0,lc0⟩:bdL c 20∧c.length≤6:=⟨W,lc⟩;have J:=zX r ul ub U W;have hcl:(pE c).length=c.length:=by simp[pE]
 obtain⟨m,hmm⟩:∃m,m=min c.length B.length:=⟨_,rfl⟩;refine aH (fun _:Unit=>⟨[(11,bEq k L G),(12,bSp a b),(14,.arr (pE (cuL u B c m)))],[],1,207⟩) (fun _=>True) ?_ ?_;refine aj (aB (sbS k L G a b u c B) (fun i=>m- i) (fun i=>i≤m) 0 (Nat.zero_le _) ?_ ?_);rw[AQ,cuL];exact s_x [] (fun hs=>e_57) (fun hs=>e_58);intro i hi;rw[AQ];by_cases hlt:i< m
 ·obtain⟨p,hp⟩:∃p,B[i]?=some p:=⟨_,List.getElem?_eq_getElem (by omega)⟩
  have C:=List.mem_of_getElem? hp;have hpd:B.getD i []=p:=by rw[List.getD_eq_getElem?_getD,hp];rfl
  have d:(mE B)[((i:Nat):Int).toNat]?=some [.arr (pE p)]:=fP hp _ (by simp);have R:(pE c)[((i:Nat):Int).toNat]?=some (qC (coP c i)):=pE_get (b9 (by omega)) _ (by simp);obtain⟨K,pl⟩:=r.bd p C;obtain⟨v1,v2,v3⟩:=J i (by omega);have O:=Dh p p (cW K (by omega)) (cW K (by omega)) (by omega) (by omega);rw[show CD p p=true from decide_eq_true rfl] at O;have hSc:=eD p (coP c i) (cW K (by omega)) (Nat.le_trans (dN W (by omega) i) (by decide)) (by omega);have s1:=gi K (by omega) (dN W (by omega) i);have s2:=cy p (coP c i);have e3:i* 1400021≤3* 1400021:=Nat.mul_le_mul_right _ (by omega);have hAd:=jW (cuL u B c i) (aZ p (coP c i)) (cW v1 (by omega)) (cW s1 (by omega)) (by omega) (by omega);refine ae (s_r 10 ?_);refine o_0 (.move rfl) ?_;refine o_0 (.move rfl) ?_
  first|refine aO (.lenD rfl rfl rfl rfl te_35.h) rfl rfl ?_|refine aO (.lenI rfl rfl rfl rfl te_35.h) rfl rfl ?_|refine aO (.lenP rfl rfl rfl rfl te_35.h) rfl rfl ?_|refine aO (.lenC rfl rfl rfl rfl te_35.h) rfl rfl ?_|refine aO (.lenR rfl rfl rfl rfl te_35.h) rfl rfl ?_|refine aO (.len rfl rfl rfl rfl rfl te_35.h) rfl rfl ?_
  refine o_0 (.bin rfl rfl (vT dM (decide_eq_true (by omega)))) ?_;refine o_0 (.move rfl) ?_
  first|refine aF rfl rfl rfl (.move rfl) rfl rfl ?_|refine oe rfl rfl (by first|(simp[eH];done)|exact nofun) rfl rfl ?_
  first|refine aF rfl rfl rfl (.move rfl) rfl rfl ?_|refine oe rfl rfl (by first|(simp[eH];done)|exact nofun) rfl rfl ?_
  first|refine aF rfl rfl rfl (.lenD rfl rfl rfl rfl te_68.h) rfl rfl ?_|refine aF rfl rfl rfl (.lenI rfl rfl rfl rfl te_68.h) rfl rfl ?_|refine aF rfl rfl rfl (.lenP rfl rfl rfl rfl te_68.h) rfl rfl ?_|refine aF rfl rfl rfl (.lenC rfl rfl rfl rfl te_68.h) rfl rfl ?_|refine aF rfl rfl rfl (.lenR rfl rfl rfl rfl te_68.h) rfl rfl ?_|refine aF rfl rfl rfl (.len rfl rfl rfl rfl rfl te_68.h) rfl rfl ?_|refine oe rfl rfl (by first|(simp[eH];done)|exact nofun) rfl rfl ?_
  refine aF rfl rfl rfl (.bin rfl rfl (vT dM (decide_eq_true (by omega)))) rfl rfl ?_
  first|refine aO (.pick rfl (fun _=>rfl) (fun _=>rfl)) rfl rfl ?_|refine aO (.pick rfl (fun _=>rfl) (fun h=>absurd h (by decide))) rfl rfl ?_|refine aO (.pick rfl (fun h=>absurd h (by decide)) (fun _=>rfl)) rfl rfl ?_
  refine ao ?_;refine cT (am (ae (aj (ae (ae (r_d aY 10 ?_))))));refine a_2 ?_;refine i_x d ?_;refine l_1 d ?_;refine a_2 ?_;refine i_x d ?_;refine l_1 d ?_;refine o_0 (.call rfl rfl rfl (O)) ?_;refine o_0 (.un rfl kL) ?_;refine ao (n_k ?_);refine cF (am (r_d aY 12 ?_));refine a_3 ?_;refine i_x d ?_;refine l_1 d ?_;refine a_2 ?_;refine i_x R ?_;refine l_x R ?_;refine o_0 (.call rfl rfl rfl (hSc)) ?_;refine o_0 (.call rfl rfl rfl (hAd)) ?_;refine o_0 (.assign rfl) ?_;refine ao (n_k ?_);refine r_m 3 ?_;refine o_0 (.move rfl) ?_;refine o_0 (.bin rfl rfl (uH (by omega))) ?_;refine o_0 (.assign rfl) ?_;refine ao ?_;refine⟨i+1,by omega,by omega,?_⟩;rw[AQ,cuL,hpd];exact s_x [] (fun hs=>e_57) (fun hs=>e_58)
 have S:i=m:=by omega
 by_cases hcl2:i< c.length;refine ae (q_z 10 ?_);refine cF (ay ⟨(),trivial,?_⟩);rw[S];exact s_x [] (fun hs=>e_59) (fun hs=>e_60);refine ae (q_z 10 ?_);refine cF (ay ⟨(),trivial,?_⟩);rw[S];exact s_x [] (fun hs=>e_59) (fun hs=>e_60);rintro _ _;obtain⟨v1,v2,v3⟩:=J m (by omega);have e3:m* 1400021≤3* 1400021:=Nat.mul_le_mul_right _ (by omega);have x:=zv k L G (cuL u B c m) a b (Dd D w lg bg Q qa qb ab v2 v1 (by omega) (by omega));rw[y7 v3] at x;refine s_r 9 ?_
 first|refine aO (.load_l rfl rfl rfl TG.h TS.h (nle rfl)) rfl rfl ?_|refine aO (.load_a rfl rfl TG.h TS.h (nle rfl)) rfl rfl ?_
 first|refine aO (.load_l rfl rfl rfl TG.h TS.h (nle rfl)) rfl rfl ?_|refine aO (.load_a rfl rfl TG.h TS.h (nle rfl)) rfl rfl ?_
 refine o_0 (.move rfl) ?_;refine o_0 (.call rfl rfl rfl (x)) ?_;refine o_0 (.move rfl) ?_;refine o_0 (.extract rfl rfl) ?_;refine o_0 (.extract rfl rfl) ?_;refine o_0 (.assign rfl) ?_;refine o_0 (.assign rfl) ?_;refine ao ?_;refine s_r 9 ?_;refine o_0 (.move rfl) ?_;refine o_0 (.bin rfl rfl cv) ?_;refine o_0 (.move rfl) ?_
 first|refine aF rfl rfl rfl (.move rfl) rfl rfl ?_|refine oe rfl rfl (by first|(simp[eH];done)|exact nofun) rfl rfl ?_
 first|refine aO (.pick rfl (fun _=>rfl) (fun _=>rfl)) rfl rfl ?_|refine aO (.pick rfl (fun _=>rfl) (fun h=>absurd h (by decide))) rfl rfl ?_|refine aO (.pick rfl (fun h=>absurd h (by decide)) (fun _=>rfl)) rfl rfl ?_
 refine o_0 (.move rfl) ?_;refine aF rfl rfl rfl (.call rfl rfl rfl (Y)) rfl rfl ?_
 first|refine aO (.pick rfl (fun _=>rfl) (fun _=>rfl)) rfl rfl ?_|refine aO (.pick rfl (fun _=>rfl) (fun h=>absurd h (by decide))) rfl rfl ?_|refine aO (.pick rfl (fun h=>absurd h (by decide)) (fun _=>rfl)) rfl rfl ?_
 refine o_0 (.assign rfl) ?_;refine ao ?_;exact ai (t_e (ag _))
end Go.Proofs.YtkhclghbcicapaaGreatDoor
namespace Go.Proofs.YtkhclghbcicapaaGreatDoor
open Go.Abs Go.Deep Go.RowKit
set_option maxRecDepth 20000
theorem rvlen{W:World}{l:List eM}{v:Value}(h:RV (fun _=>False) (fun _=>none) W (.arr (nR l)) v):l.length≤9223372036854775807:=by
 obtain⟨_,_,_,b,a,_⟩:=h;have h1:(nR l).length=l.length:=by simp[nR]
 have c:maxLen=9223372036854775807:=by decide
 omega
theorem tySt:(Tryz.prog).underlying 22=some (.slice 142):=by kernel_rfl
def twF:Array Field:= #[{name:= "A",type:=25,offset:=0,embedded:=false,tag:= "",pkgPath:= "",byteOffset:=0},{name:= "B",type:=25,offset:=1,embedded:=false,tag:= "",pkgPath:= "",byteOffset:=24}]
theorem tyTw:(Tryz.prog).underlying 142=some (.struct twF):=by kernel_rfl
theorem tycTw:(Tryz.prog).cellsOf 142=2:=by kernel_rfl
theorem tycS2:(Tryz.prog).cellsOf 25=1:=by kernel_rfl
theorem two_of{H:Type}{enc:TypeId×Value→H}{W:World}{n:Nat}{cs:List Value}{x:DataW H×List MemPlace}(h:DataW.trod enc Tryz.prog W 0 (fun _=>true) true n 142 cs=some x):
    ∃(t:gf) (c0 c1:Value),w7 t∧cs=[c0,c1]∧RV (fun _=>False) (fun _=>none) W (.arr (nR t.1)) c0∧RV (fun _=>False) (fun _=>none) W (.arr (nR t.2)) c1:=by
 obtain⟨v,m,_,_,hl,d,hg⟩:=DataW.trod_struct tyTw h;rw[tycTw] at hl
 match cs,hl,v,d with
 |[c0,c1],_,[y0,y1],_=>
  have j:DataW.trod enc Tryz.prog W 0 (fun _=>true) true m 25 (([c0,c1].drop 0).take ((Tryz.prog).cellsOf 25))=some y0:=hg 0 _ rfl;have i:DataW.trod enc Tryz.prog W 0 (fun _=>true) true m 25 (([c0,c1].drop 1).take ((Tryz.prog).cellsOf 25))=some y1:=hg 1 _ rfl;rw[tycS2] at j i;simp only[List.drop,List.take] at j i
  have k:∃a len b,c0= .slice a len b:=by
   rcases open_slice tyS j with⟨c,_⟩|⟨a,len,b,_,_,_,_,c,_⟩
   simp at c;exact⟨_,_,_,c⟩;simp at c;exact⟨_,_,_,c⟩
  have s:∃a len b,c1= .slice a len b:=by
   rcases open_slice tyS i with⟨c,_⟩|⟨a,len,b,_,_,_,_,c,_⟩
   simp at c;exact⟨_,_,_,c⟩;simp at c;exact⟨_,_,_,c⟩
  obtain⟨a,len,b,rfl⟩:=k;obtain⟨w,f,e,rfl⟩:=s;have q:DataW.Trod enc Tryz.prog W 0 (fun _=>true) true 25 (.slice a len b) y0.1 y0.2:=⟨m,by simpa[Value.cells] using j⟩;have p:DataW.Trod enc Tryz.prog W 0 (fun _=>true) true 25 (.slice w f e) y1.1 y1.2:=⟨m,by simpa[Value.cells] using i⟩;obtain⟨m0,r,r0⟩:=rM q;obtain⟨m1,l,u⟩:=rM p;have B:maxLen=9223372036854775807:=by decide
  have A:m0.length≤9223372036854775807:=by
   obtain⟨_,_,z,o,g,_⟩:=r0;have:(nR m0).length=m0.length:=by simp[nR]
   omega
  have y:m1.length≤9223372036854775807:=by
   obtain⟨_,_,z,o,g,_⟩:=u;have:(nR m1).length=m1.length:=by simp[nR]
   omega
  exact⟨(m0,m1),_,_,⟨⟨r,l⟩,A,y⟩,rfl,r0,u⟩
theorem twP_of{H:Type}{enc:TypeId×Value→H}{W:World}{a:Option Addr}{len cap:Nat}{d:DataW H}{ps:List MemPlace}(h:DataW.Trod enc Tryz.prog W 0 (fun _=>true) true 22 (.slice a len cap) d ps):
    ∃l:List gf,((∀t∈l,w7 t)∧l.length≤9223372036854775807)∧RV (fun _=>False) (fun _=>none) W (.arr (twR l)) (.slice a len cap):=by
 obtain⟨O,hf⟩:=h;rcases open_slice tySt hf with⟨g,_⟩|⟨x,N,L,m,n,D,Z,g,_,hl,U,y,_,G⟩
 simp[Value.cells] at g;obtain⟨rfl,rfl,rfl⟩:=g;exact⟨[],⟨(fun r K=>by cases K),by simp⟩,none,0,rfl,Nat.le_refl _,by decide,.inl rfl⟩;simp[Value.cells] at g;obtain⟨rfl,rfl,rfl⟩:=g;simp only[if_true] at y;have J:m=cap:=y;rw[J] at G;rw[tycTw] at G
 have E:∀i,i< len→∃r:gf×Value×Value,w7 r.1∧W.cells? 0 (x.add (i* 2)) 2=some [r.2.1,r.2.2]∧RV (fun _=>False) (fun _=>none) W (.arr (nR r.1.1)) r.2.1∧RV (fun _=>False) (fun _=>none) W (.arr (nR r.1.2)) r.2.2:=fun i u=>by
  obtain⟨S,T,V⟩:=G i (by omega);obtain⟨t,z,c1,Y,e,B,F⟩:=two_of V;exact⟨(t,z,c1),Y,by rw[T,e],B,F⟩
 obtain⟨R,C⟩:=choose_lt (α:=gf×Value×Value) E;have Q:maxLen=9223372036854775807:=by decide
 refine⟨(List.range len).map fun i=>(R i).1,⟨?_,by simp;omega⟩,some x,cap,by simp[twR],by simpa[twR] using hl,U,?_⟩;intro r K;obtain⟨i,u,rfl⟩:=List.mem_map.1 K;exact(C i (List.mem_range.1 u)).1;by_cases h0:len=0;subst h0;exact .inl rfl;right
 have c:∀i,i< len→∀j (v:Value),[(R i).2.1,(R i).2.2][j]?=some v→W.cell? (x.add (i* 2+j))=some v:=fun i u j v hv=>by
  have X:j< 2:=by
   have:=(List.getElem?_eq_some_iff.1 hv).1;simpa using this
  have:=(World.cells?_some (C i u).2.1).2.2 j X;rw[hv,Go.Deep.add_add] at this;exact this
 have z:=c 0 (by omega) 0 _ rfl;obtain⟨b,off,A⟩:=x;have q:A=none:=by simpa[Addr.add] using World.cell?_spot z
 subst q
 have o:∀k,Addr.add ⟨b,off,none⟩ k=⟨b,off+k,none⟩:=fun k=>by
  unfold Addr.add;by_cases hk:k=0;simp[hk];simp[hk]
 refine⟨b,off,2,rfl,ot (by rw[o] at z;exact z),(fun h=>h),?_⟩;have:=BV (M:=fun _=>False) (β:=fun _=>none) (w:=W) (b:=b) (s:=2) (off:=off) (f:=fun i=>twC (R i).1) len 0 (fun i u=>⟨rfl,?_⟩);rw[Nat.zero_mul,Nat.add_zero,←List.range_eq_range'] at this;rw[twR,List.map_map];exact this;have p:i< len:=by omega
 obtain⟨_,_,B,F⟩:=C i p;refine⟨⟨_,?_,B⟩,⟨_,?_,F⟩,trivial⟩;have:=c i p 0 _ rfl;rw[o] at this;exact this;have:=c i p 1 _ rfl;rw[o] at this;rw[Nat.add_assoc];exact this
end Go.Proofs.YtkhclghbcicapaaGreatDoor
namespace Go.Proofs.YtkhclghbcicapaaGreatDoor
open Go
def mkF(P:Program)(fn:Func)(c:OpenClaim):Bool:=(P.make==some c.make) && (c.kinds==(if c.domain.isEmpty then [] else fn.params.toList.map fun t=>match P.underlying t with|some (.int k)=>some k|_=>none)) && (c.pinned==c.pinnedBy)
section
variable {P:Program}{f:FuncId}{fn:Func}{s:ChangeSpec}{c:OpenClaim}
theorem Ee (h1:c.wf (OpenSpec.ofChange s)=true) (h2:laidOutB P=true) (h3:mapsRowed P=true)
    (h4:fn.params.all (P.readableRec ·)=true) (h5:namedTie P c.named s.vars=true)
    (h6:((c.stops==[]) && (P.stops==[]) && (c.knobs==[]) && (P.stopKnobs==[]))=true)
    (h7:(c.inPlace==P.inPlace f)=true) (h8:(c.unfollowed==P.unfollowed f)=true) (h9:(c.recurses==P.recurses f)=true) (h10:(c.named==P.varsNamed f)=true)
    (h11:((c.maps==(fn.params.toList++s.plain.varTypes P).any (P.mapsRec ·)) && (c.ifaces==(fn.params.toList++s.plain.varTypes P).any (P.ifacesRec ·)) && (c.mapsOut==P.mapsAmong fn.resultTypes.toList))=true)
    (h12:((c.loops==(fn.params.toList++s.plain.varTypes P).any (P.loopsFrom ·)) && (c.wideKeys==(fn.params.toList++s.plain.varTypes P++fn.resultTypes.toList).any (P.wideKeysFrom ·)))=true)
    (h13:(s.vars.all (P.varReadable ·) && fn.resultTypes.all (fun t=>P.readableRec t && decide (t< P.types.size)) && (c.ifacesOut==fn.resultTypes.toList.any (P.ifacesRec ·)) && (c.loopsOut==fn.resultTypes.toList.any (P.loopsFrom ·)) && (c.plainKeys==P.plainKeys) && c.shortTexts.isNone)=true)
    (h14:P.stopsHeard=true) (h15:P.mayEnter=true) (h16:(c.lifted==P.liftsFinal)=true)
    (h17:mkF P fn c=true)
    (h18:((c.veiled==(fn.params.toList++s.plain.varTypes P++fn.resultTypes.toList).any (P.veiledRec ·)) && c.veiledFits P fn.params.toList (fn.params.toList++s.plain.varTypes P++fn.resultTypes.toList))=true):
    joinedFacts P f fn s c=true:=by
 unfold mkF at h17;simp only[Bool.and_eq_true] at h6 h11 h12 h13 h17 h18;simp only[joinedFacts,Bool.and_eq_true]
 and_intros
 all_goals first|assumption|exact h6.1.1.1|exact h6.1.1.2|exact h6.1.2|exact h6.2|exact h11.1.1|exact h11.1.2|exact h11.2|exact h12.1|exact h12.2|exact h13.1.1.1.1.1|exact h13.1.1.1.1.2|exact h13.1.1.1.2|exact h13.1.1.2|exact h13.1.2|exact h13.2|exact h17.1.1|exact h17.1.2|exact h17.2|exact h18.1|exact h18.2
end
theorem qV:laidOutB Tryz.prog=true:=by kernel_rfl
theorem all_mr:mapsRowed Tryz.prog=true:=by kernel_rfl
theorem all_sh:Tryz.prog.stopsHeard=true:=by kernel_rfl
theorem all_me:Tryz.prog.mayEnter=true:=by kernel_rfl
theorem all_lk:false=Tryz.prog.looks []:=by kernel_rfl
theorem all_mi:Tryz.prog.mainIs=some (true,("322b70ded45db0a09bc4225a320e010138d1a3a9730619f33802e56c67b01897" :String).toList):=by kernel_rfl
theorem all_lf:Tryz.prog.liftsFinal=Rows.equationVolterraRow.lifted:=by kernel_rfl
theorem ma:Rows.equationSatisfiedRow.wf (OpenSpec.ofChange Rows.equationSatisfiedSpec)=true:=by kernel_rfl
theorem mn:Tryz.f4.params.all (Tryz.prog.readableRec ·)=true:=by kernel_rfl
theorem mr:namedTie Tryz.prog Rows.equationSatisfiedRow.named Rows.equationSatisfiedSpec.vars=true:=by kernel_rfl
theorem mj:((Rows.equationSatisfiedRow.stops==[]) && (Tryz.prog.stops==[]) && (Rows.equationSatisfiedRow.knobs==[]) && (Tryz.prog.stopKnobs==[]))=true:=by kernel_rfl
theorem mC:(Rows.equationSatisfiedRow.inPlace==Tryz.prog.inPlace 4)=true:=by kernel_rfl
theorem mh:(Rows.equationSatisfiedRow.unfollowed==Tryz.prog.unfollowed 4)=true:=by kernel_rfl
theorem mq:(Rows.equationSatisfiedRow.recurses==Tryz.prog.recurses 4)=true:=by kernel_rfl
theorem me:(Rows.equationSatisfiedRow.named==Tryz.prog.varsNamed 4)=true:=by kernel_rfl
theorem mu:((Rows.equationSatisfiedRow.maps==(Tryz.f4.params.toList++Rows.equationSatisfiedSpec.plain.varTypes Tryz.prog).any (Tryz.prog.mapsRec ·)) && (Rows.equationSatisfiedRow.ifaces==(Tryz.f4.params.toList++Rows.equationSatisfiedSpec.plain.varTypes Tryz.prog).any (Tryz.prog.ifacesRec ·)) && (Rows.equationSatisfiedRow.mapsOut==Tryz.prog.mapsAmong Tryz.f4.resultTypes.toList))=true:=by kernel_rfl
theorem my:((Rows.equationSatisfiedRow.loops==(Tryz.f4.params.toList++Rows.equationSatisfiedSpec.plain.varTypes Tryz.prog).any (Tryz.prog.loopsFrom ·)) && (Rows.equationSatisfiedRow.wideKeys==(Tryz.f4.params.toList++Rows.equationSatisfiedSpec.plain.varTypes Tryz.prog++Tryz.f4.resultTypes.toList).any (Tryz.prog.wideKeysFrom ·)))=true:=by kernel_rfl
theorem mc:(Rows.equationSatisfiedSpec.vars.all (Tryz.prog.varReadable ·) && Tryz.f4.resultTypes.all (fun t=>Tryz.prog.readableRec t && decide (t< Tryz.prog.types.size)) && (Rows.equationSatisfiedRow.ifacesOut==Tryz.f4.resultTypes.toList.any (Tryz.prog.ifacesRec ·)) && (Rows.equationSatisfiedRow.loopsOut==Tryz.f4.resultTypes.toList.any (Tryz.prog.loopsFrom ·)) && (Rows.equationSatisfiedRow.plainKeys==Tryz.prog.plainKeys) && Rows.equationSatisfiedRow.shortTexts.isNone)=true:=by kernel_rfl
theorem mf:((Rows.equationSatisfiedRow.veiled==(Tryz.f4.params.toList++Rows.equationSatisfiedSpec.plain.varTypes Tryz.prog++Tryz.f4.resultTypes.toList).any (Tryz.prog.veiledRec ·)) && Rows.equationSatisfiedRow.veiledFits Tryz.prog Tryz.f4.params.toList (Tryz.f4.params.toList++Rows.equationSatisfiedSpec.plain.varTypes Tryz.prog++Tryz.f4.resultTypes.toList))=true:=by kernel_rfl
theorem l8:Rows.equationSatisfiedRow.wfByText (OpenSpec.ofChange Rows.equationSatisfiedSpec)=true:=by kernel_rfl
theorem mD:false=Rows.equationSatisfiedRow.goesBy Tryz.prog:=by kernel_rfl
theorem equationSatisfied_fn:Tryz.prog.funcNamed Rows.equationSatisfiedRow.func=some 4:=by kernel_rfl
theorem mB:decide (Tryz.f4.isInstance Tryz.prog Rows.equationSatisfiedRow.origin Rows.equationSatisfiedRow.targs)=true:=by kernel_rfl
theorem l9:(Tryz.f4.params.toList.all fun u=>!Tryz.prog.wantsStandIn u)=true:=by kernel_rfl
theorem mw:mkF Tryz.prog Tryz.f4 Rows.equationSatisfiedRow=true:=by kernel_rfl
theorem mA:(Rows.equationSatisfiedRow.lifted==Tryz.prog.liftsFinal)=true:=by rw[all_lf];kernel_rfl
theorem jY:joinedFacts Tryz.prog 4 Tryz.f4 Rows.equationSatisfiedSpec Rows.equationSatisfiedRow=true:=
 Ee ma qV all_mr mn mr mj mC mh mq me mu my mc all_sh all_me mA mw mf
theorem k5:Tryz.f4.isWrapper Tryz.prog Rows.equationSatisfiedRow.wrapper Rows.equationSatisfiedRow.mainSum:=by
 unfold Func.isWrapper;first|(rw[if_pos (by decide+kernel)];kernel_rfl)|(rw[if_neg (by decide+kernel)];exact⟨rfl,rfl⟩)
end Go.Proofs.YtkhclghbcicapaaGreatDoor
namespace Go.Proofs.YtkhclghbcicapaaGreatDoor
open Go.Abs Go.RowKit
theorem tab_glb:(Tryz.prog).globalNamed "internal/strconv.uint64pow10" =some GT:=by kernel_rfl
theorem tab_of{n1 n2:String}{a b:DataW Unit}{W:World}(h:laidMet Tryz.prog [(n1,a),(n2,b),("internal/strconv.uint64pow10",Lib.tabData .u64 Lib.pow10Tab)] W):TabW W:=by
 obtain⟨ps,⟨n,t1,c1,u1,p1,q1,_,_,_,_,⟨r,t2,s,u2,p2,q2,_,_,_,_,⟨g,t,cs,i,p,q,hg,ht,hv,k,_,_⟩,_⟩,_⟩,_,_⟩:=h;obtain rfl:=Option.some.inj (tab_glb.symm.trans hg);have m:((Tryz.prog).globals[GT]?).map (·.type)=some 299:=by kernel_rfl
 have j:(Tryz.prog).underlying 299=some (.array 20 190):=by kernel_rfl
 have l:(Tryz.prog).underlying 190=some (.int .u64):=by kernel_rfl
 have e:(Tryz.prog).cellsOf 190=1:=by kernel_rfl
 have f:(Tryz.prog).cellsOf 299=20:=by kernel_rfl
 obtain rfl:=Option.some.inj (m.symm.trans ht);have hc:=Lib.cells_of_tab (zs:=Lib.pow10Tab) j l e f k;unfold World.var? at hv;rw[tab_glb] at hv;have d:(match W.heap[GT]? with|some (.cells cs _ _)=>some cs|_=>none)=some cs:=hv;cases hh:W.heap[GT]? with
 |none=>rw[hh] at d;cases d
 |some o=>
  rw[hh] at d;cases o with
  |cells a b c=>
   obtain rfl:a=cs:=Option.some.inj d;refine⟨b,c,?_⟩;rw[hh]
   have:a=tabA:=by
    unfold tabA;rw[←hc]
   rw[this]
  |_=>cases d
end Go.Proofs.YtkhclghbcicapaaGreatDoor
namespace Go.Proofs.YtkhclghbcicapaaGreatDoor
open Go.Abs Go.ChangeAt Go.ChangeShapes Go.RowKit Go.WideShapes
theorem own:ownKnob Tryz.prog.godebug=none:=by kernel_rfl
theorem und4:Tryz.prog.underlying 4=some .bool:=by kernel_rfl
abbrev C4:List (String×DataW Unit):=Rows.equationSatisfiedRow.laid
theorem G7(os:Os)(args:Array Value):laidMetH Tryz.prog C4 ((World.doorLaid Tryz.prog 24 os).forCall (fun _ _=>0) ⟨#[],args,[]⟩).memory:=
 laidMetH_of_parts3 (fuel:=8) (laidMet_of_run' 8 (by kernel_rfl) (by kernel_rfl)) (by kernel_rfl) (by kernel_rfl)
set_option maxRecDepth 100000 in
theorem jX(os:Os)(started:os.Started)(H:Type)(enc:TypeId×Value→H):
    ReturnsInHanded {} Tryz.checked os 4 .any (fun w args=>(Rows.equationSatisfiedSpec.pre enc Tryz.prog Tryz.f4 [] false w args∧laidMetH Tryz.prog C4 w)∧sizedMet enc Tryz.prog Tryz.f4 (OpenSpec.ofChange Rows.equationSatisfiedSpec) false w args)
     (Rows.equationSatisfiedSpec.post enc Tryz.prog Tryz.f4 false true false false):=by
 refine returnsInHanded_of_change_and (C:=Tryz.checked) (X:=fun w _=>laidMetH Tryz.prog C4 w) (fun _ _ _ hh h=>h.of_heap hh) own started (by kernel_rfl) Tryz.func4
  (ChangeSpec.witness_shaped (enc:=enc) (C:=Tryz.checked) (os:=os) (X:=fun w _=>laidMetH Tryz.prog C4 w) false (World.doorLaid Tryz.prog 24 os) #[.slice none 0 0,(.agg #[.int .i64 0,.int .i64 0,.int .u8 0,.int .i64 0,.int .i64 0,.int .u8 0]),(.agg #[.int .i64 0,.int .i64 0,.int .u8 0]),.slice none 0 0,.slice none 0 0] 8 rfl (World.shaped_of_RefB (by kernel_rfl) (by kernel_rfl)) (by kernel_rfl) (by kernel_rfl) (by kernel_rfl) (G7 os _)) ?_
 intro W k args ds gs s c N _ _ T _;have a:∀(j:Nat) t v,Tryz.f4.params[j]?=some t→args[j]?=some v→Value.okWide Tryz.prog W .any k t v:=c;have u:=N;obtain⟨p,q,f,hV,rfl,hfz,hnd⟩:=N;have hA:DataW.TrodAll enc Tryz.prog W 0 (fun _=>true) true Tryz.f4.params.toList args.toList ds p:=f;rw[Tryz.params4] at hA a;obtain⟨U,vs0,d0,ds0,p0,q0,M,rfl,rfl,J,r0⟩:=trodAll_cons hA;obtain⟨v1,vs1,d1,ds1,p1,q1,rfl,rfl,rfl,h1,r1⟩:=trodAll_cons r0;obtain⟨v2,vs2,d2,ds2,p2,q2,rfl,rfl,rfl,z,r2⟩:=trodAll_cons r1;obtain⟨Q,V,d3,Y,p3,q3,rfl,rfl,rfl,G,r3⟩:=trodAll_cons r2;obtain⟨S,vs4,d4,ds4,p4,q4,rfl,rfl,rfl,L,r4⟩:=trodAll_cons r3;obtain⟨rfl,rfl,rfl⟩:=trodAll_nil r4;obtain rfl:args= #[U,v1,v2,Q,S]:=by cases args;simp_all
 obtain⟨rfl,rfl⟩:=trodVars_none hV;obtain⟨a0,l,o,rfl⟩:=okWide_slice tySt (a 0 22 U rfl rfl);obtain⟨a3,r,i,rfl⟩:=okWide_slice tyS (a 3 25 Q rfl rfl);obtain⟨a4,n,g,rfl⟩:=okWide_slice tyS (a 4 25 S rfl rfl);have B:∀x∈p0,x.block< W.heap.size:=by obtain⟨m,d⟩:=J;exact DataW.trod_lt m _ _ _ d
 have E:∀x∈p1,x.block< W.heap.size:=by obtain⟨m,d⟩:=h1;exact DataW.trod_lt m _ _ _ d
 have D:∀x∈p2,x.block< W.heap.size:=by obtain⟨m,d⟩:=z;exact DataW.trod_lt m _ _ _ d
 have F:∀x∈p3,x.block< W.heap.size:=by obtain⟨m,d⟩:=G;exact DataW.trod_lt m _ _ _ d
 have A:∀x∈p4,x.block< W.heap.size:=by obtain⟨m,d⟩:=L;exact DataW.trod_lt m _ _ _ d
 obtain⟨l0,R,g0⟩:=twP_of J;obtain⟨l1,o1,g1⟩:=gapP_of (a 1 44 v1 rfl rfl) h1;obtain⟨l2,o2,g2⟩:=numP_of (a 2 24 v2 rfl rfl) z;obtain⟨Z,o3,g3⟩:=rM G;obtain⟨l4,o4,O⟩:=rM L;clear f c;refine((lZ l0 l1 l2 Z l4 R.1 R.2 o1 o2 o3 (rvlen g3) o4 (rvlen O)).calls (fun _=>False) W [.slice a0 l o,v1,v2,.slice a3 r i,.slice a4 n g] ⟨fun _ h=>h.elim,fun h=>h,tab_of (by rw[MakeChecks.laidMetH_plain _ _ _ (by kernel_rfl)] at T;exact T)⟩ ⟨_,_,rfl,g0,⟨_,_,rfl,g1,⟨_,_,rfl,g2,⟨_,_,rfl,g3,⟨_,_,rfl,O,rfl⟩⟩⟩⟩⟩).mono fun e W' ⟨y,he,hy,b⟩=>?_;have K:y= .bool true:=hy;subst he;subst K;exact⟨_,rfl,_,_,_,[],_,[],u,trodAll_mk1 (shut_bool und4 _),(trodAll_cons_mk (Below.trod qV (by kernel_rfl) (of_decide_eq_true (by kernel_rfl)) J b B) (trodAll_cons_mk (Below.trod qV (by kernel_rfl) (of_decide_eq_true (by kernel_rfl)) h1 b E) (trodAll_cons_mk (Below.trod qV (by kernel_rfl) (of_decide_eq_true (by kernel_rfl)) z b D) (trodAll_cons_mk (Below.trod qV (by kernel_rfl) (of_decide_eq_true (by kernel_rfl)) G b F) (trodAll_cons_mk (Below.trod qV (by kernel_rfl) (of_decide_eq_true (by kernel_rfl)) L b A) trodAll_mk0))))),rfl,b.frame _,fun h=>by cases h⟩
theorem ls:Rows.EquationSatisfiedSaid:=
 OpenClaim.holds_of_wide 4 Tryz.f4 rfl rfl rfl rfl rfl rfl rfl ⟨rfl,rfl,rfl,rfl,rfl⟩ rfl rfl rfl rfl rfl equationSatisfied_fn Tryz.func4 jY
  (of_decide_eq_true mB) k5
  (fun os a H b _=>jX os a H b)
theorem equationSatisfied_card:Rows.EquationSatisfiedCardSaid:=
 Claim7.holds_tied_plain_at .later [] [.data,.data,.data] true (true, "322b70ded45db0a09bc4225a320e010138d1a3a9730619f33802e56c67b01897") false
  ls (fun _ h=>by cases h) l8 (fun _ h=>by cases h) equationSatisfied_row_tie rfl ⟨rfl,rfl⟩ all_mi rfl
  (fun f fn hf hfn=>by
   obtain rfl:f=4:=Option.some.inj (equationSatisfied_fn.symm.trans hf)|>.symm;obtain rfl:fn=Tryz.f4:=(Option.some.inj (Tryz.func4.symm.trans hfn)).symm
   exact⟨all_lk,fun j t ht=>by
    have hm:t∈Tryz.f4.params.toList:=by simpa using Array.mem_of_getElem? ht
    exact(show Tryz.prog.wantsStandIn t=false by simpa using List.all_eq_true.1 l9 t hm)⟩)
  mD
#print axioms equationSatisfied_card
end Go.Proofs.YtkhclghbcicapaaGreatDoor
