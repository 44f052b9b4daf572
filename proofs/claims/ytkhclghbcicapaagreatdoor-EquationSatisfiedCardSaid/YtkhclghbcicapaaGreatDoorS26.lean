/- Part S26 of the proof. -/
import Derived.Test.YtkhclghbcicapaaGreatDoorS25
import Derived.ProofKit
import Derived.OpenShut
import Derived.Carry
import Derived.Deep.Slices
import Derived.Deep.Strs
set_option linter.all false
namespace Go.Proofs.YtkhclghbcicapaaGreatDoor
open Go.Abs
set_option maxRecDepth 100000
set_option maxHeartbeats 2000000
def tI(a b:Sp):Sp:=(Bd [a.1,b.1],nS [a.2,b.2])
def iS(a:Rat)(k:Int):Sp:=(jv a (wi k 256),upQ a (wi k 256))
def rlM(f g:Nat)(c:Cnt)(p:List Rat)(k:Int)(up:Int):Nat→Int→Sp→Option Sp
 |0,_,_=>none
 |n+1,i,o=>if i< up then(AA f g c i p k).bind fun v=>if smS o∧smS v then rlM f g c p k up n (i+1) (tI o v) else none else some o
def CT(p:List Rat)(s:Sp)(k:Int):Prop:=smS s∧e8 p s.1∧e8 p s.2∧smL p∧p.length≤274877906944∧ft s.1 s.2≤0∧bv p≤40∧smS (iS (au p s.1) k)∧smS (iS (au p s.2) k)
instance (p:List Rat) (s:Sp) (k:Int):Decidable (CT p s k):=inferInstanceAs (Decidable (_∧_∧_∧_∧_∧_∧_∧_∧_))
def wR(f g:Nat)(p:List Rat)(s:Sp)(k:Int):Option Sp:=
 if CT p s k then
  if bv (dO p)< 0 then some (tI (iS (au p s.1) k) (iS (au p s.2) k))
  else(iX f (dO p)).bind fun c=>if oQ c s.1∧rD c s.2 then rlM f g c p k (eV c s.2) g (dA c s.1) (tI (iS (au p s.1) k) (iS (au p s.2) k)) else none
 else none
def rgS(p:List Rat)(s:Sp)(k:Int)(c:Cnt):Int×Sp→AState
 |(i,o)=>⟨[(0,.arr (pE p)),(2,i64 k),(4,bS s),(6,.lptr 1 0 0),(8,.lptr 2 0 0),(10,kA c),(11,i64 i)],[(1,some ⟨40,6,[zC++zC]⟩),(2,some ⟨40,6,[spC o.1 o.2]⟩)],3,66⟩
theorem zt(f g:Nat)(p:List Rat)(s:Sp)(k:Int)(r:Sp)(h:wR f g p s k=some r)(hf:f≤1000000):FS 139 [.arr (pE p),.agg (spC s.1 s.2),i64 k] (.tup [.agg (spC r.1 r.2),i64 0]):=by
 unfold wR at h;split at h
 case isFalse=>cases h
 case isTrue hk=>
 obtain⟨C,A,k3,J,L,F,M,z,B⟩:=hk;have G:=mG p;obtain⟨q,E⟩:∃o,o=tI (iS (au p s.1) k) (iS (au p s.2) k):=⟨_,rfl⟩;have t:=zq (iS (au p s.1) k).1 (iS (au p s.1) k).2 (iS (au p s.2) k).1 (iS (au p s.2) k).2 z.1 z.2 B.1 B.2;rw[←E] at h;have b:FS 171 [.agg (spC (iS (au p s.1) k).1 (iS (au p s.1) k).2),.agg (spC (iS (au p s.2) k).1 (iS (au p s.2) k).2)] (.agg (spC q.1 q.2)):=by rw[E];exact t
 refine f_c Tryz.func139 ?_;refine r_z 3 ?_;refine bh (fun _:Unit=>⟨[(0,.arr (pE p)),(2,i64 k),(4,bS s),(6,.lptr 1 0 0)],[(1,some ⟨40,6,[zC++zC]⟩)],2,66⟩) (fun _=>True) ?_ ?_;refine aj (r_c 4 (ng s.1 s.2 C.1 C.2) ?_);refine a_z ?_;refine ap rfl (fun h1=>?_) (fun h1=>?_);exact absurd h1 (by simp[F]);refine r_c 4 (cI p (by omega)) ?_;refine a_z ?_;refine ap rfl (fun D=>?_) (fun D=>?_);exact absurd D (by simp;omega);refine am ⟨(),trivial,?_⟩;exact s_e [(1,6)];rintro _ _;refine ae (r_d aY 15 ?_);refine c_s (jJ p s.1 A) ?_;refine c_s (zu (au p s.1) k (tZ A)) ?_;refine c_s (jJ p s.2 k3) ?_;refine c_s (zu (au p s.2) k (tZ k3)) ?_;refine c_s (b) ?_;refine a_2 ?_;refine ao (n_k ?_);refine ae (r_c 3 (qB p J (by omega)) ?_);refine a_z ?_;refine r_c 3 (cI (dO p) (by omega)) ?_;refine a_z ?_;refine aH (fun _:Unit=>⟨[(6,.lptr 1 0 0),(8,.lptr 2 0 0)],[(1,some ⟨40,6,[zC++zC]⟩),(2,some ⟨40,6,[spC r.1 r.2]⟩)],3,66⟩) (fun _=>True) ?_ ?_;refine ap rfl (fun j=>?_) (fun j=>?_)
 ·have e:¬bv (dO p)< 0:=by
   have:0≤bv (dO p):=by simpa using j
   omega
  rw[if_neg e] at h;obtain⟨c,hc,w⟩:=Option.bind_eq_some_iff.1 h;split at w
  case isFalse=>cases w
  case isTrue hb=>
  refine r_c 3 (qy f (dO p) c hc hf) ?_;refine a_z ?_;refine r_c 5 (kn c s.1 hb.1) ?_;refine a_z ?_;have K:=oh (x:=s.2) hb.2.1;have H:=ET (x:=s.1) hb.1.1.1;refine aj (aB (fun x:Nat×Int×Sp=>rgS p s k c x.2) (fun x=>x.1) (fun x=>rlM f g c p k (eV c s.2) x.1 x.2.1 x.2.2=some r∧ -4611686018427387904≤x.2.1) (g,dA c s.1,q) ⟨w,by simp only;omega⟩ ?_ ?_);simp only[rgS.eq_1];exact s_e [(2,8)];rintro⟨n,i,o⟩ ⟨a,y⟩;simp only at a y;simp only[rgS.eq_1];cases n with
  |zero=>cases a
  |succ n=>
   rw[rlM] at a;refine ae (r_c 6 (nf c s.2 hb.2) ?_);refine a_z ?_;refine ap rfl (fun m=>?_) (fun m=>?_)
   ·have l:i< eV c s.2:=by simpa using m
    rw[if_pos l] at a;obtain⟨v,hv,d⟩:=Option.bind_eq_some_iff.1 a;split at d
    case isFalse=>cases d
    case isTrue hsm=>
    have u:FS 171 [.agg (spC o.1 o.2),.agg (spC v.1 v.2)] (.agg (spC (tI o v).1 (tI o v).2)):=zq o.1 o.2 v.1 v.2 hsm.1.1 hsm.1.2 hsm.2.1 hsm.2.2;refine am (ae (aj (r_z 5 ?_)));refine AWp.ent (st':=⟨[(0,.arr (pE p)),(2,i64 k),(4,bS s),(6,.lptr 1 0 0),(8,.lptr 2 0 0),(10,kA c),(11,i64 i),(12,plA c i)],[(1,some ⟨40,6,[zC++zC]⟩),(2,some ⟨40,6,[spC o.1 o.2]⟩)],3,66⟩) ?_ ?_;refine s_x [] (fun hs=>?_) (fun hs=>?_)
    ·repeat' (first|exact aK|refine az rfl ?_ ?_|exact Cv.boxp hs rfl (aM rfl) rfl (ac (gj c) (ac (ag _) af))|exact aW)
    ·repeat' (first|exact aE|refine h_c ?_ ?_|exact bF|refine aC ?_|exact av|refine ah ?_ ?_|exact Cv.boxp hs rfl (aM rfl) rfl (ac (gj c) (ac (ag _) af))|exact aW)
    refine r_d aY 7 ?_;refine c_s (Gj f g c i p k v hv hf) ?_;refine c_s (u) ?_;refine a_1 ?_;refine ao (n_k ?_);refine r_m 3 ?_;refine a_z ?_;refine⟨(n,i+1,tI o v),Nat.lt_succ_self n,⟨d,by simp only;omega⟩,?_⟩;simp only[rgS.eq_1];exact s_e []
   have l:¬i< eV c s.2:=by simpa using m
   rw[if_neg l] at a;cases a;refine ay ⟨(),trivial,?_⟩;exact s_e []
 have e:bv (dO p)< 0:=by
  have:¬0≤bv (dO p):=by simpa using j
  omega
 rw[if_pos e] at h;cases h;refine am ⟨(),trivial,?_⟩;exact s_e [(2,8)];rintro _ _;refine r_z 3 ?_;refine ai (Fin.many ⟨_,_,rfl,⟨_,_,_,_,_,rfl,rfl,rfl,.inl ⟨TG.h,_,TS.h,nle rfl,rfl⟩⟩,⟨_,_,rfl,rfl,rfl⟩⟩ (nle rfl) ?_);exact ah (ak aD (bG _ _)) (ah (ak aD (ag _)) av)



def zE(l:List Int):List (List AV):=l.map fun n=>[i64 n]
theorem iq(l:List Int):∀e∈zE l,∀c∈e,Closed c:=by
 intro e a c hc;obtain⟨n,_,rfl⟩:=List.mem_map.1 a;rw[List.mem_singleton.1 hc];exact ag _
def zR(l:List Int):List Rat:=l.map fun(n:Int)=>(n:Rat)
def oI(q:Rat):Nat→Rat
 |0=>q
 |k+1=>oI q k* q
theorem CS(q:Rat):∀k,qs (oI q k)≤(k+1) * qs q
 |0=>by simp[oI]
 |k+1=>by
  have h1:=eu (oI q k) q;have a:=CS q k;show qs (oI q k* q)≤_;rw[Nat.add_mul (k+1),Nat.one_mul];omega
def uR(D:Int):Int:=if D=0 then 1 else D
def oV(N D:Int)(p:Nat):Rat:=oI (Rat.divInt N (uR D)) (p % 4)
def nuC(N D:Int)(p:Nat):List AV:=[i64 N,i64 D,.v (.int .u8 p)]
def kg(n:Int):Prop:= -9223372036854775808≤n∧n≤9223372036854775807
theorem iu(N D:Int)(p:Nat):∀c∈nuC N D p,Closed c:=ac (ag _) (ac (ag _) (ac (ag _) af))
theorem G8(n d:Int):(n:Rat) / (d:Rat)=Rat.divInt n d:=(Rat.divInt_eq_div n d).symm
def boT(N:Int)(D:Int)(p:Nat)(q:Rat):Nat→AState
 |k=>⟨[(1,.lptr 1 0 0),(2,.lptr 2 0 0),(3,.lptr 3 0 0),(4,.lptr 4 0 0),(6,.lptr 5 0 0),(7,.lptr 6 0 0),(8,.lptr 7 0 0),(9,.v (.int .u8 k))],
  [(1,some ⟨24,3,[nuC N D p]⟩),(2,some ⟨34,3,[zC]⟩),(3,some ⟨51,4,[[i64 0,.emp,i64 0,.emp]]⟩),(4,some ⟨34,3,[qC q]⟩),(5,some ⟨51,4,[rC (rq q)]⟩),(6,some ⟨34,3,[qC (oI q k)]⟩),(7,some ⟨51,4,[rC (rq (oI q k))]⟩)],8,44⟩
theorem pt(N D:Int)(p:Nat)(hN:kg N)(hD:kg D)(hp:p≤255):FS 8 [.agg (nuC N D p)] (.tup [.agg (qC (oV N D p)),.agg (rC (rq (oV N D p)))]):=by
 obtain⟨d,c⟩:∃d,d=uR D:=⟨_,rfl⟩;have g:d≠0:=by rw[c];unfold uR;split <;> omega
 have a:kg d:=by
  rw[c];unfold uR kg;unfold kg at hD;split <;> omega
 unfold kg at hN a;obtain⟨q,i⟩:∃q,q=Rat.divInt N d:=⟨_,rfl⟩;have b:=fs_Of N d hN a g;rw[G8,←i] at b;have e:=fs_rOf N d g hN a;rw[←i] at e;have o:oV N D p=oI q (p % 4):=by unfold oV;rw[←c,←i]
 rw[o];refine f_n Tryz.func8 ?_ ?_;exact ac (aA (iu N D p)) af;refine r_z 3 ?_
 refine bh (fun _:Unit=>⟨[(1,.lptr 1 0 0),(2,.lptr 2 0 0),(3,.lptr 3 0 0)],
  [(1,some ⟨24,3,[nuC N d p]⟩),(2,some ⟨34,3,[zC]⟩),(3,some ⟨51,4,[[i64 0,.emp,i64 0,.emp]]⟩)],4,44⟩) (fun _=>True) ?_ ?_
 refine r_z 3 ?_;refine ap rfl (fun h1=>?_) (fun h1=>?_);have f:D=0:=by simpa using h1
 have m:d=1:=by rw[c];unfold uR;rw[if_pos f]
 refine r_m 2 ?_;refine a_z ?_;refine⟨(),trivial,?_⟩;rw[m];have:=iu N 1 p;exact s_f [];have f:¬D=0:=by simpa using h1
 have m:d=D:=by rw[c];unfold uR;rw[if_neg f]
 refine am ⟨(),trivial,?_⟩;rw[m];have:=iu N D p;exact s_f [];rintro _ _;refine r_c 11 (b) ?_;refine a_z ?_;refine r_c 7 (e) ?_;refine a_z ?_;refine ae (r_d aY 6 ?_);refine a_6 ?_;refine ao (n_k ?_);refine ae (r_z 1 ?_)
 have j:qs q≤64:=by
  have hb:∀z:Int,-9223372036854775808≤z∧z≤9223372036854775808→bl z.natAbs≤64:=fun z h=>gP (k:=64) (by omega);rw[i];by_cases hn:d< 0;rw[n8 N d hn];exact fh (by omega) (hb (-N) (by omega)) (hb d (by omega));rw[n7 N d (by omega)];exact fh (by omega) (hb N (by omega)) (hb d (by omega))
 have s:(p:Int) % 4=((p % 4:Nat):Int):=by omega
 refine aH (fun _:Unit=>boT N d p q (p % 4)) (fun _=>True) ?_ ?_;refine aj (aB (boT N d p q) (fun k=>p % 4- k) (fun k=>k≤p % 4) 0 (Nat.zero_le _) ?_ ?_);simp only[boT.eq_1,oI];exact s_f [(4,4),(5,6),(6,7),(7,8)];rintro k u;rw[boT.eq_1];refine ae (r_z 5 ?_);refine ap rfl (fun h=>?_) (fun h=>?_);refine am ?_
 have n:k< p % 4:=by
  have f:(k:Int)< (p:Int) % 4:=by simpa using h
  omega
 have t:=CS q k;have r:(k+1) * qs q≤4* 64:=Nat.mul_le_mul (by omega) j;refine ae (aj (r_d aY 8 ?_));refine c_s (cU (oI q k) q (by omega)) ?_;refine c_s (fs_rMul (rq (oI q k)) (rq q) (tg _) (tg _) (by simp only[rq];omega)) ?_;refine a_2 ?_;refine ao (n_k ?_);refine r_m 3 ?_;refine a_z ?_;refine⟨k+1,by omega,n,?_⟩;simp only[boT.eq_1];exact s_f []
 have l:k=p % 4:=by
  have f:¬(k:Int)< (p:Int) % 4:=by simpa using h
  omega
 subst l;refine ay ⟨(),trivial,?_⟩;exact s_f [];rintro _ _;rw[boT.eq_1];refine ae (r_d aY 4 ?_);refine a_4 ?_;refine ao (n_k ?_);refine ai (Fin.many ⟨_,_,rfl,⟨_,_,_,_,_,rfl,rfl,rfl,.inl ⟨TG.h,_,TS.h,nle rfl,rfl⟩⟩,⟨_,_,rfl,⟨_,_,_,_,_,rfl,rfl,rfl,.inl ⟨TG.h,_,TS.h,nle rfl,rfl⟩⟩,rfl⟩⟩ (nle rfl) ?_);exact ah (ak aD (aP _)) (ah (ak aD (kx _)) av)
def twP:List Rat:=aZ [0,1] 2
def chP:Nat→List Rat×List Rat
 |0=>(dR 1,[0,1])
 |k+1=>((chP k).2,dC (aT twP (chP k).2) (chP k).1)
def okCh(k:Nat):Prop:=ef twP (chP k).2∧smL (chP k).1∧(aT twP (chP k).2).length≤274877906944∧(chP k).1.length≤274877906944
instance (k:Nat):Decidable (okCh k):=inferInstanceAs (Decidable (_∧_∧_∧_))
def chL2(n:Nat):List (List Rat):=(List.range n).map fun k=>(chP k).1
@[simp] theorem chL2_length (n:Nat):(chL2 n).length=n:=by simp[chL2]
def okTo(L:Nat)(p t:List Rat)(k:Rat)(n:Nat):Prop:=n< L∧smL p∧smL t∧aR t≠0∧sm k∧smL (aZ t k)∧p.length≤274877906944∧t.length≤274877906944
instance (L:Nat) (p t:List Rat) (k:Rat) (n:Nat):Decidable (okTo L p t k n):=inferInstanceAs (Decidable (_∧_∧_∧_∧_∧_∧_∧_))

inductive LeLL:List (List AV)→List (List AV)→Prop
 |nil:LeLL [] []
 |cons {e e' es es'}:LeL e e'→LeLL es es'→LeLL (e::es) (e'::es')
theorem LeLL.length{es es':List (List AV)}(h:LeLL es es'):es'.length=es.length:=by
 induction h with
 |nil=>rfl
 |cons _ _ a=>simp[a]
section
variable {P:Go.Program}{T:Nat}{x y:Operand}
end
abbrev eM:=Int×Int×Nat
def nV(r:eM):Rat:=oV r.1 r.2.1 r.2.2
def nR(l:List eM):List (List AV):=l.map fun r=>nuC r.1 r.2.1 r.2.2
def nL(l:List eM):List Rat:=l.map nV
abbrev rL(l:List Rat):List (List AV):=rE (l.map rq)
def okR(l:List eM):Prop:=∀r∈l,kg r.1∧kg r.2.1∧r.2.2≤255
theorem ce(l:List eM):∀e∈nR l,∀c∈e,Closed c:=by
 intro e a c hc;obtain⟨r,_,rfl⟩:=List.mem_map.1 a;exact iu _ _ _ c hc
theorem kw(l:List Rat):∀e∈rL l,∀c∈e,Closed c:=jc _
def liS(l:List eM):List Rat→Nat→AState
 |[],i=>⟨[(0,.arr (nR l)),(4,.emp),(5,.emp),(6,i64 i)],[],1,33⟩
 |q::Q,i=>⟨[(0,.arr (nR l)),(4,.lsl 1 0 (Q.length+1) none 3),(5,.lsl 2 0 (Q.length+1) none 4),(6,i64 i)],[(1,some ⟨34,3,pE (q::Q)⟩),(2,some ⟨51,4,rL (q::Q)⟩)],3,33⟩
theorem oW(l:List eM)(i:Nat):liS l [] i=⟨[(0,.arr (nR l)),(4,.emp),(5,.emp),(6,i64 i)],[],1,33⟩:=rfl
theorem ka(l:List eM)(q:Rat)(Q:List Rat)(i:Nat):liS l (q::Q) i=⟨[(0,.arr (nR l)),(4,.lsl 1 0 (Q.length+1) none 3),(5,.lsl 2 0 (Q.length+1) none 4),(6,i64 i)],[(1,some ⟨34,3,pE (q::Q)⟩),(2,some ⟨51,4,rL (q::Q)⟩)],3,33⟩:=rfl
theorem Di(l:List eM)(hl:l.length≤1099511627776)(hb:okR l):FS 25 [.arr (nR l)] (.tup [.arr (pE (nL l)),.arr (rL (nL l))]):=by
 have r:∀q:Rat,∀e∈[rC (rq q)],∀c∈e,Closed c:=fun q=>kw [q];refine f_n Tryz.func25 ?_ ?_;exact ac (aG (ce l)) af;refine r_z 2 ?_;refine r_z 1 ?_;refine r_z 1 ?_;refine ae (r_z 1 ?_);refine aH (fun _:Unit=>liS l (nL l) l.length) (fun _=>True) ?_ ?_;refine aj (aB (fun i:Nat=>liS l (nL (l.take i)) i) (fun i=>l.length- i) (fun i=>i≤l.length) 0 (Nat.zero_le _) ?_ ?_);show SEnt _ (liS l [] 0);rw[oW];have:=(aG (ce l));exact s_f [];rintro i s;have p:(nR l).length=l.length:=by simp[nR]
 by_cases hlt:i< l.length
 ·obtain⟨n,m⟩:∃n,l[i]?=some n:=⟨_,List.getElem?_eq_getElem hlt⟩
  have a:(nR l)[((i:Nat):Int).toNat]?=some (nuC n.1 n.2.1 n.2.2):=by
   show(nR l)[i]?=_;simp[nR,m]
  obtain⟨g,o,k⟩:=hb n (List.mem_of_getElem? m);have b:=pt n.1 n.2.1 n.2.2 g o k;obtain⟨v,hv⟩:∃v,v=oV n.1 n.2.1 n.2.2:=⟨_,rfl⟩;rw[←hv] at b;have d:nL (l.take (i+1))=nL (l.take i)++[v]:=by rw[cw m];simp[nL,nV,hv]
  have f:(nL (l.take i)).length=i:=by simp[nL];omega
  cases hQ:nL (l.take i) with
  |nil=>
   simp only[oW];refine ae (r_z 4 ?_);refine ap rfl (fun h=>?_) (fun h=>?_);rotate_left;exact absurd h (by simp[nR];omega);refine am (ae (aj (s_r 12 ?_)));refine a_2 ?_;refine i_x a ?_;refine l_x a ?_;refine c_s (b) ?_;refine a_z ?_;refine r_d aY 10 ?_;refine a_8 ?_;refine a_2 ?_;refine ao (n_k ?_);refine r_m 3 ?_;refine a_z ?_;refine⟨i+1,by omega,hlt,?_⟩;simp only[d,hQ,List.nil_append,ka];refine s_x [(1,4),(2,5)] (fun hs=>e_40) (fun hs=>?_)
   ·repeat' (first|exact aE|refine h_c ?_ ?_|exact bC hs (aL [v])|exact bC hs (kw [v])|exact bF|refine aC ?_|exact av|refine ah ?_ ?_|exact ak hs (aG (ce l))|exact aW)
  |cons q Q=>
   rw[hQ] at f;simp at f;simp only[ka];refine ae (r_z 4 ?_);refine ap rfl (fun h=>?_) (fun h=>?_);rotate_left;exact absurd h (by simp[nR];omega);refine am (ae (aj (s_r 12 ?_)));refine a_2 ?_;refine i_x a ?_;refine l_x a ?_;refine c_s (b) ?_;refine a_z ?_;refine r_d aY 10 ?_;refine a_8 ?_;refine a_2 ?_;refine ao (n_k ?_);refine r_m 3 ?_;refine a_z ?_;refine⟨i+1,by omega,hlt,?_⟩;simp only[d,hQ,List.cons_append,ka];have e:pE (q::Q)++[qC v]=pE (q::(Q++[v])):=by simp[pE]
   have e2:rL (q::Q)++[rC (rq v)]=rL (q::(Q++[v])):=by simp[rE]
   refine s_x [(1,4),(2,5)] (fun hs=>e_40) (fun hs=>?_) e_8
   ·repeat' (first|exact aE|refine h_c ?_ ?_|exact aI hs e (aL _)|exact aI hs e2 (kw _)|exact bF|refine aC ?_|exact av|refine ah ?_ ?_|exact ak hs (aG (ce l))|exact aW)
 have j:i=l.length:=by omega
 subst j;simp only[List.take_length];cases hQ:nL l with
 |nil=>
  simp only[oW];refine ae (r_z 4 ?_);refine ap rfl (fun h=>?_) (fun h=>?_);exact absurd h (by simp[nR]);refine ay ⟨(),trivial,?_⟩;simp only[hQ,oW];have:=(aG (ce l));exact s_f []
 |cons q Q=>
  simp only[ka];refine ae (r_z 4 ?_);refine ap rfl (fun h=>?_) (fun h=>?_);exact absurd h (by simp[nR]);refine ay ⟨(),trivial,?_⟩;simp only[hQ,ka];have:=(aG (ce l));exact s_f []
 rintro _ _;cases hQ:nL l with
 |nil=>
  simp only[oW];refine r_z 4 ?_;refine ai (Fin.many ⟨_,_,rfl,rfl,⟨_,_,rfl,rfl,rfl⟩⟩ (nle rfl) ?_);exact ah (Cv.emp _) (ah (Cv.emp _) av)
 |cons q Q=>
  simp only[ka];refine r_z 4 ?_;refine ai (Fin.many ⟨_,_,rfl,rfl,⟨_,_,rfl,rfl,rfl⟩⟩ (nle rfl) ?_);exact ah (Cv.sealE aD rfl (fun _ _ h=>by cases h) rfl (by simp) (aL _)) (ah (Cv.sealE aD rfl (fun _ _ h=>by cases h) rfl (by simp) (kw _)) av)
theorem tV(l:List eM)(hl:l.length≤1099511627776)(hb:okR l):FS 81 [.arr (nR l)] (.tup [.arr (pE (nL l)),.arr (rL (nL l))]):=by
 refine f_n Tryz.func81 ?_ ?_;exact ac (aG (ce l)) af;refine r_z 2 ?_;refine r_c 7 (Di l hl hb) ?_;refine a_z ?_;refine r_z 4 ?_;refine ai (Fin.many ⟨_,_,rfl,rfl,⟨_,_,rfl,rfl,rfl⟩⟩ (nle rfl) ?_);exact ah (ak aD (aG (aL _))) (ah (ak aD (aG (kw _))) av)
def vR(x:List RQ):List Rat:=x.map (·.1)
def okX(x:List RQ):Prop:=∀y∈x,rok y
def uZ(x:List RQ):List RQ:=x.take (aq (vR x)).length
theorem vR_trim(x:List RQ):vR (uZ x)=aq (vR x):=by
 unfold uZ;rw[vR,List.map_take];exact(u0 (vR x)).symm
@[simp] theorem mN (x:List RQ):(vR x).length=x.length:=by simp[vR]
def rtmS(x:List RQ):Nat→AState
 |n=>⟨[(0,.arr (rE x)),(3,i64 n)],[],1,23⟩
theorem Gr(x:List RQ)(hl:x.length≤1099511627776):FS 134 [.arr (rE x)] (.arr (rE (uZ x))):=by
 obtain⟨v,hv⟩:∃v,v=vR x:=⟨_,rfl⟩;have f:v.length=x.length:=by rw[hv];simp
 refine f_c Tryz.func134 ?_;refine r_z 1 ?_;refine r_z 3 ?_;refine bh (rtmS x) (fun n=>n≤v.length∧aq v=v.take n) ?_ ?_;refine aj (aB (rtmS x) (fun n=>n) (fun n=>n≤v.length∧aq v=aq (v.take n)) v.length ⟨Nat.le_refl _,by rw[List.take_length]⟩ ?_ ?_);simp only[rtmS.eq_1];rw[f];exact s_e [];rintro n ⟨l,ht⟩;simp only[rtmS.eq_1];cases n with
 |zero=>
  refine ae (s_r 11 ?_);refine a_1 ?_;refine o_0 (.bin rfl rfl (vF kF ((by simp)))) ?_;refine a_z ?_;refine cF (ay ⟨0,⟨Nat.zero_le _,?_⟩,?_⟩);rw[ht];rfl;simp only[rtmS.eq_1];exact s_e []
 |succ n=>
  obtain⟨y,m⟩:∃y,x[n]?=some y:=⟨_,List.getElem?_eq_getElem (by omega)⟩;have o:v[n]?=some y.1:=by rw[hv,vR,List.getElem?_map,m];rfl
  have c:(rE x)[(((n+1:Nat):Int)- 1).toNat]?=some (rC y):=by
   rw[show(((n+1:Nat):Int)- 1).toNat=n by omega];exact rE_get m
  have hs:aq (v.take (n+1))=if y.1=0 then aq (v.take n) else v.take (n+1):=by
   rw[cw o,kM]
  by_cases h0:y.1=0;refine ae (s_r 11 ?_);refine d_6 ?_;refine aF rfl rfl rfl (.index_a rfl rfl (by omega) c rfl te_87.h) rfl rfl ?_;refine aF rfl rfl rfl (.load_a rfl c TG.h TS.h (nle rfl)) rfl rfl ?_;refine c_s (zf y) ?_;refine aF rfl rfl rfl (.bin rfl rfl (vT cv ((by rw[h0];decide)))) rfl rfl ?_;refine a_z ?_;refine cT (am (aj (r_m 3 ?_)));refine a_z ?_;refine⟨n,Nat.lt_succ_self n,⟨by omega,?_⟩,?_⟩;rw[ht,hs,if_pos h0];exact s_e []
  have p:(sgZ y.1.num==(0:Int))=false:=by
   rw[beq_eq_false_iff_ne];exact fun e=>h0 (sgZ_num_eq.1 e)
  refine ae (s_r 11 ?_);refine d_6 ?_;refine aF rfl rfl rfl (.index_a rfl rfl (by omega) c rfl te_87.h) rfl rfl ?_;refine aF rfl rfl rfl (.load_a rfl c TG.h TS.h (nle rfl)) rfl rfl ?_;refine c_s (zf y) ?_;refine aF rfl rfl rfl (.bin rfl rfl (vF cv (p))) rfl rfl ?_;refine a_z ?_;refine cF (ay ⟨n+1,⟨l,?_⟩,?_⟩);rw[ht,hs,if_neg h0];simp only[rtmS.eq_1];exact s_e []
 rintro n ⟨l,ht⟩;simp only[rtmS.eq_1];have j:(aq v).length=n:=by rw[ht];simp;omega
 have a:uZ x=x.take n:=by unfold uZ;rw[←hv,j]
 cases n with
 |zero=>
  refine s_r 5 ?_;refine a_2 ?_;refine o_0 (.sa_h rfl rfl (h:=0) rfl (by simp) te_87.h (wV _)) ?_;refine o_0 (.append0 rfl rfl rfl te_87.h rfl rfl rfl (.arr (es:=[]) (by simp))) ?_;refine a_z ?_;refine ai ?_;rw[a];exact Fin.tmpN rfl
 |succ n=>
  obtain⟨X,i⟩:∃X,X=x.take (n+1):=⟨_,rfl⟩;have d:X.length=n+1:=by rw[i];simp;omega
  have g:rE X≠[]:=fun e=>by have:=congrArg List.length e;simp[d] at this
  have b:(rE x).take (n+1)=rE X:=by rw[rE_take,i]
  have k:(rE x).take (n+1)≠[]:=by rw[b];exact g
  refine s_r 5 ?_;refine a_2 ?_;refine o_0 (.sa_h rfl rfl (h:=n+1) rfl (by simp;omega) te_87.h (wV _)) ?_;refine o_1 (.append_e rfl rfl rfl te_87.h rfl rfl rfl (.arr (by rw[b];exact wV _)) (by first|assumption|(simp;done)) TZ.h rfl TB.h d_o (by first|(simp[maxLen];done)|(simp[maxLen];omega))) ?_;refine a_z ?_;refine ai ?_;rw[a,←i,←b];exact Fin.tmpS rfl rfl rfl rfl (by rw[b];exact jc _)
def rP(v:List Rat):List RQ:=v.map rq
theorem okX_rP(v:List Rat):okX (rP v):=fun y a=>by obtain⟨q,_,rfl⟩:=List.mem_map.1 a;exact tg q
theorem sE(v:List Rat):vR (rP v)=v:=by
 unfold vR rP;rw[List.map_map];exact List.map_id' v
@[simp] theorem qf (v:List Rat):(rP v).length=v.length:=by simp[rP]
@[simp] theorem oj (x:List RQ):(uZ x).length=(aq (vR x)).length:=by rw[←vR_trim,mN]
theorem ij(x:List RQ)(hl:x.length≤1000000):FS 82 [.arr (rE x)] (i64 (bv (vR x))):=by
 have a:=bU (vR x);rw[mN,←oj] at a;refine f_c Tryz.func82 ?_;refine r_z 1 ?_;refine r_c 5 (Gr x (by omega)) ?_;refine a_z ?_;exact ai (aU rfl (by rw[oj];rfl) (ag _))


def dSt(d:List Rat)(s:List Rat×List RQ):List Rat×List RQ:=
 (fa s.1 (shP ((vR s.2).length- d.length) [aR (vR s.2) / aR d]),rP (dC (vR s.2) (aT d (shP ((vR s.2).length- d.length) [aR (vR s.2) / aR d]))))
structure DInv (p d:List Rat)(t L:Nat)(s:List Rat×List RQ):Prop where
 ok:okX s.2
 tr:aq (vR s.2)=vR s.2
 bd:∃b,1≤b∧bdL (vR s.2) b∧bdL s.1 b∧(b+2* t+3) * 2^ s.2.length≤L
 ln:s.2.length≤p.length
 lq:s.1.length≤p.length
 ev:∀x,au p x=au s.1 x* au d x+au (vR s.2) x
theorem DInv.step{p d:List Rat}{t L:Nat}{s:List Rat×List RQ}(h:DInv p d t L s)(hd:aq d=d)(hd0:d≠[])(hdt:bdL d t)(ht:1≤t)(hl:d.length≤s.2.length):DInv p d t L (dSt d s)∧(dSt d s).2.length< s.2.length:=by
 obtain⟨q,X⟩:=s;obtain⟨ok,tr,⟨b,b1,f,k,hb⟩,ln,lq,ev⟩:=h;simp only at *
 have g:=List.length_pos_iff.2 hd0;have c:=Fg tr hd hd0 (by rw[mN];exact hl);obtain⟨s1,s2,e⟩:=step_bd f hdt b1 ht hd0 ((vR X).length- d.length);obtain⟨a,ha⟩:∃a,a=aR (vR X) / aR d:=⟨_,rfl⟩;unfold dSt;simp only;rw[mN] at c s2 e⊢;rw[←ha] at c s1 s2 e⊢;refine⟨⟨okX_rP _,?_,⟨2* b+2* t+3,by omega,?_,?_,?_⟩,?_,?_,?_⟩,?_⟩;rw[sE];exact DU _ _;rw[sE];exact e;have h1:bdL [a] (b+t):=fun x i=>by rw[List.mem_singleton.1 i];exact s1
 exact uF (Aj k (bdL_sh h1 (by omega) _) b1 (by omega)) (by omega);simp only[qf];obtain⟨n,j⟩:∃n,X.length=n+1:=⟨X.length- 1,by omega⟩;have h1:2^ (dC (vR X) (aT d (shP (X.length- d.length) [a]))).length≤2^ n:=Nat.pow_le_pow_right (by decide) (by omega);have m:=Nat.mul_le_mul_left (2* b+2* t+3+2* t+3) h1
 have l:(b+2* t+3) * 2^ X.length=(2* b+2* t+3+2* t+3) * 2^ n:=by
  rw[j,Nat.pow_succ,show 2* b+2* t+3+2* t+3=(b+2* t+3) * 2 by omega,Nat.mul_assoc,Nat.mul_comm 2 (2^ n)]
 omega;simp only[qf];omega;have h1:=gR q (shP (X.length- d.length) [a]);rw[nM] at h1;simp at h1⊢;omega;intro x;rw[sE,jb,fE,io,ev x];grind;simp only[qf];exact c






end Go.Proofs.YtkhclghbcicapaaGreatDoor
namespace Go.Proofs.YtkhclghbcicapaaGreatDoor
open Go.Abs Go.Deep Go.RowKit
set_option maxRecDepth 20000
theorem BV{M:Nat→Prop}{β:Nat→Option (Nat×Nat)}{w:World}{b s off:Nat}{f:Nat→List AV}:∀(n j:Nat),(∀i,i< j+n→(f i).length=s∧RVcs M β w b (f i) (off+i* s))→RVess M β w b s ((List.range' j n).map f) (off+j* s)
 |0,_,_=>trivial
 |n+1,j,h=>by
  rw[List.range'_succ,List.map_cons];refine⟨(h j (by omega)).1,(h j (by omega)).2,?_⟩;have:=BV (M:=M) (β:=β) (w:=w) (b:=b) (s:=s) (off:=off) n (j+1) (fun i a=>h i (by omega));rwa[Nat.add_mul,Nat.one_mul,←Nat.add_assoc] at this
theorem ot{w:World}{b o:Nat}{v:Value}(h:w.cell? ⟨b,o,none⟩=some v):∃N,aN w b=some N:=by
 unfold World.cell? at h;unfold aN;split at h
 ·rename_i c _ _ e;rw[show w.heap[b]?=_ from e];exact⟨c.size,rfl⟩
 cases h
theorem tyS:(Tryz.prog).underlying 25=some (.slice 24):=by kernel_rfl
theorem tyN:∃f0 f1 f2,(Tryz.prog).underlying 24=some (.struct #[f0,f1,f2])∧f0.type=2∧f0.offset=0∧f1.type=2∧f1.offset=1∧f2.type=5∧f2.offset=2:=
 ⟨{name:= "N",type:=2,offset:=0,embedded:=false,tag:= "",pkgPath:= "",byteOffset:=0},{name:= "D",type:=2,offset:=1,embedded:=false,tag:= "",pkgPath:= "",byteOffset:=8},{name:= "Pow",type:=5,offset:=2,embedded:=false,tag:= "",pkgPath:= "",byteOffset:=16},by kernel_rfl,rfl,rfl,rfl,rfl,rfl,rfl⟩
theorem Cu:(Tryz.prog).cellsOf 24=3:=by kernel_rfl
theorem tyc2:(Tryz.prog).cellsOf 2=1:=by kernel_rfl
theorem tyc5:(Tryz.prog).cellsOf 5=1:=by kernel_rfl
theorem tyu2:(Tryz.prog).underlying 2=some (.int .i64):=by kernel_rfl
theorem tyu5:(Tryz.prog).underlying 5=some (.int .u8):=by kernel_rfl
theorem xa{H:Type}{enc:TypeId×Value→H}{W:World}{base n:Nat}{spare:Nat→Bool}{held:Bool}{cs:List Value}{x:DataW H×List MemPlace}(h:DataW.trod enc Tryz.prog W base spare held n 24 cs=some x):
    ∃r:eM,kg r.1∧kg r.2.1∧r.2.2≤255∧cs=[.int .i64 r.1,.int .i64 r.2.1,.int .u8 r.2.2]:=by
 obtain⟨y,z,t,f,h1,q,j,i,s,o⟩:=tyN;obtain⟨u,w,v,m,_,hl,c,b,d⟩:=trod_struct3 f h;rw[h1,q,tyc2] at c;rw[j,i,tyc2] at b;rw[s,o,tyc5] at d;rw[Cu] at hl;obtain⟨e,e0,_,g⟩:=DataW.trod_int tyu2 c;obtain⟨k,e1,_,l⟩:=DataW.trod_int tyu2 b;obtain⟨a,e2,_,p⟩:=DataW.trod_int tyu5 d
 match cs,hl with
 |[c0,c1,c2],_=>
  simp at e0 e1 e2;subst e0;subst e1;subst e2;have b2:=bounds_u8 p;refine⟨(e,k,a.toNat),bounds_i64 g,bounds_i64 l,?_,?_⟩;show a.toNat≤255;omega;show _=[_,_,Value.int .u8 ((a.toNat:Nat):Int)];rw[Int.toNat_of_nonneg b2.1]
theorem rM{H:Type}{enc:TypeId×Value→H}{W:World}{a:Option Addr}{len cap:Nat}{d:DataW H}{ps:List MemPlace}(h:DataW.Trod enc Tryz.prog W 0 (fun _=>true) true 25 (.slice a len cap) d ps):
    ∃l:List eM,okR l∧RV (fun _=>False) (fun _=>none) W (.arr (nR l)) (.slice a len cap):=by
 obtain⟨K,hf⟩:=h;rcases open_slice tyS hf with⟨o,_⟩|⟨x,J,F,m,n,D,X,o,_,hl,S,u,_,A⟩
 simp[Value.cells] at o;obtain⟨rfl,rfl,rfl⟩:=o;exact⟨[],(fun r E=>by cases E),none,0,rfl,Nat.le_refl _,by decide,.inl rfl⟩;simp[Value.cells] at o;obtain⟨rfl,rfl,rfl⟩:=o;simp only[if_true] at u;have B:m=cap:=u;rw[B] at A;rw[Cu] at A
 have z:∀i,i< len→∃r:eM,(kg r.1∧kg r.2.1∧r.2.2≤255)∧W.cells? 0 (x.add (i* 3)) 3=some [.int .i64 r.1,.int .i64 r.2.1,.int .u8 r.2.2]:=fun i t=>by
  obtain⟨N,Q,T⟩:=A i (by omega);obtain⟨r,V,L,O,e⟩:=xa T;exact⟨r,⟨V,L,O⟩,by rw[Q,e]⟩
 obtain⟨R,G⟩:=choose_lt (α:=eM) z;refine⟨(List.range len).map R,?_,some x,cap,by simp[nR],by simpa[nR] using hl,S,?_⟩;intro r E;obtain⟨i,t,rfl⟩:=List.mem_map.1 E;exact(G i (List.mem_range.1 t)).1;by_cases h0:len=0;subst h0;exact .inl rfl;right
 have c:∀i,i< len→∀j (v:Value),[.int .i64 (R i).1,.int .i64 (R i).2.1,.int .u8 (R i).2.2][j]?=some v→W.cell? (x.add (i* 3+j))=some v:=fun i t j v hv=>by
  have U:j< 3:=by
   have:=(List.getElem?_eq_some_iff.1 hv).1;simpa using this
  have:=(World.cells?_some (G i t).2).2.2 j U;rw[hv,Go.Deep.add_add] at this;exact this
 have C:=c 0 (by omega) 0 _ rfl;obtain⟨b,off,y⟩:=x;have q:y=none:=by simpa[Addr.add] using World.cell?_spot C
 subst q
 have g:∀k,Addr.add ⟨b,off,none⟩ k=⟨b,off+k,none⟩:=fun k=>by
  unfold Addr.add;by_cases hk:k=0;simp[hk];simp[hk]
 refine⟨b,off,3,rfl,ot (by rw[g] at C;exact C),(fun h=>h),?_⟩;have:=BV (M:=fun _=>False) (β:=fun _=>none) (w:=W) (b:=b) (s:=3) (off:=off) (f:=fun i=>nuC (R i).1 (R i).2.1 (R i).2.2) len 0 (fun i t=>⟨rfl,?_⟩);rw[Nat.zero_mul,Nat.add_zero,←List.range_eq_range'] at this;rw[nR,List.map_map];exact this;have p:i< len:=by omega
 refine⟨⟨_,?_,rfl⟩,⟨_,?_,rfl⟩,⟨_,?_,rfl⟩,trivial⟩;have:=c i p 0 _ rfl;rw[g] at this;exact this;have:=c i p 1 _ rfl;rw[g] at this;rw[Nat.add_assoc];exact this;have:=c i p 2 _ rfl;rw[g] at this;rw[Nat.add_assoc,Nat.add_assoc];exact this
end Go.Proofs.YtkhclghbcicapaaGreatDoor
namespace Go.Proofs.YtkhclghbcicapaaGreatDoor
open Go.Abs
set_option maxRecDepth 100000
set_option maxHeartbeats 2000000
theorem mxL_le{p:List Rat}{s:Nat}(h:bdL p s)(hs:1≤s):mxL p≤s:=by
 unfold mxL
 induction p with
 |nil=>exact hs
 |cons a l b=>
  have h1:=h a (List.mem_cons_self ..);have d:=b fun q c=>h q (List.mem_cons_of_mem _ c);rw[List.foldr_cons];omega
def pkR(p:List Rat×List Rat):List AV:=[.arr (rE (rP p.1)),.arr (rE (rP p.2))]
def keR(k:Ke):List (List AV):=k.map pkR
@[simp] theorem nU (k:Ke):(keR k).length=k.length:=by simp[keR]
theorem jz(k:Ke):∀x∈keR k,∀c∈x,Closed c:=fun x a=>by
 obtain⟨p,_,rfl⟩:=List.mem_map.1 a;exact ac (eS _) (ac (eS _) af)
theorem fw(k:Ke):Closed (.arr (keR k)):=aG (jz k)
theorem keR_get{k:Ke}{i:Nat}{p:List Rat×List Rat}(h:k[i]?=some p):∀e,e=i→(keR k)[e]?=some (pkR p):=fun e a=>by
 rw[a,keR,List.getElem?_map,h];rfl

def okL(n:Nat)(p last:List Rat):Prop:=ef (aZ [0,1] ((2* (n:Int)+1:Int):Rat)) p∧smL last∧smL (aZ last ((n:Int):Rat))∧smL (dC (aT (aZ [0,1] ((2* (n:Int)+1:Int):Rat)) p) (aZ last ((n:Int):Rat)))∧(aT (aZ [0,1] ((2* (n:Int)+1:Int):Rat)) p).length≤1000∧last.length≤1000∧n≤1000
instance (n:Nat) (p last:List Rat):Decidable (okL n p last):=inferInstanceAs (Decidable (_∧_∧_∧_∧_∧_∧_))
def okH(n:Nat)(p last:List Rat):Prop:=ef twP p∧smL last∧smL (aZ last ((2* (n:Int):Int):Rat))∧(aT twP p).length≤1000∧last.length≤1000∧n≤1000
instance (n:Nat) (p last:List Rat):Decidable (okH n p last):=inferInstanceAs (Decidable (_∧_∧_∧_∧_∧_))

def okC(_:Nat)(p last:List Rat):Prop:=ef twP p∧smL last∧(aT twP p).length≤1000∧last.length≤1000
instance (n:Nat) (p last:List Rat):Decidable (okC n p last):=inferInstanceAs (Decidable (_∧_∧_∧_))






















section
variable {a b:Rat}(h:a< b){k:Nat}(hk:1≤k∧k≤4)(ha:qs a≤20)(hb:qs b≤20)
include h hk ha hb
end
section
variable {a b a' b':Rat}(h:a< b)(h':a'< b'){k:Nat}(hk:1≤k∧k≤4)(ha:qs a≤20)(hb:qs b≤20)(ha':qs a'≤20)(hb':qs b'≤20)
include h h' hk ha hb ha' hb'
end


end Go.Proofs.YtkhclghbcicapaaGreatDoor
namespace Go.Proofs.YtkhclghbcicapaaGreatDoor
open Go.Abs Go.Deep Go.RowKit Go.WideShapes
set_option maxRecDepth 20000
def okN(r:eM):Prop:=kg r.1∧kg r.2.1∧r.2.2≤255
theorem numP_of{H:Type}{enc:TypeId×Value→H}{W:World}{base:Nat}{v:Value}{d:DataW H}{ps:List MemPlace}(hv:Value.okWide Tryz.prog W .any base 24 v)(h:DataW.Trod enc Tryz.prog W 0 (fun _=>true) true 24 v d ps):
    ∃r:eM,okN r∧RV (fun _=>False) (fun _=>none) W (.agg (nuC r.1 r.2.1 r.2.2)) v:=by
 obtain⟨k,l,j,b,_⟩:=tyN
 obtain⟨cs,rfl,_⟩:∃cs,v= .agg cs∧True:=by
  unfold Value.okWide at hv;rw[b] at hv;obtain⟨cs,h1,_⟩:=hv;exact⟨cs,h1,trivial⟩
 obtain⟨a,hf⟩:=h;obtain⟨r,f,c,g,e⟩:=xa hf;refine⟨r,⟨f,c,g⟩,cs,rfl,?_⟩;have i:cs.toList=[.int .i64 r.1,.int .i64 r.2.1,.int .u8 r.2.2]:=by simpa[Value.cells] using e
 rw[i];exact⟨_,_,rfl,rfl,_,_,rfl,rfl,_,_,rfl,rfl,rfl⟩
end Go.Proofs.YtkhclghbcicapaaGreatDoor
namespace Go.Proofs.YtkhclghbcicapaaGreatDoor
open Go.Abs
set_option maxRecDepth 20000
def lV(r:eM):Bool:=decide (¬((r.2.2:Int) % 4≠0)∧¬r.1> 999999∧¬r.1< -999999∧¬r.2.1> 999999∧¬r.2.1< -999999)
def fc(l:List eM)(k:Nat):Bool:=l.all lV && decide (l.length≤k)
theorem po(l:List eM)(k:Nat)(hl:l.length≤9223372036854775807)(hk:k≤1000000):FS 6 [.arr (nR l),i64 k] (bln (fc l k)):=by
 have i:(nR l).length=l.length:=by simp[nR]
 refine f_n Tryz.func6 ?_ ?_;exact ac (aG (ce l)) (ac (ag _) af);refine r_z 1 ?_;refine ae (r_z 1 ?_);refine aH (fun _:Unit=>⟨[(0,.arr (nR l)),(1,i64 k)],[],1,45⟩) (fun _=>l.all lV=true) ?_ ?_;refine aj (aB (fun j:Nat=>⟨[(5,i64 ((j:Nat):Int)),(0,.arr (nR l)),(1,i64 k)],[],1,45⟩) (fun j=>l.length- j) (fun j=>j≤l.length∧(l.take j).all lV=true) 0 ⟨Nat.zero_le _,rfl⟩ ?_ ?_);have:=(aG (ce l));exact s_f [];rintro j ⟨n,hg⟩;by_cases hlt:j< l.length;obtain⟨r,m⟩:∃r,l[j]?=some r:=⟨_,List.getElem?_eq_getElem hlt⟩
 have f:(nR l)[((j:Nat):Int).toNat]?=some (nuC r.1 r.2.1 r.2.2):=by
  rw[Int.toNat_natCast,nR,List.getElem?_map,m];rfl
 have b:lV r=false→fc l k=false:=fun h=>by
  unfold fc;rw[Bool.and_eq_false_iff];exact .inl (List.all_eq_false.2 ⟨r,List.mem_of_getElem? m,by rw[h];decide⟩)
 refine ae (q_z 4 ?_);refine cT (am (ae (aj (s_r 6 ?_))));refine a_2 ?_;refine i_x f ?_;refine l_x f ?_;refine a_z ?_;by_cases c0:((r.2.2:Int) % 4≠0);have a:lV r=false:=decide_eq_false (by rintro⟨e0,e1,e2,c,d⟩;exact e0 c0);rw[b a];refine s_r 24 ?_;refine a_3 ?_;refine o_0 (.bin rfl rfl (vT cb ((by simpa using c0)))) ?_;refine a_z ?_;refine cT (r_z 1 ?_);exact ai (t_e (ag _));by_cases c1:r.1> 999999;have a:lV r=false:=decide_eq_false (by rintro⟨e0,e1,e2,c,d⟩;exact e1 c1);rw[b a];refine s_r 24 ?_;refine a_3 ?_;refine o_0 (.bin rfl rfl (vF cb ((by simpa using c0)))) ?_;refine d_z ?_;refine cT (r_z 1 ?_);exact ai (t_e (ag _));by_cases c2:r.1< -999999;have a:lV r=false:=decide_eq_false (by rintro⟨e0,e1,e2,c,d⟩;exact e2 c2);rw[b a];refine s_r 24 ?_;refine a_3 ?_;refine o_0 (.bin rfl rfl (vF cb ((by simpa using c0)))) ?_;refine d_z ?_;refine cT (r_z 1 ?_);exact ai (t_e (ag _));by_cases c3:r.2.1> 999999;have a:lV r=false:=decide_eq_false (by rintro⟨e0,e1,e2,c,d⟩;exact c c3);rw[b a];refine s_r 24 ?_;refine a_3 ?_;refine o_0 (.bin rfl rfl (vF cb ((by simpa using c0)))) ?_;refine d_z ?_;refine cT (r_z 1 ?_);exact ai (t_e (ag _));by_cases c4:r.2.1< -999999;have a:lV r=false:=decide_eq_false (by rintro⟨e0,e1,e2,c,d⟩;exact d c4);rw[b a];refine s_r 24 ?_;refine a_3 ?_;refine o_0 (.bin rfl rfl (vF cb ((by simpa using c0)))) ?_;refine d_z ?_;refine cT (r_z 1 ?_);exact ai (t_e (ag _));have a:lV r=true:=decide_eq_true ⟨c0,c1,c2,c3,c4⟩;refine s_r 24 ?_;refine a_3 ?_
 refine o_0 (.bin rfl rfl (vF cb ((by simpa using c0)))) ?_;refine d_z ?_;refine cF (am (r_m 3 ?_));refine a_z ?_;refine⟨j+1,by omega,⟨hlt,?_⟩,?_⟩;rw[cw m,List.all_append,hg];simp[a];have:=(aG (ce l));exact s_f [];have g:l.take j=l:=List.take_of_length_le (by omega);rw[g] at hg;refine ae (q_z 4 ?_);refine cF (ay ⟨(),hg,?_⟩);have:=(aG (ce l));exact s_f [];rintro _ hg
 have e:fc l k=decide ((((nR l).length:Nat):Int)≤(k:Int)):=by
  unfold fc;rw[hg,Bool.true_and,i];exact decide_eq_decide.2 (by omega)
 rw[e];refine r_z 5 ?_;exact ai (t_e (ag _))
theorem good_qs{r:eM}(h:lV r=true)(hb:kg r.1)(hd:kg r.2.1):qs (oV r.1 r.2.1 r.2.2)≤20:=by
 obtain⟨g,h1,f,e,i⟩:=of_decide_eq_true h;have hp:r.2.2 % 4=0:=by omega
 have hN:bl r.1.natAbs≤20:=gP (by omega);unfold oV;rw[hp];show qs (Rat.divInt r.1 (uR r.2.1))≤20;obtain⟨d,a⟩:∃d,d=uR r.2.1:=⟨_,rfl⟩;have c:d≠0:=by rw[a];unfold uR;split <;> omega
 have b:bl d.natAbs≤20:=by rw[a];unfold uR;split <;> exact gP (by omega)
 rw[←a];by_cases hn:d< 0;rw[n8 _ d hn];exact fh (by omega) (by rw[Int.natAbs_neg];exact hN) (by omega);rw[n7 _ d (by omega)];exact fh (by omega) hN (by omega)
theorem om{l:List eM}{k:Nat}(h:fc l k=true)(ho:okR l):bdL (nL l) 20∧(nL l).length≤k:=by
 unfold fc at h;rw[Bool.and_eq_true,List.all_eq_true] at h;refine⟨fun q b=>?_,by simpa[nL] using h.2⟩;obtain⟨r,a,rfl⟩:=List.mem_map.1 b;exact good_qs (h.1 r a) (ho r a).1 (ho r a).2.1
theorem xy(N D N' D':Int)(k k':Nat)(hN:kg N)(hD:kg D)(hk:k≤255)(hN':kg N')(hD':kg D')(hk':k'≤255):
    FS 30 [.agg (nuC N D k++nuC N' D' k')] (.tup [.agg (spC (oV N D k) (oV N' D' k')),.agg (rC (rq (oV N D k))++rC (rq (oV N' D' k')))]):=by
 have b1:=pt N D k hN hD hk;have b2:=pt N' D' k' hN' hD' hk';obtain⟨v,hv⟩:∃v,v=oV N D k:=⟨_,rfl⟩;obtain⟨w,a⟩:∃w,w=oV N' D' k':=⟨_,rfl⟩;rw[←hv] at b1⊢;rw[←a] at b2⊢;refine f_n Tryz.func30 ?_ ?_;exact ac (aA fun c hc=>(List.mem_append.1 hc).elim (iu _ _ _ c) (iu _ _ _ c)) af;refine r_z 3 ?_;refine r_c 10 (b1) ?_;refine a_z ?_;refine r_c 10 (b2) ?_;refine a_z ?_;refine ae (r_d aY 8 ?_);refine a_8 ?_;refine ao (n_k ?_);refine ai (Fin.many ⟨_,_,rfl,⟨_,_,_,_,_,rfl,rfl,rfl,.inl ⟨TG.h,_,TS.h,nle rfl,rfl⟩⟩,⟨_,_,rfl,⟨_,_,_,_,_,rfl,rfl,rfl,.inl ⟨TG.h,_,TS.h,nle rfl,rfl⟩⟩,rfl⟩⟩ (nle rfl) ?_);exact ah (ak aD (bG _ _)) (ah (ak aD (aA fun c hc=>(List.mem_append.1 hc).elim (fL _ c) (fL _ c))) av)
structure CG (f N h Q:Nat)(p:List Rat)(c:Cnt):Prop where
 hc:iX f p=some c
 np:nz p
 ok:∀x,qs x≤Q→rD c x∧oQ c x
 len:c.p.length≤N
 bd:bdL c.p (h+12* N+8)
 ht:Ht c.p (h+12* N+8)
def jB(N h g r J:Nat):Bool:=(List.range (N+1)).all fun m=>(List.range (m+1)).all fun n=>decide (sF (n+1) m n h g (r+1)+(max h g+(r+1+2) * m)+1≤J) && decide (sF (n+1) m n g h (r+1)+(max h g+(r+1+2) * m)+1≤J)
structure RC (f N h Q r J:Nat)(p:List Rat)(c:Cnt)(i:Int)(A B:Rat):Prop where
 H:CG f N h Q p c
 h1:1≤h
 hN:N≤12
 hJ:jB N (h+12* N+8) (h+12* N+13) r J=true
 at_:At c i A B
 hA:ab A≤p2 r
 hB:ab B≤p2 r
 i0:0≤i
 ia:i< allV c
 hQ:r+J+4≤Q
 hb:2* (h+12* N+8)+10≤Q
 hb2:h≤10000000
 hf:2* (h+12* N+8)+6≤f
section
variable {f N h Q r J g:Nat}{p:List Rat}{c:Cnt}{i:Int}{A B:Rat}(R:RC f N h Q r J p c i A B)
include R
end
section
variable {f N h Q r J g M hq X Xd Td J2:Nat}{p:List Rat}{c:Cnt}{i:Int}{A B:Rat}(R:RC f N h Q r J p c i A B)
include R
end
structure SB (f N h Q r g hq J2:Nat):Prop where
 hq1:1≤hq
 gcd:∃X,X≤137438953472∧((List.range (N+1)).all fun m=>(List.range (N+1)).all fun n=>hG f m n (h+12* N+8) hq X)=true
 cd:∃X T,cH f N (h+24* N+16) X T Q=true
 cq:∃X T,cH f N hq X T Q=true
 hJ2:jB N (h+24* N+16) hq r J2=true
 hg:J2< g
 hQ2:r+J2+4≤Q
 ev:24* (hq+Q+1)+hq+Q+2≤137438953472
end Go.Proofs.YtkhclghbcicapaaGreatDoor
