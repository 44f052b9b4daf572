/- Part V26 of the proof. -/
import Derived.Test.YtdgbhlkabelmbaaGreatDoorV25
import Derived.ProofKit
import Derived.OpenShut
import Derived.Carry
import Derived.Deep.Slices
import Derived.Deep.Strs
set_option linter.all false
namespace Go.Proofs.YtdgbhlkabelmbaaGreatDoor
open Go.Abs
set_option maxRecDepth 100000
set_option maxHeartbeats 2000000
def FJ(c:Cnt)(q:List Rat)(step:Rat)(s:Sp):Option Bool:=if xy q s∧smS (ii q s)∧sm ((ii q s).2- (ii q s).1)∧sm step∧lY c s then some (decide (fy ((ii q s).2- (ii q s).1) step< 0)) else none
def valR(f g:Nat)(c:Cnt)(i:Int)(q:List Rat)(k:Int)(v:Sp):Option Sp:=
 if sm (jN v.2 (wi k 256))∧smS v∧sm (gf (wi k 256))∧smL q∧q.length≤274877906944 then
  if fy (jN v.2 (wi k 256)) v.1< 0 then some (jN v.2 (wi k 256),jN v.2 (wi k 256)+gf (wi k 256))
  else(F9 f g c i (cK q (ed (jN v.2 (wi k 256))))).bind fun sg=>
   some (if sg=0 then(jN v.2 (wi k 256),jN v.2 (wi k 256)) else if sg=1 then(jN v.2 (wi k 256),jN v.2 (wi k 256)+gf (wi k 256)) else(jN v.2 (wi k 256)- gf (wi k 256),jN v.2 (wi k 256)))
 else none
def Bg(f g:Nat)(c:Cnt)(i:Int)(q:List Rat)(k:Int):Option Sp:=
 (tn f c i 0).bind fun s0=>(nY (fun j=>FJ c q (gf (wi k 256)) (cD c i s0 j)) g 0).bind fun j=>valR f g c i q k (ii q (cD c i s0 j))
abbrev bI(k:Int):AV:= .aptr [[i64 k]] 0 0
theorem jq(k:Int):Closed (bI k):=ba (ac (ag _) af)
def vaS(c:Cnt)(i:Int)(q:List Rat)(k:Int)(step:Rat):Nat→AState
 |j=>⟨[(3,bPl c i),(4,bP q),(5,bI k),(6,.lptr 1 0 0),(7,bQ step),(14,.clos 230 [] [bPl c i])],[(1,some ⟨42,6,[zC++zC]⟩)],2,61⟩
def vaX(r:Sp):Unit→AState
 |u=>⟨[(6,.lptr 1 0 0)],[(1,some ⟨42,6,[spC r.1 r.2]⟩)],2,61⟩
theorem Hh(f g:Nat)(c:Cnt)(i:Int)(q:List Rat)(k:Int)(r:Sp)(h:Bg f g c i q k=some r)(hf:f≤1000000):FS 150 [plA c i,.arr (pE q),i64 k] (.agg (spC r.1 r.2)):=by
 unfold Bg at h;obtain⟨p,O,h2⟩:=Option.bind_eq_some_iff.1 h;obtain⟨y,R,a⟩:=Option.bind_eq_some_iff.1 h2;obtain⟨t1,_,t2⟩:=j6 R;obtain⟨step,z⟩:∃step,step=gf (wi k 256):=⟨_,rfl⟩;rw[←z] at t1 t2
 have G:∀j,j≤y→xy q (cD c i p j)∧smS (ii q (cD c i p j))∧sm ((ii q (cD c i p j)).2- (ii q (cD c i p j)).1)∧sm step∧lY c (cD c i p j):=fun j C=>by
  have:∃b,FJ c q step (cD c i p j)=some b:=by
   by_cases e:j=y;rw[e];exact⟨_,t1⟩;exact⟨_,t2 j (Nat.zero_le _) (by omega)⟩
  obtain⟨b,hb⟩:=this;unfold FJ at hb;split at hb;assumption;cases hb
 have T:=qJ f c i p y O (fun j C=>(G j (by omega)).2.2.2.2);have J:=pN k;rw[←z] at J;refine f_n Tryz.func150 ?_ ?_;exact ac (di c i) (ac (ax q) (ac (ag _) af));refine r_z 4 ?_;refine r_c 4 (J) ?_;refine a_z ?_;refine AWp.ent (st':=⟨[(3,bPl c i),(4,bP q),(5,bI k),(6,.lptr 1 0 0),(7,bQ step)],[(1,some ⟨42,6,[zC++zC]⟩)],2,61⟩) ?_ ?_;have:=(ac (di c i) af);exact s_f [(1,6)];refine ae (r_c 2 (qQ c i) ?_);refine ao ?_;refine aG (vaX r) (fun _=>False) ?_ (fun _ h=>h.elim);refine aj (AWp.rangeFuncB (α:=Nat) (γ:=Unit) y (vaS c i q k step) (fun j=>j) (fun j=>j≤y) (vaX r) (fun e _=>e= .ret) 0 rfl T rfl rfl ?_ (fun _=>⟨rfl,rfl⟩) (fun _=>rfl) (Nat.zero_le _) rfl (fun _ h=>h) ?_ ?_ ?_ ?_ ?_);intro j xs D;cases D;rfl;rw[vaS.eq_1];have:=jq k;exact s_t [];exact ac (dy c i) af;intro l j xs C D;cases D;have M:=G j C;obtain⟨s,n⟩:∃s,s=cD c i p j:=⟨_,rfl⟩;rw[←n] at M⊢;obtain⟨Z,B,L,U,x5⟩:=M;obtain⟨v,hv⟩:∃v,v=ii q s:=⟨_,rfl⟩;have E:=fs_Over q s Z;rw[←hv] at E B L;show AWp _ _ _ _ ⟨[(15,.agg (spC s.1 s.2)),(3,bPl c i),(4,bP q),(5,bI k),(6,.lptr 1 0 0),(7,bQ step),(14,.clos 230 [] [bPl c i]),(1003,bPl c i),(1004,bP q),(1005,bI k),(1006,.lptr 1 0 0),(1007,bQ step),(1014,.clos 230 [] [bPl c i])],[(1,some ⟨42,6,[zC++zC]⟩)],2,61⟩;refine r_m 2 ?_;refine a_z ?_;refine aj (r_c 5 (E) ?_);refine a_z ?_;refine ae (ae (r_d a6 5 ?_));refine c_s (wr v.1 v.2 B.1 B.2) ?_;refine c_s (qP (v.2- v.1) step L U) ?_;refine a_1 ?_;refine ao (n_k ?_);refine ap rfl (fun W=>?_) (fun W=>?_)
 have S:¬fy (v.2- v.1) step< 0:=by
  have:0≤fy (v.2- v.1) step:=by simpa using W
  omega
 have Y:j< y:=by
  refine Nat.lt_of_le_of_ne C fun e=>?_;subst e;rw[←n] at t1;unfold FJ at t1;rw[←hv] at t1;rw[if_pos ⟨Z,B,L,U,x5⟩] at t1;simp[S] at t1
 refine ay (⟨j+1,⟨Y,rfl⟩,?_⟩);show SEntT _ ⟨[(1003,bPl c i),(1004,bP q),(1005,bI k),(1006,.lptr 1 0 0),(1007,bQ step),(1014,.clos 230 [] [bPl c i])],[(1,some ⟨42,6,[zC++zC]⟩)],2,61⟩;have:=jq k;exact s_t []
 ·have S:fy (v.2- v.1) step< 0:=by
   have:¬0≤fy (v.2- v.1) step:=by simpa using W
   omega
  have Y:j=y:=by
   refine Nat.le_antisymm C (Nat.le_of_not_lt fun Q=>?_);have d:=t2 j (Nat.zero_le _) Q;rw[←n] at d;unfold FJ at d;rw[←hv] at d;rw[if_pos ⟨Z,B,L,U,x5⟩] at d;simp[S] at d
  subst Y;rw[←n,←hv] at a;unfold valR at a;rw[←z] at a;obtain⟨m,hm⟩:∃m,m=jN v.2 (wi k 256):=⟨_,rfl⟩;rw[←hm] at a;split at a
  case isFalse=>cases a
  case isTrue hz=>
  obtain⟨F,z2,N,z4,z5⟩:=hz;have H:=D1 v.2 k B.2;rw[←hm] at H;refine ak (r_c 6 (H) ?_);refine a_z ?_;refine ae (r_c 5 (qP m v.1 F z2.1) ?_);refine a_z ?_;refine ap rfl (fun d=>?_) (fun d=>?_);have V:fy m v.1< 0:=by simpa using d
  rw[if_pos V] at a;cases a;refine ae (r_d a6 6 ?_);refine c_s (fh m step (sm2 F N)) ?_;refine a_2 ?_;refine ao (n_k ?_);refine ai (⟨rfl,(),rfl,?_⟩);show SEntT _ ⟨[(1006,.lptr 1 0 0)],[(1,some ⟨42,6,[spC (m,m+step).1 (m,m+step).2]⟩)],2,61⟩;have:=jq k;exact s_t [];have V:¬fy m v.1< 0:=by simpa using d
  rw[if_neg V] at a;obtain⟨sg,X,hR2⟩:=Option.bind_eq_some_iff.1 a;cases hR2;have hcl:=ow m;have K:smL (ed m):=lP fun x M=>by rw[List.mem_singleton.1 M];exact F
  refine ak (ae (ae (r_d a6 6 ?_)));refine c_s (rM m) ?_;refine c_s (xQ q (ed m) z4 K (by omega) (by omega)) ?_;refine c_s (fs_sign f g c i (cK q (ed m)) sg X hf) ?_;refine ao (n_k ?_);refine aj (r_z 2 ?_);refine ap rfl (fun w=>?_) (fun w=>?_);have o:sg=0:=by simpa using w
  refine r_c 3 (Ah m) ?_;refine a_z ?_;refine ai (⟨rfl,(),rfl,?_⟩);rw[if_pos o];show SEntT _ ⟨[(1006,.lptr 1 0 0)],[(1,some ⟨42,6,[spC (m,m).1 (m,m).2]⟩)],2,61⟩;have:=jq k;exact s_t [];have o:¬sg=0:=by simpa using w
  refine r_z 2 ?_;refine ap rfl (fun A=>?_) (fun A=>?_);have t:sg=1:=by simpa using A
  refine ae (r_d a6 6 ?_);refine c_s (fh m step (sm2 F N)) ?_;refine a_2 ?_;refine ao (n_k ?_);refine ai (⟨rfl,(),rfl,?_⟩);rw[if_neg o,if_pos t];show SEntT _ ⟨[(1006,.lptr 1 0 0)],[(1,some ⟨42,6,[spC (m,m+step).1 (m,m+step).2]⟩)],2,61⟩;have:=jq k;exact s_t [];have t:¬sg=1:=by simpa using A
  refine ak (ae (r_d a6 6 ?_));refine c_s (jL m step (sm2 F N)) ?_;refine a_3 ?_;refine ao (n_k ?_);refine ai (⟨rfl,(),rfl,?_⟩);rw[if_neg o,if_neg t];show SEntT _ ⟨[(1006,.lptr 1 0 0)],[(1,some ⟨42,6,[spC (m- step,m).1 (m- step,m).2]⟩)],2,61⟩;have:=jq k;exact s_t []
 intro j C D;cases D;rintro e u rfl;exact Fin.cell rfl rfl rfl TG.h TS.h (nle rfl) (am aD (bG _ _))
def uf(a b:Sp):Sp:=(BS [a.1,b.1],nO [a.2,b.2])
def jb(a:Rat)(k:Int):Sp:=(jN a (wi k 256),upQ a (wi k 256))
def rlM(f g:Nat)(c:Cnt)(p:List Rat)(k:Int)(up:Int):Nat→Int→Sp→Option Sp
 |0,_,_=>none
 |n+1,i,o=>if i< up then(Bg f g c i p k).bind fun v=>if smS o∧smS v then rlM f g c p k up n (i+1) (uf o v) else none else some o
def DE(p:List Rat)(s:Sp)(k:Int):Prop:=smS s∧ff p s.1∧ff p s.2∧smL p∧p.length≤274877906944∧fy s.1 s.2≤0∧bD p≤40∧smS (jb (au p s.1) k)∧smS (jb (au p s.2) k)
instance (p:List Rat) (s:Sp) (k:Int):Decidable (DE p s k):=inferInstanceAs (Decidable (_∧_∧_∧_∧_∧_∧_∧_∧_))
def xm(f g:Nat)(p:List Rat)(s:Sp)(k:Int):Option Sp:=
 if DE p s k then
  if bD (dZ p)< 0 then some (uf (jb (au p s.1) k) (jb (au p s.2) k))
  else(jh f (dZ p)).bind fun c=>if pg c s.1∧rW c s.2 then rlM f g c p k (e8 c s.2) g (dR c s.1) (uf (jb (au p s.1) k) (jb (au p s.2) k)) else none
 else none
def rgS(p:List Rat)(s:Sp)(k:Int)(c:Cnt):Int×Sp→AState
 |(i,o)=>⟨[(0,.arr (pE p)),(2,i64 k),(4,bS s),(6,.lptr 1 0 0),(8,.lptr 2 0 0),(10,kA c),(11,i64 i)],[(1,some ⟨42,6,[zC++zC]⟩),(2,some ⟨42,6,[spC o.1 o.2]⟩)],3,66⟩
theorem Ae(f g:Nat)(p:List Rat)(s:Sp)(k:Int)(r:Sp)(h:xm f g p s k=some r)(hf:f≤1000000):FS 104 [.arr (pE p),.agg (spC s.1 s.2),i64 k] (.tup [.agg (spC r.1 r.2),i64 0]):=by
 unfold xm at h;split at h
 case isFalse=>cases h
 case isTrue hk=>
 obtain⟨A,D,k3,K,L,F,M,B,E⟩:=hk;have J:=my p;obtain⟨w,z⟩:∃o,o=uf (jb (au p s.1) k) (jb (au p s.2) k):=⟨_,rfl⟩;have m:=Ac (jb (au p s.1) k).1 (jb (au p s.1) k).2 (jb (au p s.2) k).1 (jb (au p s.2) k).2 B.1 B.2 E.1 E.2;rw[←z] at h;have b:FS 145 [.agg (spC (jb (au p s.1) k).1 (jb (au p s.1) k).2),.agg (spC (jb (au p s.2) k).1 (jb (au p s.2) k).2)] (.agg (spC w.1 w.2)):=by rw[z];exact m
 refine f_c Tryz.func104 ?_;refine r_z 3 ?_;refine bi (fun _:Unit=>⟨[(0,.arr (pE p)),(2,i64 k),(4,bS s),(6,.lptr 1 0 0)],[(1,some ⟨42,6,[zC++zC]⟩)],2,66⟩) (fun _=>True) ?_ ?_;refine aj (r_c 4 (mZ s.1 s.2 A.1 A.2) ?_);refine a_z ?_;refine ap rfl (fun h1=>?_) (fun h1=>?_);exact absurd h1 (by simp[F]);refine r_c 4 (dk p (by omega)) ?_;refine a_z ?_;refine ap rfl (fun C=>?_) (fun C=>?_);exact absurd C (by simp;omega);refine ak ⟨(),trivial,?_⟩;exact s_e [(1,6)];rintro _ _;refine ae (r_d a6 15 ?_);refine c_s (j5 p s.1 D) ?_;refine c_s (Af (au p s.1) k (uE D)) ?_;refine c_s (j5 p s.2 k3) ?_;refine c_s (Af (au p s.2) k (uE k3)) ?_;refine c_s (b) ?_;refine a_2 ?_;refine ao (n_k ?_);refine ae (r_c 3 (qS p K (by omega)) ?_);refine a_z ?_;refine r_c 3 (dk (dZ p) (by omega)) ?_;refine a_z ?_;refine aG (fun _:Unit=>⟨[(6,.lptr 1 0 0),(8,.lptr 2 0 0)],[(1,some ⟨42,6,[zC++zC]⟩),(2,some ⟨42,6,[spC r.1 r.2]⟩)],3,66⟩) (fun _=>True) ?_ ?_;refine ap rfl (fun e=>?_) (fun e=>?_)
 ·have q:¬bD (dZ p)< 0:=by
   have:0≤bD (dZ p):=by simpa using e
   omega
  rw[if_neg q] at h;obtain⟨c,hc,j⟩:=Option.bind_eq_some_iff.1 h;split at j
  case isFalse=>cases j
  case isTrue hb=>
  refine r_c 3 (qO f (dZ p) c hc hf) ?_;refine a_z ?_;refine r_c 5 (kO c s.1 hb.1) ?_;refine a_z ?_;have G:=oG (x:=s.2) hb.2.1;have H:=Fz (x:=s.1) hb.1.1.1;refine aj (aB (fun x:Nat×Int×Sp=>rgS p s k c x.2) (fun x=>x.1) (fun x=>rlM f g c p k (e8 c s.2) x.1 x.2.1 x.2.2=some r∧ -4611686018427387904≤x.2.1) (g,dR c s.1,w) ⟨j,by simp only;omega⟩ ?_ ?_);simp only[rgS.eq_1];exact s_e [(2,8)];rintro⟨n,i,o⟩ ⟨a,l⟩;simp only at a l;simp only[rgS.eq_1];cases n with
  |zero=>cases a
  |succ n=>
   rw[rlM] at a;refine ae (r_c 6 (mX c s.2 hb.2) ?_);refine a_z ?_;refine ap rfl (fun u=>?_) (fun u=>?_)
   ·have t:i< e8 c s.2:=by simpa using u
    rw[if_pos t] at a;obtain⟨v,hv,d⟩:=Option.bind_eq_some_iff.1 a;split at d
    case isFalse=>cases d
    case isTrue hsm=>
    have y:FS 145 [.agg (spC o.1 o.2),.agg (spC v.1 v.2)] (.agg (spC (uf o v).1 (uf o v).2)):=Ac o.1 o.2 v.1 v.2 hsm.1.1 hsm.1.2 hsm.2.1 hsm.2.2;refine ak (ae (aj (r_z 5 ?_)));refine AWp.ent (st':=⟨[(0,.arr (pE p)),(2,i64 k),(4,bS s),(6,.lptr 1 0 0),(8,.lptr 2 0 0),(10,kA c),(11,i64 i),(12,plA c i)],[(1,some ⟨42,6,[zC++zC]⟩),(2,some ⟨42,6,[spC o.1 o.2]⟩)],3,66⟩) ?_ ?_;refine s_x [] (fun hs=>?_) (fun hs=>?_)
    ·repeat' (first|exact aN|refine aA rfl ?_ ?_|exact Cv.boxp hs rfl (aM rfl) rfl (ac (gF c) (ac (ag _) af))|exact aV)
    ·repeat' (first|exact aE|refine h_c ?_ ?_|exact bC|refine az ?_|exact av|refine ah ?_ ?_|exact Cv.boxp hs rfl (aM rfl) rfl (ac (gF c) (ac (ag _) af))|exact aV)
    refine r_d a6 7 ?_;refine c_s (Hh f g c i p k v hv hf) ?_;refine c_s (y) ?_;refine a_1 ?_;refine ao (n_k ?_);refine r_m 3 ?_;refine a_z ?_;refine⟨(n,i+1,uf o v),Nat.lt_succ_self n,⟨d,by simp only;omega⟩,?_⟩;simp only[rgS.eq_1];exact s_e []
   have t:¬i< e8 c s.2:=by simpa using u
   rw[if_neg t] at a;cases a;refine ay ⟨(),trivial,?_⟩;exact s_e []
 have q:bD (dZ p)< 0:=by
  have:¬0≤bD (dZ p):=by simpa using e
  omega
 rw[if_pos q] at h;cases h;refine ak ⟨(),trivial,?_⟩;exact s_e [(2,8)];rintro _ _;refine r_z 3 ?_;refine ai (Fin.many ⟨_,_,rfl,⟨_,_,_,_,_,rfl,rfl,rfl,.inl ⟨TG.h,_,TS.h,nle rfl,rfl⟩⟩,⟨_,_,rfl,rfl,rfl⟩⟩ (nle rfl) ?_);exact ah (am aD (bG _ _)) (ah (am aD (ag _)) av)



def zE(l:List Int):List (List AV):=l.map fun n=>[i64 n]
theorem iC(l:List Int):∀e∈zE l,∀c∈e,Closed c:=by
 intro e a c hc;obtain⟨n,_,rfl⟩:=List.mem_map.1 a;rw[List.mem_singleton.1 hc];exact ag _
def zR(l:List Int):List Rat:=l.map fun(n:Int)=>(n:Rat)
def o9(q:Rat):Nat→Rat
 |0=>q
 |k+1=>o9 q k* q
theorem DA(q:Rat):∀k,qs (o9 q k)≤(k+1) * qs q
 |0=>by simp[o9]
 |k+1=>by
  have h1:=dK (o9 q k) q;have a:=DA q k;show qs (o9 q k* q)≤_;rw[Nat.add_mul (k+1),Nat.one_mul];omega
def vm(D:Int):Int:=if D=0 then 1 else D
def pk(N D:Int)(p:Nat):Rat:=o9 (Rat.divInt N (vm D)) (p % 4)
def nuC(N D:Int)(p:Nat):List AV:=[i64 N,i64 D,.v (.int .u8 p)]
def kL(n:Int):Prop:= -9223372036854775808≤n∧n≤9223372036854775807
theorem iF(N D:Int)(p:Nat):∀c∈nuC N D p,Closed c:=ac (ag _) (ac (ag _) (ac (ag _) af))
theorem H7(n d:Int):(n:Rat) / (d:Rat)=Rat.divInt n d:=(Rat.divInt_eq_div n d).symm
def boT(N:Int)(D:Int)(p:Nat)(q:Rat):Nat→AState
 |k=>⟨[(1,.lptr 1 0 0),(2,.lptr 2 0 0),(3,.lptr 3 0 0),(4,.lptr 4 0 0),(6,.lptr 5 0 0),(7,.lptr 6 0 0),(8,.lptr 7 0 0),(9,.v (.int .u8 k))],
  [(1,some ⟨24,3,[nuC N D p]⟩),(2,some ⟨36,3,[zC]⟩),(3,some ⟨74,4,[[i64 0,.emp,i64 0,.emp]]⟩),(4,some ⟨36,3,[qC q]⟩),(5,some ⟨74,4,[rC (rq q)]⟩),(6,some ⟨36,3,[qC (o9 q k)]⟩),(7,some ⟨74,4,[rC (rq (o9 q k))]⟩)],8,44⟩
theorem pQ(N D:Int)(p:Nat)(hN:kL N)(hD:kL D)(hp:p≤255):FS 17 [.agg (nuC N D p)] (.tup [.agg (qC (pk N D p)),.agg (rC (rq (pk N D p)))]):=by
 obtain⟨d,g⟩:∃d,d=vm D:=⟨_,rfl⟩;have e:d≠0:=by rw[g];unfold vm;split <;> omega
 have a:kL d:=by
  rw[g];unfold vm kL;unfold kL at hD;split <;> omega
 unfold kL at hN a;obtain⟨q,i⟩:∃q,q=Rat.divInt N d:=⟨_,rfl⟩;have c:=fs_Of N d hN a e;rw[H7,←i] at c;have b:=fs_rOf N d e hN a;rw[←i] at b;have o:pk N D p=o9 q (p % 4):=by unfold pk;rw[←g,←i]
 rw[o];refine f_n Tryz.func17 ?_ ?_;exact ac (aC (iF N D p)) af;refine r_z 3 ?_
 refine bi (fun _:Unit=>⟨[(1,.lptr 1 0 0),(2,.lptr 2 0 0),(3,.lptr 3 0 0)],
  [(1,some ⟨24,3,[nuC N d p]⟩),(2,some ⟨36,3,[zC]⟩),(3,some ⟨74,4,[[i64 0,.emp,i64 0,.emp]]⟩)],4,44⟩) (fun _=>True) ?_ ?_
 refine r_z 3 ?_;refine ap rfl (fun h1=>?_) (fun h1=>?_);have f:D=0:=by simpa using h1
 have l:d=1:=by rw[g];unfold vm;rw[if_pos f]
 refine r_m 2 ?_;refine a_z ?_;refine⟨(),trivial,?_⟩;rw[l];have:=iF N 1 p;exact s_f [];have f:¬D=0:=by simpa using h1
 have l:d=D:=by rw[g];unfold vm;rw[if_neg f]
 refine ak ⟨(),trivial,?_⟩;rw[l];have:=iF N D p;exact s_f [];rintro _ _;refine r_c 11 (c) ?_;refine a_z ?_;refine r_c 7 (b) ?_;refine a_z ?_;refine ae (r_d a6 6 ?_);refine a_6 ?_;refine ao (n_k ?_);refine ae (r_z 1 ?_)
 have m:qs q≤64:=by
  have hb:∀z:Int,-9223372036854775808≤z∧z≤9223372036854775808→bl z.natAbs≤64:=fun z h=>hZ (k:=64) (by omega);rw[i];by_cases hn:d< 0;rw[ov N d hn];exact fo (by omega) (hb (-N) (by omega)) (hb d (by omega));rw[ou N d (by omega)];exact fo (by omega) (hb N (by omega)) (hb d (by omega))
 have t:(p:Int) % 4=((p % 4:Nat):Int):=by omega
 refine aG (fun _:Unit=>boT N d p q (p % 4)) (fun _=>True) ?_ ?_;refine aj (aB (boT N d p q) (fun k=>p % 4- k) (fun k=>k≤p % 4) 0 (Nat.zero_le _) ?_ ?_);simp only[boT.eq_1,o9];exact s_f [(4,4),(5,6),(6,7),(7,8)];rintro k u;rw[boT.eq_1];refine ae (r_z 5 ?_);refine ap rfl (fun h=>?_) (fun h=>?_);refine ak ?_
 have n:k< p % 4:=by
  have f:(k:Int)< (p:Int) % 4:=by simpa using h
  omega
 have s:=DA q k;have r:(k+1) * qs q≤4* 64:=Nat.mul_le_mul (by omega) m;refine ae (aj (r_d a6 8 ?_));refine c_s (cJ (o9 q k) q (by omega)) ?_;refine c_s (fs_rMul (rq (o9 q k)) (rq q) (tJ _) (tJ _) (by simp only[rq];omega)) ?_;refine a_2 ?_;refine ao (n_k ?_);refine r_m 3 ?_;refine a_z ?_;refine⟨k+1,by omega,n,?_⟩;simp only[boT.eq_1];exact s_f []
 have j:k=p % 4:=by
  have f:¬(k:Int)< (p:Int) % 4:=by simpa using h
  omega
 subst j;refine ay ⟨(),trivial,?_⟩;exact s_f [];rintro _ _;rw[boT.eq_1];refine ae (r_d a6 4 ?_);refine a_4 ?_;refine ao (n_k ?_);refine ai (Fin.many ⟨_,_,rfl,⟨_,_,_,_,_,rfl,rfl,rfl,.inl ⟨TG.h,_,TS.h,nle rfl,rfl⟩⟩,⟨_,_,rfl,⟨_,_,_,_,_,rfl,rfl,rfl,.inl ⟨TG.h,_,TS.h,nle rfl,rfl⟩⟩,rfl⟩⟩ (nle rfl) ?_);exact ah (am aD (aT _)) (ah (am aD (kT _)) av)
def twP:List Rat:=aX [0,1] 2
def chP:Nat→List Rat×List Rat
 |0=>(ed 1,[0,1])
 |k+1=>((chP k).2,cK (aL twP (chP k).2) (chP k).1)
def okCh(k:Nat):Prop:=eS twP (chP k).2∧smL (chP k).1∧(aL twP (chP k).2).length≤274877906944∧(chP k).1.length≤274877906944
instance (k:Nat):Decidable (okCh k):=inferInstanceAs (Decidable (_∧_∧_∧_))
def chL2(n:Nat):List (List Rat):=(List.range n).map fun k=>(chP k).1
@[simp] theorem chL2_length (n:Nat):(chL2 n).length=n:=by simp[chL2]
def okTo(L:Nat)(p t:List Rat)(k:Rat)(n:Nat):Prop:=n< L∧smL p∧smL t∧aS t≠0∧sm k∧smL (aX t k)∧p.length≤274877906944∧t.length≤274877906944
instance (L:Nat) (p t:List Rat) (k:Rat) (n:Nat):Decidable (okTo L p t k n):=inferInstanceAs (Decidable (_∧_∧_∧_∧_∧_∧_∧_))

inductive LeLL:List (List AV)→List (List AV)→Prop
 |nil:LeLL [] []
 |cons {e e' es es'}:LeL e e'→LeLL es es'→LeLL (e::es) (e'::es')
section
variable {P:Go.Program}{T:Nat}{x y:Operand}
end
abbrev fc:=Int×Int×Nat
def nV(r:fc):Rat:=pk r.1 r.2.1 r.2.2
def nR(l:List fc):List (List AV):=l.map fun r=>nuC r.1 r.2.1 r.2.2
def nL(l:List fc):List Rat:=l.map nV
abbrev rL(l:List Rat):List (List AV):=rE (l.map rq)
def okR(l:List fc):Prop:=∀r∈l,kL r.1∧kL r.2.1∧r.2.2≤255
theorem cj(l:List fc):∀e∈nR l,∀c∈e,Closed c:=by
 intro e a c hc;obtain⟨r,_,rfl⟩:=List.mem_map.1 a;exact iF _ _ _ c hc
theorem kS(l:List Rat):∀e∈rL l,∀c∈e,Closed c:=jo _
def liS(l:List fc):List Rat→Nat→AState
 |[],i=>⟨[(0,.arr (nR l)),(4,.emp),(5,.emp),(6,i64 i)],[],1,33⟩
 |q::Q,i=>⟨[(0,.arr (nR l)),(4,.lsl 1 0 (Q.length+1) none 3),(5,.lsl 2 0 (Q.length+1) none 4),(6,i64 i)],[(1,some ⟨36,3,pE (q::Q)⟩),(2,some ⟨74,4,rL (q::Q)⟩)],3,33⟩
theorem pm(l:List fc)(i:Nat):liS l [] i=⟨[(0,.arr (nR l)),(4,.emp),(5,.emp),(6,i64 i)],[],1,33⟩:=rfl
theorem kI(l:List fc)(q:Rat)(Q:List Rat)(i:Nat):liS l (q::Q) i=⟨[(0,.arr (nR l)),(4,.lsl 1 0 (Q.length+1) none 3),(5,.lsl 2 0 (Q.length+1) none 4),(6,i64 i)],[(1,some ⟨36,3,pE (q::Q)⟩),(2,some ⟨74,4,rL (q::Q)⟩)],3,33⟩:=rfl
theorem fs_List(l:List fc)(hl:l.length≤1099511627776)(hb:okR l):FS 26 [.arr (nR l)] (.tup [.arr (pE (nL l)),.arr (rL (nL l))]):=by
 have r:∀q:Rat,∀e∈[rC (rq q)],∀c∈e,Closed c:=fun q=>kS [q];refine f_n Tryz.func26 ?_ ?_;exact ac (aH (cj l)) af;refine r_z 2 ?_;refine r_z 1 ?_;refine r_z 1 ?_;refine ae (r_z 1 ?_);refine aG (fun _:Unit=>liS l (nL l) l.length) (fun _=>True) ?_ ?_;refine aj (aB (fun i:Nat=>liS l (nL (l.take i)) i) (fun i=>l.length- i) (fun i=>i≤l.length) 0 (Nat.zero_le _) ?_ ?_);show SEnt _ (liS l [] 0);rw[pm];have:=(aH (cj l));exact s_f [];rintro i s;have p:(nR l).length=l.length:=by simp[nR]
 by_cases hlt:i< l.length
 ·obtain⟨n,g⟩:∃n,l[i]?=some n:=⟨_,List.getElem?_eq_getElem hlt⟩
  have a:(nR l)[((i:Nat):Int).toNat]?=some (nuC n.1 n.2.1 n.2.2):=by
   show(nR l)[i]?=_;simp[nR,g]
  obtain⟨k,o,m⟩:=hb n (List.mem_of_getElem? g);have b:=pQ n.1 n.2.1 n.2.2 k o m;obtain⟨v,hv⟩:∃v,v=pk n.1 n.2.1 n.2.2:=⟨_,rfl⟩;rw[←hv] at b;have d:nL (l.take (i+1))=nL (l.take i)++[v]:=by rw[cx g];simp[nL,nV,hv]
  have f:(nL (l.take i)).length=i:=by simp[nL];omega
  cases hQ:nL (l.take i) with
  |nil=>
   simp only[pm];refine ae (r_z 4 ?_);refine ap rfl (fun h=>?_) (fun h=>?_);rotate_left;exact absurd h (by simp[nR];omega);refine ak (ae (aj (s_r 12 ?_)));refine a_2 ?_;refine i_x a ?_;refine l_x a ?_;refine c_s (b) ?_;refine a_z ?_;refine r_d a6 10 ?_;refine a_8 ?_;refine a_2 ?_;refine ao (n_k ?_);refine r_m 3 ?_;refine a_z ?_;refine⟨i+1,by omega,hlt,?_⟩;simp only[d,hQ,List.nil_append,kI];refine s_x [(1,4),(2,5)] (fun hs=>e_39) (fun hs=>?_)
   ·repeat' (first|exact aE|refine h_c ?_ ?_|exact a8 hs (aJ [v])|exact a8 hs (kS [v])|exact bC|refine az ?_|exact av|refine ah ?_ ?_|exact am hs (aH (cj l))|exact aV)
  |cons q Q=>
   rw[hQ] at f;simp at f;simp only[kI];refine ae (r_z 4 ?_);refine ap rfl (fun h=>?_) (fun h=>?_);rotate_left;exact absurd h (by simp[nR];omega);refine ak (ae (aj (s_r 12 ?_)));refine a_2 ?_;refine i_x a ?_;refine l_x a ?_;refine c_s (b) ?_;refine a_z ?_;refine r_d a6 10 ?_;refine a_8 ?_;refine a_2 ?_;refine ao (n_k ?_);refine r_m 3 ?_;refine a_z ?_;refine⟨i+1,by omega,hlt,?_⟩;simp only[d,hQ,List.cons_append,kI];have e:pE (q::Q)++[qC v]=pE (q::(Q++[v])):=by simp[pE]
   have e2:rL (q::Q)++[rC (rq v)]=rL (q::(Q++[v])):=by simp[rE]
   refine s_x [(1,4),(2,5)] (fun hs=>e_39) (fun hs=>?_) e_8
   ·repeat' (first|exact aE|refine h_c ?_ ?_|exact aI hs e (aJ _)|exact aI hs e2 (kS _)|exact bC|refine az ?_|exact av|refine ah ?_ ?_|exact am hs (aH (cj l))|exact aV)
 have j:i=l.length:=by omega
 subst j;simp only[List.take_length];cases hQ:nL l with
 |nil=>
  simp only[pm];refine ae (r_z 4 ?_);refine ap rfl (fun h=>?_) (fun h=>?_);exact absurd h (by simp[nR]);refine ay ⟨(),trivial,?_⟩;simp only[hQ,pm];have:=(aH (cj l));exact s_f []
 |cons q Q=>
  simp only[kI];refine ae (r_z 4 ?_);refine ap rfl (fun h=>?_) (fun h=>?_);exact absurd h (by simp[nR]);refine ay ⟨(),trivial,?_⟩;simp only[hQ,kI];have:=(aH (cj l));exact s_f []
 rintro _ _;cases hQ:nL l with
 |nil=>
  simp only[pm];refine r_z 4 ?_;refine ai (Fin.many ⟨_,_,rfl,rfl,⟨_,_,rfl,rfl,rfl⟩⟩ (nle rfl) ?_);exact ah (Cv.emp _) (ah (Cv.emp _) av)
 |cons q Q=>
  simp only[kI];refine r_z 4 ?_;refine ai (Fin.many ⟨_,_,rfl,rfl,⟨_,_,rfl,rfl,rfl⟩⟩ (nle rfl) ?_);exact ah (Cv.sealE aD rfl (fun _ _ h=>by cases h) rfl (by simp) (aJ _)) (ah (Cv.sealE aD rfl (fun _ _ h=>by cases h) rfl (by simp) (kS _)) av)
theorem pP(l:List fc)(hl:l.length≤1099511627776)(hb:okR l):FS 7 [.arr (nR l)] (.tup [.arr (pE (nL l)),.arr (rL (nL l))]):=by
 refine f_n Tryz.func7 ?_ ?_;exact ac (aH (cj l)) af;refine r_z 2 ?_;refine r_c 7 (fs_List l hl hb) ?_;refine a_z ?_;refine r_z 4 ?_;refine ai (Fin.many ⟨_,_,rfl,rfl,⟨_,_,rfl,rfl,rfl⟩⟩ (nle rfl) ?_);exact ah (am aD (aH (aJ _))) (ah (am aD (aH (kS _))) av)
def vR(x:List RQ):List Rat:=x.map (·.1)
def okX(x:List RQ):Prop:=∀y∈x,rok y
def vy(x:List RQ):List RQ:=x.take (aq (vR x)).length
theorem vR_trim(x:List RQ):vR (vy x)=aq (vR x):=by
 unfold vy;rw[vR,List.map_take];exact(vz (vR x)).symm
@[simp] theorem mH (x:List RQ):(vR x).length=x.length:=by simp[vR]
def rtmS(x:List RQ):Nat→AState
 |n=>⟨[(0,.arr (rE x)),(3,i64 n)],[],1,23⟩
theorem Hq(x:List RQ)(hl:x.length≤1099511627776):FS 96 [.arr (rE x)] (.arr (rE (vy x))):=by
 obtain⟨v,hv⟩:∃v,v=vR x:=⟨_,rfl⟩;have f:v.length=x.length:=by rw[hv];simp
 refine f_c Tryz.func96 ?_;refine r_z 1 ?_;refine r_z 3 ?_;refine bi (rtmS x) (fun n=>n≤v.length∧aq v=v.take n) ?_ ?_;refine aj (aB (rtmS x) (fun n=>n) (fun n=>n≤v.length∧aq v=aq (v.take n)) v.length ⟨Nat.le_refl _,by rw[List.take_length]⟩ ?_ ?_);simp only[rtmS.eq_1];rw[f];exact s_e [];rintro n ⟨k,ht⟩;simp only[rtmS.eq_1];cases n with
 |zero=>
  refine ae (s_r 11 ?_);refine a_1 ?_;refine o_0 (.bin rfl rfl (vF jT ((by simp)))) ?_;refine a_z ?_;refine cF (ay ⟨0,⟨Nat.zero_le _,?_⟩,?_⟩);rw[ht];rfl;simp only[rtmS.eq_1];exact s_e []
 |succ n=>
  obtain⟨y,l⟩:∃y,x[n]?=some y:=⟨_,List.getElem?_eq_getElem (by omega)⟩;have o:v[n]?=some y.1:=by rw[hv,vR,List.getElem?_map,l];rfl
  have a:(rE x)[(((n+1:Nat):Int)- 1).toNat]?=some (rC y):=by
   rw[show(((n+1:Nat):Int)- 1).toNat=n by omega];exact rE_get l
  have hs:aq (v.take (n+1))=if y.1=0 then aq (v.take n) else v.take (n+1):=by
   rw[cx o,jt]
  by_cases h0:y.1=0;refine ae (s_r 11 ?_);refine d_6 ?_
  first|refine aQ rfl rfl rfl (.index_l rfl rfl (by omega) (by omega) te_48.h) rfl rfl ?_|refine aQ rfl rfl rfl (.index_a rfl rfl (by omega) a rfl te_48.h) rfl rfl ?_
  first|refine aQ rfl rfl rfl (.load_l rfl rfl a TG.h TS.h (nle rfl)) rfl rfl ?_|refine aQ rfl rfl rfl (.load_a rfl a TG.h TS.h (nle rfl)) rfl rfl ?_
  refine c_s (zX y) ?_;refine aQ rfl rfl rfl (.bin rfl rfl (vT ci ((by rw[h0];decide)))) rfl rfl ?_;refine a_z ?_;refine cT (ak (aj (r_m 3 ?_)));refine a_z ?_;refine⟨n,Nat.lt_succ_self n,⟨by omega,?_⟩,?_⟩;rw[ht,hs,if_pos h0];exact s_e []
  have p:(sgZ y.1.num==(0:Int))=false:=by
   rw[beq_eq_false_iff_ne];exact fun e=>h0 (sgZ_num_eq.1 e)
  refine ae (s_r 11 ?_);refine d_6 ?_
  first|refine aQ rfl rfl rfl (.index_l rfl rfl (by omega) (by omega) te_48.h) rfl rfl ?_|refine aQ rfl rfl rfl (.index_a rfl rfl (by omega) a rfl te_48.h) rfl rfl ?_
  first|refine aQ rfl rfl rfl (.load_l rfl rfl a TG.h TS.h (nle rfl)) rfl rfl ?_|refine aQ rfl rfl rfl (.load_a rfl a TG.h TS.h (nle rfl)) rfl rfl ?_
  refine c_s (zX y) ?_;refine aQ rfl rfl rfl (.bin rfl rfl (vF ci (p))) rfl rfl ?_;refine a_z ?_;refine cF (ay ⟨n+1,⟨k,?_⟩,?_⟩);rw[ht,hs,if_neg h0];simp only[rtmS.eq_1];exact s_e []
 rintro n ⟨k,ht⟩;simp only[rtmS.eq_1];have j:(aq v).length=n:=by rw[ht];simp;omega
 have b:vy x=x.take n:=by unfold vy;rw[←hv,j]
 cases n with
 |zero=>
  refine s_r 5 ?_;refine a_2 ?_;refine o_0 (.sa_h rfl rfl (h:=0) rfl (by simp) te_48.h (xn _)) ?_;refine o_0 (.append0 rfl rfl rfl te_48.h rfl rfl rfl (.arr (es:=[]) (by simp))) ?_;refine a_z ?_;refine ai ?_;rw[b];exact Fin.tmpN rfl
 |succ n=>
  obtain⟨X,g⟩:∃X,X=x.take (n+1):=⟨_,rfl⟩;have i:X.length=n+1:=by rw[g];simp;omega
  have d:rE X≠[]:=fun e=>by have:=congrArg List.length e;simp[i] at this
  have c:(rE x).take (n+1)=rE X:=by rw[rE_take,g]
  have m:(rE x).take (n+1)≠[]:=by rw[c];exact d
  refine s_r 5 ?_;refine a_2 ?_;refine o_0 (.sa_h rfl rfl (h:=n+1) rfl (by simp;omega) te_48.h (xn _)) ?_;refine o_1 (.append_e rfl rfl rfl te_48.h rfl rfl rfl (.arr (by rw[c];exact xn _)) (by first|assumption|(simp;done)) TZ.h rfl TB.h d_o (by first|(simp[maxLen];done)|(simp[maxLen];omega))) ?_;refine a_z ?_;refine ai ?_;rw[b,←g,←c];exact Fin.tmpS rfl rfl rfl rfl (by rw[c];exact jo _)
def rP(v:List Rat):List RQ:=v.map rq
theorem okX_rP(v:List Rat):okX (rP v):=fun y a=>by obtain⟨q,_,rfl⟩:=List.mem_map.1 a;exact tJ q
theorem s9(v:List Rat):vR (rP v)=v:=by
 unfold vR rP;rw[List.map_map];exact List.map_id' v
@[simp] theorem qu (v:List Rat):(rP v).length=v.length:=by simp[rP]
@[simp] theorem oI (x:List RQ):(vy x).length=(aq (vR x)).length:=by rw[←vR_trim,mH]
theorem iw(x:List RQ)(hl:x.length≤1000000):FS 46 [.arr (rE x)] (i64 (bD (vR x))):=by
 have a:=bF (vR x);rw[mH,←oI] at a;refine f_c Tryz.func46 ?_;refine r_z 1 ?_;refine r_c 5 (Hq x (by omega)) ?_;refine a_z ?_;exact ai (aW rfl (by rw[oI];rfl) (ag _))


def dSt(d:List Rat)(s:List Rat×List RQ):List Rat×List RQ:=
 (fR s.1 (shP ((vR s.2).length- d.length) [aS (vR s.2) / aS d]),rP (cK (vR s.2) (aL d (shP ((vR s.2).length- d.length) [aS (vR s.2) / aS d]))))
structure DInv (p d:List Rat)(t L:Nat)(s:List Rat×List RQ):Prop where
 ok:okX s.2
 tr:aq (vR s.2)=vR s.2
 bd:∃b,1≤b∧bdL (vR s.2) b∧bdL s.1 b∧(b+2* t+3) * 2^ s.2.length≤L
 ln:s.2.length≤p.length
 lq:s.1.length≤p.length
 ev:∀x,au p x=au s.1 x* au d x+au (vR s.2) x
theorem DInv.step{p d:List Rat}{t L:Nat}{s:List Rat×List RQ}(h:DInv p d t L s)(hd:aq d=d)(hd0:d≠[])(hdt:bdL d t)(ht:1≤t)(hl:d.length≤s.2.length):DInv p d t L (dSt d s)∧(dSt d s).2.length< s.2.length:=by
 obtain⟨q,X⟩:=s;obtain⟨ok,tr,⟨b,b1,g,i,hb⟩,ln,lq,ev⟩:=h;simp only at *
 have k:=List.length_pos_iff.2 hd0;have c:=F1 tr hd hd0 (by rw[mH];exact hl);obtain⟨s1,s2,e⟩:=step_bd g hdt b1 ht hd0 ((vR X).length- d.length);obtain⟨a,ha⟩:∃a,a=aS (vR X) / aS d:=⟨_,rfl⟩;unfold dSt;simp only;rw[mH] at c s2 e⊢;rw[←ha] at c s1 s2 e⊢;refine⟨⟨okX_rP _,?_,⟨2* b+2* t+3,by omega,?_,?_,?_⟩,?_,?_,?_⟩,?_⟩;rw[s9];exact EB _ _;rw[s9];exact e;have h1:bdL [a] (b+t):=fun x j=>by rw[List.mem_singleton.1 j];exact s1
 exact u7 (AS i (bdL_sh h1 (by omega) _) b1 (by omega)) (by omega);simp only[qu];obtain⟨n,f⟩:∃n,X.length=n+1:=⟨X.length- 1,by omega⟩;have h1:2^ (cK (vR X) (aL d (shP (X.length- d.length) [a]))).length≤2^ n:=Nat.pow_le_pow_right (by decide) (by omega);have m:=Nat.mul_le_mul_left (2* b+2* t+3+2* t+3) h1
 have l:(b+2* t+3) * 2^ X.length=(2* b+2* t+3+2* t+3) * 2^ n:=by
  rw[f,Nat.pow_succ,show 2* b+2* t+3+2* t+3=(b+2* t+3) * 2 by omega,Nat.mul_assoc,Nat.mul_comm 2 (2^ n)]
 omega;simp only[qu];omega;have h1:=jV q (shP (X.length- d.length) [a]);rw[nI] at h1;simp at h1⊢;omega;intro x;rw[s9,iA,eJ,iB,ev x];grind;simp only[qu];exact c






end Go.Proofs.YtdgbhlkabelmbaaGreatDoor
namespace Go.Proofs.YtdgbhlkabelmbaaGreatDoor
open Go.Abs Go.Deep Go.RowKit
set_option maxRecDepth 20000
theorem CD{M:Nat→Prop}{β:Nat→Option (Nat×Nat)}{w:World}{b s off:Nat}{f:Nat→List AV}:∀(n j:Nat),(∀i,i< j+n→(f i).length=s∧RVcs M β w b (f i) (off+i* s))→RVess M β w b s ((List.range' j n).map f) (off+j* s)
 |0,_,_=>trivial
 |n+1,j,h=>by
  rw[List.range'_succ,List.map_cons];refine⟨(h j (by omega)).1,(h j (by omega)).2,?_⟩;have:=CD (M:=M) (β:=β) (w:=w) (b:=b) (s:=s) (off:=off) n (j+1) (fun i a=>h i (by omega));rwa[Nat.add_mul,Nat.one_mul,←Nat.add_assoc] at this
theorem oQ{w:World}{b o:Nat}{v:Value}(h:w.cell? ⟨b,o,none⟩=some v):∃N,aR w b=some N:=by
 unfold World.cell? at h;unfold aR;split at h
 ·rename_i c _ _ e;rw[show w.heap[b]?=_ from e];exact⟨c.size,rfl⟩
 cases h
theorem tyS:(Tryz.prog).underlying 27=some (.slice 24):=by kernel_rfl
theorem tyN:∃f0 f1 f2,(Tryz.prog).underlying 24=some (.struct #[f0,f1,f2])∧f0.type=2∧f0.offset=0∧f1.type=2∧f1.offset=1∧f2.type=5∧f2.offset=2:=
 ⟨{name:= "N",type:=2,offset:=0,embedded:=false,tag:= "",pkgPath:= "",byteOffset:=0},{name:= "D",type:=2,offset:=1,embedded:=false,tag:= "",pkgPath:= "",byteOffset:=8},{name:= "Pow",type:=5,offset:=2,embedded:=false,tag:= "",pkgPath:= "",byteOffset:=16},by kernel_rfl,rfl,rfl,rfl,rfl,rfl,rfl⟩
theorem Dc:(Tryz.prog).cellsOf 24=3:=by kernel_rfl
theorem tyc2:(Tryz.prog).cellsOf 2=1:=by kernel_rfl
theorem tyc5:(Tryz.prog).cellsOf 5=1:=by kernel_rfl
theorem tyu2:(Tryz.prog).underlying 2=some (.int .i64):=by kernel_rfl
theorem tyu5:(Tryz.prog).underlying 5=some (.int .u8):=by kernel_rfl
theorem xC{H:Type}{enc:TypeId×Value→H}{W:World}{base n:Nat}{spare:Nat→Bool}{held:Bool}{cs:List Value}{x:DataW H×List MemPlace}(h:DataW.trod enc Tryz.prog W base spare held n 24 cs=some x):
    ∃r:fc,kL r.1∧kL r.2.1∧r.2.2≤255∧cs=[.int .i64 r.1,.int .i64 r.2.1,.int .u8 r.2.2]:=by
 obtain⟨z,v,y,q,h1,t,i,l,j,p⟩:=tyN;obtain⟨u,w,A,m,_,e,b,c,d⟩:=trod_struct3 q h;rw[h1,t,tyc2] at b;rw[i,l,tyc2] at c;rw[j,p,tyc5] at d;rw[Dc] at e;obtain⟨o,e0,_,k⟩:=DataW.trod_int tyu2 b;obtain⟨g,e1,_,s⟩:=DataW.trod_int tyu2 c;obtain⟨a,e2,_,f⟩:=DataW.trod_int tyu5 d
 match cs,e with
 |[c0,c1,c2],_=>
  simp at e0 e1 e2;subst e0;subst e1;subst e2;have b2:=bounds_u8 f;refine⟨(o,g,a.toNat),bounds_i64 k,bounds_i64 s,?_,?_⟩;show a.toNat≤255;omega;show _=[_,_,Value.int .u8 ((a.toNat:Nat):Int)];rw[Int.toNat_of_nonneg b2.1]
theorem se{H:Type}{enc:TypeId×Value→H}{W:World}{a:Option Addr}{len cap:Nat}{d:DataW H}{ps:List MemPlace}(h:DataW.Trod enc Tryz.prog W 0 (fun _=>true) true 27 (.slice a len cap) d ps):
    ∃l:List fc,okR l∧RV (fun _=>False) (fun _=>none) W (.arr (nR l)) (.slice a len cap):=by
 obtain⟨K,hf⟩:=h;rcases open_slice tyS hf with⟨o,_⟩|⟨x,G,J,m,n,D,Y,o,_,T,Q,t,_,C⟩
 simp[Value.cells] at o;obtain⟨rfl,rfl,rfl⟩:=o;exact⟨[],(fun r E=>by cases E),none,0,rfl,Nat.le_refl _,by decide,.inl rfl⟩;simp[Value.cells] at o;obtain⟨rfl,rfl,rfl⟩:=o;simp only[if_true] at t;have B:m=cap:=t;rw[B] at C;rw[Dc] at C
 have z:∀i,i< len→∃r:fc,(kL r.1∧kL r.2.1∧r.2.2≤255)∧W.cells? 0 (x.add (i* 3)) 3=some [.int .i64 r.1,.int .i64 r.2.1,.int .u8 r.2.2]:=fun i u=>by
  obtain⟨S,L,O⟩:=C i (by omega);obtain⟨r,X,N,V,e⟩:=xC O;exact⟨r,⟨X,N,V⟩,by rw[L,e]⟩
 obtain⟨R,F⟩:=choose_lt (α:=fc) z;refine⟨(List.range len).map R,?_,some x,cap,by simp[nR],by simpa[nR] using T,Q,?_⟩;intro r E;obtain⟨i,u,rfl⟩:=List.mem_map.1 E;exact(F i (List.mem_range.1 u)).1;by_cases h0:len=0;subst h0;exact .inl rfl;right
 have c:∀i,i< len→∀j (v:Value),[.int .i64 (R i).1,.int .i64 (R i).2.1,.int .u8 (R i).2.2][j]?=some v→W.cell? (x.add (i* 3+j))=some v:=fun i u j v hv=>by
  have U:j< 3:=by
   have:=(List.getElem?_eq_some_iff.1 hv).1;simpa using this
  have:=(World.cells?_some (F i u).2).2.2 j U;rw[hv,Go.Deep.add_add] at this;exact this
 have A:=c 0 (by omega) 0 _ rfl;obtain⟨b,off,y⟩:=x;have q:y=none:=by simpa[Addr.add] using World.cell?_spot A
 subst q
 have g:∀k,Addr.add ⟨b,off,none⟩ k=⟨b,off+k,none⟩:=fun k=>by
  unfold Addr.add;by_cases hk:k=0;simp[hk];simp[hk]
 refine⟨b,off,3,rfl,oQ (by rw[g] at A;exact A),(fun h=>h),?_⟩;have:=CD (M:=fun _=>False) (β:=fun _=>none) (w:=W) (b:=b) (s:=3) (off:=off) (f:=fun i=>nuC (R i).1 (R i).2.1 (R i).2.2) len 0 (fun i u=>⟨rfl,?_⟩);rw[Nat.zero_mul,Nat.add_zero,←List.range_eq_range'] at this;rw[nR,List.map_map];exact this;have p:i< len:=by omega
 refine⟨⟨_,?_,rfl⟩,⟨_,?_,rfl⟩,⟨_,?_,rfl⟩,trivial⟩;have:=c i p 0 _ rfl;rw[g] at this;exact this;have:=c i p 1 _ rfl;rw[g] at this;rw[Nat.add_assoc];exact this;have:=c i p 2 _ rfl;rw[g] at this;rw[Nat.add_assoc,Nat.add_assoc];exact this
end Go.Proofs.YtdgbhlkabelmbaaGreatDoor
namespace Go.Proofs.YtdgbhlkabelmbaaGreatDoor
open Go.Abs
set_option maxRecDepth 100000
set_option maxHeartbeats 2000000
theorem mxL_le{p:List Rat}{s:Nat}(h:bdL p s)(hs:1≤s):mxL p≤s:=by
 unfold mxL
 induction p with
 |nil=>exact hs
 |cons a l c=>
  have h1:=h a (List.mem_cons_self ..);have d:=c fun q b=>h q (List.mem_cons_of_mem _ b);rw[List.foldr_cons];omega
def pkR(p:List Rat×List Rat):List AV:=[.arr (rE (rP p.1)),.arr (rE (rP p.2))]
def keR(k:Ke):List (List AV):=k.map pkR
@[simp] theorem nS (k:Ke):(keR k).length=k.length:=by simp[keR]
theorem jR(k:Ke):∀x∈keR k,∀c∈x,Closed c:=fun x a=>by
 obtain⟨p,_,rfl⟩:=List.mem_map.1 a;exact ac (eX _) (ac (eX _) af)
theorem fD(k:Ke):Closed (.arr (keR k)):=aH (jR k)
theorem keR_get{k:Ke}{i:Nat}{p:List Rat×List Rat}(h:k[i]?=some p):∀e,e=i→(keR k)[e]?=some (pkR p):=fun e a=>by
 rw[a,keR,List.getElem?_map,h];rfl

def okL(n:Nat)(p last:List Rat):Prop:=eS (aX [0,1] ((2* (n:Int)+1:Int):Rat)) p∧smL last∧smL (aX last ((n:Int):Rat))∧smL (cK (aL (aX [0,1] ((2* (n:Int)+1:Int):Rat)) p) (aX last ((n:Int):Rat)))∧(aL (aX [0,1] ((2* (n:Int)+1:Int):Rat)) p).length≤1000∧last.length≤1000∧n≤1000
instance (n:Nat) (p last:List Rat):Decidable (okL n p last):=inferInstanceAs (Decidable (_∧_∧_∧_∧_∧_∧_))
def okH(n:Nat)(p last:List Rat):Prop:=eS twP p∧smL last∧smL (aX last ((2* (n:Int):Int):Rat))∧(aL twP p).length≤1000∧last.length≤1000∧n≤1000
instance (n:Nat) (p last:List Rat):Decidable (okH n p last):=inferInstanceAs (Decidable (_∧_∧_∧_∧_∧_))

def okC(_:Nat)(p last:List Rat):Prop:=eS twP p∧smL last∧(aL twP p).length≤1000∧last.length≤1000
instance (n:Nat) (p last:List Rat):Decidable (okC n p last):=inferInstanceAs (Decidable (_∧_∧_∧_))






















section
variable {a b:Rat}(h:a< b){k:Nat}(hk:1≤k∧k≤4)(ha:qs a≤20)(hb:qs b≤20)
include h hk ha hb
end
section
variable {a b a' b':Rat}(h:a< b)(h':a'< b'){k:Nat}(hk:1≤k∧k≤4)(ha:qs a≤20)(hb:qs b≤20)(ha':qs a'≤20)(hb':qs b'≤20)
include h h' hk ha hb ha' hb'
end


end Go.Proofs.YtdgbhlkabelmbaaGreatDoor
namespace Go.Proofs.YtdgbhlkabelmbaaGreatDoor
open Go.Abs Go.Deep Go.RowKit Go.WideShapes
set_option maxRecDepth 20000
def okN(r:fc):Prop:=kL r.1∧kL r.2.1∧r.2.2≤255
theorem numP_of{H:Type}{enc:TypeId×Value→H}{W:World}{base:Nat}{v:Value}{d:DataW H}{ps:List MemPlace}(hv:Value.okWide Tryz.prog W .any base 24 v)(h:DataW.Trod enc Tryz.prog W 0 (fun _=>true) true 24 v d ps):
    ∃r:fc,okN r∧RV (fun _=>False) (fun _=>none) W (.agg (nuC r.1 r.2.1 r.2.2)) v:=by
 obtain⟨l,k,j,b,_⟩:=tyN
 obtain⟨cs,rfl,_⟩:∃cs,v= .agg cs∧True:=by
  unfold Value.okWide at hv;rw[b] at hv;obtain⟨cs,h1,_⟩:=hv;exact⟨cs,h1,trivial⟩
 obtain⟨a,hf⟩:=h;obtain⟨r,i,c,g,e⟩:=xC hf;refine⟨r,⟨i,c,g⟩,cs,rfl,?_⟩;have f:cs.toList=[.int .i64 r.1,.int .i64 r.2.1,.int .u8 r.2.2]:=by simpa[Value.cells] using e
 rw[f];exact⟨_,_,rfl,rfl,_,_,rfl,rfl,_,_,rfl,rfl,rfl⟩
end Go.Proofs.YtdgbhlkabelmbaaGreatDoor
