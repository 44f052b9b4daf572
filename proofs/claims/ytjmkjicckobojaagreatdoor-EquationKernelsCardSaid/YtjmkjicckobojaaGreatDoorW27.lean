/- Part W27 of the proof. -/
import Derived.Test.YtjmkjicckobojaaGreatDoorW26
set_option linter.all false
namespace Go.Proofs.YtjmkjicckobojaaGreatDoor
open Go.Abs
set_option maxRecDepth 100000
set_option maxHeartbeats 2000000
def wM(a b:Sp):Sp:=(DX [a.1,b.1],gQ [a.2,b.2])
def j8(a:Rat)(k:Int):Sp:=(k4 a (wi k 256),upQ a (wi k 256))
def rlM(f g:Nat)(c:Cnt)(p:Lq)(k:Int)(up:Int):Nat->Int->Sp->Option Sp
 |0,_,_=>none
 |n+1,i,o=>if i< up then(Dj f g c i p k).bind λv=>if smS o/\smS v then rlM f g c p k up n (i+1) (wM o v) else none else some o
def F4(p:Lq)(s:Sp)(k:Int):Prop:=smS s/\fM p s.1/\fM p s.2/\smL p/\p.length<=274877906944/\fb s.1 s.2<=0/\dt p<=40/\smS (j8 (an p s.1) k)/\smS (j8 (an p s.2) k)
instance (p:Lq) (s:Sp) (k:Int):Decidable (F4 p s k):=inferInstanceAs (Decidable (_/\_/\_/\_/\_/\_/\_/\_/\_))
def zU(f g:Nat)(p:Lq)(s:Sp)(k:Int):Option Sp:=
 if F4 p s k then
  if dt (aV p)< 0 then some (wM (j8 (an p s.1) k) (j8 (an p s.2) k))
  else(dM f (aV p)).bind λc=>if pI c s.1/\uL c s.2 then rlM f g c p k (cX c s.2) g (cN c s.1) (wM (j8 (an p s.1) k) (j8 (an p s.2) k)) else none
 else none
def rgS(p:Lq)(s:Sp)(k:Int)(c:Cnt):Int×Sp->AState
 |(i,o)=>⟨[(0,.arr (pE p)),(2,i64 k),(4,bS s),(6,.lptr 1 0 0),(8,.lptr 2 0 0),(10,kA c),(11,i64 i)],[(1,some ⟨51,6,[zC++zC]⟩),(2,some ⟨51,6,[spC o.1 o.2]⟩)],3,66⟩
theorem Cg(f g:Nat)(p:Lq)(s:Sp)(k:Int)(r:Sp)(h:zU f g p s k=some r)(hf:f<=1000000):FS 202 [.arr (pE p),.agg (spC s.1 s.2),i64 k] (.tup [.agg (spC r.1 r.2),i64 0]):=by
 unfold zU at h;split at h
 case isFalse=>cases h
 case isTrue hk=>
 obtain⟨z,G,D,M,O,K,N,B,C⟩:=hk;have L:=iz p;obtain⟨w,F⟩:∃o,o=wM (j8 (an p s.1) k) (j8 (an p s.2) k):=⟨_,rfl⟩;have j:=Cf (j8 (an p s.1) k).1 (j8 (an p s.1) k).2 (j8 (an p s.2) k).1 (j8 (an p s.2) k).2 B.1 B.2 C.1 C.2;rw[<-F] at h;have b:FS 249 [.agg (spC (j8 (an p s.1) k).1 (j8 (an p s.1) k).2),.agg (spC (j8 (an p s.2) k).1 (j8 (an p s.2) k).2)] (.agg (spC w.1 w.2)):=by rw[F];exact j
 refine f_c Tryz.func202 ?_;refine r_z 3 ?_;refine bD (λ_:Unit=>⟨[(0,.arr (pE p)),(2,i64 k),(4,bS s),(6,.lptr 1 0 0)],[(1,some ⟨51,6,[zC++zC]⟩)],2,66⟩) (λ_=>True) ?_ ?_;refine ah (r_c 4 (kx s.1 s.2 z.1 z.2) ?_);refine a_z ?_;refine ar rfl (λE=>?_) (λE=>?_);exact absurd E (by simp[K]);refine r_c 4 (em p ω) ?_;refine a_z ?_;refine ar rfl (λA=>?_) (λA=>?_);exact absurd A χ;refine aj ⟨(),trivial,?_⟩;exact s_e [(1,6)];rintro _ _;refine ac (r_d aX 15 ?_);refine c_s (jF p s.1 G) ?_;refine c_s (Ci (an p s.1) k (xa G)) ?_;refine c_s (jF p s.2 D) ?_;refine c_s (Ci (an p s.2) k (xa D)) ?_;refine c_s (b) ?_;refine a_2 ?_;refine aq (n_k ?_);refine ac (r_c 3 (tG p M ω) ?_);refine a_z ?_;refine r_c 3 (em (aV p) ω) ?_;refine a_z ?_;refine aC (λ_:Unit=>⟨[(6,.lptr 1 0 0),(8,.lptr 2 0 0)],[(1,some ⟨51,6,[zC++zC]⟩),(2,some ⟨51,6,[spC r.1 r.2]⟩)],3,66⟩) (λ_=>True) ?_ ?_;refine ar rfl (λq=>?_) (λq=>?_)
 ·have d:¬dt (aV p)< 0:=by
   have:0<=dt (aV p):=by simpa using q
   omega
  rw[if_neg d] at h;obtain⟨c,hc,l⟩:=Option.bind_eq_some_iff.1 h;split at l
  case isFalse=>cases l
  case isTrue hb=>
  refine r_c 3 (o4 f (aV p) c hc hf) ?_;refine a_z ?_;refine r_c 5 (kW c s.1 hb.1) ?_;refine a_z ?_;have H:=lR (x:=s.2) hb.2.1;have J:=zc (x:=s.1) hb.1.1.1;refine ah (ay (λx:Nat×Int×Sp=>rgS p s k c x.2) (λx=>x.1) (λx=>rlM f g c p k (cX c s.2) x.1 x.2.1 x.2.2=some r/\ -4611686018427387904<=x.2.1) (g,cN c s.1,w) ⟨l,by simp only;omega⟩ ?_ ?_);simp only[rgS.eq_1];exact s_e [(2,8)];rintro⟨n,i,o⟩ ⟨a,t⟩;simp only at a t;simp only[rgS.eq_1];cases n with
  |zero=>cases a
  |succ n=>
   rw[rlM] at a;refine ac (r_c 6 (mX c s.2 hb.2) ?_);refine a_z ?_;refine ar rfl (λu=>?_) (λu=>?_)
   ·have e:i< cX c s.2:=by simpa using u
    rw[if_pos e] at a;obtain⟨v,hv,m⟩:=Option.bind_eq_some_iff.1 a;split at m
    case isFalse=>cases m
    case isTrue hsm=>
    have y:FS 249 [.agg (spC o.1 o.2),.agg (spC v.1 v.2)] (.agg (spC (wM o v).1 (wM o v).2)):=Cf o.1 o.2 v.1 v.2 hsm.1.1 hsm.1.2 hsm.2.1 hsm.2.2;refine aj (ac (ah (r_z 5 ?_)));refine AWp.ent (st':=⟨[(0,.arr (pE p)),(2,i64 k),(4,bS s),(6,.lptr 1 0 0),(8,.lptr 2 0 0),(10,kA c),(11,i64 i),(12,plA c i)],[(1,some ⟨51,6,[zC++zC]⟩),(2,some ⟨51,6,[spC o.1 o.2]⟩)],3,66⟩) ?_ ?_;refine s_x [] (λhs=>?_) (λhs=>?_)
    ·repeat' (first|exact aL|refine az rfl ?_ ?_|exact Cv.boxp hs rfl (aG rfl) rfl (ae (gE c) (ae (ak _) af))|exact aW)
    ·repeat' (first|exact aB|refine h_c ?_ ?_|exact bG|refine aA ?_|exact av|refine am ?_ ?_|exact Cv.boxp hs rfl (aG rfl) rfl (ae (gE c) (ae (ak _) af))|exact aW)
    refine r_d aX 7 ?_;refine c_s (Kb f g c i p k v hv hf) ?_;refine c_s (y) ?_;refine a_1 ?_;refine aq (n_k ?_);refine r_m 3 ?_;refine a_z ?_;refine⟨(n,i+1,wM o v),Nat.lt_succ_self n,⟨m,by simp only;omega⟩,?_⟩;simp only[rgS.eq_1];exact s_e []
   have e:¬i< cX c s.2:=by simpa using u
   rw[if_neg e] at a;cases a;refine ax ⟨(),trivial,?_⟩;exact s_e []
 have d:dt (aV p)< 0:=by
  have:¬0<=dt (aV p):=by simpa using q
  omega
 rw[if_pos d] at h;cases h;refine aj ⟨(),trivial,?_⟩;exact s_e [(2,8)];rintro _ _;refine r_z 3 ?_;refine ai (Fin.many ⟨_,_,rfl,⟨_,_,_,_,_,rfl,rfl,rfl,.inl ⟨TG.h,_,TS.h,nle rfl,rfl⟩⟩,⟨_,_,rfl,rfl,rfl⟩⟩ (nle rfl) ?_);exact am (ao aF (b9 _ _)) (am (ao aF (ak _)) av)



def zE(l:List Int):Lc:=l.map λn=>[i64 n]
theorem jt(l:List Int):∀e∈zE l,∀c∈e,Closed c:=by
 intro e a c hc;obtain⟨n,_,rfl⟩:=List.mem_map.1 a;rw[List.mem_singleton.1 hc];exact ak _
def zR(l:List Int):Lq:=l.map fun(n:Int)=>(n:Rat)
def qX(q:Rat):Nat->Rat
 |0=>q
 |k+1=>qX q k* q
theorem F1(q:Rat):∀k,qs (qX q k)<=(k+1) * qs q
 |0=>by simp[qX]
 |k+1=>by
  have a:=cx (qX q k) q;have b:=F1 q k;show qs (qX q k* q)<=_;rw[Nat.add_mul (k+1),Nat.one_mul];omega
def xX(D:Int):Int:=if D=0 then 1 else D
def rk(N D:Int)(p:Nat):Rat:=qX (Rat.divInt N (xX D)) (p % 4)
def nuC(N D:Int)(p:Nat):La:=[i64 N,i64 D,.v (.int .u8 p)]
def mc(n:Int):Prop:= -9223372036854775808<=n/\n<=9223372036854775807
theorem jw(N D:Int)(p:Nat):∀c∈nuC N D p,Closed c:=ae (ak _) (ae (ak _) (ae (ak _) af))
theorem KZ(n d:Int):(n:Rat) / (d:Rat)=Rat.divInt n d:=(Rat.divInt_eq_div n d).symm
def boT(N:Int)(D:Int)(p:Nat)(q:Rat):Nat->AState
 |k=>⟨[(1,.lptr 1 0 0),(2,.lptr 2 0 0),(3,.lptr 3 0 0),(4,.lptr 4 0 0),(6,.lptr 5 0 0),(7,.lptr 6 0 0),(8,.lptr 7 0 0),(9,.v (.int .u8 k))],
  [(1,some ⟨24,3,[nuC N D p]⟩),(2,some ⟨42,3,[zC]⟩),(3,some ⟨47,4,[[i64 0,.emp,i64 0,.emp]]⟩),(4,some ⟨42,3,[qC q]⟩),(5,some ⟨47,4,[rC (rq q)]⟩),(6,some ⟨42,3,[qC (qX q k)]⟩),(7,some ⟨47,4,[rC (rq (qX q k))]⟩)],8,44⟩
theorem og(N D:Int)(p:Nat)(hN:mc N)(hD:mc D)(hp:p<=255):FS 8 [.agg (nuC N D p)] (.tup [.agg (qC (rk N D p)),.agg (rC (rq (rk N D p)))]):=by
 obtain⟨d,b⟩:∃d,d=xX D:=⟨_,rfl⟩;have g:d≠0:=by rw[b];unfold xX;split <;> omega
 have a:mc d:=by
  rw[b];unfold xX mc;unfold mc at hD;split <;> omega
 unfold mc at hN a;obtain⟨q,i⟩:∃q,q=Rat.divInt N d:=⟨_,rfl⟩;have f:=fs_Of N d hN a g;rw[KZ,<-i] at f;have e:=fs_rOf N d g hN a;rw[<-i] at e;have m:rk N D p=qX q (p % 4):=by unfold rk;rw[<-b,<-i]
 rw[m];refine f_n Tryz.func8 ?_ ?_;exact ae (aE (jw N D p)) af;refine r_z 3 ?_
 refine bD (λ_:Unit=>⟨[(1,.lptr 1 0 0),(2,.lptr 2 0 0),(3,.lptr 3 0 0)],
  [(1,some ⟨24,3,[nuC N d p]⟩),(2,some ⟨42,3,[zC]⟩),(3,some ⟨47,4,[[i64 0,.emp,i64 0,.emp]]⟩)],4,44⟩) (λ_=>True) ?_ ?_
 refine r_z 3 ?_;refine ar rfl (λn=>?_) (λn=>?_);have c:D=0:=by simpa using n
 have o:d=1:=by rw[b];unfold xX;rw[if_pos c]
 refine r_m 2 ?_;refine a_z ?_;refine⟨(),trivial,?_⟩;rw[o];have:=jw N 1 p;exact s_f [];have c:¬D=0:=by simpa using n
 have o:d=D:=by rw[b];unfold xX;rw[if_neg c]
 refine aj ⟨(),trivial,?_⟩;rw[o];have:=jw N D p;exact s_f [];rintro _ _;refine r_c 11 (f) ?_;refine a_z ?_;refine r_c 7 (e) ?_;refine a_z ?_;refine ac (r_d aX 6 ?_);refine a_6 ?_;refine aq (n_k ?_);refine ac (r_z 1 ?_)
 have r:qs q<=64:=by
  have hb:∀z:Int,-9223372036854775808<=z/\z<=9223372036854775808->bl z.natAbs<=64:=λz h=>gY (k:=64) ω;rw[i];by_cases hn:d< 0;rw[qu N d hn];exact fW ω (hb (-N) ω) (hb d ω);rw[qt N d ω];exact fW ω (hb N ω) (hb d ω)
 have t:(p:Int) % 4=((p % 4:Nat):Int):=ω
 refine aC (λ_:Unit=>boT N d p q (p % 4)) (λ_=>True) ?_ ?_;refine ah (ay (boT N d p q) (λk=>p % 4- k) (λk=>k<=p % 4) 0 (Nat.zero_le _) ?_ ?_);simp only[boT.eq_1,qX];exact s_f [(4,4),(5,6),(6,7),(7,8)];rintro k v;rw[boT.eq_1];refine ac (r_z 5 ?_);refine ar rfl (λh=>?_) (λh=>?_);refine aj ?_
 have l:k< p % 4:=by
  have c:(k:Int)< (p:Int) % 4:=by simpa using h
  omega
 have u:=F1 q k;have s:(k+1) * qs q<=4* 64:=Nat.mul_le_mul ω r;refine ac (ah (r_d aX 8 ?_));refine c_s (dk (qX q k) q ω) ?_;refine c_s (lA (rq (qX q k)) (rq q) (bK _) (bK _) (by simp only[rq];omega)) ?_;refine a_2 ?_;refine aq (n_k ?_);refine r_m 3 ?_;refine a_z ?_;refine⟨k+1,ω,l,?_⟩;simp only[boT.eq_1];exact s_f []
 have j:k=p % 4:=by
  have c:¬(k:Int)< (p:Int) % 4:=by simpa using h
  omega
 subst j;refine ax ⟨(),trivial,?_⟩;exact s_f [];rintro _ _;rw[boT.eq_1];refine ac (r_d aX 4 ?_);refine a_4 ?_;refine aq (n_k ?_);refine ai (Fin.many ⟨_,_,rfl,⟨_,_,_,_,_,rfl,rfl,rfl,.inl ⟨TG.h,_,TS.h,nle rfl,rfl⟩⟩,⟨_,_,rfl,⟨_,_,_,_,_,rfl,rfl,rfl,.inl ⟨TG.h,_,TS.h,nle rfl,rfl⟩⟩,rfl⟩⟩ (nle rfl) ?_);exact am (ao aF (aP _)) (am (ao aF (c9 _)) av)




inductive LeLL:Lc->Lc->Prop
 |nil:LeLL [] []
 |cons {e e' es es'}:LeL e e'->LeLL es es'->LeLL (e::es) (e'::es')
theorem leL_len{xs ys:La}(h:LeL xs ys):ys.length=xs.length:=by
 induction h with
 |nil=>rfl
 |cons _ _ a=>simp[a]
theorem leL_cs{M:Nat->Prop}{β:Bq}{w:World}{b:Nat}{xs ys:La}(h:LeL xs ys):∀{off:Nat},RVcs M β w b xs off->RVcs M β w b ys off:=by
 induction h with
 |nil=>exact λh=>h
 |cons d _ a=>rintro off ⟨⟨x,e,c⟩,hs⟩;exact⟨⟨x,e,d M β w x c⟩,a hs⟩
theorem LeLL.ess{M:Nat->Prop}{β:Bq}{w:World}{b s:Nat}{es es':Lc}(h:LeLL es es'):∀{off:Nat},RVess M β w b s es off->RVess M β w b s es' off:=by
 induction h with
 |nil=>exact λh=>h
 |cons a _ c=>rintro off ⟨e,hc,d⟩;exact⟨(leL_len a).trans e,leL_cs a hc,c d⟩
theorem LeLL.length{es es':Lc}(h:LeLL es es'):es'.length=es.length:=by
 induction h with
 |nil=>rfl
 |cons _ _ a=>simp[a]
theorem Le.arr{es es':Lc}(h:LeLL es es'):Le (.arr es) (.arr es'):=by
 rintro M β w y ⟨a,c,rfl,i,g,k⟩;refine⟨a,c,by rw[h.length],by rw[h.length];exact i,g,k.imp (λe=>?_) ?_⟩;subst e;cases h;rfl;rintro⟨b,d,s,rfl,l,f,j⟩;exact⟨b,d,s,rfl,l,f,h.ess j⟩
theorem LeLL.refl:∀es,LeLL es es
 |[]=> .nil
 |e::es=> .cons (LeL.refl e) (LeLL.refl es)
section
variable {P:Go.Program}{T:Nat}{x y:Operand}
end
abbrev iq:=Int×Int×Nat
def nV(r:iq):Rat:=rk r.1 r.2.1 r.2.2
def nR(l:List iq):Lc:=l.map λr=>nuC r.1 r.2.1 r.2.2
def nL(l:List iq):Lq:=l.map nV
abbrev rL(l:Lq):Lc:=rE (l.map rq)
def okR(l:List iq):Prop:=∀r∈l,mc r.1/\mc r.2.1/\r.2.2<=255
theorem er(l:List iq):∀e∈nR l,∀c∈e,Closed c:=by
 intro e a c hc;obtain⟨r,_,rfl⟩:=List.mem_map.1 a;exact jw _ _ _ c hc
theorem mr(l:Lq):∀e∈rL l,∀c∈e,Closed c:=cQ _
def liS(l:List iq):Lq->Nat->AState
 |[],i=>⟨[(0,.arr (nR l)),(4,.emp),(5,.emp),(6,i64 i)],[],1,33⟩
 |q::Q,i=>⟨[(0,.arr (nR l)),(4,.lsl 1 0 (Q.length+1) none 3),(5,.lsl 2 0 (Q.length+1) none 4),(6,i64 i)],[(1,some ⟨42,3,pE (q::Q)⟩),(2,some ⟨47,4,rL (q::Q)⟩)],3,33⟩
theorem rn(l:List iq)(i:Nat):liS l [] i=⟨[(0,.arr (nR l)),(4,.emp),(5,.emp),(6,i64 i)],[],1,33⟩:=rfl
theorem l9(l:List iq)(q:Rat)(Q:Lq)(i:Nat):liS l (q::Q) i=⟨[(0,.arr (nR l)),(4,.lsl 1 0 (Q.length+1) none 3),(5,.lsl 2 0 (Q.length+1) none 4),(6,i64 i)],[(1,some ⟨42,3,pE (q::Q)⟩),(2,some ⟨47,4,rL (q::Q)⟩)],3,33⟩:=rfl
theorem fs_List(l:List iq)(hl:l.length<=1099511627776)(hb:okR l):FS 115 [.arr (nR l)] (.tup [.arr (pE (nL l)),.arr (rL (nL l))]):=by
 have r:∀q:Rat,∀e∈[rC (rq q)],∀c∈e,Closed c:=λq=>mr [q];refine f_n Tryz.func115 ?_ ?_;exact ae (aK (er l)) af;refine r_z 2 ?_;refine r_z 1 ?_;refine r_z 1 ?_;refine ac (r_z 1 ?_);refine aC (λ_:Unit=>liS l (nL l) l.length) (λ_=>True) ?_ ?_;refine ah (ay (λi:Nat=>liS l (nL (l.take i)) i) (λi=>l.length- i) (λi=>i<=l.length) 0 (Nat.zero_le _) ?_ ?_);show SEnt _ (liS l [] 0);rw[rn];have:=(aK (er l));exact s_f [];rintro i s;have p:(nR l).length=l.length:=by simp[nR]
 by_cases hlt:i< l.length
 ·obtain⟨n,o⟩:∃n,l[i]?=some n:=⟨_,List.getElem?_eq_getElem hlt⟩
  have a:(nR l)[((i:Nat):Int).toNat]?=some (nuC n.1 n.2.1 n.2.2):=by
   show(nR l)[i]?=_;simp[nR,o]
  obtain⟨j,m,k⟩:=hb n (List.mem_of_getElem? o);have b:=og n.1 n.2.1 n.2.2 j m k;obtain⟨v,hv⟩:∃v,v=rk n.1 n.2.1 n.2.2:=⟨_,rfl⟩;rw[<-hv] at b;have d:nL (l.take (i+1))=nL (l.take i)++[v]:=by rw[cO o];simp[nL,nV,hv]
  have f:(nL (l.take i)).length=i:=by simp[nL];omega
  cases hQ:nL (l.take i) with
  |nil=>
   simp only[rn];refine ac (r_z 4 ?_);refine ar rfl (λh=>?_) (λh=>?_);rotate_left;exact absurd h (by simp[nR];omega);refine aj (ac (ah (s_r 12 ?_)));refine a_2 ?_;refine i_x a ?_;refine l_x a ?_;refine c_s (b) ?_;refine a_z ?_;refine r_d aX 10 ?_;refine a_8 ?_;refine a_2 ?_;refine aq (n_k ?_);refine r_m 3 ?_;refine a_z ?_;refine⟨i+1,ω,hlt,?_⟩;simp only[d,hQ,List.nil_append,l9];refine s_x [(1,4),(2,5)] (λhs=>e_38) (λhs=>?_)
   ·repeat' (first|exact aB|refine h_c ?_ ?_|exact ba hs (aQ [v])|exact ba hs (mr [v])|exact bG|refine aA ?_|exact av|refine am ?_ ?_|exact ao hs (aK (er l))|exact aW)
  |cons q Q=>
   rw[hQ] at f;simp at f;simp only[l9];refine ac (r_z 4 ?_);refine ar rfl (λh=>?_) (λh=>?_);rotate_left;exact absurd h (by simp[nR];omega);refine aj (ac (ah (s_r 12 ?_)));refine a_2 ?_;refine i_x a ?_;refine l_x a ?_;refine c_s (b) ?_;refine a_z ?_;refine r_d aX 10 ?_;refine a_8 ?_;refine a_2 ?_;refine aq (n_k ?_);refine r_m 3 ?_;refine a_z ?_;refine⟨i+1,ω,hlt,?_⟩;simp only[d,hQ,List.cons_append,l9];have e:pE (q::Q)++[qC v]=pE (q::(Q++[v])):=by simp[pE]
   have e2:rL (q::Q)++[rC (rq v)]=rL (q::(Q++[v])):=by simp[rE]
   refine s_x [(1,4),(2,5)] (λhs=>e_38) (λhs=>?_) e_1
   ·repeat' (first|exact aB|refine h_c ?_ ?_|exact aJ hs e (aQ _)|exact aJ hs e2 (mr _)|exact bG|refine aA ?_|exact av|refine am ?_ ?_|exact ao hs (aK (er l))|exact aW)
 have g:i=l.length:=ω
 subst g;simp only[List.take_length];cases hQ:nL l with
 |nil=>
  simp only[rn];refine ac (r_z 4 ?_);refine ar rfl (λh=>?_) (λh=>?_);exact absurd h (by simp[nR]);refine ax ⟨(),trivial,?_⟩;simp only[hQ,rn];have:=(aK (er l));exact s_f []
 |cons q Q=>
  simp only[l9];refine ac (r_z 4 ?_);refine ar rfl (λh=>?_) (λh=>?_);exact absurd h (by simp[nR]);refine ax ⟨(),trivial,?_⟩;simp only[hQ,l9];have:=(aK (er l));exact s_f []
 rintro _ _;cases hQ:nL l with
 |nil=>
  simp only[rn];refine r_z 4 ?_;refine ai (Fin.many ⟨_,_,rfl,rfl,⟨_,_,rfl,rfl,rfl⟩⟩ (nle rfl) ?_);exact am (Cv.emp _) (am (Cv.emp _) av)
 |cons q Q=>
  simp only[l9];refine r_z 4 ?_;refine ai (Fin.many ⟨_,_,rfl,rfl,⟨_,_,rfl,rfl,rfl⟩⟩ (nle rfl) ?_);exact am (Cv.sealE aF rfl (λ_ _ h=>by cases h) rfl ψ (aQ _)) (am (Cv.sealE aF rfl (λ_ _ h=>by cases h) rfl ψ (mr _)) av)
theorem Cm(l:List iq)(hl:l.length<=1099511627776)(hb:okR l):FS 40 [.arr (nR l)] (.tup [.arr (pE (nL l)),.arr (rL (nL l))]):=by
 refine f_n Tryz.func40 ?_ ?_;exact ae (aK (er l)) af;refine r_z 2 ?_;refine r_c 7 (fs_List l hl hb) ?_;refine a_z ?_;refine r_z 4 ?_;refine ai (Fin.many ⟨_,_,rfl,rfl,⟨_,_,rfl,rfl,rfl⟩⟩ (nle rfl) ?_);exact am (ao aF (aK (aQ _))) (am (ao aF (aK (mr _))) av)
theorem dec_one{n:Nat}(h:Lib.decDigits n=[49]):n=1:=by
 by_cases h1:n< 10;rw[Lib.decDigits_one h1] at h;have:∀n,n< 10->[UInt8.ofNat (48+n)]=[49]->n=1:=δ
 exact this n h1 h;have a:=Lib.decDigits_length n;rw[h,Lib.nDigits_big h1] at a;have:=Lib.nDigits_pos (n/ 10);simp at a;omega
theorem Fm(n:Nat):ztx (n:Int)=Lib.decDigits n:=by
 unfold ztx;rw[if_neg ω,Int.natAbs_natCast];rfl
theorem Fo(z:Int):(ztx z).length<=bl z.natAbs+2:=by
 have:=xf z.natAbs;unfold ztx;split <;> simp <;> omega
theorem Kj(x:RQ)(hx:rok x)(h:qs x.1<=68719476736):FS 58 [.agg (rC x)] (tx (qtx x.1)):=by
 have f:=Nat.le_trans (dA x.1) h;have b:=Nat.le_trans (dr x.1) h;have a:=Cd x.1.num f;have zd:=Cd (x.1.den:Int) (by rw[Int.natAbs_natCast];exact b);have ln:=Fo x.1.num;have c:=Fo (x.1.den:Int);rw[Int.natAbs_natCast] at c;have d:Closed (.aptr [rC x] 0 0):=bi (cK x);refine f_c Tryz.func58 ?_;refine r_z 2 ?_;by_cases h1:x.1.den=1;have e1:decide (ztx (x.1.den:Int)=[49])=true:=decide_eq_true (by rw[h1];decide+kernel);refine ac (r_c 4 (fi x hx) ?_);refine c_s (zd) ?_;refine o_0 (.bin rfl rfl (vT jW e1)) ?_;refine aq ?_;refine cT (r_c 4 (a) ?_);refine a_z ?_;exact ai (aS rfl (by rw[Jm,if_pos h1,List.append_nil]) (ak _));have e1:decide (ztx (x.1.den:Int)=[49])=false:=decide_eq_false λe=>h1 (dec_one (by rw[<-Fm];exact e));refine ac (r_c 4 (fi x hx) ?_);refine c_s (zd) ?_;refine o_0 (.bin rfl rfl (vF jW e1)) ?_;refine aq ?_;refine cF (aj (ac (r_d aX 9 ?_)));refine c_s (a) ?_;refine o_0 (.bin rfl rfl (fw (m:=[47]) χ)) ?_;refine c_s (fi x hx) ?_;refine c_s (zd) ?_;refine o_0 (.bin rfl rfl (fw χ)) ?_;refine a_1 ?_;refine aq (n_k ?_);exact ai (aS rfl (by rw[Jm,if_neg h1,Fm,List.append_assoc];rfl) (ak _))
theorem Ce(q:Rat)(x:RQ)(hx:rok x)(h:x.1=q)(hs:qs q<=68719476736):FS 18 [.agg (qC q),.agg (rC x)] (bln true):=by
 subst h;have e1:decide (qtx x.1=qtx x.1)=true:=decide_eq_true rfl;refine f_c Tryz.func18 ?_;refine r_z 3 ?_;refine ac (r_d aX 6 ?_);refine c_s (Ib x.1 hs) ?_;refine c_s (Kj x hx hs) ?_;refine o_0 (.bin rfl rfl (vT jW e1)) ?_;refine a_1 ?_;refine aq (n_k ?_);exact ai (t_e (ak _))
def vR(x:List RQ):Lq:=x.map (·.1)
def okX(x:List RQ):Prop:=∀y∈x,rok y
def dR(x:List RQ):List RQ:=x.take (ap (vR x)).length
theorem j9(x:List RQ):vR (dR x)=ap (vR x):=by
 unfold dR;rw[vR,List.map_take];exact(oF (vR x)).symm
theorem nS{x:List RQ}(h:okX x):okX (dR x):=λy a=>h y (List.mem_of_mem_take a)
@[simp] theorem cb (x:List RQ):(vR x).length=x.length:=by simp[vR]
def lkS(l:Lq)(x:List RQ):Nat->AState
 |i=>⟨[(0,.arr (pE l)),(1,.arr (rE x)),(5,i64 i)],[],1,27⟩
theorem KJ(l:Lq)(x:List RQ)(hx:okX x)(h:vR x=l)(hs:bdL l 68719476736)(hl:l.length<=1099511627776):FS 62 [.arr (pE l),.arr (rE x)] (bln true):=by
 have a:x.length=l.length:=by rw[<-h];simp
 refine f_c Tryz.func62 ?_;refine r_z 1 ?_;refine ac (s_r 5 ?_);refine a_4 ?_;refine o_0 (.bin rfl rfl (vF cm ((by rw[a];simp)))) ?_;refine aq ?_;refine cF (aj (ac (r_z 1 ?_)));refine aC (λ_:Unit=>⟨[(0,.arr (pE l)),(1,.arr (rE x))],[],1,27⟩) (λ_=>True) ?_ ?_;refine ah (ay (lkS l x) (λi=>l.length- i) (λi=>i<=l.length) 0 (Nat.zero_le _) ?_ ?_);simp only[lkS.eq_1];exact s_e [];rintro i f;simp only[lkS.eq_1];by_cases hlt:i< l.length;obtain⟨y,b⟩:∃y,x[i]?=some y:=⟨_,List.getElem?_eq_getElem ω⟩;have e:l[i]?=some y.1:=by rw[<-h,vR,List.getElem?_map,b];rfl
 have d:(pE l)[((i:Nat):Int).toNat]?=some (qC y.1):=pE_get e;have c:(rE x)[((i:Nat):Int).toNat]?=some (rC y):=fV b;refine ac (q_z 4 ?_);refine cT (aj (ac (ah (ac (r_d aX 10 ?_)))));refine a_2 ?_;refine i_x d ?_;refine l_x d ?_;refine a_2 ?_;refine i_x c ?_;refine l_x c ?_;refine c_s (Ce y.1 y (hx y (List.mem_of_getElem? b)) rfl (hs _ (List.mem_of_getElem? e))) ?_;refine a_1 ?_;refine aq (n_k ?_);refine cF (aj (r_m 3 ?_));refine a_z ?_;refine⟨i+1,ω,hlt,?_⟩;exact s_e [];refine ac (q_z 4 ?_);refine cF (ax ⟨(),trivial,?_⟩);exact s_e [];rintro _ _;refine r_z 1 ?_;exact ai (t_e (ak _))
def rtmS(x:List RQ):Nat->AState
 |n=>⟨[(0,.arr (rE x)),(3,i64 n)],[],1,23⟩
theorem fJ(x:List RQ)(hl:x.length<=1099511627776):FS 63 [.arr (rE x)] (.arr (rE (dR x))):=by
 obtain⟨v,hv⟩:∃v,v=vR x:=⟨_,rfl⟩;have i:v.length=x.length:=by rw[hv];simp
 refine f_c Tryz.func63 ?_;refine r_z 1 ?_;refine r_z 3 ?_;refine bD (rtmS x) (λn=>n<=v.length/\ap v=v.take n) ?_ ?_;refine ah (ay (rtmS x) (λn=>n) (λn=>n<=v.length/\ap v=ap (v.take n)) v.length ⟨Nat.le_refl _,by rw[List.take_length]⟩ ?_ ?_);simp only[rtmS.eq_1];rw[i];exact s_e [];rintro n ⟨o,a⟩;simp only[rtmS.eq_1];cases n with
 |zero=>
  refine ac (s_r 11 ?_);refine a_1 ?_;refine o_0 (.bin rfl rfl (vF jb (ψ))) ?_;refine a_z ?_;refine cF (ax ⟨0,⟨Nat.zero_le _,?_⟩,?_⟩);rw[a];rfl;simp only[rtmS.eq_1];exact s_e []
 |succ n=>
  obtain⟨y,m⟩:∃y,x[n]?=some y:=⟨_,List.getElem?_eq_getElem ω⟩;have p:v[n]?=some y.1:=by rw[hv,vR,List.getElem?_map,m];rfl
  have c:(rE x)[(((n+1:Nat):Int)- 1).toNat]?=some (rC y):=by
   rw[show(((n+1:Nat):Int)- 1).toNat=n by omega];exact fV m
  have hs:ap (v.take (n+1))=if y.1=0 then ap (v.take n) else v.take (n+1):=by
   rw[cO p,mG]
  by_cases h0:y.1=0;refine ac (s_r 11 ?_);refine d_6 ?_;refine br rfl rfl rfl (.index_a rfl rfl ω c rfl te_78.h) rfl rfl ?_;refine br rfl rfl rfl (.load_a rfl c TG.h TS.h (nle rfl)) rfl rfl ?_;refine c_s (rM y) ?_;refine br rfl rfl rfl (.bin rfl rfl (vT bJ ((by rw[h0];decide)))) rfl rfl ?_;refine a_z ?_;refine cT (aj (ah (r_m 3 ?_)));refine a_z ?_;refine⟨n,Nat.lt_succ_self n,⟨ω,?_⟩,?_⟩;rw[a,hs,if_pos h0];exact s_e []
  have q:(sgZ y.1.num==(0:Int))=false:=by
   rw[beq_eq_false_iff_ne];exact λe=>h0 (sgZ_num_eq.1 e)
  refine ac (s_r 11 ?_);refine d_6 ?_;refine br rfl rfl rfl (.index_a rfl rfl ω c rfl te_78.h) rfl rfl ?_;refine br rfl rfl rfl (.load_a rfl c TG.h TS.h (nle rfl)) rfl rfl ?_;refine c_s (rM y) ?_;refine br rfl rfl rfl (.bin rfl rfl (vF bJ (q))) rfl rfl ?_;refine a_z ?_;refine cF (ax ⟨n+1,⟨o,?_⟩,?_⟩);rw[a,hs,if_neg h0];simp only[rtmS.eq_1];exact s_e []
 rintro n ⟨o,a⟩;simp only[rtmS.eq_1];have j:(ap v).length=n:=by rw[a];simp;omega
 have b:dR x=x.take n:=by unfold dR;rw[<-hv,j]
 cases n with
 |zero=>
  refine s_r 5 ?_;refine a_2 ?_;refine o_0 (.sa_h rfl rfl (h:=0) rfl ψ te_78.h (eQ _)) ?_;refine o_0 (.append0 rfl rfl rfl te_78.h rfl rfl rfl (.arr (es:=[]) ψ)) ?_;refine a_z ?_;refine ai ?_;rw[b];exact Fin.tmpN rfl
 |succ n=>
  obtain⟨X,g⟩:∃X,X=x.take (n+1):=⟨_,rfl⟩;have f:X.length=n+1:=by rw[g];simp;omega
  have k:rE X≠[]:=λe=>by have:=congrArg List.length e;simp[f] at this
  have d:(rE x).take (n+1)=rE X:=by rw[rE_take,g]
  have l:(rE x).take (n+1)≠[]:=by rw[d];exact k
  refine s_r 5 ?_;refine a_2 ?_;refine o_0 (.sa_h rfl rfl (h:=n+1) rfl χ te_78.h (eQ _)) ?_;refine o_1 (.append_e rfl rfl rfl te_78.h rfl rfl rfl (.arr (by rw[d];exact eQ _)) (by first|assumption|(simp;done)) TZ.h rfl TB.h d_o μ) ?_;refine a_z ?_;refine ai ?_;rw[b,<-g,<-d];exact Fin.tmpS rfl rfl rfl rfl (by rw[d];exact cQ _)
theorem rY(l:Lq)(x:List RQ)(hx:okX x)(h:ap (vR x)=l)(hs:bdL l 68719476736)(hl:x.length<=1099511627776):FS 20 [.arr (pE l),.arr (rE x)] (bln true):=by
 have a:l.length<=x.length:=by rw[<-h];have:=bh (vR x);simpa using this
 refine f_c Tryz.func20 ?_;refine r_z 1 ?_;refine r_c 5 (fJ x hl) ?_;refine c_s (KJ l (dR x) (nS hx) ((j9 x).trans h) hs ω) ?_;refine a_z ?_;exact ai (t_e (ak _))
def oS(t n:Nat)(fr:Fr):List RQ->AState
 |[]=>⟨(t,.emp)::fr,[],1,n⟩
 |y::Y=>⟨(t,.lsl 1 0 (Y.length+1) none 4)::fr,[(1,some ⟨47,4,rE (y::Y)⟩)],2,n⟩
theorem iN(t n:Nat)(fr:Fr):oS t n fr []=⟨(t,.emp)::fr,[],1,n⟩:=rfl
theorem dx(t n:Nat)(fr:Fr)(y:RQ)(Y:List RQ):oS t n fr (y::Y)=⟨(t,.lsl 1 0 (Y.length+1) none 4)::fr,[(1,some ⟨47,4,rE (y::Y)⟩)],2,n⟩:=rfl
def rP(v:Lq):List RQ:=v.map rq
theorem dh(v:Lq):okX (rP v):=λy a=>by obtain⟨q,_,rfl⟩:=List.mem_map.1 a;exact bK q
theorem b5(v:Lq):vR (rP v)=v:=by
 unfold vR rP;rw[List.map_map];exact List.map_id' v
@[simp] theorem b7 (v:Lq):(rP v).length=v.length:=by simp[rP]
theorem nH(v:Lq):dR (rP v)=rP (ap v):=by
 unfold dR;rw[b5,rP,<-List.map_take,<-oF];rfl
theorem kG{x:List RQ}{i:Nat}(h:i< x.length):∃y,x[i]?=some y/\y.1=coP (vR x) i:=by
 refine⟨_,List.getElem?_eq_getElem h,?_⟩;unfold coP vR;rw[List.getD_eq_getElem?_getD,List.getElem?_map,List.getElem?_eq_getElem h];rfl
theorem uk{x:List RQ}{s:Nat}(h:bdL (vR x) s){y:RQ}{i:Nat}(hy:x[i]?=some y):qs y.1<=s:=h _ (List.mem_map.2 ⟨y,List.mem_of_getElem? hy,rfl⟩)
theorem take_succ'{V:Lq}{j:Nat}(h:j< V.length):V.take (j+1)=V.take j++[coP V j]:=cO (ci h)
theorem π{p:Prop}(h:p:=by rw[List.drop_zero];exact List.take_of_length_le (by simp)):p:=h
theorem wP(x:List RQ)(s:Nat)(hx:okX x)(hs:bdL (vR x) s)(hlim:s+64<=1099511627776)(hl:x.length<=1000000):FS 72 [.arr (rE x)] (.arr (rE (rP (aV (vR x))))):=by
 obtain⟨V,h⟩:∃V,V=aN ((vR x).length- 1) (λi=>coP (vR x) (i+1) * ((i+1:Nat):Int)):=⟨_,rfl⟩;refine f_c Tryz.func72 ?_;refine r_z 1 ?_;refine r_z 1 ?_;refine ac (r_z 1 ?_);have t:V.length=x.length- 1:=by rw[h];simp
 refine aC (λ_:Unit=>oS 3 23 [(0,.arr (rE x))] (rP V)) (λ_=>True) ?_ ?_;refine ah (ay (λj:Nat=>oS 3 23 [(4,i64 ((j+1:Nat):Int)),(0,.arr (rE x))] (rP (V.take j))) (λj=>V.length- j) (λj=>j<=V.length) 0 (Nat.zero_le _) ?_ ?_);show SEnt _ (oS _ _ _ []);rw[iN];exact s_e [];rintro j u;by_cases hlt:j< V.length;obtain⟨y,n,m⟩:=kG (x:=x) (i:=j+1) ω;have r:=uk hs n;have p:=hx y (List.mem_of_getElem? n);have d:(rE x)[((j+1:Nat):Int).toNat]?=some (rC y):=fV n;obtain⟨c,hc⟩:∃c,c=y.1* ((j+1:Nat):Int):=⟨_,rfl⟩;have l:coP V j=c:=by rw[h,iZ,if_pos χ,<-m,hc]
 have o:=lA y (rq (((j+1:Nat):Int):Rat)) p (bK _) (by have:=nN (j+1) ω;show qs y.1+qs (((j+1:Nat):Int):Rat)<=_;omega);rw[show y.1* (rq (((j+1:Nat):Int):Rat)).1=c by rw[hc];rfl] at o;have f:=take_succ' hlt;rw[l] at f;have b:rP (V.take (j+1))=rP (V.take j)++[rq c]:=by rw[f];simp[rP]
 have g:(rP (V.take j)).length=j:=χ
 cases hQ:rP (V.take j) with
 |nil=>
  rw[hQ,List.nil_append] at b;simp only[iN];refine ac (q_z 4 ?_);refine cT (aj (ac (ah (r_d aX 11 ?_))));refine a_3 ?_;refine i_x d ?_;refine l_x d ?_;refine c_s (ek ((j+1:Nat):Int) ω) ?_;refine c_s (o) ?_;refine a_3 ?_;refine aq (n_k ?_);refine r_m 3 ?_;refine a_z ?_;refine⟨j+1,ω,hlt,?_⟩;rw[b,dx];exact s_f [(1,3)]
 |cons q Q=>
  rw[hQ] at g;rw[hQ,List.cons_append] at b;simp at g;simp only[dx];refine ac (q_z 4 ?_);refine cT (aj (ac (ah (r_d aX 11 ?_))));refine a_3 ?_;refine i_x d ?_;refine l_x d ?_;refine c_s (ek ((j+1:Nat):Int) ω) ?_;refine c_s (o) ?_;refine a_3 ?_;refine aq (n_k ?_);refine r_m 3 ?_;refine a_z ?_;refine⟨j+1,ω,hlt,?_⟩;rw[b,dx];have e:rE (q::Q)++[rC (rq c)]=rE (q::(Q++[rq c])):=by simp[rE]
  exact s_x [(1,3)] (λhs=>dD) (λhs=>e_8) e_1
 have k:j=V.length:=ω
 subst k;rw[List.take_length];cases hQ:rP V with
 |nil=>
  simp only[iN];refine ac (q_z 4 ?_);refine cF (ax ⟨(),trivial,?_⟩);exact s_e []
 |cons q Q=>
  simp only[dx];refine ac (q_z 4 ?_);refine cF (ax ⟨(),trivial,?_⟩);exact s_f [(1,3)]
 rintro _ _;have a:=fJ (rP V) χ;rw[nH] at a;cases hQ:rP V with
 |nil=>
  rw[hQ] at a;simp only[iN];refine r_c 3 (a) ?_;refine a_z ?_;refine ai (aS rfl ?_ ?_);rw[h];rfl;exact ca _
 |cons q Q=>
  rw[hQ] at a;simp only[dx];refine s_r 3 ?_;refine a_1 ?_;refine o_1 (.callS1 rfl rfl rfl (.shut rfl d_n (.nil)) rfl ((FSpec.argE a π))) ?_;refine a_z ?_;refine ai (aS rfl ?_ ?_);rw[h];rfl;exact ca _
theorem jq(x:List RQ)(k:RQ)(s:Nat)(hx:okX x)(hk:rok k)(hs:bdL (vR x) s)(hlim:s+qs k.1<=1099511627776)(hl:x.length<=1000000):FS 157 [.arr (rE x),.agg (rC k)] (.arr (rE (rP (aR (vR x) k.1)))):=by
 obtain⟨V,h⟩:∃V,V=aN (vR x).length (λi=>coP (vR x) i* k.1):=⟨_,rfl⟩;refine f_c Tryz.func157 ?_;have t:Closed (.aptr [rC k] 0 0):=bi (cK k);refine r_z 2 ?_;refine AWp.ent (st':=⟨[(3,.aptr [rC k] 0 0),(0,.arr (rE x))],[],1,24⟩) ?_ ?_;have:=cK k;exact s_f [];refine r_z 1 ?_;refine ac (r_z 1 ?_);have v:V.length=x.length:=by rw[h];simp
 refine aC (λ_:Unit=>oS 5 24 [(3,.aptr [rC k] 0 0),(0,.arr (rE x))] (rP V)) (λ_=>True) ?_ ?_;refine ah (ay (λj:Nat=>oS 5 24 [(6,i64 ((j:Nat):Int)),(3,.aptr [rC k] 0 0),(0,.arr (rE x))] (rP (V.take j))) (λj=>V.length- j) (λj=>j<=V.length) 0 (Nat.zero_le _) ?_ ?_);show SEnt _ (oS _ _ _ []);rw[iN];exact s_e [];rintro j w;by_cases hlt:j< V.length;obtain⟨y,o,n⟩:=kG (x:=x) (i:=j) ω;have u:=uk hs o;have r:=hx y (List.mem_of_getElem? o);have d:(rE x)[((j:Nat):Int).toNat]?=some (rC y):=fV o;obtain⟨c,hc⟩:∃c,c=y.1* k.1:=⟨_,rfl⟩;have m:coP V j=c:=by rw[h,iZ,if_pos χ,<-n,hc]
 have p:=lA y k r hk ω;rw[<-hc] at p;have f:=take_succ' hlt;rw[m] at f;have b:rP (V.take (j+1))=rP (V.take j)++[rq c]:=by rw[f];simp[rP]
 have g:(rP (V.take j)).length=j:=χ
 cases hQ:rP (V.take j) with
 |nil=>
  rw[hQ,List.nil_append] at b;simp only[iN];refine ac (q_z 4 ?_);refine cT (aj (ac (ah (r_d aX 10 ?_))));refine a_3 ?_;refine i_x d ?_;refine l_x d ?_;refine c_s (p) ?_;refine a_3 ?_;refine aq (n_k ?_);refine r_m 3 ?_;refine a_z ?_;refine⟨j+1,ω,hlt,?_⟩;rw[b,dx];exact s_f [(1,5)]
 |cons q Q=>
  rw[hQ] at g;rw[hQ,List.cons_append] at b;simp at g;simp only[dx];refine ac (q_z 4 ?_);refine cT (aj (ac (ah (r_d aX 10 ?_))));refine a_3 ?_;refine i_x d ?_;refine l_x d ?_;refine c_s (p) ?_;refine a_3 ?_;refine aq (n_k ?_);refine r_m 3 ?_;refine a_z ?_;refine⟨j+1,ω,hlt,?_⟩;rw[b,dx];have e:rE (q::Q)++[rC (rq c)]=rE (q::(Q++[rq c])):=by simp[rE]
  exact s_x [(1,5)] (λhs=>dD) (λhs=>e_8) e_1
 have l:j=V.length:=ω
 subst l;rw[List.take_length];cases hQ:rP V with
 |nil=>
  simp only[iN];refine ac (q_z 4 ?_);refine cF (ax ⟨(),trivial,?_⟩);exact s_e []
 |cons q Q=>
  simp only[dx];refine ac (q_z 4 ?_);refine cF (ax ⟨(),trivial,?_⟩);exact s_f [(1,5)]
 rintro _ _;have a:=fJ (rP V) χ;rw[nH] at a;cases hQ:rP V with
 |nil=>
  rw[hQ] at a;simp only[iN];refine r_c 3 (a) ?_;refine a_z ?_;refine ai (aS rfl ?_ ?_);rw[h];rfl;exact ca _
 |cons q Q=>
  rw[hQ] at a;simp only[dx];refine s_r 3 ?_;refine a_1 ?_;refine o_1 (.callS1 rfl rfl rfl (.shut rfl d_n (.nil)) rfl ((FSpec.argE a π))) ?_;refine a_z ?_;refine ai (aS rfl ?_ ?_);rw[h];rfl;exact ca _
theorem An(x:List RQ)(s:Nat)(hx:okX x)(hs:bdL (vR x) s)(hlim:s+64<=1099511627776)(hl:x.length<=1000000):FS 228 [.arr (rE x)] (.arr (rE (rP (aM (vR x))))):=by
 obtain⟨V,k⟩:∃V,V=aN ((vR x).length+1) (λi=>if i=0 then 0 else coP (vR x) (i- 1) / ((i:Nat):Int)):=⟨_,rfl⟩;refine f_c Tryz.func228 ?_;have t:FS 59 [i64 0] (.agg (rC (rq 0))):=ek 0 δ;refine r_z 1 ?_;refine r_c 3 (t) ?_;refine a_z ?_;refine ac (r_z 1 ?_);have p:V.length=x.length+1:=by rw[k];simp
 refine aC (λ_:Unit=>oS 3 26 [(0,.arr (rE x))] (rP V)) (λ_=>True) ?_ ?_;refine ah (ay (λj:Nat=>oS 3 26 [(4,i64 ((j:Nat):Int)),(0,.arr (rE x))] (rP (V.take (j+1)))) (λj=>x.length- j) (λj=>j<=x.length) 0 (Nat.zero_le _) ?_ ?_)
 have e0:rP (V.take (0+1))=[rq 0]:=by
  rw[take_succ' ω,k,iZ,if_pos ψ,if_pos rfl,List.take_zero];rfl
 show SEnt _ (oS _ _ _ (rP (V.take (0+1))));rw[e0,dx];exact s_f [(1,3)];rintro j z;have a:(rP (V.take (j+1))).length=j+1:=χ
 by_cases hlt:j< x.length;obtain⟨y,o,n⟩:=kG (x:=x) (i:=j) hlt;have v:=uk hs o;have r:=hx y (List.mem_of_getElem? o);have h:(rE x)[((j:Nat):Int).toNat]?=some (rC y):=fV o;obtain⟨c,hc⟩:∃c,c=y.1/ ((j+1:Nat):Int):=⟨_,rfl⟩
 have m:coP V (j+1)=c:=by
  rw[k,iZ,if_pos χ,if_neg ω,hc,n];rfl
 have l:=ek ((j+1:Nat):Int) ω;have w:(rq (((j+1:Nat):Int):Rat)).1≠0:=by show(((j+1:Nat):Int):Rat)≠0;exact λe=>by have:=Rat.intCast_inj.1 (e.trans (by rfl:(0:Rat)=((0:Int):Rat)));omega
 have u:=o3 y (rq (((j+1:Nat):Int):Rat)) r (bK _) w (by have:=nN (j+1) ω;show qs y.1+qs (((j+1:Nat):Int):Rat)<=_;omega);rw[show y.1/ (rq (((j+1:Nat):Int):Rat)).1=c by rw[hc];rfl] at u;have g:=take_succ' (V:=V) (j:=j+1) ω;rw[m] at g;have f:rP (V.take (j+1+1))=rP (V.take (j+1))++[rq c]:=by rw[g];simp[rP]
 cases hQ:rP (V.take (j+1)) with
 |nil=>rw[hQ] at a;simp at a
 |cons q Q=>
  rw[hQ] at a;rw[hQ,List.cons_append] at f;simp at a;simp only[dx];refine ac (q_z 4 ?_);refine cT (aj (ac (ah (r_d aX 12 ?_))));refine a_3 ?_;refine i_x h ?_;refine l_x h ?_;refine c_s (l) ?_;refine c_s (u) ?_;refine a_3 ?_;refine aq (n_k ?_);refine r_m 3 ?_;refine a_z ?_;refine⟨j+1,ω,hlt,?_⟩;rw[f,dx];have e:rE (q::Q)++[rC (rq c)]=rE (q::(Q++[rq c])):=by simp[rE]
  exact s_x [(1,3)] (λhs=>dD) (λhs=>e_8) e_1
 have d:V.take (j+1)=V:=List.take_of_length_le ω;rw[d];cases hQ:rP V with
 |nil=>rw[d,hQ] at a;simp at a
 |cons q Q=>
  simp only[dx];refine ac (q_z 4 ?_);refine cF (ax ⟨(),trivial,?_⟩);exact s_f [(1,3)]
 rintro _ _;have b:=fJ (rP V) χ;rw[nH] at b;cases hQ:rP V with
 |nil=>have:=congrArg List.length hQ;simp[p] at this
 |cons q Q=>
  rw[hQ] at b;simp only[dx];refine s_r 3 ?_;refine a_1 ?_;refine o_1 (.callS1 rfl rfl rfl (.shut rfl d_n (.nil)) rfl ((FSpec.argE b π))) ?_;refine a_z ?_;refine ai (aS rfl ?_ ?_);rw[k];rfl;exact ca _
theorem Bj{x:List RQ}{n:Nat}(h:(ap (vR x)).length=n+1):∃y,(dR x)[n]?=some y/\y.1=aI (vR x)/\y∈x:=by
 have e:=j9 x;have g:=dj h;rw[<-e,vR,List.getElem?_map] at g;cases hy:(dR x)[n]? with
 |none=>rw[hy] at g;cases g
 |some y=>
  rw[hy] at g;exact⟨y,rfl,Option.some.inj g,List.mem_of_mem_take (List.mem_of_getElem? hy)⟩
@[simp] theorem eV (x:List RQ):(dR x).length=(ap (vR x)).length:=by rw[<-j9,cb]
theorem gd(x:List RQ)(hl:x.length<=1000000):FS 41 [.arr (rE x)] (i64 (dt (vR x))):=by
 have a:=bh (vR x);rw[cb,<-eV] at a;refine f_c Tryz.func41 ?_;refine r_z 1 ?_;refine r_c 5 (fJ x ω) ?_;refine a_z ?_;exact ai (aS rfl (by rw[eV];rfl) (ak _))
theorem rO(x:List RQ)(y:RQ)(hl:x.length<=1000000)(hy:(dR x).getLastD (rq 0)=y):FS 163 [.arr (rE x)] (.agg (rC y)):=by
 have c:FS 59 [i64 0] (.agg (rC (rq 0))):=ek 0 δ;have b:(dR x).length<=x.length:=by rw[eV,<-cb x];exact bh _
 refine f_c Tryz.func163 ?_;refine r_z 1 ?_;refine r_c 3 (fJ x ω) ?_;refine a_z ?_;cases hX:dR x with
 |nil=>
  rw[hX] at hy;cases hy;refine ac (s_r 3 ?_);refine a_2 ?_;refine o_0 (.bin rfl rfl (vT bJ (decide_eq_true ψ))) ?_;refine aq ?_;refine cT (r_c 2 (c) ?_);refine a_z ?_;exact ai (c_e (c9 (rq 0)))
 |cons a A=>
  rw[hX] at b;rw[hX] at hy
  have d:(rE (a::A))[(((a::A).length:Int)- 1).toNat]?=some (rC y):=by
   refine fV ?_;rw[show(((a::A).length:Int)- 1).toNat=A.length by simp,<-hy];rw[List.getLastD_eq_getLast?,List.getLast?_eq_getElem?];simp
  refine ac (s_r 3 ?_);refine a_2 ?_;refine o_0 (.bin rfl rfl (vF bJ (decide_eq_false χ))) ?_;refine aq ?_;refine cF (aj ?_);have e:(a::A).length=A.length+1:=rfl;refine s_r 7 ?_;refine a_4 ?_;refine i_x d ?_;refine l_x d ?_;refine a_z ?_;exact ai (c_e (c9 y))
theorem Ao(q:Rat):FS 154 [.agg (rC (rq q))] (.arr (rE (rP (eM q)))):=by
 have a:=fJ (rP [q]) ψ;rw[nH] at a;refine f_c Tryz.func154 ?_;refine r_z 2 ?_;refine s_r 4 ?_;refine a_2 ?_;refine o_1 (.callS1 rfl rfl rfl (.shut rfl d_n (.nil)) rfl ((FSpec.argE a π))) ?_;refine a_z ?_;exact ai (t_e (ca _))
theorem rQ(x y:List RQ)(s t:Nat)(hx:okX x)(hy:okX y)(hs:bdL (vR x) s)(ht:bdL (vR y) t)(hlim:s+t+64<=1099511627776)(hxl:x.length<=1000000)(hyl:y.length<=1000000):FS 158 [.arr (rE x),.arr (rE y)] (.arr (rE (rP (fR (vR x) (vR y))))):=by
 obtain⟨V,w⟩:∃V,V=aN (max (vR x).length (vR y).length) (λi=>coP (vR x) i+coP (vR y) i):=⟨_,rfl⟩;have l:FS 59 [i64 0] (.agg (rC (rq 0))):=ek 0 δ;have D:qs (rq 0).1<=64:=δ
 refine f_c Tryz.func158 ?_;refine r_z 1 ?_;refine r_z 1 ?_;refine ac (r_z 1 ?_);have C:V.length=max x.length y.length:=by rw[w];simp
 refine aC (λ_:Unit=>oS 5 47 [(0,.arr (rE x)),(1,.arr (rE y))] (rP V)) (λ_=>True) ?_ ?_;refine ah (ay (λj:Nat=>oS 5 47 [(6,i64 ((j:Nat):Int)),(0,.arr (rE x)),(1,.arr (rE y))] (rP (V.take j))) (λj=>V.length- j) (λj=>j<=V.length) 0 (Nat.zero_le _) ?_ ?_);show SEnt _ (oS _ _ _ []);rw[iN];exact s_e [];rintro j E;have k:(rP (V.take j)).length=j:=χ
 by_cases hjx:j< x.length;by_cases hjy:j< y.length;obtain⟨a,ha,o⟩:=kG (x:=x) (i:=j) hjx;have A:=uk hs ha;have v:=hx a (List.mem_of_getElem? ha);have g:(rE x)[((j:Nat):Int).toNat]?=some (rC a):=fV ha;obtain⟨b,hb,r⟩:=kG (x:=y) (i:=j) hjy;have B:=uk ht hb;have u:=hy b (List.mem_of_getElem? hb);have f:(rE y)[((j:Nat):Int).toNat]?=some (rC b):=fV hb;obtain⟨c,hc⟩:∃c,c=a.1+b.1:=⟨_,rfl⟩;have m:coP V j=c:=by rw[w,iZ,if_pos χ,<-o,<-r,hc]
 have m1:=iS (rq 0) a (bK _) v ω;rw[show(rq 0).1+a.1=a.1 from Rat.zero_add _] at m1;have m2:=iS (rq a.1) b (bK _) u (by show qs a.1+qs b.1<=_;omega);rw[show(rq a.1).1+b.1=c by rw[hc];rfl] at m2;have h:=take_succ' (V:=V) (j:=j) ω;rw[m] at h;have d:rP (V.take (j+1))=rP (V.take j)++[rq c]:=by rw[h];simp[rP]
 cases hQ:rP (V.take j) with
 |nil=>
  rw[hQ,List.nil_append] at d;simp only[iN];refine ac (q_z 10 ?_);refine cT (aj (ac (ah (r_c 3 (l) ?_))));refine a_z ?_;refine ac (q_z 4 ?_);refine cT (r_d aX 7 ?_);refine a_3 ?_;refine i_x g ?_;refine l_x g ?_;refine c_s (m1) ?_;refine a_1 ?_;refine aq (n_k ?_);refine ac (q_z 4 ?_);refine cT (r_d aX 7 ?_);refine a_3 ?_;refine i_x f ?_;refine l_x f ?_;refine c_s (m2) ?_;refine a_1 ?_;refine aq (n_k ?_);refine r_m 5 ?_;refine a_z ?_;refine r_m 3 ?_;refine a_z ?_;refine⟨j+1,ω,ω,?_⟩;rw[d,dx];exact s_f [(1,5)]
 |cons q Q=>
  rw[hQ] at k;rw[hQ,List.cons_append] at d;simp at k;simp only[dx];refine ac (q_z 10 ?_);refine cT (aj (ac (ah (r_c 3 (l) ?_))));refine a_z ?_;refine ac (q_z 4 ?_);refine cT (r_d aX 7 ?_);refine a_3 ?_;refine i_x g ?_;refine l_x g ?_;refine c_s (m1) ?_;refine a_1 ?_;refine aq (n_k ?_);refine ac (q_z 4 ?_);refine cT (r_d aX 7 ?_);refine a_3 ?_;refine i_x f ?_;refine l_x f ?_;refine c_s (m2) ?_;refine a_1 ?_;refine aq (n_k ?_);refine r_m 5 ?_;refine a_z ?_;refine r_m 3 ?_;refine a_z ?_;refine⟨j+1,ω,ω,?_⟩;rw[d,dx];have e:rE (q::Q)++[rC (rq c)]=rE (q::(Q++[rq c])):=by simp[rE]
  exact s_x [(1,5)] (λhs=>dD) (λhs=>e_8) e_1
 obtain⟨a,ha,o⟩:=kG (x:=x) (i:=j) hjx;have A:=uk hs ha;have v:=hx a (List.mem_of_getElem? ha);have g:(rE x)[((j:Nat):Int).toNat]?=some (rC a):=fV ha;obtain⟨c,hc⟩:∃c,c=a.1:=⟨_,rfl⟩;have m:coP V j=c:=by rw[w,iZ,if_pos χ,<-o,ee (p:=vR y) χ,Rat.add_zero,hc]
 have m1:=iS (rq 0) a (bK _) v ω;rw[show(rq 0).1+a.1=a.1 from Rat.zero_add _] at m1;rw[<-hc] at m1;have h:=take_succ' (V:=V) (j:=j) ω;rw[m] at h;have d:rP (V.take (j+1))=rP (V.take j)++[rq c]:=by rw[h];simp[rP]
 cases hQ:rP (V.take j) with
 |nil=>
  rw[hQ,List.nil_append] at d;simp only[iN];refine ac (q_z 10 ?_);refine cT (aj (ac (ah (r_c 3 (l) ?_))));refine a_z ?_;refine ac (q_z 4 ?_);refine cT (r_d aX 7 ?_);refine a_3 ?_;refine i_x g ?_;refine l_x g ?_;refine c_s (m1) ?_;refine a_1 ?_;refine aq (n_k ?_);refine ac (q_z 4 ?_);refine cF (aj (r_m 5 ?_));refine a_z ?_;refine r_m 3 ?_;refine a_z ?_;refine⟨j+1,ω,ω,?_⟩;rw[d,dx];exact s_f [(1,5)]
 |cons q Q=>
  rw[hQ] at k;rw[hQ,List.cons_append] at d;simp at k;simp only[dx];refine ac (q_z 10 ?_);refine cT (aj (ac (ah (r_c 3 (l) ?_))));refine a_z ?_;refine ac (q_z 4 ?_);refine cT (r_d aX 7 ?_);refine a_3 ?_;refine i_x g ?_;refine l_x g ?_;refine c_s (m1) ?_;refine a_1 ?_;refine aq (n_k ?_);refine ac (q_z 4 ?_);refine cF (aj (r_m 5 ?_));refine a_z ?_;refine r_m 3 ?_;refine a_z ?_;refine⟨j+1,ω,ω,?_⟩;rw[d,dx];have e:rE (q::Q)++[rC (rq c)]=rE (q::(Q++[rq c])):=by simp[rE]
  exact s_x [(1,5)] (λhs=>dD) (λhs=>e_8) e_1
 by_cases hjy:j< y.length;obtain⟨b,hb,r⟩:=kG (x:=y) (i:=j) hjy;have B:=uk ht hb;have u:=hy b (List.mem_of_getElem? hb);have f:(rE y)[((j:Nat):Int).toNat]?=some (rC b):=fV hb;obtain⟨c,hc⟩:∃c,c=b.1:=⟨_,rfl⟩;have m:coP V j=c:=by rw[w,iZ,if_pos χ,ee (p:=vR x) χ,<-r,Rat.zero_add,hc]
 have m2:=iS (rq 0) b (bK _) u ω;rw[show(rq 0).1+b.1=c by rw[hc];exact Rat.zero_add _] at m2;have h:=take_succ' (V:=V) (j:=j) ω;rw[m] at h;have d:rP (V.take (j+1))=rP (V.take j)++[rq c]:=by rw[h];simp[rP]
 cases hQ:rP (V.take j) with
 |nil=>
  rw[hQ,List.nil_append] at d;simp only[iN];refine ac (q_z 10 ?_);refine cT (aj (ac (ah (r_c 3 (l) ?_))));refine a_z ?_;refine ac (q_z 4 ?_);refine cF (aj (ac (q_z 4 ?_)));refine cT (r_d aX 7 ?_);refine a_3 ?_;refine i_x f ?_;refine l_x f ?_;refine c_s (m2) ?_;refine a_1 ?_;refine aq (n_k ?_);refine r_m 5 ?_;refine a_z ?_;refine r_m 3 ?_;refine a_z ?_;refine⟨j+1,ω,ω,?_⟩;rw[d,dx];exact s_f [(1,5)]
 |cons q Q=>
  rw[hQ] at k;rw[hQ,List.cons_append] at d;simp at k;simp only[dx];refine ac (q_z 10 ?_);refine cT (aj (ac (ah (r_c 3 (l) ?_))));refine a_z ?_;refine ac (q_z 4 ?_);refine cF (aj (ac (q_z 4 ?_)));refine cT (r_d aX 7 ?_);refine a_3 ?_;refine i_x f ?_;refine l_x f ?_;refine c_s (m2) ?_;refine a_1 ?_;refine aq (n_k ?_);refine r_m 5 ?_;refine a_z ?_;refine r_m 3 ?_;refine a_z ?_;refine⟨j+1,ω,ω,?_⟩;rw[d,dx];have e:rE (q::Q)++[rC (rq c)]=rE (q::(Q++[rq c])):=by simp[rE]
  exact s_x [(1,5)] (λhs=>dD) (λhs=>e_8) e_1
 have z:V.take j=V:=List.take_of_length_le ω;rw[z];cases hQ:rP V with
 |nil=>
  simp only[iN];refine ac (q_z 10 ?_);refine cF (ax ⟨(),trivial,?_⟩);exact s_e []
 |cons q Q=>
  simp only[dx];refine ac (q_z 10 ?_);refine cF (ax ⟨(),trivial,?_⟩);exact s_f [(1,5)]
 rintro _ _;have n:=fJ (rP V) χ;rw[nH] at n;cases hQ:rP V with
 |nil=>
  rw[hQ] at n;simp only[iN];refine r_c 3 (n) ?_;refine a_z ?_;refine ai (aS rfl ?_ ?_);rw[w];rfl;exact ca _
 |cons q Q=>
  rw[hQ] at n;simp only[dx];refine s_r 3 ?_;refine a_1 ?_;refine o_1 (.callS1 rfl rfl rfl (.shut rfl d_n (.nil)) rfl ((FSpec.argE n π))) ?_;refine a_z ?_;refine ai (aS rfl ?_ ?_);rw[w];rfl;exact ca _
theorem DF:rq (((-1:Int)):Rat)=rq (-1):=rfl
theorem Kk(x y:List RQ)(s t:Nat)(hx:okX x)(hy:okX y)(hs:bdL (vR x) s)(ht:bdL (vR y) t)(ht1:1<=t)(hlim:s+t+128<=1099511627776)(hxl:x.length<=1000000)(hyl:y.length<=1000000):FS 164 [.arr (rE x),.arr (rE y)] (.arr (rE (rP (dQ (vR x) (vR y))))):=by
 have a:=ek (-1) δ;rw[DF] at a;have q1:qs (rq (-1)).1<=64:=δ
 have d:=jq y (rq (-1)) t hy (bK _) ht ω hyl
 have hb:bdL (vR (rP (aR (vR y) (rq (-1)).1))) t:=by
  rw[b5];exact G6 ht ht1
 have c:(rP (aR (vR y) (rq (-1)).1)).length<=y.length:=by
  have:=bh (aN (vR y).length λi=>coP (vR y) i* (rq (-1)).1);rw[b7];unfold aR;simp at this⊢;exact this
 have b:=rQ x (rP (aR (vR y) (rq (-1)).1)) s t hx (dh _) hs hb ω hxl ω;rw[b5] at b;refine f_c Tryz.func164 ?_;refine r_z 1 ?_;refine r_c 6 (a) ?_;refine c_s (d) ?_;refine c_s (b) ?_;refine a_z ?_;exact ai (t_e (ca _))
end Go.Proofs.YtjmkjicckobojaaGreatDoor
