/- Part Y19 of the proof. -/
import Derived.Test.YtjmkjicckobojaaGreatDoorY18
set_option linter.all false
namespace Go.Proofs.YtjmkjicckobojaaGreatDoor
open Go.Abs
set_option maxRecDepth 20000
theorem wx(z:Int):FS 246 [i64 z] (bln false):=by
 refine f_c Tryz.func246 ?_;refine r_z 1 ?_;refine r_z 4 ?_;refine ak (a7 rfl ?_ (ah _));simp[bln]
theorem ww(z:Nat):FS 247 [u32 z] (bln false):=by
 refine f_c Tryz.func247 ?_;refine r_z 1 ?_;refine r_z 4 ?_;refine ak (a7 rfl ?_ (ah _));simp[bln]
theorem Au(a b:Int):FS 197 [i64 a,i64 b] (i64 (ff a b)):=by
 refine f_c Tryz.func197 ?_;refine r_z 1 ?_;refine r_c 3 (wx a) ?_;refine a_z ?_;refine r_c 3 (wx b) ?_;refine a_z ?_;refine ae (r_z 1 ?_);refine au rfl (λh=>?_) (λ_=>an ?_);cases h;refine ae (r_z 1 ?_);refine au rfl (λh=>?_) (λ_=>an ?_);cases h;refine ae (r_z 3 ?_);refine au rfl (λh=>?_) (λh=>an ?_);refine r_z 1 ?_;refine ak (a7 rfl ?_ (ah _));simp at h;simp[i64,ofV,ff,h];refine ae (r_z 3 ?_);refine au rfl (λc=>?_) (λc=>an ?_);refine r_z 1 ?_;refine ak (a7 rfl ?_ (ah _));simp at h c;simp[i64,ofV,ff];omega;refine r_z 1 ?_;refine ak (a7 rfl ?_ (ah _));simp at h c;simp[i64,ofV,ff];omega
theorem As(a b:Nat):FS 198 [u32 a,u32 b] (i64 (ff a b)):=by
 refine f_c Tryz.func198 ?_;refine r_z 1 ?_;refine r_c 3 (ww a) ?_;refine a_z ?_;refine r_c 3 (ww b) ?_;refine a_z ?_;refine ae (r_z 1 ?_);refine au rfl (λh=>?_) (λ_=>an ?_);cases h;refine ae (r_z 1 ?_);refine au rfl (λh=>?_) (λ_=>an ?_);cases h;refine ae (r_z 3 ?_);refine au rfl (λh=>?_) (λh=>an ?_);refine r_z 1 ?_;refine ak (a7 rfl ?_ (ah _));simp at h;simp[i64,ofV,ff,h];refine ae (r_z 3 ?_);refine au rfl (λc=>?_) (λc=>an ?_);refine r_z 1 ?_;refine ak (a7 rfl ?_ (ah _));simp at h c;simp[i64,ofV,ff];omega;refine r_z 1 ?_;refine ak (a7 rfl ?_ (ah _));simp at h c;simp[i64,ofV,ff];omega
theorem digs_one{n:Nat}:(ax MB n).length=1/\(ax MB n)[0]?=some 1↔n=1:=by
 constructor;rintro⟨c,a⟩;have:=bO (b:=MB) δ n
 match hd:ax MB n,c,a with
 |[d],_,a=>rw[hd] at this;simp at a;subst a;simpa[ofD] using this.symm
 rintro rfl;rw[fM δ δ];rw[show 1/ MB=0 by decide,c8];simp
theorem fs_one(n:Nat):FS 193 [.agg [mag n]] (bln (n==1)):=by
 refine f_c Tryz.func193 ?_;refine r_z 2 ?_;by_cases h1:(ax MB n).length=1;obtain⟨d,b⟩:∃d,(ax MB n)[0]?=some d:=⟨_,eT ω⟩;have a:(dE (ax MB n))[(0:Int).toNat]?=some [u32 d]:=ei b;refine s_r 12 ?_;refine a_5 ?_;refine y_g rfl χ (.fieldAddr_l rfl TF.h δ) ?_;refine y_g rfl χ (.load_l1 rfl rfl rfl TG.h rfl) ?_;refine y_g rfl χ (.index_a rfl rfl ω a rfl te_36.h) ?_;refine y_g rfl χ (.load_a1 rfl a TG.h rfl) ?_;refine y_g rfl χ (.bin rfl rfl cK) ?_;refine o_0 (.pickT rfl χ rfl) ?_;refine a_z ?_;refine ak (a7 rfl ?_ (ah _));simp only[bln];congr 2;rw[Nv];have:=digs_one (n:=n);simp only[h1,b,true_and,Option.some.injEq] at this;simp only[beq_iff_eq,<-this];omega;refine s_r 12 ?_;refine a_5 ?_;refine n_g rfl χ ?_;refine n_g rfl χ ?_;refine n_g rfl χ ?_;refine n_g rfl χ ?_;refine n_g rfl χ ?_;refine o_0 (.pickF rfl χ rfl) ?_;refine a_z ?_;refine ak (a7 rfl ?_ (ah _));simp only[bln,ofV];congr 2;symm;rw[beq_eq_false_iff_ne];intro h;exact h1 (digs_one.2 h).1
def y8(n:Nat):Nat->AState
 |0=>⟨[(0,u64 n),(2,.lptr 1 0 0),(3,.emp)],[(1,some ⟨38,1,[[.emp]]⟩)],2,16⟩
 |k+1=>⟨[(0,u64 (k8 n (k+1))),(2,.lptr 1 0 0),(3,.lsl 2 0 (k+1) none 1)],[(1,some ⟨38,1,[[.emp]]⟩),(2,some ⟨260,1,dE (xq n (k+1))⟩)],3,16⟩
theorem gY(n:Nat)(h:n< 18446744073709551616):FS 178 [u64 n] (.agg [mag n]):=by
 have g:(ax MB n).length<=3:=gw δ (ns h δ);refine f_c Tryz.func178 ?_;refine r_z 1 ?_;refine r_z 1 ?_;refine bD (y8 n) (λk=>k=(ax MB n).length) ?_ ?_;refine aj (aC (y8 n) (λk=>(ax MB n).length- k) (λk=>k<=(ax MB n).length) 0 (mN _) ?_ ?_);rw[y8.eq_1];exact s_e [];rintro k e;have i:=JM e;have m:=JN e;have c:=nA e;cases k with
 |zero=>
  rw[vM] at m;refine ae (r_z 2 ?_);refine au rfl (λh=>?_) (λh=>?_);refine an ?_;have l:0< n:=by simpa using h
  have d:0< (ax MB n).length:=ω
  obtain⟨a,b⟩:=vN d;rw[vM] at a b;refine ae (aj (r_m 7 ?_));refine a_z ?_;refine r_m 3 ?_;refine a_z ?_;refine⟨1,ω,d,?_⟩;rw[y8.eq_2];refine s_x [(2,3)] (λhs=>?_) (λhs=>?_) ?_
  ·repeat' (first|exact aV|refine aA rfl ?_ ?_|exact aZ|(refine Cv.loE hs ?_ (ah _);first|rfl|(simp[i64,u64,u32,bln,a,b,je];done)|(simp[i64,u64,u32,bln,a,b,je]<;> omega)))
  ·repeat' (first|exact aF|refine h_c ?_ ?_|exact bG|(refine aM hs ?_ (cf _);first|(simp[iT,mj,iU,a,b,je];done)|(simp[dE,u32,ofV,a,b,je];done))|refine aB ?_|exact av|refine ai ?_ ?_|exact aZ|(refine Cv.loE hs ?_ (ah _);first|(simp[i64,u64,u32,bln,a,b,je];done)|(simp[i64,u64,u32,bln,a,b,je]<;> omega)))
  ·repeat' (first|exact ShrL.nil|refine ShrL.cons rfl rfl rfl rfl (by first|rfl|(simp;done)|(simp[a,b,je]<;> omega)) ?_)
  refine ay ⟨0,?_,?_⟩;have:¬0< n:=by simpa using h
  omega;rw[y8.eq_1];exact s_e []
 |succ k=>
  rw[y8.eq_2];refine ae (r_z 2 ?_);refine au rfl (λh=>?_) (λh=>?_);refine an ?_;have l:0< k8 n (k+1):=by simpa using h
  have d:k+1< (ax MB n).length:=ω
  obtain⟨a,b⟩:=vN d;refine ae (aj (r_m 7 ?_));refine a_z ?_;refine r_m 3 ?_;refine a_z ?_;refine⟨k+1+1,ω,d,?_⟩;rw[y8.eq_2];refine s_x [(2,3)] (λhs=>?_) (λhs=>?_) ?_
  ·repeat' (first|exact aV|refine aA rfl ?_ ?_|exact aZ|(refine Cv.loE hs ?_ (ah _);first|rfl|(simp[i64,u64,u32,bln,a,b,c];done)|(simp[i64,u64,u32,bln,a,b,c]<;> omega)))
  ·repeat' (first|exact aF|refine h_c ?_ ?_|exact bG|(refine aM hs ?_ (cf _);first|(simp[iT,mj,iU,a,b,c];done)|(simp[dE,u32,ofV,a,b,c];done))|refine aB ?_|exact av|refine ai ?_ ?_|exact aZ|(refine Cv.loE hs ?_ (ah _);first|(simp[i64,u64,u32,bln,a,b,c];done)|(simp[i64,u64,u32,bln,a,b,c]<;> omega)))
  ·repeat' (first|exact ShrL.nil|refine ShrL.cons rfl rfl rfl rfl (by first|rfl|(simp;done)|(simp[a,b,c]<;> omega)) ?_)
  refine ay ⟨k+1,?_,?_⟩;have:¬0< k8 n (k+1):=by simpa using h
  omega;rw[y8.eq_2];exact s_e []
 rintro k rfl;cases e:(ax MB n).length with
 |zero=>
  rw[y8.eq_1];refine r_z 3 ?_;refine ak (Fin.cell rfl rfl rfl TG.h TS.h (nle rfl) (Cv.agg (ai (Cv.emp _ ?_) av)));unfold mag;rw[vv] at e;rw[e];rfl
 |succ k=>
  rw[y8.eq_2];refine r_z 3 ?_;refine ak (Fin.cell rfl rfl rfl TG.h TS.h (nle rfl) (Cv.agg (ai (Cv.shut aE rfl (λ_ _ h=>by cases h) ?_ ?_) av)));simp[nA (NR e.symm)];refine aM aE ?_ (cf _);have j:(xq n (k+1)).length=k+1:=nA (NR e.symm);have f:=JW n;rw[e] at f;simp only[sr,Hh];rw[nk (NR j),f]
def J0(p:Nat)(q:Nat):Ln×Nat->AState
 |(s,c)=>⟨[(26,i64 s.length),(25,i64 (ax MB p).length),(24,mag p),(2,.lptr 1 0 0),(3,.lptr 2 0 0),(4,.lptr 3 0 0),(5,.lsl 4 0 ((ax MB p).length+1) (some ((ax MB p).length+1)) 1),(6,u32 c)],
  [(1,some ⟨38,1,[[mag p]]⟩),(2,some ⟨38,1,[[mag q]]⟩),(3,some ⟨38,1,[[.emp]]⟩),(4,some ⟨260,1,dE (s++List.replicate ((ax MB p).length+1- s.length) 0)⟩)],5,63⟩
structure PlusI (p q:Nat)(a:Ln×Nat):Prop where
 le:a.1.length<=(ax MB p).length
 dig:∀d∈a.1,d< MB
 car:a.2<=1
 val:ofD MB a.1+MB^ a.1.length* a.2=ofD MB ((ax MB p).take a.1.length)+ofD MB ((ax MB q).take a.1.length)
theorem Ah(a b:Nat)(h:bl a+bl b<=17592186044416):FS 191 [.agg [mag a],.agg [mag b]] (.agg [mag (a+b)]):=by
 have hla:=ci (b:=MB) δ a;have hlb:=ci (b:=MB) δ b;refine f_c Tryz.func191 ?_;refine r_z 3 ?_;refine ae (r_z 7 ?_)
 refine aJ (λx:Nat×Nat=>⟨[(2,.lptr 1 0 0),(3,.lptr 2 0 0),(4,.lptr 3 0 0)],[(1,some ⟨38,1,[[mag x.1]]⟩),(2,some ⟨38,1,[[mag x.2]]⟩),(3,some ⟨38,1,[[.emp]]⟩)],4,63⟩)
  (λx=>x.1+x.2=a+b/\(ax MB x.2).length<=(ax MB x.1).length/\(ax MB x.1).length<=17592186044416) ?_ ?_
 refine au rfl (λh=>?_) (λh=>?_);refine r_m 4 ?_;refine a_z ?_;refine⟨(b,a),⟨χ,?_,χ⟩,?_⟩;simp at h;simp;omega;exact s_e [];refine an ⟨(a,b),⟨rfl,?_,χ⟩,?_⟩;simp at h;simpa using h;exact s_e [];rintro⟨p,q⟩ ⟨hpq,hqp,hp⟩;simp only at hpq hqp hp⊢;refine r_z 6 ?_;refine r_z 1 ?_;refine ae (r_z 4 ?_);refine aJ (J0 p q) (λx=>PlusI p q x/\x.1.length=(ax MB p).length) ?_ ?_;refine aj (aC (J0 p q) (λx=>(ax MB p).length- x.1.length) (PlusI p q) ([],0) ⟨ψ,ψ,ψ,by simp[ofD]⟩ ?_ ?_);rw[J0.eq_1];exact s_e [(4,5)];rintro⟨s,c⟩ ⟨hle,hdig,hcar,hval⟩;simp only at hle hdig hcar hval;rw[J0.eq_1];refine r_z 1 ?_;refine ae (au rfl (λh=>?_) (λh=>?_));refine an ?_;have hlt:s.length< (ax MB p).length:=by simpa using h
 obtain⟨x,hx⟩:∃x,(ax MB p)[s.length]?=some x:=⟨_,eT hlt⟩;have hx1:x< 1000000000:=da δ hx;have hx':(dE (ax MB p))[((s.length:Nat):Int).toNat]?=some [u32 x]:=ei hx;refine ae (aj (s_r 5 ?_));refine a_1 ?_;refine i_x hx' ?_;refine l_1 hx' ?_;refine a_z ?_;refine r_z 4 ?_;refine ae (r_z 5 ?_)
 have hq0:∀y,((ax MB q)[s.length]?.getD 0=y)->y< 1000000000:=by
  rintro y rfl;cases hy:(ax MB q)[s.length]? with
  |none=>decide
  |some y=>exact da δ hy
 refine aJ (λv:Nat=>⟨[(26,i64 s.length),(25,i64 (ax MB p).length),(24,mag p),(2,.lptr 1 0 0),(3,.lptr 2 0 0),(4,.lptr 3 0 0),(5,.lsl 4 0 ((ax MB p).length+1) (some ((ax MB p).length+1)) 1),(7,i64 s.length),(8,u32 v)],
  [(1,some ⟨38,1,[[mag p]]⟩),(2,some ⟨38,1,[[mag q]]⟩),(3,some ⟨38,1,[[.emp]]⟩),(4,some ⟨260,1,dE (s++List.replicate ((ax MB p).length+1- s.length) 0)⟩)],5,63⟩)
  (λv=>v=x+c+(ax MB q)[s.length]?.getD 0) ?_ ?_
 refine au rfl (λh=>?_) (λh=>?_);have hlt2:s.length< (ax MB q).length:=by simpa using h
 obtain⟨y,hy⟩:∃y,(ax MB q)[s.length]?=some y:=⟨_,eT hlt2⟩;have hy1:y< 1000000000:=da δ hy;have hy':(dE (ax MB q))[((s.length:Nat):Int).toNat]?=some [u32 y]:=ei hy;refine r_m 8 ?_;refine a_4 ?_;refine i_x hy' ?_;refine l_1 hy' ?_;refine a_z ?_;refine⟨x+c+y,by rw[hy];rfl,?_⟩;exact s_e [];have hlt2:¬s.length< (ax MB q).length:=by simpa using h
 refine an ⟨x+c,by rw[zt ω];rfl,?_⟩;exact s_e [];rintro v hv;obtain⟨y,hy⟩:∃y,y=(ax MB q)[s.length]?.getD 0:=⟨_,rfl⟩;have hy1:=hq0 y hy.symm;rw[<-hy] at hv;refine r_z 1 ?_;refine ae (r_z 2 ?_)
 have hg:(dE (s++List.replicate ((ax MB p).length+1- s.length) 0))[0+((s.length:Nat):Int).toNat]?=some [u32 0]:=by
  rw[vY,DH];exact ei (by rw[show(ax MB p).length+1- s.length=((ax MB p).length- s.length)+1 by omega];exact Cf _ _ _ rfl)
 have hset:∀w:Nat,(dE (s++List.replicate ((ax MB p).length+1- s.length) 0)).set (0+((s.length:Nat):Int).toNat) [u32 w]=dE ((s++[w])++List.replicate ((ax MB p).length+1- (s++[w]).length) 0):=by
  intro w;rw[vY,DH,iT,show(ax MB p).length+1- s.length=((ax MB p).length- s.length)+1 by omega,Bu _ _ _ _ rfl,show(ax MB p).length+1- (s++[w]).length=(ax MB p).length- s.length by simp]
 have hnext:∀w c',w+1000000000* c'=x+c+y->w< 1000000000->c'<=1->PlusI p q (s++[w],c'):=by
  intro w c' hw hwb hc';refine⟨χ,?_,hc',?_⟩;intro d hd;rcases n7.1 hd with hd|hd
  exact hdig d hd;simp at hd;subst hd;exact hwb;simp only[zq,xb];rw[iM,dh _ hx,fq,<-hy,D7];have e:MB^ s.length* w+MB^ s.length* MB* c'=MB^ s.length* (w+MB* c'):=by rw[zM,EB]
  have e2:MB^ s.length* (x+c+y)=MB^ s.length* x+MB^ s.length* c+MB^ s.length* y:=by rw[zM,zM]
  rw[hw,e2] at e;omega
 refine au rfl (λh=>?_) (λh=>?_);have hb:1000000000<=v:=by have:=of_decide_eq_true h;omega
 have hv1:((v:Int)- 1000000000)=((v- 1000000000:Nat):Int):=ω
 refine r_m 4 ?_;refine a_z ?_;refine r_m 5 ?_;refine a_4 ?_;refine eK (.store rfl rfl hg rfl rfl rfl TS.h (nle rfl)) ?_;refine aq ?_;refine r_m 2 ?_;refine a_z ?_;refine⟨(s++[v- 1000000000],1),χ,hnext _ _ ω ω (ir _),?_⟩;rw[J0.eq_1];exact s_x [] (λhs=>dJ) (λhs=>e_30);have hb:v< 1000000000:=by have:=of_decide_eq_false h;omega
 refine an (r_m 5 ?_);refine a_4 ?_;refine eK (.store rfl rfl hg rfl rfl rfl TS.h (nle rfl)) ?_;refine aq ?_;refine r_m 2 ?_;refine a_z ?_;refine⟨(s++[v],0),χ,hnext _ _ ω hb ω,?_⟩;rw[J0.eq_1];exact s_x [] (λhs=>dJ) (λhs=>e_31);refine ay ⟨(s,c),⟨⟨hle,hdig,hcar,hval⟩,?_⟩,?_⟩;simp at h;simp;omega;rw[J0.eq_1];exact s_e [];rintro⟨s,c⟩ ⟨⟨hle,hdig,hcar,hval⟩,hlen⟩;simp only at hle hdig hcar hval hlen
 have hg:(dE (s++List.replicate ((ax MB p).length+1- s.length) 0))[0+(((ax MB p).length:Nat):Int).toNat]?=some [u32 0]:=by
  rw[vY,DH,<-hlen];exact ei (by rw[show s.length+1- s.length=0+1 by omega];exact Cf _ _ _ rfl)
 have hset:(dE (s++List.replicate ((ax MB p).length+1- s.length) 0)).set (0+(((ax MB p).length:Nat):Int).toNat) [u32 c]=dE (s++[c]):=by
  rw[vY,DH,<-hlen,iT,show s.length+1- s.length=0+1 by omega,Bu _ _ _ _ rfl];simp
 have hres:fL (s++[c])=ax MB (a+b):=by
  rw[kH (b:=MB) δ,iM,hval,iL _ ω,iL _ ω,bO δ,bO δ,hpq];intro d hd;rcases n7.1 hd with hd|hd
  exact hdig d hd;simp at hd;subst hd;show d< 1000000000;omega
 rw[J0.eq_1];refine s_r 7 ?_;refine a_6 ?_;refine eK (.store rfl rfl hg rfl rfl rfl TS.h (nle rfl)) ?_;refine aq ?_;refine AWp.ent (st':=⟨[(4,.lptr 3 0 0),(5,.arr (dE (s++[c])))],[(3,some ⟨38,1,[[.emp]]⟩)],4,63⟩) ?_ ?_;refine s_x [] (λhs=>?_) (λhs=>?_)
 ·repeat' (first|exact aV|refine aA rfl ?_ ?_|exact Cv.sealE hs rfl (aR rfl) hset (by simp[hlen]) (cf _)|exact aZ)
 ·repeat' (first|exact aF|refine h_c ?_ ?_|exact bG|refine aB ?_|exact av|refine ai ?_ ?_|exact Cv.sealE hs rfl (aR rfl) hset (by simp[hlen]) (cf _)|exact aZ)
 refine s_r 3 ?_;refine o_0 (.move rfl) ?_;refine o_0 (.call rfl rfl rfl (jn _ χ)) ?_;refine a_z ?_;refine ak (ed rfl rfl rfl TG.h TS.h (nle rfl) ?_ (aD (ac (cz _) af)));rw[hres];rfl
def agS(a:Nat)(b:Nat):Nat->AState
 |k=>⟨[(2,.lptr 1 0 0),(3,.lptr 2 0 0),(6,i64 ((k:Int)- 1))],[(1,some ⟨38,1,[[mag a]]⟩),(2,some ⟨38,1,[[mag b]]⟩)],3,40⟩
theorem py(a b:Nat)(h:bl a+bl b<=17592186044416):FS 110 [.agg [mag a],.agg [mag b]] (i64 (ff a b)):=by
 have s:=ci (b:=MB) δ a;have t:=ci (b:=MB) δ b;refine f_c Tryz.func110 ?_;refine r_z 3 ?_;refine ae (r_c 8 (Au _ _) ?_);refine a_z ?_;refine r_z 2 ?_;refine au rfl (λh=>?_) (λh=>?_);have c:ff (ax MB a).length (ax MB b).length≠0:=by simpa using h
 refine r_z 2 ?_;refine ak (a7 rfl ?_ (ah _));unfold i64;congr 2;rw[u6] at c;rcases Po (ax MB a).length (ax MB b).length with g|g
 have:=ko δ g;rw[mW ω,mW ω];have:=ko (m:=b) (n:=a) (b:=MB) δ ω;rw[oU ω,oU ω]
 have heq:(ax MB a).length=(ax MB b).length:=by
  have q:¬ff (ax MB a).length (ax MB b).length≠0:=by simpa using h
  rw[u6] at q;omega
 refine an (ae (r_z 5 ?_));refine aJ (agS a b) (λk=>k=0/\a=b) ?_ ?_;refine aj (aC (agS a b) (λk=>k) (λk=>k<=(ax MB a).length/\(ax MB a).drop k=(ax MB b).drop k) (ax MB a).length ⟨ir _,by rw[DJ,heq,DJ]⟩ ?_ ?_);rw[agS.eq_1];exact s_e [];rintro k ⟨u,d⟩;rw[agS.eq_1];refine ae (r_z 2 ?_);refine au rfl (λh=>?_) (λh=>?_);have f:0< k:=by have:=of_decide_eq_true h;omega
 obtain⟨x,l⟩:∃x,(ax MB a)[k- 1]?=some x:=⟨_,eT ω⟩;obtain⟨y,j⟩:∃y,(ax MB b)[k- 1]?=some y:=⟨_,eT ω⟩;have e:(dE (ax MB a))[((k:Int)- 1).toNat]?=some [u32 x]:=by rw[show((k:Int)- 1).toNat=k- 1 by omega];exact ei l
 have i:(dE (ax MB b))[((k:Int)- 1).toNat]?=some [u32 y]:=by rw[show((k:Int)- 1).toNat=k- 1 by omega];exact ei j
 rw[show k=(k- 1)+1 by omega] at d;refine an (ae (aj (ae (r_d ba 12 ?_))));refine a_3 ?_;refine i_x e ?_;refine l_1 e ?_;refine a_3 ?_;refine i_x i ?_;refine l_1 i ?_;refine c_s (As x y) ?_;refine a_1 ?_;refine aq (n_k ?_);refine r_z 2 ?_;refine au rfl (λo=>?_) (λo=>?_);have c:ff x y≠0:=by simpa using o
 refine r_z 2 ?_;refine ak (a7 rfl ?_ (ah _));unfold i64;congr 2;rw[u6] at c;rcases Po x y with g|g
 have:=oD (b:=MB) (er δ a) l j d g;rw[bO δ,bO δ] at this;rw[mW ω,mW ω];have:=oD (b:=MB) (er δ b) j l d.symm ω;rw[bO δ,bO δ] at this;rw[oU ω,oU ω]
 have r:x=y:=by
  have q:¬ff x y≠0:=by simpa using o
  rw[u6] at q;omega
 refine an (r_m 3 ?_);refine a_z ?_;refine⟨k- 1,ω,⟨ω,?_⟩,?_⟩;rw[gI l,gI j,d,r];rw[agS.eq_1];exact s_e [];have f:k=0:=by have:=of_decide_eq_false h;omega
 subst f;refine ay ⟨0,⟨rfl,?_⟩,?_⟩;have:=congrArg (ofD MB) d;rwa[sr,sr,bO δ,bO δ] at this;rw[agS.eq_1];exact s_e [];rintro k ⟨rfl,p⟩;rw[agS.eq_1];refine r_z 1 ?_;refine ak (a7 rfl ?_ (ah _));subst p;rw[Hl rfl];rfl
def leS(a:Nat)(b:Nat):Ln×Nat->AState
 |(s,c)=>⟨[(19,i64 s.length),(18,i64 (ax MB a).length),(2,.lptr 1 0 0),(3,.lptr 2 0 0),(4,.lptr 3 0 0),(5,.lsl 4 0 (ax MB a).length (some (ax MB a).length) 1),(6,u32 c)],
  [(1,some ⟨38,1,[[mag a]]⟩),(2,some ⟨38,1,[[mag b]]⟩),(3,some ⟨38,1,[[.emp]]⟩),(4,some ⟨260,1,dE (s++(ax MB a).drop s.length)⟩)],5,61⟩
def leT(n:Nat):Ln×Unit->AState
 |(o,u)=>⟨[(4,.lptr 3 0 0),(5,.lsl 4 0 n (some n) 1)],
  [(3,some ⟨38,1,[[.emp]]⟩),(4,some ⟨260,1,dE o⟩)],5,61⟩
structure LessI (a b:Nat)(x:Ln×Nat):Prop where
 le:x.1.length<=(ax MB a).length
 dig:∀d∈x.1,d< MB
 car:x.2<=1
 val:ofD MB x.1+ofD MB ((ax MB b).take x.1.length)=ofD MB ((ax MB a).take x.1.length)+MB^ x.1.length* x.2
theorem Aj(a b:Nat)(h:bl a<=17592186044416)(hba:b<=a):FS 195 [.agg [mag a],.agg [mag b]] (.agg [mag (a- b)]):=by
 have hla:=ci (b:=MB) δ a;have hlen:=B6 (b:=MB) δ hba;have va:=bO (b:=MB) δ a;have vb:=bO (b:=MB) δ b;refine f_c Tryz.func195 ?_;refine r_z 3 ?_;refine r_z 5 ?_;refine s_r 4 ?_;refine a_3 ?_;refine o_1 (.copy rfl rfl rfl te_36.h rfl rfl rfl (by first|(simp;done)|(simp;omega)) (by first|exact fV _|exact fU _|exact eR _|exact fW _|exact fR _|rfl|simp) rfl (.arr (AP _))) ?_;refine aq ?_
 have hcp:fD (List.replicate (ax MB a).length [ofV (Value.int IntKind.u32 0)]) 0 (List.take (Nat.min (dE (ax MB a)).length (ax MB a).length) (dE (ax MB a)))=dE ([]++(ax MB a).drop 0):=by
  rw[HO];rw[nk ψ];rfl;simp
 refine r_z 1 ?_;refine ae (r_z 3 ?_);refine aJ (leT (ax MB a).length) (λx=>(∀d∈x.1,d< MB)/\x.1.length=(ax MB a).length/\ofD MB x.1=a- b) ?_ ?_;refine aj (aC (leS a b) (λx=>(ax MB a).length- x.1.length) (LessI a b) ([],0) ⟨ψ,ψ,ψ,by simp[ofD]⟩ ?_ ?_);rw[leS.eq_1];exact s_x [(4,5)] (λhs=>dJ) (λhs=>e_33) e_32;rintro⟨s,c⟩ ⟨hle,hdig,hcar,hval⟩;simp only at hle hdig hcar hval;rw[leS.eq_1];refine r_z 1 ?_;refine ae (au rfl (λh=>?_) (λh=>?_));have hlt:s.length< (ax MB a).length:=by have:=of_decide_eq_true h;omega
 obtain⟨x,hx⟩:∃x,(ax MB a)[s.length]?=some x:=⟨_,eT hlt⟩;have hx1:x< 1000000000:=da δ hx;have hdx:=gI hx;refine an (ae (aj (r_z 2 ?_)));refine r_z 2 ?_;refine ae (r_z 5 ?_)
 refine aJ (λv:Nat=>⟨[(19,i64 s.length),(18,i64 (ax MB a).length),(2,.lptr 1 0 0),(3,.lptr 2 0 0),(4,.lptr 3 0 0),(5,.lsl 4 0 (ax MB a).length (some (ax MB a).length) 1),(6,u32 c),(7,i64 s.length),(8,u32 v)],
  [(1,some ⟨38,1,[[mag a]]⟩),(2,some ⟨38,1,[[mag b]]⟩),(3,some ⟨38,1,[[.emp]]⟩),(4,some ⟨260,1,dE (s++(ax MB a).drop s.length)⟩)],5,61⟩)
  (λv=>v=c+(ax MB b)[s.length]?.getD 0/\v<=1000000000) ?_ ?_
 refine au rfl (λh=>?_) (λh=>?_);have hlt2:s.length< (ax MB b).length:=by have:=of_decide_eq_true h;omega
 obtain⟨y,hy⟩:∃y,(ax MB b)[s.length]?=some y:=⟨_,eT hlt2⟩;have hy1:y< 1000000000:=da δ hy;have hy':(dE (ax MB b))[((s.length:Nat):Int).toNat]?=some [u32 y]:=ei hy;refine r_m 8 ?_;refine a_4 ?_;refine i_x hy' ?_;refine l_1 hy' ?_;refine a_z ?_;refine⟨c+y,⟨by rw[hy];rfl,ω⟩,?_⟩;exact s_e [];have hlt2:¬s.length< (ax MB b).length:=by have:=of_decide_eq_false h;omega
 refine r_z 2 ?_;refine au rfl (λh=>?_) (λh=>?_);have hc0:c=0:=by simpa using h
 refine ay ⟨(s++(ax MB a).drop s.length,()),⟨?_,χ,?_⟩,?_⟩;intro d hd;rcases n7.1 hd with hd|hd
 exact hdig d hd;exact er δ a d (Hc hd);have:=eF MB s.length (ax MB a) ω;rw[va] at this;rw[iL _ ω,vb,hc0] at hval;simp only[im];omega;rw[leT.eq_1];exact s_e [];refine an ⟨c,⟨by rw[zt ω];rfl,ω⟩,?_⟩;exact s_e [];rintro v ⟨hv,hv1⟩;obtain⟨y,hy⟩:∃y,y=(ax MB b)[s.length]?.getD 0:=⟨_,rfl⟩;rw[<-hy] at hv
 have hg:(dE (s++(ax MB a).drop s.length))[0+((s.length:Nat):Int).toNat]?=some [u32 x]:=by
  rw[vY,DH,hdx];exact ei (qS _ _ _ _ rfl)
 have hset:∀w:Nat,(dE (s++(ax MB a).drop s.length)).set (0+((s.length:Nat):Int).toNat) [u32 w]=dE ((s++[w])++(ax MB a).drop (s++[w]).length):=by
  intro w;rw[vY,DH,iT,hdx,qg _ _ _ _ _ rfl];simp
 have hnext:∀w c',w+v=x+1000000000* c'->w< 1000000000->c'<=1->LessI a b (s++[w],c'):=by
  intro w c' hw hwb hc';refine⟨χ,?_,hc',?_⟩;intro d hd;rcases n7.1 hd with hd|hd
  exact hdig d hd;simp at hd;subst hd;exact hwb;simp only[zq,xb];rw[iM,dh _ hx,fq,<-hy,D7];have e:MB^ s.length* (w+v)=MB^ s.length* (x+MB* c'):=by rw[hw]
  rw[hv,zM,zM,zM,<-EB] at e;omega
 refine r_z 1 ?_;refine ae (s_r 6 ?_);refine a_2 ?_;refine bZ (.index_l rfl rfl ω ω te_36.h) rfl rfl ?_;refine bZ (.load_l1 rfl rfl hg TG.h rfl) rfl rfl ?_;refine a_z ?_;refine au rfl (λh=>?_) (λh=>?_);have hb:x< v:=by have:=of_decide_eq_true h;omega
 have hv2:((x:Int)+1000000000- v)=((x+1000000000- v:Nat):Int):=ω
 have hv3:((x:Int)+1000000000)=((x+1000000000:Nat):Int):=ω
 refine r_m 10 ?_;refine a_5 ?_;refine bZ (.load_l1 rfl rfl hg TG.h rfl) rfl rfl ?_;refine a_2 ?_;refine eK (.store rfl rfl hg rfl rfl rfl TS.h (nle rfl)) ?_;refine a_z ?_
 refine AWp.ent (st':=⟨[(19,i64 s.length),(18,i64 (ax MB a).length),(2,.lptr 1 0 0),(3,.lptr 2 0 0),(4,.lptr 3 0 0),(5,.lsl 4 0 (ax MB a).length (some (ax MB a).length) 1),(6,u32 1),(7,i64 s.length),(8,u32 v)],
  [(1,some ⟨38,1,[[mag a]]⟩),(2,some ⟨38,1,[[mag b]]⟩),(3,some ⟨38,1,[[.emp]]⟩),(4,some ⟨260,1,dE (s++(x+1000000000)::(ax MB a).drop (s.length+1))⟩)],5,61⟩) ?_ ?_
 refine s_x [] (λhs=>dJ) (λhs=>?_)
 ·repeat' (first|exact aF|refine h_c ?_ ?_|(refine aM hs ?_ (cf _);rw[hv3];exact(hset _).trans ψ)|exact bG)
 have hg2:(dE (s++(x+1000000000)::(ax MB a).drop (s.length+1)))[0+((s.length:Nat):Int).toNat]?=some [u32 (x+1000000000)]:=by
  rw[vY,DH];exact ei (qS _ _ _ _ rfl)
 have hset2:∀w:Nat,(dE (s++(x+1000000000)::(ax MB a).drop (s.length+1))).set (0+((s.length:Nat):Int).toNat) [u32 w]=dE ((s++[w])++(ax MB a).drop (s++[w]).length):=by
  intro w;rw[vY,DH,iT,qg _ _ _ _ _ rfl];simp
 have hv2:(((x+1000000000:Nat):Int)- v)=((x+1000000000- v:Nat):Int):=ω
 refine r_m 8 ?_;refine a_2 ?_;refine bZ (.index_l rfl rfl ω ω te_36.h) rfl rfl ?_;refine bZ (.load_l1 rfl rfl hg2 TG.h rfl) rfl rfl ?_;refine a_3 ?_;refine eK (.store rfl rfl hg2 rfl rfl rfl TS.h (nle rfl)) ?_;refine aq ?_;refine r_m 2 ?_;refine a_z ?_;refine⟨(s++[x+1000000000- v],1),χ,hnext _ _ ω ω ω,?_⟩;rw[leS.eq_1];refine s_x [] (λhs=>dJ) (λhs=>?_)
 ·repeat' (first|exact aF|refine h_c ?_ ?_|(refine aM hs ?_ (cf _);rw[hv2];exact hset2 _)|exact bG)
 have hb:v<=x:=by have:=of_decide_eq_false h;omega
 have hv1:((x:Int)- v)=((x- v:Nat):Int):=ω
 refine an (r_m 8 ?_);refine a_2 ?_;refine bZ (.index_l rfl rfl ω ω te_36.h) rfl rfl ?_;refine bZ (.load_l1 rfl rfl hg TG.h rfl) rfl rfl ?_;refine a_3 ?_;refine eK (.store rfl rfl hg rfl rfl rfl TS.h (nle rfl)) ?_;refine aq ?_;refine r_m 2 ?_;refine a_z ?_;refine⟨(s++[x- v],0),χ,hnext _ _ ω ω ω,?_⟩;rw[leS.eq_1];exact s_x [] (λhs=>dJ) (λhs=>e_30);have hl:s.length=(ax MB a).length:=by have:=of_decide_eq_false h;omega
 refine ay ⟨(s,()),⟨hdig,hl,?_⟩,?_⟩;have h1:=gi hdig;rw[hl,iL _ hlen,iL _ (ir _),va,vb] at hval;rw[hl] at h1
 have h2:c=0:=by
  rcases zW c with h|h
  exact h;have:MB^ (ax MB a).length* 1<=MB^ (ax MB a).length* c:=sO _ h;omega
 subst h2;simp at hval⊢;omega;rw[leT.eq_1];refine s_x [] (λhs=>?_) (λhs=>?_) ?_
 ·repeat' (first|exact aV|refine aA rfl ?_ ?_|exact aZ|(refine Cv.loE hs ?_ (ah _);first|rfl|(simp[i64,u64,u32,bln,hl];done)|(simp[i64,u64,u32,bln,hl]<;> omega)))
 ·repeat' (first|exact aF|refine h_c ?_ ?_|exact bG|(refine aM hs ?_ (cf _);first|(simp[iT,mj,iU,hl];done)|(simp[dE,u32,ofV,hl];done))|refine aB ?_|exact av|refine ai ?_ ?_|exact aZ|(refine Cv.loE hs ?_ (ah _);first|(simp[i64,u64,u32,bln,hl];done)|(simp[i64,u64,u32,bln,hl]<;> omega)))
 ·repeat' (first|exact ShrL.nil|refine ShrL.cons rfl rfl rfl rfl (by first|rfl|(simp;done)|(simp[hl]<;> omega)) ?_)
 rintro⟨o,u⟩ ⟨hd,hl,hv⟩;rw[leT.eq_1];refine AWp.ent (st':=⟨[(4,.lptr 3 0 0),(5,.arr (dE o))],[(3,some ⟨38,1,[[.emp]]⟩)],4,61⟩) ?_ ?_;refine s_x [] (λhs=>?_) (λhs=>?_)
 ·repeat' (first|exact aV|refine aA rfl ?_ ?_|exact Cv.sealE hs rfl (aR rfl) rfl (by simp[hl]) (cf _)|exact aZ)
 ·repeat' (first|exact aF|refine h_c ?_ ?_|exact bG|refine aB ?_|exact av|refine ai ?_ ?_|exact Cv.sealE hs rfl (aR rfl) rfl (by simp[hl]) (cf _)|exact aZ)
 simp only at hl hv;refine s_r 3 ?_;refine o_0 (.move rfl) ?_;refine o_0 (.call rfl rfl rfl (jn _ ω)) ?_;refine eK (.store rfl rfl rfl rfl rfl rfl TS.h (nle rfl)) ?_;refine aq ?_;refine ak (ed rfl rfl rfl TG.h TS.h (nle rfl) ?_ (aD (ac (cz _) af)));rw[kH (b:=MB) δ hd,hv];rfl
def tiS(a:Nat)(b:Nat):Ln×Nat->AState
 |(o,i)=>⟨[(22,i64 i),(21,i64 (ax MB a).length),(20,mag a),(3,.lptr 2 0 0),(4,.lptr 3 0 0),(5,.lsl 4 0 ((ax MB a).length+(ax MB b).length) (some ((ax MB a).length+(ax MB b).length)) 1)],
  [(2,some ⟨38,1,[[mag b]]⟩),(3,some ⟨38,1,[[.emp]]⟩),(4,some ⟨260,1,dE o⟩)],5,73⟩
def tiT(a:Nat)(b:Nat)(i:Nat)(x:Nat):Ln×Nat×Nat->AState
 |(o,k,c)=>⟨[(22,i64 i),(21,i64 (ax MB a).length),(20,mag a),(3,.lptr 2 0 0),(4,.lptr 3 0 0),(5,.lsl 4 0 ((ax MB a).length+(ax MB b).length) (some ((ax MB a).length+(ax MB b).length)) 1),(6,i64 i),(7,u32 x),(8,u64 c),(30,i64 k),(29,i64 (ax MB b).length),(28,mag b)],
  [(2,some ⟨38,1,[[mag b]]⟩),(3,some ⟨38,1,[[.emp]]⟩),(4,some ⟨260,1,dE o⟩)],5,73⟩
structure TimesI (a b:Nat)(x:Ln×Nat):Prop where
 len:x.1.length=(ax MB a).length+(ax MB b).length
 le:x.2<=(ax MB a).length
 dig:∀d∈x.1,d< MB
 val:ofD MB x.1=ofD MB ((ax MB a).take x.2) * b
 zer:∀j,x.2+(ax MB b).length<=j->j< x.1.length->x.1[j]?=some 0
structure TimesJ (a b i v:Nat)(x:Ln×Nat×Nat):Prop where
 len:x.1.length=(ax MB a).length+(ax MB b).length
 le:x.2.1<=(ax MB b).length
 dig:∀d∈x.1,d< MB
 car:x.2.2< MB
 val:ofD MB x.1+MB^ (i+x.2.1) * x.2.2=ofD MB ((ax MB a).take i) * b+MB^ i* v* ofD MB ((ax MB b).take x.2.1)
 zer:∀j,i+(ax MB b).length<=j->j< x.1.length->x.1[j]?=some 0
theorem gX(a b:Nat)(h:bl a+bl b<=17592186044416):FS 109 [.agg [mag a],.agg [mag b]] (.agg [mag (a* b)]):=by
 have Z:=ci (b:=MB) δ a;have hlb:=ci (b:=MB) δ b;have va:=bO (b:=MB) δ a;have W:=bO (b:=MB) δ b;refine f_c Tryz.func109 ?_;refine r_z 3 ?_;refine r_z 9 ?_;refine ae (r_z 4 ?_);refine aJ (tiS a b) (λx=>TimesI a b x/\x.2=(ax MB a).length) ?_ ?_;refine aj (aC (tiS a b) (λx=>(ax MB a).length- x.2) (TimesI a b) (List.replicate ((ax MB a).length+(ax MB b).length) 0,0) ⟨ψ,ψ,?_,by simp[sA,ofD],?_⟩ ?_ ?_);intro d E;simp at E;rw[E.2];decide;intro j _ C;simp at C;simp[C];rw[tiS.eq_1];exact s_e [(4,5)];rintro⟨o,i⟩ ⟨l,u,r,g,s⟩;simp only at l u r g s;rw[tiS.eq_1];refine r_z 1 ?_;refine ae (au rfl (λh=>?_) (λh=>?_));have M:i< (ax MB a).length:=by have:=of_decide_eq_true h;omega
 obtain⟨x,Q⟩:∃x,(ax MB a)[i]?=some x:=⟨_,eT M⟩;have X:x< 1000000000:=da δ Q;have F:(dE (ax MB a))[((i:Nat):Int).toNat]?=some [u32 x]:=ei Q;refine an (ae (aj (s_r 5 ?_)));refine a_1 ?_;refine i_x F ?_;refine l_1 F ?_;refine a_z ?_;refine r_z 1 ?_;refine ae (r_z 4 ?_);refine aJ (tiT a b i x) (λy=>TimesJ a b i x y/\y.2.1=(ax MB b).length) ?_ ?_;refine aj (aC (tiT a b i x) (λy=>(ax MB b).length- y.2.1) (TimesJ a b i x) (o,0,0) ⟨l,ψ,r,(show 0< MB by decide),by simp[g,ofD],s⟩ ?_ ?_);rw[tiT.eq_1];exact s_e [];rintro⟨q,k,c⟩ ⟨n,t,e,f,p,m⟩;simp only at n t e f p m;rw[tiT.eq_1];refine r_z 1 ?_;refine ae (au rfl (λh=>?_) (λh=>?_));have G:k< (ax MB b).length:=by have:=of_decide_eq_true h;omega
 obtain⟨y,O⟩:∃y,(ax MB b)[k]?=some y:=⟨_,eT G⟩;have V:y< 1000000000:=da δ O;have H:(dE (ax MB b))[((k:Nat):Int).toNat]?=some [u32 y]:=ei O;obtain⟨d,E⟩:∃d,q[i+k]?=some d:=⟨_,eT ω⟩;have Y:d< 1000000000:=e d (mc E);have N:c< 1000000000:=f;have J:(dE q)[0+(((i:Int)+k)).toNat]?=some [u32 d]:=by rw[show 0+((i:Int)+k).toNat=i+k by omega];exact ei E
 have B:∀w:Nat,(dE q).set (0+(((i:Int)+k)).toNat) [u32 w]=dE (q.set (i+k) w):=by intro w;rw[show 0+((i:Int)+k).toNat=i+k by omega,iT]
 have U:x* y<=999999999* 999999999:=vj ω ω;have T:0<=(x:Int) * y:=OM ω ω;have A:(x:Int) * y=((x* y:Nat):Int):=by push_cast;rfl
 refine an (ae (aj (s_r 5 ?_)));refine a_1 ?_;refine i_x H ?_;refine l_1 H ?_;refine a_z ?_;refine s_r 16 ?_;refine a_8 ?_;refine a_2 ?_;refine bZ (.index_l rfl rfl ω ω te_36.h) rfl rfl ?_;refine bZ (.load_l1 rfl rfl J TG.h rfl) rfl rfl ?_;refine a_z ?_;refine r_m 12 ?_;refine a_8 ?_;refine a_2 ?_;refine eK (.store rfl rfl J rfl rfl rfl TS.h (nle rfl)) ?_;refine a_z ?_;refine r_m 2 ?_;refine a_z ?_;have hm:((c:Int)+((x:Int) * y+d)) % 1000000000=(((c+(x* y+d)) % 1000000000:Nat):Int):=by rw[A];omega
 have R:((c:Int)+((x:Int) * y+d)) / 1000000000=(((c+(x* y+d)) / 1000000000:Nat):Int):=by rw[A];omega
 refine⟨(q.set (i+k) ((c+(x* y+d)) % 1000000000),k+1,(c+(x* y+d)) / 1000000000),χ,⟨by simp[n],χ,uJ e (EC _ δ),?_,?_,?_⟩,?_⟩;show _< 1000000000;simp only;omega;simp only;have e1:=qy MB ((c+(x* y+d)) % 1000000000) E;have e2:=MW (c+(x* y+d)) 1000000000
 have e3:MB^ (i+k) * ((c+(x* y+d)) % 1000000000)+MB^ (i+(k+1)) * ((c+(x* y+d)) / 1000000000)=MB^ (i+k) * c+(MB^ (i+k) * (x* y)+MB^ (i+k) * d):=by
  rw[<-JQ i k 1,D7,EB,<-zM,show MB* ((c+(x* y+d)) / 1000000000)=1000000000* ((c+(x* y+d)) / 1000000000) from rfl,e2,zM,zM]
 have e4:MB^ i* x* ofD MB ((ax MB b).take (k+1))=MB^ i* x* ofD MB ((ax MB b).take k)+MB^ (i+k) * (x* y):=by
  rw[dh _ O,zM];congr 1;rw[N3];simp only[EB,NQ,Eg]
 rw[e4];omega;intro j C D;rw[ND ω];exact m j C (by simpa using D);rw[tiT.eq_1];refine s_x [] (λhs=>?_) (λhs=>?_)
 ·repeat' (first|exact aV|refine aA rfl ?_ ?_|exact Cv.loE hs (congrArg (λz=>AV.v (.int .u64 z)) R) (ah _)|exact aZ)
 ·repeat' (first|exact aF|refine h_c ?_ ?_|(refine aM hs ?_ (cf _);rw[hm];exact B _)|exact bG|refine aB ?_|exact av|refine ai ?_ ?_|exact Cv.loE hs (congrArg (λz=>AV.v (.int .u64 z)) R) (ah _)|exact aZ)
 have K:k=(ax MB b).length:=by have:=of_decide_eq_false h;omega
 refine ay ⟨(q,k,c),⟨⟨n,t,e,f,p,m⟩,K⟩,?_⟩;rw[tiT.eq_1];exact s_e [];rintro⟨q,k,c⟩ ⟨⟨n,t,e,f,p,m⟩,K⟩;simp only at n t e f p m K;subst K;have N:c< 1000000000:=f;have S:=m (i+(ax MB b).length) (ir _) ω;have J:(dE q)[0+(((i:Int)+(ax MB b).length)).toNat]?=some [u32 0]:=by rw[show 0+((i:Int)+(ax MB b).length).toNat=i+(ax MB b).length by omega];exact ei S
 have B:(dE q).set (0+(((i:Int)+(ax MB b).length)).toNat) [u32 c]=dE (q.set (i+(ax MB b).length) c):=by rw[show 0+((i:Int)+(ax MB b).length).toNat=i+(ax MB b).length by omega,iT]
 rw[qj,W] at p;rw[tiT.eq_1];refine r_m 10 ?_;refine a_8 ?_;refine a_1 ?_;refine eK (.store rfl rfl J rfl rfl rfl TS.h (nle rfl)) ?_;refine aq ?_;refine r_m 2 ?_;refine a_z ?_;refine⟨(q.set (i+(ax MB b).length) c,i+1),χ,⟨by simp[n],χ,uJ e f,?_,?_⟩,?_⟩;simp only;have e1:=qy MB c S;rw[dh _ Q,zu,<-p];omega;intro j C D;rw[ND (by simp only at C;omega)];exact m j (by simp only at C;omega) (by simpa using D);rw[tiS.eq_1];exact s_f [];have L:i=(ax MB a).length:=by have:=of_decide_eq_false h;omega
 refine ay ⟨(o,i),⟨⟨l,u,r,g,s⟩,L⟩,?_⟩;rw[tiS.eq_1];exact s_e [];rintro⟨o,i⟩ ⟨⟨l,u,r,g,s⟩,L⟩;simp only at l u r g s L;subst L;rw[qj,va] at g;rw[tiS.eq_1];refine AWp.ent (st':=⟨[(4,.lptr 3 0 0),(5,.arr (dE o))],[(3,some ⟨38,1,[[.emp]]⟩)],4,73⟩) ?_ ?_;refine s_x [] (λhs=>?_) (λhs=>?_)
 ·repeat' (first|exact aV|refine aA rfl ?_ ?_|exact Cv.sealE hs rfl (aR rfl) rfl (by simp[l]) (cf _)|exact aZ)
 ·repeat' (first|exact aF|refine h_c ?_ ?_|exact bG|refine aB ?_|exact av|refine ai ?_ ?_|exact Cv.sealE hs rfl (aR rfl) rfl (by simp[l]) (cf _)|exact aZ)
 refine s_r 3 ?_;refine o_0 (.move rfl) ?_;refine o_0 (.call rfl rfl rfl (jn _ ω)) ?_;refine eK (.store rfl rfl rfl rfl rfl rfl TS.h (nle rfl)) ?_;refine aq ?_;refine ak (ed rfl rfl rfl TG.h TS.h (nle rfl) ?_ (aD (ac (cz _) af)));rw[kH (b:=MB) δ r,g];rfl
def siS(a:Nat)(d:Nat):Nat×Ln×Nat->AState
 |(k,t,r)=>⟨[(8,i64 ((k:Int)- 1)),(1,u32 d),(2,.lptr 1 0 0),(4,.lptr 2 0 0),(5,.lptr 3 0 0),(6,.lsl 4 0 (ax MB a).length (some (ax MB a).length) 1),(7,u64 r)],
  [(1,some ⟨38,1,[[mag a]]⟩),(2,some ⟨38,1,[[.emp]]⟩),(3,some ⟨38,1,[[.emp]]⟩),(4,some ⟨260,1,dE (List.replicate k 0++t)⟩)],5,46⟩
structure SimI (a d:Nat)(x:Nat×Ln×Nat):Prop where
 len:x.1+x.2.1.length=(ax MB a).length
 dig:∀y∈x.2.1,y< MB
 rest:x.2.2< d
 val:ofD MB ((ax MB a).drop x.1)=d* ofD MB x.2.1+x.2.2
theorem Ie(a d:Nat)(h:bl a<=17592186044416)(hd0:0< d)(hd:d< 4294967296):FS 243 [.agg [mag a],u32 d] (.tup [.agg [mag (a/ d)],.agg [mag (a % d)]]):=by
 have J:=ci (b:=MB) δ a;have va:=bO (b:=MB) δ a;refine f_c Tryz.func243 ?_;refine r_z 3 ?_;refine r_z 5 ?_;refine r_z 1 ?_;refine ae (r_z 5 ?_);refine aJ (siS a d) (λx=>SimI a d x/\x.1=0) ?_ ?_;refine aj (aC (siS a d) (λx=>x.1) (SimI a d) ((ax MB a).length,[],0) ⟨ψ,ψ,hd0,by simp[ofD]⟩ ?_ ?_);rw[siS.eq_1];exact s_e [(4,6)];rintro⟨k,t,r⟩ ⟨i,g,c,f⟩;simp only at i g c f;rw[siS.eq_1];refine ae (r_z 2 ?_);refine au rfl (λh=>?_) (λh=>?_);have p:0< k:=by have:=of_decide_eq_true h;omega
 obtain⟨x,A⟩:∃x,(ax MB a)[k- 1]?=some x:=⟨_,eT ω⟩;have G:x< 1000000000:=da δ A;have o:(dE (ax MB a))[((k:Int)- 1).toNat]?=some [u32 x]:=by rw[show((k:Int)- 1).toNat=k- 1 by omega];exact ei A
 have l:List.replicate k 0++t=List.replicate (k- 1) 0++0::t:=by
  conv=>lhs;rw[show k=(k- 1)+1 by omega,OL]
  simp
 have F:(dE (List.replicate k 0++t))[0+((k:Int)- 1).toNat]?=some [u32 0]:=by
  rw[show 0+((k:Int)- 1).toNat=k- 1 by omega,l];exact ei (qS _ _ _ _ ψ)
 have q:∀w:Nat,(dE (List.replicate k 0++t)).set (0+((k:Int)- 1).toNat) [u32 w]=dE (List.replicate (k- 1) 0++(w::t)):=by
  intro w;rw[show 0+((k:Int)- 1).toNat=k- 1 by omega,iT,l,qg _ _ _ _ _ ψ];simp
 have s:(r* 1000000000+x) / d< 1000000000:=by
  rw[DB hd0];have:(r+1) * 1000000000<=d* 1000000000:=mC _ c;rw[Eg 1000000000 d];omega
 have D:(r:Int) * 1000000000+x=((r* 1000000000+x:Nat):Int):=ω
 have m:((r:Int) * 1000000000+x) / d=(((r* 1000000000+x) / d:Nat):Int):=by rw[D];exact(Nq _ _).symm
 have n:((r:Int) * 1000000000+x) % d=(((r* 1000000000+x) % d:Nat):Int):=by rw[D];exact(Int.natCast_emod _ _).symm
 have j:=EC (r* 1000000000+x) hd0;have e:=MX (r* 1000000000+x) d;obtain⟨Q,B⟩:∃Q,Q=(r* 1000000000+x) / d:=⟨_,rfl⟩;obtain⟨R,E⟩:∃R,R=(r* 1000000000+x) % d:=⟨_,rfl⟩;rw[<-B] at s m;rw[<-E] at j n;rw[<-B,<-E] at e;refine an (ae (aj (s_r 10 ?_)));refine a_5 ?_;refine i_x o ?_;refine l_1 o ?_;refine a_z ?_;refine r_d ba 14 ?_;refine a_5 ?_;refine o_0 (.bin rfl rfl (Dp ω)) ?_;refine o_0 (.conv rfl (cU32 (by rw[m];omega) tu_246.h tu_260.h)) ?_;refine a_5 ?_;refine eK (.store rfl rfl F rfl rfl rfl TS.h (nle rfl)) ?_;refine a_1 ?_;refine aq (n_k ?_);refine r_m 3 ?_;refine a_z ?_;refine⟨(k- 1,Q::t,R),χ,⟨χ,?_,j,?_⟩,?_⟩;intro y u;rcases pY.1 u with rfl|u
 exact s;exact g y u;simp only;rw[lS MB A,show k- 1+1=k by omega,f,ofD];have e2:d* (Q+MB* ofD MB t)=d* Q+MB* (d* ofD MB t):=by rw[zM,NQ]
 have K:MB* (d* ofD MB t+r)=MB* (d* ofD MB t)+1000000000* r:=zM _ _ _;omega;rw[siS.eq_1];refine s_x [] (λhs=>?_) (λhs=>?_)
 ·repeat' (first|exact aV|refine aA rfl ?_ ?_|exact Cv.loE hs (congrArg (λz=>AV.v (.int .u64 z)) n) (ah _)|exact aZ)
 ·repeat' (first|exact aF|refine h_c ?_ ?_|(refine aM hs ?_ (cf _);rw[m];exact q _)|exact bG|refine aB ?_|exact av|refine ai ?_ ?_|exact Cv.loE hs (congrArg (λz=>AV.v (.int .u64 z)) n) (ah _)|exact aZ)
 have p:k=0:=by have:=of_decide_eq_false h;omega
 refine ay ⟨(k,t,r),⟨⟨i,g,c,f⟩,p⟩,?_⟩;rw[siS.eq_1];exact s_e [];rintro⟨k,t,r⟩ ⟨⟨i,g,c,f⟩,C⟩;simp only at i g c f C;subst C;rw[sr,va] at f;have s:a/ d=ofD MB t:=by rw[f,Nat.mul_add_div hd0,Fw c];omega
 have H:a % d=r:=by rw[f,Pc];exact Fz c
 rw[siS.eq_1];refine AWp.ent (st':=⟨[(4,.lptr 1 0 0),(5,.lptr 2 0 0),(6,.arr (dE t)),(7,u64 r)],[(1,some ⟨38,1,[[.emp]]⟩),(2,some ⟨38,1,[[.emp]]⟩)],3,46⟩) ?_ ?_;exact s_x [(1,4),(2,5)] (λhs=>e_34) (λhs=>e_35);refine s_r 6 ?_;refine o_0 (.move rfl) ?_;refine o_0 (.call rfl rfl rfl (jn _ ω)) ?_;refine o_0 (.move rfl) ?_;refine o_0 (.call rfl rfl rfl (gY r ω)) ?_;refine eK (.store rfl rfl rfl rfl rfl rfl TS.h (nle rfl)) ?_;refine eK (.store rfl rfl rfl rfl rfl rfl TS.h (nle rfl)) ?_;refine aq ?_;refine ak ?_;rw[s,H];refine Fin.many ⟨_,_,rfl,⟨_,_,_,_,_,rfl,rfl,rfl,.inl ⟨TG.h,_,TS.h,nle rfl,rfl⟩⟩,_,_,rfl,⟨_,_,_,_,_,rfl,rfl,rfl,.inl ⟨TG.h,_,TS.h,nle rfl,rfl⟩⟩,rfl⟩ (nle rfl) ?_;refine ai (Cv.loE aE ?_ (aD (ac (dr (fL t)) af))) (ai (ao aE (aD (ac (cz r) af))) av);rw[kH (b:=MB) δ g];rfl
end Go.Proofs.YtjmkjicckobojaaGreatDoor
