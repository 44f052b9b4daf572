/- Part Y16 of the proof. -/
import Derived.Test.YtjgokhkahkmpbaaGreatDoorY15
set_option linter.all false
namespace Go.Proofs.YtjgokhkahkmpbaaGreatDoor
open Go.Abs
set_option maxRecDepth 20000
def tiS(a:Nat)(b:Nat):Ln×Nat->AState
 |(o,i)=>⟨[(22,i64 i),(21,i64 (az MB a).length),(20,mag a),(3,.lptr 2 0 0),(4,.lptr 3 0 0),(5,.lsl 4 0 ((az MB a).length+(az MB b).length) (some ((az MB a).length+(az MB b).length)) 1)],
  [(2,some ⟨38,1,[[mag b]]⟩),(3,some ⟨38,1,[[.emp]]⟩),(4,some ⟨176,1,dE o⟩)],5,73⟩
def tiT(a:Nat)(b:Nat)(i:Nat)(x:Nat):Ln×Nat×Nat->AState
 |(o,k,c)=>⟨[(22,i64 i),(21,i64 (az MB a).length),(20,mag a),(3,.lptr 2 0 0),(4,.lptr 3 0 0),(5,.lsl 4 0 ((az MB a).length+(az MB b).length) (some ((az MB a).length+(az MB b).length)) 1),(6,i64 i),(7,u32 x),(8,u64 c),(30,i64 k),(29,i64 (az MB b).length),(28,mag b)],
  [(2,some ⟨38,1,[[mag b]]⟩),(3,some ⟨38,1,[[.emp]]⟩),(4,some ⟨176,1,dE o⟩)],5,73⟩
structure TimesI (a b:Nat)(x:Ln×Nat):Prop where
 len:x.1.length=(az MB a).length+(az MB b).length
 le:x.2<=(az MB a).length
 dig:∀d∈x.1,d< MB
 val:ofD MB x.1=ofD MB ((az MB a).take x.2) * b
 zer:∀j,x.2+(az MB b).length<=j->j< x.1.length->x.1[j]?=some 0
structure TimesJ (a b i v:Nat)(x:Ln×Nat×Nat):Prop where
 len:x.1.length=(az MB a).length+(az MB b).length
 le:x.2.1<=(az MB b).length
 dig:∀d∈x.1,d< MB
 car:x.2.2< MB
 val:ofD MB x.1+MB^ (i+x.2.1) * x.2.2=ofD MB ((az MB a).take i) * b+MB^ i* v* ofD MB ((az MB b).take x.2.1)
 zer:∀j,i+(az MB b).length<=j->j< x.1.length->x.1[j]?=some 0
theorem fO(a b:Nat)(h:bl a+bl b<=17592186044416):FS 83 [.agg [mag a],.agg [mag b]] (.agg [mag (a* b)]):=by
 have hla:=bR (b:=MB) δ a;have hlb:=bR (b:=MB) δ b;have va:=bC (b:=MB) δ a;have vb:=bC (b:=MB) δ b;refine f_c Tryz.func83 ?_;refine r_z 3 ?_;refine r_z 9 ?_;refine ac (r_z 4 ?_);refine aG (tiS a b) (λx=>TimesI a b x/\x.2=(az MB a).length) ?_ ?_;refine ak (aC (tiS a b) (λx=>(az MB a).length- x.2) (TimesI a b) (List.replicate ((az MB a).length+(az MB b).length) 0,0) ⟨ψ,ψ,?_,by simp[qI,ofD],?_⟩ ?_ ?_);intro d hd;simp at hd;rw[hd.2];decide;intro j _ hj;simp at hj;simp[hj];rw[tiS.eq_1];exact s_e [(4,5)];rintro⟨o,i⟩ ⟨hlen,hle,hdig,hval,hzer⟩;simp only at hlen hle hdig hval hzer;rw[tiS.eq_1];refine r_z 1 ?_;refine ac (aw rfl (λh=>?_) (λh=>?_));have hlt:i< (az MB a).length:=by have:=of_decide_eq_true h;omega
 obtain⟨x,hx⟩:∃x,(az MB a)[i]?=some x:=⟨_,List.getElem?_eq_getElem hlt⟩;have hx1:x< 1000000000:=cQ δ hx;have hx':(dE (az MB a))[((i:Nat):Int).toNat]?=some [u32 x]:=dN hx;refine am (ac (ak (s_r 5 ?_)));refine a_1 ?_;refine i_x hx' ?_;refine l_1 hx' ?_;refine a_z ?_;refine r_z 1 ?_;refine ac (r_z 4 ?_);refine aG (tiT a b i x) (λy=>TimesJ a b i x y/\y.2.1=(az MB b).length) ?_ ?_;refine ak (aC (tiT a b i x) (λy=>(az MB b).length- y.2.1) (TimesJ a b i x) (o,0,0) ⟨hlen,ψ,hdig,(show 0< MB by decide),by simp[hval,ofD],hzer⟩ ?_ ?_);rw[tiT.eq_1];exact s_e [];rintro⟨q,k,c⟩ ⟨jlen,jle,jdig,jcar,jval,jzer⟩;simp only at jlen jle jdig jcar jval jzer;rw[tiT.eq_1];refine r_z 1 ?_;refine ac (aw rfl (λh=>?_) (λh=>?_));have hltk:k< (az MB b).length:=by have:=of_decide_eq_true h;omega
 obtain⟨y,hy⟩:∃y,(az MB b)[k]?=some y:=⟨_,List.getElem?_eq_getElem hltk⟩;have hy1:y< 1000000000:=cQ δ hy;have hy':(dE (az MB b))[((k:Nat):Int).toNat]?=some [u32 y]:=dN hy;obtain⟨d,hd⟩:∃d,q[i+k]?=some d:=⟨_,List.getElem?_eq_getElem ω⟩;have hd1:d< 1000000000:=jdig d (List.mem_of_getElem? hd);have hc1:c< 1000000000:=jcar;have hg:(dE q)[0+(((i:Int)+k)).toNat]?=some [u32 d]:=by rw[show 0+((i:Int)+k).toNat=i+k by omega];exact dN hd
 have hset:∀w:Nat,(dE q).set (0+(((i:Int)+k)).toNat) [u32 w]=dE (q.set (i+k) w):=by intro w;rw[show 0+((i:Int)+k).toNat=i+k by omega,gR]
 have hxy0:x* y<=999999999* 999999999:=Nat.mul_le_mul ω ω;have hxyn:0<=(x:Int) * y:=Int.mul_nonneg ω ω;have hxyi:(x:Int) * y=((x* y:Nat):Int):=by push_cast;rfl
 refine am (ac (ak (s_r 5 ?_)));refine a_1 ?_;refine i_x hy' ?_;refine l_1 hy' ?_;refine a_z ?_;refine s_r 16 ?_;refine a_8 ?_;refine a_2 ?_
 first|refine av (.index_l rfl rfl ω ω te_36.h) rfl rfl ?_|refine av (.index_a rfl rfl ω hg rfl te_36.h) rfl rfl ?_
 first|refine av (.load_l1 rfl rfl hg TG.h rfl) rfl rfl ?_|refine av (.load_a1 rfl hg TG.h rfl) rfl rfl ?_
 refine a_z ?_;refine r_m 12 ?_;refine a_8 ?_;refine a_2 ?_;refine ee (.store rfl rfl hg rfl rfl rfl TS.h (nle rfl)) ?_;refine a_z ?_;refine r_m 2 ?_;refine a_z ?_;have hm:((c:Int)+((x:Int) * y+d)) % 1000000000=(((c+(x* y+d)) % 1000000000:Nat):Int):=by rw[hxyi];omega
 have hq:((c:Int)+((x:Int) * y+d)) / 1000000000=(((c+(x* y+d)) / 1000000000:Nat):Int):=by rw[hxyi];omega
 refine⟨(q.set (i+k) ((c+(x* y+d)) % 1000000000),k+1,(c+(x* y+d)) / 1000000000),χ,⟨by simp[jlen],χ,sO jdig (Nat.mod_lt _ δ),?_,?_,?_⟩,?_⟩;show _< 1000000000;simp only;omega;simp only;have e1:=px MB ((c+(x* y+d)) % 1000000000) hd;have e2:=Nat.mod_add_div (c+(x* y+d)) 1000000000
 have e3:MB^ (i+k) * ((c+(x* y+d)) % 1000000000)+MB^ (i+(k+1)) * ((c+(x* y+d)) / 1000000000)=MB^ (i+k) * c+(MB^ (i+k) * (x* y)+MB^ (i+k) * d):=by
  rw[<-Nat.add_assoc i k 1,Nat.pow_succ,Nat.mul_assoc,<-Nat.mul_add,show MB* ((c+(x* y+d)) / 1000000000)=1000000000* ((c+(x* y+d)) / 1000000000) from rfl,e2,Nat.mul_add,Nat.mul_add]
 have e4:MB^ i* x* ofD MB ((az MB b).take (k+1))=MB^ i* x* ofD MB ((az MB b).take k)+MB^ (i+k) * (x* y):=by
  rw[c7 _ hy,Nat.mul_add];congr 1;rw[Nat.pow_add];simp only[Nat.mul_assoc,Nat.mul_left_comm,Nat.mul_comm]
 rw[e4];omega;intro j hj hj2;rw[List.getElem?_set_ne ω];exact jzer j hj (by simpa using hj2);rw[tiT.eq_1];refine s_x [] (λhs=>?_) (λhs=>?_)
 ·repeat' (first|exact aF|refine aj rfl ?_ ?_|exact Cv.loE hs (congrArg (λz=>AV.v (.int .u64 z)) hq) (ag _)|exact aX)
 ·repeat' (first|exact aD|refine h_c ?_ ?_|(refine aI hs ?_ (bY _);rw[hm];exact hset _)|exact bG|refine ay ?_|exact ax|refine af ?_ ?_|exact Cv.loE hs (congrArg (λz=>AV.v (.int .u64 z)) hq) (ag _)|exact aX)
 have hk:k=(az MB b).length:=by have:=of_decide_eq_false h;omega
 refine aB ⟨(q,k,c),⟨⟨jlen,jle,jdig,jcar,jval,jzer⟩,hk⟩,?_⟩;rw[tiT.eq_1];exact s_e [];rintro⟨q,k,c⟩ ⟨⟨jlen,jle,jdig,jcar,jval,jzer⟩,hk⟩;simp only at jlen jle jdig jcar jval jzer hk;subst hk;have hc1:c< 1000000000:=jcar;have hz:=jzer (i+(az MB b).length) (Nat.le_refl _) ω;have hg:(dE q)[0+(((i:Int)+(az MB b).length)).toNat]?=some [u32 0]:=by rw[show 0+((i:Int)+(az MB b).length).toNat=i+(az MB b).length by omega];exact dN hz
 have hset:(dE q).set (0+(((i:Int)+(az MB b).length)).toNat) [u32 c]=dE (q.set (i+(az MB b).length) c):=by rw[show 0+((i:Int)+(az MB b).length).toNat=i+(az MB b).length by omega,gR]
 rw[List.take_length,vb] at jval;rw[tiT.eq_1];refine r_m 10 ?_;refine a_8 ?_;refine a_1 ?_;refine ee (.store rfl rfl hg rfl rfl rfl TS.h (nle rfl)) ?_;refine ao ?_;refine r_m 2 ?_;refine a_z ?_;refine⟨(q.set (i+(az MB b).length) c,i+1),χ,⟨by simp[jlen],χ,sO jdig jcar,?_,?_⟩,?_⟩;simp only;have e1:=px MB c hz;rw[c7 _ hx,Nat.add_mul,<-jval];omega;intro j hj hj2;rw[List.getElem?_set_ne (by simp only at hj;omega)];exact jzer j (by simp only at hj;omega) (by simpa using hj2);rw[tiS.eq_1];exact s_f [];have hi:i=(az MB a).length:=by have:=of_decide_eq_false h;omega
 refine aB ⟨(o,i),⟨⟨hlen,hle,hdig,hval,hzer⟩,hi⟩,?_⟩;rw[tiS.eq_1];exact s_e [];rintro⟨o,i⟩ ⟨⟨hlen,hle,hdig,hval,hzer⟩,hi⟩;simp only at hlen hle hdig hval hzer hi;subst hi;rw[List.take_length,va] at hval;rw[tiS.eq_1];refine AWp.ent (st':=⟨[(4,.lptr 3 0 0),(5,.arr (dE o))],[(3,some ⟨38,1,[[.emp]]⟩)],4,73⟩) ?_ ?_;refine s_x [] (λhs=>?_) (λhs=>?_)
 ·repeat' (first|exact aF|refine aj rfl ?_ ?_|exact Cv.sealE hs rfl (aP rfl) rfl (by simp[hlen]) (bY _)|exact aX)
 ·repeat' (first|exact aD|refine h_c ?_ ?_|exact bG|refine ay ?_|exact ax|refine af ?_ ?_|exact Cv.sealE hs rfl (aP rfl) rfl (by simp[hlen]) (bY _)|exact aX)
 refine s_r 3 ?_;refine o_0 (.move rfl) ?_;refine o_0 (.call rfl rfl rfl (iq _ ω)) ?_;refine ee (.store rfl rfl rfl rfl rfl rfl TS.h (nle rfl)) ?_;refine ao ?_;refine an (dA rfl rfl rfl TG.h TS.h (nle rfl) ?_ (aN (ae (cg _) ai)));rw[jv (b:=MB) δ hdig,hval];rfl
def siS(a:Nat)(d:Nat):Nat×Ln×Nat->AState
 |(k,t,r)=>⟨[(8,i64 ((k:Int)- 1)),(1,u32 d),(2,.lptr 1 0 0),(4,.lptr 2 0 0),(5,.lptr 3 0 0),(6,.lsl 4 0 (az MB a).length (some (az MB a).length) 1),(7,u64 r)],
  [(1,some ⟨38,1,[[mag a]]⟩),(2,some ⟨38,1,[[.emp]]⟩),(3,some ⟨38,1,[[.emp]]⟩),(4,some ⟨176,1,dE (List.replicate k 0++t)⟩)],5,46⟩
structure SimI (a d:Nat)(x:Nat×Ln×Nat):Prop where
 len:x.1+x.2.1.length=(az MB a).length
 dig:∀y∈x.2.1,y< MB
 rest:x.2.2< d
 val:ofD MB ((az MB a).drop x.1)=d* ofD MB x.2.1+x.2.2
theorem EG(a d:Nat)(h:bl a<=17592186044416)(hd0:0< d)(hd:d< 4294967296):FS 180 [.agg [mag a],u32 d] (.tup [.agg [mag (a/ d)],.agg [mag (a % d)]]):=by
 have hla:=bR (b:=MB) δ a;have va:=bC (b:=MB) δ a;refine f_c Tryz.func180 ?_;refine r_z 3 ?_;refine r_z 5 ?_;refine r_z 1 ?_;refine ac (r_z 5 ?_);refine aG (siS a d) (λx=>SimI a d x/\x.1=0) ?_ ?_;refine ak (aC (siS a d) (λx=>x.1) (SimI a d) ((az MB a).length,[],0) ⟨ψ,ψ,hd0,by simp[ofD]⟩ ?_ ?_);rw[siS.eq_1];exact s_e [(4,6)];rintro⟨k,t,r⟩ ⟨hlen,hdig,hrest,hval⟩;simp only at hlen hdig hrest hval;rw[siS.eq_1];refine ac (r_z 2 ?_);refine aw rfl (λh=>?_) (λh=>?_);have hk0:0< k:=by have:=of_decide_eq_true h;omega
 obtain⟨x,hx⟩:∃x,(az MB a)[k- 1]?=some x:=⟨_,List.getElem?_eq_getElem ω⟩;have hx1:x< 1000000000:=cQ δ hx;have hx':(dE (az MB a))[((k:Int)- 1).toNat]?=some [u32 x]:=by rw[show((k:Int)- 1).toNat=k- 1 by omega];exact dN hx
 have hrep:List.replicate k 0++t=List.replicate (k- 1) 0++0::t:=by
  conv=>lhs;rw[show k=(k- 1)+1 by omega,List.replicate_succ']
  simp
 have hg:(dE (List.replicate k 0++t))[0+((k:Int)- 1).toNat]?=some [u32 0]:=by
  rw[show 0+((k:Int)- 1).toNat=k- 1 by omega,hrep];exact dN (pL _ _ _ _ ψ)
 have hset:∀w:Nat,(dE (List.replicate k 0++t)).set (0+((k:Int)- 1).toNat) [u32 w]=dE (List.replicate (k- 1) 0++(w::t)):=by
  intro w;rw[show 0+((k:Int)- 1).toNat=k- 1 by omega,gR,hrep,pe _ _ _ _ _ ψ];simp
 have hq:(r* 1000000000+x) / d< 1000000000:=by
  rw[Nat.div_lt_iff_lt_mul hd0];have:(r+1) * 1000000000<=d* 1000000000:=Nat.mul_le_mul_right _ hrest;rw[Nat.mul_comm 1000000000 d];omega
 have hA:(r:Int) * 1000000000+x=((r* 1000000000+x:Nat):Int):=ω
 have hqi:((r:Int) * 1000000000+x) / d=(((r* 1000000000+x) / d:Nat):Int):=by rw[hA];exact(Int.natCast_ediv _ _).symm
 have hri:((r:Int) * 1000000000+x) % d=(((r* 1000000000+x) % d:Nat):Int):=by rw[hA];exact(Int.natCast_emod _ _).symm
 have hmod:=Nat.mod_lt (r* 1000000000+x) hd0;have e:=Nat.div_add_mod (r* 1000000000+x) d;obtain⟨Q,hQ⟩:∃Q,Q=(r* 1000000000+x) / d:=⟨_,rfl⟩;obtain⟨R,hR⟩:∃R,R=(r* 1000000000+x) % d:=⟨_,rfl⟩;rw[<-hQ] at hq hqi;rw[<-hR] at hmod hri;rw[<-hQ,<-hR] at e;refine am (ac (ak (s_r 10 ?_)));refine a_5 ?_;refine i_x hx' ?_;refine l_1 hx' ?_;refine a_z ?_;refine r_d hmix 14 ?_;refine a_5 ?_;refine o_0 (.bin rfl rfl (AO ω)) ?_;refine o_0 (.conv rfl (cU32 (by rw[hqi];omega) tu_173.h tu_176.h)) ?_;refine a_5 ?_;refine ee (.store rfl rfl hg rfl rfl rfl TS.h (nle rfl)) ?_;refine a_1 ?_;refine ao (n_k ?_);refine r_m 3 ?_;refine a_z ?_;refine⟨(k- 1,Q::t,R),χ,⟨χ,?_,hmod,?_⟩,?_⟩;intro y hy;rcases List.mem_cons.1 hy with rfl|hy
 exact hq;exact hdig y hy;simp only;rw[kG MB hx,show k- 1+1=k by omega,hval,ofD];have e2:d* (Q+MB* ofD MB t)=d* Q+MB* (d* ofD MB t):=by rw[Nat.mul_add,Nat.mul_left_comm]
 have e3:MB* (d* ofD MB t+r)=MB* (d* ofD MB t)+1000000000* r:=Nat.mul_add _ _ _;omega;rw[siS.eq_1];refine s_x [] (λhs=>?_) (λhs=>?_)
 ·repeat' (first|exact aF|refine aj rfl ?_ ?_|exact Cv.loE hs (congrArg (λz=>AV.v (.int .u64 z)) hri) (ag _)|exact aX)
 ·repeat' (first|exact aD|refine h_c ?_ ?_|(refine aI hs ?_ (bY _);rw[hqi];exact hset _)|exact bG|refine ay ?_|exact ax|refine af ?_ ?_|exact Cv.loE hs (congrArg (λz=>AV.v (.int .u64 z)) hri) (ag _)|exact aX)
 have hk0:k=0:=by have:=of_decide_eq_false h;omega
 refine aB ⟨(k,t,r),⟨⟨hlen,hdig,hrest,hval⟩,hk0⟩,?_⟩;rw[siS.eq_1];exact s_e [];rintro⟨k,t,r⟩ ⟨⟨hlen,hdig,hrest,hval⟩,hk⟩;simp only at hlen hdig hrest hval hk;subst hk;rw[List.drop_zero,va] at hval;have hq:a/ d=ofD MB t:=by rw[hval,Nat.mul_add_div hd0,Nat.div_eq_of_lt hrest];omega
 have hr:a % d=r:=by rw[hval,Nat.mul_add_mod];exact Nat.mod_eq_of_lt hrest
 rw[siS.eq_1];refine AWp.ent (st':=⟨[(4,.lptr 1 0 0),(5,.lptr 2 0 0),(6,.arr (dE t)),(7,u64 r)],[(1,some ⟨38,1,[[.emp]]⟩),(2,some ⟨38,1,[[.emp]]⟩)],3,46⟩) ?_ ?_;exact s_x [(1,4),(2,5)] (λhs=>e_25) (λhs=>e_26);refine s_r 6 ?_;refine o_0 (.move rfl) ?_;refine o_0 (.call rfl rfl rfl (iq _ ω)) ?_;refine o_0 (.move rfl) ?_;refine o_0 (.call rfl rfl rfl (fy r ω)) ?_;refine ee (.store rfl rfl rfl rfl rfl rfl TS.h (nle rfl)) ?_;refine ee (.store rfl rfl rfl rfl rfl rfl TS.h (nle rfl)) ?_;refine ao ?_;refine an ?_;rw[hq,hr];refine Fin.many ⟨_,_,rfl,⟨_,_,_,_,_,rfl,rfl,rfl,.inl ⟨TG.h,_,TS.h,nle rfl,rfl⟩⟩,_,_,rfl,⟨_,_,_,_,_,rfl,rfl,rfl,.inl ⟨TG.h,_,TS.h,nle rfl,rfl⟩⟩,rfl⟩ (nle rfl) ?_;refine af (Cv.loE aE ?_ (aN (ae (c6 (ff t)) ai))) (af (ah aE (aN (ae (cg r) ai))) ax);rw[jv (b:=MB) δ hdig];rfl
theorem Dy{pre s t post:Ln}{x e i:Nat}(he:e=pre.length)(hi:i=s.length):(pre++(s++x::t)++post)[e+i]?=some x:=by
 subst he hi;simp
theorem Dx{pre s t post:Ln}{x v e i:Nat}(he:e=pre.length)(hi:i=s.length):(pre++(s++x::t)++post).set (e+i) v=pre++((s++[v])++t)++post:=by
 subst he hi;rw[List.append_assoc,List.set_append_right _ _ ω,List.append_assoc,show pre.length+s.length- pre.length=s.length by omega,List.set_append_right _ _ ω];simp
def suS(V:Ln)(A:Ln)(pre:Ln)(post:Ln)(cap:Option Nat)(t:Nat):Ln×Nat×Nat->AState
 |(s,c,q)=>⟨[(0,.lsl 0 pre.length A.length cap 1),(1,.arr (dE V)),(2,u64 t),(7,u64 c),(8,i64 q),(13,i64 s.length),(12,i64 A.length)],
  [(0,some ⟨176,1,dE (pre++(s++A.drop s.length)++post)⟩)],1,54⟩
structure SubI (V A:Ln)(t:Nat)(x:Ln×Nat×Nat):Prop where
 le:x.1.length<=A.length
 dig:∀d∈x.1,d< MB
 car:x.2.1< MB
 bor:x.2.2<=1
 fin:V.length< x.1.length->x.2.1=0
 val:ofD MB x.1+t* ofD MB (V.take x.1.length)=ofD MB (A.take x.1.length)+MB^ x.1.length* (x.2.2+x.2.1)
theorem κ{p:Prop}(h:p:=by kernel_rfl):p:=h
theorem Av (pre A post V:Ln) (t D q:Nat) (cap:Option Nat) (hA:∀d∈A,d< MB) (hV:∀d∈V,d< MB) (ht:t< MB) (hlen:V.length< A.length) (hA2:A.length< 17592186044416) (hq:q<=1)
    (hD:D+t* ofD MB V=ofD MB A+MB^ A.length* q) (hD2:D< MB^ A.length):
    ESpec Tryz.prog 181 176 1 (dE (pre++A++post)) (dE (pre++iF MB A.length D++post)) pre.length A.length cap [.arr (dE V),u64 t] (.bool (q !=0)):=by
 have ht1:t< 1000000000:=ht;refine ESpec.enter Tryz.func181 rfl κ rfl rfl rfl ?_ ?_ ?_ rfl ?_;exact ae (c6 _) (ae (ag _) ai);exact bY _;exact bY _;refine r_z 1 ?_;refine r_z 2 ?_;refine ac (r_z 3 ?_);refine aG (suS V A pre post cap t) (λx=>SubI V A t x/\x.1.length=A.length) ?_ ?_;refine ak (aC (suS V A pre post cap t) (λx=>A.length- x.1.length) (SubI V A t) ([],0,0) ⟨ψ,ψ,(show 0< MB by decide),ψ,ψ,by simp[ofD]⟩ ?_ ?_);rw[suS.eq_1];exact s_e [];rintro⟨s,c,β⟩ ⟨hle,hdig,hcar,hbor,hfin,hval⟩;simp only at hle hdig hcar hbor hfin hval;have hc1:c< 1000000000:=hcar;rw[suS.eq_1];refine r_z 1 ?_;refine ac (aw rfl (λh=>?_) (λh=>?_));have hlt:s.length< A.length:=by have:=of_decide_eq_true h;omega
 obtain⟨x,hx⟩:∃x,A[s.length]?=some x:=⟨_,List.getElem?_eq_getElem hlt⟩;have hx1:x< 1000000000:=hA x (List.mem_of_getElem? hx)
 have hg:(dE (pre++(s++A.drop s.length)++post))[pre.length+((s.length:Nat):Int).toNat]?=some [u32 x]:=by
  rw[Int.toNat_natCast,fG hx];exact dN (Dy rfl rfl)
 have hset:∀w:Nat,(dE (pre++(s++A.drop s.length)++post)).set (pre.length+((s.length:Nat):Int).toNat) [u32 w]=dE (pre++((s++[w])++A.drop (s++[w]).length)++post):=by
  intro w;rw[Int.toNat_natCast,fG hx,gR,Dx rfl rfl];simp
 refine am (ac (ak (r_z 2 ?_)));refine ac (r_z 4 ?_)
 refine aG (λv:Nat=>⟨[(0,.lsl 0 pre.length A.length cap 1),(1,.arr (dE V)),(2,u64 t),(7,u64 v),(8,i64 β),(9,i64 s.length),(13,i64 s.length),(12,i64 A.length)],
  [(0,some ⟨176,1,dE (pre++(s++A.drop s.length)++post)⟩)],1,54⟩)
  (λv=>v=c+t* (V[s.length]?.getD 0)/\v<=999999999+999999999* 999999999/\(V.length<=s.length->v=c)) ?_ ?_
 refine aw rfl (λh=>?_) (λh=>?_);have hlt2:s.length< V.length:=by have:=of_decide_eq_true h;simp at this;omega
 obtain⟨y,hy⟩:∃y,V[s.length]?=some y:=⟨_,List.getElem?_eq_getElem hlt2⟩;have hy1:y< 1000000000:=hV y (List.mem_of_getElem? hy);have hy':(dE V)[((s.length:Nat):Int).toNat]?=some [u32 y]:=dN hy;have hxy0:t* y<=999999999* 999999999:=Nat.mul_le_mul ω ω;have hxyn:0<=(t:Int) * y:=Int.mul_nonneg ω ω;have hxyi:(t:Int) * y=((t* y:Nat):Int):=(Int.natCast_mul _ _).symm;refine r_m 10 ?_;refine a_4 ?_;refine i_x hy' ?_;refine l_1 hy' ?_;refine a_z ?_;refine⟨c+t* y,⟨by rw[hy];rfl,ω,λh=>absurd h ω⟩,?_⟩;have hI:(c:Int)+(t:Int) * y=((c+t* y:Nat):Int):=ω
 have:=(congrArg (λz=>AV.v (.int .u64 z)) hI);exact s_f [];have hlt2:¬s.length< V.length:=by have:=of_decide_eq_false h;simp at this;omega
 refine am ⟨c,⟨by rw[List.getElem?_eq_none ω];simp,ω,λ_=>rfl⟩,?_⟩;exact s_e [];rintro v ⟨hv,hv1,hv2⟩;refine s_r 12 ?_;refine a_2 ?_
 first|refine av (.index_l rfl rfl ω ω te_36.h) rfl rfl ?_|refine av (.index_a rfl rfl ω hg rfl te_36.h) rfl rfl ?_
 first|refine av (.load_l1 rfl rfl hg TG.h rfl) rfl rfl ?_|refine av (.load_a1 rfl hg TG.h rfl) rfl rfl ?_
 refine a_z ?_;refine r_z 3 ?_;refine r_z 1 ?_;refine ac (r_z 2 ?_)
 have hnext:∀w q',w+v % 1000000000+β=x+1000000000* q'->w< 1000000000->q'<=1->SubI V A t (s++[w],v/ 1000000000,q'):=by
  intro w q' hw hwb hq';refine⟨χ,?_,?_,hq',?_,?_⟩;intro d hd;rcases List.mem_append.1 hd with hd|hd
  exact hdig d hd;simp at hd;subst hd;exact hwb;show v/ 1000000000< 1000000000;omega;intro hl;simp at hl;have:=hv2 ω;simp only;omega;simp only[List.length_append,List.length_singleton];rw[gL,c7 _ hx,eI,Nat.pow_succ];have e:MB^ s.length* (w+v % 1000000000+β+1000000000* (v/ 1000000000))=MB^ s.length* (x+MB* q'+MB* (v/ 1000000000)):=by rw[hw]
  have e2:w+v % 1000000000+β+1000000000* (v/ 1000000000)=w+β+(c+t* (V[s.length]?.getD 0)):=by rw[<-hv];have:=Nat.mod_add_div v 1000000000;omega
  rw[e2] at e;have e3:t* (ofD MB (V.take s.length)+MB^ s.length* (V[s.length]?.getD 0))=t* ofD MB (V.take s.length)+MB^ s.length* (t* (V[s.length]?.getD 0)):=by rw[Nat.mul_add,Nat.mul_left_comm]
  rw[e3];have e4:MB^ s.length* MB* (q'+v/ 1000000000)=MB^ s.length* (MB* q')+MB^ s.length* (MB* (v/ 1000000000)):=by rw[Nat.mul_assoc,Nat.mul_add,Nat.mul_add]
  rw[e4];simp only[Nat.mul_add] at e hval⊢;omega
 refine aw rfl (λh=>?_) (λh=>?_);have hb:(x:Int)- v % 1000000000- β< 0:=by have:=of_decide_eq_true h;omega
 have hI:(x:Int)- (v:Int) % 1000000000- β+1000000000=((x+1000000000- v % 1000000000- β:Nat):Int):=ω
 refine r_m 4 ?_;refine a_z ?_;refine r_m 6 ?_;refine a_4 ?_
 first|refine av (.index_l rfl rfl ω ω te_36.h) rfl rfl ?_|refine av (.index_a rfl rfl ω ω rfl te_36.h) rfl rfl ?_
 refine ee (.store rfl rfl hg rfl rfl rfl TS.h (nle rfl)) ?_;refine ao ?_;refine r_m 2 ?_;refine a_z ?_;refine⟨(s++[x+1000000000- v % 1000000000- β],v/ 1000000000,1),χ,hnext _ _ ω ω (Nat.le_refl _),?_⟩;rw[suS.eq_1];exact s_x [] (λhs=>cN) (λhs=>e_16);have hb:¬(x:Int)- v % 1000000000- β< 0:=by have:=of_decide_eq_false h;omega
 have hI:(x:Int)- (v:Int) % 1000000000- β=((x- v % 1000000000- β:Nat):Int):=ω
 refine am (r_m 6 ?_);refine a_3 ?_;refine o_0 (.conv rfl (cU32 ω tu_2.h tu_176.h)) ?_;refine a_1 ?_;refine ee (.store rfl rfl hg rfl rfl rfl TS.h (nle rfl)) ?_;refine ao ?_;refine r_m 2 ?_;refine a_z ?_;refine⟨(s++[x- v % 1000000000- β],v/ 1000000000,0),χ,hnext _ _ ω ω ω,?_⟩;rw[suS.eq_1];exact s_x [] (λhs=>cN) (λhs=>e_16);have hl:s.length=A.length:=by have:=of_decide_eq_false h;omega
 refine aB ⟨(s,c,β),⟨⟨hle,hdig,hcar,hbor,hfin,hval⟩,hl⟩,?_⟩;rw[suS.eq_1];exact s_e [];rintro⟨s,c,β⟩ ⟨⟨hle,hdig,hcar,hbor,hfin,hval⟩,hl⟩;simp only at hle hdig hcar hbor hfin hval hl;have hc0:=hfin ω;subst hc0;rw[hl,List.take_length,List.take_of_length_le ω,Nat.add_zero] at hval;have hs1:=fw hdig;rw[hl] at hs1;have hpos:0< MB^ A.length:=Nat.pow_pos δ
 have hqq:β=q/\ofD MB s=D:=by
  rcases Nat.le_one_iff_eq_zero_or_eq_one.1 hq with rfl|rfl <;> rcases Nat.le_one_iff_eq_zero_or_eq_one.1 hbor with rfl|rfl <;> constructor <;> omega
 obtain⟨rfl,rfl⟩:=hqq;rw[suS.eq_1];refine r_z 3 ?_;refine an (FinE.tmp rfl ?_ rfl ?_);congr 2;rw[Bool.eq_iff_iff];simp;rw[hl,List.drop_length,List.append_nil,<-x9 hdig hl rfl]
def gbS(V:Ln)(A:Ln)(pre:Ln)(post:Ln)(cap:Option Nat):Ln×Nat->AState
 |(s,c)=>⟨[(0,.lsl 0 pre.length A.length cap 1),(1,.arr (dE V)),(5,u32 c),(10,i64 s.length),(9,i64 A.length)],
  [(0,some ⟨176,1,dE (pre++(s++A.drop s.length)++post)⟩)],1,40⟩
structure GiveI (V A:Ln)(x:Ln×Nat):Prop where
 le:x.1.length<=A.length
 dig:∀d∈x.1,d< MB
 car:x.2<=1
 val:ofD MB x.1+MB^ x.1.length* x.2=ofD MB (A.take x.1.length)+ofD MB (V.take x.1.length)
theorem Aw (pre A post V:Ln) (D q:Nat) (cap:Option Nat) (hA:∀d∈A,d< MB) (hV:∀d∈V,d< MB) (hlen:V.length<=A.length) (hA2:A.length< 17592186044416) (hq:q<=1)
    (hD:D+MB^ A.length* q=ofD MB A+ofD MB V) (hD2:D< MB^ A.length):
    ESpec Tryz.prog 182 176 1 (dE (pre++A++post)) (dE (pre++iF MB A.length D++post)) pre.length A.length cap [.arr (dE V)] (.bool (q !=0)):=by
 refine ESpec.enter Tryz.func182 rfl κ rfl rfl rfl ?_ ?_ ?_ rfl ?_;exact ae (c6 _) ai;exact bY _;exact bY _;refine r_z 1 ?_;refine r_z 1 ?_;refine ac (r_z 3 ?_);refine aG (gbS V A pre post cap) (λx=>GiveI V A x/\x.1.length=A.length) ?_ ?_;refine ak (aC (gbS V A pre post cap) (λx=>A.length- x.1.length) (GiveI V A) ([],0) ⟨ψ,ψ,ψ,by simp[ofD]⟩ ?_ ?_);rw[gbS.eq_1];exact s_e [];rintro⟨s,c⟩ ⟨hle,hdig,hcar,hval⟩;simp only at hle hdig hcar hval;rw[gbS.eq_1];refine r_z 1 ?_;refine ac (aw rfl (λh=>?_) (λh=>?_));have hlt:s.length< A.length:=by have:=of_decide_eq_true h;omega
 obtain⟨x,hx⟩:∃x,A[s.length]?=some x:=⟨_,List.getElem?_eq_getElem hlt⟩;have hx1:x< 1000000000:=hA x (List.mem_of_getElem? hx)
 have hg:(dE (pre++(s++A.drop s.length)++post))[pre.length+((s.length:Nat):Int).toNat]?=some [u32 x]:=by
  rw[Int.toNat_natCast,fG hx];exact dN (Dy rfl rfl)
 have hset:∀w:Nat,(dE (pre++(s++A.drop s.length)++post)).set (pre.length+((s.length:Nat):Int).toNat) [u32 w]=dE (pre++((s++[w])++A.drop (s++[w]).length)++post):=by
  intro w;rw[Int.toNat_natCast,fG hx,gR,Dx rfl rfl];simp
 refine am (ac (ak (r_z 2 ?_)));refine s_r 7 ?_;refine a_2 ?_
 first|refine av (.index_l rfl rfl ω ω te_36.h) rfl rfl ?_|refine av (.index_a rfl rfl ω hg rfl te_36.h) rfl rfl ?_
 first|refine av (.load_l1 rfl rfl hg TG.h rfl) rfl rfl ?_|refine av (.load_a1 rfl hg TG.h rfl) rfl rfl ?_
 refine a_z ?_;refine ac (r_z 4 ?_)
 refine aG (λv:Nat=>⟨[(0,.lsl 0 pre.length A.length cap 1),(1,.arr (dE V)),(5,u32 c),(7,u32 v),(6,i64 s.length),(10,i64 s.length),(9,i64 A.length)],
  [(0,some ⟨176,1,dE (pre++(s++A.drop s.length)++post)⟩)],1,40⟩)
  (λv=>v=x+c+(V[s.length]?.getD 0)/\v<=1999999999) ?_ ?_
 refine aw rfl (λh=>?_) (λh=>?_);have hlt2:s.length< V.length:=by have:=of_decide_eq_true h;simp at this;omega
 obtain⟨y,hy⟩:∃y,V[s.length]?=some y:=⟨_,List.getElem?_eq_getElem hlt2⟩;have hy1:y< 1000000000:=hV y (List.mem_of_getElem? hy);have hy':(dE V)[((s.length:Nat):Int).toNat]?=some [u32 y]:=dN hy;refine r_m 7 ?_;refine a_3 ?_;refine i_x hy' ?_;refine l_1 hy' ?_;refine a_z ?_;refine⟨x+c+y,⟨by rw[hy];rfl,ω⟩,?_⟩;exact s_e [];have hlt2:¬s.length< V.length:=by have:=of_decide_eq_false h;simp at this;omega
 refine am ⟨x+c,⟨by rw[List.getElem?_eq_none ω];rfl,ω⟩,?_⟩;exact s_e [];rintro v ⟨hv,hv1⟩;refine r_z 1 ?_;refine ac (r_z 2 ?_)
 have hnext:∀w c',w+1000000000* c'=v->w< 1000000000->c'<=1->GiveI V A (s++[w],c'):=by
  intro w c' hw hwb hc';refine⟨χ,?_,hc',?_⟩;intro d hd;rcases List.mem_append.1 hd with hd|hd
  exact hdig d hd;simp at hd;subst hd;exact hwb;simp only[List.length_append,List.length_singleton];rw[gL,c7 _ hx,eI,Nat.pow_succ];have e:MB^ s.length* (w+MB* c')=MB^ s.length* (x+c+(V[s.length]?.getD 0)):=by rw[<-hv,<-hw]
  simp only[Nat.mul_add] at e;rw[<-Nat.mul_assoc] at e;omega
 refine aw rfl (λh=>?_) (λh=>?_);have hb:1000000000<=v:=by have:=of_decide_eq_true h;omega
 have hI:(v:Int)- 1000000000=((v- 1000000000:Nat):Int):=ω
 refine r_m 4 ?_;refine a_z ?_;refine r_m 5 ?_;refine a_4 ?_;refine ee (.store rfl rfl hg rfl rfl rfl TS.h (nle rfl)) ?_;refine ao ?_;refine r_m 2 ?_;refine a_z ?_;refine⟨(s++[v- 1000000000],1),χ,hnext _ _ ω ω (Nat.le_refl _),?_⟩;rw[gbS.eq_1];exact s_x [] (λhs=>cN) (λhs=>e_16);have hb:v< 1000000000:=by have:=of_decide_eq_false h;omega
 refine am (r_m 5 ?_);refine a_4 ?_;refine ee (.store rfl rfl hg rfl rfl rfl TS.h (nle rfl)) ?_;refine ao ?_;refine r_m 2 ?_;refine a_z ?_;refine⟨(s++[v],0),χ,hnext _ _ ω ω ω,?_⟩;rw[gbS.eq_1];exact s_x [] (λhs=>cN) (λhs=>e_22);have hl:s.length=A.length:=by have:=of_decide_eq_false h;omega
 refine aB ⟨(s,c),⟨⟨hle,hdig,hcar,hval⟩,hl⟩,?_⟩;rw[gbS.eq_1];exact s_e [];rintro⟨s,c⟩ ⟨⟨hle,hdig,hcar,hval⟩,hl⟩;simp only at hle hdig hcar hval hl;rw[hl,List.take_length,List.take_of_length_le ω] at hval;have hs1:=fw hdig;rw[hl] at hs1;have hpos:0< MB^ A.length:=Nat.pow_pos δ
 have hqq:c=q/\ofD MB s=D:=by
  rcases Nat.le_one_iff_eq_zero_or_eq_one.1 hq with rfl|rfl <;> rcases Nat.le_one_iff_eq_zero_or_eq_one.1 hcar with rfl|rfl <;> constructor <;> omega
 obtain⟨rfl,rfl⟩:=hqq;rw[gbS.eq_1];refine r_z 3 ?_;refine an (FinE.tmp rfl ?_ rfl ?_);congr 2;rw[Bool.eq_iff_iff];simp;rw[hl,List.drop_length,List.append_nil,<-x9 hdig hl rfl]
end Go.Proofs.YtjgokhkahkmpbaaGreatDoor
