/- Part W18 of the proof. -/
import Derived.Test.YtjmkjicckobojaaGreatDoorW17
set_option linter.all false
namespace Go.Proofs.YtjmkjicckobojaaGreatDoor
open Go.Abs
set_option maxRecDepth 20000
def leS(a:Nat)(b:Nat):Ln×Nat->AState
 |(s,c)=>⟨[(19,i64 s.length),(18,i64 (aw MB a).length),(2,.lptr 1 0 0),(3,.lptr 2 0 0),(4,.lptr 3 0 0),(5,.lsl 4 0 (aw MB a).length (some (aw MB a).length) 1),(6,u32 c)],
  [(1,some ⟨38,1,[[mag a]]⟩),(2,some ⟨38,1,[[mag b]]⟩),(3,some ⟨38,1,[[.emp]]⟩),(4,some ⟨260,1,dE (s++(aw MB a).drop s.length)⟩)],5,61⟩
def leT(n:Nat):Ln×Unit->AState
 |(o,u)=>⟨[(4,.lptr 3 0 0),(5,.lsl 4 0 n (some n) 1)],
  [(3,some ⟨38,1,[[.emp]]⟩),(4,some ⟨260,1,dE o⟩)],5,61⟩
structure LessI (a b:Nat)(x:Ln×Nat):Prop where
 le:x.1.length<=(aw MB a).length
 dig:∀d∈x.1,d< MB
 car:x.2<=1
 val:ofD MB x.1+ofD MB ((aw MB b).take x.1.length)=ofD MB ((aw MB a).take x.1.length)+MB^ x.1.length* x.2
theorem Au(a b:Nat)(h:bl a<=17592186044416)(hba:b<=a):FS 195 [.agg [mag a],.agg [mag b]] (.agg [mag (a- b)]):=by
 have hla:=b8 (b:=MB) δ a;have hlen:=BV (b:=MB) δ hba;have va:=bY (b:=MB) δ a;have vb:=bY (b:=MB) δ b;refine f_c Tryz.func195 ?_;refine r_z 3 ?_;refine r_z 5 ?_;refine s_r 4 ?_;refine a_3 ?_;refine o_1 (.copy rfl rfl rfl te_36.h rfl rfl rfl (by first|(simp;done)|(simp;omega)) (by first|exact cZ _|exact cY _|exact cD _|exact c5 _|exact cU _|rfl|simp) rfl (.arr (A4 _))) ?_;refine aq ?_
 have hcp:fz (List.replicate (aw MB a).length [ofV (Value.int IntKind.u32 0)]) 0 (List.take (Nat.min (dE (aw MB a)).length (aw MB a).length) (dE (aw MB a)))=dE ([]++(aw MB a).drop 0):=by
  rw[Hu];rw[List.take_of_length_le ψ];rfl;simp
 refine r_z 1 ?_;refine ac (r_z 3 ?_);refine aC (leT (aw MB a).length) (λx=>(∀d∈x.1,d< MB)/\x.1.length=(aw MB a).length/\ofD MB x.1=a- b) ?_ ?_;refine ah (ay (leS a b) (λx=>(aw MB a).length- x.1.length) (LessI a b) ([],0) ⟨ψ,ψ,ψ,by simp[ofD]⟩ ?_ ?_);rw[leS.eq_1];exact s_x [(4,5)] (λhs=>dD) (λhs=>e_28) e_27;rintro⟨s,c⟩ ⟨hle,hdig,hcar,hval⟩;simp only at hle hdig hcar hval;rw[leS.eq_1];refine r_z 1 ?_;refine ac (ar rfl (λh=>?_) (λh=>?_));have hlt:s.length< (aw MB a).length:=by have:=of_decide_eq_true h;omega
 obtain⟨x,hx⟩:∃x,(aw MB a)[s.length]?=some x:=⟨_,List.getElem?_eq_getElem hlt⟩;have hx1:x< 1000000000:=da δ hx;have hdx:=gD hx;refine aj (ac (ah (r_z 2 ?_)));refine r_z 2 ?_;refine ac (r_z 5 ?_)
 refine aC (λv:Nat=>⟨[(19,i64 s.length),(18,i64 (aw MB a).length),(2,.lptr 1 0 0),(3,.lptr 2 0 0),(4,.lptr 3 0 0),(5,.lsl 4 0 (aw MB a).length (some (aw MB a).length) 1),(6,u32 c),(7,i64 s.length),(8,u32 v)],
  [(1,some ⟨38,1,[[mag a]]⟩),(2,some ⟨38,1,[[mag b]]⟩),(3,some ⟨38,1,[[.emp]]⟩),(4,some ⟨260,1,dE (s++(aw MB a).drop s.length)⟩)],5,61⟩)
  (λv=>v=c+(aw MB b)[s.length]?.getD 0/\v<=1000000000) ?_ ?_
 refine ar rfl (λh=>?_) (λh=>?_);have hlt2:s.length< (aw MB b).length:=by have:=of_decide_eq_true h;omega
 obtain⟨y,hy⟩:∃y,(aw MB b)[s.length]?=some y:=⟨_,List.getElem?_eq_getElem hlt2⟩;have hy1:y< 1000000000:=da δ hy;have hy':(dE (aw MB b))[((s.length:Nat):Int).toNat]?=some [u32 y]:=eg hy;refine r_m 8 ?_;refine a_4 ?_;refine i_x hy' ?_;refine l_1 hy' ?_;refine a_z ?_;refine⟨c+y,⟨by rw[hy];rfl,ω⟩,?_⟩;exact s_e [];have hlt2:¬s.length< (aw MB b).length:=by have:=of_decide_eq_false h;omega
 refine r_z 2 ?_;refine ar rfl (λh=>?_) (λh=>?_);have hc0:c=0:=by simpa using h
 refine ax ⟨(s++(aw MB a).drop s.length,()),⟨?_,χ,?_⟩,?_⟩;intro d hd;rcases List.mem_append.1 hd with hd|hd
 exact hdig d hd;exact dU δ a d (List.mem_of_mem_drop hd);have:=eF MB s.length (aw MB a) ω;rw[va] at this;rw[iL _ ω,vb,hc0] at hval;simp only[ig];omega;rw[leT.eq_1];exact s_e [];refine aj ⟨c,⟨by rw[List.getElem?_eq_none ω];rfl,ω⟩,?_⟩;exact s_e [];rintro v ⟨hv,hv1⟩;obtain⟨y,hy⟩:∃y,y=(aw MB b)[s.length]?.getD 0:=⟨_,rfl⟩;rw[<-hy] at hv
 have hg:(dE (s++(aw MB a).drop s.length))[0+((s.length:Nat):Int).toNat]?=some [u32 x]:=by
  rw[Nat.zero_add,Int.toNat_natCast,hdx];exact eg (rG _ _ _ _ rfl)
 have hset:∀w:Nat,(dE (s++(aw MB a).drop s.length)).set (0+((s.length:Nat):Int).toNat) [u32 w]=dE ((s++[w])++(aw MB a).drop (s++[w]).length):=by
  intro w;rw[Nat.zero_add,Int.toNat_natCast,iX,hdx,qN _ _ _ _ _ rfl];simp
 have hnext:∀w c',w+v=x+1000000000* c'->w< 1000000000->c'<=1->LessI a b (s++[w],c'):=by
  intro w c' hw hwb hc';refine⟨χ,?_,hc',?_⟩;intro d hd;rcases List.mem_append.1 hd with hd|hd
  exact hdig d hd;simp at hd;subst hd;exact hwb;simp only[List.length_append,List.length_singleton];rw[iM,dp _ hx,fm,<-hy,Nat.pow_succ];have e:MB^ s.length* (w+v)=MB^ s.length* (x+MB* c'):=by rw[hw]
  rw[hv,Nat.mul_add,Nat.mul_add,Nat.mul_add,<-Nat.mul_assoc] at e;omega
 refine r_z 1 ?_;refine ac (s_r 6 ?_);refine a_2 ?_;refine bm (.index_l rfl rfl ω ω te_36.h) rfl rfl ?_;refine bm (.load_l1 rfl rfl hg TG.h rfl) rfl rfl ?_;refine a_z ?_;refine ar rfl (λh=>?_) (λh=>?_);have hb:x< v:=by have:=of_decide_eq_true h;omega
 have hv2:((x:Int)+1000000000- v)=((x+1000000000- v:Nat):Int):=ω
 have hv3:((x:Int)+1000000000)=((x+1000000000:Nat):Int):=ω
 refine r_m 10 ?_;refine a_5 ?_;refine bm (.load_l1 rfl rfl hg TG.h rfl) rfl rfl ?_;refine a_2 ?_;refine fN (.store rfl rfl hg rfl rfl rfl TS.h (nle rfl)) ?_;refine a_z ?_
 refine AWp.ent (st':=⟨[(19,i64 s.length),(18,i64 (aw MB a).length),(2,.lptr 1 0 0),(3,.lptr 2 0 0),(4,.lptr 3 0 0),(5,.lsl 4 0 (aw MB a).length (some (aw MB a).length) 1),(6,u32 1),(7,i64 s.length),(8,u32 v)],
  [(1,some ⟨38,1,[[mag a]]⟩),(2,some ⟨38,1,[[mag b]]⟩),(3,some ⟨38,1,[[.emp]]⟩),(4,some ⟨260,1,dE (s++(x+1000000000)::(aw MB a).drop (s.length+1))⟩)],5,61⟩) ?_ ?_
 refine s_x [] (λhs=>dD) (λhs=>?_)
 ·repeat' (first|exact aB|refine h_c ?_ ?_|(refine aJ hs ?_ (cf _);rw[hv3];exact(hset _).trans ψ)|exact bG)
 have hg2:(dE (s++(x+1000000000)::(aw MB a).drop (s.length+1)))[0+((s.length:Nat):Int).toNat]?=some [u32 (x+1000000000)]:=by
  rw[Nat.zero_add,Int.toNat_natCast];exact eg (rG _ _ _ _ rfl)
 have hset2:∀w:Nat,(dE (s++(x+1000000000)::(aw MB a).drop (s.length+1))).set (0+((s.length:Nat):Int).toNat) [u32 w]=dE ((s++[w])++(aw MB a).drop (s++[w]).length):=by
  intro w;rw[Nat.zero_add,Int.toNat_natCast,iX,qN _ _ _ _ _ rfl];simp
 have hv2:(((x+1000000000:Nat):Int)- v)=((x+1000000000- v:Nat):Int):=ω
 refine r_m 8 ?_;refine a_2 ?_;refine bm (.index_l rfl rfl ω ω te_36.h) rfl rfl ?_;refine bm (.load_l1 rfl rfl hg2 TG.h rfl) rfl rfl ?_;refine a_3 ?_;refine fN (.store rfl rfl hg2 rfl rfl rfl TS.h (nle rfl)) ?_;refine aq ?_;refine r_m 2 ?_;refine a_z ?_;refine⟨(s++[x+1000000000- v],1),χ,hnext _ _ ω ω ω,?_⟩;rw[leS.eq_1];refine s_x [] (λhs=>dD) (λhs=>?_)
 ·repeat' (first|exact aB|refine h_c ?_ ?_|(refine aJ hs ?_ (cf _);rw[hv2];exact hset2 _)|exact bG)
 have hb:v<=x:=by have:=of_decide_eq_false h;omega
 have hv1:((x:Int)- v)=((x- v:Nat):Int):=ω
 refine aj (r_m 8 ?_);refine a_2 ?_;refine bm (.index_l rfl rfl ω ω te_36.h) rfl rfl ?_;refine bm (.load_l1 rfl rfl hg TG.h rfl) rfl rfl ?_;refine a_3 ?_;refine fN (.store rfl rfl hg rfl rfl rfl TS.h (nle rfl)) ?_;refine aq ?_;refine r_m 2 ?_;refine a_z ?_;refine⟨(s++[x- v],0),χ,hnext _ _ ω ω ω,?_⟩;rw[leS.eq_1];exact s_x [] (λhs=>dD) (λhs=>e_25);have hl:s.length=(aw MB a).length:=by have:=of_decide_eq_false h;omega
 refine ax ⟨(s,()),⟨hdig,hl,?_⟩,?_⟩;have h1:=fX hdig;rw[hl,iL _ hlen,iL _ (Nat.le_refl _),va,vb] at hval;rw[hl] at h1
 have h2:c=0:=by
  rcases Nat.eq_zero_or_pos c with h|h
  exact h;have:MB^ (aw MB a).length* 1<=MB^ (aw MB a).length* c:=Nat.mul_le_mul_left _ h;omega
 subst h2;simp at hval⊢;omega;rw[leT.eq_1];refine s_x [] (λhs=>?_) (λhs=>?_) ?_
 ·repeat' (first|exact aL|refine az rfl ?_ ?_|exact aW|(refine Cv.loE hs ?_ (ak _);first|rfl|(simp[i64,u64,u32,bln,hl];done)|(simp[i64,u64,u32,bln,hl]<;> omega)))
 ·repeat' (first|exact aB|refine h_c ?_ ?_|exact bG|(refine aJ hs ?_ (cf _);first|(simp[iX,mq,iY,hl];done)|(simp[dE,u32,ofV,hl];done))|refine aA ?_|exact av|refine am ?_ ?_|exact aW|(refine Cv.loE hs ?_ (ak _);first|(simp[i64,u64,u32,bln,hl];done)|(simp[i64,u64,u32,bln,hl]<;> omega)))
 ·repeat' (first|exact ShrL.nil|refine ShrL.cons rfl rfl rfl rfl (by first|rfl|(simp;done)|(simp[hl]<;> omega)) ?_)
 rintro⟨o,u⟩ ⟨hd,hl,hv⟩;rw[leT.eq_1];refine AWp.ent (st':=⟨[(4,.lptr 3 0 0),(5,.arr (dE o))],[(3,some ⟨38,1,[[.emp]]⟩)],4,61⟩) ?_ ?_;refine s_x [] (λhs=>?_) (λhs=>?_)
 ·repeat' (first|exact aL|refine az rfl ?_ ?_|exact Cv.sealE hs rfl (aG rfl) rfl (by simp[hl]) (cf _)|exact aW)
 ·repeat' (first|exact aB|refine h_c ?_ ?_|exact bG|refine aA ?_|exact av|refine am ?_ ?_|exact Cv.sealE hs rfl (aG rfl) rfl (by simp[hl]) (cf _)|exact aW)
 simp only at hl hv;refine s_r 3 ?_;refine o_0 (.move rfl) ?_;refine o_0 (.call rfl rfl rfl (jp _ ω)) ?_;refine fN (.store rfl rfl rfl rfl rfl rfl TS.h (nle rfl)) ?_;refine aq ?_;refine ai (ec rfl rfl rfl TG.h TS.h (nle rfl) ?_ (aE (ae (cr _) af)));rw[kH (b:=MB) δ hd,hv];rfl
def tiS(a:Nat)(b:Nat):Ln×Nat->AState
 |(o,i)=>⟨[(22,i64 i),(21,i64 (aw MB a).length),(20,mag a),(3,.lptr 2 0 0),(4,.lptr 3 0 0),(5,.lsl 4 0 ((aw MB a).length+(aw MB b).length) (some ((aw MB a).length+(aw MB b).length)) 1)],
  [(2,some ⟨38,1,[[mag b]]⟩),(3,some ⟨38,1,[[.emp]]⟩),(4,some ⟨260,1,dE o⟩)],5,73⟩
def tiT(a:Nat)(b:Nat)(i:Nat)(x:Nat):Ln×Nat×Nat->AState
 |(o,k,c)=>⟨[(22,i64 i),(21,i64 (aw MB a).length),(20,mag a),(3,.lptr 2 0 0),(4,.lptr 3 0 0),(5,.lsl 4 0 ((aw MB a).length+(aw MB b).length) (some ((aw MB a).length+(aw MB b).length)) 1),(6,i64 i),(7,u32 x),(8,u64 c),(30,i64 k),(29,i64 (aw MB b).length),(28,mag b)],
  [(2,some ⟨38,1,[[mag b]]⟩),(3,some ⟨38,1,[[.emp]]⟩),(4,some ⟨260,1,dE o⟩)],5,73⟩
structure TimesI (a b:Nat)(x:Ln×Nat):Prop where
 len:x.1.length=(aw MB a).length+(aw MB b).length
 le:x.2<=(aw MB a).length
 dig:∀d∈x.1,d< MB
 val:ofD MB x.1=ofD MB ((aw MB a).take x.2) * b
 zer:∀j,x.2+(aw MB b).length<=j->j< x.1.length->x.1[j]?=some 0
structure TimesJ (a b i v:Nat)(x:Ln×Nat×Nat):Prop where
 len:x.1.length=(aw MB a).length+(aw MB b).length
 le:x.2.1<=(aw MB b).length
 dig:∀d∈x.1,d< MB
 car:x.2.2< MB
 val:ofD MB x.1+MB^ (i+x.2.1) * x.2.2=ofD MB ((aw MB a).take i) * b+MB^ i* v* ofD MB ((aw MB b).take x.2.1)
 zer:∀j,i+(aw MB b).length<=j->j< x.1.length->x.1[j]?=some 0
theorem gU(a b:Nat)(h:bl a+bl b<=17592186044416):FS 109 [.agg [mag a],.agg [mag b]] (.agg [mag (a* b)]):=by
 have hla:=b8 (b:=MB) δ a;have hlb:=b8 (b:=MB) δ b;have Z:=bY (b:=MB) δ a;have W:=bY (b:=MB) δ b;refine f_c Tryz.func109 ?_;refine r_z 3 ?_;refine r_z 9 ?_;refine ac (r_z 4 ?_);refine aC (tiS a b) (λx=>TimesI a b x/\x.2=(aw MB a).length) ?_ ?_;refine ah (ay (tiS a b) (λx=>(aw MB a).length- x.2) (TimesI a b) (List.replicate ((aw MB a).length+(aw MB b).length) 0,0) ⟨ψ,ψ,?_,by simp[tf,ofD],?_⟩ ?_ ?_);intro d E;simp at E;rw[E.2];decide;intro j _ C;simp at C;simp[C];rw[tiS.eq_1];exact s_e [(4,5)];rintro⟨o,i⟩ ⟨l,u,r,g,s⟩;simp only at l u r g s;rw[tiS.eq_1];refine r_z 1 ?_;refine ac (ar rfl (λh=>?_) (λh=>?_));have M:i< (aw MB a).length:=by have:=of_decide_eq_true h;omega
 obtain⟨x,Q⟩:∃x,(aw MB a)[i]?=some x:=⟨_,List.getElem?_eq_getElem M⟩;have X:x< 1000000000:=da δ Q;have F:(dE (aw MB a))[((i:Nat):Int).toNat]?=some [u32 x]:=eg Q;refine aj (ac (ah (s_r 5 ?_)));refine a_1 ?_;refine i_x F ?_;refine l_1 F ?_;refine a_z ?_;refine r_z 1 ?_;refine ac (r_z 4 ?_);refine aC (tiT a b i x) (λy=>TimesJ a b i x y/\y.2.1=(aw MB b).length) ?_ ?_;refine ah (ay (tiT a b i x) (λy=>(aw MB b).length- y.2.1) (TimesJ a b i x) (o,0,0) ⟨l,ψ,r,(show 0< MB by decide),by simp[g,ofD],s⟩ ?_ ?_);rw[tiT.eq_1];exact s_e [];rintro⟨q,k,c⟩ ⟨n,t,e,f,p,m⟩;simp only at n t e f p m;rw[tiT.eq_1];refine r_z 1 ?_;refine ac (ar rfl (λh=>?_) (λh=>?_));have G:k< (aw MB b).length:=by have:=of_decide_eq_true h;omega
 obtain⟨y,O⟩:∃y,(aw MB b)[k]?=some y:=⟨_,List.getElem?_eq_getElem G⟩;have V:y< 1000000000:=da δ O;have H:(dE (aw MB b))[((k:Nat):Int).toNat]?=some [u32 y]:=eg O;obtain⟨d,E⟩:∃d,q[i+k]?=some d:=⟨_,List.getElem?_eq_getElem ω⟩;have Y:d< 1000000000:=e d (List.mem_of_getElem? E);have N:c< 1000000000:=f;have J:(dE q)[0+(((i:Int)+k)).toNat]?=some [u32 d]:=by rw[show 0+((i:Int)+k).toNat=i+k by omega];exact eg E
 have B:∀w:Nat,(dE q).set (0+(((i:Int)+k)).toNat) [u32 w]=dE (q.set (i+k) w):=by intro w;rw[show 0+((i:Int)+k).toNat=i+k by omega,iX]
 have U:x* y<=999999999* 999999999:=Nat.mul_le_mul ω ω;have T:0<=(x:Int) * y:=Int.mul_nonneg ω ω;have A:(x:Int) * y=((x* y:Nat):Int):=by push_cast;rfl
 refine aj (ac (ah (s_r 5 ?_)));refine a_1 ?_;refine i_x H ?_;refine l_1 H ?_;refine a_z ?_;refine s_r 16 ?_;refine a_8 ?_;refine a_2 ?_;refine bm (.index_l rfl rfl ω ω te_36.h) rfl rfl ?_;refine bm (.load_l1 rfl rfl J TG.h rfl) rfl rfl ?_;refine a_z ?_;refine r_m 12 ?_;refine a_8 ?_;refine a_2 ?_;refine fN (.store rfl rfl J rfl rfl rfl TS.h (nle rfl)) ?_;refine a_z ?_;refine r_m 2 ?_;refine a_z ?_;have hm:((c:Int)+((x:Int) * y+d)) % 1000000000=(((c+(x* y+d)) % 1000000000:Nat):Int):=by rw[A];omega
 have R:((c:Int)+((x:Int) * y+d)) / 1000000000=(((c+(x* y+d)) / 1000000000:Nat):Int):=by rw[A];omega
 refine⟨(q.set (i+k) ((c+(x* y+d)) % 1000000000),k+1,(c+(x* y+d)) / 1000000000),χ,⟨by simp[n],χ,uZ e (Nat.mod_lt _ δ),?_,?_,?_⟩,?_⟩;show _< 1000000000;simp only;omega;simp only;have e1:=rf MB ((c+(x* y+d)) % 1000000000) E;have e2:=Nat.mod_add_div (c+(x* y+d)) 1000000000
 have e3:MB^ (i+k) * ((c+(x* y+d)) % 1000000000)+MB^ (i+(k+1)) * ((c+(x* y+d)) / 1000000000)=MB^ (i+k) * c+(MB^ (i+k) * (x* y)+MB^ (i+k) * d):=by
  rw[<-Nat.add_assoc i k 1,Nat.pow_succ,Nat.mul_assoc,<-Nat.mul_add,show MB* ((c+(x* y+d)) / 1000000000)=1000000000* ((c+(x* y+d)) / 1000000000) from rfl,e2,Nat.mul_add,Nat.mul_add]
 have e4:MB^ i* x* ofD MB ((aw MB b).take (k+1))=MB^ i* x* ofD MB ((aw MB b).take k)+MB^ (i+k) * (x* y):=by
  rw[dp _ O,Nat.mul_add];congr 1;rw[Nat.pow_add];simp only[Nat.mul_assoc,Nat.mul_left_comm,Nat.mul_comm]
 rw[e4];omega;intro j C D;rw[List.getElem?_set_ne ω];exact m j C (by simpa using D);rw[tiT.eq_1];refine s_x [] (λhs=>?_) (λhs=>?_)
 ·repeat' (first|exact aL|refine az rfl ?_ ?_|exact Cv.loE hs (congrArg (λz=>AV.v (.int .u64 z)) R) (ak _)|exact aW)
 ·repeat' (first|exact aB|refine h_c ?_ ?_|(refine aJ hs ?_ (cf _);rw[hm];exact B _)|exact bG|refine aA ?_|exact av|refine am ?_ ?_|exact Cv.loE hs (congrArg (λz=>AV.v (.int .u64 z)) R) (ak _)|exact aW)
 have K:k=(aw MB b).length:=by have:=of_decide_eq_false h;omega
 refine ax ⟨(q,k,c),⟨⟨n,t,e,f,p,m⟩,K⟩,?_⟩;rw[tiT.eq_1];exact s_e [];rintro⟨q,k,c⟩ ⟨⟨n,t,e,f,p,m⟩,K⟩;simp only at n t e f p m K;subst K;have N:c< 1000000000:=f;have S:=m (i+(aw MB b).length) (Nat.le_refl _) ω;have J:(dE q)[0+(((i:Int)+(aw MB b).length)).toNat]?=some [u32 0]:=by rw[show 0+((i:Int)+(aw MB b).length).toNat=i+(aw MB b).length by omega];exact eg S
 have B:(dE q).set (0+(((i:Int)+(aw MB b).length)).toNat) [u32 c]=dE (q.set (i+(aw MB b).length) c):=by rw[show 0+((i:Int)+(aw MB b).length).toNat=i+(aw MB b).length by omega,iX]
 rw[List.take_length,W] at p;rw[tiT.eq_1];refine r_m 10 ?_;refine a_8 ?_;refine a_1 ?_;refine fN (.store rfl rfl J rfl rfl rfl TS.h (nle rfl)) ?_;refine aq ?_;refine r_m 2 ?_;refine a_z ?_;refine⟨(q.set (i+(aw MB b).length) c,i+1),χ,⟨by simp[n],χ,uZ e f,?_,?_⟩,?_⟩;simp only;have e1:=rf MB c S;rw[dp _ Q,Nat.add_mul,<-p];omega;intro j C D;rw[List.getElem?_set_ne (by simp only at C;omega)];exact m j (by simp only at C;omega) (by simpa using D);rw[tiS.eq_1];exact s_f [];have L:i=(aw MB a).length:=by have:=of_decide_eq_false h;omega
 refine ax ⟨(o,i),⟨⟨l,u,r,g,s⟩,L⟩,?_⟩;rw[tiS.eq_1];exact s_e [];rintro⟨o,i⟩ ⟨⟨l,u,r,g,s⟩,L⟩;simp only at l u r g s L;subst L;rw[List.take_length,Z] at g;rw[tiS.eq_1];refine AWp.ent (st':=⟨[(4,.lptr 3 0 0),(5,.arr (dE o))],[(3,some ⟨38,1,[[.emp]]⟩)],4,73⟩) ?_ ?_;refine s_x [] (λhs=>?_) (λhs=>?_)
 ·repeat' (first|exact aL|refine az rfl ?_ ?_|exact Cv.sealE hs rfl (aG rfl) rfl (by simp[l]) (cf _)|exact aW)
 ·repeat' (first|exact aB|refine h_c ?_ ?_|exact bG|refine aA ?_|exact av|refine am ?_ ?_|exact Cv.sealE hs rfl (aG rfl) rfl (by simp[l]) (cf _)|exact aW)
 refine s_r 3 ?_;refine o_0 (.move rfl) ?_;refine o_0 (.call rfl rfl rfl (jp _ ω)) ?_;refine fN (.store rfl rfl rfl rfl rfl rfl TS.h (nle rfl)) ?_;refine aq ?_;refine ai (ec rfl rfl rfl TG.h TS.h (nle rfl) ?_ (aE (ae (cr _) af)));rw[kH (b:=MB) δ r,g];rfl
def siS(a:Nat)(d:Nat):Nat×Ln×Nat->AState
 |(k,t,r)=>⟨[(8,i64 ((k:Int)- 1)),(1,u32 d),(2,.lptr 1 0 0),(4,.lptr 2 0 0),(5,.lptr 3 0 0),(6,.lsl 4 0 (aw MB a).length (some (aw MB a).length) 1),(7,u64 r)],
  [(1,some ⟨38,1,[[mag a]]⟩),(2,some ⟨38,1,[[.emp]]⟩),(3,some ⟨38,1,[[.emp]]⟩),(4,some ⟨260,1,dE (List.replicate k 0++t)⟩)],5,46⟩
structure SimI (a d:Nat)(x:Nat×Ln×Nat):Prop where
 len:x.1+x.2.1.length=(aw MB a).length
 dig:∀y∈x.2.1,y< MB
 rest:x.2.2< d
 val:ofD MB ((aw MB a).drop x.1)=d* ofD MB x.2.1+x.2.2
theorem HV(a d:Nat)(h:bl a<=17592186044416)(hd0:0< d)(hd:d< 4294967296):FS 243 [.agg [mag a],u32 d] (.tup [.agg [mag (a/ d)],.agg [mag (a % d)]]):=by
 have K:=b8 (b:=MB) δ a;have H:=bY (b:=MB) δ a;refine f_c Tryz.func243 ?_;refine r_z 3 ?_;refine r_z 5 ?_;refine r_z 1 ?_;refine ac (r_z 5 ?_);refine aC (siS a d) (λx=>SimI a d x/\x.1=0) ?_ ?_;refine ah (ay (siS a d) (λx=>x.1) (SimI a d) ((aw MB a).length,[],0) ⟨ψ,ψ,hd0,by simp[ofD]⟩ ?_ ?_);rw[siS.eq_1];exact s_e [(4,6)];rintro⟨k,t,r⟩ ⟨i,g,c,f⟩;simp only at i g c f;rw[siS.eq_1];refine ac (r_z 2 ?_);refine ar rfl (λh=>?_) (λh=>?_);have p:0< k:=by have:=of_decide_eq_true h;omega
 obtain⟨x,A⟩:∃x,(aw MB a)[k- 1]?=some x:=⟨_,List.getElem?_eq_getElem ω⟩;have G:x< 1000000000:=da δ A;have o:(dE (aw MB a))[((k:Int)- 1).toNat]?=some [u32 x]:=by rw[show((k:Int)- 1).toNat=k- 1 by omega];exact eg A
 have l:List.replicate k 0++t=List.replicate (k- 1) 0++0::t:=by
  conv=>lhs;rw[show k=(k- 1)+1 by omega,List.replicate_succ']
  simp
 have F:(dE (List.replicate k 0++t))[0+((k:Int)- 1).toNat]?=some [u32 0]:=by
  rw[show 0+((k:Int)- 1).toNat=k- 1 by omega,l];exact eg (rG _ _ _ _ ψ)
 have q:∀w:Nat,(dE (List.replicate k 0++t)).set (0+((k:Int)- 1).toNat) [u32 w]=dE (List.replicate (k- 1) 0++(w::t)):=by
  intro w;rw[show 0+((k:Int)- 1).toNat=k- 1 by omega,iX,l,qN _ _ _ _ _ ψ];simp
 have s:(r* 1000000000+x) / d< 1000000000:=by
  rw[Nat.div_lt_iff_lt_mul hd0];have:(r+1) * 1000000000<=d* 1000000000:=Nat.mul_le_mul_right _ c;rw[Nat.mul_comm 1000000000 d];omega
 have D:(r:Int) * 1000000000+x=((r* 1000000000+x:Nat):Int):=ω
 have m:((r:Int) * 1000000000+x) / d=(((r* 1000000000+x) / d:Nat):Int):=by rw[D];exact(Int.natCast_ediv _ _).symm
 have n:((r:Int) * 1000000000+x) % d=(((r* 1000000000+x) % d:Nat):Int):=by rw[D];exact(Int.natCast_emod _ _).symm
 have j:=Nat.mod_lt (r* 1000000000+x) hd0;have e:=Nat.div_add_mod (r* 1000000000+x) d;obtain⟨Q,B⟩:∃Q,Q=(r* 1000000000+x) / d:=⟨_,rfl⟩;obtain⟨R,E⟩:∃R,R=(r* 1000000000+x) % d:=⟨_,rfl⟩;rw[<-B] at s m;rw[<-E] at j n;rw[<-B,<-E] at e;refine aj (ac (ah (s_r 10 ?_)));refine a_5 ?_;refine i_x o ?_;refine l_1 o ?_;refine a_z ?_;refine r_d aX 14 ?_;refine a_5 ?_;refine o_0 (.bin rfl rfl (C8 ω)) ?_;refine o_0 (.conv rfl (cU32 (by rw[m];omega) tu_246.h tu_260.h)) ?_;refine a_5 ?_;refine fN (.store rfl rfl F rfl rfl rfl TS.h (nle rfl)) ?_;refine a_1 ?_;refine aq (n_k ?_);refine r_m 3 ?_;refine a_z ?_;refine⟨(k- 1,Q::t,R),χ,⟨χ,?_,j,?_⟩,?_⟩;intro y u;rcases List.mem_cons.1 u with rfl|u
 exact s;exact g y u;simp only;rw[l3 MB A,show k- 1+1=k by omega,f,ofD];have e2:d* (Q+MB* ofD MB t)=d* Q+MB* (d* ofD MB t):=by rw[Nat.mul_add,Nat.mul_left_comm]
 have L:MB* (d* ofD MB t+r)=MB* (d* ofD MB t)+1000000000* r:=Nat.mul_add _ _ _;omega;rw[siS.eq_1];refine s_x [] (λhs=>?_) (λhs=>?_)
 ·repeat' (first|exact aL|refine az rfl ?_ ?_|exact Cv.loE hs (congrArg (λz=>AV.v (.int .u64 z)) n) (ak _)|exact aW)
 ·repeat' (first|exact aB|refine h_c ?_ ?_|(refine aJ hs ?_ (cf _);rw[m];exact q _)|exact bG|refine aA ?_|exact av|refine am ?_ ?_|exact Cv.loE hs (congrArg (λz=>AV.v (.int .u64 z)) n) (ak _)|exact aW)
 have p:k=0:=by have:=of_decide_eq_false h;omega
 refine ax ⟨(k,t,r),⟨⟨i,g,c,f⟩,p⟩,?_⟩;rw[siS.eq_1];exact s_e [];rintro⟨k,t,r⟩ ⟨⟨i,g,c,f⟩,C⟩;simp only at i g c f C;subst C;rw[List.drop_zero,H] at f;have s:a/ d=ofD MB t:=by rw[f,Nat.mul_add_div hd0,Nat.div_eq_of_lt c];omega
 have J:a % d=r:=by rw[f,Nat.mul_add_mod];exact Nat.mod_eq_of_lt c
 rw[siS.eq_1];refine AWp.ent (st':=⟨[(4,.lptr 1 0 0),(5,.lptr 2 0 0),(6,.arr (dE t)),(7,u64 r)],[(1,some ⟨38,1,[[.emp]]⟩),(2,some ⟨38,1,[[.emp]]⟩)],3,46⟩) ?_ ?_;exact s_x [(1,4),(2,5)] (λhs=>e_29) (λhs=>e_30);refine s_r 6 ?_;refine o_0 (.move rfl) ?_;refine o_0 (.call rfl rfl rfl (jp _ ω)) ?_;refine o_0 (.move rfl) ?_;refine o_0 (.call rfl rfl rfl (gV r ω)) ?_;refine fN (.store rfl rfl rfl rfl rfl rfl TS.h (nle rfl)) ?_;refine fN (.store rfl rfl rfl rfl rfl rfl TS.h (nle rfl)) ?_;refine aq ?_;refine ai ?_;rw[s,J];refine Fin.many ⟨_,_,rfl,⟨_,_,_,_,_,rfl,rfl,rfl,.inl ⟨TG.h,_,TS.h,nle rfl,rfl⟩⟩,_,_,rfl,⟨_,_,_,_,_,rfl,rfl,rfl,.inl ⟨TG.h,_,TS.h,nle rfl,rfl⟩⟩,rfl⟩ (nle rfl) ?_;refine am (Cv.loE aF ?_ (aE (ae (dn (fH t)) af))) (am (ao aF (aE (ae (cr r) af))) av);rw[kH (b:=MB) δ g];rfl
theorem Ge{pre s t post:Ln}{x e i:Nat}(he:e=pre.length)(hi:i=s.length):(pre++(s++x::t)++post)[e+i]?=some x:=by
 subst he hi;simp
theorem Gd{pre s t post:Ln}{x v e i:Nat}(he:e=pre.length)(hi:i=s.length):(pre++(s++x::t)++post).set (e+i) v=pre++((s++[v])++t)++post:=by
 subst he hi;rw[List.append_assoc,List.set_append_right _ _ ω,List.append_assoc,show pre.length+s.length- pre.length=s.length by omega,List.set_append_right _ _ ω];simp
def suS(V:Ln)(A:Ln)(pre:Ln)(post:Ln)(cap:Option Nat)(t:Nat):Ln×Nat×Nat->AState
 |(s,c,q)=>⟨[(0,.lsl 0 pre.length A.length cap 1),(1,.arr (dE V)),(2,u64 t),(7,u64 c),(8,i64 q),(13,i64 s.length),(12,i64 A.length)],
  [(0,some ⟨260,1,dE (pre++(s++A.drop s.length)++post)⟩)],1,54⟩
structure SubI (V A:Ln)(t:Nat)(x:Ln×Nat×Nat):Prop where
 le:x.1.length<=A.length
 dig:∀d∈x.1,d< MB
 car:x.2.1< MB
 bor:x.2.2<=1
 fin:V.length< x.1.length->x.2.1=0
 val:ofD MB x.1+t* ofD MB (V.take x.1.length)=ofD MB (A.take x.1.length)+MB^ x.1.length* (x.2.2+x.2.1)
theorem κ{p:Prop}(h:p:=by kernel_rfl):p:=h
theorem CC (pre A post V:Ln) (t D q:Nat) (cap:Option Nat) (hA:∀d∈A,d< MB) (hV:∀d∈V,d< MB) (ht:t< MB) (hlen:V.length< A.length) (hA2:A.length< 17592186044416) (hq:q<=1)
    (hD:D+t* ofD MB V=ofD MB A+MB^ A.length* q) (hD2:D< MB^ A.length):
    ESpec Tryz.prog 244 260 1 (dE (pre++A++post)) (dE (pre++jM MB A.length D++post)) pre.length A.length cap [.arr (dE V),u64 t] (.bool (q !=0)):=by
 have ht1:t< 1000000000:=ht;refine ESpec.enter Tryz.func244 rfl κ rfl rfl rfl ?_ ?_ ?_ rfl ?_;exact ae (dn _) (ae (ak _) af);exact cf _;exact cf _;refine r_z 1 ?_;refine r_z 2 ?_;refine ac (r_z 3 ?_);refine aC (suS V A pre post cap t) (λx=>SubI V A t x/\x.1.length=A.length) ?_ ?_;refine ah (ay (suS V A pre post cap t) (λx=>A.length- x.1.length) (SubI V A t) ([],0,0) ⟨ψ,ψ,(show 0< MB by decide),ψ,ψ,by simp[ofD]⟩ ?_ ?_);rw[suS.eq_1];exact s_e [];rintro⟨s,c,β⟩ ⟨hle,hdig,hcar,hbor,hfin,hval⟩;simp only at hle hdig hcar hbor hfin hval;have hc1:c< 1000000000:=hcar;rw[suS.eq_1];refine r_z 1 ?_;refine ac (ar rfl (λh=>?_) (λh=>?_));have hlt:s.length< A.length:=by have:=of_decide_eq_true h;omega
 obtain⟨x,hx⟩:∃x,A[s.length]?=some x:=⟨_,List.getElem?_eq_getElem hlt⟩;have hx1:x< 1000000000:=hA x (List.mem_of_getElem? hx)
 have hg:(dE (pre++(s++A.drop s.length)++post))[pre.length+((s.length:Nat):Int).toNat]?=some [u32 x]:=by
  rw[Int.toNat_natCast,gD hx];exact eg (Ge rfl rfl)
 have hset:∀w:Nat,(dE (pre++(s++A.drop s.length)++post)).set (pre.length+((s.length:Nat):Int).toNat) [u32 w]=dE (pre++((s++[w])++A.drop (s++[w]).length)++post):=by
  intro w;rw[Int.toNat_natCast,gD hx,iX,Gd rfl rfl];simp
 refine aj (ac (ah (r_z 2 ?_)));refine ac (r_z 4 ?_)
 refine aC (λv:Nat=>⟨[(0,.lsl 0 pre.length A.length cap 1),(1,.arr (dE V)),(2,u64 t),(7,u64 v),(8,i64 β),(9,i64 s.length),(13,i64 s.length),(12,i64 A.length)],
  [(0,some ⟨260,1,dE (pre++(s++A.drop s.length)++post)⟩)],1,54⟩)
  (λv=>v=c+t* (V[s.length]?.getD 0)/\v<=999999999+999999999* 999999999/\(V.length<=s.length->v=c)) ?_ ?_
 refine ar rfl (λh=>?_) (λh=>?_);have hlt2:s.length< V.length:=by have:=of_decide_eq_true h;simp at this;omega
 obtain⟨y,hy⟩:∃y,V[s.length]?=some y:=⟨_,List.getElem?_eq_getElem hlt2⟩;have hy1:y< 1000000000:=hV y (List.mem_of_getElem? hy);have hy':(dE V)[((s.length:Nat):Int).toNat]?=some [u32 y]:=eg hy;have hxy0:t* y<=999999999* 999999999:=Nat.mul_le_mul ω ω;have hxyn:0<=(t:Int) * y:=Int.mul_nonneg ω ω;have hxyi:(t:Int) * y=((t* y:Nat):Int):=(Int.natCast_mul _ _).symm;refine r_m 10 ?_;refine a_4 ?_;refine i_x hy' ?_;refine l_1 hy' ?_;refine a_z ?_;refine⟨c+t* y,⟨by rw[hy];rfl,ω,λh=>absurd h ω⟩,?_⟩;have hI:(c:Int)+(t:Int) * y=((c+t* y:Nat):Int):=ω
 have:=(congrArg (λz=>AV.v (.int .u64 z)) hI);exact s_f [];have hlt2:¬s.length< V.length:=by have:=of_decide_eq_false h;simp at this;omega
 refine aj ⟨c,⟨by rw[List.getElem?_eq_none ω];simp,ω,λ_=>rfl⟩,?_⟩;exact s_e [];rintro v ⟨hv,hv1,hv2⟩;refine s_r 12 ?_;refine a_2 ?_;refine bm (.index_l rfl rfl ω ω te_36.h) rfl rfl ?_;refine bm (.load_l1 rfl rfl hg TG.h rfl) rfl rfl ?_;refine a_z ?_;refine r_z 3 ?_;refine r_z 1 ?_;refine ac (r_z 2 ?_)
 have hnext:∀w q',w+v % 1000000000+β=x+1000000000* q'->w< 1000000000->q'<=1->SubI V A t (s++[w],v/ 1000000000,q'):=by
  intro w q' hw hwb hq';refine⟨χ,?_,?_,hq',?_,?_⟩;intro d hd;rcases List.mem_append.1 hd with hd|hd
  exact hdig d hd;simp at hd;subst hd;exact hwb;show v/ 1000000000< 1000000000;omega;intro hl;simp at hl;have:=hv2 ω;simp only;omega;simp only[List.length_append,List.length_singleton];rw[iM,dp _ hx,fm,Nat.pow_succ];have e:MB^ s.length* (w+v % 1000000000+β+1000000000* (v/ 1000000000))=MB^ s.length* (x+MB* q'+MB* (v/ 1000000000)):=by rw[hw]
  have e2:w+v % 1000000000+β+1000000000* (v/ 1000000000)=w+β+(c+t* (V[s.length]?.getD 0)):=by rw[<-hv];have:=Nat.mod_add_div v 1000000000;omega
  rw[e2] at e;have e3:t* (ofD MB (V.take s.length)+MB^ s.length* (V[s.length]?.getD 0))=t* ofD MB (V.take s.length)+MB^ s.length* (t* (V[s.length]?.getD 0)):=by rw[Nat.mul_add,Nat.mul_left_comm]
  rw[e3];have e4:MB^ s.length* MB* (q'+v/ 1000000000)=MB^ s.length* (MB* q')+MB^ s.length* (MB* (v/ 1000000000)):=by rw[Nat.mul_assoc,Nat.mul_add,Nat.mul_add]
  rw[e4];simp only[Nat.mul_add] at e hval⊢;omega
 refine ar rfl (λh=>?_) (λh=>?_);have hb:(x:Int)- v % 1000000000- β< 0:=by have:=of_decide_eq_true h;omega
 have hI:(x:Int)- (v:Int) % 1000000000- β+1000000000=((x+1000000000- v % 1000000000- β:Nat):Int):=ω
 refine r_m 4 ?_;refine a_z ?_;refine r_m 6 ?_;refine a_4 ?_;refine bm (.index_l rfl rfl ω ω te_36.h) rfl rfl ?_;refine fN (.store rfl rfl hg rfl rfl rfl TS.h (nle rfl)) ?_;refine aq ?_;refine r_m 2 ?_;refine a_z ?_;refine⟨(s++[x+1000000000- v % 1000000000- β],v/ 1000000000,1),χ,hnext _ _ ω ω (Nat.le_refl _),?_⟩;rw[suS.eq_1];exact s_x [] (λhs=>dD) (λhs=>e_19);have hb:¬(x:Int)- v % 1000000000- β< 0:=by have:=of_decide_eq_false h;omega
 have hI:(x:Int)- (v:Int) % 1000000000- β=((x- v % 1000000000- β:Nat):Int):=ω
 refine aj (r_m 6 ?_);refine a_3 ?_;refine o_0 (.conv rfl (cU32 ω tu_2.h tu_260.h)) ?_;refine a_1 ?_;refine fN (.store rfl rfl hg rfl rfl rfl TS.h (nle rfl)) ?_;refine aq ?_;refine r_m 2 ?_;refine a_z ?_;refine⟨(s++[x- v % 1000000000- β],v/ 1000000000,0),χ,hnext _ _ ω ω ω,?_⟩;rw[suS.eq_1];exact s_x [] (λhs=>dD) (λhs=>e_19);have hl:s.length=A.length:=by have:=of_decide_eq_false h;omega
 refine ax ⟨(s,c,β),⟨⟨hle,hdig,hcar,hbor,hfin,hval⟩,hl⟩,?_⟩;rw[suS.eq_1];exact s_e [];rintro⟨s,c,β⟩ ⟨⟨hle,hdig,hcar,hbor,hfin,hval⟩,hl⟩;simp only at hle hdig hcar hbor hfin hval hl;have hc0:=hfin ω;subst hc0;rw[hl,List.take_length,List.take_of_length_le ω,Nat.add_zero] at hval;have hs1:=fX hdig;rw[hl] at hs1;have hpos:0< MB^ A.length:=Nat.pow_pos δ
 have hqq:β=q/\ofD MB s=D:=by
  rcases Nat.le_one_iff_eq_zero_or_eq_one.1 hq with rfl|rfl <;> rcases Nat.le_one_iff_eq_zero_or_eq_one.1 hbor with rfl|rfl <;> constructor <;> omega
 obtain⟨rfl,rfl⟩:=hqq;rw[suS.eq_1];refine r_z 3 ?_;refine ai (FinE.tmp rfl ?_ rfl ?_);congr 2;rw[Bool.eq_iff_iff];simp;rw[hl,List.drop_length,List.append_nil,<-AL hdig hl rfl]
def gbS(V:Ln)(A:Ln)(pre:Ln)(post:Ln)(cap:Option Nat):Ln×Nat->AState
 |(s,c)=>⟨[(0,.lsl 0 pre.length A.length cap 1),(1,.arr (dE V)),(5,u32 c),(10,i64 s.length),(9,i64 A.length)],
  [(0,some ⟨260,1,dE (pre++(s++A.drop s.length)++post)⟩)],1,40⟩
structure GiveI (V A:Ln)(x:Ln×Nat):Prop where
 le:x.1.length<=A.length
 dig:∀d∈x.1,d< MB
 car:x.2<=1
 val:ofD MB x.1+MB^ x.1.length* x.2=ofD MB (A.take x.1.length)+ofD MB (V.take x.1.length)
theorem CD (pre A post V:Ln) (D q:Nat) (cap:Option Nat) (hA:∀d∈A,d< MB) (hV:∀d∈V,d< MB) (hlen:V.length<=A.length) (hA2:A.length< 17592186044416) (hq:q<=1)
    (hD:D+MB^ A.length* q=ofD MB A+ofD MB V) (hD2:D< MB^ A.length):
    ESpec Tryz.prog 245 260 1 (dE (pre++A++post)) (dE (pre++jM MB A.length D++post)) pre.length A.length cap [.arr (dE V)] (.bool (q !=0)):=by
 refine ESpec.enter Tryz.func245 rfl κ rfl rfl rfl ?_ ?_ ?_ rfl ?_;exact ae (dn _) af;exact cf _;exact cf _;refine r_z 1 ?_;refine r_z 1 ?_;refine ac (r_z 3 ?_);refine aC (gbS V A pre post cap) (λx=>GiveI V A x/\x.1.length=A.length) ?_ ?_;refine ah (ay (gbS V A pre post cap) (λx=>A.length- x.1.length) (GiveI V A) ([],0) ⟨ψ,ψ,ψ,by simp[ofD]⟩ ?_ ?_);rw[gbS.eq_1];exact s_e [];rintro⟨s,c⟩ ⟨hle,hdig,hcar,hval⟩;simp only at hle hdig hcar hval;rw[gbS.eq_1];refine r_z 1 ?_;refine ac (ar rfl (λh=>?_) (λh=>?_));have hlt:s.length< A.length:=by have:=of_decide_eq_true h;omega
 obtain⟨x,hx⟩:∃x,A[s.length]?=some x:=⟨_,List.getElem?_eq_getElem hlt⟩;have hx1:x< 1000000000:=hA x (List.mem_of_getElem? hx)
 have hg:(dE (pre++(s++A.drop s.length)++post))[pre.length+((s.length:Nat):Int).toNat]?=some [u32 x]:=by
  rw[Int.toNat_natCast,gD hx];exact eg (Ge rfl rfl)
 have hset:∀w:Nat,(dE (pre++(s++A.drop s.length)++post)).set (pre.length+((s.length:Nat):Int).toNat) [u32 w]=dE (pre++((s++[w])++A.drop (s++[w]).length)++post):=by
  intro w;rw[Int.toNat_natCast,gD hx,iX,Gd rfl rfl];simp
 refine aj (ac (ah (r_z 2 ?_)));refine s_r 7 ?_;refine a_2 ?_;refine bm (.index_l rfl rfl ω ω te_36.h) rfl rfl ?_;refine bm (.load_l1 rfl rfl hg TG.h rfl) rfl rfl ?_;refine a_z ?_;refine ac (r_z 4 ?_)
 refine aC (λv:Nat=>⟨[(0,.lsl 0 pre.length A.length cap 1),(1,.arr (dE V)),(5,u32 c),(7,u32 v),(6,i64 s.length),(10,i64 s.length),(9,i64 A.length)],
  [(0,some ⟨260,1,dE (pre++(s++A.drop s.length)++post)⟩)],1,40⟩)
  (λv=>v=x+c+(V[s.length]?.getD 0)/\v<=1999999999) ?_ ?_
 refine ar rfl (λh=>?_) (λh=>?_);have hlt2:s.length< V.length:=by have:=of_decide_eq_true h;simp at this;omega
 obtain⟨y,hy⟩:∃y,V[s.length]?=some y:=⟨_,List.getElem?_eq_getElem hlt2⟩;have hy1:y< 1000000000:=hV y (List.mem_of_getElem? hy);have hy':(dE V)[((s.length:Nat):Int).toNat]?=some [u32 y]:=eg hy;refine r_m 7 ?_;refine a_3 ?_;refine i_x hy' ?_;refine l_1 hy' ?_;refine a_z ?_;refine⟨x+c+y,⟨by rw[hy];rfl,ω⟩,?_⟩;exact s_e [];have hlt2:¬s.length< V.length:=by have:=of_decide_eq_false h;simp at this;omega
 refine aj ⟨x+c,⟨by rw[List.getElem?_eq_none ω];rfl,ω⟩,?_⟩;exact s_e [];rintro v ⟨hv,hv1⟩;refine r_z 1 ?_;refine ac (r_z 2 ?_)
 have hnext:∀w c',w+1000000000* c'=v->w< 1000000000->c'<=1->GiveI V A (s++[w],c'):=by
  intro w c' hw hwb hc';refine⟨χ,?_,hc',?_⟩;intro d hd;rcases List.mem_append.1 hd with hd|hd
  exact hdig d hd;simp at hd;subst hd;exact hwb;simp only[List.length_append,List.length_singleton];rw[iM,dp _ hx,fm,Nat.pow_succ];have e:MB^ s.length* (w+MB* c')=MB^ s.length* (x+c+(V[s.length]?.getD 0)):=by rw[<-hv,<-hw]
  simp only[Nat.mul_add] at e;rw[<-Nat.mul_assoc] at e;omega
 refine ar rfl (λh=>?_) (λh=>?_);have hb:1000000000<=v:=by have:=of_decide_eq_true h;omega
 have hI:(v:Int)- 1000000000=((v- 1000000000:Nat):Int):=ω
 refine r_m 4 ?_;refine a_z ?_;refine r_m 5 ?_;refine a_4 ?_;refine fN (.store rfl rfl hg rfl rfl rfl TS.h (nle rfl)) ?_;refine aq ?_;refine r_m 2 ?_;refine a_z ?_;refine⟨(s++[v- 1000000000],1),χ,hnext _ _ ω ω (Nat.le_refl _),?_⟩;rw[gbS.eq_1];exact s_x [] (λhs=>dD) (λhs=>e_19);have hb:v< 1000000000:=by have:=of_decide_eq_false h;omega
 refine aj (r_m 5 ?_);refine a_4 ?_;refine fN (.store rfl rfl hg rfl rfl rfl TS.h (nle rfl)) ?_;refine aq ?_;refine r_m 2 ?_;refine a_z ?_;refine⟨(s++[v],0),χ,hnext _ _ ω ω ω,?_⟩;rw[gbS.eq_1];exact s_x [] (λhs=>dD) (λhs=>e_26);have hl:s.length=A.length:=by have:=of_decide_eq_false h;omega
 refine ax ⟨(s,c),⟨⟨hle,hdig,hcar,hval⟩,hl⟩,?_⟩;rw[gbS.eq_1];exact s_e [];rintro⟨s,c⟩ ⟨⟨hle,hdig,hcar,hval⟩,hl⟩;simp only at hle hdig hcar hval hl;rw[hl,List.take_length,List.take_of_length_le ω] at hval;have hs1:=fX hdig;rw[hl] at hs1;have hpos:0< MB^ A.length:=Nat.pow_pos δ
 have hqq:c=q/\ofD MB s=D:=by
  rcases Nat.le_one_iff_eq_zero_or_eq_one.1 hq with rfl|rfl <;> rcases Nat.le_one_iff_eq_zero_or_eq_one.1 hcar with rfl|rfl <;> constructor <;> omega
 obtain⟨rfl,rfl⟩:=hqq;rw[gbS.eq_1];refine r_z 3 ?_;refine ai (FinE.tmp rfl ?_ rfl ?_);congr 2;rw[Bool.eq_iff_iff];simp;rw[hl,List.drop_length,List.append_nil,<-AL hdig hl rfl]
end Go.Proofs.YtjmkjicckobojaaGreatDoor
