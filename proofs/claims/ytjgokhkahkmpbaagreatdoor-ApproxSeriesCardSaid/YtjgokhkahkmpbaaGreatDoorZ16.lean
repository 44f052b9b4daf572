/- Part Z16 of the proof. -/
import Derived.Test.YtjgokhkahkmpbaaGreatDoorZ15
set_option linter.all false
namespace Go.Proofs.YtjgokhkahkmpbaaGreatDoor
open Go.Abs
set_option maxRecDepth 20000
def leS(a:Nat)(b:Nat):Ln×Nat→AState
 |(s,c)=>⟨[(19,i64 s.length),(18,i64 (az MB a).length),(2,.lptr 1 0 0),(3,.lptr 2 0 0),(4,.lptr 3 0 0),(5,.lsl 4 0 (az MB a).length (some (az MB a).length) 1),(6,u32 c)],
  [(1,some ⟨38,1,[[mag a]]⟩),(2,some ⟨38,1,[[mag b]]⟩),(3,some ⟨38,1,[[.emp]]⟩),(4,some ⟨176,1,dE (s++(az MB a).drop s.length)⟩)],5,61⟩
def leT(n:Nat):Ln×Unit→AState
 |(o,u)=>⟨[(4,.lptr 3 0 0),(5,.lsl 4 0 n (some n) 1)],
  [(3,some ⟨38,1,[[.emp]]⟩),(4,some ⟨176,1,dE o⟩)],5,61⟩
structure LessI (a b:Nat)(x:Ln×Nat):Prop where
 le:x.1.length≤(az MB a).length
 dig:∀d∈x.1,d< MB
 car:x.2≤1
 val:ofD MB x.1+ofD MB ((az MB b).take x.1.length)=ofD MB ((az MB a).take x.1.length)+MB^ x.1.length* x.2
theorem rp(a b:Nat)(h:bl a≤17592186044416)(hba:b≤a):FS 131 [.agg [mag a],.agg [mag b]] (.agg [mag (a- b)]):=by
 have hla:=bR (b:=MB) (by decide) a;have hlen:=yd (b:=MB) (by decide) hba;have va:=bo (b:=MB) (by decide) a;have vb:=bo (b:=MB) (by decide) b;refine f_c Tryz.func131 ?_;refine r_z 3 ?_;refine r_z 5 ?_;refine s_r 4 ?_;refine a_3 ?_;refine o_1 (.copy rfl rfl rfl te_36.h rfl rfl rfl (by first|(simp;done)|(simp;omega)) (by first|exact dh _|exact df _|exact cL _|exact di _|exact de _|rfl|simp) rfl (.arr (wU _))) ?_;refine aq ?_
 have hcp:eC (List.replicate (az MB a).length [ofV (Value.int IntKind.u32 0)]) 0 (List.take (Nat.min (dE (az MB a)).length (az MB a).length) (dE (az MB a)))=dE ([]++(az MB a).drop 0):=by
  rw[CU];rw[List.take_of_length_le (by simp)];rfl;simp
 refine r_z 1 ?_;refine ae (r_z 3 ?_);refine aH (leT (az MB a).length) (fun x=>(∀d∈x.1,d< MB)∧x.1.length=(az MB a).length∧ofD MB x.1=a- b) ?_ ?_;refine ak (aC (leS a b) (fun x=>(az MB a).length- x.1.length) (LessI a b) ([],0) ⟨by simp,by simp,by simp,by simp[ofD]⟩ ?_ ?_);rw[leS.eq_1];exact s_x [(4,5)] (fun hs=>dj) (fun hs=>e_22) e_21;rintro⟨s,c⟩ ⟨hle,hdig,hcar,hval⟩;simp only at hle hdig hcar hval;rw[leS.eq_1];refine r_z 1 ?_;refine ae (au rfl (fun h=>?_) (fun h=>?_));have hlt:s.length< (az MB a).length:=by have:=of_decide_eq_true h;omega
 obtain⟨x,hx⟩:∃x,(az MB a)[s.length]?=some x:=⟨_,List.getElem?_eq_getElem hlt⟩;have hx1:x< 1000000000:=cy (by decide) hx;have hdx:=fu hx;refine an (ae (ak (r_z 2 ?_)));refine r_z 2 ?_;refine ae (r_z 5 ?_)
 refine aH (fun v:Nat=>⟨[(19,i64 s.length),(18,i64 (az MB a).length),(2,.lptr 1 0 0),(3,.lptr 2 0 0),(4,.lptr 3 0 0),(5,.lsl 4 0 (az MB a).length (some (az MB a).length) 1),(6,u32 c),(7,i64 s.length),(8,u32 v)],
  [(1,some ⟨38,1,[[mag a]]⟩),(2,some ⟨38,1,[[mag b]]⟩),(3,some ⟨38,1,[[.emp]]⟩),(4,some ⟨176,1,dE (s++(az MB a).drop s.length)⟩)],5,61⟩)
  (fun v=>v=c+(az MB b)[s.length]?.getD 0∧v≤1000000000) ?_ ?_
 refine au rfl (fun h=>?_) (fun h=>?_);have hlt2:s.length< (az MB b).length:=by have:=of_decide_eq_true h;omega
 obtain⟨y,hy⟩:∃y,(az MB b)[s.length]?=some y:=⟨_,List.getElem?_eq_getElem hlt2⟩;have hy1:y< 1000000000:=cy (by decide) hy;have hy':(dE (az MB b))[((s.length:Nat):Int).toNat]?=some [u32 y]:=du hy;refine r_m 8 ?_;refine a_4 ?_;refine i_x hy' ?_;refine l_1 hy' ?_;refine a_z ?_;refine⟨c+y,⟨by rw[hy];rfl,by omega⟩,?_⟩;exact s_e [];have hlt2:¬s.length< (az MB b).length:=by have:=of_decide_eq_false h;omega
 refine r_z 2 ?_;refine au rfl (fun h=>?_) (fun h=>?_);have hc0:c=0:=by simpa using h
 refine aB ⟨(s++(az MB a).drop s.length,()),⟨?_,by simp;omega,?_⟩,?_⟩;intro d hd;rcases List.mem_append.1 hd with hd|hd
 exact hdig d hd;exact dB (by decide) a d (List.mem_of_mem_drop hd);have:=dM MB s.length (az MB a) (by omega);rw[va] at this;rw[gq _ (by omega),vb,hc0] at hval;simp only[fN];omega;rw[leT.eq_1];exact s_e [];refine an ⟨c,⟨by rw[List.getElem?_eq_none (by omega)];rfl,by omega⟩,?_⟩;exact s_e [];rintro v ⟨hv,hv1⟩;obtain⟨y,hy⟩:∃y,y=(az MB b)[s.length]?.getD 0:=⟨_,rfl⟩;rw[←hy] at hv
 have hg:(dE (s++(az MB a).drop s.length))[0+((s.length:Nat):Int).toNat]?=some [u32 x]:=by
  rw[Nat.zero_add,Int.toNat_natCast,hdx];exact du (ou _ _ _ _ rfl)
 have hset:∀w:Nat,(dE (s++(az MB a).drop s.length)).set (0+((s.length:Nat):Int).toNat) [u32 w]=dE ((s++[w])++(az MB a).drop (s++[w]).length):=by
  intro w;rw[Nat.zero_add,Int.toNat_natCast,gE,hdx,nP _ _ _ _ _ rfl];simp
 have hnext:∀w c',w+v=x+1000000000* c'→w< 1000000000→c'≤1→LessI a b (s++[w],c'):=by
  intro w c' hw hwb hc';refine⟨by simp;omega,?_,hc',?_⟩;intro d hd;rcases List.mem_append.1 hd with hd|hd
  exact hdig d hd;simp at hd;subst hd;exact hwb;simp only[List.length_append,List.length_singleton];rw[gr,cG _ hx,eo,←hy,Nat.pow_succ];have e:MB^ s.length* (w+v)=MB^ s.length* (x+MB* c'):=by rw[hw]
  rw[hv,Nat.mul_add,Nat.mul_add,Nat.mul_add,←Nat.mul_assoc] at e;omega
 refine r_z 1 ?_;refine ae (s_r 6 ?_);refine a_2 ?_
 first|refine ax (.index_l rfl rfl (by omega) (by omega) te_36.h) rfl rfl ?_|refine ax (.index_a rfl rfl (by omega) hg rfl te_36.h) rfl rfl ?_
 first|refine ax (.load_l1 rfl rfl hg TG.h rfl) rfl rfl ?_|refine ax (.load_a1 rfl hg TG.h rfl) rfl rfl ?_
 refine a_z ?_;refine au rfl (fun h=>?_) (fun h=>?_);have hb:x< v:=by have:=of_decide_eq_true h;omega
 have hv2:((x:Int)+1000000000- v)=((x+1000000000- v:Nat):Int):=by omega
 have hv3:((x:Int)+1000000000)=((x+1000000000:Nat):Int):=by omega
 refine r_m 10 ?_;refine a_5 ?_
 first|refine ax (.load_l1 rfl rfl hg TG.h rfl) rfl rfl ?_|refine ax (.load_a1 rfl hg TG.h rfl) rfl rfl ?_
 refine a_2 ?_;refine ep (.store rfl rfl hg rfl rfl rfl TS.h (nle rfl)) ?_;refine a_z ?_
 refine AWp.ent (st':=⟨[(19,i64 s.length),(18,i64 (az MB a).length),(2,.lptr 1 0 0),(3,.lptr 2 0 0),(4,.lptr 3 0 0),(5,.lsl 4 0 (az MB a).length (some (az MB a).length) 1),(6,u32 1),(7,i64 s.length),(8,u32 v)],
  [(1,some ⟨38,1,[[mag a]]⟩),(2,some ⟨38,1,[[mag b]]⟩),(3,some ⟨38,1,[[.emp]]⟩),(4,some ⟨176,1,dE (s++(x+1000000000)::(az MB a).drop (s.length+1))⟩)],5,61⟩) ?_ ?_
 refine s_x [] (fun hs=>dj) (fun hs=>?_)
 ·repeat' (first|exact aD|refine h_c ?_ ?_|(refine aI hs ?_ (bz _);rw[hv3];exact(hset _).trans (by simp))|exact bC)
 have hg2:(dE (s++(x+1000000000)::(az MB a).drop (s.length+1)))[0+((s.length:Nat):Int).toNat]?=some [u32 (x+1000000000)]:=by
  rw[Nat.zero_add,Int.toNat_natCast];exact du (ou _ _ _ _ rfl)
 have hset2:∀w:Nat,(dE (s++(x+1000000000)::(az MB a).drop (s.length+1))).set (0+((s.length:Nat):Int).toNat) [u32 w]=dE ((s++[w])++(az MB a).drop (s++[w]).length):=by
  intro w;rw[Nat.zero_add,Int.toNat_natCast,gE,nP _ _ _ _ _ rfl];simp
 have hv2:(((x+1000000000:Nat):Int)- v)=((x+1000000000- v:Nat):Int):=by omega
 refine r_m 8 ?_;refine a_2 ?_
 first|refine ax (.index_l rfl rfl (by omega) (by omega) te_36.h) rfl rfl ?_|refine ax (.index_a rfl rfl (by omega) hg2 rfl te_36.h) rfl rfl ?_
 first|refine ax (.load_l1 rfl rfl hg2 TG.h rfl) rfl rfl ?_|refine ax (.load_a1 rfl hg2 TG.h rfl) rfl rfl ?_
 refine a_3 ?_;refine ep (.store rfl rfl hg2 rfl rfl rfl TS.h (nle rfl)) ?_;refine aq ?_;refine r_m 2 ?_;refine a_z ?_;refine⟨(s++[x+1000000000- v],1),by simp;omega,hnext _ _ (by omega) (by omega) (by omega),?_⟩;rw[leS.eq_1];refine s_x [] (fun hs=>dj) (fun hs=>?_)
 ·repeat' (first|exact aD|refine h_c ?_ ?_|(refine aI hs ?_ (bz _);rw[hv2];exact hset2 _)|exact bC)
 have hb:v≤x:=by have:=of_decide_eq_false h;omega
 have hv1:((x:Int)- v)=((x- v:Nat):Int):=by omega
 refine an (r_m 8 ?_);refine a_2 ?_
 first|refine ax (.index_l rfl rfl (by omega) (by omega) te_36.h) rfl rfl ?_|refine ax (.index_a rfl rfl (by omega) hg rfl te_36.h) rfl rfl ?_
 first|refine ax (.load_l1 rfl rfl hg TG.h rfl) rfl rfl ?_|refine ax (.load_a1 rfl hg TG.h rfl) rfl rfl ?_
 refine a_3 ?_;refine ep (.store rfl rfl hg rfl rfl rfl TS.h (nle rfl)) ?_;refine aq ?_;refine r_m 2 ?_;refine a_z ?_;refine⟨(s++[x- v],0),by simp;omega,hnext _ _ (by omega) (by omega) (by omega),?_⟩;rw[leS.eq_1];exact s_x [] (fun hs=>dj) (fun hs=>e_19);have hl:s.length=(az MB a).length:=by have:=of_decide_eq_false h;omega
 refine aB ⟨(s,()),⟨hdig,hl,?_⟩,?_⟩;have h1:=e9 hdig;rw[hl,gq _ hlen,gq _ (Nat.le_refl _),va,vb] at hval;rw[hl] at h1
 have h2:c=0:=by
  rcases Nat.eq_zero_or_pos c with h|h
  exact h;have:MB^ (az MB a).length* 1≤MB^ (az MB a).length* c:=Nat.mul_le_mul_left _ h;omega
 subst h2;simp at hval⊢;omega;rw[leT.eq_1];refine s_x [] (fun hs=>?_) (fun hs=>?_) ?_
 ·repeat' (first|exact aG|refine aj rfl ?_ ?_|exact aW|(refine Cv.loE hs ?_ (ag _);first|rfl|(simp[i64,u64,u32,bln,hl];done)|(simp[i64,u64,u32,bln,hl]<;> omega)))
 ·repeat' (first|exact aD|refine h_c ?_ ?_|exact bC|(refine aI hs ?_ (bz _);first|(simp[gE,j4,gF,hl];done)|(simp[dE,u32,ofV,hl];done))|refine aw ?_|exact ay|refine af ?_ ?_|exact aW|(refine Cv.loE hs ?_ (ag _);first|(simp[i64,u64,u32,bln,hl];done)|(simp[i64,u64,u32,bln,hl]<;> omega)))
 ·repeat' (first|exact ShrL.nil|refine ShrL.cons rfl rfl rfl rfl (by first|rfl|(simp;done)|(simp[hl]<;> omega)) ?_)
 rintro⟨o,u⟩ ⟨hd,hl,hv⟩;rw[leT.eq_1];refine AWp.ent (st':=⟨[(4,.lptr 3 0 0),(5,.arr (dE o))],[(3,some ⟨38,1,[[.emp]]⟩)],4,61⟩) ?_ ?_;refine s_x [] (fun hs=>?_) (fun hs=>?_)
 ·repeat' (first|exact aG|refine aj rfl ?_ ?_|exact Cv.sealE hs rfl (aQ rfl) rfl (by simp[hl]) (bz _)|exact aW)
 ·repeat' (first|exact aD|refine h_c ?_ ?_|exact bC|refine aw ?_|exact ay|refine af ?_ ?_|exact Cv.sealE hs rfl (aQ rfl) rfl (by simp[hl]) (bz _)|exact aW)
 simp only at hl hv;refine s_r 3 ?_;refine o_0 (.move rfl) ?_;refine o_0 (.call rfl rfl rfl (gP _ (by omega))) ?_;refine ep (.store rfl rfl rfl rfl rfl rfl TS.h (nle rfl)) ?_;refine aq ?_;refine am (dG rfl rfl rfl TG.h TS.h (nle rfl) ?_ (aK (ac (b7 _) ai)));rw[iW (b:=MB) (by decide) hd,hv];rfl
def tiS(a:Nat)(b:Nat):Ln×Nat→AState
 |(o,i)=>⟨[(22,i64 i),(21,i64 (az MB a).length),(20,mag a),(3,.lptr 2 0 0),(4,.lptr 3 0 0),(5,.lsl 4 0 ((az MB a).length+(az MB b).length) (some ((az MB a).length+(az MB b).length)) 1)],
  [(2,some ⟨38,1,[[mag b]]⟩),(3,some ⟨38,1,[[.emp]]⟩),(4,some ⟨176,1,dE o⟩)],5,73⟩
def tiT(a:Nat)(b:Nat)(i:Nat)(x:Nat):Ln×Nat×Nat→AState
 |(o,k,c)=>⟨[(22,i64 i),(21,i64 (az MB a).length),(20,mag a),(3,.lptr 2 0 0),(4,.lptr 3 0 0),(5,.lsl 4 0 ((az MB a).length+(az MB b).length) (some ((az MB a).length+(az MB b).length)) 1),(6,i64 i),(7,u32 x),(8,u64 c),(30,i64 k),(29,i64 (az MB b).length),(28,mag b)],
  [(2,some ⟨38,1,[[mag b]]⟩),(3,some ⟨38,1,[[.emp]]⟩),(4,some ⟨176,1,dE o⟩)],5,73⟩
structure TimesI (a b:Nat)(x:Ln×Nat):Prop where
 len:x.1.length=(az MB a).length+(az MB b).length
 le:x.2≤(az MB a).length
 dig:∀d∈x.1,d< MB
 val:ofD MB x.1=ofD MB ((az MB a).take x.2) * b
 zer:∀j,x.2+(az MB b).length≤j→j< x.1.length→x.1[j]?=some 0
structure TimesJ (a b i v:Nat)(x:Ln×Nat×Nat):Prop where
 len:x.1.length=(az MB a).length+(az MB b).length
 le:x.2.1≤(az MB b).length
 dig:∀d∈x.1,d< MB
 car:x.2.2< MB
 val:ofD MB x.1+MB^ (i+x.2.1) * x.2.2=ofD MB ((az MB a).take i) * b+MB^ i* v* ofD MB ((az MB b).take x.2.1)
 zer:∀j,i+(az MB b).length≤j→j< x.1.length→x.1[j]?=some 0
theorem fD(a b:Nat)(h:bl a+bl b≤17592186044416):FS 83 [.agg [mag a],.agg [mag b]] (.agg [mag (a* b)]):=by
 have hla:=bR (b:=MB) (by decide) a;have hlb:=bR (b:=MB) (by decide) b;have va:=bo (b:=MB) (by decide) a;have vb:=bo (b:=MB) (by decide) b;refine f_c Tryz.func83 ?_;refine r_z 3 ?_;refine r_z 9 ?_;refine ae (r_z 4 ?_);refine aH (tiS a b) (fun x=>TimesI a b x∧x.2=(az MB a).length) ?_ ?_;refine ak (aC (tiS a b) (fun x=>(az MB a).length- x.2) (TimesI a b) (List.replicate ((az MB a).length+(az MB b).length) 0,0) ⟨by simp,by simp,?_,by simp[pn,ofD],?_⟩ ?_ ?_);intro d hd;simp at hd;rw[hd.2];decide;intro j _ hj;simp at hj;simp[hj];rw[tiS.eq_1];exact s_e [(4,5)];rintro⟨o,i⟩ ⟨hlen,hle,hdig,hval,hzer⟩;simp only at hlen hle hdig hval hzer;rw[tiS.eq_1];refine r_z 1 ?_;refine ae (au rfl (fun h=>?_) (fun h=>?_));have hlt:i< (az MB a).length:=by have:=of_decide_eq_true h;omega
 obtain⟨x,hx⟩:∃x,(az MB a)[i]?=some x:=⟨_,List.getElem?_eq_getElem hlt⟩;have hx1:x< 1000000000:=cy (by decide) hx;have hx':(dE (az MB a))[((i:Nat):Int).toNat]?=some [u32 x]:=du hx;refine an (ae (ak (s_r 5 ?_)));refine a_1 ?_;refine i_x hx' ?_;refine l_1 hx' ?_;refine a_z ?_;refine r_z 1 ?_;refine ae (r_z 4 ?_);refine aH (tiT a b i x) (fun y=>TimesJ a b i x y∧y.2.1=(az MB b).length) ?_ ?_;refine ak (aC (tiT a b i x) (fun y=>(az MB b).length- y.2.1) (TimesJ a b i x) (o,0,0) ⟨hlen,by simp,hdig,(show 0< MB by decide),by simp[hval,ofD],hzer⟩ ?_ ?_);rw[tiT.eq_1];exact s_e [];rintro⟨q,k,c⟩ ⟨jlen,jle,jdig,jcar,jval,jzer⟩;simp only at jlen jle jdig jcar jval jzer;rw[tiT.eq_1];refine r_z 1 ?_;refine ae (au rfl (fun h=>?_) (fun h=>?_));have hltk:k< (az MB b).length:=by have:=of_decide_eq_true h;omega
 obtain⟨y,hy⟩:∃y,(az MB b)[k]?=some y:=⟨_,List.getElem?_eq_getElem hltk⟩;have hy1:y< 1000000000:=cy (by decide) hy;have hy':(dE (az MB b))[((k:Nat):Int).toNat]?=some [u32 y]:=du hy;obtain⟨d,hd⟩:∃d,q[i+k]?=some d:=⟨_,List.getElem?_eq_getElem (by omega)⟩;have hd1:d< 1000000000:=jdig d (List.mem_of_getElem? hd);have hc1:c< 1000000000:=jcar;have hg:(dE q)[0+(((i:Int)+k)).toNat]?=some [u32 d]:=by rw[show 0+((i:Int)+k).toNat=i+k by omega];exact du hd
 have hset:∀w:Nat,(dE q).set (0+(((i:Int)+k)).toNat) [u32 w]=dE (q.set (i+k) w):=by intro w;rw[show 0+((i:Int)+k).toNat=i+k by omega,gE]
 have hxy0:x* y≤999999999* 999999999:=Nat.mul_le_mul (by omega) (by omega);have hxyn:0≤(x:Int) * y:=Int.mul_nonneg (by omega) (by omega);have hxyi:(x:Int) * y=((x* y:Nat):Int):=by push_cast;rfl
 refine an (ae (ak (s_r 5 ?_)));refine a_1 ?_;refine i_x hy' ?_;refine l_1 hy' ?_;refine a_z ?_;refine s_r 16 ?_;refine a_8 ?_;refine a_2 ?_
 first|refine ax (.index_l rfl rfl (by omega) (by omega) te_36.h) rfl rfl ?_|refine ax (.index_a rfl rfl (by omega) hg rfl te_36.h) rfl rfl ?_
 first|refine ax (.load_l1 rfl rfl hg TG.h rfl) rfl rfl ?_|refine ax (.load_a1 rfl hg TG.h rfl) rfl rfl ?_
 refine a_z ?_;refine r_m 12 ?_;refine a_8 ?_;refine a_2 ?_;refine ep (.store rfl rfl hg rfl rfl rfl TS.h (nle rfl)) ?_;refine a_z ?_;refine r_m 2 ?_;refine a_z ?_;have hm:((c:Int)+((x:Int) * y+d)) % 1000000000=(((c+(x* y+d)) % 1000000000:Nat):Int):=by rw[hxyi];omega
 have hq:((c:Int)+((x:Int) * y+d)) / 1000000000=(((c+(x* y+d)) / 1000000000:Nat):Int):=by rw[hxyi];omega
 refine⟨(q.set (i+k) ((c+(x* y+d)) % 1000000000),k+1,(c+(x* y+d)) / 1000000000),by simp;omega,⟨by simp[jlen],by simp;omega,rm jdig (Nat.mod_lt _ (by decide)),?_,?_,?_⟩,?_⟩;show _< 1000000000;simp only;omega;simp only;have e1:=oa MB ((c+(x* y+d)) % 1000000000) hd;have e2:=Nat.mod_add_div (c+(x* y+d)) 1000000000
 have e3:MB^ (i+k) * ((c+(x* y+d)) % 1000000000)+MB^ (i+(k+1)) * ((c+(x* y+d)) / 1000000000)=MB^ (i+k) * c+(MB^ (i+k) * (x* y)+MB^ (i+k) * d):=by
  rw[←Nat.add_assoc i k 1,Nat.pow_succ,Nat.mul_assoc,←Nat.mul_add,show MB* ((c+(x* y+d)) / 1000000000)=1000000000* ((c+(x* y+d)) / 1000000000) from rfl,e2,Nat.mul_add,Nat.mul_add]
 have e4:MB^ i* x* ofD MB ((az MB b).take (k+1))=MB^ i* x* ofD MB ((az MB b).take k)+MB^ (i+k) * (x* y):=by
  rw[cG _ hy,Nat.mul_add];congr 1;rw[Nat.pow_add];simp only[Nat.mul_assoc,Nat.mul_left_comm,Nat.mul_comm]
 rw[e4];omega;intro j hj hj2;rw[List.getElem?_set_ne (by omega)];exact jzer j hj (by simpa using hj2);rw[tiT.eq_1];refine s_x [] (fun hs=>?_) (fun hs=>?_)
 ·repeat' (first|exact aG|refine aj rfl ?_ ?_|exact Cv.loE hs (congrArg (fun z=>AV.v (.int .u64 z)) hq) (ag _)|exact aW)
 ·repeat' (first|exact aD|refine h_c ?_ ?_|(refine aI hs ?_ (bz _);rw[hm];exact hset _)|exact bC|refine aw ?_|exact ay|refine af ?_ ?_|exact Cv.loE hs (congrArg (fun z=>AV.v (.int .u64 z)) hq) (ag _)|exact aW)
 have hk:k=(az MB b).length:=by have:=of_decide_eq_false h;omega
 refine aB ⟨(q,k,c),⟨⟨jlen,jle,jdig,jcar,jval,jzer⟩,hk⟩,?_⟩;rw[tiT.eq_1];exact s_e [];rintro⟨q,k,c⟩ ⟨⟨jlen,jle,jdig,jcar,jval,jzer⟩,hk⟩;simp only at jlen jle jdig jcar jval jzer hk;subst hk;have hc1:c< 1000000000:=jcar;have hz:=jzer (i+(az MB b).length) (Nat.le_refl _) (by omega);have hg:(dE q)[0+(((i:Int)+(az MB b).length)).toNat]?=some [u32 0]:=by rw[show 0+((i:Int)+(az MB b).length).toNat=i+(az MB b).length by omega];exact du hz
 have hset:(dE q).set (0+(((i:Int)+(az MB b).length)).toNat) [u32 c]=dE (q.set (i+(az MB b).length) c):=by rw[show 0+((i:Int)+(az MB b).length).toNat=i+(az MB b).length by omega,gE]
 rw[List.take_length,vb] at jval;rw[tiT.eq_1];refine r_m 10 ?_;refine a_8 ?_;refine a_1 ?_;refine ep (.store rfl rfl hg rfl rfl rfl TS.h (nle rfl)) ?_;refine aq ?_;refine r_m 2 ?_;refine a_z ?_;refine⟨(q.set (i+(az MB b).length) c,i+1),by simp;omega,⟨by simp[jlen],by simp;omega,rm jdig jcar,?_,?_⟩,?_⟩;simp only;have e1:=oa MB c hz;rw[cG _ hx,Nat.add_mul,←jval];omega;intro j hj hj2;rw[List.getElem?_set_ne (by simp only at hj;omega)];exact jzer j (by simp only at hj;omega) (by simpa using hj2);rw[tiS.eq_1];exact s_f [];have hi:i=(az MB a).length:=by have:=of_decide_eq_false h;omega
 refine aB ⟨(o,i),⟨⟨hlen,hle,hdig,hval,hzer⟩,hi⟩,?_⟩;rw[tiS.eq_1];exact s_e [];rintro⟨o,i⟩ ⟨⟨hlen,hle,hdig,hval,hzer⟩,hi⟩;simp only at hlen hle hdig hval hzer hi;subst hi;rw[List.take_length,va] at hval;rw[tiS.eq_1];refine AWp.ent (st':=⟨[(4,.lptr 3 0 0),(5,.arr (dE o))],[(3,some ⟨38,1,[[.emp]]⟩)],4,73⟩) ?_ ?_;refine s_x [] (fun hs=>?_) (fun hs=>?_)
 ·repeat' (first|exact aG|refine aj rfl ?_ ?_|exact Cv.sealE hs rfl (aQ rfl) rfl (by simp[hlen]) (bz _)|exact aW)
 ·repeat' (first|exact aD|refine h_c ?_ ?_|exact bC|refine aw ?_|exact ay|refine af ?_ ?_|exact Cv.sealE hs rfl (aQ rfl) rfl (by simp[hlen]) (bz _)|exact aW)
 refine s_r 3 ?_;refine o_0 (.move rfl) ?_;refine o_0 (.call rfl rfl rfl (gP _ (by omega))) ?_;refine ep (.store rfl rfl rfl rfl rfl rfl TS.h (nle rfl)) ?_;refine aq ?_;refine am (dG rfl rfl rfl TG.h TS.h (nle rfl) ?_ (aK (ac (b7 _) ai)));rw[iW (b:=MB) (by decide) hdig,hval];rfl
def siS(a:Nat)(d:Nat):Nat×Ln×Nat→AState
 |(k,t,r)=>⟨[(8,i64 ((k:Int)- 1)),(1,u32 d),(2,.lptr 1 0 0),(4,.lptr 2 0 0),(5,.lptr 3 0 0),(6,.lsl 4 0 (az MB a).length (some (az MB a).length) 1),(7,u64 r)],
  [(1,some ⟨38,1,[[mag a]]⟩),(2,some ⟨38,1,[[.emp]]⟩),(3,some ⟨38,1,[[.emp]]⟩),(4,some ⟨176,1,dE (List.replicate k 0++t)⟩)],5,46⟩
structure SimI (a d:Nat)(x:Nat×Ln×Nat):Prop where
 len:x.1+x.2.1.length=(az MB a).length
 dig:∀y∈x.2.1,y< MB
 rest:x.2.2< d
 val:ofD MB ((az MB a).drop x.1)=d* ofD MB x.2.1+x.2.2
theorem Dl(a d:Nat)(h:bl a≤17592186044416)(hd0:0< d)(hd:d< 4294967296):FS 180 [.agg [mag a],u32 d] (.tup [.agg [mag (a/ d)],.agg [mag (a % d)]]):=by
 have hla:=bR (b:=MB) (by decide) a;have va:=bo (b:=MB) (by decide) a;refine f_c Tryz.func180 ?_;refine r_z 3 ?_;refine r_z 5 ?_;refine r_z 1 ?_;refine ae (r_z 5 ?_);refine aH (siS a d) (fun x=>SimI a d x∧x.1=0) ?_ ?_;refine ak (aC (siS a d) (fun x=>x.1) (SimI a d) ((az MB a).length,[],0) ⟨by simp,by simp,hd0,by simp[ofD]⟩ ?_ ?_);rw[siS.eq_1];exact s_e [(4,6)];rintro⟨k,t,r⟩ ⟨hlen,hdig,hrest,hval⟩;simp only at hlen hdig hrest hval;rw[siS.eq_1];refine ae (r_z 2 ?_);refine au rfl (fun h=>?_) (fun h=>?_);have hk0:0< k:=by have:=of_decide_eq_true h;omega
 obtain⟨x,hx⟩:∃x,(az MB a)[k- 1]?=some x:=⟨_,List.getElem?_eq_getElem (by omega)⟩;have hx1:x< 1000000000:=cy (by decide) hx;have hx':(dE (az MB a))[((k:Int)- 1).toNat]?=some [u32 x]:=by rw[show((k:Int)- 1).toNat=k- 1 by omega];exact du hx
 have hrep:List.replicate k 0++t=List.replicate (k- 1) 0++0::t:=by
  conv=>lhs;rw[show k=(k- 1)+1 by omega,List.replicate_succ']
  simp
 have hg:(dE (List.replicate k 0++t))[0+((k:Int)- 1).toNat]?=some [u32 0]:=by
  rw[show 0+((k:Int)- 1).toNat=k- 1 by omega,hrep];exact du (ou _ _ _ _ (by simp))
 have hset:∀w:Nat,(dE (List.replicate k 0++t)).set (0+((k:Int)- 1).toNat) [u32 w]=dE (List.replicate (k- 1) 0++(w::t)):=by
  intro w;rw[show 0+((k:Int)- 1).toNat=k- 1 by omega,gE,hrep,nP _ _ _ _ _ (by simp)];simp
 have hq:(r* 1000000000+x) / d< 1000000000:=by
  rw[Nat.div_lt_iff_lt_mul hd0];have:(r+1) * 1000000000≤d* 1000000000:=Nat.mul_le_mul_right _ hrest;rw[Nat.mul_comm 1000000000 d];omega
 have hA:(r:Int) * 1000000000+x=((r* 1000000000+x:Nat):Int):=by omega
 have hqi:((r:Int) * 1000000000+x) / d=(((r* 1000000000+x) / d:Nat):Int):=by rw[hA];exact(Int.natCast_ediv _ _).symm
 have hri:((r:Int) * 1000000000+x) % d=(((r* 1000000000+x) % d:Nat):Int):=by rw[hA];exact(Int.natCast_emod _ _).symm
 have hmod:=Nat.mod_lt (r* 1000000000+x) hd0;have e:=Nat.div_add_mod (r* 1000000000+x) d;obtain⟨Q,hQ⟩:∃Q,Q=(r* 1000000000+x) / d:=⟨_,rfl⟩;obtain⟨R,hR⟩:∃R,R=(r* 1000000000+x) % d:=⟨_,rfl⟩;rw[←hQ] at hq hqi;rw[←hR] at hmod hri;rw[←hQ,←hR] at e;refine an (ae (ak (s_r 10 ?_)));refine a_5 ?_;refine i_x hx' ?_;refine l_1 hx' ?_;refine a_z ?_;refine r_d hmix 14 ?_;refine a_5 ?_;refine o_0 (.bin rfl rfl (zk (by omega))) ?_;refine o_0 (.conv rfl (cU32 (by rw[hqi];omega) tu_173.h tu_176.h)) ?_;refine a_5 ?_;refine ep (.store rfl rfl hg rfl rfl rfl TS.h (nle rfl)) ?_;refine a_1 ?_;refine aq (n_k ?_);refine r_m 3 ?_;refine a_z ?_;refine⟨(k- 1,Q::t,R),by simp;omega,⟨by simp;omega,?_,hmod,?_⟩,?_⟩;intro y hy;rcases List.mem_cons.1 hy with rfl|hy
 exact hq;exact hdig y hy;simp only;rw[jR MB hx,show k- 1+1=k by omega,hval,ofD];have e2:d* (Q+MB* ofD MB t)=d* Q+MB* (d* ofD MB t):=by rw[Nat.mul_add,Nat.mul_left_comm]
 have e3:MB* (d* ofD MB t+r)=MB* (d* ofD MB t)+1000000000* r:=Nat.mul_add _ _ _;omega;rw[siS.eq_1];refine s_x [] (fun hs=>?_) (fun hs=>?_)
 ·repeat' (first|exact aG|refine aj rfl ?_ ?_|exact Cv.loE hs (congrArg (fun z=>AV.v (.int .u64 z)) hri) (ag _)|exact aW)
 ·repeat' (first|exact aD|refine h_c ?_ ?_|(refine aI hs ?_ (bz _);rw[hqi];exact hset _)|exact bC|refine aw ?_|exact ay|refine af ?_ ?_|exact Cv.loE hs (congrArg (fun z=>AV.v (.int .u64 z)) hri) (ag _)|exact aW)
 have hk0:k=0:=by have:=of_decide_eq_false h;omega
 refine aB ⟨(k,t,r),⟨⟨hlen,hdig,hrest,hval⟩,hk0⟩,?_⟩;rw[siS.eq_1];exact s_e [];rintro⟨k,t,r⟩ ⟨⟨hlen,hdig,hrest,hval⟩,hk⟩;simp only at hlen hdig hrest hval hk;subst hk;rw[List.drop_zero,va] at hval;have hq:a/ d=ofD MB t:=by rw[hval,Nat.mul_add_div hd0,Nat.div_eq_of_lt hrest];omega
 have hr:a % d=r:=by rw[hval,Nat.mul_add_mod];exact Nat.mod_eq_of_lt hrest
 rw[siS.eq_1];refine AWp.ent (st':=⟨[(4,.lptr 1 0 0),(5,.lptr 2 0 0),(6,.arr (dE t)),(7,u64 r)],[(1,some ⟨38,1,[[.emp]]⟩),(2,some ⟨38,1,[[.emp]]⟩)],3,46⟩) ?_ ?_;exact s_x [(1,4),(2,5)] (fun hs=>e_23) (fun hs=>e_24);refine s_r 6 ?_;refine o_0 (.move rfl) ?_;refine o_0 (.call rfl rfl rfl (gP _ (by omega))) ?_;refine o_0 (.move rfl) ?_;refine o_0 (.call rfl rfl rfl (fe r (by omega))) ?_;refine ep (.store rfl rfl rfl rfl rfl rfl TS.h (nle rfl)) ?_;refine ep (.store rfl rfl rfl rfl rfl rfl TS.h (nle rfl)) ?_;refine aq ?_;refine am ?_;rw[hq,hr];refine Fin.many ⟨_,_,rfl,⟨_,_,_,_,_,rfl,rfl,rfl,.inl ⟨TG.h,_,TS.h,nle rfl,rfl⟩⟩,_,_,rfl,⟨_,_,_,_,_,rfl,rfl,rfl,.inl ⟨TG.h,_,TS.h,nle rfl,rfl⟩⟩,rfl⟩ (nle rfl) ?_;refine af (Cv.loE aE ?_ (aK (ac (cQ (eP t)) ai))) (af (ah aE (aK (ac (b7 r) ai))) ay);rw[iW (b:=MB) (by decide) hdig];rfl
theorem B7{pre s t post:Ln}{x e i:Nat}(he:e=pre.length)(hi:i=s.length):(pre++(s++x::t)++post)[e+i]?=some x:=by
 subst he hi;simp
theorem B6{pre s t post:Ln}{x v e i:Nat}(he:e=pre.length)(hi:i=s.length):(pre++(s++x::t)++post).set (e+i) v=pre++((s++[v])++t)++post:=by
 subst he hi;rw[List.append_assoc,List.set_append_right _ _ (by omega),List.append_assoc,show pre.length+s.length- pre.length=s.length by omega,List.set_append_right _ _ (by omega)];simp
def suS(V:Ln)(A:Ln)(pre:Ln)(post:Ln)(cap:Option Nat)(t:Nat):Ln×Nat×Nat→AState
 |(s,c,q)=>⟨[(0,.lsl 0 pre.length A.length cap 1),(1,.arr (dE V)),(2,u64 t),(7,u64 c),(8,i64 q),(13,i64 s.length),(12,i64 A.length)],
  [(0,some ⟨176,1,dE (pre++(s++A.drop s.length)++post)⟩)],1,54⟩
structure SubI (V A:Ln)(t:Nat)(x:Ln×Nat×Nat):Prop where
 le:x.1.length≤A.length
 dig:∀d∈x.1,d< MB
 car:x.2.1< MB
 bor:x.2.2≤1
 fin:V.length< x.1.length→x.2.1=0
 val:ofD MB x.1+t* ofD MB (V.take x.1.length)=ofD MB (A.take x.1.length)+MB^ x.1.length* (x.2.2+x.2.1)
theorem yS (pre A post V:Ln) (t D q:Nat) (cap:Option Nat) (hA:∀d∈A,d< MB) (hV:∀d∈V,d< MB) (ht:t< MB) (hlen:V.length< A.length) (hA2:A.length< 17592186044416) (hq:q≤1)
    (hD:D+t* ofD MB V=ofD MB A+MB^ A.length* q) (hD2:D< MB^ A.length):
    ESpec Tryz.prog 181 176 1 (dE (pre++A++post)) (dE (pre++ie MB A.length D++post)) pre.length A.length cap [.arr (dE V),u64 t] (.bool (q !=0)):=by
 have ht1:t< 1000000000:=ht;refine ESpec.enter Tryz.func181 rfl (by kernel_rfl) rfl rfl rfl ?_ ?_ ?_ rfl ?_;exact ac (cQ _) (ac (ag _) ai);exact bz _;exact bz _;refine r_z 1 ?_;refine r_z 2 ?_;refine ae (r_z 3 ?_);refine aH (suS V A pre post cap t) (fun x=>SubI V A t x∧x.1.length=A.length) ?_ ?_;refine ak (aC (suS V A pre post cap t) (fun x=>A.length- x.1.length) (SubI V A t) ([],0,0) ⟨by simp,by simp,(show 0< MB by decide),by simp,by simp,by simp[ofD]⟩ ?_ ?_);rw[suS.eq_1];exact s_e [];rintro⟨s,c,β⟩ ⟨hle,hdig,hcar,hbor,hfin,hval⟩;simp only at hle hdig hcar hbor hfin hval;have hc1:c< 1000000000:=hcar;rw[suS.eq_1];refine r_z 1 ?_;refine ae (au rfl (fun h=>?_) (fun h=>?_));have hlt:s.length< A.length:=by have:=of_decide_eq_true h;omega
 obtain⟨x,hx⟩:∃x,A[s.length]?=some x:=⟨_,List.getElem?_eq_getElem hlt⟩;have hx1:x< 1000000000:=hA x (List.mem_of_getElem? hx)
 have hg:(dE (pre++(s++A.drop s.length)++post))[pre.length+((s.length:Nat):Int).toNat]?=some [u32 x]:=by
  rw[Int.toNat_natCast,fu hx];exact du (B7 rfl rfl)
 have hset:∀w:Nat,(dE (pre++(s++A.drop s.length)++post)).set (pre.length+((s.length:Nat):Int).toNat) [u32 w]=dE (pre++((s++[w])++A.drop (s++[w]).length)++post):=by
  intro w;rw[Int.toNat_natCast,fu hx,gE,B6 rfl rfl];simp
 refine an (ae (ak (r_z 2 ?_)));refine ae (r_z 4 ?_)
 refine aH (fun v:Nat=>⟨[(0,.lsl 0 pre.length A.length cap 1),(1,.arr (dE V)),(2,u64 t),(7,u64 v),(8,i64 β),(9,i64 s.length),(13,i64 s.length),(12,i64 A.length)],
  [(0,some ⟨176,1,dE (pre++(s++A.drop s.length)++post)⟩)],1,54⟩)
  (fun v=>v=c+t* (V[s.length]?.getD 0)∧v≤999999999+999999999* 999999999∧(V.length≤s.length→v=c)) ?_ ?_
 refine au rfl (fun h=>?_) (fun h=>?_);have hlt2:s.length< V.length:=by have:=of_decide_eq_true h;simp at this;omega
 obtain⟨y,hy⟩:∃y,V[s.length]?=some y:=⟨_,List.getElem?_eq_getElem hlt2⟩;have hy1:y< 1000000000:=hV y (List.mem_of_getElem? hy);have hy':(dE V)[((s.length:Nat):Int).toNat]?=some [u32 y]:=du hy;have hxy0:t* y≤999999999* 999999999:=Nat.mul_le_mul (by omega) (by omega);have hxyn:0≤(t:Int) * y:=Int.mul_nonneg (by omega) (by omega);have hxyi:(t:Int) * y=((t* y:Nat):Int):=(Int.natCast_mul _ _).symm;refine r_m 10 ?_;refine a_4 ?_;refine i_x hy' ?_;refine l_1 hy' ?_;refine a_z ?_;refine⟨c+t* y,⟨by rw[hy];rfl,by omega,fun h=>absurd h (by omega)⟩,?_⟩;have hI:(c:Int)+(t:Int) * y=((c+t* y:Nat):Int):=by omega
 have:=(congrArg (fun z=>AV.v (.int .u64 z)) hI);exact s_f [];have hlt2:¬s.length< V.length:=by have:=of_decide_eq_false h;simp at this;omega
 refine an ⟨c,⟨by rw[List.getElem?_eq_none (by omega)];simp,by omega,fun _=>rfl⟩,?_⟩;exact s_e [];rintro v ⟨hv,hv1,hv2⟩;refine s_r 12 ?_;refine a_2 ?_
 first|refine ax (.index_l rfl rfl (by omega) (by omega) te_36.h) rfl rfl ?_|refine ax (.index_a rfl rfl (by omega) hg rfl te_36.h) rfl rfl ?_
 first|refine ax (.load_l1 rfl rfl hg TG.h rfl) rfl rfl ?_|refine ax (.load_a1 rfl hg TG.h rfl) rfl rfl ?_
 refine a_z ?_;refine r_z 3 ?_;refine r_z 1 ?_;refine ae (r_z 2 ?_)
 have hnext:∀w q',w+v % 1000000000+β=x+1000000000* q'→w< 1000000000→q'≤1→SubI V A t (s++[w],v/ 1000000000,q'):=by
  intro w q' hw hwb hq';refine⟨by simp;omega,?_,?_,hq',?_,?_⟩;intro d hd;rcases List.mem_append.1 hd with hd|hd
  exact hdig d hd;simp at hd;subst hd;exact hwb;show v/ 1000000000< 1000000000;omega;intro hl;simp at hl;have:=hv2 (by omega);simp only;omega;simp only[List.length_append,List.length_singleton];rw[gr,cG _ hx,eo,Nat.pow_succ];have e:MB^ s.length* (w+v % 1000000000+β+1000000000* (v/ 1000000000))=MB^ s.length* (x+MB* q'+MB* (v/ 1000000000)):=by rw[hw]
  have e2:w+v % 1000000000+β+1000000000* (v/ 1000000000)=w+β+(c+t* (V[s.length]?.getD 0)):=by rw[←hv];have:=Nat.mod_add_div v 1000000000;omega
  rw[e2] at e;have e3:t* (ofD MB (V.take s.length)+MB^ s.length* (V[s.length]?.getD 0))=t* ofD MB (V.take s.length)+MB^ s.length* (t* (V[s.length]?.getD 0)):=by rw[Nat.mul_add,Nat.mul_left_comm]
  rw[e3];have e4:MB^ s.length* MB* (q'+v/ 1000000000)=MB^ s.length* (MB* q')+MB^ s.length* (MB* (v/ 1000000000)):=by rw[Nat.mul_assoc,Nat.mul_add,Nat.mul_add]
  rw[e4];simp only[Nat.mul_add] at e hval⊢;omega
 refine au rfl (fun h=>?_) (fun h=>?_);have hb:(x:Int)- v % 1000000000- β< 0:=by have:=of_decide_eq_true h;omega
 have hI:(x:Int)- (v:Int) % 1000000000- β+1000000000=((x+1000000000- v % 1000000000- β:Nat):Int):=by omega
 refine r_m 4 ?_;refine a_z ?_;refine r_m 6 ?_;refine a_4 ?_
 first|refine ax (.index_l rfl rfl (by omega) (by omega) te_36.h) rfl rfl ?_|refine ax (.index_a rfl rfl (by omega) (by omega) rfl te_36.h) rfl rfl ?_
 refine ep (.store rfl rfl hg rfl rfl rfl TS.h (nle rfl)) ?_;refine aq ?_;refine r_m 2 ?_;refine a_z ?_;refine⟨(s++[x+1000000000- v % 1000000000- β],v/ 1000000000,1),by simp;omega,hnext _ _ (by omega) (by omega) (Nat.le_refl _),?_⟩;rw[suS.eq_1];exact s_x [] (fun hs=>dj) (fun hs=>e_16);have hb:¬(x:Int)- v % 1000000000- β< 0:=by have:=of_decide_eq_false h;omega
 have hI:(x:Int)- (v:Int) % 1000000000- β=((x- v % 1000000000- β:Nat):Int):=by omega
 refine an (r_m 6 ?_);refine a_3 ?_;refine o_0 (.conv rfl (cU32 (by omega) tu_2.h tu_176.h)) ?_;refine a_1 ?_;refine ep (.store rfl rfl hg rfl rfl rfl TS.h (nle rfl)) ?_;refine aq ?_;refine r_m 2 ?_;refine a_z ?_;refine⟨(s++[x- v % 1000000000- β],v/ 1000000000,0),by simp;omega,hnext _ _ (by omega) (by omega) (by omega),?_⟩;rw[suS.eq_1];exact s_x [] (fun hs=>dj) (fun hs=>e_16);have hl:s.length=A.length:=by have:=of_decide_eq_false h;omega
 refine aB ⟨(s,c,β),⟨⟨hle,hdig,hcar,hbor,hfin,hval⟩,hl⟩,?_⟩;rw[suS.eq_1];exact s_e [];rintro⟨s,c,β⟩ ⟨⟨hle,hdig,hcar,hbor,hfin,hval⟩,hl⟩;simp only at hle hdig hcar hbor hfin hval hl;have hc0:=hfin (by omega);subst hc0;rw[hl,List.take_length,List.take_of_length_le (by omega),Nat.add_zero] at hval;have hs1:=e9 hdig;rw[hl] at hs1;have hpos:0< MB^ A.length:=Nat.pow_pos (by decide)
 have hqq:β=q∧ofD MB s=D:=by
  rcases Nat.le_one_iff_eq_zero_or_eq_one.1 hq with rfl|rfl <;> rcases Nat.le_one_iff_eq_zero_or_eq_one.1 hbor with rfl|rfl <;> constructor <;> omega
 obtain⟨rfl,rfl⟩:=hqq;rw[suS.eq_1];refine r_z 3 ?_;refine am (FinE.tmp rfl ?_ rfl ?_);congr 2;rw[Bool.eq_iff_iff];simp;rw[hl,List.drop_length,List.append_nil,←wP hdig hl rfl]
def gbS(V:Ln)(A:Ln)(pre:Ln)(post:Ln)(cap:Option Nat):Ln×Nat→AState
 |(s,c)=>⟨[(0,.lsl 0 pre.length A.length cap 1),(1,.arr (dE V)),(5,u32 c),(10,i64 s.length),(9,i64 A.length)],
  [(0,some ⟨176,1,dE (pre++(s++A.drop s.length)++post)⟩)],1,40⟩
structure GiveI (V A:Ln)(x:Ln×Nat):Prop where
 le:x.1.length≤A.length
 dig:∀d∈x.1,d< MB
 car:x.2≤1
 val:ofD MB x.1+MB^ x.1.length* x.2=ofD MB (A.take x.1.length)+ofD MB (V.take x.1.length)
theorem yT (pre A post V:Ln) (D q:Nat) (cap:Option Nat) (hA:∀d∈A,d< MB) (hV:∀d∈V,d< MB) (hlen:V.length≤A.length) (hA2:A.length< 17592186044416) (hq:q≤1)
    (hD:D+MB^ A.length* q=ofD MB A+ofD MB V) (hD2:D< MB^ A.length):
    ESpec Tryz.prog 182 176 1 (dE (pre++A++post)) (dE (pre++ie MB A.length D++post)) pre.length A.length cap [.arr (dE V)] (.bool (q !=0)):=by
 refine ESpec.enter Tryz.func182 rfl (by kernel_rfl) rfl rfl rfl ?_ ?_ ?_ rfl ?_;exact ac (cQ _) ai;exact bz _;exact bz _;refine r_z 1 ?_;refine r_z 1 ?_;refine ae (r_z 3 ?_);refine aH (gbS V A pre post cap) (fun x=>GiveI V A x∧x.1.length=A.length) ?_ ?_;refine ak (aC (gbS V A pre post cap) (fun x=>A.length- x.1.length) (GiveI V A) ([],0) ⟨by simp,by simp,by simp,by simp[ofD]⟩ ?_ ?_);rw[gbS.eq_1];exact s_e [];rintro⟨s,c⟩ ⟨hle,hdig,hcar,hval⟩;simp only at hle hdig hcar hval;rw[gbS.eq_1];refine r_z 1 ?_;refine ae (au rfl (fun h=>?_) (fun h=>?_));have hlt:s.length< A.length:=by have:=of_decide_eq_true h;omega
 obtain⟨x,hx⟩:∃x,A[s.length]?=some x:=⟨_,List.getElem?_eq_getElem hlt⟩;have hx1:x< 1000000000:=hA x (List.mem_of_getElem? hx)
 have hg:(dE (pre++(s++A.drop s.length)++post))[pre.length+((s.length:Nat):Int).toNat]?=some [u32 x]:=by
  rw[Int.toNat_natCast,fu hx];exact du (B7 rfl rfl)
 have hset:∀w:Nat,(dE (pre++(s++A.drop s.length)++post)).set (pre.length+((s.length:Nat):Int).toNat) [u32 w]=dE (pre++((s++[w])++A.drop (s++[w]).length)++post):=by
  intro w;rw[Int.toNat_natCast,fu hx,gE,B6 rfl rfl];simp
 refine an (ae (ak (r_z 2 ?_)));refine s_r 7 ?_;refine a_2 ?_
 first|refine ax (.index_l rfl rfl (by omega) (by omega) te_36.h) rfl rfl ?_|refine ax (.index_a rfl rfl (by omega) hg rfl te_36.h) rfl rfl ?_
 first|refine ax (.load_l1 rfl rfl hg TG.h rfl) rfl rfl ?_|refine ax (.load_a1 rfl hg TG.h rfl) rfl rfl ?_
 refine a_z ?_;refine ae (r_z 4 ?_)
 refine aH (fun v:Nat=>⟨[(0,.lsl 0 pre.length A.length cap 1),(1,.arr (dE V)),(5,u32 c),(7,u32 v),(6,i64 s.length),(10,i64 s.length),(9,i64 A.length)],
  [(0,some ⟨176,1,dE (pre++(s++A.drop s.length)++post)⟩)],1,40⟩)
  (fun v=>v=x+c+(V[s.length]?.getD 0)∧v≤1999999999) ?_ ?_
 refine au rfl (fun h=>?_) (fun h=>?_);have hlt2:s.length< V.length:=by have:=of_decide_eq_true h;simp at this;omega
 obtain⟨y,hy⟩:∃y,V[s.length]?=some y:=⟨_,List.getElem?_eq_getElem hlt2⟩;have hy1:y< 1000000000:=hV y (List.mem_of_getElem? hy);have hy':(dE V)[((s.length:Nat):Int).toNat]?=some [u32 y]:=du hy;refine r_m 7 ?_;refine a_3 ?_;refine i_x hy' ?_;refine l_1 hy' ?_;refine a_z ?_;refine⟨x+c+y,⟨by rw[hy];rfl,by omega⟩,?_⟩;exact s_e [];have hlt2:¬s.length< V.length:=by have:=of_decide_eq_false h;simp at this;omega
 refine an ⟨x+c,⟨by rw[List.getElem?_eq_none (by omega)];rfl,by omega⟩,?_⟩;exact s_e [];rintro v ⟨hv,hv1⟩;refine r_z 1 ?_;refine ae (r_z 2 ?_)
 have hnext:∀w c',w+1000000000* c'=v→w< 1000000000→c'≤1→GiveI V A (s++[w],c'):=by
  intro w c' hw hwb hc';refine⟨by simp;omega,?_,hc',?_⟩;intro d hd;rcases List.mem_append.1 hd with hd|hd
  exact hdig d hd;simp at hd;subst hd;exact hwb;simp only[List.length_append,List.length_singleton];rw[gr,cG _ hx,eo,Nat.pow_succ];have e:MB^ s.length* (w+MB* c')=MB^ s.length* (x+c+(V[s.length]?.getD 0)):=by rw[←hv,←hw]
  simp only[Nat.mul_add] at e;rw[←Nat.mul_assoc] at e;omega
 refine au rfl (fun h=>?_) (fun h=>?_);have hb:1000000000≤v:=by have:=of_decide_eq_true h;omega
 have hI:(v:Int)- 1000000000=((v- 1000000000:Nat):Int):=by omega
 refine r_m 4 ?_;refine a_z ?_;refine r_m 5 ?_;refine a_4 ?_;refine ep (.store rfl rfl hg rfl rfl rfl TS.h (nle rfl)) ?_;refine aq ?_;refine r_m 2 ?_;refine a_z ?_;refine⟨(s++[v- 1000000000],1),by simp;omega,hnext _ _ (by omega) (by omega) (Nat.le_refl _),?_⟩;rw[gbS.eq_1];exact s_x [] (fun hs=>dj) (fun hs=>e_16);have hb:v< 1000000000:=by have:=of_decide_eq_false h;omega
 refine an (r_m 5 ?_);refine a_4 ?_;refine ep (.store rfl rfl hg rfl rfl rfl TS.h (nle rfl)) ?_;refine aq ?_;refine r_m 2 ?_;refine a_z ?_;refine⟨(s++[v],0),by simp;omega,hnext _ _ (by omega) (by omega) (by omega),?_⟩;rw[gbS.eq_1];exact s_x [] (fun hs=>dj) (fun hs=>e_20);have hl:s.length=A.length:=by have:=of_decide_eq_false h;omega
 refine aB ⟨(s,c),⟨⟨hle,hdig,hcar,hval⟩,hl⟩,?_⟩;rw[gbS.eq_1];exact s_e [];rintro⟨s,c⟩ ⟨⟨hle,hdig,hcar,hval⟩,hl⟩;simp only at hle hdig hcar hval hl;rw[hl,List.take_length,List.take_of_length_le (by omega)] at hval;have hs1:=e9 hdig;rw[hl] at hs1;have hpos:0< MB^ A.length:=Nat.pow_pos (by decide)
 have hqq:c=q∧ofD MB s=D:=by
  rcases Nat.le_one_iff_eq_zero_or_eq_one.1 hq with rfl|rfl <;> rcases Nat.le_one_iff_eq_zero_or_eq_one.1 hcar with rfl|rfl <;> constructor <;> omega
 obtain⟨rfl,rfl⟩:=hqq;rw[gbS.eq_1];refine r_z 3 ?_;refine am (FinE.tmp rfl ?_ rfl ?_);congr 2;rw[Bool.eq_iff_iff];simp;rw[hl,List.drop_length,List.append_nil,←wP hdig hl rfl]
end Go.Proofs.YtjgokhkahkmpbaaGreatDoor
