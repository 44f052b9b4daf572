/- Part V19 of the proof. -/
import Derived.Test.YtdgbhlkabelmbaaGreatDoorV18
set_option linter.all false
namespace Go.Proofs.YtdgbhlkabelmbaaGreatDoor
open Go.Abs
set_option maxRecDepth 20000
set_option maxHeartbeats 1000000
theorem DL{pre s t post:List Nat}{x e i:Nat}(he:e=pre.length)(hi:i=s.length):(pre++(s++x::t)++post)[e+i]?=some x:=by
 subst he hi;simp
theorem DK{pre s t post:List Nat}{x v e i:Nat}(he:e=pre.length)(hi:i=s.length):(pre++(s++x::t)++post).set (e+i) v=pre++((s++[v])++t)++post:=by
 subst he hi;rw[List.append_assoc,List.set_append_right _ _ (by omega),List.append_assoc,show pre.length+s.length- pre.length=s.length by omega,List.set_append_right _ _ (by omega)];simp
def suS(V:List Nat)(A:List Nat)(pre:List Nat)(post:List Nat)(cap:Option Nat)(t:Nat):List Nat×Nat×Nat→AState
 |(s,c,q)=>⟨[(0,.lsl 0 pre.length A.length cap 1),(1,.arr (dE V)),(2,u64 t),(7,u64 c),(8,i64 q),(13,i64 s.length),(12,i64 A.length)],
  [(0,some ⟨188,1,dE (pre++(s++A.drop s.length)++post)⟩)],1,54⟩
structure SubI (V A:List Nat)(t:Nat)(x:List Nat×Nat×Nat):Prop where
 le:x.1.length≤A.length
 dig:∀d∈x.1,d< MB
 car:x.2.1< MB
 bor:x.2.2≤1
 fin:V.length< x.1.length→x.2.1=0
 val:ofD MB x.1+t* ofD MB (V.take x.1.length)=ofD MB (A.take x.1.length)+MB^ x.1.length* (x.2.2+x.2.1)
theorem Av (pre A post V:List Nat) (t D q:Nat) (cap:Option Nat) (hA:∀d∈A,d< MB) (hV:∀d∈V,d< MB) (ht:t< MB) (hlen:V.length< A.length) (hA2:A.length< 17592186044416) (hq:q≤1)
    (hD:D+t* ofD MB V=ofD MB A+MB^ A.length* q) (hD2:D< MB^ A.length):
    ESpec Tryz.prog 167 188 1 (dE (pre++A++post)) (dE (pre++iO MB A.length D++post)) pre.length A.length cap [.arr (dE V),u64 t] (.bool (q !=0)):=by
 have ht1:t< 1000000000:=ht;refine ESpec.enter Tryz.func167 rfl (by kernel_rfl) rfl rfl rfl ?_ ?_ ?_ rfl ?_;exact ac (cQ _) (ac (ag _) af);exact bH _;exact bH _;refine r_z 1 ?_;refine r_z 2 ?_;refine ae (r_z 3 ?_);refine aG (suS V A pre post cap t) (fun x=>SubI V A t x∧x.1.length=A.length) ?_ ?_;refine aj (aB (suS V A pre post cap t) (fun x=>A.length- x.1.length) (SubI V A t) ([],0,0) ⟨by simp,by simp,(show 0< MB by decide),by simp,by simp,by simp[ofD]⟩ ?_ ?_);rw[suS.eq_1];exact s_e [];rintro⟨s,c,β⟩ ⟨hle,hdig,hcar,hbor,hfin,hval⟩;simp only at hle hdig hcar hbor hfin hval;have hc1:c< 1000000000:=hcar;rw[suS.eq_1];refine r_z 1 ?_;refine ae (ap rfl (fun h=>?_) (fun h=>?_));have hlt:s.length< A.length:=by have:=of_decide_eq_true h;omega
 obtain⟨x,hx⟩:∃x,A[s.length]?=some x:=⟨_,List.getElem?_eq_getElem hlt⟩;have hx1:x< 1000000000:=hA x (List.mem_of_getElem? hx)
 have hg:(dE (pre++(s++A.drop s.length)++post))[pre.length+((s.length:Nat):Int).toNat]?=some [u32 x]:=by
  rw[Int.toNat_natCast,fN hx];exact dD (DL rfl rfl)
 have hset:∀w:Nat,(dE (pre++(s++A.drop s.length)++post)).set (pre.length+((s.length:Nat):Int).toNat) [u32 w]=dE (pre++((s++[w])++A.drop (s++[w]).length)++post):=by
  intro w;rw[Int.toNat_natCast,fN hx,gX,DK rfl rfl];simp
 refine ak (ae (aj (r_z 2 ?_)));refine ae (r_z 4 ?_)
 refine aG (fun v:Nat=>⟨[(0,.lsl 0 pre.length A.length cap 1),(1,.arr (dE V)),(2,u64 t),(7,u64 v),(8,i64 β),(9,i64 s.length),(13,i64 s.length),(12,i64 A.length)],
  [(0,some ⟨188,1,dE (pre++(s++A.drop s.length)++post)⟩)],1,54⟩)
  (fun v=>v=c+t* (V[s.length]?.getD 0)∧v≤999999999+999999999* 999999999∧(V.length≤s.length→v=c)) ?_ ?_
 refine ap rfl (fun h=>?_) (fun h=>?_);have hlt2:s.length< V.length:=by have:=of_decide_eq_true h;simp at this;omega
 obtain⟨y,hy⟩:∃y,V[s.length]?=some y:=⟨_,List.getElem?_eq_getElem hlt2⟩;have hy1:y< 1000000000:=hV y (List.mem_of_getElem? hy);have hy':(dE V)[((s.length:Nat):Int).toNat]?=some [u32 y]:=dD hy;have hxy0:t* y≤999999999* 999999999:=Nat.mul_le_mul (by omega) (by omega);have hxyn:0≤(t:Int) * y:=Int.mul_nonneg (by omega) (by omega);have hxyi:(t:Int) * y=((t* y:Nat):Int):=(Int.natCast_mul _ _).symm;refine r_m 10 ?_;refine a_4 ?_;refine i_x hy' ?_;refine l_1 hy' ?_;refine a_z ?_;refine⟨c+t* y,⟨by rw[hy];rfl,by omega,fun h=>absurd h (by omega)⟩,?_⟩;have hI:(c:Int)+(t:Int) * y=((c+t* y:Nat):Int):=by omega
 have:=(congrArg (fun z=>AV.v (.int .u64 z)) hI);exact s_f [];have hlt2:¬s.length< V.length:=by have:=of_decide_eq_false h;simp at this;omega
 refine ak ⟨c,⟨by rw[List.getElem?_eq_none (by omega)];simp,by omega,fun _=>rfl⟩,?_⟩;exact s_e [];rintro v ⟨hv,hv1,hv2⟩;refine s_r 12 ?_;refine a_2 ?_
 first|refine aF (.index_l rfl rfl (by omega) (by omega) te_30.h) rfl rfl ?_|refine aF (.index_a rfl rfl (by omega) hg rfl te_30.h) rfl rfl ?_
 first|refine aF (.load_l1 rfl rfl hg TG.h rfl) rfl rfl ?_|refine aF (.load_a1 rfl hg TG.h rfl) rfl rfl ?_
 refine a_z ?_;refine r_z 3 ?_;refine r_z 1 ?_;refine ae (r_z 2 ?_)
 have hnext:∀w q',w+v % 1000000000+β=x+1000000000* q'→w< 1000000000→q'≤1→SubI V A t (s++[w],v/ 1000000000,q'):=by
  intro w q' hw hwb hq';refine⟨by simp;omega,?_,?_,hq',?_,?_⟩;intro d hd;rcases List.mem_append.1 hd with hd|hd
  exact hdig d hd;simp at hd;subst hd;exact hwb;show v/ 1000000000< 1000000000;omega;intro hl;simp at hl;have:=hv2 (by omega);simp only;omega;simp only[List.length_append,List.length_singleton];rw[gR,cC _ hx,eE,Nat.pow_succ];have e:MB^ s.length* (w+v % 1000000000+β+1000000000* (v/ 1000000000))=MB^ s.length* (x+MB* q'+MB* (v/ 1000000000)):=by rw[hw]
  have e2:w+v % 1000000000+β+1000000000* (v/ 1000000000)=w+β+(c+t* (V[s.length]?.getD 0)):=by rw[←hv];have:=Nat.mod_add_div v 1000000000;omega
  rw[e2] at e;have e3:t* (ofD MB (V.take s.length)+MB^ s.length* (V[s.length]?.getD 0))=t* ofD MB (V.take s.length)+MB^ s.length* (t* (V[s.length]?.getD 0)):=by rw[Nat.mul_add,Nat.mul_left_comm]
  rw[e3];have e4:MB^ s.length* MB* (q'+v/ 1000000000)=MB^ s.length* (MB* q')+MB^ s.length* (MB* (v/ 1000000000)):=by rw[Nat.mul_assoc,Nat.mul_add,Nat.mul_add]
  rw[e4];simp only[Nat.mul_add] at e hval⊢;omega
 refine ap rfl (fun h=>?_) (fun h=>?_);have hb:(x:Int)- v % 1000000000- β< 0:=by have:=of_decide_eq_true h;omega
 have hI:(x:Int)- (v:Int) % 1000000000- β+1000000000=((x+1000000000- v % 1000000000- β:Nat):Int):=by omega
 refine r_m 4 ?_;refine a_z ?_;refine r_m 6 ?_;refine a_4 ?_
 first|refine aF (.index_l rfl rfl (by omega) (by omega) te_30.h) rfl rfl ?_|refine aF (.index_a rfl rfl (by omega) (by omega) rfl te_30.h) rfl rfl ?_
 refine dX (.store rfl rfl hg rfl rfl rfl TS.h (nle rfl)) ?_;refine ao ?_;refine r_m 2 ?_;refine a_z ?_;refine⟨(s++[x+1000000000- v % 1000000000- β],v/ 1000000000,1),by simp;omega,hnext _ _ (by omega) (by omega) (Nat.le_refl _),?_⟩;rw[suS.eq_1];exact s_x [] (fun hs=>dU) (fun hs=>e_18);have hb:¬(x:Int)- v % 1000000000- β< 0:=by have:=of_decide_eq_false h;omega
 have hI:(x:Int)- (v:Int) % 1000000000- β=((x- v % 1000000000- β:Nat):Int):=by omega
 refine ak (r_m 6 ?_);refine a_3 ?_;refine o_0 (.conv rfl (cU32 (by omega) tu_2.h tu_188.h)) ?_;refine a_1 ?_;refine dX (.store rfl rfl hg rfl rfl rfl TS.h (nle rfl)) ?_;refine ao ?_;refine r_m 2 ?_;refine a_z ?_;refine⟨(s++[x- v % 1000000000- β],v/ 1000000000,0),by simp;omega,hnext _ _ (by omega) (by omega) (by omega),?_⟩;rw[suS.eq_1];exact s_x [] (fun hs=>dU) (fun hs=>e_18);have hl:s.length=A.length:=by have:=of_decide_eq_false h;omega
 refine ay ⟨(s,c,β),⟨⟨hle,hdig,hcar,hbor,hfin,hval⟩,hl⟩,?_⟩;rw[suS.eq_1];exact s_e [];rintro⟨s,c,β⟩ ⟨⟨hle,hdig,hcar,hbor,hfin,hval⟩,hl⟩;simp only at hle hdig hcar hbor hfin hval hl;have hc0:=hfin (by omega);subst hc0;rw[hl,List.take_length,List.take_of_length_le (by omega),Nat.add_zero] at hval;have hs1:=fq hdig;rw[hl] at hs1;have hpos:0< MB^ A.length:=Nat.pow_pos (by decide)
 have hqq:β=q∧ofD MB s=D:=by
  rcases Nat.le_one_iff_eq_zero_or_eq_one.1 hq with rfl|rfl <;> rcases Nat.le_one_iff_eq_zero_or_eq_one.1 hbor with rfl|rfl <;> constructor <;> omega
 obtain⟨rfl,rfl⟩:=hqq;rw[suS.eq_1];refine r_z 3 ?_;refine ai (FinE.tmp rfl ?_ rfl ?_);congr 2;rw[Bool.eq_iff_iff];simp;rw[hl,List.drop_length,List.append_nil,←yh hdig hl rfl]
def gbS(V:List Nat)(A:List Nat)(pre:List Nat)(post:List Nat)(cap:Option Nat):List Nat×Nat→AState
 |(s,c)=>⟨[(0,.lsl 0 pre.length A.length cap 1),(1,.arr (dE V)),(5,u32 c),(10,i64 s.length),(9,i64 A.length)],
  [(0,some ⟨188,1,dE (pre++(s++A.drop s.length)++post)⟩)],1,40⟩
structure GiveI (V A:List Nat)(x:List Nat×Nat):Prop where
 le:x.1.length≤A.length
 dig:∀d∈x.1,d< MB
 car:x.2≤1
 val:ofD MB x.1+MB^ x.1.length* x.2=ofD MB (A.take x.1.length)+ofD MB (V.take x.1.length)
theorem Aw (pre A post V:List Nat) (D q:Nat) (cap:Option Nat) (hA:∀d∈A,d< MB) (hV:∀d∈V,d< MB) (hlen:V.length≤A.length) (hA2:A.length< 17592186044416) (hq:q≤1)
    (hD:D+MB^ A.length* q=ofD MB A+ofD MB V) (hD2:D< MB^ A.length):
    ESpec Tryz.prog 168 188 1 (dE (pre++A++post)) (dE (pre++iO MB A.length D++post)) pre.length A.length cap [.arr (dE V)] (.bool (q !=0)):=by
 refine ESpec.enter Tryz.func168 rfl (by kernel_rfl) rfl rfl rfl ?_ ?_ ?_ rfl ?_;exact ac (cQ _) af;exact bH _;exact bH _;refine r_z 1 ?_;refine r_z 1 ?_;refine ae (r_z 3 ?_);refine aG (gbS V A pre post cap) (fun x=>GiveI V A x∧x.1.length=A.length) ?_ ?_;refine aj (aB (gbS V A pre post cap) (fun x=>A.length- x.1.length) (GiveI V A) ([],0) ⟨by simp,by simp,by simp,by simp[ofD]⟩ ?_ ?_);rw[gbS.eq_1];exact s_e [];rintro⟨s,c⟩ ⟨hle,hdig,hcar,hval⟩;simp only at hle hdig hcar hval;rw[gbS.eq_1];refine r_z 1 ?_;refine ae (ap rfl (fun h=>?_) (fun h=>?_));have hlt:s.length< A.length:=by have:=of_decide_eq_true h;omega
 obtain⟨x,hx⟩:∃x,A[s.length]?=some x:=⟨_,List.getElem?_eq_getElem hlt⟩;have hx1:x< 1000000000:=hA x (List.mem_of_getElem? hx)
 have hg:(dE (pre++(s++A.drop s.length)++post))[pre.length+((s.length:Nat):Int).toNat]?=some [u32 x]:=by
  rw[Int.toNat_natCast,fN hx];exact dD (DL rfl rfl)
 have hset:∀w:Nat,(dE (pre++(s++A.drop s.length)++post)).set (pre.length+((s.length:Nat):Int).toNat) [u32 w]=dE (pre++((s++[w])++A.drop (s++[w]).length)++post):=by
  intro w;rw[Int.toNat_natCast,fN hx,gX,DK rfl rfl];simp
 refine ak (ae (aj (r_z 2 ?_)));refine s_r 7 ?_;refine a_2 ?_
 first|refine aF (.index_l rfl rfl (by omega) (by omega) te_30.h) rfl rfl ?_|refine aF (.index_a rfl rfl (by omega) hg rfl te_30.h) rfl rfl ?_
 first|refine aF (.load_l1 rfl rfl hg TG.h rfl) rfl rfl ?_|refine aF (.load_a1 rfl hg TG.h rfl) rfl rfl ?_
 refine a_z ?_;refine ae (r_z 4 ?_)
 refine aG (fun v:Nat=>⟨[(0,.lsl 0 pre.length A.length cap 1),(1,.arr (dE V)),(5,u32 c),(7,u32 v),(6,i64 s.length),(10,i64 s.length),(9,i64 A.length)],
  [(0,some ⟨188,1,dE (pre++(s++A.drop s.length)++post)⟩)],1,40⟩)
  (fun v=>v=x+c+(V[s.length]?.getD 0)∧v≤1999999999) ?_ ?_
 refine ap rfl (fun h=>?_) (fun h=>?_);have hlt2:s.length< V.length:=by have:=of_decide_eq_true h;simp at this;omega
 obtain⟨y,hy⟩:∃y,V[s.length]?=some y:=⟨_,List.getElem?_eq_getElem hlt2⟩;have hy1:y< 1000000000:=hV y (List.mem_of_getElem? hy);have hy':(dE V)[((s.length:Nat):Int).toNat]?=some [u32 y]:=dD hy;refine r_m 7 ?_;refine a_3 ?_;refine i_x hy' ?_;refine l_1 hy' ?_;refine a_z ?_;refine⟨x+c+y,⟨by rw[hy];rfl,by omega⟩,?_⟩;exact s_e [];have hlt2:¬s.length< V.length:=by have:=of_decide_eq_false h;simp at this;omega
 refine ak ⟨x+c,⟨by rw[List.getElem?_eq_none (by omega)];rfl,by omega⟩,?_⟩;exact s_e [];rintro v ⟨hv,hv1⟩;refine r_z 1 ?_;refine ae (r_z 2 ?_)
 have hnext:∀w c',w+1000000000* c'=v→w< 1000000000→c'≤1→GiveI V A (s++[w],c'):=by
  intro w c' hw hwb hc';refine⟨by simp;omega,?_,hc',?_⟩;intro d hd;rcases List.mem_append.1 hd with hd|hd
  exact hdig d hd;simp at hd;subst hd;exact hwb;simp only[List.length_append,List.length_singleton];rw[gR,cC _ hx,eE,Nat.pow_succ];have e:MB^ s.length* (w+MB* c')=MB^ s.length* (x+c+(V[s.length]?.getD 0)):=by rw[←hv,←hw]
  simp only[Nat.mul_add] at e;rw[←Nat.mul_assoc] at e;omega
 refine ap rfl (fun h=>?_) (fun h=>?_);have hb:1000000000≤v:=by have:=of_decide_eq_true h;omega
 have hI:(v:Int)- 1000000000=((v- 1000000000:Nat):Int):=by omega
 refine r_m 4 ?_;refine a_z ?_;refine r_m 5 ?_;refine a_4 ?_;refine dX (.store rfl rfl hg rfl rfl rfl TS.h (nle rfl)) ?_;refine ao ?_;refine r_m 2 ?_;refine a_z ?_;refine⟨(s++[v- 1000000000],1),by simp;omega,hnext _ _ (by omega) (by omega) (Nat.le_refl _),?_⟩;rw[gbS.eq_1];exact s_x [] (fun hs=>dU) (fun hs=>e_18);have hb:v< 1000000000:=by have:=of_decide_eq_false h;omega
 refine ak (r_m 5 ?_);refine a_4 ?_;refine dX (.store rfl rfl hg rfl rfl rfl TS.h (nle rfl)) ?_;refine ao ?_;refine r_m 2 ?_;refine a_z ?_;refine⟨(s++[v],0),by simp;omega,hnext _ _ (by omega) (by omega) (by omega),?_⟩;rw[gbS.eq_1];exact s_x [] (fun hs=>dU) (fun hs=>e_27);have hl:s.length=A.length:=by have:=of_decide_eq_false h;omega
 refine ay ⟨(s,c),⟨⟨hle,hdig,hcar,hval⟩,hl⟩,?_⟩;rw[gbS.eq_1];exact s_e [];rintro⟨s,c⟩ ⟨⟨hle,hdig,hcar,hval⟩,hl⟩;simp only at hle hdig hcar hval hl;rw[hl,List.take_length,List.take_of_length_le (by omega)] at hval;have hs1:=fq hdig;rw[hl] at hs1;have hpos:0< MB^ A.length:=Nat.pow_pos (by decide)
 have hqq:c=q∧ofD MB s=D:=by
  rcases Nat.le_one_iff_eq_zero_or_eq_one.1 hq with rfl|rfl <;> rcases Nat.le_one_iff_eq_zero_or_eq_one.1 hcar with rfl|rfl <;> constructor <;> omega
 obtain⟨rfl,rfl⟩:=hqq;rw[gbS.eq_1];refine r_z 3 ?_;refine ai (FinE.tmp rfl ?_ rfl ?_);congr 2;rw[Bool.eq_iff_iff];simp;rw[hl,List.drop_length,List.append_nil,←yh hdig hl rfl]
def ovS(s:Nat)(V:List Nat)(L:Nat):List Nat×List Nat×Nat→AState
 |(R,T,k)=>⟨[(4,.lptr 1 0 0),(5,.lptr 2 0 0),(6,.lptr 3 0 0),(7,.arr (dE V)),(8,i64 V.length),(9,.lsl 4 0 L (some L) 1),(10,.lsl 5 0 (L- V.length) (some (L- V.length)) 1),(11,i64 ((k:Int)- 1))],
  [(1,some ⟨32,1,[[.emp]]⟩),(2,some ⟨32,1,[[.emp]]⟩),(3,some ⟨32,1,[[mag s]]⟩),(4,some ⟨188,1,dE R⟩),(5,some ⟨188,1,dE (List.replicate k 0++T)⟩)],6,142⟩
def ovM(s:Nat)(V:List Nat)(L:Nat)(T:List Nat)(pre:List Nat)(post:List Nat)(j:Nat)(n:Nat):List Nat×Nat×Bool→AState
 |(A,g,made)=>⟨[(4,.lptr 1 0 0),(5,.lptr 2 0 0),(6,.lptr 3 0 0),(7,.arr (dE V)),(8,i64 V.length),(9,.lsl 4 0 L (some L) 1),(10,.lsl 5 0 (L- V.length) (some (L- V.length)) 1),(11,i64 (((j+1:Nat):Int)- 1)),(13,u64 g),(14,.lsl 4 j n (some n) 1),(15,bln made)],
  [(1,some ⟨32,1,[[.emp]]⟩),(2,some ⟨32,1,[[.emp]]⟩),(3,some ⟨32,1,[[mag s]]⟩),(4,some ⟨188,1,dE (pre++A++post)⟩),(5,some ⟨188,1,dE (List.replicate (j+1) 0++T)⟩)],6,142⟩
theorem zk (a b:Nat) (h:bl a+bl b≤8796093022208) (hb:0< b)
    (hrec:2≤(aw MB b).length→∀r s,0< s→s< 1000000000→bl r≤bl b+30→FS 124 [.agg [mag r],.agg [mag s]] (.tup [.agg [mag (r/ s)],.agg [mag (r % s)]])):
    FS 124 [.agg [mag a],.agg [mag b]] (.tup [.agg [mag (a/ b)],.agg [mag (a % b)]]):=by
 have hla:=bR (b:=MB) (by decide) a;have hlb:=bR (b:=MB) (by decide) b;have va:=bt (b:=MB) (by decide) a;have vb:=bt (b:=MB) (by decide) b;refine f_c Tryz.func124 ?_;refine r_z 4 ?_;refine ae (aj (r_c 5 (nU a b (by omega)) ?_));refine a_z ?_;refine ap rfl (fun h=>?_) (fun h=>?_)
 have hlt:a< b:=by
  have h1:=of_decide_eq_true h;unfold eu at h1;split at h1;omega;split at h1 <;> omega
 refine ae (r_d a6 4 ?_);refine a_4 ?_;refine ao (n_k ?_);refine ai ?_;rw[Nat.div_eq_of_lt hlt,Nat.mod_eq_of_lt hlt];refine Fin.many ⟨_,_,rfl,⟨_,_,_,_,_,rfl,rfl,rfl,.inl ⟨TG.h,_,TS.h,nle rfl,rfl⟩⟩,_,_,rfl,⟨_,_,_,_,_,rfl,rfl,rfl,.inl ⟨TG.h,_,TS.h,nle rfl,rfl⟩⟩,rfl⟩ (nle rfl) ?_;refine ah (Cv.agg (ah (Cv.emp _ ?_) av)) (ah (am aD (aC (ac (b6 a) af))) av);unfold mag;rw[ct];rfl
 have hge:b≤a:=by
  have h1:=of_decide_eq_false h;refine Nat.le_of_not_lt fun hlt=>h1 ?_;rw[ly (by omega)];decide
 refine r_z 5 ?_;refine ap rfl (fun X=>?_) (fun X=>?_);have hl1:(aw MB b).length=1:=by simp at X;omega
 have hbm:b< 1000000000:=by
  have:=fq (b:=MB) (dI (by decide) b);rw[vb,hl1] at this;simpa using this
 have hg:(dE (aw MB b))[(0:Int).toNat]?=some [u32 b]:=by rw[CK hb hbm];rfl
 refine ae (r_d a6 10 ?_);refine a_3 ?_;refine i_x hg ?_;refine l_1 hg ?_;refine c_s (E1 a b (by omega) hb (by omega)) ?_;refine a_4 ?_;refine ao (n_k ?_);refine ai (Fin.many ⟨_,_,rfl,⟨_,_,_,_,_,rfl,rfl,rfl,.inl ⟨TG.h,_,TS.h,nle rfl,rfl⟩⟩,_,_,rfl,⟨_,_,_,_,_,rfl,rfl,rfl,.inl ⟨TG.h,_,TS.h,nle rfl,rfl⟩⟩,rfl⟩ (nle rfl) ?_);exact ah (am aD (aC (ac (b6 _) af))) (ah (am aD (aC (ac (b6 _) af))) av)
 have hl2:2≤(aw MB b).length:=by
  have h1:¬(aw MB b).length=1:=by simp at X;omega
  have h0:(aw MB b).length≠0:=fun e=>by
   rw[List.length_eq_zero_iff] at e;have:=(iQ (b:=MB) (by decide)).1 e;omega
  omega
 refine ak ?_
 -- the leading digit,the factor
 obtain⟨L,y⟩:∃d,(aw MB b)[(aw MB b).length- 1]?=some d:=⟨_,List.getElem?_eq_getElem (by omega)⟩;have hvt1:L< 1000000000:=cv (by decide) y
 have Y:1≤L:=by
  have:=rc (b:=MB) (by decide) b;rw[List.getLast?_eq_getElem?,y] at this;simp at this;omega
 have hvt':(dE (aw MB b))[(((aw MB b).length:Int)- 1).toNat]?=some [u32 L]:=by rw[show(((aw MB b).length:Int)- 1).toNat=(aw MB b).length- 1 by omega];exact dD y
 obtain⟨sc1,sc2,K⟩:=EG Y hvt1;have hsI:(1000000000:Int) / ((L:Int)+1)=((1000000000/ (L+1):Nat):Int):=by rw[show((L:Int)+1)=((L+1:Nat):Int) by omega];exact(Int.natCast_ediv _ _).symm
 have hs9:1000000000/ (L+1)≤500000000:=by
  have:1000000000/ (L+1)≤1000000000/ 2:=Nat.div_le_div_left (by omega) (by omega);omega
 obtain⟨s,hs⟩:∃s,s=1000000000/ (L+1):=⟨_,rfl⟩;rw[←hs] at sc1 sc2 K hsI hs9;have hsm:FS 78 [.v (.int .u64 ((1000000000:Int) / ((L:Int)+1)))] (.agg [mag s]):=by rw[hsI];exact gd s (by omega)
 have hbls:bl s≤30:=hZ (by omega);have hbs:=iH b s;have has:=iH a s;refine s_r 14 ?_;refine a_6 ?_;refine i_x hvt' ?_;refine l_1 hvt' ?_;refine a_1 ?_;refine o_0 (.bin rfl rfl (AW (by omega))) ?_;refine o_0 (.conv rfl (cU64 (by rw[hsI];omega) tu_188.h tu_155.h)) ?_;refine c_s (hsm) ?_;refine a_z ?_;obtain⟨k,hk⟩:∃k,(aw MB b).length=k+1:=⟨(aw MB b).length- 1,by omega⟩;obtain⟨hVl,hb1,hv2,v1,lw,hv1,hvw,hlw,hv500,hv1b⟩:=CH (s:=s) hk (by rw[hk] at y;exact y) Y sc1 sc2;have V:(dE (aw MB (b* s)))[(((aw MB (b* s)).length:Int)- 1).toNat]?=some [u32 v1]:=by rw[show(((aw MB (b* s)).length:Int)- 1).toNat=k by omega];exact dD hv1
 have hab:=zG (b:=MB) (by decide) hge
 have hU1:a* s< MB^ (aw MB a).length* s:=by
  have:=fq (b:=MB) (dI (by decide) a);rw[va] at this;exact Nat.mul_lt_mul_of_pos_right this K
 have hUl:(aw MB (a* s)).length≤(aw MB a).length+1:=by
  refine fw (by decide) ?_;rw[Nat.pow_succ];have:MB^ (aw MB a).length* s≤MB^ (aw MB a).length* MB:=Nat.mul_le_mul_left _ (by show s≤1000000000;omega);omega
 have hcp:eR (List.replicate ((aw MB a).length+1) [ofV (Value.int IntKind.u32 0)]) 0 (List.take (Nat.min (dE (aw MB (a* s))).length ((aw MB a).length+1)) (dE (aw MB (a* s))))=dE (iO MB ((aw MB a).length+1) (a* s)):=by
  rw[List.take_of_length_le (by rw[re];exact Nat.le_min.2 ⟨Nat.le_refl _,hUl⟩),yZ (by rw[re,List.length_replicate];exact hUl)];rw[←yh (l:=aw MB (a* s)++List.replicate ((aw MB a).length+1- (aw MB (a* s)).length) 0) ?_ ?_ ?_];rw[kR,←gY];simp[u32,ofV];intro d S;rcases List.mem_append.1 S with S|S
  exact dI (by decide) _ d S;simp at S;rw[S.2];decide;simp;omega;rw[gw,qA,bt (by decide)];simp
 refine r_c 5 (ga b s (by omega)) ?_;refine a_z ?_;refine r_z 3 ?_;have hL0:((aw MB a).length:Int)+1=(((aw MB a).length+1:Nat):Int):=by omega
 refine s_r 6 ?_;refine a_4 ?_;refine o_1 (.makeSlice (congrArg (fun z=>some (AV.v (.int .i64 z))) hL0) (congrArg (fun z=>some (AV.v (.int .i64 z))) hL0) te_30.h TZ.h rfl TB.h (by first|omega|(simp;done)|(simp;omega)) (by first|omega|(simp;done)|(simp;omega)) (by unfold maxLen;first|omega|(simp;done)|(simp;omega))) ?_;refine a_z ?_;refine r_c 6 (ga a s (by omega)) ?_;refine a_1 ?_;refine o_1 (.copy rfl rfl rfl te_30.h rfl rfl rfl (by first|(simp;done)|(simp;omega)) (by first|exact dq _|exact dp _|exact cW _|exact dr _|exact dn _|rfl|simp) rfl (.arr (yv _))) ?_;refine ao ?_;have hLI:(((aw MB a).length+1:Nat):Int)- ((aw MB (b* s)).length:Nat)=(((aw MB a).length+1- (aw MB (b* s)).length:Nat):Int):=by omega
 refine s_r 6 ?_;refine a_4 ?_;refine o_1 (.makeSlice (congrArg (fun z=>some (AV.v (.int .i64 z))) hLI) (congrArg (fun z=>some (AV.v (.int .i64 z))) hLI) te_30.h TZ.h rfl TB.h (by first|omega|(simp;done)|(simp;omega)) (by first|omega|(simp;done)|(simp;omega)) (by unfold maxLen;first|omega|(simp;done)|(simp;omega))) ?_;refine a_z ?_;refine ae (r_z 4 ?_)
 have hst:DivI (a* s) (b* s) (k+1) ((aw MB a).length+1) (iO MB ((aw MB a).length+1) (a* s)) [] ((aw MB a).length+1- (k+1)):=by
  have hUL:a* s< MB^ ((aw MB a).length+1):=by
   rw[Nat.pow_succ];have:MB^ (aw MB a).length* s≤MB^ (aw MB a).length* MB:=Nat.mul_le_mul_left _ (by show s≤1000000000;omega);omega
  exact DivI.start (by simp) (si (by decide) _ _) (pi (by decide) hUL) (by omega) (by simpa using hb1) (by omega) rfl (by simpa using hU1)
 refine aG (ovS s (aw MB (b* s)) ((aw MB a).length+1)) (fun x=>DivI (a* s) (b* s) (k+1) ((aw MB a).length+1) x.1 x.2.1 x.2.2∧x.2.2=0) ?_ ?_;refine aj (aB (ovS s (aw MB (b* s)) ((aw MB a).length+1)) (fun x=>x.2.2) (fun x=>DivI (a* s) (b* s) (k+1) ((aw MB a).length+1) x.1 x.2.1 x.2.2) (iO MB ((aw MB a).length+1) (a* s),[],(aw MB a).length+1- (aw MB (b* s)).length) (by rw[hVl];exact hst) ?_ ?_);rw[ovS.eq_1];exact s_x [(1,4),(2,5),(3,6),(4,9),(5,10)] (fun hs=>dU) (fun hs=>e_29) e_28;rintro⟨R,T,j1⟩ c;simp only at c;rw[ovS.eq_1];refine ae (r_z 2 ?_);refine ap rfl (fun h3=>?_) (fun h3=>?_);have hj1:0< j1:=by have:=of_decide_eq_true h3;omega
 obtain⟨j,rfl⟩:∃j,j1=j+1:=⟨j1- 1,by omega⟩;have hRl:=c.len;have hkl:=c.k_le;obtain⟨p1,p2,p3,p4,p5⟩:=c.parts hv2;have o:=c.next hv2 (Nat.mul_pos hb K) rfl;obtain⟨A,hA⟩:∃A,A=(R.drop j).take (k+1+1):=⟨_,rfl⟩;obtain⟨n,E⟩:∃x,x=R.take j:=⟨_,rfl⟩;obtain⟨f,G⟩:∃x,x=R.drop (j+(k+1)+1):=⟨_,rfl⟩;obtain⟨p,hp⟩:∃p,p=ofD MB (R.drop j):=⟨_,rfl⟩;have F:n.length=j:=by rw[E];simp;omega
 rw[←hA,←hp] at p2;rw[←hp] at p3 o;rw[←hA] at p4;rw[←hA,←E,←G] at p5;rw[←E,←G] at o;have U:∀d∈A,d< MB:=fun d S=>c.dig d (List.mem_of_mem_drop (List.mem_of_mem_take (by rw[hA] at S;exact S)));obtain⟨H,hx0⟩:∃x,A[k]?=some x:=⟨_,List.getElem?_eq_getElem (by omega)⟩;obtain⟨C,hx1⟩:∃x,A[k+1]?=some x:=⟨_,List.getElem?_eq_getElem (by omega)⟩;have hx0b:H< 1000000000:=U H (List.mem_of_getElem? hx0);have hx1b:C< 1000000000:=U C (List.mem_of_getElem? hx1);obtain⟨lo,hlo,hlob⟩:=GE p4 hx0 hx1 U;rw[p2] at hlo;obtain⟨gu1,gu2⟩:=Hd (b:=MB) (by decide) hlo hlob hvw hlw (by show 1000000000≤2* v1;omega) hv1b p3
 have hgR:∀i x,A[i]?=some x→(dE R)[0+(j+i)]?=some [u32 x]:=by
  intro i x hx;rw[Nat.zero_add];refine dD ?_;rw[p5,List.append_assoc,List.getElem?_append_right (by omega),List.getElem?_append_left (by have:=(List.getElem?_eq_some_iff.1 hx).1;omega)];rw[show j+i- n.length=i by omega];exact hx
 have hgN:(dE R)[0+((((j+1:Nat):Int)- 1)+((aw MB (b* s)).length:Nat)).toNat]?=some [u32 C]:=by
  rw[show((((j+1:Nat):Int)- 1)+((aw MB (b* s)).length:Nat)).toNat=j+(k+1) by omega];exact hgR _ _ hx1
 have hgM:(dE R)[0+((((j+1:Nat):Int)- 1)+((aw MB (b* s)).length:Nat)- 1).toNat]?=some [u32 H]:=by
  rw[show((((j+1:Nat):Int)- 1)+((aw MB (b* s)).length:Nat)- 1).toNat=j+k by omega];exact hgR _ _ hx0
 obtain⟨g,hg⟩:∃g,g=min ((C* 1000000000+H) / v1) 999999999:=⟨_,rfl⟩;have N:g≤999999999:=by rw[hg];exact Nat.min_le_right _ _
 have hgI:(if (999999999:Int)< ((C:Int) * 1000000000+H) / (v1:Int) then(999999999:Int) else((C:Int) * 1000000000+H) / (v1:Int))=(g:Int):=by
  have e1:((C:Int) * 1000000000+H) / (v1:Int)=(((C* 1000000000+H) / v1:Nat):Int):=by
   rw[show(C:Int) * 1000000000+H=((C* 1000000000+H:Nat):Int) by omega];exact(Int.natCast_ediv _ _).symm
  rw[e1,hg];generalize (C* 1000000000+H) / v1=Q;by_cases hQ:Q≤999999999;rw[if_neg (by omega),Nat.min_eq_left hQ];rw[if_pos (by omega),Nat.min_eq_right (by omega)];rfl
 rw[show MB- 1=999999999 from rfl,←hg] at gu1 gu2;refine ak (ae (aj (ae (r_d a6 18 ?_))));refine a_5 ?_
 first|refine aF (.load_l1 rfl rfl hgN TG.h rfl) rfl rfl ?_|refine aF (.load_a1 rfl hgN TG.h rfl) rfl rfl ?_
 refine a_8 ?_
 first|refine aF (.load_l1 rfl rfl hgM TG.h rfl) rfl rfl ?_|refine aF (.load_a1 rfl hgM TG.h rfl) rfl rfl ?_
 refine a_3 ?_;refine ao (n_k ?_);refine s_r 10 ?_;refine a_4 ?_;refine i_x V ?_;refine l_1 V ?_;refine a_z ?_;refine s_r 12 ?_;refine a_8 ?_;refine a_2 ?_;refine o_0 (.sl_lhm rfl rfl (l:=j) (by omega) rfl (h:=j+(k+1)+1) (by omega) rfl (m:=j+(k+1)+1) (by omega) (by omega) te_30.h) ?_;refine a_z ?_
 refine AWp.ent (st':=⟨[(4,.lptr 1 0 0),(5,.lptr 2 0 0),(6,.lptr 3 0 0),(7,.arr (dE (aw MB (b* s)))),(8,i64 (aw MB (b* s)).length),(9,.lsl 4 0 ((aw MB a).length+1) (some ((aw MB a).length+1)) 1),(10,.lsl 5 0 ((aw MB a).length+1- (aw MB (b* s)).length) (some ((aw MB a).length+1- (aw MB (b* s)).length)) 1),(11,i64 (((j+1:Nat):Int)- 1)),(13,u64 g),(14,.lsl 4 j (k+1+1) (some (k+1+1)) 1)],
  [(1,some ⟨32,1,[[.emp]]⟩),(2,some ⟨32,1,[[.emp]]⟩),(3,some ⟨32,1,[[mag s]]⟩),(4,some ⟨188,1,dE (n++A++f)⟩),(5,some ⟨188,1,dE (List.replicate (j+1) 0++T)⟩)],6,142⟩) ?_ ?_
 refine s_x [] (fun hs=>?_) (fun hs=>?_) ?_
 ·repeat' (first|exact aN|refine aA rfl ?_ ?_|exact Cv.loE hs (congrArg (fun z=>AV.v (.int .u64 z)) hgI) (ag _)|exact aV)
 ·repeat' (first|exact aE|refine h_c ?_ ?_|exact aI hs (congrArg dE p5) (bH _)|exact bC|refine az ?_|exact av|refine ah ?_ ?_|exact Cv.loE hs (congrArg (fun z=>AV.v (.int .u64 z)) hgI) (ag _)|exact aV)
 ·repeat' (first|exact ShrL.nil|refine ShrL.cons rfl rfl rfl rfl (by first|(simp[←p5])|rfl|(simp;done)|(simp <;> omega)) ?_)
 have hV:=bt (b:=MB) (by decide) (b* s);have hVd:=dI (b:=MB) (by decide) (b* s)
 have J:∀D q,D+g* (b* s)=p+MB^ (k+1+1) * q→D< MB^ (k+1+1)→q≤1→ESpec Tryz.prog 167 188 1 (dE (n++A++f)) (dE (n++iO MB (k+1+1) D++f)) j (k+1+1) (some (k+1+1)) [.arr (dE (aw MB (b* s))),u64 g] (.bool (q !=0)):=by
  intro D q h1 X h3;have:=Av n A f (aw MB (b* s)) g D q (some (k+1+1)) U hVd (Nat.lt_of_le_of_lt N (by decide)) (by omega) (by omega) h3 (by rw[hV,p2,p4];exact h1) (by rw[p4];exact X);rw[F,p4] at this;exact this
 have t:∀D D' q,D'+MB^ (k+1+1) * q=D+b* s→D< MB^ (k+1+1)→D'< MB^ (k+1+1)→q≤1→ESpec Tryz.prog 168 188 1 (dE (n++iO MB (k+1+1) D++f)) (dE (n++iO MB (k+1+1) D'++f)) j (k+1+1) (some (k+1+1)) [.arr (dE (aw MB (b* s)))] (.bool (q !=0)):=by
  intro D D' q h1 X h3 h4;have:=Aw n (iO MB (k+1+1) D) f (aw MB (b* s)) D' q (some (k+1+1)) (si (by decide) _ _) hVd (by simp;omega) (by simp;omega) h4 (by rw[hV,j2,pi (by decide) X];exact h1) (by rw[j2];exact h3);rw[F,j2] at this;exact this
 have O:0< b* s:=Nat.mul_pos hb K;have m1:=Nat.mod_add_div p (b* s);have m2:=Nat.mod_lt p O
 have hBv:MB* (b* s)< MB^ (k+1+1):=by
  rw[Nat.pow_succ MB (k+1),Nat.mul_comm MB];exact Nat.mul_lt_mul_of_pos_right hv2 (by decide)
 have hgv:g* (b* s)≤MB* (b* s):=Nat.mul_le_mul_right _ (Nat.le_trans N (by decide));obtain⟨W,hW⟩:∃W,W=MB^ (k+1+1):=⟨_,rfl⟩;simp only[←hW] at J t hBv
 have hvW:b* s< W:=by
  have:1* (b* s)≤MB* (b* s):=Nat.mul_le_mul_right _ (by decide);omega
 refine bi (fun _:Unit=>⟨[(4,.lptr 1 0 0),(5,.lptr 2 0 0),(6,.lptr 3 0 0),(7,.arr (dE (aw MB (b* s)))),(8,i64 (aw MB (b* s)).length),(9,.lsl 4 0 ((aw MB a).length+1) (some ((aw MB a).length+1)) 1),(10,.lsl 5 0 ((aw MB a).length+1- (aw MB (b* s)).length) (some ((aw MB a).length+1- (aw MB (b* s)).length)) 1),(11,i64 (((j+1:Nat):Int)- 1)),(13,u64 (p/ (b* s):Nat))],
  [(1,some ⟨32,1,[[.emp]]⟩),(2,some ⟨32,1,[[.emp]]⟩),(3,some ⟨32,1,[[mag s]]⟩),(4,some ⟨188,1,dE (n++iO MB (k+1+1) (p % (b* s))++f)⟩),(5,some ⟨188,1,dE (List.replicate (j+1) 0++T)⟩)],6,142⟩) (fun _=>True) ?_ ?_
 by_cases hc:g* (b* s)≤p;have hgq:g=p/ (b* s):=Nat.le_antisymm ((Nat.le_div_iff_mul_le O).2 hc) gu1;have e1:p % (b* s)+g* (b* s)=p+W* 0:=by rw[hgq,Nat.mul_comm (p/ (b* s))];omega
 have hs1:=J (p % (b* s)) 0 e1 (by omega) (by omega);refine s_r 4 ?_;refine a_3 ?_;refine o_1 (.callE2 rfl rfl rfl rfl rfl rfl (hs1)) ?_;refine ao ?_;refine cF (ak ⟨(),trivial,?_⟩);have hgI2:u64 g=u64 (p/ (b* s):Nat):=by rw[←hgq]
 exact s_f [];have hc1:p< g* (b* s):=by omega
 have e1:(p+W- g* (b* s))+g* (b* s)=p+W* 1:=by omega
 have hs1:=J (p+W- g* (b* s)) 1 e1 (by omega) (by omega)
 have hgt:p/ (b* s)< g:=by
  rw[Nat.div_lt_iff_lt_mul O];exact hc1
 refine s_r 4 ?_;refine a_3 ?_;refine o_1 (.callE2 rfl rfl rfl rfl rfl rfl (hs1)) ?_;refine ao ?_;refine ap rfl (fun h4=>?_) (fun h4=>?_);refine r_z 1 ?_;refine aj ?_
 refine aB (ovM s (aw MB (b* s)) ((aw MB a).length+1) T n f j (k+1+1)) (fun x=>if x.2.2 then 0 else x.2.1+1)
  (fun x=>(x.2.2=true∧x.2.1=p/ (b* s)∧x.1=iO MB (k+1+1) (p % (b* s)))∨(x.2.2=false∧p/ (b* s)< x.2.1∧x.2.1≤999999999∧∃D,x.1=iO MB (k+1+1) D∧D+x.2.1* (b* s)=p+W∧D< W))
  (iO MB (k+1+1) (p+W- g* (b* s)),g,false) (.inr ⟨rfl,hgt,N,_,rfl,by simp only;omega,by omega⟩) ?_ ?_
 rw[ovM.eq_1];exact s_e [];rintro⟨A',u,Z⟩ hin;rw[ovM.eq_1];refine ae (r_z 2 ?_);refine ap rfl (fun h5=>?_) (fun h5=>?_);have hm:Z=false:=by simpa using h5
 subst hm;rcases hin with⟨M,_⟩|⟨_,M,h7,D,h8,h9,h10⟩
 cases M;simp only at M h7 h8 h9;subst h8;have hg0:1≤u:=Nat.lt_of_le_of_lt (Nat.zero_le _) M;refine ak ?_;have hI:(u:Int)- 1=((u- 1:Nat):Int):=by omega
 have hq1:b* s* (p/ (b* s))=p- p % (b* s):=by omega
 by_cases hlast:u=p/ (b* s)+1
 have e2:p % (b* s)+W* 1=D+b* s:=by
  rw[hlast,Nat.add_mul,Nat.one_mul,Nat.mul_comm (p/ (b* s))] at h9;omega
 have hg1:=t D (p % (b* s)) 1 e2 h10 (by omega) (by omega);refine ae (aj (r_m 4 ?_));refine a_2 ?_;refine o_1 (.callE2 rfl rfl rfl rfl rfl rfl (hg1)) ?_;refine a_z ?_;refine r_m 3 ?_;refine a_z ?_;refine⟨(iO MB (k+1+1) (p % (b* s)),u- 1,true),by simp,.inl ⟨rfl,by simp only;omega,rfl⟩,?_⟩;rw[ovM.eq_1];have:=(congrArg (fun z=>AV.v (.int .u64 z)) hI);exact s_f [];have B:p/ (b* s)< u- 1:=by omega
 have h11:(u- 1) * (b* s)+b* s=u* (b* s):=by
  conv=>rhs;rw[show u=(u- 1)+1 by omega,Nat.add_mul,Nat.one_mul]
 have h12:p< (u- 1) * (b* s):=by
  rw[Nat.div_lt_iff_lt_mul O] at B;exact B
 have hg1:=t D (D+b* s) 0 (by omega) h10 (by omega) (by omega);refine ae (aj (r_m 4 ?_));refine a_2 ?_;refine o_1 (.callE2 rfl rfl rfl rfl rfl rfl (hg1)) ?_;refine a_z ?_;refine r_m 3 ?_;refine a_z ?_;refine⟨(iO MB (k+1+1) (D+b* s),u- 1,false),by simp;omega,.inr ⟨rfl,B,by simp only;omega,_,rfl,by simp only;omega,by omega⟩,?_⟩;rw[ovM.eq_1];have:=(congrArg (fun z=>AV.v (.int .u64 z)) hI);exact s_f [];have hm:Z=true:=by simpa using h5
 subst hm;rcases hin with⟨_,M,h7⟩|⟨M,_⟩
 simp only at M h7;subst M h7;refine ay ⟨(),trivial,?_⟩;exact s_e [];cases M;cases h4;rintro _ _;have hq9:p/ (b* s)≤999999999:=Nat.le_trans gu1 N;obtain⟨q,hq⟩:∃q,q=p/ (b* s):=⟨_,rfl⟩;rw[←hq] at hq9 o⊢;have hrep:List.replicate (j+1) 0++T=List.replicate j 0++0::T:=by rw[List.replicate_succ'];simp
 have hgT:(dE (List.replicate (j+1) 0++T))[0+(((j+1:Nat):Int)- 1).toNat]?=some [u32 0]:=by
  rw[show 0+(((j+1:Nat):Int)- 1).toNat=j by omega,hrep];exact dD (pv _ _ _ _ (by simp))
 have w:(dE (List.replicate (j+1) 0++T)).set (0+(((j+1:Nat):Int)- 1).toNat) [u32 q]=dE (List.replicate j 0++(q::T)):=by
  rw[show 0+(((j+1:Nat):Int)- 1).toNat=j by omega,gX,hrep,oX _ _ _ _ _ (by simp)];simp
 refine r_m 6 ?_;refine a_5 ?_;refine dX (.store rfl rfl hgT rfl rfl rfl TS.h (nle rfl)) ?_;refine ao ?_;refine r_m 3 ?_;refine a_z ?_;refine⟨(n++iO MB (k+1+1) (p % (b* s))++f,q::T,j),by simp only;omega,o,?_⟩;rw[ovS.eq_1];refine s_x [] (fun hs=>dU) (fun hs=>?_) ?_
 ·repeat' (first|exact aE|refine h_c ?_ ?_|exact aI hs w (bH _)|exact bC)
 ·repeat' (first|exact ShrL.nil|refine ShrL.cons rfl rfl rfl rfl (by first|(exact(congrArg List.length w))|rfl|(simp;done)|(simp <;> omega)) ?_)
 have hj:j1=0:=by have:=of_decide_eq_false h3;omega
 subst hj;refine ay ⟨(R,T,0),⟨c,rfl⟩,?_⟩;rw[ovS.eq_1];exact s_e [];rintro⟨R,T,j1⟩ ⟨c,hj⟩;simp only at c hj;subst hj;obtain⟨hq,hr⟩:=c.last rfl rfl hb K;rw[ovS.eq_1]
 refine AWp.ent (st':=⟨[(4,.lptr 1 0 0),(5,.lptr 2 0 0),(6,.lptr 3 0 0),(9,.arr (dE R)),(10,.arr (dE T))],
  [(1,some ⟨32,1,[[.emp]]⟩),(2,some ⟨32,1,[[.emp]]⟩),(3,some ⟨32,1,[[mag s]]⟩)],4,142⟩) ?_ ?_
 have hlen:=c.len;have hkl:=c.k_le;exact s_x [] (fun hs=>e_30) (fun hs=>e_31);have hRl:=c.len;have hkl:=c.k_le
 have hRt:FS 126 [.arr (dE R)] (.agg [mag (ofD MB R)]):=by
  have:=iv R (by omega);rwa[ju (b:=MB) (by decide) c.dig] at this
 have hTt:FS 126 [.arr (dE T)] (.agg [mag (ofD MB T)]):=by
  have:=iv T (by omega);rwa[ju (b:=MB) (by decide) c.digT] at this
 have hblr:bl (ofD MB R)≤bl b+30:=by
  have h1:=c.top;rw[List.drop_zero] at h1;have X:=dJ (Nat.le_of_lt h1);omega
 have hov:=hrec hl2 (ofD MB R) s (by omega) (by omega) hblr;rw[hr] at hov;refine ae (r_d a6 11 ?_);refine c_s (hRt) ?_;refine c_s (hov) ?_;refine a_7 ?_;refine ao (n_k ?_);refine ae (r_d a6 5 ?_);refine c_s (hTt) ?_;refine a_3 ?_;refine ao (n_k ?_);refine ai (Fin.many ⟨_,_,rfl,⟨_,_,_,_,_,rfl,rfl,rfl,.inl ⟨TG.h,_,TS.h,nle rfl,rfl⟩⟩,_,_,rfl,⟨_,_,_,_,_,rfl,rfl,rfl,.inl ⟨TG.h,_,TS.h,nle rfl,rfl⟩⟩,rfl⟩ (nle rfl) ?_);rw[←hq];exact ah (am aD (aC (ac (b6 _) af))) (ah (am aD (aC (ac (b6 _) af))) av)
theorem len1{b:Nat}(hb:b< 1000000000):(aw MB b).length≤1:=fw (by decide) (by simpa using hb)
theorem sH(a b:Nat)(h:bl a+bl b≤4398046511104)(hb:0< b):FS 124 [.agg [mag a],.agg [mag b]] (.tup [.agg [mag (a/ b)],.agg [mag (a % b)]]):=
 zk a b (by omega) hb fun _ r s hs c e=>zk r s (by have:=hZ (n:=s) (k:=30) (by omega);omega) hs fun d=>absurd d (by have:=len1 c;omega)
def nC(l:List Nat)(k:Nat):Option (List AV):=if k< l.length then some [i64 ((l.length- 1- k:Nat):Int),u32 (l.getD (l.length- 1- k) 0)] else none
theorem nw(l:List Nat)(hl:l.length≤281474976710656):GSpec Tryz.prog 161 [.aptr [[.arr (dE l)]] 0 0] (nC l):=by
 have d:Closed (.aptr [[.arr (dE l)]] 0 0):=j8 (fun e g c hc=>by simp at g;subst g;simp at hc;subst hc;exact cQ l);refine GSpec.enter Tryz.func161 rfl (by kernel_rfl) rfl rfl rfl ?_ ?_ rfl ?_;exact ac d af;intro k xs h;unfold nC at h;split at h;cases h;exact ac (ag _) (ac (ag _) af);cases h;intro b N E;refine GWp.seq ?_;refine GWp.lift ?_;refine r_m 4 ?_;refine a_z ?_;refine GWp.block ?_;refine GWp.loopS (fun m:Nat=>⟨[(0,.v (.func (.yield b) #[] #[])),(1,.aptr [[.arr (dE l)]] 0 0),(3,i64 ((m:Int)- 1))],[],1,19⟩) (fun m=>l.length- m) (fun m=>m) (fun m=>m≤l.length) l.length (Nat.le_refl _) (by simp) ?_ ?_;exact s_e [];intro m n;refine GWp.seq ?_;refine GWp.seq ?_;refine GWp.lift ?_;refine r_m 2 ?_;refine a_z ?_;refine GWp.cond rfl (fun h=>?_) (fun h=>?_)
 ·refine GWp.skip ?_
  have j:1≤m:=by have:=of_decide_eq_true h;omega
  obtain⟨x,f⟩:∃x,l[m- 1]?=some x:=⟨_,List.getElem?_eq_getElem (by omega)⟩;have a:(dE l)[((m:Int)- 1).toNat]?=some [u32 x]:=by rw[show((m:Int)- 1).toNat=m- 1 by omega];exact dD f
  refine GWp.seq ?_;refine GWp.block ?_;refine GWp.seq ?_;refine GWp.regY (fr2:=[(0,.v (.func (.yield b) #[] #[])),(1,.aptr [[.arr (dE l)]] 0 0),(3,i64 ((m:Int)- 1)),(11,.v (.func (.yield b) #[] #[])),(12,i64 ((m:Int)- 1)),(16,u32 x)]) (hp2:=[]) (nx2:=1) 6 rfl rfl rfl rfl rfl rfl ?_ rfl rfl rfl ?_ ?_ ?_;refine o_0 (.move rfl) ?_;refine o_0 (.move rfl) ?_
  first|refine aF (.load_l1 rfl rfl rfl TG.h rfl) rfl rfl ?_|refine aF (.load_a1 rfl rfl TG.h rfl) rfl rfl ?_
  refine o_0 (.move rfl) ?_;refine i_x a ?_;refine l_1 a ?_;refine ao ?_;exact s_y [] (fun hs=>dU) (fun hs=>kZ);rotate_left 2;intro i;refine o_0 (.un rfl lM) ?_;refine ao ?_;rotate_left;unfold nC;rw[if_pos (by omega)];simp only[List.map_cons,List.map_nil,coe,i64,u32,Option.some.injEq,List.cons.injEq,AV.v.injEq,Value.int.injEq,true_and,and_true];refine⟨by omega,?_⟩;rw[show l.length- 1- (l.length- m)=m- 1 by omega,List.getD_eq_getElem?_getD,f];rfl;exact ac (ag _) (ac (ag _) af);cases i with
  |false=>
   refine GWp.cond rfl (fun h=>?_) (fun h=>?_);exact GWp.ret ⟨.inr rfl,fun h=>by cases h⟩;cases h
  |true=>
   refine GWp.cond rfl (fun h=>?_) (fun h=>?_);cases h;refine GWp.skip ?_;refine GWp.lift ?_;refine r_m 3 ?_;refine a_z ?_;refine⟨rfl,m- 1,by omega,by omega,by omega,?_⟩;exact s_e []
 refine GWp.exit ⟨.inl rfl,fun _=>?_⟩;have:m=0:=by have:=of_decide_eq_false h;omega
 subst this;unfold nC;rw[if_neg (by omega)]
theorem nA(l:List Nat):FS 119 [.arr (dE l)] (.clos 161 [] [.aptr [[.arr (dE l)]] 0 0]):=by
 refine f_n Tryz.func119 ?_ ?_;exact ac (cQ l) af;refine r_z 2 ?_;refine r_z 2 ?_;refine ai (⟨.inr rfl,[_],⟨_,[],rfl,rfl,rfl⟩,?_⟩);exact Cv.clos av (ah (Cv.sealp aD rfl (fun _ _ h=>by cases h) (by simp) (az (ah (am aD (cQ l)) av))) av)
def wordS(n:Nat):Nat→AState
 |k=>⟨[(3,.lptr 1 0 0),(8,.clos 161 [] [.aptr [[.arr (dE (aw MB n))]] 0 0])],[(1,some ⟨155,1,[[u64 (ofD MB ((aw MB n).drop ((aw MB n).length- k)))]]⟩)],2,17⟩
theorem DY(n:Nat)(h:(aw MB n).length≤2):FS 165 [.agg [mag n]] (u64 n):=by
 have hb:=nA (aw MB n);have hg:=nw (aw MB n) (by omega);have f:Closed (.aptr [[.arr (dE (aw MB n))]] 0 0):=j8 (fun e o c hc=>by simp at o;subst o;simp at hc;subst hc;exact cQ _);have j:Closed (.clos 161 [] [.aptr [[.arr (dE (aw MB n))]] 0 0]):=aP af (ac f af);refine f_c Tryz.func165 ?_;refine r_z 2 ?_;refine r_z 2 ?_;refine ae (r_c 3 (hb) ?_);refine ao ?_;refine aG (fun _:Unit=>⟨[(3,.lptr 1 0 0)],[(1,some ⟨155,1,[[u64 n]]⟩)],2,17⟩) (fun _=>True) ?_ ?_;refine aj (AWp.rangeFunc (α:=Nat) (γ:=Empty) (aw MB n).length (wordS n) (fun k=>k) (fun k=>k≤(aw MB n).length) (fun e=>nomatch e) (fun _ e=>nomatch e) 0 rfl hg rfl rfl ?_ (fun _=>⟨rfl,rfl⟩) (fun e=>nomatch e) (Nat.zero_le _) rfl (fun _ h=>h) ?_ ?_ ?_ ?_ (fun _ e=>nomatch e));intro k xs a;unfold nC at a;split at a;cases a;rfl;cases a;rw[wordS.eq_1];have t:AV.v (.int .u64 0)=u64 ((ofD MB ((aw MB n).drop ((aw MB n).length- 0)):Nat):Int):=by simp[ofD,u64]
 exact s_t [(1,3)];exact ac f af
 ·intro l k xs p a
  unfold nC at a;split at a;rotate_left;cases a;rename_i hlt;cases a;obtain⟨x,g⟩:∃x,(aw MB n)[(aw MB n).length- 1- k]?=some x:=⟨_,List.getElem?_eq_getElem (by omega)⟩;have q:x< 1000000000:=cv (by decide) g;have i:(aw MB n).getD ((aw MB n).length- 1- k) 0=x:=by rw[List.getD_eq_getElem?_getD,g];rfl
  rw[i];have hv:=kF MB g;rw[show(aw MB n).length- 1- k+1=(aw MB n).length- k by omega] at hv
  have m:ofD MB ((aw MB n).drop ((aw MB n).length- k))< 1000000000:=by
   have h1:=fq (b:=MB) (l:=(aw MB n).drop ((aw MB n).length- k)) fun d s=>dI (by decide) n d (List.mem_of_mem_drop s);have r:((aw MB n).drop ((aw MB n).length- k)).length≤1:=by simp;omega
   exact Nat.lt_of_lt_of_le h1 (Nat.pow_le_pow_right (by decide) r)
  show AWp _ _ _ _ ⟨[(10,u32 x),(9,i64 ((aw MB n).length- 1- k:Nat)),(3,.lptr 1 0 0),(8,.clos 161 [] [.aptr [[.arr (dE (aw MB n))]] 0 0]),(1003,.lptr 1 0 0),(1008,.clos 161 [] [.aptr [[.arr (dE (aw MB n))]] 0 0])],[(1,some ⟨155,1,[[u64 (ofD MB ((aw MB n).drop ((aw MB n).length- k)))]]⟩)],2,17⟩;refine r_m 1 ?_;refine a_z ?_;refine aj (r_m 6 ?_);refine a_z ?_;refine⟨k+1,⟨by omega,rfl⟩,?_⟩;show SEntT _ ⟨[(1003,.lptr 1 0 0),(1008,.clos 161 [] [.aptr [[.arr (dE (aw MB n))]] 0 0])],[(1,some ⟨155,1,[[u64 (ofD MB ((aw MB n).drop ((aw MB n).length- (k+1))))]]⟩)],2,17⟩
  have h1:AV.v (.int .u64 ((ofD MB ((aw MB n).drop ((aw MB n).length- k)):Nat) * 1000000000+(x:Int)))=u64 ((ofD MB ((aw MB n).drop ((aw MB n).length- (k+1))):Nat):Int):=by
   rw[show(aw MB n).length- (k+1)=(aw MB n).length- 1- k by omega,hv];simp[u64];omega
  exact s_t []
 intro k p a;unfold nC at a;split at a;cases a;refine⟨(),trivial,?_⟩;rw[wordS.eq_1]
 have h1:ofD MB ((aw MB n).drop ((aw MB n).length- k))=n:=by
  rw[show(aw MB n).length- k=0 by omega,List.drop_zero,bt (by decide)]
 rw[h1];exact s_e [];rintro _ _;refine r_z 2 ?_;refine ai (aW rfl rfl (ag _))
def yw:Nat×Nat→AState
 |(p,q)=>⟨[(2,.lptr 1 0 0),(3,.lptr 2 0 0),(4,.lptr 3 0 0)],[(1,some ⟨32,1,[[mag p]]⟩),(2,some ⟨32,1,[[mag q]]⟩),(3,some ⟨32,1,[[.emp]]⟩)],4,43⟩
theorem jQ(p:Nat)(q:Nat):yw (p,q)=⟨[(2,.lptr 1 0 0),(3,.lptr 2 0 0),(4,.lptr 3 0 0)],[(1,some ⟨32,1,[[mag p]]⟩),(2,some ⟨32,1,[[mag q]]⟩),(3,some ⟨32,1,[[.emp]]⟩)],4,43⟩:=rfl
def FH:Nat×Nat→AState
 |(x,y)=>⟨[(4,.lptr 3 0 0),(5,u64 x),(6,u64 y)],[(3,some ⟨32,1,[[.emp]]⟩)],4,43⟩
theorem ql(x:Nat)(y:Nat):FH (x,y)=⟨[(4,.lptr 3 0 0),(5,u64 x),(6,u64 y)],[(3,some ⟨32,1,[[.emp]]⟩)],4,43⟩:=rfl
theorem zT(p q:Nat):Nat.gcd q (p % q)=Nat.gcd p q:=by
 rw[Nat.gcd_comm p q,Nat.gcd_rec q p,Nat.gcd_comm]
theorem C9{n:Nat}(h:(aw MB n).length≤2):n< 1000000000000000000:=by
 have h1:=fq (b:=MB) (dI (by decide) n);rw[bt (by decide)] at h1;exact Nat.lt_of_lt_of_le h1 (Nat.pow_le_pow_right (by decide) h)
theorem E9(a b:Nat)(h:bl a+bl b≤4398046511104):FS 122 [.agg [mag a],.agg [mag b]] (.agg [mag (Nat.gcd a b)]):=by
 refine f_c Tryz.func122 ?_;refine r_z 3 ?_;refine bi yw (fun x=>x.1=Nat.gcd a b) ?_ ?_;refine aj (aB yw (fun x=>x.2) (fun x=>Nat.gcd x.1 x.2=Nat.gcd a b∧bl x.1+bl x.2≤4398046511104) (a,b) ⟨rfl,h⟩ ?_ ?_);rw[jQ];exact s_e [];rintro⟨p,q⟩ ⟨hg,hb⟩;simp only at hg hb;rw[jQ];have r:=DX (aw MB q);refine ae (r_c 3 (r) ?_);refine a_z ?_;refine ap rfl (fun i=>?_) (fun i=>?_)
 have f:0< q:=by
  rcases Nat.eq_zero_or_pos q with e|e
  subst e;rw[ct] at i;simp at i;exact e
 refine ak (aj (bi (fun _:Unit=>⟨[(2,.lptr 1 0 0),(3,.lptr 2 0 0),(4,.lptr 3 0 0)],[(1,some ⟨32,1,[[mag p]]⟩),(2,some ⟨32,1,[[mag q]]⟩),(3,some ⟨32,1,[[.emp]]⟩)],4,43⟩) (fun _=>True) ?_ ?_));by_cases hl:(aw MB p).length≤2;by_cases hl2:(aw MB q).length≤2;have j:=C9 hl;have l:=C9 hl2;refine s_r 10 ?_;refine a_5 ?_
 first|refine y_g rfl (by simp;omega) (.fieldAddr_l rfl TF.h (by decide)) ?_|refine y_g rfl (by simp;omega) (.fieldAddr_a rfl TF.h (by decide)) ?_
 first|refine y_g rfl (by simp;omega) (.load_l1 rfl rfl rfl TG.h rfl) ?_|refine y_g rfl (by simp;omega) (.load_a1 rfl rfl TG.h rfl) ?_
 first|refine y_g rfl (by simp;omega) (.lenD rfl rfl rfl rfl te_30.h) ?_|refine y_g rfl (by simp;omega) (.lenI rfl rfl rfl rfl te_30.h) ?_|refine y_g rfl (by simp;omega) (.lenP rfl rfl rfl rfl te_30.h) ?_|refine y_g rfl (by simp;omega) (.lenC rfl rfl rfl rfl te_30.h) ?_|refine y_g rfl (by simp;omega) (.lenR rfl rfl rfl rfl te_30.h) ?_|refine y_g rfl (by simp;omega) (.len rfl rfl rfl rfl rfl te_30.h) ?_
 refine y_g rfl (by simp;omega) (.bin rfl rfl ic) ?_;refine o_0 (.pickT rfl (by simp;omega) rfl) ?_;refine ao ?_;refine ap rfl (fun h1=>?_) (fun h1=>?_);refine ae (r_d a6 6 ?_);refine c_s (DY p hl) ?_;refine c_s (DY q hl2) ?_;refine a_2 ?_;refine ao (n_k ?_);refine bi (fun x:Nat=>⟨[(4,.lptr 3 0 0),(5,u64 x)],[(3,some ⟨32,1,[[.emp]]⟩)],4,43⟩) (fun x=>x=Nat.gcd a b) ?_ ?_;refine aj (aB FH (fun x=>x.2) (fun x=>Nat.gcd x.1 x.2=Nat.gcd a b∧x.1< 1000000000000000000∧x.2< 1000000000000000000) (p,q) ⟨hg,j,l⟩ ?_ ?_);rw[ql];exact s_e [];rintro⟨x,y⟩ ⟨d,o,k⟩;simp only at d o k;rw[ql];refine ae (r_z 2 ?_);refine ap rfl (fun m=>?_) (fun m=>?_);have c:0< y:=by simp at m;omega
 refine ak (aj (r_d a6 6 ?_));refine a_6 ?_;refine ao (n_k ?_);refine⟨(y,x % y),Nat.mod_lt _ c,⟨(zT x y).trans d,k,Nat.lt_trans (Nat.mod_lt _ c) k⟩,?_⟩;rw[ql];exact s_e [];have c:y=0:=by simp at m;omega
 subst c;refine ay ⟨x,by simpa using d,?_⟩;exact s_e [];rintro x rfl
 have g:Nat.gcd a b< 18446744073709551616:=by
  rw[←hg];have h1:Nat.gcd p q≤q:=Nat.gcd_le_right _ f;omega
 refine r_c 3 (gd _ g) ?_;refine a_z ?_;exact ai (dA rfl rfl rfl TG.h TS.h (nle rfl) rfl (aC (ac (b6 _) af)));exact absurd h1 (by simp;omega);refine s_r 10 ?_;refine a_5 ?_
 first|refine y_g rfl (by simp;omega) (.fieldAddr_l rfl TF.h (by decide)) ?_|refine y_g rfl (by simp;omega) (.fieldAddr_a rfl TF.h (by decide)) ?_
 first|refine y_g rfl (by simp;omega) (.load_l1 rfl rfl rfl TG.h rfl) ?_|refine y_g rfl (by simp;omega) (.load_a1 rfl rfl TG.h rfl) ?_
 first|refine y_g rfl (by simp;omega) (.lenD rfl rfl rfl rfl te_30.h) ?_|refine y_g rfl (by simp;omega) (.lenI rfl rfl rfl rfl te_30.h) ?_|refine y_g rfl (by simp;omega) (.lenP rfl rfl rfl rfl te_30.h) ?_|refine y_g rfl (by simp;omega) (.lenC rfl rfl rfl rfl te_30.h) ?_|refine y_g rfl (by simp;omega) (.lenR rfl rfl rfl rfl te_30.h) ?_|refine y_g rfl (by simp;omega) (.len rfl rfl rfl rfl rfl te_30.h) ?_
 refine y_g rfl (by simp;omega) (.bin rfl rfl ic) ?_;refine o_0 (.pickT rfl (by simp;omega) rfl) ?_;refine ao ?_;refine ap rfl (fun h=>?_) (fun _=>ak ⟨(),trivial,?_⟩);exact absurd h (by simp;omega);exact s_e [];refine s_r 10 ?_;refine a_5 ?_;refine n_g rfl (by simp;omega) ?_;refine n_g rfl (by simp;omega) ?_;refine n_g rfl (by simp;omega) ?_;refine n_g rfl (by simp;omega) ?_;refine o_0 (.pickF rfl (by simp;omega) rfl) ?_;refine ao ?_;refine ap rfl (fun h=>?_) (fun _=>ak ⟨(),trivial,?_⟩);cases h;exact s_e [];rintro _ _;refine r_c 10 (sH p q hb f) ?_;refine a_z ?_;refine r_d a6 4 ?_;refine a_4 ?_;refine ao (n_k ?_);refine⟨(q,p % q),Nat.mod_lt _ f,⟨(zT p q).trans hg,?_⟩,?_⟩;have:=dJ (Nat.mod_le p q);simp only;omega;rw[jQ];exact s_e []
 have f:q=0:=by
  rcases Nat.eq_zero_or_pos q with e|e
  exact e
  have:(aw MB q).length≠0:=fun n=>by
   rw[List.length_eq_zero_iff] at n;have:=(iQ (b:=MB) (by decide)).1 n;omega
  simp[this] at i
 subst f;refine ay ⟨(p,0),?_,?_⟩;simpa using hg;rw[jQ];exact s_e [];rintro⟨p,q⟩ hp;simp only at hp;subst hp;rw[jQ];refine r_z 2 ?_;refine ai (dA rfl rfl rfl TG.h TS.h (nle rfl) rfl (aC (ac (b6 _) af)))
end Go.Proofs.YtdgbhlkabelmbaaGreatDoor
