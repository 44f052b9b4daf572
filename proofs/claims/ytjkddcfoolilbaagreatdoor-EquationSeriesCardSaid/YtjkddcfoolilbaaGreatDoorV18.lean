/- Part V18 of the proof. -/
import Derived.Test.YtjkddcfoolilbaaGreatDoorV17
set_option linter.all false
namespace Go.Proofs.YtjkddcfoolilbaaGreatDoor
open Go.Abs
set_option maxRecDepth 20000
set_option maxHeartbeats 1000000
theorem rs_{pre s t post:List Nat}{x e i:Nat}(he:e=pre.length)(hi:i=s.length):(pre++(s++x::t)++post)[e+i]?=some x:=by
 subst he hi;simp
theorem rr_{pre s t post:List Nat}{x v e i:Nat}(he:e=pre.length)(hi:i=s.length):(pre++(s++x::t)++post).set (e+i) v=pre++((s++[v])++t)++post:=by
 subst he hi;rw[List.append_assoc,List.set_append_right _ _ (by omega),List.append_assoc,show pre.length+s.length- pre.length=s.length by omega,List.set_append_right _ _ (by omega)];simp
def suS(V:List Nat)(A:List Nat)(pre:List Nat)(post:List Nat)(cap:Option Nat)(t:Nat):List Nat×Nat×Nat→AState
 |(s,c,q)=>⟨[(0,.lsl 0 pre.length A.length cap 1),(1,.arr (dE V)),(2,u64 t),(7,u64 c),(8,i64 q),(13,i64 s.length),(12,i64 A.length)],
  [(0,some ⟨204,1,dE (pre++(s++A.drop s.length)++post)⟩)],1,54⟩
structure SubI (V A:List Nat)(t:Nat)(x:List Nat×Nat×Nat):Prop where
 le:x.1.length≤A.length
 dig:∀d∈x.1,d< MB
 car:x.2.1< MB
 bor:x.2.2≤1
 fin:V.length< x.1.length→x.2.1=0
 val:ofD MB x.1+t* ofD MB (V.take x.1.length)=ofD MB (A.take x.1.length)+MB^ x.1.length* (x.2.2+x.2.1)
theorem nk_ (pre A post V:List Nat) (t D q:Nat) (cap:Option Nat) (hA:∀d∈A,d< MB) (hV:∀d∈V,d< MB) (ht:t< MB) (hlen:V.length< A.length) (hA2:A.length< 17592186044416) (hq:q≤1)
    (hD:D+t* ofD MB V=ofD MB A+MB^ A.length* q) (hD2:D< MB^ A.length):
    ESpec Tryz.prog 207 204 1 (dE (pre++A++post)) (dE (pre++padD MB A.length D++post)) pre.length A.length cap [.arr (dE V),u64 t] (.bool (q !=0)):=by
 have ht1:t< 1000000000:=ht;refine ESpec.enter Tryz.func207 rfl (by kernel_rfl) rfl rfl rfl ?_ ?_ ?_ rfl ?_;exact aa_ (bl_ _) (aa_ (ad_ _) ac_);exact aZ_ _;exact aZ_ _;refine r_z 1 ?_;refine r_z 2 ?_;refine ab_ (r_z 3 ?_);refine aw_ (suS V A pre post cap t) (fun x=>SubI V A t x∧x.1.length=A.length) ?_ ?_;refine ae_ (aq_ (suS V A pre post cap t) (fun x=>A.length- x.1.length) (SubI V A t) ([],0,0) ⟨by simp,by simp,(show 0< MB by decide),by simp,by simp,by simp[ofD]⟩ ?_ ?_);rw[suS.eq_1];exact s_e [];rintro⟨s,c,β⟩ ⟨hle,hdig,hcar,hbor,hfin,hval⟩;simp only at hle hdig hcar hbor hfin hval;have hc1:c< 1000000000:=hcar;rw[suS.eq_1];refine r_z 1 ?_;refine ab_ (aj_ rfl (fun h=>?_) (fun h=>?_));have hlt:s.length< A.length:=by have:=of_decide_eq_true h;omega
 obtain⟨x,hx⟩:∃x,A[s.length]?=some x:=⟨_,List.getElem?_eq_getElem hlt⟩;have hx1:x< 1000000000:=hA x (List.mem_of_getElem? hx)
 have hg:(dE (pre++(s++A.drop s.length)++post))[pre.length+((s.length:Nat):Int).toNat]?=some [u32 x]:=by
  rw[Int.toNat_natCast,db_ hx];exact cc_ (rs_ rfl rfl)
 have hset:∀w:Nat,(dE (pre++(s++A.drop s.length)++post)).set (pre.length+((s.length:Nat):Int).toNat) [u32 w]=dE (pre++((s++[w])++A.drop (s++[w]).length)++post):=by
  intro w;rw[Int.toNat_natCast,db_ hx,ef_,rr_ rfl rfl];simp
 refine ah_ (ab_ (ae_ (r_z 2 ?_)));refine ab_ (r_z 4 ?_)
 refine aw_ (fun v:Nat=>⟨[(0,.lsl 0 pre.length A.length cap 1),(1,.arr (dE V)),(2,u64 t),(7,u64 v),(8,i64 β),(9,i64 s.length),(13,i64 s.length),(12,i64 A.length)],
  [(0,some ⟨204,1,dE (pre++(s++A.drop s.length)++post)⟩)],1,54⟩)
  (fun v=>v=c+t* (V[s.length]?.getD 0)∧v≤999999999+999999999* 999999999∧(V.length≤s.length→v=c)) ?_ ?_
 refine aj_ rfl (fun h=>?_) (fun h=>?_);have hlt2:s.length< V.length:=by have:=of_decide_eq_true h;simp at this;omega
 obtain⟨y,hy⟩:∃y,V[s.length]?=some y:=⟨_,List.getElem?_eq_getElem hlt2⟩;have hy1:y< 1000000000:=hV y (List.mem_of_getElem? hy);have hy':(dE V)[((s.length:Nat):Int).toNat]?=some [u32 y]:=cc_ hy;have hxy0:t* y≤999999999* 999999999:=Nat.mul_le_mul (by omega) (by omega);have hxyn:0≤(t:Int) * y:=Int.mul_nonneg (by omega) (by omega);have hxyi:(t:Int) * y=((t* y:Nat):Int):=(Int.natCast_mul _ _).symm;refine r_m 10 ?_;refine a_4 ?_;refine i_x hy' ?_;refine l_1 hy' ?_;refine a_z ?_;refine⟨c+t* y,⟨by rw[hy];rfl,by omega,fun h=>absurd h (by omega)⟩,?_⟩;have hI:(c:Int)+(t:Int) * y=((c+t* y:Nat):Int):=by omega
 have:=(congrArg (fun z=>AV.v (.int .u64 z)) hI);exact s_f [];have hlt2:¬s.length< V.length:=by have:=of_decide_eq_false h;simp at this;omega
 refine ah_ ⟨c,⟨by rw[List.getElem?_eq_none (by omega)];simp,by omega,fun _=>rfl⟩,?_⟩;exact s_e [];rintro v ⟨hv,hv1,hv2⟩;refine s_r 12 ?_;refine a_2 ?_
 first|refine aA_ (.index_l rfl rfl (by omega) (by omega) te_40.h) rfl rfl ?_|refine aA_ (.index_a rfl rfl (by omega) hg rfl te_40.h) rfl rfl ?_
 first|refine aA_ (.load_l1 rfl rfl hg TG.h rfl) rfl rfl ?_|refine aA_ (.load_a1 rfl hg TG.h rfl) rfl rfl ?_
 refine a_z ?_;refine r_z 3 ?_;refine r_z 1 ?_;refine ab_ (r_z 2 ?_)
 have hnext:∀w q',w+v % 1000000000+β=x+1000000000* q'→w< 1000000000→q'≤1→SubI V A t (s++[w],v/ 1000000000,q'):=by
  intro w q' hw hwb hq';refine⟨by simp;omega,?_,?_,hq',?_,?_⟩;intro d hd;rcases List.mem_append.1 hd with hd|hd
  exact hdig d hd;simp at hd;subst hd;exact hwb;show v/ 1000000000< 1000000000;omega;intro hl;simp at hl;have:=hv2 (by omega);simp only;omega;simp only[List.length_append,List.length_singleton];rw[dI_,bk_ _ hx,cn_,Nat.pow_succ];have e:MB^ s.length* (w+v % 1000000000+β+1000000000* (v/ 1000000000))=MB^ s.length* (x+MB* q'+MB* (v/ 1000000000)):=by rw[hw]
  have e2:w+v % 1000000000+β+1000000000* (v/ 1000000000)=w+β+(c+t* (V[s.length]?.getD 0)):=by rw[←hv];have:=Nat.mod_add_div v 1000000000;omega
  rw[e2] at e;have e3:t* (ofD MB (V.take s.length)+MB^ s.length* (V[s.length]?.getD 0))=t* ofD MB (V.take s.length)+MB^ s.length* (t* (V[s.length]?.getD 0)):=by rw[Nat.mul_add,Nat.mul_left_comm]
  rw[e3];have e4:MB^ s.length* MB* (q'+v/ 1000000000)=MB^ s.length* (MB* q')+MB^ s.length* (MB* (v/ 1000000000)):=by rw[Nat.mul_assoc,Nat.mul_add,Nat.mul_add]
  rw[e4];simp only[Nat.mul_add] at e hval⊢;omega
 refine aj_ rfl (fun h=>?_) (fun h=>?_);have hb:(x:Int)- v % 1000000000- β< 0:=by have:=of_decide_eq_true h;omega
 have hI:(x:Int)- (v:Int) % 1000000000- β+1000000000=((x+1000000000- v % 1000000000- β:Nat):Int):=by omega
 refine r_m 4 ?_;refine a_z ?_;refine r_m 6 ?_;refine a_4 ?_
 first|refine aA_ (.index_l rfl rfl (by omega) (by omega) te_40.h) rfl rfl ?_|refine aA_ (.index_a rfl rfl (by omega) (by omega) rfl te_40.h) rfl rfl ?_
 refine o_1n (.store rfl rfl hg rfl rfl rfl TS.h (nle rfl)) ?_;refine al_ ?_;refine r_m 2 ?_;refine a_z ?_;refine⟨(s++[x+1000000000- v % 1000000000- β],v/ 1000000000,1),by simp;omega,hnext _ _ (by omega) (by omega) (Nat.le_refl _),?_⟩;rw[suS.eq_1];exact s_x [] (fun hs=>au_f) (fun hs=>e_14);have hb:¬(x:Int)- v % 1000000000- β< 0:=by have:=of_decide_eq_false h;omega
 have hI:(x:Int)- (v:Int) % 1000000000- β=((x- v % 1000000000- β:Nat):Int):=by omega
 refine ah_ (r_m 6 ?_);refine a_3 ?_;refine o_0 (.conv rfl (cU32 (by omega) tu_2.h tu_204.h)) ?_;refine a_1 ?_;refine o_1n (.store rfl rfl hg rfl rfl rfl TS.h (nle rfl)) ?_;refine al_ ?_;refine r_m 2 ?_;refine a_z ?_;refine⟨(s++[x- v % 1000000000- β],v/ 1000000000,0),by simp;omega,hnext _ _ (by omega) (by omega) (by omega),?_⟩;rw[suS.eq_1];exact s_x [] (fun hs=>au_f) (fun hs=>e_14);have hl:s.length=A.length:=by have:=of_decide_eq_false h;omega
 refine ao_ ⟨(s,c,β),⟨⟨hle,hdig,hcar,hbor,hfin,hval⟩,hl⟩,?_⟩;rw[suS.eq_1];exact s_e [];rintro⟨s,c,β⟩ ⟨⟨hle,hdig,hcar,hbor,hfin,hval⟩,hl⟩;simp only at hle hdig hcar hbor hfin hval hl;have hc0:=hfin (by omega);subst hc0;rw[hl,List.take_length,List.take_of_length_le (by omega),Nat.add_zero] at hval;have hs1:=dx_ hdig;rw[hl] at hs1;have hpos:0< MB^ A.length:=Nat.pow_pos (by decide)
 have hqq:β=q∧ofD MB s=D:=by
  rcases Nat.le_one_iff_eq_zero_or_eq_one.1 hq with rfl|rfl <;> rcases Nat.le_one_iff_eq_zero_or_eq_one.1 hbor with rfl|rfl <;> constructor <;> omega
 obtain⟨rfl,rfl⟩:=hqq;rw[suS.eq_1];refine r_z 3 ?_;refine af_ (FinE.tmp rfl ?_ rfl ?_);congr 2;rw[Bool.eq_iff_iff];simp;rw[hl,List.drop_length,List.append_nil,←nm_ hdig hl rfl]
def gbS(V:List Nat)(A:List Nat)(pre:List Nat)(post:List Nat)(cap:Option Nat):List Nat×Nat→AState
 |(s,c)=>⟨[(0,.lsl 0 pre.length A.length cap 1),(1,.arr (dE V)),(5,u32 c),(10,i64 s.length),(9,i64 A.length)],
  [(0,some ⟨204,1,dE (pre++(s++A.drop s.length)++post)⟩)],1,40⟩
structure GiveI (V A:List Nat)(x:List Nat×Nat):Prop where
 le:x.1.length≤A.length
 dig:∀d∈x.1,d< MB
 car:x.2≤1
 val:ofD MB x.1+MB^ x.1.length* x.2=ofD MB (A.take x.1.length)+ofD MB (V.take x.1.length)
theorem nl_ (pre A post V:List Nat) (D q:Nat) (cap:Option Nat) (hA:∀d∈A,d< MB) (hV:∀d∈V,d< MB) (hlen:V.length≤A.length) (hA2:A.length< 17592186044416) (hq:q≤1)
    (hD:D+MB^ A.length* q=ofD MB A+ofD MB V) (hD2:D< MB^ A.length):
    ESpec Tryz.prog 208 204 1 (dE (pre++A++post)) (dE (pre++padD MB A.length D++post)) pre.length A.length cap [.arr (dE V)] (.bool (q !=0)):=by
 refine ESpec.enter Tryz.func208 rfl (by kernel_rfl) rfl rfl rfl ?_ ?_ ?_ rfl ?_;exact aa_ (bl_ _) ac_;exact aZ_ _;exact aZ_ _;refine r_z 1 ?_;refine r_z 1 ?_;refine ab_ (r_z 3 ?_);refine aw_ (gbS V A pre post cap) (fun x=>GiveI V A x∧x.1.length=A.length) ?_ ?_;refine ae_ (aq_ (gbS V A pre post cap) (fun x=>A.length- x.1.length) (GiveI V A) ([],0) ⟨by simp,by simp,by simp,by simp[ofD]⟩ ?_ ?_);rw[gbS.eq_1];exact s_e [];rintro⟨s,c⟩ ⟨hle,hdig,hcar,hval⟩;simp only at hle hdig hcar hval;rw[gbS.eq_1];refine r_z 1 ?_;refine ab_ (aj_ rfl (fun h=>?_) (fun h=>?_));have hlt:s.length< A.length:=by have:=of_decide_eq_true h;omega
 obtain⟨x,hx⟩:∃x,A[s.length]?=some x:=⟨_,List.getElem?_eq_getElem hlt⟩;have hx1:x< 1000000000:=hA x (List.mem_of_getElem? hx)
 have hg:(dE (pre++(s++A.drop s.length)++post))[pre.length+((s.length:Nat):Int).toNat]?=some [u32 x]:=by
  rw[Int.toNat_natCast,db_ hx];exact cc_ (rs_ rfl rfl)
 have hset:∀w:Nat,(dE (pre++(s++A.drop s.length)++post)).set (pre.length+((s.length:Nat):Int).toNat) [u32 w]=dE (pre++((s++[w])++A.drop (s++[w]).length)++post):=by
  intro w;rw[Int.toNat_natCast,db_ hx,ef_,rr_ rfl rfl];simp
 refine ah_ (ab_ (ae_ (r_z 2 ?_)));refine s_r 7 ?_;refine a_2 ?_
 first|refine aA_ (.index_l rfl rfl (by omega) (by omega) te_40.h) rfl rfl ?_|refine aA_ (.index_a rfl rfl (by omega) hg rfl te_40.h) rfl rfl ?_
 first|refine aA_ (.load_l1 rfl rfl hg TG.h rfl) rfl rfl ?_|refine aA_ (.load_a1 rfl hg TG.h rfl) rfl rfl ?_
 refine a_z ?_;refine ab_ (r_z 4 ?_)
 refine aw_ (fun v:Nat=>⟨[(0,.lsl 0 pre.length A.length cap 1),(1,.arr (dE V)),(5,u32 c),(7,u32 v),(6,i64 s.length),(10,i64 s.length),(9,i64 A.length)],
  [(0,some ⟨204,1,dE (pre++(s++A.drop s.length)++post)⟩)],1,40⟩)
  (fun v=>v=x+c+(V[s.length]?.getD 0)∧v≤1999999999) ?_ ?_
 refine aj_ rfl (fun h=>?_) (fun h=>?_);have hlt2:s.length< V.length:=by have:=of_decide_eq_true h;simp at this;omega
 obtain⟨y,hy⟩:∃y,V[s.length]?=some y:=⟨_,List.getElem?_eq_getElem hlt2⟩;have hy1:y< 1000000000:=hV y (List.mem_of_getElem? hy);have hy':(dE V)[((s.length:Nat):Int).toNat]?=some [u32 y]:=cc_ hy;refine r_m 7 ?_;refine a_3 ?_;refine i_x hy' ?_;refine l_1 hy' ?_;refine a_z ?_;refine⟨x+c+y,⟨by rw[hy];rfl,by omega⟩,?_⟩;exact s_e [];have hlt2:¬s.length< V.length:=by have:=of_decide_eq_false h;simp at this;omega
 refine ah_ ⟨x+c,⟨by rw[List.getElem?_eq_none (by omega)];rfl,by omega⟩,?_⟩;exact s_e [];rintro v ⟨hv,hv1⟩;refine r_z 1 ?_;refine ab_ (r_z 2 ?_)
 have hnext:∀w c',w+1000000000* c'=v→w< 1000000000→c'≤1→GiveI V A (s++[w],c'):=by
  intro w c' hw hwb hc';refine⟨by simp;omega,?_,hc',?_⟩;intro d hd;rcases List.mem_append.1 hd with hd|hd
  exact hdig d hd;simp at hd;subst hd;exact hwb;simp only[List.length_append,List.length_singleton];rw[dI_,bk_ _ hx,cn_,Nat.pow_succ];have e:MB^ s.length* (w+MB* c')=MB^ s.length* (x+c+(V[s.length]?.getD 0)):=by rw[←hv,←hw]
  simp only[Nat.mul_add] at e;rw[←Nat.mul_assoc] at e;omega
 refine aj_ rfl (fun h=>?_) (fun h=>?_);have hb:1000000000≤v:=by have:=of_decide_eq_true h;omega
 have hI:(v:Int)- 1000000000=((v- 1000000000:Nat):Int):=by omega
 refine r_m 4 ?_;refine a_z ?_;refine r_m 5 ?_;refine a_4 ?_;refine o_1n (.store rfl rfl hg rfl rfl rfl TS.h (nle rfl)) ?_;refine al_ ?_;refine r_m 2 ?_;refine a_z ?_;refine⟨(s++[v- 1000000000],1),by simp;omega,hnext _ _ (by omega) (by omega) (Nat.le_refl _),?_⟩;rw[gbS.eq_1];exact s_x [] (fun hs=>au_f) (fun hs=>e_14);have hb:v< 1000000000:=by have:=of_decide_eq_false h;omega
 refine ah_ (r_m 5 ?_);refine a_4 ?_;refine o_1n (.store rfl rfl hg rfl rfl rfl TS.h (nle rfl)) ?_;refine al_ ?_;refine r_m 2 ?_;refine a_z ?_;refine⟨(s++[v],0),by simp;omega,hnext _ _ (by omega) (by omega) (by omega),?_⟩;rw[gbS.eq_1];exact s_x [] (fun hs=>au_f) (fun hs=>e_21);have hl:s.length=A.length:=by have:=of_decide_eq_false h;omega
 refine ao_ ⟨(s,c),⟨⟨hle,hdig,hcar,hval⟩,hl⟩,?_⟩;rw[gbS.eq_1];exact s_e [];rintro⟨s,c⟩ ⟨⟨hle,hdig,hcar,hval⟩,hl⟩;simp only at hle hdig hcar hval hl;rw[hl,List.take_length,List.take_of_length_le (by omega)] at hval;have hs1:=dx_ hdig;rw[hl] at hs1;have hpos:0< MB^ A.length:=Nat.pow_pos (by decide)
 have hqq:c=q∧ofD MB s=D:=by
  rcases Nat.le_one_iff_eq_zero_or_eq_one.1 hq with rfl|rfl <;> rcases Nat.le_one_iff_eq_zero_or_eq_one.1 hcar with rfl|rfl <;> constructor <;> omega
 obtain⟨rfl,rfl⟩:=hqq;rw[gbS.eq_1];refine r_z 3 ?_;refine af_ (FinE.tmp rfl ?_ rfl ?_);congr 2;rw[Bool.eq_iff_iff];simp;rw[hl,List.drop_length,List.append_nil,←nm_ hdig hl rfl]
def ovS(s:Nat)(V:List Nat)(L:Nat):List Nat×List Nat×Nat→AState
 |(R,T,k)=>⟨[(4,.lptr 1 0 0),(5,.lptr 2 0 0),(6,.lptr 3 0 0),(7,.arr (dE V)),(8,i64 V.length),(9,.lsl 4 0 L (some L) 1),(10,.lsl 5 0 (L- V.length) (some (L- V.length)) 1),(11,i64 ((k:Int)- 1))],
  [(1,some ⟨42,1,[[.emp]]⟩),(2,some ⟨42,1,[[.emp]]⟩),(3,some ⟨42,1,[[mag s]]⟩),(4,some ⟨204,1,dE R⟩),(5,some ⟨204,1,dE (List.replicate k 0++T)⟩)],6,142⟩
def ovM(s:Nat)(V:List Nat)(L:Nat)(T:List Nat)(pre:List Nat)(post:List Nat)(j:Nat)(n:Nat):List Nat×Nat×Bool→AState
 |(A,g,made)=>⟨[(4,.lptr 1 0 0),(5,.lptr 2 0 0),(6,.lptr 3 0 0),(7,.arr (dE V)),(8,i64 V.length),(9,.lsl 4 0 L (some L) 1),(10,.lsl 5 0 (L- V.length) (some (L- V.length)) 1),(11,i64 (((j+1:Nat):Int)- 1)),(13,u64 g),(14,.lsl 4 j n (some n) 1),(15,bln made)],
  [(1,some ⟨42,1,[[.emp]]⟩),(2,some ⟨42,1,[[.emp]]⟩),(3,some ⟨42,1,[[mag s]]⟩),(4,some ⟨204,1,dE (pre++A++post)⟩),(5,some ⟨204,1,dE (List.replicate (j+1) 0++T)⟩)],6,142⟩
theorem oj_ (a b:Nat) (h:bl a+bl b≤8796093022208) (hb:0< b)
    (hrec:2≤(digs MB b).length→∀r s,0< s→s< 1000000000→bl r≤bl b+30→FS 166 [.agg [mag r],.agg [mag s]] (.tup [.agg [mag (r/ s)],.agg [mag (r % s)]])):
    FS 166 [.agg [mag a],.agg [mag b]] (.tup [.agg [mag (a/ b)],.agg [mag (a % b)]]):=by
 have hla:=aT_ (b:=MB) (by decide) a;have hlb:=aT_ (b:=MB) (by decide) b;have va:=aV_ (b:=MB) (by decide) a;have vb:=aV_ (b:=MB) (by decide) b;refine f_c Tryz.func166 ?_;refine r_z 4 ?_;refine ab_ (ae_ (r_c 5 (gX_ a b (by omega)) ?_));refine a_z ?_;refine aj_ rfl (fun h=>?_) (fun h=>?_)
 have hlt:a< b:=by
  have h1:=of_decide_eq_true h;unfold cmpZ at h1;split at h1;omega;split at h1 <;> omega
 refine ab_ (r_d hmix 4 ?_);refine a_4 ?_;refine al_ (n_k ?_);refine af_ ?_;rw[Nat.div_eq_of_lt hlt,Nat.mod_eq_of_lt hlt];refine Fin.many ⟨_,_,rfl,⟨_,_,_,_,_,rfl,rfl,rfl,.inl ⟨TG.h,_,TS.h,nle rfl,rfl⟩⟩,_,_,rfl,⟨_,_,_,_,_,rfl,rfl,rfl,.inl ⟨TG.h,_,TS.h,nle rfl,rfl⟩⟩,rfl⟩ (nle rfl) ?_;refine ai_ (Cv.agg (ai_ (Cv.emp _ ?_) an_)) (ai_ (ak_ ax_ (ay_ (aa_ (a5_ a) ac_))) an_);unfold mag;rw[bb_];rfl
 have hge:b≤a:=by
  have h1:=of_decide_eq_false h;refine Nat.le_of_not_lt fun hlt=>h1 ?_;rw[gc_ (by omega)];decide
 refine r_z 5 ?_;refine aj_ rfl (fun h2=>?_) (fun h2=>?_);have hl1:(digs MB b).length=1:=by simp at h2;omega
 have hbm:b< 1000000000:=by
  have:=dx_ (b:=MB) (bT_ (by decide) b);rw[vb,hl1] at this;simpa using this
 have hg:(dE (digs MB b))[(0:Int).toNat]?=some [u32 b]:=by rw[p4_ hb hbm];rfl
 refine ab_ (r_d hmix 10 ?_);refine a_3 ?_;refine i_x hg ?_;refine l_1 hg ?_;refine c_s (rV_ a b (by omega) hb (by omega)) ?_;refine a_4 ?_;refine al_ (n_k ?_);refine af_ (Fin.many ⟨_,_,rfl,⟨_,_,_,_,_,rfl,rfl,rfl,.inl ⟨TG.h,_,TS.h,nle rfl,rfl⟩⟩,_,_,rfl,⟨_,_,_,_,_,rfl,rfl,rfl,.inl ⟨TG.h,_,TS.h,nle rfl,rfl⟩⟩,rfl⟩ (nle rfl) ?_);exact ai_ (ak_ ax_ (ay_ (aa_ (a5_ _) ac_))) (ai_ (ak_ ax_ (ay_ (aa_ (a5_ _) ac_))) an_)
 have hl2:2≤(digs MB b).length:=by
  have h1:¬(digs MB b).length=1:=by simp at h2;omega
  have h0:(digs MB b).length≠0:=fun e=>by
   rw[List.length_eq_zero_iff] at e;have:=(cY_ (b:=MB) (by decide)).1 e;omega
  omega
 refine ah_ ?_
 -- the leading digit,the factor
 obtain⟨vt,hvt⟩:∃d,(digs MB b)[(digs MB b).length- 1]?=some d:=⟨_,List.getElem?_eq_getElem (by omega)⟩;have hvt1:vt< 1000000000:=be_ (by decide) hvt
 have hvt0:1≤vt:=by
  have:=ji_ (b:=MB) (by decide) b;rw[List.getLast?_eq_getElem?,hvt] at this;simp at this;omega
 have hvt':(dE (digs MB b))[(((digs MB b).length:Int)- 1).toNat]?=some [u32 vt]:=by rw[show(((digs MB b).length:Int)- 1).toNat=(digs MB b).length- 1 by omega];exact cc_ hvt
 obtain⟨sc1,sc2,sc3⟩:=qM_ hvt0 hvt1;have hsI:(1000000000:Int) / ((vt:Int)+1)=((1000000000/ (vt+1):Nat):Int):=by rw[show((vt:Int)+1)=((vt+1:Nat):Int) by omega];exact(Int.natCast_ediv _ _).symm
 have hs9:1000000000/ (vt+1)≤500000000:=by
  have:1000000000/ (vt+1)≤1000000000/ 2:=Nat.div_le_div_left (by omega) (by omega);omega
 obtain⟨s,hs⟩:∃s,s=1000000000/ (vt+1):=⟨_,rfl⟩;rw[←hs] at sc1 sc2 sc3 hsI hs9;have hsm:FS 146 [.v (.int .u64 ((1000000000:Int) / ((vt:Int)+1)))] (.agg [mag s]):=by rw[hsI];exact do_ s (by omega)
 have hbls:bl s≤30:=bl_le (by omega);have hbs:=ey_ b s;have has:=ey_ a s;refine s_r 14 ?_;refine a_6 ?_;refine i_x hvt' ?_;refine l_1 hvt' ?_;refine a_1 ?_;refine o_0 (.bin rfl rfl (ph_ (by omega))) ?_;refine o_0 (.conv rfl (cU64 (by rw[hsI];omega) tu_204.h tu_205.h)) ?_;refine c_s (hsm) ?_;refine a_z ?_;obtain⟨k,hk⟩:∃k,(digs MB b).length=k+1:=⟨(digs MB b).length- 1,by omega⟩;obtain⟨hVl,hb1,hv2,v1,lw,hv1,hvw,hlw,hv500,hv1b⟩:=p2_ (s:=s) hk (by rw[hk] at hvt;exact hvt) hvt0 sc1 sc2;have hv1':(dE (digs MB (b* s)))[(((digs MB (b* s)).length:Int)- 1).toNat]?=some [u32 v1]:=by rw[show(((digs MB (b* s)).length:Int)- 1).toNat=k by omega];exact cc_ hv1
 have hab:=os_ (b:=MB) (by decide) hge
 have hU1:a* s< MB^ (digs MB a).length* s:=by
  have:=dx_ (b:=MB) (bT_ (by decide) a);rw[va] at this;exact Nat.mul_lt_mul_of_pos_right this sc3
 have hUl:(digs MB (a* s)).length≤(digs MB a).length+1:=by
  refine co_ (by decide) ?_;rw[Nat.pow_succ];have:MB^ (digs MB a).length* s≤MB^ (digs MB a).length* MB:=Nat.mul_le_mul_left _ (by show s≤1000000000;omega);omega
 have hcp:setAt (List.replicate ((digs MB a).length+1) [ofV (Value.int IntKind.u32 0)]) 0 (List.take (Nat.min (dE (digs MB (a* s))).length ((digs MB a).length+1)) (dE (digs MB (a* s))))=dE (padD MB ((digs MB a).length+1) (a* s)):=by
  rw[List.take_of_length_le (by rw[gH_];exact Nat.le_min.2 ⟨Nat.le_refl _,hUl⟩),mT_ (by rw[gH_,List.length_replicate];exact hUl)];rw[←nm_ (l:=digs MB (a* s)++List.replicate ((digs MB a).length+1- (digs MB (a* s)).length) 0) ?_ ?_ ?_];rw[ff_,←dz_];simp[u32,ofV];intro d hd;rcases List.mem_append.1 hd with hd|hd
  exact bT_ (by decide) _ d hd;simp at hd;rw[hd.2];decide;simp;omega;rw[dg_,iC_,aV_ (by decide)];simp
 refine r_c 5 (dn_ b s (by omega)) ?_;refine a_z ?_;refine r_z 3 ?_;have hL0:((digs MB a).length:Int)+1=(((digs MB a).length+1:Nat):Int):=by omega
 refine s_r 6 ?_;refine a_4 ?_;refine o_1 (.makeSlice (congrArg (fun z=>some (AV.v (.int .i64 z))) hL0) (congrArg (fun z=>some (AV.v (.int .i64 z))) hL0) te_40.h TZ.h rfl TB.h (by first|omega|(simp;done)|(simp;omega)) (by first|omega|(simp;done)|(simp;omega)) (by unfold maxLen;first|omega|(simp;done)|(simp;omega))) ?_;refine a_z ?_;refine r_c 6 (dn_ a s (by omega)) ?_;refine a_1 ?_;refine o_1 (.copy rfl rfl rfl te_40.h rfl rfl rfl (by first|(simp;done)|(simp;omega)) (by first|exact cU_ _|exact cT_ _|exact ci_ _|exact cV_ _|exact cD_ _|rfl|simp) rfl (.arr (nv_ _))) ?_;refine al_ ?_;have hLI:(((digs MB a).length+1:Nat):Int)- ((digs MB (b* s)).length:Nat)=(((digs MB a).length+1- (digs MB (b* s)).length:Nat):Int):=by omega
 refine s_r 6 ?_;refine a_4 ?_;refine o_1 (.makeSlice (congrArg (fun z=>some (AV.v (.int .i64 z))) hLI) (congrArg (fun z=>some (AV.v (.int .i64 z))) hLI) te_40.h TZ.h rfl TB.h (by first|omega|(simp;done)|(simp;omega)) (by first|omega|(simp;done)|(simp;omega)) (by unfold maxLen;first|omega|(simp;done)|(simp;omega))) ?_;refine a_z ?_;refine ab_ (r_z 4 ?_)
 have hst:DivI (a* s) (b* s) (k+1) ((digs MB a).length+1) (padD MB ((digs MB a).length+1) (a* s)) [] ((digs MB a).length+1- (k+1)):=by
  have hUL:a* s< MB^ ((digs MB a).length+1):=by
   rw[Nat.pow_succ];have:MB^ (digs MB a).length* s≤MB^ (digs MB a).length* MB:=Nat.mul_le_mul_left _ (by show s≤1000000000;omega);omega
  exact DivI.start (by simp) (ks_ (by decide) _ _) (h2_ (by decide) hUL) (by omega) (by simpa using hb1) (by omega) rfl (by simpa using hU1)
 refine aw_ (ovS s (digs MB (b* s)) ((digs MB a).length+1)) (fun x=>DivI (a* s) (b* s) (k+1) ((digs MB a).length+1) x.1 x.2.1 x.2.2∧x.2.2=0) ?_ ?_;refine ae_ (aq_ (ovS s (digs MB (b* s)) ((digs MB a).length+1)) (fun x=>x.2.2) (fun x=>DivI (a* s) (b* s) (k+1) ((digs MB a).length+1) x.1 x.2.1 x.2.2) (padD MB ((digs MB a).length+1) (a* s),[],(digs MB a).length+1- (digs MB (b* s)).length) (by rw[hVl];exact hst) ?_ ?_);rw[ovS.eq_1];exact s_x [(1,4),(2,5),(3,6),(4,9),(5,10)] (fun hs=>au_f) (fun hs=>e_23) e_22;rintro⟨R,T,j1⟩ hinv;simp only at hinv;rw[ovS.eq_1];refine ab_ (r_z 2 ?_);refine aj_ rfl (fun h3=>?_) (fun h3=>?_);have hj1:0< j1:=by have:=of_decide_eq_true h3;omega
 obtain⟨j,rfl⟩:∃j,j1=j+1:=⟨j1- 1,by omega⟩;have hRl:=hinv.len;have hkl:=hinv.k_le;obtain⟨p1,p2,p3,p4,p5⟩:=hinv.parts hv2;have hnext:=hinv.next hv2 (Nat.mul_pos hb sc3) rfl;obtain⟨A,hA⟩:∃A,A=(R.drop j).take (k+1+1):=⟨_,rfl⟩;obtain⟨pre,hpre⟩:∃x,x=R.take j:=⟨_,rfl⟩;obtain⟨post,hpost⟩:∃x,x=R.drop (j+(k+1)+1):=⟨_,rfl⟩;obtain⟨p,hp⟩:∃p,p=ofD MB (R.drop j):=⟨_,rfl⟩;have hprel:pre.length=j:=by rw[hpre];simp;omega
 rw[←hA,←hp] at p2;rw[←hp] at p3 hnext;rw[←hA] at p4;rw[←hA,←hpre,←hpost] at p5;rw[←hpre,←hpost] at hnext;have hAd:∀d∈A,d< MB:=fun d hd=>hinv.dig d (List.mem_of_mem_drop (List.mem_of_mem_take (by rw[hA] at hd;exact hd)));obtain⟨x0,hx0⟩:∃x,A[k]?=some x:=⟨_,List.getElem?_eq_getElem (by omega)⟩;obtain⟨x1,hx1⟩:∃x,A[k+1]?=some x:=⟨_,List.getElem?_eq_getElem (by omega)⟩;have hx0b:x0< 1000000000:=hAd x0 (List.mem_of_getElem? hx0);have hx1b:x1< 1000000000:=hAd x1 (List.mem_of_getElem? hx1);obtain⟨lo,hlo,hlob⟩:=part_two p4 hx0 hx1 hAd;rw[p2] at hlo;obtain⟨gu1,gu2⟩:=guess_ok (b:=MB) (by decide) hlo hlob hvw hlw (by show 1000000000≤2* v1;omega) hv1b p3
 have hgR:∀i x,A[i]?=some x→(dE R)[0+(j+i)]?=some [u32 x]:=by
  intro i x hx;rw[Nat.zero_add];refine cc_ ?_;rw[p5,List.append_assoc,List.getElem?_append_right (by omega),List.getElem?_append_left (by have:=(List.getElem?_eq_some_iff.1 hx).1;omega)];rw[show j+i- pre.length=i by omega];exact hx
 have hgN:(dE R)[0+((((j+1:Nat):Int)- 1)+((digs MB (b* s)).length:Nat)).toNat]?=some [u32 x1]:=by
  rw[show((((j+1:Nat):Int)- 1)+((digs MB (b* s)).length:Nat)).toNat=j+(k+1) by omega];exact hgR _ _ hx1
 have hgM:(dE R)[0+((((j+1:Nat):Int)- 1)+((digs MB (b* s)).length:Nat)- 1).toNat]?=some [u32 x0]:=by
  rw[show((((j+1:Nat):Int)- 1)+((digs MB (b* s)).length:Nat)- 1).toNat=j+k by omega];exact hgR _ _ hx0
 obtain⟨g,hg⟩:∃g,g=min ((x1* 1000000000+x0) / v1) 999999999:=⟨_,rfl⟩;have hg9:g≤999999999:=by rw[hg];exact Nat.min_le_right _ _
 have hgI:(if (999999999:Int)< ((x1:Int) * 1000000000+x0) / (v1:Int) then(999999999:Int) else((x1:Int) * 1000000000+x0) / (v1:Int))=(g:Int):=by
  have e1:((x1:Int) * 1000000000+x0) / (v1:Int)=(((x1* 1000000000+x0) / v1:Nat):Int):=by
   rw[show(x1:Int) * 1000000000+x0=((x1* 1000000000+x0:Nat):Int) by omega];exact(Int.natCast_ediv _ _).symm
  rw[e1,hg];generalize (x1* 1000000000+x0) / v1=Q;by_cases hQ:Q≤999999999;rw[if_neg (by omega),Nat.min_eq_left hQ];rw[if_pos (by omega),Nat.min_eq_right (by omega)];rfl
 rw[show MB- 1=999999999 from rfl,←hg] at gu1 gu2;refine ah_ (ab_ (ae_ (ab_ (r_d hmix 18 ?_))));refine a_5 ?_
 first|refine aA_ (.load_l1 rfl rfl hgN TG.h rfl) rfl rfl ?_|refine aA_ (.load_a1 rfl hgN TG.h rfl) rfl rfl ?_
 refine a_8 ?_
 first|refine aA_ (.load_l1 rfl rfl hgM TG.h rfl) rfl rfl ?_|refine aA_ (.load_a1 rfl hgM TG.h rfl) rfl rfl ?_
 refine a_3 ?_;refine al_ (n_k ?_);refine s_r 10 ?_;refine a_4 ?_;refine i_x hv1' ?_;refine l_1 hv1' ?_;refine a_z ?_;refine s_r 12 ?_;refine a_8 ?_;refine a_2 ?_;refine o_0 (.sl_lhm rfl rfl (l:=j) (by omega) rfl (h:=j+(k+1)+1) (by omega) rfl (m:=j+(k+1)+1) (by omega) (by omega) te_40.h) ?_;refine a_z ?_
 refine AWp.ent (st':=⟨[(4,.lptr 1 0 0),(5,.lptr 2 0 0),(6,.lptr 3 0 0),(7,.arr (dE (digs MB (b* s)))),(8,i64 (digs MB (b* s)).length),(9,.lsl 4 0 ((digs MB a).length+1) (some ((digs MB a).length+1)) 1),(10,.lsl 5 0 ((digs MB a).length+1- (digs MB (b* s)).length) (some ((digs MB a).length+1- (digs MB (b* s)).length)) 1),(11,i64 (((j+1:Nat):Int)- 1)),(13,u64 g),(14,.lsl 4 j (k+1+1) (some (k+1+1)) 1)],
  [(1,some ⟨42,1,[[.emp]]⟩),(2,some ⟨42,1,[[.emp]]⟩),(3,some ⟨42,1,[[mag s]]⟩),(4,some ⟨204,1,dE (pre++A++post)⟩),(5,some ⟨204,1,dE (List.replicate (j+1) 0++T)⟩)],6,142⟩) ?_ ?_
 refine s_x [] (fun hs=>?_) (fun hs=>?_) ?_
 ·repeat' (first|exact aH_|refine ap_ rfl ?_ ?_|exact Cv.loE hs (congrArg (fun z=>AV.v (.int .u64 z)) hgI) (ad_ _)|exact au_c)
 ·repeat' (first|exact az_|refine h_c ?_ ?_|exact aF_ hs (congrArg dE p5) (aZ_ _)|exact au_e|refine av_ ?_|exact an_|refine ai_ ?_ ?_|exact Cv.loE hs (congrArg (fun z=>AV.v (.int .u64 z)) hgI) (ad_ _)|exact au_c)
 ·repeat' (first|exact ShrL.nil|refine ShrL.cons rfl rfl rfl rfl (by first|(simp[←p5])|rfl|(simp;done)|(simp <;> omega)) ?_)
 have hV:=aV_ (b:=MB) (by decide) (b* s);have hVd:=bT_ (b:=MB) (by decide) (b* s)
 have hsub:∀D q,D+g* (b* s)=p+MB^ (k+1+1) * q→D< MB^ (k+1+1)→q≤1→ESpec Tryz.prog 207 204 1 (dE (pre++A++post)) (dE (pre++padD MB (k+1+1) D++post)) j (k+1+1) (some (k+1+1)) [.arr (dE (digs MB (b* s))),u64 g] (.bool (q !=0)):=by
  intro D q h1 h2 h3;have:=nk_ pre A post (digs MB (b* s)) g D q (some (k+1+1)) hAd hVd (Nat.lt_of_le_of_lt hg9 (by decide)) (by omega) (by omega) h3 (by rw[hV,p2,p4];exact h1) (by rw[p4];exact h2);rw[hprel,p4] at this;exact this
 have hgive:∀D D' q,D'+MB^ (k+1+1) * q=D+b* s→D< MB^ (k+1+1)→D'< MB^ (k+1+1)→q≤1→ESpec Tryz.prog 208 204 1 (dE (pre++padD MB (k+1+1) D++post)) (dE (pre++padD MB (k+1+1) D'++post)) j (k+1+1) (some (k+1+1)) [.arr (dE (digs MB (b* s)))] (.bool (q !=0)):=by
  intro D D' q h1 h2 h3 h4;have:=nl_ pre (padD MB (k+1+1) D) post (digs MB (b* s)) D' q (some (k+1+1)) (ks_ (by decide) _ _) hVd (by simp;omega) (by simp;omega) h4 (by rw[hV,eD_,h2_ (by decide) h2];exact h1) (by rw[eD_];exact h3);rw[hprel,eD_] at this;exact this
 have hvp:0< b* s:=Nat.mul_pos hb sc3;have m1:=Nat.mod_add_div p (b* s);have m2:=Nat.mod_lt p hvp
 have hBv:MB* (b* s)< MB^ (k+1+1):=by
  rw[Nat.pow_succ MB (k+1),Nat.mul_comm MB];exact Nat.mul_lt_mul_of_pos_right hv2 (by decide)
 have hgv:g* (b* s)≤MB* (b* s):=Nat.mul_le_mul_right _ (Nat.le_trans hg9 (by decide));obtain⟨W,hW⟩:∃W,W=MB^ (k+1+1):=⟨_,rfl⟩;simp only[←hW] at hsub hgive hBv
 have hvW:b* s< W:=by
  have:1* (b* s)≤MB* (b* s):=Nat.mul_le_mul_right _ (by decide);omega
 refine aP_ (fun _:Unit=>⟨[(4,.lptr 1 0 0),(5,.lptr 2 0 0),(6,.lptr 3 0 0),(7,.arr (dE (digs MB (b* s)))),(8,i64 (digs MB (b* s)).length),(9,.lsl 4 0 ((digs MB a).length+1) (some ((digs MB a).length+1)) 1),(10,.lsl 5 0 ((digs MB a).length+1- (digs MB (b* s)).length) (some ((digs MB a).length+1- (digs MB (b* s)).length)) 1),(11,i64 (((j+1:Nat):Int)- 1)),(13,u64 (p/ (b* s):Nat))],
  [(1,some ⟨42,1,[[.emp]]⟩),(2,some ⟨42,1,[[.emp]]⟩),(3,some ⟨42,1,[[mag s]]⟩),(4,some ⟨204,1,dE (pre++padD MB (k+1+1) (p % (b* s))++post)⟩),(5,some ⟨204,1,dE (List.replicate (j+1) 0++T)⟩)],6,142⟩) (fun _=>True) ?_ ?_
 by_cases hc:g* (b* s)≤p;have hgq:g=p/ (b* s):=Nat.le_antisymm ((Nat.le_div_iff_mul_le hvp).2 hc) gu1;have e1:p % (b* s)+g* (b* s)=p+W* 0:=by rw[hgq,Nat.mul_comm (p/ (b* s))];omega
 have hs1:=hsub (p % (b* s)) 0 e1 (by omega) (by omega);refine s_r 4 ?_;refine a_3 ?_;refine o_1 (.callE2 rfl rfl rfl rfl rfl rfl (hs1)) ?_;refine al_ ?_;refine cF (ah_ ⟨(),trivial,?_⟩);have hgI2:u64 g=u64 (p/ (b* s):Nat):=by rw[←hgq]
 exact s_f [];have hc1:p< g* (b* s):=by omega
 have e1:(p+W- g* (b* s))+g* (b* s)=p+W* 1:=by omega
 have hs1:=hsub (p+W- g* (b* s)) 1 e1 (by omega) (by omega)
 have hgt:p/ (b* s)< g:=by
  rw[Nat.div_lt_iff_lt_mul hvp];exact hc1
 refine s_r 4 ?_;refine a_3 ?_;refine o_1 (.callE2 rfl rfl rfl rfl rfl rfl (hs1)) ?_;refine al_ ?_;refine aj_ rfl (fun h4=>?_) (fun h4=>?_);refine r_z 1 ?_;refine ae_ ?_
 refine aq_ (ovM s (digs MB (b* s)) ((digs MB a).length+1) T pre post j (k+1+1)) (fun x=>if x.2.2 then 0 else x.2.1+1)
  (fun x=>(x.2.2=true∧x.2.1=p/ (b* s)∧x.1=padD MB (k+1+1) (p % (b* s)))∨(x.2.2=false∧p/ (b* s)< x.2.1∧x.2.1≤999999999∧∃D,x.1=padD MB (k+1+1) D∧D+x.2.1* (b* s)=p+W∧D< W))
  (padD MB (k+1+1) (p+W- g* (b* s)),g,false) (.inr ⟨rfl,hgt,hg9,_,rfl,by simp only;omega,by omega⟩) ?_ ?_
 rw[ovM.eq_1];exact s_e [];rintro⟨A',g',made⟩ hin;rw[ovM.eq_1];refine ab_ (r_z 2 ?_);refine aj_ rfl (fun h5=>?_) (fun h5=>?_);have hm:made=false:=by simpa using h5
 subst hm;rcases hin with⟨h6,_⟩|⟨_,h6,h7,D,h8,h9,h10⟩
 cases h6;simp only at h6 h7 h8 h9;subst h8;have hg0:1≤g':=Nat.lt_of_le_of_lt (Nat.zero_le _) h6;refine ah_ ?_;have hI:(g':Int)- 1=((g'- 1:Nat):Int):=by omega
 have hq1:b* s* (p/ (b* s))=p- p % (b* s):=by omega
 by_cases hlast:g'=p/ (b* s)+1
 have e2:p % (b* s)+W* 1=D+b* s:=by
  rw[hlast,Nat.add_mul,Nat.one_mul,Nat.mul_comm (p/ (b* s))] at h9;omega
 have hg1:=hgive D (p % (b* s)) 1 e2 h10 (by omega) (by omega);refine ab_ (ae_ (r_m 4 ?_));refine a_2 ?_;refine o_1 (.callE2 rfl rfl rfl rfl rfl rfl (hg1)) ?_;refine a_z ?_;refine r_m 3 ?_;refine a_z ?_;refine⟨(padD MB (k+1+1) (p % (b* s)),g'- 1,true),by simp,.inl ⟨rfl,by simp only;omega,rfl⟩,?_⟩;rw[ovM.eq_1];have:=(congrArg (fun z=>AV.v (.int .u64 z)) hI);exact s_f [];have hgt2:p/ (b* s)< g'- 1:=by omega
 have h11:(g'- 1) * (b* s)+b* s=g'* (b* s):=by
  conv=>rhs;rw[show g'=(g'- 1)+1 by omega,Nat.add_mul,Nat.one_mul]
 have h12:p< (g'- 1) * (b* s):=by
  rw[Nat.div_lt_iff_lt_mul hvp] at hgt2;exact hgt2
 have hg1:=hgive D (D+b* s) 0 (by omega) h10 (by omega) (by omega);refine ab_ (ae_ (r_m 4 ?_));refine a_2 ?_;refine o_1 (.callE2 rfl rfl rfl rfl rfl rfl (hg1)) ?_;refine a_z ?_;refine r_m 3 ?_;refine a_z ?_;refine⟨(padD MB (k+1+1) (D+b* s),g'- 1,false),by simp;omega,.inr ⟨rfl,hgt2,by simp only;omega,_,rfl,by simp only;omega,by omega⟩,?_⟩;rw[ovM.eq_1];have:=(congrArg (fun z=>AV.v (.int .u64 z)) hI);exact s_f [];have hm:made=true:=by simpa using h5
 subst hm;rcases hin with⟨_,h6,h7⟩|⟨h6,_⟩
 simp only at h6 h7;subst h6 h7;refine ao_ ⟨(),trivial,?_⟩;exact s_e [];cases h6;cases h4;rintro _ _;have hq9:p/ (b* s)≤999999999:=Nat.le_trans gu1 hg9;obtain⟨q,hq⟩:∃q,q=p/ (b* s):=⟨_,rfl⟩;rw[←hq] at hq9 hnext⊢;have hrep:List.replicate (j+1) 0++T=List.replicate j 0++0::T:=by rw[List.replicate_succ'];simp
 have hgT:(dE (List.replicate (j+1) 0++T))[0+(((j+1:Nat):Int)- 1).toNat]?=some [u32 0]:=by
  rw[show 0+(((j+1:Nat):Int)- 1).toNat=j by omega,hrep];exact cc_ (iT_ _ _ _ _ (by simp))
 have hsetT:(dE (List.replicate (j+1) 0++T)).set (0+(((j+1:Nat):Int)- 1).toNat) [u32 q]=dE (List.replicate j 0++(q::T)):=by
  rw[show 0+(((j+1:Nat):Int)- 1).toNat=j by omega,ef_,hrep,iq_ _ _ _ _ _ (by simp)];simp
 refine r_m 6 ?_;refine a_5 ?_;refine o_1n (.store rfl rfl hgT rfl rfl rfl TS.h (nle rfl)) ?_;refine al_ ?_;refine r_m 3 ?_;refine a_z ?_;refine⟨(pre++padD MB (k+1+1) (p % (b* s))++post,q::T,j),by simp only;omega,hnext,?_⟩;rw[ovS.eq_1];refine s_x [] (fun hs=>au_f) (fun hs=>?_) ?_
 ·repeat' (first|exact az_|refine h_c ?_ ?_|exact aF_ hs hsetT (aZ_ _)|exact au_e)
 ·repeat' (first|exact ShrL.nil|refine ShrL.cons rfl rfl rfl rfl (by first|(exact(congrArg List.length hsetT))|rfl|(simp;done)|(simp <;> omega)) ?_)
 have hj:j1=0:=by have:=of_decide_eq_false h3;omega
 subst hj;refine ao_ ⟨(R,T,0),⟨hinv,rfl⟩,?_⟩;rw[ovS.eq_1];exact s_e [];rintro⟨R,T,j1⟩ ⟨hinv,hj⟩;simp only at hinv hj;subst hj;obtain⟨hq,hr⟩:=hinv.last rfl rfl hb sc3;rw[ovS.eq_1]
 refine AWp.ent (st':=⟨[(4,.lptr 1 0 0),(5,.lptr 2 0 0),(6,.lptr 3 0 0),(9,.arr (dE R)),(10,.arr (dE T))],
  [(1,some ⟨42,1,[[.emp]]⟩),(2,some ⟨42,1,[[.emp]]⟩),(3,some ⟨42,1,[[mag s]]⟩)],4,142⟩) ?_ ?_
 have hlen:=hinv.len;have hkl:=hinv.k_le;exact s_x [] (fun hs=>e_24) (fun hs=>e_25);have hRl:=hinv.len;have hkl:=hinv.k_le
 have hRt:FS 144 [.arr (dE R)] (.agg [mag (ofD MB R)]):=by
  have:=dP_ R (by omega);rwa[ez_ (b:=MB) (by decide) hinv.dig] at this
 have hTt:FS 144 [.arr (dE T)] (.agg [mag (ofD MB T)]):=by
  have:=dP_ T (by omega);rwa[ez_ (b:=MB) (by decide) hinv.digT] at this
 have hblr:bl (ofD MB R)≤bl b+30:=by
  have h1:=hinv.top;rw[List.drop_zero] at h1;have h2:=b0_ (Nat.le_of_lt h1);omega
 have hov:=hrec hl2 (ofD MB R) s (by omega) (by omega) hblr;rw[hr] at hov;refine ab_ (r_d hmix 11 ?_);refine c_s (hRt) ?_;refine c_s (hov) ?_;refine a_7 ?_;refine al_ (n_k ?_);refine ab_ (r_d hmix 5 ?_);refine c_s (hTt) ?_;refine a_3 ?_;refine al_ (n_k ?_);refine af_ (Fin.many ⟨_,_,rfl,⟨_,_,_,_,_,rfl,rfl,rfl,.inl ⟨TG.h,_,TS.h,nle rfl,rfl⟩⟩,_,_,rfl,⟨_,_,_,_,_,rfl,rfl,rfl,.inl ⟨TG.h,_,TS.h,nle rfl,rfl⟩⟩,rfl⟩ (nle rfl) ?_);rw[←hq];exact ai_ (ak_ ax_ (ay_ (aa_ (a5_ _) ac_))) (ai_ (ak_ ax_ (ay_ (aa_ (a5_ _) ac_))) an_)
theorem len1{b:Nat}(hb:b< 1000000000):(digs MB b).length≤1:=co_ (by decide) (by simpa using hb)
theorem kI_(a b:Nat)(h:bl a+bl b≤4398046511104)(hb:0< b):FS 166 [.agg [mag a],.agg [mag b]] (.tup [.agg [mag (a/ b)],.agg [mag (a % b)]]):=
 oj_ a b (by omega) hb fun _ r s hs hs1 hr=>oj_ r s (by have:=bl_le (n:=s) (k:=30) (by omega);omega) hs fun h2=>absurd h2 (by have:=len1 hs1;omega)
def backT(l:List Nat)(k:Nat):Option (List AV):=if k< l.length then some [i64 ((l.length- 1- k:Nat):Int),u32 (l.getD (l.length- 1- k) 0)] else none
theorem eG_(l:List Nat)(hl:l.length≤281474976710656):GSpec Tryz.prog 198 [.aptr [[.arr (dE l)]] 0 0] (backT l):=by
 have hcl:Closed (.aptr [[.arr (dE l)]] 0 0):=d7_ (fun e he c hc=>by simp at he;subst he;simp at hc;subst hc;exact bl_ l);refine GSpec.enter Tryz.func198 rfl (by kernel_rfl) rfl rfl rfl ?_ ?_ rfl ?_;exact aa_ hcl ac_;intro k xs h;unfold backT at h;split at h;cases h;exact aa_ (ad_ _) (aa_ (ad_ _) ac_);cases h;intro ll N E;refine GWp.seq ?_;refine GWp.lift ?_;refine r_m 4 ?_;refine a_z ?_;refine GWp.block ?_;refine GWp.loopS (fun m:Nat=>⟨[(0,.v (.func (.yield ll) #[] #[])),(1,.aptr [[.arr (dE l)]] 0 0),(3,i64 ((m:Int)- 1))],[],1,19⟩) (fun m=>l.length- m) (fun m=>m) (fun m=>m≤l.length) l.length (Nat.le_refl _) (by simp) ?_ ?_;exact s_e [];intro m hm;refine GWp.seq ?_;refine GWp.seq ?_;refine GWp.lift ?_;refine r_m 2 ?_;refine a_z ?_;refine GWp.cond rfl (fun h=>?_) (fun h=>?_)
 ·refine GWp.skip ?_
  have hm1:1≤m:=by have:=of_decide_eq_true h;omega
  obtain⟨x,hx⟩:∃x,l[m- 1]?=some x:=⟨_,List.getElem?_eq_getElem (by omega)⟩;have hx':(dE l)[((m:Int)- 1).toNat]?=some [u32 x]:=by rw[show((m:Int)- 1).toNat=m- 1 by omega];exact cc_ hx
  refine GWp.seq ?_;refine GWp.block ?_;refine GWp.seq ?_;refine GWp.regY (fr2:=[(0,.v (.func (.yield ll) #[] #[])),(1,.aptr [[.arr (dE l)]] 0 0),(3,i64 ((m:Int)- 1)),(11,.v (.func (.yield ll) #[] #[])),(12,i64 ((m:Int)- 1)),(16,u32 x)]) (hp2:=[]) (nx2:=1) 6 rfl rfl rfl rfl rfl rfl ?_ rfl rfl rfl ?_ ?_ ?_;refine o_0 (.move rfl) ?_;refine o_0 (.move rfl) ?_
  first|refine aA_ (.load_l1 rfl rfl rfl TG.h rfl) rfl rfl ?_|refine aA_ (.load_a1 rfl rfl TG.h rfl) rfl rfl ?_
  refine o_0 (.move rfl) ?_;refine i_x hx' ?_;refine l_1 hx' ?_;refine al_ ?_;exact s_y [] (fun hs=>au_f) (fun hs=>au_h);rotate_left 2;intro go;refine o_0 (.un rfl cR_) ?_;refine al_ ?_;rotate_left;unfold backT;rw[if_pos (by omega)];simp only[List.map_cons,List.map_nil,coe,i64,u32,Option.some.injEq,List.cons.injEq,AV.v.injEq,Value.int.injEq,true_and,and_true];refine⟨by omega,?_⟩;rw[show l.length- 1- (l.length- m)=m- 1 by omega,List.getD_eq_getElem?_getD,hx];rfl;exact aa_ (ad_ _) (aa_ (ad_ _) ac_);cases go with
  |false=>
   refine GWp.cond rfl (fun h=>?_) (fun h=>?_);exact GWp.ret ⟨.inr rfl,fun h=>by cases h⟩;cases h
  |true=>
   refine GWp.cond rfl (fun h=>?_) (fun h=>?_);cases h;refine GWp.skip ?_;refine GWp.lift ?_;refine r_m 3 ?_;refine a_z ?_;refine⟨rfl,m- 1,by omega,by omega,by omega,?_⟩;exact s_e []
 refine GWp.exit ⟨.inl rfl,fun _=>?_⟩;have:m=0:=by have:=of_decide_eq_false h;omega
 subst this;unfold backT;rw[if_neg (by omega)]
theorem eK_(l:List Nat):FS 159 [.arr (dE l)] (.clos 198 [] [.aptr [[.arr (dE l)]] 0 0]):=by
 refine f_n Tryz.func159 ?_ ?_;exact aa_ (bl_ l) ac_;refine r_z 2 ?_;refine r_z 2 ?_;refine af_ (⟨.inr rfl,[_],⟨_,[],rfl,rfl,rfl⟩,?_⟩);exact Cv.clos an_ (ai_ (Cv.sealp ax_ rfl (fun _ _ h=>by cases h) (by simp) (av_ (ai_ (ak_ ax_ (bl_ l)) an_))) an_)
def wordS(n:Nat):Nat→AState
 |k=>⟨[(3,.lptr 1 0 0),(8,.clos 198 [] [.aptr [[.arr (dE (digs MB n))]] 0 0])],[(1,some ⟨205,1,[[u64 (ofD MB ((digs MB n).drop ((digs MB n).length- k)))]]⟩)],2,17⟩
theorem rR_(n:Nat)(h:(digs MB n).length≤2):FS 205 [.agg [mag n]] (u64 n):=by
 have hb:=eK_ (digs MB n);have hg:=eG_ (digs MB n) (by omega);have hcl:Closed (.aptr [[.arr (dE (digs MB n))]] 0 0):=d7_ (fun e he c hc=>by simp at he;subst he;simp at hc;subst hc;exact bl_ _);have hcl2:Closed (.clos 198 [] [.aptr [[.arr (dE (digs MB n))]] 0 0]):=aG_ ac_ (aa_ hcl ac_);refine f_c Tryz.func205 ?_;refine r_z 2 ?_;refine r_z 2 ?_;refine ab_ (r_c 3 (hb) ?_);refine al_ ?_;refine aw_ (fun _:Unit=>⟨[(3,.lptr 1 0 0)],[(1,some ⟨205,1,[[u64 n]]⟩)],2,17⟩) (fun _=>True) ?_ ?_;refine ae_ (AWp.rangeFunc (α:=Nat) (γ:=Empty) (digs MB n).length (wordS n) (fun k=>k) (fun k=>k≤(digs MB n).length) (fun e=>nomatch e) (fun _ e=>nomatch e) 0 rfl hg rfl rfl ?_ (fun _=>⟨rfl,rfl⟩) (fun e=>nomatch e) (Nat.zero_le _) rfl (fun _ h=>h) ?_ ?_ ?_ ?_ (fun _ e=>nomatch e));intro k xs hT;unfold backT at hT;split at hT;cases hT;rfl;cases hT;rw[wordS.eq_1];have h0:AV.v (.int .u64 0)=u64 ((ofD MB ((digs MB n).drop ((digs MB n).length- 0)):Nat):Int):=by simp[ofD,u64]
 exact s_t [(1,3)];exact aa_ hcl ac_
 ·intro l k xs hk hT
  unfold backT at hT;split at hT;rotate_left;cases hT;rename_i hlt;cases hT;obtain⟨x,hx⟩:∃x,(digs MB n)[(digs MB n).length- 1- k]?=some x:=⟨_,List.getElem?_eq_getElem (by omega)⟩;have hx1:x< 1000000000:=be_ (by decide) hx;have hxd:(digs MB n).getD ((digs MB n).length- 1- k) 0=x:=by rw[List.getD_eq_getElem?_getD,hx];rfl
  rw[hxd];have hv:=fp_ MB hx;rw[show(digs MB n).length- 1- k+1=(digs MB n).length- k by omega] at hv
  have hlt2:ofD MB ((digs MB n).drop ((digs MB n).length- k))< 1000000000:=by
   have h1:=dx_ (b:=MB) (l:=(digs MB n).drop ((digs MB n).length- k)) fun d hd=>bT_ (by decide) n d (List.mem_of_mem_drop hd);have h2:((digs MB n).drop ((digs MB n).length- k)).length≤1:=by simp;omega
   exact Nat.lt_of_lt_of_le h1 (Nat.pow_le_pow_right (by decide) h2)
  show AWp _ _ _ _ ⟨[(10,u32 x),(9,i64 ((digs MB n).length- 1- k:Nat)),(3,.lptr 1 0 0),(8,.clos 198 [] [.aptr [[.arr (dE (digs MB n))]] 0 0]),(1003,.lptr 1 0 0),(1008,.clos 198 [] [.aptr [[.arr (dE (digs MB n))]] 0 0])],[(1,some ⟨205,1,[[u64 (ofD MB ((digs MB n).drop ((digs MB n).length- k)))]]⟩)],2,17⟩;refine r_m 1 ?_;refine a_z ?_;refine ae_ (r_m 6 ?_);refine a_z ?_;refine⟨k+1,⟨by omega,rfl⟩,?_⟩;show SEntT _ ⟨[(1003,.lptr 1 0 0),(1008,.clos 198 [] [.aptr [[.arr (dE (digs MB n))]] 0 0])],[(1,some ⟨205,1,[[u64 (ofD MB ((digs MB n).drop ((digs MB n).length- (k+1))))]]⟩)],2,17⟩
  have h1:AV.v (.int .u64 ((ofD MB ((digs MB n).drop ((digs MB n).length- k)):Nat) * 1000000000+(x:Int)))=u64 ((ofD MB ((digs MB n).drop ((digs MB n).length- (k+1))):Nat):Int):=by
   rw[show(digs MB n).length- (k+1)=(digs MB n).length- 1- k by omega,hv];simp[u64];omega
  exact s_t []
 intro k hk hT;unfold backT at hT;split at hT;cases hT;refine⟨(),trivial,?_⟩;rw[wordS.eq_1]
 have h1:ofD MB ((digs MB n).drop ((digs MB n).length- k))=n:=by
  rw[show(digs MB n).length- k=0 by omega,List.drop_zero,aV_ (by decide)]
 rw[h1];exact s_e [];rintro _ _;refine r_z 2 ?_;refine af_ (aD_ rfl rfl (ad_ _))
def nw_:Nat×Nat→AState
 |(p,q)=>⟨[(2,.lptr 1 0 0),(3,.lptr 2 0 0),(4,.lptr 3 0 0)],[(1,some ⟨42,1,[[mag p]]⟩),(2,some ⟨42,1,[[mag q]]⟩),(3,some ⟨42,1,[[.emp]]⟩)],4,43⟩
theorem es_(p:Nat)(q:Nat):nw_ (p,q)=⟨[(2,.lptr 1 0 0),(3,.lptr 2 0 0),(4,.lptr 3 0 0)],[(1,some ⟨42,1,[[mag p]]⟩),(2,some ⟨42,1,[[mag q]]⟩),(3,some ⟨42,1,[[.emp]]⟩)],4,43⟩:=rfl
def wordsS:Nat×Nat→AState
 |(x,y)=>⟨[(4,.lptr 3 0 0),(5,u64 x),(6,u64 y)],[(3,some ⟨42,1,[[.emp]]⟩)],4,43⟩
theorem il_(x:Nat)(y:Nat):wordsS (x,y)=⟨[(4,.lptr 3 0 0),(5,u64 x),(6,u64 y)],[(3,some ⟨42,1,[[.emp]]⟩)],4,43⟩:=rfl
theorem ox_(p q:Nat):Nat.gcd q (p % q)=Nat.gcd p q:=by
 rw[Nat.gcd_comm p q,Nat.gcd_rec q p,Nat.gcd_comm]
theorem qo_{n:Nat}(h:(digs MB n).length≤2):n< 1000000000000000000:=by
 have h1:=dx_ (b:=MB) (bT_ (by decide) n);rw[aV_ (by decide)] at h1;exact Nat.lt_of_lt_of_le h1 (Nat.pow_le_pow_right (by decide) h)
theorem r4_(a b:Nat)(h:bl a+bl b≤4398046511104):FS 164 [.agg [mag a],.agg [mag b]] (.agg [mag (Nat.gcd a b)]):=by
 refine f_c Tryz.func164 ?_;refine r_z 3 ?_;refine aP_ nw_ (fun x=>x.1=Nat.gcd a b) ?_ ?_;refine ae_ (aq_ nw_ (fun x=>x.2) (fun x=>Nat.gcd x.1 x.2=Nat.gcd a b∧bl x.1+bl x.2≤4398046511104) (a,b) ⟨rfl,h⟩ ?_ ?_);rw[es_];exact s_e [];rintro⟨p,q⟩ ⟨hg,hb⟩;simp only at hg hb;rw[es_];have hz:=rQ_ (digs MB q);refine ab_ (r_c 3 (hz) ?_);refine a_z ?_;refine aj_ rfl (fun h0=>?_) (fun h0=>?_)
 have hq:0< q:=by
  rcases Nat.eq_zero_or_pos q with e|e
  subst e;rw[bb_] at h0;simp at h0;exact e
 refine ah_ (ae_ (aP_ (fun _:Unit=>⟨[(2,.lptr 1 0 0),(3,.lptr 2 0 0),(4,.lptr 3 0 0)],[(1,some ⟨42,1,[[mag p]]⟩),(2,some ⟨42,1,[[mag q]]⟩),(3,some ⟨42,1,[[.emp]]⟩)],4,43⟩) (fun _=>True) ?_ ?_));by_cases hl:(digs MB p).length≤2;by_cases hl2:(digs MB q).length≤2;have hwp:=qo_ hl;have hwq:=qo_ hl2;refine s_r 10 ?_;refine a_5 ?_
 first|refine y_g rfl (by simp;omega) (.fieldAddr_l rfl TF.h (by decide)) ?_|refine y_g rfl (by simp;omega) (.fieldAddr_a rfl TF.h (by decide)) ?_
 first|refine y_g rfl (by simp;omega) (.load_l1 rfl rfl rfl TG.h rfl) ?_|refine y_g rfl (by simp;omega) (.load_a1 rfl rfl TG.h rfl) ?_
 first|refine y_g rfl (by simp;omega) (.lenD rfl rfl rfl rfl te_40.h) ?_|refine y_g rfl (by simp;omega) (.lenI rfl rfl rfl rfl te_40.h) ?_|refine y_g rfl (by simp;omega) (.lenP rfl rfl rfl rfl te_40.h) ?_|refine y_g rfl (by simp;omega) (.lenC rfl rfl rfl rfl te_40.h) ?_|refine y_g rfl (by simp;omega) (.lenR rfl rfl rfl rfl te_40.h) ?_|refine y_g rfl (by simp;omega) (.len rfl rfl rfl rfl rfl te_40.h) ?_
 refine y_g rfl (by simp;omega) (.bin rfl rfl a7_) ?_;refine o_0 (.pickT rfl (by simp;omega) rfl) ?_;refine al_ ?_;refine aj_ rfl (fun h1=>?_) (fun h1=>?_);refine ab_ (r_d hmix 6 ?_);refine c_s (rR_ p hl) ?_;refine c_s (rR_ q hl2) ?_;refine a_2 ?_;refine al_ (n_k ?_);refine aP_ (fun x:Nat=>⟨[(4,.lptr 3 0 0),(5,u64 x)],[(3,some ⟨42,1,[[.emp]]⟩)],4,43⟩) (fun x=>x=Nat.gcd a b) ?_ ?_;refine ae_ (aq_ wordsS (fun x=>x.2) (fun x=>Nat.gcd x.1 x.2=Nat.gcd a b∧x.1< 1000000000000000000∧x.2< 1000000000000000000) (p,q) ⟨hg,hwp,hwq⟩ ?_ ?_);rw[il_];exact s_e [];rintro⟨x,y⟩ ⟨hxy,hx,hy⟩;simp only at hxy hx hy;rw[il_];refine ab_ (r_z 2 ?_);refine aj_ rfl (fun h2=>?_) (fun h2=>?_);have hy0:0< y:=by simp at h2;omega
 refine ah_ (ae_ (r_d hmix 6 ?_));refine a_6 ?_;refine al_ (n_k ?_);refine⟨(y,x % y),Nat.mod_lt _ hy0,⟨(ox_ x y).trans hxy,hy,Nat.lt_trans (Nat.mod_lt _ hy0) hy⟩,?_⟩;rw[il_];exact s_e [];have hy0:y=0:=by simp at h2;omega
 subst hy0;refine ao_ ⟨x,by simpa using hxy,?_⟩;exact s_e [];rintro x rfl
 have hx64:Nat.gcd a b< 18446744073709551616:=by
  rw[←hg];have h1:Nat.gcd p q≤q:=Nat.gcd_le_right _ hq;omega
 refine r_c 3 (do_ _ hx64) ?_;refine a_z ?_;exact af_ (bQ_ rfl rfl rfl TG.h TS.h (nle rfl) rfl (ay_ (aa_ (a5_ _) ac_)));exact absurd h1 (by simp;omega);refine s_r 10 ?_;refine a_5 ?_
 first|refine y_g rfl (by simp;omega) (.fieldAddr_l rfl TF.h (by decide)) ?_|refine y_g rfl (by simp;omega) (.fieldAddr_a rfl TF.h (by decide)) ?_
 first|refine y_g rfl (by simp;omega) (.load_l1 rfl rfl rfl TG.h rfl) ?_|refine y_g rfl (by simp;omega) (.load_a1 rfl rfl TG.h rfl) ?_
 first|refine y_g rfl (by simp;omega) (.lenD rfl rfl rfl rfl te_40.h) ?_|refine y_g rfl (by simp;omega) (.lenI rfl rfl rfl rfl te_40.h) ?_|refine y_g rfl (by simp;omega) (.lenP rfl rfl rfl rfl te_40.h) ?_|refine y_g rfl (by simp;omega) (.lenC rfl rfl rfl rfl te_40.h) ?_|refine y_g rfl (by simp;omega) (.lenR rfl rfl rfl rfl te_40.h) ?_|refine y_g rfl (by simp;omega) (.len rfl rfl rfl rfl rfl te_40.h) ?_
 refine y_g rfl (by simp;omega) (.bin rfl rfl a7_) ?_;refine o_0 (.pickT rfl (by simp;omega) rfl) ?_;refine al_ ?_;refine aj_ rfl (fun h=>?_) (fun _=>ah_ ⟨(),trivial,?_⟩);exact absurd h (by simp;omega);exact s_e [];refine s_r 10 ?_;refine a_5 ?_;refine n_g rfl (by simp;omega) ?_;refine n_g rfl (by simp;omega) ?_;refine n_g rfl (by simp;omega) ?_;refine n_g rfl (by simp;omega) ?_;refine o_0 (.pickF rfl (by simp;omega) rfl) ?_;refine al_ ?_;refine aj_ rfl (fun h=>?_) (fun _=>ah_ ⟨(),trivial,?_⟩);cases h;exact s_e [];rintro _ _;refine r_c 10 (kI_ p q hb hq) ?_;refine a_z ?_;refine r_d hmix 4 ?_;refine a_4 ?_;refine al_ (n_k ?_);refine⟨(q,p % q),Nat.mod_lt _ hq,⟨(ox_ p q).trans hg,?_⟩,?_⟩;have:=b0_ (Nat.mod_le p q);simp only;omega;rw[es_];exact s_e []
 have hq:q=0:=by
  rcases Nat.eq_zero_or_pos q with e|e
  exact e
  have:(digs MB q).length≠0:=fun e'=>by
   rw[List.length_eq_zero_iff] at e';have:=(cY_ (b:=MB) (by decide)).1 e';omega
  simp[this] at h0
 subst hq;refine ao_ ⟨(p,0),?_,?_⟩;simpa using hg;rw[es_];exact s_e [];rintro⟨p,q⟩ hp;simp only at hp;subst hp;rw[es_];refine r_z 2 ?_;refine af_ (bQ_ rfl rfl rfl TG.h TS.h (nle rfl) rfl (ay_ (aa_ (a5_ _) ac_)))
end Go.Proofs.YtjkddcfoolilbaaGreatDoor
