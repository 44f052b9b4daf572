/- Part V20 of the proof. -/
import Derived.Test.YtkhclghbcicapaaGreatDoorV19
set_option linter.all false
namespace Go.Proofs.YtkhclghbcicapaaGreatDoor
open Go.Abs
set_option maxRecDepth 20000
set_option maxHeartbeats 1000000
def gbS(V:List Nat)(A:List Nat)(pre:List Nat)(post:List Nat)(cap:Option Nat):List Nat×Nat→AState
 |(s,c)=>⟨[(0,.lsl 0 pre.length A.length cap 1),(1,.arr (dE V)),(5,u32 c),(10,i64 s.length),(9,i64 A.length)],
  [(0,some ⟨189,1,dE (pre++(s++A.drop s.length)++post)⟩)],1,40⟩
structure GiveI (V A:List Nat)(x:List Nat×Nat):Prop where
 le:x.1.length≤A.length
 dig:∀d∈x.1,d< MB
 car:x.2≤1
 val:ofD MB x.1+MB^ x.1.length* x.2=ofD MB (A.take x.1.length)+ofD MB (V.take x.1.length)
theorem BW (pre A post V:List Nat) (D q:Nat) (cap:Option Nat) (hA:∀d∈A,d< MB) (hV:∀d∈V,d< MB) (hlen:V.length≤A.length) (hA2:A.length< 17592186044416) (hq:q≤1)
    (hD:D+MB^ A.length* q=ofD MB A+ofD MB V) (hD2:D< MB^ A.length):
    ESpec Tryz.prog 190 189 1 (dE (pre++A++post)) (dE (pre++jL MB A.length D++post)) pre.length A.length cap [.arr (dE V)] (.bool (q !=0)):=by
 refine ESpec.enter Tryz.func190 rfl (by kernel_rfl) rfl rfl rfl ?_ ?_ ?_ rfl ?_;exact ac (di _) ag;exact b6 _;exact b6 _;refine r_z 1 ?_;refine r_z 1 ?_;refine ae (r_z 3 ?_);refine aH (gbS V A pre post cap) (fun x=>GiveI V A x∧x.1.length=A.length) ?_ ?_;refine am (aD (gbS V A pre post cap) (fun x=>A.length- x.1.length) (GiveI V A) ([],0) ⟨by simp,by simp,by simp,by simp[ofD]⟩ ?_ ?_);rw[gbS.eq_1];exact s_e [];rintro⟨s,c⟩ ⟨hle,hdig,hcar,hval⟩;simp only at hle hdig hcar hval;rw[gbS.eq_1];refine r_z 1 ?_;refine ae (aq rfl (fun h=>?_) (fun h=>?_));have hlt:s.length< A.length:=by have:=of_decide_eq_true h;omega
 obtain⟨x,hx⟩:∃x,A[s.length]?=some x:=⟨_,List.getElem?_eq_getElem hlt⟩;have hx1:x< 1000000000:=hA x (List.mem_of_getElem? hx)
 have hg:(dE (pre++(s++A.drop s.length)++post))[pre.length+((s.length:Nat):Int).toNat]?=some [u32 x]:=by
  rw[Int.toNat_natCast,gU hx];exact ea (EZ rfl rfl)
 have hset:∀w:Nat,(dE (pre++(s++A.drop s.length)++post)).set (pre.length+((s.length:Nat):Int).toNat) [u32 w]=dE (pre++((s++[w])++A.drop (s++[w]).length)++post):=by
  intro w;rw[Int.toNat_natCast,gU hx,iU,EY rfl rfl];simp
 refine an (ae (am (r_z 2 ?_)));refine s_r 7 ?_;refine a_2 ?_;refine ci (.index_l rfl rfl (by omega) (by omega) te_28.h) rfl rfl ?_;refine ci (.load_l1 rfl rfl hg TG.h rfl) rfl rfl ?_;refine a_z ?_;refine ae (r_z 4 ?_)
 refine aH (fun v:Nat=>⟨[(0,.lsl 0 pre.length A.length cap 1),(1,.arr (dE V)),(5,u32 c),(7,u32 v),(6,i64 s.length),(10,i64 s.length),(9,i64 A.length)],
  [(0,some ⟨189,1,dE (pre++(s++A.drop s.length)++post)⟩)],1,40⟩)
  (fun v=>v=x+c+(V[s.length]?.getD 0)∧v≤1999999999) ?_ ?_
 refine aq rfl (fun h=>?_) (fun h=>?_);have hlt2:s.length< V.length:=by have:=of_decide_eq_true h;simp at this;omega
 obtain⟨y,hy⟩:∃y,V[s.length]?=some y:=⟨_,List.getElem?_eq_getElem hlt2⟩;have hy1:y< 1000000000:=hV y (List.mem_of_getElem? hy);have hy':(dE V)[((s.length:Nat):Int).toNat]?=some [u32 y]:=ea hy;refine r_m 7 ?_;refine a_3 ?_;refine i_x hy' ?_;refine l_1 hy' ?_;refine a_z ?_;refine⟨x+c+y,⟨by rw[hy];rfl,by omega⟩,?_⟩;exact s_e [];have hlt2:¬s.length< V.length:=by have:=of_decide_eq_false h;simp at this;omega
 refine an ⟨x+c,⟨by rw[List.getElem?_eq_none (by omega)];rfl,by omega⟩,?_⟩;exact s_e [];rintro v ⟨hv,hv1⟩;refine r_z 1 ?_;refine ae (r_z 2 ?_)
 have hnext:∀w c',w+1000000000* c'=v→w< 1000000000→c'≤1→GiveI V A (s++[w],c'):=by
  intro w c' hw hwb hc';refine⟨by simp;omega,?_,hc',?_⟩;intro d hd;rcases List.mem_append.1 hd with hd|hd
  exact hdig d hd;simp at hd;subst hd;exact hwb;simp only[List.length_append,List.length_singleton];rw[iQ,dc _ hx,fy,Nat.pow_succ];have e:MB^ s.length* (w+MB* c')=MB^ s.length* (x+c+(V[s.length]?.getD 0)):=by rw[←hv,←hw]
  simp only[Nat.mul_add] at e;rw[←Nat.mul_assoc] at e;omega
 refine aq rfl (fun h=>?_) (fun h=>?_);have hb:1000000000≤v:=by have:=of_decide_eq_true h;omega
 have hI:(v:Int)- 1000000000=((v- 1000000000:Nat):Int):=by omega
 refine r_m 4 ?_;refine a_z ?_;refine r_m 5 ?_;refine a_4 ?_;refine fY (.store rfl rfl hg rfl rfl rfl TS.h (nle rfl)) ?_;refine au ?_;refine r_m 2 ?_;refine a_z ?_;refine⟨(s++[v- 1000000000],1),by simp;omega,hnext _ _ (by omega) (by omega) (Nat.le_refl _),?_⟩;rw[gbS.eq_1];exact s_x [] (fun hs=>eA) (fun hs=>e_15);have hb:v< 1000000000:=by have:=of_decide_eq_false h;omega
 refine an (r_m 5 ?_);refine a_4 ?_;refine fY (.store rfl rfl hg rfl rfl rfl TS.h (nle rfl)) ?_;refine au ?_;refine r_m 2 ?_;refine a_z ?_;refine⟨(s++[v],0),by simp;omega,hnext _ _ (by omega) (by omega) (by omega),?_⟩;rw[gbS.eq_1];exact s_x [] (fun hs=>eA) (fun hs=>e_22);have hl:s.length=A.length:=by have:=of_decide_eq_false h;omega
 refine aA ⟨(s,c),⟨⟨hle,hdig,hcar,hval⟩,hl⟩,?_⟩;rw[gbS.eq_1];exact s_e [];rintro⟨s,c⟩ ⟨⟨hle,hdig,hcar,hval⟩,hl⟩;simp only at hle hdig hcar hval hl;rw[hl,List.take_length,List.take_of_length_le (by omega)] at hval;have hs1:=gG hdig;rw[hl] at hs1;have hpos:0< MB^ A.length:=Nat.pow_pos (by decide)
 have hqq:c=q∧ofD MB s=D:=by
  rcases Nat.le_one_iff_eq_zero_or_eq_one.1 hq with rfl|rfl <;> rcases Nat.le_one_iff_eq_zero_or_eq_one.1 hcar with rfl|rfl <;> constructor <;> omega
 obtain⟨rfl,rfl⟩:=hqq;rw[gbS.eq_1];refine r_z 3 ?_;refine ak (FinE.tmp rfl ?_ rfl ?_);congr 2;rw[Bool.eq_iff_iff];simp;rw[hl,List.drop_length,List.append_nil,←Ae hdig hl rfl]
def ovS(s:Nat)(V:List Nat)(L:Nat):List Nat×List Nat×Nat→AState
 |(R,T,k)=>⟨[(4,.lptr 1 0 0),(5,.lptr 2 0 0),(6,.lptr 3 0 0),(7,.arr (dE V)),(8,i64 V.length),(9,.lsl 4 0 L (some L) 1),(10,.lsl 5 0 (L- V.length) (some (L- V.length)) 1),(11,i64 ((k:Int)- 1))],
  [(1,some ⟨30,1,[[.emp]]⟩),(2,some ⟨30,1,[[.emp]]⟩),(3,some ⟨30,1,[[mag s]]⟩),(4,some ⟨189,1,dE R⟩),(5,some ⟨189,1,dE (List.replicate k 0++T)⟩)],6,142⟩
def ovM(s:Nat)(V:List Nat)(L:Nat)(T:List Nat)(pre:List Nat)(post:List Nat)(j:Nat)(n:Nat):List Nat×Nat×Bool→AState
 |(A,g,made)=>⟨[(4,.lptr 1 0 0),(5,.lptr 2 0 0),(6,.lptr 3 0 0),(7,.arr (dE V)),(8,i64 V.length),(9,.lsl 4 0 L (some L) 1),(10,.lsl 5 0 (L- V.length) (some (L- V.length)) 1),(11,i64 (((j+1:Nat):Int)- 1)),(13,u64 g),(14,.lsl 4 j n (some n) 1),(15,bln made)],
  [(1,some ⟨30,1,[[.emp]]⟩),(2,some ⟨30,1,[[.emp]]⟩),(3,some ⟨30,1,[[mag s]]⟩),(4,some ⟨189,1,dE (pre++A++post)⟩),(5,some ⟨189,1,dE (List.replicate (j+1) 0++T)⟩)],6,142⟩
theorem Bf (a b:Nat) (h:bl a+bl b≤8796093022208) (hb:0< b)
    (hrec:2≤(av MB b).length→∀r s,0< s→s< 1000000000→bl r≤bl b+30→FS 155 [.agg [mag r],.agg [mag s]] (.tup [.agg [mag (r/ s)],.agg [mag (r % s)]])):
    FS 155 [.agg [mag a],.agg [mag b]] (.tup [.agg [mag (a/ b)],.agg [mag (a % b)]]):=by
 have hla:=b8 (b:=MB) (by decide) a;have hlb:=b8 (b:=MB) (by decide) b;have va:=bG (b:=MB) (by decide) a;have vb:=bG (b:=MB) (by decide) b;refine f_c Tryz.func155 ?_;refine r_z 4 ?_;refine ae (am (r_c 5 (qh a b (by omega)) ?_));refine a_z ?_;refine aq rfl (fun h=>?_) (fun h=>?_)
 have hlt:a< b:=by
  have h1:=of_decide_eq_true h;unfold fm at h1;split at h1;omega;split at h1 <;> omega
 refine ae (r_d ba 4 ?_);refine a_4 ?_;refine au (n_k ?_);refine ak ?_;rw[Nat.div_eq_of_lt hlt,Nat.mod_eq_of_lt hlt];refine Fin.many ⟨_,_,rfl,⟨_,_,_,_,_,rfl,rfl,rfl,.inl ⟨TG.h,_,TS.h,nle rfl,rfl⟩⟩,_,_,rfl,⟨_,_,_,_,_,rfl,rfl,rfl,.inl ⟨TG.h,_,TS.h,nle rfl,rfl⟩⟩,rfl⟩ (nle rfl) ?_;refine ai (Cv.agg (ai (Cv.emp _ ?_) aw)) (ai (ao ay (aB (ac (cm a) ag))) aw);unfold mag;rw[cP];rfl
 have hge:b≤a:=by
  have h1:=of_decide_eq_false h;refine Nat.le_of_not_lt fun hlt=>h1 ?_;rw[mY (by omega)];decide
 refine r_z 5 ?_;refine aq rfl (fun V=>?_) (fun V=>?_);have hl1:(av MB b).length=1:=by simp at V;omega
 have hbm:b< 1000000000:=by
  have:=gG (b:=MB) (ee (by decide) b);rw[vb,hl1] at this;simpa using this
 have hg:(dE (av MB b))[(0:Int).toNat]?=some [u32 b]:=by rw[D3 hb hbm];rfl
 refine ae (r_d ba 10 ?_);refine a_3 ?_;refine i_x hg ?_;refine l_1 hg ?_;refine c_s (Ge a b (by omega) hb (by omega)) ?_;refine a_4 ?_;refine au (n_k ?_);refine ak (Fin.many ⟨_,_,rfl,⟨_,_,_,_,_,rfl,rfl,rfl,.inl ⟨TG.h,_,TS.h,nle rfl,rfl⟩⟩,_,_,rfl,⟨_,_,_,_,_,rfl,rfl,rfl,.inl ⟨TG.h,_,TS.h,nle rfl,rfl⟩⟩,rfl⟩ (nle rfl) ?_);exact ai (ao ay (aB (ac (cm _) ag))) (ai (ao ay (aB (ac (cm _) ag))) aw)
 have hl2:2≤(av MB b).length:=by
  have h1:¬(av MB b).length=1:=by simp at V;omega
  have h0:(av MB b).length≠0:=fun e=>by
   rw[List.length_eq_zero_iff] at e;have:=(jR (b:=MB) (by decide)).1 e;omega
  omega
 refine an ?_
 -- the leading digit,the factor
 obtain⟨H,w⟩:∃d,(av MB b)[(av MB b).length- 1]?=some d:=⟨_,List.getElem?_eq_getElem (by omega)⟩;have hvt1:H< 1000000000:=cV (by decide) w
 have X:1≤H:=by
  have:=tJ (b:=MB) (by decide) b;rw[List.getLast?_eq_getElem?,w] at this;simp at this;omega
 have Z:(dE (av MB b))[(((av MB b).length:Int)- 1).toNat]?=some [u32 H]:=by rw[show(((av MB b).length:Int)- 1).toNat=(av MB b).length- 1 by omega];exact ea w
 obtain⟨sc1,sc2,F⟩:=FO X hvt1;have hsI:(1000000000:Int) / ((H:Int)+1)=((1000000000/ (H+1):Nat):Int):=by rw[show((H:Int)+1)=((H+1:Nat):Int) by omega];exact(Int.natCast_ediv _ _).symm
 have hs9:1000000000/ (H+1)≤500000000:=by
  have:1000000000/ (H+1)≤1000000000/ 2:=Nat.div_le_div_left (by omega) (by omega);omega
 obtain⟨s,hs⟩:∃s,s=1000000000/ (H+1):=⟨_,rfl⟩;rw[←hs] at sc1 sc2 F hsI hs9;have hsm:FS 130 [.v (.int .u64 ((1000000000:Int) / ((H:Int)+1)))] (.agg [mag s]):=by rw[hsI];exact io s (by omega)
 have hbls:bl s≤30:=ez (by omega);have hbs:=jz b s;have has:=jz a s;refine s_r 14 ?_;refine a_6 ?_;refine i_x Z ?_;refine l_1 Z ?_;refine a_1 ?_;refine o_0 (.bin rfl rfl (Cw (by omega))) ?_;refine o_0 (.conv rfl (cU64 (by rw[hsI];omega) tu_189.h tu_190.h)) ?_;refine c_s (hsm) ?_;refine a_z ?_;obtain⟨k,hk⟩:∃k,(av MB b).length=k+1:=⟨(av MB b).length- 1,by omega⟩;obtain⟨hVl,hb1,hv2,v1,lw,hv1,hvw,hlw,hv500,hv1b⟩:=D0 (s:=s) hk (by rw[hk] at w;exact w) X sc1 sc2;have Y:(dE (av MB (b* s)))[(((av MB (b* s)).length:Int)- 1).toNat]?=some [u32 v1]:=by rw[show(((av MB (b* s)).length:Int)- 1).toNat=k by omega];exact ea hv1
 have hab:=Bo (b:=MB) (by decide) hge
 have hU1:a* s< MB^ (av MB a).length* s:=by
  have:=gG (b:=MB) (ee (by decide) a);rw[va] at this;exact Nat.mul_lt_mul_of_pos_right this F
 have hUl:(av MB (a* s)).length≤(av MB a).length+1:=by
  refine gL (by decide) ?_;rw[Nat.pow_succ];have:MB^ (av MB a).length* s≤MB^ (av MB a).length* MB:=Nat.mul_le_mul_left _ (by show s≤1000000000;omega);omega
 have hcp:fL (List.replicate ((av MB a).length+1) [ofV (Value.int IntKind.u32 0)]) 0 (List.take (Nat.min (dE (av MB (a* s))).length ((av MB a).length+1)) (dE (av MB (a* s))))=dE (jL MB ((av MB a).length+1) (a* s)):=by
  rw[List.take_of_length_le (by rw[tM];exact Nat.le_min.2 ⟨Nat.le_refl _,hUl⟩),A2 (by rw[tM,List.length_replicate];exact hUl)];rw[←Ae (l:=av MB (a* s)++List.replicate ((av MB a).length+1- (av MB (a* s)).length) 0) ?_ ?_ ?_];rw[mf,←iV];simp[u32,ofV];intro d U;rcases List.mem_append.1 U with U|U
  exact ee (by decide) _ d U;simp at U;rw[U.2];decide;simp;omega;rw[iv,ta,bG (by decide)];simp
 refine r_c 5 (im b s (by omega)) ?_;refine a_z ?_;refine r_z 3 ?_;have hL0:((av MB a).length:Int)+1=(((av MB a).length+1:Nat):Int):=by omega
 refine s_r 6 ?_;refine a_4 ?_;refine o_1 (.makeSlice (congrArg (fun z=>some (AV.v (.int .i64 z))) hL0) (congrArg (fun z=>some (AV.v (.int .i64 z))) hL0) te_28.h TZ.h rfl TB.h (by first|omega|(simp;done)|(simp;omega)) (by first|omega|(simp;done)|(simp;omega)) (by unfold maxLen;first|omega|(simp;done)|(simp;omega))) ?_;refine a_z ?_;refine r_c 6 (im a s (by omega)) ?_;refine a_1 ?_;refine o_1 (.copy rfl rfl rfl te_28.h rfl rfl rfl (by first|(simp;done)|(simp;omega)) (by first|exact gf _|exact gd _|exact fc _|exact gi _|exact fW _|rfl|simp) rfl (.arr (Ap _))) ?_;refine au ?_;have hLI:(((av MB a).length+1:Nat):Int)- ((av MB (b* s)).length:Nat)=(((av MB a).length+1- (av MB (b* s)).length:Nat):Int):=by omega
 refine s_r 6 ?_;refine a_4 ?_;refine o_1 (.makeSlice (congrArg (fun z=>some (AV.v (.int .i64 z))) hLI) (congrArg (fun z=>some (AV.v (.int .i64 z))) hLI) te_28.h TZ.h rfl TB.h (by first|omega|(simp;done)|(simp;omega)) (by first|omega|(simp;done)|(simp;omega)) (by unfold maxLen;first|omega|(simp;done)|(simp;omega))) ?_;refine a_z ?_;refine ae (r_z 4 ?_)
 have hst:DivI (a* s) (b* s) (k+1) ((av MB a).length+1) (jL MB ((av MB a).length+1) (a* s)) [] ((av MB a).length+1- (k+1)):=by
  have hUL:a* s< MB^ ((av MB a).length+1):=by
   rw[Nat.pow_succ];have:MB^ (av MB a).length* s≤MB^ (av MB a).length* MB:=Nat.mul_le_mul_left _ (by show s≤1000000000;omega);omega
  exact DivI.start (by simp) (uH (by decide) _ _) (ri (by decide) hUL) (by omega) (by simpa using hb1) (by omega) rfl (by simpa using hU1)
 refine aH (ovS s (av MB (b* s)) ((av MB a).length+1)) (fun x=>DivI (a* s) (b* s) (k+1) ((av MB a).length+1) x.1 x.2.1 x.2.2∧x.2.2=0) ?_ ?_;refine am (aD (ovS s (av MB (b* s)) ((av MB a).length+1)) (fun x=>x.2.2) (fun x=>DivI (a* s) (b* s) (k+1) ((av MB a).length+1) x.1 x.2.1 x.2.2) (jL MB ((av MB a).length+1) (a* s),[],(av MB a).length+1- (av MB (b* s)).length) (by rw[hVl];exact hst) ?_ ?_);rw[ovS.eq_1];exact s_x [(1,4),(2,5),(3,6),(4,9),(5,10)] (fun hs=>eA) (fun hs=>e_24) e_23;rintro⟨R,T,j1⟩ c;simp only at c;rw[ovS.eq_1];refine ae (r_z 2 ?_);refine aq rfl (fun h3=>?_) (fun h3=>?_);have hj1:0< j1:=by have:=of_decide_eq_true h3;omega
 obtain⟨j,rfl⟩:∃j,j1=j+1:=⟨j1- 1,by omega⟩;have hRl:=c.len;have hkl:=c.k_le;obtain⟨p1,p2,p3,p4,p5⟩:=c.parts hv2;have o:=c.next hv2 (Nat.mul_pos hb F) rfl;obtain⟨A,hA⟩:∃A,A=(R.drop j).take (k+1+1):=⟨_,rfl⟩;obtain⟨n,K⟩:∃x,x=R.take j:=⟨_,rfl⟩;obtain⟨f,J⟩:∃x,x=R.drop (j+(k+1)+1):=⟨_,rfl⟩;obtain⟨p,hp⟩:∃p,p=ofD MB (R.drop j):=⟨_,rfl⟩;have G:n.length=j:=by rw[K];simp;omega
 rw[←hA,←hp] at p2;rw[←hp] at p3 o;rw[←hA] at p4;rw[←hA,←K,←J] at p5;rw[←K,←J] at o;have M:∀d∈A,d< MB:=fun d U=>c.dig d (List.mem_of_mem_drop (List.mem_of_mem_take (by rw[hA] at U;exact U)));obtain⟨L,hx0⟩:∃x,A[k]?=some x:=⟨_,List.getElem?_eq_getElem (by omega)⟩;obtain⟨E,hx1⟩:∃x,A[k+1]?=some x:=⟨_,List.getElem?_eq_getElem (by omega)⟩;have hx0b:L< 1000000000:=M L (List.mem_of_getElem? hx0);have hx1b:E< 1000000000:=M E (List.mem_of_getElem? hx1);obtain⟨lo,hlo,hlob⟩:=HQ p4 hx0 hx1 M;rw[p2] at hlo;obtain⟨gu1,gu2⟩:=Ii (b:=MB) (by decide) hlo hlob hvw hlw (by show 1000000000≤2* v1;omega) hv1b p3
 have hgR:∀i x,A[i]?=some x→(dE R)[0+(j+i)]?=some [u32 x]:=by
  intro i x hx;rw[Nat.zero_add];refine ea ?_;rw[p5,List.append_assoc,List.getElem?_append_right (by omega),List.getElem?_append_left (by have:=(List.getElem?_eq_some_iff.1 hx).1;omega)];rw[show j+i- n.length=i by omega];exact hx
 have hgN:(dE R)[0+((((j+1:Nat):Int)- 1)+((av MB (b* s)).length:Nat)).toNat]?=some [u32 E]:=by
  rw[show((((j+1:Nat):Int)- 1)+((av MB (b* s)).length:Nat)).toNat=j+(k+1) by omega];exact hgR _ _ hx1
 have hgM:(dE R)[0+((((j+1:Nat):Int)- 1)+((av MB (b* s)).length:Nat)- 1).toNat]?=some [u32 L]:=by
  rw[show((((j+1:Nat):Int)- 1)+((av MB (b* s)).length:Nat)- 1).toNat=j+k by omega];exact hgR _ _ hx0
 obtain⟨g,hg⟩:∃g,g=min ((E* 1000000000+L) / v1) 999999999:=⟨_,rfl⟩;have O:g≤999999999:=by rw[hg];exact Nat.min_le_right _ _
 have hgI:(if (999999999:Int)< ((E:Int) * 1000000000+L) / (v1:Int) then(999999999:Int) else((E:Int) * 1000000000+L) / (v1:Int))=(g:Int):=by
  have e1:((E:Int) * 1000000000+L) / (v1:Int)=(((E* 1000000000+L) / v1:Nat):Int):=by
   rw[show(E:Int) * 1000000000+L=((E* 1000000000+L:Nat):Int) by omega];exact(Int.natCast_ediv _ _).symm
  rw[e1,hg];generalize (E* 1000000000+L) / v1=Q;by_cases hQ:Q≤999999999;rw[if_neg (by omega),Nat.min_eq_left hQ];rw[if_pos (by omega),Nat.min_eq_right (by omega)];rfl
 rw[show MB- 1=999999999 from rfl,←hg] at gu1 gu2;refine an (ae (am (ae (r_d ba 18 ?_))));refine a_5 ?_;refine ci (.load_l1 rfl rfl hgN TG.h rfl) rfl rfl ?_;refine a_8 ?_;refine ci (.load_l1 rfl rfl hgM TG.h rfl) rfl rfl ?_;refine a_3 ?_;refine au (n_k ?_);refine s_r 10 ?_;refine a_4 ?_;refine i_x Y ?_;refine l_1 Y ?_;refine a_z ?_;refine s_r 12 ?_;refine a_8 ?_;refine a_2 ?_;refine o_0 (.sl_lhm rfl rfl (l:=j) (by omega) rfl (h:=j+(k+1)+1) (by omega) rfl (m:=j+(k+1)+1) (by omega) (by omega) te_28.h) ?_;refine a_z ?_
 refine AWp.ent (st':=⟨[(4,.lptr 1 0 0),(5,.lptr 2 0 0),(6,.lptr 3 0 0),(7,.arr (dE (av MB (b* s)))),(8,i64 (av MB (b* s)).length),(9,.lsl 4 0 ((av MB a).length+1) (some ((av MB a).length+1)) 1),(10,.lsl 5 0 ((av MB a).length+1- (av MB (b* s)).length) (some ((av MB a).length+1- (av MB (b* s)).length)) 1),(11,i64 (((j+1:Nat):Int)- 1)),(13,u64 g),(14,.lsl 4 j (k+1+1) (some (k+1+1)) 1)],
  [(1,some ⟨30,1,[[.emp]]⟩),(2,some ⟨30,1,[[.emp]]⟩),(3,some ⟨30,1,[[mag s]]⟩),(4,some ⟨189,1,dE (n++A++f)⟩),(5,some ⟨189,1,dE (List.replicate (j+1) 0++T)⟩)],6,142⟩) ?_ ?_
 refine s_x [] (fun hs=>?_) (fun hs=>?_) ?_
 ·repeat' (first|exact aS|refine az rfl ?_ ?_|exact Cv.loE hs (congrArg (fun z=>AV.v (.int .u64 z)) hgI) (ah _)|exact bm)
 ·repeat' (first|exact aI|refine h_c ?_ ?_|exact aT hs (congrArg dE p5) (b6 _)|exact cu|refine aG ?_|exact aw|refine ai ?_ ?_|exact Cv.loE hs (congrArg (fun z=>AV.v (.int .u64 z)) hgI) (ah _)|exact bm)
 ·repeat' (first|exact ShrL.nil|refine ShrL.cons rfl rfl rfl rfl (by first|(simp[←p5])|rfl|(simp;done)|(simp <;> omega)) ?_)
 have hV:=bG (b:=MB) (by decide) (b* s);have hVd:=ee (b:=MB) (by decide) (b* s)
 have B:∀D q,D+g* (b* s)=p+MB^ (k+1+1) * q→D< MB^ (k+1+1)→q≤1→ESpec Tryz.prog 189 189 1 (dE (n++A++f)) (dE (n++jL MB (k+1+1) D++f)) j (k+1+1) (some (k+1+1)) [.arr (dE (av MB (b* s))),u64 g] (.bool (q !=0)):=by
  intro D q h1 V h3;have:=BV n A f (av MB (b* s)) g D q (some (k+1+1)) M hVd (Nat.lt_of_le_of_lt O (by decide)) (by omega) (by omega) h3 (by rw[hV,p2,p4];exact h1) (by rw[p4];exact V);rw[G,p4] at this;exact this
 have t:∀D D' q,D'+MB^ (k+1+1) * q=D+b* s→D< MB^ (k+1+1)→D'< MB^ (k+1+1)→q≤1→ESpec Tryz.prog 190 189 1 (dE (n++jL MB (k+1+1) D++f)) (dE (n++jL MB (k+1+1) D'++f)) j (k+1+1) (some (k+1+1)) [.arr (dE (av MB (b* s)))] (.bool (q !=0)):=by
  intro D D' q h1 V h3 h4;have:=BW n (jL MB (k+1+1) D) f (av MB (b* s)) D' q (some (k+1+1)) (uH (by decide) _ _) hVd (by simp;omega) (by simp;omega) h4 (by rw[hV,k9,ri (by decide) V];exact h1) (by rw[k9];exact h3);rw[G,k9] at this;exact this
 have N:0< b* s:=Nat.mul_pos hb F;have m1:=Nat.mod_add_div p (b* s);have m2:=Nat.mod_lt p N
 have hBv:MB* (b* s)< MB^ (k+1+1):=by
  rw[Nat.pow_succ MB (k+1),Nat.mul_comm MB];exact Nat.mul_lt_mul_of_pos_right hv2 (by decide)
 have hgv:g* (b* s)≤MB* (b* s):=Nat.mul_le_mul_right _ (Nat.le_trans O (by decide));obtain⟨W,hW⟩:∃W,W=MB^ (k+1+1):=⟨_,rfl⟩;simp only[←hW] at B t hBv
 have hvW:b* s< W:=by
  have:1* (b* s)≤MB* (b* s):=Nat.mul_le_mul_right _ (by decide);omega
 refine bD (fun _:Unit=>⟨[(4,.lptr 1 0 0),(5,.lptr 2 0 0),(6,.lptr 3 0 0),(7,.arr (dE (av MB (b* s)))),(8,i64 (av MB (b* s)).length),(9,.lsl 4 0 ((av MB a).length+1) (some ((av MB a).length+1)) 1),(10,.lsl 5 0 ((av MB a).length+1- (av MB (b* s)).length) (some ((av MB a).length+1- (av MB (b* s)).length)) 1),(11,i64 (((j+1:Nat):Int)- 1)),(13,u64 (p/ (b* s):Nat))],
  [(1,some ⟨30,1,[[.emp]]⟩),(2,some ⟨30,1,[[.emp]]⟩),(3,some ⟨30,1,[[mag s]]⟩),(4,some ⟨189,1,dE (n++jL MB (k+1+1) (p % (b* s))++f)⟩),(5,some ⟨189,1,dE (List.replicate (j+1) 0++T)⟩)],6,142⟩) (fun _=>True) ?_ ?_
 by_cases hc:g* (b* s)≤p;have hgq:g=p/ (b* s):=Nat.le_antisymm ((Nat.le_div_iff_mul_le N).2 hc) gu1;have e1:p % (b* s)+g* (b* s)=p+W* 0:=by rw[hgq,Nat.mul_comm (p/ (b* s))];omega
 have hs1:=B (p % (b* s)) 0 e1 (by omega) (by omega);refine s_r 4 ?_;refine a_3 ?_;refine o_1 (.callE2 rfl rfl rfl rfl rfl rfl (hs1)) ?_;refine au ?_;refine cF (an ⟨(),trivial,?_⟩);have hgI2:u64 g=u64 (p/ (b* s):Nat):=by rw[←hgq]
 exact s_f [];have hc1:p< g* (b* s):=by omega
 have e1:(p+W- g* (b* s))+g* (b* s)=p+W* 1:=by omega
 have hs1:=B (p+W- g* (b* s)) 1 e1 (by omega) (by omega)
 have hgt:p/ (b* s)< g:=by
  rw[Nat.div_lt_iff_lt_mul N];exact hc1
 refine s_r 4 ?_;refine a_3 ?_;refine o_1 (.callE2 rfl rfl rfl rfl rfl rfl (hs1)) ?_;refine au ?_;refine aq rfl (fun h4=>?_) (fun h4=>?_);refine r_z 1 ?_;refine am ?_
 refine aD (ovM s (av MB (b* s)) ((av MB a).length+1) T n f j (k+1+1)) (fun x=>if x.2.2 then 0 else x.2.1+1)
  (fun x=>(x.2.2=true∧x.2.1=p/ (b* s)∧x.1=jL MB (k+1+1) (p % (b* s)))∨(x.2.2=false∧p/ (b* s)< x.2.1∧x.2.1≤999999999∧∃D,x.1=jL MB (k+1+1) D∧D+x.2.1* (b* s)=p+W∧D< W))
  (jL MB (k+1+1) (p+W- g* (b* s)),g,false) (.inr ⟨rfl,hgt,O,_,rfl,by simp only;omega,by omega⟩) ?_ ?_
 rw[ovM.eq_1];exact s_e [];rintro⟨A',u,made⟩ hin;rw[ovM.eq_1];refine ae (r_z 2 ?_);refine aq rfl (fun h5=>?_) (fun h5=>?_);have hm:made=false:=by simpa using h5
 subst hm;rcases hin with⟨S,_⟩|⟨_,S,h7,D,h8,h9,h10⟩
 cases S;simp only at S h7 h8 h9;subst h8;have hg0:1≤u:=Nat.lt_of_le_of_lt (Nat.zero_le _) S;refine an ?_;have hI:(u:Int)- 1=((u- 1:Nat):Int):=by omega
 have hq1:b* s* (p/ (b* s))=p- p % (b* s):=by omega
 by_cases hlast:u=p/ (b* s)+1
 have e2:p % (b* s)+W* 1=D+b* s:=by
  rw[hlast,Nat.add_mul,Nat.one_mul,Nat.mul_comm (p/ (b* s))] at h9;omega
 have hg1:=t D (p % (b* s)) 1 e2 h10 (by omega) (by omega);refine ae (am (r_m 4 ?_));refine a_2 ?_;refine o_1 (.callE2 rfl rfl rfl rfl rfl rfl (hg1)) ?_;refine a_z ?_;refine r_m 3 ?_;refine a_z ?_;refine⟨(jL MB (k+1+1) (p % (b* s)),u- 1,true),by simp,.inl ⟨rfl,by simp only;omega,rfl⟩,?_⟩;rw[ovM.eq_1];have:=(congrArg (fun z=>AV.v (.int .u64 z)) hI);exact s_f [];have y:p/ (b* s)< u- 1:=by omega
 have h11:(u- 1) * (b* s)+b* s=u* (b* s):=by
  conv=>rhs;rw[show u=(u- 1)+1 by omega,Nat.add_mul,Nat.one_mul]
 have h12:p< (u- 1) * (b* s):=by
  rw[Nat.div_lt_iff_lt_mul N] at y;exact y
 have hg1:=t D (D+b* s) 0 (by omega) h10 (by omega) (by omega);refine ae (am (r_m 4 ?_));refine a_2 ?_;refine o_1 (.callE2 rfl rfl rfl rfl rfl rfl (hg1)) ?_;refine a_z ?_;refine r_m 3 ?_;refine a_z ?_;refine⟨(jL MB (k+1+1) (D+b* s),u- 1,false),by simp;omega,.inr ⟨rfl,y,by simp only;omega,_,rfl,by simp only;omega,by omega⟩,?_⟩;rw[ovM.eq_1];have:=(congrArg (fun z=>AV.v (.int .u64 z)) hI);exact s_f [];have hm:made=true:=by simpa using h5
 subst hm;rcases hin with⟨_,S,h7⟩|⟨S,_⟩
 simp only at S h7;subst S h7;refine aA ⟨(),trivial,?_⟩;exact s_e [];cases S;cases h4;rintro _ _;have hq9:p/ (b* s)≤999999999:=Nat.le_trans gu1 O;obtain⟨q,hq⟩:∃q,q=p/ (b* s):=⟨_,rfl⟩;rw[←hq] at hq9 o⊢;have hrep:List.replicate (j+1) 0++T=List.replicate j 0++0::T:=by rw[List.replicate_succ'];simp
 have hgT:(dE (List.replicate (j+1) 0++T))[0+(((j+1:Nat):Int)- 1).toNat]?=some [u32 0]:=by
  rw[show 0+(((j+1:Nat):Int)- 1).toNat=j by omega,hrep];exact ea (rF _ _ _ _ (by simp))
 have C:(dE (List.replicate (j+1) 0++T)).set (0+(((j+1:Nat):Int)- 1).toNat) [u32 q]=dE (List.replicate j 0++(q::T)):=by
  rw[show 0+(((j+1:Nat):Int)- 1).toNat=j by omega,iU,hrep,qJ _ _ _ _ _ (by simp)];simp
 refine r_m 6 ?_;refine a_5 ?_;refine fY (.store rfl rfl hgT rfl rfl rfl TS.h (nle rfl)) ?_;refine au ?_;refine r_m 3 ?_;refine a_z ?_;refine⟨(n++jL MB (k+1+1) (p % (b* s))++f,q::T,j),by simp only;omega,o,?_⟩;rw[ovS.eq_1];refine s_x [] (fun hs=>eA) (fun hs=>?_) ?_
 ·repeat' (first|exact aI|refine h_c ?_ ?_|exact aT hs C (b6 _)|exact cu)
 ·repeat' (first|exact ShrL.nil|refine ShrL.cons rfl rfl rfl rfl (by first|(exact(congrArg List.length C))|rfl|(simp;done)|(simp <;> omega)) ?_)
 have hj:j1=0:=by have:=of_decide_eq_false h3;omega
 subst hj;refine aA ⟨(R,T,0),⟨c,rfl⟩,?_⟩;rw[ovS.eq_1];exact s_e [];rintro⟨R,T,j1⟩ ⟨c,hj⟩;simp only at c hj;subst hj;obtain⟨hq,hr⟩:=c.last rfl rfl hb F;rw[ovS.eq_1]
 refine AWp.ent (st':=⟨[(4,.lptr 1 0 0),(5,.lptr 2 0 0),(6,.lptr 3 0 0),(9,.arr (dE R)),(10,.arr (dE T))],
  [(1,some ⟨30,1,[[.emp]]⟩),(2,some ⟨30,1,[[.emp]]⟩),(3,some ⟨30,1,[[mag s]]⟩)],4,142⟩) ?_ ?_
 have hlen:=c.len;have hkl:=c.k_le;exact s_x [] (fun hs=>e_25) (fun hs=>e_26);have hRl:=c.len;have hkl:=c.k_le
 have hRt:FS 128 [.arr (dE R)] (.agg [mag (ofD MB R)]):=by
  have:=jl R (by omega);rwa[kD (b:=MB) (by decide) c.dig] at this
 have hTt:FS 128 [.arr (dE T)] (.agg [mag (ofD MB T)]):=by
  have:=jl T (by omega);rwa[kD (b:=MB) (by decide) c.digT] at this
 have hblr:bl (ofD MB R)≤bl b+30:=by
  have h1:=c.top;rw[List.drop_zero] at h1;have V:=dP (Nat.le_of_lt h1);omega
 have hov:=hrec hl2 (ofD MB R) s (by omega) (by omega) hblr;rw[hr] at hov;refine ae (r_d ba 11 ?_);refine c_s (hRt) ?_;refine c_s (hov) ?_;refine a_7 ?_;refine au (n_k ?_);refine ae (r_d ba 5 ?_);refine c_s (hTt) ?_;refine a_3 ?_;refine au (n_k ?_);refine ak (Fin.many ⟨_,_,rfl,⟨_,_,_,_,_,rfl,rfl,rfl,.inl ⟨TG.h,_,TS.h,nle rfl,rfl⟩⟩,_,_,rfl,⟨_,_,_,_,_,rfl,rfl,rfl,.inl ⟨TG.h,_,TS.h,nle rfl,rfl⟩⟩,rfl⟩ (nle rfl) ?_);rw[←hq];exact ai (ao ay (aB (ac (cm _) ag))) (ai (ao ay (aB (ac (cm _) ag))) aw)
theorem len1{b:Nat}(hb:b< 1000000000):(av MB b).length≤1:=gL (by decide) (by simpa using hb)
theorem uT(a b:Nat)(h:bl a+bl b≤4398046511104)(hb:0< b):FS 155 [.agg [mag a],.agg [mag b]] (.tup [.agg [mag (a/ b)],.agg [mag (a % b)]]):=
 Bf a b (by omega) hb fun _ r s hs c e=>Bf r s (by have:=ez (n:=s) (k:=30) (by omega);omega) hs fun d=>absurd d (by have:=len1 c;omega)
def pP(l:List Nat)(k:Nat):Option (List AV):=if k< l.length then some [i64 ((l.length- 1- k:Nat):Int),u32 (l.getD (l.length- 1- k) 0)] else none
theorem pJ(l:List Nat)(hl:l.length≤281474976710656):GSpec Tryz.prog 180 [.aptr [[.arr (dE l)]] 0 0] (pP l):=by
 have d:Closed (.aptr [[.arr (dE l)]] 0 0):=lj (fun e g c hc=>by simp at g;subst g;simp at hc;subst hc;exact di l);refine GSpec.enter Tryz.func180 rfl (by kernel_rfl) rfl rfl rfl ?_ ?_ rfl ?_;exact ac d ag;intro k xs h;unfold pP at h;split at h;cases h;exact ac (ah _) (ac (ah _) ag);cases h;intro b N E;refine GWp.seq ?_;refine GWp.lift ?_;refine r_m 4 ?_;refine a_z ?_;refine GWp.block ?_;refine GWp.loopS (fun m:Nat=>⟨[(0,.v (.func (.yield b) #[] #[])),(1,.aptr [[.arr (dE l)]] 0 0),(3,i64 ((m:Int)- 1))],[],1,19⟩) (fun m=>l.length- m) (fun m=>m) (fun m=>m≤l.length) l.length (Nat.le_refl _) (by simp) ?_ ?_;exact s_e [];intro m n;refine GWp.seq ?_;refine GWp.seq ?_;refine GWp.lift ?_;refine r_m 2 ?_;refine a_z ?_;refine GWp.cond rfl (fun h=>?_) (fun h=>?_)
 ·refine GWp.skip ?_
  have j:1≤m:=by have:=of_decide_eq_true h;omega
  obtain⟨x,f⟩:∃x,l[m- 1]?=some x:=⟨_,List.getElem?_eq_getElem (by omega)⟩;have a:(dE l)[((m:Int)- 1).toNat]?=some [u32 x]:=by rw[show((m:Int)- 1).toNat=m- 1 by omega];exact ea f
  refine GWp.seq ?_;refine GWp.block ?_;refine GWp.seq ?_;refine GWp.regY (fr2:=[(0,.v (.func (.yield b) #[] #[])),(1,.aptr [[.arr (dE l)]] 0 0),(3,i64 ((m:Int)- 1)),(11,.v (.func (.yield b) #[] #[])),(12,i64 ((m:Int)- 1)),(16,u32 x)]) (hp2:=[]) (nx2:=1) 6 rfl rfl rfl rfl rfl rfl ?_ rfl rfl rfl ?_ ?_ ?_;refine o_0 (.move rfl) ?_;refine o_0 (.move rfl) ?_;refine ci (.load_a1 rfl rfl TG.h rfl) rfl rfl ?_;refine o_0 (.move rfl) ?_;refine i_x a ?_;refine l_1 a ?_;refine au ?_;exact s_y [] (fun hs=>eA) (fun hs=>kX);rotate_left 2;intro i;refine o_0 (.un rfl pQ) ?_;refine au ?_;rotate_left;unfold pP;rw[if_pos (by omega)];simp only[List.map_cons,List.map_nil,coe,i64,u32,Option.some.injEq,List.cons.injEq,AV.v.injEq,Value.int.injEq,true_and,and_true];refine⟨by omega,?_⟩;rw[show l.length- 1- (l.length- m)=m- 1 by omega,List.getD_eq_getElem?_getD,f];rfl;exact ac (ah _) (ac (ah _) ag);cases i with
  |false=>
   refine GWp.cond rfl (fun h=>?_) (fun h=>?_);exact GWp.ret ⟨.inr rfl,fun h=>by cases h⟩;cases h
  |true=>
   refine GWp.cond rfl (fun h=>?_) (fun h=>?_);cases h;refine GWp.skip ?_;refine GWp.lift ?_;refine r_m 3 ?_;refine a_z ?_;refine⟨rfl,m- 1,by omega,by omega,by omega,?_⟩;exact s_e []
 refine GWp.exit ⟨.inl rfl,fun _=>?_⟩;have:m=0:=by have:=of_decide_eq_false h;omega
 subst this;unfold pP;rw[if_neg (by omega)]
theorem pL(l:List Nat):FS 147 [.arr (dE l)] (.clos 180 [] [.aptr [[.arr (dE l)]] 0 0]):=by
 refine f_n Tryz.func147 ?_ ?_;exact ac (di l) ag;refine r_z 2 ?_;refine r_z 2 ?_;refine ak (⟨.inr rfl,[_],⟨_,[],rfl,rfl,rfl⟩,?_⟩);exact Cv.clos aw (ai (Cv.sealp ay rfl (fun _ _ h=>by cases h) (by simp) (aG (ai (ao ay (di l)) aw))) aw)
def wordS(n:Nat):Nat→AState
 |k=>⟨[(3,.lptr 1 0 0),(8,.clos 180 [] [.aptr [[.arr (dE (av MB n))]] 0 0])],[(1,some ⟨190,1,[[u64 (ofD MB ((av MB n).drop ((av MB n).length- k)))]]⟩)],2,17⟩
theorem Fa(n:Nat)(h:(av MB n).length≤2):FS 187 [.agg [mag n]] (u64 n):=by
 have hb:=pL (av MB n);have hg:=pJ (av MB n) (by omega);have f:Closed (.aptr [[.arr (dE (av MB n))]] 0 0):=lj (fun e o c hc=>by simp at o;subst o;simp at hc;subst hc;exact di _);have m:Closed (.clos 180 [] [.aptr [[.arr (dE (av MB n))]] 0 0]):=aU ag (ac f ag);refine f_c Tryz.func187 ?_;refine r_z 2 ?_;refine r_z 2 ?_;refine ae (r_c 3 (hb) ?_);refine au ?_;refine aH (fun _:Unit=>⟨[(3,.lptr 1 0 0)],[(1,some ⟨190,1,[[u64 n]]⟩)],2,17⟩) (fun _=>True) ?_ ?_;refine am (AWp.rangeFunc (α:=Nat) (γ:=Empty) (av MB n).length (wordS n) (fun k=>k) (fun k=>k≤(av MB n).length) (fun e=>nomatch e) (fun _ e=>nomatch e) 0 rfl hg rfl rfl ?_ (fun _=>⟨rfl,rfl⟩) (fun e=>nomatch e) (Nat.zero_le _) rfl (fun _ h=>h) ?_ ?_ ?_ ?_ (fun _ e=>nomatch e));intro k xs a;unfold pP at a;split at a;cases a;rfl;cases a;rw[wordS.eq_1];have t:AV.v (.int .u64 0)=u64 ((ofD MB ((av MB n).drop ((av MB n).length- 0)):Nat):Int):=by simp[ofD,u64]
 exact s_t [(1,3)];exact ac f ag
 ·intro l k xs r a
  unfold pP at a;split at a;rotate_left;cases a;rename_i hlt;cases a;obtain⟨x,i⟩:∃x,(av MB n)[(av MB n).length- 1- k]?=some x:=⟨_,List.getElem?_eq_getElem (by omega)⟩;have p:x< 1000000000:=cV (by decide) i;have g:(av MB n).getD ((av MB n).length- 1- k) 0=x:=by rw[List.getD_eq_getElem?_getD,i];rfl
  rw[g];have hv:=lP MB i;rw[show(av MB n).length- 1- k+1=(av MB n).length- k by omega] at hv
  have j:ofD MB ((av MB n).drop ((av MB n).length- k))< 1000000000:=by
   have h1:=gG (b:=MB) (l:=(av MB n).drop ((av MB n).length- k)) fun d q=>ee (by decide) n d (List.mem_of_mem_drop q);have s:((av MB n).drop ((av MB n).length- k)).length≤1:=by simp;omega
   exact Nat.lt_of_lt_of_le h1 (Nat.pow_le_pow_right (by decide) s)
  show AWp _ _ _ _ ⟨[(10,u32 x),(9,i64 ((av MB n).length- 1- k:Nat)),(3,.lptr 1 0 0),(8,.clos 180 [] [.aptr [[.arr (dE (av MB n))]] 0 0]),(1003,.lptr 1 0 0),(1008,.clos 180 [] [.aptr [[.arr (dE (av MB n))]] 0 0])],[(1,some ⟨190,1,[[u64 (ofD MB ((av MB n).drop ((av MB n).length- k)))]]⟩)],2,17⟩;refine r_m 1 ?_;refine a_z ?_;refine am (r_m 6 ?_);refine a_z ?_;refine⟨k+1,⟨by omega,rfl⟩,?_⟩;show SEntT _ ⟨[(1003,.lptr 1 0 0),(1008,.clos 180 [] [.aptr [[.arr (dE (av MB n))]] 0 0])],[(1,some ⟨190,1,[[u64 (ofD MB ((av MB n).drop ((av MB n).length- (k+1))))]]⟩)],2,17⟩
  have h1:AV.v (.int .u64 ((ofD MB ((av MB n).drop ((av MB n).length- k)):Nat) * 1000000000+(x:Int)))=u64 ((ofD MB ((av MB n).drop ((av MB n).length- (k+1))):Nat):Int):=by
   rw[show(av MB n).length- (k+1)=(av MB n).length- 1- k by omega,hv];simp[u64];omega
  exact s_t []
 intro k r a;unfold pP at a;split at a;cases a;refine⟨(),trivial,?_⟩;rw[wordS.eq_1]
 have h1:ofD MB ((av MB n).drop ((av MB n).length- k))=n:=by
  rw[show(av MB n).length- k=0 by omega,List.drop_zero,bG (by decide)]
 rw[h1];exact s_e [];rintro _ _;refine r_z 2 ?_;refine ak (aY rfl rfl (ah _))
def Aq:Nat×Nat→AState
 |(p,q)=>⟨[(2,.lptr 1 0 0),(3,.lptr 2 0 0),(4,.lptr 3 0 0)],[(1,some ⟨30,1,[[mag p]]⟩),(2,some ⟨30,1,[[mag q]]⟩),(3,some ⟨30,1,[[.emp]]⟩)],4,43⟩
theorem kQ(p:Nat)(q:Nat):Aq (p,q)=⟨[(2,.lptr 1 0 0),(3,.lptr 2 0 0),(4,.lptr 3 0 0)],[(1,some ⟨30,1,[[mag p]]⟩),(2,some ⟨30,1,[[mag q]]⟩),(3,some ⟨30,1,[[.emp]]⟩)],4,43⟩:=rfl
def GS:Nat×Nat→AState
 |(x,y)=>⟨[(4,.lptr 3 0 0),(5,u64 x),(6,u64 y)],[(3,some ⟨30,1,[[.emp]]⟩)],4,43⟩
theorem sN(x:Nat)(y:Nat):GS (x,y)=⟨[(4,.lptr 3 0 0),(5,u64 x),(6,u64 y)],[(3,some ⟨30,1,[[.emp]]⟩)],4,43⟩:=rfl
theorem Bv(p q:Nat):Nat.gcd q (p % q)=Nat.gcd p q:=by
 rw[Nat.gcd_comm p q,Nat.gcd_rec q p,Nat.gcd_comm]
theorem Eo{n:Nat}(h:(av MB n).length≤2):n< 1000000000000000000:=by
 have h1:=gG (b:=MB) (ee (by decide) n);rw[bG (by decide)] at h1;exact Nat.lt_of_lt_of_le h1 (Nat.pow_le_pow_right (by decide) h)
theorem Gl(a b:Nat)(h:bl a+bl b≤4398046511104):FS 153 [.agg [mag a],.agg [mag b]] (.agg [mag (Nat.gcd a b)]):=by
 refine f_c Tryz.func153 ?_;refine r_z 3 ?_;refine bD Aq (fun x=>x.1=Nat.gcd a b) ?_ ?_;refine am (aD Aq (fun x=>x.2) (fun x=>Nat.gcd x.1 x.2=Nat.gcd a b∧bl x.1+bl x.2≤4398046511104) (a,b) ⟨rfl,h⟩ ?_ ?_);rw[kQ];exact s_e [];rintro⟨p,q⟩ ⟨hg,hb⟩;simp only at hg hb;rw[kQ];have o:=E9 (av MB q);refine ae (r_c 3 (o) ?_);refine a_z ?_;refine aq rfl (fun i=>?_) (fun i=>?_)
 have f:0< q:=by
  rcases Nat.eq_zero_or_pos q with e|e
  subst e;rw[cP] at i;simp at i;exact e
 refine an (am (bD (fun _:Unit=>⟨[(2,.lptr 1 0 0),(3,.lptr 2 0 0),(4,.lptr 3 0 0)],[(1,some ⟨30,1,[[mag p]]⟩),(2,some ⟨30,1,[[mag q]]⟩),(3,some ⟨30,1,[[.emp]]⟩)],4,43⟩) (fun _=>True) ?_ ?_));by_cases hl:(av MB p).length≤2;by_cases hl2:(av MB q).length≤2;have j:=Eo hl;have k:=Eo hl2;refine s_r 10 ?_;refine a_5 ?_;refine y_g rfl (by simp;omega) (.fieldAddr_l rfl TF.h (by decide)) ?_;refine y_g rfl (by simp;omega) (.load_l1 rfl rfl rfl TG.h rfl) ?_;refine y_g rfl (by simp;omega) (.lenD rfl rfl rfl rfl te_28.h) ?_;refine y_g rfl (by simp;omega) (.bin rfl rfl dH) ?_;refine o_0 (.pickT rfl (by simp;omega) rfl) ?_;refine au ?_;refine aq rfl (fun h1=>?_) (fun h1=>?_);refine ae (r_d ba 6 ?_);refine c_s (Fa p hl) ?_;refine c_s (Fa q hl2) ?_;refine a_2 ?_;refine au (n_k ?_);refine bD (fun x:Nat=>⟨[(4,.lptr 3 0 0),(5,u64 x)],[(3,some ⟨30,1,[[.emp]]⟩)],4,43⟩) (fun x=>x=Nat.gcd a b) ?_ ?_;refine am (aD GS (fun x=>x.2) (fun x=>Nat.gcd x.1 x.2=Nat.gcd a b∧x.1< 1000000000000000000∧x.2< 1000000000000000000) (p,q) ⟨hg,j,k⟩ ?_ ?_);rw[sN];exact s_e [];rintro⟨x,y⟩ ⟨d,r,l⟩;simp only at d r l;rw[sN];refine ae (r_z 2 ?_);refine aq rfl (fun m=>?_) (fun m=>?_);have c:0< y:=by simp at m;omega
 refine an (am (r_d ba 6 ?_));refine a_6 ?_;refine au (n_k ?_);refine⟨(y,x % y),Nat.mod_lt _ c,⟨(Bv x y).trans d,l,Nat.lt_trans (Nat.mod_lt _ c) l⟩,?_⟩;rw[sN];exact s_e [];have c:y=0:=by simp at m;omega
 subst c;refine aA ⟨x,by simpa using d,?_⟩;exact s_e [];rintro x rfl
 have g:Nat.gcd a b< 18446744073709551616:=by
  rw[←hg];have h1:Nat.gcd p q≤q:=Nat.gcd_le_right _ f;omega
 refine r_c 3 (io _ g) ?_;refine a_z ?_;exact ak (dV rfl rfl rfl TG.h TS.h (nle rfl) rfl (aB (ac (cm _) ag)));exact absurd h1 (by simp;omega);refine s_r 10 ?_;refine a_5 ?_;refine y_g rfl (by simp;omega) (.fieldAddr_l rfl TF.h (by decide)) ?_;refine y_g rfl (by simp;omega) (.load_l1 rfl rfl rfl TG.h rfl) ?_;refine y_g rfl (by simp;omega) (.lenD rfl rfl rfl rfl te_28.h) ?_;refine y_g rfl (by simp;omega) (.bin rfl rfl dH) ?_;refine o_0 (.pickT rfl (by simp;omega) rfl) ?_;refine au ?_;refine aq rfl (fun h=>?_) (fun _=>an ⟨(),trivial,?_⟩);exact absurd h (by simp;omega);exact s_e [];refine s_r 10 ?_;refine a_5 ?_;refine n_g rfl (by simp;omega) ?_;refine n_g rfl (by simp;omega) ?_;refine n_g rfl (by simp;omega) ?_;refine n_g rfl (by simp;omega) ?_;refine o_0 (.pickF rfl (by simp;omega) rfl) ?_;refine au ?_;refine aq rfl (fun h=>?_) (fun _=>an ⟨(),trivial,?_⟩);cases h;exact s_e [];rintro _ _;refine r_c 10 (uT p q hb f) ?_;refine a_z ?_;refine r_d ba 4 ?_;refine a_4 ?_;refine au (n_k ?_);refine⟨(q,p % q),Nat.mod_lt _ f,⟨(Bv p q).trans hg,?_⟩,?_⟩;have:=dP (Nat.mod_le p q);simp only;omega;rw[kQ];exact s_e []
 have f:q=0:=by
  rcases Nat.eq_zero_or_pos q with e|e
  exact e
  have:(av MB q).length≠0:=fun n=>by
   rw[List.length_eq_zero_iff] at n;have:=(jR (b:=MB) (by decide)).1 n;omega
  simp[this] at i
 subst f;refine aA ⟨(p,0),?_,?_⟩;simpa using hg;rw[kQ];exact s_e [];rintro⟨p,q⟩ hp;simp only at hp;subst hp;rw[kQ];refine r_z 2 ?_;refine ak (dV rfl rfl rfl TG.h TS.h (nle rfl) rfl (aB (ac (cm _) ag)))
theorem GD(n:Nat):((av MB n).length==0)=(n==0):=by
 rw[Bool.eq_iff_iff];simp only[beq_iff_eq,List.length_eq_zero_iff];exact jR (by decide)
theorem nX(n:Nat):FS 100 [.agg [mag n]] (bln (n==0)):=by
 rw[←GD];exact E9 _
theorem fz(b:Bool)(m:Nat):FS 133 [bln b,.agg [mag m]] (.agg (zI (sgn b m))):=by
 have e:AV.agg (zI (sgn b m))= .agg [mag m,bln (b && !(m==0))]:=by unfold zI;rw[gD,sgn_neg]
 rw[e];refine f_c Tryz.func133 ?_;cases b with
 |true=>
  refine r_z 2 ?_;refine ae (r_d ba 9 ?_);refine a_3 ?_;refine y_g rfl d_t (.load_l rfl rfl rfl TG.h TS.h (nle rfl)) ?_;refine y_g rfl d_t (.call rfl rfl rfl (nX m)) ?_;refine y_g rfl d_t (.un rfl pQ) ?_;refine o_0 (.pickT rfl d_t rfl) ?_;refine a_2 ?_;refine au (n_k ?_);exact ak (c_e (aB (ac (cm m) (ac (ah _) ag))))
 |false=>
  refine r_z 2 ?_;refine ae (r_d ba 9 ?_);refine a_3 ?_;refine n_g rfl d_f ?_;refine n_g rfl d_f ?_;refine n_g rfl d_f ?_;refine o_0 (.pickF rfl d_f rfl) ?_;refine a_2 ?_;refine au (n_k ?_);exact ak (c_e (aB (ac (cm m) (ac (ah _) ag))))
theorem IC(z:Int):FS 54 [.agg (zI z)] (i64 (sgZ z)):=by
 refine f_c Tryz.func54 ?_;refine r_z 2 ?_;refine bD (fun _:Unit=>⟨[],[],1,10⟩) (fun _=>0< z) ?_ ?_;refine am (r_c 4 (nX z.natAbs) ?_);refine a_z ?_;refine aq rfl (fun h=>?_) (fun h=>?_);refine r_z 1 ?_;refine ak (aY rfl ?_ (ah _));have:z=0:=by simpa using h
 simp[i64,sgZ,this,ofV];have a:z≠0:=by simpa using h
 refine r_z 3 ?_;refine aq rfl (fun h1=>?_) (fun h1=>?_);refine r_z 1 ?_;refine ak (aY rfl ?_ (ah _));have:z< 0:=by simpa using h1
 simp[i64,sgZ,this,a,ofV];have:¬z< 0:=by simpa using h1
 refine an ⟨(),by omega,?_⟩;exact s_e [];rintro _ h1;refine r_z 1 ?_;refine ak (aY rfl ?_ (ah _));simp only[i64,sgZ];rw[if_neg (by omega),if_neg (by omega)];rfl
theorem cx(q:Rat):FS 16 [.agg (qC q)] (i64 (sgZ q.num)):=by
 refine f_c Tryz.func16 ?_;refine r_z 2 ?_;refine r_c 4 (IC q.num) ?_;refine a_z ?_;exact ak (t_e (ah _))
theorem sgn_mul(a b:Bool)(m n:Nat):sgn a m* sgn b n=sgn (a !=b) (m* n):=by
 cases a <;> cases b <;> simp[sgn,Int.neg_mul,Int.mul_neg]
theorem y2(a:Bool)(m n:Nat):sgn a m+sgn a n=sgn a (m+n):=by
 cases a <;> simp[sgn]<;> omega
theorem C0{a b:Bool}(h:a≠b){m n:Nat}(hl:m≤n):sgn a m+sgn b n=sgn b (n- m):=by
 cases a <;> cases b <;> simp[sgn] at h⊢ <;> omega
theorem C1{a b:Bool}(h:a≠b){m n:Nat}(hl:n≤m):sgn a m+sgn b n=sgn a (m- n):=by
 cases a <;> cases b <;> simp[sgn] at h⊢ <;> omega
theorem zQ(x y:Int)(h:bl x.natAbs+bl y.natAbs≤17592186044416):FS 104 [.agg (zI x),.agg (zI y)] (.agg (zI (x* y))):=by
 have e:x* y=sgn (decide (x< 0) !=decide (y< 0)) (x.natAbs* y.natAbs):=by
  rw[←sgn_mul,qH,qH]
 rw[e];refine f_c Tryz.func104 ?_;refine r_z 3 ?_;refine ae (r_d ba 12 ?_);refine c_s (im x.natAbs y.natAbs h) ?_;refine c_s (fz (decide (x< 0) !=decide (y< 0)) (x.natAbs* y.natAbs)) ?_;refine a_1 ?_;refine au (n_k ?_);exact ak (c_e (ju _))
theorem fs_iadd(x y:Int)(h:bl x.natAbs+bl y.natAbs≤17592186044416):FS 113 [.agg (zI x),.agg (zI y)] (.agg (zI (x+y))):=by
 obtain⟨a,ha⟩:∃a,a=decide (x< 0):=⟨_,rfl⟩;obtain⟨b,hb⟩:∃b,b=decide (y< 0):=⟨_,rfl⟩;have ex:x=sgn a x.natAbs:=by rw[ha,qH]
 have i:y=sgn b y.natAbs:=by rw[hb,qH]
 refine f_c Tryz.func113 ?_;refine r_z 3 ?_;refine bD (fun _:Unit=>⟨[(2,.lptr 1 0 0),(3,.lptr 2 0 0),(4,.lptr 3 0 0)],[(1,some ⟨32,2,[zI x]⟩),(2,some ⟨32,2,[zI y]⟩),(3,some ⟨32,2,[[.emp,bln false]]⟩)],4,42⟩) (fun _=>a≠b∧y.natAbs≤x.natAbs) ?_ ?_;refine am (r_z 6 ?_);refine aq rfl (fun h1=>?_) (fun h1=>?_);have c:a=b:=by rw[ha,hb];simpa using h1
 have e:x+y=sgn (decide (x< 0)) (x.natAbs+y.natAbs):=by
  conv=>lhs;rw[ex,i,←c]
  rw[y2,ha]
 rw[e];refine ae (r_d ba 9 ?_);refine c_s (zM x.natAbs y.natAbs h) ?_;refine c_s (fz (decide (x< 0)) (x.natAbs+y.natAbs)) ?_;refine a_1 ?_;refine au (n_k ?_);exact ak (c_e (ju _));have c:a≠b:=by rw[ha,hb];simpa using h1
 refine r_c 7 (qh x.natAbs y.natAbs h) ?_;refine a_z ?_;refine aq rfl (fun g=>?_) (fun g=>?_)
 have f:x.natAbs< y.natAbs:=by
  have:=of_decide_eq_true g;unfold fm at this;split at this;omega;split at this <;> omega
 have e:x+y=sgn (decide (y< 0)) (y.natAbs- x.natAbs):=by
  conv=>lhs;rw[ex,i]
  rw[C0 c (Nat.le_of_lt f),hb]
 rw[e];refine ae (r_d ba 9 ?_);refine c_s (zP y.natAbs x.natAbs (by omega) (Nat.le_of_lt f)) ?_;refine c_s (fz (decide (y< 0)) (y.natAbs- x.natAbs)) ?_;refine a_1 ?_;refine au (n_k ?_);exact ak (c_e (ju _))
 have d:y.natAbs≤x.natAbs:=by
  have:=of_decide_eq_false g;unfold fm at this;split at this;omega;split at this <;> omega
 refine an ⟨(),⟨c,d⟩,?_⟩;exact s_e [];rintro _ ⟨c,d⟩
 have e:x+y=sgn (decide (x< 0)) (x.natAbs- y.natAbs):=by
  conv=>lhs;rw[ex,i]
  rw[C1 c d,ha]
 rw[e];refine ae (r_d ba 9 ?_);refine c_s (zP x.natAbs y.natAbs (by omega) d) ?_;refine c_s (fz (decide (x< 0)) (x.natAbs- y.natAbs)) ?_;refine a_1 ?_;refine au (n_k ?_);exact ak (c_e (ju _))
theorem BB(n:Int)(h: -9223372036854775808≤n∧n≤9223372036854775807):FS 76 [i64 n] (.agg (zI n)):=by
 refine f_c Tryz.func76 ?_;refine r_z 1 ?_;refine ae (r_z 2 ?_);refine aq rfl (fun h1=>?_) (fun h1=>?_);have b:n< 0:=of_decide_eq_true h1;have e:n=sgn true n.natAbs:=by simp[sgn];omega
 have a:18446744073709551616- (n+18446744073709551616)=((n.natAbs:Nat):Int):=by omega
 have hs:FS 130 [.v (.int .u64 (18446744073709551616- (n+18446744073709551616)))] (.agg [mag n.natAbs]):=by rw[a];exact io _ (by omega)
 refine s_r 6 ?_;refine a_1 ?_;refine o_0 (.conv rfl (cU64n (by omega) tu_2.h tu_190.h)) ?_;refine o_0 (.un rfl (G5 (by omega))) ?_;refine c_s (hs) ?_;refine c_s (fz true n.natAbs) ?_;refine a_z ?_;refine ak (dV rfl rfl rfl TG.h TS.h (nle rfl) ?_ ?_);show _=AV.agg (zI n)
 conv=>rhs;rw[e]
 rfl;exact ju _;refine an ?_;have b:0≤n:=by have:=of_decide_eq_false h1;omega
 have e:n=sgn false n.natAbs:=by simp[sgn];omega
 have a:n=((n.natAbs:Nat):Int):=by omega
 have hs:FS 130 [.v (.int .u64 n)] (.agg [mag n.natAbs]):=by
  have:=io n.natAbs (by omega);rwa[u64,←a] at this
 refine s_r 5 ?_;refine a_1 ?_;refine o_0 (.conv rfl (cU64 (by omega) tu_2.h tu_190.h)) ?_;refine c_s (hs) ?_;refine c_s (fz false n.natAbs) ?_;refine a_z ?_;refine ak (dV rfl rfl rfl TG.h TS.h (nle rfl) ?_ ?_);show _=AV.agg (zI n)
 conv=>rhs;rw[e]
 rfl;exact ju _
theorem H3:mag 0= .arr []:=by unfold mag;rw[cP];rfl
theorem rH(n:Int):FS 75 [.agg (zI n)] (.agg (qC n)):=by
 have e:qC (n:Rat)=[mag n.natAbs,bln (decide (n< 0)),mag 0]:=rfl;rw[e];refine f_c Tryz.func75 ?_;refine r_z 2 ?_;refine r_z 3 ?_;refine ak (Fin.cell rfl rfl rfl TG.h TS.h (nle rfl) (Cv.agg (ai (ao ay (cm _)) (ai (ao ay (ah _)) (ai (Cv.emp _ H3) aw)))))
theorem ej(n:Int)(h: -9223372036854775808≤n∧n≤9223372036854775807):FS 24 [i64 n] (.agg (qC n)):=by
 refine f_c Tryz.func24 ?_;refine r_z 1 ?_;refine r_c 4 (BB n h) ?_;refine c_s (rH n) ?_;refine a_z ?_;exact ak (c_e (aP _))
theorem fC(q:Rat)(h:qs q≤1099511627776):FS 73 [.agg (qC q)] (.agg [mag q.den]):=by
 have hp:=q.den_pos;have b:=ei q;have e:q.den=q.den- 1+1:=by omega
 have a:=dP (show q.den- 1≤q.den by omega);have h1:bl 1=1:=j2;refine f_c Tryz.func73 ?_;refine r_z 2 ?_;refine ae (r_d ba 5 ?_);refine c_s (io 1 (by decide)) ?_;refine c_s (zM (q.den- 1) 1 (by omega)) ?_;refine a_1 ?_;refine au (n_k ?_);refine ak (dV rfl rfl rfl TG.h TS.h (nle rfl) ?_ ?_);show AV.agg [mag (q.den- 1+1)]=_;rw[←e];exact closed_mA _
theorem rI(n:Int)(d:Nat)(hd:0< d)(h:bl n.natAbs+bl d≤2199023255552):FS 103 [.agg (zI n),.agg [mag d]] (.agg (qC (mkRat n d))):=by
 obtain⟨g,hg⟩:∃g,g=Nat.gcd n.natAbs d:=⟨_,rfl⟩;have a:0< g:=by rw[hg];exact Nat.gcd_pos_of_pos_right _ hd
 have b:g≤d:=by rw[hg];exact Nat.gcd_le_right _ hd
 have k:=dP b;have i:=fG n.natAbs g;have j:=fG d g;have f:0< d/ g:=Nat.div_pos b a
 have c:AV.agg (qC (mkRat n d))= .agg (zI (sgn (decide (n< 0)) (n.natAbs/ g))++[mag (d/ g- 1)]):=by
  unfold qC;rw[ki hd,(lR hd).2,←hg];rfl
 rw[c];have hc:=Gl n.natAbs d (by omega);rw[←hg] at hc;refine f_c Tryz.func103 ?_;refine r_z 3 ?_;refine ae (r_c 6 (hc) ?_);refine a_z ?_;refine r_c 3 (fs_one g) ?_;refine a_z ?_;refine aH (fun _:Unit=>⟨[(2,.lptr 1 0 0),(3,.lptr 2 0 0),(4,.lptr 3 0 0)],[(1,some ⟨32,2,[[mag (n.natAbs/ g),bln (decide (n< 0))]]⟩),(2,some ⟨30,1,[[mag (d/ g)]]⟩),(3,some ⟨34,3,[[.emp,bln false,.emp]]⟩)],4,36⟩) (fun _=>True) ?_ ?_;refine aq rfl (fun h1=>?_) (fun h1=>?_);refine r_c 9 (uT n.natAbs g (by omega) a) ?_;refine a_z ?_;refine r_m 7 ?_;refine c_s (uT d g (by omega) a) ?_;refine a_z ?_;refine⟨(),trivial,?_⟩;exact s_e [];have e:g=1:=by simpa using h1
 subst e;refine an ⟨(),trivial,?_⟩;rw[Nat.div_one,Nat.div_one];exact s_e [];rintro _ _;refine ae (r_d ba 10 ?_);refine c_s (fz (decide (n< 0)) (n.natAbs/ g)) ?_;refine c_s (io 1 (by decide)) ?_;refine c_s (zP (d/ g) 1 (by omega) f) ?_;refine a_2 ?_;refine au (n_k ?_);exact ak (c_e (aB (ac (cm _) (ac (ah _) (ac (cm _) ag)))))
end Go.Proofs.YtkhclghbcicapaaGreatDoor
