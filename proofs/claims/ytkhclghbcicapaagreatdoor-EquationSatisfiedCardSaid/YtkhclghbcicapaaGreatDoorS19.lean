/- Part S19 of the proof. -/
import Derived.Test.YtkhclghbcicapaaGreatDoorS18
import Derived.Lib.UnsafeStr
import Derived.Lib.Builder
set_option linter.all false
namespace Go.Proofs.YtkhclghbcicapaaGreatDoor
open Go.Abs
set_option maxRecDepth 20000
set_option maxHeartbeats 1000000
def ovS(s:Nat)(V:List Nat)(L:Nat):List Nat×List Nat×Nat→AState
 |(R,T,k)=>⟨[(4,.lptr 1 0 0),(5,.lptr 2 0 0),(6,.lptr 3 0 0),(7,.arr (dE V)),(8,i64 V.length),(9,.lsl 4 0 L (some L) 1),(10,.lsl 5 0 (L- V.length) (some (L- V.length)) 1),(11,i64 ((k:Int)- 1))],
  [(1,some ⟨30,1,[[.emp]]⟩),(2,some ⟨30,1,[[.emp]]⟩),(3,some ⟨30,1,[[mag s]]⟩),(4,some ⟨189,1,dE R⟩),(5,some ⟨189,1,dE (List.replicate k 0++T)⟩)],6,142⟩
def ovM(s:Nat)(V:List Nat)(L:Nat)(T:List Nat)(pre:List Nat)(post:List Nat)(j:Nat)(n:Nat):List Nat×Nat×Bool→AState
 |(A,g,made)=>⟨[(4,.lptr 1 0 0),(5,.lptr 2 0 0),(6,.lptr 3 0 0),(7,.arr (dE V)),(8,i64 V.length),(9,.lsl 4 0 L (some L) 1),(10,.lsl 5 0 (L- V.length) (some (L- V.length)) 1),(11,i64 (((j+1:Nat):Int)- 1)),(13,u64 g),(14,.lsl 4 j n (some n) 1),(15,bln made)],
  [(1,some ⟨30,1,[[.emp]]⟩),(2,some ⟨30,1,[[.emp]]⟩),(3,some ⟨30,1,[[mag s]]⟩),(4,some ⟨189,1,dE (pre++A++post)⟩),(5,some ⟨189,1,dE (List.replicate (j+1) 0++T)⟩)],6,142⟩
theorem yK (a b:Nat) (h:bl a+bl b≤8796093022208) (hb:0< b)
    (hrec:2≤(aw MB b).length→∀r s,0< s→s< 1000000000→bl r≤bl b+30→FS 155 [.agg [mag r],.agg [mag s]] (.tup [.agg [mag (r/ s)],.agg [mag (r % s)]])):
    FS 155 [.agg [mag a],.agg [mag b]] (.tup [.agg [mag (a/ b)],.agg [mag (a % b)]]):=by
 have hla:=bJ (b:=MB) (by decide) a;have hlb:=bJ (b:=MB) (by decide) b;have va:=bq (b:=MB) (by decide) a;have vb:=bq (b:=MB) (by decide) b;refine f_c Tryz.func155 ?_;refine r_z 4 ?_;refine ae (aj (r_c 5 (nY a b (by omega)) ?_));refine a_z ?_;refine ap rfl (fun h=>?_) (fun h=>?_)
 have hlt:a< b:=by
  have h1:=of_decide_eq_true h;unfold eg at h1;split at h1;omega;split at h1 <;> omega
 refine ae (r_d aY 4 ?_);refine a_4 ?_;refine ao (n_k ?_);refine ai ?_;rw[Nat.div_eq_of_lt hlt,Nat.mod_eq_of_lt hlt];refine Fin.many ⟨_,_,rfl,⟨_,_,_,_,_,rfl,rfl,rfl,.inl ⟨TG.h,_,TS.h,nle rfl,rfl⟩⟩,_,_,rfl,⟨_,_,_,_,_,rfl,rfl,rfl,.inl ⟨TG.h,_,TS.h,nle rfl,rfl⟩⟩,rfl⟩ (nle rfl) ?_;refine ah (Cv.agg (ah (Cv.emp _ ?_) av)) (ah (ak aD (aA (ac (bY a) af))) av);unfold mag;rw[cm];rfl
 have hge:b≤a:=by
  have h1:=of_decide_eq_false h;refine Nat.le_of_not_lt fun hlt=>h1 ?_;rw[k9 (by omega)];decide
 refine r_z 5 ?_;refine ap rfl (fun V=>?_) (fun V=>?_);have hl1:(aw MB b).length=1:=by simp at V;omega
 have hbm:b< 1000000000:=by
  have:=fi (b:=MB) (dr (by decide) b);rw[vb,hl1] at this;simpa using this
 have hg:(dE (aw MB b))[(0:Int).toNat]?=some [u32 b]:=by rw[B2 hb hbm];rfl
 refine ae (r_d aY 10 ?_);refine a_3 ?_;refine i_x hg ?_;refine l_1 hg ?_;refine c_s (En a b (by omega) hb (by omega)) ?_;refine a_4 ?_;refine ao (n_k ?_);refine ai (Fin.many ⟨_,_,rfl,⟨_,_,_,_,_,rfl,rfl,rfl,.inl ⟨TG.h,_,TS.h,nle rfl,rfl⟩⟩,_,_,rfl,⟨_,_,_,_,_,rfl,rfl,rfl,.inl ⟨TG.h,_,TS.h,nle rfl,rfl⟩⟩,rfl⟩ (nle rfl) ?_);exact ah (ak aD (aA (ac (bY _) af))) (ah (ak aD (aA (ac (bY _) af))) av)
 have hl2:2≤(aw MB b).length:=by
  have h1:¬(aw MB b).length=1:=by simp at V;omega
  have h0:(aw MB b).length≠0:=fun e=>by
   rw[List.length_eq_zero_iff] at e;have:=(iG (b:=MB) (by decide)).1 e;omega
  omega
 refine am ?_
 -- the leading digit,the factor
 obtain⟨E,C⟩:∃d,(aw MB b)[(aw MB b).length- 1]?=some d:=⟨_,List.getElem?_eq_getElem (by omega)⟩;have hvt1:E< 1000000000:=cu (by decide) C
 have hvt0:1≤E:=by
  have:=qK (b:=MB) (by decide) b;rw[List.getLast?_eq_getElem?,C] at this;simp at this;omega
 have Z:(dE (aw MB b))[(((aw MB b).length:Int)- 1).toNat]?=some [u32 E]:=by rw[show(((aw MB b).length:Int)- 1).toNat=(aw MB b).length- 1 by omega];exact dp C
 obtain⟨sc1,sc2,H⟩:=D0 hvt0 hvt1;have hsI:(1000000000:Int) / ((E:Int)+1)=((1000000000/ (E+1):Nat):Int):=by rw[show((E:Int)+1)=((E+1:Nat):Int) by omega];exact(Int.natCast_ediv _ _).symm
 have hs9:1000000000/ (E+1)≤500000000:=by
  have:1000000000/ (E+1)≤1000000000/ 2:=Nat.div_le_div_left (by omega) (by omega);omega
 obtain⟨s,hs⟩:∃s,s=1000000000/ (E+1):=⟨_,rfl⟩;rw[←hs] at sc1 sc2 H hsI hs9;have hsm:FS 130 [.v (.int .u64 ((1000000000:Int) / ((E:Int)+1)))] (.agg [mag s]):=by rw[hsI];exact fU s (by omega)
 have hbls:bl s≤30:=gP (by omega);have hbs:=iw b s;have has:=iw a s;refine s_r 14 ?_;refine a_6 ?_;refine i_x Z ?_;refine l_1 Z ?_;refine a_1 ?_;refine o_0 (.bin rfl rfl (Am (by omega))) ?_;refine o_0 (.conv rfl (cU64 (by rw[hsI];omega) tu_189.h tu_190.h)) ?_;refine c_s (hsm) ?_;refine a_z ?_;obtain⟨k,hk⟩:∃k,(aw MB b).length=k+1:=⟨(aw MB b).length- 1,by omega⟩;obtain⟨hVl,hb1,hv2,v1,lw,hv1,hvw,hlw,hv500,hv1b⟩:=BY (s:=s) hk (by rw[hk] at C;exact C) hvt0 sc1 sc2;have hv1':(dE (aw MB (b* s)))[(((aw MB (b* s)).length:Int)- 1).toNat]?=some [u32 v1]:=by rw[show(((aw MB (b* s)).length:Int)- 1).toNat=k by omega];exact dp hv1
 have hab:=yX (b:=MB) (by decide) hge
 have hU1:a* s< MB^ (aw MB a).length* s:=by
  have:=fi (b:=MB) (dr (by decide) a);rw[va] at this;exact Nat.mul_lt_mul_of_pos_right this H
 have hUl:(aw MB (a* s)).length≤(aw MB a).length+1:=by
  refine fo (by decide) ?_;rw[Nat.pow_succ];have:MB^ (aw MB a).length* s≤MB^ (aw MB a).length* MB:=Nat.mul_le_mul_left _ (by show s≤1000000000;omega);omega
 have hcp:eN (List.replicate ((aw MB a).length+1) [ofV (Value.int IntKind.u32 0)]) 0 (List.take (Nat.min (dE (aw MB (a* s))).length ((aw MB a).length+1)) (dE (aw MB (a* s))))=dE (iD MB ((aw MB a).length+1) (a* s)):=by
  rw[List.take_of_length_le (by rw[qM];exact Nat.le_min.2 ⟨Nat.le_refl _,hUl⟩),yu (by rw[qM,List.length_replicate];exact hUl)];rw[←xI (l:=aw MB (a* s)++List.replicate ((aw MB a).length+1- (aw MB (a* s)).length) 0) ?_ ?_ ?_];rw[ku,←gM];simp[u32,ofV];intro d M;rcases List.mem_append.1 M with M|M
  exact dr (by decide) _ d M;simp at M;rw[M.2];decide;simp;omega;rw[fZ,qk,bq (by decide)];simp
 refine r_c 5 (fT b s (by omega)) ?_;refine a_z ?_;refine r_z 3 ?_;have hL0:((aw MB a).length:Int)+1=(((aw MB a).length+1:Nat):Int):=by omega
 refine s_r 6 ?_;refine a_4 ?_;refine o_1 (.makeSlice (congrArg (fun z=>some (AV.v (.int .i64 z))) hL0) (congrArg (fun z=>some (AV.v (.int .i64 z))) hL0) te_28.h TZ.h rfl TB.h (by first|omega|(simp;done)|(simp;omega)) (by first|omega|(simp;done)|(simp;omega)) (by unfold maxLen;first|omega|(simp;done)|(simp;omega))) ?_;refine a_z ?_;refine r_c 6 (fT a s (by omega)) ?_;refine a_1 ?_;refine o_1 (.copy rfl rfl rfl te_28.h rfl rfl rfl (by first|(simp;done)|(simp;omega)) (by first|exact eE _|exact eA _|exact dJ _|exact eG _|exact er _|rfl|simp) rfl (.arr (xU _))) ?_;refine ao ?_;have hLI:(((aw MB a).length+1:Nat):Int)- ((aw MB (b* s)).length:Nat)=(((aw MB a).length+1- (aw MB (b* s)).length:Nat):Int):=by omega
 refine s_r 6 ?_;refine a_4 ?_;refine o_1 (.makeSlice (congrArg (fun z=>some (AV.v (.int .i64 z))) hLI) (congrArg (fun z=>some (AV.v (.int .i64 z))) hLI) te_28.h TZ.h rfl TB.h (by first|omega|(simp;done)|(simp;omega)) (by first|omega|(simp;done)|(simp;omega)) (by unfold maxLen;first|omega|(simp;done)|(simp;omega))) ?_;refine a_z ?_;refine ae (r_z 4 ?_)
 have hst:DivI (a* s) (b* s) (k+1) ((aw MB a).length+1) (iD MB ((aw MB a).length+1) (a* s)) [] ((aw MB a).length+1- (k+1)):=by
  have hUL:a* s< MB^ ((aw MB a).length+1):=by
   rw[Nat.pow_succ];have:MB^ (aw MB a).length* s≤MB^ (aw MB a).length* MB:=Nat.mul_le_mul_left _ (by show s≤1000000000;omega);omega
  exact DivI.start (by simp) (rN (by decide) _ _) (oT (by decide) hUL) (by omega) (by simpa using hb1) (by omega) rfl (by simpa using hU1)
 refine aH (ovS s (aw MB (b* s)) ((aw MB a).length+1)) (fun x=>DivI (a* s) (b* s) (k+1) ((aw MB a).length+1) x.1 x.2.1 x.2.2∧x.2.2=0) ?_ ?_;refine aj (aB (ovS s (aw MB (b* s)) ((aw MB a).length+1)) (fun x=>x.2.2) (fun x=>DivI (a* s) (b* s) (k+1) ((aw MB a).length+1) x.1 x.2.1 x.2.2) (iD MB ((aw MB a).length+1) (a* s),[],(aw MB a).length+1- (aw MB (b* s)).length) (by rw[hVl];exact hst) ?_ ?_);rw[ovS.eq_1];exact s_x [(1,4),(2,5),(3,6),(4,9),(5,10)] (fun hs=>dG) (fun hs=>e_30) e_29;rintro⟨R,T,j1⟩ c;simp only at c;rw[ovS.eq_1];refine ae (r_z 2 ?_);refine ap rfl (fun h3=>?_) (fun h3=>?_);have hj1:0< j1:=by have:=of_decide_eq_true h3;omega
 obtain⟨j,rfl⟩:∃j,j1=j+1:=⟨j1- 1,by omega⟩;have hRl:=c.len;have hkl:=c.k_le;obtain⟨p1,p2,p3,p4,p5⟩:=c.parts hv2;have o:=c.next hv2 (Nat.mul_pos hb H) rfl;obtain⟨A,hA⟩:∃A,A=(R.drop j).take (k+1+1):=⟨_,rfl⟩;obtain⟨n,y⟩:∃x,x=R.take j:=⟨_,rfl⟩;obtain⟨f,L⟩:∃x,x=R.drop (j+(k+1)+1):=⟨_,rfl⟩;obtain⟨p,hp⟩:∃p,p=ofD MB (R.drop j):=⟨_,rfl⟩;have w:n.length=j:=by rw[y];simp;omega
 rw[←hA,←hp] at p2;rw[←hp] at p3 o;rw[←hA] at p4;rw[←hA,←y,←L] at p5;rw[←y,←L] at o;have N:∀d∈A,d< MB:=fun d M=>c.dig d (List.mem_of_mem_drop (List.mem_of_mem_take (by rw[hA] at M;exact M)));obtain⟨B,hx0⟩:∃x,A[k]?=some x:=⟨_,List.getElem?_eq_getElem (by omega)⟩;obtain⟨J,hx1⟩:∃x,A[k+1]?=some x:=⟨_,List.getElem?_eq_getElem (by omega)⟩;have hx0b:B< 1000000000:=N B (List.mem_of_getElem? hx0);have hx1b:J< 1000000000:=N J (List.mem_of_getElem? hx1);obtain⟨lo,hlo,hlob⟩:=FO p4 hx0 hx1 N;rw[p2] at hlo;obtain⟨gu1,gu2⟩:=Gg (b:=MB) (by decide) hlo hlob hvw hlw (by show 1000000000≤2* v1;omega) hv1b p3
 have hgR:∀i x,A[i]?=some x→(dE R)[0+(j+i)]?=some [u32 x]:=by
  intro i x hx;rw[Nat.zero_add];refine dp ?_;rw[p5,List.append_assoc,List.getElem?_append_right (by omega),List.getElem?_append_left (by have:=(List.getElem?_eq_some_iff.1 hx).1;omega)];rw[show j+i- n.length=i by omega];exact hx
 have hgN:(dE R)[0+((((j+1:Nat):Int)- 1)+((aw MB (b* s)).length:Nat)).toNat]?=some [u32 J]:=by
  rw[show((((j+1:Nat):Int)- 1)+((aw MB (b* s)).length:Nat)).toNat=j+(k+1) by omega];exact hgR _ _ hx1
 have hgM:(dE R)[0+((((j+1:Nat):Int)- 1)+((aw MB (b* s)).length:Nat)- 1).toNat]?=some [u32 B]:=by
  rw[show((((j+1:Nat):Int)- 1)+((aw MB (b* s)).length:Nat)- 1).toNat=j+k by omega];exact hgR _ _ hx0
 obtain⟨g,hg⟩:∃g,g=min ((J* 1000000000+B) / v1) 999999999:=⟨_,rfl⟩;have U:g≤999999999:=by rw[hg];exact Nat.min_le_right _ _
 have hgI:(if (999999999:Int)< ((J:Int) * 1000000000+B) / (v1:Int) then(999999999:Int) else((J:Int) * 1000000000+B) / (v1:Int))=(g:Int):=by
  have e1:((J:Int) * 1000000000+B) / (v1:Int)=(((J* 1000000000+B) / v1:Nat):Int):=by
   rw[show(J:Int) * 1000000000+B=((J* 1000000000+B:Nat):Int) by omega];exact(Int.natCast_ediv _ _).symm
  rw[e1,hg];generalize (J* 1000000000+B) / v1=Q;by_cases hQ:Q≤999999999;rw[if_neg (by omega),Nat.min_eq_left hQ];rw[if_pos (by omega),Nat.min_eq_right (by omega)];rfl
 rw[show MB- 1=999999999 from rfl,←hg] at gu1 gu2;refine am (ae (aj (ae (r_d aY 18 ?_))));refine a_5 ?_
 first|refine aO (.load_l1 rfl rfl hgN TG.h rfl) rfl rfl ?_|refine aO (.load_a1 rfl hgN TG.h rfl) rfl rfl ?_
 refine a_8 ?_
 first|refine aO (.load_l1 rfl rfl hgM TG.h rfl) rfl rfl ?_|refine aO (.load_a1 rfl hgM TG.h rfl) rfl rfl ?_
 refine a_3 ?_;refine ao (n_k ?_);refine s_r 10 ?_;refine a_4 ?_;refine i_x hv1' ?_;refine l_1 hv1' ?_;refine a_z ?_;refine s_r 12 ?_;refine a_8 ?_;refine a_2 ?_;refine o_0 (.sl_lhm rfl rfl (l:=j) (by omega) rfl (h:=j+(k+1)+1) (by omega) rfl (m:=j+(k+1)+1) (by omega) (by omega) te_28.h) ?_;refine a_z ?_
 refine AWp.ent (st':=⟨[(4,.lptr 1 0 0),(5,.lptr 2 0 0),(6,.lptr 3 0 0),(7,.arr (dE (aw MB (b* s)))),(8,i64 (aw MB (b* s)).length),(9,.lsl 4 0 ((aw MB a).length+1) (some ((aw MB a).length+1)) 1),(10,.lsl 5 0 ((aw MB a).length+1- (aw MB (b* s)).length) (some ((aw MB a).length+1- (aw MB (b* s)).length)) 1),(11,i64 (((j+1:Nat):Int)- 1)),(13,u64 g),(14,.lsl 4 j (k+1+1) (some (k+1+1)) 1)],
  [(1,some ⟨30,1,[[.emp]]⟩),(2,some ⟨30,1,[[.emp]]⟩),(3,some ⟨30,1,[[mag s]]⟩),(4,some ⟨189,1,dE (n++A++f)⟩),(5,some ⟨189,1,dE (List.replicate (j+1) 0++T)⟩)],6,142⟩) ?_ ?_
 refine s_x [] (fun hs=>?_) (fun hs=>?_) ?_
 ·repeat' (first|exact aK|refine az rfl ?_ ?_|exact Cv.loE hs (congrArg (fun z=>AV.v (.int .u64 z)) hgI) (ag _)|exact aW)
 ·repeat' (first|exact aE|refine h_c ?_ ?_|exact aI hs (congrArg dE p5) (bH _)|exact bF|refine aC ?_|exact av|refine ah ?_ ?_|exact Cv.loE hs (congrArg (fun z=>AV.v (.int .u64 z)) hgI) (ag _)|exact aW)
 ·repeat' (first|exact ShrL.nil|refine ShrL.cons rfl rfl rfl rfl (by first|(simp[←p5])|rfl|(simp;done)|(simp <;> omega)) ?_)
 have hV:=bq (b:=MB) (by decide) (b* s);have hVd:=dr (b:=MB) (by decide) (b* s)
 have K:∀D q,D+g* (b* s)=p+MB^ (k+1+1) * q→D< MB^ (k+1+1)→q≤1→ESpec Tryz.prog 189 189 1 (dE (n++A++f)) (dE (n++iD MB (k+1+1) D++f)) j (k+1+1) (some (k+1+1)) [.arr (dE (aw MB (b* s))),u64 g] (.bool (q !=0)):=by
  intro D q h1 V h3;have:=zP n A f (aw MB (b* s)) g D q (some (k+1+1)) N hVd (Nat.lt_of_le_of_lt U (by decide)) (by omega) (by omega) h3 (by rw[hV,p2,p4];exact h1) (by rw[p4];exact V);rw[w,p4] at this;exact this
 have t:∀D D' q,D'+MB^ (k+1+1) * q=D+b* s→D< MB^ (k+1+1)→D'< MB^ (k+1+1)→q≤1→ESpec Tryz.prog 190 189 1 (dE (n++iD MB (k+1+1) D++f)) (dE (n++iD MB (k+1+1) D'++f)) j (k+1+1) (some (k+1+1)) [.arr (dE (aw MB (b* s)))] (.bool (q !=0)):=by
  intro D D' q h1 V h3 h4;have:=zQ n (iD MB (k+1+1) D) f (aw MB (b* s)) D' q (some (k+1+1)) (rN (by decide) _ _) hVd (by simp;omega) (by simp;omega) h4 (by rw[hV,jH,oT (by decide) V];exact h1) (by rw[jH];exact h3);rw[w,jH] at this;exact this
 have S:0< b* s:=Nat.mul_pos hb H;have m1:=Nat.mod_add_div p (b* s);have m2:=Nat.mod_lt p S
 have hBv:MB* (b* s)< MB^ (k+1+1):=by
  rw[Nat.pow_succ MB (k+1),Nat.mul_comm MB];exact Nat.mul_lt_mul_of_pos_right hv2 (by decide)
 have hgv:g* (b* s)≤MB* (b* s):=Nat.mul_le_mul_right _ (Nat.le_trans U (by decide));obtain⟨W,hW⟩:∃W,W=MB^ (k+1+1):=⟨_,rfl⟩;simp only[←hW] at K t hBv
 have hvW:b* s< W:=by
  have:1* (b* s)≤MB* (b* s):=Nat.mul_le_mul_right _ (by decide);omega
 refine bh (fun _:Unit=>⟨[(4,.lptr 1 0 0),(5,.lptr 2 0 0),(6,.lptr 3 0 0),(7,.arr (dE (aw MB (b* s)))),(8,i64 (aw MB (b* s)).length),(9,.lsl 4 0 ((aw MB a).length+1) (some ((aw MB a).length+1)) 1),(10,.lsl 5 0 ((aw MB a).length+1- (aw MB (b* s)).length) (some ((aw MB a).length+1- (aw MB (b* s)).length)) 1),(11,i64 (((j+1:Nat):Int)- 1)),(13,u64 (p/ (b* s):Nat))],
  [(1,some ⟨30,1,[[.emp]]⟩),(2,some ⟨30,1,[[.emp]]⟩),(3,some ⟨30,1,[[mag s]]⟩),(4,some ⟨189,1,dE (n++iD MB (k+1+1) (p % (b* s))++f)⟩),(5,some ⟨189,1,dE (List.replicate (j+1) 0++T)⟩)],6,142⟩) (fun _=>True) ?_ ?_
 by_cases hc:g* (b* s)≤p;have hgq:g=p/ (b* s):=Nat.le_antisymm ((Nat.le_div_iff_mul_le S).2 hc) gu1;have e1:p % (b* s)+g* (b* s)=p+W* 0:=by rw[hgq,Nat.mul_comm (p/ (b* s))];omega
 have hs1:=K (p % (b* s)) 0 e1 (by omega) (by omega);refine s_r 4 ?_;refine a_3 ?_;refine o_1 (.callE2 rfl rfl rfl rfl rfl rfl (hs1)) ?_;refine ao ?_;refine cF (am ⟨(),trivial,?_⟩);have hgI2:u64 g=u64 (p/ (b* s):Nat):=by rw[←hgq]
 exact s_f [];have hc1:p< g* (b* s):=by omega
 have e1:(p+W- g* (b* s))+g* (b* s)=p+W* 1:=by omega
 have hs1:=K (p+W- g* (b* s)) 1 e1 (by omega) (by omega)
 have hgt:p/ (b* s)< g:=by
  rw[Nat.div_lt_iff_lt_mul S];exact hc1
 refine s_r 4 ?_;refine a_3 ?_;refine o_1 (.callE2 rfl rfl rfl rfl rfl rfl (hs1)) ?_;refine ao ?_;refine ap rfl (fun h4=>?_) (fun h4=>?_);refine r_z 1 ?_;refine aj ?_
 refine aB (ovM s (aw MB (b* s)) ((aw MB a).length+1) T n f j (k+1+1)) (fun x=>if x.2.2 then 0 else x.2.1+1)
  (fun x=>(x.2.2=true∧x.2.1=p/ (b* s)∧x.1=iD MB (k+1+1) (p % (b* s)))∨(x.2.2=false∧p/ (b* s)< x.2.1∧x.2.1≤999999999∧∃D,x.1=iD MB (k+1+1) D∧D+x.2.1* (b* s)=p+W∧D< W))
  (iD MB (k+1+1) (p+W- g* (b* s)),g,false) (.inr ⟨rfl,hgt,U,_,rfl,by simp only;omega,by omega⟩) ?_ ?_
 rw[ovM.eq_1];exact s_e [];rintro⟨A',u,Y⟩ hin;rw[ovM.eq_1];refine ae (r_z 2 ?_);refine ap rfl (fun h5=>?_) (fun h5=>?_);have hm:Y=false:=by simpa using h5
 subst hm;rcases hin with⟨O,_⟩|⟨_,O,h7,D,h8,h9,h10⟩
 cases O;simp only at O h7 h8 h9;subst h8;have hg0:1≤u:=Nat.lt_of_le_of_lt (Nat.zero_le _) O;refine am ?_;have hI:(u:Int)- 1=((u- 1:Nat):Int):=by omega
 have hq1:b* s* (p/ (b* s))=p- p % (b* s):=by omega
 by_cases hlast:u=p/ (b* s)+1
 have e2:p % (b* s)+W* 1=D+b* s:=by
  rw[hlast,Nat.add_mul,Nat.one_mul,Nat.mul_comm (p/ (b* s))] at h9;omega
 have hg1:=t D (p % (b* s)) 1 e2 h10 (by omega) (by omega);refine ae (aj (r_m 4 ?_));refine a_2 ?_;refine o_1 (.callE2 rfl rfl rfl rfl rfl rfl (hg1)) ?_;refine a_z ?_;refine r_m 3 ?_;refine a_z ?_;refine⟨(iD MB (k+1+1) (p % (b* s)),u- 1,true),by simp,.inl ⟨rfl,by simp only;omega,rfl⟩,?_⟩;rw[ovM.eq_1];have:=(congrArg (fun z=>AV.v (.int .u64 z)) hI);exact s_f [];have G:p/ (b* s)< u- 1:=by omega
 have h11:(u- 1) * (b* s)+b* s=u* (b* s):=by
  conv=>rhs;rw[show u=(u- 1)+1 by omega,Nat.add_mul,Nat.one_mul]
 have h12:p< (u- 1) * (b* s):=by
  rw[Nat.div_lt_iff_lt_mul S] at G;exact G
 have hg1:=t D (D+b* s) 0 (by omega) h10 (by omega) (by omega);refine ae (aj (r_m 4 ?_));refine a_2 ?_;refine o_1 (.callE2 rfl rfl rfl rfl rfl rfl (hg1)) ?_;refine a_z ?_;refine r_m 3 ?_;refine a_z ?_;refine⟨(iD MB (k+1+1) (D+b* s),u- 1,false),by simp;omega,.inr ⟨rfl,G,by simp only;omega,_,rfl,by simp only;omega,by omega⟩,?_⟩;rw[ovM.eq_1];have:=(congrArg (fun z=>AV.v (.int .u64 z)) hI);exact s_f [];have hm:Y=true:=by simpa using h5
 subst hm;rcases hin with⟨_,O,h7⟩|⟨O,_⟩
 simp only at O h7;subst O h7;refine ay ⟨(),trivial,?_⟩;exact s_e [];cases O;cases h4;rintro _ _;have hq9:p/ (b* s)≤999999999:=Nat.le_trans gu1 U;obtain⟨q,hq⟩:∃q,q=p/ (b* s):=⟨_,rfl⟩;rw[←hq] at hq9 o⊢;have X:List.replicate (j+1) 0++T=List.replicate j 0++0::T:=by rw[List.replicate_succ'];simp
 have hgT:(dE (List.replicate (j+1) 0++T))[0+(((j+1:Nat):Int)- 1).toNat]?=some [u32 0]:=by
  rw[show 0+(((j+1:Nat):Int)- 1).toNat=j by omega,X];exact dp (o8 _ _ _ _ (by simp))
 have F:(dE (List.replicate (j+1) 0++T)).set (0+(((j+1:Nat):Int)- 1).toNat) [u32 q]=dE (List.replicate j 0++(q::T)):=by
  rw[show 0+(((j+1:Nat):Int)- 1).toNat=j by omega,gL,X,oC _ _ _ _ _ (by simp)];simp
 refine r_m 6 ?_;refine a_5 ?_;refine dX (.store rfl rfl hgT rfl rfl rfl TS.h (nle rfl)) ?_;refine ao ?_;refine r_m 3 ?_;refine a_z ?_;refine⟨(n++iD MB (k+1+1) (p % (b* s))++f,q::T,j),by simp only;omega,o,?_⟩;rw[ovS.eq_1];refine s_x [] (fun hs=>dG) (fun hs=>?_) ?_
 ·repeat' (first|exact aE|refine h_c ?_ ?_|exact aI hs F (bH _)|exact bF)
 ·repeat' (first|exact ShrL.nil|refine ShrL.cons rfl rfl rfl rfl (by first|(exact(congrArg List.length F))|rfl|(simp;done)|(simp <;> omega)) ?_)
 have hj:j1=0:=by have:=of_decide_eq_false h3;omega
 subst hj;refine ay ⟨(R,T,0),⟨c,rfl⟩,?_⟩;rw[ovS.eq_1];exact s_e [];rintro⟨R,T,j1⟩ ⟨c,hj⟩;simp only at c hj;subst hj;obtain⟨hq,hr⟩:=c.last rfl rfl hb H;rw[ovS.eq_1]
 refine AWp.ent (st':=⟨[(4,.lptr 1 0 0),(5,.lptr 2 0 0),(6,.lptr 3 0 0),(9,.arr (dE R)),(10,.arr (dE T))],
  [(1,some ⟨30,1,[[.emp]]⟩),(2,some ⟨30,1,[[.emp]]⟩),(3,some ⟨30,1,[[mag s]]⟩)],4,142⟩) ?_ ?_
 have hlen:=c.len;have hkl:=c.k_le;exact s_x [] (fun hs=>e_31) (fun hs=>e_32);have hRl:=c.len;have hkl:=c.k_le
 have hRt:FS 128 [.arr (dE R)] (.agg [mag (ofD MB R)]):=by
  have:=ii R (by omega);rwa[jh (b:=MB) (by decide) c.dig] at this
 have hTt:FS 128 [.arr (dE T)] (.agg [mag (ofD MB T)]):=by
  have:=ii T (by omega);rwa[jh (b:=MB) (by decide) c.digT] at this
 have hblr:bl (ofD MB R)≤bl b+30:=by
  have h1:=c.top;rw[List.drop_zero] at h1;have V:=dt (Nat.le_of_lt h1);omega
 have hov:=hrec hl2 (ofD MB R) s (by omega) (by omega) hblr;rw[hr] at hov;refine ae (r_d aY 11 ?_);refine c_s (hRt) ?_;refine c_s (hov) ?_;refine a_7 ?_;refine ao (n_k ?_);refine ae (r_d aY 5 ?_);refine c_s (hTt) ?_;refine a_3 ?_;refine ao (n_k ?_);refine ai (Fin.many ⟨_,_,rfl,⟨_,_,_,_,_,rfl,rfl,rfl,.inl ⟨TG.h,_,TS.h,nle rfl,rfl⟩⟩,_,_,rfl,⟨_,_,_,_,_,rfl,rfl,rfl,.inl ⟨TG.h,_,TS.h,nle rfl,rfl⟩⟩,rfl⟩ (nle rfl) ?_);rw[←hq];exact ah (ak aD (aA (ac (bY _) af))) (ah (ak aD (aA (ac (bY _) af))) av)
theorem len1{b:Nat}(hb:b< 1000000000):(aw MB b).length≤1:=fo (by decide) (by simpa using hb)
theorem r7(a b:Nat)(h:bl a+bl b≤4398046511104)(hb:0< b):FS 155 [.agg [mag a],.agg [mag b]] (.tup [.agg [mag (a/ b)],.agg [mag (a % b)]]):=
 yK a b (by omega) hb fun _ r s hs c e=>yK r s (by have:=gP (n:=s) (k:=30) (by omega);omega) hs fun d=>absurd d (by have:=len1 c;omega)
def nG(l:List Nat)(k:Nat):Option (List AV):=if k< l.length then some [i64 ((l.length- 1- k:Nat):Int),u32 (l.getD (l.length- 1- k) 0)] else none
theorem nC(l:List Nat)(hl:l.length≤281474976710656):GSpec Tryz.prog 180 [.aptr [[.arr (dE l)]] 0 0] (nG l):=by
 have b:Closed (.aptr [[.arr (dE l)]] 0 0):=jM (fun e f c hc=>by simp at f;subst f;simp at hc;subst hc;exact cO l);refine GSpec.enter Tryz.func180 rfl (by kernel_rfl) rfl rfl rfl ?_ ?_ rfl ?_;exact ac b af;intro k xs h;unfold nG at h;split at h;cases h;exact ac (ag _) (ac (ag _) af);cases h;intro d N E;refine GWp.seq ?_;refine GWp.lift ?_;refine r_m 4 ?_;refine a_z ?_;refine GWp.block ?_;refine GWp.loopS (fun m:Nat=>⟨[(0,.v (.func (.yield d) #[] #[])),(1,.aptr [[.arr (dE l)]] 0 0),(3,i64 ((m:Int)- 1))],[],1,19⟩) (fun m=>l.length- m) (fun m=>m) (fun m=>m≤l.length) l.length (Nat.le_refl _) (by simp) ?_ ?_;exact s_e [];intro m n;refine GWp.seq ?_;refine GWp.seq ?_;refine GWp.lift ?_;refine r_m 2 ?_;refine a_z ?_;refine GWp.cond rfl (fun h=>?_) (fun h=>?_)
 ·refine GWp.skip ?_
  have i:1≤m:=by have:=of_decide_eq_true h;omega
  obtain⟨x,g⟩:∃x,l[m- 1]?=some x:=⟨_,List.getElem?_eq_getElem (by omega)⟩;have a:(dE l)[((m:Int)- 1).toNat]?=some [u32 x]:=by rw[show((m:Int)- 1).toNat=m- 1 by omega];exact dp g
  refine GWp.seq ?_;refine GWp.block ?_;refine GWp.seq ?_;refine GWp.regY (fr2:=[(0,.v (.func (.yield d) #[] #[])),(1,.aptr [[.arr (dE l)]] 0 0),(3,i64 ((m:Int)- 1)),(11,.v (.func (.yield d) #[] #[])),(12,i64 ((m:Int)- 1)),(16,u32 x)]) (hp2:=[]) (nx2:=1) 6 rfl rfl rfl rfl rfl rfl ?_ rfl rfl rfl ?_ ?_ ?_;refine o_0 (.move rfl) ?_;refine o_0 (.move rfl) ?_;refine aO (.load_a1 rfl rfl TG.h rfl) rfl rfl ?_;refine o_0 (.move rfl) ?_;refine i_x a ?_;refine l_1 a ?_;refine ao ?_;exact s_y [] (fun hs=>dG) (fun hs=>kI);rotate_left 2;intro j;refine o_0 (.un rfl kL) ?_;refine ao ?_;rotate_left;unfold nG;rw[if_pos (by omega)];simp only[List.map_cons,List.map_nil,coe,i64,u32,Option.some.injEq,List.cons.injEq,AV.v.injEq,Value.int.injEq,true_and,and_true];refine⟨by omega,?_⟩;rw[show l.length- 1- (l.length- m)=m- 1 by omega,List.getD_eq_getElem?_getD,g];rfl;exact ac (ag _) (ac (ag _) af);cases j with
  |false=>
   refine GWp.cond rfl (fun h=>?_) (fun h=>?_);exact GWp.ret ⟨.inr rfl,fun h=>by cases h⟩;cases h
  |true=>
   refine GWp.cond rfl (fun h=>?_) (fun h=>?_);cases h;refine GWp.skip ?_;refine GWp.lift ?_;refine r_m 3 ?_;refine a_z ?_;refine⟨rfl,m- 1,by omega,by omega,by omega,?_⟩;exact s_e []
 refine GWp.exit ⟨.inl rfl,fun _=>?_⟩;have:m=0:=by have:=of_decide_eq_false h;omega
 subst this;unfold nG;rw[if_neg (by omega)]
theorem nE(l:List Nat):FS 147 [.arr (dE l)] (.clos 180 [] [.aptr [[.arr (dE l)]] 0 0]):=by
 refine f_n Tryz.func147 ?_ ?_;exact ac (cO l) af;refine r_z 2 ?_;refine r_z 2 ?_;refine ai (⟨.inr rfl,[_],⟨_,[],rfl,rfl,rfl⟩,?_⟩);exact Cv.clos av (ah (Cv.sealp aD rfl (fun _ _ h=>by cases h) (by simp) (aC (ah (ak aD (cO l)) av))) av)
def wordS(n:Nat):Nat→AState
 |k=>⟨[(3,.lptr 1 0 0),(8,.clos 180 [] [.aptr [[.arr (dE (aw MB n))]] 0 0])],[(1,some ⟨190,1,[[u64 (ofD MB ((aw MB n).drop ((aw MB n).length- k)))]]⟩)],2,17⟩
theorem Df(n:Nat)(h:(aw MB n).length≤2):FS 187 [.agg [mag n]] (u64 n):=by
 have hb:=nE (aw MB n);have hg:=nC (aw MB n) (by omega);have f:Closed (.aptr [[.arr (dE (aw MB n))]] 0 0):=jM (fun e j c hc=>by simp at j;subst j;simp at hc;subst hc;exact cO _);have m:Closed (.clos 180 [] [.aptr [[.arr (dE (aw MB n))]] 0 0]):=aQ af (ac f af);refine f_c Tryz.func187 ?_;refine r_z 2 ?_;refine r_z 2 ?_;refine ae (r_c 3 (hb) ?_);refine ao ?_;refine aH (fun _:Unit=>⟨[(3,.lptr 1 0 0)],[(1,some ⟨190,1,[[u64 n]]⟩)],2,17⟩) (fun _=>True) ?_ ?_;refine aj (AWp.rangeFunc (α:=Nat) (γ:=Empty) (aw MB n).length (wordS n) (fun k=>k) (fun k=>k≤(aw MB n).length) (fun e=>nomatch e) (fun _ e=>nomatch e) 0 rfl hg rfl rfl ?_ (fun _=>⟨rfl,rfl⟩) (fun e=>nomatch e) (Nat.zero_le _) rfl (fun _ h=>h) ?_ ?_ ?_ ?_ (fun _ e=>nomatch e));intro k xs a;unfold nG at a;split at a;cases a;rfl;cases a;rw[wordS.eq_1];have t:AV.v (.int .u64 0)=u64 ((ofD MB ((aw MB n).drop ((aw MB n).length- 0)):Nat):Int):=by simp[ofD,u64]
 exact s_t [(1,3)];exact ac f af
 ·intro l k xs s a
  unfold nG at a;split at a;rotate_left;cases a;rename_i hlt;cases a;obtain⟨x,g⟩:∃x,(aw MB n)[(aw MB n).length- 1- k]?=some x:=⟨_,List.getElem?_eq_getElem (by omega)⟩;have q:x< 1000000000:=cu (by decide) g;have i:(aw MB n).getD ((aw MB n).length- 1- k) 0=x:=by rw[List.getD_eq_getElem?_getD,g];rfl
  rw[i];have hv:=j7 MB g;rw[show(aw MB n).length- 1- k+1=(aw MB n).length- k by omega] at hv
  have o:ofD MB ((aw MB n).drop ((aw MB n).length- k))< 1000000000:=by
   have h1:=fi (b:=MB) (l:=(aw MB n).drop ((aw MB n).length- k)) fun d p=>dr (by decide) n d (List.mem_of_mem_drop p);have r:((aw MB n).drop ((aw MB n).length- k)).length≤1:=by simp;omega
   exact Nat.lt_of_lt_of_le h1 (Nat.pow_le_pow_right (by decide) r)
  show AWp _ _ _ _ ⟨[(10,u32 x),(9,i64 ((aw MB n).length- 1- k:Nat)),(3,.lptr 1 0 0),(8,.clos 180 [] [.aptr [[.arr (dE (aw MB n))]] 0 0]),(1003,.lptr 1 0 0),(1008,.clos 180 [] [.aptr [[.arr (dE (aw MB n))]] 0 0])],[(1,some ⟨190,1,[[u64 (ofD MB ((aw MB n).drop ((aw MB n).length- k)))]]⟩)],2,17⟩;refine r_m 1 ?_;refine a_z ?_;refine aj (r_m 6 ?_);refine a_z ?_;refine⟨k+1,⟨by omega,rfl⟩,?_⟩;show SEntT _ ⟨[(1003,.lptr 1 0 0),(1008,.clos 180 [] [.aptr [[.arr (dE (aw MB n))]] 0 0])],[(1,some ⟨190,1,[[u64 (ofD MB ((aw MB n).drop ((aw MB n).length- (k+1))))]]⟩)],2,17⟩
  have h1:AV.v (.int .u64 ((ofD MB ((aw MB n).drop ((aw MB n).length- k)):Nat) * 1000000000+(x:Int)))=u64 ((ofD MB ((aw MB n).drop ((aw MB n).length- (k+1))):Nat):Int):=by
   rw[show(aw MB n).length- (k+1)=(aw MB n).length- 1- k by omega,hv];simp[u64];omega
  exact s_t []
 intro k s a;unfold nG at a;split at a;cases a;refine⟨(),trivial,?_⟩;rw[wordS.eq_1]
 have h1:ofD MB ((aw MB n).drop ((aw MB n).length- k))=n:=by
  rw[show(aw MB n).length- k=0 by omega,List.drop_zero,bq (by decide)]
 rw[h1];exact s_e [];rintro _ _;refine r_z 2 ?_;refine ai (aU rfl rfl (ag _))
def xV:Nat×Nat→AState
 |(p,q)=>⟨[(2,.lptr 1 0 0),(3,.lptr 2 0 0),(4,.lptr 3 0 0)],[(1,some ⟨30,1,[[mag p]]⟩),(2,some ⟨30,1,[[mag q]]⟩),(3,some ⟨30,1,[[.emp]]⟩)],4,43⟩
theorem jy(p:Nat)(q:Nat):xV (p,q)=⟨[(2,.lptr 1 0 0),(3,.lptr 2 0 0),(4,.lptr 3 0 0)],[(1,some ⟨30,1,[[mag p]]⟩),(2,some ⟨30,1,[[mag q]]⟩),(3,some ⟨30,1,[[.emp]]⟩)],4,43⟩:=rfl
def E0:Nat×Nat→AState
 |(x,y)=>⟨[(4,.lptr 3 0 0),(5,u64 x),(6,u64 y)],[(3,some ⟨30,1,[[.emp]]⟩)],4,43⟩
theorem pT(x:Nat)(y:Nat):E0 (x,y)=⟨[(4,.lptr 3 0 0),(5,u64 x),(6,u64 y)],[(3,some ⟨30,1,[[.emp]]⟩)],4,43⟩:=rfl
theorem zb(p q:Nat):Nat.gcd q (p % q)=Nat.gcd p q:=by
 rw[Nat.gcd_comm p q,Nat.gcd_rec q p,Nat.gcd_comm]
theorem Cq{n:Nat}(h:(aw MB n).length≤2):n< 1000000000000000000:=by
 have h1:=fi (b:=MB) (dr (by decide) n);rw[bq (by decide)] at h1;exact Nat.lt_of_lt_of_le h1 (Nat.pow_le_pow_right (by decide) h)
theorem Ew(a b:Nat)(h:bl a+bl b≤4398046511104):FS 153 [.agg [mag a],.agg [mag b]] (.agg [mag (Nat.gcd a b)]):=by
 refine f_c Tryz.func153 ?_;refine r_z 3 ?_;refine bh xV (fun x=>x.1=Nat.gcd a b) ?_ ?_;refine aj (aB xV (fun x=>x.2) (fun x=>Nat.gcd x.1 x.2=Nat.gcd a b∧bl x.1+bl x.2≤4398046511104) (a,b) ⟨rfl,h⟩ ?_ ?_);rw[jy];exact s_e [];rintro⟨p,q⟩ ⟨hg,hb⟩;simp only at hg hb;rw[jy];have r:=De (aw MB q);refine ae (r_c 3 (r) ?_);refine a_z ?_;refine ap rfl (fun i=>?_) (fun i=>?_)
 have f:0< q:=by
  rcases Nat.eq_zero_or_pos q with e|e
  subst e;rw[cm] at i;simp at i;exact e
 refine am (aj (bh (fun _:Unit=>⟨[(2,.lptr 1 0 0),(3,.lptr 2 0 0),(4,.lptr 3 0 0)],[(1,some ⟨30,1,[[mag p]]⟩),(2,some ⟨30,1,[[mag q]]⟩),(3,some ⟨30,1,[[.emp]]⟩)],4,43⟩) (fun _=>True) ?_ ?_));by_cases hl:(aw MB p).length≤2;by_cases hl2:(aw MB q).length≤2;have k:=Cq hl;have l:=Cq hl2;refine s_r 10 ?_;refine a_5 ?_;refine y_g rfl (by simp;omega) (.fieldAddr_l rfl TF.h (by decide)) ?_;refine y_g rfl (by simp;omega) (.load_l1 rfl rfl rfl TG.h rfl) ?_;refine y_g rfl (by simp;omega) (.lenD rfl rfl rfl rfl te_28.h) ?_;refine y_g rfl (by simp;omega) (.bin rfl rfl gQ) ?_;refine o_0 (.pickT rfl (by simp;omega) rfl) ?_;refine ao ?_;refine ap rfl (fun h1=>?_) (fun h1=>?_);refine ae (r_d aY 6 ?_);refine c_s (Df p hl) ?_;refine c_s (Df q hl2) ?_;refine a_2 ?_;refine ao (n_k ?_);refine bh (fun x:Nat=>⟨[(4,.lptr 3 0 0),(5,u64 x)],[(3,some ⟨30,1,[[.emp]]⟩)],4,43⟩) (fun x=>x=Nat.gcd a b) ?_ ?_;refine aj (aB E0 (fun x=>x.2) (fun x=>Nat.gcd x.1 x.2=Nat.gcd a b∧x.1< 1000000000000000000∧x.2< 1000000000000000000) (p,q) ⟨hg,k,l⟩ ?_ ?_);rw[pT];exact s_e [];rintro⟨x,y⟩ ⟨d,o,m⟩;simp only at d o m;rw[pT];refine ae (r_z 2 ?_);refine ap rfl (fun j=>?_) (fun j=>?_);have c:0< y:=by simp at j;omega
 refine am (aj (r_d aY 6 ?_));refine a_6 ?_;refine ao (n_k ?_);refine⟨(y,x % y),Nat.mod_lt _ c,⟨(zb x y).trans d,m,Nat.lt_trans (Nat.mod_lt _ c) m⟩,?_⟩;rw[pT];exact s_e [];have c:y=0:=by simp at j;omega
 subst c;refine ay ⟨x,by simpa using d,?_⟩;exact s_e [];rintro x rfl
 have g:Nat.gcd a b< 18446744073709551616:=by
  rw[←hg];have h1:Nat.gcd p q≤q:=Nat.gcd_le_right _ f;omega
 refine r_c 3 (fU _ g) ?_;refine a_z ?_;exact ai (dl rfl rfl rfl TG.h TS.h (nle rfl) rfl (aA (ac (bY _) af)));exact absurd h1 (by simp;omega);refine s_r 10 ?_;refine a_5 ?_;refine y_g rfl (by simp;omega) (.fieldAddr_l rfl TF.h (by decide)) ?_;refine y_g rfl (by simp;omega) (.load_l1 rfl rfl rfl TG.h rfl) ?_;refine y_g rfl (by simp;omega) (.lenD rfl rfl rfl rfl te_28.h) ?_;refine y_g rfl (by simp;omega) (.bin rfl rfl gQ) ?_;refine o_0 (.pickT rfl (by simp;omega) rfl) ?_;refine ao ?_;refine ap rfl (fun h=>?_) (fun _=>am ⟨(),trivial,?_⟩);exact absurd h (by simp;omega);exact s_e [];refine s_r 10 ?_;refine a_5 ?_;refine n_g rfl (by simp;omega) ?_;refine n_g rfl (by simp;omega) ?_;refine n_g rfl (by simp;omega) ?_;refine n_g rfl (by simp;omega) ?_;refine o_0 (.pickF rfl (by simp;omega) rfl) ?_;refine ao ?_;refine ap rfl (fun h=>?_) (fun _=>am ⟨(),trivial,?_⟩);cases h;exact s_e [];rintro _ _;refine r_c 10 (r7 p q hb f) ?_;refine a_z ?_;refine r_d aY 4 ?_;refine a_4 ?_;refine ao (n_k ?_);refine⟨(q,p % q),Nat.mod_lt _ f,⟨(zb p q).trans hg,?_⟩,?_⟩;have:=dt (Nat.mod_le p q);simp only;omega;rw[jy];exact s_e []
 have f:q=0:=by
  rcases Nat.eq_zero_or_pos q with e|e
  exact e
  have:(aw MB q).length≠0:=fun n=>by
   rw[List.length_eq_zero_iff] at n;have:=(iG (b:=MB) (by decide)).1 n;omega
  simp[this] at i
 subst f;refine ay ⟨(p,0),?_,?_⟩;simpa using hg;rw[jy];exact s_e [];rintro⟨p,q⟩ hp;simp only at hp;subst hp;rw[jy];refine r_z 2 ?_;refine ai (dl rfl rfl rfl TG.h TS.h (nle rfl) rfl (aA (ac (bY _) af)))
theorem EO(n:Nat):((aw MB n).length==0)=(n==0):=by
 rw[Bool.eq_iff_iff];simp only[beq_iff_eq,List.length_eq_zero_iff];exact iG (by decide)
theorem lX(n:Nat):FS 100 [.agg [mag n]] (bln (n==0)):=by
 rw[←EO];exact De _
theorem eB(b:Bool)(m:Nat):FS 133 [bln b,.agg [mag m]] (.agg (zI (sgn b m))):=by
 have e:AV.agg (zI (sgn b m))= .agg [mag m,bln (b && !(m==0))]:=by unfold zI;rw[ff,sgn_neg]
 rw[e];refine f_c Tryz.func133 ?_;cases b with
 |true=>
  refine r_z 2 ?_;refine ae (r_d aY 9 ?_);refine a_3 ?_;refine y_g rfl d_t (.load_l rfl rfl rfl TG.h TS.h (nle rfl)) ?_;refine y_g rfl d_t (.call rfl rfl rfl (lX m)) ?_;refine y_g rfl d_t (.un rfl kL) ?_;refine o_0 (.pickT rfl d_t rfl) ?_;refine a_2 ?_;refine ao (n_k ?_);exact ai (c_e (aA (ac (bY m) (ac (ag _) af))))
 |false=>
  refine r_z 2 ?_;refine ae (r_d aY 9 ?_);refine a_3 ?_;refine n_g rfl d_f ?_;refine n_g rfl d_f ?_;refine n_g rfl d_f ?_;refine o_0 (.pickF rfl d_f rfl) ?_;refine a_2 ?_;refine ao (n_k ?_);exact ai (c_e (aA (ac (bY m) (ac (ag _) af))))
theorem Gw(z:Int):FS 54 [.agg (zI z)] (i64 (sgZ z)):=by
 refine f_c Tryz.func54 ?_;refine r_z 2 ?_;refine bh (fun _:Unit=>⟨[],[],1,10⟩) (fun _=>0< z) ?_ ?_;refine aj (r_c 4 (lX z.natAbs) ?_);refine a_z ?_;refine ap rfl (fun h=>?_) (fun h=>?_);refine r_z 1 ?_;refine ai (aU rfl ?_ (ag _));have:z=0:=by simpa using h
 simp[i64,sgZ,this,ofV];have a:z≠0:=by simpa using h
 refine r_z 3 ?_;refine ap rfl (fun h1=>?_) (fun h1=>?_);refine r_z 1 ?_;refine ai (aU rfl ?_ (ag _));have:z< 0:=by simpa using h1
 simp[i64,sgZ,this,a,ofV];have:¬z< 0:=by simpa using h1
 refine am ⟨(),by omega,?_⟩;exact s_e [];rintro _ h1;refine r_z 1 ?_;refine ai (aU rfl ?_ (ag _));simp only[i64,sgZ];rw[if_neg (by omega),if_neg (by omega)];rfl
theorem ci(q:Rat):FS 16 [.agg (qC q)] (i64 (sgZ q.num)):=by
 refine f_c Tryz.func16 ?_;refine r_z 2 ?_;refine r_c 4 (Gw q.num) ?_;refine a_z ?_;exact ai (t_e (ag _))
theorem sgn_mul(a b:Bool)(m n:Nat):sgn a m* sgn b n=sgn (a !=b) (m* n):=by
 cases a <;> cases b <;> simp[sgn,Int.neg_mul,Int.mul_neg]
theorem wD(a:Bool)(m n:Nat):sgn a m+sgn a n=sgn a (m+n):=by
 cases a <;> simp[sgn]<;> omega
theorem AN{a b:Bool}(h:a≠b){m n:Nat}(hl:m≤n):sgn a m+sgn b n=sgn b (n- m):=by
 cases a <;> cases b <;> simp[sgn] at h⊢ <;> omega
theorem AO{a b:Bool}(h:a≠b){m n:Nat}(hl:n≤m):sgn a m+sgn b n=sgn a (m- n):=by
 cases a <;> cases b <;> simp[sgn] at h⊢ <;> omega
theorem xk(x y:Int)(h:bl x.natAbs+bl y.natAbs≤17592186044416):FS 104 [.agg (zI x),.agg (zI y)] (.agg (zI (x* y))):=by
 have e:x* y=sgn (decide (x< 0) !=decide (y< 0)) (x.natAbs* y.natAbs):=by
  rw[←sgn_mul,ou,ou]
 rw[e];refine f_c Tryz.func104 ?_;refine r_z 3 ?_;refine ae (r_d aY 12 ?_);refine c_s (fT x.natAbs y.natAbs h) ?_;refine c_s (eB (decide (x< 0) !=decide (y< 0)) (x.natAbs* y.natAbs)) ?_;refine a_1 ?_;refine ao (n_k ?_);exact ai (c_e (ir _))
theorem fs_iadd(x y:Int)(h:bl x.natAbs+bl y.natAbs≤17592186044416):FS 113 [.agg (zI x),.agg (zI y)] (.agg (zI (x+y))):=by
 obtain⟨a,ha⟩:∃a,a=decide (x< 0):=⟨_,rfl⟩;obtain⟨b,hb⟩:∃b,b=decide (y< 0):=⟨_,rfl⟩;have i:x=sgn a x.natAbs:=by rw[ha,ou]
 have j:y=sgn b y.natAbs:=by rw[hb,ou]
 refine f_c Tryz.func113 ?_;refine r_z 3 ?_;refine bh (fun _:Unit=>⟨[(2,.lptr 1 0 0),(3,.lptr 2 0 0),(4,.lptr 3 0 0)],[(1,some ⟨32,2,[zI x]⟩),(2,some ⟨32,2,[zI y]⟩),(3,some ⟨32,2,[[.emp,bln false]]⟩)],4,42⟩) (fun _=>a≠b∧y.natAbs≤x.natAbs) ?_ ?_;refine aj (r_z 6 ?_);refine ap rfl (fun h1=>?_) (fun h1=>?_);have c:a=b:=by rw[ha,hb];simpa using h1
 have e:x+y=sgn (decide (x< 0)) (x.natAbs+y.natAbs):=by
  conv=>lhs;rw[i,j,←c]
  rw[wD,ha]
 rw[e];refine ae (r_d aY 9 ?_);refine c_s (xh x.natAbs y.natAbs h) ?_;refine c_s (eB (decide (x< 0)) (x.natAbs+y.natAbs)) ?_;refine a_1 ?_;refine ao (n_k ?_);exact ai (c_e (ir _));have c:a≠b:=by rw[ha,hb];simpa using h1
 refine r_c 7 (nY x.natAbs y.natAbs h) ?_;refine a_z ?_;refine ap rfl (fun g=>?_) (fun g=>?_)
 have f:x.natAbs< y.natAbs:=by
  have:=of_decide_eq_true g;unfold eg at this;split at this;omega;split at this <;> omega
 have e:x+y=sgn (decide (y< 0)) (y.natAbs- x.natAbs):=by
  conv=>lhs;rw[i,j]
  rw[AN c (Nat.le_of_lt f),hb]
 rw[e];refine ae (r_d aY 9 ?_);refine c_s (xj y.natAbs x.natAbs (by omega) (Nat.le_of_lt f)) ?_;refine c_s (eB (decide (y< 0)) (y.natAbs- x.natAbs)) ?_;refine a_1 ?_;refine ao (n_k ?_);exact ai (c_e (ir _))
 have d:y.natAbs≤x.natAbs:=by
  have:=of_decide_eq_false g;unfold eg at this;split at this;omega;split at this <;> omega
 refine am ⟨(),⟨c,d⟩,?_⟩;exact s_e [];rintro _ ⟨c,d⟩
 have e:x+y=sgn (decide (x< 0)) (x.natAbs- y.natAbs):=by
  conv=>lhs;rw[i,j]
  rw[AO c d,ha]
 rw[e];refine ae (r_d aY 9 ?_);refine c_s (xj x.natAbs y.natAbs (by omega) d) ?_;refine c_s (eB (decide (x< 0)) (x.natAbs- y.natAbs)) ?_;refine a_1 ?_;refine ao (n_k ?_);exact ai (c_e (ir _))
theorem zg(n:Int)(h: -9223372036854775808≤n∧n≤9223372036854775807):FS 76 [i64 n] (.agg (zI n)):=by
 refine f_c Tryz.func76 ?_;refine r_z 1 ?_;refine ae (r_z 2 ?_);refine ap rfl (fun h1=>?_) (fun h1=>?_);have b:n< 0:=of_decide_eq_true h1;have e:n=sgn true n.natAbs:=by simp[sgn];omega
 have a:18446744073709551616- (n+18446744073709551616)=((n.natAbs:Nat):Int):=by omega
 have hs:FS 130 [.v (.int .u64 (18446744073709551616- (n+18446744073709551616)))] (.agg [mag n.natAbs]):=by rw[a];exact fU _ (by omega)
 refine s_r 6 ?_;refine a_1 ?_;refine o_0 (.conv rfl (cU64n (by omega) tu_2.h tu_190.h)) ?_;refine o_0 (.un rfl (E6 (by omega))) ?_;refine c_s (hs) ?_;refine c_s (eB true n.natAbs) ?_;refine a_z ?_;refine ai (dl rfl rfl rfl TG.h TS.h (nle rfl) ?_ ?_);show _=AV.agg (zI n)
 conv=>rhs;rw[e]
 rfl;exact ir _;refine am ?_;have b:0≤n:=by have:=of_decide_eq_false h1;omega
 have e:n=sgn false n.natAbs:=by simp[sgn];omega
 have a:n=((n.natAbs:Nat):Int):=by omega
 have hs:FS 130 [.v (.int .u64 n)] (.agg [mag n.natAbs]):=by
  have:=fU n.natAbs (by omega);rwa[u64,←a] at this
 refine s_r 5 ?_;refine a_1 ?_;refine o_0 (.conv rfl (cU64 (by omega) tu_2.h tu_190.h)) ?_;refine c_s (hs) ?_;refine c_s (eB false n.natAbs) ?_;refine a_z ?_;refine ai (dl rfl rfl rfl TG.h TS.h (nle rfl) ?_ ?_);show _=AV.agg (zI n)
 conv=>rhs;rw[e]
 rfl;exact ir _
theorem F2:mag 0= .arr []:=by unfold mag;rw[cm];rfl
theorem pa(n:Int):FS 75 [.agg (zI n)] (.agg (qC n)):=by
 have e:qC (n:Rat)=[mag n.natAbs,bln (decide (n< 0)),mag 0]:=rfl;rw[e];refine f_c Tryz.func75 ?_;refine r_z 2 ?_;refine r_z 3 ?_;refine ai (Fin.cell rfl rfl rfl TG.h TS.h (nle rfl) (Cv.agg (ah (ak aD (bY _)) (ah (ak aD (ag _)) (ah (Cv.emp _ F2) av)))))
theorem dK(n:Int)(h: -9223372036854775808≤n∧n≤9223372036854775807):FS 24 [i64 n] (.agg (qC n)):=by
 refine f_c Tryz.func24 ?_;refine r_z 1 ?_;refine r_c 4 (zg n h) ?_;refine c_s (pa n) ?_;refine a_z ?_;exact ai (c_e (aP _))
theorem eC(q:Rat)(h:qs q≤1099511627776):FS 73 [.agg (qC q)] (.agg [mag q.den]):=by
 have hp:=q.den_pos;have b:=du q;have e:q.den=q.den- 1+1:=by omega
 have a:=dt (show q.den- 1≤q.den by omega);have h1:bl 1=1:=jC;refine f_c Tryz.func73 ?_;refine r_z 2 ?_;refine ae (r_d aY 5 ?_);refine c_s (fU 1 (by decide)) ?_;refine c_s (xh (q.den- 1) 1 (by omega)) ?_;refine a_1 ?_;refine ao (n_k ?_);refine ai (dl rfl rfl rfl TG.h TS.h (nle rfl) ?_ ?_);show AV.agg [mag (q.den- 1+1)]=_;rw[←e];exact closed_mA _
theorem pc(n:Int)(d:Nat)(hd:0< d)(h:bl n.natAbs+bl d≤2199023255552):FS 103 [.agg (zI n),.agg [mag d]] (.agg (qC (mkRat n d))):=by
 obtain⟨g,hg⟩:∃g,g=Nat.gcd n.natAbs d:=⟨_,rfl⟩;have a:0< g:=by rw[hg];exact Nat.gcd_pos_of_pos_right _ hd
 have b:g≤d:=by rw[hg];exact Nat.gcd_le_right _ hd
 have k:=dt b;have j:=eI n.natAbs g;have i:=eI d g;have f:0< d/ g:=Nat.div_pos b a
 have c:AV.agg (qC (mkRat n d))= .agg (zI (sgn (decide (n< 0)) (n.natAbs/ g))++[mag (d/ g- 1)]):=by
  unfold qC;rw[iZ hd,(j8 hd).2,←hg];rfl
 rw[c];have hc:=Ew n.natAbs d (by omega);rw[←hg] at hc;refine f_c Tryz.func103 ?_;refine r_z 3 ?_;refine ae (r_c 6 (hc) ?_);refine a_z ?_;refine r_c 3 (fs_one g) ?_;refine a_z ?_;refine aH (fun _:Unit=>⟨[(2,.lptr 1 0 0),(3,.lptr 2 0 0),(4,.lptr 3 0 0)],[(1,some ⟨32,2,[[mag (n.natAbs/ g),bln (decide (n< 0))]]⟩),(2,some ⟨30,1,[[mag (d/ g)]]⟩),(3,some ⟨34,3,[[.emp,bln false,.emp]]⟩)],4,36⟩) (fun _=>True) ?_ ?_;refine ap rfl (fun h1=>?_) (fun h1=>?_);refine r_c 9 (r7 n.natAbs g (by omega) a) ?_;refine a_z ?_;refine r_m 7 ?_;refine c_s (r7 d g (by omega) a) ?_;refine a_z ?_;refine⟨(),trivial,?_⟩;exact s_e [];have e:g=1:=by simpa using h1
 subst e;refine am ⟨(),trivial,?_⟩;rw[Nat.div_one,Nat.div_one];exact s_e [];rintro _ _;refine ae (r_d aY 10 ?_);refine c_s (eB (decide (n< 0)) (n.natAbs/ g)) ?_;refine c_s (fU 1 (by decide)) ?_;refine c_s (xj (d/ g) 1 (by omega) f) ?_;refine a_2 ?_;refine ao (n_k ?_);exact ai (c_e (aA (ac (bY _) (ac (ag _) (ac (bY _) af)))))
end Go.Proofs.YtkhclghbcicapaaGreatDoor
namespace Go.Proofs.YtkhclghbcicapaaGreatDoor
open Go.Abs Go.RowKit
set_option maxRecDepth 20000
theorem AC:Tryz.prog.underlying 159=some (.pointer 162):=by kernel_rfl
theorem uX:Tryz.prog.underlying 239=some .unsafePointer:=by kernel_rfl
theorem Ct:(Tryz.prog.info? 162).map (·.size)=some 2:=by kernel_rfl
set_option maxHeartbeats 1000000 in
theorem cs_used(b:Nat)(w:World)(h0:w.cell? ⟨b,0,none⟩=some (.pointer (some ⟨b,0,none⟩))):
    Calls Tryz.prog 145 #[.pointer (some ⟨b,0,none⟩)] w fun e w'=>e= .returned (.tuple #[])∧w'=w:=by
 obtain⟨j,a,_⟩:=Option.map_eq_some_iff.1 Ct
 go_enter Tryz.func145,Tryz.ntmps145
 go_wp2
 rw[Lib.run_neq_ptr_same w _ AC a]
 go_wp2
 go_end0
 exact⟨rfl,rfl⟩
theorem xe{n:Nat}(hn:2≤n):liesAt Tryz.prog Tryz.prog.depth 162 (n/ Tryz.prog.cellsOf 162) 0 162 1=true:=by
 have hc:Tryz.prog.cellsOf 162=2:=by kernel_rfl
 rw[hc];have a:Tryz.prog.depth=(2* (Tryz.prog.types.size+Made.depth)+1)+1:=rfl;rw[a];simp only[liesAt,Bool.or_eq_true];left;rw[a];have:1≤n/ 2:=by omega
 simp[rowAt,sameLayout,this,hc]
set_option maxHeartbeats 1000000 in
theorem Ha(b:Nat)(w:World)(cs:Array Value)(hh:w.heap[b]?=some (.cells cs 162 (0,0)))(hsz:2≤cs.size)(hc:cs[0]?=some (.pointer none)):
    Calls Tryz.prog 145 #[.pointer (some ⟨b,0,none⟩)] w fun e w'=>e= .returned (.tuple #[])∧w'=w.setCell ⟨b,0,none⟩ (.pointer (some ⟨b,0,none⟩)):=by
 obtain⟨j,d,c⟩:=Option.map_eq_some_iff.1 Ct;have g:w.cell? ⟨b,0,none⟩=some (.pointer none):=by simp[World.cell?,hh,hc]
 have a:w.shape? b=some (162,cs.size):=by simp[World.shape?,hh]
 have f:w.frozen? ⟨b,0,none⟩=false:=by simp[World.frozen?,hh]
 go_enter Tryz.func145,Tryz.ntmps145
 go_wp2
 rw[Lib.run_to_unsafe w ⟨b,0,none⟩ AC uX d (by rw[c];decide) a (by show 0< cs.size;omega)];simp only[Result.andThen];rw[Oper.upon_value]
 go_wp2
 rw[run_callFunc_extern Tryz.func178 (by kernel_rfl) (by kernel_rfl) (by kernel_rfl) (e:=Extern.AbiNoEscape.same) (by kernel_rfl)];rw[Lib.run_noEscape];simp only[Result.andThen];rw[Oper.upon_value]
 go_wp2
 rw[Lib.run_from_unsafe w ⟨b,0,none⟩ uX AC d a (xe hsz)];simp only[Result.andThen];rw[Oper.upon_value]
 go_wp2
 go_end0
 exact⟨rfl,rfl⟩
theorem vQ{P:Go.Program}{f:Nat}{fn:Func}{c:Code}(hf:P.funcs[f]?=some fn)(hb:fn.body=some c)(hname:(fn.name== "runtime.NumGoroutine")=false)(xs:Array Value)(w:World):(callFunc f xs).run P w= .ok (.enter f xs) w:=by
 have hname':¬fn.name= "runtime.NumGoroutine" :=by simpa using hname
 simp[callFunc,hf,hname',hb]
theorem pG:CSpec Tryz.prog 145 162:=
 ⟨fun xs w=>vQ Tryz.func145 rfl (by kernel_rfl) xs w,fun b w c=>cs_used b w c,fun b w cs d a c=>Ha b w cs d a c⟩
theorem yH(a b:Value):Pure (.tup [.v a,.v b]):=by
 rintro M k β j w l y ⟨xs,rfl,d,h,e,h1,⟨i,c,e2,g,f⟩⟩;exact⟨xs,rfl,d,h,e,h1,i,c,e2,g,f⟩
theorem mO:Tryz.prog.underlying 9=some .string:=by kernel_rfl
theorem bE_len(q:List UInt8):qo (.arr (bE q))=some q.length:=by simp[qo,da]
theorem rJ(t:List UInt8):(⟨t.toArray⟩:ByteArray).size=t.length:=by simp[ByteArray.size]
theorem ky(t:List UInt8)(h0:t≠[])(hl:t.length≤1099511627776):BSpec Tryz.prog 96 162 5 none t [tx t] (.tup [i64 t.length,.v .nilIface]):=by
 refine BSpec.intro Tryz.func96 rfl (by kernel_rfl) (ac (ag _) af) (yH _ _) (nle rfl) ?_;show AWp _ _ _ _ ⟨[(0,.lptr 0 0 0),(1,tx t)],[(0,some ⟨162,2,[ed 0 1 none]⟩)],2,19⟩;refine r_z 2 ?_;refine s_r 2 ?_;refine a_1 ?_;refine o_1 (.callC rfl rfl rfl rfl rfl (by first|exact .inl rfl|exact .inr rfl) (pG)) ?_;refine ao ?_;refine s_r 10 ?_;refine a_6 ?_;refine o_1 (.appS_e rfl rfl rfl te_160.h mO rfl rfl h0 TZ.h rfl TB.h (by omega)) ?_;refine a_z ?_;refine s_r 4 ?_;refine o_0 (.move rfl) ?_;refine o_0 (.builtinV (vs:=[_]) rfl rfl (fun _ _ _=>rfl)) ?_;refine o_0 (.assign rfl) ?_;refine o_0 (.assign rfl) ?_;refine ao ?_;refine ai ⟨.inr rfl,?_,12,by decide,rfl,rfl⟩;refine⟨[_,_],⟨_,_,rfl,rfl,⟨_,_,rfl,rfl,rfl⟩⟩,Cv.tup ?_⟩;refine ah (Cv.loE aD ?_ (ag _)) (ah (ak aD (ag _)) av);rw[rJ];rfl
theorem jf(q t:List UInt8)(hl:q.length+t.length≤1099511627776):BSpec Tryz.prog 96 162 5 (some q) (q++t) [tx t] (.tup [i64 t.length,.v .nilIface]):=by
 refine BSpec.intro Tryz.func96 rfl (by kernel_rfl) (ac (ag _) af) (yH _ _) (nle rfl) ?_;show AWp _ _ _ _ ⟨[(0,.lptr 0 0 0),(1,tx t)],[(0,some ⟨162,2,[ed 0 1 (some q)]⟩),(1,some ⟨5,1,bE q⟩)],2,19⟩;refine r_z 2 ?_;refine s_r 2 ?_;refine a_1 ?_;refine o_1 (.callC rfl rfl rfl rfl rfl (by first|exact .inl rfl|exact .inr rfl) (pG)) ?_;refine ao ?_;refine s_r 10 ?_;refine a_6 ?_;refine o_2 (.appS_l rfl rfl rfl te_160.h mO rfl rfl rfl rfl TZ.h rfl TB.h (by omega)) ?_;refine a_z ?_;refine s_r 4 ?_;refine o_0 (.move rfl) ?_;refine o_0 (.builtinV (vs:=[_]) rfl rfl (fun _ _ _=>rfl)) ?_;refine o_0 (.assign rfl) ?_;refine o_0 (.assign rfl) ?_;refine ao ?_;refine ai ⟨.inr rfl,?_,12,by decide,rfl,rfl⟩;refine⟨[_,_],⟨_,_,rfl,rfl,⟨_,_,rfl,rfl,rfl⟩⟩,Cv.tup ?_⟩;refine ah (Cv.loE aD ?_ (ag _)) (ah (ak aD (ag _)) av);rw[rJ];rfl
theorem se:FS 95 [.aptr [ER none] 0 0] (i64 0):=by
 have hc:Closed (.aptr [ER none] 0 0):=a7 (ac (ag _) (ac cM af));refine f_c Tryz.func95 ?_;refine r_z 1 ?_;refine r_z 6 ?_;exact ai (t_e (ag _))
theorem sd(q:List UInt8):FS 95 [.aptr [ER (some q)] 0 0] (i64 q.length):=by
 have hc:Closed (.aptr [ER (some q)] 0 0):=a7 (ac (lo_any 0).closed (ac (aG (v7 q)) af));refine f_c Tryz.func95 ?_;refine r_z 1 ?_;refine s_r 6 ?_;refine a_4 ?_;refine o_0 (.len rfl rfl rfl rfl (bE_len q) te_160.h) ?_;refine a_z ?_;exact ai (t_e (ag _))
end Go.Proofs.YtkhclghbcicapaaGreatDoor
