/- Part V20 of the proof. -/
import Derived.Test.YtkbjakfniejkcaaGreatDoorV19
set_option linter.all false
namespace Go.Proofs.YtkbjakfniejkcaaGreatDoor
open Go.Abs
set_option maxRecDepth 20000
set_option maxHeartbeats 1000000
def ovS(s:Nat)(V:Ln)(L:Nat):Ln×Ln×Nat->AState
 |(R,T,k)=>⟨[(4,.lptr 1 0 0),(5,.lptr 2 0 0),(6,.lptr 3 0 0),(7,.arr (dE V)),(8,i64 V.length),(9,.lsl 4 0 L (some L) 1),(10,.lsl 5 0 (L- V.length) (some (L- V.length)) 1),(11,i64 ((k:Int)- 1))],
  [(1,some ⟨32,1,[[.emp]]⟩),(2,some ⟨32,1,[[.emp]]⟩),(3,some ⟨32,1,[[mag s]]⟩),(4,some ⟨218,1,dE R⟩),(5,some ⟨218,1,dE (List.replicate k 0++T)⟩)],6,142⟩
def ovM(s:Nat)(V:Ln)(L:Nat)(T:Ln)(pre:Ln)(post:Ln)(j:Nat)(n:Nat):Ln×Nat×Bool->AState
 |(A,g,made)=>⟨[(4,.lptr 1 0 0),(5,.lptr 2 0 0),(6,.lptr 3 0 0),(7,.arr (dE V)),(8,i64 V.length),(9,.lsl 4 0 L (some L) 1),(10,.lsl 5 0 (L- V.length) (some (L- V.length)) 1),(11,i64 (((j+1:Nat):Int)- 1)),(13,u64 g),(14,.lsl 4 j n (some n) 1),(15,bln made)],
  [(1,some ⟨32,1,[[.emp]]⟩),(2,some ⟨32,1,[[.emp]]⟩),(3,some ⟨32,1,[[mag s]]⟩),(4,some ⟨218,1,dE (pre++A++post)⟩),(5,some ⟨218,1,dE (List.replicate (j+1) 0++T)⟩)],6,142⟩
theorem AQ (a b:Nat) (h:bl a+bl b<=8796093022208) (hb:0< b)
    (hrec:2<=(aw MB b).length->∀r s,0< s->s< 1000000000->bl r<=bl b+30->FS 165 [.agg [mag r],.agg [mag s]] (.tup [.agg [mag (r/ s)],.agg [mag (r % s)]])):
    FS 165 [.agg [mag a],.agg [mag b]] (.tup [.agg [mag (a/ b)],.agg [mag (a % b)]]):=by
 have hla:=b7 (b:=MB) (by decide) a;have hlb:=b7 (b:=MB) (by decide) b;have va:=bU (b:=MB) (by decide) a;have vb:=bU (b:=MB) (by decide) b;refine f_c Tryz.func165 ?_;refine r_z 4 ?_;refine ae (aj (r_c 5 (pv a b (by omega)) ?_));refine a_z ?_;refine au rfl (fun h=>?_) (fun h=>?_)
 have hlt:a< b:=by
  have u:=of_decide_eq_true h;unfold eN at u;split at u;omega;split at u <;> omega
 refine ae (r_d a7 4 ?_);refine a_4 ?_;refine aq (n_k ?_);refine ai ?_;rw[Nat.div_eq_of_lt hlt,Nat.mod_eq_of_lt hlt];refine Fin.many ⟨_,_,rfl,⟨_,_,_,_,_,rfl,rfl,rfl,.inl ⟨TG.h,_,TS.h,nle rfl,rfl⟩⟩,_,_,rfl,⟨_,_,_,_,_,rfl,rfl,rfl,.inl ⟨TG.h,_,TS.h,nle rfl,rfl⟩⟩,rfl⟩ (nle rfl) ?_;refine ah (Cv.agg (ah (Cv.emp _ ?_) av)) (ah (an aA (az (ac (ce a) af))) av);unfold mag;rw[cL];rfl
 have hge:b<=a:=by
  have u:=of_decide_eq_false h;refine Nat.le_of_not_lt fun hlt=>u ?_;rw[mX (by omega)];decide
 refine r_z 5 ?_;refine au rfl (fun h2=>?_) (fun h2=>?_);have hl1:(aw MB b).length=1:=by simp at h2;omega
 have hbm:b< 1000000000:=by
  have:=fG (b:=MB) (ec (by decide) b);rw[vb,hl1] at this;simpa using this
 have hg:(dE (aw MB b))[(0:Int).toNat]?=some [u32 b]:=by rw[D7 hb hbm];rfl
 refine ae (r_d a7 10 ?_);refine a_3 ?_;refine i_x hg ?_;refine l_1 hg ?_;refine c_s (Gz a b (by omega) hb (by omega)) ?_;refine a_4 ?_;refine aq (n_k ?_);refine ai (Fin.many ⟨_,_,rfl,⟨_,_,_,_,_,rfl,rfl,rfl,.inl ⟨TG.h,_,TS.h,nle rfl,rfl⟩⟩,_,_,rfl,⟨_,_,_,_,_,rfl,rfl,rfl,.inl ⟨TG.h,_,TS.h,nle rfl,rfl⟩⟩,rfl⟩ (nle rfl) ?_);exact ah (an aA (az (ac (ce _) af))) (ah (an aA (az (ac (ce _) af))) av)
 have hl2:2<=(aw MB b).length:=by
  have u:¬(aw MB b).length=1:=by simp at h2;omega
  have h0:(aw MB b).length≠0:=fun e=>by
   rw[List.length_eq_zero_iff] at e;have:=(jm (b:=MB) (by decide)).1 e;omega
  omega
 refine am ?_
 -- the leading digit,the factor
 obtain⟨C,H⟩:∃d,(aw MB b)[(aw MB b).length- 1]?=some d:=⟨_,List.getElem?_eq_getElem (by omega)⟩;have hvt1:C< 1000000000:=cO (by decide) H
 have X:1<=C:=by
  have:=sH (b:=MB) (by decide) b;rw[List.getLast?_eq_getElem?,H] at this;simp at this;omega
 have hvt':(dE (aw MB b))[(((aw MB b).length:Int)- 1).toNat]?=some [u32 C]:=by rw[show(((aw MB b).length:Int)- 1).toNat=(aw MB b).length- 1 by omega];exact dW H
 obtain⟨sc1,sc2,y⟩:=Gf X hvt1;have hsI:(1000000000:Int) / ((C:Int)+1)=((1000000000/ (C+1):Nat):Int):=by rw[show((C:Int)+1)=((C+1:Nat):Int) by omega];exact(Int.natCast_ediv _ _).symm
 have hs9:1000000000/ (C+1)<=500000000:=by
  have:1000000000/ (C+1)<=1000000000/ 2:=Nat.div_le_div_left (by omega) (by omega);omega
 obtain⟨s,hs⟩:∃s,s=1000000000/ (C+1):=⟨_,rfl⟩;rw[<-hs] at sc1 sc2 y hsI hs9;have hsm:FS 131 [.v (.int .u64 ((1000000000:Int) / ((C:Int)+1)))] (.agg [mag s]):=by rw[hsI];exact gH s (by omega)
 have hbls:bl s<=30:=gM (by omega);have hbs:=ja b s;have has:=ja a s;refine s_r 14 ?_;refine a_6 ?_;refine i_x hvt' ?_;refine l_1 hvt' ?_;refine a_1 ?_;refine o_0 (.bin rfl rfl (Ck (by omega))) ?_;refine o_0 (.conv rfl (cU64 (by rw[hsI];omega) tu_218.h tu_207.h)) ?_;refine c_s (hsm) ?_;refine a_z ?_;obtain⟨k,hk⟩:∃k,(aw MB b).length=k+1:=⟨(aw MB b).length- 1,by omega⟩;obtain⟨hVl,hb1,hv2,v1,lw,hv1,hvw,hlw,hv500,hv1b⟩:=D4 (s:=s) hk (by rw[hk] at H;exact H) X sc1 sc2;have hv1':(dE (aw MB (b* s)))[(((aw MB (b* s)).length:Int)- 1).toNat]?=some [u32 v1]:=by rw[show(((aw MB (b* s)).length:Int)- 1).toNat=k by omega];exact dW hv1
 have hab:=A8 (b:=MB) (by decide) hge
 have hU1:a* s< MB^ (aw MB a).length* s:=by
  have:=fG (b:=MB) (ec (by decide) a);rw[va] at this;exact Nat.mul_lt_mul_of_pos_right this y
 have hUl:(aw MB (a* s)).length<=(aw MB a).length+1:=by
  refine fM (by decide) ?_;rw[Nat.pow_succ];have:MB^ (aw MB a).length* s<=MB^ (aw MB a).length* MB:=Nat.mul_le_mul_left _ (by show s<=1000000000;omega);omega
 have hcp:fa (List.replicate ((aw MB a).length+1) [ofV (Value.int IntKind.u32 0)]) 0 (List.take (Nat.min (dE (aw MB (a* s))).length ((aw MB a).length+1)) (dE (aw MB (a* s))))=dE (jh MB ((aw MB a).length+1) (a* s)):=by
  rw[List.take_of_length_le (by rw[sI];exact Nat.le_min.2 ⟨Nat.le_refl _,hUl⟩),AB (by rw[sI,List.length_replicate];exact hUl)];rw[<-zH (l:=aw MB (a* s)++List.replicate ((aw MB a).length+1- (aw MB (a* s)).length) 0) ?_ ?_ ?_];rw[lN,<-iA];simp[u32,ofV];intro d S;rcases List.mem_append.1 S with S|S
  exact ec (by decide) _ d S;simp at S;rw[S.2];decide;simp;omega;rw[gQ,rR,bU (by decide)];simp
 refine r_c 5 (gG b s (by omega)) ?_;refine a_z ?_;refine r_z 3 ?_;have hL0:((aw MB a).length:Int)+1=(((aw MB a).length+1:Nat):Int):=by omega
 refine s_r 6 ?_;refine a_4 ?_;refine o_1 (.makeSlice (congrArg (fun z=>some (AV.v (.int .i64 z))) hL0) (congrArg (fun z=>some (AV.v (.int .i64 z))) hL0) te_30.h TZ.h rfl TB.h (by first|omega|(simp;done)|(simp;omega)) (by first|omega|(simp;done)|(simp;omega)) (by unfold maxLen;first|omega|(simp;done)|(simp;omega))) ?_;refine a_z ?_;refine r_c 6 (gG a s (by omega)) ?_;refine a_1 ?_;refine o_1 (.copy rfl rfl rfl te_30.h rfl rfl rfl (by first|(simp;done)|(simp;omega)) (by first|exact dV _|exact dT _|exact dy _|exact dX _|exact dS _|rfl|simp) rfl (.arr (z6 _))) ?_;refine aq ?_;have hLI:(((aw MB a).length+1:Nat):Int)- ((aw MB (b* s)).length:Nat)=(((aw MB a).length+1- (aw MB (b* s)).length:Nat):Int):=by omega
 refine s_r 6 ?_;refine a_4 ?_;refine o_1 (.makeSlice (congrArg (fun z=>some (AV.v (.int .i64 z))) hLI) (congrArg (fun z=>some (AV.v (.int .i64 z))) hLI) te_30.h TZ.h rfl TB.h (by first|omega|(simp;done)|(simp;omega)) (by first|omega|(simp;done)|(simp;omega)) (by unfold maxLen;first|omega|(simp;done)|(simp;omega))) ?_;refine a_z ?_;refine ae (r_z 4 ?_)
 have hst:DivI (a* s) (b* s) (k+1) ((aw MB a).length+1) (jh MB ((aw MB a).length+1) (a* s)) [] ((aw MB a).length+1- (k+1)):=by
  have hUL:a* s< MB^ ((aw MB a).length+1):=by
   rw[Nat.pow_succ];have:MB^ (aw MB a).length* s<=MB^ (aw MB a).length* MB:=Nat.mul_le_mul_left _ (by show s<=1000000000;omega);omega
  exact DivI.start (by simp) (tF (by decide) _ _) (qm (by decide) hUL) (by omega) (by simpa using hb1) (by omega) rfl (by simpa using hU1)
 refine aF (ovS s (aw MB (b* s)) ((aw MB a).length+1)) (fun x=>DivI (a* s) (b* s) (k+1) ((aw MB a).length+1) x.1 x.2.1 x.2.2/\x.2.2=0) ?_ ?_;refine aj (aC (ovS s (aw MB (b* s)) ((aw MB a).length+1)) (fun x=>x.2.2) (fun x=>DivI (a* s) (b* s) (k+1) ((aw MB a).length+1) x.1 x.2.1 x.2.2) (jh MB ((aw MB a).length+1) (a* s),[],(aw MB a).length+1- (aw MB (b* s)).length) (by rw[hVl];exact hst) ?_ ?_);rw[ovS.eq_1];exact s_x [(1,4),(2,5),(3,6),(4,9),(5,10)] (fun hs=>ek) (fun hs=>e_33) e_32;rintro⟨R,T,j1⟩ c;simp only at c;rw[ovS.eq_1];refine ae (r_z 2 ?_);refine au rfl (fun h3=>?_) (fun h3=>?_);have hj1:0< j1:=by have:=of_decide_eq_true h3;omega
 obtain⟨j,rfl⟩:∃j,j1=j+1:=⟨j1- 1,by omega⟩;have hRl:=c.len;have hkl:=c.k_le;obtain⟨p1,p2,p3,p4,p5⟩:=c.parts hv2;have o:=c.next hv2 (Nat.mul_pos hb y) rfl;obtain⟨A,hA⟩:∃A,A=(R.drop j).take (k+1+1):=⟨_,rfl⟩;obtain⟨n,L⟩:∃x,x=R.take j:=⟨_,rfl⟩;obtain⟨f,M⟩:∃x,x=R.drop (j+(k+1)+1):=⟨_,rfl⟩;obtain⟨p,hp⟩:∃p,p=ofD MB (R.drop j):=⟨_,rfl⟩;have J:n.length=j:=by rw[L];simp;omega
 rw[<-hA,<-hp] at p2;rw[<-hp] at p3 o;rw[<-hA] at p4;rw[<-hA,<-L,<-M] at p5;rw[<-L,<-M] at o;have N:∀d∈A,d< MB:=fun d S=>c.dig d (List.mem_of_mem_drop (List.mem_of_mem_take (by rw[hA] at S;exact S)));obtain⟨B,hx0⟩:∃x,A[k]?=some x:=⟨_,List.getElem?_eq_getElem (by omega)⟩;obtain⟨F,hx1⟩:∃x,A[k+1]?=some x:=⟨_,List.getElem?_eq_getElem (by omega)⟩;have hx0b:B< 1000000000:=N B (List.mem_of_getElem? hx0);have hx1b:F< 1000000000:=N F (List.mem_of_getElem? hx1);obtain⟨lo,hlo,hlob⟩:=Io p4 hx0 hx1 N;rw[p2] at hlo;obtain⟨gu1,gu2⟩:=IR (b:=MB) (by decide) hlo hlob hvw hlw (by show 1000000000<=2* v1;omega) hv1b p3
 have hgR:∀i x,A[i]?=some x->(dE R)[0+(j+i)]?=some [u32 x]:=by
  intro i x hx;rw[Nat.zero_add];refine dW ?_;rw[p5,List.append_assoc,List.getElem?_append_right (by omega),List.getElem?_append_left (by have:=(List.getElem?_eq_some_iff.1 hx).1;omega)];rw[show j+i- n.length=i by omega];exact hx
 have hgN:(dE R)[0+((((j+1:Nat):Int)- 1)+((aw MB (b* s)).length:Nat)).toNat]?=some [u32 F]:=by
  rw[show((((j+1:Nat):Int)- 1)+((aw MB (b* s)).length:Nat)).toNat=j+(k+1) by omega];exact hgR _ _ hx1
 have hgM:(dE R)[0+((((j+1:Nat):Int)- 1)+((aw MB (b* s)).length:Nat)- 1).toNat]?=some [u32 B]:=by
  rw[show((((j+1:Nat):Int)- 1)+((aw MB (b* s)).length:Nat)- 1).toNat=j+k by omega];exact hgR _ _ hx0
 obtain⟨g,hg⟩:∃g,g=min ((F* 1000000000+B) / v1) 999999999:=⟨_,rfl⟩;have U:g<=999999999:=by rw[hg];exact Nat.min_le_right _ _
 have hgI:(if (999999999:Int)< ((F:Int) * 1000000000+B) / (v1:Int) then(999999999:Int) else((F:Int) * 1000000000+B) / (v1:Int))=(g:Int):=by
  have e1:((F:Int) * 1000000000+B) / (v1:Int)=(((F* 1000000000+B) / v1:Nat):Int):=by
   rw[show(F:Int) * 1000000000+B=((F* 1000000000+B:Nat):Int) by omega];exact(Int.natCast_ediv _ _).symm
  rw[e1,hg];generalize (F* 1000000000+B) / v1=Q;by_cases hQ:Q<=999999999;rw[if_neg (by omega),Nat.min_eq_left hQ];rw[if_pos (by omega),Nat.min_eq_right (by omega)];rfl
 rw[show MB- 1=999999999 from rfl,<-hg] at gu1 gu2;refine am (ae (aj (ae (r_d a7 18 ?_))));refine a_5 ?_;refine aY (.load_l1 rfl rfl hgN TG.h rfl) rfl rfl ?_;refine a_8 ?_;refine aY (.load_l1 rfl rfl hgM TG.h rfl) rfl rfl ?_;refine a_3 ?_;refine aq (n_k ?_);refine s_r 10 ?_;refine a_4 ?_;refine i_x hv1' ?_;refine l_1 hv1' ?_;refine a_z ?_;refine s_r 12 ?_;refine a_8 ?_;refine a_2 ?_;refine o_0 (.sl_lhm rfl rfl (l:=j) (by omega) rfl (h:=j+(k+1)+1) (by omega) rfl (m:=j+(k+1)+1) (by omega) (by omega) te_30.h) ?_;refine a_z ?_
 refine AWp.ent (st':=⟨[(4,.lptr 1 0 0),(5,.lptr 2 0 0),(6,.lptr 3 0 0),(7,.arr (dE (aw MB (b* s)))),(8,i64 (aw MB (b* s)).length),(9,.lsl 4 0 ((aw MB a).length+1) (some ((aw MB a).length+1)) 1),(10,.lsl 5 0 ((aw MB a).length+1- (aw MB (b* s)).length) (some ((aw MB a).length+1- (aw MB (b* s)).length)) 1),(11,i64 (((j+1:Nat):Int)- 1)),(13,u64 g),(14,.lsl 4 j (k+1+1) (some (k+1+1)) 1)],
  [(1,some ⟨32,1,[[.emp]]⟩),(2,some ⟨32,1,[[.emp]]⟩),(3,some ⟨32,1,[[mag s]]⟩),(4,some ⟨218,1,dE (n++A++f)⟩),(5,some ⟨218,1,dE (List.replicate (j+1) 0++T)⟩)],6,142⟩) ?_ ?_
 refine s_x [] (fun hs=>?_) (fun hs=>?_) ?_
 ·repeat' (first|exact aP|refine ay rfl ?_ ?_|exact Cv.loE hs (congrArg (fun z=>AV.v (.int .u64 z)) hgI) (ag _)|exact aX)
 ·repeat' (first|exact aE|refine h_c ?_ ?_|exact aI hs (congrArg dE p5) (b6 _)|exact bZ|refine aD ?_|exact av|refine ah ?_ ?_|exact Cv.loE hs (congrArg (fun z=>AV.v (.int .u64 z)) hgI) (ag _)|exact aX)
 ·repeat' (first|exact ShrL.nil|refine ShrL.cons rfl rfl rfl rfl (by first|(simp[<-p5])|rfl|(simp;done)|(simp <;> omega)) ?_)
 have hV:=bU (b:=MB) (by decide) (b* s);have hVd:=ec (b:=MB) (by decide) (b* s)
 have E:∀D q,D+g* (b* s)=p+MB^ (k+1+1) * q->D< MB^ (k+1+1)->q<=1->ESpec Tryz.prog 201 218 1 (dE (n++A++f)) (dE (n++jh MB (k+1+1) D++f)) j (k+1+1) (some (k+1+1)) [.arr (dE (aw MB (b* s))),u64 g] (.bool (q !=0)):=by
  intro D q u h2 h3;have:=BN n A f (aw MB (b* s)) g D q (some (k+1+1)) N hVd (Nat.lt_of_le_of_lt U (by decide)) (by omega) (by omega) h3 (by rw[hV,p2,p4];exact u) (by rw[p4];exact h2);rw[J,p4] at this;exact this
 have t:∀D D' q,D'+MB^ (k+1+1) * q=D+b* s->D< MB^ (k+1+1)->D'< MB^ (k+1+1)->q<=1->ESpec Tryz.prog 202 218 1 (dE (n++jh MB (k+1+1) D++f)) (dE (n++jh MB (k+1+1) D'++f)) j (k+1+1) (some (k+1+1)) [.arr (dE (aw MB (b* s)))] (.bool (q !=0)):=by
  intro D D' q u h2 h3 h4;have:=BO n (jh MB (k+1+1) D) f (aw MB (b* s)) D' q (some (k+1+1)) (tF (by decide) _ _) hVd (by simp;omega) (by simp;omega) h4 (by rw[hV,kL,qm (by decide) h2];exact u) (by rw[kL];exact h3);rw[J,kL] at this;exact this
 have O:0< b* s:=Nat.mul_pos hb y;have m1:=Nat.mod_add_div p (b* s);have m2:=Nat.mod_lt p O
 have hBv:MB* (b* s)< MB^ (k+1+1):=by
  rw[Nat.pow_succ MB (k+1),Nat.mul_comm MB];exact Nat.mul_lt_mul_of_pos_right hv2 (by decide)
 have hgv:g* (b* s)<=MB* (b* s):=Nat.mul_le_mul_right _ (Nat.le_trans U (by decide));obtain⟨W,hW⟩:∃W,W=MB^ (k+1+1):=⟨_,rfl⟩;simp only[<-hW] at E t hBv
 have hvW:b* s< W:=by
  have:1* (b* s)<=MB* (b* s):=Nat.mul_le_mul_right _ (by decide);omega
 refine bH (fun _:Unit=>⟨[(4,.lptr 1 0 0),(5,.lptr 2 0 0),(6,.lptr 3 0 0),(7,.arr (dE (aw MB (b* s)))),(8,i64 (aw MB (b* s)).length),(9,.lsl 4 0 ((aw MB a).length+1) (some ((aw MB a).length+1)) 1),(10,.lsl 5 0 ((aw MB a).length+1- (aw MB (b* s)).length) (some ((aw MB a).length+1- (aw MB (b* s)).length)) 1),(11,i64 (((j+1:Nat):Int)- 1)),(13,u64 (p/ (b* s):Nat))],
  [(1,some ⟨32,1,[[.emp]]⟩),(2,some ⟨32,1,[[.emp]]⟩),(3,some ⟨32,1,[[mag s]]⟩),(4,some ⟨218,1,dE (n++jh MB (k+1+1) (p % (b* s))++f)⟩),(5,some ⟨218,1,dE (List.replicate (j+1) 0++T)⟩)],6,142⟩) (fun _=>True) ?_ ?_
 by_cases hc:g* (b* s)<=p;have hgq:g=p/ (b* s):=Nat.le_antisymm ((Nat.le_div_iff_mul_le O).2 hc) gu1;have e1:p % (b* s)+g* (b* s)=p+W* 0:=by rw[hgq,Nat.mul_comm (p/ (b* s))];omega
 have hs1:=E (p % (b* s)) 0 e1 (by omega) (by omega);refine s_r 4 ?_;refine a_3 ?_;refine o_1 (.callE2 rfl rfl rfl rfl rfl rfl (hs1)) ?_;refine aq ?_;refine cF (am ⟨(),trivial,?_⟩);have hgI2:u64 g=u64 (p/ (b* s):Nat):=by rw[<-hgq]
 exact s_f [];have hc1:p< g* (b* s):=by omega
 have e1:(p+W- g* (b* s))+g* (b* s)=p+W* 1:=by omega
 have hs1:=E (p+W- g* (b* s)) 1 e1 (by omega) (by omega)
 have hgt:p/ (b* s)< g:=by
  rw[Nat.div_lt_iff_lt_mul O];exact hc1
 refine s_r 4 ?_;refine a_3 ?_;refine o_1 (.callE2 rfl rfl rfl rfl rfl rfl (hs1)) ?_;refine aq ?_;refine au rfl (fun h4=>?_) (fun h4=>?_);refine r_z 1 ?_;refine aj ?_
 refine aC (ovM s (aw MB (b* s)) ((aw MB a).length+1) T n f j (k+1+1)) (fun x=>if x.2.2 then 0 else x.2.1+1)
  (fun x=>(x.2.2=true/\x.2.1=p/ (b* s)/\x.1=jh MB (k+1+1) (p % (b* s)))\/(x.2.2=false/\p/ (b* s)< x.2.1/\x.2.1<=999999999/\∃D,x.1=jh MB (k+1+1) D/\D+x.2.1* (b* s)=p+W/\D< W))
  (jh MB (k+1+1) (p+W- g* (b* s)),g,false) (.inr ⟨rfl,hgt,U,_,rfl,by simp only;omega,by omega⟩) ?_ ?_
 rw[ovM.eq_1];exact s_e [];rintro⟨A',w,Y⟩ hin;rw[ovM.eq_1];refine ae (r_z 2 ?_);refine au rfl (fun h5=>?_) (fun h5=>?_);have hm:Y=false:=by simpa using h5
 subst hm;rcases hin with⟨V,_⟩|⟨_,V,h7,D,h8,h9,h10⟩
 cases V;simp only at V h7 h8 h9;subst h8;have hg0:1<=w:=Nat.lt_of_le_of_lt (Nat.zero_le _) V;refine am ?_;have hI:(w:Int)- 1=((w- 1:Nat):Int):=by omega
 have hq1:b* s* (p/ (b* s))=p- p % (b* s):=by omega
 by_cases hlast:w=p/ (b* s)+1
 have e2:p % (b* s)+W* 1=D+b* s:=by
  rw[hlast,Nat.add_mul,Nat.one_mul,Nat.mul_comm (p/ (b* s))] at h9;omega
 have hg1:=t D (p % (b* s)) 1 e2 h10 (by omega) (by omega);refine ae (aj (r_m 4 ?_));refine a_2 ?_;refine o_1 (.callE2 rfl rfl rfl rfl rfl rfl (hg1)) ?_;refine a_z ?_;refine r_m 3 ?_;refine a_z ?_;refine⟨(jh MB (k+1+1) (p % (b* s)),w- 1,true),by simp,.inl ⟨rfl,by simp only;omega,rfl⟩,?_⟩;rw[ovM.eq_1];have:=(congrArg (fun z=>AV.v (.int .u64 z)) hI);exact s_f [];have K:p/ (b* s)< w- 1:=by omega
 have h11:(w- 1) * (b* s)+b* s=w* (b* s):=by
  conv=>rhs;rw[show w=(w- 1)+1 by omega,Nat.add_mul,Nat.one_mul]
 have h12:p< (w- 1) * (b* s):=by
  rw[Nat.div_lt_iff_lt_mul O] at K;exact K
 have hg1:=t D (D+b* s) 0 (by omega) h10 (by omega) (by omega);refine ae (aj (r_m 4 ?_));refine a_2 ?_;refine o_1 (.callE2 rfl rfl rfl rfl rfl rfl (hg1)) ?_;refine a_z ?_;refine r_m 3 ?_;refine a_z ?_;refine⟨(jh MB (k+1+1) (D+b* s),w- 1,false),by simp;omega,.inr ⟨rfl,K,by simp only;omega,_,rfl,by simp only;omega,by omega⟩,?_⟩;rw[ovM.eq_1];have:=(congrArg (fun z=>AV.v (.int .u64 z)) hI);exact s_f [];have hm:Y=true:=by simpa using h5
 subst hm;rcases hin with⟨_,V,h7⟩|⟨V,_⟩
 simp only at V h7;subst V h7;refine ax ⟨(),trivial,?_⟩;exact s_e [];cases V;cases h4;rintro _ _;have hq9:p/ (b* s)<=999999999:=Nat.le_trans gu1 U;obtain⟨q,hq⟩:∃q,q=p/ (b* s):=⟨_,rfl⟩;rw[<-hq] at hq9 o⊢;have Z:List.replicate (j+1) 0++T=List.replicate j 0++0::T:=by rw[List.replicate_succ'];simp
 have hgT:(dE (List.replicate (j+1) 0++T))[0+(((j+1:Nat):Int)- 1).toNat]?=some [u32 0]:=by
  rw[show 0+(((j+1:Nat):Int)- 1).toNat=j by omega,Z];exact dW (qF _ _ _ _ (by simp))
 have G:(dE (List.replicate (j+1) 0++T)).set (0+(((j+1:Nat):Int)- 1).toNat) [u32 q]=dE (List.replicate j 0++(q::T)):=by
  rw[show 0+(((j+1:Nat):Int)- 1).toNat=j by omega,iz,Z,pX _ _ _ _ _ (by simp)];simp
 refine r_m 6 ?_;refine a_5 ?_;refine eF (.store rfl rfl hgT rfl rfl rfl TS.h (nle rfl)) ?_;refine aq ?_;refine r_m 3 ?_;refine a_z ?_;refine⟨(n++jh MB (k+1+1) (p % (b* s))++f,q::T,j),by simp only;omega,o,?_⟩;rw[ovS.eq_1];refine s_x [] (fun hs=>ek) (fun hs=>?_) ?_
 ·repeat' (first|exact aE|refine h_c ?_ ?_|exact aI hs G (b6 _)|exact bZ)
 ·repeat' (first|exact ShrL.nil|refine ShrL.cons rfl rfl rfl rfl (by first|(exact(congrArg List.length G))|rfl|(simp;done)|(simp <;> omega)) ?_)
 have hj:j1=0:=by have:=of_decide_eq_false h3;omega
 subst hj;refine ax ⟨(R,T,0),⟨c,rfl⟩,?_⟩;rw[ovS.eq_1];exact s_e [];rintro⟨R,T,j1⟩ ⟨c,hj⟩;simp only at c hj;subst hj;obtain⟨hq,hr⟩:=c.last rfl rfl hb y;rw[ovS.eq_1]
 refine AWp.ent (st':=⟨[(4,.lptr 1 0 0),(5,.lptr 2 0 0),(6,.lptr 3 0 0),(9,.arr (dE R)),(10,.arr (dE T))],
  [(1,some ⟨32,1,[[.emp]]⟩),(2,some ⟨32,1,[[.emp]]⟩),(3,some ⟨32,1,[[mag s]]⟩)],4,142⟩) ?_ ?_
 have hlen:=c.len;have hkl:=c.k_le;exact s_x [] (fun hs=>e_34) (fun hs=>e_35);have hRl:=c.len;have hkl:=c.k_le
 have hRt:FS 159 [.arr (dE R)] (.agg [mag (ofD MB R)]):=by
  have:=iP R (by omega);rwa[jV (b:=MB) (by decide) c.dig] at this
 have hTt:FS 159 [.arr (dE T)] (.agg [mag (ofD MB T)]):=by
  have:=iP T (by omega);rwa[jV (b:=MB) (by decide) c.digT] at this
 have hblr:bl (ofD MB R)<=bl b+30:=by
  have u:=c.top;rw[List.drop_zero] at u;have h2:=dI (Nat.le_of_lt u);omega
 have hov:=hrec hl2 (ofD MB R) s (by omega) (by omega) hblr;rw[hr] at hov;refine ae (r_d a7 11 ?_);refine c_s (hRt) ?_;refine c_s (hov) ?_;refine a_7 ?_;refine aq (n_k ?_);refine ae (r_d a7 5 ?_);refine c_s (hTt) ?_;refine a_3 ?_;refine aq (n_k ?_);refine ai (Fin.many ⟨_,_,rfl,⟨_,_,_,_,_,rfl,rfl,rfl,.inl ⟨TG.h,_,TS.h,nle rfl,rfl⟩⟩,_,_,rfl,⟨_,_,_,_,_,rfl,rfl,rfl,.inl ⟨TG.h,_,TS.h,nle rfl,rfl⟩⟩,rfl⟩ (nle rfl) ?_);rw[<-hq];exact ah (an aA (az (ac (ce _) af))) (ah (an aA (az (ac (ce _) af))) av)
theorem len1{b:Nat}(hb:b< 1000000000):(aw MB b).length<=1:=fM (by decide) (by simpa using hb)
theorem tT(a b:Nat)(h:bl a+bl b<=4398046511104)(hb:0< b):FS 165 [.agg [mag a],.agg [mag b]] (.tup [.agg [mag (a/ b)],.agg [mag (a % b)]]):=
 AQ a b (by omega) hb fun _ r s hs c e=>AQ r s (by have:=gM (n:=s) (k:=30) (by omega);omega) hs fun d=>absurd d (by have:=len1 c;omega)
def pf(l:Ln)(k:Nat):Option La:=if k< l.length then some [i64 ((l.length- 1- k:Nat):Int),u32 (l.getD (l.length- 1- k) 0)] else none
theorem o9(l:Ln)(hl:l.length<=281474976710656):GSpec Tryz.prog 183 [.aptr [[.arr (dE l)]] 0 0] (pf l):=by
 have d:Closed (.aptr [[.arr (dE l)]] 0 0):=kR (fun e g c i=>by simp at g;subst g;simp at i;subst i;exact da l);refine GSpec.enter Tryz.func183 rfl (by kernel_rfl) rfl rfl rfl ?_ ?_ rfl ?_;exact ac d af;intro k xs h;unfold pf at h;split at h;cases h;exact ac (ag _) (ac (ag _) af);cases h;intro b N E;refine GWp.seq ?_;refine GWp.lift ?_;refine r_m 4 ?_;refine a_z ?_;refine GWp.block ?_;refine GWp.loopS (fun m:Nat=>⟨[(0,.v (.func (.yield b) #[] #[])),(1,.aptr [[.arr (dE l)]] 0 0),(3,i64 ((m:Int)- 1))],[],1,19⟩) (fun m=>l.length- m) (fun m=>m) (fun m=>m<=l.length) l.length (Nat.le_refl _) (by simp) ?_ ?_;exact s_e [];intro m o;refine GWp.seq ?_;refine GWp.seq ?_;refine GWp.lift ?_;refine r_m 2 ?_;refine a_z ?_;refine GWp.cond rfl (fun h=>?_) (fun h=>?_)
 ·refine GWp.skip ?_
  have j:1<=m:=by have:=of_decide_eq_true h;omega
  obtain⟨x,f⟩:∃x,l[m- 1]?=some x:=⟨_,List.getElem?_eq_getElem (by omega)⟩;have a:(dE l)[((m:Int)- 1).toNat]?=some [u32 x]:=by rw[show((m:Int)- 1).toNat=m- 1 by omega];exact dW f
  refine GWp.seq ?_;refine GWp.block ?_;refine GWp.seq ?_;refine GWp.regY (fr2:=[(0,.v (.func (.yield b) #[] #[])),(1,.aptr [[.arr (dE l)]] 0 0),(3,i64 ((m:Int)- 1)),(11,.v (.func (.yield b) #[] #[])),(12,i64 ((m:Int)- 1)),(16,u32 x)]) (hp2:=[]) (nx2:=1) 6 rfl rfl rfl rfl rfl rfl ?_ rfl rfl rfl ?_ ?_ ?_;refine o_0 (.move rfl) ?_;refine o_0 (.move rfl) ?_
  first|refine aY (.load_l1 rfl rfl rfl TG.h rfl) rfl rfl ?_|refine aY (.load_a1 rfl rfl TG.h rfl) rfl rfl ?_
  refine o_0 (.move rfl) ?_;refine i_x a ?_;refine l_1 a ?_;refine aq ?_;exact s_y [] (fun hs=>ek) (fun hs=>lV);rotate_left 2;intro n;refine o_0 (.un rfl nr) ?_;refine aq ?_;rotate_left;unfold pf;rw[if_pos (by omega)];simp only[List.map_cons,List.map_nil,coe,i64,u32,Option.some.injEq,List.cons.injEq,AV.v.injEq,Value.int.injEq,true_and,and_true];refine⟨by omega,?_⟩;rw[show l.length- 1- (l.length- m)=m- 1 by omega,List.getD_eq_getElem?_getD,f];rfl;exact ac (ag _) (ac (ag _) af);cases n with
  |false=>
   refine GWp.cond rfl (fun h=>?_) (fun h=>?_);exact GWp.ret ⟨.inr rfl,fun h=>by cases h⟩;cases h
  |true=>
   refine GWp.cond rfl (fun h=>?_) (fun h=>?_);cases h;refine GWp.skip ?_;refine GWp.lift ?_;refine r_m 3 ?_;refine a_z ?_;refine⟨rfl,m- 1,by omega,by omega,by omega,?_⟩;exact s_e []
 refine GWp.exit ⟨.inl rfl,fun _=>?_⟩;have:m=0:=by have:=of_decide_eq_false h;omega
 subst this;unfold pf;rw[if_neg (by omega)]
theorem pc(l:Ln):FS 143 [.arr (dE l)] (.clos 183 [] [.aptr [[.arr (dE l)]] 0 0]):=by
 refine f_n Tryz.func143 ?_ ?_;exact ac (da l) af;refine r_z 2 ?_;refine r_z 2 ?_;refine ai (⟨.inr rfl,[_],⟨_,[],rfl,rfl,rfl⟩,?_⟩);exact Cv.clos av (ah (Cv.sealp aA rfl (fun _ _ h=>by cases h) (by simp) (aD (ah (an aA (da l)) av))) av)
def wordS(n:Nat):Nat->AState
 |k=>⟨[(3,.lptr 1 0 0),(8,.clos 183 [] [.aptr [[.arr (dE (aw MB n))]] 0 0])],[(1,some ⟨207,1,[[u64 (ofD MB ((aw MB n).drop ((aw MB n).length- k)))]]⟩)],2,17⟩
theorem Fu(n:Nat)(h:(aw MB n).length<=2):FS 199 [.agg [mag n]] (u64 n):=by
 have hb:=pc (aw MB n);have t:=o9 (aw MB n) (by omega);have f:Closed (.aptr [[.arr (dE (aw MB n))]] 0 0):=kR (fun e p c q=>by simp at p;subst p;simp at q;subst q;exact da _);have m:Closed (.clos 183 [] [.aptr [[.arr (dE (aw MB n))]] 0 0]):=aR af (ac f af);refine f_c Tryz.func199 ?_;refine r_z 2 ?_;refine r_z 2 ?_;refine ae (r_c 3 (hb) ?_);refine aq ?_;refine aF (fun _:Unit=>⟨[(3,.lptr 1 0 0)],[(1,some ⟨207,1,[[u64 n]]⟩)],2,17⟩) (fun _=>True) ?_ ?_;refine aj (AWp.rangeFunc (α:=Nat) (γ:=Empty) (aw MB n).length (wordS n) (fun k=>k) (fun k=>k<=(aw MB n).length) (fun e=>nomatch e) (fun _ e=>nomatch e) 0 rfl t rfl rfl ?_ (fun _=>⟨rfl,rfl⟩) (fun e=>nomatch e) (Nat.zero_le _) rfl (fun _ h=>h) ?_ ?_ ?_ ?_ (fun _ e=>nomatch e));intro k xs a;unfold pf at a;split at a;cases a;rfl;cases a;rw[wordS.eq_1];have y:AV.v (.int .u64 0)=u64 ((ofD MB ((aw MB n).drop ((aw MB n).length- 0)):Nat):Int):=by simp[ofD,u64]
 exact s_t [(1,3)];exact ac f af
 ·intro l k xs u a
  unfold pf at a;split at a;rotate_left;cases a;rename_i hlt;cases a;obtain⟨x,j⟩:∃x,(aw MB n)[(aw MB n).length- 1- k]?=some x:=⟨_,List.getElem?_eq_getElem (by omega)⟩;have w:x< 1000000000:=cO (by decide) j;have i:(aw MB n).getD ((aw MB n).length- 1- k) 0=x:=by rw[List.getD_eq_getElem?_getD,j];rfl
  rw[i];have hv:=lj MB j;rw[show(aw MB n).length- 1- k+1=(aw MB n).length- k by omega] at hv
  have o:ofD MB ((aw MB n).drop ((aw MB n).length- k))< 1000000000:=by
   have g:=fG (b:=MB) (l:=(aw MB n).drop ((aw MB n).length- k)) fun d r=>ec (by decide) n d (List.mem_of_mem_drop r);have s:((aw MB n).drop ((aw MB n).length- k)).length<=1:=by simp;omega
   exact Nat.lt_of_lt_of_le g (Nat.pow_le_pow_right (by decide) s)
  show AWp _ _ _ _ ⟨[(10,u32 x),(9,i64 ((aw MB n).length- 1- k:Nat)),(3,.lptr 1 0 0),(8,.clos 183 [] [.aptr [[.arr (dE (aw MB n))]] 0 0]),(1003,.lptr 1 0 0),(1008,.clos 183 [] [.aptr [[.arr (dE (aw MB n))]] 0 0])],[(1,some ⟨207,1,[[u64 (ofD MB ((aw MB n).drop ((aw MB n).length- k)))]]⟩)],2,17⟩;refine r_m 1 ?_;refine a_z ?_;refine aj (r_m 6 ?_);refine a_z ?_;refine⟨k+1,⟨by omega,rfl⟩,?_⟩;show SEntT _ ⟨[(1003,.lptr 1 0 0),(1008,.clos 183 [] [.aptr [[.arr (dE (aw MB n))]] 0 0])],[(1,some ⟨207,1,[[u64 (ofD MB ((aw MB n).drop ((aw MB n).length- (k+1))))]]⟩)],2,17⟩
  have g:AV.v (.int .u64 ((ofD MB ((aw MB n).drop ((aw MB n).length- k)):Nat) * 1000000000+(x:Int)))=u64 ((ofD MB ((aw MB n).drop ((aw MB n).length- (k+1))):Nat):Int):=by
   rw[show(aw MB n).length- (k+1)=(aw MB n).length- 1- k by omega,hv];simp[u64];omega
  exact s_t []
 intro k u a;unfold pf at a;split at a;cases a;refine⟨(),trivial,?_⟩;rw[wordS.eq_1]
 have g:ofD MB ((aw MB n).drop ((aw MB n).length- k))=n:=by
  rw[show(aw MB n).length- k=0 by omega,List.drop_zero,bU (by decide)]
 rw[g];exact s_e [];rintro _ _;refine r_z 2 ?_;refine ai (aW rfl rfl (ag _))
def z7:Nat×Nat->AState
 |(p,q)=>⟨[(2,.lptr 1 0 0),(3,.lptr 2 0 0),(4,.lptr 3 0 0)],[(1,some ⟨32,1,[[mag p]]⟩),(2,some ⟨32,1,[[mag q]]⟩),(3,some ⟨32,1,[[.emp]]⟩)],4,43⟩
theorem kD(p:Nat)(q:Nat):z7 (p,q)=⟨[(2,.lptr 1 0 0),(3,.lptr 2 0 0),(4,.lptr 3 0 0)],[(1,some ⟨32,1,[[mag p]]⟩),(2,some ⟨32,1,[[mag q]]⟩),(3,some ⟨32,1,[[.emp]]⟩)],4,43⟩:=rfl
def Hm:Nat×Nat->AState
 |(x,y)=>⟨[(4,.lptr 3 0 0),(5,u64 x),(6,u64 y)],[(3,some ⟨32,1,[[.emp]]⟩)],4,43⟩
theorem rD(x:Nat)(y:Nat):Hm (x,y)=⟨[(4,.lptr 3 0 0),(5,u64 x),(6,u64 y)],[(3,some ⟨32,1,[[.emp]]⟩)],4,43⟩:=rfl
theorem Bi(p q:Nat):Nat.gcd q (p % q)=Nat.gcd p q:=by
 rw[Nat.gcd_comm p q,Nat.gcd_rec q p,Nat.gcd_comm]
theorem Ey{n:Nat}(h:(aw MB n).length<=2):n< 1000000000000000000:=by
 have a:=fG (b:=MB) (ec (by decide) n);rw[bU (by decide)] at a;exact Nat.lt_of_lt_of_le a (Nat.pow_le_pow_right (by decide) h)
theorem GJ(a b:Nat)(h:bl a+bl b<=4398046511104):FS 163 [.agg [mag a],.agg [mag b]] (.agg [mag (Nat.gcd a b)]):=by
 refine f_c Tryz.func163 ?_;refine r_z 3 ?_;refine bH z7 (fun x=>x.1=Nat.gcd a b) ?_ ?_;refine aj (aC z7 (fun x=>x.2) (fun x=>Nat.gcd x.1 x.2=Nat.gcd a b/\bl x.1+bl x.2<=4398046511104) (a,b) ⟨rfl,h⟩ ?_ ?_);rw[kD];exact s_e [];rintro⟨p,q⟩ ⟨g,hb⟩;simp only at g hb;rw[kD];have s:=Ft (aw MB q);refine ae (r_c 3 (s) ?_);refine a_z ?_;refine au rfl (fun j=>?_) (fun j=>?_)
 have i:0< q:=by
  rcases Nat.eq_zero_or_pos q with e|e
  subst e;rw[cL] at j;simp at j;exact e
 refine am (aj (bH (fun _:Unit=>⟨[(2,.lptr 1 0 0),(3,.lptr 2 0 0),(4,.lptr 3 0 0)],[(1,some ⟨32,1,[[mag p]]⟩),(2,some ⟨32,1,[[mag q]]⟩),(3,some ⟨32,1,[[.emp]]⟩)],4,43⟩) (fun _=>True) ?_ ?_));by_cases hl:(aw MB p).length<=2;by_cases hl2:(aw MB q).length<=2;have o:=Ey hl;have m:=Ey hl2;refine s_r 10 ?_;refine a_5 ?_;refine y_g rfl (by simp;omega) (.fieldAddr_l rfl TF.h (by decide)) ?_;refine y_g rfl (by simp;omega) (.load_l1 rfl rfl rfl TG.h rfl) ?_;refine y_g rfl (by simp;omega) (.lenD rfl rfl rfl rfl te_30.h) ?_;refine y_g rfl (by simp;omega) (.bin rfl rfl iC) ?_;refine o_0 (.pickT rfl (by simp;omega) rfl) ?_;refine aq ?_;refine au rfl (fun l=>?_) (fun l=>?_);refine ae (r_d a7 6 ?_);refine c_s (Fu p hl) ?_;refine c_s (Fu q hl2) ?_;refine a_2 ?_;refine aq (n_k ?_);refine bH (fun x:Nat=>⟨[(4,.lptr 3 0 0),(5,u64 x)],[(3,some ⟨32,1,[[.emp]]⟩)],4,43⟩) (fun x=>x=Nat.gcd a b) ?_ ?_;refine aj (aC Hm (fun x=>x.2) (fun x=>Nat.gcd x.1 x.2=Nat.gcd a b/\x.1< 1000000000000000000/\x.2< 1000000000000000000) (p,q) ⟨g,o,m⟩ ?_ ?_);rw[rD];exact s_e [];rintro⟨x,y⟩ ⟨d,t,n⟩;simp only at d t n;rw[rD];refine ae (r_z 2 ?_);refine au rfl (fun k=>?_) (fun k=>?_);have c:0< y:=by simp at k;omega
 refine am (aj (r_d a7 6 ?_));refine a_6 ?_;refine aq (n_k ?_);refine⟨(y,x % y),Nat.mod_lt _ c,⟨(Bi x y).trans d,n,Nat.lt_trans (Nat.mod_lt _ c) n⟩,?_⟩;rw[rD];exact s_e [];have c:y=0:=by simp at k;omega
 subst c;refine ax ⟨x,by simpa using d,?_⟩;exact s_e [];rintro x rfl
 have f:Nat.gcd a b< 18446744073709551616:=by
  rw[<-g];have l:Nat.gcd p q<=q:=Nat.gcd_le_right _ i;omega
 refine r_c 3 (gH _ f) ?_;refine a_z ?_;exact ai (dP rfl rfl rfl TG.h TS.h (nle rfl) rfl (az (ac (ce _) af)));exact absurd l (by simp;omega);refine s_r 10 ?_;refine a_5 ?_;refine y_g rfl (by simp;omega) (.fieldAddr_l rfl TF.h (by decide)) ?_;refine y_g rfl (by simp;omega) (.load_l1 rfl rfl rfl TG.h rfl) ?_;refine y_g rfl (by simp;omega) (.lenD rfl rfl rfl rfl te_30.h) ?_;refine y_g rfl (by simp;omega) (.bin rfl rfl iC) ?_;refine o_0 (.pickT rfl (by simp;omega) rfl) ?_;refine aq ?_;refine au rfl (fun h=>?_) (fun _=>am ⟨(),trivial,?_⟩);exact absurd h (by simp;omega);exact s_e [];refine s_r 10 ?_;refine a_5 ?_;refine n_g rfl (by simp;omega) ?_;refine n_g rfl (by simp;omega) ?_;refine n_g rfl (by simp;omega) ?_;refine n_g rfl (by simp;omega) ?_;refine o_0 (.pickF rfl (by simp;omega) rfl) ?_;refine aq ?_;refine au rfl (fun h=>?_) (fun _=>am ⟨(),trivial,?_⟩);cases h;exact s_e [];rintro _ _;refine r_c 10 (tT p q hb i) ?_;refine a_z ?_;refine r_d a7 4 ?_;refine a_4 ?_;refine aq (n_k ?_);refine⟨(q,p % q),Nat.mod_lt _ i,⟨(Bi p q).trans g,?_⟩,?_⟩;have:=dI (Nat.mod_le p q);simp only;omega;rw[kD];exact s_e []
 have i:q=0:=by
  rcases Nat.eq_zero_or_pos q with e|e
  exact e
  have:(aw MB q).length≠0:=fun r=>by
   rw[List.length_eq_zero_iff] at r;have:=(jm (b:=MB) (by decide)).1 r;omega
  simp[this] at j
 subst i;refine ax ⟨(p,0),?_,?_⟩;simpa using g;rw[kD];exact s_e [];rintro⟨p,q⟩ hp;simp only at hp;subst hp;rw[kD];refine r_z 2 ?_;refine ai (dP rfl rfl rfl TG.h TS.h (nle rfl) rfl (az (ac (ce _) af)))
theorem G6(n:Nat):((aw MB n).length==0)=(n==0):=by
 rw[Bool.eq_iff_iff];simp only[beq_iff_eq,List.length_eq_zero_iff];exact jm (by decide)
theorem nX(n:Nat):FS 86 [.agg [mag n]] (bln (n==0)):=by
 rw[<-G6];exact Ft _
theorem eU(b:Bool)(m:Nat):FS 106 [bln b,.agg [mag m]] (.agg (zI (sgn b m))):=by
 have e:AV.agg (zI (sgn b m))= .agg [mag m,bln (b && !(m==0))]:=by unfold zI;rw[fD,sgn_neg]
 rw[e];refine f_c Tryz.func106 ?_;cases b with
 |true=>
  refine r_z 2 ?_;refine ae (r_d a7 9 ?_);refine a_3 ?_;refine y_g rfl d_t (.load_l rfl rfl rfl TG.h TS.h (nle rfl)) ?_;refine y_g rfl d_t (.call rfl rfl rfl (nX m)) ?_;refine y_g rfl d_t (.un rfl nr) ?_;refine o_0 (.pickT rfl d_t rfl) ?_;refine a_2 ?_;refine aq (n_k ?_);exact ai (c_e (az (ac (ce m) (ac (ag _) af))))
 |false=>
  refine r_z 2 ?_;refine ae (r_d a7 9 ?_);refine a_3 ?_;refine n_g rfl d_f ?_;refine n_g rfl d_f ?_;refine n_g rfl d_f ?_;refine o_0 (.pickF rfl d_f rfl) ?_;refine a_2 ?_;refine aq (n_k ?_);exact ai (c_e (az (ac (ce m) (ac (ag _) af))))
theorem I9(z:Int):FS 49 [.agg (zI z)] (i64 (sgZ z)):=by
 refine f_c Tryz.func49 ?_;refine r_z 2 ?_;refine bH (fun _:Unit=>⟨[],[],1,10⟩) (fun _=>0< z) ?_ ?_;refine aj (r_c 4 (nX z.natAbs) ?_);refine a_z ?_;refine au rfl (fun h=>?_) (fun h=>?_);refine r_z 1 ?_;refine ai (aW rfl ?_ (ag _));have:z=0:=by simpa using h
 simp[i64,sgZ,this,ofV];have b:z≠0:=by simpa using h
 refine r_z 3 ?_;refine au rfl (fun a=>?_) (fun a=>?_);refine r_z 1 ?_;refine ai (aW rfl ?_ (ag _));have:z< 0:=by simpa using a
 simp[i64,sgZ,this,b,ofV];have:¬z< 0:=by simpa using a
 refine am ⟨(),by omega,?_⟩;exact s_e [];rintro _ a;refine r_z 1 ?_;refine ai (aW rfl ?_ (ag _));simp only[i64,sgZ];rw[if_neg (by omega),if_neg (by omega)];rfl
theorem cC(q:Rat):FS 12 [.agg (qC q)] (i64 (sgZ q.num)):=by
 refine f_c Tryz.func12 ?_;refine r_z 2 ?_;refine r_c 4 (I9 q.num) ?_;refine a_z ?_;exact ai (t_e (ag _))
theorem sgn_mul(a b:Bool)(m n:Nat):sgn a m* sgn b n=sgn (a !=b) (m* n):=by
 cases a <;> cases b <;> simp[sgn,Int.neg_mul,Int.mul_neg]
theorem yy(a:Bool)(m n:Nat):sgn a m+sgn a n=sgn a (m+n):=by
 cases a <;> simp[sgn]<;> omega
theorem CR{a b:Bool}(h:a≠b){m n:Nat}(hl:m<=n):sgn a m+sgn b n=sgn b (n- m):=by
 cases a <;> cases b <;> simp[sgn] at h⊢ <;> omega
theorem CS{a b:Bool}(h:a≠b){m n:Nat}(hl:n<=m):sgn a m+sgn b n=sgn a (m- n):=by
 cases a <;> cases b <;> simp[sgn] at h⊢ <;> omega
theorem ze(x y:Int)(h:bl x.natAbs+bl y.natAbs<=17592186044416):FS 111 [.agg (zI x),.agg (zI y)] (.agg (zI (x* y))):=by
 have e:x* y=sgn (decide (x< 0) !=decide (y< 0)) (x.natAbs* y.natAbs):=by
  rw[<-sgn_mul,pU,pU]
 rw[e];refine f_c Tryz.func111 ?_;refine r_z 3 ?_;refine ae (r_d a7 12 ?_);refine c_s (gG x.natAbs y.natAbs h) ?_;refine c_s (eU (decide (x< 0) !=decide (y< 0)) (x.natAbs* y.natAbs)) ?_;refine a_1 ?_;refine aq (n_k ?_);exact ai (c_e (iV _))
theorem fs_iadd(x y:Int)(h:bl x.natAbs+bl y.natAbs<=17592186044416):FS 112 [.agg (zI x),.agg (zI y)] (.agg (zI (x+y))):=by
 obtain⟨a,ha⟩:∃a,a=decide (x< 0):=⟨_,rfl⟩;obtain⟨b,hb⟩:∃b,b=decide (y< 0):=⟨_,rfl⟩;have ex:x=sgn a x.natAbs:=by rw[ha,pU]
 have i:y=sgn b y.natAbs:=by rw[hb,pU]
 refine f_c Tryz.func112 ?_;refine r_z 3 ?_;refine bH (fun _:Unit=>⟨[(2,.lptr 1 0 0),(3,.lptr 2 0 0),(4,.lptr 3 0 0)],[(1,some ⟨34,2,[zI x]⟩),(2,some ⟨34,2,[zI y]⟩),(3,some ⟨34,2,[[.emp,bln false]]⟩)],4,42⟩) (fun _=>a≠b/\y.natAbs<=x.natAbs) ?_ ?_;refine aj (r_z 6 ?_);refine au rfl (fun j=>?_) (fun j=>?_);have c:a=b:=by rw[ha,hb];simpa using j
 have e:x+y=sgn (decide (x< 0)) (x.natAbs+y.natAbs):=by
  conv=>lhs;rw[ex,i,<-c]
  rw[yy,ha]
 rw[e];refine ae (r_d a7 9 ?_);refine c_s (zb x.natAbs y.natAbs h) ?_;refine c_s (eU (decide (x< 0)) (x.natAbs+y.natAbs)) ?_;refine a_1 ?_;refine aq (n_k ?_);exact ai (c_e (iV _));have c:a≠b:=by rw[ha,hb];simpa using j
 refine r_c 7 (pv x.natAbs y.natAbs h) ?_;refine a_z ?_;refine au rfl (fun g=>?_) (fun g=>?_)
 have f:x.natAbs< y.natAbs:=by
  have:=of_decide_eq_true g;unfold eN at this;split at this;omega;split at this <;> omega
 have e:x+y=sgn (decide (y< 0)) (y.natAbs- x.natAbs):=by
  conv=>lhs;rw[ex,i]
  rw[CR c (Nat.le_of_lt f),hb]
 rw[e];refine ae (r_d a7 9 ?_);refine c_s (zc y.natAbs x.natAbs (by omega) (Nat.le_of_lt f)) ?_;refine c_s (eU (decide (y< 0)) (y.natAbs- x.natAbs)) ?_;refine a_1 ?_;refine aq (n_k ?_);exact ai (c_e (iV _))
 have d:y.natAbs<=x.natAbs:=by
  have:=of_decide_eq_false g;unfold eN at this;split at this;omega;split at this <;> omega
 refine am ⟨(),⟨c,d⟩,?_⟩;exact s_e [];rintro _ ⟨c,d⟩
 have e:x+y=sgn (decide (x< 0)) (x.natAbs- y.natAbs):=by
  conv=>lhs;rw[ex,i]
  rw[CS c d,ha]
 rw[e];refine ae (r_d a7 9 ?_);refine c_s (zc x.natAbs y.natAbs (by omega) d) ?_;refine c_s (eU (decide (x< 0)) (x.natAbs- y.natAbs)) ?_;refine a_1 ?_;refine aq (n_k ?_);exact ai (c_e (iV _))
theorem Bn(n:Int)(h: -9223372036854775808<=n/\n<=9223372036854775807):FS 67 [i64 n] (.agg (zI n)):=by
 refine f_c Tryz.func67 ?_;refine r_z 1 ?_;refine ae (r_z 2 ?_);refine au rfl (fun b=>?_) (fun b=>?_);have c:n< 0:=of_decide_eq_true b;have e:n=sgn true n.natAbs:=by simp[sgn];omega
 have a:18446744073709551616- (n+18446744073709551616)=((n.natAbs:Nat):Int):=by omega
 have hs:FS 131 [.v (.int .u64 (18446744073709551616- (n+18446744073709551616)))] (.agg [mag n.natAbs]):=by rw[a];exact gH _ (by omega)
 refine s_r 6 ?_;refine a_1 ?_;refine o_0 (.conv rfl (cU64n (by omega) tu_2.h tu_207.h)) ?_;refine o_0 (.un rfl (Hx (by omega))) ?_;refine c_s (hs) ?_;refine c_s (eU true n.natAbs) ?_;refine a_z ?_;refine ai (dP rfl rfl rfl TG.h TS.h (nle rfl) ?_ ?_);show _=AV.agg (zI n)
 conv=>rhs;rw[e]
 rfl;exact iV _;refine am ?_;have c:0<=n:=by have:=of_decide_eq_false b;omega
 have e:n=sgn false n.natAbs:=by simp[sgn];omega
 have a:n=((n.natAbs:Nat):Int):=by omega
 have hs:FS 131 [.v (.int .u64 n)] (.agg [mag n.natAbs]):=by
  have:=gH n.natAbs (by omega);rwa[u64,<-a] at this
 refine s_r 5 ?_;refine a_1 ?_;refine o_0 (.conv rfl (cU64 (by omega) tu_2.h tu_207.h)) ?_;refine c_s (hs) ?_;refine c_s (eU false n.natAbs) ?_;refine a_z ?_;refine ai (dP rfl rfl rfl TG.h TS.h (nle rfl) ?_ ?_);show _=AV.agg (zI n)
 conv=>rhs;rw[e]
 rfl;exact iV _
theorem ID:mag 0= .arr []:=by unfold mag;rw[cL];rfl
theorem qI(n:Int):FS 66 [.agg (zI n)] (.agg (qC n)):=by
 have e:qC (n:Rat)=[mag n.natAbs,bln (decide (n< 0)),mag 0]:=rfl;rw[e];refine f_c Tryz.func66 ?_;refine r_z 2 ?_;refine r_z 3 ?_;refine ai (Fin.cell rfl rfl rfl TG.h TS.h (nle rfl) (Cv.agg (ah (an aA (ce _)) (ah (an aA (ag _)) (ah (Cv.emp _ ID) av)))))
theorem dU(n:Int)(h: -9223372036854775808<=n/\n<=9223372036854775807):FS 25 [i64 n] (.agg (qC n)):=by
 refine f_c Tryz.func25 ?_;refine r_z 1 ?_;refine r_c 4 (Bn n h) ?_;refine c_s (qI n) ?_;refine a_z ?_;exact ai (c_e (aS _))
theorem eV(q:Rat)(h:qs q<=1099511627776):FS 87 [.agg (qC q)] (.agg [mag q.den]):=by
 have hp:=q.den_pos;have b:=ed q;have e:q.den=q.den- 1+1:=by omega
 have a:=dI (show q.den- 1<=q.den by omega);have c:bl 1=1:=jE;refine f_c Tryz.func87 ?_;refine r_z 2 ?_;refine ae (r_d a7 5 ?_);refine c_s (gH 1 (by decide)) ?_;refine c_s (zb (q.den- 1) 1 (by omega)) ?_;refine a_1 ?_;refine aq (n_k ?_);refine ai (dP rfl rfl rfl TG.h TS.h (nle rfl) ?_ ?_);show AV.agg [mag (q.den- 1+1)]=_;rw[<-e];exact closed_mA _
theorem qJ(n:Int)(d:Nat)(hd:0< d)(h:bl n.natAbs+bl d<=2199023255552):FS 110 [.agg (zI n),.agg [mag d]] (.agg (qC (mkRat n d))):=by
 obtain⟨g,e⟩:∃g,g=Nat.gcd n.natAbs d:=⟨_,rfl⟩;have a:0< g:=by rw[e];exact Nat.gcd_pos_of_pos_right _ hd
 have b:g<=d:=by rw[e];exact Nat.gcd_le_right _ hd
 have l:=dI b;have m:=eY n.natAbs g;have o:=eY d g;have f:0< d/ g:=Nat.div_pos b a
 have c:AV.agg (qC (mkRat n d))= .agg (zI (sgn (decide (n< 0)) (n.natAbs/ g))++[mag (d/ g- 1)]):=by
  unfold qC;rw[jO hd,(lm hd).2,<-e];rfl
 rw[c];have k:=GJ n.natAbs d (by omega);rw[<-e] at k;refine f_c Tryz.func110 ?_;refine r_z 3 ?_;refine ae (r_c 6 (k) ?_);refine a_z ?_;refine r_c 3 (fs_one g) ?_;refine a_z ?_;refine aF (fun _:Unit=>⟨[(2,.lptr 1 0 0),(3,.lptr 2 0 0),(4,.lptr 3 0 0)],[(1,some ⟨34,2,[[mag (n.natAbs/ g),bln (decide (n< 0))]]⟩),(2,some ⟨32,1,[[mag (d/ g)]]⟩),(3,some ⟨36,3,[[.emp,bln false,.emp]]⟩)],4,36⟩) (fun _=>True) ?_ ?_;refine au rfl (fun j=>?_) (fun j=>?_);refine r_c 9 (tT n.natAbs g (by omega) a) ?_;refine a_z ?_;refine r_m 7 ?_;refine c_s (tT d g (by omega) a) ?_;refine a_z ?_;refine⟨(),trivial,?_⟩;exact s_e [];have i:g=1:=by simpa using j
 subst i;refine am ⟨(),trivial,?_⟩;rw[Nat.div_one,Nat.div_one];exact s_e [];rintro _ _;refine ae (r_d a7 10 ?_);refine c_s (eU (decide (n< 0)) (n.natAbs/ g)) ?_;refine c_s (gH 1 (by decide)) ?_;refine c_s (zc (d/ g) 1 (by omega) f) ?_;refine a_2 ?_;refine aq (n_k ?_);exact ai (c_e (az (ac (ce _) (ac (ag _) (ac (ce _) af)))))
theorem c6(a b:Rat)(h:qs a+qs b<=549755813888):FS 47 [.agg (qC a),.agg (qC b)] (.agg (qC (a* b))):=by
 have hp:=rV a b;have e:=ez a;have c:=ed a;have f:=ez b;have d:=ed b;rw[oE];refine f_c Tryz.func47 ?_;refine r_z 3 ?_;refine ae (r_d a7 12 ?_);refine c_s (ze a.num b.num (by omega)) ?_;refine c_s (eV a (by omega)) ?_;refine c_s (eV b (by omega)) ?_;refine c_s (gG a.den b.den (by omega)) ?_;refine c_s (qJ (a.num* b.num) (a.den* b.den) (n8 a b) (by omega)) ?_;refine a_1 ?_;refine aq (n_k ?_);exact ai (c_e (aS _))
theorem Cy(n:Nat):zI (n:Int)=[mag n,bln false]:=by
 unfold zI;rw[Int.natAbs_natCast];rfl
theorem Br(x:Int)(n:Nat)(h:bl x.natAbs+bl n<=17592186044416):FS 111 [.agg (zI x),.agg [mag n,bln false]] (.agg (zI (x* n))):=by
 have:=ze x n (by simpa using h);rwa[Cy] at this
theorem fy(a b:Rat)(h:qs a+qs b<=549755813888):FS 48 [.agg (qC a),.agg (qC b)] (.agg (qC (a+b))):=by
 have hp:=yd a b;have e:=ez a;have c:=ed a;have f:=ez b;have d:=ed b;have e1:=dC (x:=a.num) (y:=b.den) e (by simpa using d);have e2:=dC (x:=b.num) (y:=a.den) f (by simpa using c);rw[ye];refine f_c Tryz.func48 ?_;refine r_z 3 ?_;refine ae (r_d a7 8 ?_);refine c_s (eV a (by omega)) ?_;refine c_s (eV b (by omega)) ?_;refine a_4 ?_;refine aq (n_k ?_);refine ae (r_d a7 16 ?_);refine c_s (Br a.num b.den (by omega)) ?_;refine c_s (Br b.num a.den (by omega)) ?_;refine c_s (fs_iadd (a.num* b.den) (b.num* a.den) (by omega)) ?_;refine c_s (gG a.den b.den (by omega)) ?_;refine c_s (qJ (a.num* b.den+b.num* a.den) (a.den* b.den) (n8 a b) (by omega)) ?_;refine a_1 ?_;refine aq (n_k ?_);exact ai (c_e (aS _))
theorem Gm(a:Rat):qC (-a)=zI (sgn (!decide (a.num< 0)) a.num.natAbs)++[mag (a.den- 1)]:=by
 unfold qC;rw[Rat.neg_num,Rat.neg_den]
 have e: -a.num=sgn (!decide (a.num< 0)) a.num.natAbs:=by
  unfold sgn;by_cases h:a.num< 0;simp[h];omega;simp[h];omega
 rw[e];rfl
theorem ki(a:Rat):FS 40 [.agg (qC a)] (.agg (qC (-a))):=by
 have b:=aS (-a);rw[Gm] at b⊢;refine f_c Tryz.func40 ?_;refine r_z 2 ?_;refine ae (r_d a7 12 ?_);refine c_s (eU (!decide (a.num< 0)) a.num.natAbs) ?_;refine a_4 ?_;refine aq (n_k ?_);exact ai (c_e (b))
theorem jC(a b:Rat)(h:qs a+qs b<=549755813888):FS 53 [.agg (qC a),.agg (qC b)] (.agg (qC (a- b))):=by
 have hs:=fy a (-b) (by rw[fw];exact h);rw[<-Rat.sub_eq_add_neg] at hs;refine f_c Tryz.func53 ?_;refine r_z 3 ?_;refine ae (r_d a7 5 ?_);refine c_s (ki b) ?_;refine c_s (hs) ?_;refine a_1 ?_;refine aq (n_k ?_);exact ai (c_e (aS _))
theorem I3(a b:Rat)(hb:b≠0)(h:qs a+qs b<=549755813888):FS 132 [.agg (qC a),.agg (qC b)] (.agg (qC (a/ b))):=by
 have hp:=xQ a b;have e:=ez a;have c:=ed a;have f:=ez b;have d:=ed b;have g:b.num≠0:=fun h=>hb (Rat.num_eq_zero.1 h);have hs:=fD (decide (b.num< 0)) b.den;rw[sG a b hb];refine f_c Tryz.func132 ?_;refine r_z 3 ?_;refine ae (r_d a7 17 ?_);refine c_s (eV b (by omega)) ?_;refine c_s (eU (decide (b.num< 0)) b.den) ?_;refine c_s (ze a.num (sgn (decide (b.num< 0)) b.den) (by rw[hs];omega)) ?_;refine c_s (eV a (by omega)) ?_;refine c_s (gG a.den b.num.natAbs (by omega)) ?_;refine c_s (qJ (a.num* sgn (decide (b.num< 0)) b.den) (a.den* b.num.natAbs) (Nat.mul_pos a.den_pos (by omega)) (by omega)) ?_;refine a_1 ?_;refine aq (n_k ?_);exact ai (c_e (aS _))
theorem DM(a b:Rat)(hb:b≠0)(h:qs a+qs b<=549755813888):FS 68 [.agg (qC a),.agg (qC b)] (.tup [.agg (qC (a/ b)),i64 0]):=by
 have d:b.num≠0:=fun h=>hb (Rat.num_eq_zero.1 h);have c:sgZ b.num≠0:=by unfold sgZ;rw[if_neg d];split <;> decide
 refine f_c Tryz.func68 ?_;refine r_z 4 ?_;refine ae (r_c 3 (cC b) ?_);refine a_z ?_;refine au rfl (fun h=>?_) (fun h=>?_);exact absurd h (by simpa using c);refine am (r_c 5 (I3 a b hb (by assumption)) ?_);refine a_z ?_;refine ai (Fin.many ⟨_,_,rfl,⟨_,_,_,_,_,rfl,rfl,rfl,.inl ⟨TG.h,_,TS.h,nle rfl,rfl⟩⟩,⟨_,_,rfl,rfl,rfl⟩⟩ (nle rfl) ?_);exact ah (an aA (aS _)) (ah (an aA (ag _)) av)
end Go.Proofs.YtkbjakfniejkcaaGreatDoor
