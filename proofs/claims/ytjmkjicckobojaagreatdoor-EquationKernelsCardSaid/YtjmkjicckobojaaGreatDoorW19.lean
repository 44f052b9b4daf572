/- Part W19 of the proof. -/
import Derived.Test.YtjmkjicckobojaaGreatDoorW18
import Derived.Lib.UnsafeStr
import Derived.Lib.Builder
set_option linter.all false
namespace Go.Proofs.YtjmkjicckobojaaGreatDoor
open Go.Abs
set_option maxRecDepth 20000
set_option maxHeartbeats 1000000
def ovS(s:Nat)(V:Ln)(L:Nat):Ln×Ln×Nat->AState
 |(R,T,k)=>⟨[(4,.lptr 1 0 0),(5,.lptr 2 0 0),(6,.lptr 3 0 0),(7,.arr (dE V)),(8,i64 V.length),(9,.lsl 4 0 L (some L) 1),(10,.lsl 5 0 (L- V.length) (some (L- V.length)) 1),(11,i64 ((k:Int)- 1))],
  [(1,some ⟨38,1,[[.emp]]⟩),(2,some ⟨38,1,[[.emp]]⟩),(3,some ⟨38,1,[[mag s]]⟩),(4,some ⟨260,1,dE R⟩),(5,some ⟨260,1,dE (List.replicate k 0++T)⟩)],6,142⟩
def ovM(s:Nat)(V:Ln)(L:Nat)(T:Ln)(pre:Ln)(post:Ln)(j:Nat)(n:Nat):Ln×Nat×Bool->AState
 |(A,g,made)=>⟨[(4,.lptr 1 0 0),(5,.lptr 2 0 0),(6,.lptr 3 0 0),(7,.arr (dE V)),(8,i64 V.length),(9,.lsl 4 0 L (some L) 1),(10,.lsl 5 0 (L- V.length) (some (L- V.length)) 1),(11,i64 (((j+1:Nat):Int)- 1)),(13,u64 g),(14,.lsl 4 j n (some n) 1),(15,bln made)],
  [(1,some ⟨38,1,[[.emp]]⟩),(2,some ⟨38,1,[[.emp]]⟩),(3,some ⟨38,1,[[mag s]]⟩),(4,some ⟨260,1,dE (pre++A++post)⟩),(5,some ⟨260,1,dE (List.replicate (j+1) 0++T)⟩)],6,142⟩
theorem BK (a b:Nat) (h:bl a+bl b<=8796093022208) (hb:0< b)
    (hrec:2<=(aw MB b).length->∀r s,0< s->s< 1000000000->bl r<=bl b+30->FS 194 [.agg [mag r],.agg [mag s]] (.tup [.agg [mag (r/ s)],.agg [mag (r % s)]])):
    FS 194 [.agg [mag a],.agg [mag b]] (.tup [.agg [mag (a/ b)],.agg [mag (a % b)]]):=by
 have hla:=b8 (b:=MB) δ a;have hlb:=b8 (b:=MB) δ b;have va:=bY (b:=MB) δ a;have vb:=bY (b:=MB) δ b;refine f_c Tryz.func194 ?_;refine r_z 4 ?_;refine ac (ah (r_c 5 (pQ a b ω) ?_));refine a_z ?_;refine ar rfl (λh=>?_) (λh=>?_)
 have hlt:a< b:=by
  have u:=of_decide_eq_true h;unfold fg at u;split at u;omega;split at u <;> omega
 refine ac (r_d aX 4 ?_);refine a_4 ?_;refine aq (n_k ?_);refine ai ?_;rw[Nat.div_eq_of_lt hlt,Nat.mod_eq_of_lt hlt];refine Fin.many ⟨_,_,rfl,⟨_,_,_,_,_,rfl,rfl,rfl,.inl ⟨TG.h,_,TS.h,nle rfl,rfl⟩⟩,_,_,rfl,⟨_,_,_,_,_,rfl,rfl,rfl,.inl ⟨TG.h,_,TS.h,nle rfl,rfl⟩⟩,rfl⟩ (nle rfl) ?_;refine am (Cv.agg (am (Cv.emp _ ?_) av)) (am (ao aF (aE (ae (cr a) af))) av);unfold mag;rw[cI];rfl
 have hge:b<=a:=by
  have u:=of_decide_eq_false h;refine Nat.le_of_not_lt λhlt=>u ?_;rw[nq ω];decide
 refine r_z 5 ?_;refine ar rfl (λh2=>?_) (λh2=>?_);have hl1:(aw MB b).length=1:=by simp at h2;omega
 have hbm:b< 1000000000:=by
  have:=fX (b:=MB) (dU δ b);rw[vb,hl1] at this;simpa using this
 have hg:(dE (aw MB b))[(0:Int).toNat]?=some [u32 b]:=by rw[EQ hb hbm];rfl
 refine ac (r_d aX 10 ?_);refine a_3 ?_;refine i_x hg ?_;refine l_1 hg ?_;refine c_s (HV a b ω hb ω) ?_;refine a_4 ?_;refine aq (n_k ?_);refine ai (Fin.many ⟨_,_,rfl,⟨_,_,_,_,_,rfl,rfl,rfl,.inl ⟨TG.h,_,TS.h,nle rfl,rfl⟩⟩,_,_,rfl,⟨_,_,_,_,_,rfl,rfl,rfl,.inl ⟨TG.h,_,TS.h,nle rfl,rfl⟩⟩,rfl⟩ (nle rfl) ?_);exact am (ao aF (aE (ae (cr _) af))) (am (ao aF (aE (ae (cr _) af))) av)
 have hl2:2<=(aw MB b).length:=by
  have u:¬(aw MB b).length=1:=by simp at h2;omega
  have h0:(aw MB b).length≠0:=λe=>by
   rw[List.length_eq_zero_iff] at e;have:=(gi (b:=MB) δ).1 e;omega
  omega
 refine aj ?_
 -- the leading digit,the factor
 obtain⟨C,H⟩:∃d,(aw MB b)[(aw MB b).length- 1]?=some d:=⟨_,List.getElem?_eq_getElem ω⟩;have hvt1:C< 1000000000:=da δ H
 have X:1<=C:=by
  have:=tR (b:=MB) δ b;rw[List.getLast?_eq_getElem?,H] at this;simp at this;omega
 have hvt':(dE (aw MB b))[(((aw MB b).length:Int)- 1).toNat]?=some [u32 C]:=by rw[show(((aw MB b).length:Int)- 1).toNat=(aw MB b).length- 1 by omega];exact eg H
 obtain⟨sc1,sc2,y⟩:=Hv X hvt1;have hsI:(1000000000:Int) / ((C:Int)+1)=((1000000000/ (C+1):Nat):Int):=by rw[show((C:Int)+1)=((C+1:Nat):Int) by omega];exact(Int.natCast_ediv _ _).symm
 have hs9:1000000000/ (C+1)<=500000000:=by
  have:1000000000/ (C+1)<=1000000000/ 2:=Nat.div_le_div_left ω ω;omega
 obtain⟨s,hs⟩:∃s,s=1000000000/ (C+1):=⟨_,rfl⟩;rw[<-hs] at sc1 sc2 y hsI hs9;have hsm:FS 178 [.v (.int .u64 ((1000000000:Int) / ((C:Int)+1)))] (.agg [mag s]):=by rw[hsI];exact gV s ω
 have hbls:bl s<=30:=gY ω;have hbs:=im b s;have has:=im a s;refine s_r 14 ?_;refine a_6 ?_;refine i_x hvt' ?_;refine l_1 hvt' ?_;refine a_1 ?_;refine o_0 (.bin rfl rfl (C9 ω)) ?_;refine o_0 (.conv rfl (cU64 (by rw[hsI];omega) tu_260.h tu_246.h)) ?_;refine c_s (hsm) ?_;refine a_z ?_;obtain⟨k,hk⟩:∃k,(aw MB b).length=k+1:=⟨(aw MB b).length- 1,ω⟩;obtain⟨hVl,hb1,hv2,v1,lw,hv1,hvw,hlw,hv500,hv1b⟩:=EN (s:=s) hk (by rw[hk] at H;exact H) X sc1 sc2;have hv1':(dE (aw MB (b* s)))[(((aw MB (b* s)).length:Int)- 1).toNat]?=some [u32 v1]:=by rw[show(((aw MB (b* s)).length:Int)- 1).toNat=k by omega];exact eg hv1
 have hab:=BV (b:=MB) δ hge
 have hU1:a* s< MB^ (aw MB a).length* s:=by
  have:=fX (b:=MB) (dU δ a);rw[va] at this;exact Nat.mul_lt_mul_of_pos_right this y
 have hUl:(aw MB (a* s)).length<=(aw MB a).length+1:=by
  refine ft δ ?_;rw[Nat.pow_succ];have:MB^ (aw MB a).length* s<=MB^ (aw MB a).length* MB:=Nat.mul_le_mul_left _ (by show s<=1000000000;omega);omega
 have hcp:fz (List.replicate ((aw MB a).length+1) [ofV (Value.int IntKind.u32 0)]) 0 (List.take (Nat.min (dE (aw MB (a* s))).length ((aw MB a).length+1)) (dE (aw MB (a* s))))=dE (jM MB ((aw MB a).length+1) (a* s)):=by
  rw[List.take_of_length_le (by rw[pc];exact Nat.le_min.2 ⟨Nat.le_refl _,hUl⟩),Bx (by rw[pc,List.length_replicate];exact hUl)];rw[<-AL (l:=aw MB (a* s)++List.replicate ((aw MB a).length+1- (aw MB (a* s)).length) 0) ?_ ?_ ?_];rw[mq,<-iY];simp[u32,ofV];intro d S;rcases List.mem_append.1 S with S|S
  exact dU δ _ d S;simp at S;rw[S.2];decide;simp;omega;rw[ig,tf,bY δ];simp
 refine r_c 5 (gU b s ω) ?_;refine a_z ?_;refine r_z 3 ?_;have hL0:((aw MB a).length:Int)+1=(((aw MB a).length+1:Nat):Int):=ω
 refine s_r 6 ?_;refine a_4 ?_;refine o_1 (.makeSlice (congrArg (λz=>some (AV.v (.int .i64 z))) hL0) (congrArg (λz=>some (AV.v (.int .i64 z))) hL0) te_36.h TZ.h rfl TB.h ζ ζ ι) ?_;refine a_z ?_;refine r_c 6 (gU a s ω) ?_;refine a_1 ?_;refine o_1 (.copy rfl rfl rfl te_36.h rfl rfl rfl (by first|(simp;done)|(simp;omega)) (by first|exact cZ _|exact cY _|exact cD _|exact c5 _|exact cU _|rfl|simp) rfl (.arr (A4 _))) ?_;refine aq ?_;have hLI:(((aw MB a).length+1:Nat):Int)- ((aw MB (b* s)).length:Nat)=(((aw MB a).length+1- (aw MB (b* s)).length:Nat):Int):=ω
 refine s_r 6 ?_;refine a_4 ?_;refine o_1 (.makeSlice (congrArg (λz=>some (AV.v (.int .i64 z))) hLI) (congrArg (λz=>some (AV.v (.int .i64 z))) hLI) te_36.h TZ.h rfl TB.h ζ ζ ι) ?_;refine a_z ?_;refine ac (r_z 4 ?_)
 have hst:DivI (a* s) (b* s) (k+1) ((aw MB a).length+1) (jM MB ((aw MB a).length+1) (a* s)) [] ((aw MB a).length+1- (k+1)):=by
  have hUL:a* s< MB^ ((aw MB a).length+1):=by
   rw[Nat.pow_succ];have:MB^ (aw MB a).length* s<=MB^ (aw MB a).length* MB:=Nat.mul_le_mul_left _ (by show s<=1000000000;omega);omega
  exact DivI.start ψ (uT δ _ _) (ri δ hUL) ω (by simpa using hb1) ω rfl (by simpa using hU1)
 refine aC (ovS s (aw MB (b* s)) ((aw MB a).length+1)) (λx=>DivI (a* s) (b* s) (k+1) ((aw MB a).length+1) x.1 x.2.1 x.2.2/\x.2.2=0) ?_ ?_;refine ah (ay (ovS s (aw MB (b* s)) ((aw MB a).length+1)) (λx=>x.2.2) (λx=>DivI (a* s) (b* s) (k+1) ((aw MB a).length+1) x.1 x.2.1 x.2.2) (jM MB ((aw MB a).length+1) (a* s),[],(aw MB a).length+1- (aw MB (b* s)).length) (by rw[hVl];exact hst) ?_ ?_);rw[ovS.eq_1];exact s_x [(1,4),(2,5),(3,6),(4,9),(5,10)] (λhs=>dD) (λhs=>e_28) e_27;rintro⟨R,T,j1⟩ c;simp only at c;rw[ovS.eq_1];refine ac (r_z 2 ?_);refine ar rfl (λh3=>?_) (λh3=>?_);have hj1:0< j1:=by have:=of_decide_eq_true h3;omega
 obtain⟨j,rfl⟩:∃j,j1=j+1:=⟨j1- 1,ω⟩;have hRl:=c.len;have hkl:=c.k_le;obtain⟨p1,p2,p3,p4,p5⟩:=c.parts hv2;have o:=c.next hv2 (Nat.mul_pos hb y) rfl;obtain⟨A,hA⟩:∃A,A=(R.drop j).take (k+1+1):=⟨_,rfl⟩;obtain⟨n,L⟩:∃x,x=R.take j:=⟨_,rfl⟩;obtain⟨f,M⟩:∃x,x=R.drop (j+(k+1)+1):=⟨_,rfl⟩;obtain⟨p,hp⟩:∃p,p=ofD MB (R.drop j):=⟨_,rfl⟩;have J:n.length=j:=by rw[L];simp;omega
 rw[<-hA,<-hp] at p2;rw[<-hp] at p3 o;rw[<-hA] at p4;rw[<-hA,<-L,<-M] at p5;rw[<-L,<-M] at o;have N:∀d∈A,d< MB:=λd S=>c.dig d (List.mem_of_mem_drop (List.mem_of_mem_take (by rw[hA] at S;exact S)));obtain⟨B,hx0⟩:∃x,A[k]?=some x:=⟨_,List.getElem?_eq_getElem ω⟩;obtain⟨F,hx1⟩:∃x,A[k+1]?=some x:=⟨_,List.getElem?_eq_getElem ω⟩;have hx0b:B< 1000000000:=N B (List.mem_of_getElem? hx0);have hx1b:F< 1000000000:=N F (List.mem_of_getElem? hx1);obtain⟨lo,hlo,hlob⟩:=JC p4 hx0 hx1 N;rw[p2] at hlo;obtain⟨gu1,gu2⟩:=J8 (b:=MB) δ hlo hlob hvw hlw (by show 1000000000<=2* v1;omega) hv1b p3
 have hgR:∀i x,A[i]?=some x->(dE R)[0+(j+i)]?=some [u32 x]:=by
  intro i x hx;rw[Nat.zero_add];refine eg ?_;rw[p5,List.append_assoc,List.getElem?_append_right ω,List.getElem?_append_left (by have:=(List.getElem?_eq_some_iff.1 hx).1;omega)];rw[show j+i- n.length=i by omega];exact hx
 have hgN:(dE R)[0+((((j+1:Nat):Int)- 1)+((aw MB (b* s)).length:Nat)).toNat]?=some [u32 F]:=by
  rw[show((((j+1:Nat):Int)- 1)+((aw MB (b* s)).length:Nat)).toNat=j+(k+1) by omega];exact hgR _ _ hx1
 have hgM:(dE R)[0+((((j+1:Nat):Int)- 1)+((aw MB (b* s)).length:Nat)- 1).toNat]?=some [u32 B]:=by
  rw[show((((j+1:Nat):Int)- 1)+((aw MB (b* s)).length:Nat)- 1).toNat=j+k by omega];exact hgR _ _ hx0
 obtain⟨g,hg⟩:∃g,g=min ((F* 1000000000+B) / v1) 999999999:=⟨_,rfl⟩;have U:g<=999999999:=by rw[hg];exact Nat.min_le_right _ _
 have hgI:(if (999999999:Int)< ((F:Int) * 1000000000+B) / (v1:Int) then(999999999:Int) else((F:Int) * 1000000000+B) / (v1:Int))=(g:Int):=by
  have e1:((F:Int) * 1000000000+B) / (v1:Int)=(((F* 1000000000+B) / v1:Nat):Int):=by
   rw[show(F:Int) * 1000000000+B=((F* 1000000000+B:Nat):Int) by omega];exact(Int.natCast_ediv _ _).symm
  rw[e1,hg];generalize (F* 1000000000+B) / v1=Q;by_cases hQ:Q<=999999999;rw[if_neg ω,Nat.min_eq_left hQ];rw[if_pos ω,Nat.min_eq_right ω];rfl
 rw[show MB- 1=999999999 from rfl,<-hg] at gu1 gu2;refine aj (ac (ah (ac (r_d aX 18 ?_))));refine a_5 ?_;refine bm (.load_l1 rfl rfl hgN TG.h rfl) rfl rfl ?_;refine a_8 ?_;refine bm (.load_l1 rfl rfl hgM TG.h rfl) rfl rfl ?_;refine a_3 ?_;refine aq (n_k ?_);refine s_r 10 ?_;refine a_4 ?_;refine i_x hv1' ?_;refine l_1 hv1' ?_;refine a_z ?_;refine s_r 12 ?_;refine a_8 ?_;refine a_2 ?_;refine o_0 (.sl_lhm rfl rfl (l:=j) ω rfl (h:=j+(k+1)+1) ω rfl (m:=j+(k+1)+1) ω ω te_36.h) ?_;refine a_z ?_
 refine AWp.ent (st':=⟨[(4,.lptr 1 0 0),(5,.lptr 2 0 0),(6,.lptr 3 0 0),(7,.arr (dE (aw MB (b* s)))),(8,i64 (aw MB (b* s)).length),(9,.lsl 4 0 ((aw MB a).length+1) (some ((aw MB a).length+1)) 1),(10,.lsl 5 0 ((aw MB a).length+1- (aw MB (b* s)).length) (some ((aw MB a).length+1- (aw MB (b* s)).length)) 1),(11,i64 (((j+1:Nat):Int)- 1)),(13,u64 g),(14,.lsl 4 j (k+1+1) (some (k+1+1)) 1)],
  [(1,some ⟨38,1,[[.emp]]⟩),(2,some ⟨38,1,[[.emp]]⟩),(3,some ⟨38,1,[[mag s]]⟩),(4,some ⟨260,1,dE (n++A++f)⟩),(5,some ⟨260,1,dE (List.replicate (j+1) 0++T)⟩)],6,142⟩) ?_ ?_
 refine s_x [] (λhs=>?_) (λhs=>?_) ?_
 ·repeat' (first|exact aL|refine az rfl ?_ ?_|exact Cv.loE hs (congrArg (λz=>AV.v (.int .u64 z)) hgI) (ak _)|exact aW)
 ·repeat' (first|exact aB|refine h_c ?_ ?_|exact aJ hs (congrArg dE p5) (cf _)|exact bG|refine aA ?_|exact av|refine am ?_ ?_|exact Cv.loE hs (congrArg (λz=>AV.v (.int .u64 z)) hgI) (ak _)|exact aW)
 ·repeat' (first|exact ShrL.nil|refine ShrL.cons rfl rfl rfl rfl (by first|(simp[<-p5])|rfl|(simp;done)|(simp <;> omega)) ?_)
 have hV:=bY (b:=MB) δ (b* s);have hVd:=dU (b:=MB) δ (b* s)
 have E:∀D q,D+g* (b* s)=p+MB^ (k+1+1) * q->D< MB^ (k+1+1)->q<=1->ESpec Tryz.prog 244 260 1 (dE (n++A++f)) (dE (n++jM MB (k+1+1) D++f)) j (k+1+1) (some (k+1+1)) [.arr (dE (aw MB (b* s))),u64 g] (.bool (q !=0)):=by
  intro D q u h2 h3;have:=CC n A f (aw MB (b* s)) g D q (some (k+1+1)) N hVd (Nat.lt_of_le_of_lt U δ) ω ω h3 (by rw[hV,p2,p4];exact u) (by rw[p4];exact h2);rw[J,p4] at this;exact this
 have t:∀D D' q,D'+MB^ (k+1+1) * q=D+b* s->D< MB^ (k+1+1)->D'< MB^ (k+1+1)->q<=1->ESpec Tryz.prog 245 260 1 (dE (n++jM MB (k+1+1) D++f)) (dE (n++jM MB (k+1+1) D'++f)) j (k+1+1) (some (k+1+1)) [.arr (dE (aw MB (b* s)))] (.bool (q !=0)):=by
  intro D D' q u h2 h3 h4;have:=CD n (jM MB (k+1+1) D) f (aw MB (b* s)) D' q (some (k+1+1)) (uT δ _ _) hVd χ χ h4 (by rw[hV,lm,ri δ h2];exact u) (by rw[lm];exact h3);rw[J,lm] at this;exact this
 have O:0< b* s:=Nat.mul_pos hb y;have m1:=Nat.mod_add_div p (b* s);have m2:=Nat.mod_lt p O
 have hBv:MB* (b* s)< MB^ (k+1+1):=by
  rw[Nat.pow_succ MB (k+1),Nat.mul_comm MB];exact Nat.mul_lt_mul_of_pos_right hv2 δ
 have hgv:g* (b* s)<=MB* (b* s):=Nat.mul_le_mul_right _ (Nat.le_trans U δ);obtain⟨W,hW⟩:∃W,W=MB^ (k+1+1):=⟨_,rfl⟩;simp only[<-hW] at E t hBv
 have hvW:b* s< W:=by
  have:1* (b* s)<=MB* (b* s):=Nat.mul_le_mul_right _ δ;omega
 refine bD (λ_:Unit=>⟨[(4,.lptr 1 0 0),(5,.lptr 2 0 0),(6,.lptr 3 0 0),(7,.arr (dE (aw MB (b* s)))),(8,i64 (aw MB (b* s)).length),(9,.lsl 4 0 ((aw MB a).length+1) (some ((aw MB a).length+1)) 1),(10,.lsl 5 0 ((aw MB a).length+1- (aw MB (b* s)).length) (some ((aw MB a).length+1- (aw MB (b* s)).length)) 1),(11,i64 (((j+1:Nat):Int)- 1)),(13,u64 (p/ (b* s):Nat))],
  [(1,some ⟨38,1,[[.emp]]⟩),(2,some ⟨38,1,[[.emp]]⟩),(3,some ⟨38,1,[[mag s]]⟩),(4,some ⟨260,1,dE (n++jM MB (k+1+1) (p % (b* s))++f)⟩),(5,some ⟨260,1,dE (List.replicate (j+1) 0++T)⟩)],6,142⟩) (λ_=>True) ?_ ?_
 by_cases hc:g* (b* s)<=p;have hgq:g=p/ (b* s):=Nat.le_antisymm ((Nat.le_div_iff_mul_le O).2 hc) gu1;have e1:p % (b* s)+g* (b* s)=p+W* 0:=by rw[hgq,Nat.mul_comm (p/ (b* s))];omega
 have hs1:=E (p % (b* s)) 0 e1 ω ω;refine s_r 4 ?_;refine a_3 ?_;refine o_1 (.callE2 rfl rfl rfl rfl rfl rfl (hs1)) ?_;refine aq ?_;refine cF (aj ⟨(),trivial,?_⟩);have hgI2:u64 g=u64 (p/ (b* s):Nat):=by rw[<-hgq]
 exact s_f [];have hc1:p< g* (b* s):=ω
 have e1:(p+W- g* (b* s))+g* (b* s)=p+W* 1:=ω
 have hs1:=E (p+W- g* (b* s)) 1 e1 ω ω
 have hgt:p/ (b* s)< g:=by
  rw[Nat.div_lt_iff_lt_mul O];exact hc1
 refine s_r 4 ?_;refine a_3 ?_;refine o_1 (.callE2 rfl rfl rfl rfl rfl rfl (hs1)) ?_;refine aq ?_;refine ar rfl (λh4=>?_) (λh4=>?_);refine r_z 1 ?_;refine ah ?_
 refine ay (ovM s (aw MB (b* s)) ((aw MB a).length+1) T n f j (k+1+1)) (λx=>if x.2.2 then 0 else x.2.1+1)
  (λx=>(x.2.2=true/\x.2.1=p/ (b* s)/\x.1=jM MB (k+1+1) (p % (b* s)))\/(x.2.2=false/\p/ (b* s)< x.2.1/\x.2.1<=999999999/\∃D,x.1=jM MB (k+1+1) D/\D+x.2.1* (b* s)=p+W/\D< W))
  (jM MB (k+1+1) (p+W- g* (b* s)),g,false) (.inr ⟨rfl,hgt,U,_,rfl,by simp only;omega,ω⟩) ?_ ?_
 rw[ovM.eq_1];exact s_e [];rintro⟨A',w,Y⟩ hin;rw[ovM.eq_1];refine ac (r_z 2 ?_);refine ar rfl (λh5=>?_) (λh5=>?_);have hm:Y=false:=by simpa using h5
 subst hm;rcases hin with⟨V,_⟩|⟨_,V,h7,D,h8,h9,h10⟩
 cases V;simp only at V h7 h8 h9;subst h8;have hg0:1<=w:=Nat.lt_of_le_of_lt (Nat.zero_le _) V;refine aj ?_;have hI:(w:Int)- 1=((w- 1:Nat):Int):=ω
 have hq1:b* s* (p/ (b* s))=p- p % (b* s):=ω
 by_cases hlast:w=p/ (b* s)+1
 have e2:p % (b* s)+W* 1=D+b* s:=by
  rw[hlast,Nat.add_mul,Nat.one_mul,Nat.mul_comm (p/ (b* s))] at h9;omega
 have hg1:=t D (p % (b* s)) 1 e2 h10 ω ω;refine ac (ah (r_m 4 ?_));refine a_2 ?_;refine o_1 (.callE2 rfl rfl rfl rfl rfl rfl (hg1)) ?_;refine a_z ?_;refine r_m 3 ?_;refine a_z ?_;refine⟨(jM MB (k+1+1) (p % (b* s)),w- 1,true),ψ,.inl ⟨rfl,by simp only;omega,rfl⟩,?_⟩;rw[ovM.eq_1];have:=(congrArg (λz=>AV.v (.int .u64 z)) hI);exact s_f [];have K:p/ (b* s)< w- 1:=ω
 have h11:(w- 1) * (b* s)+b* s=w* (b* s):=by
  conv=>rhs;rw[show w=(w- 1)+1 by omega,Nat.add_mul,Nat.one_mul]
 have h12:p< (w- 1) * (b* s):=by
  rw[Nat.div_lt_iff_lt_mul O] at K;exact K
 have hg1:=t D (D+b* s) 0 ω h10 ω ω;refine ac (ah (r_m 4 ?_));refine a_2 ?_;refine o_1 (.callE2 rfl rfl rfl rfl rfl rfl (hg1)) ?_;refine a_z ?_;refine r_m 3 ?_;refine a_z ?_;refine⟨(jM MB (k+1+1) (D+b* s),w- 1,false),χ,.inr ⟨rfl,K,by simp only;omega,_,rfl,by simp only;omega,ω⟩,?_⟩;rw[ovM.eq_1];have:=(congrArg (λz=>AV.v (.int .u64 z)) hI);exact s_f [];have hm:Y=true:=by simpa using h5
 subst hm;rcases hin with⟨_,V,h7⟩|⟨V,_⟩
 simp only at V h7;subst V h7;refine ax ⟨(),trivial,?_⟩;exact s_e [];cases V;cases h4;rintro _ _;have hq9:p/ (b* s)<=999999999:=Nat.le_trans gu1 U;obtain⟨q,hq⟩:∃q,q=p/ (b* s):=⟨_,rfl⟩;rw[<-hq] at hq9 o⊢;have Z:List.replicate (j+1) 0++T=List.replicate j 0++0::T:=by rw[List.replicate_succ'];simp
 have hgT:(dE (List.replicate (j+1) 0++T))[0+(((j+1:Nat):Int)- 1).toNat]?=some [u32 0]:=by
  rw[show 0+(((j+1:Nat):Int)- 1).toNat=j by omega,Z];exact eg (rG _ _ _ _ ψ)
 have G:(dE (List.replicate (j+1) 0++T)).set (0+(((j+1:Nat):Int)- 1).toNat) [u32 q]=dE (List.replicate j 0++(q::T)):=by
  rw[show 0+(((j+1:Nat):Int)- 1).toNat=j by omega,iX,Z,qN _ _ _ _ _ ψ];simp
 refine r_m 6 ?_;refine a_5 ?_;refine fN (.store rfl rfl hgT rfl rfl rfl TS.h (nle rfl)) ?_;refine aq ?_;refine r_m 3 ?_;refine a_z ?_;refine⟨(n++jM MB (k+1+1) (p % (b* s))++f,q::T,j),by simp only;omega,o,?_⟩;rw[ovS.eq_1];refine s_x [] (λhs=>dD) (λhs=>?_) ?_
 ·repeat' (first|exact aB|refine h_c ?_ ?_|exact aJ hs G (cf _)|exact bG)
 ·repeat' (first|exact ShrL.nil|refine ShrL.cons rfl rfl rfl rfl (by first|(exact(congrArg List.length G))|rfl|(simp;done)|(simp <;> omega)) ?_)
 have hj:j1=0:=by have:=of_decide_eq_false h3;omega
 subst hj;refine ax ⟨(R,T,0),⟨c,rfl⟩,?_⟩;rw[ovS.eq_1];exact s_e [];rintro⟨R,T,j1⟩ ⟨c,hj⟩;simp only at c hj;subst hj;obtain⟨hq,hr⟩:=c.last rfl rfl hb y;rw[ovS.eq_1]
 refine AWp.ent (st':=⟨[(4,.lptr 1 0 0),(5,.lptr 2 0 0),(6,.lptr 3 0 0),(9,.arr (dE R)),(10,.arr (dE T))],
  [(1,some ⟨38,1,[[.emp]]⟩),(2,some ⟨38,1,[[.emp]]⟩),(3,some ⟨38,1,[[mag s]]⟩)],4,142⟩) ?_ ?_
 have hlen:=c.len;have hkl:=c.k_le;exact s_x [] (λhs=>e_29) (λhs=>e_30);have hRl:=c.len;have hkl:=c.k_le
 have hRt:FS 196 [.arr (dE R)] (.agg [mag (ofD MB R)]):=by
  have:=jp R ω;rwa[kH (b:=MB) δ c.dig] at this
 have hTt:FS 196 [.arr (dE T)] (.agg [mag (ofD MB T)]):=by
  have:=jp T ω;rwa[kH (b:=MB) δ c.digT] at this
 have hblr:bl (ofD MB R)<=bl b+30:=by
  have u:=c.top;rw[List.drop_zero] at u;have h2:=dO (Nat.le_of_lt u);omega
 have hov:=hrec hl2 (ofD MB R) s ω ω hblr;rw[hr] at hov;refine ac (r_d aX 11 ?_);refine c_s (hRt) ?_;refine c_s (hov) ?_;refine a_7 ?_;refine aq (n_k ?_);refine ac (r_d aX 5 ?_);refine c_s (hTt) ?_;refine a_3 ?_;refine aq (n_k ?_);refine ai (Fin.many ⟨_,_,rfl,⟨_,_,_,_,_,rfl,rfl,rfl,.inl ⟨TG.h,_,TS.h,nle rfl,rfl⟩⟩,_,_,rfl,⟨_,_,_,_,_,rfl,rfl,rfl,.inl ⟨TG.h,_,TS.h,nle rfl,rfl⟩⟩,rfl⟩ (nle rfl) ?_);rw[<-hq];exact am (ao aF (aE (ae (cr _) af))) (am (ao aF (aE (ae (cr _) af))) av)
theorem len1{b:Nat}(hb:b< 1000000000):(aw MB b).length<=1:=ft δ (by simpa using hb)
theorem u7(a b:Nat)(h:bl a+bl b<=4398046511104)(hb:0< b):FS 194 [.agg [mag a],.agg [mag b]] (.tup [.agg [mag (a/ b)],.agg [mag (a % b)]]):=
 BK a b ω hb λ_ r s hs c e=>BK r s (by have:=gY (n:=s) (k:=30) ω;omega) hs λd=>absurd d (by have:=len1 c;omega)
def mA(l:Ln)(k:Nat):Option La:=if k< l.length then some [i64 ((l.length- 1- k:Nat):Int),u32 (l.getD (l.length- 1- k) 0)] else none
theorem lM(l:Ln)(hl:l.length<=281474976710656):GSpec Tryz.prog 256 [.aptr [[.arr (dE l)]] 0 0] (mA l):=by
 have d:Closed (.aptr [[.arr (dE l)]] 0 0):=jU (λe g c hc=>by simp at g;subst g;simp at hc;subst hc;exact dn l);refine GSpec.enter Tryz.func256 rfl κ rfl rfl rfl ?_ ?_ rfl ?_;exact ae d af;intro k xs h;unfold mA at h;split at h;cases h;exact ae (ak _) (ae (ak _) af);cases h;intro b N E;refine GWp.seq ?_;refine GWp.lift ?_;refine r_m 4 ?_;refine a_z ?_;refine GWp.block ?_;refine GWp.loopS (λm:Nat=>⟨[(0,.v (.func (.yield b) #[] #[])),(1,.aptr [[.arr (dE l)]] 0 0),(3,i64 ((m:Int)- 1))],[],1,19⟩) (λm=>l.length- m) (λm=>m) (λm=>m<=l.length) l.length (Nat.le_refl _) ψ ?_ ?_;exact s_e [];intro m n;refine GWp.seq ?_;refine GWp.seq ?_;refine GWp.lift ?_;refine r_m 2 ?_;refine a_z ?_;refine GWp.cond rfl (λh=>?_) (λh=>?_)
 ·refine GWp.skip ?_
  have i:1<=m:=by have:=of_decide_eq_true h;omega
  obtain⟨x,f⟩:∃x,l[m- 1]?=some x:=⟨_,List.getElem?_eq_getElem ω⟩;have a:(dE l)[((m:Int)- 1).toNat]?=some [u32 x]:=by rw[show((m:Int)- 1).toNat=m- 1 by omega];exact eg f
  refine GWp.seq ?_;refine GWp.block ?_;refine GWp.seq ?_;refine GWp.regY (fr2:=[(0,.v (.func (.yield b) #[] #[])),(1,.aptr [[.arr (dE l)]] 0 0),(3,i64 ((m:Int)- 1)),(11,.v (.func (.yield b) #[] #[])),(12,i64 ((m:Int)- 1)),(16,u32 x)]) (hp2:=[]) (nx2:=1) 6 rfl rfl rfl rfl rfl rfl ?_ rfl rfl rfl ?_ ?_ ?_;refine o_0 (.move rfl) ?_;refine o_0 (.move rfl) ?_;refine bm (.load_a1 rfl rfl TG.h rfl) rfl rfl ?_;refine o_0 (.move rfl) ?_;refine i_x a ?_;refine l_1 a ?_;refine aq ?_;exact s_y [] (λhs=>dD) (λhs=>mC);rotate_left 2;intro j;refine o_0 (.un rfl px) ?_;refine aq ?_;rotate_left;unfold mA;rw[if_pos ω];simp only[List.map_cons,List.map_nil,coe,i64,u32,Option.some.injEq,List.cons.injEq,AV.v.injEq,Value.int.injEq,true_and,and_true];refine⟨ω,?_⟩;rw[show l.length- 1- (l.length- m)=m- 1 by omega,List.getD_eq_getElem?_getD,f];rfl;exact ae (ak _) (ae (ak _) af);cases j with
  |false=>
   refine GWp.cond rfl (λh=>?_) (λh=>?_);exact GWp.ret ⟨.inr rfl,λh=>by cases h⟩;cases h
  |true=>
   refine GWp.cond rfl (λh=>?_) (λh=>?_);cases h;refine GWp.skip ?_;refine GWp.lift ?_;refine r_m 3 ?_;refine a_z ?_;refine⟨rfl,m- 1,ω,ω,ω,?_⟩;exact s_e []
 refine GWp.exit ⟨.inl rfl,λ_=>?_⟩;have:m=0:=by have:=of_decide_eq_false h;omega
 subst this;unfold mA;rw[if_neg ω]
theorem lP(l:Ln):FS 209 [.arr (dE l)] (.clos 256 [] [.aptr [[.arr (dE l)]] 0 0]):=by
 refine f_n Tryz.func209 ?_ ?_;exact ae (dn l) af;refine r_z 2 ?_;refine r_z 2 ?_;refine ai (⟨.inr rfl,[_],⟨_,[],rfl,rfl,rfl⟩,?_⟩);exact Cv.clos av (am (Cv.sealp aF rfl (λ_ _ h=>by cases h) ψ (aA (am (ao aF (dn l)) av))) av)
def wordS(n:Nat):Nat->AState
 |k=>⟨[(3,.lptr 1 0 0),(8,.clos 256 [] [.aptr [[.arr (dE (aw MB n))]] 0 0])],[(1,some ⟨246,1,[[u64 (ofD MB ((aw MB n).drop ((aw MB n).length- k)))]]⟩)],2,17⟩
theorem Gw(n:Nat)(h:(aw MB n).length<=2):FS 242 [.agg [mag n]] (u64 n):=by
 have hb:=lP (aw MB n);have s:=lM (aw MB n) ω;have f:Closed (.aptr [[.arr (dE (aw MB n))]] 0 0):=jU (λe p c hc=>by simp at p;subst p;simp at hc;subst hc;exact dn _);have m:Closed (.clos 256 [] [.aptr [[.arr (dE (aw MB n))]] 0 0]):=a6 af (ae f af);refine f_c Tryz.func242 ?_;refine r_z 2 ?_;refine r_z 2 ?_;refine ac (r_c 3 (hb) ?_);refine aq ?_;refine aC (λ_:Unit=>⟨[(3,.lptr 1 0 0)],[(1,some ⟨246,1,[[u64 n]]⟩)],2,17⟩) (λ_=>True) ?_ ?_;refine ah (AWp.rangeFunc (α:=Nat) (γ:=Empty) (aw MB n).length (wordS n) (λk=>k) (λk=>k<=(aw MB n).length) (λe=>nomatch e) (λ_ e=>nomatch e) 0 rfl s rfl rfl ?_ (λ_=>⟨rfl,rfl⟩) (λe=>nomatch e) (Nat.zero_le _) rfl (λ_ h=>h) ?_ ?_ ?_ ?_ (λ_ e=>nomatch e));intro k xs a;unfold mA at a;split at a;cases a;rfl;cases a;rw[wordS.eq_1];have w:AV.v (.int .u64 0)=u64 ((ofD MB ((aw MB n).drop ((aw MB n).length- 0)):Nat):Int):=by simp[ofD,u64]
 exact s_t [(1,3)];exact ae f af
 ·intro l k xs t a
  unfold mA at a;split at a;rotate_left;cases a;rename_i hlt;cases a;obtain⟨x,j⟩:∃x,(aw MB n)[(aw MB n).length- 1- k]?=some x:=⟨_,List.getElem?_eq_getElem ω⟩;have u:x< 1000000000:=da δ j;have i:(aw MB n).getD ((aw MB n).length- 1- k) 0=x:=by rw[List.getD_eq_getElem?_getD,j];rfl
  rw[i];have hv:=l3 MB j;rw[show(aw MB n).length- 1- k+1=(aw MB n).length- k by omega] at hv
  have o:ofD MB ((aw MB n).drop ((aw MB n).length- k))< 1000000000:=by
   have g:=fX (b:=MB) (l:=(aw MB n).drop ((aw MB n).length- k)) λd q=>dU δ n d (List.mem_of_mem_drop q);have r:((aw MB n).drop ((aw MB n).length- k)).length<=1:=χ
   exact Nat.lt_of_lt_of_le g (Nat.pow_le_pow_right δ r)
  show AWp _ _ _ _ ⟨[(10,u32 x),(9,i64 ((aw MB n).length- 1- k:Nat)),(3,.lptr 1 0 0),(8,.clos 256 [] [.aptr [[.arr (dE (aw MB n))]] 0 0]),(1003,.lptr 1 0 0),(1008,.clos 256 [] [.aptr [[.arr (dE (aw MB n))]] 0 0])],[(1,some ⟨246,1,[[u64 (ofD MB ((aw MB n).drop ((aw MB n).length- k)))]]⟩)],2,17⟩;refine r_m 1 ?_;refine a_z ?_;refine ah (r_m 6 ?_);refine a_z ?_;refine⟨k+1,⟨ω,rfl⟩,?_⟩;show SEntT _ ⟨[(1003,.lptr 1 0 0),(1008,.clos 256 [] [.aptr [[.arr (dE (aw MB n))]] 0 0])],[(1,some ⟨246,1,[[u64 (ofD MB ((aw MB n).drop ((aw MB n).length- (k+1))))]]⟩)],2,17⟩
  have g:AV.v (.int .u64 ((ofD MB ((aw MB n).drop ((aw MB n).length- k)):Nat) * 1000000000+(x:Int)))=u64 ((ofD MB ((aw MB n).drop ((aw MB n).length- (k+1))):Nat):Int):=by
   rw[show(aw MB n).length- (k+1)=(aw MB n).length- 1- k by omega,hv];simp[u64];omega
  exact s_t []
 intro k t a;unfold mA at a;split at a;cases a;refine⟨(),trivial,?_⟩;rw[wordS.eq_1]
 have g:ofD MB ((aw MB n).drop ((aw MB n).length- k))=n:=by
  rw[show(aw MB n).length- k=0 by omega,List.drop_zero,bY δ]
 rw[g];exact s_e [];rintro _ _;refine r_z 2 ?_;refine ai (aS rfl rfl (ak _))
def A5:Nat×Nat->AState
 |(p,q)=>⟨[(2,.lptr 1 0 0),(3,.lptr 2 0 0),(4,.lptr 3 0 0)],[(1,some ⟨38,1,[[mag p]]⟩),(2,some ⟨38,1,[[mag q]]⟩),(3,some ⟨38,1,[[.emp]]⟩)],4,43⟩
theorem k9(p:Nat)(q:Nat):A5 (p,q)=⟨[(2,.lptr 1 0 0),(3,.lptr 2 0 0),(4,.lptr 3 0 0)],[(1,some ⟨38,1,[[mag p]]⟩),(2,some ⟨38,1,[[mag q]]⟩),(3,some ⟨38,1,[[.emp]]⟩)],4,43⟩:=rfl
def IH:Nat×Nat->AState
 |(x,y)=>⟨[(4,.lptr 3 0 0),(5,u64 x),(6,u64 y)],[(3,some ⟨38,1,[[.emp]]⟩)],4,43⟩
theorem sM(x:Nat)(y:Nat):IH (x,y)=⟨[(4,.lptr 3 0 0),(5,u64 x),(6,u64 y)],[(3,some ⟨38,1,[[.emp]]⟩)],4,43⟩:=rfl
theorem B2(p q:Nat):Nat.gcd q (p % q)=Nat.gcd p q:=by
 rw[Nat.gcd_comm p q,Nat.gcd_rec q p,Nat.gcd_comm]
theorem Fs{n:Nat}(h:(aw MB n).length<=2):n< 1000000000000000000:=by
 have a:=fX (b:=MB) (dU δ n);rw[bY δ] at a;exact Nat.lt_of_lt_of_le a (Nat.pow_le_pow_right δ h)
theorem H4(a b:Nat)(h:bl a+bl b<=4398046511104):FS 192 [.agg [mag a],.agg [mag b]] (.agg [mag (Nat.gcd a b)]):=by
 refine f_c Tryz.func192 ?_;refine r_z 3 ?_;refine bD A5 (λx=>x.1=Nat.gcd a b) ?_ ?_;refine ah (ay A5 (λx=>x.2) (λx=>Nat.gcd x.1 x.2=Nat.gcd a b/\bl x.1+bl x.2<=4398046511104) (a,b) ⟨rfl,h⟩ ?_ ?_);rw[k9];exact s_e [];rintro⟨p,q⟩ ⟨g,hb⟩;simp only at g hb;rw[k9];have s:=Gv (aw MB q);refine ac (r_c 3 (s) ?_);refine a_z ?_;refine ar rfl (λj=>?_) (λj=>?_)
 have i:0< q:=by
  rcases Nat.eq_zero_or_pos q with e|e
  subst e;rw[cI] at j;simp at j;exact e
 refine aj (ah (bD (λ_:Unit=>⟨[(2,.lptr 1 0 0),(3,.lptr 2 0 0),(4,.lptr 3 0 0)],[(1,some ⟨38,1,[[mag p]]⟩),(2,some ⟨38,1,[[mag q]]⟩),(3,some ⟨38,1,[[.emp]]⟩)],4,43⟩) (λ_=>True) ?_ ?_));by_cases hl:(aw MB p).length<=2;by_cases hl2:(aw MB q).length<=2;have o:=Fs hl;have m:=Fs hl2;refine s_r 10 ?_;refine a_5 ?_;refine y_g rfl χ (.fieldAddr_l rfl TF.h δ) ?_;refine y_g rfl χ (.load_l1 rfl rfl rfl TG.h rfl) ?_;refine y_g rfl χ (.lenD rfl rfl rfl rfl te_36.h) ?_;refine y_g rfl χ (.bin rfl rfl gj) ?_;refine o_0 (.pickT rfl χ rfl) ?_;refine aq ?_;refine ar rfl (λl=>?_) (λl=>?_);refine ac (r_d aX 6 ?_);refine c_s (Gw p hl) ?_;refine c_s (Gw q hl2) ?_;refine a_2 ?_;refine aq (n_k ?_);refine bD (λx:Nat=>⟨[(4,.lptr 3 0 0),(5,u64 x)],[(3,some ⟨38,1,[[.emp]]⟩)],4,43⟩) (λx=>x=Nat.gcd a b) ?_ ?_;refine ah (ay IH (λx=>x.2) (λx=>Nat.gcd x.1 x.2=Nat.gcd a b/\x.1< 1000000000000000000/\x.2< 1000000000000000000) (p,q) ⟨g,o,m⟩ ?_ ?_);rw[sM];exact s_e [];rintro⟨x,y⟩ ⟨d,t,n⟩;simp only at d t n;rw[sM];refine ac (r_z 2 ?_);refine ar rfl (λk=>?_) (λk=>?_);have c:0< y:=by simp at k;omega
 refine aj (ah (r_d aX 6 ?_));refine a_6 ?_;refine aq (n_k ?_);refine⟨(y,x % y),Nat.mod_lt _ c,⟨(B2 x y).trans d,n,Nat.lt_trans (Nat.mod_lt _ c) n⟩,?_⟩;rw[sM];exact s_e [];have c:y=0:=by simp at k;omega
 subst c;refine ax ⟨x,by simpa using d,?_⟩;exact s_e [];rintro x rfl
 have f:Nat.gcd a b< 18446744073709551616:=by
  rw[<-g];have l:Nat.gcd p q<=q:=Nat.gcd_le_right _ i;omega
 refine r_c 3 (gV _ f) ?_;refine a_z ?_;exact ai (ec rfl rfl rfl TG.h TS.h (nle rfl) rfl (aE (ae (cr _) af)));exact absurd l χ;refine s_r 10 ?_;refine a_5 ?_;refine y_g rfl χ (.fieldAddr_l rfl TF.h δ) ?_;refine y_g rfl χ (.load_l1 rfl rfl rfl TG.h rfl) ?_;refine y_g rfl χ (.lenD rfl rfl rfl rfl te_36.h) ?_;refine y_g rfl χ (.bin rfl rfl gj) ?_;refine o_0 (.pickT rfl χ rfl) ?_;refine aq ?_;refine ar rfl (λh=>?_) (λ_=>aj ⟨(),trivial,?_⟩);exact absurd h χ;exact s_e [];refine s_r 10 ?_;refine a_5 ?_;refine n_g rfl χ ?_;refine n_g rfl χ ?_;refine n_g rfl χ ?_;refine n_g rfl χ ?_;refine o_0 (.pickF rfl χ rfl) ?_;refine aq ?_;refine ar rfl (λh=>?_) (λ_=>aj ⟨(),trivial,?_⟩);cases h;exact s_e [];rintro _ _;refine r_c 10 (u7 p q hb i) ?_;refine a_z ?_;refine r_d aX 4 ?_;refine a_4 ?_;refine aq (n_k ?_);refine⟨(q,p % q),Nat.mod_lt _ i,⟨(B2 p q).trans g,?_⟩,?_⟩;have:=dO (Nat.mod_le p q);simp only;omega;rw[k9];exact s_e []
 have i:q=0:=by
  rcases Nat.eq_zero_or_pos q with e|e
  exact e
  have:(aw MB q).length≠0:=λr=>by
   rw[List.length_eq_zero_iff] at r;have:=(gi (b:=MB) δ).1 r;omega
  simp[this] at j
 subst i;refine ax ⟨(p,0),?_,?_⟩;simpa using g;rw[k9];exact s_e [];rintro⟨p,q⟩ hp;simp only at hp;subst hp;rw[k9];refine r_z 2 ?_;refine ai (ec rfl rfl rfl TG.h TS.h (nle rfl) rfl (aE (ae (cr _) af)))
theorem Im(n:Nat):((aw MB n).length==0)=(n==0):=by
 rw[Bool.eq_iff_iff];simp only[beq_iff_eq,List.length_eq_zero_iff];exact gi δ
theorem kV(n:Nat):FS 132 [.agg [mag n]] (bln (n==0)):=by
 rw[<-Im];exact Gv _
theorem fo(b:Bool)(m:Nat):FS 89 [bln b,.agg [mag m]] (.agg (zI (sgn b m))):=by
 have e:AV.agg (zI (sgn b m))= .agg [mag m,bln (b && !(m==0))]:=by unfold zI;rw[fT,sgn_neg]
 rw[e];refine f_c Tryz.func89 ?_;cases b with
 |true=>
  refine r_z 2 ?_;refine ac (r_d aX 9 ?_);refine a_3 ?_;refine y_g rfl d_t (.load_l rfl rfl rfl TG.h TS.h (nle rfl)) ?_;refine y_g rfl d_t (.call rfl rfl rfl (kV m)) ?_;refine y_g rfl d_t (.un rfl px) ?_;refine o_0 (.pickT rfl d_t rfl) ?_;refine a_2 ?_;refine aq (n_k ?_);exact ai (c_e (aE (ae (cr m) (ae (ak _) af))))
 |false=>
  refine r_z 2 ?_;refine ac (r_d aX 9 ?_);refine a_3 ?_;refine n_g rfl d_f ?_;refine n_g rfl d_f ?_;refine n_g rfl d_f ?_;refine o_0 (.pickF rfl d_f rfl) ?_;refine a_2 ?_;refine aq (n_k ?_);exact ai (c_e (aE (ae (cr m) (ae (ak _) af))))
theorem Kr(z:Int):FS 57 [.agg (zI z)] (i64 (sgZ z)):=by
 refine f_c Tryz.func57 ?_;refine r_z 2 ?_;refine bD (λ_:Unit=>⟨[],[],1,10⟩) (λ_=>0< z) ?_ ?_;refine ah (r_c 4 (kV z.natAbs) ?_);refine a_z ?_;refine ar rfl (λh=>?_) (λh=>?_);refine r_z 1 ?_;refine ai (aS rfl ?_ (ak _));have:z=0:=by simpa using h
 simp[i64,sgZ,this,ofV];have b:z≠0:=by simpa using h
 refine r_z 3 ?_;refine ar rfl (λa=>?_) (λa=>?_);refine r_z 1 ?_;refine ai (aS rfl ?_ (ak _));have:z< 0:=by simpa using a
 simp[i64,sgZ,this,b,ofV];have:¬z< 0:=by simpa using a
 refine aj ⟨(),ω,?_⟩;exact s_e [];rintro _ a;refine r_z 1 ?_;refine ai (aS rfl ?_ (ak _));simp only[i64,sgZ];rw[if_neg ω,if_neg ω];rfl
theorem c6(q:Rat):FS 16 [.agg (qC q)] (i64 (sgZ q.num)):=by
 refine f_c Tryz.func16 ?_;refine r_z 2 ?_;refine r_c 4 (Kr q.num) ?_;refine a_z ?_;exact ai (t_e (ak _))
theorem sgn_mul(a b:Bool)(m n:Nat):sgn a m* sgn b n=sgn (a !=b) (m* n):=by
 cases a <;> cases b <;> simp[sgn,Int.neg_mul,Int.mul_neg]
theorem zJ(a:Bool)(m n:Nat):sgn a m+sgn a n=sgn a (m+n):=by
 cases a <;> simp[sgn]<;> omega
theorem Dz{a b:Bool}(h:a≠b){m n:Nat}(hl:m<=n):sgn a m+sgn b n=sgn b (n- m):=by
 cases a <;> cases b <;> simp[sgn] at h⊢ <;> omega
theorem DA{a b:Bool}(h:a≠b){m n:Nat}(hl:n<=m):sgn a m+sgn b n=sgn a (m- n):=by
 cases a <;> cases b <;> simp[sgn] at h⊢ <;> omega
theorem Av(x y:Int)(h:bl x.natAbs+bl y.natAbs<=17592186044416):FS 107 [.agg (zI x),.agg (zI y)] (.agg (zI (x* y))):=by
 have e:x* y=sgn (decide (x< 0) !=decide (y< 0)) (x.natAbs* y.natAbs):=by
  rw[<-sgn_mul,qK,qK]
 rw[e];refine f_c Tryz.func107 ?_;refine r_z 3 ?_;refine ac (r_d aX 12 ?_);refine c_s (gU x.natAbs y.natAbs h) ?_;refine c_s (fo (decide (x< 0) !=decide (y< 0)) (x.natAbs* y.natAbs)) ?_;refine a_1 ?_;refine aq (n_k ?_);exact ai (c_e (ju _))
theorem fs_iadd(x y:Int)(h:bl x.natAbs+bl y.natAbs<=17592186044416):FS 108 [.agg (zI x),.agg (zI y)] (.agg (zI (x+y))):=by
 obtain⟨a,ha⟩:∃a,a=decide (x< 0):=⟨_,rfl⟩;obtain⟨b,hb⟩:∃b,b=decide (y< 0):=⟨_,rfl⟩;have ex:x=sgn a x.natAbs:=by rw[ha,qK]
 have i:y=sgn b y.natAbs:=by rw[hb,qK]
 refine f_c Tryz.func108 ?_;refine r_z 3 ?_;refine bD (λ_:Unit=>⟨[(2,.lptr 1 0 0),(3,.lptr 2 0 0),(4,.lptr 3 0 0)],[(1,some ⟨40,2,[zI x]⟩),(2,some ⟨40,2,[zI y]⟩),(3,some ⟨40,2,[[.emp,bln false]]⟩)],4,42⟩) (λ_=>a≠b/\y.natAbs<=x.natAbs) ?_ ?_;refine ah (r_z 6 ?_);refine ar rfl (λj=>?_) (λj=>?_);have c:a=b:=by rw[ha,hb];simpa using j
 have e:x+y=sgn (decide (x< 0)) (x.natAbs+y.natAbs):=by
  conv=>lhs;rw[ex,i,<-c]
  rw[zJ,ha]
 rw[e];refine ac (r_d aX 9 ?_);refine c_s (Aq x.natAbs y.natAbs h) ?_;refine c_s (fo (decide (x< 0)) (x.natAbs+y.natAbs)) ?_;refine a_1 ?_;refine aq (n_k ?_);exact ai (c_e (ju _));have c:a≠b:=by rw[ha,hb];simpa using j
 refine r_c 7 (pQ x.natAbs y.natAbs h) ?_;refine a_z ?_;refine ar rfl (λg=>?_) (λg=>?_)
 have f:x.natAbs< y.natAbs:=by
  have:=of_decide_eq_true g;unfold fg at this;split at this;omega;split at this <;> omega
 have e:x+y=sgn (decide (y< 0)) (y.natAbs- x.natAbs):=by
  conv=>lhs;rw[ex,i]
  rw[Dz c (Nat.le_of_lt f),hb]
 rw[e];refine ac (r_d aX 9 ?_);refine c_s (Au y.natAbs x.natAbs ω (Nat.le_of_lt f)) ?_;refine c_s (fo (decide (y< 0)) (y.natAbs- x.natAbs)) ?_;refine a_1 ?_;refine aq (n_k ?_);exact ai (c_e (ju _))
 have d:y.natAbs<=x.natAbs:=by
  have:=of_decide_eq_false g;unfold fg at this;split at this;omega;split at this <;> omega
 refine aj ⟨(),⟨c,d⟩,?_⟩;exact s_e [];rintro _ ⟨c,d⟩
 have e:x+y=sgn (decide (x< 0)) (x.natAbs- y.natAbs):=by
  conv=>lhs;rw[ex,i]
  rw[DA c d,ha]
 rw[e];refine ac (r_d aX 9 ?_);refine c_s (Au x.natAbs y.natAbs ω d) ?_;refine c_s (fo (decide (x< 0)) (x.natAbs- y.natAbs)) ?_;refine a_1 ?_;refine aq (n_k ?_);exact ai (c_e (ju _))
theorem B6(n:Int)(h: -9223372036854775808<=n/\n<=9223372036854775807):FS 87 [i64 n] (.agg (zI n)):=by
 refine f_c Tryz.func87 ?_;refine r_z 1 ?_;refine ac (r_z 2 ?_);refine ar rfl (λb=>?_) (λb=>?_);have c:n< 0:=of_decide_eq_true b;have e:n=sgn true n.natAbs:=by simp[sgn];omega
 have a:18446744073709551616- (n+18446744073709551616)=((n.natAbs:Nat):Int):=ω
 have hs:FS 178 [.v (.int .u64 (18446744073709551616- (n+18446744073709551616)))] (.agg [mag n.natAbs]):=by rw[a];exact gV _ ω
 refine s_r 6 ?_;refine a_1 ?_;refine o_0 (.conv rfl (cU64n ω tu_2.h tu_246.h)) ?_;refine o_0 (.un rfl (IN ω)) ?_;refine c_s (hs) ?_;refine c_s (fo true n.natAbs) ?_;refine a_z ?_;refine ai (ec rfl rfl rfl TG.h TS.h (nle rfl) ?_ ?_);show _=AV.agg (zI n)
 conv=>rhs;rw[e]
 rfl;exact ju _;refine aj ?_;have c:0<=n:=by have:=of_decide_eq_false b;omega
 have e:n=sgn false n.natAbs:=by simp[sgn];omega
 have a:n=((n.natAbs:Nat):Int):=ω
 have hs:FS 178 [.v (.int .u64 n)] (.agg [mag n.natAbs]):=by
  have:=gV n.natAbs ω;rwa[u64,<-a] at this
 refine s_r 5 ?_;refine a_1 ?_;refine o_0 (.conv rfl (cU64 ω tu_2.h tu_246.h)) ?_;refine c_s (hs) ?_;refine c_s (fo false n.natAbs) ?_;refine a_z ?_;refine ai (ec rfl rfl rfl TG.h TS.h (nle rfl) ?_ ?_);show _=AV.agg (zI n)
 conv=>rhs;rw[e]
 rfl;exact ju _
theorem JO:mag 0= .arr []:=by unfold mag;rw[cI];rfl
theorem rI(n:Int):FS 86 [.agg (zI n)] (.agg (qC n)):=by
 have e:qC (n:Rat)=[mag n.natAbs,bln (decide (n< 0)),mag 0]:=rfl;rw[e];refine f_c Tryz.func86 ?_;refine r_z 2 ?_;refine r_z 3 ?_;refine ai (Fin.cell rfl rfl rfl TG.h TS.h (nle rfl) (Cv.agg (am (ao aF (cr _)) (am (ao aF (ak _)) (am (Cv.emp _ JO) av)))))
theorem eD(n:Int)(h: -9223372036854775808<=n/\n<=9223372036854775807):FS 28 [i64 n] (.agg (qC n)):=by
 refine f_c Tryz.func28 ?_;refine r_z 1 ?_;refine r_c 4 (B6 n h) ?_;refine c_s (rI n) ?_;refine a_z ?_;exact ai (c_e (aP _))
theorem eT(q:Rat)(h:qs q<=1099511627776):FS 105 [.agg (qC q)] (.agg [mag q.den]):=by
 have hp:=q.den_pos;have b:=dr q;have e:q.den=q.den- 1+1:=ω
 have a:=dO (show q.den- 1<=q.den by omega);have c:bl 1=1:=jz;refine f_c Tryz.func105 ?_;refine r_z 2 ?_;refine ac (r_d aX 5 ?_);refine c_s (gV 1 δ) ?_;refine c_s (Aq (q.den- 1) 1 ω) ?_;refine a_1 ?_;refine aq (n_k ?_);refine ai (ec rfl rfl rfl TG.h TS.h (nle rfl) ?_ ?_);show AV.agg [mag (q.den- 1+1)]=_;rw[<-e];exact closed_mA _
theorem rK(n:Int)(d:Nat)(hd:0< d)(h:bl n.natAbs+bl d<=2199023255552):FS 106 [.agg (zI n),.agg [mag d]] (.agg (qC (mkRat n d))):=by
 obtain⟨g,e⟩:∃g,g=Nat.gcd n.natAbs d:=⟨_,rfl⟩;have a:0< g:=by rw[e];exact Nat.gcd_pos_of_pos_right _ hd
 have b:g<=d:=by rw[e];exact Nat.gcd_le_right _ hd
 have k:=dO b;have l:=fv n.natAbs g;have m:=fv d g;have f:0< d/ g:=Nat.div_pos b a
 have c:AV.agg (qC (mkRat n d))= .agg (zI (sgn (decide (n< 0)) (n.natAbs/ g))++[mag (d/ g- 1)]):=by
  unfold qC;rw[ku hd,(l5 hd).2,<-e];rfl
 rw[c];have hc:=H4 n.natAbs d ω;rw[<-e] at hc;refine f_c Tryz.func106 ?_;refine r_z 3 ?_;refine ac (r_c 6 (hc) ?_);refine a_z ?_;refine r_c 3 (fs_one g) ?_;refine a_z ?_;refine aC (λ_:Unit=>⟨[(2,.lptr 1 0 0),(3,.lptr 2 0 0),(4,.lptr 3 0 0)],[(1,some ⟨40,2,[[mag (n.natAbs/ g),bln (decide (n< 0))]]⟩),(2,some ⟨38,1,[[mag (d/ g)]]⟩),(3,some ⟨42,3,[[.emp,bln false,.emp]]⟩)],4,36⟩) (λ_=>True) ?_ ?_;refine ar rfl (λj=>?_) (λj=>?_);refine r_c 9 (u7 n.natAbs g ω a) ?_;refine a_z ?_;refine r_m 7 ?_;refine c_s (u7 d g ω a) ?_;refine a_z ?_;refine⟨(),trivial,?_⟩;exact s_e [];have i:g=1:=by simpa using j
 subst i;refine aj ⟨(),trivial,?_⟩;rw[Nat.div_one,Nat.div_one];exact s_e [];rintro _ _;refine ac (r_d aX 10 ?_);refine c_s (fo (decide (n< 0)) (n.natAbs/ g)) ?_;refine c_s (gV 1 δ) ?_;refine c_s (Au (d/ g) 1 ω f) ?_;refine a_2 ?_;refine aq (n_k ?_);exact ai (c_e (aE (ae (cr _) (ae (ak _) (ae (cr _) af)))))
end Go.Proofs.YtjmkjicckobojaaGreatDoor
namespace Go.Proofs.YtjmkjicckobojaaGreatDoor
open Go.Abs Go.RowKit
set_option maxRecDepth 20000
theorem Dl:Tryz.prog.underlying 202=some (.pointer 205):=by kernel_rfl
theorem yc:Tryz.prog.underlying 306=some .unsafePointer:=by kernel_rfl
theorem Fv:(Tryz.prog.info? 205).map (·.size)=some 2:=by kernel_rfl
set_option maxHeartbeats 1000000 in
theorem cs_used(b:Nat)(w:World)(h0:w.cell? ⟨b,0,none⟩=some (.pointer (some ⟨b,0,none⟩))):
    Calls Tryz.prog 207 #[.pointer (some ⟨b,0,none⟩)] w λe w'=>e= .returned (.tuple #[])/\w'=w:=by
 obtain⟨j,a,_⟩:=Option.map_eq_some_iff.1 Fv
 go_enter Tryz.func207,Tryz.ntmps207
 go_wp2
 rw[Lib.run_neq_ptr_same w _ Dl a]
 go_wp2
 go_end0
 exact⟨rfl,rfl⟩
theorem Ah{n:Nat}(hn:2<=n):liesAt Tryz.prog Tryz.prog.depth 205 (n/ Tryz.prog.cellsOf 205) 0 205 1=true:=by
 have hc:Tryz.prog.cellsOf 205=2:=by kernel_rfl
 rw[hc];have a:Tryz.prog.depth=(2* (Tryz.prog.types.size+Made.depth)+1)+1:=rfl;rw[a];simp only[liesAt,Bool.or_eq_true];left;rw[a];have:1<=n/ 2:=ω
 simp[rowAt,sameLayout,this,hc]
set_option maxHeartbeats 1000000 in
theorem K5(b:Nat)(w:World)(cs:Array Value)(hh:w.heap[b]?=some (.cells cs 205 (0,0)))(hsz:2<=cs.size)(hc:cs[0]?=some (.pointer none)):
    Calls Tryz.prog 207 #[.pointer (some ⟨b,0,none⟩)] w λe w'=>e= .returned (.tuple #[])/\w'=w.setCell ⟨b,0,none⟩ (.pointer (some ⟨b,0,none⟩)):=by
 obtain⟨j,d,c⟩:=Option.map_eq_some_iff.1 Fv;have g:w.cell? ⟨b,0,none⟩=some (.pointer none):=by simp[World.cell?,hh,hc]
 have a:w.shape? b=some (205,cs.size):=by simp[World.shape?,hh]
 have f:w.frozen? ⟨b,0,none⟩=false:=by simp[World.frozen?,hh]
 go_enter Tryz.func207,Tryz.ntmps207
 go_wp2
 rw[Lib.run_to_unsafe w ⟨b,0,none⟩ Dl yc d (by rw[c];decide) a (by show 0< cs.size;omega)];simp only[Result.andThen];rw[Oper.upon_value]
 go_wp2
 rw[run_callFunc_extern Tryz.func254 κ κ κ (e:=Extern.AbiNoEscape.same) κ];rw[Lib.run_noEscape];simp only[Result.andThen];rw[Oper.upon_value]
 go_wp2
 rw[Lib.run_from_unsafe w ⟨b,0,none⟩ yc Dl d a (Ah hsz)];simp only[Result.andThen];rw[Oper.upon_value]
 go_wp2
 go_end0
 exact⟨rfl,rfl⟩
theorem tM{P:Go.Program}{f:Nat}{fn:Func}{c:Code}(hf:P.funcs[f]?=some fn)(hb:fn.body=some c)(hname:(fn.name== "runtime.NumGoroutine")=false)(xs:Array Value)(w:World):(callFunc f xs).run P w= .ok (.enter f xs) w:=by
 have hname':¬fn.name= "runtime.NumGoroutine" :=by simpa using hname
 simp[callFunc,hf,hname',hb]
theorem sj:CSpec Tryz.prog 207 205:=
 ⟨λxs w=>tM Tryz.func207 rfl κ xs w,λb w a=>cs_used b w a,λb w cs d c a=>K5 b w cs d c a⟩
theorem BH(a b:Value):Pure (.tup [.v a,.v b]):=by
 rintro M l β m w k y ⟨xs,rfl,h,c,e,g,⟨i,f,e2,d,j⟩⟩;exact⟨xs,rfl,h,c,e,g,i,f,e2,d,j⟩
theorem jf:Tryz.prog.underlying 9=some .string:=by kernel_rfl
theorem bE_len(q:List UInt8):tl (.arr (bE q))=some q.length:=by simp[tl,bE_length]
theorem oG(t:List UInt8):(⟨t.toArray⟩:ByteArray).size=t.length:=by simp[ByteArray.size]
theorem kF(t:List UInt8)(h0:t≠[])(hl:t.length<=1099511627776):BSpec Tryz.prog 128 205 5 none t [tx t] (.tup [i64 t.length,.v .nilIface]):=by
 refine BSpec.intro Tryz.func128 rfl κ (ae (ak _) af) (BH _ _) (nle rfl) ?_;show AWp _ _ _ _ ⟨[(0,.lptr 0 0 0),(1,tx t)],[(0,some ⟨205,2,[ez 0 1 none]⟩)],2,19⟩;refine r_z 2 ?_;refine s_r 2 ?_;refine a_1 ?_;refine o_1 (.callC rfl rfl rfl rfl rfl (by first|exact .inl rfl|exact .inr rfl) (sj)) ?_;refine aq ?_;refine s_r 10 ?_;refine a_6 ?_;refine o_1 (.appS_e rfl rfl rfl te_203.h jf rfl rfl h0 TZ.h rfl TB.h ω) ?_;refine a_z ?_;refine s_r 4 ?_;refine o_0 (.move rfl) ?_;refine o_0 (.builtinV (vs:=[_]) rfl rfl (λ_ _ _=>rfl)) ?_;refine o_0 (.assign rfl) ?_;refine o_0 (.assign rfl) ?_;refine aq ?_;refine ai ⟨.inr rfl,?_,12,δ,rfl,rfl⟩;refine⟨[_,_],⟨_,_,rfl,rfl,⟨_,_,rfl,rfl,rfl⟩⟩,Cv.tup ?_⟩;refine am (Cv.loE aF ?_ (ak _)) (am (ao aF (ak _)) av);rw[oG];rfl
theorem iA(q t:List UInt8)(hl:q.length+t.length<=1099511627776):BSpec Tryz.prog 128 205 5 (some q) (q++t) [tx t] (.tup [i64 t.length,.v .nilIface]):=by
 refine BSpec.intro Tryz.func128 rfl κ (ae (ak _) af) (BH _ _) (nle rfl) ?_;show AWp _ _ _ _ ⟨[(0,.lptr 0 0 0),(1,tx t)],[(0,some ⟨205,2,[ez 0 1 (some q)]⟩),(1,some ⟨5,1,bE q⟩)],2,19⟩;refine r_z 2 ?_;refine s_r 2 ?_;refine a_1 ?_;refine o_1 (.callC rfl rfl rfl rfl rfl (by first|exact .inl rfl|exact .inr rfl) (sj)) ?_;refine aq ?_;refine s_r 10 ?_;refine a_6 ?_;refine o_2 (.appS_l rfl rfl rfl te_203.h jf rfl rfl rfl rfl TZ.h rfl TB.h ω) ?_;refine a_z ?_;refine s_r 4 ?_;refine o_0 (.move rfl) ?_;refine o_0 (.builtinV (vs:=[_]) rfl rfl (λ_ _ _=>rfl)) ?_;refine o_0 (.assign rfl) ?_;refine o_0 (.assign rfl) ?_;refine aq ?_;refine ai ⟨.inr rfl,?_,12,δ,rfl,rfl⟩;refine⟨[_,_],⟨_,_,rfl,rfl,⟨_,_,rfl,rfl,rfl⟩⟩,Cv.tup ?_⟩;refine am (Cv.loE aF ?_ (ak _)) (am (ao aF (ak _)) av);rw[oG];rfl
theorem vf:FS 127 [.aptr [Iu none] 0 0] (i64 0):=by
 have hc:Closed (.aptr [Iu none] 0 0):=bi (ae (ak _) (ae dw af));refine f_c Tryz.func127 ?_;refine r_z 1 ?_;refine r_z 6 ?_;exact ai (t_e (ak _))
theorem ve(q:List UInt8):FS 127 [.aptr [Iu (some q)] 0 0] (i64 q.length):=by
 have hc:Closed (.aptr [Iu (some q)] 0 0):=bi (ae (lo_any 0).closed (ae (aK (y9 q)) af));refine f_c Tryz.func127 ?_;refine r_z 1 ?_;refine s_r 6 ?_;refine a_4 ?_;refine o_0 (.len rfl rfl rfl rfl (bE_len q) te_203.h) ?_;refine a_z ?_;exact ai (t_e (ak _))
end Go.Proofs.YtjmkjicckobojaaGreatDoor
