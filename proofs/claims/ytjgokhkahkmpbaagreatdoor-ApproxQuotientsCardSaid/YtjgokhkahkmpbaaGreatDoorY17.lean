/- Part Y17 of the proof. -/
import Derived.Test.YtjgokhkahkmpbaaGreatDoorY16
set_option linter.all false
namespace Go.Proofs.YtjgokhkahkmpbaaGreatDoor
open Go.Abs
set_option maxRecDepth 20000
set_option maxHeartbeats 1000000
def ovS(s:Nat)(V:Ln)(L:Nat):Ln×Ln×Nat->AState
 |(R,T,k)=>⟨[(4,.lptr 1 0 0),(5,.lptr 2 0 0),(6,.lptr 3 0 0),(7,.arr (dE V)),(8,i64 V.length),(9,.lsl 4 0 L (some L) 1),(10,.lsl 5 0 (L- V.length) (some (L- V.length)) 1),(11,i64 ((k:Int)- 1))],
  [(1,some ⟨38,1,[[.emp]]⟩),(2,some ⟨38,1,[[.emp]]⟩),(3,some ⟨38,1,[[mag s]]⟩),(4,some ⟨176,1,dE R⟩),(5,some ⟨176,1,dE (List.replicate k 0++T)⟩)],6,142⟩
def ovM(s:Nat)(V:Ln)(L:Nat)(T:Ln)(pre:Ln)(post:Ln)(j:Nat)(n:Nat):Ln×Nat×Bool->AState
 |(A,g,made)=>⟨[(4,.lptr 1 0 0),(5,.lptr 2 0 0),(6,.lptr 3 0 0),(7,.arr (dE V)),(8,i64 V.length),(9,.lsl 4 0 L (some L) 1),(10,.lsl 5 0 (L- V.length) (some (L- V.length)) 1),(11,i64 (((j+1:Nat):Int)- 1)),(13,u64 g),(14,.lsl 4 j n (some n) 1),(15,bln made)],
  [(1,some ⟨38,1,[[.emp]]⟩),(2,some ⟨38,1,[[.emp]]⟩),(3,some ⟨38,1,[[mag s]]⟩),(4,some ⟨176,1,dE (pre++A++post)⟩),(5,some ⟨176,1,dE (List.replicate (j+1) 0++T)⟩)],6,142⟩
theorem zo (a b:Nat) (h:bl a+bl b<=8796093022208) (hb:0< b)
    (hrec:2<=(az MB b).length->∀r s,0< s->s< 1000000000->bl r<=bl b+30->FS 130 [.agg [mag r],.agg [mag s]] (.tup [.agg [mag (r/ s)],.agg [mag (r % s)]])):
    FS 130 [.agg [mag a],.agg [mag b]] (.tup [.agg [mag (a/ b)],.agg [mag (a % b)]]):=by
 have hla:=bR (b:=MB) δ a;have hlb:=bR (b:=MB) δ b;have va:=bC (b:=MB) δ a;have vb:=bC (b:=MB) δ b;refine f_c Tryz.func130 ?_;refine r_z 4 ?_;refine ac (ak (r_c 5 (oh a b ω) ?_));refine a_z ?_;refine aw rfl (λh=>?_) (λh=>?_)
 have hlt:a< b:=by
  have h1:=of_decide_eq_true h;unfold fk at h1;split at h1;omega;split at h1 <;> omega
 refine ac (r_d hmix 4 ?_);refine a_4 ?_;refine ao (n_k ?_);refine an ?_;rw[Nat.div_eq_of_lt hlt,Nat.mod_eq_of_lt hlt];refine Fin.many ⟨_,_,rfl,⟨_,_,_,_,_,rfl,rfl,rfl,.inl ⟨TG.h,_,TS.h,nle rfl,rfl⟩⟩,_,_,rfl,⟨_,_,_,_,_,rfl,rfl,rfl,.inl ⟨TG.h,_,TS.h,nle rfl,rfl⟩⟩,rfl⟩ (nle rfl) ?_;refine af (Cv.agg (af (Cv.emp _ ?_) ax)) (af (ah aE (aN (ae (cg a) ai))) ax);unfold mag;rw[cz];rfl
 have hge:b<=a:=by
  have h1:=of_decide_eq_false h;refine Nat.le_of_not_lt λhlt=>h1 ?_;rw[lK ω];decide
 refine r_z 5 ?_;refine aw rfl (λh2=>?_) (λh2=>?_);have hl1:(az MB b).length=1:=by simp at h2;omega
 have hbm:b< 1000000000:=by
  have:=fw (b:=MB) (dD δ b);rw[vb,hl1] at this;simpa using this
 have hg:(dE (az MB b))[(0:Int).toNat]?=some [u32 b]:=by rw[CA hb hbm];rfl
 refine ac (r_d hmix 10 ?_);refine a_3 ?_;refine i_x hg ?_;refine l_1 hg ?_;refine c_s (EG a b ω hb ω) ?_;refine a_4 ?_;refine ao (n_k ?_);refine an (Fin.many ⟨_,_,rfl,⟨_,_,_,_,_,rfl,rfl,rfl,.inl ⟨TG.h,_,TS.h,nle rfl,rfl⟩⟩,_,_,rfl,⟨_,_,_,_,_,rfl,rfl,rfl,.inl ⟨TG.h,_,TS.h,nle rfl,rfl⟩⟩,rfl⟩ (nle rfl) ?_);exact af (ah aE (aN (ae (cg _) ai))) (af (ah aE (aN (ae (cg _) ai))) ax)
 have hl2:2<=(az MB b).length:=by
  have h1:¬(az MB b).length=1:=by simp at h2;omega
  have h0:(az MB b).length≠0:=λe=>by
   rw[List.length_eq_zero_iff] at e;have:=(fC (b:=MB) δ).1 e;omega
  omega
 refine am ?_
 -- the leading digit,the factor
 obtain⟨vt,hvt⟩:∃d,(az MB b)[(az MB b).length- 1]?=some d:=⟨_,List.getElem?_eq_getElem ω⟩;have hvt1:vt< 1000000000:=cQ δ hvt
 have hvt0:1<=vt:=by
  have:=rl (b:=MB) δ b;rw[List.getLast?_eq_getElem?,hvt] at this;simp at this;omega
 have hvt':(dE (az MB b))[(((az MB b).length:Int)- 1).toNat]?=some [u32 vt]:=by rw[show(((az MB b).length:Int)- 1).toNat=(az MB b).length- 1 by omega];exact dN hvt
 obtain⟨sc1,sc2,sc3⟩:=Eg hvt0 hvt1;have hsI:(1000000000:Int) / ((vt:Int)+1)=((1000000000/ (vt+1):Nat):Int):=by rw[show((vt:Int)+1)=((vt+1:Nat):Int) by omega];exact(Int.natCast_ediv _ _).symm
 have hs9:1000000000/ (vt+1)<=500000000:=by
  have:1000000000/ (vt+1)<=1000000000/ 2:=Nat.div_le_div_left ω ω;omega
 obtain⟨s,hs⟩:∃s,s=1000000000/ (vt+1):=⟨_,rfl⟩;rw[<-hs] at sc1 sc2 sc3 hsI hs9;have hsm:FS 127 [.v (.int .u64 ((1000000000:Int) / ((vt:Int)+1)))] (.agg [mag s]):=by rw[hsI];exact fy s ω
 have hbls:bl s<=30:=jc ω;have hbs:=gV b s;have has:=gV a s;refine s_r 14 ?_;refine a_6 ?_;refine i_x hvt' ?_;refine l_1 hvt' ?_;refine a_1 ?_;refine o_0 (.bin rfl rfl (AP ω)) ?_;refine o_0 (.conv rfl (cU64 (by rw[hsI];omega) tu_176.h tu_173.h)) ?_;refine c_s (hsm) ?_;refine a_z ?_;obtain⟨k,hk⟩:∃k,(az MB b).length=k+1:=⟨(az MB b).length- 1,ω⟩;obtain⟨hVl,hb1,hv2,v1,lw,hv1,hvw,hlw,hv500,hv1b⟩:=Cw (s:=s) hk (by rw[hk] at hvt;exact hvt) hvt0 sc1 sc2;have hv1':(dE (az MB (b* s)))[(((az MB (b* s)).length:Int)- 1).toNat]?=some [u32 v1]:=by rw[show(((az MB (b* s)).length:Int)- 1).toNat=k by omega];exact dN hv1
 have hab:=zF (b:=MB) δ hge
 have hU1:a* s< MB^ (az MB a).length* s:=by
  have:=fw (b:=MB) (dD δ a);rw[va] at this;exact Nat.mul_lt_mul_of_pos_right this sc3
 have hUl:(az MB (a* s)).length<=(az MB a).length+1:=by
  refine eJ δ ?_;rw[Nat.pow_succ];have:MB^ (az MB a).length* s<=MB^ (az MB a).length* MB:=Nat.mul_le_mul_left _ (by show s<=1000000000;omega);omega
 have hcp:eR (List.replicate ((az MB a).length+1) [ofV (Value.int IntKind.u32 0)]) 0 (List.take (Nat.min (dE (az MB (a* s))).length ((az MB a).length+1)) (dE (az MB (a* s))))=dE (iF MB ((az MB a).length+1) (a* s)):=by
  rw[List.take_of_length_le (by rw[nC];exact Nat.le_min.2 ⟨Nat.le_refl _,hUl⟩),yV (by rw[nC,List.length_replicate];exact hUl)];rw[<-x9 (l:=az MB (a* s)++List.replicate ((az MB a).length+1- (az MB (a* s)).length) 0) ?_ ?_ ?_];rw[kP,<-gS];simp[u32,ofV];intro d hd;rcases List.mem_append.1 hd with hd|hd
  exact dD δ _ d hd;simp at hd;rw[hd.2];decide;simp;omega;rw[fV,qI,bC δ];simp
 refine r_c 5 (fO b s ω) ?_;refine a_z ?_;refine r_z 3 ?_;have hL0:((az MB a).length:Int)+1=(((az MB a).length+1:Nat):Int):=ω
 refine s_r 6 ?_;refine a_4 ?_;refine o_1 (.makeSlice (congrArg (λz=>some (AV.v (.int .i64 z))) hL0) (congrArg (λz=>some (AV.v (.int .i64 z))) hL0) te_36.h TZ.h rfl TB.h ν ν ι) ?_;refine a_z ?_;refine r_c 6 (fO a s ω) ?_;refine a_1 ?_;refine o_1 (.copy rfl rfl rfl te_36.h rfl rfl rfl (by first|(simp;done)|(simp;omega)) (by first|exact cV _|exact cU _|exact cy _|exact cW _|exact cS _|rfl|simp) rfl (.arr (yg _))) ?_;refine ao ?_;have hLI:(((az MB a).length+1:Nat):Int)- ((az MB (b* s)).length:Nat)=(((az MB a).length+1- (az MB (b* s)).length:Nat):Int):=ω
 refine s_r 6 ?_;refine a_4 ?_;refine o_1 (.makeSlice (congrArg (λz=>some (AV.v (.int .i64 z))) hLI) (congrArg (λz=>some (AV.v (.int .i64 z))) hLI) te_36.h TZ.h rfl TB.h ν ν ι) ?_;refine a_z ?_;refine ac (r_z 4 ?_)
 have hst:DivI (a* s) (b* s) (k+1) ((az MB a).length+1) (iF MB ((az MB a).length+1) (a* s)) [] ((az MB a).length+1- (k+1)):=by
  have hUL:a* s< MB^ ((az MB a).length+1):=by
   rw[Nat.pow_succ];have:MB^ (az MB a).length* s<=MB^ (az MB a).length* MB:=Nat.mul_le_mul_left _ (by show s<=1000000000;omega);omega
  exact DivI.start ψ (sC δ _ _) (py δ hUL) ω (by simpa using hb1) ω rfl (by simpa using hU1)
 refine aG (ovS s (az MB (b* s)) ((az MB a).length+1)) (λx=>DivI (a* s) (b* s) (k+1) ((az MB a).length+1) x.1 x.2.1 x.2.2/\x.2.2=0) ?_ ?_;refine ak (aC (ovS s (az MB (b* s)) ((az MB a).length+1)) (λx=>x.2.2) (λx=>DivI (a* s) (b* s) (k+1) ((az MB a).length+1) x.1 x.2.1 x.2.2) (iF MB ((az MB a).length+1) (a* s),[],(az MB a).length+1- (az MB (b* s)).length) (by rw[hVl];exact hst) ?_ ?_);rw[ovS.eq_1];exact s_x [(1,4),(2,5),(3,6),(4,9),(5,10)] (λhs=>cN) (λhs=>e_24) e_23;rintro⟨R,T,j1⟩ hinv;simp only at hinv;rw[ovS.eq_1];refine ac (r_z 2 ?_);refine aw rfl (λh3=>?_) (λh3=>?_);have hj1:0< j1:=by have:=of_decide_eq_true h3;omega
 obtain⟨j,rfl⟩:∃j,j1=j+1:=⟨j1- 1,ω⟩;have hRl:=hinv.len;have hkl:=hinv.k_le;obtain⟨p1,p2,p3,p4,p5⟩:=hinv.parts hv2;have hnext:=hinv.next hv2 (Nat.mul_pos hb sc3) rfl;obtain⟨A,hA⟩:∃A,A=(R.drop j).take (k+1+1):=⟨_,rfl⟩;obtain⟨pre,hpre⟩:∃x,x=R.take j:=⟨_,rfl⟩;obtain⟨post,hpost⟩:∃x,x=R.drop (j+(k+1)+1):=⟨_,rfl⟩;obtain⟨p,hp⟩:∃p,p=ofD MB (R.drop j):=⟨_,rfl⟩;have hprel:pre.length=j:=by rw[hpre];simp;omega
 rw[<-hA,<-hp] at p2;rw[<-hp] at p3 hnext;rw[<-hA] at p4;rw[<-hA,<-hpre,<-hpost] at p5;rw[<-hpre,<-hpost] at hnext;have hAd:∀d∈A,d< MB:=λd hd=>hinv.dig d (List.mem_of_mem_drop (List.mem_of_mem_take (by rw[hA] at hd;exact hd)));obtain⟨x0,hx0⟩:∃x,A[k]?=some x:=⟨_,List.getElem?_eq_getElem ω⟩;obtain⟨x1,hx1⟩:∃x,A[k+1]?=some x:=⟨_,List.getElem?_eq_getElem ω⟩;have hx0b:x0< 1000000000:=hAd x0 (List.mem_of_getElem? hx0);have hx1b:x1< 1000000000:=hAd x1 (List.mem_of_getElem? hx1);obtain⟨lo,hlo,hlob⟩:=Gs p4 hx0 hx1 hAd;rw[p2] at hlo;obtain⟨gu1,gu2⟩:=G8 (b:=MB) δ hlo hlob hvw hlw (by show 1000000000<=2* v1;omega) hv1b p3
 have hgR:∀i x,A[i]?=some x->(dE R)[0+(j+i)]?=some [u32 x]:=by
  intro i x hx;rw[Nat.zero_add];refine dN ?_;rw[p5,List.append_assoc,List.getElem?_append_right ω,List.getElem?_append_left (by have:=(List.getElem?_eq_some_iff.1 hx).1;omega)];rw[show j+i- pre.length=i by omega];exact hx
 have hgN:(dE R)[0+((((j+1:Nat):Int)- 1)+((az MB (b* s)).length:Nat)).toNat]?=some [u32 x1]:=by
  rw[show((((j+1:Nat):Int)- 1)+((az MB (b* s)).length:Nat)).toNat=j+(k+1) by omega];exact hgR _ _ hx1
 have hgM:(dE R)[0+((((j+1:Nat):Int)- 1)+((az MB (b* s)).length:Nat)- 1).toNat]?=some [u32 x0]:=by
  rw[show((((j+1:Nat):Int)- 1)+((az MB (b* s)).length:Nat)- 1).toNat=j+k by omega];exact hgR _ _ hx0
 obtain⟨g,hg⟩:∃g,g=min ((x1* 1000000000+x0) / v1) 999999999:=⟨_,rfl⟩;have hg9:g<=999999999:=by rw[hg];exact Nat.min_le_right _ _
 have hgI:(if (999999999:Int)< ((x1:Int) * 1000000000+x0) / (v1:Int) then(999999999:Int) else((x1:Int) * 1000000000+x0) / (v1:Int))=(g:Int):=by
  have e1:((x1:Int) * 1000000000+x0) / (v1:Int)=(((x1* 1000000000+x0) / v1:Nat):Int):=by
   rw[show(x1:Int) * 1000000000+x0=((x1* 1000000000+x0:Nat):Int) by omega];exact(Int.natCast_ediv _ _).symm
  rw[e1,hg];generalize (x1* 1000000000+x0) / v1=Q;by_cases hQ:Q<=999999999;rw[if_neg ω,Nat.min_eq_left hQ];rw[if_pos ω,Nat.min_eq_right ω];rfl
 rw[show MB- 1=999999999 from rfl,<-hg] at gu1 gu2;refine am (ac (ak (ac (r_d hmix 18 ?_))));refine a_5 ?_
 first|refine av (.load_l1 rfl rfl hgN TG.h rfl) rfl rfl ?_|refine av (.load_a1 rfl hgN TG.h rfl) rfl rfl ?_
 refine a_8 ?_
 first|refine av (.load_l1 rfl rfl hgM TG.h rfl) rfl rfl ?_|refine av (.load_a1 rfl hgM TG.h rfl) rfl rfl ?_
 refine a_3 ?_;refine ao (n_k ?_);refine s_r 10 ?_;refine a_4 ?_;refine i_x hv1' ?_;refine l_1 hv1' ?_;refine a_z ?_;refine s_r 12 ?_;refine a_8 ?_;refine a_2 ?_;refine o_0 (.sl_lhm rfl rfl (l:=j) ω rfl (h:=j+(k+1)+1) ω rfl (m:=j+(k+1)+1) ω ω te_36.h) ?_;refine a_z ?_
 refine AWp.ent (st':=⟨[(4,.lptr 1 0 0),(5,.lptr 2 0 0),(6,.lptr 3 0 0),(7,.arr (dE (az MB (b* s)))),(8,i64 (az MB (b* s)).length),(9,.lsl 4 0 ((az MB a).length+1) (some ((az MB a).length+1)) 1),(10,.lsl 5 0 ((az MB a).length+1- (az MB (b* s)).length) (some ((az MB a).length+1- (az MB (b* s)).length)) 1),(11,i64 (((j+1:Nat):Int)- 1)),(13,u64 g),(14,.lsl 4 j (k+1+1) (some (k+1+1)) 1)],
  [(1,some ⟨38,1,[[.emp]]⟩),(2,some ⟨38,1,[[.emp]]⟩),(3,some ⟨38,1,[[mag s]]⟩),(4,some ⟨176,1,dE (pre++A++post)⟩),(5,some ⟨176,1,dE (List.replicate (j+1) 0++T)⟩)],6,142⟩) ?_ ?_
 refine s_x [] (λhs=>?_) (λhs=>?_) ?_
 ·repeat' (first|exact aF|refine aj rfl ?_ ?_|exact Cv.loE hs (congrArg (λz=>AV.v (.int .u64 z)) hgI) (ag _)|exact aX)
 ·repeat' (first|exact aD|refine h_c ?_ ?_|exact aI hs (congrArg dE p5) (bY _)|exact bG|refine ay ?_|exact ax|refine af ?_ ?_|exact Cv.loE hs (congrArg (λz=>AV.v (.int .u64 z)) hgI) (ag _)|exact aX)
 ·repeat' (first|exact ShrL.nil|refine ShrL.cons rfl rfl rfl rfl (by first|(simp[<-p5])|rfl|(simp;done)|(simp <;> omega)) ?_)
 have hV:=bC (b:=MB) δ (b* s);have hVd:=dD (b:=MB) δ (b* s)
 have hsub:∀D q,D+g* (b* s)=p+MB^ (k+1+1) * q->D< MB^ (k+1+1)->q<=1->ESpec Tryz.prog 181 176 1 (dE (pre++A++post)) (dE (pre++iF MB (k+1+1) D++post)) j (k+1+1) (some (k+1+1)) [.arr (dE (az MB (b* s))),u64 g] (.bool (q !=0)):=by
  intro D q h1 h2 h3;have:=Av pre A post (az MB (b* s)) g D q (some (k+1+1)) hAd hVd (Nat.lt_of_le_of_lt hg9 δ) ω ω h3 (by rw[hV,p2,p4];exact h1) (by rw[p4];exact h2);rw[hprel,p4] at this;exact this
 have hgive:∀D D' q,D'+MB^ (k+1+1) * q=D+b* s->D< MB^ (k+1+1)->D'< MB^ (k+1+1)->q<=1->ESpec Tryz.prog 182 176 1 (dE (pre++iF MB (k+1+1) D++post)) (dE (pre++iF MB (k+1+1) D'++post)) j (k+1+1) (some (k+1+1)) [.arr (dE (az MB (b* s)))] (.bool (q !=0)):=by
  intro D D' q h1 h2 h3 h4;have:=Aw pre (iF MB (k+1+1) D) post (az MB (b* s)) D' q (some (k+1+1)) (sC δ _ _) hVd χ χ h4 (by rw[hV,jS,py δ h2];exact h1) (by rw[jS];exact h3);rw[hprel,jS] at this;exact this
 have hvp:0< b* s:=Nat.mul_pos hb sc3;have m1:=Nat.mod_add_div p (b* s);have m2:=Nat.mod_lt p hvp
 have hBv:MB* (b* s)< MB^ (k+1+1):=by
  rw[Nat.pow_succ MB (k+1),Nat.mul_comm MB];exact Nat.mul_lt_mul_of_pos_right hv2 δ
 have hgv:g* (b* s)<=MB* (b* s):=Nat.mul_le_mul_right _ (Nat.le_trans hg9 δ);obtain⟨W,hW⟩:∃W,W=MB^ (k+1+1):=⟨_,rfl⟩;simp only[<-hW] at hsub hgive hBv
 have hvW:b* s< W:=by
  have:1* (b* s)<=MB* (b* s):=Nat.mul_le_mul_right _ δ;omega
 refine bi (λ_:Unit=>⟨[(4,.lptr 1 0 0),(5,.lptr 2 0 0),(6,.lptr 3 0 0),(7,.arr (dE (az MB (b* s)))),(8,i64 (az MB (b* s)).length),(9,.lsl 4 0 ((az MB a).length+1) (some ((az MB a).length+1)) 1),(10,.lsl 5 0 ((az MB a).length+1- (az MB (b* s)).length) (some ((az MB a).length+1- (az MB (b* s)).length)) 1),(11,i64 (((j+1:Nat):Int)- 1)),(13,u64 (p/ (b* s):Nat))],
  [(1,some ⟨38,1,[[.emp]]⟩),(2,some ⟨38,1,[[.emp]]⟩),(3,some ⟨38,1,[[mag s]]⟩),(4,some ⟨176,1,dE (pre++iF MB (k+1+1) (p % (b* s))++post)⟩),(5,some ⟨176,1,dE (List.replicate (j+1) 0++T)⟩)],6,142⟩) (λ_=>True) ?_ ?_
 by_cases hc:g* (b* s)<=p;have hgq:g=p/ (b* s):=Nat.le_antisymm ((Nat.le_div_iff_mul_le hvp).2 hc) gu1;have e1:p % (b* s)+g* (b* s)=p+W* 0:=by rw[hgq,Nat.mul_comm (p/ (b* s))];omega
 have hs1:=hsub (p % (b* s)) 0 e1 ω ω;refine s_r 4 ?_;refine a_3 ?_;refine o_1 (.callE2 rfl rfl rfl rfl rfl rfl (hs1)) ?_;refine ao ?_;refine cF (am ⟨(),trivial,?_⟩);have hgI2:u64 g=u64 (p/ (b* s):Nat):=by rw[<-hgq]
 exact s_f [];have hc1:p< g* (b* s):=ω
 have e1:(p+W- g* (b* s))+g* (b* s)=p+W* 1:=ω
 have hs1:=hsub (p+W- g* (b* s)) 1 e1 ω ω
 have hgt:p/ (b* s)< g:=by
  rw[Nat.div_lt_iff_lt_mul hvp];exact hc1
 refine s_r 4 ?_;refine a_3 ?_;refine o_1 (.callE2 rfl rfl rfl rfl rfl rfl (hs1)) ?_;refine ao ?_;refine aw rfl (λh4=>?_) (λh4=>?_);refine r_z 1 ?_;refine ak ?_
 refine aC (ovM s (az MB (b* s)) ((az MB a).length+1) T pre post j (k+1+1)) (λx=>if x.2.2 then 0 else x.2.1+1)
  (λx=>(x.2.2=true/\x.2.1=p/ (b* s)/\x.1=iF MB (k+1+1) (p % (b* s)))\/(x.2.2=false/\p/ (b* s)< x.2.1/\x.2.1<=999999999/\∃D,x.1=iF MB (k+1+1) D/\D+x.2.1* (b* s)=p+W/\D< W))
  (iF MB (k+1+1) (p+W- g* (b* s)),g,false) (.inr ⟨rfl,hgt,hg9,_,rfl,by simp only;omega,ω⟩) ?_ ?_
 rw[ovM.eq_1];exact s_e [];rintro⟨A',g',made⟩ hin;rw[ovM.eq_1];refine ac (r_z 2 ?_);refine aw rfl (λh5=>?_) (λh5=>?_);have hm:made=false:=by simpa using h5
 subst hm;rcases hin with⟨h6,_⟩|⟨_,h6,h7,D,h8,h9,h10⟩
 cases h6;simp only at h6 h7 h8 h9;subst h8;have hg0:1<=g':=Nat.lt_of_le_of_lt (Nat.zero_le _) h6;refine am ?_;have hI:(g':Int)- 1=((g'- 1:Nat):Int):=ω
 have hq1:b* s* (p/ (b* s))=p- p % (b* s):=ω
 by_cases hlast:g'=p/ (b* s)+1
 have e2:p % (b* s)+W* 1=D+b* s:=by
  rw[hlast,Nat.add_mul,Nat.one_mul,Nat.mul_comm (p/ (b* s))] at h9;omega
 have hg1:=hgive D (p % (b* s)) 1 e2 h10 ω ω;refine ac (ak (r_m 4 ?_));refine a_2 ?_;refine o_1 (.callE2 rfl rfl rfl rfl rfl rfl (hg1)) ?_;refine a_z ?_;refine r_m 3 ?_;refine a_z ?_;refine⟨(iF MB (k+1+1) (p % (b* s)),g'- 1,true),ψ,.inl ⟨rfl,by simp only;omega,rfl⟩,?_⟩;rw[ovM.eq_1];have:=(congrArg (λz=>AV.v (.int .u64 z)) hI);exact s_f [];have hgt2:p/ (b* s)< g'- 1:=ω
 have h11:(g'- 1) * (b* s)+b* s=g'* (b* s):=by
  conv=>rhs;rw[show g'=(g'- 1)+1 by omega,Nat.add_mul,Nat.one_mul]
 have h12:p< (g'- 1) * (b* s):=by
  rw[Nat.div_lt_iff_lt_mul hvp] at hgt2;exact hgt2
 have hg1:=hgive D (D+b* s) 0 ω h10 ω ω;refine ac (ak (r_m 4 ?_));refine a_2 ?_;refine o_1 (.callE2 rfl rfl rfl rfl rfl rfl (hg1)) ?_;refine a_z ?_;refine r_m 3 ?_;refine a_z ?_;refine⟨(iF MB (k+1+1) (D+b* s),g'- 1,false),χ,.inr ⟨rfl,hgt2,by simp only;omega,_,rfl,by simp only;omega,ω⟩,?_⟩;rw[ovM.eq_1];have:=(congrArg (λz=>AV.v (.int .u64 z)) hI);exact s_f [];have hm:made=true:=by simpa using h5
 subst hm;rcases hin with⟨_,h6,h7⟩|⟨h6,_⟩
 simp only at h6 h7;subst h6 h7;refine aB ⟨(),trivial,?_⟩;exact s_e [];cases h6;cases h4;rintro _ _;have hq9:p/ (b* s)<=999999999:=Nat.le_trans gu1 hg9;obtain⟨q,hq⟩:∃q,q=p/ (b* s):=⟨_,rfl⟩;rw[<-hq] at hq9 hnext⊢;have hrep:List.replicate (j+1) 0++T=List.replicate j 0++0::T:=by rw[List.replicate_succ'];simp
 have hgT:(dE (List.replicate (j+1) 0++T))[0+(((j+1:Nat):Int)- 1).toNat]?=some [u32 0]:=by
  rw[show 0+(((j+1:Nat):Int)- 1).toNat=j by omega,hrep];exact dN (pL _ _ _ _ ψ)
 have hsetT:(dE (List.replicate (j+1) 0++T)).set (0+(((j+1:Nat):Int)- 1).toNat) [u32 q]=dE (List.replicate j 0++(q::T)):=by
  rw[show 0+(((j+1:Nat):Int)- 1).toNat=j by omega,gR,hrep,pe _ _ _ _ _ ψ];simp
 refine r_m 6 ?_;refine a_5 ?_;refine ee (.store rfl rfl hgT rfl rfl rfl TS.h (nle rfl)) ?_;refine ao ?_;refine r_m 3 ?_;refine a_z ?_;refine⟨(pre++iF MB (k+1+1) (p % (b* s))++post,q::T,j),by simp only;omega,hnext,?_⟩;rw[ovS.eq_1];refine s_x [] (λhs=>cN) (λhs=>?_) ?_
 ·repeat' (first|exact aD|refine h_c ?_ ?_|exact aI hs hsetT (bY _)|exact bG)
 ·repeat' (first|exact ShrL.nil|refine ShrL.cons rfl rfl rfl rfl (by first|(exact(congrArg List.length hsetT))|rfl|(simp;done)|(simp <;> omega)) ?_)
 have hj:j1=0:=by have:=of_decide_eq_false h3;omega
 subst hj;refine aB ⟨(R,T,0),⟨hinv,rfl⟩,?_⟩;rw[ovS.eq_1];exact s_e [];rintro⟨R,T,j1⟩ ⟨hinv,hj⟩;simp only at hinv hj;subst hj;obtain⟨hq,hr⟩:=hinv.last rfl rfl hb sc3;rw[ovS.eq_1]
 refine AWp.ent (st':=⟨[(4,.lptr 1 0 0),(5,.lptr 2 0 0),(6,.lptr 3 0 0),(9,.arr (dE R)),(10,.arr (dE T))],
  [(1,some ⟨38,1,[[.emp]]⟩),(2,some ⟨38,1,[[.emp]]⟩),(3,some ⟨38,1,[[mag s]]⟩)],4,142⟩) ?_ ?_
 have hlen:=hinv.len;have hkl:=hinv.k_le;exact s_x [] (λhs=>e_25) (λhs=>e_26);have hRl:=hinv.len;have hkl:=hinv.k_le
 have hRt:FS 133 [.arr (dE R)] (.agg [mag (ofD MB R)]):=by
  have:=iq R ω;rwa[jv (b:=MB) δ hinv.dig] at this
 have hTt:FS 133 [.arr (dE T)] (.agg [mag (ofD MB T)]):=by
  have:=iq T ω;rwa[jv (b:=MB) δ hinv.digT] at this
 have hblr:bl (ofD MB R)<=bl b+30:=by
  have h1:=hinv.top;rw[List.drop_zero] at h1;have h2:=dL (Nat.le_of_lt h1);omega
 have hov:=hrec hl2 (ofD MB R) s ω ω hblr;rw[hr] at hov;refine ac (r_d hmix 11 ?_);refine c_s (hRt) ?_;refine c_s (hov) ?_;refine a_7 ?_;refine ao (n_k ?_);refine ac (r_d hmix 5 ?_);refine c_s (hTt) ?_;refine a_3 ?_;refine ao (n_k ?_);refine an (Fin.many ⟨_,_,rfl,⟨_,_,_,_,_,rfl,rfl,rfl,.inl ⟨TG.h,_,TS.h,nle rfl,rfl⟩⟩,_,_,rfl,⟨_,_,_,_,_,rfl,rfl,rfl,.inl ⟨TG.h,_,TS.h,nle rfl,rfl⟩⟩,rfl⟩ (nle rfl) ?_);rw[<-hq];exact af (ah aE (aN (ae (cg _) ai))) (af (ah aE (aN (ae (cg _) ai))) ax)
theorem len1{b:Nat}(hb:b< 1000000000):(az MB b).length<=1:=eJ δ (by simpa using hb)
theorem sP(a b:Nat)(h:bl a+bl b<=4398046511104)(hb:0< b):FS 130 [.agg [mag a],.agg [mag b]] (.tup [.agg [mag (a/ b)],.agg [mag (a % b)]]):=
 zo a b ω hb λ_ r s hs hs1 hr=>zo r s (by have:=jc (n:=s) (k:=30) ω;omega) hs λh2=>absurd h2 (by have:=len1 hs1;omega)
def kT(l:Ln)(k:Nat):Option La:=if k< l.length then some [i64 ((l.length- 1- k:Nat):Int),u32 (l.getD (l.length- 1- k) 0)] else none
theorem ka(l:Ln)(hl:l.length<=281474976710656):GSpec Tryz.prog 211 [.aptr [[.arr (dE l)]] 0 0] (kT l):=by
 have hcl:Closed (.aptr [[.arr (dE l)]] 0 0):=iJ (λe he c hc=>by simp at he;subst he;simp at hc;subst hc;exact c6 l);refine GSpec.enter Tryz.func211 rfl κ rfl rfl rfl ?_ ?_ rfl ?_;exact ae hcl ai;intro k xs h;unfold kT at h;split at h;cases h;exact ae (ag _) (ae (ag _) ai);cases h;intro ll N E;refine GWp.seq ?_;refine GWp.lift ?_;refine r_m 4 ?_;refine a_z ?_;refine GWp.block ?_;refine GWp.loopS (λm:Nat=>⟨[(0,.v (.func (.yield ll) #[] #[])),(1,.aptr [[.arr (dE l)]] 0 0),(3,i64 ((m:Int)- 1))],[],1,19⟩) (λm=>l.length- m) (λm=>m) (λm=>m<=l.length) l.length (Nat.le_refl _) ψ ?_ ?_;exact s_e [];intro m hm;refine GWp.seq ?_;refine GWp.seq ?_;refine GWp.lift ?_;refine r_m 2 ?_;refine a_z ?_;refine GWp.cond rfl (λh=>?_) (λh=>?_)
 ·refine GWp.skip ?_
  have hm1:1<=m:=by have:=of_decide_eq_true h;omega
  obtain⟨x,hx⟩:∃x,l[m- 1]?=some x:=⟨_,List.getElem?_eq_getElem ω⟩;have hx':(dE l)[((m:Int)- 1).toNat]?=some [u32 x]:=by rw[show((m:Int)- 1).toNat=m- 1 by omega];exact dN hx
  refine GWp.seq ?_;refine GWp.block ?_;refine GWp.seq ?_;refine GWp.regY (fr2:=[(0,.v (.func (.yield ll) #[] #[])),(1,.aptr [[.arr (dE l)]] 0 0),(3,i64 ((m:Int)- 1)),(11,.v (.func (.yield ll) #[] #[])),(12,i64 ((m:Int)- 1)),(16,u32 x)]) (hp2:=[]) (nx2:=1) 6 rfl rfl rfl rfl rfl rfl ?_ rfl rfl rfl ?_ ?_ ?_;refine o_0 (.move rfl) ?_;refine o_0 (.move rfl) ?_
  first|refine av (.load_l1 rfl rfl rfl TG.h rfl) rfl rfl ?_|refine av (.load_a1 rfl rfl TG.h rfl) rfl rfl ?_
  refine o_0 (.move rfl) ?_;refine i_x hx' ?_;refine l_1 hx' ?_;refine ao ?_;exact s_y [] (λhs=>cN) (λhs=>jN);rotate_left 2;intro go;refine o_0 (.un rfl iN) ?_;refine ao ?_;rotate_left;unfold kT;rw[if_pos ω];simp only[List.map_cons,List.map_nil,coe,i64,u32,Option.some.injEq,List.cons.injEq,AV.v.injEq,Value.int.injEq,true_and,and_true];refine⟨ω,?_⟩;rw[show l.length- 1- (l.length- m)=m- 1 by omega,List.getD_eq_getElem?_getD,hx];rfl;exact ae (ag _) (ae (ag _) ai);cases go with
  |false=>
   refine GWp.cond rfl (λh=>?_) (λh=>?_);exact GWp.ret ⟨.inr rfl,λh=>by cases h⟩;cases h
  |true=>
   refine GWp.cond rfl (λh=>?_) (λh=>?_);cases h;refine GWp.skip ?_;refine GWp.lift ?_;refine r_m 3 ?_;refine a_z ?_;refine⟨rfl,m- 1,ω,ω,ω,?_⟩;exact s_e []
 refine GWp.exit ⟨.inl rfl,λ_=>?_⟩;have:m=0:=by have:=of_decide_eq_false h;omega
 subst this;unfold kT;rw[if_neg ω]
theorem kg(l:Ln):FS 159 [.arr (dE l)] (.clos 211 [] [.aptr [[.arr (dE l)]] 0 0]):=by
 refine f_n Tryz.func159 ?_ ?_;exact ae (c6 l) ai;refine r_z 2 ?_;refine r_z 2 ?_;refine an (⟨.inr rfl,[_],⟨_,[],rfl,rfl,rfl⟩,?_⟩);exact Cv.clos ax (af (Cv.sealp aE rfl (λ_ _ h=>by cases h) ψ (ay (af (ah aE (c6 l)) ax))) ax)
def wordS(n:Nat):Nat->AState
 |k=>⟨[(3,.lptr 1 0 0),(8,.clos 211 [] [.aptr [[.arr (dE (az MB n))]] 0 0])],[(1,some ⟨173,1,[[u64 (ofD MB ((az MB n).drop ((az MB n).length- k)))]]⟩)],2,17⟩
theorem DM(n:Nat)(h:(az MB n).length<=2):FS 179 [.agg [mag n]] (u64 n):=by
 have hb:=kg (az MB n);have hg:=ka (az MB n) ω;have hcl:Closed (.aptr [[.arr (dE (az MB n))]] 0 0):=iJ (λe he c hc=>by simp at he;subst he;simp at hc;subst hc;exact c6 _);have hcl2:Closed (.clos 211 [] [.aptr [[.arr (dE (az MB n))]] 0 0]):=aY ai (ae hcl ai);refine f_c Tryz.func179 ?_;refine r_z 2 ?_;refine r_z 2 ?_;refine ac (r_c 3 (hb) ?_);refine ao ?_;refine aG (λ_:Unit=>⟨[(3,.lptr 1 0 0)],[(1,some ⟨173,1,[[u64 n]]⟩)],2,17⟩) (λ_=>True) ?_ ?_;refine ak (AWp.rangeFunc (α:=Nat) (γ:=Empty) (az MB n).length (wordS n) (λk=>k) (λk=>k<=(az MB n).length) (λe=>nomatch e) (λ_ e=>nomatch e) 0 rfl hg rfl rfl ?_ (λ_=>⟨rfl,rfl⟩) (λe=>nomatch e) (Nat.zero_le _) rfl (λ_ h=>h) ?_ ?_ ?_ ?_ (λ_ e=>nomatch e));intro k xs hT;unfold kT at hT;split at hT;cases hT;rfl;cases hT;rw[wordS.eq_1];have h0:AV.v (.int .u64 0)=u64 ((ofD MB ((az MB n).drop ((az MB n).length- 0)):Nat):Int):=by simp[ofD,u64]
 exact s_t [(1,3)];exact ae hcl ai
 ·intro l k xs hk hT
  unfold kT at hT;split at hT;rotate_left;cases hT;rename_i hlt;cases hT;obtain⟨x,hx⟩:∃x,(az MB n)[(az MB n).length- 1- k]?=some x:=⟨_,List.getElem?_eq_getElem ω⟩;have hx1:x< 1000000000:=cQ δ hx;have hxd:(az MB n).getD ((az MB n).length- 1- k) 0=x:=by rw[List.getD_eq_getElem?_getD,hx];rfl
  rw[hxd];have hv:=kG MB hx;rw[show(az MB n).length- 1- k+1=(az MB n).length- k by omega] at hv
  have hlt2:ofD MB ((az MB n).drop ((az MB n).length- k))< 1000000000:=by
   have h1:=fw (b:=MB) (l:=(az MB n).drop ((az MB n).length- k)) λd hd=>dD δ n d (List.mem_of_mem_drop hd);have h2:((az MB n).drop ((az MB n).length- k)).length<=1:=χ
   exact Nat.lt_of_lt_of_le h1 (Nat.pow_le_pow_right δ h2)
  show AWp _ _ _ _ ⟨[(10,u32 x),(9,i64 ((az MB n).length- 1- k:Nat)),(3,.lptr 1 0 0),(8,.clos 211 [] [.aptr [[.arr (dE (az MB n))]] 0 0]),(1003,.lptr 1 0 0),(1008,.clos 211 [] [.aptr [[.arr (dE (az MB n))]] 0 0])],[(1,some ⟨173,1,[[u64 (ofD MB ((az MB n).drop ((az MB n).length- k)))]]⟩)],2,17⟩;refine r_m 1 ?_;refine a_z ?_;refine ak (r_m 6 ?_);refine a_z ?_;refine⟨k+1,⟨ω,rfl⟩,?_⟩;show SEntT _ ⟨[(1003,.lptr 1 0 0),(1008,.clos 211 [] [.aptr [[.arr (dE (az MB n))]] 0 0])],[(1,some ⟨173,1,[[u64 (ofD MB ((az MB n).drop ((az MB n).length- (k+1))))]]⟩)],2,17⟩
  have h1:AV.v (.int .u64 ((ofD MB ((az MB n).drop ((az MB n).length- k)):Nat) * 1000000000+(x:Int)))=u64 ((ofD MB ((az MB n).drop ((az MB n).length- (k+1))):Nat):Int):=by
   rw[show(az MB n).length- (k+1)=(az MB n).length- 1- k by omega,hv];simp[u64];omega
  exact s_t []
 intro k hk hT;unfold kT at hT;split at hT;cases hT;refine⟨(),trivial,?_⟩;rw[wordS.eq_1]
 have h1:ofD MB ((az MB n).drop ((az MB n).length- k))=n:=by
  rw[show(az MB n).length- k=0 by omega,List.drop_zero,bC δ]
 rw[h1];exact s_e [];rintro _ _;refine r_z 2 ?_;refine an (aR rfl rfl (ag _))
def yh:Nat×Nat->AState
 |(p,q)=>⟨[(2,.lptr 1 0 0),(3,.lptr 2 0 0),(4,.lptr 3 0 0)],[(1,some ⟨38,1,[[mag p]]⟩),(2,some ⟨38,1,[[mag q]]⟩),(3,some ⟨38,1,[[.emp]]⟩)],4,43⟩
theorem jK(p:Nat)(q:Nat):yh (p,q)=⟨[(2,.lptr 1 0 0),(3,.lptr 2 0 0),(4,.lptr 3 0 0)],[(1,some ⟨38,1,[[mag p]]⟩),(2,some ⟨38,1,[[mag q]]⟩),(3,some ⟨38,1,[[.emp]]⟩)],4,43⟩:=rfl
def Fq:Nat×Nat->AState
 |(x,y)=>⟨[(4,.lptr 3 0 0),(5,u64 x),(6,u64 y)],[(3,some ⟨38,1,[[.emp]]⟩)],4,43⟩
theorem qn(x:Nat)(y:Nat):Fq (x,y)=⟨[(4,.lptr 3 0 0),(5,u64 x),(6,u64 y)],[(3,some ⟨38,1,[[.emp]]⟩)],4,43⟩:=rfl
theorem zN(p q:Nat):Nat.gcd q (p % q)=Nat.gcd p q:=by
 rw[Nat.gcd_comm p q,Nat.gcd_rec q p,Nat.gcd_comm]
theorem CT{n:Nat}(h:(az MB n).length<=2):n< 1000000000000000000:=by
 have h1:=fw (b:=MB) (dD δ n);rw[bC δ] at h1;exact Nat.lt_of_lt_of_le h1 (Nat.pow_le_pow_right δ h)
theorem EO(a b:Nat)(h:bl a+bl b<=4398046511104):FS 128 [.agg [mag a],.agg [mag b]] (.agg [mag (Nat.gcd a b)]):=by
 refine f_c Tryz.func128 ?_;refine r_z 3 ?_;refine bi yh (λx=>x.1=Nat.gcd a b) ?_ ?_;refine ak (aC yh (λx=>x.2) (λx=>Nat.gcd x.1 x.2=Nat.gcd a b/\bl x.1+bl x.2<=4398046511104) (a,b) ⟨rfl,h⟩ ?_ ?_);rw[jK];exact s_e [];rintro⟨p,q⟩ ⟨hg,hb⟩;simp only at hg hb;rw[jK];have hz:=DL (az MB q);refine ac (r_c 3 (hz) ?_);refine a_z ?_;refine aw rfl (λh0=>?_) (λh0=>?_)
 have hq:0< q:=by
  rcases Nat.eq_zero_or_pos q with e|e
  subst e;rw[cz] at h0;simp at h0;exact e
 refine am (ak (bi (λ_:Unit=>⟨[(2,.lptr 1 0 0),(3,.lptr 2 0 0),(4,.lptr 3 0 0)],[(1,some ⟨38,1,[[mag p]]⟩),(2,some ⟨38,1,[[mag q]]⟩),(3,some ⟨38,1,[[.emp]]⟩)],4,43⟩) (λ_=>True) ?_ ?_));by_cases hl:(az MB p).length<=2;by_cases hl2:(az MB q).length<=2;have hwp:=CT hl;have hwq:=CT hl2;refine s_r 10 ?_;refine a_5 ?_
 first|refine y_g rfl χ (.fieldAddr_l rfl TF.h δ) ?_|refine y_g rfl χ (.fieldAddr_a rfl TF.h δ) ?_
 first|refine y_g rfl χ (.load_l1 rfl rfl rfl TG.h rfl) ?_|refine y_g rfl χ (.load_a1 rfl rfl TG.h rfl) ?_
 first|refine y_g rfl χ (.lenD rfl rfl rfl rfl te_36.h) ?_|refine y_g rfl χ (.lenI rfl rfl rfl rfl te_36.h) ?_|refine y_g rfl χ (.lenP rfl rfl rfl rfl te_36.h) ?_|refine y_g rfl χ (.lenC rfl rfl rfl rfl te_36.h) ?_|refine y_g rfl χ (.lenR rfl rfl rfl rfl te_36.h) ?_|refine y_g rfl χ (.len rfl rfl rfl rfl rfl te_36.h) ?_
 refine y_g rfl χ (.bin rfl rfl cO) ?_;refine o_0 (.pickT rfl χ rfl) ?_;refine ao ?_;refine aw rfl (λh1=>?_) (λh1=>?_);refine ac (r_d hmix 6 ?_);refine c_s (DM p hl) ?_;refine c_s (DM q hl2) ?_;refine a_2 ?_;refine ao (n_k ?_);refine bi (λx:Nat=>⟨[(4,.lptr 3 0 0),(5,u64 x)],[(3,some ⟨38,1,[[.emp]]⟩)],4,43⟩) (λx=>x=Nat.gcd a b) ?_ ?_;refine ak (aC Fq (λx=>x.2) (λx=>Nat.gcd x.1 x.2=Nat.gcd a b/\x.1< 1000000000000000000/\x.2< 1000000000000000000) (p,q) ⟨hg,hwp,hwq⟩ ?_ ?_);rw[qn];exact s_e [];rintro⟨x,y⟩ ⟨hxy,hx,hy⟩;simp only at hxy hx hy;rw[qn];refine ac (r_z 2 ?_);refine aw rfl (λh2=>?_) (λh2=>?_);have hy0:0< y:=by simp at h2;omega
 refine am (ak (r_d hmix 6 ?_));refine a_6 ?_;refine ao (n_k ?_);refine⟨(y,x % y),Nat.mod_lt _ hy0,⟨(zN x y).trans hxy,hy,Nat.lt_trans (Nat.mod_lt _ hy0) hy⟩,?_⟩;rw[qn];exact s_e [];have hy0:y=0:=by simp at h2;omega
 subst hy0;refine aB ⟨x,by simpa using hxy,?_⟩;exact s_e [];rintro x rfl
 have hx64:Nat.gcd a b< 18446744073709551616:=by
  rw[<-hg];have h1:Nat.gcd p q<=q:=Nat.gcd_le_right _ hq;omega
 refine r_c 3 (fy _ hx64) ?_;refine a_z ?_;exact an (dA rfl rfl rfl TG.h TS.h (nle rfl) rfl (aN (ae (cg _) ai)));exact absurd h1 χ;refine s_r 10 ?_;refine a_5 ?_
 first|refine y_g rfl χ (.fieldAddr_l rfl TF.h δ) ?_|refine y_g rfl χ (.fieldAddr_a rfl TF.h δ) ?_
 first|refine y_g rfl χ (.load_l1 rfl rfl rfl TG.h rfl) ?_|refine y_g rfl χ (.load_a1 rfl rfl TG.h rfl) ?_
 first|refine y_g rfl χ (.lenD rfl rfl rfl rfl te_36.h) ?_|refine y_g rfl χ (.lenI rfl rfl rfl rfl te_36.h) ?_|refine y_g rfl χ (.lenP rfl rfl rfl rfl te_36.h) ?_|refine y_g rfl χ (.lenC rfl rfl rfl rfl te_36.h) ?_|refine y_g rfl χ (.lenR rfl rfl rfl rfl te_36.h) ?_|refine y_g rfl χ (.len rfl rfl rfl rfl rfl te_36.h) ?_
 refine y_g rfl χ (.bin rfl rfl cO) ?_;refine o_0 (.pickT rfl χ rfl) ?_;refine ao ?_;refine aw rfl (λh=>?_) (λ_=>am ⟨(),trivial,?_⟩);exact absurd h χ;exact s_e [];refine s_r 10 ?_;refine a_5 ?_;refine n_g rfl χ ?_;refine n_g rfl χ ?_;refine n_g rfl χ ?_;refine n_g rfl χ ?_;refine o_0 (.pickF rfl χ rfl) ?_;refine ao ?_;refine aw rfl (λh=>?_) (λ_=>am ⟨(),trivial,?_⟩);cases h;exact s_e [];rintro _ _;refine r_c 10 (sP p q hb hq) ?_;refine a_z ?_;refine r_d hmix 4 ?_;refine a_4 ?_;refine ao (n_k ?_);refine⟨(q,p % q),Nat.mod_lt _ hq,⟨(zN p q).trans hg,?_⟩,?_⟩;have:=dL (Nat.mod_le p q);simp only;omega;rw[jK];exact s_e []
 have hq:q=0:=by
  rcases Nat.eq_zero_or_pos q with e|e
  exact e
  have:(az MB q).length≠0:=λe'=>by
   rw[List.length_eq_zero_iff] at e';have:=(fC (b:=MB) δ).1 e';omega
  simp[this] at h0
 subst hq;refine aB ⟨(p,0),?_,?_⟩;simpa using hg;rw[jK];exact s_e [];rintro⟨p,q⟩ hp;simp only at hp;subst hp;rw[jK];refine r_z 2 ?_;refine an (dA rfl rfl rfl TG.h TS.h (nle rfl) rfl (aN (ae (cg _) ai)))
theorem E6(n:Nat):((az MB n).length==0)=(n==0):=by
 rw[Bool.eq_iff_iff];simp only[beq_iff_eq,List.length_eq_zero_iff];exact fC δ
theorem jH(n:Nat):FS 99 [.agg [mag n]] (bln (n==0)):=by
 rw[<-E6];exact DL _
theorem dS(b:Bool)(m:Nat):FS 113 [bln b,.agg [mag m]] (.agg (zI (sgn b m))):=by
 have e:AV.agg (zI (sgn b m))= .agg [mag m,bln (b && !(m==0))]:=by unfold zI;rw[fq,sgn_neg]
 rw[e];refine f_c Tryz.func113 ?_;cases b with
 |true=>
  refine r_z 2 ?_;refine ac (r_d hmix 9 ?_);refine a_3 ?_
  first|refine y_g rfl d_t (.load_l rfl rfl rfl TG.h TS.h (nle rfl)) ?_|refine y_g rfl d_t (.load_a rfl rfl TG.h TS.h (nle rfl)) ?_
  refine y_g rfl d_t (.call rfl rfl rfl (jH m)) ?_;refine y_g rfl d_t (.un rfl iN) ?_;refine o_0 (.pickT rfl d_t rfl) ?_;refine a_2 ?_;refine ao (n_k ?_);exact an (c_e (aN (ae (cg m) (ae (ag _) ai))))
 |false=>
  refine r_z 2 ?_;refine ac (r_d hmix 9 ?_);refine a_3 ?_;refine n_g rfl d_f ?_;refine n_g rfl d_f ?_;refine n_g rfl d_f ?_;refine o_0 (.pickF rfl d_f rfl) ?_;refine a_2 ?_;refine ao (n_k ?_);exact an (c_e (aN (ae (cg m) (ae (ag _) ai))))
theorem Hn(z:Int):FS 51 [.agg (zI z)] (i64 (sgZ z)):=by
 refine f_c Tryz.func51 ?_;refine r_z 2 ?_;refine bi (λ_:Unit=>⟨[],[],1,10⟩) (λ_=>0< z) ?_ ?_;refine ak (r_c 4 (jH z.natAbs) ?_);refine a_z ?_;refine aw rfl (λh=>?_) (λh=>?_);refine r_z 1 ?_;refine an (aR rfl ?_ (ag _));have:z=0:=by simpa using h
 simp[i64,sgZ,this,ofV];have h0:z≠0:=by simpa using h
 refine r_z 3 ?_;refine aw rfl (λh1=>?_) (λh1=>?_);refine r_z 1 ?_;refine an (aR rfl ?_ (ag _));have:z< 0:=by simpa using h1
 simp[i64,sgZ,this,h0,ofV];have:¬z< 0:=by simpa using h1
 refine am ⟨(),ω,?_⟩;exact s_e [];rintro _ h1;refine r_z 1 ?_;refine an (aR rfl ?_ (ag _));simp only[i64,sgZ];rw[if_neg ω,if_neg ω];rfl
theorem cb(q:Rat):FS 13 [.agg (qC q)] (i64 (sgZ q.num)):=by
 refine f_c Tryz.func13 ?_;refine r_z 2 ?_;refine r_c 4 (Hn q.num) ?_;refine a_z ?_;exact an (t_e (ag _))
theorem sgn_mul(a b:Bool)(m n:Nat):sgn a m* sgn b n=sgn (a !=b) (m* n):=by
 cases a <;> cases b <;> simp[sgn,Int.neg_mul,Int.mul_neg]
theorem wX(a:Bool)(m n:Nat):sgn a m+sgn a n=sgn a (m+n):=by
 cases a <;> simp[sgn]<;> omega
theorem Bh{a b:Bool}(h:a≠b){m n:Nat}(hl:m<=n):sgn a m+sgn b n=sgn b (n- m):=by
 cases a <;> cases b <;> simp[sgn] at h⊢ <;> omega
theorem Bi{a b:Bool}(h:a≠b){m n:Nat}(hl:n<=m):sgn a m+sgn b n=sgn a (m- n):=by
 cases a <;> cases b <;> simp[sgn] at h⊢ <;> omega
theorem xJ(x y:Int)(h:bl x.natAbs+bl y.natAbs<=17592186044416):FS 81 [.agg (zI x),.agg (zI y)] (.agg (zI (x* y))):=by
 have e:x* y=sgn (decide (x< 0) !=decide (y< 0)) (x.natAbs* y.natAbs):=by
  rw[<-sgn_mul,pc,pc]
 rw[e];refine f_c Tryz.func81 ?_;refine r_z 3 ?_;refine ac (r_d hmix 12 ?_);refine c_s (fO x.natAbs y.natAbs h) ?_;refine c_s (dS (decide (x< 0) !=decide (y< 0)) (x.natAbs* y.natAbs)) ?_;refine a_1 ?_;refine ao (n_k ?_);exact an (c_e (iu _))
theorem fs_iadd(x y:Int)(h:bl x.natAbs+bl y.natAbs<=17592186044416):FS 112 [.agg (zI x),.agg (zI y)] (.agg (zI (x+y))):=by
 obtain⟨a,ha⟩:∃a,a=decide (x< 0):=⟨_,rfl⟩;obtain⟨b,hb⟩:∃b,b=decide (y< 0):=⟨_,rfl⟩;have ex:x=sgn a x.natAbs:=by rw[ha,pc]
 have ey:y=sgn b y.natAbs:=by rw[hb,pc]
 refine f_c Tryz.func112 ?_;refine r_z 3 ?_;refine bi (λ_:Unit=>⟨[(2,.lptr 1 0 0),(3,.lptr 2 0 0),(4,.lptr 3 0 0)],[(1,some ⟨40,2,[zI x]⟩),(2,some ⟨40,2,[zI y]⟩),(3,some ⟨40,2,[[.emp,bln false]]⟩)],4,42⟩) (λ_=>a≠b/\y.natAbs<=x.natAbs) ?_ ?_;refine ak (r_z 6 ?_);refine aw rfl (λh1=>?_) (λh1=>?_);have hab:a=b:=by rw[ha,hb];simpa using h1
 have e:x+y=sgn (decide (x< 0)) (x.natAbs+y.natAbs):=by
  conv=>lhs;rw[ex,ey,<-hab]
  rw[wX,ha]
 rw[e];refine ac (r_d hmix 9 ?_);refine c_s (xG x.natAbs y.natAbs h) ?_;refine c_s (dS (decide (x< 0)) (x.natAbs+y.natAbs)) ?_;refine a_1 ?_;refine ao (n_k ?_);exact an (c_e (iu _));have hab:a≠b:=by rw[ha,hb];simpa using h1
 refine r_c 7 (oh x.natAbs y.natAbs h) ?_;refine a_z ?_;refine aw rfl (λh2=>?_) (λh2=>?_)
 have hlt:x.natAbs< y.natAbs:=by
  have:=of_decide_eq_true h2;unfold fk at this;split at this;omega;split at this <;> omega
 have e:x+y=sgn (decide (y< 0)) (y.natAbs- x.natAbs):=by
  conv=>lhs;rw[ex,ey]
  rw[Bh hab (Nat.le_of_lt hlt),hb]
 rw[e];refine ac (r_d hmix 9 ?_);refine c_s (sR y.natAbs x.natAbs ω (Nat.le_of_lt hlt)) ?_;refine c_s (dS (decide (y< 0)) (y.natAbs- x.natAbs)) ?_;refine a_1 ?_;refine ao (n_k ?_);exact an (c_e (iu _))
 have hge:y.natAbs<=x.natAbs:=by
  have:=of_decide_eq_false h2;unfold fk at this;split at this;omega;split at this <;> omega
 refine am ⟨(),⟨hab,hge⟩,?_⟩;exact s_e [];rintro _ ⟨hab,hge⟩
 have e:x+y=sgn (decide (x< 0)) (x.natAbs- y.natAbs):=by
  conv=>lhs;rw[ex,ey]
  rw[Bi hab hge,ha]
 rw[e];refine ac (r_d hmix 9 ?_);refine c_s (sR x.natAbs y.natAbs ω hge) ?_;refine c_s (dS (decide (x< 0)) (x.natAbs- y.natAbs)) ?_;refine a_1 ?_;refine ao (n_k ?_);exact an (c_e (iu _))
theorem zS(n:Int)(h: -9223372036854775808<=n/\n<=9223372036854775807):FS 76 [i64 n] (.agg (zI n)):=by
 refine f_c Tryz.func76 ?_;refine r_z 1 ?_;refine ac (r_z 2 ?_);refine aw rfl (λh1=>?_) (λh1=>?_);have hn:n< 0:=of_decide_eq_true h1;have e:n=sgn true n.natAbs:=by simp[sgn];omega
 have hI:18446744073709551616- (n+18446744073709551616)=((n.natAbs:Nat):Int):=ω
 have hs:FS 127 [.v (.int .u64 (18446744073709551616- (n+18446744073709551616)))] (.agg [mag n.natAbs]):=by rw[hI];exact fy _ ω
 refine s_r 6 ?_;refine a_1 ?_;refine o_0 (.conv rfl (cU64n ω tu_2.h tu_173.h)) ?_;refine o_0 (.un rfl (Fx ω)) ?_;refine c_s (hs) ?_;refine c_s (dS true n.natAbs) ?_;refine a_z ?_;refine an (dA rfl rfl rfl TG.h TS.h (nle rfl) ?_ ?_);show _=AV.agg (zI n)
 conv=>rhs;rw[e]
 rfl;exact iu _;refine am ?_;have hn:0<=n:=by have:=of_decide_eq_false h1;omega
 have e:n=sgn false n.natAbs:=by simp[sgn];omega
 have hI:n=((n.natAbs:Nat):Int):=ω
 have hs:FS 127 [.v (.int .u64 n)] (.agg [mag n.natAbs]):=by
  have:=fy n.natAbs ω;rwa[u64,<-hI] at this
 refine s_r 5 ?_;refine a_1 ?_;refine o_0 (.conv rfl (cU64 ω tu_2.h tu_173.h)) ?_;refine c_s (hs) ?_;refine c_s (dS false n.natAbs) ?_;refine a_z ?_;refine an (dA rfl rfl rfl TG.h TS.h (nle rfl) ?_ ?_);show _=AV.agg (zI n)
 conv=>rhs;rw[e]
 rfl;exact iu _
theorem GQ:mag 0= .arr []:=by unfold mag;rw[cz];rfl
theorem pN(n:Int):FS 75 [.agg (zI n)] (.agg (qC n)):=by
 have e:qC (n:Rat)=[mag n.natAbs,bln (decide (n< 0)),mag 0]:=rfl;rw[e];refine f_c Tryz.func75 ?_;refine r_z 2 ?_;refine r_z 3 ?_;refine an (Fin.cell rfl rfl rfl TG.h TS.h (nle rfl) (Cv.agg (af (ah aE (cg _)) (af (ah aE (ag _)) (af (Cv.emp _ GQ) ax)))))
theorem df(n:Int)(h: -9223372036854775808<=n/\n<=9223372036854775807):FS 20 [i64 n] (.agg (qC n)):=by
 refine f_c Tryz.func20 ?_;refine r_z 1 ?_;refine r_c 4 (zS n h) ?_;refine c_s (pN n) ?_;refine a_z ?_;exact an (c_e (aS _))
theorem ef(q:Rat)(h:qs q<=1099511627776):FS 82 [.agg (qC q)] (.agg [mag q.den]):=by
 have hp:=q.den_pos;have hd:=dp q;have e:q.den=q.den- 1+1:=ω
 have hb1:=dL (show q.den- 1<=q.den by omega);have h1:bl 1=1:=ko;refine f_c Tryz.func82 ?_;refine r_z 2 ?_;refine ac (r_d hmix 5 ?_);refine c_s (fy 1 δ) ?_;refine c_s (xG (q.den- 1) 1 ω) ?_;refine a_1 ?_;refine ao (n_k ?_);refine an (dA rfl rfl rfl TG.h TS.h (nle rfl) ?_ ?_);show AV.agg [mag (q.den- 1+1)]=_;rw[<-e];exact closed_mA _
theorem pP(n:Int)(d:Nat)(hd:0< d)(h:bl n.natAbs+bl d<=2199023255552):FS 80 [.agg (zI n),.agg [mag d]] (.agg (qC (mkRat n d))):=by
 obtain⟨g,hg⟩:∃g,g=Nat.gcd n.natAbs d:=⟨_,rfl⟩;have hgp:0< g:=by rw[hg];exact Nat.gcd_pos_of_pos_right _ hd
 have hgd:g<=d:=by rw[hg];exact Nat.gcd_le_right _ hd
 have hbg:=dL hgd;have hbn:=eP n.natAbs g;have hbd:=eP d g;have hqd:0< d/ g:=Nat.div_pos hgd hgp
 have hfin:AV.agg (qC (mkRat n d))= .agg (zI (sgn (decide (n< 0)) (n.natAbs/ g))++[mag (d/ g- 1)]):=by
  unfold qC;rw[jp hd,(kH hd).2,<-hg];rfl
 rw[hfin];have hc:=EO n.natAbs d ω;rw[<-hg] at hc;refine f_c Tryz.func80 ?_;refine r_z 3 ?_;refine ac (r_c 6 (hc) ?_);refine a_z ?_;refine r_c 3 (fs_one g) ?_;refine a_z ?_;refine aG (λ_:Unit=>⟨[(2,.lptr 1 0 0),(3,.lptr 2 0 0),(4,.lptr 3 0 0)],[(1,some ⟨40,2,[[mag (n.natAbs/ g),bln (decide (n< 0))]]⟩),(2,some ⟨38,1,[[mag (d/ g)]]⟩),(3,some ⟨42,3,[[.emp,bln false,.emp]]⟩)],4,36⟩) (λ_=>True) ?_ ?_;refine aw rfl (λh1=>?_) (λh1=>?_);refine r_c 9 (sP n.natAbs g ω hgp) ?_;refine a_z ?_;refine r_m 7 ?_;refine c_s (sP d g ω hgp) ?_;refine a_z ?_;refine⟨(),trivial,?_⟩;exact s_e [];have hg1:g=1:=by simpa using h1
 subst hg1;refine am ⟨(),trivial,?_⟩;rw[Nat.div_one,Nat.div_one];exact s_e [];rintro _ _;refine ac (r_d hmix 10 ?_);refine c_s (dS (decide (n< 0)) (n.natAbs/ g)) ?_;refine c_s (fy 1 δ) ?_;refine c_s (sR (d/ g) 1 ω hqd) ?_;refine a_2 ?_;refine ao (n_k ?_);exact an (c_e (aN (ae (cg _) (ae (ag _) (ae (cg _) ai)))))
end Go.Proofs.YtjgokhkahkmpbaaGreatDoor
