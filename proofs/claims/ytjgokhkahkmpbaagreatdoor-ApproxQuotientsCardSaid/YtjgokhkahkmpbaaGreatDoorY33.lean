/- Part Y33 of the proof. -/
import Derived.Test.YtjgokhkahkmpbaaGreatDoorY32
set_option linter.all false
namespace Go.Proofs.YtjgokhkahkmpbaaGreatDoor
open Go.Abs
set_option maxRecDepth 20000
set_option maxHeartbeats 8000000
section
variable {l:Lq}{i:Nat}
def rvF(l:Lq)(i t:Nat):Rat:=if t< i\/l.length<=t+i then coP l (l.length- 1- t) else coP l t
def rvL(l:Lq)(i:Nat):Lq:=aH l.length (rvF l i)
theorem n7(l:Lq)(i:Nat):(rvL l i).length=l.length:=by simp[rvL,aH]
theorem Dc{a b:Nat->Rat}(h:∀t,t< l.length->a t=b t):aH l.length a=aH l.length b:=by
 unfold aH;exact List.map_congr_left λt ht=>h t (List.mem_range.1 ht)
theorem tab_co(l:Lq):aH l.length (λt=>coP l t)=l:=by
 refine List.ext_getElem (by simp[aH]) λi h1 h2=>?_;simp only[aH,List.getElem_map,List.getElem_range];unfold coP;rw[List.getD_eq_getElem?_getD,List.getElem?_eq_getElem h2];rfl
theorem rvL_0(l:Lq):rvL l 0=l:=by
 have:rvL l 0=aH l.length λt=>coP l t:=Dc λt ht=>by unfold rvF;rw[if_neg ω]
 rw[this,tab_co]
theorem rvL_end(h:l.length<=2* i+1):rvL l i=l.reverse:=by
 have h1:rvL l i=aH l.length λt=>coP l (l.length- 1- t):=Dc λt ht=>by
  unfold rvF;by_cases g:t< i\/l.length<=t+i;rw[if_pos g];rw[if_neg g,show l.length- 1- t=t by omega]
 rw[h1];refine List.ext_getElem (by simp[aH]) λj h1 h2=>?_;simp only[aH,List.getElem_map,List.getElem_range,List.getElem_reverse];simp only[List.length_reverse] at h2;unfold coP;rw[List.getD_eq_getElem?_getD,List.getElem?_eq_getElem ω];rfl
theorem Db{t:Nat}(ht:t< l.length):∀e,e=t->(pE (rvL l i))[e]?=some (qC (rvF l i t)):=sv (rvF l i) ht
theorem rvL_set(h:2* i+1< l.length):((rvL l i).set i (coP l (l.length- 1- i))).set (l.length- 1- i) (coP l i)=rvL l (i+1):=by
 refine List.ext_getElem (by simp[rvL,aH]) λt h1 h2=>?_;rw[n7] at h2;rw[List.getElem_set,List.getElem_set];simp only[rvL,aH,List.getElem_map,List.getElem_range];unfold rvF;by_cases e1:l.length- 1- i=t;rw[if_pos e1,if_pos ω,<-e1,show l.length- 1- (l.length- 1- i)=i by omega];rw[if_neg e1];by_cases e2:i=t;rw[if_pos e2,if_pos ω,<-e2];rw[if_neg e2];by_cases g:t< i\/l.length<=t+i;rw[if_pos g,if_pos ω];rw[if_neg g,if_neg ω]
def rvS(l:Lq):Nat->AState
 |i=>⟨[(0,.lsl 0 0 l.length none 3),(2,i64 i),(3,i64 ((l.length:Int)- 1- (i:Int)))],[(0,some ⟨42,3,pE (rvL l i)⟩)],1,28⟩
theorem Cr(l:Lq)(n:Nat)(hn:l.length=n)(hl:l.length<=1000):ESpec Tryz.prog 90 42 3 (pE l) (pE l.reverse) 0 n none [] (.tuple #[]):=by
 subst hn;have hll:(pE l).length=l.length:=by simp[pE]
 refine ESpec.enter Tryz.func90 rfl κ rfl rfl rfl ?_ ?_ ?_ rfl ?_;exact ai;exact aJ l;exact aJ _;refine r_z 5 ?_;refine ak (aC (rvS l) (λi=>l.length- i) (λi=>2* i<=l.length+1) 0 (Nat.zero_le _) ?_ ?_);rw[rvS.eq_1,rvL_0];exact s_x [] (λhs=>e_45) (λhs=>e_46);intro i hi;rw[rvS.eq_1];have hrl:=n7 l i;by_cases hlt:2* i+1< l.length;have hgi:=Db (l:=l) (i:=i) (t:=i) ω;have hgj:=Db (l:=l) (i:=i) (t:=l.length- 1- i) ω;have e1:rvF l i i=coP l i:=by unfold rvF;rw[if_neg ω]
 have e2:rvF l i (l.length- 1- i)=coP l (l.length- 1- i):=by unfold rvF;rw[if_neg ω]
 rw[e1] at hgi;rw[e2] at hgj
 have hgj2:∀e e',e=i->e'=l.length- 1- i->((pE (rvL l i)).set e (qC (coP l (l.length- 1- i))))[e']?=some (qC (coP l (l.length- 1- i))):=λe e' he he'=>by
  rw[List.getElem?_set_ne ω];exact hgj _ he'
 have hst:∀e e',e=i->e'=l.length- 1- i->((pE (rvL l i)).set e (qC (coP l (l.length- 1- i)))).set e' (qC (coP l i))=pE (rvL l (i+1)):=λe e' he he'=>by
  rw[he,he',j5,j5,rvL_set hlt]
 have hl2:=n7 l (i+1);refine ac (q_z 3 ?_);refine cT (am (ac (ak (r_d hmix 16 ?_))));refine a_7 ?_
 first|refine av (.load_l rfl rfl (hgj _ ω) TG.h TS.h (nle rfl)) rfl rfl ?_|refine av (.load_a rfl (hgj _ ω) TG.h TS.h (nle rfl)) rfl rfl ?_
 refine a_3 ?_
 first|refine av (.load_l rfl rfl (hgi _ ω) TG.h TS.h (nle rfl)) rfl rfl ?_|refine av (.load_a rfl (hgi _ ω) TG.h TS.h (nle rfl)) rfl rfl ?_
 refine a_1 ?_;refine ee (.store rfl rfl (hgi _ ω) rfl rfl rfl TS.h (nle rfl)) ?_;refine a_1 ?_;refine ee (.store rfl rfl (hgj2 _ _ ω ω) rfl rfl rfl TS.h (nle rfl)) ?_;refine ao (n_k ?_);refine r_m 6 ?_;refine a_z ?_;refine⟨i+1,ω,ω,?_⟩;rw[rvS.eq_1];refine s_x [] (λhs=>?_) (λhs=>?_) ?_
 ·repeat' (first|exact aF|refine aj rfl ?_ ?_|(refine Cv.loE hs ?_ (ag _);simp[i64];omega)|exact aX)
 ·repeat' (first|exact aD|refine h_c ?_ ?_|exact aI hs (hst _ _ ω ω) (aJ _)|exact bG|refine ay ?_|exact ax|refine af ?_ ?_|(refine Cv.loE hs ?_ (ag _);simp[i64];omega)|exact aX)
 ·repeat' (first|exact ShrL.nil|refine ShrL.cons rfl rfl rfl rfl (by first|(simp[hrl,hl2])|rfl|(simp;done)|(simp <;> omega)) ?_)
 refine ac (q_z 3 ?_);refine cF (aB ?_);rw[rvL_end ω];exact FinE.none (.inl rfl) rfl rfl
theorem se_boxG(d:Dt)(k:Int)(nv:Option Lq)(s:SeS):∀i B,3<=i->au (seH d k nv s++[(3,some ⟨42,3,[zC]⟩)]) i=some B->B.sz≠0/\∀e∈B.es,∀c∈e,Top (λj=>j=0\/3<=j) c:=λi B hi h=>by
 have hm:=da h;unfold seH at hm;simp only[List.cons_append,List.nil_append,List.mem_cons,Prod.mk.injEq,List.not_mem_nil,or_false] at hm;rcases hm with⟨rfl,_⟩|⟨rfl,_⟩|⟨rfl,_⟩|⟨rfl,hB⟩
 omega;omega;omega;cases hB;refine⟨ψ,λe he c hc=>?_⟩;rw[List.mem_singleton.1 he] at hc;exact .clo (b7 c hc)
theorem se_mixG(d:Dt)(k:Int)(nv nv':Option Lq)(s s':SeS):∀i,au (seH d k nv' s'++[(3,some ⟨42,3,[zC]⟩)]) i=if i< 3 then au (seH d k nv' s') i else au (seH d k nv s++[(3,some ⟨42,3,[zC]⟩)]) i:=λi=>by
 match i with
 |0=>rfl
 |1=>rfl
 |2=>rfl
 |3=>rfl
 |i+4=>
  rw[if_neg ω];unfold seH;simp only[List.cons_append,List.nil_append];rw[bh (show 0≠i+4 by omega),bh (show 1≠i+4 by omega),bh (show 2≠i+4 by omega),bh (show 3≠i+4 by omega),bh (show 0≠i+4 by omega),bh (show 1≠i+4 by omega),bh (show 2≠i+4 by omega),bh (show 3≠i+4 by omega)]
theorem se_top0(d:Dt)(k:Int):∀i B,au (seH d k none ⟨[],0,false⟩) i=some B->B.sz≠0/\∀e∈B.es,∀c∈e,Top (λj=>j< 3/\(au (seH d k none ⟨[],0,false⟩) j).isSome=true) c:=λi B h=>by
 have hm:=da h;unfold seH at hm;simp only[List.mem_cons,Prod.mk.injEq,List.not_mem_nil,or_false] at hm;rcases hm with⟨rfl,hB⟩|⟨rfl,hB⟩|⟨rfl,hB⟩
 cases hB;refine⟨ψ,λe he c hc=> .clo ?_⟩;rw[List.mem_singleton.1 he] at hc;rcases List.mem_append.1 hc with hc|hc
 simp only[List.mem_cons,List.not_mem_nil,or_false] at hc;rcases hc with rfl|rfl|rfl|rfl|rfl|rfl
 exact aq _;exact aq _;exact aq _;exact ag _;exact aK;exact aK;exact gU _ c hc;cases hB;cases hB
theorem fs_Grid(f:Nat)(d:Dt)(n:Nat)(k:Int)(B:Lq)(E:Rat)(h:Ep d=true)(hs:smL d.X)(hn:n<=3)(hx:n+1<=d.X.length)(hM:oX f (wi k 256) (n+1) d [] ⟨[],0,false⟩=some ⟨B,E,true⟩)(hb:B.length<=1000):
    FS 29 [.agg (dC d),i64 n,i64 k] (.tup [.arr (pE (aA B.reverse)),.agg (qC E),i64 0]):=by
 have hc:=pY d h hs;have hXs:=Fp f k (n+1) d none ⟨[],0,false⟩ ⟨B,E,true⟩ hM (λ_=>⟨rfl,ψ⟩);rw[show(none:Option Lq).getD []=[] from rfl,show(((n+1:Nat):Int)- 1)=(n:Int) by omega] at hXs;have hrv:=Cr B B.length rfl hb;have htr:=dT B.reverse χ
 have htr2:FS 21 [.arr (List.take B.length (List.drop 0 (pE B.reverse)))] (.arr (pE (aA B.reverse))):=by
  rw[List.drop_zero,List.take_of_length_le ψ];exact htr
 have hxl:(pE d.X).length=d.X.length:=by simp[pE]
 refine f_n Tryz.func29 ?_ ?_;exact ae (aN (cX d)) (ae (ag _) (ae (ag _) ai));refine r_z 4 ?_;refine ac (r_c 3 (hc) ?_);refine a_z ?_;refine AWp.ent (st':=⟨[(1,i64 n),(2,i64 k),(3,bD d),(7,.lptr 1 0 0),(9,i64 0)],[(1,some ⟨42,3,[zC]⟩)],2,55⟩) ?_ ?_;have:=cX d;exact s_f [(1,7)];refine aG (λ_:Unit=>⟨[(1,i64 n),(2,i64 k),(3,bD d),(7,.lptr 1 0 0)],[(1,some ⟨42,3,[zC]⟩)],2,55⟩) (λ_=>True) ?_ ?_;refine ak (s_r 3 ?_);refine a_1 ?_;refine o_0 (.bin rfl rfl (vF bO (rfl))) ?_;refine a_z ?_;refine cF (q_z 7 ?_);refine cF (q_z 7 ?_);refine cF (am ⟨(),trivial,?_⟩);have:=b6 d;exact s_f [];rintro _ _;refine r_z 5 ?_;refine AWp.pinned (st':=⟨[(1,i64 n),(7,.lptr 3 0 0),(10,.lptr 0 0 0)],[(0,some ⟨140,10,[seC d k none ⟨[],0,false⟩]⟩),(3,some ⟨42,3,[zC]⟩)],4,55⟩) ?_ ?_;refine SEntP.to [(0,10),(3,7)] rfl rfl (ShrL.cons rfl rfl rfl rfl rfl (ShrL.cons rfl rfl rfl rfl rfl ShrL.nil)) (λhs=>aj rfl (ah hs (ag _)) (aj rfl (Cv.ptr rfl rfl rfl) (aj rfl (Cv.ptr rfl rfl rfl) aF))) (λhs=>?_);refine bw rfl rfl rfl rfl (ay ?_) (bw rfl rfl rfl rfl (ay (CvL.clo hs b7)) aD);show CvL _ _ _ _ ([.arr (pE d.X),.arr (pE d.Y),.arr (pE d.W),i64 k,.emp,.emp]++(qC 0++[bln false]));rw[qC0];exact(af (ah hs (aq _)) (af (ah hs (aq _)) (af (ah hs (aq _)) (af (ah hs (ag _)) (af (ah hs aK) (af (ah hs aK) (af (Cv.emp _) (af (ah hs (ag _)) (af (Cv.emp _) (af (ah hs (ag _)) ax))))))))))
 refine ac (AWp.regF (fr2:=[(38,.lptr 0 0 0),(39,i64 n),(7,.lptr 3 0 0),(10,.lptr 0 0 0)]) (hp2:=seH d k none ⟨[],0,false⟩++[(3,some ⟨42,3,[zC]⟩)]) (nx2:=4) (k:=3) (hpc:=seH d k none ⟨[],0,false⟩) (hpd:=seH d k (some []) ⟨B,E,true⟩) (hp3:=seH d k (some []) ⟨B,E,true⟩++[(3,some ⟨42,3,[zC]⟩)]) (fr3:=[(7,.lptr 3 0 0),(10,.lptr 0 0 0)]) 2 rfl rfl rfl rfl rfl ?_ (λd h=>by cases h;rfl) rfl rfl hXs δ (Nat.le_refl _) ?_ ?_ (sw _ _ _ _) (se_top0 _ _) (se_boxG _ _ _ _) (se_mixG _ _ _ _ _ _) (sw _ _ _ _) rfl rfl ?_ ?_);refine o_0 (.move rfl) ?_;refine o_0 (.move rfl) ?_;refine ao ?_;refine SEntT.to [] rfl rfl rfl (ShrL.cons rfl rfl rfl rfl rfl ⟨trivial,⟨trivial,ShrL.cons rfl rfl rfl rfl rfl ShrL.nil⟩⟩) (λhs=>aj rfl (Cv.ptr rfl rfl rfl) (aj rfl (ah hs (ag _)) (aj rfl (Cv.ptr rfl rfl rfl) (aj rfl (Cv.ptr rfl rfl rfl) aF)))) (λhs=>?_);exact bw rfl rfl rfl rfl (ay (af (ah hs (aq _)) (af (ah hs (aq _)) (af (ah hs (aq _)) (af (ah hs (ag _)) (af (ah hs aK) (af (ah hs aK) (CvL.clo hs (gU _))))))))) ⟨trivial,⟨trivial,bw rfl rfl rfl rfl (ay (CvL.clo hs b7)) aD⟩⟩;intro x hx;simp only[List.append_nil,List.mem_cons,List.not_mem_nil,or_false] at hx;rcases hx with rfl|rfl
 exact .ptr ⟨δ,rfl⟩;exact .clo (ag _);intro i hi
 match i,hi with
 |0,_=>rfl
 |1,_=>rfl
 |2,_=>rfl
 intro t x hx;have hm:=look_mem' hx;simp only[List.mem_cons,Prod.mk.injEq,List.not_mem_nil,or_false] at hm;rcases hm with⟨rfl,rfl⟩|⟨rfl,rfl⟩
 exact⟨rfl,.ptr (.inr (Nat.le_refl _))⟩;exact⟨rfl,.ptr (.inl rfl)⟩;refine ao ?_;refine s_r 5 ?_;refine a_4 ?_;refine o_1 (.callE2 rfl rfl rfl rfl rfl rfl (hrv)) ?_;refine ao ?_;refine ac (r_d hmix 12 ?_);refine a_4 ?_;refine o_1 (.callS1 rfl rfl rfl (.shut rfl d_n (.nil)) rfl (htr2)) ?_;refine a_7 ?_;refine ao (n_k ?_);refine AWp.ent (st':=⟨[(6,.arr (pE (aA B.reverse))),(7,.lptr 3 0 0),(8,i64 0)],[(3,some ⟨42,3,[qC E]⟩)],4,55⟩) ?_ ?_;have:=bo E;exact s_f [];refine an ⟨rfl,?_⟩;refine Fin.many ⟨_,_,rfl,rfl,⟨_,_,rfl,⟨_,_,_,_,_,rfl,rfl,rfl,.inl ⟨TG.h,_,TS.h,nle rfl,rfl⟩⟩,⟨_,_,rfl,rfl,rfl⟩⟩⟩ (nle rfl) ?_;exact af (ah aE (aq _)) (af (ah aE (aS _)) (af (ah aE (ag _)) ax))
end
def roE(p:Lq)(a:Int)(n:Nat):Lc:=(List.range n).map fun(j:Nat)=>[.arr (pE p),i64 (a+(j:Int))]
@[simp] theorem roE_length (p:Lq)(a:Int)(n:Nat):(roE p a n).length=n:=by simp[roE]
theorem Di{p:Lq}{a:Int}{n j:Nat}(h:j< n):(roE p a n)[((j:Nat):Int).toNat]?=some [.arr (pE p),i64 (a+(j:Int))]:=by
 show(roE p a n)[j]?=_;unfold roE;rw[List.getElem?_map,List.getElem?_range h];rfl
theorem roE_one(p:Lq)(a:Int)(n:Nat):(roE p a n).all (·.all AV.one)=true:=by
 simp only[roE,List.all_map,List.all_eq_true];intro q _;rfl
theorem fZ(p:Lq)(a:Int)(n:Nat):∀e∈roE p a n,∀c∈e,Closed c:=λe he c hc=>by
 obtain⟨j,_,rfl⟩:=List.mem_map.1 he;exact ae (aq p) (ae (ag _) ai) c hc
theorem F8(p:Lq)(a:Int)(n:Nat):roE p a (n+1)=roE p a n++[[.arr (pE p),i64 (a+(n:Int))]]:=by
 unfold roE;rw[List.range_succ,List.map_append];rfl
def rtS(t n:Nat)(fr:Fr)(p:Lq)(a:Int):Nat->AState
 |0=>⟨(t,.emp)::fr,[],1,n⟩
 |m+1=>⟨(t,.lsl 1 0 (m+1) none 2)::fr,[(1,some ⟨207,2,roE p a (m+1)⟩)],2,n⟩
theorem Hx(f:Nat)(p:Lq)(c:Cnt)(s:Sp)(m:Nat)(hc:fS f p=some c)(hf:f<=1000000)(h1:pv c s.1)(h2:sh c s.2)(hs:smS s)(hv:dr s.1 s.2<=0)(hl:lu p=0)(hp:p.length<=1099511627776)(hcl:c.p.length<=1000)(hm:fo c s.2=cG c s.1+m):
    FS 215 [.arr (pE p),.agg (spC s.1 s.2)] (.tup [.arr (roE c.p (cG c s.1) m),i64 0]):=by
 have hb1:=oU (x:=s.2) h2.1;have hb2:=Ff (x:=s.1) h1.1.1;have hla:=zW p hp;rw[hl] at hla;obtain⟨a,ha⟩:∃a,a=cG c s.1:=⟨_,rfl⟩;have hbe:=kL c s.1 h1;have hup:=lG c s.2 h2;rw[hm] at hup;rw[<-ha] at hbe hup hm hb2⊢;have hck:=gu c;refine f_c Tryz.func215 ?_;refine r_z 3 ?_;refine ac (r_c 3 (ir s.1 s.2 hs.1 hs.2) ?_);refine a_z ?_;refine aw rfl (λh3=>?_) (λh3=>?_);exact absurd h3 (by simp[hv]);refine am (ac (r_c 3 (hla) ?_));refine a_z ?_;refine r_z 2 ?_;refine aw rfl (λh4=>?_) (λh4=>?_);exact absurd h4 δ;refine am (r_c 3 (ny f p c hc hf) ?_);refine a_z ?_;refine r_z 1 ?_;refine ac (r_c 5 (hbe) ?_);refine a_z ?_;refine aG (λ_:Unit=>rtS 8 43 [] c.p a m) (λ_=>True) ?_ ?_;refine ak (aC (λj:Nat=>rtS 8 43 [(3,bS s),(7,kA c),(9,i64 (a+(j:Int)))] c.p a j) (λj=>m- j) (λj=>j<=m) 0 (Nat.zero_le _) ?_ ?_);simp only[rtS.eq_1];rw[show a+((0:Nat):Int)=a by omega];exact s_e [];rintro j hj;by_cases hlt:j< m
 ·have hcl':=Ai c.p ω
  cases j with
  |zero=>
   simp only[rtS.eq_1];refine ac (r_c 6 (hup) ?_);refine d_z ?_;refine cT (am (ac (ak (r_m 11 ?_))));refine c_s (hcl') ?_;refine a_z ?_;refine r_m 3 ?_;refine a_z ?_;refine⟨1,ω,hlt,?_⟩;simp only[rtS.eq_2];rw[show a+(((0+1:Nat)):Int)=a+((0:Nat):Int)+1 by omega];have:=fZ c.p a 1;exact s_f [(1,8)]
  |succ j=>
   have hone:=roE_one c.p a (j+1);simp only[rtS.eq_2];refine ac (r_c 6 (hup) ?_);refine d_z ?_;refine cT (am (ac (ak (r_m 11 ?_))));refine c_s (hcl') ?_;refine o_0 (.move rfl) ?_;refine o_0 (.build TZ.h tp_207.h rfl rfl) ?_;refine o_1 (.buildSlice te_204.h TZ.h rfl δ rfl rfl rfl υ) ?_;refine o_2 (.append_l rfl rfl rfl te_204.h rfl rfl rfl rfl rfl d_o η ξ rfl (.lsl rfl (nle rfl)) TZ.h rfl TB.h d_o μ) ?_;refine o_0 (.assign rfl) ?_;refine ao ?_;refine r_m 3 ?_;refine a_z ?_;refine⟨j+1+1,ω,hlt,?_⟩;simp only[rtS.eq_2];rw[show a+((j+1+1:Nat):Int)=a+((j+1:Nat):Int)+1 by omega];refine s_x [(1,8)] (λhs=>cN) (λhs=>?_)
   ·repeat' (first|exact aD|refine h_c ?_ ?_|exact aI hs (F8 c.p a (j+1)).symm (fZ _ _ _)|exact bG)
 have hge:j=m:=ω
 subst hge;cases j with
 |zero=>
  simp only[rtS.eq_1];refine ac (r_c 6 (hup) ?_);refine d_z ?_;refine cF (aB ⟨(),trivial,?_⟩);simp only[rtS.eq_1];exact s_e []
 |succ j=>
  simp only[rtS.eq_2];refine ac (r_c 6 (hup) ?_);refine d_z ?_;refine cF (aB ⟨(),trivial,?_⟩);simp only[rtS.eq_2];refine s_x [(1,8)] (λhs=>cN) (λhs=>?_)
  ·repeat' (first|exact aD|refine h_c ?_ ?_|exact bZ hs (fZ _ _ _)|exact bG)
 rintro _ _;cases m with
 |zero=>
  simp only[rtS.eq_1];refine r_z 3 ?_;refine an (Fin.many ⟨_,_,rfl,rfl,⟨_,_,rfl,rfl,rfl⟩⟩ (nle rfl) ?_);exact af (Cv.emp _) (af (ah aE (ag _)) ax)
 |succ m=>
  simp only[rtS.eq_2];refine r_z 3 ?_;refine an (Fin.many ⟨_,_,rfl,rfl,⟨_,_,rfl,rfl,rfl⟩⟩ (nle rfl) ?_);exact af (Cv.sealE aE rfl (λ_ _ h=>by cases h) rfl ψ (fZ _ _ _)) (af (ah aE (ag _)) ax)
theorem ET(f g:Nat)(p:Lq)(i k:Int)(c:Cnt)(q:Lq)(s:Sp)(h:n8 f p=some c)(hf:f<=1000000)(hi:0<=i)(hall:i< Fj c)(hd:db q<=40)(hq:q.length<=1099511627776)(hs:td f g c i q k=some s):FS 201 [roA p i,.arr (pE q),i64 k] (.tup [.agg (spC s.1 s.2),i64 0]):=by
 have hp:=zQ f p i c h hf hi;have hdg:=cK q hq;refine f_n Tryz.func201 ?_ ?_;exact ae (ot p i) (ae (aq q) (ae (ag _) ai));refine r_z 3 ?_;refine r_c 7 (hp) ?_;refine a_z ?_;refine bi (λ_:Unit=>⟨[(1,.arr (pE q)),(2,i64 k),(6,.lptr 1 0 0),(8,plA c i)],[(1,some ⟨44,6,[zC++zC]⟩)],2,28⟩) (λ_=>True) ?_ ?_;refine ak (r_z 3 ?_);refine aw rfl (λh=>?_) (λh=>?_);exact absurd h (by simp[hall]);refine r_c 4 (hdg) ?_;refine d_z ?_;refine cF (am ⟨(),trivial,?_⟩);have:=dh c i;have:=cL b7 b7;exact s_f [(1,6)];rintro _ _;refine r_c 6 (Hb f g c i q k s hs hf) ?_;refine a_z ?_;refine an (Fin.many ⟨_,_,rfl,⟨_,_,_,_,_,rfl,rfl,rfl,.inl ⟨TG.h,_,TS.h,nle rfl,rfl⟩⟩,⟨_,_,rfl,rfl,rfl⟩⟩ (nle rfl) ?_);exact af (ah aE (bK _ _)) (af (ah aE (ag _)) ax)
theorem Af(f g:Nat)(p:Lq)(i:Int)(c:Cnt)(q:Lq)(r:Int)(h:n8 f p=some c)(hf:f<=1000000)(hi:0<=i)(hall:i< Fj c)(hd:db q<=40)(hq:q.length<=1099511627776)(hs:rJ f g c i q=some r):FS 162 [roA p i,.arr (pE q)] (.tup [i64 r,i64 0]):=by
 have hp:=zQ f p i c h hf hi;have hdg:=cK q hq;refine f_n Tryz.func162 ?_ ?_;exact ae (ot p i) (ae (aq q) ai);refine r_z 3 ?_;refine r_c 7 (hp) ?_;refine a_z ?_;refine bi (λ_:Unit=>⟨[(1,.arr (pE q)),(6,plA c i)],[],1,23⟩) (λ_=>True) ?_ ?_;refine ak (r_z 3 ?_);refine aw rfl (λh=>?_) (λh=>?_);exact absurd h (by simp[hall]);refine r_c 4 (hdg) ?_;refine d_z ?_;refine cF (am ⟨(),trivial,?_⟩);have:=dh c i;exact s_f [];rintro _ _;refine r_c 5 (DN f g c i q r hs hf) ?_;refine a_z ?_;refine an (Fin.many ⟨_,_,rfl,rfl,⟨_,_,rfl,rfl,rfl⟩⟩ (nle rfl) ?_);exact af (ah aE (ag _)) (af (ah aE (ag _)) ax)
structure Turn (f:Nat)(g:Lq)(s:Sp)(c:Cnt)(m:Nat):Prop where
 cn:fS f (fc g)=some c
 hf:f<=1000000
 be:pv c s.1
 up:sh c s.2
 sm:smS s
 le:dr s.1 s.2<=0
 la:lu (fc g)=0
 gs:smL g
 gl:g.length<=1000
 dl:(fc g).length<=1000
 cl:c.p.length<=1000
 n:fo c s.2=cG c s.1+m
theorem zP{f:Nat}{g:Lq}{s:Sp}{c:Cnt}{m:Nat}(t:Turn f g s c m):FS 161 [.arr (pE g),.agg (spC s.1 s.2)] (.arr (roE c.p (cG c s.1) m)):=by
 have hd:=qZ g t.gs (by have:=t.gl;omega);have hr:=Hx f (fc g) c s m t.cn t.hf t.be t.up t.sm t.le t.la (by have:=t.dl;omega) t.cl t.n;have hcl:=fZ c.p (cG c s.1) m;refine f_c Tryz.func161 ?_;refine r_z 2 ?_;refine ac (r_d hmix 9 ?_);refine c_s (hd) ?_;refine c_s (hr) ?_;refine a_5 ?_;refine ao (n_k ?_);refine r_z 2 ?_;exact an (t_e (aU hcl))
theorem fs_aNeg(a b:Rat):FS 256 [.agg (spC a b)] (.agg (spC (-b) (-a))):=by
 refine f_c Tryz.func256 ?_;refine r_z 2 ?_;refine ac (r_d hmix 8 ?_);refine c_s (jG b) ?_;refine c_s (jG a) ?_;refine a_2 ?_;refine ao (n_k ?_);exact an (c_e (bK _ _))
def abL(v:Sp):Rat:=if 0<=v.1 then v.1 else if v.2<=0 then -v.2 else 0
def abH(v:Sp):Rat:=if 0<=v.1 then v.2 else if v.2<=0 then -v.1 else oc [-v.1,v.2]
theorem sg_geA{q:Rat}:(0:Int)<=sgZ q.num↔0<=q:=by
 have h:=lf (q:=q);constructor;intro g;have:¬q< 0:=λe=>by have:=h.2 e;omega
 grind;intro g;have:¬sgZ q.num< 0:=λe=>by have:=h.1 e;grind
 omega
theorem sg_leA{q:Rat}:sgZ q.num<=(0:Int)↔q<=0:=by
 have h:=tC (q:=q);constructor;intro g;have:¬0< q:=λe=>by have:=h.2 e;omega
 grind;intro g;have:¬0< sgZ q.num:=λe=>by have:=h.1 e;grind
 omega
theorem fs_aAbs(v:Sp)(h1:sm v.1)(h2:sm v.2):FS 233 [.agg (spC v.1 v.2)] (.agg (spC (abL v) (abH v))):=by
 have hc:∀c∈spC v.1 v.2,Closed c:=cu _ _;refine f_c Tryz.func233 ?_;refine r_z 2 ?_;refine ac (ak ?_);by_cases g1:0<=v.1;rw[show abL v=v.1 from if_pos g1,show abH v=v.2 from if_pos g1];refine r_c 5 (cb v.1) ?_;refine o_0 (.bin rfl rfl (vT dc (decide_eq_true (sg_geA.2 g1)))) ?_;refine a_z ?_;refine cT (r_z 2 ?_);exact an (c_e (bK _ _));refine r_c 5 (cb v.1) ?_;refine o_0 (.bin rfl rfl (vF dc (decide_eq_false (λe=>g1 (sg_geA.1 e))))) ?_;refine a_z ?_;refine cF ?_;by_cases g2:v.2<=0;rw[show abL v= -v.2 from(if_neg g1).trans (if_pos g2),show abH v= -v.1 from(if_neg g1).trans (if_pos g2)];refine r_c 5 (cb v.2) ?_;refine o_0 (.bin rfl rfl (vT cO (decide_eq_true (sg_leA.2 g2)))) ?_;refine a_z ?_;refine cT (r_c 3 (fs_aNeg v.1 v.2) ?_);refine a_z ?_;exact an (c_e (bK _ _));rw[show abL v=0 from(if_neg g1).trans (if_neg g2),show abH v=oc [-v.1,v.2] from(if_neg g1).trans (if_neg g2)];refine r_c 5 (cb v.2) ?_;refine o_0 (.bin rfl rfl (vF cO (decide_eq_false (λe=>g2 (sg_leA.1 e))))) ?_;refine a_z ?_;refine cF (am ?_);have hm:=uA [-v.1,v.2] (mY (by unfold sm;rw[ij];exact h1) h2) ψ;refine ac (r_d hmix 10 ?_);refine c_s (jG v.1) ?_;refine a_3 ?_;refine o_1 (.callS1 rfl rfl rfl (.shut rfl d_n (.nil)) rfl (hm)) ?_;refine a_2 ?_;refine ao (n_k ?_);refine an ?_;rw[show spC 0 (oc [-v.1,v.2])=[.arr [],bln false,.arr []]++qC (oc [-v.1,v.2]) from by unfold spC;rw[qC0]];refine Fin.cell rfl rfl rfl TG.h TS.h (nle rfl) ?_
 exact Cv.agg (af (Cv.emp _) (af (ah aE (ag _)) (af (Cv.emp _) (CvL.clo aE (bo _)))))
def abS(v:Sp):Sp:=(abL v,abH v)
theorem ux(v:Sp)(h:smS v):FS 198 [.agg (spC v.1 v.2)] (.agg (spC (abS v).1 (abS v).2)):=by
 have ha:=fs_aAbs v h.1 h.2;refine f_c Tryz.func198 ?_;refine r_z 2 ?_;refine r_c 3 (ha) ?_;refine a_z ?_;exact an (c_e (bK _ _))
def joS(o t:Sp):Sp:=(oc [o.1,t.1],oc [o.2,t.2])
theorem CS(o t:Sp)(h1:smS o)(h2:smS t):XSpec Tryz.prog 200 [.agg (spC t.1 t.2),.lptr 0 0 0] [(0,some ⟨44,6,[spC o.1 o.2]⟩)] 1 (.tup []) [(0,some ⟨44,6,[spC (joS o t).1 (joS o t).2]⟩)] 1:=by
 have m1:=uA [o.1,t.1] (mY h1.1 h2.1) ψ;have m2:=uA [o.2,t.2] (mY h1.2 h2.2) ψ;refine XSpec.enter0 Tryz.func200 rfl κ rfl rfl rfl rfl ?_;refine r_z 1 ?_;refine r_d hmix 14 ?_;refine a_5 ?_;refine o_1 (.callS1 rfl rfl rfl (.shut rfl d_n (.nil)) rfl (m1)) ?_;refine a_5 ?_;refine o_1 (.callS1 rfl rfl rfl (.shut rfl d_n (.nil)) rfl (m2)) ?_;refine a_2 ?_;refine ao (n_k ?_);refine FinX0.norm ?_;exact s_f []
def dsH(o:Sp):Hp:=[(0,some ⟨44,6,[spC o.1 o.2]⟩)]
def dsX(o:Sp):Hp:=[(0,some ⟨44,6,[spC o.1 o.2]⟩),(1,some ⟨44,6,[zC++zC]⟩)]
theorem sV(o:Sp):∀i,1<=i->au (dsH o) i=none:=λi hi=>by
 unfold dsH;rw[bh (show 0≠i by omega)];rfl
theorem DU(o:Sp):∀i,i< 1->au (dsH o) i=au (dsX o) i:=λi hi=>by
 match i,hi with
 |0,_=>rfl
theorem HH(o:Sp){H:Nat->Prop}:∀i B,au (dsH o) i=some B->B.sz≠0/\∀e∈B.es,∀c∈e,Top H c:=λi B h=>by
 have hm:=da h;unfold dsH at hm;simp only[List.mem_cons,Prod.mk.injEq,List.not_mem_nil,or_false] at hm;obtain⟨rfl,hB⟩:=hm;cases hB;refine⟨ψ,λe he c hc=> .clo ?_⟩;rw[List.mem_singleton.1 he] at hc;exact cu _ _ c hc
theorem HJ(o:Sp){H:Nat->Prop}:∀i B,1<=i->au (dsX o) i=some B->B.sz≠0/\∀e∈B.es,∀c∈e,Top H c:=λi B hi h=>by
 have hm:=da h;unfold dsX at hm;simp only[List.mem_cons,Prod.mk.injEq,List.not_mem_nil,or_false] at hm;rcases hm with⟨rfl,_⟩|⟨rfl,hB⟩
 omega;cases hB;refine⟨ψ,λe he c hc=> .clo ?_⟩;rw[List.mem_singleton.1 he] at hc;exact cL b7 b7 c hc
theorem HI(o o':Sp):∀i,au (dsX o') i=if i< 1 then au (dsH o') i else au (dsX o) i:=λi=>by
 match i with
 |0=>rfl
 |1=>rfl
 |i+2=>
  rw[if_neg ω];unfold dsX;rw[bh (show 0≠i+2 by omega),bh (show 1≠i+2 by omega),bh (show 0≠i+2 by omega),bh (show 1≠i+2 by omega)]
theorem HK(o t:Sp):∀x∈([.agg (spC t.1 t.2)]++[.lptr 0 0 0]:La),Top (λj=>j< 1/\(au (dsH o) j).isSome=true) x:=λx hx=>by
 simp only[List.cons_append,List.nil_append,List.mem_cons,List.not_mem_nil,or_false] at hx;rcases hx with rfl|rfl
 exact .clo (aN (cu _ _));exact .ptr ⟨δ,rfl⟩
theorem mX{v:Sp}(h:smS v):smS (abS v):=by
 have n1:sm (-v.1):=by unfold sm;rw[ij];exact h.1
 have n2:sm (-v.2):=by unfold sm;rw[ij];exact h.2
 have z:sm 0:=δ
 constructor;show sm (abL v);unfold abL;split;exact h.1;split;exact n2;exact z;show sm (abH v);unfold abH;split;exact h.2;split;exact n1;exact iw (mY n1 h.2)
theorem C6{o t:Sp}(h1:smS o)(h2:smS t):smS (joS o t):=⟨iw (mY h1.1 h2.1),iw (mY h1.2 h2.2)⟩
def dsM(o:Sp)(v:Nat->Sp):Nat->Sp
 |0=>o
 |j+1=>joS (dsM o v j) (abS (v j))
abbrev dsC:AV:= .clos 200 [] [.lptr 0 0 0]
def dsS(g:Lq)(s:Sp)(k:Int)(R:Lc)(m:Nat):Nat×Sp->AState
 |(j,o)=>⟨[(0,.arr (pE g)),(2,i64 k),(4,bS s),(6,.lptr 1 0 0),(7,.lptr 0 0 0),(8,dsC),(32,.arr R),(33,i64 m),(34,i64 j)],dsX o,2,51⟩
theorem z8 (f:Nat) (g:Lq) (s:Sp) (c:Cnt) (m:Nat) (k:Int) (v:Nat->Sp) (a b:Sp) (t:Turn f g s c m) (hm:m<=1000) (e1:ea g s.1) (e2:ea g s.2) (q1:sm (aO g s.1)) (q2:sm (aO g s.2)) (ha:a=(gQ (aO g s.1) (wi k 256),upQ (aO g s.1) (wi k 256))) (hb:b=(gQ (aO g s.2) (wi k 256),upQ (aO g s.2) (wi k 256))) (a1:smS a) (b1:smS b)
    (hv:∀j:Nat,j< m->smS (v j)/\FS 201 [roA c.p (cG c s.1+(j:Int)),.arr (pE g),i64 k] (.tup [.agg (spC (v j).1 (v j).2),i64 0])):
    FS 150 [.arr (pE g),.agg (spC s.1 s.2),i64 k] (.agg (spC (dsM (joS (abS a) (abS b)) v m).1 (dsM (joS (abS a) (abS b)) v m).2)):=by
 have hE1:=e8 g s.1 e1;have hE2:=e8 g s.2 e2;have hS1:=Ah (aO g s.1) k q1;have hS2:=Ah (aO g s.2) k q2;rw[show gQ (aO g s.1) (wi k 256)=a.1 by rw[ha],show upQ (aO g s.1) (wi k 256)=a.2 by rw[ha]] at hS1;rw[show gQ (aO g s.2) (wi k 256)=b.1 by rw[hb],show upQ (aO g s.2) (wi k 256)=b.2 by rw[hb]] at hS2;have hz1:=ux a a1;have hz2:=ux b b1;have htu:=zP t;obtain⟨R,hR⟩:∃R,R=roE c.p (cG c s.1) m:=⟨_,rfl⟩;have hRl:R.length=m:=by rw[hR];simp
 have hRc:Closed (.arr R):=by rw[hR];exact aU (fZ _ _ _)
 have hRg:∀j,j< m->∀e,e=j->R[e]?=some [.arr (pE c.p),i64 (cG c s.1+(j:Int))]:=λj hj e he=>by rw[hR,he];exact Di hj
 rw[<-hR] at htu
 have hsD:∀j,j<=m->smS (dsM (joS (abS a) (abS b)) v j):=λj=>by
  induction j with
  |zero=>exact λ_=>C6 (mX a1) (mX b1)
  |succ j ih=>exact λhj=>C6 (ih ω) (mX (hv j ω).1)
 refine f_c Tryz.func150 ?_;refine r_z 2 ?_;refine r_c 9 (hE1) ?_;refine c_s (hS1) ?_;refine c_s (hz1) ?_;refine a_z ?_;refine AWp.pinned (st':=⟨[(0,.arr (pE g)),(2,i64 k),(4,bS s),(6,.lptr 1 0 0),(7,.lptr 0 0 0)],dsX (abS a),2,51⟩) ?_ ?_;refine SEntP.to [(0,7),(1,6)] rfl rfl (ShrL.cons rfl rfl rfl rfl rfl (ShrL.cons rfl rfl rfl rfl rfl ShrL.nil)) (λhs=>aj rfl (ah hs (aq _)) (aj rfl (ah hs (ag _)) (aj rfl (Cv.boxp hs rfl (aP rfl) rfl (cu _ _)) (aj rfl (Cv.ptr rfl rfl rfl) (aj rfl (Cv.ptr rfl rfl rfl) aF))))) (λhs=>?_);exact bw rfl rfl rfl rfl (ay (CvL.clo hs (cu _ _))) (bw rfl rfl rfl rfl (ay (CvL.clo hs (cL b7 b7))) aD);refine r_z 2 ?_;refine ac (AWp.regF (fr2:=[(21,dsC),(28,.agg (spC (abS b).1 (abS b).2)),(0,.arr (pE g)),(2,i64 k),(4,bS s),(6,.lptr 1 0 0),(7,.lptr 0 0 0),(8,dsC)]) (hp2:=dsX (abS a)) (nx2:=2) (k:=1) (hpc:=dsH (abS a)) (hpd:=dsH (joS (abS a) (abS b))) (hp3:=dsX (joS (abS a) (abS b))) (fr3:=[(0,.arr (pE g)),(2,i64 k),(4,bS s),(6,.lptr 1 0 0),(7,.lptr 0 0 0),(8,dsC)]) 8 rfl rfl rfl rfl rfl ?_ (λd h=>by cases h;rfl) rfl rfl (CS _ _ (mX a1) (mX b1)) δ (Nat.le_refl _) (HK _ _) (DU _) (sV _) (HH _) (HJ _) (HI _ _) (sV _) rfl rfl ?_ ?_);refine o_0 (.move rfl) ?_;refine o_0 (.move rfl) ?_
 first|refine av (.fieldAddr_l rfl TF.h δ) rfl rfl ?_|refine av (.fieldAddr_a rfl TF.h δ) rfl rfl ?_
 first|refine av (.load_l rfl rfl rfl TG.h TS.h (nle rfl)) rfl rfl ?_|refine av (.load_a rfl rfl TG.h TS.h (nle rfl)) rfl rfl ?_
 refine o_0 (.call rfl rfl rfl (hE2)) ?_;refine o_0 (.move rfl) ?_;refine o_0 (.call rfl rfl rfl (hS2)) ?_;refine o_0 (.call rfl rfl rfl (hz2)) ?_;refine ao ?_;refine SEntT.to [] rfl rfl rfl (ShrL.cons rfl rfl rfl rfl rfl (ShrL.cons rfl rfl rfl rfl rfl ShrL.nil)) (λhs=>?_) (λhs=>bw rfl rfl rfl rfl (ay (CvL.clo hs (cu _ _))) (bw rfl rfl rfl rfl (ay (CvL.clo hs (cL b7 b7))) aD));exact aj rfl (Cv.clos ax (af (Cv.ptr rfl rfl rfl) ax)) (aj rfl (ah hs (bK _ _)) (aj rfl (ah hs (aq _)) (aj rfl (ah hs (ag _)) (aj rfl (ah hs (bU _)) (aj rfl (Cv.ptr rfl rfl rfl) (aj rfl (Cv.ptr rfl rfl rfl) (aj rfl (Cv.clos ax (af (Cv.ptr rfl rfl rfl) ax)) aF)))))));intro t x hx;have hm:=look_mem' hx;simp only[List.mem_cons,Prod.mk.injEq,List.not_mem_nil,or_false] at hm;rcases hm with⟨rfl,rfl⟩|⟨rfl,rfl⟩|⟨rfl,rfl⟩|⟨rfl,rfl⟩|⟨rfl,rfl⟩|⟨rfl,rfl⟩
 exact⟨rfl,.clo (aq _)⟩;exact⟨rfl,.clo (ag _)⟩;exact⟨rfl,.clo (bU _)⟩;exact⟨rfl,.ptr (.inr (Nat.le_refl _))⟩;exact⟨rfl,.ptr (.inl rfl)⟩;exact⟨rfl,.cl (.inl rfl)⟩;refine ao ?_;refine ac (r_c 5 (htu) ?_);refine a_z ?_;have hlenR:((R.length:Nat):Int)=(m:Int):=by rw[hRl]
 refine aG (λ_:Unit=>⟨[(6,.lptr 1 0 0),(7,.lptr 0 0 0)],dsX (dsM (joS (abS a) (abS b)) v m),2,51⟩) (λ_=>True) ?_ ?_
 ·refine ak (aC (dsS g s k R m) (λx=>m- x.1) (λx=>x.1<=m/\x.2=dsM (joS (abS a) (abS b)) v x.1) (0,joS (abS a) (abS b)) ⟨Nat.zero_le _,rfl⟩ ?_ ?_)
  rw[dsS.eq_1];refine dn [] rfl rfl rfl (ShrL.cons rfl rfl rfl rfl rfl (ShrL.cons rfl rfl rfl rfl rfl ShrL.nil)) (λhs=>aj rfl (ah hs (aq _)) (aj rfl (ah hs (ag _)) (aj rfl (ah hs (bU _)) (aj rfl (Cv.ptr rfl rfl rfl) (aj rfl (Cv.ptr rfl rfl rfl) (aj rfl (Cv.clos ax (af (Cv.ptr rfl rfl rfl) ax)) (aj rfl (ah hs hRc) (aj rfl (Cv.loE hs (by simp[i64,hRl]) (ag _)) (aj rfl (Cv.loE hs (by first|rfl|simp[i64]) (ag _)) aF))))))))) (λhs=>bw rfl rfl rfl rfl (ay (CvL.clo hs (cu _ _))) (bw rfl rfl rfl rfl (ay (CvL.clo hs (cL b7 b7))) aD));rintro⟨j,o⟩ ⟨hj,ho⟩;simp only at hj ho;rw[dsS.eq_1];by_cases hlt:j< m;rotate_left;have hge:j=m:=ω
  subst hge;refine q_z 1 ?_;refine ac (cF (aB ⟨(),trivial,?_⟩));rw[ho];refine dn [] rfl rfl rfl (ShrL.cons rfl rfl rfl rfl rfl (ShrL.cons rfl rfl rfl rfl rfl ShrL.nil)) (λhs=>aj rfl (Cv.ptr rfl rfl rfl) (aj rfl (Cv.ptr rfl rfl rfl) aF)) (λhs=>bw rfl rfl rfl rfl (ay (CvL.clo hs (cu _ _))) (bw rfl rfl rfl rfl (ay (CvL.clo hs (cL b7 b7))) aD));refine q_z 1 ?_;refine ac (cT (am ?_));obtain⟨v1,v2⟩:=hv j hlt;have hzj:=ux (v j) v1;have hoS:smS o:=by rw[ho];exact hsD j ω
  have hcR:∀c'∈([.arr (pE c.p),i64 (cG c s.1+(j:Int))]:La),Closed c':=ae (aq _) (ae (ag _) ai);refine ac (ak (s_r 4 ?_))
  first|refine av (.index_l rfl rfl ω ω te_204.h) rfl rfl ?_|refine av (.index_a rfl rfl ω (hRg j hlt _ ω) rfl te_204.h) rfl rfl ?_
  first|refine av (.load_l rfl rfl (hRg j hlt _ ω) TG.h TS.h (nle rfl)) rfl rfl ?_|refine av (.load_a rfl (hRg j hlt _ ω) TG.h TS.h (nle rfl)) rfl rfl ?_
  refine a_z ?_;refine r_c 10 (v2) ?_;refine a_z ?_;refine AWp.regF (fr2:=[(45,dsC),(47,.agg (spC (abS (v j)).1 (abS (v j)).2)),(0,.arr (pE g)),(2,i64 k),(4,bS s),(6,.lptr 1 0 0),(7,.lptr 0 0 0),(8,dsC),(32,.arr R),(33,i64 m),(34,i64 j)]) (hp2:=dsX o) (nx2:=2) (k:=1) (hpc:=dsH o) (hpd:=dsH (joS o (abS (v j)))) (hp3:=dsX (joS o (abS (v j)))) (fr3:=[(0,.arr (pE g)),(2,i64 k),(4,bS s),(6,.lptr 1 0 0),(7,.lptr 0 0 0),(8,dsC),(32,.arr R),(33,i64 m),(34,i64 j)]) 3 rfl rfl rfl rfl rfl ?_ (λd h=>by cases h;rfl) rfl rfl (CS _ _ hoS (mX v1)) δ (Nat.le_refl _) (HK _ _) (DU _) (sV _) (HH _) (HJ _) (HI _ _) (sV _) rfl rfl ?_ ?_;refine o_0 (.move rfl) ?_
  first|refine av (.load_l rfl rfl rfl TG.h TS.h (nle rfl)) rfl rfl ?_|refine av (.load_a rfl rfl TG.h TS.h (nle rfl)) rfl rfl ?_
  refine o_0 (.call rfl rfl rfl (hzj)) ?_;refine ao ?_;refine SEntT.to [] rfl rfl rfl (ShrL.cons rfl rfl rfl rfl rfl (ShrL.cons rfl rfl rfl rfl rfl ShrL.nil)) (λhs=>aj rfl (Cv.clos ax (af (Cv.ptr rfl rfl rfl) ax)) (aj rfl (ah hs (bK _ _)) (aj rfl (ah hs (aq _)) (aj rfl (ah hs (ag _)) (aj rfl (ah hs (bU _)) (aj rfl (Cv.ptr rfl rfl rfl) (aj rfl (Cv.ptr rfl rfl rfl) (aj rfl (Cv.clos ax (af (Cv.ptr rfl rfl rfl) ax)) (aj rfl (ah hs hRc) (aj rfl (ah hs (ag _)) (aj rfl (ah hs (ag _)) aF))))))))))) (λhs=>bw rfl rfl rfl rfl (ay (CvL.clo hs (cu _ _))) (bw rfl rfl rfl rfl (ay (CvL.clo hs (cL b7 b7))) aD));intro t x hx;have hm:=look_mem' hx;simp only[List.mem_cons,Prod.mk.injEq,List.not_mem_nil,or_false] at hm;rcases hm with⟨rfl,rfl⟩|⟨rfl,rfl⟩|⟨rfl,rfl⟩|⟨rfl,rfl⟩|⟨rfl,rfl⟩|⟨rfl,rfl⟩|⟨rfl,rfl⟩|⟨rfl,rfl⟩|⟨rfl,rfl⟩
  exact⟨rfl,.clo (aq _)⟩;exact⟨rfl,.clo (ag _)⟩;exact⟨rfl,.clo (bU _)⟩;exact⟨rfl,.ptr (.inr (Nat.le_refl _))⟩;exact⟨rfl,.ptr (.inl rfl)⟩;exact⟨rfl,.cl (.inl rfl)⟩;exact⟨rfl,.clo hRc⟩;exact⟨rfl,.clo (ag _)⟩;exact⟨rfl,.clo (ag _)⟩;refine ao ?_;refine r_m 2 ?_;refine a_z ?_;refine⟨(j+1,joS o (abS (v j))),by simp only;omega,⟨hlt,by simp only;rw[dsM,<-ho]⟩,?_⟩;rw[dsS.eq_1];refine dn [] rfl rfl rfl (ShrL.cons rfl rfl rfl rfl rfl (ShrL.cons rfl rfl rfl rfl rfl ShrL.nil)) (λhs=>aj rfl (ah hs (aq _)) (aj rfl (ah hs (ag _)) (aj rfl (ah hs (bU _)) (aj rfl (Cv.ptr rfl rfl rfl) (aj rfl (Cv.ptr rfl rfl rfl) (aj rfl (Cv.clos ax (af (Cv.ptr rfl rfl rfl) ax)) (aj rfl (ah hs hRc) (aj rfl (ah hs (ag _)) (aj rfl (Cv.loE hs (by first|rfl|simp[i64]) (ag _)) aF))))))))) (λhs=>bw rfl rfl rfl rfl (ay (CvL.clo hs (cu _ _))) (bw rfl rfl rfl rfl (ay (CvL.clo hs (cL b7 b7))) aD))
 rintro _ _;refine r_z 2 ?_;refine AWp.ent (st':=⟨[(6,.lptr 1 0 0)],[(1,some ⟨44,6,[spC (dsM (joS (abS a) (abS b)) v m).1 (dsM (joS (abS a) (abS b)) v m).2]⟩)],2,51⟩) ?_ ?_;exact s_f [];refine an ⟨rfl,?_⟩;exact c_e (bK _ _)
theorem wi_nat{k m:Nat}(h:k<=m):wi (k:Int) m=k:=by unfold wi;omega
def fnS(x:Rat):Nat->AState
 |k=>⟨[(1,bQ x),(3,i64 k)],[],1,16⟩
theorem Hr(x:Rat)(K:Nat)(hK:K<=256)(h:∀j,j< K->x< cw j)(hx:cw K<=x)(hs:sm x)(hf:∀j,j< K+1->sm (cw j)):FS 151 [.agg (qC x)] (i64 K):=by
 refine f_c Tryz.func151 ?_;refine r_z 2 ?_;refine r_z 1 ?_;refine bi (λ_:Unit=>⟨[(3,i64 K)],[],1,16⟩) (λ_=>True) ?_ ?_;refine ak (aC (fnS x) (λk=>K- k) (λk=>k<=K) 0 (Nat.zero_le _) ?_ ?_);rw[fnS.eq_1];exact s_e [];intro k hk;rw[fnS.eq_1];have hfi:=jk (k:Int);rw[wi_nat (show k<=256 by omega)] at hfi;have hcm:=ej (cw k) x (hf k ω) hs;by_cases hlt:k< K;refine ac (ac (r_d hmix 9 ?_));refine c_s (hfi) ?_;refine c_s (hcm) ?_;refine o_0 (.bin rfl rfl (vT ct (decide_eq_true (cq_gt.2 (h k hlt))))) ?_;refine d_4 ?_;refine ao (n_k ?_);refine cT (am (ak (r_m 3 ?_)));refine a_z ?_;refine⟨k+1,ω,ω,?_⟩;rw[fnS.eq_1];exact s_e [];have hge:k=K:=ω
 subst hge;have hn:¬0< dr (cw k) x:=λe=>by have:=cq_gt.1 e;grind
 refine ac (ac (r_d hmix 9 ?_));refine c_s (hfi) ?_;refine c_s (hcm) ?_;refine d_5 ?_;refine ao (n_k ?_);refine cF (aB ⟨(),trivial,?_⟩);exact s_e [];rintro _ _;refine r_z 2 ?_;exact an (t_e (ag _))
theorem fs_aHas(a b x:Rat)(ha:sm a)(hb:sm b)(hx:sm x)(h:a<=x/\x<=b):FS 103 [.agg (spC a b),.agg (qC x)] (bln true):=by
 have c1:=ej a x ha hx;have c2:=ej x b hx hb
 have e1:dr a x<=0:=by
  have:¬0< dr a x:=λe=>by have:=cq_gt.1 e;grind
  omega
 have e2:dr x b<=0:=by
  have:¬0< dr x b:=λe=>by have:=cq_gt.1 e;grind
  omega
 refine f_c Tryz.func103 ?_;refine r_z 3 ?_;refine r_c 13 (c1) ?_;refine e_s (c2) ?_;refine d_z ?_;exact an (t_e (ag _))
def wtS(g:Lq)(s:Sp)(z:Rat):Nat->AState
 |i=>⟨[(0,.arr (pE g)),(4,bS s),(5,bQ z),(19,.arr (pE [s.1,s.2])),(20,i64 2),(21,i64 i)],[],1,66⟩
def wrS(g:Lq)(z:Rat)(R:Lc)(m:Nat):Nat->AState
 |j=>⟨[(0,.arr (pE g)),(5,bQ z),(35,.arr R),(36,i64 m),(37,i64 j)],[],1,66⟩
theorem BV(g:Lq)(s:Sp)(z:Rat)(e1:ea g s.1)(e2:ea g s.2)(q1:sm (aO g s.1))(q2:sm (aO g s.2))(hz:sm z)(h1:c8 (aO g s.1)<=z)(h2:z< c8 (aO g s.2)):FS 101 [.arr (pE g),.agg (spC s.1 s.2),.agg (qC z)] (bln false):=by
 have hE1:=e8 g s.1 e1;have hE2:=e8 g s.2 e2;have hA1:=eY (aO g s.1);have hA2:=eY (aO g s.2);have hC1:=ej (c8 (aO g s.1)) z (by unfold sm;rw[qs_abs];exact q1) hz;have hC2:=ej (c8 (aO g s.2)) z (by unfold sm;rw[qs_abs];exact q2) hz;have n1:¬0< dr (c8 (aO g s.1)) z:=λe=>by have:=cq_gt.1 e;grind
 have hg0:∀e:Nat,e=0->(pE [s.1,s.2])[e]?=some (qC s.1):=λe he=>by rw[he];rfl
 have hg1:∀e:Nat,e=1->(pE [s.1,s.2])[e]?=some (qC s.2):=λe he=>by rw[he];rfl
 refine f_c Tryz.func101 ?_;refine r_z 3 ?_;refine ac (r_z 7 ?_);refine aG (λ_:Unit=>⟨[],[],1,66⟩) (λ_=>False) ?_ (λ_ h=>h.elim);refine ak (aC (wtS g s z) (λi=>2- i) (λi=>i<=1) 0 δ ?_ ?_);rw[wtS.eq_1];exact s_x [] (λhs=>e_56) (λhs=>e_57);intro i hi;rw[wtS.eq_1];refine q_z 1 ?_;refine ac (cT (am (ac (ak ?_))));by_cases h0:i=0;refine s_r 4 ?_
 first|refine av (.index_l rfl rfl ω ω te_29.h) rfl rfl ?_|refine av (.index_a rfl rfl ω (hg0 _ ω) rfl te_29.h) rfl rfl ?_
 first|refine av (.load_l rfl rfl (hg0 _ ω) TG.h TS.h (nle rfl)) rfl rfl ?_|refine av (.load_a rfl (hg0 _ ω) TG.h TS.h (nle rfl)) rfl rfl ?_
 refine a_z ?_;refine ac (r_d hmix 7 ?_);refine c_s (hE1) ?_;refine c_s (hA1) ?_;refine c_s (hC1) ?_;refine m_1 ?_;refine ao (n_k ?_);refine cF (am (r_m 2 ?_));refine a_z ?_;refine⟨i+1,ω,ω,?_⟩;rw[wtS.eq_1];exact s_x [] (λhs=>e_13) (λhs=>e_14);refine s_r 4 ?_
 first|refine av (.index_l rfl rfl ω ω te_29.h) rfl rfl ?_|refine av (.index_a rfl rfl ω (hg1 _ ω) rfl te_29.h) rfl rfl ?_
 first|refine av (.load_l rfl rfl (hg1 _ ω) TG.h TS.h (nle rfl)) rfl rfl ?_|refine av (.load_a rfl (hg1 _ ω) TG.h TS.h (nle rfl)) rfl rfl ?_
 refine a_z ?_;refine ac (r_d hmix 7 ?_);refine c_s (hE2) ?_;refine c_s (hA2) ?_;refine c_s (hC2) ?_;refine o_0 (.bin rfl rfl (vT ct (decide_eq_true (cq_gt.2 h2)))) ?_;refine ao (n_k ?_);refine cT (r_z 1 ?_);exact an (t_e (ag _))
theorem BU (f:Nat) (g:Lq) (s:Sp) (c:Cnt) (m:Nat) (z:Rat) (t:Turn f g s c m) (hm:m<=1000) (e1:ea g s.1) (e2:ea g s.2) (q1:sm (aO g s.1)) (q2:sm (aO g s.2)) (hz:sm z) (h1:c8 (aO g s.1)<=z) (h2:c8 (aO g s.2)<=z)
    (hr:∀j:Nat,j< m->∃r1 r2:Int,FS 162 [roA c.p (cG c s.1+(j:Int)),.arr (pE (gz g [z]))] (.tup [i64 r1,i64 0])/\FS 162 [roA c.p (cG c s.1+(j:Int)),.arr (pE (lR g [z]))] (.tup [i64 r2,i64 0])/\r1<=0/\0<=r2):
    FS 101 [.arr (pE g),.agg (spC s.1 s.2),.agg (qC z)] (bln true):=by
 have hE1:=e8 g s.1 e1;have hE2:=e8 g s.2 e2;have hA1:=eY (aO g s.1);have hA2:=eY (aO g s.2);have hC1:=ej (c8 (aO g s.1)) z (by unfold sm;rw[qs_abs];exact q1) hz;have hC2:=ej (c8 (aO g s.2)) z (by unfold sm;rw[qs_abs];exact q2) hz;have n1:¬0< dr (c8 (aO g s.1)) z:=λe=>by have:=cq_gt.1 e;grind
 have n2:¬0< dr (c8 (aO g s.2)) z:=λe=>by have:=cq_gt.1 e;grind
 have hg0:∀e:Nat,e=0->(pE [s.1,s.2])[e]?=some (qC s.1):=λe he=>by rw[he];rfl
 have hg1:∀e:Nat,e=1->(pE [s.1,s.2])[e]?=some (qC s.2):=λe he=>by rw[he];rfl
 have hgl:=t.gl;have hzl:smL [z]:=λq hq=>by rw[List.mem_singleton.1 hq];exact hz
 have hsu:=oi g [z] t.gs hzl ω ψ;have had:=uB g [z] t.gs hzl ω ψ;have htu:=zP t;obtain⟨R,hR⟩:∃R,R=roE c.p (cG c s.1) m:=⟨_,rfl⟩;have hRl:R.length=m:=by rw[hR];simp
 have hRc:Closed (.arr R):=by rw[hR];exact aU (fZ _ _ _)
 have hRg:∀j,j< m->∀e,e=j->R[e]?=some [.arr (pE c.p),i64 (cG c s.1+(j:Int))]:=λj hj e he=>by rw[hR,he];exact Di hj
 rw[<-hR] at htu;refine f_c Tryz.func101 ?_;refine r_z 3 ?_;refine ac (r_z 7 ?_);refine aG (λ_:Unit=>⟨[(0,.arr (pE g)),(4,bS s),(5,bQ z)],[],1,66⟩) (λ_=>True) ?_ ?_;refine ak (aC (wtS g s z) (λi=>3- i) (λi=>i<=2) 0 δ ?_ ?_);rw[wtS.eq_1];exact s_x [] (λhs=>e_56) (λhs=>e_57);intro i hi;rw[wtS.eq_1];by_cases h9:i=2;refine q_z 1 ?_;refine ac (cF (aB ⟨(),trivial,?_⟩));exact s_x [] (λhs=>e_13) (λhs=>e_14);refine q_z 1 ?_;refine ac (cT (am (ac (ak ?_))));by_cases h0:i=0;refine s_r 4 ?_
 first|refine av (.index_l rfl rfl ω ω te_29.h) rfl rfl ?_|refine av (.index_a rfl rfl ω (hg0 _ ω) rfl te_29.h) rfl rfl ?_
 first|refine av (.load_l rfl rfl (hg0 _ ω) TG.h TS.h (nle rfl)) rfl rfl ?_|refine av (.load_a rfl (hg0 _ ω) TG.h TS.h (nle rfl)) rfl rfl ?_
 refine a_z ?_;refine ac (r_d hmix 7 ?_);refine c_s (hE1) ?_;refine c_s (hA1) ?_;refine c_s (hC1) ?_;refine m_1 ?_;refine ao (n_k ?_);refine cF (am (r_m 2 ?_));refine a_z ?_;refine⟨i+1,ω,ω,?_⟩;rw[wtS.eq_1];exact s_x [] (λhs=>e_13) (λhs=>e_14);refine s_r 4 ?_
 first|refine av (.index_l rfl rfl ω ω te_29.h) rfl rfl ?_|refine av (.index_a rfl rfl ω (hg1 _ ω) rfl te_29.h) rfl rfl ?_
 first|refine av (.load_l rfl rfl (hg1 _ ω) TG.h TS.h (nle rfl)) rfl rfl ?_|refine av (.load_a rfl (hg1 _ ω) TG.h TS.h (nle rfl)) rfl rfl ?_
 refine a_z ?_;refine ac (r_d hmix 7 ?_);refine c_s (hE2) ?_;refine c_s (hA2) ?_;refine c_s (hC2) ?_;refine m_1 ?_;refine ao (n_k ?_);refine cF (am (r_m 2 ?_));refine a_z ?_;refine⟨i+1,ω,ω,?_⟩;rw[wtS.eq_1];exact s_x [] (λhs=>e_13) (λhs=>e_14);rintro _ _;refine ac (r_c 5 (htu) ?_);refine a_z ?_;refine aG (λ_:Unit=>⟨[],[],1,66⟩) (λ_=>True) ?_ ?_;refine ak (aC (wrS g z R m) (λi=>m- i) (λi=>i<=m) 0 (Nat.zero_le _) ?_ ?_);rw[wrS.eq_1];refine s_x [] (λhs=>?_) (λhs=>?_)
 ·repeat' (first|exact aF|refine aj rfl ?_ ?_|exact ah hs (aT z)|exact ah hs hRc|(refine Cv.loE hs ?_ (ag _);simp[i64,hRl];done)|exact aX)
 ·repeat' (first|exact aD|refine h_c ?_ ?_|exact bG|refine ay ?_|exact ax|refine af ?_ ?_|exact ah hs (aT z)|exact ah hs hRc|(refine Cv.loE hs ?_ (ag _);simp[i64,hRl];done)|exact aX)
 intro j hj;rw[wrS.eq_1];by_cases hlt:j< m;obtain⟨r1,r2,s1,s2,s3,s4⟩:=hr j hlt;have hcR:∀c'∈([.arr (pE c.p),i64 (cG c s.1+(j:Int))]:La),Closed c':=ae (aq _) (ae (ag _) ai);refine q_z 1 ?_;refine ac (cT (am (ac (ak (s_r 4 ?_)))))
 first|refine av (.index_l rfl rfl ω ω te_204.h) rfl rfl ?_|refine av (.index_a rfl rfl ω (hRg j hlt _ ω) rfl te_204.h) rfl rfl ?_
 first|refine av (.load_l rfl rfl (hRg j hlt _ ω) TG.h TS.h (nle rfl)) rfl rfl ?_|refine av (.load_a rfl (hRg j hlt _ ω) TG.h TS.h (nle rfl)) rfl rfl ?_
 refine a_z ?_;refine ac (r_d hmix 11 ?_);refine a_4 ?_;refine o_1 (.callS1 rfl rfl rfl (.keep (.shut rfl d_n (.nil))) rfl (hsu)) ?_;refine c_s (s1) ?_;refine a_5 ?_;refine ao (n_k ?_);refine ac (r_d hmix 11 ?_);refine a_4 ?_;refine o_1 (.callS1 rfl rfl rfl (.keep (.shut rfl d_n (.nil))) rfl (had)) ?_;refine c_s (s2) ?_;refine a_5 ?_;refine ao (n_k ?_);refine q_z 6 ?_;refine cF (am (r_m 2 ?_));refine a_z ?_;refine⟨j+1,ω,ω,?_⟩;rw[wrS.eq_1];refine s_x [] (λhs=>?_) (λhs=>?_)
 ·repeat' (first|exact aF|refine aj rfl ?_ ?_|exact ah hs (aT z)|exact ah hs hRc|exact aX)
 ·repeat' (first|exact aD|refine h_c ?_ ?_|exact bG|refine ay ?_|exact ax|refine af ?_ ?_|exact ah hs (aT z)|exact ah hs hRc|exact aX)
 have hge:j=m:=ω
 subst hge;refine q_z 1 ?_;refine ac (cF (aB ⟨(),trivial,?_⟩));exact s_e [];rintro _ _;refine r_z 1 ?_;exact an (t_e (ag _))
end Go.Proofs.YtjgokhkahkmpbaaGreatDoor
