/- Part Z25 of the proof. -/
import Derived.Test.YtjgokhkahkmpbaaGreatDoorZ24
set_option linter.all false
namespace Go.Proofs.YtjgokhkahkmpbaaGreatDoor
open Go.Abs
set_option maxRecDepth 20000
set_option maxHeartbeats 4000000
theorem DC(l:Lq)(h0:l≠[])(hl:l.length≤1099511627776):FS 71 [.arr (pE l)] (.arr (pE l)):=by
 have hne:pE l≠[]:=by
  intro e;exact h0 (List.length_eq_zero_iff.1 (by rw[←l4,e];rfl))
 refine f_c Tryz.func71 ?_;refine r_z 1 ?_;refine ae (s_r 2 ?_);refine a_1 ?_
 first|refine ax (.nilq_v rfl rfl te_29.h) rfl rfl ?_|refine ax (.nilq_arr rfl (hne) rfl te_29.h) rfl rfl ?_
 refine aq ?_;refine cF ?_
 ·refine an (s_r 4 ?_)
  refine a_2 ?_;refine o_2 (.append_l rfl rfl rfl te_29.h rfl rfl rfl rfl rfl d_o (by first|exact dh _|exact df _|exact cL _|exact di _|exact de _|assumption|rfl|simp) (by first|rfl|exact dh _|exact df _|exact cL _|exact di _|exact de _|simp) rfl (.arr (eF _)) TZ.h rfl TB.h d_o (by first|(simp[maxLen];done)|(simp[maxLen];omega))) ?_;refine a_z ?_;exact am (Fin.tmpS rfl rfl rfl (by simp) (aF _))
theorem fs_MulQ(p q:Lq)(o:lD p q):FS 72 [.arr (pE p),.arr (pE q)] (.arr (pE (cV p q))):=
 wB p q (mxL p) (mxL q) (dL p) (dL q) (dy p) (dy q) o.1 o.2.1 o.2.2.1 o.2.2.2
def quC:Nat→Option Nat
 |0=>some 1
 |_+1=>none
def quV(A:Mx):Nat→AV
 |0=> .emp
 |n+1=> .arr (mE ((List.range (n+1)).map fun k=>aL (n+1+1) (A k)))
theorem tR(A:Mx)(n:Nat):Closed (quV A n):=by
 cases n with
 |zero=>exact aN
 |succ n=>exact closed_mA _
def qeS(c:Lq)(A:Mx)(m n:Nat):Nat→AState
 |i=>⟨[(1,i64 m),(2,i64 n),(3,.aptr [[.arr (pE c)]] 0 0),(7,.lsl 1 0 (i+1) (quC i) 3),(84,quV A n),(85,i64 n),(86,i64 i)],[(1,some ⟨42,3,pE (quQ A n i)⟩)],2,116⟩
noncomputable def quEnd:Code:=match quRest with| .seq _ y=>y|_=> .skip
theorem EH (c:Lq) (A:Mx) (m n:Nat) (hn:n≤19) (hm:m≤19) (hl:m+n+1≤c.length) (hc:c.length≤1000) (o:lD (c.take (m+1)) (quD A n)) (Q:Exit→AState→Prop)
    (hQ:Q .ret ⟨[(6,.arr (pE (quN c A m n))),(7,.arr (pE (quD A n))),(8,i64 0)],[],1,116⟩):AWp none Tryz.prog quEnd Q ⟨[(1,i64 m),(2,i64 n),(3,.aptr [[.arr (pE c)]] 0 0),(10,quV A n)],[],1,116⟩:=by
 unfold quEnd;have hi1:=cN 1 (by decide);have hcl:(pE c).length=c.length:=by simp[pE]
 have hlenV:qA (quV A n)=some n:=by
  cases n with
  |zero=>rfl
  |succ n=>show some (mE _).length=_;simp
 refine r_c 3 (hi1) ?_;refine a_z ?_;refine ae (s_r 3 ?_);refine a_1 ?_;refine o_0 (.len rfl rfl rfl rfl hlenV te_117.h) ?_;refine a_z ?_;refine aH (fun _:Unit=>⟨[(1,i64 m),(2,i64 n),(3,.aptr [[.arr (pE c)]] 0 0),(7,.arr (pE (quQ A n n)))],[],1,116⟩) (fun _=>True) ?_ ?_
 ·refine ak (aC (qeS c A m n) (fun i=>n- i) (fun i=>i≤n) 0 (Nat.zero_le _) ?_ ?_)
  rw[qeS.eq_1];have e0:pE (quQ A n 0)=[qC ((1:Int):Rat)]:=by show [qC 1]=_;rw[show((1:Int):Rat)=1 by decide]
  refine s_x [(1,7)] (fun hs=>?_) (fun hs=>?_)
  ·repeat' (first|exact aG|refine aj rfl ?_ ?_|exact ah hs (cC c)|exact ah hs (tR A n)|exact aW)
  ·repeat' (first|exact aD|refine h_c ?_ ?_|exact aI hs e0.symm (aF _)|exact bC|refine aw ?_|exact ay|refine af ?_ ?_|exact ah hs (cC c)|exact ah hs (tR A n)|exact aW)
  intro i hi;rw[qeS.eq_1];have hql:(pE (quQ A n i)).length=i+1:=by simp[quQ]
  by_cases hin:i< n;rotate_left;have hge:i=n:=by omega
  subst hge;refine q_z 1 ?_;refine ae (cF (aB ⟨(),trivial,?_⟩));refine s_x [] (fun hs=>?_) (fun hs=>?_)
  ·repeat' (first|exact aG|refine aj rfl ?_ ?_|exact ah hs (cC c)|(refine Cv.shut hs rfl (aQ rfl) (by simp[quQ]) ?_;exact aI hs (by rw[List.drop_zero];exact List.take_of_length_le (by simp[quQ])) (aF _))|exact aW)
  ·repeat' (first|exact aD|refine h_c ?_ ?_|exact bC|refine aw ?_|exact ay|refine af ?_ ?_|exact ah hs (cC c)|(refine Cv.shut hs rfl (aQ rfl) (by simp[quQ]) ?_;exact aI hs (by rw[List.drop_zero];exact List.take_of_length_le (by simp[quQ])) (aF _))|exact aW)
  obtain⟨n',rfl⟩:∃n',n=n'+1:=⟨n- 1,by omega⟩;have hgr:∀e,e=i→(mE ((List.range (n'+1)).map fun k=>aL (n'+1+1) (A k)))[e]?=some [.arr (pE (aL (n'+1+1) (A i)))]:=E7 (by simp[hin]);have hgc:(pE (aL (n'+1+1) (A i)))[((n'+1:Nat):Int).toNat]?=some (qC (A i (n'+1))):=qY (A i) (by omega) _ (by simp);have hnew:pE (quQ A (n'+1) i)++[qC (A i (n'+1))]=pE (quQ A (n'+1) (i+1)):=by simp[quQ,pE,aL,List.range_succ]
  have hone:=cL (quQ A (n'+1) i);refine q_z 1 ?_;refine ae (cT (an (ae (ak ?_))));simp only[quV];refine s_r 3 ?_
  first|refine ax (.index_l rfl rfl (by omega) (by omega) te_117.h) rfl rfl ?_|refine ax (.index_a rfl rfl (by omega) (hgr _ (by simp)) rfl te_117.h) rfl rfl ?_
  first|refine ax (.load_l1 rfl rfl (hgr _ (by simp)) TG.h rfl) rfl rfl ?_|refine ax (.load_a1 rfl (hgr _ (by simp)) TG.h rfl) rfl rfl ?_
  refine a_z ?_;refine r_m 8 ?_;refine a_3 ?_;refine i_x hgc ?_;refine l_x hgc ?_;refine a_z ?_;refine r_m 2 ?_;refine a_z ?_;refine⟨i+1,by omega,by omega,?_⟩;rw[qeS.eq_1];simp only[quV,quC];refine s_x [(1,7)] (fun hs=>?_) (fun hs=>?_) ?_
  ·repeat' (first|exact aG|refine aj rfl ?_ ?_|exact ah hs (cC c)|exact ah hs (closed_mA _)|exact aW)
  ·repeat' (first|exact aD|refine h_c ?_ ?_|exact aI hs hnew (aF _)|exact bC|refine aw ?_|exact ay|refine af ?_ ?_|exact ah hs (cC c)|exact ah hs (closed_mA _)|exact aW)
  ·repeat' (first|exact ShrL.nil|refine ShrL.cons rfl rfl rfl rfl (by first|(simp[quQ])|rfl|(simp;done)|(simp <;> omega)) ?_)
 rintro _ _;have htr:=cY (quQ A n n) (by simp[quQ];omega);have hml:=fs_MulQ (c.take (m+1)) (quD A n) o;have hck:=DC (c.take (m+1)) (by intro e;have:=congrArg List.length e;rw[List.length_take,List.length_nil] at this;omega) (by rw[List.length_take];omega);obtain⟨w,hw⟩:∃w,w=cV (c.take (m+1)) (quD A n):=⟨_,rfl⟩;rw[←hw] at hml
 have hwl:w.length≤1000:=by
  rw[hw];have h1:(cV (c.take (m+1)) (quD A n)).length≤(c.take (m+1)).length+(quD A n).length:=E4 _ _
  have h2:(quD A n).length≤n+1:=by
   have:=ci (quQ A n n);unfold quD;simp[quQ] at this⊢;omega
  rw[List.length_take] at h1;omega
 have hwp:(pE w).length=w.length:=by simp[pE]
 obtain⟨k,hk⟩:∃k,k=min w.length (m+1):=⟨_,rfl⟩
 have ht:w.take k=w.take (m+1):=by
  rw[hk];by_cases g:w.length≤m+1;rw[Nat.min_eq_left g,List.take_of_length_le (Nat.le_refl _),List.take_of_length_le g];rw[Nat.min_eq_right (by omega)]
 have e:(pE w).take k=pE (w.take (m+1)):=by rw[←ht];simp[pE,List.map_take]
 have ht2:=cY (w.take (m+1)) (by rw[List.length_take];omega);have ec:(pE c).take (m+1)=pE (c.take (m+1)):=by simp[pE,List.map_take]
 refine r_c 3 (htr) ?_;refine a_z ?_;refine s_r 8 ?_;refine a_3 ?_;refine o_0 (.sa_hE (h:=m+1) ec rfl rfl (by simp) (by omega) te_29.h (eF _)) ?_;refine c_s (hck) ?_;refine c_s (hml) ?_;refine a_z ?_;refine s_r 12 ?_;refine a_6 ?_;refine o_0 (.sa_hE (h:=k) e rfl rfl (by rw[hk];split <;> omega) (by omega) te_30.h (eF _)) ?_;refine c_s (ht2) ?_;refine a_z ?_;have eN:quN c A m n=av (w.take (m+1)):=by rw[hw];rfl
 refine AWp.ent (st':=⟨[(6,.arr (pE (quN c A m n))),(7,.arr (pE (quD A n))),(8,i64 0)],[],1,116⟩) ?_ ?_;rw[eN];exact s_f [];exact am hQ
theorem AH:FS 70 [.arr []] (bln true):=by
 refine f_n Tryz.func70 ?_ ?_;exact ac (aP (fun _ h=>by cases h)) ai;refine r_z 1 ?_;refine ae (r_z 3 ?_);refine aH (fun _:Unit=>⟨[(2,bln false)],[],1,118⟩) (fun _=>True) ?_ ?_;refine ak (aC (fun _:Nat=>⟨[(2,bln false),(12,i64 0),(13,i64 0)],[],1,118⟩) (fun _=>0) (fun _=>True) 0 trivial ?_ ?_);exact s_e [];intro i _;refine q_z 1 ?_;refine ae (cF (aB ⟨(),trivial,?_⟩));exact s_e [];rintro _ _;refine r_z 1 ?_;exact am (t_e (ag _))
theorem yG (c:Lq) (m n B:Nat) (hn:n≤19) (hm:m≤19) (hmn:m+n+1≤20) (hl:m+n+1≤c.length) (hc:c.length≤1000) (hfull:n≤(slM (quM c m n) n n).2.length) (hB:B≤100000000000) (hq:∀k,k≤n→∀i j,i< n→j≤n→qs ((slM (quM c m n) n k).1 i j)≤B)
    (o:lD (c.take (m+1)) (quD (slM (quM c m n) n n).1 n)):FS 18 [.arr (pE c),i64 m,i64 n] (.tup [.arr (pE (quN c (slM (quM c m n) n n).1 m n)),.arr (pE (quD (slM (quM c m n) n n).1 n)),i64 0]):=by
 refine qu_rows c m n hn hm hmn hl hc _ ?_
 have hfin:∀(Ap:Lq) (Bp:Lq),Fin Tryz.prog Tryz.f18.results.toList (.tup [.arr (pE Ap),.arr (pE Bp),i64 0]) .ret ⟨[(6,.arr (pE Ap)),(7,.arr (pE Bp)),(8,i64 0)],[],1,116⟩:=fun Ap Bp=>by
  refine Fin.many ⟨_,_,rfl,rfl,⟨_,_,rfl,rfl,⟨_,_,rfl,rfl,rfl⟩⟩⟩ (nle rfl) ?_;exact CvL.clo aE (ac (ao _) (ac (ao _) (ac (ag _) ai)))
 cases n with
 |zero=>
  unfold quRest;simp only[oV];refine ae (r_c 3 (AH) ?_);refine a_z ?_;refine cF (an (AWp.ent (st':=⟨[(1,i64 m),(2,i64 (0:Nat)),(3,.aptr [[.arr (pE c)]] 0 0),(10,quV (slM (quM c m 0) 0 0).1 0)],[],1,116⟩) ?_ (EH c (slM (quM c m 0) 0 0).1 m 0 hn hm hl hc o _ (hfin _ _))));refine s_x [] (fun hs=>?_) (fun hs=>?_)
  ·repeat' (first|exact aG|refine aj rfl ?_ ?_|exact ah hs (cC c)|exact ah hs aN|exact aW)
  ·repeat' (first|exact aD|refine h_c ?_ ?_|exact bC|refine aw ?_|exact ay|refine af ?_ ?_|exact ah hs (cC c)|exact ah hs aN|exact aW)
 |succ n=>
  unfold quRest;refine AWp.pinned (st':=⟨[(1,i64 m),(2,i64 (n+1:Nat)),(3,.aptr [[.arr (pE c)]] 0 0),(10,.lsl 0 0 (n+1) none 1)],rzH 29 42 (fun k=>aL (n+1+1) (quM c m (n+1) k)) (n+1),40,116⟩) ?_ ?_;refine SEntP.rz s01 (by omega) (fun x y=>s01_inj x y) ?_ ?_ ?_;show ap _ 1=_;rw[lI (by omega),iP (R':=fun k=>aL (n+1+1) (quM c m (n+1) k)) (s':=s01)];exact fun k hk=>⟨rfl,(pe (by omega)).symm⟩;intro k hk;rw[pe (by omega)];exact kI (by omega) hk;intro hs;exact aj rfl (ah hs (ag _)) (aj rfl (ah hs (ag _)) (aj rfl (ah hs (cC c)) (aj rfl (Cv.sl rfl rfl rfl) aG)));have hX:=CP (quM c m (n+1)) (n+1) B (by omega) hfull hB hq;obtain⟨A,hA⟩:∃A,A=(slM (quM c m (n+1)) (n+1) (n+1)).1:=⟨_,rfl⟩;rw[←hA] at hX o⊢;refine ae (ae (AWp.regF (fr2:=[(79,.lsl 0 0 (n+1) none 1),(1,i64 m),(2,i64 (n+1:Nat)),(3,.aptr [[.arr (pE c)]] 0 0),(10,.lsl 0 0 (n+1) none 1)]) (hp2:=rzH 29 42 (fun k=>aL (n+1+1) (quM c m (n+1) k)) (n+1)) (nx2:=40) (k:=40) (hpc:=rzH 29 42 (fun k=>aL (n+1+1) (quM c m (n+1) k)) (n+1)) (hpd:=rzH 29 42 (fun k=>aL (n+1+1) (A k)) (n+1)) (hp3:=rzH 29 42 (fun k=>aL (n+1+1) (A k)) (n+1)) (fr3:=[(1,i64 m),(2,i64 (n+1:Nat)),(3,.aptr [[.arr (pE c)]] 0 0),(10,.lsl 0 0 (n+1) none 1)]) 1 rfl rfl rfl rfl rfl ?_ (fun d h=>by cases h;rfl) rfl rfl hX (by decide) (Nat.le_refl _) ?_ (fun i hi=>rfl) (fun i hi=>li (by omega)) (rz_top fun k hk=>⟨by omega,by rw[cP hk];rfl⟩) ?_ ?_ (fun i hi=>li (by omega)) rfl rfl ?_ ?_));refine o_0 (.move rfl) ?_;refine aq ?_
  refine SEntT.rz1 (by omega) cW (fun i hi=>cP hi) fun hs=>?_;exact aj rfl (Cv.sl rfl rfl rfl) (aj rfl (ah hs (ag _)) (aj rfl (ah hs (ag _)) (aj rfl (ah hs (cC c)) (aj rfl (Cv.sl rfl rfl rfl) aG))));intro x hx;rw[List.append_nil,List.mem_singleton] at hx;rw[hx];exact .sl ⟨by omega,rfl⟩;intro i X hi hX;rw[li (by omega)] at hX;cases hX;intro i;by_cases h:i< 40;rw[if_pos h];rw[if_neg h,li (by omega),li (by omega)];intro t x hx;have hm:=look_mem' hx;simp only[List.mem_cons,Prod.mk.injEq,List.not_mem_nil,or_false] at hm;rcases hm with⟨rfl,rfl⟩|⟨rfl,rfl⟩|⟨rfl,rfl⟩|⟨rfl,rfl⟩
  exact⟨rfl,.clo (ag _)⟩;exact⟨rfl,.clo (ag _)⟩;exact⟨rfl,.clo (cC c)⟩;exact⟨rfl,.sl (.inl rfl)⟩;refine o_0 (.un rfl iV) ?_;refine aq ?_;refine cF (an (AWp.ent (st':=⟨[(1,i64 m),(2,i64 (n+1:Nat)),(3,.aptr [[.arr (pE c)]] 0 0),(10,quV A (n+1))],[],1,116⟩) ?_ (EH c A m (n+1) hn hm hl hc o _ ⟨rfl,hfin _ _⟩)));refine(SEntT.to [] rfl rfl rfl ShrL.nil (fun hs=>?_) (fun hs=>aD)).ent;have e0:ap []=fun _=>none:=by funext i;rfl
  exact aj rfl (ah hs (ag _)) (aj rfl (ah hs (ag _)) (aj rfl (ah hs (cC c)) (aj rfl (by rw[e0];exact Gp (fun _ _=>rfl) cW (fun i hi=>cP hi) (Nat.zero_add _)) aG)))
def owA(a:Rat)(k:Nat)(up:Bool):Rat:=if up then upQ a k else upQ a k- cg k
def owS(k:Nat)(up:Bool):Rat:=if up then cg k else -cg k
def owV(a:Rat)(k:Nat)(up:Bool):Nat→Rat
 |0=>owA a k up
 |j+1=>owV a k up j+owS k up
def owT(a:Rat)(k:Nat)(up:Bool)(j:Nat):Option La:=some [.agg (qC (owV a k up j))]
abbrev bB1(b:Bool):AV:= .aptr [[bln b]] 0 0
theorem tT(b:Bool):Closed (bB1 b):=aX (ac (ag _) ai)
def okOw(a:Rat)(k:Nat)(up:Bool)(K:Nat):Prop:=sm a∧sz1 (upQ a k)∧sz1 (cg k)∧∀j,j< K→sz1 (owV a k up j)
instance (a:Rat) (k:Nat) (up:Bool) (K:Nat):Decidable (okOw a k up K):=inferInstanceAs (Decidable (_∧_∧_∧_))
theorem Ay(a:Rat)(k:Int)(up:Bool)(K:Nat)(ok:okOw a (wi k 256) up K):GSpecB Tryz.prog 194 [bQ a,bS1 k,bB1 up] (owT a (wi k 256) up) K:=by
 obtain⟨o1,o2,o3,o4⟩:=ok;have hup:=fs_Up a k o1;have hfi:=iK k;obtain⟨kk,hkk⟩:∃kk,kk=wi k 256:=⟨_,rfl⟩;rw[←hkk] at hup hfi o2 o3 o4⊢;have hsu:=gx (upQ a kk) (cg kk) (o2.two o3);have hss:sz1 (owS kk up):=by unfold owS sz1 at *;split;exact o3;rw[iw];exact o3
 refine GSpecB.enter Tryz.func194 rfl (by kernel_rfl) rfl rfl rfl ?_ ?_ rfl ?_;exact ac (aO a) (ac (bO k) (ac (tT up) ai));intro k xs h;cases h;exact ac (aM _) ai;intro ll N hN E;refine GWp.seq ?_;refine GWp.lift ?_;refine r_d hmix 9 ?_;refine c_s (hup) ?_;refine c_s (hfi) ?_;refine a_4 ?_;refine aq (n_k ?_);refine GWp.seq ?_;refine GWp.seq ?_;refine GWp.lift ?_;refine r_m 2 ?_;refine a_z ?_;refine GWp.lift ?_;refine AWp.mono (Q:=fun e s=>e= .normal∧SEnt s ⟨[(0,.v (.func (.yield ll) #[] #[])),(5,.lptr 1 0 0),(6,.lptr 2 0 0)],[(1,some ⟨42,3,[qC (owA a kk up)]⟩),(2,some ⟨42,3,[qC (owS kk up)]⟩)],3,27⟩) ?_ ?_;cases up with
 |true=>
  refine cF (an ⟨rfl,?_⟩);rw[show owA a kk true=upQ a kk from rfl,show owS kk true=cg kk from rfl];exact s_e [(1,5),(2,6)]
 |false=>
  refine cT (r_d hmix 9 ?_);refine c_s (hup) ?_;refine c_s (hsu) ?_;refine c_s (jf (cg kk)) ?_;refine a_2 ?_;refine aq (n_k ?_);refine⟨rfl,?_⟩;rw[show owA a kk false=upQ a kk- cg kk from rfl,show owS kk false= -cg kk from rfl];exact s_e [(1,5),(2,6)]
 rintro e s ⟨rfl,hst⟩;refine GWp.ent hst ?_;refine GWp.block ?_;refine GWp.loopS (fun j:Nat=>⟨[(0,.v (.func (.yield ll) #[] #[])),(5,.lptr 1 0 0),(6,.lptr 2 0 0)],[(1,some ⟨42,3,[qC (owV a kk up j)]⟩),(2,some ⟨42,3,[qC (owS kk up)]⟩)],3,27⟩) (fun k=>k) (fun k=>N+1- k) (fun k=>k≤N) 0 (Nat.zero_le _) rfl (SEnt.refl _) ?_;intro j hj;refine GWp.seq ?_;refine GWp.seq ?_;refine GWp.regY (fr2:=[(0,.v (.func (.yield ll) #[] #[])),(5,.lptr 1 0 0),(6,.lptr 2 0 0),(21,.v (.func (.yield ll) #[] #[])),(22,.agg (qC (owV a kk up j)))]) (hp2:=[(1,some ⟨42,3,[qC (owV a kk up j)]⟩),(2,some ⟨42,3,[qC (owS kk up)]⟩)]) (nx2:=3) 2 rfl rfl rfl rfl rfl rfl ?_ rfl rfl rfl ?_ ?_ ?_;refine o_0 (.move rfl) ?_
 first|refine ax (.load_l rfl rfl rfl TG.h TS.h (nle rfl)) rfl rfl ?_|refine ax (.load_a rfl rfl TG.h TS.h (nle rfl)) rfl rfl ?_
 refine aq ?_;exact s_y [] (fun hs=>dj) (fun hs=>jq);rotate_left 2;intro go;refine aq ?_;rotate_left;rfl;exact ac (aM _) ai;cases go with
 |false=>
  refine GWp.cond rfl (fun h=>?_) (fun h=>?_);cases h;exact GWp.exit ⟨.inl rfl,fun h=>by cases h⟩
 |true=>
  refine GWp.bound fun hk1=>?_;refine GWp.cond rfl (fun h=>?_) (fun h=>?_);rotate_left;cases h;refine GWp.skip ?_;have had:=ff (owV a kk up j) (owS kk up) ((o4 j (by omega)).two hss);refine GWp.lift ?_;refine ak (r_m 4 ?_);refine c_s (had) ?_;refine a_z ?_;refine⟨rfl,j+1,by omega,hk1,rfl,?_⟩;simp only[owV];exact s_e []
theorem AI(a:Rat)(k:Int)(up:Bool):FS 146 [.agg (qC a),i64 k,bln up] (.clos 194 [] [bQ a,bS1 k,bB1 up]):=by
 refine f_c Tryz.func146 ?_;refine r_z 4 ?_;refine r_z 2 ?_;refine am (⟨.inr rfl,[_],⟨_,[],rfl,rfl,rfl⟩,?_⟩);exact Cv.clos ay (af (Cv.boxp aE rfl (fun _ _ h=>by cases h) rfl (aU a)) (af (Cv.boxp aE rfl (fun _ _ h=>by cases h) rfl (ac (ag _) ai)) (af (Cv.boxp aE rfl (fun _ _ h=>by cases h) rfl (ac (ag _) ai)) ay)))
def w9:Lq→Lq→Int
 |[],[]=>0
 |[],_::_=> -1
 |_::_,[]=>1
 |a::l,b::m=>if cZ a b=0 then w9 l m else cZ a b
theorem F1(a b:Rat): -1≤cZ a b∧cZ a b≤1:=by
 unfold cZ;split;decide;split <;> decide
def cfS(a b:Lq):Nat→AState
 |i=>⟨[(0,.arr (pE a)),(1,.arr (pE b)),(2,.clos 86 [] []),(11,.arr (pE a)),(12,i64 a.length),(13,i64 i)],[],1,39⟩
theorem A0(a b:Lq)(ha:smL a)(hb:smL b)(la:a.length≤1000)(lb:b.length≤1000):FS 145 [.arr (pE a),.arr (pE b),.clos 86 [] []] (i64 (w9 a b)):=by
 have hal:(pE a).length=a.length:=by simp[pE]
 have hbl:(pE b).length=b.length:=by simp[pE]
 have hcc:Closed (.clos 86 [] []):=aT ai ai;refine f_c Tryz.func145 ?_;refine r_z 1 ?_;refine ae (r_z 3 ?_);refine aH (fun _:Unit=>⟨[(0,.arr (pE a)),(1,.arr (pE b))],[],1,39⟩) (fun _=>a.length≤b.length∧w9 a b=if a.length< b.length then -1 else 0) ?_ ?_;refine ak (aC (cfS a b) (fun i=>a.length- i) (fun i=>i≤a.length∧i≤b.length∧w9 (a.drop i) (b.drop i)=w9 a b) 0 ⟨Nat.zero_le _,Nat.zero_le _,rfl⟩ ?_ ?_);rw[cfS.eq_1];exact s_x [] (fun hs=>e_36) (fun hs=>e_37);rintro i ⟨h1,h2,h3⟩;rw[cfS.eq_1];by_cases hlt:i< a.length;have hga:∀e:Nat,e=i→(pE a)[e]?=some (qC (coP a i)):=fun e he=>by rw[he];exact bK (bm hlt)
 refine q_z 1 ?_;refine ae (cT (an (ae (ak (s_r 6 ?_)))));refine a_1 ?_
 first|refine ax (.index_l rfl rfl (by omega) (by omega) te_30.h) rfl rfl ?_|refine ax (.index_a rfl rfl (by omega) (hga _ (by omega)) rfl te_30.h) rfl rfl ?_
 first|refine ax (.load_l rfl rfl (hga _ (by omega)) TG.h TS.h (nle rfl)) rfl rfl ?_|refine ax (.load_a rfl (hga _ (by omega)) TG.h TS.h (nle rfl)) rfl rfl ?_
 refine a_z ?_;by_cases hlb:i< b.length;have hgb:∀e:Nat,e=i→(pE b)[e]?=some (qC (coP b i)):=fun e he=>by rw[he];exact bK (bm hlb)
 have hcm:=dJ (coP a i) (coP b i) (gG ha i) (gG hb i);have hr:=F1 (coP a i) (coP b i);rw[gC hlt,gC hlb,w9] at h3;refine ae (q_z 4 ?_);refine cF (an (s_r 6 ?_));refine a_2 ?_
 first|refine ax (.index_l rfl rfl (by omega) (by omega) te_30.h) rfl rfl ?_|refine ax (.index_a rfl rfl (by omega) (hgb _ (by omega)) rfl te_30.h) rfl rfl ?_
 first|refine ax (.load_l rfl rfl (hgb _ (by omega)) TG.h TS.h (nle rfl)) rfl rfl ?_|refine ax (.load_a rfl (hgb _ (by omega)) TG.h TS.h (nle rfl)) rfl rfl ?_
 refine a_z ?_;refine r_c 5 (hcm) ?_;refine a_z ?_;by_cases hz:cZ (coP a i) (coP b i)=0;rw[if_pos hz] at h3;refine s_r 2 ?_;refine a_1 ?_;refine o_0 (.bin rfl rfl (vF cu ((by rw[hz];rfl)))) ?_;refine aq ?_;refine cF (an (r_m 2 ?_));refine a_z ?_;refine⟨i+1,by omega,⟨by omega,by omega,h3⟩,?_⟩;rw[cfS.eq_1];exact s_x [] (fun hs=>e_36) (fun hs=>e_37);rw[if_neg hz] at h3;refine s_r 2 ?_;refine a_1 ?_;refine o_0 (.bin rfl rfl (vT cu ((by simpa using hz)))) ?_;refine aq ?_;refine cT (r_z 2 ?_);refine am (aR rfl ?_ ?_);rw[←h3];exact ag _;have hz:b.drop i=[]:=List.drop_eq_nil_of_le (by omega);rw[gC hlt,hz,w9] at h3;refine ae (q_z 4 ?_);refine cT (r_z 1 ?_);refine am (aR rfl ?_ ?_);rw[←h3];rfl;exact ag _;have hge:i=a.length:=by omega
 subst hge;refine q_z 1 ?_;refine ae (cF ?_);rw[List.drop_length] at h3;refine aB ⟨(),⟨h2,?_⟩,?_⟩;rw[←h3];by_cases g:a.length< b.length;rw[if_pos g,gC g];rfl;rw[if_neg g,List.drop_eq_nil_of_le (by omega)];rfl;exact s_e [];rintro _ ⟨h1,h2⟩;rw[h2];by_cases g:a.length< b.length;rw[if_pos g];refine ae (q_z 5 ?_);refine cT (r_z 1 ?_);exact am (t_e (ag _));rw[if_neg g];refine ae (q_z 5 ?_);refine cF (an (r_z 1 ?_));exact am (t_e (ag _))
structure SeS where
 best:Lq
 err:Rat
 got:Bool
def seB(s:SeS):Option Lq:=cond s.got (Option.some s.best) none
def EW(l:Lq)(e:Rat)(s:SeS):Prop:=smL l∧l.length≤1000∧l≠[]∧sm e∧sm s.err∧smL s.best∧s.best.length≤1000
instance (l:Lq) (e:Rat) (s:SeS):Decidable (EW l e s):=inferInstanceAs (Decidable (_∧_∧_∧_∧_∧_∧_))
def E9(f:Nat)(d:Dt)(l:Lq)(s:SeS):Option SeS:=match bdM f d 0 with
 |none=>none
 |some e=>if EW l e s then some (if s.got=false∨e< s.err∨e=s.err∧w9 l s.best< 0 then⟨l,e,true⟩ else s) else none
def goM(bd:Dt→Option Rat)(tr:Dt→Lq→SeS→Option SeS)(d:Dt)(n:Nat)(l:Lq)(st:Rat):Nat→Rat→SeS→Option SeS
 |0,_,_=>none
 |f+1,c,s=>if okLs d c n then
   (match (if s.got=true then(match bd (lsD d c n) with|none=>none|some b=>if sm b∧sm s.err then some (decide (s.err< b)) else none) else some false) with
   |none=>none
   |some true=>some s
   |some false=>match tr (lsD d c n) (l++[c]) s with|none=>none|some s1=>goM bd tr d n l st f (c+st) s1) else none
def yL(p:Lq)(m:Nat):Rat:=if ct p=(m:Int) then aS p else 0
def nH(f kk:Nat):Nat→Dt→Lq→SeS→Option SeS
 |0,d,l,s=>E9 f d l s
 |m+1,d,l,s=>match uk f d m with
  |none=>none
  |some r=>if okOw (yL r.1 m) kk true f∧okOw (yL r.1 m) kk false f∧r.1.length≤1000∧l.length≤100∧m≤12 then
     (match goM (fun d'=>bdM f d' m) (nH f kk m) d m l (owS kk true) f (owA (yL r.1 m) kk true) s with
     |none=>none
     |some s1=>goM (fun d'=>bdM f d' m) (nH f kk m) d m l (owS kk false) f (owA (yL r.1 m) kk false) s1) else none
abbrev seC(d:Dt)(k:Int)(nv:Option Lq)(s:SeS):La:=[.arr (pE d.X),.arr (pE d.Y),.arr (pE d.W),i64 k,Ex 1 nv,Ex 2 (seB s)]++(qC s.err++[bln s.got])
def seH(d:Dt)(k:Int)(nv:Option Lq)(s:SeS):Hp:=[(0,some ⟨140,10,[seC d k nv s]⟩),(1,nW 42 nv),(2,nW 42 (seB s))]
theorem FV{r:Ren}{hp hp':Hq}(hs:Shr r hp hp')(d:Dt)(k:Int)(nv:Option Lq)(s:SeS)(h1:Nat.blt 1 r.n=true)(h2:Nat.blt 2 r.n=true)(e1:r.s 1=1)(e2:r.s 2=2)(g1:hp' 1=nW 42 nv)(g2:hp' 2=nW 42 (seB s)):CvLL r hp hp' [seC d k nv s] [seC d k nv s]:=
 aw (af (ah hs (ao _)) (af (ah hs (ao _)) (af (ah hs (ao _)) (af (ah hs (ag _)) (af (Cv.row hs h1 e1 g1) (af (Cv.row hs h2 e2 g2) (CvL.clo hs (show∀c∈qC s.err++[bln s.got],Closed c from cw (aU _) (ac (ag _) ai)))))))))
theorem pk(V:Lc)(n:Nat)(h0:1≤n)(hn:n≤1000)(hl:V.length=n)(ho:V.all (·.all AV.one)=true)(hv:∀e∈V,e.length=3∧∀c∈e,∃y,c= .v y):OSpec Tryz.prog 77 [.arr V] 42 3 V:=by
 have hcl:∀e∈V,∀c∈e,Closed c:=fun e he=>DL (hv e he).2
 have hne:V≠[]:=by
  intro e;rw[e] at hl;simp at hl;omega
 have hlen:∀e∈V,e.length=3:=fun e he=>(hv e he).1;refine OSpec.enter Tryz.func77 rfl (by kernel_rfl) rfl rfl rfl ?_ ?_ rfl ?_;exact ac (aP hcl) ai;exact hcl;refine r_z 1 ?_;refine ae (s_r 2 ?_);refine a_1 ?_
 first|refine ax (.nilq_v rfl rfl te_30.h) rfl rfl ?_|refine ax (.nilq_arr rfl (hne) rfl te_30.h) rfl rfl ?_
 refine aq ?_;refine cF ?_;refine an (s_r 4 ?_);refine a_2 ?_;refine o_2 (.append_l rfl rfl rfl te_30.h rfl rfl rfl rfl rfl (by first|rfl|simp) rfl ho rfl (.arr hlen) TZ.h rfl TB.h (by simp;omega) (by simp[maxLen];omega)) ?_;refine a_z ?_;exact am (FinO.tmp rfl rfl rfl (by simp))
theorem xs_leaf(f:Nat)(k:Int)(d:Dt)(l:Lq)(s s':SeS)(hM:E9 f d l s=some s'):
    XSpec Tryz.prog 89 [.lptr 0 0 0,i64 (((0:Nat):Int)- 1)] (seH d k (some l) s) 3 (.tup []) (seH d k (some l) s') 3:=by
 unfold E9 at hM;cases hb:bdM f d 0 with
 |none=>rw[hb] at hM;cases hM
 |some e=>
 rw[hb] at hM;simp only at hM;split at hM
 case isFalse=>cases hM
 case isTrue ok=>
 obtain⟨o1,o2,o3,o4,o5,o6,o7⟩:=ok;have hbd:=pG f d 0 e (by decide) hb;have hcm:=dJ e s.err o4 o5;unfold seH;refine XSpec.enter0 Tryz.func89 rfl (by kernel_rfl) rfl rfl rfl rfl ?_;have hon:=cL l;have hll:(pE l).length=l.length:=by simp[pE]
 obtain⟨B0,E0,G0⟩:=s;simp only at o5 o6 o7 hcm hM;have hcp:=A0 l B0 o1 o6 o2 o7
 have hl1:1≤l.length:=by
  cases l with
  |nil=>exact absurd rfl o3
  |cons a l=>simp
 refine r_z 2 ?_;refine ae (q_z 2 ?_);refine cT (ae (r_d hmix 8 ?_));refine c_s (hbd) ?_;refine a_2 ?_;refine aq (n_k ?_);refine ae (ae (r_d hmix 7 ?_));refine c_s (hcm) ?_;refine a_1 ?_;refine aq (n_k ?_);cases G0 with
 |false=>
  rw[if_pos (.inl rfl)] at hM;cases hM;refine ae (r_d hmix 25 ?_);refine a_4 ?_;refine o_0 (.un (r:= .bool true) rfl iV) ?_;refine d_8 ?_;refine d_8 ?_;refine d_4 ?_;refine aq (n_k ?_);refine cT (r_d hmix 18 ?_);refine a_7 ?_;refine o_1 (.callOL rfl rfl rfl rfl rfl hll (by decide) (aF l) hon (fun V h1 h2 h3=>pk V l.length hl1 o2 h1 h2 h3)) ?_;refine a_8 ?_;refine a_2 ?_;refine aq (n_k ?_);refine am (FinX0.of ?_);refine db [(2,58)] rfl rfl rfl (ShrL.cons rfl rfl rfl rfl rfl (ShrL.same rfl rfl (ShrL.same rfl rfl ShrL.nil))) (fun hs=>aG) (fun hs=>?_);refine bu rfl rfl rfl rfl ?_ (CvH.same hs rfl rfl bY (CvH.same hs rfl rfl bY aD));exact aw (af (ah hs (ao _)) (af (ah hs (ao _)) (af (ah hs (ao _)) (af (ah hs (ag _)) (af (Cv.sl rfl rfl rfl) (af (Cv.sl rfl rfl rfl) (CvL.clo hs (show∀c∈qC e++[bln true],Closed c from cw (aU _) (ac (ag _) ai)))))))))
 |true=>
  by_cases c1:e< E0;rw[if_pos (.inr (.inl c1))] at hM;cases hM;refine ae (r_d hmix 25 ?_);refine a_4 ?_;refine o_0 (.un (r:= .bool false) rfl iV) ?_;refine d_2 ?_;refine bv rfl rfl rfl (.bin rfl rfl (vT dY (decide_eq_true (cq_lt.2 c1)))) rfl rfl ?_;refine d_8 ?_;refine d_8 ?_;refine m_1 ?_;refine aq (n_k ?_);refine cT (r_d hmix 18 ?_);refine a_7 ?_;refine o_1 (.callOL rfl rfl rfl rfl rfl hll (by decide) (aF l) hon (fun V h1 h2 h3=>pk V l.length hl1 o2 h1 h2 h3)) ?_;refine a_8 ?_;refine a_2 ?_;refine aq (n_k ?_);refine am (FinX0.of ?_);refine db [(2,58)] rfl rfl rfl (ShrL.cons rfl rfl rfl rfl rfl (ShrL.same rfl rfl (ShrL.same rfl rfl ShrL.nil))) (fun hs=>aG) (fun hs=>?_);refine bu rfl rfl rfl rfl ?_ (CvH.same hs rfl rfl bY (CvH.same hs rfl rfl bY aD));exact aw (af (ah hs (ao _)) (af (ah hs (ao _)) (af (ah hs (ao _)) (af (ah hs (ag _)) (af (Cv.sl rfl rfl rfl) (af (Cv.sl rfl rfl rfl) (CvL.clo hs (show∀c∈qC e++[bln true],Closed c from cw (aU _) (ac (ag _) ai)))))))));by_cases c2:e=E0;by_cases c3:w9 l B0< 0;rw[if_pos (.inr (.inr ⟨c2,c3⟩))] at hM;cases hM;refine ae (r_d hmix 25 ?_);refine a_4 ?_;refine o_0 (.un (r:= .bool false) rfl iV) ?_;refine d_2 ?_;refine bv rfl rfl rfl (.bin rfl rfl (vF dY (decide_eq_false (mt cq_lt.1 c1)))) rfl rfl ?_;refine d_3 ?_;refine bv rfl rfl rfl (.bin rfl rfl (vT aV (eqI (cq_eq.2 c2)))) rfl rfl ?_;refine d_8 ?_;refine m_1 ?_
  refine bv rfl rfl rfl (.callV (rr:=⟨0,fun i=>i⟩) (rd:=[1,2]) rfl rfl rfl (fun hp' h=>af (Cv.sealE aE (by unfold dw;rw[h 1 (by simp)];rfl) (fun _ _ h=>by cases h) rfl (by simp) (aF l)) (af (Cv.sealE aE (by unfold dw;rw[h 2 (by simp)];rfl) (fun _ _ h=>by cases h) rfl (by simp) (aF B0)) (af (ah aE (aT ai ai)) ay))) hcp) rfl rfl ?_;refine d_3 ?_;refine aq (n_k ?_);refine cT (r_d hmix 18 ?_);refine a_7 ?_;refine o_1 (.callOL rfl rfl rfl rfl rfl hll (by decide) (aF l) hon (fun V h1 h2 h3=>pk V l.length hl1 o2 h1 h2 h3)) ?_;refine a_8 ?_;refine a_2 ?_;refine aq (n_k ?_);refine am (FinX0.of ?_);refine db [(2,58)] rfl rfl rfl (ShrL.cons rfl rfl rfl rfl rfl (ShrL.same rfl rfl (ShrL.same rfl rfl ShrL.nil))) (fun hs=>aG) (fun hs=>?_);refine bu rfl rfl rfl rfl ?_ (CvH.same hs rfl rfl bY (CvH.same hs rfl rfl bY aD));exact aw (af (ah hs (ao _)) (af (ah hs (ao _)) (af (ah hs (ao _)) (af (ah hs (ag _)) (af (Cv.sl rfl rfl rfl) (af (Cv.sl rfl rfl rfl) (CvL.clo hs (show∀c∈qC e++[bln true],Closed c from cw (aU _) (ac (ag _) ai)))))))));rw[if_neg (fun h=>by rcases h with h|h|h;cases h;exact c1 h;exact c3 h.2)] at hM;cases hM;refine ae (r_d hmix 25 ?_);refine a_4 ?_;refine o_0 (.un (r:= .bool false) rfl iV) ?_;refine d_2 ?_;refine bv rfl rfl rfl (.bin rfl rfl (vF dY (decide_eq_false (mt cq_lt.1 c1)))) rfl rfl ?_;refine d_3 ?_;refine bv rfl rfl rfl (.bin rfl rfl (vT aV (eqI (cq_eq.2 c2)))) rfl rfl ?_;refine d_8 ?_;refine m_1 ?_
  refine bv rfl rfl rfl (.callV (rr:=⟨0,fun i=>i⟩) (rd:=[1,2]) rfl rfl rfl (fun hp' h=>af (Cv.sealE aE (by unfold dw;rw[h 1 (by simp)];rfl) (fun _ _ h=>by cases h) rfl (by simp) (aF l)) (af (Cv.sealE aE (by unfold dw;rw[h 2 (by simp)];rfl) (fun _ _ h=>by cases h) rfl (by simp) (aF B0)) (af (ah aE (aT ai ai)) ay))) hcp) rfl rfl ?_;refine d_3 ?_;refine aq (n_k ?_);refine cF (an (am (FinX0.of ?_)));refine db [] rfl rfl rfl (ShrL.same rfl rfl (ShrL.same rfl rfl (ShrL.same rfl rfl ShrL.nil))) (fun hs=>aG) (fun hs=>?_);exact bu rfl rfl rfl rfl (FV hs d k (some l) ⟨B0,E0,true⟩ rfl rfl rfl rfl rfl rfl) (CvH.same hs rfl rfl bY (CvH.same hs rfl rfl bY aD));rw[if_neg (fun h=>by rcases h with h|h|h;cases h;exact c1 h;exact c2 h.1)] at hM;cases hM;refine ae (r_d hmix 25 ?_);refine a_4 ?_;refine o_0 (.un (r:= .bool false) rfl iV) ?_;refine d_2 ?_;refine bv rfl rfl rfl (.bin rfl rfl (vF dY (decide_eq_false (mt cq_lt.1 c1)))) rfl rfl ?_;refine d_3 ?_;refine bv rfl rfl rfl (.bin rfl rfl (vF aV (neI (mt cq_eq.1 c2)))) rfl rfl ?_;refine d_8 ?_;refine d_5 ?_;refine aq (n_k ?_);refine cF (an (am (FinX0.of ?_)));refine db [] rfl rfl rfl (ShrL.same rfl rfl (ShrL.same rfl rfl (ShrL.same rfl rfl ShrL.nil))) (fun hs=>aG) (fun hs=>?_);exact bu rfl rfl rfl rfl (FV hs d k (some l) ⟨B0,E0,true⟩ rfl rfl rfl rfl rfl rfl) (CvH.same hs rfl rfl bY (CvH.same hs rfl rfl bY aD))
end Go.Proofs.YtjgokhkahkmpbaaGreatDoor
