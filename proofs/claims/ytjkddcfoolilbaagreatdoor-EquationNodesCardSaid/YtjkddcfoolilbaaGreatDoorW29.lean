/- Part W29 of the proof. -/
import Derived.Test.YtjkddcfoolilbaaGreatDoorW28
set_option linter.all false
namespace Go.Proofs.YtjkddcfoolilbaaGreatDoor
open Go.Abs
set_option maxRecDepth 20000
set_option maxHeartbeats 2000000
def syX(rows leads:AV)(n:Int):Hp:=[(35,some ⟨131,3,[[rows,leads,i64 n]]⟩)]
theorem syX_id{rows leads:AV}{n:Int}:∀p∈syX rows leads n,35≤p.1∧p.1< 40:=fun p hp=>by rw[List.mem_singleton.1 hp];exact⟨(show 35≤35 by decide),(show 35< 40 by decide)⟩
def sx0:Hp:=syX .emp .emp 0
theorem cz_:∀p∈sx0,35≤p.1∧p.1< 40:=syX_id
theorem qt_ {fr fr':Fr} {hp:Hp} {nx N n:Nat} {R:Nat→List Rat} (s:Nat→Nat) (hn:n≤30) (s0:s 0=0) (hinj:∀i j,InX n i→InX n j→s i=s j→i=j) (h1:lookB hp (s 1)=some ⟨32,1,rwO R s n⟩) (hr:∀i,i< n→lookB hp (s (i+2))=some ⟨46,3,pE (R i)⟩) (h35:lookB hp (s 35)=some ⟨131,3,[[.emp,.emp,i64 0]]⟩)
    (hF:Shr ⟨40,s⟩ (lookB hp) (lookB (rwH 32 46 R n sx0))→CvF ⟨40,s⟩ (lookB hp) (lookB (rwH 32 46 R n sx0)) fr fr'):SEnt ⟨fr,hp,nx,N⟩ ⟨fr',rwH 32 46 R n sx0,40,N⟩:=
 SEntT.ent (SEntT.rw s hn s0 hinj h1 hr cz_ (fun i B h=>by
  cases List.mem_singleton.1 h;exact⟨_,h35,rfl,rfl,rfl⟩) (fun hs i B B0 h hB=>by
  cases List.mem_singleton.1 h;have hB:lookB hp (s 35)=some B0:=hB;rw[h35] at hB;cases hB
  exact aU_ hs fun e he c hc=>by
   rw[List.mem_singleton.1 he] at hc;exact aa_ bq_ (aa_ bq_ (aa_ (ad_ _) ac_)) c hc) hF)
theorem gO_ {fr fr':Fr} {hp:Hp} {nx N n:Nat} {R:Nat→List Rat} (hn:n≤30) (h1:lookB hp 1=some ⟨32,1,rwO R (fun x=>x) n⟩) (hr:∀i,i< n→lookB hp (i+2)=some ⟨46,3,pE (R i)⟩) (h35:lookB hp 35=some ⟨131,3,[[.emp,.emp,i64 0]]⟩)
    (hF:Shr ⟨40,fun x=>x⟩ (lookB hp) (lookB (rwH 32 46 R n sx0))→CvF ⟨40,fun x=>x⟩ (lookB hp) (lookB (rwH 32 46 R n sx0)) fr fr'):SEnt ⟨fr,hp,nx,N⟩ ⟨fr',rwH 32 46 R n sx0,40,N⟩:=
 qt_ (fun x=>x) hn rfl (fun _ _ _ _ e=>e) h1 hr h35 hF
theorem fiR_ne{i new x:Nat}(h:x≠i+2):fiR i new x=x:=by
 unfold fiR;rw[show Nat.beq x (i+2)=false by cases hb:Nat.beq x (i+2) with|false=>rfl|true=>exact absurd (Nat.eq_of_beq_eq_true hb) h];rfl
theorem j6_{n i:Nat}(hn:n≤30)(h:InX n i):i< 40:=by unfold InX at h;omega
theorem sv_f{r:Ren}{hp hp':Nat→Option ABlk}{fr fr':Fr}{l:Rat}{b:List Rat}(hs:Shr r hp hp')(h:CvF r hp hp' fr fr':=by repeat' (first|exact aD_|refine an_ rfl ?_ ?_|exact ai_ hs (ap_ b)|exact ai_ hs (bf_ l)|exact ai_ hs (ad_ _)|exact Cv.sl rfl rfl rfl|exact Cv.ptr rfl rfl rfl|exact Cv.ptr rfl (by assumption) rfl|(refine Cv.loE hs ?_ (ad_ _);simp[i64];done))):CvF r hp hp' fr fr':=h
def svO(A:Nat→Nat→Rat)(l:Rat)(b:List Rat)(n:Nat):Nat→AState
 |i=>⟨[(0,.lsl 1 0 n (some n) 1),(2,.arr (pE b)),(4,bQ l),(6,.lptr 35 0 0),(7,i64 n),(22,i64 n),(23,i64 i)],rwH 32 46 (ph1 A l (fun t=>coP b t) n i) n sx0,40,209⟩
def svI(A:Nat→Nat→Rat)(l:Rat)(b:List Rat)(n i:Nat):Nat→AState
 |j=>⟨[(0,.lsl 1 0 n (some n) 1),(2,.arr (pE b)),(4,bQ l),(6,.lptr 35 0 0),(7,i64 n),(8,i64 i),(22,i64 n),(23,i64 i),(30,i64 n),(31,i64 j)],rwH 32 46 (upR (ph1 A l (fun t=>coP b t) n i) i (mxr A l n i j)) n sx0,40,209⟩
noncomputable def svRest:Code:=match Tryz.f57.body with|some (.seq _ (.seq _ (.seq _ y)))=>y|_=> .skip
theorem mzO_rwO(A:Nat→Nat→Rat)(n:Nat){s:Nat→Nat}(h:∀k,k< n→s (k+2)=k+2):mzO 3 (fun _=>n) (fun x=>x) n=rwO (fun k=>tabP n (A k)) s n:=by
 refine List.ext_getElem? fun k=>?_;by_cases hk:k< n;rw[mU_ hk,ce_ hk k rfl,h k hk,dM_];rw[fL_ (by omega),List.getElem?_eq_none (by simp;omega)]
theorem sv_rows (A:Nat→Nat→Rat) (l:Rat) (b:List Rat) (n:Nat) (hn:n≤25) (hb:b.length=n) (r:AV)
    (hm:∀i j:Nat,i< n→j< n→qs (A i j)+qs l≤549755813888) (ha:∀i:Nat,i< n→qs (-(A i i* l))+1≤549755813887)
    (hrest:AWp none Tryz.prog svRest (Fin Tryz.prog Tryz.f57.results.toList r) ⟨[(0,.lsl 1 0 n (some n) 1),(6,.lptr 35 0 0),(7,i64 n)],rwH 32 46 (fun k=>tabP (n+1) (svM A l (fun t=>coP b t) n k)) n sx0,40,209⟩):
    XSpec Tryz.prog 57 [.lsl 1 0 n (some n) 1,.agg (qC l),.arr (pE b)] (mzH 3 32 46 (mzO 3 (fun _=>n) (fun x=>x) n) (fiL A n n)) 40 r [] 1:=by
 refine XSpec.enterC Tryz.func57 rfl (by kernel_rfl) rfl rfl rfl rfl ?_;refine r_z 2 ?_;refine AWp.ent (st':=⟨[(0,.lsl 1 0 n (some n) 1),(2,.arr (pE b)),(4,bQ l),(6,.lptr 35 0 0)],rwH 32 46 (fun k=>tabP n (A k)) n sx0,40,209⟩) ?_ ?_;refine qt_ (fiR 33 41) (by omega) (fiR_0 _ _) (fun x y hx hy e=>i3_ (m:=40) (Nat.le_refl _) (by decide) x y (j6_ (by omega) hx) (j6_ (by omega) hy) e) ?_ ?_ rfl ?_;rw[fiR_1,←mzO_rwO A n (s:=fiR 33 41) fun k hk=>eb_ (by omega)];rfl
 ·intro k hk
  rw[eb_ (by omega)]
  repeat rw[aV_ (by omega)]
  exact bB_ (cM_ hk)
 intro hs
 have hd:Dead ⟨40,fiR 33 41⟩ (lookB (rwH 32 46 (fun k=>tabP n (A k)) n sx0)) 40:=fun j B hj e=>by
  obtain⟨h0⟩:=hs;have h1:j< 40:=(h0 j B hj).1;have e:fiR 33 41 j=40:=e;unfold fiR at e;cases hb:Nat.beq j (33+2)<;> rw[hb] at e <;> simp only[cond_true,cond_false] at e <;> omega
 exact an_ rfl (Cv.sl rfl rfl rfl) (an_ rfl (ai_ hs (ap_ b)) (an_ rfl (Cv.boxp hs rfl hd rfl (aN_ l)) (an_ rfl (Cv.ptr rfl rfl rfl) aD_)));refine r_z 3 ?_;refine ab_ (r_z 3 ?_);refine av_ (fun _:Unit=>⟨[(0,.lsl 1 0 n (some n) 1),(6,.lptr 35 0 0),(7,i64 n)],rwH 32 46 (fun k=>tabP (n+1) (svM A l (fun t=>coP b t) n k)) n sx0,40,209⟩) (fun _=>True) ?_ ?_
 ·refine af_ (aq_ (svO A l b n) (fun i=>n- i) (fun i=>i≤n) 0 (Nat.zero_le _) ?_ ?_)
  rw[svO.eq_1,ph1_0];exact gO_ (by omega) (bh_ cz_) (fun i hi=>bQ_ cz_ (by omega) hi) rfl fun hs=>sv_f (l:=l) (b:=b) hs;intro i hi;rw[svO.eq_1];by_cases hlt:i< n;rotate_left;have hge:i=n:=by omega
  subst hge;refine q_z 1 ?_;refine ab_ (cF (ao_ ⟨(),trivial,?_⟩));refine gO_ (by omega) ?_ ?_ rfl fun hs=>sv_f (l:=l) (b:=b) hs;rw[bh_ cz_,cY_ (R':=fun k=>tabP (i+1) (svM A l (fun t=>coP b t) i k)) (s':=fun x=>x)];intro k hk;exact⟨by rw[ph1_n hk],rfl⟩;intro k hk;rw[bQ_ cz_ (by omega) hk,ph1_n hk];refine q_z 1 ?_;refine ab_ (cT (ah_ (ab_ (af_ (r_z 2 ?_)))));have hlen0:(ph1 A l (fun t=>coP b t) n i i).length=n:=by rw[ph1_at];simp
  have hg0:∀e,e=i→(rwO (ph1 A l (fun t=>coP b t) n i) (fun x=>x) n)[e]?=some [.lsl (i+2) 0 n none 3]:=fun e he=>by rw[ce_ hlt e he,hlen0]
  refine ab_ (s_r 6 ?_);refine a_3 ?_;refine o_0 (.load_l1 rfl (b2_ (bh_ cz_) (show(1:Nat)≠0 by decide)) (hg0 _ (by omega)) TG.h rfl) ?_;refine a_z ?_;refine av_ (fun _:Unit=>svI A l b n i n) (fun _=>True) ?_ ?_
  ·refine af_ (aq_ (svI A l b n i) (fun j=>n- j) (fun j=>j≤n) 0 (Nat.zero_le _) ?_ ?_)
   rw[svI.eq_1,←ph1_at A l (fun t=>coP b t),upR_id];exact gO_ (by omega) (bh_ cz_) (fun i hi=>bQ_ cz_ (by omega) hi) rfl fun hs=>sv_f (l:=l) (b:=b) hs;intro j hj;rw[svI.eq_1];by_cases hjn:j< n;rotate_left;have hge:j=n:=by omega
   subst hge;refine q_z 1 ?_;refine ab_ (cF (ao_ ⟨(),trivial,?_⟩));exact gO_ (by omega) (bh_ cz_) (fun i hi=>bQ_ cz_ (by omega) hi) rfl fun hs=>sv_f (l:=l) (b:=b) hs;have hmu:=bE_ (A i j) l (hm i j hlt hjn);have hne:=hg_ (A i j* l);have hce:=ev_ (TS:=32) (TQ:=46) (R:=upR (ph1 A l (fun t=>coP b t) n i) i (mxr A l n i j)) cz_ (by omega:n≤30) hlt;rw[cs_] at hce;have hg1:∀e,e=i→(rwO (upR (ph1 A l (fun t=>coP b t) n i) i (mxr A l n i j)) (fun x=>x) n)[e]?=some [.lsl (i+2) 0 n none 3]:=fun e he=>by rw[ce_ hlt e he,cs_,ff_]
   have ho:=b2_ (bh_ (TS:=32) (TQ:=46) (n:=n) (R:=upR (ph1 A l (fun t=>coP b t) n i) i (mxr A l n i j)) cz_) (show(1:Nat)≠0 by decide);refine q_z 1 ?_;refine ab_ (cT (ah_ (ab_ (af_ (r_z 2 ?_)))));refine r_d hmix 17 ?_;refine a_3 ?_;refine o_0 (.load_l1 rfl ho (hg1 _ (by omega)) TG.h rfl) ?_;refine a_4 ?_;refine o_0 (.load_l1 rfl ho (hg1 _ (by omega)) TG.h rfl) ?_;refine a_2 ?_;refine o_0 (.load_l rfl hce (qW_ hjn _ (by omega)) TG.h TS.h (nle rfl)) ?_;refine c_s (hmu) ?_;refine c_s (hne) ?_;refine a_1 ?_;refine o_1n (.store rfl hce (qW_ hjn _ (by omega)) rfl rfl rfl TS.h (nle rfl)) ?_;refine ak_ (n_k ?_);refine r_m 2 ?_;refine a_z ?_;refine⟨j+1,by omega,by omega,?_⟩;rw[svI.eq_1];refine gO_ (by omega) ?_ ?_ ?_ fun hs=>sv_f (l:=l) (b:=b) hs;rw[aV_ (by omega),bh_ cz_,cY_ (R':=upR (ph1 A l (fun t=>coP b t) n i) i (mxr A l n i (j+1))) (s':=fun x=>x)];intro k hk;by_cases h:k=i;subst h;rw[cs_,cs_];simp;rw[fy_ _ _ h,fy_ _ _ h];simp;intro k hk;by_cases h:k=i;subst h;rw[cs_,←mxr_set hjn (0+((j:Nat):Int).toNat) (by omega),bk_,aL_];rfl;rw[aV_ (by omega),bQ_ cz_ (by omega) hk,fy_ _ _ h,fy_ _ _ h];rw[aV_ (by omega)];rfl
  rintro _ _;show AWp _ _ _ _ (svI A l b n i n);rw[svI.eq_1];have hce:=ev_ (TS:=32) (TQ:=46) (R:=upR (ph1 A l (fun t=>coP b t) n i) i (mxr A l n i n)) cz_ (by omega:n≤30) hlt;rw[cs_] at hce;have hg1:∀e,e=i→(rwO (upR (ph1 A l (fun t=>coP b t) n i) i (mxr A l n i n)) (fun x=>x) n)[e]?=some [.lsl (i+2) 0 n none 3]:=fun e he=>by rw[ce_ hlt e he,cs_,ff_]
  have ho:=b2_ (bh_ (TS:=32) (TQ:=46) (n:=n) (R:=upR (ph1 A l (fun t=>coP b t) n i) i (mxr A l n i n)) cz_) (show(1:Nat)≠0 by decide);have hi1:=cV_ 1 (by decide);have hq1:qs 1≤1:=by decide
  have had:=c6_ (-(A i i* l)) 1 (by have:=ha i hlt;omega);refine ab_ (r_d hmix 16 ?_);refine a_3 ?_;refine o_0 (.load_l1 rfl ho (hg1 _ (by omega)) TG.h rfl) ?_;refine a_4 ?_;refine o_0 (.load_l1 rfl ho (hg1 _ (by omega)) TG.h rfl) ?_;refine a_2 ?_;refine o_0 (.load_l rfl hce (od_ hlt _ (by omega)) TG.h TS.h (nle rfl)) ?_;refine c_s (hi1) ?_;refine c_s (had) ?_;refine a_1 ?_;refine o_1n (.store rfl hce (od_ hlt _ (by omega)) rfl rfl rfl TS.h (nle rfl)) ?_;refine ak_ (n_k ?_);refine AWp.ent (st':=⟨[(0,.lsl 1 0 n (some n) 1),(2,.arr (pE b)),(4,bQ l),(6,.lptr 35 0 0),(7,i64 n),(8,i64 i),(22,i64 n),(23,i64 i)],rwH 32 46 (upR (ph1 A l (fun t=>coP b t) n i) i (dgr A l n i)) n sx0,40,209⟩) ?_ ?_;refine gO_ (by omega) ?_ ?_ ?_ fun hs=>sv_f (l:=l) (b:=b) hs;rw[aV_ (by omega),bh_ cz_,cY_ (R':=upR (ph1 A l (fun t=>coP b t) n i) i (dgr A l n i)) (s':=fun x=>x)];intro k hk;by_cases h:k=i;subst h;rw[cs_,cs_];simp;rw[fy_ _ _ h,fy_ _ _ h];simp;intro k hk;by_cases h:k=i;subst h;rw[cs_,←mxr_one hlt (0+((k:Nat):Int).toNat) (by omega),bk_,aL_];rfl;rw[aV_ (by omega),bQ_ cz_ (by omega) hk,fy_ _ _ h,fy_ _ _ h];rw[aV_ (by omega)];rfl
  have hce2:∀(k:Nat) (B:Option ABlk),k≠i+2→cellF (lookB ((k,B)::rwH 32 46 (upR (ph1 A l (fun t=>coP b t) n i) i (dgr A l n i)) n sx0)) (i+2)=some ⟨46,3,pE (dgr A l n i)⟩:=fun k B hk=>b2_ (by
   have:=bQ_ (TS:=32) (TQ:=46) (R:=upR (ph1 A l (fun t=>coP b t) n i) i (dgr A l n i)) cz_ (by omega:n≤30) hlt;rw[cs_] at this;rw[aV_ hk];exact this) (show(3:Nat)≠0 by decide)
  have hg2:∀e,e=i→(rwO (upR (ph1 A l (fun t=>coP b t) n i) i (dgr A l n i)) (fun x=>x) n)[e]?=some [.lsl (i+2) 0 n none 3]:=fun e he=>by rw[ce_ hlt e he,cs_,pN_]
  have ho2:=b2_ (bh_ (TS:=32) (TQ:=46) (n:=n) (R:=upR (ph1 A l (fun t=>coP b t) n i) i (dgr A l n i)) cz_) (show(1:Nat)≠0 by decide);have hbl:(pE b).length=n:=by simp[pE,hb]
  have hbg:(pE b)[((i:Nat):Int).toNat]?=some (qC (coP b i)):=by
   have:=bo_ (p:=b) (i:=i) (by omega);simp[pE,this]
  have hdl:(pE (dgr A l n i)).length=n:=by simp[pE]
  have hi50:(50:Nat)≠i+2:=by omega
  refine r_d hmix 14 ?_;refine a_5 ?_;refine o_0 (.load_l1 rfl ho2 (hg2 _ (by omega)) TG.h rfl) ?_;refine a_2 ?_;refine i_x hbg ?_;refine l_x hbg ?_;refine a_1 ?_;refine o_2 (.append_l rfl rfl rfl te_32.h rfl rfl (hce2 50 _ hi50) rfl rfl hdl (b6_ _) (by rfl) rfl (.lsl rfl (nle rfl)) TZ.h rfl TB.h (by first|rfl|assumption|(simp;done)|(simp;omega)|omega) (by first|(simp[maxLen];done)|(simp[maxLen];omega))) ?_;refine a_1 ?_;refine o_1n (.store rfl rfl (hg2 _ (by omega)) rfl rfl rfl TS.h (nle rfl)) ?_;refine ak_ (n_k ?_);refine r_m 2 ?_;refine a_z ?_;refine⟨i+1,by omega,by omega,?_⟩;rw[svO.eq_1,←ph1_next,←upR_up (ph1 A l (fun t=>coP b t) n i) i (dgr A l n i) (tabP (n+1) (svM A l (fun t=>coP b t) n i))];have h35s:fiR i 51 35=35:=fiR_ne (by omega);refine qt_ (fiR i 51) (by omega) (fiR_0 _ _) (fun x y hx hy e=>i3_ (m:=40) (Nat.le_refl _) (by decide) x y (j6_ (by omega) hx) (j6_ (by omega) hy) e) ?_ ?_ ?_ fun hs=>sv_f (l:=l) (b:=b) hs;rw[fiR_1,←rwO_grow (new:=51) (m:=n+1) hlt (by simp) (0+((i:Nat):Int).toNat) (by omega)];rfl;intro k hk;by_cases h:k=i;subst h;rw[cs_,gX_,←dgr_app,eg_];rfl
  ·rw[eb_ h,fy_ _ _ h]
   repeat rw[aV_ (by omega)]
   exact bQ_ cz_ (by omega) hk
  ·rw[fiR_ne (by omega)]
   repeat rw[aV_ (by omega)]
   rfl
 rintro _ _;exact hrest
theorem rwL_mE(R:Nat→List Rat)(n:Nat):(rwL R n).map (fun e=>([.arr e]:List AV))=mE ((List.range n).map R):=by simp[rwL,mE]
theorem q6_(k:List (List Rat))(a:Nat):(mE k).drop a=mE (k.drop a):=by simp[mE,List.map_drop]
def rwI(n:Nat):List Nat:=1::(List.range n).map (· +2)
theorem Cv_rwV{r:Ren}{hp hp':Nat→Option ABlk}{cap:Option Nat}{TS TQ a m n:Nat}{R:Nat→List Rat}(hh:∀i∈rwI n,hp' i=hp i)(h1:hp 1=some ⟨TS,1,rwO R (fun x=>x) n⟩)(hr:∀i,i< n→hp (i+2)=some ⟨TQ,3,pE (R i)⟩)(ham:a+m=n):
    Cv r hp' (fun _=>none) (.lsl 1 a m cap 1) (.arr (mE (((List.range n).map R).drop a))):=by
 have e:mE (((List.range n).map R).drop a)=(((rwL R n).map fun e=>([.arr e]:List AV)).drop a).take m:=by
  rw[rwL_mE,q6_,List.take_of_length_le (by simp;omega)]
 rw[e];have hn:(rwL R n).length=n:=gP_ R n;refine Cv.mzV (sz:=3) (TS:=TS) (TQ:=TQ) (w:=fun k=>(R k).length) (by decide) ?_ (fun i x hx=>?_) (fun i x hx=>by rw[(qu_ hx).2];simp[pE]) (fun x hx y hy c hc=>?_) (by rw[hn];omega);rw[hh 1 (List.mem_cons_self ..),h1,hn];rfl;obtain⟨h2,rfl⟩:=qu_ hx;rw[hh (i+2) (List.mem_cons_of_mem _ (List.mem_map.2 ⟨i,List.mem_range.2 h2,rfl⟩)),hr i h2];obtain⟨k,_,rfl⟩:=List.mem_map.1 hx;exact aG_ _ y hy c hc
theorem fs_lead(R:Nat→List Rat)(n r c:Nat)(hn:n≤1000)(hl:∀i,i< n→c< (R i).length):
    FS 127 [.arr (mE (((List.range n).map R).drop r)),.clos 128 [] [.aptr [[i64 c]] 0 0]] (i64 (idxA (fun e:List Rat=>decide (coP e c≠0)) (((List.range n).map R).drop r) 0)):=
 l4_ _ 128 [.aptr [[i64 c]] 0 0] _ (aa_ (aM_ (aa_ (ad_ _) ac_)) ac_) (by simp;omega) fun e he=>by
  obtain⟨i,hi,rfl⟩:=List.mem_map.1 (List.mem_of_mem_drop he);exact pr_ _ c _ (bo_ (hl i (List.mem_range.1 hi)))
theorem lU_{α:Type}(t:α→Bool):∀(l:List α) (k:Int),(∀x∈l,t x=false)→idxA t l k= -1
 |[],_,_=>rfl
 |a::l,k,h=>by
  rw[idxA,if_neg (by rw[h a (List.mem_cons_self ..)];decide)];exact lU_ t l _ fun x hx=>h x (List.mem_cons_of_mem _ hx)
theorem rn_{α:Type}(t:α→Bool):∀(l:List α) (k:Int) (j:Nat) (x:α),l[j]?=some x→t x=true→(∀i y,i< j→l[i]?=some y→t y=false)→idxA t l k=k+j
 |[],_,_,_,h,_,_=>by cases h
 |a::l,k,0,x,h,h2,_=>by
  cases h;rw[idxA,if_pos h2];simp
 |a::l,k,j+1,x,h,h2,h3=>by
  rw[idxA,if_neg (by rw[h3 0 a (by omega) rfl];decide),rn_ t l (k+1) j x (by simpa using h) h2 fun i y hi hy=>h3 (i+1) y (by omega) (by simpa using hy)];omega
theorem mO_{M:Mx}{n r i:Nat}(h:r+i< n):(((List.range n).map fun k=>tabP (n+1) (M k)).drop r)[i]?=some (tabP (n+1) (M (r+i))):=by
 rw[List.getElem?_drop];simp[h]
theorem coP_tab{n c:Nat}{f:Nat→Rat}(h:c≤n):coP (tabP (n+1) f) c=f c:=by
 unfold coP tabP;rw[List.getD_eq_getElem?_getD];simp[show c< n+1 by omega]
theorem idx_pv(M:Mx)(n r c:Nat)(hr:r≤n)(hc:c≤n):idxA (fun e:List Rat=>decide (coP e c≠0)) (((List.range n).map fun k=>tabP (n+1) (M k)).drop r) 0=match pvR M n r c with|some p=>((p- r:Nat):Int)|none=> -1:=by
 cases e:pvR M n r c with
 |none=>
  refine lU_ _ _ _ fun x hx=>?_;obtain⟨i,hi⟩:=List.mem_iff_getElem?.1 hx
  have hlt:r+i< n:=by
   have:=(List.getElem?_eq_some_iff.1 hi).1;simp at this;omega
  rw[mO_ hlt] at hi;cases hi;rw[coP_tab hc,n2_ e (r+i) hlt (by omega)];decide
 |some p=>
  obtain⟨p1,p2,p3⟩:=ga_ e
  have hfirst:∀q,q< p→r≤q→M q c=0:=fun q hq hrq=>by
   have e2:=e;unfold pvR at e2;rw[List.find?_range_eq_some] at e2;have:=e2.2.2 q hq;simp at this;exact this.resolve_left (by omega)
  rw[rn_ _ _ 0 (p- r) (tabP (n+1) (M p)) (by rw[mO_ (by omega),show r+(p- r)=p by omega]) (by rw[coP_tab hc];exact decide_eq_true p3) fun i y hi hy=>?_];simp;rw[mO_ (by omega)] at hy;cases hy;rw[coP_tab hc,hfirst (r+i) (by omega) (by omega)];decide
def lvE(L:List Nat):List (List AV):=L.map fun(l:Nat)=>[i64 (l:Int)]
@[simp] theorem ei_ (L:List Nat):(lvE L).length=L.length:=by simp[lvE]
theorem co_(L:List Nat):∀e∈lvE L,∀c∈e,Closed c:=fun e he=>by
 obtain⟨l,_,rfl⟩:=List.mem_map.1 he;exact aa_ (ad_ _) ac_
theorem lvE_snoc(L:List Nat)(c:Nat):lvE (L++[c])=lvE L++[[i64 c]]:=by simp[lvE]
def lvA:List Nat→AV
 |[]=> .emp
 |l::L=> .lsl 37 0 (L.length+1) none 1
def lvB:List Nat→Hp
 |[]=>[]
 |l::L=>[(37,some ⟨3,1,lvE (l::L)⟩)]
def sx1(n:Nat)(L:List Nat):Hp:=(35,some ⟨131,3,[[.emp,.emp,i64 0]]⟩)::(36,some ⟨131,3,[[.lsl 1 0 n (some n) 1,lvA L,i64 n]]⟩)::lvB L
theorem bs_{n:Nat}{L:List Nat}:∀p∈sx1 n L,35≤p.1∧p.1< 40:=fun p hp=>by
 rcases List.mem_cons.1 hp with rfl|hp
 exact⟨(show 35≤35 by decide),(show 35< 40 by decide)⟩;rcases List.mem_cons.1 hp with rfl|hp
 exact⟨(show 35≤36 by decide),(show 36< 40 by decide)⟩;cases L with
 |nil=>cases hp
 |cons l L=>rw[List.mem_singleton.1 hp];exact⟨(show 35≤37 by decide),(show 37< 40 by decide)⟩
theorem ew_ {fr fr':Fr} {hp:Hp} {nx N n:Nat} {R:Nat→List Rat} {L:List Nat} {x:AV} (s:Nat→Nat) (hn:n≤30) (s0:s 0=0) (hinj:∀i j,InX n i→InX n j→s i=s j→i=j) (h1:lookB hp (s 1)=some ⟨32,1,rwO R s n⟩) (hr:∀i,i< n→lookB hp (s (i+2))=some ⟨46,3,pE (R i)⟩)
    (h35:lookB hp (s 35)=some ⟨131,3,[[.emp,.emp,i64 0]]⟩) (h36:lookB hp (s 36)=some ⟨131,3,[[.lsl (s 1) 0 n (some n) 1,x,i64 n]]⟩) (hx:(L=[]∧x= .emp)∨(L≠[]∧x= .lsl (s 37) 0 L.length none 1∧lookB hp (s 37)=some ⟨3,1,lvE L⟩))
    (hF:Shr ⟨40,s⟩ (lookB hp) (lookB (rwH 32 46 R n (sx1 n L)))→CvF ⟨40,s⟩ (lookB hp) (lookB (rwH 32 46 R n (sx1 n L))) fr fr'):SEnt ⟨fr,hp,nx,N⟩ ⟨fr',rwH 32 46 R n (sx1 n L),40,N⟩:=by
 refine SEntT.ent (SEntT.rw s hn s0 hinj h1 hr bs_ (fun i B h=>?_) (fun hs i B B0 h hB=>?_) hF);rcases List.mem_cons.1 h with h|h
 cases h;exact⟨_,h35,rfl,rfl,rfl⟩;rcases List.mem_cons.1 h with h|h
 cases h;exact⟨_,h36,rfl,rfl,rfl⟩;rcases hx with⟨rfl,_⟩|⟨hL,_,h37⟩
 cases h;cases L with
 |nil=>exact absurd rfl hL
 |cons l L=>cases List.mem_singleton.1 h;exact⟨_,h37,rfl,rfl,rfl⟩
 rcases List.mem_cons.1 h with h|h
 cases h;rw[h35] at hB;cases hB
 exact aU_ hs fun e he c hc=>by
  rw[List.mem_singleton.1 he] at hc;exact aa_ bq_ (aa_ bq_ (aa_ (ad_ _) ac_)) c hc
 rcases List.mem_cons.1 h with h|h
 cases h;rw[h36] at hB;cases hB;refine CvLL.cons (ae_ (Cv.sl rfl rfl ?_) (ae_ ?_ (ae_ (ai_ hs (ad_ _)) am_))) CvLL.nil;rw[bh_ (bs_ (n:=n) (L:=L))];rfl;rcases hx with⟨rfl,rfl⟩|⟨hL,rfl,h37⟩
 exact ai_ hs bq_;cases L with
 |nil=>exact absurd rfl hL
 |cons l L=>exact Cv.sl rfl rfl rfl
 rcases hx with⟨rfl,_⟩|⟨hL,_,h37⟩
 cases h;cases L with
 |nil=>exact absurd rfl hL
 |cons l L=>
  cases List.mem_singleton.1 h;rw[h37] at hB;cases hB;exact aU_ hs (co_ _)
end Go.Proofs.YtjkddcfoolilbaaGreatDoor
