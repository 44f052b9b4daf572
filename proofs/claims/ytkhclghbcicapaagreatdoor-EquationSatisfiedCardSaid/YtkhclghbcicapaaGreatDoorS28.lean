/- Part S28 of the proof. -/
import Derived.Test.YtkhclghbcicapaaGreatDoorS27
set_option linter.all false
namespace Go.Proofs.YtkhclghbcicapaaGreatDoor
open Go.Abs
set_option maxRecDepth 20000
set_option maxHeartbeats 2000000
def mE(k:List (List Rat)):List (List AV):=k.map fun e=>[.arr (pE e)]
@[simp] theorem Ec (k:List (List Rat)):(mE k).length=k.length:=by simp[mE]
theorem b5(k:List (List Rat)):∀x∈mE k,∀c∈x,Closed c:=fun x a=>by
 obtain⟨p,_,rfl⟩:=List.mem_map.1 a;exact ac (ax _) af
theorem closed_mA(k:List (List Rat)):Closed (.arr (mE k)):=aG (b5 k)
theorem fP{k:List (List Rat)}{i:Nat}{p:List Rat}(h:k[i]?=some p):∀e,e=i→(mE k)[e]?=some [.arr (pE p)]:=fun e a=>by
 rw[a,mE,List.getElem?_map,h];rfl
def imS(k:List (List Rat))(g:Nat)(cap:List AV):Nat→AState
 |i=>⟨[(0,.arr (mE k)),(1,.clos g [] cap),(7,i64 k.length),(8,i64 i)],[],1,19⟩
theorem Bm(k:List (List Rat))(g:Nat)(cap:List AV)(i:Nat):imS k g cap i=⟨[(0,.arr (mE k)),(1,.clos g [] cap),(7,i64 k.length),(8,i64 i)],[],1,19⟩:=rfl
theorem vK(k:List (List Rat))(g:Nat)(cap:List AV)(t:List Rat→Bool)(hcap:∀c∈cap,Closed c)(hl:k.length≤1099511627776)(hg:∀p∈k,FS g ((.arr (pE p)::cap).map coe) (bln (t p))):FS 141 [.arr (mE k),.clos g [] cap] (i64 (ju t k 0)):=by
 have j:Closed (.clos g [] cap):=aQ af hcap;have h:(mE k).length=k.length:=Ec k;refine f_c Tryz.func141 ?_;obtain⟨R,f⟩:∃R,R=ju t k 0:=⟨_,rfl⟩;rw[←f];refine r_z 1 ?_;refine ae (r_z 3 ?_);refine aH (fun _:Unit=>⟨[],[],1,19⟩) (fun _=>R= -1) ?_ ?_;refine aj (aB (imS k g cap) (fun i=>k.length- i) (fun i=>i≤k.length∧ju t (k.drop i) i=R) 0 ⟨Nat.zero_le _,by rw[f];rfl⟩ ?_ ?_);simp only[Bm];exact s_x [] (fun hs=>e_46) (fun hs=>e_47);rintro i ⟨l,a⟩;rw[Bm];by_cases hlt:i< k.length;refine q_z 1 ?_;refine ae (cT (am ?_));obtain⟨p,hp⟩:∃p,k[i]?=some p:=⟨_,List.getElem?_eq_getElem hlt⟩;have b:(mE k)[((i:Nat):Int).toNat]?=some [.arr (pE p)]:=fP hp _ (by simp);rw[xO hp,ju] at a;refine ae (aj (r_z 2 ?_));refine s_r 6 ?_;refine a_3 ?_;refine i_x b ?_;refine l_1 b ?_;refine c_s (hg p (List.mem_of_getElem? hp)) ?_;refine ao ?_;refine ap rfl (fun h1=>?_) (fun h1=>?_);have d:t p=true:=h1;rw[if_pos d] at a;refine r_z 2 ?_;refine ai (aU rfl ?_ ?_);rw[←a];exact ag _;have d:¬t p=true:=by rw[show t p=false from h1];decide
 rw[if_neg d] at a;refine am (r_m 2 ?_);refine a_z ?_;refine⟨i+1,by omega,⟨hlt,a⟩,?_⟩;simp only[Bm];exact s_x [] (fun hs=>e_46) (fun hs=>e_47);have e:i=k.length:=by omega
 subst e;refine q_z 1 ?_;refine ae (cF ?_);rw[List.drop_length] at a;refine ay ⟨(),a.symm,?_⟩;exact s_e [];rintro _ a;refine r_z 1 ?_;refine ai (aU rfl ?_ ?_);rw[a];rfl;exact ag _
theorem xr(k:List (List Rat))(g:Nat)(cap:List AV)(t:List Rat→Bool)(hcap:∀c∈cap,Closed c)(hl:k.length≤1099511627776)(hg:∀p∈k,FS g ((.arr (pE p)::cap).map coe) (bln (t p)))(hcap2:cap.map coe=cap):FS 122 [.arr (mE k),.clos g [] cap] (bln (k.any t)):=by
 have b:Closed (.clos g [] cap):=aQ af hcap;have e:=o0 t k 0 (Int.le_refl 0);have a:=vK k g cap t hcap hl hg;refine f_c Tryz.func122 ?_;refine r_z 1 ?_;refine r_c 5 (a) ?_;refine a_z ?_;refine ai (aU rfl ?_ ?_);rw[←e];rfl;exact ag _
theorem Bv(e:List Rat)(c:Nat)(x:Rat)(hx:e[c]?=some x):FS 142 [.arr (pE e),.aptr [[i64 c]] 0 0] (bln (decide (x≠0))):=by
 have b:c< e.length:=(List.getElem?_eq_some_iff.1 hx).1;have hl:(pE e).length=e.length:=by simp[pE]
 have a:(pE e)[((c:Nat):Int).toNat]?=some (qC x):=by simp[pE,hx]
 refine f_c Tryz.func142 ?_;refine r_z 1 ?_;refine s_r 7 ?_;refine a_2 ?_;refine i_x a ?_;refine l_x a ?_;refine c_s (ci x) ?_;refine a_z ?_;refine ai (aU rfl ?_ ?_);rw[show decide (x≠0)=decide (sgZ x.num≠0) from decide_eq_decide.2 (not_congr sgZ_num_eq.symm)]
 first|rfl|(congr 1;cases hb:decide (sgZ x.num=0) with|true=>(have:=of_decide_eq_true hb;simp[this])|false=>(have:=of_decide_eq_false hb;simp[bln,bne,this]))
 exact ag _
def syX(rows leads:AV)(n:Int):Hp:=[(35,some ⟨125,3,[[rows,leads,i64 n]]⟩)]
theorem syX_id{rows leads:AV}{n:Int}:∀p∈syX rows leads n,35≤p.1∧p.1< 40:=fun p hp=>by rw[List.mem_singleton.1 hp];exact⟨(show 35≤35 by decide),(show 35< 40 by decide)⟩
def sx0:Hp:=syX .emp .emp 0
theorem dH:∀p∈sx0,35≤p.1∧p.1< 40:=syX_id
theorem AT {fr fr':Fr} {hp:Hp} {nx N n:Nat} {R:Nat→List Rat} (s:Nat→Nat) (hn:n≤30) (s0:s 0=0) (hinj:∀i j,InX n i→InX n j→s i=s j→i=j) (h1:an hp (s 1)=some ⟨35,1,rwO R s n⟩) (hr:∀i,i< n→an hp (s (i+2))=some ⟨34,3,pE (R i)⟩) (h35:an hp (s 35)=some ⟨125,3,[[.emp,.emp,i64 0]]⟩)
    (hF:Shr ⟨40,s⟩ (an hp) (an (rwH 35 34 R n sx0))→CvF ⟨40,s⟩ (an hp) (an (rwH 35 34 R n sx0)) fr fr'):SEnt ⟨fr,hp,nx,N⟩ ⟨fr',rwH 35 34 R n sx0,40,N⟩:=
 SEntT.ent (SEntT.rw s hn s0 hinj h1 hr dH (fun i B h=>by
  cases List.mem_singleton.1 h;exact⟨_,h35,rfl,rfl,rfl⟩) (fun hs i B a h hB=>by
  cases List.mem_singleton.1 h;have hB:an hp (s 35)=some a:=hB;rw[h35] at hB;cases hB
  exact bC hs fun e b c hc=>by
   rw[List.mem_singleton.1 b] at hc;exact ac cM (ac cM (ac (ag _) af)) c hc) hF)
theorem mT {fr fr':Fr} {hp:Hp} {nx N n:Nat} {R:Nat→List Rat} (hn:n≤30) (h1:an hp 1=some ⟨35,1,rwO R (fun x=>x) n⟩) (hr:∀i,i< n→an hp (i+2)=some ⟨34,3,pE (R i)⟩) (h35:an hp 35=some ⟨125,3,[[.emp,.emp,i64 0]]⟩)
    (hF:Shr ⟨40,fun x=>x⟩ (an hp) (an (rwH 35 34 R n sx0))→CvF ⟨40,fun x=>x⟩ (an hp) (an (rwH 35 34 R n sx0)) fr fr'):SEnt ⟨fr,hp,nx,N⟩ ⟨fr',rwH 35 34 R n sx0,40,N⟩:=
 AT (fun x=>x) hn rfl (fun _ _ _ _ e=>e) h1 hr h35 hF
theorem GP{i new x:Nat}(h:x≠i+2):fiR i new x=x:=by
 unfold fiR;rw[show Nat.beq x (i+2)=false by cases hb:Nat.beq x (i+2) with|false=>rfl|true=>exact absurd (Nat.eq_of_beq_eq_true hb) h];rfl
theorem qX{n i:Nat}(hn:n≤30)(h:InX n i):i< 40:=by unfold InX at h;omega
theorem AG{r:Ren}{hp hp':Nat→Option ABlk}{fr fr':Fr}{l:Rat}{b:List Rat}(hs:Shr r hp hp')(h:CvF r hp hp' fr fr':=by repeat' (first|exact aK|refine az rfl ?_ ?_|exact ak hs (ax b)|exact ak hs (cn l)|exact ak hs (ag _)|exact Cv.sl rfl rfl rfl|exact Cv.ptr rfl rfl rfl|exact Cv.ptr rfl (by assumption) rfl|(refine Cv.loE hs ?_ (ag _);simp[i64];done))):CvF r hp hp' fr fr':=h
def svO(A:Nat→Nat→Rat)(l:Rat)(b:List Rat)(n:Nat):Nat→AState
 |i=>⟨[(0,.lsl 1 0 n (some n) 1),(2,.arr (pE b)),(4,bQ l),(6,.lptr 35 0 0),(7,i64 n),(22,i64 n),(23,i64 i)],rwH 35 34 (ph1 A l (fun t=>coP b t) n i) n sx0,40,209⟩
def svI(A:Nat→Nat→Rat)(l:Rat)(b:List Rat)(n i:Nat):Nat→AState
 |j=>⟨[(0,.lsl 1 0 n (some n) 1),(2,.arr (pE b)),(4,bQ l),(6,.lptr 35 0 0),(7,i64 n),(8,i64 i),(22,i64 n),(23,i64 i),(30,i64 n),(31,i64 j)],rwH 35 34 (upR (ph1 A l (fun t=>coP b t) n i) i (mxr A l n i j)) n sx0,40,209⟩
noncomputable def svRest:Code:=match Tryz.f91.body with|some (.seq _ (.seq _ (.seq _ y)))=>y|_=> .skip
theorem mzO_rwO(A:Nat→Nat→Rat)(n:Nat){s:Nat→Nat}(h:∀k,k< n→s (k+2)=k+2):mzO 3 (fun _=>n) (fun x=>x) n=rwO (fun k=>aS n (A k)) s n:=by
 refine List.ext_getElem? fun k=>?_;by_cases hk:k< n;rw[xb hk,dz hk k rfl,h k hk,qZ];rw[rwO_out (by omega),List.getElem?_eq_none (by simp;omega)]
theorem sv_rows (A:Nat→Nat→Rat) (l:Rat) (b:List Rat) (n:Nat) (hn:n≤25) (hb:b.length=n) (r:AV)
    (hm:∀i j:Nat,i< n→j< n→qs (A i j)+qs l≤549755813888) (ha:∀i:Nat,i< n→qs (-(A i i* l))+1≤549755813887)
    (hrest:AWp none Tryz.prog svRest (Fin Tryz.prog Tryz.f91.results.toList r) ⟨[(0,.lsl 1 0 n (some n) 1),(6,.lptr 35 0 0),(7,i64 n)],rwH 35 34 (fun k=>aS (n+1) (svM A l (fun t=>coP b t) n k)) n sx0,40,209⟩):
    XSpec Tryz.prog 91 [.lsl 1 0 n (some n) 1,.agg (qC l),.arr (pE b)] (mzH 3 35 34 (mzO 3 (fun _=>n) (fun x=>x) n) (fiL A n n)) 40 r [] 1:=by
 refine XSpec.enterC Tryz.func91 rfl (by kernel_rfl) rfl rfl rfl rfl ?_;refine r_z 2 ?_;refine AWp.ent (st':=⟨[(0,.lsl 1 0 n (some n) 1),(2,.arr (pE b)),(4,bQ l),(6,.lptr 35 0 0)],rwH 35 34 (fun k=>aS n (A k)) n sx0,40,209⟩) ?_ ?_;refine AT (fiR 33 41) (by omega) (zJ _ _) (fun x y G M e=>pu (m:=40) (Nat.le_refl _) (by decide) x y (qX (by omega) G) (qX (by omega) M) e) ?_ ?_ rfl ?_;rw[zH,←mzO_rwO A n (s:=fiR 33 41) fun k a=>iy (by omega)];rfl
 ·intro k a
  rw[iy (by omega)]
  repeat rw[bt (by omega)]
  exact c6 (fb a)
 intro hs
 have S:uL ⟨40,fiR 33 41⟩ (an (rwH 35 34 (fun k=>aS n (A k)) n sx0)) 40:=fun j B O e=>by
  obtain⟨Q⟩:=hs;have h1:j< 40:=(Q j B O).1;have e:fiR 33 41 j=40:=e;unfold fiR at e;cases hb:Nat.beq j (33+2)<;> rw[hb] at e <;> simp only[cond_true,cond_false] at e <;> omega
 exact az rfl (Cv.sl rfl rfl rfl) (az rfl (ak hs (ax b)) (az rfl (Cv.boxp hs rfl S rfl (a8 l)) (az rfl (Cv.ptr rfl rfl rfl) aK)));refine r_z 3 ?_;refine ae (r_z 3 ?_);refine aH (fun _:Unit=>⟨[(0,.lsl 1 0 n (some n) 1),(6,.lptr 35 0 0),(7,i64 n)],rwH 35 34 (fun k=>aS (n+1) (svM A l (fun t=>coP b t) n k)) n sx0,40,209⟩) (fun _=>True) ?_ ?_
 ·refine aj (aB (svO A l b n) (fun i=>n- i) (fun i=>i≤n) 0 (Nat.zero_le _) ?_ ?_)
  rw[svO.eq_1,ph1_0];exact mT (by omega) (b8 dH) (fun i q=>db dH (by omega) q) rfl fun hs=>AG (l:=l) (b:=b) hs;intro i q;rw[svO.eq_1];by_cases hlt:i< n;rotate_left;have f:i=n:=by omega
  subst f;refine q_z 1 ?_;refine ae (cF (ay ⟨(),trivial,?_⟩));refine mT (by omega) ?_ ?_ rfl fun hs=>AG (l:=l) (b:=b) hs;rw[b8 dH,fC (R':=fun k=>aS (i+1) (svM A l (fun t=>coP b t) i k)) (s':=fun x=>x)];intro k a;exact⟨by rw[ph1_n a],rfl⟩;intro k a;rw[db dH (by omega) a,ph1_n a];refine q_z 1 ?_;refine ae (cT (am (ae (aj (r_z 2 ?_)))));have g:(ph1 A l (fun t=>coP b t) n i i).length=n:=by rw[FN];simp
  have H:∀e,e=i→(rwO (ph1 A l (fun t=>coP b t) n i) (fun x=>x) n)[e]?=some [.lsl (i+2) 0 n none 3]:=fun e o=>by rw[dz hlt e o,g]
  refine ae (s_r 6 ?_);refine a_3 ?_;refine o_0 (.load_l1 rfl (dy (b8 dH) (show(1:Nat)≠0 by decide)) (H _ (by omega)) TG.h rfl) ?_;refine a_z ?_;refine aH (fun _:Unit=>svI A l b n i n) (fun _=>True) ?_ ?_
  ·refine aj (aB (svI A l b n i) (fun j=>n- j) (fun j=>j≤n) 0 (Nat.zero_le _) ?_ ?_)
   rw[svI.eq_1,←FN A l (fun t=>coP b t),upR_id];exact mT (by omega) (b8 dH) (fun i q=>db dH (by omega) q) rfl fun hs=>AG (l:=l) (b:=b) hs;intro j O;rw[svI.eq_1];by_cases hjn:j< n;rotate_left;have f:j=n:=by omega
   subst f;refine q_z 1 ?_;refine ae (cF (ay ⟨(),trivial,?_⟩));exact mT (by omega) (b8 dH) (fun i q=>db dH (by omega) q) rfl fun hs=>AG (l:=l) (b:=b) hs;have L:=cU (A i j) l (hm i j hlt hjn);have K:=jU (A i j* l);have c:=jm (TS:=35) (TQ:=34) (R:=upR (ph1 A l (fun t=>coP b t) n i) i (mxr A l n i j)) dH (by omega:n≤30) hlt;rw[dV] at c;have d:∀e,e=i→(rwO (upR (ph1 A l (fun t=>coP b t) n i) i (mxr A l n i j)) (fun x=>x) n)[e]?=some [.lsl (i+2) 0 n none 3]:=fun e o=>by rw[dz hlt e o,dV,tD]
   have C:=dy (b8 (TS:=35) (TQ:=34) (n:=n) (R:=upR (ph1 A l (fun t=>coP b t) n i) i (mxr A l n i j)) dH) (show(1:Nat)≠0 by decide);refine q_z 1 ?_;refine ae (cT (am (ae (aj (r_z 2 ?_)))));refine r_d aY 17 ?_;refine a_3 ?_;refine o_0 (.load_l1 rfl C (d _ (by omega)) TG.h rfl) ?_;refine a_4 ?_;refine o_0 (.load_l1 rfl C (d _ (by omega)) TG.h rfl) ?_;refine a_2 ?_;refine o_0 (.load_l rfl c (CW hjn _ (by omega)) TG.h TS.h (nle rfl)) ?_;refine c_s (L) ?_;refine c_s (K) ?_;refine a_1 ?_;refine dX (.store rfl c (CW hjn _ (by omega)) rfl rfl rfl TS.h (nle rfl)) ?_;refine ao (n_k ?_);refine r_m 2 ?_;refine a_z ?_;refine⟨j+1,by omega,by omega,?_⟩;rw[svI.eq_1];refine mT (by omega) ?_ ?_ ?_ fun hs=>AG (l:=l) (b:=b) hs;rw[bt (by omega),b8 dH,fC (R':=upR (ph1 A l (fun t=>coP b t) n i) i (mxr A l n i (j+1))) (s':=fun x=>x)];intro k a;by_cases h:k=i;subst h;rw[dV,dV];simp;rw[jN _ _ h,jN _ _ h];simp;intro k a;by_cases h:k=i;subst h;rw[dV,←mxr_set hjn (0+((j:Nat):Int).toNat) (by omega),cS,aX];rfl;rw[bt (by omega),db dH (by omega) a,jN _ _ h,jN _ _ h];rw[bt (by omega)];rfl
  rintro _ _;show AWp _ _ _ _ (svI A l b n i n);rw[svI.eq_1];have c:=jm (TS:=35) (TQ:=34) (R:=upR (ph1 A l (fun t=>coP b t) n i) i (mxr A l n i n)) dH (by omega:n≤30) hlt;rw[dV] at c;have d:∀e,e=i→(rwO (upR (ph1 A l (fun t=>coP b t) n i) i (mxr A l n i n)) (fun x=>x) n)[e]?=some [.lsl (i+2) 0 n none 3]:=fun e o=>by rw[dz hlt e o,dV,tD]
  have C:=dy (b8 (TS:=35) (TQ:=34) (n:=n) (R:=upR (ph1 A l (fun t=>coP b t) n i) i (mxr A l n i n)) dH) (show(1:Nat)≠0 by decide);have F:=dK 1 (by decide);have hq1:qs 1≤1:=by decide
  have J:=fl (-(A i i* l)) 1 (by have:=ha i hlt;omega);refine ae (r_d aY 16 ?_);refine a_3 ?_;refine o_0 (.load_l1 rfl C (d _ (by omega)) TG.h rfl) ?_;refine a_4 ?_;refine o_0 (.load_l1 rfl C (d _ (by omega)) TG.h rfl) ?_;refine a_2 ?_;refine o_0 (.load_l rfl c (yT hlt _ (by omega)) TG.h TS.h (nle rfl)) ?_;refine c_s (F) ?_;refine c_s (J) ?_;refine a_1 ?_;refine dX (.store rfl c (yT hlt _ (by omega)) rfl rfl rfl TS.h (nle rfl)) ?_;refine ao (n_k ?_);refine AWp.ent (st':=⟨[(0,.lsl 1 0 n (some n) 1),(2,.arr (pE b)),(4,bQ l),(6,.lptr 35 0 0),(7,i64 n),(8,i64 i),(22,i64 n),(23,i64 i)],rwH 35 34 (upR (ph1 A l (fun t=>coP b t) n i) i (dgr A l n i)) n sx0,40,209⟩) ?_ ?_;refine mT (by omega) ?_ ?_ ?_ fun hs=>AG (l:=l) (b:=b) hs;rw[bt (by omega),b8 dH,fC (R':=upR (ph1 A l (fun t=>coP b t) n i) i (dgr A l n i)) (s':=fun x=>x)];intro k a;by_cases h:k=i;subst h;rw[dV,dV];simp;rw[jN _ _ h,jN _ _ h];simp;intro k a;by_cases h:k=i;subst h;rw[dV,←mxr_one hlt (0+((k:Nat):Int).toNat) (by omega),cS,aX];rfl;rw[bt (by omega),db dH (by omega) a,jN _ _ h,jN _ _ h];rw[bt (by omega)];rfl
  have w:∀(k:Nat) (B:Option ABlk),k≠i+2→dm (an ((k,B)::rwH 35 34 (upR (ph1 A l (fun t=>coP b t) n i) i (dgr A l n i)) n sx0)) (i+2)=some ⟨34,3,pE (dgr A l n i)⟩:=fun k B a=>dy (by
   have:=db (TS:=35) (TQ:=34) (R:=upR (ph1 A l (fun t=>coP b t) n i) i (dgr A l n i)) dH (by omega:n≤30) hlt;rw[dV] at this;rw[bt a];exact this) (show(3:Nat)≠0 by decide)
  have u:∀e,e=i→(rwO (upR (ph1 A l (fun t=>coP b t) n i) i (dgr A l n i)) (fun x=>x) n)[e]?=some [.lsl (i+2) 0 n none 3]:=fun e o=>by rw[dz hlt e o,dV,B3]
  have D:=dy (b8 (TS:=35) (TQ:=34) (n:=n) (R:=upR (ph1 A l (fun t=>coP b t) n i) i (dgr A l n i)) dH) (show(1:Nat)≠0 by decide);have T:(pE b).length=n:=by simp[pE,hb]
  have z:(pE b)[((i:Nat):Int).toNat]?=some (qC (coP b i)):=by
   have:=b9 (p:=b) (i:=i) (by omega);simp[pE,this]
  have E:(pE (dgr A l n i)).length=n:=by simp[pE]
  have v:(50:Nat)≠i+2:=by omega
  refine r_d aY 14 ?_;refine a_5 ?_;refine o_0 (.load_l1 rfl D (u _ (by omega)) TG.h rfl) ?_;refine a_2 ?_;refine i_x z ?_;refine l_x z ?_;refine a_1 ?_;refine o_2 (.append_l rfl rfl rfl te_35.h rfl rfl (w 50 _ v) rfl rfl E (dJ _) (by rfl) rfl (.lsl rfl (nle rfl)) TZ.h rfl TB.h (by first|rfl|assumption|(simp;done)|(simp;omega)|omega) (by first|(simp[maxLen];done)|(simp[maxLen];omega))) ?_;refine a_1 ?_;refine dX (.store rfl rfl (u _ (by omega)) rfl rfl rfl TS.h (nle rfl)) ?_;refine ao (n_k ?_);refine r_m 2 ?_;refine a_z ?_;refine⟨i+1,by omega,by omega,?_⟩;rw[svO.eq_1,←FM,←upR_up (ph1 A l (fun t=>coP b t) n i) i (dgr A l n i) (aS (n+1) (svM A l (fun t=>coP b t) n i))];have N:fiR i 51 35=35:=GP (by omega);refine AT (fiR i 51) (by omega) (zJ _ _) (fun x y G M e=>pu (m:=40) (Nat.le_refl _) (by decide) x y (qX (by omega) G) (qX (by omega) M) e) ?_ ?_ ?_ fun hs=>AG (l:=l) (b:=b) hs;rw[zH,←Ft (new:=51) (m:=n+1) hlt (by simp) (0+((i:Nat):Int).toNat) (by omega)];rfl;intro k a;by_cases h:k=i;subst h;rw[dV,ni,←dgr_app,j6];rfl
  ·rw[iy h,jN _ _ h]
   repeat rw[bt (by omega)]
   exact db dH (by omega) a
  ·rw[GP (by omega)]
   repeat rw[bt (by omega)]
   rfl
 rintro _ _;exact hrest
theorem Fu(R:Nat→List Rat)(n:Nat):(rwL R n).map (fun e=>([.arr e]:List AV))=mE ((List.range n).map R):=by simp[rwL,mE]
theorem C2(k:List (List Rat))(a:Nat):(mE k).drop a=mE (k.drop a):=by simp[mE,List.map_drop]
def rwI(n:Nat):List Nat:=1::(List.range n).map (· +2)
theorem HP{r:Ren}{hp hp':Nat→Option ABlk}{cap:Option Nat}{TS TQ a m n:Nat}{R:Nat→List Rat}(hh:∀i∈rwI n,hp' i=hp i)(h1:hp 1=some ⟨TS,1,rwO R (fun x=>x) n⟩)(hr:∀i,i< n→hp (i+2)=some ⟨TQ,3,pE (R i)⟩)(ham:a+m=n):
    Cv r hp' (fun _=>none) (.lsl 1 a m cap 1) (.arr (mE (((List.range n).map R).drop a))):=by
 have e:mE (((List.range n).map R).drop a)=(((rwL R n).map fun e=>([.arr e]:List AV)).drop a).take m:=by
  rw[Fu,C2,List.take_of_length_le (by simp;omega)]
 rw[e];have f:(rwL R n).length=n:=nO R n;refine Cv.mzV (sz:=3) (TS:=TS) (TQ:=TQ) (w:=fun k=>(R k).length) (by decide) ?_ (fun i x b=>?_) (fun i x b=>by rw[(AU b).2];simp[pE]) (fun x b y g c hc=>?_) (by rw[f];omega);rw[hh 1 (List.mem_cons_self ..),h1,f];rfl;obtain⟨d,rfl⟩:=AU b;rw[hh (i+2) (List.mem_cons_of_mem _ (List.mem_map.2 ⟨i,List.mem_range.2 d,rfl⟩)),hr i d];obtain⟨k,_,rfl⟩:=List.mem_map.1 b;exact aL _ y g c hc
theorem fs_lead(R:Nat→List Rat)(n r c:Nat)(hn:n≤1000)(hl:∀i,i< n→c< (R i).length):
    FS 141 [.arr (mE (((List.range n).map R).drop r)),.clos 142 [] [.aptr [[i64 c]] 0 0]] (i64 (ju (fun e:List Rat=>decide (coP e c≠0)) (((List.range n).map R).drop r) 0)):=
 vK _ 142 [.aptr [[i64 c]] 0 0] _ (ac (a7 (ac (ag _) af)) af) (by simp;omega) fun e a=>by
  obtain⟨i,b,rfl⟩:=List.mem_map.1 (List.mem_of_mem_drop a);exact Bv _ c _ (b9 (hl i (List.mem_range.1 b)))
theorem vy{α:Type}(t:α→Bool):∀(l:List α) (k:Int),(∀x∈l,t x=false)→ju t l k= -1
 |[],_,_=>rfl
 |a::l,k,h=>by
  rw[ju,if_neg (by rw[h a (List.mem_cons_self ..)];decide)];exact vy t l _ fun x b=>h x (List.mem_cons_of_mem _ b)
theorem Db{α:Type}(t:α→Bool):∀(l:List α) (k:Int) (j:Nat) (x:α),l[j]?=some x→t x=true→(∀i y,i< j→l[i]?=some y→t y=false)→ju t l k=k+j
 |[],_,_,_,h,_,_=>by cases h
 |a::l,k,0,x,h,h2,_=>by
  cases h;rw[ju,if_pos h2];simp
 |a::l,k,j+1,x,h,h2,h3=>by
  rw[ju,if_neg (by rw[h3 0 a (by omega) rfl];decide),Db t l (k+1) j x (by simpa using h) h2 fun i y c b=>h3 (i+1) y (by omega) (by simpa using b)];omega
theorem wM{M:Mx}{n r i:Nat}(h:r+i< n):(((List.range n).map fun k=>aS (n+1) (M k)).drop r)[i]?=some (aS (n+1) (M (r+i))):=by
 rw[List.getElem?_drop];simp[h]
theorem coP_tab{n c:Nat}{f:Nat→Rat}(h:c≤n):coP (aS (n+1) f) c=f c:=by
 unfold coP aS;rw[List.getD_eq_getElem?_getD];simp[show c< n+1 by omega]
theorem idx_pv(M:Mx)(n r c:Nat)(hr:r≤n)(hc:c≤n):ju (fun e:List Rat=>decide (coP e c≠0)) (((List.range n).map fun k=>aS (n+1) (M k)).drop r) 0=match pvR M n r c with|some p=>((p- r:Nat):Int)|none=> -1:=by
 cases e:pvR M n r c with
 |none=>
  refine vy _ _ _ fun x l=>?_;obtain⟨i,d⟩:=List.mem_iff_getElem?.1 l
  have b:r+i< n:=by
   have:=(List.getElem?_eq_some_iff.1 d).1;simp at this;omega
  rw[wM b] at d;cases d;rw[coP_tab hc,yF e (r+i) b (by omega)];decide
 |some p=>
  obtain⟨p1,p2,h⟩:=lH e
  have a:∀q,q< p→r≤q→M q c=0:=fun q j g=>by
   have e2:=e;unfold pvR at e2;rw[List.find?_range_eq_some] at e2;have:=e2.2.2 q j;simp at this;exact this.resolve_left (by omega)
  rw[Db _ _ 0 (p- r) (aS (n+1) (M p)) (by rw[wM (by omega),show r+(p- r)=p by omega]) (by rw[coP_tab hc];exact decide_eq_true h) fun i y d f=>?_];simp;rw[wM (by omega)] at f;cases f;rw[coP_tab hc,a (r+i) (by omega) (by omega)];decide
def lvE(L:List Nat):List (List AV):=L.map fun(l:Nat)=>[i64 (l:Int)]
@[simp] theorem jr (L:List Nat):(lvE L).length=L.length:=by simp[lvE]
theorem cK(L:List Nat):∀e∈lvE L,∀c∈e,Closed c:=fun e a=>by
 obtain⟨l,_,rfl⟩:=List.mem_map.1 a;exact ac (ag _) af
theorem F4(L:List Nat)(c:Nat):lvE (L++[c])=lvE L++[[i64 c]]:=by simp[lvE]
def lvA:List Nat→AV
 |[]=> .emp
 |l::L=> .lsl 37 0 (L.length+1) none 1
def lvB:List Nat→Hp
 |[]=>[]
 |l::L=>[(37,some ⟨3,1,lvE (l::L)⟩)]
def sx1(n:Nat)(L:List Nat):Hp:=(35,some ⟨125,3,[[.emp,.emp,i64 0]]⟩)::(36,some ⟨125,3,[[.lsl 1 0 n (some n) 1,lvA L,i64 n]]⟩)::lvB L
theorem cf{n:Nat}{L:List Nat}:∀p∈sx1 n L,35≤p.1∧p.1< 40:=fun p hp=>by
 rcases List.mem_cons.1 hp with rfl|hp
 exact⟨(show 35≤35 by decide),(show 35< 40 by decide)⟩;rcases List.mem_cons.1 hp with rfl|hp
 exact⟨(show 35≤36 by decide),(show 36< 40 by decide)⟩;cases L with
 |nil=>cases hp
 |cons l L=>rw[List.mem_singleton.1 hp];exact⟨(show 35≤37 by decide),(show 37< 40 by decide)⟩
theorem iT {fr fr':Fr} {hp:Hp} {nx N n:Nat} {R:Nat→List Rat} {L:List Nat} {x:AV} (s:Nat→Nat) (hn:n≤30) (s0:s 0=0) (hinj:∀i j,InX n i→InX n j→s i=s j→i=j) (h1:an hp (s 1)=some ⟨35,1,rwO R s n⟩) (hr:∀i,i< n→an hp (s (i+2))=some ⟨34,3,pE (R i)⟩)
    (h35:an hp (s 35)=some ⟨125,3,[[.emp,.emp,i64 0]]⟩) (h36:an hp (s 36)=some ⟨125,3,[[.lsl (s 1) 0 n (some n) 1,x,i64 n]]⟩) (hx:(L=[]∧x= .emp)∨(L≠[]∧x= .lsl (s 37) 0 L.length none 1∧an hp (s 37)=some ⟨3,1,lvE L⟩))
    (hF:Shr ⟨40,s⟩ (an hp) (an (rwH 35 34 R n (sx1 n L)))→CvF ⟨40,s⟩ (an hp) (an (rwH 35 34 R n (sx1 n L))) fr fr'):SEnt ⟨fr,hp,nx,N⟩ ⟨fr',rwH 35 34 R n (sx1 n L),40,N⟩:=by
 refine SEntT.ent (SEntT.rw s hn s0 hinj h1 hr cf (fun i B h=>?_) (fun hs i B f h hB=>?_) hF);rcases List.mem_cons.1 h with h|h
 cases h;exact⟨_,h35,rfl,rfl,rfl⟩;rcases List.mem_cons.1 h with h|h
 cases h;exact⟨_,h36,rfl,rfl,rfl⟩;rcases hx with⟨rfl,_⟩|⟨b,_,a⟩
 cases h;cases L with
 |nil=>exact absurd rfl b
 |cons l L=>cases List.mem_singleton.1 h;exact⟨_,a,rfl,rfl,rfl⟩
 rcases List.mem_cons.1 h with h|h
 cases h;rw[h35] at hB;cases hB
 exact bC hs fun e d c hc=>by
  rw[List.mem_singleton.1 d] at hc;exact ac cM (ac cM (ac (ag _) af)) c hc
 rcases List.mem_cons.1 h with h|h
 cases h;rw[h36] at hB;cases hB;refine CvLL.cons (ah (Cv.sl rfl rfl ?_) (ah ?_ (ah (ak hs (ag _)) av))) CvLL.nil;rw[b8 (cf (n:=n) (L:=L))];rfl;rcases hx with⟨rfl,rfl⟩|⟨b,rfl,a⟩
 exact ak hs cM;cases L with
 |nil=>exact absurd rfl b
 |cons l L=>exact Cv.sl rfl rfl rfl
 rcases hx with⟨rfl,_⟩|⟨b,_,a⟩
 cases h;cases L with
 |nil=>exact absurd rfl b
 |cons l L=>
  cases List.mem_singleton.1 h;rw[a] at hB;cases hB;exact bC hs (cK _)
end Go.Proofs.YtkhclghbcicapaaGreatDoor
