/- Part V23. -/
import Derived.Test.YtiodeiecpoopgaaGreatDoorV22
set_option linter.all false
namespace Go.Proofs.YtiodeiecpoopgaaGreatDoor
open Go.Abs
set_option maxRecDepth 20000
set_option maxHeartbeats 2000000
def mE(k:Lw):Lc:=k.map fun e=>[.arr (pE e)]
@[simp] theorem Gw (k:Lw):(mE k).length=k.length:=by simp[mE]
theorem ca(k:Lw):∀x∈mE k,∀c∈x,Closed c:=fun x a=>by
 obtain⟨p,_,rfl⟩:=List.mem_map.1 a;exact ac (az _) af
theorem closed_mA(k:Lw):Closed (.arr (mE k)):=aG (ca k)
theorem iH{k:Lw}{i:Nat}{p:Lq}(h:k[i]?=some p):∀e,e=i->(mE k)[e]?=some [.arr (pE p)]:=fun e a=>by
 rw[a,mE,List.getElem?_map,h];rfl
def imS(k:Lw)(g:Nat)(cap:La):Nat->AState
 |i=>⟨[(0,.arr (mE k)),(1,.clos g [] cap),(7,i64 k.length),(8,i64 i)],[],1,19⟩
theorem xp(k:Lw)(g:Nat)(cap:La)(t:Lq->Bool)(hcap:∀c∈cap,Closed c)(hl:k.length<=1099511627776)(hg:∀p∈k,FS g ((.arr (pE p)::cap).map coe) (bln (t p))):FS 131 [.arr (mE k),.clos g [] cap] (i64 (j5 t k 0)):=by
 have j:Closed (.clos g [] cap):=aQ af hcap;have l:(mE k).length=k.length:=Gw k;refine f_c Tryz.func131 ?_;obtain⟨R,h⟩:∃R,R=j5 t k 0:=⟨_,rfl⟩;rw[<-h];refine r_z 1 ?_;refine ae (r_z 3 ?_);refine aC (fun _:Unit=>⟨[],[],1,19⟩) (fun _=>R= -1) ?_ ?_;refine ah (ax (imS k g cap) (fun i=>k.length- i) (fun i=>i<=k.length/\j5 t (k.drop i) i=R) 0 ⟨Nat.zero_le _,by rw[h];rfl⟩ ?_ ?_);simp only[imS.eq_1];exact s_x [] (fun hs=>e_42) (fun hs=>e_43);rintro i ⟨m,a⟩;rw[imS.eq_1];by_cases hlt:i< k.length;refine q_z 1 ?_;refine ae (cT (am ?_));obtain⟨p,hp⟩:∃p,k[i]?=some p:=⟨_,List.getElem?_eq_getElem hlt⟩;have b:(mE k)[((i:Nat):Int).toNat]?=some [.arr (pE p)]:=iH hp _ (by simp);rw[zt hp,j5] at a;refine ae (ah (r_z 2 ?_));refine s_r 6 ?_;refine a_3 ?_;refine i_x b ?_;refine l_1 b ?_;refine c_s (hg p (List.mem_of_getElem? hp)) ?_;refine ao ?_;refine ap rfl (fun f=>?_) (fun f=>?_);have e:t p=true:=f;rw[if_pos e] at a;refine r_z 2 ?_;refine aj (aM rfl ?_ ?_);rw[<-a];exact ag _;have e:¬t p=true:=by rw[show t p=false from f];decide
 rw[if_neg e] at a;refine am (r_m 2 ?_);refine a_z ?_;refine⟨i+1,by omega,⟨hlt,a⟩,?_⟩;simp only[imS.eq_1];exact s_x [] (fun hs=>e_42) (fun hs=>e_43);have d:i=k.length:=by omega
 subst d;refine q_z 1 ?_;refine ae (cF ?_);rw[List.drop_length] at a;refine aw ⟨(),a.symm,?_⟩;exact s_e [];rintro _ a;refine r_z 1 ?_;refine aj (aM rfl ?_ ?_);rw[a];rfl;exact ag _
theorem y8(k:Lw)(g:Nat)(cap:La)(t:Lq->Bool)(hcap:∀c∈cap,Closed c)(hl:k.length<=1099511627776)(hg:∀p∈k,FS g ((.arr (pE p)::cap).map coe) (bln (t p)))(hcap2:cap.map coe=cap):FS 102 [.arr (mE k),.clos g [] cap] (bln (k.any t)):=by
 have a:Closed (.clos g [] cap):=aQ af hcap;have e:=pz t k 0 (Int.le_refl 0);have b:=xp k g cap t hcap hl hg;refine f_c Tryz.func102 ?_;refine r_z 1 ?_;refine r_c 5 (b) ?_;refine a_z ?_;refine aj (aM rfl ?_ ?_);rw[<-e];rfl;exact ag _
theorem Dj(e:Lq)(c:Nat)(x:Rat)(hx:e[c]?=some x):FS 132 [.arr (pE e),.aptr [[i64 c]] 0 0] (bln (decide (x≠0))):=by
 have b:c< e.length:=(List.getElem?_eq_some_iff.1 hx).1;have hl:(pE e).length=e.length:=by simp[pE]
 have a:(pE e)[((c:Nat):Int).toNat]?=some (qC x):=by simp[pE,hx]
 refine f_c Tryz.func132 ?_;refine r_z 1 ?_;refine s_r 7 ?_;refine a_2 ?_;refine i_x a ?_;refine l_x a ?_;refine c_s (cJ x) ?_;refine a_z ?_;refine aj (aM rfl ?_ ?_);rw[show decide (x≠0)=decide (sgZ x.num≠0) from decide_eq_decide.2 (not_congr sgZ_num_eq.symm)]
 first|rfl|(congr 1;cases hb:decide (sgZ x.num=0) with|true=>(have:=of_decide_eq_true hb;simp[this])|false=>(have:=of_decide_eq_false hb;simp[bln,bne,this]))
 exact ag _
def syX(rows leads:AV)(n:Int):Hp:=[(35,some ⟨117,3,[[rows,leads,i64 n]]⟩)]
theorem syX_id{rows leads:AV}{n:Int}:∀p∈syX rows leads n,35<=p.1/\p.1< 40:=fun p hp=>by rw[List.mem_singleton.1 hp];exact⟨(show 35<=35 by decide),(show 35< 40 by decide)⟩
def sx0:Hp:=syX .emp .emp 0
theorem dY:∀p∈sx0,35<=p.1/\p.1< 40:=syX_id
theorem CE {fr fr':Fr} {hp:Hp} {nx N n:Nat} {R:Nat->Lq} (s:Nat->Nat) (hn:n<=30) (s0:s 0=0) (hinj:∀i j,InX n i->InX n j->s i=s j->i=j) (h1:an hp (s 1)=some ⟨34,1,rwO R s n⟩) (hr:∀i,i< n->an hp (s (i+2))=some ⟨48,3,pE (R i)⟩) (h35:an hp (s 35)=some ⟨117,3,[[.emp,.emp,i64 0]]⟩)
    (hF:Shr ⟨40,s⟩ (an hp) (an (rwH 34 48 R n sx0))->CvF ⟨40,s⟩ (an hp) (an (rwH 34 48 R n sx0)) fr fr'):SEnt ⟨fr,hp,nx,N⟩ ⟨fr',rwH 34 48 R n sx0,40,N⟩:=
 SEntT.ent (SEntT.rw s hn s0 hinj h1 hr dY (fun i B h=>by
  cases List.mem_singleton.1 h;exact⟨_,h35,rfl,rfl,rfl⟩) (fun hs i B d h a=>by
  cases List.mem_singleton.1 h;have a:an hp (s 35)=some d:=a;rw[h35] at a;cases a
  exact aV hs fun e f c b=>by
   rw[List.mem_singleton.1 f] at b;exact ac b9 (ac b9 (ac (ag _) af)) c b) hF)
theorem nM {fr fr':Fr} {hp:Hp} {nx N n:Nat} {R:Nat->Lq} (hn:n<=30) (h1:an hp 1=some ⟨34,1,rwO R (fun x=>x) n⟩) (hr:∀i,i< n->an hp (i+2)=some ⟨48,3,pE (R i)⟩) (h35:an hp 35=some ⟨117,3,[[.emp,.emp,i64 0]]⟩)
    (hF:Shr ⟨40,fun x=>x⟩ (an hp) (an (rwH 34 48 R n sx0))->CvF ⟨40,fun x=>x⟩ (an hp) (an (rwH 34 48 R n sx0)) fr fr'):SEnt ⟨fr,hp,nx,N⟩ ⟨fr',rwH 34 48 R n sx0,40,N⟩:=
 CE (fun x=>x) hn rfl (fun _ _ _ _ e=>e) h1 hr h35 hF
theorem JX{i new x:Nat}(h:x≠i+2):fiR i new x=x:=by
 unfold fiR;rw[show Nat.beq x (i+2)=false by cases hb:Nat.beq x (i+2) with|false=>rfl|true=>exact absurd (Nat.eq_of_beq_eq_true hb) h];rfl
theorem k6{n i:Nat}(hn:n<=30)(h:InX n i):i< 40:=by unfold InX at h;omega
theorem Cn{r:Ren}{hp hp':Hq}{fr fr':Fr}{l:Rat}{b:Lq}(hs:Shr r hp hp')(h:CvF r hp hp' fr fr':=by repeat' (first|exact aI|refine au rfl ?_ ?_|exact ai hs (az b)|exact ai hs (cD l)|exact ai hs (ag _)|exact Cv.sl rfl rfl rfl|exact Cv.ptr rfl rfl rfl|exact Cv.ptr rfl (by assumption) rfl|(refine Cv.loE hs ?_ (ag _);simp[i64];done))):CvF r hp hp' fr fr':=h
def svO(A:Nat->Nat->Rat)(l:Rat)(b:Lq)(n:Nat):Nat->AState
 |i=>⟨[(0,.lsl 1 0 n (some n) 1),(2,.arr (pE b)),(4,bQ l),(6,.lptr 35 0 0),(7,i64 n),(22,i64 n),(23,i64 i)],rwH 34 48 (ph1 A l (fun t=>coP b t) n i) n sx0,40,209⟩
def svI(A:Nat->Nat->Rat)(l:Rat)(b:Lq)(n i:Nat):Nat->AState
 |j=>⟨[(0,.lsl 1 0 n (some n) 1),(2,.arr (pE b)),(4,bQ l),(6,.lptr 35 0 0),(7,i64 n),(8,i64 i),(22,i64 n),(23,i64 i),(30,i64 n),(31,i64 j)],rwH 34 48 (upR (ph1 A l (fun t=>coP b t) n i) i (mxr A l n i j)) n sx0,40,209⟩
noncomputable def svRest:Code:=match Tryz.f72.body with|some (.seq _ (.seq _ (.seq _ y)))=>y|_=> .skip
theorem mzO_rwO(A:Nat->Nat->Rat)(n:Nat){s:Nat->Nat}(h:∀k,k< n->s (k+2)=k+2):mzO 3 (fun _=>n) (fun x=>x) n=rwO (fun k=>aJ n (A k)) s n:=by
 refine List.ext_getElem? fun k=>?_;by_cases hk:k< n;rw[tA hk,dR hk k rfl,h k hk,sJ];rw[rwO_out (by omega),List.getElem?_eq_none (by simp;omega)]
theorem sv_rows (A:Nat->Nat->Rat) (l:Rat) (b:Lq) (n:Nat) (hn:n<=25) (hb:b.length=n) (r:AV)
    (hm:∀i j:Nat,i< n->j< n->qs (A i j)+qs l<=549755813888) (ha:∀i:Nat,i< n->qs (-(A i i* l))+1<=549755813887)
    (hrest:AWp none Tryz.prog svRest (Fin Tryz.prog Tryz.f72.results.toList r) ⟨[(0,.lsl 1 0 n (some n) 1),(6,.lptr 35 0 0),(7,i64 n)],rwH 34 48 (fun k=>aJ (n+1) (svM A l (fun t=>coP b t) n k)) n sx0,40,209⟩):
    XSpec Tryz.prog 72 [.lsl 1 0 n (some n) 1,.agg (qC l),.arr (pE b)] (mzH 3 34 48 (mzO 3 (fun _=>n) (fun x=>x) n) (fiL A n n)) 40 r [] 1:=by
 refine XSpec.enterC Tryz.func72 rfl (by kernel_rfl) rfl rfl rfl rfl ?_;refine r_z 2 ?_;refine AWp.ent (st':=⟨[(0,.lsl 1 0 n (some n) 1),(2,.arr (pE b)),(4,bQ l),(6,.lptr 35 0 0)],rwH 34 48 (fun k=>aJ n (A k)) n sx0,40,209⟩) ?_ ?_;refine CE (fiR 33 41) (by omega) (sY _ _) (fun x y K G e=>mc (m:=40) (Nat.le_refl _) (by decide) x y (k6 (by omega) K) (k6 (by omega) G) e) ?_ ?_ rfl ?_;rw[sX,<-mzO_rwO A n (s:=fiR 33 41) fun k a=>fg (by omega)];rfl
 ·intro k a
  rw[fg (by omega)]
  repeat rw[aK (by omega)]
  exact dh (fw a)
 intro hs
 have Q:sH ⟨40,fiR 33 41⟩ (an (rwH 34 48 (fun k=>aJ n (A k)) n sx0)) 40:=fun j B O e=>by
  obtain⟨U⟩:=hs;have V:j< 40:=(U j B O).1;have e:fiR 33 41 j=40:=e;unfold fiR at e;cases hb:Nat.beq j (33+2)<;> rw[hb] at e <;> simp only[cond_true,cond_false] at e <;> omega
 exact au rfl (Cv.sl rfl rfl rfl) (au rfl (ai hs (az b)) (au rfl (Cv.boxp hs rfl Q rfl (bi l)) (au rfl (Cv.ptr rfl rfl rfl) aI)));refine r_z 3 ?_;refine ae (r_z 3 ?_);refine aC (fun _:Unit=>⟨[(0,.lsl 1 0 n (some n) 1),(6,.lptr 35 0 0),(7,i64 n)],rwH 34 48 (fun k=>aJ (n+1) (svM A l (fun t=>coP b t) n k)) n sx0,40,209⟩) (fun _=>True) ?_ ?_
 ·refine ah (ax (svO A l b n) (fun i=>n- i) (fun i=>i<=n) 0 (Nat.zero_le _) ?_ ?_)
  rw[svO.eq_1,ph1_0];exact nM (by omega) (ce dY) (fun i q=>dp dY (by omega) q) rfl fun hs=>Cn (l:=l) (b:=b) hs;intro i q;rw[svO.eq_1];by_cases hlt:i< n;rotate_left;have f:i=n:=by omega
  subst f;refine q_z 1 ?_;refine ae (cF (aw ⟨(),trivial,?_⟩));refine nM (by omega) ?_ ?_ rfl fun hs=>Cn (l:=l) (b:=b) hs;rw[ce dY,fY (R':=fun k=>aJ (i+1) (svM A l (fun t=>coP b t) i k)) (s':=fun x=>x)];intro k a;exact⟨by rw[ph1_n a],rfl⟩;intro k a;rw[dp dY (by omega) a,ph1_n a];refine q_z 1 ?_;refine ae (cT (am (ae (ah (r_z 2 ?_)))));have o:(ph1 A l (fun t=>coP b t) n i i).length=n:=by rw[IK];simp
  have H:∀e,e=i->(rwO (ph1 A l (fun t=>coP b t) n i) (fun x=>x) n)[e]?=some [.lsl (i+2) 0 n none 3]:=fun e g=>by rw[dR hlt e g,o]
  refine ae (s_r 6 ?_);refine a_3 ?_;refine o_0 (.load_l1 rfl (dn (ce dY) (show(1:Nat)≠0 by decide)) (H _ (by omega)) TG.h rfl) ?_;refine a_z ?_;refine aC (fun _:Unit=>svI A l b n i n) (fun _=>True) ?_ ?_
  ·refine ah (ax (svI A l b n i) (fun j=>n- j) (fun j=>j<=n) 0 (Nat.zero_le _) ?_ ?_)
   rw[svI.eq_1,<-IK A l (fun t=>coP b t),upR_id];exact nM (by omega) (ce dY) (fun i q=>dp dY (by omega) q) rfl fun hs=>Cn (l:=l) (b:=b) hs;intro j O;rw[svI.eq_1];by_cases hjn:j< n;rotate_left;have f:j=n:=by omega
   subst f;refine q_z 1 ?_;refine ae (cF (aw ⟨(),trivial,?_⟩));exact nM (by omega) (ce dY) (fun i q=>dp dY (by omega) q) rfl fun hs=>Cn (l:=l) (b:=b) hs;have F:=da (A i j) l (hm i j hlt hjn);have E:=kX (A i j* l);have c:=jT (TS:=34) (TQ:=48) (R:=upR (ph1 A l (fun t=>coP b t) n i) i (mxr A l n i j)) dY (by omega:n<=30) hlt;rw[er] at c;have d:∀e,e=i->(rwO (upR (ph1 A l (fun t=>coP b t) n i) i (mxr A l n i j)) (fun x=>x) n)[e]?=some [.lsl (i+2) 0 n none 3]:=fun e g=>by rw[dR hlt e g,er,uX]
   have w:=dn (ce (TS:=34) (TQ:=48) (n:=n) (R:=upR (ph1 A l (fun t=>coP b t) n i) i (mxr A l n i j)) dY) (show(1:Nat)≠0 by decide);refine q_z 1 ?_;refine ae (cT (am (ae (ah (r_z 2 ?_)))));refine r_d aT 17 ?_;refine a_3 ?_;refine o_0 (.load_l1 rfl w (d _ (by omega)) TG.h rfl) ?_;refine a_4 ?_;refine o_0 (.load_l1 rfl w (d _ (by omega)) TG.h rfl) ?_;refine a_2 ?_;refine o_0 (.load_l rfl c (E7 hjn _ (by omega)) TG.h TS.h (nle rfl)) ?_;refine c_s (F) ?_;refine c_s (E) ?_;refine a_1 ?_;refine dB (.store rfl c (E7 hjn _ (by omega)) rfl rfl rfl TS.h (nle rfl)) ?_;refine ao (n_k ?_);refine r_m 2 ?_;refine a_z ?_;refine⟨j+1,by omega,by omega,?_⟩;rw[svI.eq_1];refine nM (by omega) ?_ ?_ ?_ fun hs=>Cn (l:=l) (b:=b) hs;rw[aK (by omega),ce dY,fY (R':=upR (ph1 A l (fun t=>coP b t) n i) i (mxr A l n i (j+1))) (s':=fun x=>x)];intro k a;by_cases h:k=i;subst h;rw[er,er];simp;rw[kK _ _ h,kK _ _ h];simp;intro k a;by_cases h:k=i;subst h;rw[er,<-mxr_set hjn (0+((j:Nat):Int).toNat) (by omega),cW,aZ];rfl;rw[aK (by omega),dp dY (by omega) a,kK _ _ h,kK _ _ h];rw[aK (by omega)];rfl
  rintro _ _;show AWp _ _ _ _ (svI A l b n i n);rw[svI.eq_1];have c:=jT (TS:=34) (TQ:=48) (R:=upR (ph1 A l (fun t=>coP b t) n i) i (mxr A l n i n)) dY (by omega:n<=30) hlt;rw[er] at c;have d:∀e,e=i->(rwO (upR (ph1 A l (fun t=>coP b t) n i) i (mxr A l n i n)) (fun x=>x) n)[e]?=some [.lsl (i+2) 0 n none 3]:=fun e g=>by rw[dR hlt e g,er,uX]
  have w:=dn (ce (TS:=34) (TQ:=48) (n:=n) (R:=upR (ph1 A l (fun t=>coP b t) n i) i (mxr A l n i n)) dY) (show(1:Nat)≠0 by decide);have D:=ei 1 (by decide);have S:qs 1<=1:=by decide
  have M:=fM (-(A i i* l)) 1 (by have:=ha i hlt;omega);refine ae (r_d aT 16 ?_);refine a_3 ?_;refine o_0 (.load_l1 rfl w (d _ (by omega)) TG.h rfl) ?_;refine a_4 ?_;refine o_0 (.load_l1 rfl w (d _ (by omega)) TG.h rfl) ?_;refine a_2 ?_;refine o_0 (.load_l rfl c (AO hlt _ (by omega)) TG.h TS.h (nle rfl)) ?_;refine c_s (D) ?_;refine c_s (M) ?_;refine a_1 ?_;refine dB (.store rfl c (AO hlt _ (by omega)) rfl rfl rfl TS.h (nle rfl)) ?_;refine ao (n_k ?_);refine AWp.ent (st':=⟨[(0,.lsl 1 0 n (some n) 1),(2,.arr (pE b)),(4,bQ l),(6,.lptr 35 0 0),(7,i64 n),(8,i64 i),(22,i64 n),(23,i64 i)],rwH 34 48 (upR (ph1 A l (fun t=>coP b t) n i) i (dgr A l n i)) n sx0,40,209⟩) ?_ ?_;refine nM (by omega) ?_ ?_ ?_ fun hs=>Cn (l:=l) (b:=b) hs;rw[aK (by omega),ce dY,fY (R':=upR (ph1 A l (fun t=>coP b t) n i) i (dgr A l n i)) (s':=fun x=>x)];intro k a;by_cases h:k=i;subst h;rw[er,er];simp;rw[kK _ _ h,kK _ _ h];simp;intro k a;by_cases h:k=i;subst h;rw[er,<-mxr_one hlt (0+((k:Nat):Int).toNat) (by omega),cW,aZ];rfl;rw[aK (by omega),dp dY (by omega) a,kK _ _ h,kK _ _ h];rw[aK (by omega)];rfl
  have u:∀(k:Nat) (B:Option ABlk),k≠i+2->cZ (an ((k,B)::rwH 34 48 (upR (ph1 A l (fun t=>coP b t) n i) i (dgr A l n i)) n sx0)) (i+2)=some ⟨48,3,pE (dgr A l n i)⟩:=fun k B a=>dn (by
   have:=dp (TS:=34) (TQ:=48) (R:=upR (ph1 A l (fun t=>coP b t) n i) i (dgr A l n i)) dY (by omega:n<=30) hlt;rw[er] at this;rw[aK a];exact this) (show(3:Nat)≠0 by decide)
  have v:∀e,e=i->(rwO (upR (ph1 A l (fun t=>coP b t) n i) i (dgr A l n i)) (fun x=>x) n)[e]?=some [.lsl (i+2) 0 n none 3]:=fun e g=>by rw[dR hlt e g,er,DS]
  have L:=dn (ce (TS:=34) (TQ:=48) (n:=n) (R:=upR (ph1 A l (fun t=>coP b t) n i) i (dgr A l n i)) dY) (show(1:Nat)≠0 by decide);have T:(pE b).length=n:=by simp[pE,hb]
  have z:(pE b)[((i:Nat):Int).toNat]?=some (qC (coP b i)):=by
   have:=ci (p:=b) (i:=i) (by omega);simp[pE,this]
  have J:(pE (dgr A l n i)).length=n:=by simp[pE]
  have C:(50:Nat)≠i+2:=by omega
  refine r_d aT 14 ?_;refine a_5 ?_;refine o_0 (.load_l1 rfl L (v _ (by omega)) TG.h rfl) ?_;refine a_2 ?_;refine i_x z ?_;refine l_x z ?_;refine a_1 ?_;refine o_2 (.append_l rfl rfl rfl te_34.h rfl rfl (u 50 _ C) rfl rfl J (dZ _) (by rfl) rfl (.lsl rfl (nle rfl)) TZ.h rfl TB.h (by first|rfl|assumption|(simp;done)|(simp;omega)|omega) (by first|(simp[maxLen];done)|(simp[maxLen];omega))) ?_;refine a_1 ?_;refine dB (.store rfl rfl (v _ (by omega)) rfl rfl rfl TS.h (nle rfl)) ?_;refine ao (n_k ?_);refine r_m 2 ?_;refine a_z ?_;refine⟨i+1,by omega,by omega,?_⟩;rw[svO.eq_1,<-IJ,<-upR_up (ph1 A l (fun t=>coP b t) n i) i (dgr A l n i) (aJ (n+1) (svM A l (fun t=>coP b t) n i))];have N:fiR i 51 35=35:=JX (by omega);refine CE (fiR i 51) (by omega) (sY _ _) (fun x y K G e=>mc (m:=40) (Nat.le_refl _) (by decide) x y (k6 (by omega) K) (k6 (by omega) G) e) ?_ ?_ ?_ fun hs=>Cn (l:=l) (b:=b) hs;rw[sX,<-Ie (new:=51) (m:=n+1) hlt (by simp) (0+((i:Nat):Int).toNat) (by omega)];rfl;intro k a;by_cases h:k=i;subst h;rw[er,jE,<-dgr_app,ld];rfl
  ·rw[fg h,kK _ _ h]
   repeat rw[aK (by omega)]
   exact dp dY (by omega) a
  ·rw[JX (by omega)]
   repeat rw[aK (by omega)]
   rfl
 rintro _ _;exact hrest
theorem If(R:Nat->Lq)(n:Nat):(rwL R n).map (fun e=>([.arr e]:La))=mE ((List.range n).map R):=by simp[rwL,mE]
theorem Ff(k:Lw)(a:Nat):(mE k).drop a=mE (k.drop a):=by simp[mE,List.map_drop]
def rwI(n:Nat):Ln:=1::(List.range n).map (· +2)
theorem KT{r:Ren}{hp hp':Hq}{cap:Option Nat}{TS TQ a m n:Nat}{R:Nat->Lq}(hh:∀i∈rwI n,hp' i=hp i)(h1:hp 1=some ⟨TS,1,rwO R (fun x=>x) n⟩)(hr:∀i,i< n->hp (i+2)=some ⟨TQ,3,pE (R i)⟩)(ham:a+m=n):
    Cv r hp' (fun _=>none) (.lsl 1 a m cap 1) (.arr (mE (((List.range n).map R).drop a))):=by
 have e:mE (((List.range n).map R).drop a)=(((rwL R n).map fun e=>([.arr e]:La)).drop a).take m:=by
  rw[If,Ff,List.take_of_length_le (by simp;omega)]
 rw[e];have f:(rwL R n).length=n:=oq R n;refine Cv.mzV (sz:=3) (TS:=TS) (TQ:=TQ) (w:=fun k=>(R k).length) (by decide) ?_ (fun i x b=>?_) (fun i x b=>by rw[(CF b).2];simp[pE]) (fun x b y g c h=>?_) (by rw[f];omega);rw[hh 1 (List.mem_cons_self ..),h1,f];rfl;obtain⟨d,rfl⟩:=CF b;rw[hh (i+2) (List.mem_cons_of_mem _ (List.mem_map.2 ⟨i,List.mem_range.2 d,rfl⟩)),hr i d];obtain⟨k,_,rfl⟩:=List.mem_map.1 b;exact aP _ y g c h
theorem fs_lead(R:Nat->Lq)(n r c:Nat)(hn:n<=1000)(hl:∀i,i< n->c< (R i).length):
    FS 131 [.arr (mE (((List.range n).map R).drop r)),.clos 132 [] [.aptr [[i64 c]] 0 0]] (i64 (j5 (fun e:Lq=>decide (coP e c≠0)) (((List.range n).map R).drop r) 0)):=
 xp _ 132 [.aptr [[i64 c]] 0 0] _ (ac (aU (ac (ag _) af)) af) (by simp;omega) fun e a=>by
  obtain⟨i,b,rfl⟩:=List.mem_map.1 (List.mem_of_mem_drop a);exact Dj _ c _ (ci (hl i (List.mem_range.1 b)))
theorem xd{α:Type}(t:α->Bool):∀(l:List α) (k:Int),(∀x∈l,t x=false)->j5 t l k= -1
 |[],_,_=>rfl
 |a::l,k,h=>by
  rw[j5,if_neg (by rw[h a (List.mem_cons_self ..)];decide)];exact xd t l _ fun x b=>h x (List.mem_cons_of_mem _ b)
theorem Fp{α:Type}(t:α->Bool):∀(l:List α) (k:Int) (j:Nat) (x:α),l[j]?=some x->t x=true->(∀i y,i< j->l[i]?=some y->t y=false)->j5 t l k=k+j
 |[],_,_,_,h,_,_=>by cases h
 |a::l,k,0,x,h,h2,_=>by
  cases h;rw[j5,if_pos h2];simp
 |a::l,k,j+1,x,h,h2,h3=>by
  rw[j5,if_neg (by rw[h3 0 a (by omega) rfl];decide),Fp t l (k+1) j x (by simpa using h) h2 fun i y c b=>h3 (i+1) y (by omega) (by simpa using b)];omega
theorem yp{M:Mx}{n r i:Nat}(h:r+i< n):(((List.range n).map fun k=>aJ (n+1) (M k)).drop r)[i]?=some (aJ (n+1) (M (r+i))):=by
 rw[List.getElem?_drop];simp[h]
theorem coPt{n c:Nat}{f:Nat->Rat}(h:c<=n):coP (aJ (n+1) f) c=f c:=by
 unfold coP aJ;rw[List.getD_eq_getElem?_getD];simp[show c< n+1 by omega]
theorem idx_pv(M:Mx)(n r c:Nat)(hr:r<=n)(hc:c<=n):j5 (fun e:Lq=>decide (coP e c≠0)) (((List.range n).map fun k=>aJ (n+1) (M k)).drop r) 0=match pvR M n r c with|some p=>((p- r:Nat):Int)|none=> -1:=by
 cases e:pvR M n r c with
 |none=>
  refine xd _ _ _ fun x l=>?_;obtain⟨i,d⟩:=List.mem_iff_getElem?.1 l
  have b:r+i< n:=by
   have:=(List.getElem?_eq_some_iff.1 d).1;simp at this;omega
  rw[yp b] at d;cases d;rw[coPt hc,uP e (r+i) b (by omega)];decide
 |some p=>
  obtain⟨p1,p2,j⟩:=jY e
  have a:∀q,q< p->r<=q->M q c=0:=fun q h g=>by
   have e2:=e;unfold pvR at e2;rw[List.find?_range_eq_some] at e2;have:=e2.2.2 q h;simp at this;exact this.resolve_left (by omega)
  rw[Fp _ _ 0 (p- r) (aJ (n+1) (M p)) (by rw[yp (by omega),show r+(p- r)=p by omega]) (by rw[coPt hc];exact decide_eq_true j) fun i y d f=>?_];simp;rw[yp (by omega)] at f;cases f;rw[coPt hc,a (r+i) (by omega) (by omega)];decide
def lvE(L:Ln):Lc:=L.map fun(l:Nat)=>[i64 (l:Int)]
@[simp] theorem iI (L:Ln):(lvE L).length=L.length:=by simp[lvE]
theorem cu(L:Ln):∀e∈lvE L,∀c∈e,Closed c:=fun e a=>by
 obtain⟨l,_,rfl⟩:=List.mem_map.1 a;exact ac (ag _) af
theorem AS(L:Ln)(c:Nat):lvE (L++[c])=lvE L++[[i64 c]]:=by simp[lvE]
def lvA:Ln->AV
 |[]=> .emp
 |l::L=> .lsl 37 0 (L.length+1) none 1
def lvB:Ln->Hp
 |[]=>[]
 |l::L=>[(37,some ⟨3,1,lvE (l::L)⟩)]
def sx1(n:Nat)(L:Ln):Hp:=(35,some ⟨117,3,[[.emp,.emp,i64 0]]⟩)::(36,some ⟨117,3,[[.lsl 1 0 n (some n) 1,lvA L,i64 n]]⟩)::lvB L
theorem cn{n:Nat}{L:Ln}:∀p∈sx1 n L,35<=p.1/\p.1< 40:=fun p hp=>by
 rcases List.mem_cons.1 hp with rfl|hp
 exact⟨(show 35<=35 by decide),(show 35< 40 by decide)⟩;rcases List.mem_cons.1 hp with rfl|hp
 exact⟨(show 35<=36 by decide),(show 36< 40 by decide)⟩;cases L with
 |nil=>cases hp
 |cons l L=>rw[List.mem_singleton.1 hp];exact⟨(show 35<=37 by decide),(show 37< 40 by decide)⟩
theorem jC {fr fr':Fr} {hp:Hp} {nx N n:Nat} {R:Nat->Lq} {L:Ln} {x:AV} (s:Nat->Nat) (hn:n<=30) (s0:s 0=0) (hinj:∀i j,InX n i->InX n j->s i=s j->i=j) (h1:an hp (s 1)=some ⟨34,1,rwO R s n⟩) (hr:∀i,i< n->an hp (s (i+2))=some ⟨48,3,pE (R i)⟩)
    (h35:an hp (s 35)=some ⟨117,3,[[.emp,.emp,i64 0]]⟩) (h36:an hp (s 36)=some ⟨117,3,[[.lsl (s 1) 0 n (some n) 1,x,i64 n]]⟩) (hx:(L=[]/\x= .emp)\/(L≠[]/\x= .lsl (s 37) 0 L.length none 1/\an hp (s 37)=some ⟨3,1,lvE L⟩))
    (hF:Shr ⟨40,s⟩ (an hp) (an (rwH 34 48 R n (sx1 n L)))->CvF ⟨40,s⟩ (an hp) (an (rwH 34 48 R n (sx1 n L))) fr fr'):SEnt ⟨fr,hp,nx,N⟩ ⟨fr',rwH 34 48 R n (sx1 n L),40,N⟩:=by
 refine SEntT.ent (SEntT.rw s hn s0 hinj h1 hr cn (fun i B h=>?_) (fun hs i B k h b=>?_) hF);rcases List.mem_cons.1 h with h|h
 cases h;exact⟨_,h35,rfl,rfl,rfl⟩;rcases List.mem_cons.1 h with h|h
 cases h;exact⟨_,h36,rfl,rfl,rfl⟩;rcases hx with⟨rfl,_⟩|⟨d,_,a⟩
 cases h;cases L with
 |nil=>exact absurd rfl d
 |cons l L=>cases List.mem_singleton.1 h;exact⟨_,a,rfl,rfl,rfl⟩
 rcases List.mem_cons.1 h with h|h
 cases h;rw[h35] at b;cases b
 exact aV hs fun e g c f=>by
  rw[List.mem_singleton.1 g] at f;exact ac b9 (ac b9 (ac (ag _) af)) c f
 rcases List.mem_cons.1 h with h|h
 cases h;rw[h36] at b;cases b;refine CvLL.cons (ak (Cv.sl rfl rfl ?_) (ak ?_ (ak (ai hs (ag _)) aq))) CvLL.nil;rw[ce (cn (n:=n) (L:=L))];rfl;rcases hx with⟨rfl,rfl⟩|⟨d,rfl,a⟩
 exact ai hs b9;cases L with
 |nil=>exact absurd rfl d
 |cons l L=>exact Cv.sl rfl rfl rfl
 rcases hx with⟨rfl,_⟩|⟨d,_,a⟩
 cases h;cases L with
 |nil=>exact absurd rfl d
 |cons l L=>
  cases List.mem_singleton.1 h;rw[a] at b;cases b;exact aV hs (cu _)
end Go.Proofs.YtiodeiecpoopgaaGreatDoor
