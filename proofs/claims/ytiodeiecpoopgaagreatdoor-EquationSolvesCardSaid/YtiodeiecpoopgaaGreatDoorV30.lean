/- Part V30. -/
import Derived.Test.YtiodeiecpoopgaaGreatDoorV29
set_option linter.all false
namespace Go.Proofs.YtiodeiecpoopgaaGreatDoor
open Go.Abs
set_option maxRecDepth 20000
set_option maxHeartbeats 2000000
section
variable {n k j nx N:Nat}{F:Nat->Bool}{L:Ln}{hp:Hq}{R:Nat->List RQ}{fr fr':Fr}
abbrev qrw(M:Mx)(n:Nat):Nat->List RQ:=fun k=>rP (aJ (n+1) (M k))
theorem yz(M:Mx)(n k:Nat):(qrw M n k).length=n+1:=by simp
theorem rv{A B:Mx}(h:∀j,j< n+1->A k j=B k j):qrw A n k=qrw B n k:=by
 unfold qrw;rw[um h]
def bE(F:Nat->Bool)(n:Nat):Lc:=(List.range n).map fun j=>[bln (F j)]
@[simp] theorem bE_length (F:Nat->Bool)(n:Nat):(bE F n).length=n:=by simp[bE]
theorem wh(h:j< n):∀e,e=j->(bE F n)[e]?=some [bln (F j)]:=fun e a=>by rw[a];simp[bE,h]
theorem bE_set{F':Nat->Bool}{c:Nat}(h:c< n)(h1:F' c=true)(h2:∀j,j≠c->F' j=F j):∀e,e=c->(bE F n).set e [bln true]=bE F' n:=fun e a=>by
 subst a;refine List.ext_getElem? fun i=>?_;rw[List.getElem?_set,bE_length];by_cases hi:i< n;rw[wh (F:=F') hi i rfl];by_cases h3:e=i;subst h3;rw[if_pos rfl,if_pos h,h1];rw[if_neg h3,wh hi i rfl,h2 i (fun e=>h3 e.symm)];rw[if_neg (by omega),List.getElem?_eq_none (by simp;omega),List.getElem?_eq_none (by simp;omega)]
theorem bE_0(n:Nat):List.replicate n [bln false]=bE (fun _=>false) n:=by
 refine List.ext_getElem? fun i=>?_;by_cases hi:i< n;rw[wh hi i rfl,List.getElem?_replicate,if_pos hi];rw[List.getElem?_eq_none (by simp;omega),List.getElem?_eq_none (by simp;omega)]
theorem closed_bE(F:Nat->Bool)(n:Nat):∀e∈bE F n,∀c∈e,Closed c:=fun e a=>by
 obtain⟨l,_,rfl⟩:=List.mem_map.1 a;exact ac (ag _) af
def frF(c:Nat)(L:Ln)(j:Nat):Bool:=decide (j< c/\¬j∈L)
theorem bE_free{c:Nat}(hc:c< n)(hL:c∉L):∀e,e=c->(bE (frF c L) n).set e [bln true]=bE (frF (c+1) L) n:=
 bE_set hc (decide_eq_true ⟨Nat.lt_succ_self _,hL⟩) fun j a=>decide_eq_decide.2 ⟨fun h=>⟨by omega,h.2⟩,fun h=>⟨by omega,h.2⟩⟩
def lvQ:Ln->AV
 |[]=> .emp
 |l::L=> .lsl 36 0 (L.length+1) none 1
def lvK:Ln->Hp
 |[]=>[]
 |l::L=>[(36,some ⟨3,1,lvE (l::L)⟩)]
def qx(F:Nat->Bool)(n:Nat)(L:Ln):Hp:=(35,some ⟨4,1,bE F n⟩)::lvK L
theorem fu:∀p∈qx F n L,35<=p.1/\p.1< 40:=fun p hp=>by
 rcases List.mem_cons.1 hp with rfl|hp
 exact⟨(show 35<=35 by decide),(show 35< 40 by decide)⟩;cases L with
 |nil=>cases hp
 |cons l L=>rw[List.mem_singleton.1 hp];exact⟨(show 35<=36 by decide),(show 36< 40 by decide)⟩
theorem lenA_lq(L:Ln):pv (lvQ L)=some L.length:=by cases L <;> rfl
abbrev qH(R:Nat->List RQ)(n:Nat)(F:Nat->Bool)(L:Ln):Hp:=rqH 36 55 R n n (qx F n L)
theorem yQ{s:Nat->Nat}{x:AV}(hx:(L=[]/\x= .emp)\/(L≠[]/\x= .lsl (s 36) 0 L.length none 1))(hs:Shr ⟨40,s⟩ hp (an (qH R n F L))):Cv ⟨40,s⟩ hp (an (qH R n F L)) x (lvQ L):=by
 rcases hx with⟨rfl,rfl⟩|⟨a,rfl⟩
 exact ai hs b9;cases L with
 |nil=>exact absurd rfl a
 |cons l L=>exact Cv.sl rfl rfl rfl
theorem fH(hs:Shr ⟨40,fun x=>x⟩ hp (an (qH R n F L))):Cv ⟨40,fun x=>x⟩ hp (an (qH R n F L)) (lvQ L) (lvQ L):=
 yQ (by
  cases L with
  |nil=>exact .inl ⟨rfl,rfl⟩
  |cons l L=>exact .inr ⟨by simp,rfl⟩) hs
theorem kp {hp:Hp} (s:Nat->Nat) (hn:n<=30) (s0:s 0=0) (hinj:∀i j,InX n i->InX n j->s i=s j->i=j) (h1:an hp (s 1)=some ⟨36,1,rqO R s n n⟩) (hr:∀i,i< n->an hp (s (i+2))=some ⟨55,4,rE (R i)⟩)
    (h35:an hp (s 35)=some ⟨4,1,bE F n⟩) (hx:L≠[]->an hp (s 36)=some ⟨3,1,lvE L⟩)
    (hF:Shr ⟨40,s⟩ (an hp) (an (qH R n F L))->CvF ⟨40,s⟩ (an hp) (an (qH R n F L)) fr fr'):SEnt ⟨fr,hp,nx,N⟩ ⟨fr',qH R n F L,40,N⟩:=by
 refine SEntT.ent (SEntT.rq s hn s0 (Nat.le_refl _) hinj h1 hr fu (fun i B h=>?_) (fun hs i B b h a=>?_) hF);rcases List.mem_cons.1 h with h|h
 cases h;exact⟨_,h35,rfl,rfl,rfl⟩;cases L with
 |nil=>cases h
 |cons l L=>cases List.mem_singleton.1 h;exact⟨_,hx (by simp),rfl,rfl,rfl⟩
 rcases List.mem_cons.1 h with h|h
 cases h;rw[h35] at a;cases a;exact aV hs (closed_bE _ _);cases L with
 |nil=>cases h
 |cons l L=>
  cases List.mem_singleton.1 h;rw[hx (by simp)] at a;cases a;exact aV hs (cu _)
theorem js(hn:n<=30)(hF:Shr ⟨40,fun x=>x⟩ (an (qH R n F L)) (an (qH R n F L))->CvF ⟨40,fun x=>x⟩ (an (qH R n F L)) (an (qH R n F L)) fr fr'):SEnt ⟨fr,qH R n F L,nx,N⟩ ⟨fr',qH R n F L,40,N⟩:=
 kp (fun x=>x) hn rfl (fun _ _ _ _ e=>e) (ez fu) (fun i b=>ew fu hn b) rfl (fun a=>by
  cases L with
  |nil=>exact absurd rfl a
  |cons l L=>rfl) hF
theorem ER{b b':Option ABlk}(hn:n<=30)(hk:40<=k)(hF:Shr ⟨40,fun x=>x⟩ (an ((k,b)::(k,b')::qH R n F L)) (an (qH R n F L))->CvF ⟨40,fun x=>x⟩ (an ((k,b)::(k,b')::qH R n F L)) (an (qH R n F L)) fr fr'):SEnt ⟨fr,(k,b)::(k,b')::qH R n F L,nx,N⟩ ⟨fr',qH R n F L,40,N⟩:=
 kp (fun x=>x) hn rfl (fun _ _ _ _ e=>e) (by rw[aK (by omega),aK (by omega)];exact ez fu) (fun i c=>by rw[aK (by omega),aK (by omega)];exact ew fu hn c) (by rw[aK (by omega),aK (by omega)];rfl) (fun a=>by
  rw[aK (by omega),aK (by omega)];cases L with
  |nil=>exact absurd rfl a
  |cons l L=>rfl) hF
theorem puQ_set{X:Mx}{i:Nat}{v:Rat}(h:j< n+1):∀e,e=j->(rE (qrw X n i)).set e (rC (rq v))=rE (qrw (puM X i j v) n i):=fun e b=>
 I3 (M:=X) (M':=puM X i j v) (n:=n) (i:=i) (j:=j) (v:=v) (by omega) (by simp[puM]) (fun k c a=>by simp[puM,a]) e b
theorem ES{i e:Nat}{X:Mx}{v:Rat}(hn:n<=30)(hi:i< n)(hj:j< n+1)(he:e=j)(hF:Shr ⟨40,fun x=>x⟩ (an ((i+2,some ⟨55,4,(rE (qrw X n i)).set e (rC (rq v))⟩)::qH (qrw X n) n F L)) (an (qH (qrw (puM X i j v) n) n F L))->CvF ⟨40,fun x=>x⟩ (an ((i+2,some ⟨55,4,(rE (qrw X n i)).set e (rC (rq v))⟩)::qH (qrw X n) n F L)) (an (qH (qrw (puM X i j v) n) n F L)) fr fr'):
    SEnt ⟨fr,(i+2,some ⟨55,4,(rE (qrw X n i)).set e (rC (rq v))⟩)::qH (qrw X n) n F L,nx,N⟩ ⟨fr',qH (qrw (puM X i j v) n) n F L,40,N⟩:=by
 refine kp (fun x=>x) hn rfl (fun _ _ _ _ e=>e) ?_ ?_ ?_ ?_ hF;rw[aK (by omega),ez fu,iA (R':=qrw (puM X i j v) n) (s':=fun x=>x)];exact fun k a=>⟨by simp,rfl⟩;intro k a;by_cases h:k=i;subst h;rw[<-puQ_set hj e he,cW,aZ];rw[aK (by omega),ew fu (by omega) a];unfold qrw;rw[IG h];rw[aK (by omega)];rfl;intro b;rw[aK (by omega)];cases L with
 |nil=>exact absurd rfl b
 |cons l L=>rfl
theorem mD{r:Ren}{hp':Hq}{x:AV}(hs:Shr r hp hp')(hv:Cv r hp hp' x (lvQ L))(h:CvF r hp hp' fr fr':=by repeat' (first|exact aI|refine au rfl ?_ ?_|exact hv|exact ai hs (ag _)|exact ai hs (iS _)|exact Cv.sl rfl rfl rfl|exact Cv.sl rfl rfl (by rw[ez fu];rfl)|(refine Cv.loE hs ?_ (ag _);simp[i64];done))):CvF r hp hp' fr fr':=h
def qcS(M:Mx)(n:Nat):Nat->AState
 |c=>⟨[(11,i64 n),(13,.lsl 1 0 n (some n) 1),(18,lvQ (slM M n c).2),(19,.lsl 35 0 n (some n) 1),(20,i64 c)],qH (qrw (slM M n c).1 n) n (frF c (slM M n c).2) (slM M n c).2,40,303⟩
def qpS(A:Mx)(F:Nat->Bool)(n c:Nat)(L:Ln):Nat->AState
 |p=>⟨[(11,i64 n),(13,.lsl 1 0 n (some n) 1),(18,lvQ L),(19,.lsl 35 0 n (some n) 1),(20,i64 c),(21,i64 L.length),(22,i64 p)],qH (qrw A n) n F L,40,303⟩
def qsS(X:Mx)(F:Nat->Bool)(n c:Nat)(L:Ln)(f:Rat):Nat->AState
 |j=>⟨[(11,i64 n),(13,.lsl 1 0 n (some n) 1),(18,lvQ L),(19,.lsl 35 0 n (some n) 1),(20,i64 c),(21,i64 L.length),(23,bRq f),(24,i64 j)],qH (qrw (scJ X L.length f j) n) n F L,40,303⟩
def qrS(Y:Mx)(F:Nat->Bool)(n c:Nat)(L:Ln):Nat->AState
 |i=>⟨[(11,i64 n),(13,.lsl 1 0 n (some n) 1),(18,lvQ L),(19,.lsl 35 0 n (some n) 1),(20,i64 c),(21,i64 L.length),(25,i64 i)],qH (qrw (rdJ Y L.length c i 0) n) n F L,40,303⟩
def qrI(Y:Mx)(F:Nat->Bool)(n c:Nat)(L:Ln)(i:Nat):Nat->AState
 |j=>⟨[(11,i64 n),(13,.lsl 1 0 n (some n) 1),(18,lvQ L),(19,.lsl 35 0 n (some n) 1),(20,i64 c),(21,i64 L.length),(25,i64 i),(26,bRq (Y i c)),(27,i64 j)],qH (qrw (rdJ Y L.length c i j) n) n F L,40,303⟩
theorem HV(a b x:Nat):swx a b x=swx b a x:=by unfold swx;split <;> split <;> omega
theorem zF{hp':Hq}(hs:Shr ⟨40,fun x=>x⟩ hp hp')(hk:40<=k):sH ⟨40,fun x=>x⟩ hp' k:=fun j B a e=>by
 obtain⟨b⟩:=hs;have c:j< 40:=(b j B a).1;have e:j=k:=e;omega
noncomputable def soA:Code:=match Tryz.f16.body with|some (.seq _ (.seq _ (.seq _ (.seq _ (.seq _ (.seq _ y))))))=>y|_=> .skip
noncomputable def soB:Code:=match soA with| .seq _ (.seq _ (.seq _ y))=>y|_=> .skip
theorem so_cols (M:Mx) (n B:Nat) (hn:n<=25) (hB:B<=100000000000) (hq:∀c,c<=n->∀i j,i< n->j<=n->qs ((slM M n c).1 i j)<=B) (Q:Exit->AState->Prop)
    (hrest:AWp none Tryz.prog soB Q ⟨[(11,i64 n),(13,.arr (qmE (qrw (slM M n n).1 n) n)),(18,.arr (lvE (slM M n n).2)),(19,.arr (bE (frF n (slM M n n).2) n))],[],1,303⟩):
    AWp none Tryz.prog soA Q ⟨[(11,i64 n),(13,.lsl 1 0 n (some n) 1)],rqH 36 55 (qrw M n) n n [],40,303⟩:=by
 unfold soA;refine r_z 1 ?_;refine r_z 3 ?_;refine ae (r_z 1 ?_);refine aC (fun _:Unit=>⟨[(11,i64 n),(13,.arr (qmE (qrw (slM M n n).1 n) n)),(18,.arr (lvE (slM M n n).2)),(19,.arr (bE (frF n (slM M n n).2) n))],[],1,303⟩) (fun _=>True) ?_ (fun _ _=>hrest);refine ah (ax (qcS M n) (fun c=>n- c) (fun c=>c<=n) 0 (Nat.zero_le _) ?_ ?_);rw[qcS.eq_1];refine kp (L:=[]) (fiR 33 42) (by omega) (sY _ _) (fun x y hx hy e=>mc (m:=40) (Nat.le_refl _) (by decide) x y (k6 (by omega) hx) (k6 (by omega) hy) e) ?_ ?_ ?_ (fun h=>absurd rfl h) fun hs=>?_;rw[sX,aK (by decide),ez (fun p hp=>by cases hp),iA (R':=qrw (slM M n 0).1 n) (s':=fiR 33 42)];exact fun k z=>⟨by simp,(fg (by omega)).symm⟩;intro k z;rw[fg (by omega),aK (by omega)];exact ew (fun p hp=>by cases hp) (by omega) z;show some (ABlk.mk 4 1 (List.replicate n [bln false]))=_;rw[bE_0,show frF 0 (slM M n 0).2=fun _=>false from funext fun j=>decide_eq_false fun h=>by omega];have hv:=ai (x:= .emp) hs b9;exact mD (L:=[]) hs hv;intro c hc;rw[qcS.eq_1];by_cases hlt:c< n;rotate_left;have s:c=n:=by omega
 subst s;refine ae (q_z 3 ?_);refine cF (aw ⟨(),trivial,?_⟩);refine tV [] rfl rfl rfl ShrL.nil (fun hs=>au rfl (ai hs (ag _)) (au rfl (Cv_rqV (TS:=36) (TQ:=55) (ez fu) fun i D=>ew fu (by omega) D) (au rfl ?_ (au rfl (Cv.shut (es:=bE (frF c (slM M c c).2) c) (B:=⟨4,1,bE (frF c (slM M c c).2) c⟩) aB rfl (fun j B w=>by cases w) (by simp) (lG (by simp) (closed_bE _ _))) aI)))) (fun hs=>aA);obtain⟨⟨A,L⟩,v⟩:∃p,p=slM M c c:=⟨_,rfl⟩;rw[<-v];cases L with
 |nil=>exact Cv.emp _
 |cons l L=>exact Cv.shut (es:=lvE (l::L)) (B:=⟨3,1,lvE (l::L)⟩) aB rfl (fun j B w=>by cases w) (by simp) (lG (by simp) (cu _))
 refine ae (q_z 3 ?_);refine cT (am (ae (ah ?_)));have hE:=c8 M n c;have S:=hq c hc;obtain⟨⟨A,L⟩,v⟩:∃p,p=slM M n c:=⟨_,rfl⟩;rw[<-v] at hE S⊢;simp only at hE S⊢;have hLl:L.length<=c:=hE.len;have d:L.length< n:=by omega
 obtain⟨F,hF⟩:∃F,F=frF c L:=⟨_,rfl⟩;rw[<-hF];refine s_r 3 ?_;refine a_1 ?_;refine o_0 (.len rfl rfl rfl rfl (lenA_lq L) te_51.h) ?_;refine a_z ?_;refine r_z 2 ?_;have ho:=rk (TS:=36) (TQ:=55) (R:=qrw A n) (n:=n) (m:=n) (fu (F:=F) (n:=n) (L:=L));have O:∀p,p< n->∀e,e=p->(rqO (qrw A n) (fun x=>x) n n)[e]?=some [.lsl (p+2) 0 (n+1) none 4]:=fun p hp=>mP hp (yz A n p);have V:∀p,p< n->cZ (an (qH (qrw A n) n F L)) (p+2)=some ⟨55,4,rE (qrw A n p)⟩:=fun p hp=>Aq fu (by omega) hp;refine a6 (fun p:Nat=>qpS A F n c L p) (fun p=>L.length<=p/\p<=n/\(∀i,L.length<=i->i< p->A i c=0)/\(p< n->A p c≠0)) ?_ ?_
 ·refine ah (ax (qpS A F n c L) (fun p=>n- p) (fun p=>L.length<=p/\p<=n/\∀i,L.length<=i->i< p->A i c=0) L.length ⟨Nat.le_refl _,by omega,fun i h1 h2=>by omega⟩ ?_ ?_)
  rw[qpS.eq_1];refine js (by omega) fun hs=>?_;have hv:=fH hs;exact mD hs hv;rintro p ⟨p1,p2,W⟩;rw[qpS.eq_1];by_cases hp:p< n;rotate_left;refine ae (q_z 14 ?_);refine cF (aw ⟨p,⟨p1,p2,W,fun h=>absurd h hp⟩,?_⟩);show SEnt _ (qpS A F n c L p);rw[qpS.eq_1];refine js (by omega) fun hs=>?_;have hv:=fH hs;exact mD hs hv;have C:=nm (rq (A p c));by_cases h0:A p c=0;refine ae (s_r 14 ?_);refine d_7 ?_;refine aW rfl rfl rfl (.load_l1 rfl ho (O p hp _ (by omega)) TG.h rfl) rfl rfl ?_;refine d_2 ?_;refine aW rfl rfl rfl (.load_l rfl (V p hp) (pt (j:=c) (by omega) _ (by omega)) TG.h TS.h (nle rfl)) rfl rfl ?_;refine c_s (C) ?_;refine aW rfl rfl rfl (.bin rfl rfl (vT bv (decide_eq_true (sgZ_zero.2 h0)))) rfl rfl ?_;refine a_z ?_;refine cT (am (ah (r_m 3 ?_)));refine a_z ?_;refine⟨p+1,by omega,⟨by omega,by omega,fun i h1 h2=>?_⟩,?_⟩;by_cases e:i=p;rw[e];exact h0;exact W i h1 (by omega);rw[qpS.eq_1];refine js (by omega) fun hs=>?_;have hv:=fH hs;exact mD hs hv;refine ae (s_r 14 ?_);refine d_7 ?_;refine aW rfl rfl rfl (.load_l1 rfl ho (O p hp _ (by omega)) TG.h rfl) rfl rfl ?_;refine d_2 ?_;refine aW rfl rfl rfl (.load_l rfl (V p hp) (pt (j:=c) (by omega) _ (by omega)) TG.h TS.h (nle rfl)) rfl rfl ?_;refine c_s (C) ?_;refine aW rfl rfl rfl (.bin rfl rfl (vF bv (decide_eq_false (fun e=>h0 (sgZ_zero.1 e))))) rfl rfl ?_;refine a_z ?_;refine cF (aw ⟨p,⟨p1,p2,W,fun _=>h0⟩,?_⟩);show SEnt _ (qpS A F n c L p);rw[qpS.eq_1];refine js (by omega) fun hs=>?_;have hv:=fH hs;exact mD hs hv
 rintro p ⟨p1,p2,W,p4⟩;rw[qpS.eq_1];by_cases hpn:p=n
 have J:pvR A n L.length c=none:=by
  cases e:pvR A n L.length c with
  |none=>rfl
  |some q=>obtain⟨q1,q2,q3⟩:=jY e;exact absurd (W q q2 (by omega)) q3
 have u:slM M n (c+1)=(A,L):=by
  rw[slM,<-v];show slC A n L c=_;unfold slC;rw[J]
 refine ae (q_z 3 ?_);refine cT ?_;have hc35:cZ (an (qH (qrw A n) n F L)) 35=some ⟨4,1,bE F n⟩:=rfl;refine s_r 4 ?_;refine a_3 ?_;refine dB (.store rfl hc35 (wh hlt _ (by omega)) rfl rfl rfl TS.h (nle rfl)) ?_;refine ao ?_;refine aw (r_m 3 ?_);refine a_z ?_;refine⟨c+1,by omega,by omega,?_⟩;rw[qcS.eq_1,u];refine kp (fun x=>x) (by omega) rfl (fun _ _ _ _ e=>e) ?_ ?_ ?_ ?_ ?_;rw[aK (by decide)];exact ez fu;intro i D;rw[aK (by omega)];exact ew fu (by omega) D;rw[hF];show some (ABlk.mk 4 1 ((bE (frF c L) n).set (0+((c:Nat):Int).toNat) [bln true]))=_;rw[bE_free hlt (fun h=>by obtain⟨i,D⟩:=List.mem_iff_getElem?.1 h;have:=hE.lt i c D;omega) _ (by omega)];intro hL;rw[aK (by decide)];cases L with
 |nil=>exact absurd rfl hL
 |cons l L=>rfl
 intro hs;have hv:=fH hs;exact mD hs hv;have hp:p< n:=by omega
 have hpc:=p4 hp;have hpv:pvR A n L.length c=some p:=pvR_of hp p1 hpc W;refine ae (q_z 3 ?_);refine cF (am ?_)
 have hst:∀a b,a=p->b=L.length->((rqO (qrw A n) (fun x=>x) n n).set a [.lsl (L.length+2) 0 (n+1) none 4])[b]?=some [.lsl (L.length+2) 0 (n+1) none 4]:=fun a b ha hb=>by
  rw[List.getElem?_set];split;rw[if_pos (by rw[gH (Nat.le_refl _)];omega)];exact O L.length d b hb
 refine ae (r_d aT 16 ?_);refine a_7 ?_;refine o_0 (.load_l1 rfl ho (O _ d _ (by omega)) TG.h rfl) ?_;refine a_3 ?_;refine o_0 (.load_l1 rfl ho (O _ hp _ (by omega)) TG.h rfl) ?_;refine a_1 ?_;refine dB (.store rfl ho (O _ hp _ (by omega)) rfl rfl rfl TS.h (nle rfl)) ?_;refine a_1 ?_;refine dB (.store rfl rfl (hst _ _ (by omega) (by omega)) rfl rfl rfl TS.h (nle rfl)) ?_;refine ao (n_k ?_);refine AWp.ent (st':=⟨[(11,i64 n),(13,.lsl 1 0 n (some n) 1),(18,lvQ L),(19,.lsl 35 0 n (some n) 1),(20,i64 c),(21,i64 L.length)],qH (qrw (swM A L.length p) n) n F L,40,303⟩) ?_ ?_;have q0:swx (L.length+2) (p+2) 0=0:=jp (by omega) (by omega);have q1:swx (L.length+2) (p+2) 1=1:=jp (by omega) (by omega);have q35:swx (L.length+2) (p+2) 35=35:=jp (by omega) (by omega);have q36:swx (L.length+2) (p+2) 36=36:=jp (by omega) (by omega);refine kp (swx (L.length+2) (p+2)) (by omega) q0 (fun _ _ _ _ e=>xX e) ?_ ?_ ?_ ?_ ?_;rw[q1,iA (R':=fun i=>qrw A n (swx L.length p i)) (s':=swx (L.length+2) (p+2)) (fun k z=>⟨by simp,rfl⟩),<-Ik (R:=qrw A n) d hp (fun i _=>yz A n i) (0+((p:Nat):Int).toNat) (0+((L.length:Nat):Int).toNat) (by omega) (by omega)];rfl
 ·intro i D
  rw[EA]
  repeat rw[aK (by omega)]
  rw[ew (R:=qrw A n) fu (by omega) (HU d hp D)];unfold qrw;rw[EB,HV]
 rw[q35];rfl;intro hL;rw[q36];cases L with
 |nil=>exact absurd rfl hL
 |cons l L=>rfl
 intro hs
 have hv:=yQ (x:=lvQ L) (by
  cases L with
  |nil=>exact .inl ⟨rfl,rfl⟩
  |cons l L=>exact .inr ⟨by simp,by rw[q36];rfl⟩) hs
 exact au rfl (ai hs (ag _)) (au rfl (Cv.sl rfl q1 (by rw[ez fu];rfl)) (au rfl hv (au rfl (Cv.sl rfl q35 rfl) (au rfl (ai hs (ag _)) (au rfl (ai hs (ag _)) aI)))));obtain⟨X,hX⟩:∃X,X=swM A L.length p:=⟨_,rfl⟩;rw[<-hX];have hXc:X L.length c=A p c:=by rw[hX];simp[swM]
 have hX0:X L.length c≠0:=by rw[hXc];exact hpc
 have N:∀i j,i< n->j<=n->qs (X i j)<=B:=by rw[hX];exact Kv S d hp
 clear hst ho O V;have o:∀Z:Mx,cZ (an (qH (qrw Z n) n F L)) 1=some ⟨36,1,rqO (qrw Z n) (fun x=>x) n n⟩:=fun Z=>rk fu;have r:∀(Z:Mx) (p:Nat),p< n->∀e,e=p->(rqO (qrw Z n) (fun x=>x) n n)[e]?=some [.lsl (p+2) 0 (n+1) none 4]:=fun Z p hp=>mP hp (yz Z n p);have t:∀(Z:Mx) (p:Nat),p< n->cZ (an (qH (qrw Z n) n F L)) (p+2)=some ⟨55,4,rE (qrw Z n p)⟩:=fun Z p hp=>Aq fu (by omega) hp;have E:∀(Z:Mx) (i j:Nat),j< n+1->∀e,e=j->(rE (qrw Z n i))[e]?=some (rC (rq (Z i j))):=fun Z i j w e G=>pt (by omega) e G;have hi1:=iW 1 (by decide);have hq1:qs ((1:Int):Rat)<=1:=by decide
 have hqc':=N L.length c d (by omega);have hdv:=Fx (rq ((1:Int):Rat)) (rq (X L.length c)) (cK _) (cK _) hX0 (by show qs ((1:Int):Rat)+qs (X L.length c)<=_;omega);refine ae (r_d aT 11 ?_);refine c_s (hi1) ?_;refine a_3 ?_;refine o_0 (.load_l1 rfl (o X) (r X _ d _ (by omega)) TG.h rfl) ?_;refine a_2 ?_;refine o_0 (.load_l rfl (t X _ d) (E X _ c (by omega) _ (by omega)) TG.h TS.h (nle rfl)) ?_;refine c_s (hdv) ?_;refine a_2 ?_;refine ao ⟨ov (fps0:=[([],[]),([],[]),([],[]),([],[]),([],[]),([],[]),([],[]),([],[]),([],[]),([49],[]),([49],[49])]) (by kernel_rfl) (lessF.zz (lessF.zz (lessF.zz (lessF.zz (lessF.rd (by omega) (lessF.zz (lessF.zz (lessF.rd (by omega) (lessF.zz (lessF.al rfl (show 40<=49 by decide) (lessF.st rfl (show 40<=49 by decide) lessF.nil))))))))))),?_⟩;obtain⟨f,hf⟩:∃f,f=((1:Int):Rat) / X L.length c:=⟨_,rfl⟩;refine AWp.ent (st':=⟨[(11,i64 n),(13,.lsl 1 0 n (some n) 1),(18,lvQ L),(19,.lsl 35 0 n (some n) 1),(20,i64 c),(21,i64 L.length),(23,bRq f)],qH (qrw X n) n F L,40,303⟩) ?_ ?_;refine ER (by omega) (by decide) fun hs=>?_;have hv:=fH hs;have hd:=zF (k:=49) hs (by decide);rw[hf];exact au rfl (ai hs (ag _)) (au rfl (Cv.sl rfl rfl (by rw[ez fu];rfl)) (au rfl hv (au rfl (Cv.sl rfl rfl rfl) (au rfl (ai hs (ag _)) (au rfl (ai hs (ag _)) (au rfl (Cv.boxp hs rfl hd rfl (b6 _)) aI))))));refine ae (r_z 1 ?_)
 have hqf:qs f<=B+1:=by
  rw[hf];have h1:=iC ((1:Int):Rat) (X L.length c);omega
 have u:slM M n (c+1)=(rdM (scM X L.length f) L.length c,L++[c]):=by
  rw[slM,<-v];show slC A n L c=_;unfold slC;rw[hpv,hf,hXc,hX,show((1:Int):Rat)=1 by decide]
 have hqY:∀i j,i< n->j<=n->qs (rdM (scM X L.length f) L.length c i j)<=B:=by
  have:=hq (c+1) (by omega);rw[u] at this;exact this
 refine aC (fun _:Unit=>qsS X F n c L f (n+1)) (fun _=>True) ?_ ?_
 ·refine ah (ax (qsS X F n c L f) (fun j=>n+1- j) (fun j=>j<=n+1) 0 (Nat.zero_le _) ?_ ?_)
  rw[qsS.eq_1,scJ_0];refine js (by omega) fun hs=>?_;have hv:=fH hs;exact mD hs hv;intro j w;rw[qsS.eq_1];by_cases hjn:j< n+1;rotate_left;have s:j=n+1:=by omega
  subst s;refine ae (q_z 3 ?_);refine cF (aw ⟨(),trivial,?_⟩);refine js (by omega) fun hs=>?_;have hv:=fH hs;exact mD hs hv;refine ae (q_z 3 ?_);refine cT (am (ae (ah ?_)));have U:=n0 (rq (X L.length j)) (rq f) (cK _) (cK _) (by have:=N L.length j d (by omega);show qs (X L.length j)+qs f<=_;omega);have hgj:∀e,e=j->(rE (qrw (scJ X L.length f j) n L.length))[e]?=some (rC (rq (X L.length j))):=fun e G=>by rw[E _ _ j hjn e G,Ia]
  refine r_d aT 16 ?_;refine a_3 ?_;refine o_0 (.load_l1 rfl (o _) (r _ _ d _ (by omega)) TG.h rfl) ?_;refine a_4 ?_;refine o_0 (.load_l1 rfl (o _) (r _ _ d _ (by omega)) TG.h rfl) ?_;refine a_2 ?_;refine o_0 (.load_l rfl (t _ _ d) (hgj _ (by omega)) TG.h TS.h (nle rfl)) ?_;refine c_s (U) ?_;refine a_1 ?_;refine dB (.store rfl (t _ _ d) (hgj _ (by omega)) rfl rfl rfl TS.h (nle rfl)) ?_;refine ao (n_k ?_);refine r_m 3 ?_;refine a_z ?_;refine⟨j+1,by omega,by omega,?_⟩;rw[qsS.eq_1,scJ_s];refine ES (by omega) d hjn (by omega) fun hs=>?_;have hv:=fH hs;exact mD hs hv
 rintro _ _;show AWp _ _ _ _ (qsS X F n c L f (n+1));rw[qsS.eq_1,show qH (qrw (scJ X L.length f (n+1)) n) n F L=qH (qrw (scM X L.length f) n) n F L from lb fun k _=>rv fun j w=>scJ_n k j (by omega)];obtain⟨Y,hY⟩:∃Y,Y=scM X L.length f:=⟨_,rfl⟩
 have T:∀i j,i< n->j<=n->qs (Y i j)<=B:=fun i j D w=>by
  rw[hY];by_cases e:i=L.length;subst e;have:=hqY L.length j D w;rwa[show rdM (scM X L.length f) L.length c L.length j=scM X L.length f L.length j from if_pos rfl] at this;rw[show scM X L.length f i j=X i j from if_neg e];exact N i j D w
 rw[<-hY] at u⊢;refine ae (r_z 1 ?_);refine aC (fun _:Unit=>qrS Y F n c L n) (fun _=>True) ?_ ?_
 ·refine ah (ax (qrS Y F n c L) (fun i=>n- i) (fun i=>i<=n) 0 (Nat.zero_le _) ?_ ?_)
  rw[qrS.eq_1,rdJ_0];refine js (by omega) fun hs=>?_;have hv:=fH hs;exact mD hs hv;intro i D;rw[qrS.eq_1];by_cases hin:i< n;rotate_left;have s:i=n:=by omega
  subst s;refine ae (q_z 3 ?_);refine cF (aw ⟨(),trivial,?_⟩);refine js (by omega) fun hs=>?_;have hv:=fH hs;exact mD hs hv;refine ae (q_z 3 ?_);refine cT (am (ae (ah ?_)));have hgc:∀e,e=c->(rE (qrw (rdJ Y L.length c i 0) n i))[e]?=some (rC (rq (Y i c))):=fun e G=>by rw[E _ _ c (by omega) e G,rdJ_c]
  refine s_r 9 ?_;refine a_3 ?_;refine o_0 (.load_l1 rfl (o _) (r _ _ hin _ (by omega)) TG.h rfl) ?_;refine a_2 ?_;refine o_0 (.load_l rfl (t _ _ hin) (hgc _ (by omega)) TG.h TS.h (nle rfl)) ?_;refine a_z ?_;refine r_z 1 ?_;refine AWp.cutB (fun _:Unit=>⟨[(11,i64 n),(13,.lsl 1 0 n (some n) 1),(18,lvQ L),(19,.lsl 35 0 n (some n) 1),(20,i64 c),(21,i64 L.length),(25,i64 i)],qH (qrw (rdJ Y L.length c (i+1) 0) n) n F L,40,303⟩) (fun _=>True) ?_ ?_
  ·refine ah (ax (qrI Y F n c L i) (fun j=>n+1- j) (fun j=>j<=n+1/\(i=L.length\/Y i c=0->j=0)) 0 ⟨Nat.zero_le _,fun _=>rfl⟩ ?_ ?_)
   rw[qrI.eq_1];refine ER (by omega) (by decide) fun hs=>?_;have hv:=fH hs;have hd:=zF (k:=50) hs (by decide);exact au rfl (ai hs (ag _)) (au rfl (Cv.sl rfl rfl (by rw[ez fu];rfl)) (au rfl hv (au rfl (Cv.sl rfl rfl rfl) (au rfl (ai hs (ag _)) (au rfl (ai hs (ag _)) (au rfl (ai hs (ag _)) (au rfl (Cv.boxp hs rfl hd rfl (b6 _)) (au rfl (ai hs (ag _)) aI))))))));rintro j ⟨w,hz⟩;rw[qrI.eq_1];have C:=nm (rq (Y i c));by_cases hir:i=L.length;have K:j=0:=hz (.inl hir);subst K;refine ae (s_r 13 ?_);refine d_6 ?_;refine aW rfl rfl rfl (.bin rfl rfl (vF bR (neF (by omega)))) rfl rfl ?_;refine d_z ?_;refine cF (aw ⟨(),trivial,?_⟩);rw[pe (.inl hir)];refine js (by omega) fun hs=>?_;have hv:=fH hs;exact mD hs hv;by_cases hic:Y i c=0;have K:j=0:=hz (.inr hic);subst K;refine ae (s_r 13 ?_);refine d_6 ?_;refine aW rfl rfl rfl (.bin rfl rfl (vT bR (neT (by omega)))) rfl rfl ?_;refine e_s (C) ?_;refine aW rfl rfl rfl (.bin rfl rfl (vF bR (neF (sgZ_zero.2 hic)))) rfl rfl ?_;refine a_z ?_;refine cF (aw ⟨(),trivial,?_⟩);rw[pe (.inr hic)];refine js (by omega) fun hs=>?_;have hv:=fH hs;exact mD hs hv;by_cases hjn:j< n+1;rotate_left;have s:j=n+1:=by omega
   subst s;refine ae (q_z 13 ?_);refine cF (aw ⟨(),trivial,?_⟩);rw[<-show qH (qrw (rdJ Y L.length c i (n+1)) n) n F L=qH (qrw (rdJ Y L.length c (i+1) 0) n) n F L from lb fun k _=>rv fun j w=>rdJ_n i k j (by omega)];refine js (by omega) fun hs=>?_;have hv:=fH hs;exact mD hs hv;refine ae (s_r 13 ?_);refine d_6 ?_;refine aW rfl rfl rfl (.bin rfl rfl (vT bR (neT (by omega)))) rfl rfl ?_;refine e_s (C) ?_;refine aW rfl rfl rfl (.bin rfl rfl (vT bR (neT (mt sgZ_zero.1 hic)))) rfl rfl ?_;refine a_z ?_;refine cT (am (ae (ah ?_)));have b1:=T i c hin (by omega);have b2:=T L.length j d (by omega);have b3:=T i j hin (by omega);have b4:=dS (Y i c) (Y L.length j);have U:=n0 (rq (Y i c)) (rq (Y L.length j)) (cK _) (cK _) (by show qs (Y i c)+qs (Y L.length j)<=_;omega);have hsu:=Fv (rq (Y i j)) (rq (Y i c* Y L.length j)) (cK _) (cK _) (by show qs (Y i j)+qs (Y i c* Y L.length j)<=_;omega);have hgi:∀e,e=j->(rE (qrw (rdJ Y L.length c i j) n i))[e]?=some (rC (rq (Y i j))):=fun e G=>by rw[E _ _ j hjn e G,Iu]
   have hgr:∀e,e=j->(rE (qrw (rdJ Y L.length c i j) n L.length))[e]?=some (rC (rq (Y L.length j))):=fun e G=>by rw[E _ _ j hjn e G,rdJ_r]
   refine r_d aT 24 ?_;refine a_3 ?_;refine o_0 (.load_l1 rfl (o _) (r _ _ hin _ (by omega)) TG.h rfl) ?_;refine a_4 ?_;refine o_0 (.load_l1 rfl (o _) (r _ _ hin _ (by omega)) TG.h rfl) ?_;refine a_2 ?_;refine o_0 (.load_l rfl (t _ _ hin) (hgi _ (by omega)) TG.h TS.h (nle rfl)) ?_;refine a_4 ?_;refine o_0 (.load_l1 rfl (o _) (r _ _ d _ (by omega)) TG.h rfl) ?_;refine a_2 ?_;refine o_0 (.load_l rfl (t _ _ d) (hgr _ (by omega)) TG.h TS.h (nle rfl)) ?_;refine c_s (U) ?_;refine c_s (hsu) ?_;refine a_1 ?_;refine dB (.store rfl (t _ _ hin) (hgi _ (by omega)) rfl rfl rfl TS.h (nle rfl)) ?_;refine ao (n_k ?_);refine r_m 3 ?_;refine a_z ?_;refine⟨j+1,by omega,⟨by omega,fun h=>by rcases h with h|h;exact absurd h hir;exact absurd h hic⟩,?_⟩;rw[qrI.eq_1,rdJ_s hir];refine ES (by omega) hin hjn (by omega) fun hs=>?_;have hv:=fH hs;exact mD hs hv
  rintro _ _;refine r_m 3 ?_;refine a_z ?_;refine⟨i+1,by omega,by omega,?_⟩;rw[qrS.eq_1];refine js (by omega) fun hs=>?_;have hv:=fH hs;exact mD hs hv
 rintro _ _;show AWp _ _ _ _ (qrS Y F n c L n);rw[qrS.eq_1,show qH (qrw (rdJ Y L.length c n 0) n) n F L=qH (qrw (rdM Y L.length c) n) n F L from lb fun k z=>rv fun j _=>EX z j]
 have hFc:F=frF (c+1) (L++[c]):=by
  rw[hF];refine funext fun j=>decide_eq_decide.2 ?_;simp only[List.mem_append,List.mem_singleton,not_or];exact⟨fun h=>⟨by omega,h.2,by omega⟩,fun h=>⟨by omega,h.2.1⟩⟩
 have g:∀x,x≠36->cond (Nat.beq x 36) 43 x=x:=fun x h=>by
  cases e:Nat.beq x 36 with
  |false=>rfl
  |true=>exact absurd (Nat.eq_of_beq_eq_true e) h
 have H:∀i j,InX n i->InX n j->cond (Nat.beq i 36) 43 i=cond (Nat.beq j 36) 43 j->i=j:=fun i j h1 h2 e=>by
  unfold InX at h1 h2;by_cases a:i=36;by_cases b:j=36;rw[a,b];rw[a,g j b] at e;have e:(43:Nat)=j:=e;omega;by_cases b:j=36;rw[b,g i a] at e;have e:i=(43:Nat):=e;omega;rw[g i a,g j b] at e;exact e
 cases L with
 |nil=>
  refine r_m 5 ?_;refine a_3 ?_;refine AR.op1 (.append_e rfl rfl rfl te_51.h rfl rfl rfl (.lsl rfl (nle rfl)) (by first|assumption|(simp;done)) TZ.h rfl TB.h d_o (by first|(simp[maxLen];done)|(simp[maxLen];omega))) rfl rfl ?_;refine a_z ?_;refine r_m 3 ?_;refine a_z ?_;refine⟨c+1,by omega,by omega,?_⟩;rw[qcS.eq_1,u,<-hFc];refine kp (fun x=>cond (Nat.beq x 36) 43 x) (by omega) rfl H ?_ ?_ rfl (fun _=>rfl) fun hs=>?_
  ·rw[g 1 (by decide)]
   repeat rw[aK (by decide)]
   rw[ez fu,iA (R':=qrw (rdM Y ([]:Ln).length c) n) (s':=fun x=>cond (Nat.beq x 36) 43 x)];exact fun k z=>⟨rfl,(g _ (by omega)).symm⟩
  ·intro k z
   rw[g _ (by omega)]
   repeat rw[aK (by omega)]
   exact ew fu (by omega) z
  have hv:=yQ (x:= .lsl 43 0 1 none 1) (L:=[]++[c]) (.inr ⟨by simp,rfl⟩) hs;exact mD hs hv
 |cons l L=>
  have hLs:L.length+1< n:=d;refine r_m 5 ?_;refine a_z ?_;refine r_m 3 ?_;refine a_z ?_;refine⟨c+1,by omega,by omega,?_⟩;rw[qcS.eq_1,u,<-hFc];refine kp (fun x=>cond (Nat.beq x 36) 43 x) (by omega) rfl H ?_ ?_ rfl (fun _=>by rw[AS];rfl) fun hs=>?_
  ·rw[g 1 (by decide)]
   repeat rw[aK (by decide)]
   rw[ez fu,iA (R':=qrw (rdM Y (l::L).length c) n) (s':=fun x=>cond (Nat.beq x 36) 43 x)];exact fun k z=>⟨rfl,(g _ (by omega)).symm⟩
  ·intro k z
   rw[g _ (by omega)]
   repeat rw[aK (by omega)]
   exact ew fu (by omega) z
  have hv:=yQ (x:= .lsl 43 0 (L.length+1+1) none 1) (L:=l::L++[c]) (.inr ⟨by simp,by simp⟩) hs;exact mD hs hv
end
theorem spC00:spC 0 0=[.arr [],bln false,.arr [],.arr [],bln false,.arr []]:=by unfold spC;rw[qC0];rfl
theorem Dh(k:Ke)(l:Rat)(g:Lq)(h:rD k)(hg:a8 g<=20)(hgl:g.length<=1099511627776):FS 37 [.agg (eqC k l g++[.arr [],bln false,.arr [],.arr [],bln false,.arr []])] (bln false):=by
 have:=ff k l g 0 0 h (by decide) (by decide) Rat.le_refl hg hgl;rw[spC00] at this;exact this
theorem Jr(k:Ke)(u:Lq)(h:AF k 0 u)(hl:k.length<=1000):FS 81 [.arr (kE k),.agg [.arr [],bln false,.arr []],.arr (pE u)] (.arr (pE (upK k 0 u))):=by
 have:=Jp k 0 u h hl;rw[qC0] at this;exact this
structure OkSe (k:Ke)(l:Rat)(g:Lq)(a:Rat)(n:Nat):Prop where
 ke:rD k
 dg:a8 g<=20
 mv:∀p∈k,(gI [a,1] p.1/\p.1.length<=274877906944)/\gI [a,1] p.2/\p.2.length<=274877906944
 mg:gI [a,1] g
 gl:g.length<=274877906944
 sl:sm l
 sg:smL (cb [a,1] g)
 gl2:(cb [a,1] g).length<=1099511627776
 up:∀r,r<=n->AF (mvK a k) 0 (seK (mvK a k) (cb [a,1] g) l n r)
 us:∀r,r<=n->smL (upK (mvK a k) 0 (seK (mvK a k) (cb [a,1] g) l n r))/\(upK (mvK a k) 0 (seK (mvK a k) (cb [a,1] g) l n r)).length<=1099511627776
 ss:∀r,r<=n->smL (a7 (upK (mvK a k) 0 (seK (mvK a k) (cb [a,1] g) l n r)) l)
def seS(k:Ke)(l:Rat)(g:Lq)(a:Rat)(n:Nat):Nat->AState
 |r=>⟨[(2,i64 n),(9,.lptr 1 0 0),(10,.arr (pE (seK (mvK a k) (cb [a,1] g) l n r))),(29,i64 ((n:Int)+1)),(30,i64 r)],[(1,some ⟨65,5,[eqC (mvK a k) l (cb [a,1] g)]⟩)],2,47⟩
theorem GZ(k:Ke)(l:Rat)(g:Lq)(a:Rat)(n:Nat)(hn:n<=40)(hok:OkSe k l g a n):FS 30 [.agg (eqC k l g),.agg (qC a),i64 n] (.tup [.arr (pE (seK (mvK a k) (cb [a,1] g) l n (n+1))),i64 0]):=by
 have p:=cv k l g;have m:=cv (mvK a k) l (cb [a,1] g);have o:=hok.ke.1;have q:(mvK a k).length=k.length:=by simp[mvK]
 have i:=Dh k l g hok.ke hok.dg (by have:=hok.gl;omega);have j:=JA k l g a (by omega) hok.mv hok.mg hok.gl;refine f_c Tryz.func30 ?_;refine r_z 4 ?_;refine r_z 5 ?_;refine ae (ah (r_c 3 (i) ?_));refine a_z ?_;refine cF (q_z 7 ?_);refine cF (am (r_c 6 (j) ?_));refine a_z ?_;refine r_z 1 ?_;refine ae (r_z 3 ?_);refine aC (fun _:Unit=>⟨[(10,.arr (pE (seK (mvK a k) (cb [a,1] g) l n (n+1))))],[],1,47⟩) (fun _=>True) ?_ ?_;refine ah (ax (seS k l g a n) (fun r=>n+1- r) (fun r=>r<=n+1) 0 (Nat.zero_le _) ?_ ?_);simp only[seS.eq_1];exact s_f [(1,9)];intro r t;rw[seS.eq_1];by_cases hlt:r< n+1;have d:=Jr (mvK a k) _ (hok.up r (by omega)) (by omega);have b:=hok.us r (by omega);have f:=fk _ l b.1 hok.sl b.2;have h:=ma (cb [a,1] g) _ hok.sg (hok.ss r (by omega)) hok.gl2 (Nat.le_trans (b8 _ _) b.2)
 have c:=fs_cut (fy (cb [a,1] g) (a7 (upK (mvK a k) 0 (seK (mvK a k) (cb [a,1] g) l n r)) l)) n (by
  have u:=jm (cb [a,1] g) (a7 (upK (mvK a k) 0 (seK (mvK a k) (cb [a,1] g) l n r)) l);have s:=b8 (upK (mvK a k) 0 (seK (mvK a k) (cb [a,1] g) l n r)) l;have:=hok.gl2;have:=b.2;omega) (by omega)
 refine q_z 1 ?_;refine ae (cT (am (ae (ah (r_d aT 14 ?_)))));refine c_s (d) ?_;refine c_s (f) ?_;refine c_s (h) ?_;refine c_s (c) ?_;refine a_1 ?_;refine ao (n_k ?_);refine r_m 2 ?_;refine a_z ?_;refine⟨r+1,by omega,by omega,?_⟩;simp only[seS.eq_1];rw[seK];exact s_f [(1,9)];have e:r=n+1:=by omega
 subst e;refine q_z 1 ?_;refine ae (cF (aw ⟨(),trivial,?_⟩));exact s_e [];rintro _ _;refine r_z 3 ?_;refine aj (Fin.many ⟨_,_,rfl,rfl,⟨_,_,rfl,rfl,rfl⟩⟩ (nle rfl) ?_);exact ak (ai aB (az _)) (ak (ai aB (ag _)) aq)
def epS(k:Ke)(g:Nat)(cap:La)(f:Lq×Lq->Rat):Nat->AState
 |0=>⟨[(1,.clos g [] cap),(8,.arr (kE k)),(9,i64 k.length),(10,i64 0),(5,.emp)],[],1,22⟩
 |i+1=>⟨[(1,.clos g [] cap),(8,.arr (kE k)),(9,i64 k.length),(10,i64 ((i+1:Nat):Int)),(5,.lsl 1 0 (i+1) none 3)],[(1,some ⟨48,3,pE ((k.take (i+1)).map f)⟩)],2,22⟩
theorem pS(k:Ke)(g:Nat)(cap:La)(f:Lq×Lq->Rat)(hcap:∀c∈cap,Closed c)(hl:k.length<=1000)(hg:∀p∈k,FS g ((.agg (prC p)::cap).map coe) (.agg (qC (f p)))):FS 46 [.arr (kE k),.clos g [] cap] (.arr (pE (k.map f))):=by
 have o:(kE k).length=k.length:=dV k;have d:Closed (.clos g [] cap):=aQ af hcap;refine f_n Tryz.func46 ?_ ?_;exact ac (aN k) (ac d af);refine r_z 1 ?_;refine r_z 1 ?_;refine ae (r_z 3 ?_);refine aC (fun _:Unit=>⟨[(5,.arr (pE (k.map f)))],[],1,22⟩) (fun _=>True) ?_ ?_;refine ah (ax (epS k g cap f) (fun i=>k.length- i) (fun i=>i<=k.length) 0 (Nat.zero_le _) ?_ ?_);rw[epS.eq_1];exact s_x [] (fun hs=>e_7) (fun hs=>e_41);intro i q;by_cases hlt:i< k.length;obtain⟨p,hp⟩:∃p,k[i]?=some p:=⟨_,List.getElem?_eq_getElem hlt⟩;have j:=hg p (List.mem_of_getElem? hp);have m:(k.take (i+1)).length=i+1:=by rw[List.length_take];omega
 have b:pE ((k.take i).map f)++[qC (f p)]=pE ((k.take (i+1)).map f):=by rw[cm hp,List.map_append,List.map_singleton,ld];rfl
 cases i with
 |zero=>
  have a:(kE k)[((0:Int)).toNat]?=some (prC p):=l6 hp _ rfl;rw[epS.eq_1];refine q_z 1 ?_;refine ae (cT (am (ae (ah (s_r 4 ?_)))));refine i_x a ?_;refine l_x a ?_;refine a_z ?_;refine r_m 7 ?_;refine c_s (j) ?_;refine a_z ?_;refine r_m 2 ?_;refine a_z ?_;refine⟨0+1,by omega,by omega,?_⟩;rw[epS.eq_2];rw[<-b];refine s_x [(1,5)] (fun hs=>e_7) (fun hs=>?_)
  ·repeat' (first|exact aA|refine h_c ?_ ?_|exact aV hs (aP [f p])|exact br|refine ay ?_|exact aq|refine ak ?_ ?_|exact ai hs (aN k)|exact ai hs d|exact aS)
 |succ i=>
  have a:(kE k)[(((i+1:Nat):Int)).toNat]?=some (prC p):=l6 hp _ (by simp);have n:=dZ ((k.take (i+1)).map f);have e:(pE ((k.take (i+1)).map f)).length=i+1:=by simp[pE];omega
  rw[epS.eq_2];refine q_z 1 ?_;refine ae (cT (am (ae (ah (s_r 4 ?_)))));refine i_x a ?_;refine l_x a ?_;refine a_z ?_;refine r_m 7 ?_;refine c_s (j) ?_;refine a_z ?_;refine r_m 2 ?_;refine a_z ?_;refine⟨i+1+1,by omega,by omega,?_⟩;rw[epS.eq_2];refine s_x [(1,5)] (fun hs=>e_7) (fun hs=>?_)
  ·repeat' (first|exact aA|refine h_c ?_ ?_|exact aF hs b (aP _)|exact br|refine ay ?_|exact aq|refine ak ?_ ?_|exact ai hs (aN k)|exact ai hs d|exact aS)
 have h:i=k.length:=by omega
 cases i with
 |zero=>
  have l:k=[]:=List.eq_nil_of_length_eq_zero h.symm;subst l;rw[epS.eq_1];refine q_z 1 ?_;refine ae (cF (aw ⟨(),trivial,?_⟩));exact s_e []
 |succ i=>
  have e:(pE (k.map f)).length=i+1:=by simp[pE];omega
  rw[epS.eq_2,h,List.take_length];refine q_z 1 ?_;refine ae (cF (aw ⟨(),trivial,?_⟩));refine s_x [] (fun hs=>?_) (fun hs=>?_)
  ·repeat' (first|exact aI|refine au rfl ?_ ?_|(refine Cv.shut hs rfl (aH rfl) (by simp) ?_;exact aF hs (by rw[List.drop_zero];exact List.take_of_length_le (by simp)) (aP _))|exact aS)
  ·repeat' (first|exact aA|refine h_c ?_ ?_|exact br|refine ay ?_|exact aq|refine ak ?_ ?_|(refine Cv.shut hs rfl (aH rfl) (by simp) ?_;exact aF hs (by rw[List.drop_zero];exact List.take_of_length_le (by simp)) (aP _))|exact aS)
 rintro _ _;refine r_z 2 ?_;exact aj (t_e (az _))
theorem dN(n:Nat)(A:Mx)(L:Ln):∀c∈[AV.arr (mE (kq n A)),.arr (lvE L),i64 n],Closed c:=ac (closed_mA _) (ac (aG (cu L)) (ac (ag _) af))
theorem fS(n:Nat)(A:Mx)(L:Ln):Closed (syV n (A,L)):=aD (dN n A L)
def bSy(n:Nat)(A:Mx)(L:Ln):AV:= .aptr [[.arr (mE (kq n A)),.arr (lvE L),i64 n]] 0 0
theorem bq(n:Nat)(A:Mx)(L:Ln):Closed (bSy n A L):=aU (dN n A L)
theorem nT{L:Ln}{i c:Nat}(h:L[i]?=some c):∀e:Nat,e=i->(lvE L)[e]?=some [i64 c]:=fun e a=>by
 rw[a,lvE,List.getElem?_map,h];rfl
def onS(A:Mx)(n:Nat)(L:Ln):Nat->AState
 |i=>⟨[(1,bSy n A L),(3,.lsl 1 0 n (some n) 3),(10,.arr (lvE L)),(11,i64 L.length),(12,i64 i)],[(1,some ⟨48,3,pE (pk A n L i)⟩)],2,31⟩
theorem tJ(A:Mx)(n:Nat)(L:Ln)(hE:Ech A n n L)(hn:n<=25):FS 44 [syV n (A,L)] (.arr (pE (pj A n L))):=by
 have l:(lvE L).length=L.length:=iI L;have p:=hE.len2;refine f_n Tryz.func44 ?_ ?_;exact ac (fS n A L) af;refine r_z 2 ?_;refine AWp.ent (st':=⟨[(1,bSy n A L)],[],1,31⟩) ?_ ?_;have:=dN n A L;exact s_f [];refine r_z 4 ?_;refine ae (r_z 4 ?_);refine aC (fun _:Unit=>⟨[(3,.arr (pE (pj A n L)))],[],1,31⟩) (fun _=>True) ?_ ?_;refine ah (ax (onS A n L) (fun i=>L.length- i) (fun i=>i<=L.length) 0 (Nat.zero_le _) ?_ ?_);rw[onS.eq_1,oneJ_0];refine s_x [(1,3)] (fun hs=>e_5) (fun hs=>?_)
 ·repeat' (first|exact aA|refine h_c ?_ ?_|exact CvLL.zeros hs n|exact br|refine ay ?_|exact aq|refine ak ?_ ?_|exact ai hs (bq n A L)|exact ai hs (aG (cu L))|exact aS)
 intro i r;rw[onS.eq_1];by_cases hlt:i< L.length;obtain⟨c,j⟩:∃c,L[i]?=some c:=⟨_,List.getElem?_eq_getElem hlt⟩;have d:=hE.lt i c j;have g:i< n:=by omega
 have e:(lvE L)[((i:Nat):Int).toNat]?=some [i64 c]:=nT j _ (by simp);have b:(mE (kq n A))[((i:Nat):Int).toNat]?=some [.arr (pE (aJ (n+1) (A i)))]:=iH (jI g) _ (by simp);have a:(pE (aJ (n+1) (A i)))[((n:Nat):Int).toNat]?=some (qC (A i n)):=eD (by omega) _ (by simp);have q:(mE (kq n A)).length=n:=by simp
 have m:(pE (aJ (n+1) (A i))).length=n+1:=by simp[pE]
 have o:(pE (pk A n L i)).length=n:=by simp[pE]
 obtain⟨v0,f⟩:=IT (A:=A) (L:=L) (i:=i) d (0+((c:Nat):Int).toNat) (by omega);refine q_z 1 ?_;refine ae (cT (am (ae (ah (s_r 5 ?_)))));refine a_1 ?_;refine i_x e ?_;refine l_1 e ?_;refine a_z ?_;refine r_d aT 13 ?_;refine a_5 ?_;refine i_x b ?_;refine l_1 b ?_;refine a_2 ?_;refine i_x a ?_;refine l_x a ?_;refine a_1 ?_;refine dB (.store rfl rfl f rfl rfl rfl TS.h (nle rfl)) ?_;refine ao (n_k ?_);refine r_m 2 ?_;refine a_z ?_;refine⟨i+1,by omega,by omega,?_⟩;rw[onS.eq_1];refine s_x [] (fun hs=>e_5) (fun hs=>?_)
 ·repeat' (first|exact aA|refine h_c ?_ ?_|exact aF hs (oneJ_s hE j d (0+((c:Nat):Int).toNat) (by omega)) (aP _)|exact br|refine ay ?_|exact aq|refine ak ?_ ?_|exact ai hs (bq n A L)|exact ai hs (aG (cu L))|exact aS)
 have k:i=L.length:=by omega
 refine q_z 1 ?_;refine ae (cF (aw ⟨(),trivial,?_⟩));rw[oneJ_n (by omega)];refine s_x [] (fun hs=>?_) (fun hs=>?_)
 ·repeat' (first|exact aI|refine au rfl ?_ ?_|(refine Cv.shut hs rfl (aH rfl) (by simp[pE]) ?_;exact aF hs (by rw[List.drop_zero];exact List.take_of_length_le (by simp[pE])) (aP _))|exact aS)
 ·repeat' (first|exact aA|refine h_c ?_ ?_|exact br|refine ay ?_|exact aq|refine ak ?_ ?_|(refine Cv.shut hs rfl (aH rfl) (by simp[pE]) ?_;exact aF hs (by rw[List.drop_zero];exact List.take_of_length_le (by simp[pE])) (aP _))|exact aS)
 rintro _ _;refine r_z 2 ?_;exact aj (t_e (az _))
theorem GP(A:Mx)(n:Nat)(L:Ln)(e:Lq)(hl:e.length=n+1):FS 103 [.arr (pE e),bSy n A L] (bln (decide (coP e n≠0))):=by
 have b:(pE e).length=e.length:=by simp[pE]
 have a:(pE e)[((n:Nat):Int).toNat]?=some (qC (coP e n)):=by
  have:=ci (p:=e) (i:=n) (by omega);simp[pE,this]
 refine f_n Tryz.func103 ?_ ?_;exact ac (az e) (ac (bq n A L) af);refine r_z 1 ?_;refine s_r 8 ?_;refine a_3 ?_;refine i_x a ?_;refine l_x a ?_;refine c_s (cJ (coP e n)) ?_;refine a_z ?_;refine aj (aM rfl ?_ ?_);rw[show decide (coP e n≠0)=decide (sgZ (coP e n).num≠0) from decide_eq_decide.2 (not_congr sgZ_num_eq.symm)]
 first|rfl|(congr 1;cases hb:decide (sgZ (coP e n).num=0) with|true=>(have:=of_decide_eq_true hb;simp[this])|false=>(have:=of_decide_eq_false hb;simp[bln,bne,this]))
 exact ag _
theorem mE_el(k:Lw):∀e∈mE k,e.length=1:=fun e a=>by
 obtain⟨_,_,rfl⟩:=List.mem_map.1 a;rfl
theorem Jz(A:Mx)(n:Nat)(L:Ln)(hLn:L.length<=n)(hn:n<=25):FS 40 [syV n (A,L)] (bln (eA n A L)):=by
 have d:(lvE L).length=L.length:=iI L
 have c:=y8 ((kq n A).drop L.length) 103 [bSy n A L] (fun e=>decide (coP e n≠0)) (ac (bq n A L) af) (by simp;omega) (fun e f=>GP A n L e (by
  obtain⟨k,a⟩:=List.mem_iff_getElem?.1 (List.mem_of_mem_drop f)
  have b:k< n:=by
   have:=(List.getElem?_eq_some_iff.1 a).1;simpa using this
  rw[jI b] at a;cases a;simp)) rfl
 rw[<-Ff] at c;refine f_n Tryz.func40 ?_ ?_;exact ac (fS n A L) af;refine r_z 2 ?_;refine AWp.ent (st':=⟨[(1,bSy n A L)],[],1,11⟩) ?_ ?_;have:=dN n A L;exact s_f [];refine s_r 9 ?_;refine a_5 ?_;refine o_0 (.sa_l rfl rfl (l:=L.length) rfl (by simp;omega) te_115.h (mE_el _)) ?_;refine c_s (c) ?_;refine a_z ?_;exact aj (t_e (ag _))
end Go.Proofs.YtiodeiecpoopgaaGreatDoor
