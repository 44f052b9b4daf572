/- Part Y30 of the proof. -/
import Derived.Test.YtjgokhkahkmpbaaGreatDoorY29
set_option linter.all false
namespace Go.Proofs.YtjgokhkahkmpbaaGreatDoor
open Go.Abs
set_option maxRecDepth 20000
set_option maxHeartbeats 4000000
section
variable {n i j c k w:Nat}{f:Nat->Rat}{M A:Mx}
theorem qt(n:Nat)(f:Nat->Rat):aH (n+1) f=aH n f++[f n]:=by simp[aH,List.range_succ]
theorem n5{g:Nat->Rat}(h:∀i,i< n->f i=g i):aH n f=aH n g:=List.map_congr_left λi hi=>h i (List.mem_range.1 hi)
theorem oZ(h:i< n):(aH n f)[i]?=some (f i):=by simp[aH,h]
theorem FF{v:Rat}(h:j< n):(aH n f).set j v=aH n (λi=>if i=j then v else f i):=by
 apply List.ext_getElem?;intro i;rw[List.getElem?_set];by_cases hi:i< n;rw[oZ (f:=λi=>if i=j then v else f i) hi];by_cases e:j=i;rw[if_pos e,if_pos χ,if_pos e.symm];rw[if_neg e,oZ hi,if_neg (λe'=>e e'.symm)];rw[List.getElem?_eq_none χ,if_neg (show¬j=i by omega),List.getElem?_eq_none χ]
abbrev lY(M:Mx)(n i:Nat):Lc:=rE (rP (aH (n+1) (M i)))
theorem di(hj:j<=n):∀e,e=j->(lY M n i)[e]?=some (rC (rq (M i j))):=λe he=>by
 rw[he];unfold lY rE rP;rw[List.getElem?_map,List.getElem?_map,oZ ω];rfl
theorem GO{M':Mx}{v:Rat}(hj:j<=n)(h1:M' i j=v)(h2:∀k,k<=n->k≠j->M' i k=M i k):∀e,e=j->(lY M n i).set e (rC (rq v))=lY M' n i:=λe he=>by
 rw[he];unfold lY;rw[rE_set];congr 1;unfold rP;rw[<-List.map_set,FF ω];congr 1;refine n5 λk hk=>?_;by_cases e:k=j;rw[if_pos e,e,h1];rw[if_neg e,h2 k ω e]
def mxW(M:Mx)(n c:Nat):List Lc:=(List.range c).map (lY M n)
@[simp] theorem ob (M:Mx)(n c:Nat):(mxW M n c).length=c:=by simp[mxW]
theorem gM(h:i< c):(mxW M n c)[i]?=some (lY M n i):=by simp[mxW,h]
theorem uc{e:Lc}(h:(mxW M n c)[i]?=some e):i< c/\e=lY M n i:=by
 have h1:=(List.getElem?_eq_some_iff.1 h).1;rw[ob] at h1;rw[gM h1] at h;cases h;exact⟨h1,rfl⟩
theorem Eu{B:Mx}(h:∀i j,i< c->j<=n->A i j=B i j):mxW A n c=mxW B n c:=List.map_congr_left λi hi=>by
 unfold lY;rw[n5 λj hj=>h i j (List.mem_range.1 hi) ω]
theorem ls{t:Nat}{x:Option ABlk}{l:Hp}(h:k≠t):au ((k,x)::l) t=au l t:=by
 rw[de];unfold upd;rw[if_neg (λe=>h e.symm)]
theorem mxO_one(w:Nat)(s:Nat->Nat)(n:Nat):(mxO w s n).all (·.all AV.one)=true:=by
 unfold mxO;rw[List.all_map,List.all_eq_true];intro i _;rfl
theorem ei(h:i< n):∀e,e=i->(mxO w (λi=>i) n)[e]?=some [.lsl (i+2) 0 w none 4]:=λe he=>by rw[he];exact sI h
theorem GJ(w:Nat)(n k:Nat):mxO w (λi=>i) n++[[.lsl k 0 w none 4]]=mxO w (λi=>cond (Nat.beq i 1) 56 (cond (Nat.beq i (n+2)) k i)) (n+1):=by
 unfold mxO;rw[List.range_succ,List.map_append];congr 1;refine List.map_congr_left λi hi=>?_;have:=List.mem_range.1 hi;have h1:Nat.beq (i+2) 1=false:=rfl
 have h2:Nat.beq (i+2) (n+2)=false:=by
  cases hb:Nat.beq (i+2) (n+2) with
  |false=>rfl
  |true=>have:=Nat.eq_of_beq_eq_true hb;omega
 simp only[h1,h2,cond_false];have h1:Nat.beq (n+2) 1=false:=rfl;simp only[List.map_cons,List.map_nil,h1,cond_false,Nat.beq_refl,cond_true]
theorem dead_mx{TS TQ:Nat}{o:Lc}{L:List Lc}(hL:L.length<=30)(hi:40<=i):vA ⟨40,λi=>i⟩ (au (mxH TS TQ o L)) i:=λj B hj e=>by
 have e:j=i:=e;rcases List.mem_cons.1 (da hj) with h|h
 cases h;omega;have:=nk L 2 j (List.mem_map_of_mem h);omega
def svS(M:Mx)(n:Nat)(fr:Fr):AState:=⟨(7,.lsl 1 0 n none 1)::(6,i64 n)::fr,mxH 31 49 (mxO (n+1) (λi=>i) n) (mxW M n n),40,163⟩
theorem ku{B:Mx}{fr:Fr}(h:∀i j,i< n->j<=n->A i j=B i j):svS A n fr=svS B n fr:=by
 unfold svS;rw[Eu h]
def bdS(M:Mx)(a b:AV)(n:Nat):Nat->AState
 |0=>⟨[(0,a),(1,b),(6,i64 n),(7,.emp),(8,i64 0)],[],40,163⟩
 |c+1=>⟨[(0,a),(1,b),(6,i64 n),(7,.lsl 1 0 (c+1) none 1),(8,i64 ((c+1:Nat):Int))],mxH 31 49 (mxO (n+1) (λi=>i) (c+1)) (mxW M n (c+1)),40,163⟩
def svA(M:Mx)(n:Nat):Lc:=(List.range n).map λi=>[.arr (rE (rP (aH n (M i))))]
@[simp] theorem svA_length (M:Mx)(n:Nat):(svA M n).length=n:=by simp[svA]
theorem mW(h:i< n):∀e,e=i->(svA M n)[e]?=some [.arr (rE (rP (aH n (M i))))]:=λe he=>by rw[he];simp[svA,h]
theorem u5(M:Mx)(n:Nat):Closed (.arr (svA M n)):=aU λe he c hc=>by
 obtain⟨i,_,rfl⟩:=List.mem_map.1 he;rw[List.mem_singleton.1 hc];exact bp _
def svB(M:Mx)(n:Nat):List RQ:=rP (aH n λi=>M i n)
theorem mV(h:i< n):∀e,e=i->(rE (svB M n))[e]?=some (rC (rq (M i n))):=λe he=>by
 rw[he];unfold svB rE rP;rw[List.getElem?_map,List.getElem?_map,oZ h];rfl
def sB(c:Nat):Nat->Nat:=λi=>cond (Nat.beq i 1) 56 (cond (Nat.beq i (c+2)) 54 i)
theorem FY(c:Nat):sB c (c+2)=54:=by
 unfold sB;rw[show Nat.beq (c+2) 1=false from rfl,Nat.beq_refl];rfl
theorem FW(h:i≠c):sB c (i+2)=i+2:=by
 have h2:Nat.beq (i+2) (c+2)=false:=by
  cases hb:Nat.beq (i+2) (c+2) with
  |false=>rfl
  |true=>have:=Nat.eq_of_beq_eq_true hb;omega
 unfold sB;rw[show Nat.beq (i+2) 1=false from rfl,h2];rfl
theorem FZ(hc:c<=25):∀i j,1<=i->i< c+1+2->1<=j->j< c+1+2->sB c i=sB c j->i=j:=by
 have key:∀i,1<=i->i< c+1+2->(i=1/\sB c i=56)\/(i=c+2/\sB c i=54)\/(2<=i/\i< c+2/\sB c i=i):=λi h1 h2=>by
  by_cases e:i=1;subst e;exact .inl ⟨rfl,rfl⟩;obtain⟨k,rfl⟩:∃k,i=k+2:=⟨i- 2,ω⟩;by_cases e2:k=c;subst e2;exact .inr (.inl ⟨rfl,FY k⟩);exact .inr (.inr ⟨ω,ω,FW e2⟩)
 intro i j i1 i2 j1 j2 e;rcases key i i1 i2 with⟨a,b⟩|⟨a,b⟩|⟨a,b,d⟩<;> rcases key j j1 j2 with⟨a',b'⟩|⟨a',b'⟩|⟨a',b',d'⟩<;> omega
theorem zA(M:Mx)(n c:Nat):rE (rP (aH n (M c)))++[rC (rq (M c n))]=lY M n c:=by
 unfold lY;rw[qt];unfold rP;rw[List.map_append,qz];rfl
def sW(k p:Nat):Nat->Nat:=λi=>cond (Nat.beq i (k+2)) (p+2) (cond (Nat.beq i (p+2)) (k+2) i)
theorem beq_f{a b:Nat}(h:a≠b):Nat.beq a b=false:=by
 cases hb:Nat.beq a b with
 |false=>rfl
 |true=>exact absurd (Nat.eq_of_beq_eq_true hb) h
theorem qx(k p i:Nat):sW k p (i+2)=(if i=k then p else if i=p then k else i)+2:=by
 unfold sW;by_cases h1:i=k;rw[if_pos h1,h1,Nat.beq_refl];rfl;rw[if_neg h1,beq_f (show i+2≠k+2 by omega)];by_cases h2:i=p;rw[if_pos h2,h2,Nat.beq_refl];rfl;rw[if_neg h2,beq_f (show i+2≠p+2 by omega)];rfl
theorem sW_inj(k p:Nat):∀i j,1<=i->1<=j->sW k p i=sW k p j->i=j:=by
 intro i j i1 j1 e;by_cases h1:i=1;subst h1;by_cases h2:j=1;exact h2.symm;obtain⟨a,rfl⟩:∃a,j=a+2:=⟨j- 2,ω⟩;rw[qx,show sW k p 1=1 from rfl] at e;omega;obtain⟨a,rfl⟩:∃a,i=a+2:=⟨i- 2,ω⟩;by_cases h2:j=1;subst h2;rw[qx,show sW k p 1=1 from rfl] at e;omega
 ·obtain⟨b,rfl⟩:∃b,j=b+2:=⟨j- 2,ω⟩
  rw[qx,qx] at e
  repeat' split at e
  all_goals omega
theorem GI{p:Nat}(hk:k< n)(hp:p< n):∀a b,a=p->b=k->((mxO w (λi=>i) n).set a [.lsl (k+2) 0 w none 4]).set b [.lsl (p+2) 0 w none 4]=mxO w (sW k p) n:=λa b ha hb=>by
 rw[ha,hb];apply List.ext_getElem?;intro i;by_cases hi:i< n;rw[List.getElem?_set,sI hi,qx];by_cases h1:k=i;rw[if_pos h1,if_pos χ,if_pos h1.symm];rw[if_neg h1,if_neg (λe=>h1 e.symm),List.getElem?_set];by_cases h2:p=i;rw[if_pos h2,if_pos χ,if_pos h2.symm];rw[if_neg h2,if_neg (λe=>h2 e.symm),sI hi];rw[List.getElem?_eq_none χ,List.getElem?_eq_none χ]
theorem gD {nx:Nat} {fr fr':Fr} {hp:Hp} (hn:n<=25) (h1:au hp 1=some ⟨31,1,mxO (n+1) (λi=>i) n⟩) (hr:∀i,i< n->au hp (i+2)=some ⟨49,4,lY A n i⟩)
    (hF:Shr ⟨40,λi=>i⟩ (au hp) (au (mxH 31 49 (mxO (n+1) (λi=>i) n) (mxW A n n)))->CvF ⟨40,λi=>i⟩ (au hp) (au (mxH 31 49 (mxO (n+1) (λi=>i) n) (mxW A n n))) fr ((7,.lsl 1 0 n none 1)::(6,i64 n)::fr')):
    SEnt ⟨fr,hp,nx,163⟩ (svS A n fr'):=
 SEnt.mx (λi=>i) _ _ _ χ rfl (λi j _ _ _ _ e=>e) h1 rfl (λi e hi=>by
  obtain⟨h1,rfl⟩:=uc hi;exact⟨hr i h1,b8 _⟩) (λhs=>mQ ω λi hi=>by rw[jg (gM hi)];rfl) hF
theorem eU(h:i< n):au (mxH 31 49 (mxO (n+1) (λi=>i) n) (mxW A n n)) (i+2)=some ⟨49,4,lY A n i⟩:=jg (gM h)
theorem je(h:i< n):dw (au (mxH 31 49 (mxO (n+1) (λi=>i) n) (mxW A n n))) (i+2)=some ⟨49,4,lY A n i⟩:=zy (gM h)
theorem mxO_st{p:Nat}(hk:k< n)(hp:p< n):∀a b,a=p->b=k->((mxO w (λi=>i) n).set a [.lsl (k+2) 0 w none 4])[b]?=some [.lsl (k+2) 0 w none 4]:=λa b ha hb=>by
 rw[ha,hb,List.getElem?_set];by_cases h:p=k;rw[if_pos h,if_pos χ];rw[if_neg h,sI hk]
theorem gj_mono{m:Nat}(h:gjM M n k=none)(hk:k<=m):gjM M n m=none:=by
 induction m with
 |zero=>rw[show k=0 by omega] at h;exact h
 |succ m ih=>
  by_cases e:k=m+1;rw[<-e];exact h;rw[gjM,ih ω];rfl
theorem sgZ_zero{q:Rat}:sgZ q.num=0↔q=0:=by
 constructor;intro h;unfold sgZ at h;split at h
 ·rename_i h1
  exact Rat.num_eq_zero.1 h1
 split at h;cases h;cases h;intro h;subst h;rfl
theorem dJ{r:Ren}{hp hp':Hq}{id:Nat}{cap:Option Nat}{B:ABlk}{L:List RQ}(h:Shr r hp hp')(hi:dw hp id=some B)(hi':vA r hp' id)(he:B.es=rE L)(hn:n=L.length):Cv r hp hp' (.lsl id 0 n cap 4) (.arr (rE L)):=
 Cv.shut h hi hi' (by rw[he,hn];simp) (aI h (by rw[he,List.drop_zero];exact List.take_of_length_le (by simp[hn])) (b8 _))
def xsS(F:Lc)(f:Nat->Rat)(n:Nat):Nat->AState
 |0=>⟨[(6,i64 n),(7,.arr F),(14,.emp),(15,i64 0)],[],1,163⟩
 |i+1=>⟨[(6,i64 n),(7,.arr F),(14,.lsl 1 0 (i+1) none 4),(15,i64 ((i+1:Nat):Int))],[(1,some ⟨49,4,rE (rP (aH (i+1) f))⟩)],2,163⟩
theorem C2 (M:Mx) (n s:Nat) (hn:1<=n/\n<=25) (hb:Go.Abs.bdM M n s) (hs:1<=s) (hlim:4* gjB s n+1<=274877906944) (Q:Exit->AState->Prop)
    (h0:gjM M n n=none->∀(fr:Fr) (hp:Hp) (nx:Nat),Go.Abs.look fr 4=some .emp->Go.Abs.look fr 5=some (bln false)->Q .ret ⟨fr,hp,nx,163⟩)
    (h1:∀A,gjM M n n=some A->∀(fr:Fr) (hp:Hp) (nx i:Nat) (cap:Option Nat),Go.Abs.look fr 4=some (.lsl i 0 n cap 4)->au hp i=some ⟨49,4,rE (rP (aH n λi=>A i n/ A i i))⟩->Go.Abs.look fr 5=some (bln true)->Q .ret ⟨fr,hp,nx,163⟩)
    (c:Code) (hc:Tryz.f73.body=some c):AWp none Tryz.prog c Q ⟨[(0,.arr (svA M n)),(1,.arr (rE (svB M n)))],[],1,163⟩:=by
 have hA:=u5 M n;have hB:Closed (.arr (rE (svB M n))):=bp _;obtain rfl:_=c:=Option.some.inj (Eq.trans (rfl:some _=Tryz.f73.body) hc);clear hc;refine r_z 2 ?_;refine r_z 3 ?_;refine r_z 1 ?_;refine ac (r_z 1 ?_);refine aG (λ_:Unit=>svS M n []) (λ_=>True) ?_ ?_;refine ak (aC (bdS M (.arr (svA M n)) (.arr (rE (svB M n))) n) (λc=>n- c) (λc=>c<=n) 0 (Nat.zero_le _) ?_ ?_);rw[bdS.eq_1];exact s_x [] (λhs=>e_45) (λhs=>e_46);intro c hc;by_cases hlt:c< n
 ·have hne:rE (rP (aH n (M c)))≠[]:=λe=>by have:=congrArg List.length e;simp at this;omega
  cases c with
  |zero=>
   rw[bdS.eq_1];refine ac (q_z 3 ?_);refine cT (am (ac (ak (r_d hmix 15 ?_))));refine a_3 ?_
   first|refine av (.index_l rfl rfl ω ω te_121.h) rfl rfl ?_|refine av (.index_a rfl rfl ω (mW hlt _ ω) rfl te_121.h) rfl rfl ?_
   first|refine av (.load_l1 rfl rfl (mW hlt _ ω) TG.h rfl) rfl rfl ?_|refine av (.load_a1 rfl (mW hlt _ ω) TG.h rfl) rfl rfl ?_
   refine o_1 (.append_e rfl rfl rfl te_31.h rfl rfl rfl (.arr (jf _)) (by first|assumption|(simp;done)) TZ.h rfl TB.h d_o μ) ?_;refine a_2 ?_
   first|refine av (.index_l rfl rfl ω ω te_31.h) rfl rfl ?_|refine av (.index_a rfl rfl ω (mV hlt _ ω) rfl te_31.h) rfl rfl ?_
   first|refine av (.load_l rfl rfl (mV hlt _ ω) TG.h TS.h (nle rfl)) rfl rfl ?_|refine av (.load_a rfl (mV hlt _ ω) TG.h TS.h (nle rfl)) rfl rfl ?_
   refine a_5 ?_;refine ao (n_k ?_);refine r_m 3 ?_;refine a_z ?_;refine⟨1,ω,hlt,?_⟩;rw[bdS.eq_2];simp only[vX,ni,jP];refine SEnt.mx (sB 0) _ (mxO (n+1) (sB 0) 1) _ ψ rfl (by simp only[ob];exact FZ ω) rfl ψ ?_ ?_ ?_;intro i e hi;obtain⟨h1,rfl⟩:=uc hi;obtain rfl:i=0:=ω
   refine⟨?_,b8 _⟩;rw[<-zA];rfl;exact λhs=>mQ ω λi hi=>by rw[jg (gM hi)];rfl
   exact λhs=>cN
  |succ c=>
   rw[bdS.eq_2];have ho1:=mxO_one (n+1) (λi=>i) (c+1);refine ac (q_z 3 ?_);refine cT (am (ac (ak (r_d hmix 15 ?_))));refine a_3 ?_
   first|refine av (.index_l rfl rfl ω ω te_121.h) rfl rfl ?_|refine av (.index_a rfl rfl ω (mW hlt _ ω) rfl te_121.h) rfl rfl ?_
   first|refine av (.load_l1 rfl rfl (mW hlt _ ω) TG.h rfl) rfl rfl ?_|refine av (.load_a1 rfl (mW hlt _ ω) TG.h rfl) rfl rfl ?_
   refine o_1 (.append_e rfl rfl rfl te_31.h rfl rfl rfl (.arr (jf _)) (by first|assumption|(simp;done)) TZ.h rfl TB.h d_o μ) ?_;refine a_2 ?_
   first|refine av (.index_l rfl rfl ω ω te_31.h) rfl rfl ?_|refine av (.index_a rfl rfl ω (mV hlt _ ω) rfl te_31.h) rfl rfl ?_
   first|refine av (.load_l rfl rfl (mV hlt _ ω) TG.h TS.h (nle rfl)) rfl rfl ?_|refine av (.load_a rfl (mV hlt _ ω) TG.h TS.h (nle rfl)) rfl rfl ?_
   refine o_1 (.buildSlice te_31.h TZ.h rfl δ rfl rfl rfl υ) ?_;refine o_2 (.append_l rfl rfl rfl te_31.h rfl rfl rfl rfl rfl d_o η ξ rfl (.lsl rfl (nle rfl)) TZ.h rfl TB.h d_o μ) ?_;refine o_1 (.buildSlice te_121.h TZ.h rfl δ rfl rfl rfl υ) ?_;refine o_2 (.append_l rfl rfl rfl te_121.h rfl rfl rfl rfl rfl d_o η ξ rfl (.lsl rfl (nle rfl)) TZ.h rfl TB.h d_o μ) ?_;refine o_0 (.assign rfl) ?_;refine ao (n_k ?_);refine r_m 3 ?_;refine a_z ?_;refine⟨c+2,ω,hlt,?_⟩;rw[bdS.eq_2];simp only[vX,ni,jP];refine SEnt.mx (sB (c+1)) _ (mxO (n+1) (sB (c+1)) (c+2)) _ χ rfl (by simp only[ob];exact FZ ω) ?_ ψ ?_ ?_ ?_;show _=some (ABlk.mk 31 1 (mxO (n+1) (λi=>cond (Nat.beq i 1) 56 (cond (Nat.beq i (c+1+2)) 54 i)) (c+1+1)));rw[<-GJ];rfl;intro i e hi;obtain⟨h1,rfl⟩:=uc hi;by_cases hic:i=c+1;subst hic;refine⟨?_,b8 _⟩;rw[FY,<-zA];rfl
   ·rw[FW hic]
    refine⟨?_,b8 _⟩
    repeat rw[ls ω]
    exact jg (gM ω)
   exact λhs=>mQ ω λi hi=>by rw[jg (gM hi)];rfl
   exact λhs=>cN
 have hge:c=n:=ω
 obtain⟨c,rfl⟩:∃c',c=c'+1:=⟨c- 1,ω⟩;rw[bdS.eq_2];refine ac (q_z 3 ?_);refine cF (aB ⟨(),trivial,?_⟩);rw[svS.eq_1,<-hge];refine SEnt.mx (λi=>i) _ _ _ χ rfl (λi j _ _ _ _ e=>e) rfl ψ ?_ ?_ ?_;intro i e hi;obtain⟨h1,rfl⟩:=uc hi;exact⟨jg (gM ω),b8 _⟩;exact λhs=>mQ ω λi hi=>by rw[jg (gM hi)];rfl
 exact λhs=>cN;rintro _ _;show AWp _ _ _ _ (svS M n []);refine ac (r_z 1 ?_);refine aG (λA:Mx=>svS A n []) (λA=>gjM M n n=some A) ?_ ?_
 ·refine ak (aC (λx:Nat×Mx=>svS x.2 n [(9,i64 x.1)]) (λx=>n- x.1) (λx=>x.1<=n/\gjM M n x.1=some x.2) (0,M) ⟨Nat.zero_le _,rfl⟩ ?_ ?_)
  exact gD hn.2 rfl (λi hi=>eU hi) (λhs=>cN);rintro⟨k,A⟩ ⟨hk,hA⟩;simp only at hk hA;have hbA:=DK hb k A hk hA;have hg1:=gB_mono (s:=s) hk;obtain⟨_,hdg⟩:=lE k A hk hA;show AWp _ _ _ _ (svS A n [(9,i64 k)]);by_cases hlt:k< n;rotate_left;have hge:k=n:=ω
  subst hge;refine ac (q_z 3 ?_);refine cF (aB ⟨A,hA,?_⟩);exact gD hn.2 rfl (λi hi=>eU hi) (λhs=>cN);refine ac (q_z 3 ?_);refine cT (am (ac (ak (r_z 2 ?_))));refine bi (λp:Nat=>svS A n [(9,i64 k),(10,i64 p)]) (λp=>k<=p/\p<=n/\(∀i,k<=i->i< p->A i k=0)/\(p< n->A p k≠0)) ?_ ?_
  ·refine ak (aC (λp:Nat=>svS A n [(9,i64 k),(10,i64 p)]) (λp=>n- p) (λp=>k<=p/\p<=n/\∀i,k<=i->i< p->A i k=0) k ⟨Nat.le_refl _,hk,λi h1 h2=>by omega⟩ ?_ ?_)
   exact gD hn.2 rfl (λi hi=>eU hi) (λhs=>cN);rintro p ⟨p1,p2,p3⟩;show AWp _ _ _ _ (svS A n [(9,i64 k),(10,i64 p)]);by_cases hp:p< n;rotate_left;refine ac (q_z 14 ?_);refine cF (aB ⟨p,⟨p1,p2,p3,λh=>absurd h hp⟩,?_⟩);exact gD hn.2 rfl (λi hi=>eU hi) (λhs=>cN);have hsg:=pQ (rq (A p k));by_cases h0:A p k=0;refine ac (s_r 14 ?_);refine d_7 ?_
   first|refine ap rfl rfl rfl (.load_l1 rfl rfl (ei hp _ ω) TG.h rfl) rfl rfl ?_|refine ap rfl rfl rfl (.load_a1 rfl (ei hp _ ω) TG.h rfl) rfl rfl ?_
   refine d_2 ?_;refine ap rfl rfl rfl (.load_l rfl (je hp) (di (j:=k) ω _ ω) TG.h TS.h (nle rfl)) rfl rfl ?_;refine c_s (hsg) ?_;refine ap rfl rfl rfl (.bin rfl rfl (vT aM (decide_eq_true (sgZ_zero.2 h0)))) rfl rfl ?_;refine a_z ?_;refine cT (am (ak (r_m 3 ?_)));refine a_z ?_;refine⟨p+1,ω,⟨ω,ω,λi h1 h2=>?_⟩,?_⟩;by_cases e:i=p;rw[e];exact h0;exact p3 i h1 ω;exact gD hn.2 rfl (λi hi=>eU hi) (λhs=>cN);refine ac (s_r 14 ?_);refine d_7 ?_
   first|refine ap rfl rfl rfl (.load_l1 rfl rfl (ei hp _ ω) TG.h rfl) rfl rfl ?_|refine ap rfl rfl rfl (.load_a1 rfl (ei hp _ ω) TG.h rfl) rfl rfl ?_
   refine d_2 ?_;refine ap rfl rfl rfl (.load_l rfl (je hp) (di (j:=k) ω _ ω) TG.h TS.h (nle rfl)) rfl rfl ?_;refine c_s (hsg) ?_;refine ap rfl rfl rfl (.bin rfl rfl (vF aM (decide_eq_false (λe=>h0 (sgZ_zero.1 e))))) rfl rfl ?_;refine a_z ?_;refine cF (aB ⟨p,⟨p1,p2,p3,λ_=>h0⟩,?_⟩);exact gD hn.2 rfl (λi hi=>eU hi) (λhs=>cN)
  rintro p ⟨p1,p2,p3,p4⟩;show AWp _ _ _ _ (svS A n [(9,i64 k),(10,i64 p)]);by_cases hpn:p=n;have hnone:gjM M n n=none:=gj_mono (k:=k+1) (by rw[gjM,hA,Option.bind_some,pvt_no λi h1 h2=>p3 i h1 ω];rfl) ω;refine ac (q_z 3 ?_);refine cT (r_z 2 ?_);exact an (h0 hnone _ _ _ rfl rfl);have hp:p< n:=ω
  have hpk:=p4 hp;have hpv:pvt A n k=some p:=pvt_of hp p1 hpk p3;have hpv2:=hpv;refine ac (q_z 3 ?_);refine cF (am (ac (r_d hmix 16 ?_)));refine a_7 ?_
  first|refine av (.load_l1 rfl rfl (ei hlt _ ω) TG.h rfl) rfl rfl ?_|refine av (.load_a1 rfl (ei hlt _ ω) TG.h rfl) rfl rfl ?_
  refine a_3 ?_
  first|refine av (.load_l1 rfl rfl (ei hp _ ω) TG.h rfl) rfl rfl ?_|refine av (.load_a1 rfl (ei hp _ ω) TG.h rfl) rfl rfl ?_
  refine a_1 ?_;refine ee (.store rfl rfl (ei hp _ ω) rfl rfl rfl TS.h (nle rfl)) ?_;refine a_1 ?_;refine ee (.store rfl rfl (mxO_st hlt hp _ _ ω ω) rfl rfl rfl TS.h (nle rfl)) ?_;refine ao (n_k ?_);refine r_z 1 ?_;obtain⟨B,hBd⟩:∃B,B=swM A k p:=⟨_,rfl⟩;have hbB:Go.Abs.bdM B n (gjB s k):=by rw[hBd];exact AM hbA hlt hp
  have hBk:B k k≠0:=by rw[hBd];unfold swM;rw[if_pos rfl];exact hpk
  refine AWp.cutB (λ_:Unit=>svS (elM B k n) n [(9,i64 k)]) (λ_=>True) ?_ ?_
  ·refine ak (aC (λi:Nat=>svS (elM B k i) n [(9,i64 k),(11,i64 i)]) (λi=>n- i) (λi=>i<=n) 0 (Nat.zero_le _) ?_ ?_)
   show SEnt _ (svS (elM B k 0) n [(9,i64 k),(11,i64 ((0:Nat):Int))]);rw[ku (B:=B) λi j _ _=>by unfold elM;rw[if_neg (λe=>ω)],svS.eq_1];refine SEnt.mx (sW k p) _ (mxO (n+1) (sW k p) n) _ χ rfl (λi j h1 _ h2 _ e=>sW_inj k p i j h1 h2 e) ?_ ψ ?_ ?_ ?_;rw[<-GI hlt hp (0+((p:Nat):Int).toNat) (0+((k:Nat):Int).toNat) ω ω];rfl
   ·intro i e hi
    obtain⟨h1,rfl⟩:=uc hi;refine⟨?_,b8 _⟩;rw[qx]
    repeat rw[ls ω]
    rw[eU (by split;omega;split <;> omega)];unfold lY;congr 5;rw[hBd];unfold swM;funext j;split;rfl;split <;> rfl
   exact λhs=>mQ ω λi hi=>by rw[jg (gM hi)];rfl
   exact λhs=>cN;intro i hi;obtain⟨E,hE⟩:∃E,E=elM B k i:=⟨_,rfl⟩;have hbE:Go.Abs.bdM E n (4* gjB s k+1):=by rw[hE];exact bd_el hbB hlt
   have hEk:∀j,E k j=B k j:=λj=>by rw[hE];unfold elM;rw[if_neg (λe=>e.2.1 rfl)]
   have hEi:∀j,E i j=B i j:=λj=>by rw[hE];unfold elM;rw[if_neg (λe=>ω)]
   show AWp _ _ _ _ (svS (elM B k i) n [(9,i64 k),(11,i64 i)]);rw[<-hE];by_cases hin:i< n;rotate_left;have hge:i=n:=ω
   subst hge;refine ac (q_z 3 ?_);refine cF (aB ⟨(),trivial,?_⟩);show SEnt _ (svS (elM B k i) i [(9,i64 k)]);rw[<-hE];exact gD hn.2 rfl (λi hi=>eU hi) (λhs=>cN);refine ac (q_z 3 ?_);refine cT (am (ac (ak ?_)));by_cases hik:i=k;refine ac (q_z 14 ?_);refine cT (aB (r_m 3 ?_));refine a_z ?_;refine⟨i+1,ω,ω,?_⟩;show SEnt _ (svS (elM B k (i+1)) n [(9,i64 k),(11,i64 ((i+1:Nat):Int))])
   rw[ku (B:=E) λi' j _ _=>by
    rw[hE];unfold elM;by_cases e:i'< i/\i'≠k/\k<=j;rw[if_pos e,if_pos ⟨ω,e.2.1,e.2.2⟩];rw[if_neg e,if_neg (λe'=>e ⟨ω,e'.2.1,e'.2.2⟩)]]
   exact gD hn.2 rfl (λi hi=>eU hi) (λhs=>cN);have hsg:=pQ (rq (E i k));by_cases h0:E i k=0;refine ac (s_r 14 ?_);refine d_7 ?_
   first|refine ap rfl rfl rfl (.load_l1 rfl rfl (ei hin _ ω) TG.h rfl) rfl rfl ?_|refine ap rfl rfl rfl (.load_a1 rfl (ei hin _ ω) TG.h rfl) rfl rfl ?_
   refine d_2 ?_;refine ap rfl rfl rfl (.load_l rfl (je hin) (di (j:=k) ω _ ω) TG.h TS.h (nle rfl)) rfl rfl ?_;refine c_s (hsg) ?_;refine ap rfl rfl rfl (.bin rfl rfl (vT aM (decide_eq_true (sgZ_zero.2 h0)))) rfl rfl ?_;refine a_z ?_;refine cT (aB (r_m 3 ?_));refine a_z ?_;refine⟨i+1,ω,ω,?_⟩;show SEnt _ (svS (elM B k (i+1)) n [(9,i64 k),(11,i64 ((i+1:Nat):Int))])
   rw[ku (B:=E) λi' j _ _=>by
    have h0':=h0;rw[hEi] at h0';rw[hE];unfold elM;by_cases e:i'< i/\i'≠k/\k<=j;rw[if_pos e,if_pos ⟨ω,e.2.1,e.2.2⟩];by_cases e2:i'=i;subst e2;rw[if_neg e];by_cases e3:k<=j;rw[if_pos ⟨ω,hik,e3⟩,h0'];grind;rw[if_neg (λe'=>e3 e'.2.2)];rw[if_neg e,if_neg (λe'=>e ⟨ω,e'.2.1,e'.2.2⟩)]]
   exact gD hn.2 rfl (λi hi=>eU hi) (λhs=>cN);have b1:=hbE i k hin ω;have b2:=hbE k k hlt ω;have hg2:4* gjB s k+1<=274877906944:=ω
   have hdv:=DP (rq (E i k)) (rq (E k k)) (ft _) (ft _) (by show E k k≠0;rw[hEk];exact hBk) (by show qs (E i k)+qs (E k k)<=_;omega);refine ac (s_r 14 ?_);refine d_7 ?_
   first|refine ap rfl rfl rfl (.load_l1 rfl rfl (ei hin _ ω) TG.h rfl) rfl rfl ?_|refine ap rfl rfl rfl (.load_a1 rfl (ei hin _ ω) TG.h rfl) rfl rfl ?_
   refine d_2 ?_;refine ap rfl rfl rfl (.load_l rfl (je hin) (di (j:=k) ω _ ω) TG.h TS.h (nle rfl)) rfl rfl ?_;refine c_s (hsg) ?_;refine ap rfl rfl rfl (.bin rfl rfl (vF aM (decide_eq_false (λe=>h0 (sgZ_zero.1 e))))) rfl rfl ?_;refine a_z ?_;refine cF (am (ac (r_d hmix 17 ?_)));refine a_3 ?_
   first|refine av (.load_l1 rfl rfl (ei hin _ ω) TG.h rfl) rfl rfl ?_|refine av (.load_a1 rfl (ei hin _ ω) TG.h rfl) rfl rfl ?_
   refine a_2 ?_;refine o_0 (.load_l rfl (je hin) (di (j:=k) ω _ ω) TG.h TS.h (nle rfl)) ?_;refine a_3 ?_
   first|refine av (.load_l1 rfl rfl (ei hlt _ ω) TG.h rfl) rfl rfl ?_|refine av (.load_a1 rfl (ei hlt _ ω) TG.h rfl) rfl rfl ?_
   refine a_2 ?_;refine o_0 (.load_l rfl (je hlt) (di (j:=k) ω _ ω) TG.h TS.h (nle rfl)) ?_;refine c_s (hdv) ?_;refine a_2 ?_;refine ao ⟨oa (fps0:=[([],[]),([],[]),([],[]),([],[]),([],[]),([],[]),([],[]),([],[]),([],[]),([],[]),([],[]),([],[]),([],[]),([],[]),([],[]),([72],[]),([72],[72])]) κ (lessF.zz (lessF.zz (lessF.zz (lessF.rd ω (lessF.zz (lessF.zz (lessF.rd ω (lessF.zz (lessF.zz (lessF.zz (lessF.rd ω (lessF.zz (lessF.zz (lessF.rd ω (lessF.zz (lessF.al rfl (show 40<=72 by decide) (lessF.st rfl (show 40<=72 by decide) lessF.nil))))))))))))))))),?_⟩;refine r_z 2 ?_;obtain⟨f,hf⟩:∃f,f=E i k/ E k k:=⟨_,rfl⟩
   have bf:qs f<=2* (4* gjB s k+1):=by
    have:=fu (E i k) (E k k);rw[hf];omega
   rw[show(rq (E i k)).1/ (rq (E k k)).1=f from hf.symm];obtain⟨G,hG⟩:∃G:Nat->Mx,G=λj i' j'=>if i'=i/\k<=j'/\j'< j then E i j'- f* E k j' else E i' j':=⟨_,rfl⟩
   refine AWp.cutB (λ_:Unit=>svS (elM B k (i+1)) n [(9,i64 k),(11,i64 i)]) (λ_=>True) ?_ ?_
   ·refine ak (aC (λj:Nat=>svS (G j) n [(9,i64 k),(11,i64 i),(12,.aptr [rC (rq f)] 0 0),(13,i64 j)]) (λj=>n+1- j) (λj=>k<=j/\j<=n+1) k ⟨Nat.le_refl _,ω⟩ ?_ ?_)
    show SEnt _ (svS (G k) n [(9,i64 k),(11,i64 i),(12,.aptr [rC (rq f)] 0 0),(13,i64 k)]);rw[ku (B:=E) λi' j _ _=>by rw[hG];simp only;rw[if_neg (λe=>ω)]];refine gD hn.2 rfl (λi hi=>?_) (λhs=>?_)
    ·repeat rw[ls ω]
     exact eU hi
    exact aj rfl (Cv.sl rfl rfl rfl) (aj rfl (ah hs (ag _)) (aj rfl (ah hs (ag _)) (aj rfl (ah hs (ag _)) (aj rfl (Cv.boxp hs rfl (dead_mx χ ω) rfl (fi _)) (aj rfl (ah hs (ag _)) aF)))));rintro j ⟨j1,j2⟩;show AWp _ _ _ _ (svS (G j) n [(9,i64 k),(11,i64 i),(12,.aptr [rC (rq f)] 0 0),(13,i64 j)]);by_cases hj:j<=n;rotate_left;have hge:j=n+1:=ω
    subst hge;refine ac (q_z 3 ?_);refine cF (aB ⟨(),trivial,?_⟩);show SEnt _ (svS (elM B k (i+1)) n [(9,i64 k),(11,i64 i)])
    rw[ku (B:=G (n+1)) λi' j' h1 h2=>by
     rw[hG,hE];simp only;unfold elM;by_cases e:i'=i;subst e;by_cases e3:k<=j';rw[if_pos ⟨ω,hik,e3⟩,if_pos ⟨rfl,e3,ω⟩,if_neg (λe=>ω),if_neg (λe=>e.2.1 rfl),hf,hEi,hEk];rw[if_neg (λe'=>e3 e'.2.2),if_neg (λe'=>e3 e'.2.1),if_neg (λe'=>e3 e'.2.2)];rw[if_neg (λe':i'=i/\k<=j'/\j'< n+1=>e e'.1)];by_cases e2:i'< i/\i'≠k/\k<=j';rw[if_pos e2,if_pos ⟨ω,e2.2.1,e2.2.2⟩];rw[if_neg e2,if_neg (λe'=>e2 ⟨ω,e'.2.1,e'.2.2⟩)]]
    exact gD hn.2 rfl (λi hi=>eU hi) (λhs=>cN);have g1:G j i j=E i j:=by rw[hG];simp only;rw[if_neg (λe=>ω)]
    have g2:G j k j=E k j:=by rw[hG];simp only;rw[if_neg (λe=>ω)]
    have c1:=hbE i j hin hj;have c2:=hbE k j hlt hj;have hqm:=eV f (E k j);have hmu:=xE (rq f) (rq (G j k j)) (ft _) (ft _) (by show qs f+qs (G j k j)<=_;rw[g2];omega);have hsb:=fs_rSub (rq (G j i j)) (rq (f* G j k j)) (ft _) (ft _) (by show qs (G j i j)+qs (f* G j k j)<=_;rw[g1,g2];omega);refine ac (q_z 3 ?_);refine cT (am (ac (ak (r_d hmix 24 ?_))));refine a_3 ?_
    first|refine av (.load_l1 rfl rfl (ei hin _ ω) TG.h rfl) rfl rfl ?_|refine av (.load_a1 rfl (ei hin _ ω) TG.h rfl) rfl rfl ?_
    refine a_4 ?_
    first|refine av (.load_l1 rfl rfl (ei hin _ ω) TG.h rfl) rfl rfl ?_|refine av (.load_a1 rfl (ei hin _ ω) TG.h rfl) rfl rfl ?_
    refine a_2 ?_;refine o_0 (.load_l rfl (je hin) (di hj _ ω) TG.h TS.h (nle rfl)) ?_;refine a_4 ?_
    first|refine av (.load_l1 rfl rfl (ei hlt _ ω) TG.h rfl) rfl rfl ?_|refine av (.load_a1 rfl (ei hlt _ ω) TG.h rfl) rfl rfl ?_
    refine a_2 ?_;refine o_0 (.load_l rfl (je hlt) (di hj _ ω) TG.h TS.h (nle rfl)) ?_;refine c_s (hmu) ?_;refine c_s (hsb) ?_;refine a_1 ?_;refine ee (.store rfl (je hin) (di hj _ ω) rfl rfl rfl TS.h (nle rfl)) ?_;refine ao (n_k ?_);refine r_m 3 ?_;refine a_z ?_;refine⟨j+1,ω,⟨ω,ω⟩,?_⟩;refine gD hn.2 rfl (λi' hi'=>?_) (λhs=>?_);by_cases e:i'=i;subst e;rw[de,bn];refine congrArg some ?_;refine congrArg (ABlk.mk _ _) ?_
    exact GO (M:=G j) (v:=G j i' j- f* G j k j) hj (by rw[g1,g2,hG];simp only;rw[if_pos ⟨trivial,j1,ω⟩]) (λj' h1 h2=>by
     rw[hG];simp only;by_cases e:k<=j'/\j'< j;rw[if_pos (show True/\k<=j'/\j'< j+1 from⟨trivial,e.1,ω⟩),if_pos (show True/\k<=j'/\j'< j from⟨trivial,e.1,e.2⟩)];rw[if_neg (λe':True/\k<=j'/\j'< j+1=>e ⟨e'.2.1,ω⟩),if_neg (λe':True/\k<=j'/\j'< j=>e e'.2)]) _ ω
    rw[ls ω,eU hi'];unfold lY;rw[n5 λj' _=>show G j i' j'=G (j+1) i' j' by rw[hG];simp only;rw[if_neg (λe'=>e e'.1),if_neg (λe'=>e e'.1)]];exact aj rfl (Cv.sl rfl rfl rfl) (aj rfl (ah hs (ag _)) (aj rfl (ah hs (ag _)) (aj rfl (ah hs (ag _)) (aj rfl (ah hs (aW (fi _))) (aj rfl (ah hs (ag _)) aF)))))
   rintro _ _;show AWp _ _ _ _ (svS (elM B k (i+1)) n [(9,i64 k),(11,i64 i)]);refine r_m 3 ?_;refine a_z ?_;refine⟨i+1,ω,ω,?_⟩;exact gD hn.2 rfl (λi hi=>eU hi) (λhs=>cN)
  rintro _ _;show AWp _ _ _ _ (svS (elM B k n) n [(9,i64 k)]);refine r_m 3 ?_;refine a_z ?_;refine⟨(k+1,elM B k n),by simp only;omega,⟨by simp only;omega,by simp only;rw[gjM,hA,Option.bind_some,hpv,hBd];rfl⟩,?_⟩;exact gD hn.2 rfl (λi hi=>eU hi) (λhs=>cN)
 rintro A hA;have hbA:=DK hb n A (Nat.le_refl _) hA;obtain⟨_,hdg⟩:=lE n A (Nat.le_refl _) hA;refine r_z 1 ?_;obtain⟨F,hF⟩:∃F:Lc,F=(mxW A n n).map λe=>[.arr e]:=⟨_,rfl⟩
 have hFg:∀i,i< n->∀e,e=i->F[e]?=some [.arr (lY A n i)]:=λi hi e he=>by
  rw[he,hF,List.getElem?_map,gM hi];rfl
 have hFl:F.length=n:=by rw[hF];simp
 have cF:Closed (.arr F):=aU λe he c hc=>by
  rw[hF] at he;obtain⟨x,hx,rfl⟩:=List.mem_map.1 he;rw[List.mem_singleton.1 hc];obtain⟨i,_,rfl⟩:=List.mem_map.1 hx;exact bp _
 refine AWp.ent (st':=⟨[(6,i64 n),(7,.arr F),(14,.emp)],[],1,163⟩) ?_ ?_;rw[hF];refine dn [] rfl rfl rfl ShrL.nil (λhs=>aj rfl (ah hs (ag _)) (aj rfl (Cv.mxShut hs (λ_=>rfl) ψ (λe he=>?_) (λe he=>?_)) (aj rfl (ah hs aK) aF))) (λhs=>aD);obtain⟨i,_,rfl⟩:=List.mem_map.1 he;show(lY A n i).length=n+1;simp;obtain⟨i,_,rfl⟩:=List.mem_map.1 he;exact b8 _;refine ac (r_z 1 ?_);refine aG (xsS F (λi=>A i n/ A i i) n) (λi=>i=n) ?_ ?_;refine ak (aC (xsS F (λi=>A i n/ A i i) n) (λi=>n- i) (λi=>i<=n) 0 (Nat.zero_le _) ?_ ?_);rw[xsS.eq_1];exact s_e [];intro i hi;by_cases hin:i< n;have b1:=hbA i n hin (Nat.le_refl _);have b2:=hbA i i hin ω;have hdv:=DP (rq (A i n)) (rq (A i i)) (ft _) (ft _) (hdg i hin).1 (by show qs (A i n)+qs (A i i)<=_;omega);cases i with
 |zero=>
  rw[xsS.eq_1];refine ac (q_z 3 ?_);refine cT (am (ac (ak (r_d hmix 19 ?_))));refine a_3 ?_
  first|refine av (.index_l rfl rfl ω ω te_121.h) rfl rfl ?_|refine av (.index_a rfl rfl ω (hFg 0 hin _ ω) rfl te_121.h) rfl rfl ?_
  first|refine av (.load_l1 rfl rfl (hFg 0 hin _ ω) TG.h rfl) rfl rfl ?_|refine av (.load_a1 rfl (hFg 0 hin _ ω) TG.h rfl) rfl rfl ?_
  refine a_1 ?_
  first|refine av (.index_l rfl rfl ω ω te_31.h) rfl rfl ?_|refine av (.index_a rfl rfl ω (di (j:=n) ω _ ω) rfl te_31.h) rfl rfl ?_
  first|refine av (.load_l rfl rfl (di (j:=n) ω _ ω) TG.h TS.h (nle rfl)) rfl rfl ?_|refine av (.load_a rfl (di (j:=n) ω _ ω) TG.h TS.h (nle rfl)) rfl rfl ?_
  refine a_2 ?_
  first|refine av (.index_l rfl rfl ω ω te_121.h) rfl rfl ?_|refine av (.index_a rfl rfl ω (hFg 0 hin _ ω) rfl te_121.h) rfl rfl ?_
  first|refine av (.load_l1 rfl rfl (hFg 0 hin _ ω) TG.h rfl) rfl rfl ?_|refine av (.load_a1 rfl (hFg 0 hin _ ω) TG.h rfl) rfl rfl ?_
  refine a_1 ?_
  first|refine av (.index_l rfl rfl ω ω te_31.h) rfl rfl ?_|refine av (.index_a rfl rfl ω (di (j:=0) ω _ ω) rfl te_31.h) rfl rfl ?_
  first|refine av (.load_l rfl rfl (di (j:=0) ω _ ω) TG.h TS.h (nle rfl)) rfl rfl ?_|refine av (.load_a rfl (di (j:=0) ω _ ω) TG.h TS.h (nle rfl)) rfl rfl ?_
  refine c_s (hdv) ?_;refine a_3 ?_;refine ao (n_k ?_);refine r_m 3 ?_;refine a_z ?_;refine⟨1,ω,ω,?_⟩;rw[xsS.eq_2];exact s_f [(1,14)]
 |succ i=>
  rw[xsS.eq_2];refine ac (q_z 3 ?_);refine cT (am (ac (ak (r_d hmix 19 ?_))));refine a_3 ?_
  first|refine av (.index_l rfl rfl ω ω te_121.h) rfl rfl ?_|refine av (.index_a rfl rfl ω (hFg (i+1) hin _ ω) rfl te_121.h) rfl rfl ?_
  first|refine av (.load_l1 rfl rfl (hFg (i+1) hin _ ω) TG.h rfl) rfl rfl ?_|refine av (.load_a1 rfl (hFg (i+1) hin _ ω) TG.h rfl) rfl rfl ?_
  refine a_1 ?_
  first|refine av (.index_l rfl rfl ω ω te_31.h) rfl rfl ?_|refine av (.index_a rfl rfl ω (di (j:=n) ω _ ω) rfl te_31.h) rfl rfl ?_
  first|refine av (.load_l rfl rfl (di (j:=n) ω _ ω) TG.h TS.h (nle rfl)) rfl rfl ?_|refine av (.load_a rfl (di (j:=n) ω _ ω) TG.h TS.h (nle rfl)) rfl rfl ?_
  refine a_2 ?_
  first|refine av (.index_l rfl rfl ω ω te_121.h) rfl rfl ?_|refine av (.index_a rfl rfl ω (hFg (i+1) hin _ ω) rfl te_121.h) rfl rfl ?_
  first|refine av (.load_l1 rfl rfl (hFg (i+1) hin _ ω) TG.h rfl) rfl rfl ?_|refine av (.load_a1 rfl (hFg (i+1) hin _ ω) TG.h rfl) rfl rfl ?_
  refine a_1 ?_
  first|refine av (.index_l rfl rfl ω ω te_31.h) rfl rfl ?_|refine av (.index_a rfl rfl ω (di (j:=i+1) ω _ ω) rfl te_31.h) rfl rfl ?_
  first|refine av (.load_l rfl rfl (di (j:=i+1) ω _ ω) TG.h TS.h (nle rfl)) rfl rfl ?_|refine av (.load_a rfl (di (j:=i+1) ω _ ω) TG.h TS.h (nle rfl)) rfl rfl ?_
  refine c_s (hdv) ?_;refine a_3 ?_;refine ao (n_k ?_);refine r_m 3 ?_;refine a_z ?_;refine⟨i+2,ω,ω,?_⟩;rw[xsS.eq_2];refine s_x [(1,14)] (λhs=>cN) (λhs=>?_)
  ·repeat' (first|exact aD|refine h_c ?_ ?_|exact aI hs (by rw[qt (i+1)];unfold rP;rw[List.map_append,qz];rfl) (b8 _)|exact bG)
 have hge:i=n:=ω
 obtain⟨i,rfl⟩:∃i',i=i'+1:=⟨i- 1,ω⟩;rw[xsS.eq_2];refine ac (q_z 3 ?_);refine aw rfl (λh=>?_) (λh=>?_);cases h;refine aB ⟨i+1,hge,?_⟩;rw[xsS.eq_2];exact s_f [(1,14)];rintro i hi;obtain⟨i,rfl⟩:∃i',i=i'+1:=⟨i- 1,ω⟩;obtain rfl:n=i+1:=hi.symm;rw[xsS.eq_2];refine r_z 3 ?_;exact an (h1 A hA _ _ _ _ _ rfl rfl rfl)
theorem nY(M:Mx)(n:Nat):∀a∈[AV.arr (svA M n),.arr (rE (svB M n))],Closed a:=ae (u5 M n) (ae (bp _) ai)
theorem ER(M:Mx)(n s:Nat)(hn:1<=n/\n<=25)(hb:Go.Abs.bdM M n s)(hs:1<=s)(hlim:4* gjB s n+1<=274877906944)(h:gjM M n n=none):
    FS 73 [.arr (svA M n),.arr (rE (svB M n))] (.tup [.emp,bln false]):=by
 refine mO Tryz.func73 rfl κ rfl rfl rfl (nY M n) rfl (C2 M n s hn hb hs hlim _ ?_ ?_ _ rfl);intro _ fr hp nx h4 h5;refine Fin.many ⟨_,_,rfl,h4,⟨_,_,rfl,h5,rfl⟩⟩ (nle rfl) ?_;exact af (ah aE aK) (af (ah aE (ag _)) ax);intro A hA;rw[h] at hA;cases hA
theorem Gu(M A:Mx)(n s:Nat)(hn:1<=n/\n<=25)(hb:Go.Abs.bdM M n s)(hs:1<=s)(hlim:4* gjB s n+1<=274877906944)(h:gjM M n n=some A):
    OTSpec Tryz.prog 73 [.arr (svA M n),.arr (rE (svB M n))] 49 4 (rE (rP (aH n λi=>A i n/ A i i))) (.bool true):=by
 refine OTSpec.enter (t:=4) (t2:=5) Tryz.func73 rfl κ rfl rfl rfl (nY M n) (b8 _) rfl (C2 M n s hn hb hs hlim _ ?_ ?_ _ rfl);intro hN;rw[h] at hN;cases hN;intro A' hA' fr hp nx i cap h4 hb h5;rw[h] at hA';cases hA';exact FinOT.tmp h4 hb rfl ψ h5
end
theorem EQ:FS 73 [.arr [],.arr []] (.tup [.emp,bln true]):=by
 have cA:Closed (.arr []):=aU (λe he=>by cases he);refine f_c Tryz.func73 ?_;refine r_z 2 ?_;refine r_z 3 ?_;refine r_z 1 ?_;refine ac (r_z 1 ?_);refine aG (λ_:Unit=>⟨[(6,i64 0),(7,.emp)],[],1,163⟩) (λ_=>True) ?_ ?_;refine ak (aC (λ_:Unit=>⟨[(6,i64 0),(7,.emp),(8,i64 0)],[],1,163⟩) (λ_=>0) (λ_=>True) () trivial ?_ ?_);exact s_e [];rintro _ _;refine ac (q_z 3 ?_);refine cF (aB ⟨(),trivial,?_⟩);exact s_e [];rintro _ _;refine ac (r_z 1 ?_);refine aG (λ_:Unit=>⟨[(6,i64 0),(7,.emp)],[],1,163⟩) (λ_=>True) ?_ ?_;refine ak (aC (λ_:Unit=>⟨[(6,i64 0),(7,.emp),(9,i64 0)],[],1,163⟩) (λ_=>0) (λ_=>True) () trivial ?_ ?_);exact s_e [];rintro _ _;refine ac (q_z 3 ?_);refine cF (aB ⟨(),trivial,?_⟩);exact s_e [];rintro _ _;refine r_z 1 ?_;refine ac (r_z 1 ?_);refine aG (λ_:Unit=>⟨[(14,.emp)],[],1,163⟩) (λ_=>True) ?_ ?_;refine ak (aC (λ_:Unit=>⟨[(6,i64 0),(14,.emp),(15,i64 0)],[],1,163⟩) (λ_=>0) (λ_=>True) () trivial ?_ ?_);exact s_e [];rintro _ _;refine ac (q_z 3 ?_);refine cF (aB ⟨(),trivial,?_⟩);exact s_e [];rintro _ _;refine r_z 3 ?_;refine an (Fin.many ⟨_,_,rfl,rfl,⟨_,_,rfl,rfl,rfl⟩⟩ (nle rfl) ?_);exact af (ah aE aK) (af (ah aE (ag _)) ax)
def svC(M:Mx)(n c:Nat):Lc:=(List.range c).map λi=>[.arr (rE (rP (aH n (M i))))]
@[simp] theorem svC_length (M:Mx)(n c:Nat):(svC M n c).length=c:=by simp[svC]
theorem FK(M:Mx)(n c:Nat):svC M n (c+1)=svC M n c++[[.arr (rE (rP (aH n (M c))))]]:=by simp[svC,List.range_succ]
theorem svC_one(M:Mx)(n c:Nat):(svC M n c).all (·.all AV.one)=true:=by
 unfold svC;rw[List.all_map,List.all_eq_true];intro i _;rfl
theorem iv(M:Mx)(n c:Nat):∀e∈svC M n c,∀x∈e,Closed x:=λe he x hx=>by
 obtain⟨i,_,rfl⟩:=List.mem_map.1 he;rw[List.mem_singleton.1 hx];exact bp _
theorem wK{r:Ren}{hp hp':Hq}{x y:La}(h:CvL r hp hp' x y):∀{xs ys:Lc},CvLL r hp hp' xs ys->CvLL r hp hp' (xs++[x]) (ys++[y])
 |[],ys,h'=>by cases (h':ys=[]);exact ay h
 |a::xs,ys,⟨b,ys',e,h1,h2⟩=>by
  subst e;exact CvLL.cons h1 (wK h h2)
theorem Ij{r:Ren}{hp hp':Hq}{xs ys zs:Lc}(h:CvLL r hp hp' xs ys)(e:ys=zs):CvLL r hp hp' xs zs:=e▸h
theorem rE_snoc(n:Nat)(f:Nat->Rat):rE (rP (aH n f))++[rC (rq (f n))]=rE (rP (aH (n+1) f)):=by
 rw[qt];unfold rP;rw[List.map_append,qz];rfl
end Go.Proofs.YtjgokhkahkmpbaaGreatDoor
