/- Part Y18 of the proof. -/
import Derived.Test.YtdjfjpeoddmamaaGreatDoorY17
set_option linter.all false
namespace Go.Proofs.YtdjfjpeoddmamaaGreatDoor
open Go.Abs
set_option maxRecDepth 20000
set_option maxHeartbeats 4000000
theorem if_(n:Nat)(f:Nat→Rat):tabP (n+1) f=tabP n f++[f n]:=by simp[tabP,List.range_succ]
theorem gV_{n:Nat}{f g:Nat→Rat}(h:∀i,i< n→f i=g i):tabP n f=tabP n g:=List.map_congr_left fun i hi=>h i (List.mem_range.1 hi)
theorem kh_{n i:Nat}{f:Nat→Rat}(h:i< n):(tabP n f)[i]?=some (f i):=by simp[tabP,h]
theorem tabP_put{n j:Nat}{f:Nat→Rat}{v:Rat}(h:j< n):(tabP n f).set j v=tabP n (fun i=>if i=j then v else f i):=by
 apply List.ext_getElem?
 intro i
 rw[List.getElem?_set]
 by_cases hi:i< n
 rw[kh_ (f:=fun i=>if i=j then v else f i) hi]
 by_cases e:j=i
 rw[if_pos e,if_pos (by simp;omega),if_pos e.symm]
 rw[if_neg e,kh_ hi,if_neg (fun e'=>e e'.symm)]
 rw[List.getElem?_eq_none (by simp;omega),if_neg (show¬j=i by omega),List.getElem?_eq_none (by simp;omega)]
abbrev mrow(M:Mx)(n i:Nat):List (List AV):=rE (rP (tabP (n+1) (M i)))
theorem bF_{M:Mx}{n i j:Nat}(hj:j≤n):∀e,e=j→(mrow M n i)[e]?=some (rC (rq (M i j))):=fun e he=>by
 rw[he]
 unfold mrow rE rP
 rw[List.getElem?_map,List.getElem?_map,kh_ (by omega)];rfl
theorem mrow_put{M M':Mx}{n i j:Nat}{v:Rat}(hj:j≤n)(h1:M' i j=v)(h2:∀k,k≤n→k≠j→M' i k=M i k):∀e,e=j→(mrow M n i).set e (rC (rq v))=mrow M' n i:=fun e he=>by
 rw[he]
 unfold mrow
 rw[rE_set]
 congr 1
 unfold rP
 rw[←List.map_set,tabP_put (by omega)]
 congr 1
 refine gV_ fun k hk=>?_
 by_cases e:k=j
 rw[if_pos e,e,h1]
 rw[if_neg e,h2 k (by omega) e]
def mxW(M:Mx)(n c:Nat):List (List (List AV)):=(List.range c).map (mrow M n)
@[simp] theorem hl_ (M:Mx)(n c:Nat):(mxW M n c).length=c:=by simp[mxW]
theorem dT_{M:Mx}{n c i:Nat}(h:i< c):(mxW M n c)[i]?=some (mrow M n i):=by simp[mxW,h]
theorem lH_{M:Mx}{n c i:Nat}{e:List (List AV)}(h:(mxW M n c)[i]?=some e):i< c∧e=mrow M n i:=by
 have h1:=(List.getElem?_eq_some_iff.1 h).1
 rw[hl_] at h1
 rw[dT_ h1] at h
 cases h
 exact⟨h1,rfl⟩
theorem qN_{A B:Mx}{n c:Nat}(h:∀i j,i< c→j≤n→A i j=B i j):mxW A n c=mxW B n c:=List.map_congr_left fun i hi=>by
 unfold mrow
 rw[gV_ fun j hj=>h i j (List.mem_range.1 hi) (by omega)]
theorem fy_{k t:Nat}{x:Option ABlk}{l:Hp}(h:k≠t):lookB ((k,x)::l) t=lookB l t:=by
 rw[b3_];unfold upd;rw[if_neg (fun e=>h e.symm)]
theorem mxO_one(w:Nat)(s:Nat→Nat)(n:Nat):(mxO w s n).all (·.all AV.one)=true:=by
 unfold mxO
 rw[List.all_map,List.all_eq_true]
 intro i _;rfl
theorem cG_{w n i:Nat}(h:i< n):∀e,e=i→(mxO w (fun i=>i) n)[e]?=some [.lsl (i+2) 0 w none 4]:=fun e he=>by rw[he];exact ku_ h
theorem mxO_snoc(w:Nat)(n k:Nat):mxO w (fun i=>i) n++[[.lsl k 0 w none 4]]=mxO w (fun i=>cond (Nat.beq i 1) 56 (cond (Nat.beq i (n+2)) k i)) (n+1):=by
 unfold mxO
 rw[List.range_succ,List.map_append]
 congr 1
 refine List.map_congr_left fun i hi=>?_
 have:=List.mem_range.1 hi
 have h1:Nat.beq (i+2) 1=false:=rfl
 have h2:Nat.beq (i+2) (n+2)=false:=by
  cases hb:Nat.beq (i+2) (n+2) with
  |false=>rfl
  |true=>have:=Nat.eq_of_beq_eq_true hb;omega
 simp only[h1,h2,cond_false]
 have h1:Nat.beq (n+2) 1=false:=rfl
 simp only[List.map_cons,List.map_nil,h1,cond_false,Nat.beq_refl,cond_true]
theorem dead_mx{TS TQ i:Nat}{o:List (List AV)}{L:List (List (List AV))}(hL:L.length≤30)(hi:40≤i):Dead ⟨40,fun i=>i⟩ (lookB (mxH TS TQ o L)) i:=fun j B hj e=>by
 have e:j=i:=e
 rcases List.mem_cons.1 (em_ hj) with h|h
 cases h;omega
 have:=mZ_ L 2 j (List.mem_map_of_mem h)
 omega
def svS(M:Mx)(n:Nat)(fr:Fr):AState:=⟨(7,.lsl 1 0 n none 1)::(6,i64 n)::fr,mxH 65 42 (mxO (n+1) (fun i=>i) n) (mxW M n n),40,163⟩
theorem eY_{A B:Mx}{n:Nat}{fr:Fr}(h:∀i j,i< n→j≤n→A i j=B i j):svS A n fr=svS B n fr:=by
 unfold svS;rw[qN_ h]
def bdS(M:Mx)(a b:AV)(n:Nat):Nat→AState
 |0=>⟨[(0,a),(1,b),(6,i64 n),(7,.emp),(8,i64 0)],[],40,163⟩
 |c+1=>⟨[(0,a),(1,b),(6,i64 n),(7,.lsl 1 0 (c+1) none 1),(8,i64 ((c+1:Nat):Int))],mxH 65 42 (mxO (n+1) (fun i=>i) (c+1)) (mxW M n (c+1)),40,163⟩
def svA(M:Mx)(n:Nat):List (List AV):=(List.range n).map fun i=>[.arr (rE (rP (tabP n (M i))))]
@[simp] theorem svA_length (M:Mx)(n:Nat):(svA M n).length=n:=by simp[svA]
theorem gX_{M:Mx}{n i:Nat}(h:i< n):∀e,e=i→(svA M n)[e]?=some [.arr (rE (rP (tabP n (M i))))]:=fun e he=>by rw[he];simp[svA,h]
theorem j9_(M:Mx)(n:Nat):Closed (.arr (svA M n)):=aX_ fun e he c hc=>by
 obtain⟨i,_,rfl⟩:=List.mem_map.1 he
 rw[List.mem_singleton.1 hc]
 exact a1_ _
def svB(M:Mx)(n:Nat):List RQ:=rP (tabP n fun i=>M i n)
theorem gW_{M:Mx}{n i:Nat}(h:i< n):∀e,e=i→(rE (svB M n))[e]?=some (rC (rq (M i n))):=fun e he=>by
 rw[he]
 unfold svB rE rP
 rw[List.getElem?_map,List.getElem?_map,kh_ h];rfl
def sB(c:Nat):Nat→Nat:=fun i=>cond (Nat.beq i 1) 56 (cond (Nat.beq i (c+2)) 54 i)
theorem sB_new(c:Nat):sB c (c+2)=54:=by
 unfold sB
 rw[show Nat.beq (c+2) 1=false from rfl,Nat.beq_refl];rfl
theorem sB_old{c i:Nat}(h:i≠c):sB c (i+2)=i+2:=by
 have h2:Nat.beq (i+2) (c+2)=false:=by
  cases hb:Nat.beq (i+2) (c+2) with
  |false=>rfl
  |true=>have:=Nat.eq_of_beq_eq_true hb;omega
 unfold sB
 rw[show Nat.beq (i+2) 1=false from rfl,h2];rfl
theorem sB_inj{c:Nat}(hc:c≤25):∀i j,1≤i→i< c+1+2→1≤j→j< c+1+2→sB c i=sB c j→i=j:=by
 have key:∀i,1≤i→i< c+1+2→(i=1∧sB c i=56)∨(i=c+2∧sB c i=54)∨(2≤i∧i< c+2∧sB c i=i):=fun i h1 h2=>by
  by_cases e:i=1
  subst e;exact .inl ⟨rfl,rfl⟩
  obtain⟨k,rfl⟩:∃k,i=k+2:=⟨i- 2,by omega⟩
  by_cases e2:k=c
  subst e2;exact .inr (.inl ⟨rfl,sB_new k⟩)
  exact .inr (.inr ⟨by omega,by omega,sB_old e2⟩)
 intro i j i1 i2 j1 j2 e
 rcases key i i1 i2 with⟨a,b⟩|⟨a,b⟩|⟨a,b,d⟩<;> rcases key j j1 j2 with⟨a',b'⟩|⟨a',b'⟩|⟨a',b',d'⟩<;> omega
theorem oh_(M:Mx)(n c:Nat):rE (rP (tabP n (M c)))++[rC (rq (M c n))]=mrow M n c:=by
 unfold mrow
 rw[if_]
 unfold rP
 rw[List.map_append,gk_];rfl
def sW(k p:Nat):Nat→Nat:=fun i=>cond (Nat.beq i (k+2)) (p+2) (cond (Nat.beq i (p+2)) (k+2) i)
theorem beq_f{a b:Nat}(h:a≠b):Nat.beq a b=false:=by
 cases hb:Nat.beq a b with
 |false=>rfl
 |true=>exact absurd (Nat.eq_of_beq_eq_true hb) h
theorem jH_(k p i:Nat):sW k p (i+2)=(if i=k then p else if i=p then k else i)+2:=by
 unfold sW
 by_cases h1:i=k
 rw[if_pos h1,h1,Nat.beq_refl];rfl
 rw[if_neg h1,beq_f (show i+2≠k+2 by omega)]
 by_cases h2:i=p
 rw[if_pos h2,h2,Nat.beq_refl];rfl
 rw[if_neg h2,beq_f (show i+2≠p+2 by omega)];rfl
theorem sW_inj(k p:Nat):∀i j,1≤i→1≤j→sW k p i=sW k p j→i=j:=by
 intro i j i1 j1 e
 by_cases h1:i=1
 subst h1
 by_cases h2:j=1
 exact h2.symm
 obtain⟨a,rfl⟩:∃a,j=a+2:=⟨j- 2,by omega⟩
 rw[jH_,show sW k p 1=1 from rfl] at e
 omega
 obtain⟨a,rfl⟩:∃a,i=a+2:=⟨i- 2,by omega⟩
 by_cases h2:j=1
 subst h2
 rw[jH_,show sW k p 1=1 from rfl] at e
 omega
 ·obtain⟨b,rfl⟩:∃b,j=b+2:=⟨j- 2,by omega⟩
  rw[jH_,jH_] at e
  repeat' split at e
  all_goals omega
theorem mxO_swap{w n k p:Nat}(hk:k< n)(hp:p< n):∀a b,a=p→b=k→((mxO w (fun i=>i) n).set a [.lsl (k+2) 0 w none 4]).set b [.lsl (p+2) 0 w none 4]=mxO w (sW k p) n:=fun a b ha hb=>by
 rw[ha,hb]
 apply List.ext_getElem?
 intro i
 by_cases hi:i< n
 rw[List.getElem?_set,ku_ hi,jH_]
 by_cases h1:k=i
 rw[if_pos h1,if_pos (by simp;omega),if_pos h1.symm]
 rw[if_neg h1,if_neg (fun e=>h1 e.symm),List.getElem?_set]
 by_cases h2:p=i
 rw[if_pos h2,if_pos (by simp;omega),if_pos h2.symm]
 rw[if_neg h2,if_neg (fun e=>h2 e.symm),ku_ hi]
 rw[List.getElem?_eq_none (by simp;omega),List.getElem?_eq_none (by simp;omega)]
theorem d2_ {A:Mx} {n nx:Nat} {fr fr':Fr} {hp:Hp} (hn:n≤25) (h1:lookB hp 1=some ⟨65,1,mxO (n+1) (fun i=>i) n⟩) (hr:∀i,i< n→lookB hp (i+2)=some ⟨42,4,mrow A n i⟩)
    (hF:Shr ⟨40,fun i=>i⟩ (lookB hp) (lookB (mxH 65 42 (mxO (n+1) (fun i=>i) n) (mxW A n n)))→CvF ⟨40,fun i=>i⟩ (lookB hp) (lookB (mxH 65 42 (mxO (n+1) (fun i=>i) n) (mxW A n n))) fr ((7,.lsl 1 0 n none 1)::(6,i64 n)::fr')):
    SEnt ⟨fr,hp,nx,163⟩ (svS A n fr'):=
 SEnt.mx (fun i=>i) _ _ _ (by simp;omega) rfl (fun i j _ _ _ _ e=>e) h1 rfl (fun i e hi=>by
  obtain⟨h1,rfl⟩:=lH_ hi
  exact⟨hr i h1,aF_ _⟩) (fun hs=>gT_ (by omega) fun i hi=>by rw[eD_ (dT_ hi)];rfl) hF
theorem cY_{A:Mx}{n i:Nat}(h:i< n):lookB (mxH 65 42 (mxO (n+1) (fun i=>i) n) (mxW A n n)) (i+2)=some ⟨42,4,mrow A n i⟩:=eD_ (dT_ h)
theorem ex_{A:Mx}{n i:Nat}(h:i< n):cellF (lookB (mxH 65 42 (mxO (n+1) (fun i=>i) n) (mxW A n n))) (i+2)=some ⟨42,4,mrow A n i⟩:=og_ (dT_ h)
theorem mxO_st{w n k p:Nat}(hk:k< n)(hp:p< n):∀a b,a=p→b=k→((mxO w (fun i=>i) n).set a [.lsl (k+2) 0 w none 4])[b]?=some [.lsl (k+2) 0 w none 4]:=fun a b ha hb=>by
 rw[ha,hb,List.getElem?_set]
 by_cases h:p=k
 rw[if_pos h,if_pos (by simp;omega)]
 rw[if_neg h,ku_ hk]
theorem gj_mono{M:Mx}{n k m:Nat}(h:gjM M n k=none)(hk:k≤m):gjM M n m=none:=by
 induction m with
 |zero=>rw[show k=0 by omega] at h;exact h
 |succ m ih=>
  by_cases e:k=m+1
  rw[←e];exact h
  rw[gjM,ih (by omega)];rfl
theorem sgZ_zero{q:Rat}:sgZ q.num=0↔q=0:=by
 constructor
 intro h
 unfold sgZ at h
 split at h
 ·rename_i h1
  exact Rat.num_eq_zero.1 h1
 split at h
 cases h
 cases h
 intro h;subst h;rfl
theorem cL_{r:Ren}{hp hp':Nat→Option ABlk}{id n:Nat}{cap:Option Nat}{B:ABlk}{L:List RQ}(h:Shr r hp hp')(hi:cellF hp id=some B)(hi':Dead r hp' id)(he:B.es=rE L)(hn:n=L.length):Cv r hp hp' (.lsl id 0 n cap 4) (.arr (rE L)):=
 Cv.shut h hi hi' (by rw[he,hn];simp) (aD_ h (by rw[he,List.drop_zero];exact List.take_of_length_le (by simp[hn])) (aF_ _))
def xsS(F:List (List AV))(f:Nat→Rat)(n:Nat):Nat→AState
 |0=>⟨[(6,i64 n),(7,.arr F),(14,.emp),(15,i64 0)],[],1,163⟩
 |i+1=>⟨[(6,i64 n),(7,.arr F),(14,.lsl 1 0 (i+1) none 4),(15,i64 ((i+1:Nat):Int))],[(1,some ⟨42,4,rE (rP (tabP (i+1) f))⟩)],2,163⟩
theorem xsS_0(F:List (List AV))(f:Nat→Rat)(n:Nat):xsS F f n 0=⟨[(6,i64 n),(7,.arr F),(14,.emp),(15,i64 0)],[],1,163⟩:=rfl
theorem xsS_s(F:List (List AV))(f:Nat→Rat)(n i:Nat):xsS F f n (i+1)=⟨[(6,i64 n),(7,.arr F),(14,.lsl 1 0 (i+1) none 4),(15,i64 ((i+1:Nat):Int))],[(1,some ⟨42,4,rE (rP (tabP (i+1) f))⟩)],2,163⟩:=rfl
theorem qe_ (M:Mx) (n s:Nat) (hn:1≤n∧n≤25) (hb:bdM M n s) (hs:1≤s) (hlim:4* gjB s n+1≤274877906944) (Q:Exit→AState→Prop)
    (h0:gjM M n n=none→∀(fr:Fr) (hp:Hp) (nx:Nat),Go.Abs.look fr 4=some .emp→Go.Abs.look fr 5=some (bln false)→Q .ret ⟨fr,hp,nx,163⟩)
    (h1:∀A,gjM M n n=some A→∀(fr:Fr) (hp:Hp) (nx i:Nat) (cap:Option Nat),Go.Abs.look fr 4=some (.lsl i 0 n cap 4)→lookB hp i=some ⟨42,4,rE (rP (tabP n fun i=>A i n/ A i i))⟩→Go.Abs.look fr 5=some (bln true)→Q .ret ⟨fr,hp,nx,163⟩)
    (c:Code) (hc:Tryz.f132.body=some c):AWp none Tryz.prog c Q ⟨[(0,.arr (svA M n)),(1,.arr (rE (svB M n)))],[],1,163⟩:=by
 have hA:=j9_ M n
 have hB:Closed (.arr (rE (svB M n))):=a1_ _
 obtain rfl:_=c:=Option.some.inj (Eq.trans (rfl:some _=Tryz.f132.body) hc)
 clear hc
 refine r_z 2 ?_
 refine r_z 3 ?_
 refine r_z 1 ?_
 refine ac_ (r_z 1 ?_)
 refine aB_ (fun _:Unit=>svS M n []) (fun _=>True) ?_ ?_
 refine ag_ (ax_ (bdS M (.arr (svA M n)) (.arr (rE (svB M n))) n) (fun c=>n- c) (fun c=>c≤n) 0 (Nat.zero_le _) ?_ ?_)
 rw[bdS.eq_1]
 refine ar_ [] rfl rfl rfl au_r (fun hs=>?_) (fun hs=>?_)
 ·repeat' (first|exact aA_|refine au_ rfl ?_ ?_)
  all_goals (first|((refine Cv.loE hs ?_ (ad_ _);simp[i64];done))|exact au_c)
 ·repeat' (first|exact ap_|refine al_ rfl rfl rfl rfl ?_ ?_)
  all_goals (first|exact au_e|(refine ae_ ?_;repeat' (first|exact ao_|refine af_ ?_ ?_)))
  all_goals (first|((refine Cv.loE hs ?_ (ad_ _);simp[i64];done))|exact au_c)
 intro c hc
 by_cases hlt:c< n
 ·have hne:rE (rP (tabP n (M c)))≠[]:=fun e=>by have:=congrArg List.length e;simp at this;omega
  cases c with
  |zero=>
   rw[bdS.eq_1]
   refine ac_ (q_z 3 ?_)
   refine cT (ah_ (ac_ (ag_ (r_d hmix 15 ?_))))
   refine a_3 ?_
   first|refine aw_ (.index_l rfl rfl (by omega) (by omega) te_183.h) rfl rfl ?_|refine aw_ (.index_a rfl rfl (by omega) (gX_ hlt _ (by omega)) rfl te_183.h) rfl rfl ?_
   first|refine aw_ (.load_l1 rfl rfl (gX_ hlt _ (by omega)) tg_65.h rfl) rfl rfl ?_|refine aw_ (.load_a1 rfl (gX_ hlt _ (by omega)) tg_65.h rfl) rfl rfl ?_
   refine o_1 (.append_e rfl rfl rfl te_65.h rfl rfl rfl (.arr (hj_ _)) (by first|assumption|(simp;done)) tz_42.h rfl tb_42.h d_o (by first|(simp[maxLen];done)|(simp[maxLen];omega))) ?_
   refine a_2 ?_
   first|refine aw_ (.index_l rfl rfl (by omega) (by omega) te_65.h) rfl rfl ?_|refine aw_ (.index_a rfl rfl (by omega) (gW_ hlt _ (by omega)) rfl te_65.h) rfl rfl ?_
   first|refine aw_ (.load_l rfl rfl (gW_ hlt _ (by omega)) tg_42.h ts_42.h (nle rfl)) rfl rfl ?_|refine aw_ (.load_a rfl (gW_ hlt _ (by omega)) tg_42.h ts_42.h (nle rfl)) rfl rfl ?_
   refine a_5 ?_
   refine an_ (n_k ?_)
   refine r_m 3 ?_
   refine a_z ?_
   refine⟨1,by omega,hlt,?_⟩
   rw[bdS.eq_2]
   simp only[lu_,cF_,fV_]
   refine SEnt.mx (sB 0) _ (mxO (n+1) (sB 0) 1) _ (by simp) rfl (by simp only[hl_];exact sB_inj (by omega)) rfl (by simp) ?_ ?_ ?_
   intro i e hi
   obtain⟨h1,rfl⟩:=lH_ hi
   obtain rfl:i=0:=by omega
   refine⟨?_,aF_ _⟩
   rw[←oh_];rfl
   exact fun hs=>gT_ (by omega) fun i hi=>by rw[eD_ (dT_ hi)];rfl
   exact fun hs=>au_f
  |succ c=>
   rw[bdS.eq_2]
   have ho1:=mxO_one (n+1) (fun i=>i) (c+1)
   refine ac_ (q_z 3 ?_)
   refine cT (ah_ (ac_ (ag_ (r_d hmix 15 ?_))))
   refine a_3 ?_
   first|refine aw_ (.index_l rfl rfl (by omega) (by omega) te_183.h) rfl rfl ?_|refine aw_ (.index_a rfl rfl (by omega) (gX_ hlt _ (by omega)) rfl te_183.h) rfl rfl ?_
   first|refine aw_ (.load_l1 rfl rfl (gX_ hlt _ (by omega)) tg_65.h rfl) rfl rfl ?_|refine aw_ (.load_a1 rfl (gX_ hlt _ (by omega)) tg_65.h rfl) rfl rfl ?_
   refine o_1 (.append_e rfl rfl rfl te_65.h rfl rfl rfl (.arr (hj_ _)) (by first|assumption|(simp;done)) tz_42.h rfl tb_42.h d_o (by first|(simp[maxLen];done)|(simp[maxLen];omega))) ?_
   refine a_2 ?_
   first|refine aw_ (.index_l rfl rfl (by omega) (by omega) te_65.h) rfl rfl ?_|refine aw_ (.index_a rfl rfl (by omega) (gW_ hlt _ (by omega)) rfl te_65.h) rfl rfl ?_
   first|refine aw_ (.load_l rfl rfl (gW_ hlt _ (by omega)) tg_42.h ts_42.h (nle rfl)) rfl rfl ?_|refine aw_ (.load_a rfl (gW_ hlt _ (by omega)) tg_42.h ts_42.h (nle rfl)) rfl rfl ?_
   refine o_1 (.buildSlice te_65.h tz_42.h rfl (by decide) rfl rfl rfl (by first|(simp;done)|(simp[bB_,ofV];done)|rfl)) ?_
   refine o_2 (.append_l rfl rfl rfl te_65.h rfl rfl rfl rfl rfl d_o (by first|exact c3_ _|exact c2_ _|exact cO_ _|exact c5_ _|exact cS_ _|assumption|rfl|simp) (by first|rfl|exact c3_ _|exact c2_ _|exact cO_ _|exact c5_ _|exact cS_ _|simp) rfl (.lsl rfl (nle rfl)) tz_42.h rfl tb_42.h d_o (by first|(simp[maxLen];done)|(simp[maxLen];omega))) ?_
   refine o_1 (.buildSlice te_183.h tz_65.h rfl (by decide) rfl rfl rfl (by first|(simp;done)|(simp[bB_,ofV];done)|rfl)) ?_
   refine o_2 (.append_l rfl rfl rfl te_183.h rfl rfl rfl rfl rfl d_o (by first|exact c3_ _|exact c2_ _|exact cO_ _|exact c5_ _|exact cS_ _|assumption|rfl|simp) (by first|rfl|exact c3_ _|exact c2_ _|exact cO_ _|exact c5_ _|exact cS_ _|simp) rfl (.lsl rfl (nle rfl)) tz_65.h rfl tb_65.h d_o (by first|(simp[maxLen];done)|(simp[maxLen];omega))) ?_
   refine o_0 (.assign rfl) ?_
   refine an_ (n_k ?_)
   refine r_m 3 ?_
   refine a_z ?_
   refine⟨c+2,by omega,hlt,?_⟩
   rw[bdS.eq_2]
   simp only[lu_,cF_,fV_]
   refine SEnt.mx (sB (c+1)) _ (mxO (n+1) (sB (c+1)) (c+2)) _ (by simp;omega) rfl (by simp only[hl_];exact sB_inj (by omega)) ?_ (by simp) ?_ ?_ ?_
   show _=some (ABlk.mk 65 1 (mxO (n+1) (fun i=>cond (Nat.beq i 1) 56 (cond (Nat.beq i (c+1+2)) 54 i)) (c+1+1)))
   rw[←mxO_snoc];rfl
   intro i e hi
   obtain⟨h1,rfl⟩:=lH_ hi
   by_cases hic:i=c+1
   subst hic
   refine⟨?_,aF_ _⟩
   rw[sB_new,←oh_];rfl
   ·rw[sB_old hic]
    refine⟨?_,aF_ _⟩
    repeat rw[fy_ (by omega)]
    exact eD_ (dT_ (by omega))
   exact fun hs=>gT_ (by omega) fun i hi=>by rw[eD_ (dT_ hi)];rfl
   exact fun hs=>au_f
 have hge:c=n:=by omega
 obtain⟨c,rfl⟩:∃c',c=c'+1:=⟨c- 1,by omega⟩
 rw[bdS.eq_2]
 refine ac_ (q_z 3 ?_)
 refine cF (av_ ⟨(),trivial,?_⟩)
 rw[svS.eq_1,←hge]
 refine SEnt.mx (fun i=>i) _ _ _ (by simp;omega) rfl (fun i j _ _ _ _ e=>e) rfl (by simp) ?_ ?_ ?_
 intro i e hi
 obtain⟨h1,rfl⟩:=lH_ hi
 exact⟨eD_ (dT_ (by omega)),aF_ _⟩
 exact fun hs=>gT_ (by omega) fun i hi=>by rw[eD_ (dT_ hi)];rfl
 exact fun hs=>au_f
 rintro _ _
 show AWp _ _ _ _ (svS M n [])
 refine ac_ (r_z 1 ?_)
 refine aB_ (fun A:Mx=>svS A n []) (fun A=>gjM M n n=some A) ?_ ?_
 ·refine ag_ (ax_ (fun x:Nat×Mx=>svS x.2 n [(9,i64 x.1)]) (fun x=>n- x.1) (fun x=>x.1≤n∧gjM M n x.1=some x.2) (0,M) ⟨Nat.zero_le _,rfl⟩ ?_ ?_)
  exact d2_ hn.2 rfl (fun i hi=>cY_ hi) (fun hs=>au_f)
  rintro⟨k,A⟩ ⟨hk,hA⟩
  simp only at hk hA
  have hbA:=gj_bd hb k A hk hA
  have hg1:=rj_ (s:=s) hk
  obtain⟨_,hdg⟩:=iR_ k A hk hA
  show AWp _ _ _ _ (svS A n [(9,i64 k)])
  by_cases hlt:k< n
  rotate_left
  have hge:k=n:=by omega
  subst hge
  refine ac_ (q_z 3 ?_)
  refine cF (av_ ⟨A,hA,?_⟩)
  exact d2_ hn.2 rfl (fun i hi=>cY_ hi) (fun hs=>au_f)
  refine ac_ (q_z 3 ?_)
  refine cT (ah_ (ac_ (ag_ (r_z 2 ?_))))
  refine aU_ (fun p:Nat=>svS A n [(9,i64 k),(10,i64 p)]) (fun p=>k≤p∧p≤n∧(∀i,k≤i→i< p→A i k=0)∧(p< n→A p k≠0)) ?_ ?_
  ·refine ag_ (ax_ (fun p:Nat=>svS A n [(9,i64 k),(10,i64 p)]) (fun p=>n- p) (fun p=>k≤p∧p≤n∧∀i,k≤i→i< p→A i k=0) k ⟨Nat.le_refl _,hk,fun i h1 h2=>by omega⟩ ?_ ?_)
   exact d2_ hn.2 rfl (fun i hi=>cY_ hi) (fun hs=>au_f)
   rintro p ⟨p1,p2,p3⟩
   show AWp _ _ _ _ (svS A n [(9,i64 k),(10,i64 p)])
   by_cases hp:p< n
   rotate_left
   refine ac_ (q_z 14 ?_)
   refine cF (av_ ⟨p,⟨p1,p2,p3,fun h=>absurd h hp⟩,?_⟩)
   exact d2_ hn.2 rfl (fun i hi=>cY_ hi) (fun hs=>au_f)
   have hsg:=gw_ (rq (A p k))
   by_cases h0:A p k=0
   refine ac_ (s_r 14 ?_)
   refine d_7 ?_
   first|refine ay_ rfl rfl rfl (.load_l1 rfl rfl (cG_ hp _ (by omega)) tg_65.h rfl) rfl rfl ?_|refine ay_ rfl rfl rfl (.load_a1 rfl (cG_ hp _ (by omega)) tg_65.h rfl) rfl rfl ?_
   refine d_2 ?_
   refine ay_ rfl rfl rfl (.load_l rfl (ex_ hp) (bF_ (j:=k) (by omega) _ (by omega)) tg_42.h ts_42.h (nle rfl)) rfl rfl ?_
   refine c_s (hsg) ?_
   refine ay_ rfl rfl rfl (.bin rfl rfl (vT a9_ (decide_eq_true (sgZ_zero.2 h0)))) rfl rfl ?_
   refine a_z ?_
   refine cT (ah_ (ag_ (r_m 3 ?_)))
   refine a_z ?_
   refine⟨p+1,by omega,⟨by omega,by omega,fun i h1 h2=>?_⟩,?_⟩
   by_cases e:i=p
   rw[e];exact h0
   exact p3 i h1 (by omega)
   exact d2_ hn.2 rfl (fun i hi=>cY_ hi) (fun hs=>au_f)
   refine ac_ (s_r 14 ?_)
   refine d_7 ?_
   first|refine ay_ rfl rfl rfl (.load_l1 rfl rfl (cG_ hp _ (by omega)) tg_65.h rfl) rfl rfl ?_|refine ay_ rfl rfl rfl (.load_a1 rfl (cG_ hp _ (by omega)) tg_65.h rfl) rfl rfl ?_
   refine d_2 ?_
   refine ay_ rfl rfl rfl (.load_l rfl (ex_ hp) (bF_ (j:=k) (by omega) _ (by omega)) tg_42.h ts_42.h (nle rfl)) rfl rfl ?_
   refine c_s (hsg) ?_
   refine ay_ rfl rfl rfl (.bin rfl rfl (vF a9_ (decide_eq_false (fun e=>h0 (sgZ_zero.1 e))))) rfl rfl ?_
   refine a_z ?_
   refine cF (av_ ⟨p,⟨p1,p2,p3,fun _=>h0⟩,?_⟩)
   exact d2_ hn.2 rfl (fun i hi=>cY_ hi) (fun hs=>au_f)
  rintro p ⟨p1,p2,p3,p4⟩
  show AWp _ _ _ _ (svS A n [(9,i64 k),(10,i64 p)])
  by_cases hpn:p=n
  have hnone:gjM M n n=none:=gj_mono (k:=k+1) (by rw[gjM,hA,Option.bind_some,pvt_no fun i h1 h2=>p3 i h1 (by omega)];rfl) (by omega)
  refine ac_ (q_z 3 ?_)
  refine cT (r_z 2 ?_)
  exact aj_ (h0 hnone _ _ _ rfl rfl)
  have hp:p< n:=by omega
  have hpk:=p4 hp
  have hpv:pvt A n k=some p:=pvt_of hp p1 hpk p3
  have hpv2:=hpv
  refine ac_ (q_z 3 ?_)
  refine cF (ah_ (ac_ (r_d hmix 16 ?_)))
  refine a_7 ?_
  first|refine aw_ (.load_l1 rfl rfl (cG_ hlt _ (by omega)) tg_65.h rfl) rfl rfl ?_|refine aw_ (.load_a1 rfl (cG_ hlt _ (by omega)) tg_65.h rfl) rfl rfl ?_
  refine a_3 ?_
  first|refine aw_ (.load_l1 rfl rfl (cG_ hp _ (by omega)) tg_65.h rfl) rfl rfl ?_|refine aw_ (.load_a1 rfl (cG_ hp _ (by omega)) tg_65.h rfl) rfl rfl ?_
  refine a_1 ?_
  refine o_1n (.store rfl rfl (cG_ hp _ (by omega)) rfl rfl rfl ts_65.h (nle rfl)) ?_
  refine a_1 ?_
  refine o_1n (.store rfl rfl (mxO_st hlt hp _ _ (by omega) (by omega)) rfl rfl rfl ts_65.h (nle rfl)) ?_
  refine an_ (n_k ?_)
  refine r_z 1 ?_
  obtain⟨B,hBd⟩:∃B,B=swM A k p:=⟨_,rfl⟩
  have hbB:bdM B n (gjB s k):=by rw[hBd];exact bd_sw hbA hlt hp
  have hBk:B k k≠0:=by rw[hBd];unfold swM;rw[if_pos rfl];exact hpk
  refine AWp.cutB (fun _:Unit=>svS (elM B k n) n [(9,i64 k)]) (fun _=>True) ?_ ?_
  ·refine ag_ (ax_ (fun i:Nat=>svS (elM B k i) n [(9,i64 k),(11,i64 i)]) (fun i=>n- i) (fun i=>i≤n) 0 (Nat.zero_le _) ?_ ?_)
   show SEnt _ (svS (elM B k 0) n [(9,i64 k),(11,i64 ((0:Nat):Int))])
   rw[eY_ (B:=B) fun i j _ _=>by unfold elM;rw[if_neg (fun e=>by omega)],svS.eq_1]
   refine SEnt.mx (sW k p) _ (mxO (n+1) (sW k p) n) _ (by simp;omega) rfl (fun i j h1 _ h2 _ e=>sW_inj k p i j h1 h2 e) ?_ (by simp) ?_ ?_ ?_
   rw[←mxO_swap hlt hp (0+((p:Nat):Int).toNat) (0+((k:Nat):Int).toNat) (by omega) (by omega)];rfl
   ·intro i e hi
    obtain⟨h1,rfl⟩:=lH_ hi
    refine⟨?_,aF_ _⟩
    rw[jH_]
    repeat rw[fy_ (by omega)]
    rw[cY_ (by split;omega;split <;> omega)]
    unfold mrow
    congr 5
    rw[hBd];unfold swM
    funext j
    split
    rfl
    split <;> rfl
   exact fun hs=>gT_ (by omega) fun i hi=>by rw[eD_ (dT_ hi)];rfl
   exact fun hs=>au_f
   intro i hi
   obtain⟨E,hE⟩:∃E,E=elM B k i:=⟨_,rfl⟩
   have hbE:bdM E n (4* gjB s k+1):=by rw[hE];exact bd_el hbB hlt
   have hEk:∀j,E k j=B k j:=fun j=>by rw[hE];unfold elM;rw[if_neg (fun e=>e.2.1 rfl)]
   have hEi:∀j,E i j=B i j:=fun j=>by rw[hE];unfold elM;rw[if_neg (fun e=>by omega)]
   show AWp _ _ _ _ (svS (elM B k i) n [(9,i64 k),(11,i64 i)])
   rw[←hE]
   by_cases hin:i< n
   rotate_left
   have hge:i=n:=by omega
   subst hge
   refine ac_ (q_z 3 ?_)
   refine cF (av_ ⟨(),trivial,?_⟩)
   show SEnt _ (svS (elM B k i) i [(9,i64 k)])
   rw[←hE]
   exact d2_ hn.2 rfl (fun i hi=>cY_ hi) (fun hs=>au_f)
   refine ac_ (q_z 3 ?_)
   refine cT (ah_ (ac_ (ag_ ?_)))
   by_cases hik:i=k
   refine ac_ (q_z 14 ?_)
   refine cT (av_ (r_m 3 ?_))
   refine a_z ?_
   refine⟨i+1,by omega,by omega,?_⟩
   show SEnt _ (svS (elM B k (i+1)) n [(9,i64 k),(11,i64 ((i+1:Nat):Int))])
   rw[eY_ (B:=E) fun i' j _ _=>by
    rw[hE];unfold elM
    by_cases e:i'< i∧i'≠k∧k≤j
    rw[if_pos e,if_pos ⟨by omega,e.2.1,e.2.2⟩]
    rw[if_neg e,if_neg (fun e'=>e ⟨by omega,e'.2.1,e'.2.2⟩)]]
   exact d2_ hn.2 rfl (fun i hi=>cY_ hi) (fun hs=>au_f)
   have hsg:=gw_ (rq (E i k))
   by_cases h0:E i k=0
   refine ac_ (s_r 14 ?_)
   refine d_7 ?_
   first|refine ay_ rfl rfl rfl (.load_l1 rfl rfl (cG_ hin _ (by omega)) tg_65.h rfl) rfl rfl ?_|refine ay_ rfl rfl rfl (.load_a1 rfl (cG_ hin _ (by omega)) tg_65.h rfl) rfl rfl ?_
   refine d_2 ?_
   refine ay_ rfl rfl rfl (.load_l rfl (ex_ hin) (bF_ (j:=k) (by omega) _ (by omega)) tg_42.h ts_42.h (nle rfl)) rfl rfl ?_
   refine c_s (hsg) ?_
   refine ay_ rfl rfl rfl (.bin rfl rfl (vT a9_ (decide_eq_true (sgZ_zero.2 h0)))) rfl rfl ?_
   refine a_z ?_
   refine cT (av_ (r_m 3 ?_))
   refine a_z ?_
   refine⟨i+1,by omega,by omega,?_⟩
   show SEnt _ (svS (elM B k (i+1)) n [(9,i64 k),(11,i64 ((i+1:Nat):Int))])
   rw[eY_ (B:=E) fun i' j _ _=>by
    have h0':=h0
    rw[hEi] at h0'
    rw[hE];unfold elM
    by_cases e:i'< i∧i'≠k∧k≤j
    rw[if_pos e,if_pos ⟨by omega,e.2.1,e.2.2⟩]
    by_cases e2:i'=i
    subst e2
    rw[if_neg e]
    by_cases e3:k≤j
    rw[if_pos ⟨by omega,hik,e3⟩,h0'];grind
    rw[if_neg (fun e'=>e3 e'.2.2)]
    rw[if_neg e,if_neg (fun e'=>e ⟨by omega,e'.2.1,e'.2.2⟩)]]
   exact d2_ hn.2 rfl (fun i hi=>cY_ hi) (fun hs=>au_f)
   have b1:=hbE i k hin (by omega)
   have b2:=hbE k k hlt (by omega)
   have hg2:4* gjB s k+1≤274877906944:=by omega
   have hdv:=iW_ (rq (E i k)) (rq (E k k)) (bk_ _) (bk_ _) (by show E k k≠0;rw[hEk];exact hBk) (by show qs (E i k)+qs (E k k)≤_;omega)
   refine ac_ (s_r 14 ?_)
   refine d_7 ?_
   first|refine ay_ rfl rfl rfl (.load_l1 rfl rfl (cG_ hin _ (by omega)) tg_65.h rfl) rfl rfl ?_|refine ay_ rfl rfl rfl (.load_a1 rfl (cG_ hin _ (by omega)) tg_65.h rfl) rfl rfl ?_
   refine d_2 ?_
   refine ay_ rfl rfl rfl (.load_l rfl (ex_ hin) (bF_ (j:=k) (by omega) _ (by omega)) tg_42.h ts_42.h (nle rfl)) rfl rfl ?_
   refine c_s (hsg) ?_
   refine ay_ rfl rfl rfl (.bin rfl rfl (vF a9_ (decide_eq_false (fun e=>h0 (sgZ_zero.1 e))))) rfl rfl ?_
   refine a_z ?_
   refine cF (ah_ (ac_ (r_d hmix 17 ?_)))
   refine a_3 ?_
   first|refine aw_ (.load_l1 rfl rfl (cG_ hin _ (by omega)) tg_65.h rfl) rfl rfl ?_|refine aw_ (.load_a1 rfl (cG_ hin _ (by omega)) tg_65.h rfl) rfl rfl ?_
   refine a_2 ?_
   refine o_0 (.load_l rfl (ex_ hin) (bF_ (j:=k) (by omega) _ (by omega)) tg_42.h ts_42.h (nle rfl)) ?_
   refine a_3 ?_
   first|refine aw_ (.load_l1 rfl rfl (cG_ hlt _ (by omega)) tg_65.h rfl) rfl rfl ?_|refine aw_ (.load_a1 rfl (cG_ hlt _ (by omega)) tg_65.h rfl) rfl rfl ?_
   refine a_2 ?_
   refine o_0 (.load_l rfl (ex_ hlt) (bF_ (j:=k) (by omega) _ (by omega)) tg_42.h ts_42.h (nle rfl)) ?_
   refine c_s (hdv) ?_
   refine a_2 ?_
   refine an_ ⟨pn_ (fps0:=[([],[]),([],[]),([],[]),([],[]),([],[]),([],[]),([],[]),([],[]),([],[]),([],[]),([],[]),([],[]),([],[]),([],[]),([],[]),([72],[]),([72],[72])]) (by kernel_rfl) (lessF.zz (lessF.zz (lessF.zz (lessF.rd (by omega) (lessF.zz (lessF.zz (lessF.rd (by omega) (lessF.zz (lessF.zz (lessF.zz (lessF.rd (by omega) (lessF.zz (lessF.zz (lessF.rd (by omega) (lessF.zz (lessF.al rfl (show 40≤72 by decide) (lessF.st rfl (show 40≤72 by decide) lessF.nil))))))))))))))))),?_⟩
   refine r_z 2 ?_
   obtain⟨f,hf⟩:∃f,f=E i k/ E k k:=⟨_,rfl⟩
   have bf:qs f≤2* (4* gjB s k+1):=by
    have:=dy_ (E i k) (E k k)
    rw[hf];omega
   rw[show(rq (E i k)).1/ (rq (E k k)).1=f from hf.symm]
   obtain⟨G,hG⟩:∃G:Nat→Mx,G=fun j i' j'=>if i'=i∧k≤j'∧j'< j then E i j'- f* E k j' else E i' j':=⟨_,rfl⟩
   refine AWp.cutB (fun _:Unit=>svS (elM B k (i+1)) n [(9,i64 k),(11,i64 i)]) (fun _=>True) ?_ ?_
   ·refine ag_ (ax_ (fun j:Nat=>svS (G j) n [(9,i64 k),(11,i64 i),(12,.aptr [rC (rq f)] 0 0),(13,i64 j)]) (fun j=>n+1- j) (fun j=>k≤j∧j≤n+1) k ⟨Nat.le_refl _,by omega⟩ ?_ ?_)
    show SEnt _ (svS (G k) n [(9,i64 k),(11,i64 i),(12,.aptr [rC (rq f)] 0 0),(13,i64 k)])
    rw[eY_ (B:=E) fun i' j _ _=>by rw[hG];simp only;rw[if_neg (fun e=>by omega)]]
    refine d2_ hn.2 rfl (fun i hi=>?_) (fun hs=>?_)
    ·repeat rw[fy_ (by omega)]
     exact cY_ hi
    exact au_ rfl (Cv.sl rfl rfl rfl) (au_ rfl (ak_ hs (ad_ _)) (au_ rfl (ak_ hs (ad_ _)) (au_ rfl (ak_ hs (ad_ _)) (au_ rfl (Cv.boxp hs rfl (dead_mx (by simp;omega) (by omega)) rfl (bg_ _)) (au_ rfl (ak_ hs (ad_ _)) aA_)))))
    rintro j ⟨j1,j2⟩
    show AWp _ _ _ _ (svS (G j) n [(9,i64 k),(11,i64 i),(12,.aptr [rC (rq f)] 0 0),(13,i64 j)])
    by_cases hj:j≤n
    rotate_left
    have hge:j=n+1:=by omega
    subst hge
    refine ac_ (q_z 3 ?_)
    refine cF (av_ ⟨(),trivial,?_⟩)
    show SEnt _ (svS (elM B k (i+1)) n [(9,i64 k),(11,i64 i)])
    rw[eY_ (B:=G (n+1)) fun i' j' h1 h2=>by
     rw[hG,hE]
     simp only
     unfold elM
     by_cases e:i'=i
     subst e
     by_cases e3:k≤j'
     rw[if_pos ⟨by omega,hik,e3⟩,if_pos ⟨rfl,e3,by omega⟩,if_neg (fun e=>by omega),if_neg (fun e=>e.2.1 rfl),hf,hEi,hEk]
     rw[if_neg (fun e'=>e3 e'.2.2),if_neg (fun e'=>e3 e'.2.1),if_neg (fun e'=>e3 e'.2.2)]
     rw[if_neg (fun e':i'=i∧k≤j'∧j'< n+1=>e e'.1)]
     by_cases e2:i'< i∧i'≠k∧k≤j'
     rw[if_pos e2,if_pos ⟨by omega,e2.2.1,e2.2.2⟩]
     rw[if_neg e2,if_neg (fun e'=>e2 ⟨by omega,e'.2.1,e'.2.2⟩)]]
    exact d2_ hn.2 rfl (fun i hi=>cY_ hi) (fun hs=>au_f)
    have g1:G j i j=E i j:=by rw[hG];simp only;rw[if_neg (fun e=>by omega)]
    have g2:G j k j=E k j:=by rw[hG];simp only;rw[if_neg (fun e=>by omega)]
    have c1:=hbE i j hin hj
    have c2:=hbE k j hlt hj
    have hqm:=bZ_ f (E k j)
    have hmu:=ee_ (rq f) (rq (G j k j)) (bk_ _) (bk_ _) (by show qs f+qs (G j k j)≤_;rw[g2];omega)
    have hsb:=rt_ (rq (G j i j)) (rq (f* G j k j)) (bk_ _) (bk_ _) (by show qs (G j i j)+qs (f* G j k j)≤_;rw[g1,g2];omega)
    refine ac_ (q_z 3 ?_)
    refine cT (ah_ (ac_ (ag_ (r_d hmix 24 ?_))))
    refine a_3 ?_
    first|refine aw_ (.load_l1 rfl rfl (cG_ hin _ (by omega)) tg_65.h rfl) rfl rfl ?_|refine aw_ (.load_a1 rfl (cG_ hin _ (by omega)) tg_65.h rfl) rfl rfl ?_
    refine a_4 ?_
    first|refine aw_ (.load_l1 rfl rfl (cG_ hin _ (by omega)) tg_65.h rfl) rfl rfl ?_|refine aw_ (.load_a1 rfl (cG_ hin _ (by omega)) tg_65.h rfl) rfl rfl ?_
    refine a_2 ?_
    refine o_0 (.load_l rfl (ex_ hin) (bF_ hj _ (by omega)) tg_42.h ts_42.h (nle rfl)) ?_
    refine a_4 ?_
    first|refine aw_ (.load_l1 rfl rfl (cG_ hlt _ (by omega)) tg_65.h rfl) rfl rfl ?_|refine aw_ (.load_a1 rfl (cG_ hlt _ (by omega)) tg_65.h rfl) rfl rfl ?_
    refine a_2 ?_
    refine o_0 (.load_l rfl (ex_ hlt) (bF_ hj _ (by omega)) tg_42.h ts_42.h (nle rfl)) ?_
    refine c_s (hmu) ?_
    refine c_s (hsb) ?_
    refine a_1 ?_
    refine o_1n (.store rfl (ex_ hin) (bF_ hj _ (by omega)) rfl rfl rfl ts_42.h (nle rfl)) ?_
    refine an_ (n_k ?_)
    refine r_m 3 ?_
    refine a_z ?_
    refine⟨j+1,by omega,⟨by omega,by omega⟩,?_⟩
    refine d2_ hn.2 rfl (fun i' hi'=>?_) (fun hs=>?_)
    by_cases e:i'=i
    subst e
    rw[b3_,aP_]
    refine congrArg some ?_
    refine congrArg (ABlk.mk _ _) ?_
    exact mrow_put (M:=G j) (v:=G j i' j- f* G j k j) hj (by rw[g1,g2,hG];simp only;rw[if_pos ⟨trivial,j1,by omega⟩]) (fun j' h1 h2=>by
     rw[hG];simp only
     by_cases e:k≤j'∧j'< j
     rw[if_pos (show True∧k≤j'∧j'< j+1 from⟨trivial,e.1,by omega⟩),if_pos (show True∧k≤j'∧j'< j from⟨trivial,e.1,e.2⟩)]
     rw[if_neg (fun e':True∧k≤j'∧j'< j+1=>e ⟨e'.2.1,by omega⟩),if_neg (fun e':True∧k≤j'∧j'< j=>e e'.2)]) _ (by omega)
    rw[fy_ (by omega),cY_ hi']
    unfold mrow
    rw[gV_ fun j' _=>show G j i' j'=G (j+1) i' j' by rw[hG];simp only;rw[if_neg (fun e'=>e e'.1),if_neg (fun e'=>e e'.1)]]
    exact au_ rfl (Cv.sl rfl rfl rfl) (au_ rfl (ak_ hs (ad_ _)) (au_ rfl (ak_ hs (ad_ _)) (au_ rfl (ak_ hs (ad_ _)) (au_ rfl (ak_ hs (ai_ (bg_ _))) (au_ rfl (ak_ hs (ad_ _)) aA_)))))
   rintro _ _
   show AWp _ _ _ _ (svS (elM B k (i+1)) n [(9,i64 k),(11,i64 i)])
   refine r_m 3 ?_
   refine a_z ?_
   refine⟨i+1,by omega,by omega,?_⟩
   exact d2_ hn.2 rfl (fun i hi=>cY_ hi) (fun hs=>au_f)
  rintro _ _
  show AWp _ _ _ _ (svS (elM B k n) n [(9,i64 k)])
  refine r_m 3 ?_
  refine a_z ?_
  refine⟨(k+1,elM B k n),by simp only;omega,⟨by simp only;omega,by simp only;rw[gjM,hA,Option.bind_some,hpv,hBd];rfl⟩,?_⟩
  exact d2_ hn.2 rfl (fun i hi=>cY_ hi) (fun hs=>au_f)
 rintro A hA
 have hbA:=gj_bd hb n A (Nat.le_refl _) hA
 obtain⟨_,hdg⟩:=iR_ n A (Nat.le_refl _) hA
 refine r_z 1 ?_
 obtain⟨F,hF⟩:∃F:List (List AV),F=(mxW A n n).map fun e=>[.arr e]:=⟨_,rfl⟩
 have hFg:∀i,i< n→∀e,e=i→F[e]?=some [.arr (mrow A n i)]:=fun i hi e he=>by
  rw[he,hF,List.getElem?_map,dT_ hi];rfl
 have hFl:F.length=n:=by rw[hF];simp
 have cF:Closed (.arr F):=aX_ fun e he c hc=>by
  rw[hF] at he
  obtain⟨x,hx,rfl⟩:=List.mem_map.1 he
  rw[List.mem_singleton.1 hc]
  obtain⟨i,_,rfl⟩:=List.mem_map.1 hx
  exact a1_ _
 refine AWp.ent (st':=⟨[(6,i64 n),(7,.arr F),(14,.emp)],[],1,163⟩) ?_ ?_
 rw[hF]
 refine ar_ [] rfl rfl rfl ShrL.nil (fun hs=>au_ rfl (ak_ hs (ad_ _)) (au_ rfl (Cv.mxShut hs (fun _=>rfl) (by simp) (fun e he=>?_) (fun e he=>?_)) (au_ rfl (ak_ hs bt_) aA_))) (fun hs=>ap_)
 obtain⟨i,_,rfl⟩:=List.mem_map.1 he
 show(mrow A n i).length=n+1
 simp
 obtain⟨i,_,rfl⟩:=List.mem_map.1 he
 exact aF_ _
 refine ac_ (r_z 1 ?_)
 refine aB_ (xsS F (fun i=>A i n/ A i i) n) (fun i=>i=n) ?_ ?_
 refine ag_ (ax_ (xsS F (fun i=>A i n/ A i i) n) (fun i=>n- i) (fun i=>i≤n) 0 (Nat.zero_le _) ?_ ?_)
 rw[xsS_0]
 exact s_e []
 intro i hi
 by_cases hin:i< n
 have b1:=hbA i n hin (Nat.le_refl _)
 have b2:=hbA i i hin (by omega)
 have hdv:=iW_ (rq (A i n)) (rq (A i i)) (bk_ _) (bk_ _) (hdg i hin).1 (by show qs (A i n)+qs (A i i)≤_;omega)
 cases i with
 |zero=>
  rw[xsS_0]
  refine ac_ (q_z 3 ?_)
  refine cT (ah_ (ac_ (ag_ (r_d hmix 19 ?_))))
  refine a_3 ?_
  first|refine aw_ (.index_l rfl rfl (by omega) (by omega) te_183.h) rfl rfl ?_|refine aw_ (.index_a rfl rfl (by omega) (hFg 0 hin _ (by omega)) rfl te_183.h) rfl rfl ?_
  first|refine aw_ (.load_l1 rfl rfl (hFg 0 hin _ (by omega)) tg_65.h rfl) rfl rfl ?_|refine aw_ (.load_a1 rfl (hFg 0 hin _ (by omega)) tg_65.h rfl) rfl rfl ?_
  refine a_1 ?_
  first|refine aw_ (.index_l rfl rfl (by omega) (by omega) te_65.h) rfl rfl ?_|refine aw_ (.index_a rfl rfl (by omega) (bF_ (j:=n) (by omega) _ (by omega)) rfl te_65.h) rfl rfl ?_
  first|refine aw_ (.load_l rfl rfl (bF_ (j:=n) (by omega) _ (by omega)) tg_42.h ts_42.h (nle rfl)) rfl rfl ?_|refine aw_ (.load_a rfl (bF_ (j:=n) (by omega) _ (by omega)) tg_42.h ts_42.h (nle rfl)) rfl rfl ?_
  refine a_2 ?_
  first|refine aw_ (.index_l rfl rfl (by omega) (by omega) te_183.h) rfl rfl ?_|refine aw_ (.index_a rfl rfl (by omega) (hFg 0 hin _ (by omega)) rfl te_183.h) rfl rfl ?_
  first|refine aw_ (.load_l1 rfl rfl (hFg 0 hin _ (by omega)) tg_65.h rfl) rfl rfl ?_|refine aw_ (.load_a1 rfl (hFg 0 hin _ (by omega)) tg_65.h rfl) rfl rfl ?_
  refine a_1 ?_
  first|refine aw_ (.index_l rfl rfl (by omega) (by omega) te_65.h) rfl rfl ?_|refine aw_ (.index_a rfl rfl (by omega) (bF_ (j:=0) (by omega) _ (by omega)) rfl te_65.h) rfl rfl ?_
  first|refine aw_ (.load_l rfl rfl (bF_ (j:=0) (by omega) _ (by omega)) tg_42.h ts_42.h (nle rfl)) rfl rfl ?_|refine aw_ (.load_a rfl (bF_ (j:=0) (by omega) _ (by omega)) tg_42.h ts_42.h (nle rfl)) rfl rfl ?_
  refine c_s (hdv) ?_
  refine a_3 ?_
  refine an_ (n_k ?_)
  refine r_m 3 ?_
  refine a_z ?_
  refine⟨1,by omega,by omega,?_⟩
  rw[xsS_s]
  exact s_f [(1,14)]
 |succ i=>
  rw[xsS_s]
  refine ac_ (q_z 3 ?_)
  refine cT (ah_ (ac_ (ag_ (r_d hmix 19 ?_))))
  refine a_3 ?_
  first|refine aw_ (.index_l rfl rfl (by omega) (by omega) te_183.h) rfl rfl ?_|refine aw_ (.index_a rfl rfl (by omega) (hFg (i+1) hin _ (by omega)) rfl te_183.h) rfl rfl ?_
  first|refine aw_ (.load_l1 rfl rfl (hFg (i+1) hin _ (by omega)) tg_65.h rfl) rfl rfl ?_|refine aw_ (.load_a1 rfl (hFg (i+1) hin _ (by omega)) tg_65.h rfl) rfl rfl ?_
  refine a_1 ?_
  first|refine aw_ (.index_l rfl rfl (by omega) (by omega) te_65.h) rfl rfl ?_|refine aw_ (.index_a rfl rfl (by omega) (bF_ (j:=n) (by omega) _ (by omega)) rfl te_65.h) rfl rfl ?_
  first|refine aw_ (.load_l rfl rfl (bF_ (j:=n) (by omega) _ (by omega)) tg_42.h ts_42.h (nle rfl)) rfl rfl ?_|refine aw_ (.load_a rfl (bF_ (j:=n) (by omega) _ (by omega)) tg_42.h ts_42.h (nle rfl)) rfl rfl ?_
  refine a_2 ?_
  first|refine aw_ (.index_l rfl rfl (by omega) (by omega) te_183.h) rfl rfl ?_|refine aw_ (.index_a rfl rfl (by omega) (hFg (i+1) hin _ (by omega)) rfl te_183.h) rfl rfl ?_
  first|refine aw_ (.load_l1 rfl rfl (hFg (i+1) hin _ (by omega)) tg_65.h rfl) rfl rfl ?_|refine aw_ (.load_a1 rfl (hFg (i+1) hin _ (by omega)) tg_65.h rfl) rfl rfl ?_
  refine a_1 ?_
  first|refine aw_ (.index_l rfl rfl (by omega) (by omega) te_65.h) rfl rfl ?_|refine aw_ (.index_a rfl rfl (by omega) (bF_ (j:=i+1) (by omega) _ (by omega)) rfl te_65.h) rfl rfl ?_
  first|refine aw_ (.load_l rfl rfl (bF_ (j:=i+1) (by omega) _ (by omega)) tg_42.h ts_42.h (nle rfl)) rfl rfl ?_|refine aw_ (.load_a rfl (bF_ (j:=i+1) (by omega) _ (by omega)) tg_42.h ts_42.h (nle rfl)) rfl rfl ?_
  refine c_s (hdv) ?_
  refine a_3 ?_
  refine an_ (n_k ?_)
  refine r_m 3 ?_
  refine a_z ?_
  refine⟨i+2,by omega,by omega,?_⟩
  rw[xsS_s]
  refine ar_ [(1,14)] rfl rfl rfl au_r (fun hs=>au_f) (fun hs=>?_)
  ·repeat' (first|exact ap_|refine al_ rfl rfl rfl rfl ?_ ?_)
   all_goals (first|(exact aD_ hs (by rw[if_ (i+1)];unfold rP;rw[List.map_append,gk_];rfl) (aF_ _))|exact au_e)
 have hge:i=n:=by omega
 obtain⟨i,rfl⟩:∃i',i=i'+1:=⟨i- 1,by omega⟩
 rw[xsS_s]
 refine ac_ (q_z 3 ?_)
 refine am_ rfl (fun h=>?_) (fun h=>?_)
 cases h
 refine av_ ⟨i+1,hge,?_⟩
 rw[xsS_s]
 exact s_f [(1,14)]
 rintro i hi
 obtain⟨i,rfl⟩:∃i',i=i'+1:=⟨i- 1,by omega⟩
 obtain rfl:n=i+1:=hi.symm
 rw[xsS_s]
 refine r_z 3 ?_
 exact aj_ (h1 A hA _ _ _ _ _ rfl rfl rfl)
theorem gI_(M:Mx)(n:Nat):∀a∈[AV.arr (svA M n),.arr (rE (svB M n))],Closed a:=aa_ (j9_ M n) (aa_ (a1_ _) ab_)
theorem rF_(M:Mx)(n s:Nat)(hn:1≤n∧n≤25)(hb:bdM M n s)(hs:1≤s)(hlim:4* gjB s n+1≤274877906944)(h:gjM M n n=none):
    FSpec Tryz.prog 132 [.arr (svA M n),.arr (rE (svB M n))] (.tup [.emp,bln false]):=by
 refine jq_ Tryz.func132 rfl (by kernel_rfl) rfl rfl rfl (gI_ M n) rfl (qe_ M n s hn hb hs hlim _ ?_ ?_ _ rfl)
 intro _ fr hp nx h4 h5
 refine Fin.many ⟨_,_,rfl,h4,⟨_,_,rfl,h5,rfl⟩⟩ (nle rfl) ?_
 exact af_ (ak_ as_ bt_) (af_ (ak_ as_ (ad_ _)) ao_)
 intro A hA
 rw[h] at hA;cases hA
theorem ot_Solve(M A:Mx)(n s:Nat)(hn:1≤n∧n≤25)(hb:bdM M n s)(hs:1≤s)(hlim:4* gjB s n+1≤274877906944)(h:gjM M n n=some A):
    OTSpec Tryz.prog 132 [.arr (svA M n),.arr (rE (svB M n))] 42 4 (rE (rP (tabP n fun i=>A i n/ A i i))) (.bool true):=by
 refine OTSpec.enter (t:=4) (t2:=5) Tryz.func132 rfl (by kernel_rfl) rfl rfl rfl (gI_ M n) (aF_ _) rfl (qe_ M n s hn hb hs hlim _ ?_ ?_ _ rfl)
 intro hN
 rw[h] at hN;cases hN
 intro A' hA' fr hp nx i cap h4 hb h5
 rw[h] at hA'
 cases hA'
 exact FinOT.tmp h4 hb rfl (by simp) h5
theorem rE_:FSpec Tryz.prog 132 [.arr [],.arr []] (.tup [.emp,bln true]):=by
 have cA:Closed (.arr []):=aX_ (fun e he=>by cases he)
 refine f_n Tryz.func132 ?_ ?_
 exact aa_ cA (aa_ cA ab_)
 refine r_z 2 ?_
 refine r_z 3 ?_
 refine r_z 1 ?_
 refine ac_ (r_z 1 ?_)
 refine aB_ (fun _:Unit=>⟨[(6,i64 0),(7,.emp)],[],1,163⟩) (fun _=>True) ?_ ?_
 refine ag_ (ax_ (fun _:Unit=>⟨[(6,i64 0),(7,.emp),(8,i64 0)],[],1,163⟩) (fun _=>0) (fun _=>True) () trivial ?_ ?_)
 exact s_e []
 rintro _ _
 refine ac_ (q_z 3 ?_)
 refine cF (av_ ⟨(),trivial,?_⟩)
 exact s_e []
 rintro _ _
 refine ac_ (r_z 1 ?_)
 refine aB_ (fun _:Unit=>⟨[(6,i64 0),(7,.emp)],[],1,163⟩) (fun _=>True) ?_ ?_
 refine ag_ (ax_ (fun _:Unit=>⟨[(6,i64 0),(7,.emp),(9,i64 0)],[],1,163⟩) (fun _=>0) (fun _=>True) () trivial ?_ ?_)
 exact s_e []
 rintro _ _
 refine ac_ (q_z 3 ?_)
 refine cF (av_ ⟨(),trivial,?_⟩)
 exact s_e []
 rintro _ _
 refine r_z 1 ?_
 refine ac_ (r_z 1 ?_)
 refine aB_ (fun _:Unit=>⟨[(14,.emp)],[],1,163⟩) (fun _=>True) ?_ ?_
 refine ag_ (ax_ (fun _:Unit=>⟨[(6,i64 0),(14,.emp),(15,i64 0)],[],1,163⟩) (fun _=>0) (fun _=>True) () trivial ?_ ?_)
 exact s_e []
 rintro _ _
 refine ac_ (q_z 3 ?_)
 refine cF (av_ ⟨(),trivial,?_⟩)
 exact s_e []
 rintro _ _
 refine r_z 3 ?_
 refine aj_ (Fin.many ⟨_,_,rfl,rfl,⟨_,_,rfl,rfl,rfl⟩⟩ (nle rfl) ?_)
 exact af_ (ak_ as_ bt_) (af_ (ak_ as_ (ad_ _)) ao_)
def svC(M:Mx)(n c:Nat):List (List AV):=(List.range c).map fun i=>[.arr (rE (rP (tabP n (M i))))]
@[simp] theorem svC_length (M:Mx)(n c:Nat):(svC M n c).length=c:=by simp[svC]
theorem svC_snoc(M:Mx)(n c:Nat):svC M n (c+1)=svC M n c++[[.arr (rE (rP (tabP n (M c))))]]:=by simp[svC,List.range_succ]
theorem svC_one(M:Mx)(n c:Nat):(svC M n c).all (·.all AV.one)=true:=by
 unfold svC
 rw[List.all_map,List.all_eq_true]
 intro i _;rfl
theorem c4_(M:Mx)(n c:Nat):∀e∈svC M n c,∀x∈e,Closed x:=fun e he x hx=>by
 obtain⟨i,_,rfl⟩:=List.mem_map.1 he
 rw[List.mem_singleton.1 hx]
 exact a1_ _
theorem mL_{r:Ren}{hp hp':Nat→Option ABlk}{x y:List AV}(h:CvL r hp hp' x y):∀{xs ys:List (List AV)},CvLL r hp hp' xs ys→CvLL r hp hp' (xs++[x]) (ys++[y])
 |[],ys,h'=>by cases (h':ys=[]);exact ae_ h
 |a::xs,ys,⟨b,ys',e,h1,h2⟩=>by
  subst e
  exact CvLL.cons h1 (mL_ h h2)
theorem CvLL_eqR{r:Ren}{hp hp':Nat→Option ABlk}{xs ys zs:List (List AV)}(h:CvLL r hp hp' xs ys)(e:ys=zs):CvLL r hp hp' xs zs:=e▸h
theorem hi_(n:Nat)(f:Nat→Rat):rE (rP (tabP n f))++[rC (rq (f n))]=rE (rP (tabP (n+1) f)):=by
 rw[if_];unfold rP;rw[List.map_append,gk_];rfl
def orS(m:List Rat)(W:List AV)(n:Nat):Nat→AState
 |0=>⟨[(1,i64 n),(2,.aptr [W] 0 0),(6,.emp),(7,.emp),(8,i64 0)],[],1,59⟩
 |i+1=>⟨[(1,i64 n),(2,.aptr [W] 0 0),(6,.lsl 1 0 (i+1) none 1),(7,.lsl 2 0 (i+1) none 4),(8,i64 ((i+1:Nat):Int))],[(1,some ⟨65,1,svC (orSy m n) n (i+1)⟩),(2,some ⟨42,4,rE (rP (tabP (i+1) fun i=>orSy m n i n))⟩)],3,59⟩
def oiS(m:List Rat)(W:List AV)(n:Nat):Nat→AState
 |0=>⟨[(1,i64 n),(2,.aptr [W] 0 0),(6,.emp),(7,.emp),(8,i64 0),(9,.emp),(10,i64 0)],[],1,59⟩
 |j+1=>⟨[(1,i64 n),(2,.aptr [W] 0 0),(6,.emp),(7,.emp),(8,i64 0),(9,.lsl 1 0 (j+1) none 4),(10,i64 ((j+1:Nat):Int))],[(1,some ⟨42,4,rE (rP (tabP (j+1) (orSy m n 0)))⟩)],2,59⟩
def ojS(m:List Rat)(W:List AV)(n i:Nat):Nat→AState
 |0=>⟨[(1,i64 n),(2,.aptr [W] 0 0),(6,.lsl 1 0 (i+1) none 1),(7,.lsl 2 0 (i+1) none 4),(8,i64 ((i+1:Nat):Int)),(9,.emp),(10,i64 0)],[(1,some ⟨65,1,svC (orSy m n) n (i+1)⟩),(2,some ⟨42,4,rE (rP (tabP (i+1) fun i=>orSy m n i n))⟩)],3,59⟩
 |j+1=>⟨[(1,i64 n),(2,.aptr [W] 0 0),(6,.lsl 1 0 (i+1) none 1),(7,.lsl 2 0 (i+1) none 4),(8,i64 ((i+1:Nat):Int)),(9,.lsl 3 0 (j+1) none 4),(10,i64 ((j+1:Nat):Int))],[(1,some ⟨65,1,svC (orSy m n) n (i+1)⟩),(2,some ⟨42,4,rE (rP (tabP (i+1) fun i=>orSy m n i n))⟩),(3,some ⟨42,4,rE (rP (tabP (j+1) (orSy m n (i+1))))⟩)],4,59⟩
theorem ot_(m:List Rat)(l r:Bool)(x y:RQ)(n s:Nat)(hn:n≤25)(hml:2* n≤m.length)(hl:m.length≤1000)(hb:bdL m s)(hs:1≤s)(hlim:4* gjB s n+1≤274877906944):
    ∃(q:List Rat) (ok:Bool),FSpec Tryz.prog 71 [.agg (rwC m l r x y),i64 n] (.tup [.arr (rE (rP q)),bln ok])∧((∀j,j< n→0< oN m j)→ok=true∧q=oP m n):=by
 have hWc:∀c∈rwC m l r x y,Closed c:=a0_
 have hI:FSpec Tryz.prog 112 [i64 1] (.agg (rC (rq 1))):=cy_ 1 (by decide)
 have hget:∀k,k< m.length→∀e,e=k→(rE (rP m))[e]?=some (rC (rq (coP m k))):=fun k hk e he=>by
  rw[he];unfold rE rP;rw[List.getElem?_map,List.getElem?_map,bd_ hk];rfl
 have hlen:(rP m).length=m.length:=by simp[rP]
 by_cases hn0:n=0
 subst hn0
 refine⟨[1],true,?_,fun _=>⟨rfl,rfl⟩⟩
 refine f_n Tryz.func71 ?_ ?_
 exact aa_ (aq_ hWc) (aa_ (ad_ _) ab_)
 refine r_z 3 ?_
 refine r_z 1 ?_
 refine r_z 1 ?_
 refine ac_ (r_z 1 ?_)
 refine aB_ (fun _:Unit=>⟨[(6,.emp),(7,.emp)],[],1,59⟩) (fun _=>True) ?_ ?_
 refine ag_ (ax_ (fun _:Unit=>⟨[(1,i64 ((0:Nat):Int)),(6,.emp),(7,.emp),(8,i64 0)],[],1,59⟩) (fun _=>0) (fun _=>True) () trivial ?_ ?_)
 exact s_e []
 rintro _ _
 refine ac_ (q_z 3 ?_)
 refine cF (av_ ⟨(),trivial,?_⟩)
 exact s_e []
 rintro _ _
 refine r_c 8 (rE_) ?_
 refine a_z ?_
 refine r_c 7 (hI) ?_
 refine a_z ?_
 refine aj_ (Fin.many ⟨_,_,rfl,rfl,⟨_,_,rfl,rfl,rfl⟩⟩ (nle rfl) ?_)
 exact af_ (cL_ (L:=rP [1]) as_ rfl (fun _ _ h=>by cases h) rfl rfl) (af_ (ak_ as_ (ad_ _)) ao_)
 have hn1:1≤n∧n≤25:=⟨by omega,hn⟩
 have hbM:=or_bd hb hs n
 obtain⟨q,ok,h0,h1⟩:∃(q:List Rat) (ok:Bool),(gjM (orSy m n) n n=none→q=[1]∧ok=false)∧∀A,gjM (orSy m n) n n=some A→q=tabP n (fun i=>A i n/ A i i)++[1]∧ok=true:=by
  cases gjM (orSy m n) n n with
  |none=>exact⟨[1],false,(fun _=>⟨rfl,rfl⟩),fun A h=>nomatch h⟩
  |some A=>exact⟨tabP n (fun i=>A i n/ A i i)++[1],true,(fun h=>nomatch h),fun A' h=>by cases h;exact⟨rfl,rfl⟩⟩
 refine⟨q,ok,?_,fun h=>by obtain⟨A,hA⟩:=or_ok h;obtain⟨rfl,rfl⟩:=h1 A hA;exact⟨rfl,or_some h hA⟩⟩
 refine f_n Tryz.func71 ?_ ?_
 exact aa_ (aq_ hWc) (aa_ (ad_ _) ab_)
 refine r_z 3 ?_
 refine r_z 1 ?_
 refine r_z 1 ?_
 refine ac_ (r_z 1 ?_)
 refine aB_ (orS m (rwC m l r x y) n) (fun i=>i=n) ?_ ?_
 refine ag_ (ax_ (orS m (rwC m l r x y) n) (fun i=>n- i) (fun i=>i≤n) 0 (Nat.zero_le _) ?_ ?_)
 rw[orS.eq_1]
 exact s_f []
 intro i hi
 by_cases hin:i< n
 ·have hv2:orSy m n i n= -(coP m (n+i)):=by unfold orSy;rw[if_neg (Nat.lt_irrefl n)]
  have hng:FSpec Tryz.prog 128 [.agg (rC (rq (coP m (n+i))))] (.agg (rC (rq (-(coP m (n+i)))))):=na_ (rq (coP m (n+i))) (bk_ _)
  have ho1:=svC_one (orSy m n) n i
  cases i with
  |zero=>
   rw[orS.eq_1]
   refine ac_ (q_z 3 ?_)
   refine cT (ah_ (ac_ (ag_ (r_z 1 ?_))))
   refine ac_ (r_z 1 ?_)
   refine aB_ (oiS m (rwC m l r x y) n) (fun j=>j=n) ?_ ?_
   refine ag_ (ax_ (oiS m (rwC m l r x y) n) (fun j=>n- j) (fun j=>j≤n) 0 (Nat.zero_le _) ?_ ?_)
   rw[oiS.eq_1]
   refine ar_ [] rfl rfl rfl au_r (fun hs=>?_) (fun hs=>?_)
   ·repeat' (first|exact aA_|refine au_ rfl ?_ ?_)
    all_goals (first|(exact ak_ hs (ai_ hWc))|exact au_c)
   ·repeat' (first|exact ap_|refine al_ rfl rfl rfl rfl ?_ ?_)
    all_goals (first|exact au_e|(refine ae_ ?_;repeat' (first|exact ao_|refine af_ ?_ ?_)))
    all_goals (first|(exact ak_ hs (ai_ hWc))|exact au_c)
   intro j hj
   by_cases hjn:j< n
   have hv:orSy m n 0 j=coP m (j+0):=by unfold orSy;rw[if_pos hjn]
   cases j with
   |zero=>
    rw[oiS.eq_1]
    refine ac_ (q_z 3 ?_)
    refine cT (ah_ (ac_ (ag_ (r_m 11 ?_))))
    refine a_6 ?_
    first|refine aw_ (.index_l rfl rfl (by omega) (by omega) te_65.h) rfl rfl ?_|refine aw_ (.index_a rfl rfl (by omega) (hget (0+0) (by omega) _ (by omega)) rfl te_65.h) rfl rfl ?_
    first|refine aw_ (.load_l rfl rfl (hget (0+0) (by omega) _ (by omega)) tg_42.h ts_42.h (nle rfl)) rfl rfl ?_|refine aw_ (.load_a rfl (hget (0+0) (by omega) _ (by omega)) tg_42.h ts_42.h (nle rfl)) rfl rfl ?_
    refine a_z ?_
    refine r_m 3 ?_
    refine a_z ?_
    refine⟨1,by omega,hjn,?_⟩
    rw[oiS.eq_2]
    refine ar_ [(1,9)] rfl rfl rfl au_r (fun hs=>?_) (fun hs=>?_)
    ·repeat' (first|exact aA_|refine au_ rfl ?_ ?_)
     all_goals (first|(exact ak_ hs (ai_ hWc))|exact au_c)
    ·repeat' (first|exact ap_|refine al_ rfl rfl rfl rfl ?_ ?_)
     all_goals (first|((first|exact aD_ hs (by rw[←hi_ 0,hv];rfl) (aF_ _)))|exact au_e|(refine ae_ ?_;repeat' (first|exact ao_|refine af_ ?_ ?_)))
     all_goals (first|(exact ak_ hs (ai_ hWc))|exact au_c)
   |succ j=>
    rw[oiS.eq_2]
    refine ac_ (q_z 3 ?_)
    refine cT (ah_ (ac_ (ag_ (r_m 11 ?_))))
    refine a_6 ?_
    first|refine aw_ (.index_l rfl rfl (by omega) (by omega) te_65.h) rfl rfl ?_|refine aw_ (.index_a rfl rfl (by omega) (hget (j+1+0) (by omega) _ (by omega)) rfl te_65.h) rfl rfl ?_
    first|refine aw_ (.load_l rfl rfl (hget (j+1+0) (by omega) _ (by omega)) tg_42.h ts_42.h (nle rfl)) rfl rfl ?_|refine aw_ (.load_a rfl (hget (j+1+0) (by omega) _ (by omega)) tg_42.h ts_42.h (nle rfl)) rfl rfl ?_
    refine a_z ?_
    refine r_m 3 ?_
    refine a_z ?_
    refine⟨j+2,by omega,hjn,?_⟩
    rw[oiS.eq_2]
    refine ar_ [(1,9)] rfl rfl rfl au_r (fun hs=>?_) (fun hs=>?_)
    ·repeat' (first|exact aA_|refine au_ rfl ?_ ?_)
     all_goals (first|(exact ak_ hs (ai_ hWc))|exact au_c)
    ·repeat' (first|exact ap_|refine al_ rfl rfl rfl rfl ?_ ?_)
     all_goals (first|((first|exact aD_ hs (by rw[←hi_ (j+1),hv];rfl) (aF_ _)))|exact au_e|(refine ae_ ?_;repeat' (first|exact ao_|refine af_ ?_ ?_)))
     all_goals (first|(exact ak_ hs (ai_ hWc))|exact au_c)
   obtain⟨j,rfl⟩:∃j',j=j'+1:=⟨j- 1,by omega⟩
   rw[oiS.eq_2]
   refine ac_ (q_z 3 ?_)
   refine cF (av_ ⟨j+1,by omega,?_⟩)
   rw[oiS.eq_2]
   refine ar_ [(1,9)] rfl rfl rfl au_r (fun hs=>?_) (fun hs=>?_)
   ·repeat' (first|exact aA_|refine au_ rfl ?_ ?_)
    all_goals (first|(exact ak_ hs (ai_ hWc))|exact au_c)
   ·repeat' (first|exact ap_|refine al_ rfl rfl rfl rfl ?_ ?_)
    all_goals (first|(exact aH_ hs (aF_ _))|exact au_e|(refine ae_ ?_;repeat' (first|exact ao_|refine af_ ?_ ?_)))
    all_goals (first|(exact ak_ hs (ai_ hWc))|exact au_c)
   rintro j hj
   obtain⟨j,rfl⟩:∃j',j=j'+1:=⟨j- 1,by omega⟩
   obtain rfl:n=j+1:=hj.symm
   rw[oiS.eq_2]
   refine r_z 5 ?_
   refine r_m 12 ?_
   refine a_6 ?_
   first|refine aw_ (.index_l rfl rfl (by omega) (by omega) te_65.h) rfl rfl ?_|refine aw_ (.index_a rfl rfl (by omega) (hget (j+1+0) (by omega) _ (by omega)) rfl te_65.h) rfl rfl ?_
   first|refine aw_ (.load_l rfl rfl (hget (j+1+0) (by omega) _ (by omega)) tg_42.h ts_42.h (nle rfl)) rfl rfl ?_|refine aw_ (.load_a rfl (hget (j+1+0) (by omega) _ (by omega)) tg_42.h ts_42.h (nle rfl)) rfl rfl ?_
   refine c_s (hng) ?_
   refine a_z ?_
   refine r_m 3 ?_
   refine a_z ?_
   refine⟨1,by omega,hin,?_⟩
   rw[orS.eq_2]
   refine ar_ [(1,6),(2,7)] rfl rfl rfl au_r (fun hs=>?_) (fun hs=>?_)
   ·repeat' (first|exact aA_|refine au_ rfl ?_ ?_)
    all_goals (first|((first|exact ak_ hs (ai_ hWc)|exact cL_ hs rfl (aM_ rfl) rfl (by simp)))|exact au_c)
   ·repeat' (first|exact ap_|refine al_ rfl rfl rfl rfl ?_ ?_)
    all_goals (first|((first|exact aD_ hs (by rw[←hi_ 0 (fun i=>orSy m (j+1) i (j+1)),hv2];rfl) (aF_ _)|exact ae_ (y:=[.arr (rE (rP (tabP (j+1) (orSy m (j+1) 0))))]) (af_ (cL_ hs rfl (aM_ rfl) rfl (by simp)) ao_)))|exact au_e|(refine ae_ ?_;repeat' (first|exact ao_|refine af_ ?_ ?_)))
    all_goals (first|((first|exact ak_ hs (ai_ hWc)|exact cL_ hs rfl (aM_ rfl) rfl (by simp)))|exact au_c)
  |succ i=>
   rw[orS.eq_2]
   refine ac_ (q_z 3 ?_)
   refine cT (ah_ (ac_ (ag_ (r_z 1 ?_))))
   refine ac_ (r_z 1 ?_)
   refine aB_ (ojS m (rwC m l r x y) n i) (fun j=>j=n) ?_ ?_
   refine ag_ (ax_ (ojS m (rwC m l r x y) n i) (fun j=>n- j) (fun j=>j≤n) 0 (Nat.zero_le _) ?_ ?_)
   rw[ojS.eq_1]
   refine ar_ [(1,6),(2,7)] rfl rfl rfl au_r (fun hs=>?_) (fun hs=>?_)
   ·repeat' (first|exact aA_|refine au_ rfl ?_ ?_)
    all_goals (first|(exact ak_ hs (ai_ hWc))|exact au_c)
   ·repeat' (first|exact ap_|refine al_ rfl rfl rfl rfl ?_ ?_)
    all_goals (first|((first|exact aH_ hs (c4_ _ _ _)|exact aH_ hs (aF_ _)))|exact au_e|(refine ae_ ?_;repeat' (first|exact ao_|refine af_ ?_ ?_)))
    all_goals (first|(exact ak_ hs (ai_ hWc))|exact au_c)
   intro j hj
   by_cases hjn:j< n
   have hv:orSy m n (i+1) j=coP m (j+(i+1)):=by unfold orSy;rw[if_pos hjn]
   cases j with
   |zero=>
    rw[ojS.eq_1]
    refine ac_ (q_z 3 ?_)
    refine cT (ah_ (ac_ (ag_ (r_m 11 ?_))))
    refine a_6 ?_
    first|refine aw_ (.index_l rfl rfl (by omega) (by omega) te_65.h) rfl rfl ?_|refine aw_ (.index_a rfl rfl (by omega) (hget (0+(i+1)) (by omega) _ (by omega)) rfl te_65.h) rfl rfl ?_
    first|refine aw_ (.load_l rfl rfl (hget (0+(i+1)) (by omega) _ (by omega)) tg_42.h ts_42.h (nle rfl)) rfl rfl ?_|refine aw_ (.load_a rfl (hget (0+(i+1)) (by omega) _ (by omega)) tg_42.h ts_42.h (nle rfl)) rfl rfl ?_
    refine a_z ?_
    refine r_m 3 ?_
    refine a_z ?_
    refine⟨1,by omega,hjn,?_⟩
    rw[ojS.eq_2]
    refine ar_ [(1,6),(2,7),(3,9)] rfl rfl rfl au_r (fun hs=>?_) (fun hs=>?_)
    ·repeat' (first|exact aA_|refine au_ rfl ?_ ?_)
     all_goals (first|(exact ak_ hs (ai_ hWc))|exact au_c)
    ·repeat' (first|exact ap_|refine al_ rfl rfl rfl rfl ?_ ?_)
     all_goals (first|((first|exact aD_ hs (by rw[←hi_ 0,hv];rfl) (aF_ _)|exact aH_ hs (c4_ _ _ _)|exact aH_ hs (aF_ _)))|exact au_e|(refine ae_ ?_;repeat' (first|exact ao_|refine af_ ?_ ?_)))
     all_goals (first|(exact ak_ hs (ai_ hWc))|exact au_c)
   |succ j=>
    rw[ojS.eq_2]
    refine ac_ (q_z 3 ?_)
    refine cT (ah_ (ac_ (ag_ (r_m 11 ?_))))
    refine a_6 ?_
    first|refine aw_ (.index_l rfl rfl (by omega) (by omega) te_65.h) rfl rfl ?_|refine aw_ (.index_a rfl rfl (by omega) (hget (j+1+(i+1)) (by omega) _ (by omega)) rfl te_65.h) rfl rfl ?_
    first|refine aw_ (.load_l rfl rfl (hget (j+1+(i+1)) (by omega) _ (by omega)) tg_42.h ts_42.h (nle rfl)) rfl rfl ?_|refine aw_ (.load_a rfl (hget (j+1+(i+1)) (by omega) _ (by omega)) tg_42.h ts_42.h (nle rfl)) rfl rfl ?_
    refine a_z ?_
    refine r_m 3 ?_
    refine a_z ?_
    refine⟨j+2,by omega,hjn,?_⟩
    rw[ojS.eq_2]
    refine ar_ [(1,6),(2,7),(3,9)] rfl rfl rfl au_r (fun hs=>?_) (fun hs=>?_)
    ·repeat' (first|exact aA_|refine au_ rfl ?_ ?_)
     all_goals (first|(exact ak_ hs (ai_ hWc))|exact au_c)
    ·repeat' (first|exact ap_|refine al_ rfl rfl rfl rfl ?_ ?_)
     all_goals (first|((first|exact aD_ hs (by rw[←hi_ (j+1),hv];rfl) (aF_ _)|exact aH_ hs (c4_ _ _ _)|exact aH_ hs (aF_ _)))|exact au_e|(refine ae_ ?_;repeat' (first|exact ao_|refine af_ ?_ ?_)))
     all_goals (first|(exact ak_ hs (ai_ hWc))|exact au_c)
   obtain⟨j,rfl⟩:∃j',j=j'+1:=⟨j- 1,by omega⟩
   rw[ojS.eq_2]
   refine ac_ (q_z 3 ?_)
   refine cF (av_ ⟨j+1,by omega,?_⟩)
   rw[ojS.eq_2]
   refine ar_ [(1,6),(2,7),(3,9)] rfl rfl rfl au_r (fun hs=>?_) (fun hs=>?_)
   ·repeat' (first|exact aA_|refine au_ rfl ?_ ?_)
    all_goals (first|(exact ak_ hs (ai_ hWc))|exact au_c)
   ·repeat' (first|exact ap_|refine al_ rfl rfl rfl rfl ?_ ?_)
    all_goals (first|((first|exact aH_ hs (c4_ _ _ _)|exact aH_ hs (aF_ _)))|exact au_e|(refine ae_ ?_;repeat' (first|exact ao_|refine af_ ?_ ?_)))
    all_goals (first|(exact ak_ hs (ai_ hWc))|exact au_c)
   rintro j hj
   obtain⟨j,rfl⟩:∃j',j=j'+1:=⟨j- 1,by omega⟩
   obtain rfl:n=j+1:=hj.symm
   rw[ojS.eq_2]
   refine s_r 5 ?_
   refine o_0 (.move rfl) ?_
   refine o_0 (.move rfl) ?_
   refine o_1 (.buildSlice te_183.h tz_65.h rfl (by decide) rfl rfl rfl (by first|(simp;done)|(simp[bB_,ofV];done)|rfl)) ?_
   refine o_2 (.append_l rfl rfl rfl te_183.h rfl rfl rfl rfl rfl d_o (by first|exact c3_ _|exact c2_ _|exact cO_ _|exact c5_ _|exact cS_ _|assumption|rfl|simp) (by first|rfl|exact c3_ _|exact c2_ _|exact cO_ _|exact c5_ _|exact cS_ _|simp) rfl (.lsl rfl (nle rfl)) tz_65.h rfl tb_65.h d_o (by first|(simp[maxLen];done)|(simp[maxLen];omega))) ?_
   refine o_0 (.assign rfl) ?_
   refine an_ ?_
   refine r_m 12 ?_
   refine a_6 ?_
   first|refine aw_ (.index_l rfl rfl (by omega) (by omega) te_65.h) rfl rfl ?_|refine aw_ (.index_a rfl rfl (by omega) (hget (j+1+(i+1)) (by omega) _ (by omega)) rfl te_65.h) rfl rfl ?_
   first|refine aw_ (.load_l rfl rfl (hget (j+1+(i+1)) (by omega) _ (by omega)) tg_42.h ts_42.h (nle rfl)) rfl rfl ?_|refine aw_ (.load_a rfl (hget (j+1+(i+1)) (by omega) _ (by omega)) tg_42.h ts_42.h (nle rfl)) rfl rfl ?_
   refine c_s (hng) ?_
   refine a_z ?_
   refine r_m 3 ?_
   refine a_z ?_
   refine⟨i+2,by omega,hin,?_⟩
   rw[orS.eq_2]
   refine ar_ [(1,6),(2,7)] rfl rfl rfl au_r (fun hs=>?_) (fun hs=>?_)
   ·repeat' (first|exact aA_|refine au_ rfl ?_ ?_)
    all_goals (first|((first|exact ak_ hs (ai_ hWc)|exact cL_ hs rfl (aM_ rfl) rfl (by simp)))|exact au_c)
   ·repeat' (first|exact ap_|refine al_ rfl rfl rfl rfl ?_ ?_)
    all_goals (first|((first|exact aD_ hs (by rw[←hi_ (i+1) (fun i=>orSy m (j+1) i (j+1)),hv2];rfl) (aF_ _)|exact CvLL_eqR (mL_ (x:=[.lsl 3 0 (j+1) none 4]) (af_ (cL_ hs rfl (aM_ rfl) rfl (by simp)) ao_) (aH_ hs (c4_ _ _ _))) (svC_snoc _ _ (i+1)).symm))|exact au_e|(refine ae_ ?_;repeat' (first|exact ao_|refine af_ ?_ ?_)))
    all_goals (first|((first|exact ak_ hs (ai_ hWc)|exact cL_ hs rfl (aM_ rfl) rfl (by simp)))|exact au_c)
 obtain⟨i,rfl⟩:∃i',i=i'+1:=⟨i- 1,by omega⟩
 rw[orS.eq_2]
 refine ac_ (q_z 3 ?_)
 refine cF (av_ ⟨i+1,by omega,?_⟩)
 rw[orS.eq_2]
 refine ar_ [(1,6),(2,7)] rfl rfl rfl au_r (fun hs=>?_) (fun hs=>?_)
 ·repeat' (first|exact aA_|refine au_ rfl ?_ ?_)
  all_goals (first|(exact ak_ hs (ai_ hWc))|exact au_c)
 ·repeat' (first|exact ap_|refine al_ rfl rfl rfl rfl ?_ ?_)
  all_goals (first|((first|exact aH_ hs (c4_ _ _ _)|exact aH_ hs (aF_ _)))|exact au_e|(refine ae_ ?_;repeat' (first|exact ao_|refine af_ ?_ ?_)))
  all_goals (first|(exact ak_ hs (ai_ hWc))|exact au_c)
 rintro i hi
 obtain⟨i,rfl⟩:∃i',i=i'+1:=⟨i- 1,by omega⟩
 obtain rfl:n=i+1:=hi.symm
 rw[orS.eq_2]
 refine AWp.ent (st':=⟨[(6,.arr (svA (orSy m (i+1)) (i+1))),(7,.arr (rE (svB (orSy m (i+1)) (i+1))))],[],1,59⟩) ?_ ?_
 refine ar_ [] rfl rfl rfl au_r (fun hs=>?_) (fun hs=>?_)
 ·repeat' (first|exact aA_|refine au_ rfl ?_ ?_)
  all_goals (first|((first|exact cL_ hs rfl (aM_ rfl) rfl (by simp[svB])|exact Cv.shut hs rfl (aM_ rfl) (by simp) (aD_ hs (by rw[List.drop_zero];exact List.take_of_length_le (by simp)) (c4_ _ _ _))))|exact au_c)
 ·repeat' (first|exact ap_|refine al_ rfl rfl rfl rfl ?_ ?_)
  all_goals (first|exact au_e|(refine ae_ ?_;repeat' (first|exact ao_|refine af_ ?_ ?_)))
  all_goals (first|((first|exact cL_ hs rfl (aM_ rfl) rfl (by simp[svB])|exact Cv.shut hs rfl (aM_ rfl) (by simp) (aD_ hs (by rw[List.drop_zero];exact List.take_of_length_le (by simp)) (c4_ _ _ _))))|exact au_c)
 cases hg:gjM (orSy m (i+1)) (i+1) (i+1) with
 |none=>
  obtain⟨rfl,rfl⟩:=h0 hg
  refine r_c 8 (rF_ (orSy m (i+1)) (i+1) s hn1 hbM hs hlim hg) ?_
  refine a_z ?_
  refine r_c 7 (hI) ?_
  refine a_z ?_
  refine aj_ (Fin.many ⟨_,_,rfl,rfl,⟨_,_,rfl,rfl,rfl⟩⟩ (nle rfl) ?_)
  exact af_ (cL_ (L:=rP [1]) as_ rfl (fun _ _ h=>by cases h) rfl rfl) (af_ (ak_ as_ (ad_ _)) ao_)
 |some A=>
  obtain⟨rfl,rfl⟩:=h1 A hg
  refine s_r 8 ?_
  refine a_2 ?_
  refine o_1 (.callOT rfl rfl rfl (ot_Solve (orSy m (i+1)) A (i+1) s hn1 hbM hs hlim hg)) ?_
  refine a_z ?_
  refine r_c 7 (hI) ?_
  refine a_z ?_
  refine aj_ (Fin.many ⟨_,_,rfl,rfl,⟨_,_,rfl,rfl,rfl⟩⟩ (nle rfl) ?_)
  exact af_ (cL_ (L:=rP (tabP (i+1) (fun k=>A k (i+1) / A k k)++[1])) as_ rfl (fun _ _ h=>by cases h) (by unfold rP;rw[List.map_append,gk_];rfl) (by simp)) (af_ (ak_ as_ (ad_ _)) ao_)
theorem lT_{k:Nat}(h:k≤7):4* gjB 3000 k+1≤274877906944:=by
 have:=rj_ (s:=3000) h
 have h2:gjB 3000 7≤60000000:=by decide+kernel
 omega
theorem mR_bd{p q:List Rat}{s t:Nat}(hp:bdL p s)(hq:bdL q t)(hs:1≤s)(ht:1≤t):∀n,bdL (mR p q n) (n* (s+t+2)+1)
 |0=>by rw[mR];intro x hx;cases hx
 |n+1=>by
  rw[mR]
  intro x hx
  have h1:=mR_bd hp hq hs ht n
  unfold addP tabP at hx
  obtain⟨i,_,rfl⟩:=List.mem_map.1 (bl_ hx)
  have a:=bE_ h1 (by omega) i
  have b:qs (coP (shP n (aJ_ p (coP q n))) i)≤s+t:=by
   rw[fU_]
   split
   exact Nat.le_trans (by decide:qs 0≤1) (by omega)
   rw[bp_]
   have:=bZ_ (coP p (i- n)) (coP q n)
   have c1:=bE_ hp hs (i- n)
   have c2:=bE_ hq ht n
   omega
  have c:=gl_ (coP (mR p q n) i) (coP (shP n (aJ_ p (coP q n))) i)
  rw[Nat.succ_mul];omega
theorem fd_(m:List Rat)(l r:Bool)(x y:RQ)(n:Int)(hn: -1≤n∧n≤6)(hml:2* n+1≤(m.length:Int))(hl:m.length≤16)(hb:bdL m 3000):
    ∃b:Bool,FSpec Tryz.prog 70 [.agg (rwC m l r x y),i64 n] (bln b)∧(b=true↔∀j:Nat,(j:Int)≤n→0< oN m j):=by
 have hWc:∀c∈rwC m l r x y,Closed c:=a0_
 obtain⟨b,hbH⟩:∃b:Bool,(b=true↔∀j:Nat,(j:Int)≤n→0< oN m j):=by
  by_cases H:∀j:Nat,(j:Int)≤n→0< oN m j
  exact⟨true,fun _=>H,fun _=>rfl⟩
  exact⟨false,(fun e=>nomatch e),fun h=>absurd h H⟩
 refine⟨b,?_,hbH⟩
 refine f_n Tryz.func70 ?_ ?_
 exact aa_ (aq_ hWc) (aa_ (ad_ _) ab_)
 refine r_z 2 ?_
 refine ac_ (r_z 1 ?_)
 refine aB_ (fun _:Unit=>⟨[],[],1,30⟩) (fun _=> ∀j:Nat,(j:Int)≤n→0< oN m j) ?_ ?_
 ·refine ag_ (ax_ (fun k:Nat=>⟨[(1,i64 n),(2,.aptr [rwC m l r x y] 0 0),(5,i64 k)],[],1,30⟩) (fun k=>8- k) (fun k=>(k:Int)≤n+1∧∀j,j< k→0< oN m j) 0 ⟨by omega,fun j hj=>by omega⟩ ?_ ?_)
  exact s_f []
  rintro k ⟨hk,hpos⟩
  by_cases hkn:(k:Int)≤n
  rotate_left
  refine ac_ (q_z 3 ?_)
  refine cF (av_ ⟨(),fun j hj=>hpos j (by omega),?_⟩)
  exact s_e []
  obtain⟨q,okk,hO,hO2⟩:=ot_ m l r x y k 3000 (by omega) (by omega) (by omega) hb (by decide) (lT_ (by omega))
  obtain⟨rfl,rfl⟩:=hO2 hpos
  obtain⟨o1,o2,o3,o4,o5,o6⟩:=iy_ hb (by decide) (by decide) hl (show k≤6 by omega) hpos k (Nat.le_refl _)
  have ol:(oP m k).length≤k+1:=(dV_ m k).1
  have ob:=(lM_ hb (by decide) (by decide) hl (show k≤6 by omega) hpos k (Nat.le_refl _)).1
  have hM:=h1_ (rP (oP m k)) (rP (oP m k)) 210000000 210000000 4000000000 (d4_ _) (d4_ _) (by rw[vR_rP];exact ob) (by rw[vR_rP];exact ob) (by decide) (fun a ha=>by
   rw[vR_rP]
   refine bdL_mono' (mR_bd ob ob (by decide) (by decide) a) ?_
   have ha:a≤7:=by rw[cF_] at ha;omega
   exact Nat.le_trans (Nat.succ_le_succ (Nat.mul_le_mul_right _ ha)) (by decide)) (by decide) (by rw[cF_];omega) (by rw[cF_];omega)
  rw[vR_rP] at hM
  have hOf:=fs_rOfP (mulP (oP m k) (oP m k)) m l r x y 3000000000 3000 o2 hb (by decide) (by decide) (by omega) (by have:=a2_ (mulP (oP m k) (oP m k));omega) (Nat.le_trans (Nat.mul_le_mul_right _ (show(mulP (oP m k) (oP m k)).length+2≤15 by omega)) (by decide))
  have hSg:=gw_ (rq (ofP m (mulP (oP m k) (oP m k))))
  refine ac_ (q_z 3 ?_)
  refine cT (ah_ (ac_ (ag_ (r_c 8 (hO) ?_))))
  refine a_z ?_
  by_cases hp:0< oN m k
  refine ac_ (r_d hmix 11 ?_)
  refine c_s (hM) ?_
  refine c_s (hOf) ?_
  refine c_s (hSg) ?_
  refine ay_ rfl rfl rfl (.bin rfl rfl (vF cW_ (decide_eq_false (fun e=>sgZ_le.1 e hp)))) rfl rfl ?_
  refine a_1 ?_
  refine an_ (n_k ?_)
  refine cF (ah_ (r_m 3 ?_))
  refine a_z ?_
  refine⟨k+1,by omega,⟨by omega,fun j hj=>?_⟩,?_⟩
  by_cases e:j=k
  rw[e];exact hp
  exact hpos j (by omega)
  refine ar_ [] rfl rfl rfl au_r (fun hs=>?_) (fun hs=>?_)
  ·repeat' (first|exact aA_|refine au_ rfl ?_ ?_)
   all_goals (first|(exact ak_ hs (ai_ hWc))|exact au_c)
  ·repeat' (first|exact ap_|refine al_ rfl rfl rfl rfl ?_ ?_)
   all_goals (first|exact au_e|(refine ae_ ?_;repeat' (first|exact ao_|refine af_ ?_ ?_)))
   all_goals (first|(exact ak_ hs (ai_ hWc))|exact au_c)
  have hbf:b=false:=by
   cases hh:b with
   |false=>rfl
   |true=>exact absurd ((hbH.1 hh) k hkn) hp
  refine ac_ (r_d hmix 11 ?_)
  refine c_s (hM) ?_
  refine c_s (hOf) ?_
  refine c_s (hSg) ?_
  refine ay_ rfl rfl rfl (.bin rfl rfl (vT cW_ (decide_eq_true (sgZ_le.2 hp)))) rfl rfl ?_
  refine a_1 ?_
  refine an_ (n_k ?_)
  refine cT (r_z 1 ?_)
  refine aj_ ?_
  rw[hbf]
  exact t_e (ad_ _)
 rintro _ hall
 rw[hbH.2 hall]
 refine r_z 1 ?_
 exact aj_ (t_e (ad_ _))
section
variable (m:List Rat)(l r:Bool)(a b:Rat)(ha:sm a)(hb:sm b)
include ha hb
theorem l8_(n:Int)(hv:¬okW m l r a b)(hml:m.length≤1000000):FSpec Tryz.prog 67 [.agg (wC m l r (qC a) (qC b)),i64 n] (.tup [bln false,i64 2]):=by
 have hck:=fg_ m l r a b hv hml ha hb
 have hWc:=aG_ (m:=m) (l:=l) (r:=r) (.inr ⟨a,rfl⟩) (.inr ⟨b,rfl⟩)
 refine f_n Tryz.func67 ?_ ?_
 exact aa_ (aq_ hWc) (aa_ (ad_ _) ab_)
 refine r_z 3 ?_
 refine ac_ (r_c 3 (hck) ?_)
 refine a_z ?_
 refine ag_ (s_r 3 ?_)
 refine a_1 ?_
 refine o_0 (.bin rfl rfl (vT ba_ (rfl))) ?_
 refine a_z ?_
 refine cT (r_z 3 ?_)
 refine aj_ (Fin.many ⟨_,_,rfl,rfl,⟨_,_,rfl,rfl,rfl⟩⟩ (nle rfl) ?_)
 exact af_ (ak_ as_ (ad_ _)) (af_ (ak_ as_ (ad_ _)) ao_)
theorem l9_(n:Int)(hv:okW m l r a b)(hn:n< 0):FSpec Tryz.prog 67 [.agg (wC m l r (qC a) (qC b)),i64 n] (.tup [bln false,i64 3]):=by
 have hck:=bS_ m l r a b ⟨hv.1,hv.2.1⟩ hv.2.2 ha hb
 have hWc:=aG_ (m:=m) (l:=l) (r:=r) (.inr ⟨a,rfl⟩) (.inr ⟨b,rfl⟩)
 refine f_n Tryz.func67 ?_ ?_
 exact aa_ (aq_ hWc) (aa_ (ad_ _) ab_)
 refine r_z 3 ?_
 refine ac_ (r_c 3 (hck) ?_)
 refine a_z ?_
 refine ag_ (s_r 3 ?_)
 refine a_1 ?_
 refine o_0 (.bin rfl rfl (vF ba_ (rfl))) ?_
 refine a_z ?_
 refine cF (q_z 3 ?_)
 refine cT (r_z 2 ?_)
 refine aj_ (Fin.many ⟨_,_,rfl,rfl,⟨_,_,rfl,rfl,rfl⟩⟩ (nle rfl) ?_)
 exact af_ (ak_ as_ (ad_ _)) (af_ (ak_ as_ (ad_ _)) ao_)
theorem ma_(n:Int)(hv:okW m l r a b)(hn:((m.length:Int)- 1) / 2< n):FSpec Tryz.prog 67 [.agg (wC m l r (qC a) (qC b)),i64 n] (.tup [bln false,i64 5]):=by
 have hck:=bS_ m l r a b ⟨hv.1,hv.2.1⟩ hv.2.2 ha hb
 have hWc:=aG_ (m:=m) (l:=l) (r:=r) (.inr ⟨a,rfl⟩) (.inr ⟨b,rfl⟩)
 have hm1:=hv.1
 have hm2:=hv.2.1
 refine f_n Tryz.func67 ?_ ?_
 exact aa_ (aq_ hWc) (aa_ (ad_ _) ab_)
 refine r_z 3 ?_
 refine ac_ (r_c 3 (hck) ?_)
 refine a_z ?_
 refine ag_ (s_r 3 ?_)
 refine a_1 ?_
 refine o_0 (.bin rfl rfl (vF ba_ (rfl))) ?_
 refine a_z ?_
 refine cF (q_z 3 ?_)
 refine cF (q_z 8 ?_)
 refine cT (r_z 2 ?_)
 refine aj_ (Fin.many ⟨_,_,rfl,rfl,⟨_,_,rfl,rfl,rfl⟩⟩ (nle rfl) ?_)
 exact af_ (ak_ as_ (ad_ _)) (af_ (ak_ as_ (ad_ _)) ao_)
theorem pw_(n:Int)(hv:¬okW m l r a b)(hml:m.length≤1000000):FSpec Tryz.prog 165 [.agg (wC m l r (qC a) (qC b)),i64 n] (.tup [.v (.pointer none),i64 2]):=by
 have hck:=fg_ m l r a b hv hml ha hb
 have hWc:=aG_ (m:=m) (l:=l) (r:=r) (.inr ⟨a,rfl⟩) (.inr ⟨b,rfl⟩)
 refine f_n Tryz.func165 ?_ ?_
 exact aa_ (aq_ hWc) (aa_ (ad_ _) ab_)
 refine r_z 3 ?_
 refine ac_ (r_c 3 (hck) ?_)
 refine a_z ?_
 refine ag_ (s_r 3 ?_)
 refine a_1 ?_
 refine o_0 (.bin rfl rfl (vT ba_ (rfl))) ?_
 refine a_z ?_
 refine cT (r_z 3 ?_)
 refine aj_ (Fin.many ⟨_,_,rfl,rfl,⟨_,_,rfl,rfl,rfl⟩⟩ (nle rfl) ?_)
 exact af_ (ak_ as_ (ad_ _)) (af_ (ak_ as_ (ad_ _)) ao_)
theorem px_(n:Int)(hv:okW m l r a b)(hn:n< 0∨25< n):FSpec Tryz.prog 165 [.agg (wC m l r (qC a) (qC b)),i64 n] (.tup [.v (.pointer none),i64 3]):=by
 have hck:=bS_ m l r a b ⟨hv.1,hv.2.1⟩ hv.2.2 ha hb
 have hWc:=aG_ (m:=m) (l:=l) (r:=r) (.inr ⟨a,rfl⟩) (.inr ⟨b,rfl⟩)
 have ho:=bn_ n 0 25
 rw[decide_eq_true hn] at ho
 refine f_n Tryz.func165 ?_ ?_
 exact aa_ (aq_ hWc) (aa_ (ad_ _) ab_)
 refine r_z 3 ?_
 refine ac_ (r_c 3 (hck) ?_)
 refine a_z ?_
 refine ag_ (s_r 3 ?_)
 refine a_1 ?_
 refine o_0 (.bin rfl rfl (vF ba_ (rfl))) ?_
 refine a_z ?_
 refine cF (r_c 3 (ho) ?_)
 refine a_z ?_
 refine cT (r_z 2 ?_)
 refine aj_ (Fin.many ⟨_,_,rfl,rfl,⟨_,_,rfl,rfl,rfl⟩⟩ (nle rfl) ?_)
 exact af_ (ak_ as_ (ad_ _)) (af_ (ak_ as_ (ad_ _)) ao_)
theorem py_(n:Nat)(hv:okW m l r a b)(hn:n≤25)(hml:m.length< 2* n):FSpec Tryz.prog 165 [.agg (wC m l r (qC a) (qC b)),i64 n] (.tup [.v (.pointer none),i64 5]):=by
 have hck:=bS_ m l r a b ⟨hv.1,hv.2.1⟩ hv.2.2 ha hb
 have hWc:=aG_ (m:=m) (l:=l) (r:=r) (.inr ⟨a,rfl⟩) (.inr ⟨b,rfl⟩)
 have ho:=bn_ (n:Int) 0 25
 rw[decide_eq_false (by omega)] at ho
 refine f_n Tryz.func165 ?_ ?_
 exact aa_ (aq_ hWc) (aa_ (ad_ _) ab_)
 refine r_z 3 ?_
 refine ac_ (r_c 3 (hck) ?_)
 refine a_z ?_
 refine ag_ (s_r 3 ?_)
 refine a_1 ?_
 refine o_0 (.bin rfl rfl (vF ba_ (rfl))) ?_
 refine a_z ?_
 refine cF (r_c 3 (ho) ?_)
 refine a_z ?_
 refine cF (q_z 7 ?_)
 refine cT (r_z 2 ?_)
 refine aj_ (Fin.many ⟨_,_,rfl,rfl,⟨_,_,rfl,rfl,rfl⟩⟩ (nle rfl) ?_)
 exact af_ (ak_ as_ (ad_ _)) (af_ (ak_ as_ (ad_ _)) ao_)
theorem pz_(n d:Nat)(hv:okW m l r a b)(hn:n≤25)(hml:2* n≤m.length)(hd:d≤n)(hok:∀k,k< d→okLd m k)(hbad:d< n→okMul (ldr m d).1 (ldr m d).1∧okOf m (mulP (ldr m d).1 (ldr m d).1)∧¬0< ldN m (ldr m d).1):
    FSpec Tryz.prog 165 [.agg (wC m l r (qC a) (qC b)),i64 n] (if d=n then .tup [.aptr [ldF m l r a b n] 0 0,i64 0] else .tup [.v (.pointer none),i64 14]):=by
 have hck:=bS_ m l r a b ⟨hv.1,hv.2.1⟩ hv.2.2 ha hb
 have hcl:=iY_ m l r a b n d (by omega) hd hok hbad
 have hWc:=aG_ (m:=m) (l:=l) (r:=r) (.inr ⟨a,rfl⟩) (.inr ⟨b,rfl⟩)
 have ho:=bn_ (n:Int) 0 25
 rw[decide_eq_false (by omega)] at ho
 refine f_n Tryz.func165 ?_ ?_
 exact aa_ (aq_ hWc) (aa_ (ad_ _) ab_)
 refine r_z 3 ?_
 refine ac_ (r_c 3 (hck) ?_)
 refine a_z ?_
 refine aB_ (fun _:Unit=>⟨[(1,i64 n),(2,.aptr [wC m l r (qC a) (qC b)] 0 0)],[],1,34⟩) (fun _=>True) ?_ ?_
 refine ag_ (s_r 3 ?_)
 refine a_1 ?_
 refine o_0 (.bin rfl rfl (vF ba_ (rfl))) ?_
 refine a_z ?_
 refine cF (r_c 3 (ho) ?_)
 refine a_z ?_
 refine cF (q_z 7 ?_)
 refine cF (ah_ ⟨(),trivial,?_⟩)
 exact s_f []
 rintro _ _
 refine r_c 8 (hcl) ?_
 refine a_z ?_
 by_cases hdn:d=n
 subst hdn
 rw[if_pos rfl,decide_eq_true rfl]
 refine ac_ (r_z 2 ?_)
 refine cF (ah_ (r_z 3 ?_))
 refine aj_ (Fin.many ⟨_,_,rfl,rfl,⟨_,_,rfl,rfl,rfl⟩⟩ (nle rfl) ?_)
 exact CvL.clo as_ (aa_ (cJ_ fun e he=>by rw[List.mem_singleton.1 he];exact dK_ m l r a b d) (aa_ (ad_ _) ab_))
 rw[if_neg hdn,decide_eq_false hdn]
 refine ac_ (r_z 2 ?_)
 refine cT (r_z 2 ?_)
 refine aj_ (Fin.many ⟨_,_,rfl,rfl,⟨_,_,rfl,rfl,rfl⟩⟩ (nle rfl) ?_)
 exact af_ (ak_ as_ (ad_ _)) (af_ (ak_ as_ (ad_ _)) ao_)
omit ha hb in
theorem h4_(n e:Int)(he:e≠0)(h:FSpec Tryz.prog 165 [.agg (wC m l r (qC a) (qC b)),i64 n] (.tup [.v (.pointer none),i64 e])):FSpec Tryz.prog 68 [.agg (wC m l r (qC a) (qC b)),i64 n] (.tup [.arr [],i64 e]):=by
 have hWc:=aG_ (m:=m) (l:=l) (r:=r) (.inr ⟨a,rfl⟩) (.inr ⟨b,rfl⟩)
 refine f_n Tryz.func68 ?_ ?_
 exact aa_ (aq_ hWc) (aa_ (ad_ _) ab_)
 refine r_z 3 ?_
 refine r_c 8 (h) ?_
 refine a_z ?_
 refine ac_ (s_r 2 ?_)
 refine a_1 ?_
 refine o_0 (.bin rfl rfl (vT ba_ (bne_iff_ne.2 he))) ?_
 refine an_ ?_
 refine cT (r_z 3 ?_)
 refine aj_ (Fin.many ⟨_,_,rfl,rfl,⟨_,_,rfl,rfl,rfl⟩⟩ (nle rfl) ?_)
 exact af_ (Cv.emp _) (af_ (ak_ as_ (ad_ _)) ao_)
omit ha hb in
theorem fs_OrthO(n:Nat)(h:FSpec Tryz.prog 165 [.agg (wC m l r (qC a) (qC b)),i64 n] (.tup [.aptr [ldF m l r a b n] 0 0,i64 0])):FSpec Tryz.prog 68 [.agg (wC m l r (qC a) (qC b)),i64 n] (.tup [.arr (pE (oP m n)),i64 0]):=by
 have hWc:=aG_ (m:=m) (l:=l) (r:=r) (.inr ⟨a,rfl⟩) (.inr ⟨b,rfl⟩)
 refine f_n Tryz.func68 ?_ ?_
 exact aa_ (aq_ hWc) (aa_ (ad_ _) ab_)
 refine r_z 3 ?_
 refine r_c 8 (h) ?_
 refine a_z ?_
 refine ac_ (s_r 2 ?_)
 refine a_1 ?_
 refine o_0 (.bin rfl rfl (vF ba_ (rfl))) ?_
 refine an_ ?_
 refine cF (ah_ (r_z 6 ?_))
 refine aj_ (Fin.many ⟨_,_,rfl,rfl,⟨_,_,rfl,rfl,rfl⟩⟩ (nle rfl) ?_)
 exact af_ (ak_ as_ (at_ _)) (af_ (ak_ as_ (ad_ _)) ao_)
omit ha hb in
theorem kQ_(n e:Int)(he:e≠0)(h:FSpec Tryz.prog 165 [.agg (wC m l r (qC a) (qC b)),i64 n] (.tup [.v (.pointer none),i64 e])):FSpec Tryz.prog 69 [.agg (wC m l r (qC a) (qC b)),i64 n] (.tup [.arr [],.arr [],i64 e]):=by
 have hWc:=aG_ (m:=m) (l:=l) (r:=r) (.inr ⟨a,rfl⟩) (.inr ⟨b,rfl⟩)
 refine f_n Tryz.func69 ?_ ?_
 exact aa_ (aq_ hWc) (aa_ (ad_ _) ab_)
 refine r_z 4 ?_
 refine r_c 8 (h) ?_
 refine a_z ?_
 refine ac_ (s_r 2 ?_)
 refine a_1 ?_
 refine o_0 (.bin rfl rfl (vT ba_ (bne_iff_ne.2 he))) ?_
 refine an_ ?_
 refine cT (r_z 4 ?_)
 refine aj_ (Fin.many ⟨_,_,rfl,rfl,⟨_,_,rfl,rfl,⟨_,_,rfl,rfl,rfl⟩⟩⟩ (nle rfl) ?_)
 exact af_ (Cv.emp _) (af_ (Cv.emp _) (af_ (ak_ as_ (ad_ _)) ao_))
omit ha hb in
theorem fs_RecO(n:Nat)(h:FSpec Tryz.prog 165 [.agg (wC m l r (qC a) (qC b)),i64 n] (.tup [.aptr [ldF m l r a b n] 0 0,i64 0])):FSpec Tryz.prog 69 [.agg (wC m l r (qC a) (qC b)),i64 n] (.tup [.arr (pE (sqL (ldAk m) n)),.arr (pE (sqL (ldB m) n)),i64 0]):=by
 have hWc:=aG_ (m:=m) (l:=l) (r:=r) (.inr ⟨a,rfl⟩) (.inr ⟨b,rfl⟩)
 refine f_n Tryz.func69 ?_ ?_
 exact aa_ (aq_ hWc) (aa_ (ad_ _) ab_)
 refine r_z 4 ?_
 refine r_c 8 (h) ?_
 refine a_z ?_
 refine ac_ (s_r 2 ?_)
 refine a_1 ?_
 refine o_0 (.bin rfl rfl (vF ba_ (rfl))) ?_
 refine an_ ?_
 refine cF (ah_ (ac_ (r_d hmix 11 ?_)))
 refine a_8 ?_
 refine a_3 ?_
 refine an_ (n_k ?_)
 refine aj_ (Fin.many ⟨_,_,rfl,rfl,⟨_,_,rfl,rfl,⟨_,_,rfl,rfl,rfl⟩⟩⟩ (nle rfl) ?_)
 exact af_ (ak_ as_ (at_ _)) (af_ (ak_ as_ (at_ _)) (af_ (ak_ as_ (ad_ _)) ao_))
end
end Go.Proofs.YtdjfjpeoddmamaaGreatDoor
