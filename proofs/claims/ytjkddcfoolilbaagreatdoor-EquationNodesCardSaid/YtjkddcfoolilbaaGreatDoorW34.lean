/- Part W34 of the proof. -/
import Derived.Test.YtjkddcfoolilbaaGreatDoorW33
import Derived.ChangeSame
import Derived.ProofKit
import Derived.OpenShut
import Derived.Carry
import Derived.Deep.Slices
import Derived.Deep.Strs
import Derived.ChangeArms
set_option linter.all false
namespace Go.Proofs.YtjkddcfoolilbaaGreatDoor
open Go.Abs
set_option maxRecDepth 20000
def okW(m:List Rat)(l r:Bool)(a b:Rat):Prop:=1≤m.length∧m.length≤64∧(l=true→r=true→a< b)
instance (m:List Rat) (l r:Bool) (a b:Rat):Decidable (okW m l r a b):=inferInstanceAs (Decidable (_∧_∧_))
end Go.Proofs.YtjkddcfoolilbaaGreatDoor
namespace Go.Proofs.YtjkddcfoolilbaaGreatDoor
open Go.Abs Go.Deep Go.RowKit Go.WideShapes
set_option maxRecDepth 20000

end Go.Proofs.YtjkddcfoolilbaaGreatDoor
namespace Go.Proofs.YtjkddcfoolilbaaGreatDoor
open Go.Abs Go.ChangeShapes Go.Deep Go.RowKit Go.WideShapes
set_option maxRecDepth 20000

end Go.Proofs.YtjkddcfoolilbaaGreatDoor
namespace Go.Proofs.YtjkddcfoolilbaaGreatDoor
open Go.Abs
set_option maxRecDepth 20000
set_option maxHeartbeats 2000000


def bdN(n:Int):Prop:=n< 0∨63< n
def bdP(p:Int):Prop:=p< 0∨8< p
instance (n:Int):Decidable (bdN n):=inferInstanceAs (Decidable (_∨_))
instance (n:Int):Decidable (bdP n):=inferInstanceAs (Decidable (_∨_))








end Go.Proofs.YtjkddcfoolilbaaGreatDoor
namespace Go.Proofs.YtjkddcfoolilbaaGreatDoor
open Go.Abs Go.Deep Go.RowKit Go.WideShapes
set_option maxRecDepth 20000

end Go.Proofs.YtjkddcfoolilbaaGreatDoor
namespace Go.Proofs.YtjkddcfoolilbaaGreatDoor
open Go.Abs Go.ChangeShapes Go.Deep Go.RowKit Go.WideShapes
set_option maxRecDepth 20000

end Go.Proofs.YtjkddcfoolilbaaGreatDoor
namespace Go.Proofs.YtjkddcfoolilbaaGreatDoor
open Go.Abs
set_option maxRecDepth 20000
set_option maxHeartbeats 4000000

section
variable {T:List Rat}{n:Nat}(hn:1≤n∧n≤5)(hl:T.length=n+1)(ht:trimQ T=T)(hm:leadP T=1)(hb:bdL T 20)
include hn hl ht hm hb
end


theorem ie_(n:Nat)(f:Nat→Rat):tabP (n+1) f=tabP n f++[f n]:=by simp[tabP,List.range_succ]
theorem gK_{n:Nat}{f g:Nat→Rat}(h:∀i,i< n→f i=g i):tabP n f=tabP n g:=List.map_congr_left fun i hi=>h i (List.mem_range.1 hi)
theorem j8_{n i:Nat}{f:Nat→Rat}(h:i< n):(tabP n f)[i]?=some (f i):=by simp[tabP,h]
theorem tabP_put{n j:Nat}{f:Nat→Rat}{v:Rat}(h:j< n):(tabP n f).set j v=tabP n (fun i=>if i=j then v else f i):=by
 apply List.ext_getElem?;intro i;rw[List.getElem?_set];by_cases hi:i< n;rw[j8_ (f:=fun i=>if i=j then v else f i) hi];by_cases e:j=i;rw[if_pos e,if_pos (by simp;omega),if_pos e.symm];rw[if_neg e,j8_ hi,if_neg (fun e'=>e e'.symm)];rw[List.getElem?_eq_none (by simp;omega),if_neg (show¬j=i by omega),List.getElem?_eq_none (by simp;omega)]
abbrev mrow(M:Mx)(n i:Nat):List (List AV):=rE (rP (tabP (n+1) (M i)))
theorem bW_{M:Mx}{n i j:Nat}(hj:j≤n):∀e,e=j→(mrow M n i)[e]?=some (rC (rq (M i j))):=fun e he=>by
 rw[he];unfold mrow rE rP;rw[List.getElem?_map,List.getElem?_map,j8_ (by omega)];rfl
theorem mrow_put{M M':Mx}{n i j:Nat}{v:Rat}(hj:j≤n)(h1:M' i j=v)(h2:∀k,k≤n→k≠j→M' i k=M i k):∀e,e=j→(mrow M n i).set e (rC (rq v))=mrow M' n i:=fun e he=>by
 rw[he];unfold mrow;rw[rE_set];congr 1;unfold rP;rw[←List.map_set,tabP_put (by omega)];congr 1;refine gK_ fun k hk=>?_;by_cases e:k=j;rw[if_pos e,e,h1];rw[if_neg e,h2 k (by omega) e]
def mxW(M:Mx)(n c:Nat):List (List (List AV)):=(List.range c).map (mrow M n)
@[simp] theorem gR_ (M:Mx)(n c:Nat):(mxW M n c).length=c:=by simp[mxW]
theorem dT_{M:Mx}{n c i:Nat}(h:i< c):(mxW M n c)[i]?=some (mrow M n i):=by simp[mxW,h]
theorem lO_{M:Mx}{n c i:Nat}{e:List (List AV)}(h:(mxW M n c)[i]?=some e):i< c∧e=mrow M n i:=by
 have h1:=(List.getElem?_eq_some_iff.1 h).1;rw[gR_] at h1;rw[dT_ h1] at h;cases h;exact⟨h1,rfl⟩
theorem qX_{A B:Mx}{n c:Nat}(h:∀i j,i< c→j≤n→A i j=B i j):mxW A n c=mxW B n c:=List.map_congr_left fun i hi=>by
 unfold mrow;rw[gK_ fun j hj=>h i j (List.mem_range.1 hi) (by omega)]
theorem fg_{k t:Nat}{x:Option ABlk}{l:Hp}(h:k≠t):lookB ((k,x)::l) t=lookB l t:=by
 rw[bk_];unfold upd;rw[if_neg (fun e=>h e.symm)]
theorem mxO_one(w:Nat)(s:Nat→Nat)(n:Nat):(mxO w s n).all (·.all AV.one)=true:=by
 unfold mxO;rw[List.all_map,List.all_eq_true];intro i _;rfl
theorem eO_{w n i:Nat}(h:i< n):∀e,e=i→(mxO w (fun i=>i) n)[e]?=some [.lsl (i+2) 0 w none 4]:=fun e he=>by rw[he];exact kr_ h
theorem mxO_snoc(w:Nat)(n k:Nat):mxO w (fun i=>i) n++[[.lsl k 0 w none 4]]=mxO w (fun i=>cond (Nat.beq i 1) 56 (cond (Nat.beq i (n+2)) k i)) (n+1):=by
 unfold mxO;rw[List.range_succ,List.map_append];congr 1;refine List.map_congr_left fun i hi=>?_;have:=List.mem_range.1 hi;have h1:Nat.beq (i+2) 1=false:=rfl
 have h2:Nat.beq (i+2) (n+2)=false:=by
  cases hb:Nat.beq (i+2) (n+2) with
  |false=>rfl
  |true=>have:=Nat.eq_of_beq_eq_true hb;omega
 simp only[h1,h2,cond_false];have h1:Nat.beq (n+2) 1=false:=rfl;simp only[List.map_cons,List.map_nil,h1,cond_false,Nat.beq_refl,cond_true]
theorem dead_mx{TS TQ i:Nat}{o:List (List AV)}{L:List (List (List AV))}(hL:L.length≤30)(hi:40≤i):Dead ⟨40,fun i=>i⟩ (lookB (mxH TS TQ o L)) i:=fun j B hj e=>by
 have e:j=i:=e;rcases List.mem_cons.1 (c1_ hj) with h|h
 cases h;omega;have:=iC_ L 2 j (List.mem_map_of_mem h);omega
def svS(M:Mx)(n:Nat)(fr:Fr):AState:=⟨(7,.lsl 1 0 n none 1)::(6,i64 n)::fr,mxH 34 51 (mxO (n+1) (fun i=>i) n) (mxW M n n),40,163⟩
theorem eU_{A B:Mx}{n:Nat}{fr:Fr}(h:∀i j,i< n→j≤n→A i j=B i j):svS A n fr=svS B n fr:=by
 unfold svS;rw[qX_ h]
def bdS(M:Mx)(a b:AV)(n:Nat):Nat→AState
 |0=>⟨[(0,a),(1,b),(6,i64 n),(7,.emp),(8,i64 0)],[],40,163⟩
 |c+1=>⟨[(0,a),(1,b),(6,i64 n),(7,.lsl 1 0 (c+1) none 1),(8,i64 ((c+1:Nat):Int))],mxH 34 51 (mxO (n+1) (fun i=>i) (c+1)) (mxW M n (c+1)),40,163⟩
def svA(M:Mx)(n:Nat):List (List AV):=(List.range n).map fun i=>[.arr (rE (rP (tabP n (M i))))]
@[simp] theorem svA_length (M:Mx)(n:Nat):(svA M n).length=n:=by simp[svA]
theorem ka_{M:Mx}{n i:Nat}(h:i< n):∀e,e=i→(svA M n)[e]?=some [.arr (rE (rP (tabP n (M i))))]:=fun e he=>by rw[he];simp[svA,h]
theorem j1_(M:Mx)(n:Nat):Closed (.arr (svA M n)):=ax_ fun e he c hc=>by
 obtain⟨i,_,rfl⟩:=List.mem_map.1 he;rw[List.mem_singleton.1 hc];exact aR_ _
def svB(M:Mx)(n:Nat):List RQ:=rP (tabP n fun i=>M i n)
theorem j9_{M:Mx}{n i:Nat}(h:i< n):∀e,e=i→(rE (svB M n))[e]?=some (rC (rq (M i n))):=fun e he=>by
 rw[he];unfold svB rE rP;rw[List.getElem?_map,List.getElem?_map,j8_ h];rfl
def sB(c:Nat):Nat→Nat:=fun i=>cond (Nat.beq i 1) 56 (cond (Nat.beq i (c+2)) 54 i)
theorem sB_new(c:Nat):sB c (c+2)=54:=by
 unfold sB;rw[show Nat.beq (c+2) 1=false from rfl,Nat.beq_refl];rfl
theorem sB_old{c i:Nat}(h:i≠c):sB c (i+2)=i+2:=by
 have h2:Nat.beq (i+2) (c+2)=false:=by
  cases hb:Nat.beq (i+2) (c+2) with
  |false=>rfl
  |true=>have:=Nat.eq_of_beq_eq_true hb;omega
 unfold sB;rw[show Nat.beq (i+2) 1=false from rfl,h2];rfl
theorem sB_inj{c:Nat}(hc:c≤25):∀i j,1≤i→i< c+1+2→1≤j→j< c+1+2→sB c i=sB c j→i=j:=by
 have key:∀i,1≤i→i< c+1+2→(i=1∧sB c i=56)∨(i=c+2∧sB c i=54)∨(2≤i∧i< c+2∧sB c i=i):=fun i h1 h2=>by
  by_cases e:i=1;subst e;exact .inl ⟨rfl,rfl⟩;obtain⟨k,rfl⟩:∃k,i=k+2:=⟨i- 2,by omega⟩;by_cases e2:k=c;subst e2;exact .inr (.inl ⟨rfl,sB_new k⟩);exact .inr (.inr ⟨by omega,by omega,sB_old e2⟩)
 intro i j i1 i2 j1 j2 e;rcases key i i1 i2 with⟨a,b⟩|⟨a,b⟩|⟨a,b,d⟩<;> rcases key j j1 j2 with⟨a',b'⟩|⟨a',b'⟩|⟨a',b',d'⟩<;> omega
theorem og_(M:Mx)(n c:Nat):rE (rP (tabP n (M c)))++[rC (rq (M c n))]=mrow M n c:=by
 unfold mrow;rw[ie_];unfold rP;rw[List.map_append,it_];rfl
def sW(k p:Nat):Nat→Nat:=fun i=>cond (Nat.beq i (k+2)) (p+2) (cond (Nat.beq i (p+2)) (k+2) i)
theorem beq_f{a b:Nat}(h:a≠b):Nat.beq a b=false:=by
 cases hb:Nat.beq a b with
 |false=>rfl
 |true=>exact absurd (Nat.eq_of_beq_eq_true hb) h
theorem jx_(k p i:Nat):sW k p (i+2)=(if i=k then p else if i=p then k else i)+2:=by
 unfold sW;by_cases h1:i=k;rw[if_pos h1,h1,Nat.beq_refl];rfl;rw[if_neg h1,beq_f (show i+2≠k+2 by omega)];by_cases h2:i=p;rw[if_pos h2,h2,Nat.beq_refl];rfl;rw[if_neg h2,beq_f (show i+2≠p+2 by omega)];rfl
theorem sW_inj(k p:Nat):∀i j,1≤i→1≤j→sW k p i=sW k p j→i=j:=by
 intro i j i1 j1 e;by_cases h1:i=1;subst h1;by_cases h2:j=1;exact h2.symm;obtain⟨a,rfl⟩:∃a,j=a+2:=⟨j- 2,by omega⟩;rw[jx_,show sW k p 1=1 from rfl] at e;omega;obtain⟨a,rfl⟩:∃a,i=a+2:=⟨i- 2,by omega⟩;by_cases h2:j=1;subst h2;rw[jx_,show sW k p 1=1 from rfl] at e;omega
 ·obtain⟨b,rfl⟩:∃b,j=b+2:=⟨j- 2,by omega⟩
  rw[jx_,jx_] at e
  repeat' split at e
  all_goals omega
theorem mxO_swap{w n k p:Nat}(hk:k< n)(hp:p< n):∀a b,a=p→b=k→((mxO w (fun i=>i) n).set a [.lsl (k+2) 0 w none 4]).set b [.lsl (p+2) 0 w none 4]=mxO w (sW k p) n:=fun a b ha hb=>by
 rw[ha,hb];apply List.ext_getElem?;intro i;by_cases hi:i< n;rw[List.getElem?_set,kr_ hi,jx_];by_cases h1:k=i;rw[if_pos h1,if_pos (by simp;omega),if_pos h1.symm];rw[if_neg h1,if_neg (fun e=>h1 e.symm),List.getElem?_set];by_cases h2:p=i;rw[if_pos h2,if_pos (by simp;omega),if_pos h2.symm];rw[if_neg h2,if_neg (fun e=>h2 e.symm),kr_ hi];rw[List.getElem?_eq_none (by simp;omega),List.getElem?_eq_none (by simp;omega)]
theorem d0_ {A:Mx} {n nx:Nat} {fr fr':Fr} {hp:Hp} (hn:n≤25) (h1:lookB hp 1=some ⟨34,1,mxO (n+1) (fun i=>i) n⟩) (hr:∀i,i< n→lookB hp (i+2)=some ⟨51,4,mrow A n i⟩)
    (hF:Shr ⟨40,fun i=>i⟩ (lookB hp) (lookB (mxH 34 51 (mxO (n+1) (fun i=>i) n) (mxW A n n)))→CvF ⟨40,fun i=>i⟩ (lookB hp) (lookB (mxH 34 51 (mxO (n+1) (fun i=>i) n) (mxW A n n))) fr ((7,.lsl 1 0 n none 1)::(6,i64 n)::fr')):
    SEnt ⟨fr,hp,nx,163⟩ (svS A n fr'):=
 SEnt.mx (fun i=>i) _ _ _ (by simp;omega) rfl (fun i j _ _ _ _ e=>e) h1 rfl (fun i e hi=>by
  obtain⟨h1,rfl⟩:=lO_ hi;exact⟨hr i h1,a9_ _⟩) (fun hs=>gG_ (by omega) fun i hi=>by rw[ey_ (dT_ hi)];rfl) hF
theorem cQ_{A:Mx}{n i:Nat}(h:i< n):lookB (mxH 34 51 (mxO (n+1) (fun i=>i) n) (mxW A n n)) (i+2)=some ⟨51,4,mrow A n i⟩:=ey_ (dT_ h)
theorem eu_{A:Mx}{n i:Nat}(h:i< n):cellF (lookB (mxH 34 51 (mxO (n+1) (fun i=>i) n) (mxW A n n))) (i+2)=some ⟨51,4,mrow A n i⟩:=oe_ (dT_ h)
theorem mxO_st{w n k p:Nat}(hk:k< n)(hp:p< n):∀a b,a=p→b=k→((mxO w (fun i=>i) n).set a [.lsl (k+2) 0 w none 4])[b]?=some [.lsl (k+2) 0 w none 4]:=fun a b ha hb=>by
 rw[ha,hb,List.getElem?_set];by_cases h:p=k;rw[if_pos h,if_pos (by simp;omega)];rw[if_neg h,kr_ hk]
theorem gj_mono{M:Mx}{n k m:Nat}(h:gjM M n k=none)(hk:k≤m):gjM M n m=none:=by
 induction m with
 |zero=>rw[show k=0 by omega] at h;exact h
 |succ m ih=>
  by_cases e:k=m+1;rw[←e];exact h;rw[gjM,ih (by omega)];rfl
theorem sgZ_zero{q:Rat}:sgZ q.num=0↔q=0:=by
 constructor;intro h;unfold sgZ at h;split at h
 ·rename_i h1
  exact Rat.num_eq_zero.1 h1
 split at h;cases h;cases h;intro h;subst h;rfl
theorem e8_{r:Ren}{hp hp':Nat→Option ABlk}{id n:Nat}{cap:Option Nat}{B:ABlk}{L:List RQ}(h:Shr r hp hp')(hi:cellF hp id=some B)(hi':Dead r hp' id)(he:B.es=rE L)(hn:n=L.length):Cv r hp hp' (.lsl id 0 n cap 4) (.arr (rE L)):=
 Cv.shut h hi hi' (by rw[he,hn];simp) (ay_ h (by rw[he,List.drop_zero];exact List.take_of_length_le (by simp[hn])) (a9_ _))
def xsS(F:List (List AV))(f:Nat→Rat)(n:Nat):Nat→AState
 |0=>⟨[(6,i64 n),(7,.arr F),(14,.emp),(15,i64 0)],[],1,163⟩
 |i+1=>⟨[(6,i64 n),(7,.arr F),(14,.lsl 1 0 (i+1) none 4),(15,i64 ((i+1:Nat):Int))],[(1,some ⟨51,4,rE (rP (tabP (i+1) f))⟩)],2,163⟩
theorem xsS_0(F:List (List AV))(f:Nat→Rat)(n:Nat):xsS F f n 0=⟨[(6,i64 n),(7,.arr F),(14,.emp),(15,i64 0)],[],1,163⟩:=rfl
theorem xsS_s(F:List (List AV))(f:Nat→Rat)(n i:Nat):xsS F f n (i+1)=⟨[(6,i64 n),(7,.arr F),(14,.lsl 1 0 (i+1) none 4),(15,i64 ((i+1:Nat):Int))],[(1,some ⟨51,4,rE (rP (tabP (i+1) f))⟩)],2,163⟩:=rfl
theorem qe_ (M:Mx) (n s:Nat) (hn:1≤n∧n≤25) (hb:bdM M n s) (hs:1≤s) (hlim:4* gjB s n+1≤274877906944) (Q:Exit→AState→Prop)
    (h0:gjM M n n=none→∀(fr:Fr) (hp:Hp) (nx:Nat),Go.Abs.look fr 4=some .emp→Go.Abs.look fr 5=some (bln false)→Q .ret ⟨fr,hp,nx,163⟩)
    (h1:∀A,gjM M n n=some A→∀(fr:Fr) (hp:Hp) (nx i:Nat) (cap:Option Nat),Go.Abs.look fr 4=some (.lsl i 0 n cap 4)→lookB hp i=some ⟨51,4,rE (rP (tabP n fun i=>A i n/ A i i))⟩→Go.Abs.look fr 5=some (bln true)→Q .ret ⟨fr,hp,nx,163⟩)
    (c:Code) (hc:Tryz.f64.body=some c):AWp none Tryz.prog c Q ⟨[(0,.arr (svA M n)),(1,.arr (rE (svB M n)))],[],1,163⟩:=by
 have hA:=j1_ M n;have hB:Closed (.arr (rE (svB M n))):=aR_ _;obtain rfl:_=c:=Option.some.inj (Eq.trans (rfl:some _=Tryz.f64.body) hc);clear hc;refine r_z 2 ?_;refine r_z 3 ?_;refine r_z 1 ?_;refine ab_ (r_z 1 ?_);refine av_ (fun _:Unit=>svS M n []) (fun _=>True) ?_ ?_;refine af_ (aq_ (bdS M (.arr (svA M n)) (.arr (rE (svB M n))) n) (fun c=>n- c) (fun c=>c≤n) 0 (Nat.zero_le _) ?_ ?_);rw[bdS.eq_1];refine s_x [] (fun hs=>?_) (fun hs=>?_)
 ·repeat' (first|exact aD_|refine an_ rfl ?_ ?_|(refine Cv.loE hs ?_ (ad_ _);simp[i64];done)|exact au_c)
 ·repeat' (first|exact au_|refine h_c ?_ ?_|exact au_e|refine ar_ ?_|exact am_|refine ae_ ?_ ?_|(refine Cv.loE hs ?_ (ad_ _);simp[i64];done)|exact au_c)
 intro c hc;by_cases hlt:c< n
 ·have hne:rE (rP (tabP n (M c)))≠[]:=fun e=>by have:=congrArg List.length e;simp at this;omega
  cases c with
  |zero=>
   rw[bdS.eq_1];refine ab_ (q_z 3 ?_);refine cT (ah_ (ab_ (af_ (r_d hmix 15 ?_))));refine a_3 ?_;refine az_ (.index_a rfl rfl (by omega) (ka_ hlt _ (by omega)) rfl te_135.h) rfl rfl ?_;refine az_ (.load_a1 rfl (ka_ hlt _ (by omega)) TG.h rfl) rfl rfl ?_;refine o_1 (.append_e rfl rfl rfl te_34.h rfl rfl rfl (.arr (is_ _)) (by first|assumption|(simp;done)) TZ.h rfl TB.h d_o (by first|(simp[maxLen];done)|(simp[maxLen];omega))) ?_;refine a_2 ?_;refine az_ (.index_a rfl rfl (by omega) (j9_ hlt _ (by omega)) rfl te_34.h) rfl rfl ?_;refine az_ (.load_a rfl (j9_ hlt _ (by omega)) TG.h TS.h (nle rfl)) rfl rfl ?_;refine a_5 ?_;refine ak_ (n_k ?_);refine r_m 3 ?_;refine a_z ?_;refine⟨1,by omega,hlt,?_⟩;rw[bdS.eq_2];simp only[lI_,eY_,dM_];refine SEnt.mx (sB 0) _ (mxO (n+1) (sB 0) 1) _ (by simp) rfl (by simp only[gR_];exact sB_inj (by omega)) rfl (by simp) ?_ ?_ ?_;intro i e hi;obtain⟨h1,rfl⟩:=lO_ hi;obtain rfl:i=0:=by omega
   refine⟨?_,a9_ _⟩;rw[←og_];rfl;exact fun hs=>gG_ (by omega) fun i hi=>by rw[ey_ (dT_ hi)];rfl
   exact fun hs=>au_f
  |succ c=>
   rw[bdS.eq_2];have ho1:=mxO_one (n+1) (fun i=>i) (c+1);refine ab_ (q_z 3 ?_);refine cT (ah_ (ab_ (af_ (r_d hmix 15 ?_))));refine a_3 ?_;refine az_ (.index_a rfl rfl (by omega) (ka_ hlt _ (by omega)) rfl te_135.h) rfl rfl ?_;refine az_ (.load_a1 rfl (ka_ hlt _ (by omega)) TG.h rfl) rfl rfl ?_;refine o_1 (.append_e rfl rfl rfl te_34.h rfl rfl rfl (.arr (is_ _)) (by first|assumption|(simp;done)) TZ.h rfl TB.h d_o (by first|(simp[maxLen];done)|(simp[maxLen];omega))) ?_;refine a_2 ?_;refine az_ (.index_a rfl rfl (by omega) (j9_ hlt _ (by omega)) rfl te_34.h) rfl rfl ?_;refine az_ (.load_a rfl (j9_ hlt _ (by omega)) TG.h TS.h (nle rfl)) rfl rfl ?_;refine o_1 (.buildSlice te_34.h TZ.h rfl (by decide) rfl rfl rfl (by first|(simp;done)|(simp[a7_,ofV];done)|rfl)) ?_;refine o_2 (.append_l rfl rfl rfl te_34.h rfl rfl rfl rfl rfl d_o (by first|exact cw_ _|exact cu_ _|exact b6_ _|exact cx_ _|exact ct_ _|assumption|rfl|simp) (by first|rfl|exact cw_ _|exact cu_ _|exact b6_ _|exact cx_ _|exact ct_ _|simp) rfl (.lsl rfl (nle rfl)) TZ.h rfl TB.h d_o (by first|(simp[maxLen];done)|(simp[maxLen];omega))) ?_;refine o_1 (.buildSlice te_135.h TZ.h rfl (by decide) rfl rfl rfl (by first|(simp;done)|(simp[a7_,ofV];done)|rfl)) ?_
   refine o_2 (.append_l rfl rfl rfl te_135.h rfl rfl rfl rfl rfl d_o (by first|exact cw_ _|exact cu_ _|exact b6_ _|exact cx_ _|exact ct_ _|assumption|rfl|simp) (by first|rfl|exact cw_ _|exact cu_ _|exact b6_ _|exact cx_ _|exact ct_ _|simp) rfl (.lsl rfl (nle rfl)) TZ.h rfl TB.h d_o (by first|(simp[maxLen];done)|(simp[maxLen];omega))) ?_;refine o_0 (.assign rfl) ?_;refine ak_ (n_k ?_);refine r_m 3 ?_;refine a_z ?_;refine⟨c+2,by omega,hlt,?_⟩;rw[bdS.eq_2];simp only[lI_,eY_,dM_];refine SEnt.mx (sB (c+1)) _ (mxO (n+1) (sB (c+1)) (c+2)) _ (by simp;omega) rfl (by simp only[gR_];exact sB_inj (by omega)) ?_ (by simp) ?_ ?_ ?_;show _=some (ABlk.mk 34 1 (mxO (n+1) (fun i=>cond (Nat.beq i 1) 56 (cond (Nat.beq i (c+1+2)) 54 i)) (c+1+1)));rw[←mxO_snoc];rfl;intro i e hi;obtain⟨h1,rfl⟩:=lO_ hi;by_cases hic:i=c+1;subst hic;refine⟨?_,a9_ _⟩;rw[sB_new,←og_];rfl
   ·rw[sB_old hic]
    refine⟨?_,a9_ _⟩
    repeat rw[fg_ (by omega)]
    exact ey_ (dT_ (by omega))
   exact fun hs=>gG_ (by omega) fun i hi=>by rw[ey_ (dT_ hi)];rfl
   exact fun hs=>au_f
 have hge:c=n:=by omega
 obtain⟨c,rfl⟩:∃c',c=c'+1:=⟨c- 1,by omega⟩;rw[bdS.eq_2];refine ab_ (q_z 3 ?_);refine cF (ao_ ⟨(),trivial,?_⟩);rw[svS.eq_1,←hge];refine SEnt.mx (fun i=>i) _ _ _ (by simp;omega) rfl (fun i j _ _ _ _ e=>e) rfl (by simp) ?_ ?_ ?_;intro i e hi;obtain⟨h1,rfl⟩:=lO_ hi;exact⟨ey_ (dT_ (by omega)),a9_ _⟩;exact fun hs=>gG_ (by omega) fun i hi=>by rw[ey_ (dT_ hi)];rfl
 exact fun hs=>au_f;rintro _ _;show AWp _ _ _ _ (svS M n []);refine ab_ (r_z 1 ?_);refine av_ (fun A:Mx=>svS A n []) (fun A=>gjM M n n=some A) ?_ ?_
 ·refine af_ (aq_ (fun x:Nat×Mx=>svS x.2 n [(9,i64 x.1)]) (fun x=>n- x.1) (fun x=>x.1≤n∧gjM M n x.1=some x.2) (0,M) ⟨Nat.zero_le _,rfl⟩ ?_ ?_)
  exact d0_ hn.2 rfl (fun i hi=>cQ_ hi) (fun hs=>au_f);rintro⟨k,A⟩ ⟨hk,hA⟩;simp only at hk hA;have hbA:=gj_bd hb k A hk hA;have hg1:=gB_mono (s:=s) hk;obtain⟨_,hdg⟩:=fX_ k A hk hA;show AWp _ _ _ _ (svS A n [(9,i64 k)]);by_cases hlt:k< n;rotate_left;have hge:k=n:=by omega
  subst hge;refine ab_ (q_z 3 ?_);refine cF (ao_ ⟨A,hA,?_⟩);exact d0_ hn.2 rfl (fun i hi=>cQ_ hi) (fun hs=>au_f);refine ab_ (q_z 3 ?_);refine cT (ah_ (ab_ (af_ (r_z 2 ?_))));refine aQ_ (fun p:Nat=>svS A n [(9,i64 k),(10,i64 p)]) (fun p=>k≤p∧p≤n∧(∀i,k≤i→i< p→A i k=0)∧(p< n→A p k≠0)) ?_ ?_
  ·refine af_ (aq_ (fun p:Nat=>svS A n [(9,i64 k),(10,i64 p)]) (fun p=>n- p) (fun p=>k≤p∧p≤n∧∀i,k≤i→i< p→A i k=0) k ⟨Nat.le_refl _,hk,fun i h1 h2=>by omega⟩ ?_ ?_)
   exact d0_ hn.2 rfl (fun i hi=>cQ_ hi) (fun hs=>au_f);rintro p ⟨p1,p2,p3⟩;show AWp _ _ _ _ (svS A n [(9,i64 k),(10,i64 p)]);by_cases hp:p< n;rotate_left;refine ab_ (q_z 14 ?_);refine cF (ao_ ⟨p,⟨p1,p2,p3,fun h=>absurd h hp⟩,?_⟩);exact d0_ hn.2 rfl (fun i hi=>cQ_ hi) (fun hs=>au_f);have hsg:=h2_ (rq (A p k));by_cases h0:A p k=0;refine ab_ (s_r 14 ?_);refine d_7 ?_;refine al_ rfl rfl rfl (.load_l1 rfl rfl (eO_ hp _ (by omega)) TG.h rfl) rfl rfl ?_;refine d_2 ?_;refine al_ rfl rfl rfl (.load_l rfl (eu_ hp) (bW_ (j:=k) (by omega) _ (by omega)) TG.h TS.h (nle rfl)) rfl rfl ?_;refine c_s (hsg) ?_;refine al_ rfl rfl rfl (.bin rfl rfl (vT aS_ (decide_eq_true (sgZ_zero.2 h0)))) rfl rfl ?_;refine a_z ?_;refine cT (ah_ (af_ (r_m 3 ?_)));refine a_z ?_;refine⟨p+1,by omega,⟨by omega,by omega,fun i h1 h2=>?_⟩,?_⟩;by_cases e:i=p;rw[e];exact h0;exact p3 i h1 (by omega);exact d0_ hn.2 rfl (fun i hi=>cQ_ hi) (fun hs=>au_f);refine ab_ (s_r 14 ?_);refine d_7 ?_;refine al_ rfl rfl rfl (.load_l1 rfl rfl (eO_ hp _ (by omega)) TG.h rfl) rfl rfl ?_;refine d_2 ?_;refine al_ rfl rfl rfl (.load_l rfl (eu_ hp) (bW_ (j:=k) (by omega) _ (by omega)) TG.h TS.h (nle rfl)) rfl rfl ?_;refine c_s (hsg) ?_;refine al_ rfl rfl rfl (.bin rfl rfl (vF aS_ (decide_eq_false (fun e=>h0 (sgZ_zero.1 e))))) rfl rfl ?_;refine a_z ?_;refine cF (ao_ ⟨p,⟨p1,p2,p3,fun _=>h0⟩,?_⟩);exact d0_ hn.2 rfl (fun i hi=>cQ_ hi) (fun hs=>au_f)
  rintro p ⟨p1,p2,p3,p4⟩;show AWp _ _ _ _ (svS A n [(9,i64 k),(10,i64 p)]);by_cases hpn:p=n;have hnone:gjM M n n=none:=gj_mono (k:=k+1) (by rw[gjM,hA,Option.bind_some,pvt_no fun i h1 h2=>p3 i h1 (by omega)];rfl) (by omega);refine ab_ (q_z 3 ?_);refine cT (r_z 2 ?_);exact ag_ (h0 hnone _ _ _ rfl rfl);have hp:p< n:=by omega
  have hpk:=p4 hp;have hpv:pvt A n k=some p:=pvt_of hp p1 hpk p3;have hpv2:=hpv;refine ab_ (q_z 3 ?_);refine cF (ah_ (ab_ (r_d hmix 16 ?_)));refine a_7 ?_;refine az_ (.load_l1 rfl rfl (eO_ hlt _ (by omega)) TG.h rfl) rfl rfl ?_;refine a_3 ?_;refine az_ (.load_l1 rfl rfl (eO_ hp _ (by omega)) TG.h rfl) rfl rfl ?_;refine a_1 ?_;refine o_1n (.store rfl rfl (eO_ hp _ (by omega)) rfl rfl rfl TS.h (nle rfl)) ?_;refine a_1 ?_;refine o_1n (.store rfl rfl (mxO_st hlt hp _ _ (by omega) (by omega)) rfl rfl rfl TS.h (nle rfl)) ?_;refine ak_ (n_k ?_);refine r_z 1 ?_;obtain⟨B,hBd⟩:∃B,B=swM A k p:=⟨_,rfl⟩;have hbB:bdM B n (gjB s k):=by rw[hBd];exact bd_sw hbA hlt hp
  have hBk:B k k≠0:=by rw[hBd];unfold swM;rw[if_pos rfl];exact hpk
  refine AWp.cutB (fun _:Unit=>svS (elM B k n) n [(9,i64 k)]) (fun _=>True) ?_ ?_
  ·refine af_ (aq_ (fun i:Nat=>svS (elM B k i) n [(9,i64 k),(11,i64 i)]) (fun i=>n- i) (fun i=>i≤n) 0 (Nat.zero_le _) ?_ ?_)
   show SEnt _ (svS (elM B k 0) n [(9,i64 k),(11,i64 ((0:Nat):Int))]);rw[eU_ (B:=B) fun i j _ _=>by unfold elM;rw[if_neg (fun e=>by omega)],svS.eq_1];refine SEnt.mx (sW k p) _ (mxO (n+1) (sW k p) n) _ (by simp;omega) rfl (fun i j h1 _ h2 _ e=>sW_inj k p i j h1 h2 e) ?_ (by simp) ?_ ?_ ?_;rw[←mxO_swap hlt hp (0+((p:Nat):Int).toNat) (0+((k:Nat):Int).toNat) (by omega) (by omega)];rfl
   ·intro i e hi
    obtain⟨h1,rfl⟩:=lO_ hi;refine⟨?_,a9_ _⟩;rw[jx_]
    repeat rw[fg_ (by omega)]
    rw[cQ_ (by split;omega;split <;> omega)];unfold mrow;congr 5;rw[hBd];unfold swM;funext j;split;rfl;split <;> rfl
   exact fun hs=>gG_ (by omega) fun i hi=>by rw[ey_ (dT_ hi)];rfl
   exact fun hs=>au_f;intro i hi;obtain⟨E,hE⟩:∃E,E=elM B k i:=⟨_,rfl⟩;have hbE:bdM E n (4* gjB s k+1):=by rw[hE];exact bd_el hbB hlt
   have hEk:∀j,E k j=B k j:=fun j=>by rw[hE];unfold elM;rw[if_neg (fun e=>e.2.1 rfl)]
   have hEi:∀j,E i j=B i j:=fun j=>by rw[hE];unfold elM;rw[if_neg (fun e=>by omega)]
   show AWp _ _ _ _ (svS (elM B k i) n [(9,i64 k),(11,i64 i)]);rw[←hE];by_cases hin:i< n;rotate_left;have hge:i=n:=by omega
   subst hge;refine ab_ (q_z 3 ?_);refine cF (ao_ ⟨(),trivial,?_⟩);show SEnt _ (svS (elM B k i) i [(9,i64 k)]);rw[←hE];exact d0_ hn.2 rfl (fun i hi=>cQ_ hi) (fun hs=>au_f);refine ab_ (q_z 3 ?_);refine cT (ah_ (ab_ (af_ ?_)));by_cases hik:i=k;refine ab_ (q_z 14 ?_);refine cT (ao_ (r_m 3 ?_));refine a_z ?_;refine⟨i+1,by omega,by omega,?_⟩;show SEnt _ (svS (elM B k (i+1)) n [(9,i64 k),(11,i64 ((i+1:Nat):Int))])
   rw[eU_ (B:=E) fun i' j _ _=>by
    rw[hE];unfold elM;by_cases e:i'< i∧i'≠k∧k≤j;rw[if_pos e,if_pos ⟨by omega,e.2.1,e.2.2⟩];rw[if_neg e,if_neg (fun e'=>e ⟨by omega,e'.2.1,e'.2.2⟩)]]
   exact d0_ hn.2 rfl (fun i hi=>cQ_ hi) (fun hs=>au_f);have hsg:=h2_ (rq (E i k));by_cases h0:E i k=0;refine ab_ (s_r 14 ?_);refine d_7 ?_;refine al_ rfl rfl rfl (.load_l1 rfl rfl (eO_ hin _ (by omega)) TG.h rfl) rfl rfl ?_;refine d_2 ?_;refine al_ rfl rfl rfl (.load_l rfl (eu_ hin) (bW_ (j:=k) (by omega) _ (by omega)) TG.h TS.h (nle rfl)) rfl rfl ?_;refine c_s (hsg) ?_;refine al_ rfl rfl rfl (.bin rfl rfl (vT aS_ (decide_eq_true (sgZ_zero.2 h0)))) rfl rfl ?_;refine a_z ?_;refine cT (ao_ (r_m 3 ?_));refine a_z ?_;refine⟨i+1,by omega,by omega,?_⟩;show SEnt _ (svS (elM B k (i+1)) n [(9,i64 k),(11,i64 ((i+1:Nat):Int))])
   rw[eU_ (B:=E) fun i' j _ _=>by
    have h0':=h0;rw[hEi] at h0';rw[hE];unfold elM;by_cases e:i'< i∧i'≠k∧k≤j;rw[if_pos e,if_pos ⟨by omega,e.2.1,e.2.2⟩];by_cases e2:i'=i;subst e2;rw[if_neg e];by_cases e3:k≤j;rw[if_pos ⟨by omega,hik,e3⟩,h0'];grind;rw[if_neg (fun e'=>e3 e'.2.2)];rw[if_neg e,if_neg (fun e'=>e ⟨by omega,e'.2.1,e'.2.2⟩)]]
   exact d0_ hn.2 rfl (fun i hi=>cQ_ hi) (fun hs=>au_f);have b1:=hbE i k hin (by omega);have b2:=hbE k k hlt (by omega);have hg2:4* gjB s k+1≤274877906944:=by omega
   have hdv:=rC_ (rq (E i k)) (rq (E k k)) (bO_ _) (bO_ _) (by show E k k≠0;rw[hEk];exact hBk) (by show qs (E i k)+qs (E k k)≤_;omega);refine ab_ (s_r 14 ?_);refine d_7 ?_;refine al_ rfl rfl rfl (.load_l1 rfl rfl (eO_ hin _ (by omega)) TG.h rfl) rfl rfl ?_;refine d_2 ?_;refine al_ rfl rfl rfl (.load_l rfl (eu_ hin) (bW_ (j:=k) (by omega) _ (by omega)) TG.h TS.h (nle rfl)) rfl rfl ?_;refine c_s (hsg) ?_;refine al_ rfl rfl rfl (.bin rfl rfl (vF aS_ (decide_eq_false (fun e=>h0 (sgZ_zero.1 e))))) rfl rfl ?_;refine a_z ?_;refine cF (ah_ (ab_ (r_d hmix 17 ?_)));refine a_3 ?_;refine az_ (.load_l1 rfl rfl (eO_ hin _ (by omega)) TG.h rfl) rfl rfl ?_;refine a_2 ?_;refine o_0 (.load_l rfl (eu_ hin) (bW_ (j:=k) (by omega) _ (by omega)) TG.h TS.h (nle rfl)) ?_;refine a_3 ?_;refine az_ (.load_l1 rfl rfl (eO_ hlt _ (by omega)) TG.h rfl) rfl rfl ?_;refine a_2 ?_;refine o_0 (.load_l rfl (eu_ hlt) (bW_ (j:=k) (by omega) _ (by omega)) TG.h TS.h (nle rfl)) ?_;refine c_s (hdv) ?_;refine a_2 ?_;refine ak_ ⟨gQ_ (fps0:=[([],[]),([],[]),([],[]),([],[]),([],[]),([],[]),([],[]),([],[]),([],[]),([],[]),([],[]),([],[]),([],[]),([],[]),([],[]),([72],[]),([72],[72])]) (by kernel_rfl) (lessF.zz (lessF.zz (lessF.zz (lessF.rd (by omega) (lessF.zz (lessF.zz (lessF.rd (by omega) (lessF.zz (lessF.zz (lessF.zz (lessF.rd (by omega) (lessF.zz (lessF.zz (lessF.rd (by omega) (lessF.zz (lessF.al rfl (show 40≤72 by decide) (lessF.st rfl (show 40≤72 by decide) lessF.nil))))))))))))))))),?_⟩;refine r_z 2 ?_
   obtain⟨f,hf⟩:∃f,f=E i k/ E k k:=⟨_,rfl⟩
   have bf:qs f≤2* (4* gjB s k+1):=by
    have:=eM_ (E i k) (E k k);rw[hf];omega
   rw[show(rq (E i k)).1/ (rq (E k k)).1=f from hf.symm];obtain⟨G,hG⟩:∃G:Nat→Mx,G=fun j i' j'=>if i'=i∧k≤j'∧j'< j then E i j'- f* E k j' else E i' j':=⟨_,rfl⟩
   refine AWp.cutB (fun _:Unit=>svS (elM B k (i+1)) n [(9,i64 k),(11,i64 i)]) (fun _=>True) ?_ ?_
   ·refine af_ (aq_ (fun j:Nat=>svS (G j) n [(9,i64 k),(11,i64 i),(12,.aptr [rC (rq f)] 0 0),(13,i64 j)]) (fun j=>n+1- j) (fun j=>k≤j∧j≤n+1) k ⟨Nat.le_refl _,by omega⟩ ?_ ?_)
    show SEnt _ (svS (G k) n [(9,i64 k),(11,i64 i),(12,.aptr [rC (rq f)] 0 0),(13,i64 k)]);rw[eU_ (B:=E) fun i' j _ _=>by rw[hG];simp only;rw[if_neg (fun e=>by omega)]];refine d0_ hn.2 rfl (fun i hi=>?_) (fun hs=>?_)
    ·repeat rw[fg_ (by omega)]
     exact cQ_ hi
    exact an_ rfl (Cv.sl rfl rfl rfl) (an_ rfl (ai_ hs (ad_ _)) (an_ rfl (ai_ hs (ad_ _)) (an_ rfl (ai_ hs (ad_ _)) (an_ rfl (Cv.boxp hs rfl (dead_mx (by simp;omega) (by omega)) rfl (bL_ _)) (an_ rfl (ai_ hs (ad_ _)) aD_)))));rintro j ⟨j1,j2⟩;show AWp _ _ _ _ (svS (G j) n [(9,i64 k),(11,i64 i),(12,.aptr [rC (rq f)] 0 0),(13,i64 j)]);by_cases hj:j≤n;rotate_left;have hge:j=n+1:=by omega
    subst hge;refine ab_ (q_z 3 ?_);refine cF (ao_ ⟨(),trivial,?_⟩);show SEnt _ (svS (elM B k (i+1)) n [(9,i64 k),(11,i64 i)])
    rw[eU_ (B:=G (n+1)) fun i' j' h1 h2=>by
     rw[hG,hE];simp only;unfold elM;by_cases e:i'=i;subst e;by_cases e3:k≤j';rw[if_pos ⟨by omega,hik,e3⟩,if_pos ⟨rfl,e3,by omega⟩,if_neg (fun e=>by omega),if_neg (fun e=>e.2.1 rfl),hf,hEi,hEk];rw[if_neg (fun e'=>e3 e'.2.2),if_neg (fun e'=>e3 e'.2.1),if_neg (fun e'=>e3 e'.2.2)];rw[if_neg (fun e':i'=i∧k≤j'∧j'< n+1=>e e'.1)];by_cases e2:i'< i∧i'≠k∧k≤j';rw[if_pos e2,if_pos ⟨by omega,e2.2.1,e2.2.2⟩];rw[if_neg e2,if_neg (fun e'=>e2 ⟨by omega,e'.2.1,e'.2.2⟩)]]
    exact d0_ hn.2 rfl (fun i hi=>cQ_ hi) (fun hs=>au_f);have g1:G j i j=E i j:=by rw[hG];simp only;rw[if_neg (fun e=>by omega)]
    have g2:G j k j=E k j:=by rw[hG];simp only;rw[if_neg (fun e=>by omega)]
    have c1:=hbE i j hin hj;have c2:=hbE k j hlt hj;have hqm:=bH_ f (E k j);have hmu:=fY_ (rq f) (rq (G j k j)) (bO_ _) (bO_ _) (by show qs f+qs (G j k j)≤_;rw[g2];omega);have hsb:=fs_rSub (rq (G j i j)) (rq (f* G j k j)) (bO_ _) (bO_ _) (by show qs (G j i j)+qs (f* G j k j)≤_;rw[g1,g2];omega);refine ab_ (q_z 3 ?_);refine cT (ah_ (ab_ (af_ (r_d hmix 24 ?_))));refine a_3 ?_;refine az_ (.load_l1 rfl rfl (eO_ hin _ (by omega)) TG.h rfl) rfl rfl ?_;refine a_4 ?_;refine az_ (.load_l1 rfl rfl (eO_ hin _ (by omega)) TG.h rfl) rfl rfl ?_;refine a_2 ?_;refine o_0 (.load_l rfl (eu_ hin) (bW_ hj _ (by omega)) TG.h TS.h (nle rfl)) ?_;refine a_4 ?_;refine az_ (.load_l1 rfl rfl (eO_ hlt _ (by omega)) TG.h rfl) rfl rfl ?_;refine a_2 ?_;refine o_0 (.load_l rfl (eu_ hlt) (bW_ hj _ (by omega)) TG.h TS.h (nle rfl)) ?_;refine c_s (hmu) ?_;refine c_s (hsb) ?_;refine a_1 ?_;refine o_1n (.store rfl (eu_ hin) (bW_ hj _ (by omega)) rfl rfl rfl TS.h (nle rfl)) ?_;refine ak_ (n_k ?_);refine r_m 3 ?_;refine a_z ?_;refine⟨j+1,by omega,⟨by omega,by omega⟩,?_⟩;refine d0_ hn.2 rfl (fun i' hi'=>?_) (fun hs=>?_);by_cases e:i'=i;subst e;rw[bk_,aL_];refine congrArg some ?_;refine congrArg (ABlk.mk _ _) ?_
    exact mrow_put (M:=G j) (v:=G j i' j- f* G j k j) hj (by rw[g1,g2,hG];simp only;rw[if_pos ⟨trivial,j1,by omega⟩]) (fun j' h1 h2=>by
     rw[hG];simp only;by_cases e:k≤j'∧j'< j;rw[if_pos (show True∧k≤j'∧j'< j+1 from⟨trivial,e.1,by omega⟩),if_pos (show True∧k≤j'∧j'< j from⟨trivial,e.1,e.2⟩)];rw[if_neg (fun e':True∧k≤j'∧j'< j+1=>e ⟨e'.2.1,by omega⟩),if_neg (fun e':True∧k≤j'∧j'< j=>e e'.2)]) _ (by omega)
    rw[fg_ (by omega),cQ_ hi'];unfold mrow;rw[gK_ fun j' _=>show G j i' j'=G (j+1) i' j' by rw[hG];simp only;rw[if_neg (fun e'=>e e'.1),if_neg (fun e'=>e e'.1)]];exact an_ rfl (Cv.sl rfl rfl rfl) (an_ rfl (ai_ hs (ad_ _)) (an_ rfl (ai_ hs (ad_ _)) (an_ rfl (ai_ hs (ad_ _)) (an_ rfl (ai_ hs (aM_ (bL_ _))) (an_ rfl (ai_ hs (ad_ _)) aD_)))))
   rintro _ _;show AWp _ _ _ _ (svS (elM B k (i+1)) n [(9,i64 k),(11,i64 i)]);refine r_m 3 ?_;refine a_z ?_;refine⟨i+1,by omega,by omega,?_⟩;exact d0_ hn.2 rfl (fun i hi=>cQ_ hi) (fun hs=>au_f)
  rintro _ _;show AWp _ _ _ _ (svS (elM B k n) n [(9,i64 k)]);refine r_m 3 ?_;refine a_z ?_;refine⟨(k+1,elM B k n),by simp only;omega,⟨by simp only;omega,by simp only;rw[gjM,hA,Option.bind_some,hpv,hBd];rfl⟩,?_⟩;exact d0_ hn.2 rfl (fun i hi=>cQ_ hi) (fun hs=>au_f)
 rintro A hA;have hbA:=gj_bd hb n A (Nat.le_refl _) hA;obtain⟨_,hdg⟩:=fX_ n A (Nat.le_refl _) hA;refine r_z 1 ?_;obtain⟨F,hF⟩:∃F:List (List AV),F=(mxW A n n).map fun e=>[.arr e]:=⟨_,rfl⟩
 have hFg:∀i,i< n→∀e,e=i→F[e]?=some [.arr (mrow A n i)]:=fun i hi e he=>by
  rw[he,hF,List.getElem?_map,dT_ hi];rfl
 have hFl:F.length=n:=by rw[hF];simp
 have cF:Closed (.arr F):=ax_ fun e he c hc=>by
  rw[hF] at he;obtain⟨x,hx,rfl⟩:=List.mem_map.1 he;rw[List.mem_singleton.1 hc];obtain⟨i,_,rfl⟩:=List.mem_map.1 hx;exact aR_ _
 refine AWp.ent (st':=⟨[(6,i64 n),(7,.arr F),(14,.emp)],[],1,163⟩) ?_ ?_;rw[hF];refine la_ [] rfl rfl rfl ShrL.nil (fun hs=>an_ rfl (ai_ hs (ad_ _)) (an_ rfl (Cv.mxShut hs (fun _=>rfl) (by simp) (fun e he=>?_) (fun e he=>?_)) (an_ rfl (ai_ hs bq_) aD_))) (fun hs=>au_);obtain⟨i,_,rfl⟩:=List.mem_map.1 he;show(mrow A n i).length=n+1;simp;obtain⟨i,_,rfl⟩:=List.mem_map.1 he;exact a9_ _;refine ab_ (r_z 1 ?_);refine av_ (xsS F (fun i=>A i n/ A i i) n) (fun i=>i=n) ?_ ?_;refine af_ (aq_ (xsS F (fun i=>A i n/ A i i) n) (fun i=>n- i) (fun i=>i≤n) 0 (Nat.zero_le _) ?_ ?_);rw[xsS_0];exact s_e [];intro i hi;by_cases hin:i< n;have b1:=hbA i n hin (Nat.le_refl _);have b2:=hbA i i hin (by omega);have hdv:=rC_ (rq (A i n)) (rq (A i i)) (bO_ _) (bO_ _) (hdg i hin).1 (by show qs (A i n)+qs (A i i)≤_;omega);cases i with
 |zero=>
  rw[xsS_0];refine ab_ (q_z 3 ?_);refine cT (ah_ (ab_ (af_ (r_d hmix 19 ?_))));refine a_3 ?_;refine az_ (.index_a rfl rfl (by omega) (hFg 0 hin _ (by omega)) rfl te_135.h) rfl rfl ?_;refine az_ (.load_a1 rfl (hFg 0 hin _ (by omega)) TG.h rfl) rfl rfl ?_;refine a_1 ?_;refine az_ (.index_a rfl rfl (by omega) (bW_ (j:=n) (by omega) _ (by omega)) rfl te_34.h) rfl rfl ?_;refine az_ (.load_a rfl (bW_ (j:=n) (by omega) _ (by omega)) TG.h TS.h (nle rfl)) rfl rfl ?_;refine a_2 ?_;refine az_ (.index_a rfl rfl (by omega) (hFg 0 hin _ (by omega)) rfl te_135.h) rfl rfl ?_;refine az_ (.load_a1 rfl (hFg 0 hin _ (by omega)) TG.h rfl) rfl rfl ?_;refine a_1 ?_;refine az_ (.index_a rfl rfl (by omega) (bW_ (j:=0) (by omega) _ (by omega)) rfl te_34.h) rfl rfl ?_;refine az_ (.load_a rfl (bW_ (j:=0) (by omega) _ (by omega)) TG.h TS.h (nle rfl)) rfl rfl ?_;refine c_s (hdv) ?_;refine a_3 ?_;refine ak_ (n_k ?_);refine r_m 3 ?_;refine a_z ?_;refine⟨1,by omega,by omega,?_⟩;rw[xsS_s];exact s_f [(1,14)]
 |succ i=>
  rw[xsS_s];refine ab_ (q_z 3 ?_);refine cT (ah_ (ab_ (af_ (r_d hmix 19 ?_))));refine a_3 ?_;refine az_ (.index_a rfl rfl (by omega) (hFg (i+1) hin _ (by omega)) rfl te_135.h) rfl rfl ?_;refine az_ (.load_a1 rfl (hFg (i+1) hin _ (by omega)) TG.h rfl) rfl rfl ?_;refine a_1 ?_;refine az_ (.index_a rfl rfl (by omega) (bW_ (j:=n) (by omega) _ (by omega)) rfl te_34.h) rfl rfl ?_;refine az_ (.load_a rfl (bW_ (j:=n) (by omega) _ (by omega)) TG.h TS.h (nle rfl)) rfl rfl ?_;refine a_2 ?_;refine az_ (.index_a rfl rfl (by omega) (hFg (i+1) hin _ (by omega)) rfl te_135.h) rfl rfl ?_;refine az_ (.load_a1 rfl (hFg (i+1) hin _ (by omega)) TG.h rfl) rfl rfl ?_;refine a_1 ?_;refine az_ (.index_a rfl rfl (by omega) (bW_ (j:=i+1) (by omega) _ (by omega)) rfl te_34.h) rfl rfl ?_;refine az_ (.load_a rfl (bW_ (j:=i+1) (by omega) _ (by omega)) TG.h TS.h (nle rfl)) rfl rfl ?_;refine c_s (hdv) ?_;refine a_3 ?_;refine ak_ (n_k ?_);refine r_m 3 ?_;refine a_z ?_;refine⟨i+2,by omega,by omega,?_⟩;rw[xsS_s];refine s_x [(1,14)] (fun hs=>au_f) (fun hs=>?_)
  ·repeat' (first|exact au_|refine h_c ?_ ?_|exact ay_ hs (by rw[ie_ (i+1)];unfold rP;rw[List.map_append,it_];rfl) (a9_ _)|exact au_e)
 have hge:i=n:=by omega
 obtain⟨i,rfl⟩:∃i',i=i'+1:=⟨i- 1,by omega⟩;rw[xsS_s];refine ab_ (q_z 3 ?_);refine aj_ rfl (fun h=>?_) (fun h=>?_);cases h;refine ao_ ⟨i+1,hge,?_⟩;rw[xsS_s];exact s_f [(1,14)];rintro i hi;obtain⟨i,rfl⟩:∃i',i=i'+1:=⟨i- 1,by omega⟩;obtain rfl:n=i+1:=hi.symm;rw[xsS_s];refine r_z 3 ?_;exact ag_ (h1 A hA _ _ _ _ _ rfl rfl rfl)
theorem gx_(M:Mx)(n:Nat):∀a∈[AV.arr (svA M n),.arr (rE (svB M n))],Closed a:=aa_ (j1_ M n) (aa_ (aR_ _) ac_)
theorem rQ_(M:Mx)(n s:Nat)(hn:1≤n∧n≤25)(hb:bdM M n s)(hs:1≤s)(hlim:4* gjB s n+1≤274877906944)(h:gjM M n n=none):
    FS 64 [.arr (svA M n),.arr (rE (svB M n))] (.tup [.emp,bln false]):=by
 refine f5_ Tryz.func64 rfl (by kernel_rfl) rfl rfl rfl (gx_ M n) rfl (qe_ M n s hn hb hs hlim _ ?_ ?_ _ rfl);intro _ fr hp nx h4 h5;refine Fin.many ⟨_,_,rfl,h4,⟨_,_,rfl,h5,rfl⟩⟩ (nle rfl) ?_;exact ae_ (ai_ as_ bq_) (ae_ (ai_ as_ (ad_ _)) am_);intro A hA;rw[h] at hA;cases hA
theorem ot_Solve(M A:Mx)(n s:Nat)(hn:1≤n∧n≤25)(hb:bdM M n s)(hs:1≤s)(hlim:4* gjB s n+1≤274877906944)(h:gjM M n n=some A):
    OTSpec Tryz.prog 64 [.arr (svA M n),.arr (rE (svB M n))] 51 4 (rE (rP (tabP n fun i=>A i n/ A i i))) (.bool true):=by
 refine OTSpec.enter (t:=4) (t2:=5) Tryz.func64 rfl (by kernel_rfl) rfl rfl rfl (gx_ M n) (a9_ _) rfl (qe_ M n s hn hb hs hlim _ ?_ ?_ _ rfl);intro hN;rw[h] at hN;cases hN;intro A' hA' fr hp nx i cap h4 hb h5;rw[h] at hA';cases hA';exact FinOT.tmp h4 hb rfl (by simp) h5
theorem rP_:FS 64 [.arr [],.arr []] (.tup [.emp,bln true]):=by
 have cA:Closed (.arr []):=ax_ (fun e he=>by cases he);refine f_c Tryz.func64 ?_;refine r_z 2 ?_;refine r_z 3 ?_;refine r_z 1 ?_;refine ab_ (r_z 1 ?_);refine av_ (fun _:Unit=>⟨[(6,i64 0),(7,.emp)],[],1,163⟩) (fun _=>True) ?_ ?_;refine af_ (aq_ (fun _:Unit=>⟨[(6,i64 0),(7,.emp),(8,i64 0)],[],1,163⟩) (fun _=>0) (fun _=>True) () trivial ?_ ?_);exact s_e [];rintro _ _;refine ab_ (q_z 3 ?_);refine cF (ao_ ⟨(),trivial,?_⟩);exact s_e [];rintro _ _;refine ab_ (r_z 1 ?_);refine av_ (fun _:Unit=>⟨[(6,i64 0),(7,.emp)],[],1,163⟩) (fun _=>True) ?_ ?_;refine af_ (aq_ (fun _:Unit=>⟨[(6,i64 0),(7,.emp),(9,i64 0)],[],1,163⟩) (fun _=>0) (fun _=>True) () trivial ?_ ?_);exact s_e [];rintro _ _;refine ab_ (q_z 3 ?_);refine cF (ao_ ⟨(),trivial,?_⟩);exact s_e [];rintro _ _;refine r_z 1 ?_;refine ab_ (r_z 1 ?_);refine av_ (fun _:Unit=>⟨[(14,.emp)],[],1,163⟩) (fun _=>True) ?_ ?_;refine af_ (aq_ (fun _:Unit=>⟨[(6,i64 0),(14,.emp),(15,i64 0)],[],1,163⟩) (fun _=>0) (fun _=>True) () trivial ?_ ?_);exact s_e [];rintro _ _;refine ab_ (q_z 3 ?_);refine cF (ao_ ⟨(),trivial,?_⟩);exact s_e [];rintro _ _;refine r_z 3 ?_;refine ag_ (Fin.many ⟨_,_,rfl,rfl,⟨_,_,rfl,rfl,rfl⟩⟩ (nle rfl) ?_);exact ae_ (ai_ as_ bq_) (ae_ (ai_ as_ (ad_ _)) am_)
def svC(M:Mx)(n c:Nat):List (List AV):=(List.range c).map fun i=>[.arr (rE (rP (tabP n (M i))))]
@[simp] theorem svC_length (M:Mx)(n c:Nat):(svC M n c).length=c:=by simp[svC]
theorem svC_snoc(M:Mx)(n c:Nat):svC M n (c+1)=svC M n c++[[.arr (rE (rP (tabP n (M c))))]]:=by simp[svC,List.range_succ]
theorem svC_one(M:Mx)(n c:Nat):(svC M n c).all (·.all AV.one)=true:=by
 unfold svC;rw[List.all_map,List.all_eq_true];intro i _;rfl
theorem df_(M:Mx)(n c:Nat):∀e∈svC M n c,∀x∈e,Closed x:=fun e he x hx=>by
 obtain⟨i,_,rfl⟩:=List.mem_map.1 he;rw[List.mem_singleton.1 hx];exact aR_ _
theorem mD_{r:Ren}{hp hp':Nat→Option ABlk}{x y:List AV}(h:CvL r hp hp' x y):∀{xs ys:List (List AV)},CvLL r hp hp' xs ys→CvLL r hp hp' (xs++[x]) (ys++[y])
 |[],ys,h'=>by cases (h':ys=[]);exact ar_ h
 |a::xs,ys,⟨b,ys',e,h1,h2⟩=>by
  subst e;exact CvLL.cons h1 (mD_ h h2)
theorem CvLL_eqR{r:Ren}{hp hp':Nat→Option ABlk}{xs ys zs:List (List AV)}(h:CvLL r hp hp' xs ys)(e:ys=zs):CvLL r hp hp' xs zs:=e▸h
theorem fO_(n:Nat)(f:Nat→Rat):rE (rP (tabP n f))++[rC (rq (f n))]=rE (rP (tabP (n+1) f)):=by
 rw[ie_];unfold rP;rw[List.map_append,it_];rfl
end Go.Proofs.YtjkddcfoolilbaaGreatDoor
