/- Part Z29 of the proof. -/
import Derived.Test.YtjgokhkahkmpbaaGreatDoorZ28
set_option linter.all false
namespace Go.Proofs.YtjgokhkahkmpbaaGreatDoor
open Go.Abs
set_option maxRecDepth 20000
set_option maxHeartbeats 8000000
abbrev jK:=Int×Int×Nat
def nV(r:jK):Rat:=xZ r.1 r.2.1 r.2.2
def nR(l:List jK):Lc:=l.map fun r=>nuC r.1 r.2.1 r.2.2
def nL(l:List jK):Lq:=l.map nV
abbrev rL(l:Lq):Lc:=rE (l.map rq)
def okR(l:List jK):Prop:=∀r∈l,oi r.1∧oi r.2.1∧r.2.2≤255
theorem dD(l:List jK):∀e∈nR l,∀c∈e,Closed c:=by
 intro e he c hc;obtain⟨r,_,rfl⟩:=List.mem_map.1 he;exact kN _ _ _ c hc
theorem j5(l:Lq):∀e∈rL l,∀c∈e,Closed c:=mq _
def liS(l:List jK):Lq→Nat→AState
 |[],i=>⟨[(0,.arr (nR l)),(4,.emp),(5,.emp),(6,i64 i)],[],1,33⟩
 |q::Q,i=>⟨[(0,.arr (nR l)),(4,.lsl 1 0 (Q.length+1) none 3),(5,.lsl 2 0 (Q.length+1) none 4),(6,i64 i)],[(1,some ⟨42,3,pE (q::Q)⟩),(2,some ⟨49,4,rL (q::Q)⟩)],3,33⟩
theorem oe(l:List jK)(i:Nat):liS l [] i=⟨[(0,.arr (nR l)),(4,.emp),(5,.emp),(6,i64 i)],[],1,33⟩:=rfl
theorem jU(l:List jK)(q:Rat)(Q:Lq)(i:Nat):liS l (q::Q) i=⟨[(0,.arr (nR l)),(4,.lsl 1 0 (Q.length+1) none 3),(5,.lsl 2 0 (Q.length+1) none 4),(6,i64 i)],[(1,some ⟨42,3,pE (q::Q)⟩),(2,some ⟨49,4,rL (q::Q)⟩)],3,33⟩:=rfl
theorem fs_List(l:List jK)(hl:l.length≤1099511627776)(hb:okR l):FS 17 [.arr (nR l)] (.tup [.arr (pE (nL l)),.arr (rL (nL l))]):=by
 have hcr:∀q:Rat,∀e∈[rC (rq q)],∀c∈e,Closed c:=fun q=>j5 [q];refine f_n Tryz.func17 ?_ ?_;exact ac (aP (dD l)) ai;refine r_z 2 ?_;refine r_z 1 ?_;refine r_z 1 ?_;refine ae (r_z 1 ?_);refine aH (fun _:Unit=>liS l (nL l) l.length) (fun _=>True) ?_ ?_;refine ak (aC (fun i:Nat=>liS l (nL (l.take i)) i) (fun i=>l.length- i) (fun i=>i≤l.length) 0 (Nat.zero_le _) ?_ ?_);show SEnt _ (liS l [] 0);rw[oe];have:=(aP (dD l));exact s_f [];rintro i hi;have hlen:(nR l).length=l.length:=by simp[nR]
 by_cases hlt:i< l.length
 ·obtain⟨n,hn⟩:∃n,l[i]?=some n:=⟨_,List.getElem?_eq_getElem hlt⟩
  have hgt:(nR l)[((i:Nat):Int).toNat]?=some (nuC n.1 n.2.1 n.2.2):=by
   show(nR l)[i]?=_;simp[nR,hn]
  obtain⟨hn1,hn2,hn3⟩:=hb n (List.mem_of_getElem? hn);have hbo:=FH n.1 n.2.1 n.2.2 hn1 hn2 hn3;obtain⟨v,hv⟩:∃v,v=xZ n.1 n.2.1 n.2.2:=⟨_,rfl⟩;rw[←hv] at hbo;have htk:nL (l.take (i+1))=nL (l.take i)++[v]:=by rw[dx hn];simp[nL,nV,hv]
  have hQl:(nL (l.take i)).length=i:=by simp[nL];omega
  cases hQ:nL (l.take i) with
  |nil=>
   simp only[oe];refine ae (r_z 4 ?_);refine au rfl (fun h=>?_) (fun h=>?_);rotate_left;exact absurd h (by simp[nR];omega);refine an (ae (ak (s_r 12 ?_)));refine a_2 ?_;refine i_x hgt ?_;refine l_x hgt ?_;refine c_s (hbo) ?_;refine a_z ?_;refine r_d hmix 10 ?_;refine a_8 ?_;refine a_2 ?_;refine aq (n_k ?_);refine r_m 3 ?_;refine a_z ?_;refine⟨i+1,by omega,hlt,?_⟩;simp only[htk,hQ,List.nil_append,jU];refine s_x [(1,4),(2,5)] (fun hs=>e_44) (fun hs=>?_)
   ·repeat' (first|exact aD|refine h_c ?_ ?_|exact b9 hs (aF [v])|exact b9 hs (j5 [v])|exact bC|refine aw ?_|exact ay|refine af ?_ ?_|exact ah hs (aP (dD l))|exact aW)
  |cons q Q=>
   rw[hQ] at hQl;simp at hQl;simp only[jU];refine ae (r_z 4 ?_);refine au rfl (fun h=>?_) (fun h=>?_);rotate_left;exact absurd h (by simp[nR];omega);refine an (ae (ak (s_r 12 ?_)));refine a_2 ?_;refine i_x hgt ?_;refine l_x hgt ?_;refine c_s (hbo) ?_;refine a_z ?_;refine r_d hmix 10 ?_;refine a_8 ?_;refine a_2 ?_;refine aq (n_k ?_);refine r_m 3 ?_;refine a_z ?_;refine⟨i+1,by omega,hlt,?_⟩;simp only[htk,hQ,List.cons_append,jU];have e:pE (q::Q)++[qC v]=pE (q::(Q++[v])):=by simp[pE]
   have e2:rL (q::Q)++[rC (rq v)]=rL (q::(Q++[v])):=by simp[rE]
   refine s_x [(1,4),(2,5)] (fun hs=>e_44) (fun hs=>?_) e_5
   ·repeat' (first|exact aD|refine h_c ?_ ?_|exact aI hs e (aF _)|exact aI hs e2 (j5 _)|exact bC|refine aw ?_|exact ay|refine af ?_ ?_|exact ah hs (aP (dD l))|exact aW)
 have hge:i=l.length:=by omega
 subst hge;simp only[List.take_length];cases hQ:nL l with
 |nil=>
  simp only[oe];refine ae (r_z 4 ?_);refine au rfl (fun h=>?_) (fun h=>?_);exact absurd h (by simp[nR]);refine aB ⟨(),trivial,?_⟩;simp only[hQ,oe];have:=(aP (dD l));exact s_f []
 |cons q Q=>
  simp only[jU];refine ae (r_z 4 ?_);refine au rfl (fun h=>?_) (fun h=>?_);exact absurd h (by simp[nR]);refine aB ⟨(),trivial,?_⟩;simp only[hQ,jU];have:=(aP (dD l));exact s_f []
 rintro _ _;cases hQ:nL l with
 |nil=>
  simp only[oe];refine r_z 4 ?_;refine am (Fin.many ⟨_,_,rfl,rfl,⟨_,_,rfl,rfl,rfl⟩⟩ (nle rfl) ?_);exact af (Cv.emp _) (af (Cv.emp _) ay)
 |cons q Q=>
  simp only[jU];refine r_z 4 ?_;refine am (Fin.many ⟨_,_,rfl,rfl,⟨_,_,rfl,rfl,rfl⟩⟩ (nle rfl) ?_);exact af (Cv.sealE aE rfl (fun _ _ h=>by cases h) rfl (by simp) (aF _)) (af (Cv.sealE aE rfl (fun _ _ h=>by cases h) rfl (by simp) (j5 _)) ay)
theorem yJ(l:List jK)(hl:l.length≤1099511627776)(hb:okR l):FS 8 [.arr (nR l)] (.tup [.arr (pE (nL l)),.arr (rL (nL l))]):=by
 refine f_n Tryz.func8 ?_ ?_;exact ac (aP (dD l)) ai;refine r_z 2 ?_;refine r_c 7 (fs_List l hl hb) ?_;refine a_z ?_;refine r_z 4 ?_;refine am (Fin.many ⟨_,_,rfl,rfl,⟨_,_,rfl,rfl,rfl⟩⟩ (nle rfl) ?_);exact af (ah aE (aP (aF _))) (af (ah aE (aP (j5 _))) ay)
def vR(x:List RQ):Lq:=x.map (·.1)
def D8(x:List RQ):List RQ:=x.take (av (vR x)).length
theorem vR_trim(x:List RQ):vR (D8 x)=av (vR x):=by
 unfold D8;rw[vR,List.map_take];exact(uw (vR x)).symm
@[simp] theorem CQ (x:List RQ):(vR x).length=x.length:=by simp[vR]

@[simp] theorem trimR_length (x:List RQ):(D8 x).length=(av (vR x)).length:=by rw[←vR_trim,CQ]










def roE(p:Lq)(a:Int)(n:Nat):Lc:=(List.range n).map fun(j:Nat)=>[.arr (pE p),i64 (a+(j:Int))]
@[simp] theorem roE_length (p:Lq)(a:Int)(n:Nat):(roE p a n).length=n:=by simp[roE]
theorem BU{p:Lq}{a:Int}{n j:Nat}(h:j< n):(roE p a n)[((j:Nat):Int).toNat]?=some [.arr (pE p),i64 (a+(j:Int))]:=by
 show(roE p a n)[j]?=_;unfold roE;rw[List.getElem?_map,List.getElem?_range h];rfl
theorem roE_one(p:Lq)(a:Int)(n:Nat):(roE p a n).all (·.all AV.one)=true:=by
 simp only[roE,List.all_map,List.all_eq_true];intro q _;rfl
theorem fQ(p:Lq)(a:Int)(n:Nat):∀e∈roE p a n,∀c∈e,Closed c:=fun e he c hc=>by
 obtain⟨j,_,rfl⟩:=List.mem_map.1 he;exact ac (ao p) (ac (ag _) ai) c hc
theorem EA(p:Lq)(a:Int)(n:Nat):roE p a (n+1)=roE p a n++[[.arr (pE p),i64 (a+(n:Int))]]:=by
 unfold roE;rw[List.range_succ,List.map_append];rfl
def rtS(t n:Nat)(fr:Fr)(p:Lq)(a:Int):Nat→AState
 |0=>⟨(t,.emp)::fr,[],1,n⟩
 |m+1=>⟨(t,.lsl 1 0 (m+1) none 2)::fr,[(1,some ⟨207,2,roE p a (m+1)⟩)],2,n⟩
theorem FE(f:Nat)(p:Lq)(c:Cnt)(s:Sp)(m:Nat)(hc:fH f p=some c)(hf:f≤1000000)(h1:n8 c s.1)(h2:qy c s.2)(hs:smS s)(hv:cZ s.1 s.2≤0)(hl:kF p=0)(hp:p.length≤1099511627776)(hcl:c.p.length≤1000)(hm:eW c s.2=cr c s.1+m):
    FS 215 [.arr (pE p),.agg (spC s.1 s.2)] (.tup [.arr (roE c.p (cr c s.1) m),i64 0]):=by
 have hb1:=nC (x:=s.2) h2.1;have hb2:=DQ (x:=s.1) h1.1.1;have hla:=yw p hp;rw[hl] at hla;obtain⟨a,ha⟩:∃a,a=cr c s.1:=⟨_,rfl⟩;have hbe:=jW c s.1 h1;have hup:=kJ c s.2 h2;rw[hm] at hup;rw[←ha] at hbe hup hm hb2⊢;have hck:=fY c;refine f_c Tryz.func215 ?_;refine r_z 3 ?_;refine ae (r_c 3 (gQ s.1 s.2 hs.1 hs.2) ?_);refine a_z ?_;refine au rfl (fun h3=>?_) (fun h3=>?_);exact absurd h3 (by simp[hv]);refine an (ae (r_c 3 (hla) ?_));refine a_z ?_;refine r_z 2 ?_;refine au rfl (fun h4=>?_) (fun h4=>?_);exact absurd h4 (by decide);refine an (r_c 3 (mc f p c hc hf) ?_);refine a_z ?_;refine r_z 1 ?_;refine ae (r_c 5 (hbe) ?_);refine a_z ?_;refine aH (fun _:Unit=>rtS 8 43 [] c.p a m) (fun _=>True) ?_ ?_;refine ak (aC (fun j:Nat=>rtS 8 43 [(3,bS s),(7,kA c),(9,i64 (a+(j:Int)))] c.p a j) (fun j=>m- j) (fun j=>j≤m) 0 (Nat.zero_le _) ?_ ?_);simp only[rtS.eq_1];rw[show a+((0:Nat):Int)=a by omega];exact s_e [];rintro j hj;by_cases hlt:j< m
 ·have hcl':=yI c.p (by omega)
  cases j with
  |zero=>
   simp only[rtS.eq_1];refine ae (r_c 6 (hup) ?_);refine d_z ?_;refine cT (an (ae (ak (r_m 11 ?_))));refine c_s (hcl') ?_;refine a_z ?_;refine r_m 3 ?_;refine a_z ?_;refine⟨1,by omega,hlt,?_⟩;simp only[rtS.eq_2];rw[show a+(((0+1:Nat)):Int)=a+((0:Nat):Int)+1 by omega];have:=fQ c.p a 1;exact s_f [(1,8)]
  |succ j=>
   have hone:=roE_one c.p a (j+1);simp only[rtS.eq_2];refine ae (r_c 6 (hup) ?_);refine d_z ?_;refine cT (an (ae (ak (r_m 11 ?_))));refine c_s (hcl') ?_;refine o_0 (.move rfl) ?_;refine o_0 (.build TZ.h tp_207.h rfl rfl) ?_;refine o_1 (.buildSlice te_204.h TZ.h rfl (by decide) rfl rfl rfl (by first|(simp;done)|(simp[cK,ofV];done)|rfl)) ?_;refine o_2 (.append_l rfl rfl rfl te_204.h rfl rfl rfl rfl rfl d_o (by first|exact dh _|exact df _|exact cL _|exact di _|exact de _|assumption|rfl|simp) (by first|rfl|exact dh _|exact df _|exact cL _|exact di _|exact de _|simp) rfl (.lsl rfl (nle rfl)) TZ.h rfl TB.h d_o (by first|(simp[maxLen];done)|(simp[maxLen];omega))) ?_;refine o_0 (.assign rfl) ?_;refine aq ?_;refine r_m 3 ?_;refine a_z ?_;refine⟨j+1+1,by omega,hlt,?_⟩;simp only[rtS.eq_2];rw[show a+((j+1+1:Nat):Int)=a+((j+1:Nat):Int)+1 by omega];refine s_x [(1,8)] (fun hs=>dj) (fun hs=>?_)
   ·repeat' (first|exact aD|refine h_c ?_ ?_|exact aI hs (EA c.p a (j+1)).symm (fQ _ _ _)|exact bC)
 have hge:j=m:=by omega
 subst hge;cases j with
 |zero=>
  simp only[rtS.eq_1];refine ae (r_c 6 (hup) ?_);refine d_z ?_;refine cF (aB ⟨(),trivial,?_⟩);simp only[rtS.eq_1];exact s_e []
 |succ j=>
  simp only[rtS.eq_2];refine ae (r_c 6 (hup) ?_);refine d_z ?_;refine cF (aB ⟨(),trivial,?_⟩);simp only[rtS.eq_2];refine s_x [(1,8)] (fun hs=>dj) (fun hs=>?_)
  ·repeat' (first|exact aD|refine h_c ?_ ?_|exact b9 hs (fQ _ _ _)|exact bC)
 rintro _ _;cases m with
 |zero=>
  simp only[rtS.eq_1];refine r_z 3 ?_;refine am (Fin.many ⟨_,_,rfl,rfl,⟨_,_,rfl,rfl,rfl⟩⟩ (nle rfl) ?_);exact af (Cv.emp _) (af (ah aE (ag _)) ay)
 |succ m=>
  simp only[rtS.eq_2];refine r_z 3 ?_;refine am (Fin.many ⟨_,_,rfl,rfl,⟨_,_,rfl,rfl,rfl⟩⟩ (nle rfl) ?_);exact af (Cv.sealE aE rfl (fun _ _ h=>by cases h) rfl (by simp) (fQ _ _ _)) (af (ah aE (ag _)) ay)
theorem Dw(f g:Nat)(p:Lq)(i k:Int)(c:Cnt)(q:Lq)(s:Sp)(h:mV f p=some c)(hf:f≤1000000)(hi:0≤i)(hall:i< DU c)(hd:ct q≤40)(hq:q.length≤1099511627776)(hs:rI f g c i q k=some s):FS 201 [roA p i,.arr (pE q),i64 k] (.tup [.agg (spC s.1 s.2),i64 0]):=by
 have hp:=yp f p i c h hf hi;have hdg:=bZ q hq;refine f_n Tryz.func201 ?_ ?_;exact ac (nu p i) (ac (ao q) (ac (ag _) ai));refine r_z 3 ?_;refine r_c 7 (hp) ?_;refine a_z ?_;refine aZ (fun _:Unit=>⟨[(1,.arr (pE q)),(2,i64 k),(6,.lptr 1 0 0),(8,plA c i)],[(1,some ⟨44,6,[zC++zC]⟩)],2,28⟩) (fun _=>True) ?_ ?_;refine ak (r_z 3 ?_);refine au rfl (fun h=>?_) (fun h=>?_);exact absurd h (by simp[hall]);refine r_c 4 (hdg) ?_;refine d_z ?_;refine cF (an ⟨(),trivial,?_⟩);have:=cO c i;have:=cw bJ bJ;exact s_f [(1,6)];rintro _ _;refine r_c 6 (Fl f g c i q k s hs hf) ?_;refine a_z ?_;refine am (Fin.many ⟨_,_,rfl,⟨_,_,_,_,_,rfl,rfl,rfl,.inl ⟨TG.h,_,TS.h,nle rfl,rfl⟩⟩,⟨_,_,rfl,rfl,rfl⟩⟩ (nle rfl) ?_);exact af (ah aE (bt _ _)) (af (ah aE (ag _)) ay)
theorem yF(f g:Nat)(p:Lq)(i:Int)(c:Cnt)(q:Lq)(r:Int)(h:mV f p=some c)(hf:f≤1000000)(hi:0≤i)(hall:i< DU c)(hd:ct q≤40)(hq:q.length≤1099511627776)(hs:qe f g c i q=some r):FS 162 [roA p i,.arr (pE q)] (.tup [i64 r,i64 0]):=by
 have hp:=yp f p i c h hf hi;have hdg:=bZ q hq;refine f_n Tryz.func162 ?_ ?_;exact ac (nu p i) (ac (ao q) ai);refine r_z 3 ?_;refine r_c 7 (hp) ?_;refine a_z ?_;refine aZ (fun _:Unit=>⟨[(1,.arr (pE q)),(6,plA c i)],[],1,23⟩) (fun _=>True) ?_ ?_;refine ak (r_z 3 ?_);refine au rfl (fun h=>?_) (fun h=>?_);exact absurd h (by simp[hall]);refine r_c 4 (hdg) ?_;refine d_z ?_;refine cF (an ⟨(),trivial,?_⟩);have:=cO c i;exact s_f [];rintro _ _;refine r_c 5 (Cm f g c i q r hs hf) ?_;refine a_z ?_;refine am (Fin.many ⟨_,_,rfl,rfl,⟨_,_,rfl,rfl,rfl⟩⟩ (nle rfl) ?_);exact af (ah aE (ag _)) (af (ah aE (ag _)) ay)
structure Turn (f:Nat)(g:Lq)(s:Sp)(c:Cnt)(m:Nat):Prop where
 cn:fH f (eJ g)=some c
 hf:f≤1000000
 be:n8 c s.1
 up:qy c s.2
 sm:smS s
 le:cZ s.1 s.2≤0
 la:kF (eJ g)=0
 gs:smL g
 gl:g.length≤1000
 dl:(eJ g).length≤1000
 cl:c.p.length≤1000
 n:eW c s.2=cr c s.1+m
theorem yn{f:Nat}{g:Lq}{s:Sp}{c:Cnt}{m:Nat}(t:Turn f g s c m):FS 161 [.arr (pE g),.agg (spC s.1 s.2)] (.arr (roE c.p (cr c s.1) m)):=by
 have hd:=pI g t.gs (by have:=t.gl;omega);have hr:=FE f (eJ g) c s m t.cn t.hf t.be t.up t.sm t.le t.la (by have:=t.dl;omega) t.cl t.n;have hcl:=fQ c.p (cr c s.1) m;refine f_c Tryz.func161 ?_;refine r_z 2 ?_;refine ae (r_d hmix 9 ?_);refine c_s (hd) ?_;refine c_s (hr) ?_;refine a_5 ?_;refine aq (n_k ?_);refine r_z 2 ?_;exact am (t_e (aP hcl))
theorem fs_aNeg(a b:Rat):FS 256 [.agg (spC a b)] (.agg (spC (-b) (-a))):=by
 refine f_c Tryz.func256 ?_;refine r_z 2 ?_;refine ae (r_d hmix 8 ?_);refine c_s (jf b) ?_;refine c_s (jf a) ?_;refine a_2 ?_;refine aq (n_k ?_);exact am (c_e (bt _ _))
def abL(v:Sp):Rat:=if 0≤v.1 then v.1 else if v.2≤0 then -v.2 else 0
def abH(v:Sp):Rat:=if 0≤v.1 then v.2 else if v.2≤0 then -v.1 else mY [-v.1,v.2]
theorem sg_geA{q:Rat}:(0:Int)≤sgZ q.num↔0≤q:=by
 have h:=kr (q:=q);constructor;intro g;have:¬q< 0:=fun e=>by have:=h.2 e;omega
 grind;intro g;have:¬sgZ q.num< 0:=fun e=>by have:=h.1 e;grind
 omega
theorem sg_leA{q:Rat}:sgZ q.num≤(0:Int)↔q≤0:=by
 have h:=r9 (q:=q);constructor;intro g;have:¬0< q:=fun e=>by have:=h.2 e;omega
 grind;intro g;have:¬0< sgZ q.num:=fun e=>by have:=h.1 e;grind
 omega
theorem fs_aAbs(v:Sp)(h1:sm v.1)(h2:sm v.2):FS 233 [.agg (spC v.1 v.2)] (.agg (spC (abL v) (abH v))):=by
 have hc:∀c∈spC v.1 v.2,Closed c:=cf _ _;refine f_c Tryz.func233 ?_;refine r_z 2 ?_;refine ae (ak ?_);by_cases g1:0≤v.1;rw[show abL v=v.1 from if_pos g1,show abH v=v.2 from if_pos g1];refine r_c 5 (b6 v.1) ?_;refine o_0 (.bin rfl rfl (vT jm (decide_eq_true (sg_geA.2 g1)))) ?_;refine a_z ?_;refine cT (r_z 2 ?_);exact am (c_e (bt _ _));refine r_c 5 (b6 v.1) ?_;refine o_0 (.bin rfl rfl (vF jm (decide_eq_false (fun e=>g1 (sg_geA.1 e))))) ?_;refine a_z ?_;refine cF ?_;by_cases g2:v.2≤0;rw[show abL v= -v.2 from(if_neg g1).trans (if_pos g2),show abH v= -v.1 from(if_neg g1).trans (if_pos g2)];refine r_c 5 (b6 v.2) ?_;refine o_0 (.bin rfl rfl (vT fG (decide_eq_true (sg_leA.2 g2)))) ?_;refine a_z ?_;refine cT (r_c 3 (fs_aNeg v.1 v.2) ?_);refine a_z ?_;exact am (c_e (bt _ _));rw[show abL v=0 from(if_neg g1).trans (if_neg g2),show abH v=mY [-v.1,v.2] from(if_neg g1).trans (if_neg g2)];refine r_c 5 (b6 v.2) ?_;refine o_0 (.bin rfl rfl (vF fG (decide_eq_false (fun e=>g2 (sg_leA.1 e))))) ?_;refine a_z ?_;refine cF (an ?_);have hm:=tn [-v.1,v.2] (lW (by unfold sm;rw[iw];exact h1) h2) (by simp);refine ae (r_d hmix 10 ?_);refine c_s (jf v.1) ?_;refine a_3 ?_;refine o_1 (.callS1 rfl rfl rfl (.shut rfl d_n (.nil)) rfl (hm)) ?_;refine a_2 ?_;refine aq (n_k ?_);refine am ?_;rw[show spC 0 (mY [-v.1,v.2])=[.arr [],bln false,.arr []]++qC (mY [-v.1,v.2]) from by unfold spC;rw[qC0]];refine Fin.cell rfl rfl rfl TG.h TS.h (nle rfl) ?_
 exact Cv.agg (af (Cv.emp _) (af (ah aE (ag _)) (af (Cv.emp _) (CvL.clo aE (aU _)))))
def abS(v:Sp):Sp:=(abL v,abH v)
theorem tj(v:Sp)(h:smS v):FS 198 [.agg (spC v.1 v.2)] (.agg (spC (abS v).1 (abS v).2)):=by
 have ha:=fs_aAbs v h.1 h.2;refine f_c Tryz.func198 ?_;refine r_z 2 ?_;refine r_c 3 (ha) ?_;refine a_z ?_;exact am (c_e (bt _ _))
def joS(o t:Sp):Sp:=(mY [o.1,t.1],mY [o.2,t.2])
theorem By(o t:Sp)(h1:smS o)(h2:smS t):XSpec Tryz.prog 200 [.agg (spC t.1 t.2),.lptr 0 0 0] [(0,some ⟨44,6,[spC o.1 o.2]⟩)] 1 (.tup []) [(0,some ⟨44,6,[spC (joS o t).1 (joS o t).2]⟩)] 1:=by
 have m1:=tn [o.1,t.1] (lW h1.1 h2.1) (by simp);have m2:=tn [o.2,t.2] (lW h1.2 h2.2) (by simp);refine XSpec.enter0 Tryz.func200 rfl (by kernel_rfl) rfl rfl rfl rfl ?_;refine r_z 1 ?_;refine r_d hmix 14 ?_;refine a_5 ?_;refine o_1 (.callS1 rfl rfl rfl (.shut rfl d_n (.nil)) rfl (m1)) ?_;refine a_5 ?_;refine o_1 (.callS1 rfl rfl rfl (.shut rfl d_n (.nil)) rfl (m2)) ?_;refine a_2 ?_;refine aq (n_k ?_);refine FinX0.norm ?_;exact s_f []
def dsH(o:Sp):Hp:=[(0,some ⟨44,6,[spC o.1 o.2]⟩)]
def dsX(o:Sp):Hp:=[(0,some ⟨44,6,[spC o.1 o.2]⟩),(1,some ⟨44,6,[zC++zC]⟩)]
theorem ry(o:Sp):∀i,1≤i→ap (dsH o) i=none:=fun i hi=>by
 unfold dsH;rw[bi (show 0≠i by omega)];rfl
theorem Cz(o:Sp):∀i,i< 1→ap (dsH o) i=ap (dsX o) i:=fun i hi=>by
 match i,hi with
 |0,_=>rfl
theorem FL(o:Sp){H:Nat→Prop}:∀i B,ap (dsH o) i=some B→B.sz≠0∧∀e∈B.es,∀c∈e,Top H c:=fun i B h=>by
 have hm:=cU h;unfold dsH at hm;simp only[List.mem_cons,Prod.mk.injEq,List.not_mem_nil,or_false] at hm;obtain⟨rfl,hB⟩:=hm;cases hB;refine⟨by simp,fun e he c hc=> .clo ?_⟩;rw[List.mem_singleton.1 he] at hc;exact cf _ _ c hc
theorem FN(o:Sp){H:Nat→Prop}:∀i B,1≤i→ap (dsX o) i=some B→B.sz≠0∧∀e∈B.es,∀c∈e,Top H c:=fun i B hi h=>by
 have hm:=cU h;unfold dsX at hm;simp only[List.mem_cons,Prod.mk.injEq,List.not_mem_nil,or_false] at hm;rcases hm with⟨rfl,_⟩|⟨rfl,hB⟩
 omega;cases hB;refine⟨by simp,fun e he c hc=> .clo ?_⟩;rw[List.mem_singleton.1 he] at hc;exact cw bJ bJ c hc
theorem FM(o o':Sp):∀i,ap (dsX o') i=if i< 1 then ap (dsH o') i else ap (dsX o) i:=fun i=>by
 match i with
 |0=>rfl
 |1=>rfl
 |i+2=>
  rw[if_neg (by omega)];unfold dsX;rw[bi (show 0≠i+2 by omega),bi (show 1≠i+2 by omega),bi (show 0≠i+2 by omega),bi (show 1≠i+2 by omega)]
theorem FO(o t:Sp):∀x∈([.agg (spC t.1 t.2)]++[.lptr 0 0 0]:La),Top (fun j=>j< 1∧(ap (dsH o) j).isSome=true) x:=fun x hx=>by
 simp only[List.cons_append,List.nil_append,List.mem_cons,List.not_mem_nil,or_false] at hx;rcases hx with rfl|rfl
 exact .clo (aK (cf _ _));exact .ptr ⟨by decide,rfl⟩
theorem lV{v:Sp}(h:smS v):smS (abS v):=by
 have n1:sm (-v.1):=by unfold sm;rw[iw];exact h.1
 have n2:sm (-v.2):=by unfold sm;rw[iw];exact h.2
 have z:sm 0:=by decide
 constructor;show sm (abL v);unfold abL;split;exact h.1;split;exact n2;exact z;show sm (abH v);unfold abH;split;exact h.2;split;exact n1;exact gS (lW n1 h.2)
theorem BI{o t:Sp}(h1:smS o)(h2:smS t):smS (joS o t):=⟨gS (lW h1.1 h2.1),gS (lW h1.2 h2.2)⟩
def dsM(o:Sp)(v:Nat→Sp):Nat→Sp
 |0=>o
 |j+1=>joS (dsM o v j) (abS (v j))
abbrev dsC:AV:= .clos 200 [] [.lptr 0 0 0]
def dsS(g:Lq)(s:Sp)(k:Int)(R:Lc)(m:Nat):Nat×Sp→AState
 |(j,o)=>⟨[(0,.arr (pE g)),(2,i64 k),(4,bS s),(6,.lptr 1 0 0),(7,.lptr 0 0 0),(8,dsC),(32,.arr R),(33,i64 m),(34,i64 j)],dsX o,2,51⟩
theorem yB (f:Nat) (g:Lq) (s:Sp) (c:Cnt) (m:Nat) (k:Int) (v:Nat→Sp) (a b:Sp) (t:Turn f g s c m) (hm:m≤1000) (e1:dI g s.1) (e2:dI g s.2) (q1:sm (aA g s.1)) (q2:sm (aA g s.2)) (ha:a=(gD (aA g s.1) (wi k 256),upQ (aA g s.1) (wi k 256))) (hb:b=(gD (aA g s.2) (wi k 256),upQ (aA g s.2) (wi k 256))) (a1:smS a) (b1:smS b)
    (hv:∀j:Nat,j< m→smS (v j)∧FS 201 [roA c.p (cr c s.1+(j:Int)),.arr (pE g),i64 k] (.tup [.agg (spC (v j).1 (v j).2),i64 0])):
    FS 150 [.arr (pE g),.agg (spC s.1 s.2),i64 k] (.agg (spC (dsM (joS (abS a) (abS b)) v m).1 (dsM (joS (abS a) (abS b)) v m).2)):=by
 have hE1:=eI g s.1 e1;have hE2:=eI g s.2 e2;have hS1:=yH (aA g s.1) k q1;have hS2:=yH (aA g s.2) k q2;rw[show gD (aA g s.1) (wi k 256)=a.1 by rw[ha],show upQ (aA g s.1) (wi k 256)=a.2 by rw[ha]] at hS1;rw[show gD (aA g s.2) (wi k 256)=b.1 by rw[hb],show upQ (aA g s.2) (wi k 256)=b.2 by rw[hb]] at hS2;have hz1:=tj a a1;have hz2:=tj b b1;have htu:=yn t;obtain⟨R,hR⟩:∃R,R=roE c.p (cr c s.1) m:=⟨_,rfl⟩;have hRl:R.length=m:=by rw[hR];simp
 have hRc:Closed (.arr R):=by rw[hR];exact aP (fQ _ _ _)
 have hRg:∀j,j< m→∀e,e=j→R[e]?=some [.arr (pE c.p),i64 (cr c s.1+(j:Int))]:=fun j hj e he=>by rw[hR,he];exact BU hj
 rw[←hR] at htu
 have hsD:∀j,j≤m→smS (dsM (joS (abS a) (abS b)) v j):=fun j=>by
  induction j with
  |zero=>exact fun _=>BI (lV a1) (lV b1)
  |succ j ih=>exact fun hj=>BI (ih (by omega)) (lV (hv j (by omega)).1)
 refine f_c Tryz.func150 ?_;refine r_z 2 ?_;refine r_c 9 (hE1) ?_;refine c_s (hS1) ?_;refine c_s (hz1) ?_;refine a_z ?_;refine AWp.pinned (st':=⟨[(0,.arr (pE g)),(2,i64 k),(4,bS s),(6,.lptr 1 0 0),(7,.lptr 0 0 0)],dsX (abS a),2,51⟩) ?_ ?_;refine SEntP.to [(0,7),(1,6)] rfl rfl (ShrL.cons rfl rfl rfl rfl rfl (ShrL.cons rfl rfl rfl rfl rfl ShrL.nil)) (fun hs=>aj rfl (ah hs (ao _)) (aj rfl (ah hs (ag _)) (aj rfl (Cv.boxp hs rfl (aQ rfl) rfl (cf _ _)) (aj rfl (Cv.ptr rfl rfl rfl) (aj rfl (Cv.ptr rfl rfl rfl) aG))))) (fun hs=>?_);exact bu rfl rfl rfl rfl (aw (CvL.clo hs (cf _ _))) (bu rfl rfl rfl rfl (aw (CvL.clo hs (cw bJ bJ))) aD);refine r_z 2 ?_;refine ae (AWp.regF (fr2:=[(21,dsC),(28,.agg (spC (abS b).1 (abS b).2)),(0,.arr (pE g)),(2,i64 k),(4,bS s),(6,.lptr 1 0 0),(7,.lptr 0 0 0),(8,dsC)]) (hp2:=dsX (abS a)) (nx2:=2) (k:=1) (hpc:=dsH (abS a)) (hpd:=dsH (joS (abS a) (abS b))) (hp3:=dsX (joS (abS a) (abS b))) (fr3:=[(0,.arr (pE g)),(2,i64 k),(4,bS s),(6,.lptr 1 0 0),(7,.lptr 0 0 0),(8,dsC)]) 8 rfl rfl rfl rfl rfl ?_ (fun d h=>by cases h;rfl) rfl rfl (By _ _ (lV a1) (lV b1)) (by decide) (Nat.le_refl _) (FO _ _) (Cz _) (ry _) (FL _) (FN _) (FM _ _) (ry _) rfl rfl ?_ ?_);refine o_0 (.move rfl) ?_;refine o_0 (.move rfl) ?_
 first|refine ax (.fieldAddr_l rfl TF.h (by decide)) rfl rfl ?_|refine ax (.fieldAddr_a rfl TF.h (by decide)) rfl rfl ?_
 first|refine ax (.load_l rfl rfl rfl TG.h TS.h (nle rfl)) rfl rfl ?_|refine ax (.load_a rfl rfl TG.h TS.h (nle rfl)) rfl rfl ?_
 refine o_0 (.call rfl rfl rfl (hE2)) ?_;refine o_0 (.move rfl) ?_;refine o_0 (.call rfl rfl rfl (hS2)) ?_;refine o_0 (.call rfl rfl rfl (hz2)) ?_;refine aq ?_;refine SEntT.to [] rfl rfl rfl (ShrL.cons rfl rfl rfl rfl rfl (ShrL.cons rfl rfl rfl rfl rfl ShrL.nil)) (fun hs=>?_) (fun hs=>bu rfl rfl rfl rfl (aw (CvL.clo hs (cf _ _))) (bu rfl rfl rfl rfl (aw (CvL.clo hs (cw bJ bJ))) aD));exact aj rfl (Cv.clos ay (af (Cv.ptr rfl rfl rfl) ay)) (aj rfl (ah hs (bt _ _)) (aj rfl (ah hs (ao _)) (aj rfl (ah hs (ag _)) (aj rfl (ah hs (bw _)) (aj rfl (Cv.ptr rfl rfl rfl) (aj rfl (Cv.ptr rfl rfl rfl) (aj rfl (Cv.clos ay (af (Cv.ptr rfl rfl rfl) ay)) aG)))))));intro t x hx;have hm:=look_mem' hx;simp only[List.mem_cons,Prod.mk.injEq,List.not_mem_nil,or_false] at hm;rcases hm with⟨rfl,rfl⟩|⟨rfl,rfl⟩|⟨rfl,rfl⟩|⟨rfl,rfl⟩|⟨rfl,rfl⟩|⟨rfl,rfl⟩
 exact⟨rfl,.clo (ao _)⟩;exact⟨rfl,.clo (ag _)⟩;exact⟨rfl,.clo (bw _)⟩;exact⟨rfl,.ptr (.inr (Nat.le_refl _))⟩;exact⟨rfl,.ptr (.inl rfl)⟩;exact⟨rfl,.cl (.inl rfl)⟩;refine aq ?_;refine ae (r_c 5 (htu) ?_);refine a_z ?_;have hlenR:((R.length:Nat):Int)=(m:Int):=by rw[hRl]
 refine aH (fun _:Unit=>⟨[(6,.lptr 1 0 0),(7,.lptr 0 0 0)],dsX (dsM (joS (abS a) (abS b)) v m),2,51⟩) (fun _=>True) ?_ ?_
 ·refine ak (aC (dsS g s k R m) (fun x=>m- x.1) (fun x=>x.1≤m∧x.2=dsM (joS (abS a) (abS b)) v x.1) (0,joS (abS a) (abS b)) ⟨Nat.zero_le _,rfl⟩ ?_ ?_)
  rw[dsS.eq_1];refine db [] rfl rfl rfl (ShrL.cons rfl rfl rfl rfl rfl (ShrL.cons rfl rfl rfl rfl rfl ShrL.nil)) (fun hs=>aj rfl (ah hs (ao _)) (aj rfl (ah hs (ag _)) (aj rfl (ah hs (bw _)) (aj rfl (Cv.ptr rfl rfl rfl) (aj rfl (Cv.ptr rfl rfl rfl) (aj rfl (Cv.clos ay (af (Cv.ptr rfl rfl rfl) ay)) (aj rfl (ah hs hRc) (aj rfl (Cv.loE hs (by simp[i64,hRl]) (ag _)) (aj rfl (Cv.loE hs (by first|rfl|simp[i64]) (ag _)) aG))))))))) (fun hs=>bu rfl rfl rfl rfl (aw (CvL.clo hs (cf _ _))) (bu rfl rfl rfl rfl (aw (CvL.clo hs (cw bJ bJ))) aD));rintro⟨j,o⟩ ⟨hj,ho⟩;simp only at hj ho;rw[dsS.eq_1];by_cases hlt:j< m;rotate_left;have hge:j=m:=by omega
  subst hge;refine q_z 1 ?_;refine ae (cF (aB ⟨(),trivial,?_⟩));rw[ho];refine db [] rfl rfl rfl (ShrL.cons rfl rfl rfl rfl rfl (ShrL.cons rfl rfl rfl rfl rfl ShrL.nil)) (fun hs=>aj rfl (Cv.ptr rfl rfl rfl) (aj rfl (Cv.ptr rfl rfl rfl) aG)) (fun hs=>bu rfl rfl rfl rfl (aw (CvL.clo hs (cf _ _))) (bu rfl rfl rfl rfl (aw (CvL.clo hs (cw bJ bJ))) aD));refine q_z 1 ?_;refine ae (cT (an ?_));obtain⟨v1,v2⟩:=hv j hlt;have hzj:=tj (v j) v1;have hoS:smS o:=by rw[ho];exact hsD j (by omega)
  have hcR:∀c'∈([.arr (pE c.p),i64 (cr c s.1+(j:Int))]:La),Closed c':=ac (ao _) (ac (ag _) ai);refine ae (ak (s_r 4 ?_))
  first|refine ax (.index_l rfl rfl (by omega) (by omega) te_204.h) rfl rfl ?_|refine ax (.index_a rfl rfl (by omega) (hRg j hlt _ (by omega)) rfl te_204.h) rfl rfl ?_
  first|refine ax (.load_l rfl rfl (hRg j hlt _ (by omega)) TG.h TS.h (nle rfl)) rfl rfl ?_|refine ax (.load_a rfl (hRg j hlt _ (by omega)) TG.h TS.h (nle rfl)) rfl rfl ?_
  refine a_z ?_;refine r_c 10 (v2) ?_;refine a_z ?_;refine AWp.regF (fr2:=[(45,dsC),(47,.agg (spC (abS (v j)).1 (abS (v j)).2)),(0,.arr (pE g)),(2,i64 k),(4,bS s),(6,.lptr 1 0 0),(7,.lptr 0 0 0),(8,dsC),(32,.arr R),(33,i64 m),(34,i64 j)]) (hp2:=dsX o) (nx2:=2) (k:=1) (hpc:=dsH o) (hpd:=dsH (joS o (abS (v j)))) (hp3:=dsX (joS o (abS (v j)))) (fr3:=[(0,.arr (pE g)),(2,i64 k),(4,bS s),(6,.lptr 1 0 0),(7,.lptr 0 0 0),(8,dsC),(32,.arr R),(33,i64 m),(34,i64 j)]) 3 rfl rfl rfl rfl rfl ?_ (fun d h=>by cases h;rfl) rfl rfl (By _ _ hoS (lV v1)) (by decide) (Nat.le_refl _) (FO _ _) (Cz _) (ry _) (FL _) (FN _) (FM _ _) (ry _) rfl rfl ?_ ?_;refine o_0 (.move rfl) ?_
  first|refine ax (.load_l rfl rfl rfl TG.h TS.h (nle rfl)) rfl rfl ?_|refine ax (.load_a rfl rfl TG.h TS.h (nle rfl)) rfl rfl ?_
  refine o_0 (.call rfl rfl rfl (hzj)) ?_;refine aq ?_;refine SEntT.to [] rfl rfl rfl (ShrL.cons rfl rfl rfl rfl rfl (ShrL.cons rfl rfl rfl rfl rfl ShrL.nil)) (fun hs=>aj rfl (Cv.clos ay (af (Cv.ptr rfl rfl rfl) ay)) (aj rfl (ah hs (bt _ _)) (aj rfl (ah hs (ao _)) (aj rfl (ah hs (ag _)) (aj rfl (ah hs (bw _)) (aj rfl (Cv.ptr rfl rfl rfl) (aj rfl (Cv.ptr rfl rfl rfl) (aj rfl (Cv.clos ay (af (Cv.ptr rfl rfl rfl) ay)) (aj rfl (ah hs hRc) (aj rfl (ah hs (ag _)) (aj rfl (ah hs (ag _)) aG))))))))))) (fun hs=>bu rfl rfl rfl rfl (aw (CvL.clo hs (cf _ _))) (bu rfl rfl rfl rfl (aw (CvL.clo hs (cw bJ bJ))) aD));intro t x hx;have hm:=look_mem' hx;simp only[List.mem_cons,Prod.mk.injEq,List.not_mem_nil,or_false] at hm;rcases hm with⟨rfl,rfl⟩|⟨rfl,rfl⟩|⟨rfl,rfl⟩|⟨rfl,rfl⟩|⟨rfl,rfl⟩|⟨rfl,rfl⟩|⟨rfl,rfl⟩|⟨rfl,rfl⟩|⟨rfl,rfl⟩
  exact⟨rfl,.clo (ao _)⟩;exact⟨rfl,.clo (ag _)⟩;exact⟨rfl,.clo (bw _)⟩;exact⟨rfl,.ptr (.inr (Nat.le_refl _))⟩;exact⟨rfl,.ptr (.inl rfl)⟩;exact⟨rfl,.cl (.inl rfl)⟩;exact⟨rfl,.clo hRc⟩;exact⟨rfl,.clo (ag _)⟩;exact⟨rfl,.clo (ag _)⟩;refine aq ?_;refine r_m 2 ?_;refine a_z ?_;refine⟨(j+1,joS o (abS (v j))),by simp only;omega,⟨hlt,by simp only;rw[dsM,←ho]⟩,?_⟩;rw[dsS.eq_1];refine db [] rfl rfl rfl (ShrL.cons rfl rfl rfl rfl rfl (ShrL.cons rfl rfl rfl rfl rfl ShrL.nil)) (fun hs=>aj rfl (ah hs (ao _)) (aj rfl (ah hs (ag _)) (aj rfl (ah hs (bw _)) (aj rfl (Cv.ptr rfl rfl rfl) (aj rfl (Cv.ptr rfl rfl rfl) (aj rfl (Cv.clos ay (af (Cv.ptr rfl rfl rfl) ay)) (aj rfl (ah hs hRc) (aj rfl (ah hs (ag _)) (aj rfl (Cv.loE hs (by first|rfl|simp[i64]) (ag _)) aG))))))))) (fun hs=>bu rfl rfl rfl rfl (aw (CvL.clo hs (cf _ _))) (bu rfl rfl rfl rfl (aw (CvL.clo hs (cw bJ bJ))) aD))
 rintro _ _;refine r_z 2 ?_;refine AWp.ent (st':=⟨[(6,.lptr 1 0 0)],[(1,some ⟨44,6,[spC (dsM (joS (abS a) (abS b)) v m).1 (dsM (joS (abS a) (abS b)) v m).2]⟩)],2,51⟩) ?_ ?_;exact s_f [];refine am ⟨rfl,?_⟩;exact c_e (bt _ _)
theorem wi_nat{k m:Nat}(h:k≤m):wi (k:Int) m=k:=by unfold wi;omega
def fnS(x:Rat):Nat→AState
 |k=>⟨[(1,bQ x),(3,i64 k)],[],1,16⟩
theorem Fy(x:Rat)(K:Nat)(hK:K≤256)(h:∀j,j< K→x< cg j)(hx:cg K≤x)(hs:sm x)(hf:∀j,j< K+1→sm (cg j)):FS 151 [.agg (qC x)] (i64 K):=by
 refine f_c Tryz.func151 ?_;refine r_z 2 ?_;refine r_z 1 ?_;refine aZ (fun _:Unit=>⟨[(3,i64 K)],[],1,16⟩) (fun _=>True) ?_ ?_;refine ak (aC (fnS x) (fun k=>K- k) (fun k=>k≤K) 0 (Nat.zero_le _) ?_ ?_);rw[fnS.eq_1];exact s_e [];intro k hk;rw[fnS.eq_1];have hfi:=iK (k:Int);rw[wi_nat (show k≤256 by omega)] at hfi;have hcm:=dJ (cg k) x (hf k (by omega)) hs;by_cases hlt:k< K;refine ae (ae (r_d hmix 9 ?_));refine c_s (hfi) ?_;refine c_s (hcm) ?_;refine o_0 (.bin rfl rfl (vT fl (decide_eq_true (cq_gt.2 (h k hlt))))) ?_;refine d_4 ?_;refine aq (n_k ?_);refine cT (an (ak (r_m 3 ?_)));refine a_z ?_;refine⟨k+1,by omega,by omega,?_⟩;rw[fnS.eq_1];exact s_e [];have hge:k=K:=by omega
 subst hge;have hn:¬0< cZ (cg k) x:=fun e=>by have:=cq_gt.1 e;grind
 refine ae (ae (r_d hmix 9 ?_));refine c_s (hfi) ?_;refine c_s (hcm) ?_;refine d_5 ?_;refine aq (n_k ?_);refine cF (aB ⟨(),trivial,?_⟩);exact s_e [];rintro _ _;refine r_z 2 ?_;exact am (t_e (ag _))
theorem fs_aHas(a b x:Rat)(ha:sm a)(hb:sm b)(hx:sm x)(h:a≤x∧x≤b):FS 103 [.agg (spC a b),.agg (qC x)] (bln true):=by
 have c1:=dJ a x ha hx;have c2:=dJ x b hx hb
 have e1:cZ a x≤0:=by
  have:¬0< cZ a x:=fun e=>by have:=cq_gt.1 e;grind
  omega
 have e2:cZ x b≤0:=by
  have:¬0< cZ x b:=fun e=>by have:=cq_gt.1 e;grind
  omega
 refine f_c Tryz.func103 ?_;refine r_z 3 ?_;refine r_c 13 (c1) ?_;refine e_s (c2) ?_;refine d_z ?_;exact am (t_e (ag _))
def wtS(g:Lq)(s:Sp)(z:Rat):Nat→AState
 |i=>⟨[(0,.arr (pE g)),(4,bS s),(5,bQ z),(19,.arr (pE [s.1,s.2])),(20,i64 2),(21,i64 i)],[],1,66⟩
def wrS(g:Lq)(z:Rat)(R:Lc)(m:Nat):Nat→AState
 |j=>⟨[(0,.arr (pE g)),(5,bQ z),(35,.arr R),(36,i64 m),(37,i64 j)],[],1,66⟩
theorem AE(g:Lq)(s:Sp)(z:Rat)(e1:dI g s.1)(e2:dI g s.2)(q1:sm (aA g s.1))(q2:sm (aA g s.2))(hz:sm z)(h1:cI (aA g s.1)≤z)(h2:z< cI (aA g s.2)):FS 101 [.arr (pE g),.agg (spC s.1 s.2),.agg (qC z)] (bln false):=by
 have hE1:=eI g s.1 e1;have hE2:=eI g s.2 e2;have hA1:=eH (aA g s.1);have hA2:=eH (aA g s.2);have hC1:=dJ (cI (aA g s.1)) z (by unfold sm;rw[qs_abs];exact q1) hz;have hC2:=dJ (cI (aA g s.2)) z (by unfold sm;rw[qs_abs];exact q2) hz;have n1:¬0< cZ (cI (aA g s.1)) z:=fun e=>by have:=cq_gt.1 e;grind
 have hg0:∀e:Nat,e=0→(pE [s.1,s.2])[e]?=some (qC s.1):=fun e he=>by rw[he];rfl
 have hg1:∀e:Nat,e=1→(pE [s.1,s.2])[e]?=some (qC s.2):=fun e he=>by rw[he];rfl
 refine f_c Tryz.func101 ?_;refine r_z 3 ?_;refine ae (r_z 7 ?_);refine aH (fun _:Unit=>⟨[],[],1,66⟩) (fun _=>False) ?_ (fun _ h=>h.elim);refine ak (aC (wtS g s z) (fun i=>2- i) (fun i=>i≤1) 0 (by decide) ?_ ?_);rw[wtS.eq_1];exact s_x [] (fun hs=>e_45) (fun hs=>e_46);intro i hi;rw[wtS.eq_1];refine q_z 1 ?_;refine ae (cT (an (ae (ak ?_))));by_cases h0:i=0;refine s_r 4 ?_
 first|refine ax (.index_l rfl rfl (by omega) (by omega) te_29.h) rfl rfl ?_|refine ax (.index_a rfl rfl (by omega) (hg0 _ (by omega)) rfl te_29.h) rfl rfl ?_
 first|refine ax (.load_l rfl rfl (hg0 _ (by omega)) TG.h TS.h (nle rfl)) rfl rfl ?_|refine ax (.load_a rfl (hg0 _ (by omega)) TG.h TS.h (nle rfl)) rfl rfl ?_
 refine a_z ?_;refine ae (r_d hmix 7 ?_);refine c_s (hE1) ?_;refine c_s (hA1) ?_;refine c_s (hC1) ?_;refine m_1 ?_;refine aq (n_k ?_);refine cF (an (r_m 2 ?_));refine a_z ?_;refine⟨i+1,by omega,by omega,?_⟩;rw[wtS.eq_1];exact s_x [] (fun hs=>e_13) (fun hs=>e_14);refine s_r 4 ?_
 first|refine ax (.index_l rfl rfl (by omega) (by omega) te_29.h) rfl rfl ?_|refine ax (.index_a rfl rfl (by omega) (hg1 _ (by omega)) rfl te_29.h) rfl rfl ?_
 first|refine ax (.load_l rfl rfl (hg1 _ (by omega)) TG.h TS.h (nle rfl)) rfl rfl ?_|refine ax (.load_a rfl (hg1 _ (by omega)) TG.h TS.h (nle rfl)) rfl rfl ?_
 refine a_z ?_;refine ae (r_d hmix 7 ?_);refine c_s (hE2) ?_;refine c_s (hA2) ?_;refine c_s (hC2) ?_;refine o_0 (.bin rfl rfl (vT fl (decide_eq_true (cq_gt.2 h2)))) ?_;refine aq (n_k ?_);refine cT (r_z 1 ?_);exact am (t_e (ag _))
theorem AD (f:Nat) (g:Lq) (s:Sp) (c:Cnt) (m:Nat) (z:Rat) (t:Turn f g s c m) (hm:m≤1000) (e1:dI g s.1) (e2:dI g s.2) (q1:sm (aA g s.1)) (q2:sm (aA g s.2)) (hz:sm z) (h1:cI (aA g s.1)≤z) (h2:cI (aA g s.2)≤z)
    (hr:∀j:Nat,j< m→∃r1 r2:Int,FS 162 [roA c.p (cr c s.1+(j:Int)),.arr (pE (fK g [z]))] (.tup [i64 r1,i64 0])∧FS 162 [roA c.p (cr c s.1+(j:Int)),.arr (pE (kQ g [z]))] (.tup [i64 r2,i64 0])∧r1≤0∧0≤r2):
    FS 101 [.arr (pE g),.agg (spC s.1 s.2),.agg (qC z)] (bln true):=by
 have hE1:=eI g s.1 e1;have hE2:=eI g s.2 e2;have hA1:=eH (aA g s.1);have hA2:=eH (aA g s.2);have hC1:=dJ (cI (aA g s.1)) z (by unfold sm;rw[qs_abs];exact q1) hz;have hC2:=dJ (cI (aA g s.2)) z (by unfold sm;rw[qs_abs];exact q2) hz;have n1:¬0< cZ (cI (aA g s.1)) z:=fun e=>by have:=cq_gt.1 e;grind
 have n2:¬0< cZ (cI (aA g s.2)) z:=fun e=>by have:=cq_gt.1 e;grind
 have hg0:∀e:Nat,e=0→(pE [s.1,s.2])[e]?=some (qC s.1):=fun e he=>by rw[he];rfl
 have hg1:∀e:Nat,e=1→(pE [s.1,s.2])[e]?=some (qC s.2):=fun e he=>by rw[he];rfl
 have hgl:=t.gl;have hzl:smL [z]:=fun q hq=>by rw[List.mem_singleton.1 hq];exact hz
 have hsu:=ni g [z] t.gs hzl (by omega) (by simp);have had:=tu g [z] t.gs hzl (by omega) (by simp);have htu:=yn t;obtain⟨R,hR⟩:∃R,R=roE c.p (cr c s.1) m:=⟨_,rfl⟩;have hRl:R.length=m:=by rw[hR];simp
 have hRc:Closed (.arr R):=by rw[hR];exact aP (fQ _ _ _)
 have hRg:∀j,j< m→∀e,e=j→R[e]?=some [.arr (pE c.p),i64 (cr c s.1+(j:Int))]:=fun j hj e he=>by rw[hR,he];exact BU hj
 rw[←hR] at htu;refine f_c Tryz.func101 ?_;refine r_z 3 ?_;refine ae (r_z 7 ?_);refine aH (fun _:Unit=>⟨[(0,.arr (pE g)),(4,bS s),(5,bQ z)],[],1,66⟩) (fun _=>True) ?_ ?_;refine ak (aC (wtS g s z) (fun i=>3- i) (fun i=>i≤2) 0 (by decide) ?_ ?_);rw[wtS.eq_1];exact s_x [] (fun hs=>e_45) (fun hs=>e_46);intro i hi;rw[wtS.eq_1];by_cases h9:i=2;refine q_z 1 ?_;refine ae (cF (aB ⟨(),trivial,?_⟩));exact s_x [] (fun hs=>e_13) (fun hs=>e_14);refine q_z 1 ?_;refine ae (cT (an (ae (ak ?_))));by_cases h0:i=0;refine s_r 4 ?_
 first|refine ax (.index_l rfl rfl (by omega) (by omega) te_29.h) rfl rfl ?_|refine ax (.index_a rfl rfl (by omega) (hg0 _ (by omega)) rfl te_29.h) rfl rfl ?_
 first|refine ax (.load_l rfl rfl (hg0 _ (by omega)) TG.h TS.h (nle rfl)) rfl rfl ?_|refine ax (.load_a rfl (hg0 _ (by omega)) TG.h TS.h (nle rfl)) rfl rfl ?_
 refine a_z ?_;refine ae (r_d hmix 7 ?_);refine c_s (hE1) ?_;refine c_s (hA1) ?_;refine c_s (hC1) ?_;refine m_1 ?_;refine aq (n_k ?_);refine cF (an (r_m 2 ?_));refine a_z ?_;refine⟨i+1,by omega,by omega,?_⟩;rw[wtS.eq_1];exact s_x [] (fun hs=>e_13) (fun hs=>e_14);refine s_r 4 ?_
 first|refine ax (.index_l rfl rfl (by omega) (by omega) te_29.h) rfl rfl ?_|refine ax (.index_a rfl rfl (by omega) (hg1 _ (by omega)) rfl te_29.h) rfl rfl ?_
 first|refine ax (.load_l rfl rfl (hg1 _ (by omega)) TG.h TS.h (nle rfl)) rfl rfl ?_|refine ax (.load_a rfl (hg1 _ (by omega)) TG.h TS.h (nle rfl)) rfl rfl ?_
 refine a_z ?_;refine ae (r_d hmix 7 ?_);refine c_s (hE2) ?_;refine c_s (hA2) ?_;refine c_s (hC2) ?_;refine m_1 ?_;refine aq (n_k ?_);refine cF (an (r_m 2 ?_));refine a_z ?_;refine⟨i+1,by omega,by omega,?_⟩;rw[wtS.eq_1];exact s_x [] (fun hs=>e_13) (fun hs=>e_14);rintro _ _;refine ae (r_c 5 (htu) ?_);refine a_z ?_;refine aH (fun _:Unit=>⟨[],[],1,66⟩) (fun _=>True) ?_ ?_;refine ak (aC (wrS g z R m) (fun i=>m- i) (fun i=>i≤m) 0 (Nat.zero_le _) ?_ ?_);rw[wrS.eq_1];refine s_x [] (fun hs=>?_) (fun hs=>?_)
 ·repeat' (first|exact aG|refine aj rfl ?_ ?_|exact ah hs (aO z)|exact ah hs hRc|(refine Cv.loE hs ?_ (ag _);simp[i64,hRl];done)|exact aW)
 ·repeat' (first|exact aD|refine h_c ?_ ?_|exact bC|refine aw ?_|exact ay|refine af ?_ ?_|exact ah hs (aO z)|exact ah hs hRc|(refine Cv.loE hs ?_ (ag _);simp[i64,hRl];done)|exact aW)
 intro j hj;rw[wrS.eq_1];by_cases hlt:j< m;obtain⟨r1,r2,s1,s2,s3,s4⟩:=hr j hlt;have hcR:∀c'∈([.arr (pE c.p),i64 (cr c s.1+(j:Int))]:La),Closed c':=ac (ao _) (ac (ag _) ai);refine q_z 1 ?_;refine ae (cT (an (ae (ak (s_r 4 ?_)))))
 first|refine ax (.index_l rfl rfl (by omega) (by omega) te_204.h) rfl rfl ?_|refine ax (.index_a rfl rfl (by omega) (hRg j hlt _ (by omega)) rfl te_204.h) rfl rfl ?_
 first|refine ax (.load_l rfl rfl (hRg j hlt _ (by omega)) TG.h TS.h (nle rfl)) rfl rfl ?_|refine ax (.load_a rfl (hRg j hlt _ (by omega)) TG.h TS.h (nle rfl)) rfl rfl ?_
 refine a_z ?_;refine ae (r_d hmix 11 ?_);refine a_4 ?_;refine o_1 (.callS1 rfl rfl rfl (.keep (.shut rfl d_n (.nil))) rfl (hsu)) ?_;refine c_s (s1) ?_;refine a_5 ?_;refine aq (n_k ?_);refine ae (r_d hmix 11 ?_);refine a_4 ?_;refine o_1 (.callS1 rfl rfl rfl (.keep (.shut rfl d_n (.nil))) rfl (had)) ?_;refine c_s (s2) ?_;refine a_5 ?_;refine aq (n_k ?_);refine q_z 6 ?_;refine cF (an (r_m 2 ?_));refine a_z ?_;refine⟨j+1,by omega,by omega,?_⟩;rw[wrS.eq_1];refine s_x [] (fun hs=>?_) (fun hs=>?_)
 ·repeat' (first|exact aG|refine aj rfl ?_ ?_|exact ah hs (aO z)|exact ah hs hRc|exact aW)
 ·repeat' (first|exact aD|refine h_c ?_ ?_|exact bC|refine aw ?_|exact ay|refine af ?_ ?_|exact ah hs (aO z)|exact ah hs hRc|exact aW)
 have hge:j=m:=by omega
 subst hge;refine q_z 1 ?_;refine ae (cF (aB ⟨(),trivial,?_⟩));exact s_e [];rintro _ _;refine r_z 1 ?_;exact am (t_e (ag _))
abbrev naC(P L:Lq)(lo up:Rat):La:=[.arr (pE P),.arr (pE L)]++(qC lo++qC up)
theorem eM(P L:Lq)(lo up:Rat):∀c∈naC P L lo up,Closed c:=cw (ac (ao _) (ac (ao _) ai)) (cw (aU _) (aU _))
abbrev bNa(P L:Lq)(lo up:Rat):AV:= .aptr [naC P L lo up] 0 0
theorem kO(P L:Lq)(lo up:Rat):Closed (bNa P L lo up):=aX (eM P L lo up)
theorem tI{a b:Rat}(h:a≤b):cZ a b≤0:=by
 have:¬0< cZ a b:=fun e=>by have:=cq_gt.1 e;grind
 omega
theorem Dz(F:Lq)(s:Sp)(n:Nat)(P L:Lq)(lo up:Rat)(s1:sm s.1)(s2:sm s.2)(hs:s.1≤s.2)(hn:n≤12)(hd:ct F≤40)(hp:ct P≤n)(lF:F.length≤1000)(lP:P.length≤1000)(mF:smL F)(mP:smL P)(hw:FS 101 [.arr (pE (fK F P)),.agg (spC s.1 s.2),.agg (qC up)] (bln false)):
    FS 35 [.arr (pE F),.agg (spC s.1 s.2),i64 n,.agg (naC P L lo up)] (bln false):=by
 have hv:=gQ s.1 s.2 s1 s2;rw[decide_eq_true (tI hs)] at hv;have d1:=bZ F (by omega);have d2:=bZ P (by omega);have hsu:=ni F P mF mP (by omega) (by omega);refine f_n Tryz.func35 ?_ ?_;exact ac (ao F) (ac (bt _ _) (ac (ag _) (ac (aK (eM P L lo up)) ai)));refine r_z 3 ?_;refine ae (r_c 23 (hv) ?_);refine e_s (d1) ?_;refine e_s (d2) ?_;refine d_z ?_;refine cF (an (r_c 5 (hsu) ?_));refine a_z ?_;refine ae (r_c 6 (hw) ?_);refine a_z ?_;refine cT (r_z 1 ?_);exact am (t_e (ag _))
def pnS(s:Sp)(P L:Lq)(lo up:Rat)(g:Lq):Nat→AState
 |i=>⟨[(5,bS s),(7,bNa P L lo up),(9,.arr (pE g)),(73,.arr (pE L)),(74,i64 L.length),(75,i64 i)],[],1,114⟩
theorem Dy (F:Lq) (s:Sp) (n:Nat) (P L:Lq) (lo up:Rat) (g:Lq) (hg:g=fK F P) (s1:sm s.1) (s2:sm s.2) (hs:s.1≤s.2) (hn:n≤12) (hd:ct F≤40) (hp:ct P≤n) (lF:F.length≤1000) (lP:P.length≤1000) (mF:smL F) (mP:smL P) (hw:FS 101 [.arr (pE g),.agg (spC s.1 s.2),.agg (qC up)] (bln true))
    (h0:0< lo) (ml:sm lo) (hL:L.length=n+2) (hr:vP L=true) (mL:smL L) (hx:∀i,i< L.length→s.1≤coP L i∧coP L i≤s.2∧dI g (coP L i)∧sm (aA g (coP L i))∧lo≤cI (aA g (coP L i))) (ha:∀i,i+1< L.length→sgZ (aA g (coP L (i+1))).num≠sgZ (aA g (coP L i)).num):
    FS 35 [.arr (pE F),.agg (spC s.1 s.2),i64 n,.agg (naC P L lo up)] (bln true):=by
 have hv:=gQ s.1 s.2 s1 s2;rw[decide_eq_true (tI hs)] at hv;have d1:=bZ F (by omega);have d2:=bZ P (by omega);have hsu:=ni F P mF mP (by omega) (by omega);rw[←hg] at hsu;have hsl:=b6 lo;have hri:=uP L mL (by omega);rw[hr] at hri;have hll:(pE L).length=L.length:=by simp[pE]
 have hsp:¬sgZ lo.num≤(0:Int):=fun e=>by have:=sg_leA.1 e;grind
 refine f_n Tryz.func35 ?_ ?_;exact ac (ao F) (ac (bt _ _) (ac (ag _) (ac (aK (eM P L lo up)) ai)));refine r_z 3 ?_;refine ae (r_c 23 (hv) ?_);refine e_s (d1) ?_;refine e_s (d2) ?_;refine d_z ?_;refine cF (an (r_c 5 (hsu) ?_));refine a_z ?_;refine ae (r_c 6 (hw) ?_);refine a_z ?_;refine cF (an (ae (r_c 4 (hsl) ?_)));refine d_z ?_;refine cF (an (ae (s_r 12 ?_)));refine a_5 ?_;refine o_0 (.bin rfl rfl (vF cu ((by simp;omega)))) ?_;refine e_s (hri) ?_;refine d_z ?_;refine cF (an (ae (r_z 4 ?_)));refine aH (fun _:Unit=>⟨[],[],1,114⟩) (fun _=>True) ?_ ?_
 ·refine ak (aC (pnS s P L lo up g) (fun i=>L.length- i) (fun i=>i≤L.length) 0 (Nat.zero_le _) ?_ ?_)
  rw[pnS.eq_1];refine s_x [] (fun hs=>?_) (fun hs=>?_)
  ·repeat' (first|exact aG|refine aj rfl ?_ ?_|exact Cv.boxp hs rfl (aQ rfl) rfl (cf _ _)|exact Cv.boxp hs rfl (aQ rfl) rfl (eM _ _ _ _)|(refine Cv.loE hs ?_ (ag _);simp[i64];done)|exact aW)
  ·repeat' (first|exact aD|refine h_c ?_ ?_|exact bC|refine aw ?_|exact ay|refine af ?_ ?_|exact Cv.boxp hs rfl (aQ rfl) rfl (cf _ _)|exact Cv.boxp hs rfl (aQ rfl) rfl (eM _ _ _ _)|(refine Cv.loE hs ?_ (ag _);simp[i64];done)|exact aW)
  intro i hi;rw[pnS.eq_1];by_cases hlt:i< L.length;rotate_left;have hge:i=L.length:=by omega
  subst hge;refine q_z 1 ?_;refine ae (cF (aB ⟨(),trivial,?_⟩));exact s_e [];obtain⟨x1,x2,x3,x4,x5⟩:=hx i hlt;have hgx:∀e:Nat,e=i→(pE L)[e]?=some (qC (coP L i)):=fun e he=>by rw[he];exact bK (bm hlt)
  have hE:=eI g (coP L i) x3;have hH:=fs_aHas s.1 s.2 (coP L i) s1 s2 (gG mL i) ⟨x1,x2⟩;have hA:=eH (aA g (coP L i));have hC:=dJ (cI (aA g (coP L i))) lo (by unfold sm;rw[qs_abs];exact x4) ml;have hS:=b6 (aA g (coP L i));have hcl:¬cZ (cI (aA g (coP L i))) lo< 0:=fun e=>by have:=cq_lt.1 e;grind
  refine q_z 1 ?_;refine ae (cT (an (ae (ak (s_r 6 ?_)))));refine a_1 ?_
  first|refine ax (.index_l rfl rfl (by omega) (by omega) te_29.h) rfl rfl ?_|refine ax (.index_a rfl rfl (by omega) (hgx _ (by omega)) rfl te_29.h) rfl rfl ?_
  first|refine ax (.load_l rfl rfl (hgx _ (by omega)) TG.h TS.h (nle rfl)) rfl rfl ?_|refine ax (.load_a rfl (hgx _ (by omega)) TG.h TS.h (nle rfl)) rfl rfl ?_
  refine a_z ?_;refine r_c 5 (hE) ?_;refine a_z ?_;cases i with
  |zero=>
   refine ae (r_d hmix 30 ?_);refine c_s (hH) ?_;refine e_s (hA) ?_;refine e_s (hC) ?_;refine d_4 ?_;refine bv rfl rfl rfl (.bin rfl rfl (vF fl (rfl))) rfl rfl ?_;refine d_8 ?_;refine d_7 ?_;refine aq (n_k ?_);refine cF (an (r_m 2 ?_));refine a_z ?_;refine⟨0+1,by omega,by omega,?_⟩;rw[pnS.eq_1];exact s_x [] (fun hs=>e_47) (fun hs=>e_48)
  |succ i=>
   obtain⟨y1,y2,y3,y4,y5⟩:=hx i (by omega);have hgy:∀e:Nat,e=i→(pE L)[e]?=some (qC (coP L i)):=fun e he=>by rw[he];exact bK (bm (by omega))
   have hE2:=eI g (coP L i) y3;have hS2:=b6 (aA g (coP L i));refine ae (r_d hmix 30 ?_);refine c_s (hH) ?_;refine e_s (hA) ?_;refine e_s (hC) ?_;refine e_s (hS) ?_;refine d_5 ?_
   first|refine bv rfl rfl rfl (.index_l rfl rfl (by omega) (by omega) te_29.h) rfl rfl ?_|refine bv rfl rfl rfl (.index_a rfl rfl (by omega) (hgy _ (by omega)) rfl te_29.h) rfl rfl ?_
   first|refine bv rfl rfl rfl (.load_l rfl rfl (hgy _ (by omega)) TG.h TS.h (nle rfl)) rfl rfl ?_|refine bv rfl rfl rfl (.load_a rfl (hgy _ (by omega)) TG.h TS.h (nle rfl)) rfl rfl ?_
   refine c_s (hE2) ?_;refine c_s (hS2) ?_;refine bv rfl rfl rfl (.bin rfl rfl (vF aV (neI (ha i hlt)))) rfl rfl ?_;refine d_2 ?_;refine aq (n_k ?_);refine cF (an (r_m 2 ?_));refine a_z ?_;refine⟨i+1+1,by omega,by omega,?_⟩;rw[pnS.eq_1];exact s_x [] (fun hs=>e_47) (fun hs=>e_48)
 rintro _ _;refine r_z 1 ?_;exact am (t_e (ag _))
end Go.Proofs.YtjgokhkahkmpbaaGreatDoor
