/- Part Y29 of the proof. -/
import Derived.Test.YtjgokhkahkmpbaaGreatDoorY28
import Derived.ProofKit
import Derived.OpenShut
import Derived.Carry
import Derived.Deep.Slices
import Derived.Deep.Strs
import Derived.ChangeSame
import Derived.ChangeArms
set_option linter.all false
namespace Go.Proofs.YtjgokhkahkmpbaaGreatDoor
open Go.Abs
set_option maxRecDepth 20000
set_option maxHeartbeats 1000000
theorem dec_one{n:Nat}(h:Lib.decDigits n=[49]):n=1:=by
 by_cases h1:n< 10;rw[Lib.decDigits_one h1] at h;have:∀n,n< 10->[UInt8.ofNat (48+n)]=[49]->n=1:=δ
 exact this n h1 h;have h2:=Lib.decDigits_length n;rw[h,Lib.nDigits_big h1] at h2;have:=Lib.nDigits_pos (n/ 10);simp at h2;omega
theorem CP(n:Nat):ztx (n:Int)=Lib.decDigits n:=by
 unfold ztx;rw[if_neg ω,Int.natAbs_natCast];rfl
theorem CQ(z:Int):(ztx z).length<=bl z.natAbs+2:=by
 have:=uN z.natAbs;unfold ztx;split <;> simp <;> omega
theorem Hg(x:RQ)(hx:rok x)(h:qs x.1<=68719476736):FS 68 [.agg (rC x)] (tx (qtx x.1)):=by
 have hn:=Nat.le_trans (dB x.1) h;have hd:=Nat.le_trans (dp x.1) h;have zn:=Ad x.1.num hn;have zd:=Ad (x.1.den:Int) (by rw[Int.natAbs_natCast];exact hd);have ln:=CQ x.1.num;have ld:=CQ (x.1.den:Int);rw[Int.natAbs_natCast] at ld;have hcx:Closed (.aptr [rC x] 0 0):=aW (fi x);refine f_c Tryz.func68 ?_;refine r_z 2 ?_;by_cases h1:x.1.den=1;have e1:decide (ztx (x.1.den:Int)=[49])=true:=decide_eq_true (by rw[h1];decide+kernel);refine ac (r_c 4 (fR x hx) ?_);refine c_s (zd) ?_;refine o_0 (.bin rfl rfl (vT gX e1)) ?_;refine ao ?_;refine cT (r_c 4 (zn) ?_);refine a_z ?_;exact an (aR rfl (by rw[Gi,if_pos h1,List.append_nil]) (ag _));have e1:decide (ztx (x.1.den:Int)=[49])=false:=decide_eq_false λe=>h1 (dec_one (by rw[<-CP];exact e));refine ac (r_c 4 (fR x hx) ?_);refine c_s (zd) ?_;refine o_0 (.bin rfl rfl (vF gX e1)) ?_;refine ao ?_;refine cF (am (ac (r_d hmix 9 ?_)));refine c_s (zn) ?_;refine o_0 (.bin rfl rfl (eQ (m:=[47]) χ)) ?_;refine c_s (fR x hx) ?_;refine c_s (zd) ?_;refine o_0 (.bin rfl rfl (eQ χ)) ?_;refine a_1 ?_;refine ao (n_k ?_);exact an (aR rfl (by rw[Gi,if_neg h1,CP,List.append_assoc];rfl) (ag _))
theorem Hw(q:Rat)(x:RQ)(hx:rok x)(h:x.1=q)(hs:qs q<=68719476736):FS 16 [.agg (qC q),.agg (rC x)] (bln true):=by
 subst h;have e1:decide (qtx x.1=qtx x.1)=true:=decide_eq_true rfl;refine f_c Tryz.func16 ?_;refine r_z 3 ?_;refine ac (r_d hmix 6 ?_);refine c_s (EU x.1 hs) ?_;refine c_s (Hg x hx hs) ?_;refine o_0 (.bin rfl rfl (vT gX e1)) ?_;refine a_1 ?_;refine ao (n_k ?_);exact an (t_e (ag _))
def vR(x:List RQ):Lq:=x.map (·.1)
def okX(x:List RQ):Prop:=∀y∈x,rok y
def nO(x:List RQ):List RQ:=x.take (aA (vR x)).length
theorem CU(x:List RQ):vR (nO x)=aA (vR x):=by
 unfold nO;rw[vR,List.map_take];exact(qq (vR x)).symm
theorem Gx{x:List RQ}(h:okX x):okX (nO x):=λy hy=>h y (List.mem_of_mem_take hy)
@[simp] theorem mU (x:List RQ):(vR x).length=x.length:=by simp[vR]
def lkS(l:Lq)(x:List RQ):Nat->AState
 |i=>⟨[(0,.arr (pE l)),(1,.arr (rE x)),(5,i64 i)],[],1,27⟩
theorem HD(l:Lq)(x:List RQ)(hx:okX x)(h:vR x=l)(hs:bdL l 68719476736)(hl:l.length<=1099511627776):FS 67 [.arr (pE l),.arr (rE x)] (bln true):=by
 have hxl:x.length=l.length:=by rw[<-h];simp
 refine f_c Tryz.func67 ?_;refine r_z 1 ?_;refine ac (s_r 5 ?_);refine a_4 ?_;refine o_0 (.bin rfl rfl (vF bO ((by rw[hxl];simp)))) ?_;refine ao ?_;refine cF (am (ac (r_z 1 ?_)));refine aG (λ_:Unit=>⟨[(0,.arr (pE l)),(1,.arr (rE x))],[],1,27⟩) (λ_=>True) ?_ ?_;refine ak (aC (lkS l x) (λi=>l.length- i) (λi=>i<=l.length) 0 (Nat.zero_le _) ?_ ?_);simp only[lkS.eq_1];exact s_e [];rintro i hi;simp only[lkS.eq_1];by_cases hlt:i< l.length;obtain⟨y,hy⟩:∃y,x[i]?=some y:=⟨_,List.getElem?_eq_getElem ω⟩;have hq:l[i]?=some y.1:=by rw[<-h,vR,List.getElem?_map,hy];rfl
 have g1:(pE l)[((i:Nat):Int).toNat]?=some (qC y.1):=cj hq;have g2:(rE x)[((i:Nat):Int).toNat]?=some (rC y):=mh hy;refine ac (q_z 4 ?_);refine cT (am (ac (ak (ac (r_d hmix 10 ?_)))));refine a_2 ?_;refine i_x g1 ?_;refine l_x g1 ?_;refine a_2 ?_;refine i_x g2 ?_;refine l_x g2 ?_;refine c_s (Hw y.1 y (hx y (List.mem_of_getElem? hy)) rfl (hs _ (List.mem_of_getElem? hq))) ?_;refine a_1 ?_;refine ao (n_k ?_);refine cF (am (r_m 3 ?_));refine a_z ?_;refine⟨i+1,ω,hlt,?_⟩;exact s_e [];refine ac (q_z 4 ?_);refine cF (aB ⟨(),trivial,?_⟩);exact s_e [];rintro _ _;refine r_z 1 ?_;exact an (t_e (ag _))
def rtmS(x:List RQ):Nat->AState
 |n=>⟨[(0,.arr (rE x)),(3,i64 n)],[],1,23⟩
theorem mD(x:List RQ)(hl:x.length<=1099511627776):FS 36 [.arr (rE x)] (.arr (rE (nO x))):=by
 obtain⟨v,hv⟩:∃v,v=vR x:=⟨_,rfl⟩;have hvl:v.length=x.length:=by rw[hv];simp
 refine f_c Tryz.func36 ?_;refine r_z 1 ?_;refine r_z 3 ?_;refine bi (rtmS x) (λn=>n<=v.length/\aA v=v.take n) ?_ ?_;refine ak (aC (rtmS x) (λn=>n) (λn=>n<=v.length/\aA v=aA (v.take n)) v.length ⟨Nat.le_refl _,by rw[List.take_length]⟩ ?_ ?_);simp only[rtmS.eq_1];rw[hvl];exact s_e [];rintro n ⟨hn,ht⟩;simp only[rtmS.eq_1];cases n with
 |zero=>
  refine ac (s_r 11 ?_);refine a_1 ?_;refine o_0 (.bin rfl rfl (vF ct (ψ))) ?_;refine a_z ?_;refine cF (aB ⟨0,⟨Nat.zero_le _,?_⟩,?_⟩);rw[ht];rfl;simp only[rtmS.eq_1];exact s_e []
 |succ n=>
  obtain⟨y,hy⟩:∃y,x[n]?=some y:=⟨_,List.getElem?_eq_getElem ω⟩;have hq:v[n]?=some y.1:=by rw[hv,vR,List.getElem?_map,hy];rfl
  have g2:(rE x)[(((n+1:Nat):Int)- 1).toNat]?=some (rC y):=by
   rw[show(((n+1:Nat):Int)- 1).toNat=n by omega];exact mh hy
  have hs:aA (v.take (n+1))=if y.1=0 then aA (v.take n) else v.take (n+1):=by
   rw[dO hq,kY]
  by_cases h0:y.1=0;refine ac (s_r 11 ?_);refine d_6 ?_
  first|refine ap rfl rfl rfl (.index_l rfl rfl ω ω te_32.h) rfl rfl ?_|refine ap rfl rfl rfl (.index_a rfl rfl ω g2 rfl te_32.h) rfl rfl ?_
  first|refine ap rfl rfl rfl (.load_l rfl rfl g2 TG.h TS.h (nle rfl)) rfl rfl ?_|refine ap rfl rfl rfl (.load_a rfl g2 TG.h TS.h (nle rfl)) rfl rfl ?_
  refine c_s (pQ y) ?_;refine ap rfl rfl rfl (.bin rfl rfl (vT aM ((by rw[h0];decide)))) rfl rfl ?_;refine a_z ?_;refine cT (am (ak (r_m 3 ?_)));refine a_z ?_;refine⟨n,Nat.lt_succ_self n,⟨ω,?_⟩,?_⟩;rw[ht,hs,if_pos h0];exact s_e []
  have hz:(sgZ y.1.num==(0:Int))=false:=by
   rw[beq_eq_false_iff_ne];exact λe=>h0 (sgZ_num_eq.1 e)
  refine ac (s_r 11 ?_);refine d_6 ?_
  first|refine ap rfl rfl rfl (.index_l rfl rfl ω ω te_32.h) rfl rfl ?_|refine ap rfl rfl rfl (.index_a rfl rfl ω g2 rfl te_32.h) rfl rfl ?_
  first|refine ap rfl rfl rfl (.load_l rfl rfl g2 TG.h TS.h (nle rfl)) rfl rfl ?_|refine ap rfl rfl rfl (.load_a rfl g2 TG.h TS.h (nle rfl)) rfl rfl ?_
  refine c_s (pQ y) ?_;refine ap rfl rfl rfl (.bin rfl rfl (vF aM (hz))) rfl rfl ?_;refine a_z ?_;refine cF (aB ⟨n+1,⟨hn,?_⟩,?_⟩);rw[ht,hs,if_neg h0];simp only[rtmS.eq_1];exact s_e []
 rintro n ⟨hn,ht⟩;simp only[rtmS.eq_1];have hnl:(aA v).length=n:=by rw[ht];simp;omega
 have htr:nO x=x.take n:=by unfold nO;rw[<-hv,hnl]
 cases n with
 |zero=>
  refine s_r 5 ?_;refine a_2 ?_;refine o_0 (.sa_h rfl rfl (h:=0) rfl ψ te_32.h (jf _)) ?_;refine o_0 (.append0 rfl rfl rfl te_32.h rfl rfl rfl (.arr (es:=[]) ψ)) ?_;refine a_z ?_;refine an ?_;rw[htr];exact Fin.tmpN rfl
 |succ n=>
  obtain⟨X,hX⟩:∃X,X=x.take (n+1):=⟨_,rfl⟩;have hXl:X.length=n+1:=by rw[hX];simp;omega
  have hXn:rE X≠[]:=λe=>by have:=congrArg List.length e;simp[hXl] at this
  have e4:(rE x).take (n+1)=rE X:=by rw[rE_take,hX]
  have hXn':(rE x).take (n+1)≠[]:=by rw[e4];exact hXn
  refine s_r 5 ?_;refine a_2 ?_;refine o_0 (.sa_h rfl rfl (h:=n+1) rfl χ te_32.h (jf _)) ?_;refine o_1 (.append_e rfl rfl rfl te_32.h rfl rfl rfl (.arr (by rw[e4];exact jf _)) (by first|assumption|(simp;done)) TZ.h rfl TB.h d_o μ) ?_;refine a_z ?_;refine an ?_;rw[htr,<-hX,<-e4];exact Fin.tmpS rfl rfl rfl rfl (by rw[e4];exact b8 _)
theorem Ae(l:Lq)(x:List RQ)(hx:okX x)(h:aA (vR x)=l)(hs:bdL l 68719476736)(hl:x.length<=1099511627776):FS 15 [.arr (pE l),.arr (rE x)] (bln true):=by
 have hll:l.length<=x.length:=by rw[<-h];have:=cv (vR x);simpa using this
 refine f_c Tryz.func15 ?_;refine r_z 1 ?_;refine r_c 5 (mD x hl) ?_;refine c_s (HD l (nO x) (Gx hx) ((CU x).trans h) hs ω) ?_;refine a_z ?_;exact an (t_e (ag _))
def oS(t n:Nat)(fr:Fr):List RQ->AState
 |[]=>⟨(t,.emp)::fr,[],1,n⟩
 |y::Y=>⟨(t,.lsl 1 0 (Y.length+1) none 4)::fr,[(1,some ⟨49,4,rE (y::Y)⟩)],2,n⟩
theorem j6(t n:Nat)(fr:Fr):oS t n fr []=⟨(t,.emp)::fr,[],1,n⟩:=rfl
theorem eE(t n:Nat)(fr:Fr)(y:RQ)(Y:List RQ):oS t n fr (y::Y)=⟨(t,.lsl 1 0 (Y.length+1) none 4)::fr,[(1,some ⟨49,4,rE (y::Y)⟩)],2,n⟩:=rfl
def rP(v:Lq):List RQ:=v.map rq
theorem qG(v:Lq):okX (rP v):=λy hy=>by obtain⟨q,_,rfl⟩:=List.mem_map.1 hy;exact ft q
theorem kp(v:Lq):vR (rP v)=v:=by
 unfold vR rP;rw[List.map_map];exact List.map_id' v
@[simp] theorem ni (v:Lq):(rP v).length=v.length:=by simp[rP]
theorem tf(v:Lq):nO (rP v)=rP (aA v):=by
 unfold nO;rw[kp,rP,<-List.map_take,<-qq];rfl
theorem qo{x:List RQ}{i:Nat}(h:i< x.length):∃y,x[i]?=some y/\y.1=coP (vR x) i:=by
 refine⟨_,List.getElem?_eq_getElem h,?_⟩;unfold coP vR;rw[List.getD_eq_getElem?_getD,List.getElem?_map,List.getElem?_eq_getElem h];rfl
theorem vG{x:List RQ}{s:Nat}(h:bdL (vR x) s){y:RQ}{i:Nat}(hy:x[i]?=some y):qs y.1<=s:=h _ (List.mem_map.2 ⟨y,List.mem_of_getElem? hy,rfl⟩)
theorem take_succ'{V:Lq}{j:Nat}(h:j< V.length):V.take (j+1)=V.take j++[coP V j]:=dO (bJ h)
theorem EJ(x:List RQ)(k:RQ)(s:Nat)(hx:okX x)(hk:rok k)(hs:bdL (vR x) s)(hlim:s+qs k.1<=1099511627776)(hl:x.length<=1000000):FS 63 [.arr (rE x),.agg (rC k)] (.arr (rE (rP (cI (vR x) k.1)))):=by
 obtain⟨V,hV⟩:∃V,V=aH (vR x).length (λi=>coP (vR x) i* k.1):=⟨_,rfl⟩;refine f_c Tryz.func63 ?_;have hkc:Closed (.aptr [rC k] 0 0):=aW (fi k);refine r_z 2 ?_;refine AWp.ent (st':=⟨[(3,.aptr [rC k] 0 0),(0,.arr (rE x))],[],1,24⟩) ?_ ?_;have:=fi k;exact s_f [];refine r_z 1 ?_;refine ac (r_z 1 ?_);have hVl:V.length=x.length:=by rw[hV];simp
 refine aG (λ_:Unit=>oS 5 24 [(3,.aptr [rC k] 0 0),(0,.arr (rE x))] (rP V)) (λ_=>True) ?_ ?_;refine ak (aC (λj:Nat=>oS 5 24 [(6,i64 ((j:Nat):Int)),(3,.aptr [rC k] 0 0),(0,.arr (rE x))] (rP (V.take j))) (λj=>V.length- j) (λj=>j<=V.length) 0 (Nat.zero_le _) ?_ ?_);show SEnt _ (oS _ _ _ []);rw[j6];exact s_e [];rintro j hj;by_cases hlt:j< V.length;obtain⟨y,hy,hyv⟩:=qo (x:=x) (i:=j) ω;have hyb:=vG hs hy;have hyo:=hx y (List.mem_of_getElem? hy);have hgt:(rE x)[((j:Nat):Int).toNat]?=some (rC y):=mh hy;obtain⟨c,hc⟩:∃c,c=y.1* k.1:=⟨_,rfl⟩;have hco:coP V j=c:=by rw[hV,jZ,if_pos χ,<-hyv,hc]
 have hm:=xE y k hyo hk ω;rw[<-hc] at hm;have htk:=take_succ' hlt;rw[hco] at htk;have hrp:rP (V.take (j+1))=rP (V.take j)++[rq c]:=by rw[htk];simp[rP]
 have hQl:(rP (V.take j)).length=j:=χ
 cases hQ:rP (V.take j) with
 |nil=>
  rw[hQ,List.nil_append] at hrp;simp only[j6];refine ac (q_z 4 ?_);refine cT (am (ac (ak (r_d hmix 10 ?_))));refine a_3 ?_;refine i_x hgt ?_;refine l_x hgt ?_;refine c_s (hm) ?_;refine a_3 ?_;refine ao (n_k ?_);refine r_m 3 ?_;refine a_z ?_;refine⟨j+1,ω,hlt,?_⟩;rw[hrp,eE];exact s_f [(1,5)]
 |cons q Q=>
  rw[hQ] at hQl;rw[hQ,List.cons_append] at hrp;simp at hQl;simp only[eE];refine ac (q_z 4 ?_);refine cT (am (ac (ak (r_d hmix 10 ?_))));refine a_3 ?_;refine i_x hgt ?_;refine l_x hgt ?_;refine c_s (hm) ?_;refine a_3 ?_;refine ao (n_k ?_);refine r_m 3 ?_;refine a_z ?_;refine⟨j+1,ω,hlt,?_⟩;rw[hrp,eE];have e:rE (q::Q)++[rC (rq c)]=rE (q::(Q++[rq c])):=by simp[rE]
  exact s_x [(1,5)] (λhs=>cN) (λhs=>e_12) e_2
 have hge:j=V.length:=ω
 subst hge;rw[List.take_length];cases hQ:rP V with
 |nil=>
  simp only[j6];refine ac (q_z 4 ?_);refine cF (aB ⟨(),trivial,?_⟩);exact s_e []
 |cons q Q=>
  simp only[eE];refine ac (q_z 4 ?_);refine cF (aB ⟨(),trivial,?_⟩);exact s_f [(1,5)]
 rintro _ _;have htr:=mD (rP V) χ;rw[tf] at htr;cases hQ:rP V with
 |nil=>
  rw[hQ] at htr;simp only[j6];refine r_c 3 (htr) ?_;refine a_z ?_;refine an (aR rfl ?_ ?_);rw[hV];rfl;exact bp _
 |cons q Q=>
  rw[hQ] at htr;simp only[eE];refine s_r 3 ?_;refine a_1 ?_;refine o_1 (.callS1 rfl rfl rfl (.shut rfl d_n (.nil)) rfl ((FSpec.argE htr π))) ?_;refine a_z ?_;refine an (aR rfl ?_ ?_);rw[hV];rfl;exact bp _
@[simp] theorem trimR_length (x:List RQ):(nO x).length=(aA (vR x)).length:=by rw[<-CU,mU]
theorem Hj(x y:List RQ)(s t:Nat)(hx:okX x)(hy:okX y)(hs:bdL (vR x) s)(ht:bdL (vR y) t)(hlim:s+t+64<=1099511627776)(hxl:x.length<=1000000)(hyl:y.length<=1000000):FS 64 [.arr (rE x),.arr (rE y)] (.arr (rE (rP (lR (vR x) (vR y))))):=by
 obtain⟨V,hV⟩:∃V,V=aH (max (vR x).length (vR y).length) (λi=>coP (vR x) i+coP (vR y) i):=⟨_,rfl⟩;have hi0:FS 59 [i64 0] (.agg (rC (rq 0))):=xF 0 δ;have q0:qs (rq 0).1<=64:=δ
 refine f_c Tryz.func64 ?_;refine r_z 1 ?_;refine r_z 1 ?_;refine ac (r_z 1 ?_);have hVl:V.length=max x.length y.length:=by rw[hV];simp
 refine aG (λ_:Unit=>oS 5 47 [(0,.arr (rE x)),(1,.arr (rE y))] (rP V)) (λ_=>True) ?_ ?_;refine ak (aC (λj:Nat=>oS 5 47 [(6,i64 ((j:Nat):Int)),(0,.arr (rE x)),(1,.arr (rE y))] (rP (V.take j))) (λj=>V.length- j) (λj=>j<=V.length) 0 (Nat.zero_le _) ?_ ?_);show SEnt _ (oS _ _ _ []);rw[j6];exact s_e [];rintro j hj;have hQl:(rP (V.take j)).length=j:=χ
 by_cases hjx:j< x.length;by_cases hjy:j< y.length;obtain⟨a,ha,hav⟩:=qo (x:=x) (i:=j) hjx;have hab:=vG hs ha;have hao:=hx a (List.mem_of_getElem? ha);have hgx:(rE x)[((j:Nat):Int).toNat]?=some (rC a):=mh ha;obtain⟨b,hb,hbv⟩:=qo (x:=y) (i:=j) hjy;have hbb:=vG ht hb;have hbo:=hy b (List.mem_of_getElem? hb);have hgy:(rE y)[((j:Nat):Int).toNat]?=some (rC b):=mh hb;obtain⟨c,hc⟩:∃c,c=a.1+b.1:=⟨_,rfl⟩;have hco:coP V j=c:=by rw[hV,jZ,if_pos χ,<-hav,<-hbv,hc]
 have m1:=pR (rq 0) a (ft _) hao ω;rw[show(rq 0).1+a.1=a.1 from Rat.zero_add _] at m1;have m2:=pR (rq a.1) b (ft _) hbo (by show qs a.1+qs b.1<=_;omega);rw[show(rq a.1).1+b.1=c by rw[hc];rfl] at m2;have htk:=take_succ' (V:=V) (j:=j) ω;rw[hco] at htk;have hrp:rP (V.take (j+1))=rP (V.take j)++[rq c]:=by rw[htk];simp[rP]
 cases hQ:rP (V.take j) with
 |nil=>
  rw[hQ,List.nil_append] at hrp;simp only[j6];refine ac (q_z 10 ?_);refine cT (am (ac (ak (r_c 3 (hi0) ?_))));refine a_z ?_;refine ac (q_z 4 ?_);refine cT (r_d hmix 7 ?_);refine a_3 ?_;refine i_x hgx ?_;refine l_x hgx ?_;refine c_s (m1) ?_;refine a_1 ?_;refine ao (n_k ?_);refine ac (q_z 4 ?_);refine cT (r_d hmix 7 ?_);refine a_3 ?_;refine i_x hgy ?_;refine l_x hgy ?_;refine c_s (m2) ?_;refine a_1 ?_;refine ao (n_k ?_);refine r_m 5 ?_;refine a_z ?_;refine r_m 3 ?_;refine a_z ?_;refine⟨j+1,ω,ω,?_⟩;rw[hrp,eE];exact s_f [(1,5)]
 |cons q Q=>
  rw[hQ] at hQl;rw[hQ,List.cons_append] at hrp;simp at hQl;simp only[eE];refine ac (q_z 10 ?_);refine cT (am (ac (ak (r_c 3 (hi0) ?_))));refine a_z ?_;refine ac (q_z 4 ?_);refine cT (r_d hmix 7 ?_);refine a_3 ?_;refine i_x hgx ?_;refine l_x hgx ?_;refine c_s (m1) ?_;refine a_1 ?_;refine ao (n_k ?_);refine ac (q_z 4 ?_);refine cT (r_d hmix 7 ?_);refine a_3 ?_;refine i_x hgy ?_;refine l_x hgy ?_;refine c_s (m2) ?_;refine a_1 ?_;refine ao (n_k ?_);refine r_m 5 ?_;refine a_z ?_;refine r_m 3 ?_;refine a_z ?_;refine⟨j+1,ω,ω,?_⟩;rw[hrp,eE];have e:rE (q::Q)++[rC (rq c)]=rE (q::(Q++[rq c])):=by simp[rE]
  exact s_x [(1,5)] (λhs=>cN) (λhs=>e_12) e_2
 obtain⟨a,ha,hav⟩:=qo (x:=x) (i:=j) hjx;have hab:=vG hs ha;have hao:=hx a (List.mem_of_getElem? ha);have hgx:(rE x)[((j:Nat):Int).toNat]?=some (rC a):=mh ha;obtain⟨c,hc⟩:∃c,c=a.1:=⟨_,rfl⟩;have hco:coP V j=c:=by rw[hV,jZ,if_pos χ,<-hav,lJ (p:=vR y) χ,Rat.add_zero,hc]
 have m1:=pR (rq 0) a (ft _) hao ω;rw[show(rq 0).1+a.1=a.1 from Rat.zero_add _] at m1;rw[<-hc] at m1;have htk:=take_succ' (V:=V) (j:=j) ω;rw[hco] at htk;have hrp:rP (V.take (j+1))=rP (V.take j)++[rq c]:=by rw[htk];simp[rP]
 cases hQ:rP (V.take j) with
 |nil=>
  rw[hQ,List.nil_append] at hrp;simp only[j6];refine ac (q_z 10 ?_);refine cT (am (ac (ak (r_c 3 (hi0) ?_))));refine a_z ?_;refine ac (q_z 4 ?_);refine cT (r_d hmix 7 ?_);refine a_3 ?_;refine i_x hgx ?_;refine l_x hgx ?_;refine c_s (m1) ?_;refine a_1 ?_;refine ao (n_k ?_);refine ac (q_z 4 ?_);refine cF (am (r_m 5 ?_));refine a_z ?_;refine r_m 3 ?_;refine a_z ?_;refine⟨j+1,ω,ω,?_⟩;rw[hrp,eE];exact s_f [(1,5)]
 |cons q Q=>
  rw[hQ] at hQl;rw[hQ,List.cons_append] at hrp;simp at hQl;simp only[eE];refine ac (q_z 10 ?_);refine cT (am (ac (ak (r_c 3 (hi0) ?_))));refine a_z ?_;refine ac (q_z 4 ?_);refine cT (r_d hmix 7 ?_);refine a_3 ?_;refine i_x hgx ?_;refine l_x hgx ?_;refine c_s (m1) ?_;refine a_1 ?_;refine ao (n_k ?_);refine ac (q_z 4 ?_);refine cF (am (r_m 5 ?_));refine a_z ?_;refine r_m 3 ?_;refine a_z ?_;refine⟨j+1,ω,ω,?_⟩;rw[hrp,eE];have e:rE (q::Q)++[rC (rq c)]=rE (q::(Q++[rq c])):=by simp[rE]
  exact s_x [(1,5)] (λhs=>cN) (λhs=>e_12) e_2
 by_cases hjy:j< y.length;obtain⟨b,hb,hbv⟩:=qo (x:=y) (i:=j) hjy;have hbb:=vG ht hb;have hbo:=hy b (List.mem_of_getElem? hb);have hgy:(rE y)[((j:Nat):Int).toNat]?=some (rC b):=mh hb;obtain⟨c,hc⟩:∃c,c=b.1:=⟨_,rfl⟩;have hco:coP V j=c:=by rw[hV,jZ,if_pos χ,lJ (p:=vR x) χ,<-hbv,Rat.zero_add,hc]
 have m2:=pR (rq 0) b (ft _) hbo ω;rw[show(rq 0).1+b.1=c by rw[hc];exact Rat.zero_add _] at m2;have htk:=take_succ' (V:=V) (j:=j) ω;rw[hco] at htk;have hrp:rP (V.take (j+1))=rP (V.take j)++[rq c]:=by rw[htk];simp[rP]
 cases hQ:rP (V.take j) with
 |nil=>
  rw[hQ,List.nil_append] at hrp;simp only[j6];refine ac (q_z 10 ?_);refine cT (am (ac (ak (r_c 3 (hi0) ?_))));refine a_z ?_;refine ac (q_z 4 ?_);refine cF (am (ac (q_z 4 ?_)));refine cT (r_d hmix 7 ?_);refine a_3 ?_;refine i_x hgy ?_;refine l_x hgy ?_;refine c_s (m2) ?_;refine a_1 ?_;refine ao (n_k ?_);refine r_m 5 ?_;refine a_z ?_;refine r_m 3 ?_;refine a_z ?_;refine⟨j+1,ω,ω,?_⟩;rw[hrp,eE];exact s_f [(1,5)]
 |cons q Q=>
  rw[hQ] at hQl;rw[hQ,List.cons_append] at hrp;simp at hQl;simp only[eE];refine ac (q_z 10 ?_);refine cT (am (ac (ak (r_c 3 (hi0) ?_))));refine a_z ?_;refine ac (q_z 4 ?_);refine cF (am (ac (q_z 4 ?_)));refine cT (r_d hmix 7 ?_);refine a_3 ?_;refine i_x hgy ?_;refine l_x hgy ?_;refine c_s (m2) ?_;refine a_1 ?_;refine ao (n_k ?_);refine r_m 5 ?_;refine a_z ?_;refine r_m 3 ?_;refine a_z ?_;refine⟨j+1,ω,ω,?_⟩;rw[hrp,eE];have e:rE (q::Q)++[rC (rq c)]=rE (q::(Q++[rq c])):=by simp[rE]
  exact s_x [(1,5)] (λhs=>cN) (λhs=>e_12) e_2
 have hge:V.take j=V:=List.take_of_length_le ω;rw[hge];cases hQ:rP V with
 |nil=>
  simp only[j6];refine ac (q_z 10 ?_);refine cF (aB ⟨(),trivial,?_⟩);exact s_e []
 |cons q Q=>
  simp only[eE];refine ac (q_z 10 ?_);refine cF (aB ⟨(),trivial,?_⟩);exact s_f [(1,5)]
 rintro _ _;have htr:=mD (rP V) χ;rw[tf] at htr;cases hQ:rP V with
 |nil=>
  rw[hQ] at htr;simp only[j6];refine r_c 3 (htr) ?_;refine a_z ?_;refine an (aR rfl ?_ ?_);rw[hV];rfl;exact bp _
 |cons q Q=>
  rw[hQ] at htr;simp only[eE];refine s_r 3 ?_;refine a_1 ?_;refine o_1 (.callS1 rfl rfl rfl (.shut rfl d_n (.nil)) rfl ((FSpec.argE htr π))) ?_;refine a_z ?_;refine an (aR rfl ?_ ?_);rw[hV];rfl;exact bp _
theorem Bx{x y:List RQ}(hx:okX x)(hy:okX y):okX (x++y):=λz hz=>(List.mem_append.1 hz).elim (hx z) (hy z)
theorem En(n:Nat):okX (List.replicate n r0):=λz hz=>by rw[List.eq_of_mem_replicate hz];exact rok_r0
theorem vH(x y:List RQ):vR (x++y)=vR x++vR y:=by simp[vR]
theorem yH(n:Nat):vR (List.replicate n r0)=List.replicate n 0:=by simp[vR,r0]
def zR4:La:=[i64 0,.emp,i64 0,.emp]
theorem le_zR4:LeL zR4 (rC r0):=by
 rw[show rC r0=[i64 0,.arr [],i64 0,.arr []] from rC_r0];exact .cons (.refl _) (.cons .emp (.cons (.refl _) (.cons .emp .nil)))
theorem CB:∀c∈zR4,Closed c:=ae (ag _) (ae aK (ae (ag _) (ae aK ai)))
theorem uh(L:List RQ):∀n,LeLL (List.replicate n zR4++rE L) (rE (List.replicate n r0++L))
 |0=>LeLL.refl _
 |n+1=> .cons le_zR4 (uh L n)
theorem ym(n:Nat)(L:List RQ):Closed (.arr (List.replicate n zR4++rE L)):=aU λc hc=>(List.mem_append.1 hc).elim (λh=>by rw[List.eq_of_mem_replicate h];exact CB) (b8 L c)
theorem FSpec.zerosR{P:Program}{f n:Nat}{L:List RQ}{a r:AV}(h:FSpec P f [a,.arr (rE (List.replicate n r0++L))] r)(ha:Closed a):FSpec P f [a,.arr (List.replicate n zR4++rE L)] r:=
 h.weak (.cons (Le.refl _) (.cons (Le.arr (uh L n)) .nil)) (ae ha (ae (ym n L) ai))
theorem zR4_one(n:Nat):(List.replicate n zR4).all (·.all AV.one)=true:=by
 simp only[List.all_replicate];cases n <;> rfl
theorem Hi(x y:List RQ)(s t B:Nat)(hx:okX x)(hy:okX y)(hs:bdL (vR x) s)(ht:bdL (vR y) t)(hs1:1<=s)(hB:∀n,n<=y.length->bdL (mR (vR x) (vR y) n) B)(hlim:s+t+B+64<=1099511627776)(hxl:x.length<=100000)(hyl:y.length<=100000):FS 74 [.arr (rE x),.arr (rE y)] (.arr (rE (rP (ep (vR x) (vR y))))):=by
 obtain⟨m,hm⟩:∃m,m=mR (vR x) (vR y):=⟨_,rfl⟩;rw[<-hm] at hB;refine f_c Tryz.func74 ?_;refine r_z 1 ?_;refine r_z 1 ?_;refine ac (r_z 1 ?_);refine aG (λ_:Unit=>⟨[(5,.arr (rE (rP (m y.length)))),(0,.arr (rE x)),(1,.arr (rE y))],[],1,25⟩) (λ_=>True) ?_ ?_;refine ak (aC (λj:Nat=>⟨[(6,i64 ((j:Nat):Int)),(5,.arr (rE (rP (m j)))),(0,.arr (rE x)),(1,.arr (rE y))],[],1,25⟩) (λj=>y.length- j) (λj=>j<=y.length) 0 (Nat.zero_le _) ?_ ?_);rw[hm];exact s_e [];rintro j hj;by_cases hlt:j< y.length
 ·obtain⟨b,hb,hbv⟩:=qo (x:=y) (i:=j) hlt
  have hbb:=vG ht hb;have hbo:=hy b (List.mem_of_getElem? hb);have hgt:(rE y)[((j:Nat):Int).toNat]?=some (rC b):=mh hb;have h1:=EJ x b s hx hbo hs ω ω;have hl1:=BE (vR x) (vR y) j;rw[<-hm,mU] at hl1;have hl2:=eB (vR x) b.1;rw[mU] at hl2
  have hz:bdL (vR (List.replicate j r0++rP (cI (vR x) b.1))) (s+qs b.1):=by
   rw[vH,yH,kp];intro q hq;rcases List.mem_append.1 hq with h|h
   rw[List.eq_of_mem_replicate h];have:qs 0=1:=δ
   omega;exact CM hs hs1 q h
  have h2:=Hj (rP (m j)) (List.replicate j r0++rP (cI (vR x) b.1)) B (s+qs b.1) (qG _) (Bx (En _) (qG _)) (by rw[kp];exact hB j ω) hz ω (by rw[ni];omega) (by rw[List.length_append,List.length_replicate,ni];omega)
  have hnx:lR (vR (rP (m j))) (vR (List.replicate j r0++rP (cI (vR x) b.1)))=m (j+1):=by
   rw[kp,vH,yH,kp,hm,mR,<-hbv];rfl
  rw[hnx] at h2;refine ac (q_z 4 ?_);refine cT (am (ac (ak ?_)));have h3:=FSpec.zerosR h2 (bp _);refine r_d hmix 12 ?_;refine a_6 ?_;refine i_x hgt ?_;refine l_x hgt ?_;refine c_s (h1) ?_;refine o_2 (.append_l rfl rfl rfl te_32.h rfl rfl rfl rfl rfl d_o (zR4_one _) (cS _) rfl (.arr (jf _)) TZ.h rfl TB.h d_o μ) ?_;refine o_1 (.callS1 rfl rfl rfl (.keep (.shut rfl d_n (.nil))) rfl ((FSpec.argE2 h3 π))) ?_;refine a_1 ?_;refine ao (n_k ?_);refine r_m 3 ?_;refine a_z ?_;refine⟨j+1,ω,hlt,?_⟩;exact s_e []
 have hge:j=y.length:=ω
 subst hge;refine ac (q_z 4 ?_);refine cF (aB ⟨(),trivial,?_⟩);exact s_e [];rintro _ _;refine r_z 2 ?_;refine an ?_;have e:m y.length=ep (vR x) (vR y):=by rw[hm,<-BD,mU]
 rw[e];exact t_e (bp _)









end Go.Proofs.YtjgokhkahkmpbaaGreatDoor
namespace Go.Proofs.YtjgokhkahkmpbaaGreatDoor
open Go.Abs Go.Deep Go.RowKit
set_option maxRecDepth 20000
theorem HF{M:Nat->Prop}{β:Bq}{w:World}{b s off:Nat}{f:Nat->La}:∀(n j:Nat),(∀i,i< j+n->(f i).length=s/\RVcs M β w b (f i) (off+i* s))->RVess M β w b s ((List.range' j n).map f) (off+j* s)
 |0,_,_=>trivial
 |n+1,j,h=>by
  rw[List.range'_succ,List.map_cons];refine⟨(h j ω).1,(h j ω).2,?_⟩;have:=HF (M:=M) (β:=β) (w:=w) (b:=b) (s:=s) (off:=off) n (j+1) (λi hi=>h i ω);rwa[Nat.add_mul,Nat.one_mul,<-Nat.add_assoc] at this
theorem wV{w:World}{b o:Nat}{v:Value}(h:w.cell? ⟨b,o,none⟩=some v):∃N,aL w b=some N:=by
 unfold World.cell? at h;unfold aL;split at h
 ·rename_i c _ _ e;rw[show w.heap[b]?=_ from e];exact⟨c.size,rfl⟩
 cases h
theorem tyS:(Tryz.prog).underlying 22=some (.slice 24):=by kernel_rfl
theorem tyN:∃f0 f1 f2,(Tryz.prog).underlying 24=some (.struct #[f0,f1,f2])/\f0.type=2/\f0.offset=0/\f1.type=2/\f1.offset=1/\f2.type=5/\f2.offset=2:=
 ⟨{name:= "N",type:=2,offset:=0,embedded:=false,tag:= "",pkgPath:= "",byteOffset:=0},{name:= "D",type:=2,offset:=1,embedded:=false,tag:= "",pkgPath:= "",byteOffset:=8},{name:= "Pow",type:=5,offset:=2,embedded:=false,tag:= "",pkgPath:= "",byteOffset:=16},by kernel_rfl,rfl,rfl,rfl,rfl,rfl,rfl⟩
theorem tyc82:(Tryz.prog).cellsOf 24=3:=by kernel_rfl
theorem tyc2:(Tryz.prog).cellsOf 2=1:=by kernel_rfl
theorem tyc5:(Tryz.prog).cellsOf 5=1:=by kernel_rfl
theorem tyu2:(Tryz.prog).underlying 2=some (.int .i64):=by kernel_rfl
theorem tyu5:(Tryz.prog).underlying 5=some (.int .u8):=by kernel_rfl
theorem num_of{H:Type}{enc:TypeId×Value->H}{W:World}{base n:Nat}{spare:Nat->Bool}{held:Bool}{cs:List Value}{x:DataW H×List MemPlace}(h:DataW.trod enc Tryz.prog W base spare held n 24 cs=some x):
    ∃r:kX,lZ r.1/\lZ r.2.1/\r.2.2<=255/\cs=[.int .i64 r.1,.int .i64 r.2.1,.int .u8 r.2.2]:=by
 obtain⟨f0,f1,f2,hu,h1,h2,h3,h4,h5,h6⟩:=tyN;obtain⟨y0,y1,y2,m,_,hl,g0,g1,g2⟩:=trod_struct3 hu h;rw[h1,h2,tyc2] at g0;rw[h3,h4,tyc2] at g1;rw[h5,h6,tyc5] at g2;rw[tyc82] at hl;obtain⟨n0,e0,_,w0⟩:=DataW.trod_int tyu2 g0;obtain⟨n1,e1,_,w1⟩:=DataW.trod_int tyu2 g1;obtain⟨n2,e2,_,w2⟩:=DataW.trod_int tyu5 g2
 match cs,hl with
 |[c0,c1,c2],_=>
  simp at e0 e1 e2;subst e0;subst e1;subst e2;have b2:=bounds_u8 w2;refine⟨(n0,n1,n2.toNat),bounds_i64 w0,bounds_i64 w1,?_,?_⟩;show n2.toNat<=255;omega;show _=[_,_,Value.int .u8 ((n2.toNat:Nat):Int)];rw[Int.toNat_of_nonneg b2.1]
theorem rows_of{H:Type}{enc:TypeId×Value->H}{W:World}{a:Option Addr}{len cap:Nat}{d:DataW H}{ps:List MemPlace}(h:DataW.Trod enc Tryz.prog W 0 (λ_=>true) true 22 (.slice a len cap) d ps):
    ∃l:List kX,okR l/\RV (λ_=>False) (λ_=>none) W (.arr (nR l)) (.slice a len cap):=by
 obtain⟨fuel,hf⟩:=h;rcases open_slice tyS hf with⟨hcs,_⟩|⟨x,len',cap',m,n,D,Pl,hcs,_,hl,hm,hmm,_,hx⟩
 simp[Value.cells] at hcs;obtain⟨rfl,rfl,rfl⟩:=hcs;exact⟨[],(λr hr=>by cases hr),none,0,rfl,Nat.le_refl _,δ,.inl rfl⟩;simp[Value.cells] at hcs;obtain⟨rfl,rfl,rfl⟩:=hcs;simp only[if_true] at hmm;have hmc:m=cap:=hmm;rw[hmc] at hx;rw[tyc82] at hx
 have hx':∀i,i< len->∃r:kX,(lZ r.1/\lZ r.2.1/\r.2.2<=255)/\W.cells? 0 (x.add (i* 3)) 3=some [.int .i64 r.1,.int .i64 r.2.1,.int .u8 r.2.2]:=λi hi=>by
  obtain⟨cs',g1,g2⟩:=hx i ω;obtain⟨r,r1,r2,r3,e⟩:=num_of g2;exact⟨r,⟨r1,r2,r3⟩,by rw[g1,e]⟩
 obtain⟨R,hR⟩:=choose_lt (α:=kX) hx';refine⟨(List.range len).map R,?_,some x,cap,by simp[nR],by simpa[nR] using hl,hm,?_⟩;intro r hr;obtain⟨i,hi,rfl⟩:=List.mem_map.1 hr;exact(hR i (List.mem_range.1 hi)).1;by_cases h0:len=0;subst h0;exact .inl rfl;right
 have c:∀i,i< len->∀j (v:Value),[.int .i64 (R i).1,.int .i64 (R i).2.1,.int .u8 (R i).2.2][j]?=some v->W.cell? (x.add (i* 3+j))=some v:=λi hi j v hv=>by
  have hj:j< 3:=by
   have:=(List.getElem?_eq_some_iff.1 hv).1;simpa using this
  have:=(World.cells?_some (hR i hi).2).2.2 j hj;rw[hv,Go.Deep.add_add] at this;exact this
 have c0:=c 0 ω 0 _ rfl;obtain⟨b,off,spot⟩:=x;have hspot:spot=none:=by simpa[Addr.add] using World.cell?_spot c0
 subst hspot
 have hadd:∀k,Addr.add ⟨b,off,none⟩ k=⟨b,off+k,none⟩:=λk=>by
  unfold Addr.add;by_cases hk:k=0;simp[hk];simp[hk]
 refine⟨b,off,3,rfl,wV (by rw[hadd] at c0;exact c0),(λh=>h),?_⟩;have:=HF (M:=λ_=>False) (β:=λ_=>none) (w:=W) (b:=b) (s:=3) (off:=off) (f:=λi=>nuC (R i).1 (R i).2.1 (R i).2.2) len 0 (λi hi=>⟨rfl,?_⟩);rw[Nat.zero_mul,Nat.add_zero,<-List.range_eq_range'] at this;rw[nR,List.map_map];exact this;have hi':i< len:=ω
 refine⟨⟨_,?_,rfl⟩,⟨_,?_,rfl⟩,⟨_,?_,rfl⟩,trivial⟩;have:=c i hi' 0 _ rfl;rw[hadd] at this;exact this;have:=c i hi' 1 _ rfl;rw[hadd] at this;rw[Nat.add_assoc];exact this;have:=c i hi' 2 _ rfl;rw[hadd] at this;rw[Nat.add_assoc,Nat.add_assoc];exact this
end Go.Proofs.YtjgokhkahkmpbaaGreatDoor
namespace Go.Proofs.YtjgokhkahkmpbaaGreatDoor
open Go.Abs
set_option maxRecDepth 100000
set_option maxHeartbeats 2000000











section
variable {a b:Rat}(h:a< b){k:Nat}(hk:1<=k/\k<=4)(ha:qs a<=20)(hb:qs b<=20)
include h hk ha hb
end
section
variable {a b a' b':Rat}(h:a< b)(h':a'< b'){k:Nat}(hk:1<=k/\k<=4)(ha:qs a<=20)(hb:qs b<=20)(ha':qs a'<=20)(hb':qs b'<=20)
include h h' hk ha hb ha' hb'
end


end Go.Proofs.YtjgokhkahkmpbaaGreatDoor
namespace Go.Proofs.YtjgokhkahkmpbaaGreatDoor
open Go.Abs Go.Deep Go.RowKit Go.WideShapes
set_option maxRecDepth 20000

end Go.Proofs.YtjgokhkahkmpbaaGreatDoor
namespace Go.Proofs.YtjgokhkahkmpbaaGreatDoor
open Go.Abs
set_option maxRecDepth 20000
def mC(r:kX):Bool:=decide (¬((r.2.2:Int) % 4≠0)/\¬r.1> 999999/\¬r.1< -999999/\¬r.2.1> 999999/\¬r.2.1< -999999)
def rI(l:List kX)(k:Nat):Bool:=l.all mC && decide (l.length<=k)
theorem fs_Tame(l:List kX)(k:Nat)(hl:l.length<=9223372036854775807)(hk:k<=1000000):FS 6 [.arr (nR l),i64 k] (bln (rI l k)):=by
 have hnl:(nR l).length=l.length:=by simp[nR]
 refine f_n Tryz.func6 ?_ ?_;exact ae (aU (ew l)) (ae (ag _) ai);refine r_z 1 ?_;refine ac (r_z 1 ?_);refine aG (λ_:Unit=>⟨[(0,.arr (nR l)),(1,i64 k)],[],1,45⟩) (λ_=>l.all mC=true) ?_ ?_;refine ak (aC (λj:Nat=>⟨[(5,i64 ((j:Nat):Int)),(0,.arr (nR l)),(1,i64 k)],[],1,45⟩) (λj=>l.length- j) (λj=>j<=l.length/\(l.take j).all mC=true) 0 ⟨Nat.zero_le _,rfl⟩ ?_ ?_);have:=(aU (ew l));exact s_f [];rintro j ⟨hj,hg⟩;by_cases hlt:j< l.length;obtain⟨r,hr⟩:∃r,l[j]?=some r:=⟨_,List.getElem?_eq_getElem hlt⟩
 have hgt:(nR l)[((j:Nat):Int).toNat]?=some (nuC r.1 r.2.1 r.2.2):=by
  rw[Int.toNat_natCast,nR,List.getElem?_map,hr];rfl
 have hbad:mC r=false->rI l k=false:=λh=>by
  unfold rI;rw[Bool.and_eq_false_iff];exact .inl (List.all_eq_false.2 ⟨r,List.mem_of_getElem? hr,by rw[h];decide⟩)
 refine ac (q_z 4 ?_);refine cT (am (ac (ak (s_r 6 ?_))));refine a_2 ?_;refine i_x hgt ?_;refine l_x hgt ?_;refine a_z ?_;by_cases c0:((r.2.2:Int) % 4≠0);have hgd:mC r=false:=decide_eq_false (by rintro⟨e0,e1,e2,e3,e4⟩;exact e0 c0);rw[hbad hgd];refine s_r 24 ?_;refine a_3 ?_;refine o_0 (.bin rfl rfl (vT bO ((by simpa using c0)))) ?_;refine a_z ?_;refine cT (r_z 1 ?_);exact an (t_e (ag _));by_cases c1:r.1> 999999;have hgd:mC r=false:=decide_eq_false (by rintro⟨e0,e1,e2,e3,e4⟩;exact e1 c1);rw[hbad hgd];refine s_r 24 ?_;refine a_3 ?_;refine o_0 (.bin rfl rfl (vF bO ((by simpa using c0)))) ?_;refine d_z ?_;refine cT (r_z 1 ?_);exact an (t_e (ag _));by_cases c2:r.1< -999999;have hgd:mC r=false:=decide_eq_false (by rintro⟨e0,e1,e2,e3,e4⟩;exact e2 c2);rw[hbad hgd];refine s_r 24 ?_;refine a_3 ?_;refine o_0 (.bin rfl rfl (vF bO ((by simpa using c0)))) ?_;refine d_z ?_;refine cT (r_z 1 ?_);exact an (t_e (ag _));by_cases c3:r.2.1> 999999;have hgd:mC r=false:=decide_eq_false (by rintro⟨e0,e1,e2,e3,e4⟩;exact e3 c3);rw[hbad hgd];refine s_r 24 ?_;refine a_3 ?_;refine o_0 (.bin rfl rfl (vF bO ((by simpa using c0)))) ?_;refine d_z ?_;refine cT (r_z 1 ?_);exact an (t_e (ag _));by_cases c4:r.2.1< -999999;have hgd:mC r=false:=decide_eq_false (by rintro⟨e0,e1,e2,e3,e4⟩;exact e4 c4);rw[hbad hgd];refine s_r 24 ?_;refine a_3 ?_;refine o_0 (.bin rfl rfl (vF bO ((by simpa using c0)))) ?_;refine d_z ?_;refine cT (r_z 1 ?_);exact an (t_e (ag _));have hgd:mC r=true:=decide_eq_true ⟨c0,c1,c2,c3,c4⟩
 refine s_r 24 ?_;refine a_3 ?_;refine o_0 (.bin rfl rfl (vF bO ((by simpa using c0)))) ?_;refine d_z ?_;refine cF (am (r_m 3 ?_));refine a_z ?_;refine⟨j+1,ω,⟨hlt,?_⟩,?_⟩;rw[dO hr,List.all_append,hg];simp[hgd];have:=(aU (ew l));exact s_f [];have hge:l.take j=l:=List.take_of_length_le ω;rw[hge] at hg;refine ac (q_z 4 ?_);refine cF (aB ⟨(),hg,?_⟩);have:=(aU (ew l));exact s_f [];rintro _ hg
 have e:rI l k=decide ((((nR l).length:Nat):Int)<=(k:Int)):=by
  unfold rI;rw[hg,Bool.true_and,hnl];exact decide_eq_decide.2 ω
 rw[e];refine r_z 5 ?_;exact an (t_e (ag _))
theorem good_qs{r:kX}(h:mC r=true)(hb:lZ r.1)(hd:lZ r.2.1):qs (zu r.1 r.2.1 r.2.2)<=20:=by
 obtain⟨h0,h1,h2,h3,h4⟩:=of_decide_eq_true h;have hp:r.2.2 % 4=0:=ω
 have hN:bl r.1.natAbs<=20:=jc ω;unfold zu;rw[hp];show qs (Rat.divInt r.1 (vy r.2.1))<=20;obtain⟨d,hde⟩:∃d,d=vy r.2.1:=⟨_,rfl⟩;have hd0:d≠0:=by rw[hde];unfold vy;split <;> omega
 have hdb:bl d.natAbs<=20:=by rw[hde];unfold vy;split <;> exact jc ω
 rw[<-hde];by_cases hn:d< 0;rw[oq _ d hn];exact gG ω (by rw[Int.natAbs_neg];exact hN) ω;rw[oo _ d ω];exact gG ω hN ω
theorem tame_bd{l:List kX}{k:Nat}(h:rI l k=true)(ho:okR l):bdL (nL l) 20/\(nL l).length<=k:=by
 unfold rI at h;rw[Bool.and_eq_true,List.all_eq_true] at h;refine⟨λq hq=>?_,by simpa[nL] using h.2⟩;obtain⟨r,hr,rfl⟩:=List.mem_map.1 hq;exact good_qs (h.1 r hr) (ho r hr).1 (ho r hr).2.1
end Go.Proofs.YtjgokhkahkmpbaaGreatDoor
namespace Go.Proofs.YtjgokhkahkmpbaaGreatDoor
open Go.Abs Go.Deep Go.RowKit Go.WideShapes
set_option maxRecDepth 20000
theorem tyu3:(Tryz.prog).underlying 3=some (.int .i64):=by kernel_rfl
theorem DC{H:Type}{enc:TypeId×Value->H}{W:World}{base:Nat}{v:Value}{d:DataW H}{ps:List MemPlace}(hv:Value.okWide Tryz.prog W .any base 3 v)(h:DataW.Trod enc Tryz.prog W 0 (λ_=>true) true 3 v d ps):
    ∃r:Int,lZ r/\RV (λ_=>False) (λ_=>none) W (i64 r) v:=by
 obtain⟨n,rfl⟩:∃n,v= .int .i64 n:=by
  unfold Value.okWide at hv;rw[tyu3] at hv;cases v with
  |int k n=>obtain⟨rfl,_⟩:=hv;exact⟨n,rfl⟩
  |_=>exact False.elim hv
 obtain⟨fuel,hf⟩:=h;obtain⟨n0,e0,_,w0⟩:=DataW.trod_int tyu3 hf;have e:n=n0:=by simpa[Value.cells] using e0
 subst e;exact⟨n,bounds_i64 w0,rfl⟩
end Go.Proofs.YtjgokhkahkmpbaaGreatDoor
namespace Go.Proofs.YtjgokhkahkmpbaaGreatDoor
open Go.Abs Go.ChangeShapes Go.Deep Go.RowKit Go.WideShapes
set_option maxRecDepth 20000

end Go.Proofs.YtjgokhkahkmpbaaGreatDoor
namespace Go.Proofs.YtjgokhkahkmpbaaGreatDoor
open Go.Abs
set_option maxRecDepth 20000
set_option maxHeartbeats 2000000











end Go.Proofs.YtjgokhkahkmpbaaGreatDoor
namespace Go.Proofs.YtjgokhkahkmpbaaGreatDoor
open Go.Abs Go.Deep Go.RowKit Go.WideShapes
set_option maxRecDepth 20000

end Go.Proofs.YtjgokhkahkmpbaaGreatDoor
namespace Go.Proofs.YtjgokhkahkmpbaaGreatDoor
open Go.Abs Go.ChangeShapes Go.Deep Go.RowKit Go.WideShapes
set_option maxRecDepth 20000

end Go.Proofs.YtjgokhkahkmpbaaGreatDoor
namespace Go.Proofs.YtjgokhkahkmpbaaGreatDoor
open Go.Abs
set_option maxRecDepth 20000
set_option maxHeartbeats 2000000

section
variable {T:Lq}{n:Nat}(hn:1<=n/\n<=5)(hl:T.length=n+1)(ht:aA T=T)(hm:bu T=1)(hb:bdL T 20)
include hn hl ht hm hb
end


end Go.Proofs.YtjgokhkahkmpbaaGreatDoor
