/- Part O28 of the proof. -/
import Derived.Test.YtdjfjpeoddmamaaGreatDoorO27
set_option linter.all false
namespace Go.Proofs.YtdjfjpeoddmamaaGreatDoor
open Go.Abs
set_option maxRecDepth 20000
theorem qs_pow{x:Rat}{t:Nat}(h:qs x≤t):∀n,qs (x^ n)≤n* t+1
 |0=>by rw[Rat.pow_zero];exact Nat.le_trans (by decide:qs 1≤1) (Nat.le_add_left 1 _)
 |n+1=>by
  have h1:=qs_pow h n;have h2:=bJ_ (x^ n) x;rw[Rat.pow_succ,Nat.succ_mul];omega
def evS(x:List RQ)(a:RQ):Nat×Rat×Rat→AState
 |(i,o,w)=>⟨[(0,.arr (rE x)),(3,.lptr 1 0 0),(4,.lptr 2 0 0),(5,.lptr 3 0 0),(6,.lptr 4 0 0),(7,i64 i)],[(1,some ⟨42,4,[rC a]⟩),(2,some ⟨42,4,[zR4]⟩),(3,some ⟨42,4,[rC (rq o)]⟩),(4,some ⟨42,4,[rC (rq w)]⟩)],5,28⟩
theorem lk_(x:List RQ)(a:RQ)(s t:Nat)(hx:okX x)(ha:rok a)(hs:bdL (vR x) s)(hs1:1≤s)(ht:qs a.1≤t)(hlim:(x.length+2) * (s+t+1)≤137438953472)(hl:x.length≤1000000):
    FS 251 [.arr (rE x),.agg (rC a)] (.agg (rC (rq (evalP (vR x) a.1)))):=by
 have hi0:FS 112 [i64 0] (.agg (rC (rq 0))):=bF_ 0 (by decide);have hi1:FS 112 [i64 1] (.agg (rC (rq 1))):=bF_ 1 (by decide);have hvl:=a3_ x;refine f_c Tryz.func251 ?_;refine r_z 2 ?_;refine r_c 6 (hi0) ?_;refine c_s (hi1) ?_;refine a_z ?_;refine aa_ (r_z 1 ?_);refine aw_ (fun _:Unit=>⟨[(4,.lptr 1 0 0),(5,.lptr 2 0 0)],[(1,some ⟨42,4,[zR4]⟩),(2,some ⟨42,4,[rC (rq (evalP (vR x) a.1))]⟩)],3,28⟩) (fun _=>True) ?_ ?_;refine ac_ (ap_ (evS x a) (fun y=>x.length- y.1) (fun y=>y.1≤x.length∧y.2.1=evalP ((vR x).take y.1) a.1∧y.2.2=a.1^ y.1) (0,0,1) ⟨Nat.zero_le _,rfl,(Rat.pow_zero _).symm⟩ ?_ ?_);simp only[evS.eq_1];exact s_e [(1,3),(2,4),(3,5),(4,6)];rintro⟨i,o,w⟩ ⟨hi,ho,hw⟩;simp only at hi ho hw;rw[evS.eq_1];refine aa_ (r_z 4 ?_);refine aj_ rfl (fun h=>?_) (fun h=>?_);refine ae_ ?_;have hlt:i< x.length:=by simpa using h
 obtain⟨y,hy,hyc⟩:=fu_ hlt;have hym:=List.mem_of_getElem? hy;have hgt:(rE x)[((i:Nat):Int).toNat]?=some (rC y):=eb_ hy;have hc:=bj_ hs hs1 i;rw[←hyc] at hc;have hp:=qs_pow ht i;rw[←hw] at hp;have hob:=eC_ ht (l:=(vR x).take i) (s:=s) fun q hq=>hs q (List.mem_of_mem_take hq);rw[←ho,List.length_take,hvl,Nat.min_eq_left (by omega)] at hob;have e1:(i+1) * (s+t+1)≤(x.length+1) * (s+t+1):=Nat.mul_le_mul_right _ (by omega);have e2:(x.length+2) * (s+t+1)=(x.length+1) * (s+t+1)+(s+t+1):=Nat.succ_mul _ _;have e3:(i+1) * (s+t+1)=i* (s+t+1)+(s+t+1):=Nat.succ_mul _ _;have e4:i* t≤i* (s+t+1):=Nat.mul_le_mul_left _ (by omega);have m1:=dv_ y (rq w) (hx y hym) (aR_ _) (by show qs y.1+qs w≤_;omega);have q1:=bJ_ y.1 w;have m2:=fL_ (rq o) (rq (y.1* w)) (aR_ _) (aR_ _) (by show qs o+qs (y.1* w)≤_;omega);have m3:=dv_ (rq w) a (aR_ _) ha (by show qs w+qs a.1≤_;omega);refine aa_ (ac_ (aa_ (r_d hmix 9 ?_)));refine a_3 ?_;refine i_x hgt ?_;refine l_x hgt ?_;refine c_s (m1) ?_;refine c_s (m2) ?_;refine a_1 ?_;refine ai_ (n_k ?_);refine r_m 4 ?_;refine c_s (m3) ?_;refine a_z ?_;refine r_m 3 ?_;refine a_z ?_;refine⟨(i+1,o+y.1* w,w* a.1),by simp only;omega,⟨hlt,?_,by simp only;rw[hw,Rat.pow_succ]⟩,?_⟩;simp only;rw[cU_ _ _ _ (by omega),←ho,hyc,hw];simp only[evS.eq_1];exact s_e []
 have hge:i=x.length:=by
  have:¬i< x.length:=by simpa using h
  omega
 subst hge;rw[List.take_of_length_le (by omega)] at ho;subst ho;refine am_ ⟨(),trivial,?_⟩;exact s_e [(1,4),(2,5)];rintro _ _;refine r_z 2 ?_;exact af_ (c_e (bR_ _))
def mxR(l:List Rat):Nat×List AV→AState
 |(i,o)=>⟨[(0,.arr (rE (rP l))),(2,.lptr 1 0 0),(3,.lptr 2 0 0),(4,i64 i)],[(1,some ⟨42,4,[zR4]⟩),(2,some ⟨42,4,[o]⟩)],3,27⟩
theorem ov_(bf:Int→Bool){l:List Rat}(h:l≠[]):cg_ bf l∈l:=by
 cases l with
 |nil=>exact absurd rfl h
 |cons x l=>
  have key:∀(l:List Rat) (o:Rat),l.foldl (fun o y=>if bf (cmpQ y o) then y else o) o∈o::l:=by
   intro l
   induction l with
   |nil=>intro o;exact List.mem_cons_self ..
   |cons y l ih=>
    intro o;have:=ih (if bf (cmpQ y o) then y else o);rw[List.foldl_cons];rcases List.mem_cons.1 this with e|e
    rw[e];split;exact List.mem_cons_of_mem _ (List.mem_cons_self ..);exact List.mem_cons_self ..;exact List.mem_cons_of_mem _ (List.mem_cons_of_mem _ e)
  exact key l x
theorem fs_rMax(l:List Rat)(s:Nat)(hs:bdL l s)(hlim:2* s≤1099511627776)(hl:l.length≤1000000)(h0:l≠[]):FS 261 [.arr (rE (rP l))] (.agg (rC (rq (maxL l)))):=by
 refine f_c Tryz.func261 ?_;refine r_z 1 ?_;refine r_z 1 ?_;refine aa_ (r_z 1 ?_);refine aw_ (fun _:Unit=>⟨[(2,.lptr 1 0 0),(3,.lptr 2 0 0)],[(1,some ⟨42,4,[zR4]⟩),(2,some ⟨42,4,[rC (rq (maxL l))]⟩)],3,27⟩) (fun _=>True) ?_ ?_;refine ac_ (ap_ (fun x:Nat×List AV=>mxR l x) (fun x=>l.length- x.1) (fun x=>x.1≤l.length∧((x.1=0→x.2=zR4)∧(x.1≠0→x.2=rC (rq (maxL (l.take x.1)))))) (0,zR4) ⟨Nat.zero_le _,fun _=>rfl,fun h=>absurd rfl h⟩ ?_ ?_);simp only[mxR.eq_1];exact s_e [(1,2),(2,3)];rintro⟨i,o⟩ ⟨hi,ho0,ho⟩;simp only at hi ho0 ho;simp only[mxR.eq_1];by_cases hlt:i< l.length;refine aa_ (s_r 4 ?_);refine a_3 ?_;refine o_0 (.bin rfl rfl (vT c9_ (decide_eq_true (by simp;omega)))) ?_;refine ai_ ?_;refine cT (ae_ ?_);have hgt:=rP_get hlt;have hq:l[i]?=some (coP l i):=a9_ hlt;have hc:=hs _ (List.mem_of_getElem? hq)
 have hsn:maxL (l.take (i+1))=if l.take i=[]∨decide (0< cmpQ (coP l i) (maxL (l.take i)))=true then coP l i else maxL (l.take i):=by
  rw[cv_ hq];exact ia_ _ _ _
 refine aa_ (ac_ (AWp.cutB (fun _:Unit=>mxR l (i,rC (rq (maxL (l.take (i+1)))))) (fun _=>True) ?_ ?_));by_cases h0:i=0;subst h0;have:=ho0 rfl;subst this;rw[if_pos (.inl (by simp))] at hsn;refine aa_ (r_d hmix 11 ?_);refine a_3 ?_;refine n_g rfl d_t ?_;refine n_g rfl d_t ?_;refine n_g rfl d_t ?_;refine n_g rfl d_t ?_;refine n_g rfl d_t ?_;refine n_g rfl d_t ?_;refine n_g rfl d_t ?_;refine o_0 (.pickT rfl d_t rfl) ?_;refine ai_ (n_k ?_);refine aj_ rfl (fun h=>?_) (fun h=>?_);refine r_m 5 ?_;refine a_2 ?_;refine i_x hgt ?_;refine l_x hgt ?_;refine a_z ?_;refine⟨(),trivial,?_⟩;simp only[mxR.eq_1];rw[hsn];exact s_e [];cases h;have ho':o=rC (rq (maxL (l.take i))):=ho h0;subst ho'
 have hne:l.take i≠[]:=fun h=>by
  have:=congrArg List.length h;rw[List.length_take,List.length_nil] at this;omega
 have hmm:=hs _ (List.mem_of_mem_take (ov_ (fun c=>decide (0< c)) hne));have hcm:=jk_ (rq (coP l i)) (rq (maxL (l.take i))) (aR_ _) (aR_ _) (by show qs (coP l i)+qs (cg_ _ (l.take i))≤_;omega);by_cases h1:0< cmpQ (coP l i) (maxL (l.take i));rw[if_pos (.inr (decide_eq_true h1))] at hsn;refine aa_ (r_d hmix 11 ?_);refine a_3 ?_;refine y_g rfl (by simp;omega) (.move rfl) ?_;refine y_g rfl (by simp;omega) (.move rfl) ?_
 first|refine y_g rfl (by simp;omega) (.index_l rfl rfl (by omega) (by omega) te_65.h) ?_|refine y_g rfl (by simp;omega) (.index_a rfl rfl (by omega) hgt rfl te_65.h) ?_
 first|refine y_g rfl (by simp;omega) (.load_l rfl rfl hgt TG.h TS.h (nle rfl)) ?_|refine y_g rfl (by simp;omega) (.load_a rfl hgt TG.h TS.h (nle rfl)) ?_
 first|refine y_g rfl (by simp;omega) (.load_l rfl rfl rfl TG.h TS.h (nle rfl)) ?_|refine y_g rfl (by simp;omega) (.load_a rfl rfl TG.h TS.h (nle rfl)) ?_
 refine y_g rfl (by simp;omega) (.call rfl rfl rfl (hcm)) ?_;refine y_g rfl (by simp;omega) (.bin rfl rfl (vT fo_ (decide_eq_true h1))) ?_;refine o_0 (.pickF rfl (by simp;omega) rfl) ?_;refine ai_ (n_k ?_);refine aj_ rfl (fun h=>?_) (fun h=>?_);refine r_m 5 ?_;refine a_2 ?_;refine i_x hgt ?_;refine l_x hgt ?_;refine a_z ?_;refine⟨(),trivial,?_⟩;simp only[mxR.eq_1];rw[hsn];exact s_e [];cases h;rw[if_neg (fun e=>e.elim hne fun e=>h1 (of_decide_eq_true e))] at hsn;refine aa_ (r_d hmix 11 ?_);refine a_3 ?_;refine y_g rfl (by simp;omega) (.move rfl) ?_;refine y_g rfl (by simp;omega) (.move rfl) ?_
 first|refine y_g rfl (by simp;omega) (.index_l rfl rfl (by omega) (by omega) te_65.h) ?_|refine y_g rfl (by simp;omega) (.index_a rfl rfl (by omega) hgt rfl te_65.h) ?_
 first|refine y_g rfl (by simp;omega) (.load_l rfl rfl hgt TG.h TS.h (nle rfl)) ?_|refine y_g rfl (by simp;omega) (.load_a rfl hgt TG.h TS.h (nle rfl)) ?_
 first|refine y_g rfl (by simp;omega) (.load_l rfl rfl rfl TG.h TS.h (nle rfl)) ?_|refine y_g rfl (by simp;omega) (.load_a rfl rfl TG.h TS.h (nle rfl)) ?_
 refine y_g rfl (by simp;omega) (.call rfl rfl rfl (hcm)) ?_;refine y_g rfl (by simp;omega) (.bin rfl rfl (vF fo_ (decide_eq_false h1))) ?_;refine o_0 (.pickF rfl (by simp;omega) rfl) ?_;refine ai_ (n_k ?_);refine cF ?_;refine ae_ (⟨(),trivial,?_⟩);simp only[mxR.eq_1];rw[hsn];exact s_e [];rintro _ _;simp only[mxR.eq_1];refine r_m 3 ?_;refine a_z ?_;refine⟨(i+1,rC (rq (maxL (l.take (i+1))))),by simp only;omega,⟨hlt,fun h=>absurd h (Nat.succ_ne_zero i),fun _=>rfl⟩,?_⟩;simp only[mxR.eq_1];exact s_e [];refine aa_ (s_r 4 ?_);refine a_3 ?_;refine o_0 (.bin rfl rfl (vF c9_ (decide_eq_false (by simp;omega)))) ?_;refine ai_ ?_;refine cF ?_;have hge:i=l.length:=by omega
 subst hge;have ho':=ho (by have:=List.length_pos_iff.2 h0;omega);rw[List.take_of_length_le (Nat.le_refl _)] at ho';subst ho';refine am_ ⟨(),trivial,?_⟩;exact s_e [(1,2),(2,3)];rintro _ _;refine r_z 2 ?_;exact af_ (c_e (bR_ _))
def bR(X:List RQ):Nat×Rat→AState
 |(i,m)=>⟨[(0,.arr (rE X)),(2,.lptr 1 0 0),(3,.lptr 2 0 0),(4,i64 i)],[(1,some ⟨42,4,[zR4]⟩),(2,some ⟨42,4,[rC (rq m)]⟩)],3,29⟩
theorem mL_(x:List RQ)(s:Nat)(hx:okX x)(hs:bdL (vR x) s)(hs1:1≤s)(hz:nz (vR x))(hlim:s≤137438953472)(hl:x.length≤1000000):FS 212 [.arr (rE x)] (.agg (rC (rq (aN_ (vR x))))):=by
 have hi0:FS 112 [i64 0] (.agg (rC (rq 0))):=bF_ 0 (by decide);have hi1:FS 112 [i64 1] (.agg (rC (rq 1))):=bF_ 1 (by decide);obtain⟨X,hX⟩:∃X,X=trimR x:=⟨_,rfl⟩;obtain⟨t,ht⟩:∃t,t=trimQ (vR x):=⟨_,rfl⟩;have hXt:vR X=t:=by rw[hX,ht,e1_]
 have hXl:X.length=t.length:=by rw[←hXt,a3_]
 have hXx:X.length≤x.length:=by rw[hX,cq_,←a3_ x];exact aB_ _
 have hXo:okX X:=by rw[hX];exact gR_ hx
 have hbt:bdL t s:=by rw[ht];exact hk_ hs
 have htt:trimQ t=t:=by rw[ht];exact aO_ _
 have hpos:0< t.length:=by rw[ht];exact List.length_pos_iff.2 hz
 obtain⟨b,hb,hbl,hbm⟩:=i8_ (x:=X) (by rw[hXt];exact htt) (fun e=>by rw[e] at hXl;simp at hXl;omega);have hbo:=hXo b hbm;rw[hXt,ht,hE_] at hbl;have hb0:b.1≠0:=by rw[hbl];exact bw_ hz
 have hbs:qs b.1≤s:=by rw[hbl];exact gB_ hs hs1
 have hld:=is_ X b (by omega) (by rw[if_ (by rw[hXt];exact htt)];exact hb);obtain⟨l,hle⟩:∃l,l=t.take (t.length- 1):=⟨_,rfl⟩;have hll:l.length=t.length- 1:=by rw[hle];simp
 obtain⟨B,hB⟩:∃B,B=boL (leadP (vR x)) l 0:=⟨_,rfl⟩;have hbd:aN_ (vR x)=B+1:=by unfold aN_;rw[←ht,←hle,←hB]
 rw[hbd];refine f_c Tryz.func212 ?_;refine r_z 1 ?_;refine r_c 3 (cI_ x (by omega)) ?_;refine a_z ?_;rw[←hX];refine r_c 3 (hi0) ?_;refine a_z ?_;refine aa_ (r_z 1 ?_);refine aw_ (fun _:Unit=>⟨[(2,.lptr 1 0 0),(3,.lptr 2 0 0)],[(1,some ⟨42,4,[zR4]⟩),(2,some ⟨42,4,[rC (rq B)]⟩)],3,29⟩) (fun _=>qs B≤2* s+1) ?_ ?_;refine ac_ (ap_ (bR X) (fun y=>t.length- y.1) (fun y=>y.1≤l.length∧qs y.2≤2* s+1∧boL (leadP (vR x)) (l.drop y.1) y.2=B) (0,0) ⟨Nat.zero_le _,Nat.le_trans (by decide:qs 0≤1) (Nat.le_add_left 1 _),by rw[hB];rfl⟩ ?_ ?_);simp only[bR.eq_1];exact s_e [(1,2),(2,3)];rintro⟨i,m⟩ ⟨hi,hm,hbo'⟩;simp only at hi hm hbo';rw[bR.eq_1];by_cases hlt:i< l.length;refine aa_ (q_z 5 ?_);refine cT (ae_ ?_);obtain⟨y,hy,hyc⟩:=fu_ (x:=X) (i:=i) (by omega);have hym:=List.mem_of_getElem? hy;have hgt:(rE X)[((i:Nat):Int).toNat]?=some (rC y):=eb_ hy
 have hcl:coP (vR X) i=coP l i:=by
  rw[hXt,hle];unfold coP;rw[List.getD_eq_getElem?_getD,List.getD_eq_getElem?_getD,List.getElem?_take_of_lt (by omega)]
 have hc:qs y.1≤s:=by rw[hyc,hXt];exact bj_ hbt hs1 i
 rw[hcl] at hyc;rw[hJ_ hlt,boL,←hyc] at hbo';have hq:=cX_ y.1 b.1;have hdv:=fe_ y b (hXo y hym) hbo hb0 (by omega);have hqa:=mk_ (y.1/ b.1);have hab:=sP_ (rq (y.1/ b.1)) (aR_ _);rw[←hbl] at hbo'
 have hbm2:bdL [m,absQ (y.1/ b.1)] (2* s+1):=by
  intro z hz;rcases List.mem_cons.1 hz with rfl|hz
  exact hm;rw[List.mem_singleton.1 hz];omega
 have hmx:=fs_rMax [m,absQ (y.1/ b.1)] (2* s+1) hbm2 (by omega) (by simp) (by simp);refine aa_ (ac_ (r_d hmix 12 ?_));refine a_3 ?_;refine i_x hgt ?_;refine l_x hgt ?_;refine c_s (hld) ?_;refine c_s (hdv) ?_;refine c_s (hab) ?_;refine a_1 ?_;refine o_1 (.callS1 rfl rfl rfl (.shut rfl d_n (.nil)) rfl (hmx)) ?_;refine a_1 ?_;refine ai_ (n_k ?_);refine r_m 3 ?_;refine a_z ?_;refine⟨(i+1,maxL [m,absQ (y.1/ b.1)]),by simp only;omega,⟨hlt,nS_ hbm2 (Nat.le_add_left 1 _),by rw[←hbl];exact hbo'⟩,?_⟩;simp only[bR.eq_1];exact s_e [];have hge:i=l.length:=by omega
 subst hge;refine aa_ (q_z 5 ?_);refine cF ?_;rw[List.drop_length] at hbo';have hb2:m=B:=hbo';subst hb2;refine am_ ⟨(),hm,?_⟩;exact s_e [(1,2),(2,3)];rintro _ hq;have q1:qs ((rq 1).1)=1:=kg_;have had:=fL_ (rq B) (rq 1) (aR_ _) (aR_ _) (by rw[q1];show qs B+1≤_;omega);refine aa_ (r_d hmix 4 ?_);refine c_s (hi1) ?_;refine c_s (had) ?_;refine a_1 ?_;refine ai_ (n_k ?_);exact af_ (c_e (bR_ _))
def cR(l:List (List Rat)):List (List AV):=l.map fun p=>[.arr (rE (rP p))]
@[simp] theorem tI_ (l:List (List Rat)):(cR l).length=l.length:=by simp[cR]
theorem tJ_{l:List (List Rat)}{i:Nat}{p:List Rat}(h:l[i]?=some p):(cR l)[i]?=some [.arr (rE (rP p))]:=by simp[cR,h]
theorem cR_one(l:List (List Rat)):(cR l).all (·.all AV.one)=true:=by
 simp only[cR,List.all_map,List.all_eq_true];intro q _;rfl
theorem fT_(l:List (List Rat)):Closed (.arr (cR l)):=aL_ fun e he c hc=>by
 obtain⟨q,_,rfl⟩:=List.mem_map.1 he;rw[List.mem_singleton.1 hc];exact aS_ _
theorem tH_(l:List (List Rat))(p:List Rat):cR (l++[p])=cR l++[[.arr (rE (rP p))]]:=by simp[cR]
theorem hP_{r:Ren}{hp hp':Nat→Option ABlk}(h:Shr r hp hp'):CvL r hp hp' zR4 (rC r0):=by
 rw[show rC r0=[i64 0,.arr [],i64 0,.arr []] from rC_r0];exact ag_ (an_ h (ad_ _)) (ag_ (Cv.emp _) (ag_ (an_ h (ad_ _)) (ag_ (Cv.emp _) ao_)))
def mnX(k:Nat):List RQ:=List.replicate k r0++[rq 1]
theorem mnX_v(k:Nat):vR (mnX k)=shP k [1]:=by unfold mnX;rw[gK_,id_];rfl
theorem mnX_ok(k:Nat):okX (mnX k):=hA_ (iR_ _) (fun z hz=>by rw[List.mem_singleton.1 hz];exact aR_ _)
theorem hY_(k:Nat)(hk:k≤1000000):FS 163 [i64 k] (.arr (rE (mnX k))):=by
 have h1:FS 112 [i64 1] (.agg (rC (rq 1))):=bF_ 1 (by decide);refine f_c Tryz.func163 ?_;refine r_z 1 ?_;refine aa_ (r_d hmix 6 ?_);refine a_1 ?_;refine o_1 (.makeSlice (l:=k) (c:=k) rfl rfl te_66.h TZ.h rfl TB.h (by first|omega|(simp;done)|(simp;omega)) (by first|omega|(simp;done)|(simp;omega)) (by unfold maxLen;first|omega|(simp;done)|(simp;omega))) ?_;refine c_s (h1) ?_;refine a_1 ?_;refine o_2 (.append_l rfl rfl rfl te_66.h rfl rfl rfl rfl rfl d_o (nv_ _) rfl rfl (.lsl rfl (nle rfl)) TZ.h rfl TB.h d_o (by first|(simp[maxLen];done)|(simp[maxLen];omega))) ?_;refine a_1 ?_;refine ai_ (n_k ?_);exact af_ (Fin.tmp rfl (Cv.shutZ (c:=1) ar_ rfl (fun _ _ h=>by cases h) rfl rfl))
theorem pl_(a b:Rat):FS 127 [.agg (rC (rq a)),.agg (rC (rq b))] (.arr (rE (rP [a,b]))):=by
 refine f_c Tryz.func127 ?_;refine r_z 3 ?_;refine r_z 4 ?_;exact af_ (Fin.tmp rfl (Cv.shut ar_ rfl (fun _ _ h=>by cases h) (by simp) (bi_ ar_ (a6_ (rP [a,b])))))
theorem mG_(u v:Rat)(n:Nat)(hu:qs u≤256)(hv:qs v≤256)(hn:n≤8):FS 192 [.arr (rE (rP [u,v])),i64 n] (.arr (rE (rP (powP [u,v] n)))):=by
 have h1:FS 112 [i64 1] (.agg (rC (rq 1))):=bF_ 1 (by decide);have h2:=mK_ 1;refine f_c Tryz.func192 ?_;refine r_z 1 ?_;refine r_c 3 (h1) ?_;refine c_s (h2) ?_;refine a_z ?_;refine aa_ (r_z 1 ?_);refine aw_ (fun _:Unit=>⟨[(5,.arr (rE (rP (powP [u,v] n))))],[],1,18⟩) (fun _=>True) ?_ ?_;refine ac_ (ap_ (fun j:Nat=>⟨[(6,i64 ((j:Nat):Int)),(5,.arr (rE (rP (powP [u,v] j)))),(0,.arr (rE (rP [u,v]))),(1,i64 n)],[],1,18⟩) (fun j=>n- j) (fun j=>j≤n) 0 (Nat.zero_le _) ?_ ?_);exact s_e [];rintro j hj;by_cases hlt:j< n;have hll:=dT_ u v (n:=j) (by omega);have hb:=lB_le (n:=j) (by omega);have hbj:=gQ_ hu hv j
 have hm:=g4_ (rP (powP [u,v] j)) (rP [u,v]) (lB j) 256 500000 (bS_ _) (bS_ _) (by rw[vR_rP];exact hbj) (by rw[vR_rP];exact bd_uv hu hv) (fI_ j) (fun i hi=>by
  rw[vR_rP,vR_rP];have hi2:i≤2:=by simpa[rP] using hi
  have h5:=Nat.mul_le_mul hi2 (show lB j+256+1≤160257 by omega);exact eF_ (mR_bd hbj (bd_uv hu hv) (fI_ j) (by decide) i) (by omega)) (by omega) (by simp[rP];omega) (by simp[rP])
 rw[vR_rP,vR_rP] at hm;refine aa_ (q_z 3 ?_);refine cT (ae_ (aa_ (ac_ (r_m 4 ?_))));refine c_s (hm) ?_;refine a_z ?_;refine r_m 3 ?_;refine a_z ?_;refine⟨j+1,by omega,hlt,?_⟩;exact s_e [];have hge:j=n:=by omega
 subst hge;refine aa_ (q_z 3 ?_);refine cF (am_ ⟨(),trivial,?_⟩);exact s_e [];rintro _ _;refine r_z 2 ?_;exact af_ (t_e (aS_ _))
theorem fd_(n:Nat)(hn:n≤73):FS 195 [i64 n] (.agg (rC (rq (((fcN n:Nat):Int):Rat)))):=by
 have h1:FS 112 [i64 1] (.agg (rC (rq 1))):=bF_ 1 (by decide);refine f_c Tryz.func195 ?_;refine r_z 1 ?_;refine r_c 3 (h1) ?_;refine a_z ?_;refine aa_ (r_z 1 ?_);refine aw_ (fun _:Unit=>⟨[(2,.lptr 1 0 0),(3,.lptr 2 0 0)],[(1,some ⟨42,4,[zR4]⟩),(2,some ⟨42,4,[rC (rq (((fcN n:Nat):Int):Rat))]⟩)],3,16⟩) (fun _=>True) ?_ ?_;refine ac_ (ap_ (fun j:Nat=>⟨[(4,i64 ((j+2:Nat):Int)),(0,i64 n),(2,.lptr 1 0 0),(3,.lptr 2 0 0)],[(1,some ⟨42,4,[zR4]⟩),(2,some ⟨42,4,[rC (rq (((fcN (j+1):Nat):Int):Rat))]⟩)],3,16⟩) (fun j=>n- j) (fun j=>j+1≤n∨j=0) 0 (.inr rfl) ?_ ?_);exact s_e [(1,2),(2,3)];rintro j hj;by_cases hlt:j+2≤n;have hi:=bF_ ((j+2:Nat):Int) (by omega)
 have hm:=dv_ (rq (((fcN (j+1):Nat):Int):Rat)) (rq (((j+2:Nat):Int):Rat)) (aR_ _) (aR_ _) (by
  have q1:=ha_ (n:=j+1) (by omega);have q2:=qi21 (n:=((j+2:Nat):Int)) (by omega);show qs (((fcN (j+1):Nat):Int):Rat)+qs (((j+2:Nat):Int):Rat)≤_;omega)
 have e:(rq (((fcN (j+1):Nat):Int):Rat)).1* (rq (((j+2:Nat):Int):Rat)).1=(((fcN (j+1+1):Nat):Int):Rat):=fcR (j+1);rw[e] at hm;refine aa_ (q_z 3 ?_);refine cT (ae_ (aa_ (ac_ (r_d hmix 5 ?_))));refine c_s (hi) ?_;refine c_s (hm) ?_;refine a_1 ?_;refine ai_ (n_k ?_);refine r_m 3 ?_;refine a_z ?_;refine⟨j+1,by omega,.inl (by omega),?_⟩;exact s_e [(1,2),(2,3)]
 have hge:fcN n=fcN (j+1):=by
  rcases hj with hj|hj
  rw[show n=j+1 by omega];subst hj;have:n=0∨n=1:=by omega
  rcases this with e|e <;> rw[e]<;> rfl
 refine aa_ (q_z 3 ?_);refine cF (am_ ⟨(),trivial,?_⟩);rw[hge];exact s_e [(1,2),(2,3)];rintro _ _;refine r_z 2 ?_;exact af_ (c_e (bR_ _))
theorem fs_rOver(X:List RQ)(a b:Rat)(s:Nat)(hx:okX X)(hs:bdL (vR X) s)(hs1:1≤s)(hl:X.length≤200)(ha:qs a≤256)(hb:qs b≤256)(hlim:s≤100000000):
    FS 193 [.arr (rE X),.agg (rC (rq a)++rC (rq b))] (.agg (rC (rq (evalP (aF_ (vR X)) b- evalP (aF_ (vR X)) a)))):=by
 have hin:=mJ_ X s hx hs (by omega) (by omega);have hvl:=a3_ X;have il:=dW_ (vR X);have ib:=ja_ hs hs1 (by omega);generalize aF_ (vR X)=I at *
 have hil:(rP I).length=I.length:=by simp[rP]
 have h1:=Nat.mul_le_mul (show(rP I).length+2≤203 by omega) (show s+21+256+1≤100000278 by omega);have e1:=lk_ (rP I) (rq b) (s+21) 256 (bS_ _) (aR_ _) (by rw[vR_rP];exact ib) (by omega) hb (by omega) (by omega);have e2:=lk_ (rP I) (rq a) (s+21) 256 (bS_ _) (aR_ _) (by rw[vR_rP];exact ib) (by omega) ha (by omega) (by omega);rw[vR_rP] at e1 e2;have h2:=Nat.mul_le_mul (show I.length≤201 by omega) (show s+21+256+1≤100000278 by omega);have b1:=eC_ hb ib;have b2:=eC_ ha ib;have hsu:=lj_ (rq (evalP I b)) (rq (evalP I a)) (aR_ _) (aR_ _) (by show qs (evalP I b)+qs (evalP I a)≤_;omega);refine f_n Tryz.func193 ?_ ?_;exact ab_ (aS_ X) (ab_ (au_ fun c hc=>(List.mem_append.1 hc).elim (bb_ _ c) (bb_ _ c)) ah_);refine r_z 2 ?_;refine r_c 3 (hin) ?_;refine a_z ?_;refine aa_ (r_d hmix 10 ?_);refine c_s (e1) ?_;refine c_s (e2) ?_;refine c_s (hsu) ?_;refine a_1 ?_;refine ai_ (n_k ?_);exact af_ (c_e (bR_ _))
def rwC(m:List Rat)(l r:Bool)(lo hi:RQ):List AV:=[.arr (rE (rP m)),bln l,bln r]++rC lo++rC hi
theorem ca_{m:List Rat}{l r:Bool}{lo hi:RQ}:∀c∈rwC m l r lo hi,Closed c:=fun c hc=>by
 unfold rwC at hc;rcases List.mem_append.1 hc with hc|hc
 rcases List.mem_append.1 hc with hc|hc
 exact ab_ (aS_ _) (ab_ (ad_ _) (ab_ (ad_ _) ah_)) c hc;exact bb_ _ c hc;exact bb_ _ c hc
def rwX(x:AV)(l r:Bool)(lo hi:List AV):List AV:=[x,bln l,bln r]++lo++hi
def rw0:List AV:=rwX .emp false false zR4 zR4
theorem bp_:∀c∈rw0,Closed c:=fun c hc=>by
 unfold rw0 rwX at hc;rcases List.mem_append.1 hc with hc|hc
 rcases List.mem_append.1 hc with hc|hc
 exact ab_ bc_ (ab_ (ad_ _) (ab_ (ad_ _) ah_)) c hc;exact bT_ c hc;exact bT_ c hc
theorem em_{l r:Bool}{lo hi:List AV}(h1:∀c∈lo,Closed c)(h2:∀c∈hi,Closed c):∀c∈rwX .emp l r lo hi,Closed c:=fun c hc=>by
 unfold rwX at hc;rcases List.mem_append.1 hc with hc|hc
 rcases List.mem_append.1 hc with hc|hc
 exact ab_ bc_ (ab_ (ad_ _) (ab_ (ad_ _) ah_)) c hc;exact h1 c hc;exact h2 c hc
theorem eI_{r:Ren}{hp hp':Nat→Option ABlk}{x x':AV}{l b:Bool}{lo hi lo' hi':List AV}(h:Shr r hp hp')(hx:Cv r hp hp' x x')(h1:CvL r hp hp' lo lo')(h2:CvL r hp hp' hi hi'):CvL r hp hp' (rwX x l b lo hi) (rwX x' l b lo' hi'):=
 cF_ (cF_ (ag_ hx (ag_ (an_ h (ad_ _)) (ag_ (an_ h (ad_ _)) ao_))) h1) h2
theorem jR_{r:Ren}{hp hp':Nat→Option ABlk}{id n:Nat}{cap:Option Nat}{B:ABlk}{L:List RQ}(h:Shr r hp hp')(hi:cellF hp id=some B)(hi':Dead r hp' id)(he:B.es=rE L)(hn:n=L.length):Cv r hp hp' (.lsl id 0 n cap 4) (.arr (rE L)):=
 Cv.shut h hi hi' (by rw[he,hn];simp) (aC_ h (by rw[he,List.drop_zero];exact List.take_of_length_le (by simp[hn])) (a6_ _))
def rjS(n:Nat)(f:Nat→Rat)(fr:Fr)(l r:Bool)(lo hi:List AV)(t tw tr:Nat):Nat→AState
 |0=>⟨[(t,i64 ((0:Nat):Int)),(tr,.lptr 1 0 0),(tw,.lptr 2 0 0)]++fr,[(1,some ⟨77,11,[rw0]⟩),(2,some ⟨77,11,[rwX .emp l r lo hi]⟩)],3,n⟩
 |k+1=>⟨[(t,i64 ((k+1:Nat):Int)),(tr,.lptr 1 0 0),(tw,.lptr 2 0 0)]++fr,[(1,some ⟨77,11,[rw0]⟩),(2,some ⟨77,11,[rwX (.lsl 3 0 (k+1) none 4) l r lo hi]⟩),(3,some ⟨42,4,rE (rP (sqL f (k+1)))⟩)],4,n⟩
theorem nH_(l:List Rat)(q:Rat):rE (rP (l++[q]))=rE (rP l)++[rC (rq q)]:=by simp[rE,rP]
theorem mI_(p n:Nat)(hp:p≤8)(hn:n≤63):FS 107 [i64 p,i64 n] (.agg (rwC (sqL (lgQ p) (n+1)) true false r0 r0)):=by
 have e:∀k,rE (rP (sqL (lgQ p) k))++[rC (rq (lgQ p k))]=rE (rP (sqL (lgQ p) (k+1))):=fun k=>by rw[e5_,nH_]
 have hfc:∀k,k≤n→FS 195 [i64 (((k:Nat):Int)+(p:Int))] (.agg (rC (rq (lgQ p k)))):=fun k hk=>by
  have:=fd_ (p+k) (by omega);rw[show((p+k:Nat):Int)=((k:Nat):Int)+(p:Int) by omega] at this;exact this
 generalize lgQ p=f at *
 refine f_c Tryz.func107 ?_;refine r_z 1 ?_;refine r_z 3 ?_;refine aa_ (r_z 1 ?_);refine aw_ (fun _:Unit=>⟨[(4,.lptr 1 0 0),(5,.lptr 2 0 0)],[(1,some ⟨77,11,[rw0]⟩),(2,some ⟨77,11,[rwC (sqL f (n+1)) true false r0 r0]⟩)],3,23⟩) (fun _=>True) ?_ ?_;refine ac_ (ap_ (rjS 23 f [(0,i64 p),(1,i64 n)] true false zR4 zR4 6 5 4) (fun k=>n+1- k) (fun k=>k≤n+1) 0 (Nat.zero_le _) ?_ ?_);rw[rjS.eq_1];exact s_x [(1,4),(2,5)] (fun hs=>au_f) (fun hs=>e_39);rintro k hk;by_cases hlt:k≤n;have hf:=hfc k hlt;have e:=e k;cases k with
 |zero=>
  rw[rjS.eq_1];refine aa_ (q_z 3 ?_);refine cT (ae_ (aa_ (ac_ (r_d hmix 10 ?_))));refine c_s (hf) ?_;refine a_4 ?_;refine ai_ (n_k ?_);refine r_m 3 ?_;refine a_z ?_;refine⟨0+1,by omega,by omega,?_⟩;rw[rjS.eq_2];refine s_x [(1,4),(2,5),(3,20)] (fun hs=>au_f) (fun hs=>?_)
  ·repeat' (first|exact az_|refine h_c ?_ ?_|exact al_ (CvL.clo hs bp_)|exact al_ (eI_ hs (Cv.sl rfl rfl rfl) (CvL.clo hs bT_) (CvL.clo hs bT_))|exact bi_ hs (a6_ (rP [f 0]))|exact au_e)
 |succ k=>
  rw[rjS.eq_2];refine aa_ (q_z 3 ?_);refine cT (ae_ (aa_ (ac_ (r_d hmix 10 ?_))));refine c_s (hf) ?_;refine a_4 ?_;refine ai_ (n_k ?_);refine r_m 3 ?_;refine a_z ?_;refine⟨k+1+1,by omega,by omega,?_⟩;rw[rjS.eq_2];refine s_x [(1,4),(2,5),(3,20)] (fun hs=>au_f) (fun hs=>?_) e_4
  ·repeat' (first|exact az_|refine h_c ?_ ?_|exact al_ (CvL.clo hs bp_)|exact al_ (eI_ hs (Cv.sl rfl rfl rfl) (CvL.clo hs bT_) (CvL.clo hs bT_))|exact aC_ hs e (a6_ _)|exact au_e)
 have hge:k=n+1:=by omega
 subst hge;rw[rjS.eq_2];refine aa_ (q_z 3 ?_);refine cF (am_ ⟨(),trivial,?_⟩);refine s_x [(1,4),(2,5)] (fun hs=>au_f) (fun hs=>?_)
 ·repeat' (first|exact az_|refine h_c ?_ ?_|exact al_ (CvL.clo hs bp_)|exact al_ (eI_ hs (jR_ (L:=rP (sqL f (n+1))) hs rfl (aW_ rfl) rfl (by simp[rP])) (hP_ hs) (hP_ hs))|exact au_e)
 rintro _ _;refine r_z 2 ?_;exact af_ (c_e (au_ ca_))
theorem ho_{r:Ren}{hp hp':Nat→Option ABlk}(h:Shr r hp hp')(x:RQ):CvL r hp hp' (rC x) (rC x):=CvL.clo h (bb_ x)
theorem qt_(a b:Rat)(p q n:Nat)(hp:p≤8)(hq:q≤8)(hn:n≤63)(ha:qs a≤256)(hb:qs b≤256):
    FS 105 [.agg (rC (rq a)++rC (rq b)),i64 p,i64 q,i64 n] (.agg (rwC (sqL (moQ (jcF a b p q) (a,b)) (n+1)) true true (rq a) (rq b))):=by
 have hcS:∀c∈rC (rq a)++rC (rq b),Closed c:=fun c hc=>(List.mem_append.1 hc).elim (bb_ _ c) (bb_ _ c);have i1:FS 112 [i64 1] (.agg (rC (rq 1))):=bF_ 1 (by decide);have i2:FS 112 [i64 (-1)] (.agg (rC (rq (-1)))):=bF_ (-1) (by decide);have ng:=n1_ (rq a) (aR_ a);have n1:=pl_ (-a) 1;have n2:=pl_ b (-1);have t1:=mG_ (-a) 1 p (by rw[dG_];exact ha) (by decide) hp;have t2:=mG_ b (-1) q hb (by decide) hq;have l1:=dT_ (-a) 1 hp;have l2:=dT_ b (-1) hq;have m1:=lB_le hp;have m2:=lB_le hq
 have hmu:=g4_ (rP (powP [-a,1] p)) (rP (powP [b,-1] q)) (lB p) (lB q) 6000000 (bS_ _) (bS_ _) (by rw[vR_rP];exact jc_p ha) (by rw[vR_rP];exact jc_q hb) (fI_ p) (fun i hi=>by
  rw[vR_rP,vR_rP]
  have hi2:i≤17:=by
   have:(rP (powP [b,-1] q)).length=(powP [b,-1] q).length:=by simp[rP]
   omega
  have h5:=Nat.mul_le_mul hi2 (show lB p+lB q+1≤320001 by omega);exact eF_ (mR_bd (jc_p ha) (jc_q hb) (fI_ p) (fI_ q) i) (by omega)) (by omega) (by simp[rP];omega) (by simp[rP];omega)
 rw[vR_rP,vR_rP,show mulP (powP [-a,1] p) (powP [b,-1] q)=jcF a b p q from rfl] at hmu;obtain⟨f1,f2⟩:=st_ ha hb hp hq
 have hov:∀k,k≤n→FS 130 [.arr (rE (rP (jcF a b p q))),.arr (rE (mnX k))] (.arr (rE (rP (mulP (jcF a b p q) (shP k [1])))))∧
     FS 193 [.arr (rE (rP (mulP (jcF a b p q) (shP k [1])))),.agg (rC (rq a)++rC (rq b))] (.agg (rC (rq (moQ (jcF a b p q) (a,b) k)))):=fun k hk=>by
  have b1:bdL (shP k [1]) 1:=tT_ (by decide) (by decide) k
  have hM:=g4_ (rP (jcF a b p q)) (mnX k) 5500000 1 6000000 (bS_ _) (mnX_ok k) (by rw[vR_rP];exact f1) (by rw[mnX_v];exact b1) (by decide) (fun i hi=>by
   rw[vR_rP,mnX_v];have hi2:i≤k+1:=by simpa[mnX] using hi
   exact eF_ (f8_ f1 (by decide) i hi2) (by have:qs 1=1:=by decide
                                            omega)) (by omega) (by simp[rP];omega) (by simp[mnX];omega)
  rw[vR_rP,mnX_v] at hM;have hml:=nQ_ (jcF a b p q) (shP k [1]);rw[dr_] at hml;have e1:([1]:List Rat).length=1:=rfl
  have hmb:bdL (mulP (jcF a b p q) (shP k [1])) 6000000:=by
   have:=f8_ (a:=1) (d:=k) f1 (by decide) (k+1) (Nat.le_refl _);have e:(shP k [(1:Rat)]).length=k+1:=by rw[dr_];rfl
   rw[←e,kk_] at this
   exact eF_ this (by have:qs 1=1:=by decide
                      omega)
  have hO:=fs_rOver (rP (mulP (jcF a b p q) (shP k [1]))) a b 6000000 (bS_ _) (by rw[vR_rP];exact hmb) (by decide) (by simp[rP];omega) ha hb (by decide);rw[vR_rP,mo_mono] at hO;exact⟨hM,hO⟩
 have e:∀k,rE (rP (sqL (moQ (jcF a b p q) (a,b)) k))++[rC (rq (moQ (jcF a b p q) (a,b) k))]=rE (rP (sqL (moQ (jcF a b p q) (a,b)) (k+1))):=fun k=>by rw[e5_,nH_]
 generalize moQ (jcF a b p q) (a,b)=f at *
 generalize jcF a b p q=F at *
 refine f_c Tryz.func105 ?_;refine r_z 2 ?_;refine aa_ (r_d hmix 15 ?_);refine c_s (ng) ?_;refine c_s (i1) ?_;refine c_s (n1) ?_;refine c_s (t1) ?_;refine c_s (i2) ?_;refine c_s (n2) ?_;refine c_s (t2) ?_;refine c_s (hmu) ?_;refine a_1 ?_;refine ai_ (n_k ?_);refine r_z 7 ?_;refine aa_ (r_z 1 ?_);refine aw_ (fun _:Unit=>⟨[(8,.lptr 1 0 0),(10,.lptr 2 0 0)],[(1,some ⟨77,11,[rw0]⟩),(2,some ⟨77,11,[rwC (sqL f (n+1)) true true (rq a) (rq b)]⟩)],3,48⟩) (fun _=>True) ?_ ?_;refine ac_ (ap_ (rjS 48 f [(3,i64 n),(4,.aptr [rC (rq a)++rC (rq b)] 0 0),(9,.arr (rE (rP F)))] true true (rC (rq a)) (rC (rq b)) 11 10 8) (fun k=>n+1- k) (fun k=>k≤n+1) 0 (Nat.zero_le _) ?_ ?_);rw[rjS.eq_1];refine s_x [(1,8),(2,10)] (fun hs=>?_) (fun hs=>?_)
 ·repeat' (first|exact a2_|refine aH_ rfl ?_ ?_|exact Cv.boxp hs rfl (aW_ rfl) rfl hcS|exact au_c)
 ·repeat' (first|exact az_|refine h_c ?_ ?_|exact al_ (CvL.clo hs bp_)|exact al_ (CvL.clo hs (em_ (bb_ _) (bb_ _)))|exact au_e|refine al_ ?_|exact ao_|refine ag_ ?_ ?_|exact Cv.boxp hs rfl (aW_ rfl) rfl hcS|exact au_c)
 rintro k hk;by_cases hlt:k≤n;obtain⟨hM,hO⟩:=hov k hlt;have hmn:=hY_ k (by omega);have e:=e k;cases k with
 |zero=>
  rw[rjS.eq_1];refine aa_ (q_z 3 ?_);refine cT (ae_ (aa_ (ac_ (r_d hmix 12 ?_))));refine c_s (hmn) ?_;refine c_s (hM) ?_;refine c_s (hO) ?_;refine a_4 ?_;refine ai_ (n_k ?_);refine r_m 3 ?_;refine a_z ?_;refine⟨0+1,by omega,by omega,?_⟩;rw[rjS.eq_2];refine s_x [(1,8),(2,10),(3,45)] (fun hs=>e_40) (fun hs=>?_)
  ·repeat' (first|exact az_|refine h_c ?_ ?_|exact al_ (CvL.clo hs bp_)|exact al_ (eI_ hs (Cv.sl rfl rfl rfl) (ho_ hs _) (ho_ hs _))|exact bi_ hs (a6_ (rP [f 0]))|exact au_e|refine al_ ?_|exact ao_|refine ag_ ?_ ?_|exact an_ hs (aE_ hcS)|exact au_c)
 |succ k=>
  rw[rjS.eq_2];refine aa_ (q_z 3 ?_);refine cT (ae_ (aa_ (ac_ (r_d hmix 12 ?_))));refine c_s (hmn) ?_;refine c_s (hM) ?_;refine c_s (hO) ?_;refine a_4 ?_;refine ai_ (n_k ?_);refine r_m 3 ?_;refine a_z ?_;refine⟨k+1+1,by omega,by omega,?_⟩;rw[rjS.eq_2];refine s_x [(1,8),(2,10),(3,45)] (fun hs=>e_40) (fun hs=>?_) e_4
  ·repeat' (first|exact az_|refine h_c ?_ ?_|exact al_ (CvL.clo hs bp_)|exact al_ (eI_ hs (Cv.sl rfl rfl rfl) (ho_ hs _) (ho_ hs _))|exact aC_ hs e (a6_ _)|exact au_e|refine al_ ?_|exact ao_|refine ag_ ?_ ?_|exact an_ hs (aE_ hcS)|exact au_c)
 have hge:k=n+1:=by omega
 subst hge;rw[rjS.eq_2];refine aa_ (q_z 3 ?_);refine cF (am_ ⟨(),trivial,?_⟩);refine s_x [(1,8),(2,10)] (fun hs=>au_f) (fun hs=>?_)
 ·repeat' (first|exact az_|refine h_c ?_ ?_|exact al_ (CvL.clo hs bp_)|exact al_ (eI_ hs (jR_ (L:=rP (sqL f (n+1))) hs rfl (aW_ rfl) rfl (by simp[rP])) (ho_ hs _) (ho_ hs _))|exact au_e)
 rintro _ _;refine r_z 2 ?_;exact af_ (c_e (au_ ca_))
end Go.Proofs.YtdjfjpeoddmamaaGreatDoor
