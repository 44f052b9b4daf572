/- Part W27 of the proof. -/
import Derived.Test.YtjkddcfoolilbaaGreatDoorW26
set_option linter.all false
namespace Go.Proofs.YtjkddcfoolilbaaGreatDoor
open Go.Abs
set_option maxRecDepth 100000
set_option maxHeartbeats 2000000
theorem dec_one{n:Nat}(h:Lib.decDigits n=[49]):n=1:=by
 by_cases h1:n< 10;rw[Lib.decDigits_one h1] at h;have:∀n,n< 10→[UInt8.ofNat (48+n)]=[49]→n=1:=by decide
 exact this n h1 h;have h2:=Lib.decDigits_length n;rw[h,Lib.nDigits_big h1] at h2;have:=Lib.nDigits_pos (n/ 10);simp at h2;omega
theorem pW_(n:Nat):ztx (n:Int)=Lib.decDigits n:=by
 unfold ztx;rw[if_neg (by omega),Int.natAbs_natCast];rfl
theorem pX_(z:Int):(ztx z).length≤bl z.natAbs+2:=by
 have:=jW_ z.natAbs;unfold ztx;split <;> simp <;> omega
theorem fs_rText(x:RQ)(hx:rok x)(h:qs x.1≤68719476736):FS 134 [.agg (rC x)] (tx (qtx x.1)):=by
 have hn:=Nat.le_trans (b5_ x.1) h;have hd:=Nat.le_trans (bP_ x.1) h;have zn:=os_ x.1.num hn;have zd:=os_ (x.1.den:Int) (by rw[Int.natAbs_natCast];exact hd);have ln:=pX_ x.1.num;have ld:=pX_ (x.1.den:Int);rw[Int.natAbs_natCast] at ld;have hcx:Closed (.aptr [rC x] 0 0):=aM_ (bL_ x);refine f_c Tryz.func134 ?_;refine r_z 2 ?_;by_cases h1:x.1.den=1;have e1:decide (ztx (x.1.den:Int)=[49])=true:=decide_eq_true (by rw[h1];decide+kernel);refine ab_ (r_c 4 (dx_ x hx) ?_);refine c_s (zd) ?_;refine o_0 (.bin rfl rfl (vT d9_ e1)) ?_;refine ak_ ?_;refine cT (r_c 4 (zn) ?_);refine a_z ?_;exact ag_ (aH_ rfl (by rw[qtx_eq,if_pos h1,List.append_nil]) (ad_ _));have e1:decide (ztx (x.1.den:Int)=[49])=false:=decide_eq_false fun e=>h1 (dec_one (by rw[←pW_];exact e));refine ab_ (r_c 4 (dx_ x hx) ?_);refine c_s (zd) ?_;refine o_0 (.bin rfl rfl (vF d9_ e1)) ?_;refine ak_ ?_;refine cF (ah_ (ab_ (r_d hmix 9 ?_)));refine c_s (zn) ?_;refine o_0 (.bin rfl rfl (cI_ (m:=[47]) (by simp;omega))) ?_;refine c_s (dx_ x hx) ?_;refine c_s (zd) ?_;refine o_0 (.bin rfl rfl (cI_ (by simp;omega))) ?_;refine a_1 ?_;refine ak_ (n_k ?_);exact ag_ (aH_ rfl (by rw[qtx_eq,if_neg h1,pW_,List.append_assoc];rfl) (ad_ _))
theorem fs_SameN(q:Rat)(x:RQ)(hx:rok x)(h:x.1=q)(hs:qs q≤68719476736):FS 65 [.agg (qC q),.agg (rC x)] (bln true):=by
 subst h;have e1:decide (qtx x.1=qtx x.1)=true:=decide_eq_true rfl;refine f_c Tryz.func65 ?_;refine r_z 3 ?_;refine ab_ (r_d hmix 6 ?_);refine c_s (rU_ x.1 hs) ?_;refine c_s (fs_rText x hx hs) ?_;refine o_0 (.bin rfl rfl (vT d9_ e1)) ?_;refine a_1 ?_;refine ak_ (n_k ?_);exact ag_ (t_e (ad_ _))
def vR(x:List RQ):List Rat:=x.map (·.1)
def okX(x:List RQ):Prop:=∀y∈x,rok y
def trimR(x:List RQ):List RQ:=x.take (trimQ (vR x)).length
theorem vR_trim(x:List RQ):vR (trimR x)=trimQ (vR x):=by
 unfold trimR;rw[vR,List.map_take];exact(lo_ (vR x)).symm
@[simp] theorem eS_ (x:List RQ):(vR x).length=x.length:=by simp[vR]
def lkS(l:List Rat)(x:List RQ):Nat→AState
 |i=>⟨[(0,.arr (pE l)),(1,.arr (rE x)),(5,i64 i)],[],1,27⟩
theorem fs_Alike(l:List Rat)(x:List RQ)(hx:okX x)(h:vR x=l)(hs:bdL l 68719476736)(hl:l.length≤1099511627776):FS 18 [.arr (pE l),.arr (rE x)] (bln true):=by
 have hxl:x.length=l.length:=by rw[←h];simp
 refine f_c Tryz.func18 ?_;refine r_z 1 ?_;refine ab_ (s_r 5 ?_);refine a_4 ?_;refine o_0 (.bin rfl rfl (vF bu_ ((by rw[hxl];simp)))) ?_;refine ak_ ?_;refine cF (ah_ (ab_ (r_z 1 ?_)));refine av_ (fun _:Unit=>⟨[(0,.arr (pE l)),(1,.arr (rE x))],[],1,27⟩) (fun _=>True) ?_ ?_;refine af_ (aq_ (lkS l x) (fun i=>l.length- i) (fun i=>i≤l.length) 0 (Nat.zero_le _) ?_ ?_);simp only[lkS.eq_1];exact s_e [];rintro i hi;simp only[lkS.eq_1];by_cases hlt:i< l.length;obtain⟨y,hy⟩:∃y,x[i]?=some y:=⟨_,List.getElem?_eq_getElem (by omega)⟩;have hq:l[i]?=some y.1:=by rw[←h,vR,List.getElem?_map,hy];rfl
 have g1:(pE l)[((i:Nat):Int).toNat]?=some (qC y.1):=pE_get hq;have g2:(rE x)[((i:Nat):Int).toNat]?=some (rC y):=qI_ hy;refine ab_ (q_z 4 ?_);refine cT (ah_ (ab_ (af_ (ab_ (r_d hmix 10 ?_)))));refine a_2 ?_;refine i_x g1 ?_;refine l_x g1 ?_;refine a_2 ?_;refine i_x g2 ?_;refine l_x g2 ?_;refine c_s (fs_SameN y.1 y (hx y (List.mem_of_getElem? hy)) rfl (hs _ (List.mem_of_getElem? hq))) ?_;refine a_1 ?_;refine ak_ (n_k ?_);refine cF (ah_ (r_m 3 ?_));refine a_z ?_;refine⟨i+1,by omega,hlt,?_⟩;exact s_e [];refine ab_ (q_z 4 ?_);refine cF (ao_ ⟨(),trivial,?_⟩);exact s_e [];rintro _ _;refine r_z 1 ?_;exact ag_ (t_e (ad_ _))
def rtmS(x:List RQ):Nat→AState
 |n=>⟨[(0,.arr (rE x)),(3,i64 n)],[],1,23⟩
theorem fs_rTrim(x:List RQ)(hl:x.length≤1099511627776):FS 47 [.arr (rE x)] (.arr (rE (trimR x))):=by
 obtain⟨v,hv⟩:∃v,v=vR x:=⟨_,rfl⟩;have hvl:v.length=x.length:=by rw[hv];simp
 refine f_c Tryz.func47 ?_;refine r_z 1 ?_;refine r_z 3 ?_;refine aQ_ (rtmS x) (fun n=>n≤v.length∧trimQ v=v.take n) ?_ ?_;refine af_ (aq_ (rtmS x) (fun n=>n) (fun n=>n≤v.length∧trimQ v=trimQ (v.take n)) v.length ⟨Nat.le_refl _,by rw[List.take_length]⟩ ?_ ?_);simp only[rtmS.eq_1];rw[hvl];exact s_e [];rintro n ⟨hn,ht⟩;simp only[rtmS.eq_1];cases n with
 |zero=>
  refine ab_ (s_r 11 ?_);refine a_1 ?_;refine o_0 (.bin rfl rfl (vF a3_ ((by simp)))) ?_;refine a_z ?_;refine cF (ao_ ⟨0,⟨Nat.zero_le _,?_⟩,?_⟩);rw[ht];rfl;simp only[rtmS.eq_1];exact s_e []
 |succ n=>
  obtain⟨y,hy⟩:∃y,x[n]?=some y:=⟨_,List.getElem?_eq_getElem (by omega)⟩;have hq:v[n]?=some y.1:=by rw[hv,vR,List.getElem?_map,hy];rfl
  have g2:(rE x)[(((n+1:Nat):Int)- 1).toNat]?=some (rC y):=by
   rw[show(((n+1:Nat):Int)- 1).toNat=n by omega];exact qI_ hy
  have hs:trimQ (v.take (n+1))=if y.1=0 then trimQ (v.take n) else v.take (n+1):=by
   rw[br_ hq,e9_]
  by_cases h0:y.1=0;refine ab_ (s_r 11 ?_);refine d_6 ?_;refine al_ rfl rfl rfl (.index_a rfl rfl (by omega) g2 rfl te_35.h) rfl rfl ?_;refine al_ rfl rfl rfl (.load_a rfl g2 TG.h TS.h (nle rfl)) rfl rfl ?_;refine c_s (h2_ y) ?_;refine al_ rfl rfl rfl (.bin rfl rfl (vT aS_ ((by rw[h0];decide)))) rfl rfl ?_;refine a_z ?_;refine cT (ah_ (af_ (r_m 3 ?_)));refine a_z ?_;refine⟨n,Nat.lt_succ_self n,⟨by omega,?_⟩,?_⟩;rw[ht,hs,if_pos h0];exact s_e []
  have hz:(sgZ y.1.num==(0:Int))=false:=by
   rw[beq_eq_false_iff_ne];exact fun e=>h0 (sgZ_num_eq.1 e)
  refine ab_ (s_r 11 ?_);refine d_6 ?_;refine al_ rfl rfl rfl (.index_a rfl rfl (by omega) g2 rfl te_35.h) rfl rfl ?_;refine al_ rfl rfl rfl (.load_a rfl g2 TG.h TS.h (nle rfl)) rfl rfl ?_;refine c_s (h2_ y) ?_;refine al_ rfl rfl rfl (.bin rfl rfl (vF aS_ (hz))) rfl rfl ?_;refine a_z ?_;refine cF (ao_ ⟨n+1,⟨hn,?_⟩,?_⟩);rw[ht,hs,if_neg h0];simp only[rtmS.eq_1];exact s_e []
 rintro n ⟨hn,ht⟩;simp only[rtmS.eq_1];have hnl:(trimQ v).length=n:=by rw[ht];simp;omega
 have htr:trimR x=x.take n:=by unfold trimR;rw[←hv,hnl]
 cases n with
 |zero=>
  refine s_r 5 ?_;refine a_2 ?_;refine o_0 (.sa_h rfl rfl (h:=0) rfl (by simp) te_35.h (is_ _)) ?_;refine o_0 (.append0 rfl rfl rfl te_35.h rfl rfl rfl (.arr (es:=[]) (by simp))) ?_;refine a_z ?_;refine ag_ ?_;rw[htr];exact Fin.tmpN rfl
 |succ n=>
  obtain⟨X,hX⟩:∃X,X=x.take (n+1):=⟨_,rfl⟩;have hXl:X.length=n+1:=by rw[hX];simp;omega
  have hXn:rE X≠[]:=fun e=>by have:=congrArg List.length e;simp[hXl] at this
  have e4:(rE x).take (n+1)=rE X:=by rw[rE_take,hX]
  have hXn':(rE x).take (n+1)≠[]:=by rw[e4];exact hXn
  refine s_r 5 ?_;refine a_2 ?_;refine o_0 (.sa_h rfl rfl (h:=n+1) rfl (by simp;omega) te_35.h (is_ _)) ?_;refine o_1 (.append_e rfl rfl rfl te_35.h rfl rfl rfl (.arr (by rw[e4];exact is_ _)) (by first|assumption|(simp;done)) TZ.h rfl TB.h d_o (by first|(simp[maxLen];done)|(simp[maxLen];omega))) ?_;refine a_z ?_;refine ag_ ?_;rw[htr,←hX,←e4];exact Fin.tmpS rfl rfl rfl rfl (by rw[e4];exact a9_ _)
def rP(v:List Rat):List RQ:=v.map rq
theorem lL_(v:List Rat):okX (rP v):=fun y hy=>by obtain⟨q,_,rfl⟩:=List.mem_map.1 hy;exact bO_ q
theorem vR_rP(v:List Rat):vR (rP v)=v:=by
 unfold vR rP;rw[List.map_map];exact List.map_id' v
@[simp] theorem eY_ (v:List Rat):(rP v).length=v.length:=by simp[rP]
theorem vR_get{x:List RQ}{i:Nat}(h:i< x.length):∃y,x[i]?=some y∧y.1=coP (vR x) i:=by
 refine⟨_,List.getElem?_eq_getElem h,?_⟩;unfold coP vR;rw[List.getD_eq_getElem?_getD,List.getElem?_map,List.getElem?_eq_getElem h];rfl
@[simp] theorem ha_ (x:List RQ):(trimR x).length=(trimQ (vR x)).length:=by rw[←vR_trim,eS_]
theorem dI_(x:List RQ)(hl:x.length≤1000000):FS 32 [.arr (rE x)] (i64 (degP (vR x))):=by
 have htl:=bc_ (vR x);rw[eS_,←ha_] at htl;refine f_c Tryz.func32 ?_;refine r_z 1 ?_;refine r_c 5 (fs_rTrim x (by omega)) ?_;refine a_z ?_;exact ag_ (aH_ rfl (by rw[ha_];rfl) (ad_ _))

def zR4:List AV:=[i64 0,.emp,i64 0,.emp]
def dSt(d:List Rat)(s:List Rat×List RQ):List Rat×List RQ:=
 (addP s.1 (shP ((vR s.2).length- d.length) [leadP (vR s.2) / leadP d]),rP (subP (vR s.2) (mulP d (shP ((vR s.2).length- d.length) [leadP (vR s.2) / leadP d]))))
structure DInv (p d:List Rat)(t L:Nat)(s:List Rat×List RQ):Prop where
 ok:okX s.2
 tr:trimQ (vR s.2)=vR s.2
 bd:∃b,1≤b∧bdL (vR s.2) b∧bdL s.1 b∧(b+2* t+3) * 2^ s.2.length≤L
 ln:s.2.length≤p.length
 lq:s.1.length≤p.length
 ev:∀x,evalP p x=evalP s.1 x* evalP d x+evalP (vR s.2) x
theorem DInv.step{p d:List Rat}{t L:Nat}{s:List Rat×List RQ}(h:DInv p d t L s)(hd:trimQ d=d)(hd0:d≠[])(hdt:bdL d t)(ht:1≤t)(hl:d.length≤s.2.length):DInv p d t L (dSt d s)∧(dSt d s).2.length< s.2.length:=by
 obtain⟨q,X⟩:=s;obtain⟨ok,tr,⟨b,b1,bx,bq,hb⟩,ln,lq,ev⟩:=h;simp only at *
 have hdl:=List.length_pos_iff.2 hd0;have hlt:=step_len tr hd hd0 (by rw[eS_];exact hl);obtain⟨s1,s2,s3⟩:=step_bd bx hdt b1 ht hd0 ((vR X).length- d.length);obtain⟨a,ha⟩:∃a,a=leadP (vR X) / leadP d:=⟨_,rfl⟩;unfold dSt;simp only;rw[eS_] at hlt s2 s3⊢;rw[←ha] at hlt s1 s2 s3⊢;refine⟨⟨lL_ _,?_,⟨2* b+2* t+3,by omega,?_,?_,?_⟩,?_,?_,?_⟩,?_⟩;rw[vR_rP];exact qa_ _ _;rw[vR_rP];exact s3;have h1:bdL [a] (b+t):=fun x hx=>by rw[List.mem_singleton.1 hx];exact s1
 exact k7_ (o1_ bq (bdL_sh h1 (by omega) _) b1 (by omega)) (by omega);simp only[eY_];obtain⟨n,hn⟩:∃n,X.length=n+1:=⟨X.length- 1,by omega⟩;have h1:2^ (subP (vR X) (mulP d (shP (X.length- d.length) [a]))).length≤2^ n:=Nat.pow_le_pow_right (by decide) (by omega);have h2:=Nat.mul_le_mul_left (2* b+2* t+3+2* t+3) h1
 have h3:(b+2* t+3) * 2^ X.length=(2* b+2* t+3+2* t+3) * 2^ n:=by
  rw[hn,Nat.pow_succ,show 2* b+2* t+3+2* t+3=(b+2* t+3) * 2 by omega,Nat.mul_assoc,Nat.mul_comm 2 (2^ n)]
 omega;simp only[eY_];omega;have h1:=gE_ q (shP (X.length- d.length) [a]);rw[gM_] at h1;simp at h1⊢;omega;intro x;rw[vR_rP,go_,el_,gs_,ev x];grind;simp only[eY_];exact hlt


theorem qs_pow{x:Rat}{t:Nat}(h:qs x≤t):∀n,qs (x^ n)≤n* t+1
 |0=>by rw[Rat.pow_zero];exact Nat.le_trans (by decide:qs 1≤1) (Nat.le_add_left 1 _)
 |n+1=>by
  have h1:=qs_pow h n;have h2:=bH_ (x^ n) x;rw[Rat.pow_succ,Nat.succ_mul];omega
def evS(x:List RQ)(a:RQ):Nat×Rat×Rat→AState
 |(i,o,w)=>⟨[(0,.arr (rE x)),(3,.lptr 1 0 0),(4,.lptr 2 0 0),(5,.lptr 3 0 0),(6,.lptr 4 0 0),(7,i64 i)],[(1,some ⟨51,4,[rC a]⟩),(2,some ⟨51,4,[zR4]⟩),(3,some ⟨51,4,[rC (rq o)]⟩),(4,some ⟨51,4,[rC (rq w)]⟩)],5,28⟩
theorem kC_(x:List RQ)(a:RQ)(s t:Nat)(hx:okX x)(ha:rok a)(hs:bdL (vR x) s)(hs1:1≤s)(ht:qs a.1≤t)(hlim:(x.length+2) * (s+t+1)≤137438953472)(hl:x.length≤1000000):
    FS 63 [.arr (rE x),.agg (rC a)] (.agg (rC (rq (evalP (vR x) a.1)))):=by
 have hi0:FS 49 [i64 0] (.agg (rC (rq 0))):=kB_ 0 (by decide);have hi1:FS 49 [i64 1] (.agg (rC (rq 1))):=kB_ 1 (by decide);have hvl:=eS_ x;refine f_c Tryz.func63 ?_;refine r_z 2 ?_;refine r_c 6 (hi0) ?_;refine c_s (hi1) ?_;refine a_z ?_;refine ab_ (r_z 1 ?_);refine av_ (fun _:Unit=>⟨[(4,.lptr 1 0 0),(5,.lptr 2 0 0)],[(1,some ⟨51,4,[zR4]⟩),(2,some ⟨51,4,[rC (rq (evalP (vR x) a.1))]⟩)],3,28⟩) (fun _=>True) ?_ ?_;refine af_ (aq_ (evS x a) (fun y=>x.length- y.1) (fun y=>y.1≤x.length∧y.2.1=evalP ((vR x).take y.1) a.1∧y.2.2=a.1^ y.1) (0,0,1) ⟨Nat.zero_le _,rfl,(Rat.pow_zero _).symm⟩ ?_ ?_);simp only[evS.eq_1];exact s_e [(1,3),(2,4),(3,5),(4,6)];rintro⟨i,o,w⟩ ⟨hi,ho,hw⟩;simp only at hi ho hw;rw[evS.eq_1];refine ab_ (r_z 4 ?_);refine aj_ rfl (fun h=>?_) (fun h=>?_);refine ah_ ?_;have hlt:i< x.length:=by simpa using h
 obtain⟨y,hy,hyc⟩:=vR_get hlt;have hym:=List.mem_of_getElem? hy;have hgt:(rE x)[((i:Nat):Int).toNat]?=some (rC y):=qI_ hy;have hc:=dv_ hs hs1 i;rw[←hyc] at hc;have hp:=qs_pow ht i;rw[←hw] at hp;have hob:=gr_ ht (l:=(vR x).take i) (s:=s) fun q hq=>hs q (List.mem_of_mem_take hq);rw[←ho,List.length_take,hvl,Nat.min_eq_left (by omega)] at hob;have e1:(i+1) * (s+t+1)≤(x.length+1) * (s+t+1):=Nat.mul_le_mul_right _ (by omega);have e2:(x.length+2) * (s+t+1)=(x.length+1) * (s+t+1)+(s+t+1):=Nat.succ_mul _ _;have e3:(i+1) * (s+t+1)=i* (s+t+1)+(s+t+1):=Nat.succ_mul _ _;have e4:i* t≤i* (s+t+1):=Nat.mul_le_mul_left _ (by omega);have m1:=fY_ y (rq w) (hx y hym) (bO_ _) (by show qs y.1+qs w≤_;omega);have q1:=bH_ y.1 w;have m2:=kD_ (rq o) (rq (y.1* w)) (bO_ _) (bO_ _) (by show qs o+qs (y.1* w)≤_;omega);have m3:=fY_ (rq w) a (bO_ _) ha (by show qs w+qs a.1≤_;omega);refine ab_ (af_ (ab_ (r_d hmix 9 ?_)));refine a_3 ?_;refine i_x hgt ?_;refine l_x hgt ?_;refine c_s (m1) ?_;refine c_s (m2) ?_;refine a_1 ?_;refine ak_ (n_k ?_);refine r_m 4 ?_;refine c_s (m3) ?_;refine a_z ?_;refine r_m 3 ?_;refine a_z ?_;refine⟨(i+1,o+y.1* w,w* a.1),by simp only;omega,⟨hlt,?_,by simp only;rw[hw,Rat.pow_succ]⟩,?_⟩;simp only;rw[jS_ _ _ _ (by omega),←ho,hyc,hw];simp only[evS.eq_1];exact s_e []
 have hge:i=x.length:=by
  have:¬i< x.length:=by simpa using h
  omega
 subst hge;rw[List.take_of_length_le (by omega)] at ho;subst ho;refine ao_ ⟨(),trivial,?_⟩;exact s_e [(1,4),(2,5)];rintro _ _;refine r_z 2 ?_;exact ag_ (c_e (b0_ _))



theorem mxL_le{p:List Rat}{s:Nat}(h:bdL p s)(hs:1≤s):mxL p≤s:=by
 unfold mxL
 induction p with
 |nil=>exact hs
 |cons a l ih=>
  have h1:=h a (List.mem_cons_self ..);have h2:=ih fun q hq=>h q (List.mem_cons_of_mem _ hq);rw[List.foldr_cons];omega
def pkR(p:List Rat×List Rat):List AV:=[.arr (rE (rP p.1)),.arr (rE (rP p.2))]
def keR(k:Ke):List (List AV):=k.map pkR
@[simp] theorem fj_ (k:Ke):(keR k).length=k.length:=by simp[keR]
theorem eo_(k:Ke):∀x∈keR k,∀c∈x,Closed c:=fun x hx=>by
 obtain⟨p,_,rfl⟩:=List.mem_map.1 hx;exact aa_ (aR_ _) (aa_ (aR_ _) ac_)
theorem aO_(k:Ke):Closed (.arr (keR k)):=ax_ (eo_ k)
theorem re_{k:Ke}{i:Nat}{p:List Rat×List Rat}(h:k[i]?=some p):∀e,e=i→(keR k)[e]?=some (pkR p):=fun e he=>by
 rw[he,keR,List.getElem?_map,h];rfl
def bRq(a:Rat):AV:= .aptr [rC (rq a)] 0 0
theorem bT_(a:Rat):Closed (bRq a):=aM_ (bL_ _)

def okL(n:Nat)(p last:List Rat):Prop:=okMul (bd_ [0,1] ((2* (n:Int)+1:Int):Rat)) p∧smL last∧smL (bd_ last ((n:Int):Rat))∧smL (subP (mulP (bd_ [0,1] ((2* (n:Int)+1:Int):Rat)) p) (bd_ last ((n:Int):Rat)))∧(mulP (bd_ [0,1] ((2* (n:Int)+1:Int):Rat)) p).length≤1000∧last.length≤1000∧n≤1000
instance (n:Nat) (p last:List Rat):Decidable (okL n p last):=inferInstanceAs (Decidable (_∧_∧_∧_∧_∧_∧_))
def okH(n:Nat)(p last:List Rat):Prop:=okMul twP p∧smL last∧smL (bd_ last ((2* (n:Int):Int):Rat))∧(mulP twP p).length≤1000∧last.length≤1000∧n≤1000
instance (n:Nat) (p last:List Rat):Decidable (okH n p last):=inferInstanceAs (Decidable (_∧_∧_∧_∧_∧_))

def okC(_:Nat)(p last:List Rat):Prop:=okMul twP p∧smL last∧(mulP twP p).length≤1000∧last.length≤1000
instance (n:Nat) (p last:List Rat):Decidable (okC n p last):=inferInstanceAs (Decidable (_∧_∧_∧_))






















section
variable {a b:Rat}(h:a< b){k:Nat}(hk:1≤k∧k≤4)(ha:qs a≤20)(hb:qs b≤20)
include h hk ha hb
end
section
variable {a b a' b':Rat}(h:a< b)(h':a'< b'){k:Nat}(hk:1≤k∧k≤4)(ha:qs a≤20)(hb:qs b≤20)(ha':qs a'≤20)(hb':qs b'≤20)
include h h' hk ha hb ha' hb'
end


end Go.Proofs.YtjkddcfoolilbaaGreatDoor
namespace Go.Proofs.YtjkddcfoolilbaaGreatDoor
open Go.Abs Go.Deep Go.RowKit Go.WideShapes
set_option maxRecDepth 20000
def okN(r:NRow):Prop:=i64r r.1∧i64r r.2.1∧r.2.2≤255
theorem numP_of{H:Type}{enc:TypeId×Value→H}{W:World}{base:Nat}{v:Value}{d:DataW H}{ps:List MemPlace}(hv:Value.okWide Tryz.prog W .any base 24 v)(h:DataW.Trod enc Tryz.prog W 0 (fun _=>true) true 24 v d ps):
    ∃r:NRow,okN r∧RV (fun _=>False) (fun _=>none) W (.agg (nuC r.1 r.2.1 r.2.2)) v:=by
 obtain⟨f0,f1,f2,hu,_⟩:=tyN
 obtain⟨cs,rfl,_⟩:∃cs,v= .agg cs∧True:=by
  unfold Value.okWide at hv;rw[hu] at hv;obtain⟨cs,h1,_⟩:=hv;exact⟨cs,h1,trivial⟩
 obtain⟨fuel,hf⟩:=h;obtain⟨r,r1,r2,r3,e⟩:=num_of hf;refine⟨r,⟨r1,r2,r3⟩,cs,rfl,?_⟩;have e':cs.toList=[.int .i64 r.1,.int .i64 r.2.1,.int .u8 r.2.2]:=by simpa[Value.cells] using e
 rw[e'];exact⟨_,_,rfl,rfl,_,_,rfl,rfl,_,_,rfl,rfl,rfl⟩
end Go.Proofs.YtjkddcfoolilbaaGreatDoor
namespace Go.Proofs.YtjkddcfoolilbaaGreatDoor
open Go.Abs
set_option maxRecDepth 20000
set_option maxHeartbeats 2000000
def goodN(r:NRow):Bool:=decide (¬((r.2.2:Int) % 4≠0)∧¬r.1> 999999∧¬r.1< -999999∧¬r.2.1> 999999∧¬r.2.1< -999999)
def tameB(l:List NRow)(k:Nat):Bool:=l.all goodN && decide (l.length≤k)
theorem gW_(l:List NRow)(k:Nat)(hl:l.length≤9223372036854775807)(hk:k≤1000000):FS 8 [.arr (nR l),i64 k] (bln (tameB l k)):=by
 have hnl:(nR l).length=l.length:=by simp[nR]
 refine f_n Tryz.func8 ?_ ?_;exact aa_ (ax_ (by_ l)) (aa_ (ad_ _) ac_);refine r_z 1 ?_;refine ab_ (r_z 1 ?_);refine av_ (fun _:Unit=>⟨[(0,.arr (nR l)),(1,i64 k)],[],1,45⟩) (fun _=>l.all goodN=true) ?_ ?_;refine af_ (aq_ (fun j:Nat=>⟨[(5,i64 ((j:Nat):Int)),(0,.arr (nR l)),(1,i64 k)],[],1,45⟩) (fun j=>l.length- j) (fun j=>j≤l.length∧(l.take j).all goodN=true) 0 ⟨Nat.zero_le _,rfl⟩ ?_ ?_);have:=(ax_ (by_ l));exact s_f [];rintro j ⟨hj,hg⟩;by_cases hlt:j< l.length;obtain⟨r,hr⟩:∃r,l[j]?=some r:=⟨_,List.getElem?_eq_getElem hlt⟩
 have hgt:(nR l)[((j:Nat):Int).toNat]?=some (nuC r.1 r.2.1 r.2.2):=by
  rw[Int.toNat_natCast,nR,List.getElem?_map,hr];rfl
 have hbad:goodN r=false→tameB l k=false:=fun h=>by
  unfold tameB;rw[Bool.and_eq_false_iff];exact .inl (List.all_eq_false.2 ⟨r,List.mem_of_getElem? hr,by rw[h];decide⟩)
 refine ab_ (q_z 4 ?_);refine cT (ah_ (ab_ (af_ (s_r 6 ?_))));refine a_2 ?_;refine i_x hgt ?_;refine l_x hgt ?_;refine a_z ?_;by_cases c0:((r.2.2:Int) % 4≠0);have hgd:goodN r=false:=decide_eq_false (by rintro⟨e0,e1,e2,e3,e4⟩;exact e0 c0);rw[hbad hgd];refine s_r 24 ?_;refine a_3 ?_;refine o_0 (.bin rfl rfl (vT bu_ ((by simpa using c0)))) ?_;refine a_z ?_;refine cT (r_z 1 ?_);exact ag_ (t_e (ad_ _));by_cases c1:r.1> 999999;have hgd:goodN r=false:=decide_eq_false (by rintro⟨e0,e1,e2,e3,e4⟩;exact e1 c1);rw[hbad hgd];refine s_r 24 ?_;refine a_3 ?_;refine o_0 (.bin rfl rfl (vF bu_ ((by simpa using c0)))) ?_;refine d_z ?_;refine cT (r_z 1 ?_);exact ag_ (t_e (ad_ _));by_cases c2:r.1< -999999;have hgd:goodN r=false:=decide_eq_false (by rintro⟨e0,e1,e2,e3,e4⟩;exact e2 c2);rw[hbad hgd];refine s_r 24 ?_;refine a_3 ?_;refine o_0 (.bin rfl rfl (vF bu_ ((by simpa using c0)))) ?_;refine d_z ?_;refine cT (r_z 1 ?_);exact ag_ (t_e (ad_ _));by_cases c3:r.2.1> 999999;have hgd:goodN r=false:=decide_eq_false (by rintro⟨e0,e1,e2,e3,e4⟩;exact e3 c3);rw[hbad hgd];refine s_r 24 ?_;refine a_3 ?_;refine o_0 (.bin rfl rfl (vF bu_ ((by simpa using c0)))) ?_;refine d_z ?_;refine cT (r_z 1 ?_);exact ag_ (t_e (ad_ _));by_cases c4:r.2.1< -999999;have hgd:goodN r=false:=decide_eq_false (by rintro⟨e0,e1,e2,e3,e4⟩;exact e4 c4);rw[hbad hgd];refine s_r 24 ?_;refine a_3 ?_;refine o_0 (.bin rfl rfl (vF bu_ ((by simpa using c0)))) ?_;refine d_z ?_;refine cT (r_z 1 ?_);exact ag_ (t_e (ad_ _))
 have hgd:goodN r=true:=decide_eq_true ⟨c0,c1,c2,c3,c4⟩;refine s_r 24 ?_;refine a_3 ?_;refine o_0 (.bin rfl rfl (vF bu_ ((by simpa using c0)))) ?_;refine d_z ?_;refine cF (ah_ (r_m 3 ?_));refine a_z ?_;refine⟨j+1,by omega,⟨hlt,?_⟩,?_⟩;rw[br_ hr,List.all_append,hg];simp[hgd];have:=(ax_ (by_ l));exact s_f [];have hge:l.take j=l:=List.take_of_length_le (by omega);rw[hge] at hg;refine ab_ (q_z 4 ?_);refine cF (ao_ ⟨(),hg,?_⟩);have:=(ax_ (by_ l));exact s_f [];rintro _ hg
 have e:tameB l k=decide ((((nR l).length:Nat):Int)≤(k:Int)):=by
  unfold tameB;rw[hg,Bool.true_and,hnl];exact decide_eq_decide.2 (by omega)
 rw[e];refine r_z 5 ?_;exact ag_ (t_e (ad_ _))
theorem good_qs{r:NRow}(h:goodN r=true)(hb:i64r r.1)(hd:i64r r.2.1):qs (numV r.1 r.2.1 r.2.2)≤20:=by
 obtain⟨h0,h1,h2,h3,h4⟩:=of_decide_eq_true h;have hp:r.2.2 % 4=0:=by omega
 have hN:bl r.1.natAbs≤20:=bl_le (by omega);unfold numV;rw[hp];show qs (Rat.divInt r.1 (dNum r.2.1))≤20;obtain⟨d,hde⟩:∃d,d=dNum r.2.1:=⟨_,rfl⟩;have hd0:d≠0:=by rw[hde];unfold dNum;split <;> omega
 have hdb:bl d.natAbs≤20:=by rw[hde];unfold dNum;split <;> exact bl_le (by omega)
 rw[←hde];by_cases hn:d< 0;rw[g2_ _ d hn];exact c0_ (by omega) (by rw[Int.natAbs_neg];exact hN) (by omega);rw[g1_ _ d (by omega)];exact c0_ (by omega) hN (by omega)
theorem gJ_{l:List NRow}{k:Nat}(h:tameB l k=true)(ho:okR l):bdL (nL l) 20∧(nL l).length≤k:=by
 unfold tameB at h;rw[Bool.and_eq_true,List.all_eq_true] at h;refine⟨fun q hq=>?_,by simpa[nL] using h.2⟩;obtain⟨r,hr,rfl⟩:=List.mem_map.1 hq;exact good_qs (h.1 r hr) (ho r hr).1 (ho r hr).2.1
structure CG (f N h Q:Nat)(p:List Rat)(c:Cnt):Prop where
 hc:eJ_ f p=some c
 np:nz p
 ok:∀x,qs x≤Q→okUp c x∧okBe c x
 len:c.p.length≤N
 bd:bdL c.p (h+12* N+8)
 ht:Ht c.p (h+12* N+8)
def jB(N h g r J:Nat):Bool:=(List.range (N+1)).all fun m=>(List.range (m+1)).all fun n=>decide (sF (n+1) m n h g (r+1)+(max h g+(r+1+2) * m)+1≤J) && decide (sF (n+1) m n g h (r+1)+(max h g+(r+1+2) * m)+1≤J)
structure RC (f N h Q r J:Nat)(p:List Rat)(c:Cnt)(i:Int)(A B:Rat):Prop where
 H:CG f N h Q p c
 h1:1≤h
 hN:N≤12
 hJ:jB N (h+12* N+8) (h+12* N+13) r J=true
 at_:At c i A B
 hA:ab A≤p2 r
 hB:ab B≤p2 r
 i0:0≤i
 ia:i< allV c
 hQ:r+J+4≤Q
 hb:2* (h+12* N+8)+10≤Q
 hb2:h≤10000000
 hf:2* (h+12* N+8)+6≤f
section
variable {f N h Q r J g:Nat}{p:List Rat}{c:Cnt}{i:Int}{A B:Rat}(R:RC f N h Q r J p c i A B)
include R
end
section
variable {f N h Q r J g M hq X Xd Td J2:Nat}{p:List Rat}{c:Cnt}{i:Int}{A B:Rat}(R:RC f N h Q r J p c i A B)
include R
end
structure SB (f N h Q r g hq J2:Nat):Prop where
 hq1:1≤hq
 gcd:∃X,X≤137438953472∧((List.range (N+1)).all fun m=>(List.range (N+1)).all fun n=>hG f m n (h+12* N+8) hq X)=true
 cd:∃X T,cH f N (h+24* N+16) X T Q=true
 cq:∃X T,cH f N hq X T Q=true
 hJ2:jB N (h+24* N+16) hq r J2=true
 hg:J2< g
 hQ2:r+J2+4≤Q
 ev:24* (hq+Q+1)+hq+Q+2≤137438953472
theorem cmpQ_le{a b:Rat}:cmpQ a b≤0↔a≤b:=by
 unfold cmpQ;grind

structure RB (f N h Q r g kk J J2 J3:Nat):Prop where
 c1:∃X T,cH f N (h+5) X T Q=true
 N1:1≤N
 N12:N≤12
 h1:1≤h
 hJ:jB N (h+5+12* N+8) (h+5+12* N+13) r J=true
 gJ:J< g
 QJ:r+J+4≤Q
 S:SB f N (h+5) Q r g (h+5+(h+5+(r+2) * 24+2)+kk+3) J2
 j3:h+5+(r+3) * 24+kk+1≤J3
 g3:J3< g
 Q3:r+J3+4≤Q
 lim:h+5+24* (r+J3+2+(h+5)+1)+(r+J3+2)≤60000000000
 k3:kk≤256
 rw_:(r+2) * 24≤100000
 hb:2* (h+5+12* N+8)+10≤Q
 hb2:h+5≤10000000
 hf:2* (h+5+12* N+8)+6≤f
 gg:549755813890≤g
section
variable {f N h Q r g J J2 J3:Nat}{k:Int}(B:RB f N h Q r g (wi k 256) J J2 J3){p:List Rat}{K:Rat}(hpl:p.length≤24)(lp:(trimQ p).length≤N)(bp:bdL p h)(Hp:HS p K h){lo hi:Rat}(hlh:lo≤hi)(hlo:ab lo≤p2 r)(hhi:ab hi≤p2 r)
include B hpl lp bp Hp hlh hlo hhi
end

theorem kO_(p q:List Rat)(o:okMul p q):FS 76 [.arr (pE p),.arr (pE q)] (.arr (pE (mulP p q))):=
 fs_Mul p q (mxL p) (mxL q) (cW_ p) (cW_ q) (cL_ p) (cL_ q) o.1 o.2.1 o.2.2.1 o.2.2.2
theorem bG_{a b:List AV}(ha:∀c∈a,Closed c)(hb:∀c∈b,Closed c):∀c∈a++b,Closed c:=fun c hc=>(List.mem_append.1 hc).elim (ha c) (hb c)
theorem fs_SNeg(a b:Rat):FS 194 [.agg (spC a b)] (.agg (spC (-b) (-a))):=by
 refine f_c Tryz.func194 ?_;refine r_z 2 ?_;refine ab_ (r_d hmix 8 ?_);refine c_s (hg_ b) ?_;refine c_s (hg_ a) ?_;refine a_2 ?_;refine ak_ (n_k ?_);exact ag_ (c_e (a0_ _ _))
def absL(v:Sp):Rat:=if 0≤v.1 then v.1 else if v.2≤0 then -v.2 else 0
theorem sg_ge{q:Rat}:(0:Int)≤sgZ q.num↔0≤q:=by
 have h:=sgZ_num_lt (q:=q);constructor;intro g;have:¬q< 0:=fun e=>by have:=h.2 e;omega
 grind;intro g;have:¬sgZ q.num< 0:=fun e=>by have:=h.1 e;grind
 omega
theorem sg_le{q:Rat}:sgZ q.num≤(0:Int)↔q≤0:=by
 have h:=sgZ_num_gt (q:=q);constructor;intro g;have:¬0< q:=fun e=>by have:=h.2 e;omega
 grind;intro g;have:¬0< sgZ q.num:=fun e=>by have:=h.1 e;grind
 omega
theorem fs_SAbs(v:Sp)(h1:sm v.1)(h2:sm v.2):FS 155 [.agg (spC v.1 v.2)] (.agg (spC (absL v) (absH v))):=by
 have hc:∀c∈spC v.1 v.2,Closed c:=a4_ _ _;refine f_c Tryz.func155 ?_;refine r_z 2 ?_;refine ab_ (af_ ?_);by_cases g1:0≤v.1;rw[show absL v=v.1 from if_pos g1,show absH v=v.2 from if_pos g1];refine r_c 5 (bt_ v.1) ?_;refine o_0 (.bin rfl rfl (vT gC_ (decide_eq_true (sg_ge.2 g1)))) ?_;refine a_z ?_;refine cT (r_z 2 ?_);exact ag_ (c_e (a0_ _ _));refine r_c 5 (bt_ v.1) ?_;refine o_0 (.bin rfl rfl (vF gC_ (decide_eq_false (fun e=>g1 (sg_ge.1 e))))) ?_;refine a_z ?_;refine cF ?_;by_cases g2:v.2≤0;rw[show absL v= -v.2 from(if_neg g1).trans (if_pos g2),show absH v= -v.1 from(if_neg g1).trans (if_pos g2)];refine r_c 5 (bt_ v.2) ?_;refine o_0 (.bin rfl rfl (vT bw_ (decide_eq_true (sg_le.2 g2)))) ?_;refine a_z ?_;refine cT (r_c 3 (fs_SNeg v.1 v.2) ?_);refine a_z ?_;exact ag_ (c_e (a0_ _ _));rw[show absL v=0 from(if_neg g1).trans (if_neg g2),show absH v=maxL [-v.1,v.2] from(if_neg g1).trans (if_neg g2)];refine r_c 5 (bt_ v.2) ?_;refine o_0 (.bin rfl rfl (vF bw_ (decide_eq_false (fun e=>g2 (sg_le.1 e))))) ?_;refine a_z ?_;refine cF (ah_ ?_);have hm:=ow_ [-v.1,v.2] (mJ_ (by unfold sm;rw[dA_];exact h1) h2) (by simp);refine ab_ (r_d hmix 10 ?_);refine c_s (hg_ v.1) ?_;refine a_3 ?_;refine o_1 (.callS1 rfl rfl rfl (.shut rfl d_n (.nil)) rfl (hm)) ?_;refine a_2 ?_;refine ak_ (n_k ?_);refine ag_ ?_;rw[show spC 0 (maxL [-v.1,v.2])=[.arr [],bln false,.arr []]++qC (maxL [-v.1,v.2]) from by unfold spC;rw[qC0]];refine Fin.cell rfl rfl rfl TG.h TS.h (nle rfl) ?_
 exact Cv.agg (ae_ (Cv.emp _) (ae_ (ai_ as_ (ad_ _)) (ae_ (Cv.emp _) (CvL.clo as_ (aN_ _)))))
abbrev prC(p:List Rat×List Rat):List AV:=[.arr (pE p.1),.arr (pE p.2)]
def kE(k:Ke):List (List AV):=k.map prC
@[simp] theorem bX_ (k:Ke):(kE k).length=k.length:=by simp[kE]
theorem dg_(p:List Rat×List Rat):∀c∈prC p,Closed c:=aa_ (ap_ _) (aa_ (ap_ _) ac_)
theorem ca_(k:Ke):∀x∈kE k,∀c∈x,Closed c:=fun x hx=>by
 obtain⟨p,_,rfl⟩:=List.mem_map.1 hx;exact dg_ p
theorem aA_(k:Ke):Closed (.arr (kE k)):=ax_ (ca_ k)
theorem fF_{k:Ke}{i:Nat}{p:List Rat×List Rat}(h:k[i]?=some p):∀e,e=i→(kE k)[e]?=some (prC p):=fun e he=>by
 rw[he,kE,List.getElem?_map,h];rfl
def bigP(p:List Rat×List Rat):Bool:=decide (12< if degP p.2> degP p.1 then degP p.2 else degP p.1)
theorem ma_(p:List Rat×List Rat)(h1:p.1.length≤1099511627776)(h2:p.2.length≤1099511627776):FS 173 [.agg (prC p)] (bln (bigP p)):=by
 refine f_n Tryz.func173 ?_ ?_;exact aa_ (aw_ (dg_ p)) ac_;refine r_z 2 ?_;refine ab_ (r_d hmix 9 ?_);refine c_s (b7_ p.1 h1) ?_;refine c_s (b7_ p.2 h2) ?_;refine a_3 ?_;refine ak_ (n_k ?_);exact ag_ (t_e (ad_ _))
def idxA{α:Type}(t:α→Bool):List α→Int→Int
 |[],_=> -1
 |a::l,i=>if t a then i else idxA t l (i+1)
theorem hW_{α:Type}(t:α→Bool):∀(l:List α) (i:Int),0≤i→(decide (0≤idxA t l i))=l.any t
 |[],i,_=>by simp[idxA]
 |a::l,i,hi=>by
  unfold idxA;cases h:t a with
  |true=>simp[h,hi]
  |false=>simp[h];rw[←hW_ t l (i+1) (by omega)]
theorem ni_{α:Type}{l:List α}{i:Nat}{a:α}(h:l[i]?=some a):l.drop i=a::l.drop (i+1):=by
 obtain⟨h1,h2⟩:=List.getElem?_eq_some_iff.1 h;rw[←h2];exact List.drop_eq_getElem_cons h1
def ikS(k:Ke)(g:Nat)(cap:List AV):Nat→AState
 |i=>⟨[(0,.arr (kE k)),(1,.clos g [] cap),(7,i64 k.length),(8,i64 i)],[],1,19⟩
theorem rW_(k:Ke)(g:Nat)(cap:List AV)(t:List Rat×List Rat→Bool)(hcap:∀c∈cap,Closed c)(hl:k.length≤1099511627776)(hg:∀p∈k,FS g ((.agg (prC p)::cap).map coe) (bln (t p))):FS 212 [.arr (kE k),.clos g [] cap] (i64 (idxA t k 0)):=by
 have hcc:Closed (.clos g [] cap):=aE_ ac_ hcap;have hkl:(kE k).length=k.length:=bX_ k;refine f_n Tryz.func212 ?_ ?_;exact aa_ (aA_ k) (aa_ hcc ac_);obtain⟨R,hR⟩:∃R,R=idxA t k 0:=⟨_,rfl⟩;rw[←hR];refine r_z 1 ?_;refine ab_ (r_z 3 ?_);refine av_ (fun _:Unit=>⟨[],[],1,19⟩) (fun _=>R= -1) ?_ ?_;refine af_ (aq_ (ikS k g cap) (fun i=>k.length- i) (fun i=>i≤k.length∧idxA t (k.drop i) i=R) 0 ⟨Nat.zero_le _,by rw[hR];rfl⟩ ?_ ?_);simp only[ikS.eq_1];exact s_x [] (fun hs=>e_34) (fun hs=>e_35);rintro i ⟨hi,hr⟩;rw[ikS.eq_1];by_cases hlt:i< k.length;refine q_z 1 ?_;refine ab_ (cT (ah_ ?_));obtain⟨p,hp⟩:∃p,k[i]?=some p:=⟨_,List.getElem?_eq_getElem hlt⟩;have hgt:(kE k)[((i:Nat):Int).toNat]?=some (prC p):=fF_ hp _ (by simp);rw[ni_ hp,idxA] at hr;refine ab_ (af_ (r_z 2 ?_));refine s_r 6 ?_;refine a_3 ?_;refine i_x hgt ?_;refine l_x hgt ?_;refine c_s (hg p (List.mem_of_getElem? hp)) ?_;refine ak_ ?_;refine aj_ rfl (fun h1=>?_) (fun h1=>?_);have h2:t p=true:=h1;rw[if_pos h2] at hr;refine r_z 2 ?_;refine ag_ (aH_ rfl ?_ ?_);rw[←hr];exact ad_ _;have h2:¬t p=true:=by rw[show t p=false from h1];decide
 rw[if_neg h2] at hr;refine ah_ (r_m 2 ?_);refine a_z ?_;refine⟨i+1,by omega,⟨hlt,hr⟩,?_⟩;simp only[ikS.eq_1];exact s_x [] (fun hs=>e_34) (fun hs=>e_35);have hge:i=k.length:=by omega
 subst hge;refine q_z 1 ?_;refine ab_ (cF ?_);rw[List.drop_length] at hr;refine ao_ ⟨(),hr.symm,?_⟩;exact s_e [];rintro _ hr;refine r_z 1 ?_;refine ag_ (aH_ rfl ?_ ?_);rw[hr];rfl;exact ad_ _
theorem hh_(k:Ke)(g:Nat)(cap:List AV)(t:List Rat×List Rat→Bool)(hcap:∀c∈cap,Closed c)(hl:k.length≤1099511627776)(hg:∀p∈k,FS g ((.agg (prC p)::cap).map coe) (bln (t p)))(hcap2:cap.map coe=cap):FS 172 [.arr (kE k),.clos g [] cap] (bln (k.any t)):=by
 have hcc:Closed (.clos g [] cap):=aE_ ac_ hcap;have e:=hW_ t k 0 (Int.le_refl 0);have hi:=rW_ k g cap t hcap hl hg;refine f_n Tryz.func172 ?_ ?_;exact aa_ (aA_ k) (aa_ hcc ac_);refine r_z 1 ?_;refine r_c 5 (hi) ?_;refine a_z ?_;refine ag_ (aH_ rfl ?_ ?_);rw[←e];rfl;exact ad_ _
def okKe(k:Ke):Prop:=k.length≤8∧k.any bigP=false∧∀p∈k,p.1.length≤1099511627776∧p.2.length≤1099511627776
theorem jO_(k:Ke)(h:okKe k):FS 125 [.arr (kE k)] (i64 0):=by
 have hkl:(kE k).length=k.length:=bX_ k;have hc:=hh_ k 173 [] bigP ac_ (by have:=h.1;omega) (fun p hp=>ma_ p (h.2.2 p hp).1 (h.2.2 p hp).2) rfl;rw[h.2.1] at hc;have hl:=h.1;refine f_n Tryz.func125 ?_ ?_;exact aa_ (aA_ k) ac_;refine r_z 1 ?_;refine ab_ (q_c 7 (hc) ?_);refine a_z ?_;refine cF (ah_ (r_z 1 ?_));exact ag_ (t_e (ad_ _))
theorem iP_(k:Ke)(a b:Rat)(h:okKe k)(ha:sm a)(hb:sm b)(hab:a≤b):FS 91 [.arr (kE k),.agg (spC a b)] (bln false):=by
 have h1:=jO_ k h;have h2:=gn_ a b ha hb;rw[decide_eq_true (cmpQ_le.2 hab)] at h2;refine f_n Tryz.func91 ?_ ?_;exact aa_ (aA_ k) (aa_ (a0_ _ _) ac_);refine r_z 2 ?_;refine r_c 9 (h1) ?_;refine o_0 (.bin rfl rfl (vF bu_ (rfl))) ?_;refine c_s (h2) ?_;refine a_z ?_;exact ag_ (t_e (ad_ _))
abbrev eqC(k:Ke)(l:Rat)(g:List Rat):List AV:= .arr (kE k)::(qC l++[.arr (pE g)])
theorem bv_(k:Ke)(l:Rat)(g:List Rat):∀c∈eqC k l g,Closed c:=aa_ (aA_ k) fun c hc=>(List.mem_append.1 hc).elim (aN_ l c) (aa_ (ap_ g) ac_ c)
theorem d5_(k:Ke)(l:Rat)(g:List Rat)(a b:Rat)(h:okKe k)(ha:sm a)(hb:sm b)(hab:a≤b)(hg:degP g≤20)(hgl:g.length≤1099511627776):FS 42 [.agg (eqC k l g++spC a b)] (bln false):=by
 have h1:=iP_ k a b h ha hb hab;have h2:=b7_ g hgl;have hcl:∀c∈eqC k l g++spC a b,Closed c:=fun c hc=>(List.mem_append.1 hc).elim (bv_ k l g c) (a4_ a b c);refine f_c Tryz.func42 ?_;refine r_z 2 ?_;refine r_c 14 (h1) ?_;refine c_s (h2) ?_;refine d_z ?_;exact ag_ (t_e (ad_ _))
theorem kH_(a b:Rat)(hb:b≠0)(h:qs a+qs b≤549755813888):FS 101 [.agg (qC a),.agg (qC b)] (.agg (qC (a/ b))):=by
 refine f_c Tryz.func101 ?_;refine r_z 3 ?_;refine r_c 9 (rJ_ a b hb h) ?_;refine a_z ?_;refine r_z 2 ?_;exact ag_ (c_e (aC_ _))
theorem fs_cut(p:List Rat)(n:Nat)(hp:p.length≤1099511627776)(hn:n≤1000000):FS 44 [.arr (pE p),i64 n] (.arr (pE (cutP p n))):=by
 have hpl:(pE p).length=p.length:=by simp[pE]
 obtain⟨m,hm⟩:∃m,m=min p.length (n+1):=⟨_,rfl⟩
 have ht:p.take m=p.take (n+1):=by
  rw[hm];by_cases g:p.length≤n+1;rw[Nat.min_eq_left g,List.take_of_length_le (Nat.le_refl _),List.take_of_length_le g];rw[Nat.min_eq_right (by omega)]
 have e:(pE p).take m=pE (p.take (n+1)):=by rw[←ht];simp[pE,List.map_take]
 have htr:=cf_ (p.take (n+1)) (by rw[List.length_take];omega);refine f_c Tryz.func44 ?_;refine r_z 1 ?_;refine s_r 9 ?_;refine a_6 ?_;refine o_0 (.sa_hE (h:=m) e rfl rfl (by rw[hm];split <;> omega) (by omega) te_33.h (fS_ _)) ?_;refine c_s (htr) ?_;refine a_z ?_;exact ag_ (t_e (ap_ _))
def bigR(p:List Rat×List Rat):Bool:=decide (12< degP p.1)||decide (12< degP p.2)
def vaB(k:Ke):Bool:=!k.any bigR && decide (k.length≤8)
theorem sx_(p:List Rat×List Rat):bigP p=bigR p:=by
 unfold bigP bigR;by_cases h1:12< degP p.1;rw[decide_eq_true h1,Bool.true_or,decide_eq_true];split <;> omega;by_cases h2:12< degP p.2;rw[decide_eq_true h2,Bool.or_true,decide_eq_true];split <;> omega;rw[decide_eq_false h1,decide_eq_false h2,Bool.or_false,decide_eq_false];split <;> omega
def vkS(k:Ke):Nat→AState
 |i=>⟨[(0,.arr (keR k)),(3,i64 i)],[],1,29⟩
theorem pt_(k:Ke)(hl:k.length≤1000)(h2:∀p∈k,p.1.length≤1000000∧p.2.length≤1000000):FS 46 [.arr (keR k)] (bln (vaB k)):=by
 have hkl:(keR k).length=k.length:=fj_ k;refine f_n Tryz.func46 ?_ ?_;exact aa_ (aO_ k) ac_;obtain⟨r,hr⟩:∃r,r=vaB k:=⟨_,rfl⟩;rw[←hr];refine r_z 1 ?_;refine ab_ (r_z 1 ?_);refine av_ (fun _:Unit=>⟨[(0,.arr (keR k))],[],1,29⟩) (fun _=> ∀p∈k,bigR p=false) ?_ ?_;refine af_ (aq_ (vkS k) (fun i=>k.length- i) (fun i=>i≤k.length∧∀p∈k.take i,bigR p=false) 0 ⟨Nat.zero_le _,fun p hp=>by simp at hp⟩ ?_ ?_);rw[vkS.eq_1];have:=aO_ k;exact s_f [];rintro i ⟨hi,hinv⟩;rw[vkS.eq_1];by_cases hlt:i< k.length
 ·obtain⟨p,hp⟩:∃p,k[i]?=some p:=⟨_,List.getElem?_eq_getElem hlt⟩
  have hgt:(keR k)[((i:Nat):Int).toNat]?=some (pkR p):=re_ hp _ (by simp);have hpm:=List.mem_of_getElem? hp;obtain⟨l1,l2⟩:=h2 p hpm;have d1:=dI_ (rP p.1) (by simp;omega);have d2:=dI_ (rP p.2) (by simp;omega);rw[vR_rP] at d1 d2
  have bad:bigR p=true→r=false:=fun e=>by
   rw[hr];unfold vaB;rw[List.any_eq_true.2 ⟨p,hpm,e⟩];rfl
  by_cases e1:12< degP p.1;refine ab_ (s_r 4 ?_);refine a_3 ?_;refine o_0 (.bin rfl rfl (vT aT_ (decide_eq_true (by omega)))) ?_;refine ak_ ?_;refine cT (ah_ (ab_ (af_ (s_r 16 ?_))));refine a_2 ?_;refine i_x hgt ?_;refine a_1 ?_;refine l_1 hgt ?_;refine c_s (d1) ?_;refine o_0 (.bin rfl rfl (vT a3_ (decide_eq_true (by omega)))) ?_;refine a_z ?_;refine cT ?_;rw[bad (by unfold bigR;rw[decide_eq_true e1];rfl)];refine r_z 1 ?_;exact ag_ (t_e (ad_ _));by_cases e2:12< degP p.2
  ·refine ab_ (s_r 4 ?_)
   refine a_3 ?_;refine o_0 (.bin rfl rfl (vT aT_ (decide_eq_true (by omega)))) ?_;refine ak_ ?_;refine cT (ah_ (ab_ (af_ (s_r 16 ?_))));refine a_2 ?_;refine i_x hgt ?_;refine a_1 ?_;refine l_1 hgt ?_;refine c_s (d1) ?_;refine o_0 (.bin rfl rfl (vF a3_ (decide_eq_false (by omega)))) ?_;refine a_1 ?_;refine al_ rfl rfl rfl (.move rfl) rfl rfl ?_;refine al_ rfl rfl rfl (.move rfl) rfl rfl ?_;refine al_ rfl rfl rfl (.index_a rfl rfl (by omega) hgt rfl te_29.h) rfl rfl ?_;refine al_ rfl rfl rfl (.fieldAddr_a rfl TF.h (by decide)) rfl rfl ?_;refine al_ rfl rfl rfl (.load_a1 rfl hgt TG.h rfl) rfl rfl ?_;refine c_s (d2) ?_;refine al_ rfl rfl rfl (.bin rfl rfl (vT a3_ (decide_eq_true (by omega)))) rfl rfl ?_;refine a_z ?_;refine cT ?_;rw[bad (by unfold bigR;rw[decide_eq_true e2,Bool.or_true])];refine r_z 1 ?_;exact ag_ (t_e (ad_ _))
  refine ab_ (s_r 4 ?_);refine a_3 ?_;refine o_0 (.bin rfl rfl (vT aT_ (decide_eq_true (by omega)))) ?_;refine ak_ ?_;refine cT (ah_ (ab_ (af_ (s_r 16 ?_))));refine a_2 ?_;refine i_x hgt ?_;refine a_1 ?_;refine l_1 hgt ?_;refine c_s (d1) ?_;refine o_0 (.bin rfl rfl (vF a3_ (decide_eq_false (by omega)))) ?_;refine a_1 ?_;refine al_ rfl rfl rfl (.move rfl) rfl rfl ?_;refine al_ rfl rfl rfl (.move rfl) rfl rfl ?_;refine al_ rfl rfl rfl (.index_a rfl rfl (by omega) hgt rfl te_29.h) rfl rfl ?_;refine al_ rfl rfl rfl (.fieldAddr_a rfl TF.h (by decide)) rfl rfl ?_;refine al_ rfl rfl rfl (.load_a1 rfl hgt TG.h rfl) rfl rfl ?_;refine c_s (d2) ?_;refine al_ rfl rfl rfl (.bin rfl rfl (vF a3_ (decide_eq_false (by omega)))) rfl rfl ?_;refine a_z ?_;refine cF (ah_ (r_m 3 ?_));refine a_z ?_;refine⟨i+1,by omega,⟨by omega,fun q hq=>?_⟩,?_⟩;rw[br_ hp] at hq;rcases List.mem_append.1 hq with hq|hq
  exact hinv q hq;rw[List.mem_singleton.1 hq];unfold bigR;rw[decide_eq_false e1,decide_eq_false e2];rfl;rw[vkS.eq_1];have:=aO_ k;exact s_f []
 have hge:i=k.length:=by omega
 refine ab_ (s_r 4 ?_);refine a_3 ?_;refine o_0 (.bin rfl rfl (vF aT_ (decide_eq_false (by omega)))) ?_;refine ak_ ?_;refine cF (ao_ ⟨(),(by rw[hge,List.take_length] at hinv;exact hinv),?_⟩);have:=aO_ k;exact s_f [];rintro _ hall
 have hr2:r=decide (((keR k).length:Int)≤8):=by
  rw[hr];unfold vaB;have:k.any bigR=false:=List.any_eq_false.2 fun p hp=>by rw[hall p hp];decide
  rw[this,hkl];show decide (k.length≤8)=_;exact decide_eq_decide.2 (by omega)
 rw[hr2];refine r_z 4 ?_;exact ag_ (t_e (ad_ _))
theorem fs_bad11(k:Ke)(g:List Rat)(hl:k.length≤1000)(h2:∀p∈k,p.1.length≤1000000∧p.2.length≤1000000)(hg:g.length≤1000000):FS 12 [.arr (keR k),.arr (rE (rP g))] (bln (!vaB k||decide (20< degP g))):=by
 have hv:=pt_ k hl h2;have hd:=dI_ (rP g) (by simp;omega);rw[vR_rP] at hd;refine f_n Tryz.func12 ?_ ?_;exact aa_ (aO_ k) (aa_ (aR_ _) ac_);refine r_z 1 ?_;cases e:vaB k with
 |false=>
  rw[e] at hv;refine r_c 9 (hv) ?_;refine a_z ?_;exact ag_ (t_e (ad_ _))
 |true=>
  rw[e] at hv;refine r_c 9 (hv) ?_;refine c_s (hd) ?_;refine a_z ?_;exact ag_ (t_e (ad_ _))
end Go.Proofs.YtjkddcfoolilbaaGreatDoor
