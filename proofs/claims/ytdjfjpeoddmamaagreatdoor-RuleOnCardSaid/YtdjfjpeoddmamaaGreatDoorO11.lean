/- Part O11 of the proof. -/
import Derived.Test.YtdjfjpeoddmamaaGreatDoorO10
set_option linter.all false
namespace Go.Abs
abbrev UB:Nat:=32768
def iE(l:List Nat):List (List AV):=l.map fun(d:Nat)=>[i64 d]
def hv(l:List Nat):Nat:=ofD UB l.reverse
def zd(n:Nat):List Nat:=(digs UB n).reverse
def zZ(z:Int):List AV:=[i64 (sgZ z),.arr (iE (zd z.natAbs))]
def dQ_:List Nat→List Nat
 |[]=>[]
 |d::l=>if d=0 then dQ_ l else d::l
@[simp] theorem jc_ (l:List Nat):(iE l).length=l.length:=by simp[iE]
theorem gr_{l:List Nat}{i d:Nat}(h:l[i]?=some d):(iE l)[i]?=some [i64 d]:=by simp[iE,h]
theorem iE_take(l:List Nat)(k:Nat):(iE l).take k=iE (l.take k):=by simp[iE]
theorem g1_(l m:List Nat):iE (l++m)=iE l++iE m:=by simp[iE]
theorem jb_(l:List Nat)(i d:Nat):(iE l).set i [i64 d]=iE (l.set i d):=by simp[iE,List.map_set]
theorem ew_(k:Nat):List.replicate k [i64 0]=iE (List.replicate k 0):=by simp[iE]
theorem cH_(l:List Nat):(iE l).all (·.all AV.one)=true:=by
 simp only[iE,List.all_map,List.all_eq_true];intro d _;rfl
theorem gC_(l:List Nat):∀e∈iE l,e.length=1:=by intro e he;simp[iE] at he;obtain⟨d,_,rfl⟩:=he;rfl
theorem b3_(l:List Nat):∀e∈iE l,∀c∈e,Closed c:=by
 intro e he c hc;simp[iE] at he;obtain⟨d,_,rfl⟩:=he;simp at hc;subst hc;exact ad_ _
theorem cR_(l:List Nat):Closed (.arr (iE l)):=aL_ (b3_ l)
theorem bL_(z:Int):∀c∈zZ z,Closed c:=ab_ (ad_ _) (ab_ (cR_ _) ah_)
theorem bt_(z:Int):Closed (.agg (zZ z)):=au_ (bL_ z)
theorem qd_(m:List Nat)(d:Nat):trimD (m++[d])=if d=0 then trimD m else m++[d]:=by
 induction m with
 |nil=>simp[trimD]
 |cons a m ih=>
  rw[List.cons_append,trimD,ih];by_cases hd:d=0;rw[if_pos hd,if_pos hd];rfl;rw[if_neg hd,if_neg hd];cases m <;> rfl
theorem nz_(l:List Nat):dQ_ l=(trimD l.reverse).reverse:=by
 induction l with
 |nil=>rfl
 |cons d l ih=>
  rw[dQ_,List.reverse_cons,qd_];split;exact ih;simp
theorem dj_{l:List Nat}(h:∀d∈l,d< UB):dQ_ l=zd (hv l):=by
 rw[nz_,e3_ (b:=UB) (by decide) (fun d hd=>h d (List.mem_reverse.1 hd))];rfl
theorem hv_zd(n:Nat):hv (zd n)=n:=by unfold hv zd;rw[List.reverse_reverse,aZ_ (by decide)]
theorem zd_lt(n:Nat):∀d∈zd n,d< UB:=fun d hd=>b6_ (by decide) n d (List.mem_reverse.1 hd)
theorem by_(n:Nat):(zd n).length=(digs UB n).length:=List.length_reverse
theorem je_(d:Nat)(l:List Nat):hv (d::l)=hv l+UB^ l.length* d:=by
 unfold hv;rw[List.reverse_cons,dV_,List.length_reverse]
theorem jd_(l:List Nat)(d:Nat):hv (l++[d])=hv l* UB+d:=by
 unfold hv;simp[ofD];rw[Nat.mul_comm,Nat.add_comm]
theorem mD_:hv []=0:=rfl
theorem hq_:zd 0=[]:=by unfold zd;rw[bq_];rfl
theorem zd_eq_nil{n:Nat}:zd n=[]↔n=0:=by
 unfold zd;rw[List.reverse_eq_nil_iff];exact dc_ (by decide)
theorem j1_{l:List Nat}(h:∀d∈l,d< UB):dQ_ l=[]↔hv l=0:=by rw[dj_ h];exact zd_eq_nil
theorem qR_:zZ 0=[i64 0,.arr []]:=by unfold zZ;show [i64 0,AV.arr (iE (zd 0))]=_;rw[hq_];rfl
theorem hv_lt{l:List Nat}(h:∀d∈l,d< UB):hv l< UB^ l.length:=by
 have:=dI_ (b:=UB) (l:=l.reverse) fun d hd=>h d (List.mem_reverse.1 hd);rwa[List.length_reverse] at this
theorem AEval.lenI{P:Program}{id:Nat}{ev:Operand→Option AV}{hp:Nat→Option ABlk}{c:Call}{x:Operand}{T:Nat}{d:Nat×Nat}{l:List Nat}(hc:c.callee= .builtin .len)(ha:c.args= #[x])(ht:c.argTypes= #[T])(hx:ev x=some (.arr (iE l)))(he:elOf P T=some d):
    AEval P id ev hp (.call c) ⟨.v (.int .i64 (l.length:Nat)),[]⟩ []:= .len hc ha ht hx (by simp[lenA]) he
abbrev RQ:=Rat×Bool
def rok(x:RQ):Prop:=x.2=true→x.1=0
def rC(x:RQ):List AV:=zZ x.1.num++zZ (if x.2 then 0 else(x.1.den:Int))
def rq(q:Rat):RQ:=(q,false)
def r0:RQ:=(0,true)
theorem aR_(q:Rat):rok (rq q):=fun h=>by cases h
theorem iN_:rok r0:=fun _=>rfl
@[simp] theorem rC_length (x:RQ):(rC x).length=4:=rfl
theorem bb_(x:RQ):∀c∈rC x,Closed c:=fun c hc=>(List.mem_append.1 hc).elim (bL_ _ c) (bL_ _ c)
theorem bR_(x:RQ):Closed (.agg (rC x)):=au_ (bb_ x)
theorem rC_rq(q:Rat):rC (rq q)=zZ q.num++zZ (q.den:Int):=rfl
theorem rC_r0:rC r0=[i64 0,.arr [],i64 0,.arr []]:=by
 show zZ 0++zZ 0=_;rw[qR_];rfl
def rE(l:List RQ):List (List AV):=l.map rC
@[simp] theorem mj_ (l:List RQ):(rE l).length=l.length:=by simp[rE]
theorem eb_{l:List RQ}{i:Nat}{q:RQ}(h:l[i]?=some q):(rE l)[i]?=some (rC q):=by simp[rE,h]
theorem rE_take(l:List RQ)(k:Nat):(rE l).take k=rE (l.take k):=by simp[rE]
theorem iO_(l m:List RQ):rE (l++m)=rE l++rE m:=by simp[rE]
theorem rE_set(l:List RQ)(i:Nat)(q:RQ):(rE l).set i (rC q)=rE (l.set i q):=by simp[rE,List.map_set]
theorem cy_(l:List RQ):(rE l).all (·.all AV.one)=true:=by
 simp only[rE,List.all_map,List.all_eq_true];intro q _;rfl
theorem e7_(l:List RQ):∀e∈rE l,e.length=4:=by
 intro e he;obtain⟨q,_,rfl⟩:=List.mem_map.1 he;rfl
theorem a6_(l:List RQ):∀e∈rE l,∀c∈e,Closed c:=by
 intro e he c hc;obtain⟨q,_,rfl⟩:=List.mem_map.1 he;exact bb_ q c hc
theorem aS_(l:List RQ):Closed (.arr (rE l)):=aL_ (a6_ l)
theorem AEval.lenR{P:Program}{id:Nat}{ev:Operand→Option AV}{hp:Nat→Option ABlk}{c:Call}{x:Operand}{T:Nat}{d:Nat×Nat}{l:List RQ}(hc:c.callee= .builtin .len)(ha:c.args= #[x])(ht:c.argTypes= #[T])(hx:ev x=some (.arr (rE l)))(he:elOf P T=some d):
    AEval P id ev hp (.call c) ⟨.v (.int .i64 (l.length:Nat)),[]⟩ []:= .len hc ha ht hx (by simp[lenA]) he
theorem rg_{n:Int}{d:Nat}(hd:0< d):sgZ (mkRat n d).num=sgZ n:=by
 rw[eM_ hd];have hg:0< Nat.gcd n.natAbs d:=Nat.gcd_pos_of_pos_right _ hd;have h1:n≠0→0< n.natAbs/ Nat.gcd n.natAbs d:=fun h=>Nat.div_pos (Nat.gcd_le_left _ (by omega)) hg;unfold sgZ sgn;by_cases h0:n=0;subst h0;simp;have:=h1 h0;by_cases hn:n< 0;simp[hn,h0];omega;simp[hn,h0];omega
theorem gf_(n d:Int)(hd:d< 0):Rat.divInt n d=mkRat (-n) d.natAbs:=by
 obtain⟨m,rfl⟩:∃m:Nat,d=Int.negSucc m:=⟨d.natAbs- 1,by omega⟩;rfl
theorem ge_(n d:Int)(hd:0< d):Rat.divInt n d=mkRat n d.natAbs:=by
 obtain⟨m,rfl⟩:∃m:Nat,d=(m:Int):=⟨d.natAbs,by omega⟩;rfl
theorem eR_(a b:Rat):a/ b=Rat.divInt (a.num* b.den) (a.den* b.num):=by
 rw[Rat.div_def,Rat.inv_def]
 conv=>lhs;rw[←Rat.num_divInt_den a]
 rw[Rat.divInt_mul_divInt]
abbrev nQ(n:Nat):Rat:=((n:Int):Rat)
theorem nQ_eq(n:Nat):nQ n=mkRat n 1:=(Rat.mkRat_one n).symm
theorem nQ_zero{n:Nat}:nQ n=0↔n=0:=by
 rw[←Rat.num_eq_zero];show(n:Int)=0↔n=0;omega
theorem qs_nQ{n k:Nat}(h:bl n≤k)(hk:1≤k):qs (nQ n)≤k:=by
 refine Nat.max_le.2 ⟨?_,?_⟩;show bl ((n:Int)).natAbs≤k;rwa[Int.natAbs_natCast];show bl 1≤k;rw[jJ_];exact hk
theorem nQ_mul(a b:Nat):nQ a* nQ b=nQ (a* b):=by
 rw[fF_,nQ_eq (a* b)];show mkRat ((a:Int) * b) (1* 1)=_;rw[Int.natCast_mul]
theorem nQ_sub{a b:Nat}(h:b≤a):nQ a- nQ b=nQ (a- b):=by
 show((a:Int):Rat)- ((b:Int):Rat)=_;rw[←Rat.intCast_sub];show((_:Int):Rat)=((_:Int):Rat);congr 1;omega
theorem o7_(a b:Nat)(hb:b≠0):nQ a/ nQ b=mkRat a b:=by
 rw[eR_];show Rat.divInt ((a:Int) * ((1:Nat):Int)) (((1:Nat):Int) * b)=_;rw[show((a:Int) * ((1:Nat):Int))=a by omega,show(((1:Nat):Int) * (b:Int))=b by omega,Rat.divInt_ofNat]
theorem mx_(a b:Nat)(hb:b≠0)(h:b∣a):mkRat a b=nQ (a/ b):=by
 obtain⟨k,rfl⟩:=h;rw[Nat.mul_div_cancel_left _ (by omega),nQ_eq,Rat.mkRat_eq_iff hb (by decide)];rw[Int.natCast_mul,Int.mul_comm (b:Int)];simp
theorem nR_(a b:Nat)(hb:b≠0):(mkRat a b).floor=((a/ b:Nat):Int):=by
 have h:=fH_ (n:=(a:Int)) (d:=b) (by omega);rw[Int.natAbs_natCast] at h;rw[Rat.floor_def,h.1,h.2];have hg:0< Nat.gcd a b:=Nat.gcd_pos_of_pos_right _ (by omega);rw[←Int.natCast_ediv,←Int.natCast_ediv,Nat.div_div_eq_div_mul,Nat.mul_div_cancel' (Nat.gcd_dvd_right a b)]
def denL:List Rat→Nat→Nat
 |[],d=>d
 |c::l,d=>denL l (Nat.lcm d c.den)
def intC(c:Rat)(D:Nat):Nat:=c.num.natAbs* (D/ c.den)
def numL(D:Nat):List Rat→Nat→Nat
 |[],n=>n
 |c::l,n=>numL D l (Nat.gcd n (intC c D))
def primP(p:List Rat):List Rat:=av_ (trimQ p) (nQ (denL (trimQ p) 1) / nQ (numL (denL (trimQ p) 1) (trimQ p) 0))
def mr_(p:List Rat):Prop:=(p.length+4) * mxL p≤34359738368∧p.length≤274877906944
instance (p:List Rat):Decidable (mr_ p):=inferInstanceAs (Decidable (_∧_))
theorem sp_{a b:Nat}(ha:a≠0)(hb:b≠0):Nat.lcm a b≠0:=fun h=>by
 rcases Nat.lcm_eq_zero_iff.1 h with h|h
 exact ha h;exact hb h
theorem hK_:∀(l:List Rat) {d:Nat},d≠0→denL l d≠0
 |[],_,h=>h
 |c::l,_,h=>hK_ l (sp_ h c.den_nz)
theorem eD_:∀(l:List Rat) (d:Nat),d∣denL l d∧∀c∈l,c.den∣denL l d
 |[],d=>⟨Nat.dvd_refl d,fun _ h=>by cases h⟩
 |c::l,d=>by
  obtain⟨h1,h2⟩:=eD_ l (Nat.lcm d c.den);refine⟨Nat.dvd_trans (Nat.dvd_lcm_left d c.den) h1,fun x hx=>?_⟩;rcases List.mem_cons.1 hx with rfl|hx
  exact Nat.dvd_trans (Nat.dvd_lcm_right d x.den) h1;exact h2 x hx
theorem bl_lcm(a b:Nat):bl (Nat.lcm a b)≤bl a+bl b:=
 Nat.le_trans (c5_ _ _) (e0_ a b)
theorem on_{s:Nat}:∀(l:List Rat) (d:Nat),bdL l s→bl (denL l d)≤bl d+l.length* s
 |[],d,_=>by simp[denL]
 |c::l,d,h=>by
  have h1:=on_ l (Nat.lcm d c.den) fun q hq=>h q (List.mem_cons_of_mem _ hq);have h2:=bl_lcm d c.den;have h3:=bU_ c;have h4:=h c (List.mem_cons_self ..);rw[List.length_cons,Nat.add_mul,Nat.one_mul];unfold denL;omega
theorem gT_(c:Rat)(D:Nat)(h:c.den∣D):absQ (c* nQ D)=nQ (intC c D):=by
 obtain⟨k,rfl⟩:=h;have hd:=c.den_nz
 have e:c* nQ (c.den* k)=((c.num* (k:Int):Int):Rat):=by
  rw[fF_];show mkRat (c.num* ((c.den* k:Nat):Int)) (c.den* 1)=_;rw[show((c.num* (k:Int):Int):Rat)=mkRat (c.num* k) 1 from(Rat.mkRat_one _).symm,Rat.mkRat_eq_iff (by omega) (by decide)];rw[Int.natCast_mul,Nat.mul_one];simp only[Int.natCast_one,Int.mul_one];rw[Int.mul_left_comm,Int.mul_comm]
 rw[e];unfold absQ intC;show mkRat (((c.num* (k:Int)).natAbs:Nat):Int) 1=_;rw[Nat.mul_div_cancel_left _ (by omega),Int.natAbs_mul,Int.natAbs_natCast,nQ_eq]
theorem gS_(D:Nat):∀(l:List Rat) (n:Nat),numL D l n∣n∧∀c∈l,numL D l n∣intC c D
 |[],n=>⟨Nat.dvd_refl n,fun _ h=>by cases h⟩
 |c::l,n=>by
  obtain⟨h1,h2⟩:=gS_ D l (Nat.gcd n (intC c D));refine⟨Nat.dvd_trans h1 (Nat.gcd_dvd_left _ _),fun x hx=>?_⟩;rcases List.mem_cons.1 hx with rfl|hx
  exact Nat.dvd_trans h1 (Nat.gcd_dvd_right _ _);exact h2 x hx
theorem la_{c:Rat}{D:Nat}(h:c.den∣D)(hD:D≠0)(hc:c≠0):intC c D≠0:=by
 obtain⟨k,rfl⟩:=h;unfold intC;rw[Nat.mul_div_cancel_left _ c.den_pos];have h1:c.num≠0:=fun e=>hc (Rat.num_eq_zero.1 e);refine Nat.mul_ne_zero (by omega) fun e=>hD (by rw[e,Nat.mul_zero])
theorem nV_(c:Rat)(D:Nat):bl (intC c D)≤qs c+bl D:=by
 have h1:=e0_ c.num.natAbs (D/ c.den);have h2:=c5_ D c.den;have h3:=b5_ c;unfold intC;omega
theorem dd_(p:List Rat):(at_ p).length≤p.length- 1:=by
 have:=aB_ (tabP (p.length- 1) fun i=>coP p (i+1) * ((i+1:Nat):Int));simpa[at_] using this
def sqfM(f:Nat)(p:List Rat):Option (List Rat):=
 if smL p∧p.length≤274877906944 then(gcdM f p (at_ p)).bind fun g=>if trimQ g≠[]∧okDiv p g then some (aG_ (divP p g).1) else none
 else none
def boL(lead:Rat):List Rat→Rat→Rat
 |[],m=>m
 |c::l,m=>boL lead l (maxL [m,absQ (c/ lead)])
def aN_(p:List Rat):Rat:=boL (leadP p) ((trimQ p).take ((trimQ p).length- 1)) 0+1
def fE_(p:List Rat):Prop:=mxL p≤34359738368∧p.length≤274877906944
instance (p:List Rat):Decidable (fE_ p):=inferInstanceAs (Decidable (_∧_))
def g0_(p:List Rat):Int:=if degP p< 0 then 10 else if 40< degP p then 5 else 0
theorem mk_(q:Rat):qs (absQ q)=qs q:=by
 unfold qs;rw[lN_,lO_,Int.natAbs_natCast]
theorem nS_{l:List Rat}{n:Nat}(h:bdL l n)(hn:1≤n):qs (maxL l)≤n:=by
 unfold maxL
 have key:∀(bf:Int→Bool) (l:List Rat) (o:Rat),qs o≤n→bdL l n→qs (l.foldl (fun o y=>if bf (cmpQ y o) then y else o) o)≤n:=by
  intro bf l
  induction l with
  |nil=>intro o ho _;exact ho
  |cons y l ih=>
   intro o ho hl;refine ih _ ?_ fun q hq=>hl q (List.mem_cons_of_mem _ hq);show qs (if bf (cmpQ y o)=true then y else o)≤n;split;exact hl y (List.mem_cons_self ..);exact ho
 cases l with
 |nil=>exact Nat.le_trans (by decide:qs 0≤1) hn
 |cons x l=>exact key (fun c=>decide (0< c)) l x (h x (List.mem_cons_self ..)) fun q hq=>h q (List.mem_cons_of_mem _ hq)
theorem hE_(p:List Rat):leadP (trimQ p)=leadP p:=by unfold leadP;rw[aO_]
theorem tv_(p:List Rat):degP (trimQ p)=degP p:=by unfold degP;rw[aO_]
def chL:List Int→Int→Int→Int
 |[],n,_=>n
 |s::l,n,last=>if s≠0 then chL l (if s= -last then n+1 else n) s else chL l n last
def en_(f:Nat):Nat→List Rat→List Rat→List (List Rat)→Option (List (List Rat))
 |0,_,_,_=>none
 |k+1,last,next,acc=>
  if trimQ next=[] then some acc
  else if mr_ next∧okDiv last (primP next)∧trimQ (primP next)≠[] then en_ f k (primP next) (av_ (divP last (primP next)).2 (-1)) (acc++[primP next])
  else none
def er_(f:Nat)(p:List Rat):Option (List (List Rat)):=
 if smL p∧mr_ p∧trimQ p≠[] then en_ f f (primP p) (at_ p) [primP p] else none
def cE(l:List (List Rat)):List (List AV):=l.map fun p=>[.arr (pE p)]
@[simp] theorem cE_length (l:List (List Rat)):(cE l).length=l.length:=by simp[cE]
theorem tK_{l:List (List Rat)}{i:Nat}{p:List Rat}(h:l[i]?=some p):(cE l)[i]?=some [.arr (pE p)]:=by simp[cE,h]
theorem cL_(l:List (List Rat)):(cE l).all (·.all AV.one)=true:=by
 simp only[cE,List.all_map,List.all_eq_true];intro q _;rfl
theorem eX_(l:List (List Rat)):∀e∈cE l,∀c∈e,Closed c:=by
 intro e he c hc;obtain⟨q,_,rfl⟩:=List.mem_map.1 he;rw[List.mem_singleton.1 hc];exact aD_ q
theorem hg_(l:List (List Rat)):Closed (.arr (cE l)):=aL_ (eX_ l)
theorem cE_snoc(l:List (List Rat))(p:List Rat):cE (l++[p])=cE l++[[.arr (pE p)]]:=by simp[cE]
theorem AEval.lenC{P:Program}{id:Nat}{ev:Operand→Option AV}{hp:Nat→Option ABlk}{c:Call}{x:Operand}{T:Nat}{d:Nat×Nat}{l:List (List Rat)}(hc:c.callee= .builtin .len)(ha:c.args= #[x])(ht:c.argTypes= #[T])(hx:ev x=some (.arr (cE l)))(he:elOf P T=some d):
    AEval P id ev hp (.call c) ⟨.v (.int .i64 (l.length:Nat)),[]⟩ []:= .len hc ha ht hx (by simp[lenA]) he
structure Cnt where
 p:List Rat
 ch:List (List Rat)
 far:Int
def kC(c:Cnt):List AV:=[.arr (pE c.p),.arr (cE c.ch),i64 c.far]
abbrev kA(c:Cnt):AV:= .aptr [kC c] 0 0
theorem nj_(c:Cnt):∀x∈kC c,Closed x:=ab_ (aD_ _) (ab_ (hg_ _) (ab_ (ad_ _) ah_))
theorem jE_(c:Cnt):Closed (kA c):=aE_ (nj_ c)
def sgI(q:List Rat):Int:=if degP q % 2=1 then -sgZ (leadP q).num else sgZ (leadP q).num
def sgE(x:Rat)(q:List Rat):Int:=sgZ (evalP q x).num
theorem hw_(z:Int): -1≤sgZ z∧sgZ z≤1:=by
 unfold sgZ;split;omega;split <;> omega
theorem sgI_abs(q:List Rat): -1≤sgI q∧sgI q≤1:=by
 have:=hw_ (leadP q).num;unfold sgI;split <;> omega
theorem hh_:∀(l:List Int) (n last:Int),n≤chL l n last∧chL l n last≤n+l.length
 |[],n,_=>⟨Int.le_refl _,by simp[chL]⟩
 |s::l,n,last=>by
  unfold chL;split;split;have:=hh_ l (n+1) s;simp only[List.length_cons];omega;have:=hh_ l n s;simp only[List.length_cons];omega;have:=hh_ l n last;simp only[List.length_cons];omega
def okCnt(c:Cnt):Prop:=(∀q∈c.ch,trimQ q≠[]∧q.length≤274877906944)∧c.ch.length≤274877906944∧c.far=chL (c.ch.map sgI) 0 0
instance (c:Cnt):Decidable (okCnt c):=inferInstanceAs (Decidable (_∧_∧_))
def cn_(f:Nat)(p:List Rat):Option Cnt:=
 (sqfM f p).bind fun s=>(er_ f s).bind fun ch=>if okCnt ⟨s,ch,chL (ch.map sgI) 0 0⟩ then some ⟨s,ch,chL (ch.map sgI) 0 0⟩ else none
def uptoV(c:Cnt)(x:Rat):Int:=c.far- chL (c.ch.map (sgE x)) 0 0
def okUp(c:Cnt)(x:Rat):Prop:=okCnt c∧∀q∈c.ch,ed_ q x
instance (c:Cnt) (x:Rat):Decidable (okUp c x):=inferInstanceAs (Decidable (_∧_))
def dS_(c:Cnt)(x:Rat):Int:=if evalP c.p x=0 then uptoV c x- 1 else uptoV c x
def okBe(c:Cnt)(x:Rat):Prop:=okUp c x∧ed_ c.p x
instance (c:Cnt) (x:Rat):Decidable (okBe c x):=inferInstanceAs (Decidable (_∧_))
def okAll(c:Cnt):Prop:=fE_ c.p∧trimQ c.p≠[]∧okUp c (aN_ c.p)
instance (c:Cnt):Decidable (okAll c):=inferInstanceAs (Decidable (_∧_∧_))
theorem ie_{c:Cnt}{x:Rat}(h:okCnt c): -274877906944≤uptoV c x∧uptoV c x≤274877906944:=by
 have h1:=hh_ (c.ch.map sgI) 0 0;have h2:=hh_ (c.ch.map (sgE x)) 0 0;have h3:=h.2.1;rw[←h.2.2] at h1;simp only[List.length_map] at h1 h2;unfold uptoV;omega
theorem tS_{c:Cnt}{x:Rat}(h:okCnt c): -274877906945≤dS_ c x∧dS_ c x≤274877906944:=by
 have:=ie_ (x:=x) h;unfold dS_;split <;> omega
def inK(a v:Rat)(out zeros:List Rat):Rat:=(v- evalP out a) / evalP zeros a
def okIn(a v:Rat)(out zeros:List Rat):Prop:=sm a∧sm v∧ed_ out a∧ed_ zeros a∧evalP zeros a≠0∧sm (inK a v out zeros)∧smL out∧smL zeros∧smL (av_ zeros (inK a v out zeros))∧okMul zeros [-a,1]∧out.length≤274877906944
instance (a v:Rat) (out zeros:List Rat):Decidable (okIn a v out zeros):=inferInstanceAs (Decidable (_∧_∧_∧_∧_∧_∧_∧_∧_∧_∧_))
theorem hL_(i:Nat):coP [] i=0:=rfl
theorem ce_(a:Rat)(l:List Rat):coP (a::l) 0=a:=rfl
theorem bI_(a:Rat)(l:List Rat)(i:Nat):coP (a::l) (i+1)=coP l i:=rfl
theorem bg_(l:List Rat)(i:Nat):coP (trimQ l) i=coP l i:=by
 induction l generalizing i with
 |nil=>rfl
 |cons a l ih=>
  rw[b7_];split
  ·rename_i h
   have h0:∀j,coP l j=0:=fun j=>by rw[←ih j,h];rfl
   split
   ·rename_i ha
    cases i with
    |zero=>rw[ha];rfl
    |succ i=>rw[bI_,h0];rfl
   cases i with
   |zero=>rfl
   |succ i=>rw[bI_,bI_,h0];rfl
  cases i with
  |zero=>rfl
  |succ i=>rw[bI_,bI_,ih]
theorem dO_(n:Nat)(f:Nat→Rat)(i:Nat):coP (tabP n f) i=if i< n then f i else 0:=by
 unfold coP tabP;grind
theorem dy_(p q:List Rat)(i:Nat):coP (addP p q) i=coP p i+coP q i:=by
 unfold addP;rw[bg_,dO_];split;rfl
 ·rw[co_ (by omega),co_ (by omega)];grind
theorem a5_(p:List Rat)(k:Rat)(i:Nat):coP (av_ p k) i=coP p i* k:=by
 unfold av_;rw[bg_,dO_];split;rfl
 ·rw[co_ (by omega)];grind
theorem gF_(p q:List Rat)(i:Nat):coP (subP p q) i=coP p i- coP q i:=by
 unfold subP;rw[dy_,a5_];grind
theorem tA_(a:Rat)(i:Nat):coP (c3_ a) i=if i=0 then a else 0:=by
 unfold c3_;rw[bg_];cases i <;> rfl
theorem bm_(p:List Rat)(i:Nat):coP (at_ p) i=coP p (i+1) * ((i+1:Nat):Int):=by
 unfold at_;rw[bg_,dO_];split;rfl
 ·rw[co_ (by omega)];grind
theorem bG_(p:List Rat)(i:Nat):coP (aF_ p) i=if i=0 then 0 else coP p (i- 1) / ((i:Nat):Int):=by
 unfold aF_;rw[bg_,dO_];split;rfl
 ·rw[if_neg (by omega),co_ (by omega),Rat.div_def,Rat.zero_mul]
theorem eo_{p q:List Rat}(h:∀i,coP p i=coP q i):trimQ p=trimQ q:=by
 induction p generalizing q with
 |nil=>
  induction q with
  |nil=>rfl
  |cons b q ih=>
   have hb:b=0:=(h 0).symm;rw[b7_,←ih fun i=>h (i+1),if_pos hb];rfl
 |cons a p ih=>
  cases q with
  |nil=>
   have ha:a=0:=h 0;rw[b7_,ih (q:=[]) fun i=>h (i+1),if_pos ha];rfl
  |cons b q=>
   have hab:a=b:=h 0;rw[b7_,b7_,ih (q:=q) fun i=>h (i+1),hab]
theorem trim_iff{p q:List Rat}:trimQ p=trimQ q↔∀i,coP p i=coP q i:=
 ⟨fun h i=>by rw[←bg_ p,h,bg_],eo_⟩
theorem trim_nil_iff{p:List Rat}:trimQ p=[]↔∀i,coP p i=0:=
 ⟨fun h i=>by rw[←bg_ p,h];rfl,fun h=>eo_ (q:=[]) h⟩
theorem ax_(x:Rat):evalP [] x=0:=rfl
theorem ay_(a:Rat)(l:List Rat)(x:Rat):evalP (a::l) x=evalP l x* x+a:=rfl
theorem d4_{p:List Rat}(h:∀i,coP p i=0)(x:Rat):evalP p x=0:=by
 induction p with
 |nil=>rfl
 |cons a p ih=>
  have ha:a=0:=h 0;rw[ay_,ih fun i=>h (i+1)];grind
theorem cl_{p q:List Rat}(h:∀i,coP p i=coP q i)(x:Rat):evalP p x=evalP q x:=by
 induction p generalizing q with
 |nil=>exact(d4_ (fun i=>(h i).symm) x).symm
 |cons a p ih=>
  cases q with
  |nil=>exact d4_ h x
  |cons b q=>
   have hab:a=b:=h 0;rw[ay_,ay_,ih (q:=q) fun i=>h (i+1),hab]
theorem bk_(p:List Rat)(x:Rat):evalP (trimQ p) x=evalP p x:=cl_ (bg_ p) x
def addL:List Rat→List Rat→List Rat
 |[],q=>q
 |p,[]=>p
 |a::p,b::q=>(a+b)::addL p q
def eL_(p:List Rat)(k:Rat):List Rat:=p.map (· * k)
def mulL:List Rat→List Rat→List Rat
 |[],_=>[]
 |a::p,q=>addL (eL_ q a) (0::mulL p q)
theorem c8_(p q:List Rat)(i:Nat):coP (addL p q) i=coP p i+coP q i:=by
 induction p generalizing q i with
 |nil=>rw[addL,hL_];grind
 |cons a p ih=>
  cases q with
  |nil=>rw[addL,hL_]; · grind
        grind
  |cons b q=>
   cases i with
   |zero=>rfl
   |succ i=>exact ih q i
theorem cD_(p:List Rat)(k:Rat)(i:Nat):coP (eL_ p k) i=coP p i* k:=by
 induction p generalizing i with
 |nil=>show(0:Rat)=0* k;grind
 |cons a p ih=>
  cases i with
  |zero=>rfl
  |succ i=>exact ih i
theorem eQ_(p q:List Rat)(x:Rat):evalP (addL p q) x=evalP p x+evalP q x:=by
 induction p generalizing q with
 |nil=>rw[addL,ax_];grind
 |cons a p ih=>
  cases q with
  |nil=>rw[addL,ax_]; · grind
        grind
  |cons b q=>rw[addL,ay_,ay_,ay_];grind
theorem dK_(p:List Rat)(k x:Rat):evalP (eL_ p k) x=evalP p x* k:=by
 induction p with
 |nil=>show(0:Rat)=0* k;grind
 |cons a p ih=>show evalP (eL_ p k) x* x+a* k=_;rw[ay_];grind
theorem hH_(p q:List Rat)(x:Rat):evalP (mulL p q) x=evalP p x* evalP q x:=by
 induction p with
 |nil=>show(0:Rat)=0* _;grind
 |cons a p ih=>rw[mulL,eQ_,dK_,ay_,ay_];grind
theorem a1_(p q:List Rat)(x:Rat):evalP (addP p q) x=evalP p x+evalP q x:=by
 rw[←eQ_];exact cl_ (fun i=>by rw[dy_,c8_]) x
theorem as_(p:List Rat)(k x:Rat):evalP (av_ p k) x=evalP p x* k:=by
 rw[←dK_];exact cl_ (fun i=>by rw[a5_,cD_]) x
theorem bf_(p q:List Rat)(x:Rat):evalP (subP p q) x=evalP p x- evalP q x:=by
 unfold subP;rw[a1_,as_];grind
theorem fh_(a x:Rat):evalP (c3_ a) x=a:=by
 rw[c3_,bk_];show 0* x+a=a;grind
def convP(p q:List Rat):Nat→Nat→Rat
 |0,_=>0
 |i+1,n=>convP p q i n+(if i≤n then coP p i* coP q (n- i) else 0)
theorem pO_(o:List Rat)(a:Rat)(q:List Rat)(i:Nat)(h:∀k,k< q.length→i+k< o.length):∀k n,k≤q.length→coP (rowP o a q i k) n=coP o n+(if i≤n∧n< i+k then a* coP q (n- i) else 0)
 |0,n,_=>by show coP o n=_;grind
 |k+1,n,hk=>by
  rw[rowP,jA_,nG_];by_cases hn:n=i+k;subst hn;rw[if_pos ⟨rfl,h k (by omega)⟩,kW_ o a q i k (i+k) (by omega),if_pos (by omega),show i+k- i=k by omega];rw[pO_ o a q i h k n (by omega)];grind
theorem pQ_(p q:List Rat)(n:Nat):∀i,i≤p.length→coP (mulR p q i) n=convP p q i n
 |0,_=>by
  show coP (List.replicate _ 0) n=0;unfold coP;grind
 |i+1,hi=>by
  have ih:=pQ_ p q n i (by omega);rw[mulR,convP];split
  ·grind
  rw[pO_ _ _ _ _ (fun k hk=>by rw[iY_];omega) _ _ (Nat.le_refl _),ih];by_cases h1:i≤n;rw[if_pos h1];by_cases h2:n< i+q.length;rw[if_pos ⟨h1,h2⟩];rw[co_ (p:=q) (by omega)];grind;grind
theorem kF_(a:Rat)(p q:List Rat)(n:Nat):∀i,convP (a::p) q (i+1) n=a* coP q n+(match n with|0=>0|m+1=>convP p q i m)
 |0=>by
  show(0:Rat)+(if 0≤n then coP (a::p) 0* coP q (n- 0) else 0)=_;rw[ce_];cases n <;> simp[convP,Rat.add_zero,Rat.zero_add]
 |i+1=>by
  rw[convP,kF_ a p q n i];cases n with
  |zero=>grind
  |succ m=>
   show a* coP q (m+1)+convP p q i m+_=a* coP q (m+1)+(convP p q i m+_);by_cases h:i≤m;rw[bI_];grind;grind
theorem lG_(p q:List Rat)(n:Nat):coP (mulL p q) n=convP p q p.length n:=by
 induction p generalizing n with
 |nil=>rfl
 |cons a p ih=>
  rw[mulL,c8_,cD_,List.length_cons,kF_];cases n with
  |zero=>rw[ce_];grind
  |succ m=>rw[bI_];grind
theorem gG_(p q:List Rat)(n:Nat):coP (mulP p q) n=coP (mulL p q) n:=by
 unfold mulP;split
 ·rename_i h
  rcases h with rfl|rfl
  rfl;rw[lG_]
  have:∀i,convP p [] i n=0:=by
   intro i
   induction i with
   |zero=>rfl
   |succ i ih=>rw[convP,hL_];grind
  rw[this];rfl
 rw[bg_,pQ_ _ _ _ _ (Nat.le_refl _),lG_]
theorem ak_(p q:List Rat)(x:Rat):evalP (mulP p q) x=evalP p x* evalP q x:=by
 rw[←hH_];exact cl_ (gG_ p q) x
def synD:List Rat→Rat→List Rat
 |[],_=>[]
 |[_],_=>[]
 |_::b::l,r=>evalP (b::l) r::synD (b::l) r
theorem d7_(p:List Rat)(r x:Rat):evalP p x=evalP (synD p r) x* (x- r)+evalP p r:=by
 induction p with
 |nil=>show(0:Rat)=0* _+0;grind
 |cons a l ih=>
  cases l with
  |nil=>show 0* x+a=0* (x- r)+(0* r+a);grind
  |cons b l=>
   rw[synD,ay_ a,ay_ a,ay_ (evalP (b::l) r)];grind
theorem synD_len(p:List Rat)(r:Rat):(synD p r).length=p.length- 1:=by
 induction p with
 |nil=>rfl
 |cons a l ih=>
  cases l with
  |nil=>rfl
  |cons b l=>rw[synD,List.length_cons,ih];simp
theorem kb_:∀(n:Nat) (p xs:List Rat),p.length≤n→n≤xs.length→xs.Nodup→(∀x∈xs,evalP p x=0)→∀x,evalP p x=0
 |0,p,_,hp,_,_,_,x=>by
  have:p=[]:=List.length_eq_zero_iff.1 (by omega);rw[this];rfl
 |n+1,p,xs,hp,hx,hnd,hz,x=>by
  cases xs with
  |nil=>grind
  |cons r xs=>
   rw[List.nodup_cons] at hnd;have hr:=hz r (List.mem_cons_self ..)
   have ih:=kb_ n (synD p r) xs (by rw[synD_len];omega) (by grind) hnd.2 fun y hy=>by
    have h1:=d7_ p r y;grind
   rw[d7_ p r x];grind
theorem h3_{p:List Rat}(h:∀x,evalP p x=0):∀i,coP p i=0:=by
 induction p with
 |nil=>intro i;rfl
 |cons a p ih=>
  have ha:a=0:=by
   have:=h 0;rw[ay_] at this;grind
  have hp:∀x,evalP p x=0:=by
   -- at all places but 0,so at all
   refine kb_ p.length p ((List.range p.length).map fun i=>(((i+1:Nat):Int):Rat)) (Nat.le_refl _) (by simp) ?_ ?_;refine List.Pairwise.map _ (fun i j hij=>?_) List.nodup_range;intro e;have:=Rat.intCast_inj.1 e;omega;intro x hx;obtain⟨i,_,rfl⟩:=List.mem_map.1 hx;have h1:=h (((i+1:Nat):Int):Rat);rw[ay_] at h1;have h2:evalP p (((i+1:Nat):Int):Rat) * (((i+1:Nat):Int):Rat)=0:=by grind
   rcases Rat.mul_eq_zero.1 h2 with h3|h3
   exact h3;have:=Rat.intCast_inj.1 (h3.trans Rat.intCast_zero.symm);omega
  intro i;cases i with
  |zero=>exact ha
  |succ i=>exact ih hp i
theorem dm_{p q:List Rat}(h:∀x,evalP p x=evalP q x):trimQ p=trimQ q:=by
 refine eo_ fun i=>?_;have:=h3_ (p:=subP p q) (fun x=>by rw[bf_];grind) i;rw[gF_] at this;grind
theorem gU_(p q:List Rat)(hp:p≠[]):(mulP p q).length≤p.length+q.length- 1:=by
 unfold mulP;split;simp;have:=aB_ (mulR p q p.length);rwa[iY_] at this
theorem kB_(a x:Rat):evalP [-a,1] x=x- a:=by
 show(0* x+1) * x+ -a=x- a;grind
theorem rj_{p:List Rat}{k:Rat}{s t:Nat}(hp:bdL p s)(hs:1≤s)(hk:qs k≤t):bdL (av_ p k) (s+t):=
 dM_ fun i=>by
  rw[a5_];have h1:=bJ_ (coP p i) k;have h2:=bj_ hp hs i;omega
def dvE:List Rat→Rat→Rat
 |[],_=>0
 |_::l,x=>evalP l x+dvE l x* x
theorem ci_(a:Rat)(l:List Rat)(x:Rat):dvE (a::l) x=evalP l x+dvE l x* x:=rfl
theorem pG_{p:List Rat}(h:∀i,coP p i=0)(x:Rat):dvE p x=0:=by
 induction p with
 |nil=>rfl
 |cons a p ih=>rw[ci_,ih fun i=>h (i+1),d4_ fun i=>h (i+1)];grind
theorem lB_{p q:List Rat}(h:∀i,coP p i=coP q i)(x:Rat):dvE p x=dvE q x:=by
 induction p generalizing q with
 |nil=>exact(pG_ (fun i=>(h i).symm) x).symm
 |cons a p ih=>
  cases q with
  |nil=>exact pG_ h x
  |cons b q=>rw[ci_,ci_,ih (q:=q) fun i=>h (i+1),cl_ (q:=q) fun i=>h (i+1)]
theorem pI_(p q:List Rat)(x:Rat):dvE (addL p q) x=dvE p x+dvE q x:=by
 induction p generalizing q with
 |nil=>show dvE q x=0+dvE q x;grind
 |cons a p ih=>
  cases q with
  |nil=>rw[addL]; · show _=_+(0:Rat);grind
        grind
  |cons b q=>rw[addL,ci_,ci_,ci_,eQ_];grind
theorem kD_(p:List Rat)(k x:Rat):dvE (eL_ p k) x=dvE p x* k:=by
 induction p with
 |nil=>show(0:Rat)=0* k;grind
 |cons a p ih=>show evalP (eL_ p k) x+dvE (eL_ p k) x* x=_;rw[ci_,dK_];grind
theorem dvE_mulL(p q:List Rat)(x:Rat):dvE (mulL p q) x=dvE p x* evalP q x+evalP p x* dvE q x:=by
 induction p with
 |nil=>show(0:Rat)=0* _+0* _;grind
 |cons a p ih=>rw[mulL,pI_,kD_,ci_,ci_,hH_,ay_];grind
def derL:List Rat→List Rat
 |[]=>[]
 |_::l=>addL l (0::derL l)
theorem gd_(p:List Rat)(x:Rat):evalP (derL p) x=dvE p x:=by
 induction p with
 |nil=>rfl
 |cons a p ih=>rw[derL,eQ_,ay_,ci_];grind
theorem coP_derL(p:List Rat)(i:Nat):coP (derL p) i=coP p (i+1) * ((i+1:Nat):Int):=by
 induction p generalizing i with
 |nil=>show(0:Rat)=0* _;grind
 |cons a p ih=>
  rw[derL,c8_,bI_];cases i with
  |zero=>rw[ce_];grind
  |succ i=>rw[bI_];grind
theorem a4_(p:List Rat)(x:Rat):evalP (at_ p) x=dvE p x:=by
 rw[←gd_];exact cl_ (fun i=>by rw[bm_,coP_derL]) x
theorem hI_(p q:List Rat)(x:Rat):dvE (mulP p q) x=dvE p x* evalP q x+evalP p x* dvE q x:=by
 rw[←dvE_mulL];exact lB_ (gG_ p q) x
theorem jx_(p:List Rat):trimQ (at_ (aF_ p))=trimQ p:=eo_ fun i=>by
 rw[bm_,bG_]
 have h:(((i+1:Nat):Int):Rat)≠0:=by
  intro e;have h1:((i+1:Nat):Int)=0:=Rat.intCast_inj.1 (e.trans Rat.intCast_zero.symm);omega
 grind
theorem dx_(q:List Rat)(x:Rat):∀p,evalP (compP q p) x=evalP p (evalP q x)
 |[]=>rfl
 |a::p=>by rw[compP,a1_,ak_,fh_,dx_ q x p,ay_]
theorem m4_(o:List Rat)(x v:Rat):∀j,j< o.length→evalP (o.set j v) x=evalP o x+(v- coP o j) * x^ j:=by
 induction o with
 |nil=>grind
 |cons a o ih=>
  intro j h;cases j with
  |zero=>rw[List.set_cons_zero,ay_,ay_,ce_];grind
  |succ j=>rw[List.set_cons_succ,ay_,ay_,bI_];grind
theorem cU_(q:List Rat)(x:Rat)(m:Nat)(h:m< q.length):evalP (q.take (m+1)) x=evalP (q.take m) x+coP q m* x^ m:=by
 induction q generalizing m with
 |nil=>cases h
 |cons a q ih=>
  cases m with
  |zero=>rw[List.take_succ_cons,Rat.pow_zero];show 0* x+a=0+a* 1;grind
  |succ m=>rw[List.take_succ_cons,List.take_succ_cons,ay_,ay_,bI_];grind
theorem rat_pow_add(x:Rat)(n:Nat):∀m,x^ (n+m)=x^ n* x^ m
 :=by grind
theorem kA_(o:List Rat)(k:Rat)(q:List Rat)(n:Nat)(x:Rat)(h:n+q.length≤o.length):∀m,m≤q.length→evalP (rowM o k q n m) x=evalP o x- k* x^ n* evalP (q.take m) x
 |0,_=>by rw[rowM];show _=_- _* 0;grind
 |m+1,hm=>by
  rw[rowM,subAt,m4_ _ _ _ _ (by rw[dt_];omega),kA_ o k q n x h m (by omega),cU_ q x m (by omega)];grind
theorem coP_rowM(o:List Rat)(k:Rat)(q:List Rat)(n m:Nat)(hm:m< q.length)(h:n+q.length≤o.length):coP (rowM o k q n q.length) (n+m)=coP o (n+m)- k* coP q m:=by
 have:∀j,m< j→j≤q.length→coP (rowM o k q n j) (n+m)=coP o (n+m)- k* coP q m:=by
  intro j
  induction j with
  |zero=>grind
  |succ j ih=>
   intro h1 h2;rw[rowM,hf_];by_cases e:m=j;subst e;rw[if_pos ⟨rfl,by rw[dt_];omega⟩,gO_ o k q n m (n+m) (by omega)];grind
 grind
theorem m8_(q:List Rat)(lead:Rat)(hq:q≠[])(hl:coP q (q.length- 1)=lead)(hl0:lead≠0)(x:Rat):∀c u o,(∀i,i< c→coP u i=0)→c≤u.length→c+q.length≤o.length+1→(∀j,c+q.length- 1≤j→coP o j=0)→
    evalP (divR q lead c u o).1 x* evalP q x+evalP (divR q lead c u o).2 x=evalP u x* evalP q x+evalP o x∧∀j,q.length- 1≤j→coP (divR q lead c u o).2 j=0
 |0,u,o,_,_,_,h4=>⟨rfl,fun j hj=>h4 j (by omega)⟩
 |n+1,u,o,h1,h2,h3,h4=>by
  have hlen:=List.length_pos_iff.2 hq;rw[divR];obtain⟨k,hk⟩:∃k,k=coP o (n+q.length- 1) / lead:=⟨_,rfl⟩;rw[←hk];have hkl:k* lead=coP o (n+q.length- 1):=by grind
  have hu:coP u n=0:=h1 n (by omega)
  have ho:evalP (if k=0 then o else rowM o k q n q.length) x=evalP o x- k* x^ n* evalP q x:=by
   by_cases h0:k=0;rw[if_pos h0,h0];grind;rw[if_neg h0,kA_ o k q n x (by omega) _ (Nat.le_refl _),List.take_length]
  obtain⟨e1,e2⟩:=m8_ q lead hq hl hl0 x n (u.set n k) (if k=0 then o else rowM o k q n q.length) (fun i hi=>by
   rw[lF_,if_neg (by omega)];grind) (by grind) (by split <;>(try simp)<;> omega) (fun j hj=>by
   by_cases h0:k=0;rw[if_pos h0];by_cases hj':j=n+q.length- 1;rw[hj',←hkl,h0];grind;exact h4 j (by omega);rw[if_neg h0];by_cases hj':j=n+q.length- 1;have:=coP_rowM o k q n (q.length- 1) (by omega) (by omega);rw[hj',show n+q.length- 1=n+(q.length- 1) by omega,this,hl,hkl,show n+(q.length- 1)=n+q.length- 1 by omega];grind;rw[gO_ o k q n q.length j (by omega)];grind)
  refine⟨?_,e2⟩;rw[e1,ho,m4_ u x k n (by omega),hu];grind
theorem hS_{p:List Rat}{n:Nat}(h:∀j,n≤j→coP p j=0):(trimQ p).length≤n:=by
 apply Nat.le_of_not_lt;intro hn;have h1:=bD_ (l:=p) (n:=(trimQ p).length- 1) (by omega);have h2:trimQ p≠[]:=fun e=>by grind
 have h3:=h ((trimQ p).length- 1) (by omega);rw[←bg_] at h3;unfold coP at h3;rw[List.getD_eq_getElem?_getD,h1] at h3;exact bw_ h2 h3
theorem cm_(p q:List Rat)(hq:trimQ q≠[]):(∀x,evalP (divP p q).1 x* evalP q x+evalP (divP p q).2 x=evalP p x)∧(trimQ (divP p q).2).length< (trimQ q).length:=by
 have hlen:=List.length_pos_iff.2 hq
 have hl:coP (trimQ q) ((trimQ q).length- 1)=leadP q:=by
  have:=bD_ (l:=q) (n:=(trimQ q).length- 1) (by omega);unfold coP;grind
 have hz:∀i m,coP (List.replicate m 0) i=0:=fun i m=>by
  unfold coP;grind
 have key:=fun x (h:(trimQ q).length≤(trimQ p).length+1)=>m8_ (trimQ q) (leadP q) hq hl (bw_ hq) x ((trimQ p).length+1- (trimQ q).length) (List.replicate ((trimQ p).length+1- (trimQ q).length) 0) (trimQ p)
  (fun i _=>hz i _) (by simp) (by omega) (fun j hj=>co_ (by omega))
 by_cases h:(trimQ q).length≤(trimQ p).length+1;refine⟨fun x=>?_,?_⟩;have e:=(key x h).1;unfold divP;rw[bk_,bk_,←bk_ q,e,d4_ (fun i=>hz i _),bk_ p];grind;have e:=(key 0 h).2;unfold divP;rw[aO_];have:=hS_ e;omega;unfold divP;rw[show(trimQ p).length+1- (trimQ q).length=0 by omega];refine⟨fun x=>?_,?_⟩;rw[divR,bk_,bk_,bk_];show 0* _+_=_;grind;rw[divR,aO_,aO_];omega
section
variable (p q r:List Rat)(a b:Rat)
end
def ab(x:Rat):Rat:=if x< 0 then -x else x
theorem ab_nn(x:Rat):0≤ab x:=by unfold ab;split <;> grind
theorem ab_le{x c:Rat}:ab x≤c↔ -c≤x∧x≤c:=by unfold ab;split <;> grind
theorem qb_(x y:Rat):ab (x+y)≤ab x+ab y:=by unfold ab;split <;> split <;> split <;> grind
theorem ab_neg(x:Rat):ab (-x)=ab x:=by unfold ab;split <;> split <;> grind
theorem fY_(x y:Rat):ab (x* y)=ab x* ab y:=by
 have key:∀a b:Rat,0≤a→0≤b→ab (a* b)=a* b:=fun a b ha hb=>by
  have:=Rat.mul_nonneg ha hb;unfold ab;rw[if_neg (by grind)]
 by_cases hx:x< 0;by_cases hy:y< 0;have:=key (-x) (-y) (by grind) (by grind);rw[show x* y= -x* -y by grind,this];unfold ab;rw[if_pos hx,if_pos hy];have:=key (-x) y (by grind) (by grind);rw[show x* y= -(-x* y) by grind,ab_neg,this];unfold ab;rw[if_pos hx,if_neg hy];by_cases hy:y< 0;have:=key x (-y) (by grind) (by grind);rw[show x* y= -(x* -y) by grind,ab_neg,this];unfold ab;rw[if_neg hx,if_pos hy];have:=key x y (by grind) (by grind);rw[this];unfold ab;rw[if_neg hx,if_neg hy]
theorem f6_{a b c d:Rat}(h1:a≤b)(h2:c≤d)(h3:0≤c)(h4:0≤b):a* c≤b* d:=by
 have e1:=Rat.mul_le_mul_of_nonneg_right h1 h3;have e2:=Rat.mul_le_mul_of_nonneg_left h2 h4;grind
def bV(R:Rat):List Rat→Rat
 |[]=>0
 |a::l=>bV R l* R+ab a
theorem bV_nn{R:Rat}(hR:0≤R):∀l,0≤bV R l
 |[]=>by simp[bV]
 |a::l=>by
  have h1:=Rat.mul_nonneg (bV_nn hR l) hR;have h2:=ab_nn a;rw[bV];grind
theorem hc_{R x:Rat}(hR:0≤R)(hx:ab x≤R):∀l,ab (evalP l x)≤bV R l
 |[]=>by rw[ax_,bV];decide
 |a::l=>by
  have h1:=hc_ hR hx l;have h2:=f6_ h1 hx (ab_nn x) (bV_nn hR l);have h3:=qb_ (evalP l x* x) a;rw[fY_] at h3;rw[ay_,bV];grind
def bL(R:Rat):List Rat→Rat
 |[]=>0
 |_::l=>bL R l* R+bV R l
theorem bL_nn{R:Rat}(hR:0≤R):∀l,0≤bL R l
 |[]=>by simp[bL]
 |a::l=>by
  have h1:=Rat.mul_nonneg (bL_nn hR l) hR;have h2:=bV_nn hR l;rw[bL];grind
theorem jp_{R x y:Rat}(hR:0≤R)(hx:ab x≤R)(hy:ab y≤R):∀l,ab (evalP l y- evalP l x)≤bL R l* ab (y- x)
 |[]=>by
  rw[ax_,ax_,bL,Rat.zero_mul];decide+kernel
 |a::l=>by
  have h1:=jp_ hR hx hy l;have h2:=hc_ hR hx l;have e:evalP (a::l) y- evalP (a::l) x=(evalP l y- evalP l x) * y+evalP l x* (y- x):=by rw[ay_,ay_];grind
  have h3:=qb_ ((evalP l y- evalP l x) * y) (evalP l x* (y- x));rw[fY_,fY_] at h3;have hd:=ab_nn (y- x);have h4:=f6_ h1 hy (ab_nn y) (Rat.mul_nonneg (bL_nn hR l) hd);have h5:=Rat.mul_le_mul_of_nonneg_right h2 hd;rw[e,bL];grind
def bT(R:Rat):List Rat→Rat
 |[]=>0
 |_::l=>bT R l* R+bL R l
theorem bT_nn{R:Rat}(hR:0≤R):∀l,0≤bT R l
 |[]=>by simp[bT]
 |a::l=>by
  have h1:=Rat.mul_nonneg (bT_nn hR l) hR;have h2:=bL_nn hR l;rw[bT];grind
theorem m3_{R x y:Rat}(hR:0≤R)(hx:ab x≤R)(hy:ab y≤R):∀l,ab (evalP l y- evalP l x- (y- x) * dvE l x)≤bT R l* (ab (y- x) * ab (y- x))
 |[]=>by
  rw[ax_,ax_,bT,show dvE [] x=0 from rfl,Rat.zero_mul,Rat.mul_zero];decide+kernel
 |a::l=>by
  have h1:=m3_ hR hx hy l;have h2:=jp_ hR hx hy l;have e:evalP (a::l) y- evalP (a::l) x- (y- x) * dvE (a::l) x=(evalP l y- evalP l x- (y- x) * dvE l x) * x+(evalP l y- evalP l x) * (y- x):=by rw[ay_,ay_,ci_];grind
  have h3:=qb_ ((evalP l y- evalP l x- (y- x) * dvE l x) * x) ((evalP l y- evalP l x) * (y- x));rw[fY_,fY_] at h3;have hd:=ab_nn (y- x);have h4:=f6_ h1 hx (ab_nn x) (Rat.mul_nonneg (bT_nn hR l) (Rat.mul_nonneg hd hd));have h5:=Rat.mul_le_mul_of_nonneg_right h2 hd;rw[e,bT];grind
inductive Gsn:Int→List Int→List Int→Prop
 |nil {t:Int}:Gsn t [] []
 |solid {t s:Int} {l l':List Int}:s≠0→Gsn s l l'→Gsn t (s::l) (s::l')
 |weak {t x y:Int} {l l':List Int}:(x=0∨x=t∨x= -t)→(y=0∨y=t∨y= -t)→Gsn (-t) l l'→Gsn t (x:: -t::l) (y:: -t::l')
theorem jH_:∀(l:List Int) (n t:Int),chL l n t=n+chL l 0 t
 |[],n,t=>by simp[chL]
 |s::l,n,t=>by
  unfold chL;by_cases hs:s≠0;rw[if_pos hs,if_pos hs,jH_ l (if s= -t then n+1 else n),jH_ l (if s= -t then 0+1 else 0)];split <;> omega;rw[if_neg hs,if_neg hs];exact jH_ l n t
theorem pR_{t x:Int}(ht:t≠0)(hx:x=0∨x=t∨x= -t)(l:List Int)(n:Int):chL (x:: -t::l) n t=chL l (n+1) (-t):=by
 rcases hx with rfl|rfl|rfl
 rw[chL,if_neg (by simp),chL,if_pos (by omega),if_pos rfl];rw[chL,if_pos ht,if_neg (by omega),chL,if_pos (by omega),if_pos rfl];rw[chL,if_pos (by omega),if_pos rfl,chL,if_pos (by omega),if_neg (by omega)]
theorem pT_{t:Int}{l l':List Int}(h:Gsn t l l'):t≠0→∀n,chL l n t=chL l' n t:=by
 induction h with
 |nil=>exact fun _ _=>rfl
 |solid hs _ ih=>
  intro ht n;rw[chL,if_pos hs,chL,if_pos hs];exact ih hs _
 |weak hx hy _ ih=>
  intro ht n;rw[pR_ ht hx,pR_ ht hy];exact ih (by omega) _
theorem pS_{s:Int}{l l':List Int}(hs:s≠0)(h:Gsn s l l'):chL (s::l) 0 0=chL (s::l') 0 0:=by
 rw[chL,if_pos hs,chL,if_pos hs];exact pT_ h hs _
theorem pU_{s s' t:Int}{l l':List Int}(ht:t=1∨t= -1)(hs: -1≤s∧s≤1)(hs': -1≤s'∧s'≤1)(hm:t* s≤t* s')(h:Gsn t l l'):chL (s'::t::l') 0 0≤chL (s::t::l) 0 0:=by
 have ht0:t≠0:=by omega
 have key:∀(u:Int) (k:List Int),-1≤u∧u≤1→chL (u::t::k) 0 0=(if u= -t then 1 else 0)+chL k 0 t:=fun u k hu=>by
  by_cases h0:u=0;subst h0;rw[chL,if_neg (by simp),chL,if_pos ht0,if_neg (by omega),if_neg (by omega)];omega;rw[chL,if_pos h0,if_neg (by omega),chL,if_pos ht0,jH_];by_cases h1:u= -t;rw[if_pos (by omega),if_pos h1];omega;rw[if_neg (by omega),if_neg h1]
 rw[key s l hs,key s' l' hs',pT_ h ht0 0];rcases ht with rfl|rfl <;> split <;> split <;> omega
theorem num_pos{q:Rat}:0< q.num↔0< q:=by
 have h2:0≤q.num↔0≤q:=Rat.num_nonneg;have h3:q.num=0↔q=0:=Rat.num_eq_zero;grind
theorem hx_{q:List Rat}{x:Rat}(h:0< evalP q x):sgE x q=1:=by
 have:=sgZ_num_gt.2 h;have:=hw_ (evalP q x).num;unfold sgE;omega
theorem kO_{q:List Rat}{x:Rat}(h:evalP q x< 0):sgE x q= -1:=by
 have:=sgZ_num_lt.2 h;have:=hw_ (evalP q x).num;unfold sgE;omega
theorem oI_{q:List Rat}{x:Rat}(h:evalP q x=0):sgE x q=0:=sgZ_num_eq.2 h
theorem es_(x:Rat)(q:List Rat): -1≤sgE x q∧sgE x q≤1:=hw_ _
theorem dE_(x:Rat)(q:List Rat):(sgE x q=1∧0< evalP q x)∨(sgE x q= -1∧evalP q x< 0)∨(sgE x q=0∧evalP q x=0):=by
 by_cases h:0< evalP q x;exact .inl ⟨hx_ h,h⟩;by_cases h':evalP q x< 0;exact .inr (.inl ⟨kO_ h',h'⟩);have e:evalP q x=0:=by grind
 exact .inr (.inr ⟨oI_ e,e⟩)
theorem oJ_{q:List Rat}{x y:Rat}(h:evalP q x≤evalP q y):sgE x q≤sgE y q:=by
 rcases dE_ x q with⟨a,b⟩|⟨a,b⟩|⟨a,b⟩
 rw[a,hx_ (by grind)];decide;have:=es_ y q;omega;by_cases h0:0< evalP q y;rw[a,hx_ h0];decide;rw[a,oI_ (by grind)];decide
theorem part(e:Rat){d:Rat}(he:0< e)(hd:0< d):∃h:Rat,0< h∧h* d=e:=by
 refine⟨e/ d,?_,Rat.div_mul_cancel (by grind)⟩;have e1:e/ d* d=e:=Rat.div_mul_cancel (by grind);by_cases h:0< e/ d;exact h;have h2:e/ d* d≤0* d:=Rat.mul_le_mul_of_nonneg_right (by grind) (by grind);grind
theorem less(a b:Rat)(ha:0< a)(hb:0< b):∃h:Rat,0< h∧h≤a∧h≤b:=by grind
theorem keep(u:List Rat){R e:Rat}(hR:0≤R)(he:0< e):∃h:Rat,0< h∧∀x y:Rat,ab x≤R→ab y≤R→ab (y- x)≤h→e≤ab (evalP u x)→sgE y u=sgE x u∧sgE x u≠0:=by
 have hL:=bL_nn hR u;obtain⟨h,h0,h1⟩:=part e (d:=2* (bL R u+1)) he (by grind);refine⟨h,h0,fun x y hx hy hd ha=>?_⟩;have h2:=jp_ hR hx hy u;have h3:=Rat.mul_le_mul_of_nonneg_left hd hL;have h5:=ab_le (x:=evalP u y- evalP u x) (c:=ab (evalP u y- evalP u x))|>.1 (by grind);rcases dE_ x u with⟨a,b⟩|⟨a,b⟩|⟨a,b⟩
 have h6:ab (evalP u x)=evalP u x:=by unfold ab;grind
 rw[a,hx_ (by grind)];decide;have h6:ab (evalP u x)= -evalP u x:=by unfold ab;grind
 rw[a,kO_ (by grind)];decide;have h6:ab (evalP u x)=0:=by rw[b];decide
 grind
inductive Ch:List Rat→List (List Rat)→Prop
 |one {u:List Rat} {c:Rat}:c≠0→(∀x,evalP u x=c)→Ch u []
 |pair {u v:List Rat}:Ch v []→Ch u [v]
 |step {u v w:List Rat} {L:List (List Rat)} {a c:Rat} {q:List Rat}:0< a→0< c→(∀x,a* evalP u x+c* evalP w x=evalP q x* evalP v x)→Ch v (w::L)→Ch u (v::w::L)
def Cl(u:List Rat)(L:List (List Rat)):Prop:=∀R e:Rat,0≤R→0< e→∃h:Rat,0< h∧∀x y:Rat,ab x≤R→ab y≤R→ab (y- x)≤h→e≤ab (evalP u x)→
 sgE y u=sgE x u∧sgE x u≠0∧Gsn (sgE x u) (L.map (sgE x)) (L.map (sgE y))
theorem Ch.const{v:List Rat}(h:Ch v []):∃c:Rat,c≠0∧∀x,evalP v x=c:=by
 cases h with
 |one hc h=>simp_all
theorem Ch.sg{v:List Rat}(h:Ch v [])(x y:Rat):sgE y v=sgE x v∧sgE x v≠0:=by
 obtain⟨c,hc,h⟩:=h.const;have e:sgE y v=sgE x v:=by unfold sgE;grind
 rcases dE_ x v with⟨a,b⟩|⟨a,b⟩|⟨a,b⟩
 omega;omega;grind
theorem Ch.cl{u:List Rat}{L:List (List Rat)}(H:Ch u L):Cl u L∧∀v L',L=v::L'→Cl v L':=by
 induction H with
 | @one u c hc hu=>
  refine⟨fun R e hR he=>?_,fun _ _ h=>by cases h⟩;obtain⟨h,h0,h1⟩:=keep u hR he;exact⟨h,h0,fun x y hx hy hd ha=>⟨(h1 x y hx hy hd ha).1,(h1 x y hx hy hd ha).2,.nil⟩⟩
 | @pair u v hv ih=>
  refine⟨fun R e hR he=>?_,fun _ _ h=>by grind⟩;obtain⟨h,h0,h1⟩:=keep u hR he;refine⟨h,h0,fun x y hx hy hd ha=>⟨(h1 x y hx hy hd ha).1,(h1 x y hx hy hd ha).2,?_⟩⟩;simp only[List.map_cons,List.map_nil];rw[(hv.sg x y).1];exact .solid (hv.sg x y).2 .nil
 | @step u v w L a c q ha hc hrel hv ih=>
  refine⟨fun R e hR he=>?_,fun _ _ h=>by cases h;exact ih.1⟩;have hQ:=bV_nn hR q;have hae:=Rat.mul_pos ha he;obtain⟨e1,he1,he1'⟩:=part (a* e) (d:=2* (bV R q+1)) hae (by grind);obtain⟨e2,he2,he2'⟩:=part (a* e) (d:=2* c) hae (by grind);obtain⟨h0,p0,k0⟩:=keep u hR he;obtain⟨h1,p1,k1⟩:=ih.1 R e1 hR he1;obtain⟨h2,p2,k2⟩:=ih.2 w L rfl R e2 hR he2;obtain⟨h3,p3,l3,m3⟩:=less h0 h1 p0 p1;obtain⟨h,p,l,m⟩:=less h3 h2 p3 p2;refine⟨h,p,fun x y hx hy hd hu=>?_⟩;obtain⟨s1,s2⟩:=k0 x y hx hy (by grind) hu;refine⟨s1,s2,?_⟩;by_cases hvx:e1≤ab (evalP v x);obtain⟨t1,t2,t3⟩:=k1 x y hx hy (by grind) hvx;simp only[List.map_cons] at t3⊢;rw[t1];exact .solid t2 t3;have b1:=f6_ (hc_ hR hx q) (show ab (evalP v x)≤e1 by grind) (ab_nn _) hQ;rw[←fY_,←hrel x] at b1;have b2:=ab_le.1 b1;have b3:bV R q* e1+e1=a* e/ 2:=by grind
  have key:sgE x w= -sgE x u∧e2≤ab (evalP w x):=by
   rcases dE_ x u with⟨g1,g2⟩|⟨g1,g2⟩|⟨g1,g2⟩
   have g3:ab (evalP u x)=evalP u x:=by unfold ab;rw[if_neg (by grind)]
   rw[g3] at hu;have g4:=Rat.mul_le_mul_of_nonneg_left hu (show 0≤a by grind)
   have g5:evalP w x≤ -e2:=by
    by_cases g:evalP w x≤ -e2;exact g;have:=Rat.mul_pos hc (show 0< evalP w x+e2 by grind);grind
   refine⟨by rw[g1,kO_ (by grind)],?_⟩;unfold ab;rw[if_pos (by grind)];grind;have g3:ab (evalP u x)= -evalP u x:=by unfold ab;rw[if_pos g2]
   rw[g3] at hu;have g4:=Rat.mul_le_mul_of_nonneg_left hu (show 0≤a by grind)
   have g5:e2≤evalP w x:=by
    by_cases g:e2≤evalP w x;exact g;have:=Rat.mul_pos hc (show 0< e2- evalP w x by grind);grind
   refine⟨by rw[g1,hx_ (by grind)];decide,?_⟩;unfold ab;rw[if_neg (by grind)];grind;exact absurd g1 s2
  obtain⟨t1,t2,t3⟩:=k2 x y hx hy (by grind) key.2;simp only[List.map_cons];rw[t1,key.1];rw[key.1] at t3;have c1:=es_ x u;have c2:=es_ x v;have c3:=es_ y v;exact .weak (by omega) (by omega) t3
theorem Ch.bez{u:List Rat}{M:List (List Rat)}(H:Ch u M):∀v L,M=v::L→∃a b:List Rat,∀x,evalP a x* evalP u x+evalP b x* evalP v x=1:=by
 induction H with
 |one hc hu=>grind
 | @pair u v hv ih=>
  intro v' L h;cases h;obtain⟨c,hc,h⟩:=hv.const;refine⟨[],[1/ c],fun x=>?_⟩;rw[ay_,ax_];grind
 | @step u v w L a c q ha hc hrel hv ih=>
  intro v' L' h;obtain⟨a',b',h⟩:=ih w L rfl;refine⟨av_ b' (-(a/ c)),addP a' (av_ (mulP b' q) (1/ c)),fun x=>?_⟩;rw[as_,a1_,as_,ak_];grind
end Go.Abs
